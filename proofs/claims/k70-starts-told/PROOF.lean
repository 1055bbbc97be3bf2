import PyProof.Rows.All
import Wide.All
import OpenK.AllK
import Wide.FinOn
import KE.KStateDown
import HandS.ForMost
import HandS.ForExc
import HandS.More
import HandS.Defaults
import HandS.MakeKwOnly
import HandS.IsInst
import HandS.ExcInit
import HandS.ExcIs
import HandS.ExcField
import HandS.CallSlots
import HandS.Wide
import HandS.Head0
import HandS.Head1
import HandS.Head2
import HandS.HeadEnd
import HandS.HeadHook1
import HandS.HeadHook2
import HandS.HeadHook3
import HandS.HeadHook4
import PyProof.StrOps2
import HandS.Deep
import HandS.DictTup
import HandS.ListItems
import KE.KDictCopyH
import PySem.Challenge.RW_fellwhere_k70_starts_told
set_option Elab.async false
set_option linter.all false
set_option maxRecDepth 100000
set_option maxHeartbeats 4000000
/-! part A: what the top leaves -/
namespace Fw
open PySem PySem.Spec PyProof.Rows L2

/-! ### a def's data by its address -/
def fdOf (K : PySem.W.Frag) (f : Addr) : FuncData := match K.lookup f with
  | some ⟨_, _, .func fd, _⟩ => fd
  | _ => PySem.W.fnOf "" "" { posonlyargs := [], args := [], vararg := none, kwonlyargs := [], kw_defaults := [], kwarg := none, defaults := [] } [] { kind := .function, names := [], isGenerator := false, isCoroutine := false } .none .none .none .none none .none .none
theorem funD_fd {K : PySem.W.Frag} {x qual : Str} {params : Arguments} {body : List Stmt} {scope : Scope} {dvs : List V} {kws : List (Str × V)} {f : Addr} (h : ∃ fd, FunD K x qual params body scope dvs kws f fd) :
    FunD K x qual params body scope dvs kws f (fdOf K f) := by
  obtain ⟨fd, F⟩ := h
  have e : fdOf K f = fd := by
    obtain ⟨oc, od, dV, kV, doc, pm, an, cdv, ct, osl, e1, lk, _⟩ := F.ex
    unfold fdOf
    rw [lk]
  rw [e]
  exact F
/-- the keyword-only default of a name, where it is an object -/
def kwAt (p : Str × Option Str) (x : Str) (K : PySem.W.Frag) : Addr := match K.lookup (He.fAd K p) with
  | some ⟨_, _, .func fd, _⟩ => (match fd.kwdefaults with
    | .ref D => (match PySem.W.nsIn K D x with
      | some (some (.ref a)) => a
      | _ => 0)
    | _ => 0)
  | _ => 0

/-! ### exception classes -/
def excNames : List Str := ["at", "part", "place", "name", "tag", "first"]
def excCls (K : PySem.W.Frag) (C : Addr) : Bool := match K.lookup C with
  | some ⟨.type "type", _, .cls cd, sl⟩ => (match cd.mro, sl.toList with
    | .ref C' :: bm, [_, _, _, _, some (.builtin n), _] => C' == C && (n == "ValueError.__new__" && (!cd.hasDel && (cd.hasDict && PySem.HandSPX.refsVE bm)))
    | _, _ => false)
  | _ => false
def exc1 (K : PySem.W.Frag) (x : Str) : Bool :=
  excCls K (He.ga K x) && (He.eqO (PySem.W.findIn K (.ref (He.ga K x)) "__setattr__") (some (some (.builtin "object.__setattr__"))) &&
  (He.eqO (PySem.W.findIn K (.ref (He.ga K x)) "__getattribute__") (some (some (.builtin "BaseException.__getattribute__"))) &&
  (He.eqO (PySem.W.findIn K (.ref (He.ga K x)) "__getattr__") (some none) &&
  (He.eqO (PySem.W.findIn K (.ref (He.ga K x)) "__class__") (some (some (.builtin "object.__class__"))) &&
  (decide (PySem.W.subIn K (.ref (He.ga K x)) (.type "BaseException") = some true) &&
  (decide (PySem.W.typeIn K (.ref (He.ga K x)) = some (.type "type")) &&
  (PySem.W.keepIn K (.ref (He.ga K x)) &&
  (decide (PySem.W.mroIn K (He.ga K x) (.type "object") = some true) &&
  (excNames.all fun n => He.eqO (PySem.W.findIn K (.ref (He.ga K x)) n) (some none))))))))))
/-- x has an __init__ of its own -/
def excI (K : PySem.W.Frag) (x : Str) : Bool :=
  He.eqO (PySem.W.findIn K (.ref (He.ga K x)) "__init__") (some (some (.ref (He.ma K (He.ga K x) "__init__")))) && decide (PySem.W.typeIn K (.ref (He.ma K (He.ga K x) "__init__")) = some (.type "function"))
/-- x is y or comes of it, by the text -/
def excP (K : PySem.W.Frag) (ps : List (Str × Str × Bool)) : Bool := ps.all fun p => decide (PySem.W.exmOne K (.ref (He.ga K p.1)) (.ref (He.ga K p.2.1)) = some p.2.2) && decide (PySem.W.kitOne K (.ref (He.ga K p.1)) (.ref (He.ga K p.2.1)) = some p.2.2)
/-- FellError.__init__ is ValueError's -/
def fellB (K : PySem.W.Frag) : Bool := PySem.W.readsIn K (He.ga K "FellError") (.type "type") && (He.eqO (PySem.W.specialIn K (.ref (He.ga K "FellError")) "__getattribute__") (some (some (.builtin "type.__getattribute__"))) && (
  match PySem.W.findCls K (.ref (He.ga K "FellError")) (.type "type") "__init__" with
  | some (.val (.builtin b)) => b == "ValueError.__init__"
  | _ => false))
structure Fell (K : PySem.W.Frag) (C : Addr) : Prop where
  rd : PySem.W.readsIn K C (.type "type") = true
  ga : PySem.W.specialIn K (.ref C) "__getattribute__" = some (some (.builtin "type.__getattribute__"))
  at_ : PySem.W.findCls K (.ref C) (.type "type") "__init__" = some (.val (.builtin "ValueError.__init__"))
theorem fellB_ok {K : PySem.W.Frag} (h : fellB K = true) : Fell K (He.ga K "FellError") := by
  obtain ⟨h1, h⟩ := Bool.and_eq_true_iff.mp h
  obtain ⟨h2, h3⟩ := Bool.and_eq_true_iff.mp h
  refine ⟨h1, He.eqO_ok h2, ?_⟩
  split at h3
  · rename_i b e
    rw [e, beq_iff_eq.mp h3]
  · cases h3
def exOk (K : PySem.W.Frag) (xs is : List Str) (ps : List (Str × Str × Bool)) : Bool :=
  (xs.all fun x => exc1 K x) && ((is.all fun x => excI K x) && (excP K ps && (
  decide (PySem.W.specialIn K (.builtin "object.__class__") "__get__" = some (some (.builtin "getset_descriptor.__get__"))) && (decide (PySem.W.takesIn K (.builtin "object.__class__") = some true) && fellB K))))
theorem ba {a b : Bool} (h : (a && b) = true) : a = true ∧ b = true := Bool.and_eq_true_iff.mp h
structure Exc1 (K : PySem.W.Frag) (C : Addr) : Prop where
  o : OexC K C
  x : XfC K C
  e : ExcC K C
  no : ∀ n ∈ excNames, PySem.W.findIn K (.ref C) n = some none
theorem excCls_ok {K : PySem.W.Frag} {C : Addr} (q : excCls K C = true) : (∃ nm q N bs bm sn sub ab col dd k0 k1 k2 k3 k5, K.lookup C = some (excClassObj nm q C N bs bm true sn sub ab col dd k0 k1 k2 k3 k5 "ValueError.__new__") ∧ PySem.HandSPX.refsVE bm = true) ∧ PySem.W.hasDictIn K C = true := by
  unfold excCls at q
  split at q
  · rename_i dd cd sl ho
    split at q
    · rename_i C' bm k0 k1 k2 k3 n k5 hm hs
      obtain ⟨q1, q⟩ := ba q
      obtain ⟨q2, q⟩ := ba q
      obtain ⟨q3, q⟩ := ba q
      obtain ⟨q4, q5⟩ := ba q
      have e1 : C' = C := beq_iff_eq.mp q1
      have e2 : n = "ValueError.__new__" := beq_iff_eq.mp q2
      obtain ⟨nm, bs, mro, ns, qn, hd, sn, sub, ab, col, del⟩ := cd
      dsimp only at hm q3 q4
      have e3 : del = false := by simpa using q3
      have hsl : sl = #[k0, k1, k2, k3, some (.builtin n), k5] := by
        obtain ⟨l⟩ := sl
        simp only at hs
        rw [hs]
      subst e1 e2 hm e3 hsl
      have e4 : hd = true := q4
      subst e4
      refine ⟨⟨nm, qn, ns, bs, bm, sn, sub, ab, col, dd, k0, k1, k2, k3, k5, ho, q5⟩, ?_⟩
      unfold PySem.W.hasDictIn PySem.W.clsIn
      rw [ho] <;> rfl
    · cases q
  · cases q
section
variable {K : PySem.W.Frag} {xs is : List Str} {ps : List (Str × Str × Bool)}
theorem exOk_1 (h : exOk K xs is ps = true) {x : Str} (hx : x ∈ xs) : Exc1 K (He.ga K x) := by
  obtain ⟨h1, h⟩ := ba h
  obtain ⟨_, h⟩ := ba h
  obtain ⟨_, h⟩ := ba h
  obtain ⟨g1, h⟩ := ba h
  obtain ⟨g2, _⟩ := ba h
  have q := List.all_eq_true.mp h1 x hx
  obtain ⟨q1, q⟩ := ba q
  obtain ⟨q2, q⟩ := ba q
  obtain ⟨q3, q⟩ := ba q
  obtain ⟨q4, q⟩ := ba q
  obtain ⟨q5, q⟩ := ba q
  obtain ⟨q6, q⟩ := ba q
  obtain ⟨q7, q⟩ := ba q
  obtain ⟨q8, q⟩ := ba q
  obtain ⟨q9, q10⟩ := ba q
  obtain ⟨c1, c2⟩ := excCls_ok q1
  exact ⟨⟨c1, He.eqO_ok q2, of_decide_eq_true q6, of_decide_eq_true q7, q8⟩, ⟨He.eqO_ok q3, He.eqO_ok q4, of_decide_eq_true q6, c2⟩,
    ⟨He.eqO_ok q3, He.eqO_ok q4, of_decide_eq_true q6, c2, He.eqO_ok q5, of_decide_eq_true g1, of_decide_eq_true g2, of_decide_eq_true q9⟩, fun n hn => He.eqO_ok (List.all_eq_true.mp q10 n hn)⟩
theorem exOk_fell (h : exOk K xs is ps = true) : Fell K (He.ga K "FellError") := by
  obtain ⟨_, h⟩ := ba h
  obtain ⟨_, h⟩ := ba h
  obtain ⟨_, h⟩ := ba h
  obtain ⟨_, h⟩ := ba h
  obtain ⟨_, h⟩ := ba h
  exact fellB_ok h
theorem exOk_i (h : exOk K xs is ps = true) {x : Str} (hx : x ∈ is) : PySem.W.findIn K (.ref (He.ga K x)) "__init__" = some (some (.ref (He.ma K (He.ga K x) "__init__"))) ∧ PySem.W.typeIn K (.ref (He.ma K (He.ga K x) "__init__")) = some (.type "function") := by
  obtain ⟨_, h⟩ := ba h
  obtain ⟨h1, h⟩ := ba h
  obtain ⟨q1, q2⟩ := ba (List.all_eq_true.mp h1 x hx)
  exact ⟨He.eqO_ok q1, of_decide_eq_true q2⟩
theorem exOk_p (h : exOk K xs is ps = true) {x y : Str} {b : Bool} (hx : (x, y, b) ∈ ps) : PySem.W.exmOne K (.ref (He.ga K x)) (.ref (He.ga K y)) = some b ∧ PySem.W.kitOne K (.ref (He.ga K x)) (.ref (He.ga K y)) = some b := by
  obtain ⟨_, h⟩ := ba h
  obtain ⟨_, h⟩ := ba h
  obtain ⟨h1, h⟩ := ba h
  obtain ⟨q1, q2⟩ := ba (List.all_eq_true.mp h1 _ hx)
  exact ⟨of_decide_eq_true q1, of_decide_eq_true q2⟩
end
end Fw

set_option Elab.async false
set_option linter.all false
set_option maxRecDepth 100000
set_option maxHeartbeats 4000000
/-! part B: the head's Hook: of the heap only what is asked for -/
namespace Fw
open PySem PySem.Spec PyProof.Rows L2
/-! ### a number reckoned at once -/
def fN {α : Type} (n : Nat) (k : Nat → α) : α := match n with
  | 0 => k 0
  | m + 1 => k (m + 1)
def fL {α : Type} : List Addr → (List Addr → α) → α
  | [], k => k []
  | a :: r, k => fN a fun a => fL r fun r => k (a :: r)
/-- what the module's names are: the names in order, with the address of what stands there -/
def nsOf (o : Option Obj) : List DictEntry := match o with
  | some ⟨_, _, .dict es _, _⟩ => es.toList
  | _ => []
/-- the classes' objects and namespaces -/
def clsAs (g : Addr → Option Obj) (C : Addr) : List Addr := match g C with
  | some ⟨_, _, .cls cd, _⟩ => [C, cd.ns]
  | _ => []
def fnAs (g : Addr → Option Obj) (f : Addr) : List Addr := match g f with
  | some ⟨_, _, .func fd, _⟩ => f :: (He.refV fd.code ++ (He.refV fd.defaults ++ He.refV fd.kwdefaults))
  | _ => []
def asN (g : Addr → Option Obj) (cs : List Str) (fs : List (Str × Option Str)) : List Addr :=
  fL (cs.map fun c => He.ga (He.frG g [mainGlobals]) c) fun ca => fL (ca.flatMap (clsAs g)) fun cb =>
  fL (fs.map fun p => He.fAd (He.frG g (mainGlobals :: cb)) p) fun fa => fL (fa.flatMap (fnAs g)) fun fb => mainGlobals :: cStatics :: (cb ++ fb)
abbrev AlN : Type := He.AlD × Bool
def obsN (cs : List Str) (fa : List He.Fa) (fn : List He.DefD) (ex : PySem.W.Frag → Bool) (g : Addr → Option Obj) : AlN :=
  (He.obsD fa fn (He.frG g (asN g cs (fn.map fun d => d.at_))), ex (He.frG g (asN g cs (fn.map fun d => d.at_))))
def hookN (cs : List Str) (fa : List He.Fa) (fn : List He.DefD) (ex : PySem.W.Frag → Bool) : PySem.W.Hook where
  α := AlN
  obs := fun s => obsN cs fa fn ex s.heap.get?
  val := fun _ => (He.valD fn, true)
  says := fun _ h => ∃ K : PySem.W.Frag, K.In h ∧ He.SaysD fa fn K ∧ ex K = true
  of := fun _ _ e => ⟨_, He.frG_in, congrArg (fun z : AlN => z.1) e, congrArg (fun z : AlN => z.2) e⟩
  keeps := fun _ _ _ ⟨K, hK, c⟩ k => ⟨K, PySem.W.Frag.In.keeps hK k, c⟩
theorem obsN_eq {cs : List Str} {fa : List He.Fa} {fn : List He.DefD} {ex : PySem.W.Frag → Bool} {g : Addr → Option Obj} {s : Shared} (h : ∀ a, g a = s.heap.get? a) : obsN cs fa fn ex g = (hookN cs fa fn ex).obs s := by
  have e : g = s.heap.get? := funext h
  rw [e] <;> rfl
end Fw

set_option Elab.async false
set_option linter.all false
set_option maxRecDepth 100000
set_option maxHeartbeats 4000000
/-! part C: further rules -/
namespace PySem.W
open PySem PySem.Spec PySem.Calls PyProof.Rows
section
variable {prog : Program} {w : World} {A : Around} {E : Value → Shared → Prop} {s : Shared} {K : Frag} {x D : Addr} {ox od : Obj}
theorem fw_find {C : Addr} {name : Str} {a g : Value} (hc : (clsIn K C).isSome = true) (ha : findIn K (.ref C) name = some (some a)) (hg : specialIn K a "__get__" = some (some g)) (ht : takesIn K a = some true) : findObj K C (some od) name = some (.bind g a) := by
  obtain ⟨cd, hc⟩ := Option.isSome_iff_exists.mp hc
  unfold findObj
  rw [hc, Option.bind_some, ha, Option.bind_some]
  simp [hg, ht]
theorem fw_classE {Q : Option Value → Shared → Prop} (hga : findIn K (.ref D) "__getattribute__" = some (some (.builtin "BaseException.__getattribute__"))) (hgt : findIn K (.ref D) "__getattr__" = some none) (hsub : subIn K (.ref D) (.type "BaseException") = some true)
    (hdct : hasDictIn K D = true) (ha : findIn K (.ref D) "__class__" = some (some (.builtin "object.__class__")))
    (hn : specialIn K (.builtin "object.__class__") "__get__" = some (some (.builtin "getset_descriptor.__get__"))) (htk : takesIn K (.builtin "object.__class__") = some true) (hm : mroIn K D (.type "object") = some true)
    (X : K.In s.heap) (I : InstAt s.heap x ox D (some od)) (h : Q (some (.ref D)) { s with toks := s.toks + 1 }) : wpAny (model prog w) A (getAttr? (.ref x) "__class__") Q E s := by
  have hf : findObj K D (some od) "__class__" = some (.bind (.builtin "getset_descriptor.__get__") (.builtin "object.__class__")) := fw_find (by obtain ⟨cd, hc, _⟩ := any_some hdct; rw [hc]; rfl) ha hn htk
  obtain ⟨hp, g, d, t, os⟩ := s
  have L0 := I.type (M := model prog w)
  have L1 := looks_findIn (M := model prog w) X hga
  have L2 := looks_findIn (M := model prog w) X hgt
  have L3 := looks_find (M := model prog w) X I hf
  have sub : Looks (model prog w) hp (isInstance (.ref x) (.type "BaseException")) true := L0.andThen (looks_subIn X hsub)
  have hx0 : (false && onTheHeap (Value.builtin "BaseException.__getattribute__")) = false := rfl
  have hx2 : (Value.builtin "BaseException.__getattribute__" == Value.builtin "object.__getattribute__") = false := by decide +kernel
  have hx1 : (onTheHeap (Value.ref D) && Value.builtin "BaseException.__getattribute__" == Value.builtin "object.__getattribute__") = false := by rw [hx2]; rfl
  unfold getAttr? getAttrBy? getAttrBy
  refine wpAny_bind (wpAny_mkText (wpAny_bind (wpAny_attempt (wpAny_holding (wpAny_bind (L0.at (wpAny_bind (L1.at ?_))))))))
  show wpAny _ _ (if (onTheHeap (Value.ref D) && Value.builtin "BaseException.__getattribute__" == Value.builtin "object.__getattribute__") = true then _ else _) _ _ _
  rw [hx1, if_neg Bool.false_ne_true]
  unfold getAttrByItsOwn hookBefore
  refine wpAny_bind ?_
  rw [if_pos (show onTheHeap (Value.ref D) = true from rfl)]
  refine L2.at ?_
  refine wpAny_bind (wpAny_attempt (wpAny_holding ?_))
  unfold callGetattribute
  rw [hx0, if_neg Bool.false_ne_true]
  unfold boundAndCalled
  rw [PySem.F.excAttr_ValueError.ga.bind (.ref x)]
  refine wpAny_bind (wpAny_pure ?_)
  show wpAny _ _ (call (.builtin "BaseException.__getattribute__") [.ref x, .str "__class__" t]) _ _ _
  refine wpAny_call (codeAny_call_builtin PySem.F.excAttr_ValueError.ga.plain PySem.F.entry_bexc_ga ?_)
  refine @check_slot (model prog w) _ _ ⟨hp, g, d, t + 1, os⟩ "BaseException.__getattribute__" "BaseException" "__getattribute__" (.ref x) [.str "__class__" t] [] _ (by decide +kernel) (by decide +kernel) sub (PySem.F.args_bexc_ga (.ref x) (.str "__class__" t)) ?_
  unfold Builtin.«object.__getattribute__»
  refine wpAny_bind (wpAny_of_eq (a := ((Value.ref x : Value), [Value.str "__class__" t])) (by first | rfl | (simp only [slotArgs]; rfl)) ?_)
  refine wpAny_bind (wpAny_pure (wpAny_bind (L0.at (wpAny_bind (L3.at ?_)))))
  show wpAny _ _ (holding [Value.builtin "object.__class__"] (call (.builtin "getset_descriptor.__get__") [.builtin "object.__class__", .ref x, .ref D]) >>= ret) _ _ _
  refine wpAny_bind (wpAny_holding (wpAny_call (class_get (s := ⟨hp, g, d, t + 1, os⟩) (ox := ox) (od := some od) X I hm ?_)))
  refine wpAny_pure ?_
  show wpAny _ _ (handedOut (.ref D)) _ _ _
  rw [handedOut_of (v := .ref D) rfl]
  first
    | exact wpAny_pure (wpAny_pure h)
    | exact wpAny_pure h
    | exact wpAny_pure (wpAny_bind (wpAny_pure (wpAny_pure h)))
theorem fw_kitx (hga : findIn K (.ref D) "__getattribute__" = some (some (.builtin "BaseException.__getattribute__"))) (hgt : findIn K (.ref D) "__getattr__" = some none) (hsub : subIn K (.ref D) (.type "BaseException") = some true) (hdct : hasDictIn K D = true) (ha : findIn K (.ref D) "__class__" = some (some (.builtin "object.__class__")))
    (hn : specialIn K (.builtin "object.__class__") "__get__" = some (some (.builtin "getset_descriptor.__get__"))) (htk : takesIn K (.builtin "object.__class__") = some true) (hm : mroIn K D (.type "object") = some true) :
    KitX K (.ref x) (.ref D) (fun h => InstAt h x ox D (some od)) where
  ty := fun _ _ _ I => I.type
  it := fun _ _ X _ => by
    obtain ⟨cdD, hcD, _⟩ := any_some hdct
    unfold clsIn at hcD
    split at hcD
    · rename_i c' d' cd' sl' ho
      intro A' Q' E' s' k q
      unfold isType loadHead
      exact wpAny_bind (wpAny_loadPart (k _ _ (X _ _ ho)) (wpAny_pure q))
    · cases hcD
  ne := fun h tp dd its n sl X htp => by
    obtain ⟨cdD, hcD, _⟩ := any_some hdct
    refine Bool.eq_false_iff.mpr fun q => ?_
    have e : D = tp := Value.ref.inj (beq_iff_eq.mp q)
    subst e
    unfold clsIn at hcD
    split at hcD
    · rename_i c' d' cd' sl' ho
      have z := (X _ _ ho).symm.trans htp
      cases z
    · cases hcD
  ca := fun X I k => fw_classE hga hgt hsub hdct ha hn htk hm X I k
end
end PySem.W
namespace Fw
open PySem PySem.Spec PyProof.Rows L2

/-! ### isinstance of the exception that a suite holds, with a dict of its own -/
section
variable {X : Cx} {a D dd : Addr} {oe : Obj} {pn : List (Addr × Obj)}
theorem inst_suite {pins : List (Addr × Obj)} {σ : L2.St} {H : Hp} {s : Shared} {fs : List (Str × V)} (hz : Zc (.ref D) (some dd) oe) (hf : ∃ vs, oe.data = .fields vs) (I : Inv (X.suite a ((a, oe) :: pn)) pins σ H s) (hx : H dd = some (.xd fs)) :
    ∃ od, PySem.W.InstAt s.heap a oe D (some od) := by
  obtain ⟨ha, _⟩ := I.pin (a, oe) (List.mem_append_left _ List.mem_cons_self)
  obtain ⟨vs, hd⟩ := hf
  obtain ⟨mA, hns, hr⟩ := (show ObjOk X.prog X.w H s.heap dd (.xd fs) from I.hok dd _ hx)
  obtain ⟨od, ho, hl⟩ := lookIn_ns hns
  exact ⟨od, ha, hz.1, by unfold PySem.W.notCls; rw [hd] <;> rfl, by rw [hz.2]; exact ho⟩
/-- isinstance(e, c) -/
def rIsX (K : PySem.W.Frag) (D a dd : Addr) : List V → Hp → VK → Prop := fun xs H Q => ∃ (C : Addr) (b : Bool) (fs : List (Str × V)), xs = [.ref a, .ref C] ∧ H dd = some (.xd fs) ∧ PySem.W.kitOne K (.ref D) (.ref C) = some b ∧ Q (.bl b) H
theorem call_isX (C : ExcC X.K D) (hz : Zc (.ref D) (some dd) oe) (hf : ∃ vs, oe.data = .fields vs) : CallR (X.suite a ((a, oe) :: pn)) (.builtin "isinstance") (rIsX X.K D a dd) := by
  intro pins s σ H xs us Q I r h
  obtain ⟨c, b, fs, rfl, hx, e, q⟩ := h
  obtain ⟨u1, u2, rfl, r1, r2⟩ := vals2 r
  cases (show u1 = Value.ref a from r1)
  cases (show u2 = Value.ref c from r2)
  obtain ⟨od, J⟩ := inst_suite hz hf I hx
  exact PySem.W.kia_one (PySem.W.fw_kitx C.hg C.hk C.hs C.hd C.ha C.hn C.ht C.hm) I.kIn J e (fun z => nomatch z) fun tk => ⟨.bl b, H, I.kept (t' := tk) fun _ _ z => z, rfl, q⟩
/-- isinstance(e, (c1, c2, ..)), the tuple just laid -/
def rIsXT (K : PySem.W.Frag) (D a dd : Addr) : List V → Hp → VK → Prop := fun xs H Q => ∃ (tp : Addr) (cs : List Addr) (b : Bool) (fs : List (Str × V)), xs = [.ref a, .ref tp] ∧ H tp = some (.tup (cs.map V.ref)) ∧ H dd = some (.xd fs) ∧ PySem.W.kitAny K (.ref D) (cs.map Value.ref) = some b ∧ Q (.bl b) H
theorem vals_refs : ∀ {cs : List Addr} {us : List Value}, Vals (cs.map V.ref) us → us = cs.map Value.ref
  | [], _, .nil => rfl
  | c :: cs, _, .cons r t => by
    rw [vals_refs t]
    exact congrArg (· :: cs.map Value.ref) r
theorem call_isXT (C : ExcC X.K D) (hz : Zc (.ref D) (some dd) oe) (hf : ∃ vs, oe.data = .fields vs) : CallR (X.suite a ((a, oe) :: pn)) (.builtin "isinstance") (rIsXT X.K D a dd) := by
  intro pins s σ H xs us Q I r h
  obtain ⟨tp, cs, b, fs, rfl, hT, hx, e, q⟩ := h
  obtain ⟨u1, u2, rfl, r1, r2⟩ := vals2 r
  cases (show u1 = Value.ref a from r1)
  cases (show u2 = Value.ref tp from r2)
  obtain ⟨od, J⟩ := inst_suite hz hf I hx
  obtain ⟨_, its, rv, o, h1, h2, n, h3⟩ := (show ObjOk X.prog X.w H s.heap tp (.tup (cs.map V.ref)) from I.hok tp _ hT)
  have e3 := vals_refs rv
  subst e3
  obtain ⟨oc, od', dt, sl⟩ := o
  simp only at h2 h3
  subst h2 h3
  exact PySem.W.kia_tup (PySem.W.fw_kitx C.hg C.hk C.hs C.hd C.ha C.hn C.ht C.hm) I.kIn J h1 e (fun z => nomatch z) fun tk => ⟨.bl b, H, I.kept (t' := tk) fun _ _ z => z, rfl, q⟩
end

/-! ### FellError.__init__(self, ..) -/
section
variable {X : Cx} {e : Expr} {es : List Expr} {ta : TA} {p1 p2 pos : Pos}
theorem pe_fellinit {B : Addr} {x : Str} {pl : Sem Bool} (hg : Gl X x) (hm : X.mg x = some (.ref B)) (F : Fell X.K B) (ha : PA X (e :: es) ta)
    (hc : eval (.Call (.Attribute (.Name x p1) "__init__" p2) (e :: es) [] pos) X.env = (do
      let ov ← eval (.Name x p1) X.env
      standAt p2.atName
      let (f, first) ← holding [ov] (getMethod ov "__init__" pl)
      callWith pos f first (backTo pos (starEach (e :: es) X.env)) (backToKw pos (keywordEach [] X.env))) := by rfl)
    (hdb : (x == ("__debug__" : Str)) = false := by decide)
    (he : starEach (e :: es) X.env = (false, eval e X.env) :: starEach es X.env := by rfl) (hpl : (backTo pos (starEach es X.env)).any (·.1) = false := by rfl) :
    PE X (.Call (.Attribute (.Name x p1) "__init__" p2) (e :: es) [] pos) (tVeI X.K ta) := by
  refine ⟨fun pins s σ H Q I h => ?_⟩
  refine PySem.W.methodCall_KW (ld_glob I hg hm ?_ hdb) hc
  refine PySem.W.method_cls I.kIn F.ga (PySem.W.cls_value I.kIn F.rd F.at_ (by decide +kernel) ?_)
  show wpAny _ _ (callWith pos (Value.builtin "ValueError.__init__") [] (backTo pos (starEach (e :: es) X.env)) []) _ _ _
  refine PyProof.Rows.callWith_method1 (thn (ha.run pos pins _ σ H _ (I.tok _) h) fun us s1 ⟨vs, H1, I1, r1, a, C, ws, ev, hl, T, ea, q⟩ => ?_) he hpl
  subst ev
  cases r1 with
  | @cons _ u0 _ ur ra rw' =>
    obtain rfl : u0 = Value.ref a := ra
    have hlen : ur.length ≤ sizeLine := by
      rw [← Paired.length rw', sizeLine_eq]
      omega
    exact oinit_ok T I1 ea hlen fun s' J => ⟨.non, H1, J, rfl, q⟩
end

/-! ### a method called with keywords; the wish at the slots -/
section
variable {X : Cx} {CX : CXT} {k n : Nat} {C f : Addr} {fd : FuncData} {ps ks : List Str} {sp : Sp} {E : L2.St → XK} {m : Str} {apos pos : Pos} {o e : Expr} {es : List Expr} {kws : List Keyword} {to : TE} {t tk : TA} {g : List Value → List Value → List Value} {gV : List V → List V → List V}
theorem run_fnNS {pins : List (Addr × Obj)} {σ : L2.St} {H : Hp} {s : Shared} {Q : VK} {us ws : List Value} {vs zs : List V} (F : FnOk X.prog X.w X.K X.mg X.base CX k f fd ps sp) (hr : Room k X.A) (hb : KBn X.K fd ps n ks g gV) (hx : PassesAt CX X σ (E σ))
    (I : Inv X pins σ H s) (r : Vals vs us) (rz : Vals zs ws) (l1 : vs.length = n) (l2 : zs.length = ks.length) (h : sp (gV vs zs) H Q (E σ)) : wpAny (model X.prog X.w) X.A (call (.ref f) us (ks.zip ws)) (EP X pins σ Q) X.xe s := by
  have r2 := hb.rel r rz
  refine wpAny_call (codeAny_mono (F.run X.A X.stack s H ⟨us, ks.zip ws⟩ (g us ws) (gV vs zs) Q (E σ) hr I.env0 (hb.to s us ws I.kIn (r.length.symm.trans l1) (rz.length.symm.trans l2)) r2 h) fun r s' hq => ?_)
  cases r with
  | error e => exact hx pins H s e s' I hq
  | ok fl =>
    cases fl with
    | ret u => exact I.after hq
    | next => exact False.elim hq
    | brk => exact False.elim hq
    | cont => exact False.elim hq
def tMethN (C : Addr) (m : Str) (n k : Nat) (sp : Sp) (gV : List V → List V → List V) (E : L2.St → XK) (to : TE) (t tk : TA) : TE := fun σ H Q => to σ H fun x H1 => ∃ a dx fs, x = .ref a ∧ H1 a = some (.ins C dx fs) ∧ fs.lookup m = none ∧
  t σ H1 fun vs H2 => tk σ H2 fun zs H3 => vs.length + 1 = n ∧ zs.length = k ∧ sp (gV (.ref a :: vs) zs) H3 Q (E σ)
theorem pe_methN {pl : Sem Bool} (he : PE X o to) (c : Cls X.K C) (hm : Meth X.K C m f) (F : FnOk X.prog X.w X.K X.mg X.base CX k f fd ps sp) (hr : Room k X.A) (hb : KBn X.K fd ps n ks g gV) (hx : ∀ σ, PassesAt CX X σ (E σ)) (ha : PA X (e :: es) t) (hkw : PK X kws tk)
    (hall : (backToKw pos (keywordEach kws X.env)).all (·.1.isSome) = true := by rfl) (hks : (backToKw pos (keywordEach kws X.env)).filterMap (·.1) = ks := by rfl)
    (hst : starEach (e :: es) X.env = (false, eval e X.env) :: starEach es X.env := by rfl) (hpl : ((backTo pos (starEach (e :: es) X.env)).any (·.1) || (backToKw pos (keywordEach kws X.env)).any (·.1.isNone)) = false := by rfl)
    (ht : eval (.Call (.Attribute o m apos) (e :: es) kws pos) X.env = (do
      let ov ← eval o X.env
      standAt apos.atName
      let (f, first) ← holding [ov] (getMethod ov m pl)
      callWith pos f first (backTo pos (starEach (e :: es) X.env)) (backToKw pos (keywordEach kws X.env))) := by rfl) :
    PE X (.Call (.Attribute o m apos) (e :: es) kws pos) (tMethN C m n ks.length sp gV E to t tk) := by
  refine ⟨fun pins s σ H Q I h => ?_⟩
  refine PySem.W.methodCall_KW (pl := pl) (thn (he.run pins s σ H _ I h) fun u s1 ⟨x, H1, I1, rx, a, dx, fs, ex, ea, l, q⟩ => ?_) ht
  subst ex
  obtain rfl : u = Value.ref a := rx
  refine getmeth_ok I1 ea c hm l ?_
  refine PySem.W.callWith_KW (first := [.ref a]) (h₀ := X.base) I.ok.mod.kin hm.kp hall (thn (ha.run pos pins s1 σ H1 _ I1 q) fun us s2 ⟨vs, H2, I2, r, q2⟩ => ?_) hpl hst
  refine thn (hkw.run pos pins s2 σ H2 _ I2 q2) fun ws s3 ⟨zs, H3, I3, rz, l1, l2, q3⟩ => ⟨I3.kIn, ?_⟩
  rw [hks]
  exact run_fnNS (us := .ref a :: us) (vs := .ref a :: vs) F hr hb (hx σ) I3 (.cons rfl r) rz l1 l2 q3
end

/-! ### text * int -/
section
variable {X : Cx}
def mulS (z : Str) (k : Int) : Str := ⟨(List.replicate k.toNat z.cps).foldl (· ++ ·) #[]⟩
theorem op_mul_str : OpR X (binaryOp .Mult) (fun x y H Q => ∃ z k, x = .str z ∧ y = .int k ∧ 2 ≤ k ∧ k ≤ 1000 ∧ 0 < z.length ∧ z.length ≤ 1000 ∧ (mulS z k).length ≤ sizeLine ∧ Q (.str (mulS z k)) H) := by
  intro pins s σ H x y u v Q I rx ry h
  obtain ⟨z, k, rfl, rfl, h1, h2, h3, h4, h5, q⟩ := h
  obtain ⟨t, rfl⟩ := rx
  obtain ⟨t', rfl⟩ := ry
  have hk : (k == 1 || z.length == 0) = false := by
    have a : (k == 1) = false := by
      rw [beq_eq_false_iff_ne]; omega
    have b : (z.length == 0) = false := by
      rw [beq_eq_false_iff_ne]; omega
    rw [a, b]; rfl
  have hz : z.length * k.toNat ≤ 1000 * 1000 := Nat.mul_le_mul h4 (by omega)
  refine PySem.P.mul_str ?_ (fun _ _ => ?_) (fun _ _ => ?_) ?_
  · rw [decide_eq_false (by omega), decide_eq_false (by omega)]; rfl
  · have : (1001 : Int) ≤ (2 ^ 63 - 1) / k := Int.le_ediv_of_mul_le (by omega) (by omega)
    omega
  · unfold Builtin.Str.tooLong
    rw [sizeLine_eq]
    exact decide_eq_false (by omega)
  · rw [if_neg (by omega), hk, if_neg Bool.false_ne_true]
    exact ⟨h5, .str _, H, I.tok _, ⟨_, rfl⟩, q⟩
end
end Fw

set_option Elab.async false
set_option linter.all false
set_option maxRecDepth 100000
set_option maxHeartbeats 4000000
/-! part D: kinds of values; short words -/
namespace Fw
open PySem PySem.Spec PyProof.Rows L2
/-! ### boot -/
theorem bt_int : bootBuiltins "int" = some (.type "int") := by decide +kernel
theorem bt_bool : bootBuiltins "bool" = some (.type "bool") := by decide +kernel
theorem bt_str : bootBuiltins "str" = some (.type "str") := by decide +kernel
theorem bt_tuple : bootBuiltins "tuple" = some (.type "tuple") := by decide +kernel
theorem bt_list : bootBuiltins "list" = some (.type "list") := by decide +kernel
theorem bt_dict : bootBuiltins "dict" = some (.type "dict") := by decide +kernel
theorem bt_isi : bootBuiltins "isinstance" = some (.builtin "isinstance") := by decide +kernel
theorem bt_len : bootBuiltins "len" = some (.builtin "len") := by decide +kernel
theorem bt_all : bootBuiltins "all" = some (.builtin "all") := by decide +kernel
theorem bt_any : bootBuiltins "any" = some (.builtin "any") := by decide +kernel
theorem bt_sum : bootBuiltins "sum" = some (.builtin "sum") := by decide +kernel
theorem bt_max : bootBuiltins "max" = some (.builtin "max") := by decide +kernel
theorem bt_min : bootBuiltins "min" = some (.builtin "min") := by decide +kernel
theorem bt_sorted : bootBuiltins "sorted" = some (.builtin "sorted") := by decide +kernel
/-! ### kinds -/
def kinds : List String := ["NoneType", "bool", "int", "str", "tuple", "list", "dict"]
def isI : V → Bool
  | .int _ => true
  | _ => false
def isB : V → Bool
  | .bl _ => true
  | _ => false
def isS : V → Bool
  | .str _ => true
  | _ => false
/-- a thing of a kind that isinstance tells of -/
def Any (K : PySem.W.Frag) (H : Hp) (v : V) : Prop := ∃ n, n ∈ kinds ∧ TyX K H v (.type n)
section
variable {K : PySem.W.Frag} {H H' : Hp} {v : V} {n : String}
theorem tyx_shape (h : TyX K H v (.type n)) (hn : n ∈ kinds) : isI v = (n == "int") ∧ isB v = (n == "bool") ∧ isS v = (n == "str") := by
  generalize ht : Value.type n = t at h
  cases h with
  | base b => cases b <;> cases ht <;> first | exact absurd hn (by decide) | (refine ⟨?_, ?_, ?_⟩ <;> first | rfl | simp [isI, isB, isS])
  | byt b => cases ht; exact absurd hn (by decide)
  | set e => cases ht; exact absurd hn (by decide)
  | kList e c => cases ht; refine ⟨?_, ?_, ?_⟩ <;> simp [isI, isB, isS]
  | kTuple e c => cases ht; refine ⟨?_, ?_, ?_⟩ <;> simp [isI, isB, isS]
  | kDict e c => cases ht; refine ⟨?_, ?_, ?_⟩ <;> simp [isI, isB, isS]
  | fTuple e => cases ht; refine ⟨?_, ?_, ?_⟩ <;> simp [isI, isB, isS]
  | fDict e => cases ht; refine ⟨?_, ?_, ?_⟩ <;> simp [isI, isB, isS]
theorem kit_kinds (hn : n ∈ kinds) : PySem.W.kitOne K (.type n) (.type "int") = some ((n == "int") || (n == "bool")) ∧ PySem.W.kitOne K (.type n) (.type "bool") = some (n == "bool") ∧ PySem.W.kitOne K (.type n) (.type "str") = some (n == "str") ∧
    PySem.W.kitOne K (.type n) (.type "tuple") = some (n == "tuple") ∧ PySem.W.kitOne K (.type n) (.type "list") = some (n == "list") ∧ PySem.W.kitOne K (.type n) (.type "dict") = some (n == "dict") := by
  have h : n = "NoneType" ∨ n = "bool" ∨ n = "int" ∨ n = "str" ∨ n = "tuple" ∨ n = "list" ∨ n = "dict" := by simpa [kinds] using hn
  rcases h with rfl | rfl | rfl | rfl | rfl | rfl | rfl <;>
    exact ⟨kit_ty (by decide +kernel), kit_ty (by decide +kernel), kit_ty (by decide +kernel), kit_ty (by decide +kernel), kit_ty (by decide +kernel), kit_ty (by decide +kernel)⟩
theorem isi_int {Q : VK} (a : Any K H v) (q : Q (.bl (isI v || isB v)) H) : rIsi K [v, .ty "int"] H Q := by
  obtain ⟨n, hn, t⟩ := a
  obtain ⟨e1, e2, e3⟩ := tyx_shape t hn
  rw [e1, e2] at q
  exact ⟨v, .ty "int", .type n, .type "int", _, rfl, .ty _, t, (kit_kinds hn).1, q⟩
theorem isi_bool {Q : VK} (a : Any K H v) (q : Q (.bl (isB v)) H) : rIsi K [v, .ty "bool"] H Q := by
  obtain ⟨n, hn, t⟩ := a
  obtain ⟨e1, e2, e3⟩ := tyx_shape t hn
  rw [e2] at q
  exact ⟨v, .ty "bool", .type n, .type "bool", _, rfl, .ty _, t, (kit_kinds hn).2.1, q⟩
theorem isi_str {Q : VK} (a : Any K H v) (q : Q (.bl (isS v)) H) : rIsi K [v, .ty "str"] H Q := by
  obtain ⟨n, hn, t⟩ := a
  obtain ⟨e1, e2, e3⟩ := tyx_shape t hn
  rw [e3] at q
  exact ⟨v, .ty "str", .type n, .type "str", _, rfl, .ty _, t, (kit_kinds hn).2.2.1, q⟩
theorem isi_lst {Q : VK} {a : Addr} {xs : List V} (h : H a = some (.lst xs)) (q : Q (.bl true) H) : rIsi K [.ref a, .ty "list"] H Q :=
  ⟨_, .ty "list", .type "list", .type "list", true, rfl, .ty _, .base (.lst h), kit_ty (by decide +kernel), q⟩
theorem isi_tup {Q : VK} {a : Addr} {xs : List V} (h : H a = some (.tup xs)) (q : Q (.bl true) H) : rIsi K [.ref a, .ty "tuple"] H Q :=
  ⟨_, .ty "tuple", .type "tuple", .type "tuple", true, rfl, .ty _, .base (.tup h), kit_ty (by decide +kernel), q⟩
theorem any_int (i : Int) : Any K H (.int i) := ⟨"int", by decide, .base (.int i)⟩
theorem any_str (i : Str) : Any K H (.str i) := ⟨"str", by decide, .base (.str i)⟩
theorem any_bl (i : Bool) : Any K H (.bl i) := ⟨"bool", by decide, .base (.bl i)⟩
theorem any_non : Any K H .non := ⟨"NoneType", by decide, .base .non⟩
theorem any_tup {a : Addr} {xs : List V} (h : H a = some (.tup xs)) : Any K H (.ref a) := ⟨"tuple", by decide, .base (.tup h)⟩
theorem any_lst {a : Addr} {xs : List V} (h : H a = some (.lst xs)) : Any K H (.ref a) := ⟨"list", by decide, .base (.lst h)⟩
theorem any_dK {a : Addr} {xs : List (Key × V)} (h : H a = some (.dK xs)) : Any K H (.ref a) := ⟨"dict", by decide, .base (.dK h)⟩
theorem Any.keep (h : Any K H v) (k : ∀ a o, v = .ref a → H a = some o → H' a = some o) : Any K H' v := by
  obtain ⟨n, hn, t⟩ := h
  refine ⟨n, hn, ?_⟩
  generalize ht : Value.type n = t' at t
  cases t with
  | base b =>
    refine .base ?_
    cases b with
    | non => exact .non
    | bl x => exact .bl x
    | int i => exact .int i
    | str x => exact .str x
    | flt x => exact .flt x
    | lst e => exact .lst (k _ _ rfl e)
    | frz e => exact .frz (k _ _ rfl e)
    | tup e => exact .tup (k _ _ rfl e)
    | dK e => exact .dK (k _ _ rfl e)
    | dT e => exact .dT (k _ _ rfl e)
    | ins e cl ha hn htk hm => exact .ins (k _ _ rfl e) cl ha hn htk hm
  | byt b => exact .byt b
  | set e => exact .set (k _ _ rfl e)
  | kList e c => exact .kList e c
  | kTuple e c => exact .kTuple e c
  | kDict e c => exact .kDict e c
  | fTuple e => exact .fTuple (k _ _ rfl e)
  | fDict e => exact .fDict (k _ _ rfl e)
theorem Any.same (h : Any K H v) (s : Same H H') : Any K H' v := h.keep fun a o _ e => s a o e
end
theorem iteT' {A B : Prop} {b : Bool} (h : b = true) (x : A) : if b = true then A else B := by
  rw [if_pos h]
  exact x
theorem iteF' {A B : Prop} {b : Bool} (h : b = false) (x : B) : if b = true then A else B := by
  rw [h]
  exact iteF x
theorem Same.new {H : Hp} {p : Addr} {o : HO} (h : H p = none) : Same H (upd H p o) := fun a u e => by
  rw [upd_ne (ne_of_none e h)]
  exact e
/-! ### contexts -/
section
variable {X : Cx}
/-- a built-in type's name -/
theorem bt {x : Str} {n : String} {pos : Pos} (hm : X.mg x = none) (hv : bootBuiltins x = some (.type n)) (hg : Gl X x := by rfl) (hn : x ≠ "__name__" := by decide) (hd : (x == ("__debug__" : Str)) = false := by decide) : PE X (.Name x pos) (tC (.ty n)) := pe_bltn hg hm hv rfl hn hd
/-- a module's name -/
theorem gl {x : Str} {a : Addr} {pos : Pos} (hm : X.mg x = some (.ref a)) (hg : Gl X x := by rfl) (hd : (x == ("__debug__" : Str)) = false := by decide) : PE X (.Name x pos) (tC (.ref a)) := pe_glob hg hm rfl hd
theorem gi {x : Str} {i : Int} {pos : Pos} (hm : ∃ t, X.mg x = some (.int i t)) (hg : Gl X x := by rfl) (hd : (x == ("__debug__" : Str)) = false := by decide) : PE X (.Name x pos) (tC (.int i)) := by
  obtain ⟨t, h⟩ := hm
  exact pe_glob hg h ⟨t, rfl⟩ hd
theorem gs {x z : Str} {pos : Pos} (hm : ∃ t, X.mg x = some (.str z t)) (hg : Gl X x := by rfl) (hd : (x == ("__debug__" : Str)) = false := by decide) : PE X (.Name x pos) (tC (.str z)) := by
  obtain ⟨t, h⟩ := hm
  exact pe_glob hg h ⟨t, rfl⟩ hd
end
/-- a def's wish, and what a callee may let out into it -/
theorem tkE {P : Program} {w : World} {K : PySem.W.Frag} {mg : Str → Option Value} {base : Heap} {N : List Str} {qual : Str} {scope : Scope} {f : Addr} {cd : Value} {A : Around} {outer : List Env} {s : Shared} {H : Hp} {E : XK} :
    Takes (cxOf (L2.CX P w) P w K mg base N qual scope f cd A outer s H E) (fun cls d _ H => E cls d H) := takes_of rfl rfl rfl rfl
theorem psE {P : Program} {w : World} {K : PySem.W.Frag} {mg : Str → Option Value} {base : Heap} {N : List Str} {qual : Str} {scope : Scope} {f : Addr} {cd : Value} {A : Around} {outer : List Env} {s : Shared} {H : Hp} {E : XK} :
    Passes (L2.CX P w) (cxOf (L2.CX P w) P w K mg base N qual scope f cd A outer s H E) E := passes_call tkE fun _ _ _ _ h => h
theorem ps0 {X : Cx} : Passes (L2.CX X.prog X.w) X E0 := passL
end Fw

set_option Elab.async false
set_option linter.all false
set_option maxRecDepth 100000
set_option maxHeartbeats 4000000
/-! part E: comprehensions and what is walked -/
namespace Fw
open PySem PySem.Spec PyProof.Rows L2
/-! ### the heap but for what may change -/
def wo (H : Hp) (ms : List Addr) : Hp := fun a => if a ∈ ms then none else H a
theorem wo_nil (H : Hp) : wo H [] = H := by
  funext a
  unfold wo
  rw [if_neg (by simp)]
theorem wo_at {H : Hp} {ms : List Addr} {a : Addr} (h : a ∉ ms) : wo H ms a = H a := if_neg h
theorem wo_some {H : Hp} {ms : List Addr} {a : Addr} {o : HO} (h : wo H ms a = some o) : a ∉ ms ∧ H a = some o := by
  unfold wo at h
  by_cases e : a ∈ ms
  · rw [if_pos e] at h
    cases h
  · rw [if_neg e] at h
    exact ⟨e, h⟩
theorem wo_mk {H : Hp} {ms : List Addr} {a : Addr} {o : HO} (h : a ∉ ms) (e : H a = some o) : wo H ms a = some o := (wo_at h).trans e
theorem wo_le (H : Hp) (ms : List Addr) : Same (wo H ms) H := fun _ _ h => (wo_some h).2
theorem wo_cons (H : Hp) (m : Addr) (ms : List Addr) : Same (wo H (m :: ms)) (wo H ms) := fun a o h => by
  obtain ⟨h1, h2⟩ := wo_some h
  exact wo_mk (fun z => h1 (List.mem_cons_of_mem _ z)) h2
theorem wo_mono {H H' : Hp} (ms : List Addr) (s : Same H H') : Same (wo H ms) (wo H' ms) := fun a o h => by
  obtain ⟨h1, h2⟩ := wo_some h
  exact wo_mk h1 (s a o h2)
/-- what may change is changed -/
theorem wo_upd {H : Hp} {ms : List Addr} {m : Addr} {o : HO} (h : m ∈ ms) : wo (upd H m o) ms = wo H ms := by
  funext a
  unfold wo
  by_cases e : a ∈ ms
  · rw [if_pos e, if_pos e]
  · rw [if_neg e, if_neg e, upd_ne (fun z => e (by rw [z]; exact h))]
/-- a new thing that may change -/
theorem wo_new {H : Hp} {ms : List Addr} {m : Addr} {o : HO} (h : H m = none) : wo (upd H m o) (m :: ms) = wo H ms := by
  funext a
  unfold wo
  by_cases e : a ∈ ms
  · rw [if_pos e, if_pos (List.mem_cons_of_mem _ e)]
  · by_cases z : a = m
    · subst z
      rw [if_neg e, if_pos List.mem_cons_self, h]
    · rw [if_neg e, if_neg (fun q => (List.mem_cons.mp q).elim z e), upd_ne z]
/-! ### what is walked, while nothing that stands is changed -/
structure Runs (J : It) (H0 : Hp) (n : Nat) (P : Hp → Nat → V → Prop) : Prop where
  go : ∀ H i, Same H0 H → i < n → J.go i H
  stop : ∀ H, Same H0 H → J.stop n H
  yld : ∀ (ms : List Addr) H i x H', Same H0 H → (∀ m ∈ ms, H m ≠ none) → i < n → J.yld i H x H' → Same H H' ∧ P (wo H' ms) i x
theorem Same.free' {H H' : Hp} (s : Same H H') {a : Addr} (h : H a ≠ none) : H' a ≠ none := by
  cases e : H a with
  | none => exact absurd e h
  | some o => rw [s a o e]; exact fun z => nomatch z
theorem runs_list {K : PySem.W.Frag} {H : Hp} {a : Addr} {xs : List V} (h : SqL K H a xs) : Runs (Itl K a) H xs.length (fun _ i x => xs[i]? = some x) where
  go := fun H' i s hi => ⟨xs, xs[i], s.seq h, by simp [hi]⟩
  stop := fun H' s => ⟨xs, s.seq h, Nat.le_refl _⟩
  yld := fun ms H' i x H'' s _ hi y => by
    obtain ⟨e, y⟩ := y
    subst e
    exact ⟨Same.refl _, y xs (s.seq h)⟩
theorem seqT' {K : PySem.W.Frag} {H H' : Hp} {a : Addr} {xs : List V} (e : Same H H') (h : SqT K H a xs) : SqT K H' a xs := by
  rcases h with (h | ⟨o, h⟩) | h
  · exact .inl (.inl (e _ _ h))
  · exact .inl (.inr ⟨o, e _ _ h⟩)
  · exact .inr h
theorem runs_tup {K : PySem.W.Frag} {H : Hp} {a : Addr} {xs : List V} (h : SqT K H a xs) : Runs (Itt K a) H xs.length (fun _ i x => xs[i]? = some x) where
  go := fun H' i s hi => ⟨xs, xs[i], (seqT' s h), by simp [hi]⟩
  stop := fun H' s => ⟨xs, (seqT' s h), Nat.le_refl _⟩
  yld := fun ms H' i x H'' s _ hi y => by
    obtain ⟨e, y⟩ := y
    subst e
    exact ⟨Same.refl _, y xs ((seqT' s h))⟩
theorem runs_str {H : Hp} {z : Str} : Runs (Its z) H z.cps.size (fun _ i x => ∃ c, z.cps.toList[i]? = some c ∧ x = .str ⟨#[c]⟩) where
  go := fun H' i s hi => hi
  stop := fun H' s => Nat.le_refl _
  yld := fun ms H' i x H'' s _ hi y => by
    obtain ⟨e, c, h1, h2⟩ := y
    subst e
    exact ⟨Same.refl _, c, by simpa using h1, h2⟩
theorem runs_range {H : Hp} {lo : Int} {n : Nat} : Runs (Itr lo n) H n (fun _ i x => x = .int (lo + i)) where
  go := fun H' i s hi => hi
  stop := fun H' s => Nat.le_refl _
  yld := fun ms H' i x H'' s _ hi y => by
    obtain ⟨e, h⟩ := y
    subst e
    exact ⟨Same.refl _, h⟩
/-! ### a comprehension -/
def LcG (J : It) (g : TG) (tt : TT) (te : TE) (vs : List Nat) (σ : L2.St) (Q : VK) (H1 : Hp) : Prop := ∀ D, H1 D = none → ∃ W : Nat → Nat → Hp → Prop, (∃ m, W 0 m (upd H1 D (.lst []))) ∧ ∀ i m H, W i m H →
  (J.stop i H ∧ Q (.ref D) H) ∨ (J.go i H ∧ ∃ Nx : Hp → Prop, (∀ H', Nx H' → ∃ m', m' < m ∧ W (i + 1) m' H') ∧ ∀ x H', J.yld i H x H' → g x (wipe σ vs) H' fun σ2 H2 => wipe σ2 vs = wipe σ vs ∧ tt σ2 H2 fun b H3 =>
    if b = true then te σ2 H3 fun y H4 => ∃ acc, H4 D = some (.lst acc) ∧ acc.length < sizeLine ∧ Nx (upd H4 D (.lst (acc ++ [y]))) else Nx H3)
theorem lc_in {wi : TI} {g : TG} {tt : TT} {te : TE} {vs : List Nat} {σ : L2.St} {H : Hp} {Q : VK} (h : wi σ H fun J H1 => LcG J g tt te vs σ Q H1) : tLc wi g tt te vs σ H Q := h
theorem lc_gen {J : It} {H1 : Hp} {n : Nat} {P : Hp → Nat → V → Prop} {g : TG} {tt : TT} {te : TE} {vs : List Nat} {σ : L2.St} {Q : VK} (ms : List Addr) (R : Runs J H1 n P) (hms : ∀ m ∈ ms, H1 m ≠ none) (hn : n ≤ 1000000)
    (G : Nat → List V → Hp → Prop) (gm : ∀ i acc H H', Same H H' → G i acc H → G i acc H') (g0 : G 0 [] (wo H1 ms))
    (step : ∀ (ms' : List Addr) (i : Nat) (x : V) (acc : List V) (H : Hp) (Ky : V → Hp → Prop) (Kn : Hp → Prop), i < n → Same H1 H → Same (wo H1 ms) (wo H ms') → (∀ m ∈ ms', H m ≠ none) → P (wo H ms') i x → G i acc (wo H ms') →
      (∀ y H4, Same H H4 → G (i + 1) (acc ++ [y]) (wo H4 ms') → Ky y H4) → (∀ H4, Same H H4 → G (i + 1) acc (wo H4 ms') → Kn H4) →
      g x (wipe σ vs) H fun σ2 H2 => wipe σ2 vs = wipe σ vs ∧ tt σ2 H2 fun b H3 => if b = true then te σ2 H3 Ky else Kn H3)
    (done : ∀ D acc H, Same H1 H → H1 D = none → D ∉ ms → H D = some (.lst acc) → acc.length ≤ n → G n acc (wo H ms) → Q (.ref D) H) :
    LcG J g tt te vs σ Q H1 := by
  intro D hD
  have nD : D ∉ ms := fun z => hms D z hD
  refine ⟨fun i m H => m = n - i ∧ i ≤ n ∧ Same H1 H ∧ ∃ acc, H D = some (.lst acc) ∧ acc.length ≤ i ∧ G i acc (wo H (D :: ms)), ⟨n, by simp, Nat.zero_le _, Same.new hD, [], upd_same, Nat.le_refl _, by rw [wo_new hD]; exact g0⟩, ?_⟩
  rintro i m H ⟨rfl, hi, s, acc, hacc, hl, hG⟩
  have tr : ∀ m ∈ D :: ms, H m ≠ none := fun m hm => by
    rcases List.mem_cons.mp hm with rfl | hm
    · rw [hacc]; exact fun z => nomatch z
    · exact Same.free' s (hms m hm)
  by_cases hlt : i < n
  · refine .inr ⟨R.go H i s hlt, fun H' => Same H1 H' ∧ ∃ acc, H' D = some (.lst acc) ∧ acc.length ≤ i + 1 ∧ G (i + 1) acc (wo H' (D :: ms)), fun H' p' => ⟨n - (i + 1), by omega, rfl, hlt, p'⟩, fun x H' y => ?_⟩
    obtain ⟨s1, p1⟩ := R.yld (D :: ms) H i x H' s tr hlt y
    have tr' : ∀ m ∈ D :: ms, H' m ≠ none := fun m hm => Same.free' s1 (tr m hm)
    refine step (D :: ms) i x acc H' _ _ hlt (s.trans s1) ?_ tr' p1 (gm _ _ _ _ (wo_mono _ s1) hG) (fun y H4 s4 g4 => ?_) (fun H4 s4 g4 => ?_)
    rotate_left
    · have e4 : H4 D = some (.lst acc) := s4 _ _ (s1 _ _ hacc)
      refine ⟨acc, e4, by rw [sizeLine_eq]; omega, fun a o h => ?_, acc ++ [y], upd_same, by simp; omega, ?_⟩
      · rw [upd_ne (ne_of_none h hD)]
        exact s4 _ _ (s1 _ _ (s _ _ h))
      · rw [wo_upd List.mem_cons_self]
        exact g4
    · exact ⟨(s.trans s1).trans s4, acc, s4 _ _ (s1 _ _ hacc), by omega, g4⟩
    · refine Same.trans ?_ (wo_mono (D :: ms) (s.trans s1))
      intro a o h
      obtain ⟨h1, h2⟩ := wo_some h
      refine wo_mk (fun z => ?_) h2
      rcases List.mem_cons.mp z with e | e
      · rw [e, hD] at h2
        cases h2
      · exact h1 e
  · have e : i = n := by omega
    subst e
    exact .inl ⟨R.stop H s, done D acc H s hD nD hacc hl (gm _ _ _ _ (wo_cons H D ms) hG)⟩
/-- each item kept, its value a plain one by the item's place: nothing is asked of the heap -/
theorem lc_map {J : It} {H1 : Hp} {n : Nat} {P : Hp → Nat → V → Prop} {g : TG} {tt : TT} {te : TE} {vs : List Nat} {σ : L2.St} {Q : VK} (R : Runs J H1 n P) (hn : n ≤ 1000000) (f : Nat → V)
    (step : ∀ (ms' : List Addr) (i : Nat) (x : V) (H : Hp) (Ky : V → Hp → Prop) (Kn : Hp → Prop), i < n → Same H1 H → Same H1 (wo H ms') → P (wo H ms') i x → (∀ H4, Same H H4 → Ky (f i) H4) →
      g x (wipe σ vs) H fun σ2 H2 => wipe σ2 vs = wipe σ vs ∧ tt σ2 H2 fun b H3 => if b = true then te σ2 H3 Ky else Kn H3)
    (done : ∀ D H, Same H1 H → H1 D = none → H D = some (.lst ((List.range n).map f)) → Q (.ref D) H) : LcG J g tt te vs σ Q H1 := by
  refine lc_gen [] R (fun _ h => nomatch h) hn (fun i acc _ => acc = (List.range i).map f) (fun _ _ _ _ _ h => h) rfl (fun ms' i x acc H Ky Kn hi s1 s2 tr p hG ky kn => ?_) fun D acc H s hD _ hacc _ hG => done D H s hD (by rw [hacc, hG])
  rw [wo_nil] at s2
  refine step ms' i x H Ky Kn hi s1 s2 p fun H4 s4 => ky _ H4 s4 ?_
  rw [hG, List.range_succ, List.map_append]
  rfl
/-! ### a for loop -/
def FoG (J : It) (g : TG) (tb : TS) (D : Ends) (σ : L2.St) (H1 : Hp) : Prop := ∃ W : Nat → Nat → L2.St → Hp → Prop, (∃ m, W 0 m σ H1) ∧ ∀ i m σ H, W i m σ H →
  (J.stop i H ∧ D.nx σ H) ∨ (J.go i H ∧ ∃ N : L2.St → Hp → Prop, (∀ σ' H', N σ' H' → ∃ m', m' < m ∧ W (i + 1) m' σ' H') ∧ ∀ x H', J.yld i H x H' → g x σ H' fun σ2 H2 => tb { D with nx := N, ct := N, bk := D.nx } σ2 H2)
theorem for_in {wi : TI} {g : TG} {tb : TS} {D : Ends} {σ : L2.St} {H : Hp} (h : wi σ H fun J H1 => FoG J g tb D σ H1) : tFor wi g tb D σ H := h
theorem fo_gen {J : It} {g : TG} {tb : TS} {D : Ends} {σ : L2.St} {H : Hp} (S : Hp → Prop) (n : Nat) (go : ∀ H i, S H → i < n → J.go i H) (stop : ∀ H, S H → J.stop n H)
    (Pv : Nat → L2.St → Hp → Prop) (h0 : Pv 0 σ H) (hS : ∀ i σ H, i ≤ n → Pv i σ H → S H)
    (hs : ∀ i x σ H H', i < n → Pv i σ H → J.yld i H x H' → g x σ H' fun σ2 H2 => tb { D with nx := Pv (i + 1), ct := Pv (i + 1), bk := D.nx } σ2 H2) (hd : ∀ σ H, Pv n σ H → D.nx σ H) : FoG J g tb D σ H := by
  refine ⟨fun i m σ H => m = n - i ∧ i ≤ n ∧ Pv i σ H, ⟨n, by simp, Nat.zero_le _, h0⟩, ?_⟩
  rintro i m σ H ⟨rfl, hi, p⟩
  have q := hS i σ H hi p
  by_cases hlt : i < n
  · exact .inr ⟨go H i q hlt, Pv (i + 1), fun σ' H' p' => ⟨n - (i + 1), by omega, rfl, hlt, p'⟩, fun x H' y => hs i x σ H H' hlt p y⟩
  · have e : i = n := by omega
    subst e
    exact .inl ⟨stop H q, hd σ H p⟩
/-- over a list that the body leaves as it is -/
theorem fo_list {K : PySem.W.Frag} {a : Addr} {xs : List V} {g : TG} {tb : TS} {D : Ends} {σ : L2.St} {H : Hp} (Pv : Nat → L2.St → Hp → Prop) (h0 : Pv 0 σ H) (hl : ∀ i σ H, i ≤ xs.length → Pv i σ H → SqL K H a xs)
    (hs : ∀ i x σ H, xs[i]? = some x → Pv i σ H → g x σ H fun σ2 H2 => tb { D with nx := Pv (i + 1), ct := Pv (i + 1), bk := D.nx } σ2 H2) (hd : ∀ σ H, Pv xs.length σ H → D.nx σ H) : FoG (Itl K a) g tb D σ H :=
  for_list Pv h0 hl hs hd
theorem fo_range {lo : Int} {n : Nat} {g : TG} {tb : TS} {D : Ends} {σ : L2.St} {H : Hp} (Pv : Nat → L2.St → Hp → Prop) (h0 : Pv 0 σ H)
    (hs : ∀ i σ H, i < n → Pv i σ H → g (.int (lo + i)) σ H fun σ2 H2 => tb { D with nx := Pv (i + 1), ct := Pv (i + 1), bk := D.nx } σ2 H2) (hd : ∀ σ H, Pv n σ H → D.nx σ H) : FoG (Itr lo n) g tb D σ H :=
  for_range Pv h0 hs hd
/-- enumerate: a new pair each -/
theorem fo_enum {K : PySem.W.Frag} {a : Addr} {xs : List V} {g : TG} {tb : TS} {D : Ends} {σ : L2.St} {H : Hp} (Pv : Nat → L2.St → Hp → Prop) (h0 : Pv 0 σ H) (hl : ∀ i σ H, i ≤ xs.length → Pv i σ H → SqL K H a xs)
    (hs : ∀ i x T σ H, xs[i]? = some x → Pv i σ H → H T = none → g (.ref T) σ (upd H T (.tup [.int (i : Nat), x])) fun σ2 H2 => tb { D with nx := Pv (i + 1), ct := Pv (i + 1), bk := D.nx } σ2 H2) (hd : ∀ σ H, Pv xs.length σ H → D.nx σ H) : FoG (Ite K a) g tb D σ H := by
  refine fo_gen (fun H => SqL K H a xs) xs.length (fun H i s hi => ⟨xs, xs[i], s, by simp [hi]⟩) (fun H s => ⟨xs, s, Nat.le_refl _⟩) Pv h0 hl (fun i x σ H H' hi p y => ?_) hd
  obtain ⟨T, z, e, hT, e2, y⟩ := y
  subst e e2
  exact hs i z T σ H (y xs (hl i σ H (Nat.le_of_lt hi) p)) p hT
end Fw

set_option Elab.async false
set_option linter.all false
set_option maxRecDepth 100000
set_option maxHeartbeats 4000000
/-! part G: calls with keywords; data -/
namespace Fw
open PySem PySem.Spec PyProof.Rows L2
/-- no defaults: n positional values, then keywords -/
theorem kbN {K : PySem.W.Frag} {x qual : Str} {params : Arguments} {body : List Stmt} {scope : Scope} {kws : List (Str × V)} {f : Addr} {fd : FuncData} {ps : List Str} (F : FunD K x qual params body scope [] kws f fd) (n : Nat) (ks : List Str)
    (g : {α : Type} → List α → List α → List α) (hrel : ∀ {vs zs : List V} {us ws : List Value}, Vals vs us → Vals zs ws → Vals (g vs zs) (g us ws))
    (h : ∀ (kV doc pm : Value) (an : Option Addr) (cdv ct : Value) (us ws : List Value), us.length = n → ws.length = ks.length → bindArgs (PySem.W.fnOf x qual params body scope .none kV doc pm an cdv ct) ⟨us, ks.zip ws⟩ = pure (ps.zip (g us ws))) :
    KBn K fd ps n ks (fun us ws => g us ws) (fun vs zs => g vs zs) := by
  obtain ⟨oc, od, dV, kV, doc, pm, an, cdv, ct, osl, rfl, lk, hcd, hD, hK⟩ := F.ex
  rcases hD with ⟨_, rfl⟩ | ⟨e, _⟩
  · exact ⟨fun s us ws _ l1 l2 => .of_eq (h kV doc pm an cdv ct us ws l1 l2), fun r1 r2 => hrel r1 r2⟩
  · exact absurd rfl e
/-! ### data -/
mutual
theorem Dp.same {K : PySem.W.Frag} {H H' : Hp} (s : Same H H') : ∀ (d : PyData) (v : V), Dp K H v d → Dp K H' v d
  | .none, v, h => by cases h; exact .non
  | .bool b, v, h => by cases h; exact .bl b
  | .int i, v, h => by cases h; exact .int i
  | .str x, v, h => by cases h; exact .str x
  | .list ds, v, h => by
    cases h with
    | lst h1 h2 => exact .lst (s.seq h1) (DpAll.same s ds _ h2)
  | .tuple ds, v, h => by
    cases h with
    | tup h1 h2 => exact .tup (seqT' s h1) (DpAll.same s ds _ h2)
  | .dict ds, v, h => by cases h
theorem DpAll.same {K : PySem.W.Frag} {H H' : Hp} (s : Same H H') : ∀ (ds : List PyData) (vs : List V), DpAll K H vs ds → DpAll K H' vs ds
  | [], vs, h => by cases h; exact .nil
  | d :: ds, vs, h => by
    cases h with
    | cons h1 h2 => exact .cons (Dp.same s d _ h1) (DpAll.same s ds _ h2)
end
/-- neither truths nor dicts within -/
def nb : PyData → Bool
  | .none => true
  | .bool _ => false
  | .int _ => true
  | .str _ => true
  | .list ds => nbs ds
  | .tuple ds => nbs ds
  | .dict _ => false
where nbs : List PyData → Bool
  | [] => true
  | d :: ds => nb d && nbs ds
mutual
theorem eqv_iff : ∀ d e : PyData, nb d = true → nb e = true → (PyData.eqv d e = true ↔ d = e)
  | .none, e, _, h => by cases e <;> simp [PyData.eqv]
  | .bool b, e, h, _ => by simp [nb] at h
  | .int i, e, _, h => by cases e <;> simp [PyData.eqv, nb] at h ⊢
  | .str x, e, _, h => by cases e <;> simp [PyData.eqv, nb] at h ⊢
  | .list ds, e, h1, h2 => by
    cases e with
    | list es =>
      rw [PyData.eqv, eqvs_iff ds es (by simpa [nb] using h1) (by simpa [nb] using h2)]
      simp
    | _ => simp [PyData.eqv, nb] at h2 ⊢
  | .tuple ds, e, h1, h2 => by
    cases e with
    | tuple es =>
      rw [PyData.eqv, eqvs_iff ds es (by simpa [nb] using h1) (by simpa [nb] using h2)]
      simp
    | _ => simp [PyData.eqv, nb] at h2 ⊢
  | .dict _, e, h, _ => by simp [nb] at h
theorem eqvs_iff : ∀ ds es : List PyData, nb.nbs ds = true → nb.nbs es = true → (PyData.eqvAll ds es = true ↔ ds = es)
  | [], es, _, _ => by cases es <;> simp [PyData.eqvAll]
  | d :: ds, es, h1, h2 => by
    cases es with
    | nil => simp [PyData.eqvAll]
    | cons e es =>
      rw [nb.nbs, Bool.and_eq_true] at h1 h2
      rw [PyData.eqvAll, Bool.and_eq_true, eqv_iff d e h1.1 h2.1, eqvs_iff ds es h1.2 h2.2]
      simp
end
theorem eqv_dec {d e : PyData} {p : Prop} [Decidable p] (h1 : nb d = true) (h2 : nb e = true) (h : d = e ↔ p) : PyData.eqv d e = decide p := by
  by_cases hp : p
  · rw [decide_eq_true hp]
    exact (eqv_iff d e h1 h2).mpr (h.mpr hp)
  · rw [decide_eq_false hp]
    cases q : PyData.eqv d e with
    | false => rfl
    | true => exact absurd (h.mp ((eqv_iff d e h1 h2).mp q)) hp
/-- what may be compared: shaped, no truths -/
theorem shaped_of {d : PyData} (h1 : d.canLay0 = true) (h2 : d.depth ≤ 64) : SeqAt.shaped d = true := by
  show (d.canLay0 && decide (d.depth ≤ 64)) = true
  rw [h1, decide_eq_true h2]
  rfl
/-- instances and what they are made of -/
theorem upd_at {H : Hp} {a b : Addr} {o u : HO} (h : H b = some u) (n : b ≠ a) : upd H a o b = some u := by
  rw [upd_ne n]
  exact h
/-! ### rules whose frag is named -/
section
variable (K : PySem.W.Frag) {X : Cx}
theorem ixT (h : X.K = K := by rfl) : IxR X (rIxT K) := by
  subst h
  exact ix_tup
theorem ixL (h : X.K = K := by rfl) : IxR X (rIxL K) := by
  subst h
  exact ix_list
theorem slT (h : X.K = K := by rfl) : SlR X (rSlT K) := by
  subst h
  exact sl_tup
theorem slL (h : X.K = K := by rfl) : SlR X (rSlL K) := by
  subst h
  exact sl_list
theorem op_eqDK (hu : X.A.units + 64 < cLine) (h : X.K = K := by rfl) : OpR X (compareOp .Eq) (rEqD K) := by
  subst h
  exact op_eqD hu
theorem op_neDK (hu : X.A.units + 64 < cLine) (h : X.K = K := by rfl) : OpR X (compareOp .NotEq) (rNeD K) := by
  subst h
  exact op_neD hu
theorem op_inDK (hu : X.A.units + 65 < cLine) (h : X.K = K := by rfl) : OpR X (compareOp .In) (rInD K) := by
  subst h
  exact op_inD hu
theorem op_notInDK (hu : X.A.units + 65 < cLine) (h : X.K = K := by rfl) : OpR X (compareOp .NotIn) (rNotInD K) := by
  subst h
  exact op_notInD hu
theorem hu65 {k : Nat} {A : Around} (r : Room k A) : A.units + 65 < cLine := by have := r.un; omega
end
end Fw

set_option Elab.async false
set_option linter.all false
set_option maxRecDepth 100000
set_option maxHeartbeats 4000000
/-! part H: list(d.values()) -/
namespace Fw
open PySem PySem.Spec PyProof.Rows L2
/-- the values of the dict at d, in their order -/
def DVals (H : Hp) (d : Addr) (vs : List V) : Prop := (∃ kvs, H d = some (.dT kvs) ∧ vs = kvs.map (·.2)) ∨ ∃ kvs, H d = some (.dK kvs) ∧ vs = kvs.map (·.2)
theorem raw_vals {P : Program} {w : World} {H : Hp} {h : Heap} {d : Addr} {vs : List V} (ok : HOk P w H h) (D : DVals H d vs) :
    (d == sysModules) = false ∧ vs.length ≤ sizeLine ∧ ∃ es ep, h.DictRaw d es ep ∧ es.size = vs.length ∧ ∀ (i : Nat) (hi : i < es.size) (v : V), vs[i]? = some v → RelV v es[i].val := by
  rcases D with ⟨kvs, e, rfl⟩ | ⟨kvs, e, rfl⟩
  · obtain ⟨z, hs, xs, pr, o, es, ep, ho, hx, hdt, he, _⟩ := ok d _ e
    have l2 : kvs.length = xs.length := Paired.length pr
    have l1 : es.size = xs.length := by rw [← Array.length_toList, he, List.length_map]
    refine ⟨hs, by rw [List.length_map]; exact z, es, ep, ⟨o, ho, hx, hdt⟩, by rw [List.length_map]; omega, fun i hi v hv => ?_⟩
    rw [List.getElem?_map] at hv
    cases q : kvs[i]? with
    | none => rw [q] at hv; cases hv
    | some kv =>
      rw [q] at hv
      cases hv
      obtain ⟨b, hb, _, _, e3⟩ := paired_get pr q
      have q1 : es.toList[i]? = some (entryOfKey (tupleKind (mixKind P w)) b) := by rw [he, List.getElem?_map, hb]; rfl
      have q2 : es[i] = entryOfKey (tupleKind (mixKind P w)) b := by
        rw [Array.getElem?_toList, Array.getElem?_eq_getElem hi] at q1
        exact Option.some.inj q1
      rw [q2]
      exact e3
  · obtain ⟨z, hs, us, kv, hdo⟩ := ok d _ e
    obtain ⟨es, ep, hr, hsz, hat⟩ := hdo.raw
    have l2 : kvs.length = us.length := Paired.length kv
    refine ⟨hs, by rw [List.length_map]; exact z, es, ep, hr, by rw [List.length_map]; omega, fun i hi v hv => ?_⟩
    rw [List.getElem?_map] at hv
    cases q : kvs[i]? with
    | none => rw [q] at hv; cases hv
    | some p =>
      rw [q] at hv
      cases hv
      obtain ⟨b, hb, e1, e3⟩ := paired_get kv q
      obtain ⟨k, u⟩ := b
      have := (hat i hi k u hb).2
      rw [this]
      exact e3
theorem vals_by : ∀ {vs : List V} {us : List Value}, us.length = vs.length → (∀ (i : Nat) (v : V) (u : Value), vs[i]? = some v → us[i]? = some u → RelV v u) → Vals vs us
  | [], [], _, _ => .nil
  | [], _ :: _, h, _ => by cases h
  | _ :: _, [], h, _ => by cases h
  | v :: vs, u :: us, h, f => .cons (f 0 v u rfl rfl) (vals_by (Nat.succ.inj h) fun i v u h1 h2 => f (i + 1) v u h1 h2)
def tListVals (te : TE) : TE := fun σ H Q => te σ H fun x H1 => ∃ (d : Addr) (vs : List V), x = .ref d ∧ DVals H1 d vs ∧ ∀ l, H1 l = none → Q (.ref l) (upd H1 l (.lst vs))
section
variable {X : Cx} {e : Expr} {te : TE} {p apos cpos pos : Pos}
/-- list(e.values()) -/
theorem pe_listVals (hc : X.calm = true) (he : PE X e te) (hg : Gl X "list") (hm : X.mg "list" = none) (hv : bootBuiltins "list" = some (.type "list")) (hbase : attributeBase e "values" X.env (eval e X.env) = eval e X.env := by rfl) (hline : (apos.endLine == cpos.line) = true := by rfl)
    (hs : starEach [.Call (.Attribute e "values" apos) [] [] cpos] X.env = (false, eval (.Call (.Attribute e "values" apos) [] [] cpos) X.env) :: starEach [] X.env := by rfl) :
    PE X (.Call (.Name "list" p) [.Call (.Attribute e "values" apos) [] [] cpos] [] pos) (tListVals te) := by
  refine ⟨fun pins s σ H Q I hq => ?_⟩
  refine wpAny_Call_Name_kw (ld_blt I hg hm hv ?_)
  refine PyProof.Rows.callWith_type1 ?_ hs rfl
  rw [hs]
  show wpAny _ _ (spliced ((false, eval (.Call (.Attribute e "values" apos) [] [] cpos) X.env) :: backTo pos (starEach [] X.env))) _ _ s
  refine Calls.spliced_cons ?_
  refine wpAny_Call_method (T := "dict") (id := "dict.values") hbase rfl hline F.plainAttrs_dict F.slot_dict_values F.type_dict_values (thn (he.run pins s σ H _ I hq) fun u s1 ⟨x, H1, I1, rx, d, vs, ex, hd, q⟩ => ?_)
  subst ex
  obtain rfl : u = Value.ref d := rx
  obtain ⟨hs0, hz, es, ep, hr, hsz, hat⟩ := raw_vals I1.hok hd
  have I2 : Inv X pins σ H1 { s1 with heap := s1.heap.push { cls := .type "dict_values", data := .fields #[.ref d] } } := I1.kept (t' := s1.toks) fun b ob q => Heap.get?_push_of_some _ q
  refine ⟨hr.typeIs, ?_, ?_⟩
  · intro a e
    cases e
    obtain ⟨o, h1, h2, _⟩ := hr
    exact ⟨o, h1, h2.2.1⟩
  show wpAny _ _ (callWith cpos (.builtin "dict.values") [.ref d] [] []) _ X.xe s1
  refine method_meetsIn F.slot_dict_values F.entry_dict_values rfl (PySem.evalArgs_none ⟨rfl, hr.typeIs, F.args_dict_values_1 _, _, meets_dict_values_raw d hs0, ⟨es, ep, hr⟩, ?_⟩)
  refine Calls.spliced_nil ?_
  refine PySem.W.kdl_call (KdlSrc.rawValues (es := es) (ep := ep)) (I1.ok.hd hc) ⟨⟨_, Heap.get?_push_size _ rfl, rfl, rfl⟩, hr.at fun o q => Heap.get?_push_of_some _ q⟩ (by omega) fun h' tk acc c hk hS hacc => ?_
  have hv : Vals vs acc.toList := by
    have e1 : acc.toList.length = vs.length := by rw [Array.length_toList, hacc.1, hsz]
    refine vals_by e1 fun i v u h1 h2 => ?_
    rw [Array.getElem?_toList] at h2
    obtain ⟨hi, e2⟩ := hacc.2 i u h2
    rw [e2]
    exact hat i hi v h1
  exact ⟨.ref _, _, I2.laid (t' := tk) (o := .lst vs) hk (Nat.le_refl _) ⟨hz, acc.toList, c, hv, by rw [Array.toArray_toList]; exact hS⟩, rfl, q _ (I2.hok.fresh (Nat.le_refl _))⟩
end
/-! ### code that is never come to -/
def tNever' : TT := fun _ _ _ => False
def tNeverE : TE := fun _ _ _ => False
theorem pts_never {X : Cx} {ifs : List Expr} : PTs X ifs tNever' := ⟨fun _ _ _ _ _ _ h => h.elim⟩
theorem pe_never {X : Cx} {e : Expr} : PE X e tNeverE := ⟨fun _ _ _ _ _ _ h => h.elim⟩
end Fw

set_option Elab.async false
set_option linter.all false
set_option maxRecDepth 100000
set_option maxHeartbeats 4000000
namespace Fw
open PySem PySem.Spec PyProof.Rows L2
def top (i : Nat) : Stmt := PySem.Challenge.pw_fellwhere_k70_starts_told.main.body.getD i (.Pass ⟨0, 0, 0, 0⟩)
abbrev s_is_whole : Stmt := top 20
abbrev s_is_from : Stmt := top 22
abbrev s_is_name : Stmt := top 23
abbrev s_starts_fault : Stmt := top 86
abbrev s_health_in : Stmt := top 87
abbrev s__law_cell_at : Stmt := top 93
abbrev s__law_mixed : Stmt := top 94
abbrev s__law_source : Stmt := top 95
abbrev s__law_next : Stmt := top 96
abbrev s__law_bad : Stmt := top 98
abbrev s__law_told : Stmt := top 99
abbrev s__law_drawn_note : Stmt := top 100
abbrev s_law : Stmt := top 101
abbrev s_Unlike_init : Stmt := inClass (top 10) 0
abbrev s_NoStarts_init : Stmt := inClass (top 14) 0
abbrev s_Cleaner_init : Stmt := inClass (top 48) 0
abbrev s_History_init : Stmt := inClass (top 63) 0
abbrev s_Rules_init : Stmt := inClass (top 77) 0
abbrev s_House_init : Stmt := inClass (top 91) 0
abbrev s_House_sure_idle : Stmt := inClass (top 91) 2
abbrev s_House_all_falls : Stmt := inClass (top 91) 11
abbrev s_House_notes : Stmt := inClass (top 91) 24
abbrev s_House_starts : Stmt := inClass (top 91) 28
abbrev s_House_health : Stmt := inClass (top 91) 29

def d_is_whole : He.DefD := ⟨("is_whole", none), "is_whole", "is_whole", defArgs s_is_whole, defBody s_is_whole, defScope s_is_whole, [], []⟩
def d_is_from : He.DefD := ⟨("is_from", none), "is_from", "is_from", defArgs s_is_from, defBody s_is_from, defScope s_is_from, [], []⟩
def d_is_name : He.DefD := ⟨("is_name", none), "is_name", "is_name", defArgs s_is_name, defBody s_is_name, defScope s_is_name, [], []⟩
def d_starts_fault : He.DefD := ⟨("starts_fault", none), "starts_fault", "starts_fault", defArgs s_starts_fault, defBody s_starts_fault, defScope s_starts_fault, [], []⟩
def d_health_in : He.DefD := ⟨("health_in", none), "health_in", "health_in", defArgs s_health_in, defBody s_health_in, defScope s_health_in, [], []⟩
def d__law_cell_at : He.DefD := ⟨("_law_cell_at", none), "_law_cell_at", "_law_cell_at", defArgs s__law_cell_at, defBody s__law_cell_at, defScope s__law_cell_at, [], []⟩
def d__law_mixed : He.DefD := ⟨("_law_mixed", none), "_law_mixed", "_law_mixed", defArgs s__law_mixed, defBody s__law_mixed, defScope s__law_mixed, [], []⟩
def d__law_source : He.DefD := ⟨("_law_source", none), "_law_source", "_law_source", defArgs s__law_source, defBody s__law_source, defScope s__law_source, [], []⟩
def d__law_next : He.DefD := ⟨("_law_next", none), "_law_next", "_law_next", defArgs s__law_next, defBody s__law_next, defScope s__law_next, [], []⟩
def d__law_bad : He.DefD := ⟨("_law_bad", none), "_law_bad", "_law_bad", defArgs s__law_bad, defBody s__law_bad, defScope s__law_bad, [], []⟩
def d__law_told : He.DefD := ⟨("_law_told", none), "_law_told", "_law_told", defArgs s__law_told, defBody s__law_told, defScope s__law_told, [], []⟩
def d__law_drawn_note : He.DefD := ⟨("_law_drawn_note", none), "_law_drawn_note", "_law_drawn_note", defArgs s__law_drawn_note, defBody s__law_drawn_note, defScope s__law_drawn_note, [], []⟩
def d_law : He.DefD := ⟨("law", none), "law", "law", defArgs s_law, defBody s_law, defScope s_law, [], []⟩
def d_Unlike_init : He.DefD := ⟨("Unlike", some "__init__"), "__init__", "Unlike.__init__", defArgs s_Unlike_init, defBody s_Unlike_init, defScope s_Unlike_init, [], []⟩
def d_NoStarts_init : He.DefD := ⟨("NoStarts", some "__init__"), "__init__", "NoStarts.__init__", defArgs s_NoStarts_init, defBody s_NoStarts_init, defScope s_NoStarts_init, [], []⟩
def d_Cleaner_init : He.DefD := ⟨("Cleaner", some "__init__"), "__init__", "Cleaner.__init__", defArgs s_Cleaner_init, defBody s_Cleaner_init, defScope s_Cleaner_init, [], []⟩
def d_History_init : He.DefD := ⟨("History", some "__init__"), "__init__", "History.__init__", defArgs s_History_init, defBody s_History_init, defScope s_History_init, [], []⟩
def d_Rules_init : He.DefD := ⟨("Rules", some "__init__"), "__init__", "Rules.__init__", defArgs s_Rules_init, defBody s_Rules_init, defScope s_Rules_init, [], []⟩
def d_House_init : He.DefD := ⟨("House", some "__init__"), "__init__", "House.__init__", defArgs s_House_init, defBody s_House_init, defScope s_House_init, [], [("rules", .non), ("cleaner", .non)]⟩
def d_House_sure_idle : He.DefD := ⟨("House", some "sure_idle"), "sure_idle", "House.sure_idle", defArgs s_House_sure_idle, defBody s_House_sure_idle, defScope s_House_sure_idle, [], []⟩
def d_House_all_falls : He.DefD := ⟨("House", some "all_falls"), "all_falls", "House.all_falls", defArgs s_House_all_falls, defBody s_House_all_falls, defScope s_House_all_falls, [], []⟩
def d_House_notes : He.DefD := ⟨("House", some "notes"), "notes", "House.notes", defArgs s_House_notes, defBody s_House_notes, defScope s_House_notes, [], []⟩
def d_House_starts : He.DefD := ⟨("House", some "starts"), "starts", "House.starts", defArgs s_House_starts, defBody s_House_starts, defScope s_House_starts, [], []⟩
def d_House_health : He.DefD := ⟨("House", some "health"), "health", "House.health", defArgs s_House_health, defBody s_House_health, defScope s_House_health, [], []⟩
def fn : List He.DefD := [d_is_whole, d_is_from, d_is_name, d_starts_fault, d_health_in, d__law_cell_at, d__law_mixed, d__law_source, d__law_next, d__law_bad, d__law_told, d__law_drawn_note, d_law, d_Unlike_init, d_NoStarts_init, d_Cleaner_init, d_History_init, d_Rules_init, d_House_init, d_House_sure_idle, d_House_all_falls, d_House_notes, d_House_starts, d_House_health]
def fa0 : List He.Fa := [.glo "is_whole", .glo "is_from", .glo "is_name", .glo "starts_fault", .glo "health_in", .glo "_law_cell_at", .glo "_law_mixed", .glo "_law_source", .glo "_law_next", .glo "_law_bad", .glo "_law_told", .glo "_law_drawn_note", .glo "law", .glo "FellError", .keep "FellError", .glo "Unlike", .keep "Unlike", .glo "NotThere", .keep "NotThere", .glo "NoLoss", .keep "NoLoss", .glo "NoStarts", .keep "NoStarts", .glo "Cleaner", .keep "Cleaner"]
def fa1 : List He.Fa := [.cls "Cleaner", .noat "Cleaner" "rows", .mkr "Cleaner", .glo "History", .keep "History", .cls "History", .noat "History" "parents", .mkr "History", .glo "Rules", .keep "Rules", .cls "Rules", .noat "Rules" "rows", .mkr "Rules", .glo "House", .keep "House", .cls "House", .noat "House" "terms", .noat "House" "broom", .noat "House" "past", .noat "House" "known_editions", .noat "House" "known_falls", .noat "House" "losses", .noat "House" "known_starts", .noat "House" "ties", .noat "House" "ended"]
def fa2 : List He.Fa := [.noat "House" "watched", .noat "House" "told_rings", .noat "House" "known_keys", .noat "House" "is_taking", .mkr "House", .meth "House" "sure_idle", .meth "House" "all_falls", .meth "House" "notes", .meth "House" "starts", .meth "House" "health", .str "LETTERS" "abcdefghijklmnopqrstuvwxyz", .int "MOST_NAME" 12, .free "all", .free "bool", .free "enumerate", .free "int", .free "isinstance", .free "len", .free "list", .free "max", .free "min", .free "range", .free "str", .free "sum"]
def fa : List He.Fa := fa0 ++ fa1 ++ fa2
def exX : List Str := ["FellError", "Unlike", "NotThere", "NoLoss", "NoStarts"]
def exI : List Str := ["Unlike", "NoStarts"]
def exP : List (Str × Str × Bool) := [("Unlike", "FellError", true), ("Unlike", "Unlike", true), ("Unlike", "NotThere", false), ("Unlike", "NoLoss", false), ("Unlike", "NoStarts", false), ("NotThere", "FellError", true), ("NotThere", "Unlike", false), ("NotThere", "NotThere", true), ("NotThere", "NoLoss", false), ("NotThere", "NoStarts", false), ("NoLoss", "FellError", true), ("NoLoss", "Unlike", false), ("NoLoss", "NotThere", false), ("NoLoss", "NoLoss", true), ("NoLoss", "NoStarts", false), ("NoStarts", "FellError", true), ("NoStarts", "Unlike", false), ("NoStarts", "NotThere", false), ("NoStarts", "NoLoss", false), ("NoStarts", "NoStarts", true)]
structure Tx (K : PySem.W.Frag) (mg : Str → Option Value) : Prop where
  g_is_whole : mg "is_whole" = some (.ref (He.ga K "is_whole"))
  g_is_from : mg "is_from" = some (.ref (He.ga K "is_from"))
  g_is_name : mg "is_name" = some (.ref (He.ga K "is_name"))
  g_starts_fault : mg "starts_fault" = some (.ref (He.ga K "starts_fault"))
  g_health_in : mg "health_in" = some (.ref (He.ga K "health_in"))
  g__law_cell_at : mg "_law_cell_at" = some (.ref (He.ga K "_law_cell_at"))
  g__law_mixed : mg "_law_mixed" = some (.ref (He.ga K "_law_mixed"))
  g__law_source : mg "_law_source" = some (.ref (He.ga K "_law_source"))
  g__law_next : mg "_law_next" = some (.ref (He.ga K "_law_next"))
  g__law_bad : mg "_law_bad" = some (.ref (He.ga K "_law_bad"))
  g__law_told : mg "_law_told" = some (.ref (He.ga K "_law_told"))
  g__law_drawn_note : mg "_law_drawn_note" = some (.ref (He.ga K "_law_drawn_note"))
  g_law : mg "law" = some (.ref (He.ga K "law"))
  g_FellError : mg "FellError" = some (.ref (He.ga K "FellError"))
  kp_FellError : PySem.W.keepIn K (.ref (He.ga K "FellError")) = true
  g_Unlike : mg "Unlike" = some (.ref (He.ga K "Unlike"))
  kp_Unlike : PySem.W.keepIn K (.ref (He.ga K "Unlike")) = true
  g_NotThere : mg "NotThere" = some (.ref (He.ga K "NotThere"))
  kp_NotThere : PySem.W.keepIn K (.ref (He.ga K "NotThere")) = true
  g_NoLoss : mg "NoLoss" = some (.ref (He.ga K "NoLoss"))
  kp_NoLoss : PySem.W.keepIn K (.ref (He.ga K "NoLoss")) = true
  g_NoStarts : mg "NoStarts" = some (.ref (He.ga K "NoStarts"))
  kp_NoStarts : PySem.W.keepIn K (.ref (He.ga K "NoStarts")) = true
  g_Cleaner : mg "Cleaner" = some (.ref (He.ga K "Cleaner"))
  kp_Cleaner : PySem.W.keepIn K (.ref (He.ga K "Cleaner")) = true
  c_Cleaner : Cls K (He.ga K "Cleaner")
  n_Cleaner_rows : NoAttr K (He.ga K "Cleaner") "rows"
  mk_Cleaner : Mk K (He.ga K "Cleaner") (He.ma K (He.ga K "Cleaner") "__init__")
  g_History : mg "History" = some (.ref (He.ga K "History"))
  kp_History : PySem.W.keepIn K (.ref (He.ga K "History")) = true
  c_History : Cls K (He.ga K "History")
  n_History_parents : NoAttr K (He.ga K "History") "parents"
  mk_History : Mk K (He.ga K "History") (He.ma K (He.ga K "History") "__init__")
  g_Rules : mg "Rules" = some (.ref (He.ga K "Rules"))
  kp_Rules : PySem.W.keepIn K (.ref (He.ga K "Rules")) = true
  c_Rules : Cls K (He.ga K "Rules")
  n_Rules_rows : NoAttr K (He.ga K "Rules") "rows"
  mk_Rules : Mk K (He.ga K "Rules") (He.ma K (He.ga K "Rules") "__init__")
  g_House : mg "House" = some (.ref (He.ga K "House"))
  kp_House : PySem.W.keepIn K (.ref (He.ga K "House")) = true
  c_House : Cls K (He.ga K "House")
  n_House_terms : NoAttr K (He.ga K "House") "terms"
  n_House_broom : NoAttr K (He.ga K "House") "broom"
  n_House_past : NoAttr K (He.ga K "House") "past"
  n_House_known_editions : NoAttr K (He.ga K "House") "known_editions"
  n_House_known_falls : NoAttr K (He.ga K "House") "known_falls"
  n_House_losses : NoAttr K (He.ga K "House") "losses"
  n_House_known_starts : NoAttr K (He.ga K "House") "known_starts"
  n_House_ties : NoAttr K (He.ga K "House") "ties"
  n_House_ended : NoAttr K (He.ga K "House") "ended"
  n_House_watched : NoAttr K (He.ga K "House") "watched"
  n_House_told_rings : NoAttr K (He.ga K "House") "told_rings"
  n_House_known_keys : NoAttr K (He.ga K "House") "known_keys"
  n_House_is_taking : NoAttr K (He.ga K "House") "is_taking"
  mk_House : Mk K (He.ga K "House") (He.ma K (He.ga K "House") "__init__")
  m_House_sure_idle : Meth K (He.ga K "House") "sure_idle" (He.ma K (He.ga K "House") "sure_idle")
  m_House_all_falls : Meth K (He.ga K "House") "all_falls" (He.ma K (He.ga K "House") "all_falls")
  m_House_notes : Meth K (He.ga K "House") "notes" (He.ma K (He.ga K "House") "notes")
  m_House_starts : Meth K (He.ga K "House") "starts" (He.ma K (He.ga K "House") "starts")
  m_House_health : Meth K (He.ga K "House") "health" (He.ma K (He.ga K "House") "health")
  k_LETTERS : ∃ t, mg "LETTERS" = some (.str "abcdefghijklmnopqrstuvwxyz" t)
  k_MOST_NAME : ∃ t, mg "MOST_NAME" = some (.int 12 t)
  b_all : mg "all" = none
  b_bool : mg "bool" = none
  b_enumerate : mg "enumerate" = none
  b_int : mg "int" = none
  b_isinstance : mg "isinstance" = none
  b_len : mg "len" = none
  b_list : mg "list" = none
  b_max : mg "max" = none
  b_min : mg "min" = none
  b_range : mg "range" = none
  b_str : mg "str" = none
  b_sum : mg "sum" = none
  f_is_whole : FunD K d_is_whole.name d_is_whole.qual (defArgs s_is_whole) (defBody s_is_whole) (defScope s_is_whole) (d_is_whole.dvs K) (d_is_whole.kws K) (He.fAd K d_is_whole.at_) (fdOf K (He.fAd K d_is_whole.at_))
  f_is_from : FunD K d_is_from.name d_is_from.qual (defArgs s_is_from) (defBody s_is_from) (defScope s_is_from) (d_is_from.dvs K) (d_is_from.kws K) (He.fAd K d_is_from.at_) (fdOf K (He.fAd K d_is_from.at_))
  f_is_name : FunD K d_is_name.name d_is_name.qual (defArgs s_is_name) (defBody s_is_name) (defScope s_is_name) (d_is_name.dvs K) (d_is_name.kws K) (He.fAd K d_is_name.at_) (fdOf K (He.fAd K d_is_name.at_))
  f_starts_fault : FunD K d_starts_fault.name d_starts_fault.qual (defArgs s_starts_fault) (defBody s_starts_fault) (defScope s_starts_fault) (d_starts_fault.dvs K) (d_starts_fault.kws K) (He.fAd K d_starts_fault.at_) (fdOf K (He.fAd K d_starts_fault.at_))
  f_health_in : FunD K d_health_in.name d_health_in.qual (defArgs s_health_in) (defBody s_health_in) (defScope s_health_in) (d_health_in.dvs K) (d_health_in.kws K) (He.fAd K d_health_in.at_) (fdOf K (He.fAd K d_health_in.at_))
  f__law_cell_at : FunD K d__law_cell_at.name d__law_cell_at.qual (defArgs s__law_cell_at) (defBody s__law_cell_at) (defScope s__law_cell_at) (d__law_cell_at.dvs K) (d__law_cell_at.kws K) (He.fAd K d__law_cell_at.at_) (fdOf K (He.fAd K d__law_cell_at.at_))
  f__law_mixed : FunD K d__law_mixed.name d__law_mixed.qual (defArgs s__law_mixed) (defBody s__law_mixed) (defScope s__law_mixed) (d__law_mixed.dvs K) (d__law_mixed.kws K) (He.fAd K d__law_mixed.at_) (fdOf K (He.fAd K d__law_mixed.at_))
  f__law_source : FunD K d__law_source.name d__law_source.qual (defArgs s__law_source) (defBody s__law_source) (defScope s__law_source) (d__law_source.dvs K) (d__law_source.kws K) (He.fAd K d__law_source.at_) (fdOf K (He.fAd K d__law_source.at_))
  f__law_next : FunD K d__law_next.name d__law_next.qual (defArgs s__law_next) (defBody s__law_next) (defScope s__law_next) (d__law_next.dvs K) (d__law_next.kws K) (He.fAd K d__law_next.at_) (fdOf K (He.fAd K d__law_next.at_))
  f__law_bad : FunD K d__law_bad.name d__law_bad.qual (defArgs s__law_bad) (defBody s__law_bad) (defScope s__law_bad) (d__law_bad.dvs K) (d__law_bad.kws K) (He.fAd K d__law_bad.at_) (fdOf K (He.fAd K d__law_bad.at_))
  f__law_told : FunD K d__law_told.name d__law_told.qual (defArgs s__law_told) (defBody s__law_told) (defScope s__law_told) (d__law_told.dvs K) (d__law_told.kws K) (He.fAd K d__law_told.at_) (fdOf K (He.fAd K d__law_told.at_))
  f__law_drawn_note : FunD K d__law_drawn_note.name d__law_drawn_note.qual (defArgs s__law_drawn_note) (defBody s__law_drawn_note) (defScope s__law_drawn_note) (d__law_drawn_note.dvs K) (d__law_drawn_note.kws K) (He.fAd K d__law_drawn_note.at_) (fdOf K (He.fAd K d__law_drawn_note.at_))
  f_law : FunD K d_law.name d_law.qual (defArgs s_law) (defBody s_law) (defScope s_law) (d_law.dvs K) (d_law.kws K) (He.fAd K d_law.at_) (fdOf K (He.fAd K d_law.at_))
  f_Unlike_init : FunD K d_Unlike_init.name d_Unlike_init.qual (defArgs s_Unlike_init) (defBody s_Unlike_init) (defScope s_Unlike_init) (d_Unlike_init.dvs K) (d_Unlike_init.kws K) (He.fAd K d_Unlike_init.at_) (fdOf K (He.fAd K d_Unlike_init.at_))
  f_NoStarts_init : FunD K d_NoStarts_init.name d_NoStarts_init.qual (defArgs s_NoStarts_init) (defBody s_NoStarts_init) (defScope s_NoStarts_init) (d_NoStarts_init.dvs K) (d_NoStarts_init.kws K) (He.fAd K d_NoStarts_init.at_) (fdOf K (He.fAd K d_NoStarts_init.at_))
  f_Cleaner_init : FunD K d_Cleaner_init.name d_Cleaner_init.qual (defArgs s_Cleaner_init) (defBody s_Cleaner_init) (defScope s_Cleaner_init) (d_Cleaner_init.dvs K) (d_Cleaner_init.kws K) (He.fAd K d_Cleaner_init.at_) (fdOf K (He.fAd K d_Cleaner_init.at_))
  f_History_init : FunD K d_History_init.name d_History_init.qual (defArgs s_History_init) (defBody s_History_init) (defScope s_History_init) (d_History_init.dvs K) (d_History_init.kws K) (He.fAd K d_History_init.at_) (fdOf K (He.fAd K d_History_init.at_))
  f_Rules_init : FunD K d_Rules_init.name d_Rules_init.qual (defArgs s_Rules_init) (defBody s_Rules_init) (defScope s_Rules_init) (d_Rules_init.dvs K) (d_Rules_init.kws K) (He.fAd K d_Rules_init.at_) (fdOf K (He.fAd K d_Rules_init.at_))
  f_House_init : FunD K d_House_init.name d_House_init.qual (defArgs s_House_init) (defBody s_House_init) (defScope s_House_init) (d_House_init.dvs K) (d_House_init.kws K) (He.fAd K d_House_init.at_) (fdOf K (He.fAd K d_House_init.at_))
  f_House_sure_idle : FunD K d_House_sure_idle.name d_House_sure_idle.qual (defArgs s_House_sure_idle) (defBody s_House_sure_idle) (defScope s_House_sure_idle) (d_House_sure_idle.dvs K) (d_House_sure_idle.kws K) (He.fAd K d_House_sure_idle.at_) (fdOf K (He.fAd K d_House_sure_idle.at_))
  f_House_all_falls : FunD K d_House_all_falls.name d_House_all_falls.qual (defArgs s_House_all_falls) (defBody s_House_all_falls) (defScope s_House_all_falls) (d_House_all_falls.dvs K) (d_House_all_falls.kws K) (He.fAd K d_House_all_falls.at_) (fdOf K (He.fAd K d_House_all_falls.at_))
  f_House_notes : FunD K d_House_notes.name d_House_notes.qual (defArgs s_House_notes) (defBody s_House_notes) (defScope s_House_notes) (d_House_notes.dvs K) (d_House_notes.kws K) (He.fAd K d_House_notes.at_) (fdOf K (He.fAd K d_House_notes.at_))
  f_House_starts : FunD K d_House_starts.name d_House_starts.qual (defArgs s_House_starts) (defBody s_House_starts) (defScope s_House_starts) (d_House_starts.dvs K) (d_House_starts.kws K) (He.fAd K d_House_starts.at_) (fdOf K (He.fAd K d_House_starts.at_))
  f_House_health : FunD K d_House_health.name d_House_health.qual (defArgs s_House_health) (defBody s_House_health) (defScope s_House_health) (d_House_health.dvs K) (d_House_health.kws K) (He.fAd K d_House_health.at_) (fdOf K (He.fAd K d_House_health.at_))
  ex : exOk K exX exI exP = true
theorem tx_of {K : PySem.W.Frag} {h : Heap} {mg : Str → Option Value} (X : K.In h) (G : h.Ns mainGlobals mg) (c : He.SaysD fa fn K) (e : exOk K exX exI exP = true) : Tx K mg where
  g_is_whole := He.glo_ok X G (c.fact 0 (f := .glo "is_whole") rfl)
  g_is_from := He.glo_ok X G (c.fact 1 (f := .glo "is_from") rfl)
  g_is_name := He.glo_ok X G (c.fact 2 (f := .glo "is_name") rfl)
  g_starts_fault := He.glo_ok X G (c.fact 3 (f := .glo "starts_fault") rfl)
  g_health_in := He.glo_ok X G (c.fact 4 (f := .glo "health_in") rfl)
  g__law_cell_at := He.glo_ok X G (c.fact 5 (f := .glo "_law_cell_at") rfl)
  g__law_mixed := He.glo_ok X G (c.fact 6 (f := .glo "_law_mixed") rfl)
  g__law_source := He.glo_ok X G (c.fact 7 (f := .glo "_law_source") rfl)
  g__law_next := He.glo_ok X G (c.fact 8 (f := .glo "_law_next") rfl)
  g__law_bad := He.glo_ok X G (c.fact 9 (f := .glo "_law_bad") rfl)
  g__law_told := He.glo_ok X G (c.fact 10 (f := .glo "_law_told") rfl)
  g__law_drawn_note := He.glo_ok X G (c.fact 11 (f := .glo "_law_drawn_note") rfl)
  g_law := He.glo_ok X G (c.fact 12 (f := .glo "law") rfl)
  g_FellError := He.glo_ok X G (c.fact 13 (f := .glo "FellError") rfl)
  kp_FellError := He.keep_ok (c.fact 14 (f := .keep "FellError") rfl)
  g_Unlike := He.glo_ok X G (c.fact 15 (f := .glo "Unlike") rfl)
  kp_Unlike := He.keep_ok (c.fact 16 (f := .keep "Unlike") rfl)
  g_NotThere := He.glo_ok X G (c.fact 17 (f := .glo "NotThere") rfl)
  kp_NotThere := He.keep_ok (c.fact 18 (f := .keep "NotThere") rfl)
  g_NoLoss := He.glo_ok X G (c.fact 19 (f := .glo "NoLoss") rfl)
  kp_NoLoss := He.keep_ok (c.fact 20 (f := .keep "NoLoss") rfl)
  g_NoStarts := He.glo_ok X G (c.fact 21 (f := .glo "NoStarts") rfl)
  kp_NoStarts := He.keep_ok (c.fact 22 (f := .keep "NoStarts") rfl)
  g_Cleaner := He.glo_ok X G (c.fact 23 (f := .glo "Cleaner") rfl)
  kp_Cleaner := He.keep_ok (c.fact 24 (f := .keep "Cleaner") rfl)
  c_Cleaner := He.cls_ok (c.fact 25 (f := .cls "Cleaner") rfl)
  n_Cleaner_rows := He.noat_ok (c.fact 26 (f := .noat "Cleaner" "rows") rfl)
  mk_Cleaner := He.mkr_ok (c.fact 27 (f := .mkr "Cleaner") rfl)
  g_History := He.glo_ok X G (c.fact 28 (f := .glo "History") rfl)
  kp_History := He.keep_ok (c.fact 29 (f := .keep "History") rfl)
  c_History := He.cls_ok (c.fact 30 (f := .cls "History") rfl)
  n_History_parents := He.noat_ok (c.fact 31 (f := .noat "History" "parents") rfl)
  mk_History := He.mkr_ok (c.fact 32 (f := .mkr "History") rfl)
  g_Rules := He.glo_ok X G (c.fact 33 (f := .glo "Rules") rfl)
  kp_Rules := He.keep_ok (c.fact 34 (f := .keep "Rules") rfl)
  c_Rules := He.cls_ok (c.fact 35 (f := .cls "Rules") rfl)
  n_Rules_rows := He.noat_ok (c.fact 36 (f := .noat "Rules" "rows") rfl)
  mk_Rules := He.mkr_ok (c.fact 37 (f := .mkr "Rules") rfl)
  g_House := He.glo_ok X G (c.fact 38 (f := .glo "House") rfl)
  kp_House := He.keep_ok (c.fact 39 (f := .keep "House") rfl)
  c_House := He.cls_ok (c.fact 40 (f := .cls "House") rfl)
  n_House_terms := He.noat_ok (c.fact 41 (f := .noat "House" "terms") rfl)
  n_House_broom := He.noat_ok (c.fact 42 (f := .noat "House" "broom") rfl)
  n_House_past := He.noat_ok (c.fact 43 (f := .noat "House" "past") rfl)
  n_House_known_editions := He.noat_ok (c.fact 44 (f := .noat "House" "known_editions") rfl)
  n_House_known_falls := He.noat_ok (c.fact 45 (f := .noat "House" "known_falls") rfl)
  n_House_losses := He.noat_ok (c.fact 46 (f := .noat "House" "losses") rfl)
  n_House_known_starts := He.noat_ok (c.fact 47 (f := .noat "House" "known_starts") rfl)
  n_House_ties := He.noat_ok (c.fact 48 (f := .noat "House" "ties") rfl)
  n_House_ended := He.noat_ok (c.fact 49 (f := .noat "House" "ended") rfl)
  n_House_watched := He.noat_ok (c.fact 50 (f := .noat "House" "watched") rfl)
  n_House_told_rings := He.noat_ok (c.fact 51 (f := .noat "House" "told_rings") rfl)
  n_House_known_keys := He.noat_ok (c.fact 52 (f := .noat "House" "known_keys") rfl)
  n_House_is_taking := He.noat_ok (c.fact 53 (f := .noat "House" "is_taking") rfl)
  mk_House := He.mkr_ok (c.fact 54 (f := .mkr "House") rfl)
  m_House_sure_idle := He.meth_ok (c.fact 55 (f := .meth "House" "sure_idle") rfl)
  m_House_all_falls := He.meth_ok (c.fact 56 (f := .meth "House" "all_falls") rfl)
  m_House_notes := He.meth_ok (c.fact 57 (f := .meth "House" "notes") rfl)
  m_House_starts := He.meth_ok (c.fact 58 (f := .meth "House" "starts") rfl)
  m_House_health := He.meth_ok (c.fact 59 (f := .meth "House" "health") rfl)
  k_LETTERS := He.str_ok X G (c.fact 60 (f := .str "LETTERS" "abcdefghijklmnopqrstuvwxyz") rfl)
  k_MOST_NAME := He.int_ok X G (c.fact 61 (f := .int "MOST_NAME" 12) rfl)
  b_all := He.free_ok X G (c.fact 62 (f := .free "all") rfl)
  b_bool := He.free_ok X G (c.fact 63 (f := .free "bool") rfl)
  b_enumerate := He.free_ok X G (c.fact 64 (f := .free "enumerate") rfl)
  b_int := He.free_ok X G (c.fact 65 (f := .free "int") rfl)
  b_isinstance := He.free_ok X G (c.fact 66 (f := .free "isinstance") rfl)
  b_len := He.free_ok X G (c.fact 67 (f := .free "len") rfl)
  b_list := He.free_ok X G (c.fact 68 (f := .free "list") rfl)
  b_max := He.free_ok X G (c.fact 69 (f := .free "max") rfl)
  b_min := He.free_ok X G (c.fact 70 (f := .free "min") rfl)
  b_range := He.free_ok X G (c.fact 71 (f := .free "range") rfl)
  b_str := He.free_ok X G (c.fact 72 (f := .free "str") rfl)
  b_sum := He.free_ok X G (c.fact 73 (f := .free "sum") rfl)
  f_is_whole := funD_fd (c.def_ 0 (d := d_is_whole) rfl)
  f_is_from := funD_fd (c.def_ 1 (d := d_is_from) rfl)
  f_is_name := funD_fd (c.def_ 2 (d := d_is_name) rfl)
  f_starts_fault := funD_fd (c.def_ 3 (d := d_starts_fault) rfl)
  f_health_in := funD_fd (c.def_ 4 (d := d_health_in) rfl)
  f__law_cell_at := funD_fd (c.def_ 5 (d := d__law_cell_at) rfl)
  f__law_mixed := funD_fd (c.def_ 6 (d := d__law_mixed) rfl)
  f__law_source := funD_fd (c.def_ 7 (d := d__law_source) rfl)
  f__law_next := funD_fd (c.def_ 8 (d := d__law_next) rfl)
  f__law_bad := funD_fd (c.def_ 9 (d := d__law_bad) rfl)
  f__law_told := funD_fd (c.def_ 10 (d := d__law_told) rfl)
  f__law_drawn_note := funD_fd (c.def_ 11 (d := d__law_drawn_note) rfl)
  f_law := funD_fd (c.def_ 12 (d := d_law) rfl)
  f_Unlike_init := funD_fd (c.def_ 13 (d := d_Unlike_init) rfl)
  f_NoStarts_init := funD_fd (c.def_ 14 (d := d_NoStarts_init) rfl)
  f_Cleaner_init := funD_fd (c.def_ 15 (d := d_Cleaner_init) rfl)
  f_History_init := funD_fd (c.def_ 16 (d := d_History_init) rfl)
  f_Rules_init := funD_fd (c.def_ 17 (d := d_Rules_init) rfl)
  f_House_init := funD_fd (c.def_ 18 (d := d_House_init) rfl)
  f_House_sure_idle := funD_fd (c.def_ 19 (d := d_House_sure_idle) rfl)
  f_House_all_falls := funD_fd (c.def_ 20 (d := d_House_all_falls) rfl)
  f_House_notes := funD_fd (c.def_ 21 (d := d_House_notes) rfl)
  f_House_starts := funD_fd (c.def_ 22 (d := d_House_starts) rfl)
  f_House_health := funD_fd (c.def_ 23 (d := d_House_health) rfl)
  ex := e
end Fw

set_option Elab.async false
set_option linter.all false
set_option maxRecDepth 100000
set_option maxHeartbeats 4000000
namespace Fw
open PySem PySem.Spec PyProof.Rows L2
local macro_rules | `(tactic| walk_at "rd") => `(tactic| dsimp only [cxOf, tRet, tAndV, tOrV, tNotV, tCB, tCons, tNil, tC, tVar, tSeq, tIfS, tNext, tTest, tOp, tB, tAnd, tOr, tNot, tChain, tCall, rI0, rI, gName, tYes, iStr, tIf, tAsg, tDrop, tRetN, iList, iTup, gTup, gCons, gNil, tTup, tLst, tMeth, tFld, tSl, tNoPart, tPart, tBM, tBM0, tUn, rU, tVeI, tOst, iEnum, iRng1, iRng2, sFld, tMake, tDNewK, tDNewT])
section
variable {P : Program} {w : World} {K : PySem.W.Frag} {mg : Str → Option Value} {base : Heap}
abbrev Ok (P : Program) (w : World) (K : PySem.W.Frag) (mg : Str → Option Value) (base : Heap) (k : Nat) (d : He.DefD) (ps : List Str) (sp : Sp) : Prop := FnOk P w K mg base (L2.CX P w) k (He.fAd K d.at_) (fdOf K (He.fAd K d.at_)) ps sp
/-! ### is_whole -/
def sp_is_whole (K : PySem.W.Frag) : Sp := fun vs H Q _ => ∃ v, vs = [v] ∧ Any K H v ∧ Q (.bl (isI v)) H
theorem sc_is_whole : FnScope ["thing"] ["thing"] (defScope s_is_whole) := ⟨rfl, rfl, rfl, by decide +kernel, rfl, by decide +kernel, by decide +kernel⟩
theorem ok_is_whole (T : Tx K mg) : Ok P w K mg base 1 d_is_whole ["thing"] (sp_is_whole K) := by
  refine T.f_is_whole.ok sc_is_whole (fun vs H Q E h => ?_) (fun cdv A outer s H vs Q E hr h => ?_)
  · obtain ⟨v, rfl, _⟩ := h
    rfl
  · obtain ⟨v, rfl, a, q⟩ := h
    refine ⟨_, pss_one (ps_ret (pe_and (pe_callB call_isi rfl T.b_isinstance bt_isi (pa_cons (pv 0) (pa_cons (bt T.b_int bt_int) pa_nil)))
      (pe_one (pe_not (pe_callB call_isi rfl T.b_isinstance bt_isi (pa_cons (pv 0) (pa_cons (bt T.b_bool bt_bool) pa_nil))))))), ?_⟩
    walk_at "rd"
    refine ⟨v, rfl, isi_int a ⟨_, rfl, ?_⟩⟩
    cases v with
    | int i => exact iteT ⟨_, rfl, isi_bool a ⟨_, rfl, q⟩⟩
    | bl b => exact iteT ⟨_, rfl, isi_bool a ⟨_, rfl, q⟩⟩
    | _ => exact iteF q
theorem bi_is_whole (T : Tx K mg) : Binds K (fdOf K (He.fAd K d_is_whole.at_)) ["thing"] [] := T.f_is_whole.bindsN fun _ _ _ _ _ _ us hl => match us, hl with | [_], _ => rfl

/-! ### is_from -/
def fromV (v : V) (lo : Int) : Bool := match v with
  | .int i => decide (lo ≤ i)
  | _ => false
def sp_is_from (K : PySem.W.Frag) : Sp := fun vs H Q _ => ∃ v lo, vs = [v, .int lo] ∧ Any K H v ∧ Q (.bl (fromV v lo)) H
theorem sc_is_from : FnScope ["thing", "low"] ["thing", "low"] (defScope s_is_from) := ⟨rfl, rfl, rfl, by decide +kernel, rfl, by decide +kernel, by decide +kernel⟩
theorem ok_is_from (T : Tx K mg) : Ok P w K mg base 2 d_is_from ["thing", "low"] (sp_is_from K) := by
  refine T.f_is_from.ok sc_is_from (fun vs H Q E h => ?_) (fun cdv A outer s H vs Q E hr h => ?_)
  · obtain ⟨v, lo, rfl, _⟩ := h
    rfl
  · obtain ⟨v, lo, rfl, a, q⟩ := h
    refine ⟨_, pss_one (ps_ret (pe_and (pe_call (ok_is_whole T) hr rfl T.g_is_whole T.f_is_whole.kp (bi_is_whole T) .nil psE (pa_cons (pv 0) pa_nil))
      (pe_one (pe_cmpR op_ge (pv 0) (pv 1) (nomark _))))), ?_⟩
    walk_at "rd"
    refine ⟨v, rfl, v, rfl, a, _, rfl, ?_⟩
    cases v with
    | int i => exact iteT ⟨_, rfl, _, rfl, _, _, rfl, rfl, q⟩
    | _ => exact iteF q
theorem bi_is_from (T : Tx K mg) : Binds K (fdOf K (He.fAd K d_is_from.at_)) ["thing", "low"] [] := T.f_is_from.bindsN fun _ _ _ _ _ _ us hl => match us, hl with | [_, _], _ => rfl
/-! ### is_name -/
def letters : Str := "abcdefghijklmnopqrstuvwxyz"
def sgnOk (c : Nat) : Bool := decide (c ∈ letters.cps.toList) || decide (V.str ⟨#[c]⟩ = V.str ("_" : Str))
def nameB (z : Str) : Bool := decide (1 ≤ z.length) && (decide (z.length ≤ 12) && (decide (z.cps.toList.headD 0 ∈ letters.cps.toList) && z.cps.toList.all sgnOk))
def nameV (v : V) : Bool := match v with
  | .str z => nameB z
  | _ => false
def sp_is_name (K : PySem.W.Frag) : Sp := fun vs H Q _ => ∃ v, vs = [v] ∧ Any K H v ∧ (∀ z, v = .str z → z.length ≤ sizeLine) ∧ ∀ H', Same H H' → Q (.bl (nameV v)) H'
theorem sc_is_name : FnScope ["thing", "sign"] ["thing"] (defScope s_is_name) := ⟨rfl, rfl, rfl, by decide +kernel, rfl, by decide +kernel, by decide +kernel⟩
theorem ok_is_name (T : Tx K mg) : Ok P w K mg base 1 d_is_name ["thing"] (sp_is_name K) := by
  refine T.f_is_name.ok sc_is_name (fun vs H Q E h => ?_) (fun cdv A outer s H vs Q E hr h => ?_)
  · obtain ⟨v, rfl, _⟩ := h
    rfl
  · obtain ⟨v, rfl, a, hz, q⟩ := h
    refine ⟨_, pss_cons (ps_if (PW.pt (pw_or (pt_not (pt_val (pe_callB call_isi rfl T.b_isinstance bt_isi (pa_cons (pv 0) (pa_cons (bt T.b_str bt_str) pa_nil)))))
        (pw_or (pt_not (pt_chain op_le op_le pe_int (pe_callB call_len_str rfl T.b_len bt_len (pa_cons (pv 0) pa_nil)) (gi T.k_MOST_NAME)))
        (pw_or1 (pt_cmpR op_notIn_sign (pe_ix ix_str (pv 0) pe_int (fun _ _ => rfl)) (gs T.k_LETTERS) rfl))))) (pss_one (ps_ret pe_bl)) pss_nil)
      (pss_one (ps_ret (pe_callB (cr_all rfl) rfl T.b_all bt_all (pa_cons (pe_lc (own := [("sign", 1)]) (g := gName 1) (tt := tYes) rfl sc_is_name.nd (pi_str (pv 0)) (blkOk_by (N := ["thing", "sign"]) (sc := defScope s_is_name) (by decide +kernel))
        (fun _ _ _ _ _ => pg_name (i := 1) sc_is_name.nd rfl (Or.inl rfl)) (fun _ _ _ _ _ => pts_nil)
        (fun _ _ _ _ _ => pe_or (pe_cmpR op_in_sign (pv 1) (gs T.k_LETTERS) rfl) (pe_one (pe_cmpR op_eq (pv 1) pe_str (nomark _))))) pa_nil)))), ?_⟩
    walk_at "rd"
    refine ⟨v, rfl, isi_str a ⟨_, rfl, ?_⟩⟩
    by_cases hs : isS v = true
    · obtain ⟨z, rfl⟩ : ∃ z, v = .str z := by
        cases v <;> first | exact ⟨_, rfl⟩ | cases hs
      refine iteF ⟨_, rfl, z, rfl, hz z rfl, 1, (z.length : Int), rfl, rfl, _, rfl, ?_⟩
      have fin : nameB z = false → Q (.bl false) H := fun e => by
        have := q H (Same.refl _)
        rw [show nameV (.str z) = false from e] at this
        exact this
      refine ite2 (fun h1 => ?_) (fun h1 => ?_)
      · have h1' : 1 ≤ z.length := by have := of_decide_eq_true h1; omega
        refine ⟨_, _, rfl, rfl, _, rfl, ?_⟩
        by_cases h2 : z.length ≤ 12
        · obtain ⟨c, cs, hc⟩ : ∃ c cs, z.cps.toList = c :: cs := by
            cases e : z.cps.toList with
            | nil =>
              have : z.length = 0 := by
                show z.cps.size = 0
                rw [← Array.length_toList, e]; rfl
              omega
            | cons c cs => exact ⟨c, cs, rfl⟩
          rw [show decide ((z.length : Int) ≤ 12) = true from decide_eq_true (by omega)]
          refine iteF ?_
          refine ⟨_, rfl, z, 0, c, rfl, rfl, hz z rfl, ?_, c, letters, rfl, rfl, _, rfl, ?_⟩
          · rw [hc]; exact atI_nat (xs := c :: cs) (j := 0) rfl
          by_cases h3 : c ∈ letters.cps.toList
          · rw [decide_eq_true h3]
            refine iteF ?_
            refine lc_in ?_
            walk_at "rd"
            refine ⟨_, rfl, z, rfl, ?_⟩
            have hsz : z.cps.size ≤ 12 := h2
            refine lc_map runs_str (by omega) (fun i => .bl (sgnOk (z.cps.toList.getD i 0))) (fun ms' i x H2 Ky Kn hi s1 s2 ⟨c2, hc2, hx⟩ ky => ?_) fun D H2 s2 hD hH2 => ?_
            · subst hx
              walk_at "rd"
              refine ⟨rfl, iteT ⟨_, rfl, c2, letters, rfl, rfl, _, rfl, ?_⟩⟩
              have e : z.cps.toList.getD i 0 = c2 := by rw [List.getD_eq_getElem?_getD, hc2]; rfl
              refine ite2 (fun hm => ?_) (fun hm => ?_)
              · have k := ky H2 (Same.refl _)
                have z1 : sgnOk c2 = true := by unfold sgnOk; rw [hm]; rfl
                rw [e, z1] at k
                exact k
              · refine ⟨_, rfl, rfl, ?_⟩
                have k := ky H2 (Same.refl _)
                have hm' : decide (c2 ∈ letters.cps.toList) = false := by simpa using hm
                have z1 : sgnOk c2 = decide (V.str ⟨#[c2]⟩ = V.str ("_" : Str)) := by unfold sgnOk; rw [hm', Bool.false_or]
                rw [e, z1] at k
                exact k
            · refine ⟨D, (List.range z.cps.size).map fun i => sgnOk (z.cps.toList.getD i 0), rfl, .of (by rw [hH2, List.map_map]; rfl), ?_⟩
              have k := q H2 s2
              have e2 : ((List.range z.cps.size).map fun i => sgnOk (z.cps.toList.getD i 0)).all id = z.cps.toList.all sgnOk := by
                rw [List.all_map]
                have : z.cps.toList = (List.range z.cps.size).map fun i => z.cps.toList.getD i 0 := by
                  apply List.ext_getElem?
                  intro i
                  by_cases hi : i < z.cps.size
                  · simp [hi]
                  · simp [hi]
                conv => rhs; rw [this, List.all_map]
                rfl
              rw [e2]
              have e3 : nameV (.str z) = z.cps.toList.all sgnOk := by
                show nameB z = _
                unfold nameB
                rw [decide_eq_true h1', decide_eq_true h2, hc]
                show (decide (c ∈ letters.cps.toList) && _) = _
                rw [decide_eq_true h3]
                rfl
              rw [e3] at k
              exact k
          · rw [decide_eq_false h3]
            refine iteT (fin ?_)
            unfold nameB
            rw [hc]
            show (_ && (_ && (decide (c ∈ letters.cps.toList) && _))) = false
            rw [decide_eq_false h3]
            simp
        · rw [show decide ((z.length : Int) ≤ 12) = false from decide_eq_false (by omega)]
          refine iteT (fin ?_)
          unfold nameB
          rw [decide_eq_false h2]
          simp
      · refine ⟨_, rfl, iteT (iteT (fin ?_))⟩
        have h1' : ¬ 1 ≤ z.length := fun h => h1 (decide_eq_true (by omega))
        unfold nameB
        rw [decide_eq_false h1']
        rfl
    · have e : isS v = false := by simpa using hs
      rw [e]
      refine iteT ?_
      have k := q H (Same.refl _)
      have e2 : nameV v = false := by
        cases v <;> first | rfl | cases e
      rw [e2] at k
      exact iteT k
theorem bi_is_name (T : Tx K mg) : Binds K (fdOf K (He.fAd K d_is_name.at_)) ["thing"] [] := T.f_is_name.bindsN fun _ _ _ _ _ _ us hl => match us, hl with | [_], _ => rfl
/-! ### starts_fault -/
def Sz (v : V) : Prop := ∀ z, v = .str z → z.length ≤ sizeLine
def startsF (a b c d : V) : V := if nameV a = false then .str "sender" else if fromV b 1 = false then .str "number" else if nameV c = false then .str "edition" else if fromV d 1 = true then .non else .str "many"
def sp_starts_fault (K : PySem.W.Frag) : Sp := fun vs H Q _ => ∃ a b c d, vs = [a, b, c, d] ∧ (Any K H a ∧ Sz a) ∧ Any K H b ∧ (Any K H c ∧ Sz c) ∧ Any K H d ∧ ∀ H', Same H H' → Q (startsF a b c d) H'
theorem sc_starts_fault : FnScope ["sender", "number", "edition", "many"] ["sender", "number", "edition", "many"] (defScope s_starts_fault) := ⟨rfl, rfl, rfl, by decide +kernel, rfl, by decide +kernel, by decide +kernel⟩
theorem ok_starts_fault (T : Tx K mg) : Ok P w K mg base 3 d_starts_fault ["sender", "number", "edition", "many"] (sp_starts_fault K) := by
  refine T.f_starts_fault.ok sc_starts_fault (fun vs H Q E h => ?_) (fun cdv A outer s H vs Q E hr h => ?_)
  · obtain ⟨a, b, c, d, rfl, _⟩ := h
    rfl
  · obtain ⟨a, b, c, d, rfl, ⟨ha, za⟩, hb, ⟨hc, zc⟩, hd, q⟩ := h
    have hr1 : Room 1 _ := hr.mono (by decide)
    refine ⟨_, pss_cons (ps_if (pt_not (pt_val (pe_call (ok_is_name T) hr1 rfl T.g_is_name T.f_is_name.kp (bi_is_name T) .nil psE (pa_cons (pv 0) pa_nil)))) (pss_one (ps_ret pe_str)) pss_nil)
      (pss_cons (ps_if (pt_not (pt_val (pe_call (ok_is_from T) hr rfl T.g_is_from T.f_is_from.kp (bi_is_from T) .nil psE (pa_cons (pv 1) (pa_cons pe_int pa_nil))))) (pss_one (ps_ret pe_str)) pss_nil)
      (pss_cons (ps_if (pt_not (pt_val (pe_call (ok_is_name T) hr1 rfl T.g_is_name T.f_is_name.kp (bi_is_name T) .nil psE (pa_cons (pv 2) pa_nil)))) (pss_one (ps_ret pe_str)) pss_nil)
      (pss_one (ps_ret (pe_ifExp (pt_val (pe_call (ok_is_from T) hr rfl T.g_is_from T.f_is_from.kp (bi_is_from T) .nil psE (pa_cons (pv 3) (pa_cons pe_int pa_nil)))) pe_non pe_str))))), ?_⟩
    walk_at "rd"
    unfold startsF at q
    refine ⟨a, rfl, a, rfl, ha, za, fun H1 s1 => ⟨_, rfl, ?_⟩⟩
    cases e1 : nameV a with
    | false =>
      rw [e1] at q
      exact iteT (q H1 s1)
    | true =>
      rw [e1] at q
      refine iteF ⟨b, rfl, b, 1, rfl, hb.same s1, _, rfl, ?_⟩
      cases e2 : fromV b 1 with
      | false =>
        rw [e2] at q
        exact iteT (q H1 s1)
      | true =>
        rw [e2] at q
        refine iteF ⟨c, rfl, c, rfl, hc.same s1, zc, fun H2 s2 => ⟨_, rfl, ?_⟩⟩
        cases e3 : nameV c with
        | false =>
          rw [e3] at q
          exact iteT (q H2 (s1.trans s2))
        | true =>
          rw [e3] at q
          refine iteF ⟨d, rfl, d, 1, rfl, hd.same (s1.trans s2), _, rfl, ?_⟩
          cases e4 : fromV d 1 with
          | false =>
            rw [e4] at q
            exact iteF (q H2 (s1.trans s2))
          | true =>
            rw [e4] at q
            exact iteT (q H2 (s1.trans s2))
theorem bi_starts_fault (T : Tx K mg) : Binds K (fdOf K (He.fAd K d_starts_fault.at_)) ["sender", "number", "edition", "many"] [] := T.f_starts_fault.bindsN fun _ _ _ _ _ _ us hl => match us, hl with | [_, _, _, _], _ => rfl
/-! ### exceptions' __init__ -/
def sp_exc (C : Addr) (f : Str) : Sp := fun vs H Q _ => ∃ a v, vs = [.ref a, v] ∧ H a = some (exo a C none) ∧ ∀ dx, H dx = none → dx ≠ a → Q .non (upd (upd H dx (exd dx [(f, v)])) a (exo a C (some dx)))
theorem sc_NoStarts_init : FnScope ["self", "part"] ["self", "part"] (defScope s_NoStarts_init) := ⟨rfl, rfl, rfl, by decide +kernel, rfl, by decide +kernel, by decide +kernel⟩
theorem ok_NoStarts_init (T : Tx K mg) : Ok P w K mg base 1 d_NoStarts_init ["self", "part"] (sp_exc (He.ga K "NoStarts") "part") := by
  refine T.f_NoStarts_init.ok sc_NoStarts_init (fun vs H Q E h => ?_) (fun cdv A outer s H vs Q E hr h => ?_)
  · obtain ⟨a, v, rfl, _⟩ := h
    rfl
  · obtain ⟨a, v, rfl, ha, q⟩ := h
    have X1 := exOk_1 T.ex (x := "NoStarts") (by decide)
    refine ⟨_, pss_cons (ps_expr (pe_fellinit rfl T.g_FellError (exOk_fell T.ex) (pa_cons (pv 0) (pa_cons pe_str pa_nil)))) (pss_one (ps_ost (pv 0) (pv 1))), ?_⟩
    walk_at "rd"
    exact ⟨_, rfl, a, _, _, rfl, (by show 1 ≤ 1000; decide), X1.o, ha, _, rfl, _, rfl, a, _, rfl, X1.o, X1.no _ (by decide), .inl ⟨ha, fun dx h1 h2 => q dx h1 h2⟩⟩
theorem sc_Unlike_init : FnScope ["self", "tag"] ["self", "tag"] (defScope s_Unlike_init) := ⟨rfl, rfl, rfl, by decide +kernel, rfl, by decide +kernel, by decide +kernel⟩
theorem ok_Unlike_init (T : Tx K mg) : Ok P w K mg base 1 d_Unlike_init ["self", "tag"] (sp_exc (He.ga K "Unlike") "tag") := by
  refine T.f_Unlike_init.ok sc_Unlike_init (fun vs H Q E h => ?_) (fun cdv A outer s H vs Q E hr h => ?_)
  · obtain ⟨a, v, rfl, _⟩ := h
    rfl
  · obtain ⟨a, v, rfl, ha, q⟩ := h
    have X1 := exOk_1 T.ex (x := "Unlike") (by decide)
    refine ⟨_, pss_cons (ps_expr (pe_fellinit rfl T.g_FellError (exOk_fell T.ex) (pa_cons (pv 0) (pa_cons pe_str pa_nil)))) (pss_one (ps_ost (pv 0) (pv 1))), ?_⟩
    walk_at "rd"
    exact ⟨_, rfl, a, _, _, rfl, (by show 1 ≤ 1000; decide), X1.o, ha, _, rfl, _, rfl, a, _, rfl, X1.o, X1.no _ (by decide), .inl ⟨ha, fun dx h1 h2 => q dx h1 h2⟩⟩
theorem bi_NoStarts_init (T : Tx K mg) : Binds K (fdOf K (He.fAd K d_NoStarts_init.at_)) ["self", "part"] [] := T.f_NoStarts_init.bindsN fun _ _ _ _ _ _ us hl => match us, hl with | [_, _], _ => rfl
theorem bi_Unlike_init (T : Tx K mg) : Binds K (fdOf K (He.fAd K d_Unlike_init.at_)) ["self", "tag"] [] := T.f_Unlike_init.bindsN fun _ _ _ _ _ _ us hl => match us, hl with | [_, _], _ => rfl
/-! ### Rules, Cleaner, History: made empty -/
/-- self.rows = [] -/
def sp_rows (C : Addr) : Sp := fun vs H Q _ => ∃ x dx a, vs = [.ref x, .ref a] ∧ H x = some (.ins C dx []) ∧ H a = some (.lst []) ∧ ∀ l, H l = none → Q .non (upd (upd H l (.lst [])) x (.ins C dx [("rows", .ref l)]))
theorem sc_Rules_init : FnScope ["self", "rows", "at", "row"] ["self", "rows"] (defScope s_Rules_init) := ⟨rfl, rfl, rfl, by decide +kernel, rfl, by decide +kernel, by decide +kernel⟩
theorem ok_Rules_init (T : Tx K mg) : Ok P w K mg base 1 d_Rules_init ["self", "rows"] (sp_rows (He.ga K "Rules")) := by
  refine T.f_Rules_init.ok sc_Rules_init (fun vs H Q E h => ?_) (fun cdv A outer s H vs Q E hr h => ?_)
  · obtain ⟨x, dx, a, rfl, _⟩ := h
    rfl
  · obtain ⟨x, dx, a, rfl, hx, ha, q⟩ := h
    refine ⟨_, pss_cons (ps_if (pt_not (pt_val (pe_callB call_isi rfl T.b_isinstance bt_isi (pa_cons (pv 1) (pa_cons (bt T.b_list bt_list) pa_nil))))) pss_never pss_nil)
      (pss_cons (ps_for (passes_of rfl) rfl (pi_enum rfl T.b_enumerate (pa_cons (pv 1) pa_nil)) (pg_tup rfl (pgs_cons (pg_name (i := 2) sc_Rules_init.nd rfl (Or.inl rfl)) (pgs_cons (pg_name (i := 3) sc_Rules_init.nd rfl (Or.inl rfl)) pgs_nil))) pss_never)
      (pss_one (ps_fld (pv 0) (pe_callTy call_list_of rfl T.b_list bt_list (pa_cons (pv 1) pa_nil)) rfl))), ?_⟩
    walk_at "rd"
    refine ⟨_, rfl, isi_lst ha ⟨_, rfl, iteF ?_⟩⟩
    refine for_in ?_
    walk_at "rd"
    refine ⟨_, rfl, a, [], rfl, .of ha, fo_enum (K := K) (a := a) (xs := []) (fun _ σ' H' => σ' = start ["self", "rows", "at", "row"] [.ref x, .ref a] ∧ H' = H) ⟨rfl, rfl⟩ (fun i σ H' _ e => by rw [e.2]; exact .of ha) (fun i x T σ H' hi => by cases hi) fun σ' H' e => ?_⟩
    obtain ⟨rfl, rfl⟩ := e
    refine ⟨_, rfl, a, [], rfl, .inl (.of ha), fun l hl => ⟨_, rfl, x, _, dx, [], rfl, ?_, T.c_Rules, T.n_Rules_rows, (by decide), q l hl⟩⟩
    rw [upd_ne (ne_of_none hx hl)]
    exact hx
theorem bi_Rules_init (T : Tx K mg) : Binds K (fdOf K (He.fAd K d_Rules_init.at_)) ["self", "rows"] [] := T.f_Rules_init.bindsN fun _ _ _ _ _ _ us hl => match us, hl with | [_, _], _ => rfl
theorem sc_Cleaner_init : FnScope ["self", "rows", "at", "row"] ["self", "rows"] (defScope s_Cleaner_init) := ⟨rfl, rfl, rfl, by decide +kernel, rfl, by decide +kernel, by decide +kernel⟩
theorem ok_Cleaner_init (T : Tx K mg) : Ok P w K mg base 1 d_Cleaner_init ["self", "rows"] (sp_rows (He.ga K "Cleaner")) := by
  refine T.f_Cleaner_init.ok sc_Cleaner_init (fun vs H Q E h => ?_) (fun cdv A outer s H vs Q E hr h => ?_)
  · obtain ⟨x, dx, a, rfl, _⟩ := h
    rfl
  · obtain ⟨x, dx, a, rfl, hx, ha, q⟩ := h
    refine ⟨_, pss_cons (ps_if (pt_not (pt_val (pe_callB call_isi rfl T.b_isinstance bt_isi (pa_cons (pv 1) (pa_cons (bt T.b_list bt_list) pa_nil))))) pss_never pss_nil)
      (pss_cons (ps_for (passes_of rfl) rfl (pi_enum rfl T.b_enumerate (pa_cons (pv 1) pa_nil)) (pg_tup rfl (pgs_cons (pg_name (i := 2) sc_Cleaner_init.nd rfl (Or.inl rfl)) (pgs_cons (pg_name (i := 3) sc_Cleaner_init.nd rfl (Or.inl rfl)) pgs_nil))) pss_never)
      (pss_one (ps_fld (pv 0) (pe_callTy call_list_of rfl T.b_list bt_list (pa_cons (pv 1) pa_nil)) rfl))), ?_⟩
    walk_at "rd"
    refine ⟨_, rfl, isi_lst ha ⟨_, rfl, iteF ?_⟩⟩
    refine for_in ?_
    walk_at "rd"
    refine ⟨_, rfl, a, [], rfl, .of ha, fo_enum (K := K) (a := a) (xs := []) (fun _ σ' H' => σ' = start ["self", "rows", "at", "row"] [.ref x, .ref a] ∧ H' = H) ⟨rfl, rfl⟩ (fun i σ H' _ e => by rw [e.2]; exact .of ha) (fun i x T σ H' hi => by cases hi) fun σ' H' e => ?_⟩
    obtain ⟨rfl, rfl⟩ := e
    refine ⟨_, rfl, a, [], rfl, .inl (.of ha), fun l hl => ⟨_, rfl, x, _, dx, [], rfl, ?_, T.c_Cleaner, T.n_Cleaner_rows, (by decide), q l hl⟩⟩
    rw [upd_ne (ne_of_none hx hl)]
    exact hx
theorem bi_Cleaner_init (T : Tx K mg) : Binds K (fdOf K (He.fAd K d_Cleaner_init.at_)) ["self", "rows"] [] := T.f_Cleaner_init.bindsN fun _ _ _ _ _ _ us hl => match us, hl with | [_, _], _ => rfl
theorem sc_History_init : FnScope ["self"] ["self"] (defScope s_History_init) := ⟨rfl, rfl, rfl, by decide +kernel, rfl, by decide +kernel, by decide +kernel⟩
def sp_hist (C : Addr) : Sp := fun vs H Q _ => ∃ x dx, vs = [.ref x] ∧ H x = some (.ins C dx []) ∧ ∀ l, H l = none → Q .non (upd (upd H l (.dK [])) x (.ins C dx [("parents", .ref l)]))
theorem ok_History_init (T : Tx K mg) : Ok P w K mg base 1 d_History_init ["self"] (sp_hist (He.ga K "History")) := by
  refine T.f_History_init.ok sc_History_init (fun vs H Q E h => ?_) (fun cdv A outer s H vs Q E hr h => ?_)
  · obtain ⟨x, dx, rfl, _⟩ := h
    rfl
  · obtain ⟨x, dx, rfl, hx, q⟩ := h
    refine ⟨_, pss_one (ps_fld (pv 0) pe_dnewK rfl), ?_⟩
    walk_at "rd"
    refine fun l hl => ⟨_, rfl, x, _, dx, [], rfl, ?_, T.c_History, T.n_History_parents, (by decide), q l hl⟩
    rw [upd_ne (ne_of_none hx hl)]
    exact hx
theorem bi_History_init (T : Tx K mg) : Binds K (fdOf K (He.fAd K d_History_init.at_)) ["self"] [] := T.f_History_init.bindsN fun _ _ _ _ _ _ us hl => match us, hl with | [_], _ => rfl
end
end Fw

set_option Elab.async false
set_option linter.all false
set_option maxRecDepth 100000
set_option maxHeartbeats 4000000
namespace Fw
open PySem PySem.Spec PyProof.Rows L2
local macro_rules | `(tactic| walk_at "rd") => `(tactic| dsimp only [cxOf, tRet, tAndV, tOrV, tNotV, tCB, tCons, tNil, tC, tVar, tSeq, tIfS, tNext, tTest, tOp, tB, tAnd, tOr, tNot, tChain, tCall, rI0, rI, gName, tYes, iStr, tIf, tAsg, tDrop, tRetN, iList, iTup, gTup, gCons, gNil, tTup, tLst, tMeth, tFld, tSl, tNoPart, tPart, tBM, tBM0, tUn, rU, tVeI, tOst, iEnum, iRng1, iRng2, sFld, tMake, tDNewK, tDNewT])
/-! ### an instance that is filled, new things beside it -/
structure Ch (H H' : Hp) (x C dx : Addr) (fs : List (Str × V)) (os : List (Addr × HO)) : Prop where
  ob : H' x = some (.ins C dx fs)
  at_ : ∀ p ∈ os, H' p.1 = some p.2
  nd : (x :: os.map (·.1)).Nodup
  new : ∀ p ∈ os, H p.1 = none
  fr : ∀ b o, H b = some o → b ≠ x → H' b = some o
theorem Ch.start {H : Hp} {x C dx : Addr} {fs : List (Str × V)} (h : H x = some (.ins C dx fs)) : Ch H H x C dx fs [] := ⟨h, (fun _ h => nomatch h), by simp, (fun _ h => nomatch h), fun _ _ h _ => h⟩
theorem Ch.same {H H' H'' : Hp} {x C dx : Addr} {fs : List (Str × V)} {os : List (Addr × HO)} (c : Ch H H' x C dx fs os) (s : Same H' H'') : Ch H H'' x C dx fs os :=
  ⟨s _ _ c.ob, fun p hp => s _ _ (c.at_ p hp), c.nd, c.new, fun b o h n => s _ _ (c.fr b o h n)⟩
theorem Ch.neu {H H' : Hp} {x C dx l : Addr} {o : HO} {fs : List (Str × V)} {os : List (Addr × HO)} (c : Ch H H' x C dx fs os) (h : H' l = none) (hl : H l = none) : Ch H (upd H' l o) x C dx fs ((l, o) :: os) where
  ob := by
    rw [upd_ne (ne_of_none c.ob h)]
    exact c.ob
  at_ := fun p hp => by
    rcases List.mem_cons.mp hp with rfl | hp
    · exact upd_same
    · rw [upd_ne (ne_of_none (c.at_ p hp) h)]
      exact c.at_ p hp
  nd := by
    have h1 := c.nd
    have e1 := ne_of_none c.ob h
    have e2 : l ∉ os.map (·.1) := fun z => by
      obtain ⟨p, hp, e⟩ := List.mem_map.mp z
      rw [← e, c.at_ p hp] at h
      cases h
    rw [List.map_cons, List.nodup_cons, List.nodup_cons]
    rw [List.nodup_cons] at h1
    exact ⟨fun z => (List.mem_cons.mp z).elim (fun q => e1 q) h1.1, e2, h1.2⟩
  new := fun p hp => by
    rcases List.mem_cons.mp hp with rfl | hp
    · exact hl
    · exact c.new p hp
  fr := fun b u hb n => by
    rw [upd_ne (ne_of_none (c.fr b u hb n) h)]
    exact c.fr b u hb n
theorem Ch.newA {H H' : Hp} {x C dx : Addr} {fs : List (Str × V)} {os : List (Addr × HO)} (c : Ch H H' x C dx fs os) : ∀ a ∈ os.map (·.1), H a = none := fun a ha => by
  obtain ⟨p, hp, e⟩ := List.mem_map.mp ha
  rw [← e]
  exact c.new p hp
/-- what is free behind was free ahead -/
theorem Ch.free {H H' : Hp} {x C dx l : Addr} {fs : List (Str × V)} {os : List (Addr × HO)} (c : Ch H H' x C dx fs os) (h : H' l = none) : H l = none := by
  cases e : H l with
  | none => rfl
  | some o =>
    by_cases hx : l = x
    · rw [hx, c.ob] at h
      cases h
    · rw [c.fr l o e hx] at h
      cases h
theorem Ch.fld {H H' : Hp} {x C dx : Addr} {fs : List (Str × V)} {os : List (Addr × HO)} (c : Ch H H' x C dx fs os) (f : Str) (v : V) : Ch H (upd H' x (.ins C dx (putF f v fs))) x C dx (putF f v fs) os where
  ob := upd_same
  at_ := fun p hp => by
    have ne : p.1 ≠ x := fun e => (List.nodup_cons.mp c.nd).1 (by rw [← e]; exact List.mem_map.mpr ⟨p, hp, rfl⟩)
    rw [upd_ne ne]
    exact c.at_ p hp
  nd := c.nd
  new := c.new
  fr := fun b o hb n => by
    rw [upd_ne n]
    exact c.fr b o hb n
theorem upd_mid {H : Hp} {r l : Addr} {o1 o2 o3 : HO} : upd (upd (upd H r o1) l o2) r o3 = upd (upd H l o2) r o3 := by
  funext b
  by_cases h : b = r
  · subst h
    rw [upd_same, upd_same]
  · rw [upd_ne h, upd_ne h]
    by_cases h2 : b = l
    · subst h2
      rw [upd_same, upd_same]
    · rw [upd_ne h2, upd_ne h2, upd_ne h]
theorem upd_none {H : Hp} {a b : Addr} {o : HO} (h : upd H a o b = none) : b ≠ a ∧ H b = none := by
  by_cases e : b = a
  · subst e
    rw [upd_same] at h
    cases h
  · rw [upd_ne e] at h
    exact ⟨e, h⟩
theorem Ch.rows {H H' : Hp} {x C dx p r dr l CR : Addr} {fs : List (Str × V)} {os : List (Addr × HO)} (c : Ch H H' x C dx fs os) (hp : H' p = none) (hr : upd H' p (.lst []) r = none) (hdr : upd H' p (.lst []) dr = none) (hne : dr ≠ r)
    (hl : upd (upd (upd H' p (.lst [])) dr (.own r)) r (.ins CR dr []) l = none) : Ch H (upd (upd (upd (upd (upd H' p (.lst [])) dr (.own r)) r (.ins CR dr [])) l (.lst [])) r (.ins CR dr [("rows", .ref l)])) x C dx fs ((r, .ins CR dr [("rows", .ref l)]) :: (l, .lst []) :: (dr, .own r) :: (p, .lst []) :: os) := by
  rw [upd_mid]
  obtain ⟨n1, h1⟩ := upd_none hl
  obtain ⟨n2, h2⟩ := upd_none hr
  have c1 := c.neu (o := .lst []) hp (c.free hp)
  have c2 := c1.neu (o := .own r) hdr (c1.free hdr)
  have c3 := c2.neu (o := .lst []) h1 (c2.free h1)
  refine c3.neu ?_ (c1.free hr)
  rw [upd_ne n1.symm, upd_ne hne.symm]
  exact hr
theorem Ch.hist {H H' : Hp} {x C dx r dr l CR : Addr} {fs : List (Str × V)} {os : List (Addr × HO)} (c : Ch H H' x C dx fs os) (hr : H' r = none) (hdr : H' dr = none) (hne : dr ≠ r)
    (hl : upd (upd H' dr (.own r)) r (.ins CR dr []) l = none) : Ch H (upd (upd (upd (upd H' dr (.own r)) r (.ins CR dr [])) l (.dK [])) r (.ins CR dr [("parents", .ref l)])) x C dx fs ((r, .ins CR dr [("parents", .ref l)]) :: (l, .dK []) :: (dr, .own r) :: os) := by
  rw [upd_mid]
  obtain ⟨n1, h1⟩ := upd_none hl
  have c2 := c.neu (o := .own r) hdr (c.free hdr)
  have c3 := c2.neu (o := .dK []) h1 (c2.free h1)
  refine c3.neu ?_ (c.free hr)
  rw [upd_ne n1.symm, upd_ne hne.symm]
  exact hr
theorem len_putF (f : Str) (v : V) (fs : List (Str × V)) : (putF f v fs).length ≤ fs.length + 1 := by
  induction fs with
  | nil => exact Nat.le_refl _
  | cons p r ih =>
    obtain ⟨g, u⟩ := p
    unfold putF
    split
    · simp
    · simp only [List.length_cons]
      omega
/-! ### the house -/
structure HA where
  dx : Addr
  terms : Addr
  trows : Addr
  broom : Addr
  brows : Addr
  past : Addr
  par : Addr
  eds : Addr
  falls : Addr
  losses : Addr
  starts : Addr
  ties : Addr
  ended : Addr
  watched : Addr
  told : Addr
  keys : Addr
/-- the house's own things -/
def HA.own (A : HA) : List Addr := [A.keys, A.told, A.watched, A.ended, A.ties, A.starts, A.losses, A.falls, A.eds, A.past, A.par, A.broom, A.brows, A.terms, A.trows]
def hF (A : HA) (b : Bool) : List (Str × V) := [("terms", .ref A.terms), ("broom", .ref A.broom), ("past", .ref A.past), ("known_editions", .ref A.eds), ("known_falls", .ref A.falls), ("losses", .ref A.losses), ("known_starts", .ref A.starts), ("ties", .ref A.ties),
  ("ended", .ref A.ended), ("watched", .ref A.watched), ("told_rings", .ref A.told), ("known_keys", .ref A.keys), ("is_taking", .bl b)]
/-- a house that is told nothing -/
structure House0 (K : PySem.W.Frag) (H : Hp) (x : Addr) (A : HA) : Prop where
  ob : H x = some (.ins (He.ga K "House") A.dx (hF A false))
  eds : H A.eds = some (.dK [])
  falls : H A.falls = some (.dT [])
  starts : H A.starts = some (.dT [])
  losses : H A.losses = some (.lst [])
  ties : H A.ties = some (.lst [])
  ended : H A.ended = some (.lst [])
  watched : H A.watched = some (.lst [])
  told : H A.told = some (.lst [])
  keys : H A.keys = some (.dT [])
  nd : (x :: A.own).Nodup
section
variable {P : Program} {w : World} {K : PySem.W.Frag} {mg : Str → Option Value} {base : Heap}
def sp_House0 (K : PySem.W.Frag) : Sp := fun vs H Q _ => ∃ x dx, vs = [.ref x, .non, .non] ∧ H x = some (.ins (He.ga K "House") dx []) ∧ ∀ A H', A.dx = dx → House0 K H' x A → (∀ a ∈ A.own, H a = none) → (∀ b o, H b = some o → b ≠ x → H' b = some o) → Q .non H'
theorem sc_House_init : FnScope ["self", "rules", "cleaner"] ["self", "rules", "cleaner"] (defScope s_House_init) := ⟨rfl, rfl, rfl, by decide +kernel, rfl, by decide +kernel, by decide +kernel⟩
theorem ok_House_init (T : Tx K mg) : Ok P w K mg base 3 d_House_init ["self", "rules", "cleaner"] (sp_House0 K) := by
  refine T.f_House_init.ok sc_House_init (fun vs H Q E h => ?_) (fun cdv A outer s H vs Q E hr h => ?_)
  · obtain ⟨x, dx, rfl, _⟩ := h
    rfl
  · obtain ⟨x, dx, rfl, hx, q⟩ := h
    refine ⟨_, pss_cons (ps_fld (pv 0) (pe_ifExp (pt_cmpR op_isN (pv 1) pe_non (nomark _)) (pe_make T.mk_Rules (ok_Rules_init T) hr rfl T.g_Rules (bi_Rules_init T) .nil psE (pa_cons (pe_lst pa_nil) pa_nil)) (pv 1)) rfl)
      (pss_cons (ps_fld (pv 0) (pe_ifExp (pt_cmpR op_isN (pv 2) pe_non (nomark _)) (pe_make T.mk_Cleaner (ok_Cleaner_init T) hr rfl T.g_Cleaner (bi_Cleaner_init T) .nil psE (pa_cons (pe_lst pa_nil) pa_nil)) (pv 2)) rfl)
      (pss_cons (ps_fld (pv 0) (pe_make0 T.mk_History (ok_History_init T) hr rfl T.g_History (bi_History_init T) .nil psE) rfl)
      (pss_cons (ps_fld (pv 0) pe_dnewK rfl) (pss_cons (ps_fld (pv 0) pe_dnewT rfl) (pss_cons (ps_fld (pv 0) (pe_lst pa_nil) rfl) (pss_cons (ps_fld (pv 0) pe_dnewT rfl)
      (pss_cons (ps_fld (pv 0) (pe_lst pa_nil) rfl) (pss_cons (ps_fld (pv 0) (pe_lst pa_nil) rfl) (pss_cons (ps_fld (pv 0) (pe_lst pa_nil) rfl) (pss_cons (ps_fld (pv 0) (pe_lst pa_nil) rfl)
      (pss_cons (ps_fld (pv 0) pe_dnewT rfl) (pss_one (ps_fld (pv 0) pe_bl rfl))))))))))))), ?_⟩
    walk_at "rd"
    have c := Ch.start hx
    have z : ([] : List (Str × V)).length ≤ 0 := Nat.le_refl _
    refine ⟨_, rfl, rfl, _, rfl, iteT ⟨(by decide), fun p1 hp1 r1 dr1 hr1 hr2 hne => ⟨r1, dr1, p1, rfl, upd_same, ?_, fun l1 hl1 => ⟨rfl, ?_⟩⟩⟩⟩
    · rw [upd_ne (upd_none hr1).1.symm, upd_ne (fun e => by rw [← e, upd_same] at hr2; cases hr2), upd_same]
    have c := c.rows hp1 hr1 hr2 hne hl1
    refine ⟨_, rfl, x, _, dx, _, rfl, c.ob, T.c_House, T.n_House_terms, by omega, ?_⟩
    have c := c.fld "terms" (.ref r1)
    have z := Nat.le_trans (len_putF "terms" (.ref r1) _) (Nat.succ_le_succ z)
    refine ⟨_, rfl, rfl, _, rfl, iteT ⟨(by decide), fun p2 hp2 r2 dr2 hr1 hr2 hne => ⟨r2, dr2, p2, rfl, upd_same, ?_, fun l2 hl2 => ⟨rfl, ?_⟩⟩⟩⟩
    · rw [upd_ne (upd_none hr1).1.symm, upd_ne (fun e => by rw [← e, upd_same] at hr2; cases hr2), upd_same]
    have c := c.rows hp2 hr1 hr2 hne hl2
    refine ⟨_, rfl, x, _, dx, _, rfl, c.ob, T.c_House, T.n_House_broom, by omega, ?_⟩
    have c := c.fld "broom" (.ref r2)
    have z := Nat.le_trans (len_putF "broom" (.ref r2) _) (Nat.succ_le_succ z)
    intro r3 dr3 hr1 hr2 hne
    refine ⟨r3, dr3, rfl, upd_same, fun l3 hl3 => ⟨rfl, ?_⟩⟩
    have c := c.hist hr1 hr2 hne hl3
    refine ⟨_, rfl, x, _, dx, _, rfl, c.ob, T.c_House, T.n_House_past, by omega, ?_⟩
    have c := c.fld "past" (.ref r3)
    have z := Nat.le_trans (len_putF "past" (.ref r3) _) (Nat.succ_le_succ z)
    intro a4 h4
    have c := c.neu (o := .dK []) h4 (c.free h4)
    refine ⟨_, rfl, x, _, dx, _, rfl, c.ob, T.c_House, T.n_House_known_editions, by omega, ?_⟩
    have c := c.fld "known_editions" (.ref a4)
    have z := Nat.le_trans (len_putF "known_editions" (.ref a4) _) (Nat.succ_le_succ z)
    intro a5 h5
    have c := c.neu (o := .dT []) h5 (c.free h5)
    refine ⟨_, rfl, x, _, dx, _, rfl, c.ob, T.c_House, T.n_House_known_falls, by omega, ?_⟩
    have c := c.fld "known_falls" (.ref a5)
    have z := Nat.le_trans (len_putF "known_falls" (.ref a5) _) (Nat.succ_le_succ z)
    refine ⟨(by decide), fun a6 h6 => ?_⟩
    have c := c.neu (o := .lst []) h6 (c.free h6)
    refine ⟨_, rfl, x, _, dx, _, rfl, c.ob, T.c_House, T.n_House_losses, by omega, ?_⟩
    have c := c.fld "losses" (.ref a6)
    have z := Nat.le_trans (len_putF "losses" (.ref a6) _) (Nat.succ_le_succ z)
    intro a7 h7
    have c := c.neu (o := .dT []) h7 (c.free h7)
    refine ⟨_, rfl, x, _, dx, _, rfl, c.ob, T.c_House, T.n_House_known_starts, by omega, ?_⟩
    have c := c.fld "known_starts" (.ref a7)
    have z := Nat.le_trans (len_putF "known_starts" (.ref a7) _) (Nat.succ_le_succ z)
    refine ⟨(by decide), fun a8 h8 => ?_⟩
    have c := c.neu (o := .lst []) h8 (c.free h8)
    refine ⟨_, rfl, x, _, dx, _, rfl, c.ob, T.c_House, T.n_House_ties, by omega, ?_⟩
    have c := c.fld "ties" (.ref a8)
    have z := Nat.le_trans (len_putF "ties" (.ref a8) _) (Nat.succ_le_succ z)
    refine ⟨(by decide), fun a9 h9 => ?_⟩
    have c := c.neu (o := .lst []) h9 (c.free h9)
    refine ⟨_, rfl, x, _, dx, _, rfl, c.ob, T.c_House, T.n_House_ended, by omega, ?_⟩
    have c := c.fld "ended" (.ref a9)
    have z := Nat.le_trans (len_putF "ended" (.ref a9) _) (Nat.succ_le_succ z)
    refine ⟨(by decide), fun a10 h10 => ?_⟩
    have c := c.neu (o := .lst []) h10 (c.free h10)
    refine ⟨_, rfl, x, _, dx, _, rfl, c.ob, T.c_House, T.n_House_watched, by omega, ?_⟩
    have c := c.fld "watched" (.ref a10)
    have z := Nat.le_trans (len_putF "watched" (.ref a10) _) (Nat.succ_le_succ z)
    refine ⟨(by decide), fun a11 h11 => ?_⟩
    have c := c.neu (o := .lst []) h11 (c.free h11)
    refine ⟨_, rfl, x, _, dx, _, rfl, c.ob, T.c_House, T.n_House_told_rings, by omega, ?_⟩
    have c := c.fld "told_rings" (.ref a11)
    have z := Nat.le_trans (len_putF "told_rings" (.ref a11) _) (Nat.succ_le_succ z)
    intro a12 h12
    have c := c.neu (o := .dT []) h12 (c.free h12)
    refine ⟨_, rfl, x, _, dx, _, rfl, c.ob, T.c_House, T.n_House_known_keys, by omega, ?_⟩
    have c := c.fld "known_keys" (.ref a12)
    have z := Nat.le_trans (len_putF "known_keys" (.ref a12) _) (Nat.succ_le_succ z)
    refine ⟨_, rfl, x, _, dx, _, rfl, c.ob, T.c_House, T.n_House_is_taking, by omega, ?_⟩
    have c := c.fld "is_taking" (.bl false)
    let A : HA := ⟨dx, r1, l1, r2, l2, r3, l3, a4, a5, a6, a7, a8, a9, a10, a11, a12⟩
    have nd := c.nd
    have at_ := c.at_
    refine q A _ rfl ⟨c.ob, at_ (a4, _) (by simp), at_ (a5, _) (by simp), at_ (a7, _) (by simp), at_ (a6, _) (by simp), at_ (a8, _) (by simp), at_ (a9, _) (by simp), at_ (a10, _) (by simp), at_ (a11, _) (by simp), at_ (a12, _) (by simp), ?_⟩ ?_ c.fr
    · exact nd.sublist (by repeat (first | exact List.Sublist.slnil | apply List.Sublist.cons₂ | apply List.Sublist.cons))
    · intro a ha
      have hs : A.own.Sublist [a12, a11, a10, a9, a8, a7, a6, a5, a4, r3, l3, dr3, r2, l2, dr2, p2, r1, l1, dr1, p1] := by repeat (first | exact List.Sublist.slnil | apply List.Sublist.cons₂ | apply List.Sublist.cons)
      have hm := hs.subset ha
      exact c.newA a hm
end
end Fw

set_option Elab.async false
set_option linter.all false
set_option maxRecDepth 100000
set_option maxHeartbeats 4000000
namespace Fw
open PySem PySem.Spec PyProof.Rows L2
local macro_rules | `(tactic| walk_at "rd") => `(tactic| dsimp only [cxOf, tRet, tAndV, tOrV, tNotV, tCB, tCons, tNil, tC, tVar, tSeq, tIfS, tNext, tTest, tOp, tB, tAnd, tOr, tNot, tChain, tCall, rI0, rI, gName, tYes, iStr, tIf, tAsg, tDrop, tRetN, iList, iTup, gTup, gCons, gNil, tTup, tLst, tMeth, tFld, tSl, tNoPart, tPart, tBM, tBM0, tUn, rU, tVeI, tOst, iEnum, iRng1, iRng2, sFld, tMake, tDNewK, tDNewT, tListVals, tDNotIn, tDIn, tDGet, sDPut, tMkO, tCallN, tMethN, WE])
/-! ### fields -/
section
variable {A : HA} {b : Bool}
theorem hF_taking : (hF A b).lookup ("is_taking" : Str) = some (.bl b) := by kernel_rfl
theorem hF_starts : (hF A b).lookup ("known_starts" : Str) = some (.ref A.starts) := by kernel_rfl
theorem hF_falls : (hF A b).lookup ("known_falls" : Str) = some (.ref A.falls) := by kernel_rfl
end
section
variable {P : Program} {w : World} {K : PySem.W.Frag} {mg : Str → Option Value} {base : Heap}
/-- the house at x -/
structure HsAt (K : PySem.W.Frag) (H : Hp) (x : Addr) (A : HA) : Prop where
  ob : H x = some (.ins (He.ga K "House") A.dx (hF A false))
  nd : (x :: A.own).Nodup
/-! ### sure_idle -/
def sp_idle (K : PySem.W.Frag) : Sp := fun vs H Q _ => ∃ x A, vs = [.ref x] ∧ HsAt K H x A ∧ Q .non H
theorem sc_House_sure_idle : FnScope ["self"] ["self"] (defScope s_House_sure_idle) := ⟨rfl, rfl, rfl, by decide +kernel, rfl, by decide +kernel, by decide +kernel⟩
theorem ok_House_sure_idle (T : Tx K mg) : Ok P w K mg base 1 d_House_sure_idle ["self"] (sp_idle K) := by
  refine T.f_House_sure_idle.ok sc_House_sure_idle (fun vs H Q E h => ?_) (fun cdv A outer s H vs Q E hr h => ?_)
  · obtain ⟨x, A, rfl, _⟩ := h
    rfl
  · obtain ⟨x, A, rfl, h, q⟩ := h
    refine ⟨_, pss_one (ps_if (pt_val (pe_fld (pv 0) rfl)) pss_never pss_nil), ?_⟩
    walk_at "rd"
    exact ⟨_, rfl, x, _, _, _, _, rfl, h.ob, T.c_House, T.n_House_is_taking, hF_taking, _, rfl, iteF q⟩
theorem bi_House_sure_idle (T : Tx K mg) : Binds K (fdOf K (He.fAd K d_House_sure_idle.at_)) ["self"] [] := T.f_House_sure_idle.bindsN fun _ _ _ _ _ _ us hl => match us, hl with | [_], _ => rfl
/-! ### all_falls, notes -/
def sp_vals (K : PySem.W.Frag) (f : HA → Addr) : Sp := fun vs H Q _ => ∃ x A us, vs = [.ref x] ∧ HsAt K H x A ∧ DVals H (f A) us ∧ ∀ l, H l = none → Q (.ref l) (upd H l (.lst us))
theorem sc_House_all_falls : FnScope ["self"] ["self"] (defScope s_House_all_falls) := ⟨rfl, rfl, rfl, by decide +kernel, rfl, by decide +kernel, by decide +kernel⟩
theorem ok_House_all_falls (T : Tx K mg) : Ok P w K mg base 1 d_House_all_falls ["self"] (sp_vals K HA.falls) := by
  refine T.f_House_all_falls.ok sc_House_all_falls (fun vs H Q E h => ?_) (fun cdv A outer s H vs Q E hr h => ?_)
  · obtain ⟨x, A, us, rfl, _⟩ := h
    rfl
  · obtain ⟨x, A, us, rfl, h, d, q⟩ := h
    refine ⟨_, pss_one (ps_ret (pe_listVals rfl (pe_fld (pv 0) rfl) rfl T.b_list bt_list)), ?_⟩
    walk_at "rd"
    exact ⟨_, rfl, x, _, _, _, _, rfl, h.ob, T.c_House, T.n_House_known_falls, hF_falls, _, us, rfl, d, q⟩
theorem bi_House_all_falls (T : Tx K mg) : Binds K (fdOf K (He.fAd K d_House_all_falls.at_)) ["self"] [] := T.f_House_all_falls.bindsN fun _ _ _ _ _ _ us hl => match us, hl with | [_], _ => rfl
theorem sc_House_notes : FnScope ["self"] ["self"] (defScope s_House_notes) := ⟨rfl, rfl, rfl, by decide +kernel, rfl, by decide +kernel, by decide +kernel⟩
theorem ok_House_notes (T : Tx K mg) : Ok P w K mg base 1 d_House_notes ["self"] (sp_vals K HA.starts) := by
  refine T.f_House_notes.ok sc_House_notes (fun vs H Q E h => ?_) (fun cdv A outer s H vs Q E hr h => ?_)
  · obtain ⟨x, A, us, rfl, _⟩ := h
    rfl
  · obtain ⟨x, A, us, rfl, h, d, q⟩ := h
    refine ⟨_, pss_one (ps_ret (pe_listVals rfl (pe_fld (pv 0) rfl) rfl T.b_list bt_list)), ?_⟩
    walk_at "rd"
    exact ⟨_, rfl, x, _, _, _, _, rfl, h.ob, T.c_House, T.n_House_known_starts, hF_starts, _, us, rfl, d, q⟩
theorem bi_House_notes (T : Tx K mg) : Binds K (fdOf K (He.fAd K d_House_notes.at_)) ["self"] [] := T.f_House_notes.bindsN fun _ _ _ _ _ _ us hl => match us, hl with | [_], _ => rfl
/-! ### starts -/
theorem z1 {v : V} : [v].length ≤ 1000 := by show 1 ≤ 1000; decide
theorem z2 {v u : V} : [v, u].length ≤ sizeLine := by show 2 ≤ sizeLine; decide
theorem shaped_si {e : Str} {m : Int} (h : PyData.strOk e = true) : SeqAt.shaped (.tuple [.str e, .int m]) = true := shaped_of (by simp [PyData.canLay0, PyData.canLayAll0, h]) (by simp [PyData.depth, PyData.depthAll])
theorem eqv_si {e e' : Str} {m m' : Int} : PyData.eqv (.tuple [.str e', .int m']) (.tuple [.str e, .int m]) = decide (e' = e ∧ m' = m) := eqv_dec (by rfl) (by rfl) (by simp)
/-- a raise of a class with one field -/
theorem raise_x {C a : Addr} {f : Str} {v : V} {H1 : Hp} {W E : XK} (ha : H1 a = none) (h : ∀ d, H1 d = none → W (.ref C) (some d) (upd H1 d (.xd [(f, v)]))) :
    sp_exc C f (V.ref a :: ([v] ++ [])) (upd H1 a (exo a C none)) (fun u H2 => u = V.non ∧ ∃ d fs, H2 a = some (exo a C (some d)) ∧ H2 d = some (exd d fs) ∧ H1 d = none ∧ W (.ref C) (some d) (upd (del H2 a) d (.xd fs))) E := by
  refine ⟨a, v, rfl, upd_same, fun dx h1 h2 => ⟨rfl, dx, [(f, v)], upd_same, by rw [upd_ne h2, upd_same], (upd_none h1).2, ?_⟩⟩
  have e : upd (del (upd (upd (upd H1 a (exo a C none)) dx (exd dx [(f, v)])) a (exo a C (some dx))) a) dx (.xd [(f, v)]) = upd H1 dx (.xd [(f, v)]) := by
    funext b
    by_cases hb : b = dx
    · subst hb
      rw [upd_same, upd_same]
    · rw [upd_ne hb, upd_ne hb]
      by_cases ha' : b = a
      · rw [ha', del_same, ha]
      · rw [del_ne ha', upd_ne ha', upd_ne hb, upd_ne ha']
  rw [e]
  exact h dx (upd_none h1).2
theorem startsF_cases (a b c d : V) : (∃ p, startsF a b c d = .str p) ∨ (startsF a b c d = .non ∧ ∃ s n e m, a = .str s ∧ b = .int n ∧ c = .str e ∧ d = .int m ∧ nameB s = true ∧ 1 ≤ n ∧ nameB e = true ∧ 1 ≤ m) := by
  unfold startsF
  by_cases h1 : nameV a = false
  · rw [if_pos h1]; exact .inl ⟨_, rfl⟩
  rw [if_neg h1]
  by_cases h2 : fromV b 1 = false
  · rw [if_pos h2]; exact .inl ⟨_, rfl⟩
  rw [if_neg h2]
  by_cases h3 : nameV c = false
  · rw [if_pos h3]; exact .inl ⟨_, rfl⟩
  rw [if_neg h3]
  by_cases h4 : fromV d 1 = true
  · rw [if_pos h4]
    refine .inr ⟨rfl, ?_⟩
    have nm : ∀ v, ¬ nameV v = false → ∃ z, v = .str z ∧ nameB z = true := fun v h => by
      cases v with
      | str z => exact ⟨z, rfl, by simpa [nameV] using h⟩
      | _ => exact absurd rfl h
    have fm : ∀ v, fromV v 1 = true → ∃ i, v = .int i ∧ 1 ≤ i := fun v h => by
      cases v with
      | int i => exact ⟨i, rfl, of_decide_eq_true h⟩
      | _ => cases h
    obtain ⟨s, e1, n1⟩ := nm a h1
    obtain ⟨n, e2, n2⟩ := fm b (by simpa using h2)
    obtain ⟨e, e3, n3⟩ := nm c h3
    obtain ⟨m, e4, n4⟩ := fm d h4
    exact ⟨s, n, e, m, e1, e2, e3, e4, n1, n2, n3, n4⟩
  · rw [if_neg h4]; exact .inl ⟨_, rfl⟩
def sp_starts (K : PySem.W.Frag) : Sp := fun vs H Q E => ∃ x A a b c d kvs, vs = [.ref x, a, b, c, d] ∧ HsAt K H x A ∧ H A.starts = some (.dT kvs) ∧ kvs.length < 1000 ∧ (Any K H a ∧ Sz a) ∧ Any K H b ∧ (Any K H c ∧ Sz c) ∧ Any K H d ∧
  (∀ p, startsF a b c d = .str p → ∀ H' dd, Same H H' → H' dd = some (.xd [("part", .str p)]) → E (.ref (He.ga K "NoStarts")) (some dd) H') ∧
  (∀ s n e m, startsF a b c d = .non → a = .str s → b = .int n → c = .str e → d = .int m →
    (valV kvs [.inr s, .inl n] = none → ∀ H' q, H q = none → H' q = some (.tup [.str e, .int m]) → H' A.starts = some (.dT (kvs ++ [([.inr s, .inl n], .ref q)])) → (∀ p o, H p = some o → p ≠ A.starts → H' p = some o) → Q (.str "new") H') ∧
    (∀ u, valV kvs [.inr s, .inl n] = some u → ∃ q e' m', u = .ref q ∧ H q = some (.tup [.str e', .int m']) ∧ PyData.strOk e' = true ∧ PyData.strOk e = true ∧
      ((e' = e ∧ m' = m) → ∀ H', Same H H' → Q (.str "again") H') ∧
      (¬ (e' = e ∧ m' = m) → ∀ H' dd t, Same H H' → H' t = some (.tup [.str s, .int n]) → H' dd = some (.xd [("tag", .ref t)]) → E (.ref (He.ga K "Unlike")) (some dd) H')))
theorem sc_House_starts : FnScope ["self", "sender", "number", "edition", "many", "part"] ["self", "sender", "number", "edition", "many"] (defScope s_House_starts) := ⟨rfl, rfl, rfl, by decide +kernel, rfl, by decide +kernel, by decide +kernel⟩
theorem ok_House_starts (T : Tx K mg) : Ok P w K mg base 4 d_House_starts ["self", "sender", "number", "edition", "many"] (sp_starts K) := by
  refine T.f_House_starts.ok sc_House_starts (fun vs H Q E h => ?_) (fun cdv A outer s H vs Q E hr h => ?_)
  · obtain ⟨x, A, a, b, c, d, kvs, rfl, _⟩ := h
    rfl
  · obtain ⟨x, A, a, b, c, d, kvs, rfl, h, hs, hk, ⟨ha, za⟩, hb, ⟨hc, zc⟩, hd, qf, qn⟩ := h
    have hu := hu_of hr
    have hr2 : Room 2 _ := hr.mono (by decide)
    have hr1 : Room 1 _ := hr.mono (by decide)
    have X1 := exOk_1 T.ex (x := "NoStarts") (by decide)
    have I1 := exOk_i T.ex (x := "NoStarts") (by decide)
    have X2 := exOk_1 T.ex (x := "Unlike") (by decide)
    have I2 := exOk_i T.ex (x := "Unlike") (by decide)
    refine ⟨_, pss_cons (ps_expr (pe_meth0 (pv 0) T.c_House T.m_House_sure_idle (ok_House_sure_idle T) hr1 (bi_House_sure_idle T) .nil psE))
      (pss_cons (ps_set (i := 5) sc_House_starts.nd rfl (Or.inl rfl) (pe_call (ok_starts_fault T) hr rfl T.g_starts_fault T.f_starts_fault.kp (bi_starts_fault T) .nil psE (pa_cons (pv 1) (pa_cons (pv 2) (pa_cons (pv 3) (pa_cons (pv 4) pa_nil))))))
      (pss_cons (ps_if (pt_cmpR op_notN (pv 5) pe_non (nomark _)) (pss_one (ps_raise rfl tkE (pmk_oex X1.o I1.1 I1.2 (ok_NoStarts_init T) hr2 (bi_NoStarts_init T) .nil ps0 rfl T.g_NoStarts (pa_cons (pv 5) pa_nil)))) pss_nil)
      (pss_cons (ps_if (pt_cmp (pc_dnotin hu (pe_tup (pa_cons (pv 1) (pa_cons (pv 2) pa_nil))) (pe_fld (pv 0) rfl)))
        (pss_cons (ps_dput hu (pe_fld (pv 0) rfl) (pe_tup (pa_cons (pv 1) (pa_cons (pv 2) pa_nil))) (pe_tup (pa_cons (pv 3) (pa_cons (pv 4) pa_nil))) rfl) (pss_one (ps_ret pe_str))) pss_nil)
      (pss_cons (ps_if (pt_cmpR (op_neD hr.units) (pe_dget hu (pe_fld (pv 0) rfl) (pe_tup (pa_cons (pv 1) (pa_cons (pv 2) pa_nil))) (fun _ _ => rfl)) (pe_tup (pa_cons (pv 3) (pa_cons (pv 4) pa_nil))) (nomark _))
        (pss_one (ps_raise rfl tkE (pmk_oex X2.o I2.1 I2.2 (ok_Unlike_init T) hr2 (bi_Unlike_init T) .nil ps0 rfl T.g_Unlike (pa_cons (pe_tup (pa_cons (pv 1) (pa_cons (pv 2) pa_nil))) pa_nil)))) pss_nil)
      (pss_one (ps_ret pe_str)))))), ?_⟩
    walk_at "rd"
    refine ⟨_, rfl, x, _, _, rfl, h.ob, (by kernel_rfl), x, A, rfl, h, _, rfl, _, rfl, _, rfl, _, rfl, a, b, c, d, rfl, ⟨ha, za⟩, hb, ⟨hc, zc⟩, hd, fun H1 s1 => ⟨_, rfl, rfl, _, rfl, ?_⟩⟩
    rcases startsF_cases a b c d with ⟨p, hp⟩ | ⟨hp, s', n, e, m, rfl, rfl, rfl, rfl, _⟩
    · rw [hp]
      refine iteT ⟨_, rfl, z1, fun t ht => raise_x ht fun dd hdd => qf p hp _ dd (s1.trans (Same.new hdd)) upd_same⟩
    · rw [hp]
      refine iteF ?_
      obtain ⟨qa, qb⟩ := qn s' n e m hp rfl rfl rfl rfl
      have hob := s1 _ _ h.ob
      have hst := s1 _ _ hs
      refine ⟨_, rfl, _, rfl, z2, fun p np => ⟨_, rfl, x, _, _, _, _, rfl, upd_at hob (ne_of_none hob np), T.c_House, T.n_House_known_starts, hF_starts, _, _, rfl, DGet.t (k := [.inr s', .inl n]) (upd_at hst (ne_of_none hst np)) upd_same, _, rfl, ?_⟩⟩
      have sp := s1.trans (Same.new (o := .tup [.str s', .int n]) np)
      have hob2 := sp _ _ h.ob
      have hst2 := sp _ _ hs
      cases hv : valV kvs [.inr s', .inl n] with
      | none =>
        refine iteT ⟨_, rfl, _, rfl, z2, fun q nq => ⟨_, rfl, x, _, _, _, _, rfl, upd_at hob2 (ne_of_none hob2 nq), T.c_House, T.n_House_known_starts, hF_starts, _, rfl, _, rfl, z2, fun t nt => ?_⟩⟩
        have s3 := Same.new (o := .tup [.str e, .int m]) nq
        have s4 := Same.new (o := .tup [.str s', .int n]) nt
        have hst4 := s4 _ _ (s3 _ _ hst2)
        refine ⟨_, _, rfl, DPut.t (k := [.inr s', .inl n]) hst4 upd_same (by rw [sizeLine_eq]; omega), ?_⟩
        have nq' : A.starts ≠ q := ne_of_none hst2 nq
        refine qa hv _ q (sp.free nq) ?_ ?_ fun p o hpo hne => ?_
        · rw [upd_ne nq'.symm]
          exact s4 _ _ upd_same
        · rw [upd_same, putK_new _ hv]
        · rw [upd_ne hne]
          exact s4 _ _ (s3 _ _ (sp _ _ hpo))
      | some u =>
        obtain ⟨q, e', m', rfl, hq, k1, k2, qc, qd⟩ := qb u hv
        refine iteF ⟨_, rfl, x, _, _, _, _, rfl, hob2, T.c_House, T.n_House_known_starts, hF_starts, _, rfl, _, rfl, z2, fun t nt => ⟨_, .ref q, rfl, ?_, _, rfl, _, rfl, z2, fun r nr => ⟨.tuple [.str e', .int m'], .tuple [.str e, .int m], ?_, ?_, ?_, ?_, _, rfl, ?_⟩⟩⟩
        · rw [← hv]
          exact DGet.t (k := [.inr s', .inl n]) (upd_at hst2 (ne_of_none hst2 nt)) upd_same
        · have s3 := Same.new (o := .tup [.str s', .int n]) nt
          have s4 := Same.new (o := .tup [.str e, .int m]) nr
          exact .tup (.of (s4 _ _ (s3 _ _ (sp _ _ hq)))) (.cons (.str _) (.cons (.int _) .nil))
        · exact .tup (.of upd_same) (.cons (.str _) (.cons (.int _) .nil))
        · exact shaped_si k1
        · exact shaped_si k2
        · have s3 := Same.new (o := .tup [.str s', .int n]) nt
          have s4 := Same.new (o := .tup [.str e, .int m]) nr
          have sa := (sp.trans s3).trans s4
          rw [eqv_si]
          by_cases he : e' = e ∧ m' = m
          · rw [decide_eq_true he]
            exact iteF (qc he _ sa)
          · rw [decide_eq_false he]
            refine iteT ⟨_, rfl, _, rfl, z2, fun u nu => ⟨z1, fun y hy => raise_x hy fun dd hdd => ?_⟩⟩
            have s5 := Same.new (o := .tup [.str s', .int n]) nu
            have s6 := Same.new (o := .xd [("tag", .ref u)]) hdd
            exact qd he _ dd u ((sa.trans s5).trans s6) (s6 _ _ upd_same) upd_same
end
end Fw

set_option Elab.async false
set_option linter.all false
set_option maxRecDepth 100000
set_option maxHeartbeats 4000000
namespace Fw
open PySem PySem.Spec PyProof.Rows L2
local macro_rules | `(tactic| walk_at "rd") => `(tactic| dsimp only [cxOf, tRet, tAndV, tOrV, tNotV, tCB, tCons, tNil, tC, tVar, tSeq, tIfS, tNext, tTest, tOp, tB, tAnd, tOr, tNot, tChain, tCall, rI0, rI, gName, tYes, iStr, tIf, tAsg, tDrop, tRetN, iList, iTup, gTup, gCons, gNil, tTup, tLst, tMeth, tFld, tSl, tNoPart, tPart, tBM, tBM0, tUn, rU, tVeI, tOst, iEnum, iRng1, iRng2, sFld, tMake, tDNewK, tDNewT, tListVals, tDNotIn, tDIn, tDGet, sDPut, tMkO, tCallN, tMethN, WE])
section
variable {P : Program} {w : World} {K : PySem.W.Frag} {mg : Str → Option Value} {base : Heap}
/-- the notes as they are kept: edition, how many -/
def NoteV (H : Hp) (v : V) (n : Str × Int) : Prop := ∃ q, v = .ref q ∧ H q = some (.tup [.str n.1, .int n.2])
def startsOf (e : Str) (ns : List (Str × Int)) : Int := ((ns.filter fun n => decide (n.1 = e)).map (·.2)).sum
theorem take_snoc {α : Type} {l : List α} {i : Nat} {x : α} (h : l[i]? = some x) : l.take (i + 1) = l.take i ++ [x] := by
  rw [List.take_succ, h]
  rfl
theorem paired_at {α β : Type} {F : α → β → Prop} : ∀ {xs : List α} {ys : List β}, Paired F xs ys → ∀ {i : Nat} {x : α}, xs[i]? = some x → ∃ y, ys[i]? = some y ∧ F x y
  | _, _, .nil, i, x, h => by cases h
  | _, _, .cons r t, 0, x, h => by
    have e := Option.some.inj h
    subst e
    exact ⟨_, rfl, r⟩
  | _, _, .cons r t, i + 1, x, h => paired_at t h
def sp_health_in (K : PySem.W.Frag) : Sp := fun vs H Q _ => ∃ e pf pn us ns, vs = [.str e, .ref pf, .ref pn] ∧ SqL K H pf [] ∧ SqL K H pn us ∧ Paired (NoteV H) us ns ∧ us.length ≤ 1000 ∧
  ∀ H' t, Same H H' → H' t = some (.tup [.int (startsOf e ns), .int 0]) → Q (.ref t) H'
theorem sc_health_in : FnScope ["edition", "falls", "notes", "starts", "name", "many", "fall"] ["edition", "falls", "notes"] (defScope s_health_in) := ⟨rfl, rfl, rfl, by decide +kernel, rfl, by decide +kernel, by decide +kernel⟩
theorem ok_health_in (T : Tx K mg) : Ok P w K mg base 1 d_health_in ["edition", "falls", "notes"] (sp_health_in K) := by
  refine T.f_health_in.ok sc_health_in (fun vs H Q E h => ?_) (fun cdv A outer s H vs Q E hr h => ?_)
  · obtain ⟨e, pf, pn, us, ns, rfl, _⟩ := h
    rfl
  · obtain ⟨e, pf, pn, us, ns, rfl, hf, hn, hp, hl, q⟩ := h
    refine ⟨_, pss_cons (ps_set (i := 3) sc_health_in.nd rfl (Or.inl rfl) (pe_callB (cr_sum rfl) rfl T.b_sum bt_sum (pa_cons
        (pe_lc (own := [("name", 4), ("many", 5)]) (g := gTup K 2 (gCons (gName 4) (gCons (gName 5) gNil))) (tt := tTest (tOp rEq (tVar 4) (tVar 0))) rfl sc_health_in.nd (pi_list (pv 2)) (blkOk_by (N := ["edition", "falls", "notes", "starts", "name", "many", "fall"]) (sc := defScope s_health_in) (by decide +kernel))
          (fun _ _ _ _ _ => pg_tup rfl (pgs_cons (pg_name (i := 4) sc_health_in.nd rfl (Or.inl rfl)) (pgs_cons (pg_name (i := 5) sc_health_in.nd rfl (Or.inl rfl)) pgs_nil)))
          (fun _ _ _ _ _ => pts_one (pt_cmpR op_eq (pv 4) (pv 0) (nomark _))) (fun _ _ _ _ _ => pv 5)) pa_nil)))
      (pss_one (ps_ret (pe_tup (pa_cons (pv 3) (pa_cons (pe_callB call_len_seq rfl T.b_len bt_len (pa_cons
        (pe_lc (own := [("fall", 6)]) (g := gName 6) (tt := tNever') (te := tNeverE) rfl sc_health_in.nd (pi_list (pv 1)) (blkOk_by (N := ["edition", "falls", "notes", "starts", "name", "many", "fall"]) (sc := defScope s_health_in) (by decide +kernel))
          (fun _ _ _ _ _ => pg_name (i := 6) sc_health_in.nd rfl (Or.inl rfl)) (fun _ _ _ _ _ => pts_never) (fun _ _ _ _ _ => pe_never)) pa_nil)) pa_nil))))), ?_⟩
    walk_at "rd"
    have hlen : us.length = ns.length := Paired.length hp
    refine lc_in ?_
    walk_at "rd"
    refine ⟨_, rfl, pn, rfl, ⟨us, hn⟩, lc_gen [] (runs_list hn) (fun _ h => nomatch h) (by omega) (fun i acc _ => acc = ((ns.take i).filter fun n => decide (n.1 = e)).map fun n => V.int n.2) (fun _ _ _ _ _ h => h) rfl (fun ms' i x acc H1 Ky Kn hi s1 s2 tr p hG ky kn => ?_) fun D acc H1 s1 hD _ hacc _ hG => ?_⟩
    · obtain ⟨n, hn2, qa, rfl, hq⟩ := paired_at hp p
      have hq1 := s1 _ _ hq
      walk_at "rd"
      refine ⟨qa, _, rfl, .of hq1, rfl, _, _, rfl, _, _, rfl, rfl, rfl, _, rfl, _, rfl, rfl, _, rfl, ?_⟩
      rw [take_snoc hn2] at ky kn
      rw [hG] at ky kn
      rw [List.filter_append, List.map_append] at ky kn
      by_cases he : n.1 = e
      · refine iteT' (decide_eq_true (by rw [he])) ⟨_, rfl, ky _ H1 (Same.refl _) ?_⟩
        simp [he]
      · refine iteF' (decide_eq_false fun z => he (V.str.inj z)) (kn H1 (Same.refl _) ?_)
        simp [he]
    · rw [List.take_of_length_le (by omega)] at hG
      refine ⟨D, (ns.filter fun n => decide (n.1 = e)).map (·.2), rfl, .of (by rw [hacc, hG, List.map_map]; rfl), _, rfl, ?_⟩
      refine lc_in ?_
      walk_at "rd"
      have hf1 : SqL K H1 pf [] := s1.seq hf
      refine ⟨_, rfl, pf, rfl, ⟨[], hf1⟩, lc_gen [] (runs_list hf1) (fun _ h => nomatch h) (by decide) (fun i acc _ => acc = []) (fun _ _ _ _ _ h => h) rfl (fun ms' i x acc H1 Ky Kn hi => absurd hi (Nat.not_lt_zero _)) fun D2 acc2 H2 s2 hD2 _ hacc2 _ hG2 => ?_⟩
      rw [hG2] at hacc2
      refine ⟨D2, [], rfl, .inl (.of hacc2), (by show 2 ≤ sizeLine; decide), fun t ht => q _ t ((s1.trans s2).trans (Same.new ht)) upd_same⟩
def kb_health_in (T : Tx K mg) : KBn K (fdOf K (He.fAd K d_health_in.at_)) ["edition", "falls", "notes"] 1 ["falls", "notes"] (fun us ws => us ++ ws) (fun vs zs => vs ++ zs) :=
  kbN T.f_health_in 1 ["falls", "notes"] (fun a b => a ++ b) (fun r1 r2 => r1.append r2) fun _ _ _ _ _ _ us ws h1 h2 => match us, ws, h1, h2 with | [_], [_, _], _, _ => rfl
/-! ### health -/
def sp_health (K : PySem.W.Frag) : Sp := fun vs H Q _ => ∃ x A e fs kvs ns, vs = [.ref x, .str e] ∧ HsAt K H x A ∧ H A.falls = some (.dT fs) ∧ fs = [] ∧ H A.starts = some (.dT kvs) ∧ Paired (NoteV H) (kvs.map (·.2)) ns ∧ kvs.length ≤ 1000 ∧
  ∀ H' t, Same H H' → H' t = some (.tup [.int (startsOf e ns), .int 0]) → Q (.ref t) H'
theorem sc_House_health : FnScope ["self", "edition"] ["self", "edition"] (defScope s_House_health) := ⟨rfl, rfl, rfl, by decide +kernel, rfl, by decide +kernel, by decide +kernel⟩
theorem paired_same {H H' : Hp} {us : List V} {ns : List (Str × Int)} (s : Same H H') (h : Paired (NoteV H) us ns) : Paired (NoteV H') us ns := Paired.mapP h fun v n ⟨q, e1, e2⟩ => ⟨q, e1, s _ _ e2⟩
theorem ok_House_health (T : Tx K mg) : Ok P w K mg base 2 d_House_health ["self", "edition"] (sp_health K) := by
  refine T.f_House_health.ok sc_House_health (fun vs H Q E h => ?_) (fun cdv A outer s H vs Q E hr h => ?_)
  · obtain ⟨x, A, e, fs, kvs, ns, rfl, _⟩ := h
    rfl
  · obtain ⟨x, A, e, fs, kvs, ns, rfl, h, hf, rfl, hs, hp, hl, q⟩ := h
    refine ⟨_, pss_one (ps_ret (pe_callN (ok_health_in T) hr rfl T.g_health_in T.f_health_in.kp (kb_health_in T) psE (pa_cons (pv 1) pa_nil)
      (pk_cons (pe_meth0 (pv 0) T.c_House T.m_House_all_falls (ok_House_all_falls T) hr (bi_House_all_falls T) .nil psE) (pk_cons (pe_meth0 (pv 0) T.c_House T.m_House_notes (ok_House_notes T) hr (bi_House_notes T) .nil psE) pk_nil)))), ?_⟩
    walk_at "rd"
    refine ⟨_, rfl, _, rfl, x, _, _, rfl, h.ob, (by kernel_rfl), x, A, [], rfl, h, .inl ⟨[], hf, rfl⟩, fun l hl1 => ?_⟩
    have s1 := Same.new (o := .lst []) hl1
    have h1 : HsAt K (upd H l (.lst [])) x A := ⟨s1 _ _ h.ob, h.nd⟩
    refine ⟨_, rfl, x, _, _, rfl, h1.ob, (by kernel_rfl), x, A, _, rfl, h1, .inl ⟨kvs, s1 _ _ hs, rfl⟩, fun l2 hl2 => ?_⟩
    have s2 := Same.new (o := .lst (kvs.map (·.2))) hl2
    exact ⟨rfl, rfl, e, l, l2, _, ns, rfl, .of (s2 _ _ upd_same), .of upd_same, paired_same (s1.trans s2) hp, by rw [List.length_map]; exact hl, fun H' t s3 ht => q H' t ((s1.trans s2).trans s3) ht⟩
theorem bi_House_health (T : Tx K mg) : Binds K (fdOf K (He.fAd K d_House_health.at_)) ["self", "edition"] [] := T.f_House_health.bindsN fun _ _ _ _ _ _ us hl => match us, hl with | [_, _], _ => rfl
end
end Fw

set_option Elab.async false
set_option linter.all false
set_option maxRecDepth 100000
set_option maxHeartbeats 4000000
namespace Fw
open PySem PySem.Spec PyProof.Rows L2
local macro_rules | `(tactic| walk_at "rd") => `(tactic| dsimp only [cxOf, tRet, tAndV, tOrV, tNotV, tCB, tCons, tNil, tC, tVar, tSeq, tIfS, tNext, tTest, tOp, tB, tAnd, tOr, tNot, tChain, tCall, rI0, rI, gName, tYes, iStr, tIf, tAsg, tDrop, tRetN, iList, iTup, gTup, gCons, gNil, tTup, tLst, tMeth, tFld, tSl, tNoPart, tPart, tBM, tBM0, tUn, rU, tVeI, tOst, iEnum, iRng1, iRng2, sFld, tMake, tDNewK, tDNewT, tListVals, tDNotIn, tDIn, tDGet, sDPut, tMkO, tCallN, tMethN, WE, gSub, rSetL, tPar, rCatT])
section
variable {P : Program} {w : World} {K : PySem.W.Frag} {mg : Str → Option Value} {base : Heap}
/-! ### draws -/
/-- a source: three numbers -/
def Src (H : Hp) (p : Addr) : Prop := ∃ a b c, H p = some (.lst [.int a, .int b, .int c])
def sp_cell_at (K : PySem.W.Frag) : Sp := fun vs H Q _ => ∃ (a : Addr) (ns : List Int) (k : Int), vs = [.ref a, .int k] ∧ SqL K H a (ns.map V.int) ∧ ns.length ≤ 63 ∧ 0 ≤ k ∧ ∀ r, Q (.int r) H
theorem sc__law_cell_at : FnScope ["_law_script", "_law_k"] ["_law_script", "_law_k"] (defScope s__law_cell_at) := ⟨rfl, rfl, rfl, by decide +kernel, rfl, by decide +kernel, by decide +kernel⟩
theorem int_at {ns : List Int} {k : Int} (h0 : 0 ≤ k) (h1 : k < (ns.length : Int)) : ∃ r, atI (ns.map V.int) k = some (.int r) := by
  obtain ⟨j, rfl⟩ : ∃ j : Nat, k = (j : Int) := ⟨k.toNat, by omega⟩
  have hj : j < ns.length := by omega
  exact ⟨ns[j], atI_nat (by simp [hj])⟩
theorem ok__law_cell_at (T : Tx K mg) : Ok P w K mg base 1 d__law_cell_at ["_law_script", "_law_k"] (sp_cell_at K) := by
  refine T.f__law_cell_at.ok sc__law_cell_at (fun vs H Q E h => ?_) (fun cdv A outer s H vs Q E hr h => ?_)
  · obtain ⟨a, ns, k, rfl, _⟩ := h
    rfl
  · obtain ⟨a, ns, k, rfl, hs, hl, h0, q⟩ := h
    refine ⟨_, pss_cons (ps_if (pt_cmpR op_lt (pv 1) (pe_callB call_len_seq rfl T.b_len bt_len (pa_cons (pv 0) pa_nil)) (nomark _)) (pss_one (ps_ret (pe_ix ix_list (pv 0) (pv 1) (fun _ _ => rfl)))) pss_nil) (pss_one (ps_ret pe_int)), ?_⟩
    walk_at "rd"
    refine ⟨_, rfl, _, rfl, a, _, rfl, .inl hs, k, _, rfl, rfl, _, rfl, ?_⟩
    rw [List.length_map]
    refine ite2 (fun hlt => ?_) (fun _ => q 0)
    obtain ⟨r, hr⟩ := int_at h0 (of_decide_eq_true hlt)
    exact ⟨_, rfl, _, rfl, a, _, k, _, rfl, rfl, hs, hr, q r⟩
theorem bi__law_cell_at (T : Tx K mg) : Binds K (fdOf K (He.fAd K d__law_cell_at.at_)) ["_law_script", "_law_k"] [] := T.f__law_cell_at.bindsN fun _ _ _ _ _ _ us hl => match us, hl with | [_, _], _ => rfl
def sp_mixed : Sp := fun vs H Q _ => ∃ c k, vs = [.int c, .int k] ∧ ∀ r, 0 ≤ r → r < 2147483563 → Q (.int r) H
theorem sc__law_mixed : FnScope ["_law_cell", "_law_k", "_law_low"] ["_law_cell", "_law_k"] (defScope s__law_mixed) := ⟨rfl, rfl, rfl, by decide +kernel, rfl, by decide +kernel, by decide +kernel⟩
theorem div_ok {j : Int} (h0 : 0 < j) (h : j.natAbs < 2 ^ 62) (i : Int) : CDivW i j := wide_div h0 h (by decide) (by decide)
theorem ok__law_mixed (T : Tx K mg) : Ok P w K mg base 1 d__law_mixed ["_law_cell", "_law_k"] sp_mixed := by
  refine T.f__law_mixed.ok sc__law_mixed (fun vs H Q E h => ?_) (fun cdv A outer s H vs Q E hr h => ?_)
  · obtain ⟨c, k, rfl, _⟩ := h
    rfl
  · obtain ⟨c, k, rfl, q⟩ := h
    refine ⟨_, pss_cons (ps_set (i := 2) sc__law_mixed.nd rfl (Or.inl rfl) (pe_op op_add (pe_op op_mod (pe_callTy call_int1 rfl T.b_int bt_int (pa_cons (pv 0) pa_nil)) pe_int) (pe_op op_mul (pe_op op_fdivW (pv 0) pe_int) pe_int)))
      (pss_cons (ps_set (i := 2) sc__law_mixed.nd rfl (Or.inl rfl) (pe_op op_mod (pe_callTy call_int1 rfl T.b_int bt_int (pa_cons (pe_op op_mul (pe_op op_add (pe_op op_add (pv 2) (pe_op op_mul pe_int (pv 1))) pe_int) pe_int) pa_nil)) pe_int))
      (pss_cons (ps_set (i := 2) sc__law_mixed.nd rfl (Or.inl rfl) (pe_op op_mod (pe_callTy call_int1 rfl T.b_int bt_int (pa_cons (pe_op op_mul (pv 2) (pe_op op_add (pe_op op_add (pe_op op_fdivW (pv 2) pe_int) pe_int) (pv 1))) pa_nil)) pe_int))
      (pss_one (ps_ret (pe_op op_mod (pe_callTy call_int1 rfl T.b_int bt_int (pa_cons (pe_op op_mul (pv 2) (pe_op op_add (pe_op op_fdivW (pv 2) pe_int) pe_int)) pa_nil)) pe_int))))), ?_⟩
    walk_at "rd"
    refine ⟨_, rfl, .inl ⟨_, rfl, _, _, rfl, rfl, by decide, _, rfl, _, _, rfl, rfl, div_ok (by decide) (by decide) _, _, _, rfl, rfl, .inr (by decide), _, _, rfl, rfl, ?_⟩⟩
    refine ⟨_, rfl, _, rfl, _, _, rfl, rfl, .inl (by decide), _, _, rfl, rfl, _, _, rfl, rfl, _, _, rfl, rfl, .inr (by decide), .inl ⟨_, rfl, _, _, rfl, rfl, by decide, ?_⟩⟩
    have m1 : ∀ i : Int, 0 ≤ i % 2147483629 ∧ i % 2147483629 < 2147483629 := fun i => ⟨Int.emod_nonneg _ (by decide), Int.emod_lt_of_pos _ (by decide)⟩
    have m2 : ∀ i : Int, 0 ≤ i % 2147483587 ∧ i % 2147483587 < 2147483587 := fun i => ⟨Int.emod_nonneg _ (by decide), Int.emod_lt_of_pos _ (by decide)⟩
    refine ⟨_, rfl, _, rfl, _, _, rfl, rfl, div_ok (by decide) (by decide) _, _, _, rfl, rfl, _, rfl, _, _, rfl, rfl, _, _, rfl, rfl, .inl ?_, .inl ⟨_, rfl, _, _, rfl, rfl, by decide, ?_⟩⟩
    · have := m1 ((c % 2147483629 + c / 2147483629 * 30011 + 69621 * k + 1) * 48271)
      constructor <;> omega
    refine ⟨_, rfl, _, rfl, _, _, rfl, rfl, div_ok (by decide) (by decide) _, _, _, rfl, rfl, _, _, rfl, rfl, .inl ?_, .inl ⟨_, rfl, _, _, rfl, rfl, by decide, q _ (Int.emod_nonneg _ (by decide)) (Int.emod_lt_of_pos _ (by decide))⟩⟩
    generalize hx : ((c % 2147483629 + c / 2147483629 * 30011 + 69621 * k + 1) * 48271 % 2147483629 * ((c % 2147483629 + c / 2147483629 * 30011 + 69621 * k + 1) * 48271 % 2147483629 / 907 + 16831 + k)) = y
    have := m2 y
    constructor <;> omega
theorem bi__law_mixed (T : Tx K mg) : Binds K (fdOf K (He.fAd K d__law_mixed.at_)) ["_law_cell", "_law_k"] [] := T.f__law_mixed.bindsN fun _ _ _ _ _ _ us hl => match us, hl with | [_, _], _ => rfl
/-! ### a source -/
def sp_source (K : PySem.W.Frag) : Sp := fun vs H Q _ => ∃ (a : Addr) (ns : List Int) (k : Int), vs = [.ref a, .int k] ∧ SqL K H a (ns.map V.int) ∧ ns.length ≤ 63 ∧ 0 ≤ k ∧ ∀ p a b c, H p = none → Q (.ref p) (upd H p (.lst [.int a, .int b, .int c]))
theorem sc__law_source : FnScope ["_law_script", "_law_k", "_law_cell"] ["_law_script", "_law_k"] (defScope s__law_source) := ⟨rfl, rfl, rfl, by decide +kernel, rfl, by decide +kernel, by decide +kernel⟩
theorem z3 {a b c : V} : [a, b, c].length ≤ sizeLine := by show 3 ≤ sizeLine; decide
theorem z4 {a b c d : V} : [a, b, c, d].length ≤ sizeLine := by show 4 ≤ sizeLine; decide
theorem z5 {a b c d e : V} : [a, b, c, d, e].length ≤ sizeLine := by show 5 ≤ sizeLine; decide
theorem ok__law_source (T : Tx K mg) : Ok P w K mg base 2 d__law_source ["_law_script", "_law_k"] (sp_source K) := by
  refine T.f__law_source.ok sc__law_source (fun vs H Q E h => ?_) (fun cdv A outer s H vs Q E hr h => ?_)
  · obtain ⟨a, ns, k, rfl, _⟩ := h
    rfl
  · obtain ⟨a, ns, k, rfl, hs, hl, h0, q⟩ := h
    refine ⟨_, pss_cons (ps_if (pt_cmpR op_lt (pv 1) (pe_callB call_len_seq rfl T.b_len bt_len (pa_cons (pv 0) pa_nil)) (nomark _)) (pss_one (ps_ret (pe_lst (pa_cons (pe_ix ix_list (pv 0) (pv 1) (fun _ _ => rfl)) (pa_cons (pe_ix ix_list (pv 0) (pv 1) (fun _ _ => rfl)) (pa_cons pe_int pa_nil)))))) pss_nil)
      (pss_cons (ps_set (i := 2) sc__law_source.nd rfl (Or.inl rfl) (pe_call (ok__law_mixed T) hr rfl T.g__law_mixed T.f__law_mixed.kp (bi__law_mixed T) .nil psE (pa_cons (pe_call (ok__law_cell_at T) hr rfl T.g__law_cell_at T.f__law_cell_at.kp (bi__law_cell_at T) .nil psE (pa_cons (pv 0) (pa_cons pe_int pa_nil))) (pa_cons (pe_op op_add pe_int (pv 1)) pa_nil))))
      (pss_one (ps_ret (pe_lst (pa_cons (pv 2) (pa_cons (pv 2) (pa_cons pe_int pa_nil))))))), ?_⟩
    walk_at "rd"
    refine ⟨_, rfl, _, rfl, a, _, rfl, .inl hs, k, _, rfl, rfl, _, rfl, ?_⟩
    rw [List.length_map]
    refine ite2 (fun hlt => ?_) (fun _ => ?_)
    · obtain ⟨r, hr⟩ := int_at h0 (of_decide_eq_true hlt)
      exact ⟨_, rfl, _, rfl, a, _, k, _, rfl, rfl, hs, hr, _, rfl, _, rfl, a, _, k, _, rfl, rfl, hs, hr, z3, fun p hp => q p _ _ _ hp⟩
    · refine ⟨_, rfl, a, ns, 0, rfl, hs, hl, (by decide), fun r => ⟨_, rfl, _, _, rfl, rfl, r, _, rfl, fun r2 _ _ => ⟨_, rfl, _, rfl, z3, fun p hp => q p _ _ _ hp⟩⟩⟩
theorem bi__law_source (T : Tx K mg) : Binds K (fdOf K (He.fAd K d__law_source.at_)) ["_law_script", "_law_k"] [] := T.f__law_source.bindsN fun _ _ _ _ _ _ us hl => match us, hl with | [_, _], _ => rfl
/-! ### a draw -/
def sp_next : Sp := fun vs H Q _ => ∃ p n, vs = [.ref p, .int n] ∧ Src H p ∧ 0 < n ∧ n.natAbs < 2 ^ 62 ∧ ∀ r a b c, 0 ≤ r → r < n → Q (.int r) (upd H p (.lst [.int a, .int b, .int c]))
theorem sc__law_next : FnScope ["_law_source_here", "_law_size", "_law_found"] ["_law_source_here", "_law_size"] (defScope s__law_next) := ⟨rfl, rfl, rfl, by decide +kernel, rfl, by decide +kernel, by decide +kernel⟩
theorem ok__law_next (T : Tx K mg) : Ok P w K mg base 2 d__law_next ["_law_source_here", "_law_size"] sp_next := by
  refine T.f__law_next.ok sc__law_next (fun vs H Q E h => ?_) (fun cdv A outer s H vs Q E hr h => ?_)
  · obtain ⟨p, n, rfl, _⟩ := h
    rfl
  · obtain ⟨p, n, rfl, ⟨a, b, c, hp⟩, h0, hn, q⟩ := h
    have hu := hu_of hr
    refine ⟨_, pss_cons (ps_if (pt_cmpR op_ge (pe_ix ix_list (pv 0) pe_int (fun _ _ => rfl)) (pe_op op_pow pe_int pe_int) (nomark _))
        (pss_cons (ps_set (i := 2) sc__law_next.nd rfl (Or.inl rfl) (pe_op op_mod (pe_callTy call_int1 rfl T.b_int bt_int (pa_cons (pe_ix ix_list (pv 0) pe_int (fun _ _ => rfl)) pa_nil)) (pv 1)))
        (pss_cons (ps_asg (pe_op op_fdivW (pe_ix ix_list (pv 0) pe_int (fun _ _ => rfl)) (pv 1)) (pg_sub (pv 0) pe_int set_list)) (pss_one (ps_ret (pv 2))))) pss_nil)
      (pss_cons (ps_asg (pe_op op_add (pe_ix ix_list (pv 0) pe_int (fun _ _ => rfl)) pe_int) (pg_sub (pv 0) pe_int set_list))
      (pss_one (ps_ret (pe_op op_mod (pe_callTy call_int1 rfl T.b_int bt_int (pa_cons (pe_call (ok__law_mixed T) hr rfl T.g__law_mixed T.f__law_mixed.kp (bi__law_mixed T) .nil psE
        (pa_cons (pe_ix ix_list (pv 0) pe_int (fun _ _ => rfl)) (pa_cons (pe_ix ix_list (pv 0) pe_int (fun _ _ => rfl)) pa_nil))) pa_nil)) (pv 1))))), ?_⟩
    walk_at "rd"
    have i0 : ∀ {x y z : V}, atI [x, y, z] 0 = some x := fun {x y z} => atI_nat (j := 0) rfl
    have i1 : ∀ {x y z : V}, atI [x, y, z] 1 = some y := fun {x y z} => atI_nat (j := 1) rfl
    have i2 : ∀ {x y z : V}, atI [x, y, z] 2 = some z := fun {x y z} => atI_nat (j := 2) rfl
    refine ⟨_, rfl, p, _, 0, _, rfl, rfl, .of hp, i0, 10, 18, rfl, rfl, ⟨by decide, by decide, by decide⟩, a, _, rfl, rfl, _, rfl, ?_⟩
    refine ite2 (fun _ => ?_) (fun _ => ?_)
    · refine ⟨_, rfl, p, _, 0, _, rfl, rfl, .of hp, i0, .inl ⟨_, rfl, _, rfl, a, n, rfl, rfl, h0, ?_⟩⟩
      refine ⟨_, rfl, p, _, 0, _, rfl, rfl, .of hp, i0, _, rfl, a, n, rfl, rfl, div_ok h0 hn _, _, rfl, p, _, 0, 0, rfl, rfl, hp, rfl, _, rfl, ?_⟩
      exact q _ _ _ _ (Int.emod_nonneg _ (by omega)) (Int.emod_lt_of_pos _ h0)
    · refine ⟨_, rfl, p, _, 2, _, rfl, rfl, .of hp, i2, _, _, rfl, rfl, _, rfl, p, _, 2, 2, rfl, rfl, hp, rfl, ?_⟩
      refine ⟨_, rfl, p, _, 1, _, rfl, rfl, .of upd_same, i1, _, rfl, p, _, 2, _, rfl, rfl, .of upd_same, i2, _, _, rfl, fun r _ _ => .inl ⟨r, rfl, _, rfl, r, n, rfl, rfl, h0, q _ _ _ _ (Int.emod_nonneg _ (by omega)) (Int.emod_lt_of_pos _ h0)⟩⟩
theorem bi__law_next (T : Tx K mg) : Binds K (fdOf K (He.fAd K d__law_next.at_)) ["_law_source_here", "_law_size"] [] := T.f__law_next.bindsN fun _ _ _ _ _ _ us hl => match us, hl with | [_, _], _ => rfl
end
end Fw

set_option Elab.async false
set_option linter.all false
set_option maxRecDepth 100000
set_option maxHeartbeats 4000000
namespace Fw
open PySem PySem.Spec PyProof.Rows L2
local macro_rules | `(tactic| walk_at "rd") => `(tactic| dsimp only [cxOf, tRet, tAndV, tOrV, tNotV, tCB, tCons, tNil, tC, tVar, tSeq, tIfS, tNext, tTest, tOp, tB, tAnd, tOr, tNot, tChain, tCall, rI0, rI, gName, tYes, iStr, tIf, tAsg, tDrop, tRetN, iList, iTup, gTup, gCons, gNil, tTup, tLst, tMeth, tFld, tSl, tNoPart, tPart, tBM, tBM0, tUn, rU, tVeI, tOst, iEnum, iRng1, iRng2, sFld, tMake, tDNewK, tDNewT, tListVals, tDNotIn, tDIn, tDGet, sDPut, tMkO, tCallN, tMethN, WE, gSub, rSetL, tPar, rCatT, tXf])
section
variable {P : Program} {w : World} {K : PySem.W.Frag} {mg : Str → Option Value} {base : Heap}
/-! ### all but one place is as it was -/
def But (p : Addr) (H H' : Hp) : Prop := ∀ a o, a ≠ p → H a = some o → H' a = some o
theorem But.upd {p : Addr} {H : Hp} {o : HO} : But p H (upd H p o) := fun a u n e => by
  rw [upd_ne n]
  exact e
theorem But.then {p : Addr} {H H' H'' : Hp} (b : But p H H') (s : Same H' H'') : But p H H'' := fun a u n e => s a u (b a u n e)
theorem But.trans {p : Addr} {H H' H'' : Hp} (b : But p H H') (s : But p H' H'') : But p H H'' := fun a u n e => s a u n (b a u n e)
theorem Same.but {p : Addr} {H H' : Hp} (s : Same H H') : But p H H' := fun a u _ e => s a u e
theorem Src.same {p : Addr} {H H' : Hp} (h : Src H p) (s : Same H H') : Src H' p := by
  obtain ⟨a, b, c, h⟩ := h
  exact ⟨a, b, c, s _ _ h⟩
theorem Src.upd {p : Addr} {H : Hp} {a b c : Int} : Src (upd H p (.lst [.int a, .int b, .int c])) p := ⟨a, b, c, upd_same⟩
theorem Src.ne {p a : Addr} {H : Hp} {o : HO} (h : Src H p) (e : H a = some o) (n : ∀ xs, o ≠ .lst xs) : a ≠ p := fun z => by
  obtain ⟨x, y, u, h⟩ := h
  rw [z, h] at e
  exact n _ (Option.some.inj e).symm
theorem pick {xs : List V} {r : Int} (h0 : 0 ≤ r) (h1 : r < (xs.length : Int)) : ∃ v, atI xs r = some v ∧ v ∈ xs := by
  obtain ⟨j, rfl⟩ : ∃ j : Nat, r = (j : Int) := ⟨r.toNat, by omega⟩
  have hj : j < xs.length := by omega
  exact ⟨xs[j], atI_nat (by simp [hj]), List.getElem_mem hj⟩
theorem z1' {v : V} : [v].length ≤ sizeLine := by show 1 ≤ sizeLine; decide
theorem z6 {a b c d e f : V} : [a, b, c, d, e, f].length ≤ sizeLine := by show 6 ≤ sizeLine; decide
theorem z8 {a b c d e f g h : V} : [a, b, c, d, e, f, g, h].length ≤ sizeLine := by show 8 ≤ sizeLine; decide
/-- a draw: what is told of the source alone -/
theorem draw {H : Hp} {p : Addr} {n : Int} {Q : VK} {E : XK} (hp : Src H p) (h0 : 0 < n) (hn : n.natAbs < 2 ^ 62) (k : ∀ r H', 0 ≤ r → r < n → But p H H' → Src H' p → Q (.int r) H') : sp_next ([.ref p, .int n] ++ []) H Q E :=
  ⟨p, n, rfl, hp, h0, hn, fun r a b c r0 r1 => k r _ r0 r1 But.upd Src.upd⟩
/-! ### what is no note -/
def OddS (K : PySem.W.Frag) (H : Hp) (v : V) : Prop := Any K H v ∧ Sz v ∧ nameV v = false
def OddN (K : PySem.W.Frag) (H : Hp) (v : V) : Prop := Any K H v ∧ Sz v ∧ fromV v 1 = false
theorem OddS.same {H H' : Hp} {v : V} (s : Same H H') (h : OddS K H v) : OddS K H' v := ⟨h.1.same s, h.2⟩
theorem OddN.same {H H' : Hp} {v : V} (s : Same H H') (h : OddN K H v) : OddN K H' v := ⟨h.1.same s, h.2⟩
theorem Any.ne {H : Hp} {p : Addr} {v : V} {o : HO} (h : Any K H v) (k : ∀ a, v = .ref a → a ≠ p) : Any K (upd H p o) v := h.keep fun a u e f => by
  rw [upd_ne (k a e)]
  exact f
theorem sz_int {i : Int} : Sz (.int i) := fun z e => nomatch e
theorem sz_non : Sz .non := fun z e => nomatch e
theorem sz_bl {b : Bool} : Sz (.bl b) := fun z e => nomatch e
theorem sz_ref {b : Addr} : Sz (.ref b) := fun z e => nomatch e
theorem sz_str {z : Str} (h : z.length ≤ 1000) : Sz (.str z) := fun y e => by
  cases e
  rw [sizeLine_eq]
  omega
def BadV (K : PySem.W.Frag) (H : Hp) (a b c d : V) (part : Str) : Prop := (Any K H a ∧ Sz a) ∧ Any K H b ∧ (Any K H c ∧ Sz c) ∧ Any K H d ∧ startsF a b c d = .str part ∧ PyData.strOk part = true
def sp_bad (K : PySem.W.Frag) : Sp := fun vs H Q _ => ∃ p t s n e m, vs = [.ref p, .ref t] ∧ Src H p ∧ H t = some (.tup [.str s, .int n, .str e, .int m]) ∧ (nameB s = true ∧ 1 ≤ n ∧ nameB e = true ∧ 1 ≤ m) ∧
  ∀ r H' a b c d part, But p H H' → Src H' p → H' r = some (.tup [a, b, c, d, .str part]) → BadV K H' a b c d part → Q (.ref r) H'
theorem sc__law_bad : FnScope ["_law_source_here", "_law_note", "_law_sender", "_law_number", "_law_issue", "_law_share", "_law_odd_name", "_law_odd_number", "_law_way"] ["_law_source_here", "_law_note"] (defScope s__law_bad) := ⟨rfl, rfl, rfl, by decide +kernel, rfl, by decide +kernel, by decide +kernel⟩
theorem nameB_sz {z : Str} (h : nameB z = true) : z.length ≤ 12 := by
  unfold nameB at h
  obtain ⟨_, h⟩ := ba h
  obtain ⟨h, _⟩ := ba h
  exact of_decide_eq_true h
def aa (k : Int) : Str := mulS ("a" : Str) k
theorem aa12 : (aa 12).length = 12 := by decide +kernel
theorem aa13 : (aa 13).length = 13 := by decide +kernel
theorem nomatch_tf : ¬ (true = false) := fun h => nomatch h
theorem startsF_cases2 {a b c d : V} {s e : Str} {n m : Int} (hs : nameB s = true) (hn : 1 ≤ n) (he : nameB e = true) (hm : 1 ≤ m) :
    (nameV a = false → startsF a (.int n) (.str e) (.int m) = .str "sender") ∧ (fromV b 1 = false → ∀ c d, startsF (.str s) b c d = .str "number") ∧ (nameV c = false → startsF (.str s) (.int n) c (.int m) = .str "edition") ∧ (fromV d 1 = false → startsF (.str s) (.int n) (.str e) d = .str "many") := by
  have e1 : nameV (.str s) = true := hs
  have e2 : fromV (.int n) 1 = true := decide_eq_true hn
  have e3 : nameV (.str e) = true := he
  refine ⟨fun h => ?_, fun h c d => ?_, fun h => ?_, fun h => ?_⟩ <;> unfold startsF
  · rw [if_pos h]
  · rw [if_neg (by rw [e1]; exact nomatch_tf), if_pos h]
  · rw [if_neg (by rw [e1]; exact nomatch_tf), if_neg (by rw [e2]; exact nomatch_tf), if_pos h]
  · rw [if_neg (by rw [e1]; exact nomatch_tf), if_neg (by rw [e2]; exact nomatch_tf), if_neg (by rw [e3]; exact nomatch_tf), if_neg (by rw [h]; exact Bool.false_ne_true)]
theorem ok__law_bad (T : Tx K mg) : Ok P w K mg base 3 d__law_bad ["_law_source_here", "_law_note"] (sp_bad K) := by
  refine T.f__law_bad.ok sc__law_bad (fun vs H Q E h => ?_) (fun cdv A outer s H vs Q E hr h => ?_)
  · obtain ⟨p, t, s, n, e, m, rfl, _⟩ := h
    rfl
  · obtain ⟨p, t, s', n, e, m, rfl, hp, ht, ⟨hs, hn, he, hm⟩, q⟩ := h
    refine ⟨_, (pss_cons (ps_asg (pv 1) (pg_tup rfl (pgs_cons (pg_name (i := 2) sc__law_bad.nd rfl (Or.inl rfl)) (pgs_cons (pg_name (i := 3) sc__law_bad.nd rfl (Or.inl rfl)) (pgs_cons (pg_name (i := 4) sc__law_bad.nd rfl (Or.inl rfl)) (pgs_cons (pg_name (i := 5) sc__law_bad.nd rfl (Or.inl rfl)) pgs_nil))))))
      (pss_cons (ps_set (i := 6) sc__law_bad.nd rfl (Or.inl rfl) (pe_ix (ixL K) (pe_lst (pa_cons pe_str (pa_cons pe_str (pa_cons pe_str (pa_cons pe_int (pa_cons pe_non (pa_cons (pe_op op_mul_str pe_str pe_int) (pa_cons (pe_tup (pa_cons pe_str pa_nil)) (pa_cons pe_str pa_nil))))))))) (pe_call (ok__law_next T) (hr.mono (by decide)) rfl T.g__law_next T.f__law_next.kp (bi__law_next T) .nil psE (pa_cons (pv 0) (pa_cons pe_int pa_nil))) (fun _ _ => rfl)))
      (pss_cons (ps_set (i := 7) sc__law_bad.nd rfl (Or.inl rfl) (pe_ix (ixL K) (pe_lst (pa_cons pe_int (pa_cons (pe_un un_neg pe_int) (pa_cons pe_bl (pa_cons pe_non (pa_cons pe_str (pa_cons (pe_tup (pa_cons pe_int pa_nil)) pa_nil))))))) (pe_call (ok__law_next T) (hr.mono (by decide)) rfl T.g__law_next T.f__law_next.kp (bi__law_next T) .nil psE (pa_cons (pv 0) (pa_cons pe_int pa_nil))) (fun _ _ => rfl)))
      (pss_cons (ps_set (i := 8) sc__law_bad.nd rfl (Or.inl rfl) (pe_call (ok__law_next T) (hr.mono (by decide)) rfl T.g__law_next T.f__law_next.kp (bi__law_next T) .nil psE (pa_cons (pv 0) (pa_cons pe_int pa_nil))))
      (pss_cons (ps_if (pt_cmpR op_eq (pv 8) pe_int (nomark _)) (pss_one (ps_ret (pe_tup (pa_cons (pv 6) (pa_cons (pv 3) (pa_cons (pv 4) (pa_cons (pv 5) (pa_cons pe_str pa_nil)))))))) pss_nil)
      (pss_cons (ps_if (pt_cmpR op_eq (pv 8) pe_int (nomark _)) (pss_one (ps_ret (pe_tup (pa_cons (pv 2) (pa_cons (pv 7) (pa_cons (pv 4) (pa_cons (pv 5) (pa_cons pe_str pa_nil)))))))) pss_nil)
      (pss_cons (ps_if (pt_cmpR op_eq (pv 8) pe_int (nomark _)) (pss_one (ps_ret (pe_tup (pa_cons (pv 2) (pa_cons (pv 3) (pa_cons (pv 6) (pa_cons (pv 5) (pa_cons pe_str pa_nil)))))))) pss_nil)
      (pss_cons (ps_if (pt_cmpR op_eq (pv 8) pe_int (nomark _)) (pss_one (ps_ret (pe_tup (pa_cons (pv 2) (pa_cons (pv 3) (pa_cons (pv 4) (pa_cons (pv 7) (pa_cons pe_str pa_nil)))))))) pss_nil)
      (pss_one (ps_ret (pe_tup (pa_cons (pv 2) (pa_cons (pv 7) (pa_cons (pv 6) (pa_cons (pv 7) (pa_cons pe_str pa_nil)))))))))))))))), ?_⟩
    walk_at "rd"
    refine ⟨_, rfl, t, _, rfl, .of ht, rfl, _, _, rfl, _, _, rfl, _, _, rfl, _, _, rfl, rfl, ?_⟩
    refine ⟨_, _, rfl, rfl, by decide, by decide, by decide +kernel, by decide +kernel, (by show (aa 13).length ≤ sizeLine; rw [aa13]; decide), z1', fun p1 n1 => ⟨z8, fun p2 n2 => ⟨_, rfl, ?_⟩⟩⟩
    have s1 := Same.new (o := .tup [.str ("a" : Str)]) n1
    have s2 := Same.new (o := .lst [.str "", .str "Ann", .str "a1", .int 5, .non, .str (mulS "a" 13), .ref p1, .str "a b"]) n2
    have s12 := s1.trans s2
    have src2 : Src (upd (upd H p1 (.tup [.str ("a" : Str)])) p2 (.lst [.str "", .str "Ann", .str "a1", .int 5, .non, .str (mulS "a" 13), .ref p1, .str "a b"])) p := hp.same s12
    have np2 : p2 ≠ p := fun z => by
      obtain ⟨x, y, u, hp'⟩ := hp.same s1
      rw [z, hp'] at n2
      cases n2
    refine draw src2 (by decide) (by decide) fun r1 H3 r10 r11 b3 src3 => ?_
    obtain ⟨on, hon, mon⟩ := pick (xs := [.str "", .str "Ann", .str "a1", .int 5, .non, .str (mulS "a" 13), .ref p1, .str "a b"]) r10 r11
    refine ⟨p2, _, r1, _, rfl, rfl, .of (b3 _ _ np2 upd_same), hon, ?_⟩
    have t1 : H3 p1 = some (.tup [.str ("a" : Str)]) := b3 _ _ (((hp.same s1).same s2).ne (s2 _ _ upd_same) (fun _ z => nomatch z)) (s2 _ _ upd_same)
    have o3 : OddS K H3 on := by
      have mon' : on = .str "" ∨ on = .str "Ann" ∨ on = .str "a1" ∨ on = .int 5 ∨ on = .non ∨ on = .str (mulS "a" 13) ∨ on = .ref p1 ∨ on = .str "a b" := by simpa using mon
      rcases mon' with rfl | rfl | rfl | rfl | rfl | rfl | rfl | rfl
      · exact ⟨any_str _, sz_str (by decide +kernel), by decide +kernel⟩
      · exact ⟨any_str _, sz_str (by decide +kernel), by decide +kernel⟩
      · exact ⟨any_str _, sz_str (by decide +kernel), by decide +kernel⟩
      · exact ⟨any_int _, sz_int, rfl⟩
      · exact ⟨any_non, sz_non, rfl⟩
      · exact ⟨any_str _, sz_str (by decide +kernel), by decide +kernel⟩
      · exact ⟨any_tup t1, sz_ref, rfl⟩
      · exact ⟨any_str _, sz_str (by decide +kernel), by decide +kernel⟩
    refine ⟨_, rfl, z1', fun p3 n3 => ⟨z6, fun p4 n4 => ⟨_, rfl, ?_⟩⟩⟩
    have s3 := Same.new (o := .tup [.int 1]) n3
    have s4 := Same.new (o := .lst [.int 0, .int (-1), .bl true, .non, .str "1", .ref p3]) n4
    have src4 := (src3.same s3).same s4
    have np4 : p4 ≠ p := fun z => by
      obtain ⟨x, y, u, hp'⟩ := src3.same s3
      rw [z, hp'] at n4
      cases n4
    refine draw src4 (by decide) (by decide) fun r2 H5 r20 r21 b5 src5 => ?_
    obtain ⟨om, hom, mom⟩ := pick (xs := [.int 0, .int (-1), .bl true, .non, .str "1", .ref p3]) r20 r21
    refine ⟨p4, _, r2, _, rfl, rfl, .of (b5 _ _ np4 upd_same), hom, ?_⟩
    have t3 : H5 p3 = some (.tup [.int 1]) := b5 _ _ (((src3.same s3).same s4).ne (s4 _ _ upd_same) (fun _ z => nomatch z)) (s4 _ _ upd_same)
    have t5 : ∀ a, on = .ref a → H5 a = some (.tup [.str ("a" : Str)]) := fun a z => by
      have mon' : on = .str "" ∨ on = .str "Ann" ∨ on = .str "a1" ∨ on = .int 5 ∨ on = .non ∨ on = .str (mulS "a" 13) ∨ on = .ref p1 ∨ on = .str "a b" := by simpa using mon
      have e : a = p1 := by
        rw [z] at mon'
        simpa using mon'
      rw [e]
      exact b5 _ _ (src4.ne (s4 _ _ (s3 _ _ t1)) (fun _ z => nomatch z)) (s4 _ _ (s3 _ _ t1))
    have o5 : OddS K H5 on := by
      refine ⟨?_, o3.2⟩
      cases on with
      | ref a => exact any_tup (t5 a rfl)
      | int i => exact any_int i
      | str i => exact any_str i
      | non => exact any_non
      | _ => simp at mon
    have m5 : OddN K H5 om := by
      have mom' : om = .int 0 ∨ om = .int (-1) ∨ om = .bl true ∨ om = .non ∨ om = .str "1" ∨ om = .ref p3 := by simpa using mom
      rcases mom' with rfl | rfl | rfl | rfl | rfl | rfl
      · exact ⟨any_int _, sz_int, rfl⟩
      · exact ⟨any_int _, sz_int, rfl⟩
      · exact ⟨any_bl _, sz_bl, rfl⟩
      · exact ⟨any_non, sz_non, rfl⟩
      · exact ⟨any_str _, sz_str (by decide +kernel), rfl⟩
      · exact ⟨any_tup t3, sz_ref, rfl⟩
    refine ⟨_, rfl, draw src5 (by decide) (by decide) fun r3 H6 r30 r31 b6 src6 => ?_⟩
    have all : But p H H6 := (((But.trans (Same.but s12) b3).then s3).then s4).trans b5 |>.trans b6
    have o6 : OddS K H6 on := ⟨o5.1.keep fun a o z h => b6 a o (src5.ne (t5 a z) (fun _ z => nomatch z)) h, o5.2⟩
    have m6 : OddN K H6 om := by
      refine ⟨m5.1.keep fun a o z h => b6 a o ?_ h, m5.2⟩
      have e : a = p3 := by
        rw [z] at mom
        simpa using mom
      rw [e]
      exact src5.ne t3 (fun _ z => nomatch z)
    have ns : Any K H6 (.str s') ∧ Sz (.str s') := ⟨any_str _, sz_str (by have := nameB_sz hs; omega)⟩
    have ne : Any K H6 (.str e) ∧ Sz (.str e) := ⟨any_str _, sz_str (by have := nameB_sz he; omega)⟩
    obtain ⟨f1, f2, f3, f4⟩ := startsF_cases2 (a := on) (b := om) (c := on) (d := om) hs hn he hm
    have k6 : ∀ v : V, [v, v, v, v, v].length ≤ sizeLine := fun v => by show 5 ≤ sizeLine; decide
    refine ⟨_, rfl, rfl, _, rfl, ?_⟩
    refine ite2 (fun _ => ⟨_, rfl, _, rfl, _, rfl, _, rfl, z5, fun t1 ht1 => ?_⟩) (fun _ => ?_)
    · have st := Same.new (o := .tup [on, .int n, .str e, .int m, .str "sender"]) ht1
      exact q t1 _ _ _ _ _ _ (all.then st) (src6.same st) upd_same ⟨⟨(o6.same st).1, o6.2.1⟩, any_int _, ⟨any_str _, ne.2⟩, any_int _, f1 o6.2.2, by decide +kernel⟩
    refine ⟨_, rfl, rfl, _, rfl, ?_⟩
    refine ite2 (fun _ => ⟨_, rfl, _, rfl, _, rfl, _, rfl, z5, fun t1 ht1 => ?_⟩) (fun _ => ?_)
    · have st := Same.new (o := .tup [.str s', om, .str e, .int m, .str "number"]) ht1
      exact q t1 _ _ _ _ _ _ (all.then st) (src6.same st) upd_same ⟨⟨any_str _, ns.2⟩, (m6.same st).1, ⟨any_str _, ne.2⟩, any_int _, f2 m6.2.2 _ _, by decide +kernel⟩
    refine ⟨_, rfl, rfl, _, rfl, ?_⟩
    refine ite2 (fun _ => ⟨_, rfl, _, rfl, _, rfl, _, rfl, z5, fun t1 ht1 => ?_⟩) (fun _ => ?_)
    · have st := Same.new (o := .tup [.str s', .int n, on, .int m, .str "edition"]) ht1
      exact q t1 _ _ _ _ _ _ (all.then st) (src6.same st) upd_same ⟨⟨any_str _, ns.2⟩, any_int _, ⟨(o6.same st).1, o6.2.1⟩, any_int _, f3 o6.2.2, by decide +kernel⟩
    refine ⟨_, rfl, rfl, _, rfl, ?_⟩
    refine ite2 (fun _ => ⟨_, rfl, _, rfl, _, rfl, _, rfl, z5, fun t1 ht1 => ?_⟩) (fun _ => ⟨_, rfl, _, rfl, _, rfl, _, rfl, z5, fun t1 ht1 => ?_⟩)
    · have st := Same.new (o := .tup [.str s', .int n, .str e, om, .str "many"]) ht1
      exact q t1 _ _ _ _ _ _ (all.then st) (src6.same st) upd_same ⟨⟨any_str _, ns.2⟩, any_int _, ⟨any_str _, ne.2⟩, (m6.same st).1, f4 m6.2.2, by decide +kernel⟩
    · have st := Same.new (o := .tup [.str s', om, on, om, .str "number"]) ht1
      exact q t1 _ _ _ _ _ _ (all.then st) (src6.same st) upd_same ⟨⟨any_str _, ns.2⟩, (m6.same st).1, ⟨(o6.same st).1, o6.2.1⟩, (m6.same st).1, f2 m6.2.2 _ _, by decide +kernel⟩
theorem bi__law_bad (T : Tx K mg) : Binds K (fdOf K (He.fAd K d__law_bad.at_)) ["_law_source_here", "_law_note"] [] := T.f__law_bad.bindsN fun _ _ _ _ _ _ us hl => match us, hl with | [_, _], _ => rfl
end
end Fw

set_option Elab.async false
set_option linter.all false
set_option maxRecDepth 100000
set_option maxHeartbeats 4000000
namespace Fw
open PySem PySem.Spec PyProof.Rows L2
local macro_rules | `(tactic| walk_at "rd") => `(tactic| dsimp only [cxOf, tRet, tAndV, tOrV, tNotV, tCB, tCons, tNil, tC, tVar, tSeq, tIfS, tNext, tTest, tOp, tB, tAnd, tOr, tNot, tChain, tCall, rI0, rI, gName, tYes, iStr, tIf, tAsg, tDrop, tRetN, iList, iTup, gTup, gCons, gNil, tTup, tLst, tMeth, tFld, tSl, tNoPart, tPart, tBM, tBM0, tUn, rU, tVeI, tOst, iEnum, iRng1, iRng2, sFld, tMake, tDNewK, tDNewT, tListVals, tDNotIn, tDIn, tDGet, sDPut, tMkO, tCallN, tMethN, WE, gSub, rSetL, tPar, rCatT, tXf])
section
variable {P : Program} {w : World} {K : PySem.W.Frag} {mg : Str → Option Value} {base : Heap}
/-! ### isinstance in a suite, whatever is held -/
def rIsE (K : PySem.W.Frag) (cls : Value) (d : Option Addr) (a : Addr) : List V → Hp → VK → Prop := fun xs H Q => ∃ D dd, cls = .ref D ∧ d = some dd ∧ ExcC K D ∧ (rIsX K D a dd xs H Q ∨ rIsXT K D a dd xs H Q)
theorem call_isE {X : Cx} {a : Addr} {oe : Obj} {cls : Value} {d : Option Addr} {pn : List (Addr × Obj)} (hz : Zc cls d oe) (hf : ∃ vs, oe.data = .fields vs) : CallR (X.suite a ((a, oe) :: pn)) (.builtin "isinstance") (rIsE X.K cls d a) := by
  intro pins s σ H xs us Q I r h
  obtain ⟨D, dd, rfl, rfl, C, h | h⟩ := h
  · exact call_isX C hz hf pins s σ H xs us Q I r h
  · exact call_isXT C hz hf pins s σ H xs us Q I r h
theorem isE (K : PySem.W.Frag) {X : Cx} {a : Addr} {oe : Obj} {cls : Value} {d : Option Addr} {pn : List (Addr × Obj)} (hz : Zc cls d oe) (hf : ∃ vs, oe.data = .fields vs) (h : X.K = K := by rfl) : CallR (X.suite a ((a, oe) :: pn)) (.builtin "isinstance") (rIsE K cls d a) := by
  subst h
  exact call_isE hz hf
theorem kit_c {K : PySem.W.Frag} {t c : Value} {r : List Value} {b : Bool} (h : PySem.W.kitOne K t c = some false) (k : PySem.W.kitAny K t r = some b) : PySem.W.kitAny K t (c :: r) = some b := by
  unfold PySem.W.kitAny
  rw [h]
  exact k
theorem kit_n {K : PySem.W.Frag} {t : Value} : PySem.W.kitAny K t [] = some false := rfl
def kb_House_starts (T : Tx K mg) : KBn K (fdOf K (He.fAd K d_House_starts.at_)) ["self", "sender", "number", "edition", "many"] 3 ["many", "edition"] (fun us ws => us ++ ws.reverse) (fun vs zs => vs ++ zs.reverse) :=
  kbN T.f_House_starts 3 ["many", "edition"] (fun a b => a ++ b.reverse) (fun r1 r2 => r1.append r2.reverse) fun _ _ _ _ _ _ us ws h1 h2 => match us, ws, h1, h2 with | [_, _, _], [_, _], _, _ => rfl
def sp_told (K : PySem.W.Frag) : Sp := fun vs H Q _ => ∃ x A t a b c d rest kvs, vs = [.ref x, .ref t] ∧ HsAt K H x A ∧ SqT K H t (a :: b :: c :: d :: rest) ∧ H A.starts = some (.dT kvs) ∧ kvs.length < 1000 ∧ (Any K H a ∧ Sz a) ∧ Any K H b ∧ (Any K H c ∧ Sz c) ∧ Any K H d ∧
  (∀ p, startsF a b c d = .str p → ∀ H' r, Same H H' → H' r = some (.tup [.str "none", .str p]) → Q (.ref r) H') ∧
  (∀ s n e m, startsF a b c d = .non → a = .str s → b = .int n → c = .str e → d = .int m →
    (valV kvs [.inr s, .inl n] = none → ∀ H' q, H q = none → H' q = some (.tup [.str e, .int m]) → H' A.starts = some (.dT (kvs ++ [([.inr s, .inl n], .ref q)])) → (∀ p o, H p = some o → p ≠ A.starts → H' p = some o) → Q (.str "new") H') ∧
    (∀ u, valV kvs [.inr s, .inl n] = some u → ∃ q e' m', u = .ref q ∧ H q = some (.tup [.str e', .int m']) ∧ PyData.strOk e' = true ∧ PyData.strOk e = true ∧
      ((e' = e ∧ m' = m) → ∀ H', Same H H' → Q (.str "again") H') ∧
      (¬ (e' = e ∧ m' = m) → ∀ H' r t, Same H H' → H' t = some (.tup [.str s, .int n]) → H' r = some (.tup [.str "unlike", .ref t]) → Q (.ref r) H')))
theorem sc__law_told : FnScope ["_law_house", "_law_note", "e"] ["_law_house", "_law_note"] (defScope s__law_told) := ⟨rfl, rfl, rfl, by decide +kernel, rfl, by decide +kernel, by decide +kernel⟩
theorem ok__law_told (T : Tx K mg) : Ok P w K mg base 5 d__law_told ["_law_house", "_law_note"] (sp_told K) := by
  refine T.f__law_told.ok sc__law_told (fun vs H Q E h => ?_) (fun cdv A outer s H vs Q E hr h => ?_)
  · obtain ⟨x, A, t, a, b, c, d, rest, kvs, rfl, _⟩ := h
    rfl
  · obtain ⟨x, A, t, a, b, c, d, rest, kvs, rfl, h, ht, hk, hl, ha, hb, hc, hd, qf, qn⟩ := h
    have hu := hu_of hr
    have XN := exOk_1 T.ex (x := "NoStarts") (by decide)
    have XU := exOk_1 T.ex (x := "Unlike") (by decide)
    refine ⟨_, (pss_cons (ps_try_as (i := 2) rfl rfl sc__law_told.nd rfl rfl ⟨rfl, by decide, Or.inl T.g_FellError⟩ tkE (fun W pn xe tk _ => (pss_one (ps_ret (pe_methN (pl := _) (pv 0) T.c_House T.m_House_starts (ok_House_starts T) (hr.mono (by decide)) (kb_House_starts T) (fun σ => passAt tk σ) (pa_cons (pe_ix (ixT K) (pv 1) pe_int (fun _ _ => rfl)) (pa_cons (pe_ix (ixT K) (pv 1) pe_int (fun _ _ => rfl)) pa_nil)) (pk_cons (pe_ix (ixT K) (pv 1) pe_int (fun _ _ => rfl)) (pk_cons (pe_ix (ixT K) (pv 1) pe_int (fun _ _ => rfl)) pk_nil)))))) (fun a oe cls d pn hz hf => (pss_cons (ps_if (PW.pt (pw_and (pt_val (pe_callB (isE K hz hf) rfl T.b_isinstance bt_isi (pa_cons (pv 2) (pa_cons (gl T.g_NoStarts) pa_nil)))) (pw_and1 (pt_not (pt_val (pe_callB (isE K hz hf) rfl T.b_isinstance bt_isi (pa_cons (pv 2) (pa_cons (pe_tup (pa_cons (gl T.g_NoLoss) (pa_cons (gl T.g_Unlike) (pa_cons (gl T.g_NotThere) pa_nil)))) pa_nil)))))))) (pss_one (ps_ret (pe_tup (pa_cons pe_str (pa_cons (pe_xf XN.x (XN.no "part" (by decide)) hz hf (pv 2)) pa_nil))))) pss_nil) (pss_one (ps_if (PW.pt (pw_and (pt_val (pe_callB (isE K hz hf) rfl T.b_isinstance bt_isi (pa_cons (pv 2) (pa_cons (gl T.g_Unlike) pa_nil)))) (pw_and1 (pt_not (pt_val (pe_callB (isE K hz hf) rfl T.b_isinstance bt_isi (pa_cons (pv 2) (pa_cons (pe_tup (pa_cons (gl T.g_NoStarts) (pa_cons (gl T.g_NotThere) pa_nil))) pa_nil)))))))) (pss_one (ps_ret (pe_tup (pa_cons pe_str (pa_cons (pe_xf XU.x (XU.no "tag" (by decide)) hz hf (pv 2)) pa_nil))))) pss_nil)))))
      (pss_one (ps_ret pe_str))), ?_⟩
    walk_at "rd"
    have ki : ∀ {a b : Str} {v : Bool}, (a, b, v) ∈ exP → PySem.W.kitOne K (.ref (He.ga K a)) (.ref (He.ga K b)) = some v := fun h => (exOk_p T.ex h).2
    refine ⟨_, rfl, x, _, _, rfl, h.ob, by kernel_rfl, _, rfl, t, _, 0, _, rfl, rfl, ht, atI_nat (j := 0) rfl, _, rfl, t, _, 1, _, rfl, rfl, ht, atI_nat (j := 1) rfl, _, rfl, t, _, 3, _, rfl, rfl, ht, atI_nat (j := 3) rfl, _, rfl, t, _, 2, _, rfl, rfl, ht, atI_nat (j := 2) rfl, rfl, rfl, ?_⟩
    refine ⟨x, A, a, b, c, d, kvs, rfl, h, hk, hl, ha, hb, hc, hd, fun p hp H' dd sm hdd => ?_, fun s' n e m h0 e1 e2 e3 e4 => ?_⟩
    · refine ⟨true, (exOk_p T.ex (x := "NoStarts") (y := "FellError") (by decide)).1, fun _ a na => ?_, fun h => nomatch h⟩
      walk_at "rd"
      refine ⟨_, rfl, He.ga K "NoStarts", dd, rfl, rfl, XN.e, .inl ⟨_, true, _, rfl, hdd, ki (by decide), _, rfl, ?_⟩⟩
      refine iteT ⟨_, rfl, z3, fun tp ntp => ⟨He.ga K "NoStarts", dd, rfl, rfl, XN.e, .inr ⟨tp, [He.ga K "NoLoss", He.ga K "Unlike", He.ga K "NotThere"], false, _, rfl, upd_same, upd_at hdd (ne_of_none hdd ntp), kit_c (ki (by decide)) (kit_c (ki (by decide)) (kit_c (ki (by decide)) kit_n)), _, rfl, ?_⟩⟩⟩
      refine iteT ⟨_, rfl, rfl, rfl, dd, _, .str p, rfl, upd_at hdd (ne_of_none hdd ntp), by kernel_rfl, z2, fun r nr => ?_⟩
      exact qf p hp _ r ((sm.trans (Same.new ntp)).trans (Same.new nr)) upd_same
    · obtain ⟨qa, qb⟩ := qn s' n e m h0 e1 e2 e3 e4
      refine ⟨qa, fun u hu => ?_⟩
      obtain ⟨q, e', m', e5, hq, k1, k2, qc, qd⟩ := qb u hu
      refine ⟨q, e', m', e5, hq, k1, k2, qc, fun hn H' dd tg sm htg hdd => ?_⟩
      refine ⟨true, (exOk_p T.ex (x := "Unlike") (y := "FellError") (by decide)).1, fun _ a na => ?_, fun h => nomatch h⟩
      walk_at "rd"
      refine ⟨_, rfl, He.ga K "Unlike", dd, rfl, rfl, XU.e, .inl ⟨_, false, _, rfl, hdd, ki (by decide), _, rfl, ?_⟩⟩
      refine iteF (iteF ⟨_, rfl, He.ga K "Unlike", dd, rfl, rfl, XU.e, .inl ⟨_, true, _, rfl, hdd, ki (by decide), _, rfl, ?_⟩⟩)
      refine iteT ⟨_, rfl, z2, fun tp ntp => ⟨He.ga K "Unlike", dd, rfl, rfl, XU.e, .inr ⟨tp, [He.ga K "NoStarts", He.ga K "NotThere"], false, _, rfl, upd_same, upd_at hdd (ne_of_none hdd ntp), kit_c (ki (by decide)) (kit_c (ki (by decide)) kit_n), _, rfl, ?_⟩⟩⟩
      refine iteT ⟨_, rfl, rfl, rfl, dd, _, .ref tg, rfl, upd_at hdd (ne_of_none hdd ntp), by kernel_rfl, z2, fun r nr => ?_⟩
      have s1 := Same.new (o := .tup [.ref (He.ga K "NoStarts"), .ref (He.ga K "NotThere")]) ntp
      have s2 := Same.new (o := .tup [.str "unlike", .ref tg]) nr
      exact qd hn _ r tg ((sm.trans s1).trans s2) (s2 _ _ (s1 _ _ htg)) upd_same
theorem bi__law_told (T : Tx K mg) : Binds K (fdOf K (He.fAd K d__law_told.at_)) ["_law_house", "_law_note"] [] := T.f__law_told.bindsN fun _ _ _ _ _ _ us hl => match us, hl with | [_, _], _ => rfl
end
end Fw

set_option Elab.async false
set_option linter.all false
set_option maxRecDepth 100000
set_option maxHeartbeats 4000000
namespace Fw
open PySem PySem.Spec PyProof.Rows L2
local macro_rules | `(tactic| walk_at "rd") => `(tactic| dsimp only [cxOf, tRet, tAndV, tOrV, tNotV, tCB, tCons, tNil, tC, tVar, tSeq, tIfS, tNext, tTest, tOp, tB, tAnd, tOr, tNot, tChain, tCall, rI0, rI, gName, tYes, iStr, tIf, tAsg, tDrop, tRetN, iList, iTup, gTup, gCons, gNil, tTup, tLst, tMeth, tFld, tSl, tNoPart, tPart, tBM, tBM0, tUn, rU, tVeI, tOst, iEnum, iRng1, iRng2, sFld, tMake, tDNewK, tDNewT, tListVals, tDNotIn, tDIn, tDGet, sDPut, tMkO, tCallN, tMethN, WE, gSub, rSetL, tPar, rCatT, tXf])
section
variable {P : Program} {w : World} {K : PySem.W.Frag} {mg : Str → Option Value} {base : Heap}
theorem z0 : ([] : List V).length ≤ sizeLine := Nat.zero_le _
/-! ### draws, one behind the other -/
structure Drw (p : Addr) (H H' : Hp) : Prop where
  b : But p H H'
  s : Src H' p
theorem Drw.refl {p : Addr} {H : Hp} (h : Src H p) : Drw p H H := ⟨fun _ _ _ e => e, h⟩
theorem Drw.trans {p : Addr} {H H' H'' : Hp} (a : Drw p H H') (b : Drw p H' H'') : Drw p H H'' := ⟨a.b.trans b.b, b.s⟩
theorem Drw.new {p a : Addr} {H H' : Hp} {o : HO} (d : Drw p H H') (n : H' a = none) : Drw p H (upd H' a o) := ⟨d.b.then (Same.new n), d.s.same (Same.new n)⟩
theorem Drw.at {p a : Addr} {H H' : Hp} {o : HO} (d : Drw p H H') (h : Src H p) (e : H a = some o) (n : ∀ xs, o ≠ .lst xs) : H' a = some o := d.b _ _ (h.ne e n) e
theorem Src.new {p a : Addr} {H : Hp} (h : Src H p) (n : H a = none) : a ≠ p := fun z => by
  obtain ⟨x, y, u, h⟩ := h
  rw [z, h] at n
  cases n
theorem drawD {H : Hp} {p : Addr} {n : Int} {Q : VK} {E : XK} (hp : Src H p) (h0 : 0 < n) (hn : n.natAbs < 2 ^ 62) (k : ∀ r H', 0 ≤ r → r < n → Drw p H H' → Q (.int r) H') : sp_next ([.ref p, .int n] ++ []) H Q E :=
  draw hp h0 hn fun r H' r0 r1 b s => k r H' r0 r1 ⟨b, s⟩
/-- xs[_law_next(p, n)], the list there -/
theorem pickAt {H : Hp} {p l : Addr} {n : Int} {xs : List V} {Q : VK} {E : XK} (hp : Src H p) (hl : H l = some (.lst xs)) (nl : l ≠ p) (hn : (xs.length : Int) = n) (h0 : 0 < n) (h1 : n ≤ 1000000) (k : ∀ x H', x ∈ xs → Drw p H H' → Q x H') :
    sp_next ([.ref p, .int n] ++ []) H (fun y H2 => rIxL K (.ref l) y H2 Q) E :=
  drawD hp h0 (by omega) fun r H' r0 r1 d => by
    obtain ⟨x, e, m⟩ := pick (xs := xs) r0 (by omega)
    exact ⟨l, _, r, x, rfl, rfl, .of (d.b _ _ nl hl), e, k x H' m d⟩
/-- [..][_law_next(p, n)], the list just laid -/
theorem pickNew {H : Hp} {p l : Addr} {n : Int} {xs : List V} {Q : VK} {E : XK} (hp : Src H p) (hl : H l = none) (hn : (xs.length : Int) = n) (h0 : 0 < n) (h1 : n ≤ 1000000) (k : ∀ x H', x ∈ xs → Drw p H H' → Q x H') :
    sp_next ([.ref p, .int n] ++ []) (upd H l (.lst xs)) (fun y H2 => rIxL K (.ref l) y H2 Q) E :=
  pickAt (hp.same (Same.new hl)) upd_same (hp.new hl) hn h0 h1 fun x H' m d => k x H' m (((Drw.refl hp).new hl).trans d)
/-! ### notes -/
abbrev Nt : Type := Str × Int × Str × Int
def NtAt (H : Hp) (q : Addr) (n : Nt) : Prop := H q = some (.tup [.str n.1, .int n.2.1, .str n.2.2.1, .int n.2.2.2])
def NtV (H : Hp) (v : V) (n : Nt) : Prop := ∃ q, v = .ref q ∧ NtAt H q n
def NtOk (n : Nt) : Prop := nameB n.1 = true ∧ 1 ≤ n.2.1 ∧ nameB n.2.2.1 = true ∧ 1 ≤ n.2.2.2 ∧ PyData.strOk n.1 = true ∧ PyData.strOk n.2.2.1 = true
def ntD (n : Nt) : PyData := .tuple [.str n.1, .int n.2.1, .str n.2.2.1, .int n.2.2.2]
theorem ntV_dp {H : Hp} {v : V} {n : Nt} (h : NtV H v n) : Dp K H v (ntD n) := by
  obtain ⟨q, rfl, h⟩ := h
  exact .tup (.of h) (.cons (.str _) (.cons (.int _) (.cons (.str _) (.cons (.int _) .nil))))
theorem ntV_dps {H : Hp} : ∀ {us : List V} {ns : List Nt}, Paired (NtV H) us ns → DpAll K H us (ns.map ntD)
  | _, _, .nil => .nil
  | _, _, .cons r t => .cons (ntV_dp r) (ntV_dps t)
theorem nt_lay {n : Nt} (h : NtOk n) : (ntD n).canLay0 = true := by
  obtain ⟨_, _, _, _, h1, h2⟩ := h
  simp [ntD, PyData.canLay0, PyData.canLayAll0, h1, h2]
theorem nts_lay : ∀ {ns : List Nt}, (∀ n ∈ ns, NtOk n) → PyData.canLayAll0 (ns.map ntD) = true
  | [], _ => rfl
  | n :: ns, h => by
    rw [List.map_cons, PyData.canLayAll0, nt_lay (h n (by simp)), nts_lay fun m hm => h m (by simp [hm])]
    rfl
theorem nts_depth : ∀ ns : List Nt, PyData.depthAll (ns.map ntD) ≤ 2
  | [] => by simp [PyData.depthAll]
  | n :: ns => by
    have := nts_depth ns
    simp [PyData.depthAll, ntD, PyData.depth] at this ⊢
    omega
theorem nt_shaped {n : Nt} (h : NtOk n) : SeqAt.shaped (ntD n) = true := shaped_of (nt_lay h) (by simp [ntD, PyData.depth, PyData.depthAll])
theorem nts_shaped {ns : List Nt} (h : ∀ n ∈ ns, NtOk n) : SeqAt.shaped (.list (ns.map ntD)) = true := shaped_of (by simp [PyData.canLay0, nts_lay h]) (by have := nts_depth ns; simp [PyData.depth]; omega)
def sp_drawn_note (K : PySem.W.Frag) : Sp := fun vs H Q _ => ∃ p N us ns, vs = [.ref p, .ref N] ∧ Src H p ∧ H N = some (.lst us) ∧ N ≠ p ∧ Paired (NtV H) us ns ∧ (∀ n ∈ ns, NtOk n) ∧ us.length ≤ 1000 ∧
  ∀ v n H', But p H H' → Src H' p → NtV H' v n → NtOk n → Q v H'
def Nm (x : V) : Prop := ∃ z, x = .str z ∧ nameB z = true ∧ PyData.strOk z = true
theorem nm_names {x : V} (h : x ∈ ([.str "one", .str "two", .str "six", .str (mulS "a" 12), .str "z_"] : List V)) : Nm x := by
  have h' : x = .str "one" ∨ x = .str "two" ∨ x = .str "six" ∨ x = .str (mulS "a" 12) ∨ x = .str "z_" := by simpa using h
  rcases h' with rfl | rfl | rfl | rfl | rfl <;> exact ⟨_, rfl, by decide +kernel, by decide +kernel⟩
theorem nm_senders {x : V} (h : x ∈ ([.str "ann", .str "bo", .str "z_"] : List V)) : Nm x := by
  have h' : x = .str "ann" ∨ x = .str "bo" ∨ x = .str "z_" := by simpa using h
  rcases h' with rfl | rfl | rfl <;> exact ⟨_, rfl, by decide +kernel, by decide +kernel⟩
theorem paired_mem {α β : Type} {F : α → β → Prop} : ∀ {xs : List α} {ys : List β}, Paired F xs ys → ∀ {x : α}, x ∈ xs → ∃ y, y ∈ ys ∧ F x y
  | _, _, .nil, x, h => by cases h
  | _, _, .cons r t, x, h => by
    rcases List.mem_cons.mp h with rfl | h
    · exact ⟨_, List.mem_cons_self, r⟩
    · obtain ⟨y, m, f⟩ := paired_mem t h
      exact ⟨y, List.mem_cons_of_mem _ m, f⟩
theorem cut2 {a b c d : V} : cutV [a, b, c, d] none (some 2) = [a, b] := by rfl
theorem cut2n {a b c d : V} : ¬ (HT.sIx [a, b, c, d].length 0 none = 0 ∧ HT.sIx [a, b, c, d].length [a, b, c, d].length (some 2) = [a, b, c, d].length) := by
  show ¬ (HT.sIx 4 0 none = 0 ∧ HT.sIx 4 4 (some 2) = 4)
  decide
theorem sc__law_drawn_note : FnScope ["_law_source_here", "_law_notes", "_law_names", "_law_sender", "_law_number", "_law_share", "_law_note", "_law_other", "_law_more"] ["_law_source_here", "_law_notes"] (defScope s__law_drawn_note) := ⟨rfl, rfl, rfl, by decide +kernel, rfl, by decide +kernel, by decide +kernel⟩
theorem ok__law_drawn_note (T : Tx K mg) : Ok P w K mg base 3 d__law_drawn_note ["_law_source_here", "_law_notes"] (sp_drawn_note K) := by
  refine T.f__law_drawn_note.ok sc__law_drawn_note (fun vs H Q E h => ?_) (fun cdv A outer s H vs Q E hr h => ?_)
  · obtain ⟨p, N, us, ns, rfl, _⟩ := h
    rfl
  · obtain ⟨p, N, us, ns, rfl, hp, hN, nN, hv, hok, hl, q⟩ := h
    have hu := hu_of hr
    refine ⟨_, (pss_cons (ps_set (i := 2) sc__law_drawn_note.nd rfl (Or.inl rfl) (pe_lst (pa_cons pe_str (pa_cons pe_str (pa_cons pe_str (pa_cons (pe_op op_mul_str pe_str pe_int) (pa_cons pe_str pa_nil)))))))
      (pss_cons (ps_set (i := 3) sc__law_drawn_note.nd rfl (Or.inl rfl) (pe_ix (ixL K) (pe_lst (pa_cons pe_str (pa_cons pe_str (pa_cons pe_str pa_nil)))) (pe_call (ok__law_next T) (hr.mono (by decide)) rfl T.g__law_next T.f__law_next.kp (bi__law_next T) .nil psE (pa_cons (pv 0) (pa_cons pe_int pa_nil))) (fun _ _ => rfl)))
      (pss_cons (ps_set (i := 4) sc__law_drawn_note.nd rfl (Or.inl rfl) (pe_op op_add pe_int (pe_call (ok__law_next T) (hr.mono (by decide)) rfl T.g__law_next T.f__law_next.kp (bi__law_next T) .nil psE (pa_cons (pv 0) (pa_cons (pe_ix (ixL K) (pe_lst (pa_cons pe_int (pa_cons pe_int pa_nil))) (pe_call (ok__law_next T) (hr.mono (by decide)) rfl T.g__law_next T.f__law_next.kp (bi__law_next T) .nil psE (pa_cons (pv 0) (pa_cons pe_int pa_nil))) (fun _ _ => rfl)) pa_nil)))))
      (pss_cons (ps_set (i := 5) sc__law_drawn_note.nd rfl (Or.inl rfl) (pe_op op_add pe_int (pe_call (ok__law_next T) (hr.mono (by decide)) rfl T.g__law_next T.f__law_next.kp (bi__law_next T) .nil psE (pa_cons (pv 0) (pa_cons (pe_ix (ixL K) (pe_lst (pa_cons pe_int (pa_cons (pe_op op_pow pe_int pe_int) pa_nil))) (pe_call (ok__law_next T) (hr.mono (by decide)) rfl T.g__law_next T.f__law_next.kp (bi__law_next T) .nil psE (pa_cons (pv 0) (pa_cons pe_int pa_nil))) (fun _ _ => rfl)) pa_nil)))))
      (pss_cons (ps_set (i := 6) sc__law_drawn_note.nd rfl (Or.inl rfl) (pe_tup (pa_cons (pv 3) (pa_cons (pv 4) (pa_cons (pe_ix (ixL K) (pv 2) (pe_call (ok__law_next T) (hr.mono (by decide)) rfl T.g__law_next T.f__law_next.kp (bi__law_next T) .nil psE (pa_cons (pv 0) (pa_cons pe_int pa_nil))) (fun _ _ => rfl)) (pa_cons (pv 5) pa_nil))))))
      (pss_cons (ps_if (PW.pt (pw_and (pt_cmpR (op_neD hr.units) (pv 1) (pe_lst pa_nil) (nomark _)) (pw_and1 (pt_cmpR op_eq (pe_call (ok__law_next T) (hr.mono (by decide)) rfl T.g__law_next T.f__law_next.kp (bi__law_next T) .nil psE (pa_cons (pv 0) (pa_cons pe_int pa_nil))) pe_int (nomark _))))) (pss_cons (ps_set (i := 6) sc__law_drawn_note.nd rfl (Or.inl rfl) (pe_ix (ixL K) (pv 1) (pe_call (ok__law_next T) (hr.mono (by decide)) rfl T.g__law_next T.f__law_next.kp (bi__law_next T) .nil psE (pa_cons (pv 0) (pa_cons (pe_callB call_len_seq rfl T.b_len bt_len (pa_cons (pv 1) pa_nil)) pa_nil))) (fun _ _ => rfl)))
      (pss_one (ps_if (pt_cmpR op_eq (pe_call (ok__law_next T) (hr.mono (by decide)) rfl T.g__law_next T.f__law_next.kp (bi__law_next T) .nil psE (pa_cons (pv 0) (pa_cons pe_int pa_nil))) pe_int (nomark _)) (pss_cons (ps_set (i := 7) sc__law_drawn_note.nd rfl (Or.inl rfl) (pe_tup (pa_cons (pe_ix (ixL K) (pv 2) (pe_call (ok__law_next T) (hr.mono (by decide)) rfl T.g__law_next T.f__law_next.kp (bi__law_next T) .nil psE (pa_cons (pv 0) (pa_cons pe_int pa_nil))) (fun _ _ => rfl)) (pa_cons (pe_ix (ixT K) (pv 6) pe_int (fun _ _ => rfl)) pa_nil))))
      (pss_cons (ps_set (i := 8) sc__law_drawn_note.nd rfl (Or.inl rfl) (pe_tup (pa_cons (pe_ix (ixT K) (pv 6) pe_int (fun _ _ => rfl)) (pa_cons (pe_op op_add (pe_ix (ixT K) (pv 6) pe_int (fun _ _ => rfl)) pe_int) pa_nil))))
      (pss_one (ps_set (i := 6) sc__law_drawn_note.nd rfl (Or.inl rfl) (pe_op op_catT (pe_slice (slT K) (pv 6) po_none (po_some pe_int)) (pe_ix (ixL K) (pe_lst (pa_cons (pv 7) (pa_cons (pv 8) pa_nil))) (pe_call (ok__law_next T) (hr.mono (by decide)) rfl T.g__law_next T.f__law_next.kp (bi__law_next T) .nil psE (pa_cons (pv 0) (pa_cons pe_int pa_nil))) (fun _ _ => rfl))))))) pss_nil))) pss_nil)
      (pss_one (ps_ret (pv 6))))))))), ?_⟩
    walk_at "rd"
    refine ⟨_, _, rfl, rfl, by decide, by decide, by decide +kernel, by decide +kernel, (by show (aa 12).length ≤ sizeLine; rw [aa12]; decide), z5, fun p1 n1 => ⟨z3, fun p2 n2 => ⟨_, rfl, ?_⟩⟩⟩
    have d1 := (Drw.refl hp).new (o := .lst [.str "one", .str "two", .str "six", .str (mulS "a" 12), .str "z_"]) n1
    have np1 := hp.new n1
    have l1 : (upd H p1 (.lst [.str "one", .str "two", .str "six", .str (mulS "a" 12), .str "z_"])) p1 = some (.lst [.str "one", .str "two", .str "six", .str (mulS "a" 12), .str "z_"]) := upd_same
    generalize (upd H p1 (.lst [.str "one", .str "two", .str "six", .str (mulS "a" 12), .str "z_"])) = H1 at *
    refine pickNew d1.s n2 rfl (by decide) (by decide) fun x1 H2 m1 d2 => ⟨_, rfl, z2, fun p3 n3 => ⟨_, rfl, ?_⟩⟩
    refine pickNew d2.s n3 rfl (by decide) (by decide) fun x2 H3 m2 d3 => ?_
    have hx2 : ∃ k : Int, x2 = .int k ∧ 0 < k ∧ k ≤ 1000000 := by
      have m2' : x2 = .int 4 ∨ x2 = .int 12 := by simpa using m2
      rcases m2' with rfl | rfl
      · exact ⟨4, rfl, by decide, by decide⟩
      · exact ⟨12, rfl, by decide, by decide⟩
    obtain ⟨k2, rfl, k20, k21⟩ := hx2
    refine drawD d3.s k20 (by omega) fun r1 H4 r10 r11 d4 => ⟨_, _, rfl, rfl, ?_⟩
    refine ⟨_, rfl, 10, 9, rfl, rfl, ⟨by decide, by decide, by decide⟩, z2, fun p5 n5 => ⟨_, rfl, ?_⟩⟩
    refine pickNew d4.s n5 rfl (by decide) (by decide) fun x3 H5 m3 d5 => ?_
    have hx3 : ∃ k : Int, x3 = .int k ∧ 0 < k ∧ k ≤ 10 ^ 9 := by
      have m3' : x3 = .int 3 ∨ x3 = .int (10 ^ 9) := by simpa using m3
      rcases m3' with rfl | rfl
      · exact ⟨3, rfl, by decide, by decide⟩
      · exact ⟨_, rfl, by decide, by decide⟩
    obtain ⟨k3, rfl, k30, k31⟩ := hx3
    refine drawD d5.s k30 (by omega) fun r2 H6 r20 r21 d6 => ⟨_, _, rfl, rfl, _, rfl, _, rfl, _, rfl, _, rfl, ?_⟩
    have e6 := (((d2.trans d3).trans d4).trans d5).trans d6
    have l6 := e6.b _ _ np1 l1
    refine pickAt d6.s l6 np1 rfl (by decide) (by decide) fun x4 H7 m4 d7 => ⟨_, rfl, z4, fun p6 n6 => ?_⟩
    have l7 := d7.b _ _ np1 l6
    obtain ⟨z1, rfl, v1, o1⟩ := nm_senders m1
    obtain ⟨z4, rfl, v4, o4⟩ := nm_names m4
    have nt0 : NtOk (z1, 1 + r1, z4, 1 + r2) := ⟨v1, by show 1 ≤ 1 + r1; omega, v4, by show 1 ≤ 1 + r2; omega, o1, o4⟩
    have d8 := (Drw.refl d7.s).new (o := .tup [.str z1, .int (1 + r1), .str z4, .int (1 + r2)]) n6
    have q8 : NtAt (upd H7 p6 (.tup [.str z1, .int (1 + r1), .str z4, .int (1 + r2)])) p6 (z1, 1 + r1, z4, 1 + r2) := upd_same
    have l8 := d8.b _ _ np1 l7
    generalize (upd H7 p6 (.tup [.str z1, .int (1 + r1), .str z4, .int (1 + r2)])) = H8 at *
    generalize ((z1, 1 + r1, z4, 1 + r2) : Nt) = nt at *
    have e8 : Drw p H H8 := ((d1.trans e6).trans d7).trans d8
    have hN8 := e8.b _ _ nN hN
    have hv8 : Paired (NtV H8) us ns := Paired.mapP hv fun v n ⟨q, e, k⟩ => ⟨q, e, e8.at hp k (fun _ z => nomatch z)⟩
    have dp8 : Dp K H8 (.ref N) (.list (ns.map ntD)) := .lst (.of hN8) (ntV_dps hv8)
    refine ⟨_, rfl, z0, fun p9 n9 => ⟨.list (ns.map ntD), .list [], Dp.same (Same.new n9) _ _ dp8, .lst (.of upd_same) .nil, nts_shaped hok, rfl, _, rfl, ?_⟩⟩
    have e9 := e8.new (o := .lst []) n9
    have q9 := Same.new (o := .lst []) n9 _ _ q8
    have fin : ∀ {H' : Hp}, Drw p H H' → NtAt H' p6 nt → Q (.ref p6) H' := fun d k => q _ nt _ d.b d.s ⟨p6, rfl, k⟩ nt0
    refine ite2 (fun hne => ⟨_, rfl, drawD e9.s (by decide) (by decide) fun r3 H9 r30 r31 d9 => ⟨rfl, _, rfl, ?_⟩⟩) (fun _ => iteF ⟨_, rfl, fin e9 q9⟩)
    have e10 := e9.trans d9
    have q10 := d9.at e9.s q9 (fun _ z => nomatch z)
    refine ite2 (fun _ => ⟨_, rfl, _, rfl, _, rfl, N, us, rfl, .inl (.of (e10.b _ _ nN hN)), ?_⟩) (fun _ => ⟨_, rfl, fin e10 q10⟩)
    have hlen : 0 < us.length := by
      cases hv with
      | nil => exact absurd hne (by decide)
      | cons _ _ => simp
    refine pickAt e10.s (e10.b _ _ nN hN) nN rfl (by omega) (by omega) fun u H10 mu d10 => ⟨_, rfl, drawD d10.s (by decide) (by decide) fun r4 H11 _ _ d11 => ⟨rfl, _, rfl, ?_⟩⟩
    obtain ⟨nu, mn1, qu, rfl, hqu⟩ := paired_mem hv mu
    have ou := hok _ mn1
    have f11 := d10.trans d11
    have e11 := e10.trans f11
    have l11 := ((Same.but (Same.new (o := .lst []) n9)).trans (d9.b.trans f11.b)) _ _ np1 l8
    have a11 : NtAt H11 qu nu := e11.at hp hqu (fun _ z => nomatch z)
    refine ite2 (fun _ => ?_) (fun _ => ⟨_, rfl, q _ nu _ e11.b e11.s ⟨qu, rfl, a11⟩ ou⟩)
    refine ⟨_, rfl, _, rfl, pickAt e11.s l11 np1 rfl (by decide) (by decide) fun x5 H12 m5 d12 => ?_⟩
    obtain ⟨z5, rfl, v5, o5⟩ := nm_names m5
    have a12 : NtAt H12 qu nu := d12.at e11.s a11 (fun _ z => nomatch z)
    refine ⟨_, rfl, qu, _, 3, _, rfl, rfl, .of a12, atI_nat (j := 3) rfl, z2, fun p13 n13 => ?_⟩
    have s13 := Same.new (o := .tup [.str z5, .int nu.2.2.2]) n13
    have c13 : upd H12 p13 (.tup [.str z5, .int nu.2.2.2]) p13 = some (.tup [.str z5, .int nu.2.2.2]) := upd_same
    have e13 := (e11.trans d12).new (o := .tup [.str z5, .int nu.2.2.2]) n13
    generalize upd H12 p13 (.tup [.str z5, .int nu.2.2.2]) = H13 at *
    have a13 : NtAt H13 qu nu := s13 _ _ a12
    refine ⟨_, rfl, qu, _, 2, _, rfl, rfl, .of a13, atI_nat (j := 2) rfl, _, rfl, qu, _, 3, _, rfl, rfl, .of a13, atI_nat (j := 3) rfl, _, _, rfl, rfl, z2, fun p14 n14 => ?_⟩
    have s14 := Same.new (o := .tup [.str nu.2.2.1, .int (nu.2.2.2 + 1)]) n14
    have c14 : upd H13 p14 (.tup [.str nu.2.2.1, .int (nu.2.2.2 + 1)]) p14 = some (.tup [.str nu.2.2.1, .int (nu.2.2.2 + 1)]) := upd_same
    have e14 := e13.new (o := .tup [.str nu.2.2.1, .int (nu.2.2.2 + 1)]) n14
    generalize upd H13 p14 (.tup [.str nu.2.2.1, .int (nu.2.2.2 + 1)]) = H14 at *
    have a14 : NtAt H14 qu nu := s14 _ _ a13
    have b14 := s14 _ _ c13
    refine ⟨_, rfl, 2, rfl, qu, _, rfl, .of a14, cut2n, fun p15 n15 => ?_⟩
    rw [cut2]
    have s15 := Same.new (o := .tup [.str nu.1, .int nu.2.1]) n15
    have c15 : upd H14 p15 (.tup [.str nu.1, .int nu.2.1]) p15 = some (.tup [.str nu.1, .int nu.2.1]) := upd_same
    have e15 := e14.new (o := .tup [.str nu.1, .int nu.2.1]) n15
    generalize upd H14 p15 (.tup [.str nu.1, .int nu.2.1]) = H15 at *
    refine ⟨_, rfl, _, rfl, z2, fun p16 n16 => ⟨_, rfl, pickNew e15.s n16 rfl (by decide) (by decide) fun x6 H16 m6 d16 => ?_⟩⟩
    have e16 := e15.trans d16
    have hx6 : ∃ q6 z6 k6, x6 = .ref q6 ∧ H15 q6 = some (.tup [.str z6, .int k6]) ∧ nameB z6 = true ∧ PyData.strOk z6 = true ∧ 1 ≤ k6 := by
      obtain ⟨_, _, g3, g4, _, g6⟩ := ou
      have m6' : x6 = .ref p13 ∨ x6 = .ref p14 := by simpa using m6
      rcases m6' with rfl | rfl
      · exact ⟨_, _, _, rfl, s15 _ _ b14, v5, o5, g4⟩
      · exact ⟨_, _, _, rfl, s15 _ _ c14, g3, g6, by omega⟩
    obtain ⟨q6, z6, k6, rfl, h6, g1, g2, g3⟩ := hx6
    have h16 := d16.at e15.s h6 (fun _ z => nomatch z)
    have c16 := d16.at e15.s c15 (fun _ z => nomatch z)
    refine ⟨p15, q6, _, _, rfl, rfl, .of c16, .of h16, by simp, (by show 4 ≤ sizeLine; decide), fun z => absurd z (by simp), fun _ p17 n17 => ⟨_, rfl, ?_⟩⟩
    exact q _ (nu.1, nu.2.1, z6, k6) _ (e16.b.then (Same.new n17)) (e16.s.same (Same.new n17)) ⟨p17, rfl, upd_same⟩ ⟨ou.1, ou.2.1, g1, g3, ou.2.2.2.2.1, g2⟩
theorem bi__law_drawn_note (T : Tx K mg) : Binds K (fdOf K (He.fAd K d__law_drawn_note.at_)) ["_law_source_here", "_law_notes"] [] := T.f__law_drawn_note.bindsN fun _ _ _ _ _ _ us hl => match us, hl with | [_, _], _ => rfl
end
end Fw

set_option Elab.async false
set_option linter.all false
set_option maxRecDepth 100000
set_option maxHeartbeats 4000000
namespace Fw
open PySem PySem.Spec PyProof.Rows L2
local macro_rules | `(tactic| walk_at "rd") => `(tactic| dsimp only [cxOf, tRet, tAndV, tOrV, tNotV, tCB, tCons, tNil, tC, tVar, tSeq, tIfS, tNext, tTest, tOp, tB, tAnd, tOr, tNot, tChain, tCall, rI0, rI, gName, tYes, iStr, tIf, tAsg, tDrop, tRetN, iList, iTup, gTup, gCons, gNil, tTup, tLst, tMeth, tFld, tSl, tNoPart, tPart, tBM, tBM0, tUn, rU, tVeI, tOst, iEnum, iRng1, iRng2, sFld, tMake, tDNewK, tDNewT, tListVals, tDNotIn, tDIn, tDGet, sDPut, tMkO, tCallN, tMethN, WE, gSub, rSetL, tPar, rCatT, tXf])
local macro_rules | `(tactic| walk_at "rs") => `(tactic| dsimp only [cxOf, tRet, tAndV, tOrV, tNotV, tCB, tCons, tNil, tC, tVar, tIfS, tNext, tTest, tOp, tB, tAnd, tOr, tNot, tChain, tCall, rI0, rI, gName, tYes, iStr, tIf, tAsg, tDrop, tRetN, iList, iTup, gTup, gCons, gNil, tTup, tLst, tMeth, tFld, tSl, tNoPart, tPart, tBM, tBM0, tUn, rU, tVeI, tOst, iEnum, iRng1, iRng2, sFld, tMake, tDNewK, tDNewT, tListVals, tDNotIn, tDIn, tDGet, sDPut, tMkO, tCallN, tMethN, WE, gSub, rSetL, tPar, rCatT, tXf])
section
variable {P : Program} {w : World} {K : PySem.W.Frag} {mg : Str → Option Value} {base : Heap}
/-! ### House() -/
theorem bi_House_init (T : Tx K mg) : Binds K (fdOf K (He.fAd K d_House_init.at_)) ["self", "rules", "cleaner"] [.none, .none] := by
  obtain ⟨ds, hv, hb⟩ := FunD.binds0 (ps := ["self", "rules", "cleaner"]) (kws := [("rules", .non), ("cleaner", .non)]) T.f_House_init 1 (by decide) rfl fun D doc pm an cdv ct us ks h1 h2 => match us, ks, h1, h2 with
    | [_], [_, _], _, _ => ⟨_, _, _, _, _, _, rfl, rfl, ⟨_, _, _, _, _, _, rfl, rfl, rfl⟩⟩
  obtain ⟨u, v, rfl, r1, r2⟩ := vals2 hv
  cases (show u = Value.none from r1)
  cases (show v = Value.none from r2)
  exact hb
theorem vals_nn : Vals [V.non, V.non] [Value.none, Value.none] := .cons rfl (.cons rfl .nil)
/-! ### what a house has been told -/
abbrev NKey : Type := Str × Int
def nkey (n : Nt) : NKey := (n.1, n.2.1)
def KvAt (H : Hp) (p : List Key × V) (n : Nt) : Prop := p.1 = [.inr n.1, .inl n.2.1] ∧ ∃ q, p.2 = .ref q ∧ H q = some (.tup [.str n.2.2.1, .int n.2.2.2])
theorem kv_none {H : Hp} {s : Str} {i : Int} : ∀ {kvs : List (List Key × V)} {ns : List Nt}, Paired (KvAt H) kvs ns → (∀ n ∈ ns, nkey n ≠ (s, i)) → valV kvs [.inr s, .inl i] = none
  | _, _, .nil, _ => rfl
  | _, _, .cons (a := p) (b := n) r t, h => by
    have e : ¬ p.1 = [.inr s, .inl i] := fun z => by
      rw [r.1] at z
      have z' : n.1 = s ∧ n.2.1 = i := by simpa using z
      exact h n List.mem_cons_self (by unfold nkey; rw [z'.1, z'.2])
    rw [valV_neg e]
    exact kv_none t fun m hm => h m (List.mem_cons_of_mem _ hm)
theorem kv_some {H : Hp} {s : Str} {i : Int} {u : V} : ∀ {kvs : List (List Key × V)} {ns : List Nt}, Paired (KvAt H) kvs ns → valV kvs [.inr s, .inl i] = some u → ∃ n ∈ ns, nkey n = (s, i) ∧ ∃ q, u = .ref q ∧ H q = some (.tup [.str n.2.2.1, .int n.2.2.2])
  | _, _, .nil, h => by cases h
  | _, _, .cons (a := p) (b := n) r t, h => by
    by_cases e : p.1 = [.inr s, .inl i]
    · rw [valV_pos e] at h
      obtain ⟨r1, q, r2, r3⟩ := r
      rw [r1] at e
      have e' : n.1 = s ∧ n.2.1 = i := by simpa using e
      refine ⟨n, List.mem_cons_self, by unfold nkey; rw [e'.1, e'.2], q, ?_, r3⟩
      rw [← r2]
      exact (Option.some.inj h).symm
    · rw [valV_neg e] at h
      obtain ⟨m, hm, k⟩ := kv_some t h
      exact ⟨m, List.mem_cons_of_mem _ hm, k⟩
theorem kv_all {H : Hp} {s : Str} {i : Int} : ∀ {kvs : List (List Key × V)} {ns : List Nt}, Paired (KvAt H) kvs ns → valV kvs [.inr s, .inl i] = none → ∀ n ∈ ns, nkey n ≠ (s, i)
  | _, _, .nil, _ => fun n h => nomatch h
  | _, _, .cons (a := p) (b := m) r t, h => fun n hn => by
    by_cases e : p.1 = [.inr s, .inl i]
    · rw [valV_pos e] at h
      cases h
    · rcases List.mem_cons.mp hn with rfl | hn
      · intro z
        have z' : n.1 = s ∧ n.2.1 = i := by simpa [nkey] using z
        exact e (by rw [r.1, z'.1, z'.2])
      · rw [valV_neg e] at h
        exact kv_all t h n hn
theorem nd_key : ∀ {ns : List Nt}, (ns.map nkey).Nodup → ∀ {a b : Nt}, a ∈ ns → b ∈ ns → nkey a = nkey b → a = b
  | [], _, _, _, h, _, _ => nomatch h
  | n :: ns, h, a, b, ha, hb, e => by
    rw [List.map_cons, List.nodup_cons] at h
    rcases List.mem_cons.mp ha with e1 | ha1 <;> rcases List.mem_cons.mp hb with e2 | hb1
    · rw [e1, e2]
    · exact absurd (List.mem_map.mpr ⟨b, hb1, by rw [← e, e1]⟩) h.1
    · exact absurd (List.mem_map.mpr ⟨a, ha1, by rw [e, e2]⟩) h.1
    · exact nd_key h.2 ha1 hb1 e
structure Inn (K : PySem.W.Frag) (H0 H : Hp) (p x N : Addr) (A : HA) (kvs : List (List Key × V)) (us : List V) (ns : List Nt) : Prop where
  src : Src H p
  hs : HsAt K H x A
  st : H A.starts = some (.dT kvs)
  fl : H A.falls = some (.dT [])
  nl : H N = some (.lst us)
  nN : N ≠ p
  nv : Paired (NtV H) us ns
  ok : ∀ n ∈ ns, NtOk n
  kv : Paired (KvAt H) kvs ns
  nd : (ns.map nkey).Nodup
  sm : Same H0 H
  fp : H0 p = none
  fN : H0 N = none
  fs : H0 A.starts = none
section
variable {H0 H H' : Hp} {p x N : Addr} {A : HA} {kvs : List (List Key × V)} {us : List V} {ns : List Nt}
theorem Inn.drw (I : Inn K H0 H p x N A kvs us ns) (d : Drw p H H') : Inn K H0 H' p x N A kvs us ns where
  src := d.s
  hs := ⟨d.at I.src I.hs.ob (fun _ z => nomatch z), I.hs.nd⟩
  st := d.at I.src I.st (fun _ z => nomatch z)
  fl := d.at I.src I.fl (fun _ z => nomatch z)
  nl := d.b _ _ I.nN I.nl
  nN := I.nN
  nv := Paired.mapP I.nv fun v n ⟨q, e, k⟩ => ⟨q, e, d.at I.src k (fun _ z => nomatch z)⟩
  ok := I.ok
  kv := Paired.mapP I.kv fun v n ⟨e, q, e2, k⟩ => ⟨e, q, e2, d.at I.src k (fun _ z => nomatch z)⟩
  nd := I.nd
  sm := fun b o e => d.b _ _ (ne_of_none e I.fp) (I.sm _ _ e)
  fp := I.fp
  fN := I.fN
  fs := I.fs
theorem Inn.same (I : Inn K H0 H p x N A kvs us ns) (s : Same H H') : Inn K H0 H' p x N A kvs us ns := I.drw ⟨Same.but s, I.src.same s⟩
/-- a note more: the house's dict has it, then the list -/
theorem Inn.more (I : Inn K H0 H p x N A kvs us ns) {n : Nt} {q t : Addr} (hn : NtOk n) (hk : ∀ m ∈ ns, nkey m ≠ nkey n) (ht : NtAt H t n) (hq : H q = none) (hq' : H' q = some (.tup [.str n.2.2.1, .int n.2.2.2])) (hs : H' A.starts = some (.dT (kvs ++ [([.inr n.1, .inl n.2.1], .ref q)])))
    (k : ∀ b o, H b = some o → b ≠ A.starts → H' b = some o) : Inn K H0 (upd H' N (.lst (us ++ [.ref t]))) p x N A (kvs ++ [([.inr n.1, .inl n.2.1], .ref q)]) (us ++ [.ref t]) (ns ++ [n]) := by
  have kp : ∀ {b o}, H b = some o → (∀ kv, o ≠ .dT kv) → (∀ xs, o ≠ .lst xs) → upd H' N (.lst (us ++ [.ref t])) b = some o := fun {b o} e h1 h2 => by
    have n1 : b ≠ N := fun z => by
      rw [z, I.nl] at e
      exact h2 _ (Option.some.inj e).symm
    have n2 : b ≠ A.starts := fun z => by
      rw [z, I.st] at e
      exact h1 _ (Option.some.inj e).symm
    rw [upd_ne n1]
    exact k _ _ e n2
  have nd2 := I.hs.nd
  obtain ⟨a, b, c, hp⟩ := I.src
  have np : p ≠ A.starts := fun z => by
    rw [z, I.st] at hp
    cases hp
  refine ⟨⟨a, b, c, ?_⟩, ⟨kp I.hs.ob (fun _ z => nomatch z) (fun _ z => nomatch z), nd2⟩, ?_, ?_, upd_same, I.nN, ?_, ?_, ?_, ?_, ?_, I.fp, I.fN, I.fs⟩
  · rw [upd_ne I.nN.symm]
    exact k _ _ hp np
  · have e : A.starts ≠ N := fun z => by
      have := I.st
      rw [z, I.nl] at this
      cases this
    rw [upd_ne e]
    exact hs
  · have e : A.falls ≠ N := fun z => by
      have := I.fl
      rw [z, I.nl] at this
      cases this
    have e2 : A.falls ≠ A.starts := by
      intro z
      have h := nd2
      simp [HA.own, z] at h
    rw [upd_ne e]
    exact k _ _ I.fl e2
  · refine Paired.snoc (Paired.mapP I.nv fun v m ⟨q2, e, k2⟩ => ⟨q2, e, kp k2 (fun _ z => nomatch z) (fun _ z => nomatch z)⟩) ⟨t, rfl, kp ht (fun _ z => nomatch z) (fun _ z => nomatch z)⟩
  · intro m hm
    rcases List.mem_append.mp hm with hm | hm
    · exact I.ok m hm
    · rw [List.mem_singleton.mp hm]
      exact hn
  · refine Paired.snoc (Paired.mapP I.kv fun v m ⟨e0, q2, e, k2⟩ => ⟨e0, q2, e, kp k2 (fun _ z => nomatch z) (fun _ z => nomatch z)⟩) ⟨rfl, q, rfl, ?_⟩
    have e : q ≠ N := fun z => by
      rw [z, I.nl] at hq
      cases hq
    rw [upd_ne e]
    exact hq'
  · rw [List.map_append, List.nodup_append]
    refine ⟨I.nd, by simp, fun a ha b hb e => ?_⟩
    obtain ⟨m, hm, e2⟩ := List.mem_map.mp ha
    have e3 : b = nkey n := by simpa using hb
    exact hk m hm (by rw [e2, e, e3])
  · intro b o e
    rw [upd_ne (ne_of_none e I.fN)]
    exact k _ _ (I.sm _ _ e) (ne_of_none e I.fs)
end
end
end Fw

set_option Elab.async false
set_option linter.all false
set_option maxRecDepth 100000
set_option maxHeartbeats 4000000
namespace Fw
open PySem PySem.Spec PyProof.Rows L2
local macro_rules | `(tactic| walk_at "rd") => `(tactic| dsimp only [cxOf, tRet, tAndV, tOrV, tNotV, tCB, tCons, tNil, tC, tVar, tSeq, tIfS, tNext, tTest, tOp, tB, tAnd, tOr, tNot, tChain, tCall, rI0, rI, gName, tYes, iStr, tIf, tAsg, tDrop, tRetN, iList, iTup, gTup, gCons, gNil, tTup, tLst, tMeth, tFld, tSl, tNoPart, tPart, tBM, tBM0, tUn, rU, tVeI, tOst, iEnum, iRng1, iRng2, sFld, tMake, tDNewK, tDNewT, tListVals, tDNotIn, tDIn, tDGet, sDPut, tMkO, tCallN, tMethN, WE, gSub, rSetL, tPar, rCatT, tXf])
local macro_rules | `(tactic| walk_at "rs") => `(tactic| dsimp only [cxOf, tRet, tAndV, tOrV, tNotV, tCB, tCons, tNil, tC, tVar, tIfS, tNext, tTest, tOp, tB, tAnd, tOr, tNot, tChain, tCall, rI0, rI, gName, tYes, iStr, tIf, tAsg, tDrop, tRetN, iList, iTup, gTup, gCons, gNil, tTup, tLst, tMeth, tFld, tSl, tNoPart, tPart, tBM, tBM0, tUn, rU, tVeI, tOst, iEnum, iRng1, iRng2, sFld, tMake, tDNewK, tDNewT, tListVals, tDNotIn, tDIn, tDGet, sDPut, tMkO, tCallN, tMethN, WE, gSub, rSetL, tPar, rCatT, tXf])
section
variable {P : Program} {w : World} {K : PySem.W.Frag} {mg : Str → Option Value} {base : Heap}
theorem seq_in {t u : TS} {D : Ends} {σ : L2.St} {H : Hp} (h : t { D with nx := u D } σ H) : tSeq t u D σ H := h
/-- a mark between two statements -/
theorem seq_have {t u : TS} {D : Ends} {σ : L2.St} {H : Hp} (M : L2.St → Hp → Prop) (h2 : ∀ σ' H', M σ' H' → u D σ' H') (h1 : ∀ N : L2.St → Hp → Prop, (∀ σ' H', M σ' H' → N σ' H') → t { D with nx := N } σ H) : tSeq t u D σ H := h1 (u D) h2
theorem eqv_self {d : PyData} (h : nb d = true) : PyData.eqv d d = true := (eqv_iff d d h h).mpr rfl
theorem Any.drw {p : Addr} {H H' : Hp} {v : V} (h : Any K H v) (d : Drw p H H') : Any K H' v := by
  by_cases e : v = .ref p
  · obtain ⟨a, b, c, z⟩ := d.s
    rw [e]
    exact any_lst z
  · exact h.keep fun a o z k => d.b _ _ (fun q => e (by rw [z, q])) k
theorem BadV.drw {p : Addr} {H H' : Hp} {a b c d : V} {part : Str} (h : BadV K H a b c d part) (k : Drw p H H') : BadV K H' a b c d part := ⟨⟨h.1.1.drw k, h.1.2⟩, h.2.1.drw k, ⟨h.2.2.1.1.drw k, h.2.2.1.2⟩, h.2.2.2.1.drw k, h.2.2.2.2⟩
theorem cut4 {a b c d e : V} : cutV [a, b, c, d, e] none (some 4) = [a, b, c, d] := by rfl
theorem cut4n {a b c d e : V} : ¬ (HT.sIx [a, b, c, d, e].length 0 none = 0 ∧ HT.sIx [a, b, c, d, e].length [a, b, c, d, e].length (some 4) = [a, b, c, d, e].length) := by
  show ¬ (HT.sIx 5 0 none = 0 ∧ HT.sIx 5 5 (some 4) = 5)
  decide
theorem Drw.same {p : Addr} {H H' : Hp} (h : Src H p) (s : Same H H') : Drw p H H' := ⟨Same.but s, h.same s⟩
theorem shaped_ss {a b : Str} (h1 : PyData.strOk a = true) (h2 : PyData.strOk b = true) : SeqAt.shaped (.tuple [.str a, .str b]) = true := shaped_of (by simp [PyData.canLay0, PyData.canLayAll0, h1, h2]) (by simp [PyData.depth, PyData.depthAll])
theorem nt_eqv {m n : Nt} : PyData.eqv (ntD m) (ntD n) = decide (m = n) := eqv_dec (by rfl) (by rfl) (by
  obtain ⟨a, b, c, d⟩ := m
  obtain ⟨a', b', c', d'⟩ := n
  simp [ntD])
theorem nts_any {ns : List Nt} {n : Nt} : ((ns.map ntD).any fun z => PyData.eqv z (ntD n)) = decide (n ∈ ns) := by
  induction ns with
  | nil => simp
  | cons m ns ih =>
    rw [List.map_cons, List.any_cons, ih, nt_eqv]
    by_cases e : m = n
    · simp [e]
    · have e' : ¬ n = m := fun z => e z.symm
      simp [e, e']
theorem key_eqv {m n : Nt} : PyData.eqv (.tuple [.str m.1, .int m.2.1]) (.tuple [.str n.1, .int n.2.1]) = decide (nkey m = nkey n) := eqv_dec (by rfl) (by rfl) (by simp [nkey])
/-- what is due of a note -/
def Due (H : Hp) (nts : List Nt) (n : Nt) (dv : V) : Prop := ((∀ m ∈ nts, nkey m ≠ nkey n) ∧ dv = .str "new") ∨ (n ∈ nts ∧ dv = .str "again") ∨
  (n ∉ nts ∧ (∃ m ∈ nts, nkey m = nkey n) ∧ ∃ r t, dv = .ref r ∧ H r = some (.tup [.str "unlike", .ref t]) ∧ H t = some (.tup [.str n.1, .int n.2.1]))
def uD (n : Nt) : PyData := .tuple [.str "unlike", .tuple [.str n.1, .int n.2.1]]
theorem u_shaped {n : Nt} (h : NtOk n) : SeqAt.shaped (uD n) = true := by
  have h1 := h.2.2.2.2.1
  have h2 : PyData.strOk "unlike" = true := by decide +kernel
  exact shaped_of (by simp [uD, PyData.canLay0, PyData.canLayAll0, h1, h2]) (by simp [uD, PyData.depth, PyData.depthAll])
theorem u_dp {H : Hp} {n : Nt} {r t : Addr} (h1 : H r = some (.tup [.str "unlike", .ref t])) (h2 : H t = some (.tup [.str n.1, .int n.2.1])) : Dp K H (.ref r) (uD n) := .tup (.of h1) (.cons (.str _) (.cons (.tup (.of h2) (.cons (.str _) (.cons (.int _) .nil))) .nil))
theorem s_shaped {z : Str} (h : PyData.strOk z = true) : SeqAt.shaped (.str z) = true := shaped_of (by simp [PyData.canLay0, h]) (by simp [PyData.depth])
def spLaw (K : PySem.W.Frag) : Sp := fun vs H Q _ => ∃ (a : Addr) (ns : List Int), vs = [.ref a] ∧ SqL K H a (ns.map V.int) ∧ ns.length ≤ 63 ∧ ∀ H', Q (.bl true) H'
theorem sc_law : FnScope ["_law_script", "_law_k", "_law_source_here", "_law_house", "_law_notes", "_law_turn", "_law_note", "_law_bad_here", "_law_due", "_law_name", "_law_one"] ["_law_script"] (defScope s_law) := ⟨rfl, rfl, rfl, by decide +kernel, rfl, by decide +kernel, by decide +kernel⟩
theorem ok_law (T : Tx K mg) : FnOk P w K mg base CX0 6 (He.fAd K d_law.at_) (fdOf K (He.fAd K d_law.at_)) ["_law_script"] (spLaw K) := by
  refine T.f_law.ok sc_law (fun vs H Q E h => ?_) (fun cdv A outer s H vs Q E hr h => ?_)
  · obtain ⟨a, ns, rfl, _⟩ := h
    rfl
  · obtain ⟨a, ns, rfl, hs, hl, q⟩ := h
    have hu := hu_of hr
    have hbH := bi_House_init T
    have hdH := vals_nn
    refine ⟨_, PSs.nox (pss_cons (ps_for PassesOwn.never rfl (pi_range1 rfl T.b_range (pa_cons (pe_callB (call_max2 rfl) rfl T.b_max bt_max (pa_cons pe_int (pa_cons (pe_callB (call_min2 rfl) rfl T.b_min bt_min (pa_cons pe_int (pa_cons (pe_callB call_len_seq rfl T.b_len bt_len (pa_cons (pv 0) pa_nil)) pa_nil))) pa_nil))) pa_nil)) (pg_name (i := 1) sc_law.nd rfl (Or.inl rfl)) (pss_cons (ps_set (i := 2) sc_law.nd rfl (Or.inl rfl) (pe_call (ok__law_source T) (hr.mono (by decide)) rfl T.g__law_source T.f__law_source.kp (bi__law_source T) .nil ps0 (pa_cons (pv 0) (pa_cons (pv 1) pa_nil))))
      (pss_cons (ps_set (i := 3) sc_law.nd rfl (Or.inl rfl) (pe_make0 T.mk_House (ok_House_init T) (hr.mono (by decide)) rfl T.g_House hbH hdH ps0))
      (pss_cons (ps_set (i := 4) sc_law.nd rfl (Or.inl rfl) (pe_lst pa_nil))
      (pss_one (ps_for PassesOwn.never rfl (pi_range1 rfl T.b_range (pa_cons (pe_op op_add pe_int (pe_call (ok__law_next T) (hr.mono (by decide)) rfl T.g__law_next T.f__law_next.kp (bi__law_next T) .nil ps0 (pa_cons (pv 2) (pa_cons pe_int pa_nil)))) pa_nil)) (pg_name (i := 5) sc_law.nd rfl (Or.inl rfl)) (pss_cons (ps_set (i := 6) sc_law.nd rfl (Or.inr rfl) (pe_call (ok__law_drawn_note T) (hr.mono (by decide)) rfl T.g__law_drawn_note T.f__law_drawn_note.kp (bi__law_drawn_note T) .nil ps0 (pa_cons (pv 2) (pa_cons (pv 4) pa_nil))))
      (pss_cons (ps_set (i := 7) sc_law.nd rfl (Or.inl rfl) (pe_call (ok__law_bad T) (hr.mono (by decide)) rfl T.g__law_bad T.f__law_bad.kp (bi__law_bad T) .nil ps0 (pa_cons (pv 2) (pa_cons (pv 6) pa_nil))))
      (pss_cons (ps_if (PW.pt (pw_and (pt_cmpR op_eq (pe_call (ok__law_next T) (hr.mono (by decide)) rfl T.g__law_next T.f__law_next.kp (bi__law_next T) .nil ps0 (pa_cons (pv 2) (pa_cons pe_int pa_nil))) pe_int (nomark _)) (pw_and1 (pt_cmpR (op_neD hr.units) (pe_call (ok__law_told T) (hr.mono (by decide)) rfl T.g__law_told T.f__law_told.kp (bi__law_told T) .nil ps0 (pa_cons (pv 3) (pa_cons (pe_slice (slT K) (pv 7) po_none (po_some pe_int)) pa_nil))) (pe_tup (pa_cons pe_str (pa_cons (pe_ix (ixT K) (pv 7) pe_int (fun _ _ => rfl)) pa_nil))) (nomark _))))) (pss_one (ps_ret pe_bl)) pss_nil)
      (pss_cons (ps_set (i := 8) sc_law.nd rfl (Or.inl rfl) pe_str)
      (pss_cons (ps_if (pt_cmpR (op_neD hr.units) (pe_lc (own := [("_law_one", 10)]) (g := (gName 10)) rfl sc_law.nd (pi_list (pv 4)) (blkOk_by (N := ["_law_script", "_law_k", "_law_source_here", "_law_house", "_law_notes", "_law_turn", "_law_note", "_law_bad_here", "_law_due", "_law_name", "_law_one"]) (sc := defScope s_law) (by decide +kernel)) (fun _ _ _ _ _ => (pg_name (i := 10) sc_law.nd rfl (Or.inl rfl))) (fun _ _ _ _ _ => (pts_one (pt_cmpR (op_eqDK K hr.units) (pe_slice (slT K) (pv 10) po_none (po_some pe_int)) (pe_slice (slT K) (pv 6) po_none (po_some pe_int)) (nomark _)))) (fun _ _ _ _ _ => (pv 10))) (pe_lst pa_nil) (nomark _)) (pss_one (ps_set (i := 8) sc_law.nd rfl (Or.inl rfl) (pe_ix (ixL K) (pe_lst (pa_cons (pe_tup (pa_cons pe_str (pa_cons (pe_slice (slT K) (pv 6) po_none (po_some pe_int)) pa_nil))) (pa_cons pe_str pa_nil))) (pe_callTy call_int1 rfl T.b_int bt_int (pa_cons (pe_cmpR (op_inD (hu65 hr)) (pv 6) (pv 4) rfl) pa_nil)) (fun _ _ => rfl)))) pss_nil)
      (pss_cons (ps_if (pt_cmpR (op_neD hr.units) (pe_call (ok__law_told T) (hr.mono (by decide)) rfl T.g__law_told T.f__law_told.kp (bi__law_told T) .nil ps0 (pa_cons (pv 3) (pa_cons (pv 6) pa_nil))) (pv 8) (nomark _)) (pss_one (ps_ret pe_bl)) pss_nil)
      (pss_cons (ps_if (pt_cmpR (op_eqD hr.units) (pv 8) pe_str (nomark _)) (pss_one (ps_expr (pe_bm PySem.F.plainAttrs_list PySem.F.slot_list_append PySem.F.type_list_append mt_append (pv 4) (pa_cons (pv 6) pa_nil)))) pss_nil)
      (pss_one (ps_for PassesOwn.never rfl (pi_list (pe_lst (pa_cons pe_str (pa_cons pe_str (pa_cons pe_str (pa_cons (pe_op op_mul_str pe_str pe_int) (pa_cons pe_str (pa_cons pe_str pa_nil)))))))) (pg_name (i := 9) sc_law.nd rfl (Or.inr rfl)) (pss_one (ps_if (pt_cmpR (op_neD hr.units) (pe_meth (pv 3) T.c_House T.m_House_health (ok_House_health T) (hr.mono (by decide)) (bi_House_health T) .nil ps0 (pa_cons (pv 9) pa_nil)) (pe_tup (pa_cons (pe_callB (cr_sum rfl) rfl T.b_sum bt_sum (pa_cons (pe_lc (own := [("_law_one", 10)]) (g := (gName 10)) rfl sc_law.nd (pi_list (pv 4)) (blkOk_by (N := ["_law_script", "_law_k", "_law_source_here", "_law_house", "_law_notes", "_law_turn", "_law_note", "_law_bad_here", "_law_due", "_law_name", "_law_one"]) (sc := defScope s_law) (by decide +kernel)) (fun _ _ _ _ _ => (pg_name (i := 10) sc_law.nd rfl (Or.inl rfl))) (fun _ _ _ _ _ => (pts_one (pt_cmpR op_eq (pe_ix (ixT K) (pv 10) pe_int (fun _ _ => rfl)) (pv 9) (nomark _)))) (fun _ _ _ _ _ => (pe_ix (ixT K) (pv 10) pe_int (fun _ _ => rfl)))) pa_nil)) (pa_cons pe_int pa_nil))) (nomark _)) (pss_one (ps_ret pe_bl)) pss_nil)))))))))))))))))
      (pss_one (ps_ret pe_bl))), ?_⟩
    walk_at "rd"
    refine for_in ?_
    walk_at "rd"
    have hm : ∀ L : Nat, 0 ≤ (if (if (L : Int) < 8 then (L : Int) else 8) > 1 then (if (L : Int) < 8 then (L : Int) else 8) else 1) ∧ (if (if (L : Int) < 8 then (L : Int) else 8) > 1 then (if (L : Int) < 8 then (L : Int) else 8) else 1) ≤ 8 := fun L => by
      split <;> split <;> omega
    refine ⟨_, rfl, a, _, rfl, .inl hs, _, _, rfl, _, _, rfl, _, rfl, by have := hm (ns.map V.int).length; omega, by have := hm (ns.map V.int).length; omega, ?_⟩
    refine fo_range (fun i σ H => ∃ s1 s2 s3 s4 s5 s6 s7 s8 s9 s10, σ = [some (.ref a), s1, s2, s3, s4, s5, s6, s7, s8, s9, s10] ∧ SqL K H a (ns.map V.int)) ⟨_, _, _, _, _, _, _, _, _, _, rfl, hs⟩ (fun i σ H0 hi hP => ?_) (fun σ H0 hP => ?_)
    · obtain ⟨s1, s2, s3, s4, s5, s6, s7, s8, s9, s10, rfl, hs⟩ := hP
      walk_at "rd"
      refine ⟨_, rfl, _, rfl, a, ns, _, rfl, hs, hl, by omega, fun p ca cb cc np => ?_⟩
      have srcp : Src (upd H0 p (.lst [.int ca, .int cb, .int cc])) p := Src.upd
      have sm1 : Same H0 (upd H0 p (.lst [.int ca, .int cb, .int cc])) := Same.new np
      generalize upd H0 p (.lst [.int ca, .int cb, .int cc]) = H1 at *
      intro x dx nx ndx nxd
      refine ⟨x, dx, rfl, upd_same, fun A H2 hA hh newA frA => ⟨rfl, z0, fun N nN => ?_⟩⟩
      refine for_in ?_
      walk_at "rd"
      have old1 : ∀ b, (upd (upd H1 dx (.own x)) x (.ins (He.ga K "House") dx [])) b = none → H1 b = none := fun b h => by
        by_cases e1 : b = x
        · rw [e1]; exact nx
        · rw [upd_ne e1] at h
          by_cases e2 : b = dx
          · rw [e2]; exact ndx
          · rw [upd_ne e2] at h
            exact h
      have sm2 : Same H1 H2 := fun b o e => frA b o (by rw [upd_ne (ne_of_none e nx), upd_ne (ne_of_none e ndx)]; exact e) (ne_of_none e nx)
      have sm3 : Same H2 (upd H2 N (.lst [])) := Same.new nN
      have I0 : Inn K H0 (upd H2 N (.lst [])) p x N A [] [] [] := {
        src := (srcp.same sm2).same sm3
        hs := ⟨sm3 _ _ hh.ob, hh.nd⟩
        st := sm3 _ _ hh.starts
        fl := sm3 _ _ hh.falls
        nl := upd_same
        nN := (srcp.same sm2).new nN
        nv := .nil
        ok := fun _ h => nomatch h
        kv := .nil
        nd := .nil
        sm := (sm1.trans sm2).trans sm3
        fp := np
        fN := (sm1.trans sm2).free nN
        fs := sm1.free (old1 _ (newA _ (by simp [HA.own]))) }
      generalize upd H2 N (.lst []) = H3 at *
      refine ⟨_, rfl, drawD I0.src (by decide) (by decide) fun r0 H4 r00 r01 d4 => ⟨_, _, rfl, rfl, _, rfl, by omega, by omega, ?_⟩⟩
      refine fo_range (fun t σ H => ∃ kvs us nts s5 s6 s7 s8 s9 s10, σ = [some (.ref a), some (.int (0 + (i : Int))), some (.ref p), some (.ref x), some (.ref N), s5, s6, s7, s8, s9, s10] ∧ Inn K H0 H p x N A kvs us nts ∧ us.length ≤ t) ⟨[], [], [], _, _, _, _, _, _, rfl, I0.drw d4, Nat.le_refl _⟩ (fun t σ H5 ht hP => ?_) (fun σ H hP => ?_)
      · obtain ⟨kvs, us, nts, s5, s6, s7, s8, s9, s10, rfl, I5, hus⟩ := hP
        refine seq_in ?_
        walk_at "rs"
        refine ⟨_, rfl, _, rfl, p, N, us, nts, rfl, I5.src, I5.nl, I5.nN, I5.nv, I5.ok, by omega, fun nv n H6 b6 src6 hn6 ok6 => ?_⟩
        have I6 := I5.drw ⟨b6, src6⟩
        obtain ⟨tn, rfl, at6⟩ := hn6
        refine seq_in ?_
        walk_at "rs"
        refine ⟨_, rfl, _, rfl, p, tn, n.1, n.2.1, n.2.2.1, n.2.2.2, rfl, I6.src, at6, ⟨ok6.1, ok6.2.1, ok6.2.2.1, ok6.2.2.2.1⟩, fun tb H7 ba bb bc bd part b7 src7 hb7 bad7 => ?_⟩
        have d7 : Drw p H6 H7 := ⟨b7, src7⟩
        have I7 := I6.drw d7
        have at7 : NtAt H7 tn n := d7.at I6.src at6 (fun _ z => nomatch z)
        refine seq_have (fun σ' H' => σ' = [some (.ref a), some (.int (0 + (i : Int))), some (.ref p), some (.ref x), some (.ref N), some (.int (0 + (t : Int))), some (.ref tn), some (.ref tb), s8, s9, s10] ∧ Inn K H0 H' p x N A kvs us nts ∧ NtAt H' tn n) (fun σ' H8 h8 => ?_) fun Nx hNx => ?_
        rotate_left
        · walk_at "rs"
          have hlen : kvs.length < 1000 := by
            have h1 := Paired.length I7.kv
            have h2 := Paired.length I7.nv
            omega
          refine ⟨_, rfl, drawD I7.src (by decide) (by decide) fun r1 H8 _ _ d8 => ⟨rfl, _, rfl, ?_⟩⟩
          have I8 := I7.drw d8
          have at8 := d8.at I7.src at7 (fun _ z => nomatch z)
          have hb8 := d8.at src7 hb7 (fun _ z => nomatch z)
          refine ite2 (fun _ => ?_) (fun _ => iteF (hNx _ _ ⟨rfl, I8, at8⟩))
          refine ⟨_, rfl, _, rfl, 4, rfl, tb, _, rfl, .of hb8, cut4n, fun p9 n9 => ?_⟩
          rw [cut4]
          have s9 := Same.new (o := .tup [ba, bb, bc, bd]) n9
          have I9 := I8.same s9
          have bad9 := (bad7.drw d8).drw (Drw.same I8.src s9)
          refine ⟨x, A, p9, ba, bb, bc, bd, [], kvs, rfl, I9.hs, .of upd_same, I9.st, hlen, bad9.1, bad9.2.1, bad9.2.2.1, bad9.2.2.2.1, fun p' hp' H10 r sm10 hr10 => ?_, fun s' n' e' m' h0 => ?_⟩
          · have ep : p' = part := by
              have := hp'.symm.trans bad9.2.2.2.2.1
              exact V.str.inj this
            subst ep
            refine ⟨_, rfl, tb, _, 4, _, rfl, rfl, .of (sm10 _ _ (s9 _ _ hb8)), atI_nat (j := 4) rfl, z2, fun p11 n11 => ?_⟩
            have s11 := Same.new (o := .tup [.str "none", .str p']) n11
            refine ⟨.tuple [.str "none", .str p'], .tuple [.str "none", .str p'], .tup (.of (s11 _ _ hr10)) (.cons (.str _) (.cons (.str _) .nil)), .tup (.of upd_same) (.cons (.str _) (.cons (.str _) .nil)), shaped_ss (by decide +kernel) bad9.2.2.2.2.2, shaped_ss (by decide +kernel) bad9.2.2.2.2.2, _, rfl, ?_⟩
            rw [eqv_self (by rfl)]
            have sm11 := (s9.trans sm10).trans s11
            exact iteF (hNx _ _ ⟨rfl, I8.same sm11, sm11 _ _ at8⟩)
          · rw [bad9.2.2.2.2.1] at h0
            cases h0
        obtain ⟨rfl, I8, at8⟩ := h8
        refine seq_in ?_
        walk_at "rs"
        have hul : us.length ≤ 100 := by omega
        refine seq_have (fun σ' H' => ∃ dv, σ' = [some (.ref a), some (.int (0 + (i : Int))), some (.ref p), some (.ref x), some (.ref N), some (.int (0 + (t : Int))), some (.ref tn), some (.ref tb), some dv, s9, s10] ∧ Inn K H0 H' p x N A kvs us nts ∧ NtAt H' tn n ∧ Due H' nts n dv) (fun σ' H9 h9 => ?_) fun Nx hNx => ?_
        rotate_left
        · walk_at "rs"
          refine lc_in ?_
          walk_at "rs"
          have hun : us.length = nts.length := Paired.length I8.nv
          refine ⟨_, rfl, N, rfl, ⟨us, .of I8.nl⟩, lc_gen [] (runs_list (.of I8.nl)) (fun _ h => nomatch h) (by omega) (fun i acc Hx => ∃ ms, Paired (NtV Hx) acc ms ∧ (∀ m ∈ ms, m ∈ nts) ∧ (ms = [] ↔ ∀ m ∈ nts.take i, nkey m ≠ nkey n))
            (fun i acc Hx Hy sx ⟨ms, h1, h2⟩ => ⟨ms, Paired.mapP h1 fun v m ⟨q, e, k⟩ => ⟨q, e, sx _ _ k⟩, h2⟩) ⟨[], .nil, (fun _ h => nomatch h), by simp⟩ (fun ms' j y acc H9 Ky Kn hj sj sw tr py hG ky kn => ?_) fun D acc H9 sD hD _ hacc hal hG => ?_⟩
          · obtain ⟨m, hm, qm, rfl, am⟩ := paired_at I8.nv py
            have am9 : NtAt H9 qm m := sj _ _ am
            have at9 := sj _ _ at8
            have am9w : NtAt (wo H9 ms') qm m := sw _ _ (by rw [wo_nil]; exact am)
            walk_at "rs"
            refine ⟨rfl, _, rfl, 2, rfl, qm, _, rfl, .of am9, cut2n, fun p1 n1 => ?_⟩
            rw [cut2]
            have s1' := Same.new (o := .tup [.str m.1, .int m.2.1]) n1
            refine ⟨_, rfl, 2, rfl, tn, _, rfl, .of (s1' _ _ at9), cut2n, fun p2 n2 => ?_⟩
            rw [cut2]
            have s2' := Same.new (o := .tup [.str n.1, .int n.2.1]) n2
            have okm := I8.ok m (List.mem_of_getElem? hm)
            refine ⟨.tuple [.str m.1, .int m.2.1], .tuple [.str n.1, .int n.2.1], .tup (.of (s2' _ _ upd_same)) (.cons (.str _) (.cons (.int _) .nil)), .tup (.of upd_same) (.cons (.str _) (.cons (.int _) .nil)), shaped_si okm.2.2.2.2.1, shaped_si ok6.2.2.2.2.1, _, rfl, ?_⟩
            rw [key_eqv]
            obtain ⟨ms, h1, h2, h3⟩ := hG
            rw [take_snoc hm] at ky kn
            refine ite2 (fun he => ⟨_, rfl, ky _ _ (s1'.trans s2') ⟨ms ++ [m], ?_, ?_, ?_⟩⟩) (fun he => kn _ (s1'.trans s2') ⟨ms, ?_, h2, ?_⟩)
            · exact Paired.snoc (Paired.mapP h1 fun v k ⟨q, e, z⟩ => ⟨q, e, wo_mono ms' (s1'.trans s2') _ _ z⟩) ⟨qm, rfl, wo_mono ms' (s1'.trans s2') _ _ am9w⟩
            · intro k hk
              rcases List.mem_append.mp hk with hk | hk
              · exact h2 k hk
              · rw [List.mem_singleton.mp hk]
                exact List.mem_of_getElem? hm
            · constructor
              · intro z
                simp at z
              · intro z
                exact absurd (of_decide_eq_true he) (z m (by simp))
            · exact Paired.mapP h1 fun v k ⟨q, e, z⟩ => ⟨q, e, wo_mono ms' (s1'.trans s2') _ _ z⟩
            · rw [h3]
              constructor
              · intro z k hk
                rcases List.mem_append.mp hk with hk | hk
                · exact z k hk
                · rw [List.mem_singleton.mp hk]
                  exact fun e => he (decide_eq_true e)
              · intro z k hk
                exact z k (by simp [hk])
          · obtain ⟨ms, h1, h2, h3⟩ := hG
            rw [List.take_of_length_le (by omega)] at h3
            have sH9 : Same (wo H9 []) H9 := wo_le _ _
            have dpD : Dp K H9 (.ref D) (.list (ms.map ntD)) := .lst (.of hacc) (ntV_dps (Paired.mapP h1 fun v k ⟨q, e, z⟩ => ⟨q, e, sH9 _ _ z⟩))
            refine ⟨z0, fun p9 n9 => ⟨.list (ms.map ntD), .list [], Dp.same (Same.new n9) _ _ dpD, .lst (.of upd_same) .nil, nts_shaped fun m hm => I8.ok m (h2 m hm), rfl, _, rfl, ?_⟩⟩
            have sm9 := sD.trans (Same.new (o := .lst []) n9)
            have J9 := I8.same sm9
            have ea : PyData.eqv (.list (ms.map ntD)) (.list []) = decide (ms = []) := by
              cases ms <;> simp [PyData.eqv, PyData.eqvAll]
            rw [ea]
            by_cases hms : ms = []
            · rw [decide_eq_true hms]
              refine iteF (hNx _ _ ⟨_, rfl, J9, sm9 _ _ at8, .inl ⟨h3.mp hms, rfl⟩⟩)
            · rw [decide_eq_false hms]
              have hex : ∃ m ∈ nts, nkey m = nkey n := by
                refine Classical.byContradiction fun z => hms (h3.mpr fun m hm e => z ⟨m, hm, e⟩)
              have at9 := sm9 _ _ at8
              generalize upd H9 p9 (.lst []) = H9' at *
              refine iteT ⟨_, rfl, 2, rfl, tn, _, rfl, .of at9, cut2n, fun p10 n10 => ⟨z2, fun p11 n11 => ⟨z2, fun p12 n12 => ?_⟩⟩⟩
              rw [cut2] at *
              have s10' := Same.new (o := .tup [.str n.1, .int n.2.1]) n10
              have s11' := Same.new (o := .tup [.str "unlike", .ref p10]) n11
              have s12' := Same.new (o := .lst [.ref p11, .str "again"]) n12
              have sm12 := (s10'.trans s11').trans s12'
              have J12 := J9.same sm12
              have at12 := sm12 _ _ at9
              have c10 := s12' _ _ (s11' _ _ (upd_same (H := H9') (a := p10)))
              have c11 := s12' _ _ (upd_same (H := upd H9' p10 (.tup [.str n.1, .int n.2.1])) (a := p11))
              refine ⟨_, rfl, _, rfl, ntD n, nts.map ntD, ntV_dp ⟨tn, rfl, at12⟩, .lst (.of J12.nl) (ntV_dps J12.nv), nt_shaped ok6, nts_shaped J12.ok, .inr ⟨_, rfl, ?_⟩⟩
              rw [nts_any]
              by_cases hin : n ∈ nts
              · rw [decide_eq_true hin]
                exact ⟨p12, _, 1, _, rfl, rfl, .of upd_same, atI_nat (j := 1) rfl, hNx _ _ ⟨_, rfl, J12, at12, .inr (.inl ⟨hin, rfl⟩)⟩⟩
              · rw [decide_eq_false hin]
                exact ⟨p12, _, 0, _, rfl, rfl, .of upd_same, atI_nat (j := 0) rfl, hNx _ _ ⟨_, rfl, J12, at12, .inr (.inr ⟨hin, hex, p11, p10, rfl, c11, c10⟩)⟩⟩
        obtain ⟨dv, rfl, I9, at9, due9⟩ := h9
        refine seq_have (fun σ' H' => ∃ dv', σ' = [some (.ref a), some (.int (0 + (i : Int))), some (.ref p), some (.ref x), some (.ref N), some (.int (0 + (t : Int))), some (.ref tn), some (.ref tb), some dv', s9, s10] ∧
          ((dv' = .str "new" ∧ H' N = some (.lst us) ∧ ∃ kvs', Inn K H0 (upd H' N (.lst (us ++ [.ref tn]))) p x N A kvs' (us ++ [.ref tn]) (nts ++ [n])) ∨
            ((∃ d, Dp K H' dv' d ∧ SeqAt.shaped d = true ∧ PyData.eqv d (.str "new") = false) ∧ Inn K H0 H' p x N A kvs us nts))) (fun σ' H10 h10 => ?_) fun Nx hNx => ?_
        rotate_left
        · walk_at "rs"
          have hlen : kvs.length < 1000 := by
            have h1 := Paired.length I9.kv
            have h2 := Paired.length I9.nv
            omega
          have hsa : Sz (.str n.1) := sz_str (by have := nameB_sz ok6.1; omega)
          have hsc : Sz (.str n.2.2.1) := sz_str (by have := nameB_sz ok6.2.2.1; omega)
          have hnon : startsF (.str n.1) (.int n.2.1) (.str n.2.2.1) (.int n.2.2.2) = .non := by
            have e1 : nameV (.str n.1) = true := ok6.1
            have e2 : fromV (.int n.2.1) 1 = true := decide_eq_true ok6.2.1
            have e3 : nameV (.str n.2.2.1) = true := ok6.2.2.1
            have e4 : fromV (.int n.2.2.2) 1 = true := decide_eq_true ok6.2.2.2.1
            unfold startsF
            rw [e1, e2, e3, e4]
            rfl
          refine ⟨_, rfl, _, rfl, x, A, tn, .str n.1, .int n.2.1, .str n.2.2.1, .int n.2.2.2, [], kvs, rfl, I9.hs, .of at9, I9.st, hlen, ⟨any_str _, hsa⟩, any_int _, ⟨any_str _, hsc⟩, any_int _, fun p' hp' => ?_, fun s' n' e' m' h0 e1 e2 e3 e4 => ?_⟩
          · rw [hnon] at hp'
            cases hp'
          · cases e1
            cases e2
            cases e3
            cases e4
            refine ⟨fun hv H' q hq hq' hst k => ?_, fun u hu => ?_⟩
            · have all := kv_all I9.kv hv
              have hdv : dv = .str "new" := by
                rcases due9 with ⟨_, h⟩ | ⟨h, _⟩ | ⟨_, ⟨m, hm, e⟩, _⟩
                · exact h
                · exact absurd rfl (all n h)
                · exact absurd e (all m hm)
              subst hdv
              have nNs : N ≠ A.starts := fun z => by
                have h := I9.st
                rw [← z, I9.nl] at h
                cases h
              refine ⟨_, rfl, .str "new", .str "new", .str _, .str _, s_shaped (by decide +kernel), s_shaped (by decide +kernel), _, rfl, ?_⟩
              rw [eqv_self (by rfl)]
              exact iteF (hNx _ _ ⟨_, rfl, .inl ⟨rfl, k _ _ I9.nl nNs, _, I9.more ok6 all at9 hq hq' hst k⟩⟩)
            · obtain ⟨m, hm, ek, q, e5, hq⟩ := kv_some I9.kv hu
              have okm := I9.ok m hm
              refine ⟨q, m.2.2.1, m.2.2.2, e5, hq, okm.2.2.2.2.2, ok6.2.2.2.2.2, fun he H' sm => ?_, fun hne H' r tt sm htt hr => ?_⟩
              · have hmn : m = n := by
                  obtain ⟨m1, m2, m3, m4⟩ := m
                  obtain ⟨n1, n2, n3, n4⟩ := n
                  simp [nkey] at ek he ⊢
                  exact ⟨ek.1, ek.2, he.1, he.2⟩
                have hdv : dv = .str "again" := by
                  rcases due9 with ⟨h, _⟩ | ⟨_, h⟩ | ⟨h, _⟩
                  · exact absurd ek (h m hm)
                  · exact h
                  · exact absurd (hmn ▸ hm) h
                subst hdv
                refine ⟨_, rfl, .str "again", .str "again", .str _, .str _, s_shaped (by decide +kernel), s_shaped (by decide +kernel), _, rfl, ?_⟩
                rw [eqv_self (by rfl)]
                exact iteF (hNx _ _ ⟨_, rfl, .inr ⟨⟨.str "again", .str _, s_shaped (by decide +kernel), by simp [PyData.eqv]; decide +kernel⟩, I9.same sm⟩⟩)
              · have hdv : ∃ r9 t9, dv = .ref r9 ∧ H9 r9 = some (.tup [.str "unlike", .ref t9]) ∧ H9 t9 = some (.tup [.str n.1, .int n.2.1]) := by
                  rcases due9 with ⟨h, _⟩ | ⟨h, _⟩ | ⟨_, _, h⟩
                  · exact absurd ek (h m hm)
                  · have e := nd_key I9.nd hm h ek
                    exact absurd ⟨by rw [e], by rw [e]⟩ hne
                  · exact h
                obtain ⟨r9, t9, rfl, hr9, ht9⟩ := hdv
                have dd := u_dp (K := K) (sm _ _ hr9) (sm _ _ ht9)
                refine ⟨_, rfl, uD n, uD n, u_dp hr htt, dd, u_shaped ok6, u_shaped ok6, _, rfl, ?_⟩
                rw [eqv_self (by rfl)]
                exact iteF (hNx _ _ ⟨_, rfl, .inr ⟨⟨uD n, dd, u_shaped ok6, by simp [uD, PyData.eqv]⟩, I9.same sm⟩⟩)
        obtain ⟨dv', rfl, h10⟩ := h10
        refine seq_have (fun σ' H' => ∃ kvs us nts dv', σ' = [some (.ref a), some (.int (0 + (i : Int))), some (.ref p), some (.ref x), some (.ref N), some (.int (0 + (t : Int))), some (.ref tn), some (.ref tb), some dv', s9, s10] ∧ Inn K H0 H' p x N A kvs us nts ∧ us.length ≤ t + 1) (fun σ' H11 h11 => ?_) fun Nx hNx => ?_
        rotate_left
        · walk_at "rs"
          rcases h10 with ⟨rfl, hN10, kvs', I10⟩ | ⟨⟨d, hd, hsd, hne⟩, I10⟩
          · refine ⟨_, rfl, .str "new", .str "new", .str _, .str _, s_shaped (by decide +kernel), s_shaped (by decide +kernel), _, rfl, ?_⟩
            rw [eqv_self (by rfl)]
            refine iteT ⟨_, rfl, .inl ⟨rfl, _, .of hN10⟩, _, rfl, N, us, _, rfl, rfl, hN10, by rw [sizeLine_eq]; omega, hNx _ _ ⟨_, _, _, _, rfl, I10, by simp; omega⟩⟩
          · refine ⟨_, rfl, d, .str "new", hd, .str _, hsd, s_shaped (by decide +kernel), _, rfl, ?_⟩
            rw [hne]
            exact iteF (hNx _ _ ⟨_, _, _, _, rfl, I10, by omega⟩)
        obtain ⟨kvs, us, nts, dv', rfl, I11, hus11⟩ := h11
        refine for_in ?_
        walk_at "rs"
        refine ⟨_, _, rfl, rfl, by decide, by decide, by decide +kernel, by decide +kernel, (by show (aa 12).length ≤ sizeLine; rw [aa12]; decide), z6, fun L nL => ⟨L, rfl, ⟨_, .of upd_same⟩, ?_⟩⟩
        have sL := Same.new (o := .lst [.str "one", .str "two", .str "six", .str (mulS "a" 12), .str "z_", .str "none"]) nL
        have I12 := I11.same sL
        have lL : upd H11 L (.lst [.str "one", .str "two", .str "six", .str (mulS "a" 12), .str "z_", .str "none"]) L = some (.lst [.str "one", .str "two", .str "six", .str (mulS "a" 12), .str "z_", .str "none"]) := upd_same
        generalize upd H11 L (.lst [.str "one", .str "two", .str "six", .str (mulS "a" 12), .str "z_", .str "none"]) = H12 at *
        refine fo_list (xs := [.str "one", .str "two", .str "six", .str (mulS "a" 12), .str "z_", .str "none"]) (fun j σ H => ∃ s9 s10, σ = [some (.ref a), some (.int (0 + (i : Int))), some (.ref p), some (.ref x), some (.ref N), some (.int (0 + (t : Int))), some (.ref tn), some (.ref tb), some dv', s9, s10] ∧ Inn K H0 H p x N A kvs us nts ∧ H L = some (.lst [.str "one", .str "two", .str "six", .str (mulS "a" 12), .str "z_", .str "none"])) ⟨_, _, rfl, I12, lL⟩
          (fun j σ H hj h => ?_) (fun j y σ H13 hy h => ?_) (fun σ H h => ?_)
        · obtain ⟨_, _, _, _, h⟩ := h
          exact .of h
        · obtain ⟨s9, s10, rfl, I13, l13⟩ := h
          have hz : ∃ z : Str, y = .str z := by
            have hm := List.mem_of_getElem? hy
            have hm' : y = .str "one" ∨ y = .str "two" ∨ y = .str "six" ∨ y = .str (mulS "a" 12) ∨ y = .str "z_" ∨ y = .str "none" := by simpa using hm
            rcases hm' with rfl | rfl | rfl | rfl | rfl | rfl <;> exact ⟨_, rfl⟩
          obtain ⟨z, rfl⟩ := hz
          walk_at "rs"
          have hkl := Paired.length I13.kv
          have hul2 := Paired.length I13.nv
          have pn : Paired (NoteV H13) (kvs.map (·.2)) (nts.map fun n => (n.2.2.1, n.2.2.2)) := by
            have go : ∀ {ks : List (List Key × V)} {ms : List Nt}, Paired (KvAt H13) ks ms → Paired (NoteV H13) (ks.map (·.2)) (ms.map fun n => (n.2.2.1, n.2.2.2)) := by
              intro ks ms h
              induction h with
              | nil => exact .nil
              | cons r _ ih => exact .cons r.2 ih
            exact go I13.kv
          refine ⟨_, rfl, x, A.dx, _, rfl, I13.hs.ob, by kernel_rfl, _, rfl, x, A, z, [], kvs, _, rfl, I13.hs, I13.fl, rfl, I13.st, pn, by omega, fun H14 r sm14 hr => ?_⟩
          have I14 := I13.same sm14
          have l14 := sm14 _ _ l13
          show tLc _ _ _ _ _ _ _ _
          refine lc_in ?_
          walk_at "rs"
          refine ⟨_, rfl, N, rfl, ⟨us, .of I14.nl⟩, lc_gen [] (runs_list (.of I14.nl)) (fun _ h => nomatch h) (by omega) (fun j acc _ => acc = ((nts.take j).filter fun n => decide (n.2.2.1 = z)).map fun n => V.int n.2.2.2) (fun _ _ _ _ _ h => h) rfl (fun ms' j y acc H15 Ky Kn hj sj sw tr py hG ky kn => ?_) fun D acc H15 sD hD _ hacc _ hG => ?_⟩
          · obtain ⟨m, hm, qm, rfl, am⟩ := paired_at I14.nv py
            have am15 : NtAt H15 qm m := sj _ _ am
            walk_at "rs"
            refine ⟨rfl, _, rfl, qm, _, 2, _, rfl, rfl, .of am15, atI_nat (j := 2) rfl, _, rfl, rfl, _, rfl, ?_⟩
            rw [take_snoc hm, hG, List.filter_append, List.map_append] at ky
            rw [take_snoc hm, hG, List.filter_append, List.map_append] at kn
            by_cases he : m.2.2.1 = z
            · refine iteT' (decide_eq_true (by rw [he])) ⟨_, rfl, qm, _, 3, _, rfl, rfl, .of am15, atI_nat (j := 3) rfl, ky _ H15 (Same.refl _) ?_⟩
              simp [he]
            · refine iteF' (decide_eq_false fun e => he (V.str.inj e)) (kn H15 (Same.refl _) ?_)
              simp [he]
          · rw [List.take_of_length_le (by omega)] at hG
            refine ⟨D, (nts.filter fun n => decide (n.2.2.1 = z)).map (·.2.2.2), rfl, .of (by rw [hacc, hG, List.map_map]; rfl), z2, fun p16 n16 => ?_⟩
            have es : startsOf z (nts.map fun n => (n.2.2.1, n.2.2.2)) = ((nts.filter fun n => decide (n.2.2.1 = z)).map (·.2.2.2)).sum := by
              unfold startsOf
              rw [List.filter_map, List.map_map]
              rfl
            have s16 := Same.new (o := .tup [.int ((nts.filter fun n => decide (n.2.2.1 = z)).map (·.2.2.2)).sum, .int 0]) n16
            have hr16 := s16 _ _ (sD _ _ hr)
            rw [es] at hr16
            refine ⟨.tuple [.int ((nts.filter fun n => decide (n.2.2.1 = z)).map (·.2.2.2)).sum, .int 0], .tuple [.int ((nts.filter fun n => decide (n.2.2.1 = z)).map (·.2.2.2)).sum, .int 0], .tup (.of hr16) (.cons (.int _) (.cons (.int _) .nil)), .tup (.of upd_same) (.cons (.int _) (.cons (.int _) .nil)),
              shaped_of (by simp [PyData.canLay0, PyData.canLayAll0]) (by simp [PyData.depth, PyData.depthAll]), shaped_of (by simp [PyData.canLay0, PyData.canLayAll0]) (by simp [PyData.depth, PyData.depthAll]), _, rfl, ?_⟩
            rw [eqv_self (by rfl)]
            exact iteF ⟨_, _, rfl, I14.same (sD.trans s16), s16 _ _ (sD _ _ l14)⟩
        · obtain ⟨s9, s10, rfl, I13, l13⟩ := h
          exact ⟨_, _, _, _, _, _, _, _, _, rfl, I13, hus11⟩
      · obtain ⟨kvs, us, nts, s5, s6, s7, s8, s9, s10, rfl, I5, hus⟩ := hP
        exact ⟨_, _, _, _, _, _, _, _, _, _, rfl, I5.sm.seq hs⟩
    · obtain ⟨s1, s2, s3, s4, s5, s6, s7, s8, s9, s10, rfl, hs⟩ := hP
      exact q _
end
end Fw

set_option Elab.async false
set_option linter.all false
set_option maxRecDepth 100000
set_option maxHeartbeats 4000000
namespace Fw
open PySem PySem.Spec PyProof.Rows L2
def nm0 : List PySem.Str := ["_wall", "__name__", "FellError", "NoPlace", "NoChange", "NoFall", "NoStack", "NoRules", "NoCleaner", "Busy", "Unlike", "NotThere", "NoLoss", "Overlap", "NoStarts", "LETTERS", "PATH_SIGNS", "MOST_NAME", "MOST_PATH", "is_whole", "is_between", "is_from", "is_name", "is_path", "is_plain", "are_unlike", "MOST_WORDS_falls", "MOST_PARTS", "MOST_STACKS", "MOST_NUMBERS"]
def nm1 : List PySem.Str := ["MOST_COUNT", "MOST_BASE", "are_words", "is_part", "are_apart", "are_parts", "is_stack", "are_stacks", "Fall", "looked_at", "part_of", "MOST_ROWS_cleaning", "MOST_SIGNS", "FIGURES", "is_row", "Cleaner", "without_figures", "clean", "is_taken", "cleaned_fall", "are_kinds", "loss_fault", "overlap_in", "numbers_of", "spans_of", "between", "account_in", "where_in", "History", "row_at"]
def nm2 : List PySem.Str := ["lead", "frames_at", "stack_frames", "frames", "MOST_ROWS_rules", "MOST_WORDS_rules", "USUAL_WORDS", "NO_DEF", "is_rule", "Rules", "row_for", "row_of_many", "many_of", "uncut", "why", "word_of", "key_of", "starts_fault", "health_in", "divisor", "share_in", "House", "_law_cell_at", "_law_mixed", "_law_source", "_law_next", "_law_pick", "_law_bad", "_law_told", "_law_drawn_note"]
def names : List PySem.Str := nm0 ++ nm1 ++ nm2
abbrev R : PySem.W.OpenRow := PySem.W.OpenLaw.row PySem.Challenge.rw_fellwhere_k70_starts_told
abbrev exB : PySem.W.Frag → Bool := fun K => exOk K exX exI exP
def clsN : List Str := ["Rules", "Cleaner", "History", "House", "FellError", "NoLoss", "NotThere", "NoStarts", "Unlike"]
abbrev hk : PySem.W.Hook := hookN clsN fa fn exB
def ob (s : PySem.W.SharedT) : AlN := obsN clsN fa fn exB (HandSHeadRun.getT s)
theorem ob_eq (s : PySem.W.SharedT) : ob s = hk.obs s.abs := obsN_eq (HandSHeadRun.getT_eq s)
theorem run (w : World) : HandSHeadRun.RunEq R (PySem.W.view R.prog [101]) hk ob 30000 names w := by
  intro os
  kernel_rfl
theorem facts {P : Program} {w : World} {K : PySem.W.Frag} {h : Heap} {mg : Str → Option Value} {f : Addr} (X : K.In h) (G : h.Ns mainGlobals mg) (hfa : mg ("law" : Str) = some (.ref f)) (c : He.SaysD fa fn K) (e : exB K = true) :
    ∃ fd : FuncData, (∀ (s : Shared) (v : Value), BindsTo s fd ⟨[v], []⟩ [("_law_script", v)]) ∧ ∀ base : Heap, K.In base → base.Ns mainGlobals mg → FnOk P w K mg base CX0 6 f fd ["_law_script"] (spLaw K) := by
  have T : Tx K mg := tx_of X G c e
  have e1 := hfa.symm.trans T.g_law
  cases e1
  have b := FunD.bindsA (ps := ["_law_script"]) T.f_law fun _ _ _ _ _ _ us hl => match us, hl with | [_], _ => rfl
  exact ⟨_, fun s v => b s [v] rfl, fun base _ _ => ok_law T⟩
end Fw
open PySem PySem.W PySem.Calls PyProof.Rows
theorem PySem.Challenge.cw_fellwhere_k70_starts_told_holds : PySem.Challenge.rw_fellwhere_k70_starts_told.Holds := by
  w_on; o_law
  refine HandSHeadRun.head_any (r := OpenLaw.row PySem.Challenge.rw_fellwhere_k70_starts_told) (q := view (OpenLaw.row PySem.Challenge.rw_fellwhere_k70_starts_told).prog [101]) (H := Fw.hk) (ob := Fw.ob) (M := 30000) (loose := Fw.names) (d := HandSHeadRun.topDef (OpenLaw.row PySem.Challenge.rw_fellwhere_k70_starts_told).prog 101) (kwd := []) Fw.ob_eq
    (by kernel_rfl) (fun s => by kernel_rfl) Fw.run (by kernel_rfl) (by kernel_rfl) (by kernel_rfl) (by rfl) (by first | assumption | decide +kernel) (by decide +kernel) ⟨rfl, rfl, rfl, rfl, rfl, by decide +kernel⟩ ?hw ?hc
  case hw => w_witness2
  case hc =>
    refine L2.walk_ofE (l := PySem.Challenge.rw_fellwhere_k70_starts_told) (n := 63) (k := 6) (x := "_law_script") (CX := L2.CX0) rfl (by decide) (by kernel_rfl) ⟨rfl, by decide, by decide⟩ ?F (fun _ _ _ _ z => z)
    intro w mg fa h Y G hmg0
    obtain ⟨K, KX, c, ex⟩ := Y
    have hmg : mg ("law" : PySem.Str) = some (.ref fa) := by
      have e : (HandSHeadRun.topDef (OpenLaw.row PySem.Challenge.rw_fellwhere_k70_starts_told).prog 101).name = ("law" : PySem.Str) := by kernel_rfl
      rw [← e]
      exact hmg0
    obtain ⟨fd, hb, hF⟩ := Fw.facts (P := (PySem.Challenge.rw_fellwhere_k70_starts_told).prog) (w := w) KX G hmg c ex
    exact ⟨K, fd, Fw.spLaw K, KX, hb, fun H a ns hl _ hS => ⟨a, ns, rfl, hS, hl, fun _ => rfl⟩, hF⟩

