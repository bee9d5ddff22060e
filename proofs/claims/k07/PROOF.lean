import PyProof.Rows.All
import Wide.All
import OpenK.AllK
import Wide.FinOn
import HandS.ForExc
import HandS.ExcInit
import HandS.ExcField
import HandS.ExcIs
import HandS.IsInst
import HandS.Defaults
import HandS.ExcValue
import KE.KExcIs
import HandS.Lambda
import HandS.Nested
import HandS.List
import KE.DatumOrd
import HandS.Words
import HandS.Evl
import HandS.Deep
import KE.SortData
import KE.SortKeyHeap
import KE.KLam
import HandS.SortKw
import PyProof.Transfer
import HandS.Zip
import HandS.Walk
import HandS.Head0
import HandS.Head1
import HandS.Head2
import HandS.HeadEnd
import HandS.HeadHook1
import HandS.HeadHook2
import PySem.Challenge.RW_meetinglots_k07_main_lattice_of_families
import KE.DatumMore
import HandS.ListItems
import HandS.Star
import HandS.DictComp
import HandS.HeadHook4
import HandS.CallLocal
import HandS.ExcOwn
import HandS.TryOnly
import HandS.WordsExc
import HandS.Conv
import HandS.WordsDict
import KE.KDictList
import HandS.SetFor
import HandS.ForMost
import KE.GoesMore
import Flt.Sum
import PyProof.Walks
import KE.KItemsList
import PyProof.ZipIter
import HandS.Keys
import HandS.DictTup
import HandS.NoneIn
import KE.KStateDown
import HandS.HeadHook3
import HandS.HeadWalk
/-! text Xv1 -/
set_option Elab.async false
set_option linter.all false
set_option maxRecDepth 100000
set_option maxHeartbeats 4000000
/-! own exceptions as values: made by place and by names, fields read, isinstance -/
namespace PySem
namespace XvL
open PySem.W PySem.Calls PyProof.Rows PySem.HandSPX
section
variable {M : Model} {A : Around} {E : Value → Shared → Prop} {h : Heap} {g : Array GenState} {d : Drawn} {t : Nat} {os : OsState}
variable {nm q : Str} {C N : Addr} {bs bm bmB : List Value} {hdct : Bool} {sn : List Str} {sub : List Value} {ab : Bool} {col : Option Bool} {dd : Option Addr} {k0 k1 k2 k3 k5 : Option Value} {B newId initId : String}
theorem check_newK (F : ExcBaseFacts B newId initId bmB) (hT : ∀ X : String, bm.contains (.type X) = bmB.contains (.type X)) {rest : List Value} {kw : List (Str × Value)} {Q : Unit → Shared → Prop}
    (hC : h.get? C = some (excClassObj nm q C N bs bm hdct sn sub ab col dd k0 k1 k2 k3 k5 newId)) (hq : Q () ⟨h, g, d, t, os⟩) : wpAny M A (checkBuiltinCall newId ⟨.ref C :: rest, kw⟩) Q E ⟨h, g, d, t, os⟩ := by
  have hcont : (Value.ref C :: bm).contains (.type B) = true := by rw [List.contains_cons, hT, F.hasB, Bool.or_true]
  have hstar := F.noStar
  simp only [checkBuiltinCall, F.newKind, F.newSplit, F.newRow]
  repeat (first | refine wpAny_loadPart_at hC ?_ | (refine wpAny_isSubtype_exc hC ?_; rw [hcont]) | refine wpAny_staticBase_exc hC ?_ | refine wpAny_madeBy_exc hC ?_ | simp only [bne_self_eq_false, Bool.false_eq_true, if_false] | wp_step)
  exact hq
end
section
variable {prog : Program} {w : World} {A : Around} {E : Value → Shared → Prop} {R : Result → Shared → Prop} {h : Heap} {g : Array GenState} {d : Drawn} {t : Nat} {os : OsState}
variable {nm q : Str} {C N : Addr} {bs bm bmB : List Value} {hdct : Bool} {sn : List Str} {sub : List Value} {ab : Bool} {col : Option Bool} {dd : Option Addr} {k0 k1 k2 k3 k5 : Option Value} {B newId initId : String}
theorem newK (F : ExcBaseFacts B newId initId bmB) (hT : ∀ X : String, bm.contains (.type X) = bmB.contains (.type X)) {rest : List Value} {kw : List (Str × Value)}
    (hC : h.get? C = some (excClassObj nm q C N bs bm hdct sn sub ab col dd k0 k1 k2 k3 k5 newId))
    (hq : R (.ok (.ret (.ref (h.objs.size + 1)))) ⟨(h.push { cls := .type "tuple", data := .seq rest.toArray }).push
      { cls := .ref C, data := .fields #[.ref h.objs.size, .none, .none, .none, .bool false, .none] }, g, d, t, os⟩) (hrest : rest.length ≤ sizeLine) :
    codeAny (model prog w) A (.builtin newId ⟨.ref C :: rest, kw⟩) R ⟨h, g, d, t, os⟩ := by
  have hends := F.ends
  have hcB : (Value.ref C :: bm).contains (.type B) = true := by rw [List.contains_cons, hT, F.hasB, Bool.or_true]
  have hcA : (Value.ref C :: bm).contains (.type "AttributeError") = false := by rw [List.contains_cons, hT, F.noAttr]; rfl
  have hcN : (Value.ref C :: bm).contains (.type "NameError") = false := by rw [List.contains_cons, hT, F.noName]; rfl
  refine codeAny_builtinAt F.entry ?_
  unfold Builtin.«BaseException.__new__»
  refine wpAt_bind ?_
  show wpAt _ _ _ (stack >>= _) _ _ _
  refine wpAt_bind (wpAt_stack fun p below => wpAt_of_wpAny ?_)
  wp_walk
  refine wpAt_of_wpAny ?_
  rw [F.owner]
  repeat (first | with_reducible refine wpAny_madeHere_exc F.canon hC ?_ | with_reducible refine wpAny_loadPart_at hC ?_ | (with_reducible refine wpAny_isSubtype_exc hC ?_; first | rw [hcB] | rw [hcA] | rw [hcN]) | wp_step)
  show R _ _
  rw [Heap.size_push]
  exact hq
theorem type_callK (F : ExcBaseFacts B newId initId bmB) (hT : ∀ X : String, bm.contains (.type X) = bmB.contains (.type X)) {rest : List Value} {kw : List (Str × Value)} {fI : Addr} {Q : Fin → Shared → Prop}
    (hC : h.get? C = some (excClassObj nm q C N bs bm hdct sn sub ab col dd k0 k1 k2 k3 k5 newId))
    (hi : W.Looks (model prog w) h (typeLookup (.ref C) "__init__") (some (.ref fI))) (hb : ∀ self, W.Looks (model prog w) h (bindSpecial (.ref fI) self) (.ref fI, [self])) (hrest : rest.length ≤ sizeLine)
    (hq : codeAny (model prog w) A (.call (.ref fI) ⟨.ref (h.objs.size + 1) :: rest, kw⟩)
      (fun r s' => match r with | .ok (.ret v) => v = .none ∧ Q (.done (.ret (.ref (h.objs.size + 1)))) s' | .ok _ => False | .error e => E e s')
      ⟨(h.push (W.kdv_tup rest)).push (excO C h.objs.size), g, d, t, os⟩) :
    wpAny (model prog w) A (Builtin.«type.__call__» ⟨.ref C :: rest, kw⟩) Q E ⟨h, g, d, t, os⟩ := by
  repeat (first | with_reducible refine wpAny_loadPart_at hC ?_ | with_reducible refine wpAny_madeBy_exc hC ?_ | wp_step)
  refine codeAny_call_builtin_code (Code.quiet_builtin _ F.quiet) (check_newK F hT hC ?_)
  refine newK F hT hC ?_ hrest
  show wpAny _ _ _ _ _ _
  have k : ∀ b o, h.get? b = some o → ((h.push (W.kdv_tup rest)).push (excO C h.objs.size)).get? b = some o := fun b o e => Heap.get?_push_of_some _ (Heap.get?_push_of_some _ e)
  have hC₁ := k _ _ hC
  have hget : ((h.push (W.kdv_tup rest)).push (excO C h.objs.size)).get? (h.objs.size + 1) = some (excO C h.objs.size) := by heap_get
  have hcC : (Value.ref C :: bm).contains (.ref C) = true := by simp
  have i1 := hi.keeps k
  have b1 := (hb (.ref (h.objs.size + 1))).keeps k
  unfold isInstance
  repeat (first | with_reducible refine wpAny_loadPart_at hget ?_ | (with_reducible refine wpAny_isSubtype_exc hC₁ ?_; rw [hcC]) | wp_step)
  show wpAny _ _ (typeLookup (.ref C) _) _ _ _
  refine i1.at ?_
  refine wpAny_holding (wpAny_bind (b1.at ?_))
  refine wpAny_bind (wpAny_call (codeAny_mono hq fun r s' z => ?_))
  rcases r with e | (v | _ | _ | _) <;> first | exact z | exact z.elim | skip
  obtain ⟨rfl, z⟩ := z
  first
    | exact wpAny_pure (wpAny_pure z)
    | (wp_walk; exact z)
theorem call_ownK (F : ExcBaseFacts B newId initId bmB) (hT : ∀ X : String, bm.contains (.type X) = bmB.contains (.type X)) {rest : List Value} {kw : List (Str × Value)} {fI : Addr}
    (hC : h.get? C = some (excClassObj nm q C N bs bm hdct sn sub ab col dd k0 k1 k2 k3 k5 newId))
    (hi : W.Looks (model prog w) h (typeLookup (.ref C) "__init__") (some (.ref fI))) (hb : ∀ self, W.Looks (model prog w) h (bindSpecial (.ref fI) self) (.ref fI, [self])) (hrest : rest.length ≤ sizeLine)
    (hq : codeAny (model prog w) (A.under (.builtin "type.__call__" ⟨.ref C :: rest, kw⟩)) (.call (.ref fI) ⟨.ref (h.objs.size + 1) :: rest, kw⟩) (W.InitBack (h.objs.size + 1) R)
      ⟨(h.push (W.kdv_tup rest)).push (excO C h.objs.size), g, d, t, os⟩) :
    codeAny (model prog w) A (.call (.ref C) ⟨rest, kw⟩) R ⟨h, g, d, t, os⟩ := by
  have f1 := tc_lookup
  have f2 := tc_bind (.ref C)
  have hTy : (⟨h, g, d, t, os⟩ : Shared).TypeIs (.ref C) "type" := ⟨_, hC, rfl⟩
  refine codeAny_of_tree ?_
  show wpAny _ _ (callAny (.ref C) _) _ _ _
  repeat (any_goals (first | assumption | with_reducible refine wpAny_loadPart_at hC ?_ | wp_step))
  refine ⟨rfl, ?_⟩
  refine codeAny_call_builtin_at (Code.quiet_builtin _ (by decide +kernel)) entry_typeCall (wpAny_check_type_call_sub hC (type_callK F hT hC hi hb hrest ?_))
  refine codeAny_mono hq fun r s' z => ?_
  rcases r with e | (v | _ | _ | _) <;> exact z
end
end XvL
end PySem
/-! text Xv2 -/
set_option Elab.async false
set_option linter.all false
set_option maxRecDepth 100000
set_option maxHeartbeats 4000000
/-! own exceptions as values, over the layer -/
namespace XvC
open PySem PySem.Spec PyProof.Rows L2 PySem.HandSPX
/-! ### what the written part says of such a class -/
def shB (K : PySem.W.Frag) (C : Addr) (m : List Value) : Bool := match K.lookup C with
  | some ⟨.type t, _, .cls cd, sl⟩ => (match sl.toList with
    | [_, _, _, _, some (.builtin n), _] => decide (t = "type") && (decide (n = "ValueError.__new__") && (!cd.hasDel && (cd.hasDict && decide (cd.mro = m))))
    | _ => false)
  | _ => false
def atB (K : PySem.W.Frag) (C : Addr) : Bool := decide (PySem.W.findIn K (.ref C) "__setattr__" = some (some (.builtin "object.__setattr__"))) && (decide (PySem.W.typeIn K (.ref C) = some (.type "type")) && (PySem.W.keepIn K (.ref C) && (
  decide (PySem.W.findIn K (.ref C) "__getattribute__" = some (some (.builtin "BaseException.__getattribute__"))) && (decide (PySem.W.findIn K (.ref C) "__getattr__" = some none) && (
  decide (PySem.W.findIn K (.ref C) "__class__" = some (some (.builtin "object.__class__"))) && (decide (PySem.W.specialIn K (.builtin "object.__class__") "__get__" = some (some (.builtin "getset_descriptor.__get__"))) &&
  decide (PySem.W.takesIn K (.builtin "object.__class__") = some true)))))))
/-- the base of all; a class right beneath it -/
def exB (K : PySem.W.Frag) (L : Addr) : Bool := shB K L (.ref L :: veTail) && atB K L
def exC (K : PySem.W.Frag) (L C : Addr) : Bool := shB K C (.ref C :: .ref L :: veTail) && atB K C
def noB (K : PySem.W.Frag) (C : Addr) (f : Str) : Bool := decide (PySem.W.findIn K (.ref C) f = some none)
def initB (K : PySem.W.Frag) (C f : Addr) : Bool := decide (PySem.W.findIn K (.ref C) "__init__" = some (some (.ref f))) && decide (PySem.W.typeIn K (.ref f) = some (.type "function"))
def bareB (K : PySem.W.Frag) (C : Addr) : Bool := PySem.W.excIn K C veTail "ValueError.__new__"
theorem ba {a b : Bool} (h : (a && b) = true) : a = true ∧ b = true := Bool.and_eq_true_iff.mp h
/-- an exception class: its mro -/
structure Xc (K : PySem.W.Frag) (C : Addr) (m : List Value) : Prop where
  lk : ∃ nm q N bs sn sub ab col dd k0 k1 k2 k3 k5, K.lookup C = some (excClassObj nm q C N bs m true sn sub ab col dd k0 k1 k2 k3 k5 "ValueError.__new__")
  rf : refsVE m = true
  sa : PySem.W.findIn K (.ref C) "__setattr__" = some (some (.builtin "object.__setattr__"))
  tyC : PySem.W.typeIn K (.ref C) = some (.type "type")
  kC : PySem.W.keepIn K (.ref C) = true
  hg : PySem.W.findIn K (.ref C) "__getattribute__" = some (some (.builtin "BaseException.__getattribute__"))
  hk : PySem.W.findIn K (.ref C) "__getattr__" = some none
  ha : PySem.W.findIn K (.ref C) "__class__" = some (some (.builtin "object.__class__"))
  hn : PySem.W.specialIn K (.builtin "object.__class__") "__get__" = some (some (.builtin "getset_descriptor.__get__"))
  ht : PySem.W.takesIn K (.builtin "object.__class__") = some true
theorem sh_ok {K : PySem.W.Frag} {C : Addr} {m : List Value} (h : shB K C (.ref C :: m) = true) : ∃ nm q N bs sn sub ab col dd k0 k1 k2 k3 k5, K.lookup C = some (excClassObj nm q C N bs m true sn sub ab col dd k0 k1 k2 k3 k5 "ValueError.__new__") := by
  unfold shB at h
  split at h
  · rename_i t dd cd sl ho
    split at h
    · rename_i k0 k1 k2 k3 n k5 hs
      obtain ⟨h1, h⟩ := ba h
      obtain ⟨h2, h⟩ := ba h
      obtain ⟨h3, h⟩ := ba h
      obtain ⟨h4, h5⟩ := ba h
      obtain ⟨nm, bs, mro, ns, qn, hd, sn, sub, ab, col, del⟩ := cd
      dsimp only at h3 h4 h5
      have e1 := of_decide_eq_true h1
      have e2 := of_decide_eq_true h2
      have e5 := of_decide_eq_true h5
      have e3 : del = false := by cases del <;> first | rfl | cases h3
      have hsl : sl = #[k0, k1, k2, k3, some (.builtin n), k5] := by
        obtain ⟨l⟩ := sl
        have e : l = [k0, k1, k2, k3, some (.builtin n), k5] := hs
        rw [e]
      subst e1 e2 e3 e5 h4 hsl
      exact ⟨_, _, _, _, _, _, _, _, _, _, _, _, _, _, ho⟩
    · cases h
  · cases h
theorem xc_of {K : PySem.W.Frag} {C : Addr} {m : List Value} (rf : refsVE m = true) (h : (shB K C (.ref C :: m) && atB K C) = true) : Xc K C m := by
  obtain ⟨h1, h⟩ := ba h
  obtain ⟨a1, h⟩ := ba h
  obtain ⟨a2, h⟩ := ba h
  obtain ⟨a3, h⟩ := ba h
  obtain ⟨a4, h⟩ := ba h
  obtain ⟨a5, h⟩ := ba h
  obtain ⟨a6, h⟩ := ba h
  obtain ⟨a7, a8⟩ := ba h
  exact ⟨sh_ok h1, rf, of_decide_eq_true a1, of_decide_eq_true a2, a3, of_decide_eq_true a4, of_decide_eq_true a5, of_decide_eq_true a6, of_decide_eq_true a7, of_decide_eq_true a8⟩
section
variable {K : PySem.W.Frag} {C : Addr} {m : List Value}
theorem Xc.cls (T : Xc K C m) : ∃ cd, PySem.W.clsIn K C = some cd ∧ cd.mro = .ref C :: m ∧ cd.hasDict = true := by
  obtain ⟨nm, q, N, bs, sn, sub, ab, col, dd, k0, k1, k2, k3, k5, hC⟩ := T.lk
  exact ⟨{ name := nm, bases := bs, mro := .ref C :: m, ns := N, qualname := q, hasDict := true, slotNames := sn, subclasses := sub, abstract := ab, collection := col, hasDel := false }, by unfold PySem.W.clsIn; rw [hC] <;> rfl, rfl, rfl⟩
theorem Xc.sub (T : Xc K C m) (b : Value) : PySem.W.subIn K (.ref C) b = some ((Value.ref C :: m).contains b) := by
  obtain ⟨cd, h1, h2, _⟩ := T.cls
  show PySem.W.mroIn K C b = _
  unfold PySem.W.mroIn
  rw [h1, Option.bind_some, h2, if_neg (show ¬ (Value.ref C :: m).isEmpty = true from fun z => nomatch z)]
theorem Xc.subT (T : Xc K C m) (n : String) : PySem.W.subIn K (.ref C) (.type n) = some (veTail.contains (.type n)) := by
  rw [T.sub, List.contains_cons, refsVE_contains n m T.rf]
  rfl
theorem Xc.exC (T : Xc K C m) : PySem.W.subIn K (.ref C) (.type "BaseException") = some true := by rw [T.subT]; rfl
theorem Xc.hasD (T : Xc K C m) : PySem.W.hasDictIn K C = true := by
  obtain ⟨cd, h1, _, h3⟩ := T.cls
  unfold PySem.W.hasDictIn
  rw [h1]
  exact h3
theorem Xc.hm (T : Xc K C m) : PySem.W.mroIn K C (.type "object") = some true := by
  have e := T.subT "object"
  rw [show veTail.contains (Value.type "object") = true by decide +kernel] at e
  exact e
theorem Xc.oex (T : Xc K C m) : OexC K C := by
  obtain ⟨nm, q, N, bs, sn, sub, ab, col, dd, k0, k1, k2, k3, k5, hC⟩ := T.lk
  exact ⟨⟨nm, q, N, bs, m, sn, sub, ab, col, dd, k0, k1, k2, k3, k5, hC, T.rf⟩, T.sa, T.exC, T.tyC, T.kC⟩
end
/-! ### reading the class: isinstance -/
end XvC
namespace PySem.W
open Lean Elab Tactic Meta PySem PySem.Calls PyProof.Rows PyProof.V PySem.Spec
section
variable {prog : Program} {w : World} {A : Around} {E : Value → Shared → Prop} {s : Shared} {K : Frag} {D x : Addr} {ox : Obj} {od : Option Obj}
theorem xv_kit {gt : Option Value} (T : ∃ m, XvC.Xc K D m) : KitX K (.ref x) (.ref D) (fun h => ∃ ox od, InstAt h x ox D od) where
  ty := fun _ _ _ ⟨_, _, I⟩ => I.type
  it := fun _ _ X _ => by
    obtain ⟨m, T⟩ := T
    obtain ⟨nm, q, N, bs, sn, sub, ab, col, dd, k0, k1, k2, k3, k5, ho⟩ := T.lk
    intro A' Q' E' s' k q
    unfold isType loadHead
    exact wpAny_bind (wpAny_loadPart (k _ _ (X _ _ ho)) (wpAny_pure q))
  ne := fun h tp dd its n sl X htp => by
    obtain ⟨m, T⟩ := T
    obtain ⟨nm, q, N, bs, sn, sub, ab, col, dd, k0, k1, k2, k3, k5, ho⟩ := T.lk
    refine Bool.eq_false_iff.mpr fun q => ?_
    have e : D = tp := Value.ref.inj (beq_iff_eq.mp q)
    subst e
    have z := congrArg Obj.data (Option.some.inj ((X _ _ ho).symm.trans htp))
    cases z
  ca := fun {prog w A E Q s} X ⟨ox, od, I⟩ k => by
    obtain ⟨m, T⟩ := T
    obtain ⟨cd, hc, _⟩ := T.cls
    have hf : findObj K D od "__class__" = some (.bind (.builtin "getset_descriptor.__get__") (.builtin "object.__class__")) := findObj_dataE (by rw [hc]; rfl) T.ha T.hn T.ht
    exact kx_classE X I T.hg T.hk T.exC hf T.hm k
end
end PySem.W
/-! text Xv3 -/
set_option Elab.async false
set_option linter.all false
set_option maxRecDepth 100000
set_option maxHeartbeats 4000000
/-! own exceptions as values: the rules -/
namespace XvC
open PySem PySem.Spec PyProof.Rows L2 PySem.HandSPX
/-- an exception object of the class at C, its fields -/
def ExcAt (H : Hp) (a C : Addr) (fs : List (Str × V)) : Prop := (fs = [] ∧ H a = some (exo a C none)) ∨ ∃ d, H a = some (exo a C (some d)) ∧ H d = some (exd d fs)
theorem ExcAt.ext {H H' : Hp} {a C : Addr} {fs : List (Str × V)} (h : ExcAt H a C fs) (e : ∀ b o, H b = some o → H' b = some o) : ExcAt H' a C fs := by
  rcases h with ⟨h1, h2⟩ | ⟨d, h1, h2⟩
  · exact .inl ⟨h1, e _ _ h2⟩
  · exact .inr ⟨d, e _ _ h1, e _ _ h2⟩
section
variable {X : Cx} {pins : List (Addr × Obj)} {σ : L2.St} {H : Hp} {s : Shared} {a C : Addr} {fs : List (Str × V)}
theorem ExcAt.inst (h : ExcAt H a C fs) (I : Inv X pins σ H s) : ∃ ox od, PySem.W.InstAt s.heap a ox C od ∧ ∀ f v, fs.lookup f = some v → ∃ oD u, od = some oD ∧ RelV v u ∧ PySem.W.lookIn f oD = some (some u) := by
  rcases h with ⟨rfl, h1⟩ | ⟨d, h1, h2⟩
  · obtain ⟨t, ho⟩ := exo_at I.hok h1
    exact ⟨_, none, ⟨ho, rfl, rfl, trivial⟩, fun f v e => by cases e⟩
  · obtain ⟨t, ho⟩ := exo_at I.hok h1
    obtain ⟨mA, hns, hr⟩ := exd_at I.hok h2
    obtain ⟨od, hod, hl⟩ := lookIn_ns hns
    refine ⟨_, some od, ⟨ho, rfl, rfl, hod⟩, fun f v e => ?_⟩
    obtain ⟨u, hu, ru⟩ := RelO.some_of (v := v) (o := mA f) (by rw [← e]; exact hr f)
    exact ⟨od, u, rfl, ru, by rw [hl, hu]⟩
end
/-! ### e.f -/
def tXfld (K : PySem.W.Frag) (n : Str) (te : TE) : TE := fun σ H Q => te σ H fun x H1 => ∃ a C fs v, x = .ref a ∧ ExcAt H1 a C fs ∧ (∃ m, Xc K C m) ∧ PySem.W.findIn K (.ref C) n = some none ∧ fs.lookup n = some v ∧ Q v H1
theorem pe_xfld {X : Cx} {e : Expr} {te : TE} {pos : Pos} {n : Str} (he : PE X e te) (hb : attributeBase e n X.env (eval e X.env) = eval e X.env := by rfl) : PE X (.Attribute e n pos) (tXfld X.K n te) := by
  refine ⟨fun pins s σ H Q I h => ?_⟩
  refine attr_of hb (thn (he.run pins s σ H _ I h) fun u s1 hh => ?_)
  obtain ⟨x, H1, I1, rx, a, C, fs, v, ex, ha, ⟨m, T⟩, hno, l, q⟩ := hh
  subst ex
  obtain rfl : u = Value.ref a := rx
  obtain ⟨ox, od, J, hl⟩ := ha.inst I1
  obtain ⟨oD, u, rfl, ru, hu⟩ := hl n v l
  exact HandSPX.exc_get I1.kIn J T.hg T.hk T.exC (PySem.W.findObj_own T.hasD hno rfl hu) (handed_of ru) ⟨v, H1, I1.tok _, ru, q⟩
/-! ### isinstance(e, C) -/
def rIsX (K : PySem.W.Frag) : List V → Hp → VK → Prop := fun xs H Q => ∃ (a C : Addr) (fs : List (Str × V)) (c : V) (cv : Value) (b : Bool), xs = [.ref a, c] ∧ ExcAt H a C fs ∧ (∃ m, Xc K C m) ∧ ClsV c cv ∧ PySem.W.kitOne K (.ref C) cv = some b ∧ Q (.bl b) H
theorem call_isX {X : Cx} : CallR X (.builtin "isinstance") (rIsX X.K) := by
  intro pins s σ H xs us Q I r h
  obtain ⟨a, C, fs, c, cv, b, rfl, ha, T, k, e, q⟩ := h
  obtain ⟨u1, u2, rfl, r1, r2⟩ := vals2 r
  cases (show u1 = Value.ref a from r1)
  have e2 := k.eq r2
  subst e2
  obtain ⟨ox, od, J, _⟩ := ha.inst I
  exact PySem.W.kia_one (PySem.W.xv_kit (gt := none) T) I.kIn ⟨ox, od, J⟩ e (fun z => nomatch z) fun tk => ⟨.bl b, H, I.tok tk, rfl, q⟩
/-! ### C(..), C's own __init__ a def that stores its parameters -/
/-- what __init__ does: the fields fns get the arguments -/
def spInit (C : Addr) (fns : List Str) : Sp := fun vs H Q _ => ∃ a us, vs = .ref a :: us ∧ us.length = fns.length ∧ H a = some (exo a C none) ∧
  ∀ d H', H d = none → d ≠ a → H' d = some (exd d (fns.zip us).reverse) → H' a = some (exo a C (some d)) → (∀ b, b ≠ d → b ≠ a → H' b = H b) → Q .non H'
/-- C(e, .., k = v, ..): us the values by the parameters' order -/
def tMkX (C : Addr) (fns : List Str) (n : Nat) (m : Nat) (g : List V → List V → List V) (t tk : TA) : TE := fun σ H Q => t σ H fun vs H1 => tk σ H1 fun zs H2 => vs.length = n ∧ zs.length = m ∧
  ∀ a d H3, H2 a = none → H2 d = none → d ≠ a → H3 d = some (exd d (fns.zip (g vs zs)).reverse) → H3 a = some (exo a C (some d)) → (∀ b, b ≠ d → b ≠ a → H3 b = H2 b) → Q (.ref a) H3
section
variable {X : Cx} {CX : CXT} {k n : Nat} {fI C : Addr} {fd : FuncData} {ps ks fns : List Str} {x : Str} {p pos : Pos} {e : Expr} {es : List Expr} {kws : List Keyword} {t tk : TA} {m : List Value}
theorem run_mkX {pins : List (Addr × Obj)} {σ : L2.St} {H : Hp} {s : Shared} {Q : VK} {us as : List Value} {ys : List V} {kw : List (Str × Value)} (T : Xc X.K C m) (iC : PySem.W.findIn X.K (.ref C) "__init__" = some (some (.ref fI))) (tI : PySem.W.typeIn X.K (.ref fI) = some (.type "function"))
    (F1 : FnOk X.prog X.w X.K X.mg X.base CX k fI fd ps (spInit C fns)) (hr : Room (k + 1) X.A) (hx : Passes CX X (fun _ _ _ => False)) (I : Inv X pins σ H s) (hus : us.length ≤ sizeLine) (r : Vals ys as) (hl : ys.length = fns.length)
    (hb : ∀ (s : Shared) (v : Value), BindsTo s fd ⟨v :: us, kw⟩ (ps.zip (v :: as)))
    (h : ∀ a d H3, H a = none → H d = none → d ≠ a → H3 d = some (exd d (fns.zip ys).reverse) → H3 a = some (exo a C (some d)) → (∀ b, b ≠ d → b ≠ a → H3 b = H b) → Q (.ref a) H3) :
    wpAny (model X.prog X.w) X.A (call (.ref C) us kw) (EP X pins σ Q) X.xe s := by
  obtain ⟨nm, q, N, bs, sn, sub, ab, col, dd, k0, k1, k2, k3, k5, hC⟩ := T.lk
  obtain ⟨hp, g, dr, tk, os⟩ := s
  have hsz : hp.objs.size ≤ hp.objs.size + 1 := Nat.le_succ _
  have hn : H (hp.objs.size + 1) = none := I.hok.fresh hsz
  have kk : ∀ b o, hp.get? b = some o → ((hp.push (PySem.W.kdv_tup us)).push (PySem.HandSPX.excO C hp.objs.size)).get? b = some o := fun b o e => Heap.get?_push_of_some _ (Heap.get?_push_of_some _ e)
  have hget : ((hp.push (PySem.W.kdv_tup us)).push (PySem.HandSPX.excO C hp.objs.size)).get? (hp.objs.size + 1) = some (PySem.HandSPX.excO C hp.objs.size) := by heap_get
  have I2 : Inv X pins σ (upd H (hp.objs.size + 1) (exo (hp.objs.size + 1) C none)) ⟨(hp.push (PySem.W.kdv_tup us)).push (PySem.HandSPX.excO C hp.objs.size), g, dr, tk, os⟩ :=
    I.laid (t' := tk) (a := hp.objs.size + 1) (o := exo (hp.objs.size + 1) C none) (h' := (hp.push (PySem.W.kdv_tup us)).push (PySem.HandSPX.excO C hp.objs.size)) kk hsz (exo_ok hget)
  have r2 : Vals (V.ref (hp.objs.size + 1) :: ys) (Value.ref (hp.objs.size + 1) :: as) := .cons rfl r
  have hq : spInit C fns (V.ref (hp.objs.size + 1) :: ys) (upd H (hp.objs.size + 1) (exo (hp.objs.size + 1) C none)) (fun v H2 => v = .non ∧ Q (.ref (hp.objs.size + 1)) H2) (fun _ _ _ => False) := by
    refine ⟨_, ys, rfl, hl, upd_same, fun d H' hd hda h1 h2 h3 => ⟨rfl, h _ d H' hn ?_ hda h1 h2 fun b hb hb2 => ?_⟩⟩
    · rw [upd_ne hda] at hd
      exact hd
    · rw [h3 b hb hb2, upd_ne hb2]
  refine wpAny_call (PySem.XvL.call_ownK F.excBase_ValueError (fun Y => PySem.HandSPX.refsVE_contains Y m T.rf) (I.kIn _ _ hC) (PySem.W.looks_findIn I.kIn iC) (fun self => PySem.W.bind_fn I.kIn self tI) hus
    (codeAny_mono (F1.run _ X.stack _ _ ⟨Value.ref (hp.objs.size + 1) :: us, kw⟩ (Value.ref (hp.objs.size + 1) :: as) _ _ (fun _ _ _ => False) (hr.make C us kw) (I2.env0.make C us kw) (hb _ _) r2 hq) fun r s' hq' => ?_))
  cases r with
  | error er => exact hx pins σ _ _ er s' I2 hq'
  | ok fl =>
    cases fl with
    | ret u =>
      obtain ⟨v, H', I3, rv, ev, q3⟩ := I2.after hq'
      subst ev
      exact ⟨rv, ⟨V.ref (hp.objs.size + 1), H', I3, rfl, q3⟩⟩
    | next => exact False.elim hq'
    | brk => exact False.elim hq'
    | cont => exact False.elim hq'
/-- C(e, ..) -/
theorem pe_mkX (T : Xc X.K C m) (iC : PySem.W.findIn X.K (.ref C) "__init__" = some (some (.ref fI))) (tI : PySem.W.typeIn X.K (.ref fI) = some (.type "function"))
    (F1 : FnOk X.prog X.w X.K X.mg X.base CX k fI fd ps (spInit C fns)) (hr : Room (k + 1) X.A) (hx : Passes CX X (fun _ _ _ => False)) (hg : Gl X x) (hm : X.mg x = some (.ref C)) (ha : PA X (e :: es) t)
    (hb : ∀ (s : Shared) (v : Value) (us : List Value), us.length = fns.length → BindsTo s fd ⟨v :: us, []⟩ (ps.zip (v :: us))) (hn : fns.length ≤ 1000)
    (hdb : (x == ("__debug__" : Str)) = false := by decide) (he : starEach (e :: es) X.env = (false, eval e X.env) :: starEach es X.env := by rfl) (hpl : (backTo pos (starEach es X.env)).any (·.1) = false := by rfl) :
    PE X (.Call (.Name x p) (e :: es) [] pos) (tMkX C fns fns.length 0 (fun vs _ => vs) t tNil) := by
  refine ⟨fun pins s σ H Q I h => ?_⟩
  refine wpAny_Call_Name_kw (ld_glob I hg hm ?_ hdb)
  refine PySem.W.callWith_K (h₀ := X.base) I.ok.mod.kin T.kC (thn (ha.run pos pins s σ H _ I h) fun us s1 ⟨vs, H1, I1, r1, hl, _, q⟩ => ⟨I1.kIn, ?_⟩) he hpl
  show wpAny _ _ (call (.ref C) us) _ _ _
  have e1 := r1.length
  exact run_mkX T iC tI F1 hr hx I1 (by rw [sizeLine_eq]; omega) r1 hl (fun s v => hb s v us (by omega)) q
/-- C(k = v, ..) -/
theorem pe_mkXK {g : {α : Type} → List α → List α} (T : Xc X.K C m) (iC : PySem.W.findIn X.K (.ref C) "__init__" = some (some (.ref fI))) (tI : PySem.W.typeIn X.K (.ref fI) = some (.type "function"))
    (F1 : FnOk X.prog X.w X.K X.mg X.base CX k fI fd ps (spInit C fns)) (hr : Room (k + 1) X.A) (hx : Passes CX X (fun _ _ _ => False)) (hg : Gl X x) (hm : X.mg x = some (.ref C)) (hkw : PK X kws tk)
    (hrel : ∀ {zs : List V} {ws : List Value}, zs.length = ks.length → Vals zs ws → Vals (g zs) (g ws) ∧ (g zs).length = fns.length)
    (hb : ∀ (s : Shared) (v : Value) (ws : List Value), ws.length = ks.length → BindsTo s fd ⟨[v], ks.zip ws⟩ (ps.zip (v :: g ws)))
    (hall : (backToKw pos (keywordEach kws X.env)).all (·.1.isSome) = true := by rfl) (hks : (backToKw pos (keywordEach kws X.env)).filterMap (·.1) = ks := by rfl) (hdb : (x == ("__debug__" : Str)) = false := by decide)
    (hpl : ((backTo pos (starEach [] X.env)).any (·.1) || (backToKw pos (keywordEach kws X.env)).any (·.1.isNone)) = false := by rfl) :
    PE X (.Call (.Name x p) [] kws pos) (tMkX C fns 0 ks.length (fun _ zs => g zs) tNil tk) := by
  refine ⟨fun pins s σ H Q I h => ?_⟩
  refine wpAny_Call_Name_kw (ld_glob I hg hm ?_ hdb)
  refine PySem.W.callWith_KW0 (h₀ := X.base) I.ok.mod.kin T.kC hall ?_ hpl
  refine thn (hkw.run pos pins s σ H _ I h) fun ws s2 ⟨zs, H2, I2, rz, _, l2, q2⟩ => ⟨I2.kIn, ?_⟩
  rw [hks]
  have e1 := rz.length
  obtain ⟨r2, hl2⟩ := hrel l2 rz
  exact run_mkX T iC tI F1 hr hx I2 (us := []) (by rw [sizeLine_eq]; simp) r2 hl2 (fun s v => hb s v ws (by omega)) q2
/-- C(), no __init__ of its own -/
theorem pe_mkX0 {bmB : List Value} (T : Xc X.K C m) (q : PySem.W.excIn X.K C veTail "ValueError.__new__" = true) (hg : Gl X x) (hm : X.mg x = some (.ref C)) (hdb : (x == ("__debug__" : Str)) = false := by decide) :
    PE X (.Call (.Name x p) [] [] pos) (fun _ H Q => ∀ a, H a = none → Q (.ref a) (upd H a (exo a C none))) := by
  refine ⟨fun pins s σ H Q I h => ?_⟩
  refine wpAny_Call_Name_kw (ld_glob I hg hm ?_ hdb)
  refine PySem.W.callWith_K0 I.kIn T.kC ?_
  show wpAny _ _ (call (.ref C) []) _ _ _
  obtain ⟨bm, N, nm, qn, bs, hdct, sn, sub, ab, col, dd, k0, k1, k2, k3, k5, mN, hC, hN, hni, OT⟩ := exc_obj I.kIn q
  refine wpAny_call_exc_subT F.excBase_ValueError OT hC hN hni (fun h' a hm => ?_) (by show 0 ≤ sizeLine; omega)
  have hn : H a = none := I.hok.gone hm.new
  obtain ⟨t, ht, _, _⟩ := hm.there
  exact ⟨.ref a, upd H a (exo a C none), I.laidN hm.keeps hm.new hn (exo_ok ht), rfl, h a hn⟩
end
end XvC
/-! text Xv4 -/
set_option Elab.async false
set_option linter.all false
set_option maxRecDepth 100000
set_option maxHeartbeats 4000000
/-! lambdas with parameters as values: made, kept, called -/
namespace LmV
open PySem PySem.Spec PyProof.Rows L2 LamX NdefX
structure LF where
  qual : Str
  params : Arguments
  body : Expr
  scope : Scope
  cl : List (Str × Addr)
  c : Addr
/-- the object at f is the lambda F -/
def LamO (f : Addr) (F : LF) : HO := .ext fun h => ∃ pm ctv : Value, h.get? f = some (PySem.W.kla_obj "<lambda>" F.qual F.params F.body F.scope F.cl pm F.c ctv)
theorem lamO_at {P : Program} {w : World} {H : Hp} {h : Heap} {f : Addr} {F : LF} (hok : HOk P w H h) (e : H f = some (LamO f F)) : ∃ pm ctv : Value, h.get? f = some (PySem.W.kla_obj "<lambda>" F.qual F.params F.body F.scope F.cl pm F.c ctv) := by
  obtain ⟨z, _, _⟩ := hok f _ e
  exact z
theorem lamO_ne {f : Addr} {F : LF} (ps : Array Value) : LamO f F ≠ .tbl ps := fun z => by
  unfold LamO at z
  cases z
section
variable {X : Cx} {pins : List (Addr × Obj)} {σ : L2.St} {H : Hp} {s : Shared}
theorem inv_lam {F : LF} {t' : Nat} {pm ctv : Value} (I : Inv X pins σ H s) :
    Inv X pins σ (upd H s.heap.objs.size (LamO s.heap.objs.size F)) { s with heap := s.heap.push (PySem.W.kla_obj "<lambda>" F.qual F.params F.body F.scope F.cl pm F.c ctv), toks := t' } := by
  refine I.laid (a := s.heap.objs.size) (fun b u e => Heap.get?_push_of_some _ e) (Nat.le_refl _) ?_
  have e : (s.heap.push (PySem.W.kla_obj "<lambda>" F.qual F.params F.body F.scope F.cl pm F.c ctv)).get? s.heap.objs.size = some (PySem.W.kla_obj "<lambda>" F.qual F.params F.body F.scope F.cl pm F.c ctv) := Heap.get?_push_size _ rfl
  exact ⟨⟨pm, ctv, e⟩, ⟨_, e⟩, fun h1 h2 ⟨p, t, z⟩ st => ⟨p, t, st _ z⟩⟩
theorem lam_makeT {T : List (Addr × Str)} {c P : Addr} {params : Arguments} {body : Expr} {scope : Scope} {pos : Pos} {E : Value → Shared → Prop} {Q : Value → Shared → Prop} (I : Inv X pins σ H s) (TB : TabB X.base X.mg c P) (hcode : X.env.code = .ref c)
    (hm : (P, X.env.qual ++ "<lambda>") ∈ T) (hu : ∀ p ∈ T, p.1 = P → p.2 = X.env.qual ++ "<lambda>") (hT : Tabs T H) (hdef : defaultsOf params X.env = ([], [])) (hfree : ∀ y ∈ scope.names, y.2 = .free → ∃ c, X.env.cells.lookup y.1 = some c)
    (h : ∀ (f c' : Addr) (H1 : Hp) (s' : Shared), Inv X pins σ H1 s' → ExtN H H1 → (∀ b, H1 b = none → H b = none) → Tabs T H1 → H f = none → H1 f = some (LamO f ⟨X.env.qual ++ "<lambda>", params, body, scope, cloFrom X.env.cells scope.names [], c'⟩) → H1 c' = some (CodeO c' (X.env.qual ++ "<lambda>")) → Q (.ref f) s') :
    wpAny (model X.prog X.w) X.A (eval (.Lambda params body scope pos) X.env) Q E s := by
  obtain ⟨ps, hP, ht, ha⟩ := hT _ hm
  refine PySem.W.kla_eval hdef ?_
  have bP : s.heap.BuiltinsAt X.mg P := TB.bm.keeps I.bk
  have hP' : s.heap.get? P = some { cls := .none, data := .fields ps } := I.hok P _ hP
  cases hc : codeAmong pos ps.toList with
  | none =>
    refine PySem.W.kla_makeFunction (mg := X.mg) (c := c) (P := P) (ps := ps) (closure_ok hfree) I.ok.glob (I.mod.glob.keeps I.bk) hcode (TB.code.keeps I.bk) hP' ht hc TB.gP bP fun c' ctv h' tk hx hge hlt hrec htb => ?_
    obtain ⟨c2, oc, vs, t, e2, hoc, hd, hv⟩ := hrec
    cases e2
    have nC : H c' = none := I.hok.fresh hge
    have I1 := inv_table (t' := tk) (more := #[rawInt pos.line, rawInt pos.col, .ref c']) (h' := h') I hP (fun b o hb e => hx b o hb e) htb hge ⟨oc, vs, t, hoc, hd, hv⟩
    have hE : ExtN H (upd (upd H P (.tbl (ps ++ #[rawInt pos.line, rawInt pos.col, .ref c']))) c' (CodeO c' (X.env.qual ++ "<lambda>"))) := fun b o e n => by
      rw [upd_ne (ne_of_none e nC), upd_ne (fun z => n ps (Option.some.inj (e.symm.trans (by rw [z]; exact hP))))]
      exact e
    have eL : (ps ++ #[rawInt pos.line, rawInt pos.col, .ref c']).toList = ps.toList ++ [rawInt pos.line, rawInt pos.col, .ref c'] := by simp
    have T1 : Tabs T (upd (upd H P (.tbl (ps ++ #[rawInt pos.line, rawInt pos.col, .ref c']))) c' (CodeO c' (X.env.qual ++ "<lambda>"))) := fun p hp => by
      by_cases hb : p.1 = P
      · rw [hu p hp hb, hb]
        refine ⟨_, by rw [upd_ne (ne_of_none hP nC), upd_same], by rw [eL]; exact PySem.TriplesOk_snoc _ _ _ _ ht, fun p' cv hcv => ?_⟩
        rw [eL] at hcv
        rcases among_app _ ht hcv with z | z
        · obtain ⟨c0, e1, e2⟩ := ha p' cv z
          exact ⟨c0, e1, hE _ _ e2 codeO_ne⟩
        · exact ⟨c', z, upd_same⟩
      · obtain ⟨ps', a1, a2, a3⟩ := hT p hp
        refine ⟨ps', by rw [upd_ne (ne_of_none a1 nC), upd_ne hb]; exact a1, a2, fun p' cv hcv => ?_⟩
        obtain ⟨c0, e1, e2⟩ := a3 p' cv hcv
        exact ⟨c0, e1, hE _ _ e2 codeO_ne⟩
    have nF := I1.hok.fresh (Nat.le_refl _)
    have I2 := inv_lam (F := ⟨X.env.qual ++ "<lambda>", params, body, scope, cloFrom X.env.cells scope.names [], c'⟩) (t' := tk) (pm := (X.mg "__name__").getD .none) (ctv := ctv) I1
    refine h h'.objs.size c' _ _ I2 (fun b o e n => ?_) (fun b e => upd_none (upd_none (upd_none e))) (T1.ext fun b o e => ?_) (I.hok.fresh (Nat.le_trans hge (Nat.le_of_lt hlt))) upd_same ?_
    · have e1 := hE b o e n
      exact (upd_ne (ne_of_none e1 nF)).trans e1
    · exact (upd_ne (ne_of_none e nF)).trans e
    · exact (upd_ne (Nat.ne_of_lt hlt)).trans upd_same
  | some cv =>
    obtain ⟨c', e, hco⟩ := ha pos cv hc
    subst e
    refine PySem.W.kla_makeFunctionHit (mg := X.mg) (c := c) (P := P) (ps := ps) (closure_ok hfree) I.ok.glob (I.mod.glob.keeps I.bk) hcode (TB.code.keeps I.bk) hP' ht hc bP fun ctv h' tk hx hsz => ?_
    have I1 : Inv X pins σ H { s with heap := h', toks := tk } := I.kept hx
    have nF : H h'.objs.size = none := I1.hok.fresh (Nat.le_refl _)
    have I2 := inv_lam (F := ⟨X.env.qual ++ "<lambda>", params, body, scope, cloFrom X.env.cells scope.names [], c'⟩) (t' := tk) (pm := (X.mg "__name__").getD .none) (ctv := ctv) I1
    refine h h'.objs.size c' _ _ I2 (fun b o e n => ?_) (fun b e => upd_none e) (hT.ext fun b o e => ?_) nF upd_same ?_
    · exact (upd_ne (ne_of_none e nF)).trans e
    · exact (upd_ne (ne_of_none e nF)).trans e
    · exact (upd_ne (ne_of_none hco nF)).trans hco
end
/-! ### the expression -/
def tLamV (T : List (Addr × Str)) (mk : Addr → LF) : TE := fun σ H Q => Tabs T H ∧ ∀ (f c' : Addr) (H1 : Hp), ExtN H H1 → (∀ b, H1 b = none → H b = none) → Tabs T H1 → H f = none → H1 f = some (LamO f (mk c')) → H1 c' = some (CodeO c' (mk c').qual) → Q (.ref f) H1
section
variable {X : Cx}
theorem pe_lamV {T : List (Addr × Str)} {c P : Addr} {params : Arguments} {body : Expr} {scope : Scope} {pos : Pos} {q : Str} (TB : TabB X.base X.mg c P) (hcode : X.env.code = .ref c) (hq : X.env.qual ++ "<lambda>" = q)
    (hm : (P, q) ∈ T) (hu : ∀ p ∈ T, p.1 = P → p.2 = q) (hdef : defaultsOf params X.env = ([], [])) (hfree : ∀ y ∈ scope.names, y.2 ≠ .free) :
    PE X (.Lambda params body scope pos) (tLamV T fun c' => ⟨q, params, body, scope, [], c'⟩) := by
  subst hq
  refine ⟨fun pins s σ H Q I h => ?_⟩
  obtain ⟨hT, h⟩ := h
  have e : cloFrom X.env.cells scope.names [] = [] := by
    cases hcl : cloFrom X.env.cells scope.names [] with
    | nil => rfl
    | cons p r =>
      obtain ⟨y, c⟩ := p
      have hmem : (y, c) ∈ cloFrom X.env.cells scope.names [] := by rw [hcl]; exact List.mem_cons_self
      rcases cloFrom_mem hmem with z | ⟨z, _⟩
      · cases z
      · exact absurd rfl (hfree _ z)
  refine lam_makeT I TB hcode hm hu hT hdef (fun y hy z => absurd z (hfree y hy)) fun f c' H1 s' I1 eN nn T1 f0 f1 c1 => ?_
  rw [e] at f1
  exact ⟨.ref f, H1, I1, rfl, h f c' H1 eN nn T1 f0 f1 c1⟩
end
/-! ### its call -/
/-- what the lambda F promises (no captured names) -/
structure LOk (P : Program) (w : World) (K : PySem.W.Frag) (mg : Str → Option Value) (base : Heap) (CX : CXT) (k : Nat) (F : LF) (ps : List Str) (sp : Sp) : Prop where
  len : ∀ vs H Q E, sp vs H Q E → vs.length = ps.length
  run : ∀ (f : Addr) (A : Around) (outer : List Env) (s : Shared) (H : Hp) (us : List Value) (vs : List V) (Q : VK) (E : XK), Room k A → Env0 P w K mg base A outer s H → H f = some (LamO f F) → H F.c = some (CodeO F.c F.qual) →
    Vals vs us → sp vs H Q E → codeAny (model P w) A (.call (.ref f) ⟨us, []⟩) (CR CX outer P w H s Q E) s
def LF.nf (F : LF) : NF := ⟨"<lambda>", F.qual, F.params, [], F.scope, F.cl, F.c⟩
section
variable {CX : CXT} {P : Program} {w : World} {K : PySem.W.Frag} {mg : Str → Option Value} {base : Heap} {N ps : List Str} {F : LF} {k : Nat} {sp : Sp}
theorem lok_of (S : NScope N ps [] F.scope) (hcl : F.cl = []) (hb : ∀ (pm ctv : Value) (us : List Value), us.length = ps.length → bindArgs (PySem.W.kla_fn "<lambda>" F.qual F.params F.body F.scope F.cl pm (.ref F.c) ctv) ⟨us, []⟩ = pure (ps.zip us)) (len : ∀ vs H Q E, sp vs H Q E → vs.length = ps.length)
    (hbody : ∀ (f : Addr) (A : Around) (outer : List Env) (s : Shared) (H : Hp) (vs : List V) (Q : VK) (E : XK), Room k (A.deeper (envF F.nf f s.heap.objs.size)) → sp vs H Q E →
      ∃ t, PE (ncx CX P w K mg base N F.nf f A outer s H E) F.body t ∧ t (startF N vs []) H Q) :
    LOk P w K mg base CX (k + 1) F ps sp := by
  refine ⟨len, fun f A outer s H us vs Q E hr e0 hf hc r hsp => ?_⟩
  have hl := len _ _ _ _ hsp
  have lim : s.heap.NoLimit := e0.mod.nolimit.keeps fun b o e => (e0.bs b o e).1
  obtain ⟨pm, ctv, ho⟩ := lamO_at e0.hok hf
  refine PySem.W.kla_callFunE hr.depth ho rfl S.co S.gen rfl (codeO_at e0.hok hc) ?_
  rw [hb pm ctv us (by rw [← r.length]; exact hl)]
  refine wpAny_pure (wpAny_newFunctionEnv S.nocell (fun ⟨n, _⟩ hy => S.par n (List.of_mem_zip hy).1) (fun h₁ hns hsb => ⟨lim.fresh _ hsb, ?_⟩) S.kind)
  show codeAny _ _ (.expr F.body (envF F.nf f s.heap.objs.size)) _ _
  have kp : ∀ b o, s.heap.get? b = some o → h₁.get? b = some o := fun b o e => hsb.extBut b o (Nat.ne_of_lt (Heap.lt_size e)) (Heap.get?_push_of_some _ e)
  obtain ⟨t, ht, hq⟩ := hbody f A outer s H vs Q E (hr.deeper _) hsp
  have C : CellsAt F.nf.cl [] [] s.heap H := by
    show CellsAt F.cl [] [] s.heap H
    rw [hcl]
    exact { len := rfl, all := fun y c z => (nomatch (show (none : Option Addr) = some c from z)), inj := fun x y c z => (nomatch (show (none : Option Addr) = some c from z)), has := fun i y z => by simp at z }
  have I : Inv (ncx CX P w K mg base N F.nf f A outer s H E) [] (startF N vs []) H { s with heap := h₁, toks := s.toks + (ps.zip us).length } := inv_startN (F := F.nf) S hr.hd e0 hl r C hns kp
  refine PySem.W.kla_codeExpr (wpAny_mono (ht.run [] _ (startF N vs []) H Q I hq) (fun u s' hs => ?_) fun e s' hs => hs)
  obtain ⟨v, H', J, rv, q⟩ := hs
  exact ⟨v, H', J.os, J.bare, J.base, J.hok, rv, q⟩
end
/-- g(e, ..), g a local name that holds a lambda -/
def tCallLam (i : Nat) (S : LF → Option Sp) (E : XK) (t : TA) : TE := fun σ H Q => ∃ f F sp, σ[i]? = some (some (.ref f)) ∧ S F = some sp ∧ H f = some (LamO f F) ∧ t σ H fun vs H1 => H1 f = some (LamO f F) ∧ H1 F.c = some (CodeO F.c F.qual) ∧ sp vs H1 Q E
section
variable {X : Cx} {CX : CXT} {k i : Nat} {x : Str} {p pos : Pos} {e : Expr} {es : List Expr} {t : TA} {ps : List Str} {S : LF → Option Sp} {E : XK}
theorem pe_callLam (A : ∀ F sp, S F = some sp → LOk X.prog X.w X.K X.mg X.base CX k F ps sp) (hr : Room k X.A) (hx : Passes CX X E) (hN : X.N[i]? = some x) (hv : Vis X.env.scope x) (ha : PA X (e :: es) t)
    (hd : (x == ("__debug__" : Str)) = false := by decide) (hcd : (x == ("__classdict__" : Str)) = false := by decide)
    (he : starEach (e :: es) X.env = (false, eval e X.env) :: starEach es X.env := by rfl) (hpl : (backTo pos (starEach es X.env)).any (·.1) = false := by rfl) :
    PE X (.Call (.Name x p) (e :: es) [] pos) (tCallLam i S E t) := by
  refine ⟨fun pins s σ H Q I h => ?_⟩
  obtain ⟨f, F, sp, hs, hS, hf, ht⟩ := h
  refine wpAny_Call_Name_kw (thn ((pe_var (pos := p) (i := i) hN hv hd hcd).run pins s σ H (fun v H1 => v = .ref f ∧ H1 = H) I ⟨.ref f, hs, rfl, rfl⟩) fun u s1 ⟨v, H1, I1, r1, ev, eH⟩ => ?_)
  subst ev
  rw [eH] at I1
  obtain rfl : u = Value.ref f := r1
  obtain ⟨pm0, ctv0, ho0⟩ := lamO_at I1.hok hf
  refine PySem.W.callWith_F ⟨_, _, _, _, ho0⟩ (thn (ha.run pos pins s1 σ H _ I1 ht) fun us s2 ⟨vs, H2, I2, r2, hf2, hc2, hsp⟩ => ?_) he hpl
  obtain ⟨pm1, ctv1, ho1⟩ := lamO_at I2.hok hf2
  refine ⟨⟨_, _, _, _, ho1⟩, wpAny_call (codeAny_mono ((A F sp hS).run f X.A X.stack s2 H2 us vs Q E hr I2.env0 hf2 hc2 r2 hsp) fun r s' hq => ?_)⟩
  cases r with
  | error e => exact hx pins σ H2 s2 e s' I2 hq
  | ok fl =>
    cases fl with
    | ret u => exact I2.after hq
    | next => exact False.elim hq
    | brk => exact False.elim hq
    | cont => exact False.elim hq
end
end LmV
/-! text P1 -/
set_option Elab.async false
set_option linter.all false
set_option maxHeartbeats 1000000
/-! lots as ascending lists, least lots: plain -/
namespace Lot
variable {α : Type} [DecidableEq α]
/-- an order of all things -/
structure Tot (lt : α → α → Bool) : Prop where
  ir : ∀ a, lt a a = false
  tr : ∀ a b c, lt a b = true → lt b c = true → lt a c = true
  di : ∀ a b, lt a b = false → lt b a = false → a = b
def Asc (lt : α → α → Bool) (l : List α) : Prop := l.Pairwise fun a b => lt a b = true
theorem Asc.nodup {lt : α → α → Bool} (T : Tot lt) {l : List α} (h : Asc lt l) : l.Nodup := h.imp fun {a b} z e => by
  rw [e, T.ir] at z
  cases z
/-- ascending lists of the same things are the same -/
theorem asc_ext {lt : α → α → Bool} (T : Tot lt) : ∀ {l m : List α}, Asc lt l → Asc lt m → (∀ x, x ∈ l ↔ x ∈ m) → l = m
  | [], [], _, _, _ => rfl
  | [], b :: m, _, _, h => absurd ((h b).mpr List.mem_cons_self) (by simp)
  | a :: l, [], _, _, h => absurd ((h a).mp List.mem_cons_self) (by simp)
  | a :: l, b :: m, h1, h2, h => by
    obtain ⟨p1, q1⟩ := List.pairwise_cons.mp h1
    obtain ⟨p2, q2⟩ := List.pairwise_cons.mp h2
    have e : a = b := by
      rcases List.mem_cons.mp ((h a).mp List.mem_cons_self) with z | z
      · exact z
      · rcases List.mem_cons.mp ((h b).mpr List.mem_cons_self) with y | y
        · exact y.symm
        · have x := T.tr _ _ _ (p1 _ y) (p2 _ z)
          rw [T.ir] at x
          cases x
    subst e
    refine congrArg (a :: ·) (asc_ext T q1 q2 fun x => ⟨fun z => ?_, fun z => ?_⟩)
    · rcases List.mem_cons.mp ((h x).mp (List.mem_cons_of_mem _ z)) with y | y
      · have q := p1 _ z
        rw [y, T.ir] at q
        cases q
      · exact y
    · rcases List.mem_cons.mp ((h x).mpr (List.mem_cons_of_mem _ z)) with y | y
      · have q := p2 _ z
        rw [y, T.ir] at q
        cases q
      · exact y
/-- letter by letter -/
def lex (lt : α → α → Bool) : List α → List α → Bool
  | [], [] => false
  | [], _ :: _ => true
  | _ :: _, [] => false
  | a :: l, b :: m => if a = b then lex lt l m else lt a b
theorem lex_tot {lt : α → α → Bool} (T : Tot lt) : Tot (lex lt) := by
  refine ⟨fun a => ?_, fun a => ?_, fun a => ?_⟩
  · induction a with
    | nil => rfl
    | cons x l ih =>
      unfold lex
      rw [if_pos rfl, ih]
  · induction a with
    | nil =>
      intro b c h1 h2
      cases b with
      | nil => cases h1
      | cons y m =>
        cases c with
        | nil => cases h2
        | cons z n => rfl
    | cons x l ih =>
      intro b c h1 h2
      cases b with
      | nil => cases h1
      | cons y m =>
        cases c with
        | nil => cases h2
        | cons z n =>
          unfold lex at h1 h2 ⊢
          by_cases e1 : x = y
          · subst e1
            rw [if_pos rfl] at h1
            by_cases e2 : x = z
            · rw [if_pos e2] at h2 ⊢
              exact ih _ _ h1 h2
            · rw [if_neg e2] at h2 ⊢
              exact h2
          · rw [if_neg e1] at h1
            by_cases e2 : y = z
            · subst e2
              rw [if_neg e1]
              exact h1
            · rw [if_neg e2] at h2
              have h := T.tr _ _ _ h1 h2
              rw [if_neg (fun e => by rw [e, T.ir] at h; cases h)]
              exact h
  · induction a with
    | nil =>
      intro b h1 h2
      cases b with
      | nil => rfl
      | cons y m => cases h1
    | cons x l ih =>
      intro b h1 h2
      cases b with
      | nil => cases h2
      | cons y m =>
        unfold lex at h1 h2
        by_cases e : x = y
        · rw [if_pos e] at h1
          rw [if_pos e.symm] at h2
          rw [e, ih _ h1 h2]
        · rw [if_neg e] at h1
          rw [if_neg (Ne.symm e)] at h2
          exact absurd (T.di _ _ h1 h2) e
/-- R: the least of the lots -/
def Mn (R lots : List (List α)) : Prop := ∀ r, r ∈ R ↔ r ∈ lots ∧ ∀ s ∈ lots, s ⊆ r → s = r
/-- R: the least of the lots, in order -/
structure Min (lt : α → α → Bool) (R lots : List (List α)) : Prop where
  asc : Asc (lex lt) R
  mem : Mn R lots
section
variable {lt : α → α → Bool} {R R' L L' : List (List α)}
theorem Min.uniq (T : Tot lt) (h : Min lt R L) (h' : Min lt R' L') (e : ∀ x, x ∈ L ↔ x ∈ L') : R = R' := by
  refine asc_ext (lex_tot T) h.asc h'.asc fun r => ?_
  rw [h.mem r, h'.mem r, e]
  exact ⟨fun z => ⟨z.1, fun s hs => z.2 s ((e s).mpr hs)⟩, fun z => ⟨z.1, fun s hs => z.2 s ((e s).mp hs)⟩⟩
/-- every lot holds one of the others -/
def Cof (A B : List (List α)) : Prop := ∀ b ∈ B, ∃ a ∈ A, a ⊆ b
theorem sub_len : ∀ {a b : List α}, a.Nodup → a ⊆ b → a.length ≤ b.length
  | [], _, _, _ => Nat.zero_le _
  | x :: a, b, na, h => by
    obtain ⟨n1, n2⟩ := List.nodup_cons.mp na
    have hx := h List.mem_cons_self
    have q := sub_len (b := b.erase x) n2 fun y hy => (List.mem_erase_of_ne fun e => n1 (by rw [← e]; exact hy)).mpr (h (List.mem_cons_of_mem _ hy))
    rw [List.length_erase_of_mem hx] at q
    have pos : 0 < b.length := List.length_pos_of_mem hx
    rw [List.length_cons]
    omega
theorem sub_back {a b : List α} (na : a.Nodup) (h : a ⊆ b) (l : b.length ≤ a.length) : b ⊆ a := fun x hx => by
  by_cases m : x ∈ a
  · exact m
  · have q := sub_len (b := b.erase x) na fun y hy => (List.mem_erase_of_ne fun e => m (by rw [← e]; exact hy)).mpr (h hy)
    rw [List.length_erase_of_mem hx] at q
    have pos : 0 < b.length := List.length_pos_of_mem hx
    omega
theorem asc_anti (T : Tot lt) {a b : List α} (ha : Asc lt a) (hb : Asc lt b) (h1 : a ⊆ b) (h2 : b ⊆ a) : a = b := asc_ext T ha hb fun x => ⟨fun z => h1 z, fun z => h2 z⟩
/-- below each lot lies a least one -/
theorem mn_below (T : Tot lt) (h : Mn R L) (hL : ∀ l ∈ L, Asc lt l) : ∀ (n : Nat) (l : List α), l.length ≤ n → l ∈ L → ∃ r ∈ R, r ⊆ l
  | n, l, hn, hl => by
    by_cases m : ∀ s ∈ L, s ⊆ l → s = l
    · exact ⟨l, (h l).mpr ⟨hl, m⟩, List.Subset.refl l⟩
    · have ⟨s, z⟩ := Classical.not_forall.mp m
      have ⟨hs, z⟩ := Classical.not_imp.mp z
      have ⟨hsl, ne⟩ := Classical.not_imp.mp z
      have lt' : s.length < l.length := by
        have le := sub_len ((hL s hs).nodup T) hsl
        rcases Nat.lt_or_ge s.length l.length with q | q
        · exact q
        · exact absurd (asc_anti T (hL s hs) (hL l hl) hsl (sub_back ((hL s hs).nodup T) hsl q)) ne
      match n, hn with
      | 0, hn => omega
      | n + 1, hn =>
        obtain ⟨r, h1, h2⟩ := mn_below T h hL n s (by omega) hs
        exact ⟨r, h1, List.Subset.trans h2 hsl⟩
theorem Min.cof (T : Tot lt) (h : Min lt R L) (hL : ∀ l ∈ L, Asc lt l) : Cof R L := fun l hl => mn_below T h.mem hL l.length l (Nat.le_refl _) hl
/-- lots that hold one another tell the same least ones -/
theorem Min.eq_of_cof (T : Tot lt) (h : Min lt R L) (h' : Min lt R' L') (hL : ∀ l ∈ L, Asc lt l) (hL' : ∀ l ∈ L', Asc lt l) (c : Cof L L') (c' : Cof L' L) : R = R' := by
  have key : ∀ {R R' L L' : List (List α)}, Min lt R L → Min lt R' L' → (∀ l ∈ L, Asc lt l) → (∀ l ∈ L', Asc lt l) → Cof L L' → Cof L' L → ∀ r, r ∈ R → r ∈ R' := by
    intro R R' L L' h h' hL hL' c c' r hr
    obtain ⟨hr1, hr2⟩ := (h.mem r).mp hr
    obtain ⟨l', hl', s1⟩ := c' r hr1
    obtain ⟨l, hl, s2⟩ := c l' hl'
    have e := hr2 l hl (List.Subset.trans s2 s1)
    subst e
    have e2 : l' = l := asc_anti T (hL' _ hl') (hL _ hl) s1 s2
    subst e2
    refine (h'.mem l').mpr ⟨hl', fun s hs z => ?_⟩
    obtain ⟨u, hu, s3⟩ := c s hs
    have e3 := hr2 u hu (List.Subset.trans s3 z)
    subst e3
    exact asc_anti T (hL' _ hs) (hL' _ hl') z s3
  refine asc_ext (lex_tot T) h.asc h'.asc fun r => ⟨key h h' hL hL' c c' r, key h' h hL' hL c' c r⟩
/-- a family's own lots: none holds another -/
def Anti (L : List (List α)) : Prop := ∀ a ∈ L, ∀ b ∈ L, a ⊆ b → a = b
theorem min_self (h : Asc (lex lt) L) (a : Anti L) : Min lt L L := ⟨h, fun r => ⟨fun z => ⟨z, fun s hs q => a s hs r z q⟩, fun z => z.1⟩⟩
theorem Min.anti (h : Min lt R L) : Anti R := fun a ha b hb z => ((h.mem b).mp hb).2 a ((h.mem a).mp ha).1 z
end
end Lot
/-! text P2 -/
set_option Elab.async false
set_option linter.all false
set_option maxHeartbeats 1000000
/-! families of lots: both, either, fallen, trusted, renamed: plain -/
namespace Lot
variable {α : Type} [DecidableEq α] {lt : α → α → Bool}
/-- a family's lots: in order, none empty, none holds another -/
structure Fam (lt : α → α → Bool) (A : List (List α)) : Prop where
  asc : Asc (lex lt) A
  lots : ∀ a ∈ A, Asc lt a
  full : ∀ a ∈ A, a ≠ []
  anti : Anti A
theorem Fam.min {A : List (List α)} (h : Fam lt A) : Min lt A A := min_self h.asc h.anti
theorem Min.fam {R L : List (List α)} (h : Min lt R L) (hL : ∀ l ∈ L, Asc lt l) (hf : ∀ l ∈ L, l ≠ []) : Fam lt R := ⟨h.asc, fun a ha => hL a ((h.mem a).mp ha).1, fun a ha => hf a ((h.mem a).mp ha).1, h.anti⟩
/-- U: the lots of one with the lots of the other -/
structure Cup (lt : α → α → Bool) (U A B : List (List α)) : Prop where
  asc : ∀ u ∈ U, Asc lt u
  of : ∀ u ∈ U, ∃ a ∈ A, ∃ b ∈ B, ∀ x, x ∈ u ↔ x ∈ a ∨ x ∈ b
  all : ∀ a ∈ A, ∀ b ∈ B, ∃ u ∈ U, ∀ x, x ∈ u ↔ x ∈ a ∨ x ∈ b
theorem Cof.refl (A : List (List α)) : Cof A A := fun a h => ⟨a, h, List.Subset.refl a⟩
theorem Cof.trans {A B C : List (List α)} (h : Cof A B) (h' : Cof B C) : Cof A C := fun c hc => by
  obtain ⟨b, hb, s⟩ := h' c hc
  obtain ⟨a, ha, s'⟩ := h b hb
  exact ⟨a, ha, List.Subset.trans s' s⟩
theorem cof_sub {A B : List (List α)} (h : ∀ b ∈ B, b ∈ A) : Cof A B := fun b hb => ⟨b, h b hb, List.Subset.refl b⟩
theorem Min.sub {R L : List (List α)} (h : Min lt R L) : Cof L R := cof_sub fun r hr => ((h.mem r).mp hr).1
theorem Cup.cof {U U' A A' B B' : List (List α)} (h : Cup lt U A B) (h' : Cup lt U' A' B') (cA : Cof A A') (cB : Cof B B') : Cof U U' := fun u hu => by
  obtain ⟨a, ha, b, hb, e⟩ := h'.of u hu
  obtain ⟨a', ha', sa⟩ := cA a ha
  obtain ⟨b', hb', sb⟩ := cB b hb
  obtain ⟨v, hv, e'⟩ := h.all a' ha' b' hb'
  refine ⟨v, hv, fun x hx => (e x).mpr ?_⟩
  rcases (e' x).mp hx with z | z
  · exact .inl (sa z)
  · exact .inr (sb z)
theorem Cup.full {U A B : List (List α)} (h : Cup lt U A B) (hA : ∀ a ∈ A, a ≠ []) : ∀ u ∈ U, u ≠ [] := fun u hu z => by
  obtain ⟨a, ha, b, hb, e⟩ := h.of u hu
  cases a with
  | nil => exact hA _ ha rfl
  | cons x r =>
    have q := (e x).mpr (.inl List.mem_cons_self)
    rw [z] at q
    cases q
theorem Cup.swap {U A B : List (List α)} (h : Cup lt U A B) : Cup lt U B A := ⟨h.asc, fun u hu => by
  obtain ⟨a, ha, b, hb, e⟩ := h.of u hu
  exact ⟨b, hb, a, ha, fun x => (e x).trans or_comm⟩, fun b hb a ha => by
  obtain ⟨u, hu, e⟩ := h.all a ha b hb
  exact ⟨u, hu, fun x => (e x).trans or_comm⟩⟩
/-- both: in any brackets -/
theorem both_assoc (T : Tot lt) {A B C U V X Y R S P Q : List (List α)} (hU : Cup lt U A B) (hR : Min lt R U) (hX : Cup lt X R C) (hP : Min lt P X) (hV : Cup lt V B C) (hS : Min lt S V) (hY : Cup lt Y A S) (hQ : Min lt Q Y) : P = Q := by
  refine hP.eq_of_cof T hQ hX.asc hY.asc ?_ ?_
  · intro y hy
    obtain ⟨a, ha, s, hs, e⟩ := hY.of y hy
    obtain ⟨b, hb, c, hc, e2⟩ := hV.of s ((hS.mem s).mp hs).1
    obtain ⟨u, hu, e3⟩ := hU.all a ha b hb
    obtain ⟨r, hr, sr⟩ := hR.cof T hU.asc u hu
    obtain ⟨x, hx, e4⟩ := hX.all r hr c hc
    refine ⟨x, hx, fun z hz => (e z).mpr ?_⟩
    rcases (e4 z).mp hz with q | q
    · rcases (e3 z).mp (sr q) with w | w
      · exact .inl w
      · exact .inr ((e2 z).mpr (.inl w))
    · exact .inr ((e2 z).mpr (.inr q))
  · intro x hx
    obtain ⟨r, hr, c, hc, e⟩ := hX.of x hx
    obtain ⟨a, ha, b, hb, e2⟩ := hU.of r ((hR.mem r).mp hr).1
    obtain ⟨v, hv, e3⟩ := hV.all b hb c hc
    obtain ⟨s, hs, ss⟩ := hS.cof T hV.asc v hv
    obtain ⟨y, hy, e4⟩ := hY.all a ha s hs
    refine ⟨y, hy, fun z hz => (e z).mpr ?_⟩
    rcases (e4 z).mp hz with q | q
    · exact .inl ((e2 z).mpr (.inl q))
    · rcases (e3 z).mp (ss q) with w | w
      · exact .inl ((e2 z).mpr (.inr w))
      · exact .inr w
theorem both_comm (T : Tot lt) {A B U V P Q : List (List α)} (hU : Cup lt U A B) (hP : Min lt P U) (hV : Cup lt V B A) (hQ : Min lt Q V) : P = Q :=
  hP.eq_of_cof T hQ hU.asc hV.asc (hU.cof hV.swap (Cof.refl _) (Cof.refl _)) (hV.swap.cof hU (Cof.refl _) (Cof.refl _))
/-- either: in any brackets -/
theorem either_assoc (T : Tot lt) {A B C R S P Q : List (List α)} (hA : ∀ a ∈ A, Asc lt a) (hB : ∀ a ∈ B, Asc lt a) (hC : ∀ a ∈ C, Asc lt a) (hR : Min lt R (A ++ B)) (hP : Min lt P (R ++ C)) (hS : Min lt S (B ++ C)) (hQ : Min lt Q (A ++ S)) : P = Q := by
  have hAB : ∀ l ∈ A ++ B, Asc lt l := fun l hl => (List.mem_append.mp hl).elim (hA l) (hB l)
  have hBC : ∀ l ∈ B ++ C, Asc lt l := fun l hl => (List.mem_append.mp hl).elim (hB l) (hC l)
  have hR' : ∀ l ∈ R, Asc lt l := fun l hl => hAB l ((hR.mem l).mp hl).1
  have hS' : ∀ l ∈ S, Asc lt l := fun l hl => hBC l ((hS.mem l).mp hl).1
  refine hP.eq_of_cof T hQ (fun l hl => (List.mem_append.mp hl).elim (hR' l) (hC l)) (fun l hl => (List.mem_append.mp hl).elim (hA l) (hS' l)) ?_ ?_
  · intro l hl
    have go : l ∈ A ++ B ∨ l ∈ C := by
      rcases List.mem_append.mp hl with z | z
      · exact .inl (List.mem_append_left _ z)
      · rcases List.mem_append.mp ((hS.mem l).mp z).1 with y | y
        · exact .inl (List.mem_append_right _ y)
        · exact .inr y
    rcases go with z | z
    · obtain ⟨r, hr, s⟩ := hR.cof T hAB l z
      exact ⟨r, List.mem_append_left _ hr, s⟩
    · exact ⟨l, List.mem_append_right _ z, List.Subset.refl l⟩
  · intro l hl
    have go : l ∈ A ∨ l ∈ B ++ C := by
      rcases List.mem_append.mp hl with z | z
      · rcases List.mem_append.mp ((hR.mem l).mp z).1 with y | y
        · exact .inl y
        · exact .inr (List.mem_append_left _ y)
      · exact .inr (List.mem_append_right _ z)
    rcases go with z | z
    · exact ⟨l, List.mem_append_left _ z, List.Subset.refl l⟩
    · obtain ⟨r, hr, s⟩ := hS.cof T hBC l z
      exact ⟨r, List.mem_append_right _ hr, s⟩
theorem either_comm (T : Tot lt) {A B P Q : List (List α)} (hP : Min lt P (A ++ B)) (hQ : Min lt Q (B ++ A)) : P = Q := hP.uniq T hQ fun x => by
  rw [List.mem_append, List.mem_append]
  exact or_comm
/-! ### a keeper fallen -/
def fall (n : α) (A : List (List α)) : List (List α) := A.filter fun a => !a.contains n
theorem mem_fall {n : α} {A : List (List α)} {a : List α} : a ∈ fall n A ↔ a ∈ A ∧ n ∉ a := by
  unfold fall
  rw [List.mem_filter]
  simp
theorem Fam.fall {A : List (List α)} (h : Fam lt A) (n : α) : Fam lt (fall n A) := ⟨List.Pairwise.filter _ h.asc, fun a ha => h.lots a (mem_fall.mp ha).1, fun a ha => h.full a (mem_fall.mp ha).1, fun a ha b hb z => h.anti a (mem_fall.mp ha).1 b (mem_fall.mp hb).1 z⟩
theorem fall_both (T : Tot lt) {A B U R V P : List (List α)} (n : α) (hU : Cup lt U A B) (hR : Min lt R U) (hV : Cup lt V (fall n A) (fall n B)) (hP : Min lt P V) : P = fall n R := by
  have hRf : Fam lt (fall n R) → True := fun _ => trivial
  have aR : ∀ l ∈ fall n R, Asc lt l := fun l hl => hU.asc l ((hR.mem l).mp (mem_fall.mp hl).1).1
  have mR : Min lt (fall n R) (fall n R) := min_self (List.Pairwise.filter _ hR.asc) fun a ha b hb z => hR.anti a (mem_fall.mp ha).1 b (mem_fall.mp hb).1 z
  refine hP.eq_of_cof T mR hV.asc aR ?_ ?_
  · intro r hr
    obtain ⟨h1, h2⟩ := mem_fall.mp hr
    obtain ⟨a, ha, b, hb, e⟩ := hU.of r ((hR.mem r).mp h1).1
    obtain ⟨v, hv, e2⟩ := hV.all a (mem_fall.mpr ⟨ha, fun z => h2 ((e n).mpr (.inl z))⟩) b (mem_fall.mpr ⟨hb, fun z => h2 ((e n).mpr (.inr z))⟩)
    exact ⟨v, hv, fun x hx => (e x).mpr ((e2 x).mp hx)⟩
  · intro v hv
    obtain ⟨a, ha, b, hb, e⟩ := hV.of v hv
    obtain ⟨ha, na⟩ := mem_fall.mp ha
    obtain ⟨hb, nb⟩ := mem_fall.mp hb
    obtain ⟨u, hu, e2⟩ := hU.all a ha b hb
    obtain ⟨r, hr, s⟩ := hR.cof T hU.asc u hu
    refine ⟨r, mem_fall.mpr ⟨hr, fun z => ((e2 n).mp (s z)).elim na nb⟩, fun x hx => (e x).mpr ((e2 x).mp (s hx))⟩
theorem fall_both_none (T : Tot lt) {A B U R : List (List α)} (n : α) (hU : Cup lt U A B) (hR : Min lt R U) : fall n R = [] ↔ fall n A = [] ∨ fall n B = [] := by
  rw [List.eq_nil_iff_forall_not_mem, List.eq_nil_iff_forall_not_mem, List.eq_nil_iff_forall_not_mem]
  constructor
  · intro h
    by_cases z : ∀ a, ¬ a ∈ fall n A
    · exact .inl z
    · right
      intro b hb
      have ⟨a, ha⟩ := Classical.not_forall.mp z
      obtain ⟨ha, na⟩ := mem_fall.mp (Classical.not_not.mp ha)
      obtain ⟨hb, nb⟩ := mem_fall.mp hb
      obtain ⟨u, hu, e⟩ := hU.all a ha b hb
      obtain ⟨r, hr, s⟩ := hR.cof T hU.asc u hu
      exact h r (mem_fall.mpr ⟨hr, fun z => ((e n).mp (s z)).elim na nb⟩)
  · intro h r hr
    obtain ⟨h1, h2⟩ := mem_fall.mp hr
    obtain ⟨a, ha, b, hb, e⟩ := hU.of r ((hR.mem r).mp h1).1
    rcases h with z | z
    · exact z a (mem_fall.mpr ⟨ha, fun y => h2 ((e n).mpr (.inl y))⟩)
    · exact z b (mem_fall.mpr ⟨hb, fun y => h2 ((e n).mpr (.inr y))⟩)
theorem fall_either (T : Tot lt) {A B R P : List (List α)} (n : α) (hA : ∀ a ∈ A, Asc lt a) (hB : ∀ a ∈ B, Asc lt a) (hR : Min lt R (A ++ B)) (hP : Min lt P (fall n A ++ fall n B)) : P = fall n R := by
  have hAB : ∀ l ∈ A ++ B, Asc lt l := fun l hl => (List.mem_append.mp hl).elim (hA l) (hB l)
  have aR : ∀ l ∈ fall n R, Asc lt l := fun l hl => hAB l ((hR.mem l).mp (mem_fall.mp hl).1).1
  have mR : Min lt (fall n R) (fall n R) := min_self (List.Pairwise.filter _ hR.asc) fun a ha b hb z => hR.anti a (mem_fall.mp ha).1 b (mem_fall.mp hb).1 z
  have mem : ∀ l, l ∈ fall n A ++ fall n B ↔ l ∈ A ++ B ∧ n ∉ l := fun l => by
    rw [List.mem_append, List.mem_append, mem_fall, mem_fall]
    constructor
    · rintro (⟨a, b⟩ | ⟨a, b⟩)
      · exact ⟨.inl a, b⟩
      · exact ⟨.inr a, b⟩
    · rintro ⟨a | a, b⟩
      · exact .inl ⟨a, b⟩
      · exact .inr ⟨a, b⟩
  refine hP.eq_of_cof T mR (fun l hl => hAB l ((mem l).mp hl).1) aR ?_ ?_
  · intro r hr
    obtain ⟨h1, h2⟩ := mem_fall.mp hr
    exact ⟨r, (mem r).mpr ⟨((hR.mem r).mp h1).1, h2⟩, List.Subset.refl r⟩
  · intro l hl
    obtain ⟨h1, h2⟩ := (mem l).mp hl
    obtain ⟨r, hr, s⟩ := hR.cof T hAB l h1
    exact ⟨r, mem_fall.mpr ⟨hr, fun z => h2 (s z)⟩, s⟩
end Lot
/-! text P3 -/
set_option Elab.async false
set_option linter.all false
set_option maxHeartbeats 1000000
/-! families of lots: trusted, least lots of both: plain -/
namespace Lot
variable {α : Type} [DecidableEq α] {lt : α → α → Bool}
/-! ### a keeper trusted -/
def drop1 (n : α) (a : List α) : List α := a.filter fun x => !decide (x = n)
theorem mem_drop1 {n x : α} {a : List α} : x ∈ drop1 n a ↔ x ∈ a ∧ x ≠ n := by
  unfold drop1
  rw [List.mem_filter]
  simp
theorem asc_drop1 {n : α} {a : List α} (h : Asc lt a) : Asc lt (drop1 n a) := List.Pairwise.filter _ h
theorem drop1_sub {n : α} {a b : List α} (h : a ⊆ b) : drop1 n a ⊆ drop1 n b := fun x hx => mem_drop1.mpr ⟨h (mem_drop1.mp hx).1, (mem_drop1.mp hx).2⟩
def trust (n : α) (A : List (List α)) : List (List α) := A.map (drop1 n)
theorem mem_trust {n : α} {A : List (List α)} {t : List α} : t ∈ trust n A ↔ ∃ a ∈ A, drop1 n a = t := List.mem_map
theorem trust_asc {n : α} {A : List (List α)} (h : ∀ a ∈ A, Asc lt a) : ∀ t ∈ trust n A, Asc lt t := fun t ht => by
  obtain ⟨a, ha, rfl⟩ := mem_trust.mp ht
  exact asc_drop1 (h a ha)
theorem trust_cof {n : α} {A B : List (List α)} (h : Cof A B) : Cof (trust n A) (trust n B) := fun t ht => by
  obtain ⟨b, hb, rfl⟩ := mem_trust.mp ht
  obtain ⟨a, ha, s⟩ := h b hb
  exact ⟨_, mem_trust.mpr ⟨a, ha, rfl⟩, drop1_sub s⟩
theorem trust_full {n : α} {A : List (List α)} (h : ¬ [] ∈ trust n A) : ∀ t ∈ trust n A, t ≠ [] := fun t ht e => h (by rw [← e]; exact ht)
/-- both of the trusted ones -/
theorem trust_both (T : Tot lt) {A B U R TA TB TR V P : List (List α)} (n : α) (hA : ∀ a ∈ A, Asc lt a) (hB : ∀ a ∈ B, Asc lt a) (hU : Cup lt U A B) (hR : Min lt R U) (hTA : Min lt TA (trust n A)) (hTB : Min lt TB (trust n B)) (hTR : Min lt TR (trust n R)) (hV : Cup lt V TA TB) (hP : Min lt P V) : P = TR := by
  have aR : ∀ l ∈ R, Asc lt l := fun l hl => hU.asc l ((hR.mem l).mp hl).1
  refine hP.eq_of_cof T hTR hV.asc (trust_asc aR) ?_ ?_
  · intro t ht
    obtain ⟨r, hr, rfl⟩ := mem_trust.mp ht
    obtain ⟨a, ha, b, hb, e⟩ := hU.of r ((hR.mem r).mp hr).1
    obtain ⟨ta, h1, s1⟩ := hTA.cof T (trust_asc hA) _ (mem_trust.mpr ⟨a, ha, rfl⟩)
    obtain ⟨tb, h2, s2⟩ := hTB.cof T (trust_asc hB) _ (mem_trust.mpr ⟨b, hb, rfl⟩)
    obtain ⟨v, hv, e2⟩ := hV.all ta h1 tb h2
    refine ⟨v, hv, fun x hx => ?_⟩
    rcases (e2 x).mp hx with z | z
    · have q := mem_drop1.mp (s1 z)
      exact mem_drop1.mpr ⟨(e x).mpr (.inl q.1), q.2⟩
    · have q := mem_drop1.mp (s2 z)
      exact mem_drop1.mpr ⟨(e x).mpr (.inr q.1), q.2⟩
  · intro v hv
    obtain ⟨ta, h1, tb, h2, e⟩ := hV.of v hv
    obtain ⟨a, ha, ea⟩ := mem_trust.mp ((hTA.mem ta).mp h1).1
    obtain ⟨b, hb, eb⟩ := mem_trust.mp ((hTB.mem tb).mp h2).1
    subst ea eb
    obtain ⟨u, hu, e2⟩ := hU.all a ha b hb
    obtain ⟨r, hr, s⟩ := hR.cof T hU.asc u hu
    refine ⟨_, mem_trust.mpr ⟨r, hr, rfl⟩, fun x hx => (e x).mpr ?_⟩
    obtain ⟨q1, q2⟩ := mem_drop1.mp hx
    rcases (e2 x).mp (s q1) with z | z
    · exact .inl (mem_drop1.mpr ⟨z, q2⟩)
    · exact .inr (mem_drop1.mpr ⟨z, q2⟩)
/-- either of the trusted ones -/
theorem trust_either (T : Tot lt) {A B R TA TB TR P : List (List α)} (n : α) (hA : ∀ a ∈ A, Asc lt a) (hB : ∀ a ∈ B, Asc lt a) (hR : Min lt R (A ++ B)) (hTA : Min lt TA (trust n A)) (hTB : Min lt TB (trust n B)) (hTR : Min lt TR (trust n R)) (hP : Min lt P (TA ++ TB)) : P = TR := by
  have hAB : ∀ l ∈ A ++ B, Asc lt l := fun l hl => (List.mem_append.mp hl).elim (hA l) (hB l)
  have aR : ∀ l ∈ R, Asc lt l := fun l hl => hAB l ((hR.mem l).mp hl).1
  have aTA : ∀ l ∈ TA, Asc lt l := fun l hl => trust_asc hA l ((hTA.mem l).mp hl).1
  have aTB : ∀ l ∈ TB, Asc lt l := fun l hl => trust_asc hB l ((hTB.mem l).mp hl).1
  refine hP.eq_of_cof T hTR (fun l hl => (List.mem_append.mp hl).elim (aTA l) (aTB l)) (trust_asc aR) ?_ ?_
  · intro t ht
    obtain ⟨r, hr, rfl⟩ := mem_trust.mp ht
    rcases List.mem_append.mp ((hR.mem r).mp hr).1 with z | z
    · obtain ⟨ta, h1, s1⟩ := hTA.cof T (trust_asc hA) _ (mem_trust.mpr ⟨r, z, rfl⟩)
      exact ⟨ta, List.mem_append_left _ h1, s1⟩
    · obtain ⟨tb, h1, s1⟩ := hTB.cof T (trust_asc hB) _ (mem_trust.mpr ⟨r, z, rfl⟩)
      exact ⟨tb, List.mem_append_right _ h1, s1⟩
  · intro t ht
    have go : ∃ a ∈ A ++ B, drop1 n a = t := by
      rcases List.mem_append.mp ht with z | z
      · obtain ⟨a, ha, e⟩ := mem_trust.mp ((hTA.mem t).mp z).1
        exact ⟨a, List.mem_append_left _ ha, e⟩
      · obtain ⟨a, ha, e⟩ := mem_trust.mp ((hTB.mem t).mp z).1
        exact ⟨a, List.mem_append_right _ ha, e⟩
    obtain ⟨a, ha, rfl⟩ := go
    obtain ⟨r, hr, s⟩ := hR.cof T hAB a ha
    exact ⟨_, mem_trust.mpr ⟨r, hr, rfl⟩, drop1_sub s⟩
theorem drop1_nil {n : α} {a : List α} : drop1 n a = [] ↔ ∀ x ∈ a, x = n := by
  rw [List.eq_nil_iff_forall_not_mem]
  exact ⟨fun h x hx => Classical.byContradiction fun z => h x (mem_drop1.mpr ⟨hx, z⟩), fun h x hx => (mem_drop1.mp hx).2 (h x (mem_drop1.mp hx).1)⟩
theorem trust_nil {n : α} {A : List (List α)} : [] ∈ trust n A ↔ ∃ a ∈ A, ∀ x ∈ a, x = n := by
  rw [mem_trust]
  exact ⟨fun ⟨a, h, e⟩ => ⟨a, h, drop1_nil.mp e⟩, fun ⟨a, h, e⟩ => ⟨a, h, drop1_nil.mpr e⟩⟩
theorem trust_both_none (T : Tot lt) {A B U R : List (List α)} (n : α) (hU : Cup lt U A B) (hR : Min lt R U) : [] ∈ trust n R ↔ [] ∈ trust n A ∧ [] ∈ trust n B := by
  rw [trust_nil, trust_nil, trust_nil]
  constructor
  · rintro ⟨r, hr, h⟩
    obtain ⟨a, ha, b, hb, e⟩ := hU.of r ((hR.mem r).mp hr).1
    exact ⟨⟨a, ha, fun x hx => h x ((e x).mpr (.inl hx))⟩, ⟨b, hb, fun x hx => h x ((e x).mpr (.inr hx))⟩⟩
  · rintro ⟨⟨a, ha, h1⟩, b, hb, h2⟩
    obtain ⟨u, hu, e⟩ := hU.all a ha b hb
    obtain ⟨r, hr, s⟩ := hR.cof T hU.asc u hu
    exact ⟨r, hr, fun x hx => ((e x).mp (s hx)).elim (h1 x) (h2 x)⟩
theorem trust_either_none (T : Tot lt) {A B R : List (List α)} (n : α) (hA : ∀ a ∈ A, Asc lt a) (hB : ∀ a ∈ B, Asc lt a) (hR : Min lt R (A ++ B)) : [] ∈ trust n R ↔ [] ∈ trust n A ∨ [] ∈ trust n B := by
  have hAB : ∀ l ∈ A ++ B, Asc lt l := fun l hl => (List.mem_append.mp hl).elim (hA l) (hB l)
  rw [trust_nil, trust_nil, trust_nil]
  constructor
  · rintro ⟨r, hr, h⟩
    rcases List.mem_append.mp ((hR.mem r).mp hr).1 with z | z
    · exact .inl ⟨r, z, h⟩
    · exact .inr ⟨r, z, h⟩
  · have go : ∀ a ∈ A ++ B, (∀ x ∈ a, x = n) → ∃ r ∈ R, ∀ x ∈ r, x = n := fun a ha h => by
      obtain ⟨r, hr, s⟩ := hR.cof T hAB a ha
      exact ⟨r, hr, fun x hx => h x (s hx)⟩
    rintro (⟨a, ha, h⟩ | ⟨a, ha, h⟩)
    · exact go a (List.mem_append_left _ ha) h
    · exact go a (List.mem_append_right _ ha) h
theorem fall_either_none (T : Tot lt) {A B R : List (List α)} (n : α) (hA : ∀ a ∈ A, Asc lt a) (hB : ∀ a ∈ B, Asc lt a) (hR : Min lt R (A ++ B)) : fall n R = [] ↔ fall n A = [] ∧ fall n B = [] := by
  have hAB : ∀ l ∈ A ++ B, Asc lt l := fun l hl => (List.mem_append.mp hl).elim (hA l) (hB l)
  rw [List.eq_nil_iff_forall_not_mem, List.eq_nil_iff_forall_not_mem, List.eq_nil_iff_forall_not_mem]
  have go : (∀ r, ¬ r ∈ fall n R) ↔ ∀ a ∈ A ++ B, n ∈ a := by
    constructor
    · intro h a ha
      refine Classical.byContradiction fun z => ?_
      obtain ⟨r, hr, s⟩ := hR.cof T hAB a ha
      exact h r (mem_fall.mpr ⟨hr, fun y => z (s y)⟩)
    · intro h r hr
      obtain ⟨h1, h2⟩ := mem_fall.mp hr
      exact h2 (h r ((hR.mem r).mp h1).1)
  rw [go]
  constructor
  · intro h
    exact ⟨fun a ha => (mem_fall.mp ha).2 (h a (List.mem_append_left _ (mem_fall.mp ha).1)), fun a ha => (mem_fall.mp ha).2 (h a (List.mem_append_right _ (mem_fall.mp ha).1))⟩
  · rintro ⟨h1, h2⟩ a ha
    refine Classical.byContradiction fun z => ?_
    rcases List.mem_append.mp ha with y | y
    · exact h1 a (mem_fall.mpr ⟨y, z⟩)
    · exact h2 a (mem_fall.mpr ⟨y, z⟩)
/-! ### a lot of both with one keeper less -/
theorem both_least (T : Tot lt) {A B U R : List (List α)} (hU : Cup lt U A B) (hR : Min lt R U) {r s : List α} (hr : r ∈ R) (hs : s ⊆ r) (hl : s.length < r.length) : ¬ ((∃ a ∈ A, a ⊆ s) ∧ ∃ b ∈ B, b ⊆ s) := by
  rintro ⟨⟨a, ha, sa⟩, b, hb, sb⟩
  obtain ⟨u, hu, e⟩ := hU.all a ha b hb
  have us : u ⊆ s := fun x hx => ((e x).mp hx).elim (fun z => sa z) (fun z => sb z)
  have q := ((hR.mem r).mp hr).2 u hu (List.Subset.trans us hs)
  subst q
  have len := sub_len ((hU.asc _ hu).nodup T) us
  omega
theorem both_in {A B U R : List (List α)} (hU : Cup lt U A B) (hR : Min lt R U) {r : List α} (hr : r ∈ R) : (∃ a ∈ A, a ⊆ r) ∧ ∃ b ∈ B, b ⊆ r := by
  obtain ⟨a, ha, b, hb, e⟩ := hU.of r ((hR.mem r).mp hr).1
  exact ⟨⟨a, ha, fun x hx => (e x).mpr (.inl hx)⟩, b, hb, fun x hx => (e x).mpr (.inr hx)⟩
end Lot
/-! text P4 -/
set_option Elab.async false
set_option linter.all false
set_option maxHeartbeats 1000000
/-! the least lots, as they are found: plain -/
namespace Lot
variable {α : Type} [DecidableEq α] {lt : α → α → Bool}
def hasIn (found : List (List α)) (l : List α) : Bool := found.any fun f => f.all fun x => decide (x ∈ l)
theorem hasIn_iff {found : List (List α)} {l : List α} : hasIn found l = true ↔ ∃ f ∈ found, f ⊆ l := by
  unfold hasIn
  rw [List.any_eq_true]
  constructor
  · rintro ⟨f, hf, z⟩
    exact ⟨f, hf, fun x hx => of_decide_eq_true (List.all_eq_true.mp z x hx)⟩
  · rintro ⟨f, hf, z⟩
    exact ⟨f, hf, List.all_eq_true.mpr fun x hx => decide_eq_true (z hx)⟩
/-- one lot behind another, what holds none found is found -/
def greedy : List (List α) → List (List α) → List (List α)
  | found, [] => found
  | found, l :: r => if hasIn found l = true then greedy found r else greedy (found ++ [l]) r
theorem mn_step (T : Tot lt) {found p : List (List α)} {l : List α} (h : Mn found p) (hp : ∀ a ∈ p, Asc lt a) (hl : Asc lt l) (len : ∀ a ∈ p, a.length ≤ l.length) : Mn (if hasIn found l = true then found else found ++ [l]) (p ++ [l]) := by
  intro r
  by_cases z : hasIn found l = true
  · rw [if_pos z]
    obtain ⟨f, hf, sf⟩ := hasIn_iff.mp z
    have hfp := (h f).mp hf
    constructor
    · intro hr
      obtain ⟨h1, h2⟩ := (h r).mp hr
      refine ⟨List.mem_append_left _ h1, fun s hs q => ?_⟩
      rcases List.mem_append.mp hs with y | y
      · exact h2 s y q
      · have e := List.mem_singleton.mp y
        subst e
        have e2 := h2 f hfp.1 (List.Subset.trans sf q)
        subst e2
        exact asc_anti T hl (hp _ h1) q sf
    · rintro ⟨h1, h2⟩
      rcases List.mem_append.mp h1 with y | y
      · exact (h r).mpr ⟨y, fun s hs q => h2 s (List.mem_append_left _ hs) q⟩
      · have e := List.mem_singleton.mp y
        subst e
        rw [← h2 f (List.mem_append_left _ hfp.1) sf]
        exact hf
  · rw [if_neg z]
    have no : ∀ f ∈ found, ¬ f ⊆ l := fun f hf s => z (hasIn_iff.mpr ⟨f, hf, s⟩)
    constructor
    · intro hr
      rcases List.mem_append.mp hr with y | y
      · obtain ⟨h1, h2⟩ := (h r).mp y
        refine ⟨List.mem_append_left _ h1, fun s hs q => ?_⟩
        rcases List.mem_append.mp hs with w | w
        · exact h2 s w q
        · have e := List.mem_singleton.mp w
          subst e
          exact absurd (sub_back (hl.nodup T) q (len r h1)) (no r y)
      · have e := List.mem_singleton.mp y
        subst e
        refine ⟨List.mem_append_right _ y, fun s hs q => ?_⟩
        rcases List.mem_append.mp hs with w | w
        · obtain ⟨f, hf, sf⟩ := mn_below T h hp s.length s (Nat.le_refl _) w
          exact absurd (List.Subset.trans sf q) (no f hf)
        · exact List.mem_singleton.mp w
    · rintro ⟨h1, h2⟩
      rcases List.mem_append.mp h1 with y | y
      · exact List.mem_append_left _ ((h r).mpr ⟨y, fun s hs q => h2 s (List.mem_append_left _ hs) q⟩)
      · exact List.mem_append_right _ y
theorem greedy_mn (T : Tot lt) : ∀ {r found p : List (List α)}, Mn found p → found.Nodup → (∀ a ∈ p ++ r, Asc lt a) → (p ++ r).Pairwise (fun a b => a.length ≤ b.length) → Mn (greedy found r) (p ++ r) ∧ (greedy found r).Nodup
  | [], found, p, h, nd, _, _ => by
    rw [List.append_nil]
    exact ⟨h, nd⟩
  | l :: r, found, p, h, nd, ha, hs => by
    have hp : ∀ a ∈ p, Asc lt a := fun a h => ha a (List.mem_append_left _ h)
    have hl : Asc lt l := ha l (List.mem_append_right _ List.mem_cons_self)
    have len : ∀ a ∈ p, a.length ≤ l.length := fun a h => (List.pairwise_append.mp hs).2.2 a h l List.mem_cons_self
    have st := mn_step T h hp hl len
    have e : p ++ l :: r = (p ++ [l]) ++ r := by rw [List.append_assoc]; rfl
    rw [e] at ha hs ⊢
    unfold greedy
    by_cases z : hasIn found l = true
    · rw [if_pos z] at st ⊢
      exact greedy_mn T st nd ha hs
    · rw [if_neg z] at st ⊢
      refine greedy_mn T st ?_ ha hs
      refine List.nodup_append.mpr ⟨nd, by simp, fun a h b hb q => ?_⟩
      have e2 := List.mem_singleton.mp hb
      rw [e2] at q
      rw [q] at h
      exact z (hasIn_iff.mpr ⟨l, h, List.Subset.refl l⟩)
theorem greedy_all (T : Tot lt) {s : List (List α)} (ha : ∀ a ∈ s, Asc lt a) (hs : s.Pairwise fun a b => a.length ≤ b.length) : Mn (greedy [] s) s ∧ (greedy [] s).Nodup := by
  have q := greedy_mn T (r := s) (found := []) (p := []) (fun r => by simp) List.nodup_nil ha hs
  exact q
theorem mn_perm {R S L M : List (List α)} (h : Mn R L) (p : ∀ x, x ∈ S ↔ x ∈ R) (q : ∀ x, x ∈ M ↔ x ∈ L) : Mn S M := fun r => by
  rw [p, h r, q]
  exact ⟨fun z => ⟨z.1, fun s hs => z.2 s ((q s).mp hs)⟩, fun z => ⟨z.1, fun s hs => z.2 s ((q s).mpr hs)⟩⟩
/-- sorted, none twice: ascending -/
theorem asc_of_sorted {lt' : α → α → Bool} (T : Tot lt') {l : List α} (h : l.Pairwise fun a b => lt' b a = false) (n : l.Nodup) : Asc lt' l := by
  refine List.Pairwise.imp_of_mem ?_ (List.pairwise_and_iff.mpr ⟨h, n⟩)
  rintro a b _ _ ⟨h1, h2⟩
  cases e : lt' a b with
  | true => rfl
  | false => exact absurd (T.di _ _ e h1) h2
end Lot
/-! text P5 -/
set_option Elab.async false
set_option linter.all false
set_option maxHeartbeats 1000000
/-! families renamed: plain -/
namespace Lot
variable {α : Type} [DecidableEq α] {lt : α → α → Bool}
/-- y: the lot x by other names -/
structure RenL (lt : α → α → Bool) (f : α → α) (x y : List α) : Prop where
  asc : Asc lt y
  mem : ∀ b, b ∈ y ↔ ∃ a ∈ x, f a = b
/-- B: the lots of A by other names -/
structure Ren (lt : α → α → Bool) (f : α → α) (A B : List (List α)) : Prop where
  asc : Asc (lex lt) B
  to : ∀ x ∈ A, ∃ y ∈ B, RenL lt f x y
  of : ∀ y ∈ B, ∃ x ∈ A, RenL lt f x y
def InjOn (f : α → α) (K : List α) : Prop := ∀ a ∈ K, ∀ b ∈ K, f a = f b → a = b
theorem RenL.sub {f : α → α} {K x y u v : List α} (i : InjOn f K) (hx : x ⊆ K) (hu : u ⊆ K) (h : RenL lt f x y) (h' : RenL lt f u v) : y ⊆ v ↔ x ⊆ u := by
  constructor
  · intro z a ha
    obtain ⟨b, hb, e⟩ := (h'.mem _).mp (z ((h.mem (f a)).mpr ⟨a, ha, rfl⟩))
    rw [i a (hx ha) b (hu hb) e.symm]
    exact hb
  · intro z b hb
    obtain ⟨a, ha, e⟩ := (h.mem b).mp hb
    exact (h'.mem b).mpr ⟨a, z ha, e⟩
theorem Ren.min (T : Tot lt) {f : α → α} {K : List α} {A B : List (List α)} (i : InjOn f K) (hK : ∀ a ∈ A, a ⊆ K) (hA : ∀ a ∈ A, Asc lt a) (an : Anti A) (h : Ren lt f A B) : Min lt B B := by
  refine min_self h.asc fun y hy v hv z => ?_
  obtain ⟨x, hx, r⟩ := h.of y hy
  obtain ⟨u, hu, r'⟩ := h.of v hv
  have s := (r.sub i (hK x hx) (hK u hu) r').mp z
  have e := an x hx u hu s
  subst e
  exact asc_anti T r.asc r'.asc z fun b hb => (r.mem b).mpr ((r'.mem b).mp hb)
/-- both of the renamed ones is both renamed -/
theorem ren_both (T : Tot lt) {f : α → α} {K : List α} {A B A' B' U U' R P Q : List (List α)} (i : InjOn f K) (hAK : ∀ a ∈ A, a ⊆ K) (hBK : ∀ b ∈ B, b ⊆ K) (rA : Ren lt f A A') (rB : Ren lt f B B') (hU : Cup lt U A B) (hR : Min lt R U) (hU' : Cup lt U' A' B') (hP : Min lt P U') (rQ : Ren lt f R Q) : P = Q := by
  have hUK : ∀ u ∈ U, u ⊆ K := fun u hu x hx => by
    obtain ⟨a, ha, b, hb, e⟩ := hU.of u hu
    rcases (e x).mp hx with z | z
    · exact hAK a ha z
    · exact hBK b hb z
  have hRK : ∀ r ∈ R, r ⊆ K := fun r hr => hUK r ((hR.mem r).mp hr).1
  have hRa : ∀ r ∈ R, Asc lt r := fun r hr => hU.asc r ((hR.mem r).mp hr).1
  have hQ := rQ.min T i hRK hRa hR.anti
  have hQa : ∀ q ∈ Q, Asc lt q := fun q hq => by
    obtain ⟨x, _, r⟩ := rQ.of q hq
    exact r.asc
  refine hP.eq_of_cof T hQ hU'.asc hQa ?_ ?_
  · intro q hq
    obtain ⟨r, hr, e⟩ := rQ.of q hq
    obtain ⟨a, ha, b, hb, e2⟩ := hU.of r ((hR.mem r).mp hr).1
    obtain ⟨a', ha', ea⟩ := rA.to a ha
    obtain ⟨b', hb', eb⟩ := rB.to b hb
    obtain ⟨u', hu', e3⟩ := hU'.all a' ha' b' hb'
    refine ⟨u', hu', fun y hy => (e.mem y).mpr ?_⟩
    rcases (e3 y).mp hy with z | z
    · obtain ⟨x, hx, q2⟩ := (ea.mem y).mp z
      exact ⟨x, (e2 x).mpr (.inl hx), q2⟩
    · obtain ⟨x, hx, q2⟩ := (eb.mem y).mp z
      exact ⟨x, (e2 x).mpr (.inr hx), q2⟩
  · intro u' hu'
    obtain ⟨a', ha', b', hb', e⟩ := hU'.of u' hu'
    obtain ⟨a, ha, ea⟩ := rA.of a' ha'
    obtain ⟨b, hb, eb⟩ := rB.of b' hb'
    obtain ⟨u, hu, e2⟩ := hU.all a ha b hb
    obtain ⟨r, hr, s⟩ := hR.cof T hU.asc u hu
    obtain ⟨q, hq, e3⟩ := rQ.to r hr
    refine ⟨q, hq, fun y hy => (e y).mpr ?_⟩
    obtain ⟨x, hx, q2⟩ := (e3.mem y).mp hy
    rcases (e2 x).mp (s hx) with z | z
    · exact .inl ((ea.mem y).mpr ⟨x, z, q2⟩)
    · exact .inr ((eb.mem y).mpr ⟨x, z, q2⟩)
theorem Ren.fam (T : Tot lt) {f : α → α} {K : List α} {A B : List (List α)} (i : InjOn f K) (hK : ∀ a ∈ A, a ⊆ K) (h : Fam lt A) (r : Ren lt f A B) : Fam lt B := by
  refine ⟨r.asc, fun y hy => ?_, fun y hy e => ?_, (r.min T i hK h.lots h.anti).anti⟩
  · obtain ⟨x, _, q⟩ := r.of y hy
    exact q.asc
  · obtain ⟨x, hx, q⟩ := r.of y hy
    cases x with
    | nil => exact h.full _ hx rfl
    | cons a x =>
      have z := (q.mem (f a)).mpr ⟨a, List.mem_cons_self, rfl⟩
      rw [e] at z
      cases z
end Lot
/-! text W1 -/
set_option Elab.async false
set_option linter.all false
set_option maxHeartbeats 1000000
/-! typed data over the layer: ==, <, in -/
namespace Dw
open PySem PySem.Spec PyProof.Rows L2 Evl PySem.W
/-- v stands for x in the tracked heap -/
class DV (α : Type) [DecidableEq α] [Datum α] where
  rep : Hp → V → α → Prop
  holds : ∀ {X : Cx} {pins : List (Addr × Obj)} {σ : L2.St} {H : Hp} {s : Shared} {v : V} {x : α} {u : Value}, Inv X pins σ H s → rep H v x → RelV v u → Holds s.heap u x
  ext : ∀ {H H' : Hp} {v : V} {x : α}, Ex H H' → rep H v x → rep H' v x
open DV (rep)
instance : DV Str where
  rep _ v x := v = .str x
  holds := fun _ h r => by
    subst h
    obtain ⟨t, rfl⟩ := r
    exact holds_str _ t
  ext := fun _ h => h
instance : DV Int where
  rep _ v x := v = .int x
  holds := fun _ h r => by
    subst h
    obtain ⟨t, rfl⟩ := r
    exact holds_int _ t
  ext := fun _ h => h
section
variable {α β : Type} [DecidableEq α] [Datum α] [DV α] [DecidableEq β] [Datum β] [DV β]
/-- item by item -/
def Reps (H : Hp) (vs : List V) (xs : List α) : Prop := Paired (fun v x => rep H v x) vs xs
theorem Reps.ext {H H' : Hp} (e : Ex H H') : ∀ {vs : List V} {xs : List α}, Reps H vs xs → Reps H' vs xs
  | _, _, .nil => .nil
  | _, _, .cons h r => .cons (DV.ext e h) (Reps.ext e r)
theorem Reps.holds {X : Cx} {pins : List (Addr × Obj)} {σ : L2.St} {H : Hp} {s : Shared} (I : Inv X pins σ H s) : ∀ {vs : List V} {xs : List α} {us : List Value}, Reps H vs xs → Vals vs us → HoldAll s.heap us xs
  | _, _, _, .nil, .nil => .nil
  | _, _, _, .cons h r, .cons h' r' => .cons (DV.holds I h h') (Reps.holds I r r')
instance : DV (List α) where
  rep H v xs := ∃ a vs, v = .ref a ∧ H a = some (.lst vs) ∧ Reps H vs xs
  holds := fun I h r => by
    obtain ⟨a, vs, rfl, h1, h2⟩ := h
    cases r
    obtain ⟨its, rv, pl, _⟩ := I.list (sq_of h1)
    exact holds_list pl.isList (Reps.holds I h2 (by simpa using rv))
  ext := fun e h => by
    obtain ⟨a, vs, h0, h1, h2⟩ := h
    exact ⟨a, vs, h0, e _ _ h1, Reps.ext e h2⟩
instance : DV (Tup α) where
  rep H v xs := ∃ a vs, v = .ref a ∧ H a = some (.tup vs) ∧ Reps H vs xs.items
  holds := fun I h r => by
    obtain ⟨a, vs, rfl, h1, h2⟩ := h
    cases r
    obtain ⟨its, rv, pl, _⟩ := I.tuple (st_of h1)
    exact holds_tup pl (Reps.holds I h2 (by simpa using rv))
  ext := fun e h => by
    obtain ⟨a, vs, h0, h1, h2⟩ := h
    exact ⟨a, vs, h0, e _ _ h1, Reps.ext e h2⟩
instance : DV (α × β) where
  rep H v p := ∃ a u w, v = .ref a ∧ H a = some (.tup [u, w]) ∧ rep H u p.1 ∧ rep H w p.2
  holds := fun I h r => by
    obtain ⟨a, u, w, rfl, h1, h2, h3⟩ := h
    cases r
    obtain ⟨its, rv, pl, _⟩ := I.tuple (st_of h1)
    obtain ⟨u1, u2, rfl, r1, r2⟩ := vals2 rv
    exact holds_pair pl (DV.holds I h2 r1) (DV.holds I h3 r2)
  ext := fun e h => by
    obtain ⟨a, u, w, h0, h1, h2, h3⟩ := h
    exact ⟨a, u, w, h0, e _ _ h1, DV.ext e h2, DV.ext e h3⟩
theorem Reps.len {H : Hp} : ∀ {vs : List V} {xs : List α}, Reps H vs xs → vs.length = xs.length
  | _, _, .nil => rfl
  | _, _, .cons _ r => by rw [List.length_cons, List.length_cons, Reps.len r]
theorem Reps.at {H : Hp} : ∀ {vs : List V} {xs : List α} {i : Nat} {v : V} {x : α}, Reps H vs xs → vs[i]? = some v → xs[i]? = some x → rep H v x
  | _, _, i, _, _, .nil, h, _ => by simp at h
  | _, _, 0, _, _, .cons q _, h, h' => by
    simp at h h'
    subst h h'
    exact q
  | _, _, i + 1, _, _, .cons _ r, h, h' => Reps.at (i := i) r (by simpa using h) (by simpa using h')
theorem Reps.app {H : Hp} : ∀ {vs ws : List V} {xs ys : List α}, Reps H vs xs → Reps H ws ys → Reps H (vs ++ ws) (xs ++ ys)
  | _, _, _, _, .nil, h => h
  | _, _, _, _, .cons a r, h => .cons a (Reps.app r h)
end
/-! ### comparisons -/
section
variable {X : Cx} {α : Type} [DecidableEq α]
def rLtW (α : Type) [DecidableEq α] [DatumOrd α] [DV α] : R2 := fun x y H Q => ∃ a b : α, rep H x a ∧ rep H y b ∧ Q (.bl (DatumOrd.lt a b)) H
theorem op_ltW [DatumOrd α] [DV α] (hu : X.A.units + Datum.depth α < cLine) : OpR X (compareOp .Lt) (rLtW α) := by
  intro pins s σ H x y v u Q I rx ry h
  obtain ⟨a, b, ha, hb, q⟩ := h
  exact lt_datum (DV.holds I ha rx) (DV.holds I hb ry) hu ⟨.bl _, H, I, rfl, q⟩
def rEqW (α : Type) [DecidableEq α] [Datum α] [DV α] (neg : Bool) : R2 := fun x y H Q => ∃ a b : α, rep H x a ∧ rep H y b ∧ Q (.bl (if neg then decide (a ≠ b) else decide (a = b))) H
theorem op_eqW [Datum α] [DV α] (hu : X.A.units + Datum.depth α < cLine) : OpR X (compareOp .Eq) (rEqW α false) := by
  intro pins s σ H x y v u Q I rx ry h
  obtain ⟨a, b, ha, hb, q⟩ := h
  exact eq_datum (DV.holds I ha rx) (DV.holds I hb ry) hu ⟨.bl _, H, I, rfl, q⟩
theorem op_neW [Datum α] [DV α] (hu : X.A.units + Datum.depth α < cLine) : OpR X (compareOp .NotEq) (rEqW α true) := by
  intro pins s σ H x y v u Q I rx ry h
  obtain ⟨a, b, ha, hb, q⟩ := h
  exact ne_datum (DV.holds I ha rx) (DV.holds I hb ry) hu ⟨.bl _, H, I, rfl, q⟩
def rInW (α : Type) [DecidableEq α] [Datum α] [DV α] (neg : Bool) : R2 := fun x y H Q => ∃ (a : α) (xs : List α), rep H x a ∧ rep H y xs ∧ Q (.bl (if neg then decide (a ∉ xs) else decide (a ∈ xs))) H
theorem op_inW [Datum α] [DV α] (hu : X.A.units + 1 + Datum.depth α < cLine) : OpR X (compareOp .In) (rInW α false) := by
  intro pins s σ H x y v u Q I rx ry h
  obtain ⟨a, xs, ha, ⟨l, vs, rfl, hl, hv⟩, q⟩ := h
  cases ry
  obtain ⟨its, rv, pl, _⟩ := I.list (sq_of hl)
  exact in_list_datum pl.isList (Reps.holds I hv (by simpa using rv)) (DV.holds I ha rx) hu ⟨.bl _, H, I, rfl, q⟩
theorem op_notInW [Datum α] [DV α] (hu : X.A.units + 1 + Datum.depth α < cLine) : OpR X (compareOp .NotIn) (rInW α true) := by
  intro pins s σ H x y v u Q I rx ry h
  obtain ⟨a, xs, ha, ⟨l, vs, rfl, hl, hv⟩, q⟩ := h
  cases ry
  obtain ⟨its, rv, pl, _⟩ := I.list (sq_of hl)
  exact notIn_list_datum pl.isList (Reps.holds I hv (by simpa using rv)) (DV.holds I ha rx) hu ⟨.bl _, H, I, rfl, q⟩
end
end Dw
/-! text W2 -/
set_option Elab.async false
set_option linter.all false
set_option maxHeartbeats 1000000
/-! sorted of typed data -/
namespace Dw
open PySem PySem.Spec PyProof.Rows L2 Evl PySem.W DV
section
variable {α : Type} [DecidableEq α] [DatumOrd α] [DV α]
def leW (a b : α) : Bool := !DatumOrd.lt b a
def srt (xs : List α) : List α := xs.mergeSort leW
theorem leW_eq : dataLe false (Datum.toD (α := α)) = leW := by
  rw [dataLe_eq]
  funext a b
  show (!dataLt (Datum.toD b) (Datum.toD a)) = _
  rw [DatumOrd.lt_eq]
  rfl
theorem srt_mem {xs : List α} {x : α} : x ∈ srt xs ↔ x ∈ xs := List.mem_mergeSort
theorem srt_len (xs : List α) : (srt xs).length = xs.length := List.length_mergeSort xs
theorem srt_perm (xs : List α) : (srt xs).Perm xs := List.mergeSort_perm xs leW
theorem each_of {R : V → α → Prop} {S : V → Value → Prop} : ∀ {vs : List V} {xs : List α} {us : List Value}, Paired R vs xs → Paired S vs us → EachIs (fun u x => ∃ v, S v u ∧ R v x) us xs
  | _, _, _, .nil, .nil => .nil
  | _, _, _, .cons h r, .cons h' r' => .cons ⟨_, h', h⟩ (each_of r r')
theorem of_each {H : Hp} : ∀ {us : List Value} {xs : List α}, EachIs (fun u x => ∃ v, RelV v u ∧ rep H v x) us xs → ∃ vs, Vals vs us ∧ Reps H vs xs
  | _, _, .nil => ⟨[], .nil, .nil⟩
  | _, _, .cons ⟨v, h1, h2⟩ r => by
    obtain ⟨vs, r1, r2⟩ := of_each r
    exact ⟨v :: vs, .cons h1 r1, .cons h2 r2⟩
/-- sorted(xs): xs on the part A of the heap; its things in order in a new list -/
def rSortedW (α : Type) [DecidableEq α] [DatumOrd α] [DV α] : List V → Hp → VK → Prop := fun vs H Q => ∃ (a : Addr) (xs : List α) (A : Hp), vs = [.ref a] ∧ (∀ b o, A b = some o → H b = some o) ∧ rep A (.ref a) xs ∧ ∀ p ws, H p = none → Reps A ws (srt xs) → Q (.ref p) (upd H p (.lst ws))
theorem cr_sortedW {X : Cx} (hs : ∀ (a : α) ys, Datum.toD a ≠ .tuple ys) (hu : X.A.units + 2 + Datum.depth α < cLine) : CallR X (.builtin "sorted") (rSortedW α) := by
  intro pins s σ H vs us Q I r h
  obtain ⟨a, xs, A, rfl, eA, ⟨a', vs', e, hl, hv⟩, q⟩ := h
  cases e
  obtain ⟨its, rv, pl, hz⟩ := I.list (sq_of (eA _ _ hl))
  obtain ⟨u, rfl, ru⟩ := vals1 r
  obtain rfl : u = Value.ref a := ru
  have rv' : Vals vs' its := rv
  have e1 := each_of hv rv'
  refine sorted_data (enc := Datum.toD) pl.isList e1 (e1.mono fun u x ⟨v, h1, h2⟩ => DV.holds I (DV.ext eA h2) h1) (AllAlike.of fun b b' => DatumOrd.alike b b') (Sortable.others fun b => ⟨DatumOrd.notNone b, hs b⟩) (by rw [← Reps.len hv]; exact hz) (fun b _ => by have := Datum.depth_le b; omega) fun out lo eo => ?_
  rw [leW_eq] at eo
  obtain ⟨ws, r1, r2⟩ := of_each eo
  obtain ⟨n, hn⟩ := sortedAll_at s.heap its out.toArray
  have fr : H (s.heap.objs.size + 1) = none := I.hok.fresh (Nat.le_succ _)
  refine ⟨.ref (s.heap.objs.size + 1), upd H (s.heap.objs.size + 1) (.lst ws), I.laid (t' := s.toks) (fun _ _ => sortedAll_old) (Nat.le_succ _) ⟨?_, out, n, r1, hn⟩, rfl, q _ _ fr r2⟩
  rw [Reps.len r2]
  show (xs.mergeSort leW).length ≤ _
  rw [List.length_mergeSort, ← Reps.len hv]
  exact hz
/-- of tuples, none of them empty -/
def rSortedWT (β : Type) [DecidableEq β] [DatumOrd β] [DV β] : List V → Hp → VK → Prop := fun vs H Q => ∃ (a : Addr) (xs : List (Tup β)) (A : Hp), vs = [.ref a] ∧ (∀ b o, A b = some o → H b = some o) ∧ rep A (.ref a) xs ∧ (∀ x ∈ xs, x.items ≠ []) ∧ ∀ p ws, H p = none → Reps A ws (srt xs) → Q (.ref p) (upd H p (.lst ws))
theorem cr_sortedWT {β : Type} [DecidableEq β] [DatumOrd β] [DV β] {X : Cx} (hu : X.A.units + 2 + Datum.depth (Tup β) < cLine) : CallR X (.builtin "sorted") (rSortedWT β) := by
  intro pins s σ H vs us Q I r h
  obtain ⟨a, xs, A, rfl, eA, ⟨a', vs', e, hl, hv⟩, ne, q⟩ := h
  cases e
  obtain ⟨its, rv, pl, hz⟩ := I.list (sq_of (eA _ _ hl))
  obtain ⟨u, rfl, ru⟩ := vals1 r
  obtain rfl : u = Value.ref a := ru
  have rv' : Vals vs' its := rv
  have e1 := each_of hv rv'
  refine sorted_data (enc := Datum.toD) pl.isList e1 (e1.mono fun u x ⟨v, h1, h2⟩ => DV.holds I (DV.ext eA h2) h1) (AllAlike.of fun b b' => DatumOrd.alike b b') (.inl fun d hd => by
    obtain ⟨x, hx, rfl⟩ := List.mem_map.mp hd
    have n := ne x hx
    obtain ⟨its⟩ := x
    cases its with
    | nil => exact absurd rfl n
    | cons y r => exact ⟨_, _, rfl⟩) (by rw [← Reps.len hv]; exact hz) (fun b _ => by have := Datum.depth_le b; omega) fun out lo eo => ?_
  rw [leW_eq] at eo
  obtain ⟨ws, r1, r2⟩ := of_each eo
  obtain ⟨n, hn⟩ := sortedAll_at s.heap its out.toArray
  have fr : H (s.heap.objs.size + 1) = none := I.hok.fresh (Nat.le_succ _)
  refine ⟨.ref (s.heap.objs.size + 1), upd H (s.heap.objs.size + 1) (.lst ws), I.laid (t' := s.toks) (fun _ _ => sortedAll_old) (Nat.le_succ _) ⟨?_, out, n, r1, hn⟩, rfl, q _ _ fr r2⟩
  rw [Reps.len r2]
  show (xs.mergeSort leW).length ≤ _
  rw [List.length_mergeSort, ← Reps.len hv]
  exact hz
end
end Dw
/-! text W3 -/
set_option Elab.async false
set_option linter.all false
set_option maxHeartbeats 1000000
set_option maxRecDepth 100000
/-! sorted(xs, key=f), the keys with lists that stood before -/
namespace Dw
open PySem PySem.Spec PyProof.Rows L2 Evl PySem.W DV
/-- all lists that the key reads stood in the old heap -/
def RdIn (old h : Heap) (v : Value) (k : PyData) : Prop := ∃ as, Reads h v k as ∧ ∀ x ∈ as, ∃ o, old.get? x = some o
def KeyOld (old : Heap) (k : PyData) (s1 : Shared) (v : Value) (s2 : Shared) : Prop := ∃ g t, s2 = { s1 with heap := g, toks := t } ∧ (∀ b o, s1.heap.get? b = some o → g.get? b = some o) ∧ RdIn old g v k
theorem RdIn.keeps {old h g : Heap} {v : Value} {k : PyData} (e : ∀ b o, h.get? b = some o → g.get? b = some o) (r : RdIn old h v k) : RdIn old g v k := by
  obtain ⟨as, r1, r2⟩ := r
  exact ⟨as, PyProof.Rows.Reads.keeps e r1, r2⟩
theorem RdIn.but {old h g : Heap} {v : Value} {k : PyData} {c : Addr} (e : ∀ b o, b ≠ c → h.get? b = some o → g.get? b = some o) (ho : ∀ o, h.get? c = some o → o.cls = .type "list") (hn : old.get? c = none) (al : alike k k = true) (r : RdIn old h v k) : RdIn old g v k := by
  obtain ⟨as, r1, r2⟩ := r
  refine ⟨as, PySem.W.Reads.keepBut e ho k v as al r1 fun z => ?_, r2⟩
  obtain ⟨o, q⟩ := r2 c z
  rw [hn] at q
  cases q
section
variable {prog : Program} {w : World} {A : Around} {E : Value → Shared → Prop} {s : Shared} {a kS : Addr} {b : Bool} {vs : List Value} {e1 : Nat} {P : PySem.Fin → Shared → Prop} {kz : List PyData} {old h1 : Heap} {f : Value}
/-- while the keys are asked: so many so far, in the list at kS -/
def Asked (old h1 : Heap) (a kS : Addr) (e1 : Nat) (s : Shared) (kz : List PyData) (i : Nat) (s' : Shared) : Prop :=
  ∃ g t kA n, s' = { s with heap := g, toks := t } ∧ KeepsBut a h1 g ∧ g.get? kS = some (seqObj "list" kA n) ∧ g.get? a = some (seqObj "list" #[] e1) ∧ EachIs (fun v k => RdIn old g v k ∧ alike k k = true) kA.toList (kz.take i)
theorem keys_rest (kp : KeepsBut a h1 s.heap) (fS : h1.get? kS = none) (oS : old.get? kS = none) (nk : s.heap.get? kS = some (seqObj "list" #[] 0)) (na : s.heap.get? a = some (seqObj "list" #[] e1)) (ne : kS ≠ a)
    (len : kz.length = vs.length) (hZ : vs.length ≤ sizeLine) (al : AllAlike kz) (sk : Sortable kz) (hu : ∀ d, d ∈ kz → A.units + d.depth < cLine)
    (turn : ∀ (i : Nat) (v : Value) (k : PyData), vs[i]? = some v → kz[i]? = some k → ∀ (g : Heap) (t : Nat), KeepsBut a h1 g → wpAny (model prog w) A (call f [v]) (KeyOld old k { s with heap := g, toks := t }) (fun _ _ => False) { s with heap := g, toks := t })
    (fin : ∀ g t out c, KeepsBut a h1 g → g.get? a = some (seqObj "list" (List.toArray out) c) → KeyedOut b kz vs out → P (.done (.ret .none)) { s with heap := g, toks := t }) : wpAny (model prog w) A (ksk_rest a f b vs.toArray e1 (.ref kS)) P E s := by
  unfold ksk_rest
  apply wpAny_bind
  apply wpAny_rule
  first
    | rw [List.forIn_toArray]
    | (rw [← Array.forIn_toList]; simp only [List.toList_toArray])
    | rw [← Array.forIn_toList]
  apply wpAny_bind
  refine ksk_fold (Asked old h1 a kS e1 s kz) vs 0 s ⟨s.heap, s.toks, #[], 0, rfl, kp, nk, na, by rw [List.take_zero]; exact .nil⟩ ?one ?end_
  case one =>
    rintro j x s' hx ⟨g, t, kA, n, rfl, kg, ng, ag, eg⟩
    rw [Nat.zero_add] at eg ⊢
    have hj : j < vs.length := (List.getElem?_eq_some_iff.mp hx).1
    have hkj : kz[j]? = some kz[j] := List.getElem?_eq_getElem (by omega)
    have hm := List.mem_of_getElem? hkj
    have small : kA.size ≤ vs.length := by
      have q := eg.length
      rw [Array.length_toList, List.length_take] at q
      omega
    apply wpAny_bind
    apply wpAny_attempt
    refine wpAny_mono (turn j x _ hx hkj g t kg) (fun v s2 y => ?_) fun _ _ z => z.elim
    obtain ⟨g2, t2, rfl, k2, r2⟩ := y
    dsimp only
    have nk2 := k2 _ _ ng
    have sb := Heap.SameBut.update g2 kS (Obj.mapSeq (·.push v))
    apply wpAny_bind
    refine listUpdate_at nk2 rfl ?_ (Nat.le_trans small hZ) (by rw [Array.size_push]; omega)
    have stay : ∀ (u : Value) (d : PyData), RdIn old g2 u d ∧ alike d d = true → RdIn old (g2.update kS (Obj.mapSeq (·.push v))) u d ∧ alike d d = true := fun u d z =>
      ⟨z.1.but (fun b o hb q => (sb.2 b hb).trans q) (fun o q => by rw [nk2] at q; rw [← Option.some.inj q]) oS z.2, z.2⟩
    apply wpAny_pure
    refine ⟨rfl, _, _, kA.push v, _, rfl, (kg.trans_all k2).same sb (.inr fS), get?_update_seq nk2 (·.push v), (sb.2 a ne.symm).trans (k2 _ _ ag), ?_⟩
    rw [Array.toList_push, List.take_add_one, hkj]
    exact each_snoc (R := fun (u : Value) (d : PyData) => RdIn old (g2.update kS (Obj.mapSeq (·.push v))) u d ∧ alike d d = true) (stay v _ ⟨r2, al _ hm _ hm⟩) (eg.mono fun u d z => stay u d ⟨z.1.keeps k2, z.2⟩)
  case end_ =>
    rintro s' ⟨g, t, kA, n, rfl, kg, ng, ag, eg⟩
    rw [Nat.zero_add, List.take_of_length_le (by omega)] at eg
    have rd : EachIs (fun v k => ∃ as, Reads g v k as) kA.toList kz := eg.mono fun v k z => ⟨z.1.choose, z.1.choose_spec.1⟩
    have size : kA.size = vs.length := by
      have q := rd.length
      rw [Array.length_toList] at q
      omega
    apply wpAny_bind
    refine listItems_at ng rfl ?_
    refine keyH_end (κ := dataKind g kz) (h₁ := h1) kg fS ng ag ne (SortsAt.data (s := { s with heap := g, toks := t }) rd al sk hu) size hZ fun g3 t3 c k3 n3 => ?_
    exact fin g3 t3 _ c k3 n3 ⟨g, kA.toList, al, rfl, rd⟩
theorem keys_tree {n : Nat} (ho : s.heap.get? a = some (seqObj "list" vs.toArray n)) (old_le : ∀ b, s.heap.objs.size ≤ b → old.get? b = none) (len : kz.length = vs.length) (hZ : vs.length ≤ sizeLine) (al : AllAlike kz) (sk : Sortable kz) (hu : ∀ d, d ∈ kz → A.units + d.depth < cLine)
    (turn : ∀ (i : Nat) (v : Value) (k : PyData), vs[i]? = some v → kz[i]? = some k → ∀ (g : Heap) (t : Nat), KeepsBut a s.heap g → wpAny (model prog w) A (call f [v]) (KeyOld old k { s with heap := g, toks := t }) (fun _ _ => False) { s with heap := g, toks := t })
    (fin : ∀ g t out c, KeepsBut a s.heap g → g.get? a = some (seqObj "list" (List.toArray out) c) → KeyedOut b kz vs out → P (.done (.ret .none)) { s with heap := g, toks := t }) : wpAny (model prog w) A (ksk_tree a f b) P E s := by
  have la := Heap.lt_size ho
  have ho1 := get?_update_seq ho fun _ => (#[] : Array Value)
  have size : ((s.heap.update a (Obj.mapSeq fun _ => (#[] : Array Value))).push (seqObj "tuple" vs.toArray 0)).objs.size = s.heap.objs.size + 1 := by rw [size_push', Heap.size_update]
  unfold ksk_tree
  apply wpAny_bind
  refine listItems_at ho rfl ?_
  apply wpAny_bind
  refine listUpdate_at ho rfl ?_ (by rw [List.size_toArray]; exact hZ) (Nat.zero_le _)
  apply wpAny_bind
  refine seqEpoch_at ho1 rfl ?_
  apply wpAny_bind
  refine wpAny_newTuple ?_ hZ
  apply wpAny_bind
  refine wpAny_newList ?_ (Nat.zero_le _)
  apply wpAny_holding
  refine keys_rest (kz := kz) (h1 := s.heap) (old := old) (s := { s with heap := ((s.heap.update a (Obj.mapSeq fun _ => (#[] : Array Value))).push (seqObj "tuple" vs.toArray 0)).push (seqObj "list" #[] 0) }) (fun b o hb q => sortingHeap_old hb q) ?_ ?_ (Heap.get?_push_size _ rfl) ?_ ?_ len hZ al sk hu turn fin
  · exact Heap.get?_none_of_le (by rw [size]; omega)
  · exact old_le _ (by rw [size]; omega)
  · exact Heap.get?_push_of_some _ (Heap.get?_push_of_some _ ho1)
  · rw [size]
    exact Nat.ne_of_gt (Nat.lt_succ_of_lt la)
end
end Dw
/-! text W4 -/
set_option Elab.async false
set_option linter.all false
set_option maxHeartbeats 1000000
set_option maxRecDepth 100000
/-! sorted(xs, key=f) as one step: the items by their keys -/
namespace Dw
open PySem PySem.Spec PyProof.Rows L2 Evl PySem.W DV
section
variable {prog : Program} {w : World} {A : Around} {E : Value → Shared → Prop} {s : Shared} {β : Type} {vs : List Value} {bs : List β} {R : Value → β → Prop}
theorem sorted_key_old {l f : Addr} {Q : Value → Shared → Prop} (k : β → PyData) (hl : s.heap.IsList l vs.toArray) (e : EachIs R vs bs) (al : AllAlike (bs.map k)) (sk : Sortable (bs.map k)) (hL : bs.length ≤ sizeLine) (hu : ∀ x, x ∈ bs → A.units + 2 + (k x).depth < cLine)
    (turn : ∀ (v : Value) (x : β), R v x → x ∈ bs → ∀ (g : Heap) (t : Nat), (∀ b o, s.heap.get? b = some o → g.get? b = some o) → wpAny (model prog w) A.in1.in1 (call (.ref f) [v]) (KeyOld s.heap (k x) { s with heap := g, toks := t }) (fun _ _ => False) { s with heap := g, toks := t })
    (fin : ∀ out c g t, (∀ b o, s.heap.get? b = some o → g.get? b = some o) → g.get? (s.heap.objs.size + 1) = some (seqObj "list" (List.toArray out) c) → EachIs R out (bs.mergeSort (dataLe false k)) → Q (.ref (s.heap.objs.size + 1)) { s with heap := g, toks := t }) :
    wpAny (model prog w) A (call (.builtin "sorted") [.ref l] [(Str.ofString "key", .ref f)]) Q E s := by
  have len := e.length
  have up : ∀ {g : Heap}, KeepsBut (s.heap.objs.size + 1) (copyHeap s.heap vs) g → ∀ b o, s.heap.get? b = some o → g.get? b = some o := fun {g} kp b o q => by
    have lb := Heap.lt_size q
    exact kp b o (Nat.ne_of_lt (Nat.lt_succ_of_lt lb)) (copyHeap_old q)
  refine sorted_of_sort hl (by rw [len]; exact hL) (ksk_s1 _ _) (fun _ => ksk_l1 _ _) fun E' => ?_
  rw [ksk_t1]
  have grow : s.heap.objs.size ≤ (copyHeap s.heap vs).objs.size := by
    have q : s.heap.objs.size + 1 < (copyHeap s.heap vs).objs.size := Heap.lt_size (copyHeap_at s.heap vs)
    exact Nat.le_trans (Nat.le_succ _) (Nat.le_of_lt q)
  refine keys_tree (b := false) (kz := bs.map k) (old := s.heap) (s := { s with heap := copyHeap s.heap vs }) (copyHeap_at s.heap vs) (fun b hb => Heap.get?_none_of_le (Nat.le_trans grow hb)) (by rw [List.length_map, len]) (by rw [len]; exact hL) al sk (bound_map (A := A.in1.in1) hu) (fun i v d hv hd g t kp => ?_) fun g t out c kp hD ko => ⟨rfl, ?_⟩
  · rw [List.getElem?_map] at hd
    obtain ⟨x, hx, rfl⟩ := Option.map_eq_some_iff.mp hd
    have hz : (v, x) ∈ vs.zip bs := List.mem_of_getElem? (i := i) (List.getElem?_zip_eq_some.mpr ⟨hv, hx⟩)
    exact turn v x (e.zip _ hz) (List.mem_of_getElem? hx) g t (up kp)
  · exact fin out c g t (up kp) hD (keyedOut_each k ko e)
end
end Dw
/-! text W5 -/
set_option Elab.async false
set_option linter.all false
set_option maxHeartbeats 1000000
set_option maxRecDepth 100000
/-! the call of `lambda one: (len(one), one)`: all that stood stays as it is -/
namespace Dw
open PySem PySem.Spec PyProof.Rows L2 Evl PySem.W DV
section
variable {prog : Program} {w : World} {A : Around} {E : Value → Shared → Prop} {s : Shared} {f l c : Addr} {its : Array Value} {qual : Str} {p0 p1 p2 p3 p4 p5 : Pos} {x1 : Nat} {pm ctv : Value} {mg mb : Str → Option Value} {Q : Value → Shared → Prop}
abbrev lnBody (p1 p2 p3 p4 p5 : Pos) (x1 : Nat) : Expr := .Tuple [.Call (.Name "len" p1) [.Name "one" p2] [] p3, .Name "one" p4] x1 p5
abbrev lnPar (p0 : Pos) : Arguments := { posonlyargs := [], args := [{ arg := "one", annotation := none, pos := p0 }], vararg := none, kwonlyargs := [], kw_defaults := [], kwarg := none, defaults := [] }
abbrev lnSc : Scope := { kind := .function, names := [("one", .local), ("len", .globalImplicit)], isGenerator := false, isCoroutine := false }
theorem lam_key (hd : A.depth < recursionLimit) (ho : s.heap.get? f = some (PySem.W.kla_obj "<lambda>" qual (lnPar p0) (lnBody p1 p2 p3 p4 p5 x1) lnSc [] pm c ctv)) (hc : s.heap.CodeRec (.ref c) qual)
    (hg : s.heap.Ns mainGlobals mg) (hm : mg "len" = none) (hb : s.heap.Ns builtinsNs mb) (hbl : mb "len" = some (.builtin "len")) (hn : s.heap.NoLimit) (hl : s.heap.IsList l its) (small : (its.size : Int) < 2 ^ 63)
    (h : ∀ (g : Heap) (t t0 : Nat), (∀ b o, s.heap.get? b = some o → g.get? b = some o) → Q (.ref g.objs.size) { s with heap := g.push { cls := .type "tuple", data := .seq #[.int its.size t0, .ref l] }, toks := t }) :
    wpAny (model prog w) A (call (.ref f) [.ref l]) Q E s := by
  apply wpAny_call
  refine PySem.W.kla_callFunE hd ho rfl rfl rfl rfl hc ?_
  show wpAny _ _ (pure [(("one" : Str), Value.ref l)]) _ _ _
  apply wpAny_pure
  refine wpAny_newFunctionEnv (fun x hx => ?_) (fun x hx => ?_) (fun h1 hns hsb => ⟨hn.fresh _ hsb, ?_⟩) rfl
  · rcases List.mem_cons.mp hx with z | z
    · rw [z]
      exact fun q => by cases q
    · rw [List.mem_singleton.mp z]
      exact fun q => by cases q
  · rw [List.mem_singleton.mp hx]
    rfl
  have kp : ∀ b o, s.heap.get? b = some o → h1.get? b = some o := fun b o e => hsb.extBut b o (Nat.ne_of_lt (Heap.lt_size e)) (Heap.get?_push_of_some _ e)
  apply PySem.W.kla_codeExpr
  have one : ∀ {p : Pos} {Q' : Value → Shared → Prop} {E' : Value → Shared → Prop} {A' : Around} {t : Nat}, Q' (.ref l) { s with heap := h1, toks := t } → wpAny (model prog w) A' (eval (.Name "one" p) (newEnv lnSc s.heap.objs.size mainGlobals [] (qual ++ ".<locals>.") (some f) (.ref c) none builtinsNs)) Q' E' { s with heap := h1, toks := t } := fun {p Q' E' A' t} q =>
    wpAny_Name (wpAny_loadName_local rfl rfl hns rfl q) (by decide)
  apply wpAny_Tuple_spliced
  refine Calls.spliced_cons ?_
  refine wpAny_Call_Name_kw (Calls.Name_function_global rfl rfl (Calls.loadGlobal_builtin (hg.keeps kp) hm (hb.keeps kp) hbl ?_) (by decide))
  refine PyProof.Rows.callWith_builtin1 (Calls.spliced_cons (one (Calls.spliced_nil ?_))) rfl rfl
  have hl1 : h1.IsList l its := by
    obtain ⟨o, z1, z2, z3⟩ := hl
    exact ⟨o, kp _ _ z1, z2, z3⟩
  refine PySem.Calls.call_len_list hl1 small ?_
  refine Calls.spliced_cons (one (Calls.spliced_nil ⟨by show 2 ≤ sizeLine; decide, ?_⟩))
  exact h h1 _ _ kp
end
end Dw
/-! text W6 -/
set_option Elab.async false
set_option linter.all false
set_option maxHeartbeats 1000000
set_option maxRecDepth 100000
/-! sorted(xs, key=lambda one: (len(one), one)) over the layer, xs lists of texts -/
namespace Dw
open PySem PySem.Spec PyProof.Rows L2 Evl PySem.W DV LmV LamX NdefX
def keyD (x : List Str) : PyData := .tuple [.int x.length, Datum.toD x]
def leK : List Str → List Str → Bool := dataLe false keyD
def srtK (xs : List (List Str)) : List (List Str) := xs.mergeSort leK
/-- F is that lambda -/
structure LnF (F : LF) : Prop where
  sc : F.scope = lnSc
  cl : F.cl = []
  ps : ∃ p, F.params = lnPar p
  bd : ∃ p1 p2 p3 p4 p5 x1, F.body = lnBody p1 p2 p3 p4 p5 x1
def rSortedKeyW (K : PySem.W.Frag) : List V → List V → Hp → VK → Prop := fun vs zs H Q => ∃ (a f : Addr) (F : LF) (xs : List (List Str)) (A : Hp), vs = [.ref a] ∧ zs = [.ref f] ∧ LnF F ∧ H f = some (LamO f F) ∧ H F.c = some (CodeO F.c F.qual) ∧ (∀ b o, A b = some o → H b = some o) ∧ rep A (.ref a) xs ∧
  ∀ p ws, H p = none → Reps A ws (srtK xs) → Q (.ref p) (upd H p (.lst ws))
theorem cr_sortedKeyW {X : Cx} (hr : Room 1 X.A) (hm : X.mg "len" = none) : CallRK X (.builtin "sorted") [Str.ofString "key"] (rSortedKeyW X.K) := by
  intro pins s σ H vs zs us ws Q I r rz h
  obtain ⟨a, f, F, xs, A, rfl, rfl, ⟨sc, cl, ⟨p0, pp⟩, p1, p2, p3, p4, p5, x1, bd⟩, hf, hc, eA, ⟨a', vs', e, hl, hv⟩, q⟩ := h
  cases e
  obtain ⟨its, rv, pl, hz⟩ := I.list (sq_of (eA _ _ hl))
  obtain ⟨u, rfl, ru⟩ := vals1 r
  obtain rfl : u = Value.ref a := ru
  obtain ⟨u2, rfl, ru2⟩ := vals1 rz
  obtain rfl : u2 = Value.ref f := ru2
  have e1 := each_of hv (show Vals vs' its from rv)
  obtain ⟨pm, ctv, ho⟩ := lamO_at I.hok hf
  obtain ⟨qual, params, body, scope, clo, c⟩ := F
  dsimp only at sc cl pp bd ho hc
  subst sc cl pp bd
  have cr := codeO_at I.hok hc
  obtain ⟨mb, hb1, hb2⟩ := I.mod.blt
  show wpAny _ _ (call (.builtin "sorted") [.ref a] [(Str.ofString "key", .ref f)]) _ _ _
  refine sorted_key_old (bs := xs) (R := fun u x => ∃ v, RelV v u ∧ rep A v x) keyD pl.isList e1 (AllAlike.of fun b b' => ?_) (Sortable.tuples fun b => ⟨_, _, rfl⟩) (by rw [← Reps.len hv]; exact hz) (fun x _ => ?_) (fun v x hR hx g t kp => ?_) fun out c' g t kp hg eo => ?_
  · simp [keyD, alike, alikeAll, DatumOrd.alike]
  · have d1 := Datum.depth_le x
    have d2 : Datum.depth (List Str) = 1 := rfl
    have d3 := hr.un
    have d4 : (keyD x).depth = (Datum.toD x).depth + 1 := by simp [keyD, PyData.depth, PyData.depthAll]
    omega
  · obtain ⟨v', rv', a2, vs2, rfl, hl2, hv2⟩ := hR
    cases rv'
    obtain ⟨its2, rv2, pl2, hz2⟩ := I.list (sq_of (eA _ _ hl2))
    have keepL : ∀ {l : Addr} {z : Array Value}, s.heap.IsList l z → g.IsList l z := fun ⟨o, z1, z2, z3⟩ => ⟨o, kp _ _ z1, z2, z3⟩
    have I2 : Inv X pins σ H { s with heap := g, toks := t } := I.kept (t' := t) kp
    refine lam_key (A := X.A.in1.in1) (s := { s with heap := g, toks := t }) (its := its2.toArray) (mg := X.mg) (mb := mb) hr.depth (kp _ _ ho) (codeO_at I2.hok hc) (I.mod.glob.keeps fun b o z => kp b o (I.bk b o z)) hm (hb1.keeps fun b o z => kp b o (I.bk b o z)) ((hb2 "len" (by decide)).trans (by decide +kernel)) (I.mod.nolimit.keeps fun b o z => kp b o (I.bk b o z)) (keepL pl2.isList) ?_ fun g2 t2 t0 kg => ?_
    · rw [List.size_toArray, ← rv2.length]
      have z : sizeLine ≤ 2 ^ 62 := by decide
      have z2 : (vs2.length : Int) ≤ (2 ^ 62 : Nat) := by exact_mod_cast Nat.le_trans hz2 z
      have z3 : ((2 ^ 62 : Nat) : Int) < 2 ^ 63 := by decide
      omega
    · have hx1 : rep H (.ref a2) x := DV.ext eA ⟨a2, vs2, rfl, hl2, hv2⟩
      have hx2 : Holds s.heap (.ref a2) x := DV.holds I hx1 rfl
      obtain ⟨as, ra⟩ := hx2
      have kall : ∀ b o, s.heap.get? b = some o → (g2.push { cls := .type "tuple", data := .seq #[.int its2.toArray.size t0, .ref a2] }).get? b = some o := fun b o z => Heap.get?_push_of_some _ (kg b o (kp b o z))
      have en : (its2.toArray.size : Int) = (x.length : Int) := by rw [List.size_toArray, ← rv2.length, Reps.len hv2]
      refine ⟨_, _, rfl, fun b o z => Heap.get?_push_of_some _ (kg b o z), [] ++ (as ++ []), ?_, fun y hy => PyProof.On.reads_mem_get ra y (by simpa using hy)⟩
      refine .tuple (Heap.get?_push_size _ rfl) rfl rfl ?_
      rw [← en]
      exact .cons (.int _ t0) (.cons (PyProof.Rows.Reads.keeps kall ra) .nil)
  · obtain ⟨ws, r1, r2⟩ := of_each eo
    have fr : H (s.heap.objs.size + 1) = none := I.hok.fresh (Nat.le_succ _)
    refine ⟨.ref (s.heap.objs.size + 1), upd H (s.heap.objs.size + 1) (.lst ws), I.laid (t' := t) kp (Nat.le_succ _) ⟨?_, out, c', r1, hg⟩, rfl, q _ _ fr r2⟩
    rw [Reps.len r2]
    show (xs.mergeSort leK).length ≤ _
    rw [List.length_mergeSort, ← Reps.len hv]
    exact hz
end Dw
/-! text W7 -/
set_option Elab.async false
set_option linter.all false
set_option maxHeartbeats 1000000
/-! what a reading evaluates to, typed -/
namespace Dw
open PySem PySem.Spec PyProof.Rows L2 Evl PySem.W DV
/-- what a result stands on: things that are known at H, or new since H1 -/
structure Sup (H H1 H2 Hs : Hp) : Prop where
  e : Ex Hs H2
  o : ∀ b u, Hs b = some u → H b = some u ∨ H1 b = none
/-- two parts of one heap, joined -/
def jn (A B : Hp) : Hp := fun b => match A b with
  | some o => some o
  | none => B b
theorem jn_l {A B : Hp} : Ex A (jn A B) := fun b o h => by
  unfold jn
  rw [h]
theorem jn_of {A B : Hp} {b : Addr} {o : HO} (h : jn A B b = some o) : A b = some o ∨ B b = some o := by
  unfold jn at h
  cases e : A b with
  | some u =>
    rw [e] at h
    exact .inl h
  | none =>
    rw [e] at h
    exact .inr h
theorem jn_r {A B H : Hp} (a : Ex A H) (b : Ex B H) : Ex B (jn A B) := fun c o h => by
  unfold jn
  cases e : A c with
  | some u =>
    have q := (a _ _ e).symm.trans (b _ _ h)
    exact q
  | none => exact h
theorem jn_ex {A B H : Hp} (a : Ex A H) (b : Ex B H) : Ex (jn A B) H := fun c o h => (jn_of h).elim (a c o) (b c o)
section
variable {α β γ : Type} [DecidableEq α] [Datum α] [DV α] [DecidableEq β] [Datum β] [DV β] [DecidableEq γ] [Datum γ] [DV γ] {K : PySem.W.Frag} {σ : L2.St} {H H' : Hp} {te ta tb : TE} {tt : TT}
/-- te goes on with something that stands for x -/
def EvD (te : TE) (σ : L2.St) (H : Hp) (x : α) : Prop := ∀ H1, Ex H H1 → ∀ Q : VK, (∀ v H2 Hs, Ex H1 H2 → Sup H H1 H2 Hs → rep Hs v x → Q v H2) → te σ H1 Q
theorem EvD.mono {x : α} (e : Ex H H') (h : EvD te σ H x) : EvD te σ H' x := fun H1 a Q q => h H1 (e.trans a) Q fun v H2 Hs e2 s r => q v H2 Hs e2 ⟨s.e, fun b u z => (s.o b u z).elim (fun y => .inl (e b u y)) .inr⟩ r
theorem ed_var {i : Nat} {v : V} {x : α} (h : σ[i]? = some (some v)) (r : rep H v x) : EvD (tVar i) σ H x := fun H1 e _ q => ⟨v, h, q v H1 H (Ex.refl H1) ⟨e, fun b u z => .inl z⟩ r⟩
theorem sup0 {H H1 : Hp} : Sup H H1 H1 (fun _ => none) := ⟨fun b o h => (by cases h), fun b u h => (by cases h)⟩
theorem ed_str {x : Str} : EvD (tC (.str x)) σ H x := fun H1 _ _ q => q _ H1 _ (Ex.refl H1) sup0 rfl
theorem ed_int {x : Int} : EvD (tC (.int x)) σ H x := fun H1 _ _ q => q _ H1 _ (Ex.refl H1) sup0 rfl
theorem ed_is {x y : α} (h : EvD te σ H x) (e : x = y) : EvD te σ H y := by
  rw [← e]
  exact h
/-- as the plain calculus says it: the heap as a whole -/
theorem EvD.go {x : α} (h : EvD te σ H x) {H1 : Hp} (e : Ex H H1) {Q : VK} (q : ∀ v H2, Ex H1 H2 → rep H2 v x → Q v H2) : te σ H1 Q := h H1 e Q fun v H2 Hs e2 s r => q v H2 e2 (DV.ext s.e r)
theorem ev_ltD {α : Type} [DecidableEq α] [DatumOrd α] [DV α] {x y : α} (ha : EvD ta σ H x) (hb : EvD tb σ H y) : Ev (tOp (rLtW α) ta tb) σ H (.bl (DatumOrd.lt x y)) := fun H1 e Q q =>
  ha.go e fun v H2 e2 r => hb.go (e.trans e2) fun u H3 e3 r2 => ⟨x, y, DV.ext e3 r, r2, q H3 (e2.trans e3)⟩
theorem ev_eqD {x y : α} (ha : EvD ta σ H x) (hb : EvD tb σ H y) : Ev (tOp (rEqW α false) ta tb) σ H (.bl (decide (x = y))) := fun H1 e Q q =>
  ha.go e fun v H2 e2 r => hb.go (e.trans e2) fun u H3 e3 r2 => ⟨x, y, DV.ext e3 r, r2, q H3 (e2.trans e3)⟩
theorem ev_neD {x y : α} (ha : EvD ta σ H x) (hb : EvD tb σ H y) : Ev (tOp (rEqW α true) ta tb) σ H (.bl (decide (x ≠ y))) := fun H1 e Q q =>
  ha.go e fun v H2 e2 r => hb.go (e.trans e2) fun u H3 e3 r2 => ⟨x, y, DV.ext e3 r, r2, q H3 (e2.trans e3)⟩
theorem ev_inD {x : α} {xs : List α} (ha : EvD ta σ H x) (hb : EvD tb σ H xs) : Ev (tOp (rInW α false) ta tb) σ H (.bl (decide (x ∈ xs))) := fun H1 e Q q =>
  ha.go e fun v H2 e2 r => hb.go (e.trans e2) fun u H3 e3 r2 => ⟨x, xs, DV.ext e3 r, r2, q H3 (e2.trans e3)⟩
theorem ev_notInD {x : α} {xs : List α} (ha : EvD ta σ H x) (hb : EvD tb σ H xs) : Ev (tOp (rInW α true) ta tb) σ H (.bl (decide (x ∉ xs))) := fun H1 e Q q =>
  ha.go e fun v H2 e2 r => hb.go (e.trans e2) fun u H3 e3 r2 => ⟨x, xs, DV.ext e3 r, r2, q H3 (e2.trans e3)⟩
/-- a comprehension over a typed list: g says what an item gives, f which items are taken -/
theorem ed_lc {xs : List α} {tl : TE} {j : Nat} {vs : List Nat} (f : α → Bool) (g : α → β) (h : EvD tl σ H xs) (hz : xs.length ≤ 40000) (hw : ∀ x, wipe ((wipe σ vs).set j (some x)) vs = wipe σ vs)
    (ht : ∀ (x : α) (v : V) H1, Ex H H1 → x ∈ xs → rep H1 v x → EvT tt ((wipe σ vs).set j (some v)) H1 (f x)) (he : ∀ (x : α) (v : V) H1, Ex H H1 → x ∈ xs → rep H1 v x → f x = true → EvD te ((wipe σ vs).set j (some v)) H1 (g x)) :
    EvD (tLc (iList K tl) (gName j) tt te vs) σ H ((xs.filter f).map g) := fun H1 e Q q => h H1 e _ fun v H2 Hs e2 sp r => by
  obtain ⟨a, us, rfl, h1, h2⟩ := r
  have len := Reps.len h2
  have ha := sp.e _ _ h1
  -- the base of the turns: what is known, with what the list stands on
  have eB : Ex (jn H Hs) H2 := jn_ex (e.trans e2) sp.e
  refine ⟨a, rfl, ⟨us, sq_of ha⟩, fun D hD => ?_⟩
  have hBD : jn H Hs D = none := by
    cases z : jn H Hs D with
    | none => rfl
    | some o =>
      rw [eB _ _ z] at hD
      cases hD
  refine lc_list (xs := us) (fun i H' => H2 D = none ∧ Ex H2 H' ∧ ∃ ws Hw, H' D = some (.lst ws) ∧ Ex Hw H' ∧ (∀ b u, Hw b = some u → b ≠ D ∧ (H b = some u ∨ H1 b = none)) ∧ Reps Hw ws (((xs.take i).filter f).map g)) ⟨hD, Ex.new hD, [], fun _ => none, upd_same, fun _ _ z => (by cases z), fun _ _ z => (by cases z), .nil⟩ (fun i H' _ p => sq_of (p.2.1 _ _ ha)) (fun i v H' hi p => ?_) (fun H' p => ?_)
  · obtain ⟨p1, p2, ws, Hw, p3, p4, p5, p6⟩ := p
    obtain ⟨li, _⟩ := List.getElem?_eq_some_iff.mp hi
    have hx : xs[i]? = some xs[i] := List.getElem?_eq_getElem (by omega)
    have rs : rep Hs v xs[i] := Reps.at h2 hi hx
    have rB : rep (jn H Hs) v xs[i] := DV.ext (jn_r (e.trans e2) sp.e) rs
    have mx : xs[i] ∈ xs := List.mem_of_getElem? hx
    refine ⟨hw v, ht _ v (jn H Hs) jn_l mx rB H' (eB.trans p2) _ fun H3 e3 => ?_⟩
    cases hf : f xs[i] with
    | true =>
      show te _ H3 fun y H4 => ∃ acc, H4 D = some (.lst acc) ∧ acc.length < sizeLine ∧ _
      refine he _ v (jn H Hs) jn_l mx rB hf H3 ((eB.trans p2).trans e3) _ fun y H4 Hy e4 sy r4 => ⟨ws, e4 _ _ (e3 _ _ p3), ?_, p1, ((p2.trans e3).trans e4).mut p1, ws ++ [y], jn Hw Hy, upd_same, ?_, ?_, ?_⟩
      · have l4 := Reps.len p6
        rw [List.length_map] at l4
        have l5 := List.length_filter_le f (xs.take i)
        rw [List.length_take] at l5
        exact sz_lt (by omega)
      · intro b u z
        have nD : b ≠ D := by
          rcases jn_of z with y | y
          · exact (p5 b u y).1
          · intro q
            rw [q] at y
            rcases sy.o D u y with w | w
            · rw [hBD] at w
              cases w
            · rw [e3 _ _ p3] at w
              cases w
        rw [upd_ne nD]
        rcases jn_of z with y | y
        · exact e4 _ _ (e3 _ _ (p4 _ _ y))
        · exact sy.e _ _ y
      · intro b u z
        rcases jn_of z with y | y
        · exact p5 b u y
        · refine ⟨fun q => ?_, ?_⟩
          · rw [q] at y
            rcases sy.o D u y with w | w
            · rw [hBD] at w
              cases w
            · rw [e3 _ _ p3] at w
              cases w
          · rcases sy.o b u y with w | w
            · rcases jn_of w with m | m
              · exact .inl m
              · exact sp.o b u m
            · right
              cases m : H1 b with
              | none => rfl
              | some o =>
                rw [e3 _ _ (p2 _ _ (e2 _ _ m))] at w
                cases w
      · have t1 : ((xs.take (i + 1)).filter f).map g = ((xs.take i).filter f).map g ++ [g xs[i]] := by
          rw [List.take_add_one, hx, List.filter_append, List.map_append]
          simp [hf]
        rw [t1]
        have q1 : Ex Hw H4 := (p4.trans e3).trans e4
        exact Reps.app (Reps.ext jn_l p6) (.cons (DV.ext (jn_r q1 sy.e) r4) .nil)
    | false =>
      show _ ∧ _
      refine ⟨p1, p2.trans e3, ws, Hw, e3 _ _ p3, p4.trans e3, p5, ?_⟩
      have t1 : ((xs.take (i + 1)).filter f).map g = ((xs.take i).filter f).map g := by
        rw [List.take_add_one, hx, List.filter_append]
        simp [hf]
      rw [t1]
      exact p6
  · obtain ⟨p1, p2, ws, Hw, p3, p4, p5, p6⟩ := p
    rw [List.take_of_length_le (by omega)] at p6
    have nw : Hw D = none := by
      cases z : Hw D with
      | none => rfl
      | some o => exact absurd rfl (p5 D o z).1
    refine q _ H' (upd Hw D (.lst ws)) (e2.trans p2) ⟨fun b u z => ?_, fun b u z => ?_⟩ ⟨D, ws, rfl, upd_same, Reps.ext (Ex.new nw) p6⟩
    · by_cases y : b = D
      · rw [y, upd_same] at z
        rw [y, p3]
        exact z
      · rw [upd_ne y] at z
        exact p4 _ _ z
    · by_cases y : b = D
      · right
        rw [y]
        cases m : H1 D with
        | none => rfl
        | some o =>
          rw [e2 _ _ m] at p1
          cases p1
      · rw [upd_ne y] at z
        exact (p5 b u z).2
end
end Dw
/-! text W8 -/
set_option Elab.async false
set_option linter.all false
set_option maxHeartbeats 1000000
/-! the typed calculus: truth values, all, any, len, sorted, displays, calls -/
namespace Dw
open PySem PySem.Spec PyProof.Rows L2 Evl PySem.W DV
instance : DV Bool where
  rep _ v x := v = .bl x
  holds := fun _ h r => by
    subst h
    cases r
    exact holds_bool _
  ext := fun _ h => h
theorem reps_bl {H : Hp} : ∀ {vs : List V} {bs : List Bool}, Reps H vs bs → vs = bs.map V.bl
  | _, _, .nil => rfl
  | _, _, .cons h r => by
    rw [List.map_cons, ← reps_bl r]
    exact congrArg (· :: _) h
theorem reps_str {H : Hp} : ∀ {vs : List V} {bs : List Str}, Reps H vs bs → vs = bs.map V.str
  | _, _, .nil => rfl
  | _, _, .cons h r => by
    rw [List.map_cons, ← reps_str r]
    exact congrArg (· :: _) h
section
variable {α β γ : Type} [DecidableEq α] [Datum α] [DV α] [DecidableEq β] [Datum β] [DV β] [DecidableEq γ] [Datum γ] [DV γ] {K : PySem.W.Frag} {σ : L2.St} {H H' : Hp} {te ta tb : TE} {tt : TT}
theorem ed_bl {b : Bool} (h : Ev te σ H (.bl b)) : EvD te σ H b := fun H1 e _ q => h H1 e _ fun H2 e2 => q _ H2 (fun _ => none) e2 ⟨fun _ _ z => (by cases z), fun _ _ z => (by cases z)⟩ rfl
theorem ev_of {b : Bool} (h : EvD te σ H b) : Ev te σ H (.bl b) := fun H1 e Q q => h.go e fun v H2 e2 r => by
  have r' : v = V.bl b := r
  rw [r']
  exact q H2 e2
theorem ev_allD {bs : List Bool} (h : EvD te σ H bs) : Ev (tCB (rAll K) (tCons te tNil)) σ H (.bl (bs.all id)) := fun H1 e Q q => h.go e fun v H2 e2 r => by
  obtain ⟨a, vs, rfl, h1, h2⟩ := r
  rw [reps_bl h2] at h1
  exact ⟨a, bs, rfl, sq_of h1, q H2 e2⟩
theorem ev_anyD {bs : List Bool} (h : EvD te σ H bs) : Ev (tCB (rAny K) (tCons te tNil)) σ H (.bl (bs.any id)) := fun H1 e Q q => h.go e fun v H2 e2 r => by
  obtain ⟨a, vs, rfl, h1, h2⟩ := r
  rw [reps_bl h2] at h1
  exact ⟨a, bs, rfl, sq_of h1, q H2 e2⟩
theorem ev_lenD {xs : List α} (h : EvD te σ H xs) : Ev (tCB (rLenS K) (tCons te tNil)) σ H (.int (xs.length : Int)) := fun H1 e Q q => h.go e fun v H2 e2 r => by
  obtain ⟨a, vs, rfl, h1, h2⟩ := r
  refine ⟨a, vs, rfl, .inl (sq_of h1), ?_⟩
  rw [Reps.len h2]
  exact q H2 e2
/-- typed arguments, from the left -/
def EvDA (ta : TA) (σ : L2.St) (H : Hp) (xs : List α) : Prop := ∀ H1, Ex H H1 → ∀ Q : List V → Hp → Prop, (∀ vs H2 Hs, Ex H1 H2 → Sup H H1 H2 Hs → Reps Hs vs xs → Q vs H2) → ta σ H1 Q
theorem Sup.join {H H1 H2 H3 A B : Hp} (e1 : Ex H H1) (e2 : Ex H1 H2) (e3 : Ex H2 H3) (s : Sup H H1 H2 A) (t : Sup H H2 H3 B) : Sup H H1 H3 (jn A B) := ⟨jn_ex (s.e.trans e3) t.e, fun b u z => by
  rcases jn_of z with y | y
  · exact s.o b u y
  · rcases t.o b u y with w | w
    · exact .inl w
    · right
      cases m : H1 b with
      | none => rfl
      | some o =>
        rw [e2 _ _ m] at w
        cases w⟩
theorem eda_nil : EvDA (α := α) tNil σ H [] := fun H1 _ _ q => q [] H1 _ (Ex.refl H1) sup0 .nil
theorem eda_cons {x : α} {xs : List α} {tr : TA} (h : EvD te σ H x) (hr : EvDA tr σ H xs) : EvDA (tCons te tr) σ H (x :: xs) := fun H1 e Q q =>
  h H1 e _ fun v H2 A e2 s r => hr H2 (e.trans e2) _ fun vs H3 B e3 t rs => q (v :: vs) H3 (jn A B) (e2.trans e3) (s.join e e2 e3 t) (.cons (DV.ext jn_l r) (Reps.ext (jn_r (s.e.trans e3) t.e) rs))
/-- a list display -/
theorem ed_lst {xs : List α} {ta : TA} (h : EvDA ta σ H xs) (hl : xs.length ≤ 100000) : EvD (tLst ta) σ H xs := fun H1 e Q q => h H1 e _ fun vs H2 A e2 s r => by
  refine ⟨by rw [Reps.len r]; exact sz_of hl, fun p np => ?_⟩
  have nA : A p = none := by
    cases z : A p with
    | none => rfl
    | some o =>
      rw [s.e _ _ z] at np
      cases np
  refine q _ _ (upd A p (.lst vs)) (e2.trans (Ex.new np)) ⟨fun b u z => ?_, fun b u z => ?_⟩ ⟨p, vs, rfl, upd_same, Reps.ext (Ex.new nA) r⟩
  · by_cases y : b = p
    · rw [y, upd_same] at z ⊢
      exact z
    · rw [upd_ne y] at z ⊢
      exact s.e _ _ z
  · by_cases y : b = p
    · right
      rw [y]
      cases m : H1 p with
      | none => rfl
      | some o =>
        rw [e2 _ _ m] at np
        cases np
    · rw [upd_ne y] at z
      exact s.o b u z
/-- a pair display -/
theorem ed_pair {x : α} {y : β} (h : EvD ta σ H x) (h' : EvD tb σ H y) : EvD (tTup (tCons ta (tCons tb tNil))) σ H (x, y) := fun H1 e Q q => h H1 e _ fun v H2 A e2 s r => h' H2 (e.trans e2) _ fun u H3 B e3 t r' => by
  refine ⟨by show 2 ≤ sizeLine; decide, fun p np => ?_⟩
  have sj := s.join e e2 e3 t
  have nA : jn A B p = none := by
    cases z : jn A B p with
    | none => rfl
    | some o =>
      rw [sj.e _ _ z] at np
      cases np
  refine q _ _ (upd (jn A B) p (.tup [v, u])) ((e2.trans e3).trans (Ex.new np)) ⟨fun b w z => ?_, fun b w z => ?_⟩ ⟨p, v, u, rfl, upd_same, DV.ext (jn_l.trans (Ex.new nA)) r, DV.ext ((jn_r (s.e.trans e3) t.e).trans (Ex.new nA)) r'⟩
  · by_cases y : b = p
    · rw [y, upd_same] at z ⊢
      exact z
    · rw [upd_ne y] at z ⊢
      exact sj.e _ _ z
  · by_cases y : b = p
    · right
      rw [y]
      cases m : H1 p with
      | none => rfl
      | some o =>
        rw [e3 _ _ (e2 _ _ m)] at np
        cases np
    · rw [upd_ne y] at z
      exact sj.o b w z
end
end Dw
/-! text W9 -/
set_option Elab.async false
set_option linter.all false
set_option maxHeartbeats 1000000
/-! typed promises of defs, their calls -/
namespace Dw
open PySem PySem.Spec PyProof.Rows L2 Evl PySem.W DV
section
variable {α β γ : Type} [DecidableEq α] [Datum α] [DV α] [DecidableEq β] [Datum β] [DV β] [DecidableEq γ] [Datum γ] [DV γ] {K : PySem.W.Frag} {σ : L2.St} {H H' A : Hp} {te ta tb : TE} {D : Ends}
/-- the end of a def that tells x: on what was handed in (A), or new -/
def EndD (A H : Hp) (x : γ) (Q : VK) : Prop := ∀ u H' Hs, Ex H H' → Sup A H H' Hs → rep Hs u x → Q u H'
def sp1 (P : α → Prop) (f : α → γ) : Sp := fun vs H Q _ => ∃ v x A, vs = [v] ∧ Ex A H ∧ rep A v x ∧ P x ∧ EndD A H (f x) Q
def sp2 (P : α → β → Prop) (f : α → β → γ) : Sp := fun vs H Q _ => ∃ v u x y A, vs = [v, u] ∧ Ex A H ∧ rep A v x ∧ rep A u y ∧ P x y ∧ EndD A H (f x y) Q
theorem Sup.deep {H H1 H2 H3 A Hs : Hp} (e2 : Ex H1 H2) (s : Sup H H1 H2 A) (t : Sup A H2 H3 Hs) : Sup H H1 H3 Hs := ⟨t.e, fun b u z => by
  rcases t.o b u z with y | y
  · exact s.o b u y
  · right
    cases m : H1 b with
    | none => rfl
    | some o =>
      rw [e2 _ _ m] at y
      cases y⟩
theorem ed_call1 {P : α → Prop} {f : α → γ} {E : XK} {x : α} (h : EvD ta σ H x) (hP : P x) : EvD (tCall (sp1 P f) [] E (tCons ta tNil)) σ H (f x) := fun H1 e Q q => h H1 e _ fun v H2 A e2 s r =>
  ⟨v, x, A, rfl, s.e, r, hP, fun u H3 Hs e3 t r3 => q u H3 Hs (e2.trans e3) (s.deep e2 t) r3⟩
theorem ed_call2 {P : α → β → Prop} {f : α → β → γ} {E : XK} {x : α} {y : β} (h : EvD ta σ H x) (h' : EvD tb σ H y) (hP : P x y) : EvD (tCall (sp2 P f) [] E (tCons ta (tCons tb tNil))) σ H (f x y) := fun H1 e Q q =>
  h H1 e _ fun v H2 A e2 s r => h' H2 (e.trans e2) _ fun u H3 B e3 t r' => by
    have sj := s.join e e2 e3 t
    exact ⟨v, u, x, y, jn A B, rfl, sj.e, DV.ext jn_l r, DV.ext (jn_r (s.e.trans e3) t.e) r', hP, fun z H4 Hs e4 w r4 => q z H4 Hs ((e2.trans e3).trans e4) (sj.deep (e2.trans e3) w) r4⟩
/-- return -/
theorem s_retD {x : γ} (h : EvD te σ A x) (eA : Ex A H) (k : EndD A H x D.rt) : tRet te D σ H := h H eA _ k
end
end Dw
/-! text W10 -/
set_option Elab.async false
set_option linter.all false
set_option maxHeartbeats 1000000
/-! typed: parts of a pair, list(xs) -/
namespace Dw
open PySem PySem.Spec PyProof.Rows L2 Evl PySem.W DV
section
variable {α β γ : Type} [DecidableEq α] [Datum α] [DV α] [DecidableEq β] [Datum β] [DV β] [DecidableEq γ] [Datum γ] [DV γ] {K : PySem.W.Frag} {σ : L2.St} {H H' A : Hp} {te ta tb : TE} {D : Ends}
theorem ed_fst {p : α × β} (h : EvD te σ H p) : EvD (tOp (rIxT K) te (tC (.int 0))) σ H p.1 := fun H1 e Q q => h H1 e _ fun v H2 A e2 s r => by
  obtain ⟨a, u, w, rfl, h1, h2, h3⟩ := r
  exact ⟨a, [u, w], 0, u, rfl, rfl, st_of (s.e _ _ h1), rfl, q u H2 A e2 s h2⟩
theorem ed_snd {p : α × β} (h : EvD te σ H p) : EvD (tOp (rIxT K) te (tC (.int 1))) σ H p.2 := fun H1 e Q q => h H1 e _ fun v H2 A e2 s r => by
  obtain ⟨a, u, w, rfl, h1, h2, h3⟩ := r
  exact ⟨a, [u, w], 1, w, rfl, rfl, st_of (s.e _ _ h1), rfl, q w H2 A e2 s h3⟩
theorem sup_new {H H1 H2 A : Hp} {p : Addr} {o : HO} (e2 : Ex H1 H2) (s : Sup H H1 H2 A) (np : H2 p = none) : Sup H H1 (upd H2 p o) (upd A p o) := ⟨fun b u z => by
  by_cases y : b = p
  · rw [y, upd_same] at z ⊢
    exact z
  · rw [upd_ne y] at z ⊢
    exact s.e _ _ z, fun b u z => by
  by_cases y : b = p
  · right
    rw [y]
    cases m : H1 p with
    | none => rfl
    | some o =>
      rw [e2 _ _ m] at np
      cases np
  · rw [upd_ne y] at z
    exact s.o b u z⟩
theorem sup_no {H H1 H2 A : Hp} {p : Addr} (s : Sup H H1 H2 A) (np : H2 p = none) : A p = none := by
  cases z : A p with
  | none => rfl
  | some o =>
    rw [s.e _ _ z] at np
    cases np
theorem ed_list {xs : List α} (h : EvD te σ H xs) : EvD (tCB (rListS K) (tCons te tNil)) σ H xs := fun H1 e Q q => h H1 e _ fun v H2 A e2 s r => by
  obtain ⟨a, vs, rfl, h1, h2⟩ := r
  refine ⟨a, vs, rfl, .inl (sq_of (s.e _ _ h1)), fun p np => ?_⟩
  exact q _ _ (upd A p (.lst vs)) (e2.trans (Ex.new np)) (sup_new e2 s np) ⟨p, vs, rfl, upd_same, Reps.ext (Ex.new (sup_no s np)) h2⟩
end
end Dw
/-! text Tx07 -/
set_option Elab.async false
set_option linter.all false
set_option maxRecDepth 100000
set_option maxHeartbeats 0
namespace K07
open PySem PySem.Spec PyProof.Rows L2
def top (i : Nat) : Stmt := PySem.Challenge.pw_meetinglots_k07_main_lattice_of_families.main.body.getD i (.Pass ⟨0, 0, 0, 0⟩)
def lawDefs : List (Nat × PySem.Str) := ([(9, "is_list"), (10, "is_name"), (11, "is_one_of"), (13, "are_keepers"), (14, "are_some_of"), (15, "is_lot_of"), (16, "holds"), (17, "meet"), (18, "is_family"), (19, "told_family"), (20, "checked_family"), (21, "least_of"), (23, "apart_pairs"), (24, "known_keeper"), (25, "size_counts")] : List (Nat × PySem.Str)) ++ ([(27, "less_keeper"), (28, "fallen_family"), (29, "trusted_family"), (30, "two_families"), (31, "all_keepers"), (32, "both_families"), (33, "either_family"), (34, "renamed_family"), (36, "_law_a_names"), (37, "_law_a_within"), (38, "_law_a_least"), (39, "_law_a_lot"), (40, "_law_start"), (41, "_law_draw"), (42, "_law_pick")] : List (Nat × PySem.Str)) ++ ([(43, "_law_mixed"), (44, "_law_copied"), (45, "_law_same"), (46, "_law_each_once"), (47, "_law_of"), (48, "_law_tried"), (49, "_law_over_right"), (50, "_law_brackets_right"), (51, "_law_least_right"), (52, "_law_names_right"), (53, "law")] : List (Nat × PySem.Str))
def frees : List PySem.Str := ["ValueError", "all", "any", "bool", "dict", "enumerate", "int", "isinstance", "len", "list", "range", "sorted", "str", "sum", "tuple", "zip"]
abbrev FnP (K : PySem.W.Frag) (x : Str) (st : Stmt) (f : Addr) (fd : FuncData) : Prop := FunD K x x (defArgs st) (defBody st) (defScope st) [] [] f fd
end K07
/-! text D1 -/
set_option Elab.async false
set_option linter.all false
set_option maxRecDepth 100000
set_option maxHeartbeats 4000000
/-! small defs: is_list, holds, meet, within -/
namespace K07
open PySem PySem.Spec PyProof.Rows L2 Evl PySem.W Dw Dw.DV
section
variable {P : Program} {w : World} {K : PySem.W.Frag} {mg : Str → Option Value} {base : Heap} {f : Addr} {fd : FuncData}
theorem u64 {k : Nat} {A : Around} (hr : Room k A) : A.units + 64 < cLine := by
  have := hr.un
  omega
theorem uS {k : Nat} {A : Around} (hr : Room k A) : A.units + 1 + Datum.depth Str < cLine := by
  have h := hr.un
  show A.units + 1 + 0 < cLine
  omega
theorem uD {k n : Nat} {A : Around} (hr : Room k A) (h : n ≤ 60) : A.units + 2 + n < cLine := by
  have := hr.un
  omega
theorem scHolds : FnScope ["lot", "other", "one"] ["lot", "other"] (defScope (top 16)) := ⟨rfl, rfl, rfl, by decide +kernel, rfl, by decide +kernel, by decide +kernel⟩
def holdsP (lot other : List Str) : Bool := other.all fun x => decide (x ∈ lot)
theorem ok_holds (F : FnP K "holds" (top 16) f fd) (ma : mg "all" = none) : FnOk P w K mg base CX0 1 f fd ["lot", "other"] (sp2 (fun _ other => other.length ≤ 1000) holdsP) := by
  refine F.ok scHolds (fun vs H Q E h => ?_) (fun cdv A outer s H vs Q E hr h => ?_)
  · obtain ⟨v, u, _, _, _, rfl, _⟩ := h
    rfl
  · obtain ⟨v, u, lot, other, B, rfl, eB, hv, hu, hl, q⟩ := h
    refine ⟨_, PSs.nox (pss_one (ps_ret (pe_callB (cr_all rfl) (by rfl) ma (by decide +kernel) (pa_cons (pe_lc (own := [("one", 2)]) (g := gName 2) (tt := tYes) (te := tOp (rInW Str false) (tVar 2) (tVar 0)) rfl scHolds.nd
      (pi_list (pv 1)) (blkOk_by (N := ["lot", "other", "one"]) (sc := defScope (top 16)) (by decide +kernel))
      (fun _ _ _ _ _ => pg_name (i := 2) scHolds.nd rfl (.inl rfl)) (fun _ _ _ _ _ => pts_nil) (fun _ _ _ _ _ => pe_cmpR (op_inW (α := Str) (uS hr)) (pv 2) (pv 0) (by rfl))) pa_nil)))), ?_⟩
    have el : ∀ (x : Str) (y : V) H1, Ex B H1 → x ∈ other → rep H1 y x → (fun _ : Str => true) x = true → EvD (tOp (rInW Str false) (tVar 2) (tVar 0)) [some v, some u, some y] H1 (decide (x ∈ lot)) := fun x y H1 e _ r _ => ed_bl (ev_inD (ed_var rfl r) (ed_var (v := v) rfl (DV.ext e hv)))
    have lc := ed_lc (K := K) (σ := [some v, some u, none]) (H := B) (tl := tVar 1) (tt := tYes) (j := 2) (vs := [2]) (fun _ : Str => true) (fun x : Str => decide (x ∈ lot)) (ed_var (v := u) rfl hu) (by omega) (fun _ => rfl) (fun _ _ H1 _ _ _ H2 _ _ q => q H2 (Ex.refl H2)) el
    have all := ev_allD (K := K) lc
    have e : ((other.filter fun _ => true).map fun x => decide (x ∈ lot)).all id = holdsP lot other := by
      rw [List.filter_eq_self.mpr (fun _ _ => rfl), List.all_map]
      rfl
    rw [e] at all
    exact s_retD (ed_bl all) eB q
end
end K07
/-! text D2 -/
set_option Elab.async false
set_option linter.all false
set_option maxRecDepth 100000
set_option maxHeartbeats 4000000
/-! meet, within -/
namespace K07
open PySem PySem.Spec PyProof.Rows L2 Evl PySem.W Dw Dw.DV
section
variable {P : Program} {w : World} {K : PySem.W.Frag} {mg : Str → Option Value} {base : Heap} {f : Addr} {fd : FuncData}
theorem scMeetP : FnScope ["lot", "other", "one"] ["lot", "other"] (defScope (top 17)) := ⟨rfl, rfl, rfl, by decide +kernel, rfl, by decide +kernel, by decide +kernel⟩
def meetP (lot other : List Str) : Bool := other.any fun x => decide (x ∈ lot)
theorem ok_meetP (F : FnP K "meet" (top 17) f fd) (ma : mg "any" = none) : FnOk P w K mg base CX0 1 f fd ["lot", "other"] (sp2 (fun _ other => other.length ≤ 1000) meetP) := by
  refine F.ok scMeetP (fun vs H Q E h => ?_) (fun cdv A outer s H vs Q E hr h => ?_)
  · obtain ⟨v, u, _, _, _, rfl, _⟩ := h
    rfl
  · obtain ⟨v, u, lot, other, B, rfl, eB, hv, hu, hl, q⟩ := h
    refine ⟨_, PSs.nox (pss_one (ps_ret (pe_callB (cr_any rfl) (by rfl) ma (by decide +kernel) (pa_cons (pe_lc (own := [("one", 2)]) (g := gName 2) (tt := tYes) (te := tOp (rInW Str false) (tVar 2) (tVar 0)) rfl scMeetP.nd
      (pi_list (pv 1)) (blkOk_by (N := ["lot", "other", "one"]) (sc := defScope (top 17)) (by decide +kernel))
      (fun _ _ _ _ _ => pg_name (i := 2) scMeetP.nd rfl (.inl rfl)) (fun _ _ _ _ _ => pts_nil) (fun _ _ _ _ _ => pe_cmpR (op_inW (α := Str) (uS hr)) (pv 2) (pv 0) (by rfl))) pa_nil)))), ?_⟩
    have el : ∀ (x : Str) (y : V) H1, Ex B H1 → x ∈ other → rep H1 y x → (fun _ : Str => true) x = true → EvD (tOp (rInW Str false) (tVar 2) (tVar 0)) [some v, some u, some y] H1 (decide (x ∈ lot)) := fun x y H1 e _ r _ => ed_bl (ev_inD (ed_var rfl r) (ed_var (v := v) rfl (DV.ext e hv)))
    have lc := ed_lc (K := K) (σ := [some v, some u, none]) (H := B) (tl := tVar 1) (tt := tYes) (j := 2) (vs := [2]) (fun _ : Str => true) (fun x : Str => decide (x ∈ lot)) (ed_var (v := u) rfl hu) (by omega) (fun _ => rfl) (fun _ _ H1 _ _ _ H2 _ _ q => q H2 (Ex.refl H2)) el
    have whole := ev_anyD (K := K) lc
    have e : ((other.filter fun _ => true).map fun x => decide (x ∈ lot)).any id = meetP lot other := by
      rw [List.filter_eq_self.mpr (fun _ _ => rfl), List.any_map]
      rfl
    rw [e] at whole
    exact s_retD (ed_bl whole) eB q
theorem scWithinP : FnScope ["one", "other", "keeper"] ["one", "other"] (defScope (top 37)) := ⟨rfl, rfl, rfl, by decide +kernel, rfl, by decide +kernel, by decide +kernel⟩
def withinP (one other : List Str) : Bool := one.all fun x => decide (x ∈ other)
theorem ok_withinP (F : FnP K "_law_a_within" (top 37) f fd) (ma : mg "all" = none) : FnOk P w K mg base CX0 1 f fd ["one", "other"] (sp2 (fun one _ => one.length ≤ 1000) withinP) := by
  refine F.ok scWithinP (fun vs H Q E h => ?_) (fun cdv A outer s H vs Q E hr h => ?_)
  · obtain ⟨v, u, _, _, _, rfl, _⟩ := h
    rfl
  · obtain ⟨v, u, one, other, B, rfl, eB, hv, hu, hl, q⟩ := h
    refine ⟨_, PSs.nox (pss_one (ps_ret (pe_callB (cr_all rfl) (by rfl) ma (by decide +kernel) (pa_cons (pe_lc (own := [("keeper", 2)]) (g := gName 2) (tt := tYes) (te := tOp (rInW Str false) (tVar 2) (tVar 1)) rfl scWithinP.nd
      (pi_list (pv 0)) (blkOk_by (N := ["one", "other", "keeper"]) (sc := defScope (top 37)) (by decide +kernel))
      (fun _ _ _ _ _ => pg_name (i := 2) scWithinP.nd rfl (.inl rfl)) (fun _ _ _ _ _ => pts_nil) (fun _ _ _ _ _ => pe_cmpR (op_inW (α := Str) (uS hr)) (pv 2) (pv 1) (by rfl))) pa_nil)))), ?_⟩
    have el : ∀ (x : Str) (y : V) H1, Ex B H1 → x ∈ one → rep H1 y x → (fun _ : Str => true) x = true → EvD (tOp (rInW Str false) (tVar 2) (tVar 1)) [some v, some u, some y] H1 (decide (x ∈ other)) := fun x y H1 e _ r _ => ed_bl (ev_inD (ed_var rfl r) (ed_var (v := u) rfl (DV.ext e hu)))
    have lc := ed_lc (K := K) (σ := [some v, some u, none]) (H := B) (tl := tVar 0) (tt := tYes) (j := 2) (vs := [2]) (fun _ : Str => true) (fun x : Str => decide (x ∈ other)) (ed_var (v := v) rfl hv) (by omega) (fun _ => rfl) (fun _ _ H1 _ _ _ H2 _ _ q => q H2 (Ex.refl H2)) el
    have whole := ev_allD (K := K) lc
    have e : ((one.filter fun _ => true).map fun x => decide (x ∈ other)).all id = withinP one other := by
      rw [List.filter_eq_self.mpr (fun _ _ => rfl), List.all_map]
      rfl
    rw [e] at whole
    exact s_retD (ed_bl whole) eB q
end
end K07
/-! text D3 -/
set_option Elab.async false
set_option linter.all false
set_option maxRecDepth 100000
set_option maxHeartbeats 4000000
/-! told_family -/
namespace K07
open PySem PySem.Spec PyProof.Rows L2 Evl PySem.W Dw Dw.DV
section
variable {P : Program} {w : World} {K : PySem.W.Frag} {mg : Str → Option Value} {base : Heap} {f : Addr} {fd : FuncData}
abbrev FamT : Type := List Str × List (List Str)
theorem scTold : FnScope ["thing", "lot"] ["thing"] (defScope (top 19)) := ⟨rfl, rfl, rfl, by decide +kernel, rfl, by decide +kernel, by decide +kernel⟩
theorem ok_told (F : FnP K "told_family" (top 19) f fd) (ml : mg "list" = none) : FnOk P w K mg base CX0 1 f fd ["thing"] (sp1 (fun F : FamT => F.2.length ≤ 1000) (fun F => F)) := by
  refine F.ok scTold (fun vs H Q E h => ?_) (fun cdv A outer s H vs Q E hr h => ?_)
  · obtain ⟨v, _, _, rfl, _⟩ := h
    rfl
  · obtain ⟨v, F, B, rfl, eB, hv, hl, q⟩ := h
    refine ⟨_, PSs.nox (pss_one (ps_ret (pe_tup (pa_cons (pe_callTy call_list_of (by rfl) ml (by decide +kernel) (pa_cons (pe_ix ix_tup (pv 0) pe_int (fun _ _ => rfl)) pa_nil)) (pa_cons (pe_lc (own := [("lot", 1)]) (g := gName 1) (tt := tYes) (te := tCB (rListS K) (tCons (tVar 1) tNil)) rfl scTold.nd
      (pi_list (pe_ix ix_tup (pv 0) pe_int (fun _ _ => rfl))) (blkOk_by (N := ["thing", "lot"]) (sc := defScope (top 19)) (by decide +kernel))
      (fun _ _ _ _ _ => pg_name (i := 1) scTold.nd rfl (.inl rfl)) (fun _ _ _ _ _ => pts_nil) (fun _ _ _ _ _ => pe_callTy call_list_of (by rfl) ml (by decide +kernel) (pa_cons (pv 1) pa_nil))) pa_nil))))), ?_⟩
    have el : ∀ (x : List Str) (y : V) H1, Ex B H1 → x ∈ F.2 → rep H1 y x → (fun _ : List Str => true) x = true → EvD (tCB (rListS K) (tCons (tVar 1) tNil)) [some v, some y] H1 x := fun x y H1 e _ r _ => ed_list (ed_var rfl r)
    have lc := ed_lc (K := K) (σ := [some v, none]) (H := B) (tl := tOp (rIxT K) (tVar 0) (tC (.int 1))) (tt := tYes) (j := 1) (vs := [1]) (fun _ : List Str => true) (fun x : List Str => x) (ed_snd (p := F) (ed_var (v := v) rfl hv)) (by omega) (fun _ => rfl) (fun _ _ H1 _ _ _ H2 _ _ q => q H2 (Ex.refl H2)) el
    rw [List.filter_eq_self.mpr (fun _ _ => rfl), List.map_id'] at lc
    exact s_retD (ed_pair (x := F.1) (y := F.2) (ed_list (ed_fst (p := F) (ed_var (v := v) rfl hv))) lc) eB q
end
end K07
/-! text D4 -/
set_option Elab.async false
set_option linter.all false
set_option maxRecDepth 100000
set_option maxHeartbeats 4000000
/-! is_list -/
namespace K07
open PySem PySem.Spec PyProof.Rows L2 Evl PySem.W Dw Dw.DV
section
variable {P : Program} {w : World} {K : PySem.W.Frag} {mg : Str → Option Value} {base : Heap} {f : Addr} {fd : FuncData}
theorem scIsList : FnScope ["thing"] ["thing"] (defScope (top 9)) := ⟨rfl, rfl, rfl, by decide +kernel, rfl, by decide +kernel, by decide +kernel⟩
/-- of a list, of a tuple -/
def spIsList : Sp := fun vs H Q _ => ∃ (a : Addr) (xs : List V), vs = [.ref a] ∧ (H a = some (.lst xs) ∨ H a = some (.tup xs)) ∧ ∀ H', Ex H H' → Q (.bl true) H'
theorem kAny {a : String} {b c : Bool} (h1 : kitB a "list" = some b) (h2 : kitB a "tuple" = some c) : PySem.W.kitAny K (.type a) [.type "list", .type "tuple"] = some (b || c) := by
  refine kitAny_cons (kit_ty h1) (r := b || c) (fun e => ?_) fun e => by rw [e]; rfl
  subst e
  refine kitAny_cons (kit_ty h2) (fun e => ?_) fun e => by rw [e]; rfl
  subst e
  rfl
theorem ok_is_list (F : FnP K "is_list" (top 9) f fd) (mi : mg "isinstance" = none) (ml : mg "list" = none) (mt : mg "tuple" = none) : FnOk P w K mg base CX0 1 f fd ["thing"] spIsList := by
  refine F.ok scIsList (fun vs H Q E h => ?_) (fun cdv A outer s H vs Q E hr h => ?_)
  · obtain ⟨a, _, rfl, _⟩ := h
    rfl
  · obtain ⟨a, xs, rfl, ha, q⟩ := h
    refine ⟨_, PSs.nox (pss_one (ps_ret (pe_callB call_isiT (by rfl) mi (by decide +kernel) (pa_cons (pv 0) (pa_cons (pe_tup (pa_cons (pe_bltn (v := .ty "list") (by rfl) ml (by decide +kernel) rfl) (pa_cons (pe_bltn (v := .ty "tuple") (by rfl) mt (by decide +kernel) rfl) pa_nil))) pa_nil))))), ?_⟩
    refine ⟨.ref a, rfl, by show 2 ≤ sizeLine; decide, fun T nT => ?_⟩
    have e1 : Ex H (upd H T (.tup [.ty "list", .ty "tuple"])) := Ex.new nT
    have pl : Paired ClsV [V.ty "list", V.ty "tuple"] [Value.type "list", Value.type "tuple"] := .cons (.ty _) (.cons (.ty _) .nil)
    rcases ha with ha | ha
    · refine ⟨_, T, _, _, _, true, rfl, upd_same, pl, .base (.lst (e1 _ _ ha)), ?_, q _ e1⟩
      exact kAny (b := true) (c := false) (by decide +kernel) (by decide +kernel)
    · refine ⟨_, T, _, _, _, true, rfl, upd_same, pl, .base (.tup (e1 _ _ ha)), ?_, q _ e1⟩
      exact kAny (b := false) (c := true) (by decide +kernel) (by decide +kernel)
end
end K07
/-! text W11 -/
set_option Elab.async false
set_option linter.all false
set_option maxHeartbeats 1000000
/-! one shape in two heaps; typed data by it -/
namespace Dw
open PySem PySem.Spec PyProof.Rows L2 Evl PySem.W DV
def atomV : V → Bool
  | .non => true
  | .bl _ => true
  | .int _ => true
  | .str _ => true
  | _ => false
/-- v in A and u in B are the same throughout, of so many depths -/
def Tw (A B : Hp) : Nat → V → V → Prop
  | 0 => fun _ _ => False
  | d + 1 => fun v u => (v = u ∧ atomV v = true) ∨ (∃ a b xs ys, v = .ref a ∧ u = .ref b ∧ A a = some (.lst xs) ∧ B b = some (.lst ys) ∧ xs.length ≤ 1000 ∧ Paired (Tw A B d) xs ys) ∨
    (∃ a b xs ys, v = .ref a ∧ u = .ref b ∧ A a = some (.tup xs) ∧ B b = some (.tup ys) ∧ xs.length ≤ 1000 ∧ Paired (Tw A B d) xs ys) ∨
    (∃ a b kvs, v = .ref a ∧ u = .ref b ∧ A a = some (.dK kvs) ∧ B b = some (.dK kvs) ∧ kvs.length ≤ 1000 ∧ 3 ≤ d ∧ (kvs.map (·.1)).Nodup ∧ ∀ p ∈ kvs, atomV p.2 = true)
theorem pimp {α β : Type} {F G : α → β → Prop} (h : ∀ a b, F a b → G a b) : ∀ {l : List α} {m : List β}, Paired F l m → Paired G l m
  | _, _, .nil => .nil
  | _, _, .cons a r => .cons (h _ _ a) (pimp h r)
theorem Tw.ext {A B A' B' : Hp} (e : Ex A A') (e2 : Ex B B') : ∀ {d : Nat} {v u : V}, Tw A B d v u → Tw A' B' d v u
  | 0, _, _, h => h.elim
  | d + 1, v, u, h => by
    rcases h with h | ⟨a, b, xs, ys, h1, h2, h3, h4, h5, h6⟩ | ⟨a, b, xs, ys, h1, h2, h3, h4, h5, h6⟩ | ⟨a, b, kvs, h1, h2, h3, h4, h5, h6, h7⟩
    · exact .inl h
    · exact .inr (.inl ⟨a, b, xs, ys, h1, h2, e _ _ h3, e2 _ _ h4, h5, pimp (fun _ _ z => Tw.ext e e2 z) h6⟩)
    · exact .inr (.inr (.inl ⟨a, b, xs, ys, h1, h2, e _ _ h3, e2 _ _ h4, h5, pimp (fun _ _ z => Tw.ext e e2 z) h6⟩))
    · exact .inr (.inr (.inr ⟨a, b, kvs, h1, h2, e _ _ h3, e2 _ _ h4, h5, h6, h7⟩))
theorem Tw.up {A B : Hp} : ∀ {d : Nat} {v u : V}, Tw A B d v u → Tw A B (d + 1) v u
  | 0, _, _, h => h.elim
  | d + 1, v, u, h => by
    rcases h with h | ⟨a, b, xs, ys, h1, h2, h3, h4, h5, h6⟩ | ⟨a, b, xs, ys, h1, h2, h3, h4, h5, h6⟩ | ⟨a, b, kvs, h1, h2, h3, h4, h5, h6, h7⟩
    · exact .inl h
    · exact .inr (.inl ⟨a, b, xs, ys, h1, h2, h3, h4, h5, pimp (fun _ _ z => Tw.up z) h6⟩)
    · exact .inr (.inr (.inl ⟨a, b, xs, ys, h1, h2, h3, h4, h5, pimp (fun _ _ z => Tw.up z) h6⟩))
    · exact .inr (.inr (.inr ⟨a, b, kvs, h1, h2, h3, h4, h5, by omega, h7⟩))
theorem Tw.ups {A B : Hp} {d e : Nat} (l : d ≤ e) {v u : V} (h : Tw A B d v u) : Tw A B e v u := by
  induction l with
  | refl => exact h
  | step _ ih => exact ih.up
theorem Tw.atom {A B : Hp} {d : Nat} {v u : V} (a : atomV v = true) (h : Tw A B d v u) : u = v := by
  cases d with
  | zero => exact h.elim
  | succ d =>
    rcases h with h | ⟨a', b, xs, ys, h1, _⟩ | ⟨a', b, xs, ys, h1, _⟩ | ⟨a', b, kvs, h1, _⟩
    · exact h.1.symm
    all_goals
      subst h1
      cases a
theorem Tw.of_atom {A B : Hp} {d : Nat} {v : V} (a : atomV v = true) : Tw A B (d + 1) v v := .inl ⟨rfl, a⟩
theorem pat {α β : Type} {F : α → β → Prop} : ∀ {l : List α} {m : List β} {i : Nat} {a : α} {b : β}, Paired F l m → l[i]? = some a → m[i]? = some b → F a b
  | _, _, i, _, _, .nil, h, _ => by simp at h
  | _, _, 0, _, _, .cons q _, h, h' => by
    simp at h h'
    subst h h'
    exact q
  | _, _, i + 1, _, _, .cons _ r, h, h' => pat (i := i) r (by simpa using h) (by simpa using h')
theorem papp {α β : Type} {F : α → β → Prop} : ∀ {l l' : List α} {m m' : List β}, Paired F l m → Paired F l' m' → Paired F (l ++ l') (m ++ m')
  | _, _, _, _, .nil, h => h
  | _, _, _, _, .cons a r, h => .cons a (papp r h)
/-- typed data that may be copied and compared -/
class DVT (α : Type) [DecidableEq α] [Datum α] extends DV α where
  dep : Nat
  sm : α → Prop
  tw : ∀ {A B : Hp} {v u : V} {x : α}, sm x → rep A v x → rep B u x → Tw A B dep v u
  cp : ∀ {n : Nat} {A B : Hp} {v u : V} {x : α}, rep A v x → Tw A B n v u → rep B u x
instance : DVT Str where
  dep := 1
  sm _ := True
  tw := fun _ h h' => by
    subst h h'
    exact .inl ⟨rfl, rfl⟩
  cp := fun h t => by
    subst h
    exact t.atom rfl
instance : DVT Int where
  dep := 1
  sm _ := True
  tw := fun _ h h' => by
    subst h h'
    exact .inl ⟨rfl, rfl⟩
  cp := fun h t => by
    subst h
    exact t.atom rfl
instance : DVT Bool where
  dep := 1
  sm _ := True
  tw := fun _ h h' => by
    subst h h'
    exact .inl ⟨rfl, rfl⟩
  cp := fun h t => by
    subst h
    exact t.atom rfl
section
variable {α β : Type} [DecidableEq α] [Datum α] [DVT α] [DecidableEq β] [Datum β] [DVT β]
theorem reps_tw {A B : Hp} : ∀ {vs us : List V} {xs : List α}, (∀ x ∈ xs, DVT.sm x) → Reps A vs xs → Reps B us xs → Paired (Tw A B (DVT.dep α)) vs us
  | _, _, _, _, .nil, .nil => .nil
  | _, _, _, s, .cons h r, .cons h' r' => .cons (DVT.tw (s _ List.mem_cons_self) h h') (reps_tw (fun x m => s x (List.mem_cons_of_mem _ m)) r r')
theorem reps_cp {A B : Hp} {n : Nat} : ∀ {vs us : List V} {xs : List α}, Reps A vs xs → Paired (Tw A B n) vs us → Reps B us xs
  | _, _, _, .nil, .nil => .nil
  | _, _, _, .cons h r, .cons t r' => .cons (DVT.cp h t) (reps_cp r r')
instance : DVT (List α) where
  dep := DVT.dep α + 1
  sm xs := xs.length ≤ 1000 ∧ ∀ x ∈ xs, DVT.sm x
  tw := fun {A B v u x} s h h' => by
    obtain ⟨a, vs, rfl, h1, h2⟩ := h
    obtain ⟨b, us, rfl, h3, h4⟩ := h'
    exact .inr (.inl ⟨a, b, vs, us, rfl, rfl, h1, h3, by rw [Reps.len h2]; exact s.1, reps_tw s.2 h2 h4⟩)
  cp := fun {n A B v u x} h t => by
    obtain ⟨a, vs, rfl, h1, h2⟩ := h
    cases n with
    | zero => exact t.elim
    | succ n =>
      rcases t with ⟨_, t⟩ | ⟨a', b, xs, ys, e1, rfl, e3, e4, e5, e6⟩ | ⟨a', b, xs, ys, e1, rfl, e3, e4, e5, e6⟩ | ⟨a', b, kvs, e1, rfl, e3, _⟩
      · cases t
      all_goals
        cases e1
        rw [h1] at e3
        cases e3
      exact ⟨b, ys, rfl, e4, reps_cp h2 e6⟩
instance : DVT (Tup α) where
  dep := DVT.dep α + 1
  sm xs := xs.items.length ≤ 1000 ∧ ∀ x ∈ xs.items, DVT.sm x
  tw := fun {A B v u x} s h h' => by
    obtain ⟨a, vs, rfl, h1, h2⟩ := h
    obtain ⟨b, us, rfl, h3, h4⟩ := h'
    exact .inr (.inr (.inl ⟨a, b, vs, us, rfl, rfl, h1, h3, by rw [Reps.len h2]; exact s.1, reps_tw s.2 h2 h4⟩))
  cp := fun {n A B v u x} h t => by
    obtain ⟨a, vs, rfl, h1, h2⟩ := h
    cases n with
    | zero => exact t.elim
    | succ n =>
      rcases t with ⟨_, t⟩ | ⟨a', b, xs, ys, e1, rfl, e3, e4, e5, e6⟩ | ⟨a', b, xs, ys, e1, rfl, e3, e4, e5, e6⟩ | ⟨a', b, kvs, e1, rfl, e3, _⟩
      · cases t
      all_goals
        cases e1
        rw [h1] at e3
        cases e3
      exact ⟨b, ys, rfl, e4, reps_cp h2 e6⟩
instance : DVT (α × β) where
  dep := max (DVT.dep α) (DVT.dep β) + 1
  sm p := DVT.sm p.1 ∧ DVT.sm p.2
  tw := fun {A B v u x} s h h' => by
    obtain ⟨a, v1, v2, rfl, h1, h2, h3⟩ := h
    obtain ⟨b, u1, u2, rfl, g1, g2, g3⟩ := h'
    exact .inr (.inr (.inl ⟨a, b, _, _, rfl, rfl, h1, g1, by show 2 ≤ 1000; decide, .cons ((DVT.tw s.1 h2 g2).ups (Nat.le_max_left _ _)) (.cons ((DVT.tw s.2 h3 g3).ups (Nat.le_max_right _ _)) .nil)⟩))
  cp := fun {n A B v u x} h t => by
    obtain ⟨a, v1, v2, rfl, h1, h2, h3⟩ := h
    cases n with
    | zero => exact t.elim
    | succ n =>
      rcases t with ⟨_, t⟩ | ⟨a', b, xs, ys, e1, rfl, e3, e4, e5, e6⟩ | ⟨a', b, xs, ys, e1, rfl, e3, e4, e5, e6⟩ | ⟨a', b, kvs, e1, rfl, e3, _⟩
      · cases t
      all_goals
        cases e1
        rw [h1] at e3
        cases e3
      cases e6 with
      | cons t1 e6 => cases e6 with
        | cons t2 e6 => cases e6 with
          | nil => exact ⟨b, _, _, rfl, e4, DVT.cp h2 t1, DVT.cp h3 t2⟩
/-- None, or a value -/
instance [SomeDatum α] : DV (Option α) where
  rep H v x := match x with
    | none => v = .non
    | some y => rep H v y
  holds := fun {X pins σ H s v x u} I h r => by
    cases x with
    | none =>
      subst h
      cases r
      exact holds_nothing
    | some y => exact holds_some (DV.holds I h r)
  ext := fun {H H' v x} e h => by
    cases x with
    | none => exact h
    | some y => exact DV.ext (α := α) e h
instance [SomeDatum α] : DVT (Option α) where
  dep := DVT.dep α + 1
  sm x := ∀ y, x = some y → DVT.sm y
  tw := fun {A B v u x} s h h' => by
    cases x with
    | none =>
      have e1 : v = .non := h
      have e2 : u = .non := h'
      rw [e1, e2]
      exact .inl ⟨rfl, rfl⟩
    | some y => exact (DVT.tw (α := α) (s y rfl) h h').up
  cp := fun {n A B v u x} h t => by
    cases x with
    | none =>
      have e1 : v = .non := h
      rw [e1] at t
      exact t.atom rfl
    | some y => exact DVT.cp (α := α) h t
end
/-! ### steps of a def's body: what is known grows -/
/-- A: what is known; all of it was handed in (A0), or is new since the start (H0) -/
structure Bs (A0 H0 A H : Hp) : Prop where
  a : Ex A0 A
  h : Ex A H
  e : Ex H0 H
  o : ∀ b u, A b = some u → A0 b = some u ∨ H0 b = none
theorem Bs.start {A H : Hp} (e : Ex A H) : Bs A H A H := ⟨Ex.refl A, e, Ex.refl H, fun b u h => .inl h⟩
theorem Bs.mono {A0 H0 A H H' : Hp} (b : Bs A0 H0 A H) (e : Ex H H') : Bs A0 H0 A H' := ⟨b.a, b.h.trans e, b.e.trans e, b.o⟩
theorem Bs.go {A0 H0 A H H' Hs : Hp} (b : Bs A0 H0 A H) (e : Ex H H') (s : Sup A H H' Hs) : Bs A0 H0 (jn A Hs) H' := ⟨b.a.trans jn_l, jn_ex (b.h.trans e) s.e, b.e.trans e, fun c u z => by
  rcases jn_of z with y | y
  · exact b.o c u y
  · rcases s.o c u y with w | w
    · exact b.o c u w
    · right
      cases m : H0 c with
      | none => rfl
      | some o =>
        rw [b.e _ _ m] at w
        cases w⟩
theorem Bs.rep {A0 H0 A H H' Hs : Hp} {α : Type} [DecidableEq α] [Datum α] [DV α] {v : V} {x : α} (b : Bs A0 H0 A H) (e : Ex H H') (s : Sup A H H' Hs) (r : rep Hs v x) : rep (jn A Hs) v x := DV.ext (jn_r (b.h.trans e) s.e) r
/-- a new object, known from here on -/
theorem Bs.new {A0 H0 A H : Hp} {p : Addr} {o : HO} (b : Bs A0 H0 A H) (hp : H p = some o) (np : H0 p = none) (nA : A p = none) : Bs A0 H0 (upd A p o) H := ⟨b.a.trans (Ex.new nA), fun c u z => by
  by_cases y : c = p
  · rw [y, upd_same] at z
    rw [y, hp]
    exact z
  · rw [upd_ne y] at z
    exact b.h _ _ z, b.e, fun c u z => by
  by_cases y : c = p
  · rw [y]
    exact .inr np
  · rw [upd_ne y] at z
    exact b.o _ _ z⟩
/-- an object that is not known yet is changed -/
theorem Bs.mut {A0 H0 A H : Hp} {p : Addr} {o : HO} (b : Bs A0 H0 A H) (np : H0 p = none) (nA : A p = none) : Bs A0 H0 A (upd H p o) := ⟨b.a, b.h.mut nA, b.e.mut np, b.o⟩
theorem Bs.endD {γ : Type} [DecidableEq γ] [Datum γ] [DV γ] {A0 H0 A H : Hp} {x : γ} {Q : VK} (b : Bs A0 H0 A H) (q : EndD A0 H0 x Q) : EndD A H x Q := fun u H' Hs e s r => q u H' Hs (b.e.trans e) ⟨s.e, fun c w z => by
  rcases s.o c w z with y | y
  · exact b.o c w y
  · right
    cases m : H0 c with
    | none => rfl
    | some o =>
      rw [b.e _ _ m] at y
      cases y⟩ r
end Dw
/-! text D5 -/
set_option Elab.async false
set_option linter.all false
set_option maxRecDepth 100000
set_option maxHeartbeats 1000000
/-! is_name of a good name -/
namespace K07
open PySem PySem.Spec PyProof.Rows L2 Evl PySem.W Dw Dw.DV
section
variable {P : Program} {w : World} {K : PySem.W.Frag} {mg : Str → Option Value} {base : Heap} {f : Addr} {fd : FuncData}
def letters : Str := "abcdefghijklmnopqrstuvwxyz"
def signs : Str := letters ++ "0123456789"
def goodName (x : Str) : Bool := decide (0 < x.length) && (decide (x.length < 13) && ((match x.cps.toList with
  | c :: _ => decide (c ∈ letters.cps.toList)
  | [] => false) && x.cps.toList.all fun c => decide (c ∈ signs.cps.toList)))
theorem scIsName : FnScope ["thing", "letters", "sign"] ["thing"] (defScope (top 10)) := ⟨rfl, rfl, rfl, by decide +kernel, rfl, by decide +kernel, by decide +kernel⟩
def spIsName : Sp := fun vs H Q _ => ∃ x : Str, vs = [.str x] ∧ goodName x = true ∧ ∀ H', Ex H H' → Q (.bl true) H'
def tIsStr (K : PySem.W.Frag) : TE := tCB (rIsi K) (tCons (tVar 0) (tCons (tC (.ty "str")) tNil))
theorem ok_is_name (F : FnP K "is_name" (top 10) f fd) (mi : mg "isinstance" = none) (ms : mg "str" = none) (ml : mg "len" = none) (ma : mg "all" = none) : FnOk P w K mg base CX0 1 f fd ["thing"] spIsName := by
  refine F.ok scIsName (fun vs H Q E h => ?_) (fun cdv A outer s H vs Q E hr h => ?_)
  · obtain ⟨x, rfl, _⟩ := h
    rfl
  · obtain ⟨x, rfl, hx, q⟩ := h
    refine ⟨_, PSs.nox (pss_cons (ps_if (pw_or (pt_not (pt_val (pe_callB call_isi (by rfl) mi (by decide +kernel) (pa_cons (pv 0) (pa_cons (pe_bltn (v := .ty "str") (by rfl) ms (by decide +kernel) rfl) pa_nil)))))
        (pw_or1 (pt_not (pt_chain op_lt op_lt pe_int (pe_callB call_len_str (by rfl) ml PySem.boot_len (pa_cons (pv 0) pa_nil)) pe_int)))).pt (pss_one (ps_ret pe_bl)) pss_nil)
      (pss_cons (ps_set (i := 1) scIsName.nd rfl (.inr rfl) pe_str)
      (pss_one (ps_ret (pe_and (pe_cmpR op_in_sign (pe_ix ix_str (pv 0) pe_int (fun _ _ => rfl)) (pv 1) (by rfl)) (pe_one (pe_callB (cr_all rfl) (by rfl) ma (by decide +kernel) (pa_cons (pe_lc (own := [("sign", 2)]) (g := gName 2) (tt := tYes) (te := tOp (fun x y H Q => ∃ (c : Nat) (z : Str), x = .str ⟨#[c]⟩ ∧ y = .str z ∧ Q (.bl (decide (c ∈ z.cps.toList))) H) (tVar 2) (tOp (fun x y H Q => ∃ i j, x = .str i ∧ y = .str j ∧ i.length + j.length ≤ sizeLine ∧ Q (.str (i ++ j)) H) (tVar 1) (tC (.str "0123456789")))) rfl scIsName.nd
        (pi_str (pv 0)) (blkOk_by (N := ["thing", "letters", "sign"]) (sc := defScope (top 10)) (by decide +kernel))
        (fun _ _ _ _ _ => pg_name (i := 2) scIsName.nd rfl (.inl rfl)) (fun _ _ _ _ _ => pts_nil) (fun _ _ _ _ _ => pe_cmpR op_in_sign (pv 2) (pe_op op_add_str (pv 1) pe_str) (by rfl))) pa_nil)))))))), ?_⟩
    have h0 : 0 < x.length ∧ x.length < 13 ∧ (∃ c, x.cps[0]? = some c ∧ c ∈ letters.cps.toList) ∧ ∀ c ∈ x.cps.toList, c ∈ signs.cps.toList := by
      unfold goodName at hx
      rw [Bool.and_eq_true, Bool.and_eq_true, Bool.and_eq_true, decide_eq_true_eq, decide_eq_true_eq, List.all_eq_true] at hx
      obtain ⟨a, b, c, d⟩ := hx
      refine ⟨a, b, ?_, fun z m => of_decide_eq_true (d z m)⟩
      cases e : x.cps.toList with
      | nil =>
        rw [e] at c
        cases c
      | cons y r =>
        rw [e] at c
        refine ⟨y, ?_, of_decide_eq_true c⟩
        rw [← Array.getElem?_toList, e]
        rfl
    obtain ⟨p0, p13, ⟨c0, pc, pm⟩, pall⟩ := h0
    refine ⟨.str x, rfl, _, _, _, _, true, rfl, .ty _, .base (.str x), kit_ty (by decide +kernel), _, rfl, ?_⟩
    have hsz : x.length ≤ sizeLine := sz_of (by omega)
    refine ⟨.str x, rfl, x, rfl, hsz, _, _, rfl, rfl, _, rfl, ?_⟩
    rw [decide_eq_true (show (0 : Int) < (x.length : Int) by omega)]
    refine ⟨_, _, rfl, rfl, _, rfl, ?_⟩
    rw [decide_eq_true (show (x.length : Int) < 13 by omega)]
    refine ⟨.str x, rfl, x, 0, c0, rfl, rfl, hsz, ?_, .str letters, rfl, c0, letters, rfl, rfl, ?_⟩
    · have hl : x.cps.toList.length = x.length := Array.length_toList
      have e0 : ixN x.cps.toList.length 0 = some 0 := ixN_nat (j := 0) (by rw [hl]; exact p0)
      show (ixN x.cps.toList.length 0).bind _ = _
      rw [e0]
      show x.cps.toList[0]? = _
      rw [Array.getElem?_toList]
      exact pc
    refine ⟨_, rfl, ?_⟩
    rw [decide_eq_true pm]
    refine ⟨.str x, rfl, x, rfl, fun D nD => ?_⟩
    refine lc_it walk_str (fun i H' => H' D = some (.lst ((List.replicate i true).map V.bl)) ∧ Ex H H') ⟨upd_same, Ex.new nD⟩ (fun i H2 _ hI => True.intro) (fun i z H2 H3 hi hI hY => ?_) (fun H2 hI => ?_)
    · obtain ⟨g1, g2⟩ := hI
      obtain ⟨rfl, c, hc, rfl⟩ := hY
      refine ⟨rfl, _, rfl, ?_⟩
      refine ⟨_, rfl, letters, "0123456789", rfl, rfl, by decide, c, signs, rfl, rfl, (List.replicate i true).map V.bl, g1, by rw [List.length_map, List.length_replicate]; exact sz_lt (by have : x.cps.size = x.length := rfl; omega), ?_, g2.mut nD⟩
      rw [upd_same, decide_eq_true (pall c (by rw [← Array.getElem?_toList] at hc; exact List.mem_of_getElem? hc)), List.replicate_succ', List.map_append]
      rfl
    · obtain ⟨g1, g2⟩ := hI
      refine ⟨D, List.replicate x.cps.size true, rfl, sq_of g1, ?_⟩
      rw [show (List.replicate x.cps.size true).all id = true by simp]
      exact q _ g2
end
end K07
/-! text D6 -/
set_option Elab.async false
set_option linter.all false
set_option maxRecDepth 100000
set_option maxHeartbeats 4000000
/-! a thing made anew, throughout -/
namespace K07
open PySem PySem.Spec PyProof.Rows L2 Evl PySem.W Dw Dw.DV
/-- what the names of the built-ins stand for -/
structure Bn (mg : Str → Option Value) : Prop where
  isinstance : mg "isinstance" = none
  str : mg "str" = none
  list : mg "list" = none
  tuple : mg "tuple" = none
  dict : mg "dict" = none
  int : mg "int" = none
  bool : mg "bool" = none
  len : mg "len" = none
  all : mg "all" = none
  any : mg "any" = none
  zip : mg "zip" = none
  sum : mg "sum" = none
  range : mg "range" = none
  sorted : mg "sorted" = none
  enumerate : mg "enumerate" = none
section
variable {P : Program} {w : World} {K : PySem.W.Frag} {mg : Str → Option Value} {base : Heap} {f : Addr} {fd : FuncData}
def tIsT (K : PySem.W.Frag) (i : Nat) (n : String) : TE := tCB (rIsi K) (tCons (tVar i) (tCons (tC (.ty n)) tNil))
theorem pe_ist (K : PySem.W.Frag) (tn : String) (i : Nat) {X : Cx} {x n : Str} {p1 p2 p3 p4 : Pos} (mi : X.mg "isinstance" = none) (mn : X.mg n = none) (hK : X.K = K := by rfl) (h0 : X.N[i]? = some x := by rfl) (hv : Vis X.env.scope x := by first | exact Or.inl rfl | exact Or.inr (Or.inl rfl) | exact Or.inr (Or.inr rfl)) (hd : (x == ("__debug__" : Str)) = false := by rfl) (hcd : (x == ("__classdict__" : Str)) = false := by rfl)
    (gi : Gl X "isinstance" := by rfl) (gn : Gl X n := by rfl) (hb : bootBuiltins n = some (.type tn) := by decide +kernel) (hn : n ≠ "__name__" := by decide) (hdn : (n == ("__debug__" : Str)) = false := by rfl) :
    PE X (.Call (.Name "isinstance" p1) [.Name x p2, .Name n p3] [] p4) (tIsT K i tn) := by
  subst hK
  exact pe_callB call_isi gi mi (by decide +kernel) (pa_cons (pe_var h0 hv hd hcd) (pa_cons (pe_bltn gn mn hb rfl hn hdn) pa_nil))
theorem pLT : Paired ClsV [V.ty "list", V.ty "tuple"] [Value.type "list", Value.type "tuple"] := .cons (.ty _) (.cons (.ty _) .nil)
theorem valV_at {kvs : List (Key × V)} (h : (kvs.map (·.1)).Nodup) : ∀ {i : Nat} {k : Key} {v : V}, kvs[i]? = some (k, v) → valV kvs k = some v := by
  induction kvs with
  | nil => intro i k v e; simp at e
  | cons p r ih =>
    intro i k v e
    rw [List.map_cons, List.nodup_cons] at h
    cases i with
    | zero =>
      simp at e
      rw [e]
      exact valV_pos rfl
    | succ i =>
      have e' : r[i]? = some (k, v) := by simpa using e
      rw [valV_neg fun z => h.1 (by rw [z]; exact List.mem_map.mpr ⟨_, List.mem_of_getElem? e', rfl⟩)]
      exact ih h.2 e'
theorem merge_app : ∀ {kvs acc : List (Key × V)}, ((acc ++ kvs).map (·.1)).Nodup → mergeK acc kvs = acc ++ kvs
  | [], acc, _ => by simp [mergeK]
  | p :: r, acc, h => by
    have h2 : ((acc ++ [p] ++ r).map (·.1)).Nodup := by simpa using h
    have hp : putK acc p.1 p.2 = acc ++ [p] := by
      unfold putK
      rw [if_neg]
      intro z
      rw [List.any_eq_true] at z
      obtain ⟨q, hq, e⟩ := z
      rw [List.map_append, List.nodup_append] at h
      exact h.2.2 _ (List.mem_map.mpr ⟨q, hq, rfl⟩) _ (List.mem_map.mpr ⟨p, List.mem_cons_self, rfl⟩) (of_decide_eq_true e)
    show mergeK (putK acc p.1 p.2) r = _
    rw [hp, merge_app h2]
    simp
theorem pl1 {α β : Type} {F : α → β → Prop} : ∀ {l : List α} {m : List β}, Paired F l m → l.length = m.length
  | _, _, .nil => rfl
  | _, _, .cons _ r => by rw [List.length_cons, List.length_cons, pl1 r]
theorem pmem {α β : Type} {F G : α → β → Prop} : ∀ {l : List α} {m : List β}, (∀ a b, a ∈ l → F a b → G a b) → Paired F l m → Paired G l m
  | _, _, _, .nil => .nil
  | _, _, h, .cons a r => .cons (h _ _ List.mem_cons_self a) (pmem (fun x y m => h x y (List.mem_cons_of_mem _ m)) r)
theorem exf {H H' : Hp} (e : Ex H H') {p : Addr} (h : H' p = none) : H p = none := by
  cases m : H p with
  | none => rfl
  | some o =>
    rw [e _ _ m] at h
    cases h
theorem kV_atom (k : Key) : atomV (kV k) = true := by cases k <;> rfl
def spC (d : Nat) : Sp := fun vs H Q _ => ∃ v A, vs = [v] ∧ Ex A H ∧ Tw A A d v v ∧ ∀ u H' Hs, Ex H H' → Ex Hs H' → (∀ b o, Hs b = some o → H b = none) → Tw A Hs d v u → Q u H'
abbrev NCop : List Str := ["thing", "key", "found", "part"]
theorem scCop : FnScope NCop ["thing"] (defScope (top 44)) := ⟨rfl, rfl, rfl, by decide +kernel, rfl, by decide +kernel, by decide +kernel⟩
theorem ok_copied (F : FnP K "_law_copied" (top 44) f fd) (gs : mg "_law_copied" = some (.ref f)) (B : Bn mg) : ∀ d, FnOk P w K mg base CX0 d f fd ["thing"] (spC d)
  | 0 => ⟨fun _ _ _ _ h => by
      obtain ⟨_, _, _, _, h, _⟩ := h
      exact h.elim, fun _ _ _ _ _ _ _ _ _ _ _ _ _ h => by
      obtain ⟨_, _, _, _, h, _⟩ := h
      exact h.elim⟩
  | d + 1 => by
    have G := ok_copied F gs B d
    have bS : Binds K fd ["thing"] [] := F.bindsN fun _ _ _ _ _ _ us hl => match us, hl with | [_], _ => rfl
    refine F.ok scCop (fun vs H Q E h => ?_) (fun cdv A0 outer s H vs Q E hr h => ?_)
    · obtain ⟨v, _, rfl, _⟩ := h
      rfl
    · obtain ⟨v, A, rfl, eA, hT, q⟩ := h
      have atomCase : ∀ u H', Ex H H' → atomV v = true → u = v → Q u H' := fun u H' e a z => by
        rw [z]
        exact q v H' (fun _ => none) e (fun _ _ z => (by cases z)) (fun _ _ z => (by cases z)) (.inl ⟨rfl, a⟩)
      rcases hT with ⟨_, ha⟩ | ⟨a, b, xs, ys, rfl, e2, ga, gb, hl, hp⟩ | ⟨a, b, xs, ys, rfl, e2, ga, gb, hl, hp⟩ | ⟨a, b, kvs, rfl, e2, ga, gb, hl, hd, hn, hv⟩
      · refine ⟨_, (pss_cons (ps_if (pt_val (pe_ist K "dict" 0 B.isinstance B.dict))
            (pss_one (ps_ret (pe_callTy (call_dictP rfl) (by rfl) B.dict (by decide +kernel) (pa_cons (pe_lock (pe_lc (own := [("key", 1)]) (g := gName 1) (tt := tYes) (te := tTup (tCons (tVar 1) (tCons (tCall (spC d) [] E0 (tCons (tDGet (tVar 0) (tVar 1)) tNil)) tNil))) rfl scCop.nd (pi_keys (pv 0)) (blkOk_by (N := NCop) (sc := defScope (top 44)) (by decide +kernel))
              (fun _ _ _ _ _ => pg_name (i := 1) scCop.nd rfl (.inl rfl)) (fun _ _ _ _ _ => pts_nil)
              (fun _ _ _ _ _ => pe_tup (pa_cons (pv 1) (pa_cons (pe_call G hr (by rfl) gs F.kp bS .nil pass0 (pa_cons (pe_dget (hu_of hr) (pv 0) (pv 1) (fun _ _ => rfl)) pa_nil)) pa_nil))))) pa_nil)))) pss_nil)
          (pss_cons (ps_if (pt_not (pt_val (pe_callB call_isiT (by rfl) B.isinstance (by decide +kernel) (pa_cons (pv 0) (pa_cons (pe_tup (pa_cons (pe_bltn (v := .ty "list") (by rfl) B.list (by decide +kernel) rfl) (pa_cons (pe_bltn (v := .ty "tuple") (by rfl) B.tuple (by decide +kernel) rfl) pa_nil))) pa_nil)))))
            (pss_one (ps_ret (pv 0))) pss_nil)
          (pss_cons (ps_setLc (i := 2) (own := [("part", 3)]) (g := gName 3) (tt := tYes) (te := tCall (spC d) [] E0 (tCons (tVar 3) tNil)) rfl scCop.nd rfl rfl (sw_true rfl rfl (by rfl) (by rfl)) (pi_list (pv 0)) (blkOk_by (N := NCop) (sc := defScope (top 44)) (by decide +kernel))
              (fun _ _ _ _ _ => pg_name (i := 3) scCop.nd rfl (.inl rfl)) (fun _ _ _ _ _ => pts_nil)
              (fun _ _ _ _ _ => pe_call G hr (by rfl) gs F.kp bS .nil pass0 (pa_cons (pv 3) pa_nil)))
          (pss_one (ps_ret (pe_ifExp (pt_val (pe_ist K "list" 0 B.isinstance B.list)) (pv 2) (pe_callTy call_tuple_of (by rfl) B.tuple (by decide +kernel) (pa_cons (pv 2) pa_nil)))))))), ?_⟩
        cases v with
        | non =>
          refine ⟨.non, rfl, _, _, _, _, false, rfl, .ty _, .base .non, kit_ty (by decide +kernel), _, rfl, ?_⟩
          refine ⟨.non, rfl, by show 2 ≤ sizeLine; decide, fun T nT => ?_⟩
          refine ⟨_, T, _, _, _, false, rfl, upd_same, pLT, .base .non, kAny (b := false) (c := false) (by decide +kernel) (by decide +kernel), _, rfl, ?_⟩
          exact ⟨.non, rfl, atomCase _ _ (Ex.new nT) rfl rfl⟩
        | bl x =>
          refine ⟨.bl x, rfl, _, _, _, _, false, rfl, .ty _, .base (.bl x), kit_ty (by decide +kernel), _, rfl, ?_⟩
          refine ⟨.bl x, rfl, by show 2 ≤ sizeLine; decide, fun T nT => ?_⟩
          refine ⟨_, T, _, _, _, false, rfl, upd_same, pLT, .base (.bl x), kAny (b := false) (c := false) (by decide +kernel) (by decide +kernel), _, rfl, ?_⟩
          exact ⟨.bl x, rfl, atomCase _ _ (Ex.new nT) rfl rfl⟩
        | int x =>
          refine ⟨.int x, rfl, _, _, _, _, false, rfl, .ty _, .base (.int x), kit_ty (by decide +kernel), _, rfl, ?_⟩
          refine ⟨.int x, rfl, by show 2 ≤ sizeLine; decide, fun T nT => ?_⟩
          refine ⟨_, T, _, _, _, false, rfl, upd_same, pLT, .base (.int x), kAny (b := false) (c := false) (by decide +kernel) (by decide +kernel), _, rfl, ?_⟩
          exact ⟨.int x, rfl, atomCase _ _ (Ex.new nT) rfl rfl⟩
        | str x =>
          refine ⟨.str x, rfl, _, _, _, _, false, rfl, .ty _, .base (.str x), kit_ty (by decide +kernel), _, rfl, ?_⟩
          refine ⟨.str x, rfl, by show 2 ≤ sizeLine; decide, fun T nT => ?_⟩
          refine ⟨_, T, _, _, _, false, rfl, upd_same, pLT, .base (.str x), kAny (b := false) (c := false) (by decide +kernel) (by decide +kernel), _, rfl, ?_⟩
          exact ⟨.str x, rfl, atomCase _ _ (Ex.new nT) rfl rfl⟩
        | _ => cases ha
      · cases e2
        rw [ga] at gb
        cases gb
        refine ⟨_, (pss_cons (ps_if (pt_val (pe_ist K "dict" 0 B.isinstance B.dict))
            (pss_one (ps_ret (pe_callTy (call_dictP rfl) (by rfl) B.dict (by decide +kernel) (pa_cons (pe_lock (pe_lc (own := [("key", 1)]) (g := gName 1) (tt := tYes) (te := tTup (tCons (tVar 1) (tCons (tCall (spC d) [] E0 (tCons (tDGet (tVar 0) (tVar 1)) tNil)) tNil))) rfl scCop.nd (pi_keys (pv 0)) (blkOk_by (N := NCop) (sc := defScope (top 44)) (by decide +kernel))
              (fun _ _ _ _ _ => pg_name (i := 1) scCop.nd rfl (.inl rfl)) (fun _ _ _ _ _ => pts_nil)
              (fun _ _ _ _ _ => pe_tup (pa_cons (pv 1) (pa_cons (pe_call G hr (by rfl) gs F.kp bS .nil pass0 (pa_cons (pe_dget (hu_of hr) (pv 0) (pv 1) (fun _ _ => rfl)) pa_nil)) pa_nil))))) pa_nil)))) pss_nil)
          (pss_cons (ps_if (pt_not (pt_val (pe_callB call_isiT (by rfl) B.isinstance (by decide +kernel) (pa_cons (pv 0) (pa_cons (pe_tup (pa_cons (pe_bltn (v := .ty "list") (by rfl) B.list (by decide +kernel) rfl) (pa_cons (pe_bltn (v := .ty "tuple") (by rfl) B.tuple (by decide +kernel) rfl) pa_nil))) pa_nil)))))
            (pss_one (ps_ret (pv 0))) pss_nil)
          (pss_cons (ps_setLc (i := 2) (own := [("part", 3)]) (g := gName 3) (tt := tYes) (te := tCall (spC d) [] E0 (tCons (tVar 3) tNil)) rfl scCop.nd rfl rfl (sw_true rfl rfl (by rfl) (by rfl)) (pi_list (pv 0)) (blkOk_by (N := NCop) (sc := defScope (top 44)) (by decide +kernel))
              (fun _ _ _ _ _ => pg_name (i := 3) scCop.nd rfl (.inl rfl)) (fun _ _ _ _ _ => pts_nil)
              (fun _ _ _ _ _ => pe_call G hr (by rfl) gs F.kp bS .nil pass0 (pa_cons (pv 3) pa_nil)))
          (pss_one (ps_ret (pe_ifExp (pt_val (pe_ist K "list" 0 B.isinstance B.list)) (pv 2) (pe_callTy call_tuple_of (by rfl) B.tuple (by decide +kernel) (pa_cons (pv 2) pa_nil)))))))), ?_⟩
        have ha := eA _ _ ga
        refine ⟨.ref a, rfl, _, _, _, _, false, rfl, .ty _, .base (.lst ha), kit_ty (by decide +kernel), _, rfl, ?_⟩
        refine ⟨.ref a, rfl, by show 2 ≤ sizeLine; decide, fun T nT => ?_⟩
        have e1 : Ex H (upd H T (.tup [.ty "list", .ty "tuple"])) := Ex.new nT
        refine ⟨_, T, _, _, _, true, rfl, upd_same, pLT, .base (.lst (e1 _ _ ha)), kAny (b := true) (c := false) (by decide +kernel) (by decide +kernel), _, rfl, ?_⟩
        refine ⟨.ref a, rfl, a, rfl, ⟨xs, sq_of (e1 _ _ ha)⟩, fun D nD => ?_⟩
        have nD0 : H D = none := exf e1 nD
        refine lc_it (walk_list (xs := xs)) (fun i H' => ∃ ws Hw, H' D = some (.lst ws) ∧ Ex H H' ∧ Ex Hw H' ∧ (∀ b o, Hw b = some o → b ≠ D ∧ H b = none) ∧ Paired (Tw A Hw d) (xs.take i) ws)
          ⟨[], fun _ => none, upd_same, e1.trans (Ex.new nD), fun _ _ z => (by cases z), fun _ _ z => (by cases z), .nil⟩ (fun i H2 _ hI => by
            obtain ⟨ws, Hw, _, g2, _⟩ := hI
            exact sq_of (g2 _ _ ha)) (fun i z H2 H3 hi hI hY => ?_) (fun H2 hI => ?_)
        · obtain ⟨ws, Hw, g1, g2, g3, g4, g5⟩ := hI
          obtain ⟨rfl, hz⟩ := hY
          refine ⟨rfl, ?_⟩
          have lw := pl1 g5
          rw [List.length_take] at lw
          refine ⟨z, rfl, z, A, rfl, eA.trans g2, pat hp hz hz, fun u H4 Hs e4 s1 s2 t => ?_⟩
          have DHs : ∀ b o, Hs b = some o → b ≠ D := fun b o e y => by
            have := s2 b o e
            rw [y, g1] at this
            cases this
          refine ⟨ws, e4 _ _ g1, sz_lt (by omega), ws ++ [u], jn Hw Hs, upd_same, (g2.trans e4).mut nD0, fun b o e => ?_, fun b o e => ?_, ?_⟩
          · rcases jn_of e with y | y
            · rw [upd_ne (g4 b o y).1]
              exact e4 _ _ (g3 _ _ y)
            · rw [upd_ne (DHs b o y)]
              exact s1 _ _ y
          · rcases jn_of e with y | y
            · exact g4 b o y
            · exact ⟨DHs b o y, exf g2 (s2 b o y)⟩
          · rw [List.take_add_one, hz]
            exact papp (pimp (fun _ _ z => Tw.ext (Ex.refl A) jn_l z) g5) (.cons (Tw.ext (Ex.refl A) (jn_r (g3.trans e4) s1) t) .nil)
        obtain ⟨ws, Hw, g1, g2, g3, g4, g5⟩ := hI
        rw [List.take_of_length_le (Nat.le_refl _)] at g5
        have nw : Hw D = none := by
          cases z : Hw D with
          | none => rfl
          | some o => exact absurd rfl (g4 D o z).1
        refine ⟨.ref a, rfl, _, _, _, _, true, rfl, .ty _, .base (.lst (g2 _ _ (eA _ _ ga))), kit_ty (by decide +kernel), _, rfl, ?_⟩
        refine ⟨.ref D, rfl, ?_⟩
        exact q _ H2 (upd Hw D (.lst ws)) g2 (fun b u z => by
          by_cases y : b = D
          · rw [y, upd_same] at z
            rw [y, g1]
            exact z
          · rw [upd_ne y] at z
            exact g3 _ _ z) (fun b u z => by
          by_cases y : b = D
          · rw [y]
            exact nD0
          · rw [upd_ne y] at z
            exact (g4 b u z).2) (.inr (.inl ⟨a, D, xs, ws, rfl, rfl, ga, upd_same, hl, pimp (fun _ _ z => Tw.ext (Ex.refl A) (Ex.new nw) z) g5⟩))
      · cases e2
        rw [ga] at gb
        cases gb
        refine ⟨_, (pss_cons (ps_if (pt_val (pe_ist K "dict" 0 B.isinstance B.dict))
            (pss_one (ps_ret (pe_callTy (call_dictP rfl) (by rfl) B.dict (by decide +kernel) (pa_cons (pe_lock (pe_lc (own := [("key", 1)]) (g := gName 1) (tt := tYes) (te := tTup (tCons (tVar 1) (tCons (tCall (spC d) [] E0 (tCons (tDGet (tVar 0) (tVar 1)) tNil)) tNil))) rfl scCop.nd (pi_keys (pv 0)) (blkOk_by (N := NCop) (sc := defScope (top 44)) (by decide +kernel))
              (fun _ _ _ _ _ => pg_name (i := 1) scCop.nd rfl (.inl rfl)) (fun _ _ _ _ _ => pts_nil)
              (fun _ _ _ _ _ => pe_tup (pa_cons (pv 1) (pa_cons (pe_call G hr (by rfl) gs F.kp bS .nil pass0 (pa_cons (pe_dget (hu_of hr) (pv 0) (pv 1) (fun _ _ => rfl)) pa_nil)) pa_nil))))) pa_nil)))) pss_nil)
          (pss_cons (ps_if (pt_not (pt_val (pe_callB call_isiT (by rfl) B.isinstance (by decide +kernel) (pa_cons (pv 0) (pa_cons (pe_tup (pa_cons (pe_bltn (v := .ty "list") (by rfl) B.list (by decide +kernel) rfl) (pa_cons (pe_bltn (v := .ty "tuple") (by rfl) B.tuple (by decide +kernel) rfl) pa_nil))) pa_nil)))))
            (pss_one (ps_ret (pv 0))) pss_nil)
          (pss_cons (ps_setLc (i := 2) (own := [("part", 3)]) (g := gName 3) (tt := tYes) (te := tCall (spC d) [] E0 (tCons (tVar 3) tNil)) rfl scCop.nd rfl rfl (sw_true rfl rfl (by rfl) (by rfl)) (pi_tup (pv 0)) (blkOk_by (N := NCop) (sc := defScope (top 44)) (by decide +kernel))
              (fun _ _ _ _ _ => pg_name (i := 3) scCop.nd rfl (.inl rfl)) (fun _ _ _ _ _ => pts_nil)
              (fun _ _ _ _ _ => pe_call G hr (by rfl) gs F.kp bS .nil pass0 (pa_cons (pv 3) pa_nil)))
          (pss_one (ps_ret (pe_ifExp (pt_val (pe_ist K "list" 0 B.isinstance B.list)) (pv 2) (pe_callTy call_tuple_of (by rfl) B.tuple (by decide +kernel) (pa_cons (pv 2) pa_nil)))))))), ?_⟩
        have ha := eA _ _ ga
        refine ⟨.ref a, rfl, _, _, _, _, false, rfl, .ty _, .base (.tup ha), kit_ty (by decide +kernel), _, rfl, ?_⟩
        refine ⟨.ref a, rfl, by show 2 ≤ sizeLine; decide, fun T nT => ?_⟩
        have e1 : Ex H (upd H T (.tup [.ty "list", .ty "tuple"])) := Ex.new nT
        refine ⟨_, T, _, _, _, true, rfl, upd_same, pLT, .base (.tup (e1 _ _ ha)), kAny (b := false) (c := true) (by decide +kernel) (by decide +kernel), _, rfl, ?_⟩
        refine ⟨.ref a, rfl, a, rfl, ⟨xs, st_of (e1 _ _ ha)⟩, fun D nD => ?_⟩
        have nD0 : H D = none := exf e1 nD
        refine lc_it (walk_tup (xs := xs)) (fun i H' => ∃ ws Hw, H' D = some (.lst ws) ∧ Ex H H' ∧ Ex Hw H' ∧ (∀ b o, Hw b = some o → b ≠ D ∧ H b = none) ∧ Paired (Tw A Hw d) (xs.take i) ws)
          ⟨[], fun _ => none, upd_same, e1.trans (Ex.new nD), fun _ _ z => (by cases z), fun _ _ z => (by cases z), .nil⟩ (fun i H2 _ hI => by
            obtain ⟨ws, Hw, _, g2, _⟩ := hI
            exact st_of (g2 _ _ ha)) (fun i z H2 H3 hi hI hY => ?_) (fun H2 hI => ?_)
        · obtain ⟨ws, Hw, g1, g2, g3, g4, g5⟩ := hI
          obtain ⟨rfl, hz⟩ := hY
          refine ⟨rfl, ?_⟩
          have lw := pl1 g5
          rw [List.length_take] at lw
          refine ⟨z, rfl, z, A, rfl, eA.trans g2, pat hp hz hz, fun u H4 Hs e4 s1 s2 t => ?_⟩
          have DHs : ∀ b o, Hs b = some o → b ≠ D := fun b o e y => by
            have := s2 b o e
            rw [y, g1] at this
            cases this
          refine ⟨ws, e4 _ _ g1, sz_lt (by omega), ws ++ [u], jn Hw Hs, upd_same, (g2.trans e4).mut nD0, fun b o e => ?_, fun b o e => ?_, ?_⟩
          · rcases jn_of e with y | y
            · rw [upd_ne (g4 b o y).1]
              exact e4 _ _ (g3 _ _ y)
            · rw [upd_ne (DHs b o y)]
              exact s1 _ _ y
          · rcases jn_of e with y | y
            · exact g4 b o y
            · exact ⟨DHs b o y, exf g2 (s2 b o y)⟩
          · rw [List.take_add_one, hz]
            exact papp (pimp (fun _ _ z => Tw.ext (Ex.refl A) jn_l z) g5) (.cons (Tw.ext (Ex.refl A) (jn_r (g3.trans e4) s1) t) .nil)
        obtain ⟨ws, Hw, g1, g2, g3, g4, g5⟩ := hI
        rw [List.take_of_length_le (Nat.le_refl _)] at g5
        have nw : Hw D = none := by
          cases z : Hw D with
          | none => rfl
          | some o => exact absurd rfl (g4 D o z).1
        refine ⟨.ref a, rfl, _, _, _, _, false, rfl, .ty _, .base (.tup (g2 _ _ (eA _ _ ga))), kit_ty (by decide +kernel), _, rfl, ?_⟩
        refine ⟨.ref D, rfl, D, ws, rfl, .inl ⟨sq_of g1, fun T nT => ?_⟩⟩
        have nT0 : H T = none := exf g2 nT
        exact q _ _ (upd Hw T (.tup ws)) (g2.trans (Ex.new nT)) (fun b u z => by
          by_cases y : b = T
          · rw [y, upd_same] at z ⊢
            exact z
          · rw [upd_ne y] at z ⊢
            exact g3 _ _ z) (fun b u z => by
          by_cases y : b = T
          · rw [y]
            exact nT0
          · rw [upd_ne y] at z
            exact (g4 b u z).2) (.inr (.inr (.inl ⟨a, T, xs, ws, rfl, rfl, ga, upd_same, hl, pimp (fun _ _ z => Tw.ext (Ex.refl A) (Ex.new (exf g3 nT)) z) g5⟩)))
      · cases e2
        refine ⟨_, (pss_cons (ps_if (pt_val (pe_ist K "dict" 0 B.isinstance B.dict))
            (pss_one (ps_ret (pe_callTy (call_dictP rfl) (by rfl) B.dict (by decide +kernel) (pa_cons (pe_lock (pe_lc (own := [("key", 1)]) (g := gName 1) (tt := tYes) (te := tTup (tCons (tVar 1) (tCons (tCall (spC d) [] E0 (tCons (tDGet (tVar 0) (tVar 1)) tNil)) tNil))) rfl scCop.nd (pi_keys (pv 0)) (blkOk_by (N := NCop) (sc := defScope (top 44)) (by decide +kernel))
              (fun _ _ _ _ _ => pg_name (i := 1) scCop.nd rfl (.inl rfl)) (fun _ _ _ _ _ => pts_nil)
              (fun _ _ _ _ _ => pe_tup (pa_cons (pv 1) (pa_cons (pe_call G hr (by rfl) gs F.kp bS .nil pass0 (pa_cons (pe_dget (hu_of hr) (pv 0) (pv 1) (fun _ _ => rfl)) pa_nil)) pa_nil))))) pa_nil)))) pss_nil)
          (pss_cons (ps_if (pt_not (pt_val (pe_callB call_isiT (by rfl) B.isinstance (by decide +kernel) (pa_cons (pv 0) (pa_cons (pe_tup (pa_cons (pe_bltn (v := .ty "list") (by rfl) B.list (by decide +kernel) rfl) (pa_cons (pe_bltn (v := .ty "tuple") (by rfl) B.tuple (by decide +kernel) rfl) pa_nil))) pa_nil)))))
            (pss_one (ps_ret (pv 0))) pss_nil)
          (pss_cons (ps_setLc (i := 2) (own := [("part", 3)]) (g := gName 3) (tt := tYes) (te := tCall (spC d) [] E0 (tCons (tVar 3) tNil)) rfl scCop.nd rfl rfl (sw_true rfl rfl (by rfl) (by rfl)) (pi_list (pv 0)) (blkOk_by (N := NCop) (sc := defScope (top 44)) (by decide +kernel))
              (fun _ _ _ _ _ => pg_name (i := 3) scCop.nd rfl (.inl rfl)) (fun _ _ _ _ _ => pts_nil)
              (fun _ _ _ _ _ => pe_call G hr (by rfl) gs F.kp bS .nil pass0 (pa_cons (pv 3) pa_nil)))
          (pss_one (ps_ret (pe_ifExp (pt_val (pe_ist K "list" 0 B.isinstance B.list)) (pv 2) (pe_callTy call_tuple_of (by rfl) B.tuple (by decide +kernel) (pa_cons (pv 2) pa_nil)))))))), ?_⟩
        have ha := eA _ _ ga
        refine ⟨.ref a, rfl, _, _, _, _, true, rfl, .ty _, .base (.dK ha), kit_ty (by decide +kernel), _, rfl, ?_⟩
        refine ⟨a, .dK kvs, ha, True.intro, fun od => ⟨.ref a, rfl, a, od, rfl, .inl ⟨kvs, upd_same, fun D nD => ?_⟩⟩⟩
        have Da : a ≠ D := ne_of_none upd_same nD
        have nD0 : H D = none := by
          rw [upd_ne Da.symm] at nD
          exact nD
        refine lc_it walk_keys (fun i H' => H' a = some (.frz od (.dK kvs)) ∧ (∀ b o, b ≠ a → H b = some o → H' b = some o) ∧ ∃ ps : List Addr, H' D = some (.lst (ps.map V.ref)) ∧ D ∉ ps ∧ Paired (fun p (kv : Key × V) => H' p = some (.tup [kV kv.1, kv.2])) ps (kvs.take i))
          ⟨by rw [upd_ne Da, upd_same], fun b o nb e => by rw [upd_ne (fun z => by rw [z, nD0] at e; cases e), upd_ne nb]; exact e, [], upd_same, by simp, .nil⟩ (fun i H2 _ hI => hI.1) (fun i z H2 H3 hi hI hY => ?_) (fun H2 hI => ?_)
        · obtain ⟨g1, g2, ps, g3, g4, g5⟩ := hI
          obtain ⟨rfl, k, v, hk, rfl⟩ := hY
          refine ⟨rfl, ?_⟩
          refine ⟨kV k, rfl, .ref a, rfl, kV k, rfl, a, v, rfl, .inl ⟨kvs, k, .inr ⟨od, g1⟩, rfl, (valV_at hn hk).symm⟩, ?_⟩
          have av : atomV v = true := hv (k, v) (List.mem_of_getElem? hk)
          obtain ⟨d', rfl⟩ : ∃ d', d = d' + 1 := ⟨d - 1, by omega⟩
          refine ⟨v, fun _ => none, rfl, fun _ _ z => (by cases z), Tw.of_atom av, fun u H4 Hs e4 _ _ t => ?_⟩
          have eu := t.atom av
          subst eu
          refine ⟨by show 2 ≤ sizeLine; decide, fun p np => ?_⟩
          have D4 := e4 _ _ g3
          have pD : D ≠ p := ne_of_none D4 np
          have pa : a ≠ p := ne_of_none (e4 _ _ g1) np
          have lps : ps.length ≤ 1000 := by
            have := pl1 g5
            rw [List.length_take] at this
            omega
          refine ⟨ps.map V.ref, by rw [upd_ne pD]; exact D4, by rw [List.length_map]; exact sz_lt (by omega), by rw [upd_ne Da, upd_ne pa]; exact e4 _ _ g1, fun b o nb e => ?_, ps ++ [p], by rw [upd_same]; simp, ?_, ?_⟩
          · have e5 := e4 _ _ (g2 b o nb e)
            rw [upd_ne (fun z => by rw [z, nD0] at e; cases e), upd_ne (fun z => by rw [z, np] at e5; cases e5)]
            exact e5
          · intro m
            rcases List.mem_append.mp m with m | m
            · exact g4 m
            · exact pD (List.mem_singleton.mp m)
          · rw [List.take_add_one, hk]
            refine papp (pmem (fun q kv hq z => ?_) g5) (.cons (by rw [upd_ne pD.symm, upd_same]) .nil)
            rw [upd_ne (fun y => g4 (by rw [← y]; exact hq)), upd_ne (fun y => by rw [y] at z; rw [e4 _ _ z] at np; cases np)]
            exact e4 _ _ z
        · obtain ⟨g1, g2, ps, g3, g4, g5⟩ := hI
          rw [List.take_of_length_le (Nat.le_refl _)] at g5
          refine ⟨g1, D, ps, kvs, rfl, sq_of (by rw [upd_ne Da.symm]; exact g3), pmem (fun q kv hq z => st_of (by rw [upd_ne (fun y => by rw [y, g1] at z; cases z)]; exact z)) g5, fun p np => ?_⟩
          rw [merge_app (acc := []) (by simpa using hn)]
          have eH : Ex H (upd H2 a (.dK kvs)) := fun b o e => by
            by_cases y : b = a
            · rw [y, upd_same]
              rw [y, ha] at e
              exact e
            · rw [upd_ne y]
              exact g2 b o y e
          exact q _ _ (upd (fun _ => none) p (.dK kvs)) (eH.trans (Ex.new np)) (fun b u z => by
            by_cases y : b = p
            · rw [y, upd_same] at z ⊢
              exact z
            · rw [upd_ne y] at z
              cases z) (fun b u z => by
            by_cases y : b = p
            · rw [y]
              exact exf eH np
            · rw [upd_ne y] at z
              cases z) (.inr (.inr (.inr ⟨a, p, kvs, rfl, rfl, ga, upd_same, hl, hd, hn, hv⟩)))
end
end K07
/-! text D7 -/
set_option Elab.async false
set_option linter.all false
set_option maxRecDepth 100000
set_option maxHeartbeats 4000000
/-! whether two things are the same -/
namespace K07
open PySem PySem.Spec PyProof.Rows L2 Evl PySem.W Dw Dw.DV RZ
theorem walk_zipT {K : PySem.W.Frag} {a b : Addr} {xs ys : List V} {n : Nat} (hn : n = xs.length) (hl : xs.length = ys.length) : Walk (ItzT K a b) n (fun H => SqT K H a xs ∧ SqT K H b ys) (YPair (fun i => xs[i]?) (fun i => ys[i]?)) := by
  refine ⟨fun i H hi h => ?_, fun H h => ?_, fun i H x H' hi h y => ?_⟩
  · exact ⟨xs, ys, xs[i], ys[i], h.1, h.2, List.getElem?_eq_getElem (by omega), List.getElem?_eq_getElem (by omega)⟩
  · exact ⟨xs, ys, h.1, h.2, .inl (by omega)⟩
  · obtain ⟨T, x', y', h1, h2, h3, h4, h5⟩ := y
    exact ⟨T, x', y', h1, h2, h3, h4 _ h.1, h5 _ h.2⟩
def spS : Nat → Sp := fun d vs H Q _ => ∃ v u, vs = [v, u] ∧ Tw H H d v u ∧ ∀ H', Ex H H' → Q (.bl true) H'
theorem all_rep (n : Nat) : (List.replicate n true).all id = true := by simp
theorem tw_items {H : Hp} {e : Nat} : ∀ {ts ts2 : List Addr} {kvs : List (Key × V)}, (∀ q ∈ kvs, atomV q.2 = true) → Paired (fun (t : Addr) (q : Key × V) => H t = some (.tup [kV q.1, q.2])) ts kvs → Paired (fun (t : Addr) (q : Key × V) => H t = some (.tup [kV q.1, q.2])) ts2 kvs →
    Paired (Tw H H (e + 2)) (ts.map V.ref) (ts2.map V.ref)
  | _, _, _, _, .nil, .nil => .nil
  | _, _, (k, v) :: _, ha, .cons h1 r1, .cons h2 r2 => by
    refine .cons (.inr (.inr (.inl ⟨_, _, _, _, rfl, rfl, h1, h2, by show 2 ≤ 1000; decide, .cons (.inl ⟨rfl, ?_⟩) (.cons (.inl ⟨rfl, ha _ List.mem_cons_self⟩) .nil)⟩))) (tw_items (fun q hq => ha q (List.mem_cons_of_mem _ hq)) r1 r2)
    cases k <;> rfl
section
variable {P : Program} {w : World} {K : PySem.W.Frag} {mg : Str → Option Value} {base : Heap} {f : Addr} {fd : FuncData}
abbrev NSame : List Str := ["found", "due", "x", "y"]
theorem scSame : FnScope NSame ["found", "due"] (defScope (top 45)) := ⟨rfl, rfl, rfl, by decide +kernel, rfl, by decide +kernel, by decide +kernel⟩
theorem ok_same (F : FnP K "_law_same" (top 45) f fd) (gs : mg "_law_same" = some (.ref f)) (B : Bn mg) : ∀ d, FnOk P w K mg base CX0 d f fd ["found", "due"] (spS d)
  | 0 => ⟨fun _ _ _ _ h => by
      obtain ⟨_, _, _, h, _⟩ := h
      exact h.elim, fun _ _ _ _ _ _ _ _ _ _ _ _ _ h => by
      obtain ⟨_, _, _, h, _⟩ := h
      exact h.elim⟩
  | d + 1 => by
    have G := ok_same F gs B d
    have bS : Binds K fd ["found", "due"] [] := F.bindsN fun _ _ _ _ _ _ us hl => match us, hl with | [_, _], _ => rfl
    refine F.ok scSame (fun vs H Q E h => ?_) (fun cdv A outer s H vs Q E hr h => ?_)
    · obtain ⟨v, u, rfl, _⟩ := h
      rfl
    · obtain ⟨v, u, rfl, hT, qq⟩ := h
      refine ⟨_, PSs.nox (
        pss_cons (ps_if (pt_val (pe_callB call_isiT (by rfl) B.isinstance (by decide +kernel) (pa_cons (pv 1) (pa_cons (pe_tup (pa_cons (pe_bltn (v := .ty "list") (by rfl) B.list (by decide +kernel) rfl) (pa_cons (pe_bltn (v := .ty "tuple") (by rfl) B.tuple (by decide +kernel) rfl) pa_nil))) pa_nil))))
          (pss_cons (ps_if (pw_or (pt_cmpR op_ne (pe_ist K "list" 0 B.isinstance B.list) (pe_ist K "list" 1 B.isinstance B.list) (nomark _))
            (pw_or1 (pt_cmpR op_ne (pe_ist K "tuple" 0 B.isinstance B.tuple) (pe_ist K "tuple" 1 B.isinstance B.tuple) (nomark _)))).pt (pss_one (ps_ret pe_bl)) pss_nil)
          (pss_one (ps_ret (pe_and (pe_cmpR op_eq (pe_callB call_len_seq (by rfl) B.len PySem.boot_len (pa_cons (pv 0) pa_nil)) (pe_callB call_len_seq (by rfl) B.len PySem.boot_len (pa_cons (pv 1) pa_nil)) (nomark _))
            (pe_one (pe_callB (cr_all rfl) (by rfl) B.all (by decide +kernel) (pa_cons (pe_lc (own := [("x", 2), ("y", 3)]) (g := gTup K 2 (gCons (gName 2) (gCons (gName 3) gNil))) (tt := tYes) (te := tCall (spS d) [] E0 (tCons (tVar 2) (tCons (tVar 3) tNil))) rfl scSame.nd
              (pi_zipA (by rfl) B.zip (pa_cons (pv 0) (pa_cons (pv 1) pa_nil))) (blkOk_by (N := NSame) (sc := defScope (top 45)) (by decide +kernel))
              (fun _ _ _ _ _ => pg_tup rfl (pgs_cons (pg_name (i := 2) scSame.nd rfl (.inl rfl)) (pgs_cons (pg_name (i := 3) scSame.nd rfl (.inl rfl)) pgs_nil))) (fun _ _ _ _ _ => pts_nil)
              (fun _ _ _ _ _ => pe_call G hr (by rfl) gs F.kp bS .nil pass0 (pa_cons (pv 2) (pa_cons (pv 3) pa_nil)))) pa_nil))))))) pss_nil)
        (pss_cons (ps_if (pt_val (pe_ist K "dict" 1 B.isinstance B.dict))
          (pss_one (ps_ret (pe_and (pe_ist K "dict" 0 B.isinstance B.dict)
            (pe_one (pe_call G hr (by rfl) gs F.kp bS .nil pass0 (pa_cons (LiI.pe_listItems rfl (pv 0) (by rfl) B.list (by decide +kernel)) (pa_cons (LiI.pe_listItems rfl (pv 1) (by rfl) B.list (by decide +kernel)) pa_nil))))))) pss_nil)
        (pss_cons (ps_if (pt_val (pe_ist K "int" 1 B.isinstance B.int))
          (pss_one (ps_ret (pe_and (pe_ist K "int" 0 B.isinstance B.int)
            (pe_and (pe_cmpR op_eq (pe_ist K "bool" 0 B.isinstance B.bool) (pe_ist K "bool" 1 B.isinstance B.bool) (nomark _))
              (pe_one (pe_cmpR op_eq (pv 0) (pv 1) (nomark _))))))) pss_nil)
        (pss_cons (ps_if (pt_cmpR op_isN (pv 1) pe_non (nomark _)) (pss_one (ps_ret (pe_cmpR op_isN (pv 0) pe_non (nomark _)))) pss_nil)
        (pss_cons (ps_if (pt_val (pe_ist K "str" 1 B.isinstance B.str))
          (pss_one (ps_ret (pe_and (pe_ist K "str" 0 B.isinstance B.str) (pe_one (pe_cmpR op_eq (pv 0) (pv 1) (nomark _)))))) pss_nil)
        (pss_one (ps_ret (pe_and (pe_not (pe_callB call_isiT (by rfl) B.isinstance (by decide +kernel) (pa_cons (pv 0) (pa_cons (pe_tup (pa_cons (pe_bltn (v := .ty "int") (by rfl) B.int (by decide +kernel) rfl) (pa_cons (pe_bltn (v := .ty "str") (by rfl) B.str (by decide +kernel) rfl) (pa_cons (pe_bltn (v := .ty "list") (by rfl) B.list (by decide +kernel) rfl) (pa_cons (pe_bltn (v := .ty "tuple") (by rfl) B.tuple (by decide +kernel) rfl) (pa_cons (pe_bltn (v := .ty "dict") (by rfl) B.dict (by decide +kernel) rfl) pa_nil)))))) pa_nil))))
          (pe_one (pe_cmpR op_eq (pv 0) (pv 1) (nomark _))))))))))), ?_⟩
      rcases hT with ⟨e, ha⟩ | ⟨a, b, xs, ys, e1, e2, ga, gb, hl, hp⟩ | ⟨a, b, xs, ys, e1, e2, ga, gb, hl, hp⟩ | ⟨a, b, kvs, e1, e2, ga, gb, hl, hd, hn, hv⟩
      · subst e
        cases v with
        | non =>
          refine ⟨.non, rfl, by show 2 ≤ sizeLine; decide, fun T nT => ?_⟩
          refine ⟨_, T, _, _, _, false, rfl, upd_same, pLT, .base .non, kAny (b := false) (c := false) (by decide +kernel) (by decide +kernel), _, rfl, ?_⟩
          refine ⟨.non, rfl, _, _, _, _, false, rfl, .ty _, .base .non, kit_ty (by decide +kernel), _, rfl, ?_⟩
          refine ⟨.non, rfl, _, _, _, _, false, rfl, .ty _, .base .non, kit_ty (by decide +kernel), _, rfl, ?_⟩
          refine ⟨.non, rfl, rfl, _, rfl, ?_⟩
          exact ⟨.non, rfl, rfl, qq _ (Ex.new nT)⟩
        | str x =>
          refine ⟨.str x, rfl, by show 2 ≤ sizeLine; decide, fun T nT => ?_⟩
          refine ⟨_, T, _, _, _, false, rfl, upd_same, pLT, .base (.str x), kAny (b := false) (c := false) (by decide +kernel) (by decide +kernel), _, rfl, ?_⟩
          refine ⟨.str x, rfl, _, _, _, _, false, rfl, .ty _, .base (.str x), kit_ty (by decide +kernel), _, rfl, ?_⟩
          refine ⟨.str x, rfl, _, _, _, _, false, rfl, .ty _, .base (.str x), kit_ty (by decide +kernel), _, rfl, ?_⟩
          refine ⟨.str x, rfl, rfl, _, rfl, ?_⟩
          refine ⟨.str x, rfl, _, _, _, _, true, rfl, .ty _, .base (.str x), kit_ty (by decide +kernel), _, rfl, ?_⟩
          refine ⟨.str x, rfl, _, _, _, _, true, rfl, .ty _, .base (.str x), kit_ty (by decide +kernel), _, rfl, ?_⟩
          refine ⟨.str x, rfl, .str x, rfl, rfl, ?_⟩
          rw [decide_eq_true rfl]
          exact qq _ (Ex.new nT)
        | bl x =>
          refine ⟨.bl x, rfl, by show 2 ≤ sizeLine; decide, fun T nT => ?_⟩
          refine ⟨_, T, _, _, _, false, rfl, upd_same, pLT, .base (.bl x), kAny (b := false) (c := false) (by decide +kernel) (by decide +kernel), _, rfl, ?_⟩
          refine ⟨.bl x, rfl, _, _, _, _, false, rfl, .ty _, .base (.bl x), kit_ty (by decide +kernel), _, rfl, ?_⟩
          refine ⟨.bl x, rfl, _, _, _, _, true, rfl, .ty _, .base (.bl x), kit_ty (by decide +kernel), _, rfl, ?_⟩
          refine ⟨.bl x, rfl, _, _, _, _, true, rfl, .ty _, .base (.bl x), kit_ty (by decide +kernel), _, rfl, ?_⟩
          refine ⟨.bl x, rfl, _, _, _, _, true, rfl, .ty _, .base (.bl x), kit_ty (by decide +kernel), ?_⟩
          refine ⟨.bl x, rfl, _, _, _, _, true, rfl, .ty _, .base (.bl x), kit_ty (by decide +kernel), rfl, _, rfl, ?_⟩
          refine ⟨.bl x, rfl, .bl x, rfl, rfl, ?_⟩
          rw [decide_eq_true rfl]
          exact qq _ (Ex.new nT)
        | int x =>
          refine ⟨.int x, rfl, by show 2 ≤ sizeLine; decide, fun T nT => ?_⟩
          refine ⟨_, T, _, _, _, false, rfl, upd_same, pLT, .base (.int x), kAny (b := false) (c := false) (by decide +kernel) (by decide +kernel), _, rfl, ?_⟩
          refine ⟨.int x, rfl, _, _, _, _, false, rfl, .ty _, .base (.int x), kit_ty (by decide +kernel), _, rfl, ?_⟩
          refine ⟨.int x, rfl, _, _, _, _, true, rfl, .ty _, .base (.int x), kit_ty (by decide +kernel), _, rfl, ?_⟩
          refine ⟨.int x, rfl, _, _, _, _, true, rfl, .ty _, .base (.int x), kit_ty (by decide +kernel), _, rfl, ?_⟩
          refine ⟨.int x, rfl, _, _, _, _, false, rfl, .ty _, .base (.int x), kit_ty (by decide +kernel), ?_⟩
          refine ⟨.int x, rfl, _, _, _, _, false, rfl, .ty _, .base (.int x), kit_ty (by decide +kernel), rfl, _, rfl, ?_⟩
          refine ⟨.int x, rfl, .int x, rfl, rfl, ?_⟩
          rw [decide_eq_true rfl]
          exact qq _ (Ex.new nT)
        | _ => cases ha
      · subst e1 e2
        have hxy := pl1 hp
        refine ⟨.ref b, rfl, by show 2 ≤ sizeLine; decide, fun T nT => ?_⟩
        have e1 : Ex H (upd H T (.tup [.ty "list", .ty "tuple"])) := Ex.new nT
        refine ⟨_, T, _, _, _, true, rfl, upd_same, pLT, .base (.lst (e1 _ _ gb)), kAny (b := true) (c := false) (by decide +kernel) (by decide +kernel), _, rfl, ?_⟩
        refine ⟨.ref a, rfl, _, _, _, _, true, rfl, .ty _, .base (.lst (e1 _ _ ga)), kit_ty (by decide +kernel), .ref b, rfl, _, _, _, _, true, rfl, .ty _, .base (.lst (e1 _ _ gb)), kit_ty (by decide +kernel), rfl, _, rfl, ?_⟩
        refine ⟨.ref a, rfl, _, _, _, _, false, rfl, .ty _, .base (.lst (e1 _ _ ga)), kit_ty (by decide +kernel), .ref b, rfl, _, _, _, _, false, rfl, .ty _, .base (.lst (e1 _ _ gb)), kit_ty (by decide +kernel), rfl, _, rfl, ?_⟩
        refine ⟨.ref a, rfl, a, xs, rfl, .inl (sq_of (e1 _ _ ga)), .ref b, rfl, b, ys, rfl, .inl (sq_of (e1 _ _ gb)), rfl, _, rfl, ?_⟩
        rw [hxy, if_pos (decide_eq_true rfl)]
        refine ⟨.ref a, rfl, .ref b, rfl, a, b, xs, ys, rfl, .inl ⟨sq_of (e1 _ _ ga), sq_of (e1 _ _ gb), fun D nD => ?_⟩⟩
        refine lc_it (walk_zip (xs := xs) (ys := ys) rfl) (fun i H' => H' D = some (.lst ((List.replicate i true).map V.bl)) ∧ Ex (upd H T (.tup [.ty "list", .ty "tuple"])) H') ⟨upd_same, Ex.new nD⟩ (fun i H2 _ hI => ⟨sq_of (hI.2 _ _ (e1 _ _ ga)), sq_of (hI.2 _ _ (e1 _ _ gb))⟩) (fun i z H2 H3 hi hI hY => ?_) (fun H2 hI => ?_)
        · obtain ⟨g1, g2⟩ := hI
          obtain ⟨Z, x, y, rfl, nZ, rfl, hx, hy⟩ := hY
          have hxy2 := pat hp hx hy
          have e3 : Ex H (upd H2 Z (.tup [x, y])) := (e1.trans g2).trans (Ex.new nZ)
          have DZ : D ≠ Z := ne_of_none g1 nZ
          refine ⟨Z, [x, y], rfl, .inl (.inl upd_same), rfl, x, [y], rfl, y, [], rfl, rfl, rfl, ?_⟩
          refine ⟨x, rfl, y, rfl, x, y, rfl, hxy2.ext e3 e3, fun H4 e4 => ⟨(List.replicate i true).map V.bl, e4 _ _ (by rw [upd_ne DZ]; exact g1), by rw [List.length_map, List.length_replicate]; exact sz_lt (by omega), ?_, ((g2.trans (Ex.new nZ)).trans e4).mut nD⟩⟩
          rw [upd_same, List.replicate_succ', List.map_append]
          rfl
        · obtain ⟨g1, g2⟩ := hI
          refine ⟨D, List.replicate (min xs.length ys.length) true, rfl, sq_of g1, ?_⟩
          rw [all_rep]
          exact qq _ (e1.trans g2)
      · subst e1 e2
        have hxy := pl1 hp
        refine ⟨.ref b, rfl, by show 2 ≤ sizeLine; decide, fun T nT => ?_⟩
        have e1 : Ex H (upd H T (.tup [.ty "list", .ty "tuple"])) := Ex.new nT
        refine ⟨_, T, _, _, _, true, rfl, upd_same, pLT, .base (.tup (e1 _ _ gb)), kAny (b := false) (c := true) (by decide +kernel) (by decide +kernel), _, rfl, ?_⟩
        refine ⟨.ref a, rfl, _, _, _, _, false, rfl, .ty _, .base (.tup (e1 _ _ ga)), kit_ty (by decide +kernel), .ref b, rfl, _, _, _, _, false, rfl, .ty _, .base (.tup (e1 _ _ gb)), kit_ty (by decide +kernel), rfl, _, rfl, ?_⟩
        refine ⟨.ref a, rfl, _, _, _, _, true, rfl, .ty _, .base (.tup (e1 _ _ ga)), kit_ty (by decide +kernel), .ref b, rfl, _, _, _, _, true, rfl, .ty _, .base (.tup (e1 _ _ gb)), kit_ty (by decide +kernel), rfl, _, rfl, ?_⟩
        refine ⟨.ref a, rfl, a, xs, rfl, .inr (st_of (e1 _ _ ga)), .ref b, rfl, b, ys, rfl, .inr (st_of (e1 _ _ gb)), rfl, _, rfl, ?_⟩
        rw [hxy, if_pos (decide_eq_true rfl)]
        refine ⟨.ref a, rfl, .ref b, rfl, a, b, xs, ys, rfl, .inr ⟨st_of (e1 _ _ ga), st_of (e1 _ _ gb), fun D nD => ?_⟩⟩
        refine lc_it (walk_zipT (xs := xs) (ys := ys) rfl hxy) (fun i H' => H' D = some (.lst ((List.replicate i true).map V.bl)) ∧ Ex (upd H T (.tup [.ty "list", .ty "tuple"])) H') ⟨upd_same, Ex.new nD⟩ (fun i H2 _ hI => ⟨st_of (hI.2 _ _ (e1 _ _ ga)), st_of (hI.2 _ _ (e1 _ _ gb))⟩) (fun i z H2 H3 hi hI hY => ?_) (fun H2 hI => ?_)
        · obtain ⟨g1, g2⟩ := hI
          obtain ⟨Z, x, y, rfl, nZ, rfl, hx, hy⟩ := hY
          have hxy2 := pat hp hx hy
          have e3 : Ex H (upd H2 Z (.tup [x, y])) := (e1.trans g2).trans (Ex.new nZ)
          have DZ : D ≠ Z := ne_of_none g1 nZ
          refine ⟨Z, [x, y], rfl, .inl (.inl upd_same), rfl, x, [y], rfl, y, [], rfl, rfl, rfl, ?_⟩
          refine ⟨x, rfl, y, rfl, x, y, rfl, hxy2.ext e3 e3, fun H4 e4 => ⟨(List.replicate i true).map V.bl, e4 _ _ (by rw [upd_ne DZ]; exact g1), by rw [List.length_map, List.length_replicate]; exact sz_lt (by omega), ?_, ((g2.trans (Ex.new nZ)).trans e4).mut nD⟩⟩
          rw [upd_same, List.replicate_succ', List.map_append]
          rfl
        · obtain ⟨g1, g2⟩ := hI
          refine ⟨D, List.replicate (xs.length) true, rfl, sq_of g1, ?_⟩
          rw [all_rep]
          exact qq _ (e1.trans g2)
      · subst e1 e2
        refine ⟨.ref b, rfl, by show 2 ≤ sizeLine; decide, fun T nT => ?_⟩
        have e1 : Ex H (upd H T (.tup [.ty "list", .ty "tuple"])) := Ex.new nT
        refine ⟨_, T, _, _, _, false, rfl, upd_same, pLT, .base (.dK (e1 _ _ gb)), kAny (b := false) (c := false) (by decide +kernel) (by decide +kernel), _, rfl, ?_⟩
        refine ⟨.ref b, rfl, _, _, _, _, true, rfl, .ty _, .base (.dK (e1 _ _ gb)), kit_ty (by decide +kernel), _, rfl, ?_⟩
        refine ⟨.ref a, rfl, _, _, _, _, true, rfl, .ty _, .base (.dK (e1 _ _ ga)), kit_ty (by decide +kernel), _, rfl, ?_⟩
        refine ⟨.ref a, rfl, a, kvs, rfl, e1 _ _ ga, fun H2 p ts e2 np nts pts hp hpt => ?_⟩
        refine ⟨.ref b, rfl, b, kvs, rfl, e2 _ _ (e1 _ _ gb), fun H3 p2 ts2 e3 np2 nts2 pts2 hp2 hpt2 => ?_⟩
        obtain ⟨k, rfl⟩ : ∃ k, d = k + 3 := ⟨d - 3, by omega⟩
        have h1 : Paired (fun (t : Addr) (q : Key × V) => H3 t = some (.tup [kV q.1, q.2])) ts kvs := pimp (fun _ _ z => e3 _ _ z) hpt
        have l1 : (ts.map V.ref).length ≤ 1000 := by
          rw [List.length_map, pl1 hpt]
          exact hl
        refine ⟨_, _, rfl, Or.inr (Or.inl ⟨p, p2, _, _, rfl, rfl, e3 _ _ hp, hp2, l1, tw_items hv h1 hpt2⟩), fun H4 e4 => ?_⟩
        exact qq _ (((e1.trans e2).trans e3).trans e4)
end
end K07
/-! text D8 -/
set_option Elab.async false
set_option linter.all false
set_option maxRecDepth 100000
set_option maxHeartbeats 4000000
/-! copied, same: typed -/
namespace K07
open PySem PySem.Spec PyProof.Rows L2 Evl PySem.W Dw Dw.DV
section
variable {α : Type} [DecidableEq α] [Datum α] [DVT α] {σ : L2.St} {H : Hp} {ta tb : TE} {d : Nat} {E : XK}
theorem ed_copied {x : α} (h : EvD ta σ H x) (hs : DVT.sm x) (hd : DVT.dep α ≤ d := by decide) : EvD (tCall (spC d) [] E (tCons ta tNil)) σ H x := fun H1 e Q q => h H1 e _ fun v H2 Hs e2 s r =>
  ⟨v, Hs, rfl, s.e, (DVT.tw hs r r).ups hd, fun u H' Hs' e3 s1 s2 t => q u H' Hs' (e2.trans e3) ⟨s1, fun b o z => .inr (exf e2 (s2 b o z))⟩ (DVT.cp r t)⟩
theorem ev_same {x y : α} (ha : EvD ta σ H x) (hb : EvD tb σ H y) (e : x = y) (hs : DVT.sm x) (hd : DVT.dep α ≤ d := by decide) : Ev (tCall (spS d) [] E (tCons ta (tCons tb tNil))) σ H (.bl true) := fun H1 e1 Q q => ha.go e1 fun v H2 e2 r => hb.go (e1.trans e2) fun u H3 e3 r2 => by
  subst e
  exact ⟨v, u, rfl, (DVT.tw hs (DV.ext e3 r) r2).ups hd, fun H' e4 => q H' ((e2.trans e3).trans e4)⟩
end
end K07
/-! text W12 -/
set_option Elab.async false
set_option linter.all false
set_option maxHeartbeats 2000000
/-! typed: a comprehension over any walk; zip, slices; steps of a body -/
namespace Dw
open PySem PySem.Spec PyProof.Rows L2 Evl PySem.W DV RZ
section
variable {α β γ : Type} [DecidableEq α] [Datum α] [DV α] [DecidableEq β] [Datum β] [DV β] [DecidableEq γ] [Datum γ] [DV γ] {K : PySem.W.Frag} {σ : L2.St} {H H' A A0 H0 : Hp} {te ta tb : TE} {tt : TT} {D : Ends}
theorem ed_lcW {J : It} {n : Nat} {G : Hp → Prop} {Y : Nat → Hp → V → Hp → Prop} (w : Walk J n G Y) {A H0 H1 B : Hp} {gt : TG} {vs : List Nat} (e0 : Ex H0 H1) (eB : Ex B H1) (oB : ∀ b u, B b = some u → A b = some u ∨ H0 b = none) (r : Nat → List β) (r0 : r 0 = []) (hl : ∀ i, i < n → (r i).length < 40000)
    (hG : ∀ H', Ex H1 H' → G H')
    (turn : ∀ i x H2 H3, i < n → Ex H1 H2 → Y i H2 x H3 → Ex H2 H3 ∧ ∃ (b : Bool) (y : β), (b = true → r (i + 1) = r i ++ [y]) ∧ (b = false → r (i + 1) = r i) ∧
      ∀ C : L2.St → Hp → Prop, (∀ σ2, wipe σ2 vs = wipe σ vs → EvT tt σ2 B b → (b = true → EvD te σ2 B y) → C σ2 H3) → gt x (wipe σ vs) H3 C)
    {Q : VK} (q : ∀ v H2 Hs, Ex H0 H2 → Sup A H0 H2 Hs → rep Hs v (r n) → Q v H2) {D : Addr} (nD : H1 D = none) :
    ∃ W : Nat → Nat → Hp → Prop, (∃ m, W 0 m (upd H1 D (.lst []))) ∧ ∀ i m H, W i m H →
      (J.stop i H ∧ Q (.ref D) H) ∨ (J.go i H ∧ ∃ Nx : Hp → Prop, (∀ H', Nx H' → ∃ m', m' < m ∧ W (i + 1) m' H') ∧ ∀ x H', J.yld i H x H' → gt x (wipe σ vs) H' fun σ2 H2 => wipe σ2 vs = wipe σ vs ∧ tt σ2 H2 fun b H3 =>
        if b = true then te σ2 H3 fun y H4 => ∃ acc, H4 D = some (.lst acc) ∧ acc.length < sizeLine ∧ Nx (upd H4 D (.lst (acc ++ [y]))) else Nx H3) := by
  have BD : B D = none := by
    cases z : B D with
    | none => rfl
    | some o =>
      rw [eB _ _ z] at nD
      cases nD
  have D0 : H0 D = none := by
    cases z : H0 D with
    | none => rfl
    | some o =>
      rw [e0 _ _ z] at nD
      cases nD
  refine lc_it w (fun i H' => Ex H1 H' ∧ ∃ ws Hw, H' D = some (.lst ws) ∧ Ex Hw H' ∧ (∀ b u, Hw b = some u → b ≠ D ∧ (A b = some u ∨ H0 b = none)) ∧ Reps Hw ws (r i)) ⟨Ex.new nD, [], fun _ => none, upd_same, fun _ _ z => (by cases z), fun _ _ z => (by cases z), by rw [r0]; exact .nil⟩ (fun i H' _ p => hG H' p.1) (fun i x H2 H3 hi p hy => ?_) (fun H' p => ?_)
  · obtain ⟨p2, ws, Hw, p3, p4, p5, p6⟩ := p
    obtain ⟨e3, b, y, rb, rn, run⟩ := turn i x H2 H3 hi p2 hy
    refine run _ fun σ2 hw et ed => ⟨hw, et H3 ((eB.trans p2).trans e3) _ fun H4 e4 => ?_⟩
    cases b with
    | true =>
      show te _ H4 fun y H5 => ∃ acc, H5 D = some (.lst acc) ∧ acc.length < sizeLine ∧ _
      refine ed rfl H4 (((eB.trans p2).trans e3).trans e4) _ fun z H5 Hy e5 sy r5 => ⟨ws, e5 _ _ (e4 _ _ (e3 _ _ p3)), ?_, (((p2.trans e3).trans e4).trans e5).mut nD, ws ++ [z], jn Hw Hy, upd_same, ?_, ?_, ?_⟩
      · rw [Reps.len p6]
        have := hl i hi
        exact sz_lt (by omega)
      · intro c u z
        have nD : c ≠ D := by
          rcases jn_of z with y | y
          · exact (p5 c u y).1
          · intro q
            rw [q] at y
            rcases sy.o D u y with w | w
            · rw [BD] at w
              cases w
            · rw [e4 _ _ (e3 _ _ p3)] at w
              cases w
        rw [upd_ne nD]
        rcases jn_of z with y | y
        · exact e5 _ _ (e4 _ _ (e3 _ _ (p4 _ _ y)))
        · exact sy.e _ _ y
      · intro c u z
        rcases jn_of z with y | y
        · exact p5 c u y
        · refine ⟨fun q => ?_, ?_⟩
          · rw [q] at y
            rcases sy.o D u y with w | w
            · rw [BD] at w
              cases w
            · rw [e4 _ _ (e3 _ _ p3)] at w
              cases w
          · rcases sy.o c u y with w | w
            · exact oB c u w
            · right
              cases m : H0 c with
              | none => rfl
              | some o =>
                rw [e4 _ _ (e3 _ _ (p2 _ _ (e0 _ _ m)))] at w
                cases w
      · rw [rb rfl]
        have q1 : Ex Hw H5 := ((p4.trans e3).trans e4).trans e5
        exact Reps.app (Reps.ext jn_l p6) (.cons (DV.ext (jn_r q1 sy.e) r5) .nil)
    | false =>
      show _ ∧ _
      exact ⟨(p2.trans e3).trans e4, ws, Hw, e4 _ _ (e3 _ _ p3), (p4.trans e3).trans e4, p5, by rw [rn rfl]; exact p6⟩
  · obtain ⟨p2, ws, Hw, p3, p4, p5, p6⟩ := p
    have nw : Hw D = none := by
      cases z : Hw D with
      | none => rfl
      | some o => exact absurd rfl (p5 D o z).1
    refine q _ H' (upd Hw D (.lst ws)) (e0.trans p2) ⟨fun b u z => ?_, fun b u z => ?_⟩ ⟨D, ws, rfl, upd_same, Reps.ext (Ex.new nw) p6⟩
    · by_cases y : b = D
      · rw [y, upd_same] at z
        rw [y, p3]
        exact z
      · rw [upd_ne y] at z
        exact p4 _ _ z
    · by_cases y : b = D
      · right
        rw [y]
        exact D0
      · rw [upd_ne y] at z
        exact (p5 b u z).2
/-- [te for x, y in zip(xs, ys)] -/
theorem ed_zip {xs : List α} {ys : List β} {i j : Nat} {vs : List Nat} (g : α → β → γ) (ha : EvD ta σ A xs) (hb : EvD tb σ A ys) (hz : xs.length ≤ 40000)
    (hw : ∀ x y, wipe (((wipe σ vs).set i (some x)).set j (some y)) vs = wipe σ vs) (ht : ∀ x y H, Ex A H → EvT tt (((wipe σ vs).set i (some x)).set j (some y)) H true)
    (he : ∀ (k : Nat) (x : α) (y : β) (v u : V) H1, Ex A H1 → xs[k]? = some x → ys[k]? = some y → rep H1 v x → rep H1 u y → EvD te (((wipe σ vs).set i (some v)).set j (some u)) H1 (g x y)) :
    EvD (tLc (iZipA K (tCons ta (tCons tb tNil))) (gTup K 2 (gCons (gName i) (gCons (gName j) gNil))) tt te vs) σ A (xs.zipWith g ys) := fun H0 e0 Q q => ha H0 e0 _ fun v H1 Hs e1 sp r => hb H1 (e0.trans e1) _ fun u H2 Ht e2 sp2 r2 => by
  have sj := sp.join e0 e1 e2 sp2
  obtain ⟨a, vx, rfl, h1, h2⟩ := r
  obtain ⟨b, vy, rfl, h3, h4⟩ := r2
  have l1 := Reps.len h2
  have l2 := Reps.len h4
  refine ⟨a, b, vx, vy, rfl, .inl ⟨sq_of (e2 _ _ (sp.e _ _ h1)), sq_of (sp2.e _ _ h3), fun D nD => ?_⟩⟩
  have eJ : Ex A H2 := (e0.trans e1).trans e2
  refine ed_lcW (walk_zip (xs := vx) (ys := vy) rfl) (e1.trans e2) (B := jn A (jn Hs Ht)) (jn_ex eJ sj.e) (fun b u z => (jn_of z).elim .inl (sj.o b u)) (fun k => (xs.take k).zipWith g (ys.take k)) (by simp) (fun k hk => by
    rw [List.length_zipWith, List.length_take, List.length_take]
    omega) (fun H' e => ⟨sq_of (e _ _ (e2 _ _ (sp.e _ _ h1))), sq_of (e _ _ (sp2.e _ _ h3))⟩) (fun k x H3 H4 hk e3 hy => ?_) (fun v H5 Hw e5 s5 r5 => q v H5 Hw e5 s5 ?_) nD
  · obtain ⟨T, x1, y1, rfl, nT, rfl, hx, hy⟩ := hy
    obtain ⟨lx, _⟩ := List.getElem?_eq_some_iff.mp hx
    obtain ⟨ly, _⟩ := List.getElem?_eq_some_iff.mp hy
    have gx : xs[k]? = some xs[k] := List.getElem?_eq_getElem (by omega)
    have gy : ys[k]? = some ys[k] := List.getElem?_eq_getElem (by omega)
    have eHs : Ex Hs (jn A (jn Hs Ht)) := jn_l.trans (jn_r eJ sj.e)
    have eHt : Ex Ht (jn A (jn Hs Ht)) := (jn_r (sp.e.trans e2) sp2.e).trans (jn_r eJ sj.e)
    refine ⟨Ex.new nT, true, g xs[k] ys[k], fun _ => ?_, fun z => (by cases z), fun C c => ?_⟩
    · rw [List.take_add_one, List.take_add_one, gx, gy]
      rw [List.zipWith_append (by rw [List.length_take, List.length_take]; omega)]
      rfl
    · exact ⟨T, [x1, y1], rfl, .inl (.inl upd_same), rfl, x1, [y1], rfl, y1, [], rfl, rfl, c _ (hw x1 y1) (ht _ _ _ jn_l) fun _ => he k _ _ _ _ _ jn_l gx gy (DV.ext eHs (Reps.at h2 hx gx)) (DV.ext eHt (Reps.at h4 hy gy))⟩
  · have e : (xs.take (min vx.length vy.length)).zipWith g (ys.take (min vx.length vy.length)) = xs.zipWith g ys := by
      rw [l1, l2, ← List.take_zipWith]
      exact List.take_of_length_le (by rw [List.length_zipWith]; omega)
    rw [← e]
    exact r5
/-! ### slices -/
def cutT {δ : Type} (xs : List δ) (lo hi : Option Int) : List δ := (xs.drop (HT.sIx xs.length 0 lo)).take (HT.sIx xs.length xs.length hi - HT.sIx xs.length 0 lo)
theorem reps_drop {H : Hp} : ∀ {n : Nat} {vs : List V} {xs : List α}, Reps H vs xs → Reps H (vs.drop n) (xs.drop n)
  | 0, _, _, h => h
  | _ + 1, _, _, .nil => .nil
  | n + 1, _, _, .cons _ r => reps_drop (n := n) r
theorem reps_take {H : Hp} : ∀ {n : Nat} {vs : List V} {xs : List α}, Reps H vs xs → Reps H (vs.take n) (xs.take n)
  | 0, _, _, _ => .nil
  | _ + 1, _, _, .nil => .nil
  | n + 1, _, _, .cons h r => .cons h (reps_take (n := n) r)
theorem ed_sl {xs : List α} {tl th : TO} {lo hi : Option Int} (h : EvD te σ A xs) (h1 : EvO tl σ A lo) (h2 : EvO th σ A hi) : EvD (tSl (rSlL K) te tl th) σ A (cutT xs lo hi) := fun H1 e Q q => h H1 e _ fun v H2 Hs e2 s r => h1 H2 (e.trans e2) _ fun H3 e3 => h2 H3 ((e.trans e2).trans e3) _ fun H4 e4 => by
  obtain ⟨a, vs, rfl, g1, g2⟩ := r
  have e24 := e3.trans e4
  refine ⟨a, vs, rfl, sq_of (e24 _ _ (s.e _ _ g1)), fun p np => ?_⟩
  have s4 : Sup A H1 H4 Hs := ⟨s.e.trans e24, s.o⟩
  refine q _ _ (upd Hs p (.lst (cutV vs lo hi))) ((e2.trans e24).trans (Ex.new np)) (sup_new (e2.trans e24) s4 np) ⟨p, _, rfl, upd_same, Reps.ext (Ex.new (sup_no s4 np)) ?_⟩
  unfold cutV cutT
  rw [Reps.len g2]
  exact reps_take (reps_drop g2)
theorem cut_tail {δ : Type} (xs : List δ) : cutT xs (some 1) none = xs.drop 1 := by
  unfold cutT HT.sIx
  cases xs with
  | nil => simp
  | cons a r => simp
/-! ### truth, if-expressions -/
theorem ed_ifE {b : Bool} {x : α} {t : TT} (h : EvT t σ A b) (h1 : b = true → EvD ta σ A x) (h2 : b = false → EvD tb σ A x) : EvD (tIf t ta tb) σ A x := fun H1 e Q q => h H1 e _ fun H2 e2 => by
  cases b with
  | true =>
    show ta σ H2 Q
    exact h1 rfl H2 (e.trans e2) Q fun v H3 Hs e3 s r => q v H3 Hs (e2.trans e3) ⟨s.e, fun b u z => (s.o b u z).imp id fun y => by
      cases m : H1 b with
      | none => rfl
      | some o =>
        rw [e2 _ _ m] at y
        cases y⟩ r
  | false =>
    show tb σ H2 Q
    exact h2 rfl H2 (e.trans e2) Q fun v H3 Hs e3 s r => q v H3 Hs (e2.trans e3) ⟨s.e, fun b u z => (s.o b u z).imp id fun y => by
      cases m : H1 b with
      | none => rfl
      | some o =>
        rw [e2 _ _ m] at y
        cases y⟩ r
theorem et_yes {H : Hp} : EvT tYes σ H true := fun H1 e Q q => q H1 (Ex.refl H1)
/-! ### statements -/
theorem b_if {b : Bool} {t : TT} {tu tw : TS} (B : Bs A0 H0 A H) (h : EvT t σ A b) (h1 : b = true → ∀ H1, Bs A0 H0 A H1 → tu D σ H1) (h2 : b = false → ∀ H1, Bs A0 H0 A H1 → tw D σ H1) : tIfS t tu tw D σ H := h H B.h _ fun H1 e => by
  cases b with
  | true => exact h1 rfl H1 (B.mono e)
  | false => exact h2 rfl H1 (B.mono e)
theorem b_skip {b : Bool} {t : TT} {tu tz : TS} (B : Bs A0 H0 A H) (h : EvT t σ A b) (hb : b = false) (h2 : ∀ H1, Bs A0 H0 A H1 → tz D σ H1) : tSeq (tIfS t tu tNext) tz D σ H := b_if (D := { D with nx := tz D }) B h (fun z => by rw [hb] at z; cases z) fun _ H1 B1 => h2 H1 B1
theorem b_asg {x : α} {i : Nat} {tz : TS} (B : Bs A0 H0 A H) (h : EvD te σ A x) (k : ∀ v A' H1, Bs A0 H0 A' H1 → Ex A A' → rep A' v x → tz D (σ.set i (some v)) H1) : tSeq (tAsg te (gName i)) tz D σ H := h H B.h _ fun v H1 Hs e s r => k v (jn A Hs) H1 (B.go e s) jn_l (B.rep e s r)
theorem b_ret {x : γ} (B : Bs A0 H0 A H) (h : EvD te σ A x) (q : EndD A0 H0 x D.rt) : tRet te D σ H := h H B.h _ (B.endD q)
theorem b_seqIf {b : Bool} {t : TT} {tu tz : TS} (B : Bs A0 H0 A H) (h : EvT t σ A b) (h1 : b = true → ∀ H1, Bs A0 H0 A H1 → tu { D with nx := tz D } σ H1) (h2 : b = false → ∀ H1, Bs A0 H0 A H1 → tz D σ H1) : tSeq (tIfS t tu tNext) tz D σ H := b_if (D := { D with nx := tz D }) B h h1 fun e H1 B1 => h2 e H1 B1
end
end Dw
/-! text P6 -/
set_option Elab.async false
set_option linter.all false
set_option maxHeartbeats 1000000
/-! the order of texts, of lists of texts; families of texts: plain -/
namespace Lot
open PySem PySem.W
abbrev sl : Str → Str → Bool := DatumOrd.lt
theorem sl_tot : Tot sl := by
  refine ⟨fun a => ?_, fun a b c h1 h2 => ?_, fun a b h1 h2 => ?_⟩
  · exact decide_eq_false (List.lt_irrefl _)
  · have h1 := of_decide_eq_true h1
    have h2 := of_decide_eq_true h2
    exact decide_eq_true (List.lt_trans h1 h2)
  · have h1 := of_decide_eq_false h1
    have h2 := of_decide_eq_false h2
    have e : a.cps.toList = b.cps.toList := List.le_antisymm (List.not_lt.mp h2) (List.not_lt.mp h1)
    cases a
    cases b
    exact congrArg _ (Array.toList_inj.mp e)
theorem ll_lex : ∀ (a b : List Str), (DatumOrd.lt a b : Bool) = lex sl a b
  | [], [] => rfl
  | [], _ :: _ => rfl
  | _ :: _, [] => rfl
  | x :: a, y :: b => by
    show (if x = y then listLt a b else DatumOrd.lt x y) = (if x = y then lex sl a b else sl x y)
    rw [show listLt a b = lex sl a b from ll_lex a b]
theorem ll_tot : Tot (DatumOrd.lt : List Str → List Str → Bool) := by
  have e : (DatumOrd.lt : List Str → List Str → Bool) = lex sl := funext fun a => funext fun b => ll_lex a b
  rw [e]
  exact lex_tot sl_tot
theorem ll_asc {L : List (List Str)} : Asc (DatumOrd.lt : List Str → List Str → Bool) L ↔ Asc (lex sl) L := by
  have e : (DatumOrd.lt : List Str → List Str → Bool) = lex sl := funext fun a => funext fun b => ll_lex a b
  rw [e]
theorem asc_zip {α : Type} {lt : α → α → Bool} : ∀ {l : List α}, Asc lt l → (l.zipWith lt (l.drop 1)).all id = true
  | [], _ => rfl
  | [a], _ => rfl
  | a :: b :: l, h => by
    obtain ⟨h1, h2⟩ := List.pairwise_cons.mp h
    have ih := asc_zip h2
    show (lt a b && ((b :: l).zipWith lt ((b :: l).drop 1)).all id) = true
    rw [h1 b List.mem_cons_self, ih]
    rfl
/-- keepers, a lot of some, a family: of texts -/
structure GoodK (good : Str → Bool) (ks : List Str) : Prop where
  ne : ks ≠ []
  all : ∀ x ∈ ks, good x = true
  asc : Asc sl ks
  len : ks.length ≤ 100
structure GoodL (ks l : List Str) : Prop where
  ne : l ≠ []
  asc : Asc sl l
  sub : l ⊆ ks
structure GoodF (good : Str → Bool) (F : List Str × List (List Str)) : Prop where
  ks : GoodK good F.1
  ne : F.2 ≠ []
  len : F.2.length ≤ 1000
  lots : ∀ l ∈ F.2, GoodL F.1 l
  asc : Asc (lex sl) F.2
  anti : Anti F.2
theorem GoodL.len {ks l : List Str} (h : GoodL ks l) : l.length ≤ ks.length := sub_len (h.asc.nodup sl_tot) h.sub
theorem GoodF.fam {good : Str → Bool} {F : List Str × List (List Str)} (h : GoodF good F) : Fam sl F.2 := ⟨h.asc, fun a m => (h.lots a m).asc, fun a m => (h.lots a m).ne, h.anti⟩
theorem GoodF.len2 {good : Str → Bool} {F : List Str × List (List Str)} (h : GoodF good F) : ∀ l ∈ F.2, l.length ≤ 100 := fun l m => Nat.le_trans (h.lots l m).len h.ks.len
end Lot
/-! text D9 -/
set_option Elab.async false
set_option linter.all false
set_option maxRecDepth 100000
set_option maxHeartbeats 4000000
/-! is_one_of, are_keepers, are_some_of, is_lot_of -/
namespace K07
open PySem PySem.Spec PyProof.Rows L2 Evl PySem.W Dw Dw.DV RZ Lot
section
variable {α β : Type} [DecidableEq α] [Datum α] [DV α] [DecidableEq β] [Datum β] [DV β] {σ : L2.St} {A : Hp} {te : TE} {E : XK} {K : PySem.W.Frag}
theorem ev_isList {xs : List α} (h : EvD te σ A xs) : Ev (tCall spIsList [] E (tCons te tNil)) σ A (.bl true) := fun H1 e Q q => h.go e fun v H2 e2 r => by
  obtain ⟨a, vs, rfl, h1, _⟩ := r
  exact ⟨a, vs, rfl, .inl h1, fun H' e3 => q H' (e2.trans e3)⟩
theorem ev_isListP {p : α × β} (h : EvD te σ A p) : Ev (tCall spIsList [] E (tCons te tNil)) σ A (.bl true) := fun H1 e Q q => h.go e fun v H2 e2 r => by
  obtain ⟨a, v1, v2, rfl, h1, _⟩ := r
  exact ⟨a, _, rfl, .inr h1, fun H' e3 => q H' (e2.trans e3)⟩
theorem ev_lenP {p : α × β} (h : EvD te σ A p) : Ev (tCB (rLenS K) (tCons te tNil)) σ A (.int 2) := fun H1 e Q q => h.go e fun v H2 e2 r => by
  obtain ⟨a, v1, v2, rfl, h1, _⟩ := r
  exact ⟨a, _, rfl, .inr (st_of h1), q H2 e2⟩
theorem ev_istS {i : Nat} {x : Str} (h : EvD (tVar i) σ A x) : Ev (tIsT K i "str") σ A (.bl true) := fun H1 e Q q => h.go e fun v H2 e2 r => by
  have r' : v = .str x := r
  subst r'
  exact ⟨_, _, _, _, true, rfl, .ty _, .base (.str x), kit_ty (by decide +kernel), q H2 e2⟩
theorem ev_isName {x : Str} (h : EvD te σ A x) (g : goodName x = true) : Ev (tCall spIsName [] E (tCons te tNil)) σ A (.bl true) := fun H1 e Q q => h.go e fun v H2 e2 r => by
  have r' : v = .str x := r
  subst r'
  exact ⟨x, rfl, g, fun H' e3 => q H' (e2.trans e3)⟩
theorem allTrue {γ : Type} {l : List γ} {f : γ → Bool} (h : ∀ x ∈ l, f x = true) : (l.map f).all id = true := by
  rw [List.all_map, List.all_eq_true]
  exact h
end
section
variable {P : Program} {w : World} {K : PySem.W.Frag} {mg : Str → Option Value} {base : Heap} {f : Addr} {fd : FuncData}
theorem uT {k : Nat} {A : Around} (hr : Room k A) : A.units + Datum.depth Str < cLine := by
  have h := hr.un
  show A.units + 0 < cLine
  omega
theorem uTL {k : Nat} {A : Around} (hr : Room k A) : A.units + Datum.depth (List Str) < cLine := by
  have h := hr.un
  show A.units + 1 < cLine
  omega
theorem uSL {k : Nat} {A : Around} (hr : Room k A) : A.units + 1 + Datum.depth (List Str) < cLine := by
  have h := hr.un
  show A.units + 1 + 1 < cLine
  omega
theorem b1 {x : Str} {st : Stmt} {p : Str} (F : FnP K x st f fd) (h : ∀ (kV doc pm : Value) (an : Option Addr) (cdv ct : Value) (u : Value), bindArgs (PySem.W.fnOf x x (defArgs st) (defBody st) (defScope st) .none kV doc pm an cdv ct) ⟨[u], []⟩ = pure ([p].zip [u])) : Binds K fd [p] [] := F.bindsN fun a b c d e g us hl => match us, hl with | [u], _ => h a b c d e g u
theorem scOne : FnScope ["known", "thing"] ["known", "thing"] (defScope (top 11)) := ⟨rfl, rfl, rfl, by decide +kernel, rfl, by decide +kernel, by decide +kernel⟩
abbrev spOne : Sp := sp2 (fun (_ : List Str) (_ : Str) => True) (fun known thing => decide (thing ∈ known))
theorem ok_one (F : FnP K "is_one_of" (top 11) f fd) (B : Bn mg) : FnOk P w K mg base CX0 1 f fd ["known", "thing"] spOne := by
  refine F.ok scOne (fun vs H Q E h => ?_) (fun cdv A outer s H vs Q E hr h => ?_)
  · obtain ⟨v, u, _, _, _, rfl, _⟩ := h
    rfl
  · obtain ⟨v, u, known, thing, A0, rfl, eA, hv, hu, _, q⟩ := h
    refine ⟨_, PSs.nox (pss_one (ps_ret (pe_and (pe_ist K "str" 1 B.isinstance B.str) (pe_one (pe_cmpR (op_inW (α := Str) (uS hr)) (pv 1) (pv 0) (by rfl)))))), ?_⟩
    have e1 : EvD (tVar 1) [some v, some u] A0 thing := ed_var rfl hu
    have e2 := ev_andV (ev_istS (K := K) e1) fun _ => ev_inD e1 (ed_var (i := 0) (v := v) rfl hv)
    rw [Bool.true_and] at e2
    exact s_retD (ed_bl e2) eA q
abbrev NKeep : List Str := ["thing", "keeper", "one", "other"]
theorem scKeep : FnScope NKeep ["thing"] (defScope (top 13)) := ⟨rfl, rfl, rfl, by decide +kernel, rfl, by decide +kernel, by decide +kernel⟩
abbrev spKeep : Sp := sp1 (GoodK goodName) (fun _ => true)
theorem ok_keep {fN fL : Addr} {fdN fdL : FuncData} (F : FnP K "are_keepers" (top 13) f fd) (B : Bn mg) (FN : FnP K "is_name" (top 10) fN fdN) (gN : mg "is_name" = some (.ref fN)) (FL : FnP K "is_list" (top 9) fL fdL) (gL : mg "is_list" = some (.ref fL)) : FnOk P w K mg base CX0 2 f fd ["thing"] spKeep := by
  have GN : FnOk P w K mg base CX0 1 fN fdN ["thing"] spIsName := ok_is_name FN B.isinstance B.str B.len B.all
  have GL : FnOk P w K mg base CX0 1 fL fdL ["thing"] spIsList := ok_is_list FL B.isinstance B.list B.tuple
  have bN : Binds K fdN ["thing"] [] := FN.bindsN fun _ _ _ _ _ _ us hl => match us, hl with | [_], _ => rfl
  have bL : Binds K fdL ["thing"] [] := FL.bindsN fun _ _ _ _ _ _ us hl => match us, hl with | [_], _ => rfl
  refine F.ok scKeep (fun vs H Q E h => ?_) (fun cdv A outer s H vs Q E hr h => ?_)
  · obtain ⟨v, _, _, rfl, _⟩ := h
    rfl
  · obtain ⟨v, ks, A0, rfl, eA, hv, hk, q⟩ := h
    refine ⟨_, PSs.nox (pss_cons (ps_if (pw_or (pt_not (pt_val (pe_call GL hr (by rfl) gL FL.kp bL .nil pass0 (pa_cons (pv 0) pa_nil))))
        (pw_or (pt_cmpR op_eq (pe_callB call_len_seq (by rfl) B.len PySem.boot_len (pa_cons (pv 0) pa_nil)) pe_int (nomark _))
        (pw_or1 (pt_not (pt_val (pe_callB (cr_all rfl) (by rfl) B.all (by decide +kernel) (pa_cons (pe_lc (own := [("keeper", 1)]) (g := gName 1) (tt := tYes) (te := tCall spIsName [] E0 (tCons (tVar 1) tNil)) rfl scKeep.nd (pi_list (pv 0)) (blkOk_by (N := NKeep) (sc := defScope (top 13)) (by decide +kernel))
          (fun _ _ _ _ _ => pg_name (i := 1) scKeep.nd rfl (.inl rfl)) (fun _ _ _ _ _ => pts_nil) (fun _ _ _ _ _ => pe_call GN hr (by rfl) gN FN.kp bN .nil pass0 (pa_cons (pv 1) pa_nil))) pa_nil))))))).pt (pss_one (ps_ret pe_bl)) pss_nil)
      (pss_one (ps_ret (pe_callB (cr_all rfl) (by rfl) B.all (by decide +kernel) (pa_cons (pe_lc (own := [("one", 2), ("other", 3)]) (g := gTup K 2 (gCons (gName 2) (gCons (gName 3) gNil))) (tt := tYes) (te := tOp (rLtW Str) (tVar 2) (tVar 3)) rfl scKeep.nd
        (pi_zipA (by rfl) B.zip (pa_cons (pv 0) (pa_cons (pe_slice sl_list (pv 0) (po_some pe_int) po_none) pa_nil))) (blkOk_by (N := NKeep) (sc := defScope (top 13)) (by decide +kernel))
        (fun _ _ _ _ _ => pg_tup rfl (pgs_cons (pg_name (i := 2) scKeep.nd rfl (.inl rfl)) (pgs_cons (pg_name (i := 3) scKeep.nd rfl (.inl rfl)) pgs_nil))) (fun _ _ _ _ _ => pts_nil)
        (fun _ _ _ _ _ => pe_cmpR (op_ltW (α := Str) (uT hr)) (pv 2) (pv 3) (by rfl))) pa_nil))))), ?_⟩
    have e0 : EvD (tVar 0) [some v, none, none, none] A0 ks := ed_var rfl hv
    have lk := hk.len
    have t1 : EvT _ [some v, none, none, none] A0 false := et_is (et_not (et_B (ev_isList (E := E0) e0))) rfl
    have t2 : EvT (tTest (tOp rEq (tCB (rLenS K) (tCons (tVar 0) tNil)) (tC (.int 0)))) [some v, none, none, none] A0 false := et_is (et_test (ev_op (ev_lenD e0) ev_c (rv_eq rfl))) (decide_eq_false fun z => by
      have : ks.length = 0 := by
        have := V.int.inj z
        omega
      exact hk.ne (List.eq_nil_of_length_eq_zero this))
    have nm := ev_allD (K := K) (ed_lc (K := K) (σ := [some v, none, none, none]) (H := A0) (tl := tVar 0) (tt := tYes) (te := tCall spIsName [] E0 (tCons (tVar 1) tNil)) (j := 1) (vs := [1]) (fun _ : Str => true) (fun _ : Str => true) e0 (by omega) (fun _ => rfl) (fun _ _ H1 _ _ _ => et_yes) fun x y H1 _ m r _ => ed_bl (ev_isName (ed_var rfl r) (hk.all x m)))
    rw [allTrue fun _ _ => rfl] at nm
    have t3 := et_not (et_B nm)
    refine b_skip (Bs.start eA) (et_or t1 fun _ => et_or t2 fun _ => t3) rfl fun H1 B1 => ?_
    have z0 := ed_zip (K := K) (tt := tYes) (te := tOp (rLtW Str) (tVar 2) (tVar 3)) (i := 2) (j := 3) (vs := [2, 3]) (σ := [some v, none, none, none]) (fun x y : Str => sl x y) e0 (ed_sl (K := K) e0 (eo_some (te := tC (.int 1)) ev_c) eo_none) (by omega) (fun _ _ => rfl) (fun _ _ _ _ => et_yes) fun k x y v u H1 _ _ _ r1 r2 => ed_bl (ev_ltD (ed_var rfl r1) (ed_var rfl r2))
    have z1 := ev_allD (K := K) z0
    rw [cut_tail, asc_zip hk.asc] at z1
    exact b_ret B1 (ed_bl z1) q
end
end K07
/-! text D10 -/
set_option Elab.async false
set_option linter.all false
set_option maxRecDepth 100000
set_option maxHeartbeats 4000000
/-! are_some_of, is_lot_of, holds on, is_family, checked_family -/
namespace K07
open PySem PySem.Spec PyProof.Rows L2 Evl PySem.W Dw Dw.DV RZ Lot
section
variable {P : Program} {w : World} {K : PySem.W.Frag} {mg : Str → Option Value} {base : Heap} {f : Addr} {fd : FuncData}
abbrev NSome : List Str := ["keepers", "thing", "one", "other"]
theorem scSome : FnScope NSome ["keepers", "thing"] (defScope (top 14)) := ⟨rfl, rfl, rfl, by decide +kernel, rfl, by decide +kernel, by decide +kernel⟩
abbrev spSome : Sp := sp2 (fun (ks l : List Str) => Asc sl l ∧ l ⊆ ks ∧ l.length ≤ 100) (fun _ _ => true)
theorem ok_some {fL : Addr} {fdL : FuncData} (F : FnP K "are_some_of" (top 14) f fd) (B : Bn mg) (FL : FnP K "is_list" (top 9) fL fdL) (gL : mg "is_list" = some (.ref fL)) : FnOk P w K mg base CX0 2 f fd ["keepers", "thing"] spSome := by
  have GL : FnOk P w K mg base CX0 1 fL fdL ["thing"] spIsList := ok_is_list FL B.isinstance B.list B.tuple
  have bL : Binds K fdL ["thing"] [] := FL.bindsN fun _ _ _ _ _ _ us hl => match us, hl with | [_], _ => rfl
  refine F.ok scSome (fun vs H Q E h => ?_) (fun cdv A outer s H vs Q E hr h => ?_)
  · obtain ⟨v, u, _, _, _, rfl, _⟩ := h
    rfl
  · obtain ⟨v, u, ks, l, A0, rfl, eA, hv, hu, ⟨ha, hs, hl⟩, q⟩ := h
    refine ⟨_, PSs.nox (pss_cons (ps_if (pw_or (pt_not (pt_val (pe_call GL hr (by rfl) gL FL.kp bL .nil pass0 (pa_cons (pv 1) pa_nil))))
        (pw_or1 (pt_not (pt_val (pe_callB (cr_all rfl) (by rfl) B.all (by decide +kernel) (pa_cons (pe_lc (own := [("one", 2)]) (g := gName 2) (tt := tYes) (te := tAndV (tIsT K 2 "str") (tOp (rInW Str false) (tVar 2) (tVar 0))) rfl scSome.nd (pi_list (pv 1)) (blkOk_by (N := NSome) (sc := defScope (top 14)) (by decide +kernel))
          (fun _ _ _ _ _ => pg_name (i := 2) scSome.nd rfl (.inl rfl)) (fun _ _ _ _ _ => pts_nil) (fun _ _ _ _ _ => pe_and (pe_ist K "str" 2 B.isinstance B.str) (pe_one (pe_cmpR (op_inW (α := Str) (uS hr)) (pv 2) (pv 0) (by rfl))))) pa_nil)))))).pt (pss_one (ps_ret pe_bl)) pss_nil)
      (pss_one (ps_ret (pe_callB (cr_all rfl) (by rfl) B.all (by decide +kernel) (pa_cons (pe_lc (own := [("one", 2), ("other", 3)]) (g := gTup K 2 (gCons (gName 2) (gCons (gName 3) gNil))) (tt := tYes) (te := tOp (rLtW Str) (tVar 2) (tVar 3)) rfl scSome.nd
        (pi_zipA (by rfl) B.zip (pa_cons (pv 1) (pa_cons (pe_slice sl_list (pv 1) (po_some pe_int) po_none) pa_nil))) (blkOk_by (N := NSome) (sc := defScope (top 14)) (by decide +kernel))
        (fun _ _ _ _ _ => pg_tup rfl (pgs_cons (pg_name (i := 2) scSome.nd rfl (.inl rfl)) (pgs_cons (pg_name (i := 3) scSome.nd rfl (.inl rfl)) pgs_nil))) (fun _ _ _ _ _ => pts_nil)
        (fun _ _ _ _ _ => pe_cmpR (op_ltW (α := Str) (uT hr)) (pv 2) (pv 3) (by rfl))) pa_nil))))), ?_⟩
    have e0 : EvD (tVar 1) [some v, some u, none, none] A0 l := ed_var rfl hu
    have k0 : EvD (tVar 0) [some v, some u, none, none] A0 ks := ed_var rfl hv
    have t1 : EvT _ [some v, some u, none, none] A0 false := et_is (et_not (et_B (ev_isList (E := E0) e0))) rfl
    have nm := ev_allD (K := K) (ed_lc (K := K) (σ := [some v, some u, none, none]) (H := A0) (tl := tVar 1) (tt := tYes) (te := tAndV (tIsT K 2 "str") (tOp (rInW Str false) (tVar 2) (tVar 0))) (j := 2) (vs := [2]) (fun _ : Str => true) (fun _ : Str => true) e0 (by omega) (fun _ => rfl) (fun _ _ H1 _ _ _ => et_yes) fun x y H1 e m r _ => by
      have e2 := ev_andV (ev_istS (K := K) (ed_var (σ := [some v, some u, some y, none]) (i := 2) rfl r)) fun _ => ev_inD (ed_var (σ := [some v, some u, some y, none]) (i := 2) rfl r) (ed_var (i := 0) (v := v) rfl (DV.ext e hv))
      rw [decide_eq_true (hs m)] at e2
      exact ed_bl e2)
    rw [allTrue fun _ _ => rfl] at nm
    refine b_skip (Bs.start eA) (et_or t1 fun _ => et_not (et_B nm)) rfl fun H1 B1 => ?_
    have z0 := ed_zip (K := K) (tt := tYes) (te := tOp (rLtW Str) (tVar 2) (tVar 3)) (i := 2) (j := 3) (vs := [2, 3]) (σ := [some v, some u, none, none]) (fun x y : Str => sl x y) e0 (ed_sl (K := K) e0 (eo_some (te := tC (.int 1)) ev_c) eo_none) (by omega) (fun _ _ => rfl) (fun _ _ _ _ => et_yes) fun k x y v u H1 _ _ _ r1 r2 => ed_bl (ev_ltD (ed_var rfl r1) (ed_var rfl r2))
    have z1 := ev_allD (K := K) z0
    rw [cut_tail, asc_zip ha] at z1
    exact b_ret B1 (ed_bl z1) q
theorem scLot : FnScope ["keepers", "thing"] ["keepers", "thing"] (defScope (top 15)) := ⟨rfl, rfl, rfl, by decide +kernel, rfl, by decide +kernel, by decide +kernel⟩
abbrev spLot : Sp := sp2 (fun (ks l : List Str) => GoodL ks l ∧ l.length ≤ 100) (fun _ _ => true)
theorem ok_lot {fL fS : Addr} {fdL fdS : FuncData} (F : FnP K "is_lot_of" (top 15) f fd) (B : Bn mg) (FL : FnP K "is_list" (top 9) fL fdL) (gL : mg "is_list" = some (.ref fL)) (FS : FnP K "are_some_of" (top 14) fS fdS) (gS : mg "are_some_of" = some (.ref fS)) : FnOk P w K mg base CX0 3 f fd ["keepers", "thing"] spLot := by
  have GS : FnOk P w K mg base CX0 2 fS fdS ["keepers", "thing"] spSome := ok_some FS B FL gL
  have bS : Binds K fdS ["keepers", "thing"] [] := FS.bindsN fun _ _ _ _ _ _ us hl => match us, hl with | [_, _], _ => rfl
  refine F.ok scLot (fun vs H Q E h => ?_) (fun cdv A outer s H vs Q E hr h => ?_)
  · obtain ⟨v, u, _, _, _, rfl, _⟩ := h
    rfl
  · obtain ⟨v, u, ks, l, A0, rfl, eA, hv, hu, ⟨hg, hl⟩, q⟩ := h
    refine ⟨_, PSs.nox (pss_one (ps_ret (pe_and (pe_call GS hr (by rfl) gS FS.kp bS .nil pass0 (pa_cons (pv 0) (pa_cons (pv 1) pa_nil))) (pe_one (pe_cmpR op_gt (pe_callB call_len_seq (by rfl) B.len PySem.boot_len (pa_cons (pv 1) pa_nil)) pe_int (nomark _)))))), ?_⟩
    have e0 : EvD (tVar 1) [some v, some u] A0 l := ed_var rfl hu
    have c := ev_of (ed_call2 (E := E0) (P := fun (ks l : List Str) => Asc sl l ∧ l ⊆ ks ∧ l.length ≤ 100) (f := fun _ _ => true) (ed_var (i := 0) (σ := [some v, some u]) (H := A0) rfl hv) e0 ⟨hg.asc, hg.sub, hl⟩)
    have pos : 0 < l.length := List.length_pos_iff.mpr hg.ne
    have e2 := ev_andV c fun _ => ev_op (ev_lenD (K := K) e0) ev_c (rv_I0 (g := fun i j => .bl (decide (j < i))) (i := (l.length : Int)) (j := 0))
    rw [decide_eq_true (show (0 : Int) < (l.length : Int) by omega)] at e2
    exact b_ret (Bs.start eA) (ed_bl e2) q
end
end K07
/-! text D11 -/
set_option Elab.async false
set_option linter.all false
set_option maxRecDepth 100000
set_option maxHeartbeats 4000000
/-! is_family, checked_family -/
namespace K07
open PySem PySem.Spec PyProof.Rows L2 Evl PySem.W Dw Dw.DV RZ Lot
/-- a def of the text, where it stands, what its name stands for -/
structure Df (K : PySem.W.Frag) (mg : Str → Option Value) (x : Str) (i : Nat) (f : Addr) (fd : FuncData) : Prop where
  F : FnP K x (top i) f fd
  g : mg x = some (.ref f)
section
variable {P : Program} {w : World} {K : PySem.W.Frag} {mg : Str → Option Value} {base : Heap} {f : Addr} {fd : FuncData}
abbrev NFam : List Str := ["thing", "lot", "lots", "one", "other"]
theorem scFam : FnScope NFam ["thing"] (defScope (top 18)) := ⟨rfl, rfl, rfl, by decide +kernel, rfl, by decide +kernel, by decide +kernel⟩
abbrev spHolds : Sp := sp2 (fun (_ other : List Str) => other.length ≤ 1000) holdsP
abbrev scFamI : Scope := { kind := .function, names := [(".0", .local), ("one", .cell), ("any", .globalImplicit), ("lots", .cell)], isGenerator := false, isCoroutine := false }
abbrev spFam : Sp := sp1 (GoodF goodName) (fun _ => true)
theorem ok_fam {fN fL fK fS fO fH : Addr} {fdN fdL fdK fdS fdO fdH : FuncData} (F : FnP K "is_family" (top 18) f fd) (B : Bn mg) (N : Df K mg "is_name" 10 fN fdN) (L : Df K mg "is_list" 9 fL fdL) (KP : Df K mg "are_keepers" 13 fK fdK)
    (S : Df K mg "are_some_of" 14 fS fdS) (O : Df K mg "is_lot_of" 15 fO fdO) (HO : Df K mg "holds" 16 fH fdH) : FnOk P w K mg base CX0 4 f fd ["thing"] spFam := by
  have GL : FnOk P w K mg base CX0 1 fL fdL ["thing"] spIsList := ok_is_list L.F B.isinstance B.list B.tuple
  have bL : Binds K fdL ["thing"] [] := L.F.bindsN fun _ _ _ _ _ _ us hl => match us, hl with | [_], _ => rfl
  have GK : FnOk P w K mg base CX0 2 fK fdK ["thing"] spKeep := ok_keep KP.F B N.F N.g L.F L.g
  have bK : Binds K fdK ["thing"] [] := KP.F.bindsN fun _ _ _ _ _ _ us hl => match us, hl with | [_], _ => rfl
  have GO : FnOk P w K mg base CX0 3 fO fdO ["keepers", "thing"] spLot := ok_lot O.F B L.F L.g S.F S.g
  have bO : Binds K fdO ["keepers", "thing"] [] := O.F.bindsN fun _ _ _ _ _ _ us hl => match us, hl with | [_, _], _ => rfl
  have GH : FnOk P w K mg base CX0 1 fH fdH ["lot", "other"] spHolds := ok_holds HO.F B.all
  have bH : Binds K fdH ["lot", "other"] [] := HO.F.bindsN fun _ _ _ _ _ _ us hl => match us, hl with | [_, _], _ => rfl
  refine F.ok scFam (fun vs H Q E h => ?_) (fun cdv A outer s H vs Q E hr h => ?_)
  · obtain ⟨v, _, _, rfl, _⟩ := h
    rfl
  · obtain ⟨v, F, A0, rfl, eA, hv, hF, q⟩ := h
    refine ⟨_, PSs.nox (pss_cons (ps_if (pw_or (pt_not (pt_val (pe_call GL (hr.mono (by decide)) (by rfl) L.g L.F.kp bL .nil pass0 (pa_cons (pv 0) pa_nil))))
        (pw_or (pt_cmpR op_ne (pe_callB call_len_seq (by rfl) B.len PySem.boot_len (pa_cons (pv 0) pa_nil)) pe_int (nomark _))
        (pw_or1 (pt_not (pt_val (pe_call GK (hr.mono (by decide)) (by rfl) KP.g KP.F.kp bK .nil pass0 (pa_cons (pe_ix ix_tup (pv 0) pe_int (fun _ _ => rfl)) pa_nil))))))).pt (pss_one (ps_ret pe_bl)) pss_nil)
      (pss_cons (ps_if (pw_or (pt_not (pt_val (pe_call GL (hr.mono (by decide)) (by rfl) L.g L.F.kp bL .nil pass0 (pa_cons (pe_ix ix_tup (pv 0) pe_int (fun _ _ => rfl)) pa_nil))))
        (pw_or (pt_cmpR op_eq (pe_callB call_len_seq (by rfl) B.len PySem.boot_len (pa_cons (pe_ix ix_tup (pv 0) pe_int (fun _ _ => rfl)) pa_nil)) pe_int (nomark _))
        (pw_or1 (pt_not (pt_val (pe_callB (cr_all rfl) (by rfl) B.all (by decide +kernel) (pa_cons (pe_lc (own := [("lot", 1)]) (g := gName 1) (tt := tYes) (te := tCall spLot [] E0 (tCons (tOp (rIxT K) (tVar 0) (tC (.int 0))) (tCons (tVar 1) tNil))) rfl scFam.nd (pi_list (pe_ix ix_tup (pv 0) pe_int (fun _ _ => rfl))) (blkOk_by (N := NFam) (sc := defScope (top 18)) (by decide +kernel))
          (fun _ _ _ _ _ => pg_name (i := 1) scFam.nd rfl (.inl rfl)) (fun _ _ _ _ _ => pts_nil) (fun _ _ _ _ _ => pe_call GO hr (by rfl) O.g O.F.kp bO .nil pass0 (pa_cons (pe_ix ix_tup (pv 0) pe_int (fun _ _ => rfl)) (pa_cons (pv 1) pa_nil)))) pa_nil))))))).pt (pss_one (ps_ret pe_bl)) pss_nil)
      (pss_cons (ps_set (i := 2) scFam.nd rfl (.inr rfl) (pe_lc (own := [("lot", 1)]) (g := gName 1) (tt := tYes) (te := tCB (rListS K) (tCons (tVar 1) tNil)) rfl scFam.nd (pi_list (pe_ix ix_tup (pv 0) pe_int (fun _ _ => rfl))) (blkOk_by (N := NFam) (sc := defScope (top 18)) (by decide +kernel))
          (fun _ _ _ _ _ => pg_name (i := 1) scFam.nd rfl (.inl rfl)) (fun _ _ _ _ _ => pts_nil) (fun _ _ _ _ _ => pe_callTy call_list_of (by rfl) B.list (by decide +kernel) (pa_cons (pv 1) pa_nil))))
      (pss_cons (ps_if (pt_not (pt_val (pe_callB (cr_all rfl) (by rfl) B.all (by decide +kernel) (pa_cons (pe_lc (own := [("one", 3), ("other", 4)]) (g := gTup K 2 (gCons (gName 3) (gCons (gName 4) gNil))) (tt := tYes) (te := tOp (rLtW (List Str)) (tVar 3) (tVar 4)) rfl scFam.nd
        (pi_zipA (by rfl) B.zip (pa_cons (pv 2) (pa_cons (pe_slice sl_list (pv 2) (po_some pe_int) po_none) pa_nil))) (blkOk_by (N := NFam) (sc := defScope (top 18)) (by decide +kernel))
        (fun _ _ _ _ _ => pg_tup rfl (pgs_cons (pg_name (i := 3) scFam.nd rfl (.inl rfl)) (pgs_cons (pg_name (i := 4) scFam.nd rfl (.inl rfl)) pgs_nil))) (fun _ _ _ _ _ => pts_nil)
        (fun _ _ _ _ _ => pe_cmpR (op_ltW (α := List Str) (uTL hr)) (pv 3) (pv 4) (by rfl))) pa_nil)))) (pss_one (ps_ret pe_bl)) pss_nil)
      (pss_one (ps_ret (pe_not (pe_callB (cr_any rfl) (by rfl) B.any (by decide +kernel) (pa_cons (pe_lc (own := [("one", 3)]) (g := gName 3) (tt := tYes) (te := tCB (rAny K) (tCons (tLc (iList K (tVar 2)) (gName 4) tYes (tAndV (tOp (rEqW (List Str) true) (tVar 3) (tVar 4)) (tCall spHolds [] E0 (tCons (tVar 3) (tCons (tVar 4) tNil)))) [4]) tNil)) rfl scFam.nd (pi_list (pv 2)) (blkOk_by (N := NFam) (sc := defScope (top 18)) (by decide +kernel))
          (fun _ _ _ _ _ => pg_name (i := 3) scFam.nd rfl (.inr rfl)) (fun _ _ _ _ _ => pts_nil)
          (fun _ _ _ _ _ => pe_callB (cr_any rfl) (by rfl) B.any (by decide +kernel) (pa_cons (pe_lc (own := [("other", 4)]) (g := gName 4) (tt := tYes) rfl scFam.nd (pi_list (pv 2)) (blkOk_by (N := NFam) (sc := scFamI) (by decide +kernel))
            (fun _ _ _ _ _ => pg_name (i := 4) scFam.nd rfl (.inl rfl)) (fun _ _ _ _ _ => pts_nil)
            (fun _ _ _ _ _ => pe_and (pe_cmpR (op_neW (α := List Str) (uTL hr)) (pv 3) (pv 4) (by rfl)) (pe_one (pe_call GH (hr.mono (by decide)) (by rfl) HO.g HO.F.kp bH .nil pass0 (pa_cons (pv 3) (pa_cons (pv 4) pa_nil)))))) pa_nil))) pa_nil))))))))), ?_⟩
    have e0 : EvD (tVar 0) [some v, none, none, none, none] A0 F := ed_var rfl hv
    have l2 := hF.len2
    have t1 : EvT _ [some v, none, none, none, none] A0 false := et_is (et_not (et_B (ev_isListP (E := E0) e0))) rfl
    have t2 : EvT (tTest (tOp rNe (tCB (rLenS K) (tCons (tVar 0) tNil)) (tC (.int 2)))) [some v, none, none, none, none] A0 false := et_is (et_test (ev_op (ev_lenP e0) ev_c (rv_ne rfl))) rfl
    have t3 := et_not (et_B (ev_of (ed_call1 (E := E0) (P := GoodK goodName) (f := fun _ => true) (ed_fst (K := K) e0) hF.ks)))
    refine b_skip (Bs.start eA) (et_or t1 fun _ => et_or t2 fun _ => t3) rfl fun H1 B1 => ?_
    have s1 := ed_snd (K := K) e0
    have u1 : EvT _ [some v, none, none, none, none] A0 false := et_is (et_not (et_B (ev_isList (E := E0) s1))) rfl
    have u2 : EvT (tTest (tOp rEq (tCB (rLenS K) (tCons (tOp (rIxT K) (tVar 0) (tC (.int 1))) tNil)) (tC (.int 0)))) [some v, none, none, none, none] A0 false := et_is (et_test (ev_op (ev_lenD s1) ev_c (rv_eq rfl))) (decide_eq_false fun z => by
      have : F.2.length = 0 := by
        have := V.int.inj z
        omega
      exact hF.ne (List.eq_nil_of_length_eq_zero this))
    have nm := ev_allD (K := K) (ed_lc (K := K) (σ := [some v, none, none, none, none]) (H := A0) (tt := tYes) (te := tCall spLot [] E0 (tCons (tOp (rIxT K) (tVar 0) (tC (.int 0))) (tCons (tVar 1) tNil))) (j := 1) (vs := [1]) (fun _ : List Str => true) (fun _ : List Str => true) s1 (by have := hF.len; omega) (fun _ => rfl) (fun _ _ H1 _ _ _ => et_yes) fun x y H1 e m r _ =>
      ed_call2 (ed_fst (K := K) (ed_var (i := 0) (v := v) rfl (DV.ext e hv))) (ed_var (i := 1) (v := y) rfl r) ⟨hF.lots x m, l2 x m⟩)
    rw [allTrue fun _ _ => rfl] at nm
    refine b_skip B1 (et_or u1 fun _ => et_or u2 fun _ => et_not (et_B nm)) rfl fun H2 B2 => ?_
    have ll := ed_lc (K := K) (σ := [some v, none, none, none, none]) (H := A0) (tt := tYes) (te := tCB (rListS K) (tCons (tVar 1) tNil)) (j := 1) (vs := [1]) (fun _ : List Str => true) (fun x : List Str => x) s1 (by have := hF.len; omega) (fun _ => rfl) (fun _ _ H1 _ _ _ => et_yes) fun x y H1 e m r _ => ed_list (ed_var (i := 1) (v := y) rfl r)
    rw [List.filter_eq_self.mpr (fun _ _ => rfl), List.map_id'] at ll
    refine b_asg B2 ll fun v2 A2 H3 B3 eA2 r2 => ?_
    have e2 : EvD (tVar 2) [some v, none, some v2, none, none] A2 F.2 := ed_var rfl r2
    have z0 := ed_zip (K := K) (tt := tYes) (te := tOp (rLtW (List Str)) (tVar 3) (tVar 4)) (i := 3) (j := 4) (vs := [3, 4]) (σ := [some v, none, some v2, none, none]) (fun x y : List Str => (DatumOrd.lt x y : Bool)) e2 (ed_sl (K := K) e2 (eo_some (te := tC (.int 1)) ev_c) eo_none) (by have := hF.len; omega) (fun _ _ => rfl) (fun _ _ _ _ => et_yes) fun k x y v u H1 _ _ _ r1 r2 => ed_bl (ev_ltD (ed_var rfl r1) (ed_var rfl r2))
    have z1 := ev_allD (K := K) z0
    rw [cut_tail, asc_zip (ll_asc.mpr hF.asc)] at z1
    refine b_skip B3 (et_not (et_B z1)) rfl fun H4 B4 => ?_
    have inner : ∀ (x : List Str) (y : V) H1, Ex A2 H1 → x ∈ F.2 → rep H1 y x → (fun _ : List Str => true) x = true → EvD (tCB (rAny K) (tCons (tLc (iList K (tVar 2)) (gName 4) tYes (tAndV (tOp (rEqW (List Str) true) (tVar 3) (tVar 4)) (tCall spHolds [] E0 (tCons (tVar 3) (tCons (tVar 4) tNil)))) [4]) tNil)) [some v, none, some v2, some y, none] H1 (F.2.any fun o => decide (x ≠ o) && holdsP x o) := fun x y H1 e m r _ => by
      have lc := ed_lc (K := K) (σ := [some v, none, some v2, some y, none]) (H := H1) (tl := tVar 2) (tt := tYes) (te := tAndV (tOp (rEqW (List Str) true) (tVar 3) (tVar 4)) (tCall spHolds [] E0 (tCons (tVar 3) (tCons (tVar 4) tNil)))) (j := 4) (vs := [4]) (fun _ : List Str => true) (fun o : List Str => decide (x ≠ o) && holdsP x o) (ed_var (v := v2) rfl (DV.ext e r2)) (by have := hF.len; omega) (fun _ => rfl) (fun _ _ H1 _ _ _ => et_yes) fun o z H5 e5 mo ro _ => ed_bl (ev_andV (ev_neD (ed_var (i := 3) (v := y) rfl (DV.ext e5 r)) (ed_var (i := 4) (v := z) rfl ro)) fun _ => ev_of (ed_call2 (ed_var (i := 3) (v := y) rfl (DV.ext e5 r)) (ed_var (i := 4) (v := z) rfl ro) (by have := l2 o mo; omega)))
      have an := ev_anyD (K := K) lc
      rw [List.filter_eq_self.mpr (fun _ _ => rfl), List.any_map] at an
      exact ed_bl an
    have lc := ed_lc (K := K) (σ := [some v, none, some v2, none, none]) (H := A2) (tl := tVar 2) (tt := tYes) (j := 3) (vs := [3]) (fun _ : List Str => true) (fun x : List Str => F.2.any fun o => decide (x ≠ o) && holdsP x o) e2 (by have := hF.len; omega) (fun _ => rfl) (fun _ _ H1 _ _ _ => et_yes) inner
    have an := ev_anyD (K := K) lc
    have no : ((F.2.filter fun _ => true).map fun x : List Str => F.2.any fun o => decide (x ≠ o) && holdsP x o).any id = false := by
      rw [List.any_eq_false]
      intro b hb
      obtain ⟨x, hx, rfl⟩ := List.mem_map.mp hb
      have hx := (List.mem_filter.mp hx).1
      show ¬ (F.2.any fun o => decide (x ≠ o) && holdsP x o) = true
      rw [List.any_eq_true]
      rintro ⟨o, ho, z⟩
      rw [Bool.and_eq_true] at z
      have z1 := of_decide_eq_true z.1
      have z2 := List.all_eq_true.mp z.2
      exact z1 (hF.anti o ho x hx fun k m => of_decide_eq_true (z2 k m)).symm
    rw [no] at an
    exact b_ret B4 (ed_bl (ev_notV an)) q
end
end K07
/-! text D12 -/
set_option Elab.async false
set_option linter.all false
set_option maxRecDepth 100000
set_option maxHeartbeats 4000000
/-! checked_family, known_keeper, less_keeper -/
namespace K07
open PySem PySem.Spec PyProof.Rows L2 Evl PySem.W Dw Dw.DV RZ Lot
/-- the defs about keepers and families -/
structure Fs (K : PySem.W.Frag) (mg : Str → Option Value) (fL fN f1 fK fS fO fH fF fT : Addr) (dL dN d1 dK dS dO dH dF dT : FuncData) : Prop where
  L : Df K mg "is_list" 9 fL dL
  N : Df K mg "is_name" 10 fN dN
  one : Df K mg "is_one_of" 11 f1 d1
  KP : Df K mg "are_keepers" 13 fK dK
  S : Df K mg "are_some_of" 14 fS dS
  O : Df K mg "is_lot_of" 15 fO dO
  HO : Df K mg "holds" 16 fH dH
  F : Df K mg "is_family" 18 fF dF
  T : Df K mg "told_family" 19 fT dT
section
variable {P : Program} {w : World} {K : PySem.W.Frag} {mg : Str → Option Value} {base : Heap} {f : Addr} {fd : FuncData} {fL fN f1 fK fS fO fH fF fT : Addr} {dL dN d1 dK dS dO dH dF dT : FuncData}
theorem scChk : FnScope ["family"] ["family"] (defScope (top 20)) := ⟨rfl, rfl, rfl, by decide +kernel, rfl, by decide +kernel, by decide +kernel⟩
abbrev spChk : Sp := sp1 (GoodF goodName) (fun F => F)
abbrev spTold : Sp := sp1 (fun F : FamT => F.2.length ≤ 1000) (fun F => F)
theorem ok_chk (F : FnP K "checked_family" (top 20) f fd) (B : Bn mg) (Z : Fs K mg fL fN f1 fK fS fO fH fF fT dL dN d1 dK dS dO dH dF dT) : FnOk P w K mg base CX0 5 f fd ["family"] spChk := by
  have GF : FnOk P w K mg base CX0 4 fF dF ["thing"] spFam := ok_fam Z.F.F B Z.N Z.L Z.KP Z.S Z.O Z.HO
  have bF : Binds K dF ["thing"] [] := Z.F.F.bindsN fun _ _ _ _ _ _ us hl => match us, hl with | [_], _ => rfl
  have GT : FnOk P w K mg base CX0 1 fT dT ["thing"] spTold := ok_told Z.T.F B.list
  have bT : Binds K dT ["thing"] [] := Z.T.F.bindsN fun _ _ _ _ _ _ us hl => match us, hl with | [_], _ => rfl
  refine F.ok scChk (fun vs H Q E h => ?_) (fun cdv A outer s H vs Q E hr h => ?_)
  · obtain ⟨v, _, _, rfl, _⟩ := h
    rfl
  · obtain ⟨v, F, A0, rfl, eA, hv, hF, q⟩ := h
    refine ⟨_, PSs.nox (pss_cons (ps_if (pt_not (pt_val (pe_call GF hr (by rfl) Z.F.g Z.F.F.kp bF .nil pass0 (pa_cons (pv 0) pa_nil)))) pss_never pss_nil)
      (pss_one (ps_ret (pe_call GT (hr.mono (by decide)) (by rfl) Z.T.g Z.T.F.kp bT .nil pass0 (pa_cons (pv 0) pa_nil))))), ?_⟩
    have e0 : EvD (tVar 0) [some v] A0 F := ed_var rfl hv
    have t1 := et_not (et_B (ev_of (ed_call1 (E := E0) (P := GoodF goodName) (f := fun _ => true) e0 hF)))
    refine b_skip (Bs.start eA) t1 rfl fun H1 B1 => ?_
    exact b_ret B1 (ed_call1 (E := E0) (P := fun F : FamT => F.2.length ≤ 1000) (f := fun F => F) e0 hF.len) q
theorem scKnown : FnScope ["keepers", "keeper"] ["keepers", "keeper"] (defScope (top 24)) := ⟨rfl, rfl, rfl, by decide +kernel, rfl, by decide +kernel, by decide +kernel⟩
abbrev spKnown : Sp := sp2 (fun (ks : List Str) (x : Str) => x ∈ ks) (fun _ x => x)
theorem ok_known (F : FnP K "known_keeper" (top 24) f fd) (B : Bn mg) (Z : Fs K mg fL fN f1 fK fS fO fH fF fT dL dN d1 dK dS dO dH dF dT) : FnOk P w K mg base CX0 2 f fd ["keepers", "keeper"] spKnown := by
  have G1 : FnOk P w K mg base CX0 1 f1 d1 ["known", "thing"] spOne := ok_one Z.one.F B
  have b1 : Binds K d1 ["known", "thing"] [] := Z.one.F.bindsN fun _ _ _ _ _ _ us hl => match us, hl with | [_, _], _ => rfl
  refine F.ok scKnown (fun vs H Q E h => ?_) (fun cdv A outer s H vs Q E hr h => ?_)
  · obtain ⟨v, u, _, _, _, rfl, _⟩ := h
    rfl
  · obtain ⟨v, u, ks, x, A0, rfl, eA, hv, hu, hx, q⟩ := h
    refine ⟨_, PSs.nox (pss_cons (ps_if (pt_not (pt_val (pe_call G1 hr (by rfl) Z.one.g Z.one.F.kp b1 .nil pass0 (pa_cons (pv 0) (pa_cons (pv 1) pa_nil))))) pss_never pss_nil) (pss_one (ps_ret (pv 1)))), ?_⟩
    have e1 : EvD (tVar 1) [some v, some u] A0 x := ed_var rfl hu
    have c := ev_of (ed_call2 (E := E0) (P := fun (_ : List Str) (_ : Str) => True) (f := fun known thing => decide (thing ∈ known)) (ed_var (i := 0) (σ := [some v, some u]) (H := A0) rfl hv) e1 True.intro)
    rw [decide_eq_true hx] at c
    refine b_skip (Bs.start eA) (et_not (et_B c)) rfl fun H1 B1 => ?_
    exact b_ret B1 e1 q
theorem scLess : FnScope ["keepers", "name", "one"] ["keepers", "name"] (defScope (top 27)) := ⟨rfl, rfl, rfl, by decide +kernel, rfl, by decide +kernel, by decide +kernel⟩
abbrev spLess : Sp := sp2 (fun (ks : List Str) (_ : Str) => ks.length ≠ 1 ∧ ks.length ≤ 100) (fun ks x => drop1 x ks)
theorem ok_less (F : FnP K "less_keeper" (top 27) f fd) (B : Bn mg) : FnOk P w K mg base CX0 1 f fd ["keepers", "name"] spLess := by
  refine F.ok scLess (fun vs H Q E h => ?_) (fun cdv A outer s H vs Q E hr h => ?_)
  · obtain ⟨v, u, _, _, _, rfl, _⟩ := h
    rfl
  · obtain ⟨v, u, ks, x, A0, rfl, eA, hv, hu, ⟨h1, hl⟩, q⟩ := h
    refine ⟨_, PSs.nox (pss_cons (ps_if (pt_cmpR op_eq (pe_callB call_len_seq (by rfl) B.len PySem.boot_len (pa_cons (pv 0) pa_nil)) pe_int (nomark _)) pss_never pss_nil)
      (pss_one (ps_ret (pe_lc (own := [("one", 2)]) (g := gName 2) (te := tVar 2) rfl scLess.nd (pi_list (pv 0)) (blkOk_by (N := ["keepers", "name", "one"]) (sc := defScope (top 27)) (by decide +kernel))
        (fun _ _ _ _ _ => pg_name (i := 2) scLess.nd rfl (.inl rfl)) (fun _ _ _ _ _ => pts_one (pt_cmpR (op_neW (α := Str) (uT hr)) (pv 2) (pv 1) (by rfl))) (fun _ _ _ _ _ => pv 2))))), ?_⟩
    have e0 : EvD (tVar 0) [some v, some u, none] A0 ks := ed_var rfl hv
    have t : EvT (tTest (tOp rEq (tCB (rLenS K) (tCons (tVar 0) tNil)) (tC (.int 1)))) [some v, some u, none] A0 false := et_is (et_test (ev_op (ev_lenD e0) ev_c (rv_eq rfl))) (decide_eq_false fun z => by
      have := V.int.inj z
      omega)
    refine b_skip (Bs.start eA) t rfl fun H1 B1 => ?_
    have lc := ed_lc (K := K) (σ := [some v, some u, none]) (H := A0) (tl := tVar 0) (tt := tTest (tOp (rEqW Str true) (tVar 2) (tVar 1))) (te := tVar 2) (j := 2) (vs := [2]) (fun y : Str => decide (y ≠ x)) (fun y : Str => y) e0 (by omega) (fun _ => rfl)
      (fun y z H1 e _ r => et_test (ev_neD (ed_var (i := 2) (v := z) rfl r) (ed_var (i := 1) (v := u) rfl (DV.ext e hu)))) fun y z H1 _ _ r _ => ed_var (i := 2) (v := z) rfl r
    rw [List.map_id', show (ks.filter fun y => decide (y ≠ x)) = drop1 x ks from List.filter_congr fun y _ => by simp] at lc
    exact b_ret B1 lc q
end
end K07
/-! text W13 -/
set_option Elab.async false
set_option linter.all false
set_option maxHeartbeats 2000000
/-! typed: sorted, sets of texts in order, lists joined -/
namespace Dw
open PySem PySem.Spec PyProof.Rows L2 Evl PySem.W DV RZ StX
section
variable {α β γ : Type} [DecidableEq β] [Datum β] [DV β] [DecidableEq γ] [Datum γ] [DV γ] {K : PySem.W.Frag} {σ : L2.St} {H H' A A0 H0 : Hp} {te ta tb : TE} {tt : TT} {D : Ends}
theorem ed_sorted [DecidableEq α] [DatumOrd α] [DV α] {xs : List α} (h : EvD te σ A xs) : EvD (tCB (rSortedW α) (tCons te tNil)) σ A (srt xs) := fun H1 e Q q => h H1 e _ fun v H2 Hs e2 s r => by
  obtain ⟨a, vs, rfl, h1, h2⟩ := r
  refine ⟨a, xs, Hs, rfl, s.e, ⟨a, vs, rfl, h1, h2⟩, fun p ws np hr => ?_⟩
  exact q _ _ (upd Hs p (.lst ws)) (e2.trans (Ex.new np)) (sup_new e2 s np) ⟨p, ws, rfl, upd_same, Reps.ext (Ex.new (sup_no s np)) hr⟩
theorem ed_sortedT [DecidableEq α] [DatumOrd α] [DV α] {xs : List (Tup α)} (h : EvD te σ A xs) (n : ∀ x ∈ xs, x.items ≠ []) : EvD (tCB (rSortedWT α) (tCons te tNil)) σ A (srt xs) := fun H1 e Q q => h H1 e _ fun v H2 Hs e2 s r => by
  obtain ⟨a, vs, rfl, h1, h2⟩ := r
  refine ⟨a, xs, Hs, rfl, s.e, ⟨a, vs, rfl, h1, h2⟩, n, fun p ws np hr => ?_⟩
  exact q _ _ (upd Hs p (.lst ws)) (e2.trans (Ex.new np)) (sup_new e2 s np) ⟨p, ws, rfl, upd_same, Reps.ext (Ex.new (sup_no s np)) hr⟩
/-- [*a, *b] -/
theorem ed_stars [DecidableEq α] [Datum α] [DV α] {xs ys : List α} (h : EvD ta σ A xs) (h' : EvD tb σ A ys) (hl : xs.length + ys.length ≤ 100000) : EvD (tLst (tStar K ta (tStar K tb tNil))) σ A (xs ++ ys) := fun H1 e Q q => h H1 e _ fun v H2 Hs e2 s r => by
  obtain ⟨a, vs, rfl, h1, h2⟩ := r
  refine ⟨a, vs, rfl, .inr (sq_of (s.e _ _ h1)), h' H2 (e.trans e2) _ fun u H3 Ht e3 t r' => ?_⟩
  obtain ⟨b, us, rfl, g1, g2⟩ := r'
  refine ⟨b, us, rfl, .inr (sq_of (t.e _ _ g1)), ?_⟩
  have sj := s.join e e2 e3 t
  have R : Reps (jn Hs Ht) (vs ++ (us ++ [])) (xs ++ ys) := by
    rw [List.append_nil]
    exact Reps.app (Reps.ext jn_l h2) (Reps.ext (jn_r (s.e.trans e3) t.e) g2)
  refine ⟨by rw [Reps.len R, List.length_append]; exact sz_of hl, fun p np => ?_⟩
  exact q _ _ (upd (jn Hs Ht) p (.lst (vs ++ (us ++ [])))) ((e2.trans e3).trans (Ex.new np)) (sup_new (e2.trans e3) sj np) ⟨p, _, rfl, upd_same, Reps.ext (Ex.new (sup_no sj np)) R⟩
/-- a + b -/
theorem ed_cat [DecidableEq α] [Datum α] [DV α] {xs ys : List α} (h : EvD ta σ A xs) (h' : EvD tb σ A ys) (hl : xs.length + ys.length ≤ 100000) : EvD (tOp rCat ta tb) σ A (xs ++ ys) := fun H1 e Q q => h H1 e _ fun v H2 Hs e2 s r => h' H2 (e.trans e2) _ fun u H3 Ht e3 t r' => by
  obtain ⟨a, vs, rfl, h1, h2⟩ := r
  obtain ⟨b, us, rfl, g1, g2⟩ := r'
  have sj := s.join e e2 e3 t
  have R : Reps (jn Hs Ht) (vs ++ us) (xs ++ ys) := Reps.app (Reps.ext jn_l h2) (Reps.ext (jn_r (s.e.trans e3) t.e) g2)
  refine ⟨a, b, vs, us, rfl, rfl, e3 _ _ (s.e _ _ h1), t.e _ _ g1, by rw [Reps.len h2, Reps.len g2]; exact sz_of hl, fun p np => ?_⟩
  exact q _ _ (upd (jn Hs Ht) p (.lst (vs ++ us))) ((e2.trans e3).trans (Ex.new np)) (sup_new (e2.trans e3) sj np) ⟨p, _, rfl, upd_same, Reps.ext (Ex.new (sup_no sj np)) R⟩
/-! ### the keys of a dict -/
/-- each once, in the order in which they first stand -/
def once [DecidableEq α] (xs : List α) : List α := xs.foldl (fun acc x => if x ∈ acc then acc else acc ++ [x]) []
theorem once_go [DecidableEq α] : ∀ (xs acc : List α), acc.Nodup → (xs.foldl (fun acc x => if x ∈ acc then acc else acc ++ [x]) acc).Nodup ∧ ∀ y, y ∈ xs.foldl (fun acc x => if x ∈ acc then acc else acc ++ [x]) acc ↔ y ∈ acc ∨ y ∈ xs
  | [], acc, n => ⟨n, fun y => by simp⟩
  | x :: xs, acc, n => by
    rw [List.foldl_cons]
    by_cases m : x ∈ acc
    · rw [if_pos m]
      obtain ⟨h1, h2⟩ := once_go xs acc n
      refine ⟨h1, fun y => (h2 y).trans ⟨fun z => z.imp id (List.mem_cons_of_mem _), fun z => z.elim .inl fun z => (List.mem_cons.mp z).elim (fun z => .inl (by rw [z]; exact m)) .inr⟩⟩
    · rw [if_neg m]
      obtain ⟨h1, h2⟩ := once_go xs (acc ++ [x]) (List.nodup_append.mpr ⟨n, by simp, fun a ha b hb => by
        rw [List.mem_singleton.mp hb]
        exact fun z => m (by rw [← z]; exact ha)⟩)
      refine ⟨h1, fun y => (h2 y).trans ?_⟩
      simp only [List.mem_append, List.mem_cons, List.not_mem_nil, or_false, or_assoc]
theorem once_nodup [DecidableEq α] (xs : List α) : (once xs).Nodup := (once_go xs [] List.nodup_nil).1
theorem mem_once [DecidableEq α] {xs : List α} {y : α} : y ∈ once xs ↔ y ∈ xs := ((once_go xs [] List.nodup_nil).2 y).trans (by simp)
theorem once_snoc [DecidableEq α] (xs : List α) (x : α) : once (xs ++ [x]) = if x ∈ once xs then once xs else once xs ++ [x] := by
  unfold once
  rw [List.foldl_append]
  rfl
theorem once_len [DecidableEq α] (xs : List α) : (once xs).length ≤ xs.length := Lot.sub_len (once_nodup xs) fun _ h => mem_once.mp h
theorem once_id [DecidableEq α] : ∀ {xs : List α}, xs.Nodup → once xs = xs := by
  intro xs
  have key : ∀ (ys acc : List α), (acc ++ ys).Nodup → ys.foldl (fun acc x => if x ∈ acc then acc else acc ++ [x]) acc = acc ++ ys := by
    intro ys
    induction ys with
    | nil => intro acc _; simp
    | cons y r ih =>
      intro acc h
      rw [List.foldl_cons, if_neg fun m => (List.nodup_append.mp h).2.2 y m y List.mem_cons_self rfl, ih _ (by simpa using h)]
      simp
  intro h
  exact key xs [] h
/-- te goes on with a new dict, its keys in order -/
def EvDK (te : TE) (σ : L2.St) (A : Hp) (ks : List Str) : Prop := ∀ H1, Ex A H1 → ∀ Q : VK, (∀ D kvs H2, H1 D = none → Ex H1 H2 → H2 D = some (.dK kvs) → kvs.map (·.1) = ks.map Sum.inr → Q (.ref D) H2) → te σ H1 Q
theorem keys_put {kvs : List (Key × V)} {ks : List Str} {x : Str} {v : V} (h : kvs.map (·.1) = ks.map Sum.inr) : (putK kvs (.inr x) v).map (·.1) = (if x ∈ ks then ks else ks ++ [x]).map Sum.inr := by
  have e : (kvs.any fun kv => decide (kv.1 = Sum.inr x)) = decide (x ∈ ks) := by
    rw [Bool.eq_iff_iff, List.any_eq_true, decide_eq_true_eq]
    constructor
    · rintro ⟨p, hp, z⟩
      have z := of_decide_eq_true z
      have m : p.1 ∈ kvs.map (·.1) := List.mem_map.mpr ⟨p, hp, rfl⟩
      rw [h, z] at m
      obtain ⟨y, hy, e⟩ := List.mem_map.mp m
      cases e
      exact hy
    · intro m
      have m2 : (Sum.inr x : Key) ∈ kvs.map (·.1) := by
        rw [h]
        exact List.mem_map.mpr ⟨x, m, rfl⟩
      obtain ⟨p, hp, e⟩ := List.mem_map.mp m2
      exact ⟨p, hp, decide_eq_true e⟩
  unfold putK
  rw [e]
  by_cases m : x ∈ ks
  · rw [decide_eq_true m, if_pos rfl, if_pos m, List.map_map, ← h]
    refine List.map_congr_left fun p _ => ?_
    show (if p.1 = Sum.inr x then (p.1, v) else p).1 = p.1
    split <;> rfl
  · rw [decide_eq_false m, if_neg Bool.false_ne_true, if_neg m, List.map_append, List.map_append, h]
    rfl
/-- {x: True for x in xs} -/
theorem ed_dcS {xs : List Str} {tl : TE} {j : Nat} {vs : List Nat} (h : EvD tl σ A xs) (hz : xs.length ≤ 40000) (hw : ∀ x, wipe ((wipe σ vs).set j (some x)) vs = wipe σ vs) (hj : ∀ x, ((wipe σ vs).set j (some x))[j]? = some (some x)) :
    EvDK (tDc (iList K tl) (gName j) tYes (tVar j) (tC (.bl true)) vs) σ A (once xs) := fun H1 e Q q => h H1 e _ fun v H2 Hs e2 s r => by
  obtain ⟨a, us, rfl, h1, h2⟩ := r
  have len := Reps.len h2
  have hus := reps_str h2
  have ha := s.e _ _ h1
  refine ⟨a, rfl, ⟨us, sq_of ha⟩, fun D hD => ?_⟩
  have D1 : H1 D = none := fresh_back e2 hD
  have aD : a ≠ D := fun z => by
    rw [z, hD] at ha
    cases ha
  refine ⟨fun i m H => m = us.length - i ∧ i ≤ us.length ∧ Ex H2 H ∧ ∃ kvs, H D = some (.dK kvs) ∧ kvs.map (·.1) = (once (xs.take i)).map Sum.inr, ⟨us.length, by simp, Nat.zero_le _, Ex.new hD, [], upd_same, rfl⟩, ?_⟩
  rintro i m H ⟨rfl, hi, p1, kvs, p2, p3⟩
  have hq : SqL K H a us := sq_of (p1 _ _ ha)
  by_cases hlt : i < us.length
  · refine .inr ⟨⟨us, us[i], hq, by simp [hlt]⟩, fun H' => Ex H2 H' ∧ ∃ kvs, H' D = some (.dK kvs) ∧ kvs.map (·.1) = (once (xs.take (i + 1))).map Sum.inr, fun H' p' => ⟨us.length - (i + 1), by omega, rfl, hlt, p'⟩, fun x H' y => ?_⟩
    obtain ⟨e, y⟩ := y
    subst e
    have hx := y us hq
    have hxs : xs[i]? = some xs[i] := List.getElem?_eq_getElem (by omega)
    have ex : x = V.str xs[i] := by
      rw [hus, List.getElem?_map, hxs] at hx
      exact (Option.some.inj hx).symm
    refine ⟨hw x, ?_⟩
    have lk : (once (xs.take i)).length = kvs.length := by
      have := congrArg List.length p3
      simpa using this.symm
    have l2 := once_len (xs.take i)
    rw [List.length_take] at l2
    refine ⟨x, hj x, kvs, .inr xs[i], ex, p2, sz_lt (by omega), p1.mut hD, _, upd_same, ?_⟩
    rw [keys_put p3, List.take_add_one, hxs]
    show _ = List.map Sum.inr (once (xs.take i ++ [xs[i]]))
    rw [once_snoc]
  · have e3 : i = us.length := by omega
    subst e3
    rw [List.take_of_length_le (by omega)] at p3
    exact .inl ⟨⟨us, hq, Nat.le_refl _⟩, q D kvs H D1 (e2.trans p1) p2 p3⟩
def rSrtD : List V → Hp → VK → Prop := fun xs H Q => ∃ (a : Addr) (kvs : List (Key × V)) (ks : List Str), xs = [.ref a] ∧ Rd H a (.dK kvs) ∧ kvs.map (·.1) = ks.map Sum.inr ∧
  ks.length < 64 ∧ ∀ ys p, ys.Perm ks → sortedS ys = true → H p = none → Q (.ref p) (upd H p (.lst (ys.map V.str)))
theorem cr_srtD {X : Cx} (hc : X.calm = true) : CallR X (.builtin "sorted") rSrtD := call_sortedD hc
theorem reps_strs {H : Hp} : ∀ (ys : List Str), Reps H (ys.map V.str) ys
  | [] => .nil
  | y :: r => .cons rfl (reps_strs r)
theorem sl_cps (a b : Str) : ltCps a.cps.toList b.cps.toList = Lot.sl a b := ltCps_eq _ _
theorem Tot.letr {α : Type} {lt : α → α → Bool} (T : Lot.Tot lt) {a b c : α} (h1 : lt b a = false) (h2 : lt c b = false) : lt c a = false := by
  cases e : lt c a with
  | false => rfl
  | true =>
    cases f : lt a b with
    | true =>
      rw [T.tr _ _ _ e f] at h2
      cases h2
    | false =>
      rw [T.di _ _ f h1] at e
      rw [e] at h2
      cases h2
theorem rising_pw : ∀ (r : List Str) (p : Str), risingS p r = true → (p :: r).Pairwise fun a b => Lot.sl b a = false
  | [], p, _ => List.pairwise_singleton _ _
  | x :: r, p, h => by
    have h' : (!ltCps x.cps.toList p.cps.toList && risingS x r) = true := h
    rw [Bool.and_eq_true] at h'
    have h1 : Lot.sl x p = false := by
      rw [← sl_cps]
      simpa using h'.1
    have ih := rising_pw r x h'.2
    refine List.pairwise_cons.mpr ⟨fun y hy => ?_, ih⟩
    rcases List.mem_cons.mp hy with e | m
    · rw [e]
      exact h1
    · exact Tot.letr Lot.sl_tot h1 ((List.pairwise_cons.mp ih).1 y m)
theorem srt_sorted {α : Type} [DecidableEq α] [DatumOrd α] [DV α] (T : Lot.Tot (DatumOrd.lt : α → α → Bool)) (xs : List α) : (srt xs).Pairwise fun a b => (DatumOrd.lt b a : Bool) = false := by
  have h := List.pairwise_mergeSort (le := leW (α := α)) (fun a b c h1 h2 => by
    unfold leW at h1 h2 ⊢
    rw [Bool.not_eq_true'] at h1 h2 ⊢
    exact Tot.letr T h1 h2) (fun a b => by
    unfold leW
    cases e : (DatumOrd.lt b a : Bool) with
    | false => rfl
    | true =>
      cases f : (DatumOrd.lt a b : Bool) with
      | false => rfl
      | true =>
        have z := T.tr _ _ _ e f
        rw [T.ir] at z
        cases z) xs
  refine h.imp fun {a b} z => ?_
  unfold leW at z
  simpa using z
/-- the things once, in order -/
theorem srt_asc {α : Type} [DecidableEq α] [DatumOrd α] [DV α] (T : Lot.Tot (DatumOrd.lt : α → α → Bool)) {xs : List α} (n : xs.Nodup) : Lot.Asc (DatumOrd.lt : α → α → Bool) (srt xs) := Lot.asc_of_sorted T (srt_sorted T xs) ((srt_perm xs).nodup_iff.mpr n)
theorem srt_id {α : Type} [DecidableEq α] [DatumOrd α] [DV α] (T : Lot.Tot (DatumOrd.lt : α → α → Bool)) {xs : List α} (h : Lot.Asc (DatumOrd.lt : α → α → Bool) xs) : srt xs = xs := Lot.asc_ext T (srt_asc T (h.nodup T)) h fun _ => srt_mem
theorem ed_srtD {ks : List Str} (h : EvDK te σ A ks) (n : ks.Nodup) (hl : ks.length < 64) : EvD (tCB rSrtD (tCons te tNil)) σ A (srt ks) := fun H1 e Q q => h H1 e _ fun D kvs H2 nD e2 hD hk => by
  refine ⟨D, kvs, ks, rfl, .inl hD, hk, hl, fun ys p hp hs np => ?_⟩
  have ny : ys.Nodup := hp.nodup_iff.mpr n
  have ey : ys = srt ks := by
    refine Lot.asc_ext Lot.sl_tot (Lot.asc_of_sorted Lot.sl_tot ?_ ny) (srt_asc Lot.sl_tot n) fun x => hp.mem_iff.trans srt_mem.symm
    cases ys with
    | nil => exact .nil
    | cons p r => exact rising_pw r p hs
  rw [ey]
  refine q _ _ (upd (fun _ => none) p (.lst ((srt ks).map V.str))) (e2.trans (Ex.new np)) (sup_new e2 ⟨fun _ _ z => (by cases z), fun _ _ z => (by cases z)⟩ np) ⟨p, _, rfl, upd_same, reps_strs _⟩
end
end Dw
/-! text W14 -/
set_option Elab.async false
set_option linter.all false
set_option maxRecDepth 100000
set_option maxHeartbeats 4000000
/-! a lambda whose code may lie in the table; data but tables -/
namespace Dw
open PySem PySem.Spec PyProof.Rows L2 Evl PySem.W DV RZ StX LmV LamX NdefX
/-- the table at P has the code of the lambda at pos -/
structure Rdy (P : Addr) (q : Str) (pos : Pos) (H : Hp) : Prop where
  t : Tabs [(P, q)] H
  c : ∃ ps cv, H P = some (.tbl ps) ∧ codeAmong pos ps.toList = some cv
theorem Rdy.ext {P : Addr} {q : Str} {pos : Pos} {H H' : Hp} (r : Rdy P q pos H) (e : Ex H H') : Rdy P q pos H' := by
  obtain ⟨ps, cv, h1, h2⟩ := r.c
  exact ⟨r.t.ext e, ps, cv, e _ _ h1, h2⟩
def tLamV2 (P : Addr) (q : Str) (pos : Pos) (mk : Addr → LF) : TE := fun σ H Q => (Rdy P q pos H ∧ ∀ f c', H f = none → H c' = some (CodeO c' q) → Q (.ref f) (upd H f (LamO f (mk c')))) ∨
  (Tabs [(P, q)] H ∧ ∀ (f c' : Addr) (H1 : Hp), ExtN H H1 → (∀ b, H1 b = none → H b = none) → Rdy P q pos H1 → H f = none → H1 f = some (LamO f (mk c')) → H1 c' = some (CodeO c' q) → Q (.ref f) H1)
section
variable {X : Cx} {pins : List (Addr × Obj)} {σ : L2.St} {H : Hp} {s : Shared}
theorem lam_make2 {c P : Addr} {params : Arguments} {body : Expr} {scope : Scope} {pos : Pos} {q : Str} {E : Value → Shared → Prop} {Q : VK} (I : Inv X pins σ H s) (TB : TabB X.base X.mg c P) (hcode : X.env.code = .ref c) (hq : X.env.qual ++ "<lambda>" = q)
    (hdef : defaultsOf params X.env = ([], [])) (hfree : ∀ y ∈ scope.names, y.2 ≠ .free)
    (h : tLamV2 P q pos (fun c' => ⟨q, params, body, scope, [], c'⟩) σ H Q) :
    wpAny (model X.prog X.w) X.A (eval (.Lambda params body scope pos) X.env) (EP X pins σ Q) E s := by
  subst hq
  have eC : cloFrom X.env.cells scope.names [] = [] := by
    cases hcl : cloFrom X.env.cells scope.names [] with
    | nil => rfl
    | cons p r =>
      obtain ⟨y, c⟩ := p
      have hmem : (y, c) ∈ cloFrom X.env.cells scope.names [] := by rw [hcl]; exact List.mem_cons_self
      rcases cloFrom_mem hmem with z | ⟨z, _⟩
      · cases z
      · exact absurd rfl (hfree _ z)
  have hT : Tabs [(P, X.env.qual ++ "<lambda>")] H := h.elim (fun z => z.1.t) fun z => z.1
  obtain ⟨ps, hP, ht, ha⟩ := hT _ List.mem_cons_self
  have hclo : ∀ y ∈ scope.names, y.2 = .free → ∃ c, X.env.cells.lookup y.1 = some c := fun y hy z => absurd z (hfree y hy)
  refine PySem.W.kla_eval hdef ?_
  have bP : s.heap.BuiltinsAt X.mg P := TB.bm.keeps I.bk
  have hP' : s.heap.get? P = some { cls := .none, data := .fields ps } := I.hok P _ hP
  cases hc : codeAmong pos ps.toList with
  | none =>
    have h2 := h.resolve_left fun z => by
      obtain ⟨ps', cv, g1, g2⟩ := z.1.c
      rw [hP] at g1
      cases g1
      rw [hc] at g2
      cases g2
    replace h2 := h2.2
    refine PySem.W.kla_makeFunction (mg := X.mg) (c := c) (P := P) (ps := ps) (closure_ok hclo) I.ok.glob (I.mod.glob.keeps I.bk) hcode (TB.code.keeps I.bk) hP' ht hc TB.gP bP fun c' ctv h' tk hx hge hlt hrec htb => ?_
    obtain ⟨c2, oc, vs, t, e2, hoc, hd, hv⟩ := hrec
    cases e2
    have nC : H c' = none := I.hok.fresh hge
    have I1 := inv_table (t' := tk) (more := #[rawInt pos.line, rawInt pos.col, .ref c']) (h' := h') I hP (fun b o hb e => hx b o hb e) htb hge ⟨oc, vs, t, hoc, hd, hv⟩
    have hE : ExtN H (upd (upd H P (.tbl (ps ++ #[rawInt pos.line, rawInt pos.col, .ref c']))) c' (CodeO c' (X.env.qual ++ "<lambda>"))) := fun b o e n => by
      rw [upd_ne (ne_of_none e nC), upd_ne (fun z => n ps (Option.some.inj (e.symm.trans (by rw [z]; exact hP))))]
      exact e
    have eL : (ps ++ #[rawInt pos.line, rawInt pos.col, .ref c']).toList = ps.toList ++ [rawInt pos.line, rawInt pos.col, .ref c'] := by simp
    have T1 : Rdy P (X.env.qual ++ "<lambda>") pos (upd (upd H P (.tbl (ps ++ #[rawInt pos.line, rawInt pos.col, .ref c']))) c' (CodeO c' (X.env.qual ++ "<lambda>"))) := by
      refine ⟨fun p hp => ?_, _, .ref c', by rw [upd_ne (ne_of_none hP nC), upd_same], by rw [eL]; exact codeAmong_snoc _ ht hc⟩
      rw [List.mem_singleton.mp hp]
      refine ⟨_, by rw [upd_ne (ne_of_none hP nC), upd_same], by rw [eL]; exact PySem.TriplesOk_snoc _ _ _ _ ht, fun p' cv hcv => ?_⟩
      rw [eL] at hcv
      rcases among_app _ ht hcv with z | z
      · obtain ⟨c0, e1, e2⟩ := ha p' cv z
        exact ⟨c0, e1, hE _ _ e2 codeO_ne⟩
      · exact ⟨c', z, upd_same⟩
    have nF := I1.hok.fresh (Nat.le_refl _)
    have I2 := inv_lam (F := ⟨X.env.qual ++ "<lambda>", params, body, scope, cloFrom X.env.cells scope.names [], c'⟩) (t' := tk) (pm := (X.mg "__name__").getD .none) (ctv := ctv) I1
    rw [eC] at I2
    rw [eC]
    exact ⟨.ref h'.objs.size, _, I2, rfl, h2 h'.objs.size c' _ (fun b o e n => by
      have e1 := hE b o e n
      exact (upd_ne (ne_of_none e1 nF)).trans e1) (fun b e => upd_none (upd_none (upd_none e))) (T1.ext fun b o e => (upd_ne (ne_of_none e nF)).trans e) (I.hok.fresh (Nat.le_trans hge (Nat.le_of_lt hlt))) upd_same ((upd_ne (Nat.ne_of_lt hlt)).trans upd_same)⟩
  | some cv =>
    obtain ⟨c', e, hco⟩ := ha pos cv hc
    subst e
    refine PySem.W.kla_makeFunctionHit (mg := X.mg) (c := c) (P := P) (ps := ps) (closure_ok hclo) I.ok.glob (I.mod.glob.keeps I.bk) hcode (TB.code.keeps I.bk) hP' ht hc bP fun ctv h' tk hx hsz => ?_
    have I1 : Inv X pins σ H { s with heap := h', toks := tk } := I.kept hx
    have nF : H h'.objs.size = none := I1.hok.fresh (Nat.le_refl _)
    have I2 := inv_lam (F := ⟨X.env.qual ++ "<lambda>", params, body, scope, cloFrom X.env.cells scope.names [], c'⟩) (t' := tk) (pm := (X.mg "__name__").getD .none) (ctv := ctv) I1
    rw [eC] at I2
    rw [eC]
    have R : Rdy P (X.env.qual ++ "<lambda>") pos H := ⟨hT, ps, _, hP, hc⟩
    rcases h with ⟨_, h⟩ | ⟨_, h⟩
    · exact ⟨.ref h'.objs.size, _, I2, rfl, h _ c' nF hco⟩
    · exact ⟨.ref h'.objs.size, _, I2, rfl, h h'.objs.size c' _ (fun b o e n => (upd_ne (ne_of_none e nF)).trans e) (fun b e => upd_none e) (R.ext (Ex.new nF)) nF upd_same ((upd_ne (ne_of_none hco nF)).trans hco)⟩
theorem pe_lamV2 {c P : Addr} {params : Arguments} {body : Expr} {scope : Scope} {pos : Pos} {q : Str} (TB : TabB X.base X.mg c P) (hcode : X.env.code = .ref c) (hq : X.env.qual ++ "<lambda>" = q)
    (hdef : defaultsOf params X.env = ([], [])) (hfree : ∀ y ∈ scope.names, y.2 ≠ .free) : PE X (.Lambda params body scope pos) (tLamV2 P q pos fun c' => ⟨q, params, body, scope, [], c'⟩) :=
  ⟨fun pins s σ H Q I h => lam_make2 I TB hcode hq hdef hfree h⟩
end
/-! ### data stand where all but tables stays -/
class DVN (α : Type) [DecidableEq α] [Datum α] [DV α] : Prop where
  extN : ∀ {H H' : Hp} {v : V} {x : α}, ExtN H H' → rep H v x → rep H' v x
instance : DVN Str := ⟨fun _ h => h⟩
instance : DVN Int := ⟨fun _ h => h⟩
instance : DVN Bool := ⟨fun _ h => h⟩
section
variable {α β : Type} [DecidableEq α] [Datum α] [DV α] [DVN α] [DecidableEq β] [Datum β] [DV β] [DVN β]
theorem repsN {H H' : Hp} (e : ExtN H H') : ∀ {vs : List V} {xs : List α}, Reps H vs xs → Reps H' vs xs
  | _, _, .nil => .nil
  | _, _, .cons h r => .cons (DVN.extN e h) (repsN e r)
instance : DVN (List α) := ⟨fun e h => by
  obtain ⟨a, vs, h0, h1, h2⟩ := h
  exact ⟨a, vs, h0, e _ _ h1 (fun _ z => by cases z), repsN e h2⟩⟩
instance : DVN (Tup α) := ⟨fun e h => by
  obtain ⟨a, vs, h0, h1, h2⟩ := h
  exact ⟨a, vs, h0, e _ _ h1 (fun _ z => by cases z), repsN e h2⟩⟩
instance : DVN (α × β) := ⟨fun e h => by
  obtain ⟨a, u, w, h0, h1, h2, h3⟩ := h
  exact ⟨a, u, w, h0, e _ _ h1 (fun _ z => by cases z), DVN.extN e h2, DVN.extN e h3⟩⟩
end
/-- what is no table -/
def nt (A : Hp) : Hp := fun b => match A b with
  | some (.tbl _) => none
  | o => o
theorem nt_of {A : Hp} {b : Addr} {o : HO} (h : nt A b = some o) : A b = some o ∧ ∀ ps, o ≠ .tbl ps := by
  unfold nt at h
  split at h
  · cases h
  · rename_i n
    refine ⟨h, fun ps z => ?_⟩
    rw [z] at h
    exact n ps h
theorem nt_mk {A : Hp} {b : Addr} {o : HO} (h : A b = some o) (n : ∀ ps, o ≠ .tbl ps) : nt A b = some o := by
  unfold nt
  split
  · rename_i q
    rw [h] at q
    exact absurd (Option.some.inj q) (n _)
  · exact h
theorem nt_ext (A : Hp) : ExtN A (nt A) := fun b o h n => nt_mk h n
theorem nt_ex {A H H' : Hp} (e : Ex A H) (e2 : ExtN H H') : Ex (nt A) H' := fun b o h => e2 _ _ (e _ _ (nt_of h).1) (nt_of h).2
/-- the end of a def that tells x: but for the tables all stays; the code lies in the table from here on -/
def EndY {γ : Type} [DecidableEq γ] [Datum γ] [DV γ] (P : Addr) (q : Str) (pos : Pos) (A H : Hp) (x : γ) (Q : VK) : Prop := ∀ u H' Hs, ExtN H H' → (∀ b, H' b = none → H b = none) → Rdy P q pos H' → Sup A H H' Hs → rep Hs u x → Q u H'
end Dw
/-! text W15 -/
set_option Elab.async false
set_option linter.all false
set_option maxRecDepth 100000
set_option maxHeartbeats 2000000
/-! append, the least by turns -/
namespace Dw
open PySem PySem.Spec PyProof.Rows L2 Evl PySem.W DV RZ StX LmV LamX NdefX
section
variable {α : Type} [DecidableEq α] [Datum α] [DV α] {K : PySem.W.Frag} {σ : L2.St} {H A : Hp} {te : TE} {D : Ends}
theorem b_app {i : Nat} {l : Addr} {xs : List V} {x : α} (hσ : σ[i]? = some (some (.ref l))) (hl : H l = some (.lst xs)) (hz : xs.length < 100000) (eA : Ex A H) (h : EvD te σ A x)
    (k : ∀ v H1 Hs, Ex H H1 → Sup A H H1 Hs → rep Hs v x → D.nx σ (upd H1 l (.lst (xs ++ [v])))) : tDrop (tBM K "list" rAppend (tVar i) (tCons te tNil)) D σ H :=
  ⟨.ref l, hσ, .inl ⟨rfl, _, sq_of hl⟩, h H eA _ fun v H1 Hs e s r => ⟨l, xs, v, rfl, rfl, e _ _ hl, sz_lt hz, k v H1 Hs e s r⟩⟩
end
end Dw
namespace Lot
variable {α : Type} [DecidableEq α]
theorem greedy_snoc : ∀ (xs found : List (List α)) (l : List α), greedy found (xs ++ [l]) = if hasIn (greedy found xs) l = true then greedy found xs else greedy found xs ++ [l]
  | [], found, l => by
    show (if hasIn found l = true then greedy found [] else greedy (found ++ [l]) []) = _
    rfl
  | x :: xs, found, l => by
    show (if hasIn found x = true then greedy found (xs ++ [l]) else greedy (found ++ [x]) (xs ++ [l])) = _
    rw [greedy_snoc xs found l, greedy_snoc xs (found ++ [x]) l]
    show _ = (if hasIn (if hasIn found x = true then greedy found xs else greedy (found ++ [x]) xs) l = true then (if hasIn found x = true then greedy found xs else greedy (found ++ [x]) xs) else (if hasIn found x = true then greedy found xs else greedy (found ++ [x]) xs) ++ [l])
    by_cases h : hasIn found x = true
    · rw [if_pos h, if_pos h]
    · rw [if_neg h, if_neg h]
theorem greedy_len : ∀ (xs found : List (List α)), (greedy found xs).length ≤ found.length + xs.length
  | [], found => Nat.le_add_right _ _
  | x :: xs, found => by
    show (if hasIn found x = true then greedy found xs else greedy (found ++ [x]) xs).length ≤ _
    have h1 := greedy_len xs found
    have h2 := greedy_len xs (found ++ [x])
    rw [List.length_append] at h2
    simp at h2 ⊢
    split <;> omega
theorem greedy_mem : ∀ (xs found : List (List α)) {x : List α}, x ∈ greedy found xs → x ∈ found ∨ x ∈ xs
  | [], found, x, h => .inl h
  | y :: xs, found, x, h => by
    have h' : x ∈ (if hasIn found y = true then greedy found xs else greedy (found ++ [y]) xs) := h
    split at h'
    · exact (greedy_mem xs found h').imp id (List.mem_cons_of_mem _)
    · rcases greedy_mem xs (found ++ [y]) h' with z | z
      · rcases List.mem_append.mp z with z | z
        · exact .inl z
        · rw [List.mem_singleton.mp z]
          exact .inr List.mem_cons_self
      · exact .inr (List.mem_cons_of_mem _ z)
end Lot
/-! text D13 -/
set_option Elab.async false
set_option linter.all false
set_option maxRecDepth 100000
set_option maxHeartbeats 4000000
/-! least_of -/
namespace K07
open PySem PySem.Spec PyProof.Rows L2 Evl PySem.W Dw Dw.DV RZ StX Lot LmV LamX NdefX
theorem okC {P : Program} {w : World} {K : PySem.W.Frag} {mg : Str → Option Value} {base : Heap} {f : Addr} {fd : FuncData} {CX : CXT} {N ps : List Str} {k : Nat} {sp : Sp} {x qual : Str} {params : Arguments} {body : List Stmt} {scope : Scope} {dvs : List V} {kws : List (Str × V)} (F : FunD K x qual params body scope dvs kws f fd) (S : FnScope N ps scope) (len : ∀ vs H Q E, sp vs H Q E → vs.length = ps.length)
    (hbody : ∀ (c : Addr) (A : Around) (outer : List Env) (s : Shared) (H : Hp) (vs : List V) (Q : VK) (E : XK), fd.code = .ref c → Room k (A.deeper (envOfC qual scope s.heap.objs.size f (.ref c))) → sp vs H Q E →
      ∃ t, PSs (cxOf CX P w K mg base N qual scope f (.ref c) A outer s H E) body t ∧ t { nx := fun _ H' => Q .non H', rt := Q } (start N vs) H) : FnOk P w K mg base CX (k + 1) f fd ps sp := by
  obtain ⟨oc, od, dV, kV, doc, pm, an, cdv, ct, osl, rfl, lk, hcd, _, _⟩ := F.ex
  obtain ⟨c, rfl⟩ := He.codeIn_ref hcd
  exact fn_of lk hcd S len fun A outer s H vs Q E hr hsp => hbody c A outer s H vs Q E rfl hr hsp
def leastOf (xs : List (List Str)) : List (List Str) := srt (greedy [] (srtK xs))
abbrev lmPos : Pos := ⟨66, 32, 66, 59⟩
abbrev lmQ : Str := "least_of.<locals>.<lambda>"
/-- the end of a def that comes to the lambda: its code lies in the table already, or is laid into it -/
def EndW {γ : Type} [DecidableEq γ] [Datum γ] [DV γ] (Pt : Addr) (A H : Hp) (x : γ) (Q : VK) : Prop := (Rdy Pt lmQ lmPos A ∧ EndD A H x Q) ∨ (Tabs [(Pt, lmQ)] H ∧ EndY Pt lmQ lmPos A H x Q)
def spLeast (Pt : Addr) : Sp := fun vs H Q _ => ∃ v xs A, vs = [v] ∧ Ex A H ∧ rep A v xs ∧ (xs.length ≤ 1000 ∧ ∀ l ∈ xs, l.length ≤ 100) ∧ EndW Pt A H (leastOf xs) Q
theorem rdy_but {Pt : Addr} {q : Str} {pos : Pos} {H H' : Hp} {D : Addr} {xs : List V} (r : Rdy Pt q pos H) (hD : H D = some (.lst xs)) (k : ∀ b o, b ≠ D → H b = some o → H' b = some o) : Rdy Pt q pos H' := by
  obtain ⟨t, ps, cv, h1, h2⟩ := r
  have nP : ∀ {ps : Array Value}, H Pt = some (.tbl ps) → Pt ≠ D := fun h z => by
    rw [z, hD] at h
    cases h
  refine ⟨fun p hp => ?_, ps, cv, k _ _ (nP h1) h1, h2⟩
  rw [List.mem_singleton.mp hp]
  obtain ⟨ps', g1, g2, g3⟩ := t _ List.mem_cons_self
  refine ⟨ps', k _ _ (nP g1) g1, g2, fun pos' cv' hc => ?_⟩
  obtain ⟨c0, e1, e2⟩ := g3 pos' cv' hc
  refine ⟨c0, e1, k _ _ (fun z => ?_) e2⟩
  rw [z, hD] at e2
  unfold CodeO at e2
  cases e2
abbrev tbLeast (K : PySem.W.Frag) : TS := tIfS (tNot (tB (tCB (rAny K) (tCons (tLc (iList K (tVar 1)) (gName 3) tYes (tCall spHolds [] E0 (tCons (tVar 2) (tCons (tVar 3) tNil))) [3]) tNil)))) (tDrop (tBM K "list" rAppend (tVar 1) (tCons (tVar 2) tNil))) tNext
theorem srtK_len (xs : List (List Str)) : (srtK xs).length = xs.length := List.length_mergeSort xs
theorem srtK_mem {xs : List (List Str)} {x : List Str} : x ∈ srtK xs ↔ x ∈ xs := List.mem_mergeSort
theorem least_loop {K : PySem.W.Frag} {v : V} {p D : Addr} {H3 A1 : Hp} {ws : List V} {xs : List (List Str)} {Dz : Ends} (hD : H3 D = some (.lst [])) (eA : Ex A1 H3) (nD : A1 D = none) (hp : A1 p = some (.lst ws)) (hw : Reps A1 ws (srtK xs)) (hl : xs.length ≤ 1000) (hl2 : ∀ l ∈ xs, l.length ≤ 100)
    (fin : ∀ u H' Hs, (∀ b o, b ≠ D → H3 b = some o → H' b = some o) → H' D ≠ none → Ex Hs H' → (∀ b o, Hs b = some o → A1 b = some o ∨ b = D ∨ H3 b = none) → rep Hs u (leastOf xs) → Dz.rt u H') :
    tFor (fun _ _ R => R (Itl K p) H3) (gName 2) (tbLeast K) { Dz with nx := tRet (tCB (rSortedW (List Str)) (tCons (tVar 1) tNil)) Dz } [some v, some (.ref D), none, none] H3 := by
  have lw := Reps.len hw
  rw [srtK_len] at lw
  refine for_list (xs := ws) (fun i σ H' => ∃ y, σ = [some v, some (.ref D), y, none] ∧ Ex A1 H' ∧ (∀ b o, b ≠ D → H3 b = some o → H' b = some o) ∧ ∃ fs, H' D = some (.lst fs) ∧ Reps A1 fs (greedy [] ((srtK xs).take i)))
    ⟨none, rfl, eA, fun _ _ _ z => z, [], hD, .nil⟩ (fun i σ H' _ h => ?_) (fun i x σ H' hx h => ?_) (fun σ H' h => ?_)
  · obtain ⟨y, rfl, h1, _⟩ := h
    exact sq_of (h1 _ _ hp)
  · obtain ⟨y, rfl, h1, h2, fs, h3, h4⟩ := h
    obtain ⟨li, _⟩ := List.getElem?_eq_some_iff.mp hx
    obtain ⟨lot, hk⟩ : ∃ lot, (srtK xs)[i]? = some lot := ⟨_, List.getElem?_eq_getElem (show i < (srtK xs).length by rw [srtK_len]; omega)⟩
    have rx := Reps.at hw hx hk
    have ml : lot ∈ xs := srtK_mem.mp (List.mem_of_getElem? hk)
    have lf := greedy_len ((srtK xs).take i) []
    have lt : ((srtK xs).take i).length ≤ 1000 := by
      rw [List.length_take, srtK_len]
      omega
    simp only [List.length_nil, Nat.zero_add] at lf
    have mf : ∀ o ∈ greedy [] ((srtK xs).take i), o.length ≤ 100 := fun o ho => by
      rcases greedy_mem _ _ ho with z | z
      · cases z
      · exact hl2 o (srtK_mem.mp (List.mem_of_mem_take z))
    have eB : Ex A1 (upd A1 D (.lst fs)) := Ex.new nD
    have rf : rep (upd A1 D (.lst fs)) (.ref D) (greedy [] ((srtK xs).take i)) := ⟨D, fs, rfl, upd_same, Reps.ext eB h4⟩
    have lc := ed_lc (K := K) (σ := [some v, some (.ref D), some x, none]) (H := upd A1 D (.lst fs)) (tl := tVar 1) (tt := tYes) (te := tCall spHolds [] E0 (tCons (tVar 2) (tCons (tVar 3) tNil))) (j := 3) (vs := [3]) (fun _ : List Str => true) (fun o : List Str => holdsP lot o) (ed_var (v := .ref D) rfl rf) (by omega) (fun _ => rfl) (fun _ _ H1 _ _ _ => et_yes)
      fun o z H5 e5 mo ro _ => ed_call2 (ed_var (i := 2) (v := x) rfl (DV.ext (eB.trans e5) rx)) (ed_var (i := 3) (v := z) rfl ro) (by have := mf o mo; omega)
    have an := ev_anyD (K := K) lc
    rw [List.filter_eq_self.mpr (fun _ _ => rfl), List.any_map, show (greedy [] ((srtK xs).take i)).any (id ∘ fun o => holdsP lot o) = hasIn (greedy [] ((srtK xs).take i)) lot from rfl] at an
    have step : greedy [] ((srtK xs).take (i + 1)) = if hasIn (greedy [] ((srtK xs).take i)) lot = true then greedy [] ((srtK xs).take i) else greedy [] ((srtK xs).take i) ++ [lot] := by
      rw [List.take_add_one, hk]
      exact greedy_snoc _ _ _
    have eB2 : Ex (upd A1 D (.lst fs)) H' := fun b o z => by
      by_cases q : b = D
      · rw [q, upd_same] at z
        rw [q, h3]
        exact z
      · rw [upd_ne q] at z
        exact h1 _ _ z
    refine (et_not (et_B an) H' eB2 _ fun H4 e4 => ?_ : tbLeast K _ [some v, some (.ref D), some x, none] H')
    · cases hh : hasIn (greedy [] ((srtK xs).take i)) lot with
      | true =>
        rw [hh, if_pos rfl] at step
        exact ⟨some x, rfl, h1.trans e4, fun b o q z => e4 _ _ (h2 b o q z), fs, e4 _ _ h3, by rw [step]; exact h4⟩
      | false =>
        rw [hh, if_neg Bool.false_ne_true] at step
        refine ⟨.ref D, rfl, .inl ⟨rfl, _, sq_of (e4 _ _ h3)⟩, x, rfl, D, fs, x, rfl, rfl, e4 _ _ h3, by rw [Reps.len h4]; exact sz_lt (by omega), some x, rfl, (h1.trans e4).mut nD, fun b o q z => by rw [upd_ne q]; exact e4 _ _ (h2 b o q z), _, upd_same, ?_⟩
        rw [step]
        exact Reps.app h4 (.cons rx .nil)
  · obtain ⟨y, rfl, h1, h2, fs, h3, h4⟩ := h
    rw [List.take_of_length_le (by rw [srtK_len]; omega)] at h4
    have eB : Ex A1 (upd A1 D (.lst fs)) := Ex.new nD
    refine ⟨.ref D, rfl, D, greedy [] (srtK xs), upd A1 D (.lst fs), rfl, fun b o z => ?_, ⟨D, fs, rfl, upd_same, Reps.ext eB h4⟩, fun p2 ws2 np hr => ?_⟩
    · by_cases q : b = D
      · rw [q, upd_same] at z
        rw [q, h3]
        exact z
      · rw [upd_ne q] at z
        exact h1 _ _ z
    · have pD : p2 ≠ D := fun z => by
        rw [z, h3] at np
        cases np
      have A1p : A1 p2 = none := exf h1 np
      have Bp : (upd A1 D (.lst fs)) p2 = none := by
        rw [upd_ne pD]
        exact A1p
      have H3p : H3 p2 = none := by
        cases m : H3 p2 with
        | none => rfl
        | some o =>
          rw [h2 _ _ pD m] at np
          cases np
      refine fin _ _ (upd (upd A1 D (.lst fs)) p2 (.lst ws2)) (fun b o q z => ?_) ?_ (fun b o z => ?_) (fun b o z => ?_) ⟨p2, ws2, rfl, upd_same, Reps.ext (Ex.new Bp) hr⟩
      · rw [upd_ne (fun y => by rw [y, H3p] at z; cases z)]
        exact h2 b o q z
      · rw [upd_ne pD.symm, h3]
        exact fun z => by cases z
      · by_cases y : b = p2
        · rw [y, upd_same] at z ⊢
          exact z
        · rw [upd_ne y] at z ⊢
          by_cases q : b = D
          · rw [q, upd_same] at z
            rw [q, h3]
            exact z
          · rw [upd_ne q] at z
            exact h1 _ _ z
      · by_cases y : b = p2
        · rw [y]
          exact .inr (.inr H3p)
        · rw [upd_ne y] at z
          by_cases q : b = D
          · exact .inr (.inl q)
          · rw [upd_ne q] at z
            exact .inl z
section
variable {P : Program} {w : World} {K : PySem.W.Frag} {mg : Str → Option Value} {base : Heap} {f : Addr} {fd : FuncData} {fL fN f1 fK fS fO fH fF fT : Addr} {dL dN d1 dK dS dO dH dF dT : FuncData}
abbrev NLeast : List Str := ["lots", "found", "lot", "other"]
theorem scLeast : FnScope NLeast ["lots"] (defScope (top 21)) := ⟨rfl, rfl, rfl, by decide +kernel, rfl, by decide +kernel, by decide +kernel⟩
theorem uK {k : Nat} {A : Around} (hr : Room k A) : A.units + 2 + Datum.depth (List Str) < cLine := by
  have h := hr.un
  show A.units + 2 + 1 < cLine
  omega
theorem ok_least {Pt : Addr} (F : FnP K "least_of" (top 21) f fd) (B : Bn mg) (HO : Df K mg "holds" 16 fH dH) (hT : ∀ c, fd.code = .ref c → TabB base mg c Pt) : FnOk P w K mg base CX0 2 f fd ["lots"] (spLeast Pt) := by
  have GH : FnOk P w K mg base CX0 1 fH dH ["lot", "other"] spHolds := ok_holds HO.F B.all
  have bH : Binds K dH ["lot", "other"] [] := HO.F.bindsN fun _ _ _ _ _ _ us hl => match us, hl with | [_, _], _ => rfl
  refine okC F scLeast (fun vs H Q E h => ?_) (fun c A0 outer s H vs Q E hc hr h => ?_)
  · obtain ⟨v, _, _, rfl, _⟩ := h
    rfl
  · obtain ⟨v, xs, A, rfl, eA, hv, ⟨hl, hl2⟩, q⟩ := h
    refine ⟨_, PSs.nox (pss_cons (ps_set (i := 1) scLeast.nd rfl (.inl rfl) (pe_lst pa_nil))
      (pss_cons (ps_for PassesOwn.never rfl (pi_list (pe_callBK (cr_sortedKeyW hr B.len) (by rfl) B.sorted (by decide +kernel) (pa_cons (pv 0) pa_nil) (pk_cons (pe_lamV2 (P := Pt) (q := lmQ) (hT c hc) rfl rfl rfl (by decide +kernel)) pk_nil))) (pg_name (i := 2) scLeast.nd rfl (.inr rfl))
        (pss_one (ps_if (pt_not (pt_val (pe_callB (cr_any rfl) (by rfl) B.any (by decide +kernel) (pa_cons (pe_lc (own := [("other", 3)]) (g := gName 3) (tt := tYes) (te := tCall spHolds [] E0 (tCons (tVar 2) (tCons (tVar 3) tNil))) rfl scLeast.nd (pi_list (pv 1)) (blkOk_by (N := NLeast) (sc := defScope (top 21)) (by decide +kernel))
            (fun _ _ _ _ _ => pg_name (i := 3) scLeast.nd rfl (.inl rfl)) (fun _ _ _ _ _ => pts_nil) (fun _ _ _ _ _ => pe_call GH hr (by rfl) HO.g HO.F.kp bH .nil pass0 (pa_cons (pv 2) (pa_cons (pv 3) pa_nil)))) pa_nil))))
          (pss_one (ps_expr (pe_bm PySem.F.plainAttrs_list PySem.F.slot_list_append PySem.F.type_list_append mt_append (pv 1) (pa_cons (pv 2) pa_nil)))) pss_nil)))
      (pss_one (ps_ret (pe_callB (cr_sortedW (α := List Str) (fun _ _ z => by cases z) (uK hr)) (by rfl) B.sorted (by decide +kernel) (pa_cons (pv 1) pa_nil)))))), ?_⟩
    refine ⟨by show 0 ≤ sizeLine; decide, fun D nD => ?_⟩
    obtain ⟨la, ln, el, h1, h2⟩ := hv
    subst el
    have e2 : Ex H (upd H D (.lst [])) := Ex.new nD
    refine ⟨.ref la, rfl, ?_⟩
    have AD : A D = none := exf eA nD
    rcases q with ⟨R, q⟩ | ⟨T, q⟩
    · refine .inl ⟨(R.ext eA).ext e2, fun fl c' nf hc' => ?_⟩
      have e3 : ∀ F, Ex H (upd (upd H D (.lst [])) fl (LamO fl F)) := fun F => e2.trans (Ex.new nf)
      refine ⟨la, fl, _, xs, A, rfl, rfl, ⟨rfl, rfl, ⟨_, rfl⟩, _, _, _, _, _, _, rfl⟩, upd_same, by rw [upd_ne (ne_of_none hc' nf)]; exact hc', eA.trans (e3 _), ⟨la, ln, rfl, h1, h2⟩, fun p ws np hr => ?_⟩
      have e4 := (e3 _).trans (Ex.new (o := .lst ws) np)
      have pH : H p = none := exf (e3 _) np
      have Ap : A p = none := exf eA pH
      have Dp : D ≠ p := fun z => by
        rw [← z] at np
        rw [upd_ne (ne_of_none (upd_same (H := H) (a := D) (o := .lst [])) nf), upd_same] at np
        cases np
      refine ⟨p, rfl, ⟨ws, sq_of upd_same⟩, ?_⟩
      refine least_loop (A1 := upd A p (.lst ws)) (ws := ws) (xs := xs) ?_ (fun b o z => ?_) ?_ upd_same (Reps.ext (Ex.new Ap) hr) hl hl2 fun u H' Hs k1 k2 k3 k4 k5 => ?_
      · rw [upd_ne Dp, upd_ne (ne_of_none (upd_same (H := H) (a := D) (o := .lst [])) nf), upd_same]
      · by_cases y : b = p
        · rw [y, upd_same] at z ⊢
          exact z
        · rw [upd_ne y] at z
          exact e4 _ _ (eA _ _ z)
      · rw [upd_ne Dp]
        exact AD
      · refine q u H' Hs (fun b o z => k1 b o (ne_of_none z nD) (e4 _ _ z)) ⟨k3, fun b o z => ?_⟩ k5
        rcases k4 b o z with y | y | y
        · by_cases w : b = p
          · rw [w]
            exact .inr pH
          · rw [upd_ne w] at y
            exact .inl y
        · rw [y]
          exact .inr nD
        · exact .inr (exf e4 y)
    · refine .inr ⟨T.ext e2, fun fl c' H2 eN nn R nf hf hc' => ?_⟩
      have e3 : ExtN H H2 := (ExtN.of e2).trans eN
      have A2 : Ex (nt A) H2 := nt_ex eA e3
      have D2 : H2 D = some (.lst []) := eN _ _ upd_same (fun _ z => by cases z)
      refine ⟨la, fl, _, xs, nt A, rfl, rfl, ⟨rfl, rfl, ⟨_, rfl⟩, _, _, _, _, _, _, rfl⟩, hf, hc', A2, DVN.extN (nt_ext A) ⟨la, ln, rfl, h1, h2⟩, fun p ws np hr => ?_⟩
      have pH2 : (upd H D (.lst [])) p = none := nn p np
      have Dp : D ≠ p := fun z => by
        rw [← z, D2] at np
        cases np
      have pH : H p = none := by
        rw [upd_ne Dp.symm] at pH2
        exact pH2
      have Ap : (nt A) p = none := exf A2 np
      refine ⟨p, rfl, ⟨ws, sq_of upd_same⟩, ?_⟩
      refine least_loop (A1 := upd (nt A) p (.lst ws)) (ws := ws) (xs := xs) ?_ (fun b o z => ?_) ?_ upd_same (Reps.ext (Ex.new Ap) hr) hl hl2 fun u H' Hs k1 k2 k3 k4 k5 => ?_
      · rw [upd_ne Dp]
        exact D2
      · by_cases y : b = p
        · rw [y, upd_same] at z ⊢
          exact z
        · rw [upd_ne y] at z ⊢
          exact A2 _ _ z
      · rw [upd_ne Dp]
        cases z : nt A D with
        | none => rfl
        | some o =>
          rw [(nt_of z).1] at AD
          cases AD
      · have up : ∀ b o, b ≠ D → H2 b = some o → H' b = some o := fun b o n z => k1 b o n (by rw [upd_ne (fun y => by rw [y, np] at z; cases z)]; exact z)
        refine q u H' Hs (fun b o z n => up b o (ne_of_none z nD) (e3 _ _ z n)) (fun b z => ?_) (rdy_but R D2 up) ⟨k3, fun b o z => ?_⟩ k5
        · have bD : b ≠ D := fun y => k2 (by rw [← y]; exact z)
          have z2 : H2 b = none := by
            cases m : H2 b with
            | none => rfl
            | some o =>
              rw [up b o bD m] at z
              cases z
          have z3 := nn b z2
          rw [upd_ne bD] at z3
          exact z3
        · rcases k4 b o z with y | y | y
          · by_cases w : b = p
            · rw [w]
              exact .inr pH
            · rw [upd_ne w] at y
              exact .inl (nt_of y).1
          · rw [y]
            exact .inr nD
          · by_cases w : b = D
            · rw [w]
              exact .inr nD
            · by_cases w2 : b = p
              · rw [w2]
                exact .inr pH
              · rw [upd_ne w2] at y
                have z3 := nn b y
                rw [upd_ne w] at z3
                exact .inr z3
end
end K07
/-! text W16 -/
set_option Elab.async false
set_option linter.all false
set_option maxRecDepth 100000
set_option maxHeartbeats 2000000
/-! typed: two loops in a comprehension; calls of defs that come to the lambda -/
namespace Dw
open PySem PySem.Spec PyProof.Rows L2 Evl PySem.W DV RZ StX LmV LamX NdefX
section
variable {α β γ : Type} [DecidableEq α] [Datum α] [DV α] [DecidableEq β] [Datum β] [DV β] [DecidableEq γ] [Datum γ] [DV γ] {K : PySem.W.Frag} {σ : L2.St} {H H' A A0 H0 H1 : Hp} {te ta tb : TE} {tt : TT} {D : Ends}
/-- the new list at D holds r so far -/
structure IV (A H0 H1 : Hp) (D : Addr) (r : List β) (H' : Hp) : Prop where
  e : Ex H1 H'
  l : ∃ ws Hw, H' D = some (.lst ws) ∧ Ex Hw H' ∧ (∀ b u, Hw b = some u → b ≠ D ∧ (A b = some u ∨ H0 b = none)) ∧ Reps Hw ws r
theorem iv_start {D : Addr} (nD : H1 D = none) : IV A H0 H1 D ([] : List β) (upd H1 D (.lst [])) := ⟨Ex.new nD, [], fun _ => none, upd_same, fun _ _ z => (by cases z), fun _ _ z => (by cases z), .nil⟩
theorem iv_mono {D : Addr} {r : List β} (h : IV A H0 H1 D r H) (e : Ex H H') : IV A H0 H1 D r H' := by
  obtain ⟨h1, ws, Hw, p3, p4, p5, p6⟩ := h
  exact ⟨h1.trans e, ws, Hw, e _ _ p3, p4.trans e, p5, p6⟩
theorem iv_step {D : Addr} {r : List β} {y : β} {B : Hp} (h : IV A H0 H1 D r H) (e0 : Ex H0 H1) (nD : H1 D = none) (hl : r.length < 40000) (eB : Ex B H) (BD : B D = none) (oB : ∀ b u, B b = some u → A b = some u ∨ H0 b = none) (ed : EvD te σ B y) {N : Hp → Prop} (k : ∀ H2, IV A H0 H1 D (r ++ [y]) H2 → (∀ b o, b ≠ D → H b = some o → H2 b = some o) → N H2) :
    te σ H fun z H5 => ∃ acc, H5 D = some (.lst acc) ∧ acc.length < sizeLine ∧ N (upd H5 D (.lst (acc ++ [z]))) := by
  obtain ⟨p2, ws, Hw, p3, p4, p5, p6⟩ := h
  refine ed H eB _ fun z H5 Hy e5 sy r5 => ⟨ws, e5 _ _ p3, ?_, k _ ⟨(p2.trans e5).mut nD, ws ++ [z], jn Hw Hy, upd_same, ?_, ?_, ?_⟩ fun b o n z => (upd_ne n).trans (e5 _ _ z)⟩
  · rw [Reps.len p6]
    exact sz_lt (by omega)
  · intro c u z
    have nD : c ≠ D := by
      rcases jn_of z with y | y
      · exact (p5 c u y).1
      · intro q
        rw [q] at y
        rcases sy.o D u y with w | w
        · rw [BD] at w
          cases w
        · rw [p3] at w
          cases w
    rw [upd_ne nD]
    rcases jn_of z with y | y
    · exact e5 _ _ (p4 _ _ y)
    · exact sy.e _ _ y
  · intro c u z
    rcases jn_of z with y | y
    · exact p5 c u y
    · refine ⟨fun q => ?_, ?_⟩
      · rw [q] at y
        rcases sy.o D u y with w | w
        · rw [BD] at w
          cases w
        · rw [p3] at w
          cases w
      · rcases sy.o c u y with w | w
        · exact oB c u w
        · right
          cases m : H0 c with
          | none => rfl
          | some o =>
            rw [p2 _ _ (e0 _ _ m)] at w
            cases w
  · have q1 : Ex Hw H5 := p4.trans e5
    exact Reps.app (Reps.ext jn_l p6) (.cons (DV.ext (jn_r q1 sy.e) r5) .nil)
theorem iv_end {D : Addr} {r : List β} (h : IV A H0 H1 D r H) (e0 : Ex H0 H1) (nD : H1 D = none) {Q : VK} (q : ∀ v H2 Hs, Ex H0 H2 → Sup A H0 H2 Hs → rep Hs v r → Q v H2) : Q (.ref D) H := by
  obtain ⟨p2, ws, Hw, p3, p4, p5, p6⟩ := h
  have nw : Hw D = none := by
    cases z : Hw D with
    | none => rfl
    | some o => exact absurd rfl (p5 D o z).1
  refine q _ H (upd Hw D (.lst ws)) (e0.trans p2) ⟨fun b u z => ?_, fun b u z => ?_⟩ ⟨D, ws, rfl, upd_same, Reps.ext (Ex.new nw) p6⟩
  · by_cases y : b = D
    · rw [y, upd_same] at z
      rw [y, p3]
      exact z
    · rw [upd_ne y] at z
      exact p4 _ _ z
  · by_cases y : b = D
    · right
      rw [y]
      cases m : H0 D with
      | none => rfl
      | some o =>
        rw [e0 _ _ m] at nD
        cases nD
    · rw [upd_ne y] at z
      exact (p5 b u z).2
/-- [te for x in xs for y in ys] -/
theorem ed_lc2 {xs : List α} {tl tl1 : TE} {j j1 : Nat} {vs vs1 : List Nat} (ys : α → List β) (g : α → β → γ) (h : EvD tl σ A xs) (hz : ∀ x ∈ xs, (ys x).length ≤ 200) (hx : xs.length ≤ 150)
    (hw : ∀ x, wipe ((wipe σ vs).set j (some x)) vs = wipe σ vs) (hw1 : ∀ x y, wipe ((wipe ((wipe σ vs).set j (some x)) vs1).set j1 (some y)) vs1 = wipe ((wipe σ vs).set j (some x)) vs1)
    (h1 : ∀ (x : α) (v : V) H1, Ex A H1 → x ∈ xs → rep H1 v x → EvD tl1 ((wipe σ vs).set j (some v)) H1 (ys x))
    (he : ∀ (x : α) (y : β) (v u : V) H1, Ex A H1 → x ∈ xs → y ∈ ys x → rep H1 v x → rep H1 u y → EvD te ((wipe ((wipe σ vs).set j (some v)) vs1).set j1 (some u)) H1 (g x y)) :
    EvD (tLc2 (iList K tl) (gName j) tYes (iList K tl1) (gName j1) tYes te vs vs1) σ A (xs.flatMap fun x => (ys x).map (g x)) := fun H0 e0 Q q => h H0 e0 _ fun v H1 Hs e1 sp r => by
  obtain ⟨a, us, rfl, g1, g2⟩ := r
  have len := Reps.len g2
  have ha := sp.e _ _ g1
  have eB : Ex (jn A Hs) H1 := jn_ex (e0.trans e1) sp.e
  have oB : ∀ b u, jn A Hs b = some u → A b = some u ∨ H0 b = none := fun b u z => (jn_of z).elim .inl (sp.o b u)
  refine ⟨a, rfl, ⟨us, sq_of ha⟩, fun D nD => ?_⟩
  have BD : jn A Hs D = none := fresh_back eB nD
  have small : ∀ i, i ≤ xs.length → ((xs.take i).flatMap fun x => (ys x).map (g x)).length ≤ i * 200 := by
    intro i
    induction i with
    | zero => intro _; simp
    | succ i ih =>
      intro hi
      have e : xs.take (i + 1) = xs.take i ++ [xs[i]] := by
        rw [List.take_add_one, List.getElem?_eq_getElem (by omega)]
        rfl
      rw [e, List.flatMap_append, List.length_append]
      have i1 := ih (by omega)
      have i2 := hz xs[i] (List.getElem_mem _)
      have e2 : (List.flatMap (fun x => (ys x).map (g x)) [xs[i]]).length = (ys xs[i]).length := by simp
      rw [e2]
      omega
  refine ⟨fun i m H => m = us.length - i ∧ i ≤ us.length ∧ IV A H0 H1 D ((xs.take i).flatMap fun x => (ys x).map (g x)) H, ⟨us.length, by simp, Nat.zero_le _, iv_start nD⟩, ?_⟩
  rintro i m H ⟨rfl, hi, p⟩
  have hq : SqL K H a us := sq_of (p.e _ _ ha)
  by_cases hlt : i < us.length
  · refine .inr ⟨⟨us, us[i], hq, by simp [hlt]⟩, IV A H0 H1 D ((xs.take (i + 1)).flatMap fun x => (ys x).map (g x)), fun H' p' => ⟨us.length - (i + 1), by omega, rfl, hlt, p'⟩, fun x H' y => ?_⟩
    obtain ⟨e, y⟩ := y
    subst e
    have hxi := y us hq
    obtain ⟨x0, hxs⟩ : ∃ x0, xs[i]? = some x0 := ⟨_, List.getElem?_eq_getElem (show i < xs.length by omega)⟩
    have rx := Reps.at g2 hxi hxs
    have mx : x0 ∈ xs := List.mem_of_getElem? hxs
    have t1 : (xs.take (i + 1)).flatMap (fun x => (ys x).map (g x)) = (xs.take i).flatMap (fun x => (ys x).map (g x)) ++ (ys x0).map (g x0) := by
      rw [List.take_add_one, hxs, List.flatMap_append]
      simp
    rw [t1]
    have rB : rep (jn A Hs) x x0 := DV.ext (jn_r (e0.trans e1) sp.e) rx
    refine ⟨hw x, ?_⟩
    refine h1 x0 x (jn A Hs) jn_l mx rB H' (eB.trans p.e) _ fun v1 H4 Ht e4 s4 r4 => ?_
    obtain ⟨b, us1, rfl, k1, k2⟩ := r4
    have len1 := Reps.len k2
    have hb := s4.e _ _ k1
    have eB1 : Ex (jn (jn A Hs) Ht) H4 := jn_ex ((eB.trans p.e).trans e4) s4.e
    have D4 : Ht D = none := by
      cases z : Ht D with
      | none => rfl
      | some o =>
        rcases s4.o D o z with w | w
        · rw [BD] at w
          cases w
        · obtain ⟨_, ws, Hw, p3, _⟩ := p
          rw [p3] at w
          cases w
    have BD1 : jn (jn A Hs) Ht D = none := by
      cases z : jn (jn A Hs) Ht D with
      | none => rfl
      | some o => exact (jn_of z).elim (fun w => by rw [BD] at w; cases w) fun w => by rw [D4] at w; cases w
    have oB1 : ∀ b u, jn (jn A Hs) Ht b = some u → A b = some u ∨ H0 b = none := fun b u z => (jn_of z).elim (oB b u) fun w => (s4.o b u w).elim (oB b u) fun w => .inr (by
      cases m : H0 b with
      | none => rfl
      | some o =>
        rw [p.e _ _ (e1 _ _ m)] at w
        cases w)
    refine ⟨b, rfl, ⟨us1, sq_of hb⟩, fun j m H => m = us1.length - j ∧ j ≤ us1.length ∧ Ex (jn (jn A Hs) Ht) H ∧ IV A H0 H1 D ((xs.take i).flatMap (fun x => (ys x).map (g x)) ++ ((ys x0).take j).map (g x0)) H, ⟨us1.length, by simp, Nat.zero_le _, eB1, ?_⟩, ?_⟩
    · rw [List.take_zero, List.map_nil, List.append_nil]
      exact iv_mono p e4
    · rintro j m H ⟨rfl, hj, q1, q2⟩
      have hq1 : SqL K H b us1 := sq_of (q1 _ _ (jn_r ((eB.trans p.e).trans e4) s4.e _ _ k1))
      by_cases hlt1 : j < us1.length
      · refine .inr ⟨⟨us1, us1[j], hq1, by simp [hlt1]⟩, fun H => Ex (jn (jn A Hs) Ht) H ∧ IV A H0 H1 D ((xs.take i).flatMap (fun x => (ys x).map (g x)) ++ ((ys x0).take (j + 1)).map (g x0)) H, fun H' p' => ⟨us1.length - (j + 1), by omega, rfl, hlt1, p'⟩, fun y H' z => ?_⟩
        obtain ⟨e, z⟩ := z
        subst e
        have hyj := z us1 hq1
        obtain ⟨y0, hys⟩ : ∃ y0, (ys x0)[j]? = some y0 := ⟨_, List.getElem?_eq_getElem (show j < (ys x0).length by omega)⟩
        have ry := Reps.at k2 hyj hys
        have my : y0 ∈ ys x0 := List.mem_of_getElem? hys
        refine ⟨hw1 x y, ?_⟩
        have eA1 : Ex A (jn (jn A Hs) Ht) := jn_l.trans jn_l
        have ed := he x0 y0 x y (jn (jn A Hs) Ht) eA1 mx my (DV.ext jn_l rB) (DV.ext (jn_r ((eB.trans p.e).trans e4) s4.e) ry)
        have sz : ((xs.take i).flatMap (fun x => (ys x).map (g x)) ++ ((ys x0).take j).map (g x0)).length < 40000 := by
          rw [List.length_append, List.length_map, List.length_take]
          have i1 := small i (by omega)
          have i2 := hz x0 mx
          omega
        have fin := iv_step (N := fun H => Ex (jn (jn A Hs) Ht) H ∧ IV A H0 H1 D ((xs.take i).flatMap (fun x => (ys x).map (g x)) ++ ((ys x0).take (j + 1)).map (g x0)) H) q2 e1 nD sz q1 BD1 oB1 ed fun H2 h2 kp => ⟨fun c o z => ?_, ?_⟩
        · exact fin
        · exact kp c o (fun w => by rw [w, BD1] at z; cases z) (q1 _ _ z)
        · rw [List.take_add_one, hys]
          show IV A H0 H1 D (_ ++ ((ys x0).take j ++ [y0]).map (g x0)) H2
          rw [List.map_append, ← List.append_assoc]
          exact h2
      · have e3 : j = us1.length := by omega
        subst e3
        rw [List.take_of_length_le (l := ys x0) (by omega)] at q2
        exact .inl ⟨⟨us1, hq1, Nat.le_refl _⟩, q2⟩
  · have e3 : i = us.length := by omega
    subst e3
    rw [List.take_of_length_le (by omega)] at p
    exact .inl ⟨⟨us, hq, Nat.le_refl _⟩, iv_end p e1 nD q⟩
end
end Dw
/-! text D14 -/
set_option Elab.async false
set_option linter.all false
set_option maxRecDepth 100000
set_option maxHeartbeats 4000000
/-! defs that come to the lambda: promises, calls, the last step; two_families, all_keepers, both_families, either_family -/
namespace K07
open PySem PySem.Spec PyProof.Rows L2 Evl PySem.W Dw Dw.DV RZ StX Lot LmV LamX NdefX
section
variable {α β γ δ : Type} [DecidableEq α] [Datum α] [DV α] [DecidableEq β] [Datum β] [DV β] [DecidableEq γ] [Datum γ] [DV γ] [DecidableEq δ] [Datum δ] [DV δ] {K : PySem.W.Frag} {σ : L2.St} {H A A0 H0 : Hp} {te ta tb : TE} {D : Ends} {Pt : Addr} {E : XK}
def sp1W (Pt : Addr) (P : α → Prop) (f : α → γ) : Sp := fun vs H Q _ => ∃ v x A, vs = [v] ∧ Ex A H ∧ rep A v x ∧ P x ∧ EndW Pt A H (f x) Q
def sp2W (Pt : Addr) (P : α → β → Prop) (f : α → β → γ) : Sp := fun vs H Q _ => ∃ v u x y A, vs = [v, u] ∧ Ex A H ∧ rep A v x ∧ rep A u y ∧ P x y ∧ EndW Pt A H (f x y) Q
theorem ed_call1W {P : α → Prop} {f : α → γ} {x : α} (R : Rdy Pt lmQ lmPos A) (h : EvD ta σ A x) (hP : P x) : EvD (tCall (sp1W Pt P f) [] E (tCons ta tNil)) σ A (f x) := fun H1 e Q q => h H1 e _ fun v H2 B e2 s r =>
  ⟨v, x, jn A B, rfl, jn_ex (e.trans e2) s.e, DV.ext (jn_r (e.trans e2) s.e) r, hP, .inl ⟨R.ext jn_l, fun u H3 Hs e3 t r3 => q u H3 Hs (e2.trans e3) ⟨t.e, fun b o z => by
    rcases t.o b o z with y | y
    · rcases jn_of y with w | w
      · exact .inl w
      · exact s.o b o w
    · exact .inr (exf e2 y)⟩ r3⟩⟩
theorem ed_call2W {P : α → β → Prop} {f : α → β → γ} {x : α} {y : β} (R : Rdy Pt lmQ lmPos A) (h : EvD ta σ A x) (h' : EvD tb σ A y) (hP : P x y) : EvD (tCall (sp2W Pt P f) [] E (tCons ta (tCons tb tNil))) σ A (f x y) := fun H1 e Q q => h H1 e _ fun v H2 B e2 s r => h' H2 (e.trans e2) _ fun u H3 C e3 t r' => by
  have sj := s.join e e2 e3 t
  have eA : Ex A H3 := (e.trans e2).trans e3
  exact ⟨v, u, x, y, jn A (jn B C), rfl, jn_ex eA sj.e, DV.ext (jn_l.trans (jn_r eA sj.e)) r, DV.ext ((jn_r (s.e.trans e3) t.e).trans (jn_r eA sj.e)) r', hP, .inl ⟨R.ext jn_l, fun z H4 Hs e4 w r4 => q z H4 Hs ((e2.trans e3).trans e4) ⟨w.e, fun b o z => by
    rcases w.o b o z with y | y
    · rcases jn_of y with w | w
      · exact .inl w
      · exact sj.o b o w
    · exact .inr (exf (e2.trans e3) y)⟩ r4⟩⟩
/-- return (a, f(b)), f a def that comes to the lambda -/
theorem b_retW [DVN δ] {P : α → Prop} {f : α → γ} {x : δ} {y : α} (B : Bs A0 H0 A H) (ha : EvD ta σ A x) (hb : EvD tb σ A y) (hP : P y) (q : EndW Pt A0 H0 (x, f y) D.rt) : tRet (tTup (tCons ta (tCons (tCall (sp1W Pt P f) [] E (tCons tb tNil)) tNil))) D σ H := by
  rcases q with ⟨R, q⟩ | ⟨T, q⟩
  · exact b_ret B (ed_pair ha (ed_call1W (R.ext B.a) hb hP)) q
  · refine ha H B.h _ fun v H1 B1 e1 s1 r1 => hb H1 (B.h.trans e1) _ fun u H2 B2 e2 s2 r2 => ?_
    refine ⟨u, y, B2, rfl, s2.e, r2, hP, .inr ⟨T.ext (B.e.trans (e1.trans e2)), fun w H3 B3 eN nn R3 s3 r3 => ?_⟩⟩
    refine ⟨by show 2 ≤ sizeLine; decide, fun p np => ?_⟩
    have e12 : ExtN H H3 := (ExtN.of (e1.trans e2)).trans eN
    have b1 : Ex (nt B1) H3 := nt_ex (s1.e.trans e2) eN
    have ej : Ex (jn (nt B1) B3) H3 := jn_ex b1 s3.e
    have pj : jn (nt B1) B3 p = none := exf ej np
    have nH : ∀ b, H3 b = none → H0 b = none := fun b z => exf ((B.e.trans e1).trans e2) (nn b z)
    have old : ∀ b, H b = none → H0 b = none := fun b z => exf B.e z
    refine q _ (upd H3 p (.tup [v, w])) (upd (jn (nt B1) B3) p (.tup [v, w])) (fun b o z n => ?_) (fun b z => ?_) (R3.ext (Ex.new np)) ⟨fun b o z => ?_, fun b o z => ?_⟩ ⟨p, v, w, rfl, upd_same, DV.ext (jn_l.trans (Ex.new pj)) (DVN.extN (nt_ext B1) r1), DV.ext ((jn_r b1 s3.e).trans (Ex.new pj)) r3⟩
    · have z3 := e12 b o (B.e _ _ z) n
      rw [upd_ne (ne_of_none z3 np)]
      exact z3
    · by_cases w : b = p
      · rw [w] at z
        rw [upd_same] at z
        cases z
      · rw [upd_ne w] at z
        exact nH b z
    · by_cases w : b = p
      · rw [w, upd_same] at z ⊢
        exact z
      · rw [upd_ne w] at z ⊢
        exact ej _ _ z
    · by_cases w : b = p
      · rw [w]
        exact .inr (nH p np)
      · rw [upd_ne w] at z
        rcases jn_of z with y | y
        · rcases s1.o b o (nt_of y).1 with k | k
          · exact B.o b o k
          · exact .inr (old b k)
        · rcases s3.o b o y with k | k
          · rcases s2.o b o k with k | k
            · exact B.o b o k
            · exact .inr (old b (exf e1 k))
          · exact .inr (old b (exf (e1.trans e2) k))
end
def cup (a b : List Str) : List Str := srt (once (a ++ b))
def bothLots (L M : List (List Str)) : List (List Str) := L.flatMap fun mine => M.map fun theirs => cup mine theirs
def bothOf (F G : FamT) : FamT := (cup F.1 G.1, leastOf (bothLots F.2 G.2))
def eitherOf (F G : FamT) : FamT := (cup F.1 G.1, leastOf (F.2 ++ G.2))
structure Two (F G : FamT) : Prop where
  f : GoodF goodName F
  g : GoodF goodName G
  lf : F.1.length ≤ 30
  lg : G.1.length ≤ 30
  l2 : F.2.length ≤ 150
  m2 : G.2.length ≤ 150
  p2 : F.2.length * G.2.length ≤ 1000
section
variable {P : Program} {w : World} {K : PySem.W.Frag} {mg : Str → Option Value} {base : Heap} {f : Addr} {fd : FuncData} {fL fN f1 fK fS fO fH fF fT : Addr} {dL dN d1 dK dS dO dH dF dT : FuncData}
theorem sc2F : FnScope ["family", "other_family", "one"] ["family", "other_family"] (defScope (top 30)) := ⟨rfl, rfl, rfl, by decide +kernel, rfl, by decide +kernel, by decide +kernel⟩
abbrev sp2F : Sp := sp2 (fun F G : FamT => GoodF goodName F ∧ GoodF goodName G) (fun F G => (F, G))
theorem ok_2f {fC : Addr} {dC : FuncData} (F : FnP K "two_families" (top 30) f fd) (B : Bn mg) (Z : Fs K mg fL fN f1 fK fS fO fH fF fT dL dN d1 dK dS dO dH dF dT) (C : Df K mg "checked_family" 20 fC dC) : FnOk P w K mg base CX0 6 f fd ["family", "other_family"] sp2F := by
  have GF : FnOk P w K mg base CX0 4 fF dF ["thing"] spFam := ok_fam Z.F.F B Z.N Z.L Z.KP Z.S Z.O Z.HO
  have bF : Binds K dF ["thing"] [] := Z.F.F.bindsN fun _ _ _ _ _ _ us hl => match us, hl with | [_], _ => rfl
  have GT : FnOk P w K mg base CX0 1 fT dT ["thing"] spTold := ok_told Z.T.F B.list
  have bT : Binds K dT ["thing"] [] := Z.T.F.bindsN fun _ _ _ _ _ _ us hl => match us, hl with | [_], _ => rfl
  have GC : FnOk P w K mg base CX0 5 fC dC ["family"] spChk := ok_chk C.F B Z
  have bC : Binds K dC ["family"] [] := C.F.bindsN fun _ _ _ _ _ _ us hl => match us, hl with | [_], _ => rfl
  refine F.ok sc2F (fun vs H Q E h => ?_) (fun cdv A outer s H vs Q E hr h => ?_)
  · obtain ⟨v, u, _, _, _, rfl, _⟩ := h
    rfl
  · obtain ⟨v, u, F, G, A0, rfl, eA, hv, hu, ⟨hF, hG⟩, q⟩ := h
    refine ⟨_, PSs.nox (pss_cons (ps_set (i := 2) sc2F.nd rfl (.inl rfl) (pe_call GC hr (by rfl) C.g C.F.kp bC .nil pass0 (pa_cons (pv 0) pa_nil)))
      (pss_cons (ps_if (pt_not (pt_val (pe_call GF (hr.mono (by decide)) (by rfl) Z.F.g Z.F.F.kp bF .nil pass0 (pa_cons (pv 1) pa_nil)))) pss_never pss_nil)
      (pss_one (ps_ret (pe_tup (pa_cons (pv 2) (pa_cons (pe_call GT (hr.mono (by decide)) (by rfl) Z.T.g Z.T.F.kp bT .nil pass0 (pa_cons (pv 1) pa_nil)) pa_nil))))))), ?_⟩
    refine b_asg (Bs.start eA) (ed_call1 (E := E0) (P := GoodF goodName) (f := fun F => F) (ed_var (i := 0) (σ := [some v, some u, none]) rfl hv) hF) fun v2 A2 H2 B2 eA2 r2 => ?_
    have e1 : EvD (tVar 1) [some v, some u, some v2] A2 G := ed_var rfl (DV.ext eA2 hu)
    refine b_skip B2 (et_not (et_B (ev_of (ed_call1 (E := E0) (P := GoodF goodName) (f := fun _ => true) e1 hG)))) rfl fun H3 B3 => ?_
    exact b_ret B3 (ed_pair (x := F) (y := G) (ed_var (i := 2) rfl r2) (ed_call1 (E := E0) (P := fun F : FamT => F.2.length ≤ 1000) (f := fun F => F) e1 hG.len)) q
theorem scAll : FnScope ["one", "other", "keeper"] ["one", "other"] (defScope (top 31)) := ⟨rfl, rfl, rfl, by decide +kernel, rfl, by decide +kernel, by decide +kernel⟩
abbrev spAll : Sp := sp2 (fun F G : FamT => F.1.length ≤ 30 ∧ G.1.length ≤ 30) (fun F G => cup F.1 G.1)
theorem ok_all (F : FnP K "all_keepers" (top 31) f fd) (B : Bn mg) : FnOk P w K mg base CX0 1 f fd ["one", "other"] spAll := by
  refine F.ok scAll (fun vs H Q E h => ?_) (fun cdv A outer s H vs Q E hr h => ?_)
  · obtain ⟨v, u, _, _, _, rfl, _⟩ := h
    rfl
  · obtain ⟨v, u, F, G, A0, rfl, eA, hv, hu, ⟨hF, hG⟩, q⟩ := h
    refine ⟨_, PSs.nox (pss_one (ps_ret (pe_callB (cr_srtD rfl) (by rfl) B.sorted (by decide +kernel) (pa_cons (pe_dc (own := [("keeper", 2)]) (g := gName 2) (tt := tYes) (tk := tVar 2) (tv := tC (.bl true)) rfl scAll.nd
      (pi_list (pe_lst (pa_star (pe_ix ix_tup (pv 0) pe_int (fun _ _ => rfl)) (pa_star (pe_ix ix_tup (pv 1) pe_int (fun _ _ => rfl)) pa_nil)))) (blkOk_by (N := ["one", "other", "keeper"]) (sc := defScope (top 31)) (by decide +kernel))
      (fun _ _ _ _ _ => pg_name (i := 2) scAll.nd rfl (.inl rfl)) (fun _ _ _ _ _ => pts_nil) (fun _ _ _ _ _ => pv 2) (fun _ _ _ _ _ => pe_bl)) pa_nil)))), ?_⟩
    have st := ed_stars (K := K) (ed_fst (K := K) (p := F) (ed_var (i := 0) (σ := [some v, some u, none]) rfl hv)) (ed_fst (K := K) (p := G) (ed_var (i := 1) (σ := [some v, some u, none]) rfl hu)) (by omega)
    have dc := ed_dcS (K := K) (j := 2) (vs := [2]) st (by rw [List.length_append]; omega) (fun _ => rfl) (fun _ => rfl)
    have l := once_len (F.1 ++ G.1)
    rw [List.length_append] at l
    exact b_ret (Bs.start eA) (ed_srtD dc (once_nodup _) (by omega)) q
end
end K07
/-! text D15 -/
set_option Elab.async false
set_option linter.all false
set_option maxRecDepth 100000
set_option maxHeartbeats 4000000
/-! both_families, either_family -/
namespace K07
open PySem PySem.Spec PyProof.Rows L2 Evl PySem.W Dw Dw.DV RZ StX Lot LmV LamX NdefX
section
variable {α β : Type} [DecidableEq α] [Datum α] [DV α] [DecidableEq β] [Datum β] [DV β] {K : PySem.W.Frag} {σ : L2.St} {H A A0 H0 : Hp} {te ta tb : TE} {D : Ends}
theorem b_asg2 {x : α} {y : β} {i j : Nat} {tz : TS} (B : Bs A0 H0 A H) (h : EvD te σ A (x, y)) (k : ∀ v u A' H1, Bs A0 H0 A' H1 → Ex A A' → rep A' v x → rep A' u y → tz D ((σ.set i (some v)).set j (some u)) H1) :
    tSeq (tAsg te (gTup K 2 (gCons (gName i) (gCons (gName j) gNil)))) tz D σ H := h H B.h _ fun v H1 Hs e s r => by
  obtain ⟨a, u, w, rfl, h1, h2, h3⟩ := r
  exact ⟨a, [u, w], rfl, .inl (.inl (s.e _ _ h1)), rfl, u, [w], rfl, w, [], rfl, rfl, k u w (jn A Hs) H1 (B.go e s) jn_l (B.rep e s h2) (B.rep e s h3)⟩
end
section
variable {P : Program} {w : World} {K : PySem.W.Frag} {mg : Str → Option Value} {base : Heap} {f : Addr} {fd : FuncData} {fL fN f1 fK fS fO fH fF fT : Addr} {dL dN d1 dK dS dO dH dF dT : FuncData}
/-- the defs that the operations on families call -/
structure Gs (K : PySem.W.Frag) (mg : Str → Option Value) (base : Heap) (Pt : Addr) (fC fW fU fV : Addr) (dC dW dU dV : FuncData) : Prop where
  C : Df K mg "checked_family" 20 fC dC
  W : Df K mg "least_of" 21 fW dW
  U : Df K mg "two_families" 30 fU dU
  V : Df K mg "all_keepers" 31 fV dV
  t : ∀ c, dW.code = .ref c → TabB base mg c Pt
variable {fC fW fU fV Pt : Addr} {dC dW dU dV : FuncData}
abbrev NBoth : List Str := ["family", "other_family", "one", "other", "lots", "mine", "theirs", "keeper"]
theorem scBoth : FnScope NBoth ["family", "other_family"] (defScope (top 32)) := ⟨rfl, rfl, rfl, by decide +kernel, rfl, by decide +kernel, by decide +kernel⟩
abbrev scBothI : Scope := { kind := .function, names := [(".0", .local), ("mine", .local), ("theirs", .local), ("sorted", .globalImplicit), ("other", .cell)], isGenerator := false, isCoroutine := false }
abbrev spBoth (Pt : Addr) : Sp := sp2W Pt Two bothOf
theorem bothLots_len {L M : List (List Str)} : (bothLots L M).length = L.length * M.length := by
  unfold bothLots
  induction L with
  | nil => simp
  | cons a r ih =>
    rw [List.flatMap_cons, List.length_append, ih, List.length_map, List.length_cons, Nat.succ_mul, Nat.add_comm]
theorem cup_len {a b : List Str} : (cup a b).length ≤ a.length + b.length := by
  unfold cup
  rw [srt_len]
  have := once_len (a ++ b)
  rwa [List.length_append] at this
theorem ok_both (F : FnP K "both_families" (top 32) f fd) (B : Bn mg) (Z : Fs K mg fL fN f1 fK fS fO fH fF fT dL dN d1 dK dS dO dH dF dT) (Y : Gs K mg base Pt fC fW fU fV dC dW dU dV) : FnOk P w K mg base CX0 7 f fd ["family", "other_family"] (spBoth Pt) := by
  have GU : FnOk P w K mg base CX0 6 fU dU ["family", "other_family"] sp2F := ok_2f Y.U.F B Z Y.C
  have bU : Binds K dU ["family", "other_family"] [] := Y.U.F.bindsN fun _ _ _ _ _ _ us hl => match us, hl with | [_, _], _ => rfl
  have GV : FnOk P w K mg base CX0 1 fV dV ["one", "other"] spAll := ok_all Y.V.F B
  have bV : Binds K dV ["one", "other"] [] := Y.V.F.bindsN fun _ _ _ _ _ _ us hl => match us, hl with | [_, _], _ => rfl
  have GW : FnOk P w K mg base CX0 2 fW dW ["lots"] (sp1W Pt (fun xs : List (List Str) => xs.length ≤ 1000 ∧ ∀ l ∈ xs, l.length ≤ 100) leastOf) := ok_least Y.W.F B Z.HO Y.t
  have bW : Binds K dW ["lots"] [] := Y.W.F.bindsN fun _ _ _ _ _ _ us hl => match us, hl with | [_], _ => rfl
  refine F.ok scBoth (fun vs H Q E h => ?_) (fun cdv A outer s H vs Q E hr h => ?_)
  · obtain ⟨v, u, _, _, _, rfl, _⟩ := h
    rfl
  · obtain ⟨v, u, F, G, A0, rfl, eA, hv, hu, T, q⟩ := h
    refine ⟨_, PSs.nox (pss_cons (ps_asg (pe_call GU hr (by rfl) Y.U.g Y.U.F.kp bU .nil pass0 (pa_cons (pv 0) (pa_cons (pv 1) pa_nil))) (pg_tup rfl (pgs_cons (pg_name (i := 2) scBoth.nd rfl (.inl rfl)) (pgs_cons (pg_name (i := 3) scBoth.nd rfl (.inr rfl)) pgs_nil))))
      (pss_cons (ps_setLc2 (i := 4) (own := [("mine", 5), ("theirs", 6)]) (vs1 := [6]) (g := gName 5) (tt := tYes) (g1 := gName 6) (tt1 := tYes) (wi1 := iList K (tOp (rIxT K) (tVar 3) (tC (.int 1)))) (te := tCB rSrtD (tCons (tDc (iList K (tLst (tStar K (tVar 5) (tStar K (tVar 6) tNil)))) (gName 7) tYes (tVar 7) (tC (.bl true)) [7]) tNil)) rfl scBoth.nd rfl rfl (sw_true rfl rfl (by rfl) (by rfl))
          (pi_list (pe_ix ix_tup (pv 2) pe_int (fun _ _ => rfl))) (blkOk_by (N := NBoth) (sc := defScope (top 32)) (by decide +kernel)) (by decide)
          (fun _ _ _ _ _ => pg_name (i := 5) scBoth.nd rfl (.inl rfl)) (fun _ _ _ _ _ => pts_nil) (fun _ _ _ _ _ => pi_list (pe_ix ix_tup (pv 3) pe_int (fun _ _ => rfl)))
          (fun _ _ _ _ _ => pg_name (i := 6) scBoth.nd rfl (.inl rfl)) (fun _ _ _ _ _ => pts_nil)
          (fun _ _ _ _ _ => pe_callB (cr_srtD rfl) (by rfl) B.sorted (by decide +kernel) (pa_cons (pe_dc (own := [("keeper", 7)]) (g := gName 7) (tt := tYes) (tk := tVar 7) (tv := tC (.bl true)) rfl scBoth.nd
            (pi_list (pe_lst (pa_star (pv 5) (pa_star (pv 6) pa_nil)))) (blkOk_by (N := NBoth) (sc := scBothI) (by decide +kernel))
            (fun _ _ _ _ _ => pg_name (i := 7) scBoth.nd rfl (.inl rfl)) (fun _ _ _ _ _ => pts_nil) (fun _ _ _ _ _ => pv 7) (fun _ _ _ _ _ => pe_bl)) pa_nil)))
      (pss_one (ps_ret (pe_tup (pa_cons (pe_call GV (hr.mono (by decide)) (by rfl) Y.V.g Y.V.F.kp bV .nil pass0 (pa_cons (pv 2) (pa_cons (pv 3) pa_nil))) (pa_cons (pe_call GW (hr.mono (by decide)) (by rfl) Y.W.g Y.W.F.kp bW .nil pass0 (pa_cons (pv 4) pa_nil)) pa_nil))))))), ?_⟩
    refine b_asg2 (Bs.start eA) (ed_call2 (E := E0) (P := fun F G : FamT => GoodF goodName F ∧ GoodF goodName G) (f := fun F G => (F, G)) (ed_var (i := 0) (σ := [some v, some u, none, none, none, none, none, none]) rfl hv) (ed_var (i := 1) rfl hu) ⟨T.f, T.g⟩) fun v2 u2 A2 H2 B2 eA2 r2 r3 => ?_
    have eF : EvD (tVar 2) [some v, some u, some v2, some u2, none, none, none, none] A2 F := ed_var rfl r2
    have eG : EvD (tVar 3) [some v, some u, some v2, some u2, none, none, none, none] A2 G := ed_var rfl r3
    have lF := T.lf
    have lG := T.lg
    have lc := ed_lc2 (K := K) (tl1 := tOp (rIxT K) (tVar 3) (tC (.int 1))) (te := tCB rSrtD (tCons (tDc (iList K (tLst (tStar K (tVar 5) (tStar K (tVar 6) tNil)))) (gName 7) tYes (tVar 7) (tC (.bl true)) [7]) tNil)) (j := 5) (j1 := 6) (vs := [5, 6]) (vs1 := [6]) (fun _ => G.2) (fun mine theirs => cup mine theirs) (ed_snd (K := K) eF) (fun _ _ => Nat.le_trans T.m2 (by decide)) T.l2 (fun _ => rfl) (fun _ _ => rfl)
      (fun x y H1 e _ _ => ed_snd (K := K) (p := G) (ed_var (v := u2) rfl (DV.ext e r3)))
      fun x z y1 z1 H1 e mx mz rx rz => by
        have k1 := Nat.le_trans (T.f.lots x mx).len lF
        have k2 := Nat.le_trans (T.g.lots z mz).len lG
        have st := ed_stars (K := K) (ed_var (i := 5) (σ := [some v, some u, some v2, some u2, none, some y1, some z1, none]) (v := y1) rfl rx) (ed_var (i := 6) (v := z1) rfl rz) (by omega)
        have dc := ed_dcS (K := K) (j := 7) (vs := [7]) st (by rw [List.length_append]; omega) (fun _ => rfl) (fun _ => rfl)
        have l := once_len (x ++ z)
        rw [List.length_append] at l
        exact ed_srtD dc (once_nodup _) (by omega)
    refine b_asg B2 lc fun v4 A4 H4 B4 eA4 r4 => ?_
    refine b_retW B4 (ed_call2 (E := E0) (P := fun F G : FamT => F.1.length ≤ 30 ∧ G.1.length ≤ 30) (f := fun F G => cup F.1 G.1) (ed_var (i := 2) rfl (DV.ext eA4 r2)) (ed_var (i := 3) rfl (DV.ext eA4 r3)) ⟨lF, lG⟩) (ed_var (i := 4) (v := v4) rfl r4) ⟨?_, fun l hl => ?_⟩ q
    · have e : (F.2.flatMap fun x => G.2.map (cup x)).length = F.2.length * G.2.length := bothLots_len
      rw [e]
      exact T.p2
    · obtain ⟨x, hx, hl⟩ := List.mem_flatMap.mp hl
      obtain ⟨z, hz, rfl⟩ := List.mem_map.mp hl
      have k1 := Nat.le_trans (T.f.lots x hx).len lF
      have k2 := Nat.le_trans (T.g.lots z hz).len lG
      have k3 := cup_len (a := x) (b := z)
      omega
theorem scEither : FnScope ["family", "other_family", "one", "other"] ["family", "other_family"] (defScope (top 33)) := ⟨rfl, rfl, rfl, by decide +kernel, rfl, by decide +kernel, by decide +kernel⟩
abbrev spEither (Pt : Addr) : Sp := sp2W Pt Two eitherOf
theorem ok_either (F : FnP K "either_family" (top 33) f fd) (B : Bn mg) (Z : Fs K mg fL fN f1 fK fS fO fH fF fT dL dN d1 dK dS dO dH dF dT) (Y : Gs K mg base Pt fC fW fU fV dC dW dU dV) : FnOk P w K mg base CX0 7 f fd ["family", "other_family"] (spEither Pt) := by
  have GU : FnOk P w K mg base CX0 6 fU dU ["family", "other_family"] sp2F := ok_2f Y.U.F B Z Y.C
  have bU : Binds K dU ["family", "other_family"] [] := Y.U.F.bindsN fun _ _ _ _ _ _ us hl => match us, hl with | [_, _], _ => rfl
  have GV : FnOk P w K mg base CX0 1 fV dV ["one", "other"] spAll := ok_all Y.V.F B
  have bV : Binds K dV ["one", "other"] [] := Y.V.F.bindsN fun _ _ _ _ _ _ us hl => match us, hl with | [_, _], _ => rfl
  have GW : FnOk P w K mg base CX0 2 fW dW ["lots"] (sp1W Pt (fun xs : List (List Str) => xs.length ≤ 1000 ∧ ∀ l ∈ xs, l.length ≤ 100) leastOf) := ok_least Y.W.F B Z.HO Y.t
  have bW : Binds K dW ["lots"] [] := Y.W.F.bindsN fun _ _ _ _ _ _ us hl => match us, hl with | [_], _ => rfl
  refine F.ok scEither (fun vs H Q E h => ?_) (fun cdv A outer s H vs Q E hr h => ?_)
  · obtain ⟨v, u, _, _, _, rfl, _⟩ := h
    rfl
  · obtain ⟨v, u, F, G, A0, rfl, eA, hv, hu, T, q⟩ := h
    refine ⟨_, PSs.nox (pss_cons (ps_asg (pe_call GU hr (by rfl) Y.U.g Y.U.F.kp bU .nil pass0 (pa_cons (pv 0) (pa_cons (pv 1) pa_nil))) (pg_tup rfl (pgs_cons (pg_name (i := 2) scEither.nd rfl (.inl rfl)) (pgs_cons (pg_name (i := 3) scEither.nd rfl (.inl rfl)) pgs_nil))))
      (pss_one (ps_ret (pe_tup (pa_cons (pe_call GV (hr.mono (by decide)) (by rfl) Y.V.g Y.V.F.kp bV .nil pass0 (pa_cons (pv 2) (pa_cons (pv 3) pa_nil))) (pa_cons (pe_call GW (hr.mono (by decide)) (by rfl) Y.W.g Y.W.F.kp bW .nil pass0 (pa_cons (pe_lst (pa_star (pe_ix ix_tup (pv 2) pe_int (fun _ _ => rfl)) (pa_star (pe_ix ix_tup (pv 3) pe_int (fun _ _ => rfl)) pa_nil))) pa_nil)) pa_nil)))))), ?_⟩
    refine b_asg2 (Bs.start eA) (ed_call2 (E := E0) (P := fun F G : FamT => GoodF goodName F ∧ GoodF goodName G) (f := fun F G => (F, G)) (ed_var (i := 0) (σ := [some v, some u, none, none]) rfl hv) (ed_var (i := 1) rfl hu) ⟨T.f, T.g⟩) fun v2 u2 A2 H2 B2 eA2 r2 r3 => ?_
    have eF : EvD (tVar 2) [some v, some u, some v2, some u2] A2 F := ed_var rfl r2
    have eG : EvD (tVar 3) [some v, some u, some v2, some u2] A2 G := ed_var rfl r3
    have l1 := T.l2
    have l2 := T.m2
    refine b_retW B2 (ed_call2 (E := E0) (P := fun F G : FamT => F.1.length ≤ 30 ∧ G.1.length ≤ 30) (f := fun F G => cup F.1 G.1) eF eG ⟨T.lf, T.lg⟩) (ed_stars (K := K) (ed_snd (K := K) eF) (ed_snd (K := K) eG) (by omega)) ⟨by rw [List.length_append]; omega, fun l hl => ?_⟩ q
    rcases List.mem_append.mp hl with z | z
    · exact T.f.len2 l z
    · exact T.g.len2 l z
end
end K07
/-! text W17 -/
set_option Elab.async false
set_option linter.all false
set_option maxRecDepth 100000
set_option maxHeartbeats 2000000
/-! an own exception without fields raised; a def held by a local name called within a try -/
namespace Dw
open PySem PySem.Spec PyProof.Rows L2 Evl PySem.W DV XvC PySem.HandSPX
section
variable {X : Cx} {CX : CXT} {k i : Nat} {f C : Addr} {fd : FuncData} {ps : List Str} {sp : Sp} {E : L2.St → XK} {x : Str} {p pos : Pos} {e : Expr} {es : List Expr} {t : TA}
/-- what is asked of an own class that is raised and caught -/
structure NoX (K : PySem.W.Frag) (mg : Str → Option Value) (x : Str) (C : Addr) : Prop where
  q : PySem.W.excIn K C veTail "ValueError.__new__" = true
  g : mg x = some (.ref C)
  k : PySem.W.keepIn K (.ref C) = true
  b : PySem.W.subIn K (.ref C) (.type "BaseException") = some true
  t : PySem.W.typeIn K (.ref C) = some (.type "type")
  e : PySem.W.exmOne K (.ref C) (.ref C) = some true
theorem pmk_own0 (N : NoX X.K X.mg x C) (hg : Gl X x) (hdb : (x == ("__debug__" : Str)) = false := by decide) : PMk X (.Call (.Name x p) [] [] pos) (fun _ H Q => Q (.ref C) none H) := by
  intro pins s σ H Q I h
  refine wpAny_Call_Name_kw (ld_glob I hg N.g ?_ hdb)
  refine PySem.W.callWith_K0 I.kIn N.k ?_
  show wpAny _ _ (call (.ref C) []) _ _ _
  obtain ⟨bm, Nn, nm, qn, bs, hdct, sn, sub, ab, col, dd, k0, k1, k2, k3, k5, mN, hC, hN, hni, OT⟩ := exc_obj I.kIn N.q
  refine wpAny_call_exc_subT F.excBase_ValueError OT hC hN hni (fun h' a hm => ?_) (by show 0 ≤ sizeLine; omega)
  exact mk_of I hm (raises_own N.b N.t) h (I.hok.gone hm.new)
def tCallLS (i : Nat) (f : Addr) (sp : Sp) (E : L2.St → XK) (t : TA) : TE := fun σ H Q => σ[i]? = some (some (.ref f)) ∧ t σ H fun vs H1 => sp vs H1 Q (E σ)
theorem pe_callLS (F : FnOk X.prog X.w X.K X.mg X.base CX k f fd ps sp) (hr : Room k X.A) (hN : X.N[i]? = some x) (hv : Vis X.env.scope x) (hk : PySem.W.keepIn X.K (.ref f) = true) (hb : Binds X.K fd ps []) (hx : ∀ σ, PassesAt CX X σ (E σ)) (ha : PA X (e :: es) t)
    (hdb : (x == ("__debug__" : Str)) = false := by decide) (hcd : (x == ("__classdict__" : Str)) = false := by decide)
    (he : starEach (e :: es) X.env = (false, eval e X.env) :: starEach es X.env := by rfl) (hpl : (backTo pos (starEach es X.env)).any (·.1) = false := by rfl) : PE X (.Call (.Name x p) (e :: es) [] pos) (tCallLS i f sp E t) := by
  refine ⟨fun pins s σ H Q I h => ?_⟩
  obtain ⟨hs, ht⟩ := h
  refine wpAny_Call_Name_kw (thn ((pe_var (pos := p) hN hv hdb hcd).run pins s σ H (fun v H1 => v = .ref f ∧ H1 = H) I ⟨.ref f, hs, rfl, rfl⟩) fun u s1 ⟨v, H1, I1, r1, q1⟩ => ?_)
  obtain ⟨rfl, rfl⟩ := q1
  cases r1
  refine PySem.W.callWith_K (h₀ := X.base) I.ok.mod.kin hk (thn (ha.run pos pins s1 σ _ _ I1 ht) fun us s2 ⟨vs, H2, I2, r, q⟩ => ⟨I2.kIn, ?_⟩) he hpl
  exact run_fnS F hr hb (hx σ) I2 r q
end
end Dw
/-! text D16 -/
set_option Elab.async false
set_option linter.all false
set_option maxRecDepth 100000
set_option maxHeartbeats 4000000
/-! fallen_family, trusted_family -/
namespace K07
open PySem PySem.Spec PyProof.Rows L2 Evl PySem.W Dw Dw.DV RZ StX Lot LmV LamX NdefX
section
variable {P : Program} {w : World} {K : PySem.W.Frag} {mg : Str → Option Value} {base : Heap} {f : Addr} {fd : FuncData} {fL fN f1 fK fS fO fH fF fT : Addr} {dL dN d1 dK dS dO dH dF dT : FuncData} {fC fW fU fV Pt : Addr} {dC dW dU dV : FuncData} {fQ fR CN : Addr} {dQ dR : FuncData}
theorem dTrue {p : Prop} {i : Decidable p} (h : @decide p i = true) : p := @of_decide_eq_true p i h
theorem dFalse {p : Prop} {i : Decidable p} (h : @decide p i = false) : ¬ p := @of_decide_eq_false p i h
structure One (F : FamT) (x : Str) : Prop where
  g : GoodF goodName F
  m : x ∈ F.1
  n : F.1.length ≠ 1
theorem uLL {k : Nat} {A : Around} (hr : Room k A) : A.units + Datum.depth (List (List Str)) < cLine := by
  have h := hr.un
  show A.units + 2 < cLine
  omega
theorem uLL1 {k : Nat} {A : Around} (hr : Room k A) : A.units + 1 + Datum.depth (List Str) < cLine := by
  have h := hr.un
  show A.units + 1 + 1 < cLine
  omega
theorem fall_eq {x : Str} {L : List (List Str)} : (L.filter fun l => decide (x ∉ l)) = fall x L := by
  unfold fall
  exact List.filter_congr fun l _ => by simp
def spFall (CN : Addr) : Sp := fun vs H Q E => ∃ v u F x A, vs = [v, u] ∧ Ex A H ∧ rep A v F ∧ rep A u x ∧ One F x ∧ (fall x F.2 = [] → ∀ H', Ex H H' → E (.ref CN) none H') ∧ (fall x F.2 ≠ [] → EndD A H ((drop1 x F.1, fall x F.2) : FamT) Q)
abbrev NFall : List Str := ["family", "keeper", "keepers", "lots", "name", "rest", "left", "lot"]
theorem scFall : FnScope NFall ["family", "keeper"] (defScope (top 28)) := ⟨rfl, rfl, rfl, by decide +kernel, rfl, by decide +kernel, by decide +kernel⟩
theorem ok_fall (F : FnP K "fallen_family" (top 28) f fd) (B : Bn mg) (Z : Fs K mg fL fN f1 fK fS fO fH fF fT dL dN d1 dK dS dO dH dF dT) (Y : Gs K mg base Pt fC fW fU fV dC dW dU dV) (NL : NoX K mg "NoLots" CN)
    (KN : Df K mg "known_keeper" 24 fQ dQ) (LE : Df K mg "less_keeper" 27 fR dR) : FnOk P w K mg base (L2.CX P w) 6 f fd ["family", "keeper"] (spFall CN) := by
  have GC : FnOk P w K mg base CX0 5 fC dC ["family"] spChk := ok_chk Y.C.F B Z
  have bC : Binds K dC ["family"] [] := Y.C.F.bindsN fun _ _ _ _ _ _ us hl => match us, hl with | [_], _ => rfl
  have GQ : FnOk P w K mg base CX0 2 fQ dQ ["keepers", "keeper"] spKnown := ok_known KN.F B Z
  have bQ : Binds K dQ ["keepers", "keeper"] [] := KN.F.bindsN fun _ _ _ _ _ _ us hl => match us, hl with | [_, _], _ => rfl
  have GR : FnOk P w K mg base CX0 1 fR dR ["keepers", "name"] spLess := ok_less LE.F B
  have bR : Binds K dR ["keepers", "name"] [] := LE.F.bindsN fun _ _ _ _ _ _ us hl => match us, hl with | [_, _], _ => rfl
  refine F.ok scFall (fun vs H Q E h => ?_) (fun cdv A outer s H vs Q E hr h => ?_)
  · obtain ⟨v, u, _, _, _, rfl, _⟩ := h
    rfl
  · obtain ⟨v, u, F, x, A0, rfl, eA, hv, hu, O, qn, qs⟩ := h
    refine ⟨_, (pss_cons (ps_asg (pe_call GC hr (by rfl) Y.C.g Y.C.F.kp bC .nil pass0 (pa_cons (pv 0) pa_nil)) (pg_tup rfl (pgs_cons (pg_name (i := 2) scFall.nd rfl (.inl rfl)) (pgs_cons (pg_name (i := 3) scFall.nd rfl (.inl rfl)) pgs_nil))))
      (pss_cons (ps_set (i := 4) scFall.nd rfl (.inr rfl) (pe_call GQ (hr.mono (by decide)) (by rfl) KN.g KN.F.kp bQ .nil pass0 (pa_cons (pv 2) (pa_cons (pv 1) pa_nil))))
      (pss_cons (ps_set (i := 5) scFall.nd rfl (.inl rfl) (pe_call GR (hr.mono (by decide)) (by rfl) LE.g LE.F.kp bR .nil pass0 (pa_cons (pv 2) (pa_cons (pv 4) pa_nil))))
      (pss_cons (ps_setLc (i := 6) (own := [("lot", 7)]) (g := gName 7) (te := tVar 7) rfl scFall.nd rfl rfl (sw_true rfl rfl (by rfl) (by rfl)) (pi_list (pv 3)) (blkOk_by (N := NFall) (sc := defScope (top 28)) (by decide +kernel))
        (fun _ _ _ _ _ => pg_name (i := 7) scFall.nd rfl (.inl rfl)) (fun _ _ _ _ _ => pts_one (pt_cmpR (op_notInW (α := Str) (uS hr)) (pv 4) (pv 7) (by rfl))) (fun _ _ _ _ _ => pv 7))
      (pss_cons (ps_if (pt_cmpR (op_eqW (α := List (List Str)) (uLL hr)) (pv 6) (pe_lst pa_nil) (by rfl))
        (pss_one (ps_raise rfl (takes_of rfl rfl rfl rfl) (pmk_own0 NL (by exact rfl)))) pss_nil)
      (pss_one (ps_ret (pe_tup (pa_cons (pv 5) (pa_cons (pv 6) pa_nil)))))))))), ?_⟩
    refine b_asg2 (Bs.start eA) (x := F.1) (y := F.2) (ed_call1 (E := E0) (P := GoodF goodName) (f := fun F => F) (ed_var (i := 0) (σ := [some v, some u, none, none, none, none, none, none]) rfl hv) O.g) fun v2 v3 A2 H2 B2 eA2 r2 r3 => ?_
    refine b_asg B2 (ed_call2 (E := E0) (P := fun (ks : List Str) (x : Str) => x ∈ ks) (f := fun _ x => x) (ed_var (i := 2) (σ := [some v, some u, some v2, some v3, none, none, none, none]) rfl r2) (ed_var (i := 1) rfl (DV.ext eA2 hu)) O.m) fun v4 A4 H4 B4 eA4 r4 => ?_
    refine b_asg B4 (ed_call2 (E := E0) (P := fun (ks : List Str) (_ : Str) => ks.length ≠ 1 ∧ ks.length ≤ 100) (f := fun ks x => drop1 x ks) (ed_var (i := 2) (σ := [some v, some u, some v2, some v3, some v4, none, none, none]) rfl (DV.ext eA4 r2)) (ed_var (i := 4) rfl r4) ⟨O.n, O.g.ks.len⟩) fun v5 A5 H5 B5 eA5 r5 => ?_
    have hl := O.g.len
    have lc := ed_lc (K := K) (σ := [some v, some u, some v2, some v3, some v4, some v5, none, none]) (H := A5) (tl := tVar 3) (tt := tTest (tOp (rInW Str true) (tVar 4) (tVar 7))) (te := tVar 7) (j := 7) (vs := [7]) (fun l : List Str => decide (x ∉ l)) (fun l : List Str => l) (ed_var (v := v3) rfl (DV.ext eA5 (DV.ext eA4 r3))) (by omega) (fun _ => rfl)
      (fun l z H1 e _ r => et_test (ev_notInD (ed_var (i := 4) (v := v4) rfl (DV.ext e (DV.ext eA5 r4))) (ed_var (i := 7) (v := z) rfl r))) fun l z H1 _ _ r _ => ed_var (i := 7) (v := z) rfl r
    rw [List.map_id', fall_eq] at lc
    refine b_asg B5 lc fun v6 A6 H6 B6 eA6 r6 => ?_
    have e6 : EvD (tVar 6) [some v, some u, some v2, some v3, some v4, some v5, some v6, none] A6 (fall x F.2) := ed_var rfl r6
    refine b_seqIf B6 (et_test (ev_eqD e6 (ed_lst (xs := ([] : List (List Str))) eda_nil (by decide)))) (fun z H7 B7 => ?_) (fun z H7 B7 => ?_)
    · exact qn (of_decide_eq_true z) H7 B7.e
    · exact b_ret B7 (ed_pair (x := drop1 x F.1) (y := fall x F.2) (ed_var (i := 5) rfl (DV.ext eA6 r5)) e6) (qs (of_decide_eq_false z))
def spTrust (Pt CN : Addr) : Sp := fun vs H Q E => ∃ v u F x A, vs = [v, u] ∧ Ex A H ∧ rep A v F ∧ rep A u x ∧ One F x ∧ ([] ∈ trust x F.2 → ∀ H', Ex H H' → E (.ref CN) none H') ∧ (¬ [] ∈ trust x F.2 → EndW Pt A H ((drop1 x F.1, leastOf (trust x F.2)) : FamT) Q)
abbrev NTrust : List Str := ["family", "keeper", "keepers", "lots", "name", "rest", "left", "lot", "one"]
theorem scTrust : FnScope NTrust ["family", "keeper"] (defScope (top 29)) := ⟨rfl, rfl, rfl, by decide +kernel, rfl, by decide +kernel, by decide +kernel⟩
abbrev scTrustI : Scope := { kind := .function, names := [(".0", .local), ("lot", .local), ("name", .cell)], isGenerator := false, isCoroutine := false }
theorem ok_trust (F : FnP K "trusted_family" (top 29) f fd) (B : Bn mg) (Z : Fs K mg fL fN f1 fK fS fO fH fF fT dL dN d1 dK dS dO dH dF dT) (Y : Gs K mg base Pt fC fW fU fV dC dW dU dV) (NL : NoX K mg "NoLots" CN)
    (KN : Df K mg "known_keeper" 24 fQ dQ) (LE : Df K mg "less_keeper" 27 fR dR) : FnOk P w K mg base (L2.CX P w) 6 f fd ["family", "keeper"] (spTrust Pt CN) := by
  have GC : FnOk P w K mg base CX0 5 fC dC ["family"] spChk := ok_chk Y.C.F B Z
  have bC : Binds K dC ["family"] [] := Y.C.F.bindsN fun _ _ _ _ _ _ us hl => match us, hl with | [_], _ => rfl
  have GQ : FnOk P w K mg base CX0 2 fQ dQ ["keepers", "keeper"] spKnown := ok_known KN.F B Z
  have bQ : Binds K dQ ["keepers", "keeper"] [] := KN.F.bindsN fun _ _ _ _ _ _ us hl => match us, hl with | [_, _], _ => rfl
  have GR : FnOk P w K mg base CX0 1 fR dR ["keepers", "name"] spLess := ok_less LE.F B
  have bR : Binds K dR ["keepers", "name"] [] := LE.F.bindsN fun _ _ _ _ _ _ us hl => match us, hl with | [_, _], _ => rfl
  have GW : FnOk P w K mg base CX0 2 fW dW ["lots"] (sp1W Pt (fun xs : List (List Str) => xs.length ≤ 1000 ∧ ∀ l ∈ xs, l.length ≤ 100) leastOf) := ok_least Y.W.F B Z.HO Y.t
  have bW : Binds K dW ["lots"] [] := Y.W.F.bindsN fun _ _ _ _ _ _ us hl => match us, hl with | [_], _ => rfl
  refine F.ok scTrust (fun vs H Q E h => ?_) (fun cdv A outer s H vs Q E hr h => ?_)
  · obtain ⟨v, u, _, _, _, rfl, _⟩ := h
    rfl
  · obtain ⟨v, u, F, x, A0, rfl, eA, hv, hu, O, qn, qs⟩ := h
    refine ⟨_, (pss_cons (ps_asg (pe_call GC hr (by rfl) Y.C.g Y.C.F.kp bC .nil pass0 (pa_cons (pv 0) pa_nil)) (pg_tup rfl (pgs_cons (pg_name (i := 2) scTrust.nd rfl (.inl rfl)) (pgs_cons (pg_name (i := 3) scTrust.nd rfl (.inl rfl)) pgs_nil))))
      (pss_cons (ps_set (i := 4) scTrust.nd rfl (.inr rfl) (pe_call GQ (hr.mono (by decide)) (by rfl) KN.g KN.F.kp bQ .nil pass0 (pa_cons (pv 2) (pa_cons (pv 1) pa_nil))))
      (pss_cons (ps_set (i := 5) scTrust.nd rfl (.inl rfl) (pe_call GR (hr.mono (by decide)) (by rfl) LE.g LE.F.kp bR .nil pass0 (pa_cons (pv 2) (pa_cons (pv 4) pa_nil))))
      (pss_cons (ps_setLc (i := 6) (own := [("lot", 7)]) (g := gName 7) (tt := tYes) (te := tLc (iList K (tVar 7)) (gName 8) (tTest (tOp (rEqW Str true) (tVar 8) (tVar 4))) (tVar 8) [8]) rfl scTrust.nd rfl rfl (sw_true rfl rfl (by rfl) (by rfl)) (pi_list (pv 3)) (blkOk_by (N := NTrust) (sc := defScope (top 29)) (by decide +kernel))
        (fun _ _ _ _ _ => pg_name (i := 7) scTrust.nd rfl (.inl rfl)) (fun _ _ _ _ _ => pts_nil)
        (fun _ _ _ _ _ => pe_lc (own := [("one", 8)]) (g := gName 8) (tt := tTest (tOp (rEqW Str true) (tVar 8) (tVar 4))) (te := tVar 8) rfl scTrust.nd (pi_list (pv 7)) (blkOk_by (N := NTrust) (sc := scTrustI) (by decide +kernel))
          (fun _ _ _ _ _ => pg_name (i := 8) scTrust.nd rfl (.inl rfl)) (fun _ _ _ _ _ => pts_one (pt_cmpR (op_neW (α := Str) (uT hr)) (pv 8) (pv 4) (by rfl))) (fun _ _ _ _ _ => pv 8)))
      (pss_cons (ps_if (pt_cmpR (op_inW (α := List Str) (uLL1 hr)) (pe_lst pa_nil) (pv 6) (by rfl))
        (pss_one (ps_raise rfl (takes_of rfl rfl rfl rfl) (pmk_own0 NL (by exact rfl)))) pss_nil)
      (pss_one (ps_ret (pe_tup (pa_cons (pv 5) (pa_cons (pe_call GW (hr.mono (by decide)) (by rfl) Y.W.g Y.W.F.kp bW .nil pass0 (pa_cons (pv 6) pa_nil)) pa_nil)))))))))), ?_⟩
    refine b_asg2 (Bs.start eA) (x := F.1) (y := F.2) (ed_call1 (E := E0) (P := GoodF goodName) (f := fun F => F) (ed_var (i := 0) (σ := [some v, some u, none, none, none, none, none, none, none]) rfl hv) O.g) fun v2 v3 A2 H2 B2 eA2 r2 r3 => ?_
    refine b_asg B2 (ed_call2 (E := E0) (P := fun (ks : List Str) (x : Str) => x ∈ ks) (f := fun _ x => x) (ed_var (i := 2) (σ := [some v, some u, some v2, some v3, none, none, none, none, none]) rfl r2) (ed_var (i := 1) rfl (DV.ext eA2 hu)) O.m) fun v4 A4 H4 B4 eA4 r4 => ?_
    refine b_asg B4 (ed_call2 (E := E0) (P := fun (ks : List Str) (_ : Str) => ks.length ≠ 1 ∧ ks.length ≤ 100) (f := fun ks x => drop1 x ks) (ed_var (i := 2) (σ := [some v, some u, some v2, some v3, some v4, none, none, none, none]) rfl (DV.ext eA4 r2)) (ed_var (i := 4) rfl r4) ⟨O.n, O.g.ks.len⟩) fun v5 A5 H5 B5 eA5 r5 => ?_
    have hl := O.g.len
    have hl2 := O.g.len2
    have lc := ed_lc (K := K) (σ := [some v, some u, some v2, some v3, some v4, some v5, none, none, none]) (H := A5) (tl := tVar 3) (tt := tYes) (te := tLc (iList K (tVar 7)) (gName 8) (tTest (tOp (rEqW Str true) (tVar 8) (tVar 4))) (tVar 8) [8]) (j := 7) (vs := [7]) (fun _ : List Str => true) (fun l : List Str => drop1 x l) (ed_var (v := v3) rfl (DV.ext eA5 (DV.ext eA4 r3))) (by omega) (fun _ => rfl)
      (fun _ _ _ _ _ _ => et_yes) fun l z H1 e m r _ => by
        have k := ed_lc (K := K) (σ := [some v, some u, some v2, some v3, some v4, some v5, none, some z, none]) (H := H1) (tl := tVar 7) (tt := tTest (tOp (rEqW Str true) (tVar 8) (tVar 4))) (te := tVar 8) (j := 8) (vs := [8]) (fun y : Str => decide (y ≠ x)) (fun y : Str => y) (ed_var (v := z) rfl r) (by have := hl2 l m; omega) (fun _ => rfl)
          (fun y z2 H2 e2 _ r2 => et_test (ev_neD (ed_var (i := 8) (v := z2) rfl r2) (ed_var (i := 4) (v := v4) rfl (DV.ext e2 (DV.ext e (DV.ext eA5 r4)))))) fun y z2 H2 _ _ r2 _ => ed_var (i := 8) (v := z2) rfl r2
        rw [List.map_id', show (l.filter fun y => decide (y ≠ x)) = drop1 x l from List.filter_congr fun y _ => by simp] at k
        exact k
    rw [List.filter_eq_self.mpr (fun _ _ => rfl), show F.2.map (fun l => drop1 x l) = trust x F.2 from rfl] at lc
    refine b_asg B5 lc fun v6 A6 H6 B6 eA6 r6 => ?_
    have e6 : EvD (tVar 6) [some v, some u, some v2, some v3, some v4, some v5, some v6, none, none] A6 (trust x F.2) := ed_var rfl r6
    refine b_seqIf B6 (et_test (ev_inD (ed_lst (xs := ([] : List Str)) eda_nil (by decide)) e6)) (fun z H7 B7 => ?_) (fun z H7 B7 => ?_)
    · exact qn (dTrue z) H7 B7.e
    · refine b_retW B7 (ed_var (i := 5) (x := drop1 x F.1) rfl (DV.ext eA6 r5)) e6 ⟨by unfold trust; rw [List.length_map]; exact hl, fun l m => ?_⟩ (qs (dFalse z))
      obtain ⟨a, ha, rfl⟩ := List.mem_map.mp m
      exact Nat.le_trans (List.length_filter_le _ _) (hl2 a ha)
end
end K07
/-! text D17 -/
set_option Elab.async false
set_option linter.all false
set_option maxRecDepth 100000
set_option maxHeartbeats 4000000
/-! a family fallen, or trusted, in a keeper, None where it is refused -/
namespace K07
open PySem PySem.Spec PyProof.Rows L2 Evl PySem.W Dw Dw.DV RZ StX Lot LmV LamX NdefX
theorem smF {F : FamT} (h1 : F.1.length ≤ 1000) (h2 : F.2.length ≤ 1000) (h3 : ∀ l ∈ F.2, l.length ≤ 1000) : DVT.sm F := ⟨⟨h1, fun _ _ => True.intro⟩, h2, fun l m => ⟨h3 l m, fun _ _ => True.intro⟩⟩
theorem smG {F : FamT} (h : GoodF goodName F) : DVT.sm F := smF (by have := h.ks.len; omega) h.len fun l m => by have := h.len2 l m; omega
theorem leastOf_mem {xs : List (List Str)} {l : List Str} (h : l ∈ leastOf xs) : l ∈ xs := by
  have h1 := srt_mem.mp h
  rcases greedy_mem _ _ h1 with z | z
  · cases z
  · exact srtK_mem.mp z
theorem leastOf_len {xs : List (List Str)} : (leastOf xs).length ≤ xs.length := by
  unfold leastOf
  rw [srt_len]
  have := greedy_len (srtK xs) []
  rw [srtK_len] at this
  simpa using this
def triedF (F : FamT) (x : Str) : Option FamT := if fall x F.2 = [] then none else some (drop1 x F.1, fall x F.2)
def triedT (F : FamT) (x : Str) : Option FamT := if [] ∈ trust x F.2 then none else some (drop1 x F.1, leastOf (trust x F.2))
theorem drop1_len {x : Str} {l : List Str} : (drop1 x l).length ≤ l.length := List.length_filter_le _ _
section
variable {P : Program} {w : World} {K : PySem.W.Frag} {mg : Str → Option Value} {base : Heap} {f : Addr} {fd : FuncData} {fL fN f1 fK fS fO fH fF fT : Addr} {dL dN d1 dK dS dO dH dF dT : FuncData} {fC fW fU fV Pt : Addr} {dC dW dU dV : FuncData} {fQ fR CN : Addr} {dQ dR : FuncData} {fA fB fCo : Addr} {dA dB dCo : FuncData}
def spTried (Pt fA fB : Addr) : Sp := fun vs H Q _ => ∃ wf v u F x A, vs = [.ref wf, v, u] ∧ Ex A H ∧ Rdy Pt lmQ lmPos A ∧ rep A v F ∧ rep A u x ∧ One F x ∧ ((wf = fA ∧ EndD A H (triedF F x) Q) ∨ (wf = fB ∧ EndD A H (triedT F x) Q))
abbrev NTried : List Str := ["way", "family", "name"]
theorem scTried : FnScope NTried ["way", "family", "name"] (defScope (top 48)) := ⟨rfl, rfl, rfl, by decide +kernel, rfl, by decide +kernel, by decide +kernel⟩
theorem ok_tried (F : FnP K "_law_tried" (top 48) f fd) (B : Bn mg) (Z : Fs K mg fL fN f1 fK fS fO fH fF fT dL dN d1 dK dS dO dH dF dT) (Y : Gs K mg base Pt fC fW fU fV dC dW dU dV) (NL : NoX K mg "NoLots" CN)
    (KN : Df K mg "known_keeper" 24 fQ dQ) (LE : Df K mg "less_keeper" 27 fR dR) (FA : Df K mg "fallen_family" 28 fA dA) (FB : Df K mg "trusted_family" 29 fB dB) (CO : Df K mg "_law_copied" 44 fCo dCo) : FnOk P w K mg base CX0 9 f fd ["way", "family", "name"] (spTried Pt fA fB) := by
  have GA : FnOk P w K mg base (L2.CX P w) 6 fA dA ["family", "keeper"] (spFall CN) := ok_fall FA.F B Z Y NL KN LE
  have bA : Binds K dA ["family", "keeper"] [] := FA.F.bindsN fun _ _ _ _ _ _ us hl => match us, hl with | [_, _], _ => rfl
  have GB : FnOk P w K mg base (L2.CX P w) 6 fB dB ["family", "keeper"] (spTrust Pt CN) := ok_trust FB.F B Z Y NL KN LE
  have bB : Binds K dB ["family", "keeper"] [] := FB.F.bindsN fun _ _ _ _ _ _ us hl => match us, hl with | [_, _], _ => rfl
  have GC : FnOk P w K mg base CX0 8 fCo dCo ["thing"] (spC 8) := ok_copied CO.F CO.g B 8
  have bC : Binds K dCo ["thing"] [] := CO.F.bindsN fun _ _ _ _ _ _ us hl => match us, hl with | [_], _ => rfl
  refine F.ok scTried (fun vs H Q E h => ?_) (fun cdv A outer s H vs Q E hr h => ?_)
  · obtain ⟨wf, v, u, _, _, _, rfl, _⟩ := h
    rfl
  · obtain ⟨wf, v, u, F, x, A0, rfl, eA, R, hv, hu, O, hw⟩ := h
    have c1 := ed_copied (d := 8) (E := E0) (σ := [some (.ref wf), some v, some u]) (ed_var (i := 1) rfl hv) (smG O.g)
    have la := O.g.len
    have lb := O.g.len2
    have lk := O.g.ks.len
    rcases hw with ⟨rfl, q⟩ | ⟨rfl, q⟩
    · refine ⟨_, PSs.nox (pss_one (ps_try_only (tb := fun W => tRet (tCall (spC 8) [] E0 (tCons (tCallLS 0 wf (spFall CN) (WE W) (tCons (tCall (spC 8) [] E0 (tCons (tVar 1) tNil)) (tCons (tVar 2) tNil))) tNil))) (ts := fun _ _ _ => tRet (tC .non)) (Wout := fun _ _ _ _ => False) rfl rfl ⟨rfl, by decide, Or.inl NL.g⟩ L2.takes0
          (fun W pn xe tk _ => pss_one (ps_ret (pe_call GC hr (by rfl) CO.g CO.F.kp bC .nil pass0 (pa_cons (pe_callLS (i := 0) (f := wf) GA (hr.mono (by decide)) rfl (.inl rfl) FA.F.kp bA (fun σ => passAt tk σ) (by exact (pa_cons (pe_call GC hr (by rfl) CO.g CO.F.kp bC .nil pass0 (pa_cons (pv 1) pa_nil)) (pa_cons (pv 2) pa_nil)))) pa_nil))))
          (fun _ _ _ _ _ _ _ => pss_one (ps_ret pe_non)))), ?_⟩
      refine ⟨rfl, c1 H eA _ fun v1 H1 Hs1 e1 s1 r1 => ⟨u, rfl, ?_⟩⟩
      refine ⟨v1, u, F, x, jn A0 Hs1, rfl, jn_ex (eA.trans e1) s1.e, DV.ext (jn_r (eA.trans e1) s1.e) r1, DV.ext jn_l hu, O, fun z H' e2 => ?_, fun z w2 H2 Hs2 e2 s2 r2 => ?_⟩
      · refine ⟨true, NL.e, fun _ a _ => ?_, fun z => Bool.noConfusion z⟩
        have q' := q
        unfold triedF at q'
        rw [if_pos z] at q'
        exact q' .non H' (fun _ => none) (e1.trans e2) ⟨fun _ _ z => (by cases z), fun _ _ z => (by cases z)⟩ rfl
      · have q' := q
        unfold triedF at q'
        rw [if_neg z] at q'
        have sm : DVT.sm ((drop1 x F.1, fall x F.2) : FamT) := smF (by have := drop1_len (x := x) (l := F.1); show (drop1 x F.1).length ≤ 1000; omega) (Nat.le_trans (List.length_filter_le _ _) la) fun l m => by
          have := lb l (mem_fall.mp m).1
          omega
        exact ⟨w2, Hs2, rfl, s2.e, (DVT.tw sm r2 r2).ups (by decide), fun y H3 Hs3 e3 k1 k2 t => q' y H3 Hs3 ((e1.trans e2).trans e3) ⟨k1, fun b o w => .inr (exf (e1.trans e2) (k2 b o w))⟩ (DVT.cp (α := FamT) r2 t)⟩
    · refine ⟨_, PSs.nox (pss_one (ps_try_only (tb := fun W => tRet (tCall (spC 8) [] E0 (tCons (tCallLS 0 wf (spTrust Pt CN) (WE W) (tCons (tCall (spC 8) [] E0 (tCons (tVar 1) tNil)) (tCons (tVar 2) tNil))) tNil))) (ts := fun _ _ _ => tRet (tC .non)) (Wout := fun _ _ _ _ => False) rfl rfl ⟨rfl, by decide, Or.inl NL.g⟩ L2.takes0
          (fun W pn xe tk _ => pss_one (ps_ret (pe_call GC hr (by rfl) CO.g CO.F.kp bC .nil pass0 (pa_cons (pe_callLS (i := 0) (f := wf) GB (hr.mono (by decide)) rfl (.inl rfl) FB.F.kp bB (fun σ => passAt tk σ) (by exact (pa_cons (pe_call GC hr (by rfl) CO.g CO.F.kp bC .nil pass0 (pa_cons (pv 1) pa_nil)) (pa_cons (pv 2) pa_nil)))) pa_nil))))
          (fun _ _ _ _ _ _ _ => pss_one (ps_ret pe_non)))), ?_⟩
      refine ⟨rfl, c1 H eA _ fun v1 H1 Hs1 e1 s1 r1 => ⟨u, rfl, ?_⟩⟩
      refine ⟨v1, u, F, x, jn A0 Hs1, rfl, jn_ex (eA.trans e1) s1.e, DV.ext (jn_r (eA.trans e1) s1.e) r1, DV.ext jn_l hu, O, fun z H' e2 => ?_, fun z => .inl ⟨R.ext jn_l, fun w2 H2 Hs2 e2 s2 r2 => ?_⟩⟩
      · refine ⟨true, NL.e, fun _ a _ => ?_, fun z => Bool.noConfusion z⟩
        have q' := q
        unfold triedT at q'
        rw [if_pos z] at q'
        exact q' .non H' (fun _ => none) (e1.trans e2) ⟨fun _ _ z => (by cases z), fun _ _ z => (by cases z)⟩ rfl
      · have q' := q
        unfold triedT at q'
        rw [if_neg z] at q'
        have tl : (trust x F.2).length = F.2.length := List.length_map ..
        have sm : DVT.sm ((drop1 x F.1, leastOf (trust x F.2)) : FamT) := smF (by have := drop1_len (x := x) (l := F.1); show (drop1 x F.1).length ≤ 1000; omega) (Nat.le_trans leastOf_len (by rw [tl]; exact la)) fun l m => by
          obtain ⟨a, ha, rfl⟩ := List.mem_map.mp (leastOf_mem m)
          have := lb a ha
          have := drop1_len (x := x) (l := a)
          omega
        exact ⟨w2, Hs2, rfl, s2.e, (DVT.tw sm r2 r2).ups (by decide), fun y H3 Hs3 e3 k1 k2 t => q' y H3 Hs3 ((e1.trans e2).trans e3) ⟨k1, fun b o w => .inr (exf (e1.trans e2) (k2 b o w))⟩ (DVT.cp (α := FamT) r2 t)⟩
end
end K07
/-! text W18 -/
set_option Elab.async false
set_option linter.all false
set_option maxRecDepth 100000
set_option maxHeartbeats 2000000
/-! list(d.values()) -/
namespace Dw
open PySem PySem.Spec PyProof.Rows L2 Evl PySem.W DV
def tListVals (te : TE) : TE := fun σ H Q => te σ H fun x H1 => ∃ d kvs, x = .ref d ∧ H1 d = some (.dK kvs) ∧ ∀ q, H1 q = none → Q (.ref q) (upd H1 q (.lst (kvs.map (·.2))))
theorem kv_vals : ∀ {kvs : List (Key × V)} {vs : List (Key × Value)}, KV kvs vs → Vals (kvs.map (·.2)) (vs.map (·.2))
  | _, _, .nil => .nil
  | _, _, .cons h r => .cons h.2 (kv_vals r)
section
variable {X : Cx} {e : Expr} {te : TE} {p apos cpos pos : Pos}
theorem pe_listVals (hc : X.calm = true) (he : PE X e te) (hg : Gl X "list") (hm : X.mg "list" = none) (hv : bootBuiltins "list" = some (.type "list")) (hbase : attributeBase e "values" X.env (eval e X.env) = eval e X.env := by rfl) (hline : (apos.endLine == cpos.line) = true := by rfl)
    (hs : starEach [.Call (.Attribute e "values" apos) [] [] cpos] X.env = (false, eval (.Call (.Attribute e "values" apos) [] [] cpos) X.env) :: starEach [] X.env := by rfl) :
    PE X (.Call (.Name "list" p) [.Call (.Attribute e "values" apos) [] [] cpos] [] pos) (tListVals te) := by
  refine ⟨fun pins s σ H Q I hq => ?_⟩
  refine wpAny_Call_Name_kw (ld_blt I hg hm hv ?_)
  refine PyProof.Rows.callWith_type1 ?_ hs rfl
  rw [hs]
  show wpAny _ _ (spliced ((false, eval (.Call (.Attribute e "values" apos) [] [] cpos) X.env) :: backTo pos (starEach [] X.env))) _ _ s
  refine Calls.spliced_cons ?_
  refine wpAny_Call_method (T := "dict") (id := "dict.values") hbase rfl hline F.plainAttrs_dict F.slot_dict_values F.type_dict_values (thn (he.run pins s σ H _ I hq) fun u s1 ⟨x, H1, I1, rx, d, kvs, ex, hd, q⟩ => ?_)
  subst ex
  obtain rfl : u = Value.ref d := rx
  obtain ⟨hz, hs0, vs, kv, hdo⟩ := I1.hok d _ hd
  obtain ⟨ep, hat⟩ := hdo.dictAt
  have lk : kvs.length = vs.length := Paired.length kv
  have I2 : Inv X pins σ H1 { s1 with heap := s1.heap.push { cls := .type "dict_values", data := .fields #[.ref d] } } := I1.kept (t' := s1.toks) fun b ob q => Heap.get?_push_of_some _ q
  refine ⟨hdo.typeIs, hdo.mapOf.noDict, ?_⟩
  show wpAny _ _ (callWith cpos (.builtin "dict.values") [.ref d] [] []) _ X.xe s1
  refine method_meetsIn F.slot_dict_values F.entry_dict_values rfl (PySem.evalArgs_none ⟨rfl, hdo.typeIs, F.args_dict_values_1 _, _, meets_dict_values (mixKind X.prog X.w) d hs0, ⟨vs, hdo⟩, ?_⟩)
  refine Calls.spliced_nil ?_
  refine PySem.W.kdl_call (PySem.W.kdl_values (knd := mixKind X.prog X.w) (kvs := vs) (ep := ep)) (I1.ok.hd hc) ⟨⟨_, Heap.get?_push_size _ rfl, rfl, rfl⟩, hat.push _⟩ (by omega) fun h' tk acc c hk hS hacc => ?_
  have fr := I2.hok.fresh (Nat.le_refl _)
  refine ⟨.ref _, upd H1 _ (.lst (kvs.map (·.2))), I2.laid hk (Nat.le_refl _) (show ObjOk X.prog X.w _ _ _ (.lst (kvs.map (·.2))) from ⟨?_, acc.toList, c, ?_, ?_⟩), rfl, q _ fr⟩
  · rw [List.length_map]
    exact hz
  · have el : acc.toList = vs.map (·.2) := PySem.W.kdl_vals_eq acc.toList (by rw [Array.length_toList]; exact hacc.1) fun j v hj => hacc.2 j v (by rw [← Array.getElem?_toList]; exact hj)
    rw [el]
    exact kv_vals kv
  · rw [Array.toArray_toList]
    exact hS
end
end Dw
/-! text D18 -/
set_option Elab.async false
set_option linter.all false
set_option maxRecDepth 100000
set_option maxHeartbeats 4000000
/-! renamed_family -/
namespace K07
open PySem PySem.Spec PyProof.Rows L2 Evl PySem.W Dw Dw.DV RZ StX Lot LmV LamX NdefX
def kvsOf (ps : List (Str × Str)) : List (Key × V) := ps.map fun p => ((Sum.inr p.1 : Key), V.str p.2)
def lookO (ps : List (Str × Str)) (k : Str) : Option Str := (ps.find? fun p => decide (p.1 = k)).map (·.2)
def look (ps : List (Str × Str)) (k : Str) : Str := (lookO ps k).getD k
theorem valV_kvs (k : Str) : ∀ ps : List (Str × Str), valV (kvsOf ps) (.inr k) = (lookO ps k).map V.str
  | [] => rfl
  | p :: r => by
    have ih := valV_kvs k r
    show valV (((Sum.inr p.1 : Key), V.str p.2) :: kvsOf r) (.inr k) = _
    by_cases e : p.1 = k
    · rw [valV_pos (by rw [e])]
      unfold lookO
      rw [List.find?_cons, show decide (p.1 = k) = true from decide_eq_true e]
      rfl
    · rw [valV_neg fun z => e (Sum.inr.inj z), ih]
      unfold lookO
      rw [List.find?_cons, show decide (p.1 = k) = false from decide_eq_false e]
theorem look_in {ps : List (Str × Str)} {k : Str} (h : k ∈ ps.map (·.1)) : lookO ps k = some (look ps k) := by
  obtain ⟨p, hp, e⟩ := List.mem_map.mp h
  unfold look
  cases z : lookO ps k with
  | some y => rfl
  | none =>
    unfold lookO at z
    rw [Option.map_eq_none_iff, List.find?_eq_none] at z
    exact absurd (decide_eq_true e) (z p hp)
def renOf (F : FamT) (ps : List (Str × Str)) : FamT := (srt (ps.map (·.2)), srt (F.2.map fun l => srt (l.map (look ps))))
structure Nmg (F : FamT) (ps : List (Str × Str)) : Prop where
  g : GoodF goodName F
  k : ps.map (·.1) = F.1
  v : ∀ p ∈ ps, goodName p.2 = true
  n : (ps.map (·.2)).Nodup
  l : F.1.length ≤ 30
def spRen : Sp := fun vs H Q _ => ∃ v d F ps A, vs = [v, .ref d] ∧ Ex A H ∧ rep A v F ∧ A d = some (.dK (kvsOf ps)) ∧ Nmg F ps ∧ EndD A H (renOf F ps) Q
theorem ed_dget {σ : L2.St} {A : Hp} {te : TE} {i : Nat} {d : Addr} {ps : List (Str × Str)} {x : Str} (hσ : σ[i]? = some (some (.ref d))) (hd : A d = some (.dK (kvsOf ps))) (h : EvD te σ A x) (m : x ∈ ps.map (·.1)) : EvD (tDGet (tVar i) te) σ A (look ps x) := fun H1 e Q q =>
  ⟨.ref d, hσ, h H1 e _ fun v H2 Hs e2 s r => ⟨d, .str (look ps x), rfl, .inl ⟨kvsOf ps, .inr x, .inl (e2 _ _ (e _ _ hd)), r, by rw [valV_kvs, look_in m]; rfl⟩, q _ H2 (fun _ => none) e2 ⟨fun _ _ z => (by cases z), fun _ _ z => (by cases z)⟩ rfl⟩⟩
theorem ed_din {σ : L2.St} {A : Hp} {te : TE} {i : Nat} {d : Addr} {ps : List (Str × Str)} {x : Str} (hσ : σ[i]? = some (some (.ref d))) (hd : A d = some (.dK (kvsOf ps))) (h : EvD te σ A x) (m : x ∈ ps.map (·.1)) : EvD (tDIn te (tVar i)) σ A true := fun H1 e Q q =>
  h H1 e _ fun v H2 Hs e2 s r => ⟨.ref d, hσ, d, some (.str (look ps x)), rfl, .inl ⟨kvsOf ps, .inr x, .inl (e2 _ _ (e _ _ hd)), r, by rw [valV_kvs, look_in m]; rfl⟩, q _ H2 (fun _ => none) e2 ⟨fun _ _ z => (by cases z), fun _ _ z => (by cases z)⟩ rfl⟩
theorem uK0 {k : Nat} {A : Around} (hr : Room k A) : A.units + 2 + Datum.depth Str < cLine := by
  have h := hr.un
  show A.units + 2 + 0 < cLine
  omega
section
variable {P : Program} {w : World} {K : PySem.W.Frag} {mg : Str → Option Value} {base : Heap} {f : Addr} {fd : FuncData} {fL fN f1 fK fS fO fH fF fT : Addr} {dL dN d1 dK dS dO dH dF dT : FuncData} {fC fW fU fV Pt : Addr} {dC dW dU dV : FuncData}
abbrev NRen : List Str := ["family", "naming", "keepers", "lots", "names", "one", "name", "lot"]
theorem scRen : FnScope NRen ["family", "naming"] (defScope (top 34)) := ⟨rfl, rfl, rfl, by decide +kernel, rfl, by decide +kernel, by decide +kernel⟩
abbrev scRenI : Scope := { kind := .function, names := [(".0", .local), ("lot", .local), ("sorted", .globalImplicit), ("naming", .cell)], isGenerator := false, isCoroutine := false }
theorem ok_ren (F : FnP K "renamed_family" (top 34) f fd) (B : Bn mg) (Z : Fs K mg fL fN f1 fK fS fO fH fF fT dL dN d1 dK dS dO dH dF dT) (C : Df K mg "checked_family" 20 fC dC) : FnOk P w K mg base CX0 6 f fd ["family", "naming"] spRen := by
  have GC : FnOk P w K mg base CX0 5 fC dC ["family"] spChk := ok_chk C.F B Z
  have bC : Binds K dC ["family"] [] := C.F.bindsN fun _ _ _ _ _ _ us hl => match us, hl with | [_], _ => rfl
  have GN : FnOk P w K mg base CX0 1 fN dN ["thing"] spIsName := ok_is_name Z.N.F B.isinstance B.str B.len B.all
  have bN : Binds K dN ["thing"] [] := Z.N.F.bindsN fun _ _ _ _ _ _ us hl => match us, hl with | [_], _ => rfl
  refine F.ok scRen (fun vs H Q E h => ?_) (fun cdv A outer s H vs Q E hr h => ?_)
  · obtain ⟨v, d, _, _, _, rfl, _⟩ := h
    rfl
  · obtain ⟨v, d, F, ps, A0, rfl, eA, hv, hd, M, q⟩ := h
    refine ⟨_, PSs.nox (pss_cons (ps_asg (pe_call GC hr (by rfl) C.g C.F.kp bC .nil pass0 (pa_cons (pv 0) pa_nil)) (pg_tup rfl (pgs_cons (pg_name (i := 2) scRen.nd rfl (.inl rfl)) (pgs_cons (pg_name (i := 3) scRen.nd rfl (.inl rfl)) pgs_nil))))
      (pss_cons (ps_if (pw_or (pt_not (pt_val (pe_ist K "dict" 1 B.isinstance B.dict)))
        (pw_or (pt_cmpR op_ne (pe_callB call_lenD (by rfl) B.len PySem.boot_len (pa_cons (pv 1) pa_nil)) (pe_callB call_len_seq (by rfl) B.len PySem.boot_len (pa_cons (pv 2) pa_nil)) (nomark _))
        (pw_or1 (pt_not (pt_val (pe_callB (cr_all rfl) (by rfl) B.all (by decide +kernel) (pa_cons (pe_lc (own := [("one", 5)]) (g := gName 5) (tt := tYes) (te := tDIn (tVar 5) (tVar 1)) rfl scRen.nd (pi_list (pv 2)) (blkOk_by (N := NRen) (sc := defScope (top 34)) (by decide +kernel))
          (fun _ _ _ _ _ => pg_name (i := 5) scRen.nd rfl (.inl rfl)) (fun _ _ _ _ _ => pts_nil) (fun _ _ _ _ _ => pe_cmp (pc_din (hu_of hr) (pv 5) (pv 1)))) pa_nil))))))).pt pss_never pss_nil)
      (pss_cons (ps_set (i := 4) scRen.nd rfl (.inl rfl) (pe_listVals rfl (pv 1) (by rfl) B.list (by decide +kernel)))
      (pss_cons (ps_if (pw_or (pt_not (pt_val (pe_callB (cr_all rfl) (by rfl) B.all (by decide +kernel) (pa_cons (pe_lc (own := [("name", 6)]) (g := gName 6) (tt := tYes) (te := tCall spIsName [] E0 (tCons (tVar 6) tNil)) rfl scRen.nd (pi_list (pv 4)) (blkOk_by (N := NRen) (sc := defScope (top 34)) (by decide +kernel))
          (fun _ _ _ _ _ => pg_name (i := 6) scRen.nd rfl (.inl rfl)) (fun _ _ _ _ _ => pts_nil) (fun _ _ _ _ _ => pe_call GN (hr.mono (by decide)) (by rfl) Z.N.g Z.N.F.kp bN .nil pass0 (pa_cons (pv 6) pa_nil))) pa_nil))))
        (pw_or1 (pt_cmpR op_ne (pe_callB call_lenD (by rfl) B.len PySem.boot_len (pa_cons (pe_dc (own := [("name", 6)]) (g := gName 6) (tt := tYes) (tk := tVar 6) (tv := tC (.bl true)) rfl scRen.nd (pi_list (pv 4)) (blkOk_by (N := NRen) (sc := defScope (top 34)) (by decide +kernel))
          (fun _ _ _ _ _ => pg_name (i := 6) scRen.nd rfl (.inl rfl)) (fun _ _ _ _ _ => pts_nil) (fun _ _ _ _ _ => pv 6) (fun _ _ _ _ _ => pe_bl)) pa_nil)) (pe_callB call_len_seq (by rfl) B.len PySem.boot_len (pa_cons (pv 4) pa_nil)) (nomark _)))).pt pss_never pss_nil)
      (pss_one (ps_ret (pe_tup (pa_cons (pe_callB (cr_sortedW (α := Str) (fun _ _ z => by cases z) (uK0 hr)) (by rfl) B.sorted (by decide +kernel) (pa_cons (pv 4) pa_nil))
        (pa_cons (pe_callB (cr_sortedW (α := List Str) (fun _ _ z => by cases z) (uK hr)) (by rfl) B.sorted (by decide +kernel) (pa_cons (pe_lc (own := [("lot", 7)]) (g := gName 7) (tt := tYes) (te := tCB (rSortedW Str) (tCons (tLc (iList K (tVar 7)) (gName 5) tYes (tDGet (tVar 1) (tVar 5)) [5]) tNil)) rfl scRen.nd (pi_list (pv 3)) (blkOk_by (N := NRen) (sc := defScope (top 34)) (by decide +kernel))
          (fun _ _ _ _ _ => pg_name (i := 7) scRen.nd rfl (.inl rfl)) (fun _ _ _ _ _ => pts_nil)
          (fun _ _ _ _ _ => pe_callB (cr_sortedW (α := Str) (fun _ _ z => by cases z) (uK0 hr)) (by rfl) B.sorted (by decide +kernel) (pa_cons (pe_lc (own := [("one", 5)]) (g := gName 5) (tt := tYes) (te := tDGet (tVar 1) (tVar 5)) rfl scRen.nd (pi_list (pv 7)) (blkOk_by (N := NRen) (sc := scRenI) (by decide +kernel))
            (fun _ _ _ _ _ => pg_name (i := 5) scRen.nd rfl (.inl rfl)) (fun _ _ _ _ _ => pts_nil) (fun _ _ _ _ _ => pe_dget (hu_of hr) (pv 1) (pv 5) (fun _ _ => rfl))) pa_nil))) pa_nil)) pa_nil))))))))), ?_⟩
    refine b_asg2 (Bs.start eA) (x := F.1) (y := F.2) (ed_call1 (E := E0) (P := GoodF goodName) (f := fun F => F) (ed_var (i := 0) (σ := [some v, some (.ref d), none, none, none, none, none, none]) rfl hv) M.g) fun v2 v3 A2 H2 B2 eA2 r2 r3 => ?_
    have e2 : EvD (tVar 2) [some v, some (.ref d), some v2, some v3, none, none, none, none] A2 F.1 := ed_var rfl r2
    have hd2 := eA2 _ _ hd
    have lk : ps.length = F.1.length := by rw [← M.k, List.length_map]
    have l30 := M.l
    have nm := ev_allD (K := K) (ed_lc (K := K) (σ := [some v, some (.ref d), some v2, some v3, none, none, none, none]) (H := A2) (tl := tVar 2) (tt := tYes) (te := tDIn (tVar 5) (tVar 1)) (j := 5) (vs := [5]) (fun _ : Str => true) (fun _ : Str => true) e2 (by omega) (fun _ => rfl) (fun _ _ H1 _ _ _ => et_yes) fun x y H1 e m r _ =>
      ed_din (i := 1) (d := d) rfl (e _ _ hd2) (ed_var (i := 5) (v := y) rfl r) (by rw [M.k]; exact m))
    rw [allTrue fun _ _ => rfl] at nm
    refine b_skip B2 (et_or (et_is (et_not (et_B (b := true) (fun H1 e Q q => ⟨.ref d, rfl, _, _, _, _, true, rfl, .ty _, .base (.dK (e _ _ hd2)), kit_ty (by decide +kernel), q H1 (Ex.refl H1)⟩))) rfl) fun _ => et_or (et_is (et_test (ev_op (x := .int ((kvsOf ps).length : Int)) (fun H1 e Q q => ⟨.ref d, rfl, d, kvsOf ps, rfl, e _ _ hd2, q H1 (Ex.refl H1)⟩) (ev_lenD e2) (rv_ne rfl)))
        (show (!decide (V.int ((kvsOf ps).length : Int) = V.int (F.1.length : Int))) = false by rw [decide_eq_true (by unfold kvsOf; rw [List.length_map, lk])]; rfl)) fun _ => et_not (et_B nm)) rfl fun H3 B3 => ?_
    have lv : EvD (tListVals (tVar 1)) [some v, some (.ref d), some v2, some v3, none, none, none, none] A2 (ps.map (·.2)) := fun H1 e Q q => ⟨.ref d, rfl, d, kvsOf ps, rfl, e _ _ hd2, fun p np => by
      have ee : (kvsOf ps).map (·.2) = (ps.map (·.2)).map V.str := by
        unfold kvsOf
        rw [List.map_map, List.map_map]
        rfl
      rw [ee]
      exact q _ _ (upd (fun _ => none) p (.lst ((ps.map (·.2)).map V.str))) (Ex.new np) (sup_new (Ex.refl H1) sup0 np) ⟨p, _, rfl, upd_same, reps_strs _⟩⟩
    refine b_asg B3 lv fun v4 A4 H4 B4 eA4 r4 => ?_
    have e4 : EvD (tVar 4) [some v, some (.ref d), some v2, some v3, some v4, none, none, none] A4 (ps.map (·.2)) := ed_var rfl r4
    have hd4 := eA4 _ _ hd2
    have nm2 := ev_allD (K := K) (ed_lc (K := K) (σ := [some v, some (.ref d), some v2, some v3, some v4, none, none, none]) (H := A4) (tl := tVar 4) (tt := tYes) (te := tCall spIsName [] E0 (tCons (tVar 6) tNil)) (j := 6) (vs := [6]) (fun _ : Str => true) (fun _ : Str => true) e4 (by rw [List.length_map]; omega) (fun _ => rfl) (fun _ _ H1 _ _ _ => et_yes) fun x y H1 e m r _ =>
      ed_bl (ev_isName (ed_var (i := 6) (v := y) rfl r) (by
        obtain ⟨p, hp, rfl⟩ := List.mem_map.mp m
        exact M.v p hp)))
    rw [allTrue fun _ _ => rfl] at nm2
    have dc := ed_dcS (K := K) (j := 6) (vs := [6]) e4 (by rw [List.length_map]; omega) (fun _ => rfl) (fun _ => rfl)
    rw [once_id M.n] at dc
    refine b_skip B4 (et_or (et_not (et_B nm2)) fun _ => et_is (et_test (ev_op (x := .int ((ps.map (·.2)).length : Int)) (fun H1 e Q q => dc H1 e (fun x H2 => ∃ a kvs, [x] = [V.ref a] ∧ H2 a = some (HO.dK kvs) ∧ Q (V.int ((kvs.length : Nat) : Int)) H2) fun D kvs H2 _ e2 hD hk => ⟨D, kvs, rfl, hD, by
        have ll : kvs.length = (ps.map (·.2)).length := by
          have := congrArg List.length hk
          simpa using this
        rw [ll]
        exact q H2 e2⟩) (ev_lenD e4) (rv_ne rfl))) (show (!decide (V.int ((ps.map (·.2)).length : Int) = V.int ((ps.map (·.2)).length : Int))) = false by rw [decide_eq_true rfl]; rfl)) rfl fun H5 B5 => ?_
    have hl := M.g.len
    have hl2 := M.g.len2
    have lc := ed_lc (K := K) (σ := [some v, some (.ref d), some v2, some v3, some v4, none, none, none]) (H := A4) (tl := tVar 3) (tt := tYes) (te := tCB (rSortedW Str) (tCons (tLc (iList K (tVar 7)) (gName 5) tYes (tDGet (tVar 1) (tVar 5)) [5]) tNil)) (j := 7) (vs := [7]) (fun _ : List Str => true) (fun l : List Str => srt (l.map (look ps))) (ed_var (v := v3) rfl (DV.ext eA4 r3)) (by omega) (fun _ => rfl) (fun _ _ H1 _ _ _ => et_yes) fun l z H1 e m r _ => by
      have k := ed_lc (K := K) (σ := [some v, some (.ref d), some v2, some v3, some v4, none, none, some z]) (H := H1) (tl := tVar 7) (tt := tYes) (te := tDGet (tVar 1) (tVar 5)) (j := 5) (vs := [5]) (fun _ : Str => true) (fun y : Str => look ps y) (ed_var (v := z) rfl r) (by have := hl2 l m; omega) (fun _ => rfl) (fun _ _ H1 _ _ _ => et_yes) fun y z2 H2 e2 my r2 _ =>
        ed_dget (i := 1) (d := d) rfl (e2 _ _ (e _ _ hd4)) (ed_var (i := 5) (v := z2) rfl r2) (by rw [M.k]; exact (M.g.lots l m).sub my)
      rw [List.filter_eq_self.mpr (fun _ _ => rfl)] at k
      exact ed_sorted k
    rw [List.filter_eq_self.mpr (fun _ _ => rfl)] at lc
    exact b_ret B5 (ed_pair (ed_sorted e4) (ed_sorted lc)) q
end
end K07
/-! text W19 -/
set_option Elab.async false
set_option linter.all false
set_option maxRecDepth 100000
set_option maxHeartbeats 2000000
/-! typed: ranges; a list that is added to -/
namespace Dw
open PySem PySem.Spec PyProof.Rows L2 Evl PySem.W DV
section
variable {α β γ : Type} [DecidableEq α] [Datum α] [DV α] [DecidableEq β] [Datum β] [DV β] [DecidableEq γ] [Datum γ] [DV γ] {K : PySem.W.Frag} {σ : L2.St} {H H' A A0 H0 H1 : Hp} {te ta tb : TE} {tt : TT} {D : Ends}
theorem ed_rng2 {lo hi : Int} {n : Nat} {ta : TA} {j : Nat} {vs : List Nat} (r : Nat → List β) (h : EvA ta σ A [.int lo, .int hi]) (hb : -(2 ^ 62) ≤ lo ∧ lo < 2 ^ 62 ∧ -(2 ^ 62) ≤ hi ∧ hi < 2 ^ 62) (hn : n = (hi - lo).toNat) (r0 : r 0 = []) (hl : ∀ i, i < n → (r i).length < 40000)
    (hw : ∀ x, wipe ((wipe σ vs).set j (some x)) vs = wipe σ vs)
    (turn : ∀ i, i < n → ∃ (b : Bool) (y : β), (b = true → r (i + 1) = r i ++ [y]) ∧ (b = false → r (i + 1) = r i) ∧ EvT tt ((wipe σ vs).set j (some (.int (lo + i)))) A b ∧ (b = true → EvD te ((wipe σ vs).set j (some (.int (lo + i)))) A y)) :
    EvD (tLc (iRng2 ta) (gName j) tt te vs) σ A (r n) := fun H0 e0 Q q => h H0 e0 _ fun H1 e1 => by
  subst hn
  refine ⟨lo, hi, rfl, hb, fun D nD => ?_⟩
  exact ed_lcW (walk_range (lo := lo) (n := (hi - lo).toNat)) e1 (e0.trans e1) (fun b u z => .inl z) r r0 hl (fun _ _ => True.intro) (fun i x H2 H3 hi e2 hy => by
    obtain ⟨rfl, rfl⟩ := hy
    obtain ⟨b, y, h1, h2, h3, h4⟩ := turn i hi
    exact ⟨Ex.refl _, b, y, h1, h2, fun C c => c _ (hw _) h3 h4⟩) q nD
theorem ed_rng1 {hi : Int} {n : Nat} {ta : TA} {j : Nat} {vs : List Nat} (r : Nat → List β) (h : EvA ta σ A [.int hi]) (hb : -(2 ^ 62) ≤ hi ∧ hi < 2 ^ 62) (hn : n = hi.toNat) (r0 : r 0 = []) (hl : ∀ i, i < n → (r i).length < 40000)
    (hw : ∀ x, wipe ((wipe σ vs).set j (some x)) vs = wipe σ vs)
    (turn : ∀ i, i < n → ∃ (b : Bool) (y : β), (b = true → r (i + 1) = r i ++ [y]) ∧ (b = false → r (i + 1) = r i) ∧ EvT tt ((wipe σ vs).set j (some (.int (0 + i)))) A b ∧ (b = true → EvD te ((wipe σ vs).set j (some (.int (0 + i)))) A y)) :
    EvD (tLc (iRng1 ta) (gName j) tt te vs) σ A (r n) := fun H0 e0 Q q => h H0 e0 _ fun H1 e1 => by
  subst hn
  refine ⟨hi, rfl, hb.1, hb.2, fun D nD => ?_⟩
  exact ed_lcW (walk_range (lo := 0) (n := hi.toNat)) e1 (e0.trans e1) (fun b u z => .inl z) r r0 hl (fun _ _ => True.intro) (fun i x H2 H3 hi e2 hy => by
    obtain ⟨rfl, rfl⟩ := hy
    obtain ⟨b, y, h1, h2, h3, h4⟩ := turn i hi
    exact ⟨Ex.refl _, b, y, h1, h2, fun C c => c _ (hw _) h3 h4⟩) q nD
/-- xs[i] -/
theorem ed_ixL {xs : List α} {i : Nat} {x : α} (h : EvD ta σ A xs) (hi : Ev tb σ A (.int (i : Int))) (hx : xs[i]? = some x) : EvD (tOp (rIxL K) ta tb) σ A x := fun H1 e Q q => h H1 e _ fun v H2 Hs e2 s r => hi H2 (e.trans e2) _ fun H3 e3 => by
  obtain ⟨a, vs, rfl, g1, g2⟩ := r
  have len := Reps.len g2
  obtain ⟨li, _⟩ := List.getElem?_eq_some_iff.mp hx
  have hv : vs[i]? = some vs[i] := List.getElem?_eq_getElem (by omega)
  refine ⟨a, vs, (i : Int), vs[i], rfl, rfl, sq_of (e3 _ _ (s.e _ _ g1)), ?_, q _ H3 Hs (e2.trans e3) ⟨s.e.trans e3, s.o⟩ (Reps.at g2 hv hx)⟩
  show (ixN vs.length (i : Int)).bind _ = _
  rw [ixN_nat (by omega)]
  exact hv
/-- found.extend(ys): found at D holds r -/
theorem iv_ext {D : Addr} {r ys : List β} {B : Hp} {i : Nat} {Dz : Ends} (h : IV A H0 H1 D r H) (hσ : σ[i]? = some (some (.ref D))) (e0 : Ex H0 H1) (nD : H1 D = none) (hl : r.length + ys.length < 40000) (eB : Ex B H) (BD : B D = none) (oB : ∀ b u, B b = some u → A b = some u ∨ H0 b = none) (ed : EvD te σ B ys)
    (k : ∀ H2, IV A H0 H1 D (r ++ ys) H2 → (∀ b o, b ≠ D → H b = some o → H2 b = some o) → Dz.nx σ H2) : tDrop (tBM K "list" rExtend (tVar i) (tCons te tNil)) Dz σ H := by
  obtain ⟨p2, ws, Hw, p3, p4, p5, p6⟩ := h
  refine ⟨.ref D, hσ, .inl ⟨rfl, _, sq_of p3⟩, ed H eB _ fun z H5 Hy e5 sy r5 => ?_⟩
  obtain ⟨b, us, rfl, g1, g2⟩ := r5
  refine ⟨D, b, ws, us, rfl, rfl, e5 _ _ p3, sy.e _ _ g1, by rw [Reps.len p6, Reps.len g2]; exact sz_of (by omega), k _ ⟨(p2.trans e5).mut nD, ws ++ us, jn Hw (fun c => if c = D then none else Hy c), upd_same, ?_, ?_, ?_⟩ fun b o n z => (upd_ne n).trans (e5 _ _ z)⟩
  all_goals
    have DHy : Hy D = none := by
      cases z : Hy D with
      | none => rfl
      | some o =>
        rcases sy.o D o z with w | w
        · rw [BD] at w
          cases w
        · rw [p3] at w
          cases w
  · intro c u z
    rcases jn_of z with y | y
    · rw [upd_ne (p5 c u y).1]
      exact e5 _ _ (p4 _ _ y)
    · split at y
      · cases y
      · rename_i n
        rw [upd_ne n]
        exact sy.e _ _ y
  · intro c u z
    rcases jn_of z with y | y
    · exact p5 c u y
    · split at y
      · cases y
      · rename_i n
        refine ⟨n, ?_⟩
        rcases sy.o c u y with w | w
        · exact oB c u w
        · right
          cases m : H0 c with
          | none => rfl
          | some o =>
            rw [p2 _ _ (e0 _ _ m)] at w
            cases w
  · have q1 : Ex Hw H5 := p4.trans e5
    have e6 : Ex Hy (fun c => if c = D then none else Hy c) := fun c o z => by
      show (if c = D then none else Hy c) = some o
      rw [if_neg (fun y => by rw [y, DHy] at z; cases z)]
      exact z
    have e7 : Ex (fun c => if c = D then none else Hy c) H5 := fun c o z => by
      dsimp only at z
      split at z
      · cases z
      · exact sy.e _ _ z
    exact Reps.app (Reps.ext jn_l p6) (Reps.ext (e6.trans (jn_r q1 e7)) g2)
end
end Dw
/-! text D19 -/
set_option Elab.async false
set_option linter.all false
set_option maxRecDepth 100000
set_option maxHeartbeats 4000000
/-! apart_pairs -/
namespace K07
open PySem PySem.Spec PyProof.Rows L2 Evl PySem.W Dw Dw.DV RZ StX Lot LmV LamX NdefX
/-- the pairs of the i-th lot: the first k behind it -/
def apRow (L : List (List Str)) (i k : Nat) : List (Int × Int) := ((List.range k).filter fun j => !meetP (L.getD i []) (L.getD (i + 1 + j) [])).map fun j => ((i : Int), ((i + 1 + j : Nat) : Int))
def apTo (L : List (List Str)) : Nat → List (Int × Int)
  | 0 => []
  | i + 1 => apTo L i ++ apRow L i (L.length - (i + 1))
def apartOf (L : List (List Str)) : List (Int × Int) := apTo L L.length
theorem apRow_len (L : List (List Str)) (i k : Nat) : (apRow L i k).length ≤ k := by
  unfold apRow
  rw [List.length_map]
  exact Nat.le_trans (List.length_filter_le _ _) (Nat.le_of_eq List.length_range)
theorem apTo_len (L : List (List Str)) : ∀ i, (apTo L i).length ≤ i * L.length
  | 0 => Nat.zero_le _
  | i + 1 => by
    have h1 := apTo_len L i
    have h2 := apRow_len L i (L.length - (i + 1))
    show (apTo L i ++ apRow L i _).length ≤ _
    rw [List.length_append, Nat.succ_mul]
    omega
section
variable {P : Program} {w : World} {K : PySem.W.Frag} {mg : Str → Option Value} {base : Heap} {f : Addr} {fd : FuncData} {fL fN f1 fK fS fO fH fF fT : Addr} {dL dN d1 dK dS dO dH dF dT : FuncData} {fC fM : Addr} {dC dM : FuncData}
abbrev NAp : List Str := ["family", "lots", "found", "index", "one", "place"]
theorem scAp : FnScope NAp ["family"] (defScope (top 23)) := ⟨rfl, rfl, rfl, by decide +kernel, rfl, by decide +kernel, by decide +kernel⟩
abbrev spMeetP : Sp := sp2 (fun (_ other : List Str) => other.length ≤ 1000) meetP
abbrev spApart : Sp := sp1 (fun F : FamT => GoodF goodName F ∧ F.2.length ≤ 150) (fun F => apartOf F.2)
theorem ok_apart (F : FnP K "apart_pairs" (top 23) f fd) (B : Bn mg) (Z : Fs K mg fL fN f1 fK fS fO fH fF fT dL dN d1 dK dS dO dH dF dT) (C : Df K mg "checked_family" 20 fC dC) (ME : Df K mg "meet" 17 fM dM) : FnOk P w K mg base CX0 6 f fd ["family"] spApart := by
  have GC : FnOk P w K mg base CX0 5 fC dC ["family"] spChk := ok_chk C.F B Z
  have bC : Binds K dC ["family"] [] := C.F.bindsN fun _ _ _ _ _ _ us hl => match us, hl with | [_], _ => rfl
  have GM : FnOk P w K mg base CX0 1 fM dM ["lot", "other"] spMeetP := ok_meetP ME.F B.any
  have bM : Binds K dM ["lot", "other"] [] := ME.F.bindsN fun _ _ _ _ _ _ us hl => match us, hl with | [_, _], _ => rfl
  refine F.ok scAp (fun vs H Q E h => ?_) (fun cdv A outer s H vs Q E hr h => ?_)
  · obtain ⟨v, _, _, rfl, _⟩ := h
    rfl
  · obtain ⟨v, F, A0, rfl, eA, hv, ⟨hF, h150⟩, q⟩ := h
    refine ⟨_, PSs.nox (pss_cons (ps_set (i := 1) scAp.nd rfl (.inr rfl) (pe_ix ix_tup (pe_call GC hr (by rfl) C.g C.F.kp bC .nil pass0 (pa_cons (pv 0) pa_nil)) pe_int (fun _ _ => rfl)))
      (pss_cons (ps_set (i := 2) scAp.nd rfl (.inl rfl) (pe_lst pa_nil))
      (pss_cons (ps_for PassesOwn.never rfl (pi_enum (by rfl) B.enumerate (pa_cons (pv 1) pa_nil)) (pg_tup rfl (pgs_cons (pg_name (i := 3) scAp.nd rfl (.inr rfl)) (pgs_cons (pg_name (i := 4) scAp.nd rfl (.inr rfl)) pgs_nil)))
        (pss_one (ps_expr (pe_bm PySem.F.plainAttrs_list PySem.F.slot_list_extend PySem.F.type_list_extend mt_extend (pv 2) (pa_cons (pe_lc (own := [("place", 5)]) (g := gName 5) (te := tTup (tCons (tVar 3) (tCons (tVar 5) tNil))) (tt := tNot (tB (tCall spMeetP [] E0 (tCons (tVar 4) (tCons (tOp (rIxL K) (tVar 1) (tVar 5)) tNil))))) rfl scAp.nd
          (pi_range2 (by rfl) B.range (pa_cons (pe_op op_add (pv 3) pe_int) (pa_cons (pe_callB call_len_seq (by rfl) B.len PySem.boot_len (pa_cons (pv 1) pa_nil)) pa_nil))) (blkOk_by (N := NAp) (sc := defScope (top 23)) (by decide +kernel))
          (fun _ _ _ _ _ => pg_name (i := 5) scAp.nd rfl (.inl rfl)) (fun _ _ _ _ _ => pts_one (pt_not (pt_val (pe_call GM (hr.mono (by decide)) (by rfl) ME.g ME.F.kp bM .nil pass0 (pa_cons (pv 4) (pa_cons (pe_ix ix_list (pv 1) (pv 5) (fun _ _ => rfl)) pa_nil))))))
          (fun _ _ _ _ _ => pe_tup (pa_cons (pv 3) (pa_cons (pv 5) pa_nil)))) pa_nil)))))
      (pss_one (ps_ret (pv 2)))))), ?_⟩
    refine b_asg (Bs.start eA) (ed_snd (K := K) (ed_call1 (E := E0) (P := GoodF goodName) (f := fun F => F) (ed_var (i := 0) (σ := [some v, none, none, none, none, none]) rfl hv) hF)) fun v1 A1 H1 B1 eA1 r1 => ?_
    refine ⟨by show 0 ≤ sizeLine; decide, fun D nD => ?_⟩
    obtain ⟨a, vs, rfl, g1, g2⟩ := r1
    have len := Reps.len g2
    have hl2 := hF.len2
    have D0 : A1 D = none := exf B1.h nD
    refine ⟨.ref a, rfl, a, vs, rfl, sq_of (Ex.new nD _ _ (B1.h _ _ g1)), ?_⟩
    refine for_it (walk_enum (xs := vs)) (fun i σ H' => ∃ y3 y4, σ = [some v, some (.ref a), some (.ref D), y3, y4, none] ∧ IV A1 H1 H1 D (apTo F.2 i) H') ⟨none, none, rfl, iv_start nD⟩ (fun i σ H' _ h => ?_) (fun i x σ H2 H3 hi h hy => ?_) (fun σ H2 h => ?_)
    · obtain ⟨_, _, _, h⟩ := h
      exact sq_of (h.e _ _ (B1.h _ _ g1))
    · obtain ⟨y3, y4, rfl, h⟩ := h
      obtain ⟨T, x1, y1, rfl, nT, rfl, hx, hy⟩ := hy
      cases hx
      have lx : F.2[i]? = some F.2[i] := List.getElem?_eq_getElem (by omega)
      have ry := Reps.at g2 hy lx
      refine ⟨T, [.int (i : Nat), y1], rfl, .inl (.inl upd_same), rfl, .int (i : Nat), [y1], rfl, y1, [], rfl, rfl, ?_⟩
      have rL : rep A1 (.ref a) F.2 := ⟨a, vs, rfl, g1, g2⟩
      have h2 : IV A1 H1 H1 D (apTo F.2 i) (upd H2 T (.tup [.int (i : Nat), y1])) := iv_mono h (Ex.new nT)
      have ed := ed_rng2 (n := F.2.length - (i + 1)) (σ := [some v, some (.ref a), some (.ref D), some (.int (i : Nat)), some y1, none]) (A := A1) (j := 5) (vs := [5]) (te := tTup (tCons (tVar 3) (tCons (tVar 5) tNil))) (tt := tNot (tB (tCall spMeetP [] E0 (tCons (tVar 4) (tCons (tOp (rIxL K) (tVar 1) (tVar 5)) tNil))))) (apRow F.2 i)
        (ea_cons (ev_op (ev_var (i := 3) rfl) (ev_c (v := .int 1)) (rv_I0 (g := fun i j => .int (i + j)))) (ea_cons (ev_lenD (K := K) (ed_var (i := 1) rfl rL)) ea_nil)) (by omega) (by omega) rfl (fun k hk => by have := apRow_len F.2 i k; omega) (fun _ => rfl) fun k hk => by
          have hk2 : F.2[i + 1 + k]? = some F.2[i + 1 + k] := List.getElem?_eq_getElem (by omega)
          have ci : (i : Int) + 1 + (k : Int) = ((i + 1 + k : Nat) : Int) := by omega
          have d1 : F.2.getD i [] = F.2[i] := by rw [List.getD_eq_getElem?_getD, lx]; rfl
          have d2 : F.2.getD (i + 1 + k) [] = F.2[i + 1 + k] := by rw [List.getD_eq_getElem?_getD, hk2]; rfl
          refine ⟨!meetP F.2[i] F.2[i + 1 + k], ((i : Int), ((i + 1 + k : Nat) : Int)), fun z => ?_, fun z => ?_, ?_, fun _ => ?_⟩
          · unfold apRow
            rw [List.range_succ, List.filter_append, List.map_append, List.filter_cons, List.filter_nil, d1, d2, z]
            rfl
          · unfold apRow
            rw [List.range_succ, List.filter_append, List.map_append, List.filter_cons, List.filter_nil, d1, d2, z]
            simp
          · rw [ci]
            exact et_not (et_B (ev_of (ed_call2 (E := E0) (P := fun (_ other : List Str) => other.length ≤ 1000) (f := meetP) (ed_var (i := 4) (v := y1) rfl ry) (ed_ixL (K := K) (ed_var (i := 1) rfl rL) (ev_var (i := 5) rfl) hk2) (by have := hl2 _ (List.getElem_mem (show i + 1 + k < F.2.length by omega)); omega))))
          · rw [ci]
            exact ed_pair (ed_var (i := 3) rfl rfl) (ed_var (i := 5) rfl rfl)
      have sz := apTo_len F.2 i
      have sz2 := apRow_len F.2 i (F.2.length - (i + 1))
      have sz3 : i * F.2.length ≤ 150 * 150 := Nat.mul_le_mul (by omega) h150
      refine iv_ext h2 rfl (Ex.refl H1) nD (by omega) (B1.h.trans h2.e) D0 (fun b u z => .inl z) ed fun H4 h4 _ => ?_
      exact ⟨some (.int (i : Nat)), some y1, rfl, h4⟩
    · obtain ⟨y3, y4, rfl, h⟩ := h
      refine ⟨.ref D, rfl, ?_⟩
      rw [len] at h
      exact iv_end h (Ex.refl H1) nD (B1.endD q)
end
end K07
/-! text W20 -/
set_option Elab.async false
set_option linter.all false
set_option maxRecDepth 100000
set_option maxHeartbeats 2000000
/-! typed: a dict comprehension over a list; sorted of a dict's whole numbers -/
namespace Dw
open PySem PySem.Spec PyProof.Rows L2 Evl PySem.W DV
/-- te goes on with a new dict -/
def EvDG (te : TE) (σ : L2.St) (A : Hp) (kvs : List (Key × V)) : Prop := ∀ H1, Ex A H1 → ∀ Q : VK, (∀ D H2, H1 D = none → Ex H1 H2 → H2 D = some (.dK kvs) → Q (.ref D) H2) → te σ H1 Q
section
variable {α : Type} [DecidableEq α] [Datum α] [DV α] {K : PySem.W.Frag} {σ : L2.St} {A : Hp} {tl tk tv te : TE}
theorem ed_dcG {xs : List α} {j : Nat} {vs : List Nat} (kf : α → Key) (vf : α → V) (h : EvD tl σ A xs) (hz : xs.length ≤ 40000) (hw : ∀ x, wipe ((wipe σ vs).set j (some x)) vs = wipe σ vs)
    (hk : ∀ (x : α) (v : V) H1, Ex A H1 → x ∈ xs → rep H1 v x → Ev tk ((wipe σ vs).set j (some v)) H1 (kV (kf x))) (hv : ∀ (x : α) (v : V) H1, Ex A H1 → x ∈ xs → rep H1 v x → Ev tv ((wipe σ vs).set j (some v)) H1 (vf x)) :
    EvDG (tDc (iList K tl) (gName j) tYes tk tv vs) σ A (mergeK [] (xs.map fun x => (kf x, vf x))) := fun H1 e Q q => h H1 e _ fun v H2 Hs e2 s r => by
  obtain ⟨a, us, rfl, h1, h2⟩ := r
  have len := Reps.len h2
  have ha := s.e _ _ h1
  refine ⟨a, rfl, ⟨us, sq_of ha⟩, fun D hD => ?_⟩
  have D1 : H1 D = none := fresh_back e2 hD
  have eB : Ex (jn A Hs) H2 := jn_ex (e.trans e2) s.e
  have BD : jn A Hs D = none := fresh_back eB hD
  refine ⟨fun i m H => m = us.length - i ∧ i ≤ us.length ∧ Ex H2 H ∧ H D = some (.dK (mergeK [] ((xs.take i).map fun x => (kf x, vf x)))), ⟨us.length, by simp, Nat.zero_le _, Ex.new hD, upd_same⟩, ?_⟩
  rintro i m H ⟨rfl, hi, p1, p2⟩
  have hq : SqL K H a us := sq_of (p1 _ _ ha)
  by_cases hlt : i < us.length
  · refine .inr ⟨⟨us, us[i], hq, by simp [hlt]⟩, fun H' => Ex H2 H' ∧ H' D = some (.dK (mergeK [] ((xs.take (i + 1)).map fun x => (kf x, vf x)))), fun H' p' => ⟨us.length - (i + 1), by omega, rfl, hlt, p'⟩, fun x H' y => ?_⟩
    obtain ⟨e', y⟩ := y
    subst e'
    have hx := y us hq
    obtain ⟨x0, hxs⟩ : ∃ x0, xs[i]? = some x0 := ⟨_, List.getElem?_eq_getElem (show i < xs.length by omega)⟩
    have rx : rep (jn A Hs) x x0 := DV.ext (jn_r (e.trans e2) s.e) (Reps.at h2 hx hxs)
    have mx : x0 ∈ xs := List.mem_of_getElem? hxs
    refine ⟨hw x, hk x0 x (jn A Hs) jn_l mx rx H' (eB.trans p1) _ fun H4 e4 => hv x0 x (jn A Hs) jn_l mx rx H4 ((eB.trans p1).trans e4) _ fun H5 e5 => ?_⟩
    have ln : (mergeK [] ((xs.take i).map fun x => (kf x, vf x))).length ≤ i := by
      have := length_mergeK ((xs.take i).map fun x => (kf x, vf x)) []
      rw [List.length_map, List.length_take, List.length_nil] at this
      omega
    refine ⟨_, kf x0, rfl, e5 _ _ (e4 _ _ p2), sz_lt (by omega), ((p1.trans e4).trans e5).mut hD, ?_⟩
    rw [upd_same, List.take_add_one, hxs]
    show _ = some (HO.dK (mergeK [] ((xs.take i ++ [x0]).map fun x => (kf x, vf x))))
    rw [List.map_append]
    unfold mergeK
    rw [List.foldl_append]
    rfl
  · have e3 : i = us.length := by omega
    subst e3
    rw [List.take_of_length_le (by omega)] at p2
    exact .inl ⟨⟨us, hq, Nat.le_refl _⟩, q D H D1 (e2.trans p1) p2⟩
end
theorem keys_putI {kvs : List (Key × V)} {ks : List Int} {x : Int} {v : V} (h : kvs.map (·.1) = ks.map Sum.inl) : (putK kvs (.inl x) v).map (·.1) = (if x ∈ ks then ks else ks ++ [x]).map Sum.inl := by
  have e : (kvs.any fun kv => decide (kv.1 = Sum.inl x)) = decide (x ∈ ks) := by
    rw [Bool.eq_iff_iff, List.any_eq_true, decide_eq_true_eq]
    constructor
    · rintro ⟨p, hp, z⟩
      have z := of_decide_eq_true z
      have m : p.1 ∈ kvs.map (·.1) := List.mem_map.mpr ⟨p, hp, rfl⟩
      rw [h, z] at m
      obtain ⟨y, hy, e⟩ := List.mem_map.mp m
      cases e
      exact hy
    · intro m
      have m2 : (Sum.inl x : Key) ∈ kvs.map (·.1) := by
        rw [h]
        exact List.mem_map.mpr ⟨x, m, rfl⟩
      obtain ⟨p, hp, e⟩ := List.mem_map.mp m2
      exact ⟨p, hp, decide_eq_true e⟩
  unfold putK
  rw [e]
  by_cases m : x ∈ ks
  · rw [decide_eq_true m, if_pos rfl, if_pos m, List.map_map, ← h]
    refine List.map_congr_left fun p _ => ?_
    show (if p.1 = Sum.inl x then (p.1, v) else p).1 = p.1
    split <;> rfl
  · rw [decide_eq_false m, if_neg Bool.false_ne_true, if_neg m, List.map_append, List.map_append, h]
    rfl
theorem keys_merge (vf : Int → V) : ∀ (xs : List Int) (acc : List (Key × V)) (ks : List Int), acc.map (·.1) = ks.map Sum.inl → (mergeK acc (xs.map fun x => ((Sum.inl x : Key), vf x))).map (·.1) = (xs.foldl (fun acc x => if x ∈ acc then acc else acc ++ [x]) ks).map Sum.inl
  | [], acc, ks, h => h
  | x :: r, acc, ks, h => keys_merge vf r (putK acc (Sum.inl x) (vf x)) (if x ∈ ks then ks else ks ++ [x]) (keys_putI h)
def rSrtI : List V → Hp → VK → Prop := fun xs H Q => ∃ (a : Addr) (kvs : List (Key × V)) (ks : List Int), xs = [.ref a] ∧ Rd H a (.dK kvs) ∧ kvs.map (·.1) = ks.map Sum.inl ∧
  ks.length < 64 ∧ ∀ (ys : List Int) (p : Addr), ys.Perm ks → ys.Pairwise (· ≤ ·) → H p = none → Q (.ref p) (upd H p (.lst (ys.map V.int)))
theorem cr_srtI {X : Cx} (hc : X.calm = true) : CallR X (.builtin "sorted") rSrtI := call_sortedDI hc
theorem reps_ints {H : Hp} : ∀ (ys : List Int), Reps H (ys.map V.int) ys
  | [] => .nil
  | y :: r => .cons rfl (reps_ints r)
theorem int_tot : Lot.Tot (DatumOrd.lt : Int → Int → Bool) := by
  refine ⟨fun a => decide_eq_false (Int.lt_irrefl a), fun a b c h1 h2 => ?_, fun a b h1 h2 => ?_⟩
  · have h1 := of_decide_eq_true h1
    have h2 := of_decide_eq_true h2
    exact decide_eq_true (Int.lt_trans h1 h2)
  · have h1 := of_decide_eq_false h1
    have h2 := of_decide_eq_false h2
    omega
theorem ed_srtI {σ : L2.St} {A : Hp} {te : TE} {kvs : List (Key × V)} {ks : List Int} (h : EvDG te σ A kvs) (hk : kvs.map (·.1) = ks.map Sum.inl) (n : ks.Nodup) (hl : ks.length < 64) : EvD (tCB rSrtI (tCons te tNil)) σ A (srt ks) := fun H1 e Q q => h H1 e _ fun D H2 nD e2 hD => by
  refine ⟨D, kvs, ks, rfl, .inl hD, hk, hl, fun ys p hp hs np => ?_⟩
  have ny : ys.Nodup := hp.nodup_iff.mpr n
  have ey : ys = srt ks := by
    refine Lot.asc_ext int_tot (Lot.asc_of_sorted int_tot (hs.imp fun {a b} z => decide_eq_false (by omega)) ny) (srt_asc int_tot n) fun x => hp.mem_iff.trans srt_mem.symm
  rw [ey]
  exact q _ _ (upd (fun _ => none) p (.lst ((srt ks).map V.int))) (e2.trans (Ex.new np)) (sup_new e2 ⟨fun _ _ z => (by cases z), fun _ _ z => (by cases z)⟩ np) ⟨p, _, rfl, upd_same, reps_ints _⟩
theorem reps_int_eq {H : Hp} : ∀ {vs : List V} {bs : List Int}, Reps H vs bs → vs = bs.map V.int
  | _, _, .nil => rfl
  | _, _, .cons h r => by
    rw [List.map_cons, ← reps_int_eq r]
    exact congrArg (· :: _) h
end Dw
/-! text D20 -/
set_option Elab.async false
set_option linter.all false
set_option maxRecDepth 100000
set_option maxHeartbeats 4000000
/-! size_counts -/
namespace K07
open PySem PySem.Spec PyProof.Rows L2 Evl PySem.W Dw Dw.DV RZ StX Lot LmV LamX NdefX
def sizesOf (L : List (List Str)) : List Int := srt (L.map fun l => (l.length : Int))
def countsKV (L : List (List Str)) : List (Key × V) := (srt (once (sizesOf L))).map fun k => ((Sum.inl k : Key), V.int ((sizesOf L).count k : Nat))
theorem counts_nodup (L : List (List Str)) : ((countsKV L).map (·.1)).Nodup := by
  unfold countsKV
  rw [List.map_map]
  exact List.Pairwise.map _ (fun a b h z => h (Sum.inl.inj z)) ((srt_perm _).nodup_iff.mpr (once_nodup _))
theorem sizes_len (L : List (List Str)) : (sizesOf L).length = L.length := by
  unfold sizesOf
  rw [srt_len, List.length_map]
section
variable {P : Program} {w : World} {K : PySem.W.Frag} {mg : Str → Option Value} {base : Heap} {f : Addr} {fd : FuncData} {fL fN f1 fK fS fO fH fF fT : Addr} {dL dN d1 dK dS dO dH dF dT : FuncData} {fC fM : Addr} {dC dM : FuncData}
theorem uI {k : Nat} {A : Around} (hr : Room k A) : A.units + 2 + Datum.depth Int < cLine := by
  have h := hr.un
  show A.units + 2 + 0 < cLine
  omega
abbrev NCn : List Str := ["family", "sizes", "lot", "one", "size"]
theorem scCn : FnScope NCn ["family"] (defScope (top 25)) := ⟨rfl, rfl, rfl, by decide +kernel, rfl, by decide +kernel, by decide +kernel⟩
def spCounts : Sp := fun vs H Q _ => ∃ v F A, vs = [v] ∧ Ex A H ∧ rep A v F ∧ (GoodF goodName F ∧ F.2.length ≤ 60) ∧ ∀ D H', Ex H H' → H D = none → H' D = some (.dK (countsKV F.2)) → Q (.ref D) H'
theorem ok_counts (F : FnP K "size_counts" (top 25) f fd) (B : Bn mg) (Z : Fs K mg fL fN f1 fK fS fO fH fF fT dL dN d1 dK dS dO dH dF dT) (C : Df K mg "checked_family" 20 fC dC) : FnOk P w K mg base CX0 6 f fd ["family"] spCounts := by
  have GC : FnOk P w K mg base CX0 5 fC dC ["family"] spChk := ok_chk C.F B Z
  have bC : Binds K dC ["family"] [] := C.F.bindsN fun _ _ _ _ _ _ us hl => match us, hl with | [_], _ => rfl
  refine F.ok scCn (fun vs H Q E h => ?_) (fun cdv A outer s H vs Q E hr h => ?_)
  · obtain ⟨v, _, _, rfl, _⟩ := h
    rfl
  · obtain ⟨v, F, A0, rfl, eA, hv, ⟨hF, h60⟩, q⟩ := h
    refine ⟨_, PSs.nox (pss_cons (ps_set (i := 1) scCn.nd rfl (.inr rfl) (pe_callB (cr_sortedW (α := Int) (fun _ _ z => by cases z) (uI hr)) (by rfl) B.sorted (by decide +kernel) (pa_cons (pe_lc (own := [("lot", 2)]) (g := gName 2) (tt := tYes) (te := tCB (rLenS K) (tCons (tVar 2) tNil)) rfl scCn.nd
        (pi_list (pe_ix ix_tup (pe_call GC hr (by rfl) C.g C.F.kp bC .nil pass0 (pa_cons (pv 0) pa_nil)) pe_int (fun _ _ => rfl))) (blkOk_by (N := NCn) (sc := defScope (top 25)) (by decide +kernel))
        (fun _ _ _ _ _ => pg_name (i := 2) scCn.nd rfl (.inl rfl)) (fun _ _ _ _ _ => pts_nil) (fun _ _ _ _ _ => pe_callB call_len_seq (by rfl) B.len PySem.boot_len (pa_cons (pv 2) pa_nil))) pa_nil)))
      (pss_one (ps_ret (pe_dc (own := [("size", 4)]) (g := gName 4) (tt := tYes) (tk := tVar 4) (tv := tBM K "list" (rCntI K) (tVar 1) (tCons (tVar 4) tNil)) rfl scCn.nd
        (pi_list (pe_callB (cr_srtI rfl) (by rfl) B.sorted (by decide +kernel) (pa_cons (pe_dc (own := [("one", 3)]) (g := gName 3) (tt := tYes) (tk := tVar 3) (tv := tC (.bl true)) rfl scCn.nd (pi_list (pv 1)) (blkOk_by (N := NCn) (sc := defScope (top 25)) (by decide +kernel))
          (fun _ _ _ _ _ => pg_name (i := 3) scCn.nd rfl (.inl rfl)) (fun _ _ _ _ _ => pts_nil) (fun _ _ _ _ _ => pv 3) (fun _ _ _ _ _ => pe_bl)) pa_nil))) (blkOk_by (N := NCn) (sc := defScope (top 25)) (by decide +kernel))
        (fun _ _ _ _ _ => pg_name (i := 4) scCn.nd rfl (.inl rfl)) (fun _ _ _ _ _ => pts_nil) (fun _ _ _ _ _ => pv 4) (fun _ _ _ _ _ => pe_bm PySem.F.plainAttrs_list PySem.F.slot_list_count PySem.F.type_list_count mt_lcount (pv 1) (pa_cons (pv 4) pa_nil)))))), ?_⟩
    have hl := hF.len
    have lc := ed_lc (K := K) (σ := [some v, none, none, none, none]) (H := A0) (tt := tYes) (te := tCB (rLenS K) (tCons (tVar 2) tNil)) (j := 2) (vs := [2]) (fun _ : List Str => true) (fun l : List Str => (l.length : Int)) (ed_snd (K := K) (ed_call1 (E := E0) (P := GoodF goodName) (f := fun F => F) (ed_var (i := 0) (σ := [some v, none, none, none, none]) rfl hv) hF)) (by omega) (fun _ => rfl) (fun _ _ _ _ _ _ => et_yes)
      fun l z H1 e m r _ => fun H2 e2 Q q => ev_lenD (K := K) (ed_var (i := 2) (σ := [some v, none, some z, none, none]) (H := H1) rfl r) H2 e2 Q fun H3 e3 => q _ H3 (fun _ => none) e3 ⟨fun _ _ z => (by cases z), fun _ _ z => (by cases z)⟩ rfl
    rw [List.filter_eq_self.mpr (fun _ _ => rfl)] at lc
    refine b_asg (Bs.start eA) (ed_sorted lc) fun v1 A1 H1 B1 eA1 r1 => ?_
    have r1' : rep A1 v1 (sizesOf F.2) := r1
    have e1 : EvD (tVar 1) [some v, some v1, none, none, none] A1 (sizesOf F.2) := ed_var rfl r1'
    have sl := sizes_len F.2
    have dc := ed_dcG (K := K) (j := 3) (vs := [3]) (tk := tVar 3) (tv := tC (.bl true)) (fun x : Int => (Sum.inl x : Key)) (fun _ => V.bl true) e1 (by omega) (fun _ => rfl) (fun x v H1 _ _ r => ev_var (by
      have r' : v = .int x := r
      rw [r']
      rfl)) fun x v H1 _ _ _ => ev_c
    have sr := ed_srtI (ks := once (sizesOf F.2)) dc (keys_merge (fun _ => V.bl true) (sizesOf F.2) [] [] rfl) (once_nodup _) (by have := once_len (sizesOf F.2); omega)
    have fin := ed_dcG (K := K) (j := 4) (vs := [4]) (tk := tVar 4) (tv := tBM K "list" (rCntI K) (tVar 1) (tCons (tVar 4) tNil)) (fun x : Int => (Sum.inl x : Key)) (fun k => V.int ((sizesOf F.2).count k : Nat)) sr (by rw [srt_len]; have := once_len (sizesOf F.2); omega) (fun _ => rfl) (fun x v H1 _ _ r => ev_var (by
      have r' : v = .int x := r
      rw [r']
      rfl)) fun x v' H1 e _ r => fun H2 e2 Q q => by
        have r' : v' = .int x := r
        subst r'
        obtain ⟨a, us, rfl, g1, g2⟩ := r1'
        have ha := e2 _ _ (e _ _ g1)
        rw [reps_int_eq g2] at ha
        exact ⟨.ref a, rfl, .inl ⟨rfl, _, sq_of ha⟩, .int x, rfl, a, sizesOf F.2, x, rfl, rfl, sq_of ha, q H2 (Ex.refl H2)⟩
    have em : mergeK [] ((srt (once (sizesOf F.2))).map fun x => ((Sum.inl x : Key), V.int ((sizesOf F.2).count x : Nat))) = countsKV F.2 := merge_app (acc := []) (counts_nodup F.2)
    rw [em] at fin
    refine fin H1 B1.h _ fun D H2 nD e2 hD => ?_
    exact q D H2 (B1.e.trans e2) (exf B1.e nD) hD
end
end K07
/-! text W21 -/
set_option Elab.async false
set_option linter.all false
set_option maxRecDepth 100000
set_option maxHeartbeats 2000000
/-! typed: tuples of lists, lists of tuples; a list in another order -/
namespace Dw
open PySem PySem.Spec PyProof.Rows L2 Evl PySem.W DV
def rTupS (K : PySem.W.Frag) : List V → Hp → VK → Prop := fun xs H Q => ∃ p ys, xs = [.ref p] ∧
  ((SqL K H p ys ∧ ∀ l, H l = none → Q (.ref l) (upd H l (.tup ys))) ∨ (SqT K H p ys ∧ Q (.ref p) H))
theorem cr_tupS {X : Cx} : CallR X (.type "tuple") (rTupS X.K) := call_tuple_of
section
variable {α : Type} [DecidableEq α] [Datum α] [DV α] {K : PySem.W.Frag} {σ : L2.St} {A : Hp} {te : TE}
theorem ed_tup {xs : List α} (h : EvD te σ A xs) : EvD (tCB (rTupS K) (tCons te tNil)) σ A (⟨xs⟩ : Tup α) := fun H1 e Q q => h H1 e _ fun v H2 Hs e2 s r => by
  obtain ⟨a, vs, rfl, h1, h2⟩ := r
  refine ⟨a, vs, rfl, .inl ⟨sq_of (s.e _ _ h1), fun p np => ?_⟩⟩
  exact q _ _ (upd Hs p (.tup vs)) (e2.trans (Ex.new np)) (sup_new e2 s np) ⟨p, vs, rfl, upd_same, Reps.ext (Ex.new (sup_no s np)) h2⟩
theorem ed_listT {xs : Tup α} (h : EvD te σ A xs) : EvD (tCB (rListS K) (tCons te tNil)) σ A xs.items := fun H1 e Q q => h H1 e _ fun v H2 Hs e2 s r => by
  obtain ⟨a, vs, rfl, h1, h2⟩ := r
  refine ⟨a, vs, rfl, .inr (st_of (s.e _ _ h1)), fun p np => ?_⟩
  exact q _ _ (upd Hs p (.lst vs)) (e2.trans (Ex.new np)) (sup_new e2 s np) ⟨p, vs, rfl, upd_same, Reps.ext (Ex.new (sup_no s np)) h2⟩
theorem reps_perm {H : Hp} {vs us : List V} (p : us.Perm vs) : ∀ {xs : List α}, Reps H vs xs → ∃ ys : List α, ys.Perm xs ∧ Reps H us ys := by
  induction p with
  | nil => exact fun r => ⟨_, .refl _, r⟩
  | cons x p ih =>
    intro xs r
    cases r with
    | cons h r =>
      obtain ⟨ys, p2, r2⟩ := ih r
      exact ⟨_ :: ys, p2.cons _, .cons h r2⟩
  | swap x y l =>
    intro xs r
    cases r with
    | cons h r => cases r with
      | cons h2 r => exact ⟨_ :: _ :: _, .swap _ _ _, .cons h2 (.cons h r)⟩
  | trans p1 p2 ih1 ih2 =>
    intro xs r
    obtain ⟨ys, p3, r3⟩ := ih2 r
    obtain ⟨zs, p4, r4⟩ := ih1 r3
    exact ⟨zs, p4.trans p3, r4⟩
end
end Dw
/-! text D21 -/
set_option Elab.async false
set_option linter.all false
set_option maxRecDepth 100000
set_option maxHeartbeats 4000000
/-! the spring of draws: start, draw, mixed -/
namespace K07
open PySem PySem.Spec PyProof.Rows L2 Evl
/-- all but these stay -/
def ExB (ex : List Addr) (H H' : Hp) : Prop := ∀ b o, b ∉ ex → H b = some o → H' b = some o
theorem ExB.refl (ex : List Addr) (H : Hp) : ExB ex H H := fun _ _ _ h => h
theorem ExB.trans {ex : List Addr} {H H1 H2 : Hp} (a : ExB ex H H1) (b : ExB ex H1 H2) : ExB ex H H2 := fun c o n h => b c o n (a c o n h)
theorem ExB.of {ex : List Addr} {H H' : Hp} (e : Ex H H') : ExB ex H H' := fun b o _ h => e b o h
theorem ExB.new {ex : List Addr} {H : Hp} {p : Addr} {o : HO} (h : H p = none) : ExB ex H (upd H p o) := ExB.of (Ex.new h)
theorem ExB.mut {ex : List Addr} {H : Hp} {p : Addr} {o : HO} (h : p ∈ ex) : ExB ex H (upd H p o) := fun b u n e => by
  rw [upd_ne (fun z => n (by rw [z]; exact h))]
  exact e
/-- the spring at p, its cells at c: at most n draws so far -/
structure St (H : Hp) (p c : Addr) (n : Int) : Prop where
  ne : p ≠ c
  ok : ∃ (cells : List Int) (rest cnt mix : Int), H p = some (.lst [.ref c, .int rest, .int cnt, .int mix]) ∧ H c = some (.lst (cells.map V.int)) ∧ cells.length ≤ 63 ∧ 0 ≤ rest ∧ 0 ≤ cnt ∧ cnt ≤ n ∧ 0 ≤ mix ∧ mix < 2147483647
section
variable {P : Program} {w : World} {K : PySem.W.Frag} {mg : Str → Option Value} {base : Heap} {f : Addr} {fd : FuncData}
theorem scStart : FnScope ["script"] ["script"] (defScope (top 40)) := ⟨rfl, rfl, rfl, by decide +kernel, rfl, by decide +kernel, by decide +kernel⟩
def spStart (K : PySem.W.Frag) : Sp := fun vs H Q _ => ∃ (a : Addr) (ns : List Int), vs = [.ref a] ∧ SqL K H a (ns.map V.int) ∧ ns.length ≤ 63 ∧ ∀ H' p c, Ex H H' → H p = none → H c = none → St H' p c 0 → Q (.ref p) H'
theorem ok_start (F : FnP K "_law_start" (top 40) f fd) (ml : mg "list" = none) : FnOk P w K mg base CX0 1 f fd ["script"] (spStart K) := by
  refine F.ok scStart (fun vs H Q E h => ?_) (fun cdv A outer s H vs Q E hr h => ?_)
  · obtain ⟨a, ns, rfl, _⟩ := h
    rfl
  · obtain ⟨a, ns, rfl, hS, hl, q⟩ := h
    refine ⟨_, PSs.nox (pss_one (ps_ret (pe_lst (pa_cons (pe_callTy call_list_of (by rfl) ml (by decide +kernel) (pa_cons (pv 0) pa_nil)) (pa_cons pe_int (pa_cons pe_int (pa_cons pe_int pa_nil))))))), ?_⟩
    refine ⟨.ref a, rfl, a, _, rfl, .inl hS, fun c nc => ⟨by show 4 ≤ sizeLine; decide, fun p np => ?_⟩⟩
    have ne : p ≠ c := fun z => by
      rw [z, upd_same] at np
      cases np
    have np0 : H p = none := by
      rw [upd_ne ne] at np
      exact np
    refine q _ p c ((Ex.new nc).trans (Ex.new np)) np0 nc ⟨ne, ns, 0, 0, 89, upd_same, ?_, hl, by decide, by decide, by decide, by decide, by decide⟩
    rw [upd_ne ne.symm, upd_same]
end
theorem shaped_ints : ∀ ns : List Int, SeqAt.shaped (.list (ns.map PyData.int)) = true := fun ns => by
  have h1 : ∀ ns : List Int, PyData.canLayAll0 (ns.map PyData.int) = true := by
    intro ns
    induction ns with
    | nil => rfl
    | cons a r ih =>
      show (PyData.canLay0 (.int a) && PyData.canLayAll0 (r.map PyData.int)) = true
      rw [ih]
      rfl
  have h2 : ∀ ns : List Int, (PyData.list (ns.map PyData.int)).depth ≤ 1 := by
    intro ns
    induction ns with
    | nil => simp [PyData.depth, PyData.depthAll]
    | cons a r ih =>
      simp [PyData.depth, PyData.depthAll] at ih ⊢
      omega
  unfold SeqAt.shaped
  rw [show PyData.canLay0 (.list (ns.map PyData.int)) = true from h1 ns, decide_eq_true (Nat.le_trans (h2 ns) (by decide))]
  rfl
section
variable {P : Program} {w : World} {K : PySem.W.Frag} {mg : Str → Option Value} {base : Heap} {f : Addr} {fd : FuncData}
theorem dp_ints {H : Hp} : ∀ ns : List Int, DpAll K H (ns.map V.int) (ns.map PyData.int)
  | [] => .nil
  | a :: r => .cons (.int a) (dp_ints r)
theorem eqv_nil : ∀ ns : List Int, PyData.eqv (.list (ns.map PyData.int)) (.list []) = ns.isEmpty
  | [] => rfl
  | _ :: _ => rfl
theorem scDraw : FnScope ["stream", "many", "cell", "digit", "mixed"] ["stream", "many"] (defScope (top 41)) := ⟨rfl, rfl, rfl, by decide +kernel, rfl, by decide +kernel, by decide +kernel⟩
def spDraw : Sp := fun vs H Q _ => ∃ (p c : Addr) (n many : Int), vs = [.ref p, .int many] ∧ St H p c n ∧ n ≤ 1000000 ∧ 0 < many ∧ many < 1000000 ∧
  ∀ r H', 0 ≤ r → r < many → ExB [p, c] H H' → St H' p c (n + 1) → Q (.int r) H'
theorem seqIx0 (n : Nat) : seqIndex? 0 (n + 1) = some 0 := by
  unfold seqIndex?
  simp
theorem mix_bound (z cnt : Int) (h0 : 0 ≤ cnt) (h1 : cnt ≤ 1000000) : (z % 2147483629 * 63029 + 74017 * (cnt + 1) + 61).natAbs < 2 ^ 64 := by
  have x0 := Int.emod_nonneg z (show (2147483629 : Int) ≠ 0 by decide)
  have x1 := Int.emod_lt_of_pos z (show (0 : Int) < 2147483629 by decide)
  omega
theorem hu64 {k : Nat} {A : Around} (hr : Room k A) : A.units + 64 < cLine := by
  have := hr.un
  omega
abbrev NDraw : List Str := ["stream", "many", "cell", "digit", "mixed"]
theorem ok_draw (F : FnP K "_law_draw" (top 41) f fd) (mi : mg "int" = none) : FnOk P w K mg base CX0 1 f fd ["stream", "many"] spDraw := by
  refine F.ok scDraw (fun vs H Q E h => ?_) (fun cdv A outer s H vs Q E hr h => ?_)
  · obtain ⟨p, c, n, many, rfl, _⟩ := h
    rfl
  · obtain ⟨p, c, n, many, rfl, ⟨ne, cells, rest, cnt, mix, hp, hc, hl, h0, c0, cn, m0, m1⟩, hn, hm0, hm1, q⟩ := h
    have seg : ∃ tA, PSs (cxOf CX0 P w K mg base NDraw "_law_draw" (defScope (top 41)) f cdv A outer s H E).nox ((defBody (top 41)).drop 2) tA ∧
        ∀ (y2 y3 y4 : Option V) (cells : List Int) (rest mix : Int) (H1 : Hp), H1 p = some (.lst [.ref c, .int rest, .int (cnt + 1), .int mix]) → H1 c = some (.lst (cells.map V.int)) → cells.length ≤ 63 → 0 ≤ rest → 0 ≤ mix → mix < 2147483647 → ExB [p, c] H H1 →
          tA { nx := fun _ H' => Q .non H', rt := Q } [some (.ref p), some (.int many), y2, y3, y4] H1 := by
      refine ⟨_, pss_cons (ps_if (pt_cmpR op_gt (pe_ix ix_list (pv 0) pe_int (fun _ _ => rfl)) pe_int (nomark _))
        (pss_cons (ps_set (i := 3) scDraw.nd rfl (.inl rfl) (pe_op op_mod (pe_callTy call_int1 (by rfl) mi (by decide +kernel) (pa_cons (pe_ix ix_list (pv 0) pe_int (fun _ _ => rfl)) pa_nil)) (pv 1)))
        (pss_cons (ps_asg (pe_op op_fdiv (pe_ix ix_list (pv 0) pe_int (fun _ _ => rfl)) (pv 1)) (pg_sub (pv 0) pe_int set_list))
        (pss_one (ps_ret (pv 3))))) pss_nil)
      (pss_cons (ps_set (i := 4) scDraw.nd rfl (.inl rfl) (pe_op op_mod (pe_callTy call_int1 (by rfl) mi (by decide +kernel) (pa_cons (pe_op op_pow (pe_op op_add (pe_op op_add (pe_ix ix_list (pv 0) pe_int (fun _ _ => rfl)) (pe_op op_mul pe_int (pe_ix ix_list (pv 0) pe_int (fun _ _ => rfl)))) pe_int) pe_int) pa_nil)) pe_int))
      (pss_one (ps_ret (pe_op op_mod (pe_op op_mod (pe_callTy call_int1 (by rfl) mi (by decide +kernel) (pa_cons (pe_op op_pow (pe_op op_add (pe_op op_add (pe_op op_mul (pv 4) pe_int) (pe_op op_mul pe_int (pe_ix ix_list (pv 0) pe_int (fun _ _ => rfl)))) pe_int) pe_int) pa_nil)) pe_int) (pv 1))))),
        fun y2 y3 y4 cells rest mix H1 hp hc hl h0 m0 m1 e1 => ?_⟩
      refine ⟨.ref p, rfl, p, _, 1, .int rest, rfl, rfl, sq_of hp, rfl, _, _, rfl, rfl, _, rfl, ite2 (fun e => ?_) (fun e => ?_)⟩
      · have hrest : 0 < rest := of_decide_eq_true e
        refine ⟨.ref p, rfl, p, _, 1, .int rest, rfl, rfl, sq_of hp, rfl, .inl ⟨rest, rfl, .int many, rfl, _, _, rfl, rfl, hm0, ?_⟩⟩
        refine ⟨.ref p, rfl, p, _, 1, .int rest, rfl, rfl, sq_of hp, rfl, .int many, rfl, _, _, rfl, rfl, ⟨hm0, by omega⟩, .ref p, rfl, p, _, 1, 1, rfl, rfl, hp, rfl, ?_⟩
        refine ⟨_, rfl, q _ _ (Int.emod_nonneg _ (by omega)) (Int.emod_lt_of_pos _ hm0) (e1.trans (ExB.mut (by simp))) ⟨ne, cells, rest / many, cnt + 1, mix, upd_same, by rw [upd_ne ne.symm]; exact hc, hl, Int.ediv_nonneg h0 (by omega), by omega, by omega, m0, m1⟩⟩
      · refine ⟨.ref p, rfl, p, _, 3, .int mix, rfl, rfl, sq_of hp, rfl, .ref p, rfl, p, _, 2, .int (cnt + 1), rfl, rfl, sq_of hp, rfl, _, _, rfl, rfl, .inl ⟨by decide, by decide⟩, _, _, rfl, rfl, _, _, rfl, rfl, _, _, rfl, rfl, ⟨by decide, by decide, by omega⟩,
          .inl ⟨_, rfl, _, _, rfl, rfl, (by show (0 : Int) < 2147483629; decide), ?_⟩⟩
        refine ⟨_, rfl, _, _, rfl, rfl, .inr ⟨by decide, by decide⟩, .ref p, rfl, p, _, 2, .int (cnt + 1), rfl, rfl, sq_of hp, rfl, _, _, rfl, rfl, .inl ⟨by decide, by decide⟩, _, _, rfl, rfl, _, _, rfl, rfl, _, _, rfl, rfl, ⟨by decide, by decide, mix_bound _ _ c0 (by omega)⟩,
          .inl ⟨_, rfl, _, _, rfl, rfl, (by show (0 : Int) < 1000000007; decide), .int many, rfl, _, _, rfl, rfl, hm0, ?_⟩⟩
        exact q _ _ (Int.emod_nonneg _ (by omega)) (Int.emod_lt_of_pos _ hm0) e1 ⟨ne, cells, rest, cnt + 1, mix, hp, hc, hl, h0, by omega, by omega, m0, m1⟩
    obtain ⟨tA, dA, pA⟩ := seg
    refine ⟨_, PSs.nox (pss_cons (ps_asg (pe_op op_add (pe_ix ix_list (pv 0) pe_int (fun _ _ => rfl)) pe_int) (pg_sub (pv 0) pe_int set_list))
      (pss_cons (ps_while PassesOwn.never (pw_and (pt_cmpR op_eq (pe_ix ix_list (pv 0) pe_int (fun _ _ => rfl)) pe_int (nomark _)) (pw_and1 (pt_cmpR (op_neD (hu64 hr)) (pe_ix ix_list (pv 0) pe_int (fun _ _ => rfl)) (pe_lst pa_nil) (nomark _)))).pt
        (pss_cons (ps_set (i := 2) scDraw.nd rfl (.inl rfl) (pe_bm PySem.F.plainAttrs_list PySem.F.slot_list_pop PySem.F.type_list_pop mt_popAt (pe_ix ix_list (pv 0) pe_int (fun _ _ => rfl)) (pa_cons pe_int pa_nil)))
        (pss_cons (ps_asg (pe_op op_mod (pe_callTy call_int1 (by rfl) mi (by decide +kernel) (pa_cons (pe_op op_add (pe_op op_add (pe_op op_mul (pe_ix ix_list (pv 0) pe_int (fun _ _ => rfl)) pe_int) (pv 2)) pe_int) pa_nil)) pe_int) (pg_sub (pv 0) pe_int set_list))
        (pss_one (ps_asg (pe_ifExp (pt_cmpR op_ge (pv 2) (pe_op op_pow pe_int pe_int) (nomark _)) (pv 2) pe_int) (pg_sub (pv 0) pe_int set_list)))))) dA)), ?_⟩
    -- stream[2] = stream[2] + 1
    refine ⟨.ref p, rfl, p, _, 2, .int cnt, rfl, rfl, sq_of hp, rfl, _, _, rfl, rfl, .ref p, rfl, p, _, 2, 2, rfl, rfl, hp, rfl, ?_⟩
    have e1 : ExB [p, c] H (upd H p (.lst [.ref c, .int rest, .int (cnt + 1), .int mix])) := ExB.mut (by simp)
    -- while
    refine ⟨fun m σ H1 => ∃ y2 y3 y4 cells rest mix, σ = [some (.ref p), some (.int many), y2, y3, y4] ∧ m = cells.length ∧ H1 p = some (.lst [.ref c, .int rest, .int (cnt + 1), .int mix]) ∧ H1 c = some (.lst (cells.map V.int)) ∧ cells.length ≤ 63 ∧ 0 ≤ rest ∧ 0 ≤ mix ∧ mix < 2147483647 ∧ ExB [p, c] H H1,
      ⟨cells.length, none, none, none, cells, rest, mix, rfl, rfl, upd_same, by rw [upd_ne ne.symm]; exact hc, hl, h0, m0, m1, e1⟩, fun m σ H1 hW => ?_⟩
    clear hp hc hl h0 m0 m1 e1
    obtain ⟨y2, y3, y4, cells, rest, mix, rfl, rfl, hp, hc, hl, h0, m0, m1, e1⟩ := hW
    refine ⟨.ref p, rfl, p, _, 1, .int rest, rfl, rfl, sq_of hp, rfl, rfl, _, rfl, ite2 (fun e => ?_) (fun e => ?_)⟩
    · have hrest : rest = 0 := V.int.inj (of_decide_eq_true e)
      refine ⟨.ref p, rfl, p, _, 0, .ref c, rfl, rfl, sq_of hp, rfl, Nat.zero_le _, fun l nl => ?_⟩
      have lp : p ≠ l := ne_of_none hp nl
      have lc : c ≠ l := ne_of_none hc nl
      have hp2 : (upd H1 l (.lst [])) p = some (.lst [.ref c, .int rest, .int (cnt + 1), .int mix]) := by rw [upd_ne lp]; exact hp
      have hc2 : (upd H1 l (.lst [])) c = some (.lst (cells.map V.int)) := by rw [upd_ne lc]; exact hc
      have e2 : ExB [p, c] H (upd H1 l (.lst [])) := e1.trans (ExB.new nl)
      refine ⟨_, _, .lst (sq_of hc2) (dp_ints cells), .lst (sq_of upd_same) .nil, shaped_ints cells, by decide, _, rfl, ?_⟩
      rw [eqv_nil]
      cases cells with
      | nil =>
        exact pA y2 y3 y4 [] rest mix _ hp2 hc2 hl h0 m0 m1 e2
      | cons z r =>
        rw [if_pos (by rfl)]
        refine ⟨fun σ' H' => ∃ y2 y3 y4 rest mix, σ' = [some (.ref p), some (.int many), y2, y3, y4] ∧ H' p = some (.lst [.ref c, .int rest, .int (cnt + 1), .int mix]) ∧ H' c = some (.lst (r.map V.int)) ∧ 0 ≤ rest ∧ 0 ≤ mix ∧ mix < 2147483647 ∧ ExB [p, c] H H', fun σ' H' hN => ?_, ?_⟩
        · obtain ⟨y2, y3, y4, rest, mix, rfl, g1, g2, g3, g4, g5, g6⟩ := hN
          exact ⟨r.length, by simp, y2, y3, y4, r, rest, mix, rfl, rfl, g1, g2, by simp at hl; omega, g3, g4, g5, g6⟩
        · refine ⟨.ref p, rfl, p, _, 0, .ref c, rfl, rfl, sq_of hp2, rfl, .inl ⟨rfl, _, sq_of hc2⟩, c, _, 0, 0, .int z, rfl, rfl, hc2, by decide, by decide, ?_, rfl, ?_⟩
          · rw [List.length_map, List.length_cons]
            exact seqIx0 _
          · -- stream[3] = int(stream[3] * 72103 + cell + 43) % 2147483647
            have np : p ≠ c := ne
            have hp3 : ∀ o, (upd (upd H1 l (.lst [])) c o) p = some (.lst [.ref c, .int rest, .int (cnt + 1), .int mix]) := fun o => by rw [upd_ne np]; exact hp2
            refine ⟨.ref p, rfl, p, _, 3, .int mix, rfl, rfl, sq_of (hp3 _), rfl, _, _, rfl, rfl, .inl ⟨by omega, by omega⟩, .int z, rfl, _, _, rfl, rfl, _, _, rfl, rfl, .inl ⟨_, rfl, _, _, rfl, rfl, (by show (0 : Int) < 2147483647; decide), ?_⟩⟩
            refine ⟨.ref p, rfl, p, _, 3, 3, rfl, rfl, hp3 _, rfl, ?_⟩
            have hm2 : 0 ≤ (mix * 72103 + z + 43) % 2147483647 := Int.emod_nonneg _ (by decide)
            have hm3 : (mix * 72103 + z + 43) % 2147483647 < 2147483647 := Int.emod_lt_of_pos _ (by decide)
            have fin : ∀ r1 : Int, 0 ≤ r1 → ExB [p, c] H (upd (upd (upd (upd H1 l (.lst [])) c (.lst (r.map V.int))) p (.lst [.ref c, .int rest, .int (cnt + 1), .int ((mix * 72103 + z + 43) % 2147483647)])) p (.lst [.ref c, .int r1, .int (cnt + 1), .int ((mix * 72103 + z + 43) % 2147483647)])) := fun r1 _ =>
              ((e2.trans (ExB.mut (by simp))).trans (ExB.mut (by simp))).trans (ExB.mut (by simp))
            refine ⟨.int z, rfl, _, _, rfl, rfl, ⟨by decide, by decide, by decide⟩, _, _, rfl, rfl, _, rfl, ite2 (fun e => ?_) (fun e => ?_)⟩
            · have hz : (10 : Int) ^ (18 : Int).toNat ≤ z := of_decide_eq_true e
              refine ⟨.int z, rfl, .ref p, rfl, p, _, 1, 1, rfl, rfl, upd_same, rfl, ?_⟩
              refine ⟨_, _, _, z, _, rfl, upd_same, ?_, ?_, hm2, hm3, fin z ?_⟩
              · rw [upd_ne np.symm, upd_ne np.symm, upd_same]
                rfl
              · have : (0 : Int) ≤ (10 : Int) ^ (18 : Int).toNat := by decide
                omega
              · have : (0 : Int) ≤ (10 : Int) ^ (18 : Int).toNat := by decide
                omega
            · refine ⟨.ref p, rfl, p, _, 1, 1, rfl, rfl, upd_same, rfl, ?_⟩
              refine ⟨_, _, _, 0, _, rfl, upd_same, ?_, by decide, hm2, hm3, fin 0 (by decide)⟩
              rw [upd_ne np.symm, upd_ne np.symm, upd_same]
              rfl
    · exact pA y2 y3 y4 cells rest mix _ hp hc hl h0 m0 m1 e1
end
theorem St.ext {H H' : Hp} {p c : Addr} {n m : Int} (s : St H p c n) (hp : H' p = H p) (hc : H' c = H c) (hn : n ≤ m) : St H' p c m := by
  obtain ⟨ne, cells, rest, cnt, mix, h1, h2, h3, h4, h5, h6, h7, h8⟩ := s
  exact ⟨ne, cells, rest, cnt, mix, hp.trans h1, hc.trans h2, h3, h4, h5, by omega, h7, h8⟩
theorem St.p {H : Hp} {p c : Addr} {n : Int} (s : St H p c n) : ∃ o, H p = some o := by
  obtain ⟨ne, cells, rest, cnt, mix, h1, h2, h3, h4, h5, h6, h7, h8⟩ := s
  exact ⟨_, h1⟩
theorem St.c {H : Hp} {p c : Addr} {n : Int} (s : St H p c n) : ∃ o, H c = some o := by
  obtain ⟨ne, cells, rest, cnt, mix, h1, h2, h3, h4, h5, h6, h7, h8⟩ := s
  exact ⟨_, h2⟩
theorem seqIx {r : Int} {n : Nat} (h0 : 0 ≤ r) (h1 : r < n) : seqIndex? r n = some r.toNat := by
  unfold seqIndex?
  simp
  omega
section
variable {P : Program} {w : World} {K : PySem.W.Frag} {mg : Str → Option Value} {base : Heap} {f fD : Addr} {fd fdD : FuncData}
abbrev NMixed : List Str := ["stream", "some", "left", "k"]
theorem cons_erase_perm {α : Type} : ∀ (l : List α) {i : Nat} (h : i < l.length), ([l[i]] ++ l.eraseIdx i).Perm l
  | a :: l, 0, _ => .refl _
  | a :: l, i + 1, h => by
    have h' : i < l.length := Nat.lt_of_succ_lt_succ h
    show (l[i] :: a :: l.eraseIdx i).Perm (a :: l)
    exact (List.Perm.swap _ _ _).trans ((cons_erase_perm l h').cons a)
theorem scMixed : FnScope NMixed ["stream", "some"] (defScope (top 43)) := ⟨rfl, rfl, rfl, by decide +kernel, rfl, by decide +kernel, by decide +kernel⟩
def spMixed (K : PySem.W.Frag) : Sp := fun vs H Q _ => ∃ (p c a : Addr) (xs : List V) (n : Int), vs = [.ref p, .ref a] ∧ St H p c n ∧ SqL K H a xs ∧ xs.length ≤ 1000 ∧ n + 1000 ≤ 1000000 ∧
  ∀ ys q H', ys.Perm xs → ExB [p, c] H H' → St H' p c (n + xs.length) → H q = none → H' q = some (.lst ys) → Q (.ref q) H'
theorem ok_mixed (F : FnP K "_law_mixed" (top 43) f fd) (FD : FnP K "_law_draw" (top 41) fD fdD) (gD : mg "_law_draw" = some (.ref fD)) (mi : mg "int" = none) (ml : mg "list" = none) (mn : mg "len" = none) (mr : mg "range" = none) : FnOk P w K mg base CX0 2 f fd ["stream", "some"] (spMixed K) := by
  have GD : FnOk P w K mg base CX0 1 fD fdD ["stream", "many"] spDraw := ok_draw FD mi
  have bD : Binds K fdD ["stream", "many"] [] := FD.bindsN fun _ _ _ _ _ _ us hl => match us, hl with | [_, _], _ => rfl
  refine F.ok scMixed (fun vs H Q E h => ?_) (fun cdv A outer s H vs Q E hr h => ?_)
  · obtain ⟨p, c, a, xs, n, rfl, _⟩ := h
    rfl
  · obtain ⟨p, c, a, xs, n, rfl, hst, hS, hl, hn, q⟩ := h
    refine ⟨_, PSs.nox (pss_cons (ps_set (i := 2) scMixed.nd rfl (.inr rfl) (pe_callTy call_list_of (by rfl) ml (by decide +kernel) (pa_cons (pv 1) pa_nil)))
      (pss_one (ps_ret (pe_lc (own := [("k", 3)]) (g := gName 3) (tt := tYes) (te := tBM K "list" rPopAt (tVar 2) (tCons (tCall spDraw [] E0 (tCons (tVar 0) (tCons (tCB (rLenS K) (tCons (tVar 2) tNil)) tNil))) tNil)) rfl scMixed.nd (pi_range1 (by rfl) mr (pa_cons (pe_callB call_len_seq (by rfl) mn PySem.boot_len (pa_cons (pv 2) pa_nil)) pa_nil)) (blkOk_by (N := NMixed) (sc := defScope (top 43)) (by decide +kernel))
        (fun _ _ _ _ _ => pg_name (i := 3) scMixed.nd rfl (.inl rfl)) (fun _ _ _ _ _ => pts_nil)
        (fun _ _ _ _ _ => pe_bm PySem.F.plainAttrs_list PySem.F.slot_list_pop PySem.F.type_list_pop mt_popAt (pv 2)
          (pa_cons (pe_call GD hr (by rfl) gD FD.kp bD .nil pass0 (pa_cons (pv 0) (pa_cons (pe_callB call_len_seq (by rfl) mn PySem.boot_len (pa_cons (pv 2) pa_nil)) pa_nil))) pa_nil)))))), ?_⟩
    refine ⟨.ref a, rfl, a, xs, rfl, .inl hS, fun l nl => ?_⟩
    refine ⟨.ref l, rfl, l, xs, rfl, .inl (sq_of upd_same), xs.length, rfl, ?_⟩
    refine ⟨by omega, by omega, fun D nD => ?_⟩
    have nl0 := nl
    obtain ⟨o1, hp0⟩ := hst.p
    obtain ⟨o2, hc0⟩ := hst.c
    have lp : p ≠ l := ne_of_none hp0 nl
    have lc : c ≠ l := ne_of_none hc0 nl
    have Dl : l ≠ D := ne_of_none upd_same nD
    have nD0 : H D = none := by
      rw [upd_ne Dl.symm] at nD
      exact nD
    have Dp : p ≠ D := ne_of_none hp0 nD0
    have Dc : c ≠ D := ne_of_none hc0 nD0
    rw [Int.toNat_natCast]
    refine lc_range (fun i H' => ∃ ls acc, H' l = some (.lst ls) ∧ ls.length = xs.length - i ∧ H' D = some (.lst acc) ∧ acc.length = i ∧ (acc ++ ls).Perm xs ∧ St H' p c (n + i) ∧ ExB [p, c] H H')
      ⟨xs, [], by rw [upd_ne Dl, upd_same], by omega, upd_same, rfl, .refl _, hst.ext (by rw [upd_ne Dp, upd_ne lp]) (by rw [upd_ne Dc, upd_ne lc]) (by omega), (ExB.new nl).trans (ExB.new nD)⟩ (fun i H1 hi hI => ?_) (fun H1 hI => ?_)
    · obtain ⟨ls, acc, g1, g2, g4, g5, g6, g7, g8⟩ := hI
      refine ⟨rfl, ?_⟩
      refine ⟨.ref l, rfl, .inl ⟨rfl, _, sq_of g1⟩, .ref p, rfl, .ref l, rfl, l, ls, rfl, .inl (sq_of g1), p, c, n + i, ls.length, rfl, g7, by omega, by omega, by omega, fun r H2 r0 r1 e2 s2 => ?_⟩
      have hlt : r.toNat < ls.length := by omega
      have l2 : H2 l = some (.lst ls) := e2 _ _ (by simp [lp.symm, lc.symm]) g1
      have D2 : H2 D = some (.lst acc) := e2 _ _ (by simp [Dp.symm, Dc.symm]) g4
      refine ⟨l, ls, r, r.toNat, ls[r.toNat], rfl, rfl, l2, by omega, by omega, seqIx r0 r1, List.getElem?_eq_getElem hlt, acc, by rw [upd_ne Dl.symm]; exact D2, small1000 (by omega), ?_⟩
      refine ⟨ls.eraseIdx r.toNat, acc ++ [ls[r.toNat]], by rw [upd_ne Dl, upd_same], ?_, upd_same, by simp [g5], ?_, s2.ext (by rw [upd_ne Dp, upd_ne lp]) (by rw [upd_ne Dc, upd_ne lc]) (by omega), fun b o hb hbo => ?_⟩
      · rw [List.length_eraseIdx_of_lt hlt]
        omega
      · rw [List.append_assoc]
        exact (List.Perm.append_left acc (cons_erase_perm ls hlt)).trans g6
      · have h1 : b ≠ D := ne_of_none hbo nD0
        have h2 : b ≠ l := ne_of_none hbo nl
        rw [upd_ne h1, upd_ne h2]
        exact e2 b o hb (g8 b o hb hbo)
    · obtain ⟨ls, acc, g1, g2, g4, g5, g6, g7, g8⟩ := hI
      have l0 : ls = [] := List.eq_nil_of_length_eq_zero (by omega)
      rw [l0, List.append_nil] at g6
      exact q acc D H1 g6 g8 g7 nD0 g4
end
end K07
/-! text D22 -/
set_option Elab.async false
set_option linter.all false
set_option maxRecDepth 100000
set_option maxHeartbeats 4000000
/-! each once, the law's own least lots -/
namespace K07
open PySem PySem.Spec PyProof.Rows L2 Evl PySem.W Dw Dw.DV RZ StX Lot LmV LamX NdefX
section
variable {P : Program} {w : World} {K : PySem.W.Frag} {mg : Str → Option Value} {base : Heap} {f : Addr} {fd : FuncData} {fO fW : Addr} {dO dW : FuncData}
abbrev NOnce : List Str := ["things", "found", "thing"]
theorem scOnce : FnScope NOnce ["things"] (defScope (top 46)) := ⟨rfl, rfl, rfl, by decide +kernel, rfl, by decide +kernel, by decide +kernel⟩
def spOnce (α : Type) [DecidableEq α] [Datum α] [DV α] : Sp := sp1 (fun xs : List α => xs.length ≤ 1000) once
theorem ok_once {α : Type} [DecidableEq α] [Datum α] [DV α] (hd : Datum.depth α ≤ 10) (F : FnP K "_law_each_once" (top 46) f fd) : FnOk P w K mg base CX0 1 f fd ["things"] (spOnce α) := by
  refine F.ok scOnce (fun vs H Q E h => ?_) (fun cdv A outer s H vs Q E hr h => ?_)
  · obtain ⟨v, _, _, rfl, _⟩ := h
    rfl
  · obtain ⟨v, xs, A0, rfl, eA, hv, hl, q⟩ := h
    have hu : ∀ {X : Cx}, X.A = A.deeper (envOfC "_law_each_once" (defScope (top 46)) s.heap.objs.size f cdv) → X.A.units + 1 + Datum.depth α < cLine := fun {X} e => by
      have h := hr.un
      rw [e]
      omega
    refine ⟨_, PSs.nox (pss_cons (ps_set (i := 1) scOnce.nd rfl (.inl rfl) (pe_lst pa_nil))
      (pss_cons (ps_for PassesOwn.never rfl (pi_list (pv 0)) (pg_name (i := 2) scOnce.nd rfl (.inl rfl))
        (pss_one (ps_if (pt_cmpR (op_notInW (α := α) (hu rfl)) (pv 2) (pv 1) (by rfl)) (pss_one (ps_expr (pe_bm PySem.F.plainAttrs_list PySem.F.slot_list_append PySem.F.type_list_append mt_append (pv 1) (pa_cons (pv 2) pa_nil)))) pss_nil)))
      (pss_one (ps_ret (pv 1))))), ?_⟩
    refine ⟨by show 0 ≤ sizeLine; decide, fun D nD => ?_⟩
    obtain ⟨a, vs, rfl, g1, g2⟩ := hv
    have len := Reps.len g2
    have D0 : A0 D = none := exf eA nD
    refine ⟨.ref a, rfl, a, rfl, ⟨vs, sq_of (Ex.new nD _ _ (eA _ _ g1))⟩, ?_⟩
    refine for_list (xs := vs) (fun i σ H' => ∃ y ws, σ = [some (.ref a), some (.ref D), y] ∧ Ex H H' ∧ H' D = some (.lst ws) ∧ Reps A0 ws (once (xs.take i))) ⟨none, [], rfl, Ex.new nD, upd_same, .nil⟩ (fun i σ H' _ h => ?_) (fun i x σ H' hx h => ?_) (fun σ H' h => ?_)
    · obtain ⟨_, _, _, e, _⟩ := h
      exact sq_of (e _ _ (eA _ _ g1))
    · obtain ⟨y, ws, rfl, e, h1, h2⟩ := h
      obtain ⟨li, _⟩ := List.getElem?_eq_some_iff.mp hx
      obtain ⟨x0, hk⟩ : ∃ x0, xs[i]? = some x0 := ⟨_, List.getElem?_eq_getElem (show i < xs.length by omega)⟩
      have rx := Reps.at g2 hx hk
      have eB : Ex A0 (upd A0 D (.lst ws)) := Ex.new D0
      have eB2 : Ex (upd A0 D (.lst ws)) H' := fun b o z => by
        by_cases q : b = D
        · rw [q, upd_same] at z
          rw [q, h1]
          exact z
        · rw [upd_ne q] at z
          exact e _ _ (eA _ _ z)
      have rf : rep (upd A0 D (.lst ws)) (.ref D) (once (xs.take i)) := ⟨D, ws, rfl, upd_same, Reps.ext eB h2⟩
      have tk : xs.take (i + 1) = xs.take i ++ [x0] := by
        rw [List.take_add_one, hk]
        rfl
      have ol := once_len (xs.take i)
      rw [List.length_take] at ol
      have et := et_test (ev_notInD (x := x0) (xs := once (xs.take i)) (H := upd A0 D (.lst ws)) (ed_var (σ := [some (.ref a), some (.ref D), some x]) (i := 2) (v := x) rfl (DV.ext eB rx)) (ed_var (i := 1) rfl rf))
      refine (et H' eB2 _ fun H4 e4 => ?_ : tIfS (tTest (tOp (rInW α true) (tVar 2) (tVar 1))) _ tNext _ [some (.ref a), some (.ref D), some x] H')
      by_cases m : x0 ∈ once (xs.take i)
      · rw [if_neg (by rw [decide_eq_false (fun z => z m)]; exact Bool.false_ne_true)]
        refine ⟨some x, ws, rfl, e.trans e4, e4 _ _ h1, ?_⟩
        rw [tk, once_snoc, if_pos m]
        exact h2
      · rw [if_pos (decide_eq_true m)]
        refine ⟨.ref D, rfl, .inl ⟨rfl, _, sq_of (e4 _ _ h1)⟩, x, rfl, D, ws, x, rfl, rfl, e4 _ _ h1, by rw [Reps.len h2]; exact sz_lt (by omega), some x, ws ++ [x], rfl, (e.trans e4).mut nD, upd_same, ?_⟩
        rw [tk, once_snoc, if_neg m]
        exact Reps.app h2 (.cons rx .nil)
    · obtain ⟨y, ws, rfl, e, h1, h2⟩ := h
      rw [List.take_of_length_le (by omega)] at h2
      refine ⟨.ref D, rfl, q _ H' (upd A0 D (.lst ws)) e ⟨fun b o z => ?_, fun b o z => ?_⟩ ⟨D, ws, rfl, upd_same, Reps.ext (Ex.new D0) h2⟩⟩
      · by_cases q : b = D
        · rw [q, upd_same] at z
          rw [q, h1]
          exact z
        · rw [upd_ne q] at z
          exact e _ _ (eA _ _ z)
      · by_cases q : b = D
        · rw [q]
          exact .inr nD
        · rw [upd_ne q] at z
          exact .inl z
end
end K07
/-! text D23 -/
set_option Elab.async false
set_option linter.all false
set_option maxRecDepth 100000
set_option maxHeartbeats 4000000
/-! the law's own least lots -/
namespace K07
open PySem PySem.Spec PyProof.Rows L2 Evl PySem.W Dw Dw.DV RZ StX Lot LmV LamX NdefX
def aRows (L : List (List Str)) : List (List Str) := (srt (once (L.map fun l => (⟨srt l⟩ : Tup Str)))).map (·.items)
def aLeast (L : List (List Str)) : List (List Str) := (aRows L).filter fun lot => !((aRows L).any fun other => decide (other ≠ lot) && withinP other lot)
theorem aRows_len (L : List (List Str)) : (aRows L).length ≤ L.length := by
  unfold aRows
  rw [List.length_map, srt_len]
  have := once_len (L.map fun l => (⟨srt l⟩ : Tup Str))
  rwa [List.length_map] at this
theorem aRows_mem {L : List (List Str)} {r : List Str} : r ∈ aRows L ↔ ∃ l ∈ L, srt l = r := by
  unfold aRows
  constructor
  · intro h
    obtain ⟨t, ht, rfl⟩ := List.mem_map.mp h
    obtain ⟨l, hl, e⟩ := List.mem_map.mp (mem_once.mp (srt_mem.mp ht))
    exact ⟨l, hl, by rw [← e]⟩
  · rintro ⟨l, hl, rfl⟩
    exact List.mem_map.mpr ⟨⟨srt l⟩, srt_mem.mpr (mem_once.mpr (List.mem_map.mpr ⟨l, hl, rfl⟩)), rfl⟩
section
variable {P : Program} {w : World} {K : PySem.W.Frag} {mg : Str → Option Value} {base : Heap} {f : Addr} {fd : FuncData} {fO fW : Addr} {dO dW : FuncData}
theorem uTu {k : Nat} {A : Around} (hr : Room k A) : A.units + 2 + Datum.depth (Tup Str) < cLine := by
  have h := hr.un
  show A.units + 2 + 1 < cLine
  omega
abbrev NAl : List Str := ["lots", "some", "row", "lot", "other"]
theorem scAl : FnScope NAl ["lots"] (defScope (top 38)) := ⟨rfl, rfl, rfl, by decide +kernel, rfl, by decide +kernel, by decide +kernel⟩
abbrev spWithin : Sp := sp2 (fun (one _ : List Str) => one.length ≤ 1000) withinP
abbrev spAl : Sp := sp1 (fun L : List (List Str) => L.length ≤ 1000 ∧ (∀ l ∈ L, l ≠ []) ∧ ∀ l ∈ L, l.length ≤ 100) aLeast
abbrev scAlI : Scope := { kind := .function, names := [(".0", .local), ("lot", .cell), ("any", .globalImplicit), ("some", .cell)], isGenerator := false, isCoroutine := false }
theorem ok_al (F : FnP K "_law_a_least" (top 38) f fd) (B : Bn mg) (ON : Df K mg "_law_each_once" 46 fO dO) (WI : Df K mg "_law_a_within" 37 fW dW) : FnOk P w K mg base CX0 2 f fd ["lots"] spAl := by
  have GO : FnOk P w K mg base CX0 1 fO dO ["things"] (spOnce (Tup Str)) := ok_once (by decide) ON.F
  have bO : Binds K dO ["things"] [] := ON.F.bindsN fun _ _ _ _ _ _ us hl => match us, hl with | [_], _ => rfl
  have GW : FnOk P w K mg base CX0 1 fW dW ["one", "other"] spWithin := ok_withinP WI.F B.all
  have bW : Binds K dW ["one", "other"] [] := WI.F.bindsN fun _ _ _ _ _ _ us hl => match us, hl with | [_, _], _ => rfl
  refine F.ok scAl (fun vs H Q E h => ?_) (fun cdv A outer s H vs Q E hr h => ?_)
  · obtain ⟨v, _, _, rfl, _⟩ := h
    rfl
  · obtain ⟨v, L, A0, rfl, eA, hv, ⟨hl, hne, hl2⟩, q⟩ := h
    refine ⟨_, PSs.nox (pss_cons (ps_set (i := 1) scAl.nd rfl (.inr rfl) (pe_lc (own := [("row", 2)]) (g := gName 2) (tt := tYes) (te := tCB (rListS K) (tCons (tVar 2) tNil)) rfl scAl.nd
        (pi_list (pe_callB (cr_sortedWT (β := Str) (uTu hr)) (by rfl) B.sorted (by decide +kernel) (pa_cons (pe_call GO hr (by rfl) ON.g ON.F.kp bO .nil pass0 (pa_cons (pe_lc (own := [("lot", 3)]) (g := gName 3) (tt := tYes) (te := tCB (rTupS K) (tCons (tCB (rSortedW Str) (tCons (tVar 3) tNil)) tNil)) rfl scAl.nd (pi_list (pv 0)) (blkOk_by (N := NAl) (sc := defScope (top 38)) (by decide +kernel))
          (fun _ _ _ _ _ => pg_name (i := 3) scAl.nd rfl (.inl rfl)) (fun _ _ _ _ _ => pts_nil) (fun _ _ _ _ _ => pe_callTy cr_tupS (by rfl) B.tuple (by decide +kernel) (pa_cons (pe_callB (cr_sortedW (α := Str) (fun _ _ z => by cases z) (uK0 hr)) (by rfl) B.sorted (by decide +kernel) (pa_cons (pv 3) pa_nil)) pa_nil))) pa_nil)) pa_nil)))
        (blkOk_by (N := NAl) (sc := defScope (top 38)) (by decide +kernel)) (fun _ _ _ _ _ => pg_name (i := 2) scAl.nd rfl (.inl rfl)) (fun _ _ _ _ _ => pts_nil) (fun _ _ _ _ _ => pe_callTy call_list_of (by rfl) B.list (by decide +kernel) (pa_cons (pv 2) pa_nil))))
      (pss_one (ps_ret (pe_lc (own := [("lot", 3)]) (g := gName 3) (tt := tNot (tB (tCB (rAny K) (tCons (tLc (iList K (tVar 1)) (gName 4) tYes (tAndV (tOp (rEqW (List Str) true) (tVar 4) (tVar 3)) (tCall spWithin [] E0 (tCons (tVar 4) (tCons (tVar 3) tNil)))) [4]) tNil)))) (te := tVar 3) rfl scAl.nd (pi_list (pv 1)) (blkOk_by (N := NAl) (sc := defScope (top 38)) (by decide +kernel))
        (fun _ _ _ _ _ => pg_name (i := 3) scAl.nd rfl (.inr rfl)) (fun _ _ _ _ _ => pts_one (pt_not (pt_val (pe_callB (cr_any rfl) (by rfl) B.any (by decide +kernel) (pa_cons (pe_lc (own := [("other", 4)]) (g := gName 4) (tt := tYes) rfl scAl.nd (pi_list (pv 1)) (blkOk_by (N := NAl) (sc := scAlI) (by decide +kernel))
          (fun _ _ _ _ _ => pg_name (i := 4) scAl.nd rfl (.inl rfl)) (fun _ _ _ _ _ => pts_nil)
          (fun _ _ _ _ _ => pe_and (pe_cmpR (op_neW (α := List Str) (uTL hr)) (pv 4) (pv 3) (by rfl)) (pe_one (pe_call GW hr (by rfl) WI.g WI.F.kp bW .nil pass0 (pa_cons (pv 4) (pa_cons (pv 3) pa_nil)))))) pa_nil))))) (fun _ _ _ _ _ => pv 3))))), ?_⟩
    have l1 := ed_lc (K := K) (σ := [some v, none, none, none, none]) (H := A0) (tl := tVar 0) (tt := tYes) (te := tCB (rTupS K) (tCons (tCB (rSortedW Str) (tCons (tVar 3) tNil)) tNil)) (j := 3) (vs := [3]) (fun _ : List Str => true) (fun l : List Str => (⟨srt l⟩ : Tup Str)) (ed_var rfl hv) (by omega) (fun _ => rfl) (fun _ _ _ _ _ _ => et_yes) fun l z H1 _ _ r _ => ed_tup (ed_sorted (ed_var (i := 3) (v := z) rfl r))
    rw [List.filter_eq_self.mpr (fun _ _ => rfl)] at l1
    have l2 := ed_call1 (E := E0) (P := fun xs : List (Tup Str) => xs.length ≤ 1000) (f := once) l1 (by rw [List.length_map]; exact hl)
    have l3 := ed_sortedT l2 fun t ht => by
      obtain ⟨l, hl, rfl⟩ := List.mem_map.mp (mem_once.mp ht)
      intro z
      have k : (srt l).length = 0 := by
        have z' : srt l = [] := z
        rw [z']
        rfl
      rw [srt_len] at k
      exact hne l hl (List.eq_nil_of_length_eq_zero k)
    have l4 := ed_lc (K := K) (σ := [some v, none, none, none, none]) (H := A0) (tt := tYes) (te := tCB (rListS K) (tCons (tVar 2) tNil)) (j := 2) (vs := [2]) (fun _ : Tup Str => true) (fun t : Tup Str => t.items) l3 (by
      rw [srt_len]
      have := once_len (L.map fun l => (⟨srt l⟩ : Tup Str))
      rw [List.length_map] at this
      omega) (fun _ => rfl) (fun _ _ _ _ _ _ => et_yes) fun t z H1 _ _ r _ => ed_listT (ed_var (i := 2) (v := z) rfl r)
    rw [List.filter_eq_self.mpr (fun _ _ => rfl)] at l4
    refine b_asg (Bs.start eA) l4 fun v1 A1 H1 B1 eA1 r1 => ?_
    have r1' : rep A1 v1 (aRows L) := r1
    have rl := aRows_len L
    have rm : ∀ r ∈ aRows L, r.length ≤ 100 := fun r hr => by
      obtain ⟨l, hl, rfl⟩ := aRows_mem.mp hr
      rw [srt_len]
      exact hl2 l hl
    have fin := ed_lc (K := K) (σ := [some v, some v1, none, none, none]) (H := A1) (tl := tVar 1) (tt := tNot (tB (tCB (rAny K) (tCons (tLc (iList K (tVar 1)) (gName 4) tYes (tAndV (tOp (rEqW (List Str) true) (tVar 4) (tVar 3)) (tCall spWithin [] E0 (tCons (tVar 4) (tCons (tVar 3) tNil)))) [4]) tNil)))) (te := tVar 3) (j := 3) (vs := [3])
      (fun lot : List Str => !((aRows L).any fun other => decide (other ≠ lot) && withinP other lot)) (fun lot : List Str => lot) (ed_var rfl r1') (by omega) (fun _ => rfl) (fun lot z H2 e m r => by
        have k := ed_lc (K := K) (σ := [some v, some v1, none, some z, none]) (H := H2) (tl := tVar 1) (tt := tYes) (te := tAndV (tOp (rEqW (List Str) true) (tVar 4) (tVar 3)) (tCall spWithin [] E0 (tCons (tVar 4) (tCons (tVar 3) tNil)))) (j := 4) (vs := [4]) (fun _ : List Str => true) (fun other : List Str => decide (other ≠ lot) && withinP other lot) (ed_var (v := v1) rfl (DV.ext e r1')) (by omega) (fun _ => rfl) (fun _ _ _ _ _ _ => et_yes)
          fun o z2 H3 e3 mo r2 _ => ed_bl (ev_andV (ev_neD (ed_var (i := 4) (v := z2) rfl r2) (ed_var (i := 3) (v := z) rfl (DV.ext e3 r))) fun _ => ev_of (ed_call2 (ed_var (i := 4) (v := z2) rfl r2) (ed_var (i := 3) (v := z) rfl (DV.ext e3 r)) (by have := rm o mo; omega)))
        have an := ev_anyD (K := K) k
        rw [List.filter_eq_self.mpr (fun _ _ => rfl), List.any_map] at an
        exact et_not (et_B an)) fun lot z H2 _ _ r _ => ed_var (i := 3) (v := z) rfl r
    rw [List.map_id'] at fin
    exact b_ret B1 fin q
end
end K07
/-! text P7 -/
set_option Elab.async false
set_option linter.all false
set_option maxRecDepth 100000
set_option maxHeartbeats 4000000
/-! what least_of and the law's own least lots tell: plain -/
namespace K07
open PySem PySem.Spec PyProof.Rows L2 Evl PySem.W Dw Dw.DV RZ StX Lot
theorem leK_len {a b : List Str} (h : leK a b = true) : a.length ≤ b.length := by
  have e : leK a b = !dataLt (keyD b) (keyD a) := by
    unfold leK
    rw [dataLe_eq]
    rfl
  have k : ∀ x : List Str, keyD x = Datum.toD ((x.length : Int), x) := fun _ => rfl
  rw [e, k, k, DatumOrd.lt_eq, Bool.not_eq_true'] at h
  have h2 : (if ((b.length : Int), b).1 = ((a.length : Int), a).1 then (DatumOrd.lt b a : Bool) else DatumOrd.lt (b.length : Int) (a.length : Int)) = false := h
  by_cases z : (b.length : Int) = (a.length : Int)
  · omega
  · rw [if_neg z] at h2
    have := of_decide_eq_false h2
    omega
theorem leK_tot : ∀ a b : List Str, (leK a b || leK b a) = true := fun a b => by
  have e : ∀ a b, leK a b = !(DatumOrd.lt (((b.length : Int), b) : Int × List Str) ((a.length : Int), a) : Bool) := fun a b => by
    have e : leK a b = !dataLt (keyD b) (keyD a) := by
      unfold leK
      rw [dataLe_eq]
      rfl
    have k : ∀ x : List Str, keyD x = Datum.toD ((x.length : Int), x) := fun _ => rfl
    rw [e, k, k, DatumOrd.lt_eq]
  rw [e, e]
  show ((!(if (b.length : Int) = (a.length : Int) then (DatumOrd.lt b a : Bool) else DatumOrd.lt (b.length : Int) (a.length : Int))) || !(if (a.length : Int) = (b.length : Int) then (DatumOrd.lt a b : Bool) else DatumOrd.lt (a.length : Int) (b.length : Int))) = true
  by_cases z : (b.length : Int) = (a.length : Int)
  · rw [if_pos z, if_pos z.symm]
    cases e1 : (DatumOrd.lt b a : Bool) with
    | false => rfl
    | true =>
      cases e2 : (DatumOrd.lt a b : Bool) with
      | false => rfl
      | true =>
        have q := ll_tot.tr _ _ _ e1 e2
        rw [ll_tot.ir] at q
        cases q
  · rw [if_neg z, if_neg (Ne.symm z)]
    show ((!decide ((b.length : Int) < a.length)) || !decide ((a.length : Int) < b.length)) = true
    by_cases y : (b.length : Int) < a.length
    · rw [decide_eq_false (show ¬ ((a.length : Int) < b.length) by omega)]
      simp
    · rw [decide_eq_false y]
      rfl
theorem leK_tr : ∀ a b c : List Str, leK a b = true → leK b c = true → leK a c = true := fun a b c h1 h2 => by
  have e : ∀ a b, leK a b = !(DatumOrd.lt (((b.length : Int), b) : Int × List Str) ((a.length : Int), a) : Bool) := fun a b => by
    have e : leK a b = !dataLt (keyD b) (keyD a) := by
      unfold leK
      rw [dataLe_eq]
      rfl
    have k : ∀ x : List Str, keyD x = Datum.toD ((x.length : Int), x) := fun _ => rfl
    rw [e, k, k, DatumOrd.lt_eq]
  have l1 := leK_len h1
  have l2 := leK_len h2
  rw [e] at h1 h2 ⊢
  rw [Bool.not_eq_true'] at h1 h2 ⊢
  have h1' : (if (b.length : Int) = (a.length : Int) then (DatumOrd.lt b a : Bool) else DatumOrd.lt (b.length : Int) (a.length : Int)) = false := h1
  have h2' : (if (c.length : Int) = (b.length : Int) then (DatumOrd.lt c b : Bool) else DatumOrd.lt (c.length : Int) (b.length : Int)) = false := h2
  show (if (c.length : Int) = (a.length : Int) then (DatumOrd.lt c a : Bool) else DatumOrd.lt (c.length : Int) (a.length : Int)) = false
  by_cases z : (c.length : Int) = (a.length : Int)
  · rw [if_pos z]
    rw [if_pos (by omega)] at h1' h2'
    exact Tot.letr ll_tot h1' h2'
  · rw [if_neg z]
    exact decide_eq_false (by omega)
theorem srtK_len_sorted (xs : List (List Str)) : (srtK xs).Pairwise fun a b => a.length ≤ b.length :=
  (List.pairwise_mergeSort (le := leK) leK_tr leK_tot xs).imp fun h => leK_len h
theorem least_min {xs : List (List Str)} (h : ∀ l ∈ xs, Asc sl l) : Min sl (leastOf xs) xs := by
  obtain ⟨g1, g2⟩ := greedy_all sl_tot (s := srtK xs) (fun a m => h a (srtK_mem.mp m)) (srtK_len_sorted xs)
  exact ⟨ll_asc.mp (srt_asc ll_tot g2), mn_perm g1 (fun x => srt_mem) fun x => srtK_mem.symm⟩
theorem tup_tot : Tot (DatumOrd.lt : Tup Str → Tup Str → Bool) := by
  refine ⟨fun a => ll_tot.ir a.items, fun a b c h1 h2 => ll_tot.tr a.items b.items c.items h1 h2, fun a b h1 h2 => ?_⟩
  have e := ll_tot.di a.items b.items h1 h2
  cases a
  cases b
  exact congrArg _ e
theorem aRows_asc (L : List (List Str)) : Asc (lex sl) (aRows L) := by
  refine ll_asc.mp ?_
  unfold aRows Asc
  rw [List.pairwise_map]
  exact srt_asc tup_tot (once_nodup _)
theorem aLeast_min (L : List (List Str)) : Min sl (aLeast L) (aRows L) := by
  refine ⟨List.Pairwise.filter _ (aRows_asc L), fun r => ?_⟩
  unfold aLeast
  rw [List.mem_filter]
  refine and_congr_right fun hr => ?_
  rw [Bool.not_eq_true', List.any_eq_false]
  constructor
  · intro h s hs z
    have k := h s hs
    rw [Bool.and_eq_true, not_and] at k
    by_cases e : s = r
    · exact e
    · exact absurd (List.all_eq_true.mpr fun x hx => decide_eq_true (z hx)) (k (decide_eq_true e))
  · intro h s hs z
    rw [Bool.and_eq_true] at z
    exact of_decide_eq_true z.1 (h s hs fun x hx => of_decide_eq_true (List.all_eq_true.mp z.2 x hx))
theorem srt_ascS {l : List Str} (h : l.Nodup) : Asc sl (srt l) := srt_asc sl_tot h
/-- the law's own least lots of ascending lots: as least_of tells -/
theorem aLeast_eq {L : List (List Str)} (h : ∀ l ∈ L, Asc sl l) : aLeast L = leastOf L := by
  refine Min.uniq sl_tot (aLeast_min L) (least_min h) fun x => ?_
  rw [aRows_mem]
  constructor
  · rintro ⟨l, hl, rfl⟩
    rw [srt_id sl_tot (h l hl)]
    exact hl
  · intro hx
    exact ⟨x, hx, srt_id sl_tot (h x hx)⟩
end K07
/-! text D24 -/
set_option Elab.async false
set_option linter.all false
set_option maxRecDepth 100000
set_option maxHeartbeats 4000000
/-! the law's draws of names, lots -/
namespace K07
open PySem PySem.Spec PyProof.Rows L2 Evl PySem.W Dw Dw.DV RZ StX Lot LmV LamX NdefX
/-- the end of a def that draws: what it tells stands on what was handed in (A), or is new -/
def EndS {γ : Type} [DecidableEq γ] [Datum γ] [DV γ] (A H : Hp) (p c : Addr) (n : Int) (G : γ → Prop) (Q : VK) : Prop := ∀ x u H' Hs, G x → ExB [p, c] H H' → St H' p c n → Ex Hs H' → (∀ b o, Hs b = some o → A b = some o ∨ H b = none) → rep Hs u x → Q u H'
theorem St.up {H : Hp} {p c : Addr} {n m : Int} (s : St H p c n) (h : n ≤ m) : St H p c m := s.ext rfl rfl h
/-- what is known goes on standing where only the spring changed -/
theorem exb {A H H' : Hp} {p c : Addr} (e : Ex A H) (hp : A p = none) (hc : A c = none) (b : ExB [p, c] H H') : Ex A H' := fun a o h => b a o (by
  intro m
  rcases List.mem_cons.mp m with z | m
  · rw [z, hp] at h
    cases h
  · rw [List.mem_singleton.mp m, hc] at h
    cases h) (e a o h)
def nameL : List Str := ["a", "b", "lot", "c", "ab", "keepers", "d4", "x9", "twelvesigns0", "twelvesigns1", "z"]
theorem nameL_good : ∀ x ∈ nameL, goodName x = true := by decide +kernel
theorem nameL_nodup : nameL.Nodup := by decide +kernel
section
variable {P : Program} {w : World} {K : PySem.W.Frag} {mg : Str → Option Value} {base : Heap} {f : Addr} {fd : FuncData} {fD fM fA fO fW fLo : Addr} {dD dM dA dO dW dLo : FuncData}
abbrev spDrawK : Sp := spDraw
theorem scPick : FnScope ["stream", "some"] ["stream", "some"] (defScope (top 42)) := ⟨rfl, rfl, rfl, by decide +kernel, rfl, by decide +kernel, by decide +kernel⟩
def spPick : Sp := fun vs H Q _ => ∃ (p c : Addr) (n : Int) (v : V) (xs : List Str) (A : Hp), vs = [.ref p, v] ∧ St H p c n ∧ n ≤ 900000 ∧ Ex A H ∧ A p = none ∧ A c = none ∧ rep A v xs ∧ xs ≠ [] ∧ xs.length ≤ 1000 ∧ ∀ x H', x ∈ xs → ExB [p, c] H H' → St H' p c (n + 1) → Q (.str x) H'
theorem ok_pick (F : FnP K "_law_pick" (top 42) f fd) (B : Bn mg) (DR : Df K mg "_law_draw" 41 fD dD) : FnOk P w K mg base CX0 2 f fd ["stream", "some"] spPick := by
  have GD : FnOk P w K mg base CX0 1 fD dD ["stream", "many"] spDraw := ok_draw DR.F B.int
  have bD : Binds K dD ["stream", "many"] [] := DR.F.bindsN fun _ _ _ _ _ _ us hl => match us, hl with | [_, _], _ => rfl
  refine F.ok scPick (fun vs H Q E h => ?_) (fun cdv A outer s H vs Q E hr h => ?_)
  · obtain ⟨p, c, n, v, xs, _, rfl, _⟩ := h
    rfl
  · obtain ⟨p, c, n, v, xs, A0, rfl, hst, hn, eA, Ap, Ac, ⟨a, us, rfl, g1, g2⟩, hne, hl, q⟩ := h
    refine ⟨_, PSs.nox (pss_one (ps_ret (pe_ix ix_list (pv 1) (pe_call GD hr (by rfl) DR.g DR.F.kp bD .nil pass0 (pa_cons (pv 0) (pa_cons (pe_callB call_len_seq (by rfl) B.len PySem.boot_len (pa_cons (pv 1) pa_nil)) pa_nil))) (fun _ _ => rfl)))), ?_⟩
    have len := Reps.len g2
    have pos : 0 < xs.length := List.length_pos_iff.mpr hne
    refine ⟨.ref a, rfl, .ref p, rfl, .ref a, rfl, a, us, rfl, .inl (sq_of (eA _ _ g1)), p, c, n, (us.length : Int), rfl, hst, by omega, by omega, by omega, fun r H2 r0 r1 e2 s2 => ?_⟩
    have hlt : r.toNat < us.length := by omega
    have A2 := exb eA Ap Ac e2
    have hv : us[r.toNat]? = some us[r.toNat] := List.getElem?_eq_getElem hlt
    obtain ⟨x, hx⟩ : ∃ x, xs[r.toNat]? = some x := ⟨_, List.getElem?_eq_getElem (show r.toNat < xs.length by omega)⟩
    have rx : us[r.toNat] = .str x := Reps.at g2 hv hx
    refine ⟨a, us, r, us[r.toNat], rfl, rfl, sq_of (A2 _ _ g1), ?_, ?_⟩
    · show (ixN us.length r).bind _ = _
      have e : ixN us.length r = some r.toNat := by
        have k := ixN_nat (n := us.length) (j := r.toNat) hlt
        rwa [show ((r.toNat : Nat) : Int) = r by omega] at k
      rw [e]
      exact hv
    · rw [rx]
      exact q x H2 (List.mem_of_getElem? hx) e2 s2
theorem scNames : FnScope ["stream", "many", "some"] ["stream", "many"] (defScope (top 36)) := ⟨rfl, rfl, rfl, by decide +kernel, rfl, by decide +kernel, by decide +kernel⟩
structure Nms (many : Int) (ks : List Str) : Prop where
  k : GoodK goodName ks
  l : (ks.length : Int) = many
  s : ks ⊆ nameL
def spNames : Sp := fun vs H Q _ => ∃ (p c : Addr) (n many : Int), vs = [.ref p, .int many] ∧ St H p c n ∧ n ≤ 900000 ∧ 1 ≤ many ∧ many ≤ 11 ∧ EndS (fun _ => none) H p c (n + 20) (Nms many) Q
theorem cut_take {δ : Type} (xs : List δ) (m : Int) (h0 : 0 ≤ m) (h1 : m.toNat ≤ xs.length) : cutT xs none (some m) = xs.take m.toNat := by
  have e : HT.sIx xs.length xs.length (some m) = m.toNat := by
    show (if m < 0 then (m + (xs.length : Int)).toNat else min m.toNat xs.length) = m.toNat
    rw [if_neg (by omega)]
    omega
  show (xs.drop (HT.sIx xs.length 0 none)).take (HT.sIx xs.length xs.length (some m) - HT.sIx xs.length 0 none) = _
  rw [e]
  rfl
theorem ok_names (F : FnP K "_law_a_names" (top 36) f fd) (B : Bn mg) (DR : Df K mg "_law_draw" 41 fD dD) (MI : Df K mg "_law_mixed" 43 fM dM) : FnOk P w K mg base CX0 3 f fd ["stream", "many"] spNames := by
  have GM : FnOk P w K mg base CX0 2 fM dM ["stream", "some"] (spMixed K) := ok_mixed MI.F DR.F DR.g B.int B.list B.len B.range
  have bM : Binds K dM ["stream", "some"] [] := MI.F.bindsN fun _ _ _ _ _ _ us hl => match us, hl with | [_, _], _ => rfl
  refine F.ok scNames (fun vs H Q E h => ?_) (fun cdv A outer s H vs Q E hr h => ?_)
  · obtain ⟨p, c, n, many, rfl, _⟩ := h
    rfl
  · obtain ⟨p, c, n, many, rfl, hst, hn, h1, h2, q⟩ := h
    refine ⟨_, PSs.nox (pss_cons (ps_set (i := 2) scNames.nd rfl (.inl rfl) (pe_lst (pa_cons pe_str (pa_cons pe_str (pa_cons pe_str (pa_cons pe_str (pa_cons pe_str (pa_cons pe_str (pa_cons pe_str (pa_cons pe_str (pa_cons pe_str (pa_cons pe_str (pa_cons pe_str pa_nil)))))))))))))
      (pss_one (ps_ret (pe_callB (cr_sortedW (α := Str) (fun _ _ z => by cases z) (uK0 hr)) (by rfl) B.sorted (by decide +kernel) (pa_cons (pe_slice sl_list (pe_call GM hr (by rfl) MI.g MI.F.kp bM .nil pass0 (pa_cons (pv 0) (pa_cons (pv 2) pa_nil))) po_none (po_some (pv 1))) pa_nil))))), ?_⟩
    refine ⟨by show 11 ≤ sizeLine; decide, fun l nl => ?_⟩
    obtain ⟨o1, hp0⟩ := hst.p
    obtain ⟨o2, hc0⟩ := hst.c
    have lp : p ≠ l := ne_of_none hp0 nl
    have lc : c ≠ l := ne_of_none hc0 nl
    refine ⟨.ref p, rfl, .ref l, rfl, p, c, l, nameL.map V.str, n, rfl, hst.ext (by rw [upd_ne lp]) (by rw [upd_ne lc]) (Int.le_refl _), sq_of upd_same, by decide +kernel, by omega, fun ys qa H2 perm e2 s2 nq hq => ?_⟩
    obtain ⟨ns, pn, rn⟩ := reps_perm (α := Str) perm (reps_strs (H := fun _ => none) nameL)
    have ey := reps_str rn
    subst ey
    have ln : ns.length = 11 := pn.length_eq
    refine ⟨.int many, rfl, many, rfl, qa, _, rfl, sq_of hq, fun r nr => ?_⟩
    have ec : cutV (ns.map V.str) none (some many) = (ns.take many.toNat).map V.str := by
      have e : cutV (ns.map V.str) none (some many) = cutT (ns.map V.str) none (some many) := rfl
      rw [e, cut_take _ _ (by omega) (by rw [List.length_map]; omega), List.map_take]
    rw [ec]
    refine ⟨r, ns.take many.toNat, upd (fun _ => none) r (.lst ((ns.take many.toNat).map V.str)), rfl, fun b o z => ?_, ⟨r, _, rfl, upd_same, reps_strs _⟩, fun p2 ws np hr2 => ?_⟩
    · by_cases y : b = r
      · rw [y, upd_same] at z ⊢
        exact z
      · rw [upd_ne y] at z
        cases z
    have ws2 := reps_str hr2
    subst ws2
    have nd : ns.Nodup := pn.nodup_iff.mpr nameL_nodup
    have ms : ∀ x ∈ srt (ns.take many.toNat), x ∈ nameL := fun x hx => pn.mem_iff.mp (List.mem_of_mem_take (srt_mem.mp hx))
    have lk : (srt (ns.take many.toNat)).length = many.toNat := by
      rw [srt_len, List.length_take]
      omega
    have r2 : r ≠ p2 := fun z => by
      rw [← z, upd_same] at np
      cases np
    have nr2 : H2 p2 = none := by
      rw [upd_ne r2.symm] at np
      exact np
    have old : ∀ b o, H b = some o → b ≠ l := fun b o z => ne_of_none z nl
    have eH : ExB [p, c] H H2 := fun b o m z => e2 b o m (by rw [upd_ne (old b o z)]; exact z)
    obtain ⟨o3, hp3⟩ := s2.p
    obtain ⟨o4, hc3⟩ := s2.c
    refine q (srt (ns.take many.toNat)) (.ref p2) _ (upd (fun _ => none) p2 (.lst ((srt (ns.take many.toNat)).map V.str))) ⟨⟨fun z => ?_, fun x hx => nameL_good x (ms x hx), srt_ascS (nd.sublist (List.take_sublist _ _)), by omega⟩, by omega, ms⟩ (eH.trans ((ExB.new nr).trans (ExB.new np))) ((s2.ext (by rw [upd_ne (ne_of_none (by rw [upd_ne (ne_of_none hp3 nr)]; exact hp3) np), upd_ne (ne_of_none hp3 nr)]) (by rw [upd_ne (ne_of_none (by rw [upd_ne (ne_of_none hc3 nr)]; exact hc3) np), upd_ne (ne_of_none hc3 nr)]) (Int.le_refl _)).up (by
        have : ((nameL.map V.str).length : Int) = 11 := by decide +kernel
        omega)) (fun b o z => ?_) (fun b o z => ?_) ⟨p2, _, rfl, upd_same, reps_strs _⟩
    · have k := congrArg List.length z
      rw [lk] at k
      simp at k
      omega
    · by_cases y : b = p2
      · rw [y, upd_same] at z ⊢
        exact z
      · rw [upd_ne y] at z
        cases z
    · by_cases y : b = p2
      · rw [y]
        right
        cases m : H p2 with
        | none => rfl
        | some o =>
          by_cases mm : p2 ∈ [p, c]
          · rcases List.mem_cons.mp mm with w | mm
            · rw [w] at nr2
              rw [hp3] at nr2
              cases nr2
            · rw [List.mem_singleton.mp mm] at nr2
              rw [hc3] at nr2
              cases nr2
          · rw [eH _ _ mm m] at nr2
            cases nr2
      · rw [upd_ne y] at z
        cases z
end
end K07
/-! text D25 -/
set_option Elab.async false
set_option linter.all false
set_option maxRecDepth 100000
set_option maxHeartbeats 4000000
/-! the law's draws of lots, families -/
namespace K07
open PySem PySem.Spec PyProof.Rows L2 Evl PySem.W Dw Dw.DV RZ StX Lot LmV LamX NdefX
theorem goodF_least {ks : List Str} {ls : List (List Str)} (hk : GoodK goodName ks) (hn : ls ≠ []) (hl : ∀ l ∈ ls, GoodL ks l) (h : ls.length ≤ 1000) : GoodF goodName (ks, leastOf ls) := by
  have M := least_min (xs := ls) fun l m => (hl l m).asc
  refine ⟨hk, fun z => ?_, Nat.le_trans leastOf_len h, fun l m => hl l (leastOf_mem m), M.asc, M.anti⟩
  cases ls with
  | nil => exact hn rfl
  | cons a r =>
    obtain ⟨x, hx, _⟩ := M.cof sl_tot (fun l m => (hl l m).asc) a List.mem_cons_self
    have z' : leastOf (a :: r) = [] := z
    rw [z'] at hx
    cases hx
theorem nPC {H : Hp} {p c b : Addr} {n : Int} (s : St H p c n) (h : H b = none) : b ∉ [p, c] := fun m => by
  obtain ⟨o1, h1⟩ := s.p
  obtain ⟨o2, h2⟩ := s.c
  rcases List.mem_cons.mp m with z | m
  · rw [z, h1] at h
    cases h
  · rw [List.mem_singleton.mp m, h2] at h
    cases h
/-- new behind a draw: new ahead of it -/
theorem exb_none {H H' : Hp} {p c b : Addr} {n : Int} (e : ExB [p, c] H H') (s : St H' p c n) (h : H' b = none) : H b = none := by
  cases m : H b with
  | none => rfl
  | some o =>
    rw [e b o (nPC s h) m] at h
    cases h
theorem St.new {H : Hp} {p c b : Addr} {n : Int} {o : HO} (s : St H p c n) (h : H b = none) : St (upd H b o) p c n := by
  have m := nPC s h
  refine s.ext (upd_ne fun z => ?_) (upd_ne fun z => ?_) (Int.le_refl _)
  · exact m (by rw [← z]; simp)
  · exact m (by rw [← z]; simp)
theorem St.mut {H : Hp} {p c b : Addr} {n : Int} {o : HO} (s : St H p c n) (m : b ∉ [p, c]) : St (upd H b o) p c n := by
  refine s.ext (upd_ne fun z => ?_) (upd_ne fun z => ?_) (Int.le_refl _)
  · exact m (by rw [← z]; simp)
  · exact m (by rw [← z]; simp)
section
variable {P : Program} {w : World} {K : PySem.W.Frag} {mg : Str → Option Value} {base : Heap} {f : Addr} {fd : FuncData} {fD fM fA fO fW fLo : Addr} {dD dM dA dO dW dLo : FuncData}
def spLotD : Sp := fun vs H Q _ => ∃ (p c : Addr) (n : Int) (v : V) (ks : List Str) (A : Hp), vs = [.ref p, v] ∧ St H p c n ∧ n ≤ 900000 ∧ Ex A H ∧ A p = none ∧ A c = none ∧ rep A v ks ∧ GoodK goodName ks ∧ ks.length ≤ 30 ∧ EndS A H p c (n + 40) (GoodL ks) Q
theorem scLotD : FnScope ["stream", "keepers"] ["stream", "keepers"] (defScope (top 39)) := ⟨rfl, rfl, rfl, by decide +kernel, rfl, by decide +kernel, by decide +kernel⟩
theorem ok_lotD (F : FnP K "_law_a_lot" (top 39) f fd) (B : Bn mg) (DR : Df K mg "_law_draw" 41 fD dD) (MI : Df K mg "_law_mixed" 43 fM dM) : FnOk P w K mg base CX0 3 f fd ["stream", "keepers"] spLotD := by
  have GD : FnOk P w K mg base CX0 1 fD dD ["stream", "many"] spDraw := ok_draw DR.F B.int
  have bD : Binds K dD ["stream", "many"] [] := DR.F.bindsN fun _ _ _ _ _ _ us hl => match us, hl with | [_, _], _ => rfl
  have GM : FnOk P w K mg base CX0 2 fM dM ["stream", "some"] (spMixed K) := ok_mixed MI.F DR.F DR.g B.int B.list B.len B.range
  have bM : Binds K dM ["stream", "some"] [] := MI.F.bindsN fun _ _ _ _ _ _ us hl => match us, hl with | [_, _], _ => rfl
  refine F.ok scLotD (fun vs H Q E h => ?_) (fun cdv A outer s H vs Q E hr h => ?_)
  · obtain ⟨p, c, n, v, _, _, rfl, _⟩ := h
    rfl
  · obtain ⟨p, c, n, v, ks, A0, rfl, hst, hn, eA, Ap, Ac, ⟨a, us, rfl, g1, g2⟩, hk, h30, q⟩ := h
    refine ⟨_, PSs.nox (pss_one (ps_ret (pe_callB (cr_sortedW (α := Str) (fun _ _ z => by cases z) (uK0 hr)) (by rfl) B.sorted (by decide +kernel) (pa_cons (pe_slice sl_list (pe_call GM hr (by rfl) MI.g MI.F.kp bM .nil pass0 (pa_cons (pv 0) (pa_cons (pv 1) pa_nil))) po_none
      (po_some (pe_op op_add pe_int (pe_call GD (hr.mono (by decide)) (by rfl) DR.g DR.F.kp bD .nil pass0 (pa_cons (pv 0) (pa_cons (pe_callB call_len_seq (by rfl) B.len PySem.boot_len (pa_cons (pv 1) pa_nil)) pa_nil)))))) pa_nil)))), ?_⟩
    have len := Reps.len g2
    have eus := reps_str g2
    have pos : 0 < ks.length := List.length_pos_iff.mpr hk.ne
    refine ⟨.ref p, rfl, .ref a, rfl, p, c, a, us, n, rfl, hst, sq_of (eA _ _ g1), by omega, by omega, fun ys qa H2 perm e2 s2 nq hq => ?_⟩
    have A2 := exb eA Ap Ac e2
    refine ⟨.ref p, rfl, .ref a, rfl, a, us, rfl, .inl (sq_of (A2 _ _ g1)), p, c, n + (us.length : Int), (us.length : Int), rfl, s2, by omega, by omega, by omega, fun r H3 r0 r1 e3 s3 => ?_⟩
    have qpc : qa ∉ [p, c] := nPC hst nq
    have hq3 : H3 qa = some (.lst ys) := e3 _ _ qpc hq
    obtain ⟨ns, pn, rn⟩ := reps_perm perm g2
    have ey := reps_str rn
    subst ey
    have ln : ns.length = ks.length := pn.length_eq
    refine ⟨1, r, rfl, rfl, 1 + r, rfl, qa, _, rfl, sq_of hq3, fun z nz => ?_⟩
    have ec : cutV (ns.map V.str) none (some (1 + r)) = (ns.take (1 + r).toNat).map V.str := by
      have e : cutV (ns.map V.str) none (some (1 + r)) = cutT (ns.map V.str) none (some (1 + r)) := rfl
      rw [e, cut_take _ _ (by omega) (by rw [List.length_map]; omega), List.map_take]
    rw [ec]
    refine ⟨z, ns.take (1 + r).toNat, upd (fun _ => none) z (.lst ((ns.take (1 + r).toNat).map V.str)), rfl, fun b o y => ?_, ⟨z, _, rfl, upd_same, reps_strs _⟩, fun p2 ws np hr2 => ?_⟩
    · by_cases w : b = z
      · rw [w, upd_same] at y ⊢
        exact y
      · rw [upd_ne w] at y
        cases y
    have ws2 := reps_str hr2
    subst ws2
    have nd : ns.Nodup := pn.nodup_iff.mpr (hk.asc.nodup sl_tot)
    have ms : ∀ x ∈ srt (ns.take (1 + r).toNat), x ∈ ks := fun x hx => pn.mem_iff.mp (List.mem_of_mem_take (srt_mem.mp hx))
    have lk : (srt (ns.take (1 + r).toNat)).length = (1 + r).toNat := by
      rw [srt_len, List.length_take]
      omega
    have s4 : St (upd H3 z (.lst ((ns.take (1 + r).toNat).map V.str))) p c (n + (us.length : Int) + 1) := s3.new nz
    have s5 := s4.new (o := .lst ((srt (ns.take (1 + r).toNat)).map V.str)) np
    have e23 := e2.trans e3
    have e5 : ExB [p, c] H (upd (upd H3 z (.lst ((ns.take (1 + r).toNat).map V.str))) p2 (.lst ((srt (ns.take (1 + r).toNat)).map V.str))) := e23.trans ((ExB.new nz).trans (ExB.new np))
    refine q (srt (ns.take (1 + r).toNat)) (.ref p2) _ (upd (fun _ => none) p2 (.lst ((srt (ns.take (1 + r).toNat)).map V.str))) ⟨fun y => ?_, srt_ascS (nd.sublist (List.take_sublist _ _)), ms⟩ e5 (s5.up (by omega)) (fun b o y => ?_) (fun b o y => ?_) ⟨p2, _, rfl, upd_same, reps_strs _⟩
    · have k := congrArg List.length y
      rw [lk] at k
      simp at k
      omega
    · by_cases w : b = p2
      · rw [w, upd_same] at y ⊢
        exact y
      · rw [upd_ne w] at y
        cases y
    · by_cases w : b = p2
      · rw [w]
        exact .inr (exb_none (e23.trans (ExB.new nz)) s4 np)
      · rw [upd_ne w] at y
        cases y
def spOf : Sp := fun vs H Q _ => ∃ (p c : Addr) (n : Int) (v : V) (ks : List Str) (A : Hp), vs = [.ref p, v] ∧ St H p c n ∧ n ≤ 800000 ∧ Ex A H ∧ A p = none ∧ A c = none ∧ rep A v ks ∧ GoodK goodName ks ∧ ks.length ≤ 30 ∧ EndS A H p c (n + 300) (fun F : FamT => F.1 = ks ∧ GoodF goodName F ∧ F.2.length ≤ 5) Q
abbrev NOf : List Str := ["stream", "keepers", "k"]
theorem scOf : FnScope NOf ["stream", "keepers"] (defScope (top 47)) := ⟨rfl, rfl, rfl, by decide +kernel, rfl, by decide +kernel, by decide +kernel⟩
theorem ok_of (F : FnP K "_law_of" (top 47) f fd) (B : Bn mg) (DR : Df K mg "_law_draw" 41 fD dD) (MI : Df K mg "_law_mixed" 43 fM dM) (AL : Df K mg "_law_a_least" 38 fA dA) (ON : Df K mg "_law_each_once" 46 fO dO) (WI : Df K mg "_law_a_within" 37 fW dW) (LO : Df K mg "_law_a_lot" 39 fLo dLo) :
    FnOk P w K mg base CX0 4 f fd ["stream", "keepers"] spOf := by
  have GD : FnOk P w K mg base CX0 1 fD dD ["stream", "many"] spDraw := ok_draw DR.F B.int
  have bD : Binds K dD ["stream", "many"] [] := DR.F.bindsN fun _ _ _ _ _ _ us hl => match us, hl with | [_, _], _ => rfl
  have GA : FnOk P w K mg base CX0 2 fA dA ["lots"] spAl := ok_al AL.F B ON WI
  have bA : Binds K dA ["lots"] [] := AL.F.bindsN fun _ _ _ _ _ _ us hl => match us, hl with | [_], _ => rfl
  have GL : FnOk P w K mg base CX0 3 fLo dLo ["stream", "keepers"] spLotD := ok_lotD LO.F B DR MI
  have bL : Binds K dLo ["stream", "keepers"] [] := LO.F.bindsN fun _ _ _ _ _ _ us hl => match us, hl with | [_, _], _ => rfl
  refine F.ok scOf (fun vs H Q E h => ?_) (fun cdv A outer s H vs Q E hr h => ?_)
  · obtain ⟨p, c, n, v, _, _, rfl, _⟩ := h
    rfl
  · obtain ⟨p, c, n, v, ks, A0, rfl, hst, hn, eA, Ap, Ac, hv, hk, h30, q⟩ := h
    refine ⟨_, PSs.nox (pss_one (ps_ret (pe_tup (pa_cons (pe_callTy call_list_of (by rfl) B.list (by decide +kernel) (pa_cons (pv 1) pa_nil)) (pa_cons (pe_call GA (hr.mono (by decide)) (by rfl) AL.g AL.F.kp bA .nil pass0 (pa_cons
      (pe_lc (own := [("k", 2)]) (g := gName 2) (tt := tYes) (te := tCall spLotD [] E0 (tCons (tVar 0) (tCons (tVar 1) tNil))) rfl scOf.nd (pi_range1 (by rfl) B.range (pa_cons (pe_op op_add pe_int (pe_call GD (hr.mono (by decide)) (by rfl) DR.g DR.F.kp bD .nil pass0 (pa_cons (pv 0) (pa_cons pe_int pa_nil)))) pa_nil)) (blkOk_by (N := NOf) (sc := defScope (top 47)) (by decide +kernel))
        (fun _ _ _ _ _ => pg_name (i := 2) scOf.nd rfl (.inl rfl)) (fun _ _ _ _ _ => pts_nil) (fun _ _ _ _ _ => pe_call GL hr (by rfl) LO.g LO.F.kp bL .nil pass0 (pa_cons (pv 0) (pa_cons (pv 1) pa_nil)))) pa_nil)) pa_nil))))), ?_⟩
    obtain ⟨a, us, rfl, g1, g2⟩ := hv
    have len := Reps.len g2
    have eus := reps_str g2
    refine ⟨.ref a, rfl, a, us, rfl, .inl (sq_of (eA _ _ g1)), fun l nl => ?_⟩
    have s1 : St (upd H l (.lst us)) p c n := hst.new nl
    have Al : A0 l = none := exf eA nl
    have eA1 : Ex A0 (upd H l (.lst us)) := eA.trans (Ex.new nl)
    refine ⟨.ref p, rfl, p, c, n, 5, rfl, s1, by omega, by omega, by omega, fun r H2 r0 r1 e2 s2 => ?_⟩
    refine ⟨1, r, rfl, rfl, 1 + r, rfl, by omega, by omega, fun D nD => ?_⟩
    have lpc : l ∉ [p, c] := nPC hst nl
    have l2 : H2 l = some (.lst us) := e2 _ _ lpc upd_same
    have Dpc : D ∉ [p, c] := nPC s2 nD
    have nD0 : (upd H l (.lst us)) D = none := exb_none e2 s2 nD
    have Dl : D ≠ l := fun z => by
      rw [z, upd_same] at nD0
      cases nD0
    have nDH : H D = none := by
      rw [upd_ne Dl] at nD0
      exact nD0
    have AD : A0 D = none := exf eA nDH
    refine lc_range (fun i H' => ExB [p, c] (upd H l (.lst us)) H' ∧ St H' p c (n + 1 + 40 * i) ∧ ∃ ws Hw ls, H' D = some (.lst ws) ∧ Ex Hw H' ∧ (∀ b u, Hw b = some u → b ≠ D ∧ b ∉ [p, c] ∧ (A0 b = some u ∨ (upd H l (.lst us)) b = none)) ∧ Reps Hw ws ls ∧ ls.length = i ∧ ∀ y ∈ ls, GoodL ks y)
      ⟨e2.trans (ExB.new nD), (s2.new nD).up (by omega), [], fun _ => none, [], upd_same, fun _ _ z => (by cases z), fun _ _ z => (by cases z), .nil, rfl, fun _ m => by cases m⟩ (fun i H' hi hI => ?_) (fun H' hI => ?_)
    · obtain ⟨k1, k2, ws, Hw, ls, k3, k4, k5, k6, k7, k8⟩ := hI
      refine ⟨rfl, ?_⟩
      have A3 := exb eA1 Ap Ac k1
      refine ⟨.ref p, rfl, .ref a, rfl, p, c, n + 1 + 40 * (i : Int), .ref a, ks, A0, rfl, k2, by omega, A3, Ap, Ac, ⟨a, us, rfl, g1, g2⟩, hk, h30, fun x u H4 Hs gx e4 s4 eHs oHs rx => ?_⟩
      have HsD : Hs D = none := by
        cases z : Hs D with
        | none => rfl
        | some o =>
          rcases oHs D o z with y | y
          · rw [AD] at y
            cases y
          · rw [k3] at y
            cases y
      have Hspc : ∀ b o, Hs b = some o → b ∉ [p, c] := fun b o z m => by
        rcases oHs b o z with y | y
        · rcases List.mem_cons.mp m with w | m
          · rw [w, Ap] at y
            cases y
          · rw [List.mem_singleton.mp m, Ac] at y
            cases y
        · exact nPC k2 y m
      have D4 : H4 D = some (.lst ws) := e4 _ _ Dpc k3
      have Hw4 : Ex Hw H4 := fun b o z => e4 b o (k5 b o z).2.1 (k4 b o z)
      refine ⟨ws, D4, by rw [Reps.len k6, k7]; exact sz_lt (by omega), fun b o m z => by
        rw [upd_ne (ne_of_none z nD0)]
        exact (k1.trans e4) b o m z, (s4.mut Dpc).up (by omega), ws ++ [u], jn Hw Hs, ls ++ [x], upd_same, fun b o z => ?_, fun b o z => ?_, ?_, by rw [List.length_append, k7]; rfl, fun y hy => ?_⟩
      · rcases jn_of z with y | y
        · rw [upd_ne (k5 b o y).1]
          exact Hw4 _ _ y
        · rw [upd_ne (fun w => by rw [w, HsD] at y; cases y)]
          exact eHs _ _ y
      · rcases jn_of z with y | y
        · exact k5 b o y
        · refine ⟨fun w => (by rw [w, HsD] at y; cases y), Hspc b o y, ?_⟩
          rcases oHs b o y with w | w
          · exact .inl w
          · exact .inr (exb_none k1 k2 w)
      · exact Reps.app (Reps.ext jn_l k6) (.cons (DV.ext (jn_r Hw4 eHs) rx) .nil)
      · rcases List.mem_append.mp hy with w | w
        · exact k8 y w
        · rw [List.mem_singleton.mp w]
          exact gx
    · obtain ⟨k1, k2, ws, Hw, ls, k3, k4, k5, k6, k7, k8⟩ := hI
      have HwD : Hw D = none := by
        cases z : Hw D with
        | none => rfl
        | some o => exact absurd rfl (k5 D o z).1
      have eB : Ex (upd Hw D (.lst ws)) H' := fun b o z => by
        by_cases y : b = D
        · rw [y, upd_same] at z
          rw [y, k3]
          exact z
        · rw [upd_ne y] at z
          exact k4 _ _ z
      have lne : ls ≠ [] := fun z => by
        rw [z] at k7
        simp at k7
        omega
      have asc : ∀ y ∈ ls, Asc sl y := fun y m => (k8 y m).asc
      refine ⟨.ref D, ls, upd Hw D (.lst ws), rfl, eB, ⟨D, ws, rfl, upd_same, Reps.ext (Ex.new HwD) k6⟩, ⟨by omega, fun y m => (k8 y m).ne, fun y m => by have := (k8 y m).len; omega⟩, fun u H4 Hs e4 sp4 r4 => ?_⟩
      rw [aLeast_eq asc] at r4
      refine ⟨by show 2 ≤ sizeLine; decide, fun T nT => ?_⟩
      have s4 : St H4 p c (n + 1 + 40 * (((1 + r).toNat : Nat) : Int)) := by
        obtain ⟨o1, h1⟩ := k2.p
        obtain ⟨o2, h2⟩ := k2.c
        exact k2.ext ((e4 _ _ h1).trans h1.symm) ((e4 _ _ h2).trans h2.symm) (Int.le_refl _)
      have e14 : ExB [p, c] (upd H l (.lst us)) H4 := k1.trans (ExB.of e4)
      have l4 : H4 l = some (.lst us) := e14 _ _ lpc upd_same
      have Tl : T ≠ l := fun z => by
        rw [z, l4] at nT
        cases nT
      have eP : Ex (upd (fun _ => none) l (.lst us)) H4 := fun b o z => by
        by_cases y : b = l
        · rw [y, upd_same] at z
          rw [y, l4]
          exact z
        · rw [upd_ne y] at z
          cases z
      have eJ : Ex (jn (upd (fun _ => none) l (.lst us)) Hs) H4 := jn_ex eP sp4.e
      have nJ : jn (upd (fun _ => none) l (.lst us)) Hs T = none := exf eJ nT
      have old : ∀ b, (upd H l (.lst us)) b = none → H b = none := fun b z => by
        by_cases y : b = l
        · rw [y, upd_same] at z
          cases z
        · rw [upd_ne y] at z
          exact z
      have lenls : ls.length ≤ 5 := by omega
      refine q (ks, leastOf ls) (.ref T) _ (upd (jn (upd (fun _ => none) l (.lst us)) Hs) T (.tup [.ref l, u])) ⟨rfl, goodF_least hk lne k8 (by omega), Nat.le_trans leastOf_len lenls⟩ ?_ ((s4.new nT).up (by omega)) (fun b o z => ?_) (fun b o z => ?_) ⟨T, .ref l, u, rfl, upd_same, ⟨l, us, rfl, ?_, ?_⟩, DV.ext ((jn_r eP sp4.e).trans (Ex.new nJ)) r4⟩
      · intro b o m z
        have z1 : (upd H l (.lst us)) b = some o := Ex.new nl _ _ z
        have z4 := e14 b o m z1
        rw [upd_ne (ne_of_none z4 nT)]
        exact z4
      · by_cases w : b = T
        · rw [w, upd_same] at z ⊢
          exact z
        · rw [upd_ne w] at z ⊢
          exact eJ _ _ z
      · by_cases w : b = T
        · rw [w]
          exact .inr (old T (exb_none e14 s4 nT))
        · rw [upd_ne w] at z
          rcases jn_of z with y | y
          · by_cases w2 : b = l
            · rw [w2]
              exact .inr nl
            · rw [upd_ne w2] at y
              cases y
          · rcases sp4.o b o y with w3 | w3
            · by_cases w4 : b = D
              · rw [w4]
                exact .inr nDH
              · rw [upd_ne w4] at w3
                rcases (k5 b o w3).2.2 with w5 | w5
                · exact .inl w5
                · exact .inr (old b w5)
            · exact .inr (old b (exb_none k1 k2 w3))
      · rw [upd_ne Tl.symm]
        exact jn_l _ _ upd_same
      · rw [eus]
        exact reps_strs ks
end
end K07
/-! text P8 -/
set_option Elab.async false
set_option linter.all false
set_option maxRecDepth 100000
set_option maxHeartbeats 4000000
/-! the operations on families of the same keepers: plain -/
namespace K07
open PySem PySem.Spec PyProof.Rows L2 Evl PySem.W Dw Dw.DV RZ StX Lot
/-- a family of the keepers ks, n lots at most -/
structure Sm (ks : List Str) (n : Nat) (F : FamT) : Prop where
  k : F.1 = ks
  g : GoodF goodName F
  l : F.2.length ≤ n
variable {ks : List Str} {n m q : Nat} {F G J : FamT}
theorem Sm.asc (h : Sm ks n F) : ∀ a ∈ F.2, Asc sl a := fun a m => (h.g.lots a m).asc
theorem Sm.gk (h : Sm ks n F) : GoodK goodName ks := h.k ▸ h.g.ks
theorem Sm.lot (h : Sm ks n F) : ∀ a ∈ F.2, GoodL ks a := fun a m => h.k ▸ h.g.lots a m
theorem mem_cup {a b : List Str} {x : Str} : x ∈ cup a b ↔ x ∈ a ∨ x ∈ b := by
  unfold cup
  rw [srt_mem, mem_once, List.mem_append]
theorem cup_asc (a b : List Str) : Asc sl (cup a b) := srt_ascS (once_nodup _)
theorem cup_self (h : Asc sl ks) : cup ks ks = ks := asc_ext sl_tot (cup_asc _ _) h fun x => by rw [mem_cup, or_self]
theorem mem_bl {L M : List (List Str)} {u : List Str} : u ∈ bothLots L M ↔ ∃ a ∈ L, ∃ b ∈ M, cup a b = u := by
  unfold bothLots
  rw [List.mem_flatMap]
  constructor
  · rintro ⟨a, ha, h⟩
    obtain ⟨b, hb, e⟩ := List.mem_map.mp h
    exact ⟨a, ha, b, hb, e⟩
  · rintro ⟨a, ha, b, hb, e⟩
    exact ⟨a, ha, List.mem_map.mpr ⟨b, hb, e⟩⟩
theorem bl_cup (L M : List (List Str)) : Cup sl (bothLots L M) L M := by
  refine ⟨fun u hu => ?_, fun u hu => ?_, fun a ha b hb => ⟨cup a b, mem_bl.mpr ⟨a, ha, b, hb, rfl⟩, fun x => mem_cup⟩⟩
  · obtain ⟨a, _, b, _, rfl⟩ := mem_bl.mp hu
    exact cup_asc _ _
  · obtain ⟨a, ha, b, hb, rfl⟩ := mem_bl.mp hu
    exact ⟨a, ha, b, hb, fun x => mem_cup⟩
theorem both_min (F G : FamT) : Min sl (bothOf F G).2 (bothLots F.2 G.2) := least_min (bl_cup _ _).asc
theorem app_asc (h : Sm ks n F) (h' : Sm ks m G) : ∀ l ∈ F.2 ++ G.2, Asc sl l := fun l hl => (List.mem_append.mp hl).elim (h.asc l) (h'.asc l)
theorem either_min (h : Sm ks n F) (h' : Sm ks m G) : Min sl (eitherOf F G).2 (F.2 ++ G.2) := least_min (app_asc h h')
theorem both_k (h : Sm ks n F) (h' : Sm ks m G) : (bothOf F G).1 = ks := by
  show cup F.1 G.1 = ks
  rw [h.k, h'.k]
  exact cup_self h.gk.asc
theorem either_k (h : Sm ks n F) (h' : Sm ks m G) : (eitherOf F G).1 = ks := both_k h h'
theorem both_sm (h : Sm ks n F) (h' : Sm ks m G) (hnm : n * m ≤ 1000) : Sm ks (n * m) (bothOf F G) := by
  have ll : (bothLots F.2 G.2).length ≤ n * m := by
    rw [bothLots_len]
    exact Nat.mul_le_mul h.l h'.l
  refine ⟨both_k h h', ?_, Nat.le_trans leastOf_len ll⟩
  have e : bothOf F G = (ks, leastOf (bothLots F.2 G.2)) := Prod.ext (both_k h h') rfl
  rw [e]
  refine goodF_least h.gk (fun z => ?_) (fun u hu => ?_) (by omega)
  · have e1 : ∃ a, a ∈ F.2 := List.exists_mem_of_ne_nil _ h.g.ne
    have e2 : ∃ a, a ∈ G.2 := List.exists_mem_of_ne_nil _ h'.g.ne
    obtain ⟨a, ha⟩ := e1
    obtain ⟨b, hb⟩ := e2
    have k := mem_bl.mpr ⟨a, ha, b, hb, rfl⟩
    rw [z] at k
    cases k
  · obtain ⟨a, ha, b, hb, rfl⟩ := mem_bl.mp hu
    refine ⟨fun z => ?_, cup_asc _ _, fun x hx => (mem_cup.mp hx).elim (fun z => (h.lot a ha).sub z) fun z => (h'.lot b hb).sub z⟩
    obtain ⟨x, hx⟩ := List.exists_mem_of_ne_nil _ (h.lot a ha).ne
    have k : x ∈ cup a b := mem_cup.mpr (.inl hx)
    rw [z] at k
    cases k
theorem either_sm (h : Sm ks n F) (h' : Sm ks m G) (hnm : n + m ≤ 1000) : Sm ks (n + m) (eitherOf F G) := by
  have ll : (F.2 ++ G.2).length ≤ n + m := by
    rw [List.length_append]
    have := h.l
    have := h'.l
    omega
  refine ⟨either_k h h', ?_, Nat.le_trans leastOf_len ll⟩
  have e : eitherOf F G = (ks, leastOf (F.2 ++ G.2)) := Prod.ext (either_k h h') rfl
  rw [e]
  refine goodF_least h.gk (fun z => h.g.ne (List.append_eq_nil_iff.mp z).1) (fun u hu => (List.mem_append.mp hu).elim (h.lot u) (h'.lot u)) (by omega)
theorem two_sm (h : Sm ks n F) (h' : Sm ks m G) (hk : ks.length ≤ 30) (hn : n ≤ 150) (hm : m ≤ 150) (hnm : n * m ≤ 1000) : Two F G := by
  refine ⟨h.g, h'.g, by rw [h.k]; exact hk, by rw [h'.k]; exact hk, Nat.le_trans h.l hn, Nat.le_trans h'.l hm, Nat.le_trans (Nat.mul_le_mul h.l h'.l) hnm⟩
theorem fam_ext {F G : FamT} (h : F.1 = G.1) (h' : F.2 = G.2) : F = G := Prod.ext h h'
theorem bothOf_comm (h : Sm ks n F) (h' : Sm ks m G) : bothOf F G = bothOf G F :=
  fam_ext ((both_k h h').trans (both_k h' h).symm) (both_comm sl_tot (bl_cup F.2 G.2) (both_min F G) (bl_cup G.2 F.2) (both_min G F))
theorem bothOf_assoc (h : Sm ks n F) (h' : Sm ks m G) (h'' : Sm ks q J) (h1 : n * m ≤ 1000) (h2 : m * q ≤ 1000) : bothOf (bothOf F G) J = bothOf F (bothOf G J) :=
  fam_ext ((both_k (both_sm h h' h1) h'').trans (both_k h (both_sm h' h'' h2)).symm) (both_assoc sl_tot (bl_cup F.2 G.2) (both_min F G) (bl_cup (bothOf F G).2 J.2) (both_min (bothOf F G) J) (bl_cup G.2 J.2) (both_min G J) (bl_cup F.2 (bothOf G J).2) (both_min F (bothOf G J)))
theorem eitherOf_comm (h : Sm ks n F) (h' : Sm ks m G) : eitherOf F G = eitherOf G F := fam_ext ((either_k h h').trans (either_k h' h).symm) (either_comm sl_tot (either_min h h') (either_min h' h))
theorem eitherOf_assoc (h : Sm ks n F) (h' : Sm ks m G) (h'' : Sm ks q J) (h1 : n + m ≤ 1000) (h2 : m + q ≤ 1000) : eitherOf (eitherOf F G) J = eitherOf F (eitherOf G J) :=
  fam_ext ((either_k (either_sm h h' h1) h'').trans (either_k h (either_sm h' h'' h2)).symm) (either_assoc sl_tot h.asc h'.asc h''.asc (either_min h h') (either_min (either_sm h h' h1) h'') (either_min h' h'') (either_min h (either_sm h' h'' h2)))
/-! ### fallen, trusted -/
theorem drop_ne (hk : GoodK goodName ks) (h2 : 2 ≤ ks.length) (x : Str) : GoodK goodName (drop1 x ks) := by
  refine ⟨fun z => ?_, fun y hy => hk.all y (mem_drop1.mp hy).1, asc_drop1 hk.asc, Nat.le_trans drop1_len hk.len⟩
  have all : ∀ y ∈ ks, y = x := drop1_nil.mp z
  have nd := hk.asc.nodup sl_tot
  match ks, h2 with
  | a :: b :: r, _ =>
    have e1 := all a List.mem_cons_self
    have e2 := all b (List.mem_cons_of_mem _ List.mem_cons_self)
    rw [e1, e2] at nd
    exact (List.nodup_cons.mp nd).1 List.mem_cons_self
theorem fall_sm (h : Sm ks n F) (h2 : 2 ≤ ks.length) (x : Str) (hn : fall x F.2 ≠ []) : Sm (drop1 x ks) n ((drop1 x ks, fall x F.2) : FamT) := by
  refine ⟨rfl, ⟨drop_ne h.gk h2 x, hn, Nat.le_trans (List.length_filter_le _ _) h.g.len, fun l m => ?_, List.Pairwise.filter _ h.g.asc, fun a ha b hb z => h.g.anti a (mem_fall.mp ha).1 b (mem_fall.mp hb).1 z⟩, Nat.le_trans (List.length_filter_le _ _) h.l⟩
  have hl := h.lot l (mem_fall.mp m).1
  exact ⟨hl.ne, hl.asc, fun y hy => mem_drop1.mpr ⟨hl.sub hy, fun z => (mem_fall.mp m).2 (by rw [← z]; exact hy)⟩⟩
theorem trust_ascS (h : Sm ks n F) (x : Str) : ∀ t ∈ trust x F.2, Asc sl t := trust_asc h.asc
theorem trust_sm (h : Sm ks n F) (h2 : 2 ≤ ks.length) (x : Str) (hn : ¬ [] ∈ trust x F.2) : Sm (drop1 x ks) n ((drop1 x ks, leastOf (trust x F.2)) : FamT) := by
  have tl : (trust x F.2).length = F.2.length := List.length_map ..
  refine ⟨rfl, goodF_least (drop_ne h.gk h2 x) (fun z => ?_) (fun t ht => ⟨fun e => hn (by rw [← e]; exact ht), trust_ascS h x t ht, ?_⟩) (by rw [tl]; exact h.g.len), Nat.le_trans leastOf_len (by rw [tl]; exact h.l)⟩
  · have k := congrArg List.length z
    rw [tl] at k
    exact h.g.ne (List.eq_nil_of_length_eq_zero k)
  · obtain ⟨a, ha, rfl⟩ := mem_trust.mp ht
    exact drop1_sub (h.lot a ha).sub
theorem one_sm (h : Sm ks n F) (h2 : 2 ≤ ks.length) {x : Str} (hx : x ∈ ks) : One F x := ⟨h.g, by rw [h.k]; exact hx, by rw [h.k]; omega⟩
theorem triedF_none (F : FamT) (x : Str) : triedF F x = none ↔ fall x F.2 = [] := by
  unfold triedF
  split <;> simp_all
theorem triedT_none (F : FamT) (x : Str) : triedT F x = none ↔ [] ∈ trust x F.2 := by
  unfold triedT
  split <;> simp_all
theorem triedF_some (h : Sm ks n F) {x : Str} (hn : fall x F.2 ≠ []) : triedF F x = some (drop1 x ks, fall x F.2) := by
  unfold triedF
  rw [if_neg hn, h.k]
theorem triedT_some (h : Sm ks n F) {x : Str} (hn : ¬ [] ∈ trust x F.2) : triedT F x = some (drop1 x ks, leastOf (trust x F.2)) := by
  unfold triedT
  rw [if_neg hn, h.k]
/-- both, fallen -/
theorem fall_bothOf (h : Sm ks n F) (h' : Sm ks m G) (h2 : 2 ≤ ks.length) (x : Str) (hnm : n * m ≤ 1000) (a : fall x F.2 ≠ []) (b : fall x G.2 ≠ []) :
    bothOf (drop1 x ks, fall x F.2) (drop1 x ks, fall x G.2) = (drop1 x ks, fall x (bothOf F G).2) :=
  fam_ext (both_k (fall_sm h h2 x a) (fall_sm h' h2 x b)) (fall_both sl_tot x (bl_cup F.2 G.2) (both_min F G) (bl_cup _ _) (both_min (drop1 x ks, fall x F.2) (drop1 x ks, fall x G.2)))
/-- either, fallen: L's lots, the fallen lots of both -/
theorem fall_eitherOf (h : Sm ks n F) (h' : Sm ks m G) (x : Str) {L M : FamT} (hL : Sm (drop1 x ks) q L) (hM : Sm (drop1 x ks) q M) (e : ∀ l, l ∈ L.2 ++ M.2 ↔ l ∈ fall x F.2 ++ fall x G.2) : eitherOf L M = (drop1 x ks, fall x (eitherOf F G).2) := by
  refine fam_ext (either_k hL hM) ?_
  have asc : ∀ l ∈ fall x F.2 ++ fall x G.2, Asc sl l := fun l hl => (List.mem_append.mp hl).elim (fun z => h.asc l (mem_fall.mp z).1) fun z => h'.asc l (mem_fall.mp z).1
  have e1 := fall_either sl_tot x h.asc h'.asc (either_min h h') (least_min asc)
  exact ((either_min hL hM).uniq sl_tot (least_min asc) e).trans e1
/-- both, trusted -/
theorem trust_bothOf (h : Sm ks n F) (h' : Sm ks m G) (h2 : 2 ≤ ks.length) (x : Str) (hnm : n * m ≤ 1000) (a : ¬ [] ∈ trust x F.2) (b : ¬ [] ∈ trust x G.2) :
    bothOf (drop1 x ks, leastOf (trust x F.2)) (drop1 x ks, leastOf (trust x G.2)) = (drop1 x ks, leastOf (trust x (bothOf F G).2)) :=
  fam_ext (both_k (trust_sm h h2 x a) (trust_sm h' h2 x b)) (trust_both sl_tot x h.asc h'.asc (bl_cup F.2 G.2) (both_min F G) (least_min (trust_ascS h x)) (least_min (trust_ascS h' x)) (least_min (trust_ascS (both_sm h h' hnm) x)) (bl_cup _ _) (both_min (drop1 x ks, leastOf (trust x F.2)) (drop1 x ks, leastOf (trust x G.2))))
theorem trust_eitherOf (h : Sm ks n F) (h' : Sm ks m G) (h2 : 2 ≤ ks.length) (x : Str) (hnm : n + m ≤ 1000) (a : ¬ [] ∈ trust x F.2) (b : ¬ [] ∈ trust x G.2) :
    eitherOf (drop1 x ks, leastOf (trust x F.2)) (drop1 x ks, leastOf (trust x G.2)) = (drop1 x ks, leastOf (trust x (eitherOf F G).2)) :=
  fam_ext (either_k (trust_sm h h2 x a) (trust_sm h' h2 x b)) (trust_either sl_tot x h.asc h'.asc (either_min h h') (least_min (trust_ascS h x)) (least_min (trust_ascS h' x)) (least_min (trust_ascS (either_sm h h' hnm) x)) (either_min (trust_sm h h2 x a) (trust_sm h' h2 x b)))
theorem fb_none (F G : FamT) (x : Str) : fall x (bothOf F G).2 = [] ↔ fall x F.2 = [] ∨ fall x G.2 = [] := fall_both_none sl_tot x (bl_cup F.2 G.2) (both_min F G)
theorem tb_none (F G : FamT) (x : Str) : [] ∈ trust x (bothOf F G).2 ↔ [] ∈ trust x F.2 ∧ [] ∈ trust x G.2 := trust_both_none sl_tot x (bl_cup F.2 G.2) (both_min F G)
theorem fe_none (h : Sm ks n F) (h' : Sm ks m G) (x : Str) : fall x (eitherOf F G).2 = [] ↔ fall x F.2 = [] ∧ fall x G.2 = [] := fall_either_none sl_tot x h.asc h'.asc (either_min h h')
theorem te_none (h : Sm ks n F) (h' : Sm ks m G) (x : Str) : [] ∈ trust x (eitherOf F G).2 ↔ [] ∈ trust x F.2 ∨ [] ∈ trust x G.2 := trust_either_none sl_tot x h.asc h'.asc (either_min h h')
end K07
/-! text W22 -/
set_option Elab.async false
set_option linter.all false
set_option maxRecDepth 100000
set_option maxHeartbeats 2000000
/-! typed: a list made, added to; lists times a number -/
namespace Dw
open PySem PySem.Spec PyProof.Rows L2 Evl PySem.W DV
section
variable {α β : Type} [DecidableEq α] [Datum α] [DV α] [DecidableEq β] [Datum β] [DV β] {K : PySem.W.Frag} {σ : L2.St} {H A A0 H0 : Hp} {te ta tb : TE} {tt : TT} {D : Ends}
/-- the display [te] bound to a name: the list itself is not known yet (it will be added to) -/
theorem b_lst1 {x : α} {i : Nat} {tz : TS} (B : Bs A0 H0 A H) (h : EvD te σ A x) (k : ∀ v d A' H1, Bs A0 H0 A' H1 → Ex A A' → A' d = none → H0 d = none → H1 d = some (.lst [v]) → rep A' v x → tz D (σ.set i (some (.ref d))) H1) : tSeq (tAsg (tLst (tCons te tNil)) (gName i)) tz D σ H := h H B.h _ fun v H1 Hs e s r => by
  refine ⟨by show 1 ≤ sizeLine; decide, fun d nd => ?_⟩
  have B1 := B.go e s
  have nA : jn A Hs d = none := fresh_back B1.h nd
  exact k v d (jn A Hs) _ (B1.mono (Ex.new nd)) jn_l nA (fresh_back B1.e nd) upd_same (B.rep e s r)
/-- d.append(te) -/
theorem b_appD {x : α} {i : Nat} {tz : TS} {d : Addr} {vs : List V} (B : Bs A0 H0 A H) (hσ : σ[i]? = some (some (.ref d))) (hd : H d = some (.lst vs)) (hz : vs.length < 100000) (nA : A d = none) (nH : H0 d = none) (h : EvD te σ A x)
    (k : ∀ v A' H1, Bs A0 H0 A' H1 → Ex A A' → A' d = none → H1 d = some (.lst (vs ++ [v])) → rep A' v x → tz D σ H1) : tSeq (tDrop (tBM K "list" rAppend (tVar i) (tCons te tNil))) tz D σ H := by
  refine ⟨.ref d, hσ, .inl ⟨rfl, _, sq_of hd⟩, h H B.h _ fun v H1 Hs e s r => ?_⟩
  have B1 := B.go e s
  have nS : Hs d = none := by
    cases z : Hs d with
    | none => rfl
    | some o =>
      rcases s.o d o z with y | y
      · rw [nA] at y
        cases y
      · rw [hd] at y
        cases y
  have nJ : jn A Hs d = none := by
    cases z : jn A Hs d with
    | none => rfl
    | some o => exact (jn_of z).elim (fun y => by rw [nA] at y; cases y) fun y => by rw [nS] at y; cases y
  exact ⟨d, vs, v, rfl, rfl, e _ _ hd, sz_lt hz, k v (jn A Hs) _ (B1.mut nH nJ) jn_l nJ upd_same (B.rep e s r)⟩
theorem reps_flat {H : Hp} {vs : List V} {xs : List α} (r : Reps H vs xs) : ∀ n, Reps H (List.replicate n vs).flatten (List.replicate n xs).flatten
  | 0 => .nil
  | n + 1 => by
    rw [List.replicate_succ, List.replicate_succ, List.flatten_cons, List.flatten_cons]
    exact Reps.app r (reps_flat r n)
/-- xs * n -/
theorem ed_rep {xs : List α} {n : Nat} (h : EvD ta σ A xs) (hn : n ≤ 100) (hl : xs.length ≤ 100) : EvD (tOp rRep ta (tC (.int (n : Int)))) σ A (List.replicate n xs).flatten := fun H1 e Q q => h H1 e _ fun v H2 Hs e2 s r => by
  obtain ⟨a, vs, rfl, h1, h2⟩ := r
  have len := Reps.len h2
  refine ⟨a, (n : Int), vs, rfl, rfl, s.e _ _ h1, by omega, by omega, ?_, fun p np => ?_⟩
  · rw [Int.toNat_natCast]
    exact sz_of (Nat.le_trans (Nat.mul_le_mul (by omega : vs.length ≤ 100) hn) (by decide))
  · rw [Int.toNat_natCast]
    exact q _ _ (upd Hs p (.lst (List.replicate n vs).flatten)) (e2.trans (Ex.new np)) (sup_new e2 s np) ⟨p, _, rfl, upd_same, Reps.ext (Ex.new (sup_no s np)) (reps_flat h2 n)⟩
/-- what is known of a list that is now done with -/
theorem Bs.done {d : Addr} {vs : List V} {xs : List α} (B : Bs A0 H0 A H) (hd : H d = some (.lst vs)) (nA : A d = none) (nH : H0 d = none) (r : Reps A vs xs) : Bs A0 H0 (upd A d (.lst vs)) H ∧ DV.rep (upd A d (.lst vs)) (.ref d) xs := ⟨B.new hd nH nA, d, vs, rfl, upd_same, Reps.ext (Ex.new nA) r⟩
end
end Dw
/-! text D26 -/
set_option Elab.async false
set_option linter.all false
set_option maxRecDepth 100000
set_option maxHeartbeats 4000000
/-! whether both and either are alike in any order, in any brackets -/
namespace K07
open PySem PySem.Spec PyProof.Rows L2 Evl PySem.W Dw Dw.DV RZ StX Lot LmV LamX NdefX
section
variable {α β γ : Type} [DecidableEq α] [Datum α] [DV α] [DecidableEq β] [Datum β] [DV β] [DecidableEq γ] [Datum γ] [DV γ] {K : PySem.W.Frag} {σ : L2.St} {H A A0 H0 : Hp} {te ta tb : TE} {D : Ends} {Pt : Addr}
theorem ed_callA2 {i : Nat} {f : Addr} {S : Addr → Option Sp} {P : α → β → Prop} {g : α → β → γ} {x : α} {y : β} (hσ : σ[i]? = some (some (.ref f))) (hS : S f = some (sp2W Pt P g)) (R : Rdy Pt lmQ lmPos A) (h : EvD ta σ A x) (h' : EvD tb σ A y) (hP : P x y) : EvD (tCallA i S (tCons ta (tCons tb tNil))) σ A (g x y) := fun H1 e Q q =>
  ⟨f, _, hσ, hS, ed_call2W (E := E0) R h h' hP H1 e Q q⟩
end
section
variable {P : Program} {w : World} {K : PySem.W.Frag} {mg : Str → Option Value} {base : Heap} {f : Addr} {fd : FuncData} {fL fN f1 fK fS fO fH fF fT : Addr} {dL dN d1 dK dS dO dH dF dT : FuncData} {fC fW fU fV Pt : Addr} {dC dW dU dV : FuncData} {fBo fEi fCo fSa : Addr} {dBo dEi dCo dSa : FuncData}
/-- the law's helpers, both, either -/
structure Ls (K : PySem.W.Frag) (mg : Str → Option Value) (fBo fEi fCo fSa : Addr) (dBo dEi dCo dSa : FuncData) : Prop where
  B : Df K mg "both_families" 32 fBo dBo
  E : Df K mg "either_family" 33 fEi dEi
  C : Df K mg "_law_copied" 44 fCo dCo
  S : Df K mg "_law_same" 45 fSa dSa
def wayS (Pt fBo fEi : Addr) (f : Addr) : Option Sp := if f = fBo then some (spBoth Pt) else if f = fEi then some (spEither Pt) else none
/-- true, all that stood stays -/
def EndT (H : Hp) (Q : VK) : Prop := ∀ H', Ex H H' → Q (.bl true) H'
structure Fam2 (ks : List Str) (F G : FamT) : Prop where
  f : Sm ks 5 F
  g : Sm ks 5 G
  l : ks.length ≤ 8
  m : 2 ≤ ks.length
def spBr (Pt : Addr) : Sp := fun vs H Q _ => ∃ v u z ks F G J A, vs = [v, u, z] ∧ Ex A H ∧ Rdy Pt lmQ lmPos A ∧ rep A v F ∧ rep A u G ∧ rep A z J ∧ Fam2 ks F G ∧ Sm ks 5 J ∧ EndT H Q
abbrev NBr : List Str := ["one", "other", "third", "way", "found"]
theorem scBr : FnScope NBr ["one", "other", "third"] (defScope (top 50)) := ⟨rfl, rfl, rfl, by decide +kernel, rfl, by decide +kernel, by decide +kernel⟩
theorem smD {n : Nat} {ks : List Str} {F : FamT} (h : Sm ks n F) : DVT.sm F := smG h.g
theorem ok_br (F : FnP K "_law_brackets_right" (top 50) f fd) (B : Bn mg) (Z : Fs K mg fL fN f1 fK fS fO fH fF fT dL dN d1 dK dS dO dH dF dT) (Y : Gs K mg base Pt fC fW fU fV dC dW dU dV) (L : Ls K mg fBo fEi fCo fSa dBo dEi dCo dSa) (ne : fBo ≠ fEi) : FnOk P w K mg base CX0 9 f fd ["one", "other", "third"] (spBr Pt) := by
  have GB : FnOk P w K mg base CX0 7 fBo dBo ["family", "other_family"] (spBoth Pt) := ok_both L.B.F B Z Y
  have bB : Binds K dBo ["family", "other_family"] [] := L.B.F.bindsN fun _ _ _ _ _ _ us hl => match us, hl with | [_, _], _ => rfl
  have GE : FnOk P w K mg base CX0 7 fEi dEi ["family", "other_family"] (spEither Pt) := ok_either L.E.F B Z Y
  have bE : Binds K dEi ["family", "other_family"] [] := L.E.F.bindsN fun _ _ _ _ _ _ us hl => match us, hl with | [_, _], _ => rfl
  have GC : FnOk P w K mg base CX0 8 fCo dCo ["thing"] (spC 8) := ok_copied L.C.F L.C.g B 8
  have bC : Binds K dCo ["thing"] [] := L.C.F.bindsN fun _ _ _ _ _ _ us hl => match us, hl with | [_], _ => rfl
  have GS : FnOk P w K mg base CX0 8 fSa dSa ["found", "due"] (spS 8) := ok_same L.S.F L.S.g B 8
  have bS : Binds K dSa ["found", "due"] [] := L.S.F.bindsN fun _ _ _ _ _ _ us hl => match us, hl with | [_, _], _ => rfl
  have HW : ∀ f sp, wayS Pt fBo fEi f = some sp → Held P w K mg base 7 f sp := fun f sp h => by
    unfold wayS at h
    by_cases e : f = fBo
    · rw [if_pos e] at h
      cases h
      rw [e]
      exact ⟨dBo, _, GB, L.B.F.kp, bB⟩
    · rw [if_neg e] at h
      by_cases e2 : f = fEi
      · rw [if_pos e2] at h
        cases h
        rw [e2]
        exact ⟨dEi, _, GE, L.E.F.kp, bE⟩
      · rw [if_neg e2] at h
        cases h
  refine F.ok scBr (fun vs H Q E h => ?_) (fun cdv A outer s H vs Q E hr h => ?_)
  · obtain ⟨v, u, z, _, _, _, _, _, rfl, _⟩ := h
    rfl
  · obtain ⟨v, u, z, ks, F, G, J, A0, rfl, eA, R, hv, hu, hz, T, hJ, q⟩ := h
    refine ⟨_, PSs.nox (pss_cons (ps_for PassesOwn.never rfl (pi_tup (pe_tup (pa_cons (pe_glob (v := .ref fBo) (by rfl) L.B.g rfl) (pa_cons (pe_glob (v := .ref fEi) (by rfl) L.E.g rfl) pa_nil)))) (pg_name (i := 3) scBr.nd rfl (.inl rfl))
        (pss_cons (ps_set (i := 4) scBr.nd rfl (.inl rfl) (pe_lst (pa_cons (pe_callA (i := 3) HW (hr.mono (by decide)) rfl (.inl rfl) (pa_cons (pe_callA (i := 3) HW (hr.mono (by decide)) rfl (.inl rfl) (pa_cons (pe_call GC hr (by rfl) L.C.g L.C.F.kp bC .nil pass0 (pa_cons (pv 0) pa_nil)) (pa_cons (pe_call GC hr (by rfl) L.C.g L.C.F.kp bC .nil pass0 (pa_cons (pv 1) pa_nil)) pa_nil))) (pa_cons (pe_call GC hr (by rfl) L.C.g L.C.F.kp bC .nil pass0 (pa_cons (pv 2) pa_nil)) pa_nil))) pa_nil)))
        (pss_cons (ps_expr (pe_bm PySem.F.plainAttrs_list PySem.F.slot_list_append PySem.F.type_list_append mt_append (pv 4) (pa_cons (pe_callA (i := 3) HW (hr.mono (by decide)) rfl (.inl rfl) (pa_cons (pe_call GC hr (by rfl) L.C.g L.C.F.kp bC .nil pass0 (pa_cons (pv 0) pa_nil)) (pa_cons (pe_callA (i := 3) HW (hr.mono (by decide)) rfl (.inl rfl) (pa_cons (pe_call GC hr (by rfl) L.C.g L.C.F.kp bC .nil pass0 (pa_cons (pv 1) pa_nil)) (pa_cons (pe_call GC hr (by rfl) L.C.g L.C.F.kp bC .nil pass0 (pa_cons (pv 2) pa_nil)) pa_nil))) pa_nil))) pa_nil)))
        (pss_cons (ps_expr (pe_bm PySem.F.plainAttrs_list PySem.F.slot_list_append PySem.F.type_list_append mt_append (pv 4) (pa_cons (pe_callA (i := 3) HW (hr.mono (by decide)) rfl (.inl rfl) (pa_cons (pe_call GC hr (by rfl) L.C.g L.C.F.kp bC .nil pass0 (pa_cons (pv 2) pa_nil)) (pa_cons (pe_callA (i := 3) HW (hr.mono (by decide)) rfl (.inl rfl) (pa_cons (pe_call GC hr (by rfl) L.C.g L.C.F.kp bC .nil pass0 (pa_cons (pv 1) pa_nil)) (pa_cons (pe_call GC hr (by rfl) L.C.g L.C.F.kp bC .nil pass0 (pa_cons (pv 0) pa_nil)) pa_nil))) pa_nil))) pa_nil)))
        (pss_one (ps_if (pt_not (pt_val (pe_call GS hr (by rfl) L.S.g L.S.F.kp bS .nil pass0 (pa_cons (pv 4) (pa_cons (pe_op op_rep (pe_lst (pa_cons (pe_call GC hr (by rfl) L.C.g L.C.F.kp bC .nil pass0 (pa_cons (pe_ix ix_list (pv 4) pe_int (fun _ _ => rfl)) pa_nil)) pa_nil)) pe_int) pa_nil))))) pss_never pss_nil))))))
      (pss_one (ps_ret pe_bl))), ?_⟩
    refine ⟨by show 2 ≤ sizeLine; decide, fun t nt => ?_⟩
    have At : A0 t = none := exf eA nt
    refine ⟨t, rfl, ⟨_, st_of upd_same⟩, ?_⟩
    refine for_it (walk_tup (xs := [.ref fBo, .ref fEi])) (fun i σ H' => ∃ y3 y4, σ = [some v, some u, some z, y3, y4] ∧ Ex (upd H t (.tup [.ref fBo, .ref fEi])) H') ⟨none, none, rfl, Ex.refl _⟩ (fun i σ H' _ h => ?_) (fun i x σ H2 H3 hi h hy => ?_) (fun σ H2 h => ?_)
    · obtain ⟨_, _, _, e⟩ := h
      exact st_of (e _ _ upd_same)
    · obtain ⟨y3, y4, rfl, e⟩ := h
      obtain ⟨rfl, hx⟩ := hy
      have eA2 : Ex A0 H3 := (eA.trans (Ex.new nt)).trans e
      have hw : ∃ fw g, x = .ref fw ∧ wayS Pt fBo fEi fw = some (sp2W Pt Two g) ∧ (∀ F' G', g F' G' = bothOf F' G' ∨ True) ∧ (g = bothOf ∨ g = eitherOf) := by
        match i, hi, hx with
        | 0, _, hx =>
          have : x = .ref fBo := (Option.some.inj hx).symm
          exact ⟨fBo, bothOf, this, if_pos rfl, fun _ _ => .inr trivial, .inl rfl⟩
        | 1, _, hx =>
          have : x = .ref fEi := (Option.some.inj hx).symm
          refine ⟨fEi, eitherOf, this, ?_, fun _ _ => .inr trivial, .inr rfl⟩
          unfold wayS
          rw [if_neg ne.symm, if_pos rfl]
      obtain ⟨fw, g, rfl, hS, _, hg⟩ := hw
      have l8 := T.l
      have w1 : ∀ {n m : Nat} {F' G' : FamT}, Sm ks n F' → Sm ks m G' → n ≤ 25 → m ≤ 25 → n * m ≤ 125 → Two F' G' := fun a b c d e => two_sm a b (by omega) (by omega) (by omega) (by omega)
      have w2 : ∀ {n m : Nat} {F' G' : FamT}, Sm ks n F' → Sm ks m G' → n ≤ 25 → m ≤ 25 → n * m ≤ 125 → ∃ k, k ≤ 125 ∧ (n ≤ 5 → m ≤ 5 → k ≤ 25) ∧ Sm ks k (g F' G') := fun {n m F' G'} a b c d e => by
        rcases hg with rfl | rfl
        · exact ⟨n * m, e, fun x y => Nat.mul_le_mul x y, both_sm a b (by omega)⟩
        · exact ⟨n + m, by omega, fun x y => by omega, either_sm a b (by omega)⟩
      obtain ⟨k1, k1a, k1b, m1⟩ := w2 T.f T.g (by decide) (by decide) (by decide)
      obtain ⟨k2, k2a, k2b, m2⟩ := w2 T.g hJ (by decide) (by decide) (by decide)
      obtain ⟨k3, k3a, k3b, m3⟩ := w2 T.g T.f (by decide) (by decide) (by decide)
      have i1 := k1b (by decide) (by decide)
      have i2 := k2b (by decide) (by decide)
      have i3 := k3b (by decide) (by decide)
      obtain ⟨j1, j1a, _, n1⟩ := w2 m1 hJ i1 (by decide) (by omega)
      have eq1 : g F (g G J) = g (g F G) J := by
        rcases hg with rfl | rfl
        · exact (bothOf_assoc T.f T.g hJ (by decide) (by decide)).symm
        · exact (eitherOf_assoc T.f T.g hJ (by decide) (by decide)).symm
      have eq2 : g J (g G F) = g (g F G) J := by
        rcases hg with rfl | rfl
        · rw [bothOf_comm T.g T.f]
          exact bothOf_comm hJ m1
        · rw [eitherOf_comm T.g T.f]
          exact eitherOf_comm hJ m1
      have cF : ∀ {σ : L2.St} {A : Hp}, EvD (tVar 0) σ A F → EvD (tCall (spC 8) [] E0 (tCons (tVar 0) tNil)) σ A F := fun h => ed_copied h (smD T.f)
      have cG : ∀ {σ : L2.St} {A : Hp}, EvD (tVar 1) σ A G → EvD (tCall (spC 8) [] E0 (tCons (tVar 1) tNil)) σ A G := fun h => ed_copied h (smD T.g)
      have cJ : ∀ {σ : L2.St} {A : Hp}, EvD (tVar 2) σ A J → EvD (tCall (spC 8) [] E0 (tCons (tVar 2) tNil)) σ A J := fun h => ed_copied h (smD hJ)
      have v0 : ∀ {A : Hp} {y4 : Option V}, Ex A0 A → EvD (tVar 0) [some v, some u, some z, some (.ref fw), y4] A F := fun e => ed_var rfl (DV.ext e hv)
      have v1 : ∀ {A : Hp} {y4 : Option V}, Ex A0 A → EvD (tVar 1) [some v, some u, some z, some (.ref fw), y4] A G := fun e => ed_var rfl (DV.ext e hu)
      have v2 : ∀ {A : Hp} {y4 : Option V}, Ex A0 A → EvD (tVar 2) [some v, some u, some z, some (.ref fw), y4] A J := fun e => ed_var rfl (DV.ext e hz)
      have B0 : Bs A0 H3 A0 H3 := Bs.start eA2
      refine b_lst1 B0 (ed_callA2 (i := 3) rfl hS R (ed_callA2 (i := 3) rfl hS R (cF (v0 (Ex.refl _))) (cG (v1 (Ex.refl _))) (w1 T.f T.g (by decide) (by decide) (by decide))) (cJ (v2 (Ex.refl _))) (w1 m1 hJ i1 (by decide) (by omega))) fun r1 d A1 H4 B1 eA1 nA1 nH1 hd1 rr1 => ?_
      refine b_appD B1 (i := 4) rfl hd1 (by simp) nA1 nH1 (ed_callA2 (i := 3) rfl hS (R.ext eA1) (cF (v0 eA1)) (ed_callA2 (i := 3) rfl hS (R.ext eA1) (cG (v1 eA1)) (cJ (v2 eA1)) (w1 T.g hJ (by decide) (by decide) (by decide))) (w1 T.f m2 (by decide) i2 (by omega))) fun r2 A2 H5 B2 eA12 nA2 hd2 rr2 => ?_
      have eA02 := eA1.trans eA12
      refine b_appD B2 (i := 4) rfl hd2 (by simp) nA2 nH1 (ed_callA2 (i := 3) rfl hS (R.ext eA02) (cJ (v2 eA02)) (ed_callA2 (i := 3) rfl hS (R.ext eA02) (cG (v1 eA02)) (cF (v0 eA02)) (w1 T.g T.f (by decide) (by decide) (by decide))) (w1 hJ m3 (by decide) i3 (by omega))) fun r3 A3 H6 B3 eA23 nA3 hd3 rr3 => ?_
      rw [eq1] at rr2
      rw [eq2] at rr3
      have rps : Reps A3 [r1, r2, r3] [g (g F G) J, g (g F G) J, g (g F G) J] := .cons (DV.ext (eA12.trans eA23) rr1) (.cons (DV.ext eA23 rr2) (.cons rr3 .nil))
      obtain ⟨B4, rl⟩ := B3.done hd3 nA3 nH1 rps
      have e4 : EvD (tVar 4) [some v, some u, some z, some (.ref fw), some (.ref d)] (upd A3 d (.lst [r1, r2, r3])) [g (g F G) J, g (g F G) J, g (g F G) J] := ed_var rfl rl
      have same := ev_same (d := 8) (E := E0) e4 (ed_rep (n := 3) (ed_lst (eda_cons (ed_copied (d := 8) (E := E0) (ed_ixL (K := K) (i := 0) e4 (ev_c (v := .int 0)) rfl) (smD n1)) eda_nil) (by simp)) (by decide) (by simp)) rfl ⟨by simp, fun y hy => by
        rcases List.mem_cons.mp hy with rfl | hy
        · exact smD n1
        · rcases List.mem_cons.mp hy with rfl | hy
          · exact smD n1
          · rw [List.mem_singleton.mp hy]
            exact smD n1⟩
      refine b_if B4 (et_not (et_B same)) (fun z => by cases z) fun _ H7 B7 => ?_
      exact ⟨some (.ref fw), some (.ref d), rfl, e.trans B7.e⟩
    · obtain ⟨y3, y4, rfl, e⟩ := h
      exact q H2 ((Ex.new nt).trans e)
end
end K07
/-! text W23 -/
set_option Elab.async false
set_option linter.all false
set_option maxRecDepth 100000
set_option maxHeartbeats 2000000
/-! for i, x in enumerate(t), t a tuple -/
namespace XvE
open PySem PySem.Spec PyProof.Rows L2 RZ
theorem meets_enumT (l : Addr) (items : Array Value) :
    Meets (Builtin.«enumerate.__new__» ⟨[.type "enumerate", .ref l], []⟩) (fun _ R s => s.heap.IsTuple l items ∧
      R (.ok (.ret (.ref (s.heap.push { cls := .type "tuple_iterator", data := .fields #[.ref l, .int 0 0] }).objs.size)))
        { s with heap := (s.heap.push { cls := .type "tuple_iterator", data := .fields #[.ref l, .int 0 0] }).push { cls := .type "enumerate", data := .fields #[.none, .bool false, .ref s.heap.objs.size, rawInt 0, .none, .none] } }) :=
  .of_wp fun prog w A R s h => by
    obtain ⟨hp, g, d, tk, os⟩ := s
    obtain ⟨hl, h⟩ := h
    have hsub := sub_enumerate
    have q1 : ∀ {A' : Around} {E : Value → Shared → Prop} {Q : Value → Shared → Prop}, Q (.ref hp.objs.size) ⟨hp.push { cls := .type "tuple_iterator", data := .fields #[.ref l, .int 0 0] }, g, d, tk, os⟩ → wpAny (model prog w) A' (pyIter (.ref l)) Q E ⟨hp, g, d, tk, os⟩ :=
      fun q => wpAny_pyIter_tuple (s := ⟨hp, g, d, tk, os⟩) hl q
    wp_walk using q1
    refine wpAny_stack_any fun st => wpAny_pure ?_
    split
    · rename_i c _ _ _ _ _
      cases (c == Value.type "enumerate")
      · wp_walk using q1
        exact ⟨_, rfl, h⟩
      · wp_walk using q1
        exact ⟨_, rfl, h⟩
    · wp_walk using q1
      exact ⟨_, rfl, h⟩
section
variable {prog : Program} {w : World} {A : Around} {E : Value → Shared → Prop} {s : Shared}
theorem call_enumT {l : Addr} {items : Array Value} {Q : Value → Shared → Prop} (hL : s.heap.IsTuple l items)
    (h : ∀ h', IsEnum h' (s.heap.objs.size + 1) s.heap.objs.size 0 .none → h'.IsTupleIter s.heap.objs.size l 0 → h'.objs.size = s.heap.objs.size + 2 →
      (∀ b o, s.heap.get? b = some o → h'.get? b = some o) → Q (.ref (s.heap.objs.size + 1)) { s with heap := h' }) :
    wpAny (model prog w) A (call (.type "enumerate") [.ref l]) Q E s := by
  refine callType_new F.called_enumerate (by decide) (F.typeCall_enumerate_1 _) (F.newCall_enumerate_1 _) (fun obj => F.args_object_init_2 obj _) F.entry_enumerate_new
    (meets_enumT l items) ⟨hL, ?_⟩
  have hz : (s.heap.push { cls := .type "tuple_iterator", data := .fields #[.ref l, .int 0 0] }).objs.size = s.heap.objs.size + 1 := Heap.size_push ..
  show _ ∧ _
  rw [hz]
  have he : IsEnum ((s.heap.push { cls := .type "tuple_iterator", data := .fields #[.ref l, .int 0 0] }).push
      { cls := .type "enumerate", data := .fields #[.none, .bool false, .ref s.heap.objs.size, rawInt 0, .none, .none] }) (s.heap.objs.size + 1) s.heap.objs.size 0 .none := by
    have := Heap.get?_push_size (s.heap.push { cls := .type "tuple_iterator", data := .fields #[.ref l, .int 0 0] })
      (o := { cls := .type "enumerate", data := .fields #[.none, .bool false, .ref s.heap.objs.size, rawInt 0, .none, .none] }) rfl
    rw [hz] at this; exact this
  refine ⟨⟨_, he, rfl⟩, h _ he ⟨_, Heap.get?_push_of_some _ (Heap.get?_push_size _ rfl), rfl, rfl⟩ (by rw [Heap.size_push, hz]) fun b o x => Heap.get?_push_of_some _ (Heap.get?_push_of_some _ x)⟩
end
/-- the tuple at a, each item in a new pair -/
def IteT (K : PySem.W.Frag) (a : Addr) : It :=
  ⟨fun i H => ∃ (xs : List V) (x : V), SqT K H a xs ∧ xs[i]? = some x, fun i H v H' => ∃ T x, v = .ref T ∧ H T = none ∧ H' = upd H T (.tup [.int (i : Nat), x]) ∧ ∀ xs, SqT K H a xs → xs[i]? = some x, fun i H => ∃ xs : List V, SqT K H a xs ∧ xs.length = i⟩
theorem turn_enumT {P : Program} {w : World} {K : PySem.W.Frag} {elts : List Expr} {kk : Nat} {tpos : Pos} (a e it : Addr) :
    Turn P w K (.Tuple elts kk tpos) (IteT K a) [e, it] e (fun i h => (∃ old, IsEnum h e it ((i : Nat) : Int) old) ∧ h.IsTupleIter it a i ∧ e ≠ it ∧ a ≠ it ∧ a ≠ e) where
  mem := by simp
  obj := fun i h st b hb => by
    obtain ⟨⟨old, he⟩, ⟨o, ho, hc, hd⟩, _⟩ := st
    have e' : b = e ∨ b = it := by simpa using hb
    rcases e' with z | z
    · rw [z]; exact ⟨_, he, fun v q => nomatch q⟩
    · rw [z]; exact ⟨o, ho, fun v q => by rw [hd] at q; cases q⟩
  keep := fun i h h' st k => let ⟨⟨old, he⟩, hi, hne⟩ := st; ⟨⟨old, k e (by simp) _ he⟩, hi.at fun o q => k it (by simp) o q, hne⟩
  item := by
    intro X hP hw hK hc i pins s σ H E I hf st hg
    subst hP hw hK
    obtain ⟨⟨old, he⟩, hit, hne, hai, hae⟩ := st
    obtain ⟨xs, x, hq, hx⟩ := hg
    obtain ⟨its, rv, p, hz⟩ := I.tuple hq
    obtain ⟨u, hu, ru⟩ := rv.get hx
    have hel : e < s.heap.objs.size := Heap.lt_size he
    have hil : it < s.heap.objs.size := by obtain ⟨_, q, _⟩ := hit; exact Heap.lt_size q
    have hlt : i < its.toArray.size := by
      obtain ⟨li, _⟩ := List.getElem?_eq_some_iff.mp hu
      simpa using li
    refine wpAny_pyNext_enum_itemD (Draws.tuple (A := X.A.in1) (I.ok.hd hc) it a hai its.toArray) he ⟨hit, p⟩ hlt hne (by simp [hne, hae.symm]) fun x' h' tk hPx ho hst' hT hsz hk => ?_
    have ex : x' = u := by
      have q : its.toArray[i]? = some x' := hPx
      rw [List.getElem?_toArray, hu] at q
      exact (Option.some.inj q).symm
    subst ex
    refine ⟨_, rfl, wpAny_letOwnedTupleGo_enum (s := { s with heap := h', toks := tk + 1 }) ho fun h'' he' sb => ?_⟩
    have hT2 : h''.get? s.heap.objs.size = some { cls := .type "tuple", data := .seq #[.int i tk, x'] } := (sb.2 _ (Nat.ne_of_gt hel)).trans hT
    have new : ObjOk X.prog X.w (upd H s.heap.objs.size (.tup [.int (i : Nat), x])) h'' s.heap.objs.size (.tup [.int (i : Nat), x]) :=
      ⟨by show 2 ≤ sizeLine; decide, [.int i tk, x'], .cons ⟨_, rfl⟩ (.cons ru .nil), ⟨_, hT2, rfl, _, rfl⟩⟩
    have I1 : Inv X pins σ (upd H s.heap.objs.size (.tup [.int (i : Nat), x])) { s with heap := h'', toks := tk + 1 } :=
      I.turnedNew (ch := [e, it]) (fun b ob hb q => (sb.2 b (fun z => hb (by simp [z]))).trans (hk b ob (fun z => hb (by simp [z])) (fun z => hb (by simp [z])) q)) hf (Nat.le_refl _) new
    refine ⟨.ref s.heap.objs.size, _, I1, rfl, ⟨_, x, rfl, I.hok.fresh (Nat.le_refl _), rfl, fun ys hy => by rw [I.tuple_inj hy hq]; exact hx⟩, ⟨⟨x', ?_⟩, hst'.1.at fun o q => (sb.2 it (Ne.symm hne)).trans q, hne, hai, hae⟩, fun b hb => ?_⟩
    · have e1 : ((i + 1 : Nat) : Int) = (i : Int) + 1 := by omega
      rw [e1]; exact he'
    · have hb' : b < s.heap.objs.size := by
        have e' : b = e ∨ b = it := by simpa using hb
        rcases e' with z | z
        · rw [z]; exact hel
        · rw [z]; exact hil
      rw [upd_ne (Nat.ne_of_lt hb')]
      exact (hf b hb).1
  done := by
    intro X hP hw hK hc i pins s σ H E I hf st hg
    subst hP hw hK
    obtain ⟨⟨old, he⟩, hit, hne, hai, hae⟩ := st
    obtain ⟨xs, hq, hx⟩ := hg
    obtain ⟨its, rv, p, hz⟩ := I.tuple hq
    obtain ⟨f0, f1, f2, f3, f4, f5⟩ := hf it (by simp)
    have hl := rv.length
    have ei : i = its.toArray.size := by
      rw [List.size_toArray]
      omega
    subst ei
    exact wpAny_pyNext_enum_endD (Draws.tuple (A := X.A.in1) (I.ok.hd hc) it a hai its.toArray) he ⟨hit, p⟩ fun h' eb => ⟨rfl, I.turned (t' := s.toks) (fun b o hb q => eb b o hb q) f0 f1 f3 f4 f5⟩
  self := fun A i s Q E st h => let ⟨⟨_, he⟩, _⟩ := st; wpAny_pyIter_enum he h
def iEnumT (K : PySem.W.Frag) (ta : TA) : TI := fun σ H R => ta σ H fun vs H1 => ∃ a xs, vs = [.ref a] ∧ SqT K H1 a xs ∧ R (IteT K a) H1
theorem pi_enumT {X : Cx} {e : Expr} {ta : TA} {p pos tpos : Pos} {elts : List Expr} {kk : Nat} (hg : Gl X "enumerate") (hm : X.mg "enumerate" = none) (ha : PA X [e] ta) (hs : starEach [e] X.env = [(false, eval e X.env)] := by rfl) :
    PI X (.Tuple elts kk tpos) (.Call (.Name "enumerate" p) [e] [] pos) (iEnumT X.K ta) := by
  refine ⟨fun pins s σ H R I h => ?_⟩
  refine Call_ (ld_blt I hg hm boot_enumerate (PyProof.Rows.callWith_type1 (thn (ha.run pos pins s σ H _ I h) fun us s1 ⟨vs, H1, I1, r1, q1⟩ => ?_) hs rfl))
  obtain ⟨a, xs, ex, hq, q⟩ := q1
  subst ex
  cases r1 with
  | cons r rr =>
    cases rr
    cases r
    obtain ⟨its, rv, p', hz⟩ := I1.tuple hq
    have la : a < s1.heap.objs.size := by
      obtain ⟨o, ho, _⟩ := id p'
      exact Heap.lt_size ho
    refine call_enumT p' fun h' he hit hsz hk => wpAny_pyIter_enum he ?_
    have I2 : Inv X pins σ H1 { s1 with heap := h' } := I1.kept (t' := s1.toks) hk
    refine ⟨s1.heap.objs.size + 1, [s1.heap.objs.size + 1, s1.heap.objs.size], _, _, H1, rfl, I2, turn_enumT a (s1.heap.objs.size + 1) s1.heap.objs.size, ⟨⟨.none, he⟩, hit, Nat.succ_ne_self _, Nat.ne_of_lt la, Nat.ne_of_lt (Nat.lt_succ_of_lt la)⟩, fun b hb => ?_, q⟩
    have e' : b = s1.heap.objs.size + 1 ∨ b = s1.heap.objs.size := by simpa using hb
    have hle : s1.heap.objs.size ≤ b := by
      rcases e' with z | z
      · rw [z]; exact Nat.le_add_right _ _
      · rw [z]; exact Nat.le_refl _
    exact I1.fpOk hle (I1.hok.fresh hle)
theorem walk_enumT {K : PySem.W.Frag} {a : Addr} {xs : List V} : Walk (IteT K a) xs.length (fun H => SqT K H a xs) (YPair (fun i => some (.int (i : Nat))) (fun i => xs[i]?)) := by
  refine ⟨fun i _ hi q => ⟨xs, xs[i], q, by simp [hi]⟩, fun _ q => ⟨xs, q, rfl⟩, fun i H v H' _ q y => ?_⟩
  obtain ⟨T, x, h1, h2, h3, h4⟩ := y
  exact ⟨T, .int (i : Nat), x, h1, h2, h3, rfl, h4 xs q⟩
end XvE
/-! text W24 -/
set_option Elab.async false
set_option linter.all false
set_option maxRecDepth 100000
set_option maxHeartbeats 2000000
/-! typed: None or a value; tuples walked; lists of several -/
namespace Dw
open PySem PySem.Spec PyProof.Rows L2 Evl PySem.W DV
def rIsO : R2 := fun x y H Q => y = .non ∧ Q (.bl (decide (x = .non))) H
def rNotO : R2 := fun x y H Q => y = .non ∧ Q (.bl (!decide (x = .non))) H
theorem op_isO {X : Cx} : OpR X (compareOp .Is) rIsO := op_isN
theorem op_notO {X : Cx} : OpR X (compareOp .IsNot) rNotO := op_notN
section
variable {α β : Type} [DecidableEq α] [Datum α] [DVT α] [DecidableEq β] [Datum β] [DVT β] {K : PySem.W.Frag} {σ : L2.St} {A : Hp} {te : TE}
theorem ed_some [SomeDatum α] {x : α} (h : EvD te σ A x) : EvD te σ A (some x) := fun H1 e Q q => h H1 e Q fun v H2 Hs e2 s r => q v H2 Hs e2 s r
theorem ed_unsome [SomeDatum α] {x : α} (h : EvD te σ A (some x)) : EvD te σ A x := fun H1 e Q q => h H1 e Q fun v H2 Hs e2 s r => q v H2 Hs e2 s r
theorem ed_none [SomeDatum α] : EvD (tC .non) σ A (none : Option α) := fun H1 _ _ q => q _ H1 (fun _ => none) (Ex.refl H1) ⟨fun _ _ z => (by cases z), fun _ _ z => (by cases z)⟩ rfl
theorem pair_ne {H : Hp} {v : V} {x : α × β} (h : rep H v x) : v ≠ .non := by
  obtain ⟨a, u, w, rfl, _⟩ := h
  exact fun z => by cases z
theorem ev_isO {x : Option (α × β)} (h : EvD te σ A x) : Ev (tOp rIsO te (tC .non)) σ A (.bl x.isNone) := fun H1 e Q q => h.go e fun v H2 e2 r => by
  refine ⟨rfl, ?_⟩
  cases x with
  | none =>
    have r' : v = .non := r
    rw [decide_eq_true r']
    exact q H2 e2
  | some y =>
    rw [decide_eq_false (pair_ne (x := y) r)]
    exact q H2 e2
theorem ev_notO {x : Option (α × β)} (h : EvD te σ A x) : Ev (tOp rNotO te (tC .non)) σ A (.bl x.isSome) := fun H1 e Q q => h.go e fun v H2 e2 r => by
  refine ⟨rfl, ?_⟩
  cases x with
  | none =>
    have r' : v = .non := r
    rw [decide_eq_true r']
    exact q H2 e2
  | some y =>
    rw [decide_eq_false (pair_ne (x := y) r)]
    exact q H2 e2
end
section
variable {α β : Type} [DecidableEq α] [Datum α] [DV α] [DecidableEq β] [Datum β] [DV β] {K : PySem.W.Frag} {σ : L2.St} {H A A0 H0 : Hp} {te ta tb : TE} {tt : TT} {D : Ends}
/-- a tuple display, its things of one type -/
theorem ed_tupD {xs : List α} {ta : TA} (h : EvDA ta σ A xs) (hl : xs.length ≤ 100000) : EvD (tTup ta) σ A (⟨xs⟩ : Tup α) := fun H1 e Q q => h H1 e _ fun vs H2 Hs e2 s r => by
  refine ⟨by rw [Reps.len r]; exact sz_of hl, fun p np => ?_⟩
  exact q _ _ (upd Hs p (.tup vs)) (e2.trans (Ex.new np)) (sup_new e2 s np) ⟨p, vs, rfl, upd_same, Reps.ext (Ex.new (sup_no s np)) r⟩
/-- a comprehension over a tuple -/
theorem ed_lcT {xs : List α} {tl : TE} {j : Nat} {vs : List Nat} (f : α → Bool) (g : α → β) (h : EvD tl σ A (⟨xs⟩ : Tup α)) (hz : xs.length ≤ 30000) (hw : ∀ x, wipe ((wipe σ vs).set j (some x)) vs = wipe σ vs)
    (ht : ∀ (x : α) (v : V) H1, Ex A H1 → x ∈ xs → rep H1 v x → EvT tt ((wipe σ vs).set j (some v)) H1 (f x)) (he : ∀ (x : α) (v : V) H1, Ex A H1 → x ∈ xs → rep H1 v x → f x = true → EvD te ((wipe σ vs).set j (some v)) H1 (g x)) :
    EvD (tLc (iTup K tl) (gName j) tt te vs) σ A ((xs.filter f).map g) := fun H0 e0 Q q => h H0 e0 _ fun v H1 Hs e1 sp r => by
  obtain ⟨a, us, rfl, h1, h2⟩ := r
  have h2' : Reps Hs us xs := h2
  have len := Reps.len h2'
  have ha := sp.e _ _ h1
  refine ⟨a, rfl, ⟨us, st_of ha⟩, fun D nD => ?_⟩
  have eB : Ex (jn A Hs) H1 := jn_ex (e0.trans e1) sp.e
  refine ed_lcW (walk_tup (xs := us)) e1 eB (fun b u z => (jn_of z).elim .inl (sp.o b u)) (fun i => ((xs.take i).filter f).map g) (by simp) (fun i hi => ?_) (fun H' e => st_of (e _ _ ha)) (fun i x H2 H3 hi e2 hy => ?_) (fun v H5 Hw e5 s5 r5 => q v H5 Hw e5 s5 ?_) nD
  · rw [List.length_map]
    have := List.length_filter_le f (xs.take i)
    rw [List.length_take] at this
    omega
  · obtain ⟨rfl, hx⟩ := hy
    have hk : xs[i]? = some xs[i] := List.getElem?_eq_getElem (by omega)
    have rx : rep (jn A Hs) x xs[i] := DV.ext (jn_r (e0.trans e1) sp.e) (Reps.at h2' hx hk)
    have mx : xs[i] ∈ xs := List.getElem_mem _
    refine ⟨Ex.refl _, f xs[i], if f xs[i] = true then g xs[i] else g xs[i], fun z => ?_, fun z => ?_, fun C c => c _ (hw x) (ht _ x _ jn_l mx rx) fun z => ?_⟩
    · show ((xs.take (i + 1)).filter f).map g = _
      rw [List.take_add_one, hk, List.filter_append, List.map_append]
      simp [z]
    · show ((xs.take (i + 1)).filter f).map g = _
      rw [List.take_add_one, hk, List.filter_append, List.map_append]
      simp [z]
    · rw [ite_self]
      exact he _ x _ jn_l mx rx z
  · rw [List.take_of_length_le (by omega)] at r5
    exact r5
/-- a list display bound to a name: the list itself is not known yet -/
theorem b_lstN {xs : List α} {ta : TA} {i : Nat} {tz : TS} (B : Bs A0 H0 A H) (h : EvDA ta σ A xs) (hl : xs.length ≤ 100000) (k : ∀ vs d A' H1, Bs A0 H0 A' H1 → Ex A A' → A' d = none → H0 d = none → H1 d = some (.lst vs) → Reps A' vs xs → tz D (σ.set i (some (.ref d))) H1) : tSeq (tAsg (tLst ta) (gName i)) tz D σ H := h H B.h _ fun vs H1 Hs e s r => by
  refine ⟨by rw [Reps.len r]; exact sz_of hl, fun d nd => ?_⟩
  have B1 := B.go e s
  exact k vs d (jn A Hs) _ (B1.mono (Ex.new nd)) jn_l (fresh_back B1.h nd) (fresh_back B1.e nd) upd_same (Reps.ext (jn_r (B.h.trans e) s.e) r)
/-- d.extend(te) -/
theorem b_extD {ys : List α} {i : Nat} {tz : TS} {d : Addr} {vs : List V} (B : Bs A0 H0 A H) (hσ : σ[i]? = some (some (.ref d))) (hd : H d = some (.lst vs)) (hz : vs.length + ys.length ≤ 100000) (nA : A d = none) (nH : H0 d = none) (h : EvD te σ A ys)
    (k : ∀ us A' H1, Bs A0 H0 A' H1 → Ex A A' → A' d = none → H1 d = some (.lst (vs ++ us)) → Reps A' us ys → tz D σ H1) : tSeq (tDrop (tBM K "list" rExtend (tVar i) (tCons te tNil))) tz D σ H := by
  refine ⟨.ref d, hσ, .inl ⟨rfl, _, sq_of hd⟩, h H B.h _ fun v H1 Hs e s r => ?_⟩
  obtain ⟨b, us, rfl, g1, g2⟩ := r
  have B1 := B.go e s
  have nS : Hs d = none := by
    cases z : Hs d with
    | none => rfl
    | some o =>
      rcases s.o d o z with y | y
      · rw [nA] at y
        cases y
      · rw [hd] at y
        cases y
  have nJ : jn A Hs d = none := by
    cases z : jn A Hs d with
    | none => rfl
    | some o => exact (jn_of z).elim (fun y => by rw [nA] at y; cases y) fun y => by rw [nS] at y; cases y
  exact ⟨d, b, vs, us, rfl, rfl, e _ _ hd, s.e _ _ g1, by rw [Reps.len g2]; exact sz_of hz, k us (jn A Hs) _ (B1.mut nH nJ) jn_l nJ upd_same (Reps.ext (jn_r (B.h.trans e) s.e) g2)⟩
/-- xs[-1] -/
theorem ed_ixLast {xs : List α} {x : α} (h : EvD ta σ A xs) (hx : xs.getLast? = some x) (h100 : xs.length ≤ 1000) : EvD (tOp (rIxL K) ta (tUn (rU fun i => .int (-i)) (tC (.int 1)))) σ A x := fun H1 e Q q => h H1 e _ fun v H2 Hs e2 s r => by
  obtain ⟨a, vs, rfl, g1, g2⟩ := r
  have len := Reps.len g2
  have pos : 0 < xs.length := by
    cases xs with
    | nil => simp at hx
    | cons y r => simp
  rw [List.getLast?_eq_getElem?] at hx
  have hv : vs[vs.length - 1]? = some vs[vs.length - 1] := List.getElem?_eq_getElem (by omega)
  refine ⟨1, rfl, a, vs, -1, vs[vs.length - 1], rfl, rfl, sq_of (s.e _ _ g1), ?_, q _ H2 Hs e2 s (Reps.at g2 hv (by rw [len]; exact hx))⟩
  show (ixN vs.length (-1)).bind _ = _
  have e1 : ixN vs.length (-1) = some (vs.length - 1) := by
    unfold ixN
    rw [if_neg (by decide), if_pos (by omega)]
    congr 1
    omega
  rw [e1]
  exact hv
end
end Dw
/-! text D27a -/
set_option Elab.async false
set_option linter.all false
set_option maxRecDepth 100000
set_option maxHeartbeats 8000000
/-! whether both, either go over fallen and trusted -/
namespace K07
open PySem PySem.Spec PyProof.Rows L2 Evl PySem.W Dw Dw.DV RZ StX Lot LmV LamX NdefX XvE
/-- all but the spring -/
def cutP (p c : Addr) (H : Hp) : Hp := fun b => if b ∈ [p, c] then none else H b
theorem cutP_of {p c b : Addr} {H : Hp} {o : HO} (h : cutP p c H b = some o) : b ∉ [p, c] ∧ H b = some o := by
  unfold cutP at h
  by_cases m : b ∈ [p, c]
  · rw [if_pos m] at h
    cases h
  · rw [if_neg m] at h
    exact ⟨m, h⟩
theorem cutP_mk {p c b : Addr} {H : Hp} {o : HO} (m : b ∉ [p, c]) (h : H b = some o) : cutP p c H b = some o := by
  unfold cutP
  rw [if_neg m]
  exact h
theorem cutP_ex {p c : Addr} {H : Hp} : Ex (cutP p c H) H := fun b o h => (cutP_of h).2
theorem cutP_exb {p c : Addr} {H H' : Hp} (e : ExB [p, c] H H') : Ex (cutP p c H) H' := fun b o h => e b o (cutP_of h).1 (cutP_of h).2
theorem St.lst {H : Hp} {p c b : Addr} {n : Int} (s : St H p c n) (m : b ∈ [p, c]) : ∃ xs, H b = some (.lst xs) := by
  obtain ⟨ne, cells, rest, cnt, mix, h1, h2, _⟩ := s
  rcases List.mem_cons.mp m with z | m
  · exact ⟨_, by rw [z]; exact h1⟩
  · exact ⟨_, by rw [List.mem_singleton.mp m]; exact h2⟩
theorem tabs_cut {p c Pt : Addr} {q : Str} {H : Hp} {n : Int} (s : St H p c n) (T : Tabs [(Pt, q)] H) : Tabs [(Pt, q)] (cutP p c H) := by
  intro x hx
  obtain ⟨ps, h1, h2, h3⟩ := T x hx
  refine ⟨ps, cutP_mk (fun m => ?_) h1, h2, fun pos cv hc => ?_⟩
  · obtain ⟨xs, z⟩ := s.lst m
    rw [h1] at z
    cases z
  · obtain ⟨c0, e1, e2⟩ := h3 pos cv hc
    refine ⟨c0, e1, cutP_mk (fun m => ?_) e2⟩
    obtain ⟨xs, z⟩ := s.lst m
    rw [e2] at z
    unfold CodeO at z
    cases z
theorem rdy_cut {p c Pt : Addr} {q : Str} {pos : Pos} {H : Hp} {n : Int} (s : St H p c n) (R : Rdy Pt q pos H) : Rdy Pt q pos (cutP p c H) := by
  obtain ⟨ps, cv, h1, h2⟩ := R.c
  refine ⟨tabs_cut s R.t, ps, cv, cutP_mk (fun m => ?_) h1, h2⟩
  obtain ⟨xs, z⟩ := s.lst m
  rw [h1] at z
  cases z
theorem St.exn {H H' : Hp} {p c : Addr} {n : Int} (s : St H p c n) (k : ∀ b o, H b = some o → (∀ ps, o ≠ .tbl ps) → H' b = some o) : St H' p c n := by
  have s0 := s
  obtain ⟨ne, cells, rest, cnt, mix, h1, h2, _⟩ := s
  exact s0.ext ((k _ _ h1 (fun _ z => by cases z)).trans h1.symm) ((k _ _ h2 (fun _ z => by cases z)).trans h2.symm) (Int.le_refl _)
/-- the first statement that may come to the lambda for the first time -/
theorem ov_first {Pt : Addr} {σ : L2.St} {H : Hp} {TZ : TS} {D : Ends} {v u : V} {F G : FamT} (h1 : σ[1]? = some (some v)) (h2 : σ[2]? = some (some u)) (hv : rep H v F) (hu : rep H u G) (T : Two F G) (sf : DVT.sm F) (sg : DVT.sm G) (sb : DVT.sm (bothOf F G)) (hT : Tabs [(Pt, lmQ)] H)
    (cont : ∀ w H4 Hs4, (∀ b o, H b = some o → (∀ ps, o ≠ .tbl ps) → H4 b = some o) → (∀ b, H4 b = none → H b = none) → Rdy Pt lmQ lmPos H4 → Ex Hs4 H4 → (∀ b o, Hs4 b = some o → H b = none) → rep Hs4 w (bothOf F G) → TZ D (σ.set 4 (some w)) H4) :
    tSeq (tAsg (tCall (spC 8) [] E0 (tCons (tCall (spBoth Pt) [] E0 (tCons (tCall (spC 8) [] E0 (tCons (tVar 1) tNil)) (tCons (tCall (spC 8) [] E0 (tCons (tVar 2) tNil)) tNil))) tNil)) (gName 4)) TZ D σ H := by
  have c1 : EvD (tCall (spC 8) [] E0 (tCons (tVar 1) tNil)) σ H F := ed_copied (ed_var h1 hv) sf
  have c2 : EvD (tCall (spC 8) [] E0 (tCons (tVar 2) tNil)) σ H G := ed_copied (ed_var h2 hu) sg
  by_cases R : Rdy Pt lmQ lmPos H
  · refine (ed_call2W (E := E0) R c1 c2 T : EvD (tCall (spBoth Pt) [] E0 _) σ H (bothOf F G)) H (Ex.refl H) _ fun y H3 Hs3 e3 s3 r3 => ?_
    refine ⟨y, Hs3, rfl, s3.e, (DVT.tw sb r3 r3).ups (by decide), fun w H4 Hs4 e4 k1 k2 t => ?_⟩
    have e34 := e3.trans e4
    exact cont w H4 Hs4 (fun b o z _ => e34 b o z) (fun b z => exf e34 z) (R.ext e34) k1 (fun b o z => exf e3 (k2 b o z)) (DVT.cp (α := FamT) r3 t)
  · refine c1 H (Ex.refl H) _ fun v1 H1 B1 e1 s1 r1 => c2 H1 e1 _ fun u1 H2 B2 e2 s2 r2 => ?_
    have sj := s1.join (Ex.refl H) e1 e2 s2
    refine ⟨v1, u1, F, G, jn B1 B2, rfl, sj.e, DV.ext jn_l r1, DV.ext (jn_r (s1.e.trans e2) s2.e) r2, T, .inr ⟨hT.ext (e1.trans e2), fun y H3 Hs3 eN nn R3 s3 r3 => ?_⟩⟩
    refine ⟨y, Hs3, rfl, s3.e, (DVT.tw sb r3 r3).ups (by decide), fun w H4 Hs4 e4 k1 k2 t => ?_⟩
    have e12 := e1.trans e2
    exact cont w H4 Hs4 (fun b o z nt => e4 _ _ (eN _ _ (e12 _ _ z) nt)) (fun b z => exf e12 (nn b (exf e4 z))) (R3.ext e4) k1 (fun b o z => exf e12 (nn b (k2 b o z))) (DVT.cp (α := FamT) r3 t)
theorem ed_triedF {Pt fA fB : Addr} {σ : L2.St} {A : Hp} {te tn : TE} {F : FamT} {x : Str} (R : Rdy Pt lmQ lmPos A) (h : EvD te σ A F) (hn : EvD tn σ A x) (O : One F x) : EvD (tCall (spTried Pt fA fB) [] E0 (tCons (tC (.ref fA)) (tCons te (tCons tn tNil)))) σ A (triedF F x) := fun H1 e Q q => h H1 e _ fun v H2 B e2 s r => hn H2 (e.trans e2) _ fun u H3 C e3 t r' => by
  have sj := s.join e e2 e3 t
  have eA : Ex A H3 := (e.trans e2).trans e3
  exact ⟨fA, v, u, F, x, jn A (jn B C), rfl, jn_ex eA sj.e, R.ext jn_l, DV.ext (jn_l.trans (jn_r eA sj.e)) r, DV.ext ((jn_r (s.e.trans e3) t.e).trans (jn_r eA sj.e)) r', O, .inl ⟨rfl, fun z H4 Hs e4 w r4 => q z H4 Hs ((e2.trans e3).trans e4) ⟨w.e, fun b o z => by
    rcases w.o b o z with y | y
    · rcases jn_of y with w | w
      · exact .inl w
      · exact sj.o b o w
    · exact .inr (exf (e2.trans e3) y)⟩ r4⟩⟩
theorem ed_triedT {Pt fA fB : Addr} {σ : L2.St} {A : Hp} {te tn : TE} {F : FamT} {x : Str} (R : Rdy Pt lmQ lmPos A) (h : EvD te σ A F) (hn : EvD tn σ A x) (O : One F x) : EvD (tCall (spTried Pt fA fB) [] E0 (tCons (tC (.ref fB)) (tCons te (tCons tn tNil)))) σ A (triedT F x) := fun H1 e Q q => h H1 e _ fun v H2 B e2 s r => hn H2 (e.trans e2) _ fun u H3 C e3 t r' => by
  have sj := s.join e e2 e3 t
  have eA : Ex A H3 := (e.trans e2).trans e3
  exact ⟨fB, v, u, F, x, jn A (jn B C), rfl, jn_ex eA sj.e, R.ext jn_l, DV.ext (jn_l.trans (jn_r eA sj.e)) r, DV.ext ((jn_r (s.e.trans e3) t.e).trans (jn_r eA sj.e)) r', O, .inr ⟨rfl, fun z H4 Hs e4 w r4 => q z H4 Hs ((e2.trans e3).trans e4) ⟨w.e, fun b o z => by
    rcases w.o b o z with y | y
    · rcases jn_of y with w | w
      · exact .inl w
      · exact sj.o b o w
    · exact .inr (exf (e2.trans e3) y)⟩ r4⟩⟩
end K07
/-! text D27 -/
set_option Elab.async false
set_option linter.all false
set_option maxRecDepth 100000
set_option maxHeartbeats 8000000
/-! whether both, either go over fallen and trusted -/
namespace K07
open PySem PySem.Spec PyProof.Rows L2 Evl PySem.W Dw Dw.DV RZ StX Lot LmV LamX NdefX XvE
theorem triedF_isNone (X : FamT) (x : Str) : (triedF X x).isNone = decide (fall x X.2 = []) := by
  unfold triedF
  by_cases h : fall x X.2 = []
  · rw [if_pos h, decide_eq_true h]
    rfl
  · rw [if_neg h, decide_eq_false h]
    rfl
theorem triedT_isNone (X : FamT) (x : Str) : (triedT X x).isNone = decide ([] ∈ trust x X.2) := by
  unfold triedT
  by_cases h : [] ∈ trust x X.2
  · rw [if_pos h, decide_eq_true h]
    rfl
  · rw [if_neg h, decide_eq_false h]
    rfl
theorem isSome_F {X : FamT} {x : Str} (h : (triedF X x).isSome = true) : fall x X.2 ≠ [] := fun z => by
  rw [(triedF_none X x).mpr z] at h
  cases h
theorem isSome_T {X : FamT} {x : Str} (h : (triedT X x).isSome = true) : ¬ [] ∈ trust x X.2 := fun z => by
  rw [(triedT_none X x).mpr z] at h
  cases h
/-- the halves that are not None: the first, the last -/
theorem halves_of {ks : List Str} {F G : FamT} (hF : Sm ks 5 F) (hG : Sm ks 5 G) (l2 : 2 ≤ ks.length) (x : Str) (h : ¬ (fall x F.2 = [] ∧ fall x G.2 = [])) :
    ∃ L M : FamT, Sm (drop1 x ks) 5 L ∧ Sm (drop1 x ks) 5 M ∧ ([triedF F x, triedF G x].filter Option.isSome)[0]? = some (some L) ∧ ([triedF F x, triedF G x].filter Option.isSome).getLast? = some (some M) ∧ eitherOf L M = (drop1 x ks, fall x (eitherOf F G).2) := by
  by_cases a : fall x F.2 = []
  · by_cases b : fall x G.2 = []
    · exact absurd ⟨a, b⟩ h
    · have eg := triedF_some hG (x := x) b
      have ef := (triedF_none F x).mpr a
      have m := fall_sm hG l2 x b
      refine ⟨_, _, m, m, by rw [ef, eg]; rfl, by rw [ef, eg]; rfl, fall_eitherOf hF hG x m m fun l => ?_⟩
      rw [a]
      simp
  · have ef := triedF_some hF (x := x) a
    have m := fall_sm hF l2 x a
    by_cases b : fall x G.2 = []
    · have eg := (triedF_none G x).mpr b
      refine ⟨_, _, m, m, by rw [ef, eg]; rfl, by rw [ef, eg]; rfl, fall_eitherOf hF hG x m m fun l => ?_⟩
      rw [b]
      simp
    · have eg := triedF_some hG (x := x) b
      have m2 := fall_sm hG l2 x b
      exact ⟨_, _, m, m2, by rw [ef, eg]; rfl, by rw [ef, eg]; rfl, fall_eitherOf hF hG x m m2 fun l => Iff.rfl⟩
section
variable {P : Program} {w : World} {K : PySem.W.Frag} {mg : Str → Option Value} {base : Heap} {f : Addr} {fd : FuncData} {fL fN f1 fK fS fO fH fF fT : Addr} {dL dN d1 dK dS dO dH dF dT : FuncData} {fC fW fU fV Pt : Addr} {dC dW dU dV : FuncData} {fBo fEi fCo fSa : Addr} {dBo dEi dCo dSa : FuncData} {fQ fR CN : Addr} {dQ dR : FuncData} {fA fB fTr fPi fD fAl fOn fWi : Addr} {dA dB dTr dPi dD dAl dOn dWi : FuncData}
/-- more of the law's helpers -/
structure Ms (K : PySem.W.Frag) (mg : Str → Option Value) (CN fQ fR fA fB fTr fPi fD fAl fOn fWi : Addr) (dQ dR dA dB dTr dPi dD dAl dOn dWi : FuncData) : Prop where
  NL : NoX K mg "NoLots" CN
  KN : Df K mg "known_keeper" 24 fQ dQ
  LE : Df K mg "less_keeper" 27 fR dR
  FA : Df K mg "fallen_family" 28 fA dA
  FB : Df K mg "trusted_family" 29 fB dB
  TR : Df K mg "_law_tried" 48 fTr dTr
  PI : Df K mg "_law_pick" 42 fPi dPi
  DR : Df K mg "_law_draw" 41 fD dD
  AL : Df K mg "_law_a_least" 38 fAl dAl
  ON : Df K mg "_law_each_once" 46 fOn dOn
  WI : Df K mg "_law_a_within" 37 fWi dWi
  ne : fA ≠ fB
/-- the end of a def that may be the first to come to the lambda: all data but the spring stay -/
def EndR (Pt : Addr) (H : Hp) (p c : Addr) (n : Int) (Q : VK) : Prop := ∀ H', (∀ b o, b ∉ [p, c] → H b = some o → (∀ ps, o ≠ .tbl ps) → H' b = some o) → (∀ b, H' b = none → H b = none) → Rdy Pt lmQ lmPos H' → St H' p c n → Q (.bl true) H'
def spOv (Pt : Addr) : Sp := fun vs H Q _ => ∃ (p c : Addr) (n : Int) (v u : V) (ks : List Str) (F G : FamT) (A : Hp), vs = [.ref p, v, u] ∧ St H p c n ∧ n ≤ 800000 ∧ Ex A H ∧ A p = none ∧ A c = none ∧ Tabs [(Pt, lmQ)] H ∧ rep A v F ∧ rep A u G ∧ Fam2 ks F G ∧ EndR Pt H p c (n + 10) Q
abbrev NOv : List Str := ["stream", "one", "other", "name", "both", "either", "fell", "kept", "rest", "at", "some", "left", "words", "due", "halves", "far", "lot", "row"]
theorem scOv : FnScope NOv ["stream", "one", "other"] (defScope (top 49)) := ⟨rfl, rfl, rfl, by decide +kernel, rfl, by decide +kernel, by decide +kernel⟩
abbrev scOvI1 : Scope := { kind := .function, names := [(".0", .local), ("lot", .local), ("name", .cell)], isGenerator := false, isCoroutine := false }
abbrev scOvI2 : Scope := { kind := .function, names := [(".0", .local), ("row", .local)], isGenerator := false, isCoroutine := false }
theorem uB2 {k : Nat} {A : Around} (hr : Room k A) : A.units + Datum.depth (List Bool) < cLine := by
  have h := hr.un
  show A.units + 1 < cLine
  omega
theorem ok_ov (F : FnP K "_law_over_right" (top 49) f fd) (B : Bn mg) (Z : Fs K mg fL fN f1 fK fS fO fH fF fT dL dN d1 dK dS dO dH dF dT) (Y : Gs K mg base Pt fC fW fU fV dC dW dU dV) (L : Ls K mg fBo fEi fCo fSa dBo dEi dCo dSa)
    (M : Ms K mg CN fQ fR fA fB fTr fPi fD fAl fOn fWi dQ dR dA dB dTr dPi dD dAl dOn dWi) : FnOk P w K mg base CX0 10 f fd ["stream", "one", "other"] (spOv Pt) := by
  have GB : FnOk P w K mg base CX0 7 fBo dBo ["family", "other_family"] (spBoth Pt) := ok_both L.B.F B Z Y
  have bB : Binds K dBo ["family", "other_family"] [] := L.B.F.bindsN fun _ _ _ _ _ _ us hl => match us, hl with | [_, _], _ => rfl
  have GE : FnOk P w K mg base CX0 7 fEi dEi ["family", "other_family"] (spEither Pt) := ok_either L.E.F B Z Y
  have bE : Binds K dEi ["family", "other_family"] [] := L.E.F.bindsN fun _ _ _ _ _ _ us hl => match us, hl with | [_, _], _ => rfl
  have GC : FnOk P w K mg base CX0 8 fCo dCo ["thing"] (spC 8) := ok_copied L.C.F L.C.g B 8
  have bC : Binds K dCo ["thing"] [] := L.C.F.bindsN fun _ _ _ _ _ _ us hl => match us, hl with | [_], _ => rfl
  have GS : FnOk P w K mg base CX0 8 fSa dSa ["found", "due"] (spS 8) := ok_same L.S.F L.S.g B 8
  have bS : Binds K dSa ["found", "due"] [] := L.S.F.bindsN fun _ _ _ _ _ _ us hl => match us, hl with | [_, _], _ => rfl
  have GT : FnOk P w K mg base CX0 9 fTr dTr ["way", "family", "name"] (spTried Pt fA fB) := ok_tried M.TR.F B Z Y M.NL M.KN M.LE M.FA M.FB L.C
  have bT : Binds K dTr ["way", "family", "name"] [] := M.TR.F.bindsN fun _ _ _ _ _ _ us hl => match us, hl with | [_, _, _], _ => rfl
  have GP : FnOk P w K mg base CX0 2 fPi dPi ["stream", "some"] spPick := ok_pick M.PI.F B M.DR
  have bP : Binds K dPi ["stream", "some"] [] := M.PI.F.bindsN fun _ _ _ _ _ _ us hl => match us, hl with | [_, _], _ => rfl
  have GA : FnOk P w K mg base CX0 2 fAl dAl ["lots"] spAl := ok_al M.AL.F B M.ON M.WI
  have bA : Binds K dAl ["lots"] [] := M.AL.F.bindsN fun _ _ _ _ _ _ us hl => match us, hl with | [_], _ => rfl
  refine F.ok scOv (fun vs H Q E h => ?_) (fun cdv A outer s H vs Q E hr h => ?_)
  · obtain ⟨p, c, n, v, u, _, _, _, _, rfl, _⟩ := h
    rfl
  · obtain ⟨p, c, n, v, u, ks, F, G, A0, rfl, hst, hn, eA, Ap, Ac, hT, hv, hu, T, q⟩ := h
    refine ⟨_, PSs.nox (
      -- name = _law_pick(stream, one[0])
      pss_cons (ps_set (i := 3) scOv.nd rfl (.inr rfl) (pe_call GP (hr.mono (by decide)) (by rfl) M.PI.g M.PI.F.kp bP .nil pass0 (pa_cons (pv 0) (pa_cons (pe_ix ix_tup (pv 1) pe_int (fun _ _ => rfl)) pa_nil))))
      -- both, either
      (pss_cons (ps_set (i := 4) scOv.nd rfl (.inl rfl) (pe_call GC (hr.mono (by decide)) (by rfl) L.C.g L.C.F.kp bC .nil pass0 (pa_cons (pe_call GB (hr.mono (by decide)) (by rfl) L.B.g L.B.F.kp bB .nil pass0 (pa_cons (pe_call GC (hr.mono (by decide)) (by rfl) L.C.g L.C.F.kp bC .nil pass0 (pa_cons (pv 1) pa_nil)) (pa_cons (pe_call GC (hr.mono (by decide)) (by rfl) L.C.g L.C.F.kp bC .nil pass0 (pa_cons (pv 2) pa_nil)) pa_nil))) pa_nil)))
      (pss_cons (ps_set (i := 5) scOv.nd rfl (.inl rfl) (pe_call GC (hr.mono (by decide)) (by rfl) L.C.g L.C.F.kp bC .nil pass0 (pa_cons (pe_call GE (hr.mono (by decide)) (by rfl) L.E.g L.E.F.kp bE .nil pass0 (pa_cons (pe_call GC (hr.mono (by decide)) (by rfl) L.C.g L.C.F.kp bC .nil pass0 (pa_cons (pv 1) pa_nil)) (pa_cons (pe_call GC (hr.mono (by decide)) (by rfl) L.C.g L.C.F.kp bC .nil pass0 (pa_cons (pv 2) pa_nil)) pa_nil))) pa_nil)))
      -- fell, kept
      (pss_cons (ps_setLc (i := 6) (own := [("some", 10)]) (g := gName 10) (tt := tYes) (te := tCall (spTried Pt fA fB) [] E0 (tCons (tC (.ref fA)) (tCons (tVar 10) (tCons (tVar 3) tNil)))) rfl scOv.nd rfl rfl (sw_true rfl rfl (by rfl) (by rfl)) (pi_tup (pe_tup (pa_cons (pv 1) (pa_cons (pv 2) (pa_cons (pv 4) (pa_cons (pv 5) pa_nil)))))) (blkOk_by (N := NOv) (sc := defScope (top 49)) (by decide +kernel))
        (fun _ _ _ _ _ => pg_name (i := 10) scOv.nd rfl (.inl rfl)) (fun _ _ _ _ _ => pts_nil) (fun _ _ _ _ _ => pe_call GT hr (by rfl) M.TR.g M.TR.F.kp bT .nil pass0 (pa_cons (pe_glob (v := .ref fA) (by rfl) M.FA.g rfl) (pa_cons (pv 10) (pa_cons (pv 3) pa_nil)))))
      (pss_cons (ps_setLc (i := 7) (own := [("some", 10)]) (g := gName 10) (tt := tYes) (te := tCall (spTried Pt fA fB) [] E0 (tCons (tC (.ref fB)) (tCons (tVar 10) (tCons (tVar 3) tNil)))) rfl scOv.nd rfl rfl (sw_true rfl rfl (by rfl) (by rfl)) (pi_tup (pe_tup (pa_cons (pv 1) (pa_cons (pv 2) (pa_cons (pv 4) (pa_cons (pv 5) pa_nil)))))) (blkOk_by (N := NOv) (sc := defScope (top 49)) (by decide +kernel))
        (fun _ _ _ _ _ => pg_name (i := 10) scOv.nd rfl (.inl rfl)) (fun _ _ _ _ _ => pts_nil) (fun _ _ _ _ _ => pe_call GT hr (by rfl) M.TR.g M.TR.F.kp bT .nil pass0 (pa_cons (pe_glob (v := .ref fB) (by rfl) M.FB.g rfl) (pa_cons (pv 10) (pa_cons (pv 3) pa_nil)))))
      -- rest
      (pss_cons (ps_setLc (i := 8) (own := [("far", 15)]) (g := gName 15) (tt := tTest (tOp (rEqW Str true) (tVar 15) (tVar 3))) (te := tVar 15) rfl scOv.nd rfl rfl (sw_true rfl rfl (by rfl) (by rfl)) (pi_list (pe_ix ix_tup (pv 1) pe_int (fun _ _ => rfl))) (blkOk_by (N := NOv) (sc := defScope (top 49)) (by decide +kernel))
        (fun _ _ _ _ _ => pg_name (i := 15) scOv.nd rfl (.inl rfl)) (fun _ _ _ _ _ => pts_one (pt_cmpR (op_neW (α := Str) (uT hr)) (pv 15) (pv 3) (by rfl))) (fun _ _ _ _ _ => pv 15))
      -- for at, some in enumerate((one, other))
      (pss_cons (ps_for PassesOwn.never rfl (pi_enumT (by rfl) B.enumerate (pa_cons (pe_tup (pa_cons (pv 1) (pa_cons (pv 2) pa_nil))) pa_nil)) (pg_tup rfl (pgs_cons (pg_name (i := 9) scOv.nd rfl (.inl rfl)) (pgs_cons (pg_name (i := 10) scOv.nd rfl (.inl rfl)) pgs_nil)))
        (pss_cons (ps_setLc (i := 11) (own := [("lot", 16)]) (g := gName 16) (tt := tTest (tOp (rInW Str true) (tVar 3) (tVar 16))) (te := tVar 16) rfl scOv.nd rfl rfl (sw_true rfl rfl (by rfl) (by rfl)) (pi_list (pe_ix ix_tup (pv 10) pe_int (fun _ _ => rfl))) (blkOk_by (N := NOv) (sc := defScope (top 49)) (by decide +kernel))
          (fun _ _ _ _ _ => pg_name (i := 16) scOv.nd rfl (.inl rfl)) (fun _ _ _ _ _ => pts_one (pt_cmpR (op_notInW (α := Str) (uS hr)) (pv 3) (pv 16) (by rfl))) (fun _ _ _ _ _ => pv 16))
        (pss_cons (ps_if (pt_not (pt_val (pe_call GS (hr.mono (by decide)) (by rfl) L.S.g L.S.F.kp bS .nil pass0 (pa_cons (pe_ix ix_list (pv 6) (pv 9) (fun _ _ => rfl)) (pa_cons (pe_ifExp (pt_cmpR (op_neW (α := List (List Str)) (uLL hr)) (pv 11) (pe_lst pa_nil) (by rfl)) (pe_tup (pa_cons (pv 8) (pa_cons (pv 11) pa_nil))) pe_non) pa_nil))))) pss_never pss_nil)
        (pss_cons (ps_setLc (i := 11) (own := [("lot", 16)]) (g := gName 16) (tt := tYes) (te := tLc (iList K (tVar 16)) (gName 15) (tTest (tOp (rEqW Str true) (tVar 15) (tVar 3))) (tVar 15) [15]) rfl scOv.nd rfl rfl (sw_true rfl rfl (by rfl) (by rfl)) (pi_list (pe_ix ix_tup (pv 10) pe_int (fun _ _ => rfl))) (blkOk_by (N := NOv) (sc := defScope (top 49)) (by decide +kernel))
          (fun _ _ _ _ _ => pg_name (i := 16) scOv.nd rfl (.inl rfl)) (fun _ _ _ _ _ => pts_nil)
          (fun _ _ _ _ _ => pe_lc (own := [("far", 15)]) (g := gName 15) (tt := tTest (tOp (rEqW Str true) (tVar 15) (tVar 3))) (te := tVar 15) rfl scOv.nd (pi_list (pv 16)) (blkOk_by (N := NOv) (sc := scOvI1) (by decide +kernel))
            (fun _ _ _ _ _ => pg_name (i := 15) scOv.nd rfl (.inl rfl)) (fun _ _ _ _ _ => pts_one (pt_cmpR (op_neW (α := Str) (uT hr)) (pv 15) (pv 3) (by rfl))) (fun _ _ _ _ _ => pv 15)))
        (pss_one (ps_if (pt_not (pt_val (pe_call GS (hr.mono (by decide)) (by rfl) L.S.g L.S.F.kp bS .nil pass0 (pa_cons (pe_ix ix_list (pv 7) (pv 9) (fun _ _ => rfl)) (pa_cons (pe_ifExp (pt_cmpR (op_notInW (α := List Str) (uLL1 hr)) (pe_lst pa_nil) (pv 11) (by rfl)) (pe_tup (pa_cons (pv 8) (pa_cons (pe_call GA (hr.mono (by decide)) (by rfl) M.AL.g M.AL.F.kp bA .nil pass0 (pa_cons (pv 11) pa_nil)) pa_nil))) pe_non) pa_nil))))) pss_never pss_nil))))))
      -- words, due
      (pss_cons (ps_setLc (i := 12) (own := [("row", 17)]) (g := gName 17) (tt := tYes) (te := tLc (iList K (tVar 17)) (gName 10) tYes (tOp rIsO (tVar 10) (tC .non)) [10]) rfl scOv.nd rfl rfl (sw_true rfl rfl (by rfl) (by rfl)) (pi_tup (pe_tup (pa_cons (pv 6) (pa_cons (pv 7) pa_nil)))) (blkOk_by (N := NOv) (sc := defScope (top 49)) (by decide +kernel))
        (fun _ _ _ _ _ => pg_name (i := 17) scOv.nd rfl (.inl rfl)) (fun _ _ _ _ _ => pts_nil)
        (fun _ _ _ _ _ => pe_lc (own := [("some", 10)]) (g := gName 10) (tt := tYes) (te := tOp rIsO (tVar 10) (tC .non)) rfl scOv.nd (pi_list (pv 17)) (blkOk_by (N := NOv) (sc := scOvI2) (by decide +kernel))
          (fun _ _ _ _ _ => pg_name (i := 10) scOv.nd rfl (.inl rfl)) (fun _ _ _ _ _ => pts_nil) (fun _ _ _ _ _ => pe_cmpR op_isO (pv 10) pe_non (by rfl))))
      (pss_cons (ps_set (i := 13) scOv.nd rfl (.inl rfl) (pe_lst (pa_cons (pe_or (pe_ix ix_list (pe_ix ix_list (pv 12) pe_int (fun _ _ => rfl)) pe_int (fun _ _ => rfl)) (pe_one (pe_ix ix_list (pe_ix ix_list (pv 12) pe_int (fun _ _ => rfl)) pe_int (fun _ _ => rfl)))) (pa_cons (pe_and (pe_ix ix_list (pe_ix ix_list (pv 12) pe_int (fun _ _ => rfl)) pe_int (fun _ _ => rfl)) (pe_one (pe_ix ix_list (pe_ix ix_list (pv 12) pe_int (fun _ _ => rfl)) pe_int (fun _ _ => rfl)))) pa_nil))))
      (pss_cons (ps_expr (pe_bm PySem.F.plainAttrs_list PySem.F.slot_list_extend PySem.F.type_list_extend mt_extend (pv 13) (pa_cons (pe_lst (pa_cons (pe_and (pe_ix ix_list (pe_ix ix_list (pv 12) pe_int (fun _ _ => rfl)) pe_int (fun _ _ => rfl)) (pe_one (pe_ix ix_list (pe_ix ix_list (pv 12) pe_int (fun _ _ => rfl)) pe_int (fun _ _ => rfl)))) (pa_cons (pe_or (pe_ix ix_list (pe_ix ix_list (pv 12) pe_int (fun _ _ => rfl)) pe_int (fun _ _ => rfl)) (pe_one (pe_ix ix_list (pe_ix ix_list (pv 12) pe_int (fun _ _ => rfl)) pe_int (fun _ _ => rfl)))) pa_nil))) pa_nil)))
      (pss_cons (ps_if (pt_cmpR (op_neW (α := List Bool) (uB2 hr)) (pe_lst (pa_cons (pe_ix ix_list (pe_ix ix_list (pv 12) pe_int (fun _ _ => rfl)) pe_int (fun _ _ => rfl)) (pa_cons (pe_ix ix_list (pe_ix ix_list (pv 12) pe_int (fun _ _ => rfl)) pe_int (fun _ _ => rfl)) (pa_cons (pe_ix ix_list (pe_ix ix_list (pv 12) pe_int (fun _ _ => rfl)) pe_int (fun _ _ => rfl)) (pa_cons (pe_ix ix_list (pe_ix ix_list (pv 12) pe_int (fun _ _ => rfl)) pe_int (fun _ _ => rfl)) pa_nil))))) (pv 13) (by rfl)) pss_never pss_nil)
      -- the last looks
      (pss_cons (ps_if (pw_and (pt_cmpR op_notO (pe_ix ix_list (pv 6) pe_int (fun _ _ => rfl)) pe_non (by rfl)) (pw_and1 (pt_not (pt_val (pe_call GS (hr.mono (by decide)) (by rfl) L.S.g L.S.F.kp bS .nil pass0 (pa_cons (pe_call GB (hr.mono (by decide)) (by rfl) L.B.g L.B.F.kp bB .nil pass0 (pa_cons (pe_ix ix_list (pv 6) pe_int (fun _ _ => rfl)) (pa_cons (pe_ix ix_list (pv 6) pe_int (fun _ _ => rfl)) pa_nil))) (pa_cons (pe_ix ix_list (pv 6) pe_int (fun _ _ => rfl)) pa_nil))))))).pt pss_never pss_nil)
      (pss_cons (ps_if (pw_and (pt_cmpR op_notO (pe_ix ix_list (pv 7) pe_int (fun _ _ => rfl)) pe_non (by rfl)) (pw_and1 (pt_not (pt_val (pe_call GS (hr.mono (by decide)) (by rfl) L.S.g L.S.F.kp bS .nil pass0 (pa_cons (pe_call GE (hr.mono (by decide)) (by rfl) L.E.g L.E.F.kp bE .nil pass0 (pa_cons (pe_ix ix_list (pv 7) pe_int (fun _ _ => rfl)) (pa_cons (pe_ix ix_list (pv 7) pe_int (fun _ _ => rfl)) pa_nil))) (pa_cons (pe_ix ix_list (pv 7) pe_int (fun _ _ => rfl)) pa_nil))))))).pt pss_never pss_nil)
      (pss_cons (ps_if (pt_cmpR op_notO (pe_ix ix_list (pv 6) pe_int (fun _ _ => rfl)) pe_non (by rfl))
        (pss_cons (ps_setLc (i := 14) (own := [("some", 10)]) (g := gName 10) (tt := tTest (tOp rNotO (tVar 10) (tC .non))) (te := tVar 10) rfl scOv.nd rfl rfl (sw_true rfl rfl (by rfl) (by rfl)) (pi_list (pe_slice sl_list (pv 6) po_none (po_some pe_int))) (blkOk_by (N := NOv) (sc := defScope (top 49)) (by decide +kernel))
          (fun _ _ _ _ _ => pg_name (i := 10) scOv.nd rfl (.inl rfl)) (fun _ _ _ _ _ => pts_one (pt_cmpR op_notO (pv 10) pe_non (by rfl))) (fun _ _ _ _ _ => pv 10))
        (pss_one (ps_if (pt_not (pt_val (pe_call GS (hr.mono (by decide)) (by rfl) L.S.g L.S.F.kp bS .nil pass0 (pa_cons (pe_call GE (hr.mono (by decide)) (by rfl) L.E.g L.E.F.kp bE .nil pass0 (pa_cons (pe_ix ix_list (pv 14) pe_int (fun _ _ => rfl)) (pa_cons (pe_ix ix_list (pv 14) (pe_un un_neg pe_int) (fun _ _ => rfl)) pa_nil))) (pa_cons (pe_ix ix_list (pv 6) pe_int (fun _ _ => rfl)) pa_nil))))) pss_never pss_nil))) pss_nil)
      (pss_cons (ps_if (pw_and (pt_cmpR op_notO (pe_ix ix_list (pv 7) pe_int (fun _ _ => rfl)) pe_non (by rfl)) (pw_and (pt_cmpR op_notO (pe_ix ix_list (pv 7) pe_int (fun _ _ => rfl)) pe_non (by rfl)) (pw_and1 (pt_not (pt_val (pe_call GS (hr.mono (by decide)) (by rfl) L.S.g L.S.F.kp bS .nil pass0 (pa_cons (pe_call GB (hr.mono (by decide)) (by rfl) L.B.g L.B.F.kp bB .nil pass0 (pa_cons (pe_ix ix_list (pv 7) pe_int (fun _ _ => rfl)) (pa_cons (pe_ix ix_list (pv 7) pe_int (fun _ _ => rfl)) pa_nil))) (pa_cons (pe_ix ix_list (pv 7) pe_int (fun _ _ => rfl)) pa_nil)))))))).pt pss_never pss_nil)
      (pss_one (ps_ret pe_bl))))))))))))))))), ?_⟩
    have l8 := T.l
    have l2 := T.m
    have hk : F.1 = ks := T.f.k
    obtain ⟨o1, hp0⟩ := hst.p
    obtain ⟨o2, hc0⟩ := hst.c
    -- the name
    refine ⟨.ref p, rfl, ed_fst (K := K) (p := F) (ed_var (i := 1) (σ := [some (.ref p), some v, some u, none, none, none, none, none, none, none, none, none, none, none, none, none, none, none]) rfl hv) H eA _ fun v1 H1 Hs1 e1 s1 r1 => ?_⟩
    have st1 : St H1 p c n := hst.ext ((e1 _ _ hp0).trans hp0.symm) ((e1 _ _ hc0).trans hc0.symm) (Int.le_refl _)
    have np : Hs1 p = none := by
      cases z : Hs1 p with
      | none => rfl
      | some o => exact (s1.o p o z).elim (fun y => by rw [Ap] at y; cases y) fun y => by rw [hp0] at y; cases y
    have nc : Hs1 c = none := by
      cases z : Hs1 c with
      | none => rfl
      | some o => exact (s1.o c o z).elim (fun y => by rw [Ac] at y; cases y) fun y => by rw [hc0] at y; cases y
    refine ⟨p, c, n, v1, F.1, Hs1, rfl, st1, by omega, s1.e, np, nc, r1, T.f.g.ks.ne, by rw [hk]; omega, fun x H2 hx e2 st2 => ?_⟩
    rw [hk] at hx
    have A2 : Ex A0 H2 := exb (eA.trans e1) Ap Ac e2
    have T2 : Tabs [(Pt, lmQ)] H2 := (tabs_cut st1 (hT.ext e1)).ext (cutP_exb e2)
    have two : Two F G := two_sm T.f T.g (by omega) (by decide) (by decide) (by decide)
    have mB : Sm ks 25 (bothOf F G) := both_sm T.f T.g (by decide)
    have mE : Sm ks 10 (eitherOf F G) := either_sm T.f T.g (by decide)
    refine ov_first rfl rfl (DV.ext A2 hv) (DV.ext A2 hu) two (smD T.f) (smD T.g) (smD mB) T2 fun w H4 Hs4 k1 k2 R4 eS nS rw4 => ?_
    -- from here on: all but the spring as what is known
    have st4 : St H4 p c (n + 1) := st2.exn k1
    have R : Rdy Pt lmQ lmPos (cutP p c H4) := rdy_cut st4 R4
    have exn : ExtN A0 (cutP p c H4) := fun b o z nt => cutP_mk (fun m => by
      rcases List.mem_cons.mp m with y | m
      · rw [y, Ap] at z
        cases z
      · rw [List.mem_singleton.mp m, Ac] at z
        cases z) (k1 b o (A2 _ _ z) nt)
    have hv4 : rep (cutP p c H4) v F := DVN.extN exn hv
    have hu4 : rep (cutP p c H4) u G := DVN.extN exn hu
    have hw4 : rep (cutP p c H4) w (bothOf F G) := DV.ext (fun b o z => cutP_mk (nPC st2 (nS b o z)) (eS _ _ z)) rw4
    have fin : EndT H4 Q := fun H' e => q H' (fun b o m z nt => e _ _ (k1 b o (e2 b o m (e1 _ _ z)) nt)) (fun b z => exf e1 (exb_none e2 st2 (k2 b (exf e z)))) (R4.ext e) ((st4.exn fun b o z _ => e b o z).up (by omega))
    have B4 : Bs (cutP p c H4) H4 (cutP p c H4) H4 := Bs.start cutP_ex
    generalize cutP p c H4 = A4 at R hv4 hu4 hw4 B4
    refine b_asg B4 (ed_copied (d := 8) (E := E0) (ed_call2W (E := E0) (P := Two) (f := eitherOf) R (ed_copied (d := 8) (E := E0) (ed_var (i := 1) (σ := [some (.ref p), some v, some u, some (.str x), some w, none, none, none, none, none, none, none, none, none, none, none, none, none]) rfl hv4) (smD T.f)) (ed_copied (d := 8) (E := E0) (ed_var (i := 2) rfl hu4) (smD T.g)) two) (smD mE)) fun v5 A5 H5 B5 x5 r5 => ?_
    have one4 : ∀ X ∈ [F, G, bothOf F G, eitherOf F G], One X x := fun X hX => by
      rcases List.mem_cons.mp hX with rfl | hX
      · exact one_sm T.f l2 hx
      rcases List.mem_cons.mp hX with rfl | hX
      · exact one_sm T.g l2 hx
      rcases List.mem_cons.mp hX with rfl | hX
      · exact one_sm mB l2 hx
      rw [List.mem_singleton.mp hX]
      exact one_sm mE l2 hx
    have R5 := R.ext x5
    have hv5 : rep A5 v F := DV.ext x5 hv4
    have hu5 : rep A5 u G := DV.ext x5 hu4
    have hw5 : rep A5 w (bothOf F G) := DV.ext x5 hw4
    have tup5 : EvD (tTup (tCons (tVar 1) (tCons (tVar 2) (tCons (tVar 4) (tCons (tVar 5) tNil))))) [some (.ref p), some v, some u, some (.str x), some w, some v5, none, none, none, none, none, none, none, none, none, none, none, none] A5 (⟨[F, G, bothOf F G, eitherOf F G]⟩ : Tup FamT) :=
      ed_tupD (eda_cons (ed_var rfl hv5) (eda_cons (ed_var rfl hu5) (eda_cons (ed_var rfl hw5) (eda_cons (ed_var rfl r5) eda_nil)))) (by simp)
    have lf := ed_lcT (K := K) (tt := tYes) (te := tCall (spTried Pt fA fB) [] E0 (tCons (tC (.ref fA)) (tCons (tVar 10) (tCons (tVar 3) tNil)))) (j := 10) (vs := [10]) (fun _ : FamT => true) (fun X : FamT => triedF X x) tup5 (by simp) (fun _ => rfl) (fun _ _ _ _ _ _ => et_yes) fun X z H9 e m r _ => ed_triedF (R5.ext e) (ed_var (i := 10) (v := z) rfl r) (ed_var (i := 3) (v := .str x) rfl rfl) (one4 X m)
    rw [List.filter_eq_self.mpr (fun _ _ => rfl)] at lf
    refine b_asg B5 lf fun v6 A6 H6 B6 x6 r6 => ?_
    have hv6 : rep A6 v F := DV.ext x6 hv5
    have hu6 : rep A6 u G := DV.ext x6 hu5
    have tup6 : EvD (tTup (tCons (tVar 1) (tCons (tVar 2) (tCons (tVar 4) (tCons (tVar 5) tNil))))) [some (.ref p), some v, some u, some (.str x), some w, some v5, some v6, none, none, none, none, none, none, none, none, none, none, none] A6 (⟨[F, G, bothOf F G, eitherOf F G]⟩ : Tup FamT) :=
      ed_tupD (eda_cons (ed_var rfl hv6) (eda_cons (ed_var rfl hu6) (eda_cons (ed_var rfl (DV.ext x6 hw5)) (eda_cons (ed_var rfl (DV.ext x6 r5)) eda_nil)))) (by simp)
    have lk := ed_lcT (K := K) (tt := tYes) (te := tCall (spTried Pt fA fB) [] E0 (tCons (tC (.ref fB)) (tCons (tVar 10) (tCons (tVar 3) tNil)))) (j := 10) (vs := [10]) (fun _ : FamT => true) (fun X : FamT => triedT X x) tup6 (by simp) (fun _ => rfl) (fun _ _ _ _ _ _ => et_yes) fun X z H9 e m r _ => ed_triedT ((R5.ext x6).ext e) (ed_var (i := 10) (v := z) rfl r) (ed_var (i := 3) (v := .str x) rfl rfl) (one4 X m)
    rw [List.filter_eq_self.mpr (fun _ _ => rfl)] at lk
    refine b_asg B6 lk fun v7 A7 H7 B7 x7 r7 => ?_
    have hv7 : rep A7 v F := DV.ext x7 hv6
    have hu7 : rep A7 u G := DV.ext x7 hu6
    have lr := ed_lc (K := K) (σ := [some (.ref p), some v, some u, some (.str x), some w, some v5, some v6, some v7, none, none, none, none, none, none, none, none, none, none]) (H := A7) (tt := tTest (tOp (rEqW Str true) (tVar 15) (tVar 3))) (te := tVar 15) (j := 15) (vs := [15]) (fun y : Str => decide (y ≠ x)) (fun y : Str => y) (ed_fst (K := K) (p := F) (ed_var (i := 1) rfl hv7)) (by rw [hk]; omega) (fun _ => rfl)
      (fun y z H9 _ _ r => et_test (ev_neD (ed_var (i := 15) (v := z) rfl r) (ed_var (i := 3) (v := .str x) rfl rfl))) fun y z H9 _ _ r _ => ed_var (i := 15) (v := z) rfl r
    rw [List.map_id', show (F.1.filter fun y => decide (y ≠ x)) = drop1 x F.1 from List.filter_congr fun y _ => by simp, hk] at lr
    refine b_asg B7 lr fun v8 A8 H8 B8 x8 r8 => ?_
    -- the two looked at
    have hv8 : rep A8 v F := DV.ext x8 hv7
    have hu8 : rep A8 u G := DV.ext x8 hu7
    have r68 : rep A8 v6 [triedF F x, triedF G x, triedF (bothOf F G) x, triedF (eitherOf F G) x] := DV.ext x8 (DV.ext x7 r6)
    have r78 : rep A8 v7 [triedT F x, triedT G x, triedT (bothOf F G) x, triedT (eitherOf F G) x] := DV.ext x8 r7
    have R8 : Rdy Pt lmQ lmPos A8 := ((R5.ext x6).ext x7).ext x8
    have smT : ∀ {X : FamT} {m : Nat}, Sm ks m X → DVT.sm (triedF X x) := fun {X m} h y e => by
      by_cases z : fall x X.2 = []
      · rw [(triedF_none X x).mpr z] at e
        cases e
      · rw [triedF_some h z] at e
        cases e
        exact smD (fall_sm h l2 x z)
    have smK : ∀ {X : FamT} {m : Nat}, Sm ks m X → DVT.sm (triedT X x) := fun {X m} h y e => by
      by_cases z : [] ∈ trust x X.2
      · rw [(triedT_none X x).mpr z] at e
        cases e
      · rw [triedT_some h z] at e
        cases e
        exact smD (trust_sm h l2 x z)
    refine ⟨v, rfl, u, rfl, by show 2 ≤ sizeLine; decide, fun t nt => ⟨t, [v, u], rfl, st_of upd_same, ?_⟩⟩
    refine for_it (walk_enumT (xs := [v, u])) (fun i σ H' => ∃ y9 y10 y11, σ = [some (.ref p), some v, some u, some (.str x), some w, some v5, some v6, some v7, some v8, y9, y10, y11, none, none, none, none, none, none] ∧ Ex (upd H8 t (.tup [v, u])) H') ⟨none, none, none, rfl, Ex.refl _⟩ (fun i σ H' _ h => ?_) (fun i y σ H9 H10 hi h hy => ?_) (fun σ H9 h => ?_)
    · obtain ⟨_, _, _, _, e⟩ := h
      exact st_of (e _ _ upd_same)
    · obtain ⟨y9, y10, y11, rfl, e9⟩ := h
      obtain ⟨T0, a0, b0, rfl, nT0, rfl, ha0, hb0⟩ := hy
      cases ha0
      have e10 : Ex (upd H8 t (.tup [v, u])) (upd H9 T0 (.tup [.int (i : Nat), b0])) := e9.trans (Ex.new nT0)
      have eA10 : Ex A8 (upd H9 T0 (.tup [.int (i : Nat), b0])) := (B8.h.trans (Ex.new nt)).trans e10
      refine ⟨T0, [.int (i : Nat), b0], rfl, .inl (.inl upd_same), rfl, .int (i : Nat), [b0], rfl, b0, [], rfl, rfl, ?_⟩
      obtain ⟨X, rX, mX, i6, i7⟩ : ∃ X : FamT, rep A8 b0 X ∧ Sm ks 5 X ∧ [triedF F x, triedF G x, triedF (bothOf F G) x, triedF (eitherOf F G) x][i]? = some (triedF X x) ∧ [triedT F x, triedT G x, triedT (bothOf F G) x, triedT (eitherOf F G) x][i]? = some (triedT X x) := by
        match i, hi, hb0 with
        | 0, _, hb0 =>
          have eb : b0 = v := (Option.some.inj hb0).symm
          exact ⟨F, by rw [eb]; exact hv8, T.f, rfl, rfl⟩
        | 1, _, hb0 =>
          have eb : b0 = u := (Option.some.inj hb0).symm
          exact ⟨G, by rw [eb]; exact hu8, T.g, rfl, rfl⟩
      have hXl := mX.g.len
      have hXl2 := mX.g.len2
      have BX : Bs A8 (upd H9 T0 (.tup [.int (i : Nat), b0])) A8 (upd H9 T0 (.tup [.int (i : Nat), b0])) := Bs.start eA10
      have la := ed_lc (K := K) (σ := [some (.ref p), some v, some u, some (.str x), some w, some v5, some v6, some v7, some v8, some (.int (i : Nat)), some b0, y11, none, none, none, none, none, none]) (H := A8) (tt := tTest (tOp (rInW Str true) (tVar 3) (tVar 16))) (te := tVar 16) (j := 16) (vs := [16]) (fun l : List Str => decide (x ∉ l)) (fun l : List Str => l) (ed_snd (K := K) (p := X) (ed_var (i := 10) rfl rX)) (by omega) (fun _ => rfl)
        (fun l z H9 _ _ r => et_test (ev_notInD (ed_var (i := 3) (v := .str x) rfl rfl) (ed_var (i := 16) (v := z) rfl r))) fun l z H9 _ _ r _ => ed_var (i := 16) (v := z) rfl r
      rw [List.map_id', fall_eq] at la
      refine b_asg BX la fun v11 A11 H11 B11 x11 r11 => ?_
      have e11 : EvD (tVar 11) [some (.ref p), some v, some u, some (.str x), some w, some v5, some v6, some v7, some v8, some (.int (i : Nat)), some b0, some v11, none, none, none, none, none, none] A11 (fall x X.2) := ed_var rfl r11
      have due1 : EvD (tIf (tTest (tOp (rEqW (List (List Str)) true) (tVar 11) (tLst tNil))) (tTup (tCons (tVar 8) (tCons (tVar 11) tNil))) (tC .non)) [some (.ref p), some v, some u, some (.str x), some w, some v5, some v6, some v7, some v8, some (.int (i : Nat)), some b0, some v11, none, none, none, none, none, none] A11 (triedF X x) :=
        ed_ifE (et_test (ev_neD e11 (ed_lst (xs := ([] : List (List Str))) eda_nil (by decide)))) (fun z => ed_is (ed_some (ed_pair (x := drop1 x ks) (y := fall x X.2) (ed_var (i := 8) rfl (DV.ext x11 r8)) e11)) (triedF_some mX (dTrue z)).symm) fun z => ed_is ed_none ((triedF_none X x).mpr (Classical.not_not.mp (dFalse z))).symm
      refine b_skip B11 (et_not (et_B (ev_same (d := 8) (E := E0) (ed_ixL (K := K) (ed_var (i := 6) rfl (DV.ext x11 r68)) (ev_var (i := 9) rfl) i6) due1 rfl (smT mX)))) rfl fun H12 B12 => ?_
      have lb := ed_lc (K := K) (σ := [some (.ref p), some v, some u, some (.str x), some w, some v5, some v6, some v7, some v8, some (.int (i : Nat)), some b0, some v11, none, none, none, none, none, none]) (H := A11) (tt := tYes) (te := tLc (iList K (tVar 16)) (gName 15) (tTest (tOp (rEqW Str true) (tVar 15) (tVar 3))) (tVar 15) [15]) (j := 16) (vs := [16]) (fun _ : List Str => true) (fun l : List Str => drop1 x l) (ed_snd (K := K) (p := X) (ed_var (i := 10) rfl (DV.ext x11 rX))) (by omega) (fun _ => rfl)
        (fun _ _ _ _ _ _ => et_yes) fun l z H9 e m r _ => by
          have k := ed_lc (K := K) (σ := [some (.ref p), some v, some u, some (.str x), some w, some v5, some v6, some v7, some v8, some (.int (i : Nat)), some b0, some v11, none, none, none, none, some z, none]) (H := H9) (tl := tVar 16) (tt := tTest (tOp (rEqW Str true) (tVar 15) (tVar 3))) (te := tVar 15) (j := 15) (vs := [15]) (fun y : Str => decide (y ≠ x)) (fun y : Str => y) (ed_var (v := z) rfl r) (by have := hXl2 l m; omega) (fun _ => rfl)
            (fun y z2 H2 _ _ r2 => et_test (ev_neD (ed_var (i := 15) (v := z2) rfl r2) (ed_var (i := 3) (v := .str x) rfl rfl))) fun y z2 H2 _ _ r2 _ => ed_var (i := 15) (v := z2) rfl r2
          rw [List.map_id', show (l.filter fun y => decide (y ≠ x)) = drop1 x l from List.filter_congr fun y _ => by simp] at k
          exact k
      rw [List.filter_eq_self.mpr (fun _ _ => rfl), show X.2.map (fun l => drop1 x l) = trust x X.2 from rfl] at lb
      refine b_asg B12 lb fun v13 A13 H13 B13 x13 r13 => ?_
      have e13 : EvD (tVar 11) [some (.ref p), some v, some u, some (.str x), some w, some v5, some v6, some v7, some v8, some (.int (i : Nat)), some b0, some v13, none, none, none, none, none, none] A13 (trust x X.2) := ed_var rfl r13
      have due2 : EvD (tIf (tTest (tOp (rInW (List Str) true) (tLst tNil) (tVar 11))) (tTup (tCons (tVar 8) (tCons (tCall spAl [] E0 (tCons (tVar 11) tNil)) tNil))) (tC .non)) [some (.ref p), some v, some u, some (.str x), some w, some v5, some v6, some v7, some v8, some (.int (i : Nat)), some b0, some v13, none, none, none, none, none, none] A13 (triedT X x) :=
        ed_ifE (et_test (ev_notInD (ed_lst (xs := ([] : List Str)) eda_nil (by decide)) e13)) (fun z => by
          have nz := dTrue z
          have c := ed_call1 (E := E0) (P := fun L : List (List Str) => L.length ≤ 1000 ∧ (∀ l ∈ L, l ≠ []) ∧ ∀ l ∈ L, l.length ≤ 100) (f := aLeast) e13 ⟨by unfold trust; rw [List.length_map]; exact hXl, fun l m e => nz (by rw [← e]; exact m), fun l m => by
            obtain ⟨a, ha, rfl⟩ := mem_trust.mp m
            exact Nat.le_trans drop1_len (hXl2 a ha)⟩
          rw [aLeast_eq (trust_ascS mX x)] at c
          exact ed_is (ed_some (ed_pair (x := drop1 x ks) (y := leastOf (trust x X.2)) (ed_var (i := 8) rfl (DV.ext x13 (DV.ext x11 r8))) c)) (triedT_some mX nz).symm) fun z => ed_is ed_none ((triedT_none X x).mpr (Classical.not_not.mp (dFalse z))).symm
      refine b_if B13 (et_not (et_B (ev_same (d := 8) (E := E0) (ed_ixL (K := K) (ed_var (i := 7) rfl (DV.ext x13 (DV.ext x11 r78))) (ev_var (i := 9) rfl) i7) due2 rfl (smK mX)))) (fun z => by cases z) fun _ H14 B14 => ?_
      exact ⟨some (.int (i : Nat)), some b0, some v13, rfl, e10.trans B14.e⟩
    · obtain ⟨y9, y10, y11, rfl, e9⟩ := h
      have B9 : Bs A8 H9 A8 H9 := Bs.start ((B8.h.trans (Ex.new nt)).trans e9)
      have fin9 : EndT H9 Q := fun H' e => fin H' (((B8.e.trans (Ex.new nt)).trans e9).trans e)
      have r89 : ∀ A', Ex A8 A' → rep A' v6 [triedF F x, triedF G x, triedF (bothOf F G) x, triedF (eitherOf F G) x] ∧ rep A' v7 [triedT F x, triedT G x, triedT (bothOf F G) x, triedT (eitherOf F G) x] := fun A' e => ⟨DV.ext e r68, DV.ext e r78⟩
      have dl : (drop1 x ks).length ≤ 30 := by have := drop1_len (x := x) (l := ks); omega
      -- words
      have tupW : EvD (tTup (tCons (tVar 6) (tCons (tVar 7) tNil))) [some (.ref p), some v, some u, some (.str x), some w, some v5, some v6, some v7, some v8, y9, y10, y11, none, none, none, none, none, none] A8 (⟨[[triedF F x, triedF G x, triedF (bothOf F G) x, triedF (eitherOf F G) x], [triedT F x, triedT G x, triedT (bothOf F G) x, triedT (eitherOf F G) x]]⟩ : Tup (List (Option FamT))) := ed_tupD (eda_cons (ed_var rfl r68) (eda_cons (ed_var rfl r78) eda_nil)) (by simp)
      have lw := ed_lcT (K := K) (tt := tYes) (te := tLc (iList K (tVar 17)) (gName 10) tYes (tOp rIsO (tVar 10) (tC .non)) [10]) (j := 17) (vs := [17]) (fun _ : List (Option FamT) => true) (fun row : List (Option FamT) => row.map Option.isNone) tupW (by simp) (fun _ => rfl) (fun _ _ _ _ _ _ => et_yes) fun row z H10 e m r _ => by
        have len : row.length ≤ 4 := by
          rcases List.mem_cons.mp m with rfl | m
          · simp
          · rw [List.mem_singleton.mp m]
            simp
        have k := ed_lc (K := K) (σ := [some (.ref p), some v, some u, some (.str x), some w, some v5, some v6, some v7, some v8, y9, y10, y11, none, none, none, none, none, some z]) (H := H10) (tl := tVar 17) (tt := tYes) (te := tOp rIsO (tVar 10) (tC .non)) (j := 10) (vs := [10]) (fun _ : Option FamT => true) (fun y : Option FamT => y.isNone) (ed_var (v := z) rfl r) (by omega) (fun _ => rfl) (fun _ _ _ _ _ _ => et_yes) fun y z2 H11 _ _ r2 _ => ed_bl (ev_isO (ed_var (i := 10) (v := z2) rfl r2))
        rw [List.filter_eq_self.mpr (fun _ _ => rfl)] at k
        exact k
      rw [List.filter_eq_self.mpr (fun _ _ => rfl)] at lw
      refine b_asg B9 lw fun v12 A12 H12 B12 x12 r12 => ?_
      have r12' : rep A12 v12 [[(triedF F x).isNone, (triedF G x).isNone, (triedF (bothOf F G) x).isNone, (triedF (eitherOf F G) x).isNone], [(triedT F x).isNone, (triedT G x).isNone, (triedT (bothOf F G) x).isNone, (triedT (eitherOf F G) x).isNone]] := r12
      have eqs : [(triedF (bothOf F G) x).isNone, (triedT (bothOf F G) x).isNone, (triedF (eitherOf F G) x).isNone, (triedT (eitherOf F G) x).isNone] = [((triedF F x).isNone || (triedF G x).isNone), ((triedT F x).isNone && (triedT G x).isNone), ((triedF F x).isNone && (triedF G x).isNone), ((triedT F x).isNone || (triedT G x).isNone)] := by
        rw [triedF_isNone, triedF_isNone, triedF_isNone, triedF_isNone, triedT_isNone, triedT_isNone, triedT_isNone, triedT_isNone, ← Bool.decide_or, ← Bool.decide_and, ← Bool.decide_and, ← Bool.decide_or,
          decide_eq_decide.mpr (fb_none F G x), decide_eq_decide.mpr (tb_none F G x), decide_eq_decide.mpr (fe_none T.f T.g x), decide_eq_decide.mpr (te_none T.f T.g x)]
      generalize (triedF F x).isNone = a0 at r12' eqs
      generalize (triedF G x).isNone = a1 at r12' eqs
      generalize (triedF (bothOf F G) x).isNone = a2 at r12' eqs
      generalize (triedF (eitherOf F G) x).isNone = a3 at r12' eqs
      generalize (triedT F x).isNone = b0 at r12' eqs
      generalize (triedT G x).isNone = b1 at r12' eqs
      generalize (triedT (bothOf F G) x).isNone = b2 at r12' eqs
      generalize (triedT (eitherOf F G) x).isNone = b3 at r12' eqs
      have e12 : ∀ {A' : Hp} {y13 y14 : Option V}, Ex A12 A' → EvD (tVar 12) [some (.ref p), some v, some u, some (.str x), some w, some v5, some v6, some v7, some v8, y9, y10, y11, some v12, y13, y14, none, none, none] A' [[a0, a1, a2, a3], [b0, b1, b2, b3]] := fun e => ed_var rfl (DV.ext e r12')
      have W0 : ∀ {A' : Hp} {y13 y14 : Option V} (i j : Nat) (q : List Bool) (b : Bool), Ex A12 A' → ([[a0, a1, a2, a3], [b0, b1, b2, b3]] : List (List Bool))[i]? = some q → q[j]? = some b → EvD (tOp (rIxL K) (tOp (rIxL K) (tVar 12) (tC (.int (i : Int)))) (tC (.int (j : Int)))) [some (.ref p), some v, some u, some (.str x), some w, some v5, some v6, some v7, some v8, y9, y10, y11, some v12, y13, y14, none, none, none] A' b := fun i j q b e h1 h2 => ed_ixL (ed_ixL (e12 e) ev_c h1) ev_c h2
      refine b_lstN B12 (eda_cons (ed_bl (ev_orV (ev_of (W0 0 0 _ a0 (Ex.refl _) rfl rfl)) fun _ => ev_of (W0 0 1 _ a1 (Ex.refl _) rfl rfl))) (eda_cons (ed_bl (ev_andV (ev_of (W0 1 0 _ b0 (Ex.refl _) rfl rfl)) fun _ => ev_of (W0 1 1 _ b1 (Ex.refl _) rfl rfl))) eda_nil)) (by simp) fun vs d A13 H13 B13 x13 nA13 nH13 hd13 r13 => ?_
      refine b_extD B13 (i := 13) rfl hd13 (ys := [(a0 && a1), (b0 || b1)]) (by rw [Reps.len r13]; simp) nA13 nH13 (ed_lst (eda_cons (ed_bl (ev_andV (ev_of (W0 0 0 _ a0 x13 rfl rfl)) fun _ => ev_of (W0 0 1 _ a1 x13 rfl rfl))) (eda_cons (ed_bl (ev_orV (ev_of (W0 1 0 _ b0 x13 rfl rfl)) fun _ => ev_of (W0 1 1 _ b1 x13 rfl rfl))) eda_nil)) (by simp)) fun us A14 H14 B14 x14 nA14 hd14 r14 => ?_
      obtain ⟨B15, rD⟩ := B14.done hd14 nA14 nH13 (Reps.app (Reps.ext x14 r13) r14)
      have x15 : Ex A12 (upd A14 d (.lst (vs ++ us))) := (x13.trans x14).trans (Ex.new nA14)
      refine b_skip B15 (et_test (ev_neD (ed_lst (eda_cons (W0 0 2 _ a2 x15 rfl rfl) (eda_cons (W0 1 2 _ b2 x15 rfl rfl) (eda_cons (W0 0 3 _ a3 x15 rfl rfl) (eda_cons (W0 1 3 _ b3 x15 rfl rfl) eda_nil)))) (by simp)) (ed_var (i := 13) rfl rD))) (decide_eq_false fun z => z eqs) fun H16 B16 => ?_
      have x8 : Ex A8 (upd A14 d (.lst (vs ++ us))) := x12.trans x15
      have RQ := R8.ext x8
      have e6Q : ∀ {y14 : Option V}, EvD (tVar 6) [some (.ref p), some v, some u, some (.str x), some w, some v5, some v6, some v7, some v8, y9, y10, y11, some v12, some (.ref d), y14, none, none, none] (upd A14 d (.lst (vs ++ us))) [triedF F x, triedF G x, triedF (bothOf F G) x, triedF (eitherOf F G) x] := ed_var rfl (r89 _ x8).1
      have e7Q' : ∀ {y14 : Option V}, EvD (tVar 7) [some (.ref p), some v, some u, some (.str x), some w, some v5, some v6, some v7, some v8, y9, y10, y11, some v12, some (.ref d), y14, none, none, none] (upd A14 d (.lst (vs ++ us))) [triedT F x, triedT G x, triedT (bothOf F G) x, triedT (eitherOf F G) x] := ed_var rfl (r89 _ x8).2
      -- both, fallen
      refine b_skip B16 (et_and (et_test (ev_notO (ed_ixL (K := K) (i := 2) e6Q (ev_c (v := .int 2)) rfl))) fun z => et_not (et_B (ev_same (d := 8) (E := E0) (x := triedF (bothOf F G) x) (by
        have nb := isSome_F z
        have nF : fall x F.2 ≠ [] := fun y => nb ((fb_none F G x).mpr (.inl y))
        have nG : fall x G.2 ≠ [] := fun y => nb ((fb_none F G x).mpr (.inr y))
        refine ed_is (ed_some (ed_call2W (E := E0) (P := Two) (f := bothOf) RQ (ed_unsome (ed_is (ed_ixL (K := K) (i := 0) e6Q (ev_c (v := .int 0)) rfl) (triedF_some T.f nF))) (ed_unsome (ed_is (ed_ixL (K := K) (i := 1) e6Q (ev_c (v := .int 1)) rfl) (triedF_some T.g nG))) (two_sm (fall_sm T.f l2 x nF) (fall_sm T.g l2 x nG) dl (by decide) (by decide) (by decide)))) ?_
        rw [triedF_some mB nb, fall_bothOf T.f T.g l2 x (by decide) nF nG]) (ed_ixL (K := K) (i := 2) e6Q (ev_c (v := .int 2)) rfl) rfl (smT mB)))) (by simp) fun H17 B17 => ?_
      -- either, trusted
      refine b_skip B17 (et_and (et_test (ev_notO (ed_ixL (K := K) (i := 3) e7Q' (ev_c (v := .int 3)) rfl))) fun z => et_not (et_B (ev_same (d := 8) (E := E0) (x := triedT (eitherOf F G) x) (by
        have nb := isSome_T z
        have nF : ¬ [] ∈ trust x F.2 := fun y => nb ((te_none T.f T.g x).mpr (.inl y))
        have nG : ¬ [] ∈ trust x G.2 := fun y => nb ((te_none T.f T.g x).mpr (.inr y))
        refine ed_is (ed_some (ed_call2W (E := E0) (P := Two) (f := eitherOf) RQ (ed_unsome (ed_is (ed_ixL (K := K) (i := 0) e7Q' (ev_c (v := .int 0)) rfl) (triedT_some T.f nF))) (ed_unsome (ed_is (ed_ixL (K := K) (i := 1) e7Q' (ev_c (v := .int 1)) rfl) (triedT_some T.g nG))) (two_sm (trust_sm T.f l2 x nF) (trust_sm T.g l2 x nG) dl (by decide) (by decide) (by decide)))) ?_
        rw [triedT_some mE nb, trust_eitherOf T.f T.g l2 x (by decide) nF nG]) (ed_ixL (K := K) (i := 3) e7Q' (ev_c (v := .int 3)) rfl) rfl (smK mE)))) (by simp) fun H18 B18 => ?_
      -- either, fallen
      refine b_seqIf B18 (et_test (ev_notO (ed_ixL (K := K) (i := 3) e6Q (ev_c (v := .int 3)) rfl))) (fun z H19 B19 => ?_) (fun z H19 B19 => ?_)
      · have nb := isSome_F z
        obtain ⟨L', M', mL, mM, h0, hL, hE⟩ := halves_of T.f T.g l2 x fun y => nb ((fe_none T.f T.g x).mpr y)
        have lh := ed_lc (K := K) (tt := tTest (tOp rNotO (tVar 10) (tC .non))) (te := tVar 10) (j := 10) (vs := [10]) (fun y : Option FamT => y.isSome) (fun y : Option FamT => y) (ed_sl (K := K) (e6Q (y14 := none)) eo_none (eo_some (te := tC (.int 2)) ev_c)) (by simp [cutT]; omega) (fun _ => rfl) (fun y z2 H20 _ _ r2 => et_test (ev_notO (ed_var (i := 10) (v := z2) rfl r2))) fun y z2 H20 _ _ r2 _ => ed_var (i := 10) (v := z2) rfl r2
        rw [cut_take _ 2 (by decide) (by simp), List.map_id'] at lh
        refine b_asg B19 lh fun v14 A20 H20 B20 x20 r20 => ?_
        have r20' : rep A20 v14 ([triedF F x, triedF G x].filter Option.isSome) := r20
        have e14 : EvD (tVar 14) [some (.ref p), some v, some u, some (.str x), some w, some v5, some v6, some v7, some v8, y9, y10, y11, some v12, some (.ref d), some v14, none, none, none] A20 ([triedF F x, triedF G x].filter Option.isSome) := ed_var rfl r20'
        have e6R : EvD (tVar 6) [some (.ref p), some v, some u, some (.str x), some w, some v5, some v6, some v7, some v8, y9, y10, y11, some v12, some (.ref d), some v14, none, none, none] A20 [triedF F x, triedF G x, triedF (bothOf F G) x, triedF (eitherOf F G) x] := ed_var rfl (r89 _ (x8.trans x20)).1
        refine b_if B20 (et_not (et_B (ev_same (d := 8) (E := E0) (x := triedF (eitherOf F G) x) (ed_is (ed_some (ed_call2W (E := E0) (P := Two) (f := eitherOf) (RQ.ext x20) (ed_unsome (ed_ixL (K := K) (i := 0) e14 (ev_c (v := .int 0)) h0)) (ed_unsome (ed_ixLast (K := K) e14 hL (Nat.le_trans (List.length_filter_le _ _) (by simp)))) (two_sm mL mM dl (by decide) (by decide) (by decide)))) (by rw [triedF_some mE nb, hE])) (ed_ixL (K := K) (i := 3) e6R (ev_c (v := .int 3)) rfl) rfl (smT mE)))) (fun z => by cases z) fun _ HQ BQ => ?_
        have e7Q : EvD (tVar 7) [some (.ref p), some v, some u, some (.str x), some w, some v5, some v6, some v7, some v8, y9, y10, y11, some v12, some (.ref d), some v14, none, none, none] A20 [triedT F x, triedT G x, triedT (bothOf F G) x, triedT (eitherOf F G) x] := ed_var rfl (r89 _ (x8.trans x20)).2
        have RQ := RQ.ext x20
        have eQ : Ex H9 HQ := BQ.e
        refine b_skip BQ (et_and (et_test (ev_notO (ed_ixL (K := K) (i := 0) e7Q (ev_c (v := .int 0)) rfl))) fun z0 => et_and (et_test (ev_notO (ed_ixL (K := K) (i := 1) e7Q (ev_c (v := .int 1)) rfl))) fun z1 => et_not (et_B (ev_same (d := 8) (E := E0) (x := triedT (bothOf F G) x) (ed_is (ed_some (ed_call2W (E := E0) (P := Two) (f := bothOf) RQ (ed_unsome (ed_is (ed_ixL (K := K) (i := 0) e7Q (ev_c (v := .int 0)) rfl) (triedT_some T.f (isSome_T z0)))) (ed_unsome (ed_is (ed_ixL (K := K) (i := 1) e7Q (ev_c (v := .int 1)) rfl) (triedT_some T.g (isSome_T z1)))) (two_sm (trust_sm T.f l2 x (isSome_T z0)) (trust_sm T.g l2 x (isSome_T z1)) dl (by decide) (by decide) (by decide))))
          (by rw [triedT_some mB (fun y => isSome_T z0 ((tb_none F G x).mp y).1), trust_bothOf T.f T.g l2 x (by decide) (isSome_T z0) (isSome_T z1)])) (ed_ixL (K := K) (i := 2) e7Q (ev_c (v := .int 2)) rfl) rfl (smK mB)))) (by simp) fun HZ BZ => ?_
        exact fin9 HZ BZ.e
      · have BQ := B19
        have e7Q := e7Q' (y14 := none)
        have eQ : Ex H9 H19 := BQ.e
        refine b_skip BQ (et_and (et_test (ev_notO (ed_ixL (K := K) (i := 0) e7Q (ev_c (v := .int 0)) rfl))) fun z0 => et_and (et_test (ev_notO (ed_ixL (K := K) (i := 1) e7Q (ev_c (v := .int 1)) rfl))) fun z1 => et_not (et_B (ev_same (d := 8) (E := E0) (x := triedT (bothOf F G) x) (ed_is (ed_some (ed_call2W (E := E0) (P := Two) (f := bothOf) RQ (ed_unsome (ed_is (ed_ixL (K := K) (i := 0) e7Q (ev_c (v := .int 0)) rfl) (triedT_some T.f (isSome_T z0)))) (ed_unsome (ed_is (ed_ixL (K := K) (i := 1) e7Q (ev_c (v := .int 1)) rfl) (triedT_some T.g (isSome_T z1)))) (two_sm (trust_sm T.f l2 x (isSome_T z0)) (trust_sm T.g l2 x (isSome_T z1)) dl (by decide) (by decide) (by decide))))
          (by rw [triedT_some mB (fun y => isSome_T z0 ((tb_none F G x).mp y).1), trust_bothOf T.f T.g l2 x (by decide) (isSome_T z0) (isSome_T z1)])) (ed_ixL (K := K) (i := 2) e7Q (ev_c (v := .int 2)) rfl) rfl (smK mB)))) (by simp) fun HZ BZ => ?_
        exact fin9 HZ BZ.e
end
end K07
/-! text W25 -/
set_option Elab.async false
set_option linter.all false
set_option maxRecDepth 100000
set_option maxHeartbeats 2000000
/-! sum of lists, with a list to start with -/
namespace PySem
open Sem (wp)
theorem args_sum2 (a b : Value) : argsOk "sum" ⟨[a, b], []⟩ := by unfold argsOk; kernel_rfl
section
variable {prog : Program} {w : World} {A : Around} {R : Result → Shared → Prop} {I : Addr} {fp wr : List Addr} {G : Array GenState → Array GenState → Prop} {n : Nat} {P : Nat → Value → Prop} {St : Nat → Shared → Prop}
/-- all joined from the i-th on -/
def joinFrom (its : Nat → Array Value) : Nat → Nat → Array Value → Array Value
  | 0, _, xs => xs
  | k + 1, i, xs => joinFrom its k (i + 1) (xs ++ its i)
theorem codeAny_sum_loopL (W : WalksS prog w A.in1 I fp wr G n P St) (hex : ∀ i s, St i s → ∀ b ∈ wr, ∃ o, s.heap.get? b = some o) (H : Heap) (hw : ∀ b o, H.get? b = some o → b ∉ wr) (its : Nat → Array Value)
    (hP : ∀ i v, P i v → ∃ a c, v = .ref a ∧ IsL H a (its i) c) (S : Addr) (hSf : S ∉ fp) (hSH : H.get? S = none) :
    ∀ (k i : Nat) (s : Shared) (acc : Addr) (xs : Array Value) (c d : Nat) , n - i = k → i ≤ n → (∀ b o, H.get? b = some o → s.heap.get? b = some o) → St i s → s.heap.get? S = some { cls := .type "list", dict := none, data := .seq #[.ref acc] c, slots := #[] } →
      IsL s.heap acc xs d → acc ∉ S :: wr → (joinFrom its k i xs).size ≤ sizeLine → (0 < k ∨ H.get? acc = none) →
    (∀ s' acc' d', (∀ b o, H.get? b = some o → s'.heap.get? b = some o) → H.get? acc' = none → IsL s'.heap acc' (joinFrom its k i xs) d' → Moved (S :: wr) G s s' → R (.ok (.ret (.ref acc'))) s') →
      codeAny (model prog w) A (.builtin "sum.loop" ⟨[.ref I, .ref S, rawInt 2, rawInt 0], []⟩) R s := by
  have hSw : S ∉ wr := fun h => hSf (W.sub _ h)
  have hsub : ∀ b ∈ wr, b ∈ S :: wr := fun b hb => List.mem_cons_of_mem _ hb
  have hHS : ∀ b o, H.get? b = some o → b ∉ S :: wr := fun b o e m => by
    rcases List.mem_cons.mp m with rfl | m
    · rw [hSH] at e
      cases e
    · exact hw b o e m
  have grow : ∀ (k i : Nat) (xs : Array Value), xs.size ≤ (joinFrom its k i xs).size := by
    intro k
    induction k with
    | zero => intro i xs; exact Nat.le_refl _
    | succ k ih =>
      intro i xs
      refine Nat.le_trans ?_ (ih (i + 1) _)
      rw [Array.size_append]
      exact Nat.le_add_right _ _
  intro k
  induction k with
  | zero =>
    intro i s acc xs c d hk hi hkeep hst hS hacc hna hsz hfresh hR
    have hin : i = n := by omega
    subst hin
    refine codeAny_builtin F.entry_sum_loop ?_
    rw [Around.under_plainId F.plain_sum_loop _]
    show wpAny _ A.in1 (seqItems? (.ref S) >>= _) _ _ s
    refine wpAny_bind (wpAny_seqItems hS rfl ?_)
    show wpAny _ A.in1 (tryCatch (pyNext (.ref I)) _ >>= _) _ _ s
    refine wpAny_bind (wpAny_tryCatch (W.done s _ _ hst fun s' hm => ?_))
    exact wpAny_pure (hR s' acc d (fun b o e => hm.heap b o (hw b o e) (hkeep b o e)) (hfresh.resolve_left (Nat.lt_irrefl 0)) (hm.heap _ _ (fun h => hna (hsub _ h)) hacc) (hm.mono hsub))
  | succ k ih =>
    intro i s acc xs c d hk hi hkeep hst hS hacc hna hsz hfresh hR
    have hlt : i < n := by omega
    refine codeAny_builtin F.entry_sum_loop ?_
    rw [Around.under_plainId F.plain_sum_loop _]
    show wpAny _ A.in1 (seqItems? (.ref S) >>= _) _ _ s
    refine wpAny_bind (wpAny_seqItems hS rfl ?_)
    show wpAny _ A.in1 (tryCatch (pyNext (.ref I)) _ >>= _) _ _ s
    refine wpAny_bind (wpAny_tryCatch (W.item i s _ _ hlt hst fun v s' hPv hst' hm => ?_))
    obtain ⟨a, ca, rfl, ha⟩ := hP i v hPv
    have hS' := hm.heap S _ hSw hS
    have hkeep' : ∀ b o, H.get? b = some o → s'.heap.get? b = some o := fun b o e => hm.heap b o (hw b o e) (hkeep b o e)
    have hacc' : IsL s'.heap acc xs d := hm.heap _ _ (fun h => hna (hsub _ h)) hacc
    have ha' : IsL s'.heap a (its i) ca := hkeep' _ _ ha
    have hsz2 : xs.size + (its i).size ≤ sizeLine := by
      have := grow k (i + 1) (xs ++ its i)
      rw [Array.size_append] at this
      exact Nat.le_trans this hsz
    show wpAny _ A.in1 ((holding [Value.ref a] (binaryOp .Add (.ref acc) (.ref a))).attempt >>= _) _ _ _
    refine wpAny_bind (wpAny_attempt (wpAny_holding (PySem.P.add_list (items := xs) (items2 := its i) hacc' ha' ?_ hsz2)))
    have nw : s'.heap.get? s'.heap.objs.size = none := Heap.get?_none_of_le (Nat.le_refl _)
    have hS2 : (s'.heap.push { cls := .type "list", data := .seq (xs ++ its i) }).get? S = some { cls := .type "list", dict := none, data := .seq #[.ref acc] c, slots := #[] } := Heap.get?_push_of_some _ hS'
    have hneS : s'.heap.objs.size ≠ S := fun z => by
      rw [← z, nw] at hS'
      cases hS'
    have hnew : s'.heap.objs.size ∉ S :: wr := fun m => by
      rcases List.mem_cons.mp m with z | m
      · exact hneS z
      · obtain ⟨o, e⟩ := hex _ _ hst' _ m
        rw [nw] at e
        cases e
    have hnH : H.get? s'.heap.objs.size = none := by
      cases e : H.get? s'.heap.objs.size with
      | none => rfl
      | some o =>
        have := hkeep' _ _ e
        rw [nw] at this
        cases this
    show wpAny _ A.in1 (updateSeq S (fun _ => #[.ref s'.heap.objs.size]) >>= _) _ _ _
    refine wpAny_bind (wpAny_updateSeq hS2 rfl ?_)
    have hS₂ := Heap.get?_update_self (Obj.mapSeq fun _ => #[Value.ref s'.heap.objs.size]) hS2 rfl
    refine wpAny_bind (wpAny_letGo ?_)
    have kp : ∀ b o, b ≠ S → s'.heap.get? b = some o → (((s'.heap.push { cls := .type "list", data := .seq (xs ++ its i) }).update S (Obj.mapSeq fun _ => #[Value.ref s'.heap.objs.size])).update S (Obj.mapSeq fun _ => #[Value.ref s'.heap.objs.size])).get? b = some o := fun b o hb e =>
      (Heap.get?_update_other _ _ (fun h : S = b => hb h.symm)).trans ((Heap.get?_update_other _ _ (fun h : S = b => hb h.symm)).trans (Heap.get?_push_of_some _ e))
    have hm2 : Moved (S :: wr) G s' { s' with heap := ((s'.heap.push { cls := .type "list", data := .seq (xs ++ its i) }).update S (Obj.mapSeq fun _ => #[Value.ref s'.heap.objs.size])).update S (Obj.mapSeq fun _ => #[Value.ref s'.heap.objs.size]), toks := s'.toks + 0 } :=
      (Moved.refl W.grefl).then_heap (Nat.le_refl _) fun b o hb e => kp b o (fun z => hb (by rw [z]; exact List.mem_cons_self)) e
    refine wpAny_bind (wpAny_updateSeq hS₂ rfl (wpAny_pure ⟨plainId_quiet F.plain_sum_loop _, ih (i + 1) _ s'.heap.objs.size (xs ++ its i) _ 0 (by omega) hlt (fun b o e => kp b o (fun z => hHS b o e (by rw [z]; exact List.mem_cons_self)) (hkeep' b o e)) (W.frame _ s' _ _ hst' (by first | exact Nat.le_refl _ | exact Nat.le_succ _ | omega) fun b hb o e => kp b o (fun z => hSf (by rw [← z]; exact hb)) e) (Heap.get?_update_self _ hS₂ rfl) ?_ hnew hsz (.inr hnH) fun s'' acc'' d'' k1 k2 k3 hm'' => ?_⟩))
    · exact (Heap.get?_update_other _ _ (fun h : S = s'.heap.objs.size => hneS h.symm)).trans ((Heap.get?_update_other _ _ (fun h : S = s'.heap.objs.size => hneS h.symm)).trans (IsL.new _ _))
    · refine hR s'' acc'' d'' k1 k2 k3 (Moved.trans W.gtrans ((hm.mono hsub).then_heap (by first | exact Nat.le_refl _ | exact Nat.le_succ _ | omega) fun b o hb e => ?_) hm'')
      exact kp b o (fun z => hb (by rw [z]; exact List.mem_cons_self)) e
end
section
variable {prog : Program} {w : World} {A : Around} {E : Value → Shared → Prop} {s : Shared}
theorem joinFrom_list (its : Nat → Array Value) : ∀ (ls : List (List Value)) (i : Nat) (xs : Array Value), (∀ (j : Nat) (l : List Value), ls[j]? = some l → its (i + j) = l.toArray) → (joinFrom its ls.length i xs) = xs ++ ls.flatten.toArray
  | [], _, xs, _ => by simp [joinFrom]
  | l :: r, i, xs, h => by
    show joinFrom its r.length (i + 1) (xs ++ its i) = _
    rw [joinFrom_list its r (i + 1) _ (fun j l' e => by
      rw [Nat.add_assoc, Nat.add_comm 1 j]
      exact h (j + 1) l' e), show its i = l.toArray from h 0 l rfl]
    simp
theorem call_sum_listL {a b : Addr} {rs : List Addr} {ls : List (List Value)} {Q : Value → Shared → Prop} (hh : A.handled = none) (ha : s.heap.IsList a (rs.map Value.ref).toArray) {nb : Nat} (hb : IsL s.heap b #[] nb)
    (hl : rs.length = ls.length) (hr : ∀ (i : Nat) (r : Addr) (l : List Value), rs[i]? = some r → ls[i]? = some l → ∃ c, IsL s.heap r l.toArray c) (hne : rs ≠ []) (hsz : ls.flatten.length ≤ sizeLine)
    (hQ : ∀ h' tk p c, (∀ b o, s.heap.get? b = some o → h'.get? b = some o) → s.heap.get? p = none → IsL h' p ls.flatten.toArray c → Q (.ref p) { s with heap := h', toks := tk }) :
    wpAny (model prog w) A (call (.builtin "sum") [.ref a, .ref b]) Q E s := by
  refine call_function_tree F.kind_sum F.plain_sum F.entry_sum (args_sum2 _ _) ?_
  unfold Builtin.«sum»
  simp only [List.length_cons, List.length_nil]
  rw [if_neg (by decide)]
  refine wpAny_bind (wpAny_of_eq (show Builtin.Builtins.bindParams "sum" ["start"] 0 ⟨[.ref b], []⟩ = pure [some (.ref b)] from rfl) ?_)
  have hlt : a < s.heap.objs.size := by obtain ⟨_, e, _⟩ := ha; exact Heap.lt_size e
  refine wpAny_bind (wpAny_pyIter_list ha ?_)
  refine wpAny_bind (wpAny_pure ?_)
  simp only [List.forIn_cons, List.forIn_nil]
  have tb : ∀ (s' : Shared), IsL s'.heap b #[] nb → s'.TypeIs (.ref b) "list" := fun s' e => ⟨_, e, rfl⟩
  have hb1 : IsL (s.heap.push { cls := .type "list_iterator", data := .fields #[.ref a, .int 0 0] }) b #[] nb := Heap.get?_push_of_some _ hb
  refine wpAny_bind (wpAny_bind (wpAny_bind (wpAny_isInstance (T := "list") (b := false) (tb _ hb1) F.sub_list_str ?_)))
  simp only [Bool.false_eq_true, if_false]
  refine wpAny_pure (wpAny_bind (wpAny_bind (wpAny_isInstance (T := "list") (b := false) (tb _ hb1) F.sub_list_bytes ?_)))
  simp only [Bool.false_eq_true, if_false]
  refine wpAny_pure (wpAny_bind (wpAny_bind (wpAny_isInstance (T := "list") (b := false) (tb _ hb1) F.sub_list_bytearray ?_)))
  simp only [Bool.false_eq_true, if_false]
  refine wpAny_pure (wpAny_pure ?_)
  refine wpAny_bind (wpAny_newObj_type ?_)
  have W := (Walks.list (prog := prog) (w := w) (A := A.in1) hh s.heap.objs.size a (Nat.ne_of_lt hlt) (rs.map Value.ref).toArray).toS
  have st0 : (s.heap.push { cls := .type "list_iterator", data := .fields #[.ref a, .int 0 0] }).IsListIter s.heap.objs.size a 0 ∧ (s.heap.push { cls := .type "list_iterator", data := .fields #[.ref a, .int 0 0] }).IsList a (rs.map Value.ref).toArray := ⟨⟨_, Heap.get?_push_size _ rfl, rfl, rfl⟩, ha.push _⟩
  generalize hg : s.heap.push { cls := .type "list_iterator", data := .fields #[.ref a, .int 0 0] } = g1 at *
  have sz1 : g1.objs.size = s.heap.objs.size + 1 := by rw [← hg, Heap.size_push]
  have k1 : ∀ b o, s.heap.get? b = some o → g1.get? b = some o := fun b o e => by
    rw [← hg]
    exact Heap.get?_push_of_some _ e
  have hSf : g1.objs.size ∉ [s.heap.objs.size, a] := fun hm => by
    rcases List.mem_cons.mp hm with z | hm
    · exact absurd (sz1.symm.trans z) (Nat.succ_ne_self _)
    · have z := List.mem_singleton.mp hm
      rw [← z, sz1] at hlt
      exact absurd hlt (Nat.not_lt.mpr (Nat.le_succ _))
  have kL := joinFrom_list (fun i => (ls.getD i []).toArray) ls 0 #[] (fun j l e => by
    rw [Nat.zero_add]
    show (ls.getD j []).toArray = _
    rw [List.getD_eq_getElem?_getD, e]
    rfl)
  have hbs : b ∉ g1.objs.size :: [s.heap.objs.size] := fun hm => by
    have hb' : b < s.heap.objs.size := Heap.lt_size hb
    rcases List.mem_cons.mp hm with z | hm
    · rw [z, sz1] at hb'
      exact absurd hb' (Nat.not_lt.mpr (Nat.le_succ _))
    · rw [List.mem_singleton.mp hm] at hb'
      exact absurd hb' (Nat.lt_irrefl _)
  have nz : 0 < ls.length := by
    rw [← hl]
    exact List.length_pos_iff.mpr hne
  refine wpAny_pure ⟨plainId_quiet F.plain_sum_loop _, codeAny_sum_loopL W (fun i s' st c m => ?_) s.heap (fun c o e m => ?_) (fun i => (ls.getD i []).toArray) (fun i v e => ?_) g1.objs.size hSf (Heap.get?_none_of_le (by rw [sz1]; exact Nat.le_succ _)) ls.length 0 _ b #[] _ nb (by simp [hl]) (Nat.zero_le _) (fun c o e => Heap.get?_push_of_some _ (k1 c o e))
    (W.frame 0 _ _ _ (show _ from st0) (Nat.le_refl _) fun c _ o e => Heap.get?_push_of_some _ e) (Heap.get?_push_size _ rfl) (Heap.get?_push_of_some _ hb1) hbs ?_ (.inl nz) fun s' acc d k2 k3 k4 hm => ?_⟩
  · rw [List.mem_singleton.mp m]
    obtain ⟨⟨o, e, _⟩, _⟩ := (st : _ ∧ _)
    exact ⟨o, e⟩
  · have y := Heap.lt_size e
    rw [List.mem_singleton.mp m] at y
    exact absurd y (Nat.lt_irrefl _)
  · have e2 : (rs.map Value.ref)[i]? = some v := by simpa using e
    rw [List.getElem?_map] at e2
    cases er : rs[i]? with
    | none => rw [er] at e2; cases e2
    | some r =>
      rw [er] at e2
      cases e2
      have il : i < ls.length := by
        rw [← hl]
        exact (List.getElem?_eq_some_iff.mp er).1
      obtain ⟨c, hc⟩ := hr i r ls[i] er (List.getElem?_eq_getElem il)
      refine ⟨r, c, rfl, ?_⟩
      rw [List.getD_eq_getElem?_getD, List.getElem?_eq_getElem il]
      exact hc
  · rw [kL]
    simpa using hsz
  · rw [kL] at k4
    obtain ⟨hp, g, dd, tk, os⟩ := s'
    obtain ⟨_, m2, m3, m4, _⟩ := hm
    cases m2
    cases m3
    cases m4
    refine hQ hp tk acc d k2 k3 ?_
    simpa using k4
end
end PySem
namespace Dw
open PySem PySem.Spec PyProof.Rows L2 Evl PySem.W DV
def rSumL : List V → Hp → VK → Prop := fun vs H Q => ∃ (a b : Addr) (rs : List Addr) (ls : List (List V)), vs = [.ref a, .ref b] ∧ H a = some (.lst (rs.map V.ref)) ∧ H b = some (.lst []) ∧ rs ≠ [] ∧ Paired (fun r l => H r = some (.lst l)) rs ls ∧ ls.flatten.length ≤ sizeLine ∧ ∀ p, H p = none → Q (.ref p) (upd H p (.lst ls.flatten))
theorem vals_refs : ∀ {rs : List Addr} {us : List Value}, Vals (rs.map V.ref) us → us = rs.map Value.ref
  | [], _, .nil => rfl
  | _ :: _, _, .cons h r => by
    rw [vals_refs r, show _ = Value.ref _ from h]
    rfl
theorem vals_app {as bs : List V} {us vs : List Value} : Vals as us → Vals bs vs → Vals (as ++ bs) (us ++ vs)
  | .nil, h => h
  | .cons h r, k => .cons h (vals_app r k)
theorem lists_of {X : Cx} {pins : List (Addr × Obj)} {σ : L2.St} {H : Hp} {s : Shared} (I : Inv X pins σ H s) : ∀ {rs : List Addr} {ls : List (List V)}, Paired (fun r l => H r = some (.lst l)) rs ls →
    ∃ us : List (List Value), rs.length = us.length ∧ (∀ (i : Nat) (r : Addr) (l : List Value), rs[i]? = some r → us[i]? = some l → ∃ c, IsL s.heap r l.toArray c) ∧ Vals ls.flatten us.flatten
  | _, _, .nil => ⟨[], rfl, fun i r l h => by simp at h, .nil⟩
  | _, _, .cons (a := r) h t => by
    obtain ⟨us, h1, h2, h3⟩ := lists_of I t
    obtain ⟨z, its, n, rv, e⟩ := I.hok _ _ h
    refine ⟨its :: us, by simp [h1], fun i r' l e1 e2 => ?_, ?_⟩
    · cases i with
      | zero =>
        cases Option.some.inj e1
        cases Option.some.inj e2
        exact ⟨n, e⟩
      | succ i => exact h2 i r' l e1 e2
    · rw [List.flatten_cons, List.flatten_cons]
      exact vals_app rv h3
theorem cr_sumL {X : Cx} (hc : X.calm = true) : CallR X (.builtin "sum") rSumL := by
  intro pins s σ H vs us Q I r h
  obtain ⟨a, b, rs, ls, rfl, ha, hb, ne, hp, hz, q⟩ := h
  cases r with
  | cons r1 r =>
    cases r with
    | cons r2 r =>
      cases r
      rename_i u1 u2
      obtain rfl : u1 = Value.ref a := r1
      obtain rfl : u2 = Value.ref b := r2
      obtain ⟨_, its, n, rv, e⟩ := I.hok _ _ ha
      obtain ⟨_, its2, n2, rv2, e2⟩ := I.hok _ _ hb
      have := vals_refs rv
      subst this
      cases rv2
      obtain ⟨us, h1, h2, h3⟩ := lists_of I hp
      have lf : us.flatten.length = ls.flatten.length := (Paired.length h3).symm
      refine call_sum_listL (I.ok.hd hc) ⟨_, e, rfl, n, rfl⟩ e2 h1 h2 ne (by rw [lf]; exact hz) fun h' tk p c k1 k2 k3 => ?_
      have np : H p = none := HOk.gone I.hok k2
      exact ⟨.ref p, upd H p (.lst ls.flatten), I.laidN k1 k2 np (show ObjOk X.prog X.w _ _ _ (.lst ls.flatten) from ⟨hz, us.flatten, c, h3, k3⟩), rfl, q _ np⟩
section
variable {α : Type} [DecidableEq α] [Datum α] [DV α] {σ : L2.St} {A : Hp} {te : TE}
theorem reps_refs {H : Hp} : ∀ {vs : List V} {xs : List (List α)}, Reps H vs xs → ∃ (rs : List Addr) (ls : List (List V)), vs = rs.map V.ref ∧ Paired (fun r l => H r = some (.lst l)) rs ls ∧ Reps H ls.flatten xs.flatten
  | _, _, .nil => ⟨[], [], rfl, .nil, .nil⟩
  | _, _, .cons h t => by
    obtain ⟨rs, ls, rfl, h1, h2⟩ := reps_refs t
    obtain ⟨a, ws, rfl, g1, g2⟩ := h
    refine ⟨a :: rs, ws :: ls, rfl, .cons g1 h1, ?_⟩
    rw [List.flatten_cons, List.flatten_cons]
    exact Reps.app g2 h2
theorem paired_ext {H H' : Hp} (e : Ex H H') : ∀ {rs : List Addr} {ls : List (List V)}, Paired (fun r l => H r = some (.lst l)) rs ls → Paired (fun r l => H' r = some (.lst l)) rs ls
  | _, _, .nil => .nil
  | _, _, .cons h t => .cons (e _ _ h) (paired_ext e t)
theorem ed_sum {xs : List (List α)} (h : EvD te σ A xs) (ne : xs ≠ []) (hz : xs.flatten.length ≤ 100000) : EvD (tCB rSumL (tCons te (tCons (tLst tNil) tNil))) σ A xs.flatten := fun H1 e Q q => h H1 e _ fun v H2 Hs e2 s r => by
  obtain ⟨a, vs, rfl, h1, h2⟩ := r
  obtain ⟨rs, ls, rfl, g1, g2⟩ := reps_refs h2
  refine ⟨Nat.zero_le _, fun p np => ?_⟩
  have sp := sup_new (o := .lst []) e2 s np
  have ep : Ex H1 (upd H2 p (.lst [])) := e2.trans (Ex.new np)
  have es : Ex Hs (upd H2 p (.lst [])) := s.e.trans (Ex.new np)
  refine ⟨a, p, rs, ls, rfl, es _ _ h1, upd_same, fun z => ?_, paired_ext es g1, by rw [Reps.len g2]; exact sz_of hz, fun p2 np2 => ?_⟩
  · subst z
    have := Reps.len h2
    exact ne (List.length_eq_zero_iff.mp this.symm)
  · exact q _ _ (upd (upd Hs p (.lst [])) p2 (.lst ls.flatten)) (ep.trans (Ex.new np2)) (sup_new ep sp np2) ⟨p2, _, rfl, upd_same, Reps.ext ((Ex.new (sup_no s np)).trans (Ex.new (sup_no sp np2))) g2⟩
end
end Dw
/-! text P9 -/
set_option Elab.async false
set_option linter.all false
set_option maxRecDepth 100000
set_option maxHeartbeats 2000000
/-! the lots of both as the law joins them; a lot with one keeper less: plain -/
namespace K07
open PySem PySem.Spec PyProof.Rows L2 Evl PySem.W Dw Dw.DV Lot
def lotsP (F G : FamT) : List (List Str) := (F.2.map fun mine => G.2.map fun theirs => once (mine ++ theirs)).flatten
theorem mem_lots {F G : FamT} {l : List Str} : l ∈ lotsP F G ↔ ∃ a ∈ F.2, ∃ b ∈ G.2, once (a ++ b) = l := by
  unfold lotsP
  rw [List.mem_flatten]
  constructor
  · rintro ⟨m, hm, hl⟩
    obtain ⟨a, ha, rfl⟩ := List.mem_map.mp hm
    obtain ⟨b, hb, rfl⟩ := List.mem_map.mp hl
    exact ⟨a, ha, b, hb, rfl⟩
  · rintro ⟨a, ha, b, hb, rfl⟩
    exact ⟨_, List.mem_map.mpr ⟨a, ha, rfl⟩, List.mem_map.mpr ⟨b, hb, rfl⟩⟩
theorem flat_len {α β γ : Type} (g : α → β → γ) (M : List β) : ∀ L : List α, (L.map fun a => M.map (g a)).flatten.length = L.length * M.length
  | [] => by simp
  | a :: r => by
    rw [List.map_cons, List.flatten_cons, List.length_append, flat_len g M r, List.length_map, List.length_cons, Nat.succ_mul, Nat.add_comm]
theorem lotsP_len (F G : FamT) : (lotsP F G).length = F.2.length * G.2.length := flat_len _ _ _
theorem aLots {F G : FamT} : aLeast (lotsP F G) = (bothOf F G).2 := (aLeast_min (lotsP F G)).uniq sl_tot (both_min F G) fun x => by
  rw [aRows_mem, mem_bl]
  constructor
  · rintro ⟨l, hl, rfl⟩
    obtain ⟨a, ha, b, hb, rfl⟩ := mem_lots.mp hl
    exact ⟨a, ha, b, hb, rfl⟩
  · rintro ⟨a, ha, b, hb, rfl⟩
    exact ⟨_, mem_lots.mpr ⟨a, ha, b, hb, rfl⟩, rfl⟩
theorem aEith {ks : List Str} {n m : Nat} {F G : FamT} (h : Sm ks n F) (h' : Sm ks m G) : aLeast (F.2 ++ G.2) = (eitherOf F G).2 := aLeast_eq (app_asc h h')
theorem withinP_iff {a b : List Str} : withinP a b = true ↔ a ⊆ b := by
  unfold withinP
  rw [List.all_eq_true]
  exact ⟨fun h x hx => of_decide_eq_true (h x hx), fun h x hx => decide_eq_true (h hx)⟩
/-- does some lot of X hold in rest -/
def doesP (X : FamT) (rest : List Str) : Bool := X.2.any fun mine => withinP mine rest
theorem doesP_iff {X : FamT} {r : List Str} : doesP X r = true ↔ ∃ a ∈ X.2, a ⊆ r := by
  unfold doesP
  rw [List.any_eq_true]
  exact ⟨fun ⟨a, h1, h2⟩ => ⟨a, h1, withinP_iff.mp h2⟩, fun ⟨a, h1, h2⟩ => ⟨a, h1, withinP_iff.mpr h2⟩⟩
theorem cut_drop {δ : Type} (xs : List δ) (m : Nat) : cutT xs (some (m : Int)) none = xs.drop m := by
  have e : HT.sIx xs.length 0 (some (m : Int)) = min m xs.length := by
    show (if (m : Int) < 0 then ((m : Int) + (xs.length : Int)).toNat else min (m : Int).toNat xs.length) = min m xs.length
    rw [if_neg (by omega)]
    rfl
  have e2 : HT.sIx xs.length xs.length none = xs.length := rfl
  show (xs.drop (HT.sIx xs.length 0 (some (m : Int)))).take (HT.sIx xs.length xs.length none - HT.sIx xs.length 0 (some (m : Int))) = _
  rw [e, e2, List.take_of_length_le (by rw [List.length_drop]; exact Nat.le_refl _)]
  by_cases h : m ≤ xs.length
  · rw [Nat.min_eq_left h]
  · rw [Nat.min_eq_right (by omega), List.drop_of_length_le (Nat.le_refl _), List.drop_of_length_le (by omega)]
theorem less_does {ks : List Str} {n m : Nat} {F G : FamT} (h : Sm ks n F) (h' : Sm ks m G) {lot : List Str} (hl : lot ∈ (bothOf F G).2) {i : Nat} (hi : i < lot.length + 1) :
    ([doesP F (lot.take i ++ lot.drop (i + 1)), doesP G (lot.take i ++ lot.drop (i + 1))].all id) = decide ((0 + (i : Int)) = (lot.length : Int)) := by
  rw [Bool.eq_iff_iff, decide_eq_true_eq]
  show ((doesP F _ && (doesP G _ && true)) = true) ↔ _
  rw [Bool.and_true, Bool.and_eq_true, doesP_iff, doesP_iff]
  by_cases e : i = lot.length
  · subst e
    rw [List.take_of_length_le (Nat.le_refl _), List.drop_of_length_le (by omega), List.append_nil]
    exact ⟨fun _ => by omega, fun _ => both_in (bl_cup F.2 G.2) (both_min F G) hl⟩
  · constructor
    · intro z
      refine absurd z (both_least sl_tot (bl_cup F.2 G.2) (both_min F G) hl (fun x hx => ?_) ?_)
      · rcases List.mem_append.mp hx with y | y
        · exact List.mem_of_mem_take y
        · exact List.mem_of_mem_drop y
      · rw [List.length_append, List.length_take, List.length_drop]
        omega
    · intro z
      omega
end K07
/-! text D28 -/
set_option Elab.async false
set_option linter.all false
set_option maxRecDepth 100000
set_option maxHeartbeats 8000000
/-! whether each lot of both holds one of each, no lesser lot does, and each lot of either is one of either -/
namespace K07
open PySem PySem.Spec PyProof.Rows L2 Evl PySem.W Dw Dw.DV RZ StX Lot LmV LamX NdefX XvE
section
variable {P : Program} {w : World} {K : PySem.W.Frag} {mg : Str → Option Value} {base : Heap} {f : Addr} {fd : FuncData} {fL fN f1 fK fS fO fH fF fT : Addr} {dL dN d1 dK dS dO dH dF dT : FuncData} {fC fW fU fV Pt : Addr} {dC dW dU dV : FuncData} {fBo fEi fCo fSa : Addr} {dBo dEi dCo dSa : FuncData} {fAl fOn fWi : Addr} {dAl dOn dWi : FuncData}
def spLe (Pt : Addr) : Sp := fun vs H Q _ => ∃ v u ks F G A, vs = [v, u] ∧ Ex A H ∧ Rdy Pt lmQ lmPos A ∧ rep A v F ∧ rep A u G ∧ Fam2 ks F G ∧ EndT H Q
abbrev NLe : List Str := ["one", "other", "both", "lots", "found", "lot", "k", "rest", "does", "either", "mine", "theirs", "some"]
theorem scLe : FnScope NLe ["one", "other"] (defScope (top 51)) := ⟨rfl, rfl, rfl, by decide +kernel, rfl, by decide +kernel, by decide +kernel⟩
abbrev scLeI1 : Scope := { kind := .function, names := [(".0", .local), ("mine", .cell), ("other", .cell)], isGenerator := false, isCoroutine := false }
abbrev scLeI2 : Scope := { kind := .function, names := [(".0", .local), ("some", .local), ("any", .globalImplicit), ("rest", .cell)], isGenerator := false, isCoroutine := false }
theorem uB0 {k : Nat} {A : Around} (hr : Room k A) : A.units + Datum.depth Bool < cLine := by
  have h := hr.un
  show A.units + 0 < cLine
  omega
theorem uI0 {k : Nat} {A : Around} (hr : Room k A) : A.units + Datum.depth Int < cLine := by
  have h := hr.un
  show A.units + 0 < cLine
  omega
theorem ev_inB {α : Type} [DecidableEq α] [Datum α] [DV α] {σ : L2.St} {A : Hp} {ta tb : TE} {x : α} {xs : List α} (ha : EvD ta σ A x) (hb : EvD tb σ A xs) {b : Bool} (h : b = true ↔ x ∈ xs) : Ev (tOp (rInW α false) ta tb) σ A (.bl b) := by
  have k := ev_inD ha hb
  rwa [show decide (x ∈ xs) = b from by rw [Bool.eq_iff_iff, decide_eq_true_iff, h]] at k
theorem b_forR {hi : Int} {n j : Nat} {ta : TA} {tb : TS} {D : Ends} {σ : L2.St} {A H : Hp} (e : Ex A H) (h : EvA ta σ A [.int hi]) (h1 : -(2 ^ 62) ≤ hi) (h2 : hi < 2 ^ 62) (hn : hi.toNat = n) (Pv : Nat → L2.St → Hp → Prop) (h0 : ∀ H1, Ex H H1 → Pv 0 σ H1)
    (hs : ∀ i σ H, i < n → Pv i σ H → gName j (.int (0 + (i : Int))) σ H fun σ2 H2 => tb { D with nx := Pv (i + 1), ct := Pv (i + 1), bk := D.nx } σ2 H2) (hd : ∀ σ H, Pv n σ H → D.nx σ H) : tFor (iRng1 ta) (gName j) tb D σ H := by
  subst hn
  refine h H e _ fun H1 e1 => ⟨hi, rfl, h1, h2, ?_⟩
  exact for_it (walk_range (lo := 0) (n := hi.toNat)) Pv (h0 H1 e1) (fun _ _ _ _ _ => trivial) (fun i x σ H2 H3 l p y => by
    obtain ⟨rfl, rfl⟩ := y
    exact hs i σ H3 l p) hd
theorem ed_evI {σ : L2.St} {A : Hp} {te : TE} {i : Int} (h : Ev te σ A (.int i)) : EvD te σ A i := fun H1 e _ q => h H1 e _ fun H2 e2 => q _ H2 (fun _ => none) e2 ⟨fun _ _ z => (by cases z), fun _ _ z => (by cases z)⟩ rfl
abbrev tLots (K : PySem.W.Frag) : TE := tLc (iList K (tOp (rIxT K) (tVar 0) (tC (.int 1)))) (gName 10) tYes (tLc (iList K (tOp (rIxT K) (tVar 1) (tC (.int 1)))) (gName 11) tYes (tCall (spOnce Str) [] E0 (tCons (tOp rCat (tVar 10) (tVar 11)) tNil)) [11]) [10]
theorem ok_le (F : FnP K "_law_least_right" (top 51) f fd) (B : Bn mg) (Z : Fs K mg fL fN f1 fK fS fO fH fF fT dL dN d1 dK dS dO dH dF dT) (Y : Gs K mg base Pt fC fW fU fV dC dW dU dV) (L : Ls K mg fBo fEi fCo fSa dBo dEi dCo dSa)
    (AL : Df K mg "_law_a_least" 38 fAl dAl) (ON : Df K mg "_law_each_once" 46 fOn dOn) (WI : Df K mg "_law_a_within" 37 fWi dWi) : FnOk P w K mg base CX0 9 f fd ["one", "other"] (spLe Pt) := by
  have GB : FnOk P w K mg base CX0 7 fBo dBo ["family", "other_family"] (spBoth Pt) := ok_both L.B.F B Z Y
  have bB : Binds K dBo ["family", "other_family"] [] := L.B.F.bindsN fun _ _ _ _ _ _ us hl => match us, hl with | [_, _], _ => rfl
  have GE : FnOk P w K mg base CX0 7 fEi dEi ["family", "other_family"] (spEither Pt) := ok_either L.E.F B Z Y
  have bE : Binds K dEi ["family", "other_family"] [] := L.E.F.bindsN fun _ _ _ _ _ _ us hl => match us, hl with | [_, _], _ => rfl
  have GC : FnOk P w K mg base CX0 8 fCo dCo ["thing"] (spC 8) := ok_copied L.C.F L.C.g B 8
  have bC : Binds K dCo ["thing"] [] := L.C.F.bindsN fun _ _ _ _ _ _ us hl => match us, hl with | [_], _ => rfl
  have GS : FnOk P w K mg base CX0 8 fSa dSa ["found", "due"] (spS 8) := ok_same L.S.F L.S.g B 8
  have bS : Binds K dSa ["found", "due"] [] := L.S.F.bindsN fun _ _ _ _ _ _ us hl => match us, hl with | [_, _], _ => rfl
  have GA : FnOk P w K mg base CX0 2 fAl dAl ["lots"] spAl := ok_al AL.F B ON WI
  have bA : Binds K dAl ["lots"] [] := AL.F.bindsN fun _ _ _ _ _ _ us hl => match us, hl with | [_], _ => rfl
  have GO : FnOk P w K mg base CX0 1 fOn dOn ["things"] (spOnce Str) := ok_once (by decide) ON.F
  have bO : Binds K dOn ["things"] [] := ON.F.bindsN fun _ _ _ _ _ _ us hl => match us, hl with | [_], _ => rfl
  have GW : FnOk P w K mg base CX0 1 fWi dWi ["one", "other"] spWithin := ok_withinP WI.F B.all
  have bW : Binds K dWi ["one", "other"] [] := WI.F.bindsN fun _ _ _ _ _ _ us hl => match us, hl with | [_, _], _ => rfl
  refine F.ok scLe (fun vs H Q E h => ?_) (fun cdv A outer s H vs Q E hr h => ?_)
  · obtain ⟨v, u, _, _, _, _, rfl, _⟩ := h
    rfl
  · obtain ⟨v, u, ks, F, G, A0, rfl, eA, R, hv, hu, T, q⟩ := h
    refine ⟨_, PSs.nox (
      -- both
      pss_cons (ps_set (i := 2) scLe.nd rfl (.inl rfl) (pe_call GC (hr.mono (by decide)) (by rfl) L.C.g L.C.F.kp bC .nil pass0 (pa_cons (pe_call GB (hr.mono (by decide)) (by rfl) L.B.g L.B.F.kp bB .nil pass0 (pa_cons (pe_call GC (hr.mono (by decide)) (by rfl) L.C.g L.C.F.kp bC .nil pass0 (pa_cons (pv 0) pa_nil)) (pa_cons (pe_call GC (hr.mono (by decide)) (by rfl) L.C.g L.C.F.kp bC .nil pass0 (pa_cons (pv 1) pa_nil)) pa_nil))) pa_nil)))
      -- lots
      (pss_cons (ps_set (i := 3) scLe.nd rfl (.inl rfl) (pe_callB (cr_sumL rfl) (by rfl) B.sum (by decide +kernel) (pa_cons (pe_lc (own := [("mine", 10)]) (g := gName 10) (tt := tYes) (te := tLc (iList K (tOp (rIxT K) (tVar 1) (tC (.int 1)))) (gName 11) tYes (tCall (spOnce Str) [] E0 (tCons (tOp rCat (tVar 10) (tVar 11)) tNil)) [11]) rfl scLe.nd (pi_list (pe_ix ix_tup (pv 0) pe_int (fun _ _ => rfl))) (blkOk_by (N := NLe) (sc := defScope (top 51)) (by decide +kernel))
          (fun _ _ _ _ _ => pg_name (i := 10) scLe.nd rfl (.inr rfl)) (fun _ _ _ _ _ => pts_nil)
          (fun _ _ _ _ _ => pe_lc (own := [("theirs", 11)]) (g := gName 11) (tt := tYes) (te := tCall (spOnce Str) [] E0 (tCons (tOp rCat (tVar 10) (tVar 11)) tNil)) rfl scLe.nd (pi_list (pe_ix ix_tup (pv 1) pe_int (fun _ _ => rfl))) (blkOk_by (N := NLe) (sc := scLeI1) (by decide +kernel))
            (fun _ _ _ _ _ => pg_name (i := 11) scLe.nd rfl (.inl rfl)) (fun _ _ _ _ _ => pts_nil) (fun _ _ _ _ _ => pe_call GO (hr.mono (by decide)) (by rfl) ON.g ON.F.kp bO .nil pass0 (pa_cons (pe_op op_cat (pv 10) (pv 11)) pa_nil)))) (pa_cons (pe_lst pa_nil) pa_nil))))
      -- found
      (pss_cons (ps_set (i := 4) scLe.nd rfl (.inl rfl) (pe_lst (pa_cons (pv 2) (pa_cons (pe_call GE (hr.mono (by decide)) (by rfl) L.E.g L.E.F.kp bE .nil pass0 (pa_cons (pe_call GC (hr.mono (by decide)) (by rfl) L.C.g L.C.F.kp bC .nil pass0 (pa_cons (pv 0) pa_nil)) (pa_cons (pe_call GC (hr.mono (by decide)) (by rfl) L.C.g L.C.F.kp bC .nil pass0 (pa_cons (pv 1) pa_nil)) pa_nil))) pa_nil))))
      (pss_cons (ps_if (pt_not (pt_val (pe_call GS (hr.mono (by decide)) (by rfl) L.S.g L.S.F.kp bS .nil pass0 (pa_cons (pv 4) (pa_cons (pe_lst (pa_cons (pe_tup (pa_cons (pe_ix ix_tup (pv 0) pe_int (fun _ _ => rfl)) (pa_cons (pe_call GA (hr.mono (by decide)) (by rfl) AL.g AL.F.kp bA .nil pass0 (pa_cons (pv 3) pa_nil)) pa_nil)))
        (pa_cons (pe_tup (pa_cons (pe_ix ix_tup (pv 0) pe_int (fun _ _ => rfl)) (pa_cons (pe_call GA (hr.mono (by decide)) (by rfl) AL.g AL.F.kp bA .nil pass0 (pa_cons (pe_op op_cat (pe_ix ix_tup (pv 0) pe_int (fun _ _ => rfl)) (pe_ix ix_tup (pv 1) pe_int (fun _ _ => rfl))) pa_nil)) pa_nil))) pa_nil))) pa_nil))))) pss_never pss_nil)
      -- for lot in both[1]
      (pss_cons (ps_for PassesOwn.never rfl (pi_list (pe_ix ix_tup (pv 2) pe_int (fun _ _ => rfl))) (pg_name (i := 5) scLe.nd rfl (.inl rfl))
        (pss_one (ps_for PassesOwn.never rfl (pi_range1 (by rfl) B.range (pa_cons (pe_op op_add (pe_callB call_len_seq (by rfl) B.len PySem.boot_len (pa_cons (pv 5) pa_nil)) pe_int) pa_nil)) (pg_name (i := 6) scLe.nd rfl (.inl rfl))
          (pss_cons (ps_set (i := 7) scLe.nd rfl (.inr rfl) (pe_op op_cat (pe_slice sl_list (pv 5) po_none (po_some (pv 6))) (pe_slice sl_list (pv 5) (po_some (pe_op op_add (pv 6) pe_int)) po_none)))
          (pss_cons (ps_setLc (i := 8) (own := [("some", 12)]) (g := gName 12) (tt := tYes) (te := tCB (rAny K) (tCons (tLc (iList K (tOp (rIxT K) (tVar 12) (tC (.int 1)))) (gName 10) tYes (tCall spWithin [] E0 (tCons (tVar 10) (tCons (tVar 7) tNil))) [10]) tNil)) rfl scLe.nd rfl rfl (sw_true rfl rfl (by rfl) (by rfl)) (pi_tup (pe_tup (pa_cons (pv 0) (pa_cons (pv 1) pa_nil)))) (blkOk_by (N := NLe) (sc := defScope (top 51)) (by decide +kernel))
            (fun _ _ _ _ _ => pg_name (i := 12) scLe.nd rfl (.inl rfl)) (fun _ _ _ _ _ => pts_nil)
            (fun _ _ _ _ _ => pe_callB (cr_any rfl) (by rfl) B.any (by decide +kernel) (pa_cons (pe_lc (own := [("mine", 10)]) (g := gName 10) (tt := tYes) (te := tCall spWithin [] E0 (tCons (tVar 10) (tCons (tVar 7) tNil))) rfl scLe.nd (pi_list (pe_ix ix_tup (pv 12) pe_int (fun _ _ => rfl))) (blkOk_by (N := NLe) (sc := scLeI2) (by decide +kernel))
              (fun _ _ _ _ _ => pg_name (i := 10) scLe.nd rfl (.inl rfl)) (fun _ _ _ _ _ => pts_nil) (fun _ _ _ _ _ => pe_call GW (hr.mono (by decide)) (by rfl) WI.g WI.F.kp bW .nil pass0 (pa_cons (pv 10) (pa_cons (pv 7) pa_nil)))) pa_nil)))
          (pss_one (ps_if (pt_cmpR (op_neW (α := Bool) (uB0 hr)) (pe_callB (cr_all rfl) (by rfl) B.all (by decide +kernel) (pa_cons (pv 8) pa_nil)) (pe_cmpR (op_eqW (α := Int) (uI0 hr)) (pv 6) (pe_callB call_len_seq (by rfl) B.len PySem.boot_len (pa_cons (pv 5) pa_nil)) (by rfl)) (by rfl)) pss_never pss_nil)))))))
      -- either
      (pss_cons (ps_set (i := 9) scLe.nd rfl (.inl rfl) (pe_call GE (hr.mono (by decide)) (by rfl) L.E.g L.E.F.kp bE .nil pass0 (pa_cons (pe_call GC (hr.mono (by decide)) (by rfl) L.C.g L.C.F.kp bC .nil pass0 (pa_cons (pv 0) pa_nil)) (pa_cons (pe_call GC (hr.mono (by decide)) (by rfl) L.C.g L.C.F.kp bC .nil pass0 (pa_cons (pv 1) pa_nil)) pa_nil))))
      (pss_one (ps_ret (pe_callB (cr_all rfl) (by rfl) B.all (by decide +kernel) (pa_cons (pe_lc (own := [("lot", 5)]) (g := gName 5) (tt := tYes) (te := tOrV (tOp (rInW (List Str) false) (tVar 5) (tOp (rIxT K) (tVar 0) (tC (.int 1)))) (tOp (rInW (List Str) false) (tVar 5) (tOp (rIxT K) (tVar 1) (tC (.int 1))))) rfl scLe.nd (pi_list (pe_ix ix_tup (pv 9) pe_int (fun _ _ => rfl))) (blkOk_by (N := NLe) (sc := defScope (top 51)) (by decide +kernel))
        (fun _ _ _ _ _ => pg_name (i := 5) scLe.nd rfl (.inl rfl)) (fun _ _ _ _ _ => pts_nil) (fun _ _ _ _ _ => pe_or (pe_cmpR (op_inW (α := List Str) (uLL1 hr)) (pv 5) (pe_ix ix_tup (pv 0) pe_int (fun _ _ => rfl)) (by rfl)) (pe_one (pe_cmpR (op_inW (α := List Str) (uLL1 hr)) (pv 5) (pe_ix ix_tup (pv 1) pe_int (fun _ _ => rfl)) (by rfl))))) pa_nil)))))))))), ?_⟩
    have l8 := T.l
    have hkF : F.1 = ks := T.f.k
    have fl : ∀ l ∈ F.2, l.length ≤ 8 := fun l m => Nat.le_trans (T.f.lot l m).len l8
    have gl : ∀ l ∈ G.2, l.length ≤ 8 := fun l m => Nat.le_trans (T.g.lot l m).len l8
    have nF := T.f.l
    have nG := T.g.l
    have two : Two F G := two_sm T.f T.g (by omega) (by decide) (by decide) (by decide)
    have mB : Sm ks 25 (bothOf F G) := both_sm T.f T.g (by decide)
    have mE : Sm ks 10 (eitherOf F G) := either_sm T.f T.g (by decide)
    have cF : ∀ {σ : L2.St} {A : Hp}, EvD (tVar 0) σ A F → EvD (tCall (spC 8) [] E0 (tCons (tVar 0) tNil)) σ A F := fun h => ed_copied h (smD T.f)
    have cG : ∀ {σ : L2.St} {A : Hp}, EvD (tVar 1) σ A G → EvD (tCall (spC 8) [] E0 (tCons (tVar 1) tNil)) σ A G := fun h => ed_copied h (smD T.g)
    -- both
    refine b_asg (Bs.start eA) (ed_copied (d := 8) (E := E0) (ed_call2W (E := E0) (P := Two) (f := bothOf) R (cF (ed_var (σ := [some v, some u, none, none, none, none, none, none, none, none, none, none, none]) rfl hv)) (cG (ed_var rfl hu)) two) (smD mB)) fun v2 A1 H1 B1 x1 r2 => ?_
    have hv1 : rep A1 v F := DV.ext x1 hv
    have hu1 : rep A1 u G := DV.ext x1 hu
    -- lots
    have ll := ed_lc (K := K) (σ := [some v, some u, some v2, none, none, none, none, none, none, none, none, none, none]) (H := A1) (tt := tYes) (te := tLc (iList K (tOp (rIxT K) (tVar 1) (tC (.int 1)))) (gName 11) tYes (tCall (spOnce Str) [] E0 (tCons (tOp rCat (tVar 10) (tVar 11)) tNil)) [11]) (j := 10) (vs := [10]) (fun _ : List Str => true) (fun mine : List Str => G.2.map fun theirs => once (mine ++ theirs)) (ed_snd (K := K) (p := F) (ed_var (i := 0) rfl hv1)) (by omega) (fun _ => rfl) (fun _ _ _ _ _ _ => et_yes) fun mine z H5 e m r _ => by
      have k := ed_lc (K := K) (σ := [some v, some u, some v2, none, none, none, none, none, none, none, some z, none, none]) (H := H5) (tt := tYes) (te := tCall (spOnce Str) [] E0 (tCons (tOp rCat (tVar 10) (tVar 11)) tNil)) (j := 11) (vs := [11]) (fun _ : List Str => true) (fun theirs : List Str => once (mine ++ theirs)) (ed_snd (K := K) (p := G) (ed_var (i := 1) rfl (DV.ext e hu1))) (by omega) (fun _ => rfl) (fun _ _ _ _ _ _ => et_yes) fun theirs z2 H6 e6 m2 r2 _ => by
        have q1 := fl mine m
        have q2 := gl theirs m2
        exact ed_call1 (E := E0) (P := fun xs : List Str => xs.length ≤ 1000) (f := once) (ed_cat (ed_var (i := 10) (v := z) rfl (DV.ext e6 r)) (ed_var (i := 11) (v := z2) rfl r2) (by omega)) (by rw [List.length_append]; omega)
      rw [List.filter_eq_self.mpr (fun _ _ => rfl)] at k
      exact k
    rw [List.filter_eq_self.mpr (fun _ _ => rfl)] at ll
    have lle : (F.2.map fun mine : List Str => G.2.map fun theirs => once (mine ++ theirs)).flatten.length ≤ 25 := by
      rw [show (F.2.map fun mine : List Str => G.2.map fun theirs => once (mine ++ theirs)).flatten = lotsP F G from rfl, lotsP_len]
      exact Nat.mul_le_mul nF nG
    refine b_asg B1 (ed_sum ll (fun z => T.f.g.ne (List.map_eq_nil_iff.mp z)) (by omega)) fun v3 A2 H2 B2 x2 r3 => ?_
    have r3' : rep A2 v3 (lotsP F G) := r3
    have lle' : (lotsP F G).length ≤ 25 := lle
    have hv2 : rep A2 v F := DV.ext x2 hv1
    have hu2 : rep A2 u G := DV.ext x2 hu1
    -- found
    refine b_asg B2 (ed_lst (xs := [bothOf F G, eitherOf F G]) (eda_cons (ed_var (i := 2) (σ := [some v, some u, some v2, some v3, none, none, none, none, none, none, none, none, none]) rfl (DV.ext x2 r2)) (eda_cons (ed_call2W (E := E0) (P := Two) (f := eitherOf) ((R.ext x1).ext x2) (cF (ed_var rfl hv2)) (cG (ed_var rfl hu2)) two) eda_nil)) (by simp)) fun v4 A3 H3 B3 x3 r4 => ?_
    have hv3 : rep A3 v F := DV.ext x3 hv2
    have hu3 : rep A3 u G := DV.ext x3 hu2
    have v0 : EvD (tVar 0) [some v, some u, some v2, some v3, some v4, none, none, none, none, none, none, none, none] A3 F := ed_var rfl hv3
    have v1 : EvD (tVar 1) [some v, some u, some v2, some v3, some v4, none, none, none, none, none, none, none, none] A3 G := ed_var rfl hu3
    have ln1 : ∀ l ∈ lotsP F G, l ≠ [] := by
      intro l m e
      obtain ⟨a, ha, b, hb, rfl⟩ := mem_lots.mp m
      obtain ⟨x, hx⟩ := List.exists_mem_of_ne_nil a (T.f.g.lots a ha).ne
      have y := mem_once.mpr (List.mem_append_left b hx)
      rw [e] at y
      cases y
    have ln2 : ∀ l ∈ lotsP F G, l.length ≤ 100 := by
      intro l m
      obtain ⟨a, ha, b, hb, rfl⟩ := mem_lots.mp m
      have q0 := once_len (a ++ b)
      have q1 := fl a ha
      have q2 := gl b hb
      rw [List.length_append] at q0
      omega
    have d1 : EvD _ _ A3 (bothOf F G) := ed_is (ed_pair (ed_fst (K := K) v0) (ed_call1 (E := E0) (P := fun L : List (List Str) => L.length ≤ 1000 ∧ (∀ l ∈ L, l ≠ []) ∧ ∀ l ∈ L, l.length ≤ 100) (f := aLeast) (ed_var (i := 3) rfl (DV.ext x3 r3')) ⟨by omega, ln1, ln2⟩)) (Prod.ext (hkF.trans (both_k T.f T.g).symm) aLots)
    have d2 : EvD _ _ A3 (eitherOf F G) := ed_is (ed_pair (ed_fst (K := K) v0) (ed_call1 (E := E0) (P := fun L : List (List Str) => L.length ≤ 1000 ∧ (∀ l ∈ L, l ≠ []) ∧ ∀ l ∈ L, l.length ≤ 100) (f := aLeast) (ed_cat (ed_snd (K := K) v0) (ed_snd (K := K) v1) (by omega)) ⟨by rw [List.length_append]; omega, fun l m => (List.mem_append.mp m).elim (fun y => (T.f.g.lots l y).ne) fun y => (T.g.g.lots l y).ne, fun l m => (List.mem_append.mp m).elim (fun y => by have := fl l y; omega) fun y => by have := gl l y; omega⟩)) (Prod.ext (hkF.trans (either_k T.f T.g).symm) (aEith T.f T.g))
    refine b_skip B3 (et_not (et_B (ev_same (d := 8) (E := E0) (ed_var (i := 4) rfl r4) (ed_lst (eda_cons d1 (eda_cons d2 eda_nil)) (by simp)) rfl ⟨by simp, fun y hy => by
      rcases List.mem_cons.mp hy with rfl | hy
      · exact smD mB
      · rw [List.mem_singleton.mp hy]
        exact smD mE⟩))) rfl fun H4 B4 => ?_
    -- each lot of both
    have hv2x : rep A3 v2 (bothOf F G) := DV.ext x3 (DV.ext x2 r2)
    refine (ed_snd (K := K) (p := bothOf F G) (ed_var (i := 2) (σ := [some v, some u, some v2, some v3, some v4, none, none, none, none, none, none, none, none]) rfl hv2x)) H4 B4.h _ fun w H6 Hs6 e6 s6 r6 => ?_
    have B6 := B4.go e6 s6
    obtain ⟨a, us, rfl, g1, g2⟩ := r6
    have len := Reps.len g2
    refine ⟨a, rfl, ⟨us, sq_of (s6.e _ _ g1)⟩, ?_⟩
    have jr : Ex Hs6 (jn A3 Hs6) := jn_r (B4.h.trans e6) s6.e
    have hvJ : rep (jn A3 Hs6) v F := DV.ext jn_l hv3
    have huJ : rep (jn A3 Hs6) u G := DV.ext jn_l hu3
    have RJ : Rdy Pt lmQ lmPos (jn A3 Hs6) := (((R.ext x1).ext x2).ext x3).ext jn_l
    generalize hJ : jn A3 Hs6 = AJ at B6 jr hvJ huJ RJ
    refine for_list (xs := us) (fun i σ H' => ∃ y5 y6 y7 y8, σ = [some v, some u, some v2, some v3, some v4, y5, y6, y7, y8, none, none, none, none] ∧ Ex H6 H') ⟨none, none, none, none, rfl, Ex.refl _⟩ (fun i σ H' _ h => ?_) (fun i x σ H' hx h => ?_) (fun σ H' h => ?_)
    · obtain ⟨_, _, _, _, _, e⟩ := h
      exact sq_of (e _ _ (s6.e _ _ g1))
    · obtain ⟨y5, y6, y7, y8, rfl, e⟩ := h
      obtain ⟨li, _⟩ := List.getElem?_eq_some_iff.mp hx
      obtain ⟨lot, hk⟩ : ∃ lot, (bothOf F G).2[i]? = some lot := ⟨_, List.getElem?_eq_getElem (show i < (bothOf F G).2.length by omega)⟩
      have mlot := List.mem_of_getElem? hk
      have lotl : lot.length ≤ 8 := Nat.le_trans (mB.lot lot mlot).len l8
      have rx : rep AJ x lot := DV.ext jr (Reps.at g2 hx hk)
      show tFor (iRng1 _) (gName 6) _ _ [some v, some u, some v2, some v3, some v4, some x, y6, y7, y8, none, none, none, none] H'
      refine b_forR (n := lot.length + 1) (B6.h.trans e) (ea_cons (ev_op (ev_lenD (K := K) (ed_var (i := 5) rfl rx)) (ev_c (v := .int 1)) (rv_I0 (g := fun i j => .int (i + j)))) ea_nil) (by omega) (by omega) (by omega) (fun i σ H' => ∃ y6 y7 y8, σ = [some v, some u, some v2, some v3, some v4, some x, y6, y7, y8, none, none, none, none] ∧ Ex H6 H') (fun H7 e7 => ⟨y6, y7, y8, rfl, e.trans e7⟩) (fun i σ H9 hi h => ?_) (fun σ H8 h => ?_)
      · obtain ⟨y6, y7, y8, rfl, e8⟩ := h
        have BX : Bs AJ H9 AJ H9 := Bs.start (B6.h.trans e8)
        have sl := ed_cat (ed_sl (K := K) (ed_var (i := 5) (σ := [some v, some u, some v2, some v3, some v4, some x, some (.int (0 + (i : Int))), y7, y8, none, none, none, none]) rfl rx) eo_none (eo_some (ev_var (i := 6) (v := .int (0 + (i : Int))) rfl)))
          (ed_sl (K := K) (ed_var (i := 5) rfl rx) (eo_some (ev_op (ev_var (i := 6) (v := .int (0 + (i : Int))) rfl) (ev_c (v := .int 1)) (rv_I0 (g := fun i j => .int (i + j))))) eo_none) (by
            rw [Int.zero_add, cut_take _ _ (by omega) (by omega), show (i : Int) + 1 = ((i + 1 : Nat) : Int) by omega, cut_drop, List.length_take, List.length_drop]
            omega)
        rw [Int.zero_add, cut_take _ _ (by omega) (by omega), show (i : Int) + 1 = ((i + 1 : Nat) : Int) by omega, cut_drop, Int.toNat_natCast] at sl
        refine b_asg BX (by rw [Int.zero_add]; exact sl) fun v7 A7 H10 B10 x7 r7 => ?_
        have tup := ed_tupD (xs := [F, G]) (σ := [some v, some u, some v2, some v3, some v4, some x, some (.int (0 + (i : Int))), some v7, y8, none, none, none, none]) (eda_cons (ed_var (i := 0) rfl (DV.ext x7 hvJ)) (eda_cons (ed_var (i := 1) rfl (DV.ext x7 huJ)) eda_nil)) (by simp)
        have ld := ed_lcT (K := K) (tt := tYes) (te := tCB (rAny K) (tCons (tLc (iList K (tOp (rIxT K) (tVar 12) (tC (.int 1)))) (gName 10) tYes (tCall spWithin [] E0 (tCons (tVar 10) (tCons (tVar 7) tNil))) [10]) tNil)) (j := 12) (vs := [12]) (fun _ : FamT => true) (fun X : FamT => doesP X (lot.take i ++ lot.drop (i + 1))) tup (by simp) (fun _ => rfl) (fun _ _ _ _ _ _ => et_yes) fun X z H11 e11 m r _ => by
          have mX : Sm ks 5 X := by
            rcases List.mem_cons.mp m with rfl | m
            · exact T.f
            · rw [List.mem_singleton.mp m]
              exact T.g
          have k := ed_lc (K := K) (σ := [some v, some u, some v2, some v3, some v4, some x, some (.int (0 + (i : Int))), some v7, y8, none, none, none, some z]) (H := H11) (tt := tYes) (te := tCall spWithin [] E0 (tCons (tVar 10) (tCons (tVar 7) tNil))) (j := 10) (vs := [10]) (fun _ : List Str => true) (fun mine : List Str => withinP mine (lot.take i ++ lot.drop (i + 1))) (ed_snd (K := K) (p := X) (ed_var (i := 12) rfl r)) (by have := mX.l; omega) (fun _ => rfl) (fun _ _ _ _ _ _ => et_yes) fun mine z2 H12 e12 m2 r2 _ => ed_call2 (E := E0) (P := fun (one _ : List Str) => one.length ≤ 1000) (f := withinP) (ed_var (i := 10) (v := z2) rfl r2) (ed_var (i := 7) (v := v7) rfl (DV.ext (e11.trans e12) r7)) (by have := (mX.lot mine m2).len; omega)
          have an := ev_anyD (K := K) k
          rw [List.filter_eq_self.mpr (fun _ _ => rfl), List.any_map] at an
          exact ed_bl an
        rw [List.filter_eq_self.mpr (fun _ _ => rfl)] at ld
        refine b_asg B10 ld fun v8 A8 H11 B11 x8 r8 => ?_
        have r8' : rep A8 v8 [doesP F (lot.take i ++ lot.drop (i + 1)), doesP G (lot.take i ++ lot.drop (i + 1))] := r8
        refine b_if B11 (et_test (ev_neD (α := Bool) (ed_bl (ev_allD (K := K) (ed_var (i := 8) rfl r8'))) (ed_bl (ev_eqD (α := Int) (ed_var (i := 6) (v := .int (0 + (i : Int))) rfl rfl) (ed_evI (ev_lenD (K := K) (ed_var (i := 5) rfl (DV.ext (x7.trans x8) rx)))))))) (fun z => absurd (less_does T.f T.g mlot hi) (dTrue z)) fun _ H12 B12 => ?_
        exact ⟨some (.int (0 + (i : Int))), some v7, some v8, rfl, e8.trans B12.e⟩
      · obtain ⟨y6, y7, y8, rfl, e8⟩ := h
        exact ⟨some x, y6, y7, y8, rfl, e8⟩
    · obtain ⟨y5, y6, y7, y8, rfl, e⟩ := h
      have B9 : Bs AJ H' AJ H' := Bs.start (B6.h.trans e)
      refine b_asg B9 (ed_call2W (E := E0) (P := Two) (f := eitherOf) RJ (cF (ed_var (σ := [some v, some u, some v2, some v3, some v4, y5, y6, y7, y8, none, none, none, none]) rfl hvJ)) (cG (ed_var rfl huJ)) two) fun v9 A9 H10 B10 x9 r9 => ?_
      have lf := ed_lc (K := K) (σ := [some v, some u, some v2, some v3, some v4, y5, y6, y7, y8, some v9, none, none, none]) (H := A9) (tt := tYes) (te := tOrV (tOp (rInW (List Str) false) (tVar 5) (tOp (rIxT K) (tVar 0) (tC (.int 1)))) (tOp (rInW (List Str) false) (tVar 5) (tOp (rIxT K) (tVar 1) (tC (.int 1))))) (j := 5) (vs := [5]) (fun _ : List Str => true) (fun lot : List Str => decide (lot ∈ F.2) || decide (lot ∈ G.2)) (ed_snd (K := K) (p := eitherOf F G) (ed_var (i := 9) rfl r9)) (by have := mE.l; omega) (fun _ => rfl) (fun _ _ _ _ _ _ => et_yes) fun lot z H11 e11 m r _ =>
        ed_bl (ev_orV (ev_inB (ed_var (i := 5) (v := z) rfl r) (ed_snd (K := K) (p := F) (ed_var (i := 0) rfl (DV.ext (x9.trans e11) hvJ))) decide_eq_true_iff) fun _ => ev_inB (ed_var (i := 5) (v := z) rfl r) (ed_snd (K := K) (p := G) (ed_var (i := 1) rfl (DV.ext (x9.trans e11) huJ))) decide_eq_true_iff)
      rw [List.filter_eq_self.mpr (fun _ _ => rfl)] at lf
      refine (ev_allD (K := K) lf) H10 B10.h _ fun HZ eZ => ?_
      rw [show ((eitherOf F G).2.map fun lot : List Str => decide (lot ∈ F.2) || decide (lot ∈ G.2)).all id = true from by
        rw [List.all_map, List.all_eq_true]
        intro l hl
        have := ((either_min T.f T.g).mem l).mp hl
        have m := List.mem_append.mp this.1
        show (decide (l ∈ F.2) || decide (l ∈ G.2)) = true
        rw [Bool.or_eq_true, decide_eq_true_eq, decide_eq_true_eq]
        exact m]
      exact q HZ (((B6.e.trans e).trans B10.e).trans eZ)
end
end K07
/-! text W26 -/
set_option Elab.async false
set_option linter.all false
set_option maxRecDepth 100000
set_option maxHeartbeats 2000000
/-! list(zip(xs, ys)) -/
namespace Kz
open PySem
open Sem (wp)
abbrev IsZipF (h : Heap) (z TI TO : Addr) (T : Addr) (f : Bool) : Prop :=
  h.get? z = some { cls := .type "zip", dict := none, data := .fields #[rawInt T, .bool f, .bool false, .ref TI, .ref TO], slots := #[] }
section
variable {prog : Program} {w : World} {A : Around} {E : Value → Shared → Prop} {s : Shared}
theorem free_out {z TI TO T : Addr} {f : Bool} {oT : Obj} {Q : Bool → Shared → Prop} (hz : IsZipF s.heap z TI TO T f) (hT : s.heap.get? T = some oT)
    (h : ∀ h', IsZipF h' z TI TO T true → Heap.SameBut z s.heap h' → Q false { s with heap := h' }) : wpAny (model prog w) A (Builtin.SmallTypes.ownedTupleIsFree (.ref z)) Q E s := by
  unfold Builtin.SmallTypes.ownedTupleIsFree
  refine wpAny_bind (wpAny_field hz rfl (x := rawInt T) rfl ?_)
  show wpAny _ _ (loadIfAlive ((T : Int).toNat) >>= _) _ _ _
  rw [Int.toNat_natCast]
  refine wpAny_bind (W.kdx_alive hT ?_)
  simp only [Option.isNone_some, Bool.false_eq_true, if_false]
  refine wpAny_bind (wpAny_field hz rfl (x := .bool f) rfl ?_)
  cases f with
  | true =>
    rw [if_neg (show ¬ ((Value.bool true != Value.bool true) = true) from Bool.false_ne_true)]
    exact wpAny_pure (h _ hz (Heap.SameBut.refl _ _))
  | false =>
    rw [if_pos (show (Value.bool false != Value.bool true) = true from rfl)]
    exact wpAny_bind (wpAny_setField_rec hz (by simp) fun h₃ he₃ hs₃ => wpAny_pure (h _ he₃ hs₃))
theorem next_out {z TI TO i1 i2 l1 l2 T : Addr} {f : Bool} {oT : Obj} {k1 k2 : Nat} {xs ys : Array Value} {x y : Value} {Q : Value → Shared → Prop} (D : ZipApart z TI TO i1 i2 l1 l2)
    (hz : IsZipF s.heap z TI TO T f) (hT : s.heap.get? T = some oT) (hTI : IsPair s.heap TI (.ref i1) (.ref i2))
    (h1 : s.heap.IsListIter i1 l1 k1) (h2 : s.heap.IsListIter i2 l2 k2) (hl1 : s.heap.IsList l1 xs) (hl2 : s.heap.IsList l2 ys) (hx : xs[k1]? = some x) (hy : ys[k2]? = some y)
    (hQ : ∀ h', IsZipF h' z TI TO T true → h'.IsListIter i1 l1 (k1 + 1) → h'.IsListIter i2 l2 (k2 + 1) → IsPair h' s.heap.objs.size x y → h'.objs.size = s.heap.objs.size + 1 →
      (∀ c o, c ≠ z → c ≠ i1 → c ≠ i2 → s.heap.get? c = some o → h'.get? c = some o) → Q (.ref s.heap.objs.size) { s with heap := h' }) :
    wpAny (model prog w) A (Builtin.«zip.__next__» ⟨[.ref z], []⟩) (fun fin s' => ∃ v, fin = .done (.ret v) ∧ Q v s') E s := by
  show wpAny _ _ (field (.ref z) 2 >>= _) _ _ _
  refine wpAny_bind (wpAny_field hz rfl (x := .bool false) rfl ?_)
  show wpAny _ _ (field (.ref z) 3 >>= _) _ _ _
  refine wpAny_bind (wpAny_field hz rfl (x := .ref TI) rfl ?_)
  refine wpAny_bind (wpAny_seqItems hTI rfl ?_)
  show wpAny _ _ (Builtin.SmallTypes.ownedTupleIsFree (.ref z) >>= _) _ _ _
  refine wpAny_bind (free_out hz hT fun h₁ hz₁ hs₁ => ?_)
  simp only [Bool.false_eq_true, if_false, List.forIn_toArray, List.forIn_cons, List.forIn_nil]
  refine wpAny_bind (wpAny_bind (wpAny_bind (wpAny_holding ?_)))
  show wpAny _ _ (Builtin.SmallTypes.nextOf (.ref i1) >>= _) _ _ _
  refine wpAny_bind (wpAny_nextOf_list_item (h1.extBut hs₁.extBut D.i1z) (hl1.extBut hs₁.extBut D.l1z) hx fun h₂ h1₂ hs₂ => wpAny_pure (wpAny_pure ?_))
  refine wpAny_bind (wpAny_bind (wpAny_holding ?_))
  show wpAny _ _ (Builtin.SmallTypes.nextOf (.ref i2) >>= _) _ _ _
  refine wpAny_bind (wpAny_nextOf_list_item ((h2.extBut hs₁.extBut D.i2z).extBut hs₂.extBut D.i12.symm) ((hl2.extBut hs₁.extBut D.l2z).extBut hs₂.extBut D.l2i1) hy fun h₄ h2₄ hs₄ => wpAny_pure (wpAny_pure (wpAny_pure ?_)))
  have hsz : h₄.objs.size = s.heap.objs.size := by rw [hs₄.1, hs₂.1, hs₁.1]
  refine wpAny_bind (wpAny_newTuple ?_ (by show 2 ≤ sizeLine; decide))
  refine wpAny_pure ⟨_, rfl, ?_⟩
  have hz₄ : IsZipF h₄ z TI TO T true := hs₄.extBut _ _ D.i2z.symm (hs₂.extBut _ _ D.i1z.symm hz₁)
  have h1₄ : h₄.IsListIter i1 l1 (k1 + 1) := h1₂.extBut hs₄.extBut D.i12
  show Q (.ref h₄.objs.size) _
  have e5 : (h₄.push { cls := .type "tuple", data := .seq #[x, y] }).get? h₄.objs.size = some { cls := .type "tuple", data := .seq #[x, y] } := Heap.get?_push_size _ rfl
  rw [hsz] at e5 ⊢
  exact hQ _ (Heap.get?_push_of_some _ hz₄) (h1₄.at fun o e => Heap.get?_push_of_some _ e) (h2₄.at fun o e => Heap.get?_push_of_some _ e) e5 (by rw [Heap.size_push, hsz]) fun c o c1 c2 c3 e => Heap.get?_push_of_some _ (hs₄.extBut _ _ c3 (hs₂.extBut _ _ c2 (hs₁.extBut _ _ c1 e)))
theorem end_out {z TI TO i1 i2 l1 l2 T : Addr} {f : Bool} {oT : Obj} {k1 : Nat} {xs : Array Value} {Q : Fin → Shared → Prop} (hh : A.handled = none) (D : ZipApart z TI TO i1 i2 l1 l2)
    (hz : IsZipF s.heap z TI TO T f) (hT : s.heap.get? T = some oT) (hTI : IsPair s.heap TI (.ref i1) (.ref i2))
    (h1 : s.heap.IsListIter i1 l1 k1) (hl1 : s.heap.IsList l1 xs) (hend : xs[k1]? = none)
    (hE : ∀ h' e, (∀ c o, c ≠ z → c ≠ i1 → s.heap.get? c = some o → h'.get? c = some o) → (∃ o, h'.get? e = some o ∧ o.cls = .type "StopIteration") → E (.ref e) { s with heap := h' }) :
    wpAny (model prog w) A (Builtin.«zip.__next__» ⟨[.ref z], []⟩) Q E s := by
  show wpAny _ _ (field (.ref z) 2 >>= _) _ _ _
  refine wpAny_bind (wpAny_field hz rfl (x := .bool false) rfl ?_)
  show wpAny _ _ (field (.ref z) 3 >>= _) _ _ _
  refine wpAny_bind (wpAny_field hz rfl (x := .ref TI) rfl ?_)
  refine wpAny_bind (wpAny_seqItems hTI rfl ?_)
  show wpAny _ _ (Builtin.SmallTypes.ownedTupleIsFree (.ref z) >>= _) _ _ _
  refine wpAny_bind (free_out hz hT fun h₁ hz₁ hs₁ => ?_)
  simp only [Bool.false_eq_true, if_false, List.forIn_toArray, List.forIn_cons, List.forIn_nil]
  refine wpAny_bind (wpAny_bind (wpAny_bind (wpAny_holding ?_)))
  show wpAny _ _ (Builtin.SmallTypes.nextOf (.ref i1) >>= _) _ _ _
  exact wpAny_bind (wpAny_nextOf_list_end hh (h1.extBut hs₁.extBut D.i1z) (hl1.extBut hs₁.extBut D.l1z) hend fun h₂ e hs₂ he => hE h₂ e (fun c o c1 c2 x => hs₂ _ _ c2 (hs₁.extBut _ _ c1 x)) he)
theorem pyNext_out {z TI TO i1 i2 l1 l2 T : Addr} {f : Bool} {oT : Obj} {k1 k2 : Nat} {xs ys : Array Value} {x y : Value} {Q : Option Value → Shared → Prop} (D : ZipApart z TI TO i1 i2 l1 l2)
    (hz : IsZipF s.heap z TI TO T f) (hT : s.heap.get? T = some oT) (hTI : IsPair s.heap TI (.ref i1) (.ref i2))
    (h1 : s.heap.IsListIter i1 l1 k1) (h2 : s.heap.IsListIter i2 l2 k2) (hl1 : s.heap.IsList l1 xs) (hl2 : s.heap.IsList l2 ys) (hx : xs[k1]? = some x) (hy : ys[k2]? = some y)
    (hQ : ∀ h', IsZipF h' z TI TO T true → h'.IsListIter i1 l1 (k1 + 1) → h'.IsListIter i2 l2 (k2 + 1) → IsPair h' s.heap.objs.size x y → h'.objs.size = s.heap.objs.size + 1 →
      (∀ c o, c ≠ z → c ≠ i1 → c ≠ i2 → s.heap.get? c = some o → h'.get? c = some o) → Q (some (.ref s.heap.objs.size)) { s with heap := h' }) :
    wpAny (model prog w) A (pyNext (.ref z)) Q E s := by
  have hTy : s.TypeIs (.ref z) "zip" := ⟨_, hz, rfl⟩
  unfold pyNext
  exact wpAny_bind (wpAny_attempt (wpAny_callSpecial?_slot (name := Str.ofString "__next__") hTy F.slot_zip_next
    (wpAny_call_entry F.slot_zip_next hTy F.entry_zip_next
      (next_out D hz hT hTI h1 h2 hl1 hl2 hx hy fun h' a1 a2 a3 a4 a5 a6 => wpAny_pure (hQ h' a1 a2 a3 a4 a5 a6)) (F.args_zip_next_1 _))))
theorem pyNext_end_out {z TI TO i1 i2 l1 l2 T : Addr} {f : Bool} {oT : Obj} {k1 : Nat} {xs : Array Value} {Q : Option Value → Shared → Prop} (hh : A.handled = none) (D : ZipApart z TI TO i1 i2 l1 l2)
    (hz : IsZipF s.heap z TI TO T f) (hT : s.heap.get? T = some oT) (hTI : IsPair s.heap TI (.ref i1) (.ref i2))
    (h1 : s.heap.IsListIter i1 l1 k1) (hl1 : s.heap.IsList l1 xs) (hend : xs[k1]? = none)
    (hQ : ∀ h', (∀ c o, c ≠ z → c ≠ i1 → s.heap.get? c = some o → h'.get? c = some o) → Q none { s with heap := h' }) : wpAny (model prog w) A (pyNext (.ref z)) Q E s := by
  have hTy : s.TypeIs (.ref z) "zip" := ⟨_, hz, rfl⟩
  unfold pyNext
  refine wpAny_bind (wpAny_attempt (wpAny_callSpecial?_slot (name := Str.ofString "__next__") hTy F.slot_zip_next
    (wpAny_call_entry F.slot_zip_next hTy F.entry_zip_next (end_out hh D hz hT hTI h1 hl1 hend fun h' e hk he => ?_) (F.args_zip_next_1 _))))
  obtain ⟨o, ho, hc⟩ := he
  refine wpAny_bind (wpAny_isInstance (T := "StopIteration") (b := true) ⟨o, ho, hc⟩ isSubtype_stop ?_)
  exact wpAny_pure (hQ _ hk)
end
/-- zip(xs, ys) at z, behind i turns whose tuples are kept; S: the list that gathers -/
def ZSt (h : Heap) (z TI TO i1 i2 l1 l2 S : Addr) (i : Nat) : Prop :=
  IsPair h TI (.ref i1) (.ref i2) ∧ (∃ a b, IsPair h TO a b) ∧ h.IsListIter i1 l1 i ∧ h.IsListIter i2 l2 i ∧ (IsZip h z TI TO .none ∨ ∃ T f oT, IsZipF h z TI TO T f ∧ h.get? T = some oT ∧ T ≠ z ∧ T ≠ i1 ∧ T ≠ i2 ∧ T ≠ S)
structure Off (z TI TO i1 i2 S : Addr) : Prop where
  a : z ≠ S
  b : TI ≠ S
  c : TO ≠ S
  d : i1 ≠ S
  e : i2 ≠ S
theorem ZSt.keep {h h' : Heap} {z TI TO i1 i2 l1 l2 S : Addr} {i : Nat} (x : ZSt h z TI TO i1 i2 l1 l2 S i) (O : Off z TI TO i1 i2 S) (hk : ∀ b o, b ≠ S → h.get? b = some o → h'.get? b = some o) : ZSt h' z TI TO i1 i2 l1 l2 S i := by
  obtain ⟨h1, ⟨a, b, h2⟩, h3, h4, h5⟩ := x
  refine ⟨hk _ _ O.b h1, ⟨a, b, hk _ _ O.c h2⟩, h3.at fun o e => hk _ o O.d e, h4.at fun o e => hk _ o O.e e, ?_⟩
  rcases h5 with h5 | ⟨T, f, oT, q1, q2, q3, q4, q5, q6⟩
  · exact .inl (hk _ _ O.a h5)
  · exact .inr ⟨T, f, oT, hk _ _ O.a q1, hk _ _ q6 q2, q3, q4, q5, q6⟩
section
variable {prog : Program} {w : World} {A : Around} {E : Value → Shared → Prop} {s : Shared} {z TI TO i1 i2 l1 l2 S : Addr} {xs ys : Array Value}
theorem kz_item {i : Nat} {x y : Value} {Q : Option Value → Shared → Prop} (D : ZipApart z TI TO i1 i2 l1 l2) (hst : ZSt s.heap z TI TO i1 i2 l1 l2 S i) (hS : S < s.heap.objs.size) (hl1 : s.heap.IsList l1 xs) (hl2 : s.heap.IsList l2 ys) (hx : xs[i]? = some x) (hy : ys[i]? = some y)
    (hQ : ∀ h', ZSt h' z TI TO i1 i2 l1 l2 S (i + 1) → IsPair h' s.heap.objs.size x y → h'.objs.size = s.heap.objs.size + 1 → (∀ b o, b ≠ z → b ≠ TO → b ≠ i1 → b ≠ i2 → s.heap.get? b = some o → h'.get? b = some o) → Q (some (.ref s.heap.objs.size)) { s with heap := h' }) :
    wpAny (model prog w) A (pyNext (.ref z)) Q E s := by
  obtain ⟨h1, ⟨a, b, h2⟩, h3, h4, h5⟩ := hst
  have n1 : s.heap.objs.size ≠ i1 := by obtain ⟨_, e, _⟩ := h3; exact Nat.ne_of_gt (Heap.lt_size e)
  have n2 : s.heap.objs.size ≠ i2 := by obtain ⟨_, e, _⟩ := h4; exact Nat.ne_of_gt (Heap.lt_size e)
  rcases h5 with h5 | ⟨T, f, oT, q1, q2, q3, q4, q5, q6⟩
  · exact wpAny_pyNext_zip_item D h5 h1 h2 h3 h4 hl1 hl2 hx hy fun h' a1 a2 a3 a4 a5 a6 a7 => hQ h' ⟨a7 _ _ D.TIz D.TITO D.TIi1 D.TIi2 h1, ⟨x, y, a2⟩, a3, a4, .inr ⟨_, false, _, a1, a5, Nat.ne_of_gt (Heap.lt_size h5), n1, n2, Nat.ne_of_gt hS⟩⟩ a5 a6 a7
  · exact pyNext_out D q1 q2 h1 h3 h4 hl1 hl2 hx hy fun h' a1 a3 a4 a5 a6 a7 => hQ h' ⟨a7 _ _ D.TIz D.TIi1 D.TIi2 h1, ⟨a, b, a7 _ _ D.TOz D.TOi1 D.TOi2 h2⟩, a3, a4, .inr ⟨T, true, oT, a1, a7 _ _ q3 q4 q5 q2, q3, q4, q5, q6⟩⟩ a5 a6 fun b o c1 _ c3 c4 e => a7 b o c1 c3 c4 e
theorem kz_done {i : Nat} {Q : Option Value → Shared → Prop} (hh : A.handled = none) (D : ZipApart z TI TO i1 i2 l1 l2) (hst : ZSt s.heap z TI TO i1 i2 l1 l2 S i) (hl1 : s.heap.IsList l1 xs) (hl2 : s.heap.IsList l2 ys) (hx : xs[i]? = none)
    (hQ : ∀ h', (∀ b o, b ≠ z → b ≠ TO → b ≠ i1 → b ≠ i2 → s.heap.get? b = some o → h'.get? b = some o) → Q none { s with heap := h' }) : wpAny (model prog w) A (pyNext (.ref z)) Q E s := by
  obtain ⟨h1, ⟨a, b, h2⟩, h3, h4, h5⟩ := hst
  rcases h5 with h5 | ⟨T, f, oT, q1, q2, q3, q4, q5, q6⟩
  · exact wpAny_pyNext_zip_end hh D h5 h1 h2 h3 h4 hl1 hl2 (.inl hx) hQ
  · exact pyNext_end_out hh D q1 q2 h1 h3 hl1 hx fun h' k => hQ h' fun b o c1 _ c3 _ e => k b o c1 c3 e
/-- the pairs laid: their addresses rise -/
structure KzG (xs ys : Array Value) (lo : Addr) (h : Heap) (as : List Addr) : Prop where
  rise : as.Pairwise (· < ·)
  above : ∀ a ∈ as, lo < a
  pairs : ∀ (j : Nat) (a : Addr), as[j]? = some a → ∃ x y, xs[j]? = some x ∧ ys[j]? = some y ∧ h.get? a = some { cls := .type "tuple", data := .seq #[x, y] }
theorem KzG.there {lo : Addr} {h : Heap} {as : List Addr} (g : KzG xs ys lo h as) {a : Addr} (ha : a ∈ as) : a < h.objs.size := by
  obtain ⟨j, hj⟩ := List.mem_iff_getElem?.mp ha
  obtain ⟨_, _, _, _, e⟩ := g.pairs j a hj
  exact Heap.lt_size e
theorem kz_loop {R : Result → Shared → Prop} (hh : A.handled = none) (D : ZipApart z TI TO i1 i2 l1 l2) (O : Off z TI TO i1 i2 S) (hzS : z < S) (hOS : TO < S) (h1S : i1 < S) (h2S : i2 < S) (hl1S : l1 ≠ S) (hl2S : l2 ≠ S) (hll : xs.size = ys.size) (hn : xs.size ≤ sizeLine) (res : Value) {h₁ : Heap}
    (hR : ∀ h' tk acc c as, (∀ b o, b ≠ S → b ≠ z → b ≠ TO → b ≠ i1 → b ≠ i2 → h₁.get? b = some o → h'.get? b = some o) → h'.get? S = some { cls := .type "list", dict := none, data := .seq acc c, slots := #[] } → as.length = xs.size → KzG xs ys S h' as →
      acc.toList = as.map Value.ref → R (.ok (.ret res)) { s with heap := h', toks := tk }) :
    ∀ (k i : Nat) (h : Heap) (tk c : Nat) (acc : Array Value) (as : List Addr), xs.size - i = k → i ≤ xs.size → ZSt h z TI TO i1 i2 l1 l2 S i → h.IsList l1 xs → h.IsList l2 ys → (∀ b o, b ≠ S → b ≠ z → b ≠ TO → b ≠ i1 → b ≠ i2 → h₁.get? b = some o → h.get? b = some o) →
      h.get? S = some { cls := .type "list", dict := none, data := .seq acc c, slots := #[] } → acc.toList = as.map Value.ref → as.length = i → KzG xs ys S h as →
      codeAny (model prog w) A (.builtin "list.extend.loop" ⟨[.ref S, .ref z, res], []⟩) R { s with heap := h, toks := tk } := by
  have nS : ∀ {b : Addr}, S < b → b ≠ z ∧ b ≠ TO ∧ b ≠ i1 ∧ b ≠ i2 := fun hb => ⟨Nat.ne_of_gt (Nat.lt_trans hzS hb), Nat.ne_of_gt (Nat.lt_trans hOS hb), Nat.ne_of_gt (Nat.lt_trans h1S hb), Nat.ne_of_gt (Nat.lt_trans h2S hb)⟩
  intro k
  induction k with
  | zero =>
    intro i h tk c acc as hk hi hst hL1 hL2 hkeep hS hacc hal hG
    have hin : i = xs.size := by omega
    refine codeAny_builtin PySem.F.entry_extend_loop ?_
    rw [Around.under_plainId PySem.F.plain_extend_loop _]
    show wpAny _ A.in1 (pyNext (.ref z) >>= _) _ _ _
    refine wpAny_bind (kz_done (s := { s with heap := h, toks := tk }) (A := A.in1) hh D hst hL1 hL2 (Array.getElem?_eq_none (by omega)) fun h' he => ?_)
    refine wpAny_pure (hR h' tk acc c as (fun b o h1 h2 h3 h4 h5 e => he b o h2 h3 h4 h5 (hkeep b o h1 h2 h3 h4 h5 e)) (he S _ O.a.symm O.c.symm O.d.symm O.e.symm hS) (by omega) ⟨hG.rise, hG.above, fun j a hj => ?_⟩ hacc)
    obtain ⟨x, y, e1, e2, e3⟩ := hG.pairs j a hj
    obtain ⟨n1, n2, n3, n4⟩ := nS (hG.above a (List.mem_of_getElem? hj))
    exact ⟨x, y, e1, e2, he a _ n1 n2 n3 n4 e3⟩
  | succ k ih =>
    intro i h tk c acc as hk hi hst hL1 hL2 hkeep hS hacc hal hG
    have hlt : i < xs.size := by omega
    obtain ⟨x, hx⟩ : ∃ p, xs[i]? = some p := ⟨xs[i], Array.getElem?_eq_getElem hlt⟩
    obtain ⟨y, hy⟩ : ∃ p, ys[i]? = some p := ⟨ys[i], Array.getElem?_eq_getElem (by omega)⟩
    have hsz : acc.size = i := by rw [← Array.length_toList, hacc, List.length_map, hal]
    refine codeAny_builtin PySem.F.entry_extend_loop ?_
    rw [Around.under_plainId PySem.F.plain_extend_loop _]
    show wpAny _ A.in1 (pyNext (.ref z) >>= _) _ _ _
    refine wpAny_bind (kz_item (s := { s with heap := h, toks := tk }) (S := S) D hst (Heap.lt_size hS) hL1 hL2 hx hy fun h' hst' ht hz hkp => ?_)
    dsimp only at ht hz hkp ⊢
    have hS' := hkp S _ O.a.symm O.c.symm O.d.symm O.e.symm hS
    have up : ∀ b o, b ≠ S → h'.get? b = some o → (h'.update S (Obj.mapSeq (·.push (Value.ref h.objs.size)))).get? b = some o := fun b o hb e => (Heap.get?_update_other _ _ (Ne.symm hb)).trans e
    have hSl : S < h.objs.size := Heap.lt_size hS
    show wpAny _ A.in1 (updateSeq S (·.push (Value.ref h.objs.size)) >>= _) _ _ _
    refine wpAny_bind ?_
    refine wpAny_updateSeq hS' rfl (wpAny_pure ⟨plainId_quiet PySem.F.plain_extend_loop _, ih (i + 1) _ tk _ (acc.push (Value.ref h.objs.size)) (as ++ [h.objs.size]) (by omega) hlt (hst'.keep O up) (hL1.at fun o e => up _ o hl1S (hkp _ o D.l1z D.l1TO D.l1i1 D.l1i2 e)) (hL2.at fun o e => up _ o hl2S (hkp _ o D.l2z D.l2TO D.l2i1 D.l2i2 e))
      (fun b o h1 h2 h3 h4 h5 e => up b o h1 (hkp b o h2 h3 h4 h5 (hkeep b o h1 h2 h3 h4 h5 e))) (Heap.get?_update_self _ hS' rfl) (by rw [Array.toList_push, hacc, List.map_append]; rfl) (by rw [List.length_append, hal]; rfl) ⟨?_, ?_, ?_⟩⟩) (by rw [hsz]; omega) (by show (acc.push (Value.ref h.objs.size)).size ≤ sizeLine + 1; rw [Array.size_push, hsz]; omega)
    · refine List.pairwise_append.mpr ⟨hG.rise, List.pairwise_singleton _ _, fun a ha b hb => ?_⟩
      rw [List.mem_singleton.mp hb]
      exact hG.there ha
    · intro a ha
      rcases List.mem_append.mp ha with ha | ha
      · exact hG.above a ha
      · rw [List.mem_singleton.mp ha]; exact hSl
    · intro j b hj
      rcases Nat.lt_trichotomy j as.length with h1 | h1 | h1
      · rw [List.getElem?_append_left h1] at hj
        obtain ⟨x', y', e1, e2, e3⟩ := hG.pairs j b hj
        have hb := hG.above b (List.mem_of_getElem? hj)
        obtain ⟨n1, n2, n3, n4⟩ := nS hb
        exact ⟨x', y', e1, e2, up b _ (Nat.ne_of_gt hb) (hkp b _ n1 n2 n3 n4 e3)⟩
      · subst h1
        have hb : h.objs.size = b := by simpa using hj
        subst hb
        exact ⟨x, y, by rw [hal]; exact hx, by rw [hal]; exact hy, up _ _ (Nat.ne_of_gt hSl) ht⟩
      · have hnone : (as ++ [h.objs.size])[j]? = none := List.getElem?_eq_none (by rw [List.length_append, List.length_singleton]; omega)
        rw [hnone] at hj; cases hj
end
theorem no_len : typeLookup (.type "zip") "__len__" = pure none := by rw [typeLookup_type, builtinLookup_eq_fast]; kernel_rfl
theorem no_hint : typeLookup (.type "zip") "__length_hint__" = pure none := by rw [typeLookup_type, builtinLookup_eq_fast]; kernel_rfl
section
variable {prog : Program} {w : World} {A : Around} {E : Value → Shared → Prop} {s : Shared} {z TI TO i1 i2 l1 l2 S : Addr} {xs ys : Array Value}
theorem kz_extend {R : Result → Shared → Prop} (hh : A.handled = none) (D : ZipApart z TI TO i1 i2 l1 l2) (hz : IsZip s.heap z TI TO .none) (hTI : IsPair s.heap TI (.ref i1) (.ref i2)) {a0 b0 : Value} (hTO : IsPair s.heap TO a0 b0) (h1 : s.heap.IsListIter i1 l1 0) (h2 : s.heap.IsListIter i2 l2 0)
    (hL1 : s.heap.IsList l1 xs) (hL2 : s.heap.IsList l2 ys) (O : Off z TI TO i1 i2 S) (hzS : z < S) (hOS : TO < S) (h1S : i1 < S) (h2S : i2 < S) (hl1S : l1 ≠ S) (hl2S : l2 ≠ S) (hll : xs.size = ys.size) (hn : xs.size ≤ sizeLine) (res : Value) (c₀ : Nat) (hS : s.heap.get? S = some { cls := .type "list", data := .seq #[] c₀ })
    (hR : ∀ h' tk acc c as, (∀ b o, b ≠ S → b ≠ z → b ≠ TO → b ≠ i1 → b ≠ i2 → s.heap.get? b = some o → h'.get? b = some o) → h'.get? S = some { cls := .type "list", dict := none, data := .seq acc c, slots := #[] } → as.length = xs.size → KzG xs ys S h' as →
      acc.toList = as.map Value.ref → R (.ok (.ret res)) { s with heap := h', toks := tk }) :
    wpAny (model prog w) A.in1 (Builtin.List.listExtendWith (.ref S) (.ref z) res)
      (fun fin s' => match fin with | .done f => R (.ok f) s' | .again c' => c'.quiet = true ∧ codeAny (model prog w) A c' R s') (fun e s' => R (.error e) s') s := by
  have hT : s.TypeIs (.ref z) "zip" := ⟨_, hz, rfl⟩
  unfold Builtin.List.listExtendWith
  refine wpAny_bind (wpAny_typeOf hT ?_)
  have q1 : Builtin.List.listSameRef (.ref S) (.ref z) = false := by simp [Builtin.List.listSameRef, O.a.symm]
  have q2 : (Value.type "zip" == Value.type "list") = false := by decide
  have q3 : (Value.type "zip" == Value.type "tuple") = false := by decide
  simp only [q1, q2, q3, Bool.or_false, Bool.false_eq_true, if_false]
  refine wpAny_bind (wpAny_pyIter_zip hz ?_)
  refine wpAny_bind (wpAny_holding ?_)
  unfold Builtin.List.listLengthHint
  refine wpAny_bind (wpAny_specialOf hT no_len ?_)
  show wpAny _ A.in1 (specialOf (Value.ref z) (Str.ofString "__length_hint__") >>= _) _ _ _
  refine wpAny_bind (wpAny_specialOf hT no_hint ?_)
  refine wpAny_pure ?_
  show wpAny _ A.in1 (rule "list.extend.makes-room" >>= fun _ => Builtin.List.listTouch (.ref S) >>= fun _ =>
    again (.builtin "list.extend.loop" ⟨[.ref S, .ref z, res], []⟩)) _ _ _
  refine wpAny_bind (wpAny_rule ?_)
  refine wpAny_bind ?_
  show wpAny _ A.in1 (updateSeq S (·.push .none) >>= fun _ => updateSeq S (·.pop)) _ _ _
  refine wpAny_bind (wpAny_updateSeq hS rfl ?_)
  have hS₂ := Heap.get?_update_self (Obj.mapSeq (·.push Value.none)) hS rfl
  refine wpAny_updateSeq (hz := by seq_fits) hS₂ rfl ?_
  have hS₃ := Heap.get?_update_self (Obj.mapSeq (·.pop)) hS₂ rfl
  have oth : ∀ b o, b ≠ S → s.heap.get? b = some o → ((s.heap.update S (Obj.mapSeq (·.push Value.none))).update S (Obj.mapSeq (·.pop))).get? b = some o :=
    fun b o hb e => (Heap.get?_update_other _ _ (Ne.symm hb)).trans ((Heap.get?_update_other _ _ (Ne.symm hb)).trans e)
  refine wpAny_pure ⟨plainId_quiet PySem.F.plain_extend_loop _, kz_loop (s := s) (h₁ := s.heap) hh D O hzS hOS h1S h2S hl1S hl2S hll hn res hR xs.size 0 _ s.toks _ #[] [] (Nat.sub_zero _) (Nat.zero_le _) (ZSt.keep ⟨hTI, ⟨a0, b0, hTO⟩, h1, h2, .inl hz⟩ O oth) (hL1.at fun o e => oth _ o hl1S e) (hL2.at fun o e => oth _ o hl2S e) (fun b o hb _ _ _ _ e => oth b o hb e) hS₃ rfl rfl
    ⟨List.Pairwise.nil, (fun _ ha => nomatch ha), (fun j a hj => by simp at hj)⟩⟩
/-- list(zip(..)), the zip being new -/
theorem kz_call {Q : Value → Shared → Prop} (hh : A.handled = none) (D : ZipApart z TI TO i1 i2 l1 l2) (hz : IsZip s.heap z TI TO .none) (hTI : IsPair s.heap TI (.ref i1) (.ref i2)) {a0 b0 : Value} (hTO : IsPair s.heap TO a0 b0) (h1 : s.heap.IsListIter i1 l1 0) (h2 : s.heap.IsListIter i2 l2 0)
    (hL1 : s.heap.IsList l1 xs) (hL2 : s.heap.IsList l2 ys) (hll : xs.size = ys.size) (hn : xs.size ≤ sizeLine)
    (hQ : ∀ h' tk acc c as, (∀ b o, b ≠ z → b ≠ TO → b ≠ i1 → b ≠ i2 → s.heap.get? b = some o → h'.get? b = some o) → h'.get? s.heap.objs.size = some { cls := .type "list", dict := none, data := .seq acc c, slots := #[] } → as.length = xs.size → KzG xs ys s.heap.objs.size h' as →
      acc.toList = as.map Value.ref → Q (.ref s.heap.objs.size) { s with heap := h', toks := tk }) :
    wpAny (model prog w) A (call (.type "list") [.ref z]) Q E s := by
  refine callType_codes (Q₁ := fun obj s₁ => obj = .ref s.heap.objs.size ∧ s₁ = { s with heap := s.heap.push { cls := .type "list", data := .seq #[] } }) PySem.F.called_list (PySem.F.typeCall_list_1 _) PySem.F.entry_list_init
    (code_list_new _ ⟨rfl, rfl⟩) fun obj s₁ h₁ => ?_
  obtain ⟨rfl, rfl⟩ := h₁
  have hS : (s.heap.push { cls := .type "list", data := .seq #[] }).get? s.heap.objs.size = some { cls := .type "list", data := .seq #[] } := Heap.get?_push_size _ rfl
  refine ⟨⟨_, hS, rfl⟩, PySem.F.args_list_init_2 _ _, ?_⟩
  generalize hSd : s.heap.objs.size = S at *
  have pu : ∀ b o, s.heap.get? b = some o → (s.heap.push { cls := .type "list", data := .seq #[] }).get? b = some o := fun b o e => Heap.get?_push_of_some _ e
  show wpAny _ _ (do let old ← Builtin.List.listItems (.ref S); Builtin.List.listUpdate (.ref S) (fun _ => #[]); letGo old.toList.reverse; Builtin.List.listExtendWith (.ref S) (.ref z) .none) _ _ _
  refine wpAny_bind ?_
  unfold Builtin.List.listItems
  refine wpAny_bind (wpAny_seqItems hS rfl (wpAny_pure ?_))
  show wpAny _ _ (updateSeq S (fun _ => #[]) >>= fun _ => letGo (#[] : Array Value).toList.reverse >>= fun _ => Builtin.List.listExtendWith (.ref S) (.ref z) .none) _ _ _
  refine wpAny_bind (wpAny_updateSeq hS rfl ?_)
  have hS₂ := Heap.get?_update_self (Obj.mapSeq (fun _ => (#[] : Array Value))) hS rfl
  have lz : z < S := by rw [← hSd]; exact Heap.lt_size hz
  have lTI : TI < S := by rw [← hSd]; exact Heap.lt_size hTI
  have lTO : TO < S := by rw [← hSd]; exact Heap.lt_size hTO
  have li1 : i1 < S := by rw [← hSd]; obtain ⟨_, e, _⟩ := h1; exact Heap.lt_size e
  have li2 : i2 < S := by rw [← hSd]; obtain ⟨_, e, _⟩ := h2; exact Heap.lt_size e
  have ll1 : l1 < S := by rw [← hSd]; obtain ⟨_, e, _⟩ := hL1; exact Heap.lt_size e
  have ll2 : l2 < S := by rw [← hSd]; obtain ⟨_, e, _⟩ := hL2; exact Heap.lt_size e
  have oth : ∀ b o, b ≠ S → s.heap.get? b = some o → ((s.heap.push { cls := .type "list", data := .seq #[] }).update S (Obj.mapSeq (fun _ => (#[] : Array Value)))).get? b = some o :=
    fun b o hb e => (Heap.get?_update_other _ _ (Ne.symm hb)).trans (pu b o e)
  refine wpAny_bind (wpAny_letGo ?_)
  refine kz_extend (prog := prog) (w := w) (A := A.in1) (R := wants (fun r s₂ => r = .none ∧ Q (.ref S) s₂) E) (s := { s with heap := (s.heap.push { cls := .type "list", data := .seq #[] }).update S (Obj.mapSeq (fun _ => (#[] : Array Value))) }) hh D (oth _ _ (Nat.ne_of_lt lz) hz) (oth _ _ (Nat.ne_of_lt lTI) hTI) (oth _ _ (Nat.ne_of_lt lTO) hTO) (h1.at fun o e => oth _ o (Nat.ne_of_lt li1) e) (h2.at fun o e => oth _ o (Nat.ne_of_lt li2) e) (hL1.at fun o e => oth _ o (Nat.ne_of_lt ll1) e) (hL2.at fun o e => oth _ o (Nat.ne_of_lt ll2) e)
    ⟨Nat.ne_of_lt lz, Nat.ne_of_lt lTI, Nat.ne_of_lt lTO, Nat.ne_of_lt li1, Nat.ne_of_lt li2⟩ lz lTO li1 li2 (Nat.ne_of_lt ll1) (Nat.ne_of_lt ll2) hll hn .none _ hS₂ fun h' tk acc c as hk hS' hl hG hacc => ?_
  exact ⟨rfl, hQ h' tk acc c as (fun b o n1 n2 n3 n4 e => hk b o (by rw [← hSd]; exact Nat.ne_of_lt (Heap.lt_size e)) n1 n2 n3 n4 (oth b o (by rw [← hSd]; exact Nat.ne_of_lt (Heap.lt_size e)) e)) hS' hl hG hacc⟩
end
end Kz
/-! text W27 -/
set_option Elab.async false
set_option linter.all false
set_option maxRecDepth 100000
set_option maxHeartbeats 2000000
/-! list(zip(xs, ys)) as a word -/
namespace Dw
open PySem PySem.Spec PyProof.Rows L2 Evl PySem.W DV
def rListZip (K : PySem.W.Frag) : List V → Hp → VK → Prop := fun vs H Q => ∃ (a b : Addr) (xs ys : List V), vs = [.ref a, .ref b] ∧ SqL K H a xs ∧ SqL K H b ys ∧ xs.length = ys.length ∧
  ∀ (H' : Hp) (p : Addr) (ts : List Addr), Ex H H' → H p = none → (∀ t ∈ ts, H t = none) → H' p = some (.lst (ts.map V.ref)) → ts.length = xs.length → (∀ (j : Nat) (t : Addr) (x y : V), ts[j]? = some t → xs[j]? = some x → ys[j]? = some y → H' t = some (.tup [x, y])) → Q (.ref p) H'
def tListZip (K : PySem.W.Frag) (ta : TA) : TE := fun σ H Q => ta σ H fun vs H1 => rListZip K vs H1 Q
section
variable {X : Cx} {e e2 : Expr} {ta : TA} {p p2 zpos pos : Pos}
theorem vals_refs2 : ∀ as : List Addr, Vals (as.map V.ref) (as.map Value.ref)
  | [] => .nil
  | _ :: as => .cons rfl (vals_refs2 as)
theorem pe_listZip (hc : X.calm = true) (ha : PA X [e, e2] ta) (hg : Gl X "list") (hm : X.mg "list" = none) (hgz : Gl X "zip") (hmz : X.mg "zip" = none)
    (hs : starEach [.Call (.Name "zip" p2) [e, e2] [] zpos] X.env = (false, eval (.Call (.Name "zip" p2) [e, e2] [] zpos) X.env) :: starEach [] X.env := by rfl)
    (hs2 : starEach [e, e2] X.env = (false, eval e X.env) :: starEach [e2] X.env := by rfl) (hpl : (backTo zpos (starEach [e2] X.env)).any (·.1) = false := by rfl) :
    PE X (.Call (.Name "list" p) [.Call (.Name "zip" p2) [e, e2] [] zpos] [] pos) (tListZip X.K ta) := by
  refine ⟨fun pins s σ H Q I hq => ?_⟩
  refine wpAny_Call_Name_kw (ld_blt I hg hm (show bootBuiltins "list" = some (.type "list") from by decide +kernel) ?_)
  refine PyProof.Rows.callWith_type1 ?_ hs rfl
  rw [hs]
  show wpAny _ _ (spliced ((false, eval (.Call (.Name "zip" p2) [e, e2] [] zpos) X.env) :: backTo pos (starEach [] X.env))) _ _ s
  refine Calls.spliced_cons ?_
  refine Call_ (ld_blt I hgz hmz PyProof.Rows.boot_zip (PyProof.Rows.callWith_type1 (thn (ha.run zpos pins s σ H _ I hq) fun us s1 ⟨vs, H1, I1, r1, q1⟩ => ?_) hs2 hpl))
  obtain ⟨a, b, xs, ys, ex, hqx, hqy, hll, q⟩ := q1
  subst ex
  cases r1 with
  | cons r rr =>
    cases rr with
    | cons r' rr =>
      cases rr
      cases r
      cases r'
      obtain ⟨its, rv, p1, hz1⟩ := I1.list hqx
      obtain ⟨its2, rv2, pp2, _⟩ := I1.list hqy
      have la : a < s1.heap.objs.size := p1.lt
      have lb : b < s1.heap.objs.size := pp2.lt
      have lx : xs.length = its.length := Paired.length rv
      have ly : ys.length = its2.length := Paired.length rv2
      refine call_zip_2 p1.isList pp2.isList fun h' hz hTI hTO h1 h2 hsz hk => ?_
      refine Calls.spliced_nil ?_
      have ne : ∀ (b : Addr) (o : Obj) (n : Nat), s1.heap.get? b = some o → b ≠ s1.heap.objs.size + n := fun b o n e => Nat.ne_of_lt (Nat.lt_of_lt_of_le (Heap.lt_size e) (Nat.le_add_right _ _))
      refine Kz.kz_call (s := { s1 with heap := h' }) (xs := its.toArray) (ys := its2.toArray) (I1.ok.hd hc) (PySem.W.ktu_apart s1.heap.objs.size a b la lb) hz hTI hTO h1 h2 (p1.isList.at fun o e => hk _ o e) (pp2.isList.at fun o e => hk _ o e) (by simp; omega) (by simp; omega) fun h'' tk acc c as hk2 hS hl hG hacc => ?_
      have keep : ∀ b o, s1.heap.get? b = some o → h''.get? b = some o := fun b o e => hk2 b o (ne b o 4 e) (ne b o 3 e) (ne b o 0 e) (ne b o 1 e) (hk b o e)
      have big : s1.heap.objs.size ≤ h'.objs.size := by rw [hsz]; exact Nat.le_add_right _ _
      have al : as.length = xs.length := by rw [hl]; simp; omega
      have I3 : Inv X pins σ H1 { s1 with heap := h'', toks := tk } := I1.kept keep
      have ab : ∀ t ∈ as, s1.heap.objs.size ≤ t := fun t ht => Nat.le_trans big (Nat.le_of_lt (hG.above t ht))
      have nd : as.Nodup := List.Pairwise.imp (fun {a b} (h : a < b) => Nat.ne_of_lt h) hG.rise
      have fS : H1 h'.objs.size = none := I1.hok.fresh big
      have I5 : Inv X pins σ (upd H1 h'.objs.size (.lst (as.map V.ref))) { s1 with heap := h'', toks := tk } := I3.take (h' := h'') (t' := tk) (fun b ob _ e => e) (I1.fpOk (H' := H1) big fS) (show ObjOk X.prog X.w _ _ _ (.lst (as.map V.ref)) from ⟨by rw [List.length_map]; omega, acc.toList, c, by rw [hacc]; exact vals_refs2 as, by rw [Array.toArray_toList]; exact hS⟩)
      obtain ⟨H2, I4, x2, at2⟩ := L2.DX.takeT (P := fun t vs => ∀ (j : Nat) (x y : V), as[j]? = some t → xs[j]? = some x → ys[j]? = some y → vs = [x, y]) I1 as _ I5 nd fun t ht => by
        obtain ⟨j, hj⟩ := List.mem_iff_getElem?.mp ht
        obtain ⟨u1, u2, e1, e2', e3⟩ := hG.pairs j t hj
        have jl : j < xs.length := by
          have := (List.getElem?_eq_some_iff.mp hj).1
          omega
        have hx : xs[j]? = some xs[j] := List.getElem?_eq_getElem jl
        have hy : ys[j]? = some (ys[j]'(by omega)) := List.getElem?_eq_getElem (by omega)
        obtain ⟨v1, g1, k1⟩ := rv.get hx
        obtain ⟨v2, g2, k2⟩ := rv2.get hy
        have g1' : u1 = v1 := by
          have : its[j]? = some u1 := by simpa using e1
          rw [g1] at this
          exact (Option.some.inj this).symm
        have g2' : u2 = v2 := by
          have : its2[j]? = some u2 := by simpa using e2'
          rw [g2] at this
          exact (Option.some.inj this).symm
        subst g1' g2'
        refine ⟨ab t ht, by rw [upd_ne (fun z => Nat.lt_irrefl _ (by have := hG.above t ht; rw [z] at this; exact this))]; exact I1.hok.fresh (ab t ht), [xs[j], ys[j]'(by omega)], fun j' x y h1 h2 h3 => ?_, fun H2 => ⟨by show 2 ≤ sizeLine; decide, [u1, u2], .cons k1 (.cons k2 .nil), ⟨_, e3, rfl, _, rfl⟩⟩⟩
        have ej : j' = j := by
          have l1 := (List.getElem?_eq_some_iff.mp h1)
          have l2 := (List.getElem?_eq_some_iff.mp hj)
          obtain ⟨b1, c1⟩ := l1
          obtain ⟨b2, c2⟩ := l2
          rcases Nat.lt_trichotomy j' j with h | h | h
          · exact absurd (c1.trans c2.symm) (List.pairwise_iff_getElem.mp nd j' j b1 b2 h)
          · exact h
          · exact absurd (c2.trans c1.symm) (List.pairwise_iff_getElem.mp nd j j' b2 b1 h)
        subst ej
        rw [hx] at h2
        rw [hy] at h3
        cases h2
        cases h3
        rfl
      refine ⟨.ref _, H2, I4, rfl, q _ _ as ((Ex.new fS).trans x2) fS (fun t ht => I1.hok.fresh (ab t ht)) (x2 _ _ upd_same) al fun j t x y h1 h2 h3 => ?_⟩
      obtain ⟨vs, w1, w2⟩ := at2 t (List.mem_of_getElem? h1)
      rw [w2, w1 j x y h1 h2 h3]
end
end Dw
/-! text W28 -/
set_option Elab.async false
set_option linter.all false
set_option maxRecDepth 100000
set_option maxHeartbeats 2000000
/-! what a reading evaluates to, of any kind (dicts, lists of unlike things) -/
namespace K07
open PySem PySem.Spec PyProof.Rows L2 Evl PySem.W Dw Dw.DV RZ StX Lot LmV LamX NdefX
/-- te goes on with something that is so -/
def EvR (te : TE) (σ : L2.St) (A : Hp) (R : Hp → V → Prop) : Prop := ∀ H1, Ex A H1 → ∀ Q : VK, (∀ v H2 Hs, Ex H1 H2 → Sup A H1 H2 Hs → R Hs v → Q v H2) → te σ H1 Q
def EvRA (ta : TA) (σ : L2.St) (A : Hp) (R : Hp → List V → Prop) : Prop := ∀ H1, Ex A H1 → ∀ Q : List V → Hp → Prop, (∀ vs H2 Hs, Ex H1 H2 → Sup A H1 H2 Hs → R Hs vs → Q vs H2) → ta σ H1 Q
def Mon {β : Type} (R : Hp → β → Prop) : Prop := ∀ H H' v, Ex H H' → R H v → R H' v
/-- a list, its things being so -/
def LR (R : Hp → List V → Prop) : Hp → V → Prop := fun H v => ∃ p vs, v = .ref p ∧ H p = some (.lst vs) ∧ R H vs
/-- a dict -/
def DkR (kvs : List (Key × V)) : Hp → V → Prop := fun H v => ∃ d, v = .ref d ∧ H d = some (.dK kvs)
def ConsR (R1 : Hp → V → Prop) (R2 : Hp → List V → Prop) : Hp → List V → Prop := fun H vs => ∃ v r, vs = v :: r ∧ R1 H v ∧ R2 H r
def NilR : Hp → List V → Prop := fun _ vs => vs = []
theorem lr_mon {R : Hp → List V → Prop} (m : Mon R) : Mon (LR R) := fun H H' v e ⟨p, vs, h1, h2, h3⟩ => ⟨p, vs, h1, e _ _ h2, m _ _ _ e h3⟩
theorem dk_mon {kvs : List (Key × V)} : Mon (DkR kvs) := fun H H' v e ⟨d, h1, h2⟩ => ⟨d, h1, e _ _ h2⟩
theorem cons_mon {R1 : Hp → V → Prop} {R2 : Hp → List V → Prop} (m1 : Mon R1) (m2 : Mon R2) : Mon (ConsR R1 R2) := fun H H' v e ⟨a, r, h1, h2, h3⟩ => ⟨a, r, h1, m1 _ _ _ e h2, m2 _ _ _ e h3⟩
theorem nil_mon : Mon NilR := fun _ _ _ _ h => h
theorem rep_mon {α : Type} [DecidableEq α] [Datum α] [DV α] {x : α} : Mon fun H v => rep H v x := fun _ _ _ e h => DV.ext e h
section
variable {α β : Type} [DecidableEq α] [Datum α] [DV α] [DecidableEq β] [Datum β] [DV β] {K : PySem.W.Frag} {σ : L2.St} {H A A0 H0 : Hp} {te ta tb tn td : TE} {tr : TA} {D : Ends} {R1 R2 : Hp → V → Prop} {L1 L2 : Hp → List V → Prop} {Pt : Addr}
theorem er_of {x : α} (h : EvD te σ A x) : EvR te σ A fun H v => rep H v x := h
theorem er_varR {i : Nat} {v : V} (h : σ[i]? = some (some v)) (r : R1 A v) : EvR (tVar i) σ A R1 := fun H1 e _ q => ⟨v, h, q v H1 A (Ex.refl H1) ⟨e, fun b u z => .inl z⟩ r⟩
theorem era_nil : EvRA tNil σ A NilR := fun H1 _ _ q => q [] H1 _ (Ex.refl H1) sup0 rfl
theorem era_cons (h : EvR te σ A R1) (hr : EvRA tr σ A L2) (m1 : Mon R1) (m2 : Mon L2) : EvRA (tCons te tr) σ A (ConsR R1 L2) := fun H1 e Q q =>
  h H1 e _ fun v H2 B e2 s r => hr H2 (e.trans e2) _ fun vs H3 C e3 t rs => q (v :: vs) H3 (jn B C) (e2.trans e3) (s.join e e2 e3 t) ⟨v, vs, rfl, m1 _ _ _ jn_l r, m2 _ _ _ (jn_r (s.e.trans e3) t.e) rs⟩
theorem er_lst (h : EvRA tr σ A L1) (hl : ∀ H vs, L1 H vs → vs.length ≤ 100000) (m : Mon L1) : EvR (tLst tr) σ A (LR L1) := fun H1 e Q q => h H1 e _ fun vs H2 B e2 s r => by
  refine ⟨sz_of (hl _ _ r), fun p np => ?_⟩
  exact q _ _ (upd B p (.lst vs)) (e2.trans (Ex.new np)) (sup_new e2 s np) ⟨p, vs, rfl, upd_same, m _ _ _ (Ex.new (sup_no s np)) r⟩
theorem er_copied {d : Nat} {E : XK} (h : EvR te σ A R1) (tw : ∀ H v, R1 H v → Tw H H d v v) (cp : ∀ H H' v u, R1 H v → Tw H H' d v u → R2 H' u) : EvR (tCall (spC d) [] E (tCons te tNil)) σ A R2 := fun H1 e Q q => h H1 e _ fun v H2 Hs e2 s r =>
  ⟨v, Hs, rfl, s.e, tw _ _ r, fun u H' Hs' e3 s1 s2 t => q u H' Hs' (e2.trans e3) ⟨s1, fun b o z => .inr (exf e2 (s2 b o z))⟩ (cp _ _ _ _ r t)⟩
theorem ev_sameR {d : Nat} {E : XK} (ha : EvR ta σ A R1) (hb : EvR tb σ A R2) (m1 : Mon R1) (m2 : Mon R2) (tw : ∀ H v u, R1 H v → R2 H u → Tw H H d v u) : Ev (tCall (spS d) [] E (tCons ta (tCons tb tNil))) σ A (.bl true) := fun H1 e1 Q q => ha H1 e1 _ fun v H2 B e2 s r => hb H2 (e1.trans e2) _ fun u H3 C e3 t r2 =>
  ⟨v, u, rfl, tw _ _ _ (m1 _ _ _ (s.e.trans e3) r) (m2 _ _ _ t.e r2), fun H' e4 => q H' ((e2.trans e3).trans e4)⟩
theorem er_cat (ha : EvR ta σ A (LR L1)) (hb : EvR tb σ A (LR L2)) (m1 : Mon L1) (m2 : Mon L2) (hl1 : ∀ H vs, L1 H vs → vs.length ≤ 1000) (hl2 : ∀ H vs, L2 H vs → vs.length ≤ 1000) : EvR (tOp rCat ta tb) σ A (LR fun H vs => ∃ xs ys, vs = xs ++ ys ∧ L1 H xs ∧ L2 H ys) := fun H1 e Q q => ha H1 e _ fun v H2 B e2 s r => hb H2 (e.trans e2) _ fun u H3 C e3 t r' => by
  obtain ⟨a, xs, rfl, g1, g2⟩ := r
  obtain ⟨b, ys, rfl, k1, k2⟩ := r'
  have sj := s.join e e2 e3 t
  have z1 := hl1 _ _ g2
  have z2 := hl2 _ _ k2
  refine ⟨a, b, xs, ys, rfl, rfl, e3 _ _ (s.e _ _ g1), t.e _ _ k1, sz_of (by omega), fun p np => ?_⟩
  have en : Ex (jn B C) (upd (jn B C) p (.lst (xs ++ ys))) := Ex.new (sup_no sj np)
  exact q _ _ _ ((e2.trans e3).trans (Ex.new np)) (sup_new (e2.trans e3) sj np) ⟨p, xs ++ ys, rfl, upd_same, xs, ys, rfl, m1 _ _ _ (jn_l.trans en) g2, m2 _ _ _ ((jn_r (s.e.trans e3) t.e).trans en) k2⟩
theorem er_counts {F : FamT} {E : XK} (h : EvD te σ A F) (hP : GoodF goodName F ∧ F.2.length ≤ 60) : EvR (tCall spCounts [] E (tCons te tNil)) σ A (DkR (countsKV F.2)) := fun H1 e Q q => h H1 e _ fun v H2 B e2 s r =>
  ⟨v, F, B, rfl, s.e, r, hP, fun d H' e3 nd hd => q _ H' (upd (fun _ => none) d (.dK (countsKV F.2))) (e2.trans e3) ⟨(by
    intro b o z
    by_cases y : b = d
    · rw [y, upd_same] at z
      rw [y, hd]
      exact z
    · rw [upd_ne y] at z
      cases z), (by
    intro b o z
    by_cases y : b = d
    · rw [y]
      exact .inr (exf e2 nd)
    · rw [upd_ne y] at z
      cases z)⟩ ⟨d, rfl, upd_same⟩⟩
theorem ed_ren {F : FamT} {E : XK} {ps : List (Str × Str)} (h : EvD te σ A F) (h' : EvR td σ A (DkR (kvsOf ps))) (M : Nmg F ps) : EvD (tCall spRen [] E (tCons te (tCons td tNil))) σ A (renOf F ps) := fun H1 e Q q => h H1 e _ fun v H2 B e2 s r => h' H2 (e.trans e2) _ fun u H3 C e3 t r' => by
  obtain ⟨d, rfl, hd⟩ := r'
  have sj := s.join e e2 e3 t
  exact ⟨v, d, F, ps, jn B C, rfl, sj.e, DV.ext jn_l r, jn_r (s.e.trans e3) t.e _ _ hd, M, fun z H4 Hs e4 w r4 => q z H4 Hs ((e2.trans e3).trans e4) (sj.deep (e2.trans e3) w) r4⟩
theorem ed_fall {F : FamT} {x : Str} {CN : Addr} (h : EvD te σ A F) (h' : EvD tn σ A x) (O : One F x) (hn : fall x F.2 ≠ []) : EvD (tCall (spFall CN) [] E0 (tCons te (tCons tn tNil))) σ A ((drop1 x F.1, fall x F.2) : FamT) := fun H1 e Q q => h H1 e _ fun v H2 B e2 s r => h' H2 (e.trans e2) _ fun u H3 C e3 t r' => by
  have sj := s.join e e2 e3 t
  exact ⟨v, u, F, x, jn B C, rfl, sj.e, DV.ext jn_l r, DV.ext (jn_r (s.e.trans e3) t.e) r', O, fun z => absurd z hn, fun _ z H4 Hs e4 w r4 => q z H4 Hs ((e2.trans e3).trans e4) (sj.deep (e2.trans e3) w) r4⟩
theorem ed_trust {F : FamT} {x : Str} {CN : Addr} (R : Rdy Pt lmQ lmPos A) (h : EvD te σ A F) (h' : EvD tn σ A x) (O : One F x) (hn : ¬ [] ∈ trust x F.2) : EvD (tCall (spTrust Pt CN) [] E0 (tCons te (tCons tn tNil))) σ A ((drop1 x F.1, leastOf (trust x F.2)) : FamT) := fun H1 e Q q => h H1 e _ fun v H2 B e2 s r => h' H2 (e.trans e2) _ fun u H3 C e3 t r' => by
  have sj := s.join e e2 e3 t
  have eA : Ex A H3 := (e.trans e2).trans e3
  exact ⟨v, u, F, x, jn A (jn B C), rfl, jn_ex eA sj.e, DV.ext (jn_l.trans (jn_r eA sj.e)) r, DV.ext ((jn_r (s.e.trans e3) t.e).trans (jn_r eA sj.e)) r', O, fun z => absurd z hn, fun _ => .inl ⟨R.ext jn_l, fun z H4 Hs e4 w r4 => q z H4 Hs ((e2.trans e3).trans e4) ⟨w.e, fun b o z => by
    rcases w.o b o z with y | y
    · rcases jn_of y with w | w
      · exact .inl w
      · exact sj.o b o w
    · exact .inr (exf (e2.trans e3) y)⟩ r4⟩⟩
/-! ### statements -/
theorem b_asgR {i : Nat} {tz : TS} (B : Bs A0 H0 A H) (h : EvR te σ A R1) (m : Mon R1) (k : ∀ v A' H1, Bs A0 H0 A' H1 → Ex A A' → R1 A' v → tz D (σ.set i (some v)) H1) : tSeq (tAsg te (gName i)) tz D σ H := h H B.h _ fun v H1 Hs e s r => k v (jn A Hs) H1 (B.go e s) jn_l (m _ _ _ (jn_r (B.h.trans e) s.e) r)
theorem b_lstR {i : Nat} {tz : TS} (B : Bs A0 H0 A H) (h : EvRA tr σ A L1) (hl : ∀ H vs, L1 H vs → vs.length ≤ 100000) (m : Mon L1) (k : ∀ vs d A' H1, Bs A0 H0 A' H1 → Ex A A' → A' d = none → H0 d = none → H1 d = some (.lst vs) → L1 A' vs → tz D (σ.set i (some (.ref d))) H1) : tSeq (tAsg (tLst tr) (gName i)) tz D σ H := h H B.h _ fun vs H1 Hs e s r => by
  refine ⟨sz_of (hl _ _ r), fun d nd => ?_⟩
  have B1 := B.go e s
  exact k vs d (jn A Hs) _ (B1.mono (Ex.new nd)) jn_l (fresh_back B1.h nd) (fresh_back B1.e nd) upd_same (m _ _ _ (jn_r (B.h.trans e) s.e) r)
end
end K07
/-! text P10 -/
set_option Elab.async false
set_option linter.all false
set_option maxRecDepth 100000
set_option maxHeartbeats 2000000
/-! renamed families; a keeper more: plain -/
namespace K07
open PySem PySem.Spec PyProof.Rows L2 Evl PySem.W Dw Dw.DV Lot
def strB (i : Int) : Str := ("b" : Str) ++ (toString i : Str)
def nameB (n : Nat) : List Str := (List.range n).map fun (i : Nat) => strB (0 + (i : Int))
theorem nameB_ok : ∀ n, n < 9 → ((nameB n).Nodup ∧ ((nameB n).all goodName) = true) := by decide +kernel
theorem nameB_len (n : Nat) : (nameB n).length = n := by unfold nameB; rw [List.length_map, List.length_range]
theorem inj_of_nodup {α β : Type} {f : α → β} : ∀ {l : List α}, (l.map f).Nodup → ∀ a ∈ l, ∀ b ∈ l, f a = f b → a = b
  | [], _, a, ha, _, _, _ => by cases ha
  | x :: l, h, a, ha, b, hb, e => by
    rw [List.map_cons, List.nodup_cons] at h
    rcases List.mem_cons.mp ha with rfl | ha
    · rcases List.mem_cons.mp hb with rfl | hb
      · rfl
      · exact absurd (List.mem_map.mpr ⟨b, hb, e.symm⟩) h.1
    · rcases List.mem_cons.mp hb with y | hb
      · rw [y] at e
        exact absurd (List.mem_map.mpr ⟨a, ha, e⟩) h.1
      · exact inj_of_nodup h.2 a ha b hb e
theorem nodup_map {α β : Type} {f : α → β} {l : List α} (n : l.Nodup) (i : ∀ a ∈ l, ∀ b ∈ l, f a = f b → a = b) : (l.map f).Nodup :=
  List.pairwise_map.mpr (List.Pairwise.imp_of_mem (fun {a b} ha hb h e => h (i a ha b hb e)) n)
theorem look_mem {ps : List (Str × Str)} {k : Str} (h : k ∈ ps.map (·.1)) : (k, look ps k) ∈ ps := by
  have e := look_in h
  unfold lookO at e
  cases z : ps.find? fun p => decide (p.1 = k) with
  | none =>
    rw [z] at e
    cases e
  | some p =>
    rw [z] at e
    have e0 : (fun p : Str × Str => decide (p.1 = k)) p = true := List.find?_some (p := fun p : Str × Str => decide (p.1 = k)) z
    have e1 : p.1 = k := of_decide_eq_true e0
    have e2 : p.2 = look ps k := Option.some.inj e
    rw [← e2, ← e1]
    exact List.mem_of_find?_eq_some z
theorem look_inj {ps : List (Str × Str)} (n : (ps.map (·.2)).Nodup) : InjOn (look ps) (ps.map (·.1)) := fun a ha b hb e => by
  have := inj_of_nodup n _ (look_mem ha) _ (look_mem hb) e
  exact congrArg Prod.fst this
section
variable {ks : List Str} {n m : Nat} {F G : FamT} {ps : List (Str × Str)}
theorem renL_of {l : List Str} (i : InjOn (look ps) ks) (hs : l ⊆ ks) (ha : Asc sl l) : RenL sl (look ps) l (srt (l.map (look ps))) :=
  ⟨srt_ascS (nodup_map (ha.nodup sl_tot) fun a ha b hb e => i a (hs ha) b (hs hb) e), fun b => by rw [srt_mem, List.mem_map]⟩
theorem ren_of (h : Sm ks n F) (i : InjOn (look ps) ks) : Ren sl (look ps) F.2 (renOf F ps).2 := by
  have r : ∀ l ∈ F.2, RenL sl (look ps) l (srt (l.map (look ps))) := fun l m => renL_of i (h.lot l m).sub (h.lot l m).asc
  refine ⟨ll_asc.mp (srt_asc ll_tot (nodup_map (h.g.asc.nodup (lex_tot sl_tot)) fun a ha b hb e => ?_)), fun x hx => ⟨_, srt_mem.mpr (List.mem_map.mpr ⟨x, hx, rfl⟩), r x hx⟩, fun y hy => ?_⟩
  · have e' : srt (a.map (look ps)) = srt (b.map (look ps)) := e
    have s1 := ((r a ha).sub i (h.lot a ha).sub (h.lot b hb).sub (r b hb)).mp (by rw [e']; exact List.Subset.refl _)
    have s2 := ((r b hb).sub i (h.lot b hb).sub (h.lot a ha).sub (r a ha)).mp (by rw [e']; exact List.Subset.refl _)
    exact asc_anti sl_tot (h.lot a ha).asc (h.lot b hb).asc s1 s2
  · obtain ⟨x, hx, rfl⟩ := List.mem_map.mp (srt_mem.mp hy)
    exact ⟨x, hx, r x hx⟩
theorem ren_sm (h : Sm ks n F) (M : Nmg F ps) : Sm (srt (ps.map (·.2))) n (renOf F ps) := by
  have kk : ps.map (·.1) = ks := M.k.trans h.k
  have i : InjOn (look ps) ks := kk ▸ look_inj M.n
  have r := ren_of h i
  have fam := r.fam sl_tot i (fun a m => (h.lot a m).sub) h.g.fam
  have lk : ps.length = ks.length := by rw [← kk, List.length_map]
  refine ⟨rfl, ⟨⟨fun z => ?_, fun x hx => ?_, srt_ascS M.n, ?_⟩, fun z => ?_, ?_, fun y hy => ⟨fam.full y hy, fam.lots y hy, fun b hb => ?_⟩, r.asc, fam.anti⟩, ?_⟩
  · have l0 : (srt (ps.map (·.2))).length = 0 := by
      have z' : srt (ps.map (·.2)) = [] := z
      rw [z']
      rfl
    rw [srt_len, List.length_map, lk] at l0
    exact h.gk.ne (List.eq_nil_of_length_eq_zero l0)
  · obtain ⟨p, hp, rfl⟩ := List.mem_map.mp (srt_mem.mp hx)
    exact M.v p hp
  · show (srt (ps.map (·.2))).length ≤ 100
    rw [srt_len, List.length_map, lk]
    exact h.gk.len
  · have l0 : (srt (F.2.map fun l => srt (l.map (look ps)))).length = 0 := by
      have z' : srt (F.2.map fun l => srt (l.map (look ps))) = [] := z
      rw [z']
      rfl
    rw [srt_len, List.length_map] at l0
    exact h.g.ne (List.eq_nil_of_length_eq_zero l0)
  · show (srt (F.2.map fun l => srt (l.map (look ps)))).length ≤ 1000
    rw [srt_len, List.length_map]
    exact h.g.len
  · obtain ⟨x, hx, q⟩ := r.of y hy
    obtain ⟨a, ha, rfl⟩ := (q.mem b).mp hb
    show look ps a ∈ srt (ps.map (·.2))
    exact srt_mem.mpr (List.mem_map.mpr ⟨_, look_mem (by rw [kk]; exact (h.lot x hx).sub ha), rfl⟩)
  · show (srt (F.2.map fun l => srt (l.map (look ps)))).length ≤ n
    rw [srt_len, List.length_map]
    exact h.l
theorem ren_bothOf (h : Sm ks n F) (h' : Sm ks m G) (hnm : n * m ≤ 1000) (M : Nmg F ps) (M' : Nmg G ps) : bothOf (renOf F ps) (renOf G ps) = renOf (bothOf F G) ps := by
  have kk : ps.map (·.1) = ks := M.k.trans h.k
  have i : InjOn (look ps) ks := kk ▸ look_inj M.n
  exact Prod.ext (both_k (ren_sm h M) (ren_sm h' M')) (ren_both sl_tot i (fun a m => (h.lot a m).sub) (fun a m => (h'.lot a m).sub) (ren_of h i) (ren_of h' i) (bl_cup F.2 G.2) (both_min F G) (bl_cup _ _) (both_min _ _) (ren_of (both_sm h h' hnm) i))
theorem nmg_zip (h : Sm ks n F) (l8 : ks.length ≤ 8) {ys : List Str} (p : ys.Perm (nameB ks.length)) : Nmg F (ks.zip ys) := by
  obtain ⟨o1, o2⟩ := nameB_ok ks.length (by omega)
  have ly : ys.length = ks.length := p.length_eq.trans (nameB_len _)
  refine ⟨h.g, ?_, fun q hq => ?_, ?_, by rw [h.k]; omega⟩
  · rw [List.map_fst_zip (by omega), h.k]
  · have m : q.2 ∈ ys := (List.of_mem_zip hq).2
    exact List.all_eq_true.mp o2 _ (p.mem_iff.mp m)
  · rw [List.map_snd_zip (by omega)]
    exact p.nodup_iff.mpr o1
/-- a keeper more, in no lot -/
abbrev zz : Str := "zz9"
def moreOf (F : FamT) : FamT := (srt (F.1 ++ [zz]), F.2)
theorem zz_not (hs : ks ⊆ nameL) : zz ∉ ks := fun m => (by decide +kernel : zz ∉ nameL) (hs m)
theorem more_sm (h : Sm ks n F) (hs : ks ⊆ nameL) (l8 : ks.length ≤ 8) : GoodF goodName (moreOf F) := by
  have nd : (ks ++ [zz]).Nodup := List.nodup_append.mpr ⟨h.gk.asc.nodup sl_tot, by simp, fun a ha b hb => by
    rw [List.mem_singleton.mp hb]
    exact fun e => zz_not hs (by rw [← e]; exact ha)⟩
  refine ⟨⟨fun z => ?_, fun x hx => ?_, ?_, ?_⟩, h.g.ne, h.g.len, fun l m => ⟨(h.g.lots l m).ne, (h.g.lots l m).asc, fun x hx => ?_⟩, h.g.asc, h.g.anti⟩
  · have z' : srt (F.1 ++ [zz]) = [] := z
    have l0 : (srt (F.1 ++ [zz])).length = 0 := by
      rw [z']
      rfl
    rw [srt_len, List.length_append] at l0
    simp at l0
  · have hx' : x ∈ F.1 ++ [zz] := srt_mem.mp hx
    rw [h.k] at hx'
    rcases List.mem_append.mp hx' with y | y
    · exact h.gk.all x y
    · rw [List.mem_singleton.mp y]
      decide +kernel
  · show Asc sl (srt (F.1 ++ [zz]))
    rw [h.k]
    exact srt_ascS nd
  · show (srt (F.1 ++ [zz])).length ≤ 100
    rw [srt_len, List.length_append, h.k]
    simp
    omega
  · exact srt_mem.mpr (List.mem_append_left _ ((h.g.lots l m).sub hx))
theorem more_one (h : Sm ks n F) (hs : ks ⊆ nameL) (l8 : ks.length ≤ 8) (l2 : 2 ≤ ks.length) : One (moreOf F) zz := ⟨more_sm h hs l8, srt_mem.mpr (List.mem_append_right _ List.mem_cons_self), by
  show (srt (F.1 ++ [zz])).length ≠ 1
  rw [srt_len, List.length_append, h.k]
  show ks.length + 1 ≠ 1
  omega⟩
theorem drop_self {x : Str} {l : List Str} (h : x ∉ l) : drop1 x l = l := List.filter_eq_self.mpr fun a ha => by
  have : a ≠ x := fun e => h (by rw [← e]; exact ha)
  simpa using this
theorem more_drop (h : Sm ks n F) (hs : ks ⊆ nameL) : drop1 zz (moreOf F).1 = F.1 := by
  rw [h.k]
  have nd : (ks ++ [zz]).Nodup := List.nodup_append.mpr ⟨h.gk.asc.nodup sl_tot, by simp, fun a ha b hb => by
    rw [List.mem_singleton.mp hb]
    exact fun e => zz_not hs (by rw [← e]; exact ha)⟩
  show drop1 zz (srt (F.1 ++ [zz])) = ks
  rw [h.k]
  refine asc_ext sl_tot (asc_drop1 (srt_ascS nd)) h.gk.asc fun x => ?_
  rw [mem_drop1, srt_mem, List.mem_append, List.mem_singleton]
  constructor
  · rintro ⟨y | y, e⟩
    · exact y
    · exact absurd y e
  · exact fun y => ⟨.inl y, fun e => zz_not hs (by rw [← e]; exact y)⟩
theorem zz_lot (h : Sm ks n F) (hs : ks ⊆ nameL) {l : List Str} (m : l ∈ F.2) : zz ∉ l := fun y => zz_not hs ((h.lot l m).sub y)
theorem more_fall (h : Sm ks n F) (hs : ks ⊆ nameL) : fall zz (moreOf F).2 = F.2 := List.filter_eq_self.mpr fun l m => by
  have := zz_lot h hs m
  simpa using this
theorem more_trust (h : Sm ks n F) (hs : ks ⊆ nameL) : trust zz (moreOf F).2 = F.2 := by
  show F.2.map (fun l => drop1 zz l) = F.2
  have : ∀ l ∈ F.2, drop1 zz l = l := fun l m => drop_self (zz_lot h hs m)
  exact (List.map_congr_left this).trans (List.map_id' _)
theorem more_least (h : Sm ks n F) : leastOf F.2 = F.2 := (least_min h.asc).uniq sl_tot h.g.fam.min fun _ => Iff.rfl
end
end K07
/-! text D29 -/
set_option Elab.async false
set_option linter.all false
set_option maxRecDepth 100000
set_option maxHeartbeats 8000000
/-! whether renamed both is both renamed; with a keeper more in no lot nothing else is told -/
namespace K07
open PySem PySem.Spec PyProof.Rows L2 Evl PySem.W Dw Dw.DV RZ StX Lot LmV LamX NdefX XvE
/-- the facts of this def -/
structure Ns (K : PySem.W.Frag) (mg : Str → Option Value) (fMi fRe fSc fAp fMe : Addr) (dMi dRe dSc dAp dMe : FuncData) : Prop where
  MI : Df K mg "_law_mixed" 43 fMi dMi
  RE : Df K mg "renamed_family" 34 fRe dRe
  SC : Df K mg "size_counts" 25 fSc dSc
  AP : Df K mg "apart_pairs" 23 fAp dAp
  ME : Df K mg "meet" 17 fMe dMe
theorem str_ok : ∀ i : Nat, i < 9 → ((0 + (i : Int)).natAbs.log2 < 1920 ∧ ("b" : Str).length + (toString (0 + (i : Int)) : Str).length ≤ sizeLine) := by decide +kernel
theorem paired_of {α β : Type} {F : α → β → Prop} : ∀ {l : List α} {m : List β}, l.length = m.length → (∀ (i : Nat) (a : α) (b : β), l[i]? = some a → m[i]? = some b → F a b) → Paired F l m
  | [], [], _, _ => .nil
  | [], _ :: _, h, _ => by cases h
  | _ :: _, [], h, _ => by cases h
  | a :: l, b :: m, h, k => .cons (k 0 a b rfl rfl) (paired_of (Nat.succ.inj h) fun i x y h1 h2 => k (i + 1) x y h1 h2)
structure DkOk (kvs : List (Key × V)) : Prop where
  l : kvs.length ≤ 1000
  n : (kvs.map (·.1)).Nodup
  a : ∀ p ∈ kvs, atomV p.2 = true
theorem dk_tw {kvs : List (Key × V)} {d : Nat} (hd : 3 ≤ d) (O : DkOk kvs) {H H' : Hp} {v u : V} (h : DkR kvs H v) (h' : DkR kvs H' u) : Tw H H' (d + 1) v u := by
  obtain ⟨a, rfl, h1⟩ := h
  obtain ⟨b, rfl, h2⟩ := h'
  exact .inr (.inr (.inr ⟨a, b, kvs, rfl, rfl, h1, h2, O.l, hd, O.n, O.a⟩))
theorem dk_cp {kvs : List (Key × V)} {d : Nat} {H H' : Hp} {v u : V} (h : DkR kvs H v) (t : Tw H H' d v u) : DkR kvs H' u := by
  obtain ⟨a, rfl, h1⟩ := h
  cases d with
  | zero => exact t.elim
  | succ d =>
    rcases t with ⟨_, t⟩ | ⟨a', b, xs, ys, e1, rfl, e3, _⟩ | ⟨a', b, xs, ys, e1, rfl, e3, _⟩ | ⟨a', b, kvs', e1, rfl, e3, e4, _⟩
    · cases t
    all_goals
      cases e1
      rw [h1] at e3
      cases e3
    exact ⟨b, rfl, e4⟩
theorem lst_cp {L : Hp → List V → Prop} {d : Nat} {H H' : Hp} {v u : V} (h : LR L H v) (t : Tw H H' (d + 1) v u) : ∃ a b xs ys, v = .ref a ∧ u = .ref b ∧ L H xs ∧ H' b = some (.lst ys) ∧ Paired (Tw H H' d) xs ys := by
  obtain ⟨a, vs, rfl, h1, h2⟩ := h
  rcases t with ⟨_, t⟩ | ⟨a', b, xs, ys, e1, rfl, e3, e4, _, e5⟩ | ⟨a', b, xs, ys, e1, rfl, e3, _⟩ | ⟨a', b, kvs', e1, rfl, e3, e4, _⟩
  · cases t
  all_goals
    cases e1
    rw [h1] at e3
    cases e3
  exact ⟨_, b, vs, ys, rfl, rfl, h2, e4, e5⟩
theorem kvs_ok {ps : List (Str × Str)} (h : (ps.map (·.1)).Nodup) (l : ps.length ≤ 1000) : DkOk (kvsOf ps) := ⟨by unfold kvsOf; rw [List.length_map]; exact l, by
  unfold kvsOf
  rw [List.map_map]
  exact nodup_map (l := ps) (f := fun p => (Sum.inr p.1 : Key)) ((List.pairwise_map.mp h).imp fun {a b} z e => z (by rw [e])) fun a ha b hb e => by
    have e' : a.1 = b.1 := Sum.inr.inj e
    exact inj_of_nodup h a ha b hb e', fun p hp => by
  obtain ⟨q, _, rfl⟩ := List.mem_map.mp hp
  rfl⟩
theorem counts_ok {L : List (List Str)} (h : L.length ≤ 60) : DkOk (countsKV L) := ⟨by
  unfold countsKV
  rw [List.length_map, srt_len]
  have := once_len (sizesOf L)
  have : (sizesOf L).length = L.length := by unfold sizesOf; rw [srt_len, List.length_map]
  omega, counts_nodup L, fun p hp => by
  obtain ⟨q, _, rfl⟩ := List.mem_map.mp hp
  rfl⟩
theorem upd_ex {A H : Hp} {p : Addr} {o : HO} (e : Ex A H) : Ex (upd A p o) (upd H p o) := fun b u z => by
  by_cases y : b = p
  · rw [y, upd_same] at z ⊢
    exact z
  · rw [upd_ne y] at z ⊢
    exact e _ _ z
section
variable {P : Program} {w : World} {K : PySem.W.Frag} {mg : Str → Option Value} {base : Heap} {f : Addr} {fd : FuncData} {fL fN f1 fK fS fO fH fF fT : Addr} {dL dN d1 dK dS dO dH dF dT : FuncData} {fC fW fU fV Pt : Addr} {dC dW dU dV : FuncData} {fBo fEi fCo fSa : Addr} {dBo dEi dCo dSa : FuncData} {fQ fR CN : Addr} {dQ dR : FuncData} {fA fB fTr fPi fD fAl fOn fWi : Addr} {dA dB dTr dPi dD dAl dOn dWi : FuncData} {fMi fRe fSc fAp fMe : Addr} {dMi dRe dSc dAp dMe : FuncData}
def spNm (Pt : Addr) : Sp := fun vs H Q _ => ∃ (p c : Addr) (n : Int) (v u : V) (ks : List Str) (F G : FamT) (A : Hp), vs = [.ref p, v, u] ∧ St H p c n ∧ n ≤ 800000 ∧ Ex A H ∧ A p = none ∧ A c = none ∧ Rdy Pt lmQ lmPos A ∧ rep A v F ∧ rep A u G ∧ Fam2 ks F G ∧ ks ⊆ nameL ∧
  ∀ H', Ex A H' → ExB [p, c] H H' → St H' p c (n + 20) → Q (.bl true) H'
abbrev NNm : List Str := ["stream", "one", "other", "names", "halves", "both", "more", "found", "due", "at", "some"]
theorem scNm : FnScope NNm ["stream", "one", "other"] (defScope (top 52)) := ⟨rfl, rfl, rfl, by decide +kernel, rfl, by decide +kernel, by decide +kernel⟩
abbrev rJoinS : R2 := fun x y H Q => ∃ i j, x = .str i ∧ y = .str j ∧ i.length + j.length ≤ sizeLine ∧ Q (.str (i ++ j)) H
abbrev rSI : List V → Hp → VK → Prop := fun xs H Q => ∃ i, xs = [.int i] ∧ i.natAbs.log2 < 1920 ∧ Q (.str (toString i)) H
theorem ok_nm (F : FnP K "_law_names_right" (top 52) f fd) (B : Bn mg) (Z : Fs K mg fL fN f1 fK fS fO fH fF fT dL dN d1 dK dS dO dH dF dT) (Y : Gs K mg base Pt fC fW fU fV dC dW dU dV) (L : Ls K mg fBo fEi fCo fSa dBo dEi dCo dSa)
    (M : Ms K mg CN fQ fR fA fB fTr fPi fD fAl fOn fWi dQ dR dA dB dTr dPi dD dAl dOn dWi) (N : Ns K mg fMi fRe fSc fAp fMe dMi dRe dSc dAp dMe) : FnOk P w K mg base CX0 10 f fd ["stream", "one", "other"] (spNm Pt) := by
  have GB : FnOk P w K mg base CX0 7 fBo dBo ["family", "other_family"] (spBoth Pt) := ok_both L.B.F B Z Y
  have bB : Binds K dBo ["family", "other_family"] [] := L.B.F.bindsN fun _ _ _ _ _ _ us hl => match us, hl with | [_, _], _ => rfl
  have GC : FnOk P w K mg base CX0 8 fCo dCo ["thing"] (spC 8) := ok_copied L.C.F L.C.g B 8
  have bC : Binds K dCo ["thing"] [] := L.C.F.bindsN fun _ _ _ _ _ _ us hl => match us, hl with | [_], _ => rfl
  have GS : FnOk P w K mg base CX0 8 fSa dSa ["found", "due"] (spS 8) := ok_same L.S.F L.S.g B 8
  have bS : Binds K dSa ["found", "due"] [] := L.S.F.bindsN fun _ _ _ _ _ _ us hl => match us, hl with | [_, _], _ => rfl
  have GM : FnOk P w K mg base CX0 2 fMi dMi ["stream", "some"] (spMixed K) := ok_mixed N.MI.F M.DR.F M.DR.g B.int B.list B.len B.range
  have bM : Binds K dMi ["stream", "some"] [] := N.MI.F.bindsN fun _ _ _ _ _ _ us hl => match us, hl with | [_, _], _ => rfl
  have GR : FnOk P w K mg base CX0 6 fRe dRe ["family", "naming"] spRen := ok_ren N.RE.F B Z Y.C
  have bR : Binds K dRe ["family", "naming"] [] := N.RE.F.bindsN fun _ _ _ _ _ _ us hl => match us, hl with | [_, _], _ => rfl
  have GK : FnOk P w K mg base CX0 6 fSc dSc ["family"] spCounts := ok_counts N.SC.F B Z Y.C
  have bK : Binds K dSc ["family"] [] := N.SC.F.bindsN fun _ _ _ _ _ _ us hl => match us, hl with | [_], _ => rfl
  have GP : FnOk P w K mg base CX0 6 fAp dAp ["family"] spApart := ok_apart N.AP.F B Z Y.C N.ME
  have bP : Binds K dAp ["family"] [] := N.AP.F.bindsN fun _ _ _ _ _ _ us hl => match us, hl with | [_], _ => rfl
  have GF : FnOk P w K mg base (L2.CX P w) 6 fA dA ["family", "keeper"] (spFall CN) := ok_fall M.FA.F B Z Y M.NL M.KN M.LE
  have bF : Binds K dA ["family", "keeper"] [] := M.FA.F.bindsN fun _ _ _ _ _ _ us hl => match us, hl with | [_, _], _ => rfl
  have GT : FnOk P w K mg base (L2.CX P w) 6 fB dB ["family", "keeper"] (spTrust Pt CN) := ok_trust M.FB.F B Z Y M.NL M.KN M.LE
  have bT : Binds K dB ["family", "keeper"] [] := M.FB.F.bindsN fun _ _ _ _ _ _ us hl => match us, hl with | [_, _], _ => rfl
  refine F.ok scNm (fun vs H Q E h => ?_) (fun cdv A outer s H vs Q E hr h => ?_)
  · obtain ⟨p, c, n, v, u, _, _, _, _, rfl, _⟩ := h
    rfl
  · obtain ⟨p, c, n, v, u, ks, F, G, A0, rfl, hst, hn, eA, Ap, Ac, R, hv, hu, T, hks, q⟩ := h
    refine ⟨_, PSs.nox (
      -- names
      pss_cons (ps_set (i := 3) scNm.nd rfl (.inr rfl) (pe_callTy (call_dictP (by rfl)) (by rfl) B.dict (by decide +kernel) (pa_cons (pe_listZip (by rfl) (pa_cons (pe_ix ix_tup (pv 1) pe_int (fun _ _ => rfl)) (pa_cons (pe_call GM (hr.mono (by decide)) (by rfl) N.MI.g N.MI.F.kp bM .nil pass0 (pa_cons (pv 0) (pa_cons (pe_lc (own := [("at", 9)]) (g := gName 9) (tt := tYes) (te := tOp rJoinS (tC (.str "b")) (tCB rSI (tCons (tVar 9) tNil))) rfl scNm.nd (pi_range1 (by rfl) B.range (pa_cons (pe_callB call_len_seq (by rfl) B.len PySem.boot_len (pa_cons (pe_ix ix_tup (pv 1) pe_int (fun _ _ => rfl)) pa_nil)) pa_nil)) (blkOk_by (N := NNm) (sc := defScope (top 52)) (by decide +kernel))
          (fun _ _ _ _ _ => pg_name (i := 9) scNm.nd rfl (.inl rfl)) (fun _ _ _ _ _ => pts_nil) (fun _ _ _ _ _ => pe_op op_add_str pe_str (pe_callTy call_str_int (by rfl) B.str (by decide +kernel) (pa_cons (pv 9) pa_nil)))) pa_nil))) pa_nil)) (by rfl) B.list (by rfl) B.zip) pa_nil)))
      -- halves
      (pss_cons (ps_setLc (i := 4) (own := [("some", 10)]) (g := gName 10) (tt := tYes) (te := tCall spRen [] E0 (tCons (tCall (spC 8) [] E0 (tCons (tVar 10) tNil)) (tCons (tCall (spC 8) [] E0 (tCons (tVar 3) tNil)) tNil))) rfl scNm.nd rfl rfl (sw_true rfl rfl (by rfl) (by rfl)) (pi_tup (pe_tup (pa_cons (pv 1) (pa_cons (pv 2) pa_nil)))) (blkOk_by (N := NNm) (sc := defScope (top 52)) (by decide +kernel))
        (fun _ _ _ _ _ => pg_name (i := 10) scNm.nd rfl (.inl rfl)) (fun _ _ _ _ _ => pts_nil)
        (fun _ _ _ _ _ => pe_call GR (hr.mono (by decide)) (by rfl) N.RE.g N.RE.F.kp bR .nil pass0 (pa_cons (pe_call GC (hr.mono (by decide)) (by rfl) L.C.g L.C.F.kp bC .nil pass0 (pa_cons (pv 10) pa_nil)) (pa_cons (pe_call GC (hr.mono (by decide)) (by rfl) L.C.g L.C.F.kp bC .nil pass0 (pa_cons (pv 3) pa_nil)) pa_nil))))
      -- both
      (pss_cons (ps_set (i := 5) scNm.nd rfl (.inl rfl) (pe_call GB (hr.mono (by decide)) (by rfl) L.B.g L.B.F.kp bB .nil pass0 (pa_cons (pe_call GC (hr.mono (by decide)) (by rfl) L.C.g L.C.F.kp bC .nil pass0 (pa_cons (pv 1) pa_nil)) (pa_cons (pe_call GC (hr.mono (by decide)) (by rfl) L.C.g L.C.F.kp bC .nil pass0 (pa_cons (pv 2) pa_nil)) pa_nil))))
      (pss_cons (ps_if (pt_not (pt_val (pe_call GS (hr.mono (by decide)) (by rfl) L.S.g L.S.F.kp bS .nil pass0 (pa_cons (pe_call GB (hr.mono (by decide)) (by rfl) L.B.g L.B.F.kp bB .nil pass0 (pa_cons (pe_ix ix_list (pv 4) pe_int (fun _ _ => rfl)) (pa_cons (pe_ix ix_list (pv 4) pe_int (fun _ _ => rfl)) pa_nil)))
        (pa_cons (pe_call GR (hr.mono (by decide)) (by rfl) N.RE.g N.RE.F.kp bR .nil pass0 (pa_cons (pv 5) (pa_cons (pv 3) pa_nil))) pa_nil))))) pss_never pss_nil)
      -- more
      (pss_cons (ps_set (i := 6) scNm.nd rfl (.inl rfl) (pe_tup (pa_cons (pe_callB (cr_sortedW (α := Str) (fun _ _ z => by cases z) (uK0 hr)) (by rfl) B.sorted (by decide +kernel) (pa_cons (pe_op op_cat (pe_ix ix_tup (pv 1) pe_int (fun _ _ => rfl)) (pe_lst (pa_cons pe_str pa_nil))) pa_nil)) (pa_cons (pe_ix ix_tup (pv 1) pe_int (fun _ _ => rfl)) pa_nil))))
      -- found
      (pss_cons (ps_set (i := 7) scNm.nd rfl (.inl rfl) (pe_lst (pa_cons (pe_call GK (hr.mono (by decide)) (by rfl) N.SC.g N.SC.F.kp bK .nil pass0 (pa_cons (pe_call GC (hr.mono (by decide)) (by rfl) L.C.g L.C.F.kp bC .nil pass0 (pa_cons (pv 6) pa_nil)) pa_nil))
        (pa_cons (pe_call GP (hr.mono (by decide)) (by rfl) N.AP.g N.AP.F.kp bP .nil pass0 (pa_cons (pe_call GC (hr.mono (by decide)) (by rfl) L.C.g L.C.F.kp bC .nil pass0 (pa_cons (pv 6) pa_nil)) pa_nil))
        (pa_cons (pe_call GF (hr.mono (by decide)) (by rfl) M.FA.g M.FA.F.kp bF .nil passL (pa_cons (pe_call GC (hr.mono (by decide)) (by rfl) L.C.g L.C.F.kp bC .nil pass0 (pa_cons (pv 6) pa_nil)) (pa_cons pe_str pa_nil))) pa_nil)))))
      (pss_cons (ps_expr (pe_bm PySem.F.plainAttrs_list PySem.F.slot_list_append PySem.F.type_list_append mt_append (pv 7) (pa_cons (pe_call GT (hr.mono (by decide)) (by rfl) M.FB.g M.FB.F.kp bT .nil passL (pa_cons (pe_call GC (hr.mono (by decide)) (by rfl) L.C.g L.C.F.kp bC .nil pass0 (pa_cons (pv 6) pa_nil)) (pa_cons pe_str pa_nil))) pa_nil)))
      -- due
      (pss_cons (ps_set (i := 8) scNm.nd rfl (.inl rfl) (pe_lst (pa_cons (pe_call GK (hr.mono (by decide)) (by rfl) N.SC.g N.SC.F.kp bK .nil pass0 (pa_cons (pe_call GC (hr.mono (by decide)) (by rfl) L.C.g L.C.F.kp bC .nil pass0 (pa_cons (pv 1) pa_nil)) pa_nil))
        (pa_cons (pe_call GP (hr.mono (by decide)) (by rfl) N.AP.g N.AP.F.kp bP .nil pass0 (pa_cons (pe_call GC (hr.mono (by decide)) (by rfl) L.C.g L.C.F.kp bC .nil pass0 (pa_cons (pv 1) pa_nil)) pa_nil)) pa_nil))))
      (pss_one (ps_ret (pe_call GS (hr.mono (by decide)) (by rfl) L.S.g L.S.F.kp bS .nil pass0 (pa_cons (pv 7) (pa_cons (pe_op op_cat (pe_call GC (hr.mono (by decide)) (by rfl) L.C.g L.C.F.kp bC .nil pass0 (pa_cons (pv 8) pa_nil)) (pe_lst (pa_cons (pv 1) (pa_cons (pv 1) pa_nil)))) pa_nil))))))))))))), ?_⟩
    have l8 := T.l
    have l2 := T.m
    obtain rfl : F.1 = ks := T.f.k
    obtain ⟨o1, hp0⟩ := hst.p
    obtain ⟨o2, hc0⟩ := hst.c
    -- names
    have lc := ed_rng1 (n := F.1.length) (hi := (F.1.length : Int)) (σ := [some (.ref p), some v, some u, none, none, none, none, none, none, none, none]) (A := A0) (j := 9) (vs := [9]) (tt := tYes) (te := tOp rJoinS (tC (.str "b")) (tCB rSI (tCons (tVar 9) tNil))) (fun i => nameB i)
      (ea_cons (ev_lenD (K := K) (ed_fst (K := K) (p := F) (ed_var (i := 1) rfl hv))) ea_nil) (by omega) (by omega) rfl (fun i hi => by rw [nameB_len]; omega) (fun _ => rfl) fun i hi => ⟨true, strB (0 + (i : Int)), fun _ => (by
        unfold nameB
        rw [List.range_succ, List.map_append]
        rfl), fun z => (by cases z), et_yes, fun _ H1 e Q q => ⟨.int (0 + (i : Int)), rfl, 0 + (i : Int), rfl, (str_ok i (by omega)).1, "b", _, rfl, rfl, (str_ok i (by omega)).2, q _ H1 (fun _ => none) (Ex.refl H1) sup0 rfl⟩⟩
    refine (ed_fst (K := K) (p := F) (ed_var (i := 1) (σ := [some (.ref p), some v, some u, none, none, none, none, none, none, none, none]) rfl hv)) H eA _ fun v1 H1 Hs1 e1 s1 r1 => ?_
    obtain ⟨a1, us1, rfl, g1, g2⟩ := r1
    have n1 : a1 ∉ [p, c] := fun m => by
      have hA : H a1 = none → False := fun z => by
        rcases List.mem_cons.mp m with y | m
        · rw [y, hp0] at z
          cases z
        · rw [List.mem_singleton.mp m, hc0] at z
          cases z
      rcases s1.o a1 _ g1 with y | y
      · rcases List.mem_cons.mp m with w | m
        · rw [w, Ap] at y
          cases y
        · rw [List.mem_singleton.mp m, Ac] at y
          cases y
      · exact hA y
    refine ⟨.ref p, rfl, lc H1 (eA.trans e1) _ fun v2 H2 Hs2 e2 s2 r2 => ?_⟩
    obtain ⟨a2, us2, rfl, g3, g4⟩ := r2
    have st2 : St H2 p c n := hst.ext (((e1.trans e2) _ _ hp0).trans hp0.symm) (((e1.trans e2) _ _ hc0).trans hc0.symm) (Int.le_refl _)
    have lu2 : us2.length = F.1.length := (Reps.len g4).trans (nameB_len _)
    have lu1 : us1.length = F.1.length := Reps.len g2
    refine ⟨p, c, a2, us2, n, rfl, st2, sq_of (s2.e _ _ g3), by omega, by omega, fun ys q5 H3 pm eb st3 nq hq5 => ?_⟩
    obtain ⟨yy, pyy, ryy⟩ := reps_perm pm g4
    have lyy : yy.length = F.1.length := pyy.length_eq.trans (nameB_len _)
    have lys : ys.length = F.1.length := pm.length_eq.trans lu2
    have eys := reps_str ryy
    have eus1 := reps_str g2
    refine ⟨a1, q5, us1, ys, rfl, sq_of (eb _ _ n1 (e2 _ _ (s1.e _ _ g1))), sq_of hq5, by omega, fun H4 pL ts x4 npL nts hpL lts ht => ?_⟩
    have MF : Nmg F (F.1.zip yy) := nmg_zip T.f l8 pyy
    have MG : Nmg G (F.1.zip yy) := nmg_zip T.g l8 pyy
    have mB : Sm F.1 25 (bothOf F G) := both_sm T.f T.g (by decide)
    have MB : Nmg (bothOf F G) (F.1.zip yy) := nmg_zip mB l8 pyy
    have lps : (F.1.zip yy).length = F.1.length := by rw [List.length_zip]; omega
    have kok : DkOk (kvsOf (F.1.zip yy)) := kvs_ok (by rw [MF.k]; exact T.f.gk.asc.nodup sl_tot) (by omega)
    refine ⟨pL, ts, kvsOf (F.1.zip yy), rfl, sq_of hpL, paired_of (by unfold kvsOf; rw [List.length_map]; omega) fun i t kv h1 h2 => ?_, fun nd nnd => ?_⟩
    · unfold kvsOf at h2
      rw [List.getElem?_map] at h2
      cases hz : (F.1.zip yy)[i]? with
      | none =>
        rw [hz] at h2
        cases h2
      | some pr =>
        rw [hz] at h2
        cases h2
        obtain ⟨w1, w2⟩ := List.getElem?_zip_eq_some.mp hz
        refine st_of (ht i t (V.str pr.1) (V.str pr.2) h1 ?_ ?_)
        · rw [eus1, List.getElem?_map, w1]
          rfl
        · rw [eys, List.getElem?_map, w2]
          rfl
    rw [show mergeK [] (kvsOf (F.1.zip yy)) = kvsOf (F.1.zip yy) from merge_app (acc := []) kok.n]
    generalize hps : F.1.zip yy = ps at MF MG MB lps kok
    have eA3 : Ex A0 H3 := exb ((eA.trans e1).trans e2) Ap Ac eb
    have eA4 : Ex A0 H4 := eA3.trans x4
    have And : A0 nd = none := exf eA4 nnd
    have st4 : St H4 p c (n + us2.length) := by
      obtain ⟨o3, w3⟩ := st3.p
      obtain ⟨o4, w4⟩ := st3.c
      exact st3.ext ((x4 _ _ w3).trans w3.symm) ((x4 _ _ w4).trans w4.symm) (Int.le_refl _)
    have st5 : St (upd H4 nd (.dK (kvsOf ps))) p c (n + us2.length) := st4.new nnd
    obtain ⟨o5, hp5⟩ := st5.p
    obtain ⟨o6, hc5⟩ := st5.c
    have fin : ∀ HZ, Ex (upd H4 nd (.dK (kvsOf ps))) HZ → Q (.bl true) HZ := fun HZ e => q HZ ((eA4.trans (Ex.new nnd)).trans e) (fun b o m z => e _ _ (Ex.new nnd _ _ (x4 _ _ (eb b o m (e2 _ _ (e1 _ _ z)))))) (st5.ext ((e _ _ hp5).trans hp5.symm) ((e _ _ hc5).trans hc5.symm) (by omega))
    have B5 : Bs (upd A0 nd (.dK (kvsOf ps))) (upd H4 nd (.dK (kvsOf ps))) (upd A0 nd (.dK (kvsOf ps))) (upd H4 nd (.dK (kvsOf ps))) := Bs.start (upd_ex eA4)
    have hvA : rep (upd A0 nd (.dK (kvsOf ps))) v F := DV.ext (Ex.new And) hv
    have huA : rep (upd A0 nd (.dK (kvsOf ps))) u G := DV.ext (Ex.new And) hu
    have RA : Rdy Pt lmQ lmPos (upd A0 nd (.dK (kvsOf ps))) := R.ext (Ex.new And)
    have nmA : (upd A0 nd (.dK (kvsOf ps))) nd = some (.dK (kvsOf ps)) := upd_same
    generalize upd A0 nd (.dK (kvsOf ps)) = A5 at B5 hvA huA RA nmA
    generalize upd H4 nd (.dK (kvsOf ps)) = H5 at B5 fin
    show tSeq _ _ _ [some (.ref p), some v, some u, some (.ref nd), none, none, none, none, none, none, none] H5
    have two : Two F G := two_sm T.f T.g (by omega) (by decide) (by decide) (by decide)
    have rF : Sm (srt (ps.map (·.2))) 5 (renOf F ps) := ren_sm T.f MF
    have rG : Sm (srt (ps.map (·.2))) 5 (renOf G ps) := ren_sm T.g MG
    have twoR : Two (renOf F ps) (renOf G ps) := two_sm rF rG (by rw [srt_len, List.length_map]; omega) (by decide) (by decide) (by decide)
    -- halves
    have lh := ed_lcT (K := K) (tt := tYes) (te := tCall spRen [] E0 (tCons (tCall (spC 8) [] E0 (tCons (tVar 10) tNil)) (tCons (tCall (spC 8) [] E0 (tCons (tVar 3) tNil)) tNil))) (j := 10) (vs := [10]) (fun _ : FamT => true) (fun X : FamT => renOf X ps)
      (ed_tupD (xs := [F, G]) (σ := [some (.ref p), some v, some u, some (.ref nd), none, none, none, none, none, none, none]) (eda_cons (ed_var (i := 1) rfl hvA) (eda_cons (ed_var (i := 2) rfl huA) eda_nil)) (by simp)) (by simp) (fun _ => rfl) (fun _ _ _ _ _ _ => et_yes) fun X z H9 e m r _ => by
        have mX : Sm F.1 5 X ∧ Nmg X ps := by
          rcases List.mem_cons.mp m with rfl | m
          · exact ⟨T.f, MF⟩
          · rw [List.mem_singleton.mp m]
            exact ⟨T.g, MG⟩
        exact ed_ren (ed_copied (d := 8) (E := E0) (ed_var (i := 10) (v := z) rfl r) (smD mX.1)) (er_copied (R1 := DkR (kvsOf ps)) (er_varR (i := 3) rfl ⟨nd, rfl, e _ _ nmA⟩) (fun _ _ h => dk_tw (by decide) kok h h) fun _ _ _ _ h t => dk_cp h t) mX.2
    rw [List.filter_eq_self.mpr (fun _ _ => rfl)] at lh
    refine b_asg B5 lh fun v4 A6 H6 B6 x6 r4 => ?_
    have r4' : rep A6 v4 [renOf F ps, renOf G ps] := r4
    have hv6 : rep A6 v F := DV.ext x6 hvA
    have hu6 : rep A6 u G := DV.ext x6 huA
    -- both
    refine b_asg B6 (ed_call2W (E := E0) (P := Two) (f := bothOf) (RA.ext x6) (ed_copied (d := 8) (E := E0) (ed_var (i := 1) (σ := [some (.ref p), some v, some u, some (.ref nd), some v4, none, none, none, none, none, none]) rfl hv6) (smD T.f)) (ed_copied (d := 8) (E := E0) (ed_var (i := 2) rfl hu6) (smD T.g)) two) fun v5 A7 H7 B7 x7 r5 => ?_
    have R7 := (RA.ext x6).ext x7
    have e4 : EvD (tVar 4) [some (.ref p), some v, some u, some (.ref nd), some v4, some v5, none, none, none, none, none] A7 [renOf F ps, renOf G ps] := ed_var rfl (DV.ext x7 r4')
    refine b_skip B7 (et_not (et_B (ev_same (d := 8) (E := E0) (ed_call2W (E := E0) (P := Two) (f := bothOf) R7 (ed_ixL (K := K) (i := 0) e4 (ev_c (v := .int 0)) rfl) (ed_ixL (K := K) (i := 1) e4 (ev_c (v := .int 1)) rfl) twoR) (ed_ren (ed_var (i := 5) rfl r5) (er_varR (R1 := DkR (kvsOf ps)) (i := 3) rfl ⟨nd, rfl, x7 _ _ (x6 _ _ nmA)⟩) MB) (ren_bothOf T.f T.g (by decide) MF MG) (smD (both_sm rF rG (by decide)))))) rfl fun H8 B8 => ?_
    have hv7 : rep A7 v F := DV.ext x7 hv6
    have e1' : EvD (tVar 1) [some (.ref p), some v, some u, some (.ref nd), some v4, some v5, none, none, none, none, none] A7 F := ed_var rfl hv7
    -- more
    refine b_asg B8 (ed_pair (ed_sorted (ed_cat (ed_fst (K := K) e1') (ed_lst (xs := [zz]) (eda_cons ed_str eda_nil) (by simp)) (by simp; omega))) (ed_snd (K := K) e1')) fun v6 A8 H9 B9 x8 r6 => ?_
    have gM : GoodF goodName (moreOf F) := more_sm T.f hks l8
    have oM : One (moreOf F) zz := more_one T.f hks l8 l2
    have nF := T.f.l
    have cM : EvD (tCall (spC 8) [] E0 (tCons (tVar 6) tNil)) [some (.ref p), some v, some u, some (.ref nd), some v4, some v5, some v6, none, none, none, none] A8 (moreOf F) := ed_copied (d := 8) (E := E0) (x := moreOf F) (ed_var rfl r6) (smG gM)
    -- found
    have fe : EvD (tCall (spFall CN) [] E0 (tCons (tCall (spC 8) [] E0 (tCons (tVar 6) tNil)) (tCons (tC (.str "zz9")) tNil))) [some (.ref p), some v, some u, some (.ref nd), some v4, some v5, some v6, none, none, none, none] A8 F := ed_is (ed_fall cM (ed_str (x := zz)) oM (by rw [more_fall T.f hks]; exact T.f.g.ne)) (Prod.ext (more_drop T.f hks) (more_fall T.f hks))
    have ap : EvD (tCall spApart [] E0 (tCons (tCall (spC 8) [] E0 (tCons (tVar 6) tNil)) tNil)) [some (.ref p), some v, some u, some (.ref nd), some v4, some v5, some v6, none, none, none, none] A8 (apartOf F.2) := ed_call1 (E := E0) (P := fun F : FamT => GoodF goodName F ∧ F.2.length ≤ 150) (f := fun F => apartOf F.2) (x := moreOf F) cM ⟨gM, by show F.2.length ≤ 150; omega⟩
    have ct : EvR (tCall spCounts [] E0 (tCons (tCall (spC 8) [] E0 (tCons (tVar 6) tNil)) tNil)) [some (.ref p), some v, some u, some (.ref nd), some v4, some v5, some v6, none, none, none, none] A8 (DkR (countsKV F.2)) := er_counts (F := moreOf F) cM ⟨gM, by show F.2.length ≤ 60; omega⟩
    refine b_lstR B9 (era_cons ct (era_cons (er_of ap) (era_cons (er_of fe) era_nil rep_mon nil_mon) rep_mon (cons_mon rep_mon nil_mon)) dk_mon (cons_mon rep_mon (cons_mon rep_mon nil_mon))) (fun H vs h => ?_) (cons_mon dk_mon (cons_mon rep_mon (cons_mon rep_mon nil_mon))) fun vs d A9 H10 B10 x9 nA9 nH9 hd9 L9 => ?_
    · obtain ⟨_, _, rfl, _, _, _, rfl, _, _, _, rfl, _, h⟩ := h
      rw [show _ = [] from h]
      simp
    obtain ⟨w0, _, rfl, q0, w1, _, rfl, q1, w2, _, rfl, q2, h⟩ := L9
    obtain rfl : _ = [] := h
    have R9 := (R7.ext x8).ext x9
    have cM9 : EvD (tCall (spC 8) [] E0 (tCons (tVar 6) tNil)) [some (.ref p), some v, some u, some (.ref nd), some v4, some v5, some v6, some (.ref d), none, none, none] A9 (moreOf F) := ed_copied (d := 8) (E := E0) (x := moreOf F) (ed_var rfl (DV.ext x9 r6)) (smG gM)
    have nn : ¬ [] ∈ F.2 := fun m => (T.f.g.lots [] m).ne rfl
    refine b_appD B10 (i := 7) rfl hd9 (by simp) nA9 nH9 (ed_is (ed_trust R9 cM9 (ed_str (x := zz)) oM (by rw [more_trust T.f hks]; exact nn)) (show _ = F from Prod.ext (more_drop T.f hks) ((congrArg leastOf (more_trust T.f hks)).trans (more_least T.f)))) fun w3 A10 H11 B11 x10 nA10 hd10 q3 => ?_
    have B12 := B11.new hd10 nH9 nA10
    have xN : Ex A10 (upd A10 d (.lst ([w0, w1, w2] ++ [w3]))) := Ex.new nA10
    have x9N : Ex A9 (upd A10 d (.lst ([w0, w1, w2] ++ [w3]))) := x10.trans xN
    have hv12 : rep (upd A10 d (.lst ([w0, w1, w2] ++ [w3]))) v F := DV.ext ((x8.trans x9).trans x9N) hv7
    have q0' := dk_mon _ _ _ x9N q0
    have q1' := rep_mon _ _ _ x9N q1
    have q2' := rep_mon _ _ _ x9N q2
    have q3' : rep (upd A10 d (.lst ([w0, w1, w2] ++ [w3]))) w3 F := DV.ext xN q3
    have hdN : (upd A10 d (.lst ([w0, w1, w2] ++ [w3]))) d = some (.lst ([w0, w1, w2] ++ [w3])) := upd_same
    generalize upd A10 d (.lst ([w0, w1, w2] ++ [w3])) = A12 at B12 hv12 q0' q1' q2' q3' hdN
    -- due
    have c1 : EvD (tCall (spC 8) [] E0 (tCons (tVar 1) tNil)) [some (.ref p), some v, some u, some (.ref nd), some v4, some v5, some v6, some (.ref d), none, none, none] A12 F := ed_copied (d := 8) (E := E0) (ed_var rfl hv12) (smD T.f)
    have gF2 : GoodF goodName F ∧ F.2.length ≤ 60 := ⟨T.f.g, by omega⟩
    have dueL := er_lst (era_cons (er_counts (E := E0) c1 gF2) (era_cons (er_of (ed_call1 (E := E0) (P := fun F : FamT => GoodF goodName F ∧ F.2.length ≤ 150) (f := fun F => apartOf F.2) c1 ⟨T.f.g, by omega⟩)) era_nil rep_mon nil_mon) dk_mon (cons_mon rep_mon nil_mon)) (fun H vs h => by
      obtain ⟨_, _, rfl, _, _, _, rfl, _, h⟩ := h
      rw [show _ = [] from h]
      simp) (cons_mon dk_mon (cons_mon rep_mon nil_mon))
    refine b_asgR B12 dueL (lr_mon (cons_mon dk_mon (cons_mon rep_mon nil_mon))) fun v8 A13 H13 B13 x13 r8 => ?_
    have cok : DkOk (countsKV F.2) := counts_ok (by omega)
    have sap : DVT.sm (apartOf F.2) := ⟨by
      have h1 := apTo_len F.2 F.2.length
      have h2 : F.2.length * F.2.length ≤ 5 * 5 := Nat.mul_le_mul nF nF
      show (apTo F.2 F.2.length).length ≤ 1000
      omega, fun _ _ => ⟨trivial, trivial⟩⟩
    have one13 : EvD (tVar 1) [some (.ref p), some v, some u, some (.ref nd), some v4, some v5, some v6, some (.ref d), some v8, none, none] A13 F := ed_var rfl (DV.ext x13 hv12)
    have cd := er_copied (d := 8) (E := E0) (σ := [some (.ref p), some v, some u, some (.ref nd), some v4, some v5, some v6, some (.ref d), some v8, none, none]) (R2 := LR (ConsR (DkR (countsKV F.2)) (ConsR (fun H v => rep H v (apartOf F.2)) NilR))) (er_varR (i := 8) rfl r8) (fun H v h => by
      obtain ⟨a, _, rfl, h1, ⟨_, _, rfl, h2, _, _, rfl, h3, h⟩⟩ := h
      obtain rfl : _ = [] := h
      exact .inr (.inl ⟨a, a, _, _, rfl, rfl, h1, h1, by simp, .cons (dk_tw (by decide) cok h2 h2) (.cons ((DVT.tw sap h3 h3).ups (by decide)) .nil)⟩)) (fun H H' v u h t => by
      obtain ⟨a, b, xs, ys, rfl, rfl, ⟨_, _, rfl, h2, _, _, rfl, h3, h⟩, h4, h5⟩ := lst_cp h t
      obtain rfl : _ = [] := h
      cases h5 with
      | cons t1 h5 => cases h5 with
        | cons t2 h5 =>
          cases h5
          exact ⟨b, _, rfl, h4, _, _, rfl, dk_cp h2 t1, _, _, rfl, DVT.cp h3 t2, rfl⟩)
    have ones := er_lst (era_cons (er_of one13) (era_cons (er_of one13) era_nil rep_mon nil_mon) rep_mon (cons_mon rep_mon nil_mon)) (fun H vs h => by
      obtain ⟨_, _, rfl, _, _, _, rfl, _, h⟩ := h
      rw [show _ = [] from h]
      simp) (cons_mon rep_mon (cons_mon rep_mon nil_mon))
    have ct2 := er_cat cd ones (cons_mon dk_mon (cons_mon rep_mon nil_mon)) (cons_mon rep_mon (cons_mon rep_mon nil_mon)) (fun H vs h => by
      obtain ⟨_, _, rfl, _, _, _, rfl, _, h⟩ := h
      rw [show _ = [] from h]
      simp) (fun H vs h => by
      obtain ⟨_, _, rfl, _, _, _, rfl, _, h⟩ := h
      rw [show _ = [] from h]
      simp)
    have sm1 := smD T.f
    refine (ev_sameR (d := 8) (E := E0) (R1 := LR fun H vs => ∃ a b c d, vs = [a, b, c, d] ∧ DkR (countsKV F.2) H a ∧ rep H b (apartOf F.2) ∧ rep H c F ∧ rep H d F) (er_varR (i := 7) rfl ⟨d, _, rfl, x13 _ _ hdN, w0, w1, w2, w3, rfl, dk_mon _ _ _ x13 q0', DV.ext x13 q1', DV.ext x13 q2', DV.ext x13 q3'⟩) ct2
      (lr_mon fun H H' vs e ⟨a, b, c, d, h1, h2, h3, h4, h5⟩ => ⟨a, b, c, d, h1, dk_mon _ _ _ e h2, DV.ext e h3, DV.ext e h4, DV.ext e h5⟩)
      (lr_mon fun H H' vs e ⟨xs, ys, h1, h2, h3⟩ => ⟨xs, ys, h1, cons_mon dk_mon (cons_mon rep_mon nil_mon) _ _ _ e h2, cons_mon rep_mon (cons_mon rep_mon nil_mon) _ _ _ e h3⟩) fun H v u h h' => by
        obtain ⟨a, _, rfl, h1, b1, b2, b3, b4, rfl, k1, k2, k3, k4⟩ := h
        obtain ⟨a', _, rfl, h1', _, _, rfl, ⟨_, _, rfl, j1, _, _, rfl, j2, h⟩, ⟨_, _, rfl, j3, _, _, rfl, j4, h'⟩⟩ := h'
        obtain rfl : _ = [] := h
        obtain rfl : _ = [] := h'
        exact .inr (.inl ⟨a, a', _, _, rfl, rfl, h1, h1', by simp, .cons (dk_tw (by decide) cok k1 j1) (.cons ((DVT.tw sap k2 j2).ups (by decide)) (.cons ((DVT.tw sm1 k3 j3).ups (by decide)) (.cons ((DVT.tw sm1 k4 j4).ups (by decide)) .nil)))⟩)) H13 B13.h _ fun HZ eZ => ?_
    exact fin HZ (B13.e.trans eZ)
end
end K07
/-! text D30 -/
set_option Elab.async false
set_option linter.all false
set_option maxRecDepth 100000
set_option maxHeartbeats 8000000
/-! the law -/
namespace K07
open PySem PySem.Spec PyProof.Rows L2 Evl PySem.W Dw Dw.DV RZ StX Lot LmV LamX NdefX XvE
/-- the last defs -/
structure Os (K : PySem.W.Frag) (mg : Str → Option Value) (fSt fNa fLo fOf fOv fBr fLe fNm : Addr) (dSt dNa dLo dOf dOv dBr dLe dNm : FuncData) : Prop where
  ST : Df K mg "_law_start" 40 fSt dSt
  NA : Df K mg "_law_a_names" 36 fNa dNa
  LO : Df K mg "_law_a_lot" 39 fLo dLo
  OF : Df K mg "_law_of" 47 fOf dOf
  OV : Df K mg "_law_over_right" 49 fOv dOv
  BR : Df K mg "_law_brackets_right" 50 fBr dBr
  LE : Df K mg "_law_least_right" 51 fLe dLe
  NM : Df K mg "_law_names_right" 52 fNm dNm
section
variable {P : Program} {w : World} {K : PySem.W.Frag} {mg : Str → Option Value} {base : Heap} {f : Addr} {fd : FuncData} {fL fN f1 fK fS fO fH fF fT : Addr} {dL dN d1 dK dS dO dH dF dT : FuncData} {fC fW fU fV Pt : Addr} {dC dW dU dV : FuncData} {fBo fEi fCo fSa : Addr} {dBo dEi dCo dSa : FuncData} {fQ fR CN : Addr} {dQ dR : FuncData} {fA fB fTr fPi fD fAl fOn fWi : Addr} {dA dB dTr dPi dD dAl dOn dWi : FuncData} {fMi fRe fSc fAp fMe : Addr} {dMi dRe dSc dAp dMe : FuncData} {fSt fNa fLo fOf fOv fBr fLe fNm : Addr} {dSt dNa dLo dOf dOv dBr dLe dNm : FuncData}
def spLaw (K : PySem.W.Frag) (Pt : Addr) : Sp := fun vs H Q _ => ∃ (a : Addr) (ns : List Int), vs = [.ref a] ∧ SqL K H a (ns.map V.int) ∧ ns.length ≤ 63 ∧ Tabs [(Pt, lmQ)] H ∧ ∀ H', Q (.bl true) H'
theorem if_f {a b : Prop} (h : b) : if (false : Bool) = true then a else b := h
theorem un_if {t1 t2 : TT} {tu tw : TS} {D : Ends} {σ : L2.St} {H : Hp} (h : t1 σ H (fun c H1 => if c = true then (if true = true then tu D σ H1 else tw D σ H1) else t2 σ H1 fun b H1 => if b = true then tu D σ H1 else tw D σ H1)) : tIfS (tOr t1 t2) tu tw D σ H := h
theorem nx_of {D : Ends} {σ : L2.St} {H : Hp} (h : D.nx σ H) : tNext D σ H := h
theorem sq_of2 {a b : TS} {D : Ends} {σ : L2.St} {H : Hp} (h : a { D with nx := b D } σ H) : tSeq a b D σ H := h
theorem ev_br {Pt : Addr} {σ : L2.St} {A : Hp} {i j k : Nat} {v u z : V} {ks : List Str} {F G J : FamT} (h1 : σ[i]? = some (some v)) (h2 : σ[j]? = some (some u)) (h3 : σ[k]? = some (some z)) (R : Rdy Pt lmQ lmPos A) (rF : rep A v F) (rG : rep A u G) (rJ : rep A z J) (T : Fam2 ks F G) (mJ : Sm ks 5 J) :
    Ev (tCall (spBr Pt) [] E0 (tCons (tVar i) (tCons (tVar j) (tCons (tVar k) tNil)))) σ A (.bl true) := fun H1 e Q q => ⟨v, h1, u, h2, z, h3, v, u, z, ks, F, G, J, A, rfl, e, R, rF, rG, rJ, T, mJ, q⟩
theorem ev_le {Pt : Addr} {σ : L2.St} {A : Hp} {i j : Nat} {v u : V} {ks : List Str} {F G : FamT} (h1 : σ[i]? = some (some v)) (h2 : σ[j]? = some (some u)) (R : Rdy Pt lmQ lmPos A) (rF : rep A v F) (rG : rep A u G) (T : Fam2 ks F G) :
    Ev (tCall (spLe Pt) [] E0 (tCons (tVar i) (tCons (tVar j) tNil))) σ A (.bl true) := fun H1 e Q q => ⟨v, h1, u, h2, v, u, ks, F, G, A, rfl, e, R, rF, rG, T, q⟩
abbrev NLaw : List Str := ["script", "stream", "turn", "keepers", "one", "other", "third", "was", "k"]
theorem scLaw : FnScope NLaw ["script"] (defScope (top 53)) := ⟨rfl, rfl, rfl, by decide +kernel, rfl, by decide +kernel, by decide +kernel⟩
theorem ok_law (F : FnP K "law" (top 53) f fd) (B : Bn mg) (Z : Fs K mg fL fN f1 fK fS fO fH fF fT dL dN d1 dK dS dO dH dF dT) (Y : Gs K mg base Pt fC fW fU fV dC dW dU dV) (L : Ls K mg fBo fEi fCo fSa dBo dEi dCo dSa)
    (M : Ms K mg CN fQ fR fA fB fTr fPi fD fAl fOn fWi dQ dR dA dB dTr dPi dD dAl dOn dWi) (N : Ns K mg fMi fRe fSc fAp fMe dMi dRe dSc dAp dMe) (O : Os K mg fSt fNa fLo fOf fOv fBr fLe fNm dSt dNa dLo dOf dOv dBr dLe dNm) (ne : fBo ≠ fEi) : FnOk P w K mg base CX0 11 f fd ["script"] (spLaw K Pt) := by
  have GS : FnOk P w K mg base CX0 1 fSt dSt ["script"] (spStart K) := ok_start O.ST.F B.list
  have bS : Binds K dSt ["script"] [] := O.ST.F.bindsN fun _ _ _ _ _ _ us hl => match us, hl with | [_], _ => rfl
  have GD : FnOk P w K mg base CX0 1 fD dD ["stream", "many"] spDraw := ok_draw M.DR.F B.int
  have bD : Binds K dD ["stream", "many"] [] := M.DR.F.bindsN fun _ _ _ _ _ _ us hl => match us, hl with | [_, _], _ => rfl
  have GN : FnOk P w K mg base CX0 3 fNa dNa ["stream", "many"] spNames := ok_names O.NA.F B M.DR N.MI
  have bN : Binds K dNa ["stream", "many"] [] := O.NA.F.bindsN fun _ _ _ _ _ _ us hl => match us, hl with | [_, _], _ => rfl
  have GF : FnOk P w K mg base CX0 4 fOf dOf ["stream", "keepers"] spOf := ok_of O.OF.F B M.DR N.MI M.AL M.ON M.WI O.LO
  have bF : Binds K dOf ["stream", "keepers"] [] := O.OF.F.bindsN fun _ _ _ _ _ _ us hl => match us, hl with | [_, _], _ => rfl
  have GC : FnOk P w K mg base CX0 8 fCo dCo ["thing"] (spC 8) := ok_copied L.C.F L.C.g B 8
  have bC : Binds K dCo ["thing"] [] := L.C.F.bindsN fun _ _ _ _ _ _ us hl => match us, hl with | [_], _ => rfl
  have GQ : FnOk P w K mg base CX0 8 fSa dSa ["found", "due"] (spS 8) := ok_same L.S.F L.S.g B 8
  have bQ : Binds K dSa ["found", "due"] [] := L.S.F.bindsN fun _ _ _ _ _ _ us hl => match us, hl with | [_, _], _ => rfl
  have GV : FnOk P w K mg base CX0 10 fOv dOv ["stream", "one", "other"] (spOv Pt) := ok_ov O.OV.F B Z Y L M
  have bV : Binds K dOv ["stream", "one", "other"] [] := O.OV.F.bindsN fun _ _ _ _ _ _ us hl => match us, hl with | [_, _, _], _ => rfl
  have GR : FnOk P w K mg base CX0 9 fBr dBr ["one", "other", "third"] (spBr Pt) := ok_br O.BR.F B Z Y L ne
  have bR : Binds K dBr ["one", "other", "third"] [] := O.BR.F.bindsN fun _ _ _ _ _ _ us hl => match us, hl with | [_, _, _], _ => rfl
  have GL : FnOk P w K mg base CX0 9 fLe dLe ["one", "other"] (spLe Pt) := ok_le O.LE.F B Z Y L M.AL M.ON M.WI
  have bL : Binds K dLe ["one", "other"] [] := O.LE.F.bindsN fun _ _ _ _ _ _ us hl => match us, hl with | [_, _], _ => rfl
  have GM : FnOk P w K mg base CX0 10 fNm dNm ["stream", "one", "other"] (spNm Pt) := ok_nm O.NM.F B Z Y L M N
  have bM : Binds K dNm ["stream", "one", "other"] [] := O.NM.F.bindsN fun _ _ _ _ _ _ us hl => match us, hl with | [_, _, _], _ => rfl
  refine F.ok scLaw (fun vs H Q E h => ?_) (fun cdv A outer s H vs Q E hr h => ?_)
  · obtain ⟨a, _, rfl, _⟩ := h
    rfl
  · obtain ⟨a, ns, rfl, hS, hl, hT, q⟩ := h
    refine ⟨_, PSs.nox (pss_cons (ps_set (i := 1) scLaw.nd rfl (.inr rfl) (pe_call GS (hr.mono (by decide)) (by rfl) O.ST.g O.ST.F.kp bS .nil pass0 (pa_cons (pv 0) pa_nil)))
      (pss_cons (ps_for PassesOwn.never rfl (pi_range1 (by rfl) B.range (pa_cons pe_int pa_nil)) (pg_name (i := 2) scLaw.nd rfl (.inl rfl))
        (pss_cons (ps_set (i := 3) scLaw.nd rfl (.inr rfl) (pe_call GN (hr.mono (by decide)) (by rfl) O.NA.g O.NA.F.kp bN .nil pass0 (pa_cons (pv 1) (pa_cons (pe_op op_add pe_int (pe_call GD (hr.mono (by decide)) (by rfl) M.DR.g M.DR.F.kp bD .nil pass0 (pa_cons (pv 1) (pa_cons pe_int pa_nil)))) pa_nil))))
        (pss_cons (ps_asg (pe_lc (own := [("k", 8)]) (g := gName 8) (tt := tYes) (te := tCall spOf [] E0 (tCons (tVar 1) (tCons (tVar 3) tNil))) rfl scLaw.nd (pi_range1 (by rfl) B.range (pa_cons pe_int pa_nil)) (blkOk_by (N := NLaw) (sc := defScope (top 53)) (by decide +kernel))
            (fun _ _ _ _ _ => pg_name (i := 8) scLaw.nd rfl (.inl rfl)) (fun _ _ _ _ _ => pts_nil) (fun _ _ _ _ _ => pe_call GF (hr.mono (by decide)) (by rfl) O.OF.g O.OF.F.kp bF .nil pass0 (pa_cons (pv 1) (pa_cons (pv 3) pa_nil))))
          (pg_unl (n := 3) rfl (pgs_cons (pg_name (i := 4) scLaw.nd rfl (.inl rfl)) (pgs_cons (pg_name (i := 5) scLaw.nd rfl (.inl rfl)) (pgs_cons (pg_name (i := 6) scLaw.nd rfl (.inl rfl)) pgs_nil)))))
        (pss_cons (ps_set (i := 7) scLaw.nd rfl (.inl rfl) (pe_call GC (hr.mono (by decide)) (by rfl) L.C.g L.C.F.kp bC .nil pass0 (pa_cons (pe_lst (pa_cons (pv 4) (pa_cons (pv 5) (pa_cons (pv 6) pa_nil)))) pa_nil)))
        (pss_cons (ps_if (pw_or (pt_not (pt_val (pe_call GV hr (by rfl) O.OV.g O.OV.F.kp bV .nil pass0 (pa_cons (pv 1) (pa_cons (pv 4) (pa_cons (pv 5) pa_nil))))))
          (pw_or1 (pt_not (pt_val (pe_call GR (hr.mono (by decide)) (by rfl) O.BR.g O.BR.F.kp bR .nil pass0 (pa_cons (pv 4) (pa_cons (pv 5) (pa_cons (pv 6) pa_nil)))))))).pt pss_never pss_nil)
        (pss_cons (ps_if (pw_or (pt_not (pt_val (pe_call GL (hr.mono (by decide)) (by rfl) O.LE.g O.LE.F.kp bL .nil pass0 (pa_cons (pv 4) (pa_cons (pv 5) pa_nil)))))
          (pw_or1 (pt_not (pt_val (pe_call GM hr (by rfl) O.NM.g O.NM.F.kp bM .nil pass0 (pa_cons (pv 1) (pa_cons (pv 4) (pa_cons (pv 5) pa_nil)))))))).pt pss_never pss_nil)
        (pss_one (ps_if (pt_not (pt_val (pe_call GQ (hr.mono (by decide)) (by rfl) L.S.g L.S.F.kp bQ .nil pass0 (pa_cons (pe_lst (pa_cons (pv 4) (pa_cons (pv 5) (pa_cons (pv 6) pa_nil)))) (pa_cons (pv 7) pa_nil))))) pss_never pss_nil))))))))
      (pss_one (ps_ret pe_bl)))), ?_⟩
    refine ⟨.ref a, rfl, a, ns, rfl, hS, hl, fun H1 p c e1 np nc st => ?_⟩
    have tb1 : Tabs [(Pt, lmQ)] H1 := hT.ext e1
    show tSeq (tFor (iRng1 (tCons (tC (.int 10)) tNil)) (gName 2) _) _ _ [some (.ref a), some (.ref p), none, none, none, none, none, none, none] H1
    refine b_forR (hi := 10) (n := 10) (A := fun _ => none) (fun _ _ z => by cases z) (ea_cons (ev_c (v := .int 10)) ea_nil) (by omega) (by omega) rfl (fun i σ H' => ∃ y2 y3 y4 y5 y6 y7, σ = [some (.ref a), some (.ref p), y2, y3, y4, y5, y6, y7, none] ∧ St H' p c (1000 * (i : Int)) ∧ Tabs [(Pt, lmQ)] H')
      (fun H2 e2 => by
        obtain ⟨o1, h1⟩ := st.p
        obtain ⟨o2, h2⟩ := st.c
        exact ⟨none, none, none, none, none, none, rfl, st.ext ((e2 _ _ h1).trans h1.symm) ((e2 _ _ h2).trans h2.symm) (by omega), tb1.ext e2⟩) (fun i σ H2 hi h => ?_) (fun σ H2 h => q H2)
    obtain ⟨y2, y3, y4, y5, y6, y7, rfl, st2, tb2⟩ := h
    -- the keepers
    refine ⟨.ref p, rfl, .ref p, rfl, p, c, 1000 * (i : Int), 5, rfl, st2, by omega, by omega, by omega, fun r H3 r0 r1 e3 s3 => ?_⟩
    refine ⟨2, r, rfl, rfl, p, c, 1000 * (i : Int) + 1, 2 + r, rfl, s3, by omega, by omega, by omega, fun ks v3 H4 Hs4 gk e4 s4 eH4 oH4 rk => ?_⟩
    have tb4 : Tabs [(Pt, lmQ)] H4 := (tabs_cut st2 tb2).ext (cutP_exb (e3.trans e4))
    have kl := gk.l
    have pc4 : ∀ b o, Hs4 b = some o → b ∉ [p, c] := fun b o z => by
      rcases oH4 b o z with y | y
      · cases y
      · exact nPC s3 y
    have np4 : Hs4 p = none := by
      cases z : Hs4 p with
      | none => rfl
      | some o => exact absurd List.mem_cons_self (pc4 _ _ z)
    have nc4 : Hs4 c = none := by
      cases z : Hs4 c with
      | none => rfl
      | some o => exact absurd (List.mem_cons_of_mem _ List.mem_cons_self) (pc4 _ _ z)
    -- the three
    refine ⟨3, rfl, by omega, by omega, fun D nD => ?_⟩
    have Dpc : D ∉ [p, c] := nPC s4 nD
    have D4 : Hs4 D = none := exf eH4 nD
    refine lc_range (fun k H' => ExB [p, c] H4 H' ∧ St H' p c (1000 * (i : Int) + 21 + 300 * (k : Int)) ∧ ∃ ws Hw ls, H' D = some (.lst ws) ∧ Ex Hw H' ∧ (∀ b u, Hw b = some u → b ≠ D ∧ b ∉ [p, c]) ∧ Reps Hw ws ls ∧ ls.length = k ∧ ∀ y ∈ ls, Sm ks 5 y)
      ⟨ExB.new nD, (s4.new nD).up (by omega), [], fun _ => none, [], upd_same, fun _ _ z => (by cases z), fun _ _ z => (by cases z), .nil, rfl, fun _ m => by cases m⟩ (fun k H' hk hI => ?_) (fun H' hI => ?_)
    · obtain ⟨k1, k2, ws, Hw, ls, k3, k4, k5, k6, k7, k8⟩ := hI
      refine ⟨rfl, ?_⟩
      have A3 : Ex Hs4 H' := fun b o z => k1 b o (pc4 b o z) (eH4 _ _ z)
      refine ⟨.ref p, rfl, v3, rfl, p, c, 1000 * (i : Int) + 21 + 300 * (k : Int), v3, ks, Hs4, rfl, k2, by omega, A3, np4, nc4, rk, gk.k, by omega, fun x u H6 Hs gx e6 s6 eHs oHs rx => ?_⟩
      have HsD : ∀ b o, Hs b = some o → b ≠ D ∧ b ∉ [p, c] := fun b o z => by
        rcases oHs b o z with y | y
        · exact ⟨fun w => (by rw [w, D4] at y; cases y), pc4 b o y⟩
        · exact ⟨fun w => (by rw [w, k3] at y; cases y), nPC k2 y⟩
      have D6 : H6 D = some (.lst ws) := e6 _ _ Dpc k3
      have Hw6 : Ex Hw H6 := fun b o z => e6 b o (k5 b o z).2 (k4 b o z)
      refine ⟨ws, D6, by rw [Reps.len k6, k7]; exact sz_lt (by omega), fun b o m z => by
        rw [upd_ne (ne_of_none z nD)]
        exact (k1.trans e6) b o m z, (s6.mut Dpc).up (by omega), ws ++ [u], jn Hw Hs, ls ++ [x], upd_same, fun b o z => ?_, fun b o z => ?_, ?_, by rw [List.length_append, k7]; rfl, fun y hy => ?_⟩
      · rcases jn_of z with y | y
        · rw [upd_ne (k5 b o y).1]
          exact Hw6 _ _ y
        · rw [upd_ne (HsD b o y).1]
          exact eHs _ _ y
      · exact (jn_of z).elim (k5 b o) (HsD b o)
      · exact Reps.app (Reps.ext jn_l k6) (.cons (DV.ext (jn_r Hw6 eHs) rx) .nil)
      · rcases List.mem_append.mp hy with w | w
        · exact k8 y w
        · rw [List.mem_singleton.mp w]
          exact ⟨gx.1, gx.2.1, gx.2.2⟩
    obtain ⟨k1, k2, ws, Hw, ls, k3, k4, k5, k6, k7, k8⟩ := hI
    have k7 : ls.length = 3 := k7
    match ls, k6, k7, k8 with
    | [F, G, J], .cons (a := v4) rF (.cons (a := v5) rG (.cons (a := v6) rJ .nil)), _, k8 =>
      have mF : Sm ks 5 F := k8 F List.mem_cons_self
      have mG : Sm ks 5 G := k8 G (List.mem_cons_of_mem _ List.mem_cons_self)
      have mJ : Sm ks 5 J := k8 J (List.mem_cons_of_mem _ (List.mem_cons_of_mem _ List.mem_cons_self))
      have T : Fam2 ks F G := ⟨mF, mG, by omega, by omega⟩
      refine ⟨D, [v4, v5, v6], rfl, sq_of k3, rfl, v4, [v5, v6], rfl, v5, [v6], rfl, v6, [], rfl, rfl, ?_⟩
      have tb6 : Tabs [(Pt, lmQ)] H' := (tabs_cut s4 tb4).ext (cutP_exb k1)
      have B6 : Bs Hw H' Hw H' := Bs.start k4
      have s3l : DVT.sm ([F, G, J] : List FamT) := ⟨by simp, fun y hy => smD (k8 y hy)⟩
      refine b_asg B6 (ed_copied (d := 8) (E := E0) (ed_lst (eda_cons (ed_var (i := 4) (σ := [some (.ref a), some (.ref p), some (.int (0 + (i : Int))), some v3, some v4, some v5, some v6, y7, none]) rfl rF) (eda_cons (ed_var (i := 5) rfl rG) (eda_cons (ed_var (i := 6) rfl rJ) eda_nil))) (by simp)) s3l) fun v7 A7 H7 B7 x7 r7 => ?_
      obtain ⟨o6, hp6⟩ := k2.p
      obtain ⟨o7, hc6⟩ := k2.c
      have st7 : St H7 p c (1000 * (i : Int) + 921) := k2.ext ((B7.e _ _ hp6).trans hp6.symm) ((B7.e _ _ hc6).trans hc6.symm) (by omega)
      have pc7 : ∀ b o, A7 b = some o → b ∉ [p, c] := fun b o z m => by
        rcases B7.o b o z with y | y
        · exact (k5 b o y).2 m
        · exact nPC k2 y m
      have no7 : ∀ b, b ∈ [p, c] → A7 b = none := fun b m => by
        cases z : A7 b with
        | none => rfl
        | some o => exact absurd m (pc7 b o z)
      refine ⟨.ref p, rfl, v4, rfl, v5, rfl, p, c, 1000 * (i : Int) + 921, v4, v5, ks, F, G, A7, rfl, st7, by omega, B7.h, no7 p List.mem_cons_self, no7 c (List.mem_cons_of_mem _ List.mem_cons_self), tb6.ext B7.e, DV.ext x7 rF, DV.ext x7 rG, T, fun H8 n1 n2 R8 st8 => ?_⟩
      refine ⟨true, rfl, ?_⟩
      refine if_f ?_
      have exn : ExtN A7 (cutP p c H8) := fun b o z nt => cutP_mk (pc7 b o z) (n1 b o (pc7 b o z) (B7.h _ _ z) nt)
      have B8 : Bs (cutP p c H8) H8 (cutP p c H8) H8 := Bs.start cutP_ex
      have R8' : Rdy Pt lmQ lmPos (cutP p c H8) := rdy_cut st8 R8
      have qF : rep (cutP p c H8) v4 F := DVN.extN exn (DV.ext x7 rF)
      have qG : rep (cutP p c H8) v5 G := DVN.extN exn (DV.ext x7 rG)
      have qJ : rep (cutP p c H8) v6 J := DVN.extN exn (DV.ext x7 rJ)
      have qW : rep (cutP p c H8) v7 [F, G, J] := DVN.extN exn r7
      have no8 : ∀ b, b ∈ [p, c] → (cutP p c H8) b = none := fun b m => by
        cases z : (cutP p c H8) b with
        | none => rfl
        | some o => exact absurd m (cutP_of z).1
      generalize cutP p c H8 = A8 at B8 R8' qF qG qJ qW no8
      refine (et_not (et_B (ev_br (σ := [some (.ref a), some (.ref p), some (.int (0 + (i : Int))), some v3, some v4, some v5, some v6, some v7, none]) (i := 4) (j := 5) (k := 6) rfl rfl rfl R8' qF qG qJ T mJ))) H8 B8.h _ fun H9 e9 => ?_
      refine if_f ?_
      have B9 := B8.mono e9
      refine nx_of ?_
      change tIfS (tOr (tNot (tB (tCall (spLe Pt) [] E0 (tCons (tVar 4) (tCons (tVar 5) tNil))))) (tNot (tB (tCall (spNm Pt) [] E0 (tCons (tVar 1) (tCons (tVar 4) (tCons (tVar 5) tNil))))))) tNever tNext _ _ H9
      refine un_if ?_
      refine (et_not (et_B (ev_le (σ := [some (.ref a), some (.ref p), some (.int (0 + (i : Int))), some v3, some v4, some v5, some v6, some v7, none]) (i := 4) (j := 5) rfl rfl R8' qF qG T))) H9 B9.h _ fun H10 e10 => ?_
      refine if_f ?_
      have B10 := B9.mono e10
      obtain ⟨o8, hp8⟩ := st8.p
      obtain ⟨o9, hc8⟩ := st8.c
      have e810 := e9.trans e10
      have st10 : St H10 p c (1000 * (i : Int) + 931) := st8.ext ((e810 _ _ hp8).trans hp8.symm) ((e810 _ _ hc8).trans hc8.symm) (by omega)
      refine ⟨.ref p, rfl, v4, rfl, v5, rfl, p, c, 1000 * (i : Int) + 931, v4, v5, ks, F, G, A8, rfl, st10, by omega, B10.h, no8 p List.mem_cons_self, no8 c (List.mem_cons_of_mem _ List.mem_cons_self), R8', qF, qG, T, gk.s, fun H11 x11 eb11 st11 => ?_⟩
      refine ⟨true, rfl, ?_⟩
      refine if_f ?_
      have B11 : Bs A8 H11 A8 H11 := Bs.start x11
      refine b_if B11 (et_not (et_B (ev_same (d := 8) (E := E0) (ed_lst (eda_cons (ed_var (i := 4) (σ := [some (.ref a), some (.ref p), some (.int (0 + (i : Int))), some v3, some v4, some v5, some v6, some v7, none]) rfl qF) (eda_cons (ed_var (i := 5) rfl qG) (eda_cons (ed_var (i := 6) rfl qJ) eda_nil))) (by simp)) (ed_var (i := 7) rfl qW) rfl s3l))) (fun z => by cases z) fun _ H12 B12 => ?_
      obtain ⟨u1, w1⟩ := st11.p
      obtain ⟨u2, w2⟩ := st11.c
      exact ⟨_, _, _, _, _, _, rfl, st11.ext ((B12.e _ _ w1).trans w1.symm) ((B12.e _ _ w2).trans w2.symm) (by omega), R8'.t.ext B12.h⟩
end
end K07
/-! text H1 -/
set_option Elab.async false
set_option linter.all false
set_option maxRecDepth 100000
set_option maxHeartbeats 0
/-! the head: facts by names, the run -/
namespace K07
open PySem PySem.Spec PyProof.Rows L2 Dw XvC PySem.HandSPX
def defD (p : Nat × PySem.Str) : He.DefD := ⟨(p.2, none), p.2, p.2, defArgs (top p.1), defBody (top p.1), defScope (top p.1), [], []⟩
def fn : List He.DefD := lawDefs.map defD
def fa : List He.Fa := frees.map He.Fa.free ++ (lawDefs.map (·.2)).map He.Fa.glo ++ [He.Fa.glo "NoLots"]
def tf : List He.Defn := [("least_of", none)]
def exx (K : PySem.W.Frag) : Bool := PySem.W.excIn K (He.ga K "NoLots") veTail "ValueError.__new__" && (PySem.W.keepIn K (.ref (He.ga K "NoLots")) && (decide (PySem.W.subIn K (.ref (He.ga K "NoLots")) (.type "BaseException") = some true) && (decide (PySem.W.typeIn K (.ref (He.ga K "NoLots")) = some (.type "type")) &&
  (decide (PySem.W.exmOne K (.ref (He.ga K "NoLots")) (.ref (He.ga K "NoLots")) = some true) && (!Nat.beq (He.ga K "fallen_family") (He.ga K "trusted_family") && !Nat.beq (He.ga K "both_families") (He.ga K "either_family"))))))
def loose : List PySem.Str := (["LotError", "BadFamily", "BadKeeper", "BadNaming", "BadOtherFamily", "LastKeeper", "NoLots"] : List PySem.Str) ++ (["is_list", "is_name", "is_one_of", "are_keepers", "are_some_of", "is_lot_of", "holds", "meet", "is_family", "told_family", "checked_family", "least_of", "apart_pairs", "known_keeper", "size_counts"] : List PySem.Str) ++ (["less_keeper", "fallen_family", "trusted_family", "two_families", "all_keepers", "both_families", "either_family", "renamed_family", "_law_a_names", "_law_a_within", "_law_a_least", "_law_a_lot", "_law_start", "_law_draw", "_law_pick"] : List PySem.Str) ++ (["_law_mixed", "_law_copied", "_law_same", "_law_each_once", "_law_of", "_law_tried", "_law_over_right", "_law_brackets_right", "_law_least_right", "_law_names_right"] : List PySem.Str)
abbrev R : PySem.W.OpenRow := PySem.W.OpenLaw.row PySem.Challenge.rw_meetinglots_k07_main_lattice_of_families
abbrev hk : PySem.W.Hook := He.hookX 6 fa fn [] tf exx
def ob (s : PySem.W.SharedT) : He.AlX := He.obsX 6 fa fn [] tf exx (HandSHeadRun.getT s)
theorem ob_eq (s : PySem.W.SharedT) : ob s = hk.obs s.abs := He.obsX_eq (HandSHeadRun.getT_eq s)
theorem run (w : World) : HandSHeadRun.RunEq R (PySem.W.view R.prog [53]) hk ob 12000 loose w := by
  intro os
  kernel_rfl
end K07
/-! text Z07 -/
set_option Elab.async false
set_option linter.all false
set_option maxRecDepth 100000
set_option maxHeartbeats 4000000
/-! what the head tells, put together -/
namespace K07
open PySem PySem.Spec PyProof.Rows L2 Evl PySem.W Dw Dw.DV RZ StX Lot LmV LamX NdefX XvE XvC PySem.HandSPX
def csOf (K : PySem.W.Frag) : List (Addr × Addr) := tf.map fun p => He.cT K p
def ptOf (K : PySem.W.Frag) : Addr := (He.cT K ("least_of", none)).2
theorem bad {a b : Bool} (h : (a && b) = true) : a = true ∧ b = true := Bool.and_eq_true_iff.mp h
theorem ne_nat {a b : Nat} (h : (!Nat.beq a b) = true) : a ≠ b := fun e => by
  rw [e, Nat.beq_refl] at h
  cases h
section
variable {w : World} {h : Heap} {K : PySem.W.Frag} {mg : Str → Option Value} {base : Heap}
theorem mem_def {i : Nat} {n : Str} (m : (i, n) ∈ lawDefs) : defD (i, n) ∈ fn := List.mem_map.mpr ⟨_, m, rfl⟩
theorem mem_free {n : Str} (m : n ∈ frees) : He.Fa.free n ∈ fa := List.mem_append_left _ (List.mem_append_left _ (List.mem_map.mpr ⟨_, m, rfl⟩))
theorem mem_glo {n : Str} (m : n ∈ lawDefs.map (·.2)) : He.Fa.glo n ∈ fa := List.mem_append_left _ (List.mem_append_right _ (List.mem_map.mpr ⟨_, m, rfl⟩))
theorem dfOf (c : He.SaysX fa fn [] tf exx w h K) (X : K.In h) (G : h.Ns mainGlobals mg) {i : Nat} {n : Str} (m : (i, n) ∈ lawDefs) : ∃ fd, Df K mg n i (He.ga K n) fd := by
  obtain ⟨fd, F⟩ := c.t.d.defs (mem_def m)
  exact ⟨fd, F, He.glo_ok X G (c.t.d.facts (mem_glo (List.mem_map.mpr ⟨_, m, rfl⟩)))⟩
theorem tabs0 {H : Hp} (hT : ∀ p ∈ csOf K, H p.2 = some (.tbl #[])) : Tabs [(ptOf K, lmQ)] H := fun q hq => by
  rw [List.mem_singleton.mp hq]
  exact ⟨#[], hT (He.cT K ("least_of", none)) (List.mem_map.mpr ⟨_, List.mem_cons_self, rfl⟩), True.intro, fun pos cv z => by cases z⟩
/-- the law at the head's heap -/
theorem law_at (l : PySem.W.OpenLaw) (c : He.SaysX fa fn [] tf exx w h K) (X : K.In h) (G : h.Ns mainGlobals mg) {f : Addr} (hf : mg ("law" : Str) = some (.ref f)) : LawAtS l w K CX0 11 63 "script" mg f h := by
  obtain ⟨z1, y⟩ := bad c.more
  obtain ⟨z2, y⟩ := bad y
  obtain ⟨z3, y⟩ := bad y
  obtain ⟨z4, y⟩ := bad y
  obtain ⟨z5, y⟩ := bad y
  obtain ⟨z6, z7⟩ := bad y
  have fr : ∀ {n : Str}, n ∈ frees → mg n = none := fun m => He.free_ok X G (c.t.d.facts (mem_free m))
  obtain ⟨dL, p_dL⟩ := dfOf c X G (i := 9) (n := "is_list") (by decide +kernel)
  obtain ⟨dN, p_dN⟩ := dfOf c X G (i := 10) (n := "is_name") (by decide +kernel)
  obtain ⟨d1, p_d1⟩ := dfOf c X G (i := 11) (n := "is_one_of") (by decide +kernel)
  obtain ⟨dK, p_dK⟩ := dfOf c X G (i := 13) (n := "are_keepers") (by decide +kernel)
  obtain ⟨dS, p_dS⟩ := dfOf c X G (i := 14) (n := "are_some_of") (by decide +kernel)
  obtain ⟨dO, p_dO⟩ := dfOf c X G (i := 15) (n := "is_lot_of") (by decide +kernel)
  obtain ⟨dH, p_dH⟩ := dfOf c X G (i := 16) (n := "holds") (by decide +kernel)
  obtain ⟨dF, p_dF⟩ := dfOf c X G (i := 18) (n := "is_family") (by decide +kernel)
  obtain ⟨dT, p_dT⟩ := dfOf c X G (i := 19) (n := "told_family") (by decide +kernel)
  obtain ⟨dC, p_dC⟩ := dfOf c X G (i := 20) (n := "checked_family") (by decide +kernel)
  obtain ⟨dW, p_dW⟩ := dfOf c X G (i := 21) (n := "least_of") (by decide +kernel)
  obtain ⟨dU, p_dU⟩ := dfOf c X G (i := 30) (n := "two_families") (by decide +kernel)
  obtain ⟨dV, p_dV⟩ := dfOf c X G (i := 31) (n := "all_keepers") (by decide +kernel)
  obtain ⟨dBo, p_dBo⟩ := dfOf c X G (i := 32) (n := "both_families") (by decide +kernel)
  obtain ⟨dEi, p_dEi⟩ := dfOf c X G (i := 33) (n := "either_family") (by decide +kernel)
  obtain ⟨dCo, p_dCo⟩ := dfOf c X G (i := 44) (n := "_law_copied") (by decide +kernel)
  obtain ⟨dSa, p_dSa⟩ := dfOf c X G (i := 45) (n := "_law_same") (by decide +kernel)
  obtain ⟨dQ, p_dQ⟩ := dfOf c X G (i := 24) (n := "known_keeper") (by decide +kernel)
  obtain ⟨dR, p_dR⟩ := dfOf c X G (i := 27) (n := "less_keeper") (by decide +kernel)
  obtain ⟨dA, p_dA⟩ := dfOf c X G (i := 28) (n := "fallen_family") (by decide +kernel)
  obtain ⟨dB, p_dB⟩ := dfOf c X G (i := 29) (n := "trusted_family") (by decide +kernel)
  obtain ⟨dTr, p_dTr⟩ := dfOf c X G (i := 48) (n := "_law_tried") (by decide +kernel)
  obtain ⟨dPi, p_dPi⟩ := dfOf c X G (i := 42) (n := "_law_pick") (by decide +kernel)
  obtain ⟨dD, p_dD⟩ := dfOf c X G (i := 41) (n := "_law_draw") (by decide +kernel)
  obtain ⟨dAl, p_dAl⟩ := dfOf c X G (i := 38) (n := "_law_a_least") (by decide +kernel)
  obtain ⟨dOn, p_dOn⟩ := dfOf c X G (i := 46) (n := "_law_each_once") (by decide +kernel)
  obtain ⟨dWi, p_dWi⟩ := dfOf c X G (i := 37) (n := "_law_a_within") (by decide +kernel)
  obtain ⟨dMi, p_dMi⟩ := dfOf c X G (i := 43) (n := "_law_mixed") (by decide +kernel)
  obtain ⟨dRe, p_dRe⟩ := dfOf c X G (i := 34) (n := "renamed_family") (by decide +kernel)
  obtain ⟨dSc, p_dSc⟩ := dfOf c X G (i := 25) (n := "size_counts") (by decide +kernel)
  obtain ⟨dAp, p_dAp⟩ := dfOf c X G (i := 23) (n := "apart_pairs") (by decide +kernel)
  obtain ⟨dMe, p_dMe⟩ := dfOf c X G (i := 17) (n := "meet") (by decide +kernel)
  obtain ⟨dSt, p_dSt⟩ := dfOf c X G (i := 40) (n := "_law_start") (by decide +kernel)
  obtain ⟨dNa, p_dNa⟩ := dfOf c X G (i := 36) (n := "_law_a_names") (by decide +kernel)
  obtain ⟨dLo, p_dLo⟩ := dfOf c X G (i := 39) (n := "_law_a_lot") (by decide +kernel)
  obtain ⟨dOf, p_dOf⟩ := dfOf c X G (i := 47) (n := "_law_of") (by decide +kernel)
  obtain ⟨dOv, p_dOv⟩ := dfOf c X G (i := 49) (n := "_law_over_right") (by decide +kernel)
  obtain ⟨dBr, p_dBr⟩ := dfOf c X G (i := 50) (n := "_law_brackets_right") (by decide +kernel)
  obtain ⟨dLe, p_dLe⟩ := dfOf c X G (i := 51) (n := "_law_least_right") (by decide +kernel)
  obtain ⟨dNm, p_dNm⟩ := dfOf c X G (i := 52) (n := "_law_names_right") (by decide +kernel)
  obtain ⟨fd, p_law⟩ := dfOf c X G (i := 53) (n := "law") (by decide +kernel)
  have e := hf.symm.trans p_law.g
  cases e
  have b := FunD.bindsA (ps := ["script"]) p_law.F fun _ _ _ _ _ _ us hl => match us, hl with | [_], _ => rfl
  have B : Bn mg := ⟨fr (n := "isinstance") (by decide +kernel), fr (n := "str") (by decide +kernel), fr (n := "list") (by decide +kernel), fr (n := "tuple") (by decide +kernel), fr (n := "dict") (by decide +kernel), fr (n := "int") (by decide +kernel), fr (n := "bool") (by decide +kernel), fr (n := "len") (by decide +kernel), fr (n := "all") (by decide +kernel), fr (n := "any") (by decide +kernel), fr (n := "zip") (by decide +kernel), fr (n := "sum") (by decide +kernel), fr (n := "range") (by decide +kernel), fr (n := "sorted") (by decide +kernel), fr (n := "enumerate") (by decide +kernel)⟩
  have Z : Fs K mg _ _ _ _ _ _ _ _ _ _ _ _ _ _ _ _ _ _ := ⟨p_dL, p_dN, p_d1, p_dK, p_dS, p_dO, p_dH, p_dF, p_dT⟩
  have L : Ls K mg _ _ _ _ _ _ _ _ := ⟨p_dBo, p_dEi, p_dCo, p_dSa⟩
  have NL : NoX K mg "NoLots" (He.ga K "NoLots") := ⟨z1, He.glo_ok X G (c.t.d.facts (List.mem_append_right _ List.mem_cons_self)), z2, of_decide_eq_true z3, of_decide_eq_true z4, of_decide_eq_true z5⟩
  have M : Ms K mg _ _ _ _ _ _ _ _ _ _ _ _ _ _ _ _ _ _ _ _ _ := ⟨NL, p_dQ, p_dR, p_dA, p_dB, p_dTr, p_dPi, p_dD, p_dAl, p_dOn, p_dWi, ne_nat z6⟩
  have N : Ns K mg _ _ _ _ _ _ _ _ _ _ := ⟨p_dMi, p_dRe, p_dSc, p_dAp, p_dMe⟩
  have O : Os K mg _ _ _ _ _ _ _ _ _ _ _ _ _ _ _ _ := ⟨p_dSt, p_dNa, p_dLo, p_dOf, p_dOv, p_dBr, p_dLe, p_dNm⟩
  refine ⟨fd, csOf K, spLaw K (ptOf K), fun p hp => ?_, fun p hp => ?_, fun p hp => ?_, fun s v => b s [v] rfl, fun H a ns hl _ hT hS => ⟨a, ns, rfl, hS, hl, tabs0 hT, fun _ => rfl⟩, fun base _ _ TB => ?_⟩
  · obtain ⟨q, hq, rfl⟩ := List.mem_map.mp hp
    exact c.empty q hq
  · obtain ⟨q, hq, rfl⟩ := List.mem_map.mp hp
    exact c.out q hq
  · obtain ⟨q, hq, rfl⟩ := List.mem_map.mp hp
    exact PySem.W.codeHd_of_K X (c.hd q hq)
  · have tt : ∀ cd, dW.code = .ref cd → TabB base mg cd (ptOf K) := fun cd hc => by
      have t := TB (He.cT K ("least_of", none)) (List.mem_map.mpr ⟨_, List.mem_cons_self, rfl⟩)
      have e : (He.cT K ("least_of", none)).1 = cd := by
        obtain ⟨oc, od, dV, kV, doc, pm, an, cdv, ct, osl, rfl, lk, _⟩ := p_dW.F.ex
        exact He.codeOf_eq (p := ("least_of", none)) lk hc
      rw [e] at t
      exact t
    have Y : Gs K mg base (ptOf K) _ _ _ _ _ _ _ _ := ⟨p_dC, p_dW, p_dU, p_dV, tt⟩
    exact ok_law p_law.F B Z Y L M N O (ne_nat z7)
end
end K07
/-! text Z08 -/
set_option Elab.async false
set_option linter.all false
set_option maxRecDepth 100000
set_option maxHeartbeats 0
/-! the theorem -/
open PySem PySem.W PySem.Calls PyProof.Rows
theorem PySem.Challenge.cw_meetinglots_k07_main_lattice_of_families_holds : PySem.Challenge.rw_meetinglots_k07_main_lattice_of_families.Holds := by
  w_on; o_law
  refine HandSHeadRun.head_any (r := OpenLaw.row PySem.Challenge.rw_meetinglots_k07_main_lattice_of_families) (q := view (OpenLaw.row PySem.Challenge.rw_meetinglots_k07_main_lattice_of_families).prog [53]) (H := K07.hk) (ob := K07.ob) (M := 12000) (loose := K07.loose) (d := HandSHeadRun.topDef (OpenLaw.row PySem.Challenge.rw_meetinglots_k07_main_lattice_of_families).prog 53) (kwd := []) K07.ob_eq
    (by kernel_rfl) (fun s => by kernel_rfl) K07.run (by kernel_rfl) (by kernel_rfl) (by kernel_rfl) (by rfl) (by first | assumption | decide +kernel) (by decide +kernel) ⟨rfl, rfl, rfl, rfl, rfl, by decide +kernel⟩ ?hw ?hc
  case hw => w_witness2
  case hc =>
    refine LamX.walk_ofTsE (l := PySem.Challenge.rw_meetinglots_k07_main_lattice_of_families) (n := 63) (k := 11) (x := "script") (CX := fun _ => L2.CX0) rfl (by decide) (by kernel_rfl) ⟨rfl, by decide, by decide⟩ ?F (fun _ _ _ _ _ z => z)
    intro w mg fa h Y G hmg0
    obtain ⟨K, KX, c⟩ := Y
    refine ⟨K, KX, K07.law_at _ c KX G ?_⟩
    have e : (HandSHeadRun.topDef (OpenLaw.row PySem.Challenge.rw_meetinglots_k07_main_lattice_of_families).prog 53).name = ("law" : PySem.Str) := by kernel_rfl
    rw [← e]
    exact hmg0
