import PyProof.Rows.All
import Wide.All
import OpenK.AllK
import Wide.FinOn
import HandS.ForExc
import HandS.ExcInit
import HandS.ExcField
import HandS.ExcIs
import HandS.IsInst
import HandS.Defaults
import HandS.ExcValue
import KE.KExcIs
import HandS.Lambda
import HandS.Nested
import HandS.Words
import HandS.WordsExc
import HandS.Head0
import HandS.Head1
import HandS.Head2
import HandS.HeadEnd
import HandS.HeadHook1
import HandS.HeadHook2
import HandS.HeadHook3
import HandS.HeadHook4
import HandS.HeadWalk
import PySem.Challenge.RW_meetinglots_k00_errors_made
import HandS.ForMost
import HandS.Evl
import HandS.Zip
import HandS.Walk
import HandS.ListItems
import HandS.NoneIn
import KE.KStateDown
/-! text Xv1 -/
set_option Elab.async false
set_option linter.all false
set_option maxRecDepth 100000
set_option maxHeartbeats 4000000
/-! own exceptions as values: made by place and by names, fields read, isinstance -/
namespace PySem
namespace XvL
open PySem.W PySem.Calls PyProof.Rows PySem.HandSPX
section
variable {M : Model} {A : Around} {E : Value → Shared → Prop} {h : Heap} {g : Array GenState} {d : Drawn} {t : Nat} {os : OsState}
variable {nm q : Str} {C N : Addr} {bs bm bmB : List Value} {hdct : Bool} {sn : List Str} {sub : List Value} {ab : Bool} {col : Option Bool} {dd : Option Addr} {k0 k1 k2 k3 k5 : Option Value} {B newId initId : String}
theorem check_newK (F : ExcBaseFacts B newId initId bmB) (hT : ∀ X : String, bm.contains (.type X) = bmB.contains (.type X)) {rest : List Value} {kw : List (Str × Value)} {Q : Unit → Shared → Prop}
    (hC : h.get? C = some (excClassObj nm q C N bs bm hdct sn sub ab col dd k0 k1 k2 k3 k5 newId)) (hq : Q () ⟨h, g, d, t, os⟩) : wpAny M A (checkBuiltinCall newId ⟨.ref C :: rest, kw⟩) Q E ⟨h, g, d, t, os⟩ := by
  have hcont : (Value.ref C :: bm).contains (.type B) = true := by rw [List.contains_cons, hT, F.hasB, Bool.or_true]
  have hstar := F.noStar
  simp only [checkBuiltinCall, F.newKind, F.newSplit, F.newRow]
  repeat (first | refine wpAny_loadPart_at hC ?_ | (refine wpAny_isSubtype_exc hC ?_; rw [hcont]) | refine wpAny_staticBase_exc hC ?_ | refine wpAny_madeBy_exc hC ?_ | simp only [bne_self_eq_false, Bool.false_eq_true, if_false] | wp_step)
  exact hq
end
section
variable {prog : Program} {w : World} {A : Around} {E : Value → Shared → Prop} {R : Result → Shared → Prop} {h : Heap} {g : Array GenState} {d : Drawn} {t : Nat} {os : OsState}
variable {nm q : Str} {C N : Addr} {bs bm bmB : List Value} {hdct : Bool} {sn : List Str} {sub : List Value} {ab : Bool} {col : Option Bool} {dd : Option Addr} {k0 k1 k2 k3 k5 : Option Value} {B newId initId : String}
theorem newK (F : ExcBaseFacts B newId initId bmB) (hT : ∀ X : String, bm.contains (.type X) = bmB.contains (.type X)) {rest : List Value} {kw : List (Str × Value)}
    (hC : h.get? C = some (excClassObj nm q C N bs bm hdct sn sub ab col dd k0 k1 k2 k3 k5 newId))
    (hq : R (.ok (.ret (.ref (h.objs.size + 1)))) ⟨(h.push { cls := .type "tuple", data := .seq rest.toArray }).push
      { cls := .ref C, data := .fields #[.ref h.objs.size, .none, .none, .none, .bool false, .none] }, g, d, t, os⟩) (hrest : rest.length ≤ sizeLine) :
    codeAny (model prog w) A (.builtin newId ⟨.ref C :: rest, kw⟩) R ⟨h, g, d, t, os⟩ := by
  have hends := F.ends
  have hcB : (Value.ref C :: bm).contains (.type B) = true := by rw [List.contains_cons, hT, F.hasB, Bool.or_true]
  have hcA : (Value.ref C :: bm).contains (.type "AttributeError") = false := by rw [List.contains_cons, hT, F.noAttr]; rfl
  have hcN : (Value.ref C :: bm).contains (.type "NameError") = false := by rw [List.contains_cons, hT, F.noName]; rfl
  refine codeAny_builtinAt F.entry ?_
  unfold Builtin.«BaseException.__new__»
  refine wpAt_bind ?_
  show wpAt _ _ _ (stack >>= _) _ _ _
  refine wpAt_bind (wpAt_stack fun p below => wpAt_of_wpAny ?_)
  wp_walk
  refine wpAt_of_wpAny ?_
  rw [F.owner]
  repeat (first | with_reducible refine wpAny_madeHere_exc F.canon hC ?_ | with_reducible refine wpAny_loadPart_at hC ?_ | (with_reducible refine wpAny_isSubtype_exc hC ?_; first | rw [hcB] | rw [hcA] | rw [hcN]) | wp_step)
  show R _ _
  rw [Heap.size_push]
  exact hq
theorem type_callK (F : ExcBaseFacts B newId initId bmB) (hT : ∀ X : String, bm.contains (.type X) = bmB.contains (.type X)) {rest : List Value} {kw : List (Str × Value)} {fI : Addr} {Q : Fin → Shared → Prop}
    (hC : h.get? C = some (excClassObj nm q C N bs bm hdct sn sub ab col dd k0 k1 k2 k3 k5 newId))
    (hi : W.Looks (model prog w) h (typeLookup (.ref C) "__init__") (some (.ref fI))) (hb : ∀ self, W.Looks (model prog w) h (bindSpecial (.ref fI) self) (.ref fI, [self])) (hrest : rest.length ≤ sizeLine)
    (hq : codeAny (model prog w) A (.call (.ref fI) ⟨.ref (h.objs.size + 1) :: rest, kw⟩)
      (fun r s' => match r with | .ok (.ret v) => v = .none ∧ Q (.done (.ret (.ref (h.objs.size + 1)))) s' | .ok _ => False | .error e => E e s')
      ⟨(h.push (W.kdv_tup rest)).push (excO C h.objs.size), g, d, t, os⟩) :
    wpAny (model prog w) A (Builtin.«type.__call__» ⟨.ref C :: rest, kw⟩) Q E ⟨h, g, d, t, os⟩ := by
  repeat (first | with_reducible refine wpAny_loadPart_at hC ?_ | with_reducible refine wpAny_madeBy_exc hC ?_ | wp_step)
  refine codeAny_call_builtin_code (Code.quiet_builtin _ F.quiet) (check_newK F hT hC ?_)
  refine newK F hT hC ?_ hrest
  show wpAny _ _ _ _ _ _
  have k : ∀ b o, h.get? b = some o → ((h.push (W.kdv_tup rest)).push (excO C h.objs.size)).get? b = some o := fun b o e => Heap.get?_push_of_some _ (Heap.get?_push_of_some _ e)
  have hC₁ := k _ _ hC
  have hget : ((h.push (W.kdv_tup rest)).push (excO C h.objs.size)).get? (h.objs.size + 1) = some (excO C h.objs.size) := by heap_get
  have hcC : (Value.ref C :: bm).contains (.ref C) = true := by simp
  have i1 := hi.keeps k
  have b1 := (hb (.ref (h.objs.size + 1))).keeps k
  unfold isInstance
  repeat (first | with_reducible refine wpAny_loadPart_at hget ?_ | (with_reducible refine wpAny_isSubtype_exc hC₁ ?_; rw [hcC]) | wp_step)
  show wpAny _ _ (typeLookup (.ref C) _) _ _ _
  refine i1.at ?_
  refine wpAny_holding (wpAny_bind (b1.at ?_))
  refine wpAny_bind (wpAny_call (codeAny_mono hq fun r s' z => ?_))
  rcases r with e | (v | _ | _ | _) <;> first | exact z | exact z.elim | skip
  obtain ⟨rfl, z⟩ := z
  first
    | exact wpAny_pure (wpAny_pure z)
    | (wp_walk; exact z)
theorem call_ownK (F : ExcBaseFacts B newId initId bmB) (hT : ∀ X : String, bm.contains (.type X) = bmB.contains (.type X)) {rest : List Value} {kw : List (Str × Value)} {fI : Addr}
    (hC : h.get? C = some (excClassObj nm q C N bs bm hdct sn sub ab col dd k0 k1 k2 k3 k5 newId))
    (hi : W.Looks (model prog w) h (typeLookup (.ref C) "__init__") (some (.ref fI))) (hb : ∀ self, W.Looks (model prog w) h (bindSpecial (.ref fI) self) (.ref fI, [self])) (hrest : rest.length ≤ sizeLine)
    (hq : codeAny (model prog w) (A.under (.builtin "type.__call__" ⟨.ref C :: rest, kw⟩)) (.call (.ref fI) ⟨.ref (h.objs.size + 1) :: rest, kw⟩) (W.InitBack (h.objs.size + 1) R)
      ⟨(h.push (W.kdv_tup rest)).push (excO C h.objs.size), g, d, t, os⟩) :
    codeAny (model prog w) A (.call (.ref C) ⟨rest, kw⟩) R ⟨h, g, d, t, os⟩ := by
  have f1 := tc_lookup
  have f2 := tc_bind (.ref C)
  have hTy : (⟨h, g, d, t, os⟩ : Shared).TypeIs (.ref C) "type" := ⟨_, hC, rfl⟩
  refine codeAny_of_tree ?_
  show wpAny _ _ (callAny (.ref C) _) _ _ _
  repeat (any_goals (first | assumption | with_reducible refine wpAny_loadPart_at hC ?_ | wp_step))
  refine ⟨rfl, ?_⟩
  refine codeAny_call_builtin_at (Code.quiet_builtin _ (by decide +kernel)) entry_typeCall (wpAny_check_type_call_sub hC (type_callK F hT hC hi hb hrest ?_))
  refine codeAny_mono hq fun r s' z => ?_
  rcases r with e | (v | _ | _ | _) <;> exact z
end
end XvL
end PySem
/-! text Xv2 -/
set_option Elab.async false
set_option linter.all false
set_option maxRecDepth 100000
set_option maxHeartbeats 4000000
/-! own exceptions as values, over the layer -/
namespace XvC
open PySem PySem.Spec PyProof.Rows L2 PySem.HandSPX
/-! ### what the written part says of such a class -/
def shB (K : PySem.W.Frag) (C : Addr) (m : List Value) : Bool := match K.lookup C with
  | some ⟨.type t, _, .cls cd, sl⟩ => (match sl.toList with
    | [_, _, _, _, some (.builtin n), _] => decide (t = "type") && (decide (n = "ValueError.__new__") && (!cd.hasDel && (cd.hasDict && decide (cd.mro = m))))
    | _ => false)
  | _ => false
def atB (K : PySem.W.Frag) (C : Addr) : Bool := decide (PySem.W.findIn K (.ref C) "__setattr__" = some (some (.builtin "object.__setattr__"))) && (decide (PySem.W.typeIn K (.ref C) = some (.type "type")) && (PySem.W.keepIn K (.ref C) && (
  decide (PySem.W.findIn K (.ref C) "__getattribute__" = some (some (.builtin "BaseException.__getattribute__"))) && (decide (PySem.W.findIn K (.ref C) "__getattr__" = some none) && (
  decide (PySem.W.findIn K (.ref C) "__class__" = some (some (.builtin "object.__class__"))) && (decide (PySem.W.specialIn K (.builtin "object.__class__") "__get__" = some (some (.builtin "getset_descriptor.__get__"))) &&
  decide (PySem.W.takesIn K (.builtin "object.__class__") = some true)))))))
/-- the base of all; a class right beneath it -/
def exB (K : PySem.W.Frag) (L : Addr) : Bool := shB K L (.ref L :: veTail) && atB K L
def exC (K : PySem.W.Frag) (L C : Addr) : Bool := shB K C (.ref C :: .ref L :: veTail) && atB K C
def noB (K : PySem.W.Frag) (C : Addr) (f : Str) : Bool := decide (PySem.W.findIn K (.ref C) f = some none)
def initB (K : PySem.W.Frag) (C f : Addr) : Bool := decide (PySem.W.findIn K (.ref C) "__init__" = some (some (.ref f))) && decide (PySem.W.typeIn K (.ref f) = some (.type "function"))
def bareB (K : PySem.W.Frag) (C : Addr) : Bool := PySem.W.excIn K C veTail "ValueError.__new__"
theorem ba {a b : Bool} (h : (a && b) = true) : a = true ∧ b = true := Bool.and_eq_true_iff.mp h
/-- an exception class: its mro -/
structure Xc (K : PySem.W.Frag) (C : Addr) (m : List Value) : Prop where
  lk : ∃ nm q N bs sn sub ab col dd k0 k1 k2 k3 k5, K.lookup C = some (excClassObj nm q C N bs m true sn sub ab col dd k0 k1 k2 k3 k5 "ValueError.__new__")
  rf : refsVE m = true
  sa : PySem.W.findIn K (.ref C) "__setattr__" = some (some (.builtin "object.__setattr__"))
  tyC : PySem.W.typeIn K (.ref C) = some (.type "type")
  kC : PySem.W.keepIn K (.ref C) = true
  hg : PySem.W.findIn K (.ref C) "__getattribute__" = some (some (.builtin "BaseException.__getattribute__"))
  hk : PySem.W.findIn K (.ref C) "__getattr__" = some none
  ha : PySem.W.findIn K (.ref C) "__class__" = some (some (.builtin "object.__class__"))
  hn : PySem.W.specialIn K (.builtin "object.__class__") "__get__" = some (some (.builtin "getset_descriptor.__get__"))
  ht : PySem.W.takesIn K (.builtin "object.__class__") = some true
theorem sh_ok {K : PySem.W.Frag} {C : Addr} {m : List Value} (h : shB K C (.ref C :: m) = true) : ∃ nm q N bs sn sub ab col dd k0 k1 k2 k3 k5, K.lookup C = some (excClassObj nm q C N bs m true sn sub ab col dd k0 k1 k2 k3 k5 "ValueError.__new__") := by
  unfold shB at h
  split at h
  · rename_i t dd cd sl ho
    split at h
    · rename_i k0 k1 k2 k3 n k5 hs
      obtain ⟨h1, h⟩ := ba h
      obtain ⟨h2, h⟩ := ba h
      obtain ⟨h3, h⟩ := ba h
      obtain ⟨h4, h5⟩ := ba h
      obtain ⟨nm, bs, mro, ns, qn, hd, sn, sub, ab, col, del⟩ := cd
      dsimp only at h3 h4 h5
      have e1 := of_decide_eq_true h1
      have e2 := of_decide_eq_true h2
      have e5 := of_decide_eq_true h5
      have e3 : del = false := by cases del <;> first | rfl | cases h3
      have hsl : sl = #[k0, k1, k2, k3, some (.builtin n), k5] := by
        obtain ⟨l⟩ := sl
        have e : l = [k0, k1, k2, k3, some (.builtin n), k5] := hs
        rw [e]
      subst e1 e2 e3 e5 h4 hsl
      exact ⟨_, _, _, _, _, _, _, _, _, _, _, _, _, _, ho⟩
    · cases h
  · cases h
theorem xc_of {K : PySem.W.Frag} {C : Addr} {m : List Value} (rf : refsVE m = true) (h : (shB K C (.ref C :: m) && atB K C) = true) : Xc K C m := by
  obtain ⟨h1, h⟩ := ba h
  obtain ⟨a1, h⟩ := ba h
  obtain ⟨a2, h⟩ := ba h
  obtain ⟨a3, h⟩ := ba h
  obtain ⟨a4, h⟩ := ba h
  obtain ⟨a5, h⟩ := ba h
  obtain ⟨a6, h⟩ := ba h
  obtain ⟨a7, a8⟩ := ba h
  exact ⟨sh_ok h1, rf, of_decide_eq_true a1, of_decide_eq_true a2, a3, of_decide_eq_true a4, of_decide_eq_true a5, of_decide_eq_true a6, of_decide_eq_true a7, of_decide_eq_true a8⟩
section
variable {K : PySem.W.Frag} {C : Addr} {m : List Value}
theorem Xc.cls (T : Xc K C m) : ∃ cd, PySem.W.clsIn K C = some cd ∧ cd.mro = .ref C :: m ∧ cd.hasDict = true := by
  obtain ⟨nm, q, N, bs, sn, sub, ab, col, dd, k0, k1, k2, k3, k5, hC⟩ := T.lk
  exact ⟨{ name := nm, bases := bs, mro := .ref C :: m, ns := N, qualname := q, hasDict := true, slotNames := sn, subclasses := sub, abstract := ab, collection := col, hasDel := false }, by unfold PySem.W.clsIn; rw [hC] <;> rfl, rfl, rfl⟩
theorem Xc.sub (T : Xc K C m) (b : Value) : PySem.W.subIn K (.ref C) b = some ((Value.ref C :: m).contains b) := by
  obtain ⟨cd, h1, h2, _⟩ := T.cls
  show PySem.W.mroIn K C b = _
  unfold PySem.W.mroIn
  rw [h1, Option.bind_some, h2, if_neg (show ¬ (Value.ref C :: m).isEmpty = true from fun z => nomatch z)]
theorem Xc.subT (T : Xc K C m) (n : String) : PySem.W.subIn K (.ref C) (.type n) = some (veTail.contains (.type n)) := by
  rw [T.sub, List.contains_cons, refsVE_contains n m T.rf]
  rfl
theorem Xc.exC (T : Xc K C m) : PySem.W.subIn K (.ref C) (.type "BaseException") = some true := by rw [T.subT]; rfl
theorem Xc.hasD (T : Xc K C m) : PySem.W.hasDictIn K C = true := by
  obtain ⟨cd, h1, _, h3⟩ := T.cls
  unfold PySem.W.hasDictIn
  rw [h1]
  exact h3
theorem Xc.hm (T : Xc K C m) : PySem.W.mroIn K C (.type "object") = some true := by
  have e := T.subT "object"
  rw [show veTail.contains (Value.type "object") = true by decide +kernel] at e
  exact e
theorem Xc.oex (T : Xc K C m) : OexC K C := by
  obtain ⟨nm, q, N, bs, sn, sub, ab, col, dd, k0, k1, k2, k3, k5, hC⟩ := T.lk
  exact ⟨⟨nm, q, N, bs, m, sn, sub, ab, col, dd, k0, k1, k2, k3, k5, hC, T.rf⟩, T.sa, T.exC, T.tyC, T.kC⟩
end
/-! ### reading the class: isinstance -/
end XvC
namespace PySem.W
open Lean Elab Tactic Meta PySem PySem.Calls PyProof.Rows PyProof.V PySem.Spec
section
variable {prog : Program} {w : World} {A : Around} {E : Value → Shared → Prop} {s : Shared} {K : Frag} {D x : Addr} {ox : Obj} {od : Option Obj}
theorem xv_kit {gt : Option Value} (T : ∃ m, XvC.Xc K D m) : KitX K (.ref x) (.ref D) (fun h => ∃ ox od, InstAt h x ox D od) where
  ty := fun _ _ _ ⟨_, _, I⟩ => I.type
  it := fun _ _ X _ => by
    obtain ⟨m, T⟩ := T
    obtain ⟨nm, q, N, bs, sn, sub, ab, col, dd, k0, k1, k2, k3, k5, ho⟩ := T.lk
    intro A' Q' E' s' k q
    unfold isType loadHead
    exact wpAny_bind (wpAny_loadPart (k _ _ (X _ _ ho)) (wpAny_pure q))
  ne := fun h tp dd its n sl X htp => by
    obtain ⟨m, T⟩ := T
    obtain ⟨nm, q, N, bs, sn, sub, ab, col, dd, k0, k1, k2, k3, k5, ho⟩ := T.lk
    refine Bool.eq_false_iff.mpr fun q => ?_
    have e : D = tp := Value.ref.inj (beq_iff_eq.mp q)
    subst e
    have z := congrArg Obj.data (Option.some.inj ((X _ _ ho).symm.trans htp))
    cases z
  ca := fun {prog w A E Q s} X ⟨ox, od, I⟩ k => by
    obtain ⟨m, T⟩ := T
    obtain ⟨cd, hc, _⟩ := T.cls
    have hf : findObj K D od "__class__" = some (.bind (.builtin "getset_descriptor.__get__") (.builtin "object.__class__")) := findObj_dataE (by rw [hc]; rfl) T.ha T.hn T.ht
    exact kx_classE X I T.hg T.hk T.exC hf T.hm k
end
end PySem.W
/-! text Xv3 -/
set_option Elab.async false
set_option linter.all false
set_option maxRecDepth 100000
set_option maxHeartbeats 4000000
/-! own exceptions as values: the rules -/
namespace XvC
open PySem PySem.Spec PyProof.Rows L2 PySem.HandSPX
/-- an exception object of the class at C, its fields -/
def ExcAt (H : Hp) (a C : Addr) (fs : List (Str × V)) : Prop := (fs = [] ∧ H a = some (exo a C none)) ∨ ∃ d, H a = some (exo a C (some d)) ∧ H d = some (exd d fs)
theorem ExcAt.ext {H H' : Hp} {a C : Addr} {fs : List (Str × V)} (h : ExcAt H a C fs) (e : ∀ b o, H b = some o → H' b = some o) : ExcAt H' a C fs := by
  rcases h with ⟨h1, h2⟩ | ⟨d, h1, h2⟩
  · exact .inl ⟨h1, e _ _ h2⟩
  · exact .inr ⟨d, e _ _ h1, e _ _ h2⟩
section
variable {X : Cx} {pins : List (Addr × Obj)} {σ : L2.St} {H : Hp} {s : Shared} {a C : Addr} {fs : List (Str × V)}
theorem ExcAt.inst (h : ExcAt H a C fs) (I : Inv X pins σ H s) : ∃ ox od, PySem.W.InstAt s.heap a ox C od ∧ ∀ f v, fs.lookup f = some v → ∃ oD u, od = some oD ∧ RelV v u ∧ PySem.W.lookIn f oD = some (some u) := by
  rcases h with ⟨rfl, h1⟩ | ⟨d, h1, h2⟩
  · obtain ⟨t, ho⟩ := exo_at I.hok h1
    exact ⟨_, none, ⟨ho, rfl, rfl, trivial⟩, fun f v e => by cases e⟩
  · obtain ⟨t, ho⟩ := exo_at I.hok h1
    obtain ⟨mA, hns, hr⟩ := exd_at I.hok h2
    obtain ⟨od, hod, hl⟩ := lookIn_ns hns
    refine ⟨_, some od, ⟨ho, rfl, rfl, hod⟩, fun f v e => ?_⟩
    obtain ⟨u, hu, ru⟩ := RelO.some_of (v := v) (o := mA f) (by rw [← e]; exact hr f)
    exact ⟨od, u, rfl, ru, by rw [hl, hu]⟩
end
/-! ### e.f -/
def tXfld (K : PySem.W.Frag) (n : Str) (te : TE) : TE := fun σ H Q => te σ H fun x H1 => ∃ a C fs v, x = .ref a ∧ ExcAt H1 a C fs ∧ (∃ m, Xc K C m) ∧ PySem.W.findIn K (.ref C) n = some none ∧ fs.lookup n = some v ∧ Q v H1
theorem pe_xfld {X : Cx} {e : Expr} {te : TE} {pos : Pos} {n : Str} (he : PE X e te) (hb : attributeBase e n X.env (eval e X.env) = eval e X.env := by rfl) : PE X (.Attribute e n pos) (tXfld X.K n te) := by
  refine ⟨fun pins s σ H Q I h => ?_⟩
  refine attr_of hb (thn (he.run pins s σ H _ I h) fun u s1 hh => ?_)
  obtain ⟨x, H1, I1, rx, a, C, fs, v, ex, ha, ⟨m, T⟩, hno, l, q⟩ := hh
  subst ex
  obtain rfl : u = Value.ref a := rx
  obtain ⟨ox, od, J, hl⟩ := ha.inst I1
  obtain ⟨oD, u, rfl, ru, hu⟩ := hl n v l
  exact HandSPX.exc_get I1.kIn J T.hg T.hk T.exC (PySem.W.findObj_own T.hasD hno rfl hu) (handed_of ru) ⟨v, H1, I1.tok _, ru, q⟩
/-! ### isinstance(e, C) -/
def rIsX (K : PySem.W.Frag) : List V → Hp → VK → Prop := fun xs H Q => ∃ (a C : Addr) (fs : List (Str × V)) (c : V) (cv : Value) (b : Bool), xs = [.ref a, c] ∧ ExcAt H a C fs ∧ (∃ m, Xc K C m) ∧ ClsV c cv ∧ PySem.W.kitOne K (.ref C) cv = some b ∧ Q (.bl b) H
theorem call_isX {X : Cx} : CallR X (.builtin "isinstance") (rIsX X.K) := by
  intro pins s σ H xs us Q I r h
  obtain ⟨a, C, fs, c, cv, b, rfl, ha, T, k, e, q⟩ := h
  obtain ⟨u1, u2, rfl, r1, r2⟩ := vals2 r
  cases (show u1 = Value.ref a from r1)
  have e2 := k.eq r2
  subst e2
  obtain ⟨ox, od, J, _⟩ := ha.inst I
  exact PySem.W.kia_one (PySem.W.xv_kit (gt := none) T) I.kIn ⟨ox, od, J⟩ e (fun z => nomatch z) fun tk => ⟨.bl b, H, I.tok tk, rfl, q⟩
/-! ### C(..), C's own __init__ a def that stores its parameters -/
/-- what __init__ does: the fields fns get the arguments -/
def spInit (C : Addr) (fns : List Str) : Sp := fun vs H Q _ => ∃ a us, vs = .ref a :: us ∧ us.length = fns.length ∧ H a = some (exo a C none) ∧
  ∀ d H', H d = none → d ≠ a → H' d = some (exd d (fns.zip us).reverse) → H' a = some (exo a C (some d)) → (∀ b, b ≠ d → b ≠ a → H' b = H b) → Q .non H'
/-- C(e, .., k = v, ..): us the values by the parameters' order -/
def tMkX (C : Addr) (fns : List Str) (n : Nat) (m : Nat) (g : List V → List V → List V) (t tk : TA) : TE := fun σ H Q => t σ H fun vs H1 => tk σ H1 fun zs H2 => vs.length = n ∧ zs.length = m ∧
  ∀ a d H3, H2 a = none → H2 d = none → d ≠ a → H3 d = some (exd d (fns.zip (g vs zs)).reverse) → H3 a = some (exo a C (some d)) → (∀ b, b ≠ d → b ≠ a → H3 b = H2 b) → Q (.ref a) H3
section
variable {X : Cx} {CX : CXT} {k n : Nat} {fI C : Addr} {fd : FuncData} {ps ks fns : List Str} {x : Str} {p pos : Pos} {e : Expr} {es : List Expr} {kws : List Keyword} {t tk : TA} {m : List Value}
theorem run_mkX {pins : List (Addr × Obj)} {σ : L2.St} {H : Hp} {s : Shared} {Q : VK} {us as : List Value} {ys : List V} {kw : List (Str × Value)} (T : Xc X.K C m) (iC : PySem.W.findIn X.K (.ref C) "__init__" = some (some (.ref fI))) (tI : PySem.W.typeIn X.K (.ref fI) = some (.type "function"))
    (F1 : FnOk X.prog X.w X.K X.mg X.base CX k fI fd ps (spInit C fns)) (hr : Room (k + 1) X.A) (hx : Passes CX X (fun _ _ _ => False)) (I : Inv X pins σ H s) (hus : us.length ≤ sizeLine) (r : Vals ys as) (hl : ys.length = fns.length)
    (hb : ∀ (s : Shared) (v : Value), BindsTo s fd ⟨v :: us, kw⟩ (ps.zip (v :: as)))
    (h : ∀ a d H3, H a = none → H d = none → d ≠ a → H3 d = some (exd d (fns.zip ys).reverse) → H3 a = some (exo a C (some d)) → (∀ b, b ≠ d → b ≠ a → H3 b = H b) → Q (.ref a) H3) :
    wpAny (model X.prog X.w) X.A (call (.ref C) us kw) (EP X pins σ Q) X.xe s := by
  obtain ⟨nm, q, N, bs, sn, sub, ab, col, dd, k0, k1, k2, k3, k5, hC⟩ := T.lk
  obtain ⟨hp, g, dr, tk, os⟩ := s
  have hsz : hp.objs.size ≤ hp.objs.size + 1 := Nat.le_succ _
  have hn : H (hp.objs.size + 1) = none := I.hok.fresh hsz
  have kk : ∀ b o, hp.get? b = some o → ((hp.push (PySem.W.kdv_tup us)).push (PySem.HandSPX.excO C hp.objs.size)).get? b = some o := fun b o e => Heap.get?_push_of_some _ (Heap.get?_push_of_some _ e)
  have hget : ((hp.push (PySem.W.kdv_tup us)).push (PySem.HandSPX.excO C hp.objs.size)).get? (hp.objs.size + 1) = some (PySem.HandSPX.excO C hp.objs.size) := by heap_get
  have I2 : Inv X pins σ (upd H (hp.objs.size + 1) (exo (hp.objs.size + 1) C none)) ⟨(hp.push (PySem.W.kdv_tup us)).push (PySem.HandSPX.excO C hp.objs.size), g, dr, tk, os⟩ :=
    I.laid (t' := tk) (a := hp.objs.size + 1) (o := exo (hp.objs.size + 1) C none) (h' := (hp.push (PySem.W.kdv_tup us)).push (PySem.HandSPX.excO C hp.objs.size)) kk hsz (exo_ok hget)
  have r2 : Vals (V.ref (hp.objs.size + 1) :: ys) (Value.ref (hp.objs.size + 1) :: as) := .cons rfl r
  have hq : spInit C fns (V.ref (hp.objs.size + 1) :: ys) (upd H (hp.objs.size + 1) (exo (hp.objs.size + 1) C none)) (fun v H2 => v = .non ∧ Q (.ref (hp.objs.size + 1)) H2) (fun _ _ _ => False) := by
    refine ⟨_, ys, rfl, hl, upd_same, fun d H' hd hda h1 h2 h3 => ⟨rfl, h _ d H' hn ?_ hda h1 h2 fun b hb hb2 => ?_⟩⟩
    · rw [upd_ne hda] at hd
      exact hd
    · rw [h3 b hb hb2, upd_ne hb2]
  refine wpAny_call (PySem.XvL.call_ownK F.excBase_ValueError (fun Y => PySem.HandSPX.refsVE_contains Y m T.rf) (I.kIn _ _ hC) (PySem.W.looks_findIn I.kIn iC) (fun self => PySem.W.bind_fn I.kIn self tI) hus
    (codeAny_mono (F1.run _ X.stack _ _ ⟨Value.ref (hp.objs.size + 1) :: us, kw⟩ (Value.ref (hp.objs.size + 1) :: as) _ _ (fun _ _ _ => False) (hr.make C us kw) (I2.env0.make C us kw) (hb _ _) r2 hq) fun r s' hq' => ?_))
  cases r with
  | error er => exact hx pins σ _ _ er s' I2 hq'
  | ok fl =>
    cases fl with
    | ret u =>
      obtain ⟨v, H', I3, rv, ev, q3⟩ := I2.after hq'
      subst ev
      exact ⟨rv, ⟨V.ref (hp.objs.size + 1), H', I3, rfl, q3⟩⟩
    | next => exact False.elim hq'
    | brk => exact False.elim hq'
    | cont => exact False.elim hq'
/-- C(e, ..) -/
theorem pe_mkX (T : Xc X.K C m) (iC : PySem.W.findIn X.K (.ref C) "__init__" = some (some (.ref fI))) (tI : PySem.W.typeIn X.K (.ref fI) = some (.type "function"))
    (F1 : FnOk X.prog X.w X.K X.mg X.base CX k fI fd ps (spInit C fns)) (hr : Room (k + 1) X.A) (hx : Passes CX X (fun _ _ _ => False)) (hg : Gl X x) (hm : X.mg x = some (.ref C)) (ha : PA X (e :: es) t)
    (hb : ∀ (s : Shared) (v : Value) (us : List Value), us.length = fns.length → BindsTo s fd ⟨v :: us, []⟩ (ps.zip (v :: us))) (hn : fns.length ≤ 1000)
    (hdb : (x == ("__debug__" : Str)) = false := by decide) (he : starEach (e :: es) X.env = (false, eval e X.env) :: starEach es X.env := by rfl) (hpl : (backTo pos (starEach es X.env)).any (·.1) = false := by rfl) :
    PE X (.Call (.Name x p) (e :: es) [] pos) (tMkX C fns fns.length 0 (fun vs _ => vs) t tNil) := by
  refine ⟨fun pins s σ H Q I h => ?_⟩
  refine wpAny_Call_Name_kw (ld_glob I hg hm ?_ hdb)
  refine PySem.W.callWith_K (h₀ := X.base) I.ok.mod.kin T.kC (thn (ha.run pos pins s σ H _ I h) fun us s1 ⟨vs, H1, I1, r1, hl, _, q⟩ => ⟨I1.kIn, ?_⟩) he hpl
  show wpAny _ _ (call (.ref C) us) _ _ _
  have e1 := r1.length
  exact run_mkX T iC tI F1 hr hx I1 (by rw [sizeLine_eq]; omega) r1 hl (fun s v => hb s v us (by omega)) q
/-- C(k = v, ..) -/
theorem pe_mkXK {g : {α : Type} → List α → List α} (T : Xc X.K C m) (iC : PySem.W.findIn X.K (.ref C) "__init__" = some (some (.ref fI))) (tI : PySem.W.typeIn X.K (.ref fI) = some (.type "function"))
    (F1 : FnOk X.prog X.w X.K X.mg X.base CX k fI fd ps (spInit C fns)) (hr : Room (k + 1) X.A) (hx : Passes CX X (fun _ _ _ => False)) (hg : Gl X x) (hm : X.mg x = some (.ref C)) (hkw : PK X kws tk)
    (hrel : ∀ {zs : List V} {ws : List Value}, zs.length = ks.length → Vals zs ws → Vals (g zs) (g ws) ∧ (g zs).length = fns.length)
    (hb : ∀ (s : Shared) (v : Value) (ws : List Value), ws.length = ks.length → BindsTo s fd ⟨[v], ks.zip ws⟩ (ps.zip (v :: g ws)))
    (hall : (backToKw pos (keywordEach kws X.env)).all (·.1.isSome) = true := by rfl) (hks : (backToKw pos (keywordEach kws X.env)).filterMap (·.1) = ks := by rfl) (hdb : (x == ("__debug__" : Str)) = false := by decide)
    (hpl : ((backTo pos (starEach [] X.env)).any (·.1) || (backToKw pos (keywordEach kws X.env)).any (·.1.isNone)) = false := by rfl) :
    PE X (.Call (.Name x p) [] kws pos) (tMkX C fns 0 ks.length (fun _ zs => g zs) tNil tk) := by
  refine ⟨fun pins s σ H Q I h => ?_⟩
  refine wpAny_Call_Name_kw (ld_glob I hg hm ?_ hdb)
  refine PySem.W.callWith_KW0 (h₀ := X.base) I.ok.mod.kin T.kC hall ?_ hpl
  refine thn (hkw.run pos pins s σ H _ I h) fun ws s2 ⟨zs, H2, I2, rz, _, l2, q2⟩ => ⟨I2.kIn, ?_⟩
  rw [hks]
  have e1 := rz.length
  obtain ⟨r2, hl2⟩ := hrel l2 rz
  exact run_mkX T iC tI F1 hr hx I2 (us := []) (by rw [sizeLine_eq]; simp) r2 hl2 (fun s v => hb s v ws (by omega)) q2
/-- C(), no __init__ of its own -/
theorem pe_mkX0 {bmB : List Value} (T : Xc X.K C m) (q : PySem.W.excIn X.K C veTail "ValueError.__new__" = true) (hg : Gl X x) (hm : X.mg x = some (.ref C)) (hdb : (x == ("__debug__" : Str)) = false := by decide) :
    PE X (.Call (.Name x p) [] [] pos) (fun _ H Q => ∀ a, H a = none → Q (.ref a) (upd H a (exo a C none))) := by
  refine ⟨fun pins s σ H Q I h => ?_⟩
  refine wpAny_Call_Name_kw (ld_glob I hg hm ?_ hdb)
  refine PySem.W.callWith_K0 I.kIn T.kC ?_
  show wpAny _ _ (call (.ref C) []) _ _ _
  obtain ⟨bm, N, nm, qn, bs, hdct, sn, sub, ab, col, dd, k0, k1, k2, k3, k5, mN, hC, hN, hni, OT⟩ := exc_obj I.kIn q
  refine wpAny_call_exc_subT F.excBase_ValueError OT hC hN hni (fun h' a hm => ?_) (by show 0 ≤ sizeLine; omega)
  have hn : H a = none := I.hok.gone hm.new
  obtain ⟨t, ht, _, _⟩ := hm.there
  exact ⟨.ref a, upd H a (exo a C none), I.laidN hm.keeps hm.new hn (exo_ok ht), rfl, h a hn⟩
end
end XvC
/-! text Xv4 -/
set_option Elab.async false
set_option linter.all false
set_option maxRecDepth 100000
set_option maxHeartbeats 4000000
/-! lambdas with parameters as values: made, kept, called -/
namespace LmV
open PySem PySem.Spec PyProof.Rows L2 LamX NdefX
structure LF where
  qual : Str
  params : Arguments
  body : Expr
  scope : Scope
  cl : List (Str × Addr)
  c : Addr
/-- the object at f is the lambda F -/
def LamO (f : Addr) (F : LF) : HO := .ext fun h => ∃ pm ctv : Value, h.get? f = some (PySem.W.kla_obj "<lambda>" F.qual F.params F.body F.scope F.cl pm F.c ctv)
theorem lamO_at {P : Program} {w : World} {H : Hp} {h : Heap} {f : Addr} {F : LF} (hok : HOk P w H h) (e : H f = some (LamO f F)) : ∃ pm ctv : Value, h.get? f = some (PySem.W.kla_obj "<lambda>" F.qual F.params F.body F.scope F.cl pm F.c ctv) := by
  obtain ⟨z, _, _⟩ := hok f _ e
  exact z
theorem lamO_ne {f : Addr} {F : LF} (ps : Array Value) : LamO f F ≠ .tbl ps := fun z => by
  unfold LamO at z
  cases z
section
variable {X : Cx} {pins : List (Addr × Obj)} {σ : L2.St} {H : Hp} {s : Shared}
theorem inv_lam {F : LF} {t' : Nat} {pm ctv : Value} (I : Inv X pins σ H s) :
    Inv X pins σ (upd H s.heap.objs.size (LamO s.heap.objs.size F)) { s with heap := s.heap.push (PySem.W.kla_obj "<lambda>" F.qual F.params F.body F.scope F.cl pm F.c ctv), toks := t' } := by
  refine I.laid (a := s.heap.objs.size) (fun b u e => Heap.get?_push_of_some _ e) (Nat.le_refl _) ?_
  have e : (s.heap.push (PySem.W.kla_obj "<lambda>" F.qual F.params F.body F.scope F.cl pm F.c ctv)).get? s.heap.objs.size = some (PySem.W.kla_obj "<lambda>" F.qual F.params F.body F.scope F.cl pm F.c ctv) := Heap.get?_push_size _ rfl
  exact ⟨⟨pm, ctv, e⟩, ⟨_, e⟩, fun h1 h2 ⟨p, t, z⟩ st => ⟨p, t, st _ z⟩⟩
theorem lam_makeT {T : List (Addr × Str)} {c P : Addr} {params : Arguments} {body : Expr} {scope : Scope} {pos : Pos} {E : Value → Shared → Prop} {Q : Value → Shared → Prop} (I : Inv X pins σ H s) (TB : TabB X.base X.mg c P) (hcode : X.env.code = .ref c)
    (hm : (P, X.env.qual ++ "<lambda>") ∈ T) (hu : ∀ p ∈ T, p.1 = P → p.2 = X.env.qual ++ "<lambda>") (hT : Tabs T H) (hdef : defaultsOf params X.env = ([], [])) (hfree : ∀ y ∈ scope.names, y.2 = .free → ∃ c, X.env.cells.lookup y.1 = some c)
    (h : ∀ (f c' : Addr) (H1 : Hp) (s' : Shared), Inv X pins σ H1 s' → ExtN H H1 → (∀ b, H1 b = none → H b = none) → Tabs T H1 → H f = none → H1 f = some (LamO f ⟨X.env.qual ++ "<lambda>", params, body, scope, cloFrom X.env.cells scope.names [], c'⟩) → H1 c' = some (CodeO c' (X.env.qual ++ "<lambda>")) → Q (.ref f) s') :
    wpAny (model X.prog X.w) X.A (eval (.Lambda params body scope pos) X.env) Q E s := by
  obtain ⟨ps, hP, ht, ha⟩ := hT _ hm
  refine PySem.W.kla_eval hdef ?_
  have bP : s.heap.BuiltinsAt X.mg P := TB.bm.keeps I.bk
  have hP' : s.heap.get? P = some { cls := .none, data := .fields ps } := I.hok P _ hP
  cases hc : codeAmong pos ps.toList with
  | none =>
    refine PySem.W.kla_makeFunction (mg := X.mg) (c := c) (P := P) (ps := ps) (closure_ok hfree) I.ok.glob (I.mod.glob.keeps I.bk) hcode (TB.code.keeps I.bk) hP' ht hc TB.gP bP fun c' ctv h' tk hx hge hlt hrec htb => ?_
    obtain ⟨c2, oc, vs, t, e2, hoc, hd, hv⟩ := hrec
    cases e2
    have nC : H c' = none := I.hok.fresh hge
    have I1 := inv_table (t' := tk) (more := #[rawInt pos.line, rawInt pos.col, .ref c']) (h' := h') I hP (fun b o hb e => hx b o hb e) htb hge ⟨oc, vs, t, hoc, hd, hv⟩
    have hE : ExtN H (upd (upd H P (.tbl (ps ++ #[rawInt pos.line, rawInt pos.col, .ref c']))) c' (CodeO c' (X.env.qual ++ "<lambda>"))) := fun b o e n => by
      rw [upd_ne (ne_of_none e nC), upd_ne (fun z => n ps (Option.some.inj (e.symm.trans (by rw [z]; exact hP))))]
      exact e
    have eL : (ps ++ #[rawInt pos.line, rawInt pos.col, .ref c']).toList = ps.toList ++ [rawInt pos.line, rawInt pos.col, .ref c'] := by simp
    have T1 : Tabs T (upd (upd H P (.tbl (ps ++ #[rawInt pos.line, rawInt pos.col, .ref c']))) c' (CodeO c' (X.env.qual ++ "<lambda>"))) := fun p hp => by
      by_cases hb : p.1 = P
      · rw [hu p hp hb, hb]
        refine ⟨_, by rw [upd_ne (ne_of_none hP nC), upd_same], by rw [eL]; exact PySem.TriplesOk_snoc _ _ _ _ ht, fun p' cv hcv => ?_⟩
        rw [eL] at hcv
        rcases among_app _ ht hcv with z | z
        · obtain ⟨c0, e1, e2⟩ := ha p' cv z
          exact ⟨c0, e1, hE _ _ e2 codeO_ne⟩
        · exact ⟨c', z, upd_same⟩
      · obtain ⟨ps', a1, a2, a3⟩ := hT p hp
        refine ⟨ps', by rw [upd_ne (ne_of_none a1 nC), upd_ne hb]; exact a1, a2, fun p' cv hcv => ?_⟩
        obtain ⟨c0, e1, e2⟩ := a3 p' cv hcv
        exact ⟨c0, e1, hE _ _ e2 codeO_ne⟩
    have nF := I1.hok.fresh (Nat.le_refl _)
    have I2 := inv_lam (F := ⟨X.env.qual ++ "<lambda>", params, body, scope, cloFrom X.env.cells scope.names [], c'⟩) (t' := tk) (pm := (X.mg "__name__").getD .none) (ctv := ctv) I1
    refine h h'.objs.size c' _ _ I2 (fun b o e n => ?_) (fun b e => upd_none (upd_none (upd_none e))) (T1.ext fun b o e => ?_) (I.hok.fresh (Nat.le_trans hge (Nat.le_of_lt hlt))) upd_same ?_
    · have e1 := hE b o e n
      exact (upd_ne (ne_of_none e1 nF)).trans e1
    · exact (upd_ne (ne_of_none e nF)).trans e
    · exact (upd_ne (Nat.ne_of_lt hlt)).trans upd_same
  | some cv =>
    obtain ⟨c', e, hco⟩ := ha pos cv hc
    subst e
    refine PySem.W.kla_makeFunctionHit (mg := X.mg) (c := c) (P := P) (ps := ps) (closure_ok hfree) I.ok.glob (I.mod.glob.keeps I.bk) hcode (TB.code.keeps I.bk) hP' ht hc bP fun ctv h' tk hx hsz => ?_
    have I1 : Inv X pins σ H { s with heap := h', toks := tk } := I.kept hx
    have nF : H h'.objs.size = none := I1.hok.fresh (Nat.le_refl _)
    have I2 := inv_lam (F := ⟨X.env.qual ++ "<lambda>", params, body, scope, cloFrom X.env.cells scope.names [], c'⟩) (t' := tk) (pm := (X.mg "__name__").getD .none) (ctv := ctv) I1
    refine h h'.objs.size c' _ _ I2 (fun b o e n => ?_) (fun b e => upd_none e) (hT.ext fun b o e => ?_) nF upd_same ?_
    · exact (upd_ne (ne_of_none e nF)).trans e
    · exact (upd_ne (ne_of_none e nF)).trans e
    · exact (upd_ne (ne_of_none hco nF)).trans hco
end
/-! ### the expression -/
def tLamV (T : List (Addr × Str)) (mk : Addr → LF) : TE := fun σ H Q => Tabs T H ∧ ∀ (f c' : Addr) (H1 : Hp), ExtN H H1 → (∀ b, H1 b = none → H b = none) → Tabs T H1 → H f = none → H1 f = some (LamO f (mk c')) → H1 c' = some (CodeO c' (mk c').qual) → Q (.ref f) H1
section
variable {X : Cx}
theorem pe_lamV {T : List (Addr × Str)} {c P : Addr} {params : Arguments} {body : Expr} {scope : Scope} {pos : Pos} {q : Str} (TB : TabB X.base X.mg c P) (hcode : X.env.code = .ref c) (hq : X.env.qual ++ "<lambda>" = q)
    (hm : (P, q) ∈ T) (hu : ∀ p ∈ T, p.1 = P → p.2 = q) (hdef : defaultsOf params X.env = ([], [])) (hfree : ∀ y ∈ scope.names, y.2 ≠ .free) :
    PE X (.Lambda params body scope pos) (tLamV T fun c' => ⟨q, params, body, scope, [], c'⟩) := by
  subst hq
  refine ⟨fun pins s σ H Q I h => ?_⟩
  obtain ⟨hT, h⟩ := h
  have e : cloFrom X.env.cells scope.names [] = [] := by
    cases hcl : cloFrom X.env.cells scope.names [] with
    | nil => rfl
    | cons p r =>
      obtain ⟨y, c⟩ := p
      have hmem : (y, c) ∈ cloFrom X.env.cells scope.names [] := by rw [hcl]; exact List.mem_cons_self
      rcases cloFrom_mem hmem with z | ⟨z, _⟩
      · cases z
      · exact absurd rfl (hfree _ z)
  refine lam_makeT I TB hcode hm hu hT hdef (fun y hy z => absurd z (hfree y hy)) fun f c' H1 s' I1 eN nn T1 f0 f1 c1 => ?_
  rw [e] at f1
  exact ⟨.ref f, H1, I1, rfl, h f c' H1 eN nn T1 f0 f1 c1⟩
end
/-! ### its call -/
/-- what the lambda F promises (no captured names) -/
structure LOk (P : Program) (w : World) (K : PySem.W.Frag) (mg : Str → Option Value) (base : Heap) (CX : CXT) (k : Nat) (F : LF) (ps : List Str) (sp : Sp) : Prop where
  len : ∀ vs H Q E, sp vs H Q E → vs.length = ps.length
  run : ∀ (f : Addr) (A : Around) (outer : List Env) (s : Shared) (H : Hp) (us : List Value) (vs : List V) (Q : VK) (E : XK), Room k A → Env0 P w K mg base A outer s H → H f = some (LamO f F) → H F.c = some (CodeO F.c F.qual) →
    Vals vs us → sp vs H Q E → codeAny (model P w) A (.call (.ref f) ⟨us, []⟩) (CR CX outer P w H s Q E) s
def LF.nf (F : LF) : NF := ⟨"<lambda>", F.qual, F.params, [], F.scope, F.cl, F.c⟩
section
variable {CX : CXT} {P : Program} {w : World} {K : PySem.W.Frag} {mg : Str → Option Value} {base : Heap} {N ps : List Str} {F : LF} {k : Nat} {sp : Sp}
theorem lok_of (S : NScope N ps [] F.scope) (hcl : F.cl = []) (hb : ∀ (pm ctv : Value) (us : List Value), us.length = ps.length → bindArgs (PySem.W.kla_fn "<lambda>" F.qual F.params F.body F.scope F.cl pm (.ref F.c) ctv) ⟨us, []⟩ = pure (ps.zip us)) (len : ∀ vs H Q E, sp vs H Q E → vs.length = ps.length)
    (hbody : ∀ (f : Addr) (A : Around) (outer : List Env) (s : Shared) (H : Hp) (vs : List V) (Q : VK) (E : XK), Room k (A.deeper (envF F.nf f s.heap.objs.size)) → sp vs H Q E →
      ∃ t, PE (ncx CX P w K mg base N F.nf f A outer s H E) F.body t ∧ t (startF N vs []) H Q) :
    LOk P w K mg base CX (k + 1) F ps sp := by
  refine ⟨len, fun f A outer s H us vs Q E hr e0 hf hc r hsp => ?_⟩
  have hl := len _ _ _ _ hsp
  have lim : s.heap.NoLimit := e0.mod.nolimit.keeps fun b o e => (e0.bs b o e).1
  obtain ⟨pm, ctv, ho⟩ := lamO_at e0.hok hf
  refine PySem.W.kla_callFunE hr.depth ho rfl S.co S.gen rfl (codeO_at e0.hok hc) ?_
  rw [hb pm ctv us (by rw [← r.length]; exact hl)]
  refine wpAny_pure (wpAny_newFunctionEnv S.nocell (fun ⟨n, _⟩ hy => S.par n (List.of_mem_zip hy).1) (fun h₁ hns hsb => ⟨lim.fresh _ hsb, ?_⟩) S.kind)
  show codeAny _ _ (.expr F.body (envF F.nf f s.heap.objs.size)) _ _
  have kp : ∀ b o, s.heap.get? b = some o → h₁.get? b = some o := fun b o e => hsb.extBut b o (Nat.ne_of_lt (Heap.lt_size e)) (Heap.get?_push_of_some _ e)
  obtain ⟨t, ht, hq⟩ := hbody f A outer s H vs Q E (hr.deeper _) hsp
  have C : CellsAt F.nf.cl [] [] s.heap H := by
    show CellsAt F.cl [] [] s.heap H
    rw [hcl]
    exact { len := rfl, all := fun y c z => (nomatch (show (none : Option Addr) = some c from z)), inj := fun x y c z => (nomatch (show (none : Option Addr) = some c from z)), has := fun i y z => by simp at z }
  have I : Inv (ncx CX P w K mg base N F.nf f A outer s H E) [] (startF N vs []) H { s with heap := h₁, toks := s.toks + (ps.zip us).length } := inv_startN (F := F.nf) S hr.hd e0 hl r C hns kp
  refine PySem.W.kla_codeExpr (wpAny_mono (ht.run [] _ (startF N vs []) H Q I hq) (fun u s' hs => ?_) fun e s' hs => hs)
  obtain ⟨v, H', J, rv, q⟩ := hs
  exact ⟨v, H', J.os, J.bare, J.base, J.hok, rv, q⟩
end
/-- g(e, ..), g a local name that holds a lambda -/
def tCallLam (i : Nat) (S : LF → Option Sp) (E : XK) (t : TA) : TE := fun σ H Q => ∃ f F sp, σ[i]? = some (some (.ref f)) ∧ S F = some sp ∧ H f = some (LamO f F) ∧ t σ H fun vs H1 => H1 f = some (LamO f F) ∧ H1 F.c = some (CodeO F.c F.qual) ∧ sp vs H1 Q E
section
variable {X : Cx} {CX : CXT} {k i : Nat} {x : Str} {p pos : Pos} {e : Expr} {es : List Expr} {t : TA} {ps : List Str} {S : LF → Option Sp} {E : XK}
theorem pe_callLam (A : ∀ F sp, S F = some sp → LOk X.prog X.w X.K X.mg X.base CX k F ps sp) (hr : Room k X.A) (hx : Passes CX X E) (hN : X.N[i]? = some x) (hv : Vis X.env.scope x) (ha : PA X (e :: es) t)
    (hd : (x == ("__debug__" : Str)) = false := by decide) (hcd : (x == ("__classdict__" : Str)) = false := by decide)
    (he : starEach (e :: es) X.env = (false, eval e X.env) :: starEach es X.env := by rfl) (hpl : (backTo pos (starEach es X.env)).any (·.1) = false := by rfl) :
    PE X (.Call (.Name x p) (e :: es) [] pos) (tCallLam i S E t) := by
  refine ⟨fun pins s σ H Q I h => ?_⟩
  obtain ⟨f, F, sp, hs, hS, hf, ht⟩ := h
  refine wpAny_Call_Name_kw (thn ((pe_var (pos := p) (i := i) hN hv hd hcd).run pins s σ H (fun v H1 => v = .ref f ∧ H1 = H) I ⟨.ref f, hs, rfl, rfl⟩) fun u s1 ⟨v, H1, I1, r1, ev, eH⟩ => ?_)
  subst ev
  rw [eH] at I1
  obtain rfl : u = Value.ref f := r1
  obtain ⟨pm0, ctv0, ho0⟩ := lamO_at I1.hok hf
  refine PySem.W.callWith_F ⟨_, _, _, _, ho0⟩ (thn (ha.run pos pins s1 σ H _ I1 ht) fun us s2 ⟨vs, H2, I2, r2, hf2, hc2, hsp⟩ => ?_) he hpl
  obtain ⟨pm1, ctv1, ho1⟩ := lamO_at I2.hok hf2
  refine ⟨⟨_, _, _, _, ho1⟩, wpAny_call (codeAny_mono ((A F sp hS).run f X.A X.stack s2 H2 us vs Q E hr I2.env0 hf2 hc2 r2 hsp) fun r s' hq => ?_)⟩
  cases r with
  | error e => exact hx pins σ H2 s2 e s' I2 hq
  | ok fl =>
    cases fl with
    | ret u => exact I2.after hq
    | next => exact False.elim hq
    | brk => exact False.elim hq
    | cont => exact False.elim hq
end
end LmV
/-! text Tx00 -/
set_option Elab.async false
set_option linter.all false
set_option maxRecDepth 100000
set_option maxHeartbeats 0
namespace K00
open PySem PySem.Spec PyProof.Rows L2
/-! ### the text -/
def top (i : Nat) : Stmt := PySem.Challenge.pw_meetinglots_k00_errors_made.main.body.getD i (.Pass ⟨0, 0, 0, 0⟩)
def clsInit (s : Stmt) : Stmt := match s with
  | .ClassDef _ _ _ (b :: _) _ _ _ _ _ _ _ => b
  | s => s
/-- classes with an own __init__: their places in the text, names -/
def ownCls : List (Nat × PySem.Str) := ([(3, "BadAnswers"), (4, "BadBegin"), (5, "BadBook"), (6, "BadBooks"), (7, "BadClient"), (8, "BadClients"), (9, "BadCouncil"), (10, "BadCouncilbook"), (11, "BadDeed"), (12, "BadDeedRow"), (13, "BadFailed"), (14, "BadFailing"), (15, "BadFallen"), (16, "BadFamily"), (17, "BadFaults"), (18, "BadFirst"), (19, "BadForm"), (20, "BadHistory"), (21, "BadHistoryRow"), (22, "BadInner")] : List (Nat × PySem.Str)) ++ ([(23, "BadKeeper"), (24, "BadKeepers"), (25, "BadKind"), (26, "BadLast"), (27, "BadLot"), (28, "BadLots"), (29, "BadMany"), (30, "BadMost"), (31, "BadName"), (32, "BadNames"), (33, "BadNaming"), (34, "BadNumber"), (35, "BadOrder"), (36, "BadOther"), (37, "BadOtherBook"), (38, "BadOtherCouncil"), (39, "BadOtherFamily"), (40, "BadOtherFaults"), (41, "BadOtherKeepers"), (42, "BadOtherNumber")] : List (Nat × PySem.Str)) ++ ([(43, "BadOtherRow"), (44, "BadPair"), (45, "BadProbes"), (46, "BadQuestion"), (47, "BadRate"), (48, "BadReadNumber"), (49, "BadRow"), (50, "BadRows"), (51, "BadSchedule"), (52, "BadShare"), (53, "BadSlices"), (54, "BadSlow"), (55, "BadSome"), (56, "BadSpeeds"), (57, "BadStep"), (58, "BadStore"), (59, "BadStrategies"), (60, "BadStrategy"), (61, "BadText"), (62, "BadTree")] : List (Nat × PySem.Str)) ++ ([(63, "BadVotes"), (64, "BadWeights"), (65, "BadWithin"), (66, "BadWriteNumber"), (67, "InUse"), (68, "IsWatched"), (72, "NoCount"), (75, "NotMeeting"), (76, "NotNow"), (78, "NotSeven"), (79, "NotWatched"), (80, "TooFew"), (82, "WouldChange")] : List (Nat × PySem.Str))
/-- all classes in the order of the rows -/
def clsNames : List PySem.Str := (["Apart", "BadAnswers", "BadBegin", "BadBook", "BadBooks", "BadClient", "BadClients", "BadCouncil", "BadCouncilbook", "BadDeed", "BadDeedRow", "BadFailed", "BadFailing", "BadFallen", "BadFamily", "BadFaults", "BadFirst", "BadForm", "BadHistory", "BadHistoryRow"] : List PySem.Str) ++ (["BadInner", "BadKeeper", "BadKeepers", "BadKind", "BadLast", "BadLot", "BadLots", "BadMany", "BadMost", "BadName", "BadNames", "BadNaming", "BadNumber", "BadOrder", "BadOther", "BadOtherBook", "BadOtherCouncil", "BadOtherFamily", "BadOtherFaults", "BadOtherKeepers"] : List PySem.Str) ++ (["BadOtherNumber", "BadOtherRow", "BadPair", "BadProbes", "BadQuestion", "BadRate", "BadReadNumber", "BadRow", "BadRows", "BadSchedule", "BadShare", "BadSlices", "BadSlow", "BadSome", "BadSpeeds", "BadStep", "BadStore", "BadStrategies", "BadStrategy", "BadText"] : List PySem.Str) ++ (["BadTree", "BadVotes", "BadWeights", "BadWithin", "BadWriteNumber", "InUse", "IsWatched", "LastKeeper", "ManyWriters", "NoBetter", "NoCount", "NoLots", "NobodyLeft", "NotMeeting", "NotNow", "NotPart", "NotSeven", "NotWatched", "TooFew", "Unbroken"] : List PySem.Str) ++ (["WouldChange"] : List PySem.Str)
def lawDefs : List (Nat × PySem.Str) := [(84, "_law_start"), (85, "_law_draw"), (86, "_law_mixed"), (87, "_law_made_a"), (88, "_law_made_b"), (89, "_law_made_c"), (90, "_law_made_d"), (91, "_law_made_e"), (92, "_law_kinds_a"), (93, "_law_kinds_b"), (94, "_law_kinds_c"), (95, "_law_kinds_d"), (96, "_law_kinds_e"), (97, "_law_kinds"), (98, "_law_is_own"), (99, "_law_same"), (100, "_law_are_these"), (101, "law")]
def loose : List PySem.Str := ("LotError" : PySem.Str) :: clsNames ++ (["_law_start", "_law_draw", "_law_mixed", "_law_made_a", "_law_made_b", "_law_made_c", "_law_made_d", "_law_made_e", "_law_kinds_a", "_law_kinds_b", "_law_kinds_c", "_law_kinds_d", "_law_kinds_e", "_law_kinds", "_law_is_own", "_law_same", "_law_are_these"] : List PySem.Str)
def frees : List PySem.Str := ["list", "int", "len", "range", "enumerate", "isinstance", "all", "zip", "str", "tuple", "dict", "bool", "ValueError", "LookupError", "ArithmeticError", "TypeError"]
def defD (p : Nat × PySem.Str) : He.DefD := ⟨(p.2, none), p.2, p.2, defArgs (top p.1), defBody (top p.1), defScope (top p.1), [], []⟩
def initD (p : Nat × PySem.Str) : He.DefD := ⟨(p.2, some "__init__"), "__init__", p.2 ++ ".__init__", defArgs (clsInit (top p.1)), defBody (clsInit (top p.1)), defScope (clsInit (top p.1)), [], []⟩
def fn : List He.DefD := lawDefs.map defD ++ ownCls.map initD
def fa : List He.Fa := frees.map He.Fa.free ++ (lawDefs.map (·.2)).map He.Fa.glo ++ clsNames.map He.Fa.glo ++ [He.Fa.glo "LotError"]
def tf : List He.Defn := [("_law_made_a", none), ("_law_made_b", none), ("_law_made_c", none), ("_law_made_d", none), ("_law_made_e", none)]
def nodupB : List Nat → Bool
  | [] => true
  | a :: r => r.all (fun b => !Nat.beq a b) && nodupB r
def ex (K : PySem.W.Frag) : Bool := XvC.exB K (He.ga K "LotError") && (clsNames.all (fun n => XvC.exC K (He.ga K "LotError") (He.ga K n)) && (ownCls.all (fun p => XvC.initB K (He.ga K p.2) (He.ma K (He.ga K p.2) "__init__")) &&
  nodupB (clsNames.map (He.ga K))))
end K00
/-! text K1 -/
set_option Elab.async false
set_option linter.all false
set_option maxRecDepth 100000
set_option maxHeartbeats 4000000
/-! the spring of draws -/
namespace K00
open PySem PySem.Spec PyProof.Rows L2 Evl
abbrev FnP (K : PySem.W.Frag) (x : Str) (st : Stmt) (f : Addr) (fd : FuncData) : Prop := FunD K x x (defArgs st) (defBody st) (defScope st) [] [] f fd
/-- all but these stay -/
def ExB (ex : List Addr) (H H' : Hp) : Prop := ∀ b o, b ∉ ex → H b = some o → H' b = some o
theorem ExB.refl (ex : List Addr) (H : Hp) : ExB ex H H := fun _ _ _ h => h
theorem ExB.trans {ex : List Addr} {H H1 H2 : Hp} (a : ExB ex H H1) (b : ExB ex H1 H2) : ExB ex H H2 := fun c o n h => b c o n (a c o n h)
theorem ExB.of {ex : List Addr} {H H' : Hp} (e : Ex H H') : ExB ex H H' := fun b o _ h => e b o h
theorem ExB.new {ex : List Addr} {H : Hp} {p : Addr} {o : HO} (h : H p = none) : ExB ex H (upd H p o) := ExB.of (Ex.new h)
theorem ExB.mut {ex : List Addr} {H : Hp} {p : Addr} {o : HO} (h : p ∈ ex) : ExB ex H (upd H p o) := fun b u n e => by
  rw [upd_ne (fun z => n (by rw [z]; exact h))]
  exact e
/-- the spring at p, its cells at c: at most n draws so far -/
structure St (H : Hp) (p c : Addr) (n : Int) : Prop where
  ne : p ≠ c
  ok : ∃ (cells : List Int) (rest cnt mix : Int), H p = some (.lst [.ref c, .int rest, .int cnt, .int mix]) ∧ H c = some (.lst (cells.map V.int)) ∧ cells.length ≤ 63 ∧ 0 ≤ rest ∧ 0 ≤ cnt ∧ cnt ≤ n ∧ 0 ≤ mix ∧ mix < 2147483647
section
variable {P : Program} {w : World} {K : PySem.W.Frag} {mg : Str → Option Value} {base : Heap} {f : Addr} {fd : FuncData}
theorem scStart : FnScope ["script"] ["script"] (defScope (top 84)) := ⟨rfl, rfl, rfl, by decide +kernel, rfl, by decide +kernel, by decide +kernel⟩
def spStart (K : PySem.W.Frag) : Sp := fun vs H Q _ => ∃ (a : Addr) (ns : List Int), vs = [.ref a] ∧ SqL K H a (ns.map V.int) ∧ ns.length ≤ 63 ∧ ∀ H' p c, Ex H H' → H p = none → H c = none → St H' p c 0 → Q (.ref p) H'
theorem ok_start (F : FnP K "_law_start" (top 84) f fd) (ml : mg "list" = none) : FnOk P w K mg base CX0 1 f fd ["script"] (spStart K) := by
  refine F.ok scStart (fun vs H Q E h => ?_) (fun cdv A outer s H vs Q E hr h => ?_)
  · obtain ⟨a, ns, rfl, _⟩ := h
    rfl
  · obtain ⟨a, ns, rfl, hS, hl, q⟩ := h
    refine ⟨_, PSs.nox (pss_one (ps_ret (pe_lst (pa_cons (pe_callTy call_list_of (by rfl) ml (by decide +kernel) (pa_cons (pv 0) pa_nil)) (pa_cons pe_int (pa_cons pe_int (pa_cons pe_int pa_nil))))))), ?_⟩
    refine ⟨.ref a, rfl, a, _, rfl, .inl hS, fun c nc => ⟨by show 4 ≤ sizeLine; decide, fun p np => ?_⟩⟩
    have ne : p ≠ c := fun z => by
      rw [z, upd_same] at np
      cases np
    have np0 : H p = none := by
      rw [upd_ne ne] at np
      exact np
    refine q _ p c ((Ex.new nc).trans (Ex.new np)) np0 nc ⟨ne, ns, 0, 0, 89, upd_same, ?_, hl, by decide, by decide, by decide, by decide, by decide⟩
    rw [upd_ne ne.symm, upd_same]
end
end K00
/-! text K2 -/
set_option Elab.async false
set_option linter.all false
set_option maxRecDepth 100000
set_option maxHeartbeats 4000000
/-! a draw -/
namespace K00
open PySem PySem.Spec PyProof.Rows L2 Evl
theorem shaped_ints : ∀ ns : List Int, SeqAt.shaped (.list (ns.map PyData.int)) = true := fun ns => by
  have h1 : ∀ ns : List Int, PyData.canLayAll0 (ns.map PyData.int) = true := by
    intro ns
    induction ns with
    | nil => rfl
    | cons a r ih =>
      show (PyData.canLay0 (.int a) && PyData.canLayAll0 (r.map PyData.int)) = true
      rw [ih]
      rfl
  have h2 : ∀ ns : List Int, (PyData.list (ns.map PyData.int)).depth ≤ 1 := by
    intro ns
    induction ns with
    | nil => simp [PyData.depth, PyData.depthAll]
    | cons a r ih =>
      simp [PyData.depth, PyData.depthAll] at ih ⊢
      omega
  unfold SeqAt.shaped
  rw [show PyData.canLay0 (.list (ns.map PyData.int)) = true from h1 ns, decide_eq_true (Nat.le_trans (h2 ns) (by decide))]
  rfl
section
variable {P : Program} {w : World} {K : PySem.W.Frag} {mg : Str → Option Value} {base : Heap} {f : Addr} {fd : FuncData}
theorem dp_ints {H : Hp} : ∀ ns : List Int, DpAll K H (ns.map V.int) (ns.map PyData.int)
  | [] => .nil
  | a :: r => .cons (.int a) (dp_ints r)
theorem eqv_nil : ∀ ns : List Int, PyData.eqv (.list (ns.map PyData.int)) (.list []) = ns.isEmpty
  | [] => rfl
  | _ :: _ => rfl
theorem scDraw : FnScope ["stream", "many", "cell", "digit", "mixed"] ["stream", "many"] (defScope (top 85)) := ⟨rfl, rfl, rfl, by decide +kernel, rfl, by decide +kernel, by decide +kernel⟩
def spDraw : Sp := fun vs H Q _ => ∃ (p c : Addr) (n many : Int), vs = [.ref p, .int many] ∧ St H p c n ∧ n ≤ 1000000 ∧ 0 < many ∧ many < 1000000 ∧
  ∀ r H', 0 ≤ r → r < many → ExB [p, c] H H' → St H' p c (n + 1) → Q (.int r) H'
theorem seqIx0 (n : Nat) : seqIndex? 0 (n + 1) = some 0 := by
  unfold seqIndex?
  simp
theorem mix_bound (z cnt : Int) (h0 : 0 ≤ cnt) (h1 : cnt ≤ 1000000) : (z % 2147483629 * 63029 + 74017 * (cnt + 1) + 61).natAbs < 2 ^ 64 := by
  have x0 := Int.emod_nonneg z (show (2147483629 : Int) ≠ 0 by decide)
  have x1 := Int.emod_lt_of_pos z (show (0 : Int) < 2147483629 by decide)
  omega
theorem hu64 {k : Nat} {A : Around} (hr : Room k A) : A.units + 64 < cLine := by
  have := hr.un
  omega
abbrev NDraw : List Str := ["stream", "many", "cell", "digit", "mixed"]
theorem ok_draw (F : FnP K "_law_draw" (top 85) f fd) (mi : mg "int" = none) : FnOk P w K mg base CX0 1 f fd ["stream", "many"] spDraw := by
  refine F.ok scDraw (fun vs H Q E h => ?_) (fun cdv A outer s H vs Q E hr h => ?_)
  · obtain ⟨p, c, n, many, rfl, _⟩ := h
    rfl
  · obtain ⟨p, c, n, many, rfl, ⟨ne, cells, rest, cnt, mix, hp, hc, hl, h0, c0, cn, m0, m1⟩, hn, hm0, hm1, q⟩ := h
    have seg : ∃ tA, PSs (cxOf CX0 P w K mg base NDraw "_law_draw" (defScope (top 85)) f cdv A outer s H E).nox ((defBody (top 85)).drop 2) tA ∧
        ∀ (y2 y3 y4 : Option V) (cells : List Int) (rest mix : Int) (H1 : Hp), H1 p = some (.lst [.ref c, .int rest, .int (cnt + 1), .int mix]) → H1 c = some (.lst (cells.map V.int)) → cells.length ≤ 63 → 0 ≤ rest → 0 ≤ mix → mix < 2147483647 → ExB [p, c] H H1 →
          tA { nx := fun _ H' => Q .non H', rt := Q } [some (.ref p), some (.int many), y2, y3, y4] H1 := by
      refine ⟨_, pss_cons (ps_if (pt_cmpR op_gt (pe_ix ix_list (pv 0) pe_int (fun _ _ => rfl)) pe_int (nomark _))
        (pss_cons (ps_set (i := 3) scDraw.nd rfl (.inl rfl) (pe_op op_mod (pe_callTy call_int1 (by rfl) mi (by decide +kernel) (pa_cons (pe_ix ix_list (pv 0) pe_int (fun _ _ => rfl)) pa_nil)) (pv 1)))
        (pss_cons (ps_asg (pe_op op_fdiv (pe_ix ix_list (pv 0) pe_int (fun _ _ => rfl)) (pv 1)) (pg_sub (pv 0) pe_int set_list))
        (pss_one (ps_ret (pv 3))))) pss_nil)
      (pss_cons (ps_set (i := 4) scDraw.nd rfl (.inl rfl) (pe_op op_mod (pe_callTy call_int1 (by rfl) mi (by decide +kernel) (pa_cons (pe_op op_pow (pe_op op_add (pe_op op_add (pe_ix ix_list (pv 0) pe_int (fun _ _ => rfl)) (pe_op op_mul pe_int (pe_ix ix_list (pv 0) pe_int (fun _ _ => rfl)))) pe_int) pe_int) pa_nil)) pe_int))
      (pss_one (ps_ret (pe_op op_mod (pe_op op_mod (pe_callTy call_int1 (by rfl) mi (by decide +kernel) (pa_cons (pe_op op_pow (pe_op op_add (pe_op op_add (pe_op op_mul (pv 4) pe_int) (pe_op op_mul pe_int (pe_ix ix_list (pv 0) pe_int (fun _ _ => rfl)))) pe_int) pe_int) pa_nil)) pe_int) (pv 1))))),
        fun y2 y3 y4 cells rest mix H1 hp hc hl h0 m0 m1 e1 => ?_⟩
      refine ⟨.ref p, rfl, p, _, 1, .int rest, rfl, rfl, sq_of hp, rfl, _, _, rfl, rfl, _, rfl, ite2 (fun e => ?_) (fun e => ?_)⟩
      · have hrest : 0 < rest := of_decide_eq_true e
        refine ⟨.ref p, rfl, p, _, 1, .int rest, rfl, rfl, sq_of hp, rfl, .inl ⟨rest, rfl, .int many, rfl, _, _, rfl, rfl, hm0, ?_⟩⟩
        refine ⟨.ref p, rfl, p, _, 1, .int rest, rfl, rfl, sq_of hp, rfl, .int many, rfl, _, _, rfl, rfl, ⟨hm0, by omega⟩, .ref p, rfl, p, _, 1, 1, rfl, rfl, hp, rfl, ?_⟩
        refine ⟨_, rfl, q _ _ (Int.emod_nonneg _ (by omega)) (Int.emod_lt_of_pos _ hm0) (e1.trans (ExB.mut (by simp))) ⟨ne, cells, rest / many, cnt + 1, mix, upd_same, by rw [upd_ne ne.symm]; exact hc, hl, Int.ediv_nonneg h0 (by omega), by omega, by omega, m0, m1⟩⟩
      · refine ⟨.ref p, rfl, p, _, 3, .int mix, rfl, rfl, sq_of hp, rfl, .ref p, rfl, p, _, 2, .int (cnt + 1), rfl, rfl, sq_of hp, rfl, _, _, rfl, rfl, .inl ⟨by decide, by decide⟩, _, _, rfl, rfl, _, _, rfl, rfl, _, _, rfl, rfl, ⟨by decide, by decide, by omega⟩,
          .inl ⟨_, rfl, _, _, rfl, rfl, (by show (0 : Int) < 2147483629; decide), ?_⟩⟩
        refine ⟨_, rfl, _, _, rfl, rfl, .inr ⟨by decide, by decide⟩, .ref p, rfl, p, _, 2, .int (cnt + 1), rfl, rfl, sq_of hp, rfl, _, _, rfl, rfl, .inl ⟨by decide, by decide⟩, _, _, rfl, rfl, _, _, rfl, rfl, _, _, rfl, rfl, ⟨by decide, by decide, mix_bound _ _ c0 (by omega)⟩,
          .inl ⟨_, rfl, _, _, rfl, rfl, (by show (0 : Int) < 1000000007; decide), .int many, rfl, _, _, rfl, rfl, hm0, ?_⟩⟩
        exact q _ _ (Int.emod_nonneg _ (by omega)) (Int.emod_lt_of_pos _ hm0) e1 ⟨ne, cells, rest, cnt + 1, mix, hp, hc, hl, h0, by omega, by omega, m0, m1⟩
    obtain ⟨tA, dA, pA⟩ := seg
    refine ⟨_, PSs.nox (pss_cons (ps_asg (pe_op op_add (pe_ix ix_list (pv 0) pe_int (fun _ _ => rfl)) pe_int) (pg_sub (pv 0) pe_int set_list))
      (pss_cons (ps_while PassesOwn.never (pw_and (pt_cmpR op_eq (pe_ix ix_list (pv 0) pe_int (fun _ _ => rfl)) pe_int (nomark _)) (pw_and1 (pt_cmpR (op_neD (hu64 hr)) (pe_ix ix_list (pv 0) pe_int (fun _ _ => rfl)) (pe_lst pa_nil) (nomark _)))).pt
        (pss_cons (ps_set (i := 2) scDraw.nd rfl (.inl rfl) (pe_bm PySem.F.plainAttrs_list PySem.F.slot_list_pop PySem.F.type_list_pop mt_popAt (pe_ix ix_list (pv 0) pe_int (fun _ _ => rfl)) (pa_cons pe_int pa_nil)))
        (pss_cons (ps_asg (pe_op op_mod (pe_callTy call_int1 (by rfl) mi (by decide +kernel) (pa_cons (pe_op op_add (pe_op op_add (pe_op op_mul (pe_ix ix_list (pv 0) pe_int (fun _ _ => rfl)) pe_int) (pv 2)) pe_int) pa_nil)) pe_int) (pg_sub (pv 0) pe_int set_list))
        (pss_one (ps_asg (pe_ifExp (pt_cmpR op_ge (pv 2) (pe_op op_pow pe_int pe_int) (nomark _)) (pv 2) pe_int) (pg_sub (pv 0) pe_int set_list)))))) dA)), ?_⟩
    -- stream[2] = stream[2] + 1
    refine ⟨.ref p, rfl, p, _, 2, .int cnt, rfl, rfl, sq_of hp, rfl, _, _, rfl, rfl, .ref p, rfl, p, _, 2, 2, rfl, rfl, hp, rfl, ?_⟩
    have e1 : ExB [p, c] H (upd H p (.lst [.ref c, .int rest, .int (cnt + 1), .int mix])) := ExB.mut (by simp)
    -- while
    refine ⟨fun m σ H1 => ∃ y2 y3 y4 cells rest mix, σ = [some (.ref p), some (.int many), y2, y3, y4] ∧ m = cells.length ∧ H1 p = some (.lst [.ref c, .int rest, .int (cnt + 1), .int mix]) ∧ H1 c = some (.lst (cells.map V.int)) ∧ cells.length ≤ 63 ∧ 0 ≤ rest ∧ 0 ≤ mix ∧ mix < 2147483647 ∧ ExB [p, c] H H1,
      ⟨cells.length, none, none, none, cells, rest, mix, rfl, rfl, upd_same, by rw [upd_ne ne.symm]; exact hc, hl, h0, m0, m1, e1⟩, fun m σ H1 hW => ?_⟩
    clear hp hc hl h0 m0 m1 e1
    obtain ⟨y2, y3, y4, cells, rest, mix, rfl, rfl, hp, hc, hl, h0, m0, m1, e1⟩ := hW
    refine ⟨.ref p, rfl, p, _, 1, .int rest, rfl, rfl, sq_of hp, rfl, rfl, _, rfl, ite2 (fun e => ?_) (fun e => ?_)⟩
    · have hrest : rest = 0 := V.int.inj (of_decide_eq_true e)
      refine ⟨.ref p, rfl, p, _, 0, .ref c, rfl, rfl, sq_of hp, rfl, Nat.zero_le _, fun l nl => ?_⟩
      have lp : p ≠ l := ne_of_none hp nl
      have lc : c ≠ l := ne_of_none hc nl
      have hp2 : (upd H1 l (.lst [])) p = some (.lst [.ref c, .int rest, .int (cnt + 1), .int mix]) := by rw [upd_ne lp]; exact hp
      have hc2 : (upd H1 l (.lst [])) c = some (.lst (cells.map V.int)) := by rw [upd_ne lc]; exact hc
      have e2 : ExB [p, c] H (upd H1 l (.lst [])) := e1.trans (ExB.new nl)
      refine ⟨_, _, .lst (sq_of hc2) (dp_ints cells), .lst (sq_of upd_same) .nil, shaped_ints cells, by decide, _, rfl, ?_⟩
      rw [eqv_nil]
      cases cells with
      | nil =>
        exact pA y2 y3 y4 [] rest mix _ hp2 hc2 hl h0 m0 m1 e2
      | cons z r =>
        rw [if_pos (by rfl)]
        refine ⟨fun σ' H' => ∃ y2 y3 y4 rest mix, σ' = [some (.ref p), some (.int many), y2, y3, y4] ∧ H' p = some (.lst [.ref c, .int rest, .int (cnt + 1), .int mix]) ∧ H' c = some (.lst (r.map V.int)) ∧ 0 ≤ rest ∧ 0 ≤ mix ∧ mix < 2147483647 ∧ ExB [p, c] H H', fun σ' H' hN => ?_, ?_⟩
        · obtain ⟨y2, y3, y4, rest, mix, rfl, g1, g2, g3, g4, g5, g6⟩ := hN
          exact ⟨r.length, by simp, y2, y3, y4, r, rest, mix, rfl, rfl, g1, g2, by simp at hl; omega, g3, g4, g5, g6⟩
        · refine ⟨.ref p, rfl, p, _, 0, .ref c, rfl, rfl, sq_of hp2, rfl, .inl ⟨rfl, _, sq_of hc2⟩, c, _, 0, 0, .int z, rfl, rfl, hc2, by decide, by decide, ?_, rfl, ?_⟩
          · rw [List.length_map, List.length_cons]
            exact seqIx0 _
          · -- stream[3] = int(stream[3] * 72103 + cell + 43) % 2147483647
            have np : p ≠ c := ne
            have hp3 : ∀ o, (upd (upd H1 l (.lst [])) c o) p = some (.lst [.ref c, .int rest, .int (cnt + 1), .int mix]) := fun o => by rw [upd_ne np]; exact hp2
            refine ⟨.ref p, rfl, p, _, 3, .int mix, rfl, rfl, sq_of (hp3 _), rfl, _, _, rfl, rfl, .inl ⟨by omega, by omega⟩, .int z, rfl, _, _, rfl, rfl, _, _, rfl, rfl, .inl ⟨_, rfl, _, _, rfl, rfl, (by show (0 : Int) < 2147483647; decide), ?_⟩⟩
            refine ⟨.ref p, rfl, p, _, 3, 3, rfl, rfl, hp3 _, rfl, ?_⟩
            have hm2 : 0 ≤ (mix * 72103 + z + 43) % 2147483647 := Int.emod_nonneg _ (by decide)
            have hm3 : (mix * 72103 + z + 43) % 2147483647 < 2147483647 := Int.emod_lt_of_pos _ (by decide)
            have fin : ∀ r1 : Int, 0 ≤ r1 → ExB [p, c] H (upd (upd (upd (upd H1 l (.lst [])) c (.lst (r.map V.int))) p (.lst [.ref c, .int rest, .int (cnt + 1), .int ((mix * 72103 + z + 43) % 2147483647)])) p (.lst [.ref c, .int r1, .int (cnt + 1), .int ((mix * 72103 + z + 43) % 2147483647)])) := fun r1 _ =>
              ((e2.trans (ExB.mut (by simp))).trans (ExB.mut (by simp))).trans (ExB.mut (by simp))
            refine ⟨.int z, rfl, _, _, rfl, rfl, ⟨by decide, by decide, by decide⟩, _, _, rfl, rfl, _, rfl, ite2 (fun e => ?_) (fun e => ?_)⟩
            · have hz : (10 : Int) ^ (18 : Int).toNat ≤ z := of_decide_eq_true e
              refine ⟨.int z, rfl, .ref p, rfl, p, _, 1, 1, rfl, rfl, upd_same, rfl, ?_⟩
              refine ⟨_, _, _, z, _, rfl, upd_same, ?_, ?_, hm2, hm3, fin z ?_⟩
              · rw [upd_ne np.symm, upd_ne np.symm, upd_same]
                rfl
              · have : (0 : Int) ≤ (10 : Int) ^ (18 : Int).toNat := by decide
                omega
              · have : (0 : Int) ≤ (10 : Int) ^ (18 : Int).toNat := by decide
                omega
            · refine ⟨.ref p, rfl, p, _, 1, 1, rfl, rfl, upd_same, rfl, ?_⟩
              refine ⟨_, _, _, 0, _, rfl, upd_same, ?_, by decide, hm2, hm3, fin 0 (by decide)⟩
              rw [upd_ne np.symm, upd_ne np.symm, upd_same]
              rfl
    · exact pA y2 y3 y4 cells rest mix _ hp hc hl h0 m0 m1 e1
end
end K00
/-! text K3 -/
set_option Elab.async false
set_option linter.all false
set_option maxRecDepth 100000
set_option maxHeartbeats 4000000
/-! things in a drawn order -/
namespace K00
open PySem PySem.Spec PyProof.Rows L2 Evl
theorem St.ext {H H' : Hp} {p c : Addr} {n m : Int} (s : St H p c n) (hp : H' p = H p) (hc : H' c = H c) (hn : n ≤ m) : St H' p c m := by
  obtain ⟨ne, cells, rest, cnt, mix, h1, h2, h3, h4, h5, h6, h7, h8⟩ := s
  exact ⟨ne, cells, rest, cnt, mix, hp.trans h1, hc.trans h2, h3, h4, h5, by omega, h7, h8⟩
theorem St.p {H : Hp} {p c : Addr} {n : Int} (s : St H p c n) : ∃ o, H p = some o := by
  obtain ⟨ne, cells, rest, cnt, mix, h1, h2, h3, h4, h5, h6, h7, h8⟩ := s
  exact ⟨_, h1⟩
theorem St.c {H : Hp} {p c : Addr} {n : Int} (s : St H p c n) : ∃ o, H c = some o := by
  obtain ⟨ne, cells, rest, cnt, mix, h1, h2, h3, h4, h5, h6, h7, h8⟩ := s
  exact ⟨_, h2⟩
theorem seqIx {r : Int} {n : Nat} (h0 : 0 ≤ r) (h1 : r < n) : seqIndex? r n = some r.toNat := by
  unfold seqIndex?
  simp
  omega
section
variable {P : Program} {w : World} {K : PySem.W.Frag} {mg : Str → Option Value} {base : Heap} {f fD : Addr} {fd fdD : FuncData}
abbrev NMixed : List Str := ["stream", "some", "left", "k"]
theorem scMixed : FnScope NMixed ["stream", "some"] (defScope (top 86)) := ⟨rfl, rfl, rfl, by decide +kernel, rfl, by decide +kernel, by decide +kernel⟩
def spMixed (K : PySem.W.Frag) : Sp := fun vs H Q _ => ∃ (p c a : Addr) (xs : List V) (n : Int), vs = [.ref p, .ref a] ∧ St H p c n ∧ SqL K H a xs ∧ xs.length ≤ 1000 ∧ n + 1000 ≤ 1000000 ∧
  ∀ ys q H', ys.length = xs.length → (∀ y ∈ ys, y ∈ xs) → ExB [p, c] H H' → St H' p c (n + xs.length) → H q = none → H' q = some (.lst ys) → Q (.ref q) H'
theorem ok_mixed (F : FnP K "_law_mixed" (top 86) f fd) (FD : FnP K "_law_draw" (top 85) fD fdD) (gD : mg "_law_draw" = some (.ref fD)) (mi : mg "int" = none) (ml : mg "list" = none) (mn : mg "len" = none) (mr : mg "range" = none) : FnOk P w K mg base CX0 2 f fd ["stream", "some"] (spMixed K) := by
  have GD : FnOk P w K mg base CX0 1 fD fdD ["stream", "many"] spDraw := ok_draw FD mi
  have bD : Binds K fdD ["stream", "many"] [] := FD.bindsN fun _ _ _ _ _ _ us hl => match us, hl with | [_, _], _ => rfl
  refine F.ok scMixed (fun vs H Q E h => ?_) (fun cdv A outer s H vs Q E hr h => ?_)
  · obtain ⟨p, c, a, xs, n, rfl, _⟩ := h
    rfl
  · obtain ⟨p, c, a, xs, n, rfl, hst, hS, hl, hn, q⟩ := h
    refine ⟨_, PSs.nox (pss_cons (ps_set (i := 2) scMixed.nd rfl (.inr rfl) (pe_callTy call_list_of (by rfl) ml (by decide +kernel) (pa_cons (pv 1) pa_nil)))
      (pss_one (ps_ret (pe_lc (own := [("k", 3)]) (g := gName 3) (tt := tYes) (te := tBM K "list" rPopAt (tVar 2) (tCons (tCall spDraw [] E0 (tCons (tVar 0) (tCons (tCB (rLenS K) (tCons (tVar 2) tNil)) tNil))) tNil)) rfl scMixed.nd (pi_range1 (by rfl) mr (pa_cons (pe_callB call_len_seq (by rfl) mn PySem.boot_len (pa_cons (pv 2) pa_nil)) pa_nil)) (blkOk_by (N := NMixed) (sc := defScope (top 86)) (by decide +kernel))
        (fun _ _ _ _ _ => pg_name (i := 3) scMixed.nd rfl (.inl rfl)) (fun _ _ _ _ _ => pts_nil)
        (fun _ _ _ _ _ => pe_bm PySem.F.plainAttrs_list PySem.F.slot_list_pop PySem.F.type_list_pop mt_popAt (pv 2)
          (pa_cons (pe_call GD hr (by rfl) gD FD.kp bD .nil pass0 (pa_cons (pv 0) (pa_cons (pe_callB call_len_seq (by rfl) mn PySem.boot_len (pa_cons (pv 2) pa_nil)) pa_nil))) pa_nil)))))), ?_⟩
    refine ⟨.ref a, rfl, a, xs, rfl, .inl hS, fun l nl => ?_⟩
    refine ⟨.ref l, rfl, l, xs, rfl, .inl (sq_of upd_same), xs.length, rfl, ?_⟩
    refine ⟨by omega, by omega, fun D nD => ?_⟩
    have nl0 := nl
    obtain ⟨o1, hp0⟩ := hst.p
    obtain ⟨o2, hc0⟩ := hst.c
    have lp : p ≠ l := ne_of_none hp0 nl
    have lc : c ≠ l := ne_of_none hc0 nl
    have Dl : l ≠ D := ne_of_none upd_same nD
    have nD0 : H D = none := by
      rw [upd_ne Dl.symm] at nD
      exact nD
    have Dp : p ≠ D := ne_of_none hp0 nD0
    have Dc : c ≠ D := ne_of_none hc0 nD0
    rw [Int.toNat_natCast]
    refine lc_range (fun i H' => ∃ ls acc, H' l = some (.lst ls) ∧ ls.length = xs.length - i ∧ (∀ y ∈ ls, y ∈ xs) ∧ H' D = some (.lst acc) ∧ acc.length = i ∧ (∀ y ∈ acc, y ∈ xs) ∧ St H' p c (n + i) ∧ ExB [p, c] H H')
      ⟨xs, [], by rw [upd_ne Dl, upd_same], by omega, fun _ h => h, upd_same, rfl, fun _ h => absurd h (by simp), hst.ext (by rw [upd_ne Dp, upd_ne lp]) (by rw [upd_ne Dc, upd_ne lc]) (by omega), (ExB.new nl).trans (ExB.new nD)⟩ (fun i H1 hi hI => ?_) (fun H1 hI => ?_)
    · obtain ⟨ls, acc, g1, g2, g3, g4, g5, g6, g7, g8⟩ := hI
      refine ⟨rfl, ?_⟩
      refine ⟨.ref l, rfl, .inl ⟨rfl, _, sq_of g1⟩, .ref p, rfl, .ref l, rfl, l, ls, rfl, .inl (sq_of g1), p, c, n + i, ls.length, rfl, g7, by omega, by omega, by omega, fun r H2 r0 r1 e2 s2 => ?_⟩
      have hlt : r.toNat < ls.length := by omega
      have l2 : H2 l = some (.lst ls) := e2 _ _ (by simp [lp.symm, lc.symm]) g1
      have D2 : H2 D = some (.lst acc) := e2 _ _ (by simp [Dp.symm, Dc.symm]) g4
      refine ⟨l, ls, r, r.toNat, ls[r.toNat], rfl, rfl, l2, by omega, by omega, seqIx r0 r1, List.getElem?_eq_getElem hlt, acc, by rw [upd_ne Dl.symm]; exact D2, small1000 (by omega), ?_⟩
      refine ⟨ls.eraseIdx r.toNat, acc ++ [ls[r.toNat]], by rw [upd_ne Dl, upd_same], ?_, fun y hy => g3 y (List.mem_of_mem_eraseIdx hy), upd_same, by simp [g5], fun y hy => ?_, s2.ext (by rw [upd_ne Dp, upd_ne lp]) (by rw [upd_ne Dc, upd_ne lc]) (by omega), fun b o hb hbo => ?_⟩
      · rw [List.length_eraseIdx_of_lt hlt]
        omega
      · rcases List.mem_append.mp hy with z | z
        · exact g6 y z
        · rw [List.mem_singleton.mp z]
          exact g3 _ (List.getElem_mem hlt)
      · have h1 : b ≠ D := ne_of_none hbo nD0
        have h2 : b ≠ l := ne_of_none hbo nl
        rw [upd_ne h1, upd_ne h2]
        exact e2 b o hb (g8 b o hb hbo)
    · obtain ⟨ls, acc, g1, g2, g3, g4, g5, g6, g7, g8⟩ := hI
      exact q acc D H1 g5 g6 g8 g7 nD0 g4
end
end K00
/-! text K4 -/
set_option Elab.async false
set_option linter.all false
set_option maxRecDepth 100000
set_option maxHeartbeats 4000000
/-! of which kinds an error is -/
namespace K00
open PySem PySem.Spec PyProof.Rows L2 Evl XvC PySem.HandSPX
theorem inj_nodup {α β : Type} {f : α → β} : ∀ {l : List α}, (l.map f).Nodup → ∀ {a b : α}, a ∈ l → b ∈ l → f a = f b → a = b
  | [], _, _, _, h, _, _ => nomatch h
  | x :: r, nd, a, b, ha, hb, e => by
    rw [List.map_cons, List.nodup_cons] at nd
    rcases List.mem_cons.mp ha with h1 | h1 <;> rcases List.mem_cons.mp hb with h2 | h2
    · rw [h1, h2]
    · rw [h1] at e
      exact absurd (by rw [e]; exact List.mem_map.mpr ⟨b, h2, rfl⟩) nd.1
    · rw [h2] at e
      exact absurd (by rw [← e]; exact List.mem_map.mpr ⟨a, h1, rfl⟩) nd.1
    · exact inj_nodup nd.2 h1 h2 e
/-- what the head tells of the error classes -/
structure Cl (K : PySem.W.Frag) (mg : Str → Option Value) : Prop where
  base : Xc K (He.ga K "LotError") veTail
  cls : ∀ n ∈ clsNames, Xc K (He.ga K n) (.ref (He.ga K "LotError") :: veTail)
  gB : mg "LotError" = some (.ref (He.ga K "LotError"))
  gC : ∀ n ∈ clsNames, mg n = some (.ref (He.ga K n))
  nd : (He.ga K "LotError" :: clsNames.map (He.ga K)).Nodup
section
variable {K : PySem.W.Frag} {mg : Str → Option Value}
theorem Xc.kit {C D : Addr} {m m' : List Value} (T : Xc K C m) (T' : Xc K D m') : PySem.W.kitOne K (.ref C) (.ref D) = some ((Value.ref C :: m).contains (.ref D)) := by
  unfold PySem.W.kitOne
  by_cases h : (Value.ref C == Value.ref D) = true
  · rw [if_pos h, List.contains_cons]
    have e : (Value.ref D == Value.ref C) = true := by
      rw [beq_iff_eq] at h ⊢
      exact h.symm
    rw [e]
    rfl
  · rw [if_neg h]
    obtain ⟨cd, hc, _⟩ := T'.cls
    show (if ((PySem.W.clsIn K D).isSome && PySem.W.typeIn K (.ref D) == some (.type "type")) = true then PySem.W.subIn K (.ref C) (.ref D) else none) = _
    rw [if_pos (by rw [hc, T'.tyC]; rfl), T.sub]
theorem Xc.kitT {C : Addr} {m : List Value} (T : Xc K C m) (n : String) (hn : PySem.W.kitMeta n = true) : PySem.W.kitOne K (.ref C) (.type n) = some (veTail.contains (.type n)) := by
  unfold PySem.W.kitOne
  rw [if_neg (show ¬ (Value.ref C == Value.type n) = true from fun z => by
    have e := beq_iff_eq.mp z
    cases e)]
  show (if PySem.W.kitMeta n = true then PySem.W.subIn K (.ref C) (.type n) else none) = _
  rw [if_pos hn, T.subT]
/-- which class: a name's | the base -/
theorem Cl.inj (c : Cl K mg) {n n' : Str} (h : n ∈ clsNames) (h' : n' ∈ clsNames) (e : He.ga K n = He.ga K n') : n = n' := by
  have nd := (List.nodup_cons.mp c.nd).2
  exact inj_nodup nd h h' e
theorem Cl.ne (c : Cl K mg) {n : Str} (h : n ∈ clsNames) : He.ga K n ≠ He.ga K "LotError" := fun e => by
  have nd := (List.nodup_cons.mp c.nd).1
  exact nd (by rw [← e]; exact List.mem_map.mpr ⟨n, h, rfl⟩)
theorem vt_ref (a : Addr) : veTail.contains (.ref a) = false := by
  simp [veTail]
theorem Cl.kit (c : Cl K mg) {n n' : Str} (h : n ∈ clsNames) (h' : n' ∈ clsNames) : PySem.W.kitOne K (.ref (He.ga K n)) (.ref (He.ga K n')) = some (decide (n = n')) := by
  rw [Xc.kit (c.cls n h) (c.cls n' h'), List.contains_cons, List.contains_cons, vt_ref]
  have e1 : (Value.ref (He.ga K n') == Value.ref (He.ga K "LotError")) = false := by
    refine Bool.eq_false_iff.mpr fun q => c.ne h' (Value.ref.inj (beq_iff_eq.mp q))
  rw [e1]
  by_cases e : n = n'
  · subst e
    simp
  · have e2 : (Value.ref (He.ga K n') == Value.ref (He.ga K n)) = false := Bool.eq_false_iff.mpr fun q => e (c.inj h h' (Value.ref.inj (beq_iff_eq.mp q)).symm)
    rw [e2, decide_eq_false e]
    rfl
theorem Cl.kitB (c : Cl K mg) {n' : Str} (h' : n' ∈ clsNames) : PySem.W.kitOne K (.ref (He.ga K "LotError")) (.ref (He.ga K n')) = some false := by
  rw [Xc.kit c.base (c.cls n' h'), List.contains_cons, vt_ref]
  have e1 : (Value.ref (He.ga K n') == Value.ref (He.ga K "LotError")) = false := by
    refine Bool.eq_false_iff.mpr fun q => c.ne h' (Value.ref.inj (beq_iff_eq.mp q))
  rw [e1]
  rfl
/-- an error of the class n (none: the base) at a -/
def ErrAt (K : PySem.W.Frag) (H : Hp) (a : Addr) (o : Option Str) : Prop := ∃ C fs, ExcAt H a C fs ∧ match o with
  | some n => n ∈ clsNames ∧ C = He.ga K n
  | none => C = He.ga K "LotError"
theorem ErrAt.ext {H H' : Hp} {a : Addr} {o : Option Str} (h : ErrAt K H a o) (e : Ex H H') : ErrAt K H' a o := by
  obtain ⟨C, fs, h1, h2⟩ := h
  exact ⟨C, fs, h1.ext e, h2⟩
/-- the answers of isinstance -/
theorem Cl.get (c : Cl K mg) {H : Hp} {a : Addr} {o : Option Str} (h : ErrAt K H a o) : ∃ C fs m, ExcAt H a C fs ∧ Xc K C m ∧ (∀ n' ∈ clsNames, PySem.W.kitOne K (.ref C) (.ref (He.ga K n')) = some (decide (o = some n'))) ∧ PySem.W.kitOne K (.ref C) (.ref (He.ga K "LotError")) = some true := by
  obtain ⟨C, fs, h1, h2⟩ := h
  cases o with
  | some n =>
    obtain ⟨hn, rfl⟩ := h2
    refine ⟨_, fs, _, h1, c.cls n hn, fun n' h' => ?_, ?_⟩
    · have e : decide (some n = some n') = decide (n = n') := by
        by_cases z : n = n'
        · rw [z]; simp
        · rw [decide_eq_false z, decide_eq_false (fun q => z (Option.some.inj q))]
      rw [e]
      exact c.kit hn h'
    · rw [Xc.kit (c.cls n hn) c.base]
      simp
  | none =>
    have h2' : C = He.ga K "LotError" := h2
    subst h2'
    refine ⟨_, fs, _, h1, c.base, fun n' h' => c.kitB h', ?_⟩
    rw [Xc.kit c.base c.base]
    simp
end
/-- all that is told of one part of the kinds -/
def kindsOf (o : Option Str) (ns : List Str) : List V := ns.map fun n => V.bl (decide (o = some n))
/-- while the list grows: H0 the heap at the start -/
structure KW (K : PySem.W.Frag) (H0 H : Hp) (a : Addr) (o : Option Str) (q : Addr) (xs : List V) : Prop where
  e : Ex H0 H
  n : H0 q = none
  l : H q = some (.lst xs)
  r : ErrAt K H0 a o
section
variable {K : PySem.W.Frag} {mg : Str → Option Value} {H0 H : Hp} {a q : Addr} {o : Option Str} {xs : List V}
def tIs (K : PySem.W.Frag) (n : Str) : TE := tCB (rIsX K) (tCons (tVar 0) (tCons (tC (.ref (He.ga K n))) tNil))
def tKs (K : PySem.W.Frag) (t : TA) : TS := tDrop (tBM K "list" rExtend (tVar 1) (tCons (tLst t) tNil))
theorem KW.two (c : Cl K mg) {n n' : Str} {D : Ends} (W : KW K H0 H a o q xs) (hn : n ∈ clsNames) (hn' : n' ∈ clsNames) (hz : xs.length ≤ 1000) (next : ∀ H', KW K H0 H' a o q (xs ++ [.bl (decide (o = some n)), .bl (decide (o = some n'))]) → D.nx [some (.ref a), some (.ref q)] H') :
    tKs K (tCons (tIs K n) (tCons (tIs K n') tNil)) D [some (.ref a), some (.ref q)] H := by
  obtain ⟨C, fs, m, hE, T, hk, _⟩ := c.get (W.r.ext W.e)
  refine ⟨.ref q, rfl, .inl ⟨rfl, _, sq_of W.l⟩, .ref a, rfl, a, C, fs, _, _, _, rfl, hE, ⟨m, T⟩, .own _, hk n hn, .ref a, rfl, a, C, fs, _, _, _, rfl, hE, ⟨m, T⟩, .own _, hk n' hn', by show 2 ≤ sizeLine; decide, fun r nr => ?_⟩
  have rq : q ≠ r := ne_of_none W.l nr
  refine ⟨q, r, xs, _, rfl, rfl, by rw [upd_ne rq]; exact W.l, upd_same, by show xs.length + 2 ≤ sizeLine; exact sz_of (by omega), next _ ⟨?_, W.n, upd_same, W.r⟩⟩
  exact (W.e.trans (Ex.new nr)).mut W.n
theorem KW.one (c : Cl K mg) {n : Str} {D : Ends} (W : KW K H0 H a o q xs) (hn : n ∈ clsNames) (hz : xs.length ≤ 1000) (next : ∀ H', KW K H0 H' a o q (xs ++ [.bl (decide (o = some n))]) → D.nx [some (.ref a), some (.ref q)] H') :
    tKs K (tCons (tIs K n) tNil) D [some (.ref a), some (.ref q)] H := by
  obtain ⟨C, fs, m, hE, T, hk, _⟩ := c.get (W.r.ext W.e)
  refine ⟨.ref q, rfl, .inl ⟨rfl, _, sq_of W.l⟩, .ref a, rfl, a, C, fs, _, _, _, rfl, hE, ⟨m, T⟩, .own _, hk n hn, by show 1 ≤ sizeLine; decide, fun r nr => ?_⟩
  have rq : q ≠ r := ne_of_none W.l nr
  refine ⟨q, r, xs, _, rfl, rfl, by rw [upd_ne rq]; exact W.l, upd_same, by show xs.length + 1 ≤ sizeLine; exact sz_of (by omega), next _ ⟨?_, W.n, upd_same, W.r⟩⟩
  exact (W.e.trans (Ex.new nr)).mut W.n
end
end K00
/-! text K5 -/
set_option Elab.async false
set_option linter.all false
set_option maxRecDepth 100000
set_option maxHeartbeats 4000000
/-! the parts of the kinds -/
namespace K00
open PySem PySem.Spec PyProof.Rows L2 Evl XvC PySem.HandSPX
def spKinds (K : PySem.W.Frag) (ns : List Str) : Sp := fun vs H Q _ => ∃ (a : Addr) (o : Option Str), vs = [.ref a] ∧ ErrAt K H a o ∧ ∀ q H', Ex H H' → H q = none → H' q = some (.lst (kindsOf o ns)) → Q (.ref q) H'
section
variable {P : Program} {w : World} {K : PySem.W.Frag} {mg : Str → Option Value} {base : Heap} {f : Addr} {fd : FuncData}
theorem pe_isn {X : Cx} {n : Str} {p1 p2 p3 p4 : Pos} (hK : X.K = K) (h0 : X.N[0]? = some ("e" : Str)) (hv : Vis X.env.scope "e") (gi : Gl X "isinstance") (mi : X.mg "isinstance" = none) (gn : Gl X n) (mn : X.mg n = some (.ref (He.ga K n))) (hn : (n == ("__debug__" : Str)) = false) :
    PE X (.Call (.Name "isinstance" p1) [.Name "e" p2, .Name n p3] [] p4) (tIs K n) := by
  subst hK
  exact pe_callB call_isX gi mi (by decide +kernel) (pa_cons (pe_var h0 hv) (pa_cons (pe_glob gn mn rfl hn) pa_nil))
def ns_a : List Str := ["Apart", "BadAnswers", "BadBegin", "BadBook", "BadBooks", "BadClient", "BadClients", "BadCouncil", "BadCouncilbook", "BadDeed", "BadDeedRow", "BadFailed", "BadFailing", "BadFallen", "BadFamily", "BadFaults", "BadFirst", "BadForm"]
theorem scKa : FnScope ["e", "found"] ["e"] (defScope (top 92)) := ⟨rfl, rfl, rfl, by decide +kernel, rfl, by decide +kernel, by decide +kernel⟩
theorem ok_kinds_a (F : FnP K "_law_kinds_a" (top 92) f fd) (c : Cl K mg) (mi : mg "isinstance" = none) : FnOk P w K mg base CX0 1 f fd ["e"] (spKinds K ns_a) := by
  refine F.ok scKa (fun vs H Q E h => ?_) (fun cdv A outer s H vs Q E hr h => ?_)
  · obtain ⟨a, o, rfl, _⟩ := h
    rfl
  · obtain ⟨a, o, rfl, hE, qq⟩ := h
    refine ⟨_, PSs.nox (pss_cons (ps_set (i := 1) scKa.nd rfl (.inl rfl) (pe_lst pa_nil))
      (pss_cons (ps_expr (pe_bm PySem.F.plainAttrs_list PySem.F.slot_list_extend PySem.F.type_list_extend mt_extend (pv 1) (pa_cons (pe_lst (pa_cons (pe_isn (n := "Apart") rfl rfl (.inl rfl) (by rfl) mi (by rfl) (c.gC "Apart" (by decide +kernel)) (by decide +kernel)) (pa_cons (pe_isn (n := "BadAnswers") rfl rfl (.inl rfl) (by rfl) mi (by rfl) (c.gC "BadAnswers" (by decide +kernel)) (by decide +kernel)) pa_nil))) pa_nil)))
      (pss_cons (ps_expr (pe_bm PySem.F.plainAttrs_list PySem.F.slot_list_extend PySem.F.type_list_extend mt_extend (pv 1) (pa_cons (pe_lst (pa_cons (pe_isn (n := "BadBegin") rfl rfl (.inl rfl) (by rfl) mi (by rfl) (c.gC "BadBegin" (by decide +kernel)) (by decide +kernel)) (pa_cons (pe_isn (n := "BadBook") rfl rfl (.inl rfl) (by rfl) mi (by rfl) (c.gC "BadBook" (by decide +kernel)) (by decide +kernel)) pa_nil))) pa_nil)))
      (pss_cons (ps_expr (pe_bm PySem.F.plainAttrs_list PySem.F.slot_list_extend PySem.F.type_list_extend mt_extend (pv 1) (pa_cons (pe_lst (pa_cons (pe_isn (n := "BadBooks") rfl rfl (.inl rfl) (by rfl) mi (by rfl) (c.gC "BadBooks" (by decide +kernel)) (by decide +kernel)) (pa_cons (pe_isn (n := "BadClient") rfl rfl (.inl rfl) (by rfl) mi (by rfl) (c.gC "BadClient" (by decide +kernel)) (by decide +kernel)) pa_nil))) pa_nil)))
      (pss_cons (ps_expr (pe_bm PySem.F.plainAttrs_list PySem.F.slot_list_extend PySem.F.type_list_extend mt_extend (pv 1) (pa_cons (pe_lst (pa_cons (pe_isn (n := "BadClients") rfl rfl (.inl rfl) (by rfl) mi (by rfl) (c.gC "BadClients" (by decide +kernel)) (by decide +kernel)) (pa_cons (pe_isn (n := "BadCouncil") rfl rfl (.inl rfl) (by rfl) mi (by rfl) (c.gC "BadCouncil" (by decide +kernel)) (by decide +kernel)) pa_nil))) pa_nil)))
      (pss_cons (ps_expr (pe_bm PySem.F.plainAttrs_list PySem.F.slot_list_extend PySem.F.type_list_extend mt_extend (pv 1) (pa_cons (pe_lst (pa_cons (pe_isn (n := "BadCouncilbook") rfl rfl (.inl rfl) (by rfl) mi (by rfl) (c.gC "BadCouncilbook" (by decide +kernel)) (by decide +kernel)) (pa_cons (pe_isn (n := "BadDeed") rfl rfl (.inl rfl) (by rfl) mi (by rfl) (c.gC "BadDeed" (by decide +kernel)) (by decide +kernel)) pa_nil))) pa_nil)))
      (pss_cons (ps_expr (pe_bm PySem.F.plainAttrs_list PySem.F.slot_list_extend PySem.F.type_list_extend mt_extend (pv 1) (pa_cons (pe_lst (pa_cons (pe_isn (n := "BadDeedRow") rfl rfl (.inl rfl) (by rfl) mi (by rfl) (c.gC "BadDeedRow" (by decide +kernel)) (by decide +kernel)) (pa_cons (pe_isn (n := "BadFailed") rfl rfl (.inl rfl) (by rfl) mi (by rfl) (c.gC "BadFailed" (by decide +kernel)) (by decide +kernel)) pa_nil))) pa_nil)))
      (pss_cons (ps_expr (pe_bm PySem.F.plainAttrs_list PySem.F.slot_list_extend PySem.F.type_list_extend mt_extend (pv 1) (pa_cons (pe_lst (pa_cons (pe_isn (n := "BadFailing") rfl rfl (.inl rfl) (by rfl) mi (by rfl) (c.gC "BadFailing" (by decide +kernel)) (by decide +kernel)) (pa_cons (pe_isn (n := "BadFallen") rfl rfl (.inl rfl) (by rfl) mi (by rfl) (c.gC "BadFallen" (by decide +kernel)) (by decide +kernel)) pa_nil))) pa_nil)))
      (pss_cons (ps_expr (pe_bm PySem.F.plainAttrs_list PySem.F.slot_list_extend PySem.F.type_list_extend mt_extend (pv 1) (pa_cons (pe_lst (pa_cons (pe_isn (n := "BadFamily") rfl rfl (.inl rfl) (by rfl) mi (by rfl) (c.gC "BadFamily" (by decide +kernel)) (by decide +kernel)) (pa_cons (pe_isn (n := "BadFaults") rfl rfl (.inl rfl) (by rfl) mi (by rfl) (c.gC "BadFaults" (by decide +kernel)) (by decide +kernel)) pa_nil))) pa_nil)))
      (pss_cons (ps_expr (pe_bm PySem.F.plainAttrs_list PySem.F.slot_list_extend PySem.F.type_list_extend mt_extend (pv 1) (pa_cons (pe_lst (pa_cons (pe_isn (n := "BadFirst") rfl rfl (.inl rfl) (by rfl) mi (by rfl) (c.gC "BadFirst" (by decide +kernel)) (by decide +kernel)) (pa_cons (pe_isn (n := "BadForm") rfl rfl (.inl rfl) (by rfl) mi (by rfl) (c.gC "BadForm" (by decide +kernel)) (by decide +kernel)) pa_nil))) pa_nil)))
      (pss_one (ps_ret (pv 1))))))))))))), ?_⟩
    refine ⟨Nat.zero_le _, fun q nq => ?_⟩
    have W : KW K H (upd H q (.lst [])) a o q [] := ⟨Ex.new nq, nq, upd_same, hE⟩
    refine W.two (n := "Apart") (n' := "BadAnswers") c (by decide +kernel) (by decide +kernel) (by show 0 ≤ 1000; decide) fun H0 W => ?_
    refine W.two (n := "BadBegin") (n' := "BadBook") c (by decide +kernel) (by decide +kernel) (by show 2 ≤ 1000; decide) fun H1 W => ?_
    refine W.two (n := "BadBooks") (n' := "BadClient") c (by decide +kernel) (by decide +kernel) (by show 4 ≤ 1000; decide) fun H2 W => ?_
    refine W.two (n := "BadClients") (n' := "BadCouncil") c (by decide +kernel) (by decide +kernel) (by show 6 ≤ 1000; decide) fun H3 W => ?_
    refine W.two (n := "BadCouncilbook") (n' := "BadDeed") c (by decide +kernel) (by decide +kernel) (by show 8 ≤ 1000; decide) fun H4 W => ?_
    refine W.two (n := "BadDeedRow") (n' := "BadFailed") c (by decide +kernel) (by decide +kernel) (by show 10 ≤ 1000; decide) fun H5 W => ?_
    refine W.two (n := "BadFailing") (n' := "BadFallen") c (by decide +kernel) (by decide +kernel) (by show 12 ≤ 1000; decide) fun H6 W => ?_
    refine W.two (n := "BadFamily") (n' := "BadFaults") c (by decide +kernel) (by decide +kernel) (by show 14 ≤ 1000; decide) fun H7 W => ?_
    refine W.two (n := "BadFirst") (n' := "BadForm") c (by decide +kernel) (by decide +kernel) (by show 16 ≤ 1000; decide) fun H8 W => ?_
    exact ⟨.ref q, rfl, qq q _ W.e W.n W.l⟩
def ns_b : List Str := ["BadHistory", "BadHistoryRow", "BadInner", "BadKeeper", "BadKeepers", "BadKind", "BadLast", "BadLot", "BadLots", "BadMany", "BadMost", "BadName", "BadNames", "BadNaming", "BadNumber", "BadOrder", "BadOther", "BadOtherBook"]
theorem scKb : FnScope ["e", "found"] ["e"] (defScope (top 93)) := ⟨rfl, rfl, rfl, by decide +kernel, rfl, by decide +kernel, by decide +kernel⟩
theorem ok_kinds_b (F : FnP K "_law_kinds_b" (top 93) f fd) (c : Cl K mg) (mi : mg "isinstance" = none) : FnOk P w K mg base CX0 1 f fd ["e"] (spKinds K ns_b) := by
  refine F.ok scKb (fun vs H Q E h => ?_) (fun cdv A outer s H vs Q E hr h => ?_)
  · obtain ⟨a, o, rfl, _⟩ := h
    rfl
  · obtain ⟨a, o, rfl, hE, qq⟩ := h
    refine ⟨_, PSs.nox (pss_cons (ps_set (i := 1) scKb.nd rfl (.inl rfl) (pe_lst pa_nil))
      (pss_cons (ps_expr (pe_bm PySem.F.plainAttrs_list PySem.F.slot_list_extend PySem.F.type_list_extend mt_extend (pv 1) (pa_cons (pe_lst (pa_cons (pe_isn (n := "BadHistory") rfl rfl (.inl rfl) (by rfl) mi (by rfl) (c.gC "BadHistory" (by decide +kernel)) (by decide +kernel)) (pa_cons (pe_isn (n := "BadHistoryRow") rfl rfl (.inl rfl) (by rfl) mi (by rfl) (c.gC "BadHistoryRow" (by decide +kernel)) (by decide +kernel)) pa_nil))) pa_nil)))
      (pss_cons (ps_expr (pe_bm PySem.F.plainAttrs_list PySem.F.slot_list_extend PySem.F.type_list_extend mt_extend (pv 1) (pa_cons (pe_lst (pa_cons (pe_isn (n := "BadInner") rfl rfl (.inl rfl) (by rfl) mi (by rfl) (c.gC "BadInner" (by decide +kernel)) (by decide +kernel)) (pa_cons (pe_isn (n := "BadKeeper") rfl rfl (.inl rfl) (by rfl) mi (by rfl) (c.gC "BadKeeper" (by decide +kernel)) (by decide +kernel)) pa_nil))) pa_nil)))
      (pss_cons (ps_expr (pe_bm PySem.F.plainAttrs_list PySem.F.slot_list_extend PySem.F.type_list_extend mt_extend (pv 1) (pa_cons (pe_lst (pa_cons (pe_isn (n := "BadKeepers") rfl rfl (.inl rfl) (by rfl) mi (by rfl) (c.gC "BadKeepers" (by decide +kernel)) (by decide +kernel)) (pa_cons (pe_isn (n := "BadKind") rfl rfl (.inl rfl) (by rfl) mi (by rfl) (c.gC "BadKind" (by decide +kernel)) (by decide +kernel)) pa_nil))) pa_nil)))
      (pss_cons (ps_expr (pe_bm PySem.F.plainAttrs_list PySem.F.slot_list_extend PySem.F.type_list_extend mt_extend (pv 1) (pa_cons (pe_lst (pa_cons (pe_isn (n := "BadLast") rfl rfl (.inl rfl) (by rfl) mi (by rfl) (c.gC "BadLast" (by decide +kernel)) (by decide +kernel)) (pa_cons (pe_isn (n := "BadLot") rfl rfl (.inl rfl) (by rfl) mi (by rfl) (c.gC "BadLot" (by decide +kernel)) (by decide +kernel)) pa_nil))) pa_nil)))
      (pss_cons (ps_expr (pe_bm PySem.F.plainAttrs_list PySem.F.slot_list_extend PySem.F.type_list_extend mt_extend (pv 1) (pa_cons (pe_lst (pa_cons (pe_isn (n := "BadLots") rfl rfl (.inl rfl) (by rfl) mi (by rfl) (c.gC "BadLots" (by decide +kernel)) (by decide +kernel)) (pa_cons (pe_isn (n := "BadMany") rfl rfl (.inl rfl) (by rfl) mi (by rfl) (c.gC "BadMany" (by decide +kernel)) (by decide +kernel)) pa_nil))) pa_nil)))
      (pss_cons (ps_expr (pe_bm PySem.F.plainAttrs_list PySem.F.slot_list_extend PySem.F.type_list_extend mt_extend (pv 1) (pa_cons (pe_lst (pa_cons (pe_isn (n := "BadMost") rfl rfl (.inl rfl) (by rfl) mi (by rfl) (c.gC "BadMost" (by decide +kernel)) (by decide +kernel)) (pa_cons (pe_isn (n := "BadName") rfl rfl (.inl rfl) (by rfl) mi (by rfl) (c.gC "BadName" (by decide +kernel)) (by decide +kernel)) pa_nil))) pa_nil)))
      (pss_cons (ps_expr (pe_bm PySem.F.plainAttrs_list PySem.F.slot_list_extend PySem.F.type_list_extend mt_extend (pv 1) (pa_cons (pe_lst (pa_cons (pe_isn (n := "BadNames") rfl rfl (.inl rfl) (by rfl) mi (by rfl) (c.gC "BadNames" (by decide +kernel)) (by decide +kernel)) (pa_cons (pe_isn (n := "BadNaming") rfl rfl (.inl rfl) (by rfl) mi (by rfl) (c.gC "BadNaming" (by decide +kernel)) (by decide +kernel)) pa_nil))) pa_nil)))
      (pss_cons (ps_expr (pe_bm PySem.F.plainAttrs_list PySem.F.slot_list_extend PySem.F.type_list_extend mt_extend (pv 1) (pa_cons (pe_lst (pa_cons (pe_isn (n := "BadNumber") rfl rfl (.inl rfl) (by rfl) mi (by rfl) (c.gC "BadNumber" (by decide +kernel)) (by decide +kernel)) (pa_cons (pe_isn (n := "BadOrder") rfl rfl (.inl rfl) (by rfl) mi (by rfl) (c.gC "BadOrder" (by decide +kernel)) (by decide +kernel)) pa_nil))) pa_nil)))
      (pss_cons (ps_expr (pe_bm PySem.F.plainAttrs_list PySem.F.slot_list_extend PySem.F.type_list_extend mt_extend (pv 1) (pa_cons (pe_lst (pa_cons (pe_isn (n := "BadOther") rfl rfl (.inl rfl) (by rfl) mi (by rfl) (c.gC "BadOther" (by decide +kernel)) (by decide +kernel)) (pa_cons (pe_isn (n := "BadOtherBook") rfl rfl (.inl rfl) (by rfl) mi (by rfl) (c.gC "BadOtherBook" (by decide +kernel)) (by decide +kernel)) pa_nil))) pa_nil)))
      (pss_one (ps_ret (pv 1))))))))))))), ?_⟩
    refine ⟨Nat.zero_le _, fun q nq => ?_⟩
    have W : KW K H (upd H q (.lst [])) a o q [] := ⟨Ex.new nq, nq, upd_same, hE⟩
    refine W.two (n := "BadHistory") (n' := "BadHistoryRow") c (by decide +kernel) (by decide +kernel) (by show 0 ≤ 1000; decide) fun H0 W => ?_
    refine W.two (n := "BadInner") (n' := "BadKeeper") c (by decide +kernel) (by decide +kernel) (by show 2 ≤ 1000; decide) fun H1 W => ?_
    refine W.two (n := "BadKeepers") (n' := "BadKind") c (by decide +kernel) (by decide +kernel) (by show 4 ≤ 1000; decide) fun H2 W => ?_
    refine W.two (n := "BadLast") (n' := "BadLot") c (by decide +kernel) (by decide +kernel) (by show 6 ≤ 1000; decide) fun H3 W => ?_
    refine W.two (n := "BadLots") (n' := "BadMany") c (by decide +kernel) (by decide +kernel) (by show 8 ≤ 1000; decide) fun H4 W => ?_
    refine W.two (n := "BadMost") (n' := "BadName") c (by decide +kernel) (by decide +kernel) (by show 10 ≤ 1000; decide) fun H5 W => ?_
    refine W.two (n := "BadNames") (n' := "BadNaming") c (by decide +kernel) (by decide +kernel) (by show 12 ≤ 1000; decide) fun H6 W => ?_
    refine W.two (n := "BadNumber") (n' := "BadOrder") c (by decide +kernel) (by decide +kernel) (by show 14 ≤ 1000; decide) fun H7 W => ?_
    refine W.two (n := "BadOther") (n' := "BadOtherBook") c (by decide +kernel) (by decide +kernel) (by show 16 ≤ 1000; decide) fun H8 W => ?_
    exact ⟨.ref q, rfl, qq q _ W.e W.n W.l⟩
def ns_c : List Str := ["BadOtherCouncil", "BadOtherFamily", "BadOtherFaults", "BadOtherKeepers", "BadOtherNumber", "BadOtherRow", "BadPair", "BadProbes", "BadQuestion", "BadRate", "BadReadNumber", "BadRow", "BadRows", "BadSchedule", "BadShare", "BadSlices", "BadSlow", "BadSome"]
theorem scKc : FnScope ["e", "found"] ["e"] (defScope (top 94)) := ⟨rfl, rfl, rfl, by decide +kernel, rfl, by decide +kernel, by decide +kernel⟩
theorem ok_kinds_c (F : FnP K "_law_kinds_c" (top 94) f fd) (c : Cl K mg) (mi : mg "isinstance" = none) : FnOk P w K mg base CX0 1 f fd ["e"] (spKinds K ns_c) := by
  refine F.ok scKc (fun vs H Q E h => ?_) (fun cdv A outer s H vs Q E hr h => ?_)
  · obtain ⟨a, o, rfl, _⟩ := h
    rfl
  · obtain ⟨a, o, rfl, hE, qq⟩ := h
    refine ⟨_, PSs.nox (pss_cons (ps_set (i := 1) scKc.nd rfl (.inl rfl) (pe_lst pa_nil))
      (pss_cons (ps_expr (pe_bm PySem.F.plainAttrs_list PySem.F.slot_list_extend PySem.F.type_list_extend mt_extend (pv 1) (pa_cons (pe_lst (pa_cons (pe_isn (n := "BadOtherCouncil") rfl rfl (.inl rfl) (by rfl) mi (by rfl) (c.gC "BadOtherCouncil" (by decide +kernel)) (by decide +kernel)) (pa_cons (pe_isn (n := "BadOtherFamily") rfl rfl (.inl rfl) (by rfl) mi (by rfl) (c.gC "BadOtherFamily" (by decide +kernel)) (by decide +kernel)) pa_nil))) pa_nil)))
      (pss_cons (ps_expr (pe_bm PySem.F.plainAttrs_list PySem.F.slot_list_extend PySem.F.type_list_extend mt_extend (pv 1) (pa_cons (pe_lst (pa_cons (pe_isn (n := "BadOtherFaults") rfl rfl (.inl rfl) (by rfl) mi (by rfl) (c.gC "BadOtherFaults" (by decide +kernel)) (by decide +kernel)) (pa_cons (pe_isn (n := "BadOtherKeepers") rfl rfl (.inl rfl) (by rfl) mi (by rfl) (c.gC "BadOtherKeepers" (by decide +kernel)) (by decide +kernel)) pa_nil))) pa_nil)))
      (pss_cons (ps_expr (pe_bm PySem.F.plainAttrs_list PySem.F.slot_list_extend PySem.F.type_list_extend mt_extend (pv 1) (pa_cons (pe_lst (pa_cons (pe_isn (n := "BadOtherNumber") rfl rfl (.inl rfl) (by rfl) mi (by rfl) (c.gC "BadOtherNumber" (by decide +kernel)) (by decide +kernel)) (pa_cons (pe_isn (n := "BadOtherRow") rfl rfl (.inl rfl) (by rfl) mi (by rfl) (c.gC "BadOtherRow" (by decide +kernel)) (by decide +kernel)) pa_nil))) pa_nil)))
      (pss_cons (ps_expr (pe_bm PySem.F.plainAttrs_list PySem.F.slot_list_extend PySem.F.type_list_extend mt_extend (pv 1) (pa_cons (pe_lst (pa_cons (pe_isn (n := "BadPair") rfl rfl (.inl rfl) (by rfl) mi (by rfl) (c.gC "BadPair" (by decide +kernel)) (by decide +kernel)) (pa_cons (pe_isn (n := "BadProbes") rfl rfl (.inl rfl) (by rfl) mi (by rfl) (c.gC "BadProbes" (by decide +kernel)) (by decide +kernel)) pa_nil))) pa_nil)))
      (pss_cons (ps_expr (pe_bm PySem.F.plainAttrs_list PySem.F.slot_list_extend PySem.F.type_list_extend mt_extend (pv 1) (pa_cons (pe_lst (pa_cons (pe_isn (n := "BadQuestion") rfl rfl (.inl rfl) (by rfl) mi (by rfl) (c.gC "BadQuestion" (by decide +kernel)) (by decide +kernel)) (pa_cons (pe_isn (n := "BadRate") rfl rfl (.inl rfl) (by rfl) mi (by rfl) (c.gC "BadRate" (by decide +kernel)) (by decide +kernel)) pa_nil))) pa_nil)))
      (pss_cons (ps_expr (pe_bm PySem.F.plainAttrs_list PySem.F.slot_list_extend PySem.F.type_list_extend mt_extend (pv 1) (pa_cons (pe_lst (pa_cons (pe_isn (n := "BadReadNumber") rfl rfl (.inl rfl) (by rfl) mi (by rfl) (c.gC "BadReadNumber" (by decide +kernel)) (by decide +kernel)) (pa_cons (pe_isn (n := "BadRow") rfl rfl (.inl rfl) (by rfl) mi (by rfl) (c.gC "BadRow" (by decide +kernel)) (by decide +kernel)) pa_nil))) pa_nil)))
      (pss_cons (ps_expr (pe_bm PySem.F.plainAttrs_list PySem.F.slot_list_extend PySem.F.type_list_extend mt_extend (pv 1) (pa_cons (pe_lst (pa_cons (pe_isn (n := "BadRows") rfl rfl (.inl rfl) (by rfl) mi (by rfl) (c.gC "BadRows" (by decide +kernel)) (by decide +kernel)) (pa_cons (pe_isn (n := "BadSchedule") rfl rfl (.inl rfl) (by rfl) mi (by rfl) (c.gC "BadSchedule" (by decide +kernel)) (by decide +kernel)) pa_nil))) pa_nil)))
      (pss_cons (ps_expr (pe_bm PySem.F.plainAttrs_list PySem.F.slot_list_extend PySem.F.type_list_extend mt_extend (pv 1) (pa_cons (pe_lst (pa_cons (pe_isn (n := "BadShare") rfl rfl (.inl rfl) (by rfl) mi (by rfl) (c.gC "BadShare" (by decide +kernel)) (by decide +kernel)) (pa_cons (pe_isn (n := "BadSlices") rfl rfl (.inl rfl) (by rfl) mi (by rfl) (c.gC "BadSlices" (by decide +kernel)) (by decide +kernel)) pa_nil))) pa_nil)))
      (pss_cons (ps_expr (pe_bm PySem.F.plainAttrs_list PySem.F.slot_list_extend PySem.F.type_list_extend mt_extend (pv 1) (pa_cons (pe_lst (pa_cons (pe_isn (n := "BadSlow") rfl rfl (.inl rfl) (by rfl) mi (by rfl) (c.gC "BadSlow" (by decide +kernel)) (by decide +kernel)) (pa_cons (pe_isn (n := "BadSome") rfl rfl (.inl rfl) (by rfl) mi (by rfl) (c.gC "BadSome" (by decide +kernel)) (by decide +kernel)) pa_nil))) pa_nil)))
      (pss_one (ps_ret (pv 1))))))))))))), ?_⟩
    refine ⟨Nat.zero_le _, fun q nq => ?_⟩
    have W : KW K H (upd H q (.lst [])) a o q [] := ⟨Ex.new nq, nq, upd_same, hE⟩
    refine W.two (n := "BadOtherCouncil") (n' := "BadOtherFamily") c (by decide +kernel) (by decide +kernel) (by show 0 ≤ 1000; decide) fun H0 W => ?_
    refine W.two (n := "BadOtherFaults") (n' := "BadOtherKeepers") c (by decide +kernel) (by decide +kernel) (by show 2 ≤ 1000; decide) fun H1 W => ?_
    refine W.two (n := "BadOtherNumber") (n' := "BadOtherRow") c (by decide +kernel) (by decide +kernel) (by show 4 ≤ 1000; decide) fun H2 W => ?_
    refine W.two (n := "BadPair") (n' := "BadProbes") c (by decide +kernel) (by decide +kernel) (by show 6 ≤ 1000; decide) fun H3 W => ?_
    refine W.two (n := "BadQuestion") (n' := "BadRate") c (by decide +kernel) (by decide +kernel) (by show 8 ≤ 1000; decide) fun H4 W => ?_
    refine W.two (n := "BadReadNumber") (n' := "BadRow") c (by decide +kernel) (by decide +kernel) (by show 10 ≤ 1000; decide) fun H5 W => ?_
    refine W.two (n := "BadRows") (n' := "BadSchedule") c (by decide +kernel) (by decide +kernel) (by show 12 ≤ 1000; decide) fun H6 W => ?_
    refine W.two (n := "BadShare") (n' := "BadSlices") c (by decide +kernel) (by decide +kernel) (by show 14 ≤ 1000; decide) fun H7 W => ?_
    refine W.two (n := "BadSlow") (n' := "BadSome") c (by decide +kernel) (by decide +kernel) (by show 16 ≤ 1000; decide) fun H8 W => ?_
    exact ⟨.ref q, rfl, qq q _ W.e W.n W.l⟩
def ns_d : List Str := ["BadSpeeds", "BadStep", "BadStore", "BadStrategies", "BadStrategy", "BadText", "BadTree", "BadVotes", "BadWeights", "BadWithin", "BadWriteNumber", "InUse", "IsWatched", "LastKeeper", "ManyWriters", "NoBetter", "NoCount", "NoLots"]
theorem scKd : FnScope ["e", "found"] ["e"] (defScope (top 95)) := ⟨rfl, rfl, rfl, by decide +kernel, rfl, by decide +kernel, by decide +kernel⟩
theorem ok_kinds_d (F : FnP K "_law_kinds_d" (top 95) f fd) (c : Cl K mg) (mi : mg "isinstance" = none) : FnOk P w K mg base CX0 1 f fd ["e"] (spKinds K ns_d) := by
  refine F.ok scKd (fun vs H Q E h => ?_) (fun cdv A outer s H vs Q E hr h => ?_)
  · obtain ⟨a, o, rfl, _⟩ := h
    rfl
  · obtain ⟨a, o, rfl, hE, qq⟩ := h
    refine ⟨_, PSs.nox (pss_cons (ps_set (i := 1) scKd.nd rfl (.inl rfl) (pe_lst pa_nil))
      (pss_cons (ps_expr (pe_bm PySem.F.plainAttrs_list PySem.F.slot_list_extend PySem.F.type_list_extend mt_extend (pv 1) (pa_cons (pe_lst (pa_cons (pe_isn (n := "BadSpeeds") rfl rfl (.inl rfl) (by rfl) mi (by rfl) (c.gC "BadSpeeds" (by decide +kernel)) (by decide +kernel)) (pa_cons (pe_isn (n := "BadStep") rfl rfl (.inl rfl) (by rfl) mi (by rfl) (c.gC "BadStep" (by decide +kernel)) (by decide +kernel)) pa_nil))) pa_nil)))
      (pss_cons (ps_expr (pe_bm PySem.F.plainAttrs_list PySem.F.slot_list_extend PySem.F.type_list_extend mt_extend (pv 1) (pa_cons (pe_lst (pa_cons (pe_isn (n := "BadStore") rfl rfl (.inl rfl) (by rfl) mi (by rfl) (c.gC "BadStore" (by decide +kernel)) (by decide +kernel)) (pa_cons (pe_isn (n := "BadStrategies") rfl rfl (.inl rfl) (by rfl) mi (by rfl) (c.gC "BadStrategies" (by decide +kernel)) (by decide +kernel)) pa_nil))) pa_nil)))
      (pss_cons (ps_expr (pe_bm PySem.F.plainAttrs_list PySem.F.slot_list_extend PySem.F.type_list_extend mt_extend (pv 1) (pa_cons (pe_lst (pa_cons (pe_isn (n := "BadStrategy") rfl rfl (.inl rfl) (by rfl) mi (by rfl) (c.gC "BadStrategy" (by decide +kernel)) (by decide +kernel)) (pa_cons (pe_isn (n := "BadText") rfl rfl (.inl rfl) (by rfl) mi (by rfl) (c.gC "BadText" (by decide +kernel)) (by decide +kernel)) pa_nil))) pa_nil)))
      (pss_cons (ps_expr (pe_bm PySem.F.plainAttrs_list PySem.F.slot_list_extend PySem.F.type_list_extend mt_extend (pv 1) (pa_cons (pe_lst (pa_cons (pe_isn (n := "BadTree") rfl rfl (.inl rfl) (by rfl) mi (by rfl) (c.gC "BadTree" (by decide +kernel)) (by decide +kernel)) (pa_cons (pe_isn (n := "BadVotes") rfl rfl (.inl rfl) (by rfl) mi (by rfl) (c.gC "BadVotes" (by decide +kernel)) (by decide +kernel)) pa_nil))) pa_nil)))
      (pss_cons (ps_expr (pe_bm PySem.F.plainAttrs_list PySem.F.slot_list_extend PySem.F.type_list_extend mt_extend (pv 1) (pa_cons (pe_lst (pa_cons (pe_isn (n := "BadWeights") rfl rfl (.inl rfl) (by rfl) mi (by rfl) (c.gC "BadWeights" (by decide +kernel)) (by decide +kernel)) (pa_cons (pe_isn (n := "BadWithin") rfl rfl (.inl rfl) (by rfl) mi (by rfl) (c.gC "BadWithin" (by decide +kernel)) (by decide +kernel)) pa_nil))) pa_nil)))
      (pss_cons (ps_expr (pe_bm PySem.F.plainAttrs_list PySem.F.slot_list_extend PySem.F.type_list_extend mt_extend (pv 1) (pa_cons (pe_lst (pa_cons (pe_isn (n := "BadWriteNumber") rfl rfl (.inl rfl) (by rfl) mi (by rfl) (c.gC "BadWriteNumber" (by decide +kernel)) (by decide +kernel)) (pa_cons (pe_isn (n := "InUse") rfl rfl (.inl rfl) (by rfl) mi (by rfl) (c.gC "InUse" (by decide +kernel)) (by decide +kernel)) pa_nil))) pa_nil)))
      (pss_cons (ps_expr (pe_bm PySem.F.plainAttrs_list PySem.F.slot_list_extend PySem.F.type_list_extend mt_extend (pv 1) (pa_cons (pe_lst (pa_cons (pe_isn (n := "IsWatched") rfl rfl (.inl rfl) (by rfl) mi (by rfl) (c.gC "IsWatched" (by decide +kernel)) (by decide +kernel)) (pa_cons (pe_isn (n := "LastKeeper") rfl rfl (.inl rfl) (by rfl) mi (by rfl) (c.gC "LastKeeper" (by decide +kernel)) (by decide +kernel)) pa_nil))) pa_nil)))
      (pss_cons (ps_expr (pe_bm PySem.F.plainAttrs_list PySem.F.slot_list_extend PySem.F.type_list_extend mt_extend (pv 1) (pa_cons (pe_lst (pa_cons (pe_isn (n := "ManyWriters") rfl rfl (.inl rfl) (by rfl) mi (by rfl) (c.gC "ManyWriters" (by decide +kernel)) (by decide +kernel)) (pa_cons (pe_isn (n := "NoBetter") rfl rfl (.inl rfl) (by rfl) mi (by rfl) (c.gC "NoBetter" (by decide +kernel)) (by decide +kernel)) pa_nil))) pa_nil)))
      (pss_cons (ps_expr (pe_bm PySem.F.plainAttrs_list PySem.F.slot_list_extend PySem.F.type_list_extend mt_extend (pv 1) (pa_cons (pe_lst (pa_cons (pe_isn (n := "NoCount") rfl rfl (.inl rfl) (by rfl) mi (by rfl) (c.gC "NoCount" (by decide +kernel)) (by decide +kernel)) (pa_cons (pe_isn (n := "NoLots") rfl rfl (.inl rfl) (by rfl) mi (by rfl) (c.gC "NoLots" (by decide +kernel)) (by decide +kernel)) pa_nil))) pa_nil)))
      (pss_one (ps_ret (pv 1))))))))))))), ?_⟩
    refine ⟨Nat.zero_le _, fun q nq => ?_⟩
    have W : KW K H (upd H q (.lst [])) a o q [] := ⟨Ex.new nq, nq, upd_same, hE⟩
    refine W.two (n := "BadSpeeds") (n' := "BadStep") c (by decide +kernel) (by decide +kernel) (by show 0 ≤ 1000; decide) fun H0 W => ?_
    refine W.two (n := "BadStore") (n' := "BadStrategies") c (by decide +kernel) (by decide +kernel) (by show 2 ≤ 1000; decide) fun H1 W => ?_
    refine W.two (n := "BadStrategy") (n' := "BadText") c (by decide +kernel) (by decide +kernel) (by show 4 ≤ 1000; decide) fun H2 W => ?_
    refine W.two (n := "BadTree") (n' := "BadVotes") c (by decide +kernel) (by decide +kernel) (by show 6 ≤ 1000; decide) fun H3 W => ?_
    refine W.two (n := "BadWeights") (n' := "BadWithin") c (by decide +kernel) (by decide +kernel) (by show 8 ≤ 1000; decide) fun H4 W => ?_
    refine W.two (n := "BadWriteNumber") (n' := "InUse") c (by decide +kernel) (by decide +kernel) (by show 10 ≤ 1000; decide) fun H5 W => ?_
    refine W.two (n := "IsWatched") (n' := "LastKeeper") c (by decide +kernel) (by decide +kernel) (by show 12 ≤ 1000; decide) fun H6 W => ?_
    refine W.two (n := "ManyWriters") (n' := "NoBetter") c (by decide +kernel) (by decide +kernel) (by show 14 ≤ 1000; decide) fun H7 W => ?_
    refine W.two (n := "NoCount") (n' := "NoLots") c (by decide +kernel) (by decide +kernel) (by show 16 ≤ 1000; decide) fun H8 W => ?_
    exact ⟨.ref q, rfl, qq q _ W.e W.n W.l⟩
def ns_e : List Str := ["NobodyLeft", "NotMeeting", "NotNow", "NotPart", "NotSeven", "NotWatched", "TooFew", "Unbroken", "WouldChange"]
theorem scKe : FnScope ["e", "found"] ["e"] (defScope (top 96)) := ⟨rfl, rfl, rfl, by decide +kernel, rfl, by decide +kernel, by decide +kernel⟩
theorem ok_kinds_e (F : FnP K "_law_kinds_e" (top 96) f fd) (c : Cl K mg) (mi : mg "isinstance" = none) : FnOk P w K mg base CX0 1 f fd ["e"] (spKinds K ns_e) := by
  refine F.ok scKe (fun vs H Q E h => ?_) (fun cdv A outer s H vs Q E hr h => ?_)
  · obtain ⟨a, o, rfl, _⟩ := h
    rfl
  · obtain ⟨a, o, rfl, hE, qq⟩ := h
    refine ⟨_, PSs.nox (pss_cons (ps_set (i := 1) scKe.nd rfl (.inl rfl) (pe_lst pa_nil))
      (pss_cons (ps_expr (pe_bm PySem.F.plainAttrs_list PySem.F.slot_list_extend PySem.F.type_list_extend mt_extend (pv 1) (pa_cons (pe_lst (pa_cons (pe_isn (n := "NobodyLeft") rfl rfl (.inl rfl) (by rfl) mi (by rfl) (c.gC "NobodyLeft" (by decide +kernel)) (by decide +kernel)) (pa_cons (pe_isn (n := "NotMeeting") rfl rfl (.inl rfl) (by rfl) mi (by rfl) (c.gC "NotMeeting" (by decide +kernel)) (by decide +kernel)) pa_nil))) pa_nil)))
      (pss_cons (ps_expr (pe_bm PySem.F.plainAttrs_list PySem.F.slot_list_extend PySem.F.type_list_extend mt_extend (pv 1) (pa_cons (pe_lst (pa_cons (pe_isn (n := "NotNow") rfl rfl (.inl rfl) (by rfl) mi (by rfl) (c.gC "NotNow" (by decide +kernel)) (by decide +kernel)) (pa_cons (pe_isn (n := "NotPart") rfl rfl (.inl rfl) (by rfl) mi (by rfl) (c.gC "NotPart" (by decide +kernel)) (by decide +kernel)) pa_nil))) pa_nil)))
      (pss_cons (ps_expr (pe_bm PySem.F.plainAttrs_list PySem.F.slot_list_extend PySem.F.type_list_extend mt_extend (pv 1) (pa_cons (pe_lst (pa_cons (pe_isn (n := "NotSeven") rfl rfl (.inl rfl) (by rfl) mi (by rfl) (c.gC "NotSeven" (by decide +kernel)) (by decide +kernel)) (pa_cons (pe_isn (n := "NotWatched") rfl rfl (.inl rfl) (by rfl) mi (by rfl) (c.gC "NotWatched" (by decide +kernel)) (by decide +kernel)) pa_nil))) pa_nil)))
      (pss_cons (ps_expr (pe_bm PySem.F.plainAttrs_list PySem.F.slot_list_extend PySem.F.type_list_extend mt_extend (pv 1) (pa_cons (pe_lst (pa_cons (pe_isn (n := "TooFew") rfl rfl (.inl rfl) (by rfl) mi (by rfl) (c.gC "TooFew" (by decide +kernel)) (by decide +kernel)) (pa_cons (pe_isn (n := "Unbroken") rfl rfl (.inl rfl) (by rfl) mi (by rfl) (c.gC "Unbroken" (by decide +kernel)) (by decide +kernel)) pa_nil))) pa_nil)))
      (pss_cons (ps_expr (pe_bm PySem.F.plainAttrs_list PySem.F.slot_list_extend PySem.F.type_list_extend mt_extend (pv 1) (pa_cons (pe_lst (pa_cons (pe_isn (n := "WouldChange") rfl rfl (.inl rfl) (by rfl) mi (by rfl) (c.gC "WouldChange" (by decide +kernel)) (by decide +kernel)) pa_nil)) pa_nil)))
      (pss_one (ps_ret (pv 1))))))))), ?_⟩
    refine ⟨Nat.zero_le _, fun q nq => ?_⟩
    have W : KW K H (upd H q (.lst [])) a o q [] := ⟨Ex.new nq, nq, upd_same, hE⟩
    refine W.two (n := "NobodyLeft") (n' := "NotMeeting") c (by decide +kernel) (by decide +kernel) (by show 0 ≤ 1000; decide) fun H0 W => ?_
    refine W.two (n := "NotNow") (n' := "NotPart") c (by decide +kernel) (by decide +kernel) (by show 2 ≤ 1000; decide) fun H1 W => ?_
    refine W.two (n := "NotSeven") (n' := "NotWatched") c (by decide +kernel) (by decide +kernel) (by show 4 ≤ 1000; decide) fun H2 W => ?_
    refine W.two (n := "TooFew") (n' := "Unbroken") c (by decide +kernel) (by decide +kernel) (by show 6 ≤ 1000; decide) fun H3 W => ?_
    refine W.one (n := "WouldChange") c (by decide +kernel) (by show 8 ≤ 1000; decide) fun H4 W => ?_
    exact ⟨.ref q, rfl, qq q _ W.e W.n W.l⟩
end
end K00
/-! text K6 -/
set_option Elab.async false
set_option linter.all false
set_option maxRecDepth 100000
set_option maxHeartbeats 4000000
/-! of its own class alone -/
namespace K00
open PySem PySem.Spec PyProof.Rows L2 Evl XvC PySem.HandSPX
theorem cls_nodup : clsNames.Nodup := by decide +kernel
theorem cls_len : clsNames.length = 81 := by decide +kernel
theorem cls_parts : ns_a ++ ns_b ++ ns_c ++ ns_d ++ ns_e = clsNames := by rfl
theorem kindsOf_app (o : Option Str) (a b : List Str) : kindsOf o (a ++ b) = kindsOf o a ++ kindsOf o b := List.map_append
def boolsOf (o : Option Str) (ns : List Str) : List Bool := ns.map fun n => decide (o = some n)
theorem kindsOf_eq (o : Option Str) (ns : List Str) : kindsOf o ns = (boolsOf o ns).map V.bl := by
  unfold kindsOf boolsOf
  rw [List.map_map]
  rfl
theorem own_eq {n : Str} {i : Nat} (h : clsNames[i]? = some n) : boolsOf (some n) clsNames = (List.range 81).map fun k : Nat => decide (V.int (k : Int) = V.int (i : Int)) := by
  unfold boolsOf
  refine List.ext_getElem? fun j => ?_
  rw [List.getElem?_map, List.getElem?_map]
  have len := cls_len
  by_cases hj : j < 81
  · have hj' : j < clsNames.length := by omega
    rw [List.getElem?_eq_getElem hj']
    obtain ⟨hi, ei⟩ := List.getElem?_eq_some_iff.mp h
    have q : (some n = some clsNames[j]) ↔ (V.int (j : Int) = V.int (i : Int)) := by
      rw [← ei]
      constructor
      · intro z
        have z' := (List.getElem_inj cls_nodup).mp (Option.some.inj z)
        rw [z']
      · intro z
        have z' : (j : Int) = (i : Int) := V.int.inj z
        have z2 : j = i := by omega
        subst z2
        rfl
    rw [List.getElem?_range hj, Option.map_some, Option.map_some, decide_eq_decide.mpr q]
  · rw [List.getElem?_eq_none (by omega), List.getElem?_eq_none (by rw [List.length_range]; omega)]
    rfl
theorem shaped_bools : ∀ ns : List Bool, SeqAt.shaped (.list (ns.map PyData.bool)) = true := fun ns => by
  have h1 : ∀ ns : List Bool, PyData.canLayAll0 (ns.map PyData.bool) = true := by
    intro ns
    induction ns with
    | nil => rfl
    | cons a r ih =>
      show (PyData.canLay0 (.bool a) && PyData.canLayAll0 (r.map PyData.bool)) = true
      rw [ih]
      rfl
  have h2 : ∀ ns : List Bool, (PyData.list (ns.map PyData.bool)).depth ≤ 1 := by
    intro ns
    induction ns with
    | nil => simp [PyData.depth, PyData.depthAll]
    | cons a r ih =>
      simp [PyData.depth, PyData.depthAll] at ih ⊢
      omega
  unfold SeqAt.shaped
  rw [show PyData.canLay0 (.list (ns.map PyData.bool)) = true from h1 ns, decide_eq_true (Nat.le_trans (h2 ns) (by decide))]
  rfl
theorem dp_bools {K : PySem.W.Frag} {H : Hp} : ∀ ns : List Bool, DpAll K H (ns.map V.bl) (ns.map PyData.bool)
  | [] => .nil
  | a :: r => .cons (.bl a) (dp_bools r)
/-- the functions of the kinds, as the head tells them -/
structure Kn (K : PySem.W.Frag) (mg : Str → Option Value) : Prop where
  c : Cl K mg
  mi : mg "isinstance" = none
  a : ∃ f fd, FnP K "_law_kinds_a" (top 92) f fd ∧ mg "_law_kinds_a" = some (.ref f)
  b : ∃ f fd, FnP K "_law_kinds_b" (top 93) f fd ∧ mg "_law_kinds_b" = some (.ref f)
  cc : ∃ f fd, FnP K "_law_kinds_c" (top 94) f fd ∧ mg "_law_kinds_c" = some (.ref f)
  d : ∃ f fd, FnP K "_law_kinds_d" (top 95) f fd ∧ mg "_law_kinds_d" = some (.ref f)
  e : ∃ f fd, FnP K "_law_kinds_e" (top 96) f fd ∧ mg "_law_kinds_e" = some (.ref f)
section
variable {P : Program} {w : World} {K : PySem.W.Frag} {mg : Str → Option Value} {base : Heap} {f : Addr} {fd : FuncData}
theorem scKinds : FnScope ["e"] ["e"] (defScope (top 97)) := ⟨rfl, rfl, rfl, by decide +kernel, rfl, by decide +kernel, by decide +kernel⟩
theorem ok_kinds (F : FnP K "_law_kinds" (top 97) f fd) (k : Kn K mg) : FnOk P w K mg base CX0 2 f fd ["e"] (spKinds K clsNames) := by
  obtain ⟨fa, da, Fa, ga⟩ := k.a
  obtain ⟨fb, db, Fb, gb⟩ := k.b
  obtain ⟨fc, dc, Fc, gc⟩ := k.cc
  obtain ⟨fe, de, Fe, ge⟩ := k.d
  obtain ⟨fg, dg, Fg, gg⟩ := k.e
  have Ga := ok_kinds_a (P := P) (w := w) (base := base) Fa k.c k.mi
  have Gb := ok_kinds_b (P := P) (w := w) (base := base) Fb k.c k.mi
  have Gc := ok_kinds_c (P := P) (w := w) (base := base) Fc k.c k.mi
  have Ge := ok_kinds_d (P := P) (w := w) (base := base) Fe k.c k.mi
  have Gg := ok_kinds_e (P := P) (w := w) (base := base) Fg k.c k.mi
  have ba : Binds K da ["e"] [] := Fa.bindsN fun _ _ _ _ _ _ us hl => match us, hl with | [_], _ => rfl
  have bb : Binds K db ["e"] [] := Fb.bindsN fun _ _ _ _ _ _ us hl => match us, hl with | [_], _ => rfl
  have bc : Binds K dc ["e"] [] := Fc.bindsN fun _ _ _ _ _ _ us hl => match us, hl with | [_], _ => rfl
  have be : Binds K de ["e"] [] := Fe.bindsN fun _ _ _ _ _ _ us hl => match us, hl with | [_], _ => rfl
  have bg : Binds K dg ["e"] [] := Fg.bindsN fun _ _ _ _ _ _ us hl => match us, hl with | [_], _ => rfl
  refine F.ok scKinds (fun vs H Q E h => ?_) (fun cdv A outer s H vs Q E hr h => ?_)
  · obtain ⟨a, o, rfl, _⟩ := h
    rfl
  · obtain ⟨a, o, rfl, hE, qq⟩ := h
    refine ⟨_, PSs.nox (pss_one (ps_ret (pe_op op_cat (pe_op op_cat (pe_op op_cat (pe_op op_cat
      (pe_call Ga hr (by rfl) ga Fa.kp ba .nil pass0 (pa_cons (pv 0) pa_nil)) (pe_call Gb hr (by rfl) gb Fb.kp bb .nil pass0 (pa_cons (pv 0) pa_nil))) (pe_call Gc hr (by rfl) gc Fc.kp bc .nil pass0 (pa_cons (pv 0) pa_nil)))
      (pe_call Ge hr (by rfl) ge Fe.kp be .nil pass0 (pa_cons (pv 0) pa_nil))) (pe_call Gg hr (by rfl) gg Fg.kp bg .nil pass0 (pa_cons (pv 0) pa_nil))))), ?_⟩
    refine ⟨.ref a, rfl, a, o, rfl, hE, fun q1 H1 e1 n1 l1 => ⟨.ref a, rfl, a, o, rfl, hE.ext e1, fun q2 H2 e2 n2 l2 => ⟨q1, q2, _, _, rfl, rfl, e2 _ _ l1, l2, by unfold kindsOf; rw [List.length_map, List.length_map]; decide, fun p1 m1 => ?_⟩⟩⟩
    have x1 : Ex H (upd H2 p1 (.lst (kindsOf o ns_a ++ kindsOf o ns_b))) := (e1.trans e2).trans (Ex.new m1)
    refine ⟨.ref a, rfl, a, o, rfl, hE.ext x1, fun q3 H3 e3 n3 l3 => ⟨p1, q3, _, _, rfl, rfl, e3 _ _ upd_same, l3, by unfold kindsOf; rw [List.length_append, List.length_map, List.length_map, List.length_map]; decide, fun p2 m2 => ?_⟩⟩
    have x2 := (x1.trans e3).trans (Ex.new (o := .lst (kindsOf o ns_a ++ kindsOf o ns_b ++ kindsOf o ns_c)) m2)
    refine ⟨.ref a, rfl, a, o, rfl, hE.ext x2, fun q4 H4 e4 n4 l4 => ⟨p2, q4, _, _, rfl, rfl, e4 _ _ upd_same, l4, by unfold kindsOf; rw [List.length_append, List.length_append, List.length_map, List.length_map, List.length_map, List.length_map]; decide, fun p3 m3 => ?_⟩⟩
    have x3 := (x2.trans e4).trans (Ex.new (o := .lst (kindsOf o ns_a ++ kindsOf o ns_b ++ kindsOf o ns_c ++ kindsOf o ns_d)) m3)
    refine ⟨.ref a, rfl, a, o, rfl, hE.ext x3, fun q5 H5 e5 n5 l5 => ⟨p3, q5, _, _, rfl, rfl, e5 _ _ upd_same, l5, by unfold kindsOf; rw [List.length_append, List.length_append, List.length_append, List.length_map, List.length_map, List.length_map, List.length_map, List.length_map]; decide, fun p4 m4 => ?_⟩⟩
    refine qq p4 _ ((x3.trans e5).trans (Ex.new m4)) (fresh_back (x3.trans e5) m4) ?_
    rw [upd_same, ← cls_parts, kindsOf_app, kindsOf_app, kindsOf_app, kindsOf_app]
theorem scOwn : FnScope ["e", "at", "k"] ["e", "at"] (defScope (top 98)) := ⟨rfl, rfl, rfl, by decide +kernel, rfl, by decide +kernel, by decide +kernel⟩
def spOwn (K : PySem.W.Frag) : Sp := fun vs H Q _ => ∃ (a : Addr) (n : Str) (i : Nat), vs = [.ref a, .int (i : Int)] ∧ ErrAt K H a (some n) ∧ clsNames[i]? = some n ∧ ∀ H', Ex H H' → Q (.bl true) H'
theorem ok_own (F : FnP K "_law_is_own" (top 98) f fd) {fk : Addr} {fdk : FuncData} (FK : FnP K "_law_kinds" (top 97) fk fdk) (gk : mg "_law_kinds" = some (.ref fk)) (k : Kn K mg) (mv : mg "ValueError" = none) (ml : mg "LookupError" = none) (ma : mg "ArithmeticError" = none) (mt : mg "TypeError" = none) (mr : mg "range" = none) :
    FnOk P w K mg base CX0 3 f fd ["e", "at"] (spOwn K) := by
  have GK := ok_kinds (P := P) (w := w) (base := base) FK k
  have bK : Binds K fdk ["e"] [] := FK.bindsN fun _ _ _ _ _ _ us hl => match us, hl with | [_], _ => rfl
  have mi := k.mi
  refine F.ok scOwn (fun vs H Q E h => ?_) (fun cdv A outer s H vs Q E hr h => ?_)
  · obtain ⟨a, n, i, rfl, _⟩ := h
    rfl
  · obtain ⟨a, n, i, rfl, hE, hn, qq⟩ := h
    refine ⟨_, PSs.nox (pss_cons (ps_if (pw_or (pt_not (pt_val (pe_callB call_isX (by rfl) mi (by decide +kernel) (pa_cons (pv 0) (pa_cons (pe_glob (v := .ref (He.ga K "LotError")) (by rfl) k.c.gB rfl) pa_nil)))))
        (pw_or1 (pt_not (pt_val (pe_callB call_isX (by rfl) mi (by decide +kernel) (pa_cons (pv 0) (pa_cons (pe_bltn (v := .ty "ValueError") (by rfl) mv (by decide +kernel) rfl) pa_nil))))))).pt (pss_one (ps_ret pe_bl)) pss_nil)
      (pss_cons (ps_if (pw_or (pt_val (pe_callB call_isX (by rfl) mi (by decide +kernel) (pa_cons (pv 0) (pa_cons (pe_bltn (v := .ty "LookupError") (by rfl) ml (by decide +kernel) rfl) pa_nil))))
        (pw_or (pt_val (pe_callB call_isX (by rfl) mi (by decide +kernel) (pa_cons (pv 0) (pa_cons (pe_bltn (v := .ty "ArithmeticError") (by rfl) ma (by decide +kernel) rfl) pa_nil))))
        (pw_or1 (pt_val (pe_callB call_isX (by rfl) mi (by decide +kernel) (pa_cons (pv 0) (pa_cons (pe_bltn (v := .ty "TypeError") (by rfl) mt (by decide +kernel) rfl) pa_nil))))))).pt (pss_one (ps_ret pe_bl)) pss_nil)
      (pss_one (ps_ret (pe_cmpR (op_eqD (hu64 hr)) (pe_call GK hr (by rfl) gk FK.kp bK .nil pass0 (pa_cons (pv 0) pa_nil))
        (pe_lc (own := [("k", 2)]) (g := gName 2) (tt := tYes) (te := tOp rEq (tVar 2) (tVar 1)) rfl scOwn.nd (pi_range1 (by rfl) mr (pa_cons pe_int pa_nil)) (blkOk_by (N := ["e", "at", "k"]) (sc := defScope (top 98)) (by decide +kernel))
          (fun _ _ _ _ _ => pg_name (i := 2) scOwn.nd rfl (.inl rfl)) (fun _ _ _ _ _ => pts_nil) (fun _ _ _ _ _ => pe_cmpR op_eq (pv 2) (pv 1) (nomark _))) (nomark _)))))), ?_⟩
    obtain ⟨C, fs, m, hX, T, hk, hB⟩ := k.c.get hE
    refine ⟨.ref a, rfl, a, C, fs, _, _, _, rfl, hX, ⟨m, T⟩, .own _, hB, true, rfl, ?_⟩
    refine ⟨.ref a, rfl, a, C, fs, _, _, _, rfl, hX, ⟨m, T⟩, .ty _, Xc.kitT T "ValueError" (by decide +kernel), true, rfl, ?_⟩
    refine ⟨.ref a, rfl, a, C, fs, _, _, _, rfl, hX, ⟨m, T⟩, .ty _, Xc.kitT T "LookupError" (by decide +kernel), false, rfl, ?_⟩
    refine ⟨.ref a, rfl, a, C, fs, _, _, _, rfl, hX, ⟨m, T⟩, .ty _, Xc.kitT T "ArithmeticError" (by decide +kernel), false, rfl, ?_⟩
    refine ⟨.ref a, rfl, a, C, fs, _, _, _, rfl, hX, ⟨m, T⟩, .ty _, Xc.kitT T "TypeError" (by decide +kernel), false, rfl, ?_⟩
    refine ⟨.ref a, rfl, a, _, rfl, hE, fun q H1 e1 n1 l1 => ?_⟩
    refine ⟨81, rfl, by decide, by decide, fun D nD => ?_⟩
    have Dq : q ≠ D := ne_of_none l1 nD
    refine lc_range (n := 81) (fun j H' => H' D = some (.lst ((List.range j).map fun k : Nat => V.bl (decide (V.int (k : Int) = V.int (i : Int))))) ∧ Ex H1 H') ⟨upd_same, Ex.new nD⟩ (fun j H2 hj hI => ?_) (fun H2 hI => ?_)
    · obtain ⟨g1, g2⟩ := hI
      refine ⟨rfl, ?_⟩
      refine ⟨_, rfl, _, rfl, rfl, _, g1, by rw [List.length_map, List.length_range]; exact sz_lt (by omega), ?_, g2.mut nD⟩
      rw [upd_same, List.range_succ, List.map_append]
      simp
    · obtain ⟨g1, g2⟩ := hI
      refine ⟨.list ((boolsOf (some n) clsNames).map PyData.bool), .list ((boolsOf (some n) clsNames).map PyData.bool), ?_, ?_, shaped_bools _, shaped_bools _, ?_⟩
      · exact .lst (sq_of (g2 _ _ l1)) (by rw [kindsOf_eq]; exact dp_bools _)
      · refine .lst (sq_of g1) ?_
        have e : ((List.range 81).map fun k : Nat => V.bl (decide (V.int (k : Int) = V.int (i : Int)))) = (boolsOf (some n) clsNames).map V.bl := by
          rw [own_eq hn, List.map_map]
          rfl
        rw [e]
        exact dp_bools _
      · have e : PyData.eqv (.list ((boolsOf (some n) clsNames).map PyData.bool)) (.list ((boolsOf (some n) clsNames).map PyData.bool)) = true := SeqAt.eqv_refl _ (SeqAt.canLay_of_shaped (shaped_bools _))
        rw [e]
        exact qq _ (e1.trans g2)
end
end K00
/-! text K7 -/
set_option Elab.async false
set_option linter.all false
set_option maxRecDepth 100000
set_option maxHeartbeats 4000000
/-! whether two things are the same -/
namespace K00
open PySem PySem.Spec PyProof.Rows L2 Evl XvC PySem.HandSPX RZ
def atomV : V → Bool
  | .non => true
  | .bl _ => true
  | .int _ => true
  | .str _ => true
  | _ => false
/-- two things that are the same throughout, of so many depths -/
def Tw (H : Hp) : Nat → V → V → Prop
  | 0 => fun _ _ => False
  | d + 1 => fun v u => (v = u ∧ atomV v = true) ∨ (∃ a b xs ys, v = .ref a ∧ u = .ref b ∧ H a = some (.lst xs) ∧ H b = some (.lst ys) ∧ xs.length ≤ 1000 ∧ Paired (Tw H d) xs ys) ∨
    (∃ a b xs ys, v = .ref a ∧ u = .ref b ∧ H a = some (.tup xs) ∧ H b = some (.tup ys) ∧ xs.length ≤ 1000 ∧ Paired (Tw H d) xs ys) ∨
    (∃ a b kvs, v = .ref a ∧ u = .ref b ∧ H a = some (.dK kvs) ∧ H b = some (.dK kvs) ∧ kvs.length ≤ 1000 ∧ 3 ≤ d ∧ ∀ p ∈ kvs, atomV p.2 = true)
theorem Paired.imp {α β : Type} {F G : α → β → Prop} (h : ∀ a b, F a b → G a b) : ∀ {l : List α} {m : List β}, Paired F l m → Paired G l m
  | _, _, .nil => .nil
  | _, _, .cons a r => .cons (h _ _ a) (Paired.imp h r)
theorem Tw.ext {H H' : Hp} (e : Ex H H') : ∀ {d : Nat} {v u : V}, Tw H d v u → Tw H' d v u
  | 0, _, _, h => h.elim
  | d + 1, v, u, h => by
    rcases h with h | ⟨a, b, xs, ys, h1, h2, h3, h4, h5, h6⟩ | ⟨a, b, xs, ys, h1, h2, h3, h4, h5, h6⟩ | ⟨a, b, kvs, h1, h2, h3, h4, h5, h6, h7⟩
    · exact .inl h
    · exact .inr (.inl ⟨a, b, xs, ys, h1, h2, e _ _ h3, e _ _ h4, h5, Paired.imp (fun _ _ z => Tw.ext e z) h6⟩)
    · exact .inr (.inr (.inl ⟨a, b, xs, ys, h1, h2, e _ _ h3, e _ _ h4, h5, Paired.imp (fun _ _ z => Tw.ext e z) h6⟩))
    · exact .inr (.inr (.inr ⟨a, b, kvs, h1, h2, e _ _ h3, e _ _ h4, h5, h6, h7⟩))
theorem Tw.up {H : Hp} : ∀ {d : Nat} {v u : V}, Tw H d v u → Tw H (d + 1) v u
  | 0, _, _, h => h.elim
  | d + 1, v, u, h => by
    rcases h with h | ⟨a, b, xs, ys, h1, h2, h3, h4, h5, h6⟩ | ⟨a, b, xs, ys, h1, h2, h3, h4, h5, h6⟩ | ⟨a, b, kvs, h1, h2, h3, h4, h5, h6, h7⟩
    · exact .inl h
    · exact .inr (.inl ⟨a, b, xs, ys, h1, h2, h3, h4, h5, Paired.imp (fun _ _ z => Tw.up z) h6⟩)
    · exact .inr (.inr (.inl ⟨a, b, xs, ys, h1, h2, h3, h4, h5, Paired.imp (fun _ _ z => Tw.up z) h6⟩))
    · exact .inr (.inr (.inr ⟨a, b, kvs, h1, h2, h3, h4, h5, by omega, h7⟩))
theorem Paired.at {α β : Type} {F : α → β → Prop} : ∀ {l : List α} {m : List β} {i : Nat} {a : α} {b : β}, Paired F l m → l[i]? = some a → m[i]? = some b → F a b
  | _, _, i, _, _, .nil, h, _ => by simp at h
  | _, _, 0, _, _, .cons q _, h, h' => by
    simp at h h'
    subst h h'
    exact q
  | _, _, i + 1, _, _, .cons _ r, h, h' => Paired.at (i := i) r (by simpa using h) (by simpa using h')
theorem walk_zipT {K : PySem.W.Frag} {a b : Addr} {xs ys : List V} {n : Nat} (hn : n = xs.length) (hl : xs.length = ys.length) : Walk (ItzT K a b) n (fun H => SqT K H a xs ∧ SqT K H b ys) (YPair (fun i => xs[i]?) (fun i => ys[i]?)) := by
  refine ⟨fun i H hi h => ?_, fun H h => ?_, fun i H x H' hi h y => ?_⟩
  · exact ⟨xs, ys, xs[i], ys[i], h.1, h.2, List.getElem?_eq_getElem (by omega), List.getElem?_eq_getElem (by omega)⟩
  · exact ⟨xs, ys, h.1, h.2, .inl (by omega)⟩
  · obtain ⟨T, x', y', h1, h2, h3, h4, h5⟩ := y
    exact ⟨T, x', y', h1, h2, h3, h4 _ h.1, h5 _ h.2⟩
def spS : Nat → Sp
  | 0 => fun _ _ _ _ => False
  | d + 1 => fun vs H Q _ => ∃ v u, vs = [v, u] ∧ Tw H (d + 1) v u ∧ ∀ H', Ex H H' → Q (.bl true) H'
section
variable {P : Program} {w : World} {K : PySem.W.Frag} {mg : Str → Option Value} {base : Heap} {f : Addr} {fd : FuncData}
abbrev NSame : List Str := ["found", "due", "x", "y"]
theorem scSame : FnScope NSame ["found", "due"] (defScope (top 99)) := ⟨rfl, rfl, rfl, by decide +kernel, rfl, by decide +kernel, by decide +kernel⟩
/-- what the names of the built-ins stand for -/
structure Bn (mg : Str → Option Value) : Prop where
  isinstance : mg "isinstance" = none
  str : mg "str" = none
  list : mg "list" = none
  tuple : mg "tuple" = none
  dict : mg "dict" = none
  int : mg "int" = none
  bool : mg "bool" = none
  len : mg "len" = none
  all : mg "all" = none
  zip : mg "zip" = none
def tIsT (K : PySem.W.Frag) (i : Nat) (n : String) : TE := tCB (rIsi K) (tCons (tVar i) (tCons (tC (.ty n)) tNil))
theorem pe_ist {X : Cx} {x n : Str} {tn : String} {i : Nat} {p1 p2 p3 p4 : Pos} (hK : X.K = K) (h0 : X.N[i]? = some x) (hv : Vis X.env.scope x) (hd : (x == ("__debug__" : Str)) = false) (hcd : (x == ("__classdict__" : Str)) = false) (gi : Gl X "isinstance") (mi : X.mg "isinstance" = none) (gn : Gl X n) (mn : X.mg n = none) (hb : bootBuiltins n = some (.type tn)) (hn : n ≠ "__name__") (hdn : (n == ("__debug__" : Str)) = false) :
    PE X (.Call (.Name "isinstance" p1) [.Name x p2, .Name n p3] [] p4) (tIsT K i tn) := by
  subst hK
  exact pe_callB call_isi gi mi (by decide +kernel) (pa_cons (pe_var h0 hv hd hcd) (pa_cons (pe_bltn gn mn hb rfl hn hdn) pa_nil))
/-- the type of an atom -/
def tyN : V → String
  | .non => "NoneType"
  | .bl _ => "bool"
  | .int _ => "int"
  | _ => "str"
theorem tyN_ok {H : Hp} {v : V} (h : atomV v = true) : TyX K H v (.type (tyN v)) := by
  cases v with
  | non => exact .base .non
  | bl b => exact .base (.bl b)
  | int i => exact .base (.int i)
  | str x => exact .base (.str x)
  | _ => cases h
theorem spS_of {d : Nat} {v u : V} {H : Hp} {Q : VK} {E : XK} (h : Tw H d v u) (q : ∀ H', Ex H H' → Q (.bl true) H') : spS d [v, u] H Q E := by
  cases d with
  | zero => exact h.elim
  | succ d => exact ⟨v, u, rfl, h, q⟩
theorem pLT {x : V} : Paired ClsV [V.ty "list", V.ty "tuple"] [Value.type "list", Value.type "tuple"] := .cons (.ty _) (.cons (.ty _) .nil)
theorem kAny {a : String} {b c : Bool} (h1 : kitB a "list" = some b) (h2 : kitB a "tuple" = some c) : PySem.W.kitAny K (.type a) [.type "list", .type "tuple"] = some (b || c) := by
  refine kitAny_cons (kit_ty h1) (r := b || c) (fun e => ?_) fun e => by rw [e]; rfl
  subst e
  refine kitAny_cons (kit_ty h2) (fun e => ?_) fun e => by rw [e]; rfl
  subst e
  rfl
theorem all_rep (n : Nat) : (List.replicate n true).all id = true := by simp
theorem tw_items {H : Hp} {e p p2 : Nat} : ∀ {ts ts2 : List Addr} {kvs : List (Key × V)}, (∀ q ∈ kvs, atomV q.2 = true) → Paired (fun (t : Addr) (q : Key × V) => H t = some (.tup [kV q.1, q.2])) ts kvs → Paired (fun (t : Addr) (q : Key × V) => H t = some (.tup [kV q.1, q.2])) ts2 kvs →
    Paired (Tw H (e + 2)) (ts.map V.ref) (ts2.map V.ref)
  | _, _, _, _, .nil, .nil => .nil
  | _, _, (k, v) :: _, ha, .cons h1 r1, .cons h2 r2 => by
    refine .cons (.inr (.inr (.inl ⟨_, _, _, _, rfl, rfl, h1, h2, by show 2 ≤ 1000; decide, .cons (.inl ⟨rfl, ?_⟩) (.cons (.inl ⟨rfl, ha _ List.mem_cons_self⟩) .nil)⟩))) (tw_items (p := p) (p2 := p2) (fun q hq => ha q (List.mem_cons_of_mem _ hq)) r1 r2)
    cases k <;> rfl
theorem ok_same (F : FnP K "_law_same" (top 99) f fd) (gs : mg "_law_same" = some (.ref f)) (B : Bn mg) : ∀ d, FnOk P w K mg base CX0 d f fd ["found", "due"] (spS d)
  | 0 => ⟨fun _ _ _ _ h => h.elim, fun _ _ _ _ _ _ _ _ _ _ _ _ _ h => h.elim⟩
  | d + 1 => by
    have G := ok_same F gs B d
    have bS : Binds K fd ["found", "due"] [] := F.bindsN fun _ _ _ _ _ _ us hl => match us, hl with | [_, _], _ => rfl
    refine F.ok scSame (fun vs H Q E h => ?_) (fun cdv A outer s H vs Q E hr h => ?_)
    · obtain ⟨v, u, rfl, _⟩ := h
      rfl
    · obtain ⟨v, u, rfl, hT, qq⟩ := h
      refine ⟨_, PSs.nox (pss_cons (ps_if (pt_cmpR op_isN (pv 1) pe_non (nomark _)) (pss_one (ps_ret (pe_cmpR op_isN (pv 0) pe_non (nomark _)))) pss_nil)
        (pss_cons (ps_if (pt_val (pe_ist (x := "due") (n := "str") (tn := "str") (i := 1) rfl rfl (.inl rfl) rfl rfl (by rfl) B.isinstance (by rfl) B.str (by decide +kernel) (by decide) rfl))
          (pss_one (ps_ret (pe_and (pe_ist (x := "found") (n := "str") (tn := "str") (i := 0) rfl rfl (.inl rfl) rfl rfl (by rfl) B.isinstance (by rfl) B.str (by decide +kernel) (by decide) rfl) (pe_one (pe_cmpR op_eq (pv 0) (pv 1) (nomark _)))))) pss_nil)
        (pss_cons (ps_if (pt_val (pe_callB call_isiT (by rfl) B.isinstance (by decide +kernel) (pa_cons (pv 1) (pa_cons (pe_tup (pa_cons (pe_bltn (v := .ty "list") (by rfl) B.list (by decide +kernel) rfl) (pa_cons (pe_bltn (v := .ty "tuple") (by rfl) B.tuple (by decide +kernel) rfl) pa_nil))) pa_nil))))
          (pss_cons (ps_if (pw_or (pt_cmpR op_ne (pe_ist (x := "found") (n := "list") (tn := "list") (i := 0) rfl rfl (.inl rfl) rfl rfl (by rfl) B.isinstance (by rfl) B.list (by decide +kernel) (by decide) rfl) (pe_ist (x := "due") (n := "list") (tn := "list") (i := 1) rfl rfl (.inl rfl) rfl rfl (by rfl) B.isinstance (by rfl) B.list (by decide +kernel) (by decide) rfl) (nomark _))
            (pw_or1 (pt_cmpR op_ne (pe_ist (x := "found") (n := "tuple") (tn := "tuple") (i := 0) rfl rfl (.inl rfl) rfl rfl (by rfl) B.isinstance (by rfl) B.tuple (by decide +kernel) (by decide) rfl) (pe_ist (x := "due") (n := "tuple") (tn := "tuple") (i := 1) rfl rfl (.inl rfl) rfl rfl (by rfl) B.isinstance (by rfl) B.tuple (by decide +kernel) (by decide) rfl) (nomark _)))).pt (pss_one (ps_ret pe_bl)) pss_nil)
          (pss_one (ps_ret (pe_and (pe_cmpR op_eq (pe_callB call_len_seq (by rfl) B.len PySem.boot_len (pa_cons (pv 0) pa_nil)) (pe_callB call_len_seq (by rfl) B.len PySem.boot_len (pa_cons (pv 1) pa_nil)) (nomark _))
            (pe_one (pe_callB (cr_all rfl) (by rfl) B.all (by decide +kernel) (pa_cons (pe_lc (own := [("x", 2), ("y", 3)]) (g := gTup K 2 (gCons (gName 2) (gCons (gName 3) gNil))) (tt := tYes) (te := tCall (spS d) [] E0 (tCons (tVar 2) (tCons (tVar 3) tNil))) rfl scSame.nd
              (pi_zipA (by rfl) B.zip (pa_cons (pv 0) (pa_cons (pv 1) pa_nil))) (blkOk_by (N := NSame) (sc := defScope (top 99)) (by decide +kernel))
              (fun _ _ _ _ _ => pg_tup rfl (pgs_cons (pg_name (i := 2) scSame.nd rfl (.inl rfl)) (pgs_cons (pg_name (i := 3) scSame.nd rfl (.inl rfl)) pgs_nil))) (fun _ _ _ _ _ => pts_nil)
              (fun _ _ _ _ _ => pe_call G hr (by rfl) gs F.kp bS .nil pass0 (pa_cons (pv 2) (pa_cons (pv 3) pa_nil)))) pa_nil))))))) pss_nil)
        (pss_cons (ps_if (pt_val (pe_ist (x := "due") (n := "dict") (tn := "dict") (i := 1) rfl rfl (.inl rfl) rfl rfl (by rfl) B.isinstance (by rfl) B.dict (by decide +kernel) (by decide) rfl))
          (pss_one (ps_ret (pe_and (pe_ist (x := "found") (n := "dict") (tn := "dict") (i := 0) rfl rfl (.inl rfl) rfl rfl (by rfl) B.isinstance (by rfl) B.dict (by decide +kernel) (by decide) rfl)
            (pe_one (pe_call G hr (by rfl) gs F.kp bS .nil pass0 (pa_cons (LiI.pe_listItems rfl (pv 0) (by rfl) B.list (by decide +kernel)) (pa_cons (LiI.pe_listItems rfl (pv 1) (by rfl) B.list (by decide +kernel)) pa_nil))))))) pss_nil)
        (pss_one (ps_ret (pe_and (pe_ist (x := "found") (n := "int") (tn := "int") (i := 0) rfl rfl (.inl rfl) rfl rfl (by rfl) B.isinstance (by rfl) B.int (by decide +kernel) (by decide) rfl)
          (pe_and (pe_cmpR op_eq (pe_ist (x := "found") (n := "bool") (tn := "bool") (i := 0) rfl rfl (.inl rfl) rfl rfl (by rfl) B.isinstance (by rfl) B.bool (by decide +kernel) (by decide) rfl) (pe_ist (x := "due") (n := "bool") (tn := "bool") (i := 1) rfl rfl (.inl rfl) rfl rfl (by rfl) B.isinstance (by rfl) B.bool (by decide +kernel) (by decide) rfl) (nomark _))
            (pe_one (pe_cmpR op_eq (pv 0) (pv 1) (nomark _))))))))))), ?_⟩
      -- one isinstance answered
      rcases hT with ⟨e, ha⟩ | ⟨a, b, xs, ys, e1, e2, ga, gb, hl, hp⟩ | ⟨a, b, xs, ys, e1, e2, ga, gb, hl, hp⟩ | ⟨a, b, kvs, e1, e2, ga, gb, hl, hd, hv⟩
      · subst e
        cases v with
        | non =>
          refine ⟨.non, rfl, rfl, _, rfl, ?_⟩
          exact ⟨.non, rfl, rfl, qq H (Ex.refl H)⟩
        | str x =>
          refine ⟨.str x, rfl, rfl, _, rfl, ?_⟩
          refine ⟨.str x, rfl, _, _, _, _, true, rfl, .ty _, .base (.str x), kit_ty (by decide +kernel), _, rfl, ?_⟩
          refine ⟨.str x, rfl, _, _, _, _, true, rfl, .ty _, .base (.str x), kit_ty (by decide +kernel), _, rfl, ?_⟩
          refine ⟨.str x, rfl, .str x, rfl, rfl, ?_⟩
          rw [decide_eq_true rfl]
          exact qq H (Ex.refl H)
        | bl x =>
          refine ⟨.bl x, rfl, rfl, _, rfl, ?_⟩
          refine ⟨.bl x, rfl, _, _, _, _, false, rfl, .ty _, .base (.bl x), kit_ty (by decide +kernel), _, rfl, ?_⟩
          refine ⟨.bl x, rfl, by show 2 ≤ sizeLine; decide, fun T nT => ?_⟩
          refine ⟨_, T, _, _, _, false, rfl, upd_same, pLT (x := .non), .base (.bl x), kAny (b := false) (c := false) (by decide +kernel) (by decide +kernel), _, rfl, ?_⟩
          refine ⟨.bl x, rfl, _, _, _, _, false, rfl, .ty _, .base (.bl x), kit_ty (by decide +kernel), _, rfl, ?_⟩
          refine ⟨.bl x, rfl, _, _, _, _, true, rfl, .ty _, .base (.bl x), kit_ty (by decide +kernel), _, rfl, ?_⟩
          refine ⟨.bl x, rfl, _, _, _, _, true, rfl, .ty _, .base (.bl x), kit_ty (by decide +kernel), ?_⟩
          refine ⟨.bl x, rfl, _, _, _, _, true, rfl, .ty _, .base (.bl x), kit_ty (by decide +kernel), rfl, _, rfl, ?_⟩
          refine ⟨.bl x, rfl, .bl x, rfl, rfl, ?_⟩
          rw [decide_eq_true rfl]
          exact qq _ (Ex.new nT)
        | int x =>
          refine ⟨.int x, rfl, rfl, _, rfl, ?_⟩
          refine ⟨.int x, rfl, _, _, _, _, false, rfl, .ty _, .base (.int x), kit_ty (by decide +kernel), _, rfl, ?_⟩
          refine ⟨.int x, rfl, by show 2 ≤ sizeLine; decide, fun T nT => ?_⟩
          refine ⟨_, T, _, _, _, false, rfl, upd_same, pLT (x := .non), .base (.int x), kAny (b := false) (c := false) (by decide +kernel) (by decide +kernel), _, rfl, ?_⟩
          refine ⟨.int x, rfl, _, _, _, _, false, rfl, .ty _, .base (.int x), kit_ty (by decide +kernel), _, rfl, ?_⟩
          refine ⟨.int x, rfl, _, _, _, _, true, rfl, .ty _, .base (.int x), kit_ty (by decide +kernel), _, rfl, ?_⟩
          refine ⟨.int x, rfl, _, _, _, _, false, rfl, .ty _, .base (.int x), kit_ty (by decide +kernel), ?_⟩
          refine ⟨.int x, rfl, _, _, _, _, false, rfl, .ty _, .base (.int x), kit_ty (by decide +kernel), rfl, _, rfl, ?_⟩
          refine ⟨.int x, rfl, .int x, rfl, rfl, ?_⟩
          rw [decide_eq_true rfl]
          exact qq _ (Ex.new nT)
        | _ => cases ha
      · subst e1 e2
        have hxy := Paired.length hp
        refine ⟨.ref b, rfl, rfl, _, rfl, ?_⟩
        refine ⟨.ref b, rfl, _, _, _, _, false, rfl, .ty _, .base (.lst gb), kit_ty (by decide +kernel), _, rfl, ?_⟩
        refine ⟨.ref b, rfl, by show 2 ≤ sizeLine; decide, fun T nT => ?_⟩
        have e1 : Ex H (upd H T (.tup [.ty "list", .ty "tuple"])) := Ex.new nT
        refine ⟨_, T, _, _, _, true, rfl, upd_same, pLT (x := .non), .base (.lst (e1 _ _ gb)), kAny (b := true) (c := false) (by decide +kernel) (by decide +kernel), _, rfl, ?_⟩
        refine ⟨.ref a, rfl, _, _, _, _, true, rfl, .ty _, .base (.lst (e1 _ _ ga)), kit_ty (by decide +kernel), .ref b, rfl, _, _, _, _, true, rfl, .ty _, .base (.lst (e1 _ _ gb)), kit_ty (by decide +kernel), rfl, _, rfl, ?_⟩
        refine ⟨.ref a, rfl, _, _, _, _, false, rfl, .ty _, .base (.lst (e1 _ _ ga)), kit_ty (by decide +kernel), .ref b, rfl, _, _, _, _, false, rfl, .ty _, .base (.lst (e1 _ _ gb)), kit_ty (by decide +kernel), rfl, _, rfl, ?_⟩
        refine ⟨.ref a, rfl, a, xs, rfl, .inl (sq_of (e1 _ _ ga)), .ref b, rfl, b, ys, rfl, .inl (sq_of (e1 _ _ gb)), rfl, _, rfl, ?_⟩
        rw [hxy, if_pos (decide_eq_true rfl)]
        refine ⟨.ref a, rfl, .ref b, rfl, a, b, xs, ys, rfl, .inl ⟨sq_of (e1 _ _ ga), sq_of (e1 _ _ gb), fun D nD => ?_⟩⟩
        refine lc_it (walk_zip (xs := xs) (ys := ys) rfl) (fun i H' => H' D = some (.lst ((List.replicate i true).map V.bl)) ∧ Ex (upd H T (.tup [.ty "list", .ty "tuple"])) H') ⟨upd_same, Ex.new nD⟩ (fun i H2 _ hI => ⟨sq_of (hI.2 _ _ (e1 _ _ ga)), sq_of (hI.2 _ _ (e1 _ _ gb))⟩) (fun i z H2 H3 hi hI hY => ?_) (fun H2 hI => ?_)
        · obtain ⟨g1, g2⟩ := hI
          obtain ⟨Z, x, y, rfl, nZ, rfl, hx, hy⟩ := hY
          have hxy2 := Paired.at hp hx hy
          have e3 : Ex H (upd H2 Z (.tup [x, y])) := (e1.trans g2).trans (Ex.new nZ)
          have DZ : D ≠ Z := ne_of_none g1 nZ
          refine ⟨Z, [x, y], rfl, .inl (.inl upd_same), rfl, x, [y], rfl, y, [], rfl, rfl, rfl, ?_⟩
          refine ⟨x, rfl, y, rfl, spS_of (hxy2.ext e3) fun H4 e4 => ⟨(List.replicate i true).map V.bl, e4 _ _ (by rw [upd_ne DZ]; exact g1), by rw [List.length_map, List.length_replicate]; exact sz_lt (by omega), ?_, ((g2.trans (Ex.new nZ)).trans e4).mut nD⟩⟩
          rw [upd_same, List.replicate_succ', List.map_append]
          rfl
        · obtain ⟨g1, g2⟩ := hI
          refine ⟨D, List.replicate (min xs.length ys.length) true, rfl, sq_of g1, ?_⟩
          rw [all_rep]
          exact qq _ (e1.trans g2)
      · subst e1 e2
        have hxy := Paired.length hp
        refine ⟨.ref b, rfl, rfl, _, rfl, ?_⟩
        refine ⟨.ref b, rfl, _, _, _, _, false, rfl, .ty _, .base (.tup gb), kit_ty (by decide +kernel), _, rfl, ?_⟩
        refine ⟨.ref b, rfl, by show 2 ≤ sizeLine; decide, fun T nT => ?_⟩
        have e1 : Ex H (upd H T (.tup [.ty "list", .ty "tuple"])) := Ex.new nT
        refine ⟨_, T, _, _, _, true, rfl, upd_same, pLT (x := .non), .base (.tup (e1 _ _ gb)), kAny (b := false) (c := true) (by decide +kernel) (by decide +kernel), _, rfl, ?_⟩
        refine ⟨.ref a, rfl, _, _, _, _, false, rfl, .ty _, .base (.tup (e1 _ _ ga)), kit_ty (by decide +kernel), .ref b, rfl, _, _, _, _, false, rfl, .ty _, .base (.tup (e1 _ _ gb)), kit_ty (by decide +kernel), rfl, _, rfl, ?_⟩
        refine ⟨.ref a, rfl, _, _, _, _, true, rfl, .ty _, .base (.tup (e1 _ _ ga)), kit_ty (by decide +kernel), .ref b, rfl, _, _, _, _, true, rfl, .ty _, .base (.tup (e1 _ _ gb)), kit_ty (by decide +kernel), rfl, _, rfl, ?_⟩
        refine ⟨.ref a, rfl, a, xs, rfl, .inr (st_of (e1 _ _ ga)), .ref b, rfl, b, ys, rfl, .inr (st_of (e1 _ _ gb)), rfl, _, rfl, ?_⟩
        rw [hxy, if_pos (decide_eq_true rfl)]
        refine ⟨.ref a, rfl, .ref b, rfl, a, b, xs, ys, rfl, .inr ⟨st_of (e1 _ _ ga), st_of (e1 _ _ gb), fun D nD => ?_⟩⟩
        refine lc_it (walk_zipT (xs := xs) (ys := ys) rfl hxy) (fun i H' => H' D = some (.lst ((List.replicate i true).map V.bl)) ∧ Ex (upd H T (.tup [.ty "list", .ty "tuple"])) H') ⟨upd_same, Ex.new nD⟩ (fun i H2 _ hI => ⟨st_of (hI.2 _ _ (e1 _ _ ga)), st_of (hI.2 _ _ (e1 _ _ gb))⟩) (fun i z H2 H3 hi hI hY => ?_) (fun H2 hI => ?_)
        · obtain ⟨g1, g2⟩ := hI
          obtain ⟨Z, x, y, rfl, nZ, rfl, hx, hy⟩ := hY
          have hxy2 := Paired.at hp hx hy
          have e3 : Ex H (upd H2 Z (.tup [x, y])) := (e1.trans g2).trans (Ex.new nZ)
          have DZ : D ≠ Z := ne_of_none g1 nZ
          refine ⟨Z, [x, y], rfl, .inl (.inl upd_same), rfl, x, [y], rfl, y, [], rfl, rfl, rfl, ?_⟩
          refine ⟨x, rfl, y, rfl, spS_of (hxy2.ext e3) fun H4 e4 => ⟨(List.replicate i true).map V.bl, e4 _ _ (by rw [upd_ne DZ]; exact g1), by rw [List.length_map, List.length_replicate]; exact sz_lt (by omega), ?_, ((g2.trans (Ex.new nZ)).trans e4).mut nD⟩⟩
          rw [upd_same, List.replicate_succ', List.map_append]
          rfl
        · obtain ⟨g1, g2⟩ := hI
          refine ⟨D, List.replicate xs.length true, rfl, sq_of g1, ?_⟩
          rw [all_rep]
          exact qq _ (e1.trans g2)
      · subst e1 e2
        refine ⟨.ref b, rfl, rfl, _, rfl, ?_⟩
        refine ⟨.ref b, rfl, _, _, _, _, false, rfl, .ty _, .base (.dK gb), kit_ty (by decide +kernel), _, rfl, ?_⟩
        refine ⟨.ref b, rfl, by show 2 ≤ sizeLine; decide, fun T nT => ?_⟩
        have e1 : Ex H (upd H T (.tup [.ty "list", .ty "tuple"])) := Ex.new nT
        refine ⟨_, T, _, _, _, false, rfl, upd_same, pLT (x := .non), .base (.dK (e1 _ _ gb)), kAny (b := false) (c := false) (by decide +kernel) (by decide +kernel), _, rfl, ?_⟩
        refine ⟨.ref b, rfl, _, _, _, _, true, rfl, .ty _, .base (.dK (e1 _ _ gb)), kit_ty (by decide +kernel), _, rfl, ?_⟩
        refine ⟨.ref a, rfl, _, _, _, _, true, rfl, .ty _, .base (.dK (e1 _ _ ga)), kit_ty (by decide +kernel), _, rfl, ?_⟩
        refine ⟨.ref a, rfl, a, kvs, rfl, e1 _ _ ga, fun H2 p ts e2 np nts pts hp hpt => ?_⟩
        refine ⟨.ref b, rfl, b, kvs, rfl, e2 _ _ (e1 _ _ gb), fun H3 p2 ts2 e3 np2 nts2 pts2 hp2 hpt2 => ?_⟩
        obtain ⟨k, rfl⟩ : ∃ k, d = k + 3 := ⟨d - 3, by omega⟩
        have h1 : Paired (fun (t : Addr) (q : Key × V) => H3 t = some (.tup [kV q.1, q.2])) ts kvs := Paired.imp (fun _ _ z => e3 _ _ z) hpt
        have l1 : (ts.map V.ref).length ≤ 1000 := by
          rw [List.length_map, Paired.length hpt]
          exact hl
        refine spS_of (d := k + 3) (E := E0) (Or.inr (Or.inl ⟨p, p2, _, _, rfl, rfl, e3 _ _ hp, hp2, l1, tw_items (p := p) (p2 := p2) hv h1 hpt2⟩)) fun H4 e4 => ?_
        exact qq _ (((e1.trans e2).trans e3).trans e4)
end
end K00
/-! text K8 -/
set_option Elab.async false
set_option linter.all false
set_option maxRecDepth 100000
set_option maxHeartbeats 4000000
/-! rows of errors made -/
namespace K00
open PySem PySem.Spec PyProof.Rows L2 Evl XvC PySem.HandSPX LmV LamX NdefX
/-! ### the __init__s -/
section
variable {P : Program} {w : World} {K : PySem.W.Frag} {mg : Str → Option Value} {base : Heap} {C fI : Addr} {fd : FuncData} {q : Str} {args : Arguments} {body : List Stmt} {scope : Scope} {m : List Value}
theorem vis_par {N ps : List Str} {sc : Scope} (S : FnScope N ps sc) {x : Str} (h : x ∈ ps) : Vis sc x := (S.par x h).elim .inl fun z => .inr (.inl z)
theorem ok_init1 {fld : Str} {p1 p2 p3 p4 : Pos} (F : FunD K "__init__" q args body scope [] [] fI fd) (T : Xc K C m) (hno : PySem.W.findIn K (.ref C) fld = some none) (S : FnScope ["self", fld] ["self", fld] scope)
    (hb : body = [.Assign [.Attribute (.Name "self" p1) fld p2] (.Name fld p3) p4]) (hd : (fld == ("__debug__" : Str)) = false) (hcd : (fld == ("__classdict__" : Str)) = false) : FnOk P w K mg base CX0 1 fI fd ["self", fld] (spInit C [fld]) := by
  refine F.ok S (fun vs H Q E h => ?_) (fun cdv A outer s H vs Q E hr h => ?_)
  · obtain ⟨a, us, rfl, hl, _⟩ := h
    show us.length + 1 = 2
    rw [hl]
    rfl
  · obtain ⟨a, us, rfl, hl, he, qq⟩ := h
    obtain ⟨y, rfl⟩ : ∃ y, us = [y] := by
      match us, hl with
      | [y], _ => exact ⟨y, rfl⟩
    subst hb
    refine ⟨_, PSs.nox (pss_one (ps_ost (pe_var (i := 0) (X := (cxOf CX0 P w K mg base ["self", fld] q scope fI cdv A outer s H E).nox) rfl (vis_par S (by simp)) rfl rfl) (pe_var (i := 1) rfl (vis_par S (by simp)) hd hcd) rfl)), ?_⟩
    refine ⟨y, rfl, .ref a, rfl, a, C, rfl, T.oex, hno, .inl ⟨he, fun dx nd da => ?_⟩⟩
    refine qq dx _ nd da ?_ upd_same fun b h1 h2 => ?_
    · rw [upd_ne da, upd_same]
      rfl
    · rw [upd_ne h2, upd_ne h1]
theorem ok_init2 {f1 f2 : Str} {p1 p2 p3 p4 p5 p6 p7 p8 : Pos} (F : FunD K "__init__" q args body scope [] [] fI fd) (T : Xc K C m) (hn1 : PySem.W.findIn K (.ref C) f1 = some none) (hn2 : PySem.W.findIn K (.ref C) f2 = some none) (S : FnScope ["self", f1, f2] ["self", f1, f2] scope)
    (hb : body = [.Assign [.Attribute (.Name "self" p1) f1 p2] (.Name f1 p3) p4, .Assign [.Attribute (.Name "self" p5) f2 p6] (.Name f2 p7) p8]) (hd : (f1 == ("__debug__" : Str)) = false) (hcd : (f1 == ("__classdict__" : Str)) = false) (hd2 : (f2 == ("__debug__" : Str)) = false) (hcd2 : (f2 == ("__classdict__" : Str)) = false) :
    FnOk P w K mg base CX0 1 fI fd ["self", f1, f2] (spInit C [f1, f2]) := by
  refine F.ok S (fun vs H Q E h => ?_) (fun cdv A outer s H vs Q E hr h => ?_)
  · obtain ⟨a, us, rfl, hl, _⟩ := h
    show us.length + 1 = 3
    rw [hl]
    rfl
  · obtain ⟨a, us, rfl, hl, he, qq⟩ := h
    obtain ⟨y, z, rfl⟩ : ∃ y z, us = [y, z] := by
      match us, hl with
      | [y, z], _ => exact ⟨y, z, rfl⟩
    subst hb
    refine ⟨_, PSs.nox (pss_cons (ps_ost (pe_var (i := 0) (X := (cxOf CX0 P w K mg base ["self", f1, f2] q scope fI cdv A outer s H E).nox) rfl (vis_par S (by simp)) rfl rfl) (pe_var (i := 1) rfl (vis_par S (by simp)) hd hcd) rfl)
      (pss_one (ps_ost (pe_var (i := 0) (X := (cxOf CX0 P w K mg base ["self", f1, f2] q scope fI cdv A outer s H E).nox) rfl (vis_par S (by simp)) rfl rfl) (pe_var (i := 2) rfl (vis_par S (by simp)) hd2 hcd2) rfl))), ?_⟩
    refine ⟨y, rfl, .ref a, rfl, a, C, rfl, T.oex, hn1, .inl ⟨he, fun dx nd da => ?_⟩⟩
    refine ⟨z, rfl, .ref a, rfl, a, C, rfl, T.oex, hn2, .inr ⟨dx, [(f1, y)], upd_same, by rw [upd_ne da, upd_same], by show 1 ≤ 900; decide, ?_⟩⟩
    refine qq dx _ nd da upd_same ?_ fun b h1 h2 => ?_
    · rw [upd_ne da.symm, upd_same]
    · rw [upd_ne h1, upd_ne h2, upd_ne h1]
theorem bindsI (F : FunD K "__init__" q args body scope [] [] fI fd) {ps fns : List Str} (hl : ps.length = fns.length + 1)
    (h : ∀ (kV doc pm : Value) (an : Option Addr) (cdv ct : Value) (us : List Value), us.length = ps.length → bindArgs (PySem.W.fnOf "__init__" q args body scope .none kV doc pm an cdv ct) ⟨us, []⟩ = pure (ps.zip us)) :
    ∀ (s : Shared) (v : Value) (us : List Value), us.length = fns.length → BindsTo s fd ⟨v :: us, []⟩ (ps.zip (v :: us)) := fun s v us e => F.bindsA h s (v :: us) (by rw [List.length_cons, e, hl])
theorem bindsKw (F : FunD K "__init__" q args body scope [] [] fI fd) {ps ks : List Str} {g : {α : Type} → List α → List α}
    (h : ∀ (kV doc pm : Value) (an : Option Addr) (cdv ct v : Value) (ws : List Value), ws.length = ks.length → bindArgs (PySem.W.fnOf "__init__" q args body scope .none kV doc pm an cdv ct) ⟨[v], ks.zip ws⟩ = pure (ps.zip (v :: g ws))) :
    ∀ (s : Shared) (v : Value) (ws : List Value), ws.length = ks.length → BindsTo s fd ⟨[v], ks.zip ws⟩ (ps.zip (v :: g ws)) := fun s v ws e => by
  obtain ⟨oc, od, dV, kV, doc, pm, an, cdv, ct, osl, rfl, lk, hcd, hD, hK⟩ := F.ex
  rcases hD with ⟨_, rfl⟩ | ⟨e', _⟩
  · exact .of_eq (h kV doc pm an cdv ct v ws e)
  · exact absurd rfl e'
end
/-! ### the lambdas of the rows -/
/-- a row's lambda: e of one parameter, the fields of e in a list -/
structure LamRow (F : LF) (fns : List Str) : Prop where
  sc : F.scope = { kind := .function, names := [("e", .local)], isGenerator := false, isCoroutine := false }
  cl : F.cl = []
  ps : ∃ p, F.params = { posonlyargs := [], args := [{ arg := "e", annotation := none, pos := p }], vararg := none, kwonlyargs := [], kw_defaults := [], kwarg := none, defaults := [] }
  bd : ∃ (es : List Expr) (p : Pos), F.body = .List es p ∧ Paired (fun (x : Expr) (f : Str) => ∃ p1 p2, x = .Attribute (.Name "e" p1) f p2) es fns
def spLam (K : PySem.W.Frag) (fns : List Str) : Sp := fun vs H Q _ => ∃ (a C : Addr) (fs : List (Str × V)) (us : List V), vs = [.ref a] ∧ ExcAt H a C fs ∧ (∃ m, Xc K C m) ∧ Paired (fun (f : Str) (u : V) => PySem.W.findIn K (.ref C) f = some none ∧ fs.lookup f = some u) fns us ∧ us.length ≤ 1000 ∧
  ∀ H' r, Ex H H' → H r = none → H' r = some (.lst us) → Q (.ref r) H'
section
variable {P : Program} {w : World} {K : PySem.W.Frag} {mg : Str → Option Value} {base : Heap}
/-- the fields read, one behind another -/
def tFlds (K : PySem.W.Frag) : List Str → TA
  | [] => tNil
  | f :: r => tCons (tXfld K f (tVar 0)) (tFlds K r)
theorem pa_flds {X : Cx} (hK : X.K = K) (hN : X.N[0]? = some ("e" : Str)) (hv : Vis X.env.scope "e") : ∀ {es : List Expr} {fns : List Str}, Paired (fun (x : Expr) (f : Str) => ∃ p1 p2, x = .Attribute (.Name "e" p1) f p2) es fns → PA X es (tFlds K fns)
  | _, _, .nil => pa_nil
  | _, _, .cons ⟨p1, p2, e⟩ r => by
    subst e
    exact pa_cons (by rw [← hK]; exact pe_xfld (pe_var hN hv) (by rfl)) (pa_flds hK hN hv r) (by rfl)
theorem flds_rd {H : Hp} {a C : Addr} {fs : List (Str × V)} {m : List Value} {σ : L2.St} (hs : σ[0]? = some (some (.ref a))) (hE : ExcAt H a C fs) (T : Xc K C m) : ∀ {fns : List Str} {us : List V} {Q : List V → Hp → Prop}, Paired (fun (f : Str) (u : V) => PySem.W.findIn K (.ref C) f = some none ∧ fs.lookup f = some u) fns us → Q us H → tFlds K fns σ H Q
  | _, _, _, .nil, q => q
  | _, _, _, .cons ⟨h1, h2⟩ r, q => ⟨.ref a, hs, a, C, fs, _, rfl, hE, ⟨m, T⟩, h1, h2, flds_rd hs hE T r q⟩
theorem lam_ok {F : LF} {fns : List Str} (L : LamRow F fns) : LOk P w K mg base CX0 1 F ["e"] (spLam K fns) := by
  obtain ⟨q, params, body, scope, cl, c⟩ := F
  obtain ⟨rfl, rfl, ⟨p, rfl⟩, es, p2, rfl, hp⟩ := L
  refine lok_of (N := ["e"]) (nscope_by (show nscB ["e"] ["e"] [] ({ kind := .function, names := [("e", .local)], isGenerator := false, isCoroutine := false } : Scope) = true by decide +kernel)) rfl (fun pm ctv us hl => match us, hl with | [_], _ => rfl) (fun vs H Q E h => ?_) (fun f A outer s H vs Q E hr h => ?_)
  · obtain ⟨a, C, fs, us, rfl, _⟩ := h
    rfl
  · obtain ⟨a, C, fs, us, rfl, hE, ⟨m, T⟩, hus, hl, qq⟩ := h
    refine ⟨_, pe_lst (pa_flds (K := K) rfl rfl (.inl rfl) hp), ?_⟩
    exact flds_rd rfl hE T hus ⟨sz_of (by omega), fun r nr => qq _ r (Ex.new nr) nr upd_same⟩
end
end K00
/-! text K9 -/
set_option Elab.async false
set_option linter.all false
set_option maxRecDepth 100000
set_option maxHeartbeats 4000000
/-! rows of errors made: what a row is, how one is laid -/
namespace K00
open PySem PySem.Spec PyProof.Rows L2 Evl XvC PySem.HandSPX LmV LamX NdefX
abbrev Row : Type := Str × List Str
def argsOf (fns : List Str) (x y : V) : List V := [x, y].take fns.length
structure MkF (P : Program) (w : World) (K : PySem.W.Frag) (mg : Str → Option Value) (base : Heap) (n : Str) (fns : List Str) : Prop where
  xc : Xc K (He.ga K n) (.ref (He.ga K "LotError") :: veTail)
  gm : mg n = some (.ref (He.ga K n))
  no : ∀ f ∈ fns, PySem.W.findIn K (.ref (He.ga K n)) f = some none
  ln : fns.length ≤ 2
  ex : ∃ fI fd, PySem.W.findIn K (.ref (He.ga K n)) "__init__" = some (some (.ref fI)) ∧ PySem.W.typeIn K (.ref fI) = some (.type "function") ∧ FnOk P w K mg base CX0 1 fI fd ("self" :: fns) (spInit (He.ga K n) fns) ∧
    (∀ (s : Shared) (v : Value) (us : List Value), us.length = fns.length → BindsTo s fd ⟨v :: us, []⟩ ((("self" : Str) :: fns).zip (v :: us))) ∧
    (∀ (s : Shared) (v : Value) (ws : List Value), ws.length = fns.reverse.length → BindsTo s fd ⟨[v], fns.reverse.zip ws⟩ ((("self" : Str) :: fns).zip (v :: ws.reverse)))
theorem vals_rev : ∀ {xs : List V} {us : List Value}, Vals xs us → Vals xs.reverse us.reverse
  | _, _, .nil => .nil
  | _, _, .cons r t => by
    rw [List.reverse_cons, List.reverse_cons]
    exact (vals_rev t).append (.cons r .nil)
section
variable {P : Program} {w : World} {K : PySem.W.Frag} {mg : Str → Option Value} {base : Heap} {X : Cx} {n : Str} {fns : List Str} {p pos : Pos} {e : Expr} {es : List Expr} {kws : List Keyword} {t tk : TA}
theorem pe_mkF (M : MkF X.prog X.w X.K X.mg X.base n fns) (hr : Room 2 X.A) (hx : Passes CX0 X (fun _ _ _ => False)) (hg : Gl X n) (ha : PA X (e :: es) t) (hdb : (n == ("__debug__" : Str)) = false)
    (he : starEach (e :: es) X.env = (false, eval e X.env) :: starEach es X.env := by rfl) (hpl : (backTo pos (starEach es X.env)).any (·.1) = false := by rfl) :
    PE X (.Call (.Name n p) (e :: es) [] pos) (tMkX (He.ga X.K n) fns fns.length 0 (fun vs _ => vs) t tNil) := by
  obtain ⟨fI, fd, h1, h2, h3, h4, h5⟩ := M.ex
  exact pe_mkX M.xc h1 h2 h3 hr hx hg M.gm ha h4 (by have := M.ln; omega) hdb he hpl
theorem pe_mkFK (M : MkF X.prog X.w X.K X.mg X.base n fns) (hr : Room 2 X.A) (hx : Passes CX0 X (fun _ _ _ => False)) (hg : Gl X n) (hkw : PK X kws tk) (hdb : (n == ("__debug__" : Str)) = false)
    (hks : (backToKw pos (keywordEach kws X.env)).filterMap (·.1) = fns.reverse) (hall : (backToKw pos (keywordEach kws X.env)).all (·.1.isSome) = true := by rfl)
    (hpl : ((backTo pos (starEach [] X.env)).any (·.1) || (backToKw pos (keywordEach kws X.env)).any (·.1.isNone)) = false := by rfl) :
    PE X (.Call (.Name n p) [] kws pos) (tMkX (He.ga X.K n) fns 0 fns.reverse.length (fun _ zs => zs.reverse) tNil tk) := by
  obtain ⟨fI, fd, h1, h2, h3, h4, h5⟩ := M.ex
  exact pe_mkXK (g := fun l => l.reverse) M.xc h1 h2 h3 hr hx hg M.gm hkw (fun hl r => ⟨vals_rev r, by rw [List.length_reverse, hl, List.length_reverse]⟩) h5 hall hks hdb hpl
end
/-- a row: an error by place, one by names, the lambda, what is due -/
def RowAt (K : PySem.W.Frag) (H : Hp) (x y : V) (t : Addr) (r : Row) : Prop := ∃ (m w l d : Addr) (F : LF) (fs fs' : List (Str × V)), H t = some (.tup [.ref m, .ref w, .ref l, .ref d]) ∧ ExcAt H m (He.ga K r.1) fs ∧ ExcAt H w (He.ga K r.1) fs' ∧
  Paired (fun (f : Str) (u : V) => PySem.W.findIn K (.ref (He.ga K r.1)) f = some none ∧ fs.lookup f = some u) r.2 (argsOf r.2 x y) ∧ Paired (fun (f : Str) (u : V) => PySem.W.findIn K (.ref (He.ga K r.1)) f = some none ∧ fs'.lookup f = some u) r.2 (argsOf r.2 x y) ∧
  H l = some (LamO l F) ∧ H F.c = some (CodeO F.c F.qual) ∧ LamRow F r.2 ∧ H d = some (.lst (argsOf r.2 x y))
theorem exo_tblN {e C : Addr} {d : Option Addr} (ps : Array Value) : exo e C d ≠ .tbl ps := exo_tbl
theorem exd_tblN {e : Addr} {fs : List (Str × V)} (ps : Array Value) : exd e fs ≠ .tbl ps := fun z => by
  have z' : HO.ext _ = HO.tbl ps := z
  cases z'
theorem excAt_extN {H H' : Hp} {a C : Addr} {fs : List (Str × V)} (h : ExcAt H a C fs) (e : ExtN H H') : ExcAt H' a C fs := by
  rcases h with ⟨h1, h2⟩ | ⟨d, h1, h2⟩
  · exact .inl ⟨h1, e _ _ h2 exo_tblN⟩
  · exact .inr ⟨d, e _ _ h1 exo_tblN, e _ _ h2 exd_tblN⟩
theorem lst_tblN {xs : List V} (ps : Array Value) : HO.lst xs ≠ .tbl ps := fun z => by cases z
theorem tup_tblN {xs : List V} (ps : Array Value) : HO.tup xs ≠ .tbl ps := fun z => by cases z
theorem RowAt.ext {K : PySem.W.Frag} {H H' : Hp} {x y : V} {t : Addr} {r : Row} (h : RowAt K H x y t r) (e : ExtN H H') : RowAt K H' x y t r := by
  obtain ⟨m, w, l, d, F, fs, fs', h1, h2, h3, h4, h5, h6, h7, h8, h9⟩ := h
  exact ⟨m, w, l, d, F, fs, fs', e _ _ h1 tup_tblN, excAt_extN h2 e, excAt_extN h3 e, h4, h5, e _ _ h6 lamO_ne, e _ _ h7 codeO_ne, h8, e _ _ h9 lst_tblN⟩
/-- while the rows are laid in the list at q -/
structure MW (K : PySem.W.Frag) (T : List (Addr × Str)) (H0 H : Hp) (q : Addr) (x y : V) (ts : List Addr) (rows : List Row) : Prop where
  e : ExtN H0 H
  n : H0 q = none
  l : H q = some (.lst (ts.map V.ref))
  tb : Tabs T H
  r : Paired (fun (t : Addr) (r : Row) => RowAt K (del H q) x y t r) ts rows
theorem tabs_upd {T : List (Addr × Str)} {H : Hp} {q : Addr} {xs : List V} {o : HO} (h : Tabs T H) (hq : H q = some (.lst xs)) : Tabs T (upd H q o) := fun p hp => by
  obtain ⟨ps, h1, h2, h3⟩ := h p hp
  have nq : ∀ {b : Addr} {u : HO}, H b = some u → (u ≠ .lst xs) → b ≠ q := fun {b u} e n z => by
    rw [z, hq] at e
    exact n (Option.some.inj e).symm
  refine ⟨ps, by rw [upd_ne (nq h1 fun z => by cases z)]; exact h1, h2, fun pos cv hc => ?_⟩
  obtain ⟨c, e1, e2⟩ := h3 pos cv hc
  refine ⟨c, e1, ?_⟩
  rw [upd_ne (nq e2 fun z => by unfold CodeO at z; cases z)]
  exact e2
theorem Paired.app {α β : Type} {F : α → β → Prop} : ∀ {l l' : List α} {m m' : List β}, Paired F l m → Paired F l' m' → Paired F (l ++ l') (m ++ m')
  | _, _, _, _, .nil, h => h
  | _, _, _, _, .cons a r, h => .cons a (Paired.app r h)
theorem extN_del {H H' : Hp} {q : Addr} (e : ExtN H H') : ExtN (del H q) (del H' q) := fun b o h n => by
  by_cases hb : b = q
  · rw [hb, del_same] at h
    cases h
  · rw [del_ne hb] at h ⊢
    exact e b o h n
theorem del_upd {H : Hp} {q : Addr} {o : HO} : del (upd H q o) q = del H q := by
  funext b
  by_cases hb : b = q
  · rw [hb, del_same, del_same]
  · rw [del_ne hb, del_ne hb, upd_ne hb]
theorem MW.fin {K : PySem.W.Frag} {T : List (Addr × Str)} {H0 H H6 : Hp} {q : Addr} {x y : V} {ts : List Addr} {rows : List Row} {t : Addr} {r : Row} (W : MW K T H0 H q x y ts rows) (e : ExtN H H6) (tb : Tabs T H6) (hr : RowAt K (del H6 q) x y t r) :
    MW K T H0 (upd H6 q (.lst ((ts ++ [t]).map V.ref))) q x y (ts ++ [t]) (rows ++ [r]) := by
  have l6 : H6 q = some (.lst (ts.map V.ref)) := e _ _ W.l lst_tblN
  refine ⟨fun b o h n => ?_, W.n, upd_same, tabs_upd tb l6, ?_⟩
  · rw [upd_ne (ne_of_none h W.n)]
    exact e b o (W.e b o h n) n
  · rw [del_upd]
    exact Paired.app (Paired.imp (fun _ _ z => z.ext (extN_del e)) W.r) (.cons hr .nil)
section
variable {K : PySem.W.Frag} {T : List (Addr × Str)} {H0 H : Hp} {q : Addr} {x y z : V} {ts : List Addr} {rows : List Row} {n : Str} {m : List Value}
def tRow (K : PySem.W.Frag) (t1 t2 t3 t4 : TE) : TS := tDrop (tBM K "list" rAppend (tVar 3) (tCons (tTup (tCons t1 (tCons t2 (tCons t3 (tCons t4 tNil))))) tNil))
theorem ex_of3 {H H3 : Hp} {a d : Addr} (ha : H a = none) (hd : H d = none) (h : ∀ b, b ≠ d → b ≠ a → H3 b = H b) : Ex H H3 := fun b o e => by
  rw [h b (ne_of_none e hd) (ne_of_none e ha)]
  exact e
abbrev sg (x y z : V) (q : Addr) : L2.St := [some x, some y, some z, some (.ref q)]
theorem MW.row0 {mk : Addr → LF} (hL : ∀ c, LamRow (mk c) []) (hc : ∀ c, (mk c).c = c) {D : Ends} (W : MW K T H0 H q x y ts rows) (hz : ts.length ≤ 1000) (next : ∀ t H', MW K T H0 H' q x y (ts ++ [t]) (rows ++ [(n, [])]) → D.nx (sg x y z q) H') :
    tRow K (fun _ H Q => ∀ a, H a = none → Q (.ref a) (upd H a (exo a (He.ga K n) none))) (fun _ H Q => ∀ a, H a = none → Q (.ref a) (upd H a (exo a (He.ga K n) none))) (tLamV T mk) (tLst tNil) D (sg x y z q) H := by
  refine ⟨.ref q, rfl, .inl ⟨rfl, _, sq_of W.l⟩, fun a na b nb => ⟨?_, fun l c' H3 eN nn T3 f0 f1 c1 => ⟨Nat.zero_le _, fun d nd => ⟨by show 4 ≤ sizeLine; decide, fun t nt => ?_⟩⟩⟩⟩
  · exact (W.tb.ext (Ex.new na)).ext (Ex.new nb)
  · have e1 : Ex H (upd H a (exo a (He.ga K n) none)) := Ex.new na
    have e2 : Ex (upd H a (exo a (He.ga K n) none)) (upd (upd H a (exo a (He.ga K n) none)) b (exo b (He.ga K n) none)) := Ex.new nb
    have e6 : ExtN H3 (upd (upd H3 d (.lst [])) t (.tup [.ref a, .ref b, .ref l, .ref d])) := ExtN.of ((Ex.new nd).trans (Ex.new nt))
    have eA : ExtN H (upd (upd H3 d (.lst [])) t (.tup [.ref a, .ref b, .ref l, .ref d])) := ((ExtN.of e1).trans (ExtN.of e2)).trans (eN.trans e6)
    have l6 := eA _ _ W.l lst_tblN
    have T6 : Tabs T (upd (upd H3 d (.lst [])) t (.tup [.ref a, .ref b, .ref l, .ref d])) := (T3.ext (Ex.new nd)).ext (Ex.new nt)
    have mq : q ≠ a := ne_of_none W.l na
    have bq : q ≠ b := ne_of_none (e1 _ _ W.l) nb
    have lq : q ≠ l := ne_of_none (e2 _ _ (e1 _ _ W.l)) f0
    have l3 := eN _ _ (e2 _ _ (e1 _ _ W.l)) lst_tblN
    have dq : q ≠ d := ne_of_none l3 nd
    have tq : q ≠ t := ne_of_none (Ex.new (o := .lst []) nd _ _ l3) nt
    have cq : q ≠ c' := fun z => by
      rw [z] at l3
      rw [l3] at c1
      have c2 := Option.some.inj c1
      unfold CodeO at c2
      cases c2
    refine ⟨q, ts.map V.ref, .ref t, rfl, rfl, l6, by rw [List.length_map]; exact sz_lt (by omega), ?_⟩
    have e := next t _ (W.fin (t := t) (r := (n, [])) eA T6 ⟨a, b, l, d, mk c', [], [], ?_, .inl ⟨rfl, ?_⟩, .inl ⟨rfl, ?_⟩, .nil, .nil, ?_, ?_, hL c', ?_⟩)
    · rw [List.map_append] at e
      exact e
    · rw [del_ne tq.symm, upd_same]
    · rw [del_ne mq.symm]
      exact e6 _ _ (eN _ _ (e2 _ _ upd_same) exo_tblN) exo_tblN
    · rw [del_ne bq.symm]
      exact e6 _ _ (eN _ _ upd_same exo_tblN) exo_tblN
    · rw [del_ne lq.symm]
      exact e6 _ _ f1 lamO_ne
    · rw [hc, del_ne cq.symm]
      exact e6 _ _ c1 codeO_ne
    · rw [del_ne dq.symm]
      exact Ex.new (o := .tup [.ref a, .ref b, .ref l, .ref d]) nt _ _ upd_same
theorem MW.rowF {mk : Addr → LF} {fns : List Str} {a d1 b d2 l c' d t : Addr} {H1 H2 H3 : Hp} (hL : ∀ c, LamRow (mk c) fns) (hc : ∀ c, (mk c).c = c) (W : MW K T H0 H q x y ts rows)
    (hlook : Paired (fun (f : Str) (u : V) => PySem.W.findIn K (.ref (He.ga K n)) f = some none ∧ (fns.zip (argsOf fns x y)).reverse.lookup f = some u) fns (argsOf fns x y))
    (na : H a = none) (nd1 : H d1 = none) (g1 : H1 d1 = some (exd d1 (fns.zip (argsOf fns x y)).reverse)) (g2 : H1 a = some (exo a (He.ga K n) (some d1))) (g3 : ∀ b, b ≠ d1 → b ≠ a → H1 b = H b)
    (nb : H1 b = none) (nd2 : H1 d2 = none) (k1 : H2 d2 = some (exd d2 (fns.zip (argsOf fns x y)).reverse)) (k2 : H2 b = some (exo b (He.ga K n) (some d2))) (k3 : ∀ c, c ≠ d2 → c ≠ b → H2 c = H1 c)
    (eN : ExtN H2 H3) (T3 : Tabs T H3) (f0 : H2 l = none) (f1 : H3 l = some (LamO l (mk c'))) (c1 : H3 c' = some (CodeO c' (mk c').qual)) (nd : H3 d = none) (nt : (upd H3 d (.lst (argsOf fns x y))) t = none) :
    (upd (upd H3 d (.lst (argsOf fns x y))) t (.tup [.ref a, .ref b, .ref l, .ref d])) q = some (.lst (ts.map V.ref)) ∧
    MW K T H0 (upd (upd (upd H3 d (.lst (argsOf fns x y))) t (.tup [.ref a, .ref b, .ref l, .ref d])) q (.lst ((ts ++ [t]).map V.ref))) q x y (ts ++ [t]) (rows ++ [(n, fns)]) := by
  have e1 : Ex H H1 := ex_of3 na nd1 g3
  have e2 : Ex H1 H2 := ex_of3 nb nd2 k3
  have e6 : Ex H3 (upd (upd H3 d (.lst (argsOf fns x y))) t (.tup [.ref a, .ref b, .ref l, .ref d])) := (Ex.new nd).trans (Ex.new nt)
  have eA : ExtN H (upd (upd H3 d (.lst (argsOf fns x y))) t (.tup [.ref a, .ref b, .ref l, .ref d])) := ((ExtN.of e1).trans (ExtN.of e2)).trans (eN.trans (ExtN.of e6))
  have l6 := eA _ _ W.l lst_tblN
  have T6 : Tabs T (upd (upd H3 d (.lst (argsOf fns x y))) t (.tup [.ref a, .ref b, .ref l, .ref d])) := T3.ext e6
  have l1 := e1 _ _ W.l
  have l2 := e2 _ _ l1
  have l3 := eN _ _ l2 lst_tblN
  have mq : q ≠ a := ne_of_none W.l na
  have d1q : q ≠ d1 := ne_of_none W.l nd1
  have bq : q ≠ b := ne_of_none l1 nb
  have d2q : q ≠ d2 := ne_of_none l1 nd2
  have lq : q ≠ l := ne_of_none l2 f0
  have dq : q ≠ d := ne_of_none l3 nd
  have tq : q ≠ t := ne_of_none (Ex.new (o := .lst (argsOf fns x y)) nd _ _ l3) nt
  have cq : q ≠ c' := fun z => by
    rw [z] at l3
    rw [l3] at c1
    have c2 := Option.some.inj c1
    unfold CodeO at c2
    cases c2
  refine ⟨l6, W.fin (t := t) (r := (n, fns)) eA T6 ⟨a, b, l, d, mk c', _, _, ?_, .inr ⟨d1, ?_, ?_⟩, .inr ⟨d2, ?_, ?_⟩, hlook, hlook, ?_, ?_, hL c', ?_⟩⟩
  · rw [del_ne tq.symm, upd_same]
  · rw [del_ne mq.symm]
    exact e6 _ _ (eN _ _ (e2 _ _ g2) exo_tblN)
  · rw [del_ne d1q.symm]
    exact e6 _ _ (eN _ _ (e2 _ _ g1) exd_tblN)
  · rw [del_ne bq.symm]
    exact e6 _ _ (eN _ _ k2 exo_tblN)
  · rw [del_ne d2q.symm]
    exact e6 _ _ (eN _ _ k1 exd_tblN)
  · rw [del_ne lq.symm]
    exact e6 _ _ f1
  · rw [hc, del_ne cq.symm]
    exact e6 _ _ c1
  · rw [del_ne dq.symm]
    exact Ex.new (o := .tup [.ref a, .ref b, .ref l, .ref d]) nt _ _ upd_same
def tMk1 (K : PySem.W.Frag) (n f : Str) : TE := tMkX (He.ga K n) [f] [f].length 0 (fun vs _ => vs) (tCons (tVar 0) tNil) tNil
def tMk1K (K : PySem.W.Frag) (n f : Str) : TE := tMkX (He.ga K n) [f] 0 [f].reverse.length (fun _ zs => zs.reverse) tNil (tCons (tVar 0) tNil)
def tMk2 (K : PySem.W.Frag) (n f g : Str) : TE := tMkX (He.ga K n) [f, g] [f, g].length 0 (fun vs _ => vs) (tCons (tVar 0) (tCons (tVar 1) tNil)) tNil
def tMk2K (K : PySem.W.Frag) (n f g : Str) : TE := tMkX (He.ga K n) [f, g] 0 [f, g].reverse.length (fun _ zs => zs.reverse) tNil (tCons (tVar 1) (tCons (tVar 0) tNil))
theorem MW.row1 {mk : Addr → LF} {f : Str} (hL : ∀ c, LamRow (mk c) [f]) (hc : ∀ c, (mk c).c = c) (hno : PySem.W.findIn K (.ref (He.ga K n)) f = some none) {D : Ends} (W : MW K T H0 H q x y ts rows) (hz : ts.length ≤ 1000) (next : ∀ t H', MW K T H0 H' q x y (ts ++ [t]) (rows ++ [(n, [f])]) → D.nx (sg x y z q) H') :
    tRow K (tMk1 K n f) (tMk1K K n f) (tLamV T mk) (tLst (tCons (tVar 0) tNil)) D (sg x y z q) H := by
  refine ⟨.ref q, rfl, .inl ⟨rfl, _, sq_of W.l⟩, x, rfl, rfl, rfl, fun a d1 H1 na nd1 d1a g1 g2 g3 => ⟨x, rfl, rfl, rfl, fun b d2 H2 nb nd2 d2b k1 k2 k3 => ⟨?_, fun l c' H3 eN nn T3 f0 f1 c1 => ⟨x, rfl, by show 1 ≤ sizeLine; decide, fun d nd => ⟨by show 4 ≤ sizeLine; decide, fun t nt => ?_⟩⟩⟩⟩⟩
  · exact (W.tb.ext (ex_of3 na nd1 g3)).ext (ex_of3 nb nd2 k3)
  · obtain ⟨l6, W'⟩ := W.rowF (n := n) (fns := [f]) hL hc (.cons ⟨hno, by show List.lookup f [(f, x)] = some x; rw [lookup_put, if_pos rfl]⟩ .nil) na nd1 g1 g2 g3 nb nd2 k1 k2 k3 eN T3 f0 f1 c1 nd nt
    refine ⟨q, ts.map V.ref, .ref t, rfl, rfl, l6, by rw [List.length_map]; exact sz_lt (by omega), ?_⟩
    have e := next t _ W'
    rw [List.map_append] at e
    exact e
theorem MW.row2 {mk : Addr → LF} {f g : Str} (hfg : (f == g) = false) (hL : ∀ c, LamRow (mk c) [f, g]) (hc : ∀ c, (mk c).c = c) (hno : PySem.W.findIn K (.ref (He.ga K n)) f = some none) (hno2 : PySem.W.findIn K (.ref (He.ga K n)) g = some none) {D : Ends} (W : MW K T H0 H q x y ts rows) (hz : ts.length ≤ 1000)
    (next : ∀ t H', MW K T H0 H' q x y (ts ++ [t]) (rows ++ [(n, [f, g])]) → D.nx (sg x y z q) H') :
    tRow K (tMk2 K n f g) (tMk2K K n f g) (tLamV T mk) (tLst (tCons (tVar 0) (tCons (tVar 1) tNil))) D (sg x y z q) H := by
  refine ⟨.ref q, rfl, .inl ⟨rfl, _, sq_of W.l⟩, x, rfl, y, rfl, rfl, rfl, fun a d1 H1 na nd1 d1a g1 g2 g3 => ⟨y, rfl, x, rfl, rfl, rfl, fun b d2 H2 nb nd2 d2b k1 k2 k3 => ⟨?_, fun l c' H3 eN nn T3 f0 f1 c1 => ⟨x, rfl, y, rfl, by show 2 ≤ sizeLine; decide, fun d nd => ⟨by show 4 ≤ sizeLine; decide, fun t nt => ?_⟩⟩⟩⟩⟩
  · exact (W.tb.ext (ex_of3 na nd1 g3)).ext (ex_of3 nb nd2 k3)
  · obtain ⟨l6, W'⟩ := W.rowF (n := n) (fns := [f, g]) hL hc (.cons ⟨hno, by show List.lookup f [(g, y), (f, x)] = some x; simp [List.lookup, hfg]⟩ (.cons ⟨hno2, by show List.lookup g [(g, y), (f, x)] = some y; rw [lookup_put, if_pos rfl]⟩ .nil)) na nd1 g1 g2 g3 nb nd2 k1 k2 k3 eN T3 f0 f1 c1 nd nt
    refine ⟨q, ts.map V.ref, .ref t, rfl, rfl, l6, by rw [List.length_map]; exact sz_lt (by omega), ?_⟩
    have e := next t _ W'
    rw [List.map_append] at e
    exact e
end
def spMade (K : PySem.W.Frag) (T : List (Addr × Str)) (rows : List Row) : Sp := fun vs H Q _ => ∃ x y z, vs = [x, y, z] ∧ Tabs T H ∧
  ∀ q H' ts, ExtN H H' → Tabs T H' → H q = none → H' q = some (.lst (ts.map V.ref)) → Paired (fun (t : Addr) (r : Row) => RowAt K H' x y t r) ts rows → Q (.ref q) H'
theorem MW.out {K : PySem.W.Frag} {T : List (Addr × Str)} {H0 H : Hp} {q : Addr} {x y : V} {ts : List Addr} {rows : List Row} (W : MW K T H0 H q x y ts rows) : Paired (fun (t : Addr) (r : Row) => RowAt K H x y t r) ts rows :=
  Paired.imp (fun _ _ z => z.ext fun b o h _ => by
    by_cases hb : b = q
    · rw [hb, del_same] at h
      cases h
    · rw [del_ne hb] at h
      exact h) W.r
end K00
/-! text K10 -/
set_option Elab.async false
set_option linter.all false
set_option maxRecDepth 100000
set_option maxHeartbeats 4000000
/-! each class made, the makers of rows -/
namespace K00
open PySem PySem.Spec PyProof.Rows L2 Evl XvC PySem.HandSPX LmV LamX NdefX
def fieldNames : List Str := ["count", "fault", "index", "line", "lot", "other", "question", "sign", "thing", "total", "why"]
def bareNames : List Str := ["Apart", "LastKeeper", "ManyWriters", "NoBetter", "NoLots", "NobodyLeft", "NotPart", "Unbroken"]
/-- what the head tells of the classes and their __init__s -/
structure Hd (K : PySem.W.Frag) (mg : Str → Option Value) : Prop where
  c : Cl K mg
  fi : ∀ p ∈ ownCls, ∃ fd, FunD K "__init__" (p.2 ++ ".__init__") (defArgs (clsInit (top p.1))) (defBody (clsInit (top p.1))) (defScope (clsInit (top p.1))) [] [] (He.ma K (He.ga K p.2) "__init__") fd
  ini : ∀ p ∈ ownCls, initB K (He.ga K p.2) (He.ma K (He.ga K p.2) "__init__") = true
  no : ∀ n ∈ clsNames, ∀ f ∈ fieldNames, noB K (He.ga K n) f = true
  bare : ∀ n ∈ bareNames, bareB K (He.ga K n) = true
section
variable {P : Program} {w : World} {K : PySem.W.Frag} {mg : Str → Option Value} {base : Heap} {f : Addr} {fd : FuncData}
theorem Hd.nof (h : Hd K mg) {n f : Str} (hn : n ∈ clsNames) (hf : f ∈ fieldNames) : PySem.W.findIn K (.ref (He.ga K n)) f = some none := of_decide_eq_true (h.no n hn f hf)
theorem okC {CX : CXT} {N ps : List Str} {k : Nat} {sp : Sp} {x qual : Str} {params : Arguments} {body : List Stmt} {scope : Scope} {dvs : List V} {kws : List (Str × V)} (F : FunD K x qual params body scope dvs kws f fd) (S : FnScope N ps scope) (len : ∀ vs H Q E, sp vs H Q E → vs.length = ps.length)
    (hbody : ∀ (c : Addr) (A : Around) (outer : List Env) (s : Shared) (H : Hp) (vs : List V) (Q : VK) (E : XK), fd.code = .ref c → Room k (A.deeper (envOfC qual scope s.heap.objs.size f (.ref c))) → sp vs H Q E →
      ∃ t, PSs (cxOf CX P w K mg base N qual scope f (.ref c) A outer s H E) body t ∧ t { nx := fun _ H' => Q .non H', rt := Q } (start N vs) H) : FnOk P w K mg base CX (k + 1) f fd ps sp := by
  obtain ⟨oc, od, dV, kV, doc, pm, an, cdv, ct, osl, rfl, lk, hcd, _, _⟩ := F.ex
  obtain ⟨c, rfl⟩ := He.codeIn_ref hcd
  exact fn_of lk hcd S len fun A outer s H vs Q E hr hsp => hbody c A outer s H vs Q E rfl hr hsp
theorem mk_BadAnswers (h : Hd K mg) : MkF P w K mg base "BadAnswers" ["thing"] := by
  obtain ⟨fd, F⟩ := h.fi (3, "BadAnswers") (by decide +kernel)
  obtain ⟨i1, i2⟩ := ba (h.ini (3, "BadAnswers") (by decide +kernel))
  have hn : ("BadAnswers" : Str) ∈ clsNames := by decide +kernel
  have hno := h.nof (f := "thing") hn (by decide +kernel)
  refine ⟨h.c.cls _ hn, h.c.gC _ hn, fun f hf => ?_, by decide, _, fd, of_decide_eq_true i1, of_decide_eq_true i2, ok_init1 F (h.c.cls _ hn) hno ⟨rfl, rfl, rfl, by decide +kernel, rfl, by decide +kernel, by decide +kernel⟩ rfl rfl rfl, bindsI F rfl (fun _ _ _ _ _ _ us hl => match us, hl with | [_, _], _ => rfl), bindsKw F (g := fun l => l.reverse) (fun _ _ _ _ _ _ _ ws hl => match ws, hl with | [_], _ => rfl)⟩
  rw [List.mem_singleton.mp hf]
  exact hno
theorem mk_BadBegin (h : Hd K mg) : MkF P w K mg base "BadBegin" ["thing"] := by
  obtain ⟨fd, F⟩ := h.fi (4, "BadBegin") (by decide +kernel)
  obtain ⟨i1, i2⟩ := ba (h.ini (4, "BadBegin") (by decide +kernel))
  have hn : ("BadBegin" : Str) ∈ clsNames := by decide +kernel
  have hno := h.nof (f := "thing") hn (by decide +kernel)
  refine ⟨h.c.cls _ hn, h.c.gC _ hn, fun f hf => ?_, by decide, _, fd, of_decide_eq_true i1, of_decide_eq_true i2, ok_init1 F (h.c.cls _ hn) hno ⟨rfl, rfl, rfl, by decide +kernel, rfl, by decide +kernel, by decide +kernel⟩ rfl rfl rfl, bindsI F rfl (fun _ _ _ _ _ _ us hl => match us, hl with | [_, _], _ => rfl), bindsKw F (g := fun l => l.reverse) (fun _ _ _ _ _ _ _ ws hl => match ws, hl with | [_], _ => rfl)⟩
  rw [List.mem_singleton.mp hf]
  exact hno
theorem mk_BadBook (h : Hd K mg) : MkF P w K mg base "BadBook" ["fault"] := by
  obtain ⟨fd, F⟩ := h.fi (5, "BadBook") (by decide +kernel)
  obtain ⟨i1, i2⟩ := ba (h.ini (5, "BadBook") (by decide +kernel))
  have hn : ("BadBook" : Str) ∈ clsNames := by decide +kernel
  have hno := h.nof (f := "fault") hn (by decide +kernel)
  refine ⟨h.c.cls _ hn, h.c.gC _ hn, fun f hf => ?_, by decide, _, fd, of_decide_eq_true i1, of_decide_eq_true i2, ok_init1 F (h.c.cls _ hn) hno ⟨rfl, rfl, rfl, by decide +kernel, rfl, by decide +kernel, by decide +kernel⟩ rfl rfl rfl, bindsI F rfl (fun _ _ _ _ _ _ us hl => match us, hl with | [_, _], _ => rfl), bindsKw F (g := fun l => l.reverse) (fun _ _ _ _ _ _ _ ws hl => match ws, hl with | [_], _ => rfl)⟩
  rw [List.mem_singleton.mp hf]
  exact hno
theorem mk_BadBooks (h : Hd K mg) : MkF P w K mg base "BadBooks" ["fault"] := by
  obtain ⟨fd, F⟩ := h.fi (6, "BadBooks") (by decide +kernel)
  obtain ⟨i1, i2⟩ := ba (h.ini (6, "BadBooks") (by decide +kernel))
  have hn : ("BadBooks" : Str) ∈ clsNames := by decide +kernel
  have hno := h.nof (f := "fault") hn (by decide +kernel)
  refine ⟨h.c.cls _ hn, h.c.gC _ hn, fun f hf => ?_, by decide, _, fd, of_decide_eq_true i1, of_decide_eq_true i2, ok_init1 F (h.c.cls _ hn) hno ⟨rfl, rfl, rfl, by decide +kernel, rfl, by decide +kernel, by decide +kernel⟩ rfl rfl rfl, bindsI F rfl (fun _ _ _ _ _ _ us hl => match us, hl with | [_, _], _ => rfl), bindsKw F (g := fun l => l.reverse) (fun _ _ _ _ _ _ _ ws hl => match ws, hl with | [_], _ => rfl)⟩
  rw [List.mem_singleton.mp hf]
  exact hno
theorem mk_BadClient (h : Hd K mg) : MkF P w K mg base "BadClient" ["thing"] := by
  obtain ⟨fd, F⟩ := h.fi (7, "BadClient") (by decide +kernel)
  obtain ⟨i1, i2⟩ := ba (h.ini (7, "BadClient") (by decide +kernel))
  have hn : ("BadClient" : Str) ∈ clsNames := by decide +kernel
  have hno := h.nof (f := "thing") hn (by decide +kernel)
  refine ⟨h.c.cls _ hn, h.c.gC _ hn, fun f hf => ?_, by decide, _, fd, of_decide_eq_true i1, of_decide_eq_true i2, ok_init1 F (h.c.cls _ hn) hno ⟨rfl, rfl, rfl, by decide +kernel, rfl, by decide +kernel, by decide +kernel⟩ rfl rfl rfl, bindsI F rfl (fun _ _ _ _ _ _ us hl => match us, hl with | [_, _], _ => rfl), bindsKw F (g := fun l => l.reverse) (fun _ _ _ _ _ _ _ ws hl => match ws, hl with | [_], _ => rfl)⟩
  rw [List.mem_singleton.mp hf]
  exact hno
theorem mk_BadClients (h : Hd K mg) : MkF P w K mg base "BadClients" ["thing"] := by
  obtain ⟨fd, F⟩ := h.fi (8, "BadClients") (by decide +kernel)
  obtain ⟨i1, i2⟩ := ba (h.ini (8, "BadClients") (by decide +kernel))
  have hn : ("BadClients" : Str) ∈ clsNames := by decide +kernel
  have hno := h.nof (f := "thing") hn (by decide +kernel)
  refine ⟨h.c.cls _ hn, h.c.gC _ hn, fun f hf => ?_, by decide, _, fd, of_decide_eq_true i1, of_decide_eq_true i2, ok_init1 F (h.c.cls _ hn) hno ⟨rfl, rfl, rfl, by decide +kernel, rfl, by decide +kernel, by decide +kernel⟩ rfl rfl rfl, bindsI F rfl (fun _ _ _ _ _ _ us hl => match us, hl with | [_, _], _ => rfl), bindsKw F (g := fun l => l.reverse) (fun _ _ _ _ _ _ _ ws hl => match ws, hl with | [_], _ => rfl)⟩
  rw [List.mem_singleton.mp hf]
  exact hno
theorem mk_BadCouncil (h : Hd K mg) : MkF P w K mg base "BadCouncil" ["thing"] := by
  obtain ⟨fd, F⟩ := h.fi (9, "BadCouncil") (by decide +kernel)
  obtain ⟨i1, i2⟩ := ba (h.ini (9, "BadCouncil") (by decide +kernel))
  have hn : ("BadCouncil" : Str) ∈ clsNames := by decide +kernel
  have hno := h.nof (f := "thing") hn (by decide +kernel)
  refine ⟨h.c.cls _ hn, h.c.gC _ hn, fun f hf => ?_, by decide, _, fd, of_decide_eq_true i1, of_decide_eq_true i2, ok_init1 F (h.c.cls _ hn) hno ⟨rfl, rfl, rfl, by decide +kernel, rfl, by decide +kernel, by decide +kernel⟩ rfl rfl rfl, bindsI F rfl (fun _ _ _ _ _ _ us hl => match us, hl with | [_, _], _ => rfl), bindsKw F (g := fun l => l.reverse) (fun _ _ _ _ _ _ _ ws hl => match ws, hl with | [_], _ => rfl)⟩
  rw [List.mem_singleton.mp hf]
  exact hno
theorem mk_BadCouncilbook (h : Hd K mg) : MkF P w K mg base "BadCouncilbook" ["thing"] := by
  obtain ⟨fd, F⟩ := h.fi (10, "BadCouncilbook") (by decide +kernel)
  obtain ⟨i1, i2⟩ := ba (h.ini (10, "BadCouncilbook") (by decide +kernel))
  have hn : ("BadCouncilbook" : Str) ∈ clsNames := by decide +kernel
  have hno := h.nof (f := "thing") hn (by decide +kernel)
  refine ⟨h.c.cls _ hn, h.c.gC _ hn, fun f hf => ?_, by decide, _, fd, of_decide_eq_true i1, of_decide_eq_true i2, ok_init1 F (h.c.cls _ hn) hno ⟨rfl, rfl, rfl, by decide +kernel, rfl, by decide +kernel, by decide +kernel⟩ rfl rfl rfl, bindsI F rfl (fun _ _ _ _ _ _ us hl => match us, hl with | [_, _], _ => rfl), bindsKw F (g := fun l => l.reverse) (fun _ _ _ _ _ _ _ ws hl => match ws, hl with | [_], _ => rfl)⟩
  rw [List.mem_singleton.mp hf]
  exact hno
theorem mk_BadDeed (h : Hd K mg) : MkF P w K mg base "BadDeed" ["thing"] := by
  obtain ⟨fd, F⟩ := h.fi (11, "BadDeed") (by decide +kernel)
  obtain ⟨i1, i2⟩ := ba (h.ini (11, "BadDeed") (by decide +kernel))
  have hn : ("BadDeed" : Str) ∈ clsNames := by decide +kernel
  have hno := h.nof (f := "thing") hn (by decide +kernel)
  refine ⟨h.c.cls _ hn, h.c.gC _ hn, fun f hf => ?_, by decide, _, fd, of_decide_eq_true i1, of_decide_eq_true i2, ok_init1 F (h.c.cls _ hn) hno ⟨rfl, rfl, rfl, by decide +kernel, rfl, by decide +kernel, by decide +kernel⟩ rfl rfl rfl, bindsI F rfl (fun _ _ _ _ _ _ us hl => match us, hl with | [_, _], _ => rfl), bindsKw F (g := fun l => l.reverse) (fun _ _ _ _ _ _ _ ws hl => match ws, hl with | [_], _ => rfl)⟩
  rw [List.mem_singleton.mp hf]
  exact hno
theorem mk_BadDeedRow (h : Hd K mg) : MkF P w K mg base "BadDeedRow" ["thing"] := by
  obtain ⟨fd, F⟩ := h.fi (12, "BadDeedRow") (by decide +kernel)
  obtain ⟨i1, i2⟩ := ba (h.ini (12, "BadDeedRow") (by decide +kernel))
  have hn : ("BadDeedRow" : Str) ∈ clsNames := by decide +kernel
  have hno := h.nof (f := "thing") hn (by decide +kernel)
  refine ⟨h.c.cls _ hn, h.c.gC _ hn, fun f hf => ?_, by decide, _, fd, of_decide_eq_true i1, of_decide_eq_true i2, ok_init1 F (h.c.cls _ hn) hno ⟨rfl, rfl, rfl, by decide +kernel, rfl, by decide +kernel, by decide +kernel⟩ rfl rfl rfl, bindsI F rfl (fun _ _ _ _ _ _ us hl => match us, hl with | [_, _], _ => rfl), bindsKw F (g := fun l => l.reverse) (fun _ _ _ _ _ _ _ ws hl => match ws, hl with | [_], _ => rfl)⟩
  rw [List.mem_singleton.mp hf]
  exact hno
theorem mk_BadFailed (h : Hd K mg) : MkF P w K mg base "BadFailed" ["thing"] := by
  obtain ⟨fd, F⟩ := h.fi (13, "BadFailed") (by decide +kernel)
  obtain ⟨i1, i2⟩ := ba (h.ini (13, "BadFailed") (by decide +kernel))
  have hn : ("BadFailed" : Str) ∈ clsNames := by decide +kernel
  have hno := h.nof (f := "thing") hn (by decide +kernel)
  refine ⟨h.c.cls _ hn, h.c.gC _ hn, fun f hf => ?_, by decide, _, fd, of_decide_eq_true i1, of_decide_eq_true i2, ok_init1 F (h.c.cls _ hn) hno ⟨rfl, rfl, rfl, by decide +kernel, rfl, by decide +kernel, by decide +kernel⟩ rfl rfl rfl, bindsI F rfl (fun _ _ _ _ _ _ us hl => match us, hl with | [_, _], _ => rfl), bindsKw F (g := fun l => l.reverse) (fun _ _ _ _ _ _ _ ws hl => match ws, hl with | [_], _ => rfl)⟩
  rw [List.mem_singleton.mp hf]
  exact hno
theorem mk_BadFailing (h : Hd K mg) : MkF P w K mg base "BadFailing" ["thing"] := by
  obtain ⟨fd, F⟩ := h.fi (14, "BadFailing") (by decide +kernel)
  obtain ⟨i1, i2⟩ := ba (h.ini (14, "BadFailing") (by decide +kernel))
  have hn : ("BadFailing" : Str) ∈ clsNames := by decide +kernel
  have hno := h.nof (f := "thing") hn (by decide +kernel)
  refine ⟨h.c.cls _ hn, h.c.gC _ hn, fun f hf => ?_, by decide, _, fd, of_decide_eq_true i1, of_decide_eq_true i2, ok_init1 F (h.c.cls _ hn) hno ⟨rfl, rfl, rfl, by decide +kernel, rfl, by decide +kernel, by decide +kernel⟩ rfl rfl rfl, bindsI F rfl (fun _ _ _ _ _ _ us hl => match us, hl with | [_, _], _ => rfl), bindsKw F (g := fun l => l.reverse) (fun _ _ _ _ _ _ _ ws hl => match ws, hl with | [_], _ => rfl)⟩
  rw [List.mem_singleton.mp hf]
  exact hno
theorem mk_BadFallen (h : Hd K mg) : MkF P w K mg base "BadFallen" ["thing"] := by
  obtain ⟨fd, F⟩ := h.fi (15, "BadFallen") (by decide +kernel)
  obtain ⟨i1, i2⟩ := ba (h.ini (15, "BadFallen") (by decide +kernel))
  have hn : ("BadFallen" : Str) ∈ clsNames := by decide +kernel
  have hno := h.nof (f := "thing") hn (by decide +kernel)
  refine ⟨h.c.cls _ hn, h.c.gC _ hn, fun f hf => ?_, by decide, _, fd, of_decide_eq_true i1, of_decide_eq_true i2, ok_init1 F (h.c.cls _ hn) hno ⟨rfl, rfl, rfl, by decide +kernel, rfl, by decide +kernel, by decide +kernel⟩ rfl rfl rfl, bindsI F rfl (fun _ _ _ _ _ _ us hl => match us, hl with | [_, _], _ => rfl), bindsKw F (g := fun l => l.reverse) (fun _ _ _ _ _ _ _ ws hl => match ws, hl with | [_], _ => rfl)⟩
  rw [List.mem_singleton.mp hf]
  exact hno
theorem mk_BadFamily (h : Hd K mg) : MkF P w K mg base "BadFamily" ["thing"] := by
  obtain ⟨fd, F⟩ := h.fi (16, "BadFamily") (by decide +kernel)
  obtain ⟨i1, i2⟩ := ba (h.ini (16, "BadFamily") (by decide +kernel))
  have hn : ("BadFamily" : Str) ∈ clsNames := by decide +kernel
  have hno := h.nof (f := "thing") hn (by decide +kernel)
  refine ⟨h.c.cls _ hn, h.c.gC _ hn, fun f hf => ?_, by decide, _, fd, of_decide_eq_true i1, of_decide_eq_true i2, ok_init1 F (h.c.cls _ hn) hno ⟨rfl, rfl, rfl, by decide +kernel, rfl, by decide +kernel, by decide +kernel⟩ rfl rfl rfl, bindsI F rfl (fun _ _ _ _ _ _ us hl => match us, hl with | [_, _], _ => rfl), bindsKw F (g := fun l => l.reverse) (fun _ _ _ _ _ _ _ ws hl => match ws, hl with | [_], _ => rfl)⟩
  rw [List.mem_singleton.mp hf]
  exact hno
theorem mk_BadFaults (h : Hd K mg) : MkF P w K mg base "BadFaults" ["thing"] := by
  obtain ⟨fd, F⟩ := h.fi (17, "BadFaults") (by decide +kernel)
  obtain ⟨i1, i2⟩ := ba (h.ini (17, "BadFaults") (by decide +kernel))
  have hn : ("BadFaults" : Str) ∈ clsNames := by decide +kernel
  have hno := h.nof (f := "thing") hn (by decide +kernel)
  refine ⟨h.c.cls _ hn, h.c.gC _ hn, fun f hf => ?_, by decide, _, fd, of_decide_eq_true i1, of_decide_eq_true i2, ok_init1 F (h.c.cls _ hn) hno ⟨rfl, rfl, rfl, by decide +kernel, rfl, by decide +kernel, by decide +kernel⟩ rfl rfl rfl, bindsI F rfl (fun _ _ _ _ _ _ us hl => match us, hl with | [_, _], _ => rfl), bindsKw F (g := fun l => l.reverse) (fun _ _ _ _ _ _ _ ws hl => match ws, hl with | [_], _ => rfl)⟩
  rw [List.mem_singleton.mp hf]
  exact hno
theorem mk_BadFirst (h : Hd K mg) : MkF P w K mg base "BadFirst" ["thing"] := by
  obtain ⟨fd, F⟩ := h.fi (18, "BadFirst") (by decide +kernel)
  obtain ⟨i1, i2⟩ := ba (h.ini (18, "BadFirst") (by decide +kernel))
  have hn : ("BadFirst" : Str) ∈ clsNames := by decide +kernel
  have hno := h.nof (f := "thing") hn (by decide +kernel)
  refine ⟨h.c.cls _ hn, h.c.gC _ hn, fun f hf => ?_, by decide, _, fd, of_decide_eq_true i1, of_decide_eq_true i2, ok_init1 F (h.c.cls _ hn) hno ⟨rfl, rfl, rfl, by decide +kernel, rfl, by decide +kernel, by decide +kernel⟩ rfl rfl rfl, bindsI F rfl (fun _ _ _ _ _ _ us hl => match us, hl with | [_, _], _ => rfl), bindsKw F (g := fun l => l.reverse) (fun _ _ _ _ _ _ _ ws hl => match ws, hl with | [_], _ => rfl)⟩
  rw [List.mem_singleton.mp hf]
  exact hno
theorem mk_BadForm (h : Hd K mg) : MkF P w K mg base "BadForm" ["thing"] := by
  obtain ⟨fd, F⟩ := h.fi (19, "BadForm") (by decide +kernel)
  obtain ⟨i1, i2⟩ := ba (h.ini (19, "BadForm") (by decide +kernel))
  have hn : ("BadForm" : Str) ∈ clsNames := by decide +kernel
  have hno := h.nof (f := "thing") hn (by decide +kernel)
  refine ⟨h.c.cls _ hn, h.c.gC _ hn, fun f hf => ?_, by decide, _, fd, of_decide_eq_true i1, of_decide_eq_true i2, ok_init1 F (h.c.cls _ hn) hno ⟨rfl, rfl, rfl, by decide +kernel, rfl, by decide +kernel, by decide +kernel⟩ rfl rfl rfl, bindsI F rfl (fun _ _ _ _ _ _ us hl => match us, hl with | [_, _], _ => rfl), bindsKw F (g := fun l => l.reverse) (fun _ _ _ _ _ _ _ ws hl => match ws, hl with | [_], _ => rfl)⟩
  rw [List.mem_singleton.mp hf]
  exact hno
theorem mk_BadHistory (h : Hd K mg) : MkF P w K mg base "BadHistory" ["fault"] := by
  obtain ⟨fd, F⟩ := h.fi (20, "BadHistory") (by decide +kernel)
  obtain ⟨i1, i2⟩ := ba (h.ini (20, "BadHistory") (by decide +kernel))
  have hn : ("BadHistory" : Str) ∈ clsNames := by decide +kernel
  have hno := h.nof (f := "fault") hn (by decide +kernel)
  refine ⟨h.c.cls _ hn, h.c.gC _ hn, fun f hf => ?_, by decide, _, fd, of_decide_eq_true i1, of_decide_eq_true i2, ok_init1 F (h.c.cls _ hn) hno ⟨rfl, rfl, rfl, by decide +kernel, rfl, by decide +kernel, by decide +kernel⟩ rfl rfl rfl, bindsI F rfl (fun _ _ _ _ _ _ us hl => match us, hl with | [_, _], _ => rfl), bindsKw F (g := fun l => l.reverse) (fun _ _ _ _ _ _ _ ws hl => match ws, hl with | [_], _ => rfl)⟩
  rw [List.mem_singleton.mp hf]
  exact hno
theorem mk_BadHistoryRow (h : Hd K mg) : MkF P w K mg base "BadHistoryRow" ["thing"] := by
  obtain ⟨fd, F⟩ := h.fi (21, "BadHistoryRow") (by decide +kernel)
  obtain ⟨i1, i2⟩ := ba (h.ini (21, "BadHistoryRow") (by decide +kernel))
  have hn : ("BadHistoryRow" : Str) ∈ clsNames := by decide +kernel
  have hno := h.nof (f := "thing") hn (by decide +kernel)
  refine ⟨h.c.cls _ hn, h.c.gC _ hn, fun f hf => ?_, by decide, _, fd, of_decide_eq_true i1, of_decide_eq_true i2, ok_init1 F (h.c.cls _ hn) hno ⟨rfl, rfl, rfl, by decide +kernel, rfl, by decide +kernel, by decide +kernel⟩ rfl rfl rfl, bindsI F rfl (fun _ _ _ _ _ _ us hl => match us, hl with | [_, _], _ => rfl), bindsKw F (g := fun l => l.reverse) (fun _ _ _ _ _ _ _ ws hl => match ws, hl with | [_], _ => rfl)⟩
  rw [List.mem_singleton.mp hf]
  exact hno
theorem mk_BadInner (h : Hd K mg) : MkF P w K mg base "BadInner" ["thing"] := by
  obtain ⟨fd, F⟩ := h.fi (22, "BadInner") (by decide +kernel)
  obtain ⟨i1, i2⟩ := ba (h.ini (22, "BadInner") (by decide +kernel))
  have hn : ("BadInner" : Str) ∈ clsNames := by decide +kernel
  have hno := h.nof (f := "thing") hn (by decide +kernel)
  refine ⟨h.c.cls _ hn, h.c.gC _ hn, fun f hf => ?_, by decide, _, fd, of_decide_eq_true i1, of_decide_eq_true i2, ok_init1 F (h.c.cls _ hn) hno ⟨rfl, rfl, rfl, by decide +kernel, rfl, by decide +kernel, by decide +kernel⟩ rfl rfl rfl, bindsI F rfl (fun _ _ _ _ _ _ us hl => match us, hl with | [_, _], _ => rfl), bindsKw F (g := fun l => l.reverse) (fun _ _ _ _ _ _ _ ws hl => match ws, hl with | [_], _ => rfl)⟩
  rw [List.mem_singleton.mp hf]
  exact hno
theorem mk_BadKeeper (h : Hd K mg) : MkF P w K mg base "BadKeeper" ["thing"] := by
  obtain ⟨fd, F⟩ := h.fi (23, "BadKeeper") (by decide +kernel)
  obtain ⟨i1, i2⟩ := ba (h.ini (23, "BadKeeper") (by decide +kernel))
  have hn : ("BadKeeper" : Str) ∈ clsNames := by decide +kernel
  have hno := h.nof (f := "thing") hn (by decide +kernel)
  refine ⟨h.c.cls _ hn, h.c.gC _ hn, fun f hf => ?_, by decide, _, fd, of_decide_eq_true i1, of_decide_eq_true i2, ok_init1 F (h.c.cls _ hn) hno ⟨rfl, rfl, rfl, by decide +kernel, rfl, by decide +kernel, by decide +kernel⟩ rfl rfl rfl, bindsI F rfl (fun _ _ _ _ _ _ us hl => match us, hl with | [_, _], _ => rfl), bindsKw F (g := fun l => l.reverse) (fun _ _ _ _ _ _ _ ws hl => match ws, hl with | [_], _ => rfl)⟩
  rw [List.mem_singleton.mp hf]
  exact hno
theorem mk_BadKeepers (h : Hd K mg) : MkF P w K mg base "BadKeepers" ["thing"] := by
  obtain ⟨fd, F⟩ := h.fi (24, "BadKeepers") (by decide +kernel)
  obtain ⟨i1, i2⟩ := ba (h.ini (24, "BadKeepers") (by decide +kernel))
  have hn : ("BadKeepers" : Str) ∈ clsNames := by decide +kernel
  have hno := h.nof (f := "thing") hn (by decide +kernel)
  refine ⟨h.c.cls _ hn, h.c.gC _ hn, fun f hf => ?_, by decide, _, fd, of_decide_eq_true i1, of_decide_eq_true i2, ok_init1 F (h.c.cls _ hn) hno ⟨rfl, rfl, rfl, by decide +kernel, rfl, by decide +kernel, by decide +kernel⟩ rfl rfl rfl, bindsI F rfl (fun _ _ _ _ _ _ us hl => match us, hl with | [_, _], _ => rfl), bindsKw F (g := fun l => l.reverse) (fun _ _ _ _ _ _ _ ws hl => match ws, hl with | [_], _ => rfl)⟩
  rw [List.mem_singleton.mp hf]
  exact hno
theorem mk_BadKind (h : Hd K mg) : MkF P w K mg base "BadKind" ["thing"] := by
  obtain ⟨fd, F⟩ := h.fi (25, "BadKind") (by decide +kernel)
  obtain ⟨i1, i2⟩ := ba (h.ini (25, "BadKind") (by decide +kernel))
  have hn : ("BadKind" : Str) ∈ clsNames := by decide +kernel
  have hno := h.nof (f := "thing") hn (by decide +kernel)
  refine ⟨h.c.cls _ hn, h.c.gC _ hn, fun f hf => ?_, by decide, _, fd, of_decide_eq_true i1, of_decide_eq_true i2, ok_init1 F (h.c.cls _ hn) hno ⟨rfl, rfl, rfl, by decide +kernel, rfl, by decide +kernel, by decide +kernel⟩ rfl rfl rfl, bindsI F rfl (fun _ _ _ _ _ _ us hl => match us, hl with | [_, _], _ => rfl), bindsKw F (g := fun l => l.reverse) (fun _ _ _ _ _ _ _ ws hl => match ws, hl with | [_], _ => rfl)⟩
  rw [List.mem_singleton.mp hf]
  exact hno
theorem mk_BadLast (h : Hd K mg) : MkF P w K mg base "BadLast" ["thing"] := by
  obtain ⟨fd, F⟩ := h.fi (26, "BadLast") (by decide +kernel)
  obtain ⟨i1, i2⟩ := ba (h.ini (26, "BadLast") (by decide +kernel))
  have hn : ("BadLast" : Str) ∈ clsNames := by decide +kernel
  have hno := h.nof (f := "thing") hn (by decide +kernel)
  refine ⟨h.c.cls _ hn, h.c.gC _ hn, fun f hf => ?_, by decide, _, fd, of_decide_eq_true i1, of_decide_eq_true i2, ok_init1 F (h.c.cls _ hn) hno ⟨rfl, rfl, rfl, by decide +kernel, rfl, by decide +kernel, by decide +kernel⟩ rfl rfl rfl, bindsI F rfl (fun _ _ _ _ _ _ us hl => match us, hl with | [_, _], _ => rfl), bindsKw F (g := fun l => l.reverse) (fun _ _ _ _ _ _ _ ws hl => match ws, hl with | [_], _ => rfl)⟩
  rw [List.mem_singleton.mp hf]
  exact hno
theorem mk_BadLot (h : Hd K mg) : MkF P w K mg base "BadLot" ["thing"] := by
  obtain ⟨fd, F⟩ := h.fi (27, "BadLot") (by decide +kernel)
  obtain ⟨i1, i2⟩ := ba (h.ini (27, "BadLot") (by decide +kernel))
  have hn : ("BadLot" : Str) ∈ clsNames := by decide +kernel
  have hno := h.nof (f := "thing") hn (by decide +kernel)
  refine ⟨h.c.cls _ hn, h.c.gC _ hn, fun f hf => ?_, by decide, _, fd, of_decide_eq_true i1, of_decide_eq_true i2, ok_init1 F (h.c.cls _ hn) hno ⟨rfl, rfl, rfl, by decide +kernel, rfl, by decide +kernel, by decide +kernel⟩ rfl rfl rfl, bindsI F rfl (fun _ _ _ _ _ _ us hl => match us, hl with | [_, _], _ => rfl), bindsKw F (g := fun l => l.reverse) (fun _ _ _ _ _ _ _ ws hl => match ws, hl with | [_], _ => rfl)⟩
  rw [List.mem_singleton.mp hf]
  exact hno
theorem mk_BadLots (h : Hd K mg) : MkF P w K mg base "BadLots" ["index"] := by
  obtain ⟨fd, F⟩ := h.fi (28, "BadLots") (by decide +kernel)
  obtain ⟨i1, i2⟩ := ba (h.ini (28, "BadLots") (by decide +kernel))
  have hn : ("BadLots" : Str) ∈ clsNames := by decide +kernel
  have hno := h.nof (f := "index") hn (by decide +kernel)
  refine ⟨h.c.cls _ hn, h.c.gC _ hn, fun f hf => ?_, by decide, _, fd, of_decide_eq_true i1, of_decide_eq_true i2, ok_init1 F (h.c.cls _ hn) hno ⟨rfl, rfl, rfl, by decide +kernel, rfl, by decide +kernel, by decide +kernel⟩ rfl rfl rfl, bindsI F rfl (fun _ _ _ _ _ _ us hl => match us, hl with | [_, _], _ => rfl), bindsKw F (g := fun l => l.reverse) (fun _ _ _ _ _ _ _ ws hl => match ws, hl with | [_], _ => rfl)⟩
  rw [List.mem_singleton.mp hf]
  exact hno
theorem mk_BadMany (h : Hd K mg) : MkF P w K mg base "BadMany" ["thing"] := by
  obtain ⟨fd, F⟩ := h.fi (29, "BadMany") (by decide +kernel)
  obtain ⟨i1, i2⟩ := ba (h.ini (29, "BadMany") (by decide +kernel))
  have hn : ("BadMany" : Str) ∈ clsNames := by decide +kernel
  have hno := h.nof (f := "thing") hn (by decide +kernel)
  refine ⟨h.c.cls _ hn, h.c.gC _ hn, fun f hf => ?_, by decide, _, fd, of_decide_eq_true i1, of_decide_eq_true i2, ok_init1 F (h.c.cls _ hn) hno ⟨rfl, rfl, rfl, by decide +kernel, rfl, by decide +kernel, by decide +kernel⟩ rfl rfl rfl, bindsI F rfl (fun _ _ _ _ _ _ us hl => match us, hl with | [_, _], _ => rfl), bindsKw F (g := fun l => l.reverse) (fun _ _ _ _ _ _ _ ws hl => match ws, hl with | [_], _ => rfl)⟩
  rw [List.mem_singleton.mp hf]
  exact hno
theorem mk_BadMost (h : Hd K mg) : MkF P w K mg base "BadMost" ["thing"] := by
  obtain ⟨fd, F⟩ := h.fi (30, "BadMost") (by decide +kernel)
  obtain ⟨i1, i2⟩ := ba (h.ini (30, "BadMost") (by decide +kernel))
  have hn : ("BadMost" : Str) ∈ clsNames := by decide +kernel
  have hno := h.nof (f := "thing") hn (by decide +kernel)
  refine ⟨h.c.cls _ hn, h.c.gC _ hn, fun f hf => ?_, by decide, _, fd, of_decide_eq_true i1, of_decide_eq_true i2, ok_init1 F (h.c.cls _ hn) hno ⟨rfl, rfl, rfl, by decide +kernel, rfl, by decide +kernel, by decide +kernel⟩ rfl rfl rfl, bindsI F rfl (fun _ _ _ _ _ _ us hl => match us, hl with | [_, _], _ => rfl), bindsKw F (g := fun l => l.reverse) (fun _ _ _ _ _ _ _ ws hl => match ws, hl with | [_], _ => rfl)⟩
  rw [List.mem_singleton.mp hf]
  exact hno
theorem mk_BadName (h : Hd K mg) : MkF P w K mg base "BadName" ["thing"] := by
  obtain ⟨fd, F⟩ := h.fi (31, "BadName") (by decide +kernel)
  obtain ⟨i1, i2⟩ := ba (h.ini (31, "BadName") (by decide +kernel))
  have hn : ("BadName" : Str) ∈ clsNames := by decide +kernel
  have hno := h.nof (f := "thing") hn (by decide +kernel)
  refine ⟨h.c.cls _ hn, h.c.gC _ hn, fun f hf => ?_, by decide, _, fd, of_decide_eq_true i1, of_decide_eq_true i2, ok_init1 F (h.c.cls _ hn) hno ⟨rfl, rfl, rfl, by decide +kernel, rfl, by decide +kernel, by decide +kernel⟩ rfl rfl rfl, bindsI F rfl (fun _ _ _ _ _ _ us hl => match us, hl with | [_, _], _ => rfl), bindsKw F (g := fun l => l.reverse) (fun _ _ _ _ _ _ _ ws hl => match ws, hl with | [_], _ => rfl)⟩
  rw [List.mem_singleton.mp hf]
  exact hno
theorem mk_BadNames (h : Hd K mg) : MkF P w K mg base "BadNames" ["thing"] := by
  obtain ⟨fd, F⟩ := h.fi (32, "BadNames") (by decide +kernel)
  obtain ⟨i1, i2⟩ := ba (h.ini (32, "BadNames") (by decide +kernel))
  have hn : ("BadNames" : Str) ∈ clsNames := by decide +kernel
  have hno := h.nof (f := "thing") hn (by decide +kernel)
  refine ⟨h.c.cls _ hn, h.c.gC _ hn, fun f hf => ?_, by decide, _, fd, of_decide_eq_true i1, of_decide_eq_true i2, ok_init1 F (h.c.cls _ hn) hno ⟨rfl, rfl, rfl, by decide +kernel, rfl, by decide +kernel, by decide +kernel⟩ rfl rfl rfl, bindsI F rfl (fun _ _ _ _ _ _ us hl => match us, hl with | [_, _], _ => rfl), bindsKw F (g := fun l => l.reverse) (fun _ _ _ _ _ _ _ ws hl => match ws, hl with | [_], _ => rfl)⟩
  rw [List.mem_singleton.mp hf]
  exact hno
theorem mk_BadNaming (h : Hd K mg) : MkF P w K mg base "BadNaming" ["thing"] := by
  obtain ⟨fd, F⟩ := h.fi (33, "BadNaming") (by decide +kernel)
  obtain ⟨i1, i2⟩ := ba (h.ini (33, "BadNaming") (by decide +kernel))
  have hn : ("BadNaming" : Str) ∈ clsNames := by decide +kernel
  have hno := h.nof (f := "thing") hn (by decide +kernel)
  refine ⟨h.c.cls _ hn, h.c.gC _ hn, fun f hf => ?_, by decide, _, fd, of_decide_eq_true i1, of_decide_eq_true i2, ok_init1 F (h.c.cls _ hn) hno ⟨rfl, rfl, rfl, by decide +kernel, rfl, by decide +kernel, by decide +kernel⟩ rfl rfl rfl, bindsI F rfl (fun _ _ _ _ _ _ us hl => match us, hl with | [_, _], _ => rfl), bindsKw F (g := fun l => l.reverse) (fun _ _ _ _ _ _ _ ws hl => match ws, hl with | [_], _ => rfl)⟩
  rw [List.mem_singleton.mp hf]
  exact hno
theorem mk_BadNumber (h : Hd K mg) : MkF P w K mg base "BadNumber" ["thing"] := by
  obtain ⟨fd, F⟩ := h.fi (34, "BadNumber") (by decide +kernel)
  obtain ⟨i1, i2⟩ := ba (h.ini (34, "BadNumber") (by decide +kernel))
  have hn : ("BadNumber" : Str) ∈ clsNames := by decide +kernel
  have hno := h.nof (f := "thing") hn (by decide +kernel)
  refine ⟨h.c.cls _ hn, h.c.gC _ hn, fun f hf => ?_, by decide, _, fd, of_decide_eq_true i1, of_decide_eq_true i2, ok_init1 F (h.c.cls _ hn) hno ⟨rfl, rfl, rfl, by decide +kernel, rfl, by decide +kernel, by decide +kernel⟩ rfl rfl rfl, bindsI F rfl (fun _ _ _ _ _ _ us hl => match us, hl with | [_, _], _ => rfl), bindsKw F (g := fun l => l.reverse) (fun _ _ _ _ _ _ _ ws hl => match ws, hl with | [_], _ => rfl)⟩
  rw [List.mem_singleton.mp hf]
  exact hno
theorem mk_BadOrder (h : Hd K mg) : MkF P w K mg base "BadOrder" ["thing"] := by
  obtain ⟨fd, F⟩ := h.fi (35, "BadOrder") (by decide +kernel)
  obtain ⟨i1, i2⟩ := ba (h.ini (35, "BadOrder") (by decide +kernel))
  have hn : ("BadOrder" : Str) ∈ clsNames := by decide +kernel
  have hno := h.nof (f := "thing") hn (by decide +kernel)
  refine ⟨h.c.cls _ hn, h.c.gC _ hn, fun f hf => ?_, by decide, _, fd, of_decide_eq_true i1, of_decide_eq_true i2, ok_init1 F (h.c.cls _ hn) hno ⟨rfl, rfl, rfl, by decide +kernel, rfl, by decide +kernel, by decide +kernel⟩ rfl rfl rfl, bindsI F rfl (fun _ _ _ _ _ _ us hl => match us, hl with | [_, _], _ => rfl), bindsKw F (g := fun l => l.reverse) (fun _ _ _ _ _ _ _ ws hl => match ws, hl with | [_], _ => rfl)⟩
  rw [List.mem_singleton.mp hf]
  exact hno
theorem mk_BadOther (h : Hd K mg) : MkF P w K mg base "BadOther" ["thing"] := by
  obtain ⟨fd, F⟩ := h.fi (36, "BadOther") (by decide +kernel)
  obtain ⟨i1, i2⟩ := ba (h.ini (36, "BadOther") (by decide +kernel))
  have hn : ("BadOther" : Str) ∈ clsNames := by decide +kernel
  have hno := h.nof (f := "thing") hn (by decide +kernel)
  refine ⟨h.c.cls _ hn, h.c.gC _ hn, fun f hf => ?_, by decide, _, fd, of_decide_eq_true i1, of_decide_eq_true i2, ok_init1 F (h.c.cls _ hn) hno ⟨rfl, rfl, rfl, by decide +kernel, rfl, by decide +kernel, by decide +kernel⟩ rfl rfl rfl, bindsI F rfl (fun _ _ _ _ _ _ us hl => match us, hl with | [_, _], _ => rfl), bindsKw F (g := fun l => l.reverse) (fun _ _ _ _ _ _ _ ws hl => match ws, hl with | [_], _ => rfl)⟩
  rw [List.mem_singleton.mp hf]
  exact hno
theorem mk_BadOtherBook (h : Hd K mg) : MkF P w K mg base "BadOtherBook" ["thing"] := by
  obtain ⟨fd, F⟩ := h.fi (37, "BadOtherBook") (by decide +kernel)
  obtain ⟨i1, i2⟩ := ba (h.ini (37, "BadOtherBook") (by decide +kernel))
  have hn : ("BadOtherBook" : Str) ∈ clsNames := by decide +kernel
  have hno := h.nof (f := "thing") hn (by decide +kernel)
  refine ⟨h.c.cls _ hn, h.c.gC _ hn, fun f hf => ?_, by decide, _, fd, of_decide_eq_true i1, of_decide_eq_true i2, ok_init1 F (h.c.cls _ hn) hno ⟨rfl, rfl, rfl, by decide +kernel, rfl, by decide +kernel, by decide +kernel⟩ rfl rfl rfl, bindsI F rfl (fun _ _ _ _ _ _ us hl => match us, hl with | [_, _], _ => rfl), bindsKw F (g := fun l => l.reverse) (fun _ _ _ _ _ _ _ ws hl => match ws, hl with | [_], _ => rfl)⟩
  rw [List.mem_singleton.mp hf]
  exact hno
theorem mk_BadOtherCouncil (h : Hd K mg) : MkF P w K mg base "BadOtherCouncil" ["thing"] := by
  obtain ⟨fd, F⟩ := h.fi (38, "BadOtherCouncil") (by decide +kernel)
  obtain ⟨i1, i2⟩ := ba (h.ini (38, "BadOtherCouncil") (by decide +kernel))
  have hn : ("BadOtherCouncil" : Str) ∈ clsNames := by decide +kernel
  have hno := h.nof (f := "thing") hn (by decide +kernel)
  refine ⟨h.c.cls _ hn, h.c.gC _ hn, fun f hf => ?_, by decide, _, fd, of_decide_eq_true i1, of_decide_eq_true i2, ok_init1 F (h.c.cls _ hn) hno ⟨rfl, rfl, rfl, by decide +kernel, rfl, by decide +kernel, by decide +kernel⟩ rfl rfl rfl, bindsI F rfl (fun _ _ _ _ _ _ us hl => match us, hl with | [_, _], _ => rfl), bindsKw F (g := fun l => l.reverse) (fun _ _ _ _ _ _ _ ws hl => match ws, hl with | [_], _ => rfl)⟩
  rw [List.mem_singleton.mp hf]
  exact hno
theorem mk_BadOtherFamily (h : Hd K mg) : MkF P w K mg base "BadOtherFamily" ["thing"] := by
  obtain ⟨fd, F⟩ := h.fi (39, "BadOtherFamily") (by decide +kernel)
  obtain ⟨i1, i2⟩ := ba (h.ini (39, "BadOtherFamily") (by decide +kernel))
  have hn : ("BadOtherFamily" : Str) ∈ clsNames := by decide +kernel
  have hno := h.nof (f := "thing") hn (by decide +kernel)
  refine ⟨h.c.cls _ hn, h.c.gC _ hn, fun f hf => ?_, by decide, _, fd, of_decide_eq_true i1, of_decide_eq_true i2, ok_init1 F (h.c.cls _ hn) hno ⟨rfl, rfl, rfl, by decide +kernel, rfl, by decide +kernel, by decide +kernel⟩ rfl rfl rfl, bindsI F rfl (fun _ _ _ _ _ _ us hl => match us, hl with | [_, _], _ => rfl), bindsKw F (g := fun l => l.reverse) (fun _ _ _ _ _ _ _ ws hl => match ws, hl with | [_], _ => rfl)⟩
  rw [List.mem_singleton.mp hf]
  exact hno
theorem mk_BadOtherFaults (h : Hd K mg) : MkF P w K mg base "BadOtherFaults" ["thing"] := by
  obtain ⟨fd, F⟩ := h.fi (40, "BadOtherFaults") (by decide +kernel)
  obtain ⟨i1, i2⟩ := ba (h.ini (40, "BadOtherFaults") (by decide +kernel))
  have hn : ("BadOtherFaults" : Str) ∈ clsNames := by decide +kernel
  have hno := h.nof (f := "thing") hn (by decide +kernel)
  refine ⟨h.c.cls _ hn, h.c.gC _ hn, fun f hf => ?_, by decide, _, fd, of_decide_eq_true i1, of_decide_eq_true i2, ok_init1 F (h.c.cls _ hn) hno ⟨rfl, rfl, rfl, by decide +kernel, rfl, by decide +kernel, by decide +kernel⟩ rfl rfl rfl, bindsI F rfl (fun _ _ _ _ _ _ us hl => match us, hl with | [_, _], _ => rfl), bindsKw F (g := fun l => l.reverse) (fun _ _ _ _ _ _ _ ws hl => match ws, hl with | [_], _ => rfl)⟩
  rw [List.mem_singleton.mp hf]
  exact hno
theorem mk_BadOtherKeepers (h : Hd K mg) : MkF P w K mg base "BadOtherKeepers" ["thing"] := by
  obtain ⟨fd, F⟩ := h.fi (41, "BadOtherKeepers") (by decide +kernel)
  obtain ⟨i1, i2⟩ := ba (h.ini (41, "BadOtherKeepers") (by decide +kernel))
  have hn : ("BadOtherKeepers" : Str) ∈ clsNames := by decide +kernel
  have hno := h.nof (f := "thing") hn (by decide +kernel)
  refine ⟨h.c.cls _ hn, h.c.gC _ hn, fun f hf => ?_, by decide, _, fd, of_decide_eq_true i1, of_decide_eq_true i2, ok_init1 F (h.c.cls _ hn) hno ⟨rfl, rfl, rfl, by decide +kernel, rfl, by decide +kernel, by decide +kernel⟩ rfl rfl rfl, bindsI F rfl (fun _ _ _ _ _ _ us hl => match us, hl with | [_, _], _ => rfl), bindsKw F (g := fun l => l.reverse) (fun _ _ _ _ _ _ _ ws hl => match ws, hl with | [_], _ => rfl)⟩
  rw [List.mem_singleton.mp hf]
  exact hno
theorem mk_BadOtherNumber (h : Hd K mg) : MkF P w K mg base "BadOtherNumber" ["thing"] := by
  obtain ⟨fd, F⟩ := h.fi (42, "BadOtherNumber") (by decide +kernel)
  obtain ⟨i1, i2⟩ := ba (h.ini (42, "BadOtherNumber") (by decide +kernel))
  have hn : ("BadOtherNumber" : Str) ∈ clsNames := by decide +kernel
  have hno := h.nof (f := "thing") hn (by decide +kernel)
  refine ⟨h.c.cls _ hn, h.c.gC _ hn, fun f hf => ?_, by decide, _, fd, of_decide_eq_true i1, of_decide_eq_true i2, ok_init1 F (h.c.cls _ hn) hno ⟨rfl, rfl, rfl, by decide +kernel, rfl, by decide +kernel, by decide +kernel⟩ rfl rfl rfl, bindsI F rfl (fun _ _ _ _ _ _ us hl => match us, hl with | [_, _], _ => rfl), bindsKw F (g := fun l => l.reverse) (fun _ _ _ _ _ _ _ ws hl => match ws, hl with | [_], _ => rfl)⟩
  rw [List.mem_singleton.mp hf]
  exact hno
theorem mk_BadOtherRow (h : Hd K mg) : MkF P w K mg base "BadOtherRow" ["thing"] := by
  obtain ⟨fd, F⟩ := h.fi (43, "BadOtherRow") (by decide +kernel)
  obtain ⟨i1, i2⟩ := ba (h.ini (43, "BadOtherRow") (by decide +kernel))
  have hn : ("BadOtherRow" : Str) ∈ clsNames := by decide +kernel
  have hno := h.nof (f := "thing") hn (by decide +kernel)
  refine ⟨h.c.cls _ hn, h.c.gC _ hn, fun f hf => ?_, by decide, _, fd, of_decide_eq_true i1, of_decide_eq_true i2, ok_init1 F (h.c.cls _ hn) hno ⟨rfl, rfl, rfl, by decide +kernel, rfl, by decide +kernel, by decide +kernel⟩ rfl rfl rfl, bindsI F rfl (fun _ _ _ _ _ _ us hl => match us, hl with | [_, _], _ => rfl), bindsKw F (g := fun l => l.reverse) (fun _ _ _ _ _ _ _ ws hl => match ws, hl with | [_], _ => rfl)⟩
  rw [List.mem_singleton.mp hf]
  exact hno
theorem mk_BadPair (h : Hd K mg) : MkF P w K mg base "BadPair" ["thing"] := by
  obtain ⟨fd, F⟩ := h.fi (44, "BadPair") (by decide +kernel)
  obtain ⟨i1, i2⟩ := ba (h.ini (44, "BadPair") (by decide +kernel))
  have hn : ("BadPair" : Str) ∈ clsNames := by decide +kernel
  have hno := h.nof (f := "thing") hn (by decide +kernel)
  refine ⟨h.c.cls _ hn, h.c.gC _ hn, fun f hf => ?_, by decide, _, fd, of_decide_eq_true i1, of_decide_eq_true i2, ok_init1 F (h.c.cls _ hn) hno ⟨rfl, rfl, rfl, by decide +kernel, rfl, by decide +kernel, by decide +kernel⟩ rfl rfl rfl, bindsI F rfl (fun _ _ _ _ _ _ us hl => match us, hl with | [_, _], _ => rfl), bindsKw F (g := fun l => l.reverse) (fun _ _ _ _ _ _ _ ws hl => match ws, hl with | [_], _ => rfl)⟩
  rw [List.mem_singleton.mp hf]
  exact hno
theorem mk_BadProbes (h : Hd K mg) : MkF P w K mg base "BadProbes" ["thing"] := by
  obtain ⟨fd, F⟩ := h.fi (45, "BadProbes") (by decide +kernel)
  obtain ⟨i1, i2⟩ := ba (h.ini (45, "BadProbes") (by decide +kernel))
  have hn : ("BadProbes" : Str) ∈ clsNames := by decide +kernel
  have hno := h.nof (f := "thing") hn (by decide +kernel)
  refine ⟨h.c.cls _ hn, h.c.gC _ hn, fun f hf => ?_, by decide, _, fd, of_decide_eq_true i1, of_decide_eq_true i2, ok_init1 F (h.c.cls _ hn) hno ⟨rfl, rfl, rfl, by decide +kernel, rfl, by decide +kernel, by decide +kernel⟩ rfl rfl rfl, bindsI F rfl (fun _ _ _ _ _ _ us hl => match us, hl with | [_, _], _ => rfl), bindsKw F (g := fun l => l.reverse) (fun _ _ _ _ _ _ _ ws hl => match ws, hl with | [_], _ => rfl)⟩
  rw [List.mem_singleton.mp hf]
  exact hno
theorem mk_BadQuestion (h : Hd K mg) : MkF P w K mg base "BadQuestion" ["thing"] := by
  obtain ⟨fd, F⟩ := h.fi (46, "BadQuestion") (by decide +kernel)
  obtain ⟨i1, i2⟩ := ba (h.ini (46, "BadQuestion") (by decide +kernel))
  have hn : ("BadQuestion" : Str) ∈ clsNames := by decide +kernel
  have hno := h.nof (f := "thing") hn (by decide +kernel)
  refine ⟨h.c.cls _ hn, h.c.gC _ hn, fun f hf => ?_, by decide, _, fd, of_decide_eq_true i1, of_decide_eq_true i2, ok_init1 F (h.c.cls _ hn) hno ⟨rfl, rfl, rfl, by decide +kernel, rfl, by decide +kernel, by decide +kernel⟩ rfl rfl rfl, bindsI F rfl (fun _ _ _ _ _ _ us hl => match us, hl with | [_, _], _ => rfl), bindsKw F (g := fun l => l.reverse) (fun _ _ _ _ _ _ _ ws hl => match ws, hl with | [_], _ => rfl)⟩
  rw [List.mem_singleton.mp hf]
  exact hno
theorem mk_BadRate (h : Hd K mg) : MkF P w K mg base "BadRate" ["thing"] := by
  obtain ⟨fd, F⟩ := h.fi (47, "BadRate") (by decide +kernel)
  obtain ⟨i1, i2⟩ := ba (h.ini (47, "BadRate") (by decide +kernel))
  have hn : ("BadRate" : Str) ∈ clsNames := by decide +kernel
  have hno := h.nof (f := "thing") hn (by decide +kernel)
  refine ⟨h.c.cls _ hn, h.c.gC _ hn, fun f hf => ?_, by decide, _, fd, of_decide_eq_true i1, of_decide_eq_true i2, ok_init1 F (h.c.cls _ hn) hno ⟨rfl, rfl, rfl, by decide +kernel, rfl, by decide +kernel, by decide +kernel⟩ rfl rfl rfl, bindsI F rfl (fun _ _ _ _ _ _ us hl => match us, hl with | [_, _], _ => rfl), bindsKw F (g := fun l => l.reverse) (fun _ _ _ _ _ _ _ ws hl => match ws, hl with | [_], _ => rfl)⟩
  rw [List.mem_singleton.mp hf]
  exact hno
theorem mk_BadReadNumber (h : Hd K mg) : MkF P w K mg base "BadReadNumber" ["thing"] := by
  obtain ⟨fd, F⟩ := h.fi (48, "BadReadNumber") (by decide +kernel)
  obtain ⟨i1, i2⟩ := ba (h.ini (48, "BadReadNumber") (by decide +kernel))
  have hn : ("BadReadNumber" : Str) ∈ clsNames := by decide +kernel
  have hno := h.nof (f := "thing") hn (by decide +kernel)
  refine ⟨h.c.cls _ hn, h.c.gC _ hn, fun f hf => ?_, by decide, _, fd, of_decide_eq_true i1, of_decide_eq_true i2, ok_init1 F (h.c.cls _ hn) hno ⟨rfl, rfl, rfl, by decide +kernel, rfl, by decide +kernel, by decide +kernel⟩ rfl rfl rfl, bindsI F rfl (fun _ _ _ _ _ _ us hl => match us, hl with | [_, _], _ => rfl), bindsKw F (g := fun l => l.reverse) (fun _ _ _ _ _ _ _ ws hl => match ws, hl with | [_], _ => rfl)⟩
  rw [List.mem_singleton.mp hf]
  exact hno
theorem mk_BadRow (h : Hd K mg) : MkF P w K mg base "BadRow" ["index"] := by
  obtain ⟨fd, F⟩ := h.fi (49, "BadRow") (by decide +kernel)
  obtain ⟨i1, i2⟩ := ba (h.ini (49, "BadRow") (by decide +kernel))
  have hn : ("BadRow" : Str) ∈ clsNames := by decide +kernel
  have hno := h.nof (f := "index") hn (by decide +kernel)
  refine ⟨h.c.cls _ hn, h.c.gC _ hn, fun f hf => ?_, by decide, _, fd, of_decide_eq_true i1, of_decide_eq_true i2, ok_init1 F (h.c.cls _ hn) hno ⟨rfl, rfl, rfl, by decide +kernel, rfl, by decide +kernel, by decide +kernel⟩ rfl rfl rfl, bindsI F rfl (fun _ _ _ _ _ _ us hl => match us, hl with | [_, _], _ => rfl), bindsKw F (g := fun l => l.reverse) (fun _ _ _ _ _ _ _ ws hl => match ws, hl with | [_], _ => rfl)⟩
  rw [List.mem_singleton.mp hf]
  exact hno
theorem mk_BadRows (h : Hd K mg) : MkF P w K mg base "BadRows" ["thing"] := by
  obtain ⟨fd, F⟩ := h.fi (50, "BadRows") (by decide +kernel)
  obtain ⟨i1, i2⟩ := ba (h.ini (50, "BadRows") (by decide +kernel))
  have hn : ("BadRows" : Str) ∈ clsNames := by decide +kernel
  have hno := h.nof (f := "thing") hn (by decide +kernel)
  refine ⟨h.c.cls _ hn, h.c.gC _ hn, fun f hf => ?_, by decide, _, fd, of_decide_eq_true i1, of_decide_eq_true i2, ok_init1 F (h.c.cls _ hn) hno ⟨rfl, rfl, rfl, by decide +kernel, rfl, by decide +kernel, by decide +kernel⟩ rfl rfl rfl, bindsI F rfl (fun _ _ _ _ _ _ us hl => match us, hl with | [_, _], _ => rfl), bindsKw F (g := fun l => l.reverse) (fun _ _ _ _ _ _ _ ws hl => match ws, hl with | [_], _ => rfl)⟩
  rw [List.mem_singleton.mp hf]
  exact hno
theorem mk_BadSchedule (h : Hd K mg) : MkF P w K mg base "BadSchedule" ["fault"] := by
  obtain ⟨fd, F⟩ := h.fi (51, "BadSchedule") (by decide +kernel)
  obtain ⟨i1, i2⟩ := ba (h.ini (51, "BadSchedule") (by decide +kernel))
  have hn : ("BadSchedule" : Str) ∈ clsNames := by decide +kernel
  have hno := h.nof (f := "fault") hn (by decide +kernel)
  refine ⟨h.c.cls _ hn, h.c.gC _ hn, fun f hf => ?_, by decide, _, fd, of_decide_eq_true i1, of_decide_eq_true i2, ok_init1 F (h.c.cls _ hn) hno ⟨rfl, rfl, rfl, by decide +kernel, rfl, by decide +kernel, by decide +kernel⟩ rfl rfl rfl, bindsI F rfl (fun _ _ _ _ _ _ us hl => match us, hl with | [_, _], _ => rfl), bindsKw F (g := fun l => l.reverse) (fun _ _ _ _ _ _ _ ws hl => match ws, hl with | [_], _ => rfl)⟩
  rw [List.mem_singleton.mp hf]
  exact hno
theorem mk_BadShare (h : Hd K mg) : MkF P w K mg base "BadShare" ["thing"] := by
  obtain ⟨fd, F⟩ := h.fi (52, "BadShare") (by decide +kernel)
  obtain ⟨i1, i2⟩ := ba (h.ini (52, "BadShare") (by decide +kernel))
  have hn : ("BadShare" : Str) ∈ clsNames := by decide +kernel
  have hno := h.nof (f := "thing") hn (by decide +kernel)
  refine ⟨h.c.cls _ hn, h.c.gC _ hn, fun f hf => ?_, by decide, _, fd, of_decide_eq_true i1, of_decide_eq_true i2, ok_init1 F (h.c.cls _ hn) hno ⟨rfl, rfl, rfl, by decide +kernel, rfl, by decide +kernel, by decide +kernel⟩ rfl rfl rfl, bindsI F rfl (fun _ _ _ _ _ _ us hl => match us, hl with | [_, _], _ => rfl), bindsKw F (g := fun l => l.reverse) (fun _ _ _ _ _ _ _ ws hl => match ws, hl with | [_], _ => rfl)⟩
  rw [List.mem_singleton.mp hf]
  exact hno
theorem mk_BadSlices (h : Hd K mg) : MkF P w K mg base "BadSlices" ["thing"] := by
  obtain ⟨fd, F⟩ := h.fi (53, "BadSlices") (by decide +kernel)
  obtain ⟨i1, i2⟩ := ba (h.ini (53, "BadSlices") (by decide +kernel))
  have hn : ("BadSlices" : Str) ∈ clsNames := by decide +kernel
  have hno := h.nof (f := "thing") hn (by decide +kernel)
  refine ⟨h.c.cls _ hn, h.c.gC _ hn, fun f hf => ?_, by decide, _, fd, of_decide_eq_true i1, of_decide_eq_true i2, ok_init1 F (h.c.cls _ hn) hno ⟨rfl, rfl, rfl, by decide +kernel, rfl, by decide +kernel, by decide +kernel⟩ rfl rfl rfl, bindsI F rfl (fun _ _ _ _ _ _ us hl => match us, hl with | [_, _], _ => rfl), bindsKw F (g := fun l => l.reverse) (fun _ _ _ _ _ _ _ ws hl => match ws, hl with | [_], _ => rfl)⟩
  rw [List.mem_singleton.mp hf]
  exact hno
theorem mk_BadSlow (h : Hd K mg) : MkF P w K mg base "BadSlow" ["thing"] := by
  obtain ⟨fd, F⟩ := h.fi (54, "BadSlow") (by decide +kernel)
  obtain ⟨i1, i2⟩ := ba (h.ini (54, "BadSlow") (by decide +kernel))
  have hn : ("BadSlow" : Str) ∈ clsNames := by decide +kernel
  have hno := h.nof (f := "thing") hn (by decide +kernel)
  refine ⟨h.c.cls _ hn, h.c.gC _ hn, fun f hf => ?_, by decide, _, fd, of_decide_eq_true i1, of_decide_eq_true i2, ok_init1 F (h.c.cls _ hn) hno ⟨rfl, rfl, rfl, by decide +kernel, rfl, by decide +kernel, by decide +kernel⟩ rfl rfl rfl, bindsI F rfl (fun _ _ _ _ _ _ us hl => match us, hl with | [_, _], _ => rfl), bindsKw F (g := fun l => l.reverse) (fun _ _ _ _ _ _ _ ws hl => match ws, hl with | [_], _ => rfl)⟩
  rw [List.mem_singleton.mp hf]
  exact hno
theorem mk_BadSome (h : Hd K mg) : MkF P w K mg base "BadSome" ["thing"] := by
  obtain ⟨fd, F⟩ := h.fi (55, "BadSome") (by decide +kernel)
  obtain ⟨i1, i2⟩ := ba (h.ini (55, "BadSome") (by decide +kernel))
  have hn : ("BadSome" : Str) ∈ clsNames := by decide +kernel
  have hno := h.nof (f := "thing") hn (by decide +kernel)
  refine ⟨h.c.cls _ hn, h.c.gC _ hn, fun f hf => ?_, by decide, _, fd, of_decide_eq_true i1, of_decide_eq_true i2, ok_init1 F (h.c.cls _ hn) hno ⟨rfl, rfl, rfl, by decide +kernel, rfl, by decide +kernel, by decide +kernel⟩ rfl rfl rfl, bindsI F rfl (fun _ _ _ _ _ _ us hl => match us, hl with | [_, _], _ => rfl), bindsKw F (g := fun l => l.reverse) (fun _ _ _ _ _ _ _ ws hl => match ws, hl with | [_], _ => rfl)⟩
  rw [List.mem_singleton.mp hf]
  exact hno
theorem mk_BadSpeeds (h : Hd K mg) : MkF P w K mg base "BadSpeeds" ["thing"] := by
  obtain ⟨fd, F⟩ := h.fi (56, "BadSpeeds") (by decide +kernel)
  obtain ⟨i1, i2⟩ := ba (h.ini (56, "BadSpeeds") (by decide +kernel))
  have hn : ("BadSpeeds" : Str) ∈ clsNames := by decide +kernel
  have hno := h.nof (f := "thing") hn (by decide +kernel)
  refine ⟨h.c.cls _ hn, h.c.gC _ hn, fun f hf => ?_, by decide, _, fd, of_decide_eq_true i1, of_decide_eq_true i2, ok_init1 F (h.c.cls _ hn) hno ⟨rfl, rfl, rfl, by decide +kernel, rfl, by decide +kernel, by decide +kernel⟩ rfl rfl rfl, bindsI F rfl (fun _ _ _ _ _ _ us hl => match us, hl with | [_, _], _ => rfl), bindsKw F (g := fun l => l.reverse) (fun _ _ _ _ _ _ _ ws hl => match ws, hl with | [_], _ => rfl)⟩
  rw [List.mem_singleton.mp hf]
  exact hno
theorem mk_BadStep (h : Hd K mg) : MkF P w K mg base "BadStep" ["thing"] := by
  obtain ⟨fd, F⟩ := h.fi (57, "BadStep") (by decide +kernel)
  obtain ⟨i1, i2⟩ := ba (h.ini (57, "BadStep") (by decide +kernel))
  have hn : ("BadStep" : Str) ∈ clsNames := by decide +kernel
  have hno := h.nof (f := "thing") hn (by decide +kernel)
  refine ⟨h.c.cls _ hn, h.c.gC _ hn, fun f hf => ?_, by decide, _, fd, of_decide_eq_true i1, of_decide_eq_true i2, ok_init1 F (h.c.cls _ hn) hno ⟨rfl, rfl, rfl, by decide +kernel, rfl, by decide +kernel, by decide +kernel⟩ rfl rfl rfl, bindsI F rfl (fun _ _ _ _ _ _ us hl => match us, hl with | [_, _], _ => rfl), bindsKw F (g := fun l => l.reverse) (fun _ _ _ _ _ _ _ ws hl => match ws, hl with | [_], _ => rfl)⟩
  rw [List.mem_singleton.mp hf]
  exact hno
theorem mk_BadStore (h : Hd K mg) : MkF P w K mg base "BadStore" ["fault"] := by
  obtain ⟨fd, F⟩ := h.fi (58, "BadStore") (by decide +kernel)
  obtain ⟨i1, i2⟩ := ba (h.ini (58, "BadStore") (by decide +kernel))
  have hn : ("BadStore" : Str) ∈ clsNames := by decide +kernel
  have hno := h.nof (f := "fault") hn (by decide +kernel)
  refine ⟨h.c.cls _ hn, h.c.gC _ hn, fun f hf => ?_, by decide, _, fd, of_decide_eq_true i1, of_decide_eq_true i2, ok_init1 F (h.c.cls _ hn) hno ⟨rfl, rfl, rfl, by decide +kernel, rfl, by decide +kernel, by decide +kernel⟩ rfl rfl rfl, bindsI F rfl (fun _ _ _ _ _ _ us hl => match us, hl with | [_, _], _ => rfl), bindsKw F (g := fun l => l.reverse) (fun _ _ _ _ _ _ _ ws hl => match ws, hl with | [_], _ => rfl)⟩
  rw [List.mem_singleton.mp hf]
  exact hno
theorem mk_BadStrategies (h : Hd K mg) : MkF P w K mg base "BadStrategies" ["thing"] := by
  obtain ⟨fd, F⟩ := h.fi (59, "BadStrategies") (by decide +kernel)
  obtain ⟨i1, i2⟩ := ba (h.ini (59, "BadStrategies") (by decide +kernel))
  have hn : ("BadStrategies" : Str) ∈ clsNames := by decide +kernel
  have hno := h.nof (f := "thing") hn (by decide +kernel)
  refine ⟨h.c.cls _ hn, h.c.gC _ hn, fun f hf => ?_, by decide, _, fd, of_decide_eq_true i1, of_decide_eq_true i2, ok_init1 F (h.c.cls _ hn) hno ⟨rfl, rfl, rfl, by decide +kernel, rfl, by decide +kernel, by decide +kernel⟩ rfl rfl rfl, bindsI F rfl (fun _ _ _ _ _ _ us hl => match us, hl with | [_, _], _ => rfl), bindsKw F (g := fun l => l.reverse) (fun _ _ _ _ _ _ _ ws hl => match ws, hl with | [_], _ => rfl)⟩
  rw [List.mem_singleton.mp hf]
  exact hno
theorem mk_BadStrategy (h : Hd K mg) : MkF P w K mg base "BadStrategy" ["thing"] := by
  obtain ⟨fd, F⟩ := h.fi (60, "BadStrategy") (by decide +kernel)
  obtain ⟨i1, i2⟩ := ba (h.ini (60, "BadStrategy") (by decide +kernel))
  have hn : ("BadStrategy" : Str) ∈ clsNames := by decide +kernel
  have hno := h.nof (f := "thing") hn (by decide +kernel)
  refine ⟨h.c.cls _ hn, h.c.gC _ hn, fun f hf => ?_, by decide, _, fd, of_decide_eq_true i1, of_decide_eq_true i2, ok_init1 F (h.c.cls _ hn) hno ⟨rfl, rfl, rfl, by decide +kernel, rfl, by decide +kernel, by decide +kernel⟩ rfl rfl rfl, bindsI F rfl (fun _ _ _ _ _ _ us hl => match us, hl with | [_, _], _ => rfl), bindsKw F (g := fun l => l.reverse) (fun _ _ _ _ _ _ _ ws hl => match ws, hl with | [_], _ => rfl)⟩
  rw [List.mem_singleton.mp hf]
  exact hno
theorem mk_BadText (h : Hd K mg) : MkF P w K mg base "BadText" ["line", "sign"] := by
  obtain ⟨fd, F⟩ := h.fi (61, "BadText") (by decide +kernel)
  obtain ⟨i1, i2⟩ := ba (h.ini (61, "BadText") (by decide +kernel))
  have hn : ("BadText" : Str) ∈ clsNames := by decide +kernel
  have hno := h.nof (f := "line") hn (by decide +kernel)
  have hno2 := h.nof (f := "sign") hn (by decide +kernel)
  refine ⟨h.c.cls _ hn, h.c.gC _ hn, fun f hf => ?_, by decide, _, fd, of_decide_eq_true i1, of_decide_eq_true i2, ok_init2 F (h.c.cls _ hn) hno hno2 ⟨rfl, rfl, rfl, by decide +kernel, rfl, by decide +kernel, by decide +kernel⟩ rfl rfl rfl rfl rfl, bindsI F rfl (fun _ _ _ _ _ _ us hl => match us, hl with | [_, _, _], _ => rfl), bindsKw F (g := fun l => l.reverse) (fun _ _ _ _ _ _ _ ws hl => match ws, hl with | [_, _], _ => rfl)⟩
  rcases List.mem_cons.mp hf with z | z
  · rw [z]
    exact hno
  · rw [List.mem_singleton.mp z]
    exact hno2
theorem mk_BadTree (h : Hd K mg) : MkF P w K mg base "BadTree" ["thing"] := by
  obtain ⟨fd, F⟩ := h.fi (62, "BadTree") (by decide +kernel)
  obtain ⟨i1, i2⟩ := ba (h.ini (62, "BadTree") (by decide +kernel))
  have hn : ("BadTree" : Str) ∈ clsNames := by decide +kernel
  have hno := h.nof (f := "thing") hn (by decide +kernel)
  refine ⟨h.c.cls _ hn, h.c.gC _ hn, fun f hf => ?_, by decide, _, fd, of_decide_eq_true i1, of_decide_eq_true i2, ok_init1 F (h.c.cls _ hn) hno ⟨rfl, rfl, rfl, by decide +kernel, rfl, by decide +kernel, by decide +kernel⟩ rfl rfl rfl, bindsI F rfl (fun _ _ _ _ _ _ us hl => match us, hl with | [_, _], _ => rfl), bindsKw F (g := fun l => l.reverse) (fun _ _ _ _ _ _ _ ws hl => match ws, hl with | [_], _ => rfl)⟩
  rw [List.mem_singleton.mp hf]
  exact hno
theorem mk_BadVotes (h : Hd K mg) : MkF P w K mg base "BadVotes" ["thing"] := by
  obtain ⟨fd, F⟩ := h.fi (63, "BadVotes") (by decide +kernel)
  obtain ⟨i1, i2⟩ := ba (h.ini (63, "BadVotes") (by decide +kernel))
  have hn : ("BadVotes" : Str) ∈ clsNames := by decide +kernel
  have hno := h.nof (f := "thing") hn (by decide +kernel)
  refine ⟨h.c.cls _ hn, h.c.gC _ hn, fun f hf => ?_, by decide, _, fd, of_decide_eq_true i1, of_decide_eq_true i2, ok_init1 F (h.c.cls _ hn) hno ⟨rfl, rfl, rfl, by decide +kernel, rfl, by decide +kernel, by decide +kernel⟩ rfl rfl rfl, bindsI F rfl (fun _ _ _ _ _ _ us hl => match us, hl with | [_, _], _ => rfl), bindsKw F (g := fun l => l.reverse) (fun _ _ _ _ _ _ _ ws hl => match ws, hl with | [_], _ => rfl)⟩
  rw [List.mem_singleton.mp hf]
  exact hno
theorem mk_BadWeights (h : Hd K mg) : MkF P w K mg base "BadWeights" ["thing"] := by
  obtain ⟨fd, F⟩ := h.fi (64, "BadWeights") (by decide +kernel)
  obtain ⟨i1, i2⟩ := ba (h.ini (64, "BadWeights") (by decide +kernel))
  have hn : ("BadWeights" : Str) ∈ clsNames := by decide +kernel
  have hno := h.nof (f := "thing") hn (by decide +kernel)
  refine ⟨h.c.cls _ hn, h.c.gC _ hn, fun f hf => ?_, by decide, _, fd, of_decide_eq_true i1, of_decide_eq_true i2, ok_init1 F (h.c.cls _ hn) hno ⟨rfl, rfl, rfl, by decide +kernel, rfl, by decide +kernel, by decide +kernel⟩ rfl rfl rfl, bindsI F rfl (fun _ _ _ _ _ _ us hl => match us, hl with | [_, _], _ => rfl), bindsKw F (g := fun l => l.reverse) (fun _ _ _ _ _ _ _ ws hl => match ws, hl with | [_], _ => rfl)⟩
  rw [List.mem_singleton.mp hf]
  exact hno
theorem mk_BadWithin (h : Hd K mg) : MkF P w K mg base "BadWithin" ["thing"] := by
  obtain ⟨fd, F⟩ := h.fi (65, "BadWithin") (by decide +kernel)
  obtain ⟨i1, i2⟩ := ba (h.ini (65, "BadWithin") (by decide +kernel))
  have hn : ("BadWithin" : Str) ∈ clsNames := by decide +kernel
  have hno := h.nof (f := "thing") hn (by decide +kernel)
  refine ⟨h.c.cls _ hn, h.c.gC _ hn, fun f hf => ?_, by decide, _, fd, of_decide_eq_true i1, of_decide_eq_true i2, ok_init1 F (h.c.cls _ hn) hno ⟨rfl, rfl, rfl, by decide +kernel, rfl, by decide +kernel, by decide +kernel⟩ rfl rfl rfl, bindsI F rfl (fun _ _ _ _ _ _ us hl => match us, hl with | [_, _], _ => rfl), bindsKw F (g := fun l => l.reverse) (fun _ _ _ _ _ _ _ ws hl => match ws, hl with | [_], _ => rfl)⟩
  rw [List.mem_singleton.mp hf]
  exact hno
theorem mk_BadWriteNumber (h : Hd K mg) : MkF P w K mg base "BadWriteNumber" ["thing"] := by
  obtain ⟨fd, F⟩ := h.fi (66, "BadWriteNumber") (by decide +kernel)
  obtain ⟨i1, i2⟩ := ba (h.ini (66, "BadWriteNumber") (by decide +kernel))
  have hn : ("BadWriteNumber" : Str) ∈ clsNames := by decide +kernel
  have hno := h.nof (f := "thing") hn (by decide +kernel)
  refine ⟨h.c.cls _ hn, h.c.gC _ hn, fun f hf => ?_, by decide, _, fd, of_decide_eq_true i1, of_decide_eq_true i2, ok_init1 F (h.c.cls _ hn) hno ⟨rfl, rfl, rfl, by decide +kernel, rfl, by decide +kernel, by decide +kernel⟩ rfl rfl rfl, bindsI F rfl (fun _ _ _ _ _ _ us hl => match us, hl with | [_, _], _ => rfl), bindsKw F (g := fun l => l.reverse) (fun _ _ _ _ _ _ _ ws hl => match ws, hl with | [_], _ => rfl)⟩
  rw [List.mem_singleton.mp hf]
  exact hno
theorem mk_InUse (h : Hd K mg) : MkF P w K mg base "InUse" ["question"] := by
  obtain ⟨fd, F⟩ := h.fi (67, "InUse") (by decide +kernel)
  obtain ⟨i1, i2⟩ := ba (h.ini (67, "InUse") (by decide +kernel))
  have hn : ("InUse" : Str) ∈ clsNames := by decide +kernel
  have hno := h.nof (f := "question") hn (by decide +kernel)
  refine ⟨h.c.cls _ hn, h.c.gC _ hn, fun f hf => ?_, by decide, _, fd, of_decide_eq_true i1, of_decide_eq_true i2, ok_init1 F (h.c.cls _ hn) hno ⟨rfl, rfl, rfl, by decide +kernel, rfl, by decide +kernel, by decide +kernel⟩ rfl rfl rfl, bindsI F rfl (fun _ _ _ _ _ _ us hl => match us, hl with | [_, _], _ => rfl), bindsKw F (g := fun l => l.reverse) (fun _ _ _ _ _ _ _ ws hl => match ws, hl with | [_], _ => rfl)⟩
  rw [List.mem_singleton.mp hf]
  exact hno
theorem mk_IsWatched (h : Hd K mg) : MkF P w K mg base "IsWatched" ["question"] := by
  obtain ⟨fd, F⟩ := h.fi (68, "IsWatched") (by decide +kernel)
  obtain ⟨i1, i2⟩ := ba (h.ini (68, "IsWatched") (by decide +kernel))
  have hn : ("IsWatched" : Str) ∈ clsNames := by decide +kernel
  have hno := h.nof (f := "question") hn (by decide +kernel)
  refine ⟨h.c.cls _ hn, h.c.gC _ hn, fun f hf => ?_, by decide, _, fd, of_decide_eq_true i1, of_decide_eq_true i2, ok_init1 F (h.c.cls _ hn) hno ⟨rfl, rfl, rfl, by decide +kernel, rfl, by decide +kernel, by decide +kernel⟩ rfl rfl rfl, bindsI F rfl (fun _ _ _ _ _ _ us hl => match us, hl with | [_, _], _ => rfl), bindsKw F (g := fun l => l.reverse) (fun _ _ _ _ _ _ _ ws hl => match ws, hl with | [_], _ => rfl)⟩
  rw [List.mem_singleton.mp hf]
  exact hno
theorem mk_NoCount (h : Hd K mg) : MkF P w K mg base "NoCount" ["thing"] := by
  obtain ⟨fd, F⟩ := h.fi (72, "NoCount") (by decide +kernel)
  obtain ⟨i1, i2⟩ := ba (h.ini (72, "NoCount") (by decide +kernel))
  have hn : ("NoCount" : Str) ∈ clsNames := by decide +kernel
  have hno := h.nof (f := "thing") hn (by decide +kernel)
  refine ⟨h.c.cls _ hn, h.c.gC _ hn, fun f hf => ?_, by decide, _, fd, of_decide_eq_true i1, of_decide_eq_true i2, ok_init1 F (h.c.cls _ hn) hno ⟨rfl, rfl, rfl, by decide +kernel, rfl, by decide +kernel, by decide +kernel⟩ rfl rfl rfl, bindsI F rfl (fun _ _ _ _ _ _ us hl => match us, hl with | [_, _], _ => rfl), bindsKw F (g := fun l => l.reverse) (fun _ _ _ _ _ _ _ ws hl => match ws, hl with | [_], _ => rfl)⟩
  rw [List.mem_singleton.mp hf]
  exact hno
theorem mk_NotMeeting (h : Hd K mg) : MkF P w K mg base "NotMeeting" ["lot", "other"] := by
  obtain ⟨fd, F⟩ := h.fi (75, "NotMeeting") (by decide +kernel)
  obtain ⟨i1, i2⟩ := ba (h.ini (75, "NotMeeting") (by decide +kernel))
  have hn : ("NotMeeting" : Str) ∈ clsNames := by decide +kernel
  have hno := h.nof (f := "lot") hn (by decide +kernel)
  have hno2 := h.nof (f := "other") hn (by decide +kernel)
  refine ⟨h.c.cls _ hn, h.c.gC _ hn, fun f hf => ?_, by decide, _, fd, of_decide_eq_true i1, of_decide_eq_true i2, ok_init2 F (h.c.cls _ hn) hno hno2 ⟨rfl, rfl, rfl, by decide +kernel, rfl, by decide +kernel, by decide +kernel⟩ rfl rfl rfl rfl rfl, bindsI F rfl (fun _ _ _ _ _ _ us hl => match us, hl with | [_, _, _], _ => rfl), bindsKw F (g := fun l => l.reverse) (fun _ _ _ _ _ _ _ ws hl => match ws, hl with | [_, _], _ => rfl)⟩
  rcases List.mem_cons.mp hf with z | z
  · rw [z]
    exact hno
  · rw [List.mem_singleton.mp z]
    exact hno2
theorem mk_NotNow (h : Hd K mg) : MkF P w K mg base "NotNow" ["why"] := by
  obtain ⟨fd, F⟩ := h.fi (76, "NotNow") (by decide +kernel)
  obtain ⟨i1, i2⟩ := ba (h.ini (76, "NotNow") (by decide +kernel))
  have hn : ("NotNow" : Str) ∈ clsNames := by decide +kernel
  have hno := h.nof (f := "why") hn (by decide +kernel)
  refine ⟨h.c.cls _ hn, h.c.gC _ hn, fun f hf => ?_, by decide, _, fd, of_decide_eq_true i1, of_decide_eq_true i2, ok_init1 F (h.c.cls _ hn) hno ⟨rfl, rfl, rfl, by decide +kernel, rfl, by decide +kernel, by decide +kernel⟩ rfl rfl rfl, bindsI F rfl (fun _ _ _ _ _ _ us hl => match us, hl with | [_, _], _ => rfl), bindsKw F (g := fun l => l.reverse) (fun _ _ _ _ _ _ _ ws hl => match ws, hl with | [_], _ => rfl)⟩
  rw [List.mem_singleton.mp hf]
  exact hno
theorem mk_NotSeven (h : Hd K mg) : MkF P w K mg base "NotSeven" ["count"] := by
  obtain ⟨fd, F⟩ := h.fi (78, "NotSeven") (by decide +kernel)
  obtain ⟨i1, i2⟩ := ba (h.ini (78, "NotSeven") (by decide +kernel))
  have hn : ("NotSeven" : Str) ∈ clsNames := by decide +kernel
  have hno := h.nof (f := "count") hn (by decide +kernel)
  refine ⟨h.c.cls _ hn, h.c.gC _ hn, fun f hf => ?_, by decide, _, fd, of_decide_eq_true i1, of_decide_eq_true i2, ok_init1 F (h.c.cls _ hn) hno ⟨rfl, rfl, rfl, by decide +kernel, rfl, by decide +kernel, by decide +kernel⟩ rfl rfl rfl, bindsI F rfl (fun _ _ _ _ _ _ us hl => match us, hl with | [_, _], _ => rfl), bindsKw F (g := fun l => l.reverse) (fun _ _ _ _ _ _ _ ws hl => match ws, hl with | [_], _ => rfl)⟩
  rw [List.mem_singleton.mp hf]
  exact hno
theorem mk_NotWatched (h : Hd K mg) : MkF P w K mg base "NotWatched" ["question"] := by
  obtain ⟨fd, F⟩ := h.fi (79, "NotWatched") (by decide +kernel)
  obtain ⟨i1, i2⟩ := ba (h.ini (79, "NotWatched") (by decide +kernel))
  have hn : ("NotWatched" : Str) ∈ clsNames := by decide +kernel
  have hno := h.nof (f := "question") hn (by decide +kernel)
  refine ⟨h.c.cls _ hn, h.c.gC _ hn, fun f hf => ?_, by decide, _, fd, of_decide_eq_true i1, of_decide_eq_true i2, ok_init1 F (h.c.cls _ hn) hno ⟨rfl, rfl, rfl, by decide +kernel, rfl, by decide +kernel, by decide +kernel⟩ rfl rfl rfl, bindsI F rfl (fun _ _ _ _ _ _ us hl => match us, hl with | [_, _], _ => rfl), bindsKw F (g := fun l => l.reverse) (fun _ _ _ _ _ _ _ ws hl => match ws, hl with | [_], _ => rfl)⟩
  rw [List.mem_singleton.mp hf]
  exact hno
theorem mk_TooFew (h : Hd K mg) : MkF P w K mg base "TooFew" ["total"] := by
  obtain ⟨fd, F⟩ := h.fi (80, "TooFew") (by decide +kernel)
  obtain ⟨i1, i2⟩ := ba (h.ini (80, "TooFew") (by decide +kernel))
  have hn : ("TooFew" : Str) ∈ clsNames := by decide +kernel
  have hno := h.nof (f := "total") hn (by decide +kernel)
  refine ⟨h.c.cls _ hn, h.c.gC _ hn, fun f hf => ?_, by decide, _, fd, of_decide_eq_true i1, of_decide_eq_true i2, ok_init1 F (h.c.cls _ hn) hno ⟨rfl, rfl, rfl, by decide +kernel, rfl, by decide +kernel, by decide +kernel⟩ rfl rfl rfl, bindsI F rfl (fun _ _ _ _ _ _ us hl => match us, hl with | [_, _], _ => rfl), bindsKw F (g := fun l => l.reverse) (fun _ _ _ _ _ _ _ ws hl => match ws, hl with | [_], _ => rfl)⟩
  rw [List.mem_singleton.mp hf]
  exact hno
theorem mk_WouldChange (h : Hd K mg) : MkF P w K mg base "WouldChange" ["question", "why"] := by
  obtain ⟨fd, F⟩ := h.fi (82, "WouldChange") (by decide +kernel)
  obtain ⟨i1, i2⟩ := ba (h.ini (82, "WouldChange") (by decide +kernel))
  have hn : ("WouldChange" : Str) ∈ clsNames := by decide +kernel
  have hno := h.nof (f := "question") hn (by decide +kernel)
  have hno2 := h.nof (f := "why") hn (by decide +kernel)
  refine ⟨h.c.cls _ hn, h.c.gC _ hn, fun f hf => ?_, by decide, _, fd, of_decide_eq_true i1, of_decide_eq_true i2, ok_init2 F (h.c.cls _ hn) hno hno2 ⟨rfl, rfl, rfl, by decide +kernel, rfl, by decide +kernel, by decide +kernel⟩ rfl rfl rfl rfl rfl, bindsI F rfl (fun _ _ _ _ _ _ us hl => match us, hl with | [_, _, _], _ => rfl), bindsKw F (g := fun l => l.reverse) (fun _ _ _ _ _ _ _ ws hl => match ws, hl with | [_, _], _ => rfl)⟩
  rcases List.mem_cons.mp hf with z | z
  · rw [z]
    exact hno
  · rw [List.mem_singleton.mp z]
    exact hno2
def rows_a : List Row := [("Apart", []), ("BadAnswers", ["thing"]), ("BadBegin", ["thing"]), ("BadBook", ["fault"]), ("BadBooks", ["fault"]), ("BadClient", ["thing"]), ("BadClients", ["thing"]), ("BadCouncil", ["thing"]), ("BadCouncilbook", ["thing"]), ("BadDeed", ["thing"]), ("BadDeedRow", ["thing"]), ("BadFailed", ["thing"]), ("BadFailing", ["thing"]), ("BadFallen", ["thing"]), ("BadFamily", ["thing"]), ("BadFaults", ["thing"]), ("BadFirst", ["thing"]), ("BadForm", ["thing"])]
theorem scMa : FnScope ["x", "y", "z", "found"] ["x", "y", "z"] (defScope (top 87)) := ⟨rfl, rfl, rfl, by decide +kernel, rfl, by decide +kernel, by decide +kernel⟩
theorem ok_made_a (F : FnP K "_law_made_a" (top 87) f fd) (h : Hd K mg) {T : List (Addr × Str)} {Pt : Addr} (hT : ∀ c, fd.code = .ref c → TabB base mg c Pt) (hm : (Pt, ("_law_made_a.<locals>.<lambda>" : Str)) ∈ T) (hu : ∀ p ∈ T, p.1 = Pt → p.2 = "_law_made_a.<locals>.<lambda>") :
    FnOk P w K mg base CX0 3 f fd ["x", "y", "z"] (spMade K T rows_a) := by
  refine okC F scMa (fun vs H Q E h => ?_) (fun c A outer s H vs Q E hc hr hs => ?_)
  · obtain ⟨x, y, z, rfl, _⟩ := h
    rfl
  · obtain ⟨x, y, z, rfl, hTb, qq⟩ := hs
    refine ⟨_, PSs.nox (pss_cons (ps_set (i := 3) scMa.nd rfl (.inl rfl) (pe_lst pa_nil))
      (pss_cons (ps_expr (pe_bm PySem.F.plainAttrs_list PySem.F.slot_list_append PySem.F.type_list_append mt_append (pv 3) (pa_cons (pe_tup (pa_cons (pe_mkX0 (bmB := veTail) (h.c.cls "Apart" (by decide +kernel)) (h.bare "Apart" (by decide +kernel)) (by rfl) (h.c.gC "Apart" (by decide +kernel))) (pa_cons (pe_mkX0 (bmB := veTail) (h.c.cls "Apart" (by decide +kernel)) (h.bare "Apart" (by decide +kernel)) (by rfl) (h.c.gC "Apart" (by decide +kernel))) (pa_cons (pe_lamV (T := T) (hT c hc) rfl rfl hm hu rfl (by decide +kernel)) (pa_cons (pe_lst pa_nil) pa_nil))))) pa_nil)))
      (pss_cons (ps_expr (pe_bm PySem.F.plainAttrs_list PySem.F.slot_list_append PySem.F.type_list_append mt_append (pv 3) (pa_cons (pe_tup (pa_cons (pe_mkF (mk_BadAnswers h) hr pass0 (by rfl) (pa_cons (pv 0) pa_nil) rfl) (pa_cons (pe_mkFK (mk_BadAnswers h) hr pass0 (by rfl) (pk_cons (pv 0) pk_nil) rfl rfl) (pa_cons (pe_lamV (T := T) (hT c hc) rfl rfl hm hu rfl (by decide +kernel)) (pa_cons (pe_lst (pa_cons (pv 0) pa_nil)) pa_nil))))) pa_nil)))
      (pss_cons (ps_expr (pe_bm PySem.F.plainAttrs_list PySem.F.slot_list_append PySem.F.type_list_append mt_append (pv 3) (pa_cons (pe_tup (pa_cons (pe_mkF (mk_BadBegin h) hr pass0 (by rfl) (pa_cons (pv 0) pa_nil) rfl) (pa_cons (pe_mkFK (mk_BadBegin h) hr pass0 (by rfl) (pk_cons (pv 0) pk_nil) rfl rfl) (pa_cons (pe_lamV (T := T) (hT c hc) rfl rfl hm hu rfl (by decide +kernel)) (pa_cons (pe_lst (pa_cons (pv 0) pa_nil)) pa_nil))))) pa_nil)))
      (pss_cons (ps_expr (pe_bm PySem.F.plainAttrs_list PySem.F.slot_list_append PySem.F.type_list_append mt_append (pv 3) (pa_cons (pe_tup (pa_cons (pe_mkF (mk_BadBook h) hr pass0 (by rfl) (pa_cons (pv 0) pa_nil) rfl) (pa_cons (pe_mkFK (mk_BadBook h) hr pass0 (by rfl) (pk_cons (pv 0) pk_nil) rfl rfl) (pa_cons (pe_lamV (T := T) (hT c hc) rfl rfl hm hu rfl (by decide +kernel)) (pa_cons (pe_lst (pa_cons (pv 0) pa_nil)) pa_nil))))) pa_nil)))
      (pss_cons (ps_expr (pe_bm PySem.F.plainAttrs_list PySem.F.slot_list_append PySem.F.type_list_append mt_append (pv 3) (pa_cons (pe_tup (pa_cons (pe_mkF (mk_BadBooks h) hr pass0 (by rfl) (pa_cons (pv 0) pa_nil) rfl) (pa_cons (pe_mkFK (mk_BadBooks h) hr pass0 (by rfl) (pk_cons (pv 0) pk_nil) rfl rfl) (pa_cons (pe_lamV (T := T) (hT c hc) rfl rfl hm hu rfl (by decide +kernel)) (pa_cons (pe_lst (pa_cons (pv 0) pa_nil)) pa_nil))))) pa_nil)))
      (pss_cons (ps_expr (pe_bm PySem.F.plainAttrs_list PySem.F.slot_list_append PySem.F.type_list_append mt_append (pv 3) (pa_cons (pe_tup (pa_cons (pe_mkF (mk_BadClient h) hr pass0 (by rfl) (pa_cons (pv 0) pa_nil) rfl) (pa_cons (pe_mkFK (mk_BadClient h) hr pass0 (by rfl) (pk_cons (pv 0) pk_nil) rfl rfl) (pa_cons (pe_lamV (T := T) (hT c hc) rfl rfl hm hu rfl (by decide +kernel)) (pa_cons (pe_lst (pa_cons (pv 0) pa_nil)) pa_nil))))) pa_nil)))
      (pss_cons (ps_expr (pe_bm PySem.F.plainAttrs_list PySem.F.slot_list_append PySem.F.type_list_append mt_append (pv 3) (pa_cons (pe_tup (pa_cons (pe_mkF (mk_BadClients h) hr pass0 (by rfl) (pa_cons (pv 0) pa_nil) rfl) (pa_cons (pe_mkFK (mk_BadClients h) hr pass0 (by rfl) (pk_cons (pv 0) pk_nil) rfl rfl) (pa_cons (pe_lamV (T := T) (hT c hc) rfl rfl hm hu rfl (by decide +kernel)) (pa_cons (pe_lst (pa_cons (pv 0) pa_nil)) pa_nil))))) pa_nil)))
      (pss_cons (ps_expr (pe_bm PySem.F.plainAttrs_list PySem.F.slot_list_append PySem.F.type_list_append mt_append (pv 3) (pa_cons (pe_tup (pa_cons (pe_mkF (mk_BadCouncil h) hr pass0 (by rfl) (pa_cons (pv 0) pa_nil) rfl) (pa_cons (pe_mkFK (mk_BadCouncil h) hr pass0 (by rfl) (pk_cons (pv 0) pk_nil) rfl rfl) (pa_cons (pe_lamV (T := T) (hT c hc) rfl rfl hm hu rfl (by decide +kernel)) (pa_cons (pe_lst (pa_cons (pv 0) pa_nil)) pa_nil))))) pa_nil)))
      (pss_cons (ps_expr (pe_bm PySem.F.plainAttrs_list PySem.F.slot_list_append PySem.F.type_list_append mt_append (pv 3) (pa_cons (pe_tup (pa_cons (pe_mkF (mk_BadCouncilbook h) hr pass0 (by rfl) (pa_cons (pv 0) pa_nil) rfl) (pa_cons (pe_mkFK (mk_BadCouncilbook h) hr pass0 (by rfl) (pk_cons (pv 0) pk_nil) rfl rfl) (pa_cons (pe_lamV (T := T) (hT c hc) rfl rfl hm hu rfl (by decide +kernel)) (pa_cons (pe_lst (pa_cons (pv 0) pa_nil)) pa_nil))))) pa_nil)))
      (pss_cons (ps_expr (pe_bm PySem.F.plainAttrs_list PySem.F.slot_list_append PySem.F.type_list_append mt_append (pv 3) (pa_cons (pe_tup (pa_cons (pe_mkF (mk_BadDeed h) hr pass0 (by rfl) (pa_cons (pv 0) pa_nil) rfl) (pa_cons (pe_mkFK (mk_BadDeed h) hr pass0 (by rfl) (pk_cons (pv 0) pk_nil) rfl rfl) (pa_cons (pe_lamV (T := T) (hT c hc) rfl rfl hm hu rfl (by decide +kernel)) (pa_cons (pe_lst (pa_cons (pv 0) pa_nil)) pa_nil))))) pa_nil)))
      (pss_cons (ps_expr (pe_bm PySem.F.plainAttrs_list PySem.F.slot_list_append PySem.F.type_list_append mt_append (pv 3) (pa_cons (pe_tup (pa_cons (pe_mkF (mk_BadDeedRow h) hr pass0 (by rfl) (pa_cons (pv 0) pa_nil) rfl) (pa_cons (pe_mkFK (mk_BadDeedRow h) hr pass0 (by rfl) (pk_cons (pv 0) pk_nil) rfl rfl) (pa_cons (pe_lamV (T := T) (hT c hc) rfl rfl hm hu rfl (by decide +kernel)) (pa_cons (pe_lst (pa_cons (pv 0) pa_nil)) pa_nil))))) pa_nil)))
      (pss_cons (ps_expr (pe_bm PySem.F.plainAttrs_list PySem.F.slot_list_append PySem.F.type_list_append mt_append (pv 3) (pa_cons (pe_tup (pa_cons (pe_mkF (mk_BadFailed h) hr pass0 (by rfl) (pa_cons (pv 0) pa_nil) rfl) (pa_cons (pe_mkFK (mk_BadFailed h) hr pass0 (by rfl) (pk_cons (pv 0) pk_nil) rfl rfl) (pa_cons (pe_lamV (T := T) (hT c hc) rfl rfl hm hu rfl (by decide +kernel)) (pa_cons (pe_lst (pa_cons (pv 0) pa_nil)) pa_nil))))) pa_nil)))
      (pss_cons (ps_expr (pe_bm PySem.F.plainAttrs_list PySem.F.slot_list_append PySem.F.type_list_append mt_append (pv 3) (pa_cons (pe_tup (pa_cons (pe_mkF (mk_BadFailing h) hr pass0 (by rfl) (pa_cons (pv 0) pa_nil) rfl) (pa_cons (pe_mkFK (mk_BadFailing h) hr pass0 (by rfl) (pk_cons (pv 0) pk_nil) rfl rfl) (pa_cons (pe_lamV (T := T) (hT c hc) rfl rfl hm hu rfl (by decide +kernel)) (pa_cons (pe_lst (pa_cons (pv 0) pa_nil)) pa_nil))))) pa_nil)))
      (pss_cons (ps_expr (pe_bm PySem.F.plainAttrs_list PySem.F.slot_list_append PySem.F.type_list_append mt_append (pv 3) (pa_cons (pe_tup (pa_cons (pe_mkF (mk_BadFallen h) hr pass0 (by rfl) (pa_cons (pv 0) pa_nil) rfl) (pa_cons (pe_mkFK (mk_BadFallen h) hr pass0 (by rfl) (pk_cons (pv 0) pk_nil) rfl rfl) (pa_cons (pe_lamV (T := T) (hT c hc) rfl rfl hm hu rfl (by decide +kernel)) (pa_cons (pe_lst (pa_cons (pv 0) pa_nil)) pa_nil))))) pa_nil)))
      (pss_cons (ps_expr (pe_bm PySem.F.plainAttrs_list PySem.F.slot_list_append PySem.F.type_list_append mt_append (pv 3) (pa_cons (pe_tup (pa_cons (pe_mkF (mk_BadFamily h) hr pass0 (by rfl) (pa_cons (pv 0) pa_nil) rfl) (pa_cons (pe_mkFK (mk_BadFamily h) hr pass0 (by rfl) (pk_cons (pv 0) pk_nil) rfl rfl) (pa_cons (pe_lamV (T := T) (hT c hc) rfl rfl hm hu rfl (by decide +kernel)) (pa_cons (pe_lst (pa_cons (pv 0) pa_nil)) pa_nil))))) pa_nil)))
      (pss_cons (ps_expr (pe_bm PySem.F.plainAttrs_list PySem.F.slot_list_append PySem.F.type_list_append mt_append (pv 3) (pa_cons (pe_tup (pa_cons (pe_mkF (mk_BadFaults h) hr pass0 (by rfl) (pa_cons (pv 0) pa_nil) rfl) (pa_cons (pe_mkFK (mk_BadFaults h) hr pass0 (by rfl) (pk_cons (pv 0) pk_nil) rfl rfl) (pa_cons (pe_lamV (T := T) (hT c hc) rfl rfl hm hu rfl (by decide +kernel)) (pa_cons (pe_lst (pa_cons (pv 0) pa_nil)) pa_nil))))) pa_nil)))
      (pss_cons (ps_expr (pe_bm PySem.F.plainAttrs_list PySem.F.slot_list_append PySem.F.type_list_append mt_append (pv 3) (pa_cons (pe_tup (pa_cons (pe_mkF (mk_BadFirst h) hr pass0 (by rfl) (pa_cons (pv 0) pa_nil) rfl) (pa_cons (pe_mkFK (mk_BadFirst h) hr pass0 (by rfl) (pk_cons (pv 0) pk_nil) rfl rfl) (pa_cons (pe_lamV (T := T) (hT c hc) rfl rfl hm hu rfl (by decide +kernel)) (pa_cons (pe_lst (pa_cons (pv 0) pa_nil)) pa_nil))))) pa_nil)))
      (pss_cons (ps_expr (pe_bm PySem.F.plainAttrs_list PySem.F.slot_list_append PySem.F.type_list_append mt_append (pv 3) (pa_cons (pe_tup (pa_cons (pe_mkF (mk_BadForm h) hr pass0 (by rfl) (pa_cons (pv 0) pa_nil) rfl) (pa_cons (pe_mkFK (mk_BadForm h) hr pass0 (by rfl) (pk_cons (pv 0) pk_nil) rfl rfl) (pa_cons (pe_lamV (T := T) (hT c hc) rfl rfl hm hu rfl (by decide +kernel)) (pa_cons (pe_lst (pa_cons (pv 0) pa_nil)) pa_nil))))) pa_nil)))
      (pss_one (ps_ret (pv 3)))))))))))))))))))))), ?_⟩
    refine ⟨Nat.zero_le _, fun q nq => ?_⟩
    have W : MW K T H (upd H q (.lst [])) q x y [] [] := ⟨ExtN.of (Ex.new nq), nq, upd_same, hTb.ext (Ex.new nq), .nil⟩
    refine W.row0 (n := "Apart") ?_ ?_ (by show 0 ≤ 1000; decide) fun t0 H0 W => ?_
    · exact (fun c => ⟨rfl, rfl, ⟨_, rfl⟩, _, _, rfl, .nil⟩)
    · exact fun c => rfl
    refine W.row1 (n := "BadAnswers") (f := "thing") ?_ ?_ (h.nof (by decide +kernel) (by decide +kernel)) (by show 1 ≤ 1000; decide) fun t1 H1 W => ?_
    · exact (fun c => ⟨rfl, rfl, ⟨_, rfl⟩, _, _, rfl, (.cons ⟨_, _, rfl⟩ .nil)⟩)
    · exact fun c => rfl
    refine W.row1 (n := "BadBegin") (f := "thing") ?_ ?_ (h.nof (by decide +kernel) (by decide +kernel)) (by show 2 ≤ 1000; decide) fun t2 H2 W => ?_
    · exact (fun c => ⟨rfl, rfl, ⟨_, rfl⟩, _, _, rfl, (.cons ⟨_, _, rfl⟩ .nil)⟩)
    · exact fun c => rfl
    refine W.row1 (n := "BadBook") (f := "fault") ?_ ?_ (h.nof (by decide +kernel) (by decide +kernel)) (by show 3 ≤ 1000; decide) fun t3 H3 W => ?_
    · exact (fun c => ⟨rfl, rfl, ⟨_, rfl⟩, _, _, rfl, (.cons ⟨_, _, rfl⟩ .nil)⟩)
    · exact fun c => rfl
    refine W.row1 (n := "BadBooks") (f := "fault") ?_ ?_ (h.nof (by decide +kernel) (by decide +kernel)) (by show 4 ≤ 1000; decide) fun t4 H4 W => ?_
    · exact (fun c => ⟨rfl, rfl, ⟨_, rfl⟩, _, _, rfl, (.cons ⟨_, _, rfl⟩ .nil)⟩)
    · exact fun c => rfl
    refine W.row1 (n := "BadClient") (f := "thing") ?_ ?_ (h.nof (by decide +kernel) (by decide +kernel)) (by show 5 ≤ 1000; decide) fun t5 H5 W => ?_
    · exact (fun c => ⟨rfl, rfl, ⟨_, rfl⟩, _, _, rfl, (.cons ⟨_, _, rfl⟩ .nil)⟩)
    · exact fun c => rfl
    refine W.row1 (n := "BadClients") (f := "thing") ?_ ?_ (h.nof (by decide +kernel) (by decide +kernel)) (by show 6 ≤ 1000; decide) fun t6 H6 W => ?_
    · exact (fun c => ⟨rfl, rfl, ⟨_, rfl⟩, _, _, rfl, (.cons ⟨_, _, rfl⟩ .nil)⟩)
    · exact fun c => rfl
    refine W.row1 (n := "BadCouncil") (f := "thing") ?_ ?_ (h.nof (by decide +kernel) (by decide +kernel)) (by show 7 ≤ 1000; decide) fun t7 H7 W => ?_
    · exact (fun c => ⟨rfl, rfl, ⟨_, rfl⟩, _, _, rfl, (.cons ⟨_, _, rfl⟩ .nil)⟩)
    · exact fun c => rfl
    refine W.row1 (n := "BadCouncilbook") (f := "thing") ?_ ?_ (h.nof (by decide +kernel) (by decide +kernel)) (by show 8 ≤ 1000; decide) fun t8 H8 W => ?_
    · exact (fun c => ⟨rfl, rfl, ⟨_, rfl⟩, _, _, rfl, (.cons ⟨_, _, rfl⟩ .nil)⟩)
    · exact fun c => rfl
    refine W.row1 (n := "BadDeed") (f := "thing") ?_ ?_ (h.nof (by decide +kernel) (by decide +kernel)) (by show 9 ≤ 1000; decide) fun t9 H9 W => ?_
    · exact (fun c => ⟨rfl, rfl, ⟨_, rfl⟩, _, _, rfl, (.cons ⟨_, _, rfl⟩ .nil)⟩)
    · exact fun c => rfl
    refine W.row1 (n := "BadDeedRow") (f := "thing") ?_ ?_ (h.nof (by decide +kernel) (by decide +kernel)) (by show 10 ≤ 1000; decide) fun t10 H10 W => ?_
    · exact (fun c => ⟨rfl, rfl, ⟨_, rfl⟩, _, _, rfl, (.cons ⟨_, _, rfl⟩ .nil)⟩)
    · exact fun c => rfl
    refine W.row1 (n := "BadFailed") (f := "thing") ?_ ?_ (h.nof (by decide +kernel) (by decide +kernel)) (by show 11 ≤ 1000; decide) fun t11 H11 W => ?_
    · exact (fun c => ⟨rfl, rfl, ⟨_, rfl⟩, _, _, rfl, (.cons ⟨_, _, rfl⟩ .nil)⟩)
    · exact fun c => rfl
    refine W.row1 (n := "BadFailing") (f := "thing") ?_ ?_ (h.nof (by decide +kernel) (by decide +kernel)) (by show 12 ≤ 1000; decide) fun t12 H12 W => ?_
    · exact (fun c => ⟨rfl, rfl, ⟨_, rfl⟩, _, _, rfl, (.cons ⟨_, _, rfl⟩ .nil)⟩)
    · exact fun c => rfl
    refine W.row1 (n := "BadFallen") (f := "thing") ?_ ?_ (h.nof (by decide +kernel) (by decide +kernel)) (by show 13 ≤ 1000; decide) fun t13 H13 W => ?_
    · exact (fun c => ⟨rfl, rfl, ⟨_, rfl⟩, _, _, rfl, (.cons ⟨_, _, rfl⟩ .nil)⟩)
    · exact fun c => rfl
    refine W.row1 (n := "BadFamily") (f := "thing") ?_ ?_ (h.nof (by decide +kernel) (by decide +kernel)) (by show 14 ≤ 1000; decide) fun t14 H14 W => ?_
    · exact (fun c => ⟨rfl, rfl, ⟨_, rfl⟩, _, _, rfl, (.cons ⟨_, _, rfl⟩ .nil)⟩)
    · exact fun c => rfl
    refine W.row1 (n := "BadFaults") (f := "thing") ?_ ?_ (h.nof (by decide +kernel) (by decide +kernel)) (by show 15 ≤ 1000; decide) fun t15 H15 W => ?_
    · exact (fun c => ⟨rfl, rfl, ⟨_, rfl⟩, _, _, rfl, (.cons ⟨_, _, rfl⟩ .nil)⟩)
    · exact fun c => rfl
    refine W.row1 (n := "BadFirst") (f := "thing") ?_ ?_ (h.nof (by decide +kernel) (by decide +kernel)) (by show 16 ≤ 1000; decide) fun t16 H16 W => ?_
    · exact (fun c => ⟨rfl, rfl, ⟨_, rfl⟩, _, _, rfl, (.cons ⟨_, _, rfl⟩ .nil)⟩)
    · exact fun c => rfl
    refine W.row1 (n := "BadForm") (f := "thing") ?_ ?_ (h.nof (by decide +kernel) (by decide +kernel)) (by show 17 ≤ 1000; decide) fun t17 H17 W => ?_
    · exact (fun c => ⟨rfl, rfl, ⟨_, rfl⟩, _, _, rfl, (.cons ⟨_, _, rfl⟩ .nil)⟩)
    · exact fun c => rfl
    exact ⟨.ref q, rfl, qq q _ _ W.e W.tb W.n W.l W.out⟩
def rows_b : List Row := [("BadHistory", ["fault"]), ("BadHistoryRow", ["thing"]), ("BadInner", ["thing"]), ("BadKeeper", ["thing"]), ("BadKeepers", ["thing"]), ("BadKind", ["thing"]), ("BadLast", ["thing"]), ("BadLot", ["thing"]), ("BadLots", ["index"]), ("BadMany", ["thing"]), ("BadMost", ["thing"]), ("BadName", ["thing"]), ("BadNames", ["thing"]), ("BadNaming", ["thing"]), ("BadNumber", ["thing"]), ("BadOrder", ["thing"]), ("BadOther", ["thing"]), ("BadOtherBook", ["thing"])]
theorem scMb : FnScope ["x", "y", "z", "found"] ["x", "y", "z"] (defScope (top 88)) := ⟨rfl, rfl, rfl, by decide +kernel, rfl, by decide +kernel, by decide +kernel⟩
theorem ok_made_b (F : FnP K "_law_made_b" (top 88) f fd) (h : Hd K mg) {T : List (Addr × Str)} {Pt : Addr} (hT : ∀ c, fd.code = .ref c → TabB base mg c Pt) (hm : (Pt, ("_law_made_b.<locals>.<lambda>" : Str)) ∈ T) (hu : ∀ p ∈ T, p.1 = Pt → p.2 = "_law_made_b.<locals>.<lambda>") :
    FnOk P w K mg base CX0 3 f fd ["x", "y", "z"] (spMade K T rows_b) := by
  refine okC F scMb (fun vs H Q E h => ?_) (fun c A outer s H vs Q E hc hr hs => ?_)
  · obtain ⟨x, y, z, rfl, _⟩ := h
    rfl
  · obtain ⟨x, y, z, rfl, hTb, qq⟩ := hs
    refine ⟨_, PSs.nox (pss_cons (ps_set (i := 3) scMb.nd rfl (.inl rfl) (pe_lst pa_nil))
      (pss_cons (ps_expr (pe_bm PySem.F.plainAttrs_list PySem.F.slot_list_append PySem.F.type_list_append mt_append (pv 3) (pa_cons (pe_tup (pa_cons (pe_mkF (mk_BadHistory h) hr pass0 (by rfl) (pa_cons (pv 0) pa_nil) rfl) (pa_cons (pe_mkFK (mk_BadHistory h) hr pass0 (by rfl) (pk_cons (pv 0) pk_nil) rfl rfl) (pa_cons (pe_lamV (T := T) (hT c hc) rfl rfl hm hu rfl (by decide +kernel)) (pa_cons (pe_lst (pa_cons (pv 0) pa_nil)) pa_nil))))) pa_nil)))
      (pss_cons (ps_expr (pe_bm PySem.F.plainAttrs_list PySem.F.slot_list_append PySem.F.type_list_append mt_append (pv 3) (pa_cons (pe_tup (pa_cons (pe_mkF (mk_BadHistoryRow h) hr pass0 (by rfl) (pa_cons (pv 0) pa_nil) rfl) (pa_cons (pe_mkFK (mk_BadHistoryRow h) hr pass0 (by rfl) (pk_cons (pv 0) pk_nil) rfl rfl) (pa_cons (pe_lamV (T := T) (hT c hc) rfl rfl hm hu rfl (by decide +kernel)) (pa_cons (pe_lst (pa_cons (pv 0) pa_nil)) pa_nil))))) pa_nil)))
      (pss_cons (ps_expr (pe_bm PySem.F.plainAttrs_list PySem.F.slot_list_append PySem.F.type_list_append mt_append (pv 3) (pa_cons (pe_tup (pa_cons (pe_mkF (mk_BadInner h) hr pass0 (by rfl) (pa_cons (pv 0) pa_nil) rfl) (pa_cons (pe_mkFK (mk_BadInner h) hr pass0 (by rfl) (pk_cons (pv 0) pk_nil) rfl rfl) (pa_cons (pe_lamV (T := T) (hT c hc) rfl rfl hm hu rfl (by decide +kernel)) (pa_cons (pe_lst (pa_cons (pv 0) pa_nil)) pa_nil))))) pa_nil)))
      (pss_cons (ps_expr (pe_bm PySem.F.plainAttrs_list PySem.F.slot_list_append PySem.F.type_list_append mt_append (pv 3) (pa_cons (pe_tup (pa_cons (pe_mkF (mk_BadKeeper h) hr pass0 (by rfl) (pa_cons (pv 0) pa_nil) rfl) (pa_cons (pe_mkFK (mk_BadKeeper h) hr pass0 (by rfl) (pk_cons (pv 0) pk_nil) rfl rfl) (pa_cons (pe_lamV (T := T) (hT c hc) rfl rfl hm hu rfl (by decide +kernel)) (pa_cons (pe_lst (pa_cons (pv 0) pa_nil)) pa_nil))))) pa_nil)))
      (pss_cons (ps_expr (pe_bm PySem.F.plainAttrs_list PySem.F.slot_list_append PySem.F.type_list_append mt_append (pv 3) (pa_cons (pe_tup (pa_cons (pe_mkF (mk_BadKeepers h) hr pass0 (by rfl) (pa_cons (pv 0) pa_nil) rfl) (pa_cons (pe_mkFK (mk_BadKeepers h) hr pass0 (by rfl) (pk_cons (pv 0) pk_nil) rfl rfl) (pa_cons (pe_lamV (T := T) (hT c hc) rfl rfl hm hu rfl (by decide +kernel)) (pa_cons (pe_lst (pa_cons (pv 0) pa_nil)) pa_nil))))) pa_nil)))
      (pss_cons (ps_expr (pe_bm PySem.F.plainAttrs_list PySem.F.slot_list_append PySem.F.type_list_append mt_append (pv 3) (pa_cons (pe_tup (pa_cons (pe_mkF (mk_BadKind h) hr pass0 (by rfl) (pa_cons (pv 0) pa_nil) rfl) (pa_cons (pe_mkFK (mk_BadKind h) hr pass0 (by rfl) (pk_cons (pv 0) pk_nil) rfl rfl) (pa_cons (pe_lamV (T := T) (hT c hc) rfl rfl hm hu rfl (by decide +kernel)) (pa_cons (pe_lst (pa_cons (pv 0) pa_nil)) pa_nil))))) pa_nil)))
      (pss_cons (ps_expr (pe_bm PySem.F.plainAttrs_list PySem.F.slot_list_append PySem.F.type_list_append mt_append (pv 3) (pa_cons (pe_tup (pa_cons (pe_mkF (mk_BadLast h) hr pass0 (by rfl) (pa_cons (pv 0) pa_nil) rfl) (pa_cons (pe_mkFK (mk_BadLast h) hr pass0 (by rfl) (pk_cons (pv 0) pk_nil) rfl rfl) (pa_cons (pe_lamV (T := T) (hT c hc) rfl rfl hm hu rfl (by decide +kernel)) (pa_cons (pe_lst (pa_cons (pv 0) pa_nil)) pa_nil))))) pa_nil)))
      (pss_cons (ps_expr (pe_bm PySem.F.plainAttrs_list PySem.F.slot_list_append PySem.F.type_list_append mt_append (pv 3) (pa_cons (pe_tup (pa_cons (pe_mkF (mk_BadLot h) hr pass0 (by rfl) (pa_cons (pv 0) pa_nil) rfl) (pa_cons (pe_mkFK (mk_BadLot h) hr pass0 (by rfl) (pk_cons (pv 0) pk_nil) rfl rfl) (pa_cons (pe_lamV (T := T) (hT c hc) rfl rfl hm hu rfl (by decide +kernel)) (pa_cons (pe_lst (pa_cons (pv 0) pa_nil)) pa_nil))))) pa_nil)))
      (pss_cons (ps_expr (pe_bm PySem.F.plainAttrs_list PySem.F.slot_list_append PySem.F.type_list_append mt_append (pv 3) (pa_cons (pe_tup (pa_cons (pe_mkF (mk_BadLots h) hr pass0 (by rfl) (pa_cons (pv 0) pa_nil) rfl) (pa_cons (pe_mkFK (mk_BadLots h) hr pass0 (by rfl) (pk_cons (pv 0) pk_nil) rfl rfl) (pa_cons (pe_lamV (T := T) (hT c hc) rfl rfl hm hu rfl (by decide +kernel)) (pa_cons (pe_lst (pa_cons (pv 0) pa_nil)) pa_nil))))) pa_nil)))
      (pss_cons (ps_expr (pe_bm PySem.F.plainAttrs_list PySem.F.slot_list_append PySem.F.type_list_append mt_append (pv 3) (pa_cons (pe_tup (pa_cons (pe_mkF (mk_BadMany h) hr pass0 (by rfl) (pa_cons (pv 0) pa_nil) rfl) (pa_cons (pe_mkFK (mk_BadMany h) hr pass0 (by rfl) (pk_cons (pv 0) pk_nil) rfl rfl) (pa_cons (pe_lamV (T := T) (hT c hc) rfl rfl hm hu rfl (by decide +kernel)) (pa_cons (pe_lst (pa_cons (pv 0) pa_nil)) pa_nil))))) pa_nil)))
      (pss_cons (ps_expr (pe_bm PySem.F.plainAttrs_list PySem.F.slot_list_append PySem.F.type_list_append mt_append (pv 3) (pa_cons (pe_tup (pa_cons (pe_mkF (mk_BadMost h) hr pass0 (by rfl) (pa_cons (pv 0) pa_nil) rfl) (pa_cons (pe_mkFK (mk_BadMost h) hr pass0 (by rfl) (pk_cons (pv 0) pk_nil) rfl rfl) (pa_cons (pe_lamV (T := T) (hT c hc) rfl rfl hm hu rfl (by decide +kernel)) (pa_cons (pe_lst (pa_cons (pv 0) pa_nil)) pa_nil))))) pa_nil)))
      (pss_cons (ps_expr (pe_bm PySem.F.plainAttrs_list PySem.F.slot_list_append PySem.F.type_list_append mt_append (pv 3) (pa_cons (pe_tup (pa_cons (pe_mkF (mk_BadName h) hr pass0 (by rfl) (pa_cons (pv 0) pa_nil) rfl) (pa_cons (pe_mkFK (mk_BadName h) hr pass0 (by rfl) (pk_cons (pv 0) pk_nil) rfl rfl) (pa_cons (pe_lamV (T := T) (hT c hc) rfl rfl hm hu rfl (by decide +kernel)) (pa_cons (pe_lst (pa_cons (pv 0) pa_nil)) pa_nil))))) pa_nil)))
      (pss_cons (ps_expr (pe_bm PySem.F.plainAttrs_list PySem.F.slot_list_append PySem.F.type_list_append mt_append (pv 3) (pa_cons (pe_tup (pa_cons (pe_mkF (mk_BadNames h) hr pass0 (by rfl) (pa_cons (pv 0) pa_nil) rfl) (pa_cons (pe_mkFK (mk_BadNames h) hr pass0 (by rfl) (pk_cons (pv 0) pk_nil) rfl rfl) (pa_cons (pe_lamV (T := T) (hT c hc) rfl rfl hm hu rfl (by decide +kernel)) (pa_cons (pe_lst (pa_cons (pv 0) pa_nil)) pa_nil))))) pa_nil)))
      (pss_cons (ps_expr (pe_bm PySem.F.plainAttrs_list PySem.F.slot_list_append PySem.F.type_list_append mt_append (pv 3) (pa_cons (pe_tup (pa_cons (pe_mkF (mk_BadNaming h) hr pass0 (by rfl) (pa_cons (pv 0) pa_nil) rfl) (pa_cons (pe_mkFK (mk_BadNaming h) hr pass0 (by rfl) (pk_cons (pv 0) pk_nil) rfl rfl) (pa_cons (pe_lamV (T := T) (hT c hc) rfl rfl hm hu rfl (by decide +kernel)) (pa_cons (pe_lst (pa_cons (pv 0) pa_nil)) pa_nil))))) pa_nil)))
      (pss_cons (ps_expr (pe_bm PySem.F.plainAttrs_list PySem.F.slot_list_append PySem.F.type_list_append mt_append (pv 3) (pa_cons (pe_tup (pa_cons (pe_mkF (mk_BadNumber h) hr pass0 (by rfl) (pa_cons (pv 0) pa_nil) rfl) (pa_cons (pe_mkFK (mk_BadNumber h) hr pass0 (by rfl) (pk_cons (pv 0) pk_nil) rfl rfl) (pa_cons (pe_lamV (T := T) (hT c hc) rfl rfl hm hu rfl (by decide +kernel)) (pa_cons (pe_lst (pa_cons (pv 0) pa_nil)) pa_nil))))) pa_nil)))
      (pss_cons (ps_expr (pe_bm PySem.F.plainAttrs_list PySem.F.slot_list_append PySem.F.type_list_append mt_append (pv 3) (pa_cons (pe_tup (pa_cons (pe_mkF (mk_BadOrder h) hr pass0 (by rfl) (pa_cons (pv 0) pa_nil) rfl) (pa_cons (pe_mkFK (mk_BadOrder h) hr pass0 (by rfl) (pk_cons (pv 0) pk_nil) rfl rfl) (pa_cons (pe_lamV (T := T) (hT c hc) rfl rfl hm hu rfl (by decide +kernel)) (pa_cons (pe_lst (pa_cons (pv 0) pa_nil)) pa_nil))))) pa_nil)))
      (pss_cons (ps_expr (pe_bm PySem.F.plainAttrs_list PySem.F.slot_list_append PySem.F.type_list_append mt_append (pv 3) (pa_cons (pe_tup (pa_cons (pe_mkF (mk_BadOther h) hr pass0 (by rfl) (pa_cons (pv 0) pa_nil) rfl) (pa_cons (pe_mkFK (mk_BadOther h) hr pass0 (by rfl) (pk_cons (pv 0) pk_nil) rfl rfl) (pa_cons (pe_lamV (T := T) (hT c hc) rfl rfl hm hu rfl (by decide +kernel)) (pa_cons (pe_lst (pa_cons (pv 0) pa_nil)) pa_nil))))) pa_nil)))
      (pss_cons (ps_expr (pe_bm PySem.F.plainAttrs_list PySem.F.slot_list_append PySem.F.type_list_append mt_append (pv 3) (pa_cons (pe_tup (pa_cons (pe_mkF (mk_BadOtherBook h) hr pass0 (by rfl) (pa_cons (pv 0) pa_nil) rfl) (pa_cons (pe_mkFK (mk_BadOtherBook h) hr pass0 (by rfl) (pk_cons (pv 0) pk_nil) rfl rfl) (pa_cons (pe_lamV (T := T) (hT c hc) rfl rfl hm hu rfl (by decide +kernel)) (pa_cons (pe_lst (pa_cons (pv 0) pa_nil)) pa_nil))))) pa_nil)))
      (pss_one (ps_ret (pv 3)))))))))))))))))))))), ?_⟩
    refine ⟨Nat.zero_le _, fun q nq => ?_⟩
    have W : MW K T H (upd H q (.lst [])) q x y [] [] := ⟨ExtN.of (Ex.new nq), nq, upd_same, hTb.ext (Ex.new nq), .nil⟩
    refine W.row1 (n := "BadHistory") (f := "fault") ?_ ?_ (h.nof (by decide +kernel) (by decide +kernel)) (by show 0 ≤ 1000; decide) fun t0 H0 W => ?_
    · exact (fun c => ⟨rfl, rfl, ⟨_, rfl⟩, _, _, rfl, (.cons ⟨_, _, rfl⟩ .nil)⟩)
    · exact fun c => rfl
    refine W.row1 (n := "BadHistoryRow") (f := "thing") ?_ ?_ (h.nof (by decide +kernel) (by decide +kernel)) (by show 1 ≤ 1000; decide) fun t1 H1 W => ?_
    · exact (fun c => ⟨rfl, rfl, ⟨_, rfl⟩, _, _, rfl, (.cons ⟨_, _, rfl⟩ .nil)⟩)
    · exact fun c => rfl
    refine W.row1 (n := "BadInner") (f := "thing") ?_ ?_ (h.nof (by decide +kernel) (by decide +kernel)) (by show 2 ≤ 1000; decide) fun t2 H2 W => ?_
    · exact (fun c => ⟨rfl, rfl, ⟨_, rfl⟩, _, _, rfl, (.cons ⟨_, _, rfl⟩ .nil)⟩)
    · exact fun c => rfl
    refine W.row1 (n := "BadKeeper") (f := "thing") ?_ ?_ (h.nof (by decide +kernel) (by decide +kernel)) (by show 3 ≤ 1000; decide) fun t3 H3 W => ?_
    · exact (fun c => ⟨rfl, rfl, ⟨_, rfl⟩, _, _, rfl, (.cons ⟨_, _, rfl⟩ .nil)⟩)
    · exact fun c => rfl
    refine W.row1 (n := "BadKeepers") (f := "thing") ?_ ?_ (h.nof (by decide +kernel) (by decide +kernel)) (by show 4 ≤ 1000; decide) fun t4 H4 W => ?_
    · exact (fun c => ⟨rfl, rfl, ⟨_, rfl⟩, _, _, rfl, (.cons ⟨_, _, rfl⟩ .nil)⟩)
    · exact fun c => rfl
    refine W.row1 (n := "BadKind") (f := "thing") ?_ ?_ (h.nof (by decide +kernel) (by decide +kernel)) (by show 5 ≤ 1000; decide) fun t5 H5 W => ?_
    · exact (fun c => ⟨rfl, rfl, ⟨_, rfl⟩, _, _, rfl, (.cons ⟨_, _, rfl⟩ .nil)⟩)
    · exact fun c => rfl
    refine W.row1 (n := "BadLast") (f := "thing") ?_ ?_ (h.nof (by decide +kernel) (by decide +kernel)) (by show 6 ≤ 1000; decide) fun t6 H6 W => ?_
    · exact (fun c => ⟨rfl, rfl, ⟨_, rfl⟩, _, _, rfl, (.cons ⟨_, _, rfl⟩ .nil)⟩)
    · exact fun c => rfl
    refine W.row1 (n := "BadLot") (f := "thing") ?_ ?_ (h.nof (by decide +kernel) (by decide +kernel)) (by show 7 ≤ 1000; decide) fun t7 H7 W => ?_
    · exact (fun c => ⟨rfl, rfl, ⟨_, rfl⟩, _, _, rfl, (.cons ⟨_, _, rfl⟩ .nil)⟩)
    · exact fun c => rfl
    refine W.row1 (n := "BadLots") (f := "index") ?_ ?_ (h.nof (by decide +kernel) (by decide +kernel)) (by show 8 ≤ 1000; decide) fun t8 H8 W => ?_
    · exact (fun c => ⟨rfl, rfl, ⟨_, rfl⟩, _, _, rfl, (.cons ⟨_, _, rfl⟩ .nil)⟩)
    · exact fun c => rfl
    refine W.row1 (n := "BadMany") (f := "thing") ?_ ?_ (h.nof (by decide +kernel) (by decide +kernel)) (by show 9 ≤ 1000; decide) fun t9 H9 W => ?_
    · exact (fun c => ⟨rfl, rfl, ⟨_, rfl⟩, _, _, rfl, (.cons ⟨_, _, rfl⟩ .nil)⟩)
    · exact fun c => rfl
    refine W.row1 (n := "BadMost") (f := "thing") ?_ ?_ (h.nof (by decide +kernel) (by decide +kernel)) (by show 10 ≤ 1000; decide) fun t10 H10 W => ?_
    · exact (fun c => ⟨rfl, rfl, ⟨_, rfl⟩, _, _, rfl, (.cons ⟨_, _, rfl⟩ .nil)⟩)
    · exact fun c => rfl
    refine W.row1 (n := "BadName") (f := "thing") ?_ ?_ (h.nof (by decide +kernel) (by decide +kernel)) (by show 11 ≤ 1000; decide) fun t11 H11 W => ?_
    · exact (fun c => ⟨rfl, rfl, ⟨_, rfl⟩, _, _, rfl, (.cons ⟨_, _, rfl⟩ .nil)⟩)
    · exact fun c => rfl
    refine W.row1 (n := "BadNames") (f := "thing") ?_ ?_ (h.nof (by decide +kernel) (by decide +kernel)) (by show 12 ≤ 1000; decide) fun t12 H12 W => ?_
    · exact (fun c => ⟨rfl, rfl, ⟨_, rfl⟩, _, _, rfl, (.cons ⟨_, _, rfl⟩ .nil)⟩)
    · exact fun c => rfl
    refine W.row1 (n := "BadNaming") (f := "thing") ?_ ?_ (h.nof (by decide +kernel) (by decide +kernel)) (by show 13 ≤ 1000; decide) fun t13 H13 W => ?_
    · exact (fun c => ⟨rfl, rfl, ⟨_, rfl⟩, _, _, rfl, (.cons ⟨_, _, rfl⟩ .nil)⟩)
    · exact fun c => rfl
    refine W.row1 (n := "BadNumber") (f := "thing") ?_ ?_ (h.nof (by decide +kernel) (by decide +kernel)) (by show 14 ≤ 1000; decide) fun t14 H14 W => ?_
    · exact (fun c => ⟨rfl, rfl, ⟨_, rfl⟩, _, _, rfl, (.cons ⟨_, _, rfl⟩ .nil)⟩)
    · exact fun c => rfl
    refine W.row1 (n := "BadOrder") (f := "thing") ?_ ?_ (h.nof (by decide +kernel) (by decide +kernel)) (by show 15 ≤ 1000; decide) fun t15 H15 W => ?_
    · exact (fun c => ⟨rfl, rfl, ⟨_, rfl⟩, _, _, rfl, (.cons ⟨_, _, rfl⟩ .nil)⟩)
    · exact fun c => rfl
    refine W.row1 (n := "BadOther") (f := "thing") ?_ ?_ (h.nof (by decide +kernel) (by decide +kernel)) (by show 16 ≤ 1000; decide) fun t16 H16 W => ?_
    · exact (fun c => ⟨rfl, rfl, ⟨_, rfl⟩, _, _, rfl, (.cons ⟨_, _, rfl⟩ .nil)⟩)
    · exact fun c => rfl
    refine W.row1 (n := "BadOtherBook") (f := "thing") ?_ ?_ (h.nof (by decide +kernel) (by decide +kernel)) (by show 17 ≤ 1000; decide) fun t17 H17 W => ?_
    · exact (fun c => ⟨rfl, rfl, ⟨_, rfl⟩, _, _, rfl, (.cons ⟨_, _, rfl⟩ .nil)⟩)
    · exact fun c => rfl
    exact ⟨.ref q, rfl, qq q _ _ W.e W.tb W.n W.l W.out⟩
def rows_c : List Row := [("BadOtherCouncil", ["thing"]), ("BadOtherFamily", ["thing"]), ("BadOtherFaults", ["thing"]), ("BadOtherKeepers", ["thing"]), ("BadOtherNumber", ["thing"]), ("BadOtherRow", ["thing"]), ("BadPair", ["thing"]), ("BadProbes", ["thing"]), ("BadQuestion", ["thing"]), ("BadRate", ["thing"]), ("BadReadNumber", ["thing"]), ("BadRow", ["index"]), ("BadRows", ["thing"]), ("BadSchedule", ["fault"]), ("BadShare", ["thing"]), ("BadSlices", ["thing"]), ("BadSlow", ["thing"]), ("BadSome", ["thing"])]
theorem scMc : FnScope ["x", "y", "z", "found"] ["x", "y", "z"] (defScope (top 89)) := ⟨rfl, rfl, rfl, by decide +kernel, rfl, by decide +kernel, by decide +kernel⟩
theorem ok_made_c (F : FnP K "_law_made_c" (top 89) f fd) (h : Hd K mg) {T : List (Addr × Str)} {Pt : Addr} (hT : ∀ c, fd.code = .ref c → TabB base mg c Pt) (hm : (Pt, ("_law_made_c.<locals>.<lambda>" : Str)) ∈ T) (hu : ∀ p ∈ T, p.1 = Pt → p.2 = "_law_made_c.<locals>.<lambda>") :
    FnOk P w K mg base CX0 3 f fd ["x", "y", "z"] (spMade K T rows_c) := by
  refine okC F scMc (fun vs H Q E h => ?_) (fun c A outer s H vs Q E hc hr hs => ?_)
  · obtain ⟨x, y, z, rfl, _⟩ := h
    rfl
  · obtain ⟨x, y, z, rfl, hTb, qq⟩ := hs
    refine ⟨_, PSs.nox (pss_cons (ps_set (i := 3) scMc.nd rfl (.inl rfl) (pe_lst pa_nil))
      (pss_cons (ps_expr (pe_bm PySem.F.plainAttrs_list PySem.F.slot_list_append PySem.F.type_list_append mt_append (pv 3) (pa_cons (pe_tup (pa_cons (pe_mkF (mk_BadOtherCouncil h) hr pass0 (by rfl) (pa_cons (pv 0) pa_nil) rfl) (pa_cons (pe_mkFK (mk_BadOtherCouncil h) hr pass0 (by rfl) (pk_cons (pv 0) pk_nil) rfl rfl) (pa_cons (pe_lamV (T := T) (hT c hc) rfl rfl hm hu rfl (by decide +kernel)) (pa_cons (pe_lst (pa_cons (pv 0) pa_nil)) pa_nil))))) pa_nil)))
      (pss_cons (ps_expr (pe_bm PySem.F.plainAttrs_list PySem.F.slot_list_append PySem.F.type_list_append mt_append (pv 3) (pa_cons (pe_tup (pa_cons (pe_mkF (mk_BadOtherFamily h) hr pass0 (by rfl) (pa_cons (pv 0) pa_nil) rfl) (pa_cons (pe_mkFK (mk_BadOtherFamily h) hr pass0 (by rfl) (pk_cons (pv 0) pk_nil) rfl rfl) (pa_cons (pe_lamV (T := T) (hT c hc) rfl rfl hm hu rfl (by decide +kernel)) (pa_cons (pe_lst (pa_cons (pv 0) pa_nil)) pa_nil))))) pa_nil)))
      (pss_cons (ps_expr (pe_bm PySem.F.plainAttrs_list PySem.F.slot_list_append PySem.F.type_list_append mt_append (pv 3) (pa_cons (pe_tup (pa_cons (pe_mkF (mk_BadOtherFaults h) hr pass0 (by rfl) (pa_cons (pv 0) pa_nil) rfl) (pa_cons (pe_mkFK (mk_BadOtherFaults h) hr pass0 (by rfl) (pk_cons (pv 0) pk_nil) rfl rfl) (pa_cons (pe_lamV (T := T) (hT c hc) rfl rfl hm hu rfl (by decide +kernel)) (pa_cons (pe_lst (pa_cons (pv 0) pa_nil)) pa_nil))))) pa_nil)))
      (pss_cons (ps_expr (pe_bm PySem.F.plainAttrs_list PySem.F.slot_list_append PySem.F.type_list_append mt_append (pv 3) (pa_cons (pe_tup (pa_cons (pe_mkF (mk_BadOtherKeepers h) hr pass0 (by rfl) (pa_cons (pv 0) pa_nil) rfl) (pa_cons (pe_mkFK (mk_BadOtherKeepers h) hr pass0 (by rfl) (pk_cons (pv 0) pk_nil) rfl rfl) (pa_cons (pe_lamV (T := T) (hT c hc) rfl rfl hm hu rfl (by decide +kernel)) (pa_cons (pe_lst (pa_cons (pv 0) pa_nil)) pa_nil))))) pa_nil)))
      (pss_cons (ps_expr (pe_bm PySem.F.plainAttrs_list PySem.F.slot_list_append PySem.F.type_list_append mt_append (pv 3) (pa_cons (pe_tup (pa_cons (pe_mkF (mk_BadOtherNumber h) hr pass0 (by rfl) (pa_cons (pv 0) pa_nil) rfl) (pa_cons (pe_mkFK (mk_BadOtherNumber h) hr pass0 (by rfl) (pk_cons (pv 0) pk_nil) rfl rfl) (pa_cons (pe_lamV (T := T) (hT c hc) rfl rfl hm hu rfl (by decide +kernel)) (pa_cons (pe_lst (pa_cons (pv 0) pa_nil)) pa_nil))))) pa_nil)))
      (pss_cons (ps_expr (pe_bm PySem.F.plainAttrs_list PySem.F.slot_list_append PySem.F.type_list_append mt_append (pv 3) (pa_cons (pe_tup (pa_cons (pe_mkF (mk_BadOtherRow h) hr pass0 (by rfl) (pa_cons (pv 0) pa_nil) rfl) (pa_cons (pe_mkFK (mk_BadOtherRow h) hr pass0 (by rfl) (pk_cons (pv 0) pk_nil) rfl rfl) (pa_cons (pe_lamV (T := T) (hT c hc) rfl rfl hm hu rfl (by decide +kernel)) (pa_cons (pe_lst (pa_cons (pv 0) pa_nil)) pa_nil))))) pa_nil)))
      (pss_cons (ps_expr (pe_bm PySem.F.plainAttrs_list PySem.F.slot_list_append PySem.F.type_list_append mt_append (pv 3) (pa_cons (pe_tup (pa_cons (pe_mkF (mk_BadPair h) hr pass0 (by rfl) (pa_cons (pv 0) pa_nil) rfl) (pa_cons (pe_mkFK (mk_BadPair h) hr pass0 (by rfl) (pk_cons (pv 0) pk_nil) rfl rfl) (pa_cons (pe_lamV (T := T) (hT c hc) rfl rfl hm hu rfl (by decide +kernel)) (pa_cons (pe_lst (pa_cons (pv 0) pa_nil)) pa_nil))))) pa_nil)))
      (pss_cons (ps_expr (pe_bm PySem.F.plainAttrs_list PySem.F.slot_list_append PySem.F.type_list_append mt_append (pv 3) (pa_cons (pe_tup (pa_cons (pe_mkF (mk_BadProbes h) hr pass0 (by rfl) (pa_cons (pv 0) pa_nil) rfl) (pa_cons (pe_mkFK (mk_BadProbes h) hr pass0 (by rfl) (pk_cons (pv 0) pk_nil) rfl rfl) (pa_cons (pe_lamV (T := T) (hT c hc) rfl rfl hm hu rfl (by decide +kernel)) (pa_cons (pe_lst (pa_cons (pv 0) pa_nil)) pa_nil))))) pa_nil)))
      (pss_cons (ps_expr (pe_bm PySem.F.plainAttrs_list PySem.F.slot_list_append PySem.F.type_list_append mt_append (pv 3) (pa_cons (pe_tup (pa_cons (pe_mkF (mk_BadQuestion h) hr pass0 (by rfl) (pa_cons (pv 0) pa_nil) rfl) (pa_cons (pe_mkFK (mk_BadQuestion h) hr pass0 (by rfl) (pk_cons (pv 0) pk_nil) rfl rfl) (pa_cons (pe_lamV (T := T) (hT c hc) rfl rfl hm hu rfl (by decide +kernel)) (pa_cons (pe_lst (pa_cons (pv 0) pa_nil)) pa_nil))))) pa_nil)))
      (pss_cons (ps_expr (pe_bm PySem.F.plainAttrs_list PySem.F.slot_list_append PySem.F.type_list_append mt_append (pv 3) (pa_cons (pe_tup (pa_cons (pe_mkF (mk_BadRate h) hr pass0 (by rfl) (pa_cons (pv 0) pa_nil) rfl) (pa_cons (pe_mkFK (mk_BadRate h) hr pass0 (by rfl) (pk_cons (pv 0) pk_nil) rfl rfl) (pa_cons (pe_lamV (T := T) (hT c hc) rfl rfl hm hu rfl (by decide +kernel)) (pa_cons (pe_lst (pa_cons (pv 0) pa_nil)) pa_nil))))) pa_nil)))
      (pss_cons (ps_expr (pe_bm PySem.F.plainAttrs_list PySem.F.slot_list_append PySem.F.type_list_append mt_append (pv 3) (pa_cons (pe_tup (pa_cons (pe_mkF (mk_BadReadNumber h) hr pass0 (by rfl) (pa_cons (pv 0) pa_nil) rfl) (pa_cons (pe_mkFK (mk_BadReadNumber h) hr pass0 (by rfl) (pk_cons (pv 0) pk_nil) rfl rfl) (pa_cons (pe_lamV (T := T) (hT c hc) rfl rfl hm hu rfl (by decide +kernel)) (pa_cons (pe_lst (pa_cons (pv 0) pa_nil)) pa_nil))))) pa_nil)))
      (pss_cons (ps_expr (pe_bm PySem.F.plainAttrs_list PySem.F.slot_list_append PySem.F.type_list_append mt_append (pv 3) (pa_cons (pe_tup (pa_cons (pe_mkF (mk_BadRow h) hr pass0 (by rfl) (pa_cons (pv 0) pa_nil) rfl) (pa_cons (pe_mkFK (mk_BadRow h) hr pass0 (by rfl) (pk_cons (pv 0) pk_nil) rfl rfl) (pa_cons (pe_lamV (T := T) (hT c hc) rfl rfl hm hu rfl (by decide +kernel)) (pa_cons (pe_lst (pa_cons (pv 0) pa_nil)) pa_nil))))) pa_nil)))
      (pss_cons (ps_expr (pe_bm PySem.F.plainAttrs_list PySem.F.slot_list_append PySem.F.type_list_append mt_append (pv 3) (pa_cons (pe_tup (pa_cons (pe_mkF (mk_BadRows h) hr pass0 (by rfl) (pa_cons (pv 0) pa_nil) rfl) (pa_cons (pe_mkFK (mk_BadRows h) hr pass0 (by rfl) (pk_cons (pv 0) pk_nil) rfl rfl) (pa_cons (pe_lamV (T := T) (hT c hc) rfl rfl hm hu rfl (by decide +kernel)) (pa_cons (pe_lst (pa_cons (pv 0) pa_nil)) pa_nil))))) pa_nil)))
      (pss_cons (ps_expr (pe_bm PySem.F.plainAttrs_list PySem.F.slot_list_append PySem.F.type_list_append mt_append (pv 3) (pa_cons (pe_tup (pa_cons (pe_mkF (mk_BadSchedule h) hr pass0 (by rfl) (pa_cons (pv 0) pa_nil) rfl) (pa_cons (pe_mkFK (mk_BadSchedule h) hr pass0 (by rfl) (pk_cons (pv 0) pk_nil) rfl rfl) (pa_cons (pe_lamV (T := T) (hT c hc) rfl rfl hm hu rfl (by decide +kernel)) (pa_cons (pe_lst (pa_cons (pv 0) pa_nil)) pa_nil))))) pa_nil)))
      (pss_cons (ps_expr (pe_bm PySem.F.plainAttrs_list PySem.F.slot_list_append PySem.F.type_list_append mt_append (pv 3) (pa_cons (pe_tup (pa_cons (pe_mkF (mk_BadShare h) hr pass0 (by rfl) (pa_cons (pv 0) pa_nil) rfl) (pa_cons (pe_mkFK (mk_BadShare h) hr pass0 (by rfl) (pk_cons (pv 0) pk_nil) rfl rfl) (pa_cons (pe_lamV (T := T) (hT c hc) rfl rfl hm hu rfl (by decide +kernel)) (pa_cons (pe_lst (pa_cons (pv 0) pa_nil)) pa_nil))))) pa_nil)))
      (pss_cons (ps_expr (pe_bm PySem.F.plainAttrs_list PySem.F.slot_list_append PySem.F.type_list_append mt_append (pv 3) (pa_cons (pe_tup (pa_cons (pe_mkF (mk_BadSlices h) hr pass0 (by rfl) (pa_cons (pv 0) pa_nil) rfl) (pa_cons (pe_mkFK (mk_BadSlices h) hr pass0 (by rfl) (pk_cons (pv 0) pk_nil) rfl rfl) (pa_cons (pe_lamV (T := T) (hT c hc) rfl rfl hm hu rfl (by decide +kernel)) (pa_cons (pe_lst (pa_cons (pv 0) pa_nil)) pa_nil))))) pa_nil)))
      (pss_cons (ps_expr (pe_bm PySem.F.plainAttrs_list PySem.F.slot_list_append PySem.F.type_list_append mt_append (pv 3) (pa_cons (pe_tup (pa_cons (pe_mkF (mk_BadSlow h) hr pass0 (by rfl) (pa_cons (pv 0) pa_nil) rfl) (pa_cons (pe_mkFK (mk_BadSlow h) hr pass0 (by rfl) (pk_cons (pv 0) pk_nil) rfl rfl) (pa_cons (pe_lamV (T := T) (hT c hc) rfl rfl hm hu rfl (by decide +kernel)) (pa_cons (pe_lst (pa_cons (pv 0) pa_nil)) pa_nil))))) pa_nil)))
      (pss_cons (ps_expr (pe_bm PySem.F.plainAttrs_list PySem.F.slot_list_append PySem.F.type_list_append mt_append (pv 3) (pa_cons (pe_tup (pa_cons (pe_mkF (mk_BadSome h) hr pass0 (by rfl) (pa_cons (pv 0) pa_nil) rfl) (pa_cons (pe_mkFK (mk_BadSome h) hr pass0 (by rfl) (pk_cons (pv 0) pk_nil) rfl rfl) (pa_cons (pe_lamV (T := T) (hT c hc) rfl rfl hm hu rfl (by decide +kernel)) (pa_cons (pe_lst (pa_cons (pv 0) pa_nil)) pa_nil))))) pa_nil)))
      (pss_one (ps_ret (pv 3)))))))))))))))))))))), ?_⟩
    refine ⟨Nat.zero_le _, fun q nq => ?_⟩
    have W : MW K T H (upd H q (.lst [])) q x y [] [] := ⟨ExtN.of (Ex.new nq), nq, upd_same, hTb.ext (Ex.new nq), .nil⟩
    refine W.row1 (n := "BadOtherCouncil") (f := "thing") ?_ ?_ (h.nof (by decide +kernel) (by decide +kernel)) (by show 0 ≤ 1000; decide) fun t0 H0 W => ?_
    · exact (fun c => ⟨rfl, rfl, ⟨_, rfl⟩, _, _, rfl, (.cons ⟨_, _, rfl⟩ .nil)⟩)
    · exact fun c => rfl
    refine W.row1 (n := "BadOtherFamily") (f := "thing") ?_ ?_ (h.nof (by decide +kernel) (by decide +kernel)) (by show 1 ≤ 1000; decide) fun t1 H1 W => ?_
    · exact (fun c => ⟨rfl, rfl, ⟨_, rfl⟩, _, _, rfl, (.cons ⟨_, _, rfl⟩ .nil)⟩)
    · exact fun c => rfl
    refine W.row1 (n := "BadOtherFaults") (f := "thing") ?_ ?_ (h.nof (by decide +kernel) (by decide +kernel)) (by show 2 ≤ 1000; decide) fun t2 H2 W => ?_
    · exact (fun c => ⟨rfl, rfl, ⟨_, rfl⟩, _, _, rfl, (.cons ⟨_, _, rfl⟩ .nil)⟩)
    · exact fun c => rfl
    refine W.row1 (n := "BadOtherKeepers") (f := "thing") ?_ ?_ (h.nof (by decide +kernel) (by decide +kernel)) (by show 3 ≤ 1000; decide) fun t3 H3 W => ?_
    · exact (fun c => ⟨rfl, rfl, ⟨_, rfl⟩, _, _, rfl, (.cons ⟨_, _, rfl⟩ .nil)⟩)
    · exact fun c => rfl
    refine W.row1 (n := "BadOtherNumber") (f := "thing") ?_ ?_ (h.nof (by decide +kernel) (by decide +kernel)) (by show 4 ≤ 1000; decide) fun t4 H4 W => ?_
    · exact (fun c => ⟨rfl, rfl, ⟨_, rfl⟩, _, _, rfl, (.cons ⟨_, _, rfl⟩ .nil)⟩)
    · exact fun c => rfl
    refine W.row1 (n := "BadOtherRow") (f := "thing") ?_ ?_ (h.nof (by decide +kernel) (by decide +kernel)) (by show 5 ≤ 1000; decide) fun t5 H5 W => ?_
    · exact (fun c => ⟨rfl, rfl, ⟨_, rfl⟩, _, _, rfl, (.cons ⟨_, _, rfl⟩ .nil)⟩)
    · exact fun c => rfl
    refine W.row1 (n := "BadPair") (f := "thing") ?_ ?_ (h.nof (by decide +kernel) (by decide +kernel)) (by show 6 ≤ 1000; decide) fun t6 H6 W => ?_
    · exact (fun c => ⟨rfl, rfl, ⟨_, rfl⟩, _, _, rfl, (.cons ⟨_, _, rfl⟩ .nil)⟩)
    · exact fun c => rfl
    refine W.row1 (n := "BadProbes") (f := "thing") ?_ ?_ (h.nof (by decide +kernel) (by decide +kernel)) (by show 7 ≤ 1000; decide) fun t7 H7 W => ?_
    · exact (fun c => ⟨rfl, rfl, ⟨_, rfl⟩, _, _, rfl, (.cons ⟨_, _, rfl⟩ .nil)⟩)
    · exact fun c => rfl
    refine W.row1 (n := "BadQuestion") (f := "thing") ?_ ?_ (h.nof (by decide +kernel) (by decide +kernel)) (by show 8 ≤ 1000; decide) fun t8 H8 W => ?_
    · exact (fun c => ⟨rfl, rfl, ⟨_, rfl⟩, _, _, rfl, (.cons ⟨_, _, rfl⟩ .nil)⟩)
    · exact fun c => rfl
    refine W.row1 (n := "BadRate") (f := "thing") ?_ ?_ (h.nof (by decide +kernel) (by decide +kernel)) (by show 9 ≤ 1000; decide) fun t9 H9 W => ?_
    · exact (fun c => ⟨rfl, rfl, ⟨_, rfl⟩, _, _, rfl, (.cons ⟨_, _, rfl⟩ .nil)⟩)
    · exact fun c => rfl
    refine W.row1 (n := "BadReadNumber") (f := "thing") ?_ ?_ (h.nof (by decide +kernel) (by decide +kernel)) (by show 10 ≤ 1000; decide) fun t10 H10 W => ?_
    · exact (fun c => ⟨rfl, rfl, ⟨_, rfl⟩, _, _, rfl, (.cons ⟨_, _, rfl⟩ .nil)⟩)
    · exact fun c => rfl
    refine W.row1 (n := "BadRow") (f := "index") ?_ ?_ (h.nof (by decide +kernel) (by decide +kernel)) (by show 11 ≤ 1000; decide) fun t11 H11 W => ?_
    · exact (fun c => ⟨rfl, rfl, ⟨_, rfl⟩, _, _, rfl, (.cons ⟨_, _, rfl⟩ .nil)⟩)
    · exact fun c => rfl
    refine W.row1 (n := "BadRows") (f := "thing") ?_ ?_ (h.nof (by decide +kernel) (by decide +kernel)) (by show 12 ≤ 1000; decide) fun t12 H12 W => ?_
    · exact (fun c => ⟨rfl, rfl, ⟨_, rfl⟩, _, _, rfl, (.cons ⟨_, _, rfl⟩ .nil)⟩)
    · exact fun c => rfl
    refine W.row1 (n := "BadSchedule") (f := "fault") ?_ ?_ (h.nof (by decide +kernel) (by decide +kernel)) (by show 13 ≤ 1000; decide) fun t13 H13 W => ?_
    · exact (fun c => ⟨rfl, rfl, ⟨_, rfl⟩, _, _, rfl, (.cons ⟨_, _, rfl⟩ .nil)⟩)
    · exact fun c => rfl
    refine W.row1 (n := "BadShare") (f := "thing") ?_ ?_ (h.nof (by decide +kernel) (by decide +kernel)) (by show 14 ≤ 1000; decide) fun t14 H14 W => ?_
    · exact (fun c => ⟨rfl, rfl, ⟨_, rfl⟩, _, _, rfl, (.cons ⟨_, _, rfl⟩ .nil)⟩)
    · exact fun c => rfl
    refine W.row1 (n := "BadSlices") (f := "thing") ?_ ?_ (h.nof (by decide +kernel) (by decide +kernel)) (by show 15 ≤ 1000; decide) fun t15 H15 W => ?_
    · exact (fun c => ⟨rfl, rfl, ⟨_, rfl⟩, _, _, rfl, (.cons ⟨_, _, rfl⟩ .nil)⟩)
    · exact fun c => rfl
    refine W.row1 (n := "BadSlow") (f := "thing") ?_ ?_ (h.nof (by decide +kernel) (by decide +kernel)) (by show 16 ≤ 1000; decide) fun t16 H16 W => ?_
    · exact (fun c => ⟨rfl, rfl, ⟨_, rfl⟩, _, _, rfl, (.cons ⟨_, _, rfl⟩ .nil)⟩)
    · exact fun c => rfl
    refine W.row1 (n := "BadSome") (f := "thing") ?_ ?_ (h.nof (by decide +kernel) (by decide +kernel)) (by show 17 ≤ 1000; decide) fun t17 H17 W => ?_
    · exact (fun c => ⟨rfl, rfl, ⟨_, rfl⟩, _, _, rfl, (.cons ⟨_, _, rfl⟩ .nil)⟩)
    · exact fun c => rfl
    exact ⟨.ref q, rfl, qq q _ _ W.e W.tb W.n W.l W.out⟩
def rows_d : List Row := [("BadSpeeds", ["thing"]), ("BadStep", ["thing"]), ("BadStore", ["fault"]), ("BadStrategies", ["thing"]), ("BadStrategy", ["thing"]), ("BadText", ["line", "sign"]), ("BadTree", ["thing"]), ("BadVotes", ["thing"]), ("BadWeights", ["thing"]), ("BadWithin", ["thing"]), ("BadWriteNumber", ["thing"]), ("InUse", ["question"]), ("IsWatched", ["question"]), ("LastKeeper", []), ("ManyWriters", []), ("NoBetter", []), ("NoCount", ["thing"]), ("NoLots", [])]
theorem scMd : FnScope ["x", "y", "z", "found"] ["x", "y", "z"] (defScope (top 90)) := ⟨rfl, rfl, rfl, by decide +kernel, rfl, by decide +kernel, by decide +kernel⟩
theorem ok_made_d (F : FnP K "_law_made_d" (top 90) f fd) (h : Hd K mg) {T : List (Addr × Str)} {Pt : Addr} (hT : ∀ c, fd.code = .ref c → TabB base mg c Pt) (hm : (Pt, ("_law_made_d.<locals>.<lambda>" : Str)) ∈ T) (hu : ∀ p ∈ T, p.1 = Pt → p.2 = "_law_made_d.<locals>.<lambda>") :
    FnOk P w K mg base CX0 3 f fd ["x", "y", "z"] (spMade K T rows_d) := by
  refine okC F scMd (fun vs H Q E h => ?_) (fun c A outer s H vs Q E hc hr hs => ?_)
  · obtain ⟨x, y, z, rfl, _⟩ := h
    rfl
  · obtain ⟨x, y, z, rfl, hTb, qq⟩ := hs
    refine ⟨_, PSs.nox (pss_cons (ps_set (i := 3) scMd.nd rfl (.inl rfl) (pe_lst pa_nil))
      (pss_cons (ps_expr (pe_bm PySem.F.plainAttrs_list PySem.F.slot_list_append PySem.F.type_list_append mt_append (pv 3) (pa_cons (pe_tup (pa_cons (pe_mkF (mk_BadSpeeds h) hr pass0 (by rfl) (pa_cons (pv 0) pa_nil) rfl) (pa_cons (pe_mkFK (mk_BadSpeeds h) hr pass0 (by rfl) (pk_cons (pv 0) pk_nil) rfl rfl) (pa_cons (pe_lamV (T := T) (hT c hc) rfl rfl hm hu rfl (by decide +kernel)) (pa_cons (pe_lst (pa_cons (pv 0) pa_nil)) pa_nil))))) pa_nil)))
      (pss_cons (ps_expr (pe_bm PySem.F.plainAttrs_list PySem.F.slot_list_append PySem.F.type_list_append mt_append (pv 3) (pa_cons (pe_tup (pa_cons (pe_mkF (mk_BadStep h) hr pass0 (by rfl) (pa_cons (pv 0) pa_nil) rfl) (pa_cons (pe_mkFK (mk_BadStep h) hr pass0 (by rfl) (pk_cons (pv 0) pk_nil) rfl rfl) (pa_cons (pe_lamV (T := T) (hT c hc) rfl rfl hm hu rfl (by decide +kernel)) (pa_cons (pe_lst (pa_cons (pv 0) pa_nil)) pa_nil))))) pa_nil)))
      (pss_cons (ps_expr (pe_bm PySem.F.plainAttrs_list PySem.F.slot_list_append PySem.F.type_list_append mt_append (pv 3) (pa_cons (pe_tup (pa_cons (pe_mkF (mk_BadStore h) hr pass0 (by rfl) (pa_cons (pv 0) pa_nil) rfl) (pa_cons (pe_mkFK (mk_BadStore h) hr pass0 (by rfl) (pk_cons (pv 0) pk_nil) rfl rfl) (pa_cons (pe_lamV (T := T) (hT c hc) rfl rfl hm hu rfl (by decide +kernel)) (pa_cons (pe_lst (pa_cons (pv 0) pa_nil)) pa_nil))))) pa_nil)))
      (pss_cons (ps_expr (pe_bm PySem.F.plainAttrs_list PySem.F.slot_list_append PySem.F.type_list_append mt_append (pv 3) (pa_cons (pe_tup (pa_cons (pe_mkF (mk_BadStrategies h) hr pass0 (by rfl) (pa_cons (pv 0) pa_nil) rfl) (pa_cons (pe_mkFK (mk_BadStrategies h) hr pass0 (by rfl) (pk_cons (pv 0) pk_nil) rfl rfl) (pa_cons (pe_lamV (T := T) (hT c hc) rfl rfl hm hu rfl (by decide +kernel)) (pa_cons (pe_lst (pa_cons (pv 0) pa_nil)) pa_nil))))) pa_nil)))
      (pss_cons (ps_expr (pe_bm PySem.F.plainAttrs_list PySem.F.slot_list_append PySem.F.type_list_append mt_append (pv 3) (pa_cons (pe_tup (pa_cons (pe_mkF (mk_BadStrategy h) hr pass0 (by rfl) (pa_cons (pv 0) pa_nil) rfl) (pa_cons (pe_mkFK (mk_BadStrategy h) hr pass0 (by rfl) (pk_cons (pv 0) pk_nil) rfl rfl) (pa_cons (pe_lamV (T := T) (hT c hc) rfl rfl hm hu rfl (by decide +kernel)) (pa_cons (pe_lst (pa_cons (pv 0) pa_nil)) pa_nil))))) pa_nil)))
      (pss_cons (ps_expr (pe_bm PySem.F.plainAttrs_list PySem.F.slot_list_append PySem.F.type_list_append mt_append (pv 3) (pa_cons (pe_tup (pa_cons (pe_mkF (mk_BadText h) hr pass0 (by rfl) (pa_cons (pv 0) (pa_cons (pv 1) pa_nil)) rfl) (pa_cons (pe_mkFK (mk_BadText h) hr pass0 (by rfl) (pk_cons (pv 1) (pk_cons (pv 0) pk_nil)) rfl rfl) (pa_cons (pe_lamV (T := T) (hT c hc) rfl rfl hm hu rfl (by decide +kernel)) (pa_cons (pe_lst (pa_cons (pv 0) (pa_cons (pv 1) pa_nil))) pa_nil))))) pa_nil)))
      (pss_cons (ps_expr (pe_bm PySem.F.plainAttrs_list PySem.F.slot_list_append PySem.F.type_list_append mt_append (pv 3) (pa_cons (pe_tup (pa_cons (pe_mkF (mk_BadTree h) hr pass0 (by rfl) (pa_cons (pv 0) pa_nil) rfl) (pa_cons (pe_mkFK (mk_BadTree h) hr pass0 (by rfl) (pk_cons (pv 0) pk_nil) rfl rfl) (pa_cons (pe_lamV (T := T) (hT c hc) rfl rfl hm hu rfl (by decide +kernel)) (pa_cons (pe_lst (pa_cons (pv 0) pa_nil)) pa_nil))))) pa_nil)))
      (pss_cons (ps_expr (pe_bm PySem.F.plainAttrs_list PySem.F.slot_list_append PySem.F.type_list_append mt_append (pv 3) (pa_cons (pe_tup (pa_cons (pe_mkF (mk_BadVotes h) hr pass0 (by rfl) (pa_cons (pv 0) pa_nil) rfl) (pa_cons (pe_mkFK (mk_BadVotes h) hr pass0 (by rfl) (pk_cons (pv 0) pk_nil) rfl rfl) (pa_cons (pe_lamV (T := T) (hT c hc) rfl rfl hm hu rfl (by decide +kernel)) (pa_cons (pe_lst (pa_cons (pv 0) pa_nil)) pa_nil))))) pa_nil)))
      (pss_cons (ps_expr (pe_bm PySem.F.plainAttrs_list PySem.F.slot_list_append PySem.F.type_list_append mt_append (pv 3) (pa_cons (pe_tup (pa_cons (pe_mkF (mk_BadWeights h) hr pass0 (by rfl) (pa_cons (pv 0) pa_nil) rfl) (pa_cons (pe_mkFK (mk_BadWeights h) hr pass0 (by rfl) (pk_cons (pv 0) pk_nil) rfl rfl) (pa_cons (pe_lamV (T := T) (hT c hc) rfl rfl hm hu rfl (by decide +kernel)) (pa_cons (pe_lst (pa_cons (pv 0) pa_nil)) pa_nil))))) pa_nil)))
      (pss_cons (ps_expr (pe_bm PySem.F.plainAttrs_list PySem.F.slot_list_append PySem.F.type_list_append mt_append (pv 3) (pa_cons (pe_tup (pa_cons (pe_mkF (mk_BadWithin h) hr pass0 (by rfl) (pa_cons (pv 0) pa_nil) rfl) (pa_cons (pe_mkFK (mk_BadWithin h) hr pass0 (by rfl) (pk_cons (pv 0) pk_nil) rfl rfl) (pa_cons (pe_lamV (T := T) (hT c hc) rfl rfl hm hu rfl (by decide +kernel)) (pa_cons (pe_lst (pa_cons (pv 0) pa_nil)) pa_nil))))) pa_nil)))
      (pss_cons (ps_expr (pe_bm PySem.F.plainAttrs_list PySem.F.slot_list_append PySem.F.type_list_append mt_append (pv 3) (pa_cons (pe_tup (pa_cons (pe_mkF (mk_BadWriteNumber h) hr pass0 (by rfl) (pa_cons (pv 0) pa_nil) rfl) (pa_cons (pe_mkFK (mk_BadWriteNumber h) hr pass0 (by rfl) (pk_cons (pv 0) pk_nil) rfl rfl) (pa_cons (pe_lamV (T := T) (hT c hc) rfl rfl hm hu rfl (by decide +kernel)) (pa_cons (pe_lst (pa_cons (pv 0) pa_nil)) pa_nil))))) pa_nil)))
      (pss_cons (ps_expr (pe_bm PySem.F.plainAttrs_list PySem.F.slot_list_append PySem.F.type_list_append mt_append (pv 3) (pa_cons (pe_tup (pa_cons (pe_mkF (mk_InUse h) hr pass0 (by rfl) (pa_cons (pv 0) pa_nil) rfl) (pa_cons (pe_mkFK (mk_InUse h) hr pass0 (by rfl) (pk_cons (pv 0) pk_nil) rfl rfl) (pa_cons (pe_lamV (T := T) (hT c hc) rfl rfl hm hu rfl (by decide +kernel)) (pa_cons (pe_lst (pa_cons (pv 0) pa_nil)) pa_nil))))) pa_nil)))
      (pss_cons (ps_expr (pe_bm PySem.F.plainAttrs_list PySem.F.slot_list_append PySem.F.type_list_append mt_append (pv 3) (pa_cons (pe_tup (pa_cons (pe_mkF (mk_IsWatched h) hr pass0 (by rfl) (pa_cons (pv 0) pa_nil) rfl) (pa_cons (pe_mkFK (mk_IsWatched h) hr pass0 (by rfl) (pk_cons (pv 0) pk_nil) rfl rfl) (pa_cons (pe_lamV (T := T) (hT c hc) rfl rfl hm hu rfl (by decide +kernel)) (pa_cons (pe_lst (pa_cons (pv 0) pa_nil)) pa_nil))))) pa_nil)))
      (pss_cons (ps_expr (pe_bm PySem.F.plainAttrs_list PySem.F.slot_list_append PySem.F.type_list_append mt_append (pv 3) (pa_cons (pe_tup (pa_cons (pe_mkX0 (bmB := veTail) (h.c.cls "LastKeeper" (by decide +kernel)) (h.bare "LastKeeper" (by decide +kernel)) (by rfl) (h.c.gC "LastKeeper" (by decide +kernel))) (pa_cons (pe_mkX0 (bmB := veTail) (h.c.cls "LastKeeper" (by decide +kernel)) (h.bare "LastKeeper" (by decide +kernel)) (by rfl) (h.c.gC "LastKeeper" (by decide +kernel))) (pa_cons (pe_lamV (T := T) (hT c hc) rfl rfl hm hu rfl (by decide +kernel)) (pa_cons (pe_lst pa_nil) pa_nil))))) pa_nil)))
      (pss_cons (ps_expr (pe_bm PySem.F.plainAttrs_list PySem.F.slot_list_append PySem.F.type_list_append mt_append (pv 3) (pa_cons (pe_tup (pa_cons (pe_mkX0 (bmB := veTail) (h.c.cls "ManyWriters" (by decide +kernel)) (h.bare "ManyWriters" (by decide +kernel)) (by rfl) (h.c.gC "ManyWriters" (by decide +kernel))) (pa_cons (pe_mkX0 (bmB := veTail) (h.c.cls "ManyWriters" (by decide +kernel)) (h.bare "ManyWriters" (by decide +kernel)) (by rfl) (h.c.gC "ManyWriters" (by decide +kernel))) (pa_cons (pe_lamV (T := T) (hT c hc) rfl rfl hm hu rfl (by decide +kernel)) (pa_cons (pe_lst pa_nil) pa_nil))))) pa_nil)))
      (pss_cons (ps_expr (pe_bm PySem.F.plainAttrs_list PySem.F.slot_list_append PySem.F.type_list_append mt_append (pv 3) (pa_cons (pe_tup (pa_cons (pe_mkX0 (bmB := veTail) (h.c.cls "NoBetter" (by decide +kernel)) (h.bare "NoBetter" (by decide +kernel)) (by rfl) (h.c.gC "NoBetter" (by decide +kernel))) (pa_cons (pe_mkX0 (bmB := veTail) (h.c.cls "NoBetter" (by decide +kernel)) (h.bare "NoBetter" (by decide +kernel)) (by rfl) (h.c.gC "NoBetter" (by decide +kernel))) (pa_cons (pe_lamV (T := T) (hT c hc) rfl rfl hm hu rfl (by decide +kernel)) (pa_cons (pe_lst pa_nil) pa_nil))))) pa_nil)))
      (pss_cons (ps_expr (pe_bm PySem.F.plainAttrs_list PySem.F.slot_list_append PySem.F.type_list_append mt_append (pv 3) (pa_cons (pe_tup (pa_cons (pe_mkF (mk_NoCount h) hr pass0 (by rfl) (pa_cons (pv 0) pa_nil) rfl) (pa_cons (pe_mkFK (mk_NoCount h) hr pass0 (by rfl) (pk_cons (pv 0) pk_nil) rfl rfl) (pa_cons (pe_lamV (T := T) (hT c hc) rfl rfl hm hu rfl (by decide +kernel)) (pa_cons (pe_lst (pa_cons (pv 0) pa_nil)) pa_nil))))) pa_nil)))
      (pss_cons (ps_expr (pe_bm PySem.F.plainAttrs_list PySem.F.slot_list_append PySem.F.type_list_append mt_append (pv 3) (pa_cons (pe_tup (pa_cons (pe_mkX0 (bmB := veTail) (h.c.cls "NoLots" (by decide +kernel)) (h.bare "NoLots" (by decide +kernel)) (by rfl) (h.c.gC "NoLots" (by decide +kernel))) (pa_cons (pe_mkX0 (bmB := veTail) (h.c.cls "NoLots" (by decide +kernel)) (h.bare "NoLots" (by decide +kernel)) (by rfl) (h.c.gC "NoLots" (by decide +kernel))) (pa_cons (pe_lamV (T := T) (hT c hc) rfl rfl hm hu rfl (by decide +kernel)) (pa_cons (pe_lst pa_nil) pa_nil))))) pa_nil)))
      (pss_one (ps_ret (pv 3)))))))))))))))))))))), ?_⟩
    refine ⟨Nat.zero_le _, fun q nq => ?_⟩
    have W : MW K T H (upd H q (.lst [])) q x y [] [] := ⟨ExtN.of (Ex.new nq), nq, upd_same, hTb.ext (Ex.new nq), .nil⟩
    refine W.row1 (n := "BadSpeeds") (f := "thing") ?_ ?_ (h.nof (by decide +kernel) (by decide +kernel)) (by show 0 ≤ 1000; decide) fun t0 H0 W => ?_
    · exact (fun c => ⟨rfl, rfl, ⟨_, rfl⟩, _, _, rfl, (.cons ⟨_, _, rfl⟩ .nil)⟩)
    · exact fun c => rfl
    refine W.row1 (n := "BadStep") (f := "thing") ?_ ?_ (h.nof (by decide +kernel) (by decide +kernel)) (by show 1 ≤ 1000; decide) fun t1 H1 W => ?_
    · exact (fun c => ⟨rfl, rfl, ⟨_, rfl⟩, _, _, rfl, (.cons ⟨_, _, rfl⟩ .nil)⟩)
    · exact fun c => rfl
    refine W.row1 (n := "BadStore") (f := "fault") ?_ ?_ (h.nof (by decide +kernel) (by decide +kernel)) (by show 2 ≤ 1000; decide) fun t2 H2 W => ?_
    · exact (fun c => ⟨rfl, rfl, ⟨_, rfl⟩, _, _, rfl, (.cons ⟨_, _, rfl⟩ .nil)⟩)
    · exact fun c => rfl
    refine W.row1 (n := "BadStrategies") (f := "thing") ?_ ?_ (h.nof (by decide +kernel) (by decide +kernel)) (by show 3 ≤ 1000; decide) fun t3 H3 W => ?_
    · exact (fun c => ⟨rfl, rfl, ⟨_, rfl⟩, _, _, rfl, (.cons ⟨_, _, rfl⟩ .nil)⟩)
    · exact fun c => rfl
    refine W.row1 (n := "BadStrategy") (f := "thing") ?_ ?_ (h.nof (by decide +kernel) (by decide +kernel)) (by show 4 ≤ 1000; decide) fun t4 H4 W => ?_
    · exact (fun c => ⟨rfl, rfl, ⟨_, rfl⟩, _, _, rfl, (.cons ⟨_, _, rfl⟩ .nil)⟩)
    · exact fun c => rfl
    refine W.row2 (n := "BadText") (f := "line") (g := "sign") (by decide +kernel) ?_ ?_ (h.nof (by decide +kernel) (by decide +kernel)) (h.nof (by decide +kernel) (by decide +kernel)) (by show 5 ≤ 1000; decide) fun t5 H5 W => ?_
    · exact (fun c => ⟨rfl, rfl, ⟨_, rfl⟩, _, _, rfl, (.cons ⟨_, _, rfl⟩ (.cons ⟨_, _, rfl⟩ .nil))⟩)
    · exact fun c => rfl
    refine W.row1 (n := "BadTree") (f := "thing") ?_ ?_ (h.nof (by decide +kernel) (by decide +kernel)) (by show 6 ≤ 1000; decide) fun t6 H6 W => ?_
    · exact (fun c => ⟨rfl, rfl, ⟨_, rfl⟩, _, _, rfl, (.cons ⟨_, _, rfl⟩ .nil)⟩)
    · exact fun c => rfl
    refine W.row1 (n := "BadVotes") (f := "thing") ?_ ?_ (h.nof (by decide +kernel) (by decide +kernel)) (by show 7 ≤ 1000; decide) fun t7 H7 W => ?_
    · exact (fun c => ⟨rfl, rfl, ⟨_, rfl⟩, _, _, rfl, (.cons ⟨_, _, rfl⟩ .nil)⟩)
    · exact fun c => rfl
    refine W.row1 (n := "BadWeights") (f := "thing") ?_ ?_ (h.nof (by decide +kernel) (by decide +kernel)) (by show 8 ≤ 1000; decide) fun t8 H8 W => ?_
    · exact (fun c => ⟨rfl, rfl, ⟨_, rfl⟩, _, _, rfl, (.cons ⟨_, _, rfl⟩ .nil)⟩)
    · exact fun c => rfl
    refine W.row1 (n := "BadWithin") (f := "thing") ?_ ?_ (h.nof (by decide +kernel) (by decide +kernel)) (by show 9 ≤ 1000; decide) fun t9 H9 W => ?_
    · exact (fun c => ⟨rfl, rfl, ⟨_, rfl⟩, _, _, rfl, (.cons ⟨_, _, rfl⟩ .nil)⟩)
    · exact fun c => rfl
    refine W.row1 (n := "BadWriteNumber") (f := "thing") ?_ ?_ (h.nof (by decide +kernel) (by decide +kernel)) (by show 10 ≤ 1000; decide) fun t10 H10 W => ?_
    · exact (fun c => ⟨rfl, rfl, ⟨_, rfl⟩, _, _, rfl, (.cons ⟨_, _, rfl⟩ .nil)⟩)
    · exact fun c => rfl
    refine W.row1 (n := "InUse") (f := "question") ?_ ?_ (h.nof (by decide +kernel) (by decide +kernel)) (by show 11 ≤ 1000; decide) fun t11 H11 W => ?_
    · exact (fun c => ⟨rfl, rfl, ⟨_, rfl⟩, _, _, rfl, (.cons ⟨_, _, rfl⟩ .nil)⟩)
    · exact fun c => rfl
    refine W.row1 (n := "IsWatched") (f := "question") ?_ ?_ (h.nof (by decide +kernel) (by decide +kernel)) (by show 12 ≤ 1000; decide) fun t12 H12 W => ?_
    · exact (fun c => ⟨rfl, rfl, ⟨_, rfl⟩, _, _, rfl, (.cons ⟨_, _, rfl⟩ .nil)⟩)
    · exact fun c => rfl
    refine W.row0 (n := "LastKeeper") ?_ ?_ (by show 13 ≤ 1000; decide) fun t13 H13 W => ?_
    · exact (fun c => ⟨rfl, rfl, ⟨_, rfl⟩, _, _, rfl, .nil⟩)
    · exact fun c => rfl
    refine W.row0 (n := "ManyWriters") ?_ ?_ (by show 14 ≤ 1000; decide) fun t14 H14 W => ?_
    · exact (fun c => ⟨rfl, rfl, ⟨_, rfl⟩, _, _, rfl, .nil⟩)
    · exact fun c => rfl
    refine W.row0 (n := "NoBetter") ?_ ?_ (by show 15 ≤ 1000; decide) fun t15 H15 W => ?_
    · exact (fun c => ⟨rfl, rfl, ⟨_, rfl⟩, _, _, rfl, .nil⟩)
    · exact fun c => rfl
    refine W.row1 (n := "NoCount") (f := "thing") ?_ ?_ (h.nof (by decide +kernel) (by decide +kernel)) (by show 16 ≤ 1000; decide) fun t16 H16 W => ?_
    · exact (fun c => ⟨rfl, rfl, ⟨_, rfl⟩, _, _, rfl, (.cons ⟨_, _, rfl⟩ .nil)⟩)
    · exact fun c => rfl
    refine W.row0 (n := "NoLots") ?_ ?_ (by show 17 ≤ 1000; decide) fun t17 H17 W => ?_
    · exact (fun c => ⟨rfl, rfl, ⟨_, rfl⟩, _, _, rfl, .nil⟩)
    · exact fun c => rfl
    exact ⟨.ref q, rfl, qq q _ _ W.e W.tb W.n W.l W.out⟩
def rows_e : List Row := [("NobodyLeft", []), ("NotMeeting", ["lot", "other"]), ("NotNow", ["why"]), ("NotPart", []), ("NotSeven", ["count"]), ("NotWatched", ["question"]), ("TooFew", ["total"]), ("Unbroken", []), ("WouldChange", ["question", "why"])]
theorem scMe : FnScope ["x", "y", "z", "found"] ["x", "y", "z"] (defScope (top 91)) := ⟨rfl, rfl, rfl, by decide +kernel, rfl, by decide +kernel, by decide +kernel⟩
theorem ok_made_e (F : FnP K "_law_made_e" (top 91) f fd) (h : Hd K mg) {T : List (Addr × Str)} {Pt : Addr} (hT : ∀ c, fd.code = .ref c → TabB base mg c Pt) (hm : (Pt, ("_law_made_e.<locals>.<lambda>" : Str)) ∈ T) (hu : ∀ p ∈ T, p.1 = Pt → p.2 = "_law_made_e.<locals>.<lambda>") :
    FnOk P w K mg base CX0 3 f fd ["x", "y", "z"] (spMade K T rows_e) := by
  refine okC F scMe (fun vs H Q E h => ?_) (fun c A outer s H vs Q E hc hr hs => ?_)
  · obtain ⟨x, y, z, rfl, _⟩ := h
    rfl
  · obtain ⟨x, y, z, rfl, hTb, qq⟩ := hs
    refine ⟨_, PSs.nox (pss_cons (ps_set (i := 3) scMe.nd rfl (.inl rfl) (pe_lst pa_nil))
      (pss_cons (ps_expr (pe_bm PySem.F.plainAttrs_list PySem.F.slot_list_append PySem.F.type_list_append mt_append (pv 3) (pa_cons (pe_tup (pa_cons (pe_mkX0 (bmB := veTail) (h.c.cls "NobodyLeft" (by decide +kernel)) (h.bare "NobodyLeft" (by decide +kernel)) (by rfl) (h.c.gC "NobodyLeft" (by decide +kernel))) (pa_cons (pe_mkX0 (bmB := veTail) (h.c.cls "NobodyLeft" (by decide +kernel)) (h.bare "NobodyLeft" (by decide +kernel)) (by rfl) (h.c.gC "NobodyLeft" (by decide +kernel))) (pa_cons (pe_lamV (T := T) (hT c hc) rfl rfl hm hu rfl (by decide +kernel)) (pa_cons (pe_lst pa_nil) pa_nil))))) pa_nil)))
      (pss_cons (ps_expr (pe_bm PySem.F.plainAttrs_list PySem.F.slot_list_append PySem.F.type_list_append mt_append (pv 3) (pa_cons (pe_tup (pa_cons (pe_mkF (mk_NotMeeting h) hr pass0 (by rfl) (pa_cons (pv 0) (pa_cons (pv 1) pa_nil)) rfl) (pa_cons (pe_mkFK (mk_NotMeeting h) hr pass0 (by rfl) (pk_cons (pv 1) (pk_cons (pv 0) pk_nil)) rfl rfl) (pa_cons (pe_lamV (T := T) (hT c hc) rfl rfl hm hu rfl (by decide +kernel)) (pa_cons (pe_lst (pa_cons (pv 0) (pa_cons (pv 1) pa_nil))) pa_nil))))) pa_nil)))
      (pss_cons (ps_expr (pe_bm PySem.F.plainAttrs_list PySem.F.slot_list_append PySem.F.type_list_append mt_append (pv 3) (pa_cons (pe_tup (pa_cons (pe_mkF (mk_NotNow h) hr pass0 (by rfl) (pa_cons (pv 0) pa_nil) rfl) (pa_cons (pe_mkFK (mk_NotNow h) hr pass0 (by rfl) (pk_cons (pv 0) pk_nil) rfl rfl) (pa_cons (pe_lamV (T := T) (hT c hc) rfl rfl hm hu rfl (by decide +kernel)) (pa_cons (pe_lst (pa_cons (pv 0) pa_nil)) pa_nil))))) pa_nil)))
      (pss_cons (ps_expr (pe_bm PySem.F.plainAttrs_list PySem.F.slot_list_append PySem.F.type_list_append mt_append (pv 3) (pa_cons (pe_tup (pa_cons (pe_mkX0 (bmB := veTail) (h.c.cls "NotPart" (by decide +kernel)) (h.bare "NotPart" (by decide +kernel)) (by rfl) (h.c.gC "NotPart" (by decide +kernel))) (pa_cons (pe_mkX0 (bmB := veTail) (h.c.cls "NotPart" (by decide +kernel)) (h.bare "NotPart" (by decide +kernel)) (by rfl) (h.c.gC "NotPart" (by decide +kernel))) (pa_cons (pe_lamV (T := T) (hT c hc) rfl rfl hm hu rfl (by decide +kernel)) (pa_cons (pe_lst pa_nil) pa_nil))))) pa_nil)))
      (pss_cons (ps_expr (pe_bm PySem.F.plainAttrs_list PySem.F.slot_list_append PySem.F.type_list_append mt_append (pv 3) (pa_cons (pe_tup (pa_cons (pe_mkF (mk_NotSeven h) hr pass0 (by rfl) (pa_cons (pv 0) pa_nil) rfl) (pa_cons (pe_mkFK (mk_NotSeven h) hr pass0 (by rfl) (pk_cons (pv 0) pk_nil) rfl rfl) (pa_cons (pe_lamV (T := T) (hT c hc) rfl rfl hm hu rfl (by decide +kernel)) (pa_cons (pe_lst (pa_cons (pv 0) pa_nil)) pa_nil))))) pa_nil)))
      (pss_cons (ps_expr (pe_bm PySem.F.plainAttrs_list PySem.F.slot_list_append PySem.F.type_list_append mt_append (pv 3) (pa_cons (pe_tup (pa_cons (pe_mkF (mk_NotWatched h) hr pass0 (by rfl) (pa_cons (pv 0) pa_nil) rfl) (pa_cons (pe_mkFK (mk_NotWatched h) hr pass0 (by rfl) (pk_cons (pv 0) pk_nil) rfl rfl) (pa_cons (pe_lamV (T := T) (hT c hc) rfl rfl hm hu rfl (by decide +kernel)) (pa_cons (pe_lst (pa_cons (pv 0) pa_nil)) pa_nil))))) pa_nil)))
      (pss_cons (ps_expr (pe_bm PySem.F.plainAttrs_list PySem.F.slot_list_append PySem.F.type_list_append mt_append (pv 3) (pa_cons (pe_tup (pa_cons (pe_mkF (mk_TooFew h) hr pass0 (by rfl) (pa_cons (pv 0) pa_nil) rfl) (pa_cons (pe_mkFK (mk_TooFew h) hr pass0 (by rfl) (pk_cons (pv 0) pk_nil) rfl rfl) (pa_cons (pe_lamV (T := T) (hT c hc) rfl rfl hm hu rfl (by decide +kernel)) (pa_cons (pe_lst (pa_cons (pv 0) pa_nil)) pa_nil))))) pa_nil)))
      (pss_cons (ps_expr (pe_bm PySem.F.plainAttrs_list PySem.F.slot_list_append PySem.F.type_list_append mt_append (pv 3) (pa_cons (pe_tup (pa_cons (pe_mkX0 (bmB := veTail) (h.c.cls "Unbroken" (by decide +kernel)) (h.bare "Unbroken" (by decide +kernel)) (by rfl) (h.c.gC "Unbroken" (by decide +kernel))) (pa_cons (pe_mkX0 (bmB := veTail) (h.c.cls "Unbroken" (by decide +kernel)) (h.bare "Unbroken" (by decide +kernel)) (by rfl) (h.c.gC "Unbroken" (by decide +kernel))) (pa_cons (pe_lamV (T := T) (hT c hc) rfl rfl hm hu rfl (by decide +kernel)) (pa_cons (pe_lst pa_nil) pa_nil))))) pa_nil)))
      (pss_cons (ps_expr (pe_bm PySem.F.plainAttrs_list PySem.F.slot_list_append PySem.F.type_list_append mt_append (pv 3) (pa_cons (pe_tup (pa_cons (pe_mkF (mk_WouldChange h) hr pass0 (by rfl) (pa_cons (pv 0) (pa_cons (pv 1) pa_nil)) rfl) (pa_cons (pe_mkFK (mk_WouldChange h) hr pass0 (by rfl) (pk_cons (pv 1) (pk_cons (pv 0) pk_nil)) rfl rfl) (pa_cons (pe_lamV (T := T) (hT c hc) rfl rfl hm hu rfl (by decide +kernel)) (pa_cons (pe_lst (pa_cons (pv 0) (pa_cons (pv 1) pa_nil))) pa_nil))))) pa_nil)))
      (pss_one (ps_ret (pv 3))))))))))))), ?_⟩
    refine ⟨Nat.zero_le _, fun q nq => ?_⟩
    have W : MW K T H (upd H q (.lst [])) q x y [] [] := ⟨ExtN.of (Ex.new nq), nq, upd_same, hTb.ext (Ex.new nq), .nil⟩
    refine W.row0 (n := "NobodyLeft") ?_ ?_ (by show 0 ≤ 1000; decide) fun t0 H0 W => ?_
    · exact (fun c => ⟨rfl, rfl, ⟨_, rfl⟩, _, _, rfl, .nil⟩)
    · exact fun c => rfl
    refine W.row2 (n := "NotMeeting") (f := "lot") (g := "other") (by decide +kernel) ?_ ?_ (h.nof (by decide +kernel) (by decide +kernel)) (h.nof (by decide +kernel) (by decide +kernel)) (by show 1 ≤ 1000; decide) fun t1 H1 W => ?_
    · exact (fun c => ⟨rfl, rfl, ⟨_, rfl⟩, _, _, rfl, (.cons ⟨_, _, rfl⟩ (.cons ⟨_, _, rfl⟩ .nil))⟩)
    · exact fun c => rfl
    refine W.row1 (n := "NotNow") (f := "why") ?_ ?_ (h.nof (by decide +kernel) (by decide +kernel)) (by show 2 ≤ 1000; decide) fun t2 H2 W => ?_
    · exact (fun c => ⟨rfl, rfl, ⟨_, rfl⟩, _, _, rfl, (.cons ⟨_, _, rfl⟩ .nil)⟩)
    · exact fun c => rfl
    refine W.row0 (n := "NotPart") ?_ ?_ (by show 3 ≤ 1000; decide) fun t3 H3 W => ?_
    · exact (fun c => ⟨rfl, rfl, ⟨_, rfl⟩, _, _, rfl, .nil⟩)
    · exact fun c => rfl
    refine W.row1 (n := "NotSeven") (f := "count") ?_ ?_ (h.nof (by decide +kernel) (by decide +kernel)) (by show 4 ≤ 1000; decide) fun t4 H4 W => ?_
    · exact (fun c => ⟨rfl, rfl, ⟨_, rfl⟩, _, _, rfl, (.cons ⟨_, _, rfl⟩ .nil)⟩)
    · exact fun c => rfl
    refine W.row1 (n := "NotWatched") (f := "question") ?_ ?_ (h.nof (by decide +kernel) (by decide +kernel)) (by show 5 ≤ 1000; decide) fun t5 H5 W => ?_
    · exact (fun c => ⟨rfl, rfl, ⟨_, rfl⟩, _, _, rfl, (.cons ⟨_, _, rfl⟩ .nil)⟩)
    · exact fun c => rfl
    refine W.row1 (n := "TooFew") (f := "total") ?_ ?_ (h.nof (by decide +kernel) (by decide +kernel)) (by show 6 ≤ 1000; decide) fun t6 H6 W => ?_
    · exact (fun c => ⟨rfl, rfl, ⟨_, rfl⟩, _, _, rfl, (.cons ⟨_, _, rfl⟩ .nil)⟩)
    · exact fun c => rfl
    refine W.row0 (n := "Unbroken") ?_ ?_ (by show 7 ≤ 1000; decide) fun t7 H7 W => ?_
    · exact (fun c => ⟨rfl, rfl, ⟨_, rfl⟩, _, _, rfl, .nil⟩)
    · exact fun c => rfl
    refine W.row2 (n := "WouldChange") (f := "question") (g := "why") (by decide +kernel) ?_ ?_ (h.nof (by decide +kernel) (by decide +kernel)) (h.nof (by decide +kernel) (by decide +kernel)) (by show 8 ≤ 1000; decide) fun t8 H8 W => ?_
    · exact (fun c => ⟨rfl, rfl, ⟨_, rfl⟩, _, _, rfl, (.cons ⟨_, _, rfl⟩ (.cons ⟨_, _, rfl⟩ .nil))⟩)
    · exact fun c => rfl
    exact ⟨.ref q, rfl, qq q _ _ W.e W.tb W.n W.l W.out⟩
end
end K00
/-! text K11 -/
set_option Elab.async false
set_option linter.all false
set_option maxRecDepth 100000
set_option maxHeartbeats 4000000
/-! what the law's own statements read -/
namespace K00
open PySem PySem.Spec PyProof.Rows L2 Evl XvC PySem.HandSPX LmV LamX NdefX
def rowsAll : List Row := rows_a ++ rows_b ++ rows_c ++ (rows_d ++ rows_e)
theorem rows_names : rowsAll.map (·.1) = clsNames := by decide +kernel
theorem rows_len : rowsAll.length = 81 := by decide +kernel
theorem row_name {i : Nat} {r : Row} (h : rowsAll[i]? = some r) : clsNames[i]? = some r.1 := by
  rw [← rows_names, List.getElem?_map, h]
  rfl
theorem St.ex {H H' : Hp} {p c : Addr} {n : Int} (s : St H p c n) (e : Ex H H') : St H' p c n := by
  obtain ⟨ne, cells, rest, cnt, mix, h1, h2, h3⟩ := s
  exact ⟨ne, cells, rest, cnt, mix, e _ _ h1, e _ _ h2, h3⟩
theorem St.exN {H H' : Hp} {p c : Addr} {n : Int} (s : St H p c n) (e : ExtN H H') : St H' p c n := by
  obtain ⟨ne, cells, rest, cnt, mix, h1, h2, h3⟩ := s
  exact ⟨ne, cells, rest, cnt, mix, e _ _ h1 lst_tblN, e _ _ h2 lst_tblN, h3⟩
theorem tabs_exB {T : List (Addr × Str)} {H H' : Hp} {p c : Addr} {n : Int} (h : Tabs T H) (s : St H p c n) (e : ExB [p, c] H H') : Tabs T H' := fun q hq => by
  obtain ⟨ps, h1, h2, h3⟩ := h q hq
  obtain ⟨ne, cells, rest, cnt, mix, s1, s2, _⟩ := s
  have out : ∀ {b : Addr} {u : HO}, H b = some u → (∀ xs, u ≠ .lst xs) → b ∉ [p, c] := fun {b u} z y m => by
    rcases List.mem_cons.mp m with w | w
    · rw [w, s1] at z
      exact y _ (Option.some.inj z).symm
    · rw [List.mem_singleton.mp w, s2] at z
      exact y _ (Option.some.inj z).symm
  refine ⟨ps, e _ _ (out h1 fun xs z => by cases z) h1, h2, fun pos cv hc => ?_⟩
  obtain ⟨c', e1, e2⟩ := h3 pos cv hc
  exact ⟨c', e1, e _ _ (out e2 fun xs z => by unfold CodeO at z; cases z) e2⟩
/-- the things that are drawn from, laid aside -/
def frz (H1 H : Hp) : Hp := fun b => match H1 b with
  | none => H b
  | some _ => none
theorem frz_ex {H1 H : Hp} : Ex (frz H1 H) H := fun b o h => by
  unfold frz at h
  cases e : H1 b with
  | none =>
    rw [e] at h
    exact h
  | some u =>
    rw [e] at h
    cases h
theorem frz_at {H1 H : Hp} {b : Addr} {o : HO} (h1 : H1 b = none) (h : H b = some o) : frz H1 H b = some o := by
  unfold frz
  rw [h1]
  exact h
theorem frz_no {H1 H : Hp} {b : Addr} {o : HO} (h1 : H1 b = some o) : frz H1 H b = none := by
  unfold frz
  rw [h1]
/-- no new table -/
def Nt (H1 H : Hp) : Prop := ∀ b ps, H1 b = none → H b ≠ some (.tbl ps)
theorem Nt.refl (H : Hp) : Nt H H := fun b ps h z => by
  rw [h] at z
  cases z
theorem Nt.upd {H1 H : Hp} {a : Addr} {o : HO} (h : Nt H1 H) (n : ∀ ps, o ≠ .tbl ps) : Nt H1 (L2.upd H a o) := fun b ps hb z => by
  by_cases e : b = a
  · rw [e, upd_same] at z
    exact n ps (Option.some.inj z)
  · rw [upd_ne e] at z
    exact h b ps hb z
/-- what holds from the list of things on: Hs these things -/
structure Iv (T : List (Addr × Str)) (Hs H : Hp) (p c : Addr) (n : Int) : Prop where
  e : Ex Hs H
  np : Hs p = none
  nc : Hs c = none
  nt : ∀ b ps, Hs b ≠ some (.tbl ps)
  st : St H p c n
  tb : Tabs T H
section
variable {K : PySem.W.Frag} {T : List (Addr × Str)} {Hs H H' : Hp} {p c q : Addr} {n : Int} {x y z : V}
theorem Iv.ex (I : Iv T Hs H p c n) (e : Ex H H') : Iv T Hs H' p c n := ⟨I.e.trans e, I.np, I.nc, I.nt, I.st.ex e, I.tb.ext e⟩
theorem Iv.exN (I : Iv T Hs H p c n) (e : ExtN H H') (tb : Tabs T H') : Iv T Hs H' p c n := ⟨fun b o h => e b o (I.e b o h) fun ps z => I.nt b ps (by rw [h, z]), I.np, I.nc, I.nt, I.st.exN e, tb⟩
theorem Iv.exB {m : Int} (I : Iv T Hs H p c n) (e : ExB [p, c] H H') (s : St H' p c m) : Iv T Hs H' p c m := ⟨fun b o h => e b o (fun z => by
  rcases List.mem_cons.mp z with w | w
  · rw [w, I.np] at h
    cases h
  · rw [List.mem_singleton.mp w, I.nc] at h
    cases h) (I.e b o h), I.np, I.nc, I.nt, s, tabs_exB I.tb I.st e⟩
theorem RowAt.upd {t : Addr} {r : Row} {ys : List V} {o : HO} (h : RowAt K H x y t r) (hq : H q = some (.lst ys)) (hn : ∀ fns, argsOf fns x y ≠ ys) : RowAt K (L2.upd H q o) x y t r := by
  have ne : ∀ {b : Addr} {u : HO}, H b = some u → u ≠ .lst ys → b ≠ q := fun {b u} e n z => by
    rw [z, hq] at e
    exact n (Option.some.inj e).symm
  have k : ∀ {b : Addr} {u : HO}, H b = some u → u ≠ .lst ys → L2.upd H q o b = some u := fun {b u} e n => by
    rw [upd_ne (ne e n)]
    exact e
  have kx : ∀ {a C : Addr} {fs : List (Str × V)}, ExcAt H a C fs → ExcAt (L2.upd H q o) a C fs := fun {a C fs} e => by
    rcases e with ⟨h1, h2⟩ | ⟨d, h1, h2⟩
    · refine .inl ⟨h1, k h2 fun z => ?_⟩
      have z' : HO.ext _ = HO.lst ys := z
      cases z'
    · refine .inr ⟨d, k h1 fun z => ?_, k h2 fun z => ?_⟩
      · have z' : HO.ext _ = HO.lst ys := z
        cases z'
      · have z' : HO.ext _ = HO.lst ys := z
        cases z'
  obtain ⟨m, w, l, d, F, fs, fs', h1, h2, h3, h4, h5, h6, h7, h8, h9⟩ := h
  refine ⟨m, w, l, d, F, fs, fs', k h1 (fun z => by cases z), kx h2, kx h3, h4, h5, k h6 fun z => ?_, k h7 fun z => ?_, h8, k h9 fun z => hn _ (HO.lst.inj z)⟩
  · unfold LamO at z
    cases z
  · unfold CodeO at z
    cases z
theorem args_len (fns : List Str) (x y : V) : (argsOf fns x y).length ≤ 2 := by
  unfold argsOf
  rw [List.length_take]
  show min _ 2 ≤ 2
  omega
/-! ### the two statements that make all rows -/
def tMade (K : PySem.W.Frag) (T : List (Addr × Str)) (rs : List Row) (i j k : Nat) : TE := tCall (spMade K T rs) [] E0 (tCons (tVar i) (tCons (tVar j) (tCons (tVar k) tNil)))
def tMkA (K : PySem.W.Frag) (T : List (Addr × Str)) (i j k : Nat) : TS := tAsg (tOp rCat (tOp rCat (tMade K T rows_a i j k) (tMade K T rows_b i j k)) (tMade K T rows_c i j k)) (gName 7)
def tMkB (K : PySem.W.Frag) (T : List (Addr × Str)) (i j k : Nat) : TS := tDrop (tBM K "list" rExtend (tVar 7) (tCons (tOp rCat (tMade K T rows_d i j k) (tMade K T rows_e i j k)) tNil))
theorem rd_made {rs : List Row} {i j k : Nat} {σ : L2.St} {Q : VK} (h1 : σ[i]? = some (some x)) (h2 : σ[j]? = some (some y)) (h3 : σ[k]? = some (some z)) (tb : Tabs T H)
    (next : ∀ q H' ts, ExtN H H' → Tabs T H' → H q = none → H' q = some (.lst (ts.map V.ref)) → Paired (fun (t : Addr) (r : Row) => RowAt K H' x y t r) ts rs → Q (.ref q) H') : tMade K T rs i j k σ H Q :=
  ⟨x, h1, y, h2, z, h3, x, y, z, rfl, tb, next⟩
theorem Paired.len {α β : Type} {F : α → β → Prop} : ∀ {l : List α} {m : List β}, Paired F l m → l.length = m.length
  | _, _, .nil => rfl
  | _, _, .cons _ r => by rw [List.length_cons, List.length_cons, Paired.len r]
theorem rd_rows {i j k : Nat} {σ : L2.St} {D : Ends} {rest : TS} (h1 : σ[i]? = some (some x)) (h2 : σ[j]? = some (some y)) (h3 : σ[k]? = some (some z)) (l7 : 7 < σ.length) (n1 : i ≠ 7) (n2 : j ≠ 7) (n3 : k ≠ 7) (tb : Tabs T H)
    (next : ∀ q H' ts, ExtN H H' → Tabs T H' → H' q = some (.lst (ts.map V.ref)) → Paired (fun (t : Addr) (r : Row) => RowAt K H' x y t r) ts rowsAll → rest D (σ.set 7 (some (.ref q))) H') :
    tSeq (tMkA K T i j k) (tSeq (tMkB K T i j k) rest) D σ H := by
  have xt : ∀ {A B : Hp} {t : Addr} {r : Row}, ExtN A B → RowAt K A x y t r → RowAt K B x y t r := fun e h => h.ext e
  refine rd_made h1 h2 h3 tb fun qa Ha ta ea ba na la ra => ?_
  refine rd_made h1 h2 h3 ba fun qb Hb tb' eb bb nb lb rb => ?_
  have ra := Paired.imp (fun _ _ => xt eb) ra
  have la := eb _ _ la lst_tblN
  have lena := Paired.len ra
  have lenb := Paired.len rb
  refine ⟨qa, qb, _, _, rfl, rfl, la, lb, by rw [List.length_map, List.length_map, lena, lenb]; decide, fun p1 m1 => ?_⟩
  have e1 : ExtN Hb (L2.upd Hb p1 (.lst (ta.map V.ref ++ tb'.map V.ref))) := ExtN.of (Ex.new m1)
  have b1 : Tabs T (L2.upd Hb p1 (.lst (ta.map V.ref ++ tb'.map V.ref))) := bb.ext (Ex.new m1)
  have ra := Paired.imp (fun _ _ => xt e1) ra
  have rb := Paired.imp (fun _ _ => xt e1) rb
  refine rd_made h1 h2 h3 b1 fun qc Hc tc ec bc nc lc rc => ?_
  have ra := Paired.imp (fun _ _ => xt ec) ra
  have rb := Paired.imp (fun _ _ => xt ec) rb
  have lenc := Paired.len rc
  have l1 := ec _ _ (upd_same (H := Hb) (a := p1) (o := .lst (ta.map V.ref ++ tb'.map V.ref))) lst_tblN
  refine ⟨p1, qc, _, _, rfl, rfl, l1, lc, by rw [List.length_append, List.length_map, List.length_map, List.length_map, lena, lenb, lenc]; decide, fun p2 m2 => ?_⟩
  have e2 : ExtN Hc (L2.upd Hc p2 (.lst (ta.map V.ref ++ tb'.map V.ref ++ tc.map V.ref))) := ExtN.of (Ex.new m2)
  have b2 : Tabs T (L2.upd Hc p2 (.lst (ta.map V.ref ++ tb'.map V.ref ++ tc.map V.ref))) := bc.ext (Ex.new m2)
  have r1 : Paired (fun (t : Addr) (r : Row) => RowAt K (L2.upd Hc p2 (.lst (ta.map V.ref ++ tb'.map V.ref ++ tc.map V.ref))) x y t r) (ta ++ tb' ++ tc) (rows_a ++ rows_b ++ rows_c) := Paired.imp (fun _ _ => xt e2) (Paired.app (Paired.app ra rb) rc)
  have eH : ExtN H (L2.upd Hc p2 (.lst (ta.map V.ref ++ tb'.map V.ref ++ tc.map V.ref))) := ((ea.trans eb).trans (e1.trans ec)).trans e2
  have s7 : ∀ {u : Nat} {v : V}, σ[u]? = some (some v) → u ≠ 7 → (σ.set 7 (some (.ref p2)))[u]? = some (some v) := fun {u v} a n => by
    rw [List.getElem?_set_ne n.symm]
    exact a
  have eq2 : (σ.set 7 (some (V.ref p2)))[7]? = some (some (V.ref p2)) := by rw [List.getElem?_set_self l7]
  refine ⟨.ref p2, eq2, .inl ⟨rfl, _, sq_of upd_same⟩, ?_⟩
  refine rd_made (s7 h1 n1) (s7 h2 n2) (s7 h3 n3) b2 fun qd Hd td ed bd nd ld rd => ?_
  refine rd_made (s7 h1 n1) (s7 h2 n2) (s7 h3 n3) bd fun qe He te ee be ne le re => ?_
  have rd := Paired.imp (fun _ _ => xt ee) rd
  have ld := ee _ _ ld lst_tblN
  have lend := Paired.len rd
  have lene := Paired.len re
  refine ⟨qd, qe, _, _, rfl, rfl, ld, le, by rw [List.length_map, List.length_map, lend, lene]; decide, fun p3 m3 => ?_⟩
  have e3 : ExtN He (L2.upd He p3 (.lst (td.map V.ref ++ te.map V.ref))) := ExtN.of (Ex.new m3)
  have b3 : Tabs T (L2.upd He p3 (.lst (td.map V.ref ++ te.map V.ref))) := be.ext (Ex.new m3)
  have e4 := (ed.trans ee).trans e3
  have l4 := e4 _ _ (upd_same (H := Hc) (a := p2) (o := .lst (ta.map V.ref ++ tb'.map V.ref ++ tc.map V.ref))) lst_tblN
  have ra4 := Paired.app (Paired.imp (fun _ _ => xt e4) r1) (Paired.app (Paired.imp (fun _ _ => xt e3) rd) (Paired.imp (fun _ _ => xt e3) re))
  have big : ∀ fns, argsOf fns x y ≠ ta.map V.ref ++ tb'.map V.ref ++ tc.map V.ref := fun fns z => by
    have h := args_len fns x y
    rw [z, List.length_append, List.length_append, List.length_map, List.length_map, List.length_map, lena, lenb, lenc] at h
    exact absurd h (by decide)
  refine ⟨p2, p3, _, _, rfl, rfl, l4, upd_same, by rw [List.length_append, List.length_append, List.length_append, List.length_map, List.length_map, List.length_map, List.length_map, List.length_map, lena, lenb, lenc, lend, lene]; decide, ?_⟩
  refine next p2 _ (ta ++ tb' ++ tc ++ (td ++ te)) (fun b o h n => ?_) (tabs_upd b3 l4) ?_ (Paired.imp (fun _ _ h => h.upd l4 big) ra4)
  · have hc := ((ea.trans eb).trans (e1.trans ec)) b o h n
    rw [upd_ne (ne_of_none hc m2)]
    exact (eH.trans e4) b o h n
  · rw [upd_same, List.map_append, List.map_append, List.map_append, List.map_append]
end
end K00
/-! text K12 -/
set_option Elab.async false
set_option linter.all false
set_option maxRecDepth 100000
set_option maxHeartbeats 4000000
/-! each row looked at -/
namespace K00
open PySem PySem.Spec PyProof.Rows L2 Evl XvC PySem.HandSPX LmV LamX NdefX
/-- what a row's lambda promises -/
def spRow (K : PySem.W.Frag) (F : LF) : Sp := fun vs H Q E => ∃ fns, LamRow F fns ∧ spLam K fns vs H Q E
def SL (K : PySem.W.Frag) : LF → Option Sp := fun F => some (spRow K F)
def tThese (K : PySem.W.Frag) (j : Nat) : TT := tB (tCall (spS 5) [] E0 (tCons (tCallLam 11 (SL K) E0 (tCons (tVar j) tNil)) (tCons (tVar 12) tNil)))
def tOwn (K : PySem.W.Frag) (j : Nat) : TT := tB (tCall (spOwn K) [] E0 (tCons (tVar j) (tCons (tVar 8) tNil)))
def tFalse : TS := tRet (tC (.bl false))
def stThese (K : PySem.W.Frag) : TS := tIfS (tOr (tNot (tThese K 9)) (tNot (tThese K 10))) tFalse tNext
def stOwn (K : PySem.W.Frag) : TS := tIfS (tOr (tNot (tOwn K 9)) (tNot (tOwn K 10))) tFalse tNext
section
variable {P : Program} {w : World} {K : PySem.W.Frag} {mg : Str → Option Value} {base : Heap} {f : Addr} {fd : FuncData} {H : Hp} {σ : L2.St} {D : Ends}
theorem sl_ok : ∀ (F : LF) (sp : Sp), SL K F = some sp → LOk P w K mg base CX0 1 F ["e"] sp := fun F sp h => by
  have e := Option.some.inj h
  subst e
  refine ⟨fun vs H Q E z => ?_, fun f A outer s H us vs Q E hr e0 hf hc r z => ?_⟩
  · obtain ⟨fns, _, a, C, fs, us, rfl, _⟩ := z
    rfl
  · obtain ⟨fns, L, z⟩ := z
    exact (lam_ok L).run f A outer s H us vs Q E hr e0 hf hc r z
theorem scThese : FnScope ["found", "due"] ["found", "due"] (defScope (top 100)) := ⟨rfl, rfl, rfl, by decide +kernel, rfl, by decide +kernel, by decide +kernel⟩
theorem ok_these (F : FnP K "_law_are_these" (top 100) f fd) {fs : Addr} {fds : FuncData} (FS : FnP K "_law_same" (top 99) fs fds) (gs : mg "_law_same" = some (.ref fs)) (B : Bn mg) : FnOk P w K mg base CX0 6 f fd ["found", "due"] (spS 5) := by
  have G := ok_same (P := P) (w := w) (base := base) FS gs B 5
  have bS : Binds K fds ["found", "due"] [] := FS.bindsN fun _ _ _ _ _ _ us hl => match us, hl with | [_, _], _ => rfl
  refine F.ok scThese (fun vs H Q E h => ?_) (fun cdv A outer s H vs Q E hr h => ?_)
  · obtain ⟨v, u, rfl, _⟩ := h
    rfl
  · obtain ⟨v, u, rfl, hT, qq⟩ := h
    refine ⟨_, PSs.nox (pss_one (ps_ret (pe_call G hr (by rfl) gs FS.kp bS .nil pass0 (pa_cons (pv 0) (pa_cons (pv 1) pa_nil))))), ?_⟩
    exact ⟨v, rfl, u, rfl, v, u, rfl, hT, qq⟩
theorem rd_these1 {m l d : Addr} {F : LF} {n : Str} {fns : List Str} {fs : List (Str × V)} {x y : V} {j : Nat} {Q : Bool → Hp → Prop} (h9 : σ[j]? = some (some (.ref m))) (h11 : σ[11]? = some (some (.ref l))) (h12 : σ[12]? = some (some (.ref d)))
    (hx : ∃ mr, Xc K (He.ga K n) mr) (hE : ExcAt H m (He.ga K n) fs) (hp : Paired (fun (f : Str) (u : V) => PySem.W.findIn K (.ref (He.ga K n)) f = some none ∧ fs.lookup f = some u) fns (argsOf fns x y)) (hl : H l = some (LamO l F)) (hc : H F.c = some (CodeO F.c F.qual)) (L : LamRow F fns)
    (hd : H d = some (.lst (argsOf fns x y))) (tx : Tw H 4 x x) (ty : Tw H 4 y y) (next : ∀ H', Ex H H' → Q true H') : tThese K j σ H Q := by
  have lim := args_len fns x y
  refine ⟨l, F, _, h11, rfl, hl, .ref m, h9, hl, hc, fns, L, m, _, fs, _, rfl, hE, hx, hp, by omega, fun H1 r e1 nr lr => ?_⟩
  refine ⟨.ref d, h12, .ref r, .ref d, rfl, ?_, fun H2 e2 => ⟨true, rfl, next _ (e1.trans e2)⟩⟩
  refine .inr (.inl ⟨r, d, _, _, rfl, rfl, lr, e1 _ _ hd, by omega, ?_⟩)
  have tx1 : Tw H1 4 x x := tx.ext e1
  have ty1 : Tw H1 4 y y := ty.ext e1
  unfold argsOf
  match fns with
  | [] => exact .nil
  | [_] => exact .cons tx1 .nil
  | _ :: _ :: _ => exact .cons tx1 (.cons ty1 (by
      rw [List.take_nil]
      exact .nil))
theorem rd_these {t : Addr} {r : Row} {x y : V} {m wi l d : Addr} (R : RowAt K H x y t r) (hT : H t = some (.tup [.ref m, .ref wi, .ref l, .ref d])) (h9 : σ[9]? = some (some (.ref m))) (h10 : σ[10]? = some (some (.ref wi))) (h11 : σ[11]? = some (some (.ref l))) (h12 : σ[12]? = some (some (.ref d)))
    (hx : ∃ mr, Xc K (He.ga K r.1) mr) (tx : Tw H 4 x x) (ty : Tw H 4 y y) (next : ∀ H', Ex H H' → D.nx σ H') : stThese K D σ H := by
  obtain ⟨m', w', l', d', F, fs, fs', h1, h2, h3, h4, h5, h6, h7, h8, h9'⟩ := R
  have e := HO.tup.inj (Option.some.inj (h1.symm.trans hT))
  simp only [List.cons.injEq, V.ref.injEq, and_true] at e
  obtain ⟨rfl, rfl, rfl, rfl⟩ := e
  refine rd_these1 h9 h11 h12 hx h2 h4 h6 h7 h8 h9' tx ty fun H1 e1 => ?_
  refine rd_these1 h10 h11 h12 hx (h3.ext e1) h5 (e1 _ _ h6) (e1 _ _ h7) h8 (e1 _ _ h9') (tx.ext e1) (ty.ext e1) fun H2 e2 => ?_
  exact next H2 (e1.trans e2)
theorem rd_own {t : Addr} {r : Row} {x y : V} {m wi l d : Addr} {i : Nat} (R : RowAt K H x y t r) (hT : H t = some (.tup [.ref m, .ref wi, .ref l, .ref d])) (h9 : σ[9]? = some (some (.ref m))) (h10 : σ[10]? = some (some (.ref wi))) (h8 : σ[8]? = some (some (.int (i : Int)))) (hi : rowsAll[i]? = some r)
    (next : ∀ H', Ex H H' → D.nx σ H') : stOwn K D σ H := by
  obtain ⟨m', w', l', d', F, fs, fs', h1, h2, h3, h4, h5, h6, h7, h8', h9'⟩ := R
  have e := HO.tup.inj (Option.some.inj (h1.symm.trans hT))
  simp only [List.cons.injEq, V.ref.injEq, and_true] at e
  obtain ⟨rfl, rfl, rfl, rfl⟩ := e
  have hn := row_name hi
  have hm : r.1 ∈ clsNames := List.mem_of_getElem? hn
  refine ⟨.ref _, h9, _, h8, _, r.1, i, rfl, ⟨_, _, h2, hm, rfl⟩, hn, fun H1 e1 => ⟨true, rfl, ?_⟩⟩
  refine ⟨.ref _, h10, _, h8, _, r.1, i, rfl, ⟨_, _, h3.ext e1, hm, rfl⟩, hn, fun H2 e2 => ⟨true, rfl, ?_⟩⟩
  exact next H2 (e1.trans e2)
end
end K00
/-! text K13 -/
set_option Elab.async false
set_option linter.all false
set_option maxRecDepth 100000
set_option maxHeartbeats 4000000
/-! the things that are drawn from -/
namespace K00
open PySem PySem.Spec PyProof.Rows L2 Evl XvC PySem.HandSPX LmV LamX NdefX
def tThings : TE := tLst (tCons (tC .non) (tCons (tC (.int 5)) (tCons (tUn (rU fun i => .int (-i)) (tC (.int 1))) (tCons (tC (.bl true)) (tCons (tC (.str "a")) (tCons (tC (.str "")) (tCons (tLst (tCons (tC (.int 1)) (tCons (tC (.str "b")) tNil)))
  (tCons (tTup (tCons (tC (.int 2)) (tCons (tC .non) tNil))) (tCons (tDisp [(tC (.str "a"), tC (.int 1))]) (tCons (tLst (tCons (tLst (tCons (tC (.str "x")) tNil)) tNil)) (tCons (tOp (rI CPow fun i j => .int (i ^ j.toNat)) (tC (.int 10)) (tC (.int 30)))
  (tCons (tTup (tCons (tC (.str "s")) (tCons (tC (.int 3)) tNil))) (tCons (tC (.bl false)) (tCons (tC (.int 0)) (tCons (tC (.int 1)) tNil)))))))))))))))
theorem tw_atom {H : Hp} {d : Nat} {v : V} (h : atomV v = true) : Tw H (d + 1) v v := .inl ⟨rfl, h⟩
theorem tw_lst {H : Hp} {d : Nat} {a : Addr} {xs : List V} (h : H a = some (.lst xs)) (l : xs.length ≤ 1000) (p : Paired (Tw H d) xs xs) : Tw H (d + 1) (.ref a) (.ref a) := .inr (.inl ⟨a, a, xs, xs, rfl, rfl, h, h, l, p⟩)
theorem tw_tup {H : Hp} {d : Nat} {a : Addr} {xs : List V} (h : H a = some (.tup xs)) (l : xs.length ≤ 1000) (p : Paired (Tw H d) xs xs) : Tw H (d + 1) (.ref a) (.ref a) := .inr (.inr (.inl ⟨a, a, xs, xs, rfl, rfl, h, h, l, p⟩))
theorem rd_things {σ : L2.St} {H : Hp} {Q : VK} (next : ∀ q H' xs, Ex H H' → Nt H H' → H q = none → H' q = some (.lst xs) → xs.length = 15 → (∀ v ∈ xs, Tw (frz H H') 4 v v) → Q (.ref q) H') : tThings σ H Q := by
  refine ⟨1, rfl, by show 2 ≤ sizeLine; decide, fun a1 n1 => ⟨by show 2 ≤ sizeLine; decide, fun a2 n2 => fun a3 n3 => ⟨upd_same, [(.inr "a", .int 1)], rfl, by decide, by show 1 ≤ sizeLine; decide, fun a4 n4 => ⟨by show 1 ≤ sizeLine; decide, fun a5 n5 => ?_⟩⟩⟩⟩
  refine ⟨10, 30, rfl, rfl, ⟨by decide, by decide, by decide⟩, by show 2 ≤ sizeLine; decide, fun a6 n6 => ⟨by show 15 ≤ sizeLine; decide, fun q nq => ?_⟩⟩
  have e1 := Ex.new (o := .lst [.int 1, .str "b"]) n1
  have e2 := e1.trans (Ex.new (o := .tup [.int 2, .non]) n2)
  have e3 := (e2.trans (Ex.new (o := .dK []) n3)).mut (o := .dK (mergeK [] [(.inr "a", .int 1)])) (fresh_back e2 n3)
  have e4 := e3.trans (Ex.new (o := .lst [.str "x"]) n4)
  have e5 := e4.trans (Ex.new (o := .lst [.ref a4]) n5)
  have e6 := e5.trans (Ex.new (o := .tup [.str "s", .int 3]) n6)
  have e7 := e6.trans (Ex.new (o := .lst [.non, .int 5, .int (-1), .bl true, .str "a", .str "", .ref a1, .ref a2, .ref a3, .ref a5, .int (10 ^ (30 : Int).toNat), .ref a6, .bl false, .int 0, .int 1]) nq)
  have x7 := Ex.new (o := .lst [.non, .int 5, .int (-1), .bl true, .str "a", .str "", .ref a1, .ref a2, .ref a3, .ref a5, .int (10 ^ (30 : Int).toNat), .ref a6, .bl false, .int 0, .int 1]) nq
  have x6 := (Ex.new (o := .tup [.str "s", .int 3]) n6).trans x7
  have x5 := (Ex.new (o := .lst [.ref a4]) n5).trans x6
  have x4 := (Ex.new (o := .lst [.str "x"]) n4).trans x5
  have x3 : Ex (upd (upd H a1 (.lst [.int 1, .str "b"])) a2 (.tup [.int 2, .non])) _ := ((Ex.new (o := .dK []) n3).mut (o := .dK (mergeK [] [(.inr "a", .int 1)])) n3).trans x4
  have x2 := (Ex.new (o := .tup [.int 2, .non]) n2).trans x3
  have f1 := frz_at n1 (x2 _ _ upd_same)
  have f2 := frz_at (fresh_back e1 n2) (x3 _ _ upd_same)
  have f3 := frz_at (fresh_back e2 n3) (x4 _ _ upd_same)
  have f4 := frz_at (fresh_back e3 n4) (x5 _ _ upd_same)
  have f5 := frz_at (fresh_back e4 n5) (x6 _ _ upd_same)
  have f6 := frz_at (fresh_back e5 n6) (x7 _ _ upd_same)
  refine next q _ _ e7 ?_ (fresh_back e6 nq) upd_same rfl fun v hv => ?_
  · exact (((((((Nt.refl H).upd lst_tblN).upd tup_tblN).upd (fun ps z => by cases z)).upd (fun ps z => by cases z)).upd lst_tblN).upd lst_tblN).upd tup_tblN |>.upd lst_tblN
  · simp only [List.mem_cons, List.not_mem_nil, or_false] at hv
    rcases hv with rfl | rfl | rfl | rfl | rfl | rfl | rfl | rfl | rfl | rfl | rfl | rfl | rfl | rfl | rfl
    · exact tw_atom rfl
    · exact tw_atom rfl
    · exact tw_atom rfl
    · exact tw_atom rfl
    · exact tw_atom rfl
    · exact tw_atom rfl
    · exact tw_lst f1 (by show 2 ≤ 1000; decide) (.cons (tw_atom rfl) (.cons (tw_atom rfl) .nil))
    · exact tw_tup f2 (by show 2 ≤ 1000; decide) (.cons (tw_atom rfl) (.cons (tw_atom rfl) .nil))
    · exact .inr (.inr (.inr ⟨a3, a3, _, rfl, rfl, f3, f3, by show 1 ≤ 1000; decide, by decide, fun p hp => by
        have e : p = ((.inr "a" : Key), V.int 1) := List.mem_singleton.mp hp
        rw [e]
        rfl⟩))
    · exact tw_lst f5 (by show 1 ≤ 1000; decide) (.cons (tw_lst f4 (by show 1 ≤ 1000; decide) (.cons (tw_atom rfl) .nil)) .nil)
    · exact tw_atom rfl
    · exact tw_tup f6 (by show 2 ≤ 1000; decide) (.cons (tw_atom rfl) (.cons (tw_atom rfl) .nil))
    · exact tw_atom rfl
    · exact tw_atom rfl
    · exact tw_atom rfl
end K00
/-! text K14 -/
set_option Elab.async false
set_option linter.all false
set_option maxRecDepth 100000
set_option maxHeartbeats 4000000
/-! the law's readings -/
namespace K00
open PySem PySem.Spec PyProof.Rows L2 Evl XvC PySem.HandSPX LmV LamX NdefX
def g4 (K : PySem.W.Frag) : TG := gTup K 4 (gCons (gName 9) (gCons (gName 10) (gCons (gName 11) (gCons (gName 12) gNil))))
def tRows1 (K : PySem.W.Frag) : TS := tFor (iEnum K (tCons (tVar 7) tNil)) (gTup K 2 (gCons (gName 8) (gCons (g4 K) gNil))) (tSeq (stOwn K) (stThese K))
def tTurn (K : PySem.W.Frag) (T : List (Addr × Str)) : TS := tSeq (tAsg (tSl (rSlL K) (tCall (spMixed K) [] E0 (tCons (tVar 1) (tCons (tVar 2) tNil))) tNoPart (tPart (tC (.int 3)))) (gUnl K 3 (gCons (gName 4) (gCons (gName 5) (gCons (gName 6) gNil))))) (tSeq (tMkA K T 4 5 6) (tSeq (tMkB K T 4 5 6) (tRows1 K)))
def tBase (K : PySem.W.Frag) : TE := fun _ H Q => ∀ a, H a = none → Q (.ref a) (upd H a (exo a (He.ga K "LotError") none))
def tEnd (K : PySem.W.Frag) : TS := tSeq (tAsg (tBase K) (gName 14)) (tRet (tAndV (tCB (rIsX K) (tCons (tVar 14) (tCons (tC (.ty "ValueError")) tNil))) (tOp (rIn K true) (tC (.bl true)) (tCall (spKinds K clsNames) [] E0 (tCons (tVar 14) tNil)))))
def tLast (K : PySem.W.Frag) : TS := tSeq (tDrop (tBM K "list" rAppend (tVar 13) (tCons (tC (.str "w")) tNil))) (tSeq (tFor (iList K (tVar 7)) (g4 K) (stThese K)) (tEnd K))
def tHeld (K : PySem.W.Frag) (T : List (Addr × Str)) : TS := tSeq (tAsg (tLst (tCons (tC (.str "v")) tNil)) (gName 13)) (tSeq (tMkA K T 13 13 13) (tSeq (tMkB K T 13 13 13) (tLast K)))
def tLaw (K : PySem.W.Frag) (T : List (Addr × Str)) : TS := tSeq (tAsg (tCall (spStart K) [] E0 (tCons (tVar 0) tNil)) (gName 1)) (tSeq (tAsg tThings (gName 2)) (tSeq (tFor (iRng1 (tCons (tC (.int 2)) tNil)) (gName 3) (tTurn K T)) (tHeld K T)))
theorem cut3 (a b c : V) (r : List V) : cutV (a :: b :: c :: r) none (some 3) = [a, b, c] := by
  unfold cutV HT.sIx
  have h : min 3 (r.length + 1 + 1 + 1) = 3 := by omega
  simp [h]
section
variable {K : PySem.W.Frag} {mg : Str → Option Value} {T : List (Addr × Str)} {H : Hp} {D : Ends} {x y : V} {t : Addr} {r : Row}
theorem rd_g4 {σ : L2.St} {Q : L2.St → Hp → Prop} {m wi l d : Addr} (hT : H t = some (.tup [.ref m, .ref wi, .ref l, .ref d])) (next : Q ((((σ.set 9 (some (.ref m))).set 10 (some (.ref wi))).set 11 (some (.ref l))).set 12 (some (.ref d))) H) : g4 K (.ref t) σ H Q :=
  ⟨t, _, rfl, st_of hT, rfl, _, _, rfl, _, _, rfl, _, _, rfl, _, _, rfl, rfl, next⟩
/-- the first loop over the rows -/
theorem rd_rows1 (C : Cl K mg) {s0 s1 s2 s3 s4 s5 s6 y8 y9 y10 y11 y12 s13 s14 : Option V} {q : Addr} {ts : List Addr} (l : H q = some (.lst (ts.map V.ref))) (pr : Paired (fun (t : Addr) (r : Row) => RowAt K H x y t r) ts rowsAll) (tx : Tw H 4 x x) (ty : Tw H 4 y y)
    (next : ∀ y8 y9 y10 y11 y12 H', Ex H H' → D.nx [s0, s1, s2, s3, s4, s5, s6, some (.ref q), y8, y9, y10, y11, y12, s13, s14] H') : tRows1 K D [s0, s1, s2, s3, s4, s5, s6, some (.ref q), y8, y9, y10, y11, y12, s13, s14] H := by
  refine ⟨.ref q, rfl, q, ts.map V.ref, rfl, sq_of l, ?_⟩
  refine for_it (walk_enum (K := K) (a := q) (xs := ts.map V.ref)) (fun _ σ H' => (∃ y8 y9 y10 y11 y12 : Option V, σ = [s0, s1, s2, s3, s4, s5, s6, some (.ref q), y8, y9, y10, y11, y12, s13, s14]) ∧ Ex H H')
    ⟨⟨y8, y9, y10, y11, y12, rfl⟩, Ex.refl H⟩ (fun j σ H' _ hJ => sq_of (hJ.2 _ _ l)) (fun j v σ H' H'' hj hJ hY => ?_) (fun σ H' hJ => ?_)
  · obtain ⟨⟨y8, y9, y10, y11, y12, rfl⟩, eJ⟩ := hJ
    obtain ⟨Tp, v1, v2, rfl, nTp, rfl, g1, g2⟩ := hY
    cases Option.some.inj g1
    have g2 : (ts.map V.ref)[j]? = some v2 := g2
    rw [List.getElem?_map] at g2
    obtain ⟨t, gt, rfl⟩ := Option.map_eq_some_iff.mp g2
    have lt := Paired.len pr
    obtain ⟨jt, _⟩ := List.getElem?_eq_some_iff.mp gt
    have gr : rowsAll[j]? = some rowsAll[j] := List.getElem?_eq_getElem (by omega)
    have eT := eJ.trans (Ex.new (o := .tup [.int (j : Int), .ref t]) nTp)
    have R := (Paired.at pr gt gr).ext (ExtN.of eT)
    have R0 := R
    obtain ⟨m, wi, l', d, _, _, _, hT, _⟩ := R0
    have hn : rowsAll[j].1 ∈ clsNames := List.mem_of_getElem? (row_name gr)
    refine ⟨Tp, _, rfl, st_of upd_same, rfl, _, _, rfl, _, _, rfl, ?_⟩
    refine rd_g4 hT ⟨rfl, ?_⟩
    refine rd_own R hT rfl rfl rfl gr fun H8 e8 => ?_
    have e68 := eT.trans e8
    refine rd_these (R.ext (ExtN.of e8)) (e8 _ _ hT) rfl rfl rfl rfl ⟨_, C.cls _ hn⟩ (tx.ext e68) (ty.ext e68) fun H9 e9 => ?_
    exact ⟨⟨_, _, _, _, _, rfl⟩, e68.trans e9⟩
  · obtain ⟨⟨y8, y9, y10, y11, y12, rfl⟩, eJ⟩ := hJ
    exact next _ _ _ _ _ _ eJ
/-- one turn of the loop -/
theorem rd_turn (C : Cl K mg) {Hs : Hp} {p c q : Addr} {n : Int} {xs : List V} {s0 s3 y4 y5 y6 y7 y8 y9 y10 y11 y12 s13 s14 : Option V} (I : Iv T Hs H p c n) (hn : n + 1000 ≤ 1000000) (hq0 : Hs q = some (.lst xs)) (len : xs.length = 15) (tw : ∀ v ∈ xs, Tw Hs 4 v v)
    (next : ∀ y4 y5 y6 y7 y8 y9 y10 y11 y12 H', Iv T Hs H' p c (n + 15) → D.nx [s0, some (.ref p), some (.ref q), s3, y4, y5, y6, y7, y8, y9, y10, y11, y12, s13, s14] H') : tTurn K T D [s0, some (.ref p), some (.ref q), s3, y4, y5, y6, y7, y8, y9, y10, y11, y12, s13, s14] H := by
  refine ⟨.ref p, rfl, .ref q, rfl, p, c, q, xs, n, rfl, I.st, sq_of (I.e _ _ hq0), by omega, hn, fun ys q1 H4 ly my e4 s4 nq1 lq1 => ?_⟩
  have s4' : St H4 p c (n + 15) := by
    rw [len] at s4
    exact s4
  have I4 := I.exB e4 s4'
  refine ⟨3, rfl, q1, ys, rfl, sq_of lq1, fun r nr => ?_⟩
  rw [len] at ly
  obtain ⟨u0, u1, u2, rest, rfl⟩ : ∃ u0 u1 u2 rest, ys = u0 :: u1 :: u2 :: rest := by
    match ys, ly with
    | u0 :: u1 :: u2 :: rest, _ => exact ⟨u0, u1, u2, rest, rfl⟩
  rw [cut3]
  have I5 := I4.ex (Ex.new (o := .lst [u0, u1, u2]) nr)
  refine ⟨r, [u0, u1, u2], rfl, sq_of upd_same, rfl, u0, _, rfl, u1, _, rfl, u2, _, rfl, rfl, ?_⟩
  refine rd_rows (K := K) (T := T) (x := u0) (y := u1) (z := u2) rfl rfl rfl (by show 7 < 15; decide) (by decide) (by decide) (by decide) I5.tb fun q7 H6 ts e6 tb6 l6 pr6 => ?_
  have I6 := I5.exN e6 tb6
  have t0 := (tw u0 (my u0 List.mem_cons_self)).ext I6.e
  have t1 := (tw u1 (my u1 (List.mem_cons_of_mem _ List.mem_cons_self))).ext I6.e
  exact rd_rows1 C l6 pr6 t0 t1 fun y8 y9 y10 y11 y12 H' e => next _ _ _ _ _ _ _ _ _ _ (I6.ex e)
/-- the end -/
theorem rd_end (C : Cl K mg) {s0 s1 s2 s3 s4 s5 s6 s7 s8 s9 s10 s11 s12 s13 s14 : Option V} (rt : ∀ H', D.rt (.bl true) H') : tEnd K D [s0, s1, s2, s3, s4, s5, s6, s7, s8, s9, s10, s11, s12, s13, s14] H := by
  intro b nb
  refine ⟨.ref b, rfl, b, _, [], _, _, _, rfl, .inl ⟨rfl, upd_same⟩, ⟨_, C.base⟩, .ty _, Xc.kitT C.base "ValueError" (by decide +kernel), true, rfl, ?_⟩
  refine ⟨.ref b, rfl, b, none, rfl, ⟨_, [], .inl ⟨rfl, upd_same⟩, rfl⟩, fun r H9 e9 nr lr => ?_⟩
  refine ⟨r, _, rfl, .inl (sq_of lr), rfl, by decide +kernel, ?_⟩
  have e : inV (.bl true) (kindsOf none clsNames) = false := by decide +kernel
  show D.rt (.bl (!inV (.bl true) (kindsOf none clsNames))) H9
  rw [e]
  exact rt H9
theorem rd_last (C : Cl K mg) {s0 s1 s2 s3 s4 s5 s6 s8 s9 s10 s11 s12 s14 : Option V} {h q : Addr} {ts : List Addr} (hh : H h = some (.lst [.str "v"])) (l : H q = some (.lst (ts.map V.ref))) (pr : Paired (fun (t : Addr) (r : Row) => RowAt K H (.ref h) (.ref h) t r) ts rowsAll) (rt : ∀ H', D.rt (.bl true) H') :
    tLast K D [s0, s1, s2, s3, s4, s5, s6, some (.ref q), s8, s9, s10, s11, s12, some (.ref h), s14] H := by
  refine ⟨.ref h, rfl, .inl ⟨rfl, _, sq_of hh⟩, h, [.str "v"], .str "w", rfl, rfl, hh, by show 1 < sizeLine; decide, ?_⟩
  have lt := Paired.len pr
  rw [rows_len] at lt
  have pr7 : Paired (fun (t : Addr) (r : Row) => RowAt K (upd H h (.lst ([.str "v"] ++ [.str "w"]))) (.ref h) (.ref h) t r) ts rowsAll := Paired.imp (fun _ _ r => r.upd hh fun fns z => by
    unfold argsOf at z
    match fns with
    | [] => cases z
    | [_] => cases z
    | _ :: _ :: _ => cases z) pr
  have nqh : q ≠ h := fun z => by
    rw [z, hh] at l
    have z2 := congrArg List.length (HO.lst.inj (Option.some.inj l))
    rw [List.length_map, lt] at z2
    cases z2
  have l7 : (upd H h (.lst ([.str "v"] ++ [.str "w"]))) q = some (.lst (ts.map V.ref)) := by
    rw [upd_ne nqh]
    exact l
  refine ⟨.ref q, rfl, q, rfl, ⟨_, sq_of l7⟩, ?_⟩
  refine for_list (xs := ts.map V.ref) (fun _ σ H' => (∃ y9 y10 y11 y12 : Option V, σ = [s0, s1, s2, s3, s4, s5, s6, some (.ref q), s8, y9, y10, y11, y12, some (.ref h), s14]) ∧ Ex (upd H h (.lst ([.str "v"] ++ [.str "w"]))) H')
    ⟨⟨_, _, _, _, rfl⟩, Ex.refl _⟩ (fun j σ H' _ hJ => sq_of (hJ.2 _ _ l7)) (fun j v σ H' hv hJ => ?_) (fun σ H' hJ => ?_)
  · obtain ⟨⟨y9, y10, y11, y12, rfl⟩, eJ⟩ := hJ
    rw [List.getElem?_map] at hv
    obtain ⟨t, gt, rfl⟩ := Option.map_eq_some_iff.mp hv
    obtain ⟨jt, _⟩ := List.getElem?_eq_some_iff.mp gt
    have hlen := rows_len
    have gr : rowsAll[j]? = some rowsAll[j] := List.getElem?_eq_getElem (by omega)
    have R := (Paired.at pr7 gt gr).ext (ExtN.of eJ)
    have R0 := R
    obtain ⟨m, wi, l', d, _, _, _, hT, _⟩ := R0
    have hn : rowsAll[j].1 ∈ clsNames := List.mem_of_getElem? (row_name gr)
    have th : Tw H' 4 (.ref h) (.ref h) := tw_lst (eJ _ _ upd_same) (by show 2 ≤ 1000; decide) (.cons (tw_atom rfl) (.cons (tw_atom rfl) .nil))
    refine rd_g4 hT ?_
    refine rd_these R hT rfl rfl rfl rfl ⟨_, C.cls _ hn⟩ th th fun H9 e9 => ?_
    exact ⟨⟨_, _, _, _, rfl⟩, eJ.trans e9⟩
  · obtain ⟨⟨y9, y10, y11, y12, rfl⟩, eJ⟩ := hJ
    exact rd_end C rt
theorem rd_held (C : Cl K mg) {s0 s1 s2 s3 s4 s5 s6 s7 s8 s9 s10 s11 s12 s13 s14 : Option V} (tb : Tabs T H) (rt : ∀ H', D.rt (.bl true) H') : tHeld K T D [s0, s1, s2, s3, s4, s5, s6, s7, s8, s9, s10, s11, s12, s13, s14] H := by
  refine ⟨by show 1 ≤ sizeLine; decide, fun h nh => ?_⟩
  refine rd_rows (K := K) (T := T) (x := .ref h) (y := .ref h) (z := .ref h) rfl rfl rfl (by show 7 < 15; decide) (by decide) (by decide) (by decide) (tb.ext (Ex.new nh)) fun q7 H6 ts e6 tb6 l6 pr6 => ?_
  exact rd_last C (e6 _ _ upd_same lst_tblN) l6 pr6 rt
def spLaw (K : PySem.W.Frag) (T : List (Addr × Str)) : Sp := fun vs H Q _ => ∃ (a : Addr) (ns : List Int), vs = [.ref a] ∧ SqL K H a (ns.map V.int) ∧ ns.length ≤ 63 ∧ Tabs T H ∧ ∀ H', Q (.bl true) H'
theorem asg_seq {te : TE} {g : TG} {u : TS} {σ : L2.St} (h : te σ H fun x H1 => g x σ H1 (u D)) : tSeq (tAsg te g) u D σ H := h
theorem rd_law (C : Cl K mg) {a : Addr} {ns : List Int} {s1 s2 s3 s4 s5 s6 s7 s8 s9 s10 s11 s12 s13 s14 : Option V} (hS : SqL K H a (ns.map V.int)) (hl : ns.length ≤ 63) (tb : Tabs T H) (rt : ∀ H', D.rt (.bl true) H') :
    tLaw K T D [some (.ref a), s1, s2, s3, s4, s5, s6, s7, s8, s9, s10, s11, s12, s13, s14] H := by
  refine asg_seq ⟨.ref a, rfl, a, ns, rfl, hS, hl, fun H1 p c e1 np nc s0 => ?_⟩
  show tSeq (tAsg tThings (gName 2)) (tSeq (tFor (iRng1 (tCons (tC (.int 2)) tNil)) (gName 3) (tTurn K T)) (tHeld K T)) D [some (.ref a), some (.ref p), s2, s3, s4, s5, s6, s7, s8, s9, s10, s11, s12, s13, s14] H1
  refine asg_seq (rd_things fun q H2 xs e2 nt2 nq lq len tw => ?_)
  show tSeq (tFor (iRng1 (tCons (tC (.int 2)) tNil)) (gName 3) (tTurn K T)) (tHeld K T) D [some (.ref a), some (.ref p), some (.ref q), s3, s4, s5, s6, s7, s8, s9, s10, s11, s12, s13, s14] H2
  obtain ⟨op, hp1⟩ := s0.p
  obtain ⟨oc, hc1⟩ := s0.c
  have hq0 := frz_at nq lq
  have nt : ∀ b ps, frz H1 H2 b ≠ some (.tbl ps) := fun b ps z => by
    cases hb : H1 b with
    | none => exact nt2 b ps hb (frz_ex _ _ z)
    | some o =>
      rw [frz_no hb] at z
      cases z
  have I2 : Iv T (frz H1 H2) H2 p c (15 * ((0 : Nat) : Int)) := by
    rw [show 15 * ((0 : Nat) : Int) = 0 from rfl]
    exact ⟨frz_ex, frz_no hp1, frz_no hc1, nt, s0.ex e2, (tb.ext e1).ext e2⟩
  refine ⟨2, rfl, by decide, by decide, ?_⟩
  refine for_range (n := 2) (fun i σ H' => (∃ y3 y4 y5 y6 y7 y8 y9 y10 y11 y12 : Option V, σ = [some (.ref a), some (.ref p), some (.ref q), y3, y4, y5, y6, y7, y8, y9, y10, y11, y12, s13, s14]) ∧ Iv T (frz H1 H2) H' p c (15 * (i : Int)))
    ⟨⟨_, _, _, _, _, _, _, _, _, _, rfl⟩, I2⟩ (fun i σ H3 hi hI => ?_) (fun σ H3 hI => ?_)
  · obtain ⟨⟨y3, y4, y5, y6, y7, y8, y9, y10, y11, y12, rfl⟩, I3⟩ := hI
    refine rd_turn C I3 (by omega) hq0 len tw fun y4 y5 y6 y7 y8 y9 y10 y11 y12 H' I => ?_
    refine ⟨⟨_, _, _, _, _, _, _, _, _, _, rfl⟩, ?_⟩
    rw [show 15 * ((i + 1 : Nat) : Int) = 15 * (i : Int) + 15 by omega]
    exact I
  · obtain ⟨⟨y3, y4, y5, y6, y7, y8, y9, y10, y11, y12, rfl⟩, I3⟩ := hI
    exact rd_held C I3.tb rt
end
end K00
/-! text K15 -/
set_option Elab.async false
set_option linter.all false
set_option maxRecDepth 100000
set_option maxHeartbeats 8000000
/-! the law -/
namespace K00
open PySem PySem.Spec PyProof.Rows L2 Evl XvC PySem.HandSPX LmV LamX NdefX
/-- a maker of rows, as the head tells it -/
def Mkr (K : PySem.W.Frag) (mg : Str → Option Value) (base : Heap) (T : List (Addr × Str)) (x : Str) (i : Nat) : Prop := ∃ f fd Pt, FnP K x (top i) f fd ∧ mg x = some (.ref f) ∧ (∀ c, fd.code = .ref c → TabB base mg c Pt) ∧ (Pt, x ++ ".<locals>.<lambda>") ∈ T ∧ ∀ p ∈ T, p.1 = Pt → p.2 = x ++ ".<locals>.<lambda>"
/-- all that the head tells -/
structure Lw (K : PySem.W.Frag) (mg : Str → Option Value) (base : Heap) (T : List (Addr × Str)) : Prop where
  hd : Hd K mg
  kn : Kn K mg
  bn : Bn mg
  st : ∃ f fd, FnP K "_law_start" (top 84) f fd ∧ mg "_law_start" = some (.ref f)
  dr : ∃ f fd, FnP K "_law_draw" (top 85) f fd ∧ mg "_law_draw" = some (.ref f)
  mx : ∃ f fd, FnP K "_law_mixed" (top 86) f fd ∧ mg "_law_mixed" = some (.ref f)
  a : Mkr K mg base T "_law_made_a" 87
  b : Mkr K mg base T "_law_made_b" 88
  cc : Mkr K mg base T "_law_made_c" 89
  d : Mkr K mg base T "_law_made_d" 90
  e : Mkr K mg base T "_law_made_e" 91
  ks : ∃ f fd, FnP K "_law_kinds" (top 97) f fd ∧ mg "_law_kinds" = some (.ref f)
  ow : ∃ f fd, FnP K "_law_is_own" (top 98) f fd ∧ mg "_law_is_own" = some (.ref f)
  sm : ∃ f fd, FnP K "_law_same" (top 99) f fd ∧ mg "_law_same" = some (.ref f)
  th : ∃ f fd, FnP K "_law_are_these" (top 100) f fd ∧ mg "_law_are_these" = some (.ref f)
  bareL : bareB K (He.ga K "LotError") = true
  mr : mg "range" = none
  me : mg "enumerate" = none
  mv : mg "ValueError" = none
  ml : mg "LookupError" = none
  ma : mg "ArithmeticError" = none
  mt : mg "TypeError" = none
abbrev NLaw : List Str := ["script", "stream", "some", "turn", "x", "y", "z", "rows_made", "at", "mine", "twin", "field", "due", "held", "base"]
theorem scLaw : FnScope NLaw ["script"] (defScope (top 101)) := ⟨rfl, rfl, rfl, by decide +kernel, rfl, by decide +kernel, by decide +kernel⟩
section
variable {P : Program} {w : World} {K : PySem.W.Frag} {mg : Str → Option Value} {base : Heap} {f : Addr} {fd : FuncData} {T : List (Addr × Str)}
theorem ok_law (F : FnP K "law" (top 101) f fd) (L : Lw K mg base T) : FnOk P w K mg base CX0 7 f fd ["script"] (spLaw K T) := by
  obtain ⟨fS, dS, FS, gS⟩ := L.st
  obtain ⟨fD, dD, FD, gD⟩ := L.dr
  obtain ⟨fM, dM, FM, gM⟩ := L.mx
  obtain ⟨fA, dA, PA', FA, gA, tA, hA, uA⟩ := L.a
  obtain ⟨fB, dB, PB', FB, gB, tB', hB, uB⟩ := L.b
  obtain ⟨fC, dC, PC', FC, gC, tC', hC, uC⟩ := L.cc
  obtain ⟨fE, dE, PE', FE, gE, tE', hE, uE⟩ := L.d
  obtain ⟨fG, dG, PG', FG, gG, tG', hG, uG⟩ := L.e
  obtain ⟨fK, dK, FK, gK⟩ := L.ks
  obtain ⟨fO, dO, FO, gO⟩ := L.ow
  obtain ⟨fQ, dQ, FQ, gQ⟩ := L.sm
  obtain ⟨fT, dT, FT, gT⟩ := L.th
  have GS := ok_start (P := P) (w := w) (base := base) FS L.bn.list
  have GM := ok_mixed (P := P) (w := w) (base := base) FM FD gD L.bn.int L.bn.list L.bn.len L.mr
  have GA := ok_made_a (P := P) (w := w) FA L.hd tA hA uA
  have GB := ok_made_b (P := P) (w := w) FB L.hd tB' hB uB
  have GC := ok_made_c (P := P) (w := w) FC L.hd tC' hC uC
  have GE := ok_made_d (P := P) (w := w) FE L.hd tE' hE uE
  have GG := ok_made_e (P := P) (w := w) FG L.hd tG' hG uG
  have GK := ok_kinds (P := P) (w := w) (base := base) FK L.kn
  have GO := ok_own (P := P) (w := w) (base := base) FO FK gK L.kn L.mv L.ml L.ma L.mt L.mr
  have GT := ok_these (P := P) (w := w) (base := base) FT FQ gQ L.bn
  have bS : Binds K dS ["script"] [] := FS.bindsN fun _ _ _ _ _ _ us hl => match us, hl with | [_], _ => rfl
  have bM : Binds K dM ["stream", "some"] [] := FM.bindsN fun _ _ _ _ _ _ us hl => match us, hl with | [_, _], _ => rfl
  have bA : Binds K dA ["x", "y", "z"] [] := FA.bindsN fun _ _ _ _ _ _ us hl => match us, hl with | [_, _, _], _ => rfl
  have bB : Binds K dB ["x", "y", "z"] [] := FB.bindsN fun _ _ _ _ _ _ us hl => match us, hl with | [_, _, _], _ => rfl
  have bC : Binds K dC ["x", "y", "z"] [] := FC.bindsN fun _ _ _ _ _ _ us hl => match us, hl with | [_, _, _], _ => rfl
  have bE : Binds K dE ["x", "y", "z"] [] := FE.bindsN fun _ _ _ _ _ _ us hl => match us, hl with | [_, _, _], _ => rfl
  have bG : Binds K dG ["x", "y", "z"] [] := FG.bindsN fun _ _ _ _ _ _ us hl => match us, hl with | [_, _, _], _ => rfl
  have bK : Binds K dK ["e"] [] := FK.bindsN fun _ _ _ _ _ _ us hl => match us, hl with | [_], _ => rfl
  have bO : Binds K dO ["e", "at"] [] := FO.bindsN fun _ _ _ _ _ _ us hl => match us, hl with | [_, _], _ => rfl
  have bT : Binds K dT ["found", "due"] [] := FT.bindsN fun _ _ _ _ _ _ us hl => match us, hl with | [_, _], _ => rfl
  refine F.ok scLaw (fun vs H Q E h => ?_) (fun cdv A outer s H vs Q E hr h => ?_)
  · obtain ⟨a, ns, rfl, _⟩ := h
    rfl
  · obtain ⟨a, ns, rfl, hS, hl, tb, qq⟩ := h
    have h1 := hr.mono (show 1 ≤ 6 by decide)
    have h2 := hr.mono (show 2 ≤ 6 by decide)
    have h3 := hr.mono (show 3 ≤ 6 by decide)
    refine ⟨tLaw K T, PSs.nox (pss_cons (ps_set (i := 1) scLaw.nd rfl (.inl rfl) (pe_call GS h1 (by rfl) gS FS.kp bS .nil pass0 (pa_cons (pv 0) pa_nil)))
      (pss_cons (ps_set (i := 2) scLaw.nd rfl (.inl rfl) (pe_lst (pa_cons pe_non (pa_cons pe_int (pa_cons (pe_un un_neg pe_int) (pa_cons pe_bl (pa_cons pe_str (pa_cons pe_str (pa_cons (pe_lst (pa_cons pe_int (pa_cons pe_str pa_nil)))
        (pa_cons (pe_tup (pa_cons pe_int (pa_cons pe_non pa_nil))) (pa_cons (pe_disp (pps_cons pe_str pe_int pps_nil) rfl rfl (by simp) (by decide)) (pa_cons (pe_lst (pa_cons (pe_lst (pa_cons pe_str pa_nil)) pa_nil)) (pa_cons (pe_op op_pow pe_int pe_int)
        (pa_cons (pe_tup (pa_cons pe_str (pa_cons pe_int pa_nil))) (pa_cons pe_bl (pa_cons pe_int (pa_cons pe_int pa_nil)))))))))))))))))
      (pss_cons (ps_for PassesOwn.never rfl (pi_range1 (by rfl) L.mr (pa_cons pe_int pa_nil)) (pg_name (i := 3) scLaw.nd rfl (.inl rfl))
        (pss_cons (ps_asg (pe_slice sl_list (pe_call GM h2 (by rfl) gM FM.kp bM .nil pass0 (pa_cons (pv 1) (pa_cons (pv 2) pa_nil))) po_none (po_some pe_int)) (pg_unl (n := 3) rfl (pgs_cons (pg_name (i := 4) scLaw.nd rfl (.inl rfl)) (pgs_cons (pg_name (i := 5) scLaw.nd rfl (.inl rfl)) (pgs_cons (pg_name (i := 6) scLaw.nd rfl (.inl rfl)) pgs_nil)))))
        (pss_cons (ps_set (i := 7) scLaw.nd rfl (.inl rfl) (pe_op op_cat (pe_op op_cat (pe_call GA h3 (by rfl) gA FA.kp bA .nil pass0 (pa_cons (pv 4) (pa_cons (pv 5) (pa_cons (pv 6) pa_nil)))) (pe_call GB h3 (by rfl) gB FB.kp bB .nil pass0 (pa_cons (pv 4) (pa_cons (pv 5) (pa_cons (pv 6) pa_nil)))))
          (pe_call GC h3 (by rfl) gC FC.kp bC .nil pass0 (pa_cons (pv 4) (pa_cons (pv 5) (pa_cons (pv 6) pa_nil))))))
        (pss_cons (ps_expr (pe_bm PySem.F.plainAttrs_list PySem.F.slot_list_extend PySem.F.type_list_extend mt_extend (pv 7) (pa_cons (pe_op op_cat (pe_call GE h3 (by rfl) gE FE.kp bE .nil pass0 (pa_cons (pv 4) (pa_cons (pv 5) (pa_cons (pv 6) pa_nil))))
          (pe_call GG h3 (by rfl) gG FG.kp bG .nil pass0 (pa_cons (pv 4) (pa_cons (pv 5) (pa_cons (pv 6) pa_nil))))) pa_nil)))
        (pss_one (ps_for PassesOwn.never rfl (pi_enum (by rfl) L.me (pa_cons (pv 7) pa_nil)) (pg_tup (n := 2) rfl (pgs_cons (pg_name (i := 8) scLaw.nd rfl (.inl rfl)) (pgs_cons (pg_tup (n := 4) rfl (pgs_cons (pg_name (i := 9) scLaw.nd rfl (.inl rfl)) (pgs_cons (pg_name (i := 10) scLaw.nd rfl (.inl rfl)) (pgs_cons (pg_name (i := 11) scLaw.nd rfl (.inl rfl)) (pgs_cons (pg_name (i := 12) scLaw.nd rfl (.inl rfl)) pgs_nil))))) pgs_nil)))
          (pss_cons (ps_if (pw_or (pt_not (pt_val (pe_call GO h3 (by rfl) gO FO.kp bO .nil pass0 (pa_cons (pv 9) (pa_cons (pv 8) pa_nil))))) (pw_or1 (pt_not (pt_val (pe_call GO h3 (by rfl) gO FO.kp bO .nil pass0 (pa_cons (pv 10) (pa_cons (pv 8) pa_nil))))))).pt (pss_one (ps_ret pe_bl)) pss_nil)
          (pss_one (ps_if (pw_or (pt_not (pt_val (pe_call GT hr (by rfl) gT FT.kp bT .nil pass0 (pa_cons (pe_callLam (S := SL K) (E := E0) sl_ok h1 pass0 (i := 11) rfl (.inl rfl) (pa_cons (pv 9) pa_nil)) (pa_cons (pv 12) pa_nil)))))
            (pw_or1 (pt_not (pt_val (pe_call GT hr (by rfl) gT FT.kp bT .nil pass0 (pa_cons (pe_callLam (S := SL K) (E := E0) sl_ok h1 pass0 (i := 11) rfl (.inl rfl) (pa_cons (pv 10) pa_nil)) (pa_cons (pv 12) pa_nil))))))).pt (pss_one (ps_ret pe_bl)) pss_nil)))))))))
      (pss_cons (ps_set (i := 13) scLaw.nd rfl (.inl rfl) (pe_lst (pa_cons pe_str pa_nil)))
      (pss_cons (ps_set (i := 7) scLaw.nd rfl (.inl rfl) (pe_op op_cat (pe_op op_cat (pe_call GA h3 (by rfl) gA FA.kp bA .nil pass0 (pa_cons (pv 13) (pa_cons (pv 13) (pa_cons (pv 13) pa_nil)))) (pe_call GB h3 (by rfl) gB FB.kp bB .nil pass0 (pa_cons (pv 13) (pa_cons (pv 13) (pa_cons (pv 13) pa_nil)))))
          (pe_call GC h3 (by rfl) gC FC.kp bC .nil pass0 (pa_cons (pv 13) (pa_cons (pv 13) (pa_cons (pv 13) pa_nil))))))
      (pss_cons (ps_expr (pe_bm PySem.F.plainAttrs_list PySem.F.slot_list_extend PySem.F.type_list_extend mt_extend (pv 7) (pa_cons (pe_op op_cat (pe_call GE h3 (by rfl) gE FE.kp bE .nil pass0 (pa_cons (pv 13) (pa_cons (pv 13) (pa_cons (pv 13) pa_nil))))
          (pe_call GG h3 (by rfl) gG FG.kp bG .nil pass0 (pa_cons (pv 13) (pa_cons (pv 13) (pa_cons (pv 13) pa_nil))))) pa_nil)))
      (pss_cons (ps_expr (pe_bm PySem.F.plainAttrs_list PySem.F.slot_list_append PySem.F.type_list_append mt_append (pv 13) (pa_cons pe_str pa_nil)))
      (pss_cons (ps_for PassesOwn.never rfl (pi_list (pv 7)) (pg_tup (n := 4) rfl (pgs_cons (pg_name (i := 9) scLaw.nd rfl (.inl rfl)) (pgs_cons (pg_name (i := 10) scLaw.nd rfl (.inl rfl)) (pgs_cons (pg_name (i := 11) scLaw.nd rfl (.inl rfl)) (pgs_cons (pg_name (i := 12) scLaw.nd rfl (.inl rfl)) pgs_nil)))))
          (pss_one (ps_if (pw_or (pt_not (pt_val (pe_call GT hr (by rfl) gT FT.kp bT .nil pass0 (pa_cons (pe_callLam (S := SL K) (E := E0) sl_ok h1 pass0 (i := 11) rfl (.inl rfl) (pa_cons (pv 9) pa_nil)) (pa_cons (pv 12) pa_nil)))))
            (pw_or1 (pt_not (pt_val (pe_call GT hr (by rfl) gT FT.kp bT .nil pass0 (pa_cons (pe_callLam (S := SL K) (E := E0) sl_ok h1 pass0 (i := 11) rfl (.inl rfl) (pa_cons (pv 10) pa_nil)) (pa_cons (pv 12) pa_nil))))))).pt (pss_one (ps_ret pe_bl)) pss_nil)))
      (pss_cons (ps_set (i := 14) scLaw.nd rfl (.inl rfl) (pe_mkX0 (bmB := veTail) L.hd.c.base L.bareL (by rfl) L.hd.c.gB))
      (pss_one (ps_ret (pe_and (pe_callB call_isX (by rfl) L.bn.isinstance (by decide +kernel) (pa_cons (pv 14) (pa_cons (pe_bltn (v := .ty "ValueError") (by rfl) L.mv (by decide +kernel) rfl) pa_nil)))
        (pe_one (pe_cmpR op_notIn_seq pe_bl (pe_call GK h2 (by rfl) gK FK.kp bK .nil pass0 (pa_cons (pv 14) pa_nil)) (by rfl))))))))))))))), rd_law L.hd.c hS hl tb qq⟩
end
end K00
/-! text Hs1 -/
set_option Elab.async false
set_option linter.all false
set_option maxRecDepth 100000
set_option maxHeartbeats 4000000
/-! the top's run in parts: each part by itself in the kernel, the states between them written out -/
noncomputable section
namespace HsP
open PySem PySem.W PySem.Calls PyProof.Rows HandSHeadRun
section
variable (st : SharedT → Thread → Option (SharedT × Thread)) (n0 : Nat) (ann : Option Value)
/-- until the text's own frame stands -/
def goP : Nat → SharedT → Thread → Option (SharedT × Thread)
  | 0, _, _ => none
  | m + 1, s, t => match Nat.beq t.stack.length 1 with
    | true => some (s, t)
    | false => match through t with
      | true => none
      | false => match stepOk n0 ann t with
        | false => none
        | true => match st s t with
          | some (s', t') => frS s' fun s' => goP m s' t'
          | none => none
/-- until the statements are through -/
def goS : Nat → SharedT → Thread → Option (Flow × SharedT × Code × Pos)
  | 0, _, _ => none
  | m + 1, s, t => match endAt 1 t with
    | some f => some (f, s, t.code, t.pos)
    | none => match stepOk n0 ann t with
      | false => none
      | true => match st s t with
        | some (s', t') => frS s' fun s' => goS m s' t'
        | none => none
end
section
variable {tb : String → Option Builtin} {p : Program} {w : World} {n0 : Nat} {ann : Option Value} {env : Env} {q : Pos}
theorem goP_top : ∀ {m N : Nat} {s s' : SharedT} {r : Shared} {t t' : Thread}, goP (stepT (denote tb) p w) n0 ann m s t = some (s', t') → topRun tb p w n0 ann N s'.abs t' = some r → topRun tb p w n0 ann (m + N) s.abs t = some r
  | 0, _, _, _, _, _, _, h, _ => by cases h
  | m + 1, N, s, s', r, t, t', h, k => by
    unfold goP at h
    cases e : Nat.beq t.stack.length 1 with
    | true =>
      rw [e] at h
      cases h
      rw [show m + 1 + N = N + (m + 1) by omega]
      exact topRun_mono (m + 1) _ _ _ _ k
    | false =>
      rw [e] at h
      rw [show m + 1 + N = m + N + 1 by omega]
      unfold topRun
      cases ht : through t with
      | true =>
        rw [ht] at h
        cases h
      | false =>
        rw [ht] at h
        cases hk : stepOk n0 ann t with
        | false =>
          rw [hk] at h
          cases h
        | true =>
          rw [hk] at h
          cases hs : stepT (denote tb) p w s t with
          | none =>
            rw [hs] at h
            cases h
          | some r2 =>
            obtain ⟨s2, t2⟩ := r2
            rw [hs] at h
            have h3 : (frS s2 fun s' => goP (stepT (denote tb) p w) n0 ann m s' t2) = some (s', t') := h
            rw [frS_eq] at h3
            rw [stepT_spec hs]
            exact goP_top h3 k
theorem goS_seg : ∀ {m : Nat} {s : SharedT} {t : Thread}, goS (stepT (denote tb) p w) n0 ann m s t = segRunT tb p w n0 ann 1 m s t
  | 0, _, _ => rfl
  | m + 1, s, t => by
    unfold goS segRunT
    cases endAt 1 t with
    | some f => rfl
    | none =>
      cases stepOk n0 ann t with
      | false => rfl
      | true =>
        cases hs : stepT (denote tb) p w s t with
        | none => rfl
        | some r2 =>
          obtain ⟨s2, t2⟩ := r2
          show (frS s2 fun s' => goS (stepT (denote tb) p w) n0 ann m s' t2) = _
          rw [frS_eq]
          exact goS_seg
theorem seg_take {k n N : Nat} {b : List Stmt} {s s' : SharedT} {r : Shared} {c : Code} {pos p' : Pos} (h : goS (stepT (denote tb) p w) n0 ann n s (piecesOf (b.take k) env c pos [topFrame q]) = some (.next, s', c, p'))
    (kk : topRun tb p w n0 ann N s'.abs (restOf (b.drop k) env c p' [topFrame q]) = some r) : topRun tb p w n0 ann (n + N) s.abs (restOf b env c pos [topFrame q]) = some r := by
  rw [goS_seg] at h
  have e := piece_app (rest := b.drop k) (segRun_of h) kk
  rw [List.take_append_drop] at e
  exact e
theorem seg_block {n N : Nat} {b : List Stmt} {s s' : SharedT} {r : Shared} {c : Code} {pos p' : Pos} (h : goS (stepT (denote tb) p w) n0 ann n s (blockOf b env c pos [topFrame q]) = some (.next, s', c, p'))
    (kk : topRun tb p w n0 ann N s'.abs (restOf b env c p' [topFrame q]) = some r) : topRun tb p w n0 ann (n + N) s.abs ⟨denote tb (.body b env), c, pos, [topFrame q]⟩ = some r := by
  rw [goS_seg] at h
  exact piece_block (segRun_of h) kk
end
/-- the boot's tree -/
def boot0 (w : World) : PySem.W.BT × Nat := match putAll (boot_heap w.params).objs.toList .nil 0 with
  | some r => r
  | none => (.nil, 0)
theorem boot0_ok (w : World) : putAll (boot_heap w.params).objs.toList .nil 0 = some (boot0 w) := by kernel_rfl
theorem boot_size (w : World) : (boot_heap w.params).objs.size = 11 := by kernel_rfl
theorem boot_abs (w : World) (os : OsState) : (bootT w os (boot0 w)).abs = ⟨boot_heap w.params, #[], boot_drawn, boot_toks, os⟩ := by
  have e := boot0_ok w
  have eh := putAll_heap (t := (boot0 w).1) (n := (boot0 w).2) e
  show (⟨absHeap (boot0 w).1 (boot0 w).2 (boot_heap w.params).life, #[], boot_drawn, boot_toks, os⟩ : Shared) = _
  rw [eh]
/-- from the boot on, by a run that is told -/
theorem top_told {p : Program} {w : World} {os : OsState} {M N : Nat} {z : SharedT} (le : M ≤ N) (hz : topRun treeTable p w 11 (bootAnn w) M ⟨boot_heap w.params, #[], boot_drawn, boot_toks, os⟩ (topStub p) = some z.abs)
    (lk : looksF p (boot_heap w.params) z.abs = true) : topFrom treeTable p w N ⟨boot_heap w.params, #[], boot_drawn, boot_toks, os⟩ = some z.abs := by
  have far := topRun_mono (N - M) _ _ _ _ hz
  rw [Nat.add_sub_cancel' le, ← boot_size w] at far
  have lk2 := lk
  unfold looksF at lk2
  unfold topFrom
  dsimp only
  rw [boot_ns, show (#[] : Array GenState).size = 0 from rfl]
  change (topRun treeTable p w _ (bootAnn w) N _ (topStub p)).bind _ = _
  rw [far]
  change (match _ with
    | true => some z.abs
    | false => none) = _
  rw [lk2]
theorem left_two {p q : Program} {loose : List Str} {Xt : Shared → Bool} {α : Type} {Yf : Shared → α} {Ya : World → α} {N M : Nat} (eo : opening p = plainProg p.main.scope.names) (h6 : 600 ≤ N) (nf : ∀ s, fenceModules? p s = some s) (le : M ≤ N)
    (told : ∀ (w : World) (os : OsState), ∃ z : SharedT, topRun treeTable p w 11 (bootAnn w) M ⟨boot_heap w.params, #[], boot_drawn, boot_toks, os⟩ (topStub p) = some z.abs ∧
      (looksF p (boot_heap w.params) z.abs, openSeen q loose (importedModules p.main.body) Xt true z.abs, Yf z.abs) = (true, openGood q loose, Ya w)) : LeftO p q loose Xt Yf Ya N true := by
  intro w
  have B := boot_open eo (Nat.ble_eq_true_of_le h6) nf w
  unfold openEnds
  cases hf : fencedOpening treeTable p w N with
  | none =>
    rw [hf] at B
    cases B
  | some c =>
    rw [hf] at B
    obtain ⟨ch, cg, cd, ck, co⟩ := c
    have B2 := Option.some.inj B
    simp only [Prod.mk.injEq] at B2
    obtain ⟨b1, b2, b3, b4⟩ := B2
    subst b1 b2 b3 b4
    obtain ⟨z, hz, hv⟩ := told w co
    simp only [Prod.mk.injEq] at hv
    change (topFrom treeTable p w N _).map _ = _
    rw [show topFrom treeTable p w N ⟨boot_heap w.params, Array.mk [], boot_drawn, boot_toks, co⟩ = some z.abs from top_told le hz hv.1]
    exact congrArg some (Prod.ext hv.2.1 hv.2.2)
/-- a law's head by a run that is told -/
theorem head_two {r : OpenRow} {q : Program} {H : Hook} {M : Nat} {loose : List PySem.Str} {d : DefRec} {kwd : List (PySem.Str × PySem.Expr)}
    (e : opening r.prog = plainProg r.prog.main.scope.names) (f : ∀ s, fenceModules? r.prog s = some s)
    (run : ∀ (w : World) (os : OsState), ∃ s : SharedT, topRun treeTable r.prog w 11 (bootAnn w) M ⟨boot_heap w.params, #[], boot_drawn, boot_toks, os⟩ (topStub r.prog) = some s.abs ∧
      (looksF r.prog (boot_heap w.params) s.abs, seenQ q loose (importedModules r.prog.main.body) (fun s => xlAt q [] s && recOk r.toRowW.records s) s.abs, H.obs s.abs) = (true, openGood q loose, H.val w))
    (hdef : defOf q r.name = some (d, kwd)) (hp : r.prog.theDef r.name = some (d.params, d.body, d.scope)) (hk : kwWritten? d.params.kwonlyargs d.params.kw_defaults = some kwd)
    (hwr : (!r.writes || r.records.isEmpty) = true) (k1 : r.wellSaid = true) (ok : (chainsOk q && opensWell r.prog && (frees r.toRowW && r.within.isEmpty)) = true) (hb : r.prog.bare) (hw : r.toRowW.promised)
    (call : WalkO q loose (XL q []) H.says r.toRowW d kwd fun f vs => PySem.call f vs) : r.Holds := by
  have L : LeftO r.prog q loose (fun s => xlAt q [] s && recOk r.toRowW.records s) H.obs H.val (M + 600) true :=
    left_two (M := M) e (Nat.le_add_left _ _) f (Nat.le_add_right _ _) fun w os => by
      obtain ⟨z, h1, h2⟩ := run w os
      refine ⟨z, h1, ?_⟩
      rw [seenQ_eq]
      exact h2
  have X : ∀ s : Shared, (xlAt q [] s && recOk r.toRowW.records s) = true → xlAt q [] s = true ∧ recOk r.toRowW.records s = true := fun s z => by simpa using z
  exact holds_open (XP := XL q []) (YP := H.says) L H.of H.keeps (fun s z => xl_of s (X s z).1) XL.keeps hdef hp hk (fun s z => recFacts_of (X s z).2) hwr k1 ok hb hw call
end HsP
end
/-! text HkL -/
set_option Elab.async false
set_option linter.all false
set_option maxRecDepth 100000
set_option maxHeartbeats 4000000
/-! a Hook over objects whose addresses are written out -/
noncomputable section
namespace HkL
open PySem PySem.Spec PyProof.Rows L2
/-- a list, item by item laid bare -/
def frc {α β : Type} : List α → List α → (List α → β) → β
  | [], acc, k => k acc
  | x :: r, acc, k => frc r (x :: acc) k
theorem frc_eq {α β : Type} (k : List α → β) : ∀ l acc : List α, frc l acc k = k (l.reverse ++ acc)
  | [], _ => rfl
  | x :: r, acc => by
    show frc r (x :: acc) k = _
    rw [frc_eq k r (x :: acc), List.reverse_cons, List.append_assoc]
    rfl
def k0 (g : Addr → Option Obj) (as : List Addr) : PySem.W.Frag := (as.filterMap fun a => (g a).map fun o => (a, o)).filter fun q => !He.emptyTab q.2
def kL (g : Addr → Option Obj) (as : List Addr) : PySem.W.Frag := (k0 g as).reverse
theorem kL_look {g : Addr → Option Obj} {as : List Addr} {a : Addr} {o : Obj} (h : (kL g as).lookup a = some o) : g a = some o ∧ He.emptyTab o = false := by
  have m := List.mem_reverse.mp (He.lookup_mem h)
  obtain ⟨m1, m2⟩ := List.mem_filter.mp m
  obtain ⟨b, _, e⟩ := List.mem_filterMap.mp m1
  refine ⟨?_, by simpa using m2⟩
  cases q : g b with
  | none =>
    rw [q] at e
    cases e
  | some u =>
    rw [q] at e
    obtain ⟨r1, r2⟩ := Prod.mk.inj (Option.some.inj e)
    rw [← r1, ← r2, q]
theorem kL_none {g : Addr → Option Obj} {as : List Addr} {a : Addr} {o : Obj} (h : g a = some o) (t : He.emptyTab o = true) : (kL g as).lookup a = none := by
  cases e : (kL g as).lookup a with
  | none => rfl
  | some u =>
    obtain ⟨e1, e2⟩ := kL_look e
    rw [← Option.some.inj (h.symm.trans e1), t] at e2
    cases e2
def obsK (fa : List He.Fa) (fn : List He.DefD) (ts : List He.Tab) (tf : List He.Defn) (ex : PySem.W.Frag → Bool) (g : Addr → Option Obj) (K : PySem.W.Frag) : He.AlX := (He.obsT fa fn ts K, ex K && He.tabsB g tf K)
section
variable {as : List Addr} {fa : List He.Fa} {fn : List He.DefD} {ts : List He.Tab} {tf : List He.Defn} {ex : PySem.W.Frag → Bool}
theorem says_of {w : World} {h : Heap} (e : obsK fa fn ts tf ex h.get? (kL h.get? as) = He.valX fn ts w) : He.SaysX fa fn ts tf ex w h (kL h.get? as) := by
  obtain ⟨e1, e2⟩ := Prod.mk.inj e
  obtain ⟨x1, x2⟩ := Bool.and_eq_true_iff.mp e2
  have tb : ∀ p ∈ tf, PySem.W.codeHdIn (kL h.get? as) (He.cT (kL h.get? as) p).1 (He.cT (kL h.get? as) p).2 = true ∧ ∃ o, h.get? (He.cT (kL h.get? as) p).2 = some o ∧ He.emptyTab o = true := by
    intro p hp
    obtain ⟨y1, y2⟩ := Bool.and_eq_true_iff.mp (List.all_eq_true.mp x2 p hp)
    refine ⟨y1, ?_⟩
    cases q : h.get? (He.cT (kL h.get? as) p).2 with
    | none =>
      rw [q] at y2
      cases y2
    | some o =>
      rw [q] at y2
      exact ⟨o, rfl, y2⟩
  constructor
  · exact e1
  · exact x1
  · exact fun p hp => (tb p hp).1
  · intro p hp
    obtain ⟨_, o, q, z⟩ := tb p hp
    exact kL_none q z
  · intro p hp
    obtain ⟨_, o, q, z⟩ := tb p hp
    rw [q, He.emptyTab_eq z]
variable (as fa fn ts tf ex)
def hookL : PySem.W.Hook where
  α := He.AlX
  obs := fun s => obsK fa fn ts tf ex s.heap.get? (kL s.heap.get? as)
  val := fun w => He.valX fn ts w
  says := fun w h => ∃ K : PySem.W.Frag, K.In h ∧ He.SaysX fa fn ts tf ex w h K
  of := fun _ _ e => ⟨kL _ as, fun _ _ z => (kL_look z).1, says_of e⟩
  keeps := fun _ _ _ x k => x.elim fun K y => ⟨K, PySem.W.Frag.In.keeps y.1 k, { t := y.2.t, more := y.2.more, hd := y.2.hd, out := y.2.out, empty := fun p hp => k _ _ (y.2.empty p hp) }⟩
/-- the same, off the tree -/
def obL (g : Addr → Option Obj) : He.AlX := frc (k0 g as) [] fun K => obsK fa fn ts tf ex g K
theorem obL_eq (s : PySem.W.SharedT) : obL as fa fn ts tf ex (HandSHeadRun.getT s) = (hookL as fa fn ts tf ex).obs s.abs := by
  have e : HandSHeadRun.getT s = s.abs.heap.get? := funext (HandSHeadRun.getT_eq s)
  unfold obL
  rw [frc_eq, List.append_nil, e]
  rfl
end
end HkL
end
/-! text Hs2 -/
set_option Elab.async false
set_option linter.all false
set_option maxRecDepth 100000
set_option maxHeartbeats 0
noncomputable section
namespace K00
open PySem PySem.W HandSHeadRun HsP
/-! the objects that the classes lay, a kind each -/
def oT (vs : List Value) : Obj := ⟨.type "tuple", none, .seq ⟨vs⟩ 0, #[]⟩
def oPr : Obj := ⟨.type "builtin_function_or_method", none, .fields ⟨[.builtin "type.__prepare__", .type "type"]⟩, #[]⟩
def oSub (c : Nat) : Obj := ⟨.type "builtin_function_or_method", none, .fields ⟨[.builtin "object.__init_subclass__", .ref c]⟩, #[]⟩
def oSup (c : Nat) : Obj := ⟨.type "super", none, .fields ⟨[.ref c, .ref c, .ref c]⟩, #[]⟩
def oF (vs : List Value) : Obj := ⟨.none, none, .fields ⟨vs⟩, #[]⟩
def oD (es : List DictEntry) (n : Nat) : Obj := ⟨.type "dict", none, .dict ⟨es⟩ n, #[]⟩
def kE (P : Params) (k : PySem.Str) (t : Nat) (v : Value) : DictEntry := ⟨PyData.keyHash P k, .str k t, v⟩
def vM : Value := .str "meetinglots.errors" 187
def oFr (c n : Nat) : Obj := ⟨.type "frame", none, .plain, ⟨[some (.ref c), some (.ref 3), some (.ref n), none, some vM, none, some (.ref 0)]⟩⟩
def oCC (n : PySem.Str) (t l a b : Nat) : Obj := ⟨.type "code", none, .fields ⟨[.str n t, .str n (t + 1), .str "/claim/cut.py" (t + 2), .int l 0, .int 0 0, .int 0 0, .int 0 0, .int 0 0, .ref a, .bool false, .int 181 0, .ref b, .none, .none, .none, .none, .int (t + 3) 0, .int l 0, .str "/claim/cut.py" (t + 4)]⟩, #[]⟩
def oCF (q : PySem.Str) (t t2 l m a b v e f : Nat) : Obj := ⟨.type "code", none, .fields ⟨[.str "__init__" t, .str q (t + 1), .str "/claim/cut.py" (t + 2), .int l 0, .int m 0, .int 0 0, .int 0 0, .int 3 0, .ref a, .bool true, .int 181 0, .ref b, .none, .ref v, .ref e, .ref f, .int t2 0, .int l 0, .str "/claim/cut.py" (t2 + 1)]⟩, #[]⟩
def oN (n : PySem.Str) (a s ns t t2 : Nat) (bs mro subs : List Value) : Obj := ⟨.type "type", none, .cls ⟨n, bs, mro, ns, n, true, [], subs, false, none, false⟩, ⟨[some (.ref a), none, some (.str n t), some (.str n t2), some (.builtin "ValueError.__new__"), some (.bool true)]⟩⟩
def oC (n : PySem.Str) (a c ns t : Nat) : Obj := oN n a c ns t (t + 8) [.ref 24] [.ref c, .ref 24, .type "ValueError", .type "Exception", .type "BaseException", .type "object"] []
def oFu (cl : Value) (q : PySem.Str) (i g : Nat) (m c : Value) : Obj := ⟨cl, none, .func ⟨"__init__", q, L2.defArgs (clsInit (top i)), .stmts (L2.defBody (clsInit (top i))), L2.defScope (clsInit (top i)), g, [], .none, .none, .none, m, none, c, .none, 0⟩, #[]⟩
def oWr : Obj := ⟨.type "getset_descriptor", none, .fields ⟨[.str "__weakref__" 202, .ref 24, .builtin "ExceptionGroup.__weakref__", .none]⟩, #[]⟩

def o11 : Obj := oT []
def o13 : Obj := ⟨.type "code", none, .fields ⟨[.str "<module>" 182, .str "<module>" 183, .str "/claim/cut.py" 184, .int 1 0, .int 0 0, .int 0 0, .int 0 0, .int 0 0, .ref 11, .bool false, .int 181 0, .ref 12, .none, .none, .none, .none, .int 185 0, .int 1 0, .str "/claim/cut.py" 186]⟩, #[]⟩
def o14 : Obj := ⟨.type "frame", none, .plain, ⟨[some (.ref 13), some (.ref 3), some (.ref 3), none, some (.str "__main__" 164), none, some (.ref 0)]⟩⟩
def o15 : Obj := oT [.type "ValueError"]
def o16 : Obj := oPr
def o17 (P : Params) : Obj := oD [kE P "__module__" 196 vM, kE P "__qualname__" 198 (.str "LotError" 197), kE P "__firstlineno__" 200 (.int 2 199), kE P "__static_attributes__" 201 (.ref 22)] 4
def o18 : Obj := oT []
def o19 : Obj := oF []
def o20 : Obj := oCC "LotError" 191 2 18 19
def o21 : Obj := oFr 20 17
def o22 : Obj := oT []
def o23 (P : Params) : Obj := oD [kE P "__module__" 196 vM, kE P "__firstlineno__" 200 (.int 2 199), kE P "__static_attributes__" 201 (.ref 22), kE P "__weakref__" 203 (.ref 25), kE P "__doc__" 204 .none] 3
def o25 : Obj := oWr
def o26 : Obj := oSup 24
def o27 : Obj := oSub 24
def o28 : Obj := oT [.ref 24]
def o29 : Obj := oPr
def o30 (P : Params) : Obj := oD [kE P "__module__" 214 vM, kE P "__qualname__" 216 (.str "Apart" 215), kE P "__firstlineno__" 218 (.int 4 217), kE P "__static_attributes__" 219 (.ref 35)] 4
def o31 : Obj := oT []
def o32 : Obj := oF []
def o33 : Obj := oCC "Apart" 209 4 31 32
def o34 : Obj := oFr 33 30
def o35 : Obj := oT []
def o36 (P : Params) : Obj := oD [kE P "__module__" 214 vM, kE P "__firstlineno__" 218 (.int 4 217), kE P "__static_attributes__" 219 (.ref 35), kE P "__doc__" 220 .none] 2
def o37 : Obj := oC "Apart" 28 37 36 207
def o38 : Obj := oSup 37
def o39 : Obj := oSub 37
def o40 : Obj := oT [.ref 24]
def o41 : Obj := oPr
def o42 (P : Params) : Obj := oD [kE P "__module__" 230 vM, kE P "__qualname__" 232 (.str "BadAnswers" 231), kE P "__firstlineno__" 234 (.int 6 233), kE P "__init__" 242 (.ref 53), kE P "__static_attributes__" 244 (.ref 54)] 5
def o43 : Obj := oT []
def o44 : Obj := oF [.int 8 0, .int 4 0, .ref 52]
def o45 : Obj := oCC "BadAnswers" 225 6 43 44
def o46 : Obj := oFr 45 42
def o47 : Obj := oT []
def o48 : Obj := oF []
def o49 : Obj := oT [.str "self" 238, .str "thing" 239]
def o50 : Obj := oT []
def o51 : Obj := oFu .none "BadAnswers.__init__" 3 0 .none .none
def o52 : Obj := oCF "BadAnswers.__init__" 235 240 8 2 47 48 49 50 51
def o53 : Obj := oFu (.type "function") "BadAnswers.__init__" 3 3 vM (.ref 52)
def o54 : Obj := oT [.str "thing" 243]
def o55 (P : Params) : Obj := oD [kE P "__module__" 230 vM, kE P "__firstlineno__" 234 (.int 6 233), kE P "__init__" 242 (.ref 53), kE P "__static_attributes__" 244 (.ref 54), kE P "__doc__" 245 .none] 2
def o56 : Obj := oC "BadAnswers" 40 56 55 223
def o57 : Obj := oSup 56
def o58 : Obj := oSub 56
def o59 : Obj := oT [.ref 24]
def o60 : Obj := oPr
def o61 (P : Params) : Obj := oD [kE P "__module__" 255 vM, kE P "__qualname__" 257 (.str "BadBegin" 256), kE P "__firstlineno__" 259 (.int 10 258), kE P "__init__" 267 (.ref 72), kE P "__static_attributes__" 269 (.ref 73)] 5
def o62 : Obj := oT []
def o63 : Obj := oF [.int 12 0, .int 4 0, .ref 71]
def o64 : Obj := oCC "BadBegin" 250 10 62 63
def o65 : Obj := oFr 64 61
def o66 : Obj := oT []
def o67 : Obj := oF []
def o68 : Obj := oT [.str "self" 263, .str "thing" 264]
def o69 : Obj := oT []
def o70 : Obj := oFu .none "BadBegin.__init__" 4 0 .none .none
def o71 : Obj := oCF "BadBegin.__init__" 260 265 12 2 66 67 68 69 70
def o72 : Obj := oFu (.type "function") "BadBegin.__init__" 4 3 vM (.ref 71)
def o73 : Obj := oT [.str "thing" 268]
def o74 (P : Params) : Obj := oD [kE P "__module__" 255 vM, kE P "__firstlineno__" 259 (.int 10 258), kE P "__init__" 267 (.ref 72), kE P "__static_attributes__" 269 (.ref 73), kE P "__doc__" 270 .none] 2
def o75 : Obj := oC "BadBegin" 59 75 74 248
def o76 : Obj := oSup 75
def o77 : Obj := oSub 75
def o78 : Obj := oT [.ref 24]
def o79 : Obj := oPr
def o80 (P : Params) : Obj := oD [kE P "__module__" 280 vM, kE P "__qualname__" 282 (.str "BadBook" 281), kE P "__firstlineno__" 284 (.int 14 283), kE P "__init__" 292 (.ref 91), kE P "__static_attributes__" 294 (.ref 92)] 5
def o81 : Obj := oT []
def o82 : Obj := oF [.int 16 0, .int 4 0, .ref 90]
def o83 : Obj := oCC "BadBook" 275 14 81 82
def o84 : Obj := oFr 83 80
def o85 : Obj := oT []
def o86 : Obj := oF []
def o87 : Obj := oT [.str "self" 288, .str "fault" 289]
def o88 : Obj := oT []
def o89 : Obj := oFu .none "BadBook.__init__" 5 0 .none .none
def o90 : Obj := oCF "BadBook.__init__" 285 290 16 2 85 86 87 88 89
def o91 : Obj := oFu (.type "function") "BadBook.__init__" 5 3 vM (.ref 90)
def o92 : Obj := oT [.str "fault" 293]
def o93 (P : Params) : Obj := oD [kE P "__module__" 280 vM, kE P "__firstlineno__" 284 (.int 14 283), kE P "__init__" 292 (.ref 91), kE P "__static_attributes__" 294 (.ref 92), kE P "__doc__" 295 .none] 2
def o94 : Obj := oC "BadBook" 78 94 93 273
def o95 : Obj := oSup 94
def o96 : Obj := oSub 94
def o97 : Obj := oT [.ref 24]
def o98 : Obj := oPr
def o99 (P : Params) : Obj := oD [kE P "__module__" 305 vM, kE P "__qualname__" 307 (.str "BadBooks" 306), kE P "__firstlineno__" 309 (.int 18 308), kE P "__init__" 317 (.ref 110), kE P "__static_attributes__" 319 (.ref 111)] 5
def o100 : Obj := oT []
def o101 : Obj := oF [.int 20 0, .int 4 0, .ref 109]
def o102 : Obj := oCC "BadBooks" 300 18 100 101
def o103 : Obj := oFr 102 99
def o104 : Obj := oT []
def o105 : Obj := oF []
def o106 : Obj := oT [.str "self" 313, .str "fault" 314]
def o107 : Obj := oT []
def o108 : Obj := oFu .none "BadBooks.__init__" 6 0 .none .none
def o109 : Obj := oCF "BadBooks.__init__" 310 315 20 2 104 105 106 107 108
def o110 : Obj := oFu (.type "function") "BadBooks.__init__" 6 3 vM (.ref 109)
def o111 : Obj := oT [.str "fault" 318]
def o112 (P : Params) : Obj := oD [kE P "__module__" 305 vM, kE P "__firstlineno__" 309 (.int 18 308), kE P "__init__" 317 (.ref 110), kE P "__static_attributes__" 319 (.ref 111), kE P "__doc__" 320 .none] 2
def o113 : Obj := oC "BadBooks" 97 113 112 298
def o114 : Obj := oSup 113
def o115 : Obj := oSub 113
def o116 : Obj := oT [.ref 24]
def o117 : Obj := oPr
def o118 (P : Params) : Obj := oD [kE P "__module__" 330 vM, kE P "__qualname__" 332 (.str "BadClient" 331), kE P "__firstlineno__" 334 (.int 22 333), kE P "__init__" 342 (.ref 129), kE P "__static_attributes__" 344 (.ref 130)] 5
def o119 : Obj := oT []
def o120 : Obj := oF [.int 24 0, .int 4 0, .ref 128]
def o121 : Obj := oCC "BadClient" 325 22 119 120
def o122 : Obj := oFr 121 118
def o123 : Obj := oT []
def o124 : Obj := oF []
def o125 : Obj := oT [.str "self" 338, .str "thing" 339]
def o126 : Obj := oT []
def o127 : Obj := oFu .none "BadClient.__init__" 7 0 .none .none
def o128 : Obj := oCF "BadClient.__init__" 335 340 24 2 123 124 125 126 127
def o129 : Obj := oFu (.type "function") "BadClient.__init__" 7 3 vM (.ref 128)
def o130 : Obj := oT [.str "thing" 343]
def o131 (P : Params) : Obj := oD [kE P "__module__" 330 vM, kE P "__firstlineno__" 334 (.int 22 333), kE P "__init__" 342 (.ref 129), kE P "__static_attributes__" 344 (.ref 130), kE P "__doc__" 345 .none] 2
def o132 : Obj := oC "BadClient" 116 132 131 323
def o133 : Obj := oSup 132
def o134 : Obj := oSub 132
def o135 : Obj := oT [.ref 24]
def o136 : Obj := oPr
def o137 (P : Params) : Obj := oD [kE P "__module__" 355 vM, kE P "__qualname__" 357 (.str "BadClients" 356), kE P "__firstlineno__" 359 (.int 26 358), kE P "__init__" 367 (.ref 148), kE P "__static_attributes__" 369 (.ref 149)] 5
def o138 : Obj := oT []
def o139 : Obj := oF [.int 28 0, .int 4 0, .ref 147]
def o140 : Obj := oCC "BadClients" 350 26 138 139
def o141 : Obj := oFr 140 137
def o142 : Obj := oT []
def o143 : Obj := oF []
def o144 : Obj := oT [.str "self" 363, .str "thing" 364]
def o145 : Obj := oT []
def o146 : Obj := oFu .none "BadClients.__init__" 8 0 .none .none
def o147 : Obj := oCF "BadClients.__init__" 360 365 28 2 142 143 144 145 146
def o148 : Obj := oFu (.type "function") "BadClients.__init__" 8 3 vM (.ref 147)
def o149 : Obj := oT [.str "thing" 368]
def o150 (P : Params) : Obj := oD [kE P "__module__" 355 vM, kE P "__firstlineno__" 359 (.int 26 358), kE P "__init__" 367 (.ref 148), kE P "__static_attributes__" 369 (.ref 149), kE P "__doc__" 370 .none] 2
def o151 : Obj := oC "BadClients" 135 151 150 348
def o152 : Obj := oSup 151
def o153 : Obj := oSub 151
def o154 : Obj := oT [.ref 24]
def o155 : Obj := oPr
def o156 (P : Params) : Obj := oD [kE P "__module__" 380 vM, kE P "__qualname__" 382 (.str "BadCouncil" 381), kE P "__firstlineno__" 384 (.int 30 383), kE P "__init__" 392 (.ref 167), kE P "__static_attributes__" 394 (.ref 168)] 5
def o157 : Obj := oT []
def o158 : Obj := oF [.int 32 0, .int 4 0, .ref 166]
def o159 : Obj := oCC "BadCouncil" 375 30 157 158
def o160 : Obj := oFr 159 156
def o161 : Obj := oT []
def o162 : Obj := oF []
def o163 : Obj := oT [.str "self" 388, .str "thing" 389]
def o164 : Obj := oT []
def o165 : Obj := oFu .none "BadCouncil.__init__" 9 0 .none .none
def o166 : Obj := oCF "BadCouncil.__init__" 385 390 32 2 161 162 163 164 165
def o167 : Obj := oFu (.type "function") "BadCouncil.__init__" 9 3 vM (.ref 166)
def o168 : Obj := oT [.str "thing" 393]
def o169 (P : Params) : Obj := oD [kE P "__module__" 380 vM, kE P "__firstlineno__" 384 (.int 30 383), kE P "__init__" 392 (.ref 167), kE P "__static_attributes__" 394 (.ref 168), kE P "__doc__" 395 .none] 2
def o170 : Obj := oC "BadCouncil" 154 170 169 373
def o171 : Obj := oSup 170
def o172 : Obj := oSub 170
def o173 : Obj := oT [.ref 24]
def o174 : Obj := oPr
def o175 (P : Params) : Obj := oD [kE P "__module__" 405 vM, kE P "__qualname__" 407 (.str "BadCouncilbook" 406), kE P "__firstlineno__" 409 (.int 34 408), kE P "__init__" 417 (.ref 186), kE P "__static_attributes__" 419 (.ref 187)] 5
def o176 : Obj := oT []
def o177 : Obj := oF [.int 36 0, .int 4 0, .ref 185]
def o178 : Obj := oCC "BadCouncilbook" 400 34 176 177
def o179 : Obj := oFr 178 175
def o180 : Obj := oT []
def o181 : Obj := oF []
def o182 : Obj := oT [.str "self" 413, .str "thing" 414]
def o183 : Obj := oT []
def o184 : Obj := oFu .none "BadCouncilbook.__init__" 10 0 .none .none
def o185 : Obj := oCF "BadCouncilbook.__init__" 410 415 36 2 180 181 182 183 184
def o186 : Obj := oFu (.type "function") "BadCouncilbook.__init__" 10 3 vM (.ref 185)
def o187 : Obj := oT [.str "thing" 418]
def o188 (P : Params) : Obj := oD [kE P "__module__" 405 vM, kE P "__firstlineno__" 409 (.int 34 408), kE P "__init__" 417 (.ref 186), kE P "__static_attributes__" 419 (.ref 187), kE P "__doc__" 420 .none] 2
def o189 : Obj := oC "BadCouncilbook" 173 189 188 398
def o190 : Obj := oSup 189
def o191 : Obj := oSub 189
def o192 : Obj := oT [.ref 24]
def o193 : Obj := oPr
def o194 (P : Params) : Obj := oD [kE P "__module__" 430 vM, kE P "__qualname__" 432 (.str "BadDeed" 431), kE P "__firstlineno__" 434 (.int 38 433), kE P "__init__" 442 (.ref 205), kE P "__static_attributes__" 444 (.ref 206)] 5
def o195 : Obj := oT []
def o196 : Obj := oF [.int 40 0, .int 4 0, .ref 204]
def o197 : Obj := oCC "BadDeed" 425 38 195 196
def o198 : Obj := oFr 197 194
def o199 : Obj := oT []
def o200 : Obj := oF []
def o201 : Obj := oT [.str "self" 438, .str "thing" 439]
def o202 : Obj := oT []
def o203 : Obj := oFu .none "BadDeed.__init__" 11 0 .none .none
def o204 : Obj := oCF "BadDeed.__init__" 435 440 40 2 199 200 201 202 203
def o205 : Obj := oFu (.type "function") "BadDeed.__init__" 11 3 vM (.ref 204)
def o206 : Obj := oT [.str "thing" 443]
def o207 (P : Params) : Obj := oD [kE P "__module__" 430 vM, kE P "__firstlineno__" 434 (.int 38 433), kE P "__init__" 442 (.ref 205), kE P "__static_attributes__" 444 (.ref 206), kE P "__doc__" 445 .none] 2
def o208 : Obj := oC "BadDeed" 192 208 207 423
def o209 : Obj := oSup 208
def o210 : Obj := oSub 208
def o211 : Obj := oT [.ref 24]
def o212 : Obj := oPr
def o213 (P : Params) : Obj := oD [kE P "__module__" 455 vM, kE P "__qualname__" 457 (.str "BadDeedRow" 456), kE P "__firstlineno__" 459 (.int 42 458), kE P "__init__" 467 (.ref 224), kE P "__static_attributes__" 469 (.ref 225)] 5
def o214 : Obj := oT []
def o215 : Obj := oF [.int 44 0, .int 4 0, .ref 223]
def o216 : Obj := oCC "BadDeedRow" 450 42 214 215
def o217 : Obj := oFr 216 213
def o218 : Obj := oT []
def o219 : Obj := oF []
def o220 : Obj := oT [.str "self" 463, .str "thing" 464]
def o221 : Obj := oT []
def o222 : Obj := oFu .none "BadDeedRow.__init__" 12 0 .none .none
def o223 : Obj := oCF "BadDeedRow.__init__" 460 465 44 2 218 219 220 221 222
def o224 : Obj := oFu (.type "function") "BadDeedRow.__init__" 12 3 vM (.ref 223)
def o225 : Obj := oT [.str "thing" 468]
def o226 (P : Params) : Obj := oD [kE P "__module__" 455 vM, kE P "__firstlineno__" 459 (.int 42 458), kE P "__init__" 467 (.ref 224), kE P "__static_attributes__" 469 (.ref 225), kE P "__doc__" 470 .none] 2
def o227 : Obj := oC "BadDeedRow" 211 227 226 448
def o228 : Obj := oSup 227
def o229 : Obj := oSub 227
def o230 : Obj := oT [.ref 24]
def o231 : Obj := oPr
def o232 (P : Params) : Obj := oD [kE P "__module__" 480 vM, kE P "__qualname__" 482 (.str "BadFailed" 481), kE P "__firstlineno__" 484 (.int 46 483), kE P "__init__" 492 (.ref 243), kE P "__static_attributes__" 494 (.ref 244)] 5
def o233 : Obj := oT []
def o234 : Obj := oF [.int 48 0, .int 4 0, .ref 242]
def o235 : Obj := oCC "BadFailed" 475 46 233 234
def o236 : Obj := oFr 235 232
def o237 : Obj := oT []
def o238 : Obj := oF []
def o239 : Obj := oT [.str "self" 488, .str "thing" 489]
def o240 : Obj := oT []
def o241 : Obj := oFu .none "BadFailed.__init__" 13 0 .none .none
def o242 : Obj := oCF "BadFailed.__init__" 485 490 48 2 237 238 239 240 241
def o243 : Obj := oFu (.type "function") "BadFailed.__init__" 13 3 vM (.ref 242)
def o244 : Obj := oT [.str "thing" 493]
def o245 (P : Params) : Obj := oD [kE P "__module__" 480 vM, kE P "__firstlineno__" 484 (.int 46 483), kE P "__init__" 492 (.ref 243), kE P "__static_attributes__" 494 (.ref 244), kE P "__doc__" 495 .none] 2
def o246 : Obj := oC "BadFailed" 230 246 245 473
def o247 : Obj := oSup 246
def o248 : Obj := oSub 246
def o249 : Obj := oT [.ref 24]
def o250 : Obj := oPr
def o251 (P : Params) : Obj := oD [kE P "__module__" 505 vM, kE P "__qualname__" 507 (.str "BadFailing" 506), kE P "__firstlineno__" 509 (.int 50 508), kE P "__init__" 517 (.ref 262), kE P "__static_attributes__" 519 (.ref 263)] 5
def o252 : Obj := oT []
def o253 : Obj := oF [.int 52 0, .int 4 0, .ref 261]
def o254 : Obj := oCC "BadFailing" 500 50 252 253
def o255 : Obj := oFr 254 251
def o256 : Obj := oT []
def o257 : Obj := oF []
def o258 : Obj := oT [.str "self" 513, .str "thing" 514]
def o259 : Obj := oT []
def o260 : Obj := oFu .none "BadFailing.__init__" 14 0 .none .none
def o261 : Obj := oCF "BadFailing.__init__" 510 515 52 2 256 257 258 259 260
def o262 : Obj := oFu (.type "function") "BadFailing.__init__" 14 3 vM (.ref 261)
def o263 : Obj := oT [.str "thing" 518]
def o264 (P : Params) : Obj := oD [kE P "__module__" 505 vM, kE P "__firstlineno__" 509 (.int 50 508), kE P "__init__" 517 (.ref 262), kE P "__static_attributes__" 519 (.ref 263), kE P "__doc__" 520 .none] 2
def o265 : Obj := oC "BadFailing" 249 265 264 498
def o266 : Obj := oSup 265
def o267 : Obj := oSub 265
def o268 : Obj := oT [.ref 24]
def o269 : Obj := oPr
def o270 (P : Params) : Obj := oD [kE P "__module__" 530 vM, kE P "__qualname__" 532 (.str "BadFallen" 531), kE P "__firstlineno__" 534 (.int 54 533), kE P "__init__" 542 (.ref 281), kE P "__static_attributes__" 544 (.ref 282)] 5
def o271 : Obj := oT []
def o272 : Obj := oF [.int 56 0, .int 4 0, .ref 280]
def o273 : Obj := oCC "BadFallen" 525 54 271 272
def o274 : Obj := oFr 273 270
def o275 : Obj := oT []
def o276 : Obj := oF []
def o277 : Obj := oT [.str "self" 538, .str "thing" 539]
def o278 : Obj := oT []
def o279 : Obj := oFu .none "BadFallen.__init__" 15 0 .none .none
def o280 : Obj := oCF "BadFallen.__init__" 535 540 56 2 275 276 277 278 279
def o281 : Obj := oFu (.type "function") "BadFallen.__init__" 15 3 vM (.ref 280)
def o282 : Obj := oT [.str "thing" 543]
def o283 (P : Params) : Obj := oD [kE P "__module__" 530 vM, kE P "__firstlineno__" 534 (.int 54 533), kE P "__init__" 542 (.ref 281), kE P "__static_attributes__" 544 (.ref 282), kE P "__doc__" 545 .none] 2
def o284 : Obj := oC "BadFallen" 268 284 283 523
def o285 : Obj := oSup 284
def o286 : Obj := oSub 284
def o287 : Obj := oT [.ref 24]
def o288 : Obj := oPr
def o289 (P : Params) : Obj := oD [kE P "__module__" 555 vM, kE P "__qualname__" 557 (.str "BadFamily" 556), kE P "__firstlineno__" 559 (.int 58 558), kE P "__init__" 567 (.ref 300), kE P "__static_attributes__" 569 (.ref 301)] 5
def o290 : Obj := oT []
def o291 : Obj := oF [.int 60 0, .int 4 0, .ref 299]
def o292 : Obj := oCC "BadFamily" 550 58 290 291
def o293 : Obj := oFr 292 289
def o294 : Obj := oT []
def o295 : Obj := oF []
def o296 : Obj := oT [.str "self" 563, .str "thing" 564]
def o297 : Obj := oT []
def o298 : Obj := oFu .none "BadFamily.__init__" 16 0 .none .none
def o299 : Obj := oCF "BadFamily.__init__" 560 565 60 2 294 295 296 297 298
def o300 : Obj := oFu (.type "function") "BadFamily.__init__" 16 3 vM (.ref 299)
def o301 : Obj := oT [.str "thing" 568]
def o302 (P : Params) : Obj := oD [kE P "__module__" 555 vM, kE P "__firstlineno__" 559 (.int 58 558), kE P "__init__" 567 (.ref 300), kE P "__static_attributes__" 569 (.ref 301), kE P "__doc__" 570 .none] 2
def o303 : Obj := oC "BadFamily" 287 303 302 548
def o304 : Obj := oSup 303
def o305 : Obj := oSub 303
def o306 : Obj := oT [.ref 24]
def o307 : Obj := oPr
def o308 (P : Params) : Obj := oD [kE P "__module__" 580 vM, kE P "__qualname__" 582 (.str "BadFaults" 581), kE P "__firstlineno__" 584 (.int 62 583), kE P "__init__" 592 (.ref 319), kE P "__static_attributes__" 594 (.ref 320)] 5
def o309 : Obj := oT []
def o310 : Obj := oF [.int 64 0, .int 4 0, .ref 318]
def o311 : Obj := oCC "BadFaults" 575 62 309 310
def o312 : Obj := oFr 311 308
def o313 : Obj := oT []
def o314 : Obj := oF []
def o315 : Obj := oT [.str "self" 588, .str "thing" 589]
def o316 : Obj := oT []
def o317 : Obj := oFu .none "BadFaults.__init__" 17 0 .none .none
def o318 : Obj := oCF "BadFaults.__init__" 585 590 64 2 313 314 315 316 317
def o319 : Obj := oFu (.type "function") "BadFaults.__init__" 17 3 vM (.ref 318)
def o320 : Obj := oT [.str "thing" 593]
def o321 (P : Params) : Obj := oD [kE P "__module__" 580 vM, kE P "__firstlineno__" 584 (.int 62 583), kE P "__init__" 592 (.ref 319), kE P "__static_attributes__" 594 (.ref 320), kE P "__doc__" 595 .none] 2
def o322 : Obj := oC "BadFaults" 306 322 321 573
def o323 : Obj := oSup 322
def o324 : Obj := oSub 322
def o325 : Obj := oT [.ref 24]
def o326 : Obj := oPr
def o327 (P : Params) : Obj := oD [kE P "__module__" 605 vM, kE P "__qualname__" 607 (.str "BadFirst" 606), kE P "__firstlineno__" 609 (.int 66 608), kE P "__init__" 617 (.ref 338), kE P "__static_attributes__" 619 (.ref 339)] 5
def o328 : Obj := oT []
def o329 : Obj := oF [.int 68 0, .int 4 0, .ref 337]
def o330 : Obj := oCC "BadFirst" 600 66 328 329
def o331 : Obj := oFr 330 327
def o332 : Obj := oT []
def o333 : Obj := oF []
def o334 : Obj := oT [.str "self" 613, .str "thing" 614]
def o335 : Obj := oT []
def o336 : Obj := oFu .none "BadFirst.__init__" 18 0 .none .none
def o337 : Obj := oCF "BadFirst.__init__" 610 615 68 2 332 333 334 335 336
def o338 : Obj := oFu (.type "function") "BadFirst.__init__" 18 3 vM (.ref 337)
def o339 : Obj := oT [.str "thing" 618]
def o340 (P : Params) : Obj := oD [kE P "__module__" 605 vM, kE P "__firstlineno__" 609 (.int 66 608), kE P "__init__" 617 (.ref 338), kE P "__static_attributes__" 619 (.ref 339), kE P "__doc__" 620 .none] 2
def o341 : Obj := oC "BadFirst" 325 341 340 598
def o342 : Obj := oSup 341
def o343 : Obj := oSub 341
def o344 : Obj := oT [.ref 24]
def o345 : Obj := oPr
def o346 (P : Params) : Obj := oD [kE P "__module__" 630 vM, kE P "__qualname__" 632 (.str "BadForm" 631), kE P "__firstlineno__" 634 (.int 70 633), kE P "__init__" 642 (.ref 357), kE P "__static_attributes__" 644 (.ref 358)] 5
def o347 : Obj := oT []
def o348 : Obj := oF [.int 72 0, .int 4 0, .ref 356]
def o349 : Obj := oCC "BadForm" 625 70 347 348
def o350 : Obj := oFr 349 346
def o351 : Obj := oT []
def o352 : Obj := oF []
def o353 : Obj := oT [.str "self" 638, .str "thing" 639]
def o354 : Obj := oT []
def o355 : Obj := oFu .none "BadForm.__init__" 19 0 .none .none
def o356 : Obj := oCF "BadForm.__init__" 635 640 72 2 351 352 353 354 355
def o357 : Obj := oFu (.type "function") "BadForm.__init__" 19 3 vM (.ref 356)
def o358 : Obj := oT [.str "thing" 643]
def o359 (P : Params) : Obj := oD [kE P "__module__" 630 vM, kE P "__firstlineno__" 634 (.int 70 633), kE P "__init__" 642 (.ref 357), kE P "__static_attributes__" 644 (.ref 358), kE P "__doc__" 645 .none] 2
def o360 : Obj := oC "BadForm" 344 360 359 623
def o361 : Obj := oSup 360
def o362 : Obj := oSub 360
def o363 : Obj := oT [.ref 24]
def o364 : Obj := oPr
def o365 (P : Params) : Obj := oD [kE P "__module__" 655 vM, kE P "__qualname__" 657 (.str "BadHistory" 656), kE P "__firstlineno__" 659 (.int 74 658), kE P "__init__" 667 (.ref 376), kE P "__static_attributes__" 669 (.ref 377)] 5
def o366 : Obj := oT []
def o367 : Obj := oF [.int 76 0, .int 4 0, .ref 375]
def o368 : Obj := oCC "BadHistory" 650 74 366 367
def o369 : Obj := oFr 368 365
def o370 : Obj := oT []
def o371 : Obj := oF []
def o372 : Obj := oT [.str "self" 663, .str "fault" 664]
def o373 : Obj := oT []
def o374 : Obj := oFu .none "BadHistory.__init__" 20 0 .none .none
def o375 : Obj := oCF "BadHistory.__init__" 660 665 76 2 370 371 372 373 374
def o376 : Obj := oFu (.type "function") "BadHistory.__init__" 20 3 vM (.ref 375)
def o377 : Obj := oT [.str "fault" 668]
def o378 (P : Params) : Obj := oD [kE P "__module__" 655 vM, kE P "__firstlineno__" 659 (.int 74 658), kE P "__init__" 667 (.ref 376), kE P "__static_attributes__" 669 (.ref 377), kE P "__doc__" 670 .none] 2
def o379 : Obj := oC "BadHistory" 363 379 378 648
def o380 : Obj := oSup 379
def o381 : Obj := oSub 379
def o382 : Obj := oT [.ref 24]
def o383 : Obj := oPr
def o384 (P : Params) : Obj := oD [kE P "__module__" 680 vM, kE P "__qualname__" 682 (.str "BadHistoryRow" 681), kE P "__firstlineno__" 684 (.int 78 683), kE P "__init__" 692 (.ref 395), kE P "__static_attributes__" 694 (.ref 396)] 5
def o385 : Obj := oT []
def o386 : Obj := oF [.int 80 0, .int 4 0, .ref 394]
def o387 : Obj := oCC "BadHistoryRow" 675 78 385 386
def o388 : Obj := oFr 387 384
def o389 : Obj := oT []
def o390 : Obj := oF []
def o391 : Obj := oT [.str "self" 688, .str "thing" 689]
def o392 : Obj := oT []
def o393 : Obj := oFu .none "BadHistoryRow.__init__" 21 0 .none .none
def o394 : Obj := oCF "BadHistoryRow.__init__" 685 690 80 2 389 390 391 392 393
def o395 : Obj := oFu (.type "function") "BadHistoryRow.__init__" 21 3 vM (.ref 394)
def o396 : Obj := oT [.str "thing" 693]
def o397 (P : Params) : Obj := oD [kE P "__module__" 680 vM, kE P "__firstlineno__" 684 (.int 78 683), kE P "__init__" 692 (.ref 395), kE P "__static_attributes__" 694 (.ref 396), kE P "__doc__" 695 .none] 2
def o398 : Obj := oC "BadHistoryRow" 382 398 397 673
def o399 : Obj := oSup 398
def o400 : Obj := oSub 398
def o401 : Obj := oT [.ref 24]
def o402 : Obj := oPr
def o403 (P : Params) : Obj := oD [kE P "__module__" 705 vM, kE P "__qualname__" 707 (.str "BadInner" 706), kE P "__firstlineno__" 709 (.int 82 708), kE P "__init__" 717 (.ref 414), kE P "__static_attributes__" 719 (.ref 415)] 5
def o404 : Obj := oT []
def o405 : Obj := oF [.int 84 0, .int 4 0, .ref 413]
def o406 : Obj := oCC "BadInner" 700 82 404 405
def o407 : Obj := oFr 406 403
def o408 : Obj := oT []
def o409 : Obj := oF []
def o410 : Obj := oT [.str "self" 713, .str "thing" 714]
def o411 : Obj := oT []
def o412 : Obj := oFu .none "BadInner.__init__" 22 0 .none .none
def o413 : Obj := oCF "BadInner.__init__" 710 715 84 2 408 409 410 411 412
def o414 : Obj := oFu (.type "function") "BadInner.__init__" 22 3 vM (.ref 413)
def o415 : Obj := oT [.str "thing" 718]
def o416 (P : Params) : Obj := oD [kE P "__module__" 705 vM, kE P "__firstlineno__" 709 (.int 82 708), kE P "__init__" 717 (.ref 414), kE P "__static_attributes__" 719 (.ref 415), kE P "__doc__" 720 .none] 2
def o417 : Obj := oC "BadInner" 401 417 416 698
def o418 : Obj := oSup 417
def o419 : Obj := oSub 417
def o420 : Obj := oT [.ref 24]
def o421 : Obj := oPr
def o422 (P : Params) : Obj := oD [kE P "__module__" 730 vM, kE P "__qualname__" 732 (.str "BadKeeper" 731), kE P "__firstlineno__" 734 (.int 86 733), kE P "__init__" 742 (.ref 433), kE P "__static_attributes__" 744 (.ref 434)] 5
def o423 : Obj := oT []
def o424 : Obj := oF [.int 88 0, .int 4 0, .ref 432]
def o425 : Obj := oCC "BadKeeper" 725 86 423 424
def o426 : Obj := oFr 425 422
def o427 : Obj := oT []
def o428 : Obj := oF []
def o429 : Obj := oT [.str "self" 738, .str "thing" 739]
def o430 : Obj := oT []
def o431 : Obj := oFu .none "BadKeeper.__init__" 23 0 .none .none
def o432 : Obj := oCF "BadKeeper.__init__" 735 740 88 2 427 428 429 430 431
def o433 : Obj := oFu (.type "function") "BadKeeper.__init__" 23 3 vM (.ref 432)
def o434 : Obj := oT [.str "thing" 743]
def o435 (P : Params) : Obj := oD [kE P "__module__" 730 vM, kE P "__firstlineno__" 734 (.int 86 733), kE P "__init__" 742 (.ref 433), kE P "__static_attributes__" 744 (.ref 434), kE P "__doc__" 745 .none] 2
def o436 : Obj := oC "BadKeeper" 420 436 435 723
def o437 : Obj := oSup 436
def o438 : Obj := oSub 436
def o439 : Obj := oT [.ref 24]
def o440 : Obj := oPr
def o441 (P : Params) : Obj := oD [kE P "__module__" 755 vM, kE P "__qualname__" 757 (.str "BadKeepers" 756), kE P "__firstlineno__" 759 (.int 90 758), kE P "__init__" 767 (.ref 452), kE P "__static_attributes__" 769 (.ref 453)] 5
def o442 : Obj := oT []
def o443 : Obj := oF [.int 92 0, .int 4 0, .ref 451]
def o444 : Obj := oCC "BadKeepers" 750 90 442 443
def o445 : Obj := oFr 444 441
def o446 : Obj := oT []
def o447 : Obj := oF []
def o448 : Obj := oT [.str "self" 763, .str "thing" 764]
def o449 : Obj := oT []
def o450 : Obj := oFu .none "BadKeepers.__init__" 24 0 .none .none
def o451 : Obj := oCF "BadKeepers.__init__" 760 765 92 2 446 447 448 449 450
def o452 : Obj := oFu (.type "function") "BadKeepers.__init__" 24 3 vM (.ref 451)
def o453 : Obj := oT [.str "thing" 768]
def o454 (P : Params) : Obj := oD [kE P "__module__" 755 vM, kE P "__firstlineno__" 759 (.int 90 758), kE P "__init__" 767 (.ref 452), kE P "__static_attributes__" 769 (.ref 453), kE P "__doc__" 770 .none] 2
def o455 : Obj := oC "BadKeepers" 439 455 454 748
def o456 : Obj := oSup 455
def o457 : Obj := oSub 455
def o458 : Obj := oT [.ref 24]
def o459 : Obj := oPr
def o460 (P : Params) : Obj := oD [kE P "__module__" 780 vM, kE P "__qualname__" 782 (.str "BadKind" 781), kE P "__firstlineno__" 784 (.int 94 783), kE P "__init__" 792 (.ref 471), kE P "__static_attributes__" 794 (.ref 472)] 5
def o461 : Obj := oT []
def o462 : Obj := oF [.int 96 0, .int 4 0, .ref 470]
def o463 : Obj := oCC "BadKind" 775 94 461 462
def o464 : Obj := oFr 463 460
def o465 : Obj := oT []
def o466 : Obj := oF []
def o467 : Obj := oT [.str "self" 788, .str "thing" 789]
def o468 : Obj := oT []
def o469 : Obj := oFu .none "BadKind.__init__" 25 0 .none .none
def o470 : Obj := oCF "BadKind.__init__" 785 790 96 2 465 466 467 468 469
def o471 : Obj := oFu (.type "function") "BadKind.__init__" 25 3 vM (.ref 470)
def o472 : Obj := oT [.str "thing" 793]
def o473 (P : Params) : Obj := oD [kE P "__module__" 780 vM, kE P "__firstlineno__" 784 (.int 94 783), kE P "__init__" 792 (.ref 471), kE P "__static_attributes__" 794 (.ref 472), kE P "__doc__" 795 .none] 2
def o474 : Obj := oC "BadKind" 458 474 473 773
def o475 : Obj := oSup 474
def o476 : Obj := oSub 474
def o477 : Obj := oT [.ref 24]
def o478 : Obj := oPr
def o479 (P : Params) : Obj := oD [kE P "__module__" 805 vM, kE P "__qualname__" 807 (.str "BadLast" 806), kE P "__firstlineno__" 809 (.int 98 808), kE P "__init__" 817 (.ref 490), kE P "__static_attributes__" 819 (.ref 491)] 5
def o480 : Obj := oT []
def o481 : Obj := oF [.int 100 0, .int 4 0, .ref 489]
def o482 : Obj := oCC "BadLast" 800 98 480 481
def o483 : Obj := oFr 482 479
def o484 : Obj := oT []
def o485 : Obj := oF []
def o486 : Obj := oT [.str "self" 813, .str "thing" 814]
def o487 : Obj := oT []
def o488 : Obj := oFu .none "BadLast.__init__" 26 0 .none .none
def o489 : Obj := oCF "BadLast.__init__" 810 815 100 2 484 485 486 487 488
def o490 : Obj := oFu (.type "function") "BadLast.__init__" 26 3 vM (.ref 489)
def o491 : Obj := oT [.str "thing" 818]
def o492 (P : Params) : Obj := oD [kE P "__module__" 805 vM, kE P "__firstlineno__" 809 (.int 98 808), kE P "__init__" 817 (.ref 490), kE P "__static_attributes__" 819 (.ref 491), kE P "__doc__" 820 .none] 2
def o493 : Obj := oC "BadLast" 477 493 492 798
def o494 : Obj := oSup 493
def o495 : Obj := oSub 493
def o496 : Obj := oT [.ref 24]
def o497 : Obj := oPr
def o498 (P : Params) : Obj := oD [kE P "__module__" 830 vM, kE P "__qualname__" 832 (.str "BadLot" 831), kE P "__firstlineno__" 834 (.int 102 833), kE P "__init__" 842 (.ref 509), kE P "__static_attributes__" 844 (.ref 510)] 5
def o499 : Obj := oT []
def o500 : Obj := oF [.int 104 0, .int 4 0, .ref 508]
def o501 : Obj := oCC "BadLot" 825 102 499 500
def o502 : Obj := oFr 501 498
def o503 : Obj := oT []
def o504 : Obj := oF []
def o505 : Obj := oT [.str "self" 838, .str "thing" 839]
def o506 : Obj := oT []
def o507 : Obj := oFu .none "BadLot.__init__" 27 0 .none .none
def o508 : Obj := oCF "BadLot.__init__" 835 840 104 2 503 504 505 506 507
def o509 : Obj := oFu (.type "function") "BadLot.__init__" 27 3 vM (.ref 508)
def o510 : Obj := oT [.str "thing" 843]
def o511 (P : Params) : Obj := oD [kE P "__module__" 830 vM, kE P "__firstlineno__" 834 (.int 102 833), kE P "__init__" 842 (.ref 509), kE P "__static_attributes__" 844 (.ref 510), kE P "__doc__" 845 .none] 2
def o512 : Obj := oC "BadLot" 496 512 511 823
def o513 : Obj := oSup 512
def o514 : Obj := oSub 512
def o515 : Obj := oT [.ref 24]
def o516 : Obj := oPr
def o517 (P : Params) : Obj := oD [kE P "__module__" 855 vM, kE P "__qualname__" 857 (.str "BadLots" 856), kE P "__firstlineno__" 859 (.int 106 858), kE P "__init__" 867 (.ref 528), kE P "__static_attributes__" 869 (.ref 529)] 5
def o518 : Obj := oT []
def o519 : Obj := oF [.int 108 0, .int 4 0, .ref 527]
def o520 : Obj := oCC "BadLots" 850 106 518 519
def o521 : Obj := oFr 520 517
def o522 : Obj := oT []
def o523 : Obj := oF []
def o524 : Obj := oT [.str "self" 863, .str "index" 864]
def o525 : Obj := oT []
def o526 : Obj := oFu .none "BadLots.__init__" 28 0 .none .none
def o527 : Obj := oCF "BadLots.__init__" 860 865 108 2 522 523 524 525 526
def o528 : Obj := oFu (.type "function") "BadLots.__init__" 28 3 vM (.ref 527)
def o529 : Obj := oT [.str "index" 868]
def o530 (P : Params) : Obj := oD [kE P "__module__" 855 vM, kE P "__firstlineno__" 859 (.int 106 858), kE P "__init__" 867 (.ref 528), kE P "__static_attributes__" 869 (.ref 529), kE P "__doc__" 870 .none] 2
def o531 : Obj := oC "BadLots" 515 531 530 848
def o532 : Obj := oSup 531
def o533 : Obj := oSub 531
def o534 : Obj := oT [.ref 24]
def o535 : Obj := oPr
def o536 (P : Params) : Obj := oD [kE P "__module__" 880 vM, kE P "__qualname__" 882 (.str "BadMany" 881), kE P "__firstlineno__" 884 (.int 110 883), kE P "__init__" 892 (.ref 547), kE P "__static_attributes__" 894 (.ref 548)] 5
def o537 : Obj := oT []
def o538 : Obj := oF [.int 112 0, .int 4 0, .ref 546]
def o539 : Obj := oCC "BadMany" 875 110 537 538
def o540 : Obj := oFr 539 536
def o541 : Obj := oT []
def o542 : Obj := oF []
def o543 : Obj := oT [.str "self" 888, .str "thing" 889]
def o544 : Obj := oT []
def o545 : Obj := oFu .none "BadMany.__init__" 29 0 .none .none
def o546 : Obj := oCF "BadMany.__init__" 885 890 112 2 541 542 543 544 545
def o547 : Obj := oFu (.type "function") "BadMany.__init__" 29 3 vM (.ref 546)
def o548 : Obj := oT [.str "thing" 893]
def o549 (P : Params) : Obj := oD [kE P "__module__" 880 vM, kE P "__firstlineno__" 884 (.int 110 883), kE P "__init__" 892 (.ref 547), kE P "__static_attributes__" 894 (.ref 548), kE P "__doc__" 895 .none] 2
def o550 : Obj := oC "BadMany" 534 550 549 873
def o551 : Obj := oSup 550
def o552 : Obj := oSub 550
def o553 : Obj := oT [.ref 24]
def o554 : Obj := oPr
def o555 (P : Params) : Obj := oD [kE P "__module__" 905 vM, kE P "__qualname__" 907 (.str "BadMost" 906), kE P "__firstlineno__" 909 (.int 114 908), kE P "__init__" 917 (.ref 566), kE P "__static_attributes__" 919 (.ref 567)] 5
def o556 : Obj := oT []
def o557 : Obj := oF [.int 116 0, .int 4 0, .ref 565]
def o558 : Obj := oCC "BadMost" 900 114 556 557
def o559 : Obj := oFr 558 555
def o560 : Obj := oT []
def o561 : Obj := oF []
def o562 : Obj := oT [.str "self" 913, .str "thing" 914]
def o563 : Obj := oT []
def o564 : Obj := oFu .none "BadMost.__init__" 30 0 .none .none
def o565 : Obj := oCF "BadMost.__init__" 910 915 116 2 560 561 562 563 564
def o566 : Obj := oFu (.type "function") "BadMost.__init__" 30 3 vM (.ref 565)
def o567 : Obj := oT [.str "thing" 918]
def o568 (P : Params) : Obj := oD [kE P "__module__" 905 vM, kE P "__firstlineno__" 909 (.int 114 908), kE P "__init__" 917 (.ref 566), kE P "__static_attributes__" 919 (.ref 567), kE P "__doc__" 920 .none] 2
def o569 : Obj := oC "BadMost" 553 569 568 898
def o570 : Obj := oSup 569
def o571 : Obj := oSub 569
def o572 : Obj := oT [.ref 24]
def o573 : Obj := oPr
def o574 (P : Params) : Obj := oD [kE P "__module__" 930 vM, kE P "__qualname__" 932 (.str "BadName" 931), kE P "__firstlineno__" 934 (.int 118 933), kE P "__init__" 942 (.ref 585), kE P "__static_attributes__" 944 (.ref 586)] 5
def o575 : Obj := oT []
def o576 : Obj := oF [.int 120 0, .int 4 0, .ref 584]
def o577 : Obj := oCC "BadName" 925 118 575 576
def o578 : Obj := oFr 577 574
def o579 : Obj := oT []
def o580 : Obj := oF []
def o581 : Obj := oT [.str "self" 938, .str "thing" 939]
def o582 : Obj := oT []
def o583 : Obj := oFu .none "BadName.__init__" 31 0 .none .none
def o584 : Obj := oCF "BadName.__init__" 935 940 120 2 579 580 581 582 583
def o585 : Obj := oFu (.type "function") "BadName.__init__" 31 3 vM (.ref 584)
def o586 : Obj := oT [.str "thing" 943]
def o587 (P : Params) : Obj := oD [kE P "__module__" 930 vM, kE P "__firstlineno__" 934 (.int 118 933), kE P "__init__" 942 (.ref 585), kE P "__static_attributes__" 944 (.ref 586), kE P "__doc__" 945 .none] 2
def o588 : Obj := oC "BadName" 572 588 587 923
def o589 : Obj := oSup 588
def o590 : Obj := oSub 588
def o591 : Obj := oT [.ref 24]
def o592 : Obj := oPr
def o593 (P : Params) : Obj := oD [kE P "__module__" 955 vM, kE P "__qualname__" 957 (.str "BadNames" 956), kE P "__firstlineno__" 959 (.int 122 958), kE P "__init__" 967 (.ref 604), kE P "__static_attributes__" 969 (.ref 605)] 5
def o594 : Obj := oT []
def o595 : Obj := oF [.int 124 0, .int 4 0, .ref 603]
def o596 : Obj := oCC "BadNames" 950 122 594 595
def o597 : Obj := oFr 596 593
def o598 : Obj := oT []
def o599 : Obj := oF []
def o600 : Obj := oT [.str "self" 963, .str "thing" 964]
def o601 : Obj := oT []
def o602 : Obj := oFu .none "BadNames.__init__" 32 0 .none .none
def o603 : Obj := oCF "BadNames.__init__" 960 965 124 2 598 599 600 601 602
def o604 : Obj := oFu (.type "function") "BadNames.__init__" 32 3 vM (.ref 603)
def o605 : Obj := oT [.str "thing" 968]
def o606 (P : Params) : Obj := oD [kE P "__module__" 955 vM, kE P "__firstlineno__" 959 (.int 122 958), kE P "__init__" 967 (.ref 604), kE P "__static_attributes__" 969 (.ref 605), kE P "__doc__" 970 .none] 2
def o607 : Obj := oC "BadNames" 591 607 606 948
def o608 : Obj := oSup 607
def o609 : Obj := oSub 607
def o610 : Obj := oT [.ref 24]
def o611 : Obj := oPr
def o612 (P : Params) : Obj := oD [kE P "__module__" 980 vM, kE P "__qualname__" 982 (.str "BadNaming" 981), kE P "__firstlineno__" 984 (.int 126 983), kE P "__init__" 992 (.ref 623), kE P "__static_attributes__" 994 (.ref 624)] 5
def o613 : Obj := oT []
def o614 : Obj := oF [.int 128 0, .int 4 0, .ref 622]
def o615 : Obj := oCC "BadNaming" 975 126 613 614
def o616 : Obj := oFr 615 612
def o617 : Obj := oT []
def o618 : Obj := oF []
def o619 : Obj := oT [.str "self" 988, .str "thing" 989]
def o620 : Obj := oT []
def o621 : Obj := oFu .none "BadNaming.__init__" 33 0 .none .none
def o622 : Obj := oCF "BadNaming.__init__" 985 990 128 2 617 618 619 620 621
def o623 : Obj := oFu (.type "function") "BadNaming.__init__" 33 3 vM (.ref 622)
def o624 : Obj := oT [.str "thing" 993]
def o625 (P : Params) : Obj := oD [kE P "__module__" 980 vM, kE P "__firstlineno__" 984 (.int 126 983), kE P "__init__" 992 (.ref 623), kE P "__static_attributes__" 994 (.ref 624), kE P "__doc__" 995 .none] 2
def o626 : Obj := oC "BadNaming" 610 626 625 973
def o627 : Obj := oSup 626
def o628 : Obj := oSub 626
def o629 : Obj := oT [.ref 24]
def o630 : Obj := oPr
def o631 (P : Params) : Obj := oD [kE P "__module__" 1005 vM, kE P "__qualname__" 1007 (.str "BadNumber" 1006), kE P "__firstlineno__" 1009 (.int 130 1008), kE P "__init__" 1017 (.ref 642), kE P "__static_attributes__" 1019 (.ref 643)] 5
def o632 : Obj := oT []
def o633 : Obj := oF [.int 132 0, .int 4 0, .ref 641]
def o634 : Obj := oCC "BadNumber" 1000 130 632 633
def o635 : Obj := oFr 634 631
def o636 : Obj := oT []
def o637 : Obj := oF []
def o638 : Obj := oT [.str "self" 1013, .str "thing" 1014]
def o639 : Obj := oT []
def o640 : Obj := oFu .none "BadNumber.__init__" 34 0 .none .none
def o641 : Obj := oCF "BadNumber.__init__" 1010 1015 132 2 636 637 638 639 640
def o642 : Obj := oFu (.type "function") "BadNumber.__init__" 34 3 vM (.ref 641)
def o643 : Obj := oT [.str "thing" 1018]
def o644 (P : Params) : Obj := oD [kE P "__module__" 1005 vM, kE P "__firstlineno__" 1009 (.int 130 1008), kE P "__init__" 1017 (.ref 642), kE P "__static_attributes__" 1019 (.ref 643), kE P "__doc__" 1020 .none] 2
def o645 : Obj := oC "BadNumber" 629 645 644 998
def o646 : Obj := oSup 645
def o647 : Obj := oSub 645
def o648 : Obj := oT [.ref 24]
def o649 : Obj := oPr
def o650 (P : Params) : Obj := oD [kE P "__module__" 1030 vM, kE P "__qualname__" 1032 (.str "BadOrder" 1031), kE P "__firstlineno__" 1034 (.int 134 1033), kE P "__init__" 1042 (.ref 661), kE P "__static_attributes__" 1044 (.ref 662)] 5
def o651 : Obj := oT []
def o652 : Obj := oF [.int 136 0, .int 4 0, .ref 660]
def o653 : Obj := oCC "BadOrder" 1025 134 651 652
def o654 : Obj := oFr 653 650
def o655 : Obj := oT []
def o656 : Obj := oF []
def o657 : Obj := oT [.str "self" 1038, .str "thing" 1039]
def o658 : Obj := oT []
def o659 : Obj := oFu .none "BadOrder.__init__" 35 0 .none .none
def o660 : Obj := oCF "BadOrder.__init__" 1035 1040 136 2 655 656 657 658 659
def o661 : Obj := oFu (.type "function") "BadOrder.__init__" 35 3 vM (.ref 660)
def o662 : Obj := oT [.str "thing" 1043]
def o663 (P : Params) : Obj := oD [kE P "__module__" 1030 vM, kE P "__firstlineno__" 1034 (.int 134 1033), kE P "__init__" 1042 (.ref 661), kE P "__static_attributes__" 1044 (.ref 662), kE P "__doc__" 1045 .none] 2
def o664 : Obj := oC "BadOrder" 648 664 663 1023
def o665 : Obj := oSup 664
def o666 : Obj := oSub 664
def o667 : Obj := oT [.ref 24]
def o668 : Obj := oPr
def o669 (P : Params) : Obj := oD [kE P "__module__" 1055 vM, kE P "__qualname__" 1057 (.str "BadOther" 1056), kE P "__firstlineno__" 1059 (.int 138 1058), kE P "__init__" 1067 (.ref 680), kE P "__static_attributes__" 1069 (.ref 681)] 5
def o670 : Obj := oT []
def o671 : Obj := oF [.int 140 0, .int 4 0, .ref 679]
def o672 : Obj := oCC "BadOther" 1050 138 670 671
def o673 : Obj := oFr 672 669
def o674 : Obj := oT []
def o675 : Obj := oF []
def o676 : Obj := oT [.str "self" 1063, .str "thing" 1064]
def o677 : Obj := oT []
def o678 : Obj := oFu .none "BadOther.__init__" 36 0 .none .none
def o679 : Obj := oCF "BadOther.__init__" 1060 1065 140 2 674 675 676 677 678
def o680 : Obj := oFu (.type "function") "BadOther.__init__" 36 3 vM (.ref 679)
def o681 : Obj := oT [.str "thing" 1068]
def o682 (P : Params) : Obj := oD [kE P "__module__" 1055 vM, kE P "__firstlineno__" 1059 (.int 138 1058), kE P "__init__" 1067 (.ref 680), kE P "__static_attributes__" 1069 (.ref 681), kE P "__doc__" 1070 .none] 2
def o683 : Obj := oC "BadOther" 667 683 682 1048
def o684 : Obj := oSup 683
def o685 : Obj := oSub 683
def o686 : Obj := oT [.ref 24]
def o687 : Obj := oPr
def o688 (P : Params) : Obj := oD [kE P "__module__" 1080 vM, kE P "__qualname__" 1082 (.str "BadOtherBook" 1081), kE P "__firstlineno__" 1084 (.int 142 1083), kE P "__init__" 1092 (.ref 699), kE P "__static_attributes__" 1094 (.ref 700)] 5
def o689 : Obj := oT []
def o690 : Obj := oF [.int 144 0, .int 4 0, .ref 698]
def o691 : Obj := oCC "BadOtherBook" 1075 142 689 690
def o692 : Obj := oFr 691 688
def o693 : Obj := oT []
def o694 : Obj := oF []
def o695 : Obj := oT [.str "self" 1088, .str "thing" 1089]
def o696 : Obj := oT []
def o697 : Obj := oFu .none "BadOtherBook.__init__" 37 0 .none .none
def o698 : Obj := oCF "BadOtherBook.__init__" 1085 1090 144 2 693 694 695 696 697
def o699 : Obj := oFu (.type "function") "BadOtherBook.__init__" 37 3 vM (.ref 698)
def o700 : Obj := oT [.str "thing" 1093]
def o701 (P : Params) : Obj := oD [kE P "__module__" 1080 vM, kE P "__firstlineno__" 1084 (.int 142 1083), kE P "__init__" 1092 (.ref 699), kE P "__static_attributes__" 1094 (.ref 700), kE P "__doc__" 1095 .none] 2
def o702 : Obj := oC "BadOtherBook" 686 702 701 1073
def o703 : Obj := oSup 702
def o704 : Obj := oSub 702
def o705 : Obj := oT [.ref 24]
def o706 : Obj := oPr
def o707 (P : Params) : Obj := oD [kE P "__module__" 1105 vM, kE P "__qualname__" 1107 (.str "BadOtherCouncil" 1106), kE P "__firstlineno__" 1109 (.int 146 1108), kE P "__init__" 1117 (.ref 718), kE P "__static_attributes__" 1119 (.ref 719)] 5
def o708 : Obj := oT []
def o709 : Obj := oF [.int 148 0, .int 4 0, .ref 717]
def o710 : Obj := oCC "BadOtherCouncil" 1100 146 708 709
def o711 : Obj := oFr 710 707
def o712 : Obj := oT []
def o713 : Obj := oF []
def o714 : Obj := oT [.str "self" 1113, .str "thing" 1114]
def o715 : Obj := oT []
def o716 : Obj := oFu .none "BadOtherCouncil.__init__" 38 0 .none .none
def o717 : Obj := oCF "BadOtherCouncil.__init__" 1110 1115 148 2 712 713 714 715 716
def o718 : Obj := oFu (.type "function") "BadOtherCouncil.__init__" 38 3 vM (.ref 717)
def o719 : Obj := oT [.str "thing" 1118]
def o720 (P : Params) : Obj := oD [kE P "__module__" 1105 vM, kE P "__firstlineno__" 1109 (.int 146 1108), kE P "__init__" 1117 (.ref 718), kE P "__static_attributes__" 1119 (.ref 719), kE P "__doc__" 1120 .none] 2
def o721 : Obj := oC "BadOtherCouncil" 705 721 720 1098
def o722 : Obj := oSup 721
def o723 : Obj := oSub 721
def o724 : Obj := oT [.ref 24]
def o725 : Obj := oPr
def o726 (P : Params) : Obj := oD [kE P "__module__" 1130 vM, kE P "__qualname__" 1132 (.str "BadOtherFamily" 1131), kE P "__firstlineno__" 1134 (.int 150 1133), kE P "__init__" 1142 (.ref 737), kE P "__static_attributes__" 1144 (.ref 738)] 5
def o727 : Obj := oT []
def o728 : Obj := oF [.int 152 0, .int 4 0, .ref 736]
def o729 : Obj := oCC "BadOtherFamily" 1125 150 727 728
def o730 : Obj := oFr 729 726
def o731 : Obj := oT []
def o732 : Obj := oF []
def o733 : Obj := oT [.str "self" 1138, .str "thing" 1139]
def o734 : Obj := oT []
def o735 : Obj := oFu .none "BadOtherFamily.__init__" 39 0 .none .none
def o736 : Obj := oCF "BadOtherFamily.__init__" 1135 1140 152 2 731 732 733 734 735
def o737 : Obj := oFu (.type "function") "BadOtherFamily.__init__" 39 3 vM (.ref 736)
def o738 : Obj := oT [.str "thing" 1143]
def o739 (P : Params) : Obj := oD [kE P "__module__" 1130 vM, kE P "__firstlineno__" 1134 (.int 150 1133), kE P "__init__" 1142 (.ref 737), kE P "__static_attributes__" 1144 (.ref 738), kE P "__doc__" 1145 .none] 2
def o740 : Obj := oC "BadOtherFamily" 724 740 739 1123
def o741 : Obj := oSup 740
def o742 : Obj := oSub 740
def o743 : Obj := oT [.ref 24]
def o744 : Obj := oPr
def o745 (P : Params) : Obj := oD [kE P "__module__" 1155 vM, kE P "__qualname__" 1157 (.str "BadOtherFaults" 1156), kE P "__firstlineno__" 1159 (.int 154 1158), kE P "__init__" 1167 (.ref 756), kE P "__static_attributes__" 1169 (.ref 757)] 5
def o746 : Obj := oT []
def o747 : Obj := oF [.int 156 0, .int 4 0, .ref 755]
def o748 : Obj := oCC "BadOtherFaults" 1150 154 746 747
def o749 : Obj := oFr 748 745
def o750 : Obj := oT []
def o751 : Obj := oF []
def o752 : Obj := oT [.str "self" 1163, .str "thing" 1164]
def o753 : Obj := oT []
def o754 : Obj := oFu .none "BadOtherFaults.__init__" 40 0 .none .none
def o755 : Obj := oCF "BadOtherFaults.__init__" 1160 1165 156 2 750 751 752 753 754
def o756 : Obj := oFu (.type "function") "BadOtherFaults.__init__" 40 3 vM (.ref 755)
def o757 : Obj := oT [.str "thing" 1168]
def o758 (P : Params) : Obj := oD [kE P "__module__" 1155 vM, kE P "__firstlineno__" 1159 (.int 154 1158), kE P "__init__" 1167 (.ref 756), kE P "__static_attributes__" 1169 (.ref 757), kE P "__doc__" 1170 .none] 2
def o759 : Obj := oC "BadOtherFaults" 743 759 758 1148
def o760 : Obj := oSup 759
def o761 : Obj := oSub 759
def o762 : Obj := oT [.ref 24]
def o763 : Obj := oPr
def o764 (P : Params) : Obj := oD [kE P "__module__" 1180 vM, kE P "__qualname__" 1182 (.str "BadOtherKeepers" 1181), kE P "__firstlineno__" 1184 (.int 158 1183), kE P "__init__" 1192 (.ref 775), kE P "__static_attributes__" 1194 (.ref 776)] 5
def o765 : Obj := oT []
def o766 : Obj := oF [.int 160 0, .int 4 0, .ref 774]
def o767 : Obj := oCC "BadOtherKeepers" 1175 158 765 766
def o768 : Obj := oFr 767 764
def o769 : Obj := oT []
def o770 : Obj := oF []
def o771 : Obj := oT [.str "self" 1188, .str "thing" 1189]
def o772 : Obj := oT []
def o773 : Obj := oFu .none "BadOtherKeepers.__init__" 41 0 .none .none
def o774 : Obj := oCF "BadOtherKeepers.__init__" 1185 1190 160 2 769 770 771 772 773
def o775 : Obj := oFu (.type "function") "BadOtherKeepers.__init__" 41 3 vM (.ref 774)
def o776 : Obj := oT [.str "thing" 1193]
def o777 (P : Params) : Obj := oD [kE P "__module__" 1180 vM, kE P "__firstlineno__" 1184 (.int 158 1183), kE P "__init__" 1192 (.ref 775), kE P "__static_attributes__" 1194 (.ref 776), kE P "__doc__" 1195 .none] 2
def o778 : Obj := oC "BadOtherKeepers" 762 778 777 1173
def o779 : Obj := oSup 778
def o780 : Obj := oSub 778
def o781 : Obj := oT [.ref 24]
def o782 : Obj := oPr
def o783 (P : Params) : Obj := oD [kE P "__module__" 1205 vM, kE P "__qualname__" 1207 (.str "BadOtherNumber" 1206), kE P "__firstlineno__" 1209 (.int 162 1208), kE P "__init__" 1217 (.ref 794), kE P "__static_attributes__" 1219 (.ref 795)] 5
def o784 : Obj := oT []
def o785 : Obj := oF [.int 164 0, .int 4 0, .ref 793]
def o786 : Obj := oCC "BadOtherNumber" 1200 162 784 785
def o787 : Obj := oFr 786 783
def o788 : Obj := oT []
def o789 : Obj := oF []
def o790 : Obj := oT [.str "self" 1213, .str "thing" 1214]
def o791 : Obj := oT []
def o792 : Obj := oFu .none "BadOtherNumber.__init__" 42 0 .none .none
def o793 : Obj := oCF "BadOtherNumber.__init__" 1210 1215 164 2 788 789 790 791 792
def o794 : Obj := oFu (.type "function") "BadOtherNumber.__init__" 42 3 vM (.ref 793)
def o795 : Obj := oT [.str "thing" 1218]
def o796 (P : Params) : Obj := oD [kE P "__module__" 1205 vM, kE P "__firstlineno__" 1209 (.int 162 1208), kE P "__init__" 1217 (.ref 794), kE P "__static_attributes__" 1219 (.ref 795), kE P "__doc__" 1220 .none] 2
def o797 : Obj := oC "BadOtherNumber" 781 797 796 1198
def o798 : Obj := oSup 797
def o799 : Obj := oSub 797
def o800 : Obj := oT [.ref 24]
def o801 : Obj := oPr
def o802 (P : Params) : Obj := oD [kE P "__module__" 1230 vM, kE P "__qualname__" 1232 (.str "BadOtherRow" 1231), kE P "__firstlineno__" 1234 (.int 166 1233), kE P "__init__" 1242 (.ref 813), kE P "__static_attributes__" 1244 (.ref 814)] 5
def o803 : Obj := oT []
def o804 : Obj := oF [.int 168 0, .int 4 0, .ref 812]
def o805 : Obj := oCC "BadOtherRow" 1225 166 803 804
def o806 : Obj := oFr 805 802
def o807 : Obj := oT []
def o808 : Obj := oF []
def o809 : Obj := oT [.str "self" 1238, .str "thing" 1239]
def o810 : Obj := oT []
def o811 : Obj := oFu .none "BadOtherRow.__init__" 43 0 .none .none
def o812 : Obj := oCF "BadOtherRow.__init__" 1235 1240 168 2 807 808 809 810 811
def o813 : Obj := oFu (.type "function") "BadOtherRow.__init__" 43 3 vM (.ref 812)
def o814 : Obj := oT [.str "thing" 1243]
def o815 (P : Params) : Obj := oD [kE P "__module__" 1230 vM, kE P "__firstlineno__" 1234 (.int 166 1233), kE P "__init__" 1242 (.ref 813), kE P "__static_attributes__" 1244 (.ref 814), kE P "__doc__" 1245 .none] 2
def o816 : Obj := oC "BadOtherRow" 800 816 815 1223
def o817 : Obj := oSup 816
def o818 : Obj := oSub 816
def o819 : Obj := oT [.ref 24]
def o820 : Obj := oPr
def o821 (P : Params) : Obj := oD [kE P "__module__" 1255 vM, kE P "__qualname__" 1257 (.str "BadPair" 1256), kE P "__firstlineno__" 1259 (.int 170 1258), kE P "__init__" 1267 (.ref 832), kE P "__static_attributes__" 1269 (.ref 833)] 5
def o822 : Obj := oT []
def o823 : Obj := oF [.int 172 0, .int 4 0, .ref 831]
def o824 : Obj := oCC "BadPair" 1250 170 822 823
def o825 : Obj := oFr 824 821
def o826 : Obj := oT []
def o827 : Obj := oF []
def o828 : Obj := oT [.str "self" 1263, .str "thing" 1264]
def o829 : Obj := oT []
def o830 : Obj := oFu .none "BadPair.__init__" 44 0 .none .none
def o831 : Obj := oCF "BadPair.__init__" 1260 1265 172 2 826 827 828 829 830
def o832 : Obj := oFu (.type "function") "BadPair.__init__" 44 3 vM (.ref 831)
def o833 : Obj := oT [.str "thing" 1268]
def o834 (P : Params) : Obj := oD [kE P "__module__" 1255 vM, kE P "__firstlineno__" 1259 (.int 170 1258), kE P "__init__" 1267 (.ref 832), kE P "__static_attributes__" 1269 (.ref 833), kE P "__doc__" 1270 .none] 2
def o835 : Obj := oC "BadPair" 819 835 834 1248
def o836 : Obj := oSup 835
def o837 : Obj := oSub 835
def o838 : Obj := oT [.ref 24]
def o839 : Obj := oPr
def o840 (P : Params) : Obj := oD [kE P "__module__" 1280 vM, kE P "__qualname__" 1282 (.str "BadProbes" 1281), kE P "__firstlineno__" 1284 (.int 174 1283), kE P "__init__" 1292 (.ref 851), kE P "__static_attributes__" 1294 (.ref 852)] 5
def o841 : Obj := oT []
def o842 : Obj := oF [.int 176 0, .int 4 0, .ref 850]
def o843 : Obj := oCC "BadProbes" 1275 174 841 842
def o844 : Obj := oFr 843 840
def o845 : Obj := oT []
def o846 : Obj := oF []
def o847 : Obj := oT [.str "self" 1288, .str "thing" 1289]
def o848 : Obj := oT []
def o849 : Obj := oFu .none "BadProbes.__init__" 45 0 .none .none
def o850 : Obj := oCF "BadProbes.__init__" 1285 1290 176 2 845 846 847 848 849
def o851 : Obj := oFu (.type "function") "BadProbes.__init__" 45 3 vM (.ref 850)
def o852 : Obj := oT [.str "thing" 1293]
def o853 (P : Params) : Obj := oD [kE P "__module__" 1280 vM, kE P "__firstlineno__" 1284 (.int 174 1283), kE P "__init__" 1292 (.ref 851), kE P "__static_attributes__" 1294 (.ref 852), kE P "__doc__" 1295 .none] 2
def o854 : Obj := oC "BadProbes" 838 854 853 1273
def o855 : Obj := oSup 854
def o856 : Obj := oSub 854
def o857 : Obj := oT [.ref 24]
def o858 : Obj := oPr
def o859 (P : Params) : Obj := oD [kE P "__module__" 1305 vM, kE P "__qualname__" 1307 (.str "BadQuestion" 1306), kE P "__firstlineno__" 1309 (.int 178 1308), kE P "__init__" 1317 (.ref 870), kE P "__static_attributes__" 1319 (.ref 871)] 5
def o860 : Obj := oT []
def o861 : Obj := oF [.int 180 0, .int 4 0, .ref 869]
def o862 : Obj := oCC "BadQuestion" 1300 178 860 861
def o863 : Obj := oFr 862 859
def o864 : Obj := oT []
def o865 : Obj := oF []
def o866 : Obj := oT [.str "self" 1313, .str "thing" 1314]
def o867 : Obj := oT []
def o868 : Obj := oFu .none "BadQuestion.__init__" 46 0 .none .none
def o869 : Obj := oCF "BadQuestion.__init__" 1310 1315 180 2 864 865 866 867 868
def o870 : Obj := oFu (.type "function") "BadQuestion.__init__" 46 3 vM (.ref 869)
def o871 : Obj := oT [.str "thing" 1318]
def o872 (P : Params) : Obj := oD [kE P "__module__" 1305 vM, kE P "__firstlineno__" 1309 (.int 178 1308), kE P "__init__" 1317 (.ref 870), kE P "__static_attributes__" 1319 (.ref 871), kE P "__doc__" 1320 .none] 2
def o873 : Obj := oC "BadQuestion" 857 873 872 1298
def o874 : Obj := oSup 873
def o875 : Obj := oSub 873
def o876 : Obj := oT [.ref 24]
def o877 : Obj := oPr
def o878 (P : Params) : Obj := oD [kE P "__module__" 1330 vM, kE P "__qualname__" 1332 (.str "BadRate" 1331), kE P "__firstlineno__" 1334 (.int 182 1333), kE P "__init__" 1342 (.ref 889), kE P "__static_attributes__" 1344 (.ref 890)] 5
def o879 : Obj := oT []
def o880 : Obj := oF [.int 184 0, .int 4 0, .ref 888]
def o881 : Obj := oCC "BadRate" 1325 182 879 880
def o882 : Obj := oFr 881 878
def o883 : Obj := oT []
def o884 : Obj := oF []
def o885 : Obj := oT [.str "self" 1338, .str "thing" 1339]
def o886 : Obj := oT []
def o887 : Obj := oFu .none "BadRate.__init__" 47 0 .none .none
def o888 : Obj := oCF "BadRate.__init__" 1335 1340 184 2 883 884 885 886 887
def o889 : Obj := oFu (.type "function") "BadRate.__init__" 47 3 vM (.ref 888)
def o890 : Obj := oT [.str "thing" 1343]
def o891 (P : Params) : Obj := oD [kE P "__module__" 1330 vM, kE P "__firstlineno__" 1334 (.int 182 1333), kE P "__init__" 1342 (.ref 889), kE P "__static_attributes__" 1344 (.ref 890), kE P "__doc__" 1345 .none] 2
def o892 : Obj := oC "BadRate" 876 892 891 1323
def o893 : Obj := oSup 892
def o894 : Obj := oSub 892
def o895 : Obj := oT [.ref 24]
def o896 : Obj := oPr
def o897 (P : Params) : Obj := oD [kE P "__module__" 1355 vM, kE P "__qualname__" 1357 (.str "BadReadNumber" 1356), kE P "__firstlineno__" 1359 (.int 186 1358), kE P "__init__" 1367 (.ref 908), kE P "__static_attributes__" 1369 (.ref 909)] 5
def o898 : Obj := oT []
def o899 : Obj := oF [.int 188 0, .int 4 0, .ref 907]
def o900 : Obj := oCC "BadReadNumber" 1350 186 898 899
def o901 : Obj := oFr 900 897
def o902 : Obj := oT []
def o903 : Obj := oF []
def o904 : Obj := oT [.str "self" 1363, .str "thing" 1364]
def o905 : Obj := oT []
def o906 : Obj := oFu .none "BadReadNumber.__init__" 48 0 .none .none
def o907 : Obj := oCF "BadReadNumber.__init__" 1360 1365 188 2 902 903 904 905 906
def o908 : Obj := oFu (.type "function") "BadReadNumber.__init__" 48 3 vM (.ref 907)
def o909 : Obj := oT [.str "thing" 1368]
def o910 (P : Params) : Obj := oD [kE P "__module__" 1355 vM, kE P "__firstlineno__" 1359 (.int 186 1358), kE P "__init__" 1367 (.ref 908), kE P "__static_attributes__" 1369 (.ref 909), kE P "__doc__" 1370 .none] 2
def o911 : Obj := oC "BadReadNumber" 895 911 910 1348
def o912 : Obj := oSup 911
def o913 : Obj := oSub 911
def o914 : Obj := oT [.ref 24]
def o915 : Obj := oPr
def o916 (P : Params) : Obj := oD [kE P "__module__" 1380 vM, kE P "__qualname__" 1382 (.str "BadRow" 1381), kE P "__firstlineno__" 1384 (.int 190 1383), kE P "__init__" 1392 (.ref 927), kE P "__static_attributes__" 1394 (.ref 928)] 5
def o917 : Obj := oT []
def o918 : Obj := oF [.int 192 0, .int 4 0, .ref 926]
def o919 : Obj := oCC "BadRow" 1375 190 917 918
def o920 : Obj := oFr 919 916
def o921 : Obj := oT []
def o922 : Obj := oF []
def o923 : Obj := oT [.str "self" 1388, .str "index" 1389]
def o924 : Obj := oT []
def o925 : Obj := oFu .none "BadRow.__init__" 49 0 .none .none
def o926 : Obj := oCF "BadRow.__init__" 1385 1390 192 2 921 922 923 924 925
def o927 : Obj := oFu (.type "function") "BadRow.__init__" 49 3 vM (.ref 926)
def o928 : Obj := oT [.str "index" 1393]
def o929 (P : Params) : Obj := oD [kE P "__module__" 1380 vM, kE P "__firstlineno__" 1384 (.int 190 1383), kE P "__init__" 1392 (.ref 927), kE P "__static_attributes__" 1394 (.ref 928), kE P "__doc__" 1395 .none] 2
def o930 : Obj := oC "BadRow" 914 930 929 1373
def o931 : Obj := oSup 930
def o932 : Obj := oSub 930
def o933 : Obj := oT [.ref 24]
def o934 : Obj := oPr
def o935 (P : Params) : Obj := oD [kE P "__module__" 1405 vM, kE P "__qualname__" 1407 (.str "BadRows" 1406), kE P "__firstlineno__" 1409 (.int 194 1408), kE P "__init__" 1417 (.ref 946), kE P "__static_attributes__" 1419 (.ref 947)] 5
def o936 : Obj := oT []
def o937 : Obj := oF [.int 196 0, .int 4 0, .ref 945]
def o938 : Obj := oCC "BadRows" 1400 194 936 937
def o939 : Obj := oFr 938 935
def o940 : Obj := oT []
def o941 : Obj := oF []
def o942 : Obj := oT [.str "self" 1413, .str "thing" 1414]
def o943 : Obj := oT []
def o944 : Obj := oFu .none "BadRows.__init__" 50 0 .none .none
def o945 : Obj := oCF "BadRows.__init__" 1410 1415 196 2 940 941 942 943 944
def o946 : Obj := oFu (.type "function") "BadRows.__init__" 50 3 vM (.ref 945)
def o947 : Obj := oT [.str "thing" 1418]
def o948 (P : Params) : Obj := oD [kE P "__module__" 1405 vM, kE P "__firstlineno__" 1409 (.int 194 1408), kE P "__init__" 1417 (.ref 946), kE P "__static_attributes__" 1419 (.ref 947), kE P "__doc__" 1420 .none] 2
def o949 : Obj := oC "BadRows" 933 949 948 1398
def o950 : Obj := oSup 949
def o951 : Obj := oSub 949
def o952 : Obj := oT [.ref 24]
def o953 : Obj := oPr
def o954 (P : Params) : Obj := oD [kE P "__module__" 1430 vM, kE P "__qualname__" 1432 (.str "BadSchedule" 1431), kE P "__firstlineno__" 1434 (.int 198 1433), kE P "__init__" 1442 (.ref 965), kE P "__static_attributes__" 1444 (.ref 966)] 5
def o955 : Obj := oT []
def o956 : Obj := oF [.int 200 0, .int 4 0, .ref 964]
def o957 : Obj := oCC "BadSchedule" 1425 198 955 956
def o958 : Obj := oFr 957 954
def o959 : Obj := oT []
def o960 : Obj := oF []
def o961 : Obj := oT [.str "self" 1438, .str "fault" 1439]
def o962 : Obj := oT []
def o963 : Obj := oFu .none "BadSchedule.__init__" 51 0 .none .none
def o964 : Obj := oCF "BadSchedule.__init__" 1435 1440 200 2 959 960 961 962 963
def o965 : Obj := oFu (.type "function") "BadSchedule.__init__" 51 3 vM (.ref 964)
def o966 : Obj := oT [.str "fault" 1443]
def o967 (P : Params) : Obj := oD [kE P "__module__" 1430 vM, kE P "__firstlineno__" 1434 (.int 198 1433), kE P "__init__" 1442 (.ref 965), kE P "__static_attributes__" 1444 (.ref 966), kE P "__doc__" 1445 .none] 2
def o968 : Obj := oC "BadSchedule" 952 968 967 1423
def o969 : Obj := oSup 968
def o970 : Obj := oSub 968
def o971 : Obj := oT [.ref 24]
def o972 : Obj := oPr
def o973 (P : Params) : Obj := oD [kE P "__module__" 1455 vM, kE P "__qualname__" 1457 (.str "BadShare" 1456), kE P "__firstlineno__" 1459 (.int 202 1458), kE P "__init__" 1467 (.ref 984), kE P "__static_attributes__" 1469 (.ref 985)] 5
def o974 : Obj := oT []
def o975 : Obj := oF [.int 204 0, .int 4 0, .ref 983]
def o976 : Obj := oCC "BadShare" 1450 202 974 975
def o977 : Obj := oFr 976 973
def o978 : Obj := oT []
def o979 : Obj := oF []
def o980 : Obj := oT [.str "self" 1463, .str "thing" 1464]
def o981 : Obj := oT []
def o982 : Obj := oFu .none "BadShare.__init__" 52 0 .none .none
def o983 : Obj := oCF "BadShare.__init__" 1460 1465 204 2 978 979 980 981 982
def o984 : Obj := oFu (.type "function") "BadShare.__init__" 52 3 vM (.ref 983)
def o985 : Obj := oT [.str "thing" 1468]
def o986 (P : Params) : Obj := oD [kE P "__module__" 1455 vM, kE P "__firstlineno__" 1459 (.int 202 1458), kE P "__init__" 1467 (.ref 984), kE P "__static_attributes__" 1469 (.ref 985), kE P "__doc__" 1470 .none] 2
def o987 : Obj := oC "BadShare" 971 987 986 1448
def o988 : Obj := oSup 987
def o989 : Obj := oSub 987
def o990 : Obj := oT [.ref 24]
def o991 : Obj := oPr
def o992 (P : Params) : Obj := oD [kE P "__module__" 1480 vM, kE P "__qualname__" 1482 (.str "BadSlices" 1481), kE P "__firstlineno__" 1484 (.int 206 1483), kE P "__init__" 1492 (.ref 1003), kE P "__static_attributes__" 1494 (.ref 1004)] 5
def o993 : Obj := oT []
def o994 : Obj := oF [.int 208 0, .int 4 0, .ref 1002]
def o995 : Obj := oCC "BadSlices" 1475 206 993 994
def o996 : Obj := oFr 995 992
def o997 : Obj := oT []
def o998 : Obj := oF []
def o999 : Obj := oT [.str "self" 1488, .str "thing" 1489]
def o1000 : Obj := oT []
def o1001 : Obj := oFu .none "BadSlices.__init__" 53 0 .none .none
def o1002 : Obj := oCF "BadSlices.__init__" 1485 1490 208 2 997 998 999 1000 1001
def o1003 : Obj := oFu (.type "function") "BadSlices.__init__" 53 3 vM (.ref 1002)
def o1004 : Obj := oT [.str "thing" 1493]
def o1005 (P : Params) : Obj := oD [kE P "__module__" 1480 vM, kE P "__firstlineno__" 1484 (.int 206 1483), kE P "__init__" 1492 (.ref 1003), kE P "__static_attributes__" 1494 (.ref 1004), kE P "__doc__" 1495 .none] 2
def o1006 : Obj := oC "BadSlices" 990 1006 1005 1473
def o1007 : Obj := oSup 1006
def o1008 : Obj := oSub 1006
def o1009 : Obj := oT [.ref 24]
def o1010 : Obj := oPr
def o1011 (P : Params) : Obj := oD [kE P "__module__" 1505 vM, kE P "__qualname__" 1507 (.str "BadSlow" 1506), kE P "__firstlineno__" 1509 (.int 210 1508), kE P "__init__" 1517 (.ref 1022), kE P "__static_attributes__" 1519 (.ref 1023)] 5
def o1012 : Obj := oT []
def o1013 : Obj := oF [.int 212 0, .int 4 0, .ref 1021]
def o1014 : Obj := oCC "BadSlow" 1500 210 1012 1013
def o1015 : Obj := oFr 1014 1011
def o1016 : Obj := oT []
def o1017 : Obj := oF []
def o1018 : Obj := oT [.str "self" 1513, .str "thing" 1514]
def o1019 : Obj := oT []
def o1020 : Obj := oFu .none "BadSlow.__init__" 54 0 .none .none
def o1021 : Obj := oCF "BadSlow.__init__" 1510 1515 212 2 1016 1017 1018 1019 1020
def o1022 : Obj := oFu (.type "function") "BadSlow.__init__" 54 3 vM (.ref 1021)
def o1023 : Obj := oT [.str "thing" 1518]
def o1024 (P : Params) : Obj := oD [kE P "__module__" 1505 vM, kE P "__firstlineno__" 1509 (.int 210 1508), kE P "__init__" 1517 (.ref 1022), kE P "__static_attributes__" 1519 (.ref 1023), kE P "__doc__" 1520 .none] 2
def o1025 : Obj := oC "BadSlow" 1009 1025 1024 1498
def o1026 : Obj := oSup 1025
def o1027 : Obj := oSub 1025
def o1028 : Obj := oT [.ref 24]
def o1029 : Obj := oPr
def o1030 (P : Params) : Obj := oD [kE P "__module__" 1530 vM, kE P "__qualname__" 1532 (.str "BadSome" 1531), kE P "__firstlineno__" 1534 (.int 214 1533), kE P "__init__" 1542 (.ref 1041), kE P "__static_attributes__" 1544 (.ref 1042)] 5
def o1031 : Obj := oT []
def o1032 : Obj := oF [.int 216 0, .int 4 0, .ref 1040]
def o1033 : Obj := oCC "BadSome" 1525 214 1031 1032
def o1034 : Obj := oFr 1033 1030
def o1035 : Obj := oT []
def o1036 : Obj := oF []
def o1037 : Obj := oT [.str "self" 1538, .str "thing" 1539]
def o1038 : Obj := oT []
def o1039 : Obj := oFu .none "BadSome.__init__" 55 0 .none .none
def o1040 : Obj := oCF "BadSome.__init__" 1535 1540 216 2 1035 1036 1037 1038 1039
def o1041 : Obj := oFu (.type "function") "BadSome.__init__" 55 3 vM (.ref 1040)
def o1042 : Obj := oT [.str "thing" 1543]
def o1043 (P : Params) : Obj := oD [kE P "__module__" 1530 vM, kE P "__firstlineno__" 1534 (.int 214 1533), kE P "__init__" 1542 (.ref 1041), kE P "__static_attributes__" 1544 (.ref 1042), kE P "__doc__" 1545 .none] 2
def o1044 : Obj := oC "BadSome" 1028 1044 1043 1523
def o1045 : Obj := oSup 1044
def o1046 : Obj := oSub 1044
def o1047 : Obj := oT [.ref 24]
def o1048 : Obj := oPr
def o1049 (P : Params) : Obj := oD [kE P "__module__" 1555 vM, kE P "__qualname__" 1557 (.str "BadSpeeds" 1556), kE P "__firstlineno__" 1559 (.int 218 1558), kE P "__init__" 1567 (.ref 1060), kE P "__static_attributes__" 1569 (.ref 1061)] 5
def o1050 : Obj := oT []
def o1051 : Obj := oF [.int 220 0, .int 4 0, .ref 1059]
def o1052 : Obj := oCC "BadSpeeds" 1550 218 1050 1051
def o1053 : Obj := oFr 1052 1049
def o1054 : Obj := oT []
def o1055 : Obj := oF []
def o1056 : Obj := oT [.str "self" 1563, .str "thing" 1564]
def o1057 : Obj := oT []
def o1058 : Obj := oFu .none "BadSpeeds.__init__" 56 0 .none .none
def o1059 : Obj := oCF "BadSpeeds.__init__" 1560 1565 220 2 1054 1055 1056 1057 1058
def o1060 : Obj := oFu (.type "function") "BadSpeeds.__init__" 56 3 vM (.ref 1059)
def o1061 : Obj := oT [.str "thing" 1568]
def o1062 (P : Params) : Obj := oD [kE P "__module__" 1555 vM, kE P "__firstlineno__" 1559 (.int 218 1558), kE P "__init__" 1567 (.ref 1060), kE P "__static_attributes__" 1569 (.ref 1061), kE P "__doc__" 1570 .none] 2
def o1063 : Obj := oC "BadSpeeds" 1047 1063 1062 1548
def o1064 : Obj := oSup 1063
def o1065 : Obj := oSub 1063
def o1066 : Obj := oT [.ref 24]
def o1067 : Obj := oPr
def o1068 (P : Params) : Obj := oD [kE P "__module__" 1580 vM, kE P "__qualname__" 1582 (.str "BadStep" 1581), kE P "__firstlineno__" 1584 (.int 222 1583), kE P "__init__" 1592 (.ref 1079), kE P "__static_attributes__" 1594 (.ref 1080)] 5
def o1069 : Obj := oT []
def o1070 : Obj := oF [.int 224 0, .int 4 0, .ref 1078]
def o1071 : Obj := oCC "BadStep" 1575 222 1069 1070
def o1072 : Obj := oFr 1071 1068
def o1073 : Obj := oT []
def o1074 : Obj := oF []
def o1075 : Obj := oT [.str "self" 1588, .str "thing" 1589]
def o1076 : Obj := oT []
def o1077 : Obj := oFu .none "BadStep.__init__" 57 0 .none .none
def o1078 : Obj := oCF "BadStep.__init__" 1585 1590 224 2 1073 1074 1075 1076 1077
def o1079 : Obj := oFu (.type "function") "BadStep.__init__" 57 3 vM (.ref 1078)
def o1080 : Obj := oT [.str "thing" 1593]
def o1081 (P : Params) : Obj := oD [kE P "__module__" 1580 vM, kE P "__firstlineno__" 1584 (.int 222 1583), kE P "__init__" 1592 (.ref 1079), kE P "__static_attributes__" 1594 (.ref 1080), kE P "__doc__" 1595 .none] 2
def o1082 : Obj := oC "BadStep" 1066 1082 1081 1573
def o1083 : Obj := oSup 1082
def o1084 : Obj := oSub 1082
def o1085 : Obj := oT [.ref 24]
def o1086 : Obj := oPr
def o1087 (P : Params) : Obj := oD [kE P "__module__" 1605 vM, kE P "__qualname__" 1607 (.str "BadStore" 1606), kE P "__firstlineno__" 1609 (.int 226 1608), kE P "__init__" 1617 (.ref 1098), kE P "__static_attributes__" 1619 (.ref 1099)] 5
def o1088 : Obj := oT []
def o1089 : Obj := oF [.int 228 0, .int 4 0, .ref 1097]
def o1090 : Obj := oCC "BadStore" 1600 226 1088 1089
def o1091 : Obj := oFr 1090 1087
def o1092 : Obj := oT []
def o1093 : Obj := oF []
def o1094 : Obj := oT [.str "self" 1613, .str "fault" 1614]
def o1095 : Obj := oT []
def o1096 : Obj := oFu .none "BadStore.__init__" 58 0 .none .none
def o1097 : Obj := oCF "BadStore.__init__" 1610 1615 228 2 1092 1093 1094 1095 1096
def o1098 : Obj := oFu (.type "function") "BadStore.__init__" 58 3 vM (.ref 1097)
def o1099 : Obj := oT [.str "fault" 1618]
def o1100 (P : Params) : Obj := oD [kE P "__module__" 1605 vM, kE P "__firstlineno__" 1609 (.int 226 1608), kE P "__init__" 1617 (.ref 1098), kE P "__static_attributes__" 1619 (.ref 1099), kE P "__doc__" 1620 .none] 2
def o1101 : Obj := oC "BadStore" 1085 1101 1100 1598
def o1102 : Obj := oSup 1101
def o1103 : Obj := oSub 1101
def o1104 : Obj := oT [.ref 24]
def o1105 : Obj := oPr
def o1106 (P : Params) : Obj := oD [kE P "__module__" 1630 vM, kE P "__qualname__" 1632 (.str "BadStrategies" 1631), kE P "__firstlineno__" 1634 (.int 230 1633), kE P "__init__" 1642 (.ref 1117), kE P "__static_attributes__" 1644 (.ref 1118)] 5
def o1107 : Obj := oT []
def o1108 : Obj := oF [.int 232 0, .int 4 0, .ref 1116]
def o1109 : Obj := oCC "BadStrategies" 1625 230 1107 1108
def o1110 : Obj := oFr 1109 1106
def o1111 : Obj := oT []
def o1112 : Obj := oF []
def o1113 : Obj := oT [.str "self" 1638, .str "thing" 1639]
def o1114 : Obj := oT []
def o1115 : Obj := oFu .none "BadStrategies.__init__" 59 0 .none .none
def o1116 : Obj := oCF "BadStrategies.__init__" 1635 1640 232 2 1111 1112 1113 1114 1115
def o1117 : Obj := oFu (.type "function") "BadStrategies.__init__" 59 3 vM (.ref 1116)
def o1118 : Obj := oT [.str "thing" 1643]
def o1119 (P : Params) : Obj := oD [kE P "__module__" 1630 vM, kE P "__firstlineno__" 1634 (.int 230 1633), kE P "__init__" 1642 (.ref 1117), kE P "__static_attributes__" 1644 (.ref 1118), kE P "__doc__" 1645 .none] 2
def o1120 : Obj := oC "BadStrategies" 1104 1120 1119 1623
def o1121 : Obj := oSup 1120
def o1122 : Obj := oSub 1120
def o1123 : Obj := oT [.ref 24]
def o1124 : Obj := oPr
def o1125 (P : Params) : Obj := oD [kE P "__module__" 1655 vM, kE P "__qualname__" 1657 (.str "BadStrategy" 1656), kE P "__firstlineno__" 1659 (.int 234 1658), kE P "__init__" 1667 (.ref 1136), kE P "__static_attributes__" 1669 (.ref 1137)] 5
def o1126 : Obj := oT []
def o1127 : Obj := oF [.int 236 0, .int 4 0, .ref 1135]
def o1128 : Obj := oCC "BadStrategy" 1650 234 1126 1127
def o1129 : Obj := oFr 1128 1125
def o1130 : Obj := oT []
def o1131 : Obj := oF []
def o1132 : Obj := oT [.str "self" 1663, .str "thing" 1664]
def o1133 : Obj := oT []
def o1134 : Obj := oFu .none "BadStrategy.__init__" 60 0 .none .none
def o1135 : Obj := oCF "BadStrategy.__init__" 1660 1665 236 2 1130 1131 1132 1133 1134
def o1136 : Obj := oFu (.type "function") "BadStrategy.__init__" 60 3 vM (.ref 1135)
def o1137 : Obj := oT [.str "thing" 1668]
def o1138 (P : Params) : Obj := oD [kE P "__module__" 1655 vM, kE P "__firstlineno__" 1659 (.int 234 1658), kE P "__init__" 1667 (.ref 1136), kE P "__static_attributes__" 1669 (.ref 1137), kE P "__doc__" 1670 .none] 2
def o1139 : Obj := oC "BadStrategy" 1123 1139 1138 1648
def o1140 : Obj := oSup 1139
def o1141 : Obj := oSub 1139
def o1142 : Obj := oT [.ref 24]
def o1143 : Obj := oPr
def o1144 (P : Params) : Obj := oD [kE P "__module__" 1680 vM, kE P "__qualname__" 1682 (.str "BadText" 1681), kE P "__firstlineno__" 1684 (.int 238 1683), kE P "__init__" 1693 (.ref 1155), kE P "__static_attributes__" 1696 (.ref 1156)] 5
def o1145 : Obj := oT []
def o1146 : Obj := oF [.int 240 0, .int 4 0, .ref 1154]
def o1147 : Obj := oCC "BadText" 1675 238 1145 1146
def o1148 : Obj := oFr 1147 1144
def o1149 : Obj := oT []
def o1150 : Obj := oF []
def o1151 : Obj := oT [.str "self" 1688, .str "line" 1689, .str "sign" 1690]
def o1152 : Obj := oT []
def o1153 : Obj := oFu .none "BadText.__init__" 61 0 .none .none
def o1154 : Obj := oCF "BadText.__init__" 1685 1691 240 3 1149 1150 1151 1152 1153
def o1155 : Obj := oFu (.type "function") "BadText.__init__" 61 3 vM (.ref 1154)
def o1156 : Obj := oT [.str "line" 1694, .str "sign" 1695]
def o1157 (P : Params) : Obj := oD [kE P "__module__" 1680 vM, kE P "__firstlineno__" 1684 (.int 238 1683), kE P "__init__" 1693 (.ref 1155), kE P "__static_attributes__" 1696 (.ref 1156), kE P "__doc__" 1697 .none] 2
def o1158 : Obj := oC "BadText" 1142 1158 1157 1673
def o1159 : Obj := oSup 1158
def o1160 : Obj := oSub 1158
def o1161 : Obj := oT [.ref 24]
def o1162 : Obj := oPr
def o1163 (P : Params) : Obj := oD [kE P "__module__" 1707 vM, kE P "__qualname__" 1709 (.str "BadTree" 1708), kE P "__firstlineno__" 1711 (.int 243 1710), kE P "__init__" 1719 (.ref 1174), kE P "__static_attributes__" 1721 (.ref 1175)] 5
def o1164 : Obj := oT []
def o1165 : Obj := oF [.int 245 0, .int 4 0, .ref 1173]
def o1166 : Obj := oCC "BadTree" 1702 243 1164 1165
def o1167 : Obj := oFr 1166 1163
def o1168 : Obj := oT []
def o1169 : Obj := oF []
def o1170 : Obj := oT [.str "self" 1715, .str "thing" 1716]
def o1171 : Obj := oT []
def o1172 : Obj := oFu .none "BadTree.__init__" 62 0 .none .none
def o1173 : Obj := oCF "BadTree.__init__" 1712 1717 245 2 1168 1169 1170 1171 1172
def o1174 : Obj := oFu (.type "function") "BadTree.__init__" 62 3 vM (.ref 1173)
def o1175 : Obj := oT [.str "thing" 1720]
def o1176 (P : Params) : Obj := oD [kE P "__module__" 1707 vM, kE P "__firstlineno__" 1711 (.int 243 1710), kE P "__init__" 1719 (.ref 1174), kE P "__static_attributes__" 1721 (.ref 1175), kE P "__doc__" 1722 .none] 2
def o1177 : Obj := oC "BadTree" 1161 1177 1176 1700
def o1178 : Obj := oSup 1177
def o1179 : Obj := oSub 1177
def o1180 : Obj := oT [.ref 24]
def o1181 : Obj := oPr
def o1182 (P : Params) : Obj := oD [kE P "__module__" 1732 vM, kE P "__qualname__" 1734 (.str "BadVotes" 1733), kE P "__firstlineno__" 1736 (.int 247 1735), kE P "__init__" 1744 (.ref 1193), kE P "__static_attributes__" 1746 (.ref 1194)] 5
def o1183 : Obj := oT []
def o1184 : Obj := oF [.int 249 0, .int 4 0, .ref 1192]
def o1185 : Obj := oCC "BadVotes" 1727 247 1183 1184
def o1186 : Obj := oFr 1185 1182
def o1187 : Obj := oT []
def o1188 : Obj := oF []
def o1189 : Obj := oT [.str "self" 1740, .str "thing" 1741]
def o1190 : Obj := oT []
def o1191 : Obj := oFu .none "BadVotes.__init__" 63 0 .none .none
def o1192 : Obj := oCF "BadVotes.__init__" 1737 1742 249 2 1187 1188 1189 1190 1191
def o1193 : Obj := oFu (.type "function") "BadVotes.__init__" 63 3 vM (.ref 1192)
def o1194 : Obj := oT [.str "thing" 1745]
def o1195 (P : Params) : Obj := oD [kE P "__module__" 1732 vM, kE P "__firstlineno__" 1736 (.int 247 1735), kE P "__init__" 1744 (.ref 1193), kE P "__static_attributes__" 1746 (.ref 1194), kE P "__doc__" 1747 .none] 2
def o1196 : Obj := oC "BadVotes" 1180 1196 1195 1725
def o1197 : Obj := oSup 1196
def o1198 : Obj := oSub 1196
def o1199 : Obj := oT [.ref 24]
def o1200 : Obj := oPr
def o1201 (P : Params) : Obj := oD [kE P "__module__" 1757 vM, kE P "__qualname__" 1759 (.str "BadWeights" 1758), kE P "__firstlineno__" 1761 (.int 251 1760), kE P "__init__" 1769 (.ref 1212), kE P "__static_attributes__" 1771 (.ref 1213)] 5
def o1202 : Obj := oT []
def o1203 : Obj := oF [.int 253 0, .int 4 0, .ref 1211]
def o1204 : Obj := oCC "BadWeights" 1752 251 1202 1203
def o1205 : Obj := oFr 1204 1201
def o1206 : Obj := oT []
def o1207 : Obj := oF []
def o1208 : Obj := oT [.str "self" 1765, .str "thing" 1766]
def o1209 : Obj := oT []
def o1210 : Obj := oFu .none "BadWeights.__init__" 64 0 .none .none
def o1211 : Obj := oCF "BadWeights.__init__" 1762 1767 253 2 1206 1207 1208 1209 1210
def o1212 : Obj := oFu (.type "function") "BadWeights.__init__" 64 3 vM (.ref 1211)
def o1213 : Obj := oT [.str "thing" 1770]
def o1214 (P : Params) : Obj := oD [kE P "__module__" 1757 vM, kE P "__firstlineno__" 1761 (.int 251 1760), kE P "__init__" 1769 (.ref 1212), kE P "__static_attributes__" 1771 (.ref 1213), kE P "__doc__" 1772 .none] 2
def o1215 : Obj := oC "BadWeights" 1199 1215 1214 1750
def o1216 : Obj := oSup 1215
def o1217 : Obj := oSub 1215
def o1218 : Obj := oT [.ref 24]
def o1219 : Obj := oPr
def o1220 (P : Params) : Obj := oD [kE P "__module__" 1782 vM, kE P "__qualname__" 1784 (.str "BadWithin" 1783), kE P "__firstlineno__" 1786 (.int 255 1785), kE P "__init__" 1794 (.ref 1231), kE P "__static_attributes__" 1796 (.ref 1232)] 5
def o1221 : Obj := oT []
def o1222 : Obj := oF [.int 257 0, .int 4 0, .ref 1230]
def o1223 : Obj := oCC "BadWithin" 1777 255 1221 1222
def o1224 : Obj := oFr 1223 1220
def o1225 : Obj := oT []
def o1226 : Obj := oF []
def o1227 : Obj := oT [.str "self" 1790, .str "thing" 1791]
def o1228 : Obj := oT []
def o1229 : Obj := oFu .none "BadWithin.__init__" 65 0 .none .none
def o1230 : Obj := oCF "BadWithin.__init__" 1787 1792 257 2 1225 1226 1227 1228 1229
def o1231 : Obj := oFu (.type "function") "BadWithin.__init__" 65 3 vM (.ref 1230)
def o1232 : Obj := oT [.str "thing" 1795]
def o1233 (P : Params) : Obj := oD [kE P "__module__" 1782 vM, kE P "__firstlineno__" 1786 (.int 255 1785), kE P "__init__" 1794 (.ref 1231), kE P "__static_attributes__" 1796 (.ref 1232), kE P "__doc__" 1797 .none] 2
def o1234 : Obj := oC "BadWithin" 1218 1234 1233 1775
def o1235 : Obj := oSup 1234
def o1236 : Obj := oSub 1234
def o1237 : Obj := oT [.ref 24]
def o1238 : Obj := oPr
def o1239 (P : Params) : Obj := oD [kE P "__module__" 1807 vM, kE P "__qualname__" 1809 (.str "BadWriteNumber" 1808), kE P "__firstlineno__" 1811 (.int 259 1810), kE P "__init__" 1819 (.ref 1250), kE P "__static_attributes__" 1821 (.ref 1251)] 5
def o1240 : Obj := oT []
def o1241 : Obj := oF [.int 261 0, .int 4 0, .ref 1249]
def o1242 : Obj := oCC "BadWriteNumber" 1802 259 1240 1241
def o1243 : Obj := oFr 1242 1239
def o1244 : Obj := oT []
def o1245 : Obj := oF []
def o1246 : Obj := oT [.str "self" 1815, .str "thing" 1816]
def o1247 : Obj := oT []
def o1248 : Obj := oFu .none "BadWriteNumber.__init__" 66 0 .none .none
def o1249 : Obj := oCF "BadWriteNumber.__init__" 1812 1817 261 2 1244 1245 1246 1247 1248
def o1250 : Obj := oFu (.type "function") "BadWriteNumber.__init__" 66 3 vM (.ref 1249)
def o1251 : Obj := oT [.str "thing" 1820]
def o1252 (P : Params) : Obj := oD [kE P "__module__" 1807 vM, kE P "__firstlineno__" 1811 (.int 259 1810), kE P "__init__" 1819 (.ref 1250), kE P "__static_attributes__" 1821 (.ref 1251), kE P "__doc__" 1822 .none] 2
def o1253 : Obj := oC "BadWriteNumber" 1237 1253 1252 1800
def o1254 : Obj := oSup 1253
def o1255 : Obj := oSub 1253
def o1256 : Obj := oT [.ref 24]
def o1257 : Obj := oPr
def o1258 (P : Params) : Obj := oD [kE P "__module__" 1832 vM, kE P "__qualname__" 1834 (.str "InUse" 1833), kE P "__firstlineno__" 1836 (.int 263 1835), kE P "__init__" 1844 (.ref 1269), kE P "__static_attributes__" 1846 (.ref 1270)] 5
def o1259 : Obj := oT []
def o1260 : Obj := oF [.int 265 0, .int 4 0, .ref 1268]
def o1261 : Obj := oCC "InUse" 1827 263 1259 1260
def o1262 : Obj := oFr 1261 1258
def o1263 : Obj := oT []
def o1264 : Obj := oF []
def o1265 : Obj := oT [.str "self" 1840, .str "question" 1841]
def o1266 : Obj := oT []
def o1267 : Obj := oFu .none "InUse.__init__" 67 0 .none .none
def o1268 : Obj := oCF "InUse.__init__" 1837 1842 265 2 1263 1264 1265 1266 1267
def o1269 : Obj := oFu (.type "function") "InUse.__init__" 67 3 vM (.ref 1268)
def o1270 : Obj := oT [.str "question" 1845]
def o1271 (P : Params) : Obj := oD [kE P "__module__" 1832 vM, kE P "__firstlineno__" 1836 (.int 263 1835), kE P "__init__" 1844 (.ref 1269), kE P "__static_attributes__" 1846 (.ref 1270), kE P "__doc__" 1847 .none] 2
def o1272 : Obj := oC "InUse" 1256 1272 1271 1825
def o1273 : Obj := oSup 1272
def o1274 : Obj := oSub 1272
def o1275 : Obj := oT [.ref 24]
def o1276 : Obj := oPr
def o1277 (P : Params) : Obj := oD [kE P "__module__" 1857 vM, kE P "__qualname__" 1859 (.str "IsWatched" 1858), kE P "__firstlineno__" 1861 (.int 267 1860), kE P "__init__" 1869 (.ref 1288), kE P "__static_attributes__" 1871 (.ref 1289)] 5
def o1278 : Obj := oT []
def o1279 : Obj := oF [.int 269 0, .int 4 0, .ref 1287]
def o1280 : Obj := oCC "IsWatched" 1852 267 1278 1279
def o1281 : Obj := oFr 1280 1277
def o1282 : Obj := oT []
def o1283 : Obj := oF []
def o1284 : Obj := oT [.str "self" 1865, .str "question" 1866]
def o1285 : Obj := oT []
def o1286 : Obj := oFu .none "IsWatched.__init__" 68 0 .none .none
def o1287 : Obj := oCF "IsWatched.__init__" 1862 1867 269 2 1282 1283 1284 1285 1286
def o1288 : Obj := oFu (.type "function") "IsWatched.__init__" 68 3 vM (.ref 1287)
def o1289 : Obj := oT [.str "question" 1870]
def o1290 (P : Params) : Obj := oD [kE P "__module__" 1857 vM, kE P "__firstlineno__" 1861 (.int 267 1860), kE P "__init__" 1869 (.ref 1288), kE P "__static_attributes__" 1871 (.ref 1289), kE P "__doc__" 1872 .none] 2
def o1291 : Obj := oC "IsWatched" 1275 1291 1290 1850
def o1292 : Obj := oSup 1291
def o1293 : Obj := oSub 1291
def o1294 : Obj := oT [.ref 24]
def o1295 : Obj := oPr
def o1296 (P : Params) : Obj := oD [kE P "__module__" 1882 vM, kE P "__qualname__" 1884 (.str "LastKeeper" 1883), kE P "__firstlineno__" 1886 (.int 271 1885), kE P "__static_attributes__" 1887 (.ref 1301)] 4
def o1297 : Obj := oT []
def o1298 : Obj := oF []
def o1299 : Obj := oCC "LastKeeper" 1877 271 1297 1298
def o1300 : Obj := oFr 1299 1296
def o1301 : Obj := oT []
def o1302 (P : Params) : Obj := oD [kE P "__module__" 1882 vM, kE P "__firstlineno__" 1886 (.int 271 1885), kE P "__static_attributes__" 1887 (.ref 1301), kE P "__doc__" 1888 .none] 2
def o1303 : Obj := oC "LastKeeper" 1294 1303 1302 1875
def o1304 : Obj := oSup 1303
def o1305 : Obj := oSub 1303
def o1306 : Obj := oT [.ref 24]
def o1307 : Obj := oPr
def o1308 (P : Params) : Obj := oD [kE P "__module__" 1898 vM, kE P "__qualname__" 1900 (.str "ManyWriters" 1899), kE P "__firstlineno__" 1902 (.int 273 1901), kE P "__static_attributes__" 1903 (.ref 1313)] 4
def o1309 : Obj := oT []
def o1310 : Obj := oF []
def o1311 : Obj := oCC "ManyWriters" 1893 273 1309 1310
def o1312 : Obj := oFr 1311 1308
def o1313 : Obj := oT []
def o1314 (P : Params) : Obj := oD [kE P "__module__" 1898 vM, kE P "__firstlineno__" 1902 (.int 273 1901), kE P "__static_attributes__" 1903 (.ref 1313), kE P "__doc__" 1904 .none] 2
def o1315 : Obj := oC "ManyWriters" 1306 1315 1314 1891
def o1316 : Obj := oSup 1315
def o1317 : Obj := oSub 1315
def o1318 : Obj := oT [.ref 24]
def o1319 : Obj := oPr
def o1320 (P : Params) : Obj := oD [kE P "__module__" 1914 vM, kE P "__qualname__" 1916 (.str "NoBetter" 1915), kE P "__firstlineno__" 1918 (.int 275 1917), kE P "__static_attributes__" 1919 (.ref 1325)] 4
def o1321 : Obj := oT []
def o1322 : Obj := oF []
def o1323 : Obj := oCC "NoBetter" 1909 275 1321 1322
def o1324 : Obj := oFr 1323 1320
def o1325 : Obj := oT []
def o1326 (P : Params) : Obj := oD [kE P "__module__" 1914 vM, kE P "__firstlineno__" 1918 (.int 275 1917), kE P "__static_attributes__" 1919 (.ref 1325), kE P "__doc__" 1920 .none] 2
def o1327 : Obj := oC "NoBetter" 1318 1327 1326 1907
def o1328 : Obj := oSup 1327
def o1329 : Obj := oSub 1327
def o1330 : Obj := oT [.ref 24]
def o1331 : Obj := oPr
def o1332 (P : Params) : Obj := oD [kE P "__module__" 1930 vM, kE P "__qualname__" 1932 (.str "NoCount" 1931), kE P "__firstlineno__" 1934 (.int 277 1933), kE P "__init__" 1942 (.ref 1343), kE P "__static_attributes__" 1944 (.ref 1344)] 5
def o1333 : Obj := oT []
def o1334 : Obj := oF [.int 279 0, .int 4 0, .ref 1342]
def o1335 : Obj := oCC "NoCount" 1925 277 1333 1334
def o1336 : Obj := oFr 1335 1332
def o1337 : Obj := oT []
def o1338 : Obj := oF []
def o1339 : Obj := oT [.str "self" 1938, .str "thing" 1939]
def o1340 : Obj := oT []
def o1341 : Obj := oFu .none "NoCount.__init__" 72 0 .none .none
def o1342 : Obj := oCF "NoCount.__init__" 1935 1940 279 2 1337 1338 1339 1340 1341
def o1343 : Obj := oFu (.type "function") "NoCount.__init__" 72 3 vM (.ref 1342)
def o1344 : Obj := oT [.str "thing" 1943]
def o1345 (P : Params) : Obj := oD [kE P "__module__" 1930 vM, kE P "__firstlineno__" 1934 (.int 277 1933), kE P "__init__" 1942 (.ref 1343), kE P "__static_attributes__" 1944 (.ref 1344), kE P "__doc__" 1945 .none] 2
def o1346 : Obj := oC "NoCount" 1330 1346 1345 1923
def o1347 : Obj := oSup 1346
def o1348 : Obj := oSub 1346
def o1349 : Obj := oT [.ref 24]
def o1350 : Obj := oPr
def o1351 (P : Params) : Obj := oD [kE P "__module__" 1955 vM, kE P "__qualname__" 1957 (.str "NoLots" 1956), kE P "__firstlineno__" 1959 (.int 281 1958), kE P "__static_attributes__" 1960 (.ref 1356)] 4
def o1352 : Obj := oT []
def o1353 : Obj := oF []
def o1354 : Obj := oCC "NoLots" 1950 281 1352 1353
def o1355 : Obj := oFr 1354 1351
def o1356 : Obj := oT []
def o1357 (P : Params) : Obj := oD [kE P "__module__" 1955 vM, kE P "__firstlineno__" 1959 (.int 281 1958), kE P "__static_attributes__" 1960 (.ref 1356), kE P "__doc__" 1961 .none] 2
def o1358 : Obj := oC "NoLots" 1349 1358 1357 1948
def o1359 : Obj := oSup 1358
def o1360 : Obj := oSub 1358
def o1361 : Obj := oT [.ref 24]
def o1362 : Obj := oPr
def o1363 (P : Params) : Obj := oD [kE P "__module__" 1971 vM, kE P "__qualname__" 1973 (.str "NobodyLeft" 1972), kE P "__firstlineno__" 1975 (.int 283 1974), kE P "__static_attributes__" 1976 (.ref 1368)] 4
def o1364 : Obj := oT []
def o1365 : Obj := oF []
def o1366 : Obj := oCC "NobodyLeft" 1966 283 1364 1365
def o1367 : Obj := oFr 1366 1363
def o1368 : Obj := oT []
def o1369 (P : Params) : Obj := oD [kE P "__module__" 1971 vM, kE P "__firstlineno__" 1975 (.int 283 1974), kE P "__static_attributes__" 1976 (.ref 1368), kE P "__doc__" 1977 .none] 2
def o1370 : Obj := oC "NobodyLeft" 1361 1370 1369 1964
def o1371 : Obj := oSup 1370
def o1372 : Obj := oSub 1370
def o1373 : Obj := oT [.ref 24]
def o1374 : Obj := oPr
def o1375 (P : Params) : Obj := oD [kE P "__module__" 1987 vM, kE P "__qualname__" 1989 (.str "NotMeeting" 1988), kE P "__firstlineno__" 1991 (.int 285 1990), kE P "__init__" 2000 (.ref 1386), kE P "__static_attributes__" 2003 (.ref 1387)] 5
def o1376 : Obj := oT []
def o1377 : Obj := oF [.int 287 0, .int 4 0, .ref 1385]
def o1378 : Obj := oCC "NotMeeting" 1982 285 1376 1377
def o1379 : Obj := oFr 1378 1375
def o1380 : Obj := oT []
def o1381 : Obj := oF []
def o1382 : Obj := oT [.str "self" 1995, .str "lot" 1996, .str "other" 1997]
def o1383 : Obj := oT []
def o1384 : Obj := oFu .none "NotMeeting.__init__" 75 0 .none .none
def o1385 : Obj := oCF "NotMeeting.__init__" 1992 1998 287 3 1380 1381 1382 1383 1384
def o1386 : Obj := oFu (.type "function") "NotMeeting.__init__" 75 3 vM (.ref 1385)
def o1387 : Obj := oT [.str "lot" 2001, .str "other" 2002]
def o1388 (P : Params) : Obj := oD [kE P "__module__" 1987 vM, kE P "__firstlineno__" 1991 (.int 285 1990), kE P "__init__" 2000 (.ref 1386), kE P "__static_attributes__" 2003 (.ref 1387), kE P "__doc__" 2004 .none] 2
def o1389 : Obj := oC "NotMeeting" 1373 1389 1388 1980
def o1390 : Obj := oSup 1389
def o1391 : Obj := oSub 1389
def o1392 : Obj := oT [.ref 24]
def o1393 : Obj := oPr
def o1394 (P : Params) : Obj := oD [kE P "__module__" 2014 vM, kE P "__qualname__" 2016 (.str "NotNow" 2015), kE P "__firstlineno__" 2018 (.int 290 2017), kE P "__init__" 2026 (.ref 1405), kE P "__static_attributes__" 2028 (.ref 1406)] 5
def o1395 : Obj := oT []
def o1396 : Obj := oF [.int 292 0, .int 4 0, .ref 1404]
def o1397 : Obj := oCC "NotNow" 2009 290 1395 1396
def o1398 : Obj := oFr 1397 1394
def o1399 : Obj := oT []
def o1400 : Obj := oF []
def o1401 : Obj := oT [.str "self" 2022, .str "why" 2023]
def o1402 : Obj := oT []
def o1403 : Obj := oFu .none "NotNow.__init__" 76 0 .none .none
def o1404 : Obj := oCF "NotNow.__init__" 2019 2024 292 2 1399 1400 1401 1402 1403
def o1405 : Obj := oFu (.type "function") "NotNow.__init__" 76 3 vM (.ref 1404)
def o1406 : Obj := oT [.str "why" 2027]
def o1407 (P : Params) : Obj := oD [kE P "__module__" 2014 vM, kE P "__firstlineno__" 2018 (.int 290 2017), kE P "__init__" 2026 (.ref 1405), kE P "__static_attributes__" 2028 (.ref 1406), kE P "__doc__" 2029 .none] 2
def o1408 : Obj := oC "NotNow" 1392 1408 1407 2007
def o1409 : Obj := oSup 1408
def o1410 : Obj := oSub 1408
def o1411 : Obj := oT [.ref 24]
def o1412 : Obj := oPr
def o1413 (P : Params) : Obj := oD [kE P "__module__" 2039 vM, kE P "__qualname__" 2041 (.str "NotPart" 2040), kE P "__firstlineno__" 2043 (.int 294 2042), kE P "__static_attributes__" 2044 (.ref 1418)] 4
def o1414 : Obj := oT []
def o1415 : Obj := oF []
def o1416 : Obj := oCC "NotPart" 2034 294 1414 1415
def o1417 : Obj := oFr 1416 1413
def o1418 : Obj := oT []
def o1419 (P : Params) : Obj := oD [kE P "__module__" 2039 vM, kE P "__firstlineno__" 2043 (.int 294 2042), kE P "__static_attributes__" 2044 (.ref 1418), kE P "__doc__" 2045 .none] 2
def o1420 : Obj := oC "NotPart" 1411 1420 1419 2032
def o1421 : Obj := oSup 1420
def o1422 : Obj := oSub 1420
def o1423 : Obj := oT [.ref 24]
def o1424 : Obj := oPr
def o1425 (P : Params) : Obj := oD [kE P "__module__" 2055 vM, kE P "__qualname__" 2057 (.str "NotSeven" 2056), kE P "__firstlineno__" 2059 (.int 296 2058), kE P "__init__" 2067 (.ref 1436), kE P "__static_attributes__" 2069 (.ref 1437)] 5
def o1426 : Obj := oT []
def o1427 : Obj := oF [.int 298 0, .int 4 0, .ref 1435]
def o1428 : Obj := oCC "NotSeven" 2050 296 1426 1427
def o1429 : Obj := oFr 1428 1425
def o1430 : Obj := oT []
def o1431 : Obj := oF []
def o1432 : Obj := oT [.str "self" 2063, .str "count" 2064]
def o1433 : Obj := oT []
def o1434 : Obj := oFu .none "NotSeven.__init__" 78 0 .none .none
def o1435 : Obj := oCF "NotSeven.__init__" 2060 2065 298 2 1430 1431 1432 1433 1434
def o1436 : Obj := oFu (.type "function") "NotSeven.__init__" 78 3 vM (.ref 1435)
def o1437 : Obj := oT [.str "count" 2068]
def o1438 (P : Params) : Obj := oD [kE P "__module__" 2055 vM, kE P "__firstlineno__" 2059 (.int 296 2058), kE P "__init__" 2067 (.ref 1436), kE P "__static_attributes__" 2069 (.ref 1437), kE P "__doc__" 2070 .none] 2
def o1439 : Obj := oC "NotSeven" 1423 1439 1438 2048
def o1440 : Obj := oSup 1439
def o1441 : Obj := oSub 1439
def o1442 : Obj := oT [.ref 24]
def o1443 : Obj := oPr
def o1444 (P : Params) : Obj := oD [kE P "__module__" 2080 vM, kE P "__qualname__" 2082 (.str "NotWatched" 2081), kE P "__firstlineno__" 2084 (.int 300 2083), kE P "__init__" 2092 (.ref 1455), kE P "__static_attributes__" 2094 (.ref 1456)] 5
def o1445 : Obj := oT []
def o1446 : Obj := oF [.int 302 0, .int 4 0, .ref 1454]
def o1447 : Obj := oCC "NotWatched" 2075 300 1445 1446
def o1448 : Obj := oFr 1447 1444
def o1449 : Obj := oT []
def o1450 : Obj := oF []
def o1451 : Obj := oT [.str "self" 2088, .str "question" 2089]
def o1452 : Obj := oT []
def o1453 : Obj := oFu .none "NotWatched.__init__" 79 0 .none .none
def o1454 : Obj := oCF "NotWatched.__init__" 2085 2090 302 2 1449 1450 1451 1452 1453
def o1455 : Obj := oFu (.type "function") "NotWatched.__init__" 79 3 vM (.ref 1454)
def o1456 : Obj := oT [.str "question" 2093]
def o1457 (P : Params) : Obj := oD [kE P "__module__" 2080 vM, kE P "__firstlineno__" 2084 (.int 300 2083), kE P "__init__" 2092 (.ref 1455), kE P "__static_attributes__" 2094 (.ref 1456), kE P "__doc__" 2095 .none] 2
def o1458 : Obj := oC "NotWatched" 1442 1458 1457 2073
def o1459 : Obj := oSup 1458
def o1460 : Obj := oSub 1458
def o1461 : Obj := oT [.ref 24]
def o1462 : Obj := oPr
def o1463 (P : Params) : Obj := oD [kE P "__module__" 2105 vM, kE P "__qualname__" 2107 (.str "TooFew" 2106), kE P "__firstlineno__" 2109 (.int 304 2108), kE P "__init__" 2117 (.ref 1474), kE P "__static_attributes__" 2119 (.ref 1475)] 5
def o1464 : Obj := oT []
def o1465 : Obj := oF [.int 306 0, .int 4 0, .ref 1473]
def o1466 : Obj := oCC "TooFew" 2100 304 1464 1465
def o1467 : Obj := oFr 1466 1463
def o1468 : Obj := oT []
def o1469 : Obj := oF []
def o1470 : Obj := oT [.str "self" 2113, .str "total" 2114]
def o1471 : Obj := oT []
def o1472 : Obj := oFu .none "TooFew.__init__" 80 0 .none .none
def o1473 : Obj := oCF "TooFew.__init__" 2110 2115 306 2 1468 1469 1470 1471 1472
def o1474 : Obj := oFu (.type "function") "TooFew.__init__" 80 3 vM (.ref 1473)
def o1475 : Obj := oT [.str "total" 2118]
def o1476 (P : Params) : Obj := oD [kE P "__module__" 2105 vM, kE P "__firstlineno__" 2109 (.int 304 2108), kE P "__init__" 2117 (.ref 1474), kE P "__static_attributes__" 2119 (.ref 1475), kE P "__doc__" 2120 .none] 2
def o1477 : Obj := oC "TooFew" 1461 1477 1476 2098
def o1478 : Obj := oSup 1477
def o1479 : Obj := oSub 1477
def o1480 : Obj := oT [.ref 24]
def o1481 : Obj := oPr
def o1482 (P : Params) : Obj := oD [kE P "__module__" 2130 vM, kE P "__qualname__" 2132 (.str "Unbroken" 2131), kE P "__firstlineno__" 2134 (.int 308 2133), kE P "__static_attributes__" 2135 (.ref 1487)] 4
def o1483 : Obj := oT []
def o1484 : Obj := oF []
def o1485 : Obj := oCC "Unbroken" 2125 308 1483 1484
def o1486 : Obj := oFr 1485 1482
def o1487 : Obj := oT []
def o1488 (P : Params) : Obj := oD [kE P "__module__" 2130 vM, kE P "__firstlineno__" 2134 (.int 308 2133), kE P "__static_attributes__" 2135 (.ref 1487), kE P "__doc__" 2136 .none] 2
def o1489 : Obj := oC "Unbroken" 1480 1489 1488 2123
def o1490 : Obj := oSup 1489
def o1491 : Obj := oSub 1489
def o1492 : Obj := oT [.ref 24]
def o1493 : Obj := oPr
def o1494 (P : Params) : Obj := oD [kE P "__module__" 2146 vM, kE P "__qualname__" 2148 (.str "WouldChange" 2147), kE P "__firstlineno__" 2150 (.int 310 2149), kE P "__init__" 2159 (.ref 1505), kE P "__static_attributes__" 2162 (.ref 1506)] 5
def o1495 : Obj := oT []
def o1496 : Obj := oF [.int 312 0, .int 4 0, .ref 1504]
def o1497 : Obj := oCC "WouldChange" 2141 310 1495 1496
def o1498 : Obj := oFr 1497 1494
def o1499 : Obj := oT []
def o1500 : Obj := oF []
def o1501 : Obj := oT [.str "self" 2154, .str "question" 2155, .str "why" 2156]
def o1502 : Obj := oT []
def o1503 : Obj := oFu .none "WouldChange.__init__" 82 0 .none .none
def o1504 : Obj := oCF "WouldChange.__init__" 2151 2157 312 3 1499 1500 1501 1502 1503
def o1505 : Obj := oFu (.type "function") "WouldChange.__init__" 82 3 vM (.ref 1504)
def o1506 : Obj := oT [.str "question" 2160, .str "why" 2161]
def o1507 (P : Params) : Obj := oD [kE P "__module__" 2146 vM, kE P "__firstlineno__" 2150 (.int 310 2149), kE P "__init__" 2159 (.ref 1505), kE P "__static_attributes__" 2162 (.ref 1506), kE P "__doc__" 2163 .none] 2
def o1508 : Obj := oC "WouldChange" 1492 1508 1507 2139
def o1509 : Obj := oSup 1508
def o1510 : Obj := oSub 1508
def mE0 (P : Params) : List DictEntry := [kE P "__name__" 165 vM, kE P "__doc__" 166 .none, kE P "__package__" 167 .none, kE P "__loader__" 168 (.builtin "__main__.__loader__#opaque"), kE P "__spec__" 169 .none, kE P "__annotations__" 170 (.ref 6), kE P "__builtins__" 171 (.ref 4), kE P "__file__" 173 (.str "/claim/cut.py" 172), kE P "__cached__" 174 .none]
def mE : List (PySem.Str × Nat × Nat) := ([("LotError", 206, 24), ("Apart", 222, 37), ("BadAnswers", 247, 56), ("BadBegin", 272, 75), ("BadBook", 297, 94), ("BadBooks", 322, 113), ("BadClient", 347, 132), ("BadClients", 372, 151), ("BadCouncil", 397, 170), ("BadCouncilbook", 422, 189), ("BadDeed", 447, 208), ("BadDeedRow", 472, 227), ("BadFailed", 497, 246), ("BadFailing", 522, 265), ("BadFallen", 547, 284), ("BadFamily", 572, 303), ("BadFaults", 597, 322), ("BadFirst", 622, 341), ("BadForm", 647, 360), ("BadHistory", 672, 379)] : List (PySem.Str × Nat × Nat)) ++ ([("BadHistoryRow", 697, 398), ("BadInner", 722, 417), ("BadKeeper", 747, 436), ("BadKeepers", 772, 455), ("BadKind", 797, 474), ("BadLast", 822, 493), ("BadLot", 847, 512), ("BadLots", 872, 531), ("BadMany", 897, 550), ("BadMost", 922, 569), ("BadName", 947, 588), ("BadNames", 972, 607), ("BadNaming", 997, 626), ("BadNumber", 1022, 645), ("BadOrder", 1047, 664), ("BadOther", 1072, 683), ("BadOtherBook", 1097, 702), ("BadOtherCouncil", 1122, 721), ("BadOtherFamily", 1147, 740), ("BadOtherFaults", 1172, 759)] : List (PySem.Str × Nat × Nat)) ++ ([("BadOtherKeepers", 1197, 778), ("BadOtherNumber", 1222, 797), ("BadOtherRow", 1247, 816), ("BadPair", 1272, 835), ("BadProbes", 1297, 854), ("BadQuestion", 1322, 873), ("BadRate", 1347, 892), ("BadReadNumber", 1372, 911), ("BadRow", 1397, 930), ("BadRows", 1422, 949), ("BadSchedule", 1447, 968), ("BadShare", 1472, 987), ("BadSlices", 1497, 1006), ("BadSlow", 1522, 1025), ("BadSome", 1547, 1044), ("BadSpeeds", 1572, 1063), ("BadStep", 1597, 1082), ("BadStore", 1622, 1101), ("BadStrategies", 1647, 1120), ("BadStrategy", 1672, 1139)] : List (PySem.Str × Nat × Nat)) ++ ([("BadText", 1699, 1158), ("BadTree", 1724, 1177), ("BadVotes", 1749, 1196), ("BadWeights", 1774, 1215), ("BadWithin", 1799, 1234), ("BadWriteNumber", 1824, 1253), ("InUse", 1849, 1272), ("IsWatched", 1874, 1291), ("LastKeeper", 1890, 1303), ("ManyWriters", 1906, 1315), ("NoBetter", 1922, 1327), ("NoCount", 1947, 1346), ("NoLots", 1963, 1358), ("NobodyLeft", 1979, 1370), ("NotMeeting", 2006, 1389), ("NotNow", 2031, 1408), ("NotPart", 2047, 1420), ("NotSeven", 2072, 1439), ("NotWatched", 2097, 1458), ("TooFew", 2122, 1477)] : List (PySem.Str × Nat × Nat)) ++ ([("Unbroken", 2138, 1489), ("WouldChange", 2165, 1508)] : List (PySem.Str × Nat × Nat))
def cE : List (Nat × Nat) := ([(2, 20), (4, 33), (6, 45), (10, 64), (14, 83), (18, 102), (22, 121), (26, 140), (30, 159), (34, 178), (38, 197), (42, 216), (46, 235), (50, 254), (54, 273), (58, 292), (62, 311), (66, 330), (70, 349), (74, 368)] : List (Nat × Nat)) ++ ([(78, 387), (82, 406), (86, 425), (90, 444), (94, 463), (98, 482), (102, 501), (106, 520), (110, 539), (114, 558), (118, 577), (122, 596), (126, 615), (130, 634), (134, 653), (138, 672), (142, 691), (146, 710), (150, 729), (154, 748)] : List (Nat × Nat)) ++ ([(158, 767), (162, 786), (166, 805), (170, 824), (174, 843), (178, 862), (182, 881), (186, 900), (190, 919), (194, 938), (198, 957), (202, 976), (206, 995), (210, 1014), (214, 1033), (218, 1052), (222, 1071), (226, 1090), (230, 1109), (234, 1128)] : List (Nat × Nat)) ++ ([(238, 1147), (243, 1166), (247, 1185), (251, 1204), (255, 1223), (259, 1242), (263, 1261), (267, 1280), (271, 1299), (273, 1311), (275, 1323), (277, 1335), (281, 1354), (283, 1366), (285, 1378), (290, 1397), (294, 1416), (296, 1428), (300, 1447), (304, 1466)] : List (Nat × Nat)) ++ ([(308, 1485), (310, 1497)] : List (Nat × Nat))
def sE : List Nat := ([37, 56, 75, 94, 113, 132, 151, 170, 189, 208, 227, 246, 265, 284, 303, 322, 341, 360, 379, 398] : List (Nat)) ++ ([417, 436, 455, 474, 493, 512, 531, 550, 569, 588, 607, 626, 645, 664, 683, 702, 721, 740, 759, 778] : List (Nat)) ++ ([797, 816, 835, 854, 873, 892, 911, 930, 949, 968, 987, 1006, 1025, 1044, 1063, 1082, 1101, 1120, 1139, 1158] : List (Nat)) ++ ([1177, 1196, 1215, 1234, 1253, 1272, 1291, 1303, 1315, 1327, 1346, 1358, 1370, 1389, 1408, 1420, 1439, 1458, 1477, 1489] : List (Nat)) ++ ([1508] : List (Nat))
def oM (n : Nat) (P : Params) : Obj := oD (mE0 P ++ (mE.take n).map fun x => kE P x.1 x.2.1 (.ref x.2.2)) (9 + n)
def oK (n : Nat) : Obj := oF ((cE.take n).flatMap fun x => [.int x.1 0, .int 0 0, .ref x.2])
def oL (n : Nat) : Obj := oN "LotError" 15 24 23 189 197 [.type "ValueError"] [.ref 24, .type "ValueError", .type "Exception", .type "BaseException", .type "object"] ((sE.take n).map .ref)

def tr22 (P : Params) : PySem.W.BT := (.node (boot_o_0 P) (.node (boot_o_1 P) (.node (oM 21 P) (.node (boot_o_7 P) (.node (o15) (.node (o31) (.node (o63) (.node (o127) (.node (o255) .nil .nil) (.node (o383) .nil .nil)) (.node (o191) (.node (o319) .nil .nil) .nil)) (.node (o95) (.node (o159) (.node (o287) .nil .nil) .nil) (.node (o223) (.node (o351) .nil .nil) .nil))) (.node (o47) (.node (o79) (.node (o143) (.node (o271) .nil .nil) (.node (o399) .nil .nil)) (.node (o207 P) (.node (o335) .nil .nil) .nil)) (.node (o111) (.node (o175 P) (.node (o303) .nil .nil) .nil) (.node (o239) (.node (o367) .nil .nil) .nil)))) (.node (o23 P) (.node (o39) (.node (o71) (.node (o135) (.node (o263) .nil .nil) (.node (o391) .nil .nil)) (.node (o199) (.node (o327 P) .nil .nil) .nil)) (.node (o103) (.node (o167) (.node (o295) .nil .nil) .nil) (.node (o231) (.node (o359 P) .nil .nil) .nil))) (.node (o55 P) (.node (o87) (.node (o151) (.node (o279) .nil .nil) .nil) (.node (o215) (.node (o343) .nil .nil) .nil)) (.node (o119) (.node (o183) (.node (o311) .nil .nil) .nil) (.node (o247) (.node (o375) .nil .nil) .nil))))) (.node (o11) (.node (o19) (.node (o35) (.node (o67) (.node (o131 P) (.node (o259) .nil .nil) (.node (o387) .nil .nil)) (.node (o195) (.node (o323) .nil .nil) .nil)) (.node (o99 P) (.node (o163) (.node (o291) .nil .nil) .nil) (.node (o227) (.node (o355) .nil .nil) .nil))) (.node (o51) (.node (o83) (.node (o147) (.node (o275) .nil .nil) .nil) (.node (o211) (.node (o339) .nil .nil) .nil)) (.node (o115) (.node (o179) (.node (o307) .nil .nil) .nil) (.node (o243) (.node (o371) .nil .nil) .nil)))) (.node (o27) (.node (o43) (.node (o75) (.node (o139) (.node (o267) .nil .nil) (.node (o395) .nil .nil)) (.node (o203) (.node (o331) .nil .nil) .nil)) (.node (o107) (.node (o171) (.node (o299) .nil .nil) .nil) (.node (o235) (.node (o363) .nil .nil) .nil))) (.node (o59) (.node (o91) (.node (o155) (.node (o283 P) .nil .nil) .nil) (.node (o219) (.node (o347) .nil .nil) .nil)) (.node (o123) (.node (o187) (.node (o315) .nil .nil) .nil) (.node (o251 P) (.node (o379) .nil .nil) .nil)))))) (.node (boot_o_5 P) (.node (boot_o_9 P) (.node (o17 P) (.node (o33) (.node (o65) (.node (o129) (.node (o257) .nil .nil) (.node (o385) .nil .nil)) (.node (o193) (.node (o321 P) .nil .nil) .nil)) (.node (o97) (.node (o161) (.node (o289 P) .nil .nil) .nil) (.node (o225) (.node (o353) .nil .nil) .nil))) (.node (o49) (.node (o81) (.node (o145) (.node (o273) .nil .nil) .nil) (.node (o209) (.node (o337) .nil .nil) .nil)) (.node (o113) (.node (o177) (.node (o305) .nil .nil) .nil) (.node (o241) (.node (o369) .nil .nil) .nil)))) (.node (o25) (.node (o41) (.node (o73) (.node (o137 P) (.node (o265) .nil .nil) (.node (o393) .nil .nil)) (.node (o201) (.node (o329) .nil .nil) .nil)) (.node (o105) (.node (o169 P) (.node (o297) .nil .nil) .nil) (.node (o233) (.node (o361) .nil .nil) .nil))) (.node (o57) (.node (o89) (.node (o153) (.node (o281) .nil .nil) .nil) (.node (o217) (.node (o345) .nil .nil) .nil)) (.node (o121) (.node (o185) (.node (o313) .nil .nil) .nil) (.node (o249) (.node (o377) .nil .nil) .nil))))) (.node (o13) (.node (o21) (.node (o37) (.node (o69) (.node (o133) (.node (o261) .nil .nil) (.node (o389) .nil .nil)) (.node (o197) (.node (o325) .nil .nil) .nil)) (.node (o101) (.node (o165) (.node (o293) .nil .nil) .nil) (.node (o229) (.node (o357) .nil .nil) .nil))) (.node (o53) (.node (o85) (.node (o149) (.node (o277) .nil .nil) .nil) (.node (o213 P) (.node (o341) .nil .nil) .nil)) (.node (o117) (.node (o181) (.node (o309) .nil .nil) .nil) (.node (o245 P) (.node (o373) .nil .nil) .nil)))) (.node (o29) (.node (o45) (.node (o77) (.node (o141) (.node (o269) .nil .nil) (.node (o397 P) .nil .nil)) (.node (o205) (.node (o333) .nil .nil) .nil)) (.node (o109) (.node (o173) (.node (o301) .nil .nil) .nil) (.node (o237) (.node (o365 P) .nil .nil) .nil))) (.node (o61 P) (.node (o93 P) (.node (o157) (.node (o285) .nil .nil) .nil) (.node (o221) (.node (o349) .nil .nil) .nil)) (.node (o125) (.node (o189) (.node (o317) .nil .nil) .nil) (.node (o253) (.node (o381) .nil .nil) .nil))))))) (.node (boot_o_2 P) (.node (boot_o_4 P) (.node (boot_o_8 P) (.node (o16) (.node (o32) (.node (o64) (.node (o128) (.node (o256) .nil .nil) (.node (o384 P) .nil .nil)) (.node (o192) (.node (o320) .nil .nil) .nil)) (.node (o96) (.node (o160) (.node (o288) .nil .nil) .nil) (.node (o224) (.node (o352) .nil .nil) .nil))) (.node (o48) (.node (o80 P) (.node (o144) (.node (o272) .nil .nil) (.node (o400) .nil .nil)) (.node (o208) (.node (o336) .nil .nil) .nil)) (.node (o112 P) (.node (o176) (.node (o304) .nil .nil) .nil) (.node (o240) (.node (o368) .nil .nil) .nil)))) (.node (oL 20) (.node (o40) (.node (o72) (.node (o136) (.node (o264 P) .nil .nil) (.node (o392) .nil .nil)) (.node (o200) (.node (o328) .nil .nil) .nil)) (.node (o104) (.node (o168) (.node (o296) .nil .nil) .nil) (.node (o232 P) (.node (o360) .nil .nil) .nil))) (.node (o56) (.node (o88) (.node (o152) (.node (o280) .nil .nil) .nil) (.node (o216) (.node (o344) .nil .nil) .nil)) (.node (o120) (.node (o184) (.node (o312) .nil .nil) .nil) (.node (o248) (.node (o376) .nil .nil) .nil))))) (.node (oK 21) (.node (o20) (.node (o36 P) (.node (o68) (.node (o132) (.node (o260) .nil .nil) (.node (o388) .nil .nil)) (.node (o196) (.node (o324) .nil .nil) .nil)) (.node (o100) (.node (o164) (.node (o292) .nil .nil) .nil) (.node (o228) (.node (o356) .nil .nil) .nil))) (.node (o52) (.node (o84) (.node (o148) (.node (o276) .nil .nil) .nil) (.node (o212) (.node (o340 P) .nil .nil) .nil)) (.node (o116) (.node (o180) (.node (o308 P) .nil .nil) .nil) (.node (o244) (.node (o372) .nil .nil) .nil)))) (.node (o28) (.node (o44) (.node (o76) (.node (o140) (.node (o268) .nil .nil) (.node (o396) .nil .nil)) (.node (o204) (.node (o332) .nil .nil) .nil)) (.node (o108) (.node (o172) (.node (o300) .nil .nil) .nil) (.node (o236) (.node (o364) .nil .nil) .nil))) (.node (o60) (.node (o92) (.node (o156 P) (.node (o284) .nil .nil) .nil) (.node (o220) (.node (o348) .nil .nil) .nil)) (.node (o124) (.node (o188 P) (.node (o316) .nil .nil) .nil) (.node (o252) (.node (o380) .nil .nil) .nil)))))) (.node (boot_o_6 P) (.node (boot_o_10 P) (.node (o18) (.node (o34) (.node (o66) (.node (o130) (.node (o258) .nil .nil) (.node (o386) .nil .nil)) (.node (o194 P) (.node (o322) .nil .nil) .nil)) (.node (o98) (.node (o162) (.node (o290) .nil .nil) .nil) (.node (o226 P) (.node (o354) .nil .nil) .nil))) (.node (o50) (.node (o82) (.node (o146) (.node (o274) .nil .nil) .nil) (.node (o210) (.node (o338) .nil .nil) .nil)) (.node (o114) (.node (o178) (.node (o306) .nil .nil) .nil) (.node (o242) (.node (o370) .nil .nil) .nil)))) (.node (o26) (.node (o42 P) (.node (o74 P) (.node (o138) (.node (o266) .nil .nil) (.node (o394) .nil .nil)) (.node (o202) (.node (o330) .nil .nil) .nil)) (.node (o106) (.node (o170) (.node (o298) .nil .nil) .nil) (.node (o234) (.node (o362) .nil .nil) .nil))) (.node (o58) (.node (o90) (.node (o154) (.node (o282) .nil .nil) .nil) (.node (o218) (.node (o346 P) .nil .nil) .nil)) (.node (o122) (.node (o186) (.node (o314) .nil .nil) .nil) (.node (o250) (.node (o378 P) .nil .nil) .nil))))) (.node (o14) (.node (o22) (.node (o38) (.node (o70) (.node (o134) (.node (o262) .nil .nil) (.node (o390) .nil .nil)) (.node (o198) (.node (o326) .nil .nil) .nil)) (.node (o102) (.node (o166) (.node (o294) .nil .nil) .nil) (.node (o230) (.node (o358) .nil .nil) .nil))) (.node (o54) (.node (o86) (.node (o150 P) (.node (o278) .nil .nil) .nil) (.node (o214) (.node (o342) .nil .nil) .nil)) (.node (o118 P) (.node (o182) (.node (o310) .nil .nil) .nil) (.node (o246) (.node (o374) .nil .nil) .nil)))) (.node (o30 P) (.node (o46) (.node (o78) (.node (o142) (.node (o270 P) .nil .nil) (.node (o398) .nil .nil)) (.node (o206) (.node (o334) .nil .nil) .nil)) (.node (o110) (.node (o174) (.node (o302 P) .nil .nil) .nil) (.node (o238) (.node (o366) .nil .nil) .nil))) (.node (o62) (.node (o94) (.node (o158) (.node (o286) .nil .nil) .nil) (.node (o222) (.node (o350) .nil .nil) .nil)) (.node (o126) (.node (o190) (.node (o318) .nil .nil) .nil) (.node (o254) (.node (o382) .nil .nil) .nil))))))))
def st22 (w : World) (os : OsState) : SharedT := ⟨tr22 w.params, 401, {}, #[], {}, 698, os⟩
def tr42 (P : Params) : PySem.W.BT := (.node (boot_o_0 P) (.node (boot_o_1 P) (.node (oM 41 P) (.node (boot_o_7 P) (.node (o15) (.node (o31) (.node (o63) (.node (o127) (.node (o255) (.node (o511 P) .nil .nil) (.node (o767) .nil .nil)) (.node (o383) (.node (o639) .nil .nil) .nil)) (.node (o191) (.node (o319) (.node (o575) .nil .nil) .nil) (.node (o447) (.node (o703) .nil .nil) .nil))) (.node (o95) (.node (o159) (.node (o287) (.node (o543) .nil .nil) .nil) (.node (o415) (.node (o671) .nil .nil) .nil)) (.node (o223) (.node (o351) (.node (o607) .nil .nil) .nil) (.node (o479 P) (.node (o735) .nil .nil) .nil)))) (.node (o47) (.node (o79) (.node (o143) (.node (o271) (.node (o527) .nil .nil) .nil) (.node (o399) (.node (o655) .nil .nil) .nil)) (.node (o207 P) (.node (o335) (.node (o591) .nil .nil) .nil) (.node (o463) (.node (o719) .nil .nil) .nil))) (.node (o111) (.node (o175 P) (.node (o303) (.node (o559) .nil .nil) .nil) (.node (o431) (.node (o687) .nil .nil) .nil)) (.node (o239) (.node (o367) (.node (o623) .nil .nil) .nil) (.node (o495) (.node (o751) .nil .nil) .nil))))) (.node (o23 P) (.node (o39) (.node (o71) (.node (o135) (.node (o263) (.node (o519) .nil .nil) (.node (o775) .nil .nil)) (.node (o391) (.node (o647) .nil .nil) .nil)) (.node (o199) (.node (o327 P) (.node (o583) .nil .nil) .nil) (.node (o455) (.node (o711) .nil .nil) .nil))) (.node (o103) (.node (o167) (.node (o295) (.node (o551) .nil .nil) .nil) (.node (o423) (.node (o679) .nil .nil) .nil)) (.node (o231) (.node (o359 P) (.node (o615) .nil .nil) .nil) (.node (o487) (.node (o743) .nil .nil) .nil)))) (.node (o55 P) (.node (o87) (.node (o151) (.node (o279) (.node (o535) .nil .nil) .nil) (.node (o407) (.node (o663 P) .nil .nil) .nil)) (.node (o215) (.node (o343) (.node (o599) .nil .nil) .nil) (.node (o471) (.node (o727) .nil .nil) .nil))) (.node (o119) (.node (o183) (.node (o311) (.node (o567) .nil .nil) .nil) (.node (o439) (.node (o695) .nil .nil) .nil)) (.node (o247) (.node (o375) (.node (o631 P) .nil .nil) .nil) (.node (o503) (.node (o759) .nil .nil) .nil)))))) (.node (o11) (.node (o19) (.node (o35) (.node (o67) (.node (o131 P) (.node (o259) (.node (o515) .nil .nil) (.node (o771) .nil .nil)) (.node (o387) (.node (o643) .nil .nil) .nil)) (.node (o195) (.node (o323) (.node (o579) .nil .nil) .nil) (.node (o451) (.node (o707 P) .nil .nil) .nil))) (.node (o99 P) (.node (o163) (.node (o291) (.node (o547) .nil .nil) .nil) (.node (o419) (.node (o675) .nil .nil) .nil)) (.node (o227) (.node (o355) (.node (o611) .nil .nil) .nil) (.node (o483) (.node (o739 P) .nil .nil) .nil)))) (.node (o51) (.node (o83) (.node (o147) (.node (o275) (.node (o531) .nil .nil) .nil) (.node (o403 P) (.node (o659) .nil .nil) .nil)) (.node (o211) (.node (o339) (.node (o595) .nil .nil) .nil) (.node (o467) (.node (o723) .nil .nil) .nil))) (.node (o115) (.node (o179) (.node (o307) (.node (o563) .nil .nil) .nil) (.node (o435 P) (.node (o691) .nil .nil) .nil)) (.node (o243) (.node (o371) (.node (o627) .nil .nil) .nil) (.node (o499) (.node (o755) .nil .nil) .nil))))) (.node (o27) (.node (o43) (.node (o75) (.node (o139) (.node (o267) (.node (o523) .nil .nil) (.node (o779) .nil .nil)) (.node (o395) (.node (o651) .nil .nil) .nil)) (.node (o203) (.node (o331) (.node (o587 P) .nil .nil) .nil) (.node (o459) (.node (o715) .nil .nil) .nil))) (.node (o107) (.node (o171) (.node (o299) (.node (o555 P) .nil .nil) .nil) (.node (o427) (.node (o683) .nil .nil) .nil)) (.node (o235) (.node (o363) (.node (o619) .nil .nil) .nil) (.node (o491) (.node (o747) .nil .nil) .nil)))) (.node (o59) (.node (o91) (.node (o155) (.node (o283 P) (.node (o539) .nil .nil) .nil) (.node (o411) (.node (o667) .nil .nil) .nil)) (.node (o219) (.node (o347) (.node (o603) .nil .nil) .nil) (.node (o475) (.node (o731) .nil .nil) .nil))) (.node (o123) (.node (o187) (.node (o315) (.node (o571) .nil .nil) .nil) (.node (o443) (.node (o699) .nil .nil) .nil)) (.node (o251 P) (.node (o379) (.node (o635) .nil .nil) .nil) (.node (o507) (.node (o763) .nil .nil) .nil))))))) (.node (boot_o_5 P) (.node (boot_o_9 P) (.node (o17 P) (.node (o33) (.node (o65) (.node (o129) (.node (o257) (.node (o513) .nil .nil) (.node (o769) .nil .nil)) (.node (o385) (.node (o641) .nil .nil) .nil)) (.node (o193) (.node (o321 P) (.node (o577) .nil .nil) .nil) (.node (o449) (.node (o705) .nil .nil) .nil))) (.node (o97) (.node (o161) (.node (o289 P) (.node (o545) .nil .nil) .nil) (.node (o417) (.node (o673) .nil .nil) .nil)) (.node (o225) (.node (o353) (.node (o609) .nil .nil) .nil) (.node (o481) (.node (o737) .nil .nil) .nil)))) (.node (o49) (.node (o81) (.node (o145) (.node (o273) (.node (o529) .nil .nil) .nil) (.node (o401) (.node (o657) .nil .nil) .nil)) (.node (o209) (.node (o337) (.node (o593 P) .nil .nil) .nil) (.node (o465) (.node (o721) .nil .nil) .nil))) (.node (o113) (.node (o177) (.node (o305) (.node (o561) .nil .nil) .nil) (.node (o433) (.node (o689) .nil .nil) .nil)) (.node (o241) (.node (o369) (.node (o625 P) .nil .nil) .nil) (.node (o497) (.node (o753) .nil .nil) .nil))))) (.node (o25) (.node (o41) (.node (o73) (.node (o137 P) (.node (o265) (.node (o521) .nil .nil) (.node (o777 P) .nil .nil)) (.node (o393) (.node (o649) .nil .nil) .nil)) (.node (o201) (.node (o329) (.node (o585) .nil .nil) .nil) (.node (o457) (.node (o713) .nil .nil) .nil))) (.node (o105) (.node (o169 P) (.node (o297) (.node (o553) .nil .nil) .nil) (.node (o425) (.node (o681) .nil .nil) .nil)) (.node (o233) (.node (o361) (.node (o617) .nil .nil) .nil) (.node (o489) (.node (o745 P) .nil .nil) .nil)))) (.node (o57) (.node (o89) (.node (o153) (.node (o281) (.node (o537) .nil .nil) .nil) (.node (o409) (.node (o665) .nil .nil) .nil)) (.node (o217) (.node (o345) (.node (o601) .nil .nil) .nil) (.node (o473 P) (.node (o729) .nil .nil) .nil))) (.node (o121) (.node (o185) (.node (o313) (.node (o569) .nil .nil) .nil) (.node (o441 P) (.node (o697) .nil .nil) .nil)) (.node (o249) (.node (o377) (.node (o633) .nil .nil) .nil) (.node (o505) (.node (o761) .nil .nil) .nil)))))) (.node (o13) (.node (o21) (.node (o37) (.node (o69) (.node (o133) (.node (o261) (.node (o517 P) .nil .nil) (.node (o773) .nil .nil)) (.node (o389) (.node (o645) .nil .nil) .nil)) (.node (o197) (.node (o325) (.node (o581) .nil .nil) .nil) (.node (o453) (.node (o709) .nil .nil) .nil))) (.node (o101) (.node (o165) (.node (o293) (.node (o549 P) .nil .nil) .nil) (.node (o421) (.node (o677) .nil .nil) .nil)) (.node (o229) (.node (o357) (.node (o613) .nil .nil) .nil) (.node (o485) (.node (o741) .nil .nil) .nil)))) (.node (o53) (.node (o85) (.node (o149) (.node (o277) (.node (o533) .nil .nil) .nil) (.node (o405) (.node (o661) .nil .nil) .nil)) (.node (o213 P) (.node (o341) (.node (o597) .nil .nil) .nil) (.node (o469) (.node (o725) .nil .nil) .nil))) (.node (o117) (.node (o181) (.node (o309) (.node (o565) .nil .nil) .nil) (.node (o437) (.node (o693) .nil .nil) .nil)) (.node (o245 P) (.node (o373) (.node (o629) .nil .nil) .nil) (.node (o501) (.node (o757) .nil .nil) .nil))))) (.node (o29) (.node (o45) (.node (o77) (.node (o141) (.node (o269) (.node (o525) .nil .nil) .nil) (.node (o397 P) (.node (o653) .nil .nil) .nil)) (.node (o205) (.node (o333) (.node (o589) .nil .nil) .nil) (.node (o461) (.node (o717) .nil .nil) .nil))) (.node (o109) (.node (o173) (.node (o301) (.node (o557) .nil .nil) .nil) (.node (o429) (.node (o685) .nil .nil) .nil)) (.node (o237) (.node (o365 P) (.node (o621) .nil .nil) .nil) (.node (o493) (.node (o749) .nil .nil) .nil)))) (.node (o61 P) (.node (o93 P) (.node (o157) (.node (o285) (.node (o541) .nil .nil) .nil) (.node (o413) (.node (o669 P) .nil .nil) .nil)) (.node (o221) (.node (o349) (.node (o605) .nil .nil) .nil) (.node (o477) (.node (o733) .nil .nil) .nil))) (.node (o125) (.node (o189) (.node (o317) (.node (o573) .nil .nil) .nil) (.node (o445) (.node (o701 P) .nil .nil) .nil)) (.node (o253) (.node (o381) (.node (o637) .nil .nil) .nil) (.node (o509) (.node (o765) .nil .nil) .nil)))))))) (.node (boot_o_2 P) (.node (boot_o_4 P) (.node (boot_o_8 P) (.node (o16) (.node (o32) (.node (o64) (.node (o128) (.node (o256) (.node (o512) .nil .nil) (.node (o768) .nil .nil)) (.node (o384 P) (.node (o640) .nil .nil) .nil)) (.node (o192) (.node (o320) (.node (o576) .nil .nil) .nil) (.node (o448) (.node (o704) .nil .nil) .nil))) (.node (o96) (.node (o160) (.node (o288) (.node (o544) .nil .nil) .nil) (.node (o416 P) (.node (o672) .nil .nil) .nil)) (.node (o224) (.node (o352) (.node (o608) .nil .nil) .nil) (.node (o480) (.node (o736) .nil .nil) .nil)))) (.node (o48) (.node (o80 P) (.node (o144) (.node (o272) (.node (o528) .nil .nil) .nil) (.node (o400) (.node (o656) .nil .nil) .nil)) (.node (o208) (.node (o336) (.node (o592) .nil .nil) .nil) (.node (o464) (.node (o720 P) .nil .nil) .nil))) (.node (o112 P) (.node (o176) (.node (o304) (.node (o560) .nil .nil) .nil) (.node (o432) (.node (o688 P) .nil .nil) .nil)) (.node (o240) (.node (o368) (.node (o624) .nil .nil) .nil) (.node (o496) (.node (o752) .nil .nil) .nil))))) (.node (oL 40) (.node (o40) (.node (o72) (.node (o136) (.node (o264 P) (.node (o520) .nil .nil) (.node (o776) .nil .nil)) (.node (o392) (.node (o648) .nil .nil) .nil)) (.node (o200) (.node (o328) (.node (o584) .nil .nil) .nil) (.node (o456) (.node (o712) .nil .nil) .nil))) (.node (o104) (.node (o168) (.node (o296) (.node (o552) .nil .nil) .nil) (.node (o424) (.node (o680) .nil .nil) .nil)) (.node (o232 P) (.node (o360) (.node (o616) .nil .nil) .nil) (.node (o488) (.node (o744) .nil .nil) .nil)))) (.node (o56) (.node (o88) (.node (o152) (.node (o280) (.node (o536 P) .nil .nil) .nil) (.node (o408) (.node (o664) .nil .nil) .nil)) (.node (o216) (.node (o344) (.node (o600) .nil .nil) .nil) (.node (o472) (.node (o728) .nil .nil) .nil))) (.node (o120) (.node (o184) (.node (o312) (.node (o568 P) .nil .nil) .nil) (.node (o440) (.node (o696) .nil .nil) .nil)) (.node (o248) (.node (o376) (.node (o632) .nil .nil) .nil) (.node (o504) (.node (o760) .nil .nil) .nil)))))) (.node (oK 41) (.node (o20) (.node (o36 P) (.node (o68) (.node (o132) (.node (o260) (.node (o516) .nil .nil) (.node (o772) .nil .nil)) (.node (o388) (.node (o644 P) .nil .nil) .nil)) (.node (o196) (.node (o324) (.node (o580) .nil .nil) .nil) (.node (o452) (.node (o708) .nil .nil) .nil))) (.node (o100) (.node (o164) (.node (o292) (.node (o548) .nil .nil) .nil) (.node (o420) (.node (o676) .nil .nil) .nil)) (.node (o228) (.node (o356) (.node (o612 P) .nil .nil) .nil) (.node (o484) (.node (o740) .nil .nil) .nil)))) (.node (o52) (.node (o84) (.node (o148) (.node (o276) (.node (o532) .nil .nil) .nil) (.node (o404) (.node (o660) .nil .nil) .nil)) (.node (o212) (.node (o340 P) (.node (o596) .nil .nil) .nil) (.node (o468) (.node (o724) .nil .nil) .nil))) (.node (o116) (.node (o180) (.node (o308 P) (.node (o564) .nil .nil) .nil) (.node (o436) (.node (o692) .nil .nil) .nil)) (.node (o244) (.node (o372) (.node (o628) .nil .nil) .nil) (.node (o500) (.node (o756) .nil .nil) .nil))))) (.node (o28) (.node (o44) (.node (o76) (.node (o140) (.node (o268) (.node (o524) .nil .nil) (.node (o780) .nil .nil)) (.node (o396) (.node (o652) .nil .nil) .nil)) (.node (o204) (.node (o332) (.node (o588) .nil .nil) .nil) (.node (o460 P) (.node (o716) .nil .nil) .nil))) (.node (o108) (.node (o172) (.node (o300) (.node (o556) .nil .nil) .nil) (.node (o428) (.node (o684) .nil .nil) .nil)) (.node (o236) (.node (o364) (.node (o620) .nil .nil) .nil) (.node (o492 P) (.node (o748) .nil .nil) .nil)))) (.node (o60) (.node (o92) (.node (o156 P) (.node (o284) (.node (o540) .nil .nil) .nil) (.node (o412) (.node (o668) .nil .nil) .nil)) (.node (o220) (.node (o348) (.node (o604) .nil .nil) .nil) (.node (o476) (.node (o732) .nil .nil) .nil))) (.node (o124) (.node (o188 P) (.node (o316) (.node (o572) .nil .nil) .nil) (.node (o444) (.node (o700) .nil .nil) .nil)) (.node (o252) (.node (o380) (.node (o636) .nil .nil) .nil) (.node (o508) (.node (o764 P) .nil .nil) .nil))))))) (.node (boot_o_6 P) (.node (boot_o_10 P) (.node (o18) (.node (o34) (.node (o66) (.node (o130) (.node (o258) (.node (o514) .nil .nil) (.node (o770) .nil .nil)) (.node (o386) (.node (o642) .nil .nil) .nil)) (.node (o194 P) (.node (o322) (.node (o578) .nil .nil) .nil) (.node (o450) (.node (o706) .nil .nil) .nil))) (.node (o98) (.node (o162) (.node (o290) (.node (o546) .nil .nil) .nil) (.node (o418) (.node (o674) .nil .nil) .nil)) (.node (o226 P) (.node (o354) (.node (o610) .nil .nil) .nil) (.node (o482) (.node (o738) .nil .nil) .nil)))) (.node (o50) (.node (o82) (.node (o146) (.node (o274) (.node (o530 P) .nil .nil) .nil) (.node (o402) (.node (o658) .nil .nil) .nil)) (.node (o210) (.node (o338) (.node (o594) .nil .nil) .nil) (.node (o466) (.node (o722) .nil .nil) .nil))) (.node (o114) (.node (o178) (.node (o306) (.node (o562) .nil .nil) .nil) (.node (o434) (.node (o690) .nil .nil) .nil)) (.node (o242) (.node (o370) (.node (o626) .nil .nil) .nil) (.node (o498 P) (.node (o754) .nil .nil) .nil))))) (.node (o26) (.node (o42 P) (.node (o74 P) (.node (o138) (.node (o266) (.node (o522) .nil .nil) (.node (o778) .nil .nil)) (.node (o394) (.node (o650 P) .nil .nil) .nil)) (.node (o202) (.node (o330) (.node (o586) .nil .nil) .nil) (.node (o458) (.node (o714) .nil .nil) .nil))) (.node (o106) (.node (o170) (.node (o298) (.node (o554) .nil .nil) .nil) (.node (o426) (.node (o682 P) .nil .nil) .nil)) (.node (o234) (.node (o362) (.node (o618) .nil .nil) .nil) (.node (o490) (.node (o746) .nil .nil) .nil)))) (.node (o58) (.node (o90) (.node (o154) (.node (o282) (.node (o538) .nil .nil) .nil) (.node (o410) (.node (o666) .nil .nil) .nil)) (.node (o218) (.node (o346 P) (.node (o602) .nil .nil) .nil) (.node (o474) (.node (o730) .nil .nil) .nil))) (.node (o122) (.node (o186) (.node (o314) (.node (o570) .nil .nil) .nil) (.node (o442) (.node (o698) .nil .nil) .nil)) (.node (o250) (.node (o378 P) (.node (o634) .nil .nil) .nil) (.node (o506) (.node (o762) .nil .nil) .nil)))))) (.node (o14) (.node (o22) (.node (o38) (.node (o70) (.node (o134) (.node (o262) (.node (o518) .nil .nil) (.node (o774) .nil .nil)) (.node (o390) (.node (o646) .nil .nil) .nil)) (.node (o198) (.node (o326) (.node (o582) .nil .nil) .nil) (.node (o454 P) (.node (o710) .nil .nil) .nil))) (.node (o102) (.node (o166) (.node (o294) (.node (o550) .nil .nil) .nil) (.node (o422 P) (.node (o678) .nil .nil) .nil)) (.node (o230) (.node (o358) (.node (o614) .nil .nil) .nil) (.node (o486) (.node (o742) .nil .nil) .nil)))) (.node (o54) (.node (o86) (.node (o150 P) (.node (o278) (.node (o534) .nil .nil) .nil) (.node (o406) (.node (o662) .nil .nil) .nil)) (.node (o214) (.node (o342) (.node (o598) .nil .nil) .nil) (.node (o470) (.node (o726 P) .nil .nil) .nil))) (.node (o118 P) (.node (o182) (.node (o310) (.node (o566) .nil .nil) .nil) (.node (o438) (.node (o694) .nil .nil) .nil)) (.node (o246) (.node (o374) (.node (o630) .nil .nil) .nil) (.node (o502) (.node (o758 P) .nil .nil) .nil))))) (.node (o30 P) (.node (o46) (.node (o78) (.node (o142) (.node (o270 P) (.node (o526) .nil .nil) .nil) (.node (o398) (.node (o654) .nil .nil) .nil)) (.node (o206) (.node (o334) (.node (o590) .nil .nil) .nil) (.node (o462) (.node (o718) .nil .nil) .nil))) (.node (o110) (.node (o174) (.node (o302 P) (.node (o558) .nil .nil) .nil) (.node (o430) (.node (o686) .nil .nil) .nil)) (.node (o238) (.node (o366) (.node (o622) .nil .nil) .nil) (.node (o494) (.node (o750) .nil .nil) .nil)))) (.node (o62) (.node (o94) (.node (o158) (.node (o286) (.node (o542) .nil .nil) .nil) (.node (o414) (.node (o670) .nil .nil) .nil)) (.node (o222) (.node (o350) (.node (o606 P) .nil .nil) .nil) (.node (o478) (.node (o734) .nil .nil) .nil))) (.node (o126) (.node (o190) (.node (o318) (.node (o574 P) .nil .nil) .nil) (.node (o446) (.node (o702) .nil .nil) .nil)) (.node (o254) (.node (o382) (.node (o638) .nil .nil) .nil) (.node (o510) (.node (o766) .nil .nil) .nil)))))))))
def st42 (w : World) (os : OsState) : SharedT := ⟨tr42 w.params, 781, {}, #[], {}, 1198, os⟩
def tr62 (P : Params) : PySem.W.BT := (.node (boot_o_0 P) (.node (boot_o_1 P) (.node (oM 61 P) (.node (boot_o_7 P) (.node (o15) (.node (o31) (.node (o63) (.node (o127) (.node (o255) (.node (o511 P) (.node (o1023) .nil .nil) .nil) (.node (o767) .nil .nil)) (.node (o383) (.node (o639) (.node (o1151) .nil .nil) .nil) (.node (o895) .nil .nil))) (.node (o191) (.node (o319) (.node (o575) (.node (o1087 P) .nil .nil) .nil) (.node (o831) .nil .nil)) (.node (o447) (.node (o703) .nil .nil) (.node (o959) .nil .nil)))) (.node (o95) (.node (o159) (.node (o287) (.node (o543) (.node (o1055) .nil .nil) .nil) (.node (o799) .nil .nil)) (.node (o415) (.node (o671) .nil .nil) (.node (o927) .nil .nil))) (.node (o223) (.node (o351) (.node (o607) (.node (o1119 P) .nil .nil) .nil) (.node (o863) .nil .nil)) (.node (o479 P) (.node (o735) .nil .nil) (.node (o991) .nil .nil))))) (.node (o47) (.node (o79) (.node (o143) (.node (o271) (.node (o527) (.node (o1039) .nil .nil) .nil) (.node (o783 P) .nil .nil)) (.node (o399) (.node (o655) .nil .nil) (.node (o911) .nil .nil))) (.node (o207 P) (.node (o335) (.node (o591) (.node (o1103) .nil .nil) .nil) (.node (o847) .nil .nil)) (.node (o463) (.node (o719) .nil .nil) (.node (o975) .nil .nil)))) (.node (o111) (.node (o175 P) (.node (o303) (.node (o559) (.node (o1071) .nil .nil) .nil) (.node (o815 P) .nil .nil)) (.node (o431) (.node (o687) .nil .nil) (.node (o943) .nil .nil))) (.node (o239) (.node (o367) (.node (o623) (.node (o1135) .nil .nil) .nil) (.node (o879) .nil .nil)) (.node (o495) (.node (o751) .nil .nil) (.node (o1007) .nil .nil)))))) (.node (o23 P) (.node (o39) (.node (o71) (.node (o135) (.node (o263) (.node (o519) (.node (o1031) .nil .nil) .nil) (.node (o775) .nil .nil)) (.node (o391) (.node (o647) (.node (o1159) .nil .nil) .nil) (.node (o903) .nil .nil))) (.node (o199) (.node (o327 P) (.node (o583) (.node (o1095) .nil .nil) .nil) (.node (o839) .nil .nil)) (.node (o455) (.node (o711) .nil .nil) (.node (o967 P) .nil .nil)))) (.node (o103) (.node (o167) (.node (o295) (.node (o551) (.node (o1063) .nil .nil) .nil) (.node (o807) .nil .nil)) (.node (o423) (.node (o679) .nil .nil) (.node (o935 P) .nil .nil))) (.node (o231) (.node (o359 P) (.node (o615) (.node (o1127) .nil .nil) .nil) (.node (o871) .nil .nil)) (.node (o487) (.node (o743) .nil .nil) (.node (o999) .nil .nil))))) (.node (o55 P) (.node (o87) (.node (o151) (.node (o279) (.node (o535) (.node (o1047) .nil .nil) .nil) (.node (o791) .nil .nil)) (.node (o407) (.node (o663 P) .nil .nil) (.node (o919) .nil .nil))) (.node (o215) (.node (o343) (.node (o599) (.node (o1111) .nil .nil) .nil) (.node (o855) .nil .nil)) (.node (o471) (.node (o727) .nil .nil) (.node (o983) .nil .nil)))) (.node (o119) (.node (o183) (.node (o311) (.node (o567) (.node (o1079) .nil .nil) .nil) (.node (o823) .nil .nil)) (.node (o439) (.node (o695) .nil .nil) (.node (o951) .nil .nil))) (.node (o247) (.node (o375) (.node (o631 P) (.node (o1143) .nil .nil) .nil) (.node (o887) .nil .nil)) (.node (o503) (.node (o759) .nil .nil) (.node (o1015) .nil .nil))))))) (.node (o11) (.node (o19) (.node (o35) (.node (o67) (.node (o131 P) (.node (o259) (.node (o515) (.node (o1027) .nil .nil) .nil) (.node (o771) .nil .nil)) (.node (o387) (.node (o643) (.node (o1155) .nil .nil) .nil) (.node (o899) .nil .nil))) (.node (o195) (.node (o323) (.node (o579) (.node (o1091) .nil .nil) .nil) (.node (o835) .nil .nil)) (.node (o451) (.node (o707 P) .nil .nil) (.node (o963) .nil .nil)))) (.node (o99 P) (.node (o163) (.node (o291) (.node (o547) (.node (o1059) .nil .nil) .nil) (.node (o803) .nil .nil)) (.node (o419) (.node (o675) .nil .nil) (.node (o931) .nil .nil))) (.node (o227) (.node (o355) (.node (o611) (.node (o1123) .nil .nil) .nil) (.node (o867) .nil .nil)) (.node (o483) (.node (o739 P) .nil .nil) (.node (o995) .nil .nil))))) (.node (o51) (.node (o83) (.node (o147) (.node (o275) (.node (o531) (.node (o1043 P) .nil .nil) .nil) (.node (o787) .nil .nil)) (.node (o403 P) (.node (o659) .nil .nil) (.node (o915) .nil .nil))) (.node (o211) (.node (o339) (.node (o595) (.node (o1107) .nil .nil) .nil) (.node (o851) .nil .nil)) (.node (o467) (.node (o723) .nil .nil) (.node (o979) .nil .nil)))) (.node (o115) (.node (o179) (.node (o307) (.node (o563) (.node (o1075) .nil .nil) .nil) (.node (o819) .nil .nil)) (.node (o435 P) (.node (o691) .nil .nil) (.node (o947) .nil .nil))) (.node (o243) (.node (o371) (.node (o627) (.node (o1139) .nil .nil) .nil) (.node (o883) .nil .nil)) (.node (o499) (.node (o755) .nil .nil) (.node (o1011 P) .nil .nil)))))) (.node (o27) (.node (o43) (.node (o75) (.node (o139) (.node (o267) (.node (o523) (.node (o1035) .nil .nil) .nil) (.node (o779) .nil .nil)) (.node (o395) (.node (o651) .nil .nil) (.node (o907) .nil .nil))) (.node (o203) (.node (o331) (.node (o587 P) (.node (o1099) .nil .nil) .nil) (.node (o843) .nil .nil)) (.node (o459) (.node (o715) .nil .nil) (.node (o971) .nil .nil)))) (.node (o107) (.node (o171) (.node (o299) (.node (o555 P) (.node (o1067) .nil .nil) .nil) (.node (o811) .nil .nil)) (.node (o427) (.node (o683) .nil .nil) (.node (o939) .nil .nil))) (.node (o235) (.node (o363) (.node (o619) (.node (o1131) .nil .nil) .nil) (.node (o875) .nil .nil)) (.node (o491) (.node (o747) .nil .nil) (.node (o1003) .nil .nil))))) (.node (o59) (.node (o91) (.node (o155) (.node (o283 P) (.node (o539) (.node (o1051) .nil .nil) .nil) (.node (o795) .nil .nil)) (.node (o411) (.node (o667) .nil .nil) (.node (o923) .nil .nil))) (.node (o219) (.node (o347) (.node (o603) (.node (o1115) .nil .nil) .nil) (.node (o859 P) .nil .nil)) (.node (o475) (.node (o731) .nil .nil) (.node (o987) .nil .nil)))) (.node (o123) (.node (o187) (.node (o315) (.node (o571) (.node (o1083) .nil .nil) .nil) (.node (o827) .nil .nil)) (.node (o443) (.node (o699) .nil .nil) (.node (o955) .nil .nil))) (.node (o251 P) (.node (o379) (.node (o635) (.node (o1147) .nil .nil) .nil) (.node (o891 P) .nil .nil)) (.node (o507) (.node (o763) .nil .nil) (.node (o1019) .nil .nil)))))))) (.node (boot_o_5 P) (.node (boot_o_9 P) (.node (o17 P) (.node (o33) (.node (o65) (.node (o129) (.node (o257) (.node (o513) (.node (o1025) .nil .nil) .nil) (.node (o769) .nil .nil)) (.node (o385) (.node (o641) (.node (o1153) .nil .nil) .nil) (.node (o897 P) .nil .nil))) (.node (o193) (.node (o321 P) (.node (o577) (.node (o1089) .nil .nil) .nil) (.node (o833) .nil .nil)) (.node (o449) (.node (o705) .nil .nil) (.node (o961) .nil .nil)))) (.node (o97) (.node (o161) (.node (o289 P) (.node (o545) (.node (o1057) .nil .nil) .nil) (.node (o801) .nil .nil)) (.node (o417) (.node (o673) .nil .nil) (.node (o929 P) .nil .nil))) (.node (o225) (.node (o353) (.node (o609) (.node (o1121) .nil .nil) .nil) (.node (o865) .nil .nil)) (.node (o481) (.node (o737) .nil .nil) (.node (o993) .nil .nil))))) (.node (o49) (.node (o81) (.node (o145) (.node (o273) (.node (o529) (.node (o1041) .nil .nil) .nil) (.node (o785) .nil .nil)) (.node (o401) (.node (o657) .nil .nil) (.node (o913) .nil .nil))) (.node (o209) (.node (o337) (.node (o593 P) (.node (o1105) .nil .nil) .nil) (.node (o849) .nil .nil)) (.node (o465) (.node (o721) .nil .nil) (.node (o977) .nil .nil)))) (.node (o113) (.node (o177) (.node (o305) (.node (o561) (.node (o1073) .nil .nil) .nil) (.node (o817) .nil .nil)) (.node (o433) (.node (o689) .nil .nil) (.node (o945) .nil .nil))) (.node (o241) (.node (o369) (.node (o625 P) (.node (o1137) .nil .nil) .nil) (.node (o881) .nil .nil)) (.node (o497) (.node (o753) .nil .nil) (.node (o1009) .nil .nil)))))) (.node (o25) (.node (o41) (.node (o73) (.node (o137 P) (.node (o265) (.node (o521) (.node (o1033) .nil .nil) .nil) (.node (o777 P) .nil .nil)) (.node (o393) (.node (o649) .nil .nil) (.node (o905) .nil .nil))) (.node (o201) (.node (o329) (.node (o585) (.node (o1097) .nil .nil) .nil) (.node (o841) .nil .nil)) (.node (o457) (.node (o713) .nil .nil) (.node (o969) .nil .nil)))) (.node (o105) (.node (o169 P) (.node (o297) (.node (o553) (.node (o1065) .nil .nil) .nil) (.node (o809) .nil .nil)) (.node (o425) (.node (o681) .nil .nil) (.node (o937) .nil .nil))) (.node (o233) (.node (o361) (.node (o617) (.node (o1129) .nil .nil) .nil) (.node (o873) .nil .nil)) (.node (o489) (.node (o745 P) .nil .nil) (.node (o1001) .nil .nil))))) (.node (o57) (.node (o89) (.node (o153) (.node (o281) (.node (o537) (.node (o1049 P) .nil .nil) .nil) (.node (o793) .nil .nil)) (.node (o409) (.node (o665) .nil .nil) (.node (o921) .nil .nil))) (.node (o217) (.node (o345) (.node (o601) (.node (o1113) .nil .nil) .nil) (.node (o857) .nil .nil)) (.node (o473 P) (.node (o729) .nil .nil) (.node (o985) .nil .nil)))) (.node (o121) (.node (o185) (.node (o313) (.node (o569) (.node (o1081 P) .nil .nil) .nil) (.node (o825) .nil .nil)) (.node (o441 P) (.node (o697) .nil .nil) (.node (o953) .nil .nil))) (.node (o249) (.node (o377) (.node (o633) (.node (o1145) .nil .nil) .nil) (.node (o889) .nil .nil)) (.node (o505) (.node (o761) .nil .nil) (.node (o1017) .nil .nil))))))) (.node (o13) (.node (o21) (.node (o37) (.node (o69) (.node (o133) (.node (o261) (.node (o517 P) (.node (o1029) .nil .nil) .nil) (.node (o773) .nil .nil)) (.node (o389) (.node (o645) (.node (o1157 P) .nil .nil) .nil) (.node (o901) .nil .nil))) (.node (o197) (.node (o325) (.node (o581) (.node (o1093) .nil .nil) .nil) (.node (o837) .nil .nil)) (.node (o453) (.node (o709) .nil .nil) (.node (o965) .nil .nil)))) (.node (o101) (.node (o165) (.node (o293) (.node (o549 P) (.node (o1061) .nil .nil) .nil) (.node (o805) .nil .nil)) (.node (o421) (.node (o677) .nil .nil) (.node (o933) .nil .nil))) (.node (o229) (.node (o357) (.node (o613) (.node (o1125 P) .nil .nil) .nil) (.node (o869) .nil .nil)) (.node (o485) (.node (o741) .nil .nil) (.node (o997) .nil .nil))))) (.node (o53) (.node (o85) (.node (o149) (.node (o277) (.node (o533) (.node (o1045) .nil .nil) .nil) (.node (o789) .nil .nil)) (.node (o405) (.node (o661) .nil .nil) (.node (o917) .nil .nil))) (.node (o213 P) (.node (o341) (.node (o597) (.node (o1109) .nil .nil) .nil) (.node (o853 P) .nil .nil)) (.node (o469) (.node (o725) .nil .nil) (.node (o981) .nil .nil)))) (.node (o117) (.node (o181) (.node (o309) (.node (o565) (.node (o1077) .nil .nil) .nil) (.node (o821 P) .nil .nil)) (.node (o437) (.node (o693) .nil .nil) (.node (o949) .nil .nil))) (.node (o245 P) (.node (o373) (.node (o629) (.node (o1141) .nil .nil) .nil) (.node (o885) .nil .nil)) (.node (o501) (.node (o757) .nil .nil) (.node (o1013) .nil .nil)))))) (.node (o29) (.node (o45) (.node (o77) (.node (o141) (.node (o269) (.node (o525) (.node (o1037) .nil .nil) .nil) (.node (o781) .nil .nil)) (.node (o397 P) (.node (o653) .nil .nil) (.node (o909) .nil .nil))) (.node (o205) (.node (o333) (.node (o589) (.node (o1101) .nil .nil) .nil) (.node (o845) .nil .nil)) (.node (o461) (.node (o717) .nil .nil) (.node (o973 P) .nil .nil)))) (.node (o109) (.node (o173) (.node (o301) (.node (o557) (.node (o1069) .nil .nil) .nil) (.node (o813) .nil .nil)) (.node (o429) (.node (o685) .nil .nil) (.node (o941) .nil .nil))) (.node (o237) (.node (o365 P) (.node (o621) (.node (o1133) .nil .nil) .nil) (.node (o877) .nil .nil)) (.node (o493) (.node (o749) .nil .nil) (.node (o1005 P) .nil .nil))))) (.node (o61 P) (.node (o93 P) (.node (o157) (.node (o285) (.node (o541) (.node (o1053) .nil .nil) .nil) (.node (o797) .nil .nil)) (.node (o413) (.node (o669 P) .nil .nil) (.node (o925) .nil .nil))) (.node (o221) (.node (o349) (.node (o605) (.node (o1117) .nil .nil) .nil) (.node (o861) .nil .nil)) (.node (o477) (.node (o733) .nil .nil) (.node (o989) .nil .nil)))) (.node (o125) (.node (o189) (.node (o317) (.node (o573) (.node (o1085) .nil .nil) .nil) (.node (o829) .nil .nil)) (.node (o445) (.node (o701 P) .nil .nil) (.node (o957) .nil .nil))) (.node (o253) (.node (o381) (.node (o637) (.node (o1149) .nil .nil) .nil) (.node (o893) .nil .nil)) (.node (o509) (.node (o765) .nil .nil) (.node (o1021) .nil .nil))))))))) (.node (boot_o_2 P) (.node (boot_o_4 P) (.node (boot_o_8 P) (.node (o16) (.node (o32) (.node (o64) (.node (o128) (.node (o256) (.node (o512) (.node (o1024 P) .nil .nil) .nil) (.node (o768) .nil .nil)) (.node (o384 P) (.node (o640) (.node (o1152) .nil .nil) .nil) (.node (o896) .nil .nil))) (.node (o192) (.node (o320) (.node (o576) (.node (o1088) .nil .nil) .nil) (.node (o832) .nil .nil)) (.node (o448) (.node (o704) .nil .nil) (.node (o960) .nil .nil)))) (.node (o96) (.node (o160) (.node (o288) (.node (o544) (.node (o1056) .nil .nil) .nil) (.node (o800) .nil .nil)) (.node (o416 P) (.node (o672) .nil .nil) (.node (o928) .nil .nil))) (.node (o224) (.node (o352) (.node (o608) (.node (o1120) .nil .nil) .nil) (.node (o864) .nil .nil)) (.node (o480) (.node (o736) .nil .nil) (.node (o992 P) .nil .nil))))) (.node (o48) (.node (o80 P) (.node (o144) (.node (o272) (.node (o528) (.node (o1040) .nil .nil) .nil) (.node (o784) .nil .nil)) (.node (o400) (.node (o656) .nil .nil) (.node (o912) .nil .nil))) (.node (o208) (.node (o336) (.node (o592) (.node (o1104) .nil .nil) .nil) (.node (o848) .nil .nil)) (.node (o464) (.node (o720 P) .nil .nil) (.node (o976) .nil .nil)))) (.node (o112 P) (.node (o176) (.node (o304) (.node (o560) (.node (o1072) .nil .nil) .nil) (.node (o816) .nil .nil)) (.node (o432) (.node (o688 P) .nil .nil) (.node (o944) .nil .nil))) (.node (o240) (.node (o368) (.node (o624) (.node (o1136) .nil .nil) .nil) (.node (o880) .nil .nil)) (.node (o496) (.node (o752) .nil .nil) (.node (o1008) .nil .nil)))))) (.node (oL 60) (.node (o40) (.node (o72) (.node (o136) (.node (o264 P) (.node (o520) (.node (o1032) .nil .nil) .nil) (.node (o776) .nil .nil)) (.node (o392) (.node (o648) (.node (o1160) .nil .nil) .nil) (.node (o904) .nil .nil))) (.node (o200) (.node (o328) (.node (o584) (.node (o1096) .nil .nil) .nil) (.node (o840 P) .nil .nil)) (.node (o456) (.node (o712) .nil .nil) (.node (o968) .nil .nil)))) (.node (o104) (.node (o168) (.node (o296) (.node (o552) (.node (o1064) .nil .nil) .nil) (.node (o808) .nil .nil)) (.node (o424) (.node (o680) .nil .nil) (.node (o936) .nil .nil))) (.node (o232 P) (.node (o360) (.node (o616) (.node (o1128) .nil .nil) .nil) (.node (o872 P) .nil .nil)) (.node (o488) (.node (o744) .nil .nil) (.node (o1000) .nil .nil))))) (.node (o56) (.node (o88) (.node (o152) (.node (o280) (.node (o536 P) (.node (o1048) .nil .nil) .nil) (.node (o792) .nil .nil)) (.node (o408) (.node (o664) .nil .nil) (.node (o920) .nil .nil))) (.node (o216) (.node (o344) (.node (o600) (.node (o1112) .nil .nil) .nil) (.node (o856) .nil .nil)) (.node (o472) (.node (o728) .nil .nil) (.node (o984) .nil .nil)))) (.node (o120) (.node (o184) (.node (o312) (.node (o568 P) (.node (o1080) .nil .nil) .nil) (.node (o824) .nil .nil)) (.node (o440) (.node (o696) .nil .nil) (.node (o952) .nil .nil))) (.node (o248) (.node (o376) (.node (o632) (.node (o1144 P) .nil .nil) .nil) (.node (o888) .nil .nil)) (.node (o504) (.node (o760) .nil .nil) (.node (o1016) .nil .nil))))))) (.node (oK 61) (.node (o20) (.node (o36 P) (.node (o68) (.node (o132) (.node (o260) (.node (o516) (.node (o1028) .nil .nil) .nil) (.node (o772) .nil .nil)) (.node (o388) (.node (o644 P) (.node (o1156) .nil .nil) .nil) (.node (o900) .nil .nil))) (.node (o196) (.node (o324) (.node (o580) (.node (o1092) .nil .nil) .nil) (.node (o836) .nil .nil)) (.node (o452) (.node (o708) .nil .nil) (.node (o964) .nil .nil)))) (.node (o100) (.node (o164) (.node (o292) (.node (o548) (.node (o1060) .nil .nil) .nil) (.node (o804) .nil .nil)) (.node (o420) (.node (o676) .nil .nil) (.node (o932) .nil .nil))) (.node (o228) (.node (o356) (.node (o612 P) (.node (o1124) .nil .nil) .nil) (.node (o868) .nil .nil)) (.node (o484) (.node (o740) .nil .nil) (.node (o996) .nil .nil))))) (.node (o52) (.node (o84) (.node (o148) (.node (o276) (.node (o532) (.node (o1044) .nil .nil) .nil) (.node (o788) .nil .nil)) (.node (o404) (.node (o660) .nil .nil) (.node (o916 P) .nil .nil))) (.node (o212) (.node (o340 P) (.node (o596) (.node (o1108) .nil .nil) .nil) (.node (o852) .nil .nil)) (.node (o468) (.node (o724) .nil .nil) (.node (o980) .nil .nil)))) (.node (o116) (.node (o180) (.node (o308 P) (.node (o564) (.node (o1076) .nil .nil) .nil) (.node (o820) .nil .nil)) (.node (o436) (.node (o692) .nil .nil) (.node (o948 P) .nil .nil))) (.node (o244) (.node (o372) (.node (o628) (.node (o1140) .nil .nil) .nil) (.node (o884) .nil .nil)) (.node (o500) (.node (o756) .nil .nil) (.node (o1012) .nil .nil)))))) (.node (o28) (.node (o44) (.node (o76) (.node (o140) (.node (o268) (.node (o524) (.node (o1036) .nil .nil) .nil) (.node (o780) .nil .nil)) (.node (o396) (.node (o652) .nil .nil) (.node (o908) .nil .nil))) (.node (o204) (.node (o332) (.node (o588) (.node (o1100 P) .nil .nil) .nil) (.node (o844) .nil .nil)) (.node (o460 P) (.node (o716) .nil .nil) (.node (o972) .nil .nil)))) (.node (o108) (.node (o172) (.node (o300) (.node (o556) (.node (o1068 P) .nil .nil) .nil) (.node (o812) .nil .nil)) (.node (o428) (.node (o684) .nil .nil) (.node (o940) .nil .nil))) (.node (o236) (.node (o364) (.node (o620) (.node (o1132) .nil .nil) .nil) (.node (o876) .nil .nil)) (.node (o492 P) (.node (o748) .nil .nil) (.node (o1004) .nil .nil))))) (.node (o60) (.node (o92) (.node (o156 P) (.node (o284) (.node (o540) (.node (o1052) .nil .nil) .nil) (.node (o796 P) .nil .nil)) (.node (o412) (.node (o668) .nil .nil) (.node (o924) .nil .nil))) (.node (o220) (.node (o348) (.node (o604) (.node (o1116) .nil .nil) .nil) (.node (o860) .nil .nil)) (.node (o476) (.node (o732) .nil .nil) (.node (o988) .nil .nil)))) (.node (o124) (.node (o188 P) (.node (o316) (.node (o572) (.node (o1084) .nil .nil) .nil) (.node (o828) .nil .nil)) (.node (o444) (.node (o700) .nil .nil) (.node (o956) .nil .nil))) (.node (o252) (.node (o380) (.node (o636) (.node (o1148) .nil .nil) .nil) (.node (o892) .nil .nil)) (.node (o508) (.node (o764 P) .nil .nil) (.node (o1020) .nil .nil)))))))) (.node (boot_o_6 P) (.node (boot_o_10 P) (.node (o18) (.node (o34) (.node (o66) (.node (o130) (.node (o258) (.node (o514) (.node (o1026) .nil .nil) .nil) (.node (o770) .nil .nil)) (.node (o386) (.node (o642) (.node (o1154) .nil .nil) .nil) (.node (o898) .nil .nil))) (.node (o194 P) (.node (o322) (.node (o578) (.node (o1090) .nil .nil) .nil) (.node (o834 P) .nil .nil)) (.node (o450) (.node (o706) .nil .nil) (.node (o962) .nil .nil)))) (.node (o98) (.node (o162) (.node (o290) (.node (o546) (.node (o1058) .nil .nil) .nil) (.node (o802 P) .nil .nil)) (.node (o418) (.node (o674) .nil .nil) (.node (o930) .nil .nil))) (.node (o226 P) (.node (o354) (.node (o610) (.node (o1122) .nil .nil) .nil) (.node (o866) .nil .nil)) (.node (o482) (.node (o738) .nil .nil) (.node (o994) .nil .nil))))) (.node (o50) (.node (o82) (.node (o146) (.node (o274) (.node (o530 P) (.node (o1042) .nil .nil) .nil) (.node (o786) .nil .nil)) (.node (o402) (.node (o658) .nil .nil) (.node (o914) .nil .nil))) (.node (o210) (.node (o338) (.node (o594) (.node (o1106 P) .nil .nil) .nil) (.node (o850) .nil .nil)) (.node (o466) (.node (o722) .nil .nil) (.node (o978) .nil .nil)))) (.node (o114) (.node (o178) (.node (o306) (.node (o562) (.node (o1074) .nil .nil) .nil) (.node (o818) .nil .nil)) (.node (o434) (.node (o690) .nil .nil) (.node (o946) .nil .nil))) (.node (o242) (.node (o370) (.node (o626) (.node (o1138 P) .nil .nil) .nil) (.node (o882) .nil .nil)) (.node (o498 P) (.node (o754) .nil .nil) (.node (o1010) .nil .nil)))))) (.node (o26) (.node (o42 P) (.node (o74 P) (.node (o138) (.node (o266) (.node (o522) (.node (o1034) .nil .nil) .nil) (.node (o778) .nil .nil)) (.node (o394) (.node (o650 P) .nil .nil) (.node (o906) .nil .nil))) (.node (o202) (.node (o330) (.node (o586) (.node (o1098) .nil .nil) .nil) (.node (o842) .nil .nil)) (.node (o458) (.node (o714) .nil .nil) (.node (o970) .nil .nil)))) (.node (o106) (.node (o170) (.node (o298) (.node (o554) (.node (o1066) .nil .nil) .nil) (.node (o810) .nil .nil)) (.node (o426) (.node (o682 P) .nil .nil) (.node (o938) .nil .nil))) (.node (o234) (.node (o362) (.node (o618) (.node (o1130) .nil .nil) .nil) (.node (o874) .nil .nil)) (.node (o490) (.node (o746) .nil .nil) (.node (o1002) .nil .nil))))) (.node (o58) (.node (o90) (.node (o154) (.node (o282) (.node (o538) (.node (o1050) .nil .nil) .nil) (.node (o794) .nil .nil)) (.node (o410) (.node (o666) .nil .nil) (.node (o922) .nil .nil))) (.node (o218) (.node (o346 P) (.node (o602) (.node (o1114) .nil .nil) .nil) (.node (o858) .nil .nil)) (.node (o474) (.node (o730) .nil .nil) (.node (o986 P) .nil .nil)))) (.node (o122) (.node (o186) (.node (o314) (.node (o570) (.node (o1082) .nil .nil) .nil) (.node (o826) .nil .nil)) (.node (o442) (.node (o698) .nil .nil) (.node (o954 P) .nil .nil))) (.node (o250) (.node (o378 P) (.node (o634) (.node (o1146) .nil .nil) .nil) (.node (o890) .nil .nil)) (.node (o506) (.node (o762) .nil .nil) (.node (o1018) .nil .nil))))))) (.node (o14) (.node (o22) (.node (o38) (.node (o70) (.node (o134) (.node (o262) (.node (o518) (.node (o1030 P) .nil .nil) .nil) (.node (o774) .nil .nil)) (.node (o390) (.node (o646) (.node (o1158) .nil .nil) .nil) (.node (o902) .nil .nil))) (.node (o198) (.node (o326) (.node (o582) (.node (o1094) .nil .nil) .nil) (.node (o838) .nil .nil)) (.node (o454 P) (.node (o710) .nil .nil) (.node (o966) .nil .nil)))) (.node (o102) (.node (o166) (.node (o294) (.node (o550) (.node (o1062 P) .nil .nil) .nil) (.node (o806) .nil .nil)) (.node (o422 P) (.node (o678) .nil .nil) (.node (o934) .nil .nil))) (.node (o230) (.node (o358) (.node (o614) (.node (o1126) .nil .nil) .nil) (.node (o870) .nil .nil)) (.node (o486) (.node (o742) .nil .nil) (.node (o998) .nil .nil))))) (.node (o54) (.node (o86) (.node (o150 P) (.node (o278) (.node (o534) (.node (o1046) .nil .nil) .nil) (.node (o790) .nil .nil)) (.node (o406) (.node (o662) .nil .nil) (.node (o918) .nil .nil))) (.node (o214) (.node (o342) (.node (o598) (.node (o1110) .nil .nil) .nil) (.node (o854) .nil .nil)) (.node (o470) (.node (o726 P) .nil .nil) (.node (o982) .nil .nil)))) (.node (o118 P) (.node (o182) (.node (o310) (.node (o566) (.node (o1078) .nil .nil) .nil) (.node (o822) .nil .nil)) (.node (o438) (.node (o694) .nil .nil) (.node (o950) .nil .nil))) (.node (o246) (.node (o374) (.node (o630) (.node (o1142) .nil .nil) .nil) (.node (o886) .nil .nil)) (.node (o502) (.node (o758 P) .nil .nil) (.node (o1014) .nil .nil)))))) (.node (o30 P) (.node (o46) (.node (o78) (.node (o142) (.node (o270 P) (.node (o526) (.node (o1038) .nil .nil) .nil) (.node (o782) .nil .nil)) (.node (o398) (.node (o654) .nil .nil) (.node (o910 P) .nil .nil))) (.node (o206) (.node (o334) (.node (o590) (.node (o1102) .nil .nil) .nil) (.node (o846) .nil .nil)) (.node (o462) (.node (o718) .nil .nil) (.node (o974) .nil .nil)))) (.node (o110) (.node (o174) (.node (o302 P) (.node (o558) (.node (o1070) .nil .nil) .nil) (.node (o814) .nil .nil)) (.node (o430) (.node (o686) .nil .nil) (.node (o942) .nil .nil))) (.node (o238) (.node (o366) (.node (o622) (.node (o1134) .nil .nil) .nil) (.node (o878 P) .nil .nil)) (.node (o494) (.node (o750) .nil .nil) (.node (o1006) .nil .nil))))) (.node (o62) (.node (o94) (.node (o158) (.node (o286) (.node (o542) (.node (o1054) .nil .nil) .nil) (.node (o798) .nil .nil)) (.node (o414) (.node (o670) .nil .nil) (.node (o926) .nil .nil))) (.node (o222) (.node (o350) (.node (o606 P) (.node (o1118) .nil .nil) .nil) (.node (o862) .nil .nil)) (.node (o478) (.node (o734) .nil .nil) (.node (o990) .nil .nil)))) (.node (o126) (.node (o190) (.node (o318) (.node (o574 P) (.node (o1086) .nil .nil) .nil) (.node (o830) .nil .nil)) (.node (o446) (.node (o702) .nil .nil) (.node (o958) .nil .nil))) (.node (o254) (.node (o382) (.node (o638) (.node (o1150) .nil .nil) .nil) (.node (o894) .nil .nil)) (.node (o510) (.node (o766) .nil .nil) (.node (o1022) .nil .nil))))))))))
def st62 (w : World) (os : OsState) : SharedT := ⟨tr62 w.params, 1161, {}, #[], {}, 1700, os⟩
def tr83 (P : Params) : PySem.W.BT := (.node (boot_o_0 P) (.node (boot_o_1 P) (.node (oM 82 P) (.node (boot_o_7 P) (.node (o15) (.node (o31) (.node (o63) (.node (o127) (.node (o255) (.node (o511 P) (.node (o1023) .nil .nil) .nil) (.node (o767) (.node (o1279) .nil .nil) .nil)) (.node (o383) (.node (o639) (.node (o1151) .nil .nil) .nil) (.node (o895) (.node (o1407 P) .nil .nil) .nil))) (.node (o191) (.node (o319) (.node (o575) (.node (o1087 P) .nil .nil) .nil) (.node (o831) (.node (o1343) .nil .nil) .nil)) (.node (o447) (.node (o703) (.node (o1215) .nil .nil) .nil) (.node (o959) (.node (o1471) .nil .nil) .nil)))) (.node (o95) (.node (o159) (.node (o287) (.node (o543) (.node (o1055) .nil .nil) .nil) (.node (o799) (.node (o1311) .nil .nil) .nil)) (.node (o415) (.node (o671) (.node (o1183) .nil .nil) .nil) (.node (o927) (.node (o1439) .nil .nil) .nil))) (.node (o223) (.node (o351) (.node (o607) (.node (o1119 P) .nil .nil) .nil) (.node (o863) (.node (o1375 P) .nil .nil) .nil)) (.node (o479 P) (.node (o735) (.node (o1247) .nil .nil) .nil) (.node (o991) (.node (o1503) .nil .nil) .nil))))) (.node (o47) (.node (o79) (.node (o143) (.node (o271) (.node (o527) (.node (o1039) .nil .nil) .nil) (.node (o783 P) (.node (o1295) .nil .nil) .nil)) (.node (o399) (.node (o655) (.node (o1167) .nil .nil) .nil) (.node (o911) (.node (o1423) .nil .nil) .nil))) (.node (o207 P) (.node (o335) (.node (o591) (.node (o1103) .nil .nil) .nil) (.node (o847) (.node (o1359) .nil .nil) .nil)) (.node (o463) (.node (o719) (.node (o1231) .nil .nil) .nil) (.node (o975) (.node (o1487) .nil .nil) .nil)))) (.node (o111) (.node (o175 P) (.node (o303) (.node (o559) (.node (o1071) .nil .nil) .nil) (.node (o815 P) (.node (o1327) .nil .nil) .nil)) (.node (o431) (.node (o687) (.node (o1199) .nil .nil) .nil) (.node (o943) (.node (o1455) .nil .nil) .nil))) (.node (o239) (.node (o367) (.node (o623) (.node (o1135) .nil .nil) .nil) (.node (o879) (.node (o1391) .nil .nil) .nil)) (.node (o495) (.node (o751) (.node (o1263) .nil .nil) .nil) (.node (o1007) .nil .nil)))))) (.node (o23 P) (.node (o39) (.node (o71) (.node (o135) (.node (o263) (.node (o519) (.node (o1031) .nil .nil) .nil) (.node (o775) (.node (o1287) .nil .nil) .nil)) (.node (o391) (.node (o647) (.node (o1159) .nil .nil) .nil) (.node (o903) (.node (o1415) .nil .nil) .nil))) (.node (o199) (.node (o327 P) (.node (o583) (.node (o1095) .nil .nil) .nil) (.node (o839) (.node (o1351 P) .nil .nil) .nil)) (.node (o455) (.node (o711) (.node (o1223) .nil .nil) .nil) (.node (o967 P) (.node (o1479) .nil .nil) .nil)))) (.node (o103) (.node (o167) (.node (o295) (.node (o551) (.node (o1063) .nil .nil) .nil) (.node (o807) (.node (o1319) .nil .nil) .nil)) (.node (o423) (.node (o679) (.node (o1191) .nil .nil) .nil) (.node (o935 P) (.node (o1447) .nil .nil) .nil))) (.node (o231) (.node (o359 P) (.node (o615) (.node (o1127) .nil .nil) .nil) (.node (o871) (.node (o1383) .nil .nil) .nil)) (.node (o487) (.node (o743) (.node (o1255) .nil .nil) .nil) (.node (o999) .nil .nil))))) (.node (o55 P) (.node (o87) (.node (o151) (.node (o279) (.node (o535) (.node (o1047) .nil .nil) .nil) (.node (o791) (.node (o1303) .nil .nil) .nil)) (.node (o407) (.node (o663 P) (.node (o1175) .nil .nil) .nil) (.node (o919) (.node (o1431) .nil .nil) .nil))) (.node (o215) (.node (o343) (.node (o599) (.node (o1111) .nil .nil) .nil) (.node (o855) (.node (o1367) .nil .nil) .nil)) (.node (o471) (.node (o727) (.node (o1239 P) .nil .nil) .nil) (.node (o983) (.node (o1495) .nil .nil) .nil)))) (.node (o119) (.node (o183) (.node (o311) (.node (o567) (.node (o1079) .nil .nil) .nil) (.node (o823) (.node (o1335) .nil .nil) .nil)) (.node (o439) (.node (o695) (.node (o1207) .nil .nil) .nil) (.node (o951) (.node (o1463 P) .nil .nil) .nil))) (.node (o247) (.node (o375) (.node (o631 P) (.node (o1143) .nil .nil) .nil) (.node (o887) (.node (o1399) .nil .nil) .nil)) (.node (o503) (.node (o759) (.node (o1271 P) .nil .nil) .nil) (.node (o1015) .nil .nil))))))) (.node (o11) (.node (o19) (.node (o35) (.node (o67) (.node (o131 P) (.node (o259) (.node (o515) (.node (o1027) .nil .nil) .nil) (.node (o771) (.node (o1283) .nil .nil) .nil)) (.node (o387) (.node (o643) (.node (o1155) .nil .nil) .nil) (.node (o899) (.node (o1411) .nil .nil) .nil))) (.node (o195) (.node (o323) (.node (o579) (.node (o1091) .nil .nil) .nil) (.node (o835) (.node (o1347) .nil .nil) .nil)) (.node (o451) (.node (o707 P) (.node (o1219) .nil .nil) .nil) (.node (o963) (.node (o1475) .nil .nil) .nil)))) (.node (o99 P) (.node (o163) (.node (o291) (.node (o547) (.node (o1059) .nil .nil) .nil) (.node (o803) (.node (o1315) .nil .nil) .nil)) (.node (o419) (.node (o675) (.node (o1187) .nil .nil) .nil) (.node (o931) (.node (o1443) .nil .nil) .nil))) (.node (o227) (.node (o355) (.node (o611) (.node (o1123) .nil .nil) .nil) (.node (o867) (.node (o1379) .nil .nil) .nil)) (.node (o483) (.node (o739 P) (.node (o1251) .nil .nil) .nil) (.node (o995) (.node (o1507 P) .nil .nil) .nil))))) (.node (o51) (.node (o83) (.node (o147) (.node (o275) (.node (o531) (.node (o1043 P) .nil .nil) .nil) (.node (o787) (.node (o1299) .nil .nil) .nil)) (.node (o403 P) (.node (o659) (.node (o1171) .nil .nil) .nil) (.node (o915) (.node (o1427) .nil .nil) .nil))) (.node (o211) (.node (o339) (.node (o595) (.node (o1107) .nil .nil) .nil) (.node (o851) (.node (o1363 P) .nil .nil) .nil)) (.node (o467) (.node (o723) (.node (o1235) .nil .nil) .nil) (.node (o979) (.node (o1491) .nil .nil) .nil)))) (.node (o115) (.node (o179) (.node (o307) (.node (o563) (.node (o1075) .nil .nil) .nil) (.node (o819) (.node (o1331) .nil .nil) .nil)) (.node (o435 P) (.node (o691) (.node (o1203) .nil .nil) .nil) (.node (o947) (.node (o1459) .nil .nil) .nil))) (.node (o243) (.node (o371) (.node (o627) (.node (o1139) .nil .nil) .nil) (.node (o883) (.node (o1395) .nil .nil) .nil)) (.node (o499) (.node (o755) (.node (o1267) .nil .nil) .nil) (.node (o1011 P) .nil .nil)))))) (.node (o27) (.node (o43) (.node (o75) (.node (o139) (.node (o267) (.node (o523) (.node (o1035) .nil .nil) .nil) (.node (o779) (.node (o1291) .nil .nil) .nil)) (.node (o395) (.node (o651) (.node (o1163 P) .nil .nil) .nil) (.node (o907) (.node (o1419 P) .nil .nil) .nil))) (.node (o203) (.node (o331) (.node (o587 P) (.node (o1099) .nil .nil) .nil) (.node (o843) (.node (o1355) .nil .nil) .nil)) (.node (o459) (.node (o715) (.node (o1227) .nil .nil) .nil) (.node (o971) (.node (o1483) .nil .nil) .nil)))) (.node (o107) (.node (o171) (.node (o299) (.node (o555 P) (.node (o1067) .nil .nil) .nil) (.node (o811) (.node (o1323) .nil .nil) .nil)) (.node (o427) (.node (o683) (.node (o1195 P) .nil .nil) .nil) (.node (o939) (.node (o1451) .nil .nil) .nil))) (.node (o235) (.node (o363) (.node (o619) (.node (o1131) .nil .nil) .nil) (.node (o875) (.node (o1387) .nil .nil) .nil)) (.node (o491) (.node (o747) (.node (o1259) .nil .nil) .nil) (.node (o1003) .nil .nil))))) (.node (o59) (.node (o91) (.node (o155) (.node (o283 P) (.node (o539) (.node (o1051) .nil .nil) .nil) (.node (o795) (.node (o1307) .nil .nil) .nil)) (.node (o411) (.node (o667) (.node (o1179) .nil .nil) .nil) (.node (o923) (.node (o1435) .nil .nil) .nil))) (.node (o219) (.node (o347) (.node (o603) (.node (o1115) .nil .nil) .nil) (.node (o859 P) (.node (o1371) .nil .nil) .nil)) (.node (o475) (.node (o731) (.node (o1243) .nil .nil) .nil) (.node (o987) (.node (o1499) .nil .nil) .nil)))) (.node (o123) (.node (o187) (.node (o315) (.node (o571) (.node (o1083) .nil .nil) .nil) (.node (o827) (.node (o1339) .nil .nil) .nil)) (.node (o443) (.node (o699) (.node (o1211) .nil .nil) .nil) (.node (o955) (.node (o1467) .nil .nil) .nil))) (.node (o251 P) (.node (o379) (.node (o635) (.node (o1147) .nil .nil) .nil) (.node (o891 P) (.node (o1403) .nil .nil) .nil)) (.node (o507) (.node (o763) (.node (o1275) .nil .nil) .nil) (.node (o1019) .nil .nil)))))))) (.node (boot_o_5 P) (.node (boot_o_9 P) (.node (o17 P) (.node (o33) (.node (o65) (.node (o129) (.node (o257) (.node (o513) (.node (o1025) .nil .nil) .nil) (.node (o769) (.node (o1281) .nil .nil) .nil)) (.node (o385) (.node (o641) (.node (o1153) .nil .nil) .nil) (.node (o897 P) (.node (o1409) .nil .nil) .nil))) (.node (o193) (.node (o321 P) (.node (o577) (.node (o1089) .nil .nil) .nil) (.node (o833) (.node (o1345 P) .nil .nil) .nil)) (.node (o449) (.node (o705) (.node (o1217) .nil .nil) .nil) (.node (o961) (.node (o1473) .nil .nil) .nil)))) (.node (o97) (.node (o161) (.node (o289 P) (.node (o545) (.node (o1057) .nil .nil) .nil) (.node (o801) (.node (o1313) .nil .nil) .nil)) (.node (o417) (.node (o673) (.node (o1185) .nil .nil) .nil) (.node (o929 P) (.node (o1441) .nil .nil) .nil))) (.node (o225) (.node (o353) (.node (o609) (.node (o1121) .nil .nil) .nil) (.node (o865) (.node (o1377) .nil .nil) .nil)) (.node (o481) (.node (o737) (.node (o1249) .nil .nil) .nil) (.node (o993) (.node (o1505) .nil .nil) .nil))))) (.node (o49) (.node (o81) (.node (o145) (.node (o273) (.node (o529) (.node (o1041) .nil .nil) .nil) (.node (o785) (.node (o1297) .nil .nil) .nil)) (.node (o401) (.node (o657) (.node (o1169) .nil .nil) .nil) (.node (o913) (.node (o1425 P) .nil .nil) .nil))) (.node (o209) (.node (o337) (.node (o593 P) (.node (o1105) .nil .nil) .nil) (.node (o849) (.node (o1361) .nil .nil) .nil)) (.node (o465) (.node (o721) (.node (o1233 P) .nil .nil) .nil) (.node (o977) (.node (o1489) .nil .nil) .nil)))) (.node (o113) (.node (o177) (.node (o305) (.node (o561) (.node (o1073) .nil .nil) .nil) (.node (o817) (.node (o1329) .nil .nil) .nil)) (.node (o433) (.node (o689) (.node (o1201 P) .nil .nil) .nil) (.node (o945) (.node (o1457 P) .nil .nil) .nil))) (.node (o241) (.node (o369) (.node (o625 P) (.node (o1137) .nil .nil) .nil) (.node (o881) (.node (o1393) .nil .nil) .nil)) (.node (o497) (.node (o753) (.node (o1265) .nil .nil) .nil) (.node (o1009) .nil .nil)))))) (.node (o25) (.node (o41) (.node (o73) (.node (o137 P) (.node (o265) (.node (o521) (.node (o1033) .nil .nil) .nil) (.node (o777 P) (.node (o1289) .nil .nil) .nil)) (.node (o393) (.node (o649) (.node (o1161) .nil .nil) .nil) (.node (o905) (.node (o1417) .nil .nil) .nil))) (.node (o201) (.node (o329) (.node (o585) (.node (o1097) .nil .nil) .nil) (.node (o841) (.node (o1353) .nil .nil) .nil)) (.node (o457) (.node (o713) (.node (o1225) .nil .nil) .nil) (.node (o969) (.node (o1481) .nil .nil) .nil)))) (.node (o105) (.node (o169 P) (.node (o297) (.node (o553) (.node (o1065) .nil .nil) .nil) (.node (o809) (.node (o1321) .nil .nil) .nil)) (.node (o425) (.node (o681) (.node (o1193) .nil .nil) .nil) (.node (o937) (.node (o1449) .nil .nil) .nil))) (.node (o233) (.node (o361) (.node (o617) (.node (o1129) .nil .nil) .nil) (.node (o873) (.node (o1385) .nil .nil) .nil)) (.node (o489) (.node (o745 P) (.node (o1257) .nil .nil) .nil) (.node (o1001) .nil .nil))))) (.node (o57) (.node (o89) (.node (o153) (.node (o281) (.node (o537) (.node (o1049 P) .nil .nil) .nil) (.node (o793) (.node (o1305) .nil .nil) .nil)) (.node (o409) (.node (o665) (.node (o1177) .nil .nil) .nil) (.node (o921) (.node (o1433) .nil .nil) .nil))) (.node (o217) (.node (o345) (.node (o601) (.node (o1113) .nil .nil) .nil) (.node (o857) (.node (o1369 P) .nil .nil) .nil)) (.node (o473 P) (.node (o729) (.node (o1241) .nil .nil) .nil) (.node (o985) (.node (o1497) .nil .nil) .nil)))) (.node (o121) (.node (o185) (.node (o313) (.node (o569) (.node (o1081 P) .nil .nil) .nil) (.node (o825) (.node (o1337) .nil .nil) .nil)) (.node (o441 P) (.node (o697) (.node (o1209) .nil .nil) .nil) (.node (o953) (.node (o1465) .nil .nil) .nil))) (.node (o249) (.node (o377) (.node (o633) (.node (o1145) .nil .nil) .nil) (.node (o889) (.node (o1401) .nil .nil) .nil)) (.node (o505) (.node (o761) (.node (o1273) .nil .nil) .nil) (.node (o1017) .nil .nil))))))) (.node (o13) (.node (o21) (.node (o37) (.node (o69) (.node (o133) (.node (o261) (.node (o517 P) (.node (o1029) .nil .nil) .nil) (.node (o773) (.node (o1285) .nil .nil) .nil)) (.node (o389) (.node (o645) (.node (o1157 P) .nil .nil) .nil) (.node (o901) (.node (o1413 P) .nil .nil) .nil))) (.node (o197) (.node (o325) (.node (o581) (.node (o1093) .nil .nil) .nil) (.node (o837) (.node (o1349) .nil .nil) .nil)) (.node (o453) (.node (o709) (.node (o1221) .nil .nil) .nil) (.node (o965) (.node (o1477) .nil .nil) .nil)))) (.node (o101) (.node (o165) (.node (o293) (.node (o549 P) (.node (o1061) .nil .nil) .nil) (.node (o805) (.node (o1317) .nil .nil) .nil)) (.node (o421) (.node (o677) (.node (o1189) .nil .nil) .nil) (.node (o933) (.node (o1445) .nil .nil) .nil))) (.node (o229) (.node (o357) (.node (o613) (.node (o1125 P) .nil .nil) .nil) (.node (o869) (.node (o1381) .nil .nil) .nil)) (.node (o485) (.node (o741) (.node (o1253) .nil .nil) .nil) (.node (o997) (.node (o1509) .nil .nil) .nil))))) (.node (o53) (.node (o85) (.node (o149) (.node (o277) (.node (o533) (.node (o1045) .nil .nil) .nil) (.node (o789) (.node (o1301) .nil .nil) .nil)) (.node (o405) (.node (o661) (.node (o1173) .nil .nil) .nil) (.node (o917) (.node (o1429) .nil .nil) .nil))) (.node (o213 P) (.node (o341) (.node (o597) (.node (o1109) .nil .nil) .nil) (.node (o853 P) (.node (o1365) .nil .nil) .nil)) (.node (o469) (.node (o725) (.node (o1237) .nil .nil) .nil) (.node (o981) (.node (o1493) .nil .nil) .nil)))) (.node (o117) (.node (o181) (.node (o309) (.node (o565) (.node (o1077) .nil .nil) .nil) (.node (o821 P) (.node (o1333) .nil .nil) .nil)) (.node (o437) (.node (o693) (.node (o1205) .nil .nil) .nil) (.node (o949) (.node (o1461) .nil .nil) .nil))) (.node (o245 P) (.node (o373) (.node (o629) (.node (o1141) .nil .nil) .nil) (.node (o885) (.node (o1397) .nil .nil) .nil)) (.node (o501) (.node (o757) (.node (o1269) .nil .nil) .nil) (.node (o1013) .nil .nil)))))) (.node (o29) (.node (o45) (.node (o77) (.node (o141) (.node (o269) (.node (o525) (.node (o1037) .nil .nil) .nil) (.node (o781) (.node (o1293) .nil .nil) .nil)) (.node (o397 P) (.node (o653) (.node (o1165) .nil .nil) .nil) (.node (o909) (.node (o1421) .nil .nil) .nil))) (.node (o205) (.node (o333) (.node (o589) (.node (o1101) .nil .nil) .nil) (.node (o845) (.node (o1357 P) .nil .nil) .nil)) (.node (o461) (.node (o717) (.node (o1229) .nil .nil) .nil) (.node (o973 P) (.node (o1485) .nil .nil) .nil)))) (.node (o109) (.node (o173) (.node (o301) (.node (o557) (.node (o1069) .nil .nil) .nil) (.node (o813) (.node (o1325) .nil .nil) .nil)) (.node (o429) (.node (o685) (.node (o1197) .nil .nil) .nil) (.node (o941) (.node (o1453) .nil .nil) .nil))) (.node (o237) (.node (o365 P) (.node (o621) (.node (o1133) .nil .nil) .nil) (.node (o877) (.node (o1389) .nil .nil) .nil)) (.node (o493) (.node (o749) (.node (o1261) .nil .nil) .nil) (.node (o1005 P) .nil .nil))))) (.node (o61 P) (.node (o93 P) (.node (o157) (.node (o285) (.node (o541) (.node (o1053) .nil .nil) .nil) (.node (o797) (.node (o1309) .nil .nil) .nil)) (.node (o413) (.node (o669 P) (.node (o1181) .nil .nil) .nil) (.node (o925) (.node (o1437) .nil .nil) .nil))) (.node (o221) (.node (o349) (.node (o605) (.node (o1117) .nil .nil) .nil) (.node (o861) (.node (o1373) .nil .nil) .nil)) (.node (o477) (.node (o733) (.node (o1245) .nil .nil) .nil) (.node (o989) (.node (o1501) .nil .nil) .nil)))) (.node (o125) (.node (o189) (.node (o317) (.node (o573) (.node (o1085) .nil .nil) .nil) (.node (o829) (.node (o1341) .nil .nil) .nil)) (.node (o445) (.node (o701 P) (.node (o1213) .nil .nil) .nil) (.node (o957) (.node (o1469) .nil .nil) .nil))) (.node (o253) (.node (o381) (.node (o637) (.node (o1149) .nil .nil) .nil) (.node (o893) (.node (o1405) .nil .nil) .nil)) (.node (o509) (.node (o765) (.node (o1277 P) .nil .nil) .nil) (.node (o1021) .nil .nil))))))))) (.node (boot_o_2 P) (.node (boot_o_4 P) (.node (boot_o_8 P) (.node (o16) (.node (o32) (.node (o64) (.node (o128) (.node (o256) (.node (o512) (.node (o1024 P) .nil .nil) .nil) (.node (o768) (.node (o1280) .nil .nil) .nil)) (.node (o384 P) (.node (o640) (.node (o1152) .nil .nil) .nil) (.node (o896) (.node (o1408) .nil .nil) .nil))) (.node (o192) (.node (o320) (.node (o576) (.node (o1088) .nil .nil) .nil) (.node (o832) (.node (o1344) .nil .nil) .nil)) (.node (o448) (.node (o704) (.node (o1216) .nil .nil) .nil) (.node (o960) (.node (o1472) .nil .nil) .nil)))) (.node (o96) (.node (o160) (.node (o288) (.node (o544) (.node (o1056) .nil .nil) .nil) (.node (o800) (.node (o1312) .nil .nil) .nil)) (.node (o416 P) (.node (o672) (.node (o1184) .nil .nil) .nil) (.node (o928) (.node (o1440) .nil .nil) .nil))) (.node (o224) (.node (o352) (.node (o608) (.node (o1120) .nil .nil) .nil) (.node (o864) (.node (o1376) .nil .nil) .nil)) (.node (o480) (.node (o736) (.node (o1248) .nil .nil) .nil) (.node (o992 P) (.node (o1504) .nil .nil) .nil))))) (.node (o48) (.node (o80 P) (.node (o144) (.node (o272) (.node (o528) (.node (o1040) .nil .nil) .nil) (.node (o784) (.node (o1296 P) .nil .nil) .nil)) (.node (o400) (.node (o656) (.node (o1168) .nil .nil) .nil) (.node (o912) (.node (o1424) .nil .nil) .nil))) (.node (o208) (.node (o336) (.node (o592) (.node (o1104) .nil .nil) .nil) (.node (o848) (.node (o1360) .nil .nil) .nil)) (.node (o464) (.node (o720 P) (.node (o1232) .nil .nil) .nil) (.node (o976) (.node (o1488 P) .nil .nil) .nil)))) (.node (o112 P) (.node (o176) (.node (o304) (.node (o560) (.node (o1072) .nil .nil) .nil) (.node (o816) (.node (o1328) .nil .nil) .nil)) (.node (o432) (.node (o688 P) (.node (o1200) .nil .nil) .nil) (.node (o944) (.node (o1456) .nil .nil) .nil))) (.node (o240) (.node (o368) (.node (o624) (.node (o1136) .nil .nil) .nil) (.node (o880) (.node (o1392) .nil .nil) .nil)) (.node (o496) (.node (o752) (.node (o1264) .nil .nil) .nil) (.node (o1008) .nil .nil)))))) (.node (oL 81) (.node (o40) (.node (o72) (.node (o136) (.node (o264 P) (.node (o520) (.node (o1032) .nil .nil) .nil) (.node (o776) (.node (o1288) .nil .nil) .nil)) (.node (o392) (.node (o648) (.node (o1160) .nil .nil) .nil) (.node (o904) (.node (o1416) .nil .nil) .nil))) (.node (o200) (.node (o328) (.node (o584) (.node (o1096) .nil .nil) .nil) (.node (o840 P) (.node (o1352) .nil .nil) .nil)) (.node (o456) (.node (o712) (.node (o1224) .nil .nil) .nil) (.node (o968) (.node (o1480) .nil .nil) .nil)))) (.node (o104) (.node (o168) (.node (o296) (.node (o552) (.node (o1064) .nil .nil) .nil) (.node (o808) (.node (o1320 P) .nil .nil) .nil)) (.node (o424) (.node (o680) (.node (o1192) .nil .nil) .nil) (.node (o936) (.node (o1448) .nil .nil) .nil))) (.node (o232 P) (.node (o360) (.node (o616) (.node (o1128) .nil .nil) .nil) (.node (o872 P) (.node (o1384) .nil .nil) .nil)) (.node (o488) (.node (o744) (.node (o1256) .nil .nil) .nil) (.node (o1000) .nil .nil))))) (.node (o56) (.node (o88) (.node (o152) (.node (o280) (.node (o536 P) (.node (o1048) .nil .nil) .nil) (.node (o792) (.node (o1304) .nil .nil) .nil)) (.node (o408) (.node (o664) (.node (o1176 P) .nil .nil) .nil) (.node (o920) (.node (o1432) .nil .nil) .nil))) (.node (o216) (.node (o344) (.node (o600) (.node (o1112) .nil .nil) .nil) (.node (o856) (.node (o1368) .nil .nil) .nil)) (.node (o472) (.node (o728) (.node (o1240) .nil .nil) .nil) (.node (o984) (.node (o1496) .nil .nil) .nil)))) (.node (o120) (.node (o184) (.node (o312) (.node (o568 P) (.node (o1080) .nil .nil) .nil) (.node (o824) (.node (o1336) .nil .nil) .nil)) (.node (o440) (.node (o696) (.node (o1208) .nil .nil) .nil) (.node (o952) (.node (o1464) .nil .nil) .nil))) (.node (o248) (.node (o376) (.node (o632) (.node (o1144 P) .nil .nil) .nil) (.node (o888) (.node (o1400) .nil .nil) .nil)) (.node (o504) (.node (o760) (.node (o1272) .nil .nil) .nil) (.node (o1016) .nil .nil))))))) (.node (oK 82) (.node (o20) (.node (o36 P) (.node (o68) (.node (o132) (.node (o260) (.node (o516) (.node (o1028) .nil .nil) .nil) (.node (o772) (.node (o1284) .nil .nil) .nil)) (.node (o388) (.node (o644 P) (.node (o1156) .nil .nil) .nil) (.node (o900) (.node (o1412) .nil .nil) .nil))) (.node (o196) (.node (o324) (.node (o580) (.node (o1092) .nil .nil) .nil) (.node (o836) (.node (o1348) .nil .nil) .nil)) (.node (o452) (.node (o708) (.node (o1220 P) .nil .nil) .nil) (.node (o964) (.node (o1476 P) .nil .nil) .nil)))) (.node (o100) (.node (o164) (.node (o292) (.node (o548) (.node (o1060) .nil .nil) .nil) (.node (o804) (.node (o1316) .nil .nil) .nil)) (.node (o420) (.node (o676) (.node (o1188) .nil .nil) .nil) (.node (o932) (.node (o1444 P) .nil .nil) .nil))) (.node (o228) (.node (o356) (.node (o612 P) (.node (o1124) .nil .nil) .nil) (.node (o868) (.node (o1380) .nil .nil) .nil)) (.node (o484) (.node (o740) (.node (o1252 P) .nil .nil) .nil) (.node (o996) (.node (o1508) .nil .nil) .nil))))) (.node (o52) (.node (o84) (.node (o148) (.node (o276) (.node (o532) (.node (o1044) .nil .nil) .nil) (.node (o788) (.node (o1300) .nil .nil) .nil)) (.node (o404) (.node (o660) (.node (o1172) .nil .nil) .nil) (.node (o916 P) (.node (o1428) .nil .nil) .nil))) (.node (o212) (.node (o340 P) (.node (o596) (.node (o1108) .nil .nil) .nil) (.node (o852) (.node (o1364) .nil .nil) .nil)) (.node (o468) (.node (o724) (.node (o1236) .nil .nil) .nil) (.node (o980) (.node (o1492) .nil .nil) .nil)))) (.node (o116) (.node (o180) (.node (o308 P) (.node (o564) (.node (o1076) .nil .nil) .nil) (.node (o820) (.node (o1332 P) .nil .nil) .nil)) (.node (o436) (.node (o692) (.node (o1204) .nil .nil) .nil) (.node (o948 P) (.node (o1460) .nil .nil) .nil))) (.node (o244) (.node (o372) (.node (o628) (.node (o1140) .nil .nil) .nil) (.node (o884) (.node (o1396) .nil .nil) .nil)) (.node (o500) (.node (o756) (.node (o1268) .nil .nil) .nil) (.node (o1012) .nil .nil)))))) (.node (o28) (.node (o44) (.node (o76) (.node (o140) (.node (o268) (.node (o524) (.node (o1036) .nil .nil) .nil) (.node (o780) (.node (o1292) .nil .nil) .nil)) (.node (o396) (.node (o652) (.node (o1164) .nil .nil) .nil) (.node (o908) (.node (o1420) .nil .nil) .nil))) (.node (o204) (.node (o332) (.node (o588) (.node (o1100 P) .nil .nil) .nil) (.node (o844) (.node (o1356) .nil .nil) .nil)) (.node (o460 P) (.node (o716) (.node (o1228) .nil .nil) .nil) (.node (o972) (.node (o1484) .nil .nil) .nil)))) (.node (o108) (.node (o172) (.node (o300) (.node (o556) (.node (o1068 P) .nil .nil) .nil) (.node (o812) (.node (o1324) .nil .nil) .nil)) (.node (o428) (.node (o684) (.node (o1196) .nil .nil) .nil) (.node (o940) (.node (o1452) .nil .nil) .nil))) (.node (o236) (.node (o364) (.node (o620) (.node (o1132) .nil .nil) .nil) (.node (o876) (.node (o1388 P) .nil .nil) .nil)) (.node (o492 P) (.node (o748) (.node (o1260) .nil .nil) .nil) (.node (o1004) .nil .nil))))) (.node (o60) (.node (o92) (.node (o156 P) (.node (o284) (.node (o540) (.node (o1052) .nil .nil) .nil) (.node (o796 P) (.node (o1308 P) .nil .nil) .nil)) (.node (o412) (.node (o668) (.node (o1180) .nil .nil) .nil) (.node (o924) (.node (o1436) .nil .nil) .nil))) (.node (o220) (.node (o348) (.node (o604) (.node (o1116) .nil .nil) .nil) (.node (o860) (.node (o1372) .nil .nil) .nil)) (.node (o476) (.node (o732) (.node (o1244) .nil .nil) .nil) (.node (o988) (.node (o1500) .nil .nil) .nil)))) (.node (o124) (.node (o188 P) (.node (o316) (.node (o572) (.node (o1084) .nil .nil) .nil) (.node (o828) (.node (o1340) .nil .nil) .nil)) (.node (o444) (.node (o700) (.node (o1212) .nil .nil) .nil) (.node (o956) (.node (o1468) .nil .nil) .nil))) (.node (o252) (.node (o380) (.node (o636) (.node (o1148) .nil .nil) .nil) (.node (o892) (.node (o1404) .nil .nil) .nil)) (.node (o508) (.node (o764 P) (.node (o1276) .nil .nil) .nil) (.node (o1020) .nil .nil)))))))) (.node (boot_o_6 P) (.node (boot_o_10 P) (.node (o18) (.node (o34) (.node (o66) (.node (o130) (.node (o258) (.node (o514) (.node (o1026) .nil .nil) .nil) (.node (o770) (.node (o1282) .nil .nil) .nil)) (.node (o386) (.node (o642) (.node (o1154) .nil .nil) .nil) (.node (o898) (.node (o1410) .nil .nil) .nil))) (.node (o194 P) (.node (o322) (.node (o578) (.node (o1090) .nil .nil) .nil) (.node (o834 P) (.node (o1346) .nil .nil) .nil)) (.node (o450) (.node (o706) (.node (o1218) .nil .nil) .nil) (.node (o962) (.node (o1474) .nil .nil) .nil)))) (.node (o98) (.node (o162) (.node (o290) (.node (o546) (.node (o1058) .nil .nil) .nil) (.node (o802 P) (.node (o1314 P) .nil .nil) .nil)) (.node (o418) (.node (o674) (.node (o1186) .nil .nil) .nil) (.node (o930) (.node (o1442) .nil .nil) .nil))) (.node (o226 P) (.node (o354) (.node (o610) (.node (o1122) .nil .nil) .nil) (.node (o866) (.node (o1378) .nil .nil) .nil)) (.node (o482) (.node (o738) (.node (o1250) .nil .nil) .nil) (.node (o994) (.node (o1506) .nil .nil) .nil))))) (.node (o50) (.node (o82) (.node (o146) (.node (o274) (.node (o530 P) (.node (o1042) .nil .nil) .nil) (.node (o786) (.node (o1298) .nil .nil) .nil)) (.node (o402) (.node (o658) (.node (o1170) .nil .nil) .nil) (.node (o914) (.node (o1426) .nil .nil) .nil))) (.node (o210) (.node (o338) (.node (o594) (.node (o1106 P) .nil .nil) .nil) (.node (o850) (.node (o1362) .nil .nil) .nil)) (.node (o466) (.node (o722) (.node (o1234) .nil .nil) .nil) (.node (o978) (.node (o1490) .nil .nil) .nil)))) (.node (o114) (.node (o178) (.node (o306) (.node (o562) (.node (o1074) .nil .nil) .nil) (.node (o818) (.node (o1330) .nil .nil) .nil)) (.node (o434) (.node (o690) (.node (o1202) .nil .nil) .nil) (.node (o946) (.node (o1458) .nil .nil) .nil))) (.node (o242) (.node (o370) (.node (o626) (.node (o1138 P) .nil .nil) .nil) (.node (o882) (.node (o1394 P) .nil .nil) .nil)) (.node (o498 P) (.node (o754) (.node (o1266) .nil .nil) .nil) (.node (o1010) .nil .nil)))))) (.node (o26) (.node (o42 P) (.node (o74 P) (.node (o138) (.node (o266) (.node (o522) (.node (o1034) .nil .nil) .nil) (.node (o778) (.node (o1290 P) .nil .nil) .nil)) (.node (o394) (.node (o650 P) (.node (o1162) .nil .nil) .nil) (.node (o906) (.node (o1418) .nil .nil) .nil))) (.node (o202) (.node (o330) (.node (o586) (.node (o1098) .nil .nil) .nil) (.node (o842) (.node (o1354) .nil .nil) .nil)) (.node (o458) (.node (o714) (.node (o1226) .nil .nil) .nil) (.node (o970) (.node (o1482 P) .nil .nil) .nil)))) (.node (o106) (.node (o170) (.node (o298) (.node (o554) (.node (o1066) .nil .nil) .nil) (.node (o810) (.node (o1322) .nil .nil) .nil)) (.node (o426) (.node (o682 P) (.node (o1194) .nil .nil) .nil) (.node (o938) (.node (o1450) .nil .nil) .nil))) (.node (o234) (.node (o362) (.node (o618) (.node (o1130) .nil .nil) .nil) (.node (o874) (.node (o1386) .nil .nil) .nil)) (.node (o490) (.node (o746) (.node (o1258 P) .nil .nil) .nil) (.node (o1002) .nil .nil))))) (.node (o58) (.node (o90) (.node (o154) (.node (o282) (.node (o538) (.node (o1050) .nil .nil) .nil) (.node (o794) (.node (o1306) .nil .nil) .nil)) (.node (o410) (.node (o666) (.node (o1178) .nil .nil) .nil) (.node (o922) (.node (o1434) .nil .nil) .nil))) (.node (o218) (.node (o346 P) (.node (o602) (.node (o1114) .nil .nil) .nil) (.node (o858) (.node (o1370) .nil .nil) .nil)) (.node (o474) (.node (o730) (.node (o1242) .nil .nil) .nil) (.node (o986 P) (.node (o1498) .nil .nil) .nil)))) (.node (o122) (.node (o186) (.node (o314) (.node (o570) (.node (o1082) .nil .nil) .nil) (.node (o826) (.node (o1338) .nil .nil) .nil)) (.node (o442) (.node (o698) (.node (o1210) .nil .nil) .nil) (.node (o954 P) (.node (o1466) .nil .nil) .nil))) (.node (o250) (.node (o378 P) (.node (o634) (.node (o1146) .nil .nil) .nil) (.node (o890) (.node (o1402) .nil .nil) .nil)) (.node (o506) (.node (o762) (.node (o1274) .nil .nil) .nil) (.node (o1018) .nil .nil))))))) (.node (o14) (.node (o22) (.node (o38) (.node (o70) (.node (o134) (.node (o262) (.node (o518) (.node (o1030 P) .nil .nil) .nil) (.node (o774) (.node (o1286) .nil .nil) .nil)) (.node (o390) (.node (o646) (.node (o1158) .nil .nil) .nil) (.node (o902) (.node (o1414) .nil .nil) .nil))) (.node (o198) (.node (o326) (.node (o582) (.node (o1094) .nil .nil) .nil) (.node (o838) (.node (o1350) .nil .nil) .nil)) (.node (o454 P) (.node (o710) (.node (o1222) .nil .nil) .nil) (.node (o966) (.node (o1478) .nil .nil) .nil)))) (.node (o102) (.node (o166) (.node (o294) (.node (o550) (.node (o1062 P) .nil .nil) .nil) (.node (o806) (.node (o1318) .nil .nil) .nil)) (.node (o422 P) (.node (o678) (.node (o1190) .nil .nil) .nil) (.node (o934) (.node (o1446) .nil .nil) .nil))) (.node (o230) (.node (o358) (.node (o614) (.node (o1126) .nil .nil) .nil) (.node (o870) (.node (o1382) .nil .nil) .nil)) (.node (o486) (.node (o742) (.node (o1254) .nil .nil) .nil) (.node (o998) (.node (o1510) .nil .nil) .nil))))) (.node (o54) (.node (o86) (.node (o150 P) (.node (o278) (.node (o534) (.node (o1046) .nil .nil) .nil) (.node (o790) (.node (o1302 P) .nil .nil) .nil)) (.node (o406) (.node (o662) (.node (o1174) .nil .nil) .nil) (.node (o918) (.node (o1430) .nil .nil) .nil))) (.node (o214) (.node (o342) (.node (o598) (.node (o1110) .nil .nil) .nil) (.node (o854) (.node (o1366) .nil .nil) .nil)) (.node (o470) (.node (o726 P) (.node (o1238) .nil .nil) .nil) (.node (o982) (.node (o1494 P) .nil .nil) .nil)))) (.node (o118 P) (.node (o182) (.node (o310) (.node (o566) (.node (o1078) .nil .nil) .nil) (.node (o822) (.node (o1334) .nil .nil) .nil)) (.node (o438) (.node (o694) (.node (o1206) .nil .nil) .nil) (.node (o950) (.node (o1462) .nil .nil) .nil))) (.node (o246) (.node (o374) (.node (o630) (.node (o1142) .nil .nil) .nil) (.node (o886) (.node (o1398) .nil .nil) .nil)) (.node (o502) (.node (o758 P) (.node (o1270) .nil .nil) .nil) (.node (o1014) .nil .nil)))))) (.node (o30 P) (.node (o46) (.node (o78) (.node (o142) (.node (o270 P) (.node (o526) (.node (o1038) .nil .nil) .nil) (.node (o782) (.node (o1294) .nil .nil) .nil)) (.node (o398) (.node (o654) (.node (o1166) .nil .nil) .nil) (.node (o910 P) (.node (o1422) .nil .nil) .nil))) (.node (o206) (.node (o334) (.node (o590) (.node (o1102) .nil .nil) .nil) (.node (o846) (.node (o1358) .nil .nil) .nil)) (.node (o462) (.node (o718) (.node (o1230) .nil .nil) .nil) (.node (o974) (.node (o1486) .nil .nil) .nil)))) (.node (o110) (.node (o174) (.node (o302 P) (.node (o558) (.node (o1070) .nil .nil) .nil) (.node (o814) (.node (o1326 P) .nil .nil) .nil)) (.node (o430) (.node (o686) (.node (o1198) .nil .nil) .nil) (.node (o942) (.node (o1454) .nil .nil) .nil))) (.node (o238) (.node (o366) (.node (o622) (.node (o1134) .nil .nil) .nil) (.node (o878 P) (.node (o1390) .nil .nil) .nil)) (.node (o494) (.node (o750) (.node (o1262) .nil .nil) .nil) (.node (o1006) .nil .nil))))) (.node (o62) (.node (o94) (.node (o158) (.node (o286) (.node (o542) (.node (o1054) .nil .nil) .nil) (.node (o798) (.node (o1310) .nil .nil) .nil)) (.node (o414) (.node (o670) (.node (o1182 P) .nil .nil) .nil) (.node (o926) (.node (o1438 P) .nil .nil) .nil))) (.node (o222) (.node (o350) (.node (o606 P) (.node (o1118) .nil .nil) .nil) (.node (o862) (.node (o1374) .nil .nil) .nil)) (.node (o478) (.node (o734) (.node (o1246) .nil .nil) .nil) (.node (o990) (.node (o1502) .nil .nil) .nil)))) (.node (o126) (.node (o190) (.node (o318) (.node (o574 P) (.node (o1086) .nil .nil) .nil) (.node (o830) (.node (o1342) .nil .nil) .nil)) (.node (o446) (.node (o702) (.node (o1214 P) .nil .nil) .nil) (.node (o958) (.node (o1470) .nil .nil) .nil))) (.node (o254) (.node (o382) (.node (o638) (.node (o1150) .nil .nil) .nil) (.node (o894) (.node (o1406) .nil .nil) .nil)) (.node (o510) (.node (o766) (.node (o1278) .nil .nil) .nil) (.node (o1022) .nil .nil))))))))))
def st83 (w : World) (os : OsState) : SharedT := ⟨tr83 w.params, 1511, {}, #[], {}, 2166, os⟩
abbrev R : PySem.W.OpenRow := PySem.W.OpenLaw.row PySem.Challenge.rw_meetinglots_k00_errors_made
abbrev PR : Program := R.prog
abbrev BB : List Stmt := behindTheImports PR
abbrev eK : Env := { scope := PR.main.scope, locals := mainNs, globals := mainNs, cells := [], code := .ref 13, frame := some 14 }
abbrev cB : Code := .body BB eK
abbrev p0 : Pos := ⟨0, 0, 0, 0⟩
abbrev fB : List Frame := [topFrame p0]
abbrev stK (w : World) : SharedT → Thread → Option (SharedT × Thread) := stepQ (denQ tabQ) PR w
def none0 (os : OsState) : SharedT := ⟨.nil, 0, {}, #[], {}, 0, os⟩
def sA (w : World) (os : OsState) : SharedT := match goP (stK w) 11 (bootAnn w) 200 (bootT w os (boot0 w)) (topStub PR) with
  | some (s, _) => s
  | none => none0 os
def sB (w : World) (os : OsState) : SharedT := match goS (stK w) 11 (bootAnn w) 200 (sA w os) (blockOf BB eK cB p0 fB) with
  | some (_, s, _) => s
  | none => none0 os
end K00
end
/-! text Hs3_p -/
set_option Elab.async false
set_option linter.all false
set_option maxRecDepth 100000
set_option maxHeartbeats 0
noncomputable section
namespace K00
open PySem PySem.W HandSHeadRun HsP
theorem run_pre (w : World) (os : OsState) : goP (stK w) 11 (bootAnn w) 200 (bootT w os (boot0 w)) (topStub PR) = some (sA w os, ⟨denQ tabQ cB, cB, p0, fB⟩) := by kernel_rfl
theorem run_blk (w : World) (os : OsState) : goS (stK w) 11 (bootAnn w) 200 (sA w os) (blockOf BB eK cB p0 fB) = some (.next, sB w os, cB, p0) := by kernel_rfl
end K00
end
/-! text Hs3_22 -/
set_option Elab.async false
set_option linter.all false
set_option maxRecDepth 100000
set_option maxHeartbeats 0
noncomputable section
namespace K00
open PySem PySem.W HandSHeadRun HsP
theorem run_22 (w : World) (os : OsState) : goS (stK w) 11 (bootAnn w) 5920 (sB w os) (piecesOf (BB.take 22) eK cB p0 fB) = some (.next, st22 w os, cB, ⟨78, 0, 81, 26⟩) := by kernel_rfl
end K00
end
/-! text Hs3_42 -/
set_option Elab.async false
set_option linter.all false
set_option maxRecDepth 100000
set_option maxHeartbeats 0
noncomputable section
namespace K00
open PySem PySem.W HandSHeadRun HsP
theorem run_42 (w : World) (os : OsState) : goS (stK w) 11 (bootAnn w) 5400 (st22 w os) (piecesOf ((BB.drop 22).take 20) eK cB ⟨78, 0, 81, 26⟩ fB) = some (.next, st42 w os, cB, ⟨158, 0, 161, 26⟩) := by kernel_rfl
end K00
end
/-! text Hs3_62 -/
set_option Elab.async false
set_option linter.all false
set_option maxRecDepth 100000
set_option maxHeartbeats 0
noncomputable section
namespace K00
open PySem PySem.W HandSHeadRun HsP
theorem run_62 (w : World) (os : OsState) : goS (stK w) 11 (bootAnn w) 5400 (st42 w os) (piecesOf ((BB.drop 42).take 20) eK cB ⟨158, 0, 161, 26⟩ fB) = some (.next, st62 w os, cB, ⟨238, 0, 242, 24⟩) := by kernel_rfl
end K00
end
/-! text Hs3_83 -/
set_option Elab.async false
set_option linter.all false
set_option maxRecDepth 100000
set_option maxHeartbeats 0
noncomputable section
namespace K00
open PySem PySem.W HandSHeadRun HsP
theorem run_83 (w : World) (os : OsState) : goS (stK w) 11 (bootAnn w) 5660 (st62 w os) (piecesOf ((BB.drop 62).take 21) eK cB ⟨238, 0, 242, 24⟩ fB) = some (.next, st83 w os, cB, ⟨310, 0, 314, 22⟩) := by kernel_rfl
end K00
end
/-! text Hs4 -/
set_option Elab.async false
set_option linter.all false
set_option maxRecDepth 100000
set_option maxHeartbeats 0
noncomputable section
namespace K00
open PySem PySem.Spec PyProof.Rows L2 XvC PySem.W HandSHeadRun HsP
/-- the objects that the facts are about -/
def asL : List Nat := ([3, 24, 23, 37, 36, 56, 55, 53, 52, 75, 74, 72, 71, 94, 93, 91, 90, 113, 112, 110] : List (Nat)) ++ ([109, 132, 131, 129, 128, 151, 150, 148, 147, 170, 169, 167, 166, 189, 188, 186, 185, 208, 207, 205] : List (Nat)) ++ ([204, 227, 226, 224, 223, 246, 245, 243, 242, 265, 264, 262, 261, 284, 283, 281, 280, 303, 302, 300] : List (Nat)) ++ ([299, 322, 321, 319, 318, 341, 340, 338, 337, 360, 359, 357, 356, 379, 378, 376, 375, 398, 397, 395] : List (Nat)) ++ ([394, 417, 416, 414, 413, 436, 435, 433, 432, 455, 454, 452, 451, 474, 473, 471, 470, 493, 492, 490] : List (Nat)) ++ ([489, 512, 511, 509, 508, 531, 530, 528, 527, 550, 549, 547, 546, 569, 568, 566, 565, 588, 587, 585] : List (Nat)) ++ ([584, 607, 606, 604, 603, 626, 625, 623, 622, 645, 644, 642, 641, 664, 663, 661, 660, 683, 682, 680] : List (Nat)) ++ ([679, 702, 701, 699, 698, 721, 720, 718, 717, 740, 739, 737, 736, 759, 758, 756, 755, 778, 777, 775] : List (Nat)) ++ ([774, 797, 796, 794, 793, 816, 815, 813, 812, 835, 834, 832, 831, 854, 853, 851, 850, 873, 872, 870] : List (Nat)) ++ ([869, 892, 891, 889, 888, 911, 910, 908, 907, 930, 929, 927, 926, 949, 948, 946, 945, 968, 967, 965] : List (Nat)) ++ ([964, 987, 986, 984, 983, 1006, 1005, 1003, 1002, 1025, 1024, 1022, 1021, 1044, 1043, 1041, 1040, 1063, 1062, 1060] : List (Nat)) ++ ([1059, 1082, 1081, 1079, 1078, 1101, 1100, 1098, 1097, 1120, 1119, 1117, 1116, 1139, 1138, 1136, 1135, 1158, 1157, 1155] : List (Nat)) ++ ([1154, 1177, 1176, 1174, 1173, 1196, 1195, 1193, 1192, 1215, 1214, 1212, 1211, 1234, 1233, 1231, 1230, 1253, 1252, 1250] : List (Nat)) ++ ([1249, 1272, 1271, 1269, 1268, 1291, 1290, 1288, 1287, 1303, 1302, 1315, 1314, 1327, 1326, 1346, 1345, 1343, 1342, 1358] : List (Nat)) ++ ([1357, 1370, 1369, 1389, 1388, 1386, 1385, 1408, 1407, 1405, 1404, 1420, 1419, 1439, 1438, 1436, 1435, 1458, 1457, 1455] : List (Nat)) ++ ([1454, 1477, 1476, 1474, 1473, 1489, 1488, 1508, 1507, 1505, 1504, 1511, 1512, 1513, 1514, 1515, 1516, 1517, 1518, 1519] : List (Nat)) ++ ([1520, 1521, 1522, 1523, 1524, 1525, 1526, 1527, 1528, 1529, 1530, 1531, 1532, 1533, 1534, 1535, 1536, 1537, 1538, 1539] : List (Nat)) ++ ([1540, 1541, 1542, 1543, 1544, 1545, 1546, 1547, 1548, 1549, 1550, 1551, 1552, 1553, 1554, 1555, 1556, 1557, 1558, 1559] : List (Nat)) ++ ([1560, 1561, 1562, 1563, 1564, 1565, 1566, 1567, 1568, 1569, 1570, 1571, 1572, 1573, 1574, 1575, 1576, 1577, 1578, 1579] : List (Nat)) ++ ([1580, 1581, 1582, 1583, 1584, 1585, 1586, 1587, 1588, 1589, 1590, 1591, 1592, 1593, 1594, 1595, 1596, 1597, 1598, 1599] : List (Nat)) ++ ([1600, 1601, 1602, 1603, 1604, 1605, 1606, 1607, 1608, 1609, 1610, 1611, 1612, 1613, 1614, 1615, 1616, 1617, 1618, 1619] : List (Nat)) ++ ([1620, 1621, 1622, 1623, 1624, 1625, 1626, 1627, 1628, 1629, 1630, 1631, 1632, 1633, 1634, 1635, 1636, 1637, 1638, 1639] : List (Nat)) ++ ([1640, 1641, 1642, 1643, 1644, 1645, 1646, 1647, 1648, 1649, 1650, 1651, 1652, 1653, 1654, 1655, 1656, 1657, 1658, 1659] : List (Nat)) ++ ([1660] : List (Nat))
/-- more of the written part -/
def exx (K : PySem.W.Frag) : Bool := ex K && (clsNames.all (fun n => fieldNames.all fun f => noB K (He.ga K n) f) && (bareNames.all (fun n => bareB K (He.ga K n)) && (nodupB (He.ga K "LotError" :: clsNames.map (He.ga K)) && (nodupB (tf.map fun p => (He.cT K p).2) && bareB K (He.ga K "LotError")))))
abbrev hk : PySem.W.Hook := HkL.hookL asL fa fn [] tf exx
def VV : Program := PySem.W.view PR [101]
def lastRun (w : World) (os : OsState) : Option SharedT := goF (stK w) 11 (bootAnn w) 6000 (st83 w os) (restOf (BB.drop 83) eK cB ⟨310, 0, 314, 22⟩ fB)
theorem run_last (w : World) (os : OsState) : (lastRun w os).map (fun s => (looksF PR (boot_heap w.params) s.abs, seenQ VV loose (importedModules PR.main.body) (fun s => xlAt VV [] s && recOk R.toRowW.records s) s.abs)) = some (true, openGood VV loose) := by kernel_rfl
end K00
end
/-! text Hs4b -/
set_option Elab.async false
set_option linter.all false
set_option maxRecDepth 100000
set_option maxHeartbeats 0
noncomputable section
namespace K00
open PySem PySem.Spec PyProof.Rows L2 XvC PySem.W HandSHeadRun HsP
theorem run_obs (w : World) (os : OsState) : (lastRun w os).map (fun s => (HkL.obL asL fa fn [] tf exx (getT s)).2) = some true := by kernel_rfl
end K00
end
/-! text Hs4c -/
set_option Elab.async false
set_option linter.all false
set_option maxRecDepth 100000
set_option maxHeartbeats 0
noncomputable section
namespace K00
open PySem PySem.Spec PyProof.Rows L2 XvC PySem.W HandSHeadRun HsP
theorem run_obs1 (w : World) (os : OsState) : (lastRun w os).map (fun s => (HkL.obL asL fa fn [] tf exx (getT s)).1) = some (He.valT fn [] w) := by kernel_rfl
end K00
end
/-! text Z1 -/
set_option Elab.async false
set_option linter.all false
set_option maxRecDepth 100000
set_option maxHeartbeats 4000000
/-! what the head tells, put together -/
namespace K00
open PySem PySem.Spec PyProof.Rows L2 Evl XvC PySem.HandSPX LmV LamX NdefX
theorem nodupB_ok : ∀ {l : List Nat}, nodupB l = true → l.Nodup
  | [], _ => .nil
  | a :: r, h => by
    obtain ⟨h1, h2⟩ := ba (show (r.all (fun b => !Nat.beq a b) && nodupB r) = true from h)
    refine List.nodup_cons.mpr ⟨fun m => ?_, nodupB_ok h2⟩
    have z := List.all_eq_true.mp h1 a m
    rw [Nat.beq_refl] at z
    cases z
def lamOf (p : He.Defn) : Str := p.1 ++ ".<locals>.<lambda>"
def csOf (K : PySem.W.Frag) : List (Addr × Addr) := tf.map fun p => He.cT K p
def ttOf (K : PySem.W.Frag) : List (Addr × Str) := tf.map fun p => ((He.cT K p).2, lamOf p)
section
variable {w : World} {h : Heap} {K : PySem.W.Frag} {mg : Str → Option Value} {base : Heap}
theorem mem_def {i : Nat} {n : Str} (m : (i, n) ∈ lawDefs) : defD (i, n) ∈ fn := List.mem_append_left _ (List.mem_map.mpr ⟨_, m, rfl⟩)
theorem mem_init {p : Nat × Str} (m : p ∈ ownCls) : initD p ∈ fn := List.mem_append_right _ (List.mem_map.mpr ⟨_, m, rfl⟩)
theorem mem_free {n : Str} (m : n ∈ frees) : He.Fa.free n ∈ fa := List.mem_append_left _ (List.mem_append_left _ (List.mem_append_left _ (List.mem_map.mpr ⟨_, m, rfl⟩)))
theorem mem_glo {n : Str} (m : n ∈ lawDefs.map (·.2)) : He.Fa.glo n ∈ fa := List.mem_append_left _ (List.mem_append_left _ (List.mem_append_right _ (List.mem_map.mpr ⟨_, m, rfl⟩)))
theorem mem_cls {n : Str} (m : n ∈ clsNames) : He.Fa.glo n ∈ fa := List.mem_append_left _ (List.mem_append_right _ (List.mem_map.mpr ⟨_, m, rfl⟩))
theorem fnOf (c : He.SaysX fa fn [] tf exx w h K) (X : K.In h) (G : h.Ns mainGlobals mg) {i : Nat} {n : Str} (m : (i, n) ∈ lawDefs) : ∃ fd, FnP K n (top i) (He.ga K n) fd ∧ mg n = some (.ref (He.ga K n)) := by
  obtain ⟨fd, F⟩ := c.t.d.defs (mem_def m)
  exact ⟨fd, F, He.glo_ok X G (c.t.d.facts (mem_glo (List.mem_map.mpr ⟨_, m, rfl⟩)))⟩
theorem mkrOf (c : He.SaysX fa fn [] tf exx w h K) (X : K.In h) (G : h.Ns mainGlobals mg) (nd : (tf.map fun p => (He.cT K p).2).Nodup) (TB : ∀ p ∈ csOf K, TabB base mg p.1 p.2) {i : Nat} {n : Str} (m : (i, n) ∈ lawDefs) (mt : ((n, none) : He.Defn) ∈ tf) : Mkr K mg base (ttOf K) n i := by
  obtain ⟨fd, F, g⟩ := fnOf c X G m
  refine ⟨_, fd, (He.cT K (n, none)).2, F, g, fun cd hc => ?_, List.mem_map.mpr ⟨_, mt, rfl⟩, fun p hp e => ?_⟩
  · have t := TB _ (List.mem_map.mpr ⟨_, mt, rfl⟩)
    have e : (He.cT K (n, none)).1 = cd := by
      obtain ⟨oc, od, dV, kV, doc, pm, an, cdv, ct, osl, rfl, lk, _⟩ := F.ex
      exact He.codeOf_eq (p := (n, none)) lk hc
    rw [e] at t
    exact t
  · obtain ⟨p', hp', rfl⟩ := List.mem_map.mp hp
    rw [inj_nodup nd hp' mt e]
    rfl
theorem lwOf (c : He.SaysX fa fn [] tf exx w h K) (X : K.In h) (G : h.Ns mainGlobals mg) (TB : ∀ p ∈ csOf K, TabB base mg p.1 p.2) : Lw K mg base (ttOf K) := by
  obtain ⟨x0, y⟩ := ba c.more
  obtain ⟨x1, y⟩ := ba y
  obtain ⟨x2, y⟩ := ba y
  obtain ⟨x3, y⟩ := ba y
  obtain ⟨x4, x5⟩ := ba y
  obtain ⟨z1, y⟩ := ba x0
  obtain ⟨z2, y⟩ := ba y
  obtain ⟨z3, _⟩ := ba y
  have nd := nodupB_ok x4
  have cl : Cl K mg := ⟨xc_of (by decide +kernel) z1, fun n hn => xc_of (by rfl) (List.all_eq_true.mp z2 n hn), He.glo_ok X G (c.t.d.facts (List.mem_append_right _ (List.mem_singleton.mpr rfl))), fun n hn => He.glo_ok X G (c.t.d.facts (mem_cls hn)), nodupB_ok x3⟩
  have fr : ∀ {n : Str}, n ∈ frees → mg n = none := fun m => He.free_ok X G (c.t.d.facts (mem_free m))
  have fo : ∀ {i : Nat} {n : Str}, (i, n) ∈ lawDefs → ∃ f fd, FnP K n (top i) f fd ∧ mg n = some (.ref f) := fun m => ⟨_, fnOf c X G m⟩
  have mi := fr (n := "isinstance") (by decide +kernel)
  exact {
    hd := ⟨cl, fun p hp => c.t.d.defs (mem_init hp), fun p hp => List.all_eq_true.mp z3 p hp, fun n hn f hf => List.all_eq_true.mp (List.all_eq_true.mp x1 n hn) f hf, fun n hn => List.all_eq_true.mp x2 n hn⟩
    kn := ⟨cl, mi, fo (by decide +kernel), fo (by decide +kernel), fo (by decide +kernel), fo (by decide +kernel), fo (by decide +kernel)⟩
    bn := ⟨mi, fr (by decide +kernel), fr (by decide +kernel), fr (by decide +kernel), fr (by decide +kernel), fr (by decide +kernel), fr (by decide +kernel), fr (by decide +kernel), fr (by decide +kernel), fr (by decide +kernel)⟩
    st := fo (by decide +kernel)
    dr := fo (by decide +kernel)
    mx := fo (by decide +kernel)
    a := mkrOf c X G nd TB (by decide +kernel) (by decide +kernel)
    b := mkrOf c X G nd TB (by decide +kernel) (by decide +kernel)
    cc := mkrOf c X G nd TB (by decide +kernel) (by decide +kernel)
    d := mkrOf c X G nd TB (by decide +kernel) (by decide +kernel)
    e := mkrOf c X G nd TB (by decide +kernel) (by decide +kernel)
    ks := fo (by decide +kernel)
    ow := fo (by decide +kernel)
    sm := fo (by decide +kernel)
    th := fo (by decide +kernel)
    bareL := x5
    mr := fr (by decide +kernel)
    me := fr (by decide +kernel)
    mv := fr (by decide +kernel)
    ml := fr (by decide +kernel)
    ma := fr (by decide +kernel)
    mt := fr (by decide +kernel) }
theorem tabs0 {H : Hp} (hT : ∀ p ∈ csOf K, H p.2 = some (.tbl #[])) : Tabs (ttOf K) H := fun q hq => by
  obtain ⟨p, hp, rfl⟩ := List.mem_map.mp hq
  exact ⟨#[], hT _ (List.mem_map.mpr ⟨_, hp, rfl⟩), True.intro, fun pos cv z => by cases z⟩
/-- the law at the head's heap -/
theorem law_at (l : PySem.W.OpenLaw) (c : He.SaysX fa fn [] tf exx w h K) (X : K.In h) (G : h.Ns mainGlobals mg) {f : Addr} (hf : mg ("law" : Str) = some (.ref f)) : LawAtS l w K CX0 7 63 "script" mg f h := by
  obtain ⟨fd, F, g⟩ := fnOf c X G (i := 101) (n := "law") (by decide +kernel)
  have e := hf.symm.trans g
  cases e
  have b := FunD.bindsA (ps := ["script"]) F fun _ _ _ _ _ _ us hl => match us, hl with | [_], _ => rfl
  refine ⟨fd, csOf K, spLaw K (ttOf K), fun p hp => ?_, fun p hp => ?_, fun p hp => ?_, fun s v => b s [v] rfl, fun H a ns hl _ hT hS => ⟨a, ns, rfl, hS, hl, tabs0 hT, fun _ => rfl⟩, fun base _ _ TB => ?_⟩
  · obtain ⟨q, hq, rfl⟩ := List.mem_map.mp hp
    exact c.empty q hq
  · obtain ⟨q, hq, rfl⟩ := List.mem_map.mp hp
    exact c.out q hq
  · obtain ⟨q, hq, rfl⟩ := List.mem_map.mp hp
    exact PySem.W.codeHd_of_K X (c.hd q hq)
  · exact ok_law F (lwOf c X G TB)
end
end K00
/-! text Z2 -/
set_option Elab.async false
set_option linter.all false
set_option maxRecDepth 100000
set_option maxHeartbeats 0
noncomputable section
namespace K00
open PySem PySem.Spec PyProof.Rows L2 PySem.W HandSHeadRun HsP
theorem stK_eq (w : World) : stK w = stepT (denote treeTable) PR w := by
  show stepQ (denQ tabQ) PR w = _
  rw [← stepQ_eq, ← denQ_eq, ← tabQ_eq]
theorem den_eq : denQ tabQ = denote treeTable := by rw [← denQ_eq, ← tabQ_eq]
theorem drop_at (a b c : Nat) (h : a + b = c) : (BB.drop a).drop b = BB.drop c := by rw [List.drop_drop, h]
/-- the whole run -/
theorem run_all (w : World) (os : OsState) (z : SharedT) (hz : lastRun w os = some z) : topRun treeTable PR w 11 (bootAnn w) (200 + (200 + (5920 + (5400 + (5400 + (5660 + 6000)))))) ⟨boot_heap w.params, #[], boot_drawn, boot_toks, os⟩ (topStub PR) = some z.abs := by
  unfold lastRun at hz
  have hp := run_pre w os
  have hb := run_blk w os
  have h22 := run_22 w os
  have h42 := run_42 w os
  have h62 := run_62 w os
  have h83 := run_83 w os
  rw [stK_eq] at hz hp hb h22 h42 h62 h83
  rw [den_eq] at hp
  have t := goF_ok hz
  rw [← drop_at 62 21 83 (by decide)] at t
  have t := seg_take h83 t
  rw [← drop_at 42 20 62 (by decide)] at t
  have t := seg_take h62 t
  rw [← drop_at 22 20 42 (by decide)] at t
  have t := seg_take h42 t
  have t := seg_take h22 t
  have t := seg_block hb t
  have t := goP_top hp t
  rw [HsP.boot_abs] at t
  exact t
theorem told (w : World) (os : OsState) : ∃ z : SharedT, topRun treeTable PR w 11 (bootAnn w) (200 + (200 + (5920 + (5400 + (5400 + (5660 + 6000)))))) ⟨boot_heap w.params, #[], boot_drawn, boot_toks, os⟩ (topStub PR) = some z.abs ∧
    (looksF PR (boot_heap w.params) z.abs, seenQ VV loose (importedModules PR.main.body) (fun s => xlAt VV [] s && recOk R.toRowW.records s) z.abs, hk.obs z.abs) = (true, openGood VV loose, hk.val w) := by
  obtain ⟨z, hz, lk⟩ := Option.map_eq_some_iff.mp (run_last w os)
  have o2 := run_obs w os
  have o1 := run_obs1 w os
  rw [hz] at o1 o2
  have e2 := Option.some.inj o2
  have e1 := Option.some.inj o1
  refine ⟨z, run_all w os z hz, ?_⟩
  obtain ⟨l1, l2⟩ := Prod.mk.inj lk
  have eo : hk.obs z.abs = hk.val w := by
    show (HkL.hookL asL fa fn [] tf exx).obs z.abs = _
    rw [← HkL.obL_eq]
    exact Prod.ext e1 e2
  rw [l1, l2, eo]
end K00
end
open PySem PySem.W PySem.Calls PyProof.Rows
theorem PySem.Challenge.cw_meetinglots_k00_errors_made_holds : PySem.Challenge.rw_meetinglots_k00_errors_made.Holds := by
  w_on; o_law
  refine HsP.head_two (r := OpenLaw.row PySem.Challenge.rw_meetinglots_k00_errors_made) (q := K00.VV) (H := K00.hk) (loose := K00.loose) (d := HandSHeadRun.topDef (OpenLaw.row PySem.Challenge.rw_meetinglots_k00_errors_made).prog 101) (kwd := [])
    (by kernel_rfl) (fun s => by kernel_rfl) K00.told (by kernel_rfl) (by kernel_rfl) (by kernel_rfl) (by rfl) (by first | assumption | decide +kernel) (by decide +kernel) ⟨rfl, rfl, rfl, rfl, rfl, by decide +kernel⟩ ?hw ?hc
  case hw => w_witness2
  case hc =>
    refine LamX.walk_ofTsE (l := PySem.Challenge.rw_meetinglots_k00_errors_made) (n := 63) (k := 7) (x := "script") (CX := fun _ => L2.CX0) rfl (by decide) (by kernel_rfl) ⟨rfl, by decide, by decide⟩ ?F (fun _ _ _ _ _ z => z)
    intro w mg fa h Y G hmg0
    obtain ⟨K, KX, c⟩ := Y
    refine ⟨K, KX, K00.law_at _ c KX G ?_⟩
    have e : (HandSHeadRun.topDef (OpenLaw.row PySem.Challenge.rw_meetinglots_k00_errors_made).prog 101).name = ("law" : PySem.Str) := by kernel_rfl
    rw [← e]
    exact hmg0
