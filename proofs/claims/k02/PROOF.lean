import PyProof.Rows.All
import KE.DatumOrd
import HandS.Words
import HandS.Evl
import HandS.Deep
import KE.SortData
import KE.SortKeyHeap
import KE.KLam
import Wide.All
import OpenK.AllK
import Wide.FinOn
import HandS.ForExc
import HandS.ExcInit
import HandS.ExcField
import HandS.ExcIs
import HandS.IsInst
import HandS.Defaults
import HandS.ExcValue
import KE.KExcIs
import HandS.Lambda
import HandS.Nested
import HandS.SortKw
import PyProof.Transfer
import HandS.Zip
import HandS.Walk
import KE.DatumMore
import HandS.Star
import HandS.DictComp
import HandS.List
import HandS.CallLocal
import HandS.ExcOwn
import HandS.TryOnly
import HandS.WordsExc
import HandS.Head0
import HandS.ListItems
import HandS.Conv
import HandS.WordsDict
import KE.KDictList
import KE.GoesMore
import Flt.Sum
import PyProof.Walks
import HandS.Head1
import HandS.Head2
import HandS.HeadEnd
import HandS.HeadHook1
import HandS.HeadHook2
import PySem.Challenge.RW_meetinglots_k02_whole_without_a_keeper
import HandS.HeadHook4
import HandS.SetFor
import HandS.ForMost
import HandS.TupAny
import KE.DataFind
import HandS.NoneIn
import KE.KStateDown
import HandS.HeadHook3
import HandS.HeadWalk
/-! text W1 -/
set_option Elab.async false
set_option linter.all false
set_option maxHeartbeats 1000000
/-! typed data over the layer: ==, <, in -/
namespace Dw
open PySem PySem.Spec PyProof.Rows L2 Evl PySem.W
/-- v stands for x in the tracked heap -/
class DV (α : Type) [DecidableEq α] [Datum α] where
  rep : Hp → V → α → Prop
  holds : ∀ {X : Cx} {pins : List (Addr × Obj)} {σ : L2.St} {H : Hp} {s : Shared} {v : V} {x : α} {u : Value}, Inv X pins σ H s → rep H v x → RelV v u → Holds s.heap u x
  ext : ∀ {H H' : Hp} {v : V} {x : α}, Ex H H' → rep H v x → rep H' v x
open DV (rep)
instance : DV Str where
  rep _ v x := v = .str x
  holds := fun _ h r => by
    subst h
    obtain ⟨t, rfl⟩ := r
    exact holds_str _ t
  ext := fun _ h => h
instance : DV Int where
  rep _ v x := v = .int x
  holds := fun _ h r => by
    subst h
    obtain ⟨t, rfl⟩ := r
    exact holds_int _ t
  ext := fun _ h => h
section
variable {α β : Type} [DecidableEq α] [Datum α] [DV α] [DecidableEq β] [Datum β] [DV β]
/-- item by item -/
def Reps (H : Hp) (vs : List V) (xs : List α) : Prop := Paired (fun v x => rep H v x) vs xs
theorem Reps.ext {H H' : Hp} (e : Ex H H') : ∀ {vs : List V} {xs : List α}, Reps H vs xs → Reps H' vs xs
  | _, _, .nil => .nil
  | _, _, .cons h r => .cons (DV.ext e h) (Reps.ext e r)
theorem Reps.holds {X : Cx} {pins : List (Addr × Obj)} {σ : L2.St} {H : Hp} {s : Shared} (I : Inv X pins σ H s) : ∀ {vs : List V} {xs : List α} {us : List Value}, Reps H vs xs → Vals vs us → HoldAll s.heap us xs
  | _, _, _, .nil, .nil => .nil
  | _, _, _, .cons h r, .cons h' r' => .cons (DV.holds I h h') (Reps.holds I r r')
instance : DV (List α) where
  rep H v xs := ∃ a vs, v = .ref a ∧ H a = some (.lst vs) ∧ Reps H vs xs
  holds := fun I h r => by
    obtain ⟨a, vs, rfl, h1, h2⟩ := h
    cases r
    obtain ⟨its, rv, pl, _⟩ := I.list (sq_of h1)
    exact holds_list pl.isList (Reps.holds I h2 (by simpa using rv))
  ext := fun e h => by
    obtain ⟨a, vs, h0, h1, h2⟩ := h
    exact ⟨a, vs, h0, e _ _ h1, Reps.ext e h2⟩
instance : DV (Tup α) where
  rep H v xs := ∃ a vs, v = .ref a ∧ H a = some (.tup vs) ∧ Reps H vs xs.items
  holds := fun I h r => by
    obtain ⟨a, vs, rfl, h1, h2⟩ := h
    cases r
    obtain ⟨its, rv, pl, _⟩ := I.tuple (st_of h1)
    exact holds_tup pl (Reps.holds I h2 (by simpa using rv))
  ext := fun e h => by
    obtain ⟨a, vs, h0, h1, h2⟩ := h
    exact ⟨a, vs, h0, e _ _ h1, Reps.ext e h2⟩
instance : DV (α × β) where
  rep H v p := ∃ a u w, v = .ref a ∧ H a = some (.tup [u, w]) ∧ rep H u p.1 ∧ rep H w p.2
  holds := fun I h r => by
    obtain ⟨a, u, w, rfl, h1, h2, h3⟩ := h
    cases r
    obtain ⟨its, rv, pl, _⟩ := I.tuple (st_of h1)
    obtain ⟨u1, u2, rfl, r1, r2⟩ := vals2 rv
    exact holds_pair pl (DV.holds I h2 r1) (DV.holds I h3 r2)
  ext := fun e h => by
    obtain ⟨a, u, w, h0, h1, h2, h3⟩ := h
    exact ⟨a, u, w, h0, e _ _ h1, DV.ext e h2, DV.ext e h3⟩
theorem Reps.len {H : Hp} : ∀ {vs : List V} {xs : List α}, Reps H vs xs → vs.length = xs.length
  | _, _, .nil => rfl
  | _, _, .cons _ r => by rw [List.length_cons, List.length_cons, Reps.len r]
theorem Reps.at {H : Hp} : ∀ {vs : List V} {xs : List α} {i : Nat} {v : V} {x : α}, Reps H vs xs → vs[i]? = some v → xs[i]? = some x → rep H v x
  | _, _, i, _, _, .nil, h, _ => by simp at h
  | _, _, 0, _, _, .cons q _, h, h' => by
    simp at h h'
    subst h h'
    exact q
  | _, _, i + 1, _, _, .cons _ r, h, h' => Reps.at (i := i) r (by simpa using h) (by simpa using h')
theorem Reps.app {H : Hp} : ∀ {vs ws : List V} {xs ys : List α}, Reps H vs xs → Reps H ws ys → Reps H (vs ++ ws) (xs ++ ys)
  | _, _, _, _, .nil, h => h
  | _, _, _, _, .cons a r, h => .cons a (Reps.app r h)
end
/-! ### comparisons -/
section
variable {X : Cx} {α : Type} [DecidableEq α]
def rLtW (α : Type) [DecidableEq α] [DatumOrd α] [DV α] : R2 := fun x y H Q => ∃ a b : α, rep H x a ∧ rep H y b ∧ Q (.bl (DatumOrd.lt a b)) H
theorem op_ltW [DatumOrd α] [DV α] (hu : X.A.units + Datum.depth α < cLine) : OpR X (compareOp .Lt) (rLtW α) := by
  intro pins s σ H x y v u Q I rx ry h
  obtain ⟨a, b, ha, hb, q⟩ := h
  exact lt_datum (DV.holds I ha rx) (DV.holds I hb ry) hu ⟨.bl _, H, I, rfl, q⟩
def rEqW (α : Type) [DecidableEq α] [Datum α] [DV α] (neg : Bool) : R2 := fun x y H Q => ∃ a b : α, rep H x a ∧ rep H y b ∧ Q (.bl (if neg then decide (a ≠ b) else decide (a = b))) H
theorem op_eqW [Datum α] [DV α] (hu : X.A.units + Datum.depth α < cLine) : OpR X (compareOp .Eq) (rEqW α false) := by
  intro pins s σ H x y v u Q I rx ry h
  obtain ⟨a, b, ha, hb, q⟩ := h
  exact eq_datum (DV.holds I ha rx) (DV.holds I hb ry) hu ⟨.bl _, H, I, rfl, q⟩
theorem op_neW [Datum α] [DV α] (hu : X.A.units + Datum.depth α < cLine) : OpR X (compareOp .NotEq) (rEqW α true) := by
  intro pins s σ H x y v u Q I rx ry h
  obtain ⟨a, b, ha, hb, q⟩ := h
  exact ne_datum (DV.holds I ha rx) (DV.holds I hb ry) hu ⟨.bl _, H, I, rfl, q⟩
def rInW (α : Type) [DecidableEq α] [Datum α] [DV α] (neg : Bool) : R2 := fun x y H Q => ∃ (a : α) (xs : List α), rep H x a ∧ rep H y xs ∧ Q (.bl (if neg then decide (a ∉ xs) else decide (a ∈ xs))) H
theorem op_inW [Datum α] [DV α] (hu : X.A.units + 1 + Datum.depth α < cLine) : OpR X (compareOp .In) (rInW α false) := by
  intro pins s σ H x y v u Q I rx ry h
  obtain ⟨a, xs, ha, ⟨l, vs, rfl, hl, hv⟩, q⟩ := h
  cases ry
  obtain ⟨its, rv, pl, _⟩ := I.list (sq_of hl)
  exact in_list_datum pl.isList (Reps.holds I hv (by simpa using rv)) (DV.holds I ha rx) hu ⟨.bl _, H, I, rfl, q⟩
theorem op_notInW [Datum α] [DV α] (hu : X.A.units + 1 + Datum.depth α < cLine) : OpR X (compareOp .NotIn) (rInW α true) := by
  intro pins s σ H x y v u Q I rx ry h
  obtain ⟨a, xs, ha, ⟨l, vs, rfl, hl, hv⟩, q⟩ := h
  cases ry
  obtain ⟨its, rv, pl, _⟩ := I.list (sq_of hl)
  exact notIn_list_datum pl.isList (Reps.holds I hv (by simpa using rv)) (DV.holds I ha rx) hu ⟨.bl _, H, I, rfl, q⟩
end
end Dw
/-! text W2 -/
set_option Elab.async false
set_option linter.all false
set_option maxHeartbeats 1000000
/-! sorted of typed data -/
namespace Dw
open PySem PySem.Spec PyProof.Rows L2 Evl PySem.W DV
section
variable {α : Type} [DecidableEq α] [DatumOrd α] [DV α]
def leW (a b : α) : Bool := !DatumOrd.lt b a
def srt (xs : List α) : List α := xs.mergeSort leW
theorem leW_eq : dataLe false (Datum.toD (α := α)) = leW := by
  rw [dataLe_eq]
  funext a b
  show (!dataLt (Datum.toD b) (Datum.toD a)) = _
  rw [DatumOrd.lt_eq]
  rfl
theorem srt_mem {xs : List α} {x : α} : x ∈ srt xs ↔ x ∈ xs := List.mem_mergeSort
theorem srt_len (xs : List α) : (srt xs).length = xs.length := List.length_mergeSort xs
theorem srt_perm (xs : List α) : (srt xs).Perm xs := List.mergeSort_perm xs leW
theorem each_of {R : V → α → Prop} {S : V → Value → Prop} : ∀ {vs : List V} {xs : List α} {us : List Value}, Paired R vs xs → Paired S vs us → EachIs (fun u x => ∃ v, S v u ∧ R v x) us xs
  | _, _, _, .nil, .nil => .nil
  | _, _, _, .cons h r, .cons h' r' => .cons ⟨_, h', h⟩ (each_of r r')
theorem of_each {H : Hp} : ∀ {us : List Value} {xs : List α}, EachIs (fun u x => ∃ v, RelV v u ∧ rep H v x) us xs → ∃ vs, Vals vs us ∧ Reps H vs xs
  | _, _, .nil => ⟨[], .nil, .nil⟩
  | _, _, .cons ⟨v, h1, h2⟩ r => by
    obtain ⟨vs, r1, r2⟩ := of_each r
    exact ⟨v :: vs, .cons h1 r1, .cons h2 r2⟩
/-- sorted(xs): xs on the part A of the heap; its things in order in a new list -/
def rSortedW (α : Type) [DecidableEq α] [DatumOrd α] [DV α] : List V → Hp → VK → Prop := fun vs H Q => ∃ (a : Addr) (xs : List α) (A : Hp), vs = [.ref a] ∧ (∀ b o, A b = some o → H b = some o) ∧ rep A (.ref a) xs ∧ ∀ p ws, H p = none → Reps A ws (srt xs) → Q (.ref p) (upd H p (.lst ws))
theorem cr_sortedW {X : Cx} (hs : ∀ (a : α) ys, Datum.toD a ≠ .tuple ys) (hu : X.A.units + 2 + Datum.depth α < cLine) : CallR X (.builtin "sorted") (rSortedW α) := by
  intro pins s σ H vs us Q I r h
  obtain ⟨a, xs, A, rfl, eA, ⟨a', vs', e, hl, hv⟩, q⟩ := h
  cases e
  obtain ⟨its, rv, pl, hz⟩ := I.list (sq_of (eA _ _ hl))
  obtain ⟨u, rfl, ru⟩ := vals1 r
  obtain rfl : u = Value.ref a := ru
  have rv' : Vals vs' its := rv
  have e1 := each_of hv rv'
  refine sorted_data (enc := Datum.toD) pl.isList e1 (e1.mono fun u x ⟨v, h1, h2⟩ => DV.holds I (DV.ext eA h2) h1) (AllAlike.of fun b b' => DatumOrd.alike b b') (Sortable.others fun b => ⟨DatumOrd.notNone b, hs b⟩) (by rw [← Reps.len hv]; exact hz) (fun b _ => by have := Datum.depth_le b; omega) fun out lo eo => ?_
  rw [leW_eq] at eo
  obtain ⟨ws, r1, r2⟩ := of_each eo
  obtain ⟨n, hn⟩ := sortedAll_at s.heap its out.toArray
  have fr : H (s.heap.objs.size + 1) = none := I.hok.fresh (Nat.le_succ _)
  refine ⟨.ref (s.heap.objs.size + 1), upd H (s.heap.objs.size + 1) (.lst ws), I.laid (t' := s.toks) (fun _ _ => sortedAll_old) (Nat.le_succ _) ⟨?_, out, n, r1, hn⟩, rfl, q _ _ fr r2⟩
  rw [Reps.len r2]
  show (xs.mergeSort leW).length ≤ _
  rw [List.length_mergeSort, ← Reps.len hv]
  exact hz
/-- of tuples, none of them empty -/
def rSortedWT (β : Type) [DecidableEq β] [DatumOrd β] [DV β] : List V → Hp → VK → Prop := fun vs H Q => ∃ (a : Addr) (xs : List (Tup β)) (A : Hp), vs = [.ref a] ∧ (∀ b o, A b = some o → H b = some o) ∧ rep A (.ref a) xs ∧ (∀ x ∈ xs, x.items ≠ []) ∧ ∀ p ws, H p = none → Reps A ws (srt xs) → Q (.ref p) (upd H p (.lst ws))
theorem cr_sortedWT {β : Type} [DecidableEq β] [DatumOrd β] [DV β] {X : Cx} (hu : X.A.units + 2 + Datum.depth (Tup β) < cLine) : CallR X (.builtin "sorted") (rSortedWT β) := by
  intro pins s σ H vs us Q I r h
  obtain ⟨a, xs, A, rfl, eA, ⟨a', vs', e, hl, hv⟩, ne, q⟩ := h
  cases e
  obtain ⟨its, rv, pl, hz⟩ := I.list (sq_of (eA _ _ hl))
  obtain ⟨u, rfl, ru⟩ := vals1 r
  obtain rfl : u = Value.ref a := ru
  have rv' : Vals vs' its := rv
  have e1 := each_of hv rv'
  refine sorted_data (enc := Datum.toD) pl.isList e1 (e1.mono fun u x ⟨v, h1, h2⟩ => DV.holds I (DV.ext eA h2) h1) (AllAlike.of fun b b' => DatumOrd.alike b b') (.inl fun d hd => by
    obtain ⟨x, hx, rfl⟩ := List.mem_map.mp hd
    have n := ne x hx
    obtain ⟨its⟩ := x
    cases its with
    | nil => exact absurd rfl n
    | cons y r => exact ⟨_, _, rfl⟩) (by rw [← Reps.len hv]; exact hz) (fun b _ => by have := Datum.depth_le b; omega) fun out lo eo => ?_
  rw [leW_eq] at eo
  obtain ⟨ws, r1, r2⟩ := of_each eo
  obtain ⟨n, hn⟩ := sortedAll_at s.heap its out.toArray
  have fr : H (s.heap.objs.size + 1) = none := I.hok.fresh (Nat.le_succ _)
  refine ⟨.ref (s.heap.objs.size + 1), upd H (s.heap.objs.size + 1) (.lst ws), I.laid (t' := s.toks) (fun _ _ => sortedAll_old) (Nat.le_succ _) ⟨?_, out, n, r1, hn⟩, rfl, q _ _ fr r2⟩
  rw [Reps.len r2]
  show (xs.mergeSort leW).length ≤ _
  rw [List.length_mergeSort, ← Reps.len hv]
  exact hz
end
end Dw
/-! text W3 -/
set_option Elab.async false
set_option linter.all false
set_option maxHeartbeats 1000000
set_option maxRecDepth 100000
/-! sorted(xs, key=f), the keys with lists that stood before -/
namespace Dw
open PySem PySem.Spec PyProof.Rows L2 Evl PySem.W DV
/-- all lists that the key reads stood in the old heap -/
def RdIn (old h : Heap) (v : Value) (k : PyData) : Prop := ∃ as, Reads h v k as ∧ ∀ x ∈ as, ∃ o, old.get? x = some o
def KeyOld (old : Heap) (k : PyData) (s1 : Shared) (v : Value) (s2 : Shared) : Prop := ∃ g t, s2 = { s1 with heap := g, toks := t } ∧ (∀ b o, s1.heap.get? b = some o → g.get? b = some o) ∧ RdIn old g v k
theorem RdIn.keeps {old h g : Heap} {v : Value} {k : PyData} (e : ∀ b o, h.get? b = some o → g.get? b = some o) (r : RdIn old h v k) : RdIn old g v k := by
  obtain ⟨as, r1, r2⟩ := r
  exact ⟨as, PyProof.Rows.Reads.keeps e r1, r2⟩
theorem RdIn.but {old h g : Heap} {v : Value} {k : PyData} {c : Addr} (e : ∀ b o, b ≠ c → h.get? b = some o → g.get? b = some o) (ho : ∀ o, h.get? c = some o → o.cls = .type "list") (hn : old.get? c = none) (al : alike k k = true) (r : RdIn old h v k) : RdIn old g v k := by
  obtain ⟨as, r1, r2⟩ := r
  refine ⟨as, PySem.W.Reads.keepBut e ho k v as al r1 fun z => ?_, r2⟩
  obtain ⟨o, q⟩ := r2 c z
  rw [hn] at q
  cases q
section
variable {prog : Program} {w : World} {A : Around} {E : Value → Shared → Prop} {s : Shared} {a kS : Addr} {b : Bool} {vs : List Value} {e1 : Nat} {P : PySem.Fin → Shared → Prop} {kz : List PyData} {old h1 : Heap} {f : Value}
/-- while the keys are asked: so many so far, in the list at kS -/
def Asked (old h1 : Heap) (a kS : Addr) (e1 : Nat) (s : Shared) (kz : List PyData) (i : Nat) (s' : Shared) : Prop :=
  ∃ g t kA n, s' = { s with heap := g, toks := t } ∧ KeepsBut a h1 g ∧ g.get? kS = some (seqObj "list" kA n) ∧ g.get? a = some (seqObj "list" #[] e1) ∧ EachIs (fun v k => RdIn old g v k ∧ alike k k = true) kA.toList (kz.take i)
theorem keys_rest (kp : KeepsBut a h1 s.heap) (fS : h1.get? kS = none) (oS : old.get? kS = none) (nk : s.heap.get? kS = some (seqObj "list" #[] 0)) (na : s.heap.get? a = some (seqObj "list" #[] e1)) (ne : kS ≠ a)
    (len : kz.length = vs.length) (hZ : vs.length ≤ sizeLine) (al : AllAlike kz) (sk : Sortable kz) (hu : ∀ d, d ∈ kz → A.units + d.depth < cLine)
    (turn : ∀ (i : Nat) (v : Value) (k : PyData), vs[i]? = some v → kz[i]? = some k → ∀ (g : Heap) (t : Nat), KeepsBut a h1 g → wpAny (model prog w) A (call f [v]) (KeyOld old k { s with heap := g, toks := t }) (fun _ _ => False) { s with heap := g, toks := t })
    (fin : ∀ g t out c, KeepsBut a h1 g → g.get? a = some (seqObj "list" (List.toArray out) c) → KeyedOut b kz vs out → P (.done (.ret .none)) { s with heap := g, toks := t }) : wpAny (model prog w) A (ksk_rest a f b vs.toArray e1 (.ref kS)) P E s := by
  unfold ksk_rest
  apply wpAny_bind
  apply wpAny_rule
  first
    | rw [List.forIn_toArray]
    | (rw [← Array.forIn_toList]; simp only [List.toList_toArray])
    | rw [← Array.forIn_toList]
  apply wpAny_bind
  refine ksk_fold (Asked old h1 a kS e1 s kz) vs 0 s ⟨s.heap, s.toks, #[], 0, rfl, kp, nk, na, by rw [List.take_zero]; exact .nil⟩ ?one ?end_
  case one =>
    rintro j x s' hx ⟨g, t, kA, n, rfl, kg, ng, ag, eg⟩
    rw [Nat.zero_add] at eg ⊢
    have hj : j < vs.length := (List.getElem?_eq_some_iff.mp hx).1
    have hkj : kz[j]? = some kz[j] := List.getElem?_eq_getElem (by omega)
    have hm := List.mem_of_getElem? hkj
    have small : kA.size ≤ vs.length := by
      have q := eg.length
      rw [Array.length_toList, List.length_take] at q
      omega
    apply wpAny_bind
    apply wpAny_attempt
    refine wpAny_mono (turn j x _ hx hkj g t kg) (fun v s2 y => ?_) fun _ _ z => z.elim
    obtain ⟨g2, t2, rfl, k2, r2⟩ := y
    dsimp only
    have nk2 := k2 _ _ ng
    have sb := Heap.SameBut.update g2 kS (Obj.mapSeq (·.push v))
    apply wpAny_bind
    refine listUpdate_at nk2 rfl ?_ (Nat.le_trans small hZ) (by rw [Array.size_push]; omega)
    have stay : ∀ (u : Value) (d : PyData), RdIn old g2 u d ∧ alike d d = true → RdIn old (g2.update kS (Obj.mapSeq (·.push v))) u d ∧ alike d d = true := fun u d z =>
      ⟨z.1.but (fun b o hb q => (sb.2 b hb).trans q) (fun o q => by rw [nk2] at q; rw [← Option.some.inj q]) oS z.2, z.2⟩
    apply wpAny_pure
    refine ⟨rfl, _, _, kA.push v, _, rfl, (kg.trans_all k2).same sb (.inr fS), get?_update_seq nk2 (·.push v), (sb.2 a ne.symm).trans (k2 _ _ ag), ?_⟩
    rw [Array.toList_push, List.take_add_one, hkj]
    exact each_snoc (R := fun (u : Value) (d : PyData) => RdIn old (g2.update kS (Obj.mapSeq (·.push v))) u d ∧ alike d d = true) (stay v _ ⟨r2, al _ hm _ hm⟩) (eg.mono fun u d z => stay u d ⟨z.1.keeps k2, z.2⟩)
  case end_ =>
    rintro s' ⟨g, t, kA, n, rfl, kg, ng, ag, eg⟩
    rw [Nat.zero_add, List.take_of_length_le (by omega)] at eg
    have rd : EachIs (fun v k => ∃ as, Reads g v k as) kA.toList kz := eg.mono fun v k z => ⟨z.1.choose, z.1.choose_spec.1⟩
    have size : kA.size = vs.length := by
      have q := rd.length
      rw [Array.length_toList] at q
      omega
    apply wpAny_bind
    refine listItems_at ng rfl ?_
    refine keyH_end (κ := dataKind g kz) (h₁ := h1) kg fS ng ag ne (SortsAt.data (s := { s with heap := g, toks := t }) rd al sk hu) size hZ fun g3 t3 c k3 n3 => ?_
    exact fin g3 t3 _ c k3 n3 ⟨g, kA.toList, al, rfl, rd⟩
theorem keys_tree {n : Nat} (ho : s.heap.get? a = some (seqObj "list" vs.toArray n)) (old_le : ∀ b, s.heap.objs.size ≤ b → old.get? b = none) (len : kz.length = vs.length) (hZ : vs.length ≤ sizeLine) (al : AllAlike kz) (sk : Sortable kz) (hu : ∀ d, d ∈ kz → A.units + d.depth < cLine)
    (turn : ∀ (i : Nat) (v : Value) (k : PyData), vs[i]? = some v → kz[i]? = some k → ∀ (g : Heap) (t : Nat), KeepsBut a s.heap g → wpAny (model prog w) A (call f [v]) (KeyOld old k { s with heap := g, toks := t }) (fun _ _ => False) { s with heap := g, toks := t })
    (fin : ∀ g t out c, KeepsBut a s.heap g → g.get? a = some (seqObj "list" (List.toArray out) c) → KeyedOut b kz vs out → P (.done (.ret .none)) { s with heap := g, toks := t }) : wpAny (model prog w) A (ksk_tree a f b) P E s := by
  have la := Heap.lt_size ho
  have ho1 := get?_update_seq ho fun _ => (#[] : Array Value)
  have size : ((s.heap.update a (Obj.mapSeq fun _ => (#[] : Array Value))).push (seqObj "tuple" vs.toArray 0)).objs.size = s.heap.objs.size + 1 := by rw [size_push', Heap.size_update]
  unfold ksk_tree
  apply wpAny_bind
  refine listItems_at ho rfl ?_
  apply wpAny_bind
  refine listUpdate_at ho rfl ?_ (by rw [List.size_toArray]; exact hZ) (Nat.zero_le _)
  apply wpAny_bind
  refine seqEpoch_at ho1 rfl ?_
  apply wpAny_bind
  refine wpAny_newTuple ?_ hZ
  apply wpAny_bind
  refine wpAny_newList ?_ (Nat.zero_le _)
  apply wpAny_holding
  refine keys_rest (kz := kz) (h1 := s.heap) (old := old) (s := { s with heap := ((s.heap.update a (Obj.mapSeq fun _ => (#[] : Array Value))).push (seqObj "tuple" vs.toArray 0)).push (seqObj "list" #[] 0) }) (fun b o hb q => sortingHeap_old hb q) ?_ ?_ (Heap.get?_push_size _ rfl) ?_ ?_ len hZ al sk hu turn fin
  · exact Heap.get?_none_of_le (by rw [size]; omega)
  · exact old_le _ (by rw [size]; omega)
  · exact Heap.get?_push_of_some _ (Heap.get?_push_of_some _ ho1)
  · rw [size]
    exact Nat.ne_of_gt (Nat.lt_succ_of_lt la)
end
end Dw
/-! text W4 -/
set_option Elab.async false
set_option linter.all false
set_option maxHeartbeats 1000000
set_option maxRecDepth 100000
/-! sorted(xs, key=f) as one step: the items by their keys -/
namespace Dw
open PySem PySem.Spec PyProof.Rows L2 Evl PySem.W DV
section
variable {prog : Program} {w : World} {A : Around} {E : Value → Shared → Prop} {s : Shared} {β : Type} {vs : List Value} {bs : List β} {R : Value → β → Prop}
theorem sorted_key_old {l f : Addr} {Q : Value → Shared → Prop} (k : β → PyData) (hl : s.heap.IsList l vs.toArray) (e : EachIs R vs bs) (al : AllAlike (bs.map k)) (sk : Sortable (bs.map k)) (hL : bs.length ≤ sizeLine) (hu : ∀ x, x ∈ bs → A.units + 2 + (k x).depth < cLine)
    (turn : ∀ (v : Value) (x : β), R v x → x ∈ bs → ∀ (g : Heap) (t : Nat), (∀ b o, s.heap.get? b = some o → g.get? b = some o) → wpAny (model prog w) A.in1.in1 (call (.ref f) [v]) (KeyOld s.heap (k x) { s with heap := g, toks := t }) (fun _ _ => False) { s with heap := g, toks := t })
    (fin : ∀ out c g t, (∀ b o, s.heap.get? b = some o → g.get? b = some o) → g.get? (s.heap.objs.size + 1) = some (seqObj "list" (List.toArray out) c) → EachIs R out (bs.mergeSort (dataLe false k)) → Q (.ref (s.heap.objs.size + 1)) { s with heap := g, toks := t }) :
    wpAny (model prog w) A (call (.builtin "sorted") [.ref l] [(Str.ofString "key", .ref f)]) Q E s := by
  have len := e.length
  have up : ∀ {g : Heap}, KeepsBut (s.heap.objs.size + 1) (copyHeap s.heap vs) g → ∀ b o, s.heap.get? b = some o → g.get? b = some o := fun {g} kp b o q => by
    have lb := Heap.lt_size q
    exact kp b o (Nat.ne_of_lt (Nat.lt_succ_of_lt lb)) (copyHeap_old q)
  refine sorted_of_sort hl (by rw [len]; exact hL) (ksk_s1 _ _) (fun _ => ksk_l1 _ _) fun E' => ?_
  rw [ksk_t1]
  have grow : s.heap.objs.size ≤ (copyHeap s.heap vs).objs.size := by
    have q : s.heap.objs.size + 1 < (copyHeap s.heap vs).objs.size := Heap.lt_size (copyHeap_at s.heap vs)
    exact Nat.le_trans (Nat.le_succ _) (Nat.le_of_lt q)
  refine keys_tree (b := false) (kz := bs.map k) (old := s.heap) (s := { s with heap := copyHeap s.heap vs }) (copyHeap_at s.heap vs) (fun b hb => Heap.get?_none_of_le (Nat.le_trans grow hb)) (by rw [List.length_map, len]) (by rw [len]; exact hL) al sk (bound_map (A := A.in1.in1) hu) (fun i v d hv hd g t kp => ?_) fun g t out c kp hD ko => ⟨rfl, ?_⟩
  · rw [List.getElem?_map] at hd
    obtain ⟨x, hx, rfl⟩ := Option.map_eq_some_iff.mp hd
    have hz : (v, x) ∈ vs.zip bs := List.mem_of_getElem? (i := i) (List.getElem?_zip_eq_some.mpr ⟨hv, hx⟩)
    exact turn v x (e.zip _ hz) (List.mem_of_getElem? hx) g t (up kp)
  · exact fin out c g t (up kp) hD (keyedOut_each k ko e)
end
end Dw
/-! text W5 -/
set_option Elab.async false
set_option linter.all false
set_option maxHeartbeats 1000000
set_option maxRecDepth 100000
/-! the call of `lambda one: (len(one), one)`: all that stood stays as it is -/
namespace Dw
open PySem PySem.Spec PyProof.Rows L2 Evl PySem.W DV
section
variable {prog : Program} {w : World} {A : Around} {E : Value → Shared → Prop} {s : Shared} {f l c : Addr} {its : Array Value} {qual : Str} {p0 p1 p2 p3 p4 p5 : Pos} {x1 : Nat} {pm ctv : Value} {mg mb : Str → Option Value} {Q : Value → Shared → Prop}
abbrev lnBody (p1 p2 p3 p4 p5 : Pos) (x1 : Nat) : Expr := .Tuple [.Call (.Name "len" p1) [.Name "one" p2] [] p3, .Name "one" p4] x1 p5
abbrev lnPar (p0 : Pos) : Arguments := { posonlyargs := [], args := [{ arg := "one", annotation := none, pos := p0 }], vararg := none, kwonlyargs := [], kw_defaults := [], kwarg := none, defaults := [] }
abbrev lnSc : Scope := { kind := .function, names := [("one", .local), ("len", .globalImplicit)], isGenerator := false, isCoroutine := false }
theorem lam_key (hd : A.depth < recursionLimit) (ho : s.heap.get? f = some (PySem.W.kla_obj "<lambda>" qual (lnPar p0) (lnBody p1 p2 p3 p4 p5 x1) lnSc [] pm c ctv)) (hc : s.heap.CodeRec (.ref c) qual)
    (hg : s.heap.Ns mainGlobals mg) (hm : mg "len" = none) (hb : s.heap.Ns builtinsNs mb) (hbl : mb "len" = some (.builtin "len")) (hn : s.heap.NoLimit) (hl : s.heap.IsList l its) (small : (its.size : Int) < 2 ^ 63)
    (h : ∀ (g : Heap) (t t0 : Nat), (∀ b o, s.heap.get? b = some o → g.get? b = some o) → Q (.ref g.objs.size) { s with heap := g.push { cls := .type "tuple", data := .seq #[.int its.size t0, .ref l] }, toks := t }) :
    wpAny (model prog w) A (call (.ref f) [.ref l]) Q E s := by
  apply wpAny_call
  refine PySem.W.kla_callFunE hd ho rfl rfl rfl rfl hc ?_
  show wpAny _ _ (pure [(("one" : Str), Value.ref l)]) _ _ _
  apply wpAny_pure
  refine wpAny_newFunctionEnv (fun x hx => ?_) (fun x hx => ?_) (fun h1 hns hsb => ⟨hn.fresh _ hsb, ?_⟩) rfl
  · rcases List.mem_cons.mp hx with z | z
    · rw [z]
      exact fun q => by cases q
    · rw [List.mem_singleton.mp z]
      exact fun q => by cases q
  · rw [List.mem_singleton.mp hx]
    rfl
  have kp : ∀ b o, s.heap.get? b = some o → h1.get? b = some o := fun b o e => hsb.extBut b o (Nat.ne_of_lt (Heap.lt_size e)) (Heap.get?_push_of_some _ e)
  apply PySem.W.kla_codeExpr
  have one : ∀ {p : Pos} {Q' : Value → Shared → Prop} {E' : Value → Shared → Prop} {A' : Around} {t : Nat}, Q' (.ref l) { s with heap := h1, toks := t } → wpAny (model prog w) A' (eval (.Name "one" p) (newEnv lnSc s.heap.objs.size mainGlobals [] (qual ++ ".<locals>.") (some f) (.ref c) none builtinsNs)) Q' E' { s with heap := h1, toks := t } := fun {p Q' E' A' t} q =>
    wpAny_Name (wpAny_loadName_local rfl rfl hns rfl q) (by decide)
  apply wpAny_Tuple_spliced
  refine Calls.spliced_cons ?_
  refine wpAny_Call_Name_kw (Calls.Name_function_global rfl rfl (Calls.loadGlobal_builtin (hg.keeps kp) hm (hb.keeps kp) hbl ?_) (by decide))
  refine PyProof.Rows.callWith_builtin1 (Calls.spliced_cons (one (Calls.spliced_nil ?_))) rfl rfl
  have hl1 : h1.IsList l its := by
    obtain ⟨o, z1, z2, z3⟩ := hl
    exact ⟨o, kp _ _ z1, z2, z3⟩
  refine PySem.Calls.call_len_list hl1 small ?_
  refine Calls.spliced_cons (one (Calls.spliced_nil ⟨by show 2 ≤ sizeLine; decide, ?_⟩))
  exact h h1 _ _ kp
end
end Dw
/-! text Xv1 -/
set_option Elab.async false
set_option linter.all false
set_option maxRecDepth 100000
set_option maxHeartbeats 4000000
/-! own exceptions as values: made by place and by names, fields read, isinstance -/
namespace PySem
namespace XvL
open PySem.W PySem.Calls PyProof.Rows PySem.HandSPX
section
variable {M : Model} {A : Around} {E : Value → Shared → Prop} {h : Heap} {g : Array GenState} {d : Drawn} {t : Nat} {os : OsState}
variable {nm q : Str} {C N : Addr} {bs bm bmB : List Value} {hdct : Bool} {sn : List Str} {sub : List Value} {ab : Bool} {col : Option Bool} {dd : Option Addr} {k0 k1 k2 k3 k5 : Option Value} {B newId initId : String}
theorem check_newK (F : ExcBaseFacts B newId initId bmB) (hT : ∀ X : String, bm.contains (.type X) = bmB.contains (.type X)) {rest : List Value} {kw : List (Str × Value)} {Q : Unit → Shared → Prop}
    (hC : h.get? C = some (excClassObj nm q C N bs bm hdct sn sub ab col dd k0 k1 k2 k3 k5 newId)) (hq : Q () ⟨h, g, d, t, os⟩) : wpAny M A (checkBuiltinCall newId ⟨.ref C :: rest, kw⟩) Q E ⟨h, g, d, t, os⟩ := by
  have hcont : (Value.ref C :: bm).contains (.type B) = true := by rw [List.contains_cons, hT, F.hasB, Bool.or_true]
  have hstar := F.noStar
  simp only [checkBuiltinCall, F.newKind, F.newSplit, F.newRow]
  repeat (first | refine wpAny_loadPart_at hC ?_ | (refine wpAny_isSubtype_exc hC ?_; rw [hcont]) | refine wpAny_staticBase_exc hC ?_ | refine wpAny_madeBy_exc hC ?_ | simp only [bne_self_eq_false, Bool.false_eq_true, if_false] | wp_step)
  exact hq
end
section
variable {prog : Program} {w : World} {A : Around} {E : Value → Shared → Prop} {R : Result → Shared → Prop} {h : Heap} {g : Array GenState} {d : Drawn} {t : Nat} {os : OsState}
variable {nm q : Str} {C N : Addr} {bs bm bmB : List Value} {hdct : Bool} {sn : List Str} {sub : List Value} {ab : Bool} {col : Option Bool} {dd : Option Addr} {k0 k1 k2 k3 k5 : Option Value} {B newId initId : String}
theorem newK (F : ExcBaseFacts B newId initId bmB) (hT : ∀ X : String, bm.contains (.type X) = bmB.contains (.type X)) {rest : List Value} {kw : List (Str × Value)}
    (hC : h.get? C = some (excClassObj nm q C N bs bm hdct sn sub ab col dd k0 k1 k2 k3 k5 newId))
    (hq : R (.ok (.ret (.ref (h.objs.size + 1)))) ⟨(h.push { cls := .type "tuple", data := .seq rest.toArray }).push
      { cls := .ref C, data := .fields #[.ref h.objs.size, .none, .none, .none, .bool false, .none] }, g, d, t, os⟩) (hrest : rest.length ≤ sizeLine) :
    codeAny (model prog w) A (.builtin newId ⟨.ref C :: rest, kw⟩) R ⟨h, g, d, t, os⟩ := by
  have hends := F.ends
  have hcB : (Value.ref C :: bm).contains (.type B) = true := by rw [List.contains_cons, hT, F.hasB, Bool.or_true]
  have hcA : (Value.ref C :: bm).contains (.type "AttributeError") = false := by rw [List.contains_cons, hT, F.noAttr]; rfl
  have hcN : (Value.ref C :: bm).contains (.type "NameError") = false := by rw [List.contains_cons, hT, F.noName]; rfl
  refine codeAny_builtinAt F.entry ?_
  unfold Builtin.«BaseException.__new__»
  refine wpAt_bind ?_
  show wpAt _ _ _ (stack >>= _) _ _ _
  refine wpAt_bind (wpAt_stack fun p below => wpAt_of_wpAny ?_)
  wp_walk
  refine wpAt_of_wpAny ?_
  rw [F.owner]
  repeat (first | with_reducible refine wpAny_madeHere_exc F.canon hC ?_ | with_reducible refine wpAny_loadPart_at hC ?_ | (with_reducible refine wpAny_isSubtype_exc hC ?_; first | rw [hcB] | rw [hcA] | rw [hcN]) | wp_step)
  show R _ _
  rw [Heap.size_push]
  exact hq
theorem type_callK (F : ExcBaseFacts B newId initId bmB) (hT : ∀ X : String, bm.contains (.type X) = bmB.contains (.type X)) {rest : List Value} {kw : List (Str × Value)} {fI : Addr} {Q : Fin → Shared → Prop}
    (hC : h.get? C = some (excClassObj nm q C N bs bm hdct sn sub ab col dd k0 k1 k2 k3 k5 newId))
    (hi : W.Looks (model prog w) h (typeLookup (.ref C) "__init__") (some (.ref fI))) (hb : ∀ self, W.Looks (model prog w) h (bindSpecial (.ref fI) self) (.ref fI, [self])) (hrest : rest.length ≤ sizeLine)
    (hq : codeAny (model prog w) A (.call (.ref fI) ⟨.ref (h.objs.size + 1) :: rest, kw⟩)
      (fun r s' => match r with | .ok (.ret v) => v = .none ∧ Q (.done (.ret (.ref (h.objs.size + 1)))) s' | .ok _ => False | .error e => E e s')
      ⟨(h.push (W.kdv_tup rest)).push (excO C h.objs.size), g, d, t, os⟩) :
    wpAny (model prog w) A (Builtin.«type.__call__» ⟨.ref C :: rest, kw⟩) Q E ⟨h, g, d, t, os⟩ := by
  repeat (first | with_reducible refine wpAny_loadPart_at hC ?_ | with_reducible refine wpAny_madeBy_exc hC ?_ | wp_step)
  refine codeAny_call_builtin_code (Code.quiet_builtin _ F.quiet) (check_newK F hT hC ?_)
  refine newK F hT hC ?_ hrest
  show wpAny _ _ _ _ _ _
  have k : ∀ b o, h.get? b = some o → ((h.push (W.kdv_tup rest)).push (excO C h.objs.size)).get? b = some o := fun b o e => Heap.get?_push_of_some _ (Heap.get?_push_of_some _ e)
  have hC₁ := k _ _ hC
  have hget : ((h.push (W.kdv_tup rest)).push (excO C h.objs.size)).get? (h.objs.size + 1) = some (excO C h.objs.size) := by heap_get
  have hcC : (Value.ref C :: bm).contains (.ref C) = true := by simp
  have i1 := hi.keeps k
  have b1 := (hb (.ref (h.objs.size + 1))).keeps k
  unfold isInstance
  repeat (first | with_reducible refine wpAny_loadPart_at hget ?_ | (with_reducible refine wpAny_isSubtype_exc hC₁ ?_; rw [hcC]) | wp_step)
  show wpAny _ _ (typeLookup (.ref C) _) _ _ _
  refine i1.at ?_
  refine wpAny_holding (wpAny_bind (b1.at ?_))
  refine wpAny_bind (wpAny_call (codeAny_mono hq fun r s' z => ?_))
  rcases r with e | (v | _ | _ | _) <;> first | exact z | exact z.elim | skip
  obtain ⟨rfl, z⟩ := z
  first
    | exact wpAny_pure (wpAny_pure z)
    | (wp_walk; exact z)
theorem call_ownK (F : ExcBaseFacts B newId initId bmB) (hT : ∀ X : String, bm.contains (.type X) = bmB.contains (.type X)) {rest : List Value} {kw : List (Str × Value)} {fI : Addr}
    (hC : h.get? C = some (excClassObj nm q C N bs bm hdct sn sub ab col dd k0 k1 k2 k3 k5 newId))
    (hi : W.Looks (model prog w) h (typeLookup (.ref C) "__init__") (some (.ref fI))) (hb : ∀ self, W.Looks (model prog w) h (bindSpecial (.ref fI) self) (.ref fI, [self])) (hrest : rest.length ≤ sizeLine)
    (hq : codeAny (model prog w) (A.under (.builtin "type.__call__" ⟨.ref C :: rest, kw⟩)) (.call (.ref fI) ⟨.ref (h.objs.size + 1) :: rest, kw⟩) (W.InitBack (h.objs.size + 1) R)
      ⟨(h.push (W.kdv_tup rest)).push (excO C h.objs.size), g, d, t, os⟩) :
    codeAny (model prog w) A (.call (.ref C) ⟨rest, kw⟩) R ⟨h, g, d, t, os⟩ := by
  have f1 := tc_lookup
  have f2 := tc_bind (.ref C)
  have hTy : (⟨h, g, d, t, os⟩ : Shared).TypeIs (.ref C) "type" := ⟨_, hC, rfl⟩
  refine codeAny_of_tree ?_
  show wpAny _ _ (callAny (.ref C) _) _ _ _
  repeat (any_goals (first | assumption | with_reducible refine wpAny_loadPart_at hC ?_ | wp_step))
  refine ⟨rfl, ?_⟩
  refine codeAny_call_builtin_at (Code.quiet_builtin _ (by decide +kernel)) entry_typeCall (wpAny_check_type_call_sub hC (type_callK F hT hC hi hb hrest ?_))
  refine codeAny_mono hq fun r s' z => ?_
  rcases r with e | (v | _ | _ | _) <;> exact z
end
end XvL
end PySem
/-! text Xv2 -/
set_option Elab.async false
set_option linter.all false
set_option maxRecDepth 100000
set_option maxHeartbeats 4000000
/-! own exceptions as values, over the layer -/
namespace XvC
open PySem PySem.Spec PyProof.Rows L2 PySem.HandSPX
/-! ### what the written part says of such a class -/
def shB (K : PySem.W.Frag) (C : Addr) (m : List Value) : Bool := match K.lookup C with
  | some ⟨.type t, _, .cls cd, sl⟩ => (match sl.toList with
    | [_, _, _, _, some (.builtin n), _] => decide (t = "type") && (decide (n = "ValueError.__new__") && (!cd.hasDel && (cd.hasDict && decide (cd.mro = m))))
    | _ => false)
  | _ => false
def atB (K : PySem.W.Frag) (C : Addr) : Bool := decide (PySem.W.findIn K (.ref C) "__setattr__" = some (some (.builtin "object.__setattr__"))) && (decide (PySem.W.typeIn K (.ref C) = some (.type "type")) && (PySem.W.keepIn K (.ref C) && (
  decide (PySem.W.findIn K (.ref C) "__getattribute__" = some (some (.builtin "BaseException.__getattribute__"))) && (decide (PySem.W.findIn K (.ref C) "__getattr__" = some none) && (
  decide (PySem.W.findIn K (.ref C) "__class__" = some (some (.builtin "object.__class__"))) && (decide (PySem.W.specialIn K (.builtin "object.__class__") "__get__" = some (some (.builtin "getset_descriptor.__get__"))) &&
  decide (PySem.W.takesIn K (.builtin "object.__class__") = some true)))))))
/-- the base of all; a class right beneath it -/
def exB (K : PySem.W.Frag) (L : Addr) : Bool := shB K L (.ref L :: veTail) && atB K L
def exC (K : PySem.W.Frag) (L C : Addr) : Bool := shB K C (.ref C :: .ref L :: veTail) && atB K C
def noB (K : PySem.W.Frag) (C : Addr) (f : Str) : Bool := decide (PySem.W.findIn K (.ref C) f = some none)
def initB (K : PySem.W.Frag) (C f : Addr) : Bool := decide (PySem.W.findIn K (.ref C) "__init__" = some (some (.ref f))) && decide (PySem.W.typeIn K (.ref f) = some (.type "function"))
def bareB (K : PySem.W.Frag) (C : Addr) : Bool := PySem.W.excIn K C veTail "ValueError.__new__"
theorem ba {a b : Bool} (h : (a && b) = true) : a = true ∧ b = true := Bool.and_eq_true_iff.mp h
/-- an exception class: its mro -/
structure Xc (K : PySem.W.Frag) (C : Addr) (m : List Value) : Prop where
  lk : ∃ nm q N bs sn sub ab col dd k0 k1 k2 k3 k5, K.lookup C = some (excClassObj nm q C N bs m true sn sub ab col dd k0 k1 k2 k3 k5 "ValueError.__new__")
  rf : refsVE m = true
  sa : PySem.W.findIn K (.ref C) "__setattr__" = some (some (.builtin "object.__setattr__"))
  tyC : PySem.W.typeIn K (.ref C) = some (.type "type")
  kC : PySem.W.keepIn K (.ref C) = true
  hg : PySem.W.findIn K (.ref C) "__getattribute__" = some (some (.builtin "BaseException.__getattribute__"))
  hk : PySem.W.findIn K (.ref C) "__getattr__" = some none
  ha : PySem.W.findIn K (.ref C) "__class__" = some (some (.builtin "object.__class__"))
  hn : PySem.W.specialIn K (.builtin "object.__class__") "__get__" = some (some (.builtin "getset_descriptor.__get__"))
  ht : PySem.W.takesIn K (.builtin "object.__class__") = some true
theorem sh_ok {K : PySem.W.Frag} {C : Addr} {m : List Value} (h : shB K C (.ref C :: m) = true) : ∃ nm q N bs sn sub ab col dd k0 k1 k2 k3 k5, K.lookup C = some (excClassObj nm q C N bs m true sn sub ab col dd k0 k1 k2 k3 k5 "ValueError.__new__") := by
  unfold shB at h
  split at h
  · rename_i t dd cd sl ho
    split at h
    · rename_i k0 k1 k2 k3 n k5 hs
      obtain ⟨h1, h⟩ := ba h
      obtain ⟨h2, h⟩ := ba h
      obtain ⟨h3, h⟩ := ba h
      obtain ⟨h4, h5⟩ := ba h
      obtain ⟨nm, bs, mro, ns, qn, hd, sn, sub, ab, col, del⟩ := cd
      dsimp only at h3 h4 h5
      have e1 := of_decide_eq_true h1
      have e2 := of_decide_eq_true h2
      have e5 := of_decide_eq_true h5
      have e3 : del = false := by cases del <;> first | rfl | cases h3
      have hsl : sl = #[k0, k1, k2, k3, some (.builtin n), k5] := by
        obtain ⟨l⟩ := sl
        have e : l = [k0, k1, k2, k3, some (.builtin n), k5] := hs
        rw [e]
      subst e1 e2 e3 e5 h4 hsl
      exact ⟨_, _, _, _, _, _, _, _, _, _, _, _, _, _, ho⟩
    · cases h
  · cases h
theorem xc_of {K : PySem.W.Frag} {C : Addr} {m : List Value} (rf : refsVE m = true) (h : (shB K C (.ref C :: m) && atB K C) = true) : Xc K C m := by
  obtain ⟨h1, h⟩ := ba h
  obtain ⟨a1, h⟩ := ba h
  obtain ⟨a2, h⟩ := ba h
  obtain ⟨a3, h⟩ := ba h
  obtain ⟨a4, h⟩ := ba h
  obtain ⟨a5, h⟩ := ba h
  obtain ⟨a6, h⟩ := ba h
  obtain ⟨a7, a8⟩ := ba h
  exact ⟨sh_ok h1, rf, of_decide_eq_true a1, of_decide_eq_true a2, a3, of_decide_eq_true a4, of_decide_eq_true a5, of_decide_eq_true a6, of_decide_eq_true a7, of_decide_eq_true a8⟩
section
variable {K : PySem.W.Frag} {C : Addr} {m : List Value}
theorem Xc.cls (T : Xc K C m) : ∃ cd, PySem.W.clsIn K C = some cd ∧ cd.mro = .ref C :: m ∧ cd.hasDict = true := by
  obtain ⟨nm, q, N, bs, sn, sub, ab, col, dd, k0, k1, k2, k3, k5, hC⟩ := T.lk
  exact ⟨{ name := nm, bases := bs, mro := .ref C :: m, ns := N, qualname := q, hasDict := true, slotNames := sn, subclasses := sub, abstract := ab, collection := col, hasDel := false }, by unfold PySem.W.clsIn; rw [hC] <;> rfl, rfl, rfl⟩
theorem Xc.sub (T : Xc K C m) (b : Value) : PySem.W.subIn K (.ref C) b = some ((Value.ref C :: m).contains b) := by
  obtain ⟨cd, h1, h2, _⟩ := T.cls
  show PySem.W.mroIn K C b = _
  unfold PySem.W.mroIn
  rw [h1, Option.bind_some, h2, if_neg (show ¬ (Value.ref C :: m).isEmpty = true from fun z => nomatch z)]
theorem Xc.subT (T : Xc K C m) (n : String) : PySem.W.subIn K (.ref C) (.type n) = some (veTail.contains (.type n)) := by
  rw [T.sub, List.contains_cons, refsVE_contains n m T.rf]
  rfl
theorem Xc.exC (T : Xc K C m) : PySem.W.subIn K (.ref C) (.type "BaseException") = some true := by rw [T.subT]; rfl
theorem Xc.hasD (T : Xc K C m) : PySem.W.hasDictIn K C = true := by
  obtain ⟨cd, h1, _, h3⟩ := T.cls
  unfold PySem.W.hasDictIn
  rw [h1]
  exact h3
theorem Xc.hm (T : Xc K C m) : PySem.W.mroIn K C (.type "object") = some true := by
  have e := T.subT "object"
  rw [show veTail.contains (Value.type "object") = true by decide +kernel] at e
  exact e
theorem Xc.oex (T : Xc K C m) : OexC K C := by
  obtain ⟨nm, q, N, bs, sn, sub, ab, col, dd, k0, k1, k2, k3, k5, hC⟩ := T.lk
  exact ⟨⟨nm, q, N, bs, m, sn, sub, ab, col, dd, k0, k1, k2, k3, k5, hC, T.rf⟩, T.sa, T.exC, T.tyC, T.kC⟩
end
/-! ### reading the class: isinstance -/
end XvC
namespace PySem.W
open Lean Elab Tactic Meta PySem PySem.Calls PyProof.Rows PyProof.V PySem.Spec
section
variable {prog : Program} {w : World} {A : Around} {E : Value → Shared → Prop} {s : Shared} {K : Frag} {D x : Addr} {ox : Obj} {od : Option Obj}
theorem xv_kit {gt : Option Value} (T : ∃ m, XvC.Xc K D m) : KitX K (.ref x) (.ref D) (fun h => ∃ ox od, InstAt h x ox D od) where
  ty := fun _ _ _ ⟨_, _, I⟩ => I.type
  it := fun _ _ X _ => by
    obtain ⟨m, T⟩ := T
    obtain ⟨nm, q, N, bs, sn, sub, ab, col, dd, k0, k1, k2, k3, k5, ho⟩ := T.lk
    intro A' Q' E' s' k q
    unfold isType loadHead
    exact wpAny_bind (wpAny_loadPart (k _ _ (X _ _ ho)) (wpAny_pure q))
  ne := fun h tp dd its n sl X htp => by
    obtain ⟨m, T⟩ := T
    obtain ⟨nm, q, N, bs, sn, sub, ab, col, dd, k0, k1, k2, k3, k5, ho⟩ := T.lk
    refine Bool.eq_false_iff.mpr fun q => ?_
    have e : D = tp := Value.ref.inj (beq_iff_eq.mp q)
    subst e
    have z := congrArg Obj.data (Option.some.inj ((X _ _ ho).symm.trans htp))
    cases z
  ca := fun {prog w A E Q s} X ⟨ox, od, I⟩ k => by
    obtain ⟨m, T⟩ := T
    obtain ⟨cd, hc, _⟩ := T.cls
    have hf : findObj K D od "__class__" = some (.bind (.builtin "getset_descriptor.__get__") (.builtin "object.__class__")) := findObj_dataE (by rw [hc]; rfl) T.ha T.hn T.ht
    exact kx_classE X I T.hg T.hk T.exC hf T.hm k
end
end PySem.W
/-! text Xv3 -/
set_option Elab.async false
set_option linter.all false
set_option maxRecDepth 100000
set_option maxHeartbeats 4000000
/-! own exceptions as values: the rules -/
namespace XvC
open PySem PySem.Spec PyProof.Rows L2 PySem.HandSPX
/-- an exception object of the class at C, its fields -/
def ExcAt (H : Hp) (a C : Addr) (fs : List (Str × V)) : Prop := (fs = [] ∧ H a = some (exo a C none)) ∨ ∃ d, H a = some (exo a C (some d)) ∧ H d = some (exd d fs)
theorem ExcAt.ext {H H' : Hp} {a C : Addr} {fs : List (Str × V)} (h : ExcAt H a C fs) (e : ∀ b o, H b = some o → H' b = some o) : ExcAt H' a C fs := by
  rcases h with ⟨h1, h2⟩ | ⟨d, h1, h2⟩
  · exact .inl ⟨h1, e _ _ h2⟩
  · exact .inr ⟨d, e _ _ h1, e _ _ h2⟩
section
variable {X : Cx} {pins : List (Addr × Obj)} {σ : L2.St} {H : Hp} {s : Shared} {a C : Addr} {fs : List (Str × V)}
theorem ExcAt.inst (h : ExcAt H a C fs) (I : Inv X pins σ H s) : ∃ ox od, PySem.W.InstAt s.heap a ox C od ∧ ∀ f v, fs.lookup f = some v → ∃ oD u, od = some oD ∧ RelV v u ∧ PySem.W.lookIn f oD = some (some u) := by
  rcases h with ⟨rfl, h1⟩ | ⟨d, h1, h2⟩
  · obtain ⟨t, ho⟩ := exo_at I.hok h1
    exact ⟨_, none, ⟨ho, rfl, rfl, trivial⟩, fun f v e => by cases e⟩
  · obtain ⟨t, ho⟩ := exo_at I.hok h1
    obtain ⟨mA, hns, hr⟩ := exd_at I.hok h2
    obtain ⟨od, hod, hl⟩ := lookIn_ns hns
    refine ⟨_, some od, ⟨ho, rfl, rfl, hod⟩, fun f v e => ?_⟩
    obtain ⟨u, hu, ru⟩ := RelO.some_of (v := v) (o := mA f) (by rw [← e]; exact hr f)
    exact ⟨od, u, rfl, ru, by rw [hl, hu]⟩
end
/-! ### e.f -/
def tXfld (K : PySem.W.Frag) (n : Str) (te : TE) : TE := fun σ H Q => te σ H fun x H1 => ∃ a C fs v, x = .ref a ∧ ExcAt H1 a C fs ∧ (∃ m, Xc K C m) ∧ PySem.W.findIn K (.ref C) n = some none ∧ fs.lookup n = some v ∧ Q v H1
theorem pe_xfld {X : Cx} {e : Expr} {te : TE} {pos : Pos} {n : Str} (he : PE X e te) (hb : attributeBase e n X.env (eval e X.env) = eval e X.env := by rfl) : PE X (.Attribute e n pos) (tXfld X.K n te) := by
  refine ⟨fun pins s σ H Q I h => ?_⟩
  refine attr_of hb (thn (he.run pins s σ H _ I h) fun u s1 hh => ?_)
  obtain ⟨x, H1, I1, rx, a, C, fs, v, ex, ha, ⟨m, T⟩, hno, l, q⟩ := hh
  subst ex
  obtain rfl : u = Value.ref a := rx
  obtain ⟨ox, od, J, hl⟩ := ha.inst I1
  obtain ⟨oD, u, rfl, ru, hu⟩ := hl n v l
  exact HandSPX.exc_get I1.kIn J T.hg T.hk T.exC (PySem.W.findObj_own T.hasD hno rfl hu) (handed_of ru) ⟨v, H1, I1.tok _, ru, q⟩
/-! ### isinstance(e, C) -/
def rIsX (K : PySem.W.Frag) : List V → Hp → VK → Prop := fun xs H Q => ∃ (a C : Addr) (fs : List (Str × V)) (c : V) (cv : Value) (b : Bool), xs = [.ref a, c] ∧ ExcAt H a C fs ∧ (∃ m, Xc K C m) ∧ ClsV c cv ∧ PySem.W.kitOne K (.ref C) cv = some b ∧ Q (.bl b) H
theorem call_isX {X : Cx} : CallR X (.builtin "isinstance") (rIsX X.K) := by
  intro pins s σ H xs us Q I r h
  obtain ⟨a, C, fs, c, cv, b, rfl, ha, T, k, e, q⟩ := h
  obtain ⟨u1, u2, rfl, r1, r2⟩ := vals2 r
  cases (show u1 = Value.ref a from r1)
  have e2 := k.eq r2
  subst e2
  obtain ⟨ox, od, J, _⟩ := ha.inst I
  exact PySem.W.kia_one (PySem.W.xv_kit (gt := none) T) I.kIn ⟨ox, od, J⟩ e (fun z => nomatch z) fun tk => ⟨.bl b, H, I.tok tk, rfl, q⟩
/-! ### C(..), C's own __init__ a def that stores its parameters -/
/-- what __init__ does: the fields fns get the arguments -/
def spInit (C : Addr) (fns : List Str) : Sp := fun vs H Q _ => ∃ a us, vs = .ref a :: us ∧ us.length = fns.length ∧ H a = some (exo a C none) ∧
  ∀ d H', H d = none → d ≠ a → H' d = some (exd d (fns.zip us).reverse) → H' a = some (exo a C (some d)) → (∀ b, b ≠ d → b ≠ a → H' b = H b) → Q .non H'
/-- C(e, .., k = v, ..): us the values by the parameters' order -/
def tMkX (C : Addr) (fns : List Str) (n : Nat) (m : Nat) (g : List V → List V → List V) (t tk : TA) : TE := fun σ H Q => t σ H fun vs H1 => tk σ H1 fun zs H2 => vs.length = n ∧ zs.length = m ∧
  ∀ a d H3, H2 a = none → H2 d = none → d ≠ a → H3 d = some (exd d (fns.zip (g vs zs)).reverse) → H3 a = some (exo a C (some d)) → (∀ b, b ≠ d → b ≠ a → H3 b = H2 b) → Q (.ref a) H3
section
variable {X : Cx} {CX : CXT} {k n : Nat} {fI C : Addr} {fd : FuncData} {ps ks fns : List Str} {x : Str} {p pos : Pos} {e : Expr} {es : List Expr} {kws : List Keyword} {t tk : TA} {m : List Value}
theorem run_mkX {pins : List (Addr × Obj)} {σ : L2.St} {H : Hp} {s : Shared} {Q : VK} {us as : List Value} {ys : List V} {kw : List (Str × Value)} (T : Xc X.K C m) (iC : PySem.W.findIn X.K (.ref C) "__init__" = some (some (.ref fI))) (tI : PySem.W.typeIn X.K (.ref fI) = some (.type "function"))
    (F1 : FnOk X.prog X.w X.K X.mg X.base CX k fI fd ps (spInit C fns)) (hr : Room (k + 1) X.A) (hx : Passes CX X (fun _ _ _ => False)) (I : Inv X pins σ H s) (hus : us.length ≤ sizeLine) (r : Vals ys as) (hl : ys.length = fns.length)
    (hb : ∀ (s : Shared) (v : Value), BindsTo s fd ⟨v :: us, kw⟩ (ps.zip (v :: as)))
    (h : ∀ a d H3, H a = none → H d = none → d ≠ a → H3 d = some (exd d (fns.zip ys).reverse) → H3 a = some (exo a C (some d)) → (∀ b, b ≠ d → b ≠ a → H3 b = H b) → Q (.ref a) H3) :
    wpAny (model X.prog X.w) X.A (call (.ref C) us kw) (EP X pins σ Q) X.xe s := by
  obtain ⟨nm, q, N, bs, sn, sub, ab, col, dd, k0, k1, k2, k3, k5, hC⟩ := T.lk
  obtain ⟨hp, g, dr, tk, os⟩ := s
  have hsz : hp.objs.size ≤ hp.objs.size + 1 := Nat.le_succ _
  have hn : H (hp.objs.size + 1) = none := I.hok.fresh hsz
  have kk : ∀ b o, hp.get? b = some o → ((hp.push (PySem.W.kdv_tup us)).push (PySem.HandSPX.excO C hp.objs.size)).get? b = some o := fun b o e => Heap.get?_push_of_some _ (Heap.get?_push_of_some _ e)
  have hget : ((hp.push (PySem.W.kdv_tup us)).push (PySem.HandSPX.excO C hp.objs.size)).get? (hp.objs.size + 1) = some (PySem.HandSPX.excO C hp.objs.size) := by heap_get
  have I2 : Inv X pins σ (upd H (hp.objs.size + 1) (exo (hp.objs.size + 1) C none)) ⟨(hp.push (PySem.W.kdv_tup us)).push (PySem.HandSPX.excO C hp.objs.size), g, dr, tk, os⟩ :=
    I.laid (t' := tk) (a := hp.objs.size + 1) (o := exo (hp.objs.size + 1) C none) (h' := (hp.push (PySem.W.kdv_tup us)).push (PySem.HandSPX.excO C hp.objs.size)) kk hsz (exo_ok hget)
  have r2 : Vals (V.ref (hp.objs.size + 1) :: ys) (Value.ref (hp.objs.size + 1) :: as) := .cons rfl r
  have hq : spInit C fns (V.ref (hp.objs.size + 1) :: ys) (upd H (hp.objs.size + 1) (exo (hp.objs.size + 1) C none)) (fun v H2 => v = .non ∧ Q (.ref (hp.objs.size + 1)) H2) (fun _ _ _ => False) := by
    refine ⟨_, ys, rfl, hl, upd_same, fun d H' hd hda h1 h2 h3 => ⟨rfl, h _ d H' hn ?_ hda h1 h2 fun b hb hb2 => ?_⟩⟩
    · rw [upd_ne hda] at hd
      exact hd
    · rw [h3 b hb hb2, upd_ne hb2]
  refine wpAny_call (PySem.XvL.call_ownK F.excBase_ValueError (fun Y => PySem.HandSPX.refsVE_contains Y m T.rf) (I.kIn _ _ hC) (PySem.W.looks_findIn I.kIn iC) (fun self => PySem.W.bind_fn I.kIn self tI) hus
    (codeAny_mono (F1.run _ X.stack _ _ ⟨Value.ref (hp.objs.size + 1) :: us, kw⟩ (Value.ref (hp.objs.size + 1) :: as) _ _ (fun _ _ _ => False) (hr.make C us kw) (I2.env0.make C us kw) (hb _ _) r2 hq) fun r s' hq' => ?_))
  cases r with
  | error er => exact hx pins σ _ _ er s' I2 hq'
  | ok fl =>
    cases fl with
    | ret u =>
      obtain ⟨v, H', I3, rv, ev, q3⟩ := I2.after hq'
      subst ev
      exact ⟨rv, ⟨V.ref (hp.objs.size + 1), H', I3, rfl, q3⟩⟩
    | next => exact False.elim hq'
    | brk => exact False.elim hq'
    | cont => exact False.elim hq'
/-- C(e, ..) -/
theorem pe_mkX (T : Xc X.K C m) (iC : PySem.W.findIn X.K (.ref C) "__init__" = some (some (.ref fI))) (tI : PySem.W.typeIn X.K (.ref fI) = some (.type "function"))
    (F1 : FnOk X.prog X.w X.K X.mg X.base CX k fI fd ps (spInit C fns)) (hr : Room (k + 1) X.A) (hx : Passes CX X (fun _ _ _ => False)) (hg : Gl X x) (hm : X.mg x = some (.ref C)) (ha : PA X (e :: es) t)
    (hb : ∀ (s : Shared) (v : Value) (us : List Value), us.length = fns.length → BindsTo s fd ⟨v :: us, []⟩ (ps.zip (v :: us))) (hn : fns.length ≤ 1000)
    (hdb : (x == ("__debug__" : Str)) = false := by decide) (he : starEach (e :: es) X.env = (false, eval e X.env) :: starEach es X.env := by rfl) (hpl : (backTo pos (starEach es X.env)).any (·.1) = false := by rfl) :
    PE X (.Call (.Name x p) (e :: es) [] pos) (tMkX C fns fns.length 0 (fun vs _ => vs) t tNil) := by
  refine ⟨fun pins s σ H Q I h => ?_⟩
  refine wpAny_Call_Name_kw (ld_glob I hg hm ?_ hdb)
  refine PySem.W.callWith_K (h₀ := X.base) I.ok.mod.kin T.kC (thn (ha.run pos pins s σ H _ I h) fun us s1 ⟨vs, H1, I1, r1, hl, _, q⟩ => ⟨I1.kIn, ?_⟩) he hpl
  show wpAny _ _ (call (.ref C) us) _ _ _
  have e1 := r1.length
  exact run_mkX T iC tI F1 hr hx I1 (by rw [sizeLine_eq]; omega) r1 hl (fun s v => hb s v us (by omega)) q
/-- C(k = v, ..) -/
theorem pe_mkXK {g : {α : Type} → List α → List α} (T : Xc X.K C m) (iC : PySem.W.findIn X.K (.ref C) "__init__" = some (some (.ref fI))) (tI : PySem.W.typeIn X.K (.ref fI) = some (.type "function"))
    (F1 : FnOk X.prog X.w X.K X.mg X.base CX k fI fd ps (spInit C fns)) (hr : Room (k + 1) X.A) (hx : Passes CX X (fun _ _ _ => False)) (hg : Gl X x) (hm : X.mg x = some (.ref C)) (hkw : PK X kws tk)
    (hrel : ∀ {zs : List V} {ws : List Value}, zs.length = ks.length → Vals zs ws → Vals (g zs) (g ws) ∧ (g zs).length = fns.length)
    (hb : ∀ (s : Shared) (v : Value) (ws : List Value), ws.length = ks.length → BindsTo s fd ⟨[v], ks.zip ws⟩ (ps.zip (v :: g ws)))
    (hall : (backToKw pos (keywordEach kws X.env)).all (·.1.isSome) = true := by rfl) (hks : (backToKw pos (keywordEach kws X.env)).filterMap (·.1) = ks := by rfl) (hdb : (x == ("__debug__" : Str)) = false := by decide)
    (hpl : ((backTo pos (starEach [] X.env)).any (·.1) || (backToKw pos (keywordEach kws X.env)).any (·.1.isNone)) = false := by rfl) :
    PE X (.Call (.Name x p) [] kws pos) (tMkX C fns 0 ks.length (fun _ zs => g zs) tNil tk) := by
  refine ⟨fun pins s σ H Q I h => ?_⟩
  refine wpAny_Call_Name_kw (ld_glob I hg hm ?_ hdb)
  refine PySem.W.callWith_KW0 (h₀ := X.base) I.ok.mod.kin T.kC hall ?_ hpl
  refine thn (hkw.run pos pins s σ H _ I h) fun ws s2 ⟨zs, H2, I2, rz, _, l2, q2⟩ => ⟨I2.kIn, ?_⟩
  rw [hks]
  have e1 := rz.length
  obtain ⟨r2, hl2⟩ := hrel l2 rz
  exact run_mkX T iC tI F1 hr hx I2 (us := []) (by rw [sizeLine_eq]; simp) r2 hl2 (fun s v => hb s v ws (by omega)) q2
/-- C(), no __init__ of its own -/
theorem pe_mkX0 {bmB : List Value} (T : Xc X.K C m) (q : PySem.W.excIn X.K C veTail "ValueError.__new__" = true) (hg : Gl X x) (hm : X.mg x = some (.ref C)) (hdb : (x == ("__debug__" : Str)) = false := by decide) :
    PE X (.Call (.Name x p) [] [] pos) (fun _ H Q => ∀ a, H a = none → Q (.ref a) (upd H a (exo a C none))) := by
  refine ⟨fun pins s σ H Q I h => ?_⟩
  refine wpAny_Call_Name_kw (ld_glob I hg hm ?_ hdb)
  refine PySem.W.callWith_K0 I.kIn T.kC ?_
  show wpAny _ _ (call (.ref C) []) _ _ _
  obtain ⟨bm, N, nm, qn, bs, hdct, sn, sub, ab, col, dd, k0, k1, k2, k3, k5, mN, hC, hN, hni, OT⟩ := exc_obj I.kIn q
  refine wpAny_call_exc_subT F.excBase_ValueError OT hC hN hni (fun h' a hm => ?_) (by show 0 ≤ sizeLine; omega)
  have hn : H a = none := I.hok.gone hm.new
  obtain ⟨t, ht, _, _⟩ := hm.there
  exact ⟨.ref a, upd H a (exo a C none), I.laidN hm.keeps hm.new hn (exo_ok ht), rfl, h a hn⟩
end
end XvC
/-! text Xv4 -/
set_option Elab.async false
set_option linter.all false
set_option maxRecDepth 100000
set_option maxHeartbeats 4000000
/-! lambdas with parameters as values: made, kept, called -/
namespace LmV
open PySem PySem.Spec PyProof.Rows L2 LamX NdefX
structure LF where
  qual : Str
  params : Arguments
  body : Expr
  scope : Scope
  cl : List (Str × Addr)
  c : Addr
/-- the object at f is the lambda F -/
def LamO (f : Addr) (F : LF) : HO := .ext fun h => ∃ pm ctv : Value, h.get? f = some (PySem.W.kla_obj "<lambda>" F.qual F.params F.body F.scope F.cl pm F.c ctv)
theorem lamO_at {P : Program} {w : World} {H : Hp} {h : Heap} {f : Addr} {F : LF} (hok : HOk P w H h) (e : H f = some (LamO f F)) : ∃ pm ctv : Value, h.get? f = some (PySem.W.kla_obj "<lambda>" F.qual F.params F.body F.scope F.cl pm F.c ctv) := by
  obtain ⟨z, _, _⟩ := hok f _ e
  exact z
theorem lamO_ne {f : Addr} {F : LF} (ps : Array Value) : LamO f F ≠ .tbl ps := fun z => by
  unfold LamO at z
  cases z
section
variable {X : Cx} {pins : List (Addr × Obj)} {σ : L2.St} {H : Hp} {s : Shared}
theorem inv_lam {F : LF} {t' : Nat} {pm ctv : Value} (I : Inv X pins σ H s) :
    Inv X pins σ (upd H s.heap.objs.size (LamO s.heap.objs.size F)) { s with heap := s.heap.push (PySem.W.kla_obj "<lambda>" F.qual F.params F.body F.scope F.cl pm F.c ctv), toks := t' } := by
  refine I.laid (a := s.heap.objs.size) (fun b u e => Heap.get?_push_of_some _ e) (Nat.le_refl _) ?_
  have e : (s.heap.push (PySem.W.kla_obj "<lambda>" F.qual F.params F.body F.scope F.cl pm F.c ctv)).get? s.heap.objs.size = some (PySem.W.kla_obj "<lambda>" F.qual F.params F.body F.scope F.cl pm F.c ctv) := Heap.get?_push_size _ rfl
  exact ⟨⟨pm, ctv, e⟩, ⟨_, e⟩, fun h1 h2 ⟨p, t, z⟩ st => ⟨p, t, st _ z⟩⟩
theorem lam_makeT {T : List (Addr × Str)} {c P : Addr} {params : Arguments} {body : Expr} {scope : Scope} {pos : Pos} {E : Value → Shared → Prop} {Q : Value → Shared → Prop} (I : Inv X pins σ H s) (TB : TabB X.base X.mg c P) (hcode : X.env.code = .ref c)
    (hm : (P, X.env.qual ++ "<lambda>") ∈ T) (hu : ∀ p ∈ T, p.1 = P → p.2 = X.env.qual ++ "<lambda>") (hT : Tabs T H) (hdef : defaultsOf params X.env = ([], [])) (hfree : ∀ y ∈ scope.names, y.2 = .free → ∃ c, X.env.cells.lookup y.1 = some c)
    (h : ∀ (f c' : Addr) (H1 : Hp) (s' : Shared), Inv X pins σ H1 s' → ExtN H H1 → (∀ b, H1 b = none → H b = none) → Tabs T H1 → H f = none → H1 f = some (LamO f ⟨X.env.qual ++ "<lambda>", params, body, scope, cloFrom X.env.cells scope.names [], c'⟩) → H1 c' = some (CodeO c' (X.env.qual ++ "<lambda>")) → Q (.ref f) s') :
    wpAny (model X.prog X.w) X.A (eval (.Lambda params body scope pos) X.env) Q E s := by
  obtain ⟨ps, hP, ht, ha⟩ := hT _ hm
  refine PySem.W.kla_eval hdef ?_
  have bP : s.heap.BuiltinsAt X.mg P := TB.bm.keeps I.bk
  have hP' : s.heap.get? P = some { cls := .none, data := .fields ps } := I.hok P _ hP
  cases hc : codeAmong pos ps.toList with
  | none =>
    refine PySem.W.kla_makeFunction (mg := X.mg) (c := c) (P := P) (ps := ps) (closure_ok hfree) I.ok.glob (I.mod.glob.keeps I.bk) hcode (TB.code.keeps I.bk) hP' ht hc TB.gP bP fun c' ctv h' tk hx hge hlt hrec htb => ?_
    obtain ⟨c2, oc, vs, t, e2, hoc, hd, hv⟩ := hrec
    cases e2
    have nC : H c' = none := I.hok.fresh hge
    have I1 := inv_table (t' := tk) (more := #[rawInt pos.line, rawInt pos.col, .ref c']) (h' := h') I hP (fun b o hb e => hx b o hb e) htb hge ⟨oc, vs, t, hoc, hd, hv⟩
    have hE : ExtN H (upd (upd H P (.tbl (ps ++ #[rawInt pos.line, rawInt pos.col, .ref c']))) c' (CodeO c' (X.env.qual ++ "<lambda>"))) := fun b o e n => by
      rw [upd_ne (ne_of_none e nC), upd_ne (fun z => n ps (Option.some.inj (e.symm.trans (by rw [z]; exact hP))))]
      exact e
    have eL : (ps ++ #[rawInt pos.line, rawInt pos.col, .ref c']).toList = ps.toList ++ [rawInt pos.line, rawInt pos.col, .ref c'] := by simp
    have T1 : Tabs T (upd (upd H P (.tbl (ps ++ #[rawInt pos.line, rawInt pos.col, .ref c']))) c' (CodeO c' (X.env.qual ++ "<lambda>"))) := fun p hp => by
      by_cases hb : p.1 = P
      · rw [hu p hp hb, hb]
        refine ⟨_, by rw [upd_ne (ne_of_none hP nC), upd_same], by rw [eL]; exact PySem.TriplesOk_snoc _ _ _ _ ht, fun p' cv hcv => ?_⟩
        rw [eL] at hcv
        rcases among_app _ ht hcv with z | z
        · obtain ⟨c0, e1, e2⟩ := ha p' cv z
          exact ⟨c0, e1, hE _ _ e2 codeO_ne⟩
        · exact ⟨c', z, upd_same⟩
      · obtain ⟨ps', a1, a2, a3⟩ := hT p hp
        refine ⟨ps', by rw [upd_ne (ne_of_none a1 nC), upd_ne hb]; exact a1, a2, fun p' cv hcv => ?_⟩
        obtain ⟨c0, e1, e2⟩ := a3 p' cv hcv
        exact ⟨c0, e1, hE _ _ e2 codeO_ne⟩
    have nF := I1.hok.fresh (Nat.le_refl _)
    have I2 := inv_lam (F := ⟨X.env.qual ++ "<lambda>", params, body, scope, cloFrom X.env.cells scope.names [], c'⟩) (t' := tk) (pm := (X.mg "__name__").getD .none) (ctv := ctv) I1
    refine h h'.objs.size c' _ _ I2 (fun b o e n => ?_) (fun b e => upd_none (upd_none (upd_none e))) (T1.ext fun b o e => ?_) (I.hok.fresh (Nat.le_trans hge (Nat.le_of_lt hlt))) upd_same ?_
    · have e1 := hE b o e n
      exact (upd_ne (ne_of_none e1 nF)).trans e1
    · exact (upd_ne (ne_of_none e nF)).trans e
    · exact (upd_ne (Nat.ne_of_lt hlt)).trans upd_same
  | some cv =>
    obtain ⟨c', e, hco⟩ := ha pos cv hc
    subst e
    refine PySem.W.kla_makeFunctionHit (mg := X.mg) (c := c) (P := P) (ps := ps) (closure_ok hfree) I.ok.glob (I.mod.glob.keeps I.bk) hcode (TB.code.keeps I.bk) hP' ht hc bP fun ctv h' tk hx hsz => ?_
    have I1 : Inv X pins σ H { s with heap := h', toks := tk } := I.kept hx
    have nF : H h'.objs.size = none := I1.hok.fresh (Nat.le_refl _)
    have I2 := inv_lam (F := ⟨X.env.qual ++ "<lambda>", params, body, scope, cloFrom X.env.cells scope.names [], c'⟩) (t' := tk) (pm := (X.mg "__name__").getD .none) (ctv := ctv) I1
    refine h h'.objs.size c' _ _ I2 (fun b o e n => ?_) (fun b e => upd_none e) (hT.ext fun b o e => ?_) nF upd_same ?_
    · exact (upd_ne (ne_of_none e nF)).trans e
    · exact (upd_ne (ne_of_none e nF)).trans e
    · exact (upd_ne (ne_of_none hco nF)).trans hco
end
/-! ### the expression -/
def tLamV (T : List (Addr × Str)) (mk : Addr → LF) : TE := fun σ H Q => Tabs T H ∧ ∀ (f c' : Addr) (H1 : Hp), ExtN H H1 → (∀ b, H1 b = none → H b = none) → Tabs T H1 → H f = none → H1 f = some (LamO f (mk c')) → H1 c' = some (CodeO c' (mk c').qual) → Q (.ref f) H1
section
variable {X : Cx}
theorem pe_lamV {T : List (Addr × Str)} {c P : Addr} {params : Arguments} {body : Expr} {scope : Scope} {pos : Pos} {q : Str} (TB : TabB X.base X.mg c P) (hcode : X.env.code = .ref c) (hq : X.env.qual ++ "<lambda>" = q)
    (hm : (P, q) ∈ T) (hu : ∀ p ∈ T, p.1 = P → p.2 = q) (hdef : defaultsOf params X.env = ([], [])) (hfree : ∀ y ∈ scope.names, y.2 ≠ .free) :
    PE X (.Lambda params body scope pos) (tLamV T fun c' => ⟨q, params, body, scope, [], c'⟩) := by
  subst hq
  refine ⟨fun pins s σ H Q I h => ?_⟩
  obtain ⟨hT, h⟩ := h
  have e : cloFrom X.env.cells scope.names [] = [] := by
    cases hcl : cloFrom X.env.cells scope.names [] with
    | nil => rfl
    | cons p r =>
      obtain ⟨y, c⟩ := p
      have hmem : (y, c) ∈ cloFrom X.env.cells scope.names [] := by rw [hcl]; exact List.mem_cons_self
      rcases cloFrom_mem hmem with z | ⟨z, _⟩
      · cases z
      · exact absurd rfl (hfree _ z)
  refine lam_makeT I TB hcode hm hu hT hdef (fun y hy z => absurd z (hfree y hy)) fun f c' H1 s' I1 eN nn T1 f0 f1 c1 => ?_
  rw [e] at f1
  exact ⟨.ref f, H1, I1, rfl, h f c' H1 eN nn T1 f0 f1 c1⟩
end
/-! ### its call -/
/-- what the lambda F promises (no captured names) -/
structure LOk (P : Program) (w : World) (K : PySem.W.Frag) (mg : Str → Option Value) (base : Heap) (CX : CXT) (k : Nat) (F : LF) (ps : List Str) (sp : Sp) : Prop where
  len : ∀ vs H Q E, sp vs H Q E → vs.length = ps.length
  run : ∀ (f : Addr) (A : Around) (outer : List Env) (s : Shared) (H : Hp) (us : List Value) (vs : List V) (Q : VK) (E : XK), Room k A → Env0 P w K mg base A outer s H → H f = some (LamO f F) → H F.c = some (CodeO F.c F.qual) →
    Vals vs us → sp vs H Q E → codeAny (model P w) A (.call (.ref f) ⟨us, []⟩) (CR CX outer P w H s Q E) s
def LF.nf (F : LF) : NF := ⟨"<lambda>", F.qual, F.params, [], F.scope, F.cl, F.c⟩
section
variable {CX : CXT} {P : Program} {w : World} {K : PySem.W.Frag} {mg : Str → Option Value} {base : Heap} {N ps : List Str} {F : LF} {k : Nat} {sp : Sp}
theorem lok_of (S : NScope N ps [] F.scope) (hcl : F.cl = []) (hb : ∀ (pm ctv : Value) (us : List Value), us.length = ps.length → bindArgs (PySem.W.kla_fn "<lambda>" F.qual F.params F.body F.scope F.cl pm (.ref F.c) ctv) ⟨us, []⟩ = pure (ps.zip us)) (len : ∀ vs H Q E, sp vs H Q E → vs.length = ps.length)
    (hbody : ∀ (f : Addr) (A : Around) (outer : List Env) (s : Shared) (H : Hp) (vs : List V) (Q : VK) (E : XK), Room k (A.deeper (envF F.nf f s.heap.objs.size)) → sp vs H Q E →
      ∃ t, PE (ncx CX P w K mg base N F.nf f A outer s H E) F.body t ∧ t (startF N vs []) H Q) :
    LOk P w K mg base CX (k + 1) F ps sp := by
  refine ⟨len, fun f A outer s H us vs Q E hr e0 hf hc r hsp => ?_⟩
  have hl := len _ _ _ _ hsp
  have lim : s.heap.NoLimit := e0.mod.nolimit.keeps fun b o e => (e0.bs b o e).1
  obtain ⟨pm, ctv, ho⟩ := lamO_at e0.hok hf
  refine PySem.W.kla_callFunE hr.depth ho rfl S.co S.gen rfl (codeO_at e0.hok hc) ?_
  rw [hb pm ctv us (by rw [← r.length]; exact hl)]
  refine wpAny_pure (wpAny_newFunctionEnv S.nocell (fun ⟨n, _⟩ hy => S.par n (List.of_mem_zip hy).1) (fun h₁ hns hsb => ⟨lim.fresh _ hsb, ?_⟩) S.kind)
  show codeAny _ _ (.expr F.body (envF F.nf f s.heap.objs.size)) _ _
  have kp : ∀ b o, s.heap.get? b = some o → h₁.get? b = some o := fun b o e => hsb.extBut b o (Nat.ne_of_lt (Heap.lt_size e)) (Heap.get?_push_of_some _ e)
  obtain ⟨t, ht, hq⟩ := hbody f A outer s H vs Q E (hr.deeper _) hsp
  have C : CellsAt F.nf.cl [] [] s.heap H := by
    show CellsAt F.cl [] [] s.heap H
    rw [hcl]
    exact { len := rfl, all := fun y c z => (nomatch (show (none : Option Addr) = some c from z)), inj := fun x y c z => (nomatch (show (none : Option Addr) = some c from z)), has := fun i y z => by simp at z }
  have I : Inv (ncx CX P w K mg base N F.nf f A outer s H E) [] (startF N vs []) H { s with heap := h₁, toks := s.toks + (ps.zip us).length } := inv_startN (F := F.nf) S hr.hd e0 hl r C hns kp
  refine PySem.W.kla_codeExpr (wpAny_mono (ht.run [] _ (startF N vs []) H Q I hq) (fun u s' hs => ?_) fun e s' hs => hs)
  obtain ⟨v, H', J, rv, q⟩ := hs
  exact ⟨v, H', J.os, J.bare, J.base, J.hok, rv, q⟩
end
/-- g(e, ..), g a local name that holds a lambda -/
def tCallLam (i : Nat) (S : LF → Option Sp) (E : XK) (t : TA) : TE := fun σ H Q => ∃ f F sp, σ[i]? = some (some (.ref f)) ∧ S F = some sp ∧ H f = some (LamO f F) ∧ t σ H fun vs H1 => H1 f = some (LamO f F) ∧ H1 F.c = some (CodeO F.c F.qual) ∧ sp vs H1 Q E
section
variable {X : Cx} {CX : CXT} {k i : Nat} {x : Str} {p pos : Pos} {e : Expr} {es : List Expr} {t : TA} {ps : List Str} {S : LF → Option Sp} {E : XK}
theorem pe_callLam (A : ∀ F sp, S F = some sp → LOk X.prog X.w X.K X.mg X.base CX k F ps sp) (hr : Room k X.A) (hx : Passes CX X E) (hN : X.N[i]? = some x) (hv : Vis X.env.scope x) (ha : PA X (e :: es) t)
    (hd : (x == ("__debug__" : Str)) = false := by decide) (hcd : (x == ("__classdict__" : Str)) = false := by decide)
    (he : starEach (e :: es) X.env = (false, eval e X.env) :: starEach es X.env := by rfl) (hpl : (backTo pos (starEach es X.env)).any (·.1) = false := by rfl) :
    PE X (.Call (.Name x p) (e :: es) [] pos) (tCallLam i S E t) := by
  refine ⟨fun pins s σ H Q I h => ?_⟩
  obtain ⟨f, F, sp, hs, hS, hf, ht⟩ := h
  refine wpAny_Call_Name_kw (thn ((pe_var (pos := p) (i := i) hN hv hd hcd).run pins s σ H (fun v H1 => v = .ref f ∧ H1 = H) I ⟨.ref f, hs, rfl, rfl⟩) fun u s1 ⟨v, H1, I1, r1, ev, eH⟩ => ?_)
  subst ev
  rw [eH] at I1
  obtain rfl : u = Value.ref f := r1
  obtain ⟨pm0, ctv0, ho0⟩ := lamO_at I1.hok hf
  refine PySem.W.callWith_F ⟨_, _, _, _, ho0⟩ (thn (ha.run pos pins s1 σ H _ I1 ht) fun us s2 ⟨vs, H2, I2, r2, hf2, hc2, hsp⟩ => ?_) he hpl
  obtain ⟨pm1, ctv1, ho1⟩ := lamO_at I2.hok hf2
  refine ⟨⟨_, _, _, _, ho1⟩, wpAny_call (codeAny_mono ((A F sp hS).run f X.A X.stack s2 H2 us vs Q E hr I2.env0 hf2 hc2 r2 hsp) fun r s' hq => ?_)⟩
  cases r with
  | error e => exact hx pins σ H2 s2 e s' I2 hq
  | ok fl =>
    cases fl with
    | ret u => exact I2.after hq
    | next => exact False.elim hq
    | brk => exact False.elim hq
    | cont => exact False.elim hq
end
end LmV
/-! text W6 -/
set_option Elab.async false
set_option linter.all false
set_option maxHeartbeats 1000000
set_option maxRecDepth 100000
/-! sorted(xs, key=lambda one: (len(one), one)) over the layer, xs lists of texts -/
namespace Dw
open PySem PySem.Spec PyProof.Rows L2 Evl PySem.W DV LmV LamX NdefX
def keyD (x : List Str) : PyData := .tuple [.int x.length, Datum.toD x]
def leK : List Str → List Str → Bool := dataLe false keyD
def srtK (xs : List (List Str)) : List (List Str) := xs.mergeSort leK
/-- F is that lambda -/
structure LnF (F : LF) : Prop where
  sc : F.scope = lnSc
  cl : F.cl = []
  ps : ∃ p, F.params = lnPar p
  bd : ∃ p1 p2 p3 p4 p5 x1, F.body = lnBody p1 p2 p3 p4 p5 x1
def rSortedKeyW (K : PySem.W.Frag) : List V → List V → Hp → VK → Prop := fun vs zs H Q => ∃ (a f : Addr) (F : LF) (xs : List (List Str)) (A : Hp), vs = [.ref a] ∧ zs = [.ref f] ∧ LnF F ∧ H f = some (LamO f F) ∧ H F.c = some (CodeO F.c F.qual) ∧ (∀ b o, A b = some o → H b = some o) ∧ rep A (.ref a) xs ∧
  ∀ p ws, H p = none → Reps A ws (srtK xs) → Q (.ref p) (upd H p (.lst ws))
theorem cr_sortedKeyW {X : Cx} (hr : Room 1 X.A) (hm : X.mg "len" = none) : CallRK X (.builtin "sorted") [Str.ofString "key"] (rSortedKeyW X.K) := by
  intro pins s σ H vs zs us ws Q I r rz h
  obtain ⟨a, f, F, xs, A, rfl, rfl, ⟨sc, cl, ⟨p0, pp⟩, p1, p2, p3, p4, p5, x1, bd⟩, hf, hc, eA, ⟨a', vs', e, hl, hv⟩, q⟩ := h
  cases e
  obtain ⟨its, rv, pl, hz⟩ := I.list (sq_of (eA _ _ hl))
  obtain ⟨u, rfl, ru⟩ := vals1 r
  obtain rfl : u = Value.ref a := ru
  obtain ⟨u2, rfl, ru2⟩ := vals1 rz
  obtain rfl : u2 = Value.ref f := ru2
  have e1 := each_of hv (show Vals vs' its from rv)
  obtain ⟨pm, ctv, ho⟩ := lamO_at I.hok hf
  obtain ⟨qual, params, body, scope, clo, c⟩ := F
  dsimp only at sc cl pp bd ho hc
  subst sc cl pp bd
  have cr := codeO_at I.hok hc
  obtain ⟨mb, hb1, hb2⟩ := I.mod.blt
  show wpAny _ _ (call (.builtin "sorted") [.ref a] [(Str.ofString "key", .ref f)]) _ _ _
  refine sorted_key_old (bs := xs) (R := fun u x => ∃ v, RelV v u ∧ rep A v x) keyD pl.isList e1 (AllAlike.of fun b b' => ?_) (Sortable.tuples fun b => ⟨_, _, rfl⟩) (by rw [← Reps.len hv]; exact hz) (fun x _ => ?_) (fun v x hR hx g t kp => ?_) fun out c' g t kp hg eo => ?_
  · simp [keyD, alike, alikeAll, DatumOrd.alike]
  · have d1 := Datum.depth_le x
    have d2 : Datum.depth (List Str) = 1 := rfl
    have d3 := hr.un
    have d4 : (keyD x).depth = (Datum.toD x).depth + 1 := by simp [keyD, PyData.depth, PyData.depthAll]
    omega
  · obtain ⟨v', rv', a2, vs2, rfl, hl2, hv2⟩ := hR
    cases rv'
    obtain ⟨its2, rv2, pl2, hz2⟩ := I.list (sq_of (eA _ _ hl2))
    have keepL : ∀ {l : Addr} {z : Array Value}, s.heap.IsList l z → g.IsList l z := fun ⟨o, z1, z2, z3⟩ => ⟨o, kp _ _ z1, z2, z3⟩
    have I2 : Inv X pins σ H { s with heap := g, toks := t } := I.kept (t' := t) kp
    refine lam_key (A := X.A.in1.in1) (s := { s with heap := g, toks := t }) (its := its2.toArray) (mg := X.mg) (mb := mb) hr.depth (kp _ _ ho) (codeO_at I2.hok hc) (I.mod.glob.keeps fun b o z => kp b o (I.bk b o z)) hm (hb1.keeps fun b o z => kp b o (I.bk b o z)) ((hb2 "len" (by decide)).trans (by decide +kernel)) (I.mod.nolimit.keeps fun b o z => kp b o (I.bk b o z)) (keepL pl2.isList) ?_ fun g2 t2 t0 kg => ?_
    · rw [List.size_toArray, ← rv2.length]
      have z : sizeLine ≤ 2 ^ 62 := by decide
      have z2 : (vs2.length : Int) ≤ (2 ^ 62 : Nat) := by exact_mod_cast Nat.le_trans hz2 z
      have z3 : ((2 ^ 62 : Nat) : Int) < 2 ^ 63 := by decide
      omega
    · have hx1 : rep H (.ref a2) x := DV.ext eA ⟨a2, vs2, rfl, hl2, hv2⟩
      have hx2 : Holds s.heap (.ref a2) x := DV.holds I hx1 rfl
      obtain ⟨as, ra⟩ := hx2
      have kall : ∀ b o, s.heap.get? b = some o → (g2.push { cls := .type "tuple", data := .seq #[.int its2.toArray.size t0, .ref a2] }).get? b = some o := fun b o z => Heap.get?_push_of_some _ (kg b o (kp b o z))
      have en : (its2.toArray.size : Int) = (x.length : Int) := by rw [List.size_toArray, ← rv2.length, Reps.len hv2]
      refine ⟨_, _, rfl, fun b o z => Heap.get?_push_of_some _ (kg b o z), [] ++ (as ++ []), ?_, fun y hy => PyProof.On.reads_mem_get ra y (by simpa using hy)⟩
      refine .tuple (Heap.get?_push_size _ rfl) rfl rfl ?_
      rw [← en]
      exact .cons (.int _ t0) (.cons (PyProof.Rows.Reads.keeps kall ra) .nil)
  · obtain ⟨ws, r1, r2⟩ := of_each eo
    have fr : H (s.heap.objs.size + 1) = none := I.hok.fresh (Nat.le_succ _)
    refine ⟨.ref (s.heap.objs.size + 1), upd H (s.heap.objs.size + 1) (.lst ws), I.laid (t' := t) kp (Nat.le_succ _) ⟨?_, out, c', r1, hg⟩, rfl, q _ _ fr r2⟩
    rw [Reps.len r2]
    show (xs.mergeSort leK).length ≤ _
    rw [List.length_mergeSort, ← Reps.len hv]
    exact hz
end Dw
/-! text W7 -/
set_option Elab.async false
set_option linter.all false
set_option maxHeartbeats 1000000
/-! what a reading evaluates to, typed -/
namespace Dw
open PySem PySem.Spec PyProof.Rows L2 Evl PySem.W DV
/-- what a result stands on: things that are known at H, or new since H1 -/
structure Sup (H H1 H2 Hs : Hp) : Prop where
  e : Ex Hs H2
  o : ∀ b u, Hs b = some u → H b = some u ∨ H1 b = none
/-- two parts of one heap, joined -/
def jn (A B : Hp) : Hp := fun b => match A b with
  | some o => some o
  | none => B b
theorem jn_l {A B : Hp} : Ex A (jn A B) := fun b o h => by
  unfold jn
  rw [h]
theorem jn_of {A B : Hp} {b : Addr} {o : HO} (h : jn A B b = some o) : A b = some o ∨ B b = some o := by
  unfold jn at h
  cases e : A b with
  | some u =>
    rw [e] at h
    exact .inl h
  | none =>
    rw [e] at h
    exact .inr h
theorem jn_r {A B H : Hp} (a : Ex A H) (b : Ex B H) : Ex B (jn A B) := fun c o h => by
  unfold jn
  cases e : A c with
  | some u =>
    have q := (a _ _ e).symm.trans (b _ _ h)
    exact q
  | none => exact h
theorem jn_ex {A B H : Hp} (a : Ex A H) (b : Ex B H) : Ex (jn A B) H := fun c o h => (jn_of h).elim (a c o) (b c o)
section
variable {α β γ : Type} [DecidableEq α] [Datum α] [DV α] [DecidableEq β] [Datum β] [DV β] [DecidableEq γ] [Datum γ] [DV γ] {K : PySem.W.Frag} {σ : L2.St} {H H' : Hp} {te ta tb : TE} {tt : TT}
/-- te goes on with something that stands for x -/
def EvD (te : TE) (σ : L2.St) (H : Hp) (x : α) : Prop := ∀ H1, Ex H H1 → ∀ Q : VK, (∀ v H2 Hs, Ex H1 H2 → Sup H H1 H2 Hs → rep Hs v x → Q v H2) → te σ H1 Q
theorem EvD.mono {x : α} (e : Ex H H') (h : EvD te σ H x) : EvD te σ H' x := fun H1 a Q q => h H1 (e.trans a) Q fun v H2 Hs e2 s r => q v H2 Hs e2 ⟨s.e, fun b u z => (s.o b u z).elim (fun y => .inl (e b u y)) .inr⟩ r
theorem ed_var {i : Nat} {v : V} {x : α} (h : σ[i]? = some (some v)) (r : rep H v x) : EvD (tVar i) σ H x := fun H1 e _ q => ⟨v, h, q v H1 H (Ex.refl H1) ⟨e, fun b u z => .inl z⟩ r⟩
theorem sup0 {H H1 : Hp} : Sup H H1 H1 (fun _ => none) := ⟨fun b o h => (by cases h), fun b u h => (by cases h)⟩
theorem ed_str {x : Str} : EvD (tC (.str x)) σ H x := fun H1 _ _ q => q _ H1 _ (Ex.refl H1) sup0 rfl
theorem ed_int {x : Int} : EvD (tC (.int x)) σ H x := fun H1 _ _ q => q _ H1 _ (Ex.refl H1) sup0 rfl
theorem ed_is {x y : α} (h : EvD te σ H x) (e : x = y) : EvD te σ H y := by
  rw [← e]
  exact h
/-- as the plain calculus says it: the heap as a whole -/
theorem EvD.go {x : α} (h : EvD te σ H x) {H1 : Hp} (e : Ex H H1) {Q : VK} (q : ∀ v H2, Ex H1 H2 → rep H2 v x → Q v H2) : te σ H1 Q := h H1 e Q fun v H2 Hs e2 s r => q v H2 e2 (DV.ext s.e r)
theorem ev_ltD {α : Type} [DecidableEq α] [DatumOrd α] [DV α] {x y : α} (ha : EvD ta σ H x) (hb : EvD tb σ H y) : Ev (tOp (rLtW α) ta tb) σ H (.bl (DatumOrd.lt x y)) := fun H1 e Q q =>
  ha.go e fun v H2 e2 r => hb.go (e.trans e2) fun u H3 e3 r2 => ⟨x, y, DV.ext e3 r, r2, q H3 (e2.trans e3)⟩
theorem ev_eqD {x y : α} (ha : EvD ta σ H x) (hb : EvD tb σ H y) : Ev (tOp (rEqW α false) ta tb) σ H (.bl (decide (x = y))) := fun H1 e Q q =>
  ha.go e fun v H2 e2 r => hb.go (e.trans e2) fun u H3 e3 r2 => ⟨x, y, DV.ext e3 r, r2, q H3 (e2.trans e3)⟩
theorem ev_neD {x y : α} (ha : EvD ta σ H x) (hb : EvD tb σ H y) : Ev (tOp (rEqW α true) ta tb) σ H (.bl (decide (x ≠ y))) := fun H1 e Q q =>
  ha.go e fun v H2 e2 r => hb.go (e.trans e2) fun u H3 e3 r2 => ⟨x, y, DV.ext e3 r, r2, q H3 (e2.trans e3)⟩
theorem ev_inD {x : α} {xs : List α} (ha : EvD ta σ H x) (hb : EvD tb σ H xs) : Ev (tOp (rInW α false) ta tb) σ H (.bl (decide (x ∈ xs))) := fun H1 e Q q =>
  ha.go e fun v H2 e2 r => hb.go (e.trans e2) fun u H3 e3 r2 => ⟨x, xs, DV.ext e3 r, r2, q H3 (e2.trans e3)⟩
theorem ev_notInD {x : α} {xs : List α} (ha : EvD ta σ H x) (hb : EvD tb σ H xs) : Ev (tOp (rInW α true) ta tb) σ H (.bl (decide (x ∉ xs))) := fun H1 e Q q =>
  ha.go e fun v H2 e2 r => hb.go (e.trans e2) fun u H3 e3 r2 => ⟨x, xs, DV.ext e3 r, r2, q H3 (e2.trans e3)⟩
/-- a comprehension over a typed list: g says what an item gives, f which items are taken -/
theorem ed_lc {xs : List α} {tl : TE} {j : Nat} {vs : List Nat} (f : α → Bool) (g : α → β) (h : EvD tl σ H xs) (hz : xs.length ≤ 40000) (hw : ∀ x, wipe ((wipe σ vs).set j (some x)) vs = wipe σ vs)
    (ht : ∀ (x : α) (v : V) H1, Ex H H1 → x ∈ xs → rep H1 v x → EvT tt ((wipe σ vs).set j (some v)) H1 (f x)) (he : ∀ (x : α) (v : V) H1, Ex H H1 → x ∈ xs → rep H1 v x → f x = true → EvD te ((wipe σ vs).set j (some v)) H1 (g x)) :
    EvD (tLc (iList K tl) (gName j) tt te vs) σ H ((xs.filter f).map g) := fun H1 e Q q => h H1 e _ fun v H2 Hs e2 sp r => by
  obtain ⟨a, us, rfl, h1, h2⟩ := r
  have len := Reps.len h2
  have ha := sp.e _ _ h1
  -- the base of the turns: what is known, with what the list stands on
  have eB : Ex (jn H Hs) H2 := jn_ex (e.trans e2) sp.e
  refine ⟨a, rfl, ⟨us, sq_of ha⟩, fun D hD => ?_⟩
  have hBD : jn H Hs D = none := by
    cases z : jn H Hs D with
    | none => rfl
    | some o =>
      rw [eB _ _ z] at hD
      cases hD
  refine lc_list (xs := us) (fun i H' => H2 D = none ∧ Ex H2 H' ∧ ∃ ws Hw, H' D = some (.lst ws) ∧ Ex Hw H' ∧ (∀ b u, Hw b = some u → b ≠ D ∧ (H b = some u ∨ H1 b = none)) ∧ Reps Hw ws (((xs.take i).filter f).map g)) ⟨hD, Ex.new hD, [], fun _ => none, upd_same, fun _ _ z => (by cases z), fun _ _ z => (by cases z), .nil⟩ (fun i H' _ p => sq_of (p.2.1 _ _ ha)) (fun i v H' hi p => ?_) (fun H' p => ?_)
  · obtain ⟨p1, p2, ws, Hw, p3, p4, p5, p6⟩ := p
    obtain ⟨li, _⟩ := List.getElem?_eq_some_iff.mp hi
    have hx : xs[i]? = some xs[i] := List.getElem?_eq_getElem (by omega)
    have rs : rep Hs v xs[i] := Reps.at h2 hi hx
    have rB : rep (jn H Hs) v xs[i] := DV.ext (jn_r (e.trans e2) sp.e) rs
    have mx : xs[i] ∈ xs := List.mem_of_getElem? hx
    refine ⟨hw v, ht _ v (jn H Hs) jn_l mx rB H' (eB.trans p2) _ fun H3 e3 => ?_⟩
    cases hf : f xs[i] with
    | true =>
      show te _ H3 fun y H4 => ∃ acc, H4 D = some (.lst acc) ∧ acc.length < sizeLine ∧ _
      refine he _ v (jn H Hs) jn_l mx rB hf H3 ((eB.trans p2).trans e3) _ fun y H4 Hy e4 sy r4 => ⟨ws, e4 _ _ (e3 _ _ p3), ?_, p1, ((p2.trans e3).trans e4).mut p1, ws ++ [y], jn Hw Hy, upd_same, ?_, ?_, ?_⟩
      · have l4 := Reps.len p6
        rw [List.length_map] at l4
        have l5 := List.length_filter_le f (xs.take i)
        rw [List.length_take] at l5
        exact sz_lt (by omega)
      · intro b u z
        have nD : b ≠ D := by
          rcases jn_of z with y | y
          · exact (p5 b u y).1
          · intro q
            rw [q] at y
            rcases sy.o D u y with w | w
            · rw [hBD] at w
              cases w
            · rw [e3 _ _ p3] at w
              cases w
        rw [upd_ne nD]
        rcases jn_of z with y | y
        · exact e4 _ _ (e3 _ _ (p4 _ _ y))
        · exact sy.e _ _ y
      · intro b u z
        rcases jn_of z with y | y
        · exact p5 b u y
        · refine ⟨fun q => ?_, ?_⟩
          · rw [q] at y
            rcases sy.o D u y with w | w
            · rw [hBD] at w
              cases w
            · rw [e3 _ _ p3] at w
              cases w
          · rcases sy.o b u y with w | w
            · rcases jn_of w with m | m
              · exact .inl m
              · exact sp.o b u m
            · right
              cases m : H1 b with
              | none => rfl
              | some o =>
                rw [e3 _ _ (p2 _ _ (e2 _ _ m))] at w
                cases w
      · have t1 : ((xs.take (i + 1)).filter f).map g = ((xs.take i).filter f).map g ++ [g xs[i]] := by
          rw [List.take_add_one, hx, List.filter_append, List.map_append]
          simp [hf]
        rw [t1]
        have q1 : Ex Hw H4 := (p4.trans e3).trans e4
        exact Reps.app (Reps.ext jn_l p6) (.cons (DV.ext (jn_r q1 sy.e) r4) .nil)
    | false =>
      show _ ∧ _
      refine ⟨p1, p2.trans e3, ws, Hw, e3 _ _ p3, p4.trans e3, p5, ?_⟩
      have t1 : ((xs.take (i + 1)).filter f).map g = ((xs.take i).filter f).map g := by
        rw [List.take_add_one, hx, List.filter_append]
        simp [hf]
      rw [t1]
      exact p6
  · obtain ⟨p1, p2, ws, Hw, p3, p4, p5, p6⟩ := p
    rw [List.take_of_length_le (by omega)] at p6
    have nw : Hw D = none := by
      cases z : Hw D with
      | none => rfl
      | some o => exact absurd rfl (p5 D o z).1
    refine q _ H' (upd Hw D (.lst ws)) (e2.trans p2) ⟨fun b u z => ?_, fun b u z => ?_⟩ ⟨D, ws, rfl, upd_same, Reps.ext (Ex.new nw) p6⟩
    · by_cases y : b = D
      · rw [y, upd_same] at z
        rw [y, p3]
        exact z
      · rw [upd_ne y] at z
        exact p4 _ _ z
    · by_cases y : b = D
      · right
        rw [y]
        cases m : H1 D with
        | none => rfl
        | some o =>
          rw [e2 _ _ m] at p1
          cases p1
      · rw [upd_ne y] at z
        exact (p5 b u z).2
end
end Dw
/-! text W8 -/
set_option Elab.async false
set_option linter.all false
set_option maxHeartbeats 1000000
/-! the typed calculus: truth values, all, any, len, sorted, displays, calls -/
namespace Dw
open PySem PySem.Spec PyProof.Rows L2 Evl PySem.W DV
instance : DV Bool where
  rep _ v x := v = .bl x
  holds := fun _ h r => by
    subst h
    cases r
    exact holds_bool _
  ext := fun _ h => h
theorem reps_bl {H : Hp} : ∀ {vs : List V} {bs : List Bool}, Reps H vs bs → vs = bs.map V.bl
  | _, _, .nil => rfl
  | _, _, .cons h r => by
    rw [List.map_cons, ← reps_bl r]
    exact congrArg (· :: _) h
theorem reps_str {H : Hp} : ∀ {vs : List V} {bs : List Str}, Reps H vs bs → vs = bs.map V.str
  | _, _, .nil => rfl
  | _, _, .cons h r => by
    rw [List.map_cons, ← reps_str r]
    exact congrArg (· :: _) h
section
variable {α β γ : Type} [DecidableEq α] [Datum α] [DV α] [DecidableEq β] [Datum β] [DV β] [DecidableEq γ] [Datum γ] [DV γ] {K : PySem.W.Frag} {σ : L2.St} {H H' : Hp} {te ta tb : TE} {tt : TT}
theorem ed_bl {b : Bool} (h : Ev te σ H (.bl b)) : EvD te σ H b := fun H1 e _ q => h H1 e _ fun H2 e2 => q _ H2 (fun _ => none) e2 ⟨fun _ _ z => (by cases z), fun _ _ z => (by cases z)⟩ rfl
theorem ev_of {b : Bool} (h : EvD te σ H b) : Ev te σ H (.bl b) := fun H1 e Q q => h.go e fun v H2 e2 r => by
  have r' : v = V.bl b := r
  rw [r']
  exact q H2 e2
theorem ev_allD {bs : List Bool} (h : EvD te σ H bs) : Ev (tCB (rAll K) (tCons te tNil)) σ H (.bl (bs.all id)) := fun H1 e Q q => h.go e fun v H2 e2 r => by
  obtain ⟨a, vs, rfl, h1, h2⟩ := r
  rw [reps_bl h2] at h1
  exact ⟨a, bs, rfl, sq_of h1, q H2 e2⟩
theorem ev_anyD {bs : List Bool} (h : EvD te σ H bs) : Ev (tCB (rAny K) (tCons te tNil)) σ H (.bl (bs.any id)) := fun H1 e Q q => h.go e fun v H2 e2 r => by
  obtain ⟨a, vs, rfl, h1, h2⟩ := r
  rw [reps_bl h2] at h1
  exact ⟨a, bs, rfl, sq_of h1, q H2 e2⟩
theorem ev_lenD {xs : List α} (h : EvD te σ H xs) : Ev (tCB (rLenS K) (tCons te tNil)) σ H (.int (xs.length : Int)) := fun H1 e Q q => h.go e fun v H2 e2 r => by
  obtain ⟨a, vs, rfl, h1, h2⟩ := r
  refine ⟨a, vs, rfl, .inl (sq_of h1), ?_⟩
  rw [Reps.len h2]
  exact q H2 e2
/-- typed arguments, from the left -/
def EvDA (ta : TA) (σ : L2.St) (H : Hp) (xs : List α) : Prop := ∀ H1, Ex H H1 → ∀ Q : List V → Hp → Prop, (∀ vs H2 Hs, Ex H1 H2 → Sup H H1 H2 Hs → Reps Hs vs xs → Q vs H2) → ta σ H1 Q
theorem Sup.join {H H1 H2 H3 A B : Hp} (e1 : Ex H H1) (e2 : Ex H1 H2) (e3 : Ex H2 H3) (s : Sup H H1 H2 A) (t : Sup H H2 H3 B) : Sup H H1 H3 (jn A B) := ⟨jn_ex (s.e.trans e3) t.e, fun b u z => by
  rcases jn_of z with y | y
  · exact s.o b u y
  · rcases t.o b u y with w | w
    · exact .inl w
    · right
      cases m : H1 b with
      | none => rfl
      | some o =>
        rw [e2 _ _ m] at w
        cases w⟩
theorem eda_nil : EvDA (α := α) tNil σ H [] := fun H1 _ _ q => q [] H1 _ (Ex.refl H1) sup0 .nil
theorem eda_cons {x : α} {xs : List α} {tr : TA} (h : EvD te σ H x) (hr : EvDA tr σ H xs) : EvDA (tCons te tr) σ H (x :: xs) := fun H1 e Q q =>
  h H1 e _ fun v H2 A e2 s r => hr H2 (e.trans e2) _ fun vs H3 B e3 t rs => q (v :: vs) H3 (jn A B) (e2.trans e3) (s.join e e2 e3 t) (.cons (DV.ext jn_l r) (Reps.ext (jn_r (s.e.trans e3) t.e) rs))
/-- a list display -/
theorem ed_lst {xs : List α} {ta : TA} (h : EvDA ta σ H xs) (hl : xs.length ≤ 100000) : EvD (tLst ta) σ H xs := fun H1 e Q q => h H1 e _ fun vs H2 A e2 s r => by
  refine ⟨by rw [Reps.len r]; exact sz_of hl, fun p np => ?_⟩
  have nA : A p = none := by
    cases z : A p with
    | none => rfl
    | some o =>
      rw [s.e _ _ z] at np
      cases np
  refine q _ _ (upd A p (.lst vs)) (e2.trans (Ex.new np)) ⟨fun b u z => ?_, fun b u z => ?_⟩ ⟨p, vs, rfl, upd_same, Reps.ext (Ex.new nA) r⟩
  · by_cases y : b = p
    · rw [y, upd_same] at z ⊢
      exact z
    · rw [upd_ne y] at z ⊢
      exact s.e _ _ z
  · by_cases y : b = p
    · right
      rw [y]
      cases m : H1 p with
      | none => rfl
      | some o =>
        rw [e2 _ _ m] at np
        cases np
    · rw [upd_ne y] at z
      exact s.o b u z
/-- a pair display -/
theorem ed_pair {x : α} {y : β} (h : EvD ta σ H x) (h' : EvD tb σ H y) : EvD (tTup (tCons ta (tCons tb tNil))) σ H (x, y) := fun H1 e Q q => h H1 e _ fun v H2 A e2 s r => h' H2 (e.trans e2) _ fun u H3 B e3 t r' => by
  refine ⟨by show 2 ≤ sizeLine; decide, fun p np => ?_⟩
  have sj := s.join e e2 e3 t
  have nA : jn A B p = none := by
    cases z : jn A B p with
    | none => rfl
    | some o =>
      rw [sj.e _ _ z] at np
      cases np
  refine q _ _ (upd (jn A B) p (.tup [v, u])) ((e2.trans e3).trans (Ex.new np)) ⟨fun b w z => ?_, fun b w z => ?_⟩ ⟨p, v, u, rfl, upd_same, DV.ext (jn_l.trans (Ex.new nA)) r, DV.ext ((jn_r (s.e.trans e3) t.e).trans (Ex.new nA)) r'⟩
  · by_cases y : b = p
    · rw [y, upd_same] at z ⊢
      exact z
    · rw [upd_ne y] at z ⊢
      exact sj.e _ _ z
  · by_cases y : b = p
    · right
      rw [y]
      cases m : H1 p with
      | none => rfl
      | some o =>
        rw [e3 _ _ (e2 _ _ m)] at np
        cases np
    · rw [upd_ne y] at z
      exact sj.o b w z
end
end Dw
/-! text W9 -/
set_option Elab.async false
set_option linter.all false
set_option maxHeartbeats 1000000
/-! typed promises of defs, their calls -/
namespace Dw
open PySem PySem.Spec PyProof.Rows L2 Evl PySem.W DV
section
variable {α β γ : Type} [DecidableEq α] [Datum α] [DV α] [DecidableEq β] [Datum β] [DV β] [DecidableEq γ] [Datum γ] [DV γ] {K : PySem.W.Frag} {σ : L2.St} {H H' A : Hp} {te ta tb : TE} {D : Ends}
/-- the end of a def that tells x: on what was handed in (A), or new -/
def EndD (A H : Hp) (x : γ) (Q : VK) : Prop := ∀ u H' Hs, Ex H H' → Sup A H H' Hs → rep Hs u x → Q u H'
def sp1 (P : α → Prop) (f : α → γ) : Sp := fun vs H Q _ => ∃ v x A, vs = [v] ∧ Ex A H ∧ rep A v x ∧ P x ∧ EndD A H (f x) Q
def sp2 (P : α → β → Prop) (f : α → β → γ) : Sp := fun vs H Q _ => ∃ v u x y A, vs = [v, u] ∧ Ex A H ∧ rep A v x ∧ rep A u y ∧ P x y ∧ EndD A H (f x y) Q
theorem Sup.deep {H H1 H2 H3 A Hs : Hp} (e2 : Ex H1 H2) (s : Sup H H1 H2 A) (t : Sup A H2 H3 Hs) : Sup H H1 H3 Hs := ⟨t.e, fun b u z => by
  rcases t.o b u z with y | y
  · exact s.o b u y
  · right
    cases m : H1 b with
    | none => rfl
    | some o =>
      rw [e2 _ _ m] at y
      cases y⟩
theorem ed_call1 {P : α → Prop} {f : α → γ} {E : XK} {x : α} (h : EvD ta σ H x) (hP : P x) : EvD (tCall (sp1 P f) [] E (tCons ta tNil)) σ H (f x) := fun H1 e Q q => h H1 e _ fun v H2 A e2 s r =>
  ⟨v, x, A, rfl, s.e, r, hP, fun u H3 Hs e3 t r3 => q u H3 Hs (e2.trans e3) (s.deep e2 t) r3⟩
theorem ed_call2 {P : α → β → Prop} {f : α → β → γ} {E : XK} {x : α} {y : β} (h : EvD ta σ H x) (h' : EvD tb σ H y) (hP : P x y) : EvD (tCall (sp2 P f) [] E (tCons ta (tCons tb tNil))) σ H (f x y) := fun H1 e Q q =>
  h H1 e _ fun v H2 A e2 s r => h' H2 (e.trans e2) _ fun u H3 B e3 t r' => by
    have sj := s.join e e2 e3 t
    exact ⟨v, u, x, y, jn A B, rfl, sj.e, DV.ext jn_l r, DV.ext (jn_r (s.e.trans e3) t.e) r', hP, fun z H4 Hs e4 w r4 => q z H4 Hs ((e2.trans e3).trans e4) (sj.deep (e2.trans e3) w) r4⟩
/-- return -/
theorem s_retD {x : γ} (h : EvD te σ A x) (eA : Ex A H) (k : EndD A H x D.rt) : tRet te D σ H := h H eA _ k
end
end Dw
/-! text W10 -/
set_option Elab.async false
set_option linter.all false
set_option maxHeartbeats 1000000
/-! typed: parts of a pair, list(xs) -/
namespace Dw
open PySem PySem.Spec PyProof.Rows L2 Evl PySem.W DV
section
variable {α β γ : Type} [DecidableEq α] [Datum α] [DV α] [DecidableEq β] [Datum β] [DV β] [DecidableEq γ] [Datum γ] [DV γ] {K : PySem.W.Frag} {σ : L2.St} {H H' A : Hp} {te ta tb : TE} {D : Ends}
theorem ed_fst {p : α × β} (h : EvD te σ H p) : EvD (tOp (rIxT K) te (tC (.int 0))) σ H p.1 := fun H1 e Q q => h H1 e _ fun v H2 A e2 s r => by
  obtain ⟨a, u, w, rfl, h1, h2, h3⟩ := r
  exact ⟨a, [u, w], 0, u, rfl, rfl, st_of (s.e _ _ h1), rfl, q u H2 A e2 s h2⟩
theorem ed_snd {p : α × β} (h : EvD te σ H p) : EvD (tOp (rIxT K) te (tC (.int 1))) σ H p.2 := fun H1 e Q q => h H1 e _ fun v H2 A e2 s r => by
  obtain ⟨a, u, w, rfl, h1, h2, h3⟩ := r
  exact ⟨a, [u, w], 1, w, rfl, rfl, st_of (s.e _ _ h1), rfl, q w H2 A e2 s h3⟩
theorem sup_new {H H1 H2 A : Hp} {p : Addr} {o : HO} (e2 : Ex H1 H2) (s : Sup H H1 H2 A) (np : H2 p = none) : Sup H H1 (upd H2 p o) (upd A p o) := ⟨fun b u z => by
  by_cases y : b = p
  · rw [y, upd_same] at z ⊢
    exact z
  · rw [upd_ne y] at z ⊢
    exact s.e _ _ z, fun b u z => by
  by_cases y : b = p
  · right
    rw [y]
    cases m : H1 p with
    | none => rfl
    | some o =>
      rw [e2 _ _ m] at np
      cases np
  · rw [upd_ne y] at z
    exact s.o b u z⟩
theorem sup_no {H H1 H2 A : Hp} {p : Addr} (s : Sup H H1 H2 A) (np : H2 p = none) : A p = none := by
  cases z : A p with
  | none => rfl
  | some o =>
    rw [s.e _ _ z] at np
    cases np
theorem ed_list {xs : List α} (h : EvD te σ H xs) : EvD (tCB (rListS K) (tCons te tNil)) σ H xs := fun H1 e Q q => h H1 e _ fun v H2 A e2 s r => by
  obtain ⟨a, vs, rfl, h1, h2⟩ := r
  refine ⟨a, vs, rfl, .inl (sq_of (s.e _ _ h1)), fun p np => ?_⟩
  exact q _ _ (upd A p (.lst vs)) (e2.trans (Ex.new np)) (sup_new e2 s np) ⟨p, vs, rfl, upd_same, Reps.ext (Ex.new (sup_no s np)) h2⟩
end
end Dw
/-! text W11 -/
set_option Elab.async false
set_option linter.all false
set_option maxHeartbeats 1000000
/-! one shape in two heaps; typed data by it -/
namespace Dw
open PySem PySem.Spec PyProof.Rows L2 Evl PySem.W DV
def atomV : V → Bool
  | .non => true
  | .bl _ => true
  | .int _ => true
  | .str _ => true
  | _ => false
/-- v in A and u in B are the same throughout, of so many depths -/
def Tw (A B : Hp) : Nat → V → V → Prop
  | 0 => fun _ _ => False
  | d + 1 => fun v u => (v = u ∧ atomV v = true) ∨ (∃ a b xs ys, v = .ref a ∧ u = .ref b ∧ A a = some (.lst xs) ∧ B b = some (.lst ys) ∧ xs.length ≤ 1000 ∧ Paired (Tw A B d) xs ys) ∨
    (∃ a b xs ys, v = .ref a ∧ u = .ref b ∧ A a = some (.tup xs) ∧ B b = some (.tup ys) ∧ xs.length ≤ 1000 ∧ Paired (Tw A B d) xs ys) ∨
    (∃ a b kvs, v = .ref a ∧ u = .ref b ∧ A a = some (.dK kvs) ∧ B b = some (.dK kvs) ∧ kvs.length ≤ 1000 ∧ 3 ≤ d ∧ (kvs.map (·.1)).Nodup ∧ ∀ p ∈ kvs, atomV p.2 = true)
theorem pimp {α β : Type} {F G : α → β → Prop} (h : ∀ a b, F a b → G a b) : ∀ {l : List α} {m : List β}, Paired F l m → Paired G l m
  | _, _, .nil => .nil
  | _, _, .cons a r => .cons (h _ _ a) (pimp h r)
theorem Tw.ext {A B A' B' : Hp} (e : Ex A A') (e2 : Ex B B') : ∀ {d : Nat} {v u : V}, Tw A B d v u → Tw A' B' d v u
  | 0, _, _, h => h.elim
  | d + 1, v, u, h => by
    rcases h with h | ⟨a, b, xs, ys, h1, h2, h3, h4, h5, h6⟩ | ⟨a, b, xs, ys, h1, h2, h3, h4, h5, h6⟩ | ⟨a, b, kvs, h1, h2, h3, h4, h5, h6, h7⟩
    · exact .inl h
    · exact .inr (.inl ⟨a, b, xs, ys, h1, h2, e _ _ h3, e2 _ _ h4, h5, pimp (fun _ _ z => Tw.ext e e2 z) h6⟩)
    · exact .inr (.inr (.inl ⟨a, b, xs, ys, h1, h2, e _ _ h3, e2 _ _ h4, h5, pimp (fun _ _ z => Tw.ext e e2 z) h6⟩))
    · exact .inr (.inr (.inr ⟨a, b, kvs, h1, h2, e _ _ h3, e2 _ _ h4, h5, h6, h7⟩))
theorem Tw.up {A B : Hp} : ∀ {d : Nat} {v u : V}, Tw A B d v u → Tw A B (d + 1) v u
  | 0, _, _, h => h.elim
  | d + 1, v, u, h => by
    rcases h with h | ⟨a, b, xs, ys, h1, h2, h3, h4, h5, h6⟩ | ⟨a, b, xs, ys, h1, h2, h3, h4, h5, h6⟩ | ⟨a, b, kvs, h1, h2, h3, h4, h5, h6, h7⟩
    · exact .inl h
    · exact .inr (.inl ⟨a, b, xs, ys, h1, h2, h3, h4, h5, pimp (fun _ _ z => Tw.up z) h6⟩)
    · exact .inr (.inr (.inl ⟨a, b, xs, ys, h1, h2, h3, h4, h5, pimp (fun _ _ z => Tw.up z) h6⟩))
    · exact .inr (.inr (.inr ⟨a, b, kvs, h1, h2, h3, h4, h5, by omega, h7⟩))
theorem Tw.ups {A B : Hp} {d e : Nat} (l : d ≤ e) {v u : V} (h : Tw A B d v u) : Tw A B e v u := by
  induction l with
  | refl => exact h
  | step _ ih => exact ih.up
theorem Tw.atom {A B : Hp} {d : Nat} {v u : V} (a : atomV v = true) (h : Tw A B d v u) : u = v := by
  cases d with
  | zero => exact h.elim
  | succ d =>
    rcases h with h | ⟨a', b, xs, ys, h1, _⟩ | ⟨a', b, xs, ys, h1, _⟩ | ⟨a', b, kvs, h1, _⟩
    · exact h.1.symm
    all_goals
      subst h1
      cases a
theorem Tw.of_atom {A B : Hp} {d : Nat} {v : V} (a : atomV v = true) : Tw A B (d + 1) v v := .inl ⟨rfl, a⟩
theorem pat {α β : Type} {F : α → β → Prop} : ∀ {l : List α} {m : List β} {i : Nat} {a : α} {b : β}, Paired F l m → l[i]? = some a → m[i]? = some b → F a b
  | _, _, i, _, _, .nil, h, _ => by simp at h
  | _, _, 0, _, _, .cons q _, h, h' => by
    simp at h h'
    subst h h'
    exact q
  | _, _, i + 1, _, _, .cons _ r, h, h' => pat (i := i) r (by simpa using h) (by simpa using h')
theorem papp {α β : Type} {F : α → β → Prop} : ∀ {l l' : List α} {m m' : List β}, Paired F l m → Paired F l' m' → Paired F (l ++ l') (m ++ m')
  | _, _, _, _, .nil, h => h
  | _, _, _, _, .cons a r, h => .cons a (papp r h)
/-- typed data that may be copied and compared -/
class DVT (α : Type) [DecidableEq α] [Datum α] extends DV α where
  dep : Nat
  sm : α → Prop
  tw : ∀ {A B : Hp} {v u : V} {x : α}, sm x → rep A v x → rep B u x → Tw A B dep v u
  cp : ∀ {n : Nat} {A B : Hp} {v u : V} {x : α}, rep A v x → Tw A B n v u → rep B u x
instance : DVT Str where
  dep := 1
  sm _ := True
  tw := fun _ h h' => by
    subst h h'
    exact .inl ⟨rfl, rfl⟩
  cp := fun h t => by
    subst h
    exact t.atom rfl
instance : DVT Int where
  dep := 1
  sm _ := True
  tw := fun _ h h' => by
    subst h h'
    exact .inl ⟨rfl, rfl⟩
  cp := fun h t => by
    subst h
    exact t.atom rfl
instance : DVT Bool where
  dep := 1
  sm _ := True
  tw := fun _ h h' => by
    subst h h'
    exact .inl ⟨rfl, rfl⟩
  cp := fun h t => by
    subst h
    exact t.atom rfl
section
variable {α β : Type} [DecidableEq α] [Datum α] [DVT α] [DecidableEq β] [Datum β] [DVT β]
theorem reps_tw {A B : Hp} : ∀ {vs us : List V} {xs : List α}, (∀ x ∈ xs, DVT.sm x) → Reps A vs xs → Reps B us xs → Paired (Tw A B (DVT.dep α)) vs us
  | _, _, _, _, .nil, .nil => .nil
  | _, _, _, s, .cons h r, .cons h' r' => .cons (DVT.tw (s _ List.mem_cons_self) h h') (reps_tw (fun x m => s x (List.mem_cons_of_mem _ m)) r r')
theorem reps_cp {A B : Hp} {n : Nat} : ∀ {vs us : List V} {xs : List α}, Reps A vs xs → Paired (Tw A B n) vs us → Reps B us xs
  | _, _, _, .nil, .nil => .nil
  | _, _, _, .cons h r, .cons t r' => .cons (DVT.cp h t) (reps_cp r r')
instance : DVT (List α) where
  dep := DVT.dep α + 1
  sm xs := xs.length ≤ 1000 ∧ ∀ x ∈ xs, DVT.sm x
  tw := fun {A B v u x} s h h' => by
    obtain ⟨a, vs, rfl, h1, h2⟩ := h
    obtain ⟨b, us, rfl, h3, h4⟩ := h'
    exact .inr (.inl ⟨a, b, vs, us, rfl, rfl, h1, h3, by rw [Reps.len h2]; exact s.1, reps_tw s.2 h2 h4⟩)
  cp := fun {n A B v u x} h t => by
    obtain ⟨a, vs, rfl, h1, h2⟩ := h
    cases n with
    | zero => exact t.elim
    | succ n =>
      rcases t with ⟨_, t⟩ | ⟨a', b, xs, ys, e1, rfl, e3, e4, e5, e6⟩ | ⟨a', b, xs, ys, e1, rfl, e3, e4, e5, e6⟩ | ⟨a', b, kvs, e1, rfl, e3, _⟩
      · cases t
      all_goals
        cases e1
        rw [h1] at e3
        cases e3
      exact ⟨b, ys, rfl, e4, reps_cp h2 e6⟩
instance : DVT (Tup α) where
  dep := DVT.dep α + 1
  sm xs := xs.items.length ≤ 1000 ∧ ∀ x ∈ xs.items, DVT.sm x
  tw := fun {A B v u x} s h h' => by
    obtain ⟨a, vs, rfl, h1, h2⟩ := h
    obtain ⟨b, us, rfl, h3, h4⟩ := h'
    exact .inr (.inr (.inl ⟨a, b, vs, us, rfl, rfl, h1, h3, by rw [Reps.len h2]; exact s.1, reps_tw s.2 h2 h4⟩))
  cp := fun {n A B v u x} h t => by
    obtain ⟨a, vs, rfl, h1, h2⟩ := h
    cases n with
    | zero => exact t.elim
    | succ n =>
      rcases t with ⟨_, t⟩ | ⟨a', b, xs, ys, e1, rfl, e3, e4, e5, e6⟩ | ⟨a', b, xs, ys, e1, rfl, e3, e4, e5, e6⟩ | ⟨a', b, kvs, e1, rfl, e3, _⟩
      · cases t
      all_goals
        cases e1
        rw [h1] at e3
        cases e3
      exact ⟨b, ys, rfl, e4, reps_cp h2 e6⟩
instance : DVT (α × β) where
  dep := max (DVT.dep α) (DVT.dep β) + 1
  sm p := DVT.sm p.1 ∧ DVT.sm p.2
  tw := fun {A B v u x} s h h' => by
    obtain ⟨a, v1, v2, rfl, h1, h2, h3⟩ := h
    obtain ⟨b, u1, u2, rfl, g1, g2, g3⟩ := h'
    exact .inr (.inr (.inl ⟨a, b, _, _, rfl, rfl, h1, g1, by show 2 ≤ 1000; decide, .cons ((DVT.tw s.1 h2 g2).ups (Nat.le_max_left _ _)) (.cons ((DVT.tw s.2 h3 g3).ups (Nat.le_max_right _ _)) .nil)⟩))
  cp := fun {n A B v u x} h t => by
    obtain ⟨a, v1, v2, rfl, h1, h2, h3⟩ := h
    cases n with
    | zero => exact t.elim
    | succ n =>
      rcases t with ⟨_, t⟩ | ⟨a', b, xs, ys, e1, rfl, e3, e4, e5, e6⟩ | ⟨a', b, xs, ys, e1, rfl, e3, e4, e5, e6⟩ | ⟨a', b, kvs, e1, rfl, e3, _⟩
      · cases t
      all_goals
        cases e1
        rw [h1] at e3
        cases e3
      cases e6 with
      | cons t1 e6 => cases e6 with
        | cons t2 e6 => cases e6 with
          | nil => exact ⟨b, _, _, rfl, e4, DVT.cp h2 t1, DVT.cp h3 t2⟩
/-- None, or a value -/
instance [SomeDatum α] : DV (Option α) where
  rep H v x := match x with
    | none => v = .non
    | some y => rep H v y
  holds := fun {X pins σ H s v x u} I h r => by
    cases x with
    | none =>
      subst h
      cases r
      exact holds_nothing
    | some y => exact holds_some (DV.holds I h r)
  ext := fun {H H' v x} e h => by
    cases x with
    | none => exact h
    | some y => exact DV.ext (α := α) e h
instance [SomeDatum α] : DVT (Option α) where
  dep := DVT.dep α + 1
  sm x := ∀ y, x = some y → DVT.sm y
  tw := fun {A B v u x} s h h' => by
    cases x with
    | none =>
      have e1 : v = .non := h
      have e2 : u = .non := h'
      rw [e1, e2]
      exact .inl ⟨rfl, rfl⟩
    | some y => exact (DVT.tw (α := α) (s y rfl) h h').up
  cp := fun {n A B v u x} h t => by
    cases x with
    | none =>
      have e1 : v = .non := h
      rw [e1] at t
      exact t.atom rfl
    | some y => exact DVT.cp (α := α) h t
end
/-! ### steps of a def's body: what is known grows -/
/-- A: what is known; all of it was handed in (A0), or is new since the start (H0) -/
structure Bs (A0 H0 A H : Hp) : Prop where
  a : Ex A0 A
  h : Ex A H
  e : Ex H0 H
  o : ∀ b u, A b = some u → A0 b = some u ∨ H0 b = none
theorem Bs.start {A H : Hp} (e : Ex A H) : Bs A H A H := ⟨Ex.refl A, e, Ex.refl H, fun b u h => .inl h⟩
theorem Bs.mono {A0 H0 A H H' : Hp} (b : Bs A0 H0 A H) (e : Ex H H') : Bs A0 H0 A H' := ⟨b.a, b.h.trans e, b.e.trans e, b.o⟩
theorem Bs.go {A0 H0 A H H' Hs : Hp} (b : Bs A0 H0 A H) (e : Ex H H') (s : Sup A H H' Hs) : Bs A0 H0 (jn A Hs) H' := ⟨b.a.trans jn_l, jn_ex (b.h.trans e) s.e, b.e.trans e, fun c u z => by
  rcases jn_of z with y | y
  · exact b.o c u y
  · rcases s.o c u y with w | w
    · exact b.o c u w
    · right
      cases m : H0 c with
      | none => rfl
      | some o =>
        rw [b.e _ _ m] at w
        cases w⟩
theorem Bs.rep {A0 H0 A H H' Hs : Hp} {α : Type} [DecidableEq α] [Datum α] [DV α] {v : V} {x : α} (b : Bs A0 H0 A H) (e : Ex H H') (s : Sup A H H' Hs) (r : rep Hs v x) : rep (jn A Hs) v x := DV.ext (jn_r (b.h.trans e) s.e) r
/-- a new object, known from here on -/
theorem Bs.new {A0 H0 A H : Hp} {p : Addr} {o : HO} (b : Bs A0 H0 A H) (hp : H p = some o) (np : H0 p = none) (nA : A p = none) : Bs A0 H0 (upd A p o) H := ⟨b.a.trans (Ex.new nA), fun c u z => by
  by_cases y : c = p
  · rw [y, upd_same] at z
    rw [y, hp]
    exact z
  · rw [upd_ne y] at z
    exact b.h _ _ z, b.e, fun c u z => by
  by_cases y : c = p
  · rw [y]
    exact .inr np
  · rw [upd_ne y] at z
    exact b.o _ _ z⟩
/-- an object that is not known yet is changed -/
theorem Bs.mut {A0 H0 A H : Hp} {p : Addr} {o : HO} (b : Bs A0 H0 A H) (np : H0 p = none) (nA : A p = none) : Bs A0 H0 A (upd H p o) := ⟨b.a, b.h.mut nA, b.e.mut np, b.o⟩
theorem Bs.endD {γ : Type} [DecidableEq γ] [Datum γ] [DV γ] {A0 H0 A H : Hp} {x : γ} {Q : VK} (b : Bs A0 H0 A H) (q : EndD A0 H0 x Q) : EndD A H x Q := fun u H' Hs e s r => q u H' Hs (b.e.trans e) ⟨s.e, fun c w z => by
  rcases s.o c w z with y | y
  · exact b.o c w y
  · right
    cases m : H0 c with
    | none => rfl
    | some o =>
      rw [b.e _ _ m] at y
      cases y⟩ r
end Dw
/-! text W12 -/
set_option Elab.async false
set_option linter.all false
set_option maxHeartbeats 2000000
/-! typed: a comprehension over any walk; zip, slices; steps of a body -/
namespace Dw
open PySem PySem.Spec PyProof.Rows L2 Evl PySem.W DV RZ
section
variable {α β γ : Type} [DecidableEq α] [Datum α] [DV α] [DecidableEq β] [Datum β] [DV β] [DecidableEq γ] [Datum γ] [DV γ] {K : PySem.W.Frag} {σ : L2.St} {H H' A A0 H0 : Hp} {te ta tb : TE} {tt : TT} {D : Ends}
theorem ed_lcW {J : It} {n : Nat} {G : Hp → Prop} {Y : Nat → Hp → V → Hp → Prop} (w : Walk J n G Y) {A H0 H1 B : Hp} {gt : TG} {vs : List Nat} (e0 : Ex H0 H1) (eB : Ex B H1) (oB : ∀ b u, B b = some u → A b = some u ∨ H0 b = none) (r : Nat → List β) (r0 : r 0 = []) (hl : ∀ i, i < n → (r i).length < 40000)
    (hG : ∀ H', Ex H1 H' → G H')
    (turn : ∀ i x H2 H3, i < n → Ex H1 H2 → Y i H2 x H3 → Ex H2 H3 ∧ ∃ (b : Bool) (y : β), (b = true → r (i + 1) = r i ++ [y]) ∧ (b = false → r (i + 1) = r i) ∧
      ∀ C : L2.St → Hp → Prop, (∀ σ2, wipe σ2 vs = wipe σ vs → EvT tt σ2 B b → (b = true → EvD te σ2 B y) → C σ2 H3) → gt x (wipe σ vs) H3 C)
    {Q : VK} (q : ∀ v H2 Hs, Ex H0 H2 → Sup A H0 H2 Hs → rep Hs v (r n) → Q v H2) {D : Addr} (nD : H1 D = none) :
    ∃ W : Nat → Nat → Hp → Prop, (∃ m, W 0 m (upd H1 D (.lst []))) ∧ ∀ i m H, W i m H →
      (J.stop i H ∧ Q (.ref D) H) ∨ (J.go i H ∧ ∃ Nx : Hp → Prop, (∀ H', Nx H' → ∃ m', m' < m ∧ W (i + 1) m' H') ∧ ∀ x H', J.yld i H x H' → gt x (wipe σ vs) H' fun σ2 H2 => wipe σ2 vs = wipe σ vs ∧ tt σ2 H2 fun b H3 =>
        if b = true then te σ2 H3 fun y H4 => ∃ acc, H4 D = some (.lst acc) ∧ acc.length < sizeLine ∧ Nx (upd H4 D (.lst (acc ++ [y]))) else Nx H3) := by
  have BD : B D = none := by
    cases z : B D with
    | none => rfl
    | some o =>
      rw [eB _ _ z] at nD
      cases nD
  have D0 : H0 D = none := by
    cases z : H0 D with
    | none => rfl
    | some o =>
      rw [e0 _ _ z] at nD
      cases nD
  refine lc_it w (fun i H' => Ex H1 H' ∧ ∃ ws Hw, H' D = some (.lst ws) ∧ Ex Hw H' ∧ (∀ b u, Hw b = some u → b ≠ D ∧ (A b = some u ∨ H0 b = none)) ∧ Reps Hw ws (r i)) ⟨Ex.new nD, [], fun _ => none, upd_same, fun _ _ z => (by cases z), fun _ _ z => (by cases z), by rw [r0]; exact .nil⟩ (fun i H' _ p => hG H' p.1) (fun i x H2 H3 hi p hy => ?_) (fun H' p => ?_)
  · obtain ⟨p2, ws, Hw, p3, p4, p5, p6⟩ := p
    obtain ⟨e3, b, y, rb, rn, run⟩ := turn i x H2 H3 hi p2 hy
    refine run _ fun σ2 hw et ed => ⟨hw, et H3 ((eB.trans p2).trans e3) _ fun H4 e4 => ?_⟩
    cases b with
    | true =>
      show te _ H4 fun y H5 => ∃ acc, H5 D = some (.lst acc) ∧ acc.length < sizeLine ∧ _
      refine ed rfl H4 (((eB.trans p2).trans e3).trans e4) _ fun z H5 Hy e5 sy r5 => ⟨ws, e5 _ _ (e4 _ _ (e3 _ _ p3)), ?_, (((p2.trans e3).trans e4).trans e5).mut nD, ws ++ [z], jn Hw Hy, upd_same, ?_, ?_, ?_⟩
      · rw [Reps.len p6]
        have := hl i hi
        exact sz_lt (by omega)
      · intro c u z
        have nD : c ≠ D := by
          rcases jn_of z with y | y
          · exact (p5 c u y).1
          · intro q
            rw [q] at y
            rcases sy.o D u y with w | w
            · rw [BD] at w
              cases w
            · rw [e4 _ _ (e3 _ _ p3)] at w
              cases w
        rw [upd_ne nD]
        rcases jn_of z with y | y
        · exact e5 _ _ (e4 _ _ (e3 _ _ (p4 _ _ y)))
        · exact sy.e _ _ y
      · intro c u z
        rcases jn_of z with y | y
        · exact p5 c u y
        · refine ⟨fun q => ?_, ?_⟩
          · rw [q] at y
            rcases sy.o D u y with w | w
            · rw [BD] at w
              cases w
            · rw [e4 _ _ (e3 _ _ p3)] at w
              cases w
          · rcases sy.o c u y with w | w
            · exact oB c u w
            · right
              cases m : H0 c with
              | none => rfl
              | some o =>
                rw [e4 _ _ (e3 _ _ (p2 _ _ (e0 _ _ m)))] at w
                cases w
      · rw [rb rfl]
        have q1 : Ex Hw H5 := ((p4.trans e3).trans e4).trans e5
        exact Reps.app (Reps.ext jn_l p6) (.cons (DV.ext (jn_r q1 sy.e) r5) .nil)
    | false =>
      show _ ∧ _
      exact ⟨(p2.trans e3).trans e4, ws, Hw, e4 _ _ (e3 _ _ p3), (p4.trans e3).trans e4, p5, by rw [rn rfl]; exact p6⟩
  · obtain ⟨p2, ws, Hw, p3, p4, p5, p6⟩ := p
    have nw : Hw D = none := by
      cases z : Hw D with
      | none => rfl
      | some o => exact absurd rfl (p5 D o z).1
    refine q _ H' (upd Hw D (.lst ws)) (e0.trans p2) ⟨fun b u z => ?_, fun b u z => ?_⟩ ⟨D, ws, rfl, upd_same, Reps.ext (Ex.new nw) p6⟩
    · by_cases y : b = D
      · rw [y, upd_same] at z
        rw [y, p3]
        exact z
      · rw [upd_ne y] at z
        exact p4 _ _ z
    · by_cases y : b = D
      · right
        rw [y]
        exact D0
      · rw [upd_ne y] at z
        exact (p5 b u z).2
/-- [te for x, y in zip(xs, ys)] -/
theorem ed_zip {xs : List α} {ys : List β} {i j : Nat} {vs : List Nat} (g : α → β → γ) (ha : EvD ta σ A xs) (hb : EvD tb σ A ys) (hz : xs.length ≤ 40000)
    (hw : ∀ x y, wipe (((wipe σ vs).set i (some x)).set j (some y)) vs = wipe σ vs) (ht : ∀ x y H, Ex A H → EvT tt (((wipe σ vs).set i (some x)).set j (some y)) H true)
    (he : ∀ (k : Nat) (x : α) (y : β) (v u : V) H1, Ex A H1 → xs[k]? = some x → ys[k]? = some y → rep H1 v x → rep H1 u y → EvD te (((wipe σ vs).set i (some v)).set j (some u)) H1 (g x y)) :
    EvD (tLc (iZipA K (tCons ta (tCons tb tNil))) (gTup K 2 (gCons (gName i) (gCons (gName j) gNil))) tt te vs) σ A (xs.zipWith g ys) := fun H0 e0 Q q => ha H0 e0 _ fun v H1 Hs e1 sp r => hb H1 (e0.trans e1) _ fun u H2 Ht e2 sp2 r2 => by
  have sj := sp.join e0 e1 e2 sp2
  obtain ⟨a, vx, rfl, h1, h2⟩ := r
  obtain ⟨b, vy, rfl, h3, h4⟩ := r2
  have l1 := Reps.len h2
  have l2 := Reps.len h4
  refine ⟨a, b, vx, vy, rfl, .inl ⟨sq_of (e2 _ _ (sp.e _ _ h1)), sq_of (sp2.e _ _ h3), fun D nD => ?_⟩⟩
  have eJ : Ex A H2 := (e0.trans e1).trans e2
  refine ed_lcW (walk_zip (xs := vx) (ys := vy) rfl) (e1.trans e2) (B := jn A (jn Hs Ht)) (jn_ex eJ sj.e) (fun b u z => (jn_of z).elim .inl (sj.o b u)) (fun k => (xs.take k).zipWith g (ys.take k)) (by simp) (fun k hk => by
    rw [List.length_zipWith, List.length_take, List.length_take]
    omega) (fun H' e => ⟨sq_of (e _ _ (e2 _ _ (sp.e _ _ h1))), sq_of (e _ _ (sp2.e _ _ h3))⟩) (fun k x H3 H4 hk e3 hy => ?_) (fun v H5 Hw e5 s5 r5 => q v H5 Hw e5 s5 ?_) nD
  · obtain ⟨T, x1, y1, rfl, nT, rfl, hx, hy⟩ := hy
    obtain ⟨lx, _⟩ := List.getElem?_eq_some_iff.mp hx
    obtain ⟨ly, _⟩ := List.getElem?_eq_some_iff.mp hy
    have gx : xs[k]? = some xs[k] := List.getElem?_eq_getElem (by omega)
    have gy : ys[k]? = some ys[k] := List.getElem?_eq_getElem (by omega)
    have eHs : Ex Hs (jn A (jn Hs Ht)) := jn_l.trans (jn_r eJ sj.e)
    have eHt : Ex Ht (jn A (jn Hs Ht)) := (jn_r (sp.e.trans e2) sp2.e).trans (jn_r eJ sj.e)
    refine ⟨Ex.new nT, true, g xs[k] ys[k], fun _ => ?_, fun z => (by cases z), fun C c => ?_⟩
    · rw [List.take_add_one, List.take_add_one, gx, gy]
      rw [List.zipWith_append (by rw [List.length_take, List.length_take]; omega)]
      rfl
    · exact ⟨T, [x1, y1], rfl, .inl (.inl upd_same), rfl, x1, [y1], rfl, y1, [], rfl, rfl, c _ (hw x1 y1) (ht _ _ _ jn_l) fun _ => he k _ _ _ _ _ jn_l gx gy (DV.ext eHs (Reps.at h2 hx gx)) (DV.ext eHt (Reps.at h4 hy gy))⟩
  · have e : (xs.take (min vx.length vy.length)).zipWith g (ys.take (min vx.length vy.length)) = xs.zipWith g ys := by
      rw [l1, l2, ← List.take_zipWith]
      exact List.take_of_length_le (by rw [List.length_zipWith]; omega)
    rw [← e]
    exact r5
/-! ### slices -/
def cutT {δ : Type} (xs : List δ) (lo hi : Option Int) : List δ := (xs.drop (HT.sIx xs.length 0 lo)).take (HT.sIx xs.length xs.length hi - HT.sIx xs.length 0 lo)
theorem reps_drop {H : Hp} : ∀ {n : Nat} {vs : List V} {xs : List α}, Reps H vs xs → Reps H (vs.drop n) (xs.drop n)
  | 0, _, _, h => h
  | _ + 1, _, _, .nil => .nil
  | n + 1, _, _, .cons _ r => reps_drop (n := n) r
theorem reps_take {H : Hp} : ∀ {n : Nat} {vs : List V} {xs : List α}, Reps H vs xs → Reps H (vs.take n) (xs.take n)
  | 0, _, _, _ => .nil
  | _ + 1, _, _, .nil => .nil
  | n + 1, _, _, .cons h r => .cons h (reps_take (n := n) r)
theorem ed_sl {xs : List α} {tl th : TO} {lo hi : Option Int} (h : EvD te σ A xs) (h1 : EvO tl σ A lo) (h2 : EvO th σ A hi) : EvD (tSl (rSlL K) te tl th) σ A (cutT xs lo hi) := fun H1 e Q q => h H1 e _ fun v H2 Hs e2 s r => h1 H2 (e.trans e2) _ fun H3 e3 => h2 H3 ((e.trans e2).trans e3) _ fun H4 e4 => by
  obtain ⟨a, vs, rfl, g1, g2⟩ := r
  have e24 := e3.trans e4
  refine ⟨a, vs, rfl, sq_of (e24 _ _ (s.e _ _ g1)), fun p np => ?_⟩
  have s4 : Sup A H1 H4 Hs := ⟨s.e.trans e24, s.o⟩
  refine q _ _ (upd Hs p (.lst (cutV vs lo hi))) ((e2.trans e24).trans (Ex.new np)) (sup_new (e2.trans e24) s4 np) ⟨p, _, rfl, upd_same, Reps.ext (Ex.new (sup_no s4 np)) ?_⟩
  unfold cutV cutT
  rw [Reps.len g2]
  exact reps_take (reps_drop g2)
theorem cut_tail {δ : Type} (xs : List δ) : cutT xs (some 1) none = xs.drop 1 := by
  unfold cutT HT.sIx
  cases xs with
  | nil => simp
  | cons a r => simp
/-! ### truth, if-expressions -/
theorem ed_ifE {b : Bool} {x : α} {t : TT} (h : EvT t σ A b) (h1 : b = true → EvD ta σ A x) (h2 : b = false → EvD tb σ A x) : EvD (tIf t ta tb) σ A x := fun H1 e Q q => h H1 e _ fun H2 e2 => by
  cases b with
  | true =>
    show ta σ H2 Q
    exact h1 rfl H2 (e.trans e2) Q fun v H3 Hs e3 s r => q v H3 Hs (e2.trans e3) ⟨s.e, fun b u z => (s.o b u z).imp id fun y => by
      cases m : H1 b with
      | none => rfl
      | some o =>
        rw [e2 _ _ m] at y
        cases y⟩ r
  | false =>
    show tb σ H2 Q
    exact h2 rfl H2 (e.trans e2) Q fun v H3 Hs e3 s r => q v H3 Hs (e2.trans e3) ⟨s.e, fun b u z => (s.o b u z).imp id fun y => by
      cases m : H1 b with
      | none => rfl
      | some o =>
        rw [e2 _ _ m] at y
        cases y⟩ r
theorem et_yes {H : Hp} : EvT tYes σ H true := fun H1 e Q q => q H1 (Ex.refl H1)
/-! ### statements -/
theorem b_if {b : Bool} {t : TT} {tu tw : TS} (B : Bs A0 H0 A H) (h : EvT t σ A b) (h1 : b = true → ∀ H1, Bs A0 H0 A H1 → tu D σ H1) (h2 : b = false → ∀ H1, Bs A0 H0 A H1 → tw D σ H1) : tIfS t tu tw D σ H := h H B.h _ fun H1 e => by
  cases b with
  | true => exact h1 rfl H1 (B.mono e)
  | false => exact h2 rfl H1 (B.mono e)
theorem b_skip {b : Bool} {t : TT} {tu tz : TS} (B : Bs A0 H0 A H) (h : EvT t σ A b) (hb : b = false) (h2 : ∀ H1, Bs A0 H0 A H1 → tz D σ H1) : tSeq (tIfS t tu tNext) tz D σ H := b_if (D := { D with nx := tz D }) B h (fun z => by rw [hb] at z; cases z) fun _ H1 B1 => h2 H1 B1
theorem b_asg {x : α} {i : Nat} {tz : TS} (B : Bs A0 H0 A H) (h : EvD te σ A x) (k : ∀ v A' H1, Bs A0 H0 A' H1 → Ex A A' → rep A' v x → tz D (σ.set i (some v)) H1) : tSeq (tAsg te (gName i)) tz D σ H := h H B.h _ fun v H1 Hs e s r => k v (jn A Hs) H1 (B.go e s) jn_l (B.rep e s r)
theorem b_ret {x : γ} (B : Bs A0 H0 A H) (h : EvD te σ A x) (q : EndD A0 H0 x D.rt) : tRet te D σ H := h H B.h _ (B.endD q)
theorem b_seqIf {b : Bool} {t : TT} {tu tz : TS} (B : Bs A0 H0 A H) (h : EvT t σ A b) (h1 : b = true → ∀ H1, Bs A0 H0 A H1 → tu { D with nx := tz D } σ H1) (h2 : b = false → ∀ H1, Bs A0 H0 A H1 → tz D σ H1) : tSeq (tIfS t tu tNext) tz D σ H := b_if (D := { D with nx := tz D }) B h h1 fun e H1 B1 => h2 e H1 B1
end
end Dw
/-! text P1 -/
set_option Elab.async false
set_option linter.all false
set_option maxHeartbeats 1000000
/-! lots as ascending lists, least lots: plain -/
namespace Lot
variable {α : Type} [DecidableEq α]
/-- an order of all things -/
structure Tot (lt : α → α → Bool) : Prop where
  ir : ∀ a, lt a a = false
  tr : ∀ a b c, lt a b = true → lt b c = true → lt a c = true
  di : ∀ a b, lt a b = false → lt b a = false → a = b
def Asc (lt : α → α → Bool) (l : List α) : Prop := l.Pairwise fun a b => lt a b = true
theorem Asc.nodup {lt : α → α → Bool} (T : Tot lt) {l : List α} (h : Asc lt l) : l.Nodup := h.imp fun {a b} z e => by
  rw [e, T.ir] at z
  cases z
/-- ascending lists of the same things are the same -/
theorem asc_ext {lt : α → α → Bool} (T : Tot lt) : ∀ {l m : List α}, Asc lt l → Asc lt m → (∀ x, x ∈ l ↔ x ∈ m) → l = m
  | [], [], _, _, _ => rfl
  | [], b :: m, _, _, h => absurd ((h b).mpr List.mem_cons_self) (by simp)
  | a :: l, [], _, _, h => absurd ((h a).mp List.mem_cons_self) (by simp)
  | a :: l, b :: m, h1, h2, h => by
    obtain ⟨p1, q1⟩ := List.pairwise_cons.mp h1
    obtain ⟨p2, q2⟩ := List.pairwise_cons.mp h2
    have e : a = b := by
      rcases List.mem_cons.mp ((h a).mp List.mem_cons_self) with z | z
      · exact z
      · rcases List.mem_cons.mp ((h b).mpr List.mem_cons_self) with y | y
        · exact y.symm
        · have x := T.tr _ _ _ (p1 _ y) (p2 _ z)
          rw [T.ir] at x
          cases x
    subst e
    refine congrArg (a :: ·) (asc_ext T q1 q2 fun x => ⟨fun z => ?_, fun z => ?_⟩)
    · rcases List.mem_cons.mp ((h x).mp (List.mem_cons_of_mem _ z)) with y | y
      · have q := p1 _ z
        rw [y, T.ir] at q
        cases q
      · exact y
    · rcases List.mem_cons.mp ((h x).mpr (List.mem_cons_of_mem _ z)) with y | y
      · have q := p2 _ z
        rw [y, T.ir] at q
        cases q
      · exact y
/-- letter by letter -/
def lex (lt : α → α → Bool) : List α → List α → Bool
  | [], [] => false
  | [], _ :: _ => true
  | _ :: _, [] => false
  | a :: l, b :: m => if a = b then lex lt l m else lt a b
theorem lex_tot {lt : α → α → Bool} (T : Tot lt) : Tot (lex lt) := by
  refine ⟨fun a => ?_, fun a => ?_, fun a => ?_⟩
  · induction a with
    | nil => rfl
    | cons x l ih =>
      unfold lex
      rw [if_pos rfl, ih]
  · induction a with
    | nil =>
      intro b c h1 h2
      cases b with
      | nil => cases h1
      | cons y m =>
        cases c with
        | nil => cases h2
        | cons z n => rfl
    | cons x l ih =>
      intro b c h1 h2
      cases b with
      | nil => cases h1
      | cons y m =>
        cases c with
        | nil => cases h2
        | cons z n =>
          unfold lex at h1 h2 ⊢
          by_cases e1 : x = y
          · subst e1
            rw [if_pos rfl] at h1
            by_cases e2 : x = z
            · rw [if_pos e2] at h2 ⊢
              exact ih _ _ h1 h2
            · rw [if_neg e2] at h2 ⊢
              exact h2
          · rw [if_neg e1] at h1
            by_cases e2 : y = z
            · subst e2
              rw [if_neg e1]
              exact h1
            · rw [if_neg e2] at h2
              have h := T.tr _ _ _ h1 h2
              rw [if_neg (fun e => by rw [e, T.ir] at h; cases h)]
              exact h
  · induction a with
    | nil =>
      intro b h1 h2
      cases b with
      | nil => rfl
      | cons y m => cases h1
    | cons x l ih =>
      intro b h1 h2
      cases b with
      | nil => cases h2
      | cons y m =>
        unfold lex at h1 h2
        by_cases e : x = y
        · rw [if_pos e] at h1
          rw [if_pos e.symm] at h2
          rw [e, ih _ h1 h2]
        · rw [if_neg e] at h1
          rw [if_neg (Ne.symm e)] at h2
          exact absurd (T.di _ _ h1 h2) e
/-- R: the least of the lots -/
def Mn (R lots : List (List α)) : Prop := ∀ r, r ∈ R ↔ r ∈ lots ∧ ∀ s ∈ lots, s ⊆ r → s = r
/-- R: the least of the lots, in order -/
structure Min (lt : α → α → Bool) (R lots : List (List α)) : Prop where
  asc : Asc (lex lt) R
  mem : Mn R lots
section
variable {lt : α → α → Bool} {R R' L L' : List (List α)}
theorem Min.uniq (T : Tot lt) (h : Min lt R L) (h' : Min lt R' L') (e : ∀ x, x ∈ L ↔ x ∈ L') : R = R' := by
  refine asc_ext (lex_tot T) h.asc h'.asc fun r => ?_
  rw [h.mem r, h'.mem r, e]
  exact ⟨fun z => ⟨z.1, fun s hs => z.2 s ((e s).mpr hs)⟩, fun z => ⟨z.1, fun s hs => z.2 s ((e s).mp hs)⟩⟩
/-- every lot holds one of the others -/
def Cof (A B : List (List α)) : Prop := ∀ b ∈ B, ∃ a ∈ A, a ⊆ b
theorem sub_len : ∀ {a b : List α}, a.Nodup → a ⊆ b → a.length ≤ b.length
  | [], _, _, _ => Nat.zero_le _
  | x :: a, b, na, h => by
    obtain ⟨n1, n2⟩ := List.nodup_cons.mp na
    have hx := h List.mem_cons_self
    have q := sub_len (b := b.erase x) n2 fun y hy => (List.mem_erase_of_ne fun e => n1 (by rw [← e]; exact hy)).mpr (h (List.mem_cons_of_mem _ hy))
    rw [List.length_erase_of_mem hx] at q
    have pos : 0 < b.length := List.length_pos_of_mem hx
    rw [List.length_cons]
    omega
theorem sub_back {a b : List α} (na : a.Nodup) (h : a ⊆ b) (l : b.length ≤ a.length) : b ⊆ a := fun x hx => by
  by_cases m : x ∈ a
  · exact m
  · have q := sub_len (b := b.erase x) na fun y hy => (List.mem_erase_of_ne fun e => m (by rw [← e]; exact hy)).mpr (h hy)
    rw [List.length_erase_of_mem hx] at q
    have pos : 0 < b.length := List.length_pos_of_mem hx
    omega
theorem asc_anti (T : Tot lt) {a b : List α} (ha : Asc lt a) (hb : Asc lt b) (h1 : a ⊆ b) (h2 : b ⊆ a) : a = b := asc_ext T ha hb fun x => ⟨fun z => h1 z, fun z => h2 z⟩
/-- below each lot lies a least one -/
theorem mn_below (T : Tot lt) (h : Mn R L) (hL : ∀ l ∈ L, Asc lt l) : ∀ (n : Nat) (l : List α), l.length ≤ n → l ∈ L → ∃ r ∈ R, r ⊆ l
  | n, l, hn, hl => by
    by_cases m : ∀ s ∈ L, s ⊆ l → s = l
    · exact ⟨l, (h l).mpr ⟨hl, m⟩, List.Subset.refl l⟩
    · have ⟨s, z⟩ := Classical.not_forall.mp m
      have ⟨hs, z⟩ := Classical.not_imp.mp z
      have ⟨hsl, ne⟩ := Classical.not_imp.mp z
      have lt' : s.length < l.length := by
        have le := sub_len ((hL s hs).nodup T) hsl
        rcases Nat.lt_or_ge s.length l.length with q | q
        · exact q
        · exact absurd (asc_anti T (hL s hs) (hL l hl) hsl (sub_back ((hL s hs).nodup T) hsl q)) ne
      match n, hn with
      | 0, hn => omega
      | n + 1, hn =>
        obtain ⟨r, h1, h2⟩ := mn_below T h hL n s (by omega) hs
        exact ⟨r, h1, List.Subset.trans h2 hsl⟩
theorem Min.cof (T : Tot lt) (h : Min lt R L) (hL : ∀ l ∈ L, Asc lt l) : Cof R L := fun l hl => mn_below T h.mem hL l.length l (Nat.le_refl _) hl
/-- lots that hold one another tell the same least ones -/
theorem Min.eq_of_cof (T : Tot lt) (h : Min lt R L) (h' : Min lt R' L') (hL : ∀ l ∈ L, Asc lt l) (hL' : ∀ l ∈ L', Asc lt l) (c : Cof L L') (c' : Cof L' L) : R = R' := by
  have key : ∀ {R R' L L' : List (List α)}, Min lt R L → Min lt R' L' → (∀ l ∈ L, Asc lt l) → (∀ l ∈ L', Asc lt l) → Cof L L' → Cof L' L → ∀ r, r ∈ R → r ∈ R' := by
    intro R R' L L' h h' hL hL' c c' r hr
    obtain ⟨hr1, hr2⟩ := (h.mem r).mp hr
    obtain ⟨l', hl', s1⟩ := c' r hr1
    obtain ⟨l, hl, s2⟩ := c l' hl'
    have e := hr2 l hl (List.Subset.trans s2 s1)
    subst e
    have e2 : l' = l := asc_anti T (hL' _ hl') (hL _ hl) s1 s2
    subst e2
    refine (h'.mem l').mpr ⟨hl', fun s hs z => ?_⟩
    obtain ⟨u, hu, s3⟩ := c s hs
    have e3 := hr2 u hu (List.Subset.trans s3 z)
    subst e3
    exact asc_anti T (hL' _ hs) (hL' _ hl') z s3
  refine asc_ext (lex_tot T) h.asc h'.asc fun r => ⟨key h h' hL hL' c c' r, key h' h hL' hL c' c r⟩
/-- a family's own lots: none holds another -/
def Anti (L : List (List α)) : Prop := ∀ a ∈ L, ∀ b ∈ L, a ⊆ b → a = b
theorem min_self (h : Asc (lex lt) L) (a : Anti L) : Min lt L L := ⟨h, fun r => ⟨fun z => ⟨z, fun s hs q => a s hs r z q⟩, fun z => z.1⟩⟩
theorem Min.anti (h : Min lt R L) : Anti R := fun a ha b hb z => ((h.mem b).mp hb).2 a ((h.mem a).mp ha).1 z
end
end Lot
/-! text P2 -/
set_option Elab.async false
set_option linter.all false
set_option maxHeartbeats 1000000
/-! families of lots: both, either, fallen, trusted, renamed: plain -/
namespace Lot
variable {α : Type} [DecidableEq α] {lt : α → α → Bool}
/-- a family's lots: in order, none empty, none holds another -/
structure Fam (lt : α → α → Bool) (A : List (List α)) : Prop where
  asc : Asc (lex lt) A
  lots : ∀ a ∈ A, Asc lt a
  full : ∀ a ∈ A, a ≠ []
  anti : Anti A
theorem Fam.min {A : List (List α)} (h : Fam lt A) : Min lt A A := min_self h.asc h.anti
theorem Min.fam {R L : List (List α)} (h : Min lt R L) (hL : ∀ l ∈ L, Asc lt l) (hf : ∀ l ∈ L, l ≠ []) : Fam lt R := ⟨h.asc, fun a ha => hL a ((h.mem a).mp ha).1, fun a ha => hf a ((h.mem a).mp ha).1, h.anti⟩
/-- U: the lots of one with the lots of the other -/
structure Cup (lt : α → α → Bool) (U A B : List (List α)) : Prop where
  asc : ∀ u ∈ U, Asc lt u
  of : ∀ u ∈ U, ∃ a ∈ A, ∃ b ∈ B, ∀ x, x ∈ u ↔ x ∈ a ∨ x ∈ b
  all : ∀ a ∈ A, ∀ b ∈ B, ∃ u ∈ U, ∀ x, x ∈ u ↔ x ∈ a ∨ x ∈ b
theorem Cof.refl (A : List (List α)) : Cof A A := fun a h => ⟨a, h, List.Subset.refl a⟩
theorem Cof.trans {A B C : List (List α)} (h : Cof A B) (h' : Cof B C) : Cof A C := fun c hc => by
  obtain ⟨b, hb, s⟩ := h' c hc
  obtain ⟨a, ha, s'⟩ := h b hb
  exact ⟨a, ha, List.Subset.trans s' s⟩
theorem cof_sub {A B : List (List α)} (h : ∀ b ∈ B, b ∈ A) : Cof A B := fun b hb => ⟨b, h b hb, List.Subset.refl b⟩
theorem Min.sub {R L : List (List α)} (h : Min lt R L) : Cof L R := cof_sub fun r hr => ((h.mem r).mp hr).1
theorem Cup.cof {U U' A A' B B' : List (List α)} (h : Cup lt U A B) (h' : Cup lt U' A' B') (cA : Cof A A') (cB : Cof B B') : Cof U U' := fun u hu => by
  obtain ⟨a, ha, b, hb, e⟩ := h'.of u hu
  obtain ⟨a', ha', sa⟩ := cA a ha
  obtain ⟨b', hb', sb⟩ := cB b hb
  obtain ⟨v, hv, e'⟩ := h.all a' ha' b' hb'
  refine ⟨v, hv, fun x hx => (e x).mpr ?_⟩
  rcases (e' x).mp hx with z | z
  · exact .inl (sa z)
  · exact .inr (sb z)
theorem Cup.full {U A B : List (List α)} (h : Cup lt U A B) (hA : ∀ a ∈ A, a ≠ []) : ∀ u ∈ U, u ≠ [] := fun u hu z => by
  obtain ⟨a, ha, b, hb, e⟩ := h.of u hu
  cases a with
  | nil => exact hA _ ha rfl
  | cons x r =>
    have q := (e x).mpr (.inl List.mem_cons_self)
    rw [z] at q
    cases q
theorem Cup.swap {U A B : List (List α)} (h : Cup lt U A B) : Cup lt U B A := ⟨h.asc, fun u hu => by
  obtain ⟨a, ha, b, hb, e⟩ := h.of u hu
  exact ⟨b, hb, a, ha, fun x => (e x).trans or_comm⟩, fun b hb a ha => by
  obtain ⟨u, hu, e⟩ := h.all a ha b hb
  exact ⟨u, hu, fun x => (e x).trans or_comm⟩⟩
/-- both: in any brackets -/
theorem both_assoc (T : Tot lt) {A B C U V X Y R S P Q : List (List α)} (hU : Cup lt U A B) (hR : Min lt R U) (hX : Cup lt X R C) (hP : Min lt P X) (hV : Cup lt V B C) (hS : Min lt S V) (hY : Cup lt Y A S) (hQ : Min lt Q Y) : P = Q := by
  refine hP.eq_of_cof T hQ hX.asc hY.asc ?_ ?_
  · intro y hy
    obtain ⟨a, ha, s, hs, e⟩ := hY.of y hy
    obtain ⟨b, hb, c, hc, e2⟩ := hV.of s ((hS.mem s).mp hs).1
    obtain ⟨u, hu, e3⟩ := hU.all a ha b hb
    obtain ⟨r, hr, sr⟩ := hR.cof T hU.asc u hu
    obtain ⟨x, hx, e4⟩ := hX.all r hr c hc
    refine ⟨x, hx, fun z hz => (e z).mpr ?_⟩
    rcases (e4 z).mp hz with q | q
    · rcases (e3 z).mp (sr q) with w | w
      · exact .inl w
      · exact .inr ((e2 z).mpr (.inl w))
    · exact .inr ((e2 z).mpr (.inr q))
  · intro x hx
    obtain ⟨r, hr, c, hc, e⟩ := hX.of x hx
    obtain ⟨a, ha, b, hb, e2⟩ := hU.of r ((hR.mem r).mp hr).1
    obtain ⟨v, hv, e3⟩ := hV.all b hb c hc
    obtain ⟨s, hs, ss⟩ := hS.cof T hV.asc v hv
    obtain ⟨y, hy, e4⟩ := hY.all a ha s hs
    refine ⟨y, hy, fun z hz => (e z).mpr ?_⟩
    rcases (e4 z).mp hz with q | q
    · exact .inl ((e2 z).mpr (.inl q))
    · rcases (e3 z).mp (ss q) with w | w
      · exact .inl ((e2 z).mpr (.inr w))
      · exact .inr w
theorem both_comm (T : Tot lt) {A B U V P Q : List (List α)} (hU : Cup lt U A B) (hP : Min lt P U) (hV : Cup lt V B A) (hQ : Min lt Q V) : P = Q :=
  hP.eq_of_cof T hQ hU.asc hV.asc (hU.cof hV.swap (Cof.refl _) (Cof.refl _)) (hV.swap.cof hU (Cof.refl _) (Cof.refl _))
/-- either: in any brackets -/
theorem either_assoc (T : Tot lt) {A B C R S P Q : List (List α)} (hA : ∀ a ∈ A, Asc lt a) (hB : ∀ a ∈ B, Asc lt a) (hC : ∀ a ∈ C, Asc lt a) (hR : Min lt R (A ++ B)) (hP : Min lt P (R ++ C)) (hS : Min lt S (B ++ C)) (hQ : Min lt Q (A ++ S)) : P = Q := by
  have hAB : ∀ l ∈ A ++ B, Asc lt l := fun l hl => (List.mem_append.mp hl).elim (hA l) (hB l)
  have hBC : ∀ l ∈ B ++ C, Asc lt l := fun l hl => (List.mem_append.mp hl).elim (hB l) (hC l)
  have hR' : ∀ l ∈ R, Asc lt l := fun l hl => hAB l ((hR.mem l).mp hl).1
  have hS' : ∀ l ∈ S, Asc lt l := fun l hl => hBC l ((hS.mem l).mp hl).1
  refine hP.eq_of_cof T hQ (fun l hl => (List.mem_append.mp hl).elim (hR' l) (hC l)) (fun l hl => (List.mem_append.mp hl).elim (hA l) (hS' l)) ?_ ?_
  · intro l hl
    have go : l ∈ A ++ B ∨ l ∈ C := by
      rcases List.mem_append.mp hl with z | z
      · exact .inl (List.mem_append_left _ z)
      · rcases List.mem_append.mp ((hS.mem l).mp z).1 with y | y
        · exact .inl (List.mem_append_right _ y)
        · exact .inr y
    rcases go with z | z
    · obtain ⟨r, hr, s⟩ := hR.cof T hAB l z
      exact ⟨r, List.mem_append_left _ hr, s⟩
    · exact ⟨l, List.mem_append_right _ z, List.Subset.refl l⟩
  · intro l hl
    have go : l ∈ A ∨ l ∈ B ++ C := by
      rcases List.mem_append.mp hl with z | z
      · rcases List.mem_append.mp ((hR.mem l).mp z).1 with y | y
        · exact .inl y
        · exact .inr (List.mem_append_left _ y)
      · exact .inr (List.mem_append_right _ z)
    rcases go with z | z
    · exact ⟨l, List.mem_append_left _ z, List.Subset.refl l⟩
    · obtain ⟨r, hr, s⟩ := hS.cof T hBC l z
      exact ⟨r, List.mem_append_right _ hr, s⟩
theorem either_comm (T : Tot lt) {A B P Q : List (List α)} (hP : Min lt P (A ++ B)) (hQ : Min lt Q (B ++ A)) : P = Q := hP.uniq T hQ fun x => by
  rw [List.mem_append, List.mem_append]
  exact or_comm
/-! ### a keeper fallen -/
def fall (n : α) (A : List (List α)) : List (List α) := A.filter fun a => !a.contains n
theorem mem_fall {n : α} {A : List (List α)} {a : List α} : a ∈ fall n A ↔ a ∈ A ∧ n ∉ a := by
  unfold fall
  rw [List.mem_filter]
  simp
theorem Fam.fall {A : List (List α)} (h : Fam lt A) (n : α) : Fam lt (fall n A) := ⟨List.Pairwise.filter _ h.asc, fun a ha => h.lots a (mem_fall.mp ha).1, fun a ha => h.full a (mem_fall.mp ha).1, fun a ha b hb z => h.anti a (mem_fall.mp ha).1 b (mem_fall.mp hb).1 z⟩
theorem fall_both (T : Tot lt) {A B U R V P : List (List α)} (n : α) (hU : Cup lt U A B) (hR : Min lt R U) (hV : Cup lt V (fall n A) (fall n B)) (hP : Min lt P V) : P = fall n R := by
  have hRf : Fam lt (fall n R) → True := fun _ => trivial
  have aR : ∀ l ∈ fall n R, Asc lt l := fun l hl => hU.asc l ((hR.mem l).mp (mem_fall.mp hl).1).1
  have mR : Min lt (fall n R) (fall n R) := min_self (List.Pairwise.filter _ hR.asc) fun a ha b hb z => hR.anti a (mem_fall.mp ha).1 b (mem_fall.mp hb).1 z
  refine hP.eq_of_cof T mR hV.asc aR ?_ ?_
  · intro r hr
    obtain ⟨h1, h2⟩ := mem_fall.mp hr
    obtain ⟨a, ha, b, hb, e⟩ := hU.of r ((hR.mem r).mp h1).1
    obtain ⟨v, hv, e2⟩ := hV.all a (mem_fall.mpr ⟨ha, fun z => h2 ((e n).mpr (.inl z))⟩) b (mem_fall.mpr ⟨hb, fun z => h2 ((e n).mpr (.inr z))⟩)
    exact ⟨v, hv, fun x hx => (e x).mpr ((e2 x).mp hx)⟩
  · intro v hv
    obtain ⟨a, ha, b, hb, e⟩ := hV.of v hv
    obtain ⟨ha, na⟩ := mem_fall.mp ha
    obtain ⟨hb, nb⟩ := mem_fall.mp hb
    obtain ⟨u, hu, e2⟩ := hU.all a ha b hb
    obtain ⟨r, hr, s⟩ := hR.cof T hU.asc u hu
    refine ⟨r, mem_fall.mpr ⟨hr, fun z => ((e2 n).mp (s z)).elim na nb⟩, fun x hx => (e x).mpr ((e2 x).mp (s hx))⟩
theorem fall_both_none (T : Tot lt) {A B U R : List (List α)} (n : α) (hU : Cup lt U A B) (hR : Min lt R U) : fall n R = [] ↔ fall n A = [] ∨ fall n B = [] := by
  rw [List.eq_nil_iff_forall_not_mem, List.eq_nil_iff_forall_not_mem, List.eq_nil_iff_forall_not_mem]
  constructor
  · intro h
    by_cases z : ∀ a, ¬ a ∈ fall n A
    · exact .inl z
    · right
      intro b hb
      have ⟨a, ha⟩ := Classical.not_forall.mp z
      obtain ⟨ha, na⟩ := mem_fall.mp (Classical.not_not.mp ha)
      obtain ⟨hb, nb⟩ := mem_fall.mp hb
      obtain ⟨u, hu, e⟩ := hU.all a ha b hb
      obtain ⟨r, hr, s⟩ := hR.cof T hU.asc u hu
      exact h r (mem_fall.mpr ⟨hr, fun z => ((e n).mp (s z)).elim na nb⟩)
  · intro h r hr
    obtain ⟨h1, h2⟩ := mem_fall.mp hr
    obtain ⟨a, ha, b, hb, e⟩ := hU.of r ((hR.mem r).mp h1).1
    rcases h with z | z
    · exact z a (mem_fall.mpr ⟨ha, fun y => h2 ((e n).mpr (.inl y))⟩)
    · exact z b (mem_fall.mpr ⟨hb, fun y => h2 ((e n).mpr (.inr y))⟩)
theorem fall_either (T : Tot lt) {A B R P : List (List α)} (n : α) (hA : ∀ a ∈ A, Asc lt a) (hB : ∀ a ∈ B, Asc lt a) (hR : Min lt R (A ++ B)) (hP : Min lt P (fall n A ++ fall n B)) : P = fall n R := by
  have hAB : ∀ l ∈ A ++ B, Asc lt l := fun l hl => (List.mem_append.mp hl).elim (hA l) (hB l)
  have aR : ∀ l ∈ fall n R, Asc lt l := fun l hl => hAB l ((hR.mem l).mp (mem_fall.mp hl).1).1
  have mR : Min lt (fall n R) (fall n R) := min_self (List.Pairwise.filter _ hR.asc) fun a ha b hb z => hR.anti a (mem_fall.mp ha).1 b (mem_fall.mp hb).1 z
  have mem : ∀ l, l ∈ fall n A ++ fall n B ↔ l ∈ A ++ B ∧ n ∉ l := fun l => by
    rw [List.mem_append, List.mem_append, mem_fall, mem_fall]
    constructor
    · rintro (⟨a, b⟩ | ⟨a, b⟩)
      · exact ⟨.inl a, b⟩
      · exact ⟨.inr a, b⟩
    · rintro ⟨a | a, b⟩
      · exact .inl ⟨a, b⟩
      · exact .inr ⟨a, b⟩
  refine hP.eq_of_cof T mR (fun l hl => hAB l ((mem l).mp hl).1) aR ?_ ?_
  · intro r hr
    obtain ⟨h1, h2⟩ := mem_fall.mp hr
    exact ⟨r, (mem r).mpr ⟨((hR.mem r).mp h1).1, h2⟩, List.Subset.refl r⟩
  · intro l hl
    obtain ⟨h1, h2⟩ := (mem l).mp hl
    obtain ⟨r, hr, s⟩ := hR.cof T hAB l h1
    exact ⟨r, mem_fall.mpr ⟨hr, fun z => h2 (s z)⟩, s⟩
end Lot
/-! text P3 -/
set_option Elab.async false
set_option linter.all false
set_option maxHeartbeats 1000000
/-! families of lots: trusted, least lots of both: plain -/
namespace Lot
variable {α : Type} [DecidableEq α] {lt : α → α → Bool}
/-! ### a keeper trusted -/
def drop1 (n : α) (a : List α) : List α := a.filter fun x => !decide (x = n)
theorem mem_drop1 {n x : α} {a : List α} : x ∈ drop1 n a ↔ x ∈ a ∧ x ≠ n := by
  unfold drop1
  rw [List.mem_filter]
  simp
theorem asc_drop1 {n : α} {a : List α} (h : Asc lt a) : Asc lt (drop1 n a) := List.Pairwise.filter _ h
theorem drop1_sub {n : α} {a b : List α} (h : a ⊆ b) : drop1 n a ⊆ drop1 n b := fun x hx => mem_drop1.mpr ⟨h (mem_drop1.mp hx).1, (mem_drop1.mp hx).2⟩
def trust (n : α) (A : List (List α)) : List (List α) := A.map (drop1 n)
theorem mem_trust {n : α} {A : List (List α)} {t : List α} : t ∈ trust n A ↔ ∃ a ∈ A, drop1 n a = t := List.mem_map
theorem trust_asc {n : α} {A : List (List α)} (h : ∀ a ∈ A, Asc lt a) : ∀ t ∈ trust n A, Asc lt t := fun t ht => by
  obtain ⟨a, ha, rfl⟩ := mem_trust.mp ht
  exact asc_drop1 (h a ha)
theorem trust_cof {n : α} {A B : List (List α)} (h : Cof A B) : Cof (trust n A) (trust n B) := fun t ht => by
  obtain ⟨b, hb, rfl⟩ := mem_trust.mp ht
  obtain ⟨a, ha, s⟩ := h b hb
  exact ⟨_, mem_trust.mpr ⟨a, ha, rfl⟩, drop1_sub s⟩
theorem trust_full {n : α} {A : List (List α)} (h : ¬ [] ∈ trust n A) : ∀ t ∈ trust n A, t ≠ [] := fun t ht e => h (by rw [← e]; exact ht)
/-- both of the trusted ones -/
theorem trust_both (T : Tot lt) {A B U R TA TB TR V P : List (List α)} (n : α) (hA : ∀ a ∈ A, Asc lt a) (hB : ∀ a ∈ B, Asc lt a) (hU : Cup lt U A B) (hR : Min lt R U) (hTA : Min lt TA (trust n A)) (hTB : Min lt TB (trust n B)) (hTR : Min lt TR (trust n R)) (hV : Cup lt V TA TB) (hP : Min lt P V) : P = TR := by
  have aR : ∀ l ∈ R, Asc lt l := fun l hl => hU.asc l ((hR.mem l).mp hl).1
  refine hP.eq_of_cof T hTR hV.asc (trust_asc aR) ?_ ?_
  · intro t ht
    obtain ⟨r, hr, rfl⟩ := mem_trust.mp ht
    obtain ⟨a, ha, b, hb, e⟩ := hU.of r ((hR.mem r).mp hr).1
    obtain ⟨ta, h1, s1⟩ := hTA.cof T (trust_asc hA) _ (mem_trust.mpr ⟨a, ha, rfl⟩)
    obtain ⟨tb, h2, s2⟩ := hTB.cof T (trust_asc hB) _ (mem_trust.mpr ⟨b, hb, rfl⟩)
    obtain ⟨v, hv, e2⟩ := hV.all ta h1 tb h2
    refine ⟨v, hv, fun x hx => ?_⟩
    rcases (e2 x).mp hx with z | z
    · have q := mem_drop1.mp (s1 z)
      exact mem_drop1.mpr ⟨(e x).mpr (.inl q.1), q.2⟩
    · have q := mem_drop1.mp (s2 z)
      exact mem_drop1.mpr ⟨(e x).mpr (.inr q.1), q.2⟩
  · intro v hv
    obtain ⟨ta, h1, tb, h2, e⟩ := hV.of v hv
    obtain ⟨a, ha, ea⟩ := mem_trust.mp ((hTA.mem ta).mp h1).1
    obtain ⟨b, hb, eb⟩ := mem_trust.mp ((hTB.mem tb).mp h2).1
    subst ea eb
    obtain ⟨u, hu, e2⟩ := hU.all a ha b hb
    obtain ⟨r, hr, s⟩ := hR.cof T hU.asc u hu
    refine ⟨_, mem_trust.mpr ⟨r, hr, rfl⟩, fun x hx => (e x).mpr ?_⟩
    obtain ⟨q1, q2⟩ := mem_drop1.mp hx
    rcases (e2 x).mp (s q1) with z | z
    · exact .inl (mem_drop1.mpr ⟨z, q2⟩)
    · exact .inr (mem_drop1.mpr ⟨z, q2⟩)
/-- either of the trusted ones -/
theorem trust_either (T : Tot lt) {A B R TA TB TR P : List (List α)} (n : α) (hA : ∀ a ∈ A, Asc lt a) (hB : ∀ a ∈ B, Asc lt a) (hR : Min lt R (A ++ B)) (hTA : Min lt TA (trust n A)) (hTB : Min lt TB (trust n B)) (hTR : Min lt TR (trust n R)) (hP : Min lt P (TA ++ TB)) : P = TR := by
  have hAB : ∀ l ∈ A ++ B, Asc lt l := fun l hl => (List.mem_append.mp hl).elim (hA l) (hB l)
  have aR : ∀ l ∈ R, Asc lt l := fun l hl => hAB l ((hR.mem l).mp hl).1
  have aTA : ∀ l ∈ TA, Asc lt l := fun l hl => trust_asc hA l ((hTA.mem l).mp hl).1
  have aTB : ∀ l ∈ TB, Asc lt l := fun l hl => trust_asc hB l ((hTB.mem l).mp hl).1
  refine hP.eq_of_cof T hTR (fun l hl => (List.mem_append.mp hl).elim (aTA l) (aTB l)) (trust_asc aR) ?_ ?_
  · intro t ht
    obtain ⟨r, hr, rfl⟩ := mem_trust.mp ht
    rcases List.mem_append.mp ((hR.mem r).mp hr).1 with z | z
    · obtain ⟨ta, h1, s1⟩ := hTA.cof T (trust_asc hA) _ (mem_trust.mpr ⟨r, z, rfl⟩)
      exact ⟨ta, List.mem_append_left _ h1, s1⟩
    · obtain ⟨tb, h1, s1⟩ := hTB.cof T (trust_asc hB) _ (mem_trust.mpr ⟨r, z, rfl⟩)
      exact ⟨tb, List.mem_append_right _ h1, s1⟩
  · intro t ht
    have go : ∃ a ∈ A ++ B, drop1 n a = t := by
      rcases List.mem_append.mp ht with z | z
      · obtain ⟨a, ha, e⟩ := mem_trust.mp ((hTA.mem t).mp z).1
        exact ⟨a, List.mem_append_left _ ha, e⟩
      · obtain ⟨a, ha, e⟩ := mem_trust.mp ((hTB.mem t).mp z).1
        exact ⟨a, List.mem_append_right _ ha, e⟩
    obtain ⟨a, ha, rfl⟩ := go
    obtain ⟨r, hr, s⟩ := hR.cof T hAB a ha
    exact ⟨_, mem_trust.mpr ⟨r, hr, rfl⟩, drop1_sub s⟩
theorem drop1_nil {n : α} {a : List α} : drop1 n a = [] ↔ ∀ x ∈ a, x = n := by
  rw [List.eq_nil_iff_forall_not_mem]
  exact ⟨fun h x hx => Classical.byContradiction fun z => h x (mem_drop1.mpr ⟨hx, z⟩), fun h x hx => (mem_drop1.mp hx).2 (h x (mem_drop1.mp hx).1)⟩
theorem trust_nil {n : α} {A : List (List α)} : [] ∈ trust n A ↔ ∃ a ∈ A, ∀ x ∈ a, x = n := by
  rw [mem_trust]
  exact ⟨fun ⟨a, h, e⟩ => ⟨a, h, drop1_nil.mp e⟩, fun ⟨a, h, e⟩ => ⟨a, h, drop1_nil.mpr e⟩⟩
theorem trust_both_none (T : Tot lt) {A B U R : List (List α)} (n : α) (hU : Cup lt U A B) (hR : Min lt R U) : [] ∈ trust n R ↔ [] ∈ trust n A ∧ [] ∈ trust n B := by
  rw [trust_nil, trust_nil, trust_nil]
  constructor
  · rintro ⟨r, hr, h⟩
    obtain ⟨a, ha, b, hb, e⟩ := hU.of r ((hR.mem r).mp hr).1
    exact ⟨⟨a, ha, fun x hx => h x ((e x).mpr (.inl hx))⟩, ⟨b, hb, fun x hx => h x ((e x).mpr (.inr hx))⟩⟩
  · rintro ⟨⟨a, ha, h1⟩, b, hb, h2⟩
    obtain ⟨u, hu, e⟩ := hU.all a ha b hb
    obtain ⟨r, hr, s⟩ := hR.cof T hU.asc u hu
    exact ⟨r, hr, fun x hx => ((e x).mp (s hx)).elim (h1 x) (h2 x)⟩
theorem trust_either_none (T : Tot lt) {A B R : List (List α)} (n : α) (hA : ∀ a ∈ A, Asc lt a) (hB : ∀ a ∈ B, Asc lt a) (hR : Min lt R (A ++ B)) : [] ∈ trust n R ↔ [] ∈ trust n A ∨ [] ∈ trust n B := by
  have hAB : ∀ l ∈ A ++ B, Asc lt l := fun l hl => (List.mem_append.mp hl).elim (hA l) (hB l)
  rw [trust_nil, trust_nil, trust_nil]
  constructor
  · rintro ⟨r, hr, h⟩
    rcases List.mem_append.mp ((hR.mem r).mp hr).1 with z | z
    · exact .inl ⟨r, z, h⟩
    · exact .inr ⟨r, z, h⟩
  · have go : ∀ a ∈ A ++ B, (∀ x ∈ a, x = n) → ∃ r ∈ R, ∀ x ∈ r, x = n := fun a ha h => by
      obtain ⟨r, hr, s⟩ := hR.cof T hAB a ha
      exact ⟨r, hr, fun x hx => h x (s hx)⟩
    rintro (⟨a, ha, h⟩ | ⟨a, ha, h⟩)
    · exact go a (List.mem_append_left _ ha) h
    · exact go a (List.mem_append_right _ ha) h
theorem fall_either_none (T : Tot lt) {A B R : List (List α)} (n : α) (hA : ∀ a ∈ A, Asc lt a) (hB : ∀ a ∈ B, Asc lt a) (hR : Min lt R (A ++ B)) : fall n R = [] ↔ fall n A = [] ∧ fall n B = [] := by
  have hAB : ∀ l ∈ A ++ B, Asc lt l := fun l hl => (List.mem_append.mp hl).elim (hA l) (hB l)
  rw [List.eq_nil_iff_forall_not_mem, List.eq_nil_iff_forall_not_mem, List.eq_nil_iff_forall_not_mem]
  have go : (∀ r, ¬ r ∈ fall n R) ↔ ∀ a ∈ A ++ B, n ∈ a := by
    constructor
    · intro h a ha
      refine Classical.byContradiction fun z => ?_
      obtain ⟨r, hr, s⟩ := hR.cof T hAB a ha
      exact h r (mem_fall.mpr ⟨hr, fun y => z (s y)⟩)
    · intro h r hr
      obtain ⟨h1, h2⟩ := mem_fall.mp hr
      exact h2 (h r ((hR.mem r).mp h1).1)
  rw [go]
  constructor
  · intro h
    exact ⟨fun a ha => (mem_fall.mp ha).2 (h a (List.mem_append_left _ (mem_fall.mp ha).1)), fun a ha => (mem_fall.mp ha).2 (h a (List.mem_append_right _ (mem_fall.mp ha).1))⟩
  · rintro ⟨h1, h2⟩ a ha
    refine Classical.byContradiction fun z => ?_
    rcases List.mem_append.mp ha with y | y
    · exact h1 a (mem_fall.mpr ⟨y, z⟩)
    · exact h2 a (mem_fall.mpr ⟨y, z⟩)
/-! ### a lot of both with one keeper less -/
theorem both_least (T : Tot lt) {A B U R : List (List α)} (hU : Cup lt U A B) (hR : Min lt R U) {r s : List α} (hr : r ∈ R) (hs : s ⊆ r) (hl : s.length < r.length) : ¬ ((∃ a ∈ A, a ⊆ s) ∧ ∃ b ∈ B, b ⊆ s) := by
  rintro ⟨⟨a, ha, sa⟩, b, hb, sb⟩
  obtain ⟨u, hu, e⟩ := hU.all a ha b hb
  have us : u ⊆ s := fun x hx => ((e x).mp hx).elim (fun z => sa z) (fun z => sb z)
  have q := ((hR.mem r).mp hr).2 u hu (List.Subset.trans us hs)
  subst q
  have len := sub_len ((hU.asc _ hu).nodup T) us
  omega
theorem both_in {A B U R : List (List α)} (hU : Cup lt U A B) (hR : Min lt R U) {r : List α} (hr : r ∈ R) : (∃ a ∈ A, a ⊆ r) ∧ ∃ b ∈ B, b ⊆ r := by
  obtain ⟨a, ha, b, hb, e⟩ := hU.of r ((hR.mem r).mp hr).1
  exact ⟨⟨a, ha, fun x hx => (e x).mpr (.inl hx)⟩, b, hb, fun x hx => (e x).mpr (.inr hx)⟩
end Lot
/-! text P4 -/
set_option Elab.async false
set_option linter.all false
set_option maxHeartbeats 1000000
/-! the least lots, as they are found: plain -/
namespace Lot
variable {α : Type} [DecidableEq α] {lt : α → α → Bool}
def hasIn (found : List (List α)) (l : List α) : Bool := found.any fun f => f.all fun x => decide (x ∈ l)
theorem hasIn_iff {found : List (List α)} {l : List α} : hasIn found l = true ↔ ∃ f ∈ found, f ⊆ l := by
  unfold hasIn
  rw [List.any_eq_true]
  constructor
  · rintro ⟨f, hf, z⟩
    exact ⟨f, hf, fun x hx => of_decide_eq_true (List.all_eq_true.mp z x hx)⟩
  · rintro ⟨f, hf, z⟩
    exact ⟨f, hf, List.all_eq_true.mpr fun x hx => decide_eq_true (z hx)⟩
/-- one lot behind another, what holds none found is found -/
def greedy : List (List α) → List (List α) → List (List α)
  | found, [] => found
  | found, l :: r => if hasIn found l = true then greedy found r else greedy (found ++ [l]) r
theorem mn_step (T : Tot lt) {found p : List (List α)} {l : List α} (h : Mn found p) (hp : ∀ a ∈ p, Asc lt a) (hl : Asc lt l) (len : ∀ a ∈ p, a.length ≤ l.length) : Mn (if hasIn found l = true then found else found ++ [l]) (p ++ [l]) := by
  intro r
  by_cases z : hasIn found l = true
  · rw [if_pos z]
    obtain ⟨f, hf, sf⟩ := hasIn_iff.mp z
    have hfp := (h f).mp hf
    constructor
    · intro hr
      obtain ⟨h1, h2⟩ := (h r).mp hr
      refine ⟨List.mem_append_left _ h1, fun s hs q => ?_⟩
      rcases List.mem_append.mp hs with y | y
      · exact h2 s y q
      · have e := List.mem_singleton.mp y
        subst e
        have e2 := h2 f hfp.1 (List.Subset.trans sf q)
        subst e2
        exact asc_anti T hl (hp _ h1) q sf
    · rintro ⟨h1, h2⟩
      rcases List.mem_append.mp h1 with y | y
      · exact (h r).mpr ⟨y, fun s hs q => h2 s (List.mem_append_left _ hs) q⟩
      · have e := List.mem_singleton.mp y
        subst e
        rw [← h2 f (List.mem_append_left _ hfp.1) sf]
        exact hf
  · rw [if_neg z]
    have no : ∀ f ∈ found, ¬ f ⊆ l := fun f hf s => z (hasIn_iff.mpr ⟨f, hf, s⟩)
    constructor
    · intro hr
      rcases List.mem_append.mp hr with y | y
      · obtain ⟨h1, h2⟩ := (h r).mp y
        refine ⟨List.mem_append_left _ h1, fun s hs q => ?_⟩
        rcases List.mem_append.mp hs with w | w
        · exact h2 s w q
        · have e := List.mem_singleton.mp w
          subst e
          exact absurd (sub_back (hl.nodup T) q (len r h1)) (no r y)
      · have e := List.mem_singleton.mp y
        subst e
        refine ⟨List.mem_append_right _ y, fun s hs q => ?_⟩
        rcases List.mem_append.mp hs with w | w
        · obtain ⟨f, hf, sf⟩ := mn_below T h hp s.length s (Nat.le_refl _) w
          exact absurd (List.Subset.trans sf q) (no f hf)
        · exact List.mem_singleton.mp w
    · rintro ⟨h1, h2⟩
      rcases List.mem_append.mp h1 with y | y
      · exact List.mem_append_left _ ((h r).mpr ⟨y, fun s hs q => h2 s (List.mem_append_left _ hs) q⟩)
      · exact List.mem_append_right _ y
theorem greedy_mn (T : Tot lt) : ∀ {r found p : List (List α)}, Mn found p → found.Nodup → (∀ a ∈ p ++ r, Asc lt a) → (p ++ r).Pairwise (fun a b => a.length ≤ b.length) → Mn (greedy found r) (p ++ r) ∧ (greedy found r).Nodup
  | [], found, p, h, nd, _, _ => by
    rw [List.append_nil]
    exact ⟨h, nd⟩
  | l :: r, found, p, h, nd, ha, hs => by
    have hp : ∀ a ∈ p, Asc lt a := fun a h => ha a (List.mem_append_left _ h)
    have hl : Asc lt l := ha l (List.mem_append_right _ List.mem_cons_self)
    have len : ∀ a ∈ p, a.length ≤ l.length := fun a h => (List.pairwise_append.mp hs).2.2 a h l List.mem_cons_self
    have st := mn_step T h hp hl len
    have e : p ++ l :: r = (p ++ [l]) ++ r := by rw [List.append_assoc]; rfl
    rw [e] at ha hs ⊢
    unfold greedy
    by_cases z : hasIn found l = true
    · rw [if_pos z] at st ⊢
      exact greedy_mn T st nd ha hs
    · rw [if_neg z] at st ⊢
      refine greedy_mn T st ?_ ha hs
      refine List.nodup_append.mpr ⟨nd, by simp, fun a h b hb q => ?_⟩
      have e2 := List.mem_singleton.mp hb
      rw [e2] at q
      rw [q] at h
      exact z (hasIn_iff.mpr ⟨l, h, List.Subset.refl l⟩)
theorem greedy_all (T : Tot lt) {s : List (List α)} (ha : ∀ a ∈ s, Asc lt a) (hs : s.Pairwise fun a b => a.length ≤ b.length) : Mn (greedy [] s) s ∧ (greedy [] s).Nodup := by
  have q := greedy_mn T (r := s) (found := []) (p := []) (fun r => by simp) List.nodup_nil ha hs
  exact q
theorem mn_perm {R S L M : List (List α)} (h : Mn R L) (p : ∀ x, x ∈ S ↔ x ∈ R) (q : ∀ x, x ∈ M ↔ x ∈ L) : Mn S M := fun r => by
  rw [p, h r, q]
  exact ⟨fun z => ⟨z.1, fun s hs => z.2 s ((q s).mp hs)⟩, fun z => ⟨z.1, fun s hs => z.2 s ((q s).mpr hs)⟩⟩
/-- sorted, none twice: ascending -/
theorem asc_of_sorted {lt' : α → α → Bool} (T : Tot lt') {l : List α} (h : l.Pairwise fun a b => lt' b a = false) (n : l.Nodup) : Asc lt' l := by
  refine List.Pairwise.imp_of_mem ?_ (List.pairwise_and_iff.mpr ⟨h, n⟩)
  rintro a b _ _ ⟨h1, h2⟩
  cases e : lt' a b with
  | true => rfl
  | false => exact absurd (T.di _ _ e h1) h2
end Lot
/-! text P5 -/
set_option Elab.async false
set_option linter.all false
set_option maxHeartbeats 1000000
/-! families renamed: plain -/
namespace Lot
variable {α : Type} [DecidableEq α] {lt : α → α → Bool}
/-- y: the lot x by other names -/
structure RenL (lt : α → α → Bool) (f : α → α) (x y : List α) : Prop where
  asc : Asc lt y
  mem : ∀ b, b ∈ y ↔ ∃ a ∈ x, f a = b
/-- B: the lots of A by other names -/
structure Ren (lt : α → α → Bool) (f : α → α) (A B : List (List α)) : Prop where
  asc : Asc (lex lt) B
  to : ∀ x ∈ A, ∃ y ∈ B, RenL lt f x y
  of : ∀ y ∈ B, ∃ x ∈ A, RenL lt f x y
def InjOn (f : α → α) (K : List α) : Prop := ∀ a ∈ K, ∀ b ∈ K, f a = f b → a = b
theorem RenL.sub {f : α → α} {K x y u v : List α} (i : InjOn f K) (hx : x ⊆ K) (hu : u ⊆ K) (h : RenL lt f x y) (h' : RenL lt f u v) : y ⊆ v ↔ x ⊆ u := by
  constructor
  · intro z a ha
    obtain ⟨b, hb, e⟩ := (h'.mem _).mp (z ((h.mem (f a)).mpr ⟨a, ha, rfl⟩))
    rw [i a (hx ha) b (hu hb) e.symm]
    exact hb
  · intro z b hb
    obtain ⟨a, ha, e⟩ := (h.mem b).mp hb
    exact (h'.mem b).mpr ⟨a, z ha, e⟩
theorem Ren.min (T : Tot lt) {f : α → α} {K : List α} {A B : List (List α)} (i : InjOn f K) (hK : ∀ a ∈ A, a ⊆ K) (hA : ∀ a ∈ A, Asc lt a) (an : Anti A) (h : Ren lt f A B) : Min lt B B := by
  refine min_self h.asc fun y hy v hv z => ?_
  obtain ⟨x, hx, r⟩ := h.of y hy
  obtain ⟨u, hu, r'⟩ := h.of v hv
  have s := (r.sub i (hK x hx) (hK u hu) r').mp z
  have e := an x hx u hu s
  subst e
  exact asc_anti T r.asc r'.asc z fun b hb => (r.mem b).mpr ((r'.mem b).mp hb)
/-- both of the renamed ones is both renamed -/
theorem ren_both (T : Tot lt) {f : α → α} {K : List α} {A B A' B' U U' R P Q : List (List α)} (i : InjOn f K) (hAK : ∀ a ∈ A, a ⊆ K) (hBK : ∀ b ∈ B, b ⊆ K) (rA : Ren lt f A A') (rB : Ren lt f B B') (hU : Cup lt U A B) (hR : Min lt R U) (hU' : Cup lt U' A' B') (hP : Min lt P U') (rQ : Ren lt f R Q) : P = Q := by
  have hUK : ∀ u ∈ U, u ⊆ K := fun u hu x hx => by
    obtain ⟨a, ha, b, hb, e⟩ := hU.of u hu
    rcases (e x).mp hx with z | z
    · exact hAK a ha z
    · exact hBK b hb z
  have hRK : ∀ r ∈ R, r ⊆ K := fun r hr => hUK r ((hR.mem r).mp hr).1
  have hRa : ∀ r ∈ R, Asc lt r := fun r hr => hU.asc r ((hR.mem r).mp hr).1
  have hQ := rQ.min T i hRK hRa hR.anti
  have hQa : ∀ q ∈ Q, Asc lt q := fun q hq => by
    obtain ⟨x, _, r⟩ := rQ.of q hq
    exact r.asc
  refine hP.eq_of_cof T hQ hU'.asc hQa ?_ ?_
  · intro q hq
    obtain ⟨r, hr, e⟩ := rQ.of q hq
    obtain ⟨a, ha, b, hb, e2⟩ := hU.of r ((hR.mem r).mp hr).1
    obtain ⟨a', ha', ea⟩ := rA.to a ha
    obtain ⟨b', hb', eb⟩ := rB.to b hb
    obtain ⟨u', hu', e3⟩ := hU'.all a' ha' b' hb'
    refine ⟨u', hu', fun y hy => (e.mem y).mpr ?_⟩
    rcases (e3 y).mp hy with z | z
    · obtain ⟨x, hx, q2⟩ := (ea.mem y).mp z
      exact ⟨x, (e2 x).mpr (.inl hx), q2⟩
    · obtain ⟨x, hx, q2⟩ := (eb.mem y).mp z
      exact ⟨x, (e2 x).mpr (.inr hx), q2⟩
  · intro u' hu'
    obtain ⟨a', ha', b', hb', e⟩ := hU'.of u' hu'
    obtain ⟨a, ha, ea⟩ := rA.of a' ha'
    obtain ⟨b, hb, eb⟩ := rB.of b' hb'
    obtain ⟨u, hu, e2⟩ := hU.all a ha b hb
    obtain ⟨r, hr, s⟩ := hR.cof T hU.asc u hu
    obtain ⟨q, hq, e3⟩ := rQ.to r hr
    refine ⟨q, hq, fun y hy => (e y).mpr ?_⟩
    obtain ⟨x, hx, q2⟩ := (e3.mem y).mp hy
    rcases (e2 x).mp (s hx) with z | z
    · exact .inl ((ea.mem y).mpr ⟨x, z, q2⟩)
    · exact .inr ((eb.mem y).mpr ⟨x, z, q2⟩)
theorem Ren.fam (T : Tot lt) {f : α → α} {K : List α} {A B : List (List α)} (i : InjOn f K) (hK : ∀ a ∈ A, a ⊆ K) (h : Fam lt A) (r : Ren lt f A B) : Fam lt B := by
  refine ⟨r.asc, fun y hy => ?_, fun y hy e => ?_, (r.min T i hK h.lots h.anti).anti⟩
  · obtain ⟨x, _, q⟩ := r.of y hy
    exact q.asc
  · obtain ⟨x, hx, q⟩ := r.of y hy
    cases x with
    | nil => exact h.full _ hx rfl
    | cons a x =>
      have z := (q.mem (f a)).mpr ⟨a, List.mem_cons_self, rfl⟩
      rw [e] at z
      cases z
end Lot
/-! text P6 -/
set_option Elab.async false
set_option linter.all false
set_option maxHeartbeats 1000000
/-! the order of texts, of lists of texts; families of texts: plain -/
namespace Lot
open PySem PySem.W
abbrev sl : Str → Str → Bool := DatumOrd.lt
theorem sl_tot : Tot sl := by
  refine ⟨fun a => ?_, fun a b c h1 h2 => ?_, fun a b h1 h2 => ?_⟩
  · exact decide_eq_false (List.lt_irrefl _)
  · have h1 := of_decide_eq_true h1
    have h2 := of_decide_eq_true h2
    exact decide_eq_true (List.lt_trans h1 h2)
  · have h1 := of_decide_eq_false h1
    have h2 := of_decide_eq_false h2
    have e : a.cps.toList = b.cps.toList := List.le_antisymm (List.not_lt.mp h2) (List.not_lt.mp h1)
    cases a
    cases b
    exact congrArg _ (Array.toList_inj.mp e)
theorem ll_lex : ∀ (a b : List Str), (DatumOrd.lt a b : Bool) = lex sl a b
  | [], [] => rfl
  | [], _ :: _ => rfl
  | _ :: _, [] => rfl
  | x :: a, y :: b => by
    show (if x = y then listLt a b else DatumOrd.lt x y) = (if x = y then lex sl a b else sl x y)
    rw [show listLt a b = lex sl a b from ll_lex a b]
theorem ll_tot : Tot (DatumOrd.lt : List Str → List Str → Bool) := by
  have e : (DatumOrd.lt : List Str → List Str → Bool) = lex sl := funext fun a => funext fun b => ll_lex a b
  rw [e]
  exact lex_tot sl_tot
theorem ll_asc {L : List (List Str)} : Asc (DatumOrd.lt : List Str → List Str → Bool) L ↔ Asc (lex sl) L := by
  have e : (DatumOrd.lt : List Str → List Str → Bool) = lex sl := funext fun a => funext fun b => ll_lex a b
  rw [e]
theorem asc_zip {α : Type} {lt : α → α → Bool} : ∀ {l : List α}, Asc lt l → (l.zipWith lt (l.drop 1)).all id = true
  | [], _ => rfl
  | [a], _ => rfl
  | a :: b :: l, h => by
    obtain ⟨h1, h2⟩ := List.pairwise_cons.mp h
    have ih := asc_zip h2
    show (lt a b && ((b :: l).zipWith lt ((b :: l).drop 1)).all id) = true
    rw [h1 b List.mem_cons_self, ih]
    rfl
/-- keepers, a lot of some, a family: of texts -/
structure GoodK (good : Str → Bool) (ks : List Str) : Prop where
  ne : ks ≠ []
  all : ∀ x ∈ ks, good x = true
  asc : Asc sl ks
  len : ks.length ≤ 100
structure GoodL (ks l : List Str) : Prop where
  ne : l ≠ []
  asc : Asc sl l
  sub : l ⊆ ks
structure GoodF (good : Str → Bool) (F : List Str × List (List Str)) : Prop where
  ks : GoodK good F.1
  ne : F.2 ≠ []
  len : F.2.length ≤ 1000
  lots : ∀ l ∈ F.2, GoodL F.1 l
  asc : Asc (lex sl) F.2
  anti : Anti F.2
theorem GoodL.len {ks l : List Str} (h : GoodL ks l) : l.length ≤ ks.length := sub_len (h.asc.nodup sl_tot) h.sub
theorem GoodF.fam {good : Str → Bool} {F : List Str × List (List Str)} (h : GoodF good F) : Fam sl F.2 := ⟨h.asc, fun a m => (h.lots a m).asc, fun a m => (h.lots a m).ne, h.anti⟩
theorem GoodF.len2 {good : Str → Bool} {F : List Str × List (List Str)} (h : GoodF good F) : ∀ l ∈ F.2, l.length ≤ 100 := fun l m => Nat.le_trans (h.lots l m).len h.ks.len
end Lot
/-! text W13 -/
set_option Elab.async false
set_option linter.all false
set_option maxHeartbeats 2000000
/-! typed: sorted, sets of texts in order, lists joined -/
namespace Dw
open PySem PySem.Spec PyProof.Rows L2 Evl PySem.W DV RZ StX
section
variable {α β γ : Type} [DecidableEq β] [Datum β] [DV β] [DecidableEq γ] [Datum γ] [DV γ] {K : PySem.W.Frag} {σ : L2.St} {H H' A A0 H0 : Hp} {te ta tb : TE} {tt : TT} {D : Ends}
theorem ed_sorted [DecidableEq α] [DatumOrd α] [DV α] {xs : List α} (h : EvD te σ A xs) : EvD (tCB (rSortedW α) (tCons te tNil)) σ A (srt xs) := fun H1 e Q q => h H1 e _ fun v H2 Hs e2 s r => by
  obtain ⟨a, vs, rfl, h1, h2⟩ := r
  refine ⟨a, xs, Hs, rfl, s.e, ⟨a, vs, rfl, h1, h2⟩, fun p ws np hr => ?_⟩
  exact q _ _ (upd Hs p (.lst ws)) (e2.trans (Ex.new np)) (sup_new e2 s np) ⟨p, ws, rfl, upd_same, Reps.ext (Ex.new (sup_no s np)) hr⟩
theorem ed_sortedT [DecidableEq α] [DatumOrd α] [DV α] {xs : List (Tup α)} (h : EvD te σ A xs) (n : ∀ x ∈ xs, x.items ≠ []) : EvD (tCB (rSortedWT α) (tCons te tNil)) σ A (srt xs) := fun H1 e Q q => h H1 e _ fun v H2 Hs e2 s r => by
  obtain ⟨a, vs, rfl, h1, h2⟩ := r
  refine ⟨a, xs, Hs, rfl, s.e, ⟨a, vs, rfl, h1, h2⟩, n, fun p ws np hr => ?_⟩
  exact q _ _ (upd Hs p (.lst ws)) (e2.trans (Ex.new np)) (sup_new e2 s np) ⟨p, ws, rfl, upd_same, Reps.ext (Ex.new (sup_no s np)) hr⟩
/-- [*a, *b] -/
theorem ed_stars [DecidableEq α] [Datum α] [DV α] {xs ys : List α} (h : EvD ta σ A xs) (h' : EvD tb σ A ys) (hl : xs.length + ys.length ≤ 100000) : EvD (tLst (tStar K ta (tStar K tb tNil))) σ A (xs ++ ys) := fun H1 e Q q => h H1 e _ fun v H2 Hs e2 s r => by
  obtain ⟨a, vs, rfl, h1, h2⟩ := r
  refine ⟨a, vs, rfl, .inr (sq_of (s.e _ _ h1)), h' H2 (e.trans e2) _ fun u H3 Ht e3 t r' => ?_⟩
  obtain ⟨b, us, rfl, g1, g2⟩ := r'
  refine ⟨b, us, rfl, .inr (sq_of (t.e _ _ g1)), ?_⟩
  have sj := s.join e e2 e3 t
  have R : Reps (jn Hs Ht) (vs ++ (us ++ [])) (xs ++ ys) := by
    rw [List.append_nil]
    exact Reps.app (Reps.ext jn_l h2) (Reps.ext (jn_r (s.e.trans e3) t.e) g2)
  refine ⟨by rw [Reps.len R, List.length_append]; exact sz_of hl, fun p np => ?_⟩
  exact q _ _ (upd (jn Hs Ht) p (.lst (vs ++ (us ++ [])))) ((e2.trans e3).trans (Ex.new np)) (sup_new (e2.trans e3) sj np) ⟨p, _, rfl, upd_same, Reps.ext (Ex.new (sup_no sj np)) R⟩
/-- a + b -/
theorem ed_cat [DecidableEq α] [Datum α] [DV α] {xs ys : List α} (h : EvD ta σ A xs) (h' : EvD tb σ A ys) (hl : xs.length + ys.length ≤ 100000) : EvD (tOp rCat ta tb) σ A (xs ++ ys) := fun H1 e Q q => h H1 e _ fun v H2 Hs e2 s r => h' H2 (e.trans e2) _ fun u H3 Ht e3 t r' => by
  obtain ⟨a, vs, rfl, h1, h2⟩ := r
  obtain ⟨b, us, rfl, g1, g2⟩ := r'
  have sj := s.join e e2 e3 t
  have R : Reps (jn Hs Ht) (vs ++ us) (xs ++ ys) := Reps.app (Reps.ext jn_l h2) (Reps.ext (jn_r (s.e.trans e3) t.e) g2)
  refine ⟨a, b, vs, us, rfl, rfl, e3 _ _ (s.e _ _ h1), t.e _ _ g1, by rw [Reps.len h2, Reps.len g2]; exact sz_of hl, fun p np => ?_⟩
  exact q _ _ (upd (jn Hs Ht) p (.lst (vs ++ us))) ((e2.trans e3).trans (Ex.new np)) (sup_new (e2.trans e3) sj np) ⟨p, _, rfl, upd_same, Reps.ext (Ex.new (sup_no sj np)) R⟩
/-! ### the keys of a dict -/
/-- each once, in the order in which they first stand -/
def once [DecidableEq α] (xs : List α) : List α := xs.foldl (fun acc x => if x ∈ acc then acc else acc ++ [x]) []
theorem once_go [DecidableEq α] : ∀ (xs acc : List α), acc.Nodup → (xs.foldl (fun acc x => if x ∈ acc then acc else acc ++ [x]) acc).Nodup ∧ ∀ y, y ∈ xs.foldl (fun acc x => if x ∈ acc then acc else acc ++ [x]) acc ↔ y ∈ acc ∨ y ∈ xs
  | [], acc, n => ⟨n, fun y => by simp⟩
  | x :: xs, acc, n => by
    rw [List.foldl_cons]
    by_cases m : x ∈ acc
    · rw [if_pos m]
      obtain ⟨h1, h2⟩ := once_go xs acc n
      refine ⟨h1, fun y => (h2 y).trans ⟨fun z => z.imp id (List.mem_cons_of_mem _), fun z => z.elim .inl fun z => (List.mem_cons.mp z).elim (fun z => .inl (by rw [z]; exact m)) .inr⟩⟩
    · rw [if_neg m]
      obtain ⟨h1, h2⟩ := once_go xs (acc ++ [x]) (List.nodup_append.mpr ⟨n, by simp, fun a ha b hb => by
        rw [List.mem_singleton.mp hb]
        exact fun z => m (by rw [← z]; exact ha)⟩)
      refine ⟨h1, fun y => (h2 y).trans ?_⟩
      simp only [List.mem_append, List.mem_cons, List.not_mem_nil, or_false, or_assoc]
theorem once_nodup [DecidableEq α] (xs : List α) : (once xs).Nodup := (once_go xs [] List.nodup_nil).1
theorem mem_once [DecidableEq α] {xs : List α} {y : α} : y ∈ once xs ↔ y ∈ xs := ((once_go xs [] List.nodup_nil).2 y).trans (by simp)
theorem once_snoc [DecidableEq α] (xs : List α) (x : α) : once (xs ++ [x]) = if x ∈ once xs then once xs else once xs ++ [x] := by
  unfold once
  rw [List.foldl_append]
  rfl
theorem once_len [DecidableEq α] (xs : List α) : (once xs).length ≤ xs.length := Lot.sub_len (once_nodup xs) fun _ h => mem_once.mp h
theorem once_id [DecidableEq α] : ∀ {xs : List α}, xs.Nodup → once xs = xs := by
  intro xs
  have key : ∀ (ys acc : List α), (acc ++ ys).Nodup → ys.foldl (fun acc x => if x ∈ acc then acc else acc ++ [x]) acc = acc ++ ys := by
    intro ys
    induction ys with
    | nil => intro acc _; simp
    | cons y r ih =>
      intro acc h
      rw [List.foldl_cons, if_neg fun m => (List.nodup_append.mp h).2.2 y m y List.mem_cons_self rfl, ih _ (by simpa using h)]
      simp
  intro h
  exact key xs [] h
/-- te goes on with a new dict, its keys in order -/
def EvDK (te : TE) (σ : L2.St) (A : Hp) (ks : List Str) : Prop := ∀ H1, Ex A H1 → ∀ Q : VK, (∀ D kvs H2, H1 D = none → Ex H1 H2 → H2 D = some (.dK kvs) → kvs.map (·.1) = ks.map Sum.inr → Q (.ref D) H2) → te σ H1 Q
theorem keys_put {kvs : List (Key × V)} {ks : List Str} {x : Str} {v : V} (h : kvs.map (·.1) = ks.map Sum.inr) : (putK kvs (.inr x) v).map (·.1) = (if x ∈ ks then ks else ks ++ [x]).map Sum.inr := by
  have e : (kvs.any fun kv => decide (kv.1 = Sum.inr x)) = decide (x ∈ ks) := by
    rw [Bool.eq_iff_iff, List.any_eq_true, decide_eq_true_eq]
    constructor
    · rintro ⟨p, hp, z⟩
      have z := of_decide_eq_true z
      have m : p.1 ∈ kvs.map (·.1) := List.mem_map.mpr ⟨p, hp, rfl⟩
      rw [h, z] at m
      obtain ⟨y, hy, e⟩ := List.mem_map.mp m
      cases e
      exact hy
    · intro m
      have m2 : (Sum.inr x : Key) ∈ kvs.map (·.1) := by
        rw [h]
        exact List.mem_map.mpr ⟨x, m, rfl⟩
      obtain ⟨p, hp, e⟩ := List.mem_map.mp m2
      exact ⟨p, hp, decide_eq_true e⟩
  unfold putK
  rw [e]
  by_cases m : x ∈ ks
  · rw [decide_eq_true m, if_pos rfl, if_pos m, List.map_map, ← h]
    refine List.map_congr_left fun p _ => ?_
    show (if p.1 = Sum.inr x then (p.1, v) else p).1 = p.1
    split <;> rfl
  · rw [decide_eq_false m, if_neg Bool.false_ne_true, if_neg m, List.map_append, List.map_append, h]
    rfl
/-- {x: True for x in xs} -/
theorem ed_dcS {xs : List Str} {tl : TE} {j : Nat} {vs : List Nat} (h : EvD tl σ A xs) (hz : xs.length ≤ 40000) (hw : ∀ x, wipe ((wipe σ vs).set j (some x)) vs = wipe σ vs) (hj : ∀ x, ((wipe σ vs).set j (some x))[j]? = some (some x)) :
    EvDK (tDc (iList K tl) (gName j) tYes (tVar j) (tC (.bl true)) vs) σ A (once xs) := fun H1 e Q q => h H1 e _ fun v H2 Hs e2 s r => by
  obtain ⟨a, us, rfl, h1, h2⟩ := r
  have len := Reps.len h2
  have hus := reps_str h2
  have ha := s.e _ _ h1
  refine ⟨a, rfl, ⟨us, sq_of ha⟩, fun D hD => ?_⟩
  have D1 : H1 D = none := fresh_back e2 hD
  have aD : a ≠ D := fun z => by
    rw [z, hD] at ha
    cases ha
  refine ⟨fun i m H => m = us.length - i ∧ i ≤ us.length ∧ Ex H2 H ∧ ∃ kvs, H D = some (.dK kvs) ∧ kvs.map (·.1) = (once (xs.take i)).map Sum.inr, ⟨us.length, by simp, Nat.zero_le _, Ex.new hD, [], upd_same, rfl⟩, ?_⟩
  rintro i m H ⟨rfl, hi, p1, kvs, p2, p3⟩
  have hq : SqL K H a us := sq_of (p1 _ _ ha)
  by_cases hlt : i < us.length
  · refine .inr ⟨⟨us, us[i], hq, by simp [hlt]⟩, fun H' => Ex H2 H' ∧ ∃ kvs, H' D = some (.dK kvs) ∧ kvs.map (·.1) = (once (xs.take (i + 1))).map Sum.inr, fun H' p' => ⟨us.length - (i + 1), by omega, rfl, hlt, p'⟩, fun x H' y => ?_⟩
    obtain ⟨e, y⟩ := y
    subst e
    have hx := y us hq
    have hxs : xs[i]? = some xs[i] := List.getElem?_eq_getElem (by omega)
    have ex : x = V.str xs[i] := by
      rw [hus, List.getElem?_map, hxs] at hx
      exact (Option.some.inj hx).symm
    refine ⟨hw x, ?_⟩
    have lk : (once (xs.take i)).length = kvs.length := by
      have := congrArg List.length p3
      simpa using this.symm
    have l2 := once_len (xs.take i)
    rw [List.length_take] at l2
    refine ⟨x, hj x, kvs, .inr xs[i], ex, p2, sz_lt (by omega), p1.mut hD, _, upd_same, ?_⟩
    rw [keys_put p3, List.take_add_one, hxs]
    show _ = List.map Sum.inr (once (xs.take i ++ [xs[i]]))
    rw [once_snoc]
  · have e3 : i = us.length := by omega
    subst e3
    rw [List.take_of_length_le (by omega)] at p3
    exact .inl ⟨⟨us, hq, Nat.le_refl _⟩, q D kvs H D1 (e2.trans p1) p2 p3⟩
def rSrtD : List V → Hp → VK → Prop := fun xs H Q => ∃ (a : Addr) (kvs : List (Key × V)) (ks : List Str), xs = [.ref a] ∧ Rd H a (.dK kvs) ∧ kvs.map (·.1) = ks.map Sum.inr ∧
  ks.length < 64 ∧ ∀ ys p, ys.Perm ks → sortedS ys = true → H p = none → Q (.ref p) (upd H p (.lst (ys.map V.str)))
theorem cr_srtD {X : Cx} (hc : X.calm = true) : CallR X (.builtin "sorted") rSrtD := call_sortedD hc
theorem reps_strs {H : Hp} : ∀ (ys : List Str), Reps H (ys.map V.str) ys
  | [] => .nil
  | y :: r => .cons rfl (reps_strs r)
theorem sl_cps (a b : Str) : ltCps a.cps.toList b.cps.toList = Lot.sl a b := ltCps_eq _ _
theorem Tot.letr {α : Type} {lt : α → α → Bool} (T : Lot.Tot lt) {a b c : α} (h1 : lt b a = false) (h2 : lt c b = false) : lt c a = false := by
  cases e : lt c a with
  | false => rfl
  | true =>
    cases f : lt a b with
    | true =>
      rw [T.tr _ _ _ e f] at h2
      cases h2
    | false =>
      rw [T.di _ _ f h1] at e
      rw [e] at h2
      cases h2
theorem rising_pw : ∀ (r : List Str) (p : Str), risingS p r = true → (p :: r).Pairwise fun a b => Lot.sl b a = false
  | [], p, _ => List.pairwise_singleton _ _
  | x :: r, p, h => by
    have h' : (!ltCps x.cps.toList p.cps.toList && risingS x r) = true := h
    rw [Bool.and_eq_true] at h'
    have h1 : Lot.sl x p = false := by
      rw [← sl_cps]
      simpa using h'.1
    have ih := rising_pw r x h'.2
    refine List.pairwise_cons.mpr ⟨fun y hy => ?_, ih⟩
    rcases List.mem_cons.mp hy with e | m
    · rw [e]
      exact h1
    · exact Tot.letr Lot.sl_tot h1 ((List.pairwise_cons.mp ih).1 y m)
theorem srt_sorted {α : Type} [DecidableEq α] [DatumOrd α] [DV α] (T : Lot.Tot (DatumOrd.lt : α → α → Bool)) (xs : List α) : (srt xs).Pairwise fun a b => (DatumOrd.lt b a : Bool) = false := by
  have h := List.pairwise_mergeSort (le := leW (α := α)) (fun a b c h1 h2 => by
    unfold leW at h1 h2 ⊢
    rw [Bool.not_eq_true'] at h1 h2 ⊢
    exact Tot.letr T h1 h2) (fun a b => by
    unfold leW
    cases e : (DatumOrd.lt b a : Bool) with
    | false => rfl
    | true =>
      cases f : (DatumOrd.lt a b : Bool) with
      | false => rfl
      | true =>
        have z := T.tr _ _ _ e f
        rw [T.ir] at z
        cases z) xs
  refine h.imp fun {a b} z => ?_
  unfold leW at z
  simpa using z
/-- the things once, in order -/
theorem srt_asc {α : Type} [DecidableEq α] [DatumOrd α] [DV α] (T : Lot.Tot (DatumOrd.lt : α → α → Bool)) {xs : List α} (n : xs.Nodup) : Lot.Asc (DatumOrd.lt : α → α → Bool) (srt xs) := Lot.asc_of_sorted T (srt_sorted T xs) ((srt_perm xs).nodup_iff.mpr n)
theorem srt_id {α : Type} [DecidableEq α] [DatumOrd α] [DV α] (T : Lot.Tot (DatumOrd.lt : α → α → Bool)) {xs : List α} (h : Lot.Asc (DatumOrd.lt : α → α → Bool) xs) : srt xs = xs := Lot.asc_ext T (srt_asc T (h.nodup T)) h fun _ => srt_mem
theorem ed_srtD {ks : List Str} (h : EvDK te σ A ks) (n : ks.Nodup) (hl : ks.length < 64) : EvD (tCB rSrtD (tCons te tNil)) σ A (srt ks) := fun H1 e Q q => h H1 e _ fun D kvs H2 nD e2 hD hk => by
  refine ⟨D, kvs, ks, rfl, .inl hD, hk, hl, fun ys p hp hs np => ?_⟩
  have ny : ys.Nodup := hp.nodup_iff.mpr n
  have ey : ys = srt ks := by
    refine Lot.asc_ext Lot.sl_tot (Lot.asc_of_sorted Lot.sl_tot ?_ ny) (srt_asc Lot.sl_tot n) fun x => hp.mem_iff.trans srt_mem.symm
    cases ys with
    | nil => exact .nil
    | cons p r => exact rising_pw r p hs
  rw [ey]
  refine q _ _ (upd (fun _ => none) p (.lst ((srt ks).map V.str))) (e2.trans (Ex.new np)) (sup_new e2 ⟨fun _ _ z => (by cases z), fun _ _ z => (by cases z)⟩ np) ⟨p, _, rfl, upd_same, reps_strs _⟩
end
end Dw
/-! text W14 -/
set_option Elab.async false
set_option linter.all false
set_option maxRecDepth 100000
set_option maxHeartbeats 4000000
/-! a lambda whose code may lie in the table; data but tables -/
namespace Dw
open PySem PySem.Spec PyProof.Rows L2 Evl PySem.W DV RZ StX LmV LamX NdefX
/-- the table at P has the code of the lambda at pos -/
structure Rdy (P : Addr) (q : Str) (pos : Pos) (H : Hp) : Prop where
  t : Tabs [(P, q)] H
  c : ∃ ps cv, H P = some (.tbl ps) ∧ codeAmong pos ps.toList = some cv
theorem Rdy.ext {P : Addr} {q : Str} {pos : Pos} {H H' : Hp} (r : Rdy P q pos H) (e : Ex H H') : Rdy P q pos H' := by
  obtain ⟨ps, cv, h1, h2⟩ := r.c
  exact ⟨r.t.ext e, ps, cv, e _ _ h1, h2⟩
def tLamV2 (P : Addr) (q : Str) (pos : Pos) (mk : Addr → LF) : TE := fun σ H Q => (Rdy P q pos H ∧ ∀ f c', H f = none → H c' = some (CodeO c' q) → Q (.ref f) (upd H f (LamO f (mk c')))) ∨
  (Tabs [(P, q)] H ∧ ∀ (f c' : Addr) (H1 : Hp), ExtN H H1 → (∀ b, H1 b = none → H b = none) → Rdy P q pos H1 → H f = none → H1 f = some (LamO f (mk c')) → H1 c' = some (CodeO c' q) → Q (.ref f) H1)
section
variable {X : Cx} {pins : List (Addr × Obj)} {σ : L2.St} {H : Hp} {s : Shared}
theorem lam_make2 {c P : Addr} {params : Arguments} {body : Expr} {scope : Scope} {pos : Pos} {q : Str} {E : Value → Shared → Prop} {Q : VK} (I : Inv X pins σ H s) (TB : TabB X.base X.mg c P) (hcode : X.env.code = .ref c) (hq : X.env.qual ++ "<lambda>" = q)
    (hdef : defaultsOf params X.env = ([], [])) (hfree : ∀ y ∈ scope.names, y.2 ≠ .free)
    (h : tLamV2 P q pos (fun c' => ⟨q, params, body, scope, [], c'⟩) σ H Q) :
    wpAny (model X.prog X.w) X.A (eval (.Lambda params body scope pos) X.env) (EP X pins σ Q) E s := by
  subst hq
  have eC : cloFrom X.env.cells scope.names [] = [] := by
    cases hcl : cloFrom X.env.cells scope.names [] with
    | nil => rfl
    | cons p r =>
      obtain ⟨y, c⟩ := p
      have hmem : (y, c) ∈ cloFrom X.env.cells scope.names [] := by rw [hcl]; exact List.mem_cons_self
      rcases cloFrom_mem hmem with z | ⟨z, _⟩
      · cases z
      · exact absurd rfl (hfree _ z)
  have hT : Tabs [(P, X.env.qual ++ "<lambda>")] H := h.elim (fun z => z.1.t) fun z => z.1
  obtain ⟨ps, hP, ht, ha⟩ := hT _ List.mem_cons_self
  have hclo : ∀ y ∈ scope.names, y.2 = .free → ∃ c, X.env.cells.lookup y.1 = some c := fun y hy z => absurd z (hfree y hy)
  refine PySem.W.kla_eval hdef ?_
  have bP : s.heap.BuiltinsAt X.mg P := TB.bm.keeps I.bk
  have hP' : s.heap.get? P = some { cls := .none, data := .fields ps } := I.hok P _ hP
  cases hc : codeAmong pos ps.toList with
  | none =>
    have h2 := h.resolve_left fun z => by
      obtain ⟨ps', cv, g1, g2⟩ := z.1.c
      rw [hP] at g1
      cases g1
      rw [hc] at g2
      cases g2
    replace h2 := h2.2
    refine PySem.W.kla_makeFunction (mg := X.mg) (c := c) (P := P) (ps := ps) (closure_ok hclo) I.ok.glob (I.mod.glob.keeps I.bk) hcode (TB.code.keeps I.bk) hP' ht hc TB.gP bP fun c' ctv h' tk hx hge hlt hrec htb => ?_
    obtain ⟨c2, oc, vs, t, e2, hoc, hd, hv⟩ := hrec
    cases e2
    have nC : H c' = none := I.hok.fresh hge
    have I1 := inv_table (t' := tk) (more := #[rawInt pos.line, rawInt pos.col, .ref c']) (h' := h') I hP (fun b o hb e => hx b o hb e) htb hge ⟨oc, vs, t, hoc, hd, hv⟩
    have hE : ExtN H (upd (upd H P (.tbl (ps ++ #[rawInt pos.line, rawInt pos.col, .ref c']))) c' (CodeO c' (X.env.qual ++ "<lambda>"))) := fun b o e n => by
      rw [upd_ne (ne_of_none e nC), upd_ne (fun z => n ps (Option.some.inj (e.symm.trans (by rw [z]; exact hP))))]
      exact e
    have eL : (ps ++ #[rawInt pos.line, rawInt pos.col, .ref c']).toList = ps.toList ++ [rawInt pos.line, rawInt pos.col, .ref c'] := by simp
    have T1 : Rdy P (X.env.qual ++ "<lambda>") pos (upd (upd H P (.tbl (ps ++ #[rawInt pos.line, rawInt pos.col, .ref c']))) c' (CodeO c' (X.env.qual ++ "<lambda>"))) := by
      refine ⟨fun p hp => ?_, _, .ref c', by rw [upd_ne (ne_of_none hP nC), upd_same], by rw [eL]; exact codeAmong_snoc _ ht hc⟩
      rw [List.mem_singleton.mp hp]
      refine ⟨_, by rw [upd_ne (ne_of_none hP nC), upd_same], by rw [eL]; exact PySem.TriplesOk_snoc _ _ _ _ ht, fun p' cv hcv => ?_⟩
      rw [eL] at hcv
      rcases among_app _ ht hcv with z | z
      · obtain ⟨c0, e1, e2⟩ := ha p' cv z
        exact ⟨c0, e1, hE _ _ e2 codeO_ne⟩
      · exact ⟨c', z, upd_same⟩
    have nF := I1.hok.fresh (Nat.le_refl _)
    have I2 := inv_lam (F := ⟨X.env.qual ++ "<lambda>", params, body, scope, cloFrom X.env.cells scope.names [], c'⟩) (t' := tk) (pm := (X.mg "__name__").getD .none) (ctv := ctv) I1
    rw [eC] at I2
    rw [eC]
    exact ⟨.ref h'.objs.size, _, I2, rfl, h2 h'.objs.size c' _ (fun b o e n => by
      have e1 := hE b o e n
      exact (upd_ne (ne_of_none e1 nF)).trans e1) (fun b e => upd_none (upd_none (upd_none e))) (T1.ext fun b o e => (upd_ne (ne_of_none e nF)).trans e) (I.hok.fresh (Nat.le_trans hge (Nat.le_of_lt hlt))) upd_same ((upd_ne (Nat.ne_of_lt hlt)).trans upd_same)⟩
  | some cv =>
    obtain ⟨c', e, hco⟩ := ha pos cv hc
    subst e
    refine PySem.W.kla_makeFunctionHit (mg := X.mg) (c := c) (P := P) (ps := ps) (closure_ok hclo) I.ok.glob (I.mod.glob.keeps I.bk) hcode (TB.code.keeps I.bk) hP' ht hc bP fun ctv h' tk hx hsz => ?_
    have I1 : Inv X pins σ H { s with heap := h', toks := tk } := I.kept hx
    have nF : H h'.objs.size = none := I1.hok.fresh (Nat.le_refl _)
    have I2 := inv_lam (F := ⟨X.env.qual ++ "<lambda>", params, body, scope, cloFrom X.env.cells scope.names [], c'⟩) (t' := tk) (pm := (X.mg "__name__").getD .none) (ctv := ctv) I1
    rw [eC] at I2
    rw [eC]
    have R : Rdy P (X.env.qual ++ "<lambda>") pos H := ⟨hT, ps, _, hP, hc⟩
    rcases h with ⟨_, h⟩ | ⟨_, h⟩
    · exact ⟨.ref h'.objs.size, _, I2, rfl, h _ c' nF hco⟩
    · exact ⟨.ref h'.objs.size, _, I2, rfl, h h'.objs.size c' _ (fun b o e n => (upd_ne (ne_of_none e nF)).trans e) (fun b e => upd_none e) (R.ext (Ex.new nF)) nF upd_same ((upd_ne (ne_of_none hco nF)).trans hco)⟩
theorem pe_lamV2 {c P : Addr} {params : Arguments} {body : Expr} {scope : Scope} {pos : Pos} {q : Str} (TB : TabB X.base X.mg c P) (hcode : X.env.code = .ref c) (hq : X.env.qual ++ "<lambda>" = q)
    (hdef : defaultsOf params X.env = ([], [])) (hfree : ∀ y ∈ scope.names, y.2 ≠ .free) : PE X (.Lambda params body scope pos) (tLamV2 P q pos fun c' => ⟨q, params, body, scope, [], c'⟩) :=
  ⟨fun pins s σ H Q I h => lam_make2 I TB hcode hq hdef hfree h⟩
end
/-! ### data stand where all but tables stays -/
class DVN (α : Type) [DecidableEq α] [Datum α] [DV α] : Prop where
  extN : ∀ {H H' : Hp} {v : V} {x : α}, ExtN H H' → rep H v x → rep H' v x
instance : DVN Str := ⟨fun _ h => h⟩
instance : DVN Int := ⟨fun _ h => h⟩
instance : DVN Bool := ⟨fun _ h => h⟩
section
variable {α β : Type} [DecidableEq α] [Datum α] [DV α] [DVN α] [DecidableEq β] [Datum β] [DV β] [DVN β]
theorem repsN {H H' : Hp} (e : ExtN H H') : ∀ {vs : List V} {xs : List α}, Reps H vs xs → Reps H' vs xs
  | _, _, .nil => .nil
  | _, _, .cons h r => .cons (DVN.extN e h) (repsN e r)
instance : DVN (List α) := ⟨fun e h => by
  obtain ⟨a, vs, h0, h1, h2⟩ := h
  exact ⟨a, vs, h0, e _ _ h1 (fun _ z => by cases z), repsN e h2⟩⟩
instance : DVN (Tup α) := ⟨fun e h => by
  obtain ⟨a, vs, h0, h1, h2⟩ := h
  exact ⟨a, vs, h0, e _ _ h1 (fun _ z => by cases z), repsN e h2⟩⟩
instance : DVN (α × β) := ⟨fun e h => by
  obtain ⟨a, u, w, h0, h1, h2, h3⟩ := h
  exact ⟨a, u, w, h0, e _ _ h1 (fun _ z => by cases z), DVN.extN e h2, DVN.extN e h3⟩⟩
end
/-- what is no table -/
def nt (A : Hp) : Hp := fun b => match A b with
  | some (.tbl _) => none
  | o => o
theorem nt_of {A : Hp} {b : Addr} {o : HO} (h : nt A b = some o) : A b = some o ∧ ∀ ps, o ≠ .tbl ps := by
  unfold nt at h
  split at h
  · cases h
  · rename_i n
    refine ⟨h, fun ps z => ?_⟩
    rw [z] at h
    exact n ps h
theorem nt_mk {A : Hp} {b : Addr} {o : HO} (h : A b = some o) (n : ∀ ps, o ≠ .tbl ps) : nt A b = some o := by
  unfold nt
  split
  · rename_i q
    rw [h] at q
    exact absurd (Option.some.inj q) (n _)
  · exact h
theorem nt_ext (A : Hp) : ExtN A (nt A) := fun b o h n => nt_mk h n
theorem nt_ex {A H H' : Hp} (e : Ex A H) (e2 : ExtN H H') : Ex (nt A) H' := fun b o h => e2 _ _ (e _ _ (nt_of h).1) (nt_of h).2
/-- the end of a def that tells x: but for the tables all stays; the code lies in the table from here on -/
def EndY {γ : Type} [DecidableEq γ] [Datum γ] [DV γ] (P : Addr) (q : Str) (pos : Pos) (A H : Hp) (x : γ) (Q : VK) : Prop := ∀ u H' Hs, ExtN H H' → (∀ b, H' b = none → H b = none) → Rdy P q pos H' → Sup A H H' Hs → rep Hs u x → Q u H'
end Dw
/-! text W15 -/
set_option Elab.async false
set_option linter.all false
set_option maxRecDepth 100000
set_option maxHeartbeats 2000000
/-! append, the least by turns -/
namespace Dw
open PySem PySem.Spec PyProof.Rows L2 Evl PySem.W DV RZ StX LmV LamX NdefX
section
variable {α : Type} [DecidableEq α] [Datum α] [DV α] {K : PySem.W.Frag} {σ : L2.St} {H A : Hp} {te : TE} {D : Ends}
theorem b_app {i : Nat} {l : Addr} {xs : List V} {x : α} (hσ : σ[i]? = some (some (.ref l))) (hl : H l = some (.lst xs)) (hz : xs.length < 100000) (eA : Ex A H) (h : EvD te σ A x)
    (k : ∀ v H1 Hs, Ex H H1 → Sup A H H1 Hs → rep Hs v x → D.nx σ (upd H1 l (.lst (xs ++ [v])))) : tDrop (tBM K "list" rAppend (tVar i) (tCons te tNil)) D σ H :=
  ⟨.ref l, hσ, .inl ⟨rfl, _, sq_of hl⟩, h H eA _ fun v H1 Hs e s r => ⟨l, xs, v, rfl, rfl, e _ _ hl, sz_lt hz, k v H1 Hs e s r⟩⟩
end
end Dw
namespace Lot
variable {α : Type} [DecidableEq α]
theorem greedy_snoc : ∀ (xs found : List (List α)) (l : List α), greedy found (xs ++ [l]) = if hasIn (greedy found xs) l = true then greedy found xs else greedy found xs ++ [l]
  | [], found, l => by
    show (if hasIn found l = true then greedy found [] else greedy (found ++ [l]) []) = _
    rfl
  | x :: xs, found, l => by
    show (if hasIn found x = true then greedy found (xs ++ [l]) else greedy (found ++ [x]) (xs ++ [l])) = _
    rw [greedy_snoc xs found l, greedy_snoc xs (found ++ [x]) l]
    show _ = (if hasIn (if hasIn found x = true then greedy found xs else greedy (found ++ [x]) xs) l = true then (if hasIn found x = true then greedy found xs else greedy (found ++ [x]) xs) else (if hasIn found x = true then greedy found xs else greedy (found ++ [x]) xs) ++ [l])
    by_cases h : hasIn found x = true
    · rw [if_pos h, if_pos h]
    · rw [if_neg h, if_neg h]
theorem greedy_len : ∀ (xs found : List (List α)), (greedy found xs).length ≤ found.length + xs.length
  | [], found => Nat.le_add_right _ _
  | x :: xs, found => by
    show (if hasIn found x = true then greedy found xs else greedy (found ++ [x]) xs).length ≤ _
    have h1 := greedy_len xs found
    have h2 := greedy_len xs (found ++ [x])
    rw [List.length_append] at h2
    simp at h2 ⊢
    split <;> omega
theorem greedy_mem : ∀ (xs found : List (List α)) {x : List α}, x ∈ greedy found xs → x ∈ found ∨ x ∈ xs
  | [], found, x, h => .inl h
  | y :: xs, found, x, h => by
    have h' : x ∈ (if hasIn found y = true then greedy found xs else greedy (found ++ [y]) xs) := h
    split at h'
    · exact (greedy_mem xs found h').imp id (List.mem_cons_of_mem _)
    · rcases greedy_mem xs (found ++ [y]) h' with z | z
      · rcases List.mem_append.mp z with z | z
        · exact .inl z
        · rw [List.mem_singleton.mp z]
          exact .inr List.mem_cons_self
      · exact .inr (List.mem_cons_of_mem _ z)
end Lot
/-! text W16 -/
set_option Elab.async false
set_option linter.all false
set_option maxRecDepth 100000
set_option maxHeartbeats 2000000
/-! typed: two loops in a comprehension; calls of defs that come to the lambda -/
namespace Dw
open PySem PySem.Spec PyProof.Rows L2 Evl PySem.W DV RZ StX LmV LamX NdefX
section
variable {α β γ : Type} [DecidableEq α] [Datum α] [DV α] [DecidableEq β] [Datum β] [DV β] [DecidableEq γ] [Datum γ] [DV γ] {K : PySem.W.Frag} {σ : L2.St} {H H' A A0 H0 H1 : Hp} {te ta tb : TE} {tt : TT} {D : Ends}
/-- the new list at D holds r so far -/
structure IV (A H0 H1 : Hp) (D : Addr) (r : List β) (H' : Hp) : Prop where
  e : Ex H1 H'
  l : ∃ ws Hw, H' D = some (.lst ws) ∧ Ex Hw H' ∧ (∀ b u, Hw b = some u → b ≠ D ∧ (A b = some u ∨ H0 b = none)) ∧ Reps Hw ws r
theorem iv_start {D : Addr} (nD : H1 D = none) : IV A H0 H1 D ([] : List β) (upd H1 D (.lst [])) := ⟨Ex.new nD, [], fun _ => none, upd_same, fun _ _ z => (by cases z), fun _ _ z => (by cases z), .nil⟩
theorem iv_mono {D : Addr} {r : List β} (h : IV A H0 H1 D r H) (e : Ex H H') : IV A H0 H1 D r H' := by
  obtain ⟨h1, ws, Hw, p3, p4, p5, p6⟩ := h
  exact ⟨h1.trans e, ws, Hw, e _ _ p3, p4.trans e, p5, p6⟩
theorem iv_step {D : Addr} {r : List β} {y : β} {B : Hp} (h : IV A H0 H1 D r H) (e0 : Ex H0 H1) (nD : H1 D = none) (hl : r.length < 40000) (eB : Ex B H) (BD : B D = none) (oB : ∀ b u, B b = some u → A b = some u ∨ H0 b = none) (ed : EvD te σ B y) {N : Hp → Prop} (k : ∀ H2, IV A H0 H1 D (r ++ [y]) H2 → (∀ b o, b ≠ D → H b = some o → H2 b = some o) → N H2) :
    te σ H fun z H5 => ∃ acc, H5 D = some (.lst acc) ∧ acc.length < sizeLine ∧ N (upd H5 D (.lst (acc ++ [z]))) := by
  obtain ⟨p2, ws, Hw, p3, p4, p5, p6⟩ := h
  refine ed H eB _ fun z H5 Hy e5 sy r5 => ⟨ws, e5 _ _ p3, ?_, k _ ⟨(p2.trans e5).mut nD, ws ++ [z], jn Hw Hy, upd_same, ?_, ?_, ?_⟩ fun b o n z => (upd_ne n).trans (e5 _ _ z)⟩
  · rw [Reps.len p6]
    exact sz_lt (by omega)
  · intro c u z
    have nD : c ≠ D := by
      rcases jn_of z with y | y
      · exact (p5 c u y).1
      · intro q
        rw [q] at y
        rcases sy.o D u y with w | w
        · rw [BD] at w
          cases w
        · rw [p3] at w
          cases w
    rw [upd_ne nD]
    rcases jn_of z with y | y
    · exact e5 _ _ (p4 _ _ y)
    · exact sy.e _ _ y
  · intro c u z
    rcases jn_of z with y | y
    · exact p5 c u y
    · refine ⟨fun q => ?_, ?_⟩
      · rw [q] at y
        rcases sy.o D u y with w | w
        · rw [BD] at w
          cases w
        · rw [p3] at w
          cases w
      · rcases sy.o c u y with w | w
        · exact oB c u w
        · right
          cases m : H0 c with
          | none => rfl
          | some o =>
            rw [p2 _ _ (e0 _ _ m)] at w
            cases w
  · have q1 : Ex Hw H5 := p4.trans e5
    exact Reps.app (Reps.ext jn_l p6) (.cons (DV.ext (jn_r q1 sy.e) r5) .nil)
theorem iv_end {D : Addr} {r : List β} (h : IV A H0 H1 D r H) (e0 : Ex H0 H1) (nD : H1 D = none) {Q : VK} (q : ∀ v H2 Hs, Ex H0 H2 → Sup A H0 H2 Hs → rep Hs v r → Q v H2) : Q (.ref D) H := by
  obtain ⟨p2, ws, Hw, p3, p4, p5, p6⟩ := h
  have nw : Hw D = none := by
    cases z : Hw D with
    | none => rfl
    | some o => exact absurd rfl (p5 D o z).1
  refine q _ H (upd Hw D (.lst ws)) (e0.trans p2) ⟨fun b u z => ?_, fun b u z => ?_⟩ ⟨D, ws, rfl, upd_same, Reps.ext (Ex.new nw) p6⟩
  · by_cases y : b = D
    · rw [y, upd_same] at z
      rw [y, p3]
      exact z
    · rw [upd_ne y] at z
      exact p4 _ _ z
  · by_cases y : b = D
    · right
      rw [y]
      cases m : H0 D with
      | none => rfl
      | some o =>
        rw [e0 _ _ m] at nD
        cases nD
    · rw [upd_ne y] at z
      exact (p5 b u z).2
/-- [te for x in xs for y in ys] -/
theorem ed_lc2 {xs : List α} {tl tl1 : TE} {j j1 : Nat} {vs vs1 : List Nat} (ys : α → List β) (g : α → β → γ) (h : EvD tl σ A xs) (hz : ∀ x ∈ xs, (ys x).length ≤ 200) (hx : xs.length ≤ 150)
    (hw : ∀ x, wipe ((wipe σ vs).set j (some x)) vs = wipe σ vs) (hw1 : ∀ x y, wipe ((wipe ((wipe σ vs).set j (some x)) vs1).set j1 (some y)) vs1 = wipe ((wipe σ vs).set j (some x)) vs1)
    (h1 : ∀ (x : α) (v : V) H1, Ex A H1 → x ∈ xs → rep H1 v x → EvD tl1 ((wipe σ vs).set j (some v)) H1 (ys x))
    (he : ∀ (x : α) (y : β) (v u : V) H1, Ex A H1 → x ∈ xs → y ∈ ys x → rep H1 v x → rep H1 u y → EvD te ((wipe ((wipe σ vs).set j (some v)) vs1).set j1 (some u)) H1 (g x y)) :
    EvD (tLc2 (iList K tl) (gName j) tYes (iList K tl1) (gName j1) tYes te vs vs1) σ A (xs.flatMap fun x => (ys x).map (g x)) := fun H0 e0 Q q => h H0 e0 _ fun v H1 Hs e1 sp r => by
  obtain ⟨a, us, rfl, g1, g2⟩ := r
  have len := Reps.len g2
  have ha := sp.e _ _ g1
  have eB : Ex (jn A Hs) H1 := jn_ex (e0.trans e1) sp.e
  have oB : ∀ b u, jn A Hs b = some u → A b = some u ∨ H0 b = none := fun b u z => (jn_of z).elim .inl (sp.o b u)
  refine ⟨a, rfl, ⟨us, sq_of ha⟩, fun D nD => ?_⟩
  have BD : jn A Hs D = none := fresh_back eB nD
  have small : ∀ i, i ≤ xs.length → ((xs.take i).flatMap fun x => (ys x).map (g x)).length ≤ i * 200 := by
    intro i
    induction i with
    | zero => intro _; simp
    | succ i ih =>
      intro hi
      have e : xs.take (i + 1) = xs.take i ++ [xs[i]] := by
        rw [List.take_add_one, List.getElem?_eq_getElem (by omega)]
        rfl
      rw [e, List.flatMap_append, List.length_append]
      have i1 := ih (by omega)
      have i2 := hz xs[i] (List.getElem_mem _)
      have e2 : (List.flatMap (fun x => (ys x).map (g x)) [xs[i]]).length = (ys xs[i]).length := by simp
      rw [e2]
      omega
  refine ⟨fun i m H => m = us.length - i ∧ i ≤ us.length ∧ IV A H0 H1 D ((xs.take i).flatMap fun x => (ys x).map (g x)) H, ⟨us.length, by simp, Nat.zero_le _, iv_start nD⟩, ?_⟩
  rintro i m H ⟨rfl, hi, p⟩
  have hq : SqL K H a us := sq_of (p.e _ _ ha)
  by_cases hlt : i < us.length
  · refine .inr ⟨⟨us, us[i], hq, by simp [hlt]⟩, IV A H0 H1 D ((xs.take (i + 1)).flatMap fun x => (ys x).map (g x)), fun H' p' => ⟨us.length - (i + 1), by omega, rfl, hlt, p'⟩, fun x H' y => ?_⟩
    obtain ⟨e, y⟩ := y
    subst e
    have hxi := y us hq
    obtain ⟨x0, hxs⟩ : ∃ x0, xs[i]? = some x0 := ⟨_, List.getElem?_eq_getElem (show i < xs.length by omega)⟩
    have rx := Reps.at g2 hxi hxs
    have mx : x0 ∈ xs := List.mem_of_getElem? hxs
    have t1 : (xs.take (i + 1)).flatMap (fun x => (ys x).map (g x)) = (xs.take i).flatMap (fun x => (ys x).map (g x)) ++ (ys x0).map (g x0) := by
      rw [List.take_add_one, hxs, List.flatMap_append]
      simp
    rw [t1]
    have rB : rep (jn A Hs) x x0 := DV.ext (jn_r (e0.trans e1) sp.e) rx
    refine ⟨hw x, ?_⟩
    refine h1 x0 x (jn A Hs) jn_l mx rB H' (eB.trans p.e) _ fun v1 H4 Ht e4 s4 r4 => ?_
    obtain ⟨b, us1, rfl, k1, k2⟩ := r4
    have len1 := Reps.len k2
    have hb := s4.e _ _ k1
    have eB1 : Ex (jn (jn A Hs) Ht) H4 := jn_ex ((eB.trans p.e).trans e4) s4.e
    have D4 : Ht D = none := by
      cases z : Ht D with
      | none => rfl
      | some o =>
        rcases s4.o D o z with w | w
        · rw [BD] at w
          cases w
        · obtain ⟨_, ws, Hw, p3, _⟩ := p
          rw [p3] at w
          cases w
    have BD1 : jn (jn A Hs) Ht D = none := by
      cases z : jn (jn A Hs) Ht D with
      | none => rfl
      | some o => exact (jn_of z).elim (fun w => by rw [BD] at w; cases w) fun w => by rw [D4] at w; cases w
    have oB1 : ∀ b u, jn (jn A Hs) Ht b = some u → A b = some u ∨ H0 b = none := fun b u z => (jn_of z).elim (oB b u) fun w => (s4.o b u w).elim (oB b u) fun w => .inr (by
      cases m : H0 b with
      | none => rfl
      | some o =>
        rw [p.e _ _ (e1 _ _ m)] at w
        cases w)
    refine ⟨b, rfl, ⟨us1, sq_of hb⟩, fun j m H => m = us1.length - j ∧ j ≤ us1.length ∧ Ex (jn (jn A Hs) Ht) H ∧ IV A H0 H1 D ((xs.take i).flatMap (fun x => (ys x).map (g x)) ++ ((ys x0).take j).map (g x0)) H, ⟨us1.length, by simp, Nat.zero_le _, eB1, ?_⟩, ?_⟩
    · rw [List.take_zero, List.map_nil, List.append_nil]
      exact iv_mono p e4
    · rintro j m H ⟨rfl, hj, q1, q2⟩
      have hq1 : SqL K H b us1 := sq_of (q1 _ _ (jn_r ((eB.trans p.e).trans e4) s4.e _ _ k1))
      by_cases hlt1 : j < us1.length
      · refine .inr ⟨⟨us1, us1[j], hq1, by simp [hlt1]⟩, fun H => Ex (jn (jn A Hs) Ht) H ∧ IV A H0 H1 D ((xs.take i).flatMap (fun x => (ys x).map (g x)) ++ ((ys x0).take (j + 1)).map (g x0)) H, fun H' p' => ⟨us1.length - (j + 1), by omega, rfl, hlt1, p'⟩, fun y H' z => ?_⟩
        obtain ⟨e, z⟩ := z
        subst e
        have hyj := z us1 hq1
        obtain ⟨y0, hys⟩ : ∃ y0, (ys x0)[j]? = some y0 := ⟨_, List.getElem?_eq_getElem (show j < (ys x0).length by omega)⟩
        have ry := Reps.at k2 hyj hys
        have my : y0 ∈ ys x0 := List.mem_of_getElem? hys
        refine ⟨hw1 x y, ?_⟩
        have eA1 : Ex A (jn (jn A Hs) Ht) := jn_l.trans jn_l
        have ed := he x0 y0 x y (jn (jn A Hs) Ht) eA1 mx my (DV.ext jn_l rB) (DV.ext (jn_r ((eB.trans p.e).trans e4) s4.e) ry)
        have sz : ((xs.take i).flatMap (fun x => (ys x).map (g x)) ++ ((ys x0).take j).map (g x0)).length < 40000 := by
          rw [List.length_append, List.length_map, List.length_take]
          have i1 := small i (by omega)
          have i2 := hz x0 mx
          omega
        have fin := iv_step (N := fun H => Ex (jn (jn A Hs) Ht) H ∧ IV A H0 H1 D ((xs.take i).flatMap (fun x => (ys x).map (g x)) ++ ((ys x0).take (j + 1)).map (g x0)) H) q2 e1 nD sz q1 BD1 oB1 ed fun H2 h2 kp => ⟨fun c o z => ?_, ?_⟩
        · exact fin
        · exact kp c o (fun w => by rw [w, BD1] at z; cases z) (q1 _ _ z)
        · rw [List.take_add_one, hys]
          show IV A H0 H1 D (_ ++ ((ys x0).take j ++ [y0]).map (g x0)) H2
          rw [List.map_append, ← List.append_assoc]
          exact h2
      · have e3 : j = us1.length := by omega
        subst e3
        rw [List.take_of_length_le (l := ys x0) (by omega)] at q2
        exact .inl ⟨⟨us1, hq1, Nat.le_refl _⟩, q2⟩
  · have e3 : i = us.length := by omega
    subst e3
    rw [List.take_of_length_le (by omega)] at p
    exact .inl ⟨⟨us, hq, Nat.le_refl _⟩, iv_end p e1 nD q⟩
end
end Dw
/-! text W17 -/
set_option Elab.async false
set_option linter.all false
set_option maxRecDepth 100000
set_option maxHeartbeats 2000000
/-! an own exception without fields raised; a def held by a local name called within a try -/
namespace Dw
open PySem PySem.Spec PyProof.Rows L2 Evl PySem.W DV XvC PySem.HandSPX
section
variable {X : Cx} {CX : CXT} {k i : Nat} {f C : Addr} {fd : FuncData} {ps : List Str} {sp : Sp} {E : L2.St → XK} {x : Str} {p pos : Pos} {e : Expr} {es : List Expr} {t : TA}
/-- what is asked of an own class that is raised and caught -/
structure NoX (K : PySem.W.Frag) (mg : Str → Option Value) (x : Str) (C : Addr) : Prop where
  q : PySem.W.excIn K C veTail "ValueError.__new__" = true
  g : mg x = some (.ref C)
  k : PySem.W.keepIn K (.ref C) = true
  b : PySem.W.subIn K (.ref C) (.type "BaseException") = some true
  t : PySem.W.typeIn K (.ref C) = some (.type "type")
  e : PySem.W.exmOne K (.ref C) (.ref C) = some true
theorem pmk_own0 (N : NoX X.K X.mg x C) (hg : Gl X x) (hdb : (x == ("__debug__" : Str)) = false := by decide) : PMk X (.Call (.Name x p) [] [] pos) (fun _ H Q => Q (.ref C) none H) := by
  intro pins s σ H Q I h
  refine wpAny_Call_Name_kw (ld_glob I hg N.g ?_ hdb)
  refine PySem.W.callWith_K0 I.kIn N.k ?_
  show wpAny _ _ (call (.ref C) []) _ _ _
  obtain ⟨bm, Nn, nm, qn, bs, hdct, sn, sub, ab, col, dd, k0, k1, k2, k3, k5, mN, hC, hN, hni, OT⟩ := exc_obj I.kIn N.q
  refine wpAny_call_exc_subT F.excBase_ValueError OT hC hN hni (fun h' a hm => ?_) (by show 0 ≤ sizeLine; omega)
  exact mk_of I hm (raises_own N.b N.t) h (I.hok.gone hm.new)
def tCallLS (i : Nat) (f : Addr) (sp : Sp) (E : L2.St → XK) (t : TA) : TE := fun σ H Q => σ[i]? = some (some (.ref f)) ∧ t σ H fun vs H1 => sp vs H1 Q (E σ)
theorem pe_callLS (F : FnOk X.prog X.w X.K X.mg X.base CX k f fd ps sp) (hr : Room k X.A) (hN : X.N[i]? = some x) (hv : Vis X.env.scope x) (hk : PySem.W.keepIn X.K (.ref f) = true) (hb : Binds X.K fd ps []) (hx : ∀ σ, PassesAt CX X σ (E σ)) (ha : PA X (e :: es) t)
    (hdb : (x == ("__debug__" : Str)) = false := by decide) (hcd : (x == ("__classdict__" : Str)) = false := by decide)
    (he : starEach (e :: es) X.env = (false, eval e X.env) :: starEach es X.env := by rfl) (hpl : (backTo pos (starEach es X.env)).any (·.1) = false := by rfl) : PE X (.Call (.Name x p) (e :: es) [] pos) (tCallLS i f sp E t) := by
  refine ⟨fun pins s σ H Q I h => ?_⟩
  obtain ⟨hs, ht⟩ := h
  refine wpAny_Call_Name_kw (thn ((pe_var (pos := p) hN hv hdb hcd).run pins s σ H (fun v H1 => v = .ref f ∧ H1 = H) I ⟨.ref f, hs, rfl, rfl⟩) fun u s1 ⟨v, H1, I1, r1, q1⟩ => ?_)
  obtain ⟨rfl, rfl⟩ := q1
  cases r1
  refine PySem.W.callWith_K (h₀ := X.base) I.ok.mod.kin hk (thn (ha.run pos pins s1 σ _ _ I1 ht) fun us s2 ⟨vs, H2, I2, r, q⟩ => ⟨I2.kIn, ?_⟩) he hpl
  exact run_fnS F hr hb (hx σ) I2 r q
end
end Dw
/-! text W18 -/
set_option Elab.async false
set_option linter.all false
set_option maxRecDepth 100000
set_option maxHeartbeats 2000000
/-! list(d.values()) -/
namespace Dw
open PySem PySem.Spec PyProof.Rows L2 Evl PySem.W DV
def tListVals (te : TE) : TE := fun σ H Q => te σ H fun x H1 => ∃ d kvs, x = .ref d ∧ H1 d = some (.dK kvs) ∧ ∀ q, H1 q = none → Q (.ref q) (upd H1 q (.lst (kvs.map (·.2))))
theorem kv_vals : ∀ {kvs : List (Key × V)} {vs : List (Key × Value)}, KV kvs vs → Vals (kvs.map (·.2)) (vs.map (·.2))
  | _, _, .nil => .nil
  | _, _, .cons h r => .cons h.2 (kv_vals r)
section
variable {X : Cx} {e : Expr} {te : TE} {p apos cpos pos : Pos}
theorem pe_listVals (hc : X.calm = true) (he : PE X e te) (hg : Gl X "list") (hm : X.mg "list" = none) (hv : bootBuiltins "list" = some (.type "list")) (hbase : attributeBase e "values" X.env (eval e X.env) = eval e X.env := by rfl) (hline : (apos.endLine == cpos.line) = true := by rfl)
    (hs : starEach [.Call (.Attribute e "values" apos) [] [] cpos] X.env = (false, eval (.Call (.Attribute e "values" apos) [] [] cpos) X.env) :: starEach [] X.env := by rfl) :
    PE X (.Call (.Name "list" p) [.Call (.Attribute e "values" apos) [] [] cpos] [] pos) (tListVals te) := by
  refine ⟨fun pins s σ H Q I hq => ?_⟩
  refine wpAny_Call_Name_kw (ld_blt I hg hm hv ?_)
  refine PyProof.Rows.callWith_type1 ?_ hs rfl
  rw [hs]
  show wpAny _ _ (spliced ((false, eval (.Call (.Attribute e "values" apos) [] [] cpos) X.env) :: backTo pos (starEach [] X.env))) _ _ s
  refine Calls.spliced_cons ?_
  refine wpAny_Call_method (T := "dict") (id := "dict.values") hbase rfl hline F.plainAttrs_dict F.slot_dict_values F.type_dict_values (thn (he.run pins s σ H _ I hq) fun u s1 ⟨x, H1, I1, rx, d, kvs, ex, hd, q⟩ => ?_)
  subst ex
  obtain rfl : u = Value.ref d := rx
  obtain ⟨hz, hs0, vs, kv, hdo⟩ := I1.hok d _ hd
  obtain ⟨ep, hat⟩ := hdo.dictAt
  have lk : kvs.length = vs.length := Paired.length kv
  have I2 : Inv X pins σ H1 { s1 with heap := s1.heap.push { cls := .type "dict_values", data := .fields #[.ref d] } } := I1.kept (t' := s1.toks) fun b ob q => Heap.get?_push_of_some _ q
  refine ⟨hdo.typeIs, hdo.mapOf.noDict, ?_⟩
  show wpAny _ _ (callWith cpos (.builtin "dict.values") [.ref d] [] []) _ X.xe s1
  refine method_meetsIn F.slot_dict_values F.entry_dict_values rfl (PySem.evalArgs_none ⟨rfl, hdo.typeIs, F.args_dict_values_1 _, _, meets_dict_values (mixKind X.prog X.w) d hs0, ⟨vs, hdo⟩, ?_⟩)
  refine Calls.spliced_nil ?_
  refine PySem.W.kdl_call (PySem.W.kdl_values (knd := mixKind X.prog X.w) (kvs := vs) (ep := ep)) (I1.ok.hd hc) ⟨⟨_, Heap.get?_push_size _ rfl, rfl, rfl⟩, hat.push _⟩ (by omega) fun h' tk acc c hk hS hacc => ?_
  have fr := I2.hok.fresh (Nat.le_refl _)
  refine ⟨.ref _, upd H1 _ (.lst (kvs.map (·.2))), I2.laid hk (Nat.le_refl _) (show ObjOk X.prog X.w _ _ _ (.lst (kvs.map (·.2))) from ⟨?_, acc.toList, c, ?_, ?_⟩), rfl, q _ fr⟩
  · rw [List.length_map]
    exact hz
  · have el : acc.toList = vs.map (·.2) := PySem.W.kdl_vals_eq acc.toList (by rw [Array.length_toList]; exact hacc.1) fun j v hj => hacc.2 j v (by rw [← Array.getElem?_toList]; exact hj)
    rw [el]
    exact kv_vals kv
  · rw [Array.toArray_toList]
    exact hS
end
end Dw
/-! text W19 -/
set_option Elab.async false
set_option linter.all false
set_option maxRecDepth 100000
set_option maxHeartbeats 2000000
/-! typed: ranges; a list that is added to -/
namespace Dw
open PySem PySem.Spec PyProof.Rows L2 Evl PySem.W DV
section
variable {α β γ : Type} [DecidableEq α] [Datum α] [DV α] [DecidableEq β] [Datum β] [DV β] [DecidableEq γ] [Datum γ] [DV γ] {K : PySem.W.Frag} {σ : L2.St} {H H' A A0 H0 H1 : Hp} {te ta tb : TE} {tt : TT} {D : Ends}
theorem ed_rng2 {lo hi : Int} {n : Nat} {ta : TA} {j : Nat} {vs : List Nat} (r : Nat → List β) (h : EvA ta σ A [.int lo, .int hi]) (hb : -(2 ^ 62) ≤ lo ∧ lo < 2 ^ 62 ∧ -(2 ^ 62) ≤ hi ∧ hi < 2 ^ 62) (hn : n = (hi - lo).toNat) (r0 : r 0 = []) (hl : ∀ i, i < n → (r i).length < 40000)
    (hw : ∀ x, wipe ((wipe σ vs).set j (some x)) vs = wipe σ vs)
    (turn : ∀ i, i < n → ∃ (b : Bool) (y : β), (b = true → r (i + 1) = r i ++ [y]) ∧ (b = false → r (i + 1) = r i) ∧ EvT tt ((wipe σ vs).set j (some (.int (lo + i)))) A b ∧ (b = true → EvD te ((wipe σ vs).set j (some (.int (lo + i)))) A y)) :
    EvD (tLc (iRng2 ta) (gName j) tt te vs) σ A (r n) := fun H0 e0 Q q => h H0 e0 _ fun H1 e1 => by
  subst hn
  refine ⟨lo, hi, rfl, hb, fun D nD => ?_⟩
  exact ed_lcW (walk_range (lo := lo) (n := (hi - lo).toNat)) e1 (e0.trans e1) (fun b u z => .inl z) r r0 hl (fun _ _ => True.intro) (fun i x H2 H3 hi e2 hy => by
    obtain ⟨rfl, rfl⟩ := hy
    obtain ⟨b, y, h1, h2, h3, h4⟩ := turn i hi
    exact ⟨Ex.refl _, b, y, h1, h2, fun C c => c _ (hw _) h3 h4⟩) q nD
theorem ed_rng1 {hi : Int} {n : Nat} {ta : TA} {j : Nat} {vs : List Nat} (r : Nat → List β) (h : EvA ta σ A [.int hi]) (hb : -(2 ^ 62) ≤ hi ∧ hi < 2 ^ 62) (hn : n = hi.toNat) (r0 : r 0 = []) (hl : ∀ i, i < n → (r i).length < 40000)
    (hw : ∀ x, wipe ((wipe σ vs).set j (some x)) vs = wipe σ vs)
    (turn : ∀ i, i < n → ∃ (b : Bool) (y : β), (b = true → r (i + 1) = r i ++ [y]) ∧ (b = false → r (i + 1) = r i) ∧ EvT tt ((wipe σ vs).set j (some (.int (0 + i)))) A b ∧ (b = true → EvD te ((wipe σ vs).set j (some (.int (0 + i)))) A y)) :
    EvD (tLc (iRng1 ta) (gName j) tt te vs) σ A (r n) := fun H0 e0 Q q => h H0 e0 _ fun H1 e1 => by
  subst hn
  refine ⟨hi, rfl, hb.1, hb.2, fun D nD => ?_⟩
  exact ed_lcW (walk_range (lo := 0) (n := hi.toNat)) e1 (e0.trans e1) (fun b u z => .inl z) r r0 hl (fun _ _ => True.intro) (fun i x H2 H3 hi e2 hy => by
    obtain ⟨rfl, rfl⟩ := hy
    obtain ⟨b, y, h1, h2, h3, h4⟩ := turn i hi
    exact ⟨Ex.refl _, b, y, h1, h2, fun C c => c _ (hw _) h3 h4⟩) q nD
/-- xs[i] -/
theorem ed_ixL {xs : List α} {i : Nat} {x : α} (h : EvD ta σ A xs) (hi : Ev tb σ A (.int (i : Int))) (hx : xs[i]? = some x) : EvD (tOp (rIxL K) ta tb) σ A x := fun H1 e Q q => h H1 e _ fun v H2 Hs e2 s r => hi H2 (e.trans e2) _ fun H3 e3 => by
  obtain ⟨a, vs, rfl, g1, g2⟩ := r
  have len := Reps.len g2
  obtain ⟨li, _⟩ := List.getElem?_eq_some_iff.mp hx
  have hv : vs[i]? = some vs[i] := List.getElem?_eq_getElem (by omega)
  refine ⟨a, vs, (i : Int), vs[i], rfl, rfl, sq_of (e3 _ _ (s.e _ _ g1)), ?_, q _ H3 Hs (e2.trans e3) ⟨s.e.trans e3, s.o⟩ (Reps.at g2 hv hx)⟩
  show (ixN vs.length (i : Int)).bind _ = _
  rw [ixN_nat (by omega)]
  exact hv
/-- found.extend(ys): found at D holds r -/
theorem iv_ext {D : Addr} {r ys : List β} {B : Hp} {i : Nat} {Dz : Ends} (h : IV A H0 H1 D r H) (hσ : σ[i]? = some (some (.ref D))) (e0 : Ex H0 H1) (nD : H1 D = none) (hl : r.length + ys.length < 40000) (eB : Ex B H) (BD : B D = none) (oB : ∀ b u, B b = some u → A b = some u ∨ H0 b = none) (ed : EvD te σ B ys)
    (k : ∀ H2, IV A H0 H1 D (r ++ ys) H2 → (∀ b o, b ≠ D → H b = some o → H2 b = some o) → Dz.nx σ H2) : tDrop (tBM K "list" rExtend (tVar i) (tCons te tNil)) Dz σ H := by
  obtain ⟨p2, ws, Hw, p3, p4, p5, p6⟩ := h
  refine ⟨.ref D, hσ, .inl ⟨rfl, _, sq_of p3⟩, ed H eB _ fun z H5 Hy e5 sy r5 => ?_⟩
  obtain ⟨b, us, rfl, g1, g2⟩ := r5
  refine ⟨D, b, ws, us, rfl, rfl, e5 _ _ p3, sy.e _ _ g1, by rw [Reps.len p6, Reps.len g2]; exact sz_of (by omega), k _ ⟨(p2.trans e5).mut nD, ws ++ us, jn Hw (fun c => if c = D then none else Hy c), upd_same, ?_, ?_, ?_⟩ fun b o n z => (upd_ne n).trans (e5 _ _ z)⟩
  all_goals
    have DHy : Hy D = none := by
      cases z : Hy D with
      | none => rfl
      | some o =>
        rcases sy.o D o z with w | w
        · rw [BD] at w
          cases w
        · rw [p3] at w
          cases w
  · intro c u z
    rcases jn_of z with y | y
    · rw [upd_ne (p5 c u y).1]
      exact e5 _ _ (p4 _ _ y)
    · split at y
      · cases y
      · rename_i n
        rw [upd_ne n]
        exact sy.e _ _ y
  · intro c u z
    rcases jn_of z with y | y
    · exact p5 c u y
    · split at y
      · cases y
      · rename_i n
        refine ⟨n, ?_⟩
        rcases sy.o c u y with w | w
        · exact oB c u w
        · right
          cases m : H0 c with
          | none => rfl
          | some o =>
            rw [p2 _ _ (e0 _ _ m)] at w
            cases w
  · have q1 : Ex Hw H5 := p4.trans e5
    have e6 : Ex Hy (fun c => if c = D then none else Hy c) := fun c o z => by
      show (if c = D then none else Hy c) = some o
      rw [if_neg (fun y => by rw [y, DHy] at z; cases z)]
      exact z
    have e7 : Ex (fun c => if c = D then none else Hy c) H5 := fun c o z => by
      dsimp only at z
      split at z
      · cases z
      · exact sy.e _ _ z
    exact Reps.app (Reps.ext jn_l p6) (Reps.ext (e6.trans (jn_r q1 e7)) g2)
end
end Dw
/-! text W20 -/
set_option Elab.async false
set_option linter.all false
set_option maxRecDepth 100000
set_option maxHeartbeats 2000000
/-! typed: a dict comprehension over a list; sorted of a dict's whole numbers -/
namespace Dw
open PySem PySem.Spec PyProof.Rows L2 Evl PySem.W DV
/-- te goes on with a new dict -/
def EvDG (te : TE) (σ : L2.St) (A : Hp) (kvs : List (Key × V)) : Prop := ∀ H1, Ex A H1 → ∀ Q : VK, (∀ D H2, H1 D = none → Ex H1 H2 → H2 D = some (.dK kvs) → Q (.ref D) H2) → te σ H1 Q
section
variable {α : Type} [DecidableEq α] [Datum α] [DV α] {K : PySem.W.Frag} {σ : L2.St} {A : Hp} {tl tk tv te : TE}
theorem ed_dcG {xs : List α} {j : Nat} {vs : List Nat} (kf : α → Key) (vf : α → V) (h : EvD tl σ A xs) (hz : xs.length ≤ 40000) (hw : ∀ x, wipe ((wipe σ vs).set j (some x)) vs = wipe σ vs)
    (hk : ∀ (x : α) (v : V) H1, Ex A H1 → x ∈ xs → rep H1 v x → Ev tk ((wipe σ vs).set j (some v)) H1 (kV (kf x))) (hv : ∀ (x : α) (v : V) H1, Ex A H1 → x ∈ xs → rep H1 v x → Ev tv ((wipe σ vs).set j (some v)) H1 (vf x)) :
    EvDG (tDc (iList K tl) (gName j) tYes tk tv vs) σ A (mergeK [] (xs.map fun x => (kf x, vf x))) := fun H1 e Q q => h H1 e _ fun v H2 Hs e2 s r => by
  obtain ⟨a, us, rfl, h1, h2⟩ := r
  have len := Reps.len h2
  have ha := s.e _ _ h1
  refine ⟨a, rfl, ⟨us, sq_of ha⟩, fun D hD => ?_⟩
  have D1 : H1 D = none := fresh_back e2 hD
  have eB : Ex (jn A Hs) H2 := jn_ex (e.trans e2) s.e
  have BD : jn A Hs D = none := fresh_back eB hD
  refine ⟨fun i m H => m = us.length - i ∧ i ≤ us.length ∧ Ex H2 H ∧ H D = some (.dK (mergeK [] ((xs.take i).map fun x => (kf x, vf x)))), ⟨us.length, by simp, Nat.zero_le _, Ex.new hD, upd_same⟩, ?_⟩
  rintro i m H ⟨rfl, hi, p1, p2⟩
  have hq : SqL K H a us := sq_of (p1 _ _ ha)
  by_cases hlt : i < us.length
  · refine .inr ⟨⟨us, us[i], hq, by simp [hlt]⟩, fun H' => Ex H2 H' ∧ H' D = some (.dK (mergeK [] ((xs.take (i + 1)).map fun x => (kf x, vf x)))), fun H' p' => ⟨us.length - (i + 1), by omega, rfl, hlt, p'⟩, fun x H' y => ?_⟩
    obtain ⟨e', y⟩ := y
    subst e'
    have hx := y us hq
    obtain ⟨x0, hxs⟩ : ∃ x0, xs[i]? = some x0 := ⟨_, List.getElem?_eq_getElem (show i < xs.length by omega)⟩
    have rx : rep (jn A Hs) x x0 := DV.ext (jn_r (e.trans e2) s.e) (Reps.at h2 hx hxs)
    have mx : x0 ∈ xs := List.mem_of_getElem? hxs
    refine ⟨hw x, hk x0 x (jn A Hs) jn_l mx rx H' (eB.trans p1) _ fun H4 e4 => hv x0 x (jn A Hs) jn_l mx rx H4 ((eB.trans p1).trans e4) _ fun H5 e5 => ?_⟩
    have ln : (mergeK [] ((xs.take i).map fun x => (kf x, vf x))).length ≤ i := by
      have := length_mergeK ((xs.take i).map fun x => (kf x, vf x)) []
      rw [List.length_map, List.length_take, List.length_nil] at this
      omega
    refine ⟨_, kf x0, rfl, e5 _ _ (e4 _ _ p2), sz_lt (by omega), ((p1.trans e4).trans e5).mut hD, ?_⟩
    rw [upd_same, List.take_add_one, hxs]
    show _ = some (HO.dK (mergeK [] ((xs.take i ++ [x0]).map fun x => (kf x, vf x))))
    rw [List.map_append]
    unfold mergeK
    rw [List.foldl_append]
    rfl
  · have e3 : i = us.length := by omega
    subst e3
    rw [List.take_of_length_le (by omega)] at p2
    exact .inl ⟨⟨us, hq, Nat.le_refl _⟩, q D H D1 (e2.trans p1) p2⟩
end
theorem keys_putI {kvs : List (Key × V)} {ks : List Int} {x : Int} {v : V} (h : kvs.map (·.1) = ks.map Sum.inl) : (putK kvs (.inl x) v).map (·.1) = (if x ∈ ks then ks else ks ++ [x]).map Sum.inl := by
  have e : (kvs.any fun kv => decide (kv.1 = Sum.inl x)) = decide (x ∈ ks) := by
    rw [Bool.eq_iff_iff, List.any_eq_true, decide_eq_true_eq]
    constructor
    · rintro ⟨p, hp, z⟩
      have z := of_decide_eq_true z
      have m : p.1 ∈ kvs.map (·.1) := List.mem_map.mpr ⟨p, hp, rfl⟩
      rw [h, z] at m
      obtain ⟨y, hy, e⟩ := List.mem_map.mp m
      cases e
      exact hy
    · intro m
      have m2 : (Sum.inl x : Key) ∈ kvs.map (·.1) := by
        rw [h]
        exact List.mem_map.mpr ⟨x, m, rfl⟩
      obtain ⟨p, hp, e⟩ := List.mem_map.mp m2
      exact ⟨p, hp, decide_eq_true e⟩
  unfold putK
  rw [e]
  by_cases m : x ∈ ks
  · rw [decide_eq_true m, if_pos rfl, if_pos m, List.map_map, ← h]
    refine List.map_congr_left fun p _ => ?_
    show (if p.1 = Sum.inl x then (p.1, v) else p).1 = p.1
    split <;> rfl
  · rw [decide_eq_false m, if_neg Bool.false_ne_true, if_neg m, List.map_append, List.map_append, h]
    rfl
theorem keys_merge (vf : Int → V) : ∀ (xs : List Int) (acc : List (Key × V)) (ks : List Int), acc.map (·.1) = ks.map Sum.inl → (mergeK acc (xs.map fun x => ((Sum.inl x : Key), vf x))).map (·.1) = (xs.foldl (fun acc x => if x ∈ acc then acc else acc ++ [x]) ks).map Sum.inl
  | [], acc, ks, h => h
  | x :: r, acc, ks, h => keys_merge vf r (putK acc (Sum.inl x) (vf x)) (if x ∈ ks then ks else ks ++ [x]) (keys_putI h)
def rSrtI : List V → Hp → VK → Prop := fun xs H Q => ∃ (a : Addr) (kvs : List (Key × V)) (ks : List Int), xs = [.ref a] ∧ Rd H a (.dK kvs) ∧ kvs.map (·.1) = ks.map Sum.inl ∧
  ks.length < 64 ∧ ∀ (ys : List Int) (p : Addr), ys.Perm ks → ys.Pairwise (· ≤ ·) → H p = none → Q (.ref p) (upd H p (.lst (ys.map V.int)))
theorem cr_srtI {X : Cx} (hc : X.calm = true) : CallR X (.builtin "sorted") rSrtI := call_sortedDI hc
theorem reps_ints {H : Hp} : ∀ (ys : List Int), Reps H (ys.map V.int) ys
  | [] => .nil
  | y :: r => .cons rfl (reps_ints r)
theorem int_tot : Lot.Tot (DatumOrd.lt : Int → Int → Bool) := by
  refine ⟨fun a => decide_eq_false (Int.lt_irrefl a), fun a b c h1 h2 => ?_, fun a b h1 h2 => ?_⟩
  · have h1 := of_decide_eq_true h1
    have h2 := of_decide_eq_true h2
    exact decide_eq_true (Int.lt_trans h1 h2)
  · have h1 := of_decide_eq_false h1
    have h2 := of_decide_eq_false h2
    omega
theorem ed_srtI {σ : L2.St} {A : Hp} {te : TE} {kvs : List (Key × V)} {ks : List Int} (h : EvDG te σ A kvs) (hk : kvs.map (·.1) = ks.map Sum.inl) (n : ks.Nodup) (hl : ks.length < 64) : EvD (tCB rSrtI (tCons te tNil)) σ A (srt ks) := fun H1 e Q q => h H1 e _ fun D H2 nD e2 hD => by
  refine ⟨D, kvs, ks, rfl, .inl hD, hk, hl, fun ys p hp hs np => ?_⟩
  have ny : ys.Nodup := hp.nodup_iff.mpr n
  have ey : ys = srt ks := by
    refine Lot.asc_ext int_tot (Lot.asc_of_sorted int_tot (hs.imp fun {a b} z => decide_eq_false (by omega)) ny) (srt_asc int_tot n) fun x => hp.mem_iff.trans srt_mem.symm
  rw [ey]
  exact q _ _ (upd (fun _ => none) p (.lst ((srt ks).map V.int))) (e2.trans (Ex.new np)) (sup_new e2 ⟨fun _ _ z => (by cases z), fun _ _ z => (by cases z)⟩ np) ⟨p, _, rfl, upd_same, reps_ints _⟩
theorem reps_int_eq {H : Hp} : ∀ {vs : List V} {bs : List Int}, Reps H vs bs → vs = bs.map V.int
  | _, _, .nil => rfl
  | _, _, .cons h r => by
    rw [List.map_cons, ← reps_int_eq r]
    exact congrArg (· :: _) h
end Dw
/-! text W21 -/
set_option Elab.async false
set_option linter.all false
set_option maxRecDepth 100000
set_option maxHeartbeats 2000000
/-! typed: tuples of lists, lists of tuples; a list in another order -/
namespace Dw
open PySem PySem.Spec PyProof.Rows L2 Evl PySem.W DV
def rTupS (K : PySem.W.Frag) : List V → Hp → VK → Prop := fun xs H Q => ∃ p ys, xs = [.ref p] ∧
  ((SqL K H p ys ∧ ∀ l, H l = none → Q (.ref l) (upd H l (.tup ys))) ∨ (SqT K H p ys ∧ Q (.ref p) H))
theorem cr_tupS {X : Cx} : CallR X (.type "tuple") (rTupS X.K) := call_tuple_of
section
variable {α : Type} [DecidableEq α] [Datum α] [DV α] {K : PySem.W.Frag} {σ : L2.St} {A : Hp} {te : TE}
theorem ed_tup {xs : List α} (h : EvD te σ A xs) : EvD (tCB (rTupS K) (tCons te tNil)) σ A (⟨xs⟩ : Tup α) := fun H1 e Q q => h H1 e _ fun v H2 Hs e2 s r => by
  obtain ⟨a, vs, rfl, h1, h2⟩ := r
  refine ⟨a, vs, rfl, .inl ⟨sq_of (s.e _ _ h1), fun p np => ?_⟩⟩
  exact q _ _ (upd Hs p (.tup vs)) (e2.trans (Ex.new np)) (sup_new e2 s np) ⟨p, vs, rfl, upd_same, Reps.ext (Ex.new (sup_no s np)) h2⟩
theorem ed_listT {xs : Tup α} (h : EvD te σ A xs) : EvD (tCB (rListS K) (tCons te tNil)) σ A xs.items := fun H1 e Q q => h H1 e _ fun v H2 Hs e2 s r => by
  obtain ⟨a, vs, rfl, h1, h2⟩ := r
  refine ⟨a, vs, rfl, .inr (st_of (s.e _ _ h1)), fun p np => ?_⟩
  exact q _ _ (upd Hs p (.lst vs)) (e2.trans (Ex.new np)) (sup_new e2 s np) ⟨p, vs, rfl, upd_same, Reps.ext (Ex.new (sup_no s np)) h2⟩
theorem reps_perm {H : Hp} {vs us : List V} (p : us.Perm vs) : ∀ {xs : List α}, Reps H vs xs → ∃ ys : List α, ys.Perm xs ∧ Reps H us ys := by
  induction p with
  | nil => exact fun r => ⟨_, .refl _, r⟩
  | cons x p ih =>
    intro xs r
    cases r with
    | cons h r =>
      obtain ⟨ys, p2, r2⟩ := ih r
      exact ⟨_ :: ys, p2.cons _, .cons h r2⟩
  | swap x y l =>
    intro xs r
    cases r with
    | cons h r => cases r with
      | cons h2 r => exact ⟨_ :: _ :: _, .swap _ _ _, .cons h2 (.cons h r)⟩
  | trans p1 p2 ih1 ih2 =>
    intro xs r
    obtain ⟨ys, p3, r3⟩ := ih2 r
    obtain ⟨zs, p4, r4⟩ := ih1 r3
    exact ⟨zs, p4.trans p3, r4⟩
end
end Dw
/-! text W22 -/
set_option Elab.async false
set_option linter.all false
set_option maxRecDepth 100000
set_option maxHeartbeats 2000000
/-! typed: a list made, added to; lists times a number -/
namespace Dw
open PySem PySem.Spec PyProof.Rows L2 Evl PySem.W DV
section
variable {α β : Type} [DecidableEq α] [Datum α] [DV α] [DecidableEq β] [Datum β] [DV β] {K : PySem.W.Frag} {σ : L2.St} {H A A0 H0 : Hp} {te ta tb : TE} {tt : TT} {D : Ends}
/-- the display [te] bound to a name: the list itself is not known yet (it will be added to) -/
theorem b_lst1 {x : α} {i : Nat} {tz : TS} (B : Bs A0 H0 A H) (h : EvD te σ A x) (k : ∀ v d A' H1, Bs A0 H0 A' H1 → Ex A A' → A' d = none → H0 d = none → H1 d = some (.lst [v]) → rep A' v x → tz D (σ.set i (some (.ref d))) H1) : tSeq (tAsg (tLst (tCons te tNil)) (gName i)) tz D σ H := h H B.h _ fun v H1 Hs e s r => by
  refine ⟨by show 1 ≤ sizeLine; decide, fun d nd => ?_⟩
  have B1 := B.go e s
  have nA : jn A Hs d = none := fresh_back B1.h nd
  exact k v d (jn A Hs) _ (B1.mono (Ex.new nd)) jn_l nA (fresh_back B1.e nd) upd_same (B.rep e s r)
/-- d.append(te) -/
theorem b_appD {x : α} {i : Nat} {tz : TS} {d : Addr} {vs : List V} (B : Bs A0 H0 A H) (hσ : σ[i]? = some (some (.ref d))) (hd : H d = some (.lst vs)) (hz : vs.length < 100000) (nA : A d = none) (nH : H0 d = none) (h : EvD te σ A x)
    (k : ∀ v A' H1, Bs A0 H0 A' H1 → Ex A A' → A' d = none → H1 d = some (.lst (vs ++ [v])) → rep A' v x → tz D σ H1) : tSeq (tDrop (tBM K "list" rAppend (tVar i) (tCons te tNil))) tz D σ H := by
  refine ⟨.ref d, hσ, .inl ⟨rfl, _, sq_of hd⟩, h H B.h _ fun v H1 Hs e s r => ?_⟩
  have B1 := B.go e s
  have nS : Hs d = none := by
    cases z : Hs d with
    | none => rfl
    | some o =>
      rcases s.o d o z with y | y
      · rw [nA] at y
        cases y
      · rw [hd] at y
        cases y
  have nJ : jn A Hs d = none := by
    cases z : jn A Hs d with
    | none => rfl
    | some o => exact (jn_of z).elim (fun y => by rw [nA] at y; cases y) fun y => by rw [nS] at y; cases y
  exact ⟨d, vs, v, rfl, rfl, e _ _ hd, sz_lt hz, k v (jn A Hs) _ (B1.mut nH nJ) jn_l nJ upd_same (B.rep e s r)⟩
theorem reps_flat {H : Hp} {vs : List V} {xs : List α} (r : Reps H vs xs) : ∀ n, Reps H (List.replicate n vs).flatten (List.replicate n xs).flatten
  | 0 => .nil
  | n + 1 => by
    rw [List.replicate_succ, List.replicate_succ, List.flatten_cons, List.flatten_cons]
    exact Reps.app r (reps_flat r n)
/-- xs * n -/
theorem ed_rep {xs : List α} {n : Nat} (h : EvD ta σ A xs) (hn : n ≤ 100) (hl : xs.length ≤ 100) : EvD (tOp rRep ta (tC (.int (n : Int)))) σ A (List.replicate n xs).flatten := fun H1 e Q q => h H1 e _ fun v H2 Hs e2 s r => by
  obtain ⟨a, vs, rfl, h1, h2⟩ := r
  have len := Reps.len h2
  refine ⟨a, (n : Int), vs, rfl, rfl, s.e _ _ h1, by omega, by omega, ?_, fun p np => ?_⟩
  · rw [Int.toNat_natCast]
    exact sz_of (Nat.le_trans (Nat.mul_le_mul (by omega : vs.length ≤ 100) hn) (by decide))
  · rw [Int.toNat_natCast]
    exact q _ _ (upd Hs p (.lst (List.replicate n vs).flatten)) (e2.trans (Ex.new np)) (sup_new e2 s np) ⟨p, _, rfl, upd_same, Reps.ext (Ex.new (sup_no s np)) (reps_flat h2 n)⟩
/-- what is known of a list that is now done with -/
theorem Bs.done {d : Addr} {vs : List V} {xs : List α} (B : Bs A0 H0 A H) (hd : H d = some (.lst vs)) (nA : A d = none) (nH : H0 d = none) (r : Reps A vs xs) : Bs A0 H0 (upd A d (.lst vs)) H ∧ DV.rep (upd A d (.lst vs)) (.ref d) xs := ⟨B.new hd nH nA, d, vs, rfl, upd_same, Reps.ext (Ex.new nA) r⟩
end
end Dw
/-! text W23 -/
set_option Elab.async false
set_option linter.all false
set_option maxRecDepth 100000
set_option maxHeartbeats 2000000
/-! for i, x in enumerate(t), t a tuple -/
namespace XvE
open PySem PySem.Spec PyProof.Rows L2 RZ
theorem meets_enumT (l : Addr) (items : Array Value) :
    Meets (Builtin.«enumerate.__new__» ⟨[.type "enumerate", .ref l], []⟩) (fun _ R s => s.heap.IsTuple l items ∧
      R (.ok (.ret (.ref (s.heap.push { cls := .type "tuple_iterator", data := .fields #[.ref l, .int 0 0] }).objs.size)))
        { s with heap := (s.heap.push { cls := .type "tuple_iterator", data := .fields #[.ref l, .int 0 0] }).push { cls := .type "enumerate", data := .fields #[.none, .bool false, .ref s.heap.objs.size, rawInt 0, .none, .none] } }) :=
  .of_wp fun prog w A R s h => by
    obtain ⟨hp, g, d, tk, os⟩ := s
    obtain ⟨hl, h⟩ := h
    have hsub := sub_enumerate
    have q1 : ∀ {A' : Around} {E : Value → Shared → Prop} {Q : Value → Shared → Prop}, Q (.ref hp.objs.size) ⟨hp.push { cls := .type "tuple_iterator", data := .fields #[.ref l, .int 0 0] }, g, d, tk, os⟩ → wpAny (model prog w) A' (pyIter (.ref l)) Q E ⟨hp, g, d, tk, os⟩ :=
      fun q => wpAny_pyIter_tuple (s := ⟨hp, g, d, tk, os⟩) hl q
    wp_walk using q1
    refine wpAny_stack_any fun st => wpAny_pure ?_
    split
    · rename_i c _ _ _ _ _
      cases (c == Value.type "enumerate")
      · wp_walk using q1
        exact ⟨_, rfl, h⟩
      · wp_walk using q1
        exact ⟨_, rfl, h⟩
    · wp_walk using q1
      exact ⟨_, rfl, h⟩
section
variable {prog : Program} {w : World} {A : Around} {E : Value → Shared → Prop} {s : Shared}
theorem call_enumT {l : Addr} {items : Array Value} {Q : Value → Shared → Prop} (hL : s.heap.IsTuple l items)
    (h : ∀ h', IsEnum h' (s.heap.objs.size + 1) s.heap.objs.size 0 .none → h'.IsTupleIter s.heap.objs.size l 0 → h'.objs.size = s.heap.objs.size + 2 →
      (∀ b o, s.heap.get? b = some o → h'.get? b = some o) → Q (.ref (s.heap.objs.size + 1)) { s with heap := h' }) :
    wpAny (model prog w) A (call (.type "enumerate") [.ref l]) Q E s := by
  refine callType_new F.called_enumerate (by decide) (F.typeCall_enumerate_1 _) (F.newCall_enumerate_1 _) (fun obj => F.args_object_init_2 obj _) F.entry_enumerate_new
    (meets_enumT l items) ⟨hL, ?_⟩
  have hz : (s.heap.push { cls := .type "tuple_iterator", data := .fields #[.ref l, .int 0 0] }).objs.size = s.heap.objs.size + 1 := Heap.size_push ..
  show _ ∧ _
  rw [hz]
  have he : IsEnum ((s.heap.push { cls := .type "tuple_iterator", data := .fields #[.ref l, .int 0 0] }).push
      { cls := .type "enumerate", data := .fields #[.none, .bool false, .ref s.heap.objs.size, rawInt 0, .none, .none] }) (s.heap.objs.size + 1) s.heap.objs.size 0 .none := by
    have := Heap.get?_push_size (s.heap.push { cls := .type "tuple_iterator", data := .fields #[.ref l, .int 0 0] })
      (o := { cls := .type "enumerate", data := .fields #[.none, .bool false, .ref s.heap.objs.size, rawInt 0, .none, .none] }) rfl
    rw [hz] at this; exact this
  refine ⟨⟨_, he, rfl⟩, h _ he ⟨_, Heap.get?_push_of_some _ (Heap.get?_push_size _ rfl), rfl, rfl⟩ (by rw [Heap.size_push, hz]) fun b o x => Heap.get?_push_of_some _ (Heap.get?_push_of_some _ x)⟩
end
/-- the tuple at a, each item in a new pair -/
def IteT (K : PySem.W.Frag) (a : Addr) : It :=
  ⟨fun i H => ∃ (xs : List V) (x : V), SqT K H a xs ∧ xs[i]? = some x, fun i H v H' => ∃ T x, v = .ref T ∧ H T = none ∧ H' = upd H T (.tup [.int (i : Nat), x]) ∧ ∀ xs, SqT K H a xs → xs[i]? = some x, fun i H => ∃ xs : List V, SqT K H a xs ∧ xs.length = i⟩
theorem turn_enumT {P : Program} {w : World} {K : PySem.W.Frag} {elts : List Expr} {kk : Nat} {tpos : Pos} (a e it : Addr) :
    Turn P w K (.Tuple elts kk tpos) (IteT K a) [e, it] e (fun i h => (∃ old, IsEnum h e it ((i : Nat) : Int) old) ∧ h.IsTupleIter it a i ∧ e ≠ it ∧ a ≠ it ∧ a ≠ e) where
  mem := by simp
  obj := fun i h st b hb => by
    obtain ⟨⟨old, he⟩, ⟨o, ho, hc, hd⟩, _⟩ := st
    have e' : b = e ∨ b = it := by simpa using hb
    rcases e' with z | z
    · rw [z]; exact ⟨_, he, fun v q => nomatch q⟩
    · rw [z]; exact ⟨o, ho, fun v q => by rw [hd] at q; cases q⟩
  keep := fun i h h' st k => let ⟨⟨old, he⟩, hi, hne⟩ := st; ⟨⟨old, k e (by simp) _ he⟩, hi.at fun o q => k it (by simp) o q, hne⟩
  item := by
    intro X hP hw hK hc i pins s σ H E I hf st hg
    subst hP hw hK
    obtain ⟨⟨old, he⟩, hit, hne, hai, hae⟩ := st
    obtain ⟨xs, x, hq, hx⟩ := hg
    obtain ⟨its, rv, p, hz⟩ := I.tuple hq
    obtain ⟨u, hu, ru⟩ := rv.get hx
    have hel : e < s.heap.objs.size := Heap.lt_size he
    have hil : it < s.heap.objs.size := by obtain ⟨_, q, _⟩ := hit; exact Heap.lt_size q
    have hlt : i < its.toArray.size := by
      obtain ⟨li, _⟩ := List.getElem?_eq_some_iff.mp hu
      simpa using li
    refine wpAny_pyNext_enum_itemD (Draws.tuple (A := X.A.in1) (I.ok.hd hc) it a hai its.toArray) he ⟨hit, p⟩ hlt hne (by simp [hne, hae.symm]) fun x' h' tk hPx ho hst' hT hsz hk => ?_
    have ex : x' = u := by
      have q : its.toArray[i]? = some x' := hPx
      rw [List.getElem?_toArray, hu] at q
      exact (Option.some.inj q).symm
    subst ex
    refine ⟨_, rfl, wpAny_letOwnedTupleGo_enum (s := { s with heap := h', toks := tk + 1 }) ho fun h'' he' sb => ?_⟩
    have hT2 : h''.get? s.heap.objs.size = some { cls := .type "tuple", data := .seq #[.int i tk, x'] } := (sb.2 _ (Nat.ne_of_gt hel)).trans hT
    have new : ObjOk X.prog X.w (upd H s.heap.objs.size (.tup [.int (i : Nat), x])) h'' s.heap.objs.size (.tup [.int (i : Nat), x]) :=
      ⟨by show 2 ≤ sizeLine; decide, [.int i tk, x'], .cons ⟨_, rfl⟩ (.cons ru .nil), ⟨_, hT2, rfl, _, rfl⟩⟩
    have I1 : Inv X pins σ (upd H s.heap.objs.size (.tup [.int (i : Nat), x])) { s with heap := h'', toks := tk + 1 } :=
      I.turnedNew (ch := [e, it]) (fun b ob hb q => (sb.2 b (fun z => hb (by simp [z]))).trans (hk b ob (fun z => hb (by simp [z])) (fun z => hb (by simp [z])) q)) hf (Nat.le_refl _) new
    refine ⟨.ref s.heap.objs.size, _, I1, rfl, ⟨_, x, rfl, I.hok.fresh (Nat.le_refl _), rfl, fun ys hy => by rw [I.tuple_inj hy hq]; exact hx⟩, ⟨⟨x', ?_⟩, hst'.1.at fun o q => (sb.2 it (Ne.symm hne)).trans q, hne, hai, hae⟩, fun b hb => ?_⟩
    · have e1 : ((i + 1 : Nat) : Int) = (i : Int) + 1 := by omega
      rw [e1]; exact he'
    · have hb' : b < s.heap.objs.size := by
        have e' : b = e ∨ b = it := by simpa using hb
        rcases e' with z | z
        · rw [z]; exact hel
        · rw [z]; exact hil
      rw [upd_ne (Nat.ne_of_lt hb')]
      exact (hf b hb).1
  done := by
    intro X hP hw hK hc i pins s σ H E I hf st hg
    subst hP hw hK
    obtain ⟨⟨old, he⟩, hit, hne, hai, hae⟩ := st
    obtain ⟨xs, hq, hx⟩ := hg
    obtain ⟨its, rv, p, hz⟩ := I.tuple hq
    obtain ⟨f0, f1, f2, f3, f4, f5⟩ := hf it (by simp)
    have hl := rv.length
    have ei : i = its.toArray.size := by
      rw [List.size_toArray]
      omega
    subst ei
    exact wpAny_pyNext_enum_endD (Draws.tuple (A := X.A.in1) (I.ok.hd hc) it a hai its.toArray) he ⟨hit, p⟩ fun h' eb => ⟨rfl, I.turned (t' := s.toks) (fun b o hb q => eb b o hb q) f0 f1 f3 f4 f5⟩
  self := fun A i s Q E st h => let ⟨⟨_, he⟩, _⟩ := st; wpAny_pyIter_enum he h
def iEnumT (K : PySem.W.Frag) (ta : TA) : TI := fun σ H R => ta σ H fun vs H1 => ∃ a xs, vs = [.ref a] ∧ SqT K H1 a xs ∧ R (IteT K a) H1
theorem pi_enumT {X : Cx} {e : Expr} {ta : TA} {p pos tpos : Pos} {elts : List Expr} {kk : Nat} (hg : Gl X "enumerate") (hm : X.mg "enumerate" = none) (ha : PA X [e] ta) (hs : starEach [e] X.env = [(false, eval e X.env)] := by rfl) :
    PI X (.Tuple elts kk tpos) (.Call (.Name "enumerate" p) [e] [] pos) (iEnumT X.K ta) := by
  refine ⟨fun pins s σ H R I h => ?_⟩
  refine Call_ (ld_blt I hg hm boot_enumerate (PyProof.Rows.callWith_type1 (thn (ha.run pos pins s σ H _ I h) fun us s1 ⟨vs, H1, I1, r1, q1⟩ => ?_) hs rfl))
  obtain ⟨a, xs, ex, hq, q⟩ := q1
  subst ex
  cases r1 with
  | cons r rr =>
    cases rr
    cases r
    obtain ⟨its, rv, p', hz⟩ := I1.tuple hq
    have la : a < s1.heap.objs.size := by
      obtain ⟨o, ho, _⟩ := id p'
      exact Heap.lt_size ho
    refine call_enumT p' fun h' he hit hsz hk => wpAny_pyIter_enum he ?_
    have I2 : Inv X pins σ H1 { s1 with heap := h' } := I1.kept (t' := s1.toks) hk
    refine ⟨s1.heap.objs.size + 1, [s1.heap.objs.size + 1, s1.heap.objs.size], _, _, H1, rfl, I2, turn_enumT a (s1.heap.objs.size + 1) s1.heap.objs.size, ⟨⟨.none, he⟩, hit, Nat.succ_ne_self _, Nat.ne_of_lt la, Nat.ne_of_lt (Nat.lt_succ_of_lt la)⟩, fun b hb => ?_, q⟩
    have e' : b = s1.heap.objs.size + 1 ∨ b = s1.heap.objs.size := by simpa using hb
    have hle : s1.heap.objs.size ≤ b := by
      rcases e' with z | z
      · rw [z]; exact Nat.le_add_right _ _
      · rw [z]; exact Nat.le_refl _
    exact I1.fpOk hle (I1.hok.fresh hle)
theorem walk_enumT {K : PySem.W.Frag} {a : Addr} {xs : List V} : Walk (IteT K a) xs.length (fun H => SqT K H a xs) (YPair (fun i => some (.int (i : Nat))) (fun i => xs[i]?)) := by
  refine ⟨fun i _ hi q => ⟨xs, xs[i], q, by simp [hi]⟩, fun _ q => ⟨xs, q, rfl⟩, fun i H v H' _ q y => ?_⟩
  obtain ⟨T, x, h1, h2, h3, h4⟩ := y
  exact ⟨T, .int (i : Nat), x, h1, h2, h3, rfl, h4 xs q⟩
end XvE
/-! text W24 -/
set_option Elab.async false
set_option linter.all false
set_option maxRecDepth 100000
set_option maxHeartbeats 2000000
/-! typed: None or a value; tuples walked; lists of several -/
namespace Dw
open PySem PySem.Spec PyProof.Rows L2 Evl PySem.W DV
def rIsO : R2 := fun x y H Q => y = .non ∧ Q (.bl (decide (x = .non))) H
def rNotO : R2 := fun x y H Q => y = .non ∧ Q (.bl (!decide (x = .non))) H
theorem op_isO {X : Cx} : OpR X (compareOp .Is) rIsO := op_isN
theorem op_notO {X : Cx} : OpR X (compareOp .IsNot) rNotO := op_notN
section
variable {α β : Type} [DecidableEq α] [Datum α] [DVT α] [DecidableEq β] [Datum β] [DVT β] {K : PySem.W.Frag} {σ : L2.St} {A : Hp} {te : TE}
theorem ed_some [SomeDatum α] {x : α} (h : EvD te σ A x) : EvD te σ A (some x) := fun H1 e Q q => h H1 e Q fun v H2 Hs e2 s r => q v H2 Hs e2 s r
theorem ed_unsome [SomeDatum α] {x : α} (h : EvD te σ A (some x)) : EvD te σ A x := fun H1 e Q q => h H1 e Q fun v H2 Hs e2 s r => q v H2 Hs e2 s r
theorem ed_none [SomeDatum α] : EvD (tC .non) σ A (none : Option α) := fun H1 _ _ q => q _ H1 (fun _ => none) (Ex.refl H1) ⟨fun _ _ z => (by cases z), fun _ _ z => (by cases z)⟩ rfl
theorem pair_ne {H : Hp} {v : V} {x : α × β} (h : rep H v x) : v ≠ .non := by
  obtain ⟨a, u, w, rfl, _⟩ := h
  exact fun z => by cases z
theorem ev_isO {x : Option (α × β)} (h : EvD te σ A x) : Ev (tOp rIsO te (tC .non)) σ A (.bl x.isNone) := fun H1 e Q q => h.go e fun v H2 e2 r => by
  refine ⟨rfl, ?_⟩
  cases x with
  | none =>
    have r' : v = .non := r
    rw [decide_eq_true r']
    exact q H2 e2
  | some y =>
    rw [decide_eq_false (pair_ne (x := y) r)]
    exact q H2 e2
theorem ev_notO {x : Option (α × β)} (h : EvD te σ A x) : Ev (tOp rNotO te (tC .non)) σ A (.bl x.isSome) := fun H1 e Q q => h.go e fun v H2 e2 r => by
  refine ⟨rfl, ?_⟩
  cases x with
  | none =>
    have r' : v = .non := r
    rw [decide_eq_true r']
    exact q H2 e2
  | some y =>
    rw [decide_eq_false (pair_ne (x := y) r)]
    exact q H2 e2
end
section
variable {α β : Type} [DecidableEq α] [Datum α] [DV α] [DecidableEq β] [Datum β] [DV β] {K : PySem.W.Frag} {σ : L2.St} {H A A0 H0 : Hp} {te ta tb : TE} {tt : TT} {D : Ends}
/-- a tuple display, its things of one type -/
theorem ed_tupD {xs : List α} {ta : TA} (h : EvDA ta σ A xs) (hl : xs.length ≤ 100000) : EvD (tTup ta) σ A (⟨xs⟩ : Tup α) := fun H1 e Q q => h H1 e _ fun vs H2 Hs e2 s r => by
  refine ⟨by rw [Reps.len r]; exact sz_of hl, fun p np => ?_⟩
  exact q _ _ (upd Hs p (.tup vs)) (e2.trans (Ex.new np)) (sup_new e2 s np) ⟨p, vs, rfl, upd_same, Reps.ext (Ex.new (sup_no s np)) r⟩
/-- a comprehension over a tuple -/
theorem ed_lcT {xs : List α} {tl : TE} {j : Nat} {vs : List Nat} (f : α → Bool) (g : α → β) (h : EvD tl σ A (⟨xs⟩ : Tup α)) (hz : xs.length ≤ 30000) (hw : ∀ x, wipe ((wipe σ vs).set j (some x)) vs = wipe σ vs)
    (ht : ∀ (x : α) (v : V) H1, Ex A H1 → x ∈ xs → rep H1 v x → EvT tt ((wipe σ vs).set j (some v)) H1 (f x)) (he : ∀ (x : α) (v : V) H1, Ex A H1 → x ∈ xs → rep H1 v x → f x = true → EvD te ((wipe σ vs).set j (some v)) H1 (g x)) :
    EvD (tLc (iTup K tl) (gName j) tt te vs) σ A ((xs.filter f).map g) := fun H0 e0 Q q => h H0 e0 _ fun v H1 Hs e1 sp r => by
  obtain ⟨a, us, rfl, h1, h2⟩ := r
  have h2' : Reps Hs us xs := h2
  have len := Reps.len h2'
  have ha := sp.e _ _ h1
  refine ⟨a, rfl, ⟨us, st_of ha⟩, fun D nD => ?_⟩
  have eB : Ex (jn A Hs) H1 := jn_ex (e0.trans e1) sp.e
  refine ed_lcW (walk_tup (xs := us)) e1 eB (fun b u z => (jn_of z).elim .inl (sp.o b u)) (fun i => ((xs.take i).filter f).map g) (by simp) (fun i hi => ?_) (fun H' e => st_of (e _ _ ha)) (fun i x H2 H3 hi e2 hy => ?_) (fun v H5 Hw e5 s5 r5 => q v H5 Hw e5 s5 ?_) nD
  · rw [List.length_map]
    have := List.length_filter_le f (xs.take i)
    rw [List.length_take] at this
    omega
  · obtain ⟨rfl, hx⟩ := hy
    have hk : xs[i]? = some xs[i] := List.getElem?_eq_getElem (by omega)
    have rx : rep (jn A Hs) x xs[i] := DV.ext (jn_r (e0.trans e1) sp.e) (Reps.at h2' hx hk)
    have mx : xs[i] ∈ xs := List.getElem_mem _
    refine ⟨Ex.refl _, f xs[i], if f xs[i] = true then g xs[i] else g xs[i], fun z => ?_, fun z => ?_, fun C c => c _ (hw x) (ht _ x _ jn_l mx rx) fun z => ?_⟩
    · show ((xs.take (i + 1)).filter f).map g = _
      rw [List.take_add_one, hk, List.filter_append, List.map_append]
      simp [z]
    · show ((xs.take (i + 1)).filter f).map g = _
      rw [List.take_add_one, hk, List.filter_append, List.map_append]
      simp [z]
    · rw [ite_self]
      exact he _ x _ jn_l mx rx z
  · rw [List.take_of_length_le (by omega)] at r5
    exact r5
/-- a list display bound to a name: the list itself is not known yet -/
theorem b_lstN {xs : List α} {ta : TA} {i : Nat} {tz : TS} (B : Bs A0 H0 A H) (h : EvDA ta σ A xs) (hl : xs.length ≤ 100000) (k : ∀ vs d A' H1, Bs A0 H0 A' H1 → Ex A A' → A' d = none → H0 d = none → H1 d = some (.lst vs) → Reps A' vs xs → tz D (σ.set i (some (.ref d))) H1) : tSeq (tAsg (tLst ta) (gName i)) tz D σ H := h H B.h _ fun vs H1 Hs e s r => by
  refine ⟨by rw [Reps.len r]; exact sz_of hl, fun d nd => ?_⟩
  have B1 := B.go e s
  exact k vs d (jn A Hs) _ (B1.mono (Ex.new nd)) jn_l (fresh_back B1.h nd) (fresh_back B1.e nd) upd_same (Reps.ext (jn_r (B.h.trans e) s.e) r)
/-- d.extend(te) -/
theorem b_extD {ys : List α} {i : Nat} {tz : TS} {d : Addr} {vs : List V} (B : Bs A0 H0 A H) (hσ : σ[i]? = some (some (.ref d))) (hd : H d = some (.lst vs)) (hz : vs.length + ys.length ≤ 100000) (nA : A d = none) (nH : H0 d = none) (h : EvD te σ A ys)
    (k : ∀ us A' H1, Bs A0 H0 A' H1 → Ex A A' → A' d = none → H1 d = some (.lst (vs ++ us)) → Reps A' us ys → tz D σ H1) : tSeq (tDrop (tBM K "list" rExtend (tVar i) (tCons te tNil))) tz D σ H := by
  refine ⟨.ref d, hσ, .inl ⟨rfl, _, sq_of hd⟩, h H B.h _ fun v H1 Hs e s r => ?_⟩
  obtain ⟨b, us, rfl, g1, g2⟩ := r
  have B1 := B.go e s
  have nS : Hs d = none := by
    cases z : Hs d with
    | none => rfl
    | some o =>
      rcases s.o d o z with y | y
      · rw [nA] at y
        cases y
      · rw [hd] at y
        cases y
  have nJ : jn A Hs d = none := by
    cases z : jn A Hs d with
    | none => rfl
    | some o => exact (jn_of z).elim (fun y => by rw [nA] at y; cases y) fun y => by rw [nS] at y; cases y
  exact ⟨d, b, vs, us, rfl, rfl, e _ _ hd, s.e _ _ g1, by rw [Reps.len g2]; exact sz_of hz, k us (jn A Hs) _ (B1.mut nH nJ) jn_l nJ upd_same (Reps.ext (jn_r (B.h.trans e) s.e) g2)⟩
/-- xs[-1] -/
theorem ed_ixLast {xs : List α} {x : α} (h : EvD ta σ A xs) (hx : xs.getLast? = some x) (h100 : xs.length ≤ 1000) : EvD (tOp (rIxL K) ta (tUn (rU fun i => .int (-i)) (tC (.int 1)))) σ A x := fun H1 e Q q => h H1 e _ fun v H2 Hs e2 s r => by
  obtain ⟨a, vs, rfl, g1, g2⟩ := r
  have len := Reps.len g2
  have pos : 0 < xs.length := by
    cases xs with
    | nil => simp at hx
    | cons y r => simp
  rw [List.getLast?_eq_getElem?] at hx
  have hv : vs[vs.length - 1]? = some vs[vs.length - 1] := List.getElem?_eq_getElem (by omega)
  refine ⟨1, rfl, a, vs, -1, vs[vs.length - 1], rfl, rfl, sq_of (s.e _ _ g1), ?_, q _ H2 Hs e2 s (Reps.at g2 hv (by rw [len]; exact hx))⟩
  show (ixN vs.length (-1)).bind _ = _
  have e1 : ixN vs.length (-1) = some (vs.length - 1) := by
    unfold ixN
    rw [if_neg (by decide), if_pos (by omega)]
    congr 1
    omega
  rw [e1]
  exact hv
end
end Dw
/-! text W25 -/
set_option Elab.async false
set_option linter.all false
set_option maxRecDepth 100000
set_option maxHeartbeats 2000000
/-! sum of lists, with a list to start with -/
namespace PySem
open Sem (wp)
theorem args_sum2 (a b : Value) : argsOk "sum" ⟨[a, b], []⟩ := by unfold argsOk; kernel_rfl
section
variable {prog : Program} {w : World} {A : Around} {R : Result → Shared → Prop} {I : Addr} {fp wr : List Addr} {G : Array GenState → Array GenState → Prop} {n : Nat} {P : Nat → Value → Prop} {St : Nat → Shared → Prop}
/-- all joined from the i-th on -/
def joinFrom (its : Nat → Array Value) : Nat → Nat → Array Value → Array Value
  | 0, _, xs => xs
  | k + 1, i, xs => joinFrom its k (i + 1) (xs ++ its i)
theorem codeAny_sum_loopL (W : WalksS prog w A.in1 I fp wr G n P St) (hex : ∀ i s, St i s → ∀ b ∈ wr, ∃ o, s.heap.get? b = some o) (H : Heap) (hw : ∀ b o, H.get? b = some o → b ∉ wr) (its : Nat → Array Value)
    (hP : ∀ i v, P i v → ∃ a c, v = .ref a ∧ IsL H a (its i) c) (S : Addr) (hSf : S ∉ fp) (hSH : H.get? S = none) :
    ∀ (k i : Nat) (s : Shared) (acc : Addr) (xs : Array Value) (c d : Nat) , n - i = k → i ≤ n → (∀ b o, H.get? b = some o → s.heap.get? b = some o) → St i s → s.heap.get? S = some { cls := .type "list", dict := none, data := .seq #[.ref acc] c, slots := #[] } →
      IsL s.heap acc xs d → acc ∉ S :: wr → (joinFrom its k i xs).size ≤ sizeLine → (0 < k ∨ H.get? acc = none) →
    (∀ s' acc' d', (∀ b o, H.get? b = some o → s'.heap.get? b = some o) → H.get? acc' = none → IsL s'.heap acc' (joinFrom its k i xs) d' → Moved (S :: wr) G s s' → R (.ok (.ret (.ref acc'))) s') →
      codeAny (model prog w) A (.builtin "sum.loop" ⟨[.ref I, .ref S, rawInt 2, rawInt 0], []⟩) R s := by
  have hSw : S ∉ wr := fun h => hSf (W.sub _ h)
  have hsub : ∀ b ∈ wr, b ∈ S :: wr := fun b hb => List.mem_cons_of_mem _ hb
  have hHS : ∀ b o, H.get? b = some o → b ∉ S :: wr := fun b o e m => by
    rcases List.mem_cons.mp m with rfl | m
    · rw [hSH] at e
      cases e
    · exact hw b o e m
  have grow : ∀ (k i : Nat) (xs : Array Value), xs.size ≤ (joinFrom its k i xs).size := by
    intro k
    induction k with
    | zero => intro i xs; exact Nat.le_refl _
    | succ k ih =>
      intro i xs
      refine Nat.le_trans ?_ (ih (i + 1) _)
      rw [Array.size_append]
      exact Nat.le_add_right _ _
  intro k
  induction k with
  | zero =>
    intro i s acc xs c d hk hi hkeep hst hS hacc hna hsz hfresh hR
    have hin : i = n := by omega
    subst hin
    refine codeAny_builtin F.entry_sum_loop ?_
    rw [Around.under_plainId F.plain_sum_loop _]
    show wpAny _ A.in1 (seqItems? (.ref S) >>= _) _ _ s
    refine wpAny_bind (wpAny_seqItems hS rfl ?_)
    show wpAny _ A.in1 (tryCatch (pyNext (.ref I)) _ >>= _) _ _ s
    refine wpAny_bind (wpAny_tryCatch (W.done s _ _ hst fun s' hm => ?_))
    exact wpAny_pure (hR s' acc d (fun b o e => hm.heap b o (hw b o e) (hkeep b o e)) (hfresh.resolve_left (Nat.lt_irrefl 0)) (hm.heap _ _ (fun h => hna (hsub _ h)) hacc) (hm.mono hsub))
  | succ k ih =>
    intro i s acc xs c d hk hi hkeep hst hS hacc hna hsz hfresh hR
    have hlt : i < n := by omega
    refine codeAny_builtin F.entry_sum_loop ?_
    rw [Around.under_plainId F.plain_sum_loop _]
    show wpAny _ A.in1 (seqItems? (.ref S) >>= _) _ _ s
    refine wpAny_bind (wpAny_seqItems hS rfl ?_)
    show wpAny _ A.in1 (tryCatch (pyNext (.ref I)) _ >>= _) _ _ s
    refine wpAny_bind (wpAny_tryCatch (W.item i s _ _ hlt hst fun v s' hPv hst' hm => ?_))
    obtain ⟨a, ca, rfl, ha⟩ := hP i v hPv
    have hS' := hm.heap S _ hSw hS
    have hkeep' : ∀ b o, H.get? b = some o → s'.heap.get? b = some o := fun b o e => hm.heap b o (hw b o e) (hkeep b o e)
    have hacc' : IsL s'.heap acc xs d := hm.heap _ _ (fun h => hna (hsub _ h)) hacc
    have ha' : IsL s'.heap a (its i) ca := hkeep' _ _ ha
    have hsz2 : xs.size + (its i).size ≤ sizeLine := by
      have := grow k (i + 1) (xs ++ its i)
      rw [Array.size_append] at this
      exact Nat.le_trans this hsz
    show wpAny _ A.in1 ((holding [Value.ref a] (binaryOp .Add (.ref acc) (.ref a))).attempt >>= _) _ _ _
    refine wpAny_bind (wpAny_attempt (wpAny_holding (PySem.P.add_list (items := xs) (items2 := its i) hacc' ha' ?_ hsz2)))
    have nw : s'.heap.get? s'.heap.objs.size = none := Heap.get?_none_of_le (Nat.le_refl _)
    have hS2 : (s'.heap.push { cls := .type "list", data := .seq (xs ++ its i) }).get? S = some { cls := .type "list", dict := none, data := .seq #[.ref acc] c, slots := #[] } := Heap.get?_push_of_some _ hS'
    have hneS : s'.heap.objs.size ≠ S := fun z => by
      rw [← z, nw] at hS'
      cases hS'
    have hnew : s'.heap.objs.size ∉ S :: wr := fun m => by
      rcases List.mem_cons.mp m with z | m
      · exact hneS z
      · obtain ⟨o, e⟩ := hex _ _ hst' _ m
        rw [nw] at e
        cases e
    have hnH : H.get? s'.heap.objs.size = none := by
      cases e : H.get? s'.heap.objs.size with
      | none => rfl
      | some o =>
        have := hkeep' _ _ e
        rw [nw] at this
        cases this
    show wpAny _ A.in1 (updateSeq S (fun _ => #[.ref s'.heap.objs.size]) >>= _) _ _ _
    refine wpAny_bind (wpAny_updateSeq hS2 rfl ?_)
    have hS₂ := Heap.get?_update_self (Obj.mapSeq fun _ => #[Value.ref s'.heap.objs.size]) hS2 rfl
    refine wpAny_bind (wpAny_letGo ?_)
    have kp : ∀ b o, b ≠ S → s'.heap.get? b = some o → (((s'.heap.push { cls := .type "list", data := .seq (xs ++ its i) }).update S (Obj.mapSeq fun _ => #[Value.ref s'.heap.objs.size])).update S (Obj.mapSeq fun _ => #[Value.ref s'.heap.objs.size])).get? b = some o := fun b o hb e =>
      (Heap.get?_update_other _ _ (fun h : S = b => hb h.symm)).trans ((Heap.get?_update_other _ _ (fun h : S = b => hb h.symm)).trans (Heap.get?_push_of_some _ e))
    have hm2 : Moved (S :: wr) G s' { s' with heap := ((s'.heap.push { cls := .type "list", data := .seq (xs ++ its i) }).update S (Obj.mapSeq fun _ => #[Value.ref s'.heap.objs.size])).update S (Obj.mapSeq fun _ => #[Value.ref s'.heap.objs.size]), toks := s'.toks + 0 } :=
      (Moved.refl W.grefl).then_heap (Nat.le_refl _) fun b o hb e => kp b o (fun z => hb (by rw [z]; exact List.mem_cons_self)) e
    refine wpAny_bind (wpAny_updateSeq hS₂ rfl (wpAny_pure ⟨plainId_quiet F.plain_sum_loop _, ih (i + 1) _ s'.heap.objs.size (xs ++ its i) _ 0 (by omega) hlt (fun b o e => kp b o (fun z => hHS b o e (by rw [z]; exact List.mem_cons_self)) (hkeep' b o e)) (W.frame _ s' _ _ hst' (by first | exact Nat.le_refl _ | exact Nat.le_succ _ | omega) fun b hb o e => kp b o (fun z => hSf (by rw [← z]; exact hb)) e) (Heap.get?_update_self _ hS₂ rfl) ?_ hnew hsz (.inr hnH) fun s'' acc'' d'' k1 k2 k3 hm'' => ?_⟩))
    · exact (Heap.get?_update_other _ _ (fun h : S = s'.heap.objs.size => hneS h.symm)).trans ((Heap.get?_update_other _ _ (fun h : S = s'.heap.objs.size => hneS h.symm)).trans (IsL.new _ _))
    · refine hR s'' acc'' d'' k1 k2 k3 (Moved.trans W.gtrans ((hm.mono hsub).then_heap (by first | exact Nat.le_refl _ | exact Nat.le_succ _ | omega) fun b o hb e => ?_) hm'')
      exact kp b o (fun z => hb (by rw [z]; exact List.mem_cons_self)) e
end
section
variable {prog : Program} {w : World} {A : Around} {E : Value → Shared → Prop} {s : Shared}
theorem joinFrom_list (its : Nat → Array Value) : ∀ (ls : List (List Value)) (i : Nat) (xs : Array Value), (∀ (j : Nat) (l : List Value), ls[j]? = some l → its (i + j) = l.toArray) → (joinFrom its ls.length i xs) = xs ++ ls.flatten.toArray
  | [], _, xs, _ => by simp [joinFrom]
  | l :: r, i, xs, h => by
    show joinFrom its r.length (i + 1) (xs ++ its i) = _
    rw [joinFrom_list its r (i + 1) _ (fun j l' e => by
      rw [Nat.add_assoc, Nat.add_comm 1 j]
      exact h (j + 1) l' e), show its i = l.toArray from h 0 l rfl]
    simp
theorem call_sum_listL {a b : Addr} {rs : List Addr} {ls : List (List Value)} {Q : Value → Shared → Prop} (hh : A.handled = none) (ha : s.heap.IsList a (rs.map Value.ref).toArray) {nb : Nat} (hb : IsL s.heap b #[] nb)
    (hl : rs.length = ls.length) (hr : ∀ (i : Nat) (r : Addr) (l : List Value), rs[i]? = some r → ls[i]? = some l → ∃ c, IsL s.heap r l.toArray c) (hne : rs ≠ []) (hsz : ls.flatten.length ≤ sizeLine)
    (hQ : ∀ h' tk p c, (∀ b o, s.heap.get? b = some o → h'.get? b = some o) → s.heap.get? p = none → IsL h' p ls.flatten.toArray c → Q (.ref p) { s with heap := h', toks := tk }) :
    wpAny (model prog w) A (call (.builtin "sum") [.ref a, .ref b]) Q E s := by
  refine call_function_tree F.kind_sum F.plain_sum F.entry_sum (args_sum2 _ _) ?_
  unfold Builtin.«sum»
  simp only [List.length_cons, List.length_nil]
  rw [if_neg (by decide)]
  refine wpAny_bind (wpAny_of_eq (show Builtin.Builtins.bindParams "sum" ["start"] 0 ⟨[.ref b], []⟩ = pure [some (.ref b)] from rfl) ?_)
  have hlt : a < s.heap.objs.size := by obtain ⟨_, e, _⟩ := ha; exact Heap.lt_size e
  refine wpAny_bind (wpAny_pyIter_list ha ?_)
  refine wpAny_bind (wpAny_pure ?_)
  simp only [List.forIn_cons, List.forIn_nil]
  have tb : ∀ (s' : Shared), IsL s'.heap b #[] nb → s'.TypeIs (.ref b) "list" := fun s' e => ⟨_, e, rfl⟩
  have hb1 : IsL (s.heap.push { cls := .type "list_iterator", data := .fields #[.ref a, .int 0 0] }) b #[] nb := Heap.get?_push_of_some _ hb
  refine wpAny_bind (wpAny_bind (wpAny_bind (wpAny_isInstance (T := "list") (b := false) (tb _ hb1) F.sub_list_str ?_)))
  simp only [Bool.false_eq_true, if_false]
  refine wpAny_pure (wpAny_bind (wpAny_bind (wpAny_isInstance (T := "list") (b := false) (tb _ hb1) F.sub_list_bytes ?_)))
  simp only [Bool.false_eq_true, if_false]
  refine wpAny_pure (wpAny_bind (wpAny_bind (wpAny_isInstance (T := "list") (b := false) (tb _ hb1) F.sub_list_bytearray ?_)))
  simp only [Bool.false_eq_true, if_false]
  refine wpAny_pure (wpAny_pure ?_)
  refine wpAny_bind (wpAny_newObj_type ?_)
  have W := (Walks.list (prog := prog) (w := w) (A := A.in1) hh s.heap.objs.size a (Nat.ne_of_lt hlt) (rs.map Value.ref).toArray).toS
  have st0 : (s.heap.push { cls := .type "list_iterator", data := .fields #[.ref a, .int 0 0] }).IsListIter s.heap.objs.size a 0 ∧ (s.heap.push { cls := .type "list_iterator", data := .fields #[.ref a, .int 0 0] }).IsList a (rs.map Value.ref).toArray := ⟨⟨_, Heap.get?_push_size _ rfl, rfl, rfl⟩, ha.push _⟩
  generalize hg : s.heap.push { cls := .type "list_iterator", data := .fields #[.ref a, .int 0 0] } = g1 at *
  have sz1 : g1.objs.size = s.heap.objs.size + 1 := by rw [← hg, Heap.size_push]
  have k1 : ∀ b o, s.heap.get? b = some o → g1.get? b = some o := fun b o e => by
    rw [← hg]
    exact Heap.get?_push_of_some _ e
  have hSf : g1.objs.size ∉ [s.heap.objs.size, a] := fun hm => by
    rcases List.mem_cons.mp hm with z | hm
    · exact absurd (sz1.symm.trans z) (Nat.succ_ne_self _)
    · have z := List.mem_singleton.mp hm
      rw [← z, sz1] at hlt
      exact absurd hlt (Nat.not_lt.mpr (Nat.le_succ _))
  have kL := joinFrom_list (fun i => (ls.getD i []).toArray) ls 0 #[] (fun j l e => by
    rw [Nat.zero_add]
    show (ls.getD j []).toArray = _
    rw [List.getD_eq_getElem?_getD, e]
    rfl)
  have hbs : b ∉ g1.objs.size :: [s.heap.objs.size] := fun hm => by
    have hb' : b < s.heap.objs.size := Heap.lt_size hb
    rcases List.mem_cons.mp hm with z | hm
    · rw [z, sz1] at hb'
      exact absurd hb' (Nat.not_lt.mpr (Nat.le_succ _))
    · rw [List.mem_singleton.mp hm] at hb'
      exact absurd hb' (Nat.lt_irrefl _)
  have nz : 0 < ls.length := by
    rw [← hl]
    exact List.length_pos_iff.mpr hne
  refine wpAny_pure ⟨plainId_quiet F.plain_sum_loop _, codeAny_sum_loopL W (fun i s' st c m => ?_) s.heap (fun c o e m => ?_) (fun i => (ls.getD i []).toArray) (fun i v e => ?_) g1.objs.size hSf (Heap.get?_none_of_le (by rw [sz1]; exact Nat.le_succ _)) ls.length 0 _ b #[] _ nb (by simp [hl]) (Nat.zero_le _) (fun c o e => Heap.get?_push_of_some _ (k1 c o e))
    (W.frame 0 _ _ _ (show _ from st0) (Nat.le_refl _) fun c _ o e => Heap.get?_push_of_some _ e) (Heap.get?_push_size _ rfl) (Heap.get?_push_of_some _ hb1) hbs ?_ (.inl nz) fun s' acc d k2 k3 k4 hm => ?_⟩
  · rw [List.mem_singleton.mp m]
    obtain ⟨⟨o, e, _⟩, _⟩ := (st : _ ∧ _)
    exact ⟨o, e⟩
  · have y := Heap.lt_size e
    rw [List.mem_singleton.mp m] at y
    exact absurd y (Nat.lt_irrefl _)
  · have e2 : (rs.map Value.ref)[i]? = some v := by simpa using e
    rw [List.getElem?_map] at e2
    cases er : rs[i]? with
    | none => rw [er] at e2; cases e2
    | some r =>
      rw [er] at e2
      cases e2
      have il : i < ls.length := by
        rw [← hl]
        exact (List.getElem?_eq_some_iff.mp er).1
      obtain ⟨c, hc⟩ := hr i r ls[i] er (List.getElem?_eq_getElem il)
      refine ⟨r, c, rfl, ?_⟩
      rw [List.getD_eq_getElem?_getD, List.getElem?_eq_getElem il]
      exact hc
  · rw [kL]
    simpa using hsz
  · rw [kL] at k4
    obtain ⟨hp, g, dd, tk, os⟩ := s'
    obtain ⟨_, m2, m3, m4, _⟩ := hm
    cases m2
    cases m3
    cases m4
    refine hQ hp tk acc d k2 k3 ?_
    simpa using k4
end
end PySem
namespace Dw
open PySem PySem.Spec PyProof.Rows L2 Evl PySem.W DV
def rSumL : List V → Hp → VK → Prop := fun vs H Q => ∃ (a b : Addr) (rs : List Addr) (ls : List (List V)), vs = [.ref a, .ref b] ∧ H a = some (.lst (rs.map V.ref)) ∧ H b = some (.lst []) ∧ rs ≠ [] ∧ Paired (fun r l => H r = some (.lst l)) rs ls ∧ ls.flatten.length ≤ sizeLine ∧ ∀ p, H p = none → Q (.ref p) (upd H p (.lst ls.flatten))
theorem vals_refs : ∀ {rs : List Addr} {us : List Value}, Vals (rs.map V.ref) us → us = rs.map Value.ref
  | [], _, .nil => rfl
  | _ :: _, _, .cons h r => by
    rw [vals_refs r, show _ = Value.ref _ from h]
    rfl
theorem vals_app {as bs : List V} {us vs : List Value} : Vals as us → Vals bs vs → Vals (as ++ bs) (us ++ vs)
  | .nil, h => h
  | .cons h r, k => .cons h (vals_app r k)
theorem lists_of {X : Cx} {pins : List (Addr × Obj)} {σ : L2.St} {H : Hp} {s : Shared} (I : Inv X pins σ H s) : ∀ {rs : List Addr} {ls : List (List V)}, Paired (fun r l => H r = some (.lst l)) rs ls →
    ∃ us : List (List Value), rs.length = us.length ∧ (∀ (i : Nat) (r : Addr) (l : List Value), rs[i]? = some r → us[i]? = some l → ∃ c, IsL s.heap r l.toArray c) ∧ Vals ls.flatten us.flatten
  | _, _, .nil => ⟨[], rfl, fun i r l h => by simp at h, .nil⟩
  | _, _, .cons (a := r) h t => by
    obtain ⟨us, h1, h2, h3⟩ := lists_of I t
    obtain ⟨z, its, n, rv, e⟩ := I.hok _ _ h
    refine ⟨its :: us, by simp [h1], fun i r' l e1 e2 => ?_, ?_⟩
    · cases i with
      | zero =>
        cases Option.some.inj e1
        cases Option.some.inj e2
        exact ⟨n, e⟩
      | succ i => exact h2 i r' l e1 e2
    · rw [List.flatten_cons, List.flatten_cons]
      exact vals_app rv h3
theorem cr_sumL {X : Cx} (hc : X.calm = true) : CallR X (.builtin "sum") rSumL := by
  intro pins s σ H vs us Q I r h
  obtain ⟨a, b, rs, ls, rfl, ha, hb, ne, hp, hz, q⟩ := h
  cases r with
  | cons r1 r =>
    cases r with
    | cons r2 r =>
      cases r
      rename_i u1 u2
      obtain rfl : u1 = Value.ref a := r1
      obtain rfl : u2 = Value.ref b := r2
      obtain ⟨_, its, n, rv, e⟩ := I.hok _ _ ha
      obtain ⟨_, its2, n2, rv2, e2⟩ := I.hok _ _ hb
      have := vals_refs rv
      subst this
      cases rv2
      obtain ⟨us, h1, h2, h3⟩ := lists_of I hp
      have lf : us.flatten.length = ls.flatten.length := (Paired.length h3).symm
      refine call_sum_listL (I.ok.hd hc) ⟨_, e, rfl, n, rfl⟩ e2 h1 h2 ne (by rw [lf]; exact hz) fun h' tk p c k1 k2 k3 => ?_
      have np : H p = none := HOk.gone I.hok k2
      exact ⟨.ref p, upd H p (.lst ls.flatten), I.laidN k1 k2 np (show ObjOk X.prog X.w _ _ _ (.lst ls.flatten) from ⟨hz, us.flatten, c, h3, k3⟩), rfl, q _ np⟩
section
variable {α : Type} [DecidableEq α] [Datum α] [DV α] {σ : L2.St} {A : Hp} {te : TE}
theorem reps_refs {H : Hp} : ∀ {vs : List V} {xs : List (List α)}, Reps H vs xs → ∃ (rs : List Addr) (ls : List (List V)), vs = rs.map V.ref ∧ Paired (fun r l => H r = some (.lst l)) rs ls ∧ Reps H ls.flatten xs.flatten
  | _, _, .nil => ⟨[], [], rfl, .nil, .nil⟩
  | _, _, .cons h t => by
    obtain ⟨rs, ls, rfl, h1, h2⟩ := reps_refs t
    obtain ⟨a, ws, rfl, g1, g2⟩ := h
    refine ⟨a :: rs, ws :: ls, rfl, .cons g1 h1, ?_⟩
    rw [List.flatten_cons, List.flatten_cons]
    exact Reps.app g2 h2
theorem paired_ext {H H' : Hp} (e : Ex H H') : ∀ {rs : List Addr} {ls : List (List V)}, Paired (fun r l => H r = some (.lst l)) rs ls → Paired (fun r l => H' r = some (.lst l)) rs ls
  | _, _, .nil => .nil
  | _, _, .cons h t => .cons (e _ _ h) (paired_ext e t)
theorem ed_sum {xs : List (List α)} (h : EvD te σ A xs) (ne : xs ≠ []) (hz : xs.flatten.length ≤ 100000) : EvD (tCB rSumL (tCons te (tCons (tLst tNil) tNil))) σ A xs.flatten := fun H1 e Q q => h H1 e _ fun v H2 Hs e2 s r => by
  obtain ⟨a, vs, rfl, h1, h2⟩ := r
  obtain ⟨rs, ls, rfl, g1, g2⟩ := reps_refs h2
  refine ⟨Nat.zero_le _, fun p np => ?_⟩
  have sp := sup_new (o := .lst []) e2 s np
  have ep : Ex H1 (upd H2 p (.lst [])) := e2.trans (Ex.new np)
  have es : Ex Hs (upd H2 p (.lst [])) := s.e.trans (Ex.new np)
  refine ⟨a, p, rs, ls, rfl, es _ _ h1, upd_same, fun z => ?_, paired_ext es g1, by rw [Reps.len g2]; exact sz_of hz, fun p2 np2 => ?_⟩
  · subst z
    have := Reps.len h2
    exact ne (List.length_eq_zero_iff.mp this.symm)
  · exact q _ _ (upd (upd Hs p (.lst [])) p2 (.lst ls.flatten)) (ep.trans (Ex.new np2)) (sup_new ep sp np2) ⟨p2, _, rfl, upd_same, Reps.ext ((Ex.new (sup_no s np)).trans (Ex.new (sup_no sp np2))) g2⟩
end
end Dw
/-! text Tx -/
set_option Elab.async false
set_option linter.all false
set_option maxRecDepth 100000
set_option maxHeartbeats 0
namespace K07
open PySem PySem.Spec PyProof.Rows L2
def top (i : Nat) : Stmt := PySem.Challenge.pw_meetinglots_k02_whole_without_a_keeper.main.body.getD i (.Pass ⟨0, 0, 0, 0⟩)
def lawDefs : List (Nat × PySem.Str) := ([(14, "is_list"), (15, "is_name"), (16, "is_one_of"), (18, "are_keepers"), (19, "are_some_of"), (20, "is_lot_of"), (21, "holds"), (22, "is_family"), (23, "told_family"), (24, "checked_family"), (25, "least_of"), (27, "checked_keepers"), (28, "is_some_lot"), (29, "family_of"), (30, "known_keeper")] : List (Nat × PySem.Str)) ++ ([(32, "less_keeper"), (33, "fallen_family"), (34, "trusted_family"), (36, "_law_a_names"), (37, "_law_a_within"), (38, "_law_a_meet"), (39, "_law_a_least"), (40, "_law_a_lot"), (41, "_law_a_family"), (42, "_law_a_council"), (43, "_law_a_passed"), (44, "_law_a_met"), (45, "_law_start"), (46, "_law_draw"), (47, "_law_mixed")] : List (Nat × PySem.Str)) ++ ([(48, "_law_copied"), (49, "_law_same"), (50, "_law_each_once"), (51, "_law_loose"), (52, "_law_spoilt"), (53, "_law_is_once"), (54, "_law_apart"), (55, "_law_fallen"), (56, "_law_trusted"), (57, "_law_keeper_right"), (58, "_law_two_right"), (59, "_law_least_right"), (60, "law")] : List (Nat × PySem.Str))
def frees : List PySem.Str := ["ValueError", "all", "any", "bool", "dict", "enumerate", "int", "isinstance", "len", "list", "range", "sorted", "str", "sum", "tuple", "zip"]
abbrev FnP (K : PySem.W.Frag) (x : Str) (st : Stmt) (f : Addr) (fd : FuncData) : Prop := FunD K x x (defArgs st) (defBody st) (defScope st) [] [] f fd
end K07
/-! text D1 -/
set_option Elab.async false
set_option linter.all false
set_option maxRecDepth 100000
set_option maxHeartbeats 4000000
/-! small defs: is_list, holds, meet, within -/
namespace K07
open PySem PySem.Spec PyProof.Rows L2 Evl PySem.W Dw Dw.DV
section
variable {P : Program} {w : World} {K : PySem.W.Frag} {mg : Str → Option Value} {base : Heap} {f : Addr} {fd : FuncData}
theorem u64 {k : Nat} {A : Around} (hr : Room k A) : A.units + 64 < cLine := by
  have := hr.un
  omega
theorem uS {k : Nat} {A : Around} (hr : Room k A) : A.units + 1 + Datum.depth Str < cLine := by
  have h := hr.un
  show A.units + 1 + 0 < cLine
  omega
theorem uD {k n : Nat} {A : Around} (hr : Room k A) (h : n ≤ 60) : A.units + 2 + n < cLine := by
  have := hr.un
  omega
theorem scHolds : FnScope ["lot", "other", "one"] ["lot", "other"] (defScope (top 21)) := ⟨rfl, rfl, rfl, by decide +kernel, rfl, by decide +kernel, by decide +kernel⟩
def holdsP (lot other : List Str) : Bool := other.all fun x => decide (x ∈ lot)
theorem ok_holds (F : FnP K "holds" (top 21) f fd) (ma : mg "all" = none) : FnOk P w K mg base CX0 1 f fd ["lot", "other"] (sp2 (fun _ other => other.length ≤ 1000) holdsP) := by
  refine F.ok scHolds (fun vs H Q E h => ?_) (fun cdv A outer s H vs Q E hr h => ?_)
  · obtain ⟨v, u, _, _, _, rfl, _⟩ := h
    rfl
  · obtain ⟨v, u, lot, other, B, rfl, eB, hv, hu, hl, q⟩ := h
    refine ⟨_, PSs.nox (pss_one (ps_ret (pe_callB (cr_all rfl) (by rfl) ma (by decide +kernel) (pa_cons (pe_lc (own := [("one", 2)]) (g := gName 2) (tt := tYes) (te := tOp (rInW Str false) (tVar 2) (tVar 0)) rfl scHolds.nd
      (pi_list (pv 1)) (blkOk_by (N := ["lot", "other", "one"]) (sc := defScope (top 21)) (by decide +kernel))
      (fun _ _ _ _ _ => pg_name (i := 2) scHolds.nd rfl (.inl rfl)) (fun _ _ _ _ _ => pts_nil) (fun _ _ _ _ _ => pe_cmpR (op_inW (α := Str) (uS hr)) (pv 2) (pv 0) (by rfl))) pa_nil)))), ?_⟩
    have el : ∀ (x : Str) (y : V) H1, Ex B H1 → x ∈ other → rep H1 y x → (fun _ : Str => true) x = true → EvD (tOp (rInW Str false) (tVar 2) (tVar 0)) [some v, some u, some y] H1 (decide (x ∈ lot)) := fun x y H1 e _ r _ => ed_bl (ev_inD (ed_var rfl r) (ed_var (v := v) rfl (DV.ext e hv)))
    have lc := ed_lc (K := K) (σ := [some v, some u, none]) (H := B) (tl := tVar 1) (tt := tYes) (j := 2) (vs := [2]) (fun _ : Str => true) (fun x : Str => decide (x ∈ lot)) (ed_var (v := u) rfl hu) (by omega) (fun _ => rfl) (fun _ _ H1 _ _ _ H2 _ _ q => q H2 (Ex.refl H2)) el
    have all := ev_allD (K := K) lc
    have e : ((other.filter fun _ => true).map fun x => decide (x ∈ lot)).all id = holdsP lot other := by
      rw [List.filter_eq_self.mpr (fun _ _ => rfl), List.all_map]
      rfl
    rw [e] at all
    exact s_retD (ed_bl all) eB q
end
end K07
/-! text D2 -/
set_option Elab.async false
set_option linter.all false
set_option maxRecDepth 100000
set_option maxHeartbeats 4000000
/-! meet, within -/
namespace K07
open PySem PySem.Spec PyProof.Rows L2 Evl PySem.W Dw Dw.DV
section
variable {P : Program} {w : World} {K : PySem.W.Frag} {mg : Str → Option Value} {base : Heap} {f : Addr} {fd : FuncData}
def meetP (lot other : List Str) : Bool := other.any fun x => decide (x ∈ lot)
theorem scWithinP : FnScope ["one", "other", "keeper"] ["one", "other"] (defScope (top 37)) := ⟨rfl, rfl, rfl, by decide +kernel, rfl, by decide +kernel, by decide +kernel⟩
def withinP (one other : List Str) : Bool := one.all fun x => decide (x ∈ other)
theorem ok_withinP (F : FnP K "_law_a_within" (top 37) f fd) (ma : mg "all" = none) : FnOk P w K mg base CX0 1 f fd ["one", "other"] (sp2 (fun one _ => one.length ≤ 1000) withinP) := by
  refine F.ok scWithinP (fun vs H Q E h => ?_) (fun cdv A outer s H vs Q E hr h => ?_)
  · obtain ⟨v, u, _, _, _, rfl, _⟩ := h
    rfl
  · obtain ⟨v, u, one, other, B, rfl, eB, hv, hu, hl, q⟩ := h
    refine ⟨_, PSs.nox (pss_one (ps_ret (pe_callB (cr_all rfl) (by rfl) ma (by decide +kernel) (pa_cons (pe_lc (own := [("keeper", 2)]) (g := gName 2) (tt := tYes) (te := tOp (rInW Str false) (tVar 2) (tVar 1)) rfl scWithinP.nd
      (pi_list (pv 0)) (blkOk_by (N := ["one", "other", "keeper"]) (sc := defScope (top 37)) (by decide +kernel))
      (fun _ _ _ _ _ => pg_name (i := 2) scWithinP.nd rfl (.inl rfl)) (fun _ _ _ _ _ => pts_nil) (fun _ _ _ _ _ => pe_cmpR (op_inW (α := Str) (uS hr)) (pv 2) (pv 1) (by rfl))) pa_nil)))), ?_⟩
    have el : ∀ (x : Str) (y : V) H1, Ex B H1 → x ∈ one → rep H1 y x → (fun _ : Str => true) x = true → EvD (tOp (rInW Str false) (tVar 2) (tVar 1)) [some v, some u, some y] H1 (decide (x ∈ other)) := fun x y H1 e _ r _ => ed_bl (ev_inD (ed_var rfl r) (ed_var (v := u) rfl (DV.ext e hu)))
    have lc := ed_lc (K := K) (σ := [some v, some u, none]) (H := B) (tl := tVar 0) (tt := tYes) (j := 2) (vs := [2]) (fun _ : Str => true) (fun x : Str => decide (x ∈ other)) (ed_var (v := v) rfl hv) (by omega) (fun _ => rfl) (fun _ _ H1 _ _ _ H2 _ _ q => q H2 (Ex.refl H2)) el
    have whole := ev_allD (K := K) lc
    have e : ((one.filter fun _ => true).map fun x => decide (x ∈ other)).all id = withinP one other := by
      rw [List.filter_eq_self.mpr (fun _ _ => rfl), List.all_map]
      rfl
    rw [e] at whole
    exact s_retD (ed_bl whole) eB q
end
end K07
/-! text D3 -/
set_option Elab.async false
set_option linter.all false
set_option maxRecDepth 100000
set_option maxHeartbeats 4000000
/-! told_family -/
namespace K07
open PySem PySem.Spec PyProof.Rows L2 Evl PySem.W Dw Dw.DV
section
variable {P : Program} {w : World} {K : PySem.W.Frag} {mg : Str → Option Value} {base : Heap} {f : Addr} {fd : FuncData}
abbrev FamT : Type := List Str × List (List Str)
theorem scTold : FnScope ["thing", "lot"] ["thing"] (defScope (top 23)) := ⟨rfl, rfl, rfl, by decide +kernel, rfl, by decide +kernel, by decide +kernel⟩
theorem ok_told (F : FnP K "told_family" (top 23) f fd) (ml : mg "list" = none) : FnOk P w K mg base CX0 1 f fd ["thing"] (sp1 (fun F : FamT => F.2.length ≤ 1000) (fun F => F)) := by
  refine F.ok scTold (fun vs H Q E h => ?_) (fun cdv A outer s H vs Q E hr h => ?_)
  · obtain ⟨v, _, _, rfl, _⟩ := h
    rfl
  · obtain ⟨v, F, B, rfl, eB, hv, hl, q⟩ := h
    refine ⟨_, PSs.nox (pss_one (ps_ret (pe_tup (pa_cons (pe_callTy call_list_of (by rfl) ml (by decide +kernel) (pa_cons (pe_ix ix_tup (pv 0) pe_int (fun _ _ => rfl)) pa_nil)) (pa_cons (pe_lc (own := [("lot", 1)]) (g := gName 1) (tt := tYes) (te := tCB (rListS K) (tCons (tVar 1) tNil)) rfl scTold.nd
      (pi_list (pe_ix ix_tup (pv 0) pe_int (fun _ _ => rfl))) (blkOk_by (N := ["thing", "lot"]) (sc := defScope (top 23)) (by decide +kernel))
      (fun _ _ _ _ _ => pg_name (i := 1) scTold.nd rfl (.inl rfl)) (fun _ _ _ _ _ => pts_nil) (fun _ _ _ _ _ => pe_callTy call_list_of (by rfl) ml (by decide +kernel) (pa_cons (pv 1) pa_nil))) pa_nil))))), ?_⟩
    have el : ∀ (x : List Str) (y : V) H1, Ex B H1 → x ∈ F.2 → rep H1 y x → (fun _ : List Str => true) x = true → EvD (tCB (rListS K) (tCons (tVar 1) tNil)) [some v, some y] H1 x := fun x y H1 e _ r _ => ed_list (ed_var rfl r)
    have lc := ed_lc (K := K) (σ := [some v, none]) (H := B) (tl := tOp (rIxT K) (tVar 0) (tC (.int 1))) (tt := tYes) (j := 1) (vs := [1]) (fun _ : List Str => true) (fun x : List Str => x) (ed_snd (p := F) (ed_var (v := v) rfl hv)) (by omega) (fun _ => rfl) (fun _ _ H1 _ _ _ H2 _ _ q => q H2 (Ex.refl H2)) el
    rw [List.filter_eq_self.mpr (fun _ _ => rfl), List.map_id'] at lc
    exact s_retD (ed_pair (x := F.1) (y := F.2) (ed_list (ed_fst (p := F) (ed_var (v := v) rfl hv))) lc) eB q
end
end K07
/-! text D4 -/
set_option Elab.async false
set_option linter.all false
set_option maxRecDepth 100000
set_option maxHeartbeats 4000000
/-! is_list -/
namespace K07
open PySem PySem.Spec PyProof.Rows L2 Evl PySem.W Dw Dw.DV
section
variable {P : Program} {w : World} {K : PySem.W.Frag} {mg : Str → Option Value} {base : Heap} {f : Addr} {fd : FuncData}
theorem scIsList : FnScope ["thing"] ["thing"] (defScope (top 14)) := ⟨rfl, rfl, rfl, by decide +kernel, rfl, by decide +kernel, by decide +kernel⟩
/-- of a list, of a tuple -/
def spIsList : Sp := fun vs H Q _ => ∃ (a : Addr) (xs : List V), vs = [.ref a] ∧ (H a = some (.lst xs) ∨ H a = some (.tup xs)) ∧ ∀ H', Ex H H' → Q (.bl true) H'
theorem kAny {a : String} {b c : Bool} (h1 : kitB a "list" = some b) (h2 : kitB a "tuple" = some c) : PySem.W.kitAny K (.type a) [.type "list", .type "tuple"] = some (b || c) := by
  refine kitAny_cons (kit_ty h1) (r := b || c) (fun e => ?_) fun e => by rw [e]; rfl
  subst e
  refine kitAny_cons (kit_ty h2) (fun e => ?_) fun e => by rw [e]; rfl
  subst e
  rfl
theorem ok_is_list (F : FnP K "is_list" (top 14) f fd) (mi : mg "isinstance" = none) (ml : mg "list" = none) (mt : mg "tuple" = none) : FnOk P w K mg base CX0 1 f fd ["thing"] spIsList := by
  refine F.ok scIsList (fun vs H Q E h => ?_) (fun cdv A outer s H vs Q E hr h => ?_)
  · obtain ⟨a, _, rfl, _⟩ := h
    rfl
  · obtain ⟨a, xs, rfl, ha, q⟩ := h
    refine ⟨_, PSs.nox (pss_one (ps_ret (pe_callB call_isiT (by rfl) mi (by decide +kernel) (pa_cons (pv 0) (pa_cons (pe_tup (pa_cons (pe_bltn (v := .ty "list") (by rfl) ml (by decide +kernel) rfl) (pa_cons (pe_bltn (v := .ty "tuple") (by rfl) mt (by decide +kernel) rfl) pa_nil))) pa_nil))))), ?_⟩
    refine ⟨.ref a, rfl, by show 2 ≤ sizeLine; decide, fun T nT => ?_⟩
    have e1 : Ex H (upd H T (.tup [.ty "list", .ty "tuple"])) := Ex.new nT
    have pl : Paired ClsV [V.ty "list", V.ty "tuple"] [Value.type "list", Value.type "tuple"] := .cons (.ty _) (.cons (.ty _) .nil)
    rcases ha with ha | ha
    · refine ⟨_, T, _, _, _, true, rfl, upd_same, pl, .base (.lst (e1 _ _ ha)), ?_, q _ e1⟩
      exact kAny (b := true) (c := false) (by decide +kernel) (by decide +kernel)
    · refine ⟨_, T, _, _, _, true, rfl, upd_same, pl, .base (.tup (e1 _ _ ha)), ?_, q _ e1⟩
      exact kAny (b := false) (c := true) (by decide +kernel) (by decide +kernel)
end
end K07
/-! text D6 -/
set_option Elab.async false
set_option linter.all false
set_option maxRecDepth 100000
set_option maxHeartbeats 4000000
/-! a thing made anew, throughout -/
namespace K07
open PySem PySem.Spec PyProof.Rows L2 Evl PySem.W Dw Dw.DV
/-- what the names of the built-ins stand for -/
structure Bn (mg : Str → Option Value) : Prop where
  isinstance : mg "isinstance" = none
  str : mg "str" = none
  list : mg "list" = none
  tuple : mg "tuple" = none
  dict : mg "dict" = none
  int : mg "int" = none
  bool : mg "bool" = none
  len : mg "len" = none
  all : mg "all" = none
  any : mg "any" = none
  zip : mg "zip" = none
  sum : mg "sum" = none
  range : mg "range" = none
  sorted : mg "sorted" = none
  enumerate : mg "enumerate" = none
section
variable {P : Program} {w : World} {K : PySem.W.Frag} {mg : Str → Option Value} {base : Heap} {f : Addr} {fd : FuncData}
def tIsT (K : PySem.W.Frag) (i : Nat) (n : String) : TE := tCB (rIsi K) (tCons (tVar i) (tCons (tC (.ty n)) tNil))
theorem pe_ist (K : PySem.W.Frag) (tn : String) (i : Nat) {X : Cx} {x n : Str} {p1 p2 p3 p4 : Pos} (mi : X.mg "isinstance" = none) (mn : X.mg n = none) (hK : X.K = K := by rfl) (h0 : X.N[i]? = some x := by rfl) (hv : Vis X.env.scope x := by first | exact Or.inl rfl | exact Or.inr (Or.inl rfl) | exact Or.inr (Or.inr rfl)) (hd : (x == ("__debug__" : Str)) = false := by rfl) (hcd : (x == ("__classdict__" : Str)) = false := by rfl)
    (gi : Gl X "isinstance" := by rfl) (gn : Gl X n := by rfl) (hb : bootBuiltins n = some (.type tn) := by decide +kernel) (hn : n ≠ "__name__" := by decide) (hdn : (n == ("__debug__" : Str)) = false := by rfl) :
    PE X (.Call (.Name "isinstance" p1) [.Name x p2, .Name n p3] [] p4) (tIsT K i tn) := by
  subst hK
  exact pe_callB call_isi gi mi (by decide +kernel) (pa_cons (pe_var h0 hv hd hcd) (pa_cons (pe_bltn gn mn hb rfl hn hdn) pa_nil))
theorem pLT : Paired ClsV [V.ty "list", V.ty "tuple"] [Value.type "list", Value.type "tuple"] := .cons (.ty _) (.cons (.ty _) .nil)
theorem valV_at {kvs : List (Key × V)} (h : (kvs.map (·.1)).Nodup) : ∀ {i : Nat} {k : Key} {v : V}, kvs[i]? = some (k, v) → valV kvs k = some v := by
  induction kvs with
  | nil => intro i k v e; simp at e
  | cons p r ih =>
    intro i k v e
    rw [List.map_cons, List.nodup_cons] at h
    cases i with
    | zero =>
      simp at e
      rw [e]
      exact valV_pos rfl
    | succ i =>
      have e' : r[i]? = some (k, v) := by simpa using e
      rw [valV_neg fun z => h.1 (by rw [z]; exact List.mem_map.mpr ⟨_, List.mem_of_getElem? e', rfl⟩)]
      exact ih h.2 e'
theorem merge_app : ∀ {kvs acc : List (Key × V)}, ((acc ++ kvs).map (·.1)).Nodup → mergeK acc kvs = acc ++ kvs
  | [], acc, _ => by simp [mergeK]
  | p :: r, acc, h => by
    have h2 : ((acc ++ [p] ++ r).map (·.1)).Nodup := by simpa using h
    have hp : putK acc p.1 p.2 = acc ++ [p] := by
      unfold putK
      rw [if_neg]
      intro z
      rw [List.any_eq_true] at z
      obtain ⟨q, hq, e⟩ := z
      rw [List.map_append, List.nodup_append] at h
      exact h.2.2 _ (List.mem_map.mpr ⟨q, hq, rfl⟩) _ (List.mem_map.mpr ⟨p, List.mem_cons_self, rfl⟩) (of_decide_eq_true e)
    show mergeK (putK acc p.1 p.2) r = _
    rw [hp, merge_app h2]
    simp
theorem pl1 {α β : Type} {F : α → β → Prop} : ∀ {l : List α} {m : List β}, Paired F l m → l.length = m.length
  | _, _, .nil => rfl
  | _, _, .cons _ r => by rw [List.length_cons, List.length_cons, pl1 r]
theorem pmem {α β : Type} {F G : α → β → Prop} : ∀ {l : List α} {m : List β}, (∀ a b, a ∈ l → F a b → G a b) → Paired F l m → Paired G l m
  | _, _, _, .nil => .nil
  | _, _, h, .cons a r => .cons (h _ _ List.mem_cons_self a) (pmem (fun x y m => h x y (List.mem_cons_of_mem _ m)) r)
theorem exf {H H' : Hp} (e : Ex H H') {p : Addr} (h : H' p = none) : H p = none := by
  cases m : H p with
  | none => rfl
  | some o =>
    rw [e _ _ m] at h
    cases h
theorem kV_atom (k : Key) : atomV (kV k) = true := by cases k <;> rfl
def spC (d : Nat) : Sp := fun vs H Q _ => ∃ v A, vs = [v] ∧ Ex A H ∧ Tw A A d v v ∧ ∀ u H' Hs, Ex H H' → Ex Hs H' → (∀ b o, Hs b = some o → H b = none) → Tw A Hs d v u → Q u H'
abbrev NCop : List Str := ["thing", "key", "found", "part"]
theorem scCop : FnScope NCop ["thing"] (defScope (top 48)) := ⟨rfl, rfl, rfl, by decide +kernel, rfl, by decide +kernel, by decide +kernel⟩
theorem ok_copied (F : FnP K "_law_copied" (top 48) f fd) (gs : mg "_law_copied" = some (.ref f)) (B : Bn mg) : ∀ d, FnOk P w K mg base CX0 d f fd ["thing"] (spC d)
  | 0 => ⟨fun _ _ _ _ h => by
      obtain ⟨_, _, _, _, h, _⟩ := h
      exact h.elim, fun _ _ _ _ _ _ _ _ _ _ _ _ _ h => by
      obtain ⟨_, _, _, _, h, _⟩ := h
      exact h.elim⟩
  | d + 1 => by
    have G := ok_copied F gs B d
    have bS : Binds K fd ["thing"] [] := F.bindsN fun _ _ _ _ _ _ us hl => match us, hl with | [_], _ => rfl
    refine F.ok scCop (fun vs H Q E h => ?_) (fun cdv A0 outer s H vs Q E hr h => ?_)
    · obtain ⟨v, _, rfl, _⟩ := h
      rfl
    · obtain ⟨v, A, rfl, eA, hT, q⟩ := h
      have atomCase : ∀ u H', Ex H H' → atomV v = true → u = v → Q u H' := fun u H' e a z => by
        rw [z]
        exact q v H' (fun _ => none) e (fun _ _ z => (by cases z)) (fun _ _ z => (by cases z)) (.inl ⟨rfl, a⟩)
      rcases hT with ⟨_, ha⟩ | ⟨a, b, xs, ys, rfl, e2, ga, gb, hl, hp⟩ | ⟨a, b, xs, ys, rfl, e2, ga, gb, hl, hp⟩ | ⟨a, b, kvs, rfl, e2, ga, gb, hl, hd, hn, hv⟩
      · refine ⟨_, (pss_cons (ps_if (pt_val (pe_ist K "dict" 0 B.isinstance B.dict))
            (pss_one (ps_ret (pe_callTy (call_dictP rfl) (by rfl) B.dict (by decide +kernel) (pa_cons (pe_lock (pe_lc (own := [("key", 1)]) (g := gName 1) (tt := tYes) (te := tTup (tCons (tVar 1) (tCons (tCall (spC d) [] E0 (tCons (tDGet (tVar 0) (tVar 1)) tNil)) tNil))) rfl scCop.nd (pi_keys (pv 0)) (blkOk_by (N := NCop) (sc := defScope (top 48)) (by decide +kernel))
              (fun _ _ _ _ _ => pg_name (i := 1) scCop.nd rfl (.inl rfl)) (fun _ _ _ _ _ => pts_nil)
              (fun _ _ _ _ _ => pe_tup (pa_cons (pv 1) (pa_cons (pe_call G hr (by rfl) gs F.kp bS .nil pass0 (pa_cons (pe_dget (hu_of hr) (pv 0) (pv 1) (fun _ _ => rfl)) pa_nil)) pa_nil))))) pa_nil)))) pss_nil)
          (pss_cons (ps_if (pt_not (pt_val (pe_callB call_isiT (by rfl) B.isinstance (by decide +kernel) (pa_cons (pv 0) (pa_cons (pe_tup (pa_cons (pe_bltn (v := .ty "list") (by rfl) B.list (by decide +kernel) rfl) (pa_cons (pe_bltn (v := .ty "tuple") (by rfl) B.tuple (by decide +kernel) rfl) pa_nil))) pa_nil)))))
            (pss_one (ps_ret (pv 0))) pss_nil)
          (pss_cons (ps_setLc (i := 2) (own := [("part", 3)]) (g := gName 3) (tt := tYes) (te := tCall (spC d) [] E0 (tCons (tVar 3) tNil)) rfl scCop.nd rfl rfl (sw_true rfl rfl (by rfl) (by rfl)) (pi_list (pv 0)) (blkOk_by (N := NCop) (sc := defScope (top 48)) (by decide +kernel))
              (fun _ _ _ _ _ => pg_name (i := 3) scCop.nd rfl (.inl rfl)) (fun _ _ _ _ _ => pts_nil)
              (fun _ _ _ _ _ => pe_call G hr (by rfl) gs F.kp bS .nil pass0 (pa_cons (pv 3) pa_nil)))
          (pss_one (ps_ret (pe_ifExp (pt_val (pe_ist K "list" 0 B.isinstance B.list)) (pv 2) (pe_callTy call_tuple_of (by rfl) B.tuple (by decide +kernel) (pa_cons (pv 2) pa_nil)))))))), ?_⟩
        cases v with
        | non =>
          refine ⟨.non, rfl, _, _, _, _, false, rfl, .ty _, .base .non, kit_ty (by decide +kernel), _, rfl, ?_⟩
          refine ⟨.non, rfl, by show 2 ≤ sizeLine; decide, fun T nT => ?_⟩
          refine ⟨_, T, _, _, _, false, rfl, upd_same, pLT, .base .non, kAny (b := false) (c := false) (by decide +kernel) (by decide +kernel), _, rfl, ?_⟩
          exact ⟨.non, rfl, atomCase _ _ (Ex.new nT) rfl rfl⟩
        | bl x =>
          refine ⟨.bl x, rfl, _, _, _, _, false, rfl, .ty _, .base (.bl x), kit_ty (by decide +kernel), _, rfl, ?_⟩
          refine ⟨.bl x, rfl, by show 2 ≤ sizeLine; decide, fun T nT => ?_⟩
          refine ⟨_, T, _, _, _, false, rfl, upd_same, pLT, .base (.bl x), kAny (b := false) (c := false) (by decide +kernel) (by decide +kernel), _, rfl, ?_⟩
          exact ⟨.bl x, rfl, atomCase _ _ (Ex.new nT) rfl rfl⟩
        | int x =>
          refine ⟨.int x, rfl, _, _, _, _, false, rfl, .ty _, .base (.int x), kit_ty (by decide +kernel), _, rfl, ?_⟩
          refine ⟨.int x, rfl, by show 2 ≤ sizeLine; decide, fun T nT => ?_⟩
          refine ⟨_, T, _, _, _, false, rfl, upd_same, pLT, .base (.int x), kAny (b := false) (c := false) (by decide +kernel) (by decide +kernel), _, rfl, ?_⟩
          exact ⟨.int x, rfl, atomCase _ _ (Ex.new nT) rfl rfl⟩
        | str x =>
          refine ⟨.str x, rfl, _, _, _, _, false, rfl, .ty _, .base (.str x), kit_ty (by decide +kernel), _, rfl, ?_⟩
          refine ⟨.str x, rfl, by show 2 ≤ sizeLine; decide, fun T nT => ?_⟩
          refine ⟨_, T, _, _, _, false, rfl, upd_same, pLT, .base (.str x), kAny (b := false) (c := false) (by decide +kernel) (by decide +kernel), _, rfl, ?_⟩
          exact ⟨.str x, rfl, atomCase _ _ (Ex.new nT) rfl rfl⟩
        | _ => cases ha
      · cases e2
        rw [ga] at gb
        cases gb
        refine ⟨_, (pss_cons (ps_if (pt_val (pe_ist K "dict" 0 B.isinstance B.dict))
            (pss_one (ps_ret (pe_callTy (call_dictP rfl) (by rfl) B.dict (by decide +kernel) (pa_cons (pe_lock (pe_lc (own := [("key", 1)]) (g := gName 1) (tt := tYes) (te := tTup (tCons (tVar 1) (tCons (tCall (spC d) [] E0 (tCons (tDGet (tVar 0) (tVar 1)) tNil)) tNil))) rfl scCop.nd (pi_keys (pv 0)) (blkOk_by (N := NCop) (sc := defScope (top 48)) (by decide +kernel))
              (fun _ _ _ _ _ => pg_name (i := 1) scCop.nd rfl (.inl rfl)) (fun _ _ _ _ _ => pts_nil)
              (fun _ _ _ _ _ => pe_tup (pa_cons (pv 1) (pa_cons (pe_call G hr (by rfl) gs F.kp bS .nil pass0 (pa_cons (pe_dget (hu_of hr) (pv 0) (pv 1) (fun _ _ => rfl)) pa_nil)) pa_nil))))) pa_nil)))) pss_nil)
          (pss_cons (ps_if (pt_not (pt_val (pe_callB call_isiT (by rfl) B.isinstance (by decide +kernel) (pa_cons (pv 0) (pa_cons (pe_tup (pa_cons (pe_bltn (v := .ty "list") (by rfl) B.list (by decide +kernel) rfl) (pa_cons (pe_bltn (v := .ty "tuple") (by rfl) B.tuple (by decide +kernel) rfl) pa_nil))) pa_nil)))))
            (pss_one (ps_ret (pv 0))) pss_nil)
          (pss_cons (ps_setLc (i := 2) (own := [("part", 3)]) (g := gName 3) (tt := tYes) (te := tCall (spC d) [] E0 (tCons (tVar 3) tNil)) rfl scCop.nd rfl rfl (sw_true rfl rfl (by rfl) (by rfl)) (pi_list (pv 0)) (blkOk_by (N := NCop) (sc := defScope (top 48)) (by decide +kernel))
              (fun _ _ _ _ _ => pg_name (i := 3) scCop.nd rfl (.inl rfl)) (fun _ _ _ _ _ => pts_nil)
              (fun _ _ _ _ _ => pe_call G hr (by rfl) gs F.kp bS .nil pass0 (pa_cons (pv 3) pa_nil)))
          (pss_one (ps_ret (pe_ifExp (pt_val (pe_ist K "list" 0 B.isinstance B.list)) (pv 2) (pe_callTy call_tuple_of (by rfl) B.tuple (by decide +kernel) (pa_cons (pv 2) pa_nil)))))))), ?_⟩
        have ha := eA _ _ ga
        refine ⟨.ref a, rfl, _, _, _, _, false, rfl, .ty _, .base (.lst ha), kit_ty (by decide +kernel), _, rfl, ?_⟩
        refine ⟨.ref a, rfl, by show 2 ≤ sizeLine; decide, fun T nT => ?_⟩
        have e1 : Ex H (upd H T (.tup [.ty "list", .ty "tuple"])) := Ex.new nT
        refine ⟨_, T, _, _, _, true, rfl, upd_same, pLT, .base (.lst (e1 _ _ ha)), kAny (b := true) (c := false) (by decide +kernel) (by decide +kernel), _, rfl, ?_⟩
        refine ⟨.ref a, rfl, a, rfl, ⟨xs, sq_of (e1 _ _ ha)⟩, fun D nD => ?_⟩
        have nD0 : H D = none := exf e1 nD
        refine lc_it (walk_list (xs := xs)) (fun i H' => ∃ ws Hw, H' D = some (.lst ws) ∧ Ex H H' ∧ Ex Hw H' ∧ (∀ b o, Hw b = some o → b ≠ D ∧ H b = none) ∧ Paired (Tw A Hw d) (xs.take i) ws)
          ⟨[], fun _ => none, upd_same, e1.trans (Ex.new nD), fun _ _ z => (by cases z), fun _ _ z => (by cases z), .nil⟩ (fun i H2 _ hI => by
            obtain ⟨ws, Hw, _, g2, _⟩ := hI
            exact sq_of (g2 _ _ ha)) (fun i z H2 H3 hi hI hY => ?_) (fun H2 hI => ?_)
        · obtain ⟨ws, Hw, g1, g2, g3, g4, g5⟩ := hI
          obtain ⟨rfl, hz⟩ := hY
          refine ⟨rfl, ?_⟩
          have lw := pl1 g5
          rw [List.length_take] at lw
          refine ⟨z, rfl, z, A, rfl, eA.trans g2, pat hp hz hz, fun u H4 Hs e4 s1 s2 t => ?_⟩
          have DHs : ∀ b o, Hs b = some o → b ≠ D := fun b o e y => by
            have := s2 b o e
            rw [y, g1] at this
            cases this
          refine ⟨ws, e4 _ _ g1, sz_lt (by omega), ws ++ [u], jn Hw Hs, upd_same, (g2.trans e4).mut nD0, fun b o e => ?_, fun b o e => ?_, ?_⟩
          · rcases jn_of e with y | y
            · rw [upd_ne (g4 b o y).1]
              exact e4 _ _ (g3 _ _ y)
            · rw [upd_ne (DHs b o y)]
              exact s1 _ _ y
          · rcases jn_of e with y | y
            · exact g4 b o y
            · exact ⟨DHs b o y, exf g2 (s2 b o y)⟩
          · rw [List.take_add_one, hz]
            exact papp (pimp (fun _ _ z => Tw.ext (Ex.refl A) jn_l z) g5) (.cons (Tw.ext (Ex.refl A) (jn_r (g3.trans e4) s1) t) .nil)
        obtain ⟨ws, Hw, g1, g2, g3, g4, g5⟩ := hI
        rw [List.take_of_length_le (Nat.le_refl _)] at g5
        have nw : Hw D = none := by
          cases z : Hw D with
          | none => rfl
          | some o => exact absurd rfl (g4 D o z).1
        refine ⟨.ref a, rfl, _, _, _, _, true, rfl, .ty _, .base (.lst (g2 _ _ (eA _ _ ga))), kit_ty (by decide +kernel), _, rfl, ?_⟩
        refine ⟨.ref D, rfl, ?_⟩
        exact q _ H2 (upd Hw D (.lst ws)) g2 (fun b u z => by
          by_cases y : b = D
          · rw [y, upd_same] at z
            rw [y, g1]
            exact z
          · rw [upd_ne y] at z
            exact g3 _ _ z) (fun b u z => by
          by_cases y : b = D
          · rw [y]
            exact nD0
          · rw [upd_ne y] at z
            exact (g4 b u z).2) (.inr (.inl ⟨a, D, xs, ws, rfl, rfl, ga, upd_same, hl, pimp (fun _ _ z => Tw.ext (Ex.refl A) (Ex.new nw) z) g5⟩))
      · cases e2
        rw [ga] at gb
        cases gb
        refine ⟨_, (pss_cons (ps_if (pt_val (pe_ist K "dict" 0 B.isinstance B.dict))
            (pss_one (ps_ret (pe_callTy (call_dictP rfl) (by rfl) B.dict (by decide +kernel) (pa_cons (pe_lock (pe_lc (own := [("key", 1)]) (g := gName 1) (tt := tYes) (te := tTup (tCons (tVar 1) (tCons (tCall (spC d) [] E0 (tCons (tDGet (tVar 0) (tVar 1)) tNil)) tNil))) rfl scCop.nd (pi_keys (pv 0)) (blkOk_by (N := NCop) (sc := defScope (top 48)) (by decide +kernel))
              (fun _ _ _ _ _ => pg_name (i := 1) scCop.nd rfl (.inl rfl)) (fun _ _ _ _ _ => pts_nil)
              (fun _ _ _ _ _ => pe_tup (pa_cons (pv 1) (pa_cons (pe_call G hr (by rfl) gs F.kp bS .nil pass0 (pa_cons (pe_dget (hu_of hr) (pv 0) (pv 1) (fun _ _ => rfl)) pa_nil)) pa_nil))))) pa_nil)))) pss_nil)
          (pss_cons (ps_if (pt_not (pt_val (pe_callB call_isiT (by rfl) B.isinstance (by decide +kernel) (pa_cons (pv 0) (pa_cons (pe_tup (pa_cons (pe_bltn (v := .ty "list") (by rfl) B.list (by decide +kernel) rfl) (pa_cons (pe_bltn (v := .ty "tuple") (by rfl) B.tuple (by decide +kernel) rfl) pa_nil))) pa_nil)))))
            (pss_one (ps_ret (pv 0))) pss_nil)
          (pss_cons (ps_setLc (i := 2) (own := [("part", 3)]) (g := gName 3) (tt := tYes) (te := tCall (spC d) [] E0 (tCons (tVar 3) tNil)) rfl scCop.nd rfl rfl (sw_true rfl rfl (by rfl) (by rfl)) (pi_tup (pv 0)) (blkOk_by (N := NCop) (sc := defScope (top 48)) (by decide +kernel))
              (fun _ _ _ _ _ => pg_name (i := 3) scCop.nd rfl (.inl rfl)) (fun _ _ _ _ _ => pts_nil)
              (fun _ _ _ _ _ => pe_call G hr (by rfl) gs F.kp bS .nil pass0 (pa_cons (pv 3) pa_nil)))
          (pss_one (ps_ret (pe_ifExp (pt_val (pe_ist K "list" 0 B.isinstance B.list)) (pv 2) (pe_callTy call_tuple_of (by rfl) B.tuple (by decide +kernel) (pa_cons (pv 2) pa_nil)))))))), ?_⟩
        have ha := eA _ _ ga
        refine ⟨.ref a, rfl, _, _, _, _, false, rfl, .ty _, .base (.tup ha), kit_ty (by decide +kernel), _, rfl, ?_⟩
        refine ⟨.ref a, rfl, by show 2 ≤ sizeLine; decide, fun T nT => ?_⟩
        have e1 : Ex H (upd H T (.tup [.ty "list", .ty "tuple"])) := Ex.new nT
        refine ⟨_, T, _, _, _, true, rfl, upd_same, pLT, .base (.tup (e1 _ _ ha)), kAny (b := false) (c := true) (by decide +kernel) (by decide +kernel), _, rfl, ?_⟩
        refine ⟨.ref a, rfl, a, rfl, ⟨xs, st_of (e1 _ _ ha)⟩, fun D nD => ?_⟩
        have nD0 : H D = none := exf e1 nD
        refine lc_it (walk_tup (xs := xs)) (fun i H' => ∃ ws Hw, H' D = some (.lst ws) ∧ Ex H H' ∧ Ex Hw H' ∧ (∀ b o, Hw b = some o → b ≠ D ∧ H b = none) ∧ Paired (Tw A Hw d) (xs.take i) ws)
          ⟨[], fun _ => none, upd_same, e1.trans (Ex.new nD), fun _ _ z => (by cases z), fun _ _ z => (by cases z), .nil⟩ (fun i H2 _ hI => by
            obtain ⟨ws, Hw, _, g2, _⟩ := hI
            exact st_of (g2 _ _ ha)) (fun i z H2 H3 hi hI hY => ?_) (fun H2 hI => ?_)
        · obtain ⟨ws, Hw, g1, g2, g3, g4, g5⟩ := hI
          obtain ⟨rfl, hz⟩ := hY
          refine ⟨rfl, ?_⟩
          have lw := pl1 g5
          rw [List.length_take] at lw
          refine ⟨z, rfl, z, A, rfl, eA.trans g2, pat hp hz hz, fun u H4 Hs e4 s1 s2 t => ?_⟩
          have DHs : ∀ b o, Hs b = some o → b ≠ D := fun b o e y => by
            have := s2 b o e
            rw [y, g1] at this
            cases this
          refine ⟨ws, e4 _ _ g1, sz_lt (by omega), ws ++ [u], jn Hw Hs, upd_same, (g2.trans e4).mut nD0, fun b o e => ?_, fun b o e => ?_, ?_⟩
          · rcases jn_of e with y | y
            · rw [upd_ne (g4 b o y).1]
              exact e4 _ _ (g3 _ _ y)
            · rw [upd_ne (DHs b o y)]
              exact s1 _ _ y
          · rcases jn_of e with y | y
            · exact g4 b o y
            · exact ⟨DHs b o y, exf g2 (s2 b o y)⟩
          · rw [List.take_add_one, hz]
            exact papp (pimp (fun _ _ z => Tw.ext (Ex.refl A) jn_l z) g5) (.cons (Tw.ext (Ex.refl A) (jn_r (g3.trans e4) s1) t) .nil)
        obtain ⟨ws, Hw, g1, g2, g3, g4, g5⟩ := hI
        rw [List.take_of_length_le (Nat.le_refl _)] at g5
        have nw : Hw D = none := by
          cases z : Hw D with
          | none => rfl
          | some o => exact absurd rfl (g4 D o z).1
        refine ⟨.ref a, rfl, _, _, _, _, false, rfl, .ty _, .base (.tup (g2 _ _ (eA _ _ ga))), kit_ty (by decide +kernel), _, rfl, ?_⟩
        refine ⟨.ref D, rfl, D, ws, rfl, .inl ⟨sq_of g1, fun T nT => ?_⟩⟩
        have nT0 : H T = none := exf g2 nT
        exact q _ _ (upd Hw T (.tup ws)) (g2.trans (Ex.new nT)) (fun b u z => by
          by_cases y : b = T
          · rw [y, upd_same] at z ⊢
            exact z
          · rw [upd_ne y] at z ⊢
            exact g3 _ _ z) (fun b u z => by
          by_cases y : b = T
          · rw [y]
            exact nT0
          · rw [upd_ne y] at z
            exact (g4 b u z).2) (.inr (.inr (.inl ⟨a, T, xs, ws, rfl, rfl, ga, upd_same, hl, pimp (fun _ _ z => Tw.ext (Ex.refl A) (Ex.new (exf g3 nT)) z) g5⟩)))
      · cases e2
        refine ⟨_, (pss_cons (ps_if (pt_val (pe_ist K "dict" 0 B.isinstance B.dict))
            (pss_one (ps_ret (pe_callTy (call_dictP rfl) (by rfl) B.dict (by decide +kernel) (pa_cons (pe_lock (pe_lc (own := [("key", 1)]) (g := gName 1) (tt := tYes) (te := tTup (tCons (tVar 1) (tCons (tCall (spC d) [] E0 (tCons (tDGet (tVar 0) (tVar 1)) tNil)) tNil))) rfl scCop.nd (pi_keys (pv 0)) (blkOk_by (N := NCop) (sc := defScope (top 48)) (by decide +kernel))
              (fun _ _ _ _ _ => pg_name (i := 1) scCop.nd rfl (.inl rfl)) (fun _ _ _ _ _ => pts_nil)
              (fun _ _ _ _ _ => pe_tup (pa_cons (pv 1) (pa_cons (pe_call G hr (by rfl) gs F.kp bS .nil pass0 (pa_cons (pe_dget (hu_of hr) (pv 0) (pv 1) (fun _ _ => rfl)) pa_nil)) pa_nil))))) pa_nil)))) pss_nil)
          (pss_cons (ps_if (pt_not (pt_val (pe_callB call_isiT (by rfl) B.isinstance (by decide +kernel) (pa_cons (pv 0) (pa_cons (pe_tup (pa_cons (pe_bltn (v := .ty "list") (by rfl) B.list (by decide +kernel) rfl) (pa_cons (pe_bltn (v := .ty "tuple") (by rfl) B.tuple (by decide +kernel) rfl) pa_nil))) pa_nil)))))
            (pss_one (ps_ret (pv 0))) pss_nil)
          (pss_cons (ps_setLc (i := 2) (own := [("part", 3)]) (g := gName 3) (tt := tYes) (te := tCall (spC d) [] E0 (tCons (tVar 3) tNil)) rfl scCop.nd rfl rfl (sw_true rfl rfl (by rfl) (by rfl)) (pi_list (pv 0)) (blkOk_by (N := NCop) (sc := defScope (top 48)) (by decide +kernel))
              (fun _ _ _ _ _ => pg_name (i := 3) scCop.nd rfl (.inl rfl)) (fun _ _ _ _ _ => pts_nil)
              (fun _ _ _ _ _ => pe_call G hr (by rfl) gs F.kp bS .nil pass0 (pa_cons (pv 3) pa_nil)))
          (pss_one (ps_ret (pe_ifExp (pt_val (pe_ist K "list" 0 B.isinstance B.list)) (pv 2) (pe_callTy call_tuple_of (by rfl) B.tuple (by decide +kernel) (pa_cons (pv 2) pa_nil)))))))), ?_⟩
        have ha := eA _ _ ga
        refine ⟨.ref a, rfl, _, _, _, _, true, rfl, .ty _, .base (.dK ha), kit_ty (by decide +kernel), _, rfl, ?_⟩
        refine ⟨a, .dK kvs, ha, True.intro, fun od => ⟨.ref a, rfl, a, od, rfl, .inl ⟨kvs, upd_same, fun D nD => ?_⟩⟩⟩
        have Da : a ≠ D := ne_of_none upd_same nD
        have nD0 : H D = none := by
          rw [upd_ne Da.symm] at nD
          exact nD
        refine lc_it walk_keys (fun i H' => H' a = some (.frz od (.dK kvs)) ∧ (∀ b o, b ≠ a → H b = some o → H' b = some o) ∧ ∃ ps : List Addr, H' D = some (.lst (ps.map V.ref)) ∧ D ∉ ps ∧ Paired (fun p (kv : Key × V) => H' p = some (.tup [kV kv.1, kv.2])) ps (kvs.take i))
          ⟨by rw [upd_ne Da, upd_same], fun b o nb e => by rw [upd_ne (fun z => by rw [z, nD0] at e; cases e), upd_ne nb]; exact e, [], upd_same, by simp, .nil⟩ (fun i H2 _ hI => hI.1) (fun i z H2 H3 hi hI hY => ?_) (fun H2 hI => ?_)
        · obtain ⟨g1, g2, ps, g3, g4, g5⟩ := hI
          obtain ⟨rfl, k, v, hk, rfl⟩ := hY
          refine ⟨rfl, ?_⟩
          refine ⟨kV k, rfl, .ref a, rfl, kV k, rfl, a, v, rfl, .inl ⟨kvs, k, .inr ⟨od, g1⟩, rfl, (valV_at hn hk).symm⟩, ?_⟩
          have av : atomV v = true := hv (k, v) (List.mem_of_getElem? hk)
          obtain ⟨d', rfl⟩ : ∃ d', d = d' + 1 := ⟨d - 1, by omega⟩
          refine ⟨v, fun _ => none, rfl, fun _ _ z => (by cases z), Tw.of_atom av, fun u H4 Hs e4 _ _ t => ?_⟩
          have eu := t.atom av
          subst eu
          refine ⟨by show 2 ≤ sizeLine; decide, fun p np => ?_⟩
          have D4 := e4 _ _ g3
          have pD : D ≠ p := ne_of_none D4 np
          have pa : a ≠ p := ne_of_none (e4 _ _ g1) np
          have lps : ps.length ≤ 1000 := by
            have := pl1 g5
            rw [List.length_take] at this
            omega
          refine ⟨ps.map V.ref, by rw [upd_ne pD]; exact D4, by rw [List.length_map]; exact sz_lt (by omega), by rw [upd_ne Da, upd_ne pa]; exact e4 _ _ g1, fun b o nb e => ?_, ps ++ [p], by rw [upd_same]; simp, ?_, ?_⟩
          · have e5 := e4 _ _ (g2 b o nb e)
            rw [upd_ne (fun z => by rw [z, nD0] at e; cases e), upd_ne (fun z => by rw [z, np] at e5; cases e5)]
            exact e5
          · intro m
            rcases List.mem_append.mp m with m | m
            · exact g4 m
            · exact pD (List.mem_singleton.mp m)
          · rw [List.take_add_one, hk]
            refine papp (pmem (fun q kv hq z => ?_) g5) (.cons (by rw [upd_ne pD.symm, upd_same]) .nil)
            rw [upd_ne (fun y => g4 (by rw [← y]; exact hq)), upd_ne (fun y => by rw [y] at z; rw [e4 _ _ z] at np; cases np)]
            exact e4 _ _ z
        · obtain ⟨g1, g2, ps, g3, g4, g5⟩ := hI
          rw [List.take_of_length_le (Nat.le_refl _)] at g5
          refine ⟨g1, D, ps, kvs, rfl, sq_of (by rw [upd_ne Da.symm]; exact g3), pmem (fun q kv hq z => st_of (by rw [upd_ne (fun y => by rw [y, g1] at z; cases z)]; exact z)) g5, fun p np => ?_⟩
          rw [merge_app (acc := []) (by simpa using hn)]
          have eH : Ex H (upd H2 a (.dK kvs)) := fun b o e => by
            by_cases y : b = a
            · rw [y, upd_same]
              rw [y, ha] at e
              exact e
            · rw [upd_ne y]
              exact g2 b o y e
          exact q _ _ (upd (fun _ => none) p (.dK kvs)) (eH.trans (Ex.new np)) (fun b u z => by
            by_cases y : b = p
            · rw [y, upd_same] at z ⊢
              exact z
            · rw [upd_ne y] at z
              cases z) (fun b u z => by
            by_cases y : b = p
            · rw [y]
              exact exf eH np
            · rw [upd_ne y] at z
              cases z) (.inr (.inr (.inr ⟨a, p, kvs, rfl, rfl, ga, upd_same, hl, hd, hn, hv⟩)))
end
end K07
/-! text D7 -/
set_option Elab.async false
set_option linter.all false
set_option maxRecDepth 100000
set_option maxHeartbeats 4000000
/-! whether two things are the same -/
namespace K07
open PySem PySem.Spec PyProof.Rows L2 Evl PySem.W Dw Dw.DV RZ
theorem walk_zipT {K : PySem.W.Frag} {a b : Addr} {xs ys : List V} {n : Nat} (hn : n = xs.length) (hl : xs.length = ys.length) : Walk (ItzT K a b) n (fun H => SqT K H a xs ∧ SqT K H b ys) (YPair (fun i => xs[i]?) (fun i => ys[i]?)) := by
  refine ⟨fun i H hi h => ?_, fun H h => ?_, fun i H x H' hi h y => ?_⟩
  · exact ⟨xs, ys, xs[i], ys[i], h.1, h.2, List.getElem?_eq_getElem (by omega), List.getElem?_eq_getElem (by omega)⟩
  · exact ⟨xs, ys, h.1, h.2, .inl (by omega)⟩
  · obtain ⟨T, x', y', h1, h2, h3, h4, h5⟩ := y
    exact ⟨T, x', y', h1, h2, h3, h4 _ h.1, h5 _ h.2⟩
def spS : Nat → Sp := fun d vs H Q _ => ∃ v u, vs = [v, u] ∧ Tw H H d v u ∧ ∀ H', Ex H H' → Q (.bl true) H'
theorem all_rep (n : Nat) : (List.replicate n true).all id = true := by simp
theorem tw_items {H : Hp} {e : Nat} : ∀ {ts ts2 : List Addr} {kvs : List (Key × V)}, (∀ q ∈ kvs, atomV q.2 = true) → Paired (fun (t : Addr) (q : Key × V) => H t = some (.tup [kV q.1, q.2])) ts kvs → Paired (fun (t : Addr) (q : Key × V) => H t = some (.tup [kV q.1, q.2])) ts2 kvs →
    Paired (Tw H H (e + 2)) (ts.map V.ref) (ts2.map V.ref)
  | _, _, _, _, .nil, .nil => .nil
  | _, _, (k, v) :: _, ha, .cons h1 r1, .cons h2 r2 => by
    refine .cons (.inr (.inr (.inl ⟨_, _, _, _, rfl, rfl, h1, h2, by show 2 ≤ 1000; decide, .cons (.inl ⟨rfl, ?_⟩) (.cons (.inl ⟨rfl, ha _ List.mem_cons_self⟩) .nil)⟩))) (tw_items (fun q hq => ha q (List.mem_cons_of_mem _ hq)) r1 r2)
    cases k <;> rfl
section
variable {P : Program} {w : World} {K : PySem.W.Frag} {mg : Str → Option Value} {base : Heap} {f : Addr} {fd : FuncData}
abbrev NSame : List Str := ["found", "due", "x", "y"]
theorem scSame : FnScope NSame ["found", "due"] (defScope (top 49)) := ⟨rfl, rfl, rfl, by decide +kernel, rfl, by decide +kernel, by decide +kernel⟩
theorem ok_same (F : FnP K "_law_same" (top 49) f fd) (gs : mg "_law_same" = some (.ref f)) (B : Bn mg) : ∀ d, FnOk P w K mg base CX0 d f fd ["found", "due"] (spS d)
  | 0 => ⟨fun _ _ _ _ h => by
      obtain ⟨_, _, _, h, _⟩ := h
      exact h.elim, fun _ _ _ _ _ _ _ _ _ _ _ _ _ h => by
      obtain ⟨_, _, _, h, _⟩ := h
      exact h.elim⟩
  | d + 1 => by
    have G := ok_same F gs B d
    have bS : Binds K fd ["found", "due"] [] := F.bindsN fun _ _ _ _ _ _ us hl => match us, hl with | [_, _], _ => rfl
    refine F.ok scSame (fun vs H Q E h => ?_) (fun cdv A outer s H vs Q E hr h => ?_)
    · obtain ⟨v, u, rfl, _⟩ := h
      rfl
    · obtain ⟨v, u, rfl, hT, qq⟩ := h
      refine ⟨_, PSs.nox (
        pss_cons (ps_if (pt_val (pe_callB call_isiT (by rfl) B.isinstance (by decide +kernel) (pa_cons (pv 1) (pa_cons (pe_tup (pa_cons (pe_bltn (v := .ty "list") (by rfl) B.list (by decide +kernel) rfl) (pa_cons (pe_bltn (v := .ty "tuple") (by rfl) B.tuple (by decide +kernel) rfl) pa_nil))) pa_nil))))
          (pss_cons (ps_if (pw_or (pt_cmpR op_ne (pe_ist K "list" 0 B.isinstance B.list) (pe_ist K "list" 1 B.isinstance B.list) (nomark _))
            (pw_or1 (pt_cmpR op_ne (pe_ist K "tuple" 0 B.isinstance B.tuple) (pe_ist K "tuple" 1 B.isinstance B.tuple) (nomark _)))).pt (pss_one (ps_ret pe_bl)) pss_nil)
          (pss_one (ps_ret (pe_and (pe_cmpR op_eq (pe_callB call_len_seq (by rfl) B.len PySem.boot_len (pa_cons (pv 0) pa_nil)) (pe_callB call_len_seq (by rfl) B.len PySem.boot_len (pa_cons (pv 1) pa_nil)) (nomark _))
            (pe_one (pe_callB (cr_all rfl) (by rfl) B.all (by decide +kernel) (pa_cons (pe_lc (own := [("x", 2), ("y", 3)]) (g := gTup K 2 (gCons (gName 2) (gCons (gName 3) gNil))) (tt := tYes) (te := tCall (spS d) [] E0 (tCons (tVar 2) (tCons (tVar 3) tNil))) rfl scSame.nd
              (pi_zipA (by rfl) B.zip (pa_cons (pv 0) (pa_cons (pv 1) pa_nil))) (blkOk_by (N := NSame) (sc := defScope (top 49)) (by decide +kernel))
              (fun _ _ _ _ _ => pg_tup rfl (pgs_cons (pg_name (i := 2) scSame.nd rfl (.inl rfl)) (pgs_cons (pg_name (i := 3) scSame.nd rfl (.inl rfl)) pgs_nil))) (fun _ _ _ _ _ => pts_nil)
              (fun _ _ _ _ _ => pe_call G hr (by rfl) gs F.kp bS .nil pass0 (pa_cons (pv 2) (pa_cons (pv 3) pa_nil)))) pa_nil))))))) pss_nil)
        (pss_cons (ps_if (pt_val (pe_ist K "dict" 1 B.isinstance B.dict))
          (pss_one (ps_ret (pe_and (pe_ist K "dict" 0 B.isinstance B.dict)
            (pe_one (pe_call G hr (by rfl) gs F.kp bS .nil pass0 (pa_cons (LiI.pe_listItems rfl (pv 0) (by rfl) B.list (by decide +kernel)) (pa_cons (LiI.pe_listItems rfl (pv 1) (by rfl) B.list (by decide +kernel)) pa_nil))))))) pss_nil)
        (pss_cons (ps_if (pt_val (pe_ist K "int" 1 B.isinstance B.int))
          (pss_one (ps_ret (pe_and (pe_ist K "int" 0 B.isinstance B.int)
            (pe_and (pe_cmpR op_eq (pe_ist K "bool" 0 B.isinstance B.bool) (pe_ist K "bool" 1 B.isinstance B.bool) (nomark _))
              (pe_one (pe_cmpR op_eq (pv 0) (pv 1) (nomark _))))))) pss_nil)
        (pss_cons (ps_if (pt_cmpR op_isN (pv 1) pe_non (nomark _)) (pss_one (ps_ret (pe_cmpR op_isN (pv 0) pe_non (nomark _)))) pss_nil)
        (pss_cons (ps_if (pt_val (pe_ist K "str" 1 B.isinstance B.str))
          (pss_one (ps_ret (pe_and (pe_ist K "str" 0 B.isinstance B.str) (pe_one (pe_cmpR op_eq (pv 0) (pv 1) (nomark _)))))) pss_nil)
        (pss_one (ps_ret (pe_and (pe_not (pe_callB call_isiT (by rfl) B.isinstance (by decide +kernel) (pa_cons (pv 0) (pa_cons (pe_tup (pa_cons (pe_bltn (v := .ty "int") (by rfl) B.int (by decide +kernel) rfl) (pa_cons (pe_bltn (v := .ty "str") (by rfl) B.str (by decide +kernel) rfl) (pa_cons (pe_bltn (v := .ty "list") (by rfl) B.list (by decide +kernel) rfl) (pa_cons (pe_bltn (v := .ty "tuple") (by rfl) B.tuple (by decide +kernel) rfl) (pa_cons (pe_bltn (v := .ty "dict") (by rfl) B.dict (by decide +kernel) rfl) pa_nil)))))) pa_nil))))
          (pe_one (pe_cmpR op_eq (pv 0) (pv 1) (nomark _))))))))))), ?_⟩
      rcases hT with ⟨e, ha⟩ | ⟨a, b, xs, ys, e1, e2, ga, gb, hl, hp⟩ | ⟨a, b, xs, ys, e1, e2, ga, gb, hl, hp⟩ | ⟨a, b, kvs, e1, e2, ga, gb, hl, hd, hn, hv⟩
      · subst e
        cases v with
        | non =>
          refine ⟨.non, rfl, by show 2 ≤ sizeLine; decide, fun T nT => ?_⟩
          refine ⟨_, T, _, _, _, false, rfl, upd_same, pLT, .base .non, kAny (b := false) (c := false) (by decide +kernel) (by decide +kernel), _, rfl, ?_⟩
          refine ⟨.non, rfl, _, _, _, _, false, rfl, .ty _, .base .non, kit_ty (by decide +kernel), _, rfl, ?_⟩
          refine ⟨.non, rfl, _, _, _, _, false, rfl, .ty _, .base .non, kit_ty (by decide +kernel), _, rfl, ?_⟩
          refine ⟨.non, rfl, rfl, _, rfl, ?_⟩
          exact ⟨.non, rfl, rfl, qq _ (Ex.new nT)⟩
        | str x =>
          refine ⟨.str x, rfl, by show 2 ≤ sizeLine; decide, fun T nT => ?_⟩
          refine ⟨_, T, _, _, _, false, rfl, upd_same, pLT, .base (.str x), kAny (b := false) (c := false) (by decide +kernel) (by decide +kernel), _, rfl, ?_⟩
          refine ⟨.str x, rfl, _, _, _, _, false, rfl, .ty _, .base (.str x), kit_ty (by decide +kernel), _, rfl, ?_⟩
          refine ⟨.str x, rfl, _, _, _, _, false, rfl, .ty _, .base (.str x), kit_ty (by decide +kernel), _, rfl, ?_⟩
          refine ⟨.str x, rfl, rfl, _, rfl, ?_⟩
          refine ⟨.str x, rfl, _, _, _, _, true, rfl, .ty _, .base (.str x), kit_ty (by decide +kernel), _, rfl, ?_⟩
          refine ⟨.str x, rfl, _, _, _, _, true, rfl, .ty _, .base (.str x), kit_ty (by decide +kernel), _, rfl, ?_⟩
          refine ⟨.str x, rfl, .str x, rfl, rfl, ?_⟩
          rw [decide_eq_true rfl]
          exact qq _ (Ex.new nT)
        | bl x =>
          refine ⟨.bl x, rfl, by show 2 ≤ sizeLine; decide, fun T nT => ?_⟩
          refine ⟨_, T, _, _, _, false, rfl, upd_same, pLT, .base (.bl x), kAny (b := false) (c := false) (by decide +kernel) (by decide +kernel), _, rfl, ?_⟩
          refine ⟨.bl x, rfl, _, _, _, _, false, rfl, .ty _, .base (.bl x), kit_ty (by decide +kernel), _, rfl, ?_⟩
          refine ⟨.bl x, rfl, _, _, _, _, true, rfl, .ty _, .base (.bl x), kit_ty (by decide +kernel), _, rfl, ?_⟩
          refine ⟨.bl x, rfl, _, _, _, _, true, rfl, .ty _, .base (.bl x), kit_ty (by decide +kernel), _, rfl, ?_⟩
          refine ⟨.bl x, rfl, _, _, _, _, true, rfl, .ty _, .base (.bl x), kit_ty (by decide +kernel), ?_⟩
          refine ⟨.bl x, rfl, _, _, _, _, true, rfl, .ty _, .base (.bl x), kit_ty (by decide +kernel), rfl, _, rfl, ?_⟩
          refine ⟨.bl x, rfl, .bl x, rfl, rfl, ?_⟩
          rw [decide_eq_true rfl]
          exact qq _ (Ex.new nT)
        | int x =>
          refine ⟨.int x, rfl, by show 2 ≤ sizeLine; decide, fun T nT => ?_⟩
          refine ⟨_, T, _, _, _, false, rfl, upd_same, pLT, .base (.int x), kAny (b := false) (c := false) (by decide +kernel) (by decide +kernel), _, rfl, ?_⟩
          refine ⟨.int x, rfl, _, _, _, _, false, rfl, .ty _, .base (.int x), kit_ty (by decide +kernel), _, rfl, ?_⟩
          refine ⟨.int x, rfl, _, _, _, _, true, rfl, .ty _, .base (.int x), kit_ty (by decide +kernel), _, rfl, ?_⟩
          refine ⟨.int x, rfl, _, _, _, _, true, rfl, .ty _, .base (.int x), kit_ty (by decide +kernel), _, rfl, ?_⟩
          refine ⟨.int x, rfl, _, _, _, _, false, rfl, .ty _, .base (.int x), kit_ty (by decide +kernel), ?_⟩
          refine ⟨.int x, rfl, _, _, _, _, false, rfl, .ty _, .base (.int x), kit_ty (by decide +kernel), rfl, _, rfl, ?_⟩
          refine ⟨.int x, rfl, .int x, rfl, rfl, ?_⟩
          rw [decide_eq_true rfl]
          exact qq _ (Ex.new nT)
        | _ => cases ha
      · subst e1 e2
        have hxy := pl1 hp
        refine ⟨.ref b, rfl, by show 2 ≤ sizeLine; decide, fun T nT => ?_⟩
        have e1 : Ex H (upd H T (.tup [.ty "list", .ty "tuple"])) := Ex.new nT
        refine ⟨_, T, _, _, _, true, rfl, upd_same, pLT, .base (.lst (e1 _ _ gb)), kAny (b := true) (c := false) (by decide +kernel) (by decide +kernel), _, rfl, ?_⟩
        refine ⟨.ref a, rfl, _, _, _, _, true, rfl, .ty _, .base (.lst (e1 _ _ ga)), kit_ty (by decide +kernel), .ref b, rfl, _, _, _, _, true, rfl, .ty _, .base (.lst (e1 _ _ gb)), kit_ty (by decide +kernel), rfl, _, rfl, ?_⟩
        refine ⟨.ref a, rfl, _, _, _, _, false, rfl, .ty _, .base (.lst (e1 _ _ ga)), kit_ty (by decide +kernel), .ref b, rfl, _, _, _, _, false, rfl, .ty _, .base (.lst (e1 _ _ gb)), kit_ty (by decide +kernel), rfl, _, rfl, ?_⟩
        refine ⟨.ref a, rfl, a, xs, rfl, .inl (sq_of (e1 _ _ ga)), .ref b, rfl, b, ys, rfl, .inl (sq_of (e1 _ _ gb)), rfl, _, rfl, ?_⟩
        rw [hxy, if_pos (decide_eq_true rfl)]
        refine ⟨.ref a, rfl, .ref b, rfl, a, b, xs, ys, rfl, .inl ⟨sq_of (e1 _ _ ga), sq_of (e1 _ _ gb), fun D nD => ?_⟩⟩
        refine lc_it (walk_zip (xs := xs) (ys := ys) rfl) (fun i H' => H' D = some (.lst ((List.replicate i true).map V.bl)) ∧ Ex (upd H T (.tup [.ty "list", .ty "tuple"])) H') ⟨upd_same, Ex.new nD⟩ (fun i H2 _ hI => ⟨sq_of (hI.2 _ _ (e1 _ _ ga)), sq_of (hI.2 _ _ (e1 _ _ gb))⟩) (fun i z H2 H3 hi hI hY => ?_) (fun H2 hI => ?_)
        · obtain ⟨g1, g2⟩ := hI
          obtain ⟨Z, x, y, rfl, nZ, rfl, hx, hy⟩ := hY
          have hxy2 := pat hp hx hy
          have e3 : Ex H (upd H2 Z (.tup [x, y])) := (e1.trans g2).trans (Ex.new nZ)
          have DZ : D ≠ Z := ne_of_none g1 nZ
          refine ⟨Z, [x, y], rfl, .inl (.inl upd_same), rfl, x, [y], rfl, y, [], rfl, rfl, rfl, ?_⟩
          refine ⟨x, rfl, y, rfl, x, y, rfl, hxy2.ext e3 e3, fun H4 e4 => ⟨(List.replicate i true).map V.bl, e4 _ _ (by rw [upd_ne DZ]; exact g1), by rw [List.length_map, List.length_replicate]; exact sz_lt (by omega), ?_, ((g2.trans (Ex.new nZ)).trans e4).mut nD⟩⟩
          rw [upd_same, List.replicate_succ', List.map_append]
          rfl
        · obtain ⟨g1, g2⟩ := hI
          refine ⟨D, List.replicate (min xs.length ys.length) true, rfl, sq_of g1, ?_⟩
          rw [all_rep]
          exact qq _ (e1.trans g2)
      · subst e1 e2
        have hxy := pl1 hp
        refine ⟨.ref b, rfl, by show 2 ≤ sizeLine; decide, fun T nT => ?_⟩
        have e1 : Ex H (upd H T (.tup [.ty "list", .ty "tuple"])) := Ex.new nT
        refine ⟨_, T, _, _, _, true, rfl, upd_same, pLT, .base (.tup (e1 _ _ gb)), kAny (b := false) (c := true) (by decide +kernel) (by decide +kernel), _, rfl, ?_⟩
        refine ⟨.ref a, rfl, _, _, _, _, false, rfl, .ty _, .base (.tup (e1 _ _ ga)), kit_ty (by decide +kernel), .ref b, rfl, _, _, _, _, false, rfl, .ty _, .base (.tup (e1 _ _ gb)), kit_ty (by decide +kernel), rfl, _, rfl, ?_⟩
        refine ⟨.ref a, rfl, _, _, _, _, true, rfl, .ty _, .base (.tup (e1 _ _ ga)), kit_ty (by decide +kernel), .ref b, rfl, _, _, _, _, true, rfl, .ty _, .base (.tup (e1 _ _ gb)), kit_ty (by decide +kernel), rfl, _, rfl, ?_⟩
        refine ⟨.ref a, rfl, a, xs, rfl, .inr (st_of (e1 _ _ ga)), .ref b, rfl, b, ys, rfl, .inr (st_of (e1 _ _ gb)), rfl, _, rfl, ?_⟩
        rw [hxy, if_pos (decide_eq_true rfl)]
        refine ⟨.ref a, rfl, .ref b, rfl, a, b, xs, ys, rfl, .inr ⟨st_of (e1 _ _ ga), st_of (e1 _ _ gb), fun D nD => ?_⟩⟩
        refine lc_it (walk_zipT (xs := xs) (ys := ys) rfl hxy) (fun i H' => H' D = some (.lst ((List.replicate i true).map V.bl)) ∧ Ex (upd H T (.tup [.ty "list", .ty "tuple"])) H') ⟨upd_same, Ex.new nD⟩ (fun i H2 _ hI => ⟨st_of (hI.2 _ _ (e1 _ _ ga)), st_of (hI.2 _ _ (e1 _ _ gb))⟩) (fun i z H2 H3 hi hI hY => ?_) (fun H2 hI => ?_)
        · obtain ⟨g1, g2⟩ := hI
          obtain ⟨Z, x, y, rfl, nZ, rfl, hx, hy⟩ := hY
          have hxy2 := pat hp hx hy
          have e3 : Ex H (upd H2 Z (.tup [x, y])) := (e1.trans g2).trans (Ex.new nZ)
          have DZ : D ≠ Z := ne_of_none g1 nZ
          refine ⟨Z, [x, y], rfl, .inl (.inl upd_same), rfl, x, [y], rfl, y, [], rfl, rfl, rfl, ?_⟩
          refine ⟨x, rfl, y, rfl, x, y, rfl, hxy2.ext e3 e3, fun H4 e4 => ⟨(List.replicate i true).map V.bl, e4 _ _ (by rw [upd_ne DZ]; exact g1), by rw [List.length_map, List.length_replicate]; exact sz_lt (by omega), ?_, ((g2.trans (Ex.new nZ)).trans e4).mut nD⟩⟩
          rw [upd_same, List.replicate_succ', List.map_append]
          rfl
        · obtain ⟨g1, g2⟩ := hI
          refine ⟨D, List.replicate (xs.length) true, rfl, sq_of g1, ?_⟩
          rw [all_rep]
          exact qq _ (e1.trans g2)
      · subst e1 e2
        refine ⟨.ref b, rfl, by show 2 ≤ sizeLine; decide, fun T nT => ?_⟩
        have e1 : Ex H (upd H T (.tup [.ty "list", .ty "tuple"])) := Ex.new nT
        refine ⟨_, T, _, _, _, false, rfl, upd_same, pLT, .base (.dK (e1 _ _ gb)), kAny (b := false) (c := false) (by decide +kernel) (by decide +kernel), _, rfl, ?_⟩
        refine ⟨.ref b, rfl, _, _, _, _, true, rfl, .ty _, .base (.dK (e1 _ _ gb)), kit_ty (by decide +kernel), _, rfl, ?_⟩
        refine ⟨.ref a, rfl, _, _, _, _, true, rfl, .ty _, .base (.dK (e1 _ _ ga)), kit_ty (by decide +kernel), _, rfl, ?_⟩
        refine ⟨.ref a, rfl, a, kvs, rfl, e1 _ _ ga, fun H2 p ts e2 np nts pts hp hpt => ?_⟩
        refine ⟨.ref b, rfl, b, kvs, rfl, e2 _ _ (e1 _ _ gb), fun H3 p2 ts2 e3 np2 nts2 pts2 hp2 hpt2 => ?_⟩
        obtain ⟨k, rfl⟩ : ∃ k, d = k + 3 := ⟨d - 3, by omega⟩
        have h1 : Paired (fun (t : Addr) (q : Key × V) => H3 t = some (.tup [kV q.1, q.2])) ts kvs := pimp (fun _ _ z => e3 _ _ z) hpt
        have l1 : (ts.map V.ref).length ≤ 1000 := by
          rw [List.length_map, pl1 hpt]
          exact hl
        refine ⟨_, _, rfl, Or.inr (Or.inl ⟨p, p2, _, _, rfl, rfl, e3 _ _ hp, hp2, l1, tw_items hv h1 hpt2⟩), fun H4 e4 => ?_⟩
        exact qq _ (((e1.trans e2).trans e3).trans e4)
end
end K07
/-! text D8 -/
set_option Elab.async false
set_option linter.all false
set_option maxRecDepth 100000
set_option maxHeartbeats 4000000
/-! copied, same: typed -/
namespace K07
open PySem PySem.Spec PyProof.Rows L2 Evl PySem.W Dw Dw.DV
section
variable {α : Type} [DecidableEq α] [Datum α] [DVT α] {σ : L2.St} {H : Hp} {ta tb : TE} {d : Nat} {E : XK}
theorem ed_copied {x : α} (h : EvD ta σ H x) (hs : DVT.sm x) (hd : DVT.dep α ≤ d := by decide) : EvD (tCall (spC d) [] E (tCons ta tNil)) σ H x := fun H1 e Q q => h H1 e _ fun v H2 Hs e2 s r =>
  ⟨v, Hs, rfl, s.e, (DVT.tw hs r r).ups hd, fun u H' Hs' e3 s1 s2 t => q u H' Hs' (e2.trans e3) ⟨s1, fun b o z => .inr (exf e2 (s2 b o z))⟩ (DVT.cp r t)⟩
theorem ev_same {x y : α} (ha : EvD ta σ H x) (hb : EvD tb σ H y) (e : x = y) (hs : DVT.sm x) (hd : DVT.dep α ≤ d := by decide) : Ev (tCall (spS d) [] E (tCons ta (tCons tb tNil))) σ H (.bl true) := fun H1 e1 Q q => ha.go e1 fun v H2 e2 r => hb.go (e1.trans e2) fun u H3 e3 r2 => by
  subst e
  exact ⟨v, u, rfl, (DVT.tw hs (DV.ext e3 r) r2).ups hd, fun H' e4 => q H' ((e2.trans e3).trans e4)⟩
end
end K07
/-! text D5 -/
set_option Elab.async false
set_option linter.all false
set_option maxRecDepth 100000
set_option maxHeartbeats 1000000
/-! is_name of a good name -/
namespace K07
open PySem PySem.Spec PyProof.Rows L2 Evl PySem.W Dw Dw.DV
section
variable {P : Program} {w : World} {K : PySem.W.Frag} {mg : Str → Option Value} {base : Heap} {f : Addr} {fd : FuncData}
def letters : Str := "abcdefghijklmnopqrstuvwxyz"
def signs : Str := letters ++ "0123456789"
def goodName (x : Str) : Bool := decide (0 < x.length) && (decide (x.length < 13) && ((match x.cps.toList with
  | c :: _ => decide (c ∈ letters.cps.toList)
  | [] => false) && x.cps.toList.all fun c => decide (c ∈ signs.cps.toList)))
theorem scIsName : FnScope ["thing", "letters", "sign"] ["thing"] (defScope (top 15)) := ⟨rfl, rfl, rfl, by decide +kernel, rfl, by decide +kernel, by decide +kernel⟩
def spIsName : Sp := fun vs H Q _ => ∃ x : Str, vs = [.str x] ∧ goodName x = true ∧ ∀ H', Ex H H' → Q (.bl true) H'
def tIsStr (K : PySem.W.Frag) : TE := tCB (rIsi K) (tCons (tVar 0) (tCons (tC (.ty "str")) tNil))
theorem ok_is_name (F : FnP K "is_name" (top 15) f fd) (mi : mg "isinstance" = none) (ms : mg "str" = none) (ml : mg "len" = none) (ma : mg "all" = none) : FnOk P w K mg base CX0 1 f fd ["thing"] spIsName := by
  refine F.ok scIsName (fun vs H Q E h => ?_) (fun cdv A outer s H vs Q E hr h => ?_)
  · obtain ⟨x, rfl, _⟩ := h
    rfl
  · obtain ⟨x, rfl, hx, q⟩ := h
    refine ⟨_, PSs.nox (pss_cons (ps_if (pw_or (pt_not (pt_val (pe_callB call_isi (by rfl) mi (by decide +kernel) (pa_cons (pv 0) (pa_cons (pe_bltn (v := .ty "str") (by rfl) ms (by decide +kernel) rfl) pa_nil)))))
        (pw_or1 (pt_not (pt_chain op_lt op_lt pe_int (pe_callB call_len_str (by rfl) ml PySem.boot_len (pa_cons (pv 0) pa_nil)) pe_int)))).pt (pss_one (ps_ret pe_bl)) pss_nil)
      (pss_cons (ps_set (i := 1) scIsName.nd rfl (.inr rfl) pe_str)
      (pss_one (ps_ret (pe_and (pe_cmpR op_in_sign (pe_ix ix_str (pv 0) pe_int (fun _ _ => rfl)) (pv 1) (by rfl)) (pe_one (pe_callB (cr_all rfl) (by rfl) ma (by decide +kernel) (pa_cons (pe_lc (own := [("sign", 2)]) (g := gName 2) (tt := tYes) (te := tOp (fun x y H Q => ∃ (c : Nat) (z : Str), x = .str ⟨#[c]⟩ ∧ y = .str z ∧ Q (.bl (decide (c ∈ z.cps.toList))) H) (tVar 2) (tOp (fun x y H Q => ∃ i j, x = .str i ∧ y = .str j ∧ i.length + j.length ≤ sizeLine ∧ Q (.str (i ++ j)) H) (tVar 1) (tC (.str "0123456789")))) rfl scIsName.nd
        (pi_str (pv 0)) (blkOk_by (N := ["thing", "letters", "sign"]) (sc := defScope (top 15)) (by decide +kernel))
        (fun _ _ _ _ _ => pg_name (i := 2) scIsName.nd rfl (.inl rfl)) (fun _ _ _ _ _ => pts_nil) (fun _ _ _ _ _ => pe_cmpR op_in_sign (pv 2) (pe_op op_add_str (pv 1) pe_str) (by rfl))) pa_nil)))))))), ?_⟩
    have h0 : 0 < x.length ∧ x.length < 13 ∧ (∃ c, x.cps[0]? = some c ∧ c ∈ letters.cps.toList) ∧ ∀ c ∈ x.cps.toList, c ∈ signs.cps.toList := by
      unfold goodName at hx
      rw [Bool.and_eq_true, Bool.and_eq_true, Bool.and_eq_true, decide_eq_true_eq, decide_eq_true_eq, List.all_eq_true] at hx
      obtain ⟨a, b, c, d⟩ := hx
      refine ⟨a, b, ?_, fun z m => of_decide_eq_true (d z m)⟩
      cases e : x.cps.toList with
      | nil =>
        rw [e] at c
        cases c
      | cons y r =>
        rw [e] at c
        refine ⟨y, ?_, of_decide_eq_true c⟩
        rw [← Array.getElem?_toList, e]
        rfl
    obtain ⟨p0, p13, ⟨c0, pc, pm⟩, pall⟩ := h0
    refine ⟨.str x, rfl, _, _, _, _, true, rfl, .ty _, .base (.str x), kit_ty (by decide +kernel), _, rfl, ?_⟩
    have hsz : x.length ≤ sizeLine := sz_of (by omega)
    refine ⟨.str x, rfl, x, rfl, hsz, _, _, rfl, rfl, _, rfl, ?_⟩
    rw [decide_eq_true (show (0 : Int) < (x.length : Int) by omega)]
    refine ⟨_, _, rfl, rfl, _, rfl, ?_⟩
    rw [decide_eq_true (show (x.length : Int) < 13 by omega)]
    refine ⟨.str x, rfl, x, 0, c0, rfl, rfl, hsz, ?_, .str letters, rfl, c0, letters, rfl, rfl, ?_⟩
    · have hl : x.cps.toList.length = x.length := Array.length_toList
      have e0 : ixN x.cps.toList.length 0 = some 0 := ixN_nat (j := 0) (by rw [hl]; exact p0)
      show (ixN x.cps.toList.length 0).bind _ = _
      rw [e0]
      show x.cps.toList[0]? = _
      rw [Array.getElem?_toList]
      exact pc
    refine ⟨_, rfl, ?_⟩
    rw [decide_eq_true pm]
    refine ⟨.str x, rfl, x, rfl, fun D nD => ?_⟩
    refine lc_it walk_str (fun i H' => H' D = some (.lst ((List.replicate i true).map V.bl)) ∧ Ex H H') ⟨upd_same, Ex.new nD⟩ (fun i H2 _ hI => True.intro) (fun i z H2 H3 hi hI hY => ?_) (fun H2 hI => ?_)
    · obtain ⟨g1, g2⟩ := hI
      obtain ⟨rfl, c, hc, rfl⟩ := hY
      refine ⟨rfl, _, rfl, ?_⟩
      refine ⟨_, rfl, letters, "0123456789", rfl, rfl, by decide, c, signs, rfl, rfl, (List.replicate i true).map V.bl, g1, by rw [List.length_map, List.length_replicate]; exact sz_lt (by have : x.cps.size = x.length := rfl; omega), ?_, g2.mut nD⟩
      rw [upd_same, decide_eq_true (pall c (by rw [← Array.getElem?_toList] at hc; exact List.mem_of_getElem? hc)), List.replicate_succ', List.map_append]
      rfl
    · obtain ⟨g1, g2⟩ := hI
      refine ⟨D, List.replicate x.cps.size true, rfl, sq_of g1, ?_⟩
      rw [show (List.replicate x.cps.size true).all id = true by simp]
      exact q _ g2
end
end K07
/-! text D9 -/
set_option Elab.async false
set_option linter.all false
set_option maxRecDepth 100000
set_option maxHeartbeats 4000000
/-! is_one_of, are_keepers, are_some_of, is_lot_of -/
namespace K07
open PySem PySem.Spec PyProof.Rows L2 Evl PySem.W Dw Dw.DV RZ Lot
section
variable {α β : Type} [DecidableEq α] [Datum α] [DV α] [DecidableEq β] [Datum β] [DV β] {σ : L2.St} {A : Hp} {te : TE} {E : XK} {K : PySem.W.Frag}
theorem ev_isList {xs : List α} (h : EvD te σ A xs) : Ev (tCall spIsList [] E (tCons te tNil)) σ A (.bl true) := fun H1 e Q q => h.go e fun v H2 e2 r => by
  obtain ⟨a, vs, rfl, h1, _⟩ := r
  exact ⟨a, vs, rfl, .inl h1, fun H' e3 => q H' (e2.trans e3)⟩
theorem ev_isListP {p : α × β} (h : EvD te σ A p) : Ev (tCall spIsList [] E (tCons te tNil)) σ A (.bl true) := fun H1 e Q q => h.go e fun v H2 e2 r => by
  obtain ⟨a, v1, v2, rfl, h1, _⟩ := r
  exact ⟨a, _, rfl, .inr h1, fun H' e3 => q H' (e2.trans e3)⟩
theorem ev_lenP {p : α × β} (h : EvD te σ A p) : Ev (tCB (rLenS K) (tCons te tNil)) σ A (.int 2) := fun H1 e Q q => h.go e fun v H2 e2 r => by
  obtain ⟨a, v1, v2, rfl, h1, _⟩ := r
  exact ⟨a, _, rfl, .inr (st_of h1), q H2 e2⟩
theorem ev_istS {i : Nat} {x : Str} (h : EvD (tVar i) σ A x) : Ev (tIsT K i "str") σ A (.bl true) := fun H1 e Q q => h.go e fun v H2 e2 r => by
  have r' : v = .str x := r
  subst r'
  exact ⟨_, _, _, _, true, rfl, .ty _, .base (.str x), kit_ty (by decide +kernel), q H2 e2⟩
theorem ev_isName {x : Str} (h : EvD te σ A x) (g : goodName x = true) : Ev (tCall spIsName [] E (tCons te tNil)) σ A (.bl true) := fun H1 e Q q => h.go e fun v H2 e2 r => by
  have r' : v = .str x := r
  subst r'
  exact ⟨x, rfl, g, fun H' e3 => q H' (e2.trans e3)⟩
theorem allTrue {γ : Type} {l : List γ} {f : γ → Bool} (h : ∀ x ∈ l, f x = true) : (l.map f).all id = true := by
  rw [List.all_map, List.all_eq_true]
  exact h
end
section
variable {P : Program} {w : World} {K : PySem.W.Frag} {mg : Str → Option Value} {base : Heap} {f : Addr} {fd : FuncData}
theorem uT {k : Nat} {A : Around} (hr : Room k A) : A.units + Datum.depth Str < cLine := by
  have h := hr.un
  show A.units + 0 < cLine
  omega
theorem uTL {k : Nat} {A : Around} (hr : Room k A) : A.units + Datum.depth (List Str) < cLine := by
  have h := hr.un
  show A.units + 1 < cLine
  omega
theorem uSL {k : Nat} {A : Around} (hr : Room k A) : A.units + 1 + Datum.depth (List Str) < cLine := by
  have h := hr.un
  show A.units + 1 + 1 < cLine
  omega
theorem b1 {x : Str} {st : Stmt} {p : Str} (F : FnP K x st f fd) (h : ∀ (kV doc pm : Value) (an : Option Addr) (cdv ct : Value) (u : Value), bindArgs (PySem.W.fnOf x x (defArgs st) (defBody st) (defScope st) .none kV doc pm an cdv ct) ⟨[u], []⟩ = pure ([p].zip [u])) : Binds K fd [p] [] := F.bindsN fun a b c d e g us hl => match us, hl with | [u], _ => h a b c d e g u
theorem scOne : FnScope ["known", "thing"] ["known", "thing"] (defScope (top 16)) := ⟨rfl, rfl, rfl, by decide +kernel, rfl, by decide +kernel, by decide +kernel⟩
abbrev spOne : Sp := sp2 (fun (_ : List Str) (_ : Str) => True) (fun known thing => decide (thing ∈ known))
theorem ok_one (F : FnP K "is_one_of" (top 16) f fd) (B : Bn mg) : FnOk P w K mg base CX0 1 f fd ["known", "thing"] spOne := by
  refine F.ok scOne (fun vs H Q E h => ?_) (fun cdv A outer s H vs Q E hr h => ?_)
  · obtain ⟨v, u, _, _, _, rfl, _⟩ := h
    rfl
  · obtain ⟨v, u, known, thing, A0, rfl, eA, hv, hu, _, q⟩ := h
    refine ⟨_, PSs.nox (pss_one (ps_ret (pe_and (pe_ist K "str" 1 B.isinstance B.str) (pe_one (pe_cmpR (op_inW (α := Str) (uS hr)) (pv 1) (pv 0) (by rfl)))))), ?_⟩
    have e1 : EvD (tVar 1) [some v, some u] A0 thing := ed_var rfl hu
    have e2 := ev_andV (ev_istS (K := K) e1) fun _ => ev_inD e1 (ed_var (i := 0) (v := v) rfl hv)
    rw [Bool.true_and] at e2
    exact s_retD (ed_bl e2) eA q
abbrev NKeep : List Str := ["thing", "keeper", "one", "other"]
theorem scKeep : FnScope NKeep ["thing"] (defScope (top 18)) := ⟨rfl, rfl, rfl, by decide +kernel, rfl, by decide +kernel, by decide +kernel⟩
abbrev spKeep : Sp := sp1 (GoodK goodName) (fun _ => true)
theorem ok_keep {fN fL : Addr} {fdN fdL : FuncData} (F : FnP K "are_keepers" (top 18) f fd) (B : Bn mg) (FN : FnP K "is_name" (top 15) fN fdN) (gN : mg "is_name" = some (.ref fN)) (FL : FnP K "is_list" (top 14) fL fdL) (gL : mg "is_list" = some (.ref fL)) : FnOk P w K mg base CX0 2 f fd ["thing"] spKeep := by
  have GN : FnOk P w K mg base CX0 1 fN fdN ["thing"] spIsName := ok_is_name FN B.isinstance B.str B.len B.all
  have GL : FnOk P w K mg base CX0 1 fL fdL ["thing"] spIsList := ok_is_list FL B.isinstance B.list B.tuple
  have bN : Binds K fdN ["thing"] [] := FN.bindsN fun _ _ _ _ _ _ us hl => match us, hl with | [_], _ => rfl
  have bL : Binds K fdL ["thing"] [] := FL.bindsN fun _ _ _ _ _ _ us hl => match us, hl with | [_], _ => rfl
  refine F.ok scKeep (fun vs H Q E h => ?_) (fun cdv A outer s H vs Q E hr h => ?_)
  · obtain ⟨v, _, _, rfl, _⟩ := h
    rfl
  · obtain ⟨v, ks, A0, rfl, eA, hv, hk, q⟩ := h
    refine ⟨_, PSs.nox (pss_cons (ps_if (pw_or (pt_not (pt_val (pe_call GL hr (by rfl) gL FL.kp bL .nil pass0 (pa_cons (pv 0) pa_nil))))
        (pw_or (pt_cmpR op_eq (pe_callB call_len_seq (by rfl) B.len PySem.boot_len (pa_cons (pv 0) pa_nil)) pe_int (nomark _))
        (pw_or1 (pt_not (pt_val (pe_callB (cr_all rfl) (by rfl) B.all (by decide +kernel) (pa_cons (pe_lc (own := [("keeper", 1)]) (g := gName 1) (tt := tYes) (te := tCall spIsName [] E0 (tCons (tVar 1) tNil)) rfl scKeep.nd (pi_list (pv 0)) (blkOk_by (N := NKeep) (sc := defScope (top 18)) (by decide +kernel))
          (fun _ _ _ _ _ => pg_name (i := 1) scKeep.nd rfl (.inl rfl)) (fun _ _ _ _ _ => pts_nil) (fun _ _ _ _ _ => pe_call GN hr (by rfl) gN FN.kp bN .nil pass0 (pa_cons (pv 1) pa_nil))) pa_nil))))))).pt (pss_one (ps_ret pe_bl)) pss_nil)
      (pss_one (ps_ret (pe_callB (cr_all rfl) (by rfl) B.all (by decide +kernel) (pa_cons (pe_lc (own := [("one", 2), ("other", 3)]) (g := gTup K 2 (gCons (gName 2) (gCons (gName 3) gNil))) (tt := tYes) (te := tOp (rLtW Str) (tVar 2) (tVar 3)) rfl scKeep.nd
        (pi_zipA (by rfl) B.zip (pa_cons (pv 0) (pa_cons (pe_slice sl_list (pv 0) (po_some pe_int) po_none) pa_nil))) (blkOk_by (N := NKeep) (sc := defScope (top 18)) (by decide +kernel))
        (fun _ _ _ _ _ => pg_tup rfl (pgs_cons (pg_name (i := 2) scKeep.nd rfl (.inl rfl)) (pgs_cons (pg_name (i := 3) scKeep.nd rfl (.inl rfl)) pgs_nil))) (fun _ _ _ _ _ => pts_nil)
        (fun _ _ _ _ _ => pe_cmpR (op_ltW (α := Str) (uT hr)) (pv 2) (pv 3) (by rfl))) pa_nil))))), ?_⟩
    have e0 : EvD (tVar 0) [some v, none, none, none] A0 ks := ed_var rfl hv
    have lk := hk.len
    have t1 : EvT _ [some v, none, none, none] A0 false := et_is (et_not (et_B (ev_isList (E := E0) e0))) rfl
    have t2 : EvT (tTest (tOp rEq (tCB (rLenS K) (tCons (tVar 0) tNil)) (tC (.int 0)))) [some v, none, none, none] A0 false := et_is (et_test (ev_op (ev_lenD e0) ev_c (rv_eq rfl))) (decide_eq_false fun z => by
      have : ks.length = 0 := by
        have := V.int.inj z
        omega
      exact hk.ne (List.eq_nil_of_length_eq_zero this))
    have nm := ev_allD (K := K) (ed_lc (K := K) (σ := [some v, none, none, none]) (H := A0) (tl := tVar 0) (tt := tYes) (te := tCall spIsName [] E0 (tCons (tVar 1) tNil)) (j := 1) (vs := [1]) (fun _ : Str => true) (fun _ : Str => true) e0 (by omega) (fun _ => rfl) (fun _ _ H1 _ _ _ => et_yes) fun x y H1 _ m r _ => ed_bl (ev_isName (ed_var rfl r) (hk.all x m)))
    rw [allTrue fun _ _ => rfl] at nm
    have t3 := et_not (et_B nm)
    refine b_skip (Bs.start eA) (et_or t1 fun _ => et_or t2 fun _ => t3) rfl fun H1 B1 => ?_
    have z0 := ed_zip (K := K) (tt := tYes) (te := tOp (rLtW Str) (tVar 2) (tVar 3)) (i := 2) (j := 3) (vs := [2, 3]) (σ := [some v, none, none, none]) (fun x y : Str => sl x y) e0 (ed_sl (K := K) e0 (eo_some (te := tC (.int 1)) ev_c) eo_none) (by omega) (fun _ _ => rfl) (fun _ _ _ _ => et_yes) fun k x y v u H1 _ _ _ r1 r2 => ed_bl (ev_ltD (ed_var rfl r1) (ed_var rfl r2))
    have z1 := ev_allD (K := K) z0
    rw [cut_tail, asc_zip hk.asc] at z1
    exact b_ret B1 (ed_bl z1) q
end
end K07
/-! text D10 -/
set_option Elab.async false
set_option linter.all false
set_option maxRecDepth 100000
set_option maxHeartbeats 4000000
/-! are_some_of, is_lot_of, holds on, is_family, checked_family -/
namespace K07
open PySem PySem.Spec PyProof.Rows L2 Evl PySem.W Dw Dw.DV RZ Lot
section
variable {P : Program} {w : World} {K : PySem.W.Frag} {mg : Str → Option Value} {base : Heap} {f : Addr} {fd : FuncData}
abbrev NSome : List Str := ["keepers", "thing", "one", "other"]
theorem scSome : FnScope NSome ["keepers", "thing"] (defScope (top 19)) := ⟨rfl, rfl, rfl, by decide +kernel, rfl, by decide +kernel, by decide +kernel⟩
abbrev spSome : Sp := sp2 (fun (ks l : List Str) => Asc sl l ∧ l ⊆ ks ∧ l.length ≤ 100) (fun _ _ => true)
theorem ok_some {fL : Addr} {fdL : FuncData} (F : FnP K "are_some_of" (top 19) f fd) (B : Bn mg) (FL : FnP K "is_list" (top 14) fL fdL) (gL : mg "is_list" = some (.ref fL)) : FnOk P w K mg base CX0 2 f fd ["keepers", "thing"] spSome := by
  have GL : FnOk P w K mg base CX0 1 fL fdL ["thing"] spIsList := ok_is_list FL B.isinstance B.list B.tuple
  have bL : Binds K fdL ["thing"] [] := FL.bindsN fun _ _ _ _ _ _ us hl => match us, hl with | [_], _ => rfl
  refine F.ok scSome (fun vs H Q E h => ?_) (fun cdv A outer s H vs Q E hr h => ?_)
  · obtain ⟨v, u, _, _, _, rfl, _⟩ := h
    rfl
  · obtain ⟨v, u, ks, l, A0, rfl, eA, hv, hu, ⟨ha, hs, hl⟩, q⟩ := h
    refine ⟨_, PSs.nox (pss_cons (ps_if (pw_or (pt_not (pt_val (pe_call GL hr (by rfl) gL FL.kp bL .nil pass0 (pa_cons (pv 1) pa_nil))))
        (pw_or1 (pt_not (pt_val (pe_callB (cr_all rfl) (by rfl) B.all (by decide +kernel) (pa_cons (pe_lc (own := [("one", 2)]) (g := gName 2) (tt := tYes) (te := tAndV (tIsT K 2 "str") (tOp (rInW Str false) (tVar 2) (tVar 0))) rfl scSome.nd (pi_list (pv 1)) (blkOk_by (N := NSome) (sc := defScope (top 19)) (by decide +kernel))
          (fun _ _ _ _ _ => pg_name (i := 2) scSome.nd rfl (.inl rfl)) (fun _ _ _ _ _ => pts_nil) (fun _ _ _ _ _ => pe_and (pe_ist K "str" 2 B.isinstance B.str) (pe_one (pe_cmpR (op_inW (α := Str) (uS hr)) (pv 2) (pv 0) (by rfl))))) pa_nil)))))).pt (pss_one (ps_ret pe_bl)) pss_nil)
      (pss_one (ps_ret (pe_callB (cr_all rfl) (by rfl) B.all (by decide +kernel) (pa_cons (pe_lc (own := [("one", 2), ("other", 3)]) (g := gTup K 2 (gCons (gName 2) (gCons (gName 3) gNil))) (tt := tYes) (te := tOp (rLtW Str) (tVar 2) (tVar 3)) rfl scSome.nd
        (pi_zipA (by rfl) B.zip (pa_cons (pv 1) (pa_cons (pe_slice sl_list (pv 1) (po_some pe_int) po_none) pa_nil))) (blkOk_by (N := NSome) (sc := defScope (top 19)) (by decide +kernel))
        (fun _ _ _ _ _ => pg_tup rfl (pgs_cons (pg_name (i := 2) scSome.nd rfl (.inl rfl)) (pgs_cons (pg_name (i := 3) scSome.nd rfl (.inl rfl)) pgs_nil))) (fun _ _ _ _ _ => pts_nil)
        (fun _ _ _ _ _ => pe_cmpR (op_ltW (α := Str) (uT hr)) (pv 2) (pv 3) (by rfl))) pa_nil))))), ?_⟩
    have e0 : EvD (tVar 1) [some v, some u, none, none] A0 l := ed_var rfl hu
    have k0 : EvD (tVar 0) [some v, some u, none, none] A0 ks := ed_var rfl hv
    have t1 : EvT _ [some v, some u, none, none] A0 false := et_is (et_not (et_B (ev_isList (E := E0) e0))) rfl
    have nm := ev_allD (K := K) (ed_lc (K := K) (σ := [some v, some u, none, none]) (H := A0) (tl := tVar 1) (tt := tYes) (te := tAndV (tIsT K 2 "str") (tOp (rInW Str false) (tVar 2) (tVar 0))) (j := 2) (vs := [2]) (fun _ : Str => true) (fun _ : Str => true) e0 (by omega) (fun _ => rfl) (fun _ _ H1 _ _ _ => et_yes) fun x y H1 e m r _ => by
      have e2 := ev_andV (ev_istS (K := K) (ed_var (σ := [some v, some u, some y, none]) (i := 2) rfl r)) fun _ => ev_inD (ed_var (σ := [some v, some u, some y, none]) (i := 2) rfl r) (ed_var (i := 0) (v := v) rfl (DV.ext e hv))
      rw [decide_eq_true (hs m)] at e2
      exact ed_bl e2)
    rw [allTrue fun _ _ => rfl] at nm
    refine b_skip (Bs.start eA) (et_or t1 fun _ => et_not (et_B nm)) rfl fun H1 B1 => ?_
    have z0 := ed_zip (K := K) (tt := tYes) (te := tOp (rLtW Str) (tVar 2) (tVar 3)) (i := 2) (j := 3) (vs := [2, 3]) (σ := [some v, some u, none, none]) (fun x y : Str => sl x y) e0 (ed_sl (K := K) e0 (eo_some (te := tC (.int 1)) ev_c) eo_none) (by omega) (fun _ _ => rfl) (fun _ _ _ _ => et_yes) fun k x y v u H1 _ _ _ r1 r2 => ed_bl (ev_ltD (ed_var rfl r1) (ed_var rfl r2))
    have z1 := ev_allD (K := K) z0
    rw [cut_tail, asc_zip ha] at z1
    exact b_ret B1 (ed_bl z1) q
theorem scLot : FnScope ["keepers", "thing"] ["keepers", "thing"] (defScope (top 20)) := ⟨rfl, rfl, rfl, by decide +kernel, rfl, by decide +kernel, by decide +kernel⟩
abbrev spLot : Sp := sp2 (fun (ks l : List Str) => GoodL ks l ∧ l.length ≤ 100) (fun _ _ => true)
theorem ok_lot {fL fS : Addr} {fdL fdS : FuncData} (F : FnP K "is_lot_of" (top 20) f fd) (B : Bn mg) (FL : FnP K "is_list" (top 14) fL fdL) (gL : mg "is_list" = some (.ref fL)) (FS : FnP K "are_some_of" (top 19) fS fdS) (gS : mg "are_some_of" = some (.ref fS)) : FnOk P w K mg base CX0 3 f fd ["keepers", "thing"] spLot := by
  have GS : FnOk P w K mg base CX0 2 fS fdS ["keepers", "thing"] spSome := ok_some FS B FL gL
  have bS : Binds K fdS ["keepers", "thing"] [] := FS.bindsN fun _ _ _ _ _ _ us hl => match us, hl with | [_, _], _ => rfl
  refine F.ok scLot (fun vs H Q E h => ?_) (fun cdv A outer s H vs Q E hr h => ?_)
  · obtain ⟨v, u, _, _, _, rfl, _⟩ := h
    rfl
  · obtain ⟨v, u, ks, l, A0, rfl, eA, hv, hu, ⟨hg, hl⟩, q⟩ := h
    refine ⟨_, PSs.nox (pss_one (ps_ret (pe_and (pe_call GS hr (by rfl) gS FS.kp bS .nil pass0 (pa_cons (pv 0) (pa_cons (pv 1) pa_nil))) (pe_one (pe_cmpR op_gt (pe_callB call_len_seq (by rfl) B.len PySem.boot_len (pa_cons (pv 1) pa_nil)) pe_int (nomark _)))))), ?_⟩
    have e0 : EvD (tVar 1) [some v, some u] A0 l := ed_var rfl hu
    have c := ev_of (ed_call2 (E := E0) (P := fun (ks l : List Str) => Asc sl l ∧ l ⊆ ks ∧ l.length ≤ 100) (f := fun _ _ => true) (ed_var (i := 0) (σ := [some v, some u]) (H := A0) rfl hv) e0 ⟨hg.asc, hg.sub, hl⟩)
    have pos : 0 < l.length := List.length_pos_iff.mpr hg.ne
    have e2 := ev_andV c fun _ => ev_op (ev_lenD (K := K) e0) ev_c (rv_I0 (g := fun i j => .bl (decide (j < i))) (i := (l.length : Int)) (j := 0))
    rw [decide_eq_true (show (0 : Int) < (l.length : Int) by omega)] at e2
    exact b_ret (Bs.start eA) (ed_bl e2) q
end
end K07
/-! text D11 -/
set_option Elab.async false
set_option linter.all false
set_option maxRecDepth 100000
set_option maxHeartbeats 4000000
/-! is_family, checked_family -/
namespace K07
open PySem PySem.Spec PyProof.Rows L2 Evl PySem.W Dw Dw.DV RZ Lot
/-- a def of the text, where it stands, what its name stands for -/
structure Df (K : PySem.W.Frag) (mg : Str → Option Value) (x : Str) (i : Nat) (f : Addr) (fd : FuncData) : Prop where
  F : FnP K x (top i) f fd
  g : mg x = some (.ref f)
section
variable {P : Program} {w : World} {K : PySem.W.Frag} {mg : Str → Option Value} {base : Heap} {f : Addr} {fd : FuncData}
abbrev NFam : List Str := ["thing", "lot", "lots", "one", "other"]
theorem scFam : FnScope NFam ["thing"] (defScope (top 22)) := ⟨rfl, rfl, rfl, by decide +kernel, rfl, by decide +kernel, by decide +kernel⟩
abbrev spHolds : Sp := sp2 (fun (_ other : List Str) => other.length ≤ 1000) holdsP
abbrev scFamI : Scope := { kind := .function, names := [(".0", .local), ("one", .cell), ("any", .globalImplicit), ("lots", .cell)], isGenerator := false, isCoroutine := false }
abbrev spFam : Sp := sp1 (GoodF goodName) (fun _ => true)
theorem ok_fam {fN fL fK fS fO fH : Addr} {fdN fdL fdK fdS fdO fdH : FuncData} (F : FnP K "is_family" (top 22) f fd) (B : Bn mg) (N : Df K mg "is_name" 15 fN fdN) (L : Df K mg "is_list" 14 fL fdL) (KP : Df K mg "are_keepers" 18 fK fdK)
    (S : Df K mg "are_some_of" 19 fS fdS) (O : Df K mg "is_lot_of" 20 fO fdO) (HO : Df K mg "holds" 21 fH fdH) : FnOk P w K mg base CX0 4 f fd ["thing"] spFam := by
  have GL : FnOk P w K mg base CX0 1 fL fdL ["thing"] spIsList := ok_is_list L.F B.isinstance B.list B.tuple
  have bL : Binds K fdL ["thing"] [] := L.F.bindsN fun _ _ _ _ _ _ us hl => match us, hl with | [_], _ => rfl
  have GK : FnOk P w K mg base CX0 2 fK fdK ["thing"] spKeep := ok_keep KP.F B N.F N.g L.F L.g
  have bK : Binds K fdK ["thing"] [] := KP.F.bindsN fun _ _ _ _ _ _ us hl => match us, hl with | [_], _ => rfl
  have GO : FnOk P w K mg base CX0 3 fO fdO ["keepers", "thing"] spLot := ok_lot O.F B L.F L.g S.F S.g
  have bO : Binds K fdO ["keepers", "thing"] [] := O.F.bindsN fun _ _ _ _ _ _ us hl => match us, hl with | [_, _], _ => rfl
  have GH : FnOk P w K mg base CX0 1 fH fdH ["lot", "other"] spHolds := ok_holds HO.F B.all
  have bH : Binds K fdH ["lot", "other"] [] := HO.F.bindsN fun _ _ _ _ _ _ us hl => match us, hl with | [_, _], _ => rfl
  refine F.ok scFam (fun vs H Q E h => ?_) (fun cdv A outer s H vs Q E hr h => ?_)
  · obtain ⟨v, _, _, rfl, _⟩ := h
    rfl
  · obtain ⟨v, F, A0, rfl, eA, hv, hF, q⟩ := h
    refine ⟨_, PSs.nox (pss_cons (ps_if (pw_or (pt_not (pt_val (pe_call GL (hr.mono (by decide)) (by rfl) L.g L.F.kp bL .nil pass0 (pa_cons (pv 0) pa_nil))))
        (pw_or (pt_cmpR op_ne (pe_callB call_len_seq (by rfl) B.len PySem.boot_len (pa_cons (pv 0) pa_nil)) pe_int (nomark _))
        (pw_or1 (pt_not (pt_val (pe_call GK (hr.mono (by decide)) (by rfl) KP.g KP.F.kp bK .nil pass0 (pa_cons (pe_ix ix_tup (pv 0) pe_int (fun _ _ => rfl)) pa_nil))))))).pt (pss_one (ps_ret pe_bl)) pss_nil)
      (pss_cons (ps_if (pw_or (pt_not (pt_val (pe_call GL (hr.mono (by decide)) (by rfl) L.g L.F.kp bL .nil pass0 (pa_cons (pe_ix ix_tup (pv 0) pe_int (fun _ _ => rfl)) pa_nil))))
        (pw_or (pt_cmpR op_eq (pe_callB call_len_seq (by rfl) B.len PySem.boot_len (pa_cons (pe_ix ix_tup (pv 0) pe_int (fun _ _ => rfl)) pa_nil)) pe_int (nomark _))
        (pw_or1 (pt_not (pt_val (pe_callB (cr_all rfl) (by rfl) B.all (by decide +kernel) (pa_cons (pe_lc (own := [("lot", 1)]) (g := gName 1) (tt := tYes) (te := tCall spLot [] E0 (tCons (tOp (rIxT K) (tVar 0) (tC (.int 0))) (tCons (tVar 1) tNil))) rfl scFam.nd (pi_list (pe_ix ix_tup (pv 0) pe_int (fun _ _ => rfl))) (blkOk_by (N := NFam) (sc := defScope (top 22)) (by decide +kernel))
          (fun _ _ _ _ _ => pg_name (i := 1) scFam.nd rfl (.inl rfl)) (fun _ _ _ _ _ => pts_nil) (fun _ _ _ _ _ => pe_call GO hr (by rfl) O.g O.F.kp bO .nil pass0 (pa_cons (pe_ix ix_tup (pv 0) pe_int (fun _ _ => rfl)) (pa_cons (pv 1) pa_nil)))) pa_nil))))))).pt (pss_one (ps_ret pe_bl)) pss_nil)
      (pss_cons (ps_set (i := 2) scFam.nd rfl (.inr rfl) (pe_lc (own := [("lot", 1)]) (g := gName 1) (tt := tYes) (te := tCB (rListS K) (tCons (tVar 1) tNil)) rfl scFam.nd (pi_list (pe_ix ix_tup (pv 0) pe_int (fun _ _ => rfl))) (blkOk_by (N := NFam) (sc := defScope (top 22)) (by decide +kernel))
          (fun _ _ _ _ _ => pg_name (i := 1) scFam.nd rfl (.inl rfl)) (fun _ _ _ _ _ => pts_nil) (fun _ _ _ _ _ => pe_callTy call_list_of (by rfl) B.list (by decide +kernel) (pa_cons (pv 1) pa_nil))))
      (pss_cons (ps_if (pt_not (pt_val (pe_callB (cr_all rfl) (by rfl) B.all (by decide +kernel) (pa_cons (pe_lc (own := [("one", 3), ("other", 4)]) (g := gTup K 2 (gCons (gName 3) (gCons (gName 4) gNil))) (tt := tYes) (te := tOp (rLtW (List Str)) (tVar 3) (tVar 4)) rfl scFam.nd
        (pi_zipA (by rfl) B.zip (pa_cons (pv 2) (pa_cons (pe_slice sl_list (pv 2) (po_some pe_int) po_none) pa_nil))) (blkOk_by (N := NFam) (sc := defScope (top 22)) (by decide +kernel))
        (fun _ _ _ _ _ => pg_tup rfl (pgs_cons (pg_name (i := 3) scFam.nd rfl (.inl rfl)) (pgs_cons (pg_name (i := 4) scFam.nd rfl (.inl rfl)) pgs_nil))) (fun _ _ _ _ _ => pts_nil)
        (fun _ _ _ _ _ => pe_cmpR (op_ltW (α := List Str) (uTL hr)) (pv 3) (pv 4) (by rfl))) pa_nil)))) (pss_one (ps_ret pe_bl)) pss_nil)
      (pss_one (ps_ret (pe_not (pe_callB (cr_any rfl) (by rfl) B.any (by decide +kernel) (pa_cons (pe_lc (own := [("one", 3)]) (g := gName 3) (tt := tYes) (te := tCB (rAny K) (tCons (tLc (iList K (tVar 2)) (gName 4) tYes (tAndV (tOp (rEqW (List Str) true) (tVar 3) (tVar 4)) (tCall spHolds [] E0 (tCons (tVar 3) (tCons (tVar 4) tNil)))) [4]) tNil)) rfl scFam.nd (pi_list (pv 2)) (blkOk_by (N := NFam) (sc := defScope (top 22)) (by decide +kernel))
          (fun _ _ _ _ _ => pg_name (i := 3) scFam.nd rfl (.inr rfl)) (fun _ _ _ _ _ => pts_nil)
          (fun _ _ _ _ _ => pe_callB (cr_any rfl) (by rfl) B.any (by decide +kernel) (pa_cons (pe_lc (own := [("other", 4)]) (g := gName 4) (tt := tYes) rfl scFam.nd (pi_list (pv 2)) (blkOk_by (N := NFam) (sc := scFamI) (by decide +kernel))
            (fun _ _ _ _ _ => pg_name (i := 4) scFam.nd rfl (.inl rfl)) (fun _ _ _ _ _ => pts_nil)
            (fun _ _ _ _ _ => pe_and (pe_cmpR (op_neW (α := List Str) (uTL hr)) (pv 3) (pv 4) (by rfl)) (pe_one (pe_call GH (hr.mono (by decide)) (by rfl) HO.g HO.F.kp bH .nil pass0 (pa_cons (pv 3) (pa_cons (pv 4) pa_nil)))))) pa_nil))) pa_nil))))))))), ?_⟩
    have e0 : EvD (tVar 0) [some v, none, none, none, none] A0 F := ed_var rfl hv
    have l2 := hF.len2
    have t1 : EvT _ [some v, none, none, none, none] A0 false := et_is (et_not (et_B (ev_isListP (E := E0) e0))) rfl
    have t2 : EvT (tTest (tOp rNe (tCB (rLenS K) (tCons (tVar 0) tNil)) (tC (.int 2)))) [some v, none, none, none, none] A0 false := et_is (et_test (ev_op (ev_lenP e0) ev_c (rv_ne rfl))) rfl
    have t3 := et_not (et_B (ev_of (ed_call1 (E := E0) (P := GoodK goodName) (f := fun _ => true) (ed_fst (K := K) e0) hF.ks)))
    refine b_skip (Bs.start eA) (et_or t1 fun _ => et_or t2 fun _ => t3) rfl fun H1 B1 => ?_
    have s1 := ed_snd (K := K) e0
    have u1 : EvT _ [some v, none, none, none, none] A0 false := et_is (et_not (et_B (ev_isList (E := E0) s1))) rfl
    have u2 : EvT (tTest (tOp rEq (tCB (rLenS K) (tCons (tOp (rIxT K) (tVar 0) (tC (.int 1))) tNil)) (tC (.int 0)))) [some v, none, none, none, none] A0 false := et_is (et_test (ev_op (ev_lenD s1) ev_c (rv_eq rfl))) (decide_eq_false fun z => by
      have : F.2.length = 0 := by
        have := V.int.inj z
        omega
      exact hF.ne (List.eq_nil_of_length_eq_zero this))
    have nm := ev_allD (K := K) (ed_lc (K := K) (σ := [some v, none, none, none, none]) (H := A0) (tt := tYes) (te := tCall spLot [] E0 (tCons (tOp (rIxT K) (tVar 0) (tC (.int 0))) (tCons (tVar 1) tNil))) (j := 1) (vs := [1]) (fun _ : List Str => true) (fun _ : List Str => true) s1 (by have := hF.len; omega) (fun _ => rfl) (fun _ _ H1 _ _ _ => et_yes) fun x y H1 e m r _ =>
      ed_call2 (ed_fst (K := K) (ed_var (i := 0) (v := v) rfl (DV.ext e hv))) (ed_var (i := 1) (v := y) rfl r) ⟨hF.lots x m, l2 x m⟩)
    rw [allTrue fun _ _ => rfl] at nm
    refine b_skip B1 (et_or u1 fun _ => et_or u2 fun _ => et_not (et_B nm)) rfl fun H2 B2 => ?_
    have ll := ed_lc (K := K) (σ := [some v, none, none, none, none]) (H := A0) (tt := tYes) (te := tCB (rListS K) (tCons (tVar 1) tNil)) (j := 1) (vs := [1]) (fun _ : List Str => true) (fun x : List Str => x) s1 (by have := hF.len; omega) (fun _ => rfl) (fun _ _ H1 _ _ _ => et_yes) fun x y H1 e m r _ => ed_list (ed_var (i := 1) (v := y) rfl r)
    rw [List.filter_eq_self.mpr (fun _ _ => rfl), List.map_id'] at ll
    refine b_asg B2 ll fun v2 A2 H3 B3 eA2 r2 => ?_
    have e2 : EvD (tVar 2) [some v, none, some v2, none, none] A2 F.2 := ed_var rfl r2
    have z0 := ed_zip (K := K) (tt := tYes) (te := tOp (rLtW (List Str)) (tVar 3) (tVar 4)) (i := 3) (j := 4) (vs := [3, 4]) (σ := [some v, none, some v2, none, none]) (fun x y : List Str => (DatumOrd.lt x y : Bool)) e2 (ed_sl (K := K) e2 (eo_some (te := tC (.int 1)) ev_c) eo_none) (by have := hF.len; omega) (fun _ _ => rfl) (fun _ _ _ _ => et_yes) fun k x y v u H1 _ _ _ r1 r2 => ed_bl (ev_ltD (ed_var rfl r1) (ed_var rfl r2))
    have z1 := ev_allD (K := K) z0
    rw [cut_tail, asc_zip (ll_asc.mpr hF.asc)] at z1
    refine b_skip B3 (et_not (et_B z1)) rfl fun H4 B4 => ?_
    have inner : ∀ (x : List Str) (y : V) H1, Ex A2 H1 → x ∈ F.2 → rep H1 y x → (fun _ : List Str => true) x = true → EvD (tCB (rAny K) (tCons (tLc (iList K (tVar 2)) (gName 4) tYes (tAndV (tOp (rEqW (List Str) true) (tVar 3) (tVar 4)) (tCall spHolds [] E0 (tCons (tVar 3) (tCons (tVar 4) tNil)))) [4]) tNil)) [some v, none, some v2, some y, none] H1 (F.2.any fun o => decide (x ≠ o) && holdsP x o) := fun x y H1 e m r _ => by
      have lc := ed_lc (K := K) (σ := [some v, none, some v2, some y, none]) (H := H1) (tl := tVar 2) (tt := tYes) (te := tAndV (tOp (rEqW (List Str) true) (tVar 3) (tVar 4)) (tCall spHolds [] E0 (tCons (tVar 3) (tCons (tVar 4) tNil)))) (j := 4) (vs := [4]) (fun _ : List Str => true) (fun o : List Str => decide (x ≠ o) && holdsP x o) (ed_var (v := v2) rfl (DV.ext e r2)) (by have := hF.len; omega) (fun _ => rfl) (fun _ _ H1 _ _ _ => et_yes) fun o z H5 e5 mo ro _ => ed_bl (ev_andV (ev_neD (ed_var (i := 3) (v := y) rfl (DV.ext e5 r)) (ed_var (i := 4) (v := z) rfl ro)) fun _ => ev_of (ed_call2 (ed_var (i := 3) (v := y) rfl (DV.ext e5 r)) (ed_var (i := 4) (v := z) rfl ro) (by have := l2 o mo; omega)))
      have an := ev_anyD (K := K) lc
      rw [List.filter_eq_self.mpr (fun _ _ => rfl), List.any_map] at an
      exact ed_bl an
    have lc := ed_lc (K := K) (σ := [some v, none, some v2, none, none]) (H := A2) (tl := tVar 2) (tt := tYes) (j := 3) (vs := [3]) (fun _ : List Str => true) (fun x : List Str => F.2.any fun o => decide (x ≠ o) && holdsP x o) e2 (by have := hF.len; omega) (fun _ => rfl) (fun _ _ H1 _ _ _ => et_yes) inner
    have an := ev_anyD (K := K) lc
    have no : ((F.2.filter fun _ => true).map fun x : List Str => F.2.any fun o => decide (x ≠ o) && holdsP x o).any id = false := by
      rw [List.any_eq_false]
      intro b hb
      obtain ⟨x, hx, rfl⟩ := List.mem_map.mp hb
      have hx := (List.mem_filter.mp hx).1
      show ¬ (F.2.any fun o => decide (x ≠ o) && holdsP x o) = true
      rw [List.any_eq_true]
      rintro ⟨o, ho, z⟩
      rw [Bool.and_eq_true] at z
      have z1 := of_decide_eq_true z.1
      have z2 := List.all_eq_true.mp z.2
      exact z1 (hF.anti o ho x hx fun k m => of_decide_eq_true (z2 k m)).symm
    rw [no] at an
    exact b_ret B4 (ed_bl (ev_notV an)) q
end
end K07
/-! text D12 -/
set_option Elab.async false
set_option linter.all false
set_option maxRecDepth 100000
set_option maxHeartbeats 4000000
/-! checked_family, known_keeper, less_keeper -/
namespace K07
open PySem PySem.Spec PyProof.Rows L2 Evl PySem.W Dw Dw.DV RZ Lot
/-- the defs about keepers and families -/
structure Fs (K : PySem.W.Frag) (mg : Str → Option Value) (fL fN f1 fK fS fO fH fF fT : Addr) (dL dN d1 dK dS dO dH dF dT : FuncData) : Prop where
  L : Df K mg "is_list" 14 fL dL
  N : Df K mg "is_name" 15 fN dN
  one : Df K mg "is_one_of" 16 f1 d1
  KP : Df K mg "are_keepers" 18 fK dK
  S : Df K mg "are_some_of" 19 fS dS
  O : Df K mg "is_lot_of" 20 fO dO
  HO : Df K mg "holds" 21 fH dH
  F : Df K mg "is_family" 22 fF dF
  T : Df K mg "told_family" 23 fT dT
section
variable {P : Program} {w : World} {K : PySem.W.Frag} {mg : Str → Option Value} {base : Heap} {f : Addr} {fd : FuncData} {fL fN f1 fK fS fO fH fF fT : Addr} {dL dN d1 dK dS dO dH dF dT : FuncData}
theorem scChk : FnScope ["family"] ["family"] (defScope (top 24)) := ⟨rfl, rfl, rfl, by decide +kernel, rfl, by decide +kernel, by decide +kernel⟩
abbrev spChk : Sp := sp1 (GoodF goodName) (fun F => F)
abbrev spTold : Sp := sp1 (fun F : FamT => F.2.length ≤ 1000) (fun F => F)
theorem ok_chk (F : FnP K "checked_family" (top 24) f fd) (B : Bn mg) (Z : Fs K mg fL fN f1 fK fS fO fH fF fT dL dN d1 dK dS dO dH dF dT) : FnOk P w K mg base CX0 5 f fd ["family"] spChk := by
  have GF : FnOk P w K mg base CX0 4 fF dF ["thing"] spFam := ok_fam Z.F.F B Z.N Z.L Z.KP Z.S Z.O Z.HO
  have bF : Binds K dF ["thing"] [] := Z.F.F.bindsN fun _ _ _ _ _ _ us hl => match us, hl with | [_], _ => rfl
  have GT : FnOk P w K mg base CX0 1 fT dT ["thing"] spTold := ok_told Z.T.F B.list
  have bT : Binds K dT ["thing"] [] := Z.T.F.bindsN fun _ _ _ _ _ _ us hl => match us, hl with | [_], _ => rfl
  refine F.ok scChk (fun vs H Q E h => ?_) (fun cdv A outer s H vs Q E hr h => ?_)
  · obtain ⟨v, _, _, rfl, _⟩ := h
    rfl
  · obtain ⟨v, F, A0, rfl, eA, hv, hF, q⟩ := h
    refine ⟨_, PSs.nox (pss_cons (ps_if (pt_not (pt_val (pe_call GF hr (by rfl) Z.F.g Z.F.F.kp bF .nil pass0 (pa_cons (pv 0) pa_nil)))) pss_never pss_nil)
      (pss_one (ps_ret (pe_call GT (hr.mono (by decide)) (by rfl) Z.T.g Z.T.F.kp bT .nil pass0 (pa_cons (pv 0) pa_nil))))), ?_⟩
    have e0 : EvD (tVar 0) [some v] A0 F := ed_var rfl hv
    have t1 := et_not (et_B (ev_of (ed_call1 (E := E0) (P := GoodF goodName) (f := fun _ => true) e0 hF)))
    refine b_skip (Bs.start eA) t1 rfl fun H1 B1 => ?_
    exact b_ret B1 (ed_call1 (E := E0) (P := fun F : FamT => F.2.length ≤ 1000) (f := fun F => F) e0 hF.len) q
theorem scKnown : FnScope ["keepers", "keeper"] ["keepers", "keeper"] (defScope (top 30)) := ⟨rfl, rfl, rfl, by decide +kernel, rfl, by decide +kernel, by decide +kernel⟩
abbrev spKnown : Sp := sp2 (fun (ks : List Str) (x : Str) => x ∈ ks) (fun _ x => x)
theorem ok_known (F : FnP K "known_keeper" (top 30) f fd) (B : Bn mg) (Z : Fs K mg fL fN f1 fK fS fO fH fF fT dL dN d1 dK dS dO dH dF dT) : FnOk P w K mg base CX0 2 f fd ["keepers", "keeper"] spKnown := by
  have G1 : FnOk P w K mg base CX0 1 f1 d1 ["known", "thing"] spOne := ok_one Z.one.F B
  have b1 : Binds K d1 ["known", "thing"] [] := Z.one.F.bindsN fun _ _ _ _ _ _ us hl => match us, hl with | [_, _], _ => rfl
  refine F.ok scKnown (fun vs H Q E h => ?_) (fun cdv A outer s H vs Q E hr h => ?_)
  · obtain ⟨v, u, _, _, _, rfl, _⟩ := h
    rfl
  · obtain ⟨v, u, ks, x, A0, rfl, eA, hv, hu, hx, q⟩ := h
    refine ⟨_, PSs.nox (pss_cons (ps_if (pt_not (pt_val (pe_call G1 hr (by rfl) Z.one.g Z.one.F.kp b1 .nil pass0 (pa_cons (pv 0) (pa_cons (pv 1) pa_nil))))) pss_never pss_nil) (pss_one (ps_ret (pv 1)))), ?_⟩
    have e1 : EvD (tVar 1) [some v, some u] A0 x := ed_var rfl hu
    have c := ev_of (ed_call2 (E := E0) (P := fun (_ : List Str) (_ : Str) => True) (f := fun known thing => decide (thing ∈ known)) (ed_var (i := 0) (σ := [some v, some u]) (H := A0) rfl hv) e1 True.intro)
    rw [decide_eq_true hx] at c
    refine b_skip (Bs.start eA) (et_not (et_B c)) rfl fun H1 B1 => ?_
    exact b_ret B1 e1 q
theorem scLess : FnScope ["keepers", "name", "one"] ["keepers", "name"] (defScope (top 32)) := ⟨rfl, rfl, rfl, by decide +kernel, rfl, by decide +kernel, by decide +kernel⟩
abbrev spLess : Sp := sp2 (fun (ks : List Str) (_ : Str) => ks.length ≠ 1 ∧ ks.length ≤ 100) (fun ks x => drop1 x ks)
theorem ok_less (F : FnP K "less_keeper" (top 32) f fd) (B : Bn mg) : FnOk P w K mg base CX0 1 f fd ["keepers", "name"] spLess := by
  refine F.ok scLess (fun vs H Q E h => ?_) (fun cdv A outer s H vs Q E hr h => ?_)
  · obtain ⟨v, u, _, _, _, rfl, _⟩ := h
    rfl
  · obtain ⟨v, u, ks, x, A0, rfl, eA, hv, hu, ⟨h1, hl⟩, q⟩ := h
    refine ⟨_, PSs.nox (pss_cons (ps_if (pt_cmpR op_eq (pe_callB call_len_seq (by rfl) B.len PySem.boot_len (pa_cons (pv 0) pa_nil)) pe_int (nomark _)) pss_never pss_nil)
      (pss_one (ps_ret (pe_lc (own := [("one", 2)]) (g := gName 2) (te := tVar 2) rfl scLess.nd (pi_list (pv 0)) (blkOk_by (N := ["keepers", "name", "one"]) (sc := defScope (top 32)) (by decide +kernel))
        (fun _ _ _ _ _ => pg_name (i := 2) scLess.nd rfl (.inl rfl)) (fun _ _ _ _ _ => pts_one (pt_cmpR (op_neW (α := Str) (uT hr)) (pv 2) (pv 1) (by rfl))) (fun _ _ _ _ _ => pv 2))))), ?_⟩
    have e0 : EvD (tVar 0) [some v, some u, none] A0 ks := ed_var rfl hv
    have t : EvT (tTest (tOp rEq (tCB (rLenS K) (tCons (tVar 0) tNil)) (tC (.int 1)))) [some v, some u, none] A0 false := et_is (et_test (ev_op (ev_lenD e0) ev_c (rv_eq rfl))) (decide_eq_false fun z => by
      have := V.int.inj z
      omega)
    refine b_skip (Bs.start eA) t rfl fun H1 B1 => ?_
    have lc := ed_lc (K := K) (σ := [some v, some u, none]) (H := A0) (tl := tVar 0) (tt := tTest (tOp (rEqW Str true) (tVar 2) (tVar 1))) (te := tVar 2) (j := 2) (vs := [2]) (fun y : Str => decide (y ≠ x)) (fun y : Str => y) e0 (by omega) (fun _ => rfl)
      (fun y z H1 e _ r => et_test (ev_neD (ed_var (i := 2) (v := z) rfl r) (ed_var (i := 1) (v := u) rfl (DV.ext e hu)))) fun y z H1 _ _ r _ => ed_var (i := 2) (v := z) rfl r
    rw [List.map_id', show (ks.filter fun y => decide (y ≠ x)) = drop1 x ks from List.filter_congr fun y _ => by simp] at lc
    exact b_ret B1 lc q
end
end K07
/-! text D13 -/
set_option Elab.async false
set_option linter.all false
set_option maxRecDepth 100000
set_option maxHeartbeats 4000000
/-! least_of -/
namespace K07
open PySem PySem.Spec PyProof.Rows L2 Evl PySem.W Dw Dw.DV RZ StX Lot LmV LamX NdefX
theorem okC {P : Program} {w : World} {K : PySem.W.Frag} {mg : Str → Option Value} {base : Heap} {f : Addr} {fd : FuncData} {CX : CXT} {N ps : List Str} {k : Nat} {sp : Sp} {x qual : Str} {params : Arguments} {body : List Stmt} {scope : Scope} {dvs : List V} {kws : List (Str × V)} (F : FunD K x qual params body scope dvs kws f fd) (S : FnScope N ps scope) (len : ∀ vs H Q E, sp vs H Q E → vs.length = ps.length)
    (hbody : ∀ (c : Addr) (A : Around) (outer : List Env) (s : Shared) (H : Hp) (vs : List V) (Q : VK) (E : XK), fd.code = .ref c → Room k (A.deeper (envOfC qual scope s.heap.objs.size f (.ref c))) → sp vs H Q E →
      ∃ t, PSs (cxOf CX P w K mg base N qual scope f (.ref c) A outer s H E) body t ∧ t { nx := fun _ H' => Q .non H', rt := Q } (start N vs) H) : FnOk P w K mg base CX (k + 1) f fd ps sp := by
  obtain ⟨oc, od, dV, kV, doc, pm, an, cdv, ct, osl, rfl, lk, hcd, _, _⟩ := F.ex
  obtain ⟨c, rfl⟩ := He.codeIn_ref hcd
  exact fn_of lk hcd S len fun A outer s H vs Q E hr hsp => hbody c A outer s H vs Q E rfl hr hsp
def leastOf (xs : List (List Str)) : List (List Str) := srt (greedy [] (srtK xs))
abbrev lmPos : Pos := ⟨84, 32, 84, 59⟩
abbrev lmQ : Str := "least_of.<locals>.<lambda>"
/-- the end of a def that comes to the lambda: its code lies in the table already, or is laid into it -/
def EndW {γ : Type} [DecidableEq γ] [Datum γ] [DV γ] (Pt : Addr) (A H : Hp) (x : γ) (Q : VK) : Prop := (Rdy Pt lmQ lmPos A ∧ EndD A H x Q) ∨ (Tabs [(Pt, lmQ)] H ∧ EndY Pt lmQ lmPos A H x Q)
def spLeast (Pt : Addr) : Sp := fun vs H Q _ => ∃ v xs A, vs = [v] ∧ Ex A H ∧ rep A v xs ∧ (xs.length ≤ 1000 ∧ ∀ l ∈ xs, l.length ≤ 100) ∧ EndW Pt A H (leastOf xs) Q
theorem rdy_but {Pt : Addr} {q : Str} {pos : Pos} {H H' : Hp} {D : Addr} {xs : List V} (r : Rdy Pt q pos H) (hD : H D = some (.lst xs)) (k : ∀ b o, b ≠ D → H b = some o → H' b = some o) : Rdy Pt q pos H' := by
  obtain ⟨t, ps, cv, h1, h2⟩ := r
  have nP : ∀ {ps : Array Value}, H Pt = some (.tbl ps) → Pt ≠ D := fun h z => by
    rw [z, hD] at h
    cases h
  refine ⟨fun p hp => ?_, ps, cv, k _ _ (nP h1) h1, h2⟩
  rw [List.mem_singleton.mp hp]
  obtain ⟨ps', g1, g2, g3⟩ := t _ List.mem_cons_self
  refine ⟨ps', k _ _ (nP g1) g1, g2, fun pos' cv' hc => ?_⟩
  obtain ⟨c0, e1, e2⟩ := g3 pos' cv' hc
  refine ⟨c0, e1, k _ _ (fun z => ?_) e2⟩
  rw [z, hD] at e2
  unfold CodeO at e2
  cases e2
abbrev tbLeast (K : PySem.W.Frag) : TS := tIfS (tNot (tB (tCB (rAny K) (tCons (tLc (iList K (tVar 1)) (gName 3) tYes (tCall spHolds [] E0 (tCons (tVar 2) (tCons (tVar 3) tNil))) [3]) tNil)))) (tDrop (tBM K "list" rAppend (tVar 1) (tCons (tVar 2) tNil))) tNext
theorem srtK_len (xs : List (List Str)) : (srtK xs).length = xs.length := List.length_mergeSort xs
theorem srtK_mem {xs : List (List Str)} {x : List Str} : x ∈ srtK xs ↔ x ∈ xs := List.mem_mergeSort
theorem least_loop {K : PySem.W.Frag} {v : V} {p D : Addr} {H3 A1 : Hp} {ws : List V} {xs : List (List Str)} {Dz : Ends} (hD : H3 D = some (.lst [])) (eA : Ex A1 H3) (nD : A1 D = none) (hp : A1 p = some (.lst ws)) (hw : Reps A1 ws (srtK xs)) (hl : xs.length ≤ 1000) (hl2 : ∀ l ∈ xs, l.length ≤ 100)
    (fin : ∀ u H' Hs, (∀ b o, b ≠ D → H3 b = some o → H' b = some o) → H' D ≠ none → Ex Hs H' → (∀ b o, Hs b = some o → A1 b = some o ∨ b = D ∨ H3 b = none) → rep Hs u (leastOf xs) → Dz.rt u H') :
    tFor (fun _ _ R => R (Itl K p) H3) (gName 2) (tbLeast K) { Dz with nx := tRet (tCB (rSortedW (List Str)) (tCons (tVar 1) tNil)) Dz } [some v, some (.ref D), none, none] H3 := by
  have lw := Reps.len hw
  rw [srtK_len] at lw
  refine for_list (xs := ws) (fun i σ H' => ∃ y, σ = [some v, some (.ref D), y, none] ∧ Ex A1 H' ∧ (∀ b o, b ≠ D → H3 b = some o → H' b = some o) ∧ ∃ fs, H' D = some (.lst fs) ∧ Reps A1 fs (greedy [] ((srtK xs).take i)))
    ⟨none, rfl, eA, fun _ _ _ z => z, [], hD, .nil⟩ (fun i σ H' _ h => ?_) (fun i x σ H' hx h => ?_) (fun σ H' h => ?_)
  · obtain ⟨y, rfl, h1, _⟩ := h
    exact sq_of (h1 _ _ hp)
  · obtain ⟨y, rfl, h1, h2, fs, h3, h4⟩ := h
    obtain ⟨li, _⟩ := List.getElem?_eq_some_iff.mp hx
    obtain ⟨lot, hk⟩ : ∃ lot, (srtK xs)[i]? = some lot := ⟨_, List.getElem?_eq_getElem (show i < (srtK xs).length by rw [srtK_len]; omega)⟩
    have rx := Reps.at hw hx hk
    have ml : lot ∈ xs := srtK_mem.mp (List.mem_of_getElem? hk)
    have lf := greedy_len ((srtK xs).take i) []
    have lt : ((srtK xs).take i).length ≤ 1000 := by
      rw [List.length_take, srtK_len]
      omega
    simp only [List.length_nil, Nat.zero_add] at lf
    have mf : ∀ o ∈ greedy [] ((srtK xs).take i), o.length ≤ 100 := fun o ho => by
      rcases greedy_mem _ _ ho with z | z
      · cases z
      · exact hl2 o (srtK_mem.mp (List.mem_of_mem_take z))
    have eB : Ex A1 (upd A1 D (.lst fs)) := Ex.new nD
    have rf : rep (upd A1 D (.lst fs)) (.ref D) (greedy [] ((srtK xs).take i)) := ⟨D, fs, rfl, upd_same, Reps.ext eB h4⟩
    have lc := ed_lc (K := K) (σ := [some v, some (.ref D), some x, none]) (H := upd A1 D (.lst fs)) (tl := tVar 1) (tt := tYes) (te := tCall spHolds [] E0 (tCons (tVar 2) (tCons (tVar 3) tNil))) (j := 3) (vs := [3]) (fun _ : List Str => true) (fun o : List Str => holdsP lot o) (ed_var (v := .ref D) rfl rf) (by omega) (fun _ => rfl) (fun _ _ H1 _ _ _ => et_yes)
      fun o z H5 e5 mo ro _ => ed_call2 (ed_var (i := 2) (v := x) rfl (DV.ext (eB.trans e5) rx)) (ed_var (i := 3) (v := z) rfl ro) (by have := mf o mo; omega)
    have an := ev_anyD (K := K) lc
    rw [List.filter_eq_self.mpr (fun _ _ => rfl), List.any_map, show (greedy [] ((srtK xs).take i)).any (id ∘ fun o => holdsP lot o) = hasIn (greedy [] ((srtK xs).take i)) lot from rfl] at an
    have step : greedy [] ((srtK xs).take (i + 1)) = if hasIn (greedy [] ((srtK xs).take i)) lot = true then greedy [] ((srtK xs).take i) else greedy [] ((srtK xs).take i) ++ [lot] := by
      rw [List.take_add_one, hk]
      exact greedy_snoc _ _ _
    have eB2 : Ex (upd A1 D (.lst fs)) H' := fun b o z => by
      by_cases q : b = D
      · rw [q, upd_same] at z
        rw [q, h3]
        exact z
      · rw [upd_ne q] at z
        exact h1 _ _ z
    refine (et_not (et_B an) H' eB2 _ fun H4 e4 => ?_ : tbLeast K _ [some v, some (.ref D), some x, none] H')
    · cases hh : hasIn (greedy [] ((srtK xs).take i)) lot with
      | true =>
        rw [hh, if_pos rfl] at step
        exact ⟨some x, rfl, h1.trans e4, fun b o q z => e4 _ _ (h2 b o q z), fs, e4 _ _ h3, by rw [step]; exact h4⟩
      | false =>
        rw [hh, if_neg Bool.false_ne_true] at step
        refine ⟨.ref D, rfl, .inl ⟨rfl, _, sq_of (e4 _ _ h3)⟩, x, rfl, D, fs, x, rfl, rfl, e4 _ _ h3, by rw [Reps.len h4]; exact sz_lt (by omega), some x, rfl, (h1.trans e4).mut nD, fun b o q z => by rw [upd_ne q]; exact e4 _ _ (h2 b o q z), _, upd_same, ?_⟩
        rw [step]
        exact Reps.app h4 (.cons rx .nil)
  · obtain ⟨y, rfl, h1, h2, fs, h3, h4⟩ := h
    rw [List.take_of_length_le (by rw [srtK_len]; omega)] at h4
    have eB : Ex A1 (upd A1 D (.lst fs)) := Ex.new nD
    refine ⟨.ref D, rfl, D, greedy [] (srtK xs), upd A1 D (.lst fs), rfl, fun b o z => ?_, ⟨D, fs, rfl, upd_same, Reps.ext eB h4⟩, fun p2 ws2 np hr => ?_⟩
    · by_cases q : b = D
      · rw [q, upd_same] at z
        rw [q, h3]
        exact z
      · rw [upd_ne q] at z
        exact h1 _ _ z
    · have pD : p2 ≠ D := fun z => by
        rw [z, h3] at np
        cases np
      have A1p : A1 p2 = none := exf h1 np
      have Bp : (upd A1 D (.lst fs)) p2 = none := by
        rw [upd_ne pD]
        exact A1p
      have H3p : H3 p2 = none := by
        cases m : H3 p2 with
        | none => rfl
        | some o =>
          rw [h2 _ _ pD m] at np
          cases np
      refine fin _ _ (upd (upd A1 D (.lst fs)) p2 (.lst ws2)) (fun b o q z => ?_) ?_ (fun b o z => ?_) (fun b o z => ?_) ⟨p2, ws2, rfl, upd_same, Reps.ext (Ex.new Bp) hr⟩
      · rw [upd_ne (fun y => by rw [y, H3p] at z; cases z)]
        exact h2 b o q z
      · rw [upd_ne pD.symm, h3]
        exact fun z => by cases z
      · by_cases y : b = p2
        · rw [y, upd_same] at z ⊢
          exact z
        · rw [upd_ne y] at z ⊢
          by_cases q : b = D
          · rw [q, upd_same] at z
            rw [q, h3]
            exact z
          · rw [upd_ne q] at z
            exact h1 _ _ z
      · by_cases y : b = p2
        · rw [y]
          exact .inr (.inr H3p)
        · rw [upd_ne y] at z
          by_cases q : b = D
          · exact .inr (.inl q)
          · rw [upd_ne q] at z
            exact .inl z
section
variable {P : Program} {w : World} {K : PySem.W.Frag} {mg : Str → Option Value} {base : Heap} {f : Addr} {fd : FuncData} {fL fN f1 fK fS fO fH fF fT : Addr} {dL dN d1 dK dS dO dH dF dT : FuncData}
abbrev NLeast : List Str := ["lots", "found", "lot", "other"]
theorem scLeast : FnScope NLeast ["lots"] (defScope (top 25)) := ⟨rfl, rfl, rfl, by decide +kernel, rfl, by decide +kernel, by decide +kernel⟩
theorem uK {k : Nat} {A : Around} (hr : Room k A) : A.units + 2 + Datum.depth (List Str) < cLine := by
  have h := hr.un
  show A.units + 2 + 1 < cLine
  omega
theorem ok_least {Pt : Addr} (F : FnP K "least_of" (top 25) f fd) (B : Bn mg) (HO : Df K mg "holds" 21 fH dH) (hT : ∀ c, fd.code = .ref c → TabB base mg c Pt) : FnOk P w K mg base CX0 2 f fd ["lots"] (spLeast Pt) := by
  have GH : FnOk P w K mg base CX0 1 fH dH ["lot", "other"] spHolds := ok_holds HO.F B.all
  have bH : Binds K dH ["lot", "other"] [] := HO.F.bindsN fun _ _ _ _ _ _ us hl => match us, hl with | [_, _], _ => rfl
  refine okC F scLeast (fun vs H Q E h => ?_) (fun c A0 outer s H vs Q E hc hr h => ?_)
  · obtain ⟨v, _, _, rfl, _⟩ := h
    rfl
  · obtain ⟨v, xs, A, rfl, eA, hv, ⟨hl, hl2⟩, q⟩ := h
    refine ⟨_, PSs.nox (pss_cons (ps_set (i := 1) scLeast.nd rfl (.inl rfl) (pe_lst pa_nil))
      (pss_cons (ps_for PassesOwn.never rfl (pi_list (pe_callBK (cr_sortedKeyW hr B.len) (by rfl) B.sorted (by decide +kernel) (pa_cons (pv 0) pa_nil) (pk_cons (pe_lamV2 (P := Pt) (q := lmQ) (hT c hc) rfl rfl rfl (by decide +kernel)) pk_nil))) (pg_name (i := 2) scLeast.nd rfl (.inr rfl))
        (pss_one (ps_if (pt_not (pt_val (pe_callB (cr_any rfl) (by rfl) B.any (by decide +kernel) (pa_cons (pe_lc (own := [("other", 3)]) (g := gName 3) (tt := tYes) (te := tCall spHolds [] E0 (tCons (tVar 2) (tCons (tVar 3) tNil))) rfl scLeast.nd (pi_list (pv 1)) (blkOk_by (N := NLeast) (sc := defScope (top 25)) (by decide +kernel))
            (fun _ _ _ _ _ => pg_name (i := 3) scLeast.nd rfl (.inl rfl)) (fun _ _ _ _ _ => pts_nil) (fun _ _ _ _ _ => pe_call GH hr (by rfl) HO.g HO.F.kp bH .nil pass0 (pa_cons (pv 2) (pa_cons (pv 3) pa_nil)))) pa_nil))))
          (pss_one (ps_expr (pe_bm PySem.F.plainAttrs_list PySem.F.slot_list_append PySem.F.type_list_append mt_append (pv 1) (pa_cons (pv 2) pa_nil)))) pss_nil)))
      (pss_one (ps_ret (pe_callB (cr_sortedW (α := List Str) (fun _ _ z => by cases z) (uK hr)) (by rfl) B.sorted (by decide +kernel) (pa_cons (pv 1) pa_nil)))))), ?_⟩
    refine ⟨by show 0 ≤ sizeLine; decide, fun D nD => ?_⟩
    obtain ⟨la, ln, el, h1, h2⟩ := hv
    subst el
    have e2 : Ex H (upd H D (.lst [])) := Ex.new nD
    refine ⟨.ref la, rfl, ?_⟩
    have AD : A D = none := exf eA nD
    rcases q with ⟨R, q⟩ | ⟨T, q⟩
    · refine .inl ⟨(R.ext eA).ext e2, fun fl c' nf hc' => ?_⟩
      have e3 : ∀ F, Ex H (upd (upd H D (.lst [])) fl (LamO fl F)) := fun F => e2.trans (Ex.new nf)
      refine ⟨la, fl, _, xs, A, rfl, rfl, ⟨rfl, rfl, ⟨_, rfl⟩, _, _, _, _, _, _, rfl⟩, upd_same, by rw [upd_ne (ne_of_none hc' nf)]; exact hc', eA.trans (e3 _), ⟨la, ln, rfl, h1, h2⟩, fun p ws np hr => ?_⟩
      have e4 := (e3 _).trans (Ex.new (o := .lst ws) np)
      have pH : H p = none := exf (e3 _) np
      have Ap : A p = none := exf eA pH
      have Dp : D ≠ p := fun z => by
        rw [← z] at np
        rw [upd_ne (ne_of_none (upd_same (H := H) (a := D) (o := .lst [])) nf), upd_same] at np
        cases np
      refine ⟨p, rfl, ⟨ws, sq_of upd_same⟩, ?_⟩
      refine least_loop (A1 := upd A p (.lst ws)) (ws := ws) (xs := xs) ?_ (fun b o z => ?_) ?_ upd_same (Reps.ext (Ex.new Ap) hr) hl hl2 fun u H' Hs k1 k2 k3 k4 k5 => ?_
      · rw [upd_ne Dp, upd_ne (ne_of_none (upd_same (H := H) (a := D) (o := .lst [])) nf), upd_same]
      · by_cases y : b = p
        · rw [y, upd_same] at z ⊢
          exact z
        · rw [upd_ne y] at z
          exact e4 _ _ (eA _ _ z)
      · rw [upd_ne Dp]
        exact AD
      · refine q u H' Hs (fun b o z => k1 b o (ne_of_none z nD) (e4 _ _ z)) ⟨k3, fun b o z => ?_⟩ k5
        rcases k4 b o z with y | y | y
        · by_cases w : b = p
          · rw [w]
            exact .inr pH
          · rw [upd_ne w] at y
            exact .inl y
        · rw [y]
          exact .inr nD
        · exact .inr (exf e4 y)
    · refine .inr ⟨T.ext e2, fun fl c' H2 eN nn R nf hf hc' => ?_⟩
      have e3 : ExtN H H2 := (ExtN.of e2).trans eN
      have A2 : Ex (nt A) H2 := nt_ex eA e3
      have D2 : H2 D = some (.lst []) := eN _ _ upd_same (fun _ z => by cases z)
      refine ⟨la, fl, _, xs, nt A, rfl, rfl, ⟨rfl, rfl, ⟨_, rfl⟩, _, _, _, _, _, _, rfl⟩, hf, hc', A2, DVN.extN (nt_ext A) ⟨la, ln, rfl, h1, h2⟩, fun p ws np hr => ?_⟩
      have pH2 : (upd H D (.lst [])) p = none := nn p np
      have Dp : D ≠ p := fun z => by
        rw [← z, D2] at np
        cases np
      have pH : H p = none := by
        rw [upd_ne Dp.symm] at pH2
        exact pH2
      have Ap : (nt A) p = none := exf A2 np
      refine ⟨p, rfl, ⟨ws, sq_of upd_same⟩, ?_⟩
      refine least_loop (A1 := upd (nt A) p (.lst ws)) (ws := ws) (xs := xs) ?_ (fun b o z => ?_) ?_ upd_same (Reps.ext (Ex.new Ap) hr) hl hl2 fun u H' Hs k1 k2 k3 k4 k5 => ?_
      · rw [upd_ne Dp]
        exact D2
      · by_cases y : b = p
        · rw [y, upd_same] at z ⊢
          exact z
        · rw [upd_ne y] at z ⊢
          exact A2 _ _ z
      · rw [upd_ne Dp]
        cases z : nt A D with
        | none => rfl
        | some o =>
          rw [(nt_of z).1] at AD
          cases AD
      · have up : ∀ b o, b ≠ D → H2 b = some o → H' b = some o := fun b o n z => k1 b o n (by rw [upd_ne (fun y => by rw [y, np] at z; cases z)]; exact z)
        refine q u H' Hs (fun b o z n => up b o (ne_of_none z nD) (e3 _ _ z n)) (fun b z => ?_) (rdy_but R D2 up) ⟨k3, fun b o z => ?_⟩ k5
        · have bD : b ≠ D := fun y => k2 (by rw [← y]; exact z)
          have z2 : H2 b = none := by
            cases m : H2 b with
            | none => rfl
            | some o =>
              rw [up b o bD m] at z
              cases z
          have z3 := nn b z2
          rw [upd_ne bD] at z3
          exact z3
        · rcases k4 b o z with y | y | y
          · by_cases w : b = p
            · rw [w]
              exact .inr pH
            · rw [upd_ne w] at y
              exact .inl (nt_of y).1
          · rw [y]
            exact .inr nD
          · by_cases w : b = D
            · rw [w]
              exact .inr nD
            · by_cases w2 : b = p
              · rw [w2]
                exact .inr pH
              · rw [upd_ne w2] at y
                have z3 := nn b y
                rw [upd_ne w] at z3
                exact .inr z3
end
end K07
/-! text D14 -/
set_option Elab.async false
set_option linter.all false
set_option maxRecDepth 100000
set_option maxHeartbeats 4000000
/-! defs that come to the lambda: promises, calls, the last step; two_families, all_keepers, both_families, either_family -/
namespace K07
open PySem PySem.Spec PyProof.Rows L2 Evl PySem.W Dw Dw.DV RZ StX Lot LmV LamX NdefX
section
variable {α β γ δ : Type} [DecidableEq α] [Datum α] [DV α] [DecidableEq β] [Datum β] [DV β] [DecidableEq γ] [Datum γ] [DV γ] [DecidableEq δ] [Datum δ] [DV δ] {K : PySem.W.Frag} {σ : L2.St} {H A A0 H0 : Hp} {te ta tb : TE} {D : Ends} {Pt : Addr} {E : XK}
def sp1W (Pt : Addr) (P : α → Prop) (f : α → γ) : Sp := fun vs H Q _ => ∃ v x A, vs = [v] ∧ Ex A H ∧ rep A v x ∧ P x ∧ EndW Pt A H (f x) Q
def sp2W (Pt : Addr) (P : α → β → Prop) (f : α → β → γ) : Sp := fun vs H Q _ => ∃ v u x y A, vs = [v, u] ∧ Ex A H ∧ rep A v x ∧ rep A u y ∧ P x y ∧ EndW Pt A H (f x y) Q
theorem ed_call1W {P : α → Prop} {f : α → γ} {x : α} (R : Rdy Pt lmQ lmPos A) (h : EvD ta σ A x) (hP : P x) : EvD (tCall (sp1W Pt P f) [] E (tCons ta tNil)) σ A (f x) := fun H1 e Q q => h H1 e _ fun v H2 B e2 s r =>
  ⟨v, x, jn A B, rfl, jn_ex (e.trans e2) s.e, DV.ext (jn_r (e.trans e2) s.e) r, hP, .inl ⟨R.ext jn_l, fun u H3 Hs e3 t r3 => q u H3 Hs (e2.trans e3) ⟨t.e, fun b o z => by
    rcases t.o b o z with y | y
    · rcases jn_of y with w | w
      · exact .inl w
      · exact s.o b o w
    · exact .inr (exf e2 y)⟩ r3⟩⟩
theorem ed_call2W {P : α → β → Prop} {f : α → β → γ} {x : α} {y : β} (R : Rdy Pt lmQ lmPos A) (h : EvD ta σ A x) (h' : EvD tb σ A y) (hP : P x y) : EvD (tCall (sp2W Pt P f) [] E (tCons ta (tCons tb tNil))) σ A (f x y) := fun H1 e Q q => h H1 e _ fun v H2 B e2 s r => h' H2 (e.trans e2) _ fun u H3 C e3 t r' => by
  have sj := s.join e e2 e3 t
  have eA : Ex A H3 := (e.trans e2).trans e3
  exact ⟨v, u, x, y, jn A (jn B C), rfl, jn_ex eA sj.e, DV.ext (jn_l.trans (jn_r eA sj.e)) r, DV.ext ((jn_r (s.e.trans e3) t.e).trans (jn_r eA sj.e)) r', hP, .inl ⟨R.ext jn_l, fun z H4 Hs e4 w r4 => q z H4 Hs ((e2.trans e3).trans e4) ⟨w.e, fun b o z => by
    rcases w.o b o z with y | y
    · rcases jn_of y with w | w
      · exact .inl w
      · exact sj.o b o w
    · exact .inr (exf (e2.trans e3) y)⟩ r4⟩⟩
/-- return (a, f(b)), f a def that comes to the lambda -/
theorem b_retW [DVN δ] {P : α → Prop} {f : α → γ} {x : δ} {y : α} (B : Bs A0 H0 A H) (ha : EvD ta σ A x) (hb : EvD tb σ A y) (hP : P y) (q : EndW Pt A0 H0 (x, f y) D.rt) : tRet (tTup (tCons ta (tCons (tCall (sp1W Pt P f) [] E (tCons tb tNil)) tNil))) D σ H := by
  rcases q with ⟨R, q⟩ | ⟨T, q⟩
  · exact b_ret B (ed_pair ha (ed_call1W (R.ext B.a) hb hP)) q
  · refine ha H B.h _ fun v H1 B1 e1 s1 r1 => hb H1 (B.h.trans e1) _ fun u H2 B2 e2 s2 r2 => ?_
    refine ⟨u, y, B2, rfl, s2.e, r2, hP, .inr ⟨T.ext (B.e.trans (e1.trans e2)), fun w H3 B3 eN nn R3 s3 r3 => ?_⟩⟩
    refine ⟨by show 2 ≤ sizeLine; decide, fun p np => ?_⟩
    have e12 : ExtN H H3 := (ExtN.of (e1.trans e2)).trans eN
    have b1 : Ex (nt B1) H3 := nt_ex (s1.e.trans e2) eN
    have ej : Ex (jn (nt B1) B3) H3 := jn_ex b1 s3.e
    have pj : jn (nt B1) B3 p = none := exf ej np
    have nH : ∀ b, H3 b = none → H0 b = none := fun b z => exf ((B.e.trans e1).trans e2) (nn b z)
    have old : ∀ b, H b = none → H0 b = none := fun b z => exf B.e z
    refine q _ (upd H3 p (.tup [v, w])) (upd (jn (nt B1) B3) p (.tup [v, w])) (fun b o z n => ?_) (fun b z => ?_) (R3.ext (Ex.new np)) ⟨fun b o z => ?_, fun b o z => ?_⟩ ⟨p, v, w, rfl, upd_same, DV.ext (jn_l.trans (Ex.new pj)) (DVN.extN (nt_ext B1) r1), DV.ext ((jn_r b1 s3.e).trans (Ex.new pj)) r3⟩
    · have z3 := e12 b o (B.e _ _ z) n
      rw [upd_ne (ne_of_none z3 np)]
      exact z3
    · by_cases w : b = p
      · rw [w] at z
        rw [upd_same] at z
        cases z
      · rw [upd_ne w] at z
        exact nH b z
    · by_cases w : b = p
      · rw [w, upd_same] at z ⊢
        exact z
      · rw [upd_ne w] at z ⊢
        exact ej _ _ z
    · by_cases w : b = p
      · rw [w]
        exact .inr (nH p np)
      · rw [upd_ne w] at z
        rcases jn_of z with y | y
        · rcases s1.o b o (nt_of y).1 with k | k
          · exact B.o b o k
          · exact .inr (old b k)
        · rcases s3.o b o y with k | k
          · rcases s2.o b o k with k | k
            · exact B.o b o k
            · exact .inr (old b (exf e1 k))
          · exact .inr (old b (exf (e1.trans e2) k))
end
def cup (a b : List Str) : List Str := srt (once (a ++ b))
def bothLots (L M : List (List Str)) : List (List Str) := L.flatMap fun mine => M.map fun theirs => cup mine theirs
def bothOf (F G : FamT) : FamT := (cup F.1 G.1, leastOf (bothLots F.2 G.2))
def eitherOf (F G : FamT) : FamT := (cup F.1 G.1, leastOf (F.2 ++ G.2))
structure Two (F G : FamT) : Prop where
  f : GoodF goodName F
  g : GoodF goodName G
  lf : F.1.length ≤ 30
  lg : G.1.length ≤ 30
  l2 : F.2.length ≤ 150
  m2 : G.2.length ≤ 150
  p2 : F.2.length * G.2.length ≤ 1000
section
variable {P : Program} {w : World} {K : PySem.W.Frag} {mg : Str → Option Value} {base : Heap} {f : Addr} {fd : FuncData} {fL fN f1 fK fS fO fH fF fT : Addr} {dL dN d1 dK dS dO dH dF dT : FuncData}
abbrev sp2F : Sp := sp2 (fun F G : FamT => GoodF goodName F ∧ GoodF goodName G) (fun F G => (F, G))
abbrev spAll : Sp := sp2 (fun F G : FamT => F.1.length ≤ 30 ∧ G.1.length ≤ 30) (fun F G => cup F.1 G.1)
end
end K07
/-! text D15 -/
set_option Elab.async false
set_option linter.all false
set_option maxRecDepth 100000
set_option maxHeartbeats 4000000
/-! both_families, either_family -/
namespace K07
open PySem PySem.Spec PyProof.Rows L2 Evl PySem.W Dw Dw.DV RZ StX Lot LmV LamX NdefX
section
variable {α β : Type} [DecidableEq α] [Datum α] [DV α] [DecidableEq β] [Datum β] [DV β] {K : PySem.W.Frag} {σ : L2.St} {H A A0 H0 : Hp} {te ta tb : TE} {D : Ends}
theorem b_asg2 {x : α} {y : β} {i j : Nat} {tz : TS} (B : Bs A0 H0 A H) (h : EvD te σ A (x, y)) (k : ∀ v u A' H1, Bs A0 H0 A' H1 → Ex A A' → rep A' v x → rep A' u y → tz D ((σ.set i (some v)).set j (some u)) H1) :
    tSeq (tAsg te (gTup K 2 (gCons (gName i) (gCons (gName j) gNil)))) tz D σ H := h H B.h _ fun v H1 Hs e s r => by
  obtain ⟨a, u, w, rfl, h1, h2, h3⟩ := r
  exact ⟨a, [u, w], rfl, .inl (.inl (s.e _ _ h1)), rfl, u, [w], rfl, w, [], rfl, rfl, k u w (jn A Hs) H1 (B.go e s) jn_l (B.rep e s h2) (B.rep e s h3)⟩
end
section
variable {P : Program} {w : World} {K : PySem.W.Frag} {mg : Str → Option Value} {base : Heap} {f : Addr} {fd : FuncData} {fL fN f1 fK fS fO fH fF fT : Addr} {dL dN d1 dK dS dO dH dF dT : FuncData}
variable {fC fW fU fV Pt : Addr} {dC dW dU dV : FuncData}
abbrev NBoth : List Str := ["family", "other_family", "one", "other", "lots", "mine", "theirs", "keeper"]
abbrev scBothI : Scope := { kind := .function, names := [(".0", .local), ("mine", .local), ("theirs", .local), ("sorted", .globalImplicit), ("other", .cell)], isGenerator := false, isCoroutine := false }
abbrev spBoth (Pt : Addr) : Sp := sp2W Pt Two bothOf
theorem bothLots_len {L M : List (List Str)} : (bothLots L M).length = L.length * M.length := by
  unfold bothLots
  induction L with
  | nil => simp
  | cons a r ih =>
    rw [List.flatMap_cons, List.length_append, ih, List.length_map, List.length_cons, Nat.succ_mul, Nat.add_comm]
theorem cup_len {a b : List Str} : (cup a b).length ≤ a.length + b.length := by
  unfold cup
  rw [srt_len]
  have := once_len (a ++ b)
  rwa [List.length_append] at this
abbrev spEither (Pt : Addr) : Sp := sp2W Pt Two eitherOf
end
end K07
/-! text D16 -/
set_option Elab.async false
set_option linter.all false
set_option maxRecDepth 100000
set_option maxHeartbeats 4000000
/-! fallen_family, trusted_family -/
namespace K07
open PySem PySem.Spec PyProof.Rows L2 Evl PySem.W Dw Dw.DV RZ StX Lot LmV LamX NdefX
section
variable {P : Program} {w : World} {K : PySem.W.Frag} {mg : Str → Option Value} {base : Heap} {f : Addr} {fd : FuncData} {fL fN f1 fK fS fO fH fF fT : Addr} {dL dN d1 dK dS dO dH dF dT : FuncData} {fC fW fU fV Pt : Addr} {dC dW dU dV : FuncData} {fQ fR CN : Addr} {dQ dR : FuncData}
theorem dTrue {p : Prop} {i : Decidable p} (h : @decide p i = true) : p := @of_decide_eq_true p i h
theorem dFalse {p : Prop} {i : Decidable p} (h : @decide p i = false) : ¬ p := @of_decide_eq_false p i h
structure One (F : FamT) (x : Str) : Prop where
  g : GoodF goodName F
  m : x ∈ F.1
  n : F.1.length ≠ 1
theorem uLL {k : Nat} {A : Around} (hr : Room k A) : A.units + Datum.depth (List (List Str)) < cLine := by
  have h := hr.un
  show A.units + 2 < cLine
  omega
theorem uLL1 {k : Nat} {A : Around} (hr : Room k A) : A.units + 1 + Datum.depth (List Str) < cLine := by
  have h := hr.un
  show A.units + 1 + 1 < cLine
  omega
theorem fall_eq {x : Str} {L : List (List Str)} : (L.filter fun l => decide (x ∉ l)) = fall x L := by
  unfold fall
  exact List.filter_congr fun l _ => by simp
def spFall (CN : Addr) : Sp := fun vs H Q E => ∃ v u F x A, vs = [v, u] ∧ Ex A H ∧ rep A v F ∧ rep A u x ∧ One F x ∧ (fall x F.2 = [] → ∀ H', Ex H H' → E (.ref CN) none H') ∧ (fall x F.2 ≠ [] → EndD A H ((drop1 x F.1, fall x F.2) : FamT) Q)
abbrev NFall : List Str := ["family", "keeper", "keepers", "lots", "name", "rest", "left", "lot"]
theorem scFall : FnScope NFall ["family", "keeper"] (defScope (top 33)) := ⟨rfl, rfl, rfl, by decide +kernel, rfl, by decide +kernel, by decide +kernel⟩
def spTrust (Pt CN : Addr) : Sp := fun vs H Q E => ∃ v u F x A, vs = [v, u] ∧ Ex A H ∧ rep A v F ∧ rep A u x ∧ One F x ∧ ([] ∈ trust x F.2 → ∀ H', Ex H H' → E (.ref CN) none H') ∧ (¬ [] ∈ trust x F.2 → EndW Pt A H ((drop1 x F.1, leastOf (trust x F.2)) : FamT) Q)
abbrev NTrust : List Str := ["family", "keeper", "keepers", "lots", "name", "rest", "left", "lot", "one"]
theorem scTrust : FnScope NTrust ["family", "keeper"] (defScope (top 34)) := ⟨rfl, rfl, rfl, by decide +kernel, rfl, by decide +kernel, by decide +kernel⟩
abbrev scTrustI : Scope := { kind := .function, names := [(".0", .local), ("lot", .local), ("name", .cell)], isGenerator := false, isCoroutine := false }
end
end K07
/-! text D17 -/
set_option Elab.async false
set_option linter.all false
set_option maxRecDepth 100000
set_option maxHeartbeats 4000000
/-! a family fallen, or trusted, in a keeper, None where it is refused -/
namespace K07
open PySem PySem.Spec PyProof.Rows L2 Evl PySem.W Dw Dw.DV RZ StX Lot LmV LamX NdefX
theorem smF {F : FamT} (h1 : F.1.length ≤ 1000) (h2 : F.2.length ≤ 1000) (h3 : ∀ l ∈ F.2, l.length ≤ 1000) : DVT.sm F := ⟨⟨h1, fun _ _ => True.intro⟩, h2, fun l m => ⟨h3 l m, fun _ _ => True.intro⟩⟩
theorem smG {F : FamT} (h : GoodF goodName F) : DVT.sm F := smF (by have := h.ks.len; omega) h.len fun l m => by have := h.len2 l m; omega
theorem leastOf_mem {xs : List (List Str)} {l : List Str} (h : l ∈ leastOf xs) : l ∈ xs := by
  have h1 := srt_mem.mp h
  rcases greedy_mem _ _ h1 with z | z
  · cases z
  · exact srtK_mem.mp z
theorem leastOf_len {xs : List (List Str)} : (leastOf xs).length ≤ xs.length := by
  unfold leastOf
  rw [srt_len]
  have := greedy_len (srtK xs) []
  rw [srtK_len] at this
  simpa using this
def triedF (F : FamT) (x : Str) : Option FamT := if fall x F.2 = [] then none else some (drop1 x F.1, fall x F.2)
def triedT (F : FamT) (x : Str) : Option FamT := if [] ∈ trust x F.2 then none else some (drop1 x F.1, leastOf (trust x F.2))
theorem drop1_len {x : Str} {l : List Str} : (drop1 x l).length ≤ l.length := List.length_filter_le _ _
section
variable {P : Program} {w : World} {K : PySem.W.Frag} {mg : Str → Option Value} {base : Heap} {f : Addr} {fd : FuncData} {fL fN f1 fK fS fO fH fF fT : Addr} {dL dN d1 dK dS dO dH dF dT : FuncData} {fC fW fU fV Pt : Addr} {dC dW dU dV : FuncData} {fQ fR CN : Addr} {dQ dR : FuncData} {fA fB fCo : Addr} {dA dB dCo : FuncData}
def spTried (Pt fA fB : Addr) : Sp := fun vs H Q _ => ∃ wf v u F x A, vs = [.ref wf, v, u] ∧ Ex A H ∧ Rdy Pt lmQ lmPos A ∧ rep A v F ∧ rep A u x ∧ One F x ∧ ((wf = fA ∧ EndD A H (triedF F x) Q) ∨ (wf = fB ∧ EndD A H (triedT F x) Q))
abbrev NTried : List Str := ["way", "family", "name"]
end
end K07
/-! text D18 -/
set_option Elab.async false
set_option linter.all false
set_option maxRecDepth 100000
set_option maxHeartbeats 4000000
/-! renamed_family -/
namespace K07
open PySem PySem.Spec PyProof.Rows L2 Evl PySem.W Dw Dw.DV RZ StX Lot LmV LamX NdefX
def kvsOf (ps : List (Str × Str)) : List (Key × V) := ps.map fun p => ((Sum.inr p.1 : Key), V.str p.2)
def lookO (ps : List (Str × Str)) (k : Str) : Option Str := (ps.find? fun p => decide (p.1 = k)).map (·.2)
def look (ps : List (Str × Str)) (k : Str) : Str := (lookO ps k).getD k
theorem valV_kvs (k : Str) : ∀ ps : List (Str × Str), valV (kvsOf ps) (.inr k) = (lookO ps k).map V.str
  | [] => rfl
  | p :: r => by
    have ih := valV_kvs k r
    show valV (((Sum.inr p.1 : Key), V.str p.2) :: kvsOf r) (.inr k) = _
    by_cases e : p.1 = k
    · rw [valV_pos (by rw [e])]
      unfold lookO
      rw [List.find?_cons, show decide (p.1 = k) = true from decide_eq_true e]
      rfl
    · rw [valV_neg fun z => e (Sum.inr.inj z), ih]
      unfold lookO
      rw [List.find?_cons, show decide (p.1 = k) = false from decide_eq_false e]
theorem look_in {ps : List (Str × Str)} {k : Str} (h : k ∈ ps.map (·.1)) : lookO ps k = some (look ps k) := by
  obtain ⟨p, hp, e⟩ := List.mem_map.mp h
  unfold look
  cases z : lookO ps k with
  | some y => rfl
  | none =>
    unfold lookO at z
    rw [Option.map_eq_none_iff, List.find?_eq_none] at z
    exact absurd (decide_eq_true e) (z p hp)
def renOf (F : FamT) (ps : List (Str × Str)) : FamT := (srt (ps.map (·.2)), srt (F.2.map fun l => srt (l.map (look ps))))
structure Nmg (F : FamT) (ps : List (Str × Str)) : Prop where
  g : GoodF goodName F
  k : ps.map (·.1) = F.1
  v : ∀ p ∈ ps, goodName p.2 = true
  n : (ps.map (·.2)).Nodup
  l : F.1.length ≤ 30
def spRen : Sp := fun vs H Q _ => ∃ v d F ps A, vs = [v, .ref d] ∧ Ex A H ∧ rep A v F ∧ A d = some (.dK (kvsOf ps)) ∧ Nmg F ps ∧ EndD A H (renOf F ps) Q
theorem ed_dget {σ : L2.St} {A : Hp} {te : TE} {i : Nat} {d : Addr} {ps : List (Str × Str)} {x : Str} (hσ : σ[i]? = some (some (.ref d))) (hd : A d = some (.dK (kvsOf ps))) (h : EvD te σ A x) (m : x ∈ ps.map (·.1)) : EvD (tDGet (tVar i) te) σ A (look ps x) := fun H1 e Q q =>
  ⟨.ref d, hσ, h H1 e _ fun v H2 Hs e2 s r => ⟨d, .str (look ps x), rfl, .inl ⟨kvsOf ps, .inr x, .inl (e2 _ _ (e _ _ hd)), r, by rw [valV_kvs, look_in m]; rfl⟩, q _ H2 (fun _ => none) e2 ⟨fun _ _ z => (by cases z), fun _ _ z => (by cases z)⟩ rfl⟩⟩
theorem ed_din {σ : L2.St} {A : Hp} {te : TE} {i : Nat} {d : Addr} {ps : List (Str × Str)} {x : Str} (hσ : σ[i]? = some (some (.ref d))) (hd : A d = some (.dK (kvsOf ps))) (h : EvD te σ A x) (m : x ∈ ps.map (·.1)) : EvD (tDIn te (tVar i)) σ A true := fun H1 e Q q =>
  h H1 e _ fun v H2 Hs e2 s r => ⟨.ref d, hσ, d, some (.str (look ps x)), rfl, .inl ⟨kvsOf ps, .inr x, .inl (e2 _ _ (e _ _ hd)), r, by rw [valV_kvs, look_in m]; rfl⟩, q _ H2 (fun _ => none) e2 ⟨fun _ _ z => (by cases z), fun _ _ z => (by cases z)⟩ rfl⟩
theorem uK0 {k : Nat} {A : Around} (hr : Room k A) : A.units + 2 + Datum.depth Str < cLine := by
  have h := hr.un
  show A.units + 2 + 0 < cLine
  omega
section
variable {P : Program} {w : World} {K : PySem.W.Frag} {mg : Str → Option Value} {base : Heap} {f : Addr} {fd : FuncData} {fL fN f1 fK fS fO fH fF fT : Addr} {dL dN d1 dK dS dO dH dF dT : FuncData} {fC fW fU fV Pt : Addr} {dC dW dU dV : FuncData}
abbrev NRen : List Str := ["family", "naming", "keepers", "lots", "names", "one", "name", "lot"]
abbrev scRenI : Scope := { kind := .function, names := [(".0", .local), ("lot", .local), ("sorted", .globalImplicit), ("naming", .cell)], isGenerator := false, isCoroutine := false }
end
end K07
/-! text D19 -/
set_option Elab.async false
set_option linter.all false
set_option maxRecDepth 100000
set_option maxHeartbeats 4000000
/-! apart_pairs -/
namespace K07
open PySem PySem.Spec PyProof.Rows L2 Evl PySem.W Dw Dw.DV RZ StX Lot LmV LamX NdefX
/-- the pairs of the i-th lot: the first k behind it -/
def apRow (L : List (List Str)) (i k : Nat) : List (Int × Int) := ((List.range k).filter fun j => !meetP (L.getD i []) (L.getD (i + 1 + j) [])).map fun j => ((i : Int), ((i + 1 + j : Nat) : Int))
def apTo (L : List (List Str)) : Nat → List (Int × Int)
  | 0 => []
  | i + 1 => apTo L i ++ apRow L i (L.length - (i + 1))
def apartOf (L : List (List Str)) : List (Int × Int) := apTo L L.length
theorem apRow_len (L : List (List Str)) (i k : Nat) : (apRow L i k).length ≤ k := by
  unfold apRow
  rw [List.length_map]
  exact Nat.le_trans (List.length_filter_le _ _) (Nat.le_of_eq List.length_range)
theorem apTo_len (L : List (List Str)) : ∀ i, (apTo L i).length ≤ i * L.length
  | 0 => Nat.zero_le _
  | i + 1 => by
    have h1 := apTo_len L i
    have h2 := apRow_len L i (L.length - (i + 1))
    show (apTo L i ++ apRow L i _).length ≤ _
    rw [List.length_append, Nat.succ_mul]
    omega
section
variable {P : Program} {w : World} {K : PySem.W.Frag} {mg : Str → Option Value} {base : Heap} {f : Addr} {fd : FuncData} {fL fN f1 fK fS fO fH fF fT : Addr} {dL dN d1 dK dS dO dH dF dT : FuncData} {fC fM : Addr} {dC dM : FuncData}
abbrev NAp : List Str := ["family", "lots", "found", "index", "one", "place"]
abbrev spMeetP : Sp := sp2 (fun (_ other : List Str) => other.length ≤ 1000) meetP
abbrev spApart : Sp := sp1 (fun F : FamT => GoodF goodName F ∧ F.2.length ≤ 150) (fun F => apartOf F.2)
end
end K07
/-! text D20 -/
set_option Elab.async false
set_option linter.all false
set_option maxRecDepth 100000
set_option maxHeartbeats 4000000
/-! size_counts -/
namespace K07
open PySem PySem.Spec PyProof.Rows L2 Evl PySem.W Dw Dw.DV RZ StX Lot LmV LamX NdefX
def sizesOf (L : List (List Str)) : List Int := srt (L.map fun l => (l.length : Int))
def countsKV (L : List (List Str)) : List (Key × V) := (srt (once (sizesOf L))).map fun k => ((Sum.inl k : Key), V.int ((sizesOf L).count k : Nat))
theorem counts_nodup (L : List (List Str)) : ((countsKV L).map (·.1)).Nodup := by
  unfold countsKV
  rw [List.map_map]
  exact List.Pairwise.map _ (fun a b h z => h (Sum.inl.inj z)) ((srt_perm _).nodup_iff.mpr (once_nodup _))
theorem sizes_len (L : List (List Str)) : (sizesOf L).length = L.length := by
  unfold sizesOf
  rw [srt_len, List.length_map]
section
variable {P : Program} {w : World} {K : PySem.W.Frag} {mg : Str → Option Value} {base : Heap} {f : Addr} {fd : FuncData} {fL fN f1 fK fS fO fH fF fT : Addr} {dL dN d1 dK dS dO dH dF dT : FuncData} {fC fM : Addr} {dC dM : FuncData}
theorem uI {k : Nat} {A : Around} (hr : Room k A) : A.units + 2 + Datum.depth Int < cLine := by
  have h := hr.un
  show A.units + 2 + 0 < cLine
  omega
abbrev NCn : List Str := ["family", "sizes", "lot", "one", "size"]
def spCounts : Sp := fun vs H Q _ => ∃ v F A, vs = [v] ∧ Ex A H ∧ rep A v F ∧ (GoodF goodName F ∧ F.2.length ≤ 60) ∧ ∀ D H', Ex H H' → H D = none → H' D = some (.dK (countsKV F.2)) → Q (.ref D) H'
end
end K07
/-! text D21 -/
set_option Elab.async false
set_option linter.all false
set_option maxRecDepth 100000
set_option maxHeartbeats 4000000
/-! the spring of draws: start, draw, mixed -/
namespace K07
open PySem PySem.Spec PyProof.Rows L2 Evl
/-- all but these stay -/
def ExB (ex : List Addr) (H H' : Hp) : Prop := ∀ b o, b ∉ ex → H b = some o → H' b = some o
theorem ExB.refl (ex : List Addr) (H : Hp) : ExB ex H H := fun _ _ _ h => h
theorem ExB.trans {ex : List Addr} {H H1 H2 : Hp} (a : ExB ex H H1) (b : ExB ex H1 H2) : ExB ex H H2 := fun c o n h => b c o n (a c o n h)
theorem ExB.of {ex : List Addr} {H H' : Hp} (e : Ex H H') : ExB ex H H' := fun b o _ h => e b o h
theorem ExB.new {ex : List Addr} {H : Hp} {p : Addr} {o : HO} (h : H p = none) : ExB ex H (upd H p o) := ExB.of (Ex.new h)
theorem ExB.mut {ex : List Addr} {H : Hp} {p : Addr} {o : HO} (h : p ∈ ex) : ExB ex H (upd H p o) := fun b u n e => by
  rw [upd_ne (fun z => n (by rw [z]; exact h))]
  exact e
/-- the spring at p, its cells at c: at most n draws so far -/
structure St (H : Hp) (p c : Addr) (n : Int) : Prop where
  ne : p ≠ c
  ok : ∃ (cells : List Int) (rest cnt mix : Int), H p = some (.lst [.ref c, .int rest, .int cnt, .int mix]) ∧ H c = some (.lst (cells.map V.int)) ∧ cells.length ≤ 63 ∧ 0 ≤ rest ∧ 0 ≤ cnt ∧ cnt ≤ n ∧ 0 ≤ mix ∧ mix < 2147483647
section
variable {P : Program} {w : World} {K : PySem.W.Frag} {mg : Str → Option Value} {base : Heap} {f : Addr} {fd : FuncData}
theorem scStart : FnScope ["script"] ["script"] (defScope (top 45)) := ⟨rfl, rfl, rfl, by decide +kernel, rfl, by decide +kernel, by decide +kernel⟩
def spStart (K : PySem.W.Frag) : Sp := fun vs H Q _ => ∃ (a : Addr) (ns : List Int), vs = [.ref a] ∧ SqL K H a (ns.map V.int) ∧ ns.length ≤ 63 ∧ ∀ H' p c, Ex H H' → H p = none → H c = none → St H' p c 0 → Q (.ref p) H'
theorem ok_start (F : FnP K "_law_start" (top 45) f fd) (ml : mg "list" = none) : FnOk P w K mg base CX0 1 f fd ["script"] (spStart K) := by
  refine F.ok scStart (fun vs H Q E h => ?_) (fun cdv A outer s H vs Q E hr h => ?_)
  · obtain ⟨a, ns, rfl, _⟩ := h
    rfl
  · obtain ⟨a, ns, rfl, hS, hl, q⟩ := h
    refine ⟨_, PSs.nox (pss_one (ps_ret (pe_lst (pa_cons (pe_callTy call_list_of (by rfl) ml (by decide +kernel) (pa_cons (pv 0) pa_nil)) (pa_cons pe_int (pa_cons pe_int (pa_cons pe_int pa_nil))))))), ?_⟩
    refine ⟨.ref a, rfl, a, _, rfl, .inl hS, fun c nc => ⟨by show 4 ≤ sizeLine; decide, fun p np => ?_⟩⟩
    have ne : p ≠ c := fun z => by
      rw [z, upd_same] at np
      cases np
    have np0 : H p = none := by
      rw [upd_ne ne] at np
      exact np
    refine q _ p c ((Ex.new nc).trans (Ex.new np)) np0 nc ⟨ne, ns, 0, 0, 89, upd_same, ?_, hl, by decide, by decide, by decide, by decide, by decide⟩
    rw [upd_ne ne.symm, upd_same]
end
theorem shaped_ints : ∀ ns : List Int, SeqAt.shaped (.list (ns.map PyData.int)) = true := fun ns => by
  have h1 : ∀ ns : List Int, PyData.canLayAll0 (ns.map PyData.int) = true := by
    intro ns
    induction ns with
    | nil => rfl
    | cons a r ih =>
      show (PyData.canLay0 (.int a) && PyData.canLayAll0 (r.map PyData.int)) = true
      rw [ih]
      rfl
  have h2 : ∀ ns : List Int, (PyData.list (ns.map PyData.int)).depth ≤ 1 := by
    intro ns
    induction ns with
    | nil => simp [PyData.depth, PyData.depthAll]
    | cons a r ih =>
      simp [PyData.depth, PyData.depthAll] at ih ⊢
      omega
  unfold SeqAt.shaped
  rw [show PyData.canLay0 (.list (ns.map PyData.int)) = true from h1 ns, decide_eq_true (Nat.le_trans (h2 ns) (by decide))]
  rfl
section
variable {P : Program} {w : World} {K : PySem.W.Frag} {mg : Str → Option Value} {base : Heap} {f : Addr} {fd : FuncData}
theorem dp_ints {H : Hp} : ∀ ns : List Int, DpAll K H (ns.map V.int) (ns.map PyData.int)
  | [] => .nil
  | a :: r => .cons (.int a) (dp_ints r)
theorem eqv_nil : ∀ ns : List Int, PyData.eqv (.list (ns.map PyData.int)) (.list []) = ns.isEmpty
  | [] => rfl
  | _ :: _ => rfl
theorem scDraw : FnScope ["stream", "many", "cell", "digit", "mixed"] ["stream", "many"] (defScope (top 46)) := ⟨rfl, rfl, rfl, by decide +kernel, rfl, by decide +kernel, by decide +kernel⟩
def spDraw : Sp := fun vs H Q _ => ∃ (p c : Addr) (n many : Int), vs = [.ref p, .int many] ∧ St H p c n ∧ n ≤ 1000000 ∧ 0 < many ∧ many < 1000000 ∧
  ∀ r H', 0 ≤ r → r < many → ExB [p, c] H H' → St H' p c (n + 1) → Q (.int r) H'
theorem seqIx0 (n : Nat) : seqIndex? 0 (n + 1) = some 0 := by
  unfold seqIndex?
  simp
theorem mix_bound (z cnt : Int) (h0 : 0 ≤ cnt) (h1 : cnt ≤ 1000000) : (z % 2147483629 * 63029 + 74017 * (cnt + 1) + 61).natAbs < 2 ^ 64 := by
  have x0 := Int.emod_nonneg z (show (2147483629 : Int) ≠ 0 by decide)
  have x1 := Int.emod_lt_of_pos z (show (0 : Int) < 2147483629 by decide)
  omega
theorem hu64 {k : Nat} {A : Around} (hr : Room k A) : A.units + 64 < cLine := by
  have := hr.un
  omega
abbrev NDraw : List Str := ["stream", "many", "cell", "digit", "mixed"]
theorem ok_draw (F : FnP K "_law_draw" (top 46) f fd) (mi : mg "int" = none) : FnOk P w K mg base CX0 1 f fd ["stream", "many"] spDraw := by
  refine F.ok scDraw (fun vs H Q E h => ?_) (fun cdv A outer s H vs Q E hr h => ?_)
  · obtain ⟨p, c, n, many, rfl, _⟩ := h
    rfl
  · obtain ⟨p, c, n, many, rfl, ⟨ne, cells, rest, cnt, mix, hp, hc, hl, h0, c0, cn, m0, m1⟩, hn, hm0, hm1, q⟩ := h
    have seg : ∃ tA, PSs (cxOf CX0 P w K mg base NDraw "_law_draw" (defScope (top 46)) f cdv A outer s H E).nox ((defBody (top 46)).drop 2) tA ∧
        ∀ (y2 y3 y4 : Option V) (cells : List Int) (rest mix : Int) (H1 : Hp), H1 p = some (.lst [.ref c, .int rest, .int (cnt + 1), .int mix]) → H1 c = some (.lst (cells.map V.int)) → cells.length ≤ 63 → 0 ≤ rest → 0 ≤ mix → mix < 2147483647 → ExB [p, c] H H1 →
          tA { nx := fun _ H' => Q .non H', rt := Q } [some (.ref p), some (.int many), y2, y3, y4] H1 := by
      refine ⟨_, pss_cons (ps_if (pt_cmpR op_gt (pe_ix ix_list (pv 0) pe_int (fun _ _ => rfl)) pe_int (nomark _))
        (pss_cons (ps_set (i := 3) scDraw.nd rfl (.inl rfl) (pe_op op_mod (pe_callTy call_int1 (by rfl) mi (by decide +kernel) (pa_cons (pe_ix ix_list (pv 0) pe_int (fun _ _ => rfl)) pa_nil)) (pv 1)))
        (pss_cons (ps_asg (pe_op op_fdiv (pe_ix ix_list (pv 0) pe_int (fun _ _ => rfl)) (pv 1)) (pg_sub (pv 0) pe_int set_list))
        (pss_one (ps_ret (pv 3))))) pss_nil)
      (pss_cons (ps_set (i := 4) scDraw.nd rfl (.inl rfl) (pe_op op_mod (pe_callTy call_int1 (by rfl) mi (by decide +kernel) (pa_cons (pe_op op_pow (pe_op op_add (pe_op op_add (pe_ix ix_list (pv 0) pe_int (fun _ _ => rfl)) (pe_op op_mul pe_int (pe_ix ix_list (pv 0) pe_int (fun _ _ => rfl)))) pe_int) pe_int) pa_nil)) pe_int))
      (pss_one (ps_ret (pe_op op_mod (pe_op op_mod (pe_callTy call_int1 (by rfl) mi (by decide +kernel) (pa_cons (pe_op op_pow (pe_op op_add (pe_op op_add (pe_op op_mul (pv 4) pe_int) (pe_op op_mul pe_int (pe_ix ix_list (pv 0) pe_int (fun _ _ => rfl)))) pe_int) pe_int) pa_nil)) pe_int) (pv 1))))),
        fun y2 y3 y4 cells rest mix H1 hp hc hl h0 m0 m1 e1 => ?_⟩
      refine ⟨.ref p, rfl, p, _, 1, .int rest, rfl, rfl, sq_of hp, rfl, _, _, rfl, rfl, _, rfl, ite2 (fun e => ?_) (fun e => ?_)⟩
      · have hrest : 0 < rest := of_decide_eq_true e
        refine ⟨.ref p, rfl, p, _, 1, .int rest, rfl, rfl, sq_of hp, rfl, .inl ⟨rest, rfl, .int many, rfl, _, _, rfl, rfl, hm0, ?_⟩⟩
        refine ⟨.ref p, rfl, p, _, 1, .int rest, rfl, rfl, sq_of hp, rfl, .int many, rfl, _, _, rfl, rfl, ⟨hm0, by omega⟩, .ref p, rfl, p, _, 1, 1, rfl, rfl, hp, rfl, ?_⟩
        refine ⟨_, rfl, q _ _ (Int.emod_nonneg _ (by omega)) (Int.emod_lt_of_pos _ hm0) (e1.trans (ExB.mut (by simp))) ⟨ne, cells, rest / many, cnt + 1, mix, upd_same, by rw [upd_ne ne.symm]; exact hc, hl, Int.ediv_nonneg h0 (by omega), by omega, by omega, m0, m1⟩⟩
      · refine ⟨.ref p, rfl, p, _, 3, .int mix, rfl, rfl, sq_of hp, rfl, .ref p, rfl, p, _, 2, .int (cnt + 1), rfl, rfl, sq_of hp, rfl, _, _, rfl, rfl, .inl ⟨by decide, by decide⟩, _, _, rfl, rfl, _, _, rfl, rfl, _, _, rfl, rfl, ⟨by decide, by decide, by omega⟩,
          .inl ⟨_, rfl, _, _, rfl, rfl, (by show (0 : Int) < 2147483629; decide), ?_⟩⟩
        refine ⟨_, rfl, _, _, rfl, rfl, .inr ⟨by decide, by decide⟩, .ref p, rfl, p, _, 2, .int (cnt + 1), rfl, rfl, sq_of hp, rfl, _, _, rfl, rfl, .inl ⟨by decide, by decide⟩, _, _, rfl, rfl, _, _, rfl, rfl, _, _, rfl, rfl, ⟨by decide, by decide, mix_bound _ _ c0 (by omega)⟩,
          .inl ⟨_, rfl, _, _, rfl, rfl, (by show (0 : Int) < 1000000007; decide), .int many, rfl, _, _, rfl, rfl, hm0, ?_⟩⟩
        exact q _ _ (Int.emod_nonneg _ (by omega)) (Int.emod_lt_of_pos _ hm0) e1 ⟨ne, cells, rest, cnt + 1, mix, hp, hc, hl, h0, by omega, by omega, m0, m1⟩
    obtain ⟨tA, dA, pA⟩ := seg
    refine ⟨_, PSs.nox (pss_cons (ps_asg (pe_op op_add (pe_ix ix_list (pv 0) pe_int (fun _ _ => rfl)) pe_int) (pg_sub (pv 0) pe_int set_list))
      (pss_cons (ps_while PassesOwn.never (pw_and (pt_cmpR op_eq (pe_ix ix_list (pv 0) pe_int (fun _ _ => rfl)) pe_int (nomark _)) (pw_and1 (pt_cmpR (op_neD (hu64 hr)) (pe_ix ix_list (pv 0) pe_int (fun _ _ => rfl)) (pe_lst pa_nil) (nomark _)))).pt
        (pss_cons (ps_set (i := 2) scDraw.nd rfl (.inl rfl) (pe_bm PySem.F.plainAttrs_list PySem.F.slot_list_pop PySem.F.type_list_pop mt_popAt (pe_ix ix_list (pv 0) pe_int (fun _ _ => rfl)) (pa_cons pe_int pa_nil)))
        (pss_cons (ps_asg (pe_op op_mod (pe_callTy call_int1 (by rfl) mi (by decide +kernel) (pa_cons (pe_op op_add (pe_op op_add (pe_op op_mul (pe_ix ix_list (pv 0) pe_int (fun _ _ => rfl)) pe_int) (pv 2)) pe_int) pa_nil)) pe_int) (pg_sub (pv 0) pe_int set_list))
        (pss_one (ps_asg (pe_ifExp (pt_cmpR op_ge (pv 2) (pe_op op_pow pe_int pe_int) (nomark _)) (pv 2) pe_int) (pg_sub (pv 0) pe_int set_list)))))) dA)), ?_⟩
    -- stream[2] = stream[2] + 1
    refine ⟨.ref p, rfl, p, _, 2, .int cnt, rfl, rfl, sq_of hp, rfl, _, _, rfl, rfl, .ref p, rfl, p, _, 2, 2, rfl, rfl, hp, rfl, ?_⟩
    have e1 : ExB [p, c] H (upd H p (.lst [.ref c, .int rest, .int (cnt + 1), .int mix])) := ExB.mut (by simp)
    -- while
    refine ⟨fun m σ H1 => ∃ y2 y3 y4 cells rest mix, σ = [some (.ref p), some (.int many), y2, y3, y4] ∧ m = cells.length ∧ H1 p = some (.lst [.ref c, .int rest, .int (cnt + 1), .int mix]) ∧ H1 c = some (.lst (cells.map V.int)) ∧ cells.length ≤ 63 ∧ 0 ≤ rest ∧ 0 ≤ mix ∧ mix < 2147483647 ∧ ExB [p, c] H H1,
      ⟨cells.length, none, none, none, cells, rest, mix, rfl, rfl, upd_same, by rw [upd_ne ne.symm]; exact hc, hl, h0, m0, m1, e1⟩, fun m σ H1 hW => ?_⟩
    clear hp hc hl h0 m0 m1 e1
    obtain ⟨y2, y3, y4, cells, rest, mix, rfl, rfl, hp, hc, hl, h0, m0, m1, e1⟩ := hW
    refine ⟨.ref p, rfl, p, _, 1, .int rest, rfl, rfl, sq_of hp, rfl, rfl, _, rfl, ite2 (fun e => ?_) (fun e => ?_)⟩
    · have hrest : rest = 0 := V.int.inj (of_decide_eq_true e)
      refine ⟨.ref p, rfl, p, _, 0, .ref c, rfl, rfl, sq_of hp, rfl, Nat.zero_le _, fun l nl => ?_⟩
      have lp : p ≠ l := ne_of_none hp nl
      have lc : c ≠ l := ne_of_none hc nl
      have hp2 : (upd H1 l (.lst [])) p = some (.lst [.ref c, .int rest, .int (cnt + 1), .int mix]) := by rw [upd_ne lp]; exact hp
      have hc2 : (upd H1 l (.lst [])) c = some (.lst (cells.map V.int)) := by rw [upd_ne lc]; exact hc
      have e2 : ExB [p, c] H (upd H1 l (.lst [])) := e1.trans (ExB.new nl)
      refine ⟨_, _, .lst (sq_of hc2) (dp_ints cells), .lst (sq_of upd_same) .nil, shaped_ints cells, by decide, _, rfl, ?_⟩
      rw [eqv_nil]
      cases cells with
      | nil =>
        exact pA y2 y3 y4 [] rest mix _ hp2 hc2 hl h0 m0 m1 e2
      | cons z r =>
        rw [if_pos (by rfl)]
        refine ⟨fun σ' H' => ∃ y2 y3 y4 rest mix, σ' = [some (.ref p), some (.int many), y2, y3, y4] ∧ H' p = some (.lst [.ref c, .int rest, .int (cnt + 1), .int mix]) ∧ H' c = some (.lst (r.map V.int)) ∧ 0 ≤ rest ∧ 0 ≤ mix ∧ mix < 2147483647 ∧ ExB [p, c] H H', fun σ' H' hN => ?_, ?_⟩
        · obtain ⟨y2, y3, y4, rest, mix, rfl, g1, g2, g3, g4, g5, g6⟩ := hN
          exact ⟨r.length, by simp, y2, y3, y4, r, rest, mix, rfl, rfl, g1, g2, by simp at hl; omega, g3, g4, g5, g6⟩
        · refine ⟨.ref p, rfl, p, _, 0, .ref c, rfl, rfl, sq_of hp2, rfl, .inl ⟨rfl, _, sq_of hc2⟩, c, _, 0, 0, .int z, rfl, rfl, hc2, by decide, by decide, ?_, rfl, ?_⟩
          · rw [List.length_map, List.length_cons]
            exact seqIx0 _
          · -- stream[3] = int(stream[3] * 72103 + cell + 43) % 2147483647
            have np : p ≠ c := ne
            have hp3 : ∀ o, (upd (upd H1 l (.lst [])) c o) p = some (.lst [.ref c, .int rest, .int (cnt + 1), .int mix]) := fun o => by rw [upd_ne np]; exact hp2
            refine ⟨.ref p, rfl, p, _, 3, .int mix, rfl, rfl, sq_of (hp3 _), rfl, _, _, rfl, rfl, .inl ⟨by omega, by omega⟩, .int z, rfl, _, _, rfl, rfl, _, _, rfl, rfl, .inl ⟨_, rfl, _, _, rfl, rfl, (by show (0 : Int) < 2147483647; decide), ?_⟩⟩
            refine ⟨.ref p, rfl, p, _, 3, 3, rfl, rfl, hp3 _, rfl, ?_⟩
            have hm2 : 0 ≤ (mix * 72103 + z + 43) % 2147483647 := Int.emod_nonneg _ (by decide)
            have hm3 : (mix * 72103 + z + 43) % 2147483647 < 2147483647 := Int.emod_lt_of_pos _ (by decide)
            have fin : ∀ r1 : Int, 0 ≤ r1 → ExB [p, c] H (upd (upd (upd (upd H1 l (.lst [])) c (.lst (r.map V.int))) p (.lst [.ref c, .int rest, .int (cnt + 1), .int ((mix * 72103 + z + 43) % 2147483647)])) p (.lst [.ref c, .int r1, .int (cnt + 1), .int ((mix * 72103 + z + 43) % 2147483647)])) := fun r1 _ =>
              ((e2.trans (ExB.mut (by simp))).trans (ExB.mut (by simp))).trans (ExB.mut (by simp))
            refine ⟨.int z, rfl, _, _, rfl, rfl, ⟨by decide, by decide, by decide⟩, _, _, rfl, rfl, _, rfl, ite2 (fun e => ?_) (fun e => ?_)⟩
            · have hz : (10 : Int) ^ (18 : Int).toNat ≤ z := of_decide_eq_true e
              refine ⟨.int z, rfl, .ref p, rfl, p, _, 1, 1, rfl, rfl, upd_same, rfl, ?_⟩
              refine ⟨_, _, _, z, _, rfl, upd_same, ?_, ?_, hm2, hm3, fin z ?_⟩
              · rw [upd_ne np.symm, upd_ne np.symm, upd_same]
                rfl
              · have : (0 : Int) ≤ (10 : Int) ^ (18 : Int).toNat := by decide
                omega
              · have : (0 : Int) ≤ (10 : Int) ^ (18 : Int).toNat := by decide
                omega
            · refine ⟨.ref p, rfl, p, _, 1, 1, rfl, rfl, upd_same, rfl, ?_⟩
              refine ⟨_, _, _, 0, _, rfl, upd_same, ?_, by decide, hm2, hm3, fin 0 (by decide)⟩
              rw [upd_ne np.symm, upd_ne np.symm, upd_same]
              rfl
    · exact pA y2 y3 y4 cells rest mix _ hp hc hl h0 m0 m1 e1
end
theorem St.ext {H H' : Hp} {p c : Addr} {n m : Int} (s : St H p c n) (hp : H' p = H p) (hc : H' c = H c) (hn : n ≤ m) : St H' p c m := by
  obtain ⟨ne, cells, rest, cnt, mix, h1, h2, h3, h4, h5, h6, h7, h8⟩ := s
  exact ⟨ne, cells, rest, cnt, mix, hp.trans h1, hc.trans h2, h3, h4, h5, by omega, h7, h8⟩
theorem St.p {H : Hp} {p c : Addr} {n : Int} (s : St H p c n) : ∃ o, H p = some o := by
  obtain ⟨ne, cells, rest, cnt, mix, h1, h2, h3, h4, h5, h6, h7, h8⟩ := s
  exact ⟨_, h1⟩
theorem St.c {H : Hp} {p c : Addr} {n : Int} (s : St H p c n) : ∃ o, H c = some o := by
  obtain ⟨ne, cells, rest, cnt, mix, h1, h2, h3, h4, h5, h6, h7, h8⟩ := s
  exact ⟨_, h2⟩
theorem seqIx {r : Int} {n : Nat} (h0 : 0 ≤ r) (h1 : r < n) : seqIndex? r n = some r.toNat := by
  unfold seqIndex?
  simp
  omega
section
variable {P : Program} {w : World} {K : PySem.W.Frag} {mg : Str → Option Value} {base : Heap} {f fD : Addr} {fd fdD : FuncData}
abbrev NMixed : List Str := ["stream", "some", "left", "k"]
theorem cons_erase_perm {α : Type} : ∀ (l : List α) {i : Nat} (h : i < l.length), ([l[i]] ++ l.eraseIdx i).Perm l
  | a :: l, 0, _ => .refl _
  | a :: l, i + 1, h => by
    have h' : i < l.length := Nat.lt_of_succ_lt_succ h
    show (l[i] :: a :: l.eraseIdx i).Perm (a :: l)
    exact (List.Perm.swap _ _ _).trans ((cons_erase_perm l h').cons a)
theorem scMixed : FnScope NMixed ["stream", "some"] (defScope (top 47)) := ⟨rfl, rfl, rfl, by decide +kernel, rfl, by decide +kernel, by decide +kernel⟩
def spMixed (K : PySem.W.Frag) : Sp := fun vs H Q _ => ∃ (p c a : Addr) (xs : List V) (n : Int), vs = [.ref p, .ref a] ∧ St H p c n ∧ SqL K H a xs ∧ xs.length ≤ 1000 ∧ n + 1000 ≤ 1000000 ∧
  ∀ ys q H', ys.Perm xs → ExB [p, c] H H' → St H' p c (n + xs.length) → H q = none → H' q = some (.lst ys) → Q (.ref q) H'
theorem ok_mixed (F : FnP K "_law_mixed" (top 47) f fd) (FD : FnP K "_law_draw" (top 46) fD fdD) (gD : mg "_law_draw" = some (.ref fD)) (mi : mg "int" = none) (ml : mg "list" = none) (mn : mg "len" = none) (mr : mg "range" = none) : FnOk P w K mg base CX0 2 f fd ["stream", "some"] (spMixed K) := by
  have GD : FnOk P w K mg base CX0 1 fD fdD ["stream", "many"] spDraw := ok_draw FD mi
  have bD : Binds K fdD ["stream", "many"] [] := FD.bindsN fun _ _ _ _ _ _ us hl => match us, hl with | [_, _], _ => rfl
  refine F.ok scMixed (fun vs H Q E h => ?_) (fun cdv A outer s H vs Q E hr h => ?_)
  · obtain ⟨p, c, a, xs, n, rfl, _⟩ := h
    rfl
  · obtain ⟨p, c, a, xs, n, rfl, hst, hS, hl, hn, q⟩ := h
    refine ⟨_, PSs.nox (pss_cons (ps_set (i := 2) scMixed.nd rfl (.inr rfl) (pe_callTy call_list_of (by rfl) ml (by decide +kernel) (pa_cons (pv 1) pa_nil)))
      (pss_one (ps_ret (pe_lc (own := [("k", 3)]) (g := gName 3) (tt := tYes) (te := tBM K "list" rPopAt (tVar 2) (tCons (tCall spDraw [] E0 (tCons (tVar 0) (tCons (tCB (rLenS K) (tCons (tVar 2) tNil)) tNil))) tNil)) rfl scMixed.nd (pi_range1 (by rfl) mr (pa_cons (pe_callB call_len_seq (by rfl) mn PySem.boot_len (pa_cons (pv 2) pa_nil)) pa_nil)) (blkOk_by (N := NMixed) (sc := defScope (top 47)) (by decide +kernel))
        (fun _ _ _ _ _ => pg_name (i := 3) scMixed.nd rfl (.inl rfl)) (fun _ _ _ _ _ => pts_nil)
        (fun _ _ _ _ _ => pe_bm PySem.F.plainAttrs_list PySem.F.slot_list_pop PySem.F.type_list_pop mt_popAt (pv 2)
          (pa_cons (pe_call GD hr (by rfl) gD FD.kp bD .nil pass0 (pa_cons (pv 0) (pa_cons (pe_callB call_len_seq (by rfl) mn PySem.boot_len (pa_cons (pv 2) pa_nil)) pa_nil))) pa_nil)))))), ?_⟩
    refine ⟨.ref a, rfl, a, xs, rfl, .inl hS, fun l nl => ?_⟩
    refine ⟨.ref l, rfl, l, xs, rfl, .inl (sq_of upd_same), xs.length, rfl, ?_⟩
    refine ⟨by omega, by omega, fun D nD => ?_⟩
    have nl0 := nl
    obtain ⟨o1, hp0⟩ := hst.p
    obtain ⟨o2, hc0⟩ := hst.c
    have lp : p ≠ l := ne_of_none hp0 nl
    have lc : c ≠ l := ne_of_none hc0 nl
    have Dl : l ≠ D := ne_of_none upd_same nD
    have nD0 : H D = none := by
      rw [upd_ne Dl.symm] at nD
      exact nD
    have Dp : p ≠ D := ne_of_none hp0 nD0
    have Dc : c ≠ D := ne_of_none hc0 nD0
    rw [Int.toNat_natCast]
    refine lc_range (fun i H' => ∃ ls acc, H' l = some (.lst ls) ∧ ls.length = xs.length - i ∧ H' D = some (.lst acc) ∧ acc.length = i ∧ (acc ++ ls).Perm xs ∧ St H' p c (n + i) ∧ ExB [p, c] H H')
      ⟨xs, [], by rw [upd_ne Dl, upd_same], by omega, upd_same, rfl, .refl _, hst.ext (by rw [upd_ne Dp, upd_ne lp]) (by rw [upd_ne Dc, upd_ne lc]) (by omega), (ExB.new nl).trans (ExB.new nD)⟩ (fun i H1 hi hI => ?_) (fun H1 hI => ?_)
    · obtain ⟨ls, acc, g1, g2, g4, g5, g6, g7, g8⟩ := hI
      refine ⟨rfl, ?_⟩
      refine ⟨.ref l, rfl, .inl ⟨rfl, _, sq_of g1⟩, .ref p, rfl, .ref l, rfl, l, ls, rfl, .inl (sq_of g1), p, c, n + i, ls.length, rfl, g7, by omega, by omega, by omega, fun r H2 r0 r1 e2 s2 => ?_⟩
      have hlt : r.toNat < ls.length := by omega
      have l2 : H2 l = some (.lst ls) := e2 _ _ (by simp [lp.symm, lc.symm]) g1
      have D2 : H2 D = some (.lst acc) := e2 _ _ (by simp [Dp.symm, Dc.symm]) g4
      refine ⟨l, ls, r, r.toNat, ls[r.toNat], rfl, rfl, l2, by omega, by omega, seqIx r0 r1, List.getElem?_eq_getElem hlt, acc, by rw [upd_ne Dl.symm]; exact D2, small1000 (by omega), ?_⟩
      refine ⟨ls.eraseIdx r.toNat, acc ++ [ls[r.toNat]], by rw [upd_ne Dl, upd_same], ?_, upd_same, by simp [g5], ?_, s2.ext (by rw [upd_ne Dp, upd_ne lp]) (by rw [upd_ne Dc, upd_ne lc]) (by omega), fun b o hb hbo => ?_⟩
      · rw [List.length_eraseIdx_of_lt hlt]
        omega
      · rw [List.append_assoc]
        exact (List.Perm.append_left acc (cons_erase_perm ls hlt)).trans g6
      · have h1 : b ≠ D := ne_of_none hbo nD0
        have h2 : b ≠ l := ne_of_none hbo nl
        rw [upd_ne h1, upd_ne h2]
        exact e2 b o hb (g8 b o hb hbo)
    · obtain ⟨ls, acc, g1, g2, g4, g5, g6, g7, g8⟩ := hI
      have l0 : ls = [] := List.eq_nil_of_length_eq_zero (by omega)
      rw [l0, List.append_nil] at g6
      exact q acc D H1 g6 g8 g7 nD0 g4
end
end K07
/-! text D22 -/
set_option Elab.async false
set_option linter.all false
set_option maxRecDepth 100000
set_option maxHeartbeats 4000000
/-! each once, the law's own least lots -/
namespace K07
open PySem PySem.Spec PyProof.Rows L2 Evl PySem.W Dw Dw.DV RZ StX Lot LmV LamX NdefX
section
variable {P : Program} {w : World} {K : PySem.W.Frag} {mg : Str → Option Value} {base : Heap} {f : Addr} {fd : FuncData} {fO fW : Addr} {dO dW : FuncData}
abbrev NOnce : List Str := ["things", "found", "thing"]
theorem scOnce : FnScope NOnce ["things"] (defScope (top 50)) := ⟨rfl, rfl, rfl, by decide +kernel, rfl, by decide +kernel, by decide +kernel⟩
def spOnce (α : Type) [DecidableEq α] [Datum α] [DV α] : Sp := sp1 (fun xs : List α => xs.length ≤ 1000) once
theorem ok_once {α : Type} [DecidableEq α] [Datum α] [DV α] (hd : Datum.depth α ≤ 10) (F : FnP K "_law_each_once" (top 50) f fd) : FnOk P w K mg base CX0 1 f fd ["things"] (spOnce α) := by
  refine F.ok scOnce (fun vs H Q E h => ?_) (fun cdv A outer s H vs Q E hr h => ?_)
  · obtain ⟨v, _, _, rfl, _⟩ := h
    rfl
  · obtain ⟨v, xs, A0, rfl, eA, hv, hl, q⟩ := h
    have hu : ∀ {X : Cx}, X.A = A.deeper (envOfC "_law_each_once" (defScope (top 50)) s.heap.objs.size f cdv) → X.A.units + 1 + Datum.depth α < cLine := fun {X} e => by
      have h := hr.un
      rw [e]
      omega
    refine ⟨_, PSs.nox (pss_cons (ps_set (i := 1) scOnce.nd rfl (.inl rfl) (pe_lst pa_nil))
      (pss_cons (ps_for PassesOwn.never rfl (pi_list (pv 0)) (pg_name (i := 2) scOnce.nd rfl (.inl rfl))
        (pss_one (ps_if (pt_cmpR (op_notInW (α := α) (hu rfl)) (pv 2) (pv 1) (by rfl)) (pss_one (ps_expr (pe_bm PySem.F.plainAttrs_list PySem.F.slot_list_append PySem.F.type_list_append mt_append (pv 1) (pa_cons (pv 2) pa_nil)))) pss_nil)))
      (pss_one (ps_ret (pv 1))))), ?_⟩
    refine ⟨by show 0 ≤ sizeLine; decide, fun D nD => ?_⟩
    obtain ⟨a, vs, rfl, g1, g2⟩ := hv
    have len := Reps.len g2
    have D0 : A0 D = none := exf eA nD
    refine ⟨.ref a, rfl, a, rfl, ⟨vs, sq_of (Ex.new nD _ _ (eA _ _ g1))⟩, ?_⟩
    refine for_list (xs := vs) (fun i σ H' => ∃ y ws, σ = [some (.ref a), some (.ref D), y] ∧ Ex H H' ∧ H' D = some (.lst ws) ∧ Reps A0 ws (once (xs.take i))) ⟨none, [], rfl, Ex.new nD, upd_same, .nil⟩ (fun i σ H' _ h => ?_) (fun i x σ H' hx h => ?_) (fun σ H' h => ?_)
    · obtain ⟨_, _, _, e, _⟩ := h
      exact sq_of (e _ _ (eA _ _ g1))
    · obtain ⟨y, ws, rfl, e, h1, h2⟩ := h
      obtain ⟨li, _⟩ := List.getElem?_eq_some_iff.mp hx
      obtain ⟨x0, hk⟩ : ∃ x0, xs[i]? = some x0 := ⟨_, List.getElem?_eq_getElem (show i < xs.length by omega)⟩
      have rx := Reps.at g2 hx hk
      have eB : Ex A0 (upd A0 D (.lst ws)) := Ex.new D0
      have eB2 : Ex (upd A0 D (.lst ws)) H' := fun b o z => by
        by_cases q : b = D
        · rw [q, upd_same] at z
          rw [q, h1]
          exact z
        · rw [upd_ne q] at z
          exact e _ _ (eA _ _ z)
      have rf : rep (upd A0 D (.lst ws)) (.ref D) (once (xs.take i)) := ⟨D, ws, rfl, upd_same, Reps.ext eB h2⟩
      have tk : xs.take (i + 1) = xs.take i ++ [x0] := by
        rw [List.take_add_one, hk]
        rfl
      have ol := once_len (xs.take i)
      rw [List.length_take] at ol
      have et := et_test (ev_notInD (x := x0) (xs := once (xs.take i)) (H := upd A0 D (.lst ws)) (ed_var (σ := [some (.ref a), some (.ref D), some x]) (i := 2) (v := x) rfl (DV.ext eB rx)) (ed_var (i := 1) rfl rf))
      refine (et H' eB2 _ fun H4 e4 => ?_ : tIfS (tTest (tOp (rInW α true) (tVar 2) (tVar 1))) _ tNext _ [some (.ref a), some (.ref D), some x] H')
      by_cases m : x0 ∈ once (xs.take i)
      · rw [if_neg (by rw [decide_eq_false (fun z => z m)]; exact Bool.false_ne_true)]
        refine ⟨some x, ws, rfl, e.trans e4, e4 _ _ h1, ?_⟩
        rw [tk, once_snoc, if_pos m]
        exact h2
      · rw [if_pos (decide_eq_true m)]
        refine ⟨.ref D, rfl, .inl ⟨rfl, _, sq_of (e4 _ _ h1)⟩, x, rfl, D, ws, x, rfl, rfl, e4 _ _ h1, by rw [Reps.len h2]; exact sz_lt (by omega), some x, ws ++ [x], rfl, (e.trans e4).mut nD, upd_same, ?_⟩
        rw [tk, once_snoc, if_neg m]
        exact Reps.app h2 (.cons rx .nil)
    · obtain ⟨y, ws, rfl, e, h1, h2⟩ := h
      rw [List.take_of_length_le (by omega)] at h2
      refine ⟨.ref D, rfl, q _ H' (upd A0 D (.lst ws)) e ⟨fun b o z => ?_, fun b o z => ?_⟩ ⟨D, ws, rfl, upd_same, Reps.ext (Ex.new D0) h2⟩⟩
      · by_cases q : b = D
        · rw [q, upd_same] at z
          rw [q, h1]
          exact z
        · rw [upd_ne q] at z
          exact e _ _ (eA _ _ z)
      · by_cases q : b = D
        · rw [q]
          exact .inr nD
        · rw [upd_ne q] at z
          exact .inl z
end
end K07
/-! text D23 -/
set_option Elab.async false
set_option linter.all false
set_option maxRecDepth 100000
set_option maxHeartbeats 4000000
/-! the law's own least lots -/
namespace K07
open PySem PySem.Spec PyProof.Rows L2 Evl PySem.W Dw Dw.DV RZ StX Lot LmV LamX NdefX
def aRows (L : List (List Str)) : List (List Str) := (srt (once (L.map fun l => (⟨srt l⟩ : Tup Str)))).map (·.items)
def aLeast (L : List (List Str)) : List (List Str) := (aRows L).filter fun lot => !((aRows L).any fun other => decide (other ≠ lot) && withinP other lot)
theorem aRows_len (L : List (List Str)) : (aRows L).length ≤ L.length := by
  unfold aRows
  rw [List.length_map, srt_len]
  have := once_len (L.map fun l => (⟨srt l⟩ : Tup Str))
  rwa [List.length_map] at this
theorem aRows_mem {L : List (List Str)} {r : List Str} : r ∈ aRows L ↔ ∃ l ∈ L, srt l = r := by
  unfold aRows
  constructor
  · intro h
    obtain ⟨t, ht, rfl⟩ := List.mem_map.mp h
    obtain ⟨l, hl, e⟩ := List.mem_map.mp (mem_once.mp (srt_mem.mp ht))
    exact ⟨l, hl, by rw [← e]⟩
  · rintro ⟨l, hl, rfl⟩
    exact List.mem_map.mpr ⟨⟨srt l⟩, srt_mem.mpr (mem_once.mpr (List.mem_map.mpr ⟨l, hl, rfl⟩)), rfl⟩
section
variable {P : Program} {w : World} {K : PySem.W.Frag} {mg : Str → Option Value} {base : Heap} {f : Addr} {fd : FuncData} {fO fW : Addr} {dO dW : FuncData}
theorem uTu {k : Nat} {A : Around} (hr : Room k A) : A.units + 2 + Datum.depth (Tup Str) < cLine := by
  have h := hr.un
  show A.units + 2 + 1 < cLine
  omega
abbrev NAl : List Str := ["lots", "some", "row", "lot", "other"]
theorem scAl : FnScope NAl ["lots"] (defScope (top 39)) := ⟨rfl, rfl, rfl, by decide +kernel, rfl, by decide +kernel, by decide +kernel⟩
abbrev spWithin : Sp := sp2 (fun (one _ : List Str) => one.length ≤ 1000) withinP
abbrev spAl : Sp := sp1 (fun L : List (List Str) => L.length ≤ 1000 ∧ (∀ l ∈ L, l ≠ []) ∧ ∀ l ∈ L, l.length ≤ 100) aLeast
abbrev scAlI : Scope := { kind := .function, names := [(".0", .local), ("lot", .cell), ("any", .globalImplicit), ("some", .cell)], isGenerator := false, isCoroutine := false }
theorem ok_al (F : FnP K "_law_a_least" (top 39) f fd) (B : Bn mg) (ON : Df K mg "_law_each_once" 50 fO dO) (WI : Df K mg "_law_a_within" 37 fW dW) : FnOk P w K mg base CX0 2 f fd ["lots"] spAl := by
  have GO : FnOk P w K mg base CX0 1 fO dO ["things"] (spOnce (Tup Str)) := ok_once (by decide) ON.F
  have bO : Binds K dO ["things"] [] := ON.F.bindsN fun _ _ _ _ _ _ us hl => match us, hl with | [_], _ => rfl
  have GW : FnOk P w K mg base CX0 1 fW dW ["one", "other"] spWithin := ok_withinP WI.F B.all
  have bW : Binds K dW ["one", "other"] [] := WI.F.bindsN fun _ _ _ _ _ _ us hl => match us, hl with | [_, _], _ => rfl
  refine F.ok scAl (fun vs H Q E h => ?_) (fun cdv A outer s H vs Q E hr h => ?_)
  · obtain ⟨v, _, _, rfl, _⟩ := h
    rfl
  · obtain ⟨v, L, A0, rfl, eA, hv, ⟨hl, hne, hl2⟩, q⟩ := h
    refine ⟨_, PSs.nox (pss_cons (ps_set (i := 1) scAl.nd rfl (.inr rfl) (pe_lc (own := [("row", 2)]) (g := gName 2) (tt := tYes) (te := tCB (rListS K) (tCons (tVar 2) tNil)) rfl scAl.nd
        (pi_list (pe_callB (cr_sortedWT (β := Str) (uTu hr)) (by rfl) B.sorted (by decide +kernel) (pa_cons (pe_call GO hr (by rfl) ON.g ON.F.kp bO .nil pass0 (pa_cons (pe_lc (own := [("lot", 3)]) (g := gName 3) (tt := tYes) (te := tCB (rTupS K) (tCons (tCB (rSortedW Str) (tCons (tVar 3) tNil)) tNil)) rfl scAl.nd (pi_list (pv 0)) (blkOk_by (N := NAl) (sc := defScope (top 39)) (by decide +kernel))
          (fun _ _ _ _ _ => pg_name (i := 3) scAl.nd rfl (.inl rfl)) (fun _ _ _ _ _ => pts_nil) (fun _ _ _ _ _ => pe_callTy cr_tupS (by rfl) B.tuple (by decide +kernel) (pa_cons (pe_callB (cr_sortedW (α := Str) (fun _ _ z => by cases z) (uK0 hr)) (by rfl) B.sorted (by decide +kernel) (pa_cons (pv 3) pa_nil)) pa_nil))) pa_nil)) pa_nil)))
        (blkOk_by (N := NAl) (sc := defScope (top 39)) (by decide +kernel)) (fun _ _ _ _ _ => pg_name (i := 2) scAl.nd rfl (.inl rfl)) (fun _ _ _ _ _ => pts_nil) (fun _ _ _ _ _ => pe_callTy call_list_of (by rfl) B.list (by decide +kernel) (pa_cons (pv 2) pa_nil))))
      (pss_one (ps_ret (pe_lc (own := [("lot", 3)]) (g := gName 3) (tt := tNot (tB (tCB (rAny K) (tCons (tLc (iList K (tVar 1)) (gName 4) tYes (tAndV (tOp (rEqW (List Str) true) (tVar 4) (tVar 3)) (tCall spWithin [] E0 (tCons (tVar 4) (tCons (tVar 3) tNil)))) [4]) tNil)))) (te := tVar 3) rfl scAl.nd (pi_list (pv 1)) (blkOk_by (N := NAl) (sc := defScope (top 39)) (by decide +kernel))
        (fun _ _ _ _ _ => pg_name (i := 3) scAl.nd rfl (.inr rfl)) (fun _ _ _ _ _ => pts_one (pt_not (pt_val (pe_callB (cr_any rfl) (by rfl) B.any (by decide +kernel) (pa_cons (pe_lc (own := [("other", 4)]) (g := gName 4) (tt := tYes) rfl scAl.nd (pi_list (pv 1)) (blkOk_by (N := NAl) (sc := scAlI) (by decide +kernel))
          (fun _ _ _ _ _ => pg_name (i := 4) scAl.nd rfl (.inl rfl)) (fun _ _ _ _ _ => pts_nil)
          (fun _ _ _ _ _ => pe_and (pe_cmpR (op_neW (α := List Str) (uTL hr)) (pv 4) (pv 3) (by rfl)) (pe_one (pe_call GW hr (by rfl) WI.g WI.F.kp bW .nil pass0 (pa_cons (pv 4) (pa_cons (pv 3) pa_nil)))))) pa_nil))))) (fun _ _ _ _ _ => pv 3))))), ?_⟩
    have l1 := ed_lc (K := K) (σ := [some v, none, none, none, none]) (H := A0) (tl := tVar 0) (tt := tYes) (te := tCB (rTupS K) (tCons (tCB (rSortedW Str) (tCons (tVar 3) tNil)) tNil)) (j := 3) (vs := [3]) (fun _ : List Str => true) (fun l : List Str => (⟨srt l⟩ : Tup Str)) (ed_var rfl hv) (by omega) (fun _ => rfl) (fun _ _ _ _ _ _ => et_yes) fun l z H1 _ _ r _ => ed_tup (ed_sorted (ed_var (i := 3) (v := z) rfl r))
    rw [List.filter_eq_self.mpr (fun _ _ => rfl)] at l1
    have l2 := ed_call1 (E := E0) (P := fun xs : List (Tup Str) => xs.length ≤ 1000) (f := once) l1 (by rw [List.length_map]; exact hl)
    have l3 := ed_sortedT l2 fun t ht => by
      obtain ⟨l, hl, rfl⟩ := List.mem_map.mp (mem_once.mp ht)
      intro z
      have k : (srt l).length = 0 := by
        have z' : srt l = [] := z
        rw [z']
        rfl
      rw [srt_len] at k
      exact hne l hl (List.eq_nil_of_length_eq_zero k)
    have l4 := ed_lc (K := K) (σ := [some v, none, none, none, none]) (H := A0) (tt := tYes) (te := tCB (rListS K) (tCons (tVar 2) tNil)) (j := 2) (vs := [2]) (fun _ : Tup Str => true) (fun t : Tup Str => t.items) l3 (by
      rw [srt_len]
      have := once_len (L.map fun l => (⟨srt l⟩ : Tup Str))
      rw [List.length_map] at this
      omega) (fun _ => rfl) (fun _ _ _ _ _ _ => et_yes) fun t z H1 _ _ r _ => ed_listT (ed_var (i := 2) (v := z) rfl r)
    rw [List.filter_eq_self.mpr (fun _ _ => rfl)] at l4
    refine b_asg (Bs.start eA) l4 fun v1 A1 H1 B1 eA1 r1 => ?_
    have r1' : rep A1 v1 (aRows L) := r1
    have rl := aRows_len L
    have rm : ∀ r ∈ aRows L, r.length ≤ 100 := fun r hr => by
      obtain ⟨l, hl, rfl⟩ := aRows_mem.mp hr
      rw [srt_len]
      exact hl2 l hl
    have fin := ed_lc (K := K) (σ := [some v, some v1, none, none, none]) (H := A1) (tl := tVar 1) (tt := tNot (tB (tCB (rAny K) (tCons (tLc (iList K (tVar 1)) (gName 4) tYes (tAndV (tOp (rEqW (List Str) true) (tVar 4) (tVar 3)) (tCall spWithin [] E0 (tCons (tVar 4) (tCons (tVar 3) tNil)))) [4]) tNil)))) (te := tVar 3) (j := 3) (vs := [3])
      (fun lot : List Str => !((aRows L).any fun other => decide (other ≠ lot) && withinP other lot)) (fun lot : List Str => lot) (ed_var rfl r1') (by omega) (fun _ => rfl) (fun lot z H2 e m r => by
        have k := ed_lc (K := K) (σ := [some v, some v1, none, some z, none]) (H := H2) (tl := tVar 1) (tt := tYes) (te := tAndV (tOp (rEqW (List Str) true) (tVar 4) (tVar 3)) (tCall spWithin [] E0 (tCons (tVar 4) (tCons (tVar 3) tNil)))) (j := 4) (vs := [4]) (fun _ : List Str => true) (fun other : List Str => decide (other ≠ lot) && withinP other lot) (ed_var (v := v1) rfl (DV.ext e r1')) (by omega) (fun _ => rfl) (fun _ _ _ _ _ _ => et_yes)
          fun o z2 H3 e3 mo r2 _ => ed_bl (ev_andV (ev_neD (ed_var (i := 4) (v := z2) rfl r2) (ed_var (i := 3) (v := z) rfl (DV.ext e3 r))) fun _ => ev_of (ed_call2 (ed_var (i := 4) (v := z2) rfl r2) (ed_var (i := 3) (v := z) rfl (DV.ext e3 r)) (by have := rm o mo; omega)))
        have an := ev_anyD (K := K) k
        rw [List.filter_eq_self.mpr (fun _ _ => rfl), List.any_map] at an
        exact et_not (et_B an)) fun lot z H2 _ _ r _ => ed_var (i := 3) (v := z) rfl r
    rw [List.map_id'] at fin
    exact b_ret B1 fin q
end
end K07
/-! text P7 -/
set_option Elab.async false
set_option linter.all false
set_option maxRecDepth 100000
set_option maxHeartbeats 4000000
/-! what least_of and the law's own least lots tell: plain -/
namespace K07
open PySem PySem.Spec PyProof.Rows L2 Evl PySem.W Dw Dw.DV RZ StX Lot
theorem leK_len {a b : List Str} (h : leK a b = true) : a.length ≤ b.length := by
  have e : leK a b = !dataLt (keyD b) (keyD a) := by
    unfold leK
    rw [dataLe_eq]
    rfl
  have k : ∀ x : List Str, keyD x = Datum.toD ((x.length : Int), x) := fun _ => rfl
  rw [e, k, k, DatumOrd.lt_eq, Bool.not_eq_true'] at h
  have h2 : (if ((b.length : Int), b).1 = ((a.length : Int), a).1 then (DatumOrd.lt b a : Bool) else DatumOrd.lt (b.length : Int) (a.length : Int)) = false := h
  by_cases z : (b.length : Int) = (a.length : Int)
  · omega
  · rw [if_neg z] at h2
    have := of_decide_eq_false h2
    omega
theorem leK_tot : ∀ a b : List Str, (leK a b || leK b a) = true := fun a b => by
  have e : ∀ a b, leK a b = !(DatumOrd.lt (((b.length : Int), b) : Int × List Str) ((a.length : Int), a) : Bool) := fun a b => by
    have e : leK a b = !dataLt (keyD b) (keyD a) := by
      unfold leK
      rw [dataLe_eq]
      rfl
    have k : ∀ x : List Str, keyD x = Datum.toD ((x.length : Int), x) := fun _ => rfl
    rw [e, k, k, DatumOrd.lt_eq]
  rw [e, e]
  show ((!(if (b.length : Int) = (a.length : Int) then (DatumOrd.lt b a : Bool) else DatumOrd.lt (b.length : Int) (a.length : Int))) || !(if (a.length : Int) = (b.length : Int) then (DatumOrd.lt a b : Bool) else DatumOrd.lt (a.length : Int) (b.length : Int))) = true
  by_cases z : (b.length : Int) = (a.length : Int)
  · rw [if_pos z, if_pos z.symm]
    cases e1 : (DatumOrd.lt b a : Bool) with
    | false => rfl
    | true =>
      cases e2 : (DatumOrd.lt a b : Bool) with
      | false => rfl
      | true =>
        have q := ll_tot.tr _ _ _ e1 e2
        rw [ll_tot.ir] at q
        cases q
  · rw [if_neg z, if_neg (Ne.symm z)]
    show ((!decide ((b.length : Int) < a.length)) || !decide ((a.length : Int) < b.length)) = true
    by_cases y : (b.length : Int) < a.length
    · rw [decide_eq_false (show ¬ ((a.length : Int) < b.length) by omega)]
      simp
    · rw [decide_eq_false y]
      rfl
theorem leK_tr : ∀ a b c : List Str, leK a b = true → leK b c = true → leK a c = true := fun a b c h1 h2 => by
  have e : ∀ a b, leK a b = !(DatumOrd.lt (((b.length : Int), b) : Int × List Str) ((a.length : Int), a) : Bool) := fun a b => by
    have e : leK a b = !dataLt (keyD b) (keyD a) := by
      unfold leK
      rw [dataLe_eq]
      rfl
    have k : ∀ x : List Str, keyD x = Datum.toD ((x.length : Int), x) := fun _ => rfl
    rw [e, k, k, DatumOrd.lt_eq]
  have l1 := leK_len h1
  have l2 := leK_len h2
  rw [e] at h1 h2 ⊢
  rw [Bool.not_eq_true'] at h1 h2 ⊢
  have h1' : (if (b.length : Int) = (a.length : Int) then (DatumOrd.lt b a : Bool) else DatumOrd.lt (b.length : Int) (a.length : Int)) = false := h1
  have h2' : (if (c.length : Int) = (b.length : Int) then (DatumOrd.lt c b : Bool) else DatumOrd.lt (c.length : Int) (b.length : Int)) = false := h2
  show (if (c.length : Int) = (a.length : Int) then (DatumOrd.lt c a : Bool) else DatumOrd.lt (c.length : Int) (a.length : Int)) = false
  by_cases z : (c.length : Int) = (a.length : Int)
  · rw [if_pos z]
    rw [if_pos (by omega)] at h1' h2'
    exact Tot.letr ll_tot h1' h2'
  · rw [if_neg z]
    exact decide_eq_false (by omega)
theorem srtK_len_sorted (xs : List (List Str)) : (srtK xs).Pairwise fun a b => a.length ≤ b.length :=
  (List.pairwise_mergeSort (le := leK) leK_tr leK_tot xs).imp fun h => leK_len h
theorem least_min {xs : List (List Str)} (h : ∀ l ∈ xs, Asc sl l) : Min sl (leastOf xs) xs := by
  obtain ⟨g1, g2⟩ := greedy_all sl_tot (s := srtK xs) (fun a m => h a (srtK_mem.mp m)) (srtK_len_sorted xs)
  exact ⟨ll_asc.mp (srt_asc ll_tot g2), mn_perm g1 (fun x => srt_mem) fun x => srtK_mem.symm⟩
theorem tup_tot : Tot (DatumOrd.lt : Tup Str → Tup Str → Bool) := by
  refine ⟨fun a => ll_tot.ir a.items, fun a b c h1 h2 => ll_tot.tr a.items b.items c.items h1 h2, fun a b h1 h2 => ?_⟩
  have e := ll_tot.di a.items b.items h1 h2
  cases a
  cases b
  exact congrArg _ e
theorem aRows_asc (L : List (List Str)) : Asc (lex sl) (aRows L) := by
  refine ll_asc.mp ?_
  unfold aRows Asc
  rw [List.pairwise_map]
  exact srt_asc tup_tot (once_nodup _)
theorem aLeast_min (L : List (List Str)) : Min sl (aLeast L) (aRows L) := by
  refine ⟨List.Pairwise.filter _ (aRows_asc L), fun r => ?_⟩
  unfold aLeast
  rw [List.mem_filter]
  refine and_congr_right fun hr => ?_
  rw [Bool.not_eq_true', List.any_eq_false]
  constructor
  · intro h s hs z
    have k := h s hs
    rw [Bool.and_eq_true, not_and] at k
    by_cases e : s = r
    · exact e
    · exact absurd (List.all_eq_true.mpr fun x hx => decide_eq_true (z hx)) (k (decide_eq_true e))
  · intro h s hs z
    rw [Bool.and_eq_true] at z
    exact of_decide_eq_true z.1 (h s hs fun x hx => of_decide_eq_true (List.all_eq_true.mp z.2 x hx))
theorem srt_ascS {l : List Str} (h : l.Nodup) : Asc sl (srt l) := srt_asc sl_tot h
/-- the law's own least lots of ascending lots: as least_of tells -/
theorem aLeast_eq {L : List (List Str)} (h : ∀ l ∈ L, Asc sl l) : aLeast L = leastOf L := by
  refine Min.uniq sl_tot (aLeast_min L) (least_min h) fun x => ?_
  rw [aRows_mem]
  constructor
  · rintro ⟨l, hl, rfl⟩
    rw [srt_id sl_tot (h l hl)]
    exact hl
  · intro hx
    exact ⟨x, hx, srt_id sl_tot (h x hx)⟩
end K07
/-! text D24 -/
set_option Elab.async false
set_option linter.all false
set_option maxRecDepth 100000
set_option maxHeartbeats 4000000
/-! the law's draws of names, lots -/
namespace K07
open PySem PySem.Spec PyProof.Rows L2 Evl PySem.W Dw Dw.DV RZ StX Lot LmV LamX NdefX
/-- the end of a def that draws: what it tells stands on what was handed in (A), or is new -/
def EndS {γ : Type} [DecidableEq γ] [Datum γ] [DV γ] (A H : Hp) (p c : Addr) (n : Int) (G : γ → Prop) (Q : VK) : Prop := ∀ x u H' Hs, G x → ExB [p, c] H H' → St H' p c n → Ex Hs H' → (∀ b o, Hs b = some o → A b = some o ∨ H b = none) → rep Hs u x → Q u H'
theorem St.up {H : Hp} {p c : Addr} {n m : Int} (s : St H p c n) (h : n ≤ m) : St H p c m := s.ext rfl rfl h
/-- what is known goes on standing where only the spring changed -/
theorem exb {A H H' : Hp} {p c : Addr} (e : Ex A H) (hp : A p = none) (hc : A c = none) (b : ExB [p, c] H H') : Ex A H' := fun a o h => b a o (by
  intro m
  rcases List.mem_cons.mp m with z | m
  · rw [z, hp] at h
    cases h
  · rw [List.mem_singleton.mp m, hc] at h
    cases h) (e a o h)
def nameL : List Str := ["a", "b", "lot", "c", "ab", "keepers", "d4", "x9", "twelvesigns0", "twelvesigns1", "z"]
theorem nameL_good : ∀ x ∈ nameL, goodName x = true := by decide +kernel
theorem nameL_nodup : nameL.Nodup := by decide +kernel
section
variable {P : Program} {w : World} {K : PySem.W.Frag} {mg : Str → Option Value} {base : Heap} {f : Addr} {fd : FuncData} {fD fM fA fO fW fLo : Addr} {dD dM dA dO dW dLo : FuncData}
abbrev spDrawK : Sp := spDraw
def spPick : Sp := fun vs H Q _ => ∃ (p c : Addr) (n : Int) (v : V) (xs : List Str) (A : Hp), vs = [.ref p, v] ∧ St H p c n ∧ n ≤ 900000 ∧ Ex A H ∧ A p = none ∧ A c = none ∧ rep A v xs ∧ xs ≠ [] ∧ xs.length ≤ 1000 ∧ ∀ x H', x ∈ xs → ExB [p, c] H H' → St H' p c (n + 1) → Q (.str x) H'
theorem scNames : FnScope ["stream", "many", "some"] ["stream", "many"] (defScope (top 36)) := ⟨rfl, rfl, rfl, by decide +kernel, rfl, by decide +kernel, by decide +kernel⟩
structure Nms (many : Int) (ks : List Str) : Prop where
  k : GoodK goodName ks
  l : (ks.length : Int) = many
  s : ks ⊆ nameL
def spNames : Sp := fun vs H Q _ => ∃ (p c : Addr) (n many : Int), vs = [.ref p, .int many] ∧ St H p c n ∧ n ≤ 900000 ∧ 1 ≤ many ∧ many ≤ 11 ∧ EndS (fun _ => none) H p c (n + 20) (Nms many) Q
theorem cut_take {δ : Type} (xs : List δ) (m : Int) (h0 : 0 ≤ m) (h1 : m.toNat ≤ xs.length) : cutT xs none (some m) = xs.take m.toNat := by
  have e : HT.sIx xs.length xs.length (some m) = m.toNat := by
    show (if m < 0 then (m + (xs.length : Int)).toNat else min m.toNat xs.length) = m.toNat
    rw [if_neg (by omega)]
    omega
  show (xs.drop (HT.sIx xs.length 0 none)).take (HT.sIx xs.length xs.length (some m) - HT.sIx xs.length 0 none) = _
  rw [e]
  rfl
theorem ok_names (F : FnP K "_law_a_names" (top 36) f fd) (B : Bn mg) (DR : Df K mg "_law_draw" 46 fD dD) (MI : Df K mg "_law_mixed" 47 fM dM) : FnOk P w K mg base CX0 3 f fd ["stream", "many"] spNames := by
  have GM : FnOk P w K mg base CX0 2 fM dM ["stream", "some"] (spMixed K) := ok_mixed MI.F DR.F DR.g B.int B.list B.len B.range
  have bM : Binds K dM ["stream", "some"] [] := MI.F.bindsN fun _ _ _ _ _ _ us hl => match us, hl with | [_, _], _ => rfl
  refine F.ok scNames (fun vs H Q E h => ?_) (fun cdv A outer s H vs Q E hr h => ?_)
  · obtain ⟨p, c, n, many, rfl, _⟩ := h
    rfl
  · obtain ⟨p, c, n, many, rfl, hst, hn, h1, h2, q⟩ := h
    refine ⟨_, PSs.nox (pss_cons (ps_set (i := 2) scNames.nd rfl (.inl rfl) (pe_lst (pa_cons pe_str (pa_cons pe_str (pa_cons pe_str (pa_cons pe_str (pa_cons pe_str (pa_cons pe_str (pa_cons pe_str (pa_cons pe_str (pa_cons pe_str (pa_cons pe_str (pa_cons pe_str pa_nil)))))))))))))
      (pss_one (ps_ret (pe_callB (cr_sortedW (α := Str) (fun _ _ z => by cases z) (uK0 hr)) (by rfl) B.sorted (by decide +kernel) (pa_cons (pe_slice sl_list (pe_call GM hr (by rfl) MI.g MI.F.kp bM .nil pass0 (pa_cons (pv 0) (pa_cons (pv 2) pa_nil))) po_none (po_some (pv 1))) pa_nil))))), ?_⟩
    refine ⟨by show 11 ≤ sizeLine; decide, fun l nl => ?_⟩
    obtain ⟨o1, hp0⟩ := hst.p
    obtain ⟨o2, hc0⟩ := hst.c
    have lp : p ≠ l := ne_of_none hp0 nl
    have lc : c ≠ l := ne_of_none hc0 nl
    refine ⟨.ref p, rfl, .ref l, rfl, p, c, l, nameL.map V.str, n, rfl, hst.ext (by rw [upd_ne lp]) (by rw [upd_ne lc]) (Int.le_refl _), sq_of upd_same, by decide +kernel, by omega, fun ys qa H2 perm e2 s2 nq hq => ?_⟩
    obtain ⟨ns, pn, rn⟩ := reps_perm (α := Str) perm (reps_strs (H := fun _ => none) nameL)
    have ey := reps_str rn
    subst ey
    have ln : ns.length = 11 := pn.length_eq
    refine ⟨.int many, rfl, many, rfl, qa, _, rfl, sq_of hq, fun r nr => ?_⟩
    have ec : cutV (ns.map V.str) none (some many) = (ns.take many.toNat).map V.str := by
      have e : cutV (ns.map V.str) none (some many) = cutT (ns.map V.str) none (some many) := rfl
      rw [e, cut_take _ _ (by omega) (by rw [List.length_map]; omega), List.map_take]
    rw [ec]
    refine ⟨r, ns.take many.toNat, upd (fun _ => none) r (.lst ((ns.take many.toNat).map V.str)), rfl, fun b o z => ?_, ⟨r, _, rfl, upd_same, reps_strs _⟩, fun p2 ws np hr2 => ?_⟩
    · by_cases y : b = r
      · rw [y, upd_same] at z ⊢
        exact z
      · rw [upd_ne y] at z
        cases z
    have ws2 := reps_str hr2
    subst ws2
    have nd : ns.Nodup := pn.nodup_iff.mpr nameL_nodup
    have ms : ∀ x ∈ srt (ns.take many.toNat), x ∈ nameL := fun x hx => pn.mem_iff.mp (List.mem_of_mem_take (srt_mem.mp hx))
    have lk : (srt (ns.take many.toNat)).length = many.toNat := by
      rw [srt_len, List.length_take]
      omega
    have r2 : r ≠ p2 := fun z => by
      rw [← z, upd_same] at np
      cases np
    have nr2 : H2 p2 = none := by
      rw [upd_ne r2.symm] at np
      exact np
    have old : ∀ b o, H b = some o → b ≠ l := fun b o z => ne_of_none z nl
    have eH : ExB [p, c] H H2 := fun b o m z => e2 b o m (by rw [upd_ne (old b o z)]; exact z)
    obtain ⟨o3, hp3⟩ := s2.p
    obtain ⟨o4, hc3⟩ := s2.c
    refine q (srt (ns.take many.toNat)) (.ref p2) _ (upd (fun _ => none) p2 (.lst ((srt (ns.take many.toNat)).map V.str))) ⟨⟨fun z => ?_, fun x hx => nameL_good x (ms x hx), srt_ascS (nd.sublist (List.take_sublist _ _)), by omega⟩, by omega, ms⟩ (eH.trans ((ExB.new nr).trans (ExB.new np))) ((s2.ext (by rw [upd_ne (ne_of_none (by rw [upd_ne (ne_of_none hp3 nr)]; exact hp3) np), upd_ne (ne_of_none hp3 nr)]) (by rw [upd_ne (ne_of_none (by rw [upd_ne (ne_of_none hc3 nr)]; exact hc3) np), upd_ne (ne_of_none hc3 nr)]) (Int.le_refl _)).up (by
        have : ((nameL.map V.str).length : Int) = 11 := by decide +kernel
        omega)) (fun b o z => ?_) (fun b o z => ?_) ⟨p2, _, rfl, upd_same, reps_strs _⟩
    · have k := congrArg List.length z
      rw [lk] at k
      simp at k
      omega
    · by_cases y : b = p2
      · rw [y, upd_same] at z ⊢
        exact z
      · rw [upd_ne y] at z
        cases z
    · by_cases y : b = p2
      · rw [y]
        right
        cases m : H p2 with
        | none => rfl
        | some o =>
          by_cases mm : p2 ∈ [p, c]
          · rcases List.mem_cons.mp mm with w | mm
            · rw [w] at nr2
              rw [hp3] at nr2
              cases nr2
            · rw [List.mem_singleton.mp mm] at nr2
              rw [hc3] at nr2
              cases nr2
          · rw [eH _ _ mm m] at nr2
            cases nr2
      · rw [upd_ne y] at z
        cases z
end
end K07
/-! text D25 -/
set_option Elab.async false
set_option linter.all false
set_option maxRecDepth 100000
set_option maxHeartbeats 4000000
/-! the law's draws of lots, families -/
namespace K07
open PySem PySem.Spec PyProof.Rows L2 Evl PySem.W Dw Dw.DV RZ StX Lot LmV LamX NdefX
theorem goodF_least {ks : List Str} {ls : List (List Str)} (hk : GoodK goodName ks) (hn : ls ≠ []) (hl : ∀ l ∈ ls, GoodL ks l) (h : ls.length ≤ 1000) : GoodF goodName (ks, leastOf ls) := by
  have M := least_min (xs := ls) fun l m => (hl l m).asc
  refine ⟨hk, fun z => ?_, Nat.le_trans leastOf_len h, fun l m => hl l (leastOf_mem m), M.asc, M.anti⟩
  cases ls with
  | nil => exact hn rfl
  | cons a r =>
    obtain ⟨x, hx, _⟩ := M.cof sl_tot (fun l m => (hl l m).asc) a List.mem_cons_self
    have z' : leastOf (a :: r) = [] := z
    rw [z'] at hx
    cases hx
theorem nPC {H : Hp} {p c b : Addr} {n : Int} (s : St H p c n) (h : H b = none) : b ∉ [p, c] := fun m => by
  obtain ⟨o1, h1⟩ := s.p
  obtain ⟨o2, h2⟩ := s.c
  rcases List.mem_cons.mp m with z | m
  · rw [z, h1] at h
    cases h
  · rw [List.mem_singleton.mp m, h2] at h
    cases h
/-- new behind a draw: new ahead of it -/
theorem exb_none {H H' : Hp} {p c b : Addr} {n : Int} (e : ExB [p, c] H H') (s : St H' p c n) (h : H' b = none) : H b = none := by
  cases m : H b with
  | none => rfl
  | some o =>
    rw [e b o (nPC s h) m] at h
    cases h
theorem St.new {H : Hp} {p c b : Addr} {n : Int} {o : HO} (s : St H p c n) (h : H b = none) : St (upd H b o) p c n := by
  have m := nPC s h
  refine s.ext (upd_ne fun z => ?_) (upd_ne fun z => ?_) (Int.le_refl _)
  · exact m (by rw [← z]; simp)
  · exact m (by rw [← z]; simp)
theorem St.mut {H : Hp} {p c b : Addr} {n : Int} {o : HO} (s : St H p c n) (m : b ∉ [p, c]) : St (upd H b o) p c n := by
  refine s.ext (upd_ne fun z => ?_) (upd_ne fun z => ?_) (Int.le_refl _)
  · exact m (by rw [← z]; simp)
  · exact m (by rw [← z]; simp)
section
variable {P : Program} {w : World} {K : PySem.W.Frag} {mg : Str → Option Value} {base : Heap} {f : Addr} {fd : FuncData} {fD fM fA fO fW fLo : Addr} {dD dM dA dO dW dLo : FuncData}
def spLotD : Sp := fun vs H Q _ => ∃ (p c : Addr) (n : Int) (v : V) (ks : List Str) (A : Hp), vs = [.ref p, v] ∧ St H p c n ∧ n ≤ 900000 ∧ Ex A H ∧ A p = none ∧ A c = none ∧ rep A v ks ∧ GoodK goodName ks ∧ ks.length ≤ 30 ∧ EndS A H p c (n + 40) (GoodL ks) Q
theorem scLotD : FnScope ["stream", "keepers"] ["stream", "keepers"] (defScope (top 40)) := ⟨rfl, rfl, rfl, by decide +kernel, rfl, by decide +kernel, by decide +kernel⟩
theorem ok_lotD (F : FnP K "_law_a_lot" (top 40) f fd) (B : Bn mg) (DR : Df K mg "_law_draw" 46 fD dD) (MI : Df K mg "_law_mixed" 47 fM dM) : FnOk P w K mg base CX0 3 f fd ["stream", "keepers"] spLotD := by
  have GD : FnOk P w K mg base CX0 1 fD dD ["stream", "many"] spDraw := ok_draw DR.F B.int
  have bD : Binds K dD ["stream", "many"] [] := DR.F.bindsN fun _ _ _ _ _ _ us hl => match us, hl with | [_, _], _ => rfl
  have GM : FnOk P w K mg base CX0 2 fM dM ["stream", "some"] (spMixed K) := ok_mixed MI.F DR.F DR.g B.int B.list B.len B.range
  have bM : Binds K dM ["stream", "some"] [] := MI.F.bindsN fun _ _ _ _ _ _ us hl => match us, hl with | [_, _], _ => rfl
  refine F.ok scLotD (fun vs H Q E h => ?_) (fun cdv A outer s H vs Q E hr h => ?_)
  · obtain ⟨p, c, n, v, _, _, rfl, _⟩ := h
    rfl
  · obtain ⟨p, c, n, v, ks, A0, rfl, hst, hn, eA, Ap, Ac, ⟨a, us, rfl, g1, g2⟩, hk, h30, q⟩ := h
    refine ⟨_, PSs.nox (pss_one (ps_ret (pe_callB (cr_sortedW (α := Str) (fun _ _ z => by cases z) (uK0 hr)) (by rfl) B.sorted (by decide +kernel) (pa_cons (pe_slice sl_list (pe_call GM hr (by rfl) MI.g MI.F.kp bM .nil pass0 (pa_cons (pv 0) (pa_cons (pv 1) pa_nil))) po_none
      (po_some (pe_op op_add pe_int (pe_call GD (hr.mono (by decide)) (by rfl) DR.g DR.F.kp bD .nil pass0 (pa_cons (pv 0) (pa_cons (pe_callB call_len_seq (by rfl) B.len PySem.boot_len (pa_cons (pv 1) pa_nil)) pa_nil)))))) pa_nil)))), ?_⟩
    have len := Reps.len g2
    have eus := reps_str g2
    have pos : 0 < ks.length := List.length_pos_iff.mpr hk.ne
    refine ⟨.ref p, rfl, .ref a, rfl, p, c, a, us, n, rfl, hst, sq_of (eA _ _ g1), by omega, by omega, fun ys qa H2 perm e2 s2 nq hq => ?_⟩
    have A2 := exb eA Ap Ac e2
    refine ⟨.ref p, rfl, .ref a, rfl, a, us, rfl, .inl (sq_of (A2 _ _ g1)), p, c, n + (us.length : Int), (us.length : Int), rfl, s2, by omega, by omega, by omega, fun r H3 r0 r1 e3 s3 => ?_⟩
    have qpc : qa ∉ [p, c] := nPC hst nq
    have hq3 : H3 qa = some (.lst ys) := e3 _ _ qpc hq
    obtain ⟨ns, pn, rn⟩ := reps_perm perm g2
    have ey := reps_str rn
    subst ey
    have ln : ns.length = ks.length := pn.length_eq
    refine ⟨1, r, rfl, rfl, 1 + r, rfl, qa, _, rfl, sq_of hq3, fun z nz => ?_⟩
    have ec : cutV (ns.map V.str) none (some (1 + r)) = (ns.take (1 + r).toNat).map V.str := by
      have e : cutV (ns.map V.str) none (some (1 + r)) = cutT (ns.map V.str) none (some (1 + r)) := rfl
      rw [e, cut_take _ _ (by omega) (by rw [List.length_map]; omega), List.map_take]
    rw [ec]
    refine ⟨z, ns.take (1 + r).toNat, upd (fun _ => none) z (.lst ((ns.take (1 + r).toNat).map V.str)), rfl, fun b o y => ?_, ⟨z, _, rfl, upd_same, reps_strs _⟩, fun p2 ws np hr2 => ?_⟩
    · by_cases w : b = z
      · rw [w, upd_same] at y ⊢
        exact y
      · rw [upd_ne w] at y
        cases y
    have ws2 := reps_str hr2
    subst ws2
    have nd : ns.Nodup := pn.nodup_iff.mpr (hk.asc.nodup sl_tot)
    have ms : ∀ x ∈ srt (ns.take (1 + r).toNat), x ∈ ks := fun x hx => pn.mem_iff.mp (List.mem_of_mem_take (srt_mem.mp hx))
    have lk : (srt (ns.take (1 + r).toNat)).length = (1 + r).toNat := by
      rw [srt_len, List.length_take]
      omega
    have s4 : St (upd H3 z (.lst ((ns.take (1 + r).toNat).map V.str))) p c (n + (us.length : Int) + 1) := s3.new nz
    have s5 := s4.new (o := .lst ((srt (ns.take (1 + r).toNat)).map V.str)) np
    have e23 := e2.trans e3
    have e5 : ExB [p, c] H (upd (upd H3 z (.lst ((ns.take (1 + r).toNat).map V.str))) p2 (.lst ((srt (ns.take (1 + r).toNat)).map V.str))) := e23.trans ((ExB.new nz).trans (ExB.new np))
    refine q (srt (ns.take (1 + r).toNat)) (.ref p2) _ (upd (fun _ => none) p2 (.lst ((srt (ns.take (1 + r).toNat)).map V.str))) ⟨fun y => ?_, srt_ascS (nd.sublist (List.take_sublist _ _)), ms⟩ e5 (s5.up (by omega)) (fun b o y => ?_) (fun b o y => ?_) ⟨p2, _, rfl, upd_same, reps_strs _⟩
    · have k := congrArg List.length y
      rw [lk] at k
      simp at k
      omega
    · by_cases w : b = p2
      · rw [w, upd_same] at y ⊢
        exact y
      · rw [upd_ne w] at y
        cases y
    · by_cases w : b = p2
      · rw [w]
        exact .inr (exb_none (e23.trans (ExB.new nz)) s4 np)
      · rw [upd_ne w] at y
        cases y
def spOf : Sp := fun vs H Q _ => ∃ (p c : Addr) (n : Int) (v : V) (ks : List Str) (A : Hp), vs = [.ref p, v] ∧ St H p c n ∧ n ≤ 800000 ∧ Ex A H ∧ A p = none ∧ A c = none ∧ rep A v ks ∧ GoodK goodName ks ∧ ks.length ≤ 30 ∧ EndS A H p c (n + 300) (fun F : FamT => F.1 = ks ∧ GoodF goodName F ∧ F.2.length ≤ 5) Q
abbrev NOf : List Str := ["stream", "keepers", "k"]
end
end K07
/-! text P8 -/
set_option Elab.async false
set_option linter.all false
set_option maxRecDepth 100000
set_option maxHeartbeats 4000000
/-! the operations on families of the same keepers: plain -/
namespace K07
open PySem PySem.Spec PyProof.Rows L2 Evl PySem.W Dw Dw.DV RZ StX Lot
/-- a family of the keepers ks, n lots at most -/
structure Sm (ks : List Str) (n : Nat) (F : FamT) : Prop where
  k : F.1 = ks
  g : GoodF goodName F
  l : F.2.length ≤ n
variable {ks : List Str} {n m q : Nat} {F G J : FamT}
theorem Sm.asc (h : Sm ks n F) : ∀ a ∈ F.2, Asc sl a := fun a m => (h.g.lots a m).asc
theorem Sm.gk (h : Sm ks n F) : GoodK goodName ks := h.k ▸ h.g.ks
theorem Sm.lot (h : Sm ks n F) : ∀ a ∈ F.2, GoodL ks a := fun a m => h.k ▸ h.g.lots a m
theorem mem_cup {a b : List Str} {x : Str} : x ∈ cup a b ↔ x ∈ a ∨ x ∈ b := by
  unfold cup
  rw [srt_mem, mem_once, List.mem_append]
theorem cup_asc (a b : List Str) : Asc sl (cup a b) := srt_ascS (once_nodup _)
theorem cup_self (h : Asc sl ks) : cup ks ks = ks := asc_ext sl_tot (cup_asc _ _) h fun x => by rw [mem_cup, or_self]
theorem mem_bl {L M : List (List Str)} {u : List Str} : u ∈ bothLots L M ↔ ∃ a ∈ L, ∃ b ∈ M, cup a b = u := by
  unfold bothLots
  rw [List.mem_flatMap]
  constructor
  · rintro ⟨a, ha, h⟩
    obtain ⟨b, hb, e⟩ := List.mem_map.mp h
    exact ⟨a, ha, b, hb, e⟩
  · rintro ⟨a, ha, b, hb, e⟩
    exact ⟨a, ha, List.mem_map.mpr ⟨b, hb, e⟩⟩
theorem bl_cup (L M : List (List Str)) : Cup sl (bothLots L M) L M := by
  refine ⟨fun u hu => ?_, fun u hu => ?_, fun a ha b hb => ⟨cup a b, mem_bl.mpr ⟨a, ha, b, hb, rfl⟩, fun x => mem_cup⟩⟩
  · obtain ⟨a, _, b, _, rfl⟩ := mem_bl.mp hu
    exact cup_asc _ _
  · obtain ⟨a, ha, b, hb, rfl⟩ := mem_bl.mp hu
    exact ⟨a, ha, b, hb, fun x => mem_cup⟩
theorem both_min (F G : FamT) : Min sl (bothOf F G).2 (bothLots F.2 G.2) := least_min (bl_cup _ _).asc
theorem app_asc (h : Sm ks n F) (h' : Sm ks m G) : ∀ l ∈ F.2 ++ G.2, Asc sl l := fun l hl => (List.mem_append.mp hl).elim (h.asc l) (h'.asc l)
theorem either_min (h : Sm ks n F) (h' : Sm ks m G) : Min sl (eitherOf F G).2 (F.2 ++ G.2) := least_min (app_asc h h')
theorem both_k (h : Sm ks n F) (h' : Sm ks m G) : (bothOf F G).1 = ks := by
  show cup F.1 G.1 = ks
  rw [h.k, h'.k]
  exact cup_self h.gk.asc
theorem either_k (h : Sm ks n F) (h' : Sm ks m G) : (eitherOf F G).1 = ks := both_k h h'
theorem both_sm (h : Sm ks n F) (h' : Sm ks m G) (hnm : n * m ≤ 1000) : Sm ks (n * m) (bothOf F G) := by
  have ll : (bothLots F.2 G.2).length ≤ n * m := by
    rw [bothLots_len]
    exact Nat.mul_le_mul h.l h'.l
  refine ⟨both_k h h', ?_, Nat.le_trans leastOf_len ll⟩
  have e : bothOf F G = (ks, leastOf (bothLots F.2 G.2)) := Prod.ext (both_k h h') rfl
  rw [e]
  refine goodF_least h.gk (fun z => ?_) (fun u hu => ?_) (by omega)
  · have e1 : ∃ a, a ∈ F.2 := List.exists_mem_of_ne_nil _ h.g.ne
    have e2 : ∃ a, a ∈ G.2 := List.exists_mem_of_ne_nil _ h'.g.ne
    obtain ⟨a, ha⟩ := e1
    obtain ⟨b, hb⟩ := e2
    have k := mem_bl.mpr ⟨a, ha, b, hb, rfl⟩
    rw [z] at k
    cases k
  · obtain ⟨a, ha, b, hb, rfl⟩ := mem_bl.mp hu
    refine ⟨fun z => ?_, cup_asc _ _, fun x hx => (mem_cup.mp hx).elim (fun z => (h.lot a ha).sub z) fun z => (h'.lot b hb).sub z⟩
    obtain ⟨x, hx⟩ := List.exists_mem_of_ne_nil _ (h.lot a ha).ne
    have k : x ∈ cup a b := mem_cup.mpr (.inl hx)
    rw [z] at k
    cases k
theorem either_sm (h : Sm ks n F) (h' : Sm ks m G) (hnm : n + m ≤ 1000) : Sm ks (n + m) (eitherOf F G) := by
  have ll : (F.2 ++ G.2).length ≤ n + m := by
    rw [List.length_append]
    have := h.l
    have := h'.l
    omega
  refine ⟨either_k h h', ?_, Nat.le_trans leastOf_len ll⟩
  have e : eitherOf F G = (ks, leastOf (F.2 ++ G.2)) := Prod.ext (either_k h h') rfl
  rw [e]
  refine goodF_least h.gk (fun z => h.g.ne (List.append_eq_nil_iff.mp z).1) (fun u hu => (List.mem_append.mp hu).elim (h.lot u) (h'.lot u)) (by omega)
theorem two_sm (h : Sm ks n F) (h' : Sm ks m G) (hk : ks.length ≤ 30) (hn : n ≤ 150) (hm : m ≤ 150) (hnm : n * m ≤ 1000) : Two F G := by
  refine ⟨h.g, h'.g, by rw [h.k]; exact hk, by rw [h'.k]; exact hk, Nat.le_trans h.l hn, Nat.le_trans h'.l hm, Nat.le_trans (Nat.mul_le_mul h.l h'.l) hnm⟩
theorem fam_ext {F G : FamT} (h : F.1 = G.1) (h' : F.2 = G.2) : F = G := Prod.ext h h'
theorem bothOf_comm (h : Sm ks n F) (h' : Sm ks m G) : bothOf F G = bothOf G F :=
  fam_ext ((both_k h h').trans (both_k h' h).symm) (both_comm sl_tot (bl_cup F.2 G.2) (both_min F G) (bl_cup G.2 F.2) (both_min G F))
theorem bothOf_assoc (h : Sm ks n F) (h' : Sm ks m G) (h'' : Sm ks q J) (h1 : n * m ≤ 1000) (h2 : m * q ≤ 1000) : bothOf (bothOf F G) J = bothOf F (bothOf G J) :=
  fam_ext ((both_k (both_sm h h' h1) h'').trans (both_k h (both_sm h' h'' h2)).symm) (both_assoc sl_tot (bl_cup F.2 G.2) (both_min F G) (bl_cup (bothOf F G).2 J.2) (both_min (bothOf F G) J) (bl_cup G.2 J.2) (both_min G J) (bl_cup F.2 (bothOf G J).2) (both_min F (bothOf G J)))
theorem eitherOf_comm (h : Sm ks n F) (h' : Sm ks m G) : eitherOf F G = eitherOf G F := fam_ext ((either_k h h').trans (either_k h' h).symm) (either_comm sl_tot (either_min h h') (either_min h' h))
theorem eitherOf_assoc (h : Sm ks n F) (h' : Sm ks m G) (h'' : Sm ks q J) (h1 : n + m ≤ 1000) (h2 : m + q ≤ 1000) : eitherOf (eitherOf F G) J = eitherOf F (eitherOf G J) :=
  fam_ext ((either_k (either_sm h h' h1) h'').trans (either_k h (either_sm h' h'' h2)).symm) (either_assoc sl_tot h.asc h'.asc h''.asc (either_min h h') (either_min (either_sm h h' h1) h'') (either_min h' h'') (either_min h (either_sm h' h'' h2)))
/-! ### fallen, trusted -/
theorem drop_ne (hk : GoodK goodName ks) (h2 : 2 ≤ ks.length) (x : Str) : GoodK goodName (drop1 x ks) := by
  refine ⟨fun z => ?_, fun y hy => hk.all y (mem_drop1.mp hy).1, asc_drop1 hk.asc, Nat.le_trans drop1_len hk.len⟩
  have all : ∀ y ∈ ks, y = x := drop1_nil.mp z
  have nd := hk.asc.nodup sl_tot
  match ks, h2 with
  | a :: b :: r, _ =>
    have e1 := all a List.mem_cons_self
    have e2 := all b (List.mem_cons_of_mem _ List.mem_cons_self)
    rw [e1, e2] at nd
    exact (List.nodup_cons.mp nd).1 List.mem_cons_self
theorem fall_sm (h : Sm ks n F) (h2 : 2 ≤ ks.length) (x : Str) (hn : fall x F.2 ≠ []) : Sm (drop1 x ks) n ((drop1 x ks, fall x F.2) : FamT) := by
  refine ⟨rfl, ⟨drop_ne h.gk h2 x, hn, Nat.le_trans (List.length_filter_le _ _) h.g.len, fun l m => ?_, List.Pairwise.filter _ h.g.asc, fun a ha b hb z => h.g.anti a (mem_fall.mp ha).1 b (mem_fall.mp hb).1 z⟩, Nat.le_trans (List.length_filter_le _ _) h.l⟩
  have hl := h.lot l (mem_fall.mp m).1
  exact ⟨hl.ne, hl.asc, fun y hy => mem_drop1.mpr ⟨hl.sub hy, fun z => (mem_fall.mp m).2 (by rw [← z]; exact hy)⟩⟩
theorem trust_ascS (h : Sm ks n F) (x : Str) : ∀ t ∈ trust x F.2, Asc sl t := trust_asc h.asc
theorem trust_sm (h : Sm ks n F) (h2 : 2 ≤ ks.length) (x : Str) (hn : ¬ [] ∈ trust x F.2) : Sm (drop1 x ks) n ((drop1 x ks, leastOf (trust x F.2)) : FamT) := by
  have tl : (trust x F.2).length = F.2.length := List.length_map ..
  refine ⟨rfl, goodF_least (drop_ne h.gk h2 x) (fun z => ?_) (fun t ht => ⟨fun e => hn (by rw [← e]; exact ht), trust_ascS h x t ht, ?_⟩) (by rw [tl]; exact h.g.len), Nat.le_trans leastOf_len (by rw [tl]; exact h.l)⟩
  · have k := congrArg List.length z
    rw [tl] at k
    exact h.g.ne (List.eq_nil_of_length_eq_zero k)
  · obtain ⟨a, ha, rfl⟩ := mem_trust.mp ht
    exact drop1_sub (h.lot a ha).sub
theorem one_sm (h : Sm ks n F) (h2 : 2 ≤ ks.length) {x : Str} (hx : x ∈ ks) : One F x := ⟨h.g, by rw [h.k]; exact hx, by rw [h.k]; omega⟩
theorem triedF_none (F : FamT) (x : Str) : triedF F x = none ↔ fall x F.2 = [] := by
  unfold triedF
  split <;> simp_all
theorem triedT_none (F : FamT) (x : Str) : triedT F x = none ↔ [] ∈ trust x F.2 := by
  unfold triedT
  split <;> simp_all
theorem triedF_some (h : Sm ks n F) {x : Str} (hn : fall x F.2 ≠ []) : triedF F x = some (drop1 x ks, fall x F.2) := by
  unfold triedF
  rw [if_neg hn, h.k]
theorem triedT_some (h : Sm ks n F) {x : Str} (hn : ¬ [] ∈ trust x F.2) : triedT F x = some (drop1 x ks, leastOf (trust x F.2)) := by
  unfold triedT
  rw [if_neg hn, h.k]
/-- both, fallen -/
theorem fall_bothOf (h : Sm ks n F) (h' : Sm ks m G) (h2 : 2 ≤ ks.length) (x : Str) (hnm : n * m ≤ 1000) (a : fall x F.2 ≠ []) (b : fall x G.2 ≠ []) :
    bothOf (drop1 x ks, fall x F.2) (drop1 x ks, fall x G.2) = (drop1 x ks, fall x (bothOf F G).2) :=
  fam_ext (both_k (fall_sm h h2 x a) (fall_sm h' h2 x b)) (fall_both sl_tot x (bl_cup F.2 G.2) (both_min F G) (bl_cup _ _) (both_min (drop1 x ks, fall x F.2) (drop1 x ks, fall x G.2)))
/-- either, fallen: L's lots, the fallen lots of both -/
theorem fall_eitherOf (h : Sm ks n F) (h' : Sm ks m G) (x : Str) {L M : FamT} (hL : Sm (drop1 x ks) q L) (hM : Sm (drop1 x ks) q M) (e : ∀ l, l ∈ L.2 ++ M.2 ↔ l ∈ fall x F.2 ++ fall x G.2) : eitherOf L M = (drop1 x ks, fall x (eitherOf F G).2) := by
  refine fam_ext (either_k hL hM) ?_
  have asc : ∀ l ∈ fall x F.2 ++ fall x G.2, Asc sl l := fun l hl => (List.mem_append.mp hl).elim (fun z => h.asc l (mem_fall.mp z).1) fun z => h'.asc l (mem_fall.mp z).1
  have e1 := fall_either sl_tot x h.asc h'.asc (either_min h h') (least_min asc)
  exact ((either_min hL hM).uniq sl_tot (least_min asc) e).trans e1
/-- both, trusted -/
theorem trust_bothOf (h : Sm ks n F) (h' : Sm ks m G) (h2 : 2 ≤ ks.length) (x : Str) (hnm : n * m ≤ 1000) (a : ¬ [] ∈ trust x F.2) (b : ¬ [] ∈ trust x G.2) :
    bothOf (drop1 x ks, leastOf (trust x F.2)) (drop1 x ks, leastOf (trust x G.2)) = (drop1 x ks, leastOf (trust x (bothOf F G).2)) :=
  fam_ext (both_k (trust_sm h h2 x a) (trust_sm h' h2 x b)) (trust_both sl_tot x h.asc h'.asc (bl_cup F.2 G.2) (both_min F G) (least_min (trust_ascS h x)) (least_min (trust_ascS h' x)) (least_min (trust_ascS (both_sm h h' hnm) x)) (bl_cup _ _) (both_min (drop1 x ks, leastOf (trust x F.2)) (drop1 x ks, leastOf (trust x G.2))))
theorem trust_eitherOf (h : Sm ks n F) (h' : Sm ks m G) (h2 : 2 ≤ ks.length) (x : Str) (hnm : n + m ≤ 1000) (a : ¬ [] ∈ trust x F.2) (b : ¬ [] ∈ trust x G.2) :
    eitherOf (drop1 x ks, leastOf (trust x F.2)) (drop1 x ks, leastOf (trust x G.2)) = (drop1 x ks, leastOf (trust x (eitherOf F G).2)) :=
  fam_ext (either_k (trust_sm h h2 x a) (trust_sm h' h2 x b)) (trust_either sl_tot x h.asc h'.asc (either_min h h') (least_min (trust_ascS h x)) (least_min (trust_ascS h' x)) (least_min (trust_ascS (either_sm h h' hnm) x)) (either_min (trust_sm h h2 x a) (trust_sm h' h2 x b)))
theorem fb_none (F G : FamT) (x : Str) : fall x (bothOf F G).2 = [] ↔ fall x F.2 = [] ∨ fall x G.2 = [] := fall_both_none sl_tot x (bl_cup F.2 G.2) (both_min F G)
theorem tb_none (F G : FamT) (x : Str) : [] ∈ trust x (bothOf F G).2 ↔ [] ∈ trust x F.2 ∧ [] ∈ trust x G.2 := trust_both_none sl_tot x (bl_cup F.2 G.2) (both_min F G)
theorem fe_none (h : Sm ks n F) (h' : Sm ks m G) (x : Str) : fall x (eitherOf F G).2 = [] ↔ fall x F.2 = [] ∧ fall x G.2 = [] := fall_either_none sl_tot x h.asc h'.asc (either_min h h')
theorem te_none (h : Sm ks n F) (h' : Sm ks m G) (x : Str) : [] ∈ trust x (eitherOf F G).2 ↔ [] ∈ trust x F.2 ∨ [] ∈ trust x G.2 := trust_either_none sl_tot x h.asc h'.asc (either_min h h')
end K07
/-! text D26 -/
set_option Elab.async false
set_option linter.all false
set_option maxRecDepth 100000
set_option maxHeartbeats 4000000
/-! whether both and either are alike in any order, in any brackets -/
namespace K07
open PySem PySem.Spec PyProof.Rows L2 Evl PySem.W Dw Dw.DV RZ StX Lot LmV LamX NdefX
section
variable {α β γ : Type} [DecidableEq α] [Datum α] [DV α] [DecidableEq β] [Datum β] [DV β] [DecidableEq γ] [Datum γ] [DV γ] {K : PySem.W.Frag} {σ : L2.St} {H A A0 H0 : Hp} {te ta tb : TE} {D : Ends} {Pt : Addr}
theorem ed_callA2 {i : Nat} {f : Addr} {S : Addr → Option Sp} {P : α → β → Prop} {g : α → β → γ} {x : α} {y : β} (hσ : σ[i]? = some (some (.ref f))) (hS : S f = some (sp2W Pt P g)) (R : Rdy Pt lmQ lmPos A) (h : EvD ta σ A x) (h' : EvD tb σ A y) (hP : P x y) : EvD (tCallA i S (tCons ta (tCons tb tNil))) σ A (g x y) := fun H1 e Q q =>
  ⟨f, _, hσ, hS, ed_call2W (E := E0) R h h' hP H1 e Q q⟩
end
section
variable {P : Program} {w : World} {K : PySem.W.Frag} {mg : Str → Option Value} {base : Heap} {f : Addr} {fd : FuncData} {fL fN f1 fK fS fO fH fF fT : Addr} {dL dN d1 dK dS dO dH dF dT : FuncData} {fC fW fU fV Pt : Addr} {dC dW dU dV : FuncData} {fBo fEi fCo fSa : Addr} {dBo dEi dCo dSa : FuncData}
def wayS (Pt fBo fEi : Addr) (f : Addr) : Option Sp := if f = fBo then some (spBoth Pt) else if f = fEi then some (spEither Pt) else none
/-- true, all that stood stays -/
def EndT (H : Hp) (Q : VK) : Prop := ∀ H', Ex H H' → Q (.bl true) H'
structure Fam2 (ks : List Str) (F G : FamT) : Prop where
  f : Sm ks 5 F
  g : Sm ks 5 G
  l : ks.length ≤ 8
  m : 2 ≤ ks.length
def spBr (Pt : Addr) : Sp := fun vs H Q _ => ∃ v u z ks F G J A, vs = [v, u, z] ∧ Ex A H ∧ Rdy Pt lmQ lmPos A ∧ rep A v F ∧ rep A u G ∧ rep A z J ∧ Fam2 ks F G ∧ Sm ks 5 J ∧ EndT H Q
abbrev NBr : List Str := ["one", "other", "third", "way", "found"]
theorem smD {n : Nat} {ks : List Str} {F : FamT} (h : Sm ks n F) : DVT.sm F := smG h.g
end
end K07
/-! text D27a -/
set_option Elab.async false
set_option linter.all false
set_option maxRecDepth 100000
set_option maxHeartbeats 8000000
/-! whether both, either go over fallen and trusted -/
namespace K07
open PySem PySem.Spec PyProof.Rows L2 Evl PySem.W Dw Dw.DV RZ StX Lot LmV LamX NdefX XvE
/-- all but the spring -/
def cutP (p c : Addr) (H : Hp) : Hp := fun b => if b ∈ [p, c] then none else H b
theorem cutP_of {p c b : Addr} {H : Hp} {o : HO} (h : cutP p c H b = some o) : b ∉ [p, c] ∧ H b = some o := by
  unfold cutP at h
  by_cases m : b ∈ [p, c]
  · rw [if_pos m] at h
    cases h
  · rw [if_neg m] at h
    exact ⟨m, h⟩
theorem cutP_mk {p c b : Addr} {H : Hp} {o : HO} (m : b ∉ [p, c]) (h : H b = some o) : cutP p c H b = some o := by
  unfold cutP
  rw [if_neg m]
  exact h
theorem cutP_ex {p c : Addr} {H : Hp} : Ex (cutP p c H) H := fun b o h => (cutP_of h).2
theorem cutP_exb {p c : Addr} {H H' : Hp} (e : ExB [p, c] H H') : Ex (cutP p c H) H' := fun b o h => e b o (cutP_of h).1 (cutP_of h).2
theorem St.lst {H : Hp} {p c b : Addr} {n : Int} (s : St H p c n) (m : b ∈ [p, c]) : ∃ xs, H b = some (.lst xs) := by
  obtain ⟨ne, cells, rest, cnt, mix, h1, h2, _⟩ := s
  rcases List.mem_cons.mp m with z | m
  · exact ⟨_, by rw [z]; exact h1⟩
  · exact ⟨_, by rw [List.mem_singleton.mp m]; exact h2⟩
theorem tabs_cut {p c Pt : Addr} {q : Str} {H : Hp} {n : Int} (s : St H p c n) (T : Tabs [(Pt, q)] H) : Tabs [(Pt, q)] (cutP p c H) := by
  intro x hx
  obtain ⟨ps, h1, h2, h3⟩ := T x hx
  refine ⟨ps, cutP_mk (fun m => ?_) h1, h2, fun pos cv hc => ?_⟩
  · obtain ⟨xs, z⟩ := s.lst m
    rw [h1] at z
    cases z
  · obtain ⟨c0, e1, e2⟩ := h3 pos cv hc
    refine ⟨c0, e1, cutP_mk (fun m => ?_) e2⟩
    obtain ⟨xs, z⟩ := s.lst m
    rw [e2] at z
    unfold CodeO at z
    cases z
theorem rdy_cut {p c Pt : Addr} {q : Str} {pos : Pos} {H : Hp} {n : Int} (s : St H p c n) (R : Rdy Pt q pos H) : Rdy Pt q pos (cutP p c H) := by
  obtain ⟨ps, cv, h1, h2⟩ := R.c
  refine ⟨tabs_cut s R.t, ps, cv, cutP_mk (fun m => ?_) h1, h2⟩
  obtain ⟨xs, z⟩ := s.lst m
  rw [h1] at z
  cases z
theorem St.exn {H H' : Hp} {p c : Addr} {n : Int} (s : St H p c n) (k : ∀ b o, H b = some o → (∀ ps, o ≠ .tbl ps) → H' b = some o) : St H' p c n := by
  have s0 := s
  obtain ⟨ne, cells, rest, cnt, mix, h1, h2, _⟩ := s
  exact s0.ext ((k _ _ h1 (fun _ z => by cases z)).trans h1.symm) ((k _ _ h2 (fun _ z => by cases z)).trans h2.symm) (Int.le_refl _)
/-- the first statement that may come to the lambda for the first time -/
theorem ov_first {Pt : Addr} {σ : L2.St} {H : Hp} {TZ : TS} {D : Ends} {v u : V} {F G : FamT} (h1 : σ[1]? = some (some v)) (h2 : σ[2]? = some (some u)) (hv : rep H v F) (hu : rep H u G) (T : Two F G) (sf : DVT.sm F) (sg : DVT.sm G) (sb : DVT.sm (bothOf F G)) (hT : Tabs [(Pt, lmQ)] H)
    (cont : ∀ w H4 Hs4, (∀ b o, H b = some o → (∀ ps, o ≠ .tbl ps) → H4 b = some o) → (∀ b, H4 b = none → H b = none) → Rdy Pt lmQ lmPos H4 → Ex Hs4 H4 → (∀ b o, Hs4 b = some o → H b = none) → rep Hs4 w (bothOf F G) → TZ D (σ.set 4 (some w)) H4) :
    tSeq (tAsg (tCall (spC 8) [] E0 (tCons (tCall (spBoth Pt) [] E0 (tCons (tCall (spC 8) [] E0 (tCons (tVar 1) tNil)) (tCons (tCall (spC 8) [] E0 (tCons (tVar 2) tNil)) tNil))) tNil)) (gName 4)) TZ D σ H := by
  have c1 : EvD (tCall (spC 8) [] E0 (tCons (tVar 1) tNil)) σ H F := ed_copied (ed_var h1 hv) sf
  have c2 : EvD (tCall (spC 8) [] E0 (tCons (tVar 2) tNil)) σ H G := ed_copied (ed_var h2 hu) sg
  by_cases R : Rdy Pt lmQ lmPos H
  · refine (ed_call2W (E := E0) R c1 c2 T : EvD (tCall (spBoth Pt) [] E0 _) σ H (bothOf F G)) H (Ex.refl H) _ fun y H3 Hs3 e3 s3 r3 => ?_
    refine ⟨y, Hs3, rfl, s3.e, (DVT.tw sb r3 r3).ups (by decide), fun w H4 Hs4 e4 k1 k2 t => ?_⟩
    have e34 := e3.trans e4
    exact cont w H4 Hs4 (fun b o z _ => e34 b o z) (fun b z => exf e34 z) (R.ext e34) k1 (fun b o z => exf e3 (k2 b o z)) (DVT.cp (α := FamT) r3 t)
  · refine c1 H (Ex.refl H) _ fun v1 H1 B1 e1 s1 r1 => c2 H1 e1 _ fun u1 H2 B2 e2 s2 r2 => ?_
    have sj := s1.join (Ex.refl H) e1 e2 s2
    refine ⟨v1, u1, F, G, jn B1 B2, rfl, sj.e, DV.ext jn_l r1, DV.ext (jn_r (s1.e.trans e2) s2.e) r2, T, .inr ⟨hT.ext (e1.trans e2), fun y H3 Hs3 eN nn R3 s3 r3 => ?_⟩⟩
    refine ⟨y, Hs3, rfl, s3.e, (DVT.tw sb r3 r3).ups (by decide), fun w H4 Hs4 e4 k1 k2 t => ?_⟩
    have e12 := e1.trans e2
    exact cont w H4 Hs4 (fun b o z nt => e4 _ _ (eN _ _ (e12 _ _ z) nt)) (fun b z => exf e12 (nn b (exf e4 z))) (R3.ext e4) k1 (fun b o z => exf e12 (nn b (k2 b o z))) (DVT.cp (α := FamT) r3 t)
theorem ed_triedF {Pt fA fB : Addr} {σ : L2.St} {A : Hp} {te tn : TE} {F : FamT} {x : Str} (R : Rdy Pt lmQ lmPos A) (h : EvD te σ A F) (hn : EvD tn σ A x) (O : One F x) : EvD (tCall (spTried Pt fA fB) [] E0 (tCons (tC (.ref fA)) (tCons te (tCons tn tNil)))) σ A (triedF F x) := fun H1 e Q q => h H1 e _ fun v H2 B e2 s r => hn H2 (e.trans e2) _ fun u H3 C e3 t r' => by
  have sj := s.join e e2 e3 t
  have eA : Ex A H3 := (e.trans e2).trans e3
  exact ⟨fA, v, u, F, x, jn A (jn B C), rfl, jn_ex eA sj.e, R.ext jn_l, DV.ext (jn_l.trans (jn_r eA sj.e)) r, DV.ext ((jn_r (s.e.trans e3) t.e).trans (jn_r eA sj.e)) r', O, .inl ⟨rfl, fun z H4 Hs e4 w r4 => q z H4 Hs ((e2.trans e3).trans e4) ⟨w.e, fun b o z => by
    rcases w.o b o z with y | y
    · rcases jn_of y with w | w
      · exact .inl w
      · exact sj.o b o w
    · exact .inr (exf (e2.trans e3) y)⟩ r4⟩⟩
theorem ed_triedT {Pt fA fB : Addr} {σ : L2.St} {A : Hp} {te tn : TE} {F : FamT} {x : Str} (R : Rdy Pt lmQ lmPos A) (h : EvD te σ A F) (hn : EvD tn σ A x) (O : One F x) : EvD (tCall (spTried Pt fA fB) [] E0 (tCons (tC (.ref fB)) (tCons te (tCons tn tNil)))) σ A (triedT F x) := fun H1 e Q q => h H1 e _ fun v H2 B e2 s r => hn H2 (e.trans e2) _ fun u H3 C e3 t r' => by
  have sj := s.join e e2 e3 t
  have eA : Ex A H3 := (e.trans e2).trans e3
  exact ⟨fB, v, u, F, x, jn A (jn B C), rfl, jn_ex eA sj.e, R.ext jn_l, DV.ext (jn_l.trans (jn_r eA sj.e)) r, DV.ext ((jn_r (s.e.trans e3) t.e).trans (jn_r eA sj.e)) r', O, .inr ⟨rfl, fun z H4 Hs e4 w r4 => q z H4 Hs ((e2.trans e3).trans e4) ⟨w.e, fun b o z => by
    rcases w.o b o z with y | y
    · rcases jn_of y with w | w
      · exact .inl w
      · exact sj.o b o w
    · exact .inr (exf (e2.trans e3) y)⟩ r4⟩⟩
end K07
/-! text D27 -/
set_option Elab.async false
set_option linter.all false
set_option maxRecDepth 100000
set_option maxHeartbeats 8000000
/-! whether both, either go over fallen and trusted -/
namespace K07
open PySem PySem.Spec PyProof.Rows L2 Evl PySem.W Dw Dw.DV RZ StX Lot LmV LamX NdefX XvE
theorem triedF_isNone (X : FamT) (x : Str) : (triedF X x).isNone = decide (fall x X.2 = []) := by
  unfold triedF
  by_cases h : fall x X.2 = []
  · rw [if_pos h, decide_eq_true h]
    rfl
  · rw [if_neg h, decide_eq_false h]
    rfl
theorem triedT_isNone (X : FamT) (x : Str) : (triedT X x).isNone = decide ([] ∈ trust x X.2) := by
  unfold triedT
  by_cases h : [] ∈ trust x X.2
  · rw [if_pos h, decide_eq_true h]
    rfl
  · rw [if_neg h, decide_eq_false h]
    rfl
theorem isSome_F {X : FamT} {x : Str} (h : (triedF X x).isSome = true) : fall x X.2 ≠ [] := fun z => by
  rw [(triedF_none X x).mpr z] at h
  cases h
theorem isSome_T {X : FamT} {x : Str} (h : (triedT X x).isSome = true) : ¬ [] ∈ trust x X.2 := fun z => by
  rw [(triedT_none X x).mpr z] at h
  cases h
/-- the halves that are not None: the first, the last -/
theorem halves_of {ks : List Str} {F G : FamT} (hF : Sm ks 5 F) (hG : Sm ks 5 G) (l2 : 2 ≤ ks.length) (x : Str) (h : ¬ (fall x F.2 = [] ∧ fall x G.2 = [])) :
    ∃ L M : FamT, Sm (drop1 x ks) 5 L ∧ Sm (drop1 x ks) 5 M ∧ ([triedF F x, triedF G x].filter Option.isSome)[0]? = some (some L) ∧ ([triedF F x, triedF G x].filter Option.isSome).getLast? = some (some M) ∧ eitherOf L M = (drop1 x ks, fall x (eitherOf F G).2) := by
  by_cases a : fall x F.2 = []
  · by_cases b : fall x G.2 = []
    · exact absurd ⟨a, b⟩ h
    · have eg := triedF_some hG (x := x) b
      have ef := (triedF_none F x).mpr a
      have m := fall_sm hG l2 x b
      refine ⟨_, _, m, m, by rw [ef, eg]; rfl, by rw [ef, eg]; rfl, fall_eitherOf hF hG x m m fun l => ?_⟩
      rw [a]
      simp
  · have ef := triedF_some hF (x := x) a
    have m := fall_sm hF l2 x a
    by_cases b : fall x G.2 = []
    · have eg := (triedF_none G x).mpr b
      refine ⟨_, _, m, m, by rw [ef, eg]; rfl, by rw [ef, eg]; rfl, fall_eitherOf hF hG x m m fun l => ?_⟩
      rw [b]
      simp
    · have eg := triedF_some hG (x := x) b
      have m2 := fall_sm hG l2 x b
      exact ⟨_, _, m, m2, by rw [ef, eg]; rfl, by rw [ef, eg]; rfl, fall_eitherOf hF hG x m m2 fun l => Iff.rfl⟩
section
variable {P : Program} {w : World} {K : PySem.W.Frag} {mg : Str → Option Value} {base : Heap} {f : Addr} {fd : FuncData} {fL fN f1 fK fS fO fH fF fT : Addr} {dL dN d1 dK dS dO dH dF dT : FuncData} {fC fW fU fV Pt : Addr} {dC dW dU dV : FuncData} {fBo fEi fCo fSa : Addr} {dBo dEi dCo dSa : FuncData} {fQ fR CN : Addr} {dQ dR : FuncData} {fA fB fTr fPi fD fAl fOn fWi : Addr} {dA dB dTr dPi dD dAl dOn dWi : FuncData}
/-- the end of a def that may be the first to come to the lambda: all data but the spring stay -/
def EndR (Pt : Addr) (H : Hp) (p c : Addr) (n : Int) (Q : VK) : Prop := ∀ H', (∀ b o, b ∉ [p, c] → H b = some o → (∀ ps, o ≠ .tbl ps) → H' b = some o) → (∀ b, H' b = none → H b = none) → Rdy Pt lmQ lmPos H' → St H' p c n → Q (.bl true) H'
def spOv (Pt : Addr) : Sp := fun vs H Q _ => ∃ (p c : Addr) (n : Int) (v u : V) (ks : List Str) (F G : FamT) (A : Hp), vs = [.ref p, v, u] ∧ St H p c n ∧ n ≤ 800000 ∧ Ex A H ∧ A p = none ∧ A c = none ∧ Tabs [(Pt, lmQ)] H ∧ rep A v F ∧ rep A u G ∧ Fam2 ks F G ∧ EndR Pt H p c (n + 10) Q
abbrev NOv : List Str := ["stream", "one", "other", "name", "both", "either", "fell", "kept", "rest", "at", "some", "left", "words", "due", "halves", "far", "lot", "row"]
abbrev scOvI1 : Scope := { kind := .function, names := [(".0", .local), ("lot", .local), ("name", .cell)], isGenerator := false, isCoroutine := false }
abbrev scOvI2 : Scope := { kind := .function, names := [(".0", .local), ("row", .local)], isGenerator := false, isCoroutine := false }
theorem uB2 {k : Nat} {A : Around} (hr : Room k A) : A.units + Datum.depth (List Bool) < cLine := by
  have h := hr.un
  show A.units + 1 < cLine
  omega
end
end K07
/-! text P9 -/
set_option Elab.async false
set_option linter.all false
set_option maxRecDepth 100000
set_option maxHeartbeats 2000000
/-! the lots of both as the law joins them; a lot with one keeper less: plain -/
namespace K07
open PySem PySem.Spec PyProof.Rows L2 Evl PySem.W Dw Dw.DV Lot
def lotsP (F G : FamT) : List (List Str) := (F.2.map fun mine => G.2.map fun theirs => once (mine ++ theirs)).flatten
theorem mem_lots {F G : FamT} {l : List Str} : l ∈ lotsP F G ↔ ∃ a ∈ F.2, ∃ b ∈ G.2, once (a ++ b) = l := by
  unfold lotsP
  rw [List.mem_flatten]
  constructor
  · rintro ⟨m, hm, hl⟩
    obtain ⟨a, ha, rfl⟩ := List.mem_map.mp hm
    obtain ⟨b, hb, rfl⟩ := List.mem_map.mp hl
    exact ⟨a, ha, b, hb, rfl⟩
  · rintro ⟨a, ha, b, hb, rfl⟩
    exact ⟨_, List.mem_map.mpr ⟨a, ha, rfl⟩, List.mem_map.mpr ⟨b, hb, rfl⟩⟩
theorem flat_len {α β γ : Type} (g : α → β → γ) (M : List β) : ∀ L : List α, (L.map fun a => M.map (g a)).flatten.length = L.length * M.length
  | [] => by simp
  | a :: r => by
    rw [List.map_cons, List.flatten_cons, List.length_append, flat_len g M r, List.length_map, List.length_cons, Nat.succ_mul, Nat.add_comm]
theorem lotsP_len (F G : FamT) : (lotsP F G).length = F.2.length * G.2.length := flat_len _ _ _
theorem aLots {F G : FamT} : aLeast (lotsP F G) = (bothOf F G).2 := (aLeast_min (lotsP F G)).uniq sl_tot (both_min F G) fun x => by
  rw [aRows_mem, mem_bl]
  constructor
  · rintro ⟨l, hl, rfl⟩
    obtain ⟨a, ha, b, hb, rfl⟩ := mem_lots.mp hl
    exact ⟨a, ha, b, hb, rfl⟩
  · rintro ⟨a, ha, b, hb, rfl⟩
    exact ⟨_, mem_lots.mpr ⟨a, ha, b, hb, rfl⟩, rfl⟩
theorem aEith {ks : List Str} {n m : Nat} {F G : FamT} (h : Sm ks n F) (h' : Sm ks m G) : aLeast (F.2 ++ G.2) = (eitherOf F G).2 := aLeast_eq (app_asc h h')
theorem withinP_iff {a b : List Str} : withinP a b = true ↔ a ⊆ b := by
  unfold withinP
  rw [List.all_eq_true]
  exact ⟨fun h x hx => of_decide_eq_true (h x hx), fun h x hx => decide_eq_true (h hx)⟩
/-- does some lot of X hold in rest -/
def doesP (X : FamT) (rest : List Str) : Bool := X.2.any fun mine => withinP mine rest
theorem doesP_iff {X : FamT} {r : List Str} : doesP X r = true ↔ ∃ a ∈ X.2, a ⊆ r := by
  unfold doesP
  rw [List.any_eq_true]
  exact ⟨fun ⟨a, h1, h2⟩ => ⟨a, h1, withinP_iff.mp h2⟩, fun ⟨a, h1, h2⟩ => ⟨a, h1, withinP_iff.mpr h2⟩⟩
theorem cut_drop {δ : Type} (xs : List δ) (m : Nat) : cutT xs (some (m : Int)) none = xs.drop m := by
  have e : HT.sIx xs.length 0 (some (m : Int)) = min m xs.length := by
    show (if (m : Int) < 0 then ((m : Int) + (xs.length : Int)).toNat else min (m : Int).toNat xs.length) = min m xs.length
    rw [if_neg (by omega)]
    rfl
  have e2 : HT.sIx xs.length xs.length none = xs.length := rfl
  show (xs.drop (HT.sIx xs.length 0 (some (m : Int)))).take (HT.sIx xs.length xs.length none - HT.sIx xs.length 0 (some (m : Int))) = _
  rw [e, e2, List.take_of_length_le (by rw [List.length_drop]; exact Nat.le_refl _)]
  by_cases h : m ≤ xs.length
  · rw [Nat.min_eq_left h]
  · rw [Nat.min_eq_right (by omega), List.drop_of_length_le (Nat.le_refl _), List.drop_of_length_le (by omega)]
theorem less_does {ks : List Str} {n m : Nat} {F G : FamT} (h : Sm ks n F) (h' : Sm ks m G) {lot : List Str} (hl : lot ∈ (bothOf F G).2) {i : Nat} (hi : i < lot.length + 1) :
    ([doesP F (lot.take i ++ lot.drop (i + 1)), doesP G (lot.take i ++ lot.drop (i + 1))].all id) = decide ((0 + (i : Int)) = (lot.length : Int)) := by
  rw [Bool.eq_iff_iff, decide_eq_true_eq]
  show ((doesP F _ && (doesP G _ && true)) = true) ↔ _
  rw [Bool.and_true, Bool.and_eq_true, doesP_iff, doesP_iff]
  by_cases e : i = lot.length
  · subst e
    rw [List.take_of_length_le (Nat.le_refl _), List.drop_of_length_le (by omega), List.append_nil]
    exact ⟨fun _ => by omega, fun _ => both_in (bl_cup F.2 G.2) (both_min F G) hl⟩
  · constructor
    · intro z
      refine absurd z (both_least sl_tot (bl_cup F.2 G.2) (both_min F G) hl (fun x hx => ?_) ?_)
      · rcases List.mem_append.mp hx with y | y
        · exact List.mem_of_mem_take y
        · exact List.mem_of_mem_drop y
      · rw [List.length_append, List.length_take, List.length_drop]
        omega
    · intro z
      omega
end K07
/-! text D28 -/
set_option Elab.async false
set_option linter.all false
set_option maxRecDepth 100000
set_option maxHeartbeats 8000000
/-! whether each lot of both holds one of each, no lesser lot does, and each lot of either is one of either -/
namespace K07
open PySem PySem.Spec PyProof.Rows L2 Evl PySem.W Dw Dw.DV RZ StX Lot LmV LamX NdefX XvE
section
variable {P : Program} {w : World} {K : PySem.W.Frag} {mg : Str → Option Value} {base : Heap} {f : Addr} {fd : FuncData} {fL fN f1 fK fS fO fH fF fT : Addr} {dL dN d1 dK dS dO dH dF dT : FuncData} {fC fW fU fV Pt : Addr} {dC dW dU dV : FuncData} {fBo fEi fCo fSa : Addr} {dBo dEi dCo dSa : FuncData} {fAl fOn fWi : Addr} {dAl dOn dWi : FuncData}
def spLe (Pt : Addr) : Sp := fun vs H Q _ => ∃ v u ks F G A, vs = [v, u] ∧ Ex A H ∧ Rdy Pt lmQ lmPos A ∧ rep A v F ∧ rep A u G ∧ Fam2 ks F G ∧ EndT H Q
abbrev NLe : List Str := ["one", "other", "both", "lots", "found", "lot", "k", "rest", "does", "either", "mine", "theirs", "some"]
abbrev scLeI1 : Scope := { kind := .function, names := [(".0", .local), ("mine", .cell), ("other", .cell)], isGenerator := false, isCoroutine := false }
abbrev scLeI2 : Scope := { kind := .function, names := [(".0", .local), ("some", .local), ("any", .globalImplicit), ("rest", .cell)], isGenerator := false, isCoroutine := false }
theorem uB0 {k : Nat} {A : Around} (hr : Room k A) : A.units + Datum.depth Bool < cLine := by
  have h := hr.un
  show A.units + 0 < cLine
  omega
theorem uI0 {k : Nat} {A : Around} (hr : Room k A) : A.units + Datum.depth Int < cLine := by
  have h := hr.un
  show A.units + 0 < cLine
  omega
theorem ev_inB {α : Type} [DecidableEq α] [Datum α] [DV α] {σ : L2.St} {A : Hp} {ta tb : TE} {x : α} {xs : List α} (ha : EvD ta σ A x) (hb : EvD tb σ A xs) {b : Bool} (h : b = true ↔ x ∈ xs) : Ev (tOp (rInW α false) ta tb) σ A (.bl b) := by
  have k := ev_inD ha hb
  rwa [show decide (x ∈ xs) = b from by rw [Bool.eq_iff_iff, decide_eq_true_iff, h]] at k
theorem b_forR {hi : Int} {n j : Nat} {ta : TA} {tb : TS} {D : Ends} {σ : L2.St} {A H : Hp} (e : Ex A H) (h : EvA ta σ A [.int hi]) (h1 : -(2 ^ 62) ≤ hi) (h2 : hi < 2 ^ 62) (hn : hi.toNat = n) (Pv : Nat → L2.St → Hp → Prop) (h0 : ∀ H1, Ex H H1 → Pv 0 σ H1)
    (hs : ∀ i σ H, i < n → Pv i σ H → gName j (.int (0 + (i : Int))) σ H fun σ2 H2 => tb { D with nx := Pv (i + 1), ct := Pv (i + 1), bk := D.nx } σ2 H2) (hd : ∀ σ H, Pv n σ H → D.nx σ H) : tFor (iRng1 ta) (gName j) tb D σ H := by
  subst hn
  refine h H e _ fun H1 e1 => ⟨hi, rfl, h1, h2, ?_⟩
  exact for_it (walk_range (lo := 0) (n := hi.toNat)) Pv (h0 H1 e1) (fun _ _ _ _ _ => trivial) (fun i x σ H2 H3 l p y => by
    obtain ⟨rfl, rfl⟩ := y
    exact hs i σ H3 l p) hd
theorem ed_evI {σ : L2.St} {A : Hp} {te : TE} {i : Int} (h : Ev te σ A (.int i)) : EvD te σ A i := fun H1 e _ q => h H1 e _ fun H2 e2 => q _ H2 (fun _ => none) e2 ⟨fun _ _ z => (by cases z), fun _ _ z => (by cases z)⟩ rfl
abbrev tLots (K : PySem.W.Frag) : TE := tLc (iList K (tOp (rIxT K) (tVar 0) (tC (.int 1)))) (gName 10) tYes (tLc (iList K (tOp (rIxT K) (tVar 1) (tC (.int 1)))) (gName 11) tYes (tCall (spOnce Str) [] E0 (tCons (tOp rCat (tVar 10) (tVar 11)) tNil)) [11]) [10]
end
end K07
/-! text W28 -/
set_option Elab.async false
set_option linter.all false
set_option maxRecDepth 100000
set_option maxHeartbeats 2000000
/-! what a reading evaluates to, of any kind (dicts, lists of unlike things) -/
namespace K07
open PySem PySem.Spec PyProof.Rows L2 Evl PySem.W Dw Dw.DV RZ StX Lot LmV LamX NdefX
/-- te goes on with something that is so -/
def EvR (te : TE) (σ : L2.St) (A : Hp) (R : Hp → V → Prop) : Prop := ∀ H1, Ex A H1 → ∀ Q : VK, (∀ v H2 Hs, Ex H1 H2 → Sup A H1 H2 Hs → R Hs v → Q v H2) → te σ H1 Q
def EvRA (ta : TA) (σ : L2.St) (A : Hp) (R : Hp → List V → Prop) : Prop := ∀ H1, Ex A H1 → ∀ Q : List V → Hp → Prop, (∀ vs H2 Hs, Ex H1 H2 → Sup A H1 H2 Hs → R Hs vs → Q vs H2) → ta σ H1 Q
def Mon {β : Type} (R : Hp → β → Prop) : Prop := ∀ H H' v, Ex H H' → R H v → R H' v
/-- a list, its things being so -/
def LR (R : Hp → List V → Prop) : Hp → V → Prop := fun H v => ∃ p vs, v = .ref p ∧ H p = some (.lst vs) ∧ R H vs
/-- a dict -/
def DkR (kvs : List (Key × V)) : Hp → V → Prop := fun H v => ∃ d, v = .ref d ∧ H d = some (.dK kvs)
def ConsR (R1 : Hp → V → Prop) (R2 : Hp → List V → Prop) : Hp → List V → Prop := fun H vs => ∃ v r, vs = v :: r ∧ R1 H v ∧ R2 H r
def NilR : Hp → List V → Prop := fun _ vs => vs = []
theorem lr_mon {R : Hp → List V → Prop} (m : Mon R) : Mon (LR R) := fun H H' v e ⟨p, vs, h1, h2, h3⟩ => ⟨p, vs, h1, e _ _ h2, m _ _ _ e h3⟩
theorem dk_mon {kvs : List (Key × V)} : Mon (DkR kvs) := fun H H' v e ⟨d, h1, h2⟩ => ⟨d, h1, e _ _ h2⟩
theorem cons_mon {R1 : Hp → V → Prop} {R2 : Hp → List V → Prop} (m1 : Mon R1) (m2 : Mon R2) : Mon (ConsR R1 R2) := fun H H' v e ⟨a, r, h1, h2, h3⟩ => ⟨a, r, h1, m1 _ _ _ e h2, m2 _ _ _ e h3⟩
theorem nil_mon : Mon NilR := fun _ _ _ _ h => h
theorem rep_mon {α : Type} [DecidableEq α] [Datum α] [DV α] {x : α} : Mon fun H v => rep H v x := fun _ _ _ e h => DV.ext e h
section
variable {α β : Type} [DecidableEq α] [Datum α] [DV α] [DecidableEq β] [Datum β] [DV β] {K : PySem.W.Frag} {σ : L2.St} {H A A0 H0 : Hp} {te ta tb tn td : TE} {tr : TA} {D : Ends} {R1 R2 : Hp → V → Prop} {L1 L2 : Hp → List V → Prop} {Pt : Addr}
theorem er_of {x : α} (h : EvD te σ A x) : EvR te σ A fun H v => rep H v x := h
theorem er_varR {i : Nat} {v : V} (h : σ[i]? = some (some v)) (r : R1 A v) : EvR (tVar i) σ A R1 := fun H1 e _ q => ⟨v, h, q v H1 A (Ex.refl H1) ⟨e, fun b u z => .inl z⟩ r⟩
theorem era_nil : EvRA tNil σ A NilR := fun H1 _ _ q => q [] H1 _ (Ex.refl H1) sup0 rfl
theorem era_cons (h : EvR te σ A R1) (hr : EvRA tr σ A L2) (m1 : Mon R1) (m2 : Mon L2) : EvRA (tCons te tr) σ A (ConsR R1 L2) := fun H1 e Q q =>
  h H1 e _ fun v H2 B e2 s r => hr H2 (e.trans e2) _ fun vs H3 C e3 t rs => q (v :: vs) H3 (jn B C) (e2.trans e3) (s.join e e2 e3 t) ⟨v, vs, rfl, m1 _ _ _ jn_l r, m2 _ _ _ (jn_r (s.e.trans e3) t.e) rs⟩
theorem er_lst (h : EvRA tr σ A L1) (hl : ∀ H vs, L1 H vs → vs.length ≤ 100000) (m : Mon L1) : EvR (tLst tr) σ A (LR L1) := fun H1 e Q q => h H1 e _ fun vs H2 B e2 s r => by
  refine ⟨sz_of (hl _ _ r), fun p np => ?_⟩
  exact q _ _ (upd B p (.lst vs)) (e2.trans (Ex.new np)) (sup_new e2 s np) ⟨p, vs, rfl, upd_same, m _ _ _ (Ex.new (sup_no s np)) r⟩
theorem er_copied {d : Nat} {E : XK} (h : EvR te σ A R1) (tw : ∀ H v, R1 H v → Tw H H d v v) (cp : ∀ H H' v u, R1 H v → Tw H H' d v u → R2 H' u) : EvR (tCall (spC d) [] E (tCons te tNil)) σ A R2 := fun H1 e Q q => h H1 e _ fun v H2 Hs e2 s r =>
  ⟨v, Hs, rfl, s.e, tw _ _ r, fun u H' Hs' e3 s1 s2 t => q u H' Hs' (e2.trans e3) ⟨s1, fun b o z => .inr (exf e2 (s2 b o z))⟩ (cp _ _ _ _ r t)⟩
theorem ev_sameR {d : Nat} {E : XK} (ha : EvR ta σ A R1) (hb : EvR tb σ A R2) (m1 : Mon R1) (m2 : Mon R2) (tw : ∀ H v u, R1 H v → R2 H u → Tw H H d v u) : Ev (tCall (spS d) [] E (tCons ta (tCons tb tNil))) σ A (.bl true) := fun H1 e1 Q q => ha H1 e1 _ fun v H2 B e2 s r => hb H2 (e1.trans e2) _ fun u H3 C e3 t r2 =>
  ⟨v, u, rfl, tw _ _ _ (m1 _ _ _ (s.e.trans e3) r) (m2 _ _ _ t.e r2), fun H' e4 => q H' ((e2.trans e3).trans e4)⟩
theorem er_cat (ha : EvR ta σ A (LR L1)) (hb : EvR tb σ A (LR L2)) (m1 : Mon L1) (m2 : Mon L2) (hl1 : ∀ H vs, L1 H vs → vs.length ≤ 1000) (hl2 : ∀ H vs, L2 H vs → vs.length ≤ 1000) : EvR (tOp rCat ta tb) σ A (LR fun H vs => ∃ xs ys, vs = xs ++ ys ∧ L1 H xs ∧ L2 H ys) := fun H1 e Q q => ha H1 e _ fun v H2 B e2 s r => hb H2 (e.trans e2) _ fun u H3 C e3 t r' => by
  obtain ⟨a, xs, rfl, g1, g2⟩ := r
  obtain ⟨b, ys, rfl, k1, k2⟩ := r'
  have sj := s.join e e2 e3 t
  have z1 := hl1 _ _ g2
  have z2 := hl2 _ _ k2
  refine ⟨a, b, xs, ys, rfl, rfl, e3 _ _ (s.e _ _ g1), t.e _ _ k1, sz_of (by omega), fun p np => ?_⟩
  have en : Ex (jn B C) (upd (jn B C) p (.lst (xs ++ ys))) := Ex.new (sup_no sj np)
  exact q _ _ _ ((e2.trans e3).trans (Ex.new np)) (sup_new (e2.trans e3) sj np) ⟨p, xs ++ ys, rfl, upd_same, xs, ys, rfl, m1 _ _ _ (jn_l.trans en) g2, m2 _ _ _ ((jn_r (s.e.trans e3) t.e).trans en) k2⟩
theorem er_counts {F : FamT} {E : XK} (h : EvD te σ A F) (hP : GoodF goodName F ∧ F.2.length ≤ 60) : EvR (tCall spCounts [] E (tCons te tNil)) σ A (DkR (countsKV F.2)) := fun H1 e Q q => h H1 e _ fun v H2 B e2 s r =>
  ⟨v, F, B, rfl, s.e, r, hP, fun d H' e3 nd hd => q _ H' (upd (fun _ => none) d (.dK (countsKV F.2))) (e2.trans e3) ⟨(by
    intro b o z
    by_cases y : b = d
    · rw [y, upd_same] at z
      rw [y, hd]
      exact z
    · rw [upd_ne y] at z
      cases z), (by
    intro b o z
    by_cases y : b = d
    · rw [y]
      exact .inr (exf e2 nd)
    · rw [upd_ne y] at z
      cases z)⟩ ⟨d, rfl, upd_same⟩⟩
theorem ed_ren {F : FamT} {E : XK} {ps : List (Str × Str)} (h : EvD te σ A F) (h' : EvR td σ A (DkR (kvsOf ps))) (M : Nmg F ps) : EvD (tCall spRen [] E (tCons te (tCons td tNil))) σ A (renOf F ps) := fun H1 e Q q => h H1 e _ fun v H2 B e2 s r => h' H2 (e.trans e2) _ fun u H3 C e3 t r' => by
  obtain ⟨d, rfl, hd⟩ := r'
  have sj := s.join e e2 e3 t
  exact ⟨v, d, F, ps, jn B C, rfl, sj.e, DV.ext jn_l r, jn_r (s.e.trans e3) t.e _ _ hd, M, fun z H4 Hs e4 w r4 => q z H4 Hs ((e2.trans e3).trans e4) (sj.deep (e2.trans e3) w) r4⟩
theorem ed_fall {F : FamT} {x : Str} {CN : Addr} (h : EvD te σ A F) (h' : EvD tn σ A x) (O : One F x) (hn : fall x F.2 ≠ []) : EvD (tCall (spFall CN) [] E0 (tCons te (tCons tn tNil))) σ A ((drop1 x F.1, fall x F.2) : FamT) := fun H1 e Q q => h H1 e _ fun v H2 B e2 s r => h' H2 (e.trans e2) _ fun u H3 C e3 t r' => by
  have sj := s.join e e2 e3 t
  exact ⟨v, u, F, x, jn B C, rfl, sj.e, DV.ext jn_l r, DV.ext (jn_r (s.e.trans e3) t.e) r', O, fun z => absurd z hn, fun _ z H4 Hs e4 w r4 => q z H4 Hs ((e2.trans e3).trans e4) (sj.deep (e2.trans e3) w) r4⟩
theorem ed_trust {F : FamT} {x : Str} {CN : Addr} (R : Rdy Pt lmQ lmPos A) (h : EvD te σ A F) (h' : EvD tn σ A x) (O : One F x) (hn : ¬ [] ∈ trust x F.2) : EvD (tCall (spTrust Pt CN) [] E0 (tCons te (tCons tn tNil))) σ A ((drop1 x F.1, leastOf (trust x F.2)) : FamT) := fun H1 e Q q => h H1 e _ fun v H2 B e2 s r => h' H2 (e.trans e2) _ fun u H3 C e3 t r' => by
  have sj := s.join e e2 e3 t
  have eA : Ex A H3 := (e.trans e2).trans e3
  exact ⟨v, u, F, x, jn A (jn B C), rfl, jn_ex eA sj.e, DV.ext (jn_l.trans (jn_r eA sj.e)) r, DV.ext ((jn_r (s.e.trans e3) t.e).trans (jn_r eA sj.e)) r', O, fun z => absurd z hn, fun _ => .inl ⟨R.ext jn_l, fun z H4 Hs e4 w r4 => q z H4 Hs ((e2.trans e3).trans e4) ⟨w.e, fun b o z => by
    rcases w.o b o z with y | y
    · rcases jn_of y with w | w
      · exact .inl w
      · exact sj.o b o w
    · exact .inr (exf (e2.trans e3) y)⟩ r4⟩⟩
/-! ### statements -/
theorem b_asgR {i : Nat} {tz : TS} (B : Bs A0 H0 A H) (h : EvR te σ A R1) (m : Mon R1) (k : ∀ v A' H1, Bs A0 H0 A' H1 → Ex A A' → R1 A' v → tz D (σ.set i (some v)) H1) : tSeq (tAsg te (gName i)) tz D σ H := h H B.h _ fun v H1 Hs e s r => k v (jn A Hs) H1 (B.go e s) jn_l (m _ _ _ (jn_r (B.h.trans e) s.e) r)
theorem b_lstR {i : Nat} {tz : TS} (B : Bs A0 H0 A H) (h : EvRA tr σ A L1) (hl : ∀ H vs, L1 H vs → vs.length ≤ 100000) (m : Mon L1) (k : ∀ vs d A' H1, Bs A0 H0 A' H1 → Ex A A' → A' d = none → H0 d = none → H1 d = some (.lst vs) → L1 A' vs → tz D (σ.set i (some (.ref d))) H1) : tSeq (tAsg (tLst tr) (gName i)) tz D σ H := h H B.h _ fun vs H1 Hs e s r => by
  refine ⟨sz_of (hl _ _ r), fun d nd => ?_⟩
  have B1 := B.go e s
  exact k vs d (jn A Hs) _ (B1.mono (Ex.new nd)) jn_l (fresh_back B1.h nd) (fresh_back B1.e nd) upd_same (m _ _ _ (jn_r (B.h.trans e) s.e) r)
end
end K07
/-! text W29 -/
set_option Elab.async false
set_option linter.all false
set_option maxRecDepth 100000
set_option maxHeartbeats 2000000
/-! lists or tuples: walked, indexed, their lengths; things given loosely (lists or tuples at each place) -/
namespace Dw
open PySem PySem.Spec PyProof.Rows L2 Evl PySem.W DV
/-- a list or a tuple, as it is found, walked -/
def iSeq (K : PySem.W.Frag) (tl : TE) : TI := fun σ H R => tl σ H fun x H1 => ∃ a, x = .ref a ∧ (((∃ xs, SqL K H1 a xs) ∧ R (Itl K a) H1) ∨ ((∃ xs, SqT K H1 a xs) ∧ R (Itt K a) H1))
section
variable {X : Cx} {tg : Expr}
theorem pi_seq {l : Expr} {tl : TE} (hl : PE X l tl) : PI X tg l (iSeq X.K tl) := by
  refine ⟨fun pins s σ H R I h => ?_⟩
  refine thn (hl.run pins s σ H _ I h) fun v s1 ⟨x, H1, I1, r1, q1⟩ => ?_
  obtain ⟨a, e, q1⟩ := q1
  subst e
  cases r1
  have fp : ∀ b ∈ [s1.heap.objs.size], FpOk X pins H1 b := fun b hb => by
    rw [List.mem_singleton.mp hb]
    exact I1.fpOk (Nat.le_refl _) (I1.hok.fresh (Nat.le_refl _))
  rcases q1 with ⟨⟨xs, hq⟩, q⟩ | ⟨⟨xs, hq⟩, q⟩
  · obtain ⟨its, rv, p, hz⟩ := I1.list hq
    refine wpAny_pyIter_list p.isList ?_
    exact ⟨s1.heap.objs.size, [s1.heap.objs.size], _, _, H1, rfl, I1.kept (t' := s1.toks) fun b o e => Heap.get?_push_of_some _ e, turn_list a _, ⟨_, Heap.get?_push_size _ rfl, rfl, rfl⟩, fp, q⟩
  · obtain ⟨its, rv, p, hz⟩ := I1.tuple hq
    refine wpAny_pyIter_tuple (show s1.heap.IsTuple a its.toArray from p) ?_
    exact ⟨s1.heap.objs.size, [s1.heap.objs.size], _, _, H1, rfl, I1.kept (t' := s1.toks) fun b o e => Heap.get?_push_of_some _ e, turn_tuple a _, ⟨_, Heap.get?_push_size _ rfl, rfl, rfl⟩, fp, q⟩
end
/-! ### things given loosely -/
/-- the part A has a list or a tuple of vs at a -/
def SeqAt (A : Hp) (a : Addr) (vs : List V) : Prop := A a = some (.lst vs) ∨ A a = some (.tup vs)
theorem SeqAt.ext {A A' : Hp} (e : Ex A A') {a : Addr} {vs : List V} (h : SeqAt A a vs) : SeqAt A' a vs := h.imp (e _ _) (e _ _)
/-- a list or a tuple, its things being so -/
def SqR (R : Hp → List V → Prop) : Hp → V → Prop := fun H v => ∃ a vs, v = .ref a ∧ SeqAt H a vs ∧ R H vs
/-- all things of a list being so, each of another x -/
def AllR {α : Type} (R : α → Hp → V → Prop) (xs : List α) : Hp → List V → Prop := fun H vs => Paired (fun v x => R x H v) vs xs
theorem AllR.mon {α : Type} {R : α → Hp → V → Prop} (m : ∀ x, K07.Mon (R x)) {xs : List α} : K07.Mon (AllR R xs) := fun H H' vs e h => pimp (fun v x r => m x _ _ _ e r) h
theorem SqR.mon {R : Hp → List V → Prop} (m : K07.Mon R) : K07.Mon (SqR R) := fun H H' v e ⟨a, vs, h1, h2, h3⟩ => ⟨a, vs, h1, h2.ext e, m _ _ _ e h3⟩
/-- texts; a list of texts, of lists of texts, a family, each given loosely -/
def StrR (x : Str) : Hp → V → Prop := fun _ v => v = .str x
def LsR (xs : List Str) : Hp → V → Prop := SqR (AllR StrR xs)
def LlR (xs : List (List Str)) : Hp → V → Prop := SqR (AllR LsR xs)
def FmR (F : List Str × List (List Str)) : Hp → V → Prop := SqR fun H vs => ∃ v u, vs = [v, u] ∧ LsR F.1 H v ∧ LlR F.2 H u
theorem strR_mon (x : Str) : K07.Mon (StrR x) := fun _ _ _ _ h => h
theorem lsR_mon (xs : List Str) : K07.Mon (LsR xs) := SqR.mon (AllR.mon strR_mon)
theorem llR_mon (xs : List (List Str)) : K07.Mon (LlR xs) := SqR.mon (AllR.mon lsR_mon)
theorem fmR_mon (F : List Str × List (List Str)) : K07.Mon (FmR F) := SqR.mon fun H H' vs e ⟨v, u, h1, h2, h3⟩ => ⟨v, u, h1, lsR_mon _ _ _ _ e h2, llR_mon _ _ _ _ e h3⟩
/-- what is given strictly is given loosely, too -/
theorem lsR_of {A : Hp} {v : V} {xs : List Str} (h : rep A v xs) : LsR xs A v := by
  obtain ⟨a, vs, rfl, h1, h2⟩ := h
  exact ⟨a, vs, rfl, .inl h1, pimp (fun _ _ z => z) h2⟩
theorem llR_of {A : Hp} {v : V} {xs : List (List Str)} (h : rep A v xs) : LlR xs A v := by
  obtain ⟨a, vs, rfl, h1, h2⟩ := h
  exact ⟨a, vs, rfl, .inl h1, pimp (fun _ _ z => lsR_of z) h2⟩
theorem fmR_of {A : Hp} {v : V} {F : List Str × List (List Str)} (h : rep A v F) : FmR F A v := by
  obtain ⟨a, v1, v2, rfl, h1, h2, h3⟩ := h
  exact ⟨a, _, rfl, .inr h1, v1, v2, rfl, lsR_of h2, llR_of h3⟩
end Dw
/-! text W30 -/
set_option Elab.async false
set_option linter.all false
set_option maxRecDepth 100000
set_option maxHeartbeats 2000000
/-! readings of things given loosely -/
namespace Dw
open PySem PySem.Spec PyProof.Rows L2 Evl PySem.W DV K07
section
variable {α β : Type} [DecidableEq β] [Datum β] [DV β] {K : PySem.W.Frag} {σ : L2.St} {H A A0 H0 : Hp} {te tl : TE} {tt : TT} {D : Ends} {R1 : Hp → V → Prop} {L1 : Hp → List V → Prop}
theorem EvR.go {H1 : Hp} (h : EvR te σ A R1) (m : Mon R1) (e : Ex A H1) {Q : VK} (q : ∀ v H2, Ex H1 H2 → R1 H2 v → Q v H2) : te σ H1 Q := h H1 e Q fun v H2 Hs e2 s r => q v H2 e2 (m _ _ _ s.e r)
theorem SeqAt.seq {a : Addr} {vs : List V} (h : SeqAt H a vs) : SqL K H a vs ∨ SqT K H a vs := h.imp sq_of st_of
/-- len(te), te loose -/
theorem ev_lenS {n : Nat} (h : EvR te σ A (SqR L1)) (m : Mon L1) (hn : ∀ H vs, L1 H vs → vs.length = n) : Ev (tCB (rLenS K) (tCons te tNil)) σ A (.int (n : Int)) := fun H1 e Q q => EvR.go h (SqR.mon m) e fun v H2 e2 r => by
  obtain ⟨a, vs, rfl, h1, h2⟩ := r
  refine ⟨a, vs, rfl, h1.seq, ?_⟩
  rw [hn _ _ h2]
  exact q H2 e2
/-- te[i], te loose -/
theorem er_ixS {i : Nat} (h : EvR te σ A (SqR L1)) (m1 : Mon R1) (hi : ∀ H vs, L1 H vs → i < vs.length ∧ ∀ v, vs[i]? = some v → R1 H v) : EvR (tOp (rIx K) te (tC (.int (i : Int)))) σ A R1 := fun H1 e Q q => h H1 e _ fun v H2 Hs e2 s r => by
  obtain ⟨a, vs, rfl, h1, h2⟩ := r
  obtain ⟨k1, k2⟩ := hi _ _ h2
  have hv : vs[i]? = some vs[i] := List.getElem?_eq_getElem k1
  have at' : atI vs (i : Int) = some vs[i] := by
    show (ixN vs.length (i : Int)).bind _ = _
    rw [ixN_nat k1]
    exact hv
  rcases h1 with h1 | h1
  · exact .inl ⟨a, vs, (i : Int), vs[i], rfl, rfl, sq_of (s.e _ _ h1), at', q _ H2 Hs e2 s (k2 _ hv)⟩
  · exact .inr (.inl ⟨a, vs, (i : Int), vs[i], rfl, rfl, st_of (s.e _ _ h1), at', q _ H2 Hs e2 s (k2 _ hv)⟩)
/-- list(te), te loose -/
theorem er_listS (h : EvR te σ A (SqR L1)) (m : Mon L1) (hz : ∀ H vs, L1 H vs → vs.length ≤ 100000) : EvR (tCB (rListS K) (tCons te tNil)) σ A (LR L1) := fun H1 e Q q => h H1 e _ fun v H2 Hs e2 s r => by
  obtain ⟨a, vs, rfl, h1, h2⟩ := r
  refine ⟨a, vs, rfl, (h1.ext s.e).seq, fun p np => ?_⟩
  exact q _ _ (upd Hs p (.lst vs)) (e2.trans (Ex.new np)) (sup_new e2 s np) ⟨p, vs, rfl, upd_same, m _ _ _ (Ex.new (sup_no s np)) h2⟩
/-- a comprehension over a list or a tuple -/
theorem ed_lcS {xs : List α} {R : α → Hp → V → Prop} {j : Nat} {vs : List Nat} (m : ∀ x, Mon (R x)) (f : α → Bool) (g : α → β) (h : EvR tl σ A (SqR (AllR R xs))) (hz : xs.length ≤ 30000) (hw : ∀ x, wipe ((wipe σ vs).set j (some x)) vs = wipe σ vs)
    (ht : ∀ (x : α) (v : V) H1, Ex A H1 → x ∈ xs → R x H1 v → EvT tt ((wipe σ vs).set j (some v)) H1 (f x)) (he : ∀ (x : α) (v : V) H1, Ex A H1 → x ∈ xs → R x H1 v → f x = true → EvD te ((wipe σ vs).set j (some v)) H1 (g x)) :
    EvD (tLc (iSeq K tl) (gName j) tt te vs) σ A ((xs.filter f).map g) := fun H0 e0 Q q => h H0 e0 _ fun v H1 Hs e1 sp r => by
  obtain ⟨a, us, rfl, h1, h2⟩ := r
  have h2' : Paired (fun v x => R x Hs v) us xs := h2
  have len : us.length = xs.length := Paired.length h2'
  have eB : Ex (jn A Hs) H1 := jn_ex (e0.trans e1) sp.e
  have oB : ∀ b u, (jn A Hs) b = some u → A b = some u ∨ H0 b = none := fun b u z => (jn_of z).elim .inl (sp.o b u)
  have turn : ∀ (i : Nat) (x : V), i < us.length → us[i]? = some x → ∃ (b : Bool) (y : β), (b = true → ((xs.take (i + 1)).filter f).map g = ((xs.take i).filter f).map g ++ [y]) ∧ (b = false → ((xs.take (i + 1)).filter f).map g = ((xs.take i).filter f).map g) ∧ EvT tt ((wipe σ vs).set j (some x)) (jn A Hs) b ∧ (b = true → EvD te ((wipe σ vs).set j (some x)) (jn A Hs) y) := fun i x hi hx => by
    have hk : xs[i]? = some xs[i] := List.getElem?_eq_getElem (by omega)
    have rx : R xs[i] (jn A Hs) x := m _ _ _ _ (jn_r (e0.trans e1) sp.e) (pat (F := fun v x => R x Hs v) h2' hx hk)
    have mx : xs[i] ∈ xs := List.getElem_mem _
    refine ⟨f xs[i], g xs[i], fun z => ?_, fun z => ?_, ht _ x _ jn_l mx rx, fun z => he _ x _ jn_l mx rx z⟩
    · rw [List.take_add_one, hk, List.filter_append, List.map_append]
      simp [z]
    · rw [List.take_add_one, hk, List.filter_append, List.map_append]
      simp [z]
  have hl : ∀ i, i < us.length → (((xs.take i).filter f).map g).length < 40000 := fun i hi => by
    rw [List.length_map]
    have := List.length_filter_le f (xs.take i)
    rw [List.length_take] at this
    omega
  have fin : ∀ {w : V} {Hw : Hp}, rep Hw w (((xs.take us.length).filter f).map g) → rep Hw w ((xs.filter f).map g) := fun r5 => by
    rw [List.take_of_length_le (by omega)] at r5
    exact r5
  refine ⟨a, rfl, ?_⟩
  rcases h1 with h1 | h1
  · have ha := sp.e _ _ h1
    refine .inl ⟨⟨us, sq_of ha⟩, fun D nD => ?_⟩
    refine ed_lcW (walk_list (xs := us)) e1 eB oB (fun i => ((xs.take i).filter f).map g) (by simp) hl (fun H' e => sq_of (e _ _ ha)) (fun i x H2 H3 hi e2 hy => ?_) (fun v H5 Hw e5 s5 r5 => q v H5 Hw e5 s5 (fin r5)) nD
    obtain ⟨rfl, hx⟩ := hy
    obtain ⟨b, y, t1, t2, t3, t4⟩ := turn i x hi hx
    exact ⟨Ex.refl _, b, y, t1, t2, fun C c => c _ (hw x) t3 t4⟩
  · have ha := sp.e _ _ h1
    refine .inr ⟨⟨us, st_of ha⟩, fun D nD => ?_⟩
    refine ed_lcW (walk_tup (xs := us)) e1 eB oB (fun i => ((xs.take i).filter f).map g) (by simp) hl (fun H' e => st_of (e _ _ ha)) (fun i x H2 H3 hi e2 hy => ?_) (fun v H5 Hw e5 s5 r5 => q v H5 Hw e5 s5 (fin r5)) nD
    obtain ⟨rfl, hx⟩ := hy
    obtain ⟨b, y, t1, t2, t3, t4⟩ := turn i x hi hx
    exact ⟨Ex.refl _, b, y, t1, t2, fun C c => c _ (hw x) t3 t4⟩
end
section
variable {K : PySem.W.Frag} {σ : L2.St} {A : Hp} {te : TE} {E : XK} {L1 : Hp → List V → Prop}
theorem ev_isListR (h : EvR te σ A (SqR L1)) (m : Mon L1) : Ev (tCall spIsList [] E (tCons te tNil)) σ A (.bl true) := fun H1 e Q q => EvR.go h (SqR.mon m) e fun v H2 e2 r => by
  obtain ⟨a, vs, rfl, h1, _⟩ := r
  exact ⟨a, vs, rfl, h1, fun H' e3 => q H' (e2.trans e3)⟩
end
end Dw
/-! text E1 -/
set_option Elab.async false
set_option linter.all false
set_option maxRecDepth 100000
set_option maxHeartbeats 4000000
/-! is_list, is_name, is_one_of of any object -/
namespace K07
open PySem PySem.Spec PyProof.Rows L2 Evl PySem.W Dw Dw.DV
/-- of what kind a thing is -/
inductive Kd (H : Hp) : V → String → Prop where
  | non : Kd H .non "NoneType"
  | bl (b : Bool) : Kd H (.bl b) "bool"
  | int (i : Int) : Kd H (.int i) "int"
  | str (x : Str) : Kd H (.str x) "str"
  | lst {a : Addr} {xs : List V} (h : H a = some (.lst xs)) : Kd H (.ref a) "list"
  | tup {a : Addr} {xs : List V} (h : H a = some (.tup xs)) : Kd H (.ref a) "tuple"
  | dct {a : Addr} {kvs : List (Key × V)} (h : H a = some (.dK kvs)) : Kd H (.ref a) "dict"
theorem Kd.ext {H H' : Hp} (e : Ex H H') {v : V} {t : String} (h : Kd H v t) : Kd H' v t := by
  cases h with
  | non => exact .non
  | bl b => exact .bl b
  | int i => exact .int i
  | str x => exact .str x
  | lst h => exact .lst (e _ _ h)
  | tup h => exact .tup (e _ _ h)
  | dct h => exact .dct (e _ _ h)
theorem Kd.ty {K : PySem.W.Frag} {H : Hp} {v : V} {t : String} (h : Kd H v t) : TyX K H v (.type t) := by
  cases h with
  | non => exact .base .non
  | bl b => exact .base (.bl b)
  | int i => exact .base (.int i)
  | str x => exact .base (.str x)
  | lst h => exact .base (.lst h)
  | tup h => exact .base (.tup h)
  | dct h => exact .base (.dK h)
theorem Kd.one {H : Hp} {v : V} {t : String} (h : Kd H v t) : t ∈ ["NoneType", "bool", "int", "str", "list", "tuple", "dict"] := by
  cases h <;> simp
def isLB (t : String) : Bool := decide (t = "list") || decide (t = "tuple")
theorem kLT {K : PySem.W.Frag} {H : Hp} {v : V} {t : String} (h : Kd H v t) : PySem.W.kitAny K (.type t) [.type "list", .type "tuple"] = some (isLB t) := by
  cases h
  all_goals first
    | exact kAny (b := true) (c := false) (by decide +kernel) (by decide +kernel)
    | exact kAny (b := false) (c := true) (by decide +kernel) (by decide +kernel)
    | exact kAny (b := false) (c := false) (by decide +kernel) (by decide +kernel)
theorem kS {K : PySem.W.Frag} {H : Hp} {v : V} {t : String} (h : Kd H v t) : PySem.W.kitOne K (.type t) (.type "str") = some (decide (t = "str")) := by
  cases h
  all_goals exact kit_ty (by decide +kernel)
theorem kD {K : PySem.W.Frag} {H : Hp} {v : V} {t : String} (h : Kd H v t) : PySem.W.kitOne K (.type t) (.type "dict") = some (decide (t = "dict")) := by
  cases h
  all_goals exact kit_ty (by decide +kernel)
theorem kLi {K : PySem.W.Frag} {H : Hp} {v : V} {t : String} (h : Kd H v t) : PySem.W.kitOne K (.type t) (.type "list") = some (decide (t = "list")) := by
  cases h
  all_goals exact kit_ty (by decide +kernel)
section
variable {P : Program} {w : World} {K : PySem.W.Frag} {mg : Str → Option Value} {base : Heap} {f : Addr} {fd : FuncData}
def spIsListG : Sp := fun vs H Q _ => ∃ v t, vs = [v] ∧ Kd H v t ∧ ∀ H', Ex H H' → Q (.bl (isLB t)) H'
theorem ok_is_listG (F : FnP K "is_list" (top 14) f fd) (mi : mg "isinstance" = none) (ml : mg "list" = none) (mt : mg "tuple" = none) : FnOk P w K mg base CX0 1 f fd ["thing"] spIsListG := by
  refine F.ok scIsList (fun vs H Q E h => ?_) (fun cdv A outer s H vs Q E hr h => ?_)
  · obtain ⟨v, _, rfl, _⟩ := h
    rfl
  · obtain ⟨v, t, rfl, k, q⟩ := h
    refine ⟨_, PSs.nox (pss_one (ps_ret (pe_callB call_isiT (by rfl) mi (by decide +kernel) (pa_cons (pv 0) (pa_cons (pe_tup (pa_cons (pe_bltn (v := .ty "list") (by rfl) ml (by decide +kernel) rfl) (pa_cons (pe_bltn (v := .ty "tuple") (by rfl) mt (by decide +kernel) rfl) pa_nil))) pa_nil))))), ?_⟩
    refine ⟨v, rfl, by show 2 ≤ sizeLine; decide, fun T nT => ?_⟩
    have e1 : Ex H (upd H T (.tup [.ty "list", .ty "tuple"])) := Ex.new nT
    have pl : Paired ClsV [V.ty "list", V.ty "tuple"] [Value.type "list", Value.type "tuple"] := .cons (.ty _) (.cons (.ty _) .nil)
    exact ⟨_, T, _, _, _, _, rfl, upd_same, pl, (k.ext e1).ty, kLT k, q _ e1⟩
end
end K07
/-! text E2 -/
set_option Elab.async false
set_option linter.all false
set_option maxRecDepth 100000
set_option maxHeartbeats 4000000
/-! is_name of any object -/
namespace K07
open PySem PySem.Spec PyProof.Rows L2 Evl PySem.W Dw Dw.DV
def nmV : V → Bool
  | .str x => goodName x
  | _ => false
def lenV : V → Prop
  | .str x => x.length ≤ 100000
  | _ => True
section
variable {P : Program} {w : World} {K : PySem.W.Frag} {mg : Str → Option Value} {base : Heap} {f : Addr} {fd : FuncData}
def spIsNameG : Sp := fun vs H Q _ => ∃ v t, vs = [v] ∧ Kd H v t ∧ lenV v ∧ ∀ H', Ex H H' → Q (.bl (nmV v)) H'
theorem ok_is_nameG (F : FnP K "is_name" (top 15) f fd) (mi : mg "isinstance" = none) (ms : mg "str" = none) (ml : mg "len" = none) (ma : mg "all" = none) : FnOk P w K mg base CX0 1 f fd ["thing"] spIsNameG := by
  refine F.ok scIsName (fun vs H Q E h => ?_) (fun cdv A outer s H vs Q E hr h => ?_)
  · obtain ⟨v, _, rfl, _⟩ := h
    rfl
  · obtain ⟨v, t, rfl, k, hz, q⟩ := h
    refine ⟨_, PSs.nox (pss_cons (ps_if (pw_or (pt_not (pt_val (pe_callB call_isi (by rfl) mi (by decide +kernel) (pa_cons (pv 0) (pa_cons (pe_bltn (v := .ty "str") (by rfl) ms (by decide +kernel) rfl) pa_nil)))))
        (pw_or1 (pt_not (pt_chain op_lt op_lt pe_int (pe_callB call_len_str (by rfl) ml PySem.boot_len (pa_cons (pv 0) pa_nil)) pe_int)))).pt (pss_one (ps_ret pe_bl)) pss_nil)
      (pss_cons (ps_set (i := 1) scIsName.nd rfl (.inr rfl) pe_str)
      (pss_one (ps_ret (pe_and (pe_cmpR op_in_sign (pe_ix ix_str (pv 0) pe_int (fun _ _ => rfl)) (pv 1) (by rfl)) (pe_one (pe_callB (cr_all rfl) (by rfl) ma (by decide +kernel) (pa_cons (pe_lc (own := [("sign", 2)]) (g := gName 2) (tt := tYes) (te := tOp (fun x y H Q => ∃ (c : Nat) (z : Str), x = .str ⟨#[c]⟩ ∧ y = .str z ∧ Q (.bl (decide (c ∈ z.cps.toList))) H) (tVar 2) (tOp (fun x y H Q => ∃ i j, x = .str i ∧ y = .str j ∧ i.length + j.length ≤ sizeLine ∧ Q (.str (i ++ j)) H) (tVar 1) (tC (.str "0123456789")))) rfl scIsName.nd
        (pi_str (pv 0)) (blkOk_by (N := ["thing", "letters", "sign"]) (sc := defScope (top 15)) (by decide +kernel))
        (fun _ _ _ _ _ => pg_name (i := 2) scIsName.nd rfl (.inl rfl)) (fun _ _ _ _ _ => pts_nil) (fun _ _ _ _ _ => pe_cmpR op_in_sign (pv 2) (pe_op op_add_str (pv 1) pe_str) (by rfl))) pa_nil)))))))), ?_⟩
    cases k with
    | non => exact ⟨.non, rfl, _, _, _, _, false, rfl, .ty _, .base .non, kit_ty (by decide +kernel), _, rfl, q H (Ex.refl H)⟩
    | bl b => exact ⟨.bl b, rfl, _, _, _, _, false, rfl, .ty _, .base (.bl b), kit_ty (by decide +kernel), _, rfl, q H (Ex.refl H)⟩
    | int i => exact ⟨.int i, rfl, _, _, _, _, false, rfl, .ty _, .base (.int i), kit_ty (by decide +kernel), _, rfl, q H (Ex.refl H)⟩
    | lst h => exact ⟨_, rfl, _, _, _, _, false, rfl, .ty _, .base (.lst h), kit_ty (by decide +kernel), _, rfl, q H (Ex.refl H)⟩
    | tup h => exact ⟨_, rfl, _, _, _, _, false, rfl, .ty _, .base (.tup h), kit_ty (by decide +kernel), _, rfl, q H (Ex.refl H)⟩
    | dct h => exact ⟨_, rfl, _, _, _, _, false, rfl, .ty _, .base (.dK h), kit_ty (by decide +kernel), _, rfl, q H (Ex.refl H)⟩
    | str x =>
      have hz' : x.length ≤ 100000 := hz
      have hsz : x.length ≤ sizeLine := sz_of hz'
      refine ⟨.str x, rfl, _, _, _, _, true, rfl, .ty _, .base (.str x), kit_ty (by decide +kernel), _, rfl, ?_⟩
      refine ⟨.str x, rfl, x, rfl, hsz, _, _, rfl, rfl, _, rfl, ?_⟩
      by_cases p0 : 0 < x.length
      · rw [decide_eq_true (show (0 : Int) < (x.length : Int) by omega)]
        refine ⟨_, _, rfl, rfl, _, rfl, ?_⟩
        by_cases p13 : x.length < 13
        · rw [decide_eq_true (show (x.length : Int) < 13 by omega)]
          have hl : x.cps.toList.length = x.length := Array.length_toList
          obtain ⟨c0, r0, ec⟩ : ∃ c r, x.cps.toList = c :: r := by
            cases ee : x.cps.toList with
            | nil =>
              rw [ee] at hl
              simp at hl
              omega
            | cons c r => exact ⟨c, r, rfl⟩
          have eg : nmV (.str x) = (decide (c0 ∈ letters.cps.toList) && x.cps.toList.all fun c => decide (c ∈ signs.cps.toList)) := by
            show goodName x = _
            unfold goodName
            rw [decide_eq_true p0, decide_eq_true p13, Bool.true_and, Bool.true_and, ec]
          refine ⟨.str x, rfl, x, 0, c0, rfl, rfl, hsz, ?_, .str letters, rfl, c0, letters, rfl, rfl, ?_⟩
          · have e0 : ixN x.cps.toList.length 0 = some 0 := ixN_nat (j := 0) (by rw [hl]; exact p0)
            show (ixN x.cps.toList.length 0).bind _ = _
            rw [e0]
            show x.cps.toList[0]? = _
            rw [ec]
            rfl
          refine ⟨_, rfl, ?_⟩
          by_cases pm : c0 ∈ letters.cps.toList
          · rw [decide_eq_true pm]
            rw [decide_eq_true pm, Bool.true_and] at eg
            refine ⟨.str x, rfl, x, rfl, fun D nD => ?_⟩
            refine lc_it walk_str (fun i H' => H' D = some (.lst (((x.cps.toList.map fun c => decide (c ∈ signs.cps.toList)).take i).map V.bl)) ∧ Ex H H') ⟨upd_same, Ex.new nD⟩ (fun i H2 _ hI => True.intro) (fun i z H2 H3 hi hI hY => ?_) (fun H2 hI => ?_)
            · obtain ⟨g1, g2⟩ := hI
              obtain ⟨rfl, c, hc, rfl⟩ := hY
              refine ⟨rfl, _, rfl, ?_⟩
              refine ⟨_, rfl, letters, "0123456789", rfl, rfl, by decide, c, signs, rfl, rfl, _, g1, ?_, ?_, g2.mut nD⟩
              · rw [List.length_map, List.length_take, List.length_map]
                exact sz_lt (by have : x.cps.size = x.length := rfl; omega)
              · have hc' : x.cps.toList[i]? = some c := by rw [Array.getElem?_toList]; exact hc
                rw [upd_same, List.take_add_one, List.getElem?_map, hc', List.map_append]
                rfl
            · obtain ⟨g1, g2⟩ := hI
              have sz : x.cps.size = x.length := rfl
              rw [List.take_of_length_le (by rw [List.length_map, hl, sz]; exact Nat.le_refl _)] at g1
              refine ⟨D, _, rfl, sq_of g1, ?_⟩
              have qf := q _ g2
              rw [eg] at qf
              rw [List.all_map]
              exact qf
          · rw [decide_eq_false pm]
            rw [decide_eq_false pm, Bool.false_and] at eg
            have qf := q H (Ex.refl H)
            rw [eg] at qf
            exact qf
        · rw [decide_eq_false (show ¬ (x.length : Int) < 13 by omega)]
          have e : nmV (.str x) = false := by
            show goodName x = false
            unfold goodName
            rw [decide_eq_false p13, Bool.false_and, Bool.and_false]
          have qf := q H (Ex.refl H)
          rw [e] at qf
          exact qf
      · rw [decide_eq_false (show ¬ (0 : Int) < (x.length : Int) by omega)]
        have e : nmV (.str x) = false := by
          show goodName x = false
          unfold goodName
          rw [decide_eq_false p0, Bool.false_and]
        have qf := q H (Ex.refl H)
        rw [e] at qf
        rw [if_neg Bool.false_ne_true]
        exact ⟨_, rfl, qf⟩
end
end K07
/-! text W31 -/
set_option Elab.async false
set_option linter.all false
set_option maxRecDepth 100000
set_option maxHeartbeats 2000000
/-! zip(thing, thing[1:]) of a list or a tuple -/
namespace Dw
open PySem PySem.Spec PyProof.Rows L2 Evl PySem.W DV K07 RZ
section
variable {K : PySem.W.Frag} {a b : Addr} {xs ys : List V}
theorem walk_zipT {n : Nat} (hn : n = min xs.length ys.length) : Walk (ItzT K a b) n (fun H => SqT K H a xs ∧ SqT K H b ys) (YPair (fun i => xs[i]?) (fun i => ys[i]?)) := by
  subst hn
  refine ⟨fun i _ hi q => ?_, fun _ q => ⟨xs, ys, q.1, q.2, by omega⟩, fun i H v H' _ q y => ?_⟩
  · have h1 : i < xs.length := by omega
    have h2 : i < ys.length := by omega
    exact ⟨xs, ys, xs[i], ys[i], q.1, q.2, by simp [h1], by simp [h2]⟩
  · obtain ⟨T, x, z, h1, h2, h3, h4, h5⟩ := y
    exact ⟨T, x, z, h1, h2, h3, h4 xs q.1, h5 ys q.2⟩
/-- a slice of a list or a tuple -/
def rSlS (K : PySem.W.Frag) : V → Option Int → Option Int → Hp → VK → Prop := fun x lo hi H Q => rSlL K x lo hi H Q ∨ rSlA K x lo hi H Q
theorem sl_seq {X : Cx} : SlR X (rSlS X.K) := SlR.or sl_list sl_tupA
end
section
variable {α β γ : Type} [DecidableEq γ] [Datum γ] [DV γ] {K : PySem.W.Frag} {σ : L2.St} {A : Hp} {te : TE} {tt : TT}
theorem cutV_tail (us : List V) : cutV us (some 1) none = us.drop 1 := cut_tail us
/-- [te for x, y in zip(thing, thing[1:])] -/
theorem ed_tailS {xs : List α} {R : α → Hp → V → Prop} {n i j : Nat} {v0 : V} {vs : List Nat} (m : ∀ x, Mon (R x)) (g : α → α → γ) (hσ : σ[n]? = some (some v0)) (h0 : SqR (AllR R xs) A v0) (hz : xs.length ≤ 30000)
    (hw : ∀ x y, wipe (((wipe σ vs).set i (some x)).set j (some y)) vs = wipe σ vs)
    (he : ∀ (x y : α) (v u : V) H1, Ex A H1 → x ∈ xs → y ∈ xs → R x H1 v → R y H1 u → EvD te (((wipe σ vs).set i (some v)).set j (some u)) H1 (g x y)) :
    EvD (tLc (iZipA K (tCons (tVar n) (tCons (tSl (rSlS K) (tVar n) (tPart (tC (.int 1))) tNoPart) tNil))) (gTup K 2 (gCons (gName i) (gCons (gName j) gNil))) tYes te vs) σ A (xs.zipWith g (xs.drop 1)) := by
  intro H0 e0 Q q
  obtain ⟨a, us, rfl, h1, h2⟩ := h0
  have h2' : Paired (fun v x => R x A v) us xs := h2
  have len : us.length = xs.length := Paired.length h2'
  have l0 : ((xs.zipWith g (xs.drop 1)).length) = us.length - 1 := by
    rw [List.length_zipWith, List.length_drop]
    omega
  have step : ∀ {H1 : Hp}, Ex A H1 → ∀ (k : Nat) (x1 y1 : V), us[k]? = some x1 → (us.drop 1)[k]? = some y1 → ∃ x y, xs[k]? = some x ∧ (xs.drop 1)[k]? = some y ∧ x ∈ xs ∧ y ∈ xs ∧ R x H1 x1 ∧ R y H1 y1 := fun {H1} e k x1 y1 hx hy => by
    obtain ⟨lx, _⟩ := List.getElem?_eq_some_iff.mp hx
    rw [List.getElem?_drop] at hy
    obtain ⟨ly, _⟩ := List.getElem?_eq_some_iff.mp hy
    have gx : xs[k]? = some xs[k] := List.getElem?_eq_getElem (by omega)
    have gy : xs[1 + k]? = some xs[1 + k] := List.getElem?_eq_getElem (by omega)
    exact ⟨_, _, gx, by rw [List.getElem?_drop]; exact gy, List.getElem_mem _, List.getElem_mem _, m _ _ _ _ e (pat (F := fun v x => R x A v) h2' hx gx), m _ _ _ _ e (pat (F := fun v x => R x A v) h2' hy gy)⟩
  have mn : min us.length (us.drop 1).length = us.length - 1 := by
    rw [List.length_drop]
    omega
  have r0 : ∀ k, ((xs.zipWith g (xs.drop 1)).take k).length < 40000 := fun k => by
    rw [List.length_take, l0]
    omega
  have nxt : ∀ (k : Nat) (x y : α), xs[k]? = some x → (xs.drop 1)[k]? = some y → (xs.zipWith g (xs.drop 1)).take (k + 1) = (xs.zipWith g (xs.drop 1)).take k ++ [g x y] := fun k x y hx hy => by
    have e : (xs.zipWith g (xs.drop 1))[k]? = some (g x y) := by
      rw [List.getElem?_zipWith, hx, hy]
    rw [List.take_add_one, e]
    rfl
  have last : ∀ {w : V} {Hw : Hp}, rep Hw w ((xs.zipWith g (xs.drop 1)).take (us.length - 1)) → rep Hw w (xs.zipWith g (xs.drop 1)) := fun r5 => by
    rw [List.take_of_length_le (by rw [l0]; exact Nat.le_refl _)] at r5
    exact r5
  refine ⟨.ref a, hσ, .ref a, hσ, 1, rfl, ?_⟩
  rcases h1 with h1 | h1
  · have ha := e0 _ _ h1
    refine .inl ⟨a, us, rfl, sq_of ha, fun p np => ?_⟩
    rw [cutV_tail]
    have e1 : Ex H0 (upd H0 p (.lst (us.drop 1))) := Ex.new np
    refine ⟨a, p, us, us.drop 1, rfl, .inl ⟨sq_of (e1 _ _ ha), sq_of upd_same, fun D nD => ?_⟩⟩
    refine ed_lcW (walk_zip (xs := us) (ys := us.drop 1) mn.symm) e1 (B := A) (e0.trans e1) (fun b u z => .inl z) (fun k => (xs.zipWith g (xs.drop 1)).take k) (by simp) (fun k _ => r0 k) (fun H' e => ⟨sq_of (e _ _ (e1 _ _ ha)), sq_of (e _ _ upd_same)⟩) (fun k x H3 H4 hk e3 hy => ?_) (fun v H5 Hw e5 s5 r5 => q v H5 Hw e5 s5 (last r5)) nD
    obtain ⟨T, x1, y1, rfl, nT, rfl, hx, hy⟩ := hy
    refine ⟨Ex.new nT, true, ?_⟩
    obtain ⟨x, y, gx, gy, mx, my, rx, ry⟩ := step (Ex.refl A) k x1 y1 hx hy
    exact ⟨g x y, fun _ => nxt k x y gx gy, fun z => (by cases z), fun C c => ⟨T, [x1, y1], rfl, .inl (.inl upd_same), rfl, x1, [y1], rfl, y1, [], rfl, rfl, c _ (hw x1 y1) et_yes fun _ => he x y x1 y1 A (Ex.refl A) mx my rx ry⟩⟩
  · have ha := e0 _ _ h1
    refine .inr ⟨a, us, rfl, st_of ha, fun hf => ?_, fun _ p np => ?_⟩
    · have z : us.length = 0 := by
        have h : min 1 us.length = 0 := hf.1
        omega
      have n0 : us.length - 1 = min us.length us.length := by omega
      refine ⟨a, a, us, us, rfl, .inr ⟨st_of ha, st_of ha, fun D nD => ?_⟩⟩
      refine ed_lcW (walk_zipT (xs := us) (ys := us) n0) (Ex.refl H0) (B := A) e0 (fun b u z => .inl z) (fun k => (xs.zipWith g (xs.drop 1)).take k) (by simp) (fun k _ => r0 k) (fun H' e => ⟨st_of (e _ _ ha), st_of (e _ _ ha)⟩) (fun k x H3 H4 hk e3 hy => ?_) (fun v H5 Hw e5 s5 r5 => q v H5 Hw e5 s5 (last r5)) nD
      omega
    · rw [cutV_tail]
      have e1 : Ex H0 (upd H0 p (.tup (us.drop 1))) := Ex.new np
      refine ⟨a, p, us, us.drop 1, rfl, .inr ⟨st_of (e1 _ _ ha), st_of upd_same, fun D nD => ?_⟩⟩
      refine ed_lcW (walk_zipT (xs := us) (ys := us.drop 1) mn.symm) e1 (B := A) (e0.trans e1) (fun b u z => .inl z) (fun k => (xs.zipWith g (xs.drop 1)).take k) (by simp) (fun k _ => r0 k) (fun H' e => ⟨st_of (e _ _ (e1 _ _ ha)), st_of (e _ _ upd_same)⟩) (fun k x H3 H4 hk e3 hy => ?_) (fun v H5 Hw e5 s5 r5 => q v H5 Hw e5 s5 (last r5)) nD
      obtain ⟨T, x1, y1, rfl, nT, rfl, hx, hy⟩ := hy
      refine ⟨Ex.new nT, true, ?_⟩
      obtain ⟨x, y, gx, gy, mx, my, rx, ry⟩ := step (Ex.refl A) k x1 y1 hx hy
      exact ⟨g x y, fun _ => nxt k x y gx gy, fun z => (by cases z), fun C c => ⟨T, [x1, y1], rfl, .inl (.inl upd_same), rfl, x1, [y1], rfl, y1, [], rfl, rfl, c _ (hw x1 y1) et_yes fun _ => he x y x1 y1 A (Ex.refl A) mx my rx ry⟩⟩
end
end Dw
/-! text E3 -/
set_option Elab.async false
set_option linter.all false
set_option maxRecDepth 100000
set_option maxHeartbeats 4000000
/-! are_keepers of any object -/
namespace K07
open PySem PySem.Spec PyProof.Rows L2 Evl PySem.W Dw Dw.DV RZ Lot
/-- any object, as deep as it is looked at -/
def Any1 (H : Hp) (v : V) : Prop := (∃ t, Kd H v t) ∧ lenV v
theorem Any1.ext {H H' : Hp} (e : Ex H H') {v : V} (h : Any1 H v) : Any1 H' v := ⟨h.1.imp fun _ k => k.ext e, h.2⟩
/-- u itself, any object -/
def IsR (u : V) : Hp → V → Prop := fun H v => v = u ∧ Any1 H v
theorem isR_mon (u : V) : Mon (IsR u) := fun _ _ _ e h => ⟨h.1, h.2.ext e⟩
theorem all_isR {H : Hp} : ∀ {us : List V}, (∀ u ∈ us, Any1 H u) → AllR IsR us H us
  | [], _ => .nil
  | u :: r, h => .cons ⟨rfl, h u List.mem_cons_self⟩ (all_isR fun x m => h x (List.mem_cons_of_mem _ m))
def strOf : V → Str
  | .str x => x
  | _ => ""
def ascB (xs : List Str) : Bool := (xs.zipWith sl (xs.drop 1)).all id
def kpL (us : List V) : Bool := decide (us ≠ []) && (us.all nmV && ascB (us.map strOf))
/-- b: whether v is a list of keepers -/
def KpB (H : Hp) (v : V) (b : Bool) : Prop := (∃ t, Kd H v t ∧ isLB t = false ∧ b = false) ∨ ∃ a us, v = .ref a ∧ SeqAt H a us ∧ (∀ u ∈ us, Any1 H u) ∧ us.length ≤ 1000 ∧ b = kpL us
theorem nm_str {u : V} (h : nmV u = true) : u = .str (strOf u) := by
  cases u <;> first | rfl | cases h
theorem kd_seq {H : Hp} {a : Addr} {us : List V} (h : SeqAt H a us) : ∃ t, Kd H (.ref a) t ∧ isLB t = true := h.elim (fun h => ⟨_, .lst h, by decide⟩) fun h => ⟨_, .tup h, by decide⟩
section
variable {P : Program} {w : World} {K : PySem.W.Frag} {mg : Str → Option Value} {base : Heap} {f : Addr} {fd : FuncData}
theorem et_orT {σ : L2.St} {A : Hp} {t u : TT} (h : EvT t σ A true) : EvT (tOr t u) σ A true := fun H1 e Q q => h H1 e _ fun H2 e2 => by
  rw [if_pos rfl]
  exact q H2 e2
theorem et_orF {σ : L2.St} {A : Hp} {t u : TT} {b : Bool} (h : EvT t σ A false) (h' : EvT u σ A b) : EvT (tOr t u) σ A b := fun H1 e Q q => h H1 e _ fun H2 e2 => by
  rw [if_neg Bool.false_ne_true]
  exact h' H2 (e.trans e2) _ fun H3 e3 => q H3 (e2.trans e3)
theorem ev_isListG {σ : L2.St} {A : Hp} {i : Nat} {v : V} {t : String} {E : XK} (hσ : σ[i]? = some (some v)) (k : Kd A v t) : Ev (tCall spIsListG [] E (tCons (tVar i) tNil)) σ A (.bl (isLB t)) := fun H1 e Q q => ⟨v, hσ, v, t, rfl, k.ext e, q⟩
theorem ev_isNameG {σ : L2.St} {A : Hp} {i : Nat} {v : V} {E : XK} (hσ : σ[i]? = some (some v)) (k : Any1 A v) : Ev (tCall spIsNameG [] E (tCons (tVar i) tNil)) σ A (.bl (nmV v)) := fun H1 e Q q => by
  obtain ⟨⟨t, k⟩, l⟩ := k
  exact ⟨v, hσ, v, t, rfl, k.ext e, l, q⟩
def spKeepG : Sp := fun vs H Q _ => ∃ v b A, vs = [v] ∧ Ex A H ∧ KpB A v b ∧ ∀ H', Ex H H' → Q (.bl b) H'
theorem ok_keepG {fN fL : Addr} {fdN fdL : FuncData} (F : FnP K "are_keepers" (top 18) f fd) (B : Bn mg) (FN : FnP K "is_name" (top 15) fN fdN) (gN : mg "is_name" = some (.ref fN)) (FL : FnP K "is_list" (top 14) fL fdL) (gL : mg "is_list" = some (.ref fL)) : FnOk P w K mg base CX0 2 f fd ["thing"] spKeepG := by
  have GN : FnOk P w K mg base CX0 1 fN fdN ["thing"] spIsNameG := ok_is_nameG FN B.isinstance B.str B.len B.all
  have GL : FnOk P w K mg base CX0 1 fL fdL ["thing"] spIsListG := ok_is_listG FL B.isinstance B.list B.tuple
  have bN : Binds K fdN ["thing"] [] := FN.bindsN fun _ _ _ _ _ _ us hl => match us, hl with | [_], _ => rfl
  have bL : Binds K fdL ["thing"] [] := FL.bindsN fun _ _ _ _ _ _ us hl => match us, hl with | [_], _ => rfl
  refine F.ok scKeep (fun vs H Q E h => ?_) (fun cdv A outer s H vs Q E hr h => ?_)
  · obtain ⟨v, _, _, rfl, _⟩ := h
    rfl
  · obtain ⟨v, b, A0, rfl, eA, hb, q⟩ := h
    refine ⟨_, PSs.nox (pss_cons (ps_if (pw_or (pt_not (pt_val (pe_call GL hr (by rfl) gL FL.kp bL .nil pass0 (pa_cons (pv 0) pa_nil))))
        (pw_or (pt_cmpR op_eq (pe_callB call_len_seq (by rfl) B.len PySem.boot_len (pa_cons (pv 0) pa_nil)) pe_int (nomark _))
        (pw_or1 (pt_not (pt_val (pe_callB (cr_all rfl) (by rfl) B.all (by decide +kernel) (pa_cons (pe_lc (own := [("keeper", 1)]) (g := gName 1) (tt := tYes) (te := tCall spIsNameG [] E0 (tCons (tVar 1) tNil)) rfl scKeep.nd (pi_seq (pv 0)) (blkOk_by (N := NKeep) (sc := defScope (top 18)) (by decide +kernel))
          (fun _ _ _ _ _ => pg_name (i := 1) scKeep.nd rfl (.inl rfl)) (fun _ _ _ _ _ => pts_nil) (fun _ _ _ _ _ => pe_call GN hr (by rfl) gN FN.kp bN .nil pass0 (pa_cons (pv 1) pa_nil))) pa_nil))))))).pt (pss_one (ps_ret pe_bl)) pss_nil)
      (pss_one (ps_ret (pe_callB (cr_all rfl) (by rfl) B.all (by decide +kernel) (pa_cons (pe_lc (own := [("one", 2), ("other", 3)]) (g := gTup K 2 (gCons (gName 2) (gCons (gName 3) gNil))) (tt := tYes) (te := tOp (rLtW Str) (tVar 2) (tVar 3)) rfl scKeep.nd
        (pi_zipA (by rfl) B.zip (pa_cons (pv 0) (pa_cons (pe_slice sl_seq (pv 0) (po_some pe_int) po_none) pa_nil))) (blkOk_by (N := NKeep) (sc := defScope (top 18)) (by decide +kernel))
        (fun _ _ _ _ _ => pg_tup rfl (pgs_cons (pg_name (i := 2) scKeep.nd rfl (.inl rfl)) (pgs_cons (pg_name (i := 3) scKeep.nd rfl (.inl rfl)) pgs_nil))) (fun _ _ _ _ _ => pts_nil)
        (fun _ _ _ _ _ => pe_cmpR (op_ltW (α := Str) (uT hr)) (pv 2) (pv 3) (by rfl))) pa_nil))))), ?_⟩
    rcases hb with ⟨t, k, kf, rfl⟩ | ⟨a, us, rfl, hs, hu, hl, rfl⟩
    · have t1 := et_not (et_B (ev_isListG (σ := [some v, none, none, none]) (i := 0) (E := E0) rfl k))
      rw [kf] at t1
      exact et_orT t1 H eA _ fun H1 e1 => q H1 e1
    · obtain ⟨t, k, kt⟩ := kd_seq hs
      have t1 := et_not (et_B (ev_isListG (σ := [some (.ref a), none, none, none]) (i := 0) (E := E0) rfl k))
      rw [kt] at t1
      have s0 : SqR (AllR IsR us) A0 (.ref a) := ⟨a, us, rfl, hs, all_isR hu⟩
      have v0 : EvR (tVar 0) [some (.ref a), none, none, none] A0 (SqR (AllR IsR us)) := er_varR rfl s0
      have ln := ev_lenS (K := K) v0 (AllR.mon isR_mon) (n := us.length) fun H vs h => Paired.length h
      have t2 := et_test (ev_op (x := .int (us.length : Int)) (y := .int 0) ln ev_c (rv_eq rfl))
      by_cases ne : us = []
      · have e2 : decide (V.int (us.length : Int) = V.int 0) = true := decide_eq_true (by rw [ne]; rfl)
        rw [e2] at t2
        have qf := fun H1 e1 => q H1 e1
        rw [show kpL us = false by unfold kpL; rw [decide_eq_false (fun z => z ne)]; rfl] at qf
        exact et_orF t1 (et_orT t2) H eA _ fun H1 e1 => qf H1 e1
      · have e2 : decide (V.int (us.length : Int) = V.int 0) = false := decide_eq_false fun z => by
          have := V.int.inj z
          exact ne (List.eq_nil_of_length_eq_zero (by omega))
        rw [e2] at t2
        have nm := ev_allD (K := K) (ed_lcS (K := K) (σ := [some (.ref a), none, none, none]) (tt := tYes) (te := tCall spIsNameG [] E0 (tCons (tVar 1) tNil)) (j := 1) (vs := [1]) isR_mon (fun _ : V => true) nmV v0 (by omega) (fun _ => rfl) (fun _ _ _ _ _ _ => et_yes) fun x y H1 _ _ r _ => ed_bl (by
          obtain ⟨rfl, r⟩ := r
          exact ev_isNameG rfl r))
        rw [List.filter_eq_self.mpr (fun _ _ => rfl), List.all_map] at nm
        have t3 := et_not (et_B nm)
        by_cases al : us.all nmV = true
        · rw [show us.all (id ∘ nmV) = true from al] at t3
          refine et_orF t1 (et_orF t2 t3) H eA _ fun H1 e1 => ?_
          have eus : us = (us.map strOf).map V.str := by
            rw [List.map_map]
            exact (List.map_id _).symm.trans (List.map_congr_left fun u m => nm_str (List.all_eq_true.mp al u m))
          have sS : SqR (AllR StrR (us.map strOf)) A0 (.ref a) := ⟨a, us, rfl, hs, by
            show Paired (fun v x => StrR x A0 v) us (us.map strOf)
            have key : ∀ {l : List V}, (∀ u ∈ l, nmV u = true) → Paired (fun v x => StrR x A0 v) l (l.map strOf) := by
              intro l
              induction l with
              | nil => exact fun _ => .nil
              | cons u r ih => exact fun h => .cons (nm_str (h u List.mem_cons_self)) (ih fun x m => h x (List.mem_cons_of_mem _ m))
            exact key fun u m => List.all_eq_true.mp al u m⟩
          have z1 := ev_allD (K := K) (ed_tailS (K := K) (te := tOp (rLtW Str) (tVar 2) (tVar 3)) (n := 0) (i := 2) (j := 3) (vs := [2, 3]) (σ := [some (.ref a), none, none, none]) strR_mon (fun x y : Str => sl x y) rfl sS (by rw [List.length_map]; omega) (fun _ _ => rfl) fun x y v u H1 _ _ _ r1 r2 => ed_bl (ev_ltD (ed_var (i := 2) rfl r1) (ed_var (i := 3) rfl r2)))
          refine z1 H1 (eA.trans e1) _ fun H2 e2 => ?_
          have qf := q H2 (e1.trans e2)
          rw [show kpL us = ascB (us.map strOf) by unfold kpL; rw [decide_eq_true (p := us ≠ []) ne, al]; rfl] at qf
          exact qf
        · rw [show us.all (id ∘ nmV) = false from by simpa using al] at t3
          have qf := fun H1 e1 => q H1 e1
          rw [show kpL us = false by unfold kpL; rw [show us.all nmV = false from by simpa using al]; simp] at qf
          exact et_orF t1 (et_orF t2 t3) H eA _ fun H1 e1 => qf H1 e1
end
end K07
/-! text E4 -/
set_option Elab.async false
set_option linter.all false
set_option maxRecDepth 100000
set_option maxHeartbeats 4000000
/-! is_one_of of any object -/
namespace K07
open PySem PySem.Spec PyProof.Rows L2 Evl PySem.W Dw Dw.DV RZ Lot
def oneV (known : List Str) : V → Bool
  | .str x => decide (x ∈ known)
  | _ => false
section
variable {P : Program} {w : World} {K : PySem.W.Frag} {mg : Str → Option Value} {base : Heap} {f : Addr} {fd : FuncData}
def spOneG : Sp := fun vs H Q _ => ∃ v u known A, vs = [v, u] ∧ Ex A H ∧ rep A v known ∧ Any1 A u ∧ ∀ H', Ex H H' → Q (.bl (oneV known u)) H'
theorem ok_oneG (F : FnP K "is_one_of" (top 16) f fd) (B : Bn mg) : FnOk P w K mg base CX0 1 f fd ["known", "thing"] spOneG := by
  refine F.ok scOne (fun vs H Q E h => ?_) (fun cdv A outer s H vs Q E hr h => ?_)
  · obtain ⟨v, u, _, _, rfl, _⟩ := h
    rfl
  · obtain ⟨v, u, known, A0, rfl, eA, hv, ⟨⟨t, k⟩, _⟩, q⟩ := h
    refine ⟨_, PSs.nox (pss_one (ps_ret (pe_and (pe_ist K "str" 1 B.isinstance B.str) (pe_one (pe_cmpR (op_inW (α := Str) (uS hr)) (pv 1) (pv 0) (by rfl)))))), ?_⟩
    have k' := k.ext eA
    cases k' with
    | str x =>
      have e1 : EvD (tVar 1) [some v, some (.str x)] A0 x := ed_var rfl rfl
      have e2 := ev_andV (ev_istS (K := K) e1) fun _ => ev_inD e1 (ed_var (i := 0) (v := v) rfl hv)
      rw [Bool.true_and] at e2
      refine e2 H eA _ fun H1 e => ?_
      have qf := q H1 e
      rw [show oneV known (.str x) = decide (x ∈ known) from rfl] at qf
      exact Eq.mp (congrArg (fun b => Q (.bl b) H1) (by rw [decide_eq_decide])) qf
    | non => exact ⟨.non, rfl, _, _, _, _, false, rfl, .ty _, .base .non, kit_ty (by decide +kernel), _, rfl, q H (Ex.refl H)⟩
    | bl b => exact ⟨.bl b, rfl, _, _, _, _, false, rfl, .ty _, .base (.bl b), kit_ty (by decide +kernel), _, rfl, q H (Ex.refl H)⟩
    | int i => exact ⟨.int i, rfl, _, _, _, _, false, rfl, .ty _, .base (.int i), kit_ty (by decide +kernel), _, rfl, q H (Ex.refl H)⟩
    | lst h => exact ⟨_, rfl, _, _, _, _, false, rfl, .ty _, .base (.lst h), kit_ty (by decide +kernel), _, rfl, q H (Ex.refl H)⟩
    | tup h => exact ⟨_, rfl, _, _, _, _, false, rfl, .ty _, .base (.tup h), kit_ty (by decide +kernel), _, rfl, q H (Ex.refl H)⟩
    | dct h => exact ⟨_, rfl, _, _, _, _, false, rfl, .ty _, .base (.dK h), kit_ty (by decide +kernel), _, rfl, q H (Ex.refl H)⟩
end
end K07
/-! text W32 -/
set_option Elab.async false
set_option linter.all false
set_option maxRecDepth 100000
set_option maxHeartbeats 2000000
/-! results that are new, no list of them twice -/
namespace Dw
open PySem PySem.Spec PyProof.Rows L2 Evl PySem.W DV K07 RZ
/-- te goes on with something new that is so; L: its lists, none twice -/
def EvW (te : TE) (σ : L2.St) (A : Hp) (R : Hp → V → List Addr → Prop) : Prop := ∀ H1, Ex A H1 → ∀ Q : VK, (∀ v H2 Hs L, Ex H1 H2 → Ex Hs H2 → (∀ b u, Hs b = some u → H1 b = none) → R Hs v L → L.Nodup → (∀ a ∈ L, ∃ o, Hs a = some o) → Q v H2) → te σ H1 Q
def MonW {β : Type} (R : Hp → β → List Addr → Prop) : Prop := ∀ H H' v L, Ex H H' → R H v L → R H' v L
/-- things of a list, each of another x -/
inductive RL {α : Type} (R : α → Hp → V → List Addr → Prop) (H : Hp) : List α → List V → List Addr → Prop where
  | nil : RL R H [] [] []
  | cons {x : α} {xs : List α} {v : V} {vs : List V} {L Ls : List Addr} (h : R x H v L) (r : RL R H xs vs Ls) : RL R H (x :: xs) (v :: vs) (L ++ Ls)
theorem RL.mon {α : Type} {R : α → Hp → V → List Addr → Prop} (m : ∀ x, MonW (R x)) {H H' : Hp} (e : Ex H H') : ∀ {xs : List α} {vs : List V} {L : List Addr}, RL R H xs vs L → RL R H' xs vs L
  | _, _, _, .nil => .nil
  | _, _, _, .cons h r => .cons (m _ _ _ _ _ e h) (r.mon m e)
theorem RL.snoc {α : Type} {R : α → Hp → V → List Addr → Prop} {H : Hp} : ∀ {xs : List α} {vs : List V} {L : List Addr}, RL R H xs vs L → ∀ {x : α} {v : V} {M : List Addr}, R x H v M → RL R H (xs ++ [x]) (vs ++ [v]) (L ++ M)
  | _, _, _, .nil, x, v, M, h => by
    have := RL.cons h (RL.nil (R := R) (H := H))
    rw [List.append_nil] at this
    exact this
  | _, _, _, .cons h r, x, v, M, h' => by
    rw [List.cons_append, List.cons_append, List.append_assoc]
    exact .cons h (r.snoc h')
theorem RL.len {α : Type} {R : α → Hp → V → List Addr → Prop} {H : Hp} : ∀ {xs : List α} {vs : List V} {L : List Addr}, RL R H xs vs L → vs.length = xs.length
  | _, _, _, .nil => rfl
  | _, _, _, .cons _ r => congrArg (· + 1) r.len
/-- a new list of such things -/
def LstW {α : Type} (R : α → Hp → V → List Addr → Prop) (xs : List α) : Hp → V → List Addr → Prop := fun H v L => ∃ a vs Ls, v = .ref a ∧ H a = some (.lst vs) ∧ RL R H xs vs Ls ∧ L = a :: Ls
theorem lstW_mon {α : Type} {R : α → Hp → V → List Addr → Prop} (m : ∀ x, MonW (R x)) {xs : List α} : MonW (LstW R xs) := fun H H' v L e ⟨a, vs, Ls, h1, h2, h3, h4⟩ => ⟨a, vs, Ls, h1, e _ _ h2, h3.mon m e, h4⟩
/-- a text -/
def StrW (x : Str) : Hp → V → List Addr → Prop := fun _ v L => v = .str x ∧ L = []
theorem strW_mon (x : Str) : MonW (StrW x) := fun _ _ _ _ _ h => h
theorem upd_ex2 {A H : Hp} {p : Addr} {o : HO} (e : Ex A H) : Ex (upd A p o) (upd H p o) := fun b u z => by
  by_cases y : b = p
  · rw [y, upd_same] at z ⊢
    exact z
  · rw [upd_ne y] at z ⊢
    exact e _ _ z
section
variable {α β : Type} {K : PySem.W.Frag} {σ : L2.St} {A : Hp} {te tl : TE} {tt : TT}
theorem rl_strs {H : Hp} : ∀ {vs : List V} {xs : List Str}, Paired (fun v x => StrR x H v) vs xs → RL StrW (fun _ => none) xs vs []
  | _, _, .nil => .nil
  | _, _, .cons h r => .cons (L := []) ⟨h, rfl⟩ (rl_strs r)
/-- list(te), te a list or a tuple of texts -/
theorem ew_strs {xs : List Str} (h : EvR te σ A (LsR xs)) : EvW (tCB (rListS K) (tCons te tNil)) σ A (LstW StrW xs) := fun H1 e Q q => h H1 e _ fun v H2 Hs e2 s r => by
  obtain ⟨a, vs, rfl, h1, h2⟩ := r
  refine ⟨a, vs, rfl, (h1.ext s.e).seq, fun p np => ?_⟩
  refine q _ _ (upd (fun _ => none) p (.lst vs)) [p] (e2.trans (Ex.new np)) (fun b o z => ?_) (fun b o z => ?_) ⟨p, vs, [], rfl, upd_same, (rl_strs h2).mon strW_mon (fun _ _ z => by cases z), rfl⟩ (List.nodup_cons.mpr ⟨by simp, .nil⟩) (fun a m => by
    rw [List.mem_singleton.mp m]
    exact ⟨_, upd_same⟩)
  · by_cases y : b = p
    · rw [y, upd_same] at z ⊢
      exact z
    · rw [upd_ne y] at z
      cases z
  · by_cases y : b = p
    · rw [y]
      exact exf e2 np
    · rw [upd_ne y] at z
      cases z
/-- a comprehension over any walk, each thing new -/
theorem ew_lcW {J : It} {n : Nat} {G : Hp → Prop} {Y : Nat → Hp → V → Hp → Prop} (w : Walk J n G Y) {R : β → Hp → V → List Addr → Prop} (m : ∀ y, MonW (R y)) {H0 H1 B : Hp} {gt : TG} {vs : List Nat} (e0 : Ex H0 H1) (eB : Ex B H1) (r : Nat → List β) (r0 : r 0 = []) (hl : ∀ i, i < n → (r i).length < 40000)
    (hG : ∀ H', Ex H1 H' → G H')
    (turn : ∀ i x H2 H3, i < n → Ex H1 H2 → Y i H2 x H3 → Ex H2 H3 ∧ ∃ (b : Bool) (y : β), (b = true → r (i + 1) = r i ++ [y]) ∧ (b = false → r (i + 1) = r i) ∧
      ∀ C : L2.St → Hp → Prop, (∀ σ2, wipe σ2 vs = wipe σ vs → EvT tt σ2 B b → (b = true → EvW te σ2 B (R y)) → C σ2 H3) → gt x (wipe σ vs) H3 C)
    {Q : VK} (q : ∀ v H2 Hs L, Ex H0 H2 → Ex Hs H2 → (∀ b u, Hs b = some u → H0 b = none) → LstW R (r n) Hs v L → L.Nodup → (∀ a ∈ L, ∃ o, Hs a = some o) → Q v H2) {D : Addr} (nD : H1 D = none) :
    ∃ W : Nat → Nat → Hp → Prop, (∃ m, W 0 m (upd H1 D (.lst []))) ∧ ∀ i m H, W i m H →
      (J.stop i H ∧ Q (.ref D) H) ∨ (J.go i H ∧ ∃ Nx : Hp → Prop, (∀ H', Nx H' → ∃ m', m' < m ∧ W (i + 1) m' H') ∧ ∀ x H', J.yld i H x H' → gt x (wipe σ vs) H' fun σ2 H2 => wipe σ2 vs = wipe σ vs ∧ tt σ2 H2 fun b H3 =>
        if b = true then te σ2 H3 fun y H4 => ∃ acc, H4 D = some (.lst acc) ∧ acc.length < sizeLine ∧ Nx (upd H4 D (.lst (acc ++ [y]))) else Nx H3) := by
  have D0 : H0 D = none := exf e0 nD
  have BD : B D = none := exf eB nD
  refine lc_it w (fun i H' => Ex H1 H' ∧ ∃ ws Hw L, H' D = some (.lst ws) ∧ Ex Hw H' ∧ (∀ b u, Hw b = some u → b ≠ D ∧ H0 b = none) ∧ RL R Hw (r i) ws L ∧ L.Nodup ∧ ∀ a ∈ L, ∃ o, Hw a = some o) ⟨Ex.new nD, [], fun _ => none, [], upd_same, fun _ _ z => (by cases z), fun _ _ z => (by cases z), by rw [r0]; exact .nil, .nil, fun _ m => by cases m⟩ (fun i H' _ p => hG H' p.1) (fun i x H2 H3 hi p hy => ?_) (fun H' p => ?_)
  · obtain ⟨p2, ws, Hw, L, p3, p4, p5, p6, p7, p8⟩ := p
    obtain ⟨e3, b, y, rb, rn, run⟩ := turn i x H2 H3 hi p2 hy
    refine run _ fun σ2 hw et ed => ⟨hw, et H3 ((eB.trans p2).trans e3) _ fun H4 e4 => ?_⟩
    cases b with
    | true =>
      show te _ H4 fun y H5 => ∃ acc, H5 D = some (.lst acc) ∧ acc.length < sizeLine ∧ _
      refine ed rfl H4 (((eB.trans p2).trans e3).trans e4) _ fun z H5 Hy M e5 ey oy r5 ny dy => ⟨ws, e5 _ _ (e4 _ _ (e3 _ _ p3)), ?_, (((p2.trans e3).trans e4).trans e5).mut nD, ws ++ [z], jn Hw Hy, L ++ M, upd_same, ?_, ?_, ?_, ?_, ?_⟩
      · rw [RL.len p6]
        have := hl i hi
        exact sz_lt (by omega)
      · intro c u z
        rcases jn_of z with y | y
        · rw [upd_ne (p5 c u y).1]
          exact e5 _ _ (e4 _ _ (e3 _ _ (p4 _ _ y)))
        · rw [upd_ne (fun q => by
            have := oy c u y
            rw [q, e4 _ _ (e3 _ _ p3)] at this
            cases this)]
          exact ey _ _ y
      · intro c u z
        rcases jn_of z with y | y
        · exact p5 c u y
        · refine ⟨fun q => ?_, exf (((e0.trans p2).trans e3).trans e4) (oy c u y)⟩
          have := oy c u y
          rw [q, e4 _ _ (e3 _ _ p3)] at this
          cases this
      · rw [rb rfl]
        have q1 : Ex Hw H5 := ((p4.trans e3).trans e4).trans e5
        exact (p6.mon m jn_l).snoc (m _ _ _ _ _ (jn_r q1 ey) r5)
      · refine List.nodup_append.mpr ⟨p7, ny, fun a ha b hb => ?_⟩
        intro e
        obtain ⟨o, ho⟩ := p8 a ha
        obtain ⟨o', ho'⟩ := dy b hb
        have := oy b o' ho'
        rw [← e, e4 _ _ (e3 _ _ (p4 _ _ ho))] at this
        cases this
      · intro a ha
        rcases List.mem_append.mp ha with y | y
        · obtain ⟨o, ho⟩ := p8 a y
          exact ⟨o, jn_l _ _ ho⟩
        · obtain ⟨o, ho⟩ := dy a y
          exact ⟨o, jn_r (((p4.trans e3).trans e4).trans e5) ey _ _ ho⟩
    | false =>
      show _ ∧ _
      exact ⟨(p2.trans e3).trans e4, ws, Hw, L, e4 _ _ (e3 _ _ p3), (p4.trans e3).trans e4, p5, by rw [rn rfl]; exact p6, p7, p8⟩
  · obtain ⟨p2, ws, Hw, L, p3, p4, p5, p6, p7, p8⟩ := p
    have nw : Hw D = none := by
      cases z : Hw D with
      | none => rfl
      | some o => exact absurd rfl (p5 D o z).1
    refine q _ H' (upd Hw D (.lst ws)) (D :: L) (e0.trans p2) (fun b u z => ?_) (fun b u z => ?_) ⟨D, ws, L, rfl, upd_same, p6.mon m (Ex.new nw), rfl⟩ (List.nodup_cons.mpr ⟨fun mm => ?_, p7⟩) fun a ha => ?_
    · by_cases y : b = D
      · rw [y, upd_same] at z
        rw [y, p3]
        exact z
      · rw [upd_ne y] at z
        exact p4 _ _ z
    · by_cases y : b = D
      · rw [y]
        exact D0
      · rw [upd_ne y] at z
        exact (p5 b u z).2
    · obtain ⟨o, ho⟩ := p8 D mm
      rw [nw] at ho
      cases ho
    · rcases List.mem_cons.mp ha with y | y
      · rw [y]
        exact ⟨_, upd_same⟩
      · obtain ⟨o, ho⟩ := p8 a y
        exact ⟨o, Ex.new nw _ _ ho⟩
/-- a comprehension over a list or a tuple, each thing new -/
theorem ew_lcS {xs : List α} {R : α → Hp → V → Prop} {S : β → Hp → V → List Addr → Prop} {j : Nat} {vs : List Nat} (m : ∀ x, Mon (R x)) (ms : ∀ y, MonW (S y)) (g : α → β) (h : EvR tl σ A (SqR (AllR R xs))) (hz : xs.length ≤ 30000) (hw : ∀ x, wipe ((wipe σ vs).set j (some x)) vs = wipe σ vs)
    (he : ∀ (x : α) (v : V) H1, Ex A H1 → x ∈ xs → R x H1 v → EvW te ((wipe σ vs).set j (some v)) H1 (S (g x))) :
    EvW (tLc (iSeq K tl) (gName j) tYes te vs) σ A (LstW S (xs.map g)) := fun H0 e0 Q q => h H0 e0 _ fun v H1 Hs e1 sp r => by
  obtain ⟨a, us, rfl, h1, h2⟩ := r
  have h2' : Paired (fun v x => R x Hs v) us xs := h2
  have len : us.length = xs.length := Paired.length h2'
  have eB : Ex (jn A Hs) H1 := jn_ex (e0.trans e1) sp.e
  have turn : ∀ (i : Nat) (x : V), i < us.length → us[i]? = some x → ∃ (y : β), (xs.take (i + 1)).map g = (xs.take i).map g ++ [y] ∧ EvW te ((wipe σ vs).set j (some x)) (jn A Hs) (S y) := fun i x hi hx => by
    have hk : xs[i]? = some xs[i] := List.getElem?_eq_getElem (by omega)
    have rx : R xs[i] (jn A Hs) x := m _ _ _ _ (jn_r (e0.trans e1) sp.e) (pat (F := fun v x => R x Hs v) h2' hx hk)
    refine ⟨g xs[i], ?_, he _ x _ jn_l (List.getElem_mem _) rx⟩
    rw [List.take_add_one, hk, List.map_append]
    rfl
  have hl : ∀ i, i < us.length → ((xs.take i).map g).length < 40000 := fun i hi => by
    rw [List.length_map, List.length_take]
    omega
  have fin : (xs.take us.length).map g = xs.map g := by rw [List.take_of_length_le (by omega)]
  refine ⟨a, rfl, ?_⟩
  rcases h1 with h1 | h1
  · have ha := sp.e _ _ h1
    refine .inl ⟨⟨us, sq_of ha⟩, fun D nD => ?_⟩
    refine ew_lcW (walk_list (xs := us)) ms e1 eB (fun i => (xs.take i).map g) (by simp) hl (fun H' e => sq_of (e _ _ ha)) (fun i x H2 H3 hi e2 hy => ?_) (fun v H5 Hw L e5 s5 o5 r5 n5 d5 => q v H5 Hw L e5 s5 o5 (by rw [fin] at r5; exact r5) n5 d5) nD
    obtain ⟨rfl, hx⟩ := hy
    obtain ⟨y, t1, t4⟩ := turn i x hi hx
    exact ⟨Ex.refl _, true, y, fun _ => t1, fun z => (by cases z), fun C c => c _ (hw x) et_yes fun _ => t4⟩
  · have ha := sp.e _ _ h1
    refine .inr ⟨⟨us, st_of ha⟩, fun D nD => ?_⟩
    refine ew_lcW (walk_tup (xs := us)) ms e1 eB (fun i => (xs.take i).map g) (by simp) hl (fun H' e => st_of (e _ _ ha)) (fun i x H2 H3 hi e2 hy => ?_) (fun v H5 Hw L e5 s5 o5 r5 n5 d5 => q v H5 Hw L e5 s5 o5 (by rw [fin] at r5; exact r5) n5 d5) nD
    obtain ⟨rfl, hx⟩ := hy
    obtain ⟨y, t1, t4⟩ := turn i x hi hx
    exact ⟨Ex.refl _, true, y, fun _ => t1, fun z => (by cases z), fun C c => c _ (hw x) et_yes fun _ => t4⟩
/-- a new pair -/
def PrW (R1 R2 : Hp → V → List Addr → Prop) : Hp → V → List Addr → Prop := fun H v L => ∃ a v1 v2 L1 L2, v = .ref a ∧ H a = some (.tup [v1, v2]) ∧ R1 H v1 L1 ∧ R2 H v2 L2 ∧ L = L1 ++ L2
theorem prW_mon {R1 R2 : Hp → V → List Addr → Prop} (m1 : MonW R1) (m2 : MonW R2) : MonW (PrW R1 R2) := fun H H' v L e ⟨a, v1, v2, L1, L2, h1, h2, h3, h4, h5⟩ => ⟨a, v1, v2, L1, L2, h1, e _ _ h2, m1 _ _ _ _ e h3, m2 _ _ _ _ e h4, h5⟩
theorem ew_pair {ta tb : TE} {R1 R2 : Hp → V → List Addr → Prop} (m1 : MonW R1) (m2 : MonW R2) (h : EvW ta σ A R1) (h' : EvW tb σ A R2) : EvW (tTup (tCons ta (tCons tb tNil))) σ A (PrW R1 R2) := fun H1 e Q q => h H1 e _ fun v H2 Hs L e2 s o r n d => h' H2 (e.trans e2) _ fun u H3 Ht M e3 t p r' n' d' => by
  refine ⟨by show 2 ≤ sizeLine; decide, fun c nc => ?_⟩
  have eJ : Ex (jn Hs Ht) H3 := jn_ex (s.trans e3) t
  have nJ : (jn Hs Ht) c = none := exf eJ nc
  have nA : Ex (jn Hs Ht) (upd (jn Hs Ht) c (.tup [v, u])) := Ex.new nJ
  refine q _ _ (upd (jn Hs Ht) c (.tup [v, u])) (L ++ M) ((e2.trans e3).trans (Ex.new nc)) (upd_ex2 eJ) (fun b w z => ?_) ⟨c, v, u, L, M, rfl, upd_same, m1 _ _ _ _ (jn_l.trans nA) r, m2 _ _ _ _ ((jn_r (s.trans e3) t).trans nA) r', rfl⟩ (List.nodup_append.mpr ⟨n, n', fun a ha b hb => ?_⟩) fun a ha => ?_
  · by_cases y : b = c
    · rw [y]
      exact exf (e2.trans e3) nc
    · rw [upd_ne y] at z
      exact (jn_of z).elim (o b w) fun k => exf e2 (p b w k)
  · intro eq
    obtain ⟨x, hx⟩ := d a ha
    obtain ⟨x', hx'⟩ := d' b hb
    have := p b x' hx'
    rw [← eq, s _ _ hx] at this
    cases this
  · rcases List.mem_append.mp ha with y | y
    · obtain ⟨x, hx⟩ := d a y
      exact ⟨x, nA _ _ (jn_l _ _ hx)⟩
    · obtain ⟨x, hx⟩ := d' a y
      exact ⟨x, nA _ _ (jn_r (s.trans e3) t _ _ hx)⟩
end
end Dw
/-! text E5 -/
set_option Elab.async false
set_option linter.all false
set_option maxRecDepth 100000
set_option maxHeartbeats 4000000
/-! told_family of a family that is given loosely: it is told new -/
namespace K07
open PySem PySem.Spec PyProof.Rows L2 Evl PySem.W Dw Dw.DV RZ Lot
/-- a lot, lots, a family, new -/
def LlW (xs : List (List Str)) : Hp → V → List Addr → Prop := LstW (fun l => LstW StrW l) xs
def FmW (F : FamT) : Hp → V → List Addr → Prop := PrW (LstW StrW F.1) (LlW F.2)
theorem llW_mon (xs : List (List Str)) : MonW (LlW xs) := lstW_mon fun l => lstW_mon strW_mon
theorem fmW_mon (F : FamT) : MonW (FmW F) := prW_mon (lstW_mon strW_mon) (llW_mon F.2)
theorem rl_reps {A : Hp} : ∀ {xs : List Str} {vs : List V} {L : List Addr}, RL StrW A xs vs L → Reps A vs xs
  | _, _, _, .nil => .nil
  | _, _, _, .cons h r => .cons h.1 (rl_reps r)
theorem lsW_rep {A : Hp} {v : V} {xs : List Str} {L : List Addr} (h : LstW StrW xs A v L) : rep A v xs := by
  obtain ⟨a, vs, Ls, rfl, h1, h2, _⟩ := h
  exact ⟨a, vs, rfl, h1, rl_reps h2⟩
theorem rl_repsL {A : Hp} : ∀ {xs : List (List Str)} {vs : List V} {L : List Addr}, RL (fun l => LstW StrW l) A xs vs L → Reps A vs xs
  | _, _, _, .nil => .nil
  | _, _, _, .cons h r => .cons (lsW_rep h) (rl_repsL r)
theorem llW_rep {A : Hp} {v : V} {xs : List (List Str)} {L : List Addr} (h : LlW xs A v L) : rep A v xs := by
  obtain ⟨a, vs, Ls, rfl, h1, h2, _⟩ := h
  exact ⟨a, vs, rfl, h1, rl_repsL h2⟩
theorem fmW_rep {A : Hp} {v : V} {F : FamT} {L : List Addr} (h : FmW F A v L) : rep A v F := by
  obtain ⟨a, v1, v2, L1, L2, rfl, h1, h2, h3, _⟩ := h
  exact ⟨a, v1, v2, rfl, h1, lsW_rep h2, llW_rep h3⟩
/-- the end of a def that tells something new -/
def EndN (H : Hp) (R : Hp → V → List Addr → Prop) (Q : VK) : Prop := ∀ u H' Hs L, Ex H H' → Ex Hs H' → (∀ b o, Hs b = some o → H b = none) → R Hs u L → L.Nodup → (∀ a ∈ L, ∃ o, Hs a = some o) → Q u H'
section
variable {P : Program} {w : World} {K : PySem.W.Frag} {mg : Str → Option Value} {base : Heap} {f : Addr} {fd : FuncData}
def spToldL : Sp := fun vs H Q _ => ∃ v F A, vs = [v] ∧ Ex A H ∧ FmR F A v ∧ F.2.length ≤ 1000 ∧ EndN H (FmW F) Q
theorem ok_toldL (F : FnP K "told_family" (top 23) f fd) (ml : mg "list" = none) : FnOk P w K mg base CX0 1 f fd ["thing"] spToldL := by
  refine F.ok scTold (fun vs H Q E h => ?_) (fun cdv A outer s H vs Q E hr h => ?_)
  · obtain ⟨v, _, _, rfl, _⟩ := h
    rfl
  · obtain ⟨v, F, B, rfl, eB, hv, hl, q⟩ := h
    refine ⟨_, PSs.nox (pss_one (ps_ret (pe_tup (pa_cons (pe_callTy call_list_of (by rfl) ml (by decide +kernel) (pa_cons (pe_ix ix_seq (pv 0) pe_int (fun _ _ => rfl)) pa_nil)) (pa_cons (pe_lc (own := [("lot", 1)]) (g := gName 1) (tt := tYes) (te := tCB (rListS K) (tCons (tVar 1) tNil)) rfl scTold.nd
      (pi_seq (pe_ix ix_seq (pv 0) pe_int (fun _ _ => rfl))) (blkOk_by (N := ["thing", "lot"]) (sc := defScope (top 23)) (by decide +kernel))
      (fun _ _ _ _ _ => pg_name (i := 1) scTold.nd rfl (.inl rfl)) (fun _ _ _ _ _ => pts_nil) (fun _ _ _ _ _ => pe_callTy call_list_of (by rfl) ml (by decide +kernel) (pa_cons (pv 1) pa_nil))) pa_nil))))), ?_⟩
    have v0 : EvR (tVar 0) [some v, none] B (FmR F) := er_varR rfl hv
    have k0 : EvR (tOp (rIx K) (tVar 0) (tC (.int ((0 : Nat) : Int)))) [some v, none] B (LsR F.1) := er_ixS (i := 0) v0 (lsR_mon _) fun H vs h => by
      obtain ⟨x, y, rfl, h1, h2⟩ := h
      exact ⟨by simp, fun u e => by
        cases e
        exact h1⟩
    have k1 : EvR (tOp (rIx K) (tVar 0) (tC (.int ((1 : Nat) : Int)))) [some v, none] B (LlR F.2) := er_ixS (i := 1) v0 (llR_mon _) fun H vs h => by
      obtain ⟨x, y, rfl, h1, h2⟩ := h
      exact ⟨by simp, fun u e => by
        cases e
        exact h2⟩
    have lc := ew_lcS (K := K) (te := tCB (rListS K) (tCons (tVar 1) tNil)) (S := fun l => LstW StrW l) (j := 1) (vs := [1]) lsR_mon (fun l => lstW_mon strW_mon) (fun l : List Str => l) k1 (by omega) (fun _ => rfl) fun x y H1 e _ r => ew_strs (er_varR (i := 1) rfl r)
    rw [List.map_id'] at lc
    exact ew_pair (lstW_mon strW_mon) (llW_mon F.2) (ew_strs k0) lc H eB _ fun u H' Hs L e s o r n d => q u H' Hs L e s o r n d
end
end K07
/-! text E6 -/
set_option Elab.async false
set_option linter.all false
set_option maxRecDepth 100000
set_option maxHeartbeats 4000000
/-! are_some_of, is_lot_of of right lots that are given loosely -/
namespace K07
open PySem PySem.Spec PyProof.Rows L2 Evl PySem.W Dw Dw.DV RZ Lot
theorem str_flat {A : Hp} : ∀ {vs : List V} {xs : List Str}, Paired (fun v x => StrR x A v) vs xs → vs.all flatV = true ∧ ∀ x : Str, inV (.str x) vs = decide (x ∈ xs)
  | _, _, .nil => ⟨rfl, fun x => by simp [inV]⟩
  | _, _, .cons (a := v) (b := y) h r => by
    obtain ⟨h1, h2⟩ := str_flat r
    have e : v = .str y := h
    subst e
    refine ⟨by rw [List.all_cons, h1]; rfl, fun x => ?_⟩
    have k := h2 x
    unfold inV at k ⊢
    rw [List.any_cons, k]
    show ((y == x) || _) = _
    rw [Bool.eq_iff_iff, Bool.or_eq_true, beq_iff_eq, decide_eq_true_eq, decide_eq_true_eq, List.mem_cons]
    exact ⟨fun z => z.imp (fun e => e.symm) id, fun z => z.imp (fun e => e.symm) id⟩
theorem ev_inS {K : PySem.W.Frag} {σ : L2.St} {A : Hp} {ta tb : TE} {x : Str} {xs : List Str} (ha : EvD ta σ A x) (hb : EvR tb σ A (LsR xs)) : Ev (tOp (rIn K false) ta tb) σ A (.bl (decide (x ∈ xs))) := fun H1 e Q q => ha.go e fun v H2 e2 r => EvR.go hb (lsR_mon xs) (e.trans e2) fun u H3 e3 r' => by
  obtain ⟨a, vs, rfl, h1, h2⟩ := r'
  have rv : v = .str x := r
  subst rv
  obtain ⟨f1, f2⟩ := str_flat h2
  refine ⟨a, vs, rfl, h1.seq, rfl, f1, ?_⟩
  show Q (.bl (inV (.str x) vs)) H3
  rw [f2]
  exact q H3 (e2.trans e3)
theorem kd_sqr {A : Hp} {v : V} {L1 : Hp → List V → Prop} (h : SqR L1 A v) : ∃ t, Kd A v t ∧ isLB t = true := by
  obtain ⟨a, vs, rfl, h1, _⟩ := h
  exact kd_seq h1
section
variable {P : Program} {w : World} {K : PySem.W.Frag} {mg : Str → Option Value} {base : Heap} {f : Addr} {fd : FuncData}
def spSomeL : Sp := fun vs H Q _ => ∃ v u ks l A, vs = [v, u] ∧ Ex A H ∧ LsR ks A v ∧ LsR l A u ∧ (Asc sl l ∧ l ⊆ ks ∧ l.length ≤ 100) ∧ ∀ H', Ex H H' → Q (.bl true) H'
theorem ok_someL {fL : Addr} {fdL : FuncData} (F : FnP K "are_some_of" (top 19) f fd) (B : Bn mg) (FL : FnP K "is_list" (top 14) fL fdL) (gL : mg "is_list" = some (.ref fL)) : FnOk P w K mg base CX0 2 f fd ["keepers", "thing"] spSomeL := by
  have GL : FnOk P w K mg base CX0 1 fL fdL ["thing"] spIsListG := ok_is_listG FL B.isinstance B.list B.tuple
  have bL : Binds K fdL ["thing"] [] := FL.bindsN fun _ _ _ _ _ _ us hl => match us, hl with | [_], _ => rfl
  refine F.ok scSome (fun vs H Q E h => ?_) (fun cdv A outer s H vs Q E hr h => ?_)
  · obtain ⟨v, u, _, _, _, rfl, _⟩ := h
    rfl
  · obtain ⟨v, u, ks, l, A0, rfl, eA, hv, hu, ⟨ha, hs, hl⟩, q⟩ := h
    refine ⟨_, PSs.nox (pss_cons (ps_if (pw_or (pt_not (pt_val (pe_call GL hr (by rfl) gL FL.kp bL .nil pass0 (pa_cons (pv 1) pa_nil))))
        (pw_or1 (pt_not (pt_val (pe_callB (cr_all rfl) (by rfl) B.all (by decide +kernel) (pa_cons (pe_lc (own := [("one", 2)]) (g := gName 2) (tt := tYes) (te := tAndV (tIsT K 2 "str") (tOp (rIn K false) (tVar 2) (tVar 0))) rfl scSome.nd (pi_seq (pv 1)) (blkOk_by (N := NSome) (sc := defScope (top 19)) (by decide +kernel))
          (fun _ _ _ _ _ => pg_name (i := 2) scSome.nd rfl (.inl rfl)) (fun _ _ _ _ _ => pts_nil) (fun _ _ _ _ _ => pe_and (pe_ist K "str" 2 B.isinstance B.str) (pe_one (pe_cmpR op_in_seq (pv 2) (pv 0) (by rfl))))) pa_nil)))))).pt (pss_one (ps_ret pe_bl)) pss_nil)
      (pss_one (ps_ret (pe_callB (cr_all rfl) (by rfl) B.all (by decide +kernel) (pa_cons (pe_lc (own := [("one", 2), ("other", 3)]) (g := gTup K 2 (gCons (gName 2) (gCons (gName 3) gNil))) (tt := tYes) (te := tOp (rLtW Str) (tVar 2) (tVar 3)) rfl scSome.nd
        (pi_zipA (by rfl) B.zip (pa_cons (pv 1) (pa_cons (pe_slice sl_seq (pv 1) (po_some pe_int) po_none) pa_nil))) (blkOk_by (N := NSome) (sc := defScope (top 19)) (by decide +kernel))
        (fun _ _ _ _ _ => pg_tup rfl (pgs_cons (pg_name (i := 2) scSome.nd rfl (.inl rfl)) (pgs_cons (pg_name (i := 3) scSome.nd rfl (.inl rfl)) pgs_nil))) (fun _ _ _ _ _ => pts_nil)
        (fun _ _ _ _ _ => pe_cmpR (op_ltW (α := Str) (uT hr)) (pv 2) (pv 3) (by rfl))) pa_nil))))), ?_⟩
    obtain ⟨t, k, kt⟩ := kd_sqr hu
    have t1 := et_not (et_B (ev_isListG (σ := [some v, some u, none, none]) (i := 1) (E := E0) rfl k))
    rw [kt] at t1
    have v1 : EvR (tVar 1) [some v, some u, none, none] A0 (LsR l) := er_varR rfl hu
    have nm := ev_allD (K := K) (ed_lcS (K := K) (σ := [some v, some u, none, none]) (tt := tYes) (te := tAndV (tIsT K 2 "str") (tOp (rIn K false) (tVar 2) (tVar 0))) (j := 2) (vs := [2]) strR_mon (fun _ : Str => true) (fun _ : Str => true) v1 (by omega) (fun _ => rfl) (fun _ _ _ _ _ _ => et_yes) fun x y H1 e m r _ => by
      have rx : EvD (tVar 2) [some v, some u, some y, none] H1 x := ed_var (i := 2) rfl r
      have e2 := ev_andV (ev_istS (K := K) rx) fun _ => ev_inS (K := K) rx (er_varR (i := 0) rfl (lsR_mon ks _ _ _ e hv))
      rw [decide_eq_true (hs m)] at e2
      exact ed_bl e2)
    rw [allTrue fun _ _ => rfl] at nm
    refine et_orF t1 (et_not (et_B nm)) H eA _ fun H1 e1 => ?_
    have z1 := ev_allD (K := K) (ed_tailS (K := K) (te := tOp (rLtW Str) (tVar 2) (tVar 3)) (n := 1) (i := 2) (j := 3) (vs := [2, 3]) (σ := [some v, some u, none, none]) strR_mon (fun x y : Str => sl x y) rfl hu (by omega) (fun _ _ => rfl) fun x y v u H1 _ _ _ r1 r2 => ed_bl (ev_ltD (ed_var (i := 2) rfl r1) (ed_var (i := 3) rfl r2)))
    rw [asc_zip ha] at z1
    exact z1 H1 (eA.trans e1) _ fun H2 e2 => q H2 (e1.trans e2)
end
end K07
/-! text E7 -/
set_option Elab.async false
set_option linter.all false
set_option maxRecDepth 100000
set_option maxHeartbeats 8000000
/-! is_lot_of, is_family, checked_family of what is given loosely -/
namespace K07
open PySem PySem.Spec PyProof.Rows L2 Evl PySem.W Dw Dw.DV RZ Lot
theorem kp_good {A : Hp} {v : V} {ks : List Str} (h : LsR ks A v) (g : GoodK goodName ks) : KpB A v true := by
  obtain ⟨a, us, rfl, h1, h2⟩ := h
  have h2' : Paired (fun v x => StrR x A v) us ks := h2
  have e : us = ks.map V.str := by
    clear g h2 h1
    induction h2' with
    | nil => rfl
    | cons h r ih =>
      rw [ih]
      exact congrArg (· :: _) h
  refine .inr ⟨a, us, rfl, h1, fun u m => ?_, ?_, ?_⟩
  · rw [e] at m
    obtain ⟨x, hx, rfl⟩ := List.mem_map.mp m
    refine ⟨⟨_, .str x⟩, ?_⟩
    have gx := g.all x hx
    unfold goodName at gx
    rw [Bool.and_eq_true, Bool.and_eq_true, decide_eq_true_eq, decide_eq_true_eq] at gx
    show x.length ≤ 100000
    omega
  · rw [e, List.length_map]
    have := g.len
    omega
  · unfold kpL
    have e2 : us.map strOf = ks := by
      rw [e, List.map_map]
      exact (List.map_congr_left fun x _ => rfl).trans (List.map_id ks)
    rw [e2, decide_eq_true (p := us ≠ []) (fun z => by
      rw [z] at e2
      exact g.ne e2.symm), show us.all nmV = true from by
      rw [e, List.all_map, List.all_eq_true]
      exact fun x hx => g.all x hx]
    exact (asc_zip g.asc).symm
section
variable {P : Program} {w : World} {K : PySem.W.Frag} {mg : Str → Option Value} {base : Heap} {f : Addr} {fd : FuncData}
def spLotL : Sp := fun vs H Q _ => ∃ v u ks l A, vs = [v, u] ∧ Ex A H ∧ LsR ks A v ∧ LsR l A u ∧ (GoodL ks l ∧ l.length ≤ 100) ∧ ∀ H', Ex H H' → Q (.bl true) H'
theorem ok_lotL {fL fS : Addr} {fdL fdS : FuncData} (F : FnP K "is_lot_of" (top 20) f fd) (B : Bn mg) (FL : FnP K "is_list" (top 14) fL fdL) (gL : mg "is_list" = some (.ref fL)) (FS : FnP K "are_some_of" (top 19) fS fdS) (gS : mg "are_some_of" = some (.ref fS)) : FnOk P w K mg base CX0 3 f fd ["keepers", "thing"] spLotL := by
  have GS : FnOk P w K mg base CX0 2 fS fdS ["keepers", "thing"] spSomeL := ok_someL FS B FL gL
  have bS : Binds K fdS ["keepers", "thing"] [] := FS.bindsN fun _ _ _ _ _ _ us hl => match us, hl with | [_, _], _ => rfl
  refine F.ok scLot (fun vs H Q E h => ?_) (fun cdv A outer s H vs Q E hr h => ?_)
  · obtain ⟨v, u, _, _, _, rfl, _⟩ := h
    rfl
  · obtain ⟨v, u, ks, l, A0, rfl, eA, hv, hu, ⟨hg, hl⟩, q⟩ := h
    refine ⟨_, PSs.nox (pss_one (ps_ret (pe_and (pe_call GS hr (by rfl) gS FS.kp bS .nil pass0 (pa_cons (pv 0) (pa_cons (pv 1) pa_nil))) (pe_one (pe_cmpR op_gt (pe_callB call_len_seq (by rfl) B.len PySem.boot_len (pa_cons (pv 1) pa_nil)) pe_int (nomark _)))))), ?_⟩
    have e0 : EvR (tVar 1) [some v, some u] A0 (LsR l) := er_varR rfl hu
    have c : Ev (tCall spSomeL [] E0 (tCons (tVar 0) (tCons (tVar 1) tNil))) [some v, some u] A0 (.bl true) := fun H1 e Q q => ⟨v, rfl, u, rfl, v, u, ks, l, A0, rfl, e, hv, hu, ⟨hg.asc, hg.sub, hl⟩, q⟩
    have pos : 0 < l.length := List.length_pos_iff.mpr hg.ne
    have ln := ev_lenS (K := K) e0 (AllR.mon strR_mon) (n := l.length) fun H vs h => Paired.length h
    have e2 := ev_andV c fun _ => ev_op ln ev_c (rv_I0 (g := fun i j => .bl (decide (j < i))) (i := (l.length : Int)) (j := 0))
    rw [decide_eq_true (show (0 : Int) < (l.length : Int) by omega)] at e2
    exact e2 H eA _ fun H1 e1 => q H1 e1
def spFamL : Sp := fun vs H Q _ => ∃ v F A, vs = [v] ∧ Ex A H ∧ FmR F A v ∧ GoodF goodName F ∧ ∀ H', Ex H H' → Q (.bl true) H'
theorem ok_famL {fN fL fK fS fO fH : Addr} {fdN fdL fdK fdS fdO fdH : FuncData} (F : FnP K "is_family" (top 22) f fd) (B : Bn mg) (N : Df K mg "is_name" 15 fN fdN) (L : Df K mg "is_list" 14 fL fdL) (KP : Df K mg "are_keepers" 18 fK fdK)
    (S : Df K mg "are_some_of" 19 fS fdS) (O : Df K mg "is_lot_of" 20 fO fdO) (HO : Df K mg "holds" 21 fH fdH) : FnOk P w K mg base CX0 4 f fd ["thing"] spFamL := by
  have GL : FnOk P w K mg base CX0 1 fL fdL ["thing"] spIsListG := ok_is_listG L.F B.isinstance B.list B.tuple
  have bL : Binds K fdL ["thing"] [] := L.F.bindsN fun _ _ _ _ _ _ us hl => match us, hl with | [_], _ => rfl
  have GK : FnOk P w K mg base CX0 2 fK fdK ["thing"] spKeepG := ok_keepG KP.F B N.F N.g L.F L.g
  have bK : Binds K fdK ["thing"] [] := KP.F.bindsN fun _ _ _ _ _ _ us hl => match us, hl with | [_], _ => rfl
  have GO : FnOk P w K mg base CX0 3 fO fdO ["keepers", "thing"] spLotL := ok_lotL O.F B L.F L.g S.F S.g
  have bO : Binds K fdO ["keepers", "thing"] [] := O.F.bindsN fun _ _ _ _ _ _ us hl => match us, hl with | [_, _], _ => rfl
  have GH : FnOk P w K mg base CX0 1 fH fdH ["lot", "other"] spHolds := ok_holds HO.F B.all
  have bH : Binds K fdH ["lot", "other"] [] := HO.F.bindsN fun _ _ _ _ _ _ us hl => match us, hl with | [_, _], _ => rfl
  refine F.ok scFam (fun vs H Q E h => ?_) (fun cdv A outer s H vs Q E hr h => ?_)
  · obtain ⟨v, _, _, rfl, _⟩ := h
    rfl
  · obtain ⟨v, F, A0, rfl, eA, hv, hF, q⟩ := h
    refine ⟨_, PSs.nox (pss_cons (ps_if (pw_or (pt_not (pt_val (pe_call GL (hr.mono (by decide)) (by rfl) L.g L.F.kp bL .nil pass0 (pa_cons (pv 0) pa_nil))))
        (pw_or (pt_cmpR op_ne (pe_callB call_len_seq (by rfl) B.len PySem.boot_len (pa_cons (pv 0) pa_nil)) pe_int (nomark _))
        (pw_or1 (pt_not (pt_val (pe_call GK (hr.mono (by decide)) (by rfl) KP.g KP.F.kp bK .nil pass0 (pa_cons (pe_ix ix_seq (pv 0) pe_int (fun _ _ => rfl)) pa_nil))))))).pt (pss_one (ps_ret pe_bl)) pss_nil)
      (pss_cons (ps_if (pw_or (pt_not (pt_val (pe_call GL (hr.mono (by decide)) (by rfl) L.g L.F.kp bL .nil pass0 (pa_cons (pe_ix ix_seq (pv 0) pe_int (fun _ _ => rfl)) pa_nil))))
        (pw_or (pt_cmpR op_eq (pe_callB call_len_seq (by rfl) B.len PySem.boot_len (pa_cons (pe_ix ix_seq (pv 0) pe_int (fun _ _ => rfl)) pa_nil)) pe_int (nomark _))
        (pw_or1 (pt_not (pt_val (pe_callB (cr_all rfl) (by rfl) B.all (by decide +kernel) (pa_cons (pe_lc (own := [("lot", 1)]) (g := gName 1) (tt := tYes) (te := tCall spLotL [] E0 (tCons (tOp (rIx K) (tVar 0) (tC (.int 0))) (tCons (tVar 1) tNil))) rfl scFam.nd (pi_seq (pe_ix ix_seq (pv 0) pe_int (fun _ _ => rfl))) (blkOk_by (N := NFam) (sc := defScope (top 22)) (by decide +kernel))
          (fun _ _ _ _ _ => pg_name (i := 1) scFam.nd rfl (.inl rfl)) (fun _ _ _ _ _ => pts_nil) (fun _ _ _ _ _ => pe_call GO hr (by rfl) O.g O.F.kp bO .nil pass0 (pa_cons (pe_ix ix_seq (pv 0) pe_int (fun _ _ => rfl)) (pa_cons (pv 1) pa_nil)))) pa_nil))))))).pt (pss_one (ps_ret pe_bl)) pss_nil)
      (pss_cons (ps_set (i := 2) scFam.nd rfl (.inr rfl) (pe_lc (own := [("lot", 1)]) (g := gName 1) (tt := tYes) (te := tCB (rListS K) (tCons (tVar 1) tNil)) rfl scFam.nd (pi_seq (pe_ix ix_seq (pv 0) pe_int (fun _ _ => rfl))) (blkOk_by (N := NFam) (sc := defScope (top 22)) (by decide +kernel))
          (fun _ _ _ _ _ => pg_name (i := 1) scFam.nd rfl (.inl rfl)) (fun _ _ _ _ _ => pts_nil) (fun _ _ _ _ _ => pe_callTy call_list_of (by rfl) B.list (by decide +kernel) (pa_cons (pv 1) pa_nil))))
      (pss_cons (ps_if (pt_not (pt_val (pe_callB (cr_all rfl) (by rfl) B.all (by decide +kernel) (pa_cons (pe_lc (own := [("one", 3), ("other", 4)]) (g := gTup K 2 (gCons (gName 3) (gCons (gName 4) gNil))) (tt := tYes) (te := tOp (rLtW (List Str)) (tVar 3) (tVar 4)) rfl scFam.nd
        (pi_zipA (by rfl) B.zip (pa_cons (pv 2) (pa_cons (pe_slice sl_list (pv 2) (po_some pe_int) po_none) pa_nil))) (blkOk_by (N := NFam) (sc := defScope (top 22)) (by decide +kernel))
        (fun _ _ _ _ _ => pg_tup rfl (pgs_cons (pg_name (i := 3) scFam.nd rfl (.inl rfl)) (pgs_cons (pg_name (i := 4) scFam.nd rfl (.inl rfl)) pgs_nil))) (fun _ _ _ _ _ => pts_nil)
        (fun _ _ _ _ _ => pe_cmpR (op_ltW (α := List Str) (uTL hr)) (pv 3) (pv 4) (by rfl))) pa_nil)))) (pss_one (ps_ret pe_bl)) pss_nil)
      (pss_one (ps_ret (pe_not (pe_callB (cr_any rfl) (by rfl) B.any (by decide +kernel) (pa_cons (pe_lc (own := [("one", 3)]) (g := gName 3) (tt := tYes) (te := tCB (rAny K) (tCons (tLc (iList K (tVar 2)) (gName 4) tYes (tAndV (tOp (rEqW (List Str) true) (tVar 3) (tVar 4)) (tCall spHolds [] E0 (tCons (tVar 3) (tCons (tVar 4) tNil)))) [4]) tNil)) rfl scFam.nd (pi_list (pv 2)) (blkOk_by (N := NFam) (sc := defScope (top 22)) (by decide +kernel))
          (fun _ _ _ _ _ => pg_name (i := 3) scFam.nd rfl (.inr rfl)) (fun _ _ _ _ _ => pts_nil)
          (fun _ _ _ _ _ => pe_callB (cr_any rfl) (by rfl) B.any (by decide +kernel) (pa_cons (pe_lc (own := [("other", 4)]) (g := gName 4) (tt := tYes) rfl scFam.nd (pi_list (pv 2)) (blkOk_by (N := NFam) (sc := scFamI) (by decide +kernel))
            (fun _ _ _ _ _ => pg_name (i := 4) scFam.nd rfl (.inl rfl)) (fun _ _ _ _ _ => pts_nil)
            (fun _ _ _ _ _ => pe_and (pe_cmpR (op_neW (α := List Str) (uTL hr)) (pv 3) (pv 4) (by rfl)) (pe_one (pe_call GH (hr.mono (by decide)) (by rfl) HO.g HO.F.kp bH .nil pass0 (pa_cons (pv 3) (pa_cons (pv 4) pa_nil)))))) pa_nil))) pa_nil))))))))), ?_⟩
    have l2 := hF.len2
    have v0 : EvR (tVar 0) [some v, none, none, none, none] A0 (FmR F) := er_varR rfl hv
    have two : ∀ (H : Hp) (vs : List V), (∃ v u, vs = [v, u] ∧ LsR F.1 H v ∧ LlR F.2 H u) → vs.length = 2 := fun H vs ⟨_, _, h, _⟩ => by rw [h]; rfl
    have mF : Mon (fun (H : Hp) (vs : List V) => ∃ v u, vs = [v, u] ∧ LsR F.1 H v ∧ LlR F.2 H u) := fun H H' vs e ⟨v, u, h1, h2, h3⟩ => ⟨v, u, h1, lsR_mon _ _ _ _ e h2, llR_mon _ _ _ _ e h3⟩
    have k0 : ∀ {σ : L2.St} {A : Hp}, EvR (tVar 0) σ A (FmR F) → EvR (tOp (rIx K) (tVar 0) (tC (.int ((0 : Nat) : Int)))) σ A (LsR F.1) := fun v0 => er_ixS (i := 0) v0 (lsR_mon _) fun H vs h => by
      obtain ⟨x, y, rfl, h1, h2⟩ := h
      exact ⟨by simp, fun u e => by
        cases e
        exact h1⟩
    have k1 : EvR (tOp (rIx K) (tVar 0) (tC (.int ((1 : Nat) : Int)))) [some v, none, none, none, none] A0 (LlR F.2) := er_ixS (i := 1) v0 (llR_mon _) fun H vs h => by
      obtain ⟨x, y, rfl, h1, h2⟩ := h
      exact ⟨by simp, fun u e => by
        cases e
        exact h2⟩
    have isL : ∀ {te : TE} {L1 : Hp → List V → Prop}, EvR te [some v, none, none, none, none] A0 (SqR L1) → Mon L1 → Ev (tCall spIsListG [] E0 (tCons te tNil)) [some v, none, none, none, none] A0 (.bl true) := fun h m H1 e Q q => EvR.go h (SqR.mon m) e fun v H2 e2 r => by
      obtain ⟨t, k, kt⟩ := kd_sqr r
      rw [← kt] at q
      exact ⟨v, t, rfl, k, fun H' e3 => q H' (e2.trans e3)⟩
    have t1 := et_not (et_B (isL v0 mF))
    have t2 := et_test (ev_op (x := .int ((2 : Nat) : Int)) (y := .int 2) (ev_lenS (K := K) v0 mF two) ev_c (rv_ne rfl))
    have t3 := et_not (et_B (show Ev (tCall spKeepG [] E0 (tCons (tOp (rIx K) (tVar 0) (tC (.int ((0 : Nat) : Int)))) tNil)) [some v, none, none, none, none] A0 (.bl true) from fun H1 e Q q => EvR.go (k0 v0) (lsR_mon _) e fun u H2 e2 r => ⟨u, true, H2, rfl, Ex.refl H2, kp_good r hF.ks, fun H' e3 => q H' (e2.trans e3)⟩))
    refine et_orF t1 (et_orF (et_is t2 (by decide)) t3) H eA _ fun H1 e1 => ?_
    have u1 := et_not (et_B (isL k1 (AllR.mon lsR_mon)))
    have u2 := et_test (ev_op (x := .int (F.2.length : Int)) (y := .int 0) (ev_lenS (K := K) k1 (AllR.mon lsR_mon) (n := F.2.length) fun H vs h => Paired.length h) ev_c (rv_eq rfl))
    have n2 : decide (V.int (F.2.length : Int) = V.int 0) = false := decide_eq_false fun z => by
      have := V.int.inj z
      exact hF.ne (List.eq_nil_of_length_eq_zero (by omega))
    rw [n2] at u2
    have nm := ev_allD (K := K) (ed_lcS (K := K) (σ := [some v, none, none, none, none]) (tt := tYes) (te := tCall spLotL [] E0 (tCons (tOp (rIx K) (tVar 0) (tC (.int ((0 : Nat) : Int)))) (tCons (tVar 1) tNil))) (j := 1) (vs := [1]) lsR_mon (fun _ : List Str => true) (fun _ : List Str => true) k1 (by have := hF.len; omega) (fun _ => rfl) (fun _ _ _ _ _ _ => et_yes) fun x y H2 e m r _ =>
      ed_bl (fun H3 e3 Q q => EvR.go (k0 (er_varR (i := 0) (σ := [some v, some y, none, none, none]) rfl (fmR_mon _ _ _ _ e hv))) (lsR_mon _) e3 fun u H4 e4 r4 => ⟨y, rfl, u, y, F.1, x, H4, rfl, Ex.refl H4, r4, lsR_mon _ _ _ _ (e3.trans e4) r, ⟨hF.lots x m, l2 x m⟩, fun H' e5 => q H' (e4.trans e5)⟩))
    rw [allTrue fun _ _ => rfl] at nm
    refine et_orF u1 (et_orF u2 (et_not (et_B nm))) H1 (eA.trans e1) _ fun H2 e2' => ?_
    have eH2 := e1.trans e2'
    have ll0 := ew_lcS (K := K) (te := tCB (rListS K) (tCons (tVar 1) tNil)) (S := fun l => LstW StrW l) (j := 1) (vs := [1]) lsR_mon (fun l => lstW_mon strW_mon) (fun l : List Str => l) k1 (by have := hF.len; omega) (fun _ => rfl) fun x y H1 e _ r => ew_strs (er_varR (i := 1) rfl r)
    rw [List.map_id'] at ll0
    have ll : EvD _ [some v, none, none, none, none] A0 F.2 := fun H1 e Q q => ll0 H1 e Q fun v H2 Hs L e2 s o r _ _ => q v H2 Hs e2 ⟨s, fun b u z => .inr (o b u z)⟩ (llW_rep r)
    refine b_asg (Bs.start (eA.trans eH2)) ll fun v2 A2 H3 B3 eA2 r2 => ?_
    have e2 : EvD (tVar 2) [some v, none, some v2, none, none] A2 F.2 := ed_var rfl r2
    have z0 := ed_zip (K := K) (tt := tYes) (te := tOp (rLtW (List Str)) (tVar 3) (tVar 4)) (i := 3) (j := 4) (vs := [3, 4]) (σ := [some v, none, some v2, none, none]) (fun x y : List Str => (DatumOrd.lt x y : Bool)) e2 (ed_sl (K := K) e2 (eo_some (te := tC (.int 1)) ev_c) eo_none) (by have := hF.len; omega) (fun _ _ => rfl) (fun _ _ _ _ => et_yes) fun k x y v u H1 _ _ _ r1 r2 => ed_bl (ev_ltD (ed_var rfl r1) (ed_var rfl r2))
    have z1 := ev_allD (K := K) z0
    rw [cut_tail, asc_zip (ll_asc.mpr hF.asc)] at z1
    refine b_skip B3 (et_not (et_B z1)) rfl fun H4 B4 => ?_
    have inner : ∀ (x : List Str) (y : V) H1, Ex A2 H1 → x ∈ F.2 → rep H1 y x → (fun _ : List Str => true) x = true → EvD (tCB (rAny K) (tCons (tLc (iList K (tVar 2)) (gName 4) tYes (tAndV (tOp (rEqW (List Str) true) (tVar 3) (tVar 4)) (tCall spHolds [] E0 (tCons (tVar 3) (tCons (tVar 4) tNil)))) [4]) tNil)) [some v, none, some v2, some y, none] H1 (F.2.any fun o => decide (x ≠ o) && holdsP x o) := fun x y H1 e m r _ => by
      have lc := ed_lc (K := K) (σ := [some v, none, some v2, some y, none]) (H := H1) (tl := tVar 2) (tt := tYes) (te := tAndV (tOp (rEqW (List Str) true) (tVar 3) (tVar 4)) (tCall spHolds [] E0 (tCons (tVar 3) (tCons (tVar 4) tNil)))) (j := 4) (vs := [4]) (fun _ : List Str => true) (fun o : List Str => decide (x ≠ o) && holdsP x o) (ed_var (v := v2) rfl (DV.ext e r2)) (by have := hF.len; omega) (fun _ => rfl) (fun _ _ H1 _ _ _ => et_yes) fun o z H5 e5 mo ro _ => ed_bl (ev_andV (ev_neD (ed_var (i := 3) (v := y) rfl (DV.ext e5 r)) (ed_var (i := 4) (v := z) rfl ro)) fun _ => ev_of (ed_call2 (ed_var (i := 3) (v := y) rfl (DV.ext e5 r)) (ed_var (i := 4) (v := z) rfl ro) (by have := l2 o mo; omega)))
      have an := ev_anyD (K := K) lc
      rw [List.filter_eq_self.mpr (fun _ _ => rfl), List.any_map] at an
      exact ed_bl an
    have lc := ed_lc (K := K) (σ := [some v, none, some v2, none, none]) (H := A2) (tl := tVar 2) (tt := tYes) (j := 3) (vs := [3]) (fun _ : List Str => true) (fun x : List Str => F.2.any fun o => decide (x ≠ o) && holdsP x o) e2 (by have := hF.len; omega) (fun _ => rfl) (fun _ _ H1 _ _ _ => et_yes) inner
    have an := ev_anyD (K := K) lc
    have no : ((F.2.filter fun _ => true).map fun x : List Str => F.2.any fun o => decide (x ≠ o) && holdsP x o).any id = false := by
      rw [List.any_eq_false]
      intro b hb
      obtain ⟨x, hx, rfl⟩ := List.mem_map.mp hb
      have hx := (List.mem_filter.mp hx).1
      show ¬ (F.2.any fun o => decide (x ≠ o) && holdsP x o) = true
      rw [List.any_eq_true]
      rintro ⟨o, ho, z⟩
      rw [Bool.and_eq_true] at z
      have z1 := of_decide_eq_true z.1
      have z2 := List.all_eq_true.mp z.2
      exact z1 (hF.anti o ho x hx fun k m => of_decide_eq_true (z2 k m)).symm
    rw [no] at an
    refine (ev_notV an) H4 B4.h _ fun H5 e5 => ?_
    exact q H5 ((eH2.trans B4.e).trans e5)
end
end K07
/-! text E8 -/
set_option Elab.async false
set_option linter.all false
set_option maxRecDepth 100000
set_option maxHeartbeats 4000000
/-! checked_family of a right family that is given loosely: told new -/
namespace K07
open PySem PySem.Spec PyProof.Rows L2 Evl PySem.W Dw Dw.DV RZ Lot
section
variable {P : Program} {w : World} {K : PySem.W.Frag} {mg : Str → Option Value} {base : Heap} {f : Addr} {fd : FuncData} {fL fN f1 fK fS fO fH fF fT : Addr} {dL dN d1 dK dS dO dH dF dT : FuncData}
def spChkL : Sp := fun vs H Q _ => ∃ v F A, vs = [v] ∧ Ex A H ∧ FmR F A v ∧ GoodF goodName F ∧ EndN H (FmW F) Q
theorem ok_chkL (F : FnP K "checked_family" (top 24) f fd) (B : Bn mg) (Z : Fs K mg fL fN f1 fK fS fO fH fF fT dL dN d1 dK dS dO dH dF dT) : FnOk P w K mg base CX0 5 f fd ["family"] spChkL := by
  have GF : FnOk P w K mg base CX0 4 fF dF ["thing"] spFamL := ok_famL Z.F.F B Z.N Z.L Z.KP Z.S Z.O Z.HO
  have bF : Binds K dF ["thing"] [] := Z.F.F.bindsN fun _ _ _ _ _ _ us hl => match us, hl with | [_], _ => rfl
  have GT : FnOk P w K mg base CX0 1 fT dT ["thing"] spToldL := ok_toldL Z.T.F B.list
  have bT : Binds K dT ["thing"] [] := Z.T.F.bindsN fun _ _ _ _ _ _ us hl => match us, hl with | [_], _ => rfl
  refine F.ok scChk (fun vs H Q E h => ?_) (fun cdv A outer s H vs Q E hr h => ?_)
  · obtain ⟨v, _, _, rfl, _⟩ := h
    rfl
  · obtain ⟨v, F, A0, rfl, eA, hv, hF, q⟩ := h
    refine ⟨_, PSs.nox (pss_cons (ps_if (pt_not (pt_val (pe_call GF hr (by rfl) Z.F.g Z.F.F.kp bF .nil pass0 (pa_cons (pv 0) pa_nil)))) pss_never pss_nil)
      (pss_one (ps_ret (pe_call GT (hr.mono (by decide)) (by rfl) Z.T.g Z.T.F.kp bT .nil pass0 (pa_cons (pv 0) pa_nil))))), ?_⟩
    have t1 := et_not (et_B (show Ev (tCall spFamL [] E0 (tCons (tVar 0) tNil)) [some v] A0 (.bl true) from fun H1 e Q q => ⟨v, rfl, v, F, A0, rfl, e, hv, hF, q⟩))
    refine b_skip (Bs.start eA) t1 rfl fun H1 B1 => ?_
    exact ⟨v, rfl, v, F, A0, rfl, B1.h, hv, hF.len, fun u H' Hs L e s o r n d => q u H' Hs L (B1.e.trans e) s (fun b x z => exf B1.e (o b x z)) r n d⟩
end
end K07
/-! text W33 -/
set_option Elab.async false
set_option linter.all false
set_option maxRecDepth 100000
set_option maxHeartbeats 2000000
/-! {x: True for x in xs} over a list or a tuple of texts -/
namespace Dw
open PySem PySem.Spec PyProof.Rows L2 Evl PySem.W DV K07 RZ StX
section
variable {K : PySem.W.Frag} {σ : L2.St} {A : Hp} {tl : TE}
theorem strs_eq {H : Hp} : ∀ {vs : List V} {xs : List Str}, Paired (fun v x => StrR x H v) vs xs → vs = xs.map V.str
  | _, _, .nil => rfl
  | _, _, .cons h r => by
    rw [List.map_cons, ← strs_eq r]
    exact congrArg (· :: _) h
theorem ed_dcSeq {xs : List Str} {j : Nat} {vs : List Nat} (h : EvR tl σ A (LsR xs)) (hz : xs.length ≤ 40000) (hw : ∀ x, wipe ((wipe σ vs).set j (some x)) vs = wipe σ vs) (hj : ∀ x, ((wipe σ vs).set j (some x))[j]? = some (some x)) :
    EvDK (tDc (iSeq K tl) (gName j) tYes (tVar j) (tC (.bl true)) vs) σ A (once xs) := fun H1 e Q q => h H1 e _ fun v H2 Hs e2 s r => by
  obtain ⟨a, us, rfl, h1, h2⟩ := r
  have h2' : Paired (fun v x => StrR x Hs v) us xs := h2
  have len : us.length = xs.length := Paired.length h2'
  have hus := strs_eq h2'
  refine ⟨a, rfl, ?_⟩
  rcases h1 with h1 | h1
  · have ha := s.e _ _ h1
    refine .inl ⟨⟨us, sq_of ha⟩, fun D hD => ?_⟩
    have D1 : H1 D = none := fresh_back e2 hD
    have aD : a ≠ D := fun z => by
      rw [z, hD] at ha
      cases ha
    refine ⟨fun i m H => m = us.length - i ∧ i ≤ us.length ∧ Ex H2 H ∧ ∃ kvs, H D = some (.dK kvs) ∧ kvs.map (·.1) = (once (xs.take i)).map Sum.inr, ⟨us.length, by simp, Nat.zero_le _, Ex.new hD, [], upd_same, rfl⟩, ?_⟩
    rintro i m H ⟨rfl, hi, p1, kvs, p2, p3⟩
    have hq : SqL K H a us := sq_of (p1 _ _ ha)
    by_cases hlt : i < us.length
    · refine .inr ⟨⟨us, us[i], hq, by simp [hlt]⟩, fun H' => Ex H2 H' ∧ ∃ kvs, H' D = some (.dK kvs) ∧ kvs.map (·.1) = (once (xs.take (i + 1))).map Sum.inr, fun H' p' => ⟨us.length - (i + 1), by omega, rfl, hlt, p'⟩, fun x H' y => ?_⟩
      obtain ⟨e, y⟩ := y
      subst e
      have hx := y us hq
      have hxs : xs[i]? = some xs[i] := List.getElem?_eq_getElem (by omega)
      have ex : x = V.str xs[i] := by
        rw [hus, List.getElem?_map, hxs] at hx
        exact (Option.some.inj hx).symm
      refine ⟨hw x, ?_⟩
      have lk : (once (xs.take i)).length = kvs.length := by
        have := congrArg List.length p3
        simpa using this.symm
      have l2 := once_len (xs.take i)
      rw [List.length_take] at l2
      refine ⟨x, hj x, kvs, .inr xs[i], ex, p2, sz_lt (by omega), p1.mut hD, _, upd_same, ?_⟩
      rw [keys_put p3, List.take_add_one, hxs]
      show _ = List.map Sum.inr (once (xs.take i ++ [xs[i]]))
      rw [once_snoc]
    · have e3 : i = us.length := by omega
      subst e3
      rw [List.take_of_length_le (by omega)] at p3
      exact .inl ⟨⟨us, hq, Nat.le_refl _⟩, q D kvs H D1 (e2.trans p1) p2 p3⟩
  · have ha := s.e _ _ h1
    refine .inr ⟨⟨us, st_of ha⟩, fun D hD => ?_⟩
    have D1 : H1 D = none := fresh_back e2 hD
    have aD : a ≠ D := fun z => by
      rw [z, hD] at ha
      cases ha
    refine ⟨fun i m H => m = us.length - i ∧ i ≤ us.length ∧ Ex H2 H ∧ ∃ kvs, H D = some (.dK kvs) ∧ kvs.map (·.1) = (once (xs.take i)).map Sum.inr, ⟨us.length, by simp, Nat.zero_le _, Ex.new hD, [], upd_same, rfl⟩, ?_⟩
    rintro i m H ⟨rfl, hi, p1, kvs, p2, p3⟩
    have hq : SqT K H a us := st_of (p1 _ _ ha)
    by_cases hlt : i < us.length
    · refine .inr ⟨⟨us, us[i], hq, by simp [hlt]⟩, fun H' => Ex H2 H' ∧ ∃ kvs, H' D = some (.dK kvs) ∧ kvs.map (·.1) = (once (xs.take (i + 1))).map Sum.inr, fun H' p' => ⟨us.length - (i + 1), by omega, rfl, hlt, p'⟩, fun x H' y => ?_⟩
      obtain ⟨e, y⟩ := y
      subst e
      have hx := y us hq
      have hxs : xs[i]? = some xs[i] := List.getElem?_eq_getElem (by omega)
      have ex : x = V.str xs[i] := by
        rw [hus, List.getElem?_map, hxs] at hx
        exact (Option.some.inj hx).symm
      refine ⟨hw x, ?_⟩
      have lk : (once (xs.take i)).length = kvs.length := by
        have := congrArg List.length p3
        simpa using this.symm
      have l2 := once_len (xs.take i)
      rw [List.length_take] at l2
      refine ⟨x, hj x, kvs, .inr xs[i], ex, p2, sz_lt (by omega), p1.mut hD, _, upd_same, ?_⟩
      rw [keys_put p3, List.take_add_one, hxs]
      show _ = List.map Sum.inr (once (xs.take i ++ [xs[i]]))
      rw [once_snoc]
    · have e3 : i = us.length := by omega
      subst e3
      rw [List.take_of_length_le (by omega)] at p3
      exact .inl ⟨⟨us, hq, Nat.le_refl _⟩, q D kvs H D1 (e2.trans p1) p2 p3⟩
end
end Dw
/-! text E9 -/
set_option Elab.async false
set_option linter.all false
set_option maxRecDepth 100000
set_option maxHeartbeats 4000000
/-! is_some_lot of any object -/
namespace K07
open PySem PySem.Spec PyProof.Rows L2 Evl PySem.W Dw Dw.DV RZ Lot
def slL (ks : List Str) (us : List V) : Bool := decide (us ≠ []) && (us.all (oneV ks) && decide ((once (us.map strOf)).length = us.length))
def SlB (ks : List Str) (H : Hp) (v : V) (b : Bool) : Prop := (∃ t, Kd H v t ∧ isLB t = false ∧ b = false) ∨ ∃ a us, v = .ref a ∧ SeqAt H a us ∧ (∀ u ∈ us, Any1 H u) ∧ us.length ≤ 1000 ∧ b = slL ks us
theorem one_str {ks : List Str} {u : V} (h : oneV ks u = true) : u = .str (strOf u) := by
  cases u <;> first | rfl | cases h
section
variable {P : Program} {w : World} {K : PySem.W.Frag} {mg : Str → Option Value} {base : Heap} {f : Addr} {fd : FuncData}
def spSlG : Sp := fun vs H Q _ => ∃ v u ks b A, vs = [v, u] ∧ Ex A H ∧ rep A v ks ∧ SlB ks A u b ∧ ∀ H', Ex H H' → Q (.bl b) H'
abbrev NSl : List Str := ["keepers", "thing", "one"]
theorem scSl : FnScope NSl ["keepers", "thing"] (defScope (top 28)) := ⟨rfl, rfl, rfl, by decide +kernel, rfl, by decide +kernel, by decide +kernel⟩
theorem ok_slG {fL f1 : Addr} {dL d1 : FuncData} (F : FnP K "is_some_lot" (top 28) f fd) (B : Bn mg) (L : Df K mg "is_list" 14 fL dL) (O : Df K mg "is_one_of" 16 f1 d1) : FnOk P w K mg base CX0 2 f fd ["keepers", "thing"] spSlG := by
  have GL : FnOk P w K mg base CX0 1 fL dL ["thing"] spIsListG := ok_is_listG L.F B.isinstance B.list B.tuple
  have bL : Binds K dL ["thing"] [] := L.F.bindsN fun _ _ _ _ _ _ us hl => match us, hl with | [_], _ => rfl
  have GO : FnOk P w K mg base CX0 1 f1 d1 ["known", "thing"] spOneG := ok_oneG O.F B
  have bO : Binds K d1 ["known", "thing"] [] := O.F.bindsN fun _ _ _ _ _ _ us hl => match us, hl with | [_, _], _ => rfl
  refine F.ok scSl (fun vs H Q E h => ?_) (fun cdv A outer s H vs Q E hr h => ?_)
  · obtain ⟨v, u, _, _, _, rfl, _⟩ := h
    rfl
  · obtain ⟨v, u, ks, b, A0, rfl, eA, hv, hb, q⟩ := h
    refine ⟨_, PSs.nox (pss_cons (ps_if (pw_or (pt_not (pt_val (pe_call GL hr (by rfl) L.g L.F.kp bL .nil pass0 (pa_cons (pv 1) pa_nil))))
        (pw_or (pt_cmpR op_eq (pe_callB call_len_seq (by rfl) B.len PySem.boot_len (pa_cons (pv 1) pa_nil)) pe_int (nomark _))
        (pw_or1 (pt_not (pt_val (pe_callB (cr_all rfl) (by rfl) B.all (by decide +kernel) (pa_cons (pe_lc (own := [("one", 2)]) (g := gName 2) (tt := tYes) (te := tCall spOneG [] E0 (tCons (tVar 0) (tCons (tVar 2) tNil))) rfl scSl.nd (pi_seq (pv 1)) (blkOk_by (N := NSl) (sc := defScope (top 28)) (by decide +kernel))
          (fun _ _ _ _ _ => pg_name (i := 2) scSl.nd rfl (.inl rfl)) (fun _ _ _ _ _ => pts_nil) (fun _ _ _ _ _ => pe_call GO hr (by rfl) O.g O.F.kp bO .nil pass0 (pa_cons (pv 0) (pa_cons (pv 2) pa_nil)))) pa_nil))))))).pt (pss_one (ps_ret pe_bl)) pss_nil)
      (pss_one (ps_ret (pe_cmpR op_eq (pe_callB call_lenD (by rfl) B.len PySem.boot_len (pa_cons (pe_dc (own := [("one", 2)]) (g := gName 2) (tt := tYes) (tk := tVar 2) (tv := tC (.bl true)) rfl scSl.nd (pi_seq (pv 1)) (blkOk_by (N := NSl) (sc := defScope (top 28)) (by decide +kernel))
          (fun _ _ _ _ _ => pg_name (i := 2) scSl.nd rfl (.inl rfl)) (fun _ _ _ _ _ => pts_nil) (fun _ _ _ _ _ => pv 2) (fun _ _ _ _ _ => pe_bl)) pa_nil)) (pe_callB call_len_seq (by rfl) B.len PySem.boot_len (pa_cons (pv 1) pa_nil)) (nomark _))))), ?_⟩
    rcases hb with ⟨t, k, kf, rfl⟩ | ⟨a, us, rfl, hs, hu, hl, rfl⟩
    · have t1 := et_not (et_B (ev_isListG (σ := [some v, some u, none]) (i := 1) (E := E0) rfl k))
      rw [kf] at t1
      exact et_orT t1 H eA _ fun H1 e1 => q H1 e1
    · obtain ⟨t, k, kt⟩ := kd_seq hs
      have t1 := et_not (et_B (ev_isListG (σ := [some v, some (.ref a), none]) (i := 1) (E := E0) rfl k))
      rw [kt] at t1
      have s0 : SqR (AllR IsR us) A0 (.ref a) := ⟨a, us, rfl, hs, all_isR hu⟩
      have v1 : EvR (tVar 1) [some v, some (.ref a), none] A0 (SqR (AllR IsR us)) := er_varR rfl s0
      have ln := ev_lenS (K := K) v1 (AllR.mon isR_mon) (n := us.length) fun H vs h => Paired.length h
      have t2 := et_test (ev_op (x := .int (us.length : Int)) (y := .int 0) ln ev_c (rv_eq rfl))
      by_cases ne : us = []
      · have e2 : decide (V.int (us.length : Int) = V.int 0) = true := decide_eq_true (by rw [ne]; rfl)
        rw [e2] at t2
        have qf := fun H1 e1 => q H1 e1
        rw [show slL ks us = false by unfold slL; rw [decide_eq_false (fun z => z ne)]; rfl] at qf
        exact et_orF t1 (et_orT t2) H eA _ fun H1 e1 => qf H1 e1
      · have e2 : decide (V.int (us.length : Int) = V.int 0) = false := decide_eq_false fun z => by
          have := V.int.inj z
          exact ne (List.eq_nil_of_length_eq_zero (by omega))
        rw [e2] at t2
        have nm := ev_allD (K := K) (ed_lcS (K := K) (σ := [some v, some (.ref a), none]) (tt := tYes) (te := tCall spOneG [] E0 (tCons (tVar 0) (tCons (tVar 2) tNil))) (j := 2) (vs := [2]) isR_mon (fun _ : V => true) (oneV ks) v1 (by omega) (fun _ => rfl) (fun _ _ _ _ _ _ => et_yes) fun x y H1 e _ r _ => ed_bl (by
          obtain ⟨rfl, r⟩ := r
          exact fun H2 e2 Q q => ⟨v, rfl, y, rfl, v, y, ks, H1, rfl, e2, DV.ext e hv, r, q⟩))
        rw [List.filter_eq_self.mpr (fun _ _ => rfl), List.all_map] at nm
        have t3 := et_not (et_B nm)
        by_cases al : us.all (oneV ks) = true
        · rw [show us.all (id ∘ oneV ks) = true from al] at t3
          refine et_orF t1 (et_orF t2 t3) H eA _ fun H1 e1 => ?_
          have key : ∀ {l : List V}, (∀ u ∈ l, oneV ks u = true) → Paired (fun v x => StrR x A0 v) l (l.map strOf) := by
            intro l
            induction l with
            | nil => exact fun _ => .nil
            | cons u r ih => exact fun h => .cons (one_str (h u List.mem_cons_self)) (ih fun x m => h x (List.mem_cons_of_mem _ m))
          have sS : LsR (us.map strOf) A0 (.ref a) := ⟨a, us, rfl, hs, key fun u m => List.all_eq_true.mp al u m⟩
          have dc := ed_dcSeq (K := K) (σ := [some v, some (.ref a), none]) (tl := tVar 1) (j := 2) (vs := [2]) (er_varR (i := 1) rfl sS) (by rw [List.length_map]; omega) (fun _ => rfl) (fun _ => rfl)
          have fin : Ev (tOp rEq (tCB (fun xs H Q => ∃ (a : Addr) (kvs : List (Key × V)), xs = [V.ref a] ∧ H a = some (.dK kvs) ∧ Q (V.int ((kvs.length : Nat) : Int)) H) (tCons (tDc (iSeq K (tVar 1)) (gName 2) tYes (tVar 2) (tC (.bl true)) [2]) tNil)) (tCB (rLenS K) (tCons (tVar 1) tNil))) [some v, some (.ref a), none] A0 (.bl (decide (V.int ((once (us.map strOf)).length : Int) = V.int (us.length : Int)))) := ev_op (x := .int ((once (us.map strOf)).length : Int)) (y := .int (us.length : Int)) (fun H1 e Q q => dc H1 e (fun x H2 => ∃ a kvs, [x] = [V.ref a] ∧ H2 a = some (HO.dK kvs) ∧ Q (V.int ((kvs.length : Nat) : Int)) H2) fun D kvs H2 _ e2 hD hk => ⟨D, kvs, rfl, hD, by
            have ll : kvs.length = (once (us.map strOf)).length := by
              have := congrArg List.length hk
              simpa using this
            rw [ll]
            exact q H2 e2⟩) ln (rv_eq rfl)
          refine fin H1 (eA.trans e1) _ fun H2 e2 => ?_
          have qf := q H2 (e1.trans e2)
          have ee : decide (V.int ((once (us.map strOf)).length : Int) = V.int (us.length : Int)) = slL ks us := by
            unfold slL
            rw [decide_eq_true (p := us ≠ []) ne, al, Bool.true_and, Bool.true_and]
            rw [decide_eq_decide]
            exact ⟨fun z => by have := V.int.inj z; omega, fun z => by rw [z]⟩
          rw [← ee] at qf
          exact qf
        · rw [show us.all (id ∘ oneV ks) = false from by simpa using al] at t3
          have qf := fun H1 e1 => q H1 e1
          rw [show slL ks us = false by unfold slL; rw [show us.all (oneV ks) = false from by simpa using al]; simp] at qf
          exact et_orF t1 (et_orF t2 t3) H eA _ fun H1 e1 => qf H1 e1
end
end K07
/-! text E10 -/
set_option Elab.async false
set_option linter.all false
set_option maxRecDepth 100000
set_option maxHeartbeats 4000000
/-! parts of a heap; new families put together; least_of where tables of several lambdas stand -/
namespace K07
open PySem PySem.Spec PyProof.Rows L2 Evl PySem.W Dw Dw.DV RZ StX Lot LmV LamX NdefX
/-- the part of H at the addresses L -/
def on (L : List Addr) (H : Hp) : Hp := fun b => if b ∈ L then H b else none
theorem on_of {L : List Addr} {H : Hp} {b : Addr} {o : HO} (h : on L H b = some o) : b ∈ L ∧ H b = some o := by
  unfold on at h
  by_cases m : b ∈ L
  · rw [if_pos m] at h
    exact ⟨m, h⟩
  · rw [if_neg m] at h
    cases h
theorem on_ex {L : List Addr} {H : Hp} : Ex (on L H) H := fun b o h => (on_of h).2
theorem on_mk {L : List Addr} {H : Hp} {b : Addr} {o : HO} (m : b ∈ L) (h : H b = some o) : on L H b = some o := by
  unfold on
  rw [if_pos m]
  exact h
theorem rl_on {α : Type} {R : α → Hp → V → List Addr → Prop} {H : Hp} {L : List Addr} (m : ∀ x v M, R x H v M → (∀ a ∈ M, a ∈ L) → R x (on L H) v M) : ∀ {xs : List α} {vs : List V} {M : List Addr}, RL R H xs vs M → (∀ a ∈ M, a ∈ L) → RL R (on L H) xs vs M
  | _, _, _, .nil, _ => .nil
  | _, _, _, .cons h r, k => .cons (m _ _ _ h fun a ha => k a (List.mem_append_left _ ha)) (rl_on m r fun a ha => k a (List.mem_append_right _ ha))
theorem lsW_on {H : Hp} {v : V} {xs : List Str} {M L : List Addr} (h : LstW StrW xs H v M) (k : ∀ a ∈ M, a ∈ L) : LstW StrW xs (on L H) v M := by
  obtain ⟨a, vs, Ls, rfl, h1, h2, rfl⟩ := h
  exact ⟨a, vs, Ls, rfl, on_mk (k a List.mem_cons_self) h1, rl_on (fun x v M h _ => h) h2 fun b hb => k b (List.mem_cons_of_mem _ hb), rfl⟩
theorem llW_on {H : Hp} {v : V} {xs : List (List Str)} {M L : List Addr} (h : LlW xs H v M) (k : ∀ a ∈ M, a ∈ L) : LlW xs (on L H) v M := by
  obtain ⟨a, vs, Ls, rfl, h1, h2, rfl⟩ := h
  exact ⟨a, vs, Ls, rfl, on_mk (k a List.mem_cons_self) h1, rl_on (fun x v M h k => lsW_on h k) h2 fun b hb => k b (List.mem_cons_of_mem _ hb), rfl⟩
/-- what stands for two texts' lists is one text's list -/
theorem reps_fun {H : Hp} {vs : List V} {x y : List Str} (h : Reps H vs x) (h' : Reps H vs y) : x = y := by
  have e := (reps_str h).symm.trans (reps_str h')
  have inj : ∀ {x y : List Str}, x.map V.str = y.map V.str → x = y := by
    intro x
    induction x with
    | nil => intro y e; cases y <;> first | rfl | cases e
    | cons a r ih =>
      intro y e
      cases y with
      | nil => cases e
      | cons b s =>
        rw [List.map_cons, List.map_cons] at e
        injection e with e1 e2
        injection e1 with e1
        rw [e1, ih e2]
  exact inj e
theorem rep_fun {H : Hp} {v : V} {x y : List Str} (h : rep H v x) (h' : rep H v y) : x = y := by
  obtain ⟨a, us, rfl, h1, h2⟩ := h
  obtain ⟨b, us', e, g1, g2⟩ := h'
  cases e
  rw [h1] at g1
  cases g1
  exact reps_fun h2 g2
theorem rl_of {H : Hp} : ∀ {us : List V} {x : List Str}, Reps H us x → RL StrW H x us []
  | _, _, .nil => .nil
  | _, _, .cons h r => .cons (L := []) ⟨h, rfl⟩ (rl_of r)
theorem lsW_of {H : Hp} {v : V} {x : List Str} (h : rep H v x) : ∃ a, v = .ref a ∧ LstW StrW x H v [a] ∧ ∃ us, H a = some (.lst us) ∧ Reps H us x := by
  obtain ⟨a, us, rfl, h1, h2⟩ := h
  exact ⟨a, rfl, ⟨a, us, [], rfl, h1, rl_of h2, rfl⟩, us, h1, h2⟩
theorem rlL_of {H : Hp} : ∀ {vs : List V} {xs : List (List Str)}, Reps H vs xs → xs.Nodup → ∃ M, RL (fun l => LstW StrW l) H xs vs M ∧ M.Nodup ∧ ∀ b ∈ M, ∃ l ∈ xs, rep H (.ref b) l
  | _, _, .nil, _ => ⟨[], .nil, .nil, fun _ m => by cases m⟩
  | _, _, .cons (b := x) h r, nd => by
    obtain ⟨nx, nd⟩ := List.nodup_cons.mp nd
    obtain ⟨M, h1, h2, h3⟩ := rlL_of r nd
    obtain ⟨b, rfl, g1, _⟩ := lsW_of h
    refine ⟨[b] ++ M, .cons g1 h1, List.nodup_cons.mpr ⟨fun m => ?_, h2⟩, fun c m => ?_⟩
    · obtain ⟨l, hl, rl⟩ := h3 b m
      rw [rep_fun h rl] at nx
      exact nx hl
    · rcases List.mem_cons.mp m with y | y
      · rw [y]
        exact ⟨x, List.mem_cons_self, h⟩
      · obtain ⟨l, hl, rl⟩ := h3 c y
        exact ⟨l, List.mem_cons_of_mem _ hl, rl⟩
/-- lots, all different: no list of them stands twice -/
theorem llW_of {H : Hp} {v : V} {xs : List (List Str)} (h : rep H v xs) (nd : xs.Nodup) : ∃ M, LlW xs H v M ∧ M.Nodup ∧ ∀ b ∈ M, ∃ o, H b = some o := by
  obtain ⟨a, vs, rfl, h1, h2⟩ := h
  obtain ⟨M, g1, g2, g3⟩ := rlL_of h2 nd
  refine ⟨a :: M, ⟨a, vs, M, rfl, h1, g1, rfl⟩, List.nodup_cons.mpr ⟨fun m => ?_, g2⟩, fun b m => ?_⟩
  · obtain ⟨l, hl, a', us, e, k1, k2⟩ := g3 a m
    cases e
    rw [h1] at k1
    cases k1
    cases h2 with
    | nil => cases hl
    | cons x r =>
      obtain ⟨c, ws, rfl, _⟩ := x
      have q := reps_str k2
      cases l with
      | nil => cases q
      | cons y t =>
        rw [List.map_cons] at q
        injection q with q1 _
        cases q1
  · rcases List.mem_cons.mp m with y | y
    · rw [y]
      exact ⟨_, h1⟩
    · obtain ⟨l, _, c, us, e, k1, _⟩ := g3 b y
      cases e
      exact ⟨_, k1⟩
/-- a family of keepers and lots that have no list in common -/
theorem fmW_of {B5 B6 H : Hp} {v5 v6 : V} {ks : List Str} {ls : List (List Str)} {T : Addr} (r5 : rep B5 v5 ks) (r6 : rep B6 v6 ls) (nd : ls.Nodup) (dj : ∀ b o u, B5 b = some o → B6 b = some u → False) (e5 : Ex B5 H) (e6 : Ex B6 H) (nT : H T = none) :
    ∃ L, FmW (ks, ls) (upd (jn B5 B6) T (.tup [v5, v6])) (.ref T) L ∧ L.Nodup ∧ ∀ a ∈ L, ∃ o, (upd (jn B5 B6) T (.tup [v5, v6])) a = some o := by
  obtain ⟨a, rfl, h1, us, h2, _⟩ := lsW_of r5
  obtain ⟨M, g1, g2, g3⟩ := llW_of r6 nd
  have nJ : (jn B5 B6) T = none := exf (jn_ex e5 e6) nT
  have x5 : Ex B5 (upd (jn B5 B6) T (.tup [.ref a, v6])) := jn_l.trans (Ex.new nJ)
  have x6 : Ex B6 (upd (jn B5 B6) T (.tup [.ref a, v6])) := (jn_r e5 e6).trans (Ex.new nJ)
  refine ⟨[a] ++ M, ⟨T, .ref a, v6, [a], M, rfl, upd_same, lstW_mon strW_mon _ _ _ _ x5 h1, llW_mon _ _ _ _ _ x6 g1, rfl⟩, List.nodup_cons.mpr ⟨fun m => ?_, g2⟩, fun b m => ?_⟩
  · obtain ⟨o, ho⟩ := g3 a m
    exact dj _ _ _ h2 ho
  · rcases List.mem_cons.mp m with y | y
    · rw [y]
      exact ⟨_, x5 _ _ h2⟩
    · obtain ⟨o, ho⟩ := g3 b y
      exact ⟨_, x6 _ _ ho⟩
/-! ### steps: what a step tells stands on N, or is new -/
section
variable {α β γ : Type} [DecidableEq α] [Datum α] [DV α] [DecidableEq β] [Datum β] [DV β] {K : PySem.W.Frag} {σ : L2.St} {H A A0 H0 N : Hp} {te : TE} {D : Ends}
theorem b_asgN {x : α} {i : Nat} {tz : TS} (B : Bs A0 H0 A H) (eN : Ex N A) (h : EvD te σ N x) (k : ∀ v Hs H1, Bs A0 H0 (jn A Hs) H1 → Ex H H1 → Sup N H H1 Hs → rep Hs v x → tz D (σ.set i (some v)) H1) : tSeq (tAsg te (gName i)) tz D σ H := h H (eN.trans B.h) _ fun v H1 Hs e s r =>
  k v Hs H1 (B.go e ⟨s.e, fun b u z => (s.o b u z).imp (eN b u) id⟩) e s r
end
/-! ### least_of, the tables T of all lambdas standing -/
theorem tabs_but {T : List (Addr × Str)} {H H' : Hp} {D : Addr} {xs : List V} (r : Tabs T H) (hD : H D = some (.lst xs)) (k : ∀ b o, b ≠ D → H b = some o → H' b = some o) : Tabs T H' := fun p hp => by
  obtain ⟨ps, g1, g2, g3⟩ := r p hp
  refine ⟨ps, k _ _ (fun z => ?_) g1, g2, fun pos' cv' hc => ?_⟩
  · rw [z, hD] at g1
    cases g1
  obtain ⟨c0, e1, e2⟩ := g3 pos' cv' hc
  refine ⟨c0, e1, k _ _ (fun z => ?_) e2⟩
  rw [z, hD] at e2
  unfold CodeO at e2
  cases e2
/-- nothing but tables changed, the tables T stand -/
structure Lt (T : List (Addr × Str)) (H H' : Hp) : Prop where
  n : ExtN H H'
  t : Tabs T H'
theorem Lt.of {T : List (Addr × Str)} {H H' : Hp} (t : Tabs T H) (e : Ex H H') : Lt T H H' := ⟨ExtN.of e, t.ext e⟩
theorem Lt.trans {T : List (Addr × Str)} {H H1 H2 : Hp} (a : Lt T H H1) (b : Lt T H1 H2) : Lt T H H2 := ⟨a.n.trans b.n, b.t⟩
theorem Lt.go {T : List (Addr × Str)} {H H1 H2 : Hp} (a : Lt T H H1) (e : Ex H1 H2) : Lt T H H2 := ⟨a.n.trans (ExtN.of e), a.t.ext e⟩
theorem nt_mono {H H' : Hp} (e : ExtN H H') : Ex (nt H) (nt H') := fun b o h => nt_mk (e _ _ (nt_of h).1 (nt_of h).2) (nt_of h).2
theorem nt_sub {H : Hp} : Ex (nt H) H := fun b o h => (nt_of h).1
/-- the end of least_of and its like -/
def EndL {γ : Type} [DecidableEq γ] [Datum γ] [DV γ] (T : List (Addr × Str)) (A H : Hp) (x : γ) (Q : VK) : Prop := ∀ u H' Hs, Lt T H H' → Sup (nt A) (nt H) H' Hs → rep Hs u x → Q u H'
section
variable {P : Program} {w : World} {K : PySem.W.Frag} {mg : Str → Option Value} {base : Heap} {f : Addr} {fd : FuncData} {fH : Addr} {dH : FuncData}
def spLeastT (T : List (Addr × Str)) : Sp := fun vs H Q _ => ∃ v xs A, vs = [v] ∧ Ex A H ∧ Tabs T H ∧ rep A v xs ∧ (xs.length ≤ 1000 ∧ ∀ l ∈ xs, l.length ≤ 100) ∧ EndL T A H (leastOf xs) Q
theorem ok_leastT {T : List (Addr × Str)} {Pt : Addr} (F : FnP K "least_of" (top 25) f fd) (B : Bn mg) (HO : Df K mg "holds" 21 fH dH) (hT : ∀ c, fd.code = .ref c → TabB base mg c Pt) (hm : (Pt, lmQ) ∈ T) (hu : ∀ p ∈ T, p.1 = Pt → p.2 = lmQ) : FnOk P w K mg base CX0 2 f fd ["lots"] (spLeastT T) := by
  have GH : FnOk P w K mg base CX0 1 fH dH ["lot", "other"] spHolds := ok_holds HO.F B.all
  have bH : Binds K dH ["lot", "other"] [] := HO.F.bindsN fun _ _ _ _ _ _ us hl => match us, hl with | [_, _], _ => rfl
  refine okC F scLeast (fun vs H Q E h => ?_) (fun c A0 outer s H vs Q E hc hr h => ?_)
  · obtain ⟨v, _, _, rfl, _⟩ := h
    rfl
  · obtain ⟨v, xs, A, rfl, eA, tt, hv, ⟨hl, hl2⟩, q⟩ := h
    refine ⟨_, PSs.nox (pss_cons (ps_set (i := 1) scLeast.nd rfl (.inl rfl) (pe_lst pa_nil))
      (pss_cons (ps_for PassesOwn.never rfl (pi_list (pe_callBK (cr_sortedKeyW hr B.len) (by rfl) B.sorted (by decide +kernel) (pa_cons (pv 0) pa_nil) (pk_cons (pe_lamV (T := T) (q := lmQ) (hT c hc) rfl rfl hm hu rfl (by decide +kernel)) pk_nil))) (pg_name (i := 2) scLeast.nd rfl (.inr rfl))
        (pss_one (ps_if (pt_not (pt_val (pe_callB (cr_any rfl) (by rfl) B.any (by decide +kernel) (pa_cons (pe_lc (own := [("other", 3)]) (g := gName 3) (tt := tYes) (te := tCall spHolds [] E0 (tCons (tVar 2) (tCons (tVar 3) tNil))) rfl scLeast.nd (pi_list (pv 1)) (blkOk_by (N := NLeast) (sc := defScope (top 25)) (by decide +kernel))
            (fun _ _ _ _ _ => pg_name (i := 3) scLeast.nd rfl (.inl rfl)) (fun _ _ _ _ _ => pts_nil) (fun _ _ _ _ _ => pe_call GH hr (by rfl) HO.g HO.F.kp bH .nil pass0 (pa_cons (pv 2) (pa_cons (pv 3) pa_nil)))) pa_nil))))
          (pss_one (ps_expr (pe_bm PySem.F.plainAttrs_list PySem.F.slot_list_append PySem.F.type_list_append mt_append (pv 1) (pa_cons (pv 2) pa_nil)))) pss_nil)))
      (pss_one (ps_ret (pe_callB (cr_sortedW (α := List Str) (fun _ _ z => by cases z) (uK hr)) (by rfl) B.sorted (by decide +kernel) (pa_cons (pv 1) pa_nil)))))), ?_⟩
    refine ⟨by show 0 ≤ sizeLine; decide, fun D nD => ?_⟩
    obtain ⟨la, ln, el, h1, h2⟩ := hv
    subst el
    have e2 : Ex H (upd H D (.lst [])) := Ex.new nD
    refine ⟨.ref la, rfl, ?_⟩
    have AD : A D = none := exf eA nD
    refine ⟨tt.ext e2, fun fl c' H2 eN nn R nf hf hc' => ?_⟩
    have e3 : ExtN H H2 := (ExtN.of e2).trans eN
    have A2 : Ex (nt A) H2 := nt_ex eA e3
    have D2 : H2 D = some (.lst []) := eN _ _ upd_same (fun _ z => by cases z)
    refine ⟨la, fl, _, xs, nt A, rfl, rfl, ⟨rfl, rfl, ⟨_, rfl⟩, _, _, _, _, _, _, rfl⟩, hf, hc', A2, DVN.extN (nt_ext A) ⟨la, ln, rfl, h1, h2⟩, fun p ws np hr => ?_⟩
    have pH2 : (upd H D (.lst [])) p = none := nn p np
    have Dp : D ≠ p := fun z => by
      rw [← z, D2] at np
      cases np
    have pH : H p = none := by
      rw [upd_ne Dp.symm] at pH2
      exact pH2
    have Ap : (nt A) p = none := exf A2 np
    refine ⟨p, rfl, ⟨ws, sq_of upd_same⟩, ?_⟩
    refine least_loop (A1 := upd (nt A) p (.lst ws)) (ws := ws) (xs := xs) ?_ (fun b o z => ?_) ?_ upd_same (Reps.ext (Ex.new Ap) hr) hl hl2 fun u H' Hs k1 k2 k3 k4 k5 => ?_
    · rw [upd_ne Dp]
      exact D2
    · by_cases y : b = p
      · rw [y, upd_same] at z ⊢
        exact z
      · rw [upd_ne y] at z ⊢
        exact A2 _ _ z
    · rw [upd_ne Dp]
      cases z : nt A D with
      | none => rfl
      | some o =>
        rw [(nt_of z).1] at AD
        cases AD
    · have up : ∀ b o, b ≠ D → H2 b = some o → H' b = some o := fun b o n z => k1 b o n (by rw [upd_ne (fun y => by rw [y, np] at z; cases z)]; exact z)
      refine q u H' Hs ⟨fun b o z n => up b o (ne_of_none z nD) (e3 _ _ z n), tabs_but R D2 up⟩ ⟨k3, fun b o z => ?_⟩ k5
      rcases k4 b o z with y | y | y
      · by_cases w : b = p
        · rw [w]
          exact .inr (exf nt_sub pH)
        · rw [upd_ne w] at y
          exact .inl y
      · rw [y]
        exact .inr (exf nt_sub nD)
      · right
        have bp : b ≠ p := fun w => by
          rw [w, upd_same] at y
          cases y
        rw [upd_ne bp] at y
        cases m : nt H b with
        | none => rfl
        | some o' =>
          rw [e3 _ _ (nt_of m).1 (nt_of m).2] at y
          cases y
end
end K07
/-! text E11 -/
set_option Elab.async false
set_option linter.all false
set_option maxRecDepth 100000
set_option maxHeartbeats 4000000
/-! less_keeper, fallen_family of what is given loosely: told new, or LastKeeper, NoLots -/
namespace K07
open PySem PySem.Spec PyProof.Rows L2 Evl PySem.W Dw Dw.DV RZ StX Lot LmV LamX NdefX
section
variable {P : Program} {w : World} {K : PySem.W.Frag} {mg : Str → Option Value} {base : Heap} {f : Addr} {fd : FuncData} {fL fN f1 fK fS fO fH fF fT : Addr} {dL dN d1 dK dS dO dH dF dT : FuncData} {fC fW Pt : Addr} {dC dW : FuncData} {fQ fR CN CL : Addr} {dQ dR : FuncData}
def spLessG (CL : Addr) : Sp := fun vs H Q E => ∃ (v u : V) (ks : List Str) (x : Str) (A : Hp), vs = [v, u] ∧ Ex A H ∧ rep A v ks ∧ rep A u x ∧ ks.length ≤ 100 ∧ (ks.length = 1 → ∀ H', Ex H H' → E (.ref CL) none H') ∧ (ks.length ≠ 1 → EndD A H (drop1 x ks) Q)
theorem ok_lessG (F : FnP K "less_keeper" (top 32) f fd) (B : Bn mg) (LK : NoX K mg "LastKeeper" CL) : FnOk P w K mg base (L2.CX P w) 1 f fd ["keepers", "name"] (spLessG CL) := by
  refine F.ok scLess (fun vs H Q E h => ?_) (fun cdv A outer s H vs Q E hr h => ?_)
  · obtain ⟨v, u, _, _, _, rfl, _⟩ := h
    rfl
  · obtain ⟨v, u, ks, x, A0, rfl, eA, hv, hu, hl, q1, q2⟩ := h
    refine ⟨_, (pss_cons (ps_if (pt_cmpR op_eq (pe_callB call_len_seq (by rfl) B.len PySem.boot_len (pa_cons (pv 0) pa_nil)) pe_int (nomark _)) (pss_one (ps_raise rfl (takes_of rfl rfl rfl rfl) (pmk_own0 LK (by exact rfl)))) pss_nil)
      (pss_one (ps_ret (pe_lc (own := [("one", 2)]) (g := gName 2) (te := tVar 2) rfl scLess.nd (pi_list (pv 0)) (blkOk_by (N := ["keepers", "name", "one"]) (sc := defScope (top 32)) (by decide +kernel))
        (fun _ _ _ _ _ => pg_name (i := 2) scLess.nd rfl (.inl rfl)) (fun _ _ _ _ _ => pts_one (pt_cmpR (op_neW (α := Str) (uT hr)) (pv 2) (pv 1) (by rfl))) (fun _ _ _ _ _ => pv 2))))), ?_⟩
    have e0 : EvD (tVar 0) [some v, some u, none] A0 ks := ed_var rfl hv
    have t : EvT (tTest (tOp rEq (tCB (rLenS K) (tCons (tVar 0) tNil)) (tC (.int 1)))) [some v, some u, none] A0 (decide (V.int (ks.length : Int) = V.int 1)) := et_test (ev_op (ev_lenD e0) ev_c (rv_eq rfl))
    refine b_seqIf (Bs.start eA) t (fun z H1 B1 => ?_) fun z H1 B1 => ?_
    · have e := V.int.inj (of_decide_eq_true z)
      exact q1 (by omega) H1 B1.e
    · have ne : ks.length ≠ 1 := fun e => (of_decide_eq_false z) (by rw [e]; rfl)
      have lc := ed_lc (K := K) (σ := [some v, some u, none]) (H := A0) (tl := tVar 0) (tt := tTest (tOp (rEqW Str true) (tVar 2) (tVar 1))) (te := tVar 2) (j := 2) (vs := [2]) (fun y : Str => decide (y ≠ x)) (fun y : Str => y) e0 (by omega) (fun _ => rfl)
        (fun y z H1 e _ r => et_test (ev_neD (ed_var (i := 2) (v := z) rfl r) (ed_var (i := 1) (v := u) rfl (DV.ext e hu)))) fun y z H1 _ _ r _ => ed_var (i := 2) (v := z) rfl r
      rw [List.map_id', show (ks.filter fun y => decide (y ≠ x)) = drop1 x ks from List.filter_congr fun y _ => by simp] at lc
      exact b_ret B1 lc (q2 ne)
/-- a right family, one of its keepers -/
structure Kpr (F : FamT) (x : Str) : Prop where
  g : GoodF goodName F
  m : x ∈ F.1
def spFallL (CL CN : Addr) : Sp := fun vs H Q E => ∃ (v u : V) (F : FamT) (x : Str) (A : Hp), vs = [v, u] ∧ Ex A H ∧ FmR F A v ∧ rep A u x ∧ Kpr F x ∧ (F.1.length = 1 → ∀ H', Ex H H' → E (.ref CL) none H') ∧ (F.1.length ≠ 1 → fall x F.2 = [] → ∀ H', Ex H H' → E (.ref CN) none H') ∧
  (F.1.length ≠ 1 → fall x F.2 ≠ [] → EndN H (FmW (drop1 x F.1, fall x F.2)) Q)
theorem good_nodup {F : FamT} (g : GoodF goodName F) : F.2.Nodup := g.asc.nodup (lex_tot sl_tot)
abbrev NFall2 : List Str := ["family", "keeper", "keepers", "lots", "name", "rest", "left", "lot"]
theorem scFall2 : FnScope NFall2 ["family", "keeper"] (defScope (top 33)) := ⟨rfl, rfl, rfl, by decide +kernel, rfl, by decide +kernel, by decide +kernel⟩
theorem ok_fallL (F : FnP K "fallen_family" (top 33) f fd) (B : Bn mg) (Z : Fs K mg fL fN f1 fK fS fO fH fF fT dL dN d1 dK dS dO dH dF dT) (CH : Df K mg "checked_family" 24 fC dC) (NL : NoX K mg "NoLots" CN) (LK : NoX K mg "LastKeeper" CL)
    (KN : Df K mg "known_keeper" 30 fQ dQ) (LE : Df K mg "less_keeper" 32 fR dR) : FnOk P w K mg base (L2.CX P w) 6 f fd ["family", "keeper"] (spFallL CL CN) := by
  have GC : FnOk P w K mg base CX0 5 fC dC ["family"] spChkL := ok_chkL CH.F B Z
  have bC : Binds K dC ["family"] [] := CH.F.bindsN fun _ _ _ _ _ _ us hl => match us, hl with | [_], _ => rfl
  have GQ : FnOk P w K mg base CX0 2 fQ dQ ["keepers", "keeper"] spKnown := ok_known KN.F B Z
  have bQ : Binds K dQ ["keepers", "keeper"] [] := KN.F.bindsN fun _ _ _ _ _ _ us hl => match us, hl with | [_, _], _ => rfl
  have GR : FnOk P w K mg base (L2.CX P w) 1 fR dR ["keepers", "name"] (spLessG CL) := ok_lessG LE.F B LK
  have bR : Binds K dR ["keepers", "name"] [] := LE.F.bindsN fun _ _ _ _ _ _ us hl => match us, hl with | [_, _], _ => rfl
  refine F.ok scFall2 (fun vs H Q E h => ?_) (fun cdv A outer s H vs Q E hr h => ?_)
  · obtain ⟨v, u, _, _, _, rfl, _⟩ := h
    rfl
  · obtain ⟨v, u, F, x, A0, rfl, eA, hv, hu, O, ql, qn, qs⟩ := h
    refine ⟨_, (pss_cons (ps_asg (pe_call GC hr (by rfl) CH.g CH.F.kp bC .nil pass0 (pa_cons (pv 0) pa_nil)) (pg_tup rfl (pgs_cons (pg_name (i := 2) scFall2.nd rfl (.inl rfl)) (pgs_cons (pg_name (i := 3) scFall2.nd rfl (.inl rfl)) pgs_nil))))
      (pss_cons (ps_set (i := 4) scFall2.nd rfl (.inr rfl) (pe_call GQ (hr.mono (by decide)) (by rfl) KN.g KN.F.kp bQ .nil pass0 (pa_cons (pv 2) (pa_cons (pv 1) pa_nil))))
      (pss_cons (ps_set (i := 5) scFall2.nd rfl (.inl rfl) (pe_call GR (hr.mono (by decide)) (by rfl) LE.g LE.F.kp bR .nil (passes_call (takes_of rfl rfl rfl rfl) fun _ _ _ _ h => h) (pa_cons (pv 2) (pa_cons (pv 4) pa_nil))))
      (pss_cons (ps_setLc (i := 6) (own := [("lot", 7)]) (g := gName 7) (te := tVar 7) rfl scFall2.nd rfl rfl (sw_true rfl rfl (by rfl) (by rfl)) (pi_list (pv 3)) (blkOk_by (N := NFall2) (sc := defScope (top 33)) (by decide +kernel))
        (fun _ _ _ _ _ => pg_name (i := 7) scFall2.nd rfl (.inl rfl)) (fun _ _ _ _ _ => pts_one (pt_cmpR (op_notInW (α := Str) (uS hr)) (pv 4) (pv 7) (by rfl))) (fun _ _ _ _ _ => pv 7))
      (pss_cons (ps_if (pt_cmpR (op_eqW (α := List (List Str)) (uLL hr)) (pv 6) (pe_lst pa_nil) (by rfl))
        (pss_one (ps_raise rfl (takes_of rfl rfl rfl rfl) (pmk_own0 NL (by exact rfl)))) pss_nil)
      (pss_one (ps_ret (pe_tup (pa_cons (pv 5) (pa_cons (pv 6) pa_nil)))))))))), ?_⟩
    refine ⟨v, rfl, v, F, A0, rfl, eA, hv, O.g, fun u2 H2 Hs L e2 s2 o2 r2 n2 d2 => ?_⟩
    obtain ⟨T, v2, v3, L1, L2, rfl, hT, r2a, r2b, rfl⟩ := r2
    obtain ⟨nd1, nd2, nd3⟩ := List.nodup_append.mp n2
    refine ⟨T, [v2, v3], rfl, .inl (.inl (s2 _ _ hT)), rfl, v2, [v3], rfl, v3, [], rfl, rfl, ?_⟩
    have p2 : rep (on L1 Hs) v2 F.1 := lsW_rep (lsW_on r2a fun a m => m)
    have p3 : rep (on L2 Hs) v3 F.2 := llW_rep (llW_on r2b fun a m => m)
    have B2 : Bs A0 H (jn A0 Hs) H2 := (Bs.start eA).go e2 ⟨s2, fun b u z => .inr (o2 b u z)⟩
    have x2 : Ex Hs (jn A0 Hs) := jn_r (eA.trans e2) s2
    have u0 : u = .str x := hu
    subst u0
    refine b_asg B2 (ed_call2 (E := E0) (P := fun (ks : List Str) (x : Str) => x ∈ ks) (f := fun _ x => x) (ed_var (i := 2) (σ := [some v, some (.str x), some v2, some v3, none, none, none, none]) rfl (DV.ext (on_ex.trans x2) p2)) (ed_var (i := 1) (x := x) rfl rfl) O.m) fun v4 A4 H4 B4 eA4 r4 => ?_
    have u4 : v4 = .str x := r4
    subst u4
    have y2 : Ex Hs A4 := x2.trans eA4
    refine ⟨v2, rfl, .str x, rfl, v2, .str x, F.1, x, on L1 Hs, rfl, on_ex.trans (y2.trans B4.h), p2, rfl, O.g.ks.len, fun e H5 e5 => ql e H5 (B4.e.trans e5), fun ne u5 H5 B5 e5 s5 r5 => ?_⟩
    have BB5 : Bs A0 H (jn A4 B5) H5 := B4.go e5 ⟨s5.e, fun b o z => (s5.o b o z).imp (fun y => y2 _ _ (on_of y).2) id⟩
    have y3 : Ex (on L2 Hs) (jn A4 B5) := (on_ex.trans y2).trans jn_l
    have hl := O.g.len
    have lc := ed_lc (K := K) (σ := [some v, some (.str x), some v2, some v3, some (.str x), some u5, none, none]) (H := on L2 Hs) (tl := tVar 3) (tt := tTest (tOp (rInW Str true) (tVar 4) (tVar 7))) (te := tVar 7) (j := 7) (vs := [7]) (fun l : List Str => decide (x ∉ l)) (fun l : List Str => l) (ed_var (v := v3) rfl p3) (by omega) (fun _ => rfl)
      (fun l z H1 e _ r => et_test (ev_notInD (ed_var (i := 4) (v := .str x) (x := x) rfl rfl) (ed_var (i := 7) (v := z) rfl r))) fun l z H1 _ _ r _ => ed_var (i := 7) (v := z) rfl r
    rw [List.map_id', fall_eq] at lc
    refine b_asgN BB5 y3 lc fun v6 B6 H6 BB6 e6 s6 r6 => ?_
    have eB6 : Ex B6 (jn (jn A4 B5) B6) := jn_r (BB5.h.trans e6) s6.e
    have e6v : EvD (tVar 6) [some v, some (.str x), some v2, some v3, some (.str x), some u5, some v6, none] (jn (jn A4 B5) B6) (fall x F.2) := ed_var rfl (DV.ext eB6 r6)
    refine b_seqIf BB6 (et_test (ev_eqD e6v (ed_lst (xs := ([] : List (List Str))) eda_nil (by decide)))) (fun z H7 B7 => ?_) (fun z H7 B7 => ?_)
    · exact qn ne (of_decide_eq_true z) H7 B7.e
    · refine ⟨u5, rfl, v6, rfl, by show 2 ≤ sizeLine; decide, fun T2 nT2 => ?_⟩
      have x5 : Ex B5 (jn A4 B5) := jn_r (B4.h.trans e5) s5.e
      have e67 : Ex B6 H7 := eB6.trans B7.h
      have e57 : Ex B5 H7 := (x5.trans jn_l).trans B7.h
      have dj : ∀ b o u, B5 b = some o → B6 b = some u → False := fun b o u h5 h6 => by
        rcases s5.o b o h5 with y | y
        · obtain ⟨m1, k1⟩ := on_of y
          rcases s6.o b u h6 with w | w
          · exact nd3 b m1 b (on_of w).1 rfl
          · rw [e5 _ _ (B4.h _ _ (y2 _ _ k1))] at w
            cases w
        · rcases s6.o b u h6 with w | w
          · rw [B4.h _ _ (y2 _ _ (on_of w).2)] at y
            cases y
          · rw [s5.e _ _ h5] at w
            cases w
      have nd : (fall x F.2).Nodup := by
        rw [← fall_eq]
        exact (good_nodup O.g).filter _
      obtain ⟨M, w1, w2, w3⟩ := fmW_of r5 r6 nd dj e57 e67 nT2
      refine qs ne (of_decide_eq_false z) (.ref T2) _ _ M (B7.e.trans (Ex.new nT2)) (upd_ex2 (jn_ex e57 e67)) (fun b o h => ?_) w1 w2 w3
      by_cases y : b = T2
      · rw [y]
        exact exf B7.e nT2
      · rw [upd_ne y] at h
        rcases jn_of h with w | w
        · rcases s5.o b o w with k | k
          · exact o2 b o (on_of k).2
          · exact exf B4.e k
        · rcases s6.o b o w with k | k
          · exact o2 b o (on_of k).2
          · exact exf BB5.e k
end
end K07
/-! text E12 -/
set_option Elab.async false
set_option linter.all false
set_option maxRecDepth 100000
set_option maxHeartbeats 4000000
/-! trusted_family of what is given loosely: told new, or LastKeeper, NoLots -/
namespace K07
open PySem PySem.Spec PyProof.Rows L2 Evl PySem.W Dw Dw.DV RZ StX Lot LmV LamX NdefX
/-- the end of a def that tells something new; the tables T may grow -/
def EndNT (T : List (Addr × Str)) (H : Hp) (R : Hp → V → List Addr → Prop) (Q : VK) : Prop := ∀ u H' Hs L, Lt T H H' → Ex Hs H' → (∀ b o, Hs b = some o → nt H b = none) → R Hs u L → L.Nodup → (∀ a ∈ L, ∃ o, Hs a = some o) → Q u H'
theorem EndNT.of {T : List (Addr × Str)} {H : Hp} {R : Hp → V → List Addr → Prop} {Q : VK} (t : Tabs T H) (q : EndNT T H R Q) : EndN H R Q := fun u H' Hs L e s o r n d => q u H' Hs L (Lt.of t e) s (fun b x z => exf nt_sub (o b x z)) r n d
section
variable {P : Program} {w : World} {K : PySem.W.Frag} {mg : Str → Option Value} {base : Heap} {f : Addr} {fd : FuncData} {fL fN f1 fK fS fO fH fF fT : Addr} {dL dN d1 dK dS dO dH dF dT : FuncData} {fC fW Pt : Addr} {dC dW : FuncData} {fQ fR CN CL : Addr} {dQ dR : FuncData} {T : List (Addr × Str)}
def spTrustL (T : List (Addr × Str)) (CL CN : Addr) : Sp := fun vs H Q E => ∃ (v u : V) (F : FamT) (x : Str) (A : Hp), vs = [v, u] ∧ Ex A H ∧ Tabs T H ∧ FmR F A v ∧ rep A u x ∧ Kpr F x ∧ (F.1.length = 1 → ∀ H', Ex H H' → E (.ref CL) none H') ∧ (F.1.length ≠ 1 → [] ∈ trust x F.2 → ∀ H', Ex H H' → E (.ref CN) none H') ∧
  (F.1.length ≠ 1 → ¬ [] ∈ trust x F.2 → EndNT T H (FmW (drop1 x F.1, leastOf (trust x F.2))) Q)
theorem trust_nodup {F : FamT} {x : Str} (O : Kpr F x) : (leastOf (trust x F.2)).Nodup := (least_min (xs := trust x F.2) fun l m => by
  obtain ⟨a, ha, rfl⟩ := List.mem_map.mp m
  exact (O.g.lots a ha).asc.filter _).asc.nodup (lex_tot sl_tot)
/-- what is asked of least_of's table -/
structure LeT (base : Heap) (mg : Str → Option Value) (T : List (Addr × Str)) (Pt : Addr) (dW : FuncData) : Prop where
  t : ∀ c, dW.code = .ref c → TabB base mg c Pt
  m : (Pt, lmQ) ∈ T
  u : ∀ p ∈ T, p.1 = Pt → p.2 = lmQ
abbrev NTrust2 : List Str := ["family", "keeper", "keepers", "lots", "name", "rest", "left", "lot", "one"]
theorem scTrust2 : FnScope NTrust2 ["family", "keeper"] (defScope (top 34)) := ⟨rfl, rfl, rfl, by decide +kernel, rfl, by decide +kernel, by decide +kernel⟩
abbrev scTrustI2 : Scope := { kind := .function, names := [(".0", .local), ("lot", .local), ("name", .cell)], isGenerator := false, isCoroutine := false }
theorem ok_trustL (F : FnP K "trusted_family" (top 34) f fd) (B : Bn mg) (Z : Fs K mg fL fN f1 fK fS fO fH fF fT dL dN d1 dK dS dO dH dF dT) (CH : Df K mg "checked_family" 24 fC dC) (LO : Df K mg "least_of" 25 fW dW) (Lm : LeT base mg T Pt dW) (NL : NoX K mg "NoLots" CN) (LK : NoX K mg "LastKeeper" CL)
    (KN : Df K mg "known_keeper" 30 fQ dQ) (LE : Df K mg "less_keeper" 32 fR dR) : FnOk P w K mg base (L2.CX P w) 6 f fd ["family", "keeper"] (spTrustL T CL CN) := by
  have GC : FnOk P w K mg base CX0 5 fC dC ["family"] spChkL := ok_chkL CH.F B Z
  have bC : Binds K dC ["family"] [] := CH.F.bindsN fun _ _ _ _ _ _ us hl => match us, hl with | [_], _ => rfl
  have GQ : FnOk P w K mg base CX0 2 fQ dQ ["keepers", "keeper"] spKnown := ok_known KN.F B Z
  have bQ : Binds K dQ ["keepers", "keeper"] [] := KN.F.bindsN fun _ _ _ _ _ _ us hl => match us, hl with | [_, _], _ => rfl
  have GR : FnOk P w K mg base (L2.CX P w) 1 fR dR ["keepers", "name"] (spLessG CL) := ok_lessG LE.F B LK
  have bR : Binds K dR ["keepers", "name"] [] := LE.F.bindsN fun _ _ _ _ _ _ us hl => match us, hl with | [_, _], _ => rfl
  have GW : FnOk P w K mg base CX0 2 fW dW ["lots"] (spLeastT T) := ok_leastT LO.F B Z.HO Lm.t Lm.m Lm.u
  have bW : Binds K dW ["lots"] [] := LO.F.bindsN fun _ _ _ _ _ _ us hl => match us, hl with | [_], _ => rfl
  refine F.ok scTrust2 (fun vs H Q E h => ?_) (fun cdv A outer s H vs Q E hr h => ?_)
  · obtain ⟨v, u, _, _, _, rfl, _⟩ := h
    rfl
  · obtain ⟨v, u, F, x, A0, rfl, eA, tt, hv, hu, O, ql, qn, qs⟩ := h
    refine ⟨_, (pss_cons (ps_asg (pe_call GC hr (by rfl) CH.g CH.F.kp bC .nil pass0 (pa_cons (pv 0) pa_nil)) (pg_tup rfl (pgs_cons (pg_name (i := 2) scTrust2.nd rfl (.inl rfl)) (pgs_cons (pg_name (i := 3) scTrust2.nd rfl (.inl rfl)) pgs_nil))))
      (pss_cons (ps_set (i := 4) scTrust2.nd rfl (.inr rfl) (pe_call GQ (hr.mono (by decide)) (by rfl) KN.g KN.F.kp bQ .nil pass0 (pa_cons (pv 2) (pa_cons (pv 1) pa_nil))))
      (pss_cons (ps_set (i := 5) scTrust2.nd rfl (.inl rfl) (pe_call GR (hr.mono (by decide)) (by rfl) LE.g LE.F.kp bR .nil (passes_call (takes_of rfl rfl rfl rfl) fun _ _ _ _ h => h) (pa_cons (pv 2) (pa_cons (pv 4) pa_nil))))
      (pss_cons (ps_setLc (i := 6) (own := [("lot", 7)]) (g := gName 7) (tt := tYes) (te := tLc (iList K (tVar 7)) (gName 8) (tTest (tOp (rEqW Str true) (tVar 8) (tVar 4))) (tVar 8) [8]) rfl scTrust2.nd rfl rfl (sw_true rfl rfl (by rfl) (by rfl)) (pi_list (pv 3)) (blkOk_by (N := NTrust2) (sc := defScope (top 34)) (by decide +kernel))
        (fun _ _ _ _ _ => pg_name (i := 7) scTrust2.nd rfl (.inl rfl)) (fun _ _ _ _ _ => pts_nil)
        (fun _ _ _ _ _ => pe_lc (own := [("one", 8)]) (g := gName 8) (tt := tTest (tOp (rEqW Str true) (tVar 8) (tVar 4))) (te := tVar 8) rfl scTrust2.nd (pi_list (pv 7)) (blkOk_by (N := NTrust2) (sc := scTrustI2) (by decide +kernel))
          (fun _ _ _ _ _ => pg_name (i := 8) scTrust2.nd rfl (.inl rfl)) (fun _ _ _ _ _ => pts_one (pt_cmpR (op_neW (α := Str) (uT hr)) (pv 8) (pv 4) (by rfl))) (fun _ _ _ _ _ => pv 8)))
      (pss_cons (ps_if (pt_cmpR (op_inW (α := List Str) (uLL1 hr)) (pe_lst pa_nil) (pv 6) (by rfl))
        (pss_one (ps_raise rfl (takes_of rfl rfl rfl rfl) (pmk_own0 NL (by exact rfl)))) pss_nil)
      (pss_one (ps_ret (pe_tup (pa_cons (pv 5) (pa_cons (pe_call GW (hr.mono (by decide)) (by rfl) LO.g LO.F.kp bW .nil pass0 (pa_cons (pv 6) pa_nil)) pa_nil)))))))))), ?_⟩
    refine ⟨v, rfl, v, F, A0, rfl, eA, hv, O.g, fun u2 H2 Hs L e2 s2 o2 r2 n2 d2 => ?_⟩
    obtain ⟨T0, v2, v3, L1, L2, rfl, hT, r2a, r2b, rfl⟩ := r2
    obtain ⟨nd1, nd2, nd3⟩ := List.nodup_append.mp n2
    refine ⟨T0, [v2, v3], rfl, .inl (.inl (s2 _ _ hT)), rfl, v2, [v3], rfl, v3, [], rfl, rfl, ?_⟩
    have p2 : rep (on L1 Hs) v2 F.1 := lsW_rep (lsW_on r2a fun a m => m)
    have p3 : rep (on L2 Hs) v3 F.2 := llW_rep (llW_on r2b fun a m => m)
    have B2 : Bs A0 H (jn A0 Hs) H2 := (Bs.start eA).go e2 ⟨s2, fun b u z => .inr (o2 b u z)⟩
    have x2 : Ex Hs (jn A0 Hs) := jn_r (eA.trans e2) s2
    have u0 : u = .str x := hu
    subst u0
    refine b_asg B2 (ed_call2 (E := E0) (P := fun (ks : List Str) (x : Str) => x ∈ ks) (f := fun _ x => x) (ed_var (i := 2) (σ := [some v, some (.str x), some v2, some v3, none, none, none, none, none]) rfl (DV.ext (on_ex.trans x2) p2)) (ed_var (i := 1) (x := x) rfl rfl) O.m) fun v4 A4 H4 B4 eA4 r4 => ?_
    have u4 : v4 = .str x := r4
    subst u4
    have y2 : Ex Hs A4 := x2.trans eA4
    refine ⟨v2, rfl, .str x, rfl, v2, .str x, F.1, x, on L1 Hs, rfl, on_ex.trans (y2.trans B4.h), p2, rfl, O.g.ks.len, fun e H5 e5 => ql e H5 (B4.e.trans e5), fun ne u5 H5 B5 e5 s5 r5 => ?_⟩
    have BB5 : Bs A0 H (jn A4 B5) H5 := B4.go e5 ⟨s5.e, fun b o z => (s5.o b o z).imp (fun y => y2 _ _ (on_of y).2) id⟩
    have y3 : Ex (on L2 Hs) (jn A4 B5) := (on_ex.trans y2).trans jn_l
    have hl := O.g.len
    have hl2 := O.g.len2
    have lc := ed_lc (K := K) (σ := [some v, some (.str x), some v2, some v3, some (.str x), some u5, none, none, none]) (H := on L2 Hs) (tl := tVar 3) (tt := tYes) (te := tLc (iList K (tVar 7)) (gName 8) (tTest (tOp (rEqW Str true) (tVar 8) (tVar 4))) (tVar 8) [8]) (j := 7) (vs := [7]) (fun _ : List Str => true) (fun l : List Str => drop1 x l) (ed_var (v := v3) rfl p3) (by omega) (fun _ => rfl)
      (fun _ _ _ _ _ _ => et_yes) fun l z H1 e m r _ => by
        have k := ed_lc (K := K) (σ := [some v, some (.str x), some v2, some v3, some (.str x), some u5, none, some z, none]) (H := H1) (tl := tVar 7) (tt := tTest (tOp (rEqW Str true) (tVar 8) (tVar 4))) (te := tVar 8) (j := 8) (vs := [8]) (fun y : Str => decide (y ≠ x)) (fun y : Str => y) (ed_var (v := z) rfl r) (by have := hl2 l m; omega) (fun _ => rfl)
          (fun y z2 H2 e2 _ r2 => et_test (ev_neD (ed_var (i := 8) (v := z2) rfl r2) (ed_var (i := 4) (v := .str x) (x := x) rfl rfl))) fun y z2 H2 _ _ r2 _ => ed_var (i := 8) (v := z2) rfl r2
        rw [List.map_id', show (l.filter fun y => decide (y ≠ x)) = drop1 x l from List.filter_congr fun y _ => by simp] at k
        exact k
    rw [List.filter_eq_self.mpr (fun _ _ => rfl), show F.2.map (fun l => drop1 x l) = trust x F.2 from rfl] at lc
    refine b_asgN BB5 y3 lc fun v6 B6 H6 BB6 e6 s6 r6 => ?_
    have eB6 : Ex B6 (jn (jn A4 B5) B6) := jn_r (BB5.h.trans e6) s6.e
    have e6v : EvD (tVar 6) [some v, some (.str x), some v2, some v3, some (.str x), some u5, some v6, none, none] (jn (jn A4 B5) B6) (trust x F.2) := ed_var rfl (DV.ext eB6 r6)
    refine b_seqIf BB6 (et_test (ev_inD (ed_lst (xs := ([] : List Str)) eda_nil (by decide)) e6v)) (fun z H7 B7 => ?_) (fun z H7 B7 => ?_)
    · exact qn ne (dTrue z) H7 B7.e
    · have x5 : Ex B5 (jn A4 B5) := jn_r (B4.h.trans e5) s5.e
      have e67 : Ex B6 H7 := eB6.trans B7.h
      have e57 : Ex B5 H7 := (x5.trans jn_l).trans B7.h
      have tb : (trust x F.2).length ≤ 1000 ∧ ∀ l ∈ trust x F.2, l.length ≤ 100 := ⟨by unfold trust; rw [List.length_map]; exact hl, fun l m => by
        obtain ⟨a, ha, rfl⟩ := List.mem_map.mp m
        exact Nat.le_trans (List.length_filter_le _ _) (hl2 a ha)⟩
      refine ⟨u5, rfl, v6, rfl, v6, trust x F.2, B6, rfl, e67, tt.ext B7.e, r6, tb, fun z8 H8 B8 lt8 s8 r8 => ?_⟩
      refine ⟨by show 2 ≤ sizeLine; decide, fun T2 nT2 => ?_⟩
      have e58 : Ex (nt B5) H8 := nt_ex e57 lt8.n
      have dj : ∀ b o u, (nt B5) b = some o → B8 b = some u → False := fun b o u h5' h8 => by
        have h5 := (nt_of h5').1
        rcases s8.o b u h8 with h6' | w8
        · have h6 := (nt_of h6').1
          rcases s5.o b o h5 with y | y
          · obtain ⟨m1, k1⟩ := on_of y
            rcases s6.o b u h6 with w | w
            · exact nd3 b m1 b (on_of w).1 rfl
            · rw [e5 _ _ (B4.h _ _ (y2 _ _ k1))] at w
              cases w
          · rcases s6.o b u h6 with w | w
            · rw [B4.h _ _ (y2 _ _ (on_of w).2)] at y
              cases y
            · rw [s5.e _ _ h5] at w
              cases w
        · rw [nt_mk (e57 _ _ h5) (nt_of h5').2] at w8
          cases w8
      have lt0 : Lt T H H8 := (Lt.of tt B7.e).trans lt8
      obtain ⟨M, w1, w2, w3⟩ := fmW_of (DVN.extN (nt_ext B5) r5) r8 (trust_nodup O) dj e58 s8.e nT2
      refine qs ne (dFalse z) (.ref T2) _ _ M (lt0.go (Ex.new nT2)) (upd_ex2 (jn_ex e58 s8.e)) (fun b o h => ?_) w1 w2 w3
      have nw : ∀ b, H b = none → nt H b = none := fun b z => exf nt_sub z
      by_cases y : b = T2
      · rw [y]
        exact exf (nt_ex (Ex.refl H) lt0.n) nT2
      · rw [upd_ne y] at h
        rcases jn_of h with w | w
        · rcases s5.o b o (nt_of w).1 with k | k
          · exact nw b (o2 b o (on_of k).2)
          · exact nw b (exf B4.e k)
        · rcases s8.o b o w with k' | k'
          · rcases s6.o b o (nt_of k').1 with k | k
            · exact nw b (o2 b o (on_of k).2)
            · exact nw b (exf BB5.e k)
          · exact exf (nt_mono (ExtN.of B7.e)) k'
end
end K07
/-! text W34 -/
set_option Elab.async false
set_option linter.all false
set_option maxRecDepth 100000
set_option maxHeartbeats 2000000
/-! except clauses one by one, some of them with a name: a chain of promises -/
namespace TryA
open PySem PySem.Spec PyProof.Rows L2
/-- an exception at a has come to the try of X: what is known of it -/
structure Gd (X : Cx) (pins : List (Addr × Obj)) (σ : L2.St) (H : Hp) (a : Addr) (cls : Value) (d : Option Addr) (B : Heap) (sI s3 : Shared) : Prop where
  inv : Inv X pins σ H sI
  ground : ∀ c u, sI.heap.get? c = some u → c ∉ frs X.stack → B.get? c = some u
  air : HandSPX.FlyingZ B (X.env :: X.outer) a (Zc cls d) s3.heap
  slots : sI.heap.UpToSlots s3.heap
  fresh : H a = none
  os : s3.os = sI.os
  gens : AllBare s3.gens
section
variable {X : Cx} {pins : List (Addr × Obj)} {σ : L2.St} {H : Hp} {a : Addr} {cls : Value} {d : Option Addr} {B : Heap} {sI s3 : Shared}
/-- the exception's object is no frame -/
theorem nofr {h : Heap} {o : Obj} {vs : Array Value} (ff : h.FunFrames B (X.env :: X.outer)) (e : h.get? a = some o) (dd : o.data = .fields vs) : a ∉ frs (X.env :: X.outer) := by
  intro m
  have ⟨_, u, hu, z⟩ := ff.mem m
  have : o = u := Option.some.inj (e.symm.trans hu)
  subst this
  exact z _ dd
theorem Gd.suite (g : Gd X pins σ H a cls d B sI s3) (hf : X.env.frame = some X.env.locals) {h : Heap} (fl : HandSPX.FlyingZ B (X.env :: X.outer) a (Zc cls d) h) (up : s3.heap.UpToSlots h) :
    ∃ o, (∃ vs, o.data = .fields vs) ∧ Zc cls d o ∧ h.get? a = some o ∧ Inv (X.suite a ((a, o) :: (X.pn ++ pins))) [] σ H { s3 with heap := h } := by
  obtain ⟨o, vs, h1, h2, h3⟩ := fl.there
  have q := nofr (X := X) fl.2.2.1 h1 h3
  have q1 : a ≠ X.env.locals := by
    rintro rfl
    exact q (List.mem_filterMap.mpr ⟨_, List.mem_cons_self, hf⟩)
  have q2 : a ∉ X.fs := by
    intro m
    obtain ⟨e, m1, m2⟩ := List.mem_filterMap.mp m
    exact q (List.mem_filterMap.mpr ⟨e, .tail _ m1, m2⟩)
  exact ⟨o, ⟨vs, h3⟩, h2, h1, Inv.suite (g.inv.landed (s' := { s3 with heap := h }) g.ground fl.1 (g.slots.trans up) g.os g.gens) h1 h3 g.fresh q1 q2⟩
end
/-- the clauses hds do with an exception what W asks -/
def Hb (X : Cx) (pins : List (Addr × Obj)) (D : Ends) (W : WX) (hds : List ExceptHandler) : Prop :=
  ∀ (σ : L2.St) (H : Hp) (a : Addr) (cls : Value) (d : Option Addr) (B : Heap) (sI s3 : Shared), Gd X pins σ H a cls d B sI s3 → W cls d σ H →
    wpAny (model X.prog X.w) X.A (handleBy (.ref a) X.env hds) (SP X pins D) X.xe s3
section
variable {X : Cx} {pins : List (Addr × Obj)} {D : Ends} {W : WX} {hds : List ExceptHandler} {x n : Str} {c : Value} {i : Nat} {ts : Addr → Value → Option Addr → TS} {b0 : Stmt} {bs : List Stmt} {q1 q2 : Pos}
theorem hb_nil (hs : X.stack = X.env :: X.outer) (hf : X.env.frame = some X.env.locals) (tk : Takes X W) : Hb X pins D W [] := by
  intro σ H a cls d B sI s3 g w
  have thrown : wpAny (model X.prog X.w) X.A (setFlight (.ref a) X.env.frame)
      (fun _ s4 => wpAny (model X.prog X.w) X.A (throw (.ref a) : Sem Flow) (SP X pins D) X.xe s4) X.xe s3 := by
    rw [hf]
    refine HandSPX.setFlight_upZ g.air fun h4 held up => wpAny_throw (tk _ _ ?_)
    refine ⟨a, B, sI, pins, σ, H, cls, d, rfl, g.inv, g.ground, g.slots.trans up, ?_, g.fresh, g.os, g.gens, w⟩
    rw [hs]
    exact .inr (.inr held)
  obtain ⟨_, _, _, o, vs, T, _, _, e1, _, e2, e3, _⟩ := id g.air
  apply wpAny_handleBy_nil
  unfold PySem.passOn
  apply wpAny_bind
  refine wpAny_field e1 e2 e3 ?_
  rw [if_neg (by simp)]
  first
    | exact wpAny_bind (wpAny_pure (wpAny_bind thrown))
    | exact wpAny_bind thrown
/-- what the test of a clause comes to -/
theorem Gd.test {σ : L2.St} {H : Hp} {a : Addr} {cls : Value} {d : Option Addr} {B : Heap} {sI s3 : Shared} (g : Gd X pins σ H a cls d B sI s3) (hf : X.env.frame = some X.env.locals) (hc : Names X x c) {Q E : Value → Shared → Prop} (h : Q c s3) :
    wpAny (model X.prog X.w) (X.A.mark (some (.ref a))) (eval (.Name x q1) X.env) Q E s3 := by
  obtain ⟨o, _, _, _, S⟩ := g.suite hf g.air (Heap.UpToSlots.of_keeps fun _ _ e => e)
  rcases hc with ⟨k1, k2, k3 | ⟨k3, k4, k5⟩⟩
  · exact ld_glob S k1 k3 h k2
  · exact ld_blt S k1 k3 k4 h k5 k2
theorem Gd.looks {σ : L2.St} {H : Hp} {a : Addr} {cls : Value} {d : Option Addr} {B : Heap} {sI s3 : Shared} (g : Gd X pins σ H a cls d B sI s3) : PySem.W.Looks (model X.prog X.w) s3.heap (typeOf (.ref a)) cls := by
  obtain ⟨o, vs, h1, h2, h3⟩ := g.air.there
  intro A Q E s k q
  exact wpAny_typeOf_ref (k _ _ h1) (by rw [h2.1]; exact q)
theorem Gd.kin {σ : L2.St} {H : Hp} {a : Addr} {cls : Value} {d : Option Addr} {B : Heap} {sI s3 : Shared} (g : Gd X pins σ H a cls d B sI s3) : X.K.In s3.heap :=
  (g.inv.landed (s' := s3) g.ground g.air.1 g.slots g.os g.gens).kIn
/-- except x: .. -/
theorem hb_one (ok : X.Ok) (hf : X.env.frame = some X.env.locals) (hc : Names X x c) (hsu : ∀ (a : Addr) (o : Obj) (cls : Value) (d : Option Addr) (pn : List (Addr × Obj)), Zc cls d o → (∃ vs, o.data = .fields vs) → PSs (X.suite a ((a, o) :: pn)) (b0 :: bs) (ts a cls d))
    (r : Hb X pins D W hds) : Hb X pins D (fun cls d σ H => ∃ b, PySem.W.exmOne X.K cls c = some b ∧ (b = true → ∀ a, H a = none → ts a cls d D σ H) ∧ (b = false → W cls d σ H)) (.ExceptHandler (some (.Name x q1)) none (b0 :: bs) q2 :: hds) := by
  rintro σ H a cls d B sI s3 g ⟨b, e, yes, no⟩
  refine wpAny_handleBy_cons (codeAny_handlers_test ?_) fun z => by cases z
  refine g.test hf hc ((PySem.W.exm_one g.kin g.looks e).here ?_)
  cases b
  · exact r σ H a cls d B sI s3 g (no rfl)
  · refine codeAny_handlers_suite (HandSPX.lands_againZ g.air fun h4 air4 up4 => ?_)
    obtain ⟨o, hv, hz, _, S⟩ := g.suite hf air4 up4
    refine wpAny_mono ((hsu a o cls d _ hz hv).run [] _ σ H _ S (yes rfl a g.fresh)) (fun f s6 k => ?_) fun _ _ z => z.elim
    cases f with
    | ret u =>
      obtain ⟨v, σ6, H6, S6, rv, w⟩ := k
      exact ⟨v, σ6, H6, S6.unsuite ok, rv, w⟩
    | _ =>
      obtain ⟨σ6, H6, S6, w⟩ := k
      exact ⟨σ6, H6, S6.unsuite ok, w⟩
/-- except x as n: .. -/
theorem hb_as (ok : X.Ok) (hf : X.env.frame = some X.env.locals) (hN : X.N.Nodup) (hi : X.N[i]? = some n) (hl : X.env.kindOf n = some .local) (hc : Names X x c)
    (hsu : ∀ (a : Addr) (o : Obj) (cls : Value) (d : Option Addr) (pn : List (Addr × Obj)), Zc cls d o → (∃ vs, o.data = .fields vs) → PSs (X.suite a ((a, o) :: pn)) (b0 :: bs) (ts a cls d))
    (r : Hb X pins D W hds) : Hb X pins D (wAs X.K c i ts W D) (.ExceptHandler (some (.Name x q1)) (some n) (b0 :: bs) q2 :: hds) := by
  rintro σ H a cls d B sI s3 g ⟨b, e, yes, no⟩
  refine wpAny_handleBy_cons (codeAny_handlers_test ?_) fun z => by cases z
  refine g.test hf hc ((PySem.W.exm_one g.kin g.looks e).here ?_)
  cases b
  · exact r σ H a cls d B sI s3 g (no rfl)
  · refine codeAny_handlers_suite_as (HandSPX.lands_againZ g.air fun h4 air4 up4 => ?_)
    obtain ⟨o, hv, hz, _, S⟩ := g.suite hf air4 up4
    refine store_ok (X := X.suite a ((a, o) :: (X.pn ++ pins))) (v := .ref a) S hN hi (Or.inl hl) rfl (fun s5 S5 => ?_) (Or.inr hl)
    refine wpAny_mono ((hsu a o cls d _ hz hv).run [] s5 _ H _ S5 (yes rfl a g.fresh)) (fun f s6 k => ?_) fun _ _ z => z.elim
    cases f with
    | ret u =>
      obtain ⟨v, σ6, H6, S6, rv, w⟩ := k
      exact gone_ok (S6.unsuite ok) hN hi hl fun s7 J7 => ⟨v, _, H6, J7, rv, w⟩
    | _ =>
      obtain ⟨σ6, H6, S6, w⟩ := k
      exact gone_ok (S6.unsuite ok) hN hi hl fun s7 J7 => ⟨_, H6, J7, w⟩
/-- try: .. except ..: .. -/
theorem ps_try_hb {body : List Stmt} {h0 : ExceptHandler} {pos : Pos} {tb : WX → TS} {Wf : Ends → WX} (hs : X.stack = X.env :: X.outer) (hf : X.env.frame = some X.env.locals)
    (hb : ∀ (W : WX) (pn : List (Addr × Obj)) (xe : Value → Shared → Prop), Takes (X.tr pn xe) W → PassesOwn (model X.prog X.w) X.A X.env xe → PSs (X.tr pn xe) body (tb W))
    (hh : ∀ (pins : List (Addr × Obj)) (D : Ends), X.Ok → Hb X pins D (Wf D) (h0 :: hds)) : PS X (.Try body (h0 :: hds) [] [] pos) fun D σ H => tb (Wf D) D σ H := by
  constructor
  intro pins s σ H D I h
  have ok := I.ok
  have frames : X.A.frames = some (X.env :: X.outer) := hs ▸ ok.frames
  refine wpAny_Try_except ?_
  let catch_ : Value → Shared → Prop := fun e s1 => wpAny (model X.prog X.w) X.A (noteFrame e X.env) (fun _ s2 => wpAny (model X.prog X.w) X.A (setFlight e none)
    (fun _ s3 => wpAny (model X.prog X.w) X.A (handleBy e X.env (h0 :: hds)) (SP X pins D) X.xe s3) X.xe s2) X.xe s1
  have caught : Takes (X.tr (X.pn ++ pins) catch_) (Wf D) := by
    rintro u s1 ⟨a, B, sI, pins', σ', H', cls, d, rfl, J, nb, up, sky, na, os, ag, w⟩
    rw [show (X.tr (X.pn ++ pins) catch_).stack = X.env :: X.outer from hs] at sky
    refine Sky.land Zc.steady frames hf sky fun h3 air3 up3 => ?_
    exact hh pins D ok σ' H' a cls d B sI _ ⟨J.ofTry ok, nb, air3, up.trans up3, na, os, ag⟩ w
  refine wpAny_mono ((hb (Wf D) (X.pn ++ pins) catch_ caught PassesOwn.looking).run [] s σ H D (I.toTry _) h) (fun f s1 k => ?_) fun e s1 k => k
  cases f with
  | next =>
    obtain ⟨σ', H', J, q⟩ := k
    exact wpAny_execs_nil ⟨σ', H', J.ofTry ok, q⟩
  | ret u =>
    obtain ⟨v, σ', H', J, rv, q⟩ := k
    exact ⟨v, σ', H', J.ofTry ok, rv, q⟩
  | _ =>
    obtain ⟨σ', H', J, q⟩ := k
    exact ⟨σ', H', J.ofTry ok, q⟩
end
end TryA
namespace K07
open PySem PySem.Spec PyProof.Rows L2
/-- more may be told than is asked -/
def tUp (te : TE) : TE := fun σ H Q => ∃ Q0 : VK, te σ H Q0 ∧ ∀ v H1, Q0 v H1 → Q v H1
section
variable {X : Cx} {e : Expr} {te : TE}
theorem pe_up (he : PE X e te) : PE X e (tUp te) := ⟨fun pins s σ H Q I ⟨Q0, h, k⟩ => thn (he.run pins s σ H Q0 I h) fun v s1 ⟨x, H1, I1, r, q⟩ => ⟨x, H1, I1, r, k _ _ q⟩⟩
end
end K07
/-! text E13 -/
set_option Elab.async false
set_option linter.all false
set_option maxRecDepth 100000
set_option maxHeartbeats 4000000
/-! own exceptions with one field raised; checked_keepers -/
namespace K07
open PySem PySem.Spec PyProof.Rows L2 Evl PySem.W Dw Dw.DV RZ StX Lot LmV LamX NdefX XvC
/-- an own class whose __init__ keeps its one argument -/
structure Ex1 (P : Program) (w : World) (K : PySem.W.Frag) (mg : Str → Option Value) (base : Heap) (x fld : Str) (C : Addr) : Prop where
  o : OexC K C
  i : ∃ fI fd, PySem.W.findIn K (.ref C) "__init__" = some (some (.ref fI)) ∧ PySem.W.typeIn K (.ref fI) = some (.type "function") ∧ FnOk P w K mg base CX0 1 fI fd ["self", fld] (spInit C [fld]) ∧ Binds K fd ["self", fld] []
  g : mg x = some (.ref C)
  no : PySem.W.findIn K (.ref C) fld = some none
  xf : XfC K C
def tMk1 (C : Addr) (fld : Str) (te : TE) : L2.St → Hp → XK → Prop := fun σ H Q => te σ H fun v H1 => ∀ d, H1 d = none → Q (.ref C) (some d) (upd H1 d (.xd [(fld, v)]))
section
variable {X : Cx} {e : Expr} {te : TE} {x fld : Str} {C : Addr} {p pos : Pos}
theorem pmk_ex1 (T : Ex1 X.prog X.w X.K X.mg X.base x fld C) (hr : Room 2 X.A) (hg : Gl X x) (he : PE X e te) (hdb : (x == ("__debug__" : Str)) = false := by decide)
    (hs : starEach [e] X.env = (false, eval e X.env) :: starEach [] X.env := by rfl) : PMk X (.Call (.Name x p) [e] [] pos) (tMk1 C fld te) := by
  obtain ⟨fI, fd, i1, i2, i3, i4⟩ := T.i
  intro pins s σ H Q I h
  refine pmk_oex (dvs := []) (sp := spInit C [fld]) T.o i1 i2 i3 hr i4 .nil pass0 hg T.g (pa_cons (pe_up he) pa_nil hs) hdb hs (by rfl) pins s σ H Q I ⟨_, h, fun v H1 k => ?_⟩
  refine ⟨by show 1 ≤ 1000; decide, fun a na => ⟨a, [v], rfl, rfl, upd_same, fun d H' nd da h1 h2 h3 => ⟨rfl, d, [(fld, v)], h2, h1, ?_, ?_⟩⟩⟩
  · rw [upd_ne da] at nd
    exact nd
  · have nd' : H1 d = none := by
      rw [upd_ne da] at nd
      exact nd
    have e : upd (del H' a) d (.xd [(fld, v)]) = upd H1 d (.xd [(fld, v)]) := by
      funext b
      by_cases y : b = d
      · rw [y, upd_same, upd_same]
      · rw [upd_ne y, upd_ne y]
        by_cases z : b = a
        · rw [z, del_same, na]
        · rw [del_ne z, h3 b y z, upd_ne z]
    rw [e]
    exact k d nd'
end
section
variable {P : Program} {w : World} {K : PySem.W.Frag} {mg : Str → Option Value} {base : Heap} {f : Addr} {fd : FuncData} {fK CB : Addr} {dK : FuncData}
/-- raise C(thing): E is told of the class at C, a dict with the thing -/
def Rz (C : Addr) (fld : Str) (v : V) (H : Hp) (E : XK) : Prop := ∀ d H', Ex H H' → H d = none → H' d = some (.xd [(fld, v)]) → E (.ref C) (some d) H'
def spCkG (CB : Addr) : Sp := fun vs H Q E => ∃ (v : V) (b : Bool) (A : Hp), vs = [v] ∧ Ex A H ∧ KpB A v b ∧ (b = false → Rz CB "thing" v H E) ∧ (b = true → ∃ ks, LsR ks A v ∧ EndN H (LstW StrW ks) Q)
theorem scCk : FnScope ["keepers"] ["keepers"] (defScope (top 27)) := ⟨rfl, rfl, rfl, by decide +kernel, rfl, by decide +kernel, by decide +kernel⟩
theorem ok_ckG (F : FnP K "checked_keepers" (top 27) f fd) (B : Bn mg) {fN fL : Addr} {dN dL : FuncData} (KP : Df K mg "are_keepers" 18 fK dK) (NM : Df K mg "is_name" 15 fN dN) (LI : Df K mg "is_list" 14 fL dL) (BK : Ex1 P w K mg base "BadKeepers" "thing" CB) : FnOk P w K mg base (L2.CX P w) 3 f fd ["keepers"] (spCkG CB) := by
  have GK : FnOk P w K mg base CX0 2 fK dK ["thing"] spKeepG := ok_keepG KP.F B NM.F NM.g LI.F LI.g
  have bK : Binds K dK ["thing"] [] := KP.F.bindsN fun _ _ _ _ _ _ us hl => match us, hl with | [_], _ => rfl
  refine F.ok scCk (fun vs H Q E h => ?_) (fun cdv A outer s H vs Q E hr h => ?_)
  · obtain ⟨v, _, _, rfl, _⟩ := h
    rfl
  · obtain ⟨v, b, A0, rfl, eA, hv, q1, q2⟩ := h
    refine ⟨_, (pss_cons (ps_if (pt_not (pt_val (pe_call GK hr (by rfl) KP.g KP.F.kp bK .nil pass0 (pa_cons (pv 0) pa_nil)))) (pss_one (ps_raise rfl (takes_of rfl rfl rfl rfl) (pmk_ex1 BK hr (by exact rfl) (pv 0)))) pss_nil)
      (pss_one (ps_ret (pe_callTy call_list_of (by rfl) B.list (by decide +kernel) (pa_cons (pv 0) pa_nil))))), ?_⟩
    have t1 := et_not (et_B (show Ev (tCall spKeepG [] E0 (tCons (tVar 0) tNil)) [some v] A0 (.bl b) from fun H1 e Q q => ⟨v, rfl, v, b, A0, rfl, e, hv, q⟩))
    refine b_seqIf (Bs.start eA) t1 (fun z H1 B1 => ?_) fun z H1 B1 => ?_
    · have e : b = false := by simpa using z
      exact ⟨v, rfl, fun d nd => q1 e d _ (B1.e.trans (Ex.new nd)) (exf B1.e nd) upd_same⟩
    · have e : b = true := by simpa using z
      obtain ⟨ks, hk, q⟩ := q2 e
      exact ew_strs (er_varR (i := 0) (σ := [some v]) rfl hk) H1 B1.h _ fun u H' Hs L e s o r n d => q u H' Hs L (B1.e.trans e) s (fun b x z => exf B1.e (o b x z)) r n d
end
end K07
/-! text W35 -/
set_option Elab.async false
set_option linter.all false
set_option maxRecDepth 100000
set_option maxHeartbeats 2000000
/-! sorted of a list or a tuple of texts -/
namespace XvS
open PySem PySem.Calls PyProof.Rows PySem.W
section
variable {prog : Program} {w : World} {A : Around} {E : Value → Shared → Prop} {s : Shared} {l : Addr} {vs : List Value}
/-- a tuple's items gathered -/
theorem gather_tup {Q : List Value → Shared → Prop} (hl : s.heap.IsTuple l vs.toArray) (sm : vs.length ≤ sizeLine)
    (h : Q vs { s with heap := (s.heap.push (seqObj "list" #[] 0)).update s.heap.objs.size (Obj.mapSeq (· ++ vs.toArray)) }) : wpAny (model prog w) A (collect (.ref l)) Q E s := by
  obtain ⟨ob, at1, cl, n, da⟩ := id hl
  have at2 : (s.heap.push (seqObj "list" #[] 0)).get? l = some ob := Heap.get?_push_of_some _ at1
  have nw : (s.heap.push (seqObj "list" #[] 0)).get? s.heap.objs.size = some (seqObj "list" #[] 0) := Heap.get?_push_size _ rfl
  unfold collect
  apply wpAny_bind
  apply wpAny_runValue
  apply codeAny_builtin entry_proto_collect'
  show wpAny _ _ (do again (.builtin "list.__iadd__" ⟨[← newList [], .ref l], []⟩)) _ _ s
  apply wpAny_bind
  refine wpAny_newList ?_ (Nat.zero_le _)
  refine wpAny_pure ⟨Code.quiet_builtin _ (by decide +kernel), ?_⟩
  apply codeAny_builtin entry_list_iadd'
  show wpAny _ _ (Builtin.List.listExtendWith (.ref s.heap.objs.size) (.ref l) (.ref s.heap.objs.size)) _ _ { s with heap := s.heap.push (seqObj "list" #[] 0) }
  unfold Builtin.List.listExtendWith
  apply wpAny_bind
  refine wpAny_typeOf (T := "tuple") ⟨ob, at2, cl⟩ ?_
  have two : (Value.type "tuple" == Value.type "tuple") = true := by rfl
  rw [if_pos (by rw [two]; simp)]
  apply wpAny_bind
  refine listItems_at at2 da ?_
  apply wpAny_bind
  refine listItems_at (xs := #[]) (n := 0) nw rfl ?_
  rw [if_neg (by simp)]
  apply wpAny_bind
  refine listUpdate_at (xs := #[]) (n := 0) nw rfl ?_ (Nat.zero_le _) ?_
  · apply wpAny_pure
    show wpAny (model prog w) A (load s.heap.objs.size >>= fun o => match o.data with
      | .seq xs _ => pure xs.toList
      | _ => unsupported "internal:collect") Q E { s with heap := (s.heap.push (seqObj "list" #[] 0)).update s.heap.objs.size (Obj.mapSeq (· ++ vs.toArray)) }
    apply wpAny_bind
    refine wpAny_load (get?_update_seq nw _) ?_
    show wpAny _ _ (pure ((#[] : Array Value) ++ vs.toArray).toList) Q E _
    have e : ((#[] : Array Value) ++ vs.toArray).toList = vs := by simp
    rw [e]
    exact wpAny_pure h
  · show ((#[] : Array Value) ++ vs.toArray).size ≤ sizeLine + 1
    simp
    omega
/-- sorted of a tuple is list.sort of a new list of its items -/
theorem sorted_tup {Q : Value → Shared → Prop} (hl : s.heap.IsTuple l vs.toArray) (sm : vs.length ≤ sizeLine)
    (body : wpAny (model prog w) A.in1 (call (.builtin "list.sort") [.ref (s.heap.objs.size + 1)]) (fun u s' => Q (.ref (s.heap.objs.size + 1)) s') E { s with heap := copyHeap s.heap vs }) :
    wpAny (model prog w) A (call (.builtin "sorted") [.ref l]) Q E s := by
  refine call_function_entry kind_sorted plain_sorted entry_sorted (args_sorted1 _) ?_
  unfold Builtin.«sorted»
  refine wpAny_bind (m := checkCount "sorted" 1 1 _) (wpAny_pure (wpAny_bind (gather_tup hl sm (wpAny_bind (wpAny_newList ?_ sm)))))
  have z : ((s.heap.push (seqObj "list" #[] 0)).update s.heap.objs.size (Obj.mapSeq (· ++ vs.toArray))).objs.size = s.heap.objs.size + 1 := (Heap.size_update ..).trans (size_push' ..)
  rw [z]
  apply wpAny_bind
  apply wpAny_holding
  exact wpAny_mono body (fun u s' q => wpAny_pure ⟨_, rfl, q⟩) fun _ _ e => e
end
end XvS
namespace Dw
open PySem PySem.Spec PyProof.Rows L2 Evl PySem.W DV
/-- sorted(te), te a list or a tuple of texts -/
def rSortSq : List V → Hp → VK → Prop := fun vs H Q => ∃ (a : Addr) (xs : List Str) (A : Hp), vs = [.ref a] ∧ Ex A H ∧ SeqAt A a (xs.map V.str) ∧ xs.length ≤ 1000 ∧ ∀ p, H p = none → Q (.ref p) (upd H p (.lst ((srt xs).map V.str)))
theorem strs_reps {H : Hp} : ∀ xs : List Str, Reps H (xs.map V.str) xs
  | [] => .nil
  | _ :: r => .cons rfl (strs_reps r)
theorem cr_sortSq {X : Cx} (hu : X.A.units + 10 < cLine) : CallR X (.builtin "sorted") rSortSq := by
  intro pins s σ H vs us Q I r h
  obtain ⟨a, xs, A, rfl, eA, hs, hl, q⟩ := h
  rcases hs with hs | hs
  · refine cr_sortedW (α := Str) (fun _ _ z => by cases z) (by show X.A.units + 2 + 0 < cLine; omega) pins s σ H [.ref a] us Q I r ⟨a, xs, A, rfl, eA, ⟨a, _, rfl, hs, strs_reps xs⟩, fun p ws np rr => ?_⟩
    rw [reps_str rr]
    exact q p np
  · obtain ⟨its, rv, pl, hz⟩ := I.tuple (st_of (eA _ _ hs))
    obtain ⟨u, rfl, ru⟩ := vals1 r
    obtain rfl : u = Value.ref a := ru
    have rv' : Vals (xs.map V.str) its := rv
    have l1 : its.length = xs.length := by
      rw [← Paired.length rv', List.length_map]
    have e1 := each_of (strs_reps (H := A) xs) rv'
    have small : xs.length ≤ sizeLine := sz_of (by omega)
    refine XvS.sorted_tup pl (by omega) (list_sort_data (s := { s with heap := copyHeap s.heap its }) (enc := Datum.toD) (copyHeap_at s.heap its) e1 (e1.mono fun u x hx => ?_) (AllAlike.of fun b b' => DatumOrd.alike b b') (Sortable.others fun b => ⟨DatumOrd.notNone b, fun _ z => by cases z⟩) small (fun b _ => ?_) fun out lo eo => ?_)
    · obtain ⟨v, h1, h2⟩ := hx
      have h2' : v = .str x := h2
      subst h2'
      obtain ⟨t, rfl⟩ := h1
      exact ⟨[], .str _ _, by simp⟩
    · have := Datum.depth_le b
      show X.A.in1.units + 1 + _ < cLine
      have : X.A.in1.units = X.A.units + 1 := rfl
      have d0 : Datum.depth Str = 0 := rfl
      omega
    · rw [leW_eq] at eo
      obtain ⟨ws, r1, r2⟩ := of_each (H := A) eo
      have r3 := reps_str r2
      subst r3
      obtain ⟨n, hn⟩ := sortedAll_at s.heap its out.toArray
      have fr : H (s.heap.objs.size + 1) = none := I.hok.fresh (Nat.le_succ _)
      refine ⟨.ref (s.heap.objs.size + 1), upd H (s.heap.objs.size + 1) (.lst ((srt xs).map V.str)), I.laid (t' := s.toks) (fun _ _ => sortedAll_old) (Nat.le_succ _) ⟨?_, out, n, r1, hn⟩, rfl, q _ fr⟩
      rw [List.length_map, srt_len]
      exact small
theorem ew_sortS {σ : L2.St} {A : Hp} {te : TE} {xs : List Str} (h : K07.EvR te σ A (LsR xs)) (hl : xs.length ≤ 1000) : EvW (tCB rSortSq (tCons te tNil)) σ A (LstW StrW (srt xs)) := fun H1 e Q q => h H1 e _ fun v H2 Hs e2 s r => by
  obtain ⟨a, vs, rfl, h1, h2⟩ := r
  have ev : vs = xs.map V.str := reps_str (H := Hs) h2
  subst ev
  refine ⟨a, xs, Hs, rfl, s.e, h1, hl, fun p np => ?_⟩
  refine q _ _ (upd (fun _ => none) p (.lst ((srt xs).map V.str))) [p] (e2.trans (Ex.new np)) (fun b o z => ?_) (fun b o z => ?_) ⟨p, _, [], rfl, upd_same, (rl_strs (H := fun _ => none) (strs_reps (H := fun _ => none) (srt xs))).mon strW_mon (fun _ _ z => by cases z), rfl⟩ (List.nodup_cons.mpr ⟨by simp, .nil⟩) fun a m => ?_
  · by_cases y : b = p
    · rw [y, upd_same] at z ⊢
      exact z
    · rw [upd_ne y] at z
      cases z
  · by_cases y : b = p
    · rw [y]
      exact K07.exf e2 np
    · rw [upd_ne y] at z
      cases z
  · rw [List.mem_singleton.mp m]
    exact ⟨_, upd_same⟩
end Dw
/-! text W36 -/
set_option Elab.async false
set_option linter.all false
set_option maxRecDepth 100000
set_option maxHeartbeats 2000000
/-! for i, x in enumerate(xs), xs a list or a tuple -/
namespace XvE
open PySem PySem.Spec PyProof.Rows L2 RZ
def iEnumSq (K : PySem.W.Frag) (te : TE) : TI := fun σ H R => te σ H fun x H1 => ∃ a, x = .ref a ∧ (((∃ xs, SqL K H1 a xs) ∧ R (Ite K a) H1) ∨ ((∃ xs, SqT K H1 a xs) ∧ R (IteT K a) H1))
section
variable {X : Cx} {e : Expr} {te : TE} {p pos tpos : Pos} {elts : List Expr} {kk : Nat}
theorem pi_enumSq (hg : Gl X "enumerate") (hm : X.mg "enumerate" = none) (he : PE X e te) (hs : starEach [e] X.env = [(false, eval e X.env)] := by rfl) : PI X (.Tuple elts kk tpos) (.Call (.Name "enumerate" p) [e] [] pos) (iEnumSq X.K te) := by
  constructor
  intro pins s σ H R I h
  have ha : PA X [e] (tCons (K07.tUp te) tNil) := pa_cons (K07.pe_up he) pa_nil hs
  refine Call_ (ld_blt I hg hm boot_enumerate (PyProof.Rows.callWith_type1 (thn (ha.run pos pins s σ H (fun vs H1 => ∃ x, vs = [x] ∧ ∃ a, x = .ref a ∧ (((∃ xs, SqL X.K H1 a xs) ∧ R (Ite X.K a) H1) ∨ ((∃ xs, SqT X.K H1 a xs) ∧ R (IteT X.K a) H1))) I ⟨_, h, fun v H1 q => ⟨v, rfl, q⟩⟩) ?_) hs rfl))
  rintro us s1 ⟨vs, H1, I1, r1, x, rfl, a, rfl, q⟩
  cases r1 with
  | cons r rr =>
  cases rr
  cases r
  have young : ∀ b ∈ [s1.heap.objs.size + 1, s1.heap.objs.size], FpOk X pins H1 b := fun b m => by
    have hle : s1.heap.objs.size ≤ b := by
      rcases List.mem_cons.mp m with z | z
      · omega
      · rw [List.mem_singleton.mp z]
        exact Nat.le_refl _
    exact I1.fpOk hle (I1.hok.fresh hle)
  rcases q with ⟨⟨xs, hq⟩, q⟩ | ⟨⟨xs, hq⟩, q⟩
  · obtain ⟨its, _, li, _⟩ := I1.list hq
    refine call_enumerate_list li.isList fun h' en ht _ hk => wpAny_pyIter_enum en ?_
    exact ⟨_, _, _, _, H1, rfl, I1.kept (t' := s1.toks) hk, turn_enum a (s1.heap.objs.size + 1) s1.heap.objs.size, ⟨⟨.none, en⟩, ht, Nat.succ_ne_self _⟩, young, q⟩
  · obtain ⟨its, _, tu, _⟩ := I1.tuple hq
    have la : a < s1.heap.objs.size := by
      obtain ⟨o, ho, _⟩ := id tu
      exact Heap.lt_size ho
    refine call_enumT tu fun h' en ht _ hk => wpAny_pyIter_enum en ?_
    exact ⟨_, _, _, _, H1, rfl, I1.kept (t' := s1.toks) hk, turn_enumT a (s1.heap.objs.size + 1) s1.heap.objs.size, ⟨⟨.none, en⟩, ht, Nat.succ_ne_self _, Nat.ne_of_lt la, Nat.ne_of_lt (Nat.lt_succ_of_lt la)⟩, young, q⟩
end
end XvE
/-! text E14 -/
set_option Elab.async false
set_option linter.all false
set_option maxRecDepth 100000
set_option maxHeartbeats 4000000
/-! family_of: of right things given loosely; BadKeepers, BadLots -/
namespace K07
open PySem PySem.Spec PyProof.Rows L2 Evl PySem.W Dw Dw.DV RZ StX Lot LmV LamX NdefX XvC XvE
section
variable {P : Program} {w : World} {K : PySem.W.Frag} {mg : Str → Option Value} {base : Heap} {f : Addr} {fd : FuncData} {fL fN f1 fK fS fO fH fF fT : Addr} {dL dN d1 dK dS dO dH dF dT : FuncData} {fW fC fI Pt CB CLo : Addr} {dW dC dI : FuncData} {T : List (Addr × Str)}
/-- what the lots are: none (bad n: lot n is the first that is none); or right ones -/
inductive LotsB (ks : List Str) (A : Hp) (H : Hp) (u : V) (E : XK) (CLo : Addr) (R : List (List Str) → Prop) : Prop where
  | none {t : String} (k : Kd A u t) (f : isLB t = false) (q : Rz CLo "index" (.int 0) H E)
  | nil {a : Addr} (e : u = .ref a) (h : SeqAt A a []) (q : Rz CLo "index" (.int 0) H E)
  | bad {a : Addr} {us : List V} {n : Nat} (e : u = .ref a) (h : SeqAt A a us) (l : us.length ≤ 1000) (hn : n < us.length) (ok : ∀ i x, i < n → us[i]? = some x → SlB ks A x true) (no : ∀ x, us[n]? = some x → SlB ks A x false) (q : Rz CLo "index" (.int (n : Int)) H E)
  | ok {ls : List (List Str)} (h : LlR ls A u) (ne : ls ≠ []) (l : ls.length ≤ 1000) (g : ∀ l ∈ ls, l ≠ [] ∧ l ⊆ ks ∧ l.Nodup) (q : R ls)
def spFamOf (T : List (Addr × Str)) (CB CLo : Addr) : Sp := fun vs H Q E => ∃ (v u : V) (A : Hp), vs = [v, u] ∧ Ex A H ∧ Tabs T H ∧ ((KpB A v false ∧ Rz CB "thing" v H E) ∨
  ∃ ks, LsR ks A v ∧ GoodK goodName ks ∧ LotsB ks A H u E CLo fun ls => EndNT T H (FmW (ks, leastOf (ls.map srt))) Q)
theorem once_len {xs : List Str} (h : xs.Nodup) : (once xs).length = xs.length := Nat.le_antisymm (sub_len (once_nodup xs) fun _ m => mem_once.mp m) (sub_len h fun _ m => mem_once.mpr m)
theorem sl_good {A : Hp} {v : V} {ks l : List Str} (h : LsR l A v) (g : GoodK goodName ks) (ne : l ≠ []) (sb : l ⊆ ks) (nd : l.Nodup) : SlB ks A v true := by
  obtain ⟨a, us, rfl, h1, h2⟩ := h
  have e : us = l.map V.str := reps_str (H := A) h2
  subst e
  have ll := sub_len nd sb
  have kl := g.len
  refine .inr ⟨a, _, rfl, h1, fun u m => ?_, by rw [List.length_map]; omega, ?_⟩
  · obtain ⟨x, hx, rfl⟩ := List.mem_map.mp m
    refine ⟨⟨_, .str x⟩, ?_⟩
    have gx := g.all x (sb hx)
    unfold goodName at gx
    rw [Bool.and_eq_true, Bool.and_eq_true, decide_eq_true_eq, decide_eq_true_eq] at gx
    show x.length ≤ 100000
    omega
  · unfold slL
    have e2 : (l.map V.str).map strOf = l := by
      rw [List.map_map]
      exact (List.map_congr_left fun x _ => rfl).trans (List.map_id l)
    rw [e2, once_len nd, List.length_map, decide_eq_true rfl, decide_eq_true (p := l.map V.str ≠ []) (fun z => ne (List.map_eq_nil_iff.mp z)), show (l.map V.str).all (oneV ks) = true from by
      rw [List.all_map, List.all_eq_true]
      exact fun x hx => decide_eq_true (sb hx)]
    rfl
abbrev NFo : List Str := ["keepers", "lots", "known", "index", "lot"]
theorem scFo : FnScope NFo ["keepers", "lots"] (defScope (top 29)) := ⟨rfl, rfl, rfl, by decide +kernel, rfl, by decide +kernel, by decide +kernel⟩
abbrev tbFo : XK → TS := fun E => tIfS (tNot (tB (tCall spSlG [] E0 (tCons (tVar 2) (tCons (tVar 4) tNil))))) (fun D σ H => tMk1 CLo "index" (tVar 3) σ H E) tNext
theorem nm_go {i : Nat} {x : V} {σ : L2.St} {H : Hp} {k : L2.St → Hp → Prop} (h : k (σ.set i (some x)) H) : gName i x σ H k := h
theorem tc_go {sp : Sp} {te : TE} {σ : L2.St} {H : Hp} {k : List V → Hp → Prop} {E : XK} (h : te σ H fun v H1 => sp [v] H1 (fun u H2 => k [u] H2) E) : tCons (tCall sp [] E (tCons te tNil)) tNil σ H k := h
theorem hu10 {k : Nat} {A : Around} (hr : Room k A) : A.units + 10 < cLine := by
  have := hr.un
  omega
theorem ok_famOf (F : FnP K "family_of" (top 29) f fd) (B : Bn mg) (Z : Fs K mg fL fN f1 fK fS fO fH fF fT dL dN d1 dK dS dO dH dF dT) (CK : Df K mg "checked_keepers" 27 fC dC) (SL : Df K mg "is_some_lot" 28 fI dI) (LO : Df K mg "least_of" 25 fW dW) (Lm : LeT base mg T Pt dW)
    (BK : Ex1 P w K mg base "BadKeepers" "thing" CB) (BL : Ex1 P w K mg base "BadLots" "index" CLo) : FnOk P w K mg base (L2.CX P w) 4 f fd ["keepers", "lots"] (spFamOf T CB CLo) := by
  have GC : FnOk P w K mg base (L2.CX P w) 3 fC dC ["keepers"] (spCkG CB) := ok_ckG CK.F B Z.KP Z.N Z.L BK
  have bC : Binds K dC ["keepers"] [] := CK.F.bindsN fun _ _ _ _ _ _ us hl => match us, hl with | [_], _ => rfl
  have GL : FnOk P w K mg base CX0 1 fL dL ["thing"] spIsListG := ok_is_listG Z.L.F B.isinstance B.list B.tuple
  have bL : Binds K dL ["thing"] [] := Z.L.F.bindsN fun _ _ _ _ _ _ us hl => match us, hl with | [_], _ => rfl
  have GS : FnOk P w K mg base CX0 2 fI dI ["keepers", "thing"] spSlG := ok_slG SL.F B Z.L Z.one
  have bS : Binds K dI ["keepers", "thing"] [] := SL.F.bindsN fun _ _ _ _ _ _ us hl => match us, hl with | [_, _], _ => rfl
  have GW : FnOk P w K mg base CX0 2 fW dW ["lots"] (spLeastT T) := ok_leastT LO.F B Z.HO Lm.t Lm.m Lm.u
  have bW : Binds K dW ["lots"] [] := LO.F.bindsN fun _ _ _ _ _ _ us hl => match us, hl with | [_], _ => rfl
  refine F.ok scFo (fun vs H Q E h => ?_) (fun cdv A outer s H vs Q E hr h => ?_)
  · obtain ⟨v, u, _, rfl, _⟩ := h
    rfl
  · obtain ⟨v, u, A0, rfl, eA, tt, hq⟩ := h
    refine ⟨_, (pss_cons (ps_set (i := 2) scFo.nd rfl (.inl rfl) (pe_call GC hr (by rfl) CK.g CK.F.kp bC .nil (passes_call (takes_of rfl rfl rfl rfl) fun _ _ _ _ h => h) (pa_cons (pv 0) pa_nil)))
      (pss_cons (ps_if (pw_or (pt_not (pt_val (pe_call GL (hr.mono (by decide)) (by rfl) Z.L.g Z.L.F.kp bL .nil pass0 (pa_cons (pv 1) pa_nil))))
        (pw_or1 (pt_cmpR op_eq (pe_callB call_len_seq (by rfl) B.len PySem.boot_len (pa_cons (pv 1) pa_nil)) pe_int (nomark _)))).pt (pss_one (ps_raise rfl (takes_of rfl rfl rfl rfl) (pmk_ex1 BL (hr.mono (by decide)) (by exact rfl) pe_int))) pss_nil)
      (pss_cons (ps_for (passes_of rfl) rfl (pi_enumSq (by rfl) B.enumerate (pv 1)) (pg_tup (n := 2) rfl (pgs_cons (pg_name (i := 3) scFo.nd rfl (.inl rfl)) (pgs_cons (pg_name (i := 4) scFo.nd rfl (.inl rfl)) pgs_nil)))
        (pss_one (ps_if (pt_not (pt_val (pe_call GS (hr.mono (by decide)) (by rfl) SL.g SL.F.kp bS .nil pass0 (pa_cons (pv 2) (pa_cons (pv 4) pa_nil))))) (pss_one (ps_raise rfl (takes_of rfl rfl rfl rfl) (pmk_ex1 BL (hr.mono (by decide)) (by exact rfl) (pv 3)))) pss_nil)))
      (pss_one (ps_ret (pe_tup (pa_cons (pv 2) (pa_cons (pe_call GW (hr.mono (by decide)) (by rfl) LO.g LO.F.kp bW .nil pass0 (pa_cons (pe_lc (own := [("lot", 4)]) (g := gName 4) (tt := tYes) (te := tCB rSortSq (tCons (tVar 4) tNil)) rfl scFo.nd (pi_seq (pv 1)) (blkOk_by (N := NFo) (sc := defScope (top 29)) (by decide +kernel))
        (fun _ _ _ _ _ => pg_name (i := 4) scFo.nd rfl (.inl rfl)) (fun _ _ _ _ _ => pts_nil) (fun _ _ _ _ _ => pe_callB (cr_sortSq (hu10 hr)) (by rfl) B.sorted (by decide +kernel) (pa_cons (pv 4) pa_nil))) pa_nil)) pa_nil)))))))), ?_⟩
    rcases hq with ⟨hk, q⟩ | ⟨ks, hks, gk, hq⟩
    · exact ⟨v, rfl, v, false, A0, rfl, eA, hk, fun _ => q, fun z => by cases z⟩
    refine ⟨v, rfl, v, true, A0, rfl, eA, kp_good hks gk, (fun z => by cases z), fun _ => ⟨ks, hks, fun v2 H2 Hs L e2 s2 o2 r2 n2 d2 => ?_⟩⟩
    have p2 : rep Hs v2 ks := lsW_rep r2
    have B2 : Bs A0 H (jn A0 Hs) H2 := (Bs.start eA).go e2 ⟨s2, fun b u z => .inr (o2 b u z)⟩
    have x2 : Ex Hs (jn A0 Hs) := jn_r (eA.trans e2) s2
    have raise : ∀ {n : Int} {H1 : Hp}, Rz CLo "index" (.int n) H E → Ex H H1 → ∀ d, H1 d = none → E (.ref CLo) (some d) (upd H1 d (.xd [("index", .int n)])) := fun q e d nd => q d _ (e.trans (Ex.new nd)) (exf e nd) upd_same
    -- the loop
    have loop : ∀ (a : Addr) (us : List V) (n : Nat) (H1 : Hp) (tz : TS), u = .ref a → SeqAt A0 a us → us.length ≤ 1000 → n ≤ us.length → (∀ i x, i < n → us[i]? = some x → SlB ks A0 x true) → (∀ x, us[n]? = some x → SlB ks A0 x false ∧ Rz CLo "index" (.int (n : Int)) H E) → Bs A0 H (jn A0 Hs) H1 →
        (n = us.length → ∀ y3 y4 H3, Bs A0 H (jn A0 Hs) H3 → tz { nx := fun _ H' => Q .non H', rt := Q } [some v, some u, some v2, y3, y4] H3) →
        tSeq (tFor (iEnumSq K (tVar 1)) (gTup K 2 (gCons (gName 3) (gCons (gName 4) gNil))) (tIfS (tNot (tB (tCall spSlG [] E0 (tCons (tVar 2) (tCons (tVar 4) tNil))))) (fun D σ H => tMk1 CLo "index" (tVar 3) σ H E) tNext)) tz { nx := fun _ H' => Q .non H', rt := Q } [some v, some u, some v2, none, none] H1 := by
      intro a us n H1 tz ea hs hl hn ok no B1 fin
      subst ea
      refine ⟨.ref a, rfl, a, rfl, ?_⟩
      have body : ∀ (i : Nat) (x : V) (y3 y4 : Option V) (H' H'' : Hp), i ≤ n → i < us.length → Bs A0 H (jn A0 Hs) H' → YPair (fun i => some (.int (i : Nat))) (fun i => us[i]?) i H' x H'' → ∀ (D : Ends), (i < n → ∀ y3 y4 H3, Bs A0 H (jn A0 Hs) H3 → D.nx [some v, some (.ref a), some v2, y3, y4] H3) →
          gTup K 2 (gCons (gName 3) (gCons (gName 4) gNil)) x [some v, some (.ref a), some v2, y3, y4] H'' fun σ2 H3 => tIfS (tNot (tB (tCall spSlG [] E0 (tCons (tVar 2) (tCons (tVar 4) tNil))))) (fun D σ H => tMk1 CLo "index" (tVar 3) σ H E) tNext D σ2 H3 := by
        intro i x y3 y4 H' H'' hi hlt B' hy D nx
        obtain ⟨T0, i0, xi, rfl, nT, rfl, e1, e2'⟩ := hy
        cases e1
        have B3 : Bs A0 H (jn A0 Hs) (upd H' T0 (.tup [.int (i : Nat), xi])) := B'.mono (Ex.new nT)
        refine ⟨T0, [.int (i : Nat), xi], rfl, .inl (.inl upd_same), rfl, .int (i : Nat), [xi], rfl, xi, [], rfl, rfl, ?_⟩
        have cl : ∀ b, SlB ks A0 xi b → EvT (tNot (tB (tCall spSlG [] E0 (tCons (tVar 2) (tCons (tVar 4) tNil))))) [some v, some (.ref a), some v2, some (.int (i : Nat)), some xi] (jn A0 Hs) (!b) := fun b hb => et_not (et_B fun H5 e5 Q5 q5 => ⟨v2, rfl, xi, rfl, v2, xi, ks, b, jn A0 Hs, rfl, e5, DV.ext x2 p2, ?_, q5⟩)
        · by_cases hin : i < n
          · exact b_if B3 (cl true (ok i xi hin e2')) (fun z => by cases z) fun _ H5 B5 => nx hin _ _ H5 B5
          · have en : i = n := by omega
            subst en
            obtain ⟨n1, n2⟩ := no xi e2'
            exact b_if B3 (cl false n1) (fun _ H5 B5 => ⟨.int (i : Nat), rfl, raise n2 B5.e⟩) (fun z => by cases z)
        · rcases hb with ⟨t, k, kf, rfl⟩ | ⟨a', us', rfl, k1, k2, k3, rfl⟩
          · exact .inl ⟨t, k.ext jn_l, kf, rfl⟩
          · exact .inr ⟨a', us', rfl, k1.ext jn_l, fun u m => (k2 u m).ext jn_l, k3, rfl⟩
      have dn : n = us.length ∨ n < us.length := by omega
      rcases hs with hs | hs
      · have sq : ∀ {H'}, Bs A0 H (jn A0 Hs) H' → SqL K H' a us := fun B => sq_of (B.h _ _ (jn_l _ _ hs))
        refine .inl ⟨⟨us, sq B1⟩, for_it walk_enum (fun i σ H' => i ≤ n ∧ ∃ y3 y4, σ = [some v, some (.ref a), some v2, y3, y4] ∧ Bs A0 H (jn A0 Hs) H') ⟨Nat.zero_le _, none, none, rfl, B1⟩ (fun i σ H' _ p => sq p.2.choose_spec.choose_spec.2) (fun i x σ H' H'' hi p hy => ?_) fun σ H' p => ?_⟩
        · obtain ⟨hin, y3, y4, rfl, B'⟩ := p
          exact body i x y3 y4 H' H'' hin hi B' hy _ fun h y3 y4 H3 B3 => ⟨h, y3, y4, rfl, B3⟩
        · obtain ⟨hin, y3, y4, rfl, B'⟩ := p
          exact fin (by omega) y3 y4 H' B'
      · have sq : ∀ {H'}, Bs A0 H (jn A0 Hs) H' → SqT K H' a us := fun B => st_of (B.h _ _ (jn_l _ _ hs))
        refine .inr ⟨⟨us, sq B1⟩, for_it walk_enumT (fun i σ H' => i ≤ n ∧ ∃ y3 y4, σ = [some v, some (.ref a), some v2, y3, y4] ∧ Bs A0 H (jn A0 Hs) H') ⟨Nat.zero_le _, none, none, rfl, B1⟩ (fun i σ H' _ p => sq p.2.choose_spec.choose_spec.2) (fun i x σ H' H'' hi p hy => ?_) fun σ H' p => ?_⟩
        · obtain ⟨hin, y3, y4, rfl, B'⟩ := p
          exact body i x y3 y4 H' H'' hin hi B' hy _ fun h y3 y4 H3 B3 => ⟨h, y3, y4, rfl, B3⟩
        · obtain ⟨hin, y3, y4, rfl, B'⟩ := p
          exact fin (by omega) y3 y4 H' B'
    have t1 : ∀ {t : String}, Kd A0 u t → EvT (tNot (tB (tCall spIsListG [] E0 (tCons (tVar 1) tNil)))) [some v, some u, some v2, none, none] (jn A0 Hs) (!isLB t) := fun k => et_not (et_B (ev_isListG (σ := [some v, some u, some v2, none, none]) (i := 1) (E := E0) rfl (k.ext jn_l)))
    have t2 : ∀ (a : Addr) (us : List V), u = .ref a → SeqAt A0 a us → EvT (tTest (tOp rEq (tCB (rLenS K) (tCons (tVar 1) tNil)) (tC (.int 0)))) [some v, some u, some v2, none, none] (jn A0 Hs) (decide (V.int (us.length : Int) = V.int 0)) := fun a us eu hs => et_test (ev_op (ev_lenS (K := K) (er_varR (i := 1) (R1 := SqR fun _ vs => vs = us) rfl ⟨a, us, eu, hs.ext jn_l, rfl⟩) (fun _ _ _ _ h => h) (n := us.length) fun H vs h => by rw [h]) ev_c (rv_eq rfl))
    show gName 2 v2 (L2.start NFo [v, u]) H2 _
    refine nm_go ?_
    dsimp only
    cases hq with
    | none k kf q =>
      have t1' := t1 k
      rw [kf] at t1'
      exact b_seqIf (σ := [some v, some u, some v2, none, none]) B2 (et_orT t1') (fun _ H3 B3 => raise q B3.e) (fun z => by cases z)
    | nil eu hs q =>
      subst eu
      obtain ⟨t, k, kt⟩ := kd_seq hs
      have t1' := t1 k
      rw [kt] at t1'
      have t2' := t2 _ _ rfl hs
      exact b_seqIf (σ := [some v, some (.ref _), some v2, none, none]) B2 (et_orF t1' t2') (fun _ H3 B3 => raise q B3.e) (fun z => by cases z)
    | bad eu hs hl hn ok no q =>
      rename_i a us n
      subst eu
      obtain ⟨t, k, kt⟩ := kd_seq hs
      have t1' := t1 k
      rw [kt] at t1'
      have t2' := t2 _ _ rfl hs
      rw [decide_eq_false (fun z => by have := V.int.inj z; omega)] at t2'
      refine b_seqIf (σ := [some v, some (.ref _), some v2, none, none]) B2 (et_orF t1' t2') (fun z => by cases z) fun _ H3 B3 => ?_
      exact loop a us n H3 _ rfl hs hl (Nat.le_of_lt hn) ok (fun x hx => ⟨no x hx, q⟩) B3 fun z => by omega
    | ok h ne l g q =>
      rename_i ls
      have h' := h
      obtain ⟨a, us, rfl, hs, hp⟩ := h
      have hp' : Paired (fun v x => LsR x A0 v) us ls := hp
      have len : us.length = ls.length := Paired.length hp'
      have pos : 0 < ls.length := List.length_pos_iff.mpr ne
      obtain ⟨t, k, kt⟩ := kd_seq hs
      have t1' := t1 k
      rw [kt] at t1'
      have t2' := t2 _ _ rfl hs
      rw [decide_eq_false (fun z => by have := V.int.inj z; omega)] at t2'
      refine b_seqIf (σ := [some v, some (.ref _), some v2, none, none]) B2 (et_orF t1' t2') (fun z => by cases z) fun _ H3 B3 => ?_
      refine loop a us us.length H3 _ rfl hs (by omega) (Nat.le_refl _) (fun i x hi hx => ?_) (fun x hx => by rw [List.getElem?_eq_none (Nat.le_refl _)] at hx; cases hx) B3 fun _ y3 y4 H4 B4 => ?_
      · have hk : ls[i]? = some ls[i] := List.getElem?_eq_getElem (by omega)
        obtain ⟨g1, g2, g3⟩ := g _ (List.getElem_mem _)
        exact sl_good (pat (F := fun v x => LsR x A0 v) hp' hx hk) gk g1 g2 g3
      have lc := ew_lcS (K := K) (A := jn A0 Hs) (σ := [some v, some (.ref a), some v2, y3, y4]) (tl := tVar 1) (te := tCB rSortSq (tCons (tVar 4) tNil)) (S := fun l => LstW StrW l) (j := 4) (vs := [4]) lsR_mon (fun l => lstW_mon strW_mon) (fun l : List Str => srt l) (er_varR (i := 1) rfl (llR_mon _ _ _ _ jn_l h')) (by omega) (fun _ => rfl)
        fun x y H1 e m r => ew_sortS (er_varR (i := 4) rfl r) (by have := sub_len (g x m).2.2 (g x m).2.1; have := gk.len; omega)
      refine ⟨v2, rfl, ?_⟩
      show tCons (tCall _ _ _ _) tNil _ H4 _
      refine tc_go ?_
      refine lc H4 B4.h _ fun u6 H6 B6 L6 e6 s6 o6 r6 n6 d6 => ?_
      have r6' : LlW (ls.map srt) B6 u6 L6 := r6
      have ll : (ls.map srt).length ≤ 1000 := by rw [List.length_map]; exact l
      have l2 : ∀ x ∈ ls.map srt, x.length ≤ 100 := fun x m => by
        obtain ⟨y, hy, rfl⟩ := List.mem_map.mp m
        rw [srt_len]
        have := sub_len (g y hy).2.2 (g y hy).2.1
        have := gk.len
        omega
      have lt6 : Lt T H H6 := Lt.of tt (B4.e.trans e6)
      refine ⟨u6, ls.map srt, B6, rfl, s6, lt6.t, llW_rep r6', ⟨ll, l2⟩, fun z8 H8 B8 lt8 s8 r8 => ?_⟩
      refine ⟨by show 2 ≤ sizeLine; decide, fun T2 nT2 => ?_⟩
      have eHs : Ex Hs H6 := x2.trans (B4.h.trans e6)
      have e58 : Ex (nt Hs) H8 := nt_ex eHs lt8.n
      have dj : ∀ b o u, (nt Hs) b = some o → B8 b = some u → False := fun b o u h5 h8 => by
        rcases s8.o b u h8 with w | w
        · have w2 := o6 b u (nt_of w).1
          rw [B4.h _ _ (x2 _ _ (nt_of h5).1)] at w2
          cases w2
        · rw [nt_mk (eHs _ _ (nt_of h5).1) (nt_of h5).2] at w
          cases w
      have nd : (leastOf (ls.map srt)).Nodup := (least_min (xs := ls.map srt) fun x m => by
        obtain ⟨y, hy, rfl⟩ := List.mem_map.mp m
        exact srt_ascS (g y hy).2.2).asc.nodup (lex_tot sl_tot)
      obtain ⟨M, w1, w2, w3⟩ := fmW_of (DVN.extN (nt_ext Hs) p2) r8 nd dj e58 s8.e nT2
      have lt0 := lt6.trans lt8
      refine q (.ref T2) _ _ M (lt0.go (Ex.new nT2)) (upd_ex2 (jn_ex e58 s8.e)) (fun b o h => ?_) w1 w2 w3
      by_cases y : b = T2
      · rw [y]
        exact exf (nt_ex (Ex.refl H) lt0.n) nT2
      · rw [upd_ne y] at h
        rcases jn_of h with w | w
        · exact exf nt_sub (o2 b o (nt_of w).1)
        · rcases s8.o b o w with k | k
          · exact exf nt_sub (exf B4.e (o6 b o (nt_of k).1))
          · exact exf (nt_mono lt6.n) k
end
end K07
/-! text E15 -/
set_option Elab.async false
set_option linter.all false
set_option maxRecDepth 100000
set_option maxHeartbeats 4000000
/-! what is told, or how it is refused: a lambda called within a try of many clauses -/
namespace K07
open PySem PySem.Spec PyProof.Rows L2 Evl PySem.W Dw Dw.DV RZ StX Lot LmV LamX NdefX XvC XvE TryA
/-- a statement's reading, the frame's size being known -/
def tsLen (n : Nat) (t : TS) : TS := fun D σ H => σ.length = n → t D σ H
theorem pss_len {X : Cx} {ss : List Stmt} {t : TS} (h : PSs X ss t) : PSs X ss (tsLen X.N.length t) := ⟨fun pins s σ H D I k => h.run pins s σ H D I (k I.len)⟩
/-- the classes of the clauses, by name, and what is known of them -/
abbrev metN : List Str := ["BadFamily", "BadCouncil", "BadKeepers", "BadKeeper", "BadLots", "BadNumber", "BadOtherNumber", "BadOtherFamily", "BadNaming", "LastKeeper", "NoLots"]
structure Mx (K : PySem.W.Frag) (mg : Str → Option Value) (c : Nat → Addr) : Prop where
  g : ∀ i x, metN[i]? = some x → mg x = some (.ref (c i))
  e : ∀ i ∈ [2, 4, 9, 10], ∀ j, j < 11 → PySem.W.exmOne K (.ref (c i)) (.ref (c j)) = some (decide (i = j))
  x2 : XfC K (c 2)
  x4 : XfC K (c 4)
  n2 : PySem.W.findIn K (.ref (c 2)) "thing" = some none
  n4 : PySem.W.findIn K (.ref (c 4)) "index" = some none
/-- (word, v) told -/
def kTold (word : Str) (Q : VK) : VK := fun v H => 2 ≤ sizeLine ∧ ∀ p, H p = none → Q (.ref p) (upd H p (.tup [.str word, v]))
/-- how it is refused -/
def EMet (c : Nat → Addr) (Q : VK) : XK := fun cls d H =>
  (cls = .ref (c 2) ∧ ∃ dd fs v, d = some dd ∧ H dd = some (.xd fs) ∧ fs.lookup ("thing" : Str) = some v ∧ kTold "keepers" Q v H) ∨
  (cls = .ref (c 4) ∧ ∃ dd fs v, d = some dd ∧ H dd = some (.xd fs) ∧ fs.lookup ("index" : Str) = some v ∧ kTold "lots" Q v H) ∨
  (cls = .ref (c 9) ∧ kTold "last" Q .non H) ∨ (cls = .ref (c 10) ∧ kTold "none" Q .non H)
def TMet (c : Nat → Addr) : (XK → Hp → VK → Prop) → Hp → VK → Prop := fun tl H Q => tl (EMet c Q) H (kTold "told" Q)
abbrev NMet : List Str := ["query", "e"]
theorem scMet : FnScope NMet ["query"] (defScope (top 44)) := ⟨rfl, rfl, rfl, by decide +kernel, rfl, by decide +kernel, by decide +kernel⟩
def tsN (word : Str) : Addr → Value → Option Addr → TS := fun _ _ _ => tRet (tTup (tCons (tC (.str word)) (tCons (tC .non) tNil)))
def tsF (C : Addr) (fld word : Str) : Addr → Value → Option Addr → TS := fun a cls d => tsLen 2 (tRet (tTup (tCons (tC (.str word)) (tCons (tXf a cls d C fld (tVar 1)) tNil))))
def tsV : Addr → Value → Option Addr → TS := fun _ _ _ => tNever
def wO (K : PySem.W.Frag) (c : Value) (ts : Addr → Value → Option Addr → TS) (W : WX) (D : Ends) : WX := fun cls d σ H => ∃ b, PySem.W.exmOne K cls c = some b ∧ (b = true → ∀ a, H a = none → ts a cls d D σ H) ∧ (b = false → W cls d σ H)
def metW (K : PySem.W.Frag) (c : Nat → Addr) (D : Ends) : WX :=
  wAs K (.ref (c 0)) 1 tsV (wAs K (.ref (c 1)) 1 tsV (wAs K (.ref (c 2)) 1 (tsF (c 2) "thing" "keepers") (wAs K (.ref (c 3)) 1 tsV (wAs K (.ref (c 4)) 1 (tsF (c 4) "index" "lots")
    (wAs K (.ref (c 5)) 1 tsV (wAs K (.ref (c 6)) 1 tsV (wAs K (.ref (c 7)) 1 tsV (wAs K (.ref (c 8)) 1 tsV (wO K (.ref (c 9)) (tsN "last") (wO K (.ref (c 10)) (tsN "none") (fun _ _ _ _ => False) D) D) D) D) D) D) D) D) D) D) D
section
variable {K : PySem.W.Frag} {mg : Str → Option Value} {c : Nat → Addr} {D : Ends} {W : WX} {d : Option Addr} {σ : L2.St} {H : Hp} {ts : Addr → Value → Option Addr → TS}
theorem wAs_no {i j : Nat} (m : Mx K mg c) (hi : i ∈ [2, 4, 9, 10]) (hj : j < 11) (ne : i ≠ j) (h : W (.ref (c i)) d σ H) : wAs K (.ref (c j)) 1 ts W D (.ref (c i)) d σ H := ⟨false, by rw [m.e i hi j hj, decide_eq_false ne], fun z => (by cases z), fun _ => h⟩
theorem wAs_yes {i : Nat} (m : Mx K mg c) (hi : i ∈ [2, 4, 9, 10]) (hj : i < 11) (h : ∀ a, H a = none → ts a (.ref (c i)) d { nx := fun σ' H' => D.nx (σ'.set 1 none) H', rt := D.rt, bk := fun σ' H' => D.bk (σ'.set 1 none) H', ct := fun σ' H' => D.ct (σ'.set 1 none) H' } (σ.set 1 (some (.ref a))) H) : wAs K (.ref (c i)) 1 ts W D (.ref (c i)) d σ H := ⟨true, by rw [m.e i hi i hj, decide_eq_true rfl], fun _ => h, fun z => (by cases z)⟩
theorem wO_no {i j : Nat} (m : Mx K mg c) (hi : i ∈ [2, 4, 9, 10]) (hj : j < 11) (ne : i ≠ j) (h : W (.ref (c i)) d σ H) : wO K (.ref (c j)) ts W D (.ref (c i)) d σ H := ⟨false, by rw [m.e i hi j hj, decide_eq_false ne], fun z => (by cases z), fun _ => h⟩
theorem wO_yes {i : Nat} (m : Mx K mg c) (hi : i ∈ [2, 4, 9, 10]) (hj : i < 11) (h : ∀ a, H a = none → ts a (.ref (c i)) d D σ H) : wO K (.ref (c i)) ts W D (.ref (c i)) d σ H := ⟨true, by rw [m.e i hi i hj, decide_eq_true rfl], fun _ => h, fun z => (by cases z)⟩
theorem met_wish (m : Mx K mg c) {Q : VK} (hD : D.rt = Q) {cls : Value} (h : EMet c Q cls d H) : metW K c D cls d σ H := by
  have two : 1 < 2 := by decide
  rcases h with ⟨rfl, dd, fs, v, rfl, h1, h2, h3⟩ | ⟨rfl, dd, fs, v, rfl, h1, h2, h3⟩ | ⟨rfl, h3⟩ | ⟨rfl, h3⟩
  · refine wAs_no m (by decide) (by decide) (by decide) (wAs_no m (by decide) (by decide) (by decide) (wAs_yes m (by decide) (by decide) fun a na l => ?_))
    refine ⟨.ref a, List.getElem?_set_self (by rw [List.length_set] at l; omega), rfl, rfl, dd, fs, v, rfl, h1, h2, ?_⟩
    subst hD
    exact h3
  · refine wAs_no m (by decide) (by decide) (by decide) (wAs_no m (by decide) (by decide) (by decide) (wAs_no m (by decide) (by decide) (by decide) (wAs_no m (by decide) (by decide) (by decide) (wAs_yes m (by decide) (by decide) fun a na l => ?_))))
    refine ⟨.ref a, List.getElem?_set_self (by rw [List.length_set] at l; omega), rfl, rfl, dd, fs, v, rfl, h1, h2, ?_⟩
    subst hD
    exact h3
  · refine wAs_no m (by decide) (by decide) (by decide) (wAs_no m (by decide) (by decide) (by decide) (wAs_no m (by decide) (by decide) (by decide) (wAs_no m (by decide) (by decide) (by decide) (wAs_no m (by decide) (by decide) (by decide) (wAs_no m (by decide) (by decide) (by decide) (wAs_no m (by decide) (by decide) (by decide)
      (wAs_no m (by decide) (by decide) (by decide) (wAs_no m (by decide) (by decide) (by decide) (wO_yes m (by decide) (by decide) fun a na => ?_)))))))))
    subst hD
    exact h3
  · refine wAs_no m (by decide) (by decide) (by decide) (wAs_no m (by decide) (by decide) (by decide) (wAs_no m (by decide) (by decide) (by decide) (wAs_no m (by decide) (by decide) (by decide) (wAs_no m (by decide) (by decide) (by decide) (wAs_no m (by decide) (by decide) (by decide) (wAs_no m (by decide) (by decide) (by decide)
      (wAs_no m (by decide) (by decide) (by decide) (wAs_no m (by decide) (by decide) (by decide) (wO_no m (by decide) (by decide) (by decide) (wO_yes m (by decide) (by decide) fun a na => ?_))))))))))
    subst hD
    exact h3
end
section
variable {X : Cx} {c : Nat → Addr} {g : Addr} {cdg : Value} {q : Str}
theorem met_gives (m : Mx X.K X.mg c) : GivesTo X NMet "_law_a_met" (defScope (top 44)) g cdg (defBody (top 44)) "query" q (TMet c) := by
  intro f c' s H Q tl act hc h
  have nm : ∀ (i : Nat) (x : Str), metN[i]? = some x → Gl (cxOf C8.CX0 X.prog X.w X.K X.mg X.base NMet "_law_a_met" (defScope (top 44)) g cdg X.A X.stack s H C8.E0).nox x → (x == ("__debug__" : Str)) = false → Names (cxOf C8.CX0 X.prog X.w X.K X.mg X.base NMet "_law_a_met" (defScope (top 44)) g cdg X.A X.stack s H C8.E0).nox x (.ref (c i)) := fun i x hx hg hd => ⟨hg, hd, .inl (m.g i x hx)⟩
  refine ⟨_, pss_one (ps_try_hb (X := (cxOf C8.CX0 X.prog X.w X.K X.mg X.base NMet "_law_a_met" (defScope (top 44)) g cdg X.A X.stack s H C8.E0).nox) (Wf := metW X.K c)
      (tb := fun W D σ H => ∃ Ech : XK, (∀ cls d σ' H', Ech cls d H' → W cls d σ' H') ∧ σ[0]? = some (some (.ref f)) ∧ H c' = some (CodeO c' q) ∧ tl Ech H (kTold "told" D.rt)) rfl rfl (fun W pn xe tk _ => ?_) (fun pins D ok => ?_)), ?_⟩
  · refine ⟨fun pins s' σ H' D I h' => ?_⟩
    obtain ⟨Ech, hW, h1, h2, h3⟩ := h'
    exact (pss_one (ps_ret (pe_tup (pa_cons pe_str (pa_cons (act W pn xe Ech _ _ tk hW) pa_nil))))).run pins s' σ H' D I ⟨h1, h2, h3⟩
  · refine hb_as ok rfl scMet.nd (i := 1) rfl rfl (nm 0 _ rfl (by rfl) (by rfl)) (fun a oe cls d pn hz hf => pss_never) ?_
    refine hb_as ok rfl scMet.nd (i := 1) rfl rfl (nm 1 _ rfl (by rfl) (by rfl)) (fun a oe cls d pn hz hf => pss_never) ?_
    refine hb_as ok rfl scMet.nd (i := 1) rfl rfl (nm 2 _ rfl (by rfl) (by rfl)) (fun a oe cls d pn hz hf => pss_len (pss_one (ps_ret (pe_tup (pa_cons pe_str (pa_cons (pe_xf m.x2 m.n2 hz hf (pv 1)) pa_nil)))))) ?_
    refine hb_as ok rfl scMet.nd (i := 1) rfl rfl (nm 3 _ rfl (by rfl) (by rfl)) (fun a oe cls d pn hz hf => pss_never) ?_
    refine hb_as ok rfl scMet.nd (i := 1) rfl rfl (nm 4 _ rfl (by rfl) (by rfl)) (fun a oe cls d pn hz hf => pss_len (pss_one (ps_ret (pe_tup (pa_cons pe_str (pa_cons (pe_xf m.x4 m.n4 hz hf (pv 1)) pa_nil)))))) ?_
    refine hb_as ok rfl scMet.nd (i := 1) rfl rfl (nm 5 _ rfl (by rfl) (by rfl)) (fun a oe cls d pn hz hf => pss_never) ?_
    refine hb_as ok rfl scMet.nd (i := 1) rfl rfl (nm 6 _ rfl (by rfl) (by rfl)) (fun a oe cls d pn hz hf => pss_never) ?_
    refine hb_as ok rfl scMet.nd (i := 1) rfl rfl (nm 7 _ rfl (by rfl) (by rfl)) (fun a oe cls d pn hz hf => pss_never) ?_
    refine hb_as ok rfl scMet.nd (i := 1) rfl rfl (nm 8 _ rfl (by rfl) (by rfl)) (fun a oe cls d pn hz hf => pss_never) ?_
    refine hb_one ok rfl (nm 9 _ rfl (by rfl) (by rfl)) (fun a oe cls d pn hz hf => pss_one (ps_ret (pe_tup (pa_cons pe_str (pa_cons pe_non pa_nil))))) ?_
    refine hb_one ok rfl (nm 10 _ rfl (by rfl) (by rfl)) (fun a oe cls d pn hz hf => pss_one (ps_ret (pe_tup (pa_cons pe_str (pa_cons pe_non pa_nil))))) ?_
    exact hb_nil rfl rfl L2.takes0
  · exact ⟨EMet c Q, fun cls d σ' H' z => met_wish m rfl z, rfl, hc, h⟩
end
end K07
/-! text W37 -/
set_option Elab.async false
set_option linter.all false
set_option maxRecDepth 100000
set_option maxHeartbeats 2000000
/-! f(b = v, a = u): a def of two parameters called by their names, the latter first -/
namespace KwX
open PySem PySem.Spec PyProof.Rows L2
def sw {α : Type} : List α → List α
  | [a, b] => [b, a]
  | _ => []
def tCallSw (sp : Sp) (E : XK) (tk : TA) : TE := fun σ H Q => tk σ H fun zs H2 => zs.length = 2 ∧ sp (sw zs) H2 Q E
section
variable {X : Cx} {CX : CXT} {k : Nat} {f : Addr} {fd : FuncData} {sp : Sp} {E : XK} {x qual a b : Str} {params : Arguments} {body : List Stmt} {scope : Scope} {p pos : Pos} {kws : List Keyword} {tk : TA}
theorem binds_sw {K : PySem.W.Frag} (F : FunD K x qual params body scope [] [] f fd)
    (h : ∀ (kV doc pm : Value) (an : Option Addr) (cdv ct v u : Value), bindArgs (PySem.W.fnOf x qual params body scope .none kV doc pm an cdv ct) ⟨[], [(b, v), (a, u)]⟩ = pure [(a, u), (b, v)]) (s : Shared) (v u : Value) : BindsTo s fd ⟨[], [(b, v), (a, u)]⟩ [(a, u), (b, v)] := by
  obtain ⟨oc, od, dV, kV, doc, pm, an, cdv, ct, osl, rfl, lk, hcd, hD, hK⟩ := F.ex
  rcases hD with ⟨_, rfl⟩ | ⟨e', _⟩
  · exact .of_eq (h kV doc pm an cdv ct v u)
  · exact absurd rfl e'
theorem pe_callSw (F : FnOk X.prog X.w X.K X.mg X.base CX k f fd [a, b] sp) (hr : Room k X.A) (hg : Gl X x) (hm : X.mg x = some (.ref f)) (hk : PySem.W.keepIn X.K (.ref f) = true) (hb : ∀ (s : Shared) (v u : Value), BindsTo s fd ⟨[], [(b, v), (a, u)]⟩ [(a, u), (b, v)])
    (hx : Passes CX X E) (hkw : PK X kws tk) (hall : (backToKw pos (keywordEach kws X.env)).all (·.1.isSome) = true := by rfl) (hks : (backToKw pos (keywordEach kws X.env)).filterMap (·.1) = [b, a] := by rfl) (hdb : (x == ("__debug__" : Str)) = false := by decide)
    (hpl : ((backTo pos (starEach [] X.env)).any (·.1) || (backToKw pos (keywordEach kws X.env)).any (·.1.isNone)) = false := by rfl) : PE X (.Call (.Name x p) [] kws pos) (tCallSw sp E tk) := by
  constructor
  intro pins s σ H Q I h
  apply wpAny_Call_Name_kw
  refine ld_glob I hg hm (PySem.W.callWith_KW0 (h₀ := X.base) I.ok.mod.kin hk hall ?_ hpl) hdb
  refine thn (hkw.run pos pins s σ H _ I h) ?_
  rintro ws s2 ⟨zs, H2, I2, rz, l2, q2⟩
  refine ⟨I2.kIn, ?_⟩
  rw [hks]
  match zs, rz, l2, q2 with
  | [y, z], .cons (b := v) r1 (.cons (b := u) r2 .nil), _, q2 =>
    refine wpAny_call (codeAny_mono (F.run X.A X.stack s2 H2 ⟨[], [(b, v), (a, u)]⟩ [u, v] [z, y] Q E hr I2.env0 (hb s2 v u) (.cons r2 (.cons r1 .nil)) q2) fun r s' w => ?_)
    rcases r with e | fl
    · exact hx pins σ H2 s2 e s' I2 w
    · cases fl with
      | ret u => exact I2.after w
      | _ => exact w.elim
end
end KwX
/-! text E16 -/
set_option Elab.async false
set_option linter.all false
set_option maxRecDepth 100000
set_option maxHeartbeats 4000000
/-! _law_loose: lists and tuples made anew, each a list or a tuple as it is drawn -/
namespace K07
open PySem PySem.Spec PyProof.Rows L2 Evl PySem.W Dw Dw.DV RZ StX Lot LmV LamX NdefX
/-- lists, tuples of atoms: so deep, so many lists and tuples -/
def Sz (A : Hp) : Nat → Nat → V → Prop
  | 0, _, _ => False
  | d + 1, m, v => (atomV v = true ∧ m = 0) ∨ ∃ a vs ms, v = .ref a ∧ SeqAt A a vs ∧ vs.length ≤ 1000 ∧ Paired (fun v k => Sz A d k v) vs ms ∧ m = ms.sum + 1
/-- u in B is as v in A, lists and tuples not told apart -/
def Lz (A B : Hp) : Nat → V → V → Prop
  | 0 => fun _ _ => False
  | d + 1 => fun v u => (u = v ∧ atomV v = true) ∨ ∃ a b vs us, v = .ref a ∧ u = .ref b ∧ SeqAt A a vs ∧ SeqAt B b us ∧ Paired (Lz A B d) vs us
theorem Lz.ext {A B B' : Hp} (e : Ex B B') : ∀ {d : Nat} {v u : V}, Lz A B d v u → Lz A B' d v u
  | 0, _, _, h => h.elim
  | d + 1, v, u, h => by
    rcases h with h | ⟨a, b, vs, us, h1, h2, h3, h4, h5⟩
    · exact .inl h
    · exact .inr ⟨a, b, vs, us, h1, h2, h3, h4.ext e, pimp (fun _ _ z => Lz.ext e z) h5⟩
theorem sum_take {ms : List Nat} {i k : Nat} (h : ms[i]? = some k) : (ms.take (i + 1)).sum = (ms.take i).sum + k := by
  rw [List.take_add_one, h, List.sum_append]
  simp
theorem sum_le (ms : List Nat) (i : Nat) : (ms.take i).sum ≤ ms.sum := by
  have h : (ms.take i ++ ms.drop i).sum = ms.sum := by rw [List.take_append_drop]
  rw [List.sum_append] at h
  omega
theorem atom_kd {H : Hp} {v : V} (h : atomV v = true) : ∃ t, Kd H v t ∧ isLB t = false ∧ t ≠ "dict" := by
  cases v with
  | non => exact ⟨_, .non, by decide, by decide⟩
  | bl b => exact ⟨_, .bl b, by decide, by decide⟩
  | int i => exact ⟨_, .int i, by decide, by decide⟩
  | str x => exact ⟨_, .str x, by decide, by decide⟩
  | _ => cases h
theorem seq_kd {H : Hp} {a : Addr} {us : List V} (h : SeqAt H a us) : ∃ t, Kd H (.ref a) t ∧ isLB t = true ∧ t ≠ "dict" := h.elim (fun h => ⟨_, .lst h, by decide, by decide⟩) fun h => ⟨_, .tup h, by decide, by decide⟩
section
variable {P : Program} {w : World} {K : PySem.W.Frag} {mg : Str → Option Value} {base : Heap} {f : Addr} {fd : FuncData} {fD : Addr} {dD : FuncData}
def spLo (d : Nat) : Sp := fun vs H Q _ => ∃ (p c : Addr) (n : Int) (v : V) (A : Hp) (m : Nat), vs = [.ref p, v] ∧ St H p c n ∧ n + (m : Int) ≤ 900000 ∧ Ex A H ∧ A p = none ∧ A c = none ∧ Sz A d m v ∧
  ∀ u H' Hs, ExB [p, c] H H' → St H' p c (n + (m : Int)) → Ex Hs H' → (∀ b o, Hs b = some o → H b = none) → Lz A Hs d v u → Q u H'
abbrev NLo : List Str := ["stream", "thing", "key", "found", "part"]
theorem scLo : FnScope NLo ["stream", "thing"] (defScope (top 51)) := ⟨rfl, rfl, rfl, by decide +kernel, rfl, by decide +kernel, by decide +kernel⟩
theorem ok_loose (F : FnP K "_law_loose" (top 51) f fd) (gs : mg "_law_loose" = some (.ref f)) (B : Bn mg) (DR : Df K mg "_law_draw" 46 fD dD) : ∀ d, FnOk P w K mg base CX0 (d + 1) f fd ["stream", "thing"] (spLo d)
  | 0 => ⟨fun _ _ _ _ h => by
      obtain ⟨_, _, _, _, _, _, _, _, _, _, _, _, h, _⟩ := h
      exact h.elim, fun _ _ _ _ _ _ _ _ _ _ _ _ _ h => by
      obtain ⟨_, _, _, _, _, _, _, _, _, _, _, _, h, _⟩ := h
      exact h.elim⟩
  | d + 1 => by
    have G := ok_loose F gs B DR d
    have bS : Binds K fd ["stream", "thing"] [] := F.bindsN fun _ _ _ _ _ _ us hl => match us, hl with | [_, _], _ => rfl
    have GD : FnOk P w K mg base CX0 1 fD dD ["stream", "many"] spDraw := ok_draw DR.F B.int
    have bD : Binds K dD ["stream", "many"] [] := DR.F.bindsN fun _ _ _ _ _ _ us hl => match us, hl with | [_, _], _ => rfl
    refine F.ok scLo (fun vs H Q E h => ?_) (fun cdv A0 outer s H vs Q E hr h => ?_)
    · obtain ⟨p, c, n, v, A, m, rfl, _⟩ := h
      rfl
    · obtain ⟨p, c, n, v, A, m, rfl, hst, hn, eA, Ap, Ac, hT, q⟩ := h
      refine ⟨_, PSs.nox (pss_cons (ps_if (pt_val (pe_ist K "dict" 1 B.isinstance B.dict)) pss_never pss_nil)
        (pss_cons (ps_if (pt_not (pt_val (pe_callB call_isiT (by rfl) B.isinstance (by decide +kernel) (pa_cons (pv 1) (pa_cons (pe_tup (pa_cons (pe_bltn (v := .ty "list") (by rfl) B.list (by decide +kernel) rfl) (pa_cons (pe_bltn (v := .ty "tuple") (by rfl) B.tuple (by decide +kernel) rfl) pa_nil))) pa_nil)))))
            (pss_one (ps_ret (pv 1))) pss_nil)
        (pss_cons (ps_setLc (i := 3) (own := [("part", 4)]) (g := gName 4) (tt := tYes) (te := tCall (spLo d) [] E0 (tCons (tVar 0) (tCons (tVar 4) tNil))) rfl scLo.nd rfl rfl (sw_true rfl rfl (by rfl) (by rfl)) (pi_seq (pv 1)) (blkOk_by (N := NLo) (sc := defScope (top 51)) (by decide +kernel))
            (fun _ _ _ _ _ => pg_name (i := 4) scLo.nd rfl (.inl rfl)) (fun _ _ _ _ _ => pts_nil) (fun _ _ _ _ _ => pe_call G hr (by rfl) gs F.kp bS .nil pass0 (pa_cons (pv 0) (pa_cons (pv 4) pa_nil))))
        (pss_one (ps_ret (pe_ifExp (pt_cmpR op_eq (pe_call GD (hr.mono (by omega)) (by rfl) DR.g DR.F.kp bD .nil pass0 (pa_cons (pv 0) (pa_cons pe_int pa_nil))) pe_int (nomark _)) (pv 3) (pe_callTy call_tuple_of (by rfl) B.tuple (by decide +kernel) (pa_cons (pv 3) pa_nil)))))))), ?_⟩
      rcases hT with ⟨ha, rfl⟩ | ⟨a, vs, ms, rfl, hs, hl, hp, rfl⟩
      · obtain ⟨t, k, k1, k2⟩ := atom_kd (H := H) ha
        refine ⟨v, rfl, _, _, _, _, false, rfl, .ty _, k.ty, by rw [kD k, decide_eq_false k2], _, rfl, ?_⟩
        refine ⟨v, rfl, by show 2 ≤ sizeLine; decide, fun T nT => ?_⟩
        have e1 : Ex H (upd H T (.tup [.ty "list", .ty "tuple"])) := Ex.new nT
        refine ⟨_, T, _, _, _, false, rfl, upd_same, pLT, (k.ext e1).ty, by rw [kLT k, k1], _, rfl, ?_⟩
        exact ⟨v, rfl, q v _ (fun _ => none) (ExB.new nT) ((hst.new nT).up (by omega)) (fun _ _ z => by cases z) (fun _ _ z => by cases z) (.inl ⟨rfl, ha⟩)⟩
      · have hp' : Paired (fun v k => Sz A d k v) vs ms := hp
        have len : vs.length = ms.length := Paired.length hp'
        obtain ⟨t, k, k1, k2⟩ := seq_kd (hs.ext eA)
        refine ⟨.ref a, rfl, _, _, _, _, false, rfl, .ty _, k.ty, by rw [kD k, decide_eq_false k2], _, rfl, ?_⟩
        refine ⟨.ref a, rfl, by show 2 ≤ sizeLine; decide, fun T nT => ?_⟩
        have e1 : Ex H (upd H T (.tup [.ty "list", .ty "tuple"])) := Ex.new nT
        refine ⟨_, T, _, _, _, true, rfl, upd_same, pLT, (k.ext e1).ty, by rw [kLT k, k1], _, rfl, ?_⟩
        have st1 : St (upd H T (.tup [.ty "list", .ty "tuple"])) p c n := hst.new nT
        have sq : ∀ {H'}, ExB [p, c] H H' → SeqAt H' a vs := fun e => hs.ext (exb eA Ap Ac e)
        let Pv : Addr → Nat → Hp → Prop := fun D i H' => ExB [p, c] H H' ∧ St H' p c (n + (((ms.take i).sum : Nat) : Int)) ∧ ∃ ws Hw, H' D = some (.lst ws) ∧ Ex Hw H' ∧ (∀ b o, Hw b = some o → b ≠ D ∧ H b = none) ∧ Paired (Lz A Hw d) (vs.take i) ws
        have start : ∀ {D}, (upd H T (.tup [.ty "list", .ty "tuple"])) D = none → Pv D 0 (upd (upd H T (.tup [.ty "list", .ty "tuple"])) D (.lst [])) := fun {D} nD =>
          ⟨(ExB.new nT).trans (ExB.new nD), (st1.new nD).up (by simp), [], fun _ => none, upd_same, fun _ _ z => (by cases z), fun _ _ z => (by cases z), .nil⟩
        have turn : ∀ {D}, (upd H T (.tup [.ty "list", .ty "tuple"])) D = none → ∀ i z H', i < vs.length → Pv D i H' → vs[i]? = some z →
            tCall (spLo d) [] E0 (tCons (tVar 0) (tCons (tVar 4) tNil)) [some (.ref p), some (.ref a), none, none, some z] H' fun y H4 => ∃ acc, H4 D = some (.lst acc) ∧ acc.length < sizeLine ∧ Pv D (i + 1) (upd H4 D (.lst (acc ++ [y]))) := by
          intro D nD i z H' hi hI hz
          obtain ⟨g1, g2, ws, Hw, g3, g4, g5, g6⟩ := hI
          have hk : ms[i]? = some ms[i] := List.getElem?_eq_getElem (by omega)
          have szz : Sz A d ms[i] z := pat (F := fun v k => Sz A d k v) hp' hz hk
          have sl := sum_le ms (i + 1)
          have st' := sum_take hk
          refine ⟨.ref p, rfl, z, rfl, p, c, _, z, A, ms[i], rfl, g2, by omega, exb eA Ap Ac g1, Ap, Ac, szz, fun u H4 Hs x4 s4 e4 o4 l4 => ?_⟩
          have nD0 : H D = none := exf e1 nD
          have Dpc : D ∉ [p, c] := nPC hst nD0
          have D4 : H4 D = some (.lst ws) := x4 _ _ Dpc g3
          have Hwpc : ∀ b o, Hw b = some o → b ∉ [p, c] := fun b o z => nPC hst (g5 b o z).2
          have Hw4 : Ex Hw H4 := fun b o z => x4 b o (Hwpc b o z) (g4 _ _ z)
          have HsD : ∀ b o, Hs b = some o → b ≠ D := fun b o z w => by
            have := o4 b o z
            rw [w, g3] at this
            cases this
          have lw := pl1 g6
          rw [List.length_take] at lw
          refine ⟨ws, D4, sz_lt (by omega), fun b o mm zz => ?_, (s4.mut Dpc).up (by omega), ws ++ [u], jn Hw Hs, upd_same, fun b o zz => ?_, fun b o zz => ?_, ?_⟩
          · rw [upd_ne (ne_of_none zz nD0)]
            exact x4 b o mm (g1 b o mm zz)
          · rcases jn_of zz with y | y
            · rw [upd_ne (g5 b o y).1]
              exact Hw4 _ _ y
            · rw [upd_ne (HsD b o y)]
              exact e4 _ _ y
          · rcases jn_of zz with y | y
            · exact g5 b o y
            · refine ⟨HsD b o y, ?_⟩
              have w := o4 b o y
              cases m : H b with
              | none => rfl
              | some o' =>
                by_cases mm : b ∈ [p, c]
                · exact absurd mm (nPC g2 w)
                · rw [g1 _ _ mm m] at w
                  cases w
          · rw [List.take_add_one, hz]
            exact papp (pimp (fun _ _ z => Lz.ext jn_l z) g6) (.cons (Lz.ext (jn_r Hw4 e4) l4) .nil)
        have fin : ∀ {D}, (upd H T (.tup [.ty "list", .ty "tuple"])) D = none → ∀ H2, Pv D vs.length H2 →
            tRet (tIf (tTest (tOp rEq (tCall spDraw [] E0 (tCons (tVar 0) (tCons (tC (.int 3)) tNil))) (tC (.int 0)))) (tVar 3) (tCB (fun xs H Q => ∃ p ys, xs = [.ref p] ∧ ((SqL K H p ys ∧ ∀ l, H l = none → Q (.ref l) (upd H l (.tup ys))) ∨ (SqT K H p ys ∧ Q (.ref p) H))) (tCons (tVar 3) tNil)))
              { nx := fun _ H' => Q .non H', rt := Q } [some (.ref p), some (.ref a), none, some (.ref D), none] H2 := by
          intro D nD H2 hI
          obtain ⟨g1, g2, ws, Hw, g3, g4, g5, g6⟩ := hI
          have nD0 : H D = none := exf e1 nD
          have Dpc : D ∉ [p, c] := nPC hst nD0
          rw [List.take_of_length_le (Nat.le_refl _)] at g6
          have sl := sum_le ms vs.length
          refine ⟨.ref p, rfl, p, c, _, 3, rfl, g2, by omega, by decide, by decide, fun r H3 r0 r1 x3 s3 => ?_⟩
          have D3 : H3 D = some (.lst ws) := x3 _ _ Dpc g3
          have Hw3 : Ex Hw H3 := fun b o z => x3 b o (nPC hst (g5 b o z).2) (g4 _ _ z)
          have s3' : St H3 p c (n + ((ms.sum + 1 : Nat) : Int)) := s3.up (by omega)
          refine ⟨rfl, _, rfl, ite2 (fun _ => ?_) fun _ => ?_⟩
          · refine ⟨.ref D, rfl, q _ H3 (upd Hw D (.lst ws)) (g1.trans x3) s3' (fun b o z => ?_) (fun b o z => ?_) (.inr ⟨a, D, vs, ws, rfl, rfl, hs, .inl upd_same, pimp (fun _ _ z => Lz.ext (Ex.new ?_) z) g6⟩)⟩
            · by_cases y : b = D
              · rw [y, upd_same] at z
                rw [y, D3]
                exact z
              · rw [upd_ne y] at z
                exact Hw3 _ _ z
            · by_cases y : b = D
              · rw [y]
                exact nD0
              · rw [upd_ne y] at z
                exact (g5 b o z).2
            · cases z : Hw D with
              | none => rfl
              | some o => exact absurd rfl (g5 D o z).1
          · refine ⟨.ref D, rfl, D, ws, rfl, .inl ⟨sq_of D3, fun l nl => ?_⟩⟩
            have nl0 : H l = none := by
              cases m : H l with
              | none => rfl
              | some o' =>
                by_cases mm : l ∈ [p, c]
                · exact absurd mm (nPC s3 nl)
                · rw [x3 _ _ mm (g1 _ _ mm m)] at nl
                  cases nl
            have nHw : Hw l = none := exf Hw3 nl
            refine q _ _ (upd Hw l (.tup ws)) ((g1.trans x3).trans (ExB.new nl)) (s3'.new nl) (upd_ex2 Hw3) (fun b o z => ?_) (.inr ⟨a, l, vs, ws, rfl, rfl, hs, .inr upd_same, pimp (fun _ _ z => Lz.ext (Ex.new nHw) z) g6⟩)
            by_cases y : b = l
            · rw [y]
              exact nl0
            · rw [upd_ne y] at z
              exact (g5 b o z).2
        rcases hs with hs' | hs'
        · have sq' : ∀ {H'}, ExB [p, c] H H' → SqL K H' a vs := fun e => sq_of ((exb eA Ap Ac e) _ _ hs')
          refine ⟨.ref a, rfl, a, rfl, .inl ⟨⟨vs, sq' (ExB.new nT)⟩, fun D nD => ?_⟩⟩
          refine lc_it (walk_list (xs := vs)) (Pv D) (start nD) (fun i H' _ hI => sq' hI.1) (fun i z H2 H3 hi hI hY => ?_) (fun H2 hI => fin nD H2 hI)
          obtain ⟨rfl, hz⟩ := hY
          exact ⟨rfl, turn nD i z H3 hi hI hz⟩
        · have sq' : ∀ {H'}, ExB [p, c] H H' → SqT K H' a vs := fun e => st_of ((exb eA Ap Ac e) _ _ hs')
          refine ⟨.ref a, rfl, a, rfl, .inr ⟨⟨vs, sq' (ExB.new nT)⟩, fun D nD => ?_⟩⟩
          refine lc_it (walk_tup (xs := vs)) (Pv D) (start nD) (fun i H' _ hI => sq' hI.1) (fun i z H2 H3 hi hI hY => ?_) (fun H2 hI => fin nD H2 hI)
          obtain ⟨rfl, hz⟩ := hY
          exact ⟨rfl, turn nD i z H3 hi hI hz⟩
end
end K07
/-! text E17 -/
set_option Elab.async false
set_option linter.all false
set_option maxRecDepth 100000
set_option maxHeartbeats 4000000
/-! _law_spoilt: each list of a thing gets one more, each but once -/
namespace K07
open PySem PySem.Spec PyProof.Rows L2 Evl PySem.W Dw Dw.DV RZ StX Lot LmV LamX NdefX
abbrev late9 : Str := "late9"
/-- lists and tuples of texts; L: its lists in their order -/
def Tr (H : Hp) : Nat → V → List Addr → Prop
  | 0, _, _ => False
  | d + 1, v, L => (∃ x, v = .str x ∧ x ≠ late9 ∧ L = []) ∨ (∃ a vs Ms, v = .ref a ∧ H a = some (.lst vs) ∧ vs.length ≤ 1000 ∧ Paired (fun v M => Tr H d v M) vs Ms ∧ L = a :: Ms.flatten) ∨
    (∃ a vs Ms, v = .ref a ∧ H a = some (.tup vs) ∧ vs.length ≤ 1000 ∧ Paired (fun v M => Tr H d v M) vs Ms ∧ L = Ms.flatten)
theorem pmemR {α β : Type} {F G : α → β → Prop} : ∀ {l : List α} {m : List β}, (∀ a b, a ∈ l → b ∈ m → F a b → G a b) → Paired F l m → Paired G l m
  | _, _, _, .nil => .nil
  | _, _, h, .cons a r => .cons (h _ _ List.mem_cons_self List.mem_cons_self a) (pmemR (fun x y m n => h x y (List.mem_cons_of_mem _ m) (List.mem_cons_of_mem _ n)) r)
theorem mem_fl {Ms : List (List Addr)} {M : List Addr} {b : Addr} (h : M ∈ Ms) (hb : b ∈ M) : b ∈ Ms.flatten := List.mem_flatten.mpr ⟨M, h, hb⟩
/-- elsewhere lists changed: the tree stands -/
theorem Tr.frame {H H' : Hp} {Z : List Addr} (hf : ∀ b o, b ∉ Z → H b = some o → H' b = some o) (hz : ∀ b ∈ Z, ∃ vs, H b = some (.lst vs)) : ∀ {d : Nat} {v : V} {L : List Addr}, Tr H d v L → (∀ a ∈ L, a ∉ Z) → Tr H' d v L
  | 0, _, _, h, _ => h.elim
  | d + 1, v, L, h, n => by
    rcases h with h | ⟨a, vs, Ms, rfl, h1, h2, h3, rfl⟩ | ⟨a, vs, Ms, rfl, h1, h2, h3, rfl⟩
    · exact .inl h
    · exact .inr (.inl ⟨a, vs, Ms, rfl, hf _ _ (n a List.mem_cons_self) h1, h2, pmemR (fun x M _ m t => Tr.frame hf hz t fun b hb => n b (List.mem_cons_of_mem _ (mem_fl m hb))) h3, rfl⟩)
    · refine .inr (.inr ⟨a, vs, Ms, rfl, hf _ _ (fun z => ?_) h1, h2, pmemR (fun x M _ m t => Tr.frame hf hz t fun b hb => n b (mem_fl m hb)) h3, rfl⟩)
      obtain ⟨us, hu⟩ := hz a z
      rw [h1] at hu
      cases hu
theorem Tr.lists {H : Hp} : ∀ {d : Nat} {v : V} {L : List Addr}, Tr H d v L → ∀ a ∈ L, ∃ vs, H a = some (.lst vs)
  | 0, _, _, h => h.elim
  | d + 1, v, L, h => by
    have go : ∀ {vs : List V} {Ms : List (List Addr)}, Paired (fun v M => Tr H d v M) vs Ms → ∀ a ∈ Ms.flatten, ∃ vs, H a = some (.lst vs) := by
      intro vs Ms h
      induction h with
      | nil => exact fun a m => by cases m
      | cons t r ih =>
        intro a m
        rw [List.flatten_cons] at m
        exact (List.mem_append.mp m).elim (Tr.lists t a) (ih a)
    rcases h with ⟨_, _, _, rfl⟩ | ⟨a, vs, Ms, rfl, h1, h2, h3, rfl⟩ | ⟨a, vs, Ms, rfl, h1, h2, h3, rfl⟩
    · exact fun a m => by cases m
    · intro b m
      rcases List.mem_cons.mp m with y | y
      · rw [y]
        exact ⟨vs, h1⟩
      · exact go h3 b y
    · exact go h3
/-- H' is H, the lists L with one more each -/
structure Spo (L : List Addr) (H H' : Hp) : Prop where
  f : ∀ b o, b ∉ L → H b = some o → H' b = some o
  d : ∀ a ∈ L, ∃ vs, H a = some (.lst vs) ∧ H' a = some (.lst (vs ++ [.str late9]))
theorem Spo.of {H H' : Hp} (e : Ex H H') : Spo [] H H' := ⟨fun b o _ h => e b o h, fun a m => by cases m⟩
theorem Spo.trans {L M : List Addr} {H H1 H2 : Hp} (a : Spo L H H1) (b : Spo M H1 H2) (dj : ∀ x ∈ M, x ∉ L) (hM : ∀ x ∈ M, ∃ vs, H x = some (.lst vs)) : Spo (L ++ M) H H2 := by
  refine ⟨fun x o n h => b.f x o (fun m => n (List.mem_append_right _ m)) (a.f x o (fun m => n (List.mem_append_left _ m)) h), fun x m => ?_⟩
  rcases List.mem_append.mp m with y | y
  · obtain ⟨vs, h1, h2⟩ := a.d x y
    exact ⟨vs, h1, b.f _ _ (fun z => dj x z y) h2⟩
  · obtain ⟨vs, h1, h2⟩ := b.d x y
    obtain ⟨us, e⟩ := hM x y
    rw [a.f x _ (dj x y) e] at h1
    cases h1
    exact ⟨_, e, h2⟩
theorem fl_take {Ms : List (List Addr)} {i : Nat} {M : List Addr} (h : Ms[i]? = some M) : (Ms.take (i + 1)).flatten = (Ms.take i).flatten ++ M := by
  rw [List.take_add_one, h, List.flatten_append]
  simp
theorem fl_sub {Ms : List (List Addr)} {i : Nat} {b : Addr} (h : b ∈ (Ms.take i).flatten) : b ∈ Ms.flatten := by
  obtain ⟨M, m, hb⟩ := List.mem_flatten.mp h
  exact mem_fl (List.mem_of_mem_take m) hb
theorem fl_nd {Ms : List (List Addr)} (nd : Ms.flatten.Nodup) {i : Nat} {M : List Addr} (h : Ms[i]? = some M) : M.Nodup ∧ ∀ x ∈ M, x ∉ (Ms.take i).flatten := by
  have e : Ms.flatten = (Ms.take i).flatten ++ (M ++ (Ms.drop (i + 1)).flatten) := by
    have k : Ms.take (i + 1) ++ Ms.drop (i + 1) = Ms := List.take_append_drop ..
    rw [← List.append_assoc, ← fl_take h, ← List.flatten_append, k]
  rw [e] at nd
  obtain ⟨_, n2, n3⟩ := List.nodup_append.mp nd
  obtain ⟨n4, _, _⟩ := List.nodup_append.mp n2
  exact ⟨n4, fun x m z => n3 x z x (List.mem_append_left _ m) rfl⟩
section
variable {P : Program} {w : World} {K : PySem.W.Frag} {mg : Str → Option Value} {base : Heap} {f : Addr} {fd : FuncData}
def spSpoil (d : Nat) : Sp := fun vs H Q _ => ∃ (v : V) (L : List Addr), vs = [v] ∧ Tr H d v L ∧ L.Nodup ∧ ∀ H', Spo L H H' → Q .non H'
abbrev NSpo : List Str := ["thing", "key", "part"]
theorem scSpo : FnScope NSpo ["thing"] (defScope (top 52)) := ⟨rfl, rfl, rfl, by decide +kernel, rfl, by decide +kernel, by decide +kernel⟩
theorem ok_spoilt (F : FnP K "_law_spoilt" (top 52) f fd) (gs : mg "_law_spoilt" = some (.ref f)) (B : Bn mg) : ∀ d, FnOk P w K mg base CX0 d f fd ["thing"] (spSpoil d)
  | 0 => ⟨fun _ _ _ _ h => by
      obtain ⟨_, _, _, h, _⟩ := h
      exact h.elim, fun _ _ _ _ _ _ _ _ _ _ _ _ _ h => by
      obtain ⟨_, _, _, h, _⟩ := h
      exact h.elim⟩
  | d + 1 => by
    have G := ok_spoilt F gs B d
    have bS : Binds K fd ["thing"] [] := F.bindsN fun _ _ _ _ _ _ us hl => match us, hl with | [_], _ => rfl
    refine F.ok scSpo (fun vs H Q E h => ?_) (fun cdv A0 outer s H vs Q E hr h => ?_)
    · obtain ⟨v, L, rfl, _⟩ := h
      rfl
    · obtain ⟨v, L, rfl, hT, nd, q⟩ := h
      refine ⟨_, PSs.nox (pss_cons (ps_if (pt_val (pe_ist K "dict" 0 B.isinstance B.dict)) pss_never pss_nil)
        (pss_cons (ps_if (pt_val (pe_callB call_isiT (by rfl) B.isinstance (by decide +kernel) (pa_cons (pv 0) (pa_cons (pe_tup (pa_cons (pe_bltn (v := .ty "list") (by rfl) B.list (by decide +kernel) rfl) (pa_cons (pe_bltn (v := .ty "tuple") (by rfl) B.tuple (by decide +kernel) rfl) pa_nil))) pa_nil))))
            (pss_one (ps_for PassesOwn.never rfl (pi_seq (pv 0)) (pg_name (i := 2) scSpo.nd rfl (.inl rfl)) (pss_one (ps_expr (pe_call G hr (by rfl) gs F.kp bS .nil pass0 (pa_cons (pv 2) pa_nil)))))) pss_nil)
        (pss_one (ps_if (pt_val (pe_ist K "list" 0 B.isinstance B.list)) (pss_one (ps_expr (pe_bm PySem.F.plainAttrs_list PySem.F.slot_list_append PySem.F.type_list_append mt_append (pv 0) (pa_cons pe_str pa_nil)))) pss_nil)))), ?_⟩
      have turn : ∀ {vs : List V} {Ms : List (List Addr)}, Paired (fun v M => Tr H d v M) vs Ms → Ms.flatten.Nodup → ∀ (i : Nat) (x : V) (σ : L2.St) (H1 : Hp) (k : Hp → Prop), σ[2]? = some (some x) → vs[i]? = some x → Spo (Ms.take i).flatten H H1 → (∀ H2, Spo (Ms.take (i + 1)).flatten H H2 → k H2) →
          tCall (spSpoil d) [] E0 (tCons (tVar 2) tNil) σ H1 fun _ H2 => k H2 := by
        intro vs Ms hp nd i x σ H1 k hσ hx sp kk
        have len := Paired.length hp
        obtain ⟨li, _⟩ := List.getElem?_eq_some_iff.mp hx
        have hM : Ms[i]? = some Ms[i] := List.getElem?_eq_getElem (by omega)
        have t0 : Tr H d x Ms[i] := pat (F := fun v M => Tr H d v M) hp hx hM
        obtain ⟨n1, n2⟩ := fl_nd nd hM
        have hz : ∀ b ∈ (Ms.take i).flatten, ∃ vs, H b = some (.lst vs) := fun b m => (sp.d b m).imp fun _ z => z.1
        refine ⟨x, hσ, x, Ms[i], rfl, t0.frame sp.f hz n2, n1, fun H2 s2 => kk H2 ?_⟩
        rw [fl_take hM]
        exact sp.trans s2 n2 t0.lists
      rcases hT with ⟨x, rfl, hx, rfl⟩ | ⟨a, vs, Ms, rfl, h1, h2, h3, rfl⟩ | ⟨a, vs, Ms, rfl, h1, h2, h3, rfl⟩
      · have k : ∀ {H'}, Kd H' (.str x) "str" := .str x
        refine ⟨.str x, rfl, _, _, _, _, false, rfl, .ty _, (k (H' := H)).ty, by rw [kD (k (H' := H))]; rfl, _, rfl, ?_⟩
        refine ⟨.str x, rfl, by show 2 ≤ sizeLine; decide, fun T nT => ?_⟩
        have e1 : Ex H (upd H T (.tup [.ty "list", .ty "tuple"])) := Ex.new nT
        refine ⟨_, T, _, _, _, false, rfl, upd_same, pLT, (k (H' := upd H T (.tup [.ty "list", .ty "tuple"]))).ty, by rw [kLT (k (H' := H))]; rfl, _, rfl, ?_⟩
        refine ⟨.str x, rfl, _, _, _, _, false, rfl, .ty _, (k (H' := upd H T (.tup [.ty "list", .ty "tuple"]))).ty, by rw [kLi (k (H' := H))]; rfl, _, rfl, ?_⟩
        exact q _ (Spo.of e1)
      · obtain ⟨na, nd'⟩ := List.nodup_cons.mp nd
        refine ⟨.ref a, rfl, _, _, _, _, false, rfl, .ty _, (Kd.lst h1).ty, by rw [kD (Kd.lst h1)]; rfl, _, rfl, ?_⟩
        refine ⟨.ref a, rfl, by show 2 ≤ sizeLine; decide, fun T nT => ?_⟩
        have e1 : Ex H (upd H T (.tup [.ty "list", .ty "tuple"])) := Ex.new nT
        refine ⟨_, T, _, _, _, true, rfl, upd_same, pLT, (Kd.lst (e1 _ _ h1)).ty, by rw [kLT (Kd.lst h1)]; rfl, _, rfl, ?_⟩
        have sq : ∀ {i : Nat} {H1 : Hp}, Spo (Ms.take i).flatten H H1 → H1 a = some (.lst vs) := fun sp => sp.f _ _ (fun m => na (fl_sub m)) h1
        have len : vs.length = Ms.length := Paired.length (F := fun v M => Tr H d v M) h3
        refine ⟨.ref a, rfl, a, rfl, .inl ⟨⟨vs, sq_of (e1 _ _ h1)⟩, ?_⟩⟩
        refine for_it (walk_list (xs := vs)) (fun i σ H1 => (∃ y, σ = [some (.ref a), none, y]) ∧ Spo (Ms.take i).flatten H H1) ⟨⟨none, rfl⟩, Spo.of e1⟩ (fun i σ H1 _ p => sq_of (sq p.2)) (fun i x σ H1 H2 hi p hy => ?_) fun σ H1 p => ?_
        · obtain ⟨⟨y, rfl⟩, sp⟩ := p
          obtain ⟨rfl, hx⟩ := hy
          exact turn h3 nd' i x [some (.ref a), none, some x] H2 _ rfl hx sp fun H3 s3 => ⟨⟨some x, rfl⟩, s3⟩
        · obtain ⟨⟨y, rfl⟩, sp⟩ := p
          rw [List.take_of_length_le (by omega)] at sp
          have ha : H1 a = some (.lst vs) := sp.f _ _ na h1
          refine ⟨.ref a, rfl, _, _, _, _, true, rfl, .ty _, (Kd.lst ha).ty, by rw [kLi (Kd.lst ha)]; rfl, _, rfl, ?_⟩
          refine ⟨.ref a, rfl, .inl ⟨rfl, _, sq_of ha⟩, a, vs, .str late9, rfl, rfl, ha, sz_lt (by omega), q _ ⟨fun b o n h => ?_, fun b m => ?_⟩⟩
          · rw [upd_ne (fun z => n (by rw [z]; exact List.mem_cons_self))]
            exact sp.f b o (fun m => n (List.mem_cons_of_mem _ m)) h
          · rcases List.mem_cons.mp m with y | y
            · rw [y]
              exact ⟨vs, h1, upd_same⟩
            · rw [upd_ne (fun z => na (by rw [← z]; exact y))]
              exact sp.d b y
      · refine ⟨.ref a, rfl, _, _, _, _, false, rfl, .ty _, (Kd.tup h1).ty, by rw [kD (Kd.tup h1)]; rfl, _, rfl, ?_⟩
        refine ⟨.ref a, rfl, by show 2 ≤ sizeLine; decide, fun T nT => ?_⟩
        have e1 : Ex H (upd H T (.tup [.ty "list", .ty "tuple"])) := Ex.new nT
        refine ⟨_, T, _, _, _, true, rfl, upd_same, pLT, (Kd.tup (e1 _ _ h1)).ty, by rw [kLT (Kd.tup h1)]; rfl, _, rfl, ?_⟩
        have sq : ∀ {L' : List Addr} {H1 : Hp}, Spo L' H H1 → H1 a = some (.tup vs) := fun {L'} {H1} sp => sp.f _ _ (fun m => by
          obtain ⟨us, hu, _⟩ := sp.d a m
          rw [h1] at hu
          cases hu) h1
        have len : vs.length = Ms.length := Paired.length (F := fun v M => Tr H d v M) h3
        refine ⟨.ref a, rfl, a, rfl, .inr ⟨⟨vs, st_of (e1 _ _ h1)⟩, ?_⟩⟩
        refine for_it (walk_tup (xs := vs)) (fun i σ H1 => (∃ y, σ = [some (.ref a), none, y]) ∧ Spo (Ms.take i).flatten H H1) ⟨⟨none, rfl⟩, Spo.of e1⟩ (fun i σ H1 _ p => st_of (sq p.2)) (fun i x σ H1 H2 hi p hy => ?_) fun σ H1 p => ?_
        · obtain ⟨⟨y, rfl⟩, sp⟩ := p
          obtain ⟨rfl, hx⟩ := hy
          exact turn h3 nd i x [some (.ref a), none, some x] H2 _ rfl hx sp fun H3 s3 => ⟨⟨some x, rfl⟩, s3⟩
        · obtain ⟨⟨y, rfl⟩, sp⟩ := p
          rw [List.take_of_length_le (by omega)] at sp
          have ha := sq sp
          refine ⟨.ref a, rfl, _, _, _, _, false, rfl, .ty _, (Kd.tup ha).ty, by rw [kLi (Kd.tup ha)]; rfl, _, rfl, ?_⟩
          exact q _ sp
end
end K07
/-! text E18 -/
set_option Elab.async false
set_option linter.all false
set_option maxRecDepth 100000
set_option maxHeartbeats 4000000
/-! _law_is_once, _law_apart -/
namespace K07
open PySem PySem.Spec PyProof.Rows L2 Evl PySem.W Dw Dw.DV RZ StX Lot LmV LamX NdefX
/-- a spoilt thing, each list with one more -/
def Ts (H : Hp) : Nat → V → Prop
  | 0, _ => False
  | d + 1, v => (∃ x, v = .str x) ∨ (∃ a vs, v = .ref a ∧ H a = some (.lst (vs ++ [.str late9])) ∧ vs.length ≤ 1000 ∧ 1 ≤ d ∧ ∀ u ∈ vs, Ts H d u ∧ u ≠ .str late9) ∨
    (∃ a vs, v = .ref a ∧ H a = some (.tup vs) ∧ vs.length ≤ 1000 ∧ ∀ u ∈ vs, Ts H d u ∧ u ≠ .str late9)
theorem Ts.ext {H H' : Hp} (e : Ex H H') : ∀ {d : Nat} {v : V}, Ts H d v → Ts H' d v
  | 0, _, h => h.elim
  | d + 1, v, h => by
    rcases h with h | ⟨a, vs, rfl, h1, h2, h3, h4⟩ | ⟨a, vs, rfl, h1, h2, h4⟩
    · exact .inl h
    · exact .inr (.inl ⟨a, vs, rfl, e _ _ h1, h2, h3, fun u m => ⟨Ts.ext e (h4 u m).1, (h4 u m).2⟩⟩)
    · exact .inr (.inr ⟨a, vs, rfl, e _ _ h1, h2, fun u m => ⟨Ts.ext e (h4 u m).1, (h4 u m).2⟩⟩)
theorem paired_left {α β : Type} {F : α → β → Prop} : ∀ {l : List α} {m : List β}, Paired F l m → ∀ a ∈ l, ∃ b ∈ m, F a b
  | _, _, .nil, a, h => by cases h
  | _, _, .cons (b := b) h r, a, m => by
    rcases List.mem_cons.mp m with y | y
    · rw [y]
      exact ⟨b, List.mem_cons_self, h⟩
    · obtain ⟨c, hc, k⟩ := paired_left r a y
      exact ⟨c, List.mem_cons_of_mem _ hc, k⟩
theorem ts_of {H H' : Hp} {L : List Addr} (s : Spo L H H') : ∀ {d : Nat} {v : V} {M : List Addr}, Tr H d v M → (∀ a ∈ M, a ∈ L) → Ts H' (d + 1) v ∧ v ≠ .str late9
  | 0, _, _, h, _ => h.elim
  | d + 1, v, M, h, k => by
    rcases h with ⟨x, rfl, hx, rfl⟩ | ⟨a, vs, Ms, rfl, h1, h2, h3, rfl⟩ | ⟨a, vs, Ms, rfl, h1, h2, h3, rfl⟩
    · exact ⟨.inl ⟨x, rfl⟩, fun z => hx (V.str.inj z)⟩
    · refine ⟨.inr (.inl ⟨a, vs, rfl, ?_, h2, by omega, fun u m => ?_⟩), fun z => by cases z⟩
      · obtain ⟨us, e, e'⟩ := s.d a (k a List.mem_cons_self)
        rw [h1] at e
        cases e
        exact e'
      · obtain ⟨M, hM, t⟩ := paired_left (F := fun v M => Tr H d v M) h3 u m
        exact ts_of s t fun b hb => k b (List.mem_cons_of_mem _ (mem_fl hM hb))
    · refine ⟨.inr (.inr ⟨a, vs, rfl, s.f _ _ (fun m => ?_) h1, h2, fun u m => ?_⟩), fun z => by cases z⟩
      · obtain ⟨us, e, _⟩ := s.d a m
        rw [h1] at e
        cases e
      · obtain ⟨M, hM, t⟩ := paired_left (F := fun v M => Tr H d v M) h3 u m
        exact ts_of s t fun b hb => k b (mem_fl hM hb)
theorem dp_app {K : PySem.W.Frag} {H : Hp} : ∀ {vs us : List V} {ds es : List PyData}, DpAll K H vs ds → DpAll K H us es → DpAll K H (vs ++ us) (ds ++ es)
  | _, _, _, _, .nil, h => h
  | _, _, _, _, .cons a r, h => .cons a (dp_app r h)
theorem plain_app : ∀ {xs ys : List PyData}, PyData.plainAll xs = true → PyData.plainAll ys = true → PyData.plainAll (xs ++ ys) = true
  | [], _, _, h => h
  | a :: r, ys, h, h' => by
    have k : (PyData.plain a && PyData.plainAll r) = true := by
      rw [← h]
      rfl
    obtain ⟨k1, k2⟩ := Bool.and_eq_true_iff.mp k
    show (PyData.plain a && PyData.plainAll (r ++ ys)) = true
    rw [k1, plain_app k2 h']
    rfl
def isLate (d : PyData) : Bool := PyData.eqv d (.str late9)
/-- spoilt things read as data; none but a text is the word -/
theorem ts_dps {K : PySem.W.Frag} {H : Hp} {d : Nat} (go : ∀ {v : V}, Ts H d v → ∃ dd, Dp K H v dd ∧ dd.plain = true ∧ (isLate dd = true → v = .str late9)) : ∀ {vs : List V}, (∀ u ∈ vs, Ts H d u ∧ u ≠ .str late9) → ∃ ds, DpAll K H vs ds ∧ PyData.plainAll ds = true ∧ ds.countP isLate = 0
  | [], _ => ⟨[], .nil, rfl, rfl⟩
  | v :: vs, h => by
    obtain ⟨dd, h1, h2, h3⟩ := go (h v List.mem_cons_self).1
    obtain ⟨ds, k1, k2, k3⟩ := ts_dps go (fun u m => h u (List.mem_cons_of_mem _ m))
    refine ⟨dd :: ds, .cons h1 k1, ?_, ?_⟩
    · show (PyData.plain dd && PyData.plainAll ds) = true
      rw [h2, k2]
      rfl
    · rw [List.countP_cons_of_neg (fun z => (h v List.mem_cons_self).2 (h3 z))]
      exact k3
theorem ts_dp {K : PySem.W.Frag} {H : Hp} : ∀ {d : Nat} {v : V}, Ts H d v → ∃ dd, Dp K H v dd ∧ dd.plain = true ∧ (isLate dd = true → v = .str late9)
  | 0, _, h => h.elim
  | d + 1, v, h => by
    rcases h with ⟨x, rfl⟩ | ⟨a, vs, rfl, h1, h2, h3, h4⟩ | ⟨a, vs, rfl, h1, h2, h4⟩
    · refine ⟨.str x, .str x, rfl, fun z => ?_⟩
      have z' : (x == late9) = true := z
      rw [beq_iff_eq.mp z']
    · obtain ⟨ds, k1, k2, k3⟩ := ts_dps (K := K) (fun t => ts_dp t) h4
      exact ⟨.list (ds ++ [.str late9]), .lst (sq_of h1) (dp_app k1 (.cons (.str late9) .nil)), plain_app k2 rfl, fun z => by cases z⟩
    · obtain ⟨ds, k1, k2, k3⟩ := ts_dps (K := K) (fun t => ts_dp t) h4
      exact ⟨.tuple ds, .tup (st_of h1) k1, k2, fun z => by cases z⟩
/-- xs.count(text), xs a list of data -/
def rCntS (K : PySem.W.Frag) : V → List V → Hp → VK → Prop := fun x xs H Q => ∃ (p : Addr) (ys : List V) (ds : List PyData), x = .ref p ∧ xs = [.str late9] ∧ SqL K H p ys ∧ DpAll K H ys ds ∧ PyData.plainAll ds = true ∧ Q (.int ((ds.countP isLate : Nat) : Int)) H
theorem mt_lcountS {X : Cx} (hu : X.A.units + 2 < cLine) : MtR X "list.count" (rCntS X.K) := by
  intro pins s σ H x xs v us Q I rx rxs h
  obtain ⟨p, ys, ds, rfl, rfl, hs, hd, hp, q⟩ := h
  cases rx
  obtain ⟨u, rfl, ru⟩ := rxs.one
  obtain ⟨t, rfl⟩ := ru
  obtain ⟨its, rv, li, hlen⟩ := I.list hs
  obtain ⟨as, h4⟩ := Dp.readsAll I ds _ its hd rv
  refine PySem.SeqAt.count_list_data (d := .str late9) (vs := its.toArray) li.isList h4 (.str _ _) hp rfl ?_ ?_
  · have : min (PyData.depthAll ds) (PyData.str late9).depth = 0 := by
      show min _ 0 = 0
      omega
    omega
  · exact ⟨.int ((ds.countP isLate : Nat) : Int), H, I.tok _, ⟨_, rfl⟩, q⟩
theorem hu2 {k : Nat} {A : Around} (hr : Room k A) : A.units + 2 < cLine := by
  have := hr.un
  omega
section
variable {P : Program} {w : World} {K : PySem.W.Frag} {mg : Str → Option Value} {base : Heap} {f : Addr} {fd : FuncData} {fS fO : Addr} {dS dO : FuncData}
def spOnceT (d : Nat) : Sp := fun vs H Q _ => ∃ (v : V), vs = [v] ∧ Ts H d v ∧ ∀ H', Ex H H' → Q (.bl true) H'
abbrev NIo : List Str := ["thing", "many", "key", "part"]
theorem scIo : FnScope NIo ["thing"] (defScope (top 53)) := ⟨rfl, rfl, rfl, by decide +kernel, rfl, by decide +kernel, by decide +kernel⟩
theorem ok_isOnce (F : FnP K "_law_is_once" (top 53) f fd) (gs : mg "_law_is_once" = some (.ref f)) (B : Bn mg) : ∀ d, FnOk P w K mg base CX0 d f fd ["thing"] (spOnceT d)
  | 0 => ⟨fun _ _ _ _ h => by
      obtain ⟨_, _, h, _⟩ := h
      exact h.elim, fun _ _ _ _ _ _ _ _ _ _ _ _ _ h => by
      obtain ⟨_, _, h, _⟩ := h
      exact h.elim⟩
  | d + 1 => by
    have G := ok_isOnce F gs B d
    have bS : Binds K fd ["thing"] [] := F.bindsN fun _ _ _ _ _ _ us hl => match us, hl with | [_], _ => rfl
    refine F.ok scIo (fun vs H Q E h => ?_) (fun cdv A0 outer s H vs Q E hr h => ?_)
    · obtain ⟨v, rfl, _⟩ := h
      rfl
    · obtain ⟨v, rfl, hT, q⟩ := h
      refine ⟨_, PSs.nox (pss_cons (ps_if (pt_val (pe_ist K "dict" 0 B.isinstance B.dict)) pss_never pss_nil)
        (pss_cons (ps_if (pt_val (pe_callB call_isiT (by rfl) B.isinstance (by decide +kernel) (pa_cons (pv 0) (pa_cons (pe_tup (pa_cons (pe_bltn (v := .ty "list") (by rfl) B.list (by decide +kernel) rfl) (pa_cons (pe_bltn (v := .ty "tuple") (by rfl) B.tuple (by decide +kernel) rfl) pa_nil))) pa_nil))))
            (pss_cons (ps_set (i := 1) scIo.nd rfl (.inl rfl) (pe_callTy call_int1 (by rfl) B.int (by decide +kernel) (pa_cons (pe_ist K "list" 0 B.isinstance B.list) pa_nil)))
            (pss_one (ps_ret (pe_and (pe_cmpR op_eq (pe_bm PySem.F.plainAttrs_list PySem.F.slot_list_count PySem.F.type_list_count (mt_lcountS (hu2 hr)) (pe_callTy call_list_of (by rfl) B.list (by decide +kernel) (pa_cons (pv 0) pa_nil)) (pa_cons pe_str pa_nil)) (pv 1) (nomark _))
              (pe_one (pe_callB (cr_all rfl) (by rfl) B.all (by decide +kernel) (pa_cons (pe_lc (own := [("part", 3)]) (g := gName 3) (tt := tYes) (te := tCall (spOnceT d) [] E0 (tCons (tVar 3) tNil)) rfl scIo.nd (pi_seq (pv 0)) (blkOk_by (N := NIo) (sc := defScope (top 53)) (by decide +kernel))
                (fun _ _ _ _ _ => pg_name (i := 3) scIo.nd rfl (.inl rfl)) (fun _ _ _ _ _ => pts_nil) (fun _ _ _ _ _ => pe_call G hr (by rfl) gs F.kp bS .nil pass0 (pa_cons (pv 3) pa_nil))) pa_nil))))))) pss_nil)
        (pss_one (ps_ret pe_bl)))), ?_⟩
      have all_ : ∀ {H1 : Hp} {vs : List V} {n : Int} {a : Addr}, Ex H H1 → SeqAt H a vs → (∀ u ∈ vs, Ts H d u) → vs.length ≤ 1001 → Ev (tCB (rAll K) (tCons (tLc (iSeq K (tVar 0)) (gName 3) tYes (tCall (spOnceT d) [] E0 (tCons (tVar 3) tNil)) [3]) tNil)) [some (.ref a), some (.int n), none, none] H (.bl true) := by
        intro H1 vs n a e hs ht hl
        have s0 : SqR (AllR (fun (u : V) H' v => v = u ∧ Ts H' d u) vs) H (.ref a) := ⟨a, vs, rfl, hs, by
          show Paired (fun v u => v = u ∧ Ts H d u) vs vs
          have key : ∀ {l : List V}, (∀ u ∈ l, Ts H d u) → Paired (fun v u => v = u ∧ Ts H d u) l l := by
            intro l
            induction l with
            | nil => exact fun _ => .nil
            | cons u r ih => exact fun h => .cons ⟨rfl, h u List.mem_cons_self⟩ (ih fun x m => h x (List.mem_cons_of_mem _ m))
          exact key ht⟩
        have lc := ev_allD (K := K) (ed_lcS (K := K) (σ := [some (.ref a), some (.int n), none, none]) (tl := tVar 0) (tt := tYes) (te := tCall (spOnceT d) [] E0 (tCons (tVar 3) tNil)) (j := 3) (vs := [3]) (R := fun (u : V) H' v => v = u ∧ Ts H' d u) (fun u H H' v e h => ⟨h.1, h.2.ext e⟩) (fun _ : V => true) (fun _ : V => true) (er_varR (i := 0) rfl s0) (by omega) (fun _ => rfl) (fun _ _ _ _ _ _ => et_yes) fun x y H1 e m r _ => ed_bl (by
            obtain ⟨rfl, r⟩ := r
            exact fun H2 e2 Q q => ⟨y, rfl, y, rfl, r.ext e2, q⟩))
        have e : ((vs.filter fun _ => true).map fun _ => true).all id = true := by simp
        rw [e] at lc
        exact lc
      have cnt : ∀ {vs : List V} {n : Int} {a : Addr} (k : Nat), SeqAt H a vs → (∀ H', Ex H H' → ∃ ds, DpAll K H' vs ds ∧ PyData.plainAll ds = true ∧ ds.countP isLate = k) → Ev (tBM K "list" (rCntS K) (tCB (rListS K) (tCons (tVar 0) tNil)) (tCons (tC (.str late9)) tNil)) [some (.ref a), some (.int n), none, none] H (.int (k : Int)) := by
        intro vs n a k hs hd H1 e Q q
        refine ⟨.ref a, rfl, a, vs, rfl, (hs.ext e).seq, fun p np => ?_⟩
        obtain ⟨ds, d1, d2, d3⟩ := hd _ (e.trans (Ex.new (o := .lst vs) np))
        refine ⟨.inl ⟨rfl, _, sq_of upd_same⟩, p, vs, ds, rfl, rfl, sq_of upd_same, d1, d2, ?_⟩
        rw [d3]
        exact q _ (Ex.new np)
      have fin : ∀ {vs : List V} {a : Addr} {H1 : Hp} (k : Nat), Ex H H1 → SeqAt H a vs → vs.length ≤ 1001 → (∀ u ∈ vs, Ts H d u) → (∀ H', Ex H H' → ∃ ds, DpAll K H' vs ds ∧ PyData.plainAll ds = true ∧ ds.countP isLate = k) →
          tRet (tAndV (tOp rEq (tBM K "list" (rCntS K) (tCB (rListS K) (tCons (tVar 0) tNil)) (tCons (tC (.str late9)) tNil)) (tVar 1)) (tCB (rAll K) (tCons (tLc (iSeq K (tVar 0)) (gName 3) tYes (tCall (spOnceT d) [] E0 (tCons (tVar 3) tNil)) [3]) tNil)))
            { nx := fun _ H' => Q .non H', rt := Q } [some (.ref a), some (.int (k : Int)), none, none] H1 := by
        intro vs a H1 k e hs hl ht hd
        have c1 := ev_op (cnt (n := (k : Int)) k hs hd) (show Ev (tVar 1) [some (.ref a), some (.int (k : Int)), none, none] H (.int (k : Int)) from fun H1 e Q q => ⟨_, rfl, q H1 (Ex.refl H1)⟩) (rv_eq rfl)
        rw [decide_eq_true rfl] at c1
        have c2 := ev_andV c1 fun _ => all_ (n := (k : Int)) e hs ht hl
        exact c2 H1 e _ fun H2 e2 => q H2 (e.trans e2)
      rcases hT with ⟨x, rfl⟩ | ⟨a, vs, rfl, h1, h2, h3, h4⟩ | ⟨a, vs, rfl, h1, h2, h4⟩
      · have k : ∀ {H'}, Kd H' (.str x) "str" := .str x
        refine ⟨.str x, rfl, _, _, _, _, false, rfl, .ty _, (k (H' := H)).ty, by rw [kD (k (H' := H))]; rfl, _, rfl, ?_⟩
        refine ⟨.str x, rfl, by show 2 ≤ sizeLine; decide, fun T nT => ?_⟩
        have e1 : Ex H (upd H T (.tup [.ty "list", .ty "tuple"])) := Ex.new nT
        refine ⟨_, T, _, _, _, false, rfl, upd_same, pLT, (k (H' := upd H T (.tup [.ty "list", .ty "tuple"]))).ty, by rw [kLT (k (H' := H))]; rfl, _, rfl, ?_⟩
        exact q _ e1
      · refine ⟨.ref a, rfl, _, _, _, _, false, rfl, .ty _, (Kd.lst h1).ty, by rw [kD (Kd.lst h1)]; rfl, _, rfl, ?_⟩
        refine ⟨.ref a, rfl, by show 2 ≤ sizeLine; decide, fun T nT => ?_⟩
        have e1 : Ex H (upd H T (.tup [.ty "list", .ty "tuple"])) := Ex.new nT
        refine ⟨_, T, _, _, _, true, rfl, upd_same, pLT, (Kd.lst (e1 _ _ h1)).ty, by rw [kLT (Kd.lst h1)]; rfl, _, rfl, ?_⟩
        refine ⟨.ref a, rfl, _, _, _, _, true, rfl, .ty _, (Kd.lst (e1 _ _ h1)).ty, by rw [kLi (Kd.lst h1)]; rfl, .inr ⟨true, rfl, ?_⟩⟩
        refine fin 1 e1 (.inl h1) (by rw [List.length_append]; simp; omega) (fun u m => ?_) fun H' e => ?_
        · rcases List.mem_append.mp m with y | y
          · exact (h4 u y).1
          · rw [List.mem_singleton.mp y]
            obtain ⟨k, rfl⟩ : ∃ k, d = k + 1 := ⟨d - 1, by omega⟩
            exact .inl ⟨late9, rfl⟩
        · obtain ⟨ds, k1, k2, k3⟩ := ts_dps (K := K) (fun t => ts_dp t) fun u m => ⟨(h4 u m).1.ext e, (h4 u m).2⟩
          refine ⟨ds ++ [.str late9], dp_app k1 (.cons (.str late9) .nil), plain_app k2 rfl, ?_⟩
          rw [List.countP_append, k3]
          rfl
      · refine ⟨.ref a, rfl, _, _, _, _, false, rfl, .ty _, (Kd.tup h1).ty, by rw [kD (Kd.tup h1)]; rfl, _, rfl, ?_⟩
        refine ⟨.ref a, rfl, by show 2 ≤ sizeLine; decide, fun T nT => ?_⟩
        have e1 : Ex H (upd H T (.tup [.ty "list", .ty "tuple"])) := Ex.new nT
        refine ⟨_, T, _, _, _, true, rfl, upd_same, pLT, (Kd.tup (e1 _ _ h1)).ty, by rw [kLT (Kd.tup h1)]; rfl, _, rfl, ?_⟩
        refine ⟨.ref a, rfl, _, _, _, _, false, rfl, .ty _, (Kd.tup (e1 _ _ h1)).ty, by rw [kLi (Kd.tup h1)]; rfl, .inr ⟨false, rfl, ?_⟩⟩
        refine fin 0 e1 (.inr h1) (by omega) (fun u m => (h4 u m).1) fun H' e => ?_
        obtain ⟨ds, k1, k2, k3⟩ := ts_dps (K := K) (fun t => ts_dp t) fun u m => ⟨(h4 u m).1.ext e, (h4 u m).2⟩
        exact ⟨ds, k1, k2, k3⟩
def spAprt (d : Nat) : Sp := fun vs H Q _ => ∃ (v : V) (L : List Addr), vs = [v] ∧ Tr H d v L ∧ L.Nodup ∧ ∀ H', (∀ b o, b ∉ L → H b = some o → H' b = some o) → Q (.bl true) H'
theorem scAt : FnScope ["thing"] ["thing"] (defScope (top 54)) := ⟨rfl, rfl, rfl, by decide +kernel, rfl, by decide +kernel, by decide +kernel⟩
theorem ok_aprt (F : FnP K "_law_apart" (top 54) f fd) (B : Bn mg) (SP : Df K mg "_law_spoilt" 52 fS dS) (IO : Df K mg "_law_is_once" 53 fO dO) (d : Nat) : FnOk P w K mg base CX0 (d + 2) f fd ["thing"] (spAprt d) := by
  have GS := ok_spoilt (P := P) (w := w) (base := base) SP.F SP.g B d
  have bS : Binds K dS ["thing"] [] := SP.F.bindsN fun _ _ _ _ _ _ us hl => match us, hl with | [_], _ => rfl
  have GO := ok_isOnce (P := P) (w := w) (base := base) IO.F IO.g B (d + 1)
  have bO : Binds K dO ["thing"] [] := IO.F.bindsN fun _ _ _ _ _ _ us hl => match us, hl with | [_], _ => rfl
  refine F.ok scAt (fun vs H Q E h => ?_) (fun cdv A0 outer s H vs Q E hr h => ?_)
  · obtain ⟨v, L, rfl, _⟩ := h
    rfl
  · obtain ⟨v, L, rfl, hT, nd, q⟩ := h
    refine ⟨_, PSs.nox (pss_cons (ps_expr (pe_call GS (hr.mono (by omega)) (by rfl) SP.g SP.F.kp bS .nil pass0 (pa_cons (pv 0) pa_nil)))
      (pss_one (ps_ret (pe_call GO hr (by rfl) IO.g IO.F.kp bO .nil pass0 (pa_cons (pv 0) pa_nil))))), ?_⟩
    refine ⟨v, rfl, v, L, rfl, hT, nd, fun H1 s1 => ?_⟩
    refine ⟨v, rfl, v, rfl, (ts_of s1 hT fun a m => m).1, fun H2 e2 => q H2 fun b o n h => e2 _ _ (s1.f b o n h)⟩
end
end K07
/-! text E19 -/
set_option Elab.async false
set_option linter.all false
set_option maxRecDepth 100000
set_option maxHeartbeats 4000000
/-! the law's own fallen and trusted family -/
namespace K07
open PySem PySem.Spec PyProof.Rows L2 Evl PySem.W Dw Dw.DV RZ StX Lot LmV LamX NdefX
theorem decT {p : Prop} {i : Decidable p} (h : p) : @decide p i = true := @decide_eq_true p i h
theorem decF {p : Prop} {i : Decidable p} (h : ¬ p) : @decide p i = false := @decide_eq_false p i h
abbrev Ans := Str × Option FamT
def lawFall (F : FamT) (x : Str) : Ans := if drop1 x F.1 = [] then ("last", none) else if fall x F.2 ≠ [] then ("told", some (drop1 x F.1, fall x F.2)) else ("none", none)
def lawTrust (F : FamT) (x : Str) : Ans := if drop1 x F.1 = [] then ("last", none) else if ¬ [] ∈ trust x F.2 then ("told", some (drop1 x F.1, leastOf (trust x F.2))) else ("none", none)
section
variable {P : Program} {w : World} {K : PySem.W.Frag} {mg : Str → Option Value} {base : Heap} {f : Addr} {fd : FuncData} {fA fO fW : Addr} {dA dO dW : FuncData} {k : Nat} {A : Around}
theorem uE1 (hr : Room k A) : A.units + Datum.depth (List Str) < cLine := by
  have h := hr.un
  show A.units + 1 < cLine
  omega
theorem b_par {α β : Type} [DecidableEq α] [Datum α] [DV α] [DecidableEq β] [Datum β] [DV β] {σ : L2.St} {H A A0 H0 : Hp} {ta tb : TE} {tz : TS} {D : Ends} {x : α} {y : β} {i j : Nat} (B : Bs A0 H0 A H) (h1 : EvD ta σ A x) (h2 : EvD tb σ A y)
    (k : ∀ v w A' H1, Bs A0 H0 A' H1 → Ex A A' → rep A' v x → rep A' w y → tz D ((σ.set i (some v)).set j (some w)) H1) : tSeq (tPar i j (tCons ta (tCons tb tNil))) tz D σ H := h1 H B.h _ fun v H1 Hs e s r => h2 H1 (B.h.trans e) _ fun w H2 Ht e2 t r' => by
  have sj := s.join B.h e e2 t
  exact ⟨v, w, rfl, k v w (jn A (jn Hs Ht)) H2 (B.go (e.trans e2) sj) jn_l (B.rep (e.trans e2) sj (DV.ext jn_l r)) (B.rep (e.trans e2) sj (DV.ext (jn_r (s.e.trans e2) t.e) r'))⟩
abbrev spLF : Sp := sp2 (fun (F : FamT) (x : Str) => Kpr F x) lawFall
abbrev spLT : Sp := sp2 (fun (F : FamT) (x : Str) => Kpr F x) lawTrust
abbrev NLF : List Str := ["family", "name", "rest", "left", "one", "lot"]
theorem scLF : FnScope NLF ["family", "name"] (defScope (top 55)) := ⟨rfl, rfl, rfl, by decide +kernel, rfl, by decide +kernel, by decide +kernel⟩
theorem ok_lawFall (F : FnP K "_law_fallen" (top 55) f fd) (B : Bn mg) : FnOk P w K mg base CX0 1 f fd ["family", "name"] spLF := by
  refine F.ok scLF (fun vs H Q E h => ?_) (fun cdv A0 outer s H vs Q E hr h => ?_)
  · obtain ⟨v, u, _, _, _, rfl, _⟩ := h
    rfl
  · obtain ⟨v, u, F, x, A, rfl, eA, hv, hu, O, q⟩ := h
    refine ⟨_, PSs.nox (pss_cons (ps_par (i := 2) (j := 3) rfl scLF.nd rfl rfl (by decide) rfl rfl
        (pa_cons (pe_lc (own := [("one", 4)]) (g := gName 4) (tt := tTest (tOp (rEqW Str true) (tVar 4) (tVar 1))) (te := tVar 4) rfl scLF.nd (pi_list (pe_ix ix_tup (pv 0) pe_int (fun _ _ => rfl))) (blkOk_by (N := NLF) (sc := defScope (top 55)) (by decide +kernel))
          (fun _ _ _ _ _ => pg_name (i := 4) scLF.nd rfl (.inl rfl)) (fun _ _ _ _ _ => pts_one (pt_cmpR (op_neW (α := Str) (uT hr)) (pv 4) (pv 1) (by rfl))) (fun _ _ _ _ _ => pv 4))
        (pa_cons (pe_lc (own := [("lot", 5)]) (g := gName 5) (tt := tTest (tOp (rInW Str true) (tVar 1) (tVar 5))) (te := tVar 5) rfl scLF.nd (pi_list (pe_ix ix_tup (pv 0) pe_int (fun _ _ => rfl))) (blkOk_by (N := NLF) (sc := defScope (top 55)) (by decide +kernel))
          (fun _ _ _ _ _ => pg_name (i := 5) scLF.nd rfl (.inl rfl)) (fun _ _ _ _ _ => pts_one (pt_cmpR (op_notInW (α := Str) (uS hr)) (pv 1) (pv 5) (by rfl))) (fun _ _ _ _ _ => pv 5)) pa_nil)) (by rfl))
      (pss_cons (ps_if (pt_cmpR (op_eqW (α := List Str) (uE1 hr)) (pv 2) (pe_lst pa_nil) (by rfl)) (pss_one (ps_ret (pe_tup (pa_cons pe_str (pa_cons pe_non pa_nil))))) pss_nil)
      (pss_one (ps_ret (pe_ifExp (pt_cmpR (op_neW (α := List (List Str)) (uLL hr)) (pv 3) (pe_lst pa_nil) (by rfl)) (pe_tup (pa_cons pe_str (pa_cons (pe_tup (pa_cons (pv 2) (pa_cons (pv 3) pa_nil))) pa_nil))) (pe_tup (pa_cons pe_str (pa_cons pe_non pa_nil)))))))), ?_⟩
    have v0 : ∀ {y2 y3 y4 y5 : Option V} {H1 : Hp}, Ex A H1 → EvD (tVar 0) [some v, some u, y2, y3, y4, y5] H1 F := fun e => ed_var rfl (DV.ext e hv)
    have hl := O.g.len
    have hl2 := O.g.len2
    have kl := O.g.ks.len
    have lc1 := ed_lc (K := K) (σ := [some v, some u, none, none, none, none]) (H := A) (tl := tOp (rIxT K) (tVar 0) (tC (.int 0))) (tt := tTest (tOp (rEqW Str true) (tVar 4) (tVar 1))) (te := tVar 4) (j := 4) (vs := [4]) (fun y : Str => decide (y ≠ x)) (fun y : Str => y) (ed_fst (v0 (Ex.refl A))) (by omega) (fun _ => rfl)
      (fun y z H1 e _ r => et_test (ev_neD (ed_var (i := 4) (v := z) rfl r) (ed_var (i := 1) (v := u) rfl (DV.ext e hu)))) fun y z H1 _ _ r _ => ed_var (i := 4) (v := z) rfl r
    rw [List.map_id', show (F.1.filter fun y => decide (y ≠ x)) = drop1 x F.1 from List.filter_congr fun y _ => by simp] at lc1
    have lc2 := ed_lc (K := K) (σ := [some v, some u, none, none, none, none]) (H := A) (tl := tOp (rIxT K) (tVar 0) (tC (.int 1))) (tt := tTest (tOp (rInW Str true) (tVar 1) (tVar 5))) (te := tVar 5) (j := 5) (vs := [5]) (fun l : List Str => decide (x ∉ l)) (fun l : List Str => l) (ed_snd (v0 (Ex.refl A))) (by omega) (fun _ => rfl)
      (fun l z H1 e _ r => et_test (ev_notInD (ed_var (i := 1) (v := u) rfl (DV.ext e hu)) (ed_var (i := 5) (v := z) rfl r))) fun l z H1 _ _ r _ => ed_var (i := 5) (v := z) rfl r
    rw [List.map_id', fall_eq] at lc2
    refine b_par (Bs.start eA) lc1 lc2 fun v2 v3 A2 H2 B2 x2 r2 r3 => ?_
    have e2 : EvD (tVar 2) [some v, some u, some v2, some v3, none, none] A2 (drop1 x F.1) := ed_var rfl r2
    have e3 : EvD (tVar 3) [some v, some u, some v2, some v3, none, none] A2 (fall x F.2) := ed_var rfl r3
    refine b_seqIf B2 (et_test (ev_eqD e2 (ed_lst (xs := ([] : List Str)) eda_nil (by decide)))) (fun z H3 B3 => ?_) fun z H3 B3 => ?_
    · have z' := dTrue z
      rw [show lawFall F x = (((("last" : Str), (none : Option FamT))) : Ans) from if_pos z'] at q
      exact b_ret B3 (ed_pair ed_str ed_none) q
    · have z' := dFalse z
      have t3 := et_test (ev_neD e3 (ed_lst (xs := ([] : List (List Str))) eda_nil (by decide)))
      by_cases w : fall x F.2 ≠ []
      · replace t3 := et_is t3 (decT w)
        rw [show lawFall F x = (((("told" : Str), some (drop1 x F.1, fall x F.2))) : Ans) from (if_neg z').trans (if_pos w)] at q
        exact b_ret B3 (ed_ifE t3 (fun _ => ed_pair (y := some (drop1 x F.1, fall x F.2)) ed_str (ed_some (ed_pair e2 e3))) (fun z => by cases z)) q
      · replace t3 := et_is t3 (decF w)
        rw [show lawFall F x = (((("none" : Str), (none : Option FamT))) : Ans) from (if_neg z').trans (if_neg w)] at q
        exact b_ret B3 (ed_ifE t3 (fun z => by cases z) fun _ => ed_pair ed_str ed_none) q
abbrev NLT : List Str := ["family", "name", "rest", "left", "one", "lot"]
theorem scLT : FnScope NLT ["family", "name"] (defScope (top 56)) := ⟨rfl, rfl, rfl, by decide +kernel, rfl, by decide +kernel, by decide +kernel⟩
abbrev scLTI : Scope := { kind := .function, names := [(".0", .local), ("lot", .local), ("name", .cell)], isGenerator := false, isCoroutine := false }
theorem ok_lawTrust (F : FnP K "_law_trusted" (top 56) f fd) (B : Bn mg) (AL : Df K mg "_law_a_least" 39 fA dA) (ON : Df K mg "_law_each_once" 50 fO dO) (WI : Df K mg "_law_a_within" 37 fW dW) : FnOk P w K mg base CX0 3 f fd ["family", "name"] spLT := by
  have GA : FnOk P w K mg base CX0 2 fA dA ["lots"] spAl := ok_al AL.F B ON WI
  have bA : Binds K dA ["lots"] [] := AL.F.bindsN fun _ _ _ _ _ _ us hl => match us, hl with | [_], _ => rfl
  refine F.ok scLT (fun vs H Q E h => ?_) (fun cdv A0 outer s H vs Q E hr h => ?_)
  · obtain ⟨v, u, _, _, _, rfl, _⟩ := h
    rfl
  · obtain ⟨v, u, F, x, A, rfl, eA, hv, hu, O, q⟩ := h
    refine ⟨_, PSs.nox (pss_cons (ps_par (i := 2) (j := 3) rfl scLT.nd rfl rfl (by decide) rfl rfl
        (pa_cons (pe_lc (own := [("one", 4)]) (g := gName 4) (tt := tTest (tOp (rEqW Str true) (tVar 4) (tVar 1))) (te := tVar 4) rfl scLT.nd (pi_list (pe_ix ix_tup (pv 0) pe_int (fun _ _ => rfl))) (blkOk_by (N := NLT) (sc := defScope (top 56)) (by decide +kernel))
          (fun _ _ _ _ _ => pg_name (i := 4) scLT.nd rfl (.inl rfl)) (fun _ _ _ _ _ => pts_one (pt_cmpR (op_neW (α := Str) (uT hr)) (pv 4) (pv 1) (by rfl))) (fun _ _ _ _ _ => pv 4))
        (pa_cons (pe_lc (own := [("lot", 5)]) (g := gName 5) (tt := tYes) (te := tLc (iList K (tVar 5)) (gName 4) (tTest (tOp (rEqW Str true) (tVar 4) (tVar 1))) (tVar 4) [4]) rfl scLT.nd (pi_list (pe_ix ix_tup (pv 0) pe_int (fun _ _ => rfl))) (blkOk_by (N := NLT) (sc := defScope (top 56)) (by decide +kernel))
          (fun _ _ _ _ _ => pg_name (i := 5) scLT.nd rfl (.inl rfl)) (fun _ _ _ _ _ => pts_nil)
          (fun _ _ _ _ _ => pe_lc (own := [("one", 4)]) (g := gName 4) (tt := tTest (tOp (rEqW Str true) (tVar 4) (tVar 1))) (te := tVar 4) rfl scLT.nd (pi_list (pv 5)) (blkOk_by (N := NLT) (sc := scLTI) (by decide +kernel))
            (fun _ _ _ _ _ => pg_name (i := 4) scLT.nd rfl (.inl rfl)) (fun _ _ _ _ _ => pts_one (pt_cmpR (op_neW (α := Str) (uT hr)) (pv 4) (pv 1) (by rfl))) (fun _ _ _ _ _ => pv 4))) pa_nil)) (by rfl))
      (pss_cons (ps_if (pt_cmpR (op_eqW (α := List Str) (uE1 hr)) (pv 2) (pe_lst pa_nil) (by rfl)) (pss_one (ps_ret (pe_tup (pa_cons pe_str (pa_cons pe_non pa_nil))))) pss_nil)
      (pss_one (ps_ret (pe_ifExp (pt_cmpR (op_notInW (α := List Str) (uLL1 hr)) (pe_lst pa_nil) (pv 3) (by rfl)) (pe_tup (pa_cons pe_str (pa_cons (pe_tup (pa_cons (pv 2) (pa_cons (pe_call GA hr (by rfl) AL.g AL.F.kp bA .nil pass0 (pa_cons (pv 3) pa_nil)) pa_nil))) pa_nil))) (pe_tup (pa_cons pe_str (pa_cons pe_non pa_nil)))))))), ?_⟩
    have v0 : ∀ {y2 y3 y4 y5 : Option V} {H1 : Hp}, Ex A H1 → EvD (tVar 0) [some v, some u, y2, y3, y4, y5] H1 F := fun e => ed_var rfl (DV.ext e hv)
    have hl := O.g.len
    have hl2 := O.g.len2
    have kl := O.g.ks.len
    have lc1 := ed_lc (K := K) (σ := [some v, some u, none, none, none, none]) (H := A) (tl := tOp (rIxT K) (tVar 0) (tC (.int 0))) (tt := tTest (tOp (rEqW Str true) (tVar 4) (tVar 1))) (te := tVar 4) (j := 4) (vs := [4]) (fun y : Str => decide (y ≠ x)) (fun y : Str => y) (ed_fst (v0 (Ex.refl A))) (by omega) (fun _ => rfl)
      (fun y z H1 e _ r => et_test (ev_neD (ed_var (i := 4) (v := z) rfl r) (ed_var (i := 1) (v := u) rfl (DV.ext e hu)))) fun y z H1 _ _ r _ => ed_var (i := 4) (v := z) rfl r
    rw [List.map_id', show (F.1.filter fun y => decide (y ≠ x)) = drop1 x F.1 from List.filter_congr fun y _ => by simp] at lc1
    have lc2 := ed_lc (K := K) (σ := [some v, some u, none, none, none, none]) (H := A) (tl := tOp (rIxT K) (tVar 0) (tC (.int 1))) (tt := tYes) (te := tLc (iList K (tVar 5)) (gName 4) (tTest (tOp (rEqW Str true) (tVar 4) (tVar 1))) (tVar 4) [4]) (j := 5) (vs := [5]) (fun _ : List Str => true) (fun l : List Str => drop1 x l) (ed_snd (v0 (Ex.refl A))) (by omega) (fun _ => rfl)
      (fun _ _ _ _ _ _ => et_yes) fun l z H1 e m r _ => by
        have k := ed_lc (K := K) (σ := [some v, some u, none, none, none, some z]) (H := H1) (tl := tVar 5) (tt := tTest (tOp (rEqW Str true) (tVar 4) (tVar 1))) (te := tVar 4) (j := 4) (vs := [4]) (fun y : Str => decide (y ≠ x)) (fun y : Str => y) (ed_var (v := z) rfl r) (by have := hl2 l m; omega) (fun _ => rfl)
          (fun y z2 H2 e2 _ r2 => et_test (ev_neD (ed_var (i := 4) (v := z2) rfl r2) (ed_var (i := 1) (v := u) rfl (DV.ext e2 (DV.ext e hu))))) fun y z2 H2 _ _ r2 _ => ed_var (i := 4) (v := z2) rfl r2
        rw [List.map_id', show (l.filter fun y => decide (y ≠ x)) = drop1 x l from List.filter_congr fun y _ => by simp] at k
        exact k
    rw [List.filter_eq_self.mpr (fun _ _ => rfl), show F.2.map (fun l => drop1 x l) = trust x F.2 from rfl] at lc2
    refine b_par (Bs.start eA) lc1 lc2 fun v2 v3 A2 H2 B2 x2 r2 r3 => ?_
    have e2 : EvD (tVar 2) [some v, some u, some v2, some v3, none, none] A2 (drop1 x F.1) := ed_var rfl r2
    have e3 : EvD (tVar 3) [some v, some u, some v2, some v3, none, none] A2 (trust x F.2) := ed_var rfl r3
    refine b_seqIf B2 (et_test (ev_eqD e2 (ed_lst (xs := ([] : List Str)) eda_nil (by decide)))) (fun z H3 B3 => ?_) fun z H3 B3 => ?_
    · have z' := dTrue z
      rw [show lawTrust F x = (((("last" : Str), (none : Option FamT))) : Ans) from if_pos z'] at q
      exact b_ret B3 (ed_pair ed_str ed_none) q
    · have z' := dFalse z
      have t3 := et_test (ev_notInD (ed_lst (xs := ([] : List Str)) eda_nil (by decide)) e3)
      have asc : ∀ l ∈ trust x F.2, Asc sl l := fun l m => by
        obtain ⟨a, ha, rfl⟩ := List.mem_map.mp m
        exact (O.g.lots a ha).asc.filter _
      by_cases w : ¬ [] ∈ trust x F.2
      · replace t3 := et_is t3 (decT w)
        rw [show lawTrust F x = (((("told" : Str), some (drop1 x F.1, leastOf (trust x F.2)))) : Ans) from (if_neg z').trans (if_pos w)] at q
        have e4 := ed_call1 (E := E0) (P := fun L : List (List Str) => L.length ≤ 1000 ∧ (∀ l ∈ L, l ≠ []) ∧ ∀ l ∈ L, l.length ≤ 100) (f := aLeast) e3 ⟨by unfold trust; rw [List.length_map]; exact hl, fun l m z => w (z ▸ m), fun l m => by
          obtain ⟨a, ha, rfl⟩ := List.mem_map.mp m
          exact Nat.le_trans (List.length_filter_le _ _) (hl2 a ha)⟩
        rw [aLeast_eq asc] at e4
        exact b_ret B3 (ed_ifE t3 (fun _ => ed_pair (y := some (drop1 x F.1, leastOf (trust x F.2))) ed_str (ed_some (ed_pair e2 e4))) (fun z => by cases z)) q
      · replace t3 := et_is t3 (decF w)
        rw [show lawTrust F x = (((("none" : Str), (none : Option FamT))) : Ans) from (if_neg z').trans (if_neg w)] at q
        exact b_ret B3 (ed_ifE t3 (fun z => by cases z) fun _ => ed_pair ed_str ed_none) q
end
end K07
/-! text W38 -/
set_option Elab.async false
set_option linter.all false
set_option maxRecDepth 100000
set_option maxHeartbeats 2000000
/-! sum of lists with a list to start with, none at all, too -/
namespace PySem
open Sem (wp)
open L2 (restrict)
section
variable {prog : Program} {w : World} {A : Around} {E : Value → Shared → Prop} {s : Shared}
theorem call_sum_list0 {a b : Addr} {Q : Value → Shared → Prop} (hh : A.handled = none) (ha : s.heap.IsList a (#[] : Array Value)) {nb : Nat} (hb : IsL s.heap b #[] nb)
    (hQ : ∀ h' tk p c, (∀ b o, s.heap.get? b = some o → h'.get? b = some o) → (s.heap.get? p = none ∨ p = b) → IsL h' p #[] c → Q (.ref p) { s with heap := h', toks := tk }) :
    wpAny (model prog w) A (call (.builtin "sum") [.ref a, .ref b]) Q E s := by
  refine call_function_tree F.kind_sum F.plain_sum F.entry_sum (args_sum2 _ _) ?_
  unfold Builtin.«sum»
  simp only [List.length_cons, List.length_nil]
  rw [if_neg (by decide)]
  refine wpAny_bind (wpAny_of_eq (show Builtin.Builtins.bindParams "sum" ["start"] 0 ⟨[.ref b], []⟩ = pure [some (.ref b)] from rfl) ?_)
  have hlt : a < s.heap.objs.size := by obtain ⟨_, e, _⟩ := ha; exact Heap.lt_size e
  refine wpAny_bind (wpAny_pyIter_list ha ?_)
  refine wpAny_bind (wpAny_pure ?_)
  simp only [List.forIn_cons, List.forIn_nil]
  have tb : ∀ (s' : Shared), IsL s'.heap b #[] nb → s'.TypeIs (.ref b) "list" := fun s' e => ⟨_, e, rfl⟩
  have hb1 : IsL (s.heap.push { cls := .type "list_iterator", data := .fields #[.ref a, .int 0 0] }) b #[] nb := Heap.get?_push_of_some _ hb
  refine wpAny_bind (wpAny_bind (wpAny_bind (wpAny_isInstance (T := "list") (b := false) (tb _ hb1) F.sub_list_str ?_)))
  simp only [Bool.false_eq_true, if_false]
  refine wpAny_pure (wpAny_bind (wpAny_bind (wpAny_isInstance (T := "list") (b := false) (tb _ hb1) F.sub_list_bytes ?_)))
  simp only [Bool.false_eq_true, if_false]
  refine wpAny_pure (wpAny_bind (wpAny_bind (wpAny_isInstance (T := "list") (b := false) (tb _ hb1) F.sub_list_bytearray ?_)))
  simp only [Bool.false_eq_true, if_false]
  refine wpAny_pure (wpAny_pure ?_)
  refine wpAny_bind (wpAny_newObj_type ?_)
  have W := (Walks.list (prog := prog) (w := w) (A := A.in1) hh s.heap.objs.size a (Nat.ne_of_lt hlt) (#[] : Array Value)).toS
  have st0 : (s.heap.push { cls := .type "list_iterator", data := .fields #[.ref a, .int 0 0] }).IsListIter s.heap.objs.size a 0 ∧ (s.heap.push { cls := .type "list_iterator", data := .fields #[.ref a, .int 0 0] }).IsList a (#[] : Array Value) := ⟨⟨_, Heap.get?_push_size _ rfl, rfl, rfl⟩, ha.push _⟩
  generalize hg : s.heap.push { cls := .type "list_iterator", data := .fields #[.ref a, .int 0 0] } = g1 at *
  have sz1 : g1.objs.size = s.heap.objs.size + 1 := by rw [← hg, Heap.size_push]
  have k1 : ∀ b o, s.heap.get? b = some o → g1.get? b = some o := fun b o e => by
    rw [← hg]
    exact Heap.get?_push_of_some _ e
  have hSf : g1.objs.size ∉ [s.heap.objs.size, a] := fun hm => by
    rcases List.mem_cons.mp hm with z | hm
    · exact absurd (sz1.symm.trans z) (Nat.succ_ne_self _)
    · have z := List.mem_singleton.mp hm
      rw [← z, sz1] at hlt
      exact absurd hlt (Nat.not_lt.mpr (Nat.le_succ _))
  have hbs : b ∉ g1.objs.size :: [s.heap.objs.size] := fun hm => by
    have hb' : b < s.heap.objs.size := Heap.lt_size hb
    rcases List.mem_cons.mp hm with z | hm
    · rw [z, sz1] at hb'
      exact absurd hb' (Nat.not_lt.mpr (Nat.le_succ _))
    · rw [List.mem_singleton.mp hm] at hb'
      exact absurd hb' (Nat.lt_irrefl _)
  obtain ⟨H0, g1', g2'⟩ := restrict s.heap fun x => decide (x ≠ b)
  have h0 : ∀ c o, H0.get? c = some o → s.heap.get? c = some o ∧ c ≠ b := fun c o e => by
    by_cases y : c = b
    · rw [g2' c (by simp [y])] at e
      cases e
    · rw [g1' c (by simp [y])] at e
      exact ⟨e, y⟩
  have hnb : H0.get? b = none := g2' b (by simp)
  refine wpAny_pure ⟨plainId_quiet F.plain_sum_loop _, codeAny_sum_loopL W (fun i s' st c m => ?_) H0 (fun c o e m => ?_) (fun _ => #[]) (fun i v e => ?_) g1.objs.size hSf ?_ 0 0 _ b #[] _ nb (by simp) (Nat.zero_le _) (fun c o e => Heap.get?_push_of_some _ (k1 c o (h0 c o e).1))
    (W.frame 0 _ _ _ (show _ from st0) (Nat.le_refl _) fun c _ o e => Heap.get?_push_of_some _ e) (Heap.get?_push_size _ rfl) (Heap.get?_push_of_some _ hb1) hbs (Nat.zero_le _) (.inr hnb) fun s' acc d k2 k3 k4 hm => ?_⟩
  · rw [List.mem_singleton.mp m]
    obtain ⟨⟨o, e, _⟩, _⟩ := (st : _ ∧ _)
    exact ⟨o, e⟩
  · have y := Heap.lt_size (h0 c o e).1
    rw [List.mem_singleton.mp m] at y
    exact absurd y (Nat.lt_irrefl _)
  · simp at e
  · cases m : H0.get? g1.objs.size with
    | none => rfl
    | some o =>
      have y := Heap.lt_size (h0 _ o m).1
      rw [sz1] at y
      exact absurd y (Nat.not_lt.mpr (Nat.le_succ _))
  · obtain ⟨hp, g, dd, tk, os⟩ := s'
    obtain ⟨m1, m2, m3, m4, _⟩ := hm
    cases m2
    cases m3
    cases m4
    refine hQ hp tk acc d (fun c o e => ?_) ?_ k4
    · refine m1 c o (fun m => ?_) (Heap.get?_push_of_some _ (k1 c o e))
      have y := Heap.lt_size e
      rcases List.mem_cons.mp m with z | m
      · rw [z, sz1] at y
        exact absurd y (Nat.not_lt.mpr (Nat.le_succ _))
      · rw [List.mem_singleton.mp m] at y
        exact absurd y (Nat.lt_irrefl _)
    · by_cases y : acc = b
      · exact .inr y
      · left
        rw [g1' acc (by simp [y])] at k3
        exact k3
end
end PySem
namespace Dw
open PySem PySem.Spec PyProof.Rows L2 Evl PySem.W DV
def rSumA : List V → Hp → VK → Prop := fun vs H Q => ∃ (a b : Addr) (rs : List Addr) (ls : List (List V)), vs = [.ref a, .ref b] ∧ H a = some (.lst (rs.map V.ref)) ∧ H b = some (.lst []) ∧ Paired (fun r l => H r = some (.lst l)) rs ls ∧ ls.flatten.length ≤ sizeLine ∧
  (∀ p, H p = none → Q (.ref p) (upd H p (.lst ls.flatten))) ∧ (rs = [] → Q (.ref b) H)
theorem cr_sumA {X : Cx} (hc : X.calm = true) : CallR X (.builtin "sum") rSumA := by
  intro pins s σ H vs us Q I r h
  obtain ⟨a, b, rs, ls, rfl, ha, hb, hp, hz, q, q0⟩ := h
  by_cases ne : rs = []
  · subst ne
    cases hp
    cases r with
    | cons r1 r =>
      cases r with
      | cons r2 r =>
        cases r
        rename_i u1 u2
        obtain rfl : u1 = Value.ref a := r1
        obtain rfl : u2 = Value.ref b := r2
        obtain ⟨_, its, n, rv, e⟩ := I.hok _ _ ha
        obtain ⟨_, its2, n2, rv2, e2⟩ := I.hok _ _ hb
        cases rv
        cases rv2
        refine call_sum_list0 (I.ok.hd hc) ⟨_, e, rfl, n, rfl⟩ e2 fun h' tk p c k1 k2 k3 => ?_
        rcases k2 with k2 | rfl
        · have np : H p = none := HOk.gone I.hok k2
          exact ⟨.ref p, upd H p (.lst []), I.laidN k1 k2 np (show ObjOk X.prog X.w _ _ _ (.lst []) from ⟨Nat.zero_le _, [], c, .nil, k3⟩), rfl, q _ np⟩
        · exact ⟨.ref p, H, I.kept k1, rfl, q0 rfl⟩
  · exact cr_sumL hc pins s σ H _ us Q I r ⟨a, b, rs, ls, rfl, ha, hb, ne, hp, hz, q⟩
end Dw
/-! text E20 -/
set_option Elab.async false
set_option linter.all false
set_option maxRecDepth 100000
set_option maxHeartbeats 4000000
/-! answers: what a lambda within the try tells; what is known where tables grow -/
namespace K07
open PySem PySem.Spec PyProof.Rows L2 Evl PySem.W Dw Dw.DV RZ StX Lot LmV LamX NdefX
/-- an answer, what it tells being new; L: its lists, none twice -/
def AnsW (a : Ans) : Hp → V → List Addr → Prop := fun H u L => ∃ p v, u = .ref p ∧ H p = some (.tup [.str a.1, v]) ∧ match a.2 with
  | none => v = .non ∧ L = []
  | some F => FmW F H v L
/-- the end of a lambda's call within the try -/
def EndA (T : List (Addr × Str)) (H : Hp) (a : Ans) (Q : VK) : Prop := ∀ u H' Hs L, Lt T H H' → Ex Hs H' → (∀ b o, Hs b = some o → nt H b = none) → AnsW a Hs u L → L.Nodup → (∀ x ∈ L, ∃ o, Hs x = some o) → Q u H'
theorem drop_len1 {F : FamT} {x : Str} (O : Kpr F x) : (drop1 x F.1).length + 1 = F.1.length := by
  have nd := O.g.ks.asc.nodup sl_tot
  have key : ∀ {l : List Str}, l.Nodup → x ∈ l → (drop1 x l).length + 1 = l.length := by
    intro l
    induction l with
    | nil => exact fun _ m => by cases m
    | cons y r ih =>
      intro nd m
      obtain ⟨n1, n2⟩ := List.nodup_cons.mp nd
      unfold drop1 at ih ⊢
      by_cases e : y = x
      · subst e
        have h : r.filter (fun z => !decide (z = y)) = r := List.filter_eq_self.mpr fun z hz => by
          have : z ≠ y := fun q => n1 (q ▸ hz)
          simp [this]
        rw [List.filter_cons]
        simp only [decide_true, Bool.not_true, Bool.false_eq_true, if_false]
        rw [h]
        rfl
      · rcases List.mem_cons.mp m with z | z
        · exact absurd z.symm e
        · rw [List.filter_cons]
          simp only [e, decide_false, Bool.not_false, if_true, List.length_cons]
          rw [ih n2 z]
  exact key nd O.m
theorem drop_nil {F : FamT} {x : Str} (O : Kpr F x) : drop1 x F.1 = [] ↔ F.1.length = 1 := by
  have k := drop_len1 O
  constructor
  · intro e
    rw [e] at k
    exact k.symm
  · intro e
    exact List.eq_nil_of_length_eq_zero (by omega)
theorem told_of {T : List (Addr × Str)} {H H1 : Hp} {w : Str} {v : V} {a : Ans} {Q : VK} {Hs : Hp} {L : List Addr} (q : EndA T H a Q) (l : Lt T H H1) (e : Ex Hs H1) (n : ∀ b o, Hs b = some o → nt H b = none) (ea : a.1 = w)
    (h : ∀ H', Ex Hs H' → match a.2 with
      | none => v = .non ∧ L = []
      | some F => FmW F H' v L) (nd : L.Nodup) (d : ∀ x ∈ L, ∃ o, Hs x = some o) : kTold w Q v H1 := ⟨by decide, fun p np => by
  have nHs : Hs p = none := exf e np
  have x : Ex Hs (upd Hs p (.tup [.str w, v])) := Ex.new nHs
  refine q (.ref p) _ (upd Hs p (.tup [.str w, v])) L (l.go (Ex.new np)) (upd_ex2 e) (fun b o h => ?_) ⟨p, v, rfl, by rw [ea]; exact upd_same, h _ x⟩ nd fun x' m => ?_
  · by_cases y : b = p
    · rw [y]
      exact exf (nt_ex (Ex.refl H) l.n) np
    · rw [upd_ne y] at h
      exact n b o h
  · obtain ⟨o, ho⟩ := d x' m
    exact ⟨o, x _ _ ho⟩⟩
section
variable {T : List (Addr × Str)} {c : Nat → Addr} {H H1 A1 : Hp} {F : FamT} {x : Str} {v : V} {Q : VK}
theorem none_told {w : Str} (l : Lt T H H1) (q : EndA T H ((w, none) : Ans) Q) : kTold w Q .non H1 := told_of (Hs := fun _ => none) (L := []) q l (fun _ _ z => by cases z) (fun _ _ z => by cases z) rfl (fun _ _ => ⟨rfl, rfl⟩) .nil fun _ m => by cases m
/-- fallen_family within the try -/
theorem met_fall (e : Ex A1 H1) (h : FmR F A1 v) (O : Kpr F x) (l : Lt T H H1) (q : EndA T H (lawFall F x) Q) : spFallL (c 9) (c 10) [v, .str x] H1 (kTold "told" Q) (EMet c Q) := by
  refine ⟨v, .str x, F, x, A1, rfl, e, h, rfl, O, fun e1 H' e' => ?_, fun e1 e2 H' e' => ?_, fun e1 e2 => ?_⟩
  · rw [show lawFall F x = (((("last" : Str), (none : Option FamT))) : Ans) from if_pos ((drop_nil O).mpr e1)] at q
    exact .inr (.inr (.inl ⟨rfl, none_told (l.go e') q⟩))
  · rw [show lawFall F x = (((("none" : Str), (none : Option FamT))) : Ans) from (if_neg fun z => e1 ((drop_nil O).mp z)).trans (if_neg fun z => z e2)] at q
    exact .inr (.inr (.inr ⟨rfl, none_told (l.go e') q⟩))
  · rw [show lawFall F x = (((("told" : Str), some (drop1 x F.1, fall x F.2))) : Ans) from (if_neg fun z => e1 ((drop_nil O).mp z)).trans (if_pos e2)] at q
    intro u H' Hs L e' s o r n d
    exact told_of (Hs := Hs) (L := L) q (l.go e') s (fun b x z => exf (nt_mono l.n) (exf nt_sub (o b x z))) rfl (fun H2 e2 => fmW_mon _ _ _ _ _ e2 r) n d
/-- trusted_family within the try -/
theorem met_trust (e : Ex A1 H1) (h : FmR F A1 v) (O : Kpr F x) (l : Lt T H H1) (q : EndA T H (lawTrust F x) Q) : spTrustL T (c 9) (c 10) [v, .str x] H1 (kTold "told" Q) (EMet c Q) := by
  refine ⟨v, .str x, F, x, A1, rfl, e, l.t, h, rfl, O, fun e1 H' e' => ?_, fun e1 e2 H' e' => ?_, fun e1 e2 => ?_⟩
  · rw [show lawTrust F x = (((("last" : Str), (none : Option FamT))) : Ans) from if_pos ((drop_nil O).mpr e1)] at q
    exact .inr (.inr (.inl ⟨rfl, none_told (l.go e') q⟩))
  · rw [show lawTrust F x = (((("none" : Str), (none : Option FamT))) : Ans) from (if_neg fun z => e1 ((drop_nil O).mp z)).trans (if_neg fun z => z e2)] at q
    exact .inr (.inr (.inr ⟨rfl, none_told (l.go e') q⟩))
  · rw [show lawTrust F x = (((("told" : Str), some (drop1 x F.1, leastOf (trust x F.2)))) : Ans) from (if_neg fun z => e1 ((drop_nil O).mp z)).trans (if_pos e2)] at q
    intro u H' Hs L l' s o r n d
    exact told_of (Hs := Hs) (L := L) q (l.trans l') s (fun b x z => exf (nt_mono l.n) (o b x z)) rfl (fun H2 e2 => fmW_mon _ _ _ _ _ e2 r) n d
end
/-! ### no tables among what is known -/
def NT (A : Hp) : Prop := ∀ b ps, A b ≠ some (.tbl ps)
theorem nt_NT (A : Hp) : NT (nt A) := fun b ps h => (nt_of h).2 ps rfl
theorem NT.ex {A H H' : Hp} (n : NT A) (e : Ex A H) (x : ExtN H H') : Ex A H' := fun b o h => x _ _ (e _ _ h) fun ps z => n b ps (by rw [h, z])
theorem NT.jn {A B : Hp} (a : NT A) (b : NT B) : NT (jn A B) := fun c ps h => (jn_of h).elim (a c ps) (b c ps)
theorem seqAt_n {A A' : Hp} (e : ExtN A A') {a : Addr} {vs : List V} (h : SeqAt A a vs) : SeqAt A' a vs := h.imp (fun h => e _ _ h fun _ z => by cases z) fun h => e _ _ h fun _ z => by cases z
theorem lsR_n {A A' : Hp} (e : ExtN A A') {v : V} {xs : List Str} (h : LsR xs A v) : LsR xs A' v := by
  obtain ⟨a, vs, rfl, h1, h2⟩ := h
  exact ⟨a, vs, rfl, seqAt_n e h1, h2⟩
theorem llR_n {A A' : Hp} (e : ExtN A A') {v : V} {xs : List (List Str)} (h : LlR xs A v) : LlR xs A' v := by
  obtain ⟨a, vs, rfl, h1, h2⟩ := h
  exact ⟨a, vs, rfl, seqAt_n e h1, pimp (fun _ _ z => lsR_n e z) h2⟩
theorem fmR_n {A A' : Hp} (e : ExtN A A') {v : V} {F : FamT} (h : FmR F A v) : FmR F A' v := by
  obtain ⟨a, vs, rfl, h1, v1, v2, rfl, h2, h3⟩ := h
  exact ⟨a, _, rfl, seqAt_n e h1, v1, v2, rfl, lsR_n e h2, llR_n e h3⟩
theorem tw_n {A B A' B' : Hp} (e : ExtN A A') (e2 : ExtN B B') : ∀ {d : Nat} {v u : V}, Tw A B d v u → Tw A' B' d v u
  | 0, _, _, h => h.elim
  | d + 1, v, u, h => by
    rcases h with h | ⟨a, b, xs, ys, h1, h2, h3, h4, h5, h6⟩ | ⟨a, b, xs, ys, h1, h2, h3, h4, h5, h6⟩ | ⟨a, b, kvs, h1, h2, h3, h4, h5, h6, h7⟩
    · exact .inl h
    · exact .inr (.inl ⟨a, b, xs, ys, h1, h2, e _ _ h3 (fun _ z => by cases z), e2 _ _ h4 (fun _ z => by cases z), h5, pimp (fun _ _ z => tw_n e e2 z) h6⟩)
    · exact .inr (.inr (.inl ⟨a, b, xs, ys, h1, h2, e _ _ h3 (fun _ z => by cases z), e2 _ _ h4 (fun _ z => by cases z), h5, pimp (fun _ _ z => tw_n e e2 z) h6⟩))
    · exact .inr (.inr (.inr ⟨a, b, kvs, h1, h2, e _ _ h3 (fun _ z => by cases z), e2 _ _ h4 (fun _ z => by cases z), h5, h6, h7⟩))
instance {α : Type} [DecidableEq α] [Datum α] [DVT α] [SomeDatum α] [DVN α] : DVN (Option α) := ⟨fun {H H' v x} e h => by
  cases x with
  | none => exact h
  | some y => exact DVN.extN (α := α) e h⟩
theorem ansW_rep {a : Ans} {H : Hp} {u : V} {L : List Addr} (h : AnsW a H u L) : rep H u a := by
  obtain ⟨w, o⟩ := a
  obtain ⟨p, v, rfl, h1, h2⟩ := h
  cases o with
  | none => exact ⟨p, .str w, v, rfl, h1, rfl, h2.1⟩
  | some F => exact ⟨p, .str w, v, rfl, h1, rfl, fmW_rep h2⟩
end K07
/-! text E21 -/
set_option Elab.async false
set_option linter.all false
set_option maxRecDepth 100000
set_option maxHeartbeats 4000000
/-! all that is asked of the module, in one; the lambdas' calls -/
namespace K07
open PySem PySem.Spec PyProof.Rows L2 Evl PySem.W Dw Dw.DV RZ StX Lot LmV LamX NdefX XvC KwX
abbrev lamsOf : List (Nat × Str) := [(57, "_law_keeper_right.<locals>.<lambda>"), (58, "_law_two_right.<locals>.<lambda>"), (59, "_law_least_right.<locals>.<lambda>")]
/-- the module, as the walk needs it: fa, da the defs by their places, c the classes of the clauses, pt the tables of lambdas -/
structure Wd (P : Program) (w : World) (K : PySem.W.Frag) (mg : Str → Option Value) (base : Heap) (T : List (Addr × Str)) (fa : Nat → Addr) (da : Nat → FuncData) (c : Nat → Addr) (pt : Nat → Addr) : Prop where
  d : ∀ i x, (i, x) ∈ lawDefs → Df K mg x i (fa i) (da i)
  b : Bn mg
  m : Mx K mg c
  nl : NoX K mg "NoLots" (c 10)
  lk : NoX K mg "LastKeeper" (c 9)
  bk : Ex1 P w K mg base "BadKeepers" "thing" (c 2)
  bl : Ex1 P w K mg base "BadLots" "index" (c 4)
  le : LeT base mg T (pt 25) (da 25)
  tb : ∀ i q, (i, q) ∈ lamsOf → (∀ cc, (da i).code = .ref cc → TabB base mg cc (pt i)) ∧ (pt i, q) ∈ T ∧ ∀ p ∈ T, p.1 = pt i → p.2 = q
section
variable {P : Program} {w : World} {K : PySem.W.Frag} {mg : Str → Option Value} {base : Heap} {T : List (Addr × Str)} {fa : Nat → Addr} {da : Nat → FuncData} {c pt : Nat → Addr}
theorem Wd.fs (W : Wd P w K mg base T fa da c pt) : Fs K mg (fa 14) (fa 15) (fa 16) (fa 18) (fa 19) (fa 20) (fa 21) (fa 22) (fa 23) (da 14) (da 15) (da 16) (da 18) (da 19) (da 20) (da 21) (da 22) (da 23) :=
  ⟨W.d 14 _ (by decide +kernel), W.d 15 _ (by decide +kernel), W.d 16 _ (by decide +kernel), W.d 18 _ (by decide +kernel), W.d 19 _ (by decide +kernel), W.d 20 _ (by decide +kernel), W.d 21 _ (by decide +kernel), W.d 22 _ (by decide +kernel), W.d 23 _ (by decide +kernel)⟩
/-- a def's bindings: of one parameter, of two -/
theorem df_b1 {x a : Str} {i : Nat} {f : Addr} {fd : FuncData} (D : Df K mg x i f fd) (h : ∀ (kV doc pm : Value) (an : Option Addr) (cdv ct u : Value), bindArgs (PySem.W.fnOf x x (defArgs (top i)) (defBody (top i)) (defScope (top i)) .none kV doc pm an cdv ct) ⟨[u], []⟩ = pure [(a, u)]) : Binds K fd [a] [] :=
  D.F.bindsN fun kV doc pm an cdv ct us hl => match us, hl with | [u], _ => h kV doc pm an cdv ct u
theorem df_b2 {x a b : Str} {i : Nat} {f : Addr} {fd : FuncData} (D : Df K mg x i f fd) (h : ∀ (kV doc pm : Value) (an : Option Addr) (cdv ct u v : Value), bindArgs (PySem.W.fnOf x x (defArgs (top i)) (defBody (top i)) (defScope (top i)) .none kV doc pm an cdv ct) ⟨[u, v], []⟩ = pure [(a, u), (b, v)]) : Binds K fd [a, b] [] :=
  D.F.bindsN fun kV doc pm an cdv ct us hl => match us, hl with | [u, v], _ => h kV doc pm an cdv ct u v
/-- _law_a_met(lambda: body) -/
theorem pe_met {X : Cx} {cc Pt : Addr} {k : Nat} (sc : Scope) {params : Arguments} {body : Expr} {scope : Scope} {p lpos pos : Pos} {t : XK → TE} (W : Wd X.prog X.w X.K X.mg X.base T fa da c pt) (hg : Gl X "_law_a_met") (TB : TabB X.base X.mg cc Pt) (hcode : X.env.code = .ref cc)
    (hm : (Pt, X.env.qual ++ "<lambda>") ∈ T) (hu : ∀ p ∈ T, p.1 = Pt → p.2 = X.env.qual ++ "<lambda>") (hr : Room (k + 2) X.A) (hsc : X.env.scope = sc) (L : lamSB sc scope = true) (hdef : defaultsOf params X.env = ([], []))
    (hbind : ∀ (q : Str) (cl : List (Str × Addr)) (pm cv ctv : Value), bindArgs (PySem.W.kla_fn "<lambda>" q params body scope cl pm cv ctv) ⟨[], []⟩ = pure [])
    (hbody : ∀ (A : Around) (outer : List Env) (s : Shared) (H : Hp) (E : XK) (f c' : Addr), Room k (A.deeper (lamEnv X scope s.heap.objs.size f c')) → PE (lamCx X A outer s H E scope f c') body (t E)) :
    PE X (.Call (.Name "_law_a_met" p) [.Lambda params body scope lpos] [] pos) (tLam T (TMet c) t) := by
  have D := W.d 44 "_law_a_met" (by decide +kernel)
  have b0 : Binds X.K (da 44) ["query"] [] := df_b1 D (by intros; rfl)
  obtain ⟨oc, od, dV, kV, doc, pm, an, cdv, ct, osl, e, lk, hcd, hD, hK⟩ := D.F.ex
  rw [e] at b0 lk
  exact pe_lamcall hg D.g D.F.kp lk hcd b0 scMet rfl (.inl rfl) (met_gives W.m) TB hcode hm hu hr (lamS_by (by rw [hsc]; exact L)) hdef hbind hbody
/-- _law_a_passed -/
abbrev spPassed : Sp := spLo 5
theorem scPs : FnScope ["stream", "family"] ["stream", "family"] (defScope (top 43)) := ⟨rfl, rfl, rfl, by decide +kernel, rfl, by decide +kernel, by decide +kernel⟩
theorem ok_passed (W : Wd P w K mg base T fa da c pt) : FnOk P w K mg base CX0 7 (fa 43) (da 43) ["stream", "family"] spPassed := by
  have D := W.d 51 "_law_loose" (by decide +kernel)
  have G := ok_loose (P := P) (w := w) (base := base) D.F D.g W.b (W.d 46 _ (by decide +kernel)) 5
  have bS : Binds K (da 51) ["stream", "thing"] [] := df_b2 D (by intros; rfl)
  refine (W.d 43 "_law_a_passed" (by decide +kernel)).F.ok scPs (fun vs H Q E h => ?_) (fun cdv A0 outer s H vs Q E hr h => ?_)
  · obtain ⟨p, c, n, v, A, m, rfl, _⟩ := h
    rfl
  · have h0 := h
    obtain ⟨p, c, n, v, A, m, rfl, _⟩ := h
    exact ⟨_, PSs.nox (pss_one (ps_ret (pe_call G hr (by rfl) D.g D.F.kp bS .nil pass0 (pa_cons (pv 0) (pa_cons (pv 1) pa_nil))))), .ref p, rfl, v, rfl, h0⟩
end
end K07
/-! text E22 -/
set_option Elab.async false
set_option linter.all false
set_option maxRecDepth 100000
set_option maxHeartbeats 8000000
/-! what keeper_right does with what is told -/
namespace K07
open PySem PySem.Spec PyProof.Rows L2 Evl PySem.W Dw Dw.DV RZ StX Lot LmV LamX NdefX XvC KwX
section
variable {K : PySem.W.Frag} {σ : L2.St} {H : Hp} {ta tb te tl : TE} {tt : TT}
/-- exact values: two new lists joined -/
theorem el_cat {xs ys : List V} (ha : EvL ta σ H xs) (hb : EvL tb σ H ys) (hl : xs.length + ys.length ≤ 100000) : EvL (tOp rCat ta tb) σ H (xs ++ ys) := fun H1 e Q q => ha H1 e _ fun a H2 na e2 h2 => hb H2 (e.trans e2) _ fun b H3 nb e3 h3 =>
  ⟨a, b, xs, ys, rfl, rfl, e3 _ _ h2, h3, sz_of hl, fun p np => q p _ (fresh_back (e2.trans e3) np) ((e2.trans e3).trans (Ex.new np)) upd_same⟩
/-- exact values: [te for x in tl if tt] -/
theorem el_lcF {xs : List V} {j : Nat} {vs : List Nat} (f : V → Bool) (g : V → V) (h : EvL tl σ H xs) (hz : xs.length ≤ 40000) (hw : ∀ x, wipe ((wipe σ vs).set j (some x)) vs = wipe σ vs)
    (ht : ∀ (x : V), x ∈ xs → EvT tt ((wipe σ vs).set j (some x)) H (f x)) (he : ∀ (x : V), x ∈ xs → f x = true → Ev te ((wipe σ vs).set j (some x)) H (g x)) : EvL (tLc (iList K tl) (gName j) tt te vs) σ H ((xs.filter f).map g) := fun H0 e Q q => h H0 e _ fun a H1 na e1 hx =>
  ⟨a, rfl, ⟨xs, sq_of hx⟩, fun D hD => lc_list (xs := xs) (fun i H' => Ex H1 H' ∧ H' D = some (.lst (((xs.take i).filter f).map g))) ⟨Ex.new hD, upd_same⟩ (fun i H' _ p => sq_of (p.1 _ _ hx)) (fun i x H' hi p => ⟨hw x, ht x (List.mem_of_getElem? hi) H' ((e.trans e1).trans p.1) _ fun H3 e3 => by
      have st : ((xs.take (i + 1)).filter f).map g = ((xs.take i).filter f).map g ++ (if f x = true then [g x] else []) := by
        rw [List.take_add_one, hi, List.filter_append, List.map_append]
        by_cases w : f x = true
        · simp [w]
        · simp [w]
      by_cases w : f x = true
      · rw [if_pos w] at st
        rw [w]
        show te _ H3 _
        refine he x (List.mem_of_getElem? hi) w H3 (((e.trans e1).trans p.1).trans e3) _ fun H4 e4 => ⟨_, e4 _ _ (e3 _ _ p.2), ?_, ((p.1.trans e3).trans e4).mut hD, by rw [upd_same, st]⟩
        have l1 := List.length_filter_le f (xs.take i)
        rw [List.length_map]
        rw [List.length_take] at l1
        exact sz_lt (by omega)
      · rw [if_neg w, List.append_nil] at st
        rw [show f x = false by simpa using w]
        show _ ∧ _
        exact ⟨p.1.trans e3, by rw [st]; exact e3 _ _ p.2⟩⟩)
    (fun H' p => q D H' (fresh_back e1 hD) (e1.trans p.1) (by
      have := p.2
      rwa [List.take_of_length_le (Nat.le_refl _)] at this))⟩
/-- [list(row) for row in tl], the rows pairs: new lists of what they hold -/
theorem ell_rows {a : Addr} {xs : List V} {ls : List (List V)} {j : Nat} (h : Ev tl σ H (.ref a)) (hx : H a = some (.lst xs)) (hr : Paired (fun v l => ∃ p, v = .ref p ∧ H p = some (.tup l)) xs ls) (hz : xs.length ≤ 40000) (hw : ∀ x, wipe ((wipe σ [j]).set j (some x)) [j] = wipe σ [j]) (hj : ∀ x, ((wipe σ [j]).set j (some x))[j]? = some (some x)) :
    ∀ H1, Ex H H1 → ∀ Q : VK, (∀ D rs H2, Ex H1 H2 → H2 D = some (.lst (rs.map V.ref)) → Paired (fun r l => H2 r = some (.lst l)) rs ls → Q (.ref D) H2) → tLc (iList K tl) (gName j) tYes (tCB (rListS K) (tCons (tVar j) tNil)) [j] σ H1 Q := fun H0 e Q q => h H0 e _ fun H1 e1 =>
  ⟨a, rfl, ⟨xs, sq_of ((e.trans e1) _ _ hx)⟩, fun D hD => by
    have len : xs.length = ls.length := Paired.length hr
    refine lc_list (xs := xs) (fun i H' => Ex H1 H' ∧ ∃ rs, H' D = some (.lst (rs.map V.ref)) ∧ Paired (fun r l => H' r = some (.lst l)) rs (ls.take i) ∧ D ∉ rs) ⟨Ex.new hD, [], upd_same, .nil, fun m => by cases m⟩ (fun i H' _ p => sq_of (((e.trans e1).trans p.1) _ _ hx)) (fun i x H' hi p => ?_) (fun H' p => ?_)
    · obtain ⟨p1, rs, p2, p3, p4⟩ := p
      obtain ⟨li, _⟩ := List.getElem?_eq_some_iff.mp hi
      have hk : ls[i]? = some ls[i] := List.getElem?_eq_getElem (by omega)
      obtain ⟨b, rfl, hb⟩ := pat hr hi hk
      refine ⟨hw _, .ref b, hj _, b, ls[i], rfl, .inr (st_of (((e.trans e1).trans p1) _ _ hb)), fun l nl => ?_⟩
      have Dl : D ≠ l := ne_of_none p2 nl
      have lr := Paired.length p3
      rw [List.length_take] at lr
      refine ⟨rs.map V.ref, by rw [upd_ne Dl]; exact p2, by rw [List.length_map]; exact sz_lt (by omega), (p1.trans (Ex.new nl)).mut hD, rs ++ [l], by rw [upd_same, List.map_append]; rfl, ?_, fun m => ?_⟩
      · rw [List.take_add_one, hk]
        refine papp (pmemR (fun r l' mr _ hr' => ?_) p3) (.cons ?_ .nil)
        · have hr'' : H' r = some (.lst l') := hr'
          show (upd (upd H' l _) D _) r = _
          rw [upd_ne (fun z => p4 (by rw [← z]; exact mr)), upd_ne (ne_of_none hr'' nl)]
          exact hr''
        · show (upd (upd H' l _) D _) l = _
          rw [upd_ne Dl.symm, upd_same]
      · rcases List.mem_append.mp m with y | y
        · exact p4 y
        · exact Dl (List.mem_singleton.mp y)
    · obtain ⟨p1, rs, p2, p3, p4⟩ := p
      rw [List.take_of_length_le (by omega)] at p3
      exact q D rs H' (e1.trans p1) p2 p3⟩
end
/-! ### rows of answers -/
inductive Rws (H : Hp) : List V → List Ans → List Addr → Prop where
  | nil : Rws H [] [] []
  | cons {u : V} {us : List V} {a : Ans} {as : List Ans} {L M : List Addr} (h : AnsW a H u L) (r : Rws H us as M) : Rws H (u :: us) (a :: as) (L ++ M)
def secW (H : Hp) : V → V × V
  | .ref p => match H p with
    | some (.tup [w, v]) => (w, v)
    | _ => (.non, .non)
  | _ => (.non, .non)
theorem secW_of {H : Hp} {p : Addr} {w v : V} (h : H p = some (.tup [w, v])) : secW H (.ref p) = (w, v) := by
  show (match H p with
    | some (.tup [w, v]) => (w, v)
    | _ => (V.non, V.non)) = _
  rw [h]
def tagB (H : Hp) (u : V) : Bool := decide ((secW H u).1 = .str "told")
/-- an answer's word fits -/
def Fit (a : Ans) : Prop := a.1 = "told" ↔ a.2 ≠ none
theorem fit_fall (F : FamT) (x : Str) : Fit (lawFall F x) := by
  have n1 : (("last" : Str) = "told") ↔ False := ⟨fun z => absurd z (by decide), False.elim⟩
  have n2 : (("none" : Str) = "told") ↔ False := ⟨fun z => absurd z (by decide), False.elim⟩
  unfold Fit lawFall
  split
  · simp [n1]
  · split <;> simp [n2]
theorem fit_trust (F : FamT) (x : Str) : Fit (lawTrust F x) := by
  have n1 : (("last" : Str) = "told") ↔ False := ⟨fun z => absurd z (by decide), False.elim⟩
  have n2 : (("none" : Str) = "told") ↔ False := ⟨fun z => absurd z (by decide), False.elim⟩
  unfold Fit lawTrust
  split
  · simp [n1]
  · split <;> simp [n2]
theorem rws_told {H : Hp} : ∀ {us : List V} {as : List Ans} {M : List Addr}, Rws H us as M → (∀ a ∈ as, Fit a) → ∃ fs, RL (fun F => FmW F) H fs ((us.filter (tagB H)).map fun u => (secW H u).2) M ∧ ∀ F ∈ fs, ∃ a ∈ as, a.2 = some F
  | _, _, _, .nil, _ => ⟨[], .nil, fun _ m => by cases m⟩
  | _, _, _, .cons (a := a) (L := L) (M := M) h r, hf => by
    obtain ⟨fs, h1, h2⟩ := rws_told r fun a m => hf a (List.mem_cons_of_mem _ m)
    obtain ⟨p, v, rfl, hp, hm⟩ := h
    have e := secW_of hp
    have ft := hf a List.mem_cons_self
    obtain ⟨w, o⟩ := a
    cases o with
    | none =>
      obtain ⟨rfl, rfl⟩ := hm
      have nt : w ≠ "told" := fun z => (ft.mp z) rfl
      have tg : tagB H (.ref p) = false := by
        unfold tagB
        rw [e]
        exact decide_eq_false fun z => nt (V.str.inj z)
      refine ⟨fs, ?_, fun F m => (h2 F m).imp fun a z => ⟨List.mem_cons_of_mem _ z.1, z.2⟩⟩
      rw [List.filter_cons, if_neg (by rw [tg]; simp)]
      exact h1
    | some F =>
      have tt : w = "told" := ft.mpr (by simp)
      have tg : tagB H (.ref p) = true := by
        unfold tagB
        rw [e]
        exact decide_eq_true (by rw [tt])
      refine ⟨F :: fs, ?_, fun G m => ?_⟩
      · rw [List.filter_cons, if_pos tg, List.map_cons, e]
        exact .cons hm h1
      · rcases List.mem_cons.mp m with y | y
        · rw [y]
          exact ⟨(w, some F), List.mem_cons_self, rfl⟩
        · exact (h2 G y).imp fun a z => ⟨List.mem_cons_of_mem _ z.1, z.2⟩
/-! ### told families as trees -/
theorem rl_strT {H : Hp} {d : Nat} : ∀ {xs : List Str} {vs : List V} {L : List Addr}, RL StrW H xs vs L → late9 ∉ xs → L = [] ∧ ∃ Ms, Paired (fun v M => Tr H (d + 1) v M) vs Ms ∧ Ms.flatten = []
  | _, _, _, .nil, _ => ⟨rfl, [], .nil, rfl⟩
  | _, _, _, .cons h r, n => by
    obtain ⟨e, Ms, h1, h2⟩ := rl_strT r fun m => n (List.mem_cons_of_mem _ m)
    obtain ⟨rfl, rfl⟩ := h
    refine ⟨by rw [e]; rfl, [] :: Ms, .cons (.inl ⟨_, rfl, fun z => n (z ▸ List.mem_cons_self), rfl⟩) h1, ?_⟩
    rw [List.flatten_cons, h2]
    rfl
theorem ls_tr {H : Hp} {d : Nat} {xs : List Str} {v : V} {L : List Addr} (h : LstW StrW xs H v L) (n : late9 ∉ xs) (l : xs.length ≤ 1000) : Tr H (d + 2) v L := by
  obtain ⟨a, vs, Ls, rfl, h1, h2, rfl⟩ := h
  obtain ⟨rfl, Ms, k1, k2⟩ := rl_strT (d := d) h2 n
  exact .inr (.inl ⟨a, vs, Ms, rfl, h1, by rw [h2.len]; exact l, k1, by rw [k2]⟩)
theorem rl_lsT {H : Hp} {d : Nat} : ∀ {xs : List (List Str)} {vs : List V} {L : List Addr}, RL (fun l => LstW StrW l) H xs vs L → (∀ l ∈ xs, late9 ∉ l ∧ l.length ≤ 1000) → ∃ Ms, Paired (fun v M => Tr H (d + 2) v M) vs Ms ∧ Ms.flatten = L
  | _, _, _, .nil, _ => ⟨[], .nil, rfl⟩
  | _, _, _, .cons (L := L) h r, n => by
    obtain ⟨Ms, h1, h2⟩ := rl_lsT (d := d) r fun l m => n l (List.mem_cons_of_mem _ m)
    obtain ⟨n1, n2⟩ := n _ List.mem_cons_self
    exact ⟨L :: Ms, .cons (ls_tr h n1 n2) h1, by rw [List.flatten_cons, h2]⟩
theorem ll_tr {H : Hp} {d : Nat} {xs : List (List Str)} {v : V} {L : List Addr} (h : LlW xs H v L) (n : ∀ l ∈ xs, late9 ∉ l ∧ l.length ≤ 1000) (l : xs.length ≤ 1000) : Tr H (d + 3) v L := by
  obtain ⟨a, vs, Ls, rfl, h1, h2, rfl⟩ := h
  obtain ⟨Ms, k1, k2⟩ := rl_lsT (d := d) h2 n
  exact .inr (.inl ⟨a, vs, Ms, rfl, h1, by rw [h2.len]; exact l, k1, by rw [k2]⟩)
structure Lts (F : FamT) : Prop where
  k : late9 ∉ F.1
  kl : F.1.length ≤ 1000
  l : ∀ l ∈ F.2, late9 ∉ l ∧ l.length ≤ 1000
  ll : F.2.length ≤ 1000
/-- told families: the rows of what they hold, as trees -/
theorem rl_fmT {H : Hp} : ∀ {fs : List FamT} {vs : List V} {L : List Addr}, RL (fun F => FmW F) H fs vs L → (∀ F ∈ fs, Lts F) → ∃ ls : List (List V), Paired (fun v l => ∃ p, v = .ref p ∧ H p = some (.tup l)) vs ls ∧ ls.flatten.length = 2 * vs.length ∧ ∃ Ms, Paired (fun v M => Tr H 3 v M) ls.flatten Ms ∧ Ms.flatten = L
  | _, _, _, .nil, _ => ⟨[], .nil, rfl, [], .nil, rfl⟩
  | _, _, _, .cons h r, n => by
    obtain ⟨ls, h1, h2, Ms, h3, h4⟩ := rl_fmT r fun l m => n l (List.mem_cons_of_mem _ m)
    have N := n _ List.mem_cons_self
    obtain ⟨a, v1, v2, L1, L2, rfl, k1, k2, k3, rfl⟩ := h
    refine ⟨[v1, v2] :: ls, .cons ⟨a, rfl, k1⟩ h1, by rw [List.flatten_cons, List.length_append, h2, List.length_cons]; simp; omega, L1 :: L2 :: Ms, ?_, ?_⟩
    · rw [List.flatten_cons]
      exact .cons (ls_tr (d := 1) k2 N.k N.kl) (.cons (ll_tr (d := 0) k3 N.l N.ll) h3)
    · rw [List.flatten_cons, List.flatten_cons, h4, List.append_assoc]
end K07
/-! text P10 -/
set_option Elab.async false
set_option linter.all false
set_option maxRecDepth 100000
set_option maxHeartbeats 2000000
/-! renamed families; a keeper more: plain -/
namespace K07
open PySem PySem.Spec PyProof.Rows L2 Evl PySem.W Dw Dw.DV Lot
def strB (i : Int) : Str := ("b" : Str) ++ (toString i : Str)
def nameB (n : Nat) : List Str := (List.range n).map fun (i : Nat) => strB (0 + (i : Int))
theorem nameB_ok : ∀ n, n < 9 → ((nameB n).Nodup ∧ ((nameB n).all goodName) = true) := by decide +kernel
theorem nameB_len (n : Nat) : (nameB n).length = n := by unfold nameB; rw [List.length_map, List.length_range]
theorem inj_of_nodup {α β : Type} {f : α → β} : ∀ {l : List α}, (l.map f).Nodup → ∀ a ∈ l, ∀ b ∈ l, f a = f b → a = b
  | [], _, a, ha, _, _, _ => by cases ha
  | x :: l, h, a, ha, b, hb, e => by
    rw [List.map_cons, List.nodup_cons] at h
    rcases List.mem_cons.mp ha with rfl | ha
    · rcases List.mem_cons.mp hb with rfl | hb
      · rfl
      · exact absurd (List.mem_map.mpr ⟨b, hb, e.symm⟩) h.1
    · rcases List.mem_cons.mp hb with y | hb
      · rw [y] at e
        exact absurd (List.mem_map.mpr ⟨a, ha, e⟩) h.1
      · exact inj_of_nodup h.2 a ha b hb e
theorem nodup_map {α β : Type} {f : α → β} {l : List α} (n : l.Nodup) (i : ∀ a ∈ l, ∀ b ∈ l, f a = f b → a = b) : (l.map f).Nodup :=
  List.pairwise_map.mpr (List.Pairwise.imp_of_mem (fun {a b} ha hb h e => h (i a ha b hb e)) n)
theorem look_mem {ps : List (Str × Str)} {k : Str} (h : k ∈ ps.map (·.1)) : (k, look ps k) ∈ ps := by
  have e := look_in h
  unfold lookO at e
  cases z : ps.find? fun p => decide (p.1 = k) with
  | none =>
    rw [z] at e
    cases e
  | some p =>
    rw [z] at e
    have e0 : (fun p : Str × Str => decide (p.1 = k)) p = true := List.find?_some (p := fun p : Str × Str => decide (p.1 = k)) z
    have e1 : p.1 = k := of_decide_eq_true e0
    have e2 : p.2 = look ps k := Option.some.inj e
    rw [← e2, ← e1]
    exact List.mem_of_find?_eq_some z
theorem look_inj {ps : List (Str × Str)} (n : (ps.map (·.2)).Nodup) : InjOn (look ps) (ps.map (·.1)) := fun a ha b hb e => by
  have := inj_of_nodup n _ (look_mem ha) _ (look_mem hb) e
  exact congrArg Prod.fst this
section
variable {ks : List Str} {n m : Nat} {F G : FamT} {ps : List (Str × Str)}
theorem renL_of {l : List Str} (i : InjOn (look ps) ks) (hs : l ⊆ ks) (ha : Asc sl l) : RenL sl (look ps) l (srt (l.map (look ps))) :=
  ⟨srt_ascS (nodup_map (ha.nodup sl_tot) fun a ha b hb e => i a (hs ha) b (hs hb) e), fun b => by rw [srt_mem, List.mem_map]⟩
theorem ren_of (h : Sm ks n F) (i : InjOn (look ps) ks) : Ren sl (look ps) F.2 (renOf F ps).2 := by
  have r : ∀ l ∈ F.2, RenL sl (look ps) l (srt (l.map (look ps))) := fun l m => renL_of i (h.lot l m).sub (h.lot l m).asc
  refine ⟨ll_asc.mp (srt_asc ll_tot (nodup_map (h.g.asc.nodup (lex_tot sl_tot)) fun a ha b hb e => ?_)), fun x hx => ⟨_, srt_mem.mpr (List.mem_map.mpr ⟨x, hx, rfl⟩), r x hx⟩, fun y hy => ?_⟩
  · have e' : srt (a.map (look ps)) = srt (b.map (look ps)) := e
    have s1 := ((r a ha).sub i (h.lot a ha).sub (h.lot b hb).sub (r b hb)).mp (by rw [e']; exact List.Subset.refl _)
    have s2 := ((r b hb).sub i (h.lot b hb).sub (h.lot a ha).sub (r a ha)).mp (by rw [e']; exact List.Subset.refl _)
    exact asc_anti sl_tot (h.lot a ha).asc (h.lot b hb).asc s1 s2
  · obtain ⟨x, hx, rfl⟩ := List.mem_map.mp (srt_mem.mp hy)
    exact ⟨x, hx, r x hx⟩
theorem ren_sm (h : Sm ks n F) (M : Nmg F ps) : Sm (srt (ps.map (·.2))) n (renOf F ps) := by
  have kk : ps.map (·.1) = ks := M.k.trans h.k
  have i : InjOn (look ps) ks := kk ▸ look_inj M.n
  have r := ren_of h i
  have fam := r.fam sl_tot i (fun a m => (h.lot a m).sub) h.g.fam
  have lk : ps.length = ks.length := by rw [← kk, List.length_map]
  refine ⟨rfl, ⟨⟨fun z => ?_, fun x hx => ?_, srt_ascS M.n, ?_⟩, fun z => ?_, ?_, fun y hy => ⟨fam.full y hy, fam.lots y hy, fun b hb => ?_⟩, r.asc, fam.anti⟩, ?_⟩
  · have l0 : (srt (ps.map (·.2))).length = 0 := by
      have z' : srt (ps.map (·.2)) = [] := z
      rw [z']
      rfl
    rw [srt_len, List.length_map, lk] at l0
    exact h.gk.ne (List.eq_nil_of_length_eq_zero l0)
  · obtain ⟨p, hp, rfl⟩ := List.mem_map.mp (srt_mem.mp hx)
    exact M.v p hp
  · show (srt (ps.map (·.2))).length ≤ 100
    rw [srt_len, List.length_map, lk]
    exact h.gk.len
  · have l0 : (srt (F.2.map fun l => srt (l.map (look ps)))).length = 0 := by
      have z' : srt (F.2.map fun l => srt (l.map (look ps))) = [] := z
      rw [z']
      rfl
    rw [srt_len, List.length_map] at l0
    exact h.g.ne (List.eq_nil_of_length_eq_zero l0)
  · show (srt (F.2.map fun l => srt (l.map (look ps)))).length ≤ 1000
    rw [srt_len, List.length_map]
    exact h.g.len
  · obtain ⟨x, hx, q⟩ := r.of y hy
    obtain ⟨a, ha, rfl⟩ := (q.mem b).mp hb
    show look ps a ∈ srt (ps.map (·.2))
    exact srt_mem.mpr (List.mem_map.mpr ⟨_, look_mem (by rw [kk]; exact (h.lot x hx).sub ha), rfl⟩)
  · show (srt (F.2.map fun l => srt (l.map (look ps)))).length ≤ n
    rw [srt_len, List.length_map]
    exact h.l
theorem ren_bothOf (h : Sm ks n F) (h' : Sm ks m G) (hnm : n * m ≤ 1000) (M : Nmg F ps) (M' : Nmg G ps) : bothOf (renOf F ps) (renOf G ps) = renOf (bothOf F G) ps := by
  have kk : ps.map (·.1) = ks := M.k.trans h.k
  have i : InjOn (look ps) ks := kk ▸ look_inj M.n
  exact Prod.ext (both_k (ren_sm h M) (ren_sm h' M')) (ren_both sl_tot i (fun a m => (h.lot a m).sub) (fun a m => (h'.lot a m).sub) (ren_of h i) (ren_of h' i) (bl_cup F.2 G.2) (both_min F G) (bl_cup _ _) (both_min _ _) (ren_of (both_sm h h' hnm) i))
theorem nmg_zip (h : Sm ks n F) (l8 : ks.length ≤ 8) {ys : List Str} (p : ys.Perm (nameB ks.length)) : Nmg F (ks.zip ys) := by
  obtain ⟨o1, o2⟩ := nameB_ok ks.length (by omega)
  have ly : ys.length = ks.length := p.length_eq.trans (nameB_len _)
  refine ⟨h.g, ?_, fun q hq => ?_, ?_, by rw [h.k]; omega⟩
  · rw [List.map_fst_zip (by omega), h.k]
  · have m : q.2 ∈ ys := (List.of_mem_zip hq).2
    exact List.all_eq_true.mp o2 _ (p.mem_iff.mp m)
  · rw [List.map_snd_zip (by omega)]
    exact p.nodup_iff.mpr o1
/-- a keeper more, in no lot -/
abbrev zz : Str := "zz9"
def moreOf (F : FamT) : FamT := (srt (F.1 ++ [zz]), F.2)
theorem zz_not (hs : ks ⊆ nameL) : zz ∉ ks := fun m => (by decide +kernel : zz ∉ nameL) (hs m)
theorem more_sm (h : Sm ks n F) (hs : ks ⊆ nameL) (l8 : ks.length ≤ 8) : GoodF goodName (moreOf F) := by
  have nd : (ks ++ [zz]).Nodup := List.nodup_append.mpr ⟨h.gk.asc.nodup sl_tot, by simp, fun a ha b hb => by
    rw [List.mem_singleton.mp hb]
    exact fun e => zz_not hs (by rw [← e]; exact ha)⟩
  refine ⟨⟨fun z => ?_, fun x hx => ?_, ?_, ?_⟩, h.g.ne, h.g.len, fun l m => ⟨(h.g.lots l m).ne, (h.g.lots l m).asc, fun x hx => ?_⟩, h.g.asc, h.g.anti⟩
  · have z' : srt (F.1 ++ [zz]) = [] := z
    have l0 : (srt (F.1 ++ [zz])).length = 0 := by
      rw [z']
      rfl
    rw [srt_len, List.length_append] at l0
    simp at l0
  · have hx' : x ∈ F.1 ++ [zz] := srt_mem.mp hx
    rw [h.k] at hx'
    rcases List.mem_append.mp hx' with y | y
    · exact h.gk.all x y
    · rw [List.mem_singleton.mp y]
      decide +kernel
  · show Asc sl (srt (F.1 ++ [zz]))
    rw [h.k]
    exact srt_ascS nd
  · show (srt (F.1 ++ [zz])).length ≤ 100
    rw [srt_len, List.length_append, h.k]
    simp
    omega
  · exact srt_mem.mpr (List.mem_append_left _ ((h.g.lots l m).sub hx))
theorem more_one (h : Sm ks n F) (hs : ks ⊆ nameL) (l8 : ks.length ≤ 8) (l2 : 2 ≤ ks.length) : One (moreOf F) zz := ⟨more_sm h hs l8, srt_mem.mpr (List.mem_append_right _ List.mem_cons_self), by
  show (srt (F.1 ++ [zz])).length ≠ 1
  rw [srt_len, List.length_append, h.k]
  show ks.length + 1 ≠ 1
  omega⟩
theorem drop_self {x : Str} {l : List Str} (h : x ∉ l) : drop1 x l = l := List.filter_eq_self.mpr fun a ha => by
  have : a ≠ x := fun e => h (by rw [← e]; exact ha)
  simpa using this
theorem more_drop (h : Sm ks n F) (hs : ks ⊆ nameL) : drop1 zz (moreOf F).1 = F.1 := by
  rw [h.k]
  have nd : (ks ++ [zz]).Nodup := List.nodup_append.mpr ⟨h.gk.asc.nodup sl_tot, by simp, fun a ha b hb => by
    rw [List.mem_singleton.mp hb]
    exact fun e => zz_not hs (by rw [← e]; exact ha)⟩
  show drop1 zz (srt (F.1 ++ [zz])) = ks
  rw [h.k]
  refine asc_ext sl_tot (asc_drop1 (srt_ascS nd)) h.gk.asc fun x => ?_
  rw [mem_drop1, srt_mem, List.mem_append, List.mem_singleton]
  constructor
  · rintro ⟨y | y, e⟩
    · exact y
    · exact absurd y e
  · exact fun y => ⟨.inl y, fun e => zz_not hs (by rw [← e]; exact y)⟩
theorem zz_lot (h : Sm ks n F) (hs : ks ⊆ nameL) {l : List Str} (m : l ∈ F.2) : zz ∉ l := fun y => zz_not hs ((h.lot l m).sub y)
theorem more_fall (h : Sm ks n F) (hs : ks ⊆ nameL) : fall zz (moreOf F).2 = F.2 := List.filter_eq_self.mpr fun l m => by
  have := zz_lot h hs m
  simpa using this
theorem more_trust (h : Sm ks n F) (hs : ks ⊆ nameL) : trust zz (moreOf F).2 = F.2 := by
  show F.2.map (fun l => drop1 zz l) = F.2
  have : ∀ l ∈ F.2, drop1 zz l = l := fun l m => drop_self (zz_lot h hs m)
  exact (List.map_congr_left this).trans (List.map_id' _)
theorem more_least (h : Sm ks n F) : leastOf F.2 = F.2 := (least_min h.asc).uniq sl_tot h.g.fam.min fun _ => Iff.rfl
end
end K07
/-! text E23 -/
set_option Elab.async false
set_option linter.all false
set_option maxRecDepth 100000
set_option maxHeartbeats 2000000
/-! a family again of what fell and what trusts: plain; loose things as rows -/
namespace K07
open PySem PySem.Spec PyProof.Rows L2 Evl PySem.W Dw Dw.DV RZ Lot
section
variable {F : FamT} {x : Str}
def addOn (x : Str) (l : List Str) : List Str := srt (l ++ [x])
theorem Kpr.lt (O : Kpr F x) : Min sl (leastOf (trust x F.2)) (trust x F.2) := least_min fun l m => by
  obtain ⟨a, ha, rfl⟩ := mem_trust.mp m
  exact (O.g.lots a ha).asc.filter _
theorem addOn_drop (O : Kpr F x) {m : List Str} (hm : m ∈ F.2) (hx : x ∈ m) : addOn x (drop1 x m) = m := by
  have ma := (O.g.lots m hm).asc
  have nd : (drop1 x m ++ [x]).Nodup := by
    refine List.nodup_append.mpr ⟨(ma.nodup sl_tot).filter _, by simp, fun a ha b hb => ?_⟩
    rw [List.mem_singleton.mp hb]
    exact (mem_drop1.mp ha).2
  refine asc_ext sl_tot (srt_ascS nd) ma fun y => ?_
  unfold addOn
  rw [srt_mem, List.mem_append, mem_drop1, List.mem_singleton]
  constructor
  · rintro (⟨h, _⟩ | rfl)
    · exact h
    · exact hx
  · intro h
    by_cases e : y = x
    · exact .inr e
    · exact .inl ⟨h, e⟩
theorem drop_out {m : List Str} (hx : x ∉ m) : drop1 x m = m := by
  unfold drop1
  exact List.filter_eq_self.mpr fun y hy => by
    have : y ≠ x := fun e => hx (e ▸ hy)
    simp [this]
theorem drop_back (O : Kpr F x) {m : List Str} (hx : x ∉ drop1 x m) {m' : List Str} (h : m' ⊆ drop1 x m) : m' ⊆ m := fun y hy => (mem_drop1.mp (h hy)).1
theorem again_mem (O : Kpr F x) {l : List Str} (h : l ∈ leastOf (trust x F.2)) (nf : l ∉ fall x F.2) : ∃ m ∈ F.2, x ∈ m ∧ drop1 x m = l := by
  obtain ⟨m, hm, e⟩ := mem_trust.mp (leastOf_mem h)
  by_cases hx : x ∈ m
  · exact ⟨m, hm, hx, e⟩
  · rw [drop_out hx] at e
    exact absurd (mem_fall.mpr ⟨e ▸ hm, e ▸ hx⟩) nf
theorem again_in (O : Kpr F x) {m : List Str} (hm : m ∈ F.2) (hx : x ∈ m) : drop1 x m ∈ leastOf (trust x F.2) ∧ drop1 x m ∉ fall x F.2 := by
  have sub : ∀ {m' : List Str}, m' ∈ F.2 → drop1 x m' ⊆ drop1 x m → m' = m := fun {m'} h' s => by
    refine O.g.anti m' h' m hm fun y hy => ?_
    by_cases e : y = x
    · rw [e]
      exact hx
    · exact (mem_drop1.mp (s (mem_drop1.mpr ⟨hy, e⟩))).1
  refine ⟨(O.lt.mem _).mpr ⟨mem_trust.mpr ⟨m, hm, rfl⟩, fun s hs q => ?_⟩, fun z => ?_⟩
  · obtain ⟨m', h', rfl⟩ := mem_trust.mp hs
    rw [sub h' q]
  · obtain ⟨z1, z2⟩ := mem_fall.mp z
    have e := sub z1 (fun y hy => by
      rw [drop_out z2] at hy
      exact hy)
    rw [e] at z2
    exact z2 hx
def againOf (F : FamT) (x : Str) : List (List Str) := fall x F.2 ++ ((leastOf (trust x F.2)).filter fun l => decide (l ∉ fall x F.2)).map (addOn x)
theorem again_eq (O : Kpr F x) : srt (againOf F x) = F.2 := by
  have nd : (againOf F x).Nodup := by
    unfold againOf
    refine List.nodup_append.mpr ⟨(good_nodup O.g).filter _, nodup_map ((trust_nodup O).filter _) fun a ha b hb e => ?_, fun a ha b hb e => ?_⟩
    · obtain ⟨a1, a2⟩ := List.mem_filter.mp ha
      obtain ⟨b1, b2⟩ := List.mem_filter.mp hb
      obtain ⟨m, hm, mx, rfl⟩ := again_mem O a1 (of_decide_eq_true a2)
      obtain ⟨m', hm', mx', rfl⟩ := again_mem O b1 (of_decide_eq_true b2)
      rw [addOn_drop O hm mx, addOn_drop O hm' mx'] at e
      rw [e]
    · obtain ⟨l, hl, rfl⟩ := List.mem_map.mp hb
      have k : x ∈ addOn x l := srt_mem.mpr (List.mem_append_right _ List.mem_cons_self)
      rw [← e] at k
      exact (mem_fall.mp ha).2 k
  refine asc_ext (lex_tot sl_tot) (ll_asc.mp (srt_asc ll_tot nd)) O.g.asc fun u => ?_
  rw [srt_mem]
  unfold againOf
  rw [List.mem_append]
  constructor
  · rintro (h | h)
    · exact (mem_fall.mp h).1
    · obtain ⟨l, hl, rfl⟩ := List.mem_map.mp h
      obtain ⟨a1, a2⟩ := List.mem_filter.mp hl
      obtain ⟨m, hm, mx, rfl⟩ := again_mem O a1 (of_decide_eq_true a2)
      rw [addOn_drop O hm mx]
      exact hm
  · intro h
    by_cases hx : x ∈ u
    · obtain ⟨k1, k2⟩ := again_in O h hx
      exact .inr (List.mem_map.mpr ⟨drop1 x u, List.mem_filter.mpr ⟨k1, decide_eq_true k2⟩, addOn_drop O h hx⟩)
    · exact .inl (mem_fall.mpr ⟨h, hx⟩)
end
/-! ### loose things: what they are drawn from, and what they are -/
theorem sz_strs {A : Hp} {d : Nat} : ∀ {vs : List V} {xs : List Str}, Reps A vs xs → Paired (fun v k => Sz A (d + 1) k v) vs (List.replicate vs.length 0) ∧ (List.replicate vs.length 0).sum = 0
  | _, _, .nil => ⟨.nil, rfl⟩
  | _, _, .cons (a := v) (l₁ := vs) h r => by
    obtain ⟨h1, h2⟩ := sz_strs (d := d) r
    have h' : v = .str _ := h
    subst h'
    refine ⟨?_, ?_⟩
    · rw [List.length_cons, List.replicate_succ]
      exact .cons (.inl ⟨rfl, rfl⟩) h1
    · rw [List.length_cons, List.replicate_succ, List.sum_cons, h2]
theorem sz_ls {A : Hp} {d : Nat} {v : V} {xs : List Str} (h : rep A v xs) (hl : xs.length ≤ 1000) : Sz A (d + 2) 1 v := by
  obtain ⟨a, vs, rfl, h1, h2⟩ := h
  obtain ⟨k1, k2⟩ := sz_strs (d := d) h2
  exact .inr ⟨a, vs, _, rfl, .inl h1, by rw [Reps.len h2]; exact hl, k1, by rw [k2]⟩
theorem sz_lss {A : Hp} {d : Nat} : ∀ {vs : List V} {xs : List (List Str)}, Reps A vs xs → (∀ l ∈ xs, l.length ≤ 1000) → Paired (fun v k => Sz A (d + 2) k v) vs (List.replicate vs.length 1) ∧ (List.replicate vs.length 1).sum = vs.length
  | _, _, .nil, _ => ⟨.nil, rfl⟩
  | _, _, .cons (a := v) (l₁ := vs) h r, hl => by
    obtain ⟨h1, h2⟩ := sz_lss (d := d) r fun l m => hl l (List.mem_cons_of_mem _ m)
    refine ⟨?_, ?_⟩
    · rw [List.length_cons, List.replicate_succ]
      exact .cons (sz_ls h (hl _ List.mem_cons_self)) h1
    · rw [List.length_cons, List.replicate_succ, List.sum_cons, h2]
      omega
theorem sz_ll {A : Hp} {d : Nat} {v : V} {xs : List (List Str)} (h : rep A v xs) (hl : xs.length ≤ 1000) (hl2 : ∀ l ∈ xs, l.length ≤ 1000) : Sz A (d + 3) (xs.length + 1) v := by
  obtain ⟨a, vs, rfl, h1, h2⟩ := h
  have len := Reps.len h2
  obtain ⟨k1, k2⟩ := sz_lss (d := d) h2 hl2
  exact .inr ⟨a, vs, _, rfl, .inl h1, by omega, k1, by rw [k2, len]⟩
theorem sz_fm {A : Hp} {d : Nat} {v : V} {F : FamT} (h : rep A v F) (g : GoodF goodName F) : Sz A (d + 4) (F.2.length + 3) v := by
  obtain ⟨a, v1, v2, rfl, h1, h2, h3⟩ := h
  have kl := g.ks.len
  refine .inr ⟨a, [v1, v2], [1, F.2.length + 1], rfl, .inr h1, by show 2 ≤ 1000; decide, .cons (sz_ls (d := d + 1) h2 (by omega)) (.cons (sz_ll (d := d) h3 g.len fun l m => by have := g.len2 l m; omega) .nil), ?_⟩
  simp
  omega
theorem lz_strs {A B : Hp} {d : Nat} : ∀ {vs us : List V} {xs : List Str}, Reps A vs xs → Paired (Lz A B d) vs us → Paired (fun v x => StrR x B v) us xs
  | _, _, _, .nil, .nil => .nil
  | _, _, _, .cons h r, .cons t r' => by
    refine .cons ?_ (lz_strs r r')
    cases d with
    | zero => exact t.elim
    | succ d =>
      rename_i v us' x xs' vs' u
      have h' : _ = V.str _ := h
      rcases t with ⟨e, _⟩ | ⟨a, b, _, _, e, _⟩
      · rw [e]
        exact h'
      · rw [h'] at e
        cases e
theorem lz_ls {A B : Hp} {d : Nat} {v u : V} {xs : List Str} (h : rep A v xs) (t : Lz A B d v u) : LsR xs B u := by
  obtain ⟨a, vs, rfl, h1, h2⟩ := h
  cases d with
  | zero => exact t.elim
  | succ d =>
    rcases t with ⟨_, z⟩ | ⟨a', b, vs', us, e, rfl, h3, h4, h5⟩
    · cases z
    · cases e
      rcases h3 with h3 | h3
      · rw [h1] at h3
        cases h3
        exact ⟨b, us, rfl, h4, lz_strs h2 h5⟩
      · rw [h1] at h3
        cases h3
theorem lz_lss {A B : Hp} {d : Nat} : ∀ {vs us : List V} {xs : List (List Str)}, Reps A vs xs → Paired (Lz A B d) vs us → Paired (fun v x => LsR x B v) us xs
  | _, _, _, .nil, .nil => .nil
  | _, _, _, .cons h r, .cons t r' => .cons (lz_ls h t) (lz_lss r r')
theorem lz_ll {A B : Hp} {d : Nat} {v u : V} {xs : List (List Str)} (h : rep A v xs) (t : Lz A B d v u) : LlR xs B u := by
  obtain ⟨a, vs, rfl, h1, h2⟩ := h
  cases d with
  | zero => exact t.elim
  | succ d =>
    rcases t with ⟨_, z⟩ | ⟨a', b, vs', us, e, rfl, h3, h4, h5⟩
    · cases z
    · cases e
      rcases h3 with h3 | h3
      · rw [h1] at h3
        cases h3
        exact ⟨b, us, rfl, h4, lz_lss h2 h5⟩
      · rw [h1] at h3
        cases h3
theorem lz_fm {A B : Hp} {d : Nat} {v u : V} {F : FamT} (h : rep A v F) (t : Lz A B d v u) : FmR F B u := by
  obtain ⟨a, v1, v2, rfl, h1, h2, h3⟩ := h
  cases d with
  | zero => exact t.elim
  | succ d =>
    rcases t with ⟨_, z⟩ | ⟨a', b, vs', us, e, rfl, k3, k4, k5⟩
    · cases z
    · cases e
      rcases k3 with k3 | k3
      · rw [h1] at k3
        cases k3
      · rw [h1] at k3
        cases k3
        match us, k5 with
        | [u1, u2], .cons t1 (.cons t2 .nil) => exact ⟨b, _, rfl, k4, u1, u2, rfl, lz_ls h2 t1, lz_ll h3 t2⟩
/-! ### a loose thing is as itself -/
theorem tw_seq {A : Hp} {d : Nat} {a : Addr} {vs : List V} (h : SeqAt A a vs) (l : vs.length ≤ 1000) (t : ∀ v ∈ vs, Tw A A d v v) : Tw A A (d + 1) (.ref a) (.ref a) := by
  have p : ∀ {l : List V}, (∀ v ∈ l, Tw A A d v v) → Paired (Tw A A d) l l := by
    intro l
    induction l with
    | nil => exact fun _ => .nil
    | cons v r ih => exact fun h => .cons (h v List.mem_cons_self) (ih fun x m => h x (List.mem_cons_of_mem _ m))
  exact h.elim (fun h => .inr (.inl ⟨a, a, vs, vs, rfl, rfl, h, h, l, p t⟩)) fun h => .inr (.inr (.inl ⟨a, a, vs, vs, rfl, rfl, h, h, l, p t⟩))
theorem ls_tw {A : Hp} {v : V} {xs : List Str} (h : LsR xs A v) (l : xs.length ≤ 1000) : Tw A A 2 v v := by
  obtain ⟨a, vs, rfl, h1, h2⟩ := h
  have e : vs = xs.map V.str := reps_str (H := A) h2
  subst e
  refine tw_seq h1 (by rw [List.length_map]; exact l) fun u m => ?_
  obtain ⟨x, _, rfl⟩ := List.mem_map.mp m
  exact .inl ⟨rfl, rfl⟩
theorem ll_tw {A : Hp} {v : V} {xs : List (List Str)} (h : LlR xs A v) (l : xs.length ≤ 1000) (l2 : ∀ x ∈ xs, x.length ≤ 1000) : Tw A A 3 v v := by
  obtain ⟨a, vs, rfl, h1, h2⟩ := h
  have h2' : Paired (fun v x => LsR x A v) vs xs := h2
  refine tw_seq h1 (by rw [Paired.length h2']; exact l) fun u m => ?_
  obtain ⟨x, hx, k⟩ := paired_left h2' u m
  exact ls_tw k (l2 x hx)
theorem fm_tw {A : Hp} {v : V} {F : FamT} (h : FmR F A v) (g : GoodF goodName F) : Tw A A 8 v v := by
  obtain ⟨a, vs, rfl, h1, v1, v2, rfl, h2, h3⟩ := h
  have kl := g.ks.len
  refine (tw_seq (d := 3) h1 (by show 2 ≤ 1000; decide) fun u m => ?_).ups (by decide)
  rcases List.mem_cons.mp m with y | y
  · rw [y]
    exact (ls_tw h2 (by omega)).up
  · rw [List.mem_singleton.mp y]
    exact ll_tw h3 g.len fun l m => by have := g.len2 l m; omega
theorem good_sm {F : FamT} (g : GoodF goodName F) : DVT.sm F := by
  have kl := g.ks.len
  exact ⟨⟨by omega, fun _ _ => True.intro⟩, g.len, fun l m => ⟨by have := g.len2 l m; omega, fun _ _ => True.intro⟩⟩
end K07
/-! text E24 -/
set_option Elab.async false
set_option linter.all false
set_option maxRecDepth 100000
set_option maxHeartbeats 8000000
/-! steps for keeper_right -/
namespace K07
open PySem PySem.Spec PyProof.Rows L2 Evl PySem.W Dw Dw.DV RZ StX Lot LmV LamX NdefX XvC KwX
theorem tabs_exb {T : List (Addr × Str)} {H H' : Hp} {p c : Addr} {n : Int} (t : Tabs T H) (s : St H p c n) (x : ExB [p, c] H H') : Tabs T H' := by
  obtain ⟨ne, cells, rest, cnt, mix, hp, hc, _⟩ := s
  have nt : ∀ {b : Addr} {o : HO}, H b = some o → (∀ xs, o ≠ .lst xs) → b ∉ [p, c] := fun {b o} h n m => by
    rcases List.mem_cons.mp m with y | y
    · rw [y, hp] at h
      exact n _ (Option.some.inj h).symm
    · rw [List.mem_singleton.mp y, hc] at h
      exact n _ (Option.some.inj h).symm
  intro q hq
  obtain ⟨ps, g1, g2, g3⟩ := t q hq
  refine ⟨ps, x _ _ (nt g1 fun _ z => by cases z) g1, g2, fun pos cv h => ?_⟩
  obtain ⟨c0, e1, e2⟩ := g3 pos cv h
  refine ⟨c0, e1, x _ _ (nt e2 fun xs z => ?_) e2⟩
  unfold CodeO at z
  cases z
theorem Lt.mut {T : List (Addr × Str)} {H2 H : Hp} {D : Addr} {xs ys : List V} (l : Lt T H2 H) (hD : H D = some (.lst xs)) (nD : nt H2 D = none) : Lt T H2 (upd H D (.lst ys)) := ⟨fun b o h n => by
  rw [upd_ne (fun z => by
    rw [z] at h
    rw [nt_mk h n] at nD
    cases nD)]
  exact l.n b o h n, tabs_but l.t hD fun b o n h => by
  rw [upd_ne n]
  exact h⟩
theorem rl_lsN {H H' : Hp} (e : ExtN H H') : ∀ {xs : List (List Str)} {vs : List V} {L : List Addr}, RL (fun l => LstW StrW l) H xs vs L → RL (fun l => LstW StrW l) H' xs vs L
  | _, _, _, .nil => .nil
  | _, _, _, .cons h r => by
    obtain ⟨a, us, Ls, rfl, h1, h2, rfl⟩ := h
    exact .cons ⟨a, us, Ls, rfl, e _ _ h1 (fun _ z => by cases z), rl_strN h2, rfl⟩ (rl_lsN e r)
where rl_strN {H H' : Hp} : ∀ {xs : List Str} {vs : List V} {L : List Addr}, RL StrW H xs vs L → RL StrW H' xs vs L
  | _, _, _, .nil => .nil
  | _, _, _, .cons h r => .cons h (rl_strN r)
theorem rl_strN' {H H' : Hp} : ∀ {xs : List Str} {vs : List V} {L : List Addr}, RL StrW H xs vs L → RL StrW H' xs vs L
  | _, _, _, .nil => .nil
  | _, _, _, .cons h r => .cons h (rl_strN' r)
theorem fmW_n {H H' : Hp} (e : ExtN H H') {F : FamT} {v : V} {L : List Addr} (h : FmW F H v L) : FmW F H' v L := by
  obtain ⟨a, v1, v2, L1, L2, rfl, h1, ⟨b, us, Ls, rfl, k1, k2, rfl⟩, ⟨d, ws, Ms, rfl, m1, m2, rfl⟩, rfl⟩ := h
  exact ⟨a, _, _, _, _, rfl, e _ _ h1 (fun _ z => by cases z), ⟨b, us, Ls, rfl, e _ _ k1 (fun _ z => by cases z), rl_strN' k2, rfl⟩, ⟨d, ws, Ms, rfl, e _ _ m1 (fun _ z => by cases z), rl_lsN e m2, rfl⟩, rfl⟩
theorem ansW_n {H H' : Hp} (e : ExtN H H') {a : Ans} {u : V} {L : List Addr} (h : AnsW a H u L) : AnsW a H' u L := by
  obtain ⟨w, o⟩ := a
  obtain ⟨p, v, rfl, h1, h2⟩ := h
  refine ⟨p, v, rfl, e _ _ h1 (fun _ z => by cases z), ?_⟩
  cases o with
  | none => exact h2
  | some F => exact fmW_n e h2
theorem rws_n {H H' : Hp} (e : ExtN H H') : ∀ {us : List V} {as : List Ans} {M : List Addr}, Rws H us as M → Rws H' us as M
  | _, _, _, .nil => .nil
  | _, _, _, .cons h r => .cons (ansW_n e h) (rws_n e r)
theorem rws_app {H : Hp} : ∀ {us vs : List V} {as bs : List Ans} {M N : List Addr}, Rws H us as M → Rws H vs bs N → Rws H (us ++ vs) (as ++ bs) (M ++ N)
  | _, _, _, _, _, _, .nil, h => h
  | _, _, _, _, _, _, .cons a r, h => by
    rw [List.cons_append, List.cons_append, List.append_assoc]
    exact .cons a (rws_app r h)
/-- answers so far, what is known beneath them (A0) untouched by their lists -/
structure Row (Hb A0 A : Hp) (us : List V) (as : List Ans) (M : List Addr) : Prop where
  s : Ex A0 A
  n : NT A
  r : Rws A us as M
  nd : M.Nodup
  dm : ∀ b ∈ M, ∃ o, A b = some o
  dj : ∀ b ∈ M, nt Hb b = none
theorem Row.start {Hb A : Hp} (n : NT A) : Row Hb A A [] [] [] := ⟨Ex.refl A, n, .nil, .nil, (fun _ m => by cases m), (fun _ m => by cases m)⟩
theorem Row.add {T : List (Addr × Str)} {Hb A0 A H H' Hs : Hp} {us : List V} {as : List Ans} {M L : List Addr} {u : V} {a : Ans} (R : Row Hb A0 A us as M) (e : Ex A H) (ln : ExtN Hb H) (l : Lt T H H') (s : Ex Hs H') (o : ∀ b x, Hs b = some x → nt H b = none) (r : AnsW a Hs u L) (nd : L.Nodup) (d : ∀ b ∈ L, ∃ x, Hs b = some x) :
    Row Hb A0 (jn A (nt Hs)) (us ++ [u]) (as ++ [a]) (M ++ L) ∧ Ex (jn A (nt Hs)) H' := by
  have eA : Ex A H' := R.n.ex e l.n
  have eN : Ex (nt Hs) H' := nt_sub.trans s
  have out : ∀ b x, Hs b = some x → A b = none := fun b x h => by
    cases m : A b with
    | none => rfl
    | some y =>
      have k := nt_mk (e _ _ m) fun ps z => R.n b ps (by rw [m, z])
      rw [o b x h] at k
      cases k
  have x2 : ExtN Hs (jn A (nt Hs)) := fun b y h n => jn_r eA eN _ _ (nt_mk h n)
  have r2 := rws_app (rws_n (ExtN.of jn_l) R.r) (.cons (ansW_n x2 r) .nil)
  rw [List.append_nil] at r2
  have lsts : ∀ b ∈ L, ∃ x, (nt Hs) b = some x := by
    obtain ⟨w, oo⟩ := a
    obtain ⟨p, v, rfl, h1, h2⟩ := r
    cases oo with
    | none =>
      obtain ⟨_, rfl⟩ := h2
      exact fun b m => by cases m
    | some F =>
      have h2' := fmW_n (nt_ext Hs) h2
      intro b m
      obtain ⟨x, hx⟩ := d b m
      obtain ⟨c, v1, v2, L1, L2, rfl, k1, ⟨b1, us1, Ls1, rfl, k2, k3, rfl⟩, ⟨b2, us2, Ls2, rfl, k4, k5, rfl⟩, rfl⟩ := h2'
      have noL : ∀ {xs : List Str} {vs : List V} {L : List Addr}, RL StrW (nt Hs) xs vs L → L = [] := by
        intro xs vs L h
        induction h with
        | nil => rfl
        | cons h r ih => rw [ih, h.2]; rfl
      have noLs : ∀ {xs : List (List Str)} {vs : List V} {L : List Addr}, RL (fun l => LstW StrW l) (nt Hs) xs vs L → ∀ b ∈ L, ∃ x, (nt Hs) b = some x := by
        intro xs vs L h
        induction h with
        | nil => exact fun b m => by cases m
        | cons h r ih =>
          intro b m
          rcases List.mem_append.mp m with y | y
          · obtain ⟨a, us, Ls, rfl, g1, g2, rfl⟩ := h
            rw [noL g2] at y
            rw [List.mem_singleton.mp y]
            exact ⟨_, g1⟩
          · exact ih b y
      rw [noL k3] at m
      rcases List.mem_append.mp m with y | y
      · rw [List.mem_singleton.mp y]
        exact ⟨_, k2⟩
      · rcases List.mem_cons.mp y with z | z
        · rw [z]
          exact ⟨_, k4⟩
        · exact noLs k5 b z
  refine ⟨⟨R.s.trans jn_l, R.n.jn (nt_NT Hs), r2, List.nodup_append.mpr ⟨R.nd, nd, fun x hx y hy z => ?_⟩, fun b m => ?_, fun b m => ?_⟩, jn_ex eA eN⟩
  · obtain ⟨o1, h1⟩ := R.dm x hx
    obtain ⟨o2, h2⟩ := d y hy
    rw [← z] at h2
    rw [out _ _ h2] at h1
    cases h1
  · rcases List.mem_append.mp m with y | y
    · exact (R.dm b y).imp fun x z => jn_l _ _ z
    · exact (lsts b y).imp fun x z => jn_r eA eN _ _ z
  · rcases List.mem_append.mp m with y | y
    · exact R.dj b y
    · obtain ⟨x, hx⟩ := d b y
      exact exf (nt_mono ln) (o _ _ hx)
theorem Row.off {Hb A0 A H Hs : Hp} {us : List V} {as : List Ans} {M : List Addr} {D : Addr} {ws : List V} (R : Row Hb A0 A us as M) (hD : H D = some (.lst ws)) (o : ∀ b x, Hs b = some x → nt H b = none) (AD : A D = none) : (jn A (nt Hs)) D = none := by
  cases m : (jn A (nt Hs)) D with
  | none => rfl
  | some y =>
    rcases jn_of m with z | z
    · rw [AD] at z
      cases z
    · have k := o D y (nt_of z).1
      rw [nt_mk hD fun _ z => by cases z] at k
      cases k
section
variable {K : PySem.W.Frag} {σ : L2.St} {H A A0 H0 : Hp} {ta tb te : TE} {R1 R2 : Hp → V → Prop} {D : Ends} {tz : TS} {i j : Nat}
theorem b_parR (B : Bs A0 H0 A H) (h1 : EvR ta σ A R1) (h2 : EvR tb σ A R2) (m1 : Mon R1) (m2 : Mon R2) (k : ∀ v w A' H1, Bs A0 H0 A' H1 → Ex A A' → R1 A' v → R2 A' w → tz D ((σ.set i (some v)).set j (some w)) H1) : tSeq (tPar i j (tCons ta (tCons tb tNil))) tz D σ H :=
  h1 H B.h _ fun v H1 Hs e s r => h2 H1 (B.h.trans e) _ fun w H2 Ht e2 t r' => by
    have sj := s.join B.h e e2 t
    have eJ : Ex (jn Hs Ht) (jn A (jn Hs Ht)) := jn_r ((B.h.trans e).trans e2) sj.e
    exact ⟨v, w, rfl, k v w (jn A (jn Hs Ht)) H2 (B.go (e.trans e2) sj) jn_l (m1 _ _ _ (jn_l.trans eJ) r) (m2 _ _ _ ((jn_r (s.e.trans e2) t.e).trans eJ) r')⟩
/-- sum(lists, []): the lists new -/
theorem el_sum {ls : List (List V)} (h : ∀ H1, Ex H H1 → ∀ Q : VK, (∀ D rs H2, Ex H1 H2 → H2 D = some (.lst (rs.map V.ref)) → Paired (fun r l => H2 r = some (.lst l)) rs ls → Q (.ref D) H2) → te σ H1 Q) (hz : ls.flatten.length ≤ 100000) : EvL (tCB rSumA (tCons te (tCons (tLst tNil) tNil))) σ H ls.flatten := fun H1 e Q q =>
  h H1 e _ fun D rs H2 e2 hD hr => ⟨Nat.zero_le _, fun b nb => by
    have nb1 : H1 b = none := fresh_back e2 nb
    have x : Ex H2 (upd H2 b (.lst [])) := Ex.new nb
    refine ⟨D, b, rs, ls, rfl, x _ _ hD, upd_same, paired_ext x hr, sz_of hz, fun p np => q p _ (fresh_back (e2.trans x) np) ((e2.trans x).trans (Ex.new np)) upd_same, fun er => ?_⟩
    subst er
    cases hr
    exact q b _ nb1 (e2.trans x) upd_same⟩
theorem Tr.ext {H H' : Hp} (e : Ex H H') {d : Nat} {v : V} {L : List Addr} (t : Tr H d v L) : Tr H' d v L := t.frame (Z := []) (fun b o _ h => e b o h) (fun b m => by cases m) (fun _ _ m => by cases m)
theorem ev_str {x : Str} (h : EvD te σ A x) : Ev te σ A (.str x) := fun H1 e Q q => h.go e fun v H2 e2 r => by
  have r' : v = V.str x := r
  rw [r']
  exact q H2 e2
theorem b_asgL {xs : List V} (h : EvL te σ A xs) (e : Ex A H) (k : ∀ p H1, H p = none → Ex H H1 → H1 p = some (.lst xs) → tz D (σ.set i (some (.ref p))) H1) : tSeq (tAsg te (gName i)) tz D σ H := h H e _ fun p H1 np e1 hp => k p H1 np e1 hp
theorem nx_if {t : TT} {tu : TS} (h : t σ H fun b H1 => if b = true then tu { D with nx := tz D } σ H1 else tz D σ H1) : tSeq (tIfS t tu tNext) tz D σ H := h
theorem not_go {sp : Sp} {Q : Bool → Hp → Prop} {E : XK} (h : te σ H fun y H1 => sp [y] H1 (fun r H2 => ∃ b, r = .bl b ∧ Q (!b) H2) E) : tNot (tB (tCall sp [] E (tCons te tNil))) σ H Q := h
theorem if_no {c : Prop} [Decidable c] {p q : Prop} (nc : ¬ c) (h : q) : if c then p else q := by
  rw [if_neg nc]
  exact h
end
end K07
/-! text E25 -/
set_option Elab.async false
set_option linter.all false
set_option maxRecDepth 100000
set_option maxHeartbeats 8000000
/-! _law_keeper_right -/
namespace K07
open PySem PySem.Spec PyProof.Rows L2 Evl PySem.W Dw Dw.DV RZ StX Lot LmV LamX NdefX XvC KwX
section
variable {P : Program} {w : World} {K : PySem.W.Frag} {mg : Str → Option Value} {base : Heap} {T : List (Addr × Str)} {fa : Nat → Addr} {da : Nat → FuncData} {c pt : Nat → Addr}
abbrev NKr : List Str := ["stream", "family", "name", "passed", "was", "due", "found", "told", "rest", "again", "row", "part", "lot"]
theorem scKr : FnScope NKr ["stream", "family", "name"] (defScope (top 57)) := ⟨rfl, rfl, rfl, by decide +kernel, rfl, by decide +kernel, by decide +kernel⟩
/-- nothing but the spring and tables changed -/
def ExD (p c : Addr) (H H' : Hp) : Prop := ∀ b o, b ∉ [p, c] → H b = some o → (∀ ps, o ≠ .tbl ps) → H' b = some o
def spKr (T : List (Addr × Str)) : Sp := fun vs H Q _ => ∃ (p c0 : Addr) (n : Int) (v : V) (F : FamT) (x : Str) (A : Hp), vs = [.ref p, v, .str x] ∧ St H p c0 n ∧ n ≤ 800000 ∧ Ex A H ∧ NT A ∧ A p = none ∧ A c0 = none ∧ Tabs T H ∧ rep A v F ∧ Kpr F x ∧ F.2.length ≤ 64 ∧ late9 ∉ F.1 ∧
  ∀ H', ExD p c0 H H' → Tabs T H' → St H' p c0 (n + 100) → Q (.bl true) H'
/-- the slots -/
abbrev sg (p v x u y4 y5 y6 y7 y8 y9 : Option V) : L2.St := [p, v, x, u, y4, y5, y6, y7, y8, y9, none, none, none]
theorem lts_sub {F G : FamT} (g : GoodF goodName F) (n : late9 ∉ F.1) (h1 : G.1 ⊆ F.1) (h1' : G.1.length ≤ F.1.length) (h2 : ∀ l ∈ G.2, l ⊆ F.1 ∧ l.length ≤ 100) (h3 : G.2.length ≤ F.2.length) : Lts G := by
  have kl := g.ks.len
  have fl := g.len
  exact ⟨fun m => n (h1 m), by omega, fun l m => ⟨fun z => n ((h2 l m).1 z), by have := (h2 l m).2; omega⟩, by omega⟩
theorem lts_fall {F : FamT} {x : Str} (O : Kpr F x) (n : late9 ∉ F.1) : Lts (drop1 x F.1, fall x F.2) := lts_sub O.g n (fun y h => (mem_drop1.mp h).1) (List.length_filter_le _ _) (fun l m => ⟨(O.g.lots l (mem_fall.mp m).1).sub, O.g.len2 l (mem_fall.mp m).1⟩) (List.length_filter_le _ _)
theorem lts_trust {F : FamT} {x : Str} (O : Kpr F x) (n : late9 ∉ F.1) : Lts (drop1 x F.1, leastOf (trust x F.2)) := lts_sub O.g n (fun y h => (mem_drop1.mp h).1) (List.length_filter_le _ _) (fun l m => by
  obtain ⟨a, ha, rfl⟩ := mem_trust.mp (leastOf_mem m)
  exact ⟨fun y h => (O.g.lots a ha).sub (mem_drop1.mp h).1, Nat.le_trans (List.length_filter_le _ _) (O.g.len2 a ha)⟩) (by
  have h : (leastOf (trust x F.2)).length ≤ (trust x F.2).length := leastOf_len
  unfold trust at h
  rwa [List.length_map] at h)
theorem fam_of {F : FamT} {x : Str} {a : Ans} (h : a ∈ [lawFall F x, lawTrust F x, lawFall F x, lawTrust F x]) {G : FamT} (e : a.2 = some G) : G = (drop1 x F.1, fall x F.2) ∨ G = (drop1 x F.1, leastOf (trust x F.2)) := by
  have hf : ∀ {G : FamT}, (lawFall F x).2 = some G → G = (drop1 x F.1, fall x F.2) := fun {G} e => by
    unfold lawFall at e
    split at e
    · cases e
    · split at e
      · exact (Option.some.inj e).symm
      · cases e
  have ht : ∀ {G : FamT}, (lawTrust F x).2 = some G → G = (drop1 x F.1, leastOf (trust x F.2)) := fun {G} e => by
    unfold lawTrust at e
    split at e
    · cases e
    · split at e
      · exact (Option.some.inj e).symm
      · cases e
  rcases List.mem_cons.mp h with rfl | h
  · exact .inl (hf e)
  rcases List.mem_cons.mp h with rfl | h
  · exact .inr (ht e)
  rcases List.mem_cons.mp h with rfl | h
  · exact .inl (hf e)
  rw [List.mem_singleton.mp h] at e
  exact .inr (ht e)
theorem lts_sm {G : FamT} (h : Lts G) : DVT.sm G := ⟨⟨h.kl, fun _ _ => True.intro⟩, h.ll, fun l m => ⟨(h.l l m).2, fun _ _ => True.intro⟩⟩
theorem ans_sm {F : FamT} {x : Str} (O : Kpr F x) (n : late9 ∉ F.1) {a : Ans} (h : a ∈ [lawFall F x, lawTrust F x, lawFall F x, lawTrust F x]) : DVT.sm a := ⟨True.intro, fun G e => by
  rcases fam_of h e with rfl | rfl
  · exact lts_sm (lts_fall O n)
  · exact lts_sm (lts_trust O n)⟩
theorem ok_kr (W : Wd P w K mg base T fa da c pt) : FnOk P w K mg base CX0 11 (fa 57) (da 57) ["stream", "family", "name"] (spKr T) := by
  have GP : FnOk P w K mg base CX0 7 (fa 43) (da 43) ["stream", "family"] spPassed := ok_passed W
  have bP : Binds K (da 43) ["stream", "family"] [] := df_b2 (W.d 43 "_law_a_passed" (by decide +kernel)) (by intros; rfl)
  have DC := W.d 48 "_law_copied" (by decide +kernel)
  have GC := ok_copied (P := P) (w := w) (base := base) DC.F DC.g W.b 8
  have bC : Binds K (da 48) ["thing"] [] := df_b1 DC (by intros; rfl)
  have DS := W.d 49 "_law_same" (by decide +kernel)
  have GS := ok_same (P := P) (w := w) (base := base) DS.F DS.g W.b 9
  have bS : Binds K (da 49) ["found", "due"] [] := df_b2 DS (by intros; rfl)
  have DF := W.d 55 "_law_fallen" (by decide +kernel)
  have GF : FnOk P w K mg base CX0 1 (fa 55) (da 55) ["family", "name"] spLF := ok_lawFall DF.F W.b
  have bF : Binds K (da 55) ["family", "name"] [] := df_b2 DF (by intros; rfl)
  have DT := W.d 56 "_law_trusted" (by decide +kernel)
  have GT : FnOk P w K mg base CX0 3 (fa 56) (da 56) ["family", "name"] spLT := ok_lawTrust DT.F W.b (W.d 39 _ (by decide +kernel)) (W.d 50 _ (by decide +kernel)) (W.d 37 _ (by decide +kernel))
  have bT : Binds K (da 56) ["family", "name"] [] := df_b2 DT (by intros; rfl)
  have DA := W.d 54 "_law_apart" (by decide +kernel)
  have GA : FnOk P w K mg base CX0 6 (fa 54) (da 54) ["thing"] (spAprt 4) := ok_aprt DA.F W.b (W.d 52 _ (by decide +kernel)) (W.d 53 _ (by decide +kernel)) 4
  have bA : Binds K (da 54) ["thing"] [] := df_b1 DA (by intros; rfl)
  have D1 := W.d 33 "fallen_family" (by decide +kernel)
  have G1 : FnOk P w K mg base (L2.CX P w) 6 (fa 33) (da 33) ["family", "keeper"] (spFallL (c 9) (c 10)) := ok_fallL D1.F W.b W.fs (W.d 24 _ (by decide +kernel)) W.nl W.lk (W.d 30 _ (by decide +kernel)) (W.d 32 _ (by decide +kernel))
  have b1 : Binds K (da 33) ["family", "keeper"] [] := df_b2 D1 (by intros; rfl)
  have s1 := binds_sw (a := "family") (b := "keeper") D1.F (by intros; rfl)
  have D2 := W.d 34 "trusted_family" (by decide +kernel)
  have G2 : FnOk P w K mg base (L2.CX P w) 6 (fa 34) (da 34) ["family", "keeper"] (spTrustL T (c 9) (c 10)) := ok_trustL D2.F W.b W.fs (W.d 24 _ (by decide +kernel)) (W.d 25 _ (by decide +kernel)) W.le W.nl W.lk (W.d 30 _ (by decide +kernel)) (W.d 32 _ (by decide +kernel))
  have b2 : Binds K (da 34) ["family", "keeper"] [] := df_b2 D2 (by intros; rfl)
  have s2 := binds_sw (a := "family") (b := "keeper") D2.F (by intros; rfl)
  obtain ⟨tb, tm, tu⟩ := W.tb 57 "_law_keeper_right.<locals>.<lambda>" (by decide +kernel)
  have B := W.b
  refine okC (W.d 57 "_law_keeper_right" (by decide +kernel)).F scKr (fun vs H Q E h => ?_) (fun cc A outer s H vs Q E hc hr h => ?_)
  · obtain ⟨p, c0, n, v, F, x, A0, rfl, _⟩ := h
    rfl
  · obtain ⟨p, c0, n, v, F, x, A0, rfl, hst, hn, eA, nA, Ap, Ac, tt, hv, O, l60, n9, q⟩ := h
    refine ⟨_, PSs.nox (pss_cons (ps_set (i := 3) scKr.nd rfl (.inr rfl) (pe_call GP (hr.mono (by decide)) (by rfl) (W.d 43 "_law_a_passed" (by decide +kernel)).g (W.d 43 "_law_a_passed" (by decide +kernel)).F.kp bP .nil pass0 (pa_cons (pv 0) (pa_cons (pv 1) pa_nil))))
      (pss_cons (ps_par (i := 4) (j := 5) rfl scKr.nd rfl rfl (by decide) rfl rfl (pa_cons (pe_call GC (hr.mono (by decide)) (by rfl) DC.g DC.F.kp bC .nil pass0 (pa_cons (pv 3) pa_nil))
        (pa_cons (pe_lst (pa_cons (pe_call GF (hr.mono (by decide)) (by rfl) DF.g DF.F.kp bF .nil pass0 (pa_cons (pv 1) (pa_cons (pv 2) pa_nil))) (pa_cons (pe_call GT (hr.mono (by decide)) (by rfl) DT.g DT.F.kp bT .nil pass0 (pa_cons (pv 1) (pa_cons (pv 2) pa_nil))) pa_nil))) pa_nil)) (by rfl))
      (pss_cons (ps_set (i := 6) scKr.nd rfl (.inl rfl) (pe_lst (pa_cons (pe_met (k := 6) (t := fun E => tCall (spFallL (c 9) (c 10)) [] E (tCons (tVar 3) (tCons (tVar 2) tNil))) (defScope (top 57)) W (by rfl) (tb cc hc) rfl tm tu (hr.mono (by decide)) rfl (by decide +kernel) rfl (fun _ _ _ _ _ => rfl)
        (fun A outer s H E f c' hr2 => pe_call G1 hr2 (by rfl) D1.g D1.F.kp b1 .nil (passes_call (takes_of rfl rfl rfl rfl) fun _ _ _ _ h => h) (pa_cons (pv 3) (pa_cons (pv 2) pa_nil)))) pa_nil)))
      (pss_cons (ps_expr (pe_bm PySem.F.plainAttrs_list PySem.F.slot_list_extend PySem.F.type_list_extend mt_extend (pv 6) (pa_cons (pe_lst (pa_cons (pe_met (k := 6) (t := fun E => tCall (spTrustL T (c 9) (c 10)) [] E (tCons (tVar 3) (tCons (tVar 2) tNil))) (defScope (top 57)) W (by rfl) (tb cc hc) rfl tm tu (hr.mono (by decide)) rfl (by decide +kernel) rfl (fun _ _ _ _ _ => rfl)
        (fun A outer s H E f c' hr2 => pe_call G2 hr2 (by rfl) D2.g D2.F.kp b2 .nil (passes_call (takes_of rfl rfl rfl rfl) fun _ _ _ _ h => h) (pa_cons (pv 3) (pa_cons (pv 2) pa_nil)))) (pa_cons (pv 3) pa_nil))) pa_nil)))
      (pss_cons (ps_expr (pe_bm PySem.F.plainAttrs_list PySem.F.slot_list_append PySem.F.type_list_append mt_append (pv 6) (pa_cons (pe_met (k := 8) (t := fun E => tCallSw (spFallL (c 9) (c 10)) E (tCons (tVar 2) (tCons (tCall (spC 8) [] E0 (tCons (tVar 1) tNil)) tNil))) (defScope (top 57)) W (by rfl) (tb cc hc) rfl tm tu (hr.mono (by decide)) rfl (by decide +kernel) rfl (fun _ _ _ _ _ => rfl)
        (fun A outer s H E f c' hr2 => pe_callSw G1 (hr2.mono (by decide)) (by rfl) D1.g D1.F.kp s1 (passes_call (takes_of rfl rfl rfl rfl) fun _ _ _ _ h => h) (pk_cons (pv 2) (pk_cons (pe_call GC hr2 (by rfl) DC.g DC.F.kp bC .nil pass0 (pa_cons (pv 1) pa_nil)) pk_nil)))) pa_nil)))
      (pss_cons (ps_expr (pe_bm PySem.F.plainAttrs_list PySem.F.slot_list_append PySem.F.type_list_append mt_append (pv 6) (pa_cons (pe_met (k := 8) (t := fun E => tCallSw (spTrustL T (c 9) (c 10)) E (tCons (tVar 2) (tCons (tCall (spC 8) [] E0 (tCons (tVar 1) tNil)) tNil))) (defScope (top 57)) W (by rfl) (tb cc hc) rfl tm tu (hr.mono (by decide)) rfl (by decide +kernel) rfl (fun _ _ _ _ _ => rfl)
        (fun A outer s H E f c' hr2 => pe_callSw G2 (hr2.mono (by decide)) (by rfl) D2.g D2.F.kp s2 (passes_call (takes_of rfl rfl rfl rfl) fun _ _ _ _ h => h) (pk_cons (pv 2) (pk_cons (pe_call GC hr2 (by rfl) DC.g DC.F.kp bC .nil pass0 (pa_cons (pv 1) pa_nil)) pk_nil)))) pa_nil)))
      (pss_cons (ps_if (pt_not (pt_val (pe_call GS (hr.mono (by decide)) (by rfl) DS.g DS.F.kp bS .nil pass0 (pa_cons (pv 6) (pa_cons (pe_op op_cat (pe_op op_cat (pv 5) (pe_lst (pa_cons (pv 4) pa_nil))) (pv 5)) pa_nil))))) pss_never pss_nil)
      (pss_cons (ps_setLc (i := 7) (own := [("row", 10)]) (g := gName 10) (tt := tTest (tOp rEq (tOp (rIxT K) (tVar 10) (tC (.int 0))) (tC (.str "told")))) (te := tOp (rIxT K) (tVar 10) (tC (.int 1))) rfl scKr.nd rfl rfl (sw_true rfl rfl (by rfl) (by rfl)) (pi_list (pe_op op_cat (pe_slice sl_list (pv 6) po_none (po_some pe_int)) (pe_slice sl_list (pv 6) (po_some pe_int) po_none))) (blkOk_by (N := NKr) (sc := defScope (top 57)) (by decide +kernel))
        (fun _ _ _ _ _ => pg_name (i := 10) scKr.nd rfl (.inl rfl)) (fun _ _ _ _ _ => pts_one (pt_cmpR op_eq (pe_ix ix_tup (pv 10) pe_int (fun _ _ => rfl)) pe_str (nomark _))) (fun _ _ _ _ _ => pe_ix ix_tup (pv 10) pe_int (fun _ _ => rfl)))
      (pss_cons (ps_if (pt_not (pt_val (pe_call GA (hr.mono (by decide)) (by rfl) DA.g DA.F.kp bA .nil pass0 (pa_cons (pe_lc (own := [("part", 11)]) (g := gName 11) (tt := tYes) (te := tVar 11) rfl scKr.nd
          (pi_list (pe_callB (cr_sumA rfl) (by rfl) B.sum (by decide +kernel) (pa_cons (pe_lc (own := [("row", 10)]) (g := gName 10) (tt := tYes) (te := tCB (rListS K) (tCons (tVar 10) tNil)) rfl scKr.nd (pi_list (pv 7)) (blkOk_by (N := NKr) (sc := defScope (top 57)) (by decide +kernel))
            (fun _ _ _ _ _ => pg_name (i := 10) scKr.nd rfl (.inl rfl)) (fun _ _ _ _ _ => pts_nil) (fun _ _ _ _ _ => pe_callTy call_list_of (by rfl) B.list (by decide +kernel) (pa_cons (pv 10) pa_nil))) (pa_cons (pe_lst pa_nil) pa_nil))))
          (blkOk_by (N := NKr) (sc := defScope (top 57)) (by decide +kernel)) (fun _ _ _ _ _ => pg_name (i := 11) scKr.nd rfl (.inl rfl)) (fun _ _ _ _ _ => pts_nil) (fun _ _ _ _ _ => pv 11)) pa_nil)))) pss_never pss_nil)
      (pss_cons (ps_if (pt_cmpR op_ne (pe_ix ix_tup (pe_ix ix_list (pv 5) pe_int (fun _ _ => rfl)) pe_int (fun _ _ => rfl)) pe_str (nomark _)) (pss_one (ps_ret pe_bl)) pss_nil)
      (pss_cons (ps_set (i := 8) scKr.nd rfl (.inr rfl) (pe_ifExp (pt_cmpR op_eq (pe_ix ix_tup (pe_ix ix_list (pv 5) pe_int (fun _ _ => rfl)) pe_int (fun _ _ => rfl)) pe_str (nomark _)) (pe_ix ix_tup (pe_ix ix_tup (pe_ix ix_list (pv 5) pe_int (fun _ _ => rfl)) pe_int (fun _ _ => rfl)) pe_int (fun _ _ => rfl)) (pe_lst pa_nil)))
      (pss_cons (ps_set (i := 9) scKr.nd rfl (.inl rfl) (pe_op op_cat (pv 8) (pe_lc (own := [("lot", 12)]) (g := gName 12) (tt := tTest (tOp (rInW (List Str) true) (tVar 12) (tVar 8))) (te := tCB (rSortedW Str) (tCons (tOp rCat (tVar 12) (tLst (tCons (tVar 2) tNil))) tNil)) rfl scKr.nd
          (pi_list (pe_ix ix_tup (pe_ix ix_tup (pe_ix ix_list (pv 5) pe_int (fun _ _ => rfl)) pe_int (fun _ _ => rfl)) pe_int (fun _ _ => rfl))) (blkOk_by (N := NKr) (sc := defScope (top 57)) (by decide +kernel))
          (fun _ _ _ _ _ => pg_name (i := 12) scKr.nd rfl (.inl rfl)) (fun _ _ _ _ _ => pts_one (pt_cmpR (op_notInW (α := List Str) (uLL1 hr)) (pv 12) (pv 8) (by rfl)))
          (fun _ _ _ _ _ => pe_callB (cr_sortedW (α := Str) (fun _ _ z => by cases z) (uK0 hr)) (by rfl) B.sorted (by decide +kernel) (pa_cons (pe_op op_cat (pv 12) (pe_lst (pa_cons (pv 2) pa_nil))) pa_nil)))))
      (pss_one (ps_ret (pe_call GS (hr.mono (by decide)) (by rfl) DS.g DS.F.kp bS .nil pass0 (pa_cons (pe_callB (cr_sortedW (α := List Str) (fun _ _ z => by cases z) (uK hr)) (by rfl) B.sorted (by decide +kernel) (pa_cons (pv 9) pa_nil)) (pa_cons (pe_ix ix_tup (pv 1) pe_int (fun _ _ => rfl)) pa_nil))))))))))))))))), ?_⟩
    refine ⟨.ref p, rfl, v, rfl, p, c0, n, v, A0, F.2.length + 3, rfl, hst, by omega, eA, Ap, Ac, sz_fm (d := 1) hv O.g, fun u H1 Hs1 x1 s1 e1 o1 lz => ?_⟩
    have eA1 : Ex (jn A0 Hs1) H1 := jn_ex (exb eA Ap Ac x1) e1
    have f1 : FmR F (jn A0 Hs1) u := fmR_mon _ _ _ _ (jn_r (exb eA Ap Ac x1) e1) (lz_fm hv lz)
    have v1 : rep (jn A0 Hs1) v F := DV.ext jn_l hv
    refine nm_go ?_
    refine b_parR (σ := sg (some (.ref p)) (some v) (some (.str x)) (some u) none none none none none none) (Bs.start eA1) (er_copied (d := 8) (E := E0) (R1 := fun Hx y => Hx = jn A0 Hs1 ∧ y = u) (R2 := fun Hx y => Tw (jn A0 Hs1) Hx 8 u y) (er_varR (i := 3) rfl ⟨rfl, rfl⟩) (fun Hx y h => by
        obtain ⟨z1, z2⟩ := h
        rw [z1, z2]
        exact fm_tw f1 O.g) (fun Hx Hy y z h t => by
        obtain ⟨z1, z2⟩ := h
        rw [z1, z2] at t
        exact t))
      (er_of (ed_lst (xs := [lawFall F x, lawTrust F x]) (eda_cons (ed_call2 (E := E0) (P := fun (F : FamT) (x : Str) => Kpr F x) (f := lawFall) (ed_var (i := 1) rfl v1) (ed_var (i := 2) (x := x) rfl rfl) O) (eda_cons (ed_call2 (E := E0) (P := fun (F : FamT) (x : Str) => Kpr F x) (f := lawTrust) (ed_var (i := 1) rfl v1) (ed_var (i := 2) (x := x) rfl rfl) O) eda_nil)) (by simp)))
      (fun Hx Hy y e h => Tw.ext (Ex.refl _) e h) rep_mon fun w dv A2 H2 B2 x2 tw2 d2 => ?_
    have e23 : Ex (nt A2) H2 := nt_sub.trans B2.h
    have nt3 : NT (nt A2) := nt_NT A2
    have f3 : FmR F (nt A2) u := fmR_n (nt_ext A2) (fmR_mon _ _ _ _ x2 f1)
    have v3 : rep (nt A2) v F := DVN.extN (nt_ext A2) (DV.ext x2 v1)
    have tw3 : Tw (nt A2) (nt A2) 8 u w := tw_n (nt_ext A2) (nt_ext A2) (Tw.ext x2 (Ex.refl _) tw2)
    have d3 : rep (nt A2) dv [lawFall F x, lawTrust F x] := DVN.extN (nt_ext A2) d2
    have t2 : Tabs T H2 := (tabs_exb tt hst x1).ext B2.e
    obtain ⟨o1', hp1⟩ := s1.p
    obtain ⟨o2', hc1⟩ := s1.c
    have st2 : St H2 p c0 (n + ((F.2.length + 3 : Nat) : Int)) := s1.ext ((B2.e _ _ hp1).trans hp1.symm) ((B2.e _ _ hc1).trans hc1.symm) (Int.le_refl _)
    have xd2 : ExD p c0 H H2 := fun b o m h _ => B2.e _ _ (x1 b o m h)
    generalize nt A2 = A3 at e23 nt3 f3 v3 tw3 d3
    have R0 := Row.start (Hb := H2) nt3
    -- found = [ .. ]
    show tSeq (tAsg (tLst (tCons (tLam T (TMet c) _) tNil)) (gName 6)) _ _ (sg (some (.ref p)) (some v) (some (.str x)) (some u) (some w) (some dv) none none none none) H2
    refine ⟨t2, fun H3 n3 t3 => ?_⟩
    refine ⟨u, rfl, .str x, rfl, met_fall (T := T) (H := H2) (nt3.ex e23 n3) f3 O ⟨n3, t3⟩ fun u1 H4 Hs4 L1 l4 e4 o4 a4 nd4 dm4 => ?_⟩
    obtain ⟨R4, x4⟩ := R0.add e23 (ExtN.refl H2) l4 e4 o4 a4 nd4 dm4
    refine ⟨by show 1 ≤ sizeLine; decide, fun D nD => ?_⟩
    have D4 : (jn A3 (nt Hs4)) D = none := exf x4 nD
    have x4' : Ex (jn A3 (nt Hs4)) (upd H4 D (.lst [u1])) := x4.trans (Ex.new nD)
    have l4' : Lt T H2 (upd H4 D (.lst [u1])) := l4.go (Ex.new nD)
    have nD2 : nt H2 D = none := exf (nt_ex (Ex.refl H2) l4.n) nD
    have hD4 : (upd H4 D (.lst [u1])) D = some (.lst [u1]) := upd_same
    generalize upd H4 D (.lst [u1]) = H5 at x4' l4' hD4
    clear x4 l4 nD e4
    refine nm_go ?_
    -- found.extend([.., passed])
    show tSeq (tDrop (tBM K "list" rExtend (tVar 6) (tCons (tLst (tCons (tLam T (TMet c) _) (tCons (tVar 3) tNil))) tNil))) _ _ (sg (some (.ref p)) (some v) (some (.str x)) (some u) (some w) (some dv) (some (.ref D)) none none none) H5
    refine ⟨.ref D, rfl, .inl ⟨rfl, _, sq_of hD4⟩, ?_⟩
    refine ⟨l4'.t, fun H6 n6 t6 => ?_⟩
    have y6 : Ex A3 H6 := nt3.ex (R4.s.trans x4') n6
    refine ⟨u, rfl, .str x, rfl, met_trust (T := T) (H := H5) y6 f3 O ⟨n6, t6⟩ fun u2 H7 Hs7 L2 l7 e7 o7 a7 nd7 dm7 => ?_⟩
    obtain ⟨R7, x7⟩ := R4.add x4' l4'.n l7 e7 o7 a7 nd7 dm7
    have D7 := R4.off hD4 o7 D4
    have hD7 : H7 D = some (.lst [u1]) := l7.n _ _ hD4 fun _ z => by cases z
    refine ⟨u, rfl, by show 2 ≤ sizeLine; decide, fun Z nZ => ?_⟩
    have DZ : D ≠ Z := ne_of_none hD7 nZ
    refine ⟨D, Z, [u1], [u2, u], rfl, rfl, by rw [upd_ne DZ]; exact hD7, upd_same, by show 3 ≤ sizeLine; decide, ?_⟩
    have l7' : Lt T H2 (upd (upd H7 Z (.lst [u2, u])) D (.lst [u1, u2, u])) := ((l4'.trans l7).go (Ex.new nZ)).mut (by rw [upd_ne DZ]; exact hD7) nD2
    have x7' : Ex (jn (jn A3 (nt Hs4)) (nt Hs7)) (upd (upd H7 Z (.lst [u2, u])) D (.lst [u1, u2, u])) := (x7.trans (Ex.new nZ)).mut D7
    have hD8 : (upd (upd H7 Z (.lst [u2, u])) D (.lst [u1, u2, u])) D = some (.lst [u1, u2, u]) := upd_same
    show tSeq (tDrop (tBM K "list" rAppend (tVar 6) (tCons (tLam T (TMet c) _) tNil))) _ _ (sg (some (.ref p)) (some v) (some (.str x)) (some u) (some w) (some dv) (some (.ref D)) none none none) (upd (upd H7 Z (.lst [u2, u])) D (.lst [u1, u2, u]))
    generalize upd (upd H7 Z (.lst [u2, u])) D (.lst [u1, u2, u]) = H8 at l7' x7' hD8
    clear x7 l7 nZ e7 DZ hD7
    -- found.append( .. by names)
    have twF : ∀ {H' : Hp}, Ex A3 H' → Tw A3 A3 8 v v := fun _ => (DVT.tw (good_sm O.g) v3 v3).ups (by decide)
    refine ⟨.ref D, rfl, .inl ⟨rfl, _, sq_of hD8⟩, ?_⟩
    refine ⟨l7'.t, fun H9 n9' t9 => ?_⟩
    have y9 : Ex A3 H9 := nt3.ex (R7.s.trans x7') n9'
    refine ⟨.str x, rfl, v, rfl, v, A3, rfl, y9, twF y9, fun v' H9' Hs9 e9 s9 o9 tw9 => ⟨rfl, ?_⟩⟩
    refine met_fall (T := T) (H := H8) s9 (fmR_of (DVT.cp v3 tw9)) O ⟨n9'.trans (ExtN.of e9), t9.ext e9⟩ fun u3 H10 Hs10 L3 l10 e10 o10 a10 nd10 dm10 => ?_
    obtain ⟨R10, x10⟩ := R7.add x7' l7'.n l10 e10 o10 a10 nd10 dm10
    have D10 := R7.off hD8 o10 D7
    have hD10 : H10 D = some (.lst [u1, u2, u]) := l10.n _ _ hD8 fun _ z => by cases z
    refine ⟨D, [u1, u2, u], u3, rfl, rfl, hD10, by show 3 < sizeLine; decide, ?_⟩
    have l10' : Lt T H2 (upd H10 D (.lst [u1, u2, u, u3])) := (l7'.trans l10).mut hD10 nD2
    have x10' : Ex (jn (jn (jn A3 (nt Hs4)) (nt Hs7)) (nt Hs10)) (upd H10 D (.lst [u1, u2, u, u3])) := x10.mut D10
    have hD11 : (upd H10 D (.lst [u1, u2, u, u3])) D = some (.lst [u1, u2, u, u3]) := upd_same
    show tSeq (tDrop (tBM K "list" rAppend (tVar 6) (tCons (tLam T (TMet c) _) tNil))) _ _ (sg (some (.ref p)) (some v) (some (.str x)) (some u) (some w) (some dv) (some (.ref D)) none none none) (upd H10 D (.lst [u1, u2, u, u3]))
    generalize upd H10 D (.lst [u1, u2, u, u3]) = H11 at l10' x10' hD11
    clear x10 l10 e10 hD10
    refine ⟨.ref D, rfl, .inl ⟨rfl, _, sq_of hD11⟩, ?_⟩
    refine ⟨l10'.t, fun H12 n12 t12 => ?_⟩
    have y12 : Ex A3 H12 := nt3.ex (R10.s.trans x10') n12
    refine ⟨.str x, rfl, v, rfl, v, A3, rfl, y12, twF y12, fun v2' H12' Hs12 e12 s12 o12 tw12 => ⟨rfl, ?_⟩⟩
    refine met_trust (T := T) (H := H11) s12 (fmR_of (DVT.cp v3 tw12)) O ⟨n12.trans (ExtN.of e12), t12.ext e12⟩ fun u4 H13 Hs13 L4 l13 e13 o13 a13 nd13 dm13 => ?_
    obtain ⟨R13, x13⟩ := R10.add x10' l10'.n l13 e13 o13 a13 nd13 dm13
    have D13 := R10.off hD11 o13 D10
    have hD13 : H13 D = some (.lst [u1, u2, u, u3]) := l13.n _ _ hD11 fun _ z => by cases z
    refine ⟨D, [u1, u2, u, u3], u4, rfl, rfl, hD13, by show 4 < sizeLine; decide, ?_⟩
    have l14 : Lt T H2 (upd H13 D (.lst ([u1, u2, u, u3] ++ [u4]))) := (l10'.trans l13).mut hD13 nD2
    have x14 : Ex (jn (jn (jn (jn A3 (nt Hs4)) (nt Hs7)) (nt Hs10)) (nt Hs13)) (upd H13 D (.lst ([u1, u2, u, u3] ++ [u4]))) := x13.mut D13
    have hD14 : (upd H13 D (.lst ([u1, u2, u, u3] ++ [u4]))) D = some (.lst ([u1, u2, u, u3] ++ [u4])) := upd_same
    dsimp only
    generalize upd H13 D (.lst ([u1, u2, u, u3] ++ [u4])) = H14 at l14 x14 hD14 ⊢
    replace hD14 : H14 D = some (.lst [u1, u2, u, u3, u4]) := hD14
    clear x13 l13 e13 hD13
    have R : Row H2 A3 (jn (jn (jn (jn A3 (nt Hs4)) (nt Hs7)) (nt Hs10)) (nt Hs13)) [u1, u2, u3, u4] [lawFall F x, lawTrust F x, lawFall F x, lawTrust F x] ([] ++ L1 ++ L2 ++ L3 ++ L4) := R13
    generalize jn (jn (jn (jn A3 (nt Hs4)) (nt Hs7)) (nt Hs10)) (nt Hs13) = A4 at x14 R
    generalize [] ++ L1 ++ L2 ++ L3 ++ L4 = M at R
    clear R13 R10 R7 R4 R0 D13 D10 D7 D4 x10' x7' x4' l10' l7' l4' hD11 hD8 hD4
    -- found is as due
    obtain ⟨dd, ds, rfl, hdd, hds⟩ := d3
    obtain ⟨dv1, dv2, rfl, rd1, rd2⟩ : ∃ a b, ds = [a, b] ∧ rep A3 a (lawFall F x) ∧ rep A3 b (lawTrust F x) := by
      match ds, hds with
      | [a, b], .cons h1 (.cons h2 .nil) => exact ⟨a, b, rfl, h1, h2⟩
    have e34 : Ex A3 H14 := R.s.trans x14
    have sm1 := ans_sm (a := lawFall F x) O n9 (by simp)
    have sm2 := ans_sm (a := lawTrust F x) O n9 (by simp)
    obtain ⟨ru1, ru2, ru3, ru4⟩ : rep A4 u1 (lawFall F x) ∧ rep A4 u2 (lawTrust F x) ∧ rep A4 u3 (lawFall F x) ∧ rep A4 u4 (lawTrust F x) := by
      match R.r with
      | .cons h1 (.cons h2 (.cons h3 (.cons h4 .nil))) => exact ⟨ansW_rep h1, ansW_rep h2, ansW_rep h3, ansW_rep h4⟩
    have same : Ev (tCall (spS 9) [] E0 (tCons (tVar 6) (tCons (tOp rCat (tOp rCat (tVar 5) (tLst (tCons (tVar 4) tNil))) (tVar 5)) tNil))) (sg (some (.ref p)) (some v) (some (.str x)) (some u) (some w) (some (.ref dd)) (some (.ref D)) none none none) H14 (.bl true) := by
      intro H' e' Q' q'
      refine ⟨.ref D, rfl, .ref dd, rfl, w, rfl, by show 1 ≤ sizeLine; decide, fun l nl => ?_⟩
      have z1 : Ex H' (upd H' l (.lst [w])) := Ex.new nl
      have hd' : H' dd = some (.lst [dv1, dv2]) := e' _ _ (e34 _ _ hdd)
      refine ⟨dd, l, [dv1, dv2], [w], rfl, rfl, z1 _ _ hd', upd_same, by show 3 ≤ sizeLine; decide, fun l2 nl2 => ?_⟩
      have z2 := z1.trans (Ex.new (o := .lst ([dv1, dv2] ++ [w])) nl2)
      refine ⟨.ref dd, rfl, l2, dd, [dv1, dv2] ++ [w], [dv1, dv2], rfl, rfl, upd_same, z2 _ _ hd', by show 5 ≤ sizeLine; decide, fun l3 nl3 => ?_⟩
      have z3 := z2.trans (Ex.new (o := .lst ([dv1, dv2] ++ [w] ++ [dv1, dv2])) nl3)
      have g4 : Ex A4 _ := (x14.trans e').trans z3
      have g3 : Ex A3 _ := (e34.trans e').trans z3
      refine ⟨.ref D, .ref l3, rfl, .inr (.inl ⟨D, l3, [u1, u2, u, u3, u4], [dv1, dv2] ++ [w] ++ [dv1, dv2], rfl, rfl, z3 _ _ (e' _ _ hD14), upd_same, by show 5 ≤ 1000; decide, ?_⟩), fun H'' e'' => q' H'' (z3.trans e'')⟩
      exact .cons ((DVT.tw sm1 (DV.ext g4 ru1) (DV.ext g3 rd1)).ups (by decide)) (.cons ((DVT.tw sm2 (DV.ext g4 ru2) (DV.ext g3 rd2)).ups (by decide)) (.cons (Tw.ext g3 g3 tw3)
        (.cons ((DVT.tw sm1 (DV.ext g4 ru3) (DV.ext g3 rd1)).ups (by decide)) (.cons ((DVT.tw sm2 (DV.ext g4 ru4) (DV.ext g3 rd2)).ups (by decide)) .nil))))
    refine b_skip (σ := sg (some (.ref p)) (some v) (some (.str x)) (some u) (some w) (some (.ref dd)) (some (.ref D)) none none none) (Bs.start (Ex.refl H14)) (et_not (et_B same)) rfl fun H15 B15 => ?_
    have x15 : Ex A4 H15 := x14.trans B15.h
    have hD15 : H15 D = some (.lst [u1, u2, u, u3, u4]) := B15.h _ _ hD14
    have l15 : Lt T H2 H15 := l14.go B15.h
    have e35 : Ex A3 H15 := R.s.trans x15
    -- told
    have r15 : Rws H15 [u1, u2, u3, u4] [lawFall F x, lawTrust F x, lawFall F x, lawTrust F x] M := rws_n (ExtN.of x15) R.r
    have rowAt : ∀ y ∈ [u1, u2, u3, u4], ∃ pp wd vv, y = .ref pp ∧ H15 pp = some (.tup [.str wd, vv]) := by
      have go : ∀ {us : List V} {as : List Ans} {M : List Addr}, Rws H15 us as M → ∀ y ∈ us, ∃ pp wd vv, y = .ref pp ∧ H15 pp = some (.tup [.str wd, vv]) := by
        intro us as M r
        induction r with
        | nil => exact fun _ m => by cases m
        | cons h r ih =>
          intro y m
          rcases List.mem_cons.mp m with z | z
          · obtain ⟨pp, vv, e1, e2, _⟩ := h
            exact ⟨pp, _, vv, z.trans e1, e2⟩
          · exact ih y z
      exact go r15
    have cut1 : EvL (tSl (rSlL K) (tVar 6) tNoPart (tPart (tC (.int 2)))) (sg (some (.ref p)) (some v) (some (.str x)) (some u) (some w) (some (.ref dd)) (some (.ref D)) none none none) H15 [u1, u2] := el_sl (ev_var rfl) eo_none (eo_some ev_c) (sq_of hD15)
    have cut2 : EvL (tSl (rSlL K) (tVar 6) (tPart (tC (.int 3))) tNoPart) (sg (some (.ref p)) (some v) (some (.str x)) (some u) (some w) (some (.ref dd)) (some (.ref D)) none none none) H15 [u3, u4] := el_sl (ev_var rfl) (eo_some ev_c) eo_none (sq_of hD15)
    have tl := el_lcF (K := K) (j := 10) (vs := [10]) (tt := tTest (tOp rEq (tOp (rIxT K) (tVar 10) (tC (.int 0))) (tC (.str "told")))) (te := tOp (rIxT K) (tVar 10) (tC (.int 1))) (tagB H15) (fun y => (secW H15 y).2) (el_cat cut1 cut2 (by simp)) (by simp) (fun _ => rfl)
      (fun y m => by
        obtain ⟨pp, wd, vv, rfl, hpp⟩ := rowAt y m
        have e : tagB H15 (.ref pp) = decide (V.str wd = V.str "told") := by
          unfold tagB
          rw [secW_of hpp]
        rw [e]
        exact et_test (ev_op (ev_op (ev_var rfl) ev_c (rv_ixT (st_of hpp) rfl)) ev_c (rv_eq rfl)))
      (fun y m _ => by
        obtain ⟨pp, wd, vv, rfl, hpp⟩ := rowAt y m
        rw [secW_of hpp]
        exact ev_op (ev_var rfl) ev_c (rv_ixT (st_of hpp) rfl))
    obtain ⟨fs, rfs, mfs⟩ := rws_told r15 (fun a m => by
      rcases List.mem_cons.mp m with rfl | m
      · exact fit_fall F x
      rcases List.mem_cons.mp m with rfl | m
      · exact fit_trust F x
      rcases List.mem_cons.mp m with rfl | m
      · exact fit_fall F x
      rw [List.mem_singleton.mp m]
      exact fit_trust F x)
    have lfs : ∀ G ∈ fs, Lts G := fun G m => by
      obtain ⟨a, ha, e⟩ := mfs G m
      rcases fam_of ha e with rfl | rfl
      · exact lts_fall O n9
      · exact lts_trust O n9
    have ltl : ((([u1, u2] ++ [u3, u4]).filter (tagB H15)).map fun y => (secW H15 y).2).length ≤ 4 := by
      rw [List.length_map]
      exact List.length_filter_le _ _
    generalize hTl : ((([u1, u2] ++ [u3, u4]).filter (tagB H15)).map fun y => (secW H15 y).2) = told at tl ltl
    rw [show (([u1, u2, u3, u4].filter (tagB H15)).map fun y => (secW H15 y).2) = told from hTl] at rfs
    refine b_asgL (σ := sg (some (.ref p)) (some v) (some (.str x)) (some u) (some w) (some (.ref dd)) (some (.ref D)) none none none) tl (Ex.refl _) fun pT H16 nT e16 hT => ?_
    -- apart
    have rfs16 : RL (fun F => FmW F) H16 fs told M := rfs.mon (fun F => fmW_mon F) e16
    obtain ⟨ls, pls, lls, Ms, pMs, eMs⟩ := rl_fmT rfs16 lfs
    have inner := ell_rows (K := K) (σ := sg (some (.ref p)) (some v) (some (.str x)) (some u) (some w) (some (.ref dd)) (some (.ref D)) (some (.ref pT)) none none) (tl := tVar 7) (j := 10) (ev_var rfl) hT pls (by omega) (fun _ => rfl) (fun _ => rfl)
    have sumL := el_sum inner (by omega)
    have parts := el_lcF (K := K) (j := 11) (vs := [11]) (tt := tYes) (te := tVar 11) (fun _ => true) (fun y => y) sumL (by omega) (fun _ => rfl) (fun _ _ => et_yes) (fun _ _ _ => ev_var rfl)
    rw [List.map_id', List.filter_eq_self.mpr (fun _ _ => rfl)] at parts
    have x16 : Ex A4 H16 := x15.trans e16
    have e36 : Ex A3 H16 := R.s.trans x16
    have l16 := l15.go e16
    refine nx_if (σ := sg (some (.ref p)) (some v) (some (.str x)) (some u) (some w) (some (.ref dd)) (some (.ref D)) (some (.ref pT)) none none) ?_
    refine not_go (parts H16 (Ex.refl _) _ fun pP H17 nP e17 hP => ?_)
    have nMs : (pP :: Ms.flatten).Nodup := by
      rw [eMs]
      refine List.nodup_cons.mpr ⟨fun m => ?_, R.nd⟩
      obtain ⟨o, ho⟩ := R.dm pP m
      rw [x16 _ _ ho] at nP
      cases nP
    have pM17 : Paired (fun v M => Tr H17 3 v M) ls.flatten Ms := pimp (fun _ _ t => Tr.ext e17 t) pMs
    refine ⟨.ref pP, pP :: Ms.flatten, rfl, .inr (.inl ⟨pP, ls.flatten, Ms, rfl, hP, by omega, pM17, rfl⟩), nMs, fun H18 f18 => ⟨true, rfl, ?_⟩⟩
    refine if_no (by decide) ?_
    have out : ∀ b o, A3 b = some o → b ∉ pP :: Ms.flatten := fun b o h m => by
      rw [eMs] at m
      rcases List.mem_cons.mp m with y | y
      · rw [y] at h
        rw [e36 _ _ h] at nP
        cases nP
      · have k := R.dj b y
        rw [nt_mk (e23 _ _ h) fun ps z => nt3 b ps (by rw [h, z])] at k
        cases k
    have l17 := l16.go e17
    have lsts : ∀ b ∈ pP :: Ms.flatten, ∃ vs, H17 b = some (.lst vs) := Tr.lists (H := H17) (d := 4) (v := .ref pP) (.inr (.inl ⟨pP, ls.flatten, Ms, rfl, hP, by omega, pM17, rfl⟩))
    have new2 : ∀ b o, H2 b = some o → (∀ ps, o ≠ .tbl ps) → b ∉ pP :: Ms.flatten := fun b o h n m => by
      rw [eMs] at m
      rcases List.mem_cons.mp m with y | y
      · rw [y] at h
        rw [l16.n _ _ h n] at nP
        cases nP
      · have k := R.dj b y
        rw [nt_mk h n] at k
        cases k
    have n18 : ExtN H2 H18 := fun b o h n => f18 b o (new2 b o h n) (l17.n b o h n)
    have e38 : Ex A3 H18 := fun b o h => f18 b o (out b o h) (e17 _ _ (e36 _ _ h))
    have t18 : Tabs T H18 := by
     intro q hq
     obtain ⟨ps, g1, g2, g3⟩ := l17.t q hq
     have nl : ∀ {b : Addr} {o : HO}, H17 b = some o → (∀ vs, o ≠ .lst vs) → b ∉ pP :: Ms.flatten := fun {b o} h n m => by
       obtain ⟨vs, hv⟩ := lsts b m
       rw [hv] at h
       exact n vs (Option.some.inj h).symm
     refine ⟨ps, f18 _ _ (nl g1 fun _ z => by cases z) g1, g2, fun pos cv h => ?_⟩
     obtain ⟨cA, k1, k2⟩ := g3 pos cv h
     refine ⟨cA, k1, f18 _ _ (nl k2 fun vs z => ?_) k2⟩
     unfold CodeO at z
     cases z
    -- how it was before
    have d3' : rep A3 (.ref dd) [lawFall F x, lawTrust F x] := ⟨dd, [dv1, dv2], rfl, hdd, .cons rd1 (.cons rd2 .nil)⟩
    have end_ : ∀ H', Ex H18 H' → Q (.bl true) H' := fun H' e' => by
      have xd : ExtN H2 H' := n18.trans (ExtN.of e')
      obtain ⟨op, hp2⟩ := st2.p
      obtain ⟨oc, hc2⟩ := st2.c
      obtain ⟨ne, cells, rest, cnt, mix, gp, gc, gl⟩ := st2
      refine q H' (fun b o m h n => xd b o (xd2 b o m h n) n) (t18.ext e') ⟨ne, cells, rest, cnt, mix, xd _ _ gp (fun _ z => by cases z), xd _ _ gc (fun _ z => by cases z), gl.1, gl.2.1, gl.2.2.1, ?_, gl.2.2.2.2⟩
      have := gl.2.2.2.1
      omega
    have B18 : Bs A3 H18 A3 H18 := Bs.start e38
    have dueV : ∀ {y8 y9 : Option V} {A' : Hp}, Ex A3 A' → EvD (tVar 5) (sg (some (.ref p)) (some v) (some (.str x)) (some u) (some w) (some (.ref dd)) (some (.ref D)) (some (.ref pT)) y8 y9) A' [lawFall F x, lawTrust F x] := fun e => ed_var rfl (DV.ext e d3')
    have due1 : ∀ {y8 y9 : Option V} {A' : Hp}, Ex A3 A' → EvD (tOp (rIxL K) (tVar 5) (tC (.int 1))) (sg (some (.ref p)) (some v) (some (.str x)) (some u) (some w) (some (.ref dd)) (some (.ref D)) (some (.ref pT)) y8 y9) A' (lawTrust F x) := fun e => ed_ixL (i := 1) (dueV e) ev_c rfl
    have due0 : ∀ {y8 y9 : Option V} {A' : Hp}, Ex A3 A' → EvD (tOp (rIxL K) (tVar 5) (tC (.int 0))) (sg (some (.ref p)) (some v) (some (.str x)) (some u) (some w) (some (.ref dd)) (some (.ref D)) (some (.ref pT)) y8 y9) A' (lawFall F x) := fun e => ed_ixL (i := 0) (dueV e) ev_c rfl
    have t10 := et_test (ev_op (ev_str (ed_fst (K := K) (due1 (y8 := none) (y9 := none) (Ex.refl A3)))) (ev_c (v := .str "told")) (rv_ne rfl))
    refine b_seqIf (σ := sg (some (.ref p)) (some v) (some (.str x)) (some u) (some w) (some (.ref dd)) (some (.ref D)) (some (.ref pT)) none none) B18 t10 (fun z H19 B19 => ?_) (fun z H19 B19 => ?_)
    · exact end_ H19 B19.e
    have z' : (lawTrust F x).1 = "told" := by
      by_cases e : V.str (lawTrust F x).1 = V.str "told"
      · exact V.str.inj e
      · rw [decide_eq_false e] at z
        cases z
    obtain ⟨hd, hn', tr⟩ : ¬ drop1 x F.1 = [] ∧ (¬ [] ∈ trust x F.2) ∧ lawTrust F x = (((("told" : Str), some (drop1 x F.1, leastOf (trust x F.2)))) : Ans) := by
      unfold lawTrust at z' ⊢
      split at z'
      · exact absurd z' (by decide)
      · rename_i h1
        split at z'
        · rename_i h2
          exact ⟨h1, h2, by rw [if_neg h1, if_pos h2]⟩
        · exact absurd z' (by decide)
    have hl := O.g.len
    have hl2 := O.g.len2
    have kl := O.g.ks.len
    -- rest
    have t11 := et_test (ev_op (ev_str (ed_fst (K := K) (due0 (y8 := none) (y9 := none) (Ex.refl A3)))) (ev_c (v := .str "told")) (rv_eq rfl))
    have eRest : EvD (tIf (tTest (tOp rEq (tOp (rIxT K) (tOp (rIxL K) (tVar 5) (tC (.int 0))) (tC (.int 0))) (tC (.str "told")))) (tOp (rIxT K) (tOp (rIxT K) (tOp (rIxL K) (tVar 5) (tC (.int 0))) (tC (.int 1))) (tC (.int 1))) (tLst tNil)) (sg (some (.ref p)) (some v) (some (.str x)) (some u) (some w) (some (.ref dd)) (some (.ref D)) (some (.ref pT)) none none) A3 (fall x F.2) := by
      by_cases wf : fall x F.2 ≠ []
      · have lf : lawFall F x = (((("told" : Str), some (drop1 x F.1, fall x F.2))) : Ans) := (if_neg hd).trans (if_pos wf)
        have due0' := due0 (y8 := none) (y9 := none) (Ex.refl A3)
        rw [lf] at due0' t11
        rw [decide_eq_true rfl] at t11
        have k1 : EvD (tOp (rIxT K) (tOp (rIxL K) (tVar 5) (tC (.int 0))) (tC (.int 1))) (sg (some (.ref p)) (some v) (some (.str x)) (some u) (some w) (some (.ref dd)) (some (.ref D)) (some (.ref pT)) none none) A3 (some ((drop1 x F.1, fall x F.2) : FamT)) := ed_snd due0'
        have k2 : EvD _ _ _ (fall x F.2) := ed_snd (K := K) (ed_unsome k1)
        exact ed_ifE t11 (fun _ => k2) (fun z => by cases z)
      · have lf : lawFall F x = (((("none" : Str), (none : Option FamT))) : Ans) := (if_neg hd).trans (if_neg wf)
        have e0 : fall x F.2 = [] := Classical.not_not.mp wf
        rw [lf] at t11
        rw [decide_eq_false (fun z => by have := V.str.inj z; exact absurd this (by decide))] at t11
        rw [e0]
        exact ed_ifE t11 (fun z => by cases z) fun _ => ed_lst eda_nil (by decide)
    refine b_asg (σ := sg (some (.ref p)) (some v) (some (.str x)) (some u) (some w) (some (.ref dd)) (some (.ref D)) (some (.ref pT)) none none) B19 eRest fun v8 A8 H20 B20 x8 r8 => ?_
    -- again
    have due1' := due1 (y8 := some v8) (y9 := none) x8
    rw [tr] at due1'
    have k1 : EvD (tOp (rIxT K) (tOp (rIxL K) (tVar 5) (tC (.int 1))) (tC (.int 1))) (sg (some (.ref p)) (some v) (some (.str x)) (some u) (some w) (some (.ref dd)) (some (.ref D)) (some (.ref pT)) (some v8) none) A8 (some ((drop1 x F.1, leastOf (trust x F.2)) : FamT)) := ed_snd due1'
    have k2 : EvD _ _ _ (leastOf (trust x F.2)) := ed_snd (K := K) (ed_unsome k1)
    have lc := ed_lc (K := K) (σ := sg (some (.ref p)) (some v) (some (.str x)) (some u) (some w) (some (.ref dd)) (some (.ref D)) (some (.ref pT)) (some v8) none) (H := A8) (tl := tOp (rIxT K) (tOp (rIxT K) (tOp (rIxL K) (tVar 5) (tC (.int 1))) (tC (.int 1))) (tC (.int 1))) (tt := tTest (tOp (rInW (List Str) true) (tVar 12) (tVar 8))) (te := tCB (rSortedW Str) (tCons (tOp rCat (tVar 12) (tLst (tCons (tVar 2) tNil))) tNil)) (j := 12) (vs := [12])
      (fun l : List Str => decide (l ∉ fall x F.2)) (fun l : List Str => addOn x l) k2 (by have h : (leastOf (trust x F.2)).length ≤ 1000 := (lts_trust O n9).ll; omega) (fun _ => rfl)
      (fun l y H1 e _ r => et_is (et_test (ev_notInD (ed_var (i := 12) (v := y) rfl r) (ed_var (i := 8) (v := v8) rfl (DV.ext e r8)))) (by rw [decide_eq_decide]))
      (fun l y H1 e m r _ => ed_sorted (ed_cat (ed_var (i := 12) (v := y) rfl r) (ed_lst (eda_cons (ed_var (i := 2) (v := .str x) (x := x) rfl rfl) eda_nil) (by simp)) (by have h := (lts_trust O n9).l l m; simp; omega)))
    have eAg := ed_cat (ed_var (i := 8) (v := v8) (σ := sg (some (.ref p)) (some v) (some (.str x)) (some u) (some w) (some (.ref dd)) (some (.ref D)) (some (.ref pT)) (some v8) none) rfl r8) lc (by
      have h1 := (lts_fall O n9).ll
      have h2 := (lts_trust O n9).ll
      have h3 := List.length_filter_le (fun l : List Str => decide (l ∉ fall x F.2)) (leastOf (trust x F.2))
      rw [List.length_map]
      show (fall x F.2).length + _ ≤ _
      have h1' : (fall x F.2).length ≤ 1000 := h1
      have h2' : (leastOf (trust x F.2)).length ≤ 1000 := h2
      omega)
    refine b_asg (σ := sg (some (.ref p)) (some v) (some (.str x)) (some u) (some w) (some (.ref dd)) (some (.ref D)) (some (.ref pT)) (some v8) none) B20 eAg fun v9 A9 H21 B21 x9 r9 => ?_
    have fin := ev_same (d := 9) (E := E0) (ed_sorted (ed_var (i := 9) (v := v9) (σ := sg (some (.ref p)) (some v) (some (.str x)) (some u) (some w) (some (.ref dd)) (some (.ref D)) (some (.ref pT)) (some v8) (some v9)) rfl r9)) (ed_snd (K := K) (ed_var (i := 1) (v := v) rfl (DV.ext (x8.trans x9) v3))) (again_eq O) ⟨by
        show (srt (againOf F x)).length ≤ 1000
        rw [again_eq O]
        exact hl, fun l m => ⟨by
        have m' : l ∈ srt (againOf F x) := m
        rw [again_eq O] at m'
        have := hl2 l m'
        omega, fun _ _ => True.intro⟩⟩ (by decide)
    exact fin H21 B21.h _ fun H22 e22 => end_ H22 (B21.e.trans e22)
end
end K07
/-! text E26 -/
set_option Elab.async false
set_option linter.all false
set_option maxRecDepth 100000
set_option maxHeartbeats 8000000
/-! two keepers one behind the other: plain, and within the try -/
namespace K07
open PySem PySem.Spec PyProof.Rows L2 Evl PySem.W Dw Dw.DV RZ StX Lot LmV LamX NdefX XvC KwX
/-! ### plain -/
/-- false: fallen, true: trusted -/
def noB (b : Bool) (F : FamT) (x : Str) : Prop := if b = true then [] ∈ trust x F.2 else fall x F.2 = []
def resB (b : Bool) (F : FamT) (x : Str) : FamT := (drop1 x F.1, if b = true then leastOf (trust x F.2) else fall x F.2)
theorem resB_good {b : Bool} {F : FamT} {x : Str} (g : GoodF goodName F) (h2 : 2 ≤ F.1.length) (n : ¬ noB b F x) : GoodF goodName (resB b F x) := by
  have s : Sm F.1 F.2.length F := ⟨rfl, g, Nat.le_refl _⟩
  cases b
  · exact (fall_sm s h2 x n).g
  · exact (trust_sm s h2 x n).g
theorem drop_comm {α : Type} [DecidableEq α] (x y : α) (l : List α) : drop1 x (drop1 y l) = drop1 y (drop1 x l) := by
  unfold drop1
  rw [List.filter_filter, List.filter_filter]
  exact List.filter_congr fun z _ => Bool.and_comm _ _
theorem fall_comm (x y : Str) (L : List (List Str)) : fall x (fall y L) = fall y (fall x L) := by
  unfold fall
  rw [List.filter_filter, List.filter_filter]
  exact List.filter_congr fun z _ => Bool.and_comm _ _
theorem trust_comm (x y : Str) (L : List (List Str)) : trust x (trust y L) = trust y (trust x L) := by
  unfold trust
  rw [List.map_map, List.map_map]
  exact List.map_congr_left fun l _ => drop_comm x y l
theorem least_asc {L : List (List Str)} (h : ∀ l ∈ L, Asc sl l) : Min sl (leastOf L) L := least_min h
/-- the least of the least ones less a keeper: of all less the keeper -/
theorem least_trust {x : Str} {L : List (List Str)} (h : ∀ l ∈ L, Asc sl l) : leastOf (trust x (leastOf L)) = leastOf (trust x L) := by
  have m0 := least_asc h
  have a1 : ∀ l ∈ leastOf L, Asc sl l := fun l m => h l (leastOf_mem m)
  have m1 := least_asc (trust_asc (n := x) a1)
  have m2 := least_asc (trust_asc (n := x) h)
  refine Min.eq_of_cof sl_tot m1 m2 (trust_asc a1) (trust_asc h) (trust_cof fun b hb => ?_) fun b hb => ?_
  · exact m0.cof sl_tot h b hb
  · obtain ⟨a, ha, rfl⟩ := mem_trust.mp hb
    exact ⟨_, mem_trust.mpr ⟨a, leastOf_mem ha, rfl⟩, fun _ h => h⟩
theorem least_fall {x y : Str} (ne : x ≠ y) {L : List (List Str)} (h : ∀ l ∈ L, Asc sl l) : leastOf (trust y (fall x L)) = fall x (leastOf (trust y L)) := by
  have a1 : ∀ l ∈ fall x L, Asc sl l := fun l m => h l (mem_fall.mp m).1
  have m1 := least_asc (trust_asc (n := y) a1)
  have m2 := least_asc (trust_asc (n := y) h)
  refine asc_ext (lex_tot sl_tot) m1.asc (List.Pairwise.filter _ m2.asc) fun u => ?_
  have back : ∀ {m : List Str}, x ∉ drop1 y m → x ∉ m := fun {m} hx hm => hx (mem_drop1.mpr ⟨hm, ne⟩)
  constructor
  · intro hu
    obtain ⟨h1, h2⟩ := (m1.mem u).mp hu
    obtain ⟨m, hm, rfl⟩ := mem_trust.mp h1
    obtain ⟨k1, k2⟩ := mem_fall.mp hm
    have xu : x ∉ drop1 y m := fun z => k2 (mem_drop1.mp z).1
    refine mem_fall.mpr ⟨(m2.mem _).mpr ⟨mem_trust.mpr ⟨m, k1, rfl⟩, fun s hs q => ?_⟩, xu⟩
    obtain ⟨m', h', rfl⟩ := mem_trust.mp hs
    exact h2 _ (mem_trust.mpr ⟨m', mem_fall.mpr ⟨h', back fun z => xu (q z)⟩, rfl⟩) q
  · intro hu
    obtain ⟨h1, xu⟩ := mem_fall.mp hu
    obtain ⟨h2, h3⟩ := (m2.mem u).mp h1
    obtain ⟨m, hm, rfl⟩ := mem_trust.mp h2
    refine (m1.mem _).mpr ⟨mem_trust.mpr ⟨m, mem_fall.mpr ⟨hm, back xu⟩, rfl⟩, fun s hs q => ?_⟩
    obtain ⟨m', h', rfl⟩ := mem_trust.mp hs
    exact h3 _ (mem_trust.mpr ⟨m', (mem_fall.mp h').1, rfl⟩) q
/-- either way about -/
theorem ways_same {b b' : Bool} (hb : (b, b') ∈ [(false, false), (true, true), (false, true)]) {F : FamT} {x y : Str} (ne : x ≠ y) (g : GoodF goodName F) : resB b' (resB b F x) y = resB b (resB b' F y) x := by
  have asc : ∀ l ∈ F.2, Asc sl l := fun l m => (g.lots l m).asc
  have e1 : drop1 y (drop1 x F.1) = drop1 x (drop1 y F.1) := drop_comm y x F.1
  rcases List.mem_cons.mp hb with e | hb
  · cases e
    exact Prod.ext e1 (fall_comm y x F.2)
  rcases List.mem_cons.mp hb with e | hb
  · cases e
    refine Prod.ext e1 ?_
    show leastOf (trust y (leastOf (trust x F.2))) = leastOf (trust x (leastOf (trust y F.2)))
    rw [least_trust (trust_asc asc), least_trust (trust_asc asc), trust_comm]
  · cases List.mem_singleton.mp hb
    exact Prod.ext e1 (least_fall ne asc)
open Classical in
noncomputable def wayOf (b b' : Bool) (F : FamT) (x y : Str) : Ans := if noB b F x then ("none", none) else if noB b' (resB b F x) y then ("none", none) else ("told", some (resB b' (resB b F x) y))
/-! ### within the try -/
def spB (T : List (Addr × Str)) (c : Nat → Addr) (b : Bool) : Sp := if b = true then spTrustL T (c 9) (c 10) else spFallL (c 9) (c 10)
section
variable {T : List (Addr × Str)} {c : Nat → Addr} {H H1 A1 : Hp} {F : FamT} {x y : Str} {v : V} {Q : VK} {E : XK}
theorem sp_B {b : Bool} (e : Ex A1 H1) (t : Tabs T H1) (h : FmR F A1 v) (O : Kpr F x) (ne : F.1.length ≠ 1) (q1 : noB b F x → ∀ H', Ex H1 H' → E (.ref (c 10)) none H') (q2 : ¬ noB b F x → EndNT T H1 (FmW (resB b F x)) Q) : spB T c b [v, .str x] H1 Q E := by
  cases b
  · exact ⟨v, .str x, F, x, A1, rfl, e, h, rfl, O, fun z => absurd z ne, fun _ z => q1 z, fun _ z => EndNT.of t (q2 z)⟩
  · exact ⟨v, .str x, F, x, A1, rfl, e, t, h, rfl, O, fun z => absurd z ne, fun _ z => q1 z, fun _ z => q2 z⟩
/-- a call of one of two defs that a local name holds -/
def tCallB (i : Nat) (f0 f1 : Addr) (s0 s1 : Sp) (E : XK) (t : TA) : TE := fun σ H Q => tCallL i f0 s0 [] E t σ H Q ∨ tCallL i f1 s1 [] E t σ H Q
theorem pe_either {X : Cx} {e : Expr} {ta tb : TE} (a : PE X e ta) (b : PE X e tb) : PE X e (fun σ H Q => ta σ H Q ∨ tb σ H Q) := ⟨fun pins s σ H Q I h => h.elim (a.run pins s σ H Q I) (b.run pins s σ H Q I)⟩
theorem two_told (l : Lt T H H1) (e : Ex A1 H1) (h : FmR F A1 v) (O : Kpr F x) (O' : y ∈ F.1) (ne : x ≠ y) (h3 : 3 ≤ F.1.length) {b b' : Bool} (q : EndA T H (wayOf b b' F x y) Q) {k : VK} (hk : ∀ u H2, spB T c b' [u, .str y] H2 (kTold "told" Q) (EMet c Q) → k u H2) :
    spB T c b [v, .str x] H1 k (EMet c Q) := by
  refine sp_B e l.t h O (by omega) (fun z H' e' => ?_) fun z => ?_
  · rw [show wayOf b b' F x y = (((("none" : Str), (none : Option FamT))) : Ans) from if_pos z] at q
    exact .inr (.inr (.inr ⟨rfl, none_told (l.go e') q⟩))
  · intro u H2 Hs L l2 s o r n d
    have g1 := resB_good (b := b) O.g (by omega) z
    have len1 := drop_len1 O
    have my : y ∈ (resB b F x).1 := mem_drop1.mpr ⟨O', fun z => ne z.symm⟩
    have nl : (resB b F x).1.length ≠ 1 := by
      show (drop1 x F.1).length ≠ 1
      omega
    refine hk _ _ ?_
    refine sp_B (b := b') (F := resB b F x) (x := y) s l2.t (fmR_of (fmW_rep r)) ⟨g1, my⟩ nl (fun z' H' e' => ?_) fun z' => ?_
    · rw [show wayOf b b' F x y = (((("none" : Str), (none : Option FamT))) : Ans) from (if_neg z).trans (if_pos z')] at q
      exact .inr (.inr (.inr ⟨rfl, none_told ((l.trans l2).go e') q⟩))
    · rw [show wayOf b b' F x y = (((("told" : Str), some (resB b' (resB b F x) y))) : Ans) from (if_neg z).trans (if_neg z')] at q
      intro u3 H3 Hs3 L3 l3 s3 o3 r3 n3 d3
      exact told_of (Hs := Hs3) (L := L3) q ((l.trans l2).trans l3) s3 (fun b x h => exf (nt_mono (l.trans l2).n) (o3 b x h)) rfl (fun H4 e4 => fmW_mon _ _ _ _ _ e4 r3) n3 d3
theorem callB2 {σ : L2.St} {i : Nat} {f0 f1 : Addr} {b : Bool} {ta tb : TE} (hσ : σ[i]? = some (some (.ref (if b = true then f1 else f0)))) (h : ta σ H fun u H1 => tb σ H1 fun w H2 => spB T c b [u, w] H2 Q E) : tCallB i f0 f1 (spB T c false) (spB T c true) E (tCons ta (tCons tb tNil)) σ H Q := by
  cases b
  · exact .inl ⟨hσ, h⟩
  · exact .inr ⟨hσ, h⟩
theorem way_told {b b' : Bool} {F : FamT} {x y : Str} (h : (wayOf b b' F x y).1 = "told") : ¬ noB b F x ∧ ¬ noB b' (resB b F x) y ∧ wayOf b b' F x y = (((("told" : Str), some (resB b' (resB b F x) y))) : Ans) := by
  unfold wayOf at h ⊢
  split at h
  · exact absurd h (by decide)
  · rename_i h1
    split at h
    · exact absurd h (by decide)
    · rename_i h2
      exact ⟨h1, h2, by rw [if_neg h1, if_neg h2]⟩
end
end K07
/-! text E27 -/
set_option Elab.async false
set_option linter.all false
set_option maxRecDepth 100000
set_option maxHeartbeats 8000000
/-! _law_two_right -/
namespace K07
open PySem PySem.Spec PyProof.Rows L2 Evl PySem.W Dw Dw.DV RZ StX Lot LmV LamX NdefX XvC KwX
section
variable {P : Program} {w : World} {K : PySem.W.Frag} {mg : Str → Option Value} {base : Heap} {T : List (Addr × Str)} {fa : Nat → Addr} {da : Nat → FuncData} {c pt : Nat → Addr}
abbrev NTw : List Str := ["stream", "family", "one", "two", "pairs", "first", "second", "ways"]
theorem scTw : FnScope NTw ["stream", "family"] (defScope (top 58)) := ⟨rfl, rfl, rfl, by decide +kernel, rfl, by decide +kernel, by decide +kernel⟩
def spTw (T : List (Addr × Str)) : Sp := fun vs H Q _ => ∃ (p c0 : Addr) (n : Int) (v : V) (F : FamT) (A : Hp), vs = [.ref p, v] ∧ St H p c0 n ∧ n ≤ 800000 ∧ Ex A H ∧ NT A ∧ A p = none ∧ A c0 = none ∧ Tabs T H ∧ rep A v F ∧ GoodF goodName F ∧
  ∀ H', ExD p c0 H H' → Tabs T H' → St H' p c0 (n + 100) → Q (.bl true) H'
theorem ok_tw (W : Wd P w K mg base T fa da c pt) : FnOk P w K mg base CX0 11 (fa 58) (da 58) ["stream", "family"] (spTw T) := by
  have DC := W.d 48 "_law_copied" (by decide +kernel)
  have GC := ok_copied (P := P) (w := w) (base := base) DC.F DC.g W.b 8
  have bC : Binds K (da 48) ["thing"] [] := df_b1 DC (by intros; rfl)
  have DS := W.d 49 "_law_same" (by decide +kernel)
  have GS := ok_same (P := P) (w := w) (base := base) DS.F DS.g W.b 9
  have bS : Binds K (da 49) ["found", "due"] [] := df_b2 DS (by intros; rfl)
  have DM := W.d 47 "_law_mixed" (by decide +kernel)
  have DD := W.d 46 "_law_draw" (by decide +kernel)
  have GM : FnOk P w K mg base CX0 2 (fa 47) (da 47) ["stream", "some"] (spMixed K) := ok_mixed DM.F DD.F DD.g W.b.int W.b.list W.b.len W.b.range
  have bM : Binds K (da 47) ["stream", "some"] [] := df_b2 DM (by intros; rfl)
  have D1 := W.d 33 "fallen_family" (by decide +kernel)
  have G1 : FnOk P w K mg base (L2.CX P w) 6 (fa 33) (da 33) ["family", "keeper"] (spB T c false) := ok_fallL D1.F W.b W.fs (W.d 24 _ (by decide +kernel)) W.nl W.lk (W.d 30 _ (by decide +kernel)) (W.d 32 _ (by decide +kernel))
  have b1 : Binds K (da 33) ["family", "keeper"] [] := df_b2 D1 (by intros; rfl)
  have D2 := W.d 34 "trusted_family" (by decide +kernel)
  have G2 : FnOk P w K mg base (L2.CX P w) 6 (fa 34) (da 34) ["family", "keeper"] (spB T c true) := ok_trustL D2.F W.b W.fs (W.d 24 _ (by decide +kernel)) (W.d 25 _ (by decide +kernel)) W.le W.nl W.lk (W.d 30 _ (by decide +kernel)) (W.d 32 _ (by decide +kernel))
  have b2 : Binds K (da 34) ["family", "keeper"] [] := df_b2 D2 (by intros; rfl)
  obtain ⟨tb, tm, tu⟩ := W.tb 58 "_law_two_right.<locals>.<lambda>" (by decide +kernel)
  have B := W.b
  refine okC (W.d 58 "_law_two_right" (by decide +kernel)).F scTw (fun vs H Q E h => ?_) (fun cc A outer s H vs Q E hc hr h => ?_)
  · obtain ⟨p, c0, n, v, F, A0, rfl, _⟩ := h
    rfl
  · obtain ⟨p, c0, n, v, F, A0, rfl, hst, hn, eA, nA, Ap, Ac, tt, hv, g, q⟩ := h
    refine ⟨_, PSs.nox (pss_cons (ps_if (pt_cmpR op_lt (pe_callB call_len_seq (by rfl) B.len PySem.boot_len (pa_cons (pe_ix ix_tup (pv 1) pe_int (fun _ _ => rfl)) pa_nil)) pe_int (nomark _)) (pss_one (ps_ret pe_bl)) pss_nil)
      (pss_cons (ps_asg (pe_slice sl_list (pe_call GM (hr.mono (by decide)) (by rfl) DM.g DM.F.kp bM .nil pass0 (pa_cons (pv 0) (pa_cons (pe_ix ix_tup (pv 1) pe_int (fun _ _ => rfl)) pa_nil))) po_none (po_some pe_int)) (pg_unl (n := 2) rfl (pgs_cons (pg_name (i := 2) scTw.nd rfl (.inr rfl)) (pgs_cons (pg_name (i := 3) scTw.nd rfl (.inr rfl)) pgs_nil))))
      (pss_cons (ps_set (i := 4) scTw.nd rfl (.inl rfl) (pe_lst (pa_cons (pe_tup (pa_cons (pe_glob (v := .ref (fa 33)) (by rfl) D1.g rfl) (pa_cons (pe_glob (v := .ref (fa 33)) (by rfl) D1.g rfl) pa_nil))) (pa_cons (pe_tup (pa_cons (pe_glob (v := .ref (fa 34)) (by rfl) D2.g rfl) (pa_cons (pe_glob (v := .ref (fa 34)) (by rfl) D2.g rfl) pa_nil)))
        (pa_cons (pe_tup (pa_cons (pe_glob (v := .ref (fa 33)) (by rfl) D1.g rfl) (pa_cons (pe_glob (v := .ref (fa 34)) (by rfl) D2.g rfl) pa_nil))) pa_nil)))))
      (pss_cons (ps_for PassesOwn.never rfl (pi_list (pv 4)) (pg_tup (n := 2) rfl (pgs_cons (pg_name (i := 5) scTw.nd rfl (.inr rfl)) (pgs_cons (pg_name (i := 6) scTw.nd rfl (.inr rfl)) pgs_nil)))
        (pss_cons (ps_set (i := 7) scTw.nd rfl (.inl rfl) (pe_lst (pa_cons (pe_met (k := 8) (t := fun E => tCallB 6 (fa 33) (fa 34) (spB T c false) (spB T c true) E (tCons (tCallB 5 (fa 33) (fa 34) (spB T c false) (spB T c true) E (tCons (tCall (spC 8) [] E0 (tCons (tVar 1) tNil)) (tCons (tVar 2) tNil))) (tCons (tVar 3) tNil))) (defScope (top 58)) W (by rfl) (tb cc hc) rfl tm tu (hr.mono (by decide)) rfl (by decide +kernel) rfl (fun _ _ _ _ _ => rfl)
          (fun A outer s H E f c' hr2 => pe_either
            (pe_callL G1 (hr2.mono (by decide)) rfl (.inr (.inr rfl)) D1.F.kp b1 .nil (passes_call (takes_of rfl rfl rfl rfl) fun _ _ _ _ h => h) (pa_cons (pe_either (pe_callL G1 (hr2.mono (by decide)) rfl (.inr (.inr rfl)) D1.F.kp b1 .nil (passes_call (takes_of rfl rfl rfl rfl) fun _ _ _ _ h => h) (pa_cons (pe_call GC hr2 (by rfl) DC.g DC.F.kp bC .nil pass0 (pa_cons (pv 1) pa_nil)) (pa_cons (pv 2) pa_nil)))
              (pe_callL G2 (hr2.mono (by decide)) rfl (.inr (.inr rfl)) D2.F.kp b2 .nil (passes_call (takes_of rfl rfl rfl rfl) fun _ _ _ _ h => h) (pa_cons (pe_call GC hr2 (by rfl) DC.g DC.F.kp bC .nil pass0 (pa_cons (pv 1) pa_nil)) (pa_cons (pv 2) pa_nil)))) (pa_cons (pv 3) pa_nil)))
            (pe_callL G2 (hr2.mono (by decide)) rfl (.inr (.inr rfl)) D2.F.kp b2 .nil (passes_call (takes_of rfl rfl rfl rfl) fun _ _ _ _ h => h) (pa_cons (pe_either (pe_callL G1 (hr2.mono (by decide)) rfl (.inr (.inr rfl)) D1.F.kp b1 .nil (passes_call (takes_of rfl rfl rfl rfl) fun _ _ _ _ h => h) (pa_cons (pe_call GC hr2 (by rfl) DC.g DC.F.kp bC .nil pass0 (pa_cons (pv 1) pa_nil)) (pa_cons (pv 2) pa_nil)))
              (pe_callL G2 (hr2.mono (by decide)) rfl (.inr (.inr rfl)) D2.F.kp b2 .nil (passes_call (takes_of rfl rfl rfl rfl) fun _ _ _ _ h => h) (pa_cons (pe_call GC hr2 (by rfl) DC.g DC.F.kp bC .nil pass0 (pa_cons (pv 1) pa_nil)) (pa_cons (pv 2) pa_nil)))) (pa_cons (pv 3) pa_nil))))) pa_nil)))
        (pss_cons (ps_expr (pe_bm PySem.F.plainAttrs_list PySem.F.slot_list_append PySem.F.type_list_append mt_append (pv 7) (pa_cons (pe_met (k := 8) (t := fun E => tCallB 5 (fa 33) (fa 34) (spB T c false) (spB T c true) E (tCons (tCallB 6 (fa 33) (fa 34) (spB T c false) (spB T c true) E (tCons (tCall (spC 8) [] E0 (tCons (tVar 1) tNil)) (tCons (tVar 3) tNil))) (tCons (tVar 2) tNil))) (defScope (top 58)) W (by rfl) (tb cc hc) rfl tm tu (hr.mono (by decide)) rfl (by decide +kernel) rfl (fun _ _ _ _ _ => rfl)
          (fun A outer s H E f c' hr2 => pe_either
            (pe_callL G1 (hr2.mono (by decide)) rfl (.inr (.inr rfl)) D1.F.kp b1 .nil (passes_call (takes_of rfl rfl rfl rfl) fun _ _ _ _ h => h) (pa_cons (pe_either (pe_callL G1 (hr2.mono (by decide)) rfl (.inr (.inr rfl)) D1.F.kp b1 .nil (passes_call (takes_of rfl rfl rfl rfl) fun _ _ _ _ h => h) (pa_cons (pe_call GC hr2 (by rfl) DC.g DC.F.kp bC .nil pass0 (pa_cons (pv 1) pa_nil)) (pa_cons (pv 3) pa_nil)))
              (pe_callL G2 (hr2.mono (by decide)) rfl (.inr (.inr rfl)) D2.F.kp b2 .nil (passes_call (takes_of rfl rfl rfl rfl) fun _ _ _ _ h => h) (pa_cons (pe_call GC hr2 (by rfl) DC.g DC.F.kp bC .nil pass0 (pa_cons (pv 1) pa_nil)) (pa_cons (pv 3) pa_nil)))) (pa_cons (pv 2) pa_nil)))
            (pe_callL G2 (hr2.mono (by decide)) rfl (.inr (.inr rfl)) D2.F.kp b2 .nil (passes_call (takes_of rfl rfl rfl rfl) fun _ _ _ _ h => h) (pa_cons (pe_either (pe_callL G1 (hr2.mono (by decide)) rfl (.inr (.inr rfl)) D1.F.kp b1 .nil (passes_call (takes_of rfl rfl rfl rfl) fun _ _ _ _ h => h) (pa_cons (pe_call GC hr2 (by rfl) DC.g DC.F.kp bC .nil pass0 (pa_cons (pv 1) pa_nil)) (pa_cons (pv 3) pa_nil)))
              (pe_callL G2 (hr2.mono (by decide)) rfl (.inr (.inr rfl)) D2.F.kp b2 .nil (passes_call (takes_of rfl rfl rfl rfl) fun _ _ _ _ h => h) (pa_cons (pe_call GC hr2 (by rfl) DC.g DC.F.kp bC .nil pass0 (pa_cons (pv 1) pa_nil)) (pa_cons (pv 3) pa_nil)))) (pa_cons (pv 2) pa_nil))))) pa_nil)))
        (pss_one (ps_if (pw_and (pt_cmpR op_eq (pe_ix ix_tup (pe_ix ix_list (pv 7) pe_int (fun _ _ => rfl)) pe_int (fun _ _ => rfl)) pe_str (nomark _)) (pw_and (pt_cmpR op_eq (pe_ix ix_tup (pe_ix ix_list (pv 7) pe_int (fun _ _ => rfl)) pe_int (fun _ _ => rfl)) pe_str (nomark _))
          (pw_and1 (pt_not (pt_val (pe_call GS (hr.mono (by decide)) (by rfl) DS.g DS.F.kp bS .nil pass0 (pa_cons (pe_ix ix_list (pv 7) pe_int (fun _ _ => rfl)) (pa_cons (pe_ix ix_list (pv 7) pe_int (fun _ _ => rfl)) pa_nil)))))))).pt pss_never pss_nil)))))
      (pss_one (ps_ret pe_bl)))))), ?_⟩
    have end_ : ∀ H', ExD p c0 H H' → Tabs T H' → St H' p c0 (n + 40) → Q (.bl true) H' := fun H' x t s => q H' x t (s.up (by omega))
    have end0 : ∀ H', Ex H H' → Q (.bl true) H' := fun H' e => by
      obtain ⟨o1, hp⟩ := hst.p
      obtain ⟨o2, hc2⟩ := hst.c
      exact end_ H' (fun b o _ h _ => e _ _ h) (tt.ext e) (hst.ext ((e _ _ hp).trans hp.symm) ((e _ _ hc2).trans hc2.symm) (by omega))
    have e0 : EvD (tVar 1) [some (.ref p), some v, none, none, none, none, none, none] A0 F := ed_var rfl hv
    have kl := g.ks.len
    refine b_seqIf (σ := [some (.ref p), some v, none, none, none, none, none, none]) (Bs.start eA) (et_test (ev_op (ev_lenD (ed_fst (K := K) e0)) ev_c (rv_I0 (g := fun i j => .bl (decide (i < j))) (i := (F.1.length : Int)) (j := 3)))) (fun z H1 B1 => end0 H1 B1.e) fun z H1 B1 => ?_
    have h3 : 3 ≤ F.1.length := by
      have := of_decide_eq_false z
      omega
    obtain ⟨o1, hp⟩ := hst.p
    obtain ⟨o2, hc2⟩ := hst.c
    have st1 : St H1 p c0 n := hst.ext ((B1.e _ _ hp).trans hp.symm) ((B1.e _ _ hc2).trans hc2.symm) (Int.le_refl _)
    -- one, two
    have hv' := hv
    obtain ⟨a, v1, v2, rfl, ha, ⟨b, us, rfl, hb, hus⟩, _⟩ := hv'
    have eus := reps_str hus
    subst eus
    refine ⟨.ref p, rfl, .ref a, rfl, a, [.ref b, v2], 0, .ref b, rfl, rfl, st_of (B1.h _ _ ha), rfl, p, c0, b, F.1.map V.str, n, rfl, st1, sq_of (B1.h _ _ hb), by rw [List.length_map]; omega, by omega, fun ys qa H2 perm x2 s2 nq hq => ?_⟩
    obtain ⟨ns, pn, rn⟩ := reps_perm (α := Str) perm hus
    have ey := reps_str rn
    subst ey
    have ln : ns.length = F.1.length := pn.length_eq
    obtain ⟨y1, y2, r, rfl⟩ : ∃ y1 y2 r, ns = y1 :: y2 :: r := by
      match ns, ln with
      | [], e => simp at e; omega
      | [_], e => simp at e; omega
      | y1 :: y2 :: r, _ => exact ⟨y1, y2, r, rfl⟩
    have nd := pn.nodup_iff.mpr (g.ks.asc.nodup sl_tot)
    have ne : y1 ≠ y2 := fun e => (List.nodup_cons.mp nd).1 (e ▸ List.mem_cons_self)
    have m1 : y1 ∈ F.1 := pn.mem_iff.mp List.mem_cons_self
    have m2 : y2 ∈ F.1 := pn.mem_iff.mp (List.mem_cons_of_mem _ List.mem_cons_self)
    refine ⟨2, rfl, qa, _, rfl, sq_of hq, fun z nz => ?_⟩
    have ec : cutV ((y1 :: y2 :: r).map V.str) none (some 2) = [.str y1, .str y2] := by
      have e : cutV ((y1 :: y2 :: r).map V.str) none (some 2) = cutT ((y1 :: y2 :: r).map V.str) none (some 2) := rfl
      rw [e, cut_take _ _ (by decide) (by simp)]
      rfl
    rw [ec]
    refine ⟨z, [.str y1, .str y2], rfl, sq_of upd_same, rfl, .str y1, [.str y2], rfl, .str y2, [], rfl, rfl, ?_⟩
    have x3 : ExB [p, c0] H (upd H2 z (.lst [.str y1, .str y2])) := ((ExB.of B1.e).trans x2).trans (ExB.new nz)
    have s3 : St (upd H2 z (.lst [.str y1, .str y2])) p c0 (n + ((F.1.map V.str).length : Int)) := s2.new nz
    generalize upd H2 z (.lst [.str y1, .str y2]) = H3 at x3 s3
    -- pairs
    refine ⟨by show 2 ≤ sizeLine; decide, fun T1 nT1 => ⟨by show 2 ≤ sizeLine; decide, fun T2 nT2 => ⟨by show 2 ≤ sizeLine; decide, fun T3 nT3 => ⟨by show 3 ≤ sizeLine; decide, fun PL nPL => ?_⟩⟩⟩⟩
    have q1 := Ex.new (H := H3) (o := .tup [.ref (fa 33), .ref (fa 33)]) nT1
    have q2 := Ex.new (o := .tup [.ref (fa 34), .ref (fa 34)]) nT2
    have q3 := Ex.new (o := .tup [.ref (fa 33), .ref (fa 34)]) nT3
    have q4 := Ex.new (o := .lst [.ref T1, .ref T2, .ref T3]) nPL
    have w1 := q4 _ _ (q3 _ _ (q2 _ _ (upd_same (H := H3) (a := T1) (o := .tup [.ref (fa 33), .ref (fa 33)]))))
    have w2 := q4 _ _ (q3 _ _ (upd_same (a := T2) (o := .tup [.ref (fa 34), .ref (fa 34)])))
    have w3 := q4 _ _ (upd_same (a := T3) (o := .tup [.ref (fa 33), .ref (fa 34)]))
    have w4 := upd_same (H := upd (upd (upd H3 T1 (.tup [.ref (fa 33), .ref (fa 33)])) T2 (.tup [.ref (fa 34), .ref (fa 34)])) T3 (.tup [.ref (fa 33), .ref (fa 34)])) (a := PL) (o := .lst [.ref T1, .ref T2, .ref T3])
    have x4 := ((q1.trans q2).trans q3).trans q4
    have t3 : Tabs T H3 := tabs_exb tt hst x3
    generalize hH4 : upd (upd (upd (upd H3 T1 (.tup [.ref (fa 33), .ref (fa 33)])) T2 (.tup [.ref (fa 34), .ref (fa 34)])) T3 (.tup [.ref (fa 33), .ref (fa 34)])) PL (.lst [.ref T1, .ref T2, .ref T3]) = H4 at w1 w2 w3 w4 x4 ⊢
    clear hH4 q1 q2 q3 q4 nT1 nT2 nT3 nPL
    have t4 : Tabs T H4 := t3.ext x4
    have nl : ∀ {xs : List V} (ps : Array Value), HO.lst xs ≠ .tbl ps := fun _ z => by cases z
    have ntp : ∀ {xs : List V} (ps : Array Value), HO.tup xs ≠ .tbl ps := fun _ z => by cases z
    have nA4 : NT (nt H4) := nt_NT H4
    have e4 : Ex (nt H4) H4 := nt_sub
    have eA4 : Ex A0 (nt H4) := fun b o h => nt_mk (x4 _ _ (exb eA Ap Ac x3 b o h)) fun ps z => nA b ps (by rw [h, z])
    have v4 : rep (nt H4) (.ref a) F := DV.ext eA4 hv
    have u1 := nt_mk w1 (ntp (xs := _))
    have u2 := nt_mk w2 (ntp (xs := _))
    have u3 := nt_mk w3 (ntp (xs := _))
    have u4 := nt_mk w4 (nl (xs := _))
    have fin : ∀ H', Lt T H4 H' → Q (.bl true) H' := fun H' l => by
      obtain ⟨ne', cells, rest, cnt, mix, gp, gc, gl⟩ := s3
      have kl2 : ((F.1.map V.str).length : Int) ≤ 100 := by rw [List.length_map]; omega
      refine q H' (fun b o m h n' => l.n b o (x4 _ _ (x3 b o m h)) n') l.t ⟨ne', cells, rest, cnt, mix, l.n _ _ (x4 _ _ gp) nl, l.n _ _ (x4 _ _ gc) nl, gl.1, gl.2.1, gl.2.2.1, ?_, gl.2.2.2.2⟩
      have := gl.2.2.2.1
      omega
    generalize hA4 : nt H4 = A4 at nA4 e4 v4 u1 u2 u3 u4
    have body : ∀ (bb bb' : Bool), (bb, bb') ∈ [(false, false), (true, true), (false, true)] → ∀ (Tt : Addr), A4 Tt = some (.tup [.ref (if bb = true then fa 34 else fa 33), .ref (if bb' = true then fa 34 else fa 33)]) → ∀ (z5 z6 z7 : Option V) (H5 : Hp), Lt T H4 H5 → ∀ (D : Ends), (∀ z5 z6 z7 H6, Lt T H4 H6 → D.nx [some (.ref p), some (.ref a), some (.str y1), some (.str y2), some (.ref PL), z5, z6, z7] H6) →
        gTup K 2 (gCons (gName 5) (gCons (gName 6) gNil)) (.ref Tt) [some (.ref p), some (.ref a), some (.str y1), some (.str y2), some (.ref PL), z5, z6, z7] H5 fun σ2 H6 => (tSeq (tAsg (tLst (tCons (tLam T (TMet c) fun E => tCallB 6 (fa 33) (fa 34) (spB T c false) (spB T c true) E (tCons (tCallB 5 (fa 33) (fa 34) (spB T c false) (spB T c true) E (tCons (tCall (spC 8) [] E0 (tCons (tVar 1) tNil)) (tCons (tVar 2) tNil))) (tCons (tVar 3) tNil))) tNil)) (gName 7))
          (tSeq (tDrop (tBM K "list" rAppend (tVar 7) (tCons (tLam T (TMet c) fun E => tCallB 5 (fa 33) (fa 34) (spB T c false) (spB T c true) E (tCons (tCallB 6 (fa 33) (fa 34) (spB T c false) (spB T c true) E (tCons (tCall (spC 8) [] E0 (tCons (tVar 1) tNil)) (tCons (tVar 3) tNil))) (tCons (tVar 2) tNil))) tNil)))
          (tIfS (tAnd (tTest (tOp rEq (tOp (rIxT K) (tOp (rIxL K) (tVar 7) (tC (.int 0))) (tC (.int 0))) (tC (.str "told")))) (tAnd (tTest (tOp rEq (tOp (rIxT K) (tOp (rIxL K) (tVar 7) (tC (.int 1))) (tC (.int 0))) (tC (.str "told")))) (tNot (tB (tCall (spS 9) [] E0 (tCons (tOp (rIxL K) (tVar 7) (tC (.int 0))) (tCons (tOp (rIxL K) (tVar 7) (tC (.int 1))) tNil))))))) tNever tNext))) D σ2 H6 := by
      intro bb bb' hbb Tt hT z5 z6 z7 H5 l5 D nx
      have e5 : Ex A4 H5 := nA4.ex e4 l5.n
      refine ⟨Tt, _, rfl, .inl (.inl (e5 _ _ hT)), rfl, _, [_], rfl, _, [], rfl, rfl, ?_⟩
      have twF : Tw A4 A4 8 (.ref a) (.ref a) := (DVT.tw (good_sm g) v4 v4).ups (by decide)
      refine ⟨l5.t, fun H6 n6 t6 => ?_⟩
      have y6 : Ex A4 H6 := nA4.ex e5 n6
      refine callB2 (b := bb') (i := 6) rfl ?_
      refine callB2 (b := bb) (i := 5) rfl ?_
      refine ⟨.ref a, rfl, .ref a, A4, rfl, y6, twF, fun v' H7 Hs7 e7 s7 o7 tw7 => ⟨.str y1, rfl, ?_⟩⟩
      refine two_told (T := T) (H := H5) (b := bb) (b' := bb') (x := y1) (y := y2) ⟨n6.trans (ExtN.of e7), t6.ext e7⟩ s7 (fmR_of (DVT.cp v4 tw7)) ⟨g, m1⟩ m2 ne h3 (fun w1' H8 Hs8 L8 l8 e8 o8 a8 nd8 dm8 => ?_) fun u H8 h => ⟨.str y2, rfl, h⟩
      refine ⟨by show 1 ≤ sizeLine; decide, fun D1 nD1 => ?_⟩
      have l9 : Lt T H4 (upd H8 D1 (.lst [w1'])) := (l5.trans l8).go (Ex.new nD1)
      have hD1 : (upd H8 D1 (.lst [w1'])) D1 = some (.lst [w1']) := upd_same
      have nD4 : nt H4 D1 = none := exf (nt_ex (Ex.refl H4) (l5.trans l8).n) nD1
      have g8 : rep Hs8 w1' (wayOf bb bb' F y1 y2) := ansW_rep a8
      have x8 : Ex Hs8 (upd H8 D1 (.lst [w1'])) := e8.trans (Ex.new nD1)
      have D8 : Hs8 D1 = none := exf e8 nD1
      show tSeq (tDrop (tBM K "list" rAppend (tVar 7) (tCons (tLam T (TMet c) _) tNil))) _ _ [some (.ref p), some (.ref a), some (.str y1), some (.str y2), some (.ref PL), some (.ref (if bb = true then fa 34 else fa 33)), some (.ref (if bb' = true then fa 34 else fa 33)), some (.ref D1)] (upd H8 D1 (.lst [w1']))
      generalize upd H8 D1 (.lst [w1']) = H9 at l9 hD1 x8
      clear l8 nD1 e8 a8
      refine ⟨.ref D1, rfl, .inl ⟨rfl, _, sq_of hD1⟩, ?_⟩
      refine ⟨l9.t, fun H10 n10 t10 => ?_⟩
      have y10 : Ex A4 H10 := nA4.ex (nA4.ex e4 l9.n) n10
      refine callB2 (b := bb) (i := 5) rfl ?_
      refine callB2 (b := bb') (i := 6) rfl ?_
      refine ⟨.ref a, rfl, .ref a, A4, rfl, y10, twF, fun v'' H11 Hs11 e11 s11 o11 tw11 => ⟨.str y2, rfl, ?_⟩⟩
      refine two_told (T := T) (H := H9) (b := bb') (b' := bb) (x := y2) (y := y1) ⟨n10.trans (ExtN.of e11), t10.ext e11⟩ s11 (fmR_of (DVT.cp v4 tw11)) ⟨g, m2⟩ m1 (Ne.symm ne) h3 (fun w2' H12 Hs12 L12 l12 e12 o12 a12 nd12 dm12 => ?_) fun u H8 h => ⟨.str y1, rfl, h⟩
      have hD12 : H12 D1 = some (.lst [w1']) := l12.n _ _ hD1 nl
      refine ⟨D1, [w1'], w2', rfl, rfl, hD12, by show 1 < sizeLine; decide, ?_⟩
      have l13 : Lt T H4 (upd H12 D1 (.lst ([w1'] ++ [w2']))) := (l9.trans l12).mut hD12 nD4
      -- the two ways
      have sub8 : Ex (nt Hs8) H12 := nt_ex x8 l12.n
      have D8' : (nt Hs8) D1 = none := exf nt_sub D8
      have sub8' : Ex (nt Hs8) (upd H12 D1 (.lst ([w1'] ++ [w2']))) := sub8.mut D8'
      have D12 : Hs12 D1 = none := by
        cases m : Hs12 D1 with
        | none => rfl
        | some o =>
          have k := o12 D1 o m
          rw [nt_mk hD1 nl] at k
          cases k
      have sub12 : Ex Hs12 (upd H12 D1 (.lst ([w1'] ++ [w2']))) := e12.mut D12
      have rw1 : rep (upd H12 D1 (.lst ([w1'] ++ [w2']))) w1' (wayOf bb bb' F y1 y2) := DV.ext sub8' (DVN.extN (nt_ext Hs8) g8)
      have rw2 : rep (upd H12 D1 (.lst ([w1'] ++ [w2']))) w2' (wayOf bb' bb F y2 y1) := DV.ext sub12 (ansW_rep a12)
      have rD : rep (upd H12 D1 (.lst ([w1'] ++ [w2']))) (.ref D1) [wayOf bb bb' F y1 y2, wayOf bb' bb F y2 y1] := ⟨D1, [w1', w2'], rfl, upd_same, .cons rw1 (.cons rw2 .nil)⟩
      generalize upd H12 D1 (.lst ([w1'] ++ [w2'])) = H13 at l13 rD ⊢
      have eW : EvD (tVar 7) [some (.ref p), some (.ref a), some (.str y1), some (.str y2), some (.ref PL), some (.ref (if bb = true then fa 34 else fa 33)), some (.ref (if bb' = true then fa 34 else fa 33)), some (.ref D1)] H13 [wayOf bb bb' F y1 y2, wayOf bb' bb F y2 y1] := ed_var rfl rD
      have i0 := ed_ixL (K := K) (i := 0) (x := wayOf bb bb' F y1 y2) eW ev_c rfl
      have i1 := ed_ixL (K := K) (i := 1) (x := wayOf bb' bb F y2 y1) eW ev_c rfl
      have c0' := et_test (ev_op (ev_str (ed_fst (K := K) i0)) (ev_c (v := .str "told")) (rv_eq rfl))
      have c1' := et_test (ev_op (ev_str (ed_fst (K := K) i1)) (ev_c (v := .str "told")) (rv_eq rfl))
      have both : ∀ {b1 : Bool}, b1 = decide (V.str (wayOf bb bb' F y1 y2).1 = V.str "told") → EvT (tAnd (tTest (tOp rEq (tOp (rIxT K) (tOp (rIxL K) (tVar 7) (tC (.int 0))) (tC (.int 0))) (tC (.str "told")))) (tAnd (tTest (tOp rEq (tOp (rIxT K) (tOp (rIxL K) (tVar 7) (tC (.int 1))) (tC (.int 0))) (tC (.str "told")))) (tNot (tB (tCall (spS 9) [] E0 (tCons (tOp (rIxL K) (tVar 7) (tC (.int 0))) (tCons (tOp (rIxL K) (tVar 7) (tC (.int 1))) tNil))))))) [some (.ref p), some (.ref a), some (.str y1), some (.str y2), some (.ref PL), some (.ref (if bb = true then fa 34 else fa 33)), some (.ref (if bb' = true then fa 34 else fa 33)), some (.ref D1)] H13 false := by
        intro b1 hb1
        by_cases p1 : V.str (wayOf bb bb' F y1 y2).1 = V.str "told"
        · by_cases p2 : V.str (wayOf bb' bb F y2 y1).1 = V.str "told"
          · obtain ⟨h1, h2, h3'⟩ := way_told (V.str.inj p1)
            obtain ⟨h4, h5, h6⟩ := way_told (V.str.inj p2)
            have same : wayOf bb bb' F y1 y2 = wayOf bb' bb F y2 y1 := by rw [h3', h6, ways_same hbb ne g]
            have g1 := resB_good (b := bb) g (by omega) h1
            have len1 := drop_len1 (F := F) (x := y1) ⟨g, m1⟩
            have l2 : 2 ≤ (resB bb F y1).1.length := by
              show 2 ≤ (drop1 y1 F.1).length
              omega
            have sm : DVT.sm (wayOf bb bb' F y1 y2) := by
              rw [h3']
              exact ⟨True.intro, fun G e => by
                cases e
                exact good_sm (resB_good (b := bb') g1 l2 h2)⟩
            have sv := et_not (et_B (ev_same (d := 9) (E := E0) i0 i1 same sm (by decide)))
            have k := et_and c0' fun _ => et_and c1' fun _ => sv
            rw [decide_eq_true p1, decide_eq_true p2] at k
            exact k
          · exact et_is (et_and c0' fun _ => et_and (b := false) c1' fun z => absurd (of_decide_eq_true z) p2) (by simp)
        · exact et_is (et_and (b := false) c0' fun z => absurd (of_decide_eq_true z) p1) (by simp)
      refine b_if (Bs.start (Ex.refl H13)) (both rfl) (fun z => by cases z) fun _ H14 B14 => nx _ _ _ H14 (l13.go B14.h)
    refine ⟨.ref PL, rfl, PL, rfl, ⟨_, sq_of w4⟩, ?_⟩
    refine for_list (xs := [.ref T1, .ref T2, .ref T3]) (fun i σ H' => (∃ z5 z6 z7, σ = [some (.ref p), some (.ref a), some (.str y1), some (.str y2), some (.ref PL), z5, z6, z7]) ∧ Lt T H4 H') ⟨⟨none, none, none, rfl⟩, Lt.of t4 (Ex.refl H4)⟩ (fun i σ H' _ hP => sq_of (hP.2.n _ _ w4 nl)) (fun i x σ H' hx hP => ?_) fun σ H' hP => fin H' hP.2
    obtain ⟨⟨z5, z6, z7, rfl⟩, l'⟩ := hP
    match i, hx with
    | 0, hx =>
      cases hx
      exact body false false (by decide) T1 u1 z5 z6 z7 H' l' _ fun z5 z6 z7 H6 l6 => ⟨⟨z5, z6, z7, rfl⟩, l6⟩
    | 1, hx =>
      cases hx
      exact body true true (by decide) T2 u2 z5 z6 z7 H' l' _ fun z5 z6 z7 H6 l6 => ⟨⟨z5, z6, z7, rfl⟩, l6⟩
    | 2, hx =>
      cases hx
      exact body false true (by decide) T3 u3 z5 z6 z7 H' l' _ fun z5 z6 z7 H6 l6 => ⟨⟨z5, z6, z7, rfl⟩, l6⟩
    | n + 3, hx => cases hx
end
end K07
/-! text E28 -/
set_option Elab.async false
set_option linter.all false
set_option maxRecDepth 100000
set_option maxHeartbeats 2000000
/-! a copy is of the kind of its original; what is no lot, no keepers -/
namespace K07
open PySem PySem.Spec PyProof.Rows L2 Evl PySem.W Dw Dw.DV RZ Lot
section
variable {A B : Hp} {v u : V} {d : Nat}
theorem flat_tw (t : Tw A B d v u) : (u = v ∧ atomV v = true) ∨ ∃ a b, v = .ref a ∧ u = .ref b := by
  cases d with
  | zero => exact t.elim
  | succ d =>
    rcases t with ⟨rfl, a⟩ | ⟨a, b, _, _, rfl, rfl, _⟩ | ⟨a, b, _, _, rfl, rfl, _⟩ | ⟨a, b, _, rfl, rfl, _⟩
    · exact .inl ⟨rfl, a⟩
    all_goals exact .inr ⟨a, b, rfl, rfl⟩
theorem kd_tw {t : String} (h : Kd A v t) (tw : Tw A B d v u) : Kd B u t := by
  cases d with
  | zero => exact tw.elim
  | succ d =>
    rcases tw with ⟨rfl, a⟩ | ⟨a, b, xs, ys, rfl, rfl, h1, h2, _⟩ | ⟨a, b, xs, ys, rfl, rfl, h1, h2, _⟩ | ⟨a, b, kvs, rfl, rfl, h1, h2, _⟩
    · cases h with
      | non => exact .non
      | bl b => exact .bl b
      | int i => exact .int i
      | str x => exact .str x
      | lst _ => cases a
      | tup _ => cases a
      | dct _ => cases a
    · cases h with
      | lst h => exact .lst h2
      | tup h =>
        rw [h1] at h
        cases h
      | dct h =>
        rw [h1] at h
        cases h
    · cases h with
      | lst h =>
        rw [h1] at h
        cases h
      | tup h => exact .tup h2
      | dct h =>
        rw [h1] at h
        cases h
    · cases h with
      | lst h =>
        rw [h1] at h
        cases h
      | tup h =>
        rw [h1] at h
        cases h
      | dct h => exact .dct h2
theorem any_tw (h : Any1 A v) (t : Tw A B d v u) : Any1 B u := ⟨h.1.imp fun _ k => kd_tw k t, by
  rcases flat_tw t with ⟨rfl, _⟩ | ⟨a, b, rfl, rfl⟩
  · exact h.2
  · exact True.intro⟩
theorem one_tw {ks : List Str} (t : Tw A B d v u) : oneV ks u = oneV ks v := by
  rcases flat_tw t with ⟨rfl, _⟩ | ⟨a, b, rfl, rfl⟩ <;> rfl
theorem nm_tw (t : Tw A B d v u) : nmV u = nmV v := by
  rcases flat_tw t with ⟨rfl, _⟩ | ⟨a, b, rfl, rfl⟩ <;> rfl
theorem str_tw (t : Tw A B d v u) : strOf u = strOf v := by
  rcases flat_tw t with ⟨rfl, _⟩ | ⟨a, b, rfl, rfl⟩ <;> rfl
theorem seq_tw {a : Addr} {us : List V} (h : SeqAt A a us) (t : Tw A B d (.ref a) u) : ∃ b ws d', u = .ref b ∧ SeqAt B b ws ∧ Paired (Tw A B d') us ws := by
  cases d with
  | zero => exact t.elim
  | succ d =>
    rcases t with ⟨_, z⟩ | ⟨a', b, xs, ys, e, rfl, h1, h2, _, h3⟩ | ⟨a', b, xs, ys, e, rfl, h1, h2, _, h3⟩ | ⟨a', b, kvs, e, rfl, h1, h2, _⟩
    · cases z
    · cases e
      rcases h with h | h
      · rw [h1] at h
        cases h
        exact ⟨b, ys, d, rfl, .inl h2, h3⟩
      · rw [h1] at h
        cases h
    · cases e
      rcases h with h | h
      · rw [h1] at h
        cases h
      · rw [h1] at h
        cases h
        exact ⟨b, ys, d, rfl, .inr h2, h3⟩
    · cases e
      rcases h with h | h
      · rw [h1] at h
        cases h
      · rw [h1] at h
        cases h
theorem pair_same {α : Type} {f : V → α} (hf : ∀ {v u : V}, Tw A B d v u → f u = f v) : ∀ {us ws : List V}, Paired (Tw A B d) us ws → ws.map f = us.map f
  | _, _, .nil => rfl
  | _, _, .cons t r => by rw [List.map_cons, List.map_cons, hf t, pair_same hf r]
theorem pair_right {α β : Type} {F : α → β → Prop} : ∀ {l : List α} {m : List β}, Paired F l m → ∀ b ∈ m, ∃ a ∈ l, F a b
  | _, _, .nil, _, h => by cases h
  | _, _, .cons t r, b, h => by
    rcases List.mem_cons.mp h with rfl | h
    · exact ⟨_, List.mem_cons_self, t⟩
    · obtain ⟨a, ha, k⟩ := pair_right r b h
      exact ⟨a, List.mem_cons_of_mem _ ha, k⟩
theorem all_map {p : V → Bool} (l : List V) : l.all p = (l.map p).all id := by
  rw [List.all_map]
  rfl
theorem sl_same {ks : List Str} {us ws : List V} (h : Paired (Tw A B d) us ws) : slL ks ws = slL ks us := by
  unfold slL
  have n : (ws ≠ []) = (us ≠ []) := by
    cases h with
    | nil => rfl
    | cons _ _ => simp
  rw [all_map, pair_same (f := oneV ks) one_tw h, ← all_map, pair_same (f := strOf) str_tw h, Paired.length h]
  simp only [n]
theorem kp_same {us ws : List V} (h : Paired (Tw A B d) us ws) : kpL ws = kpL us := by
  unfold kpL
  have n : (ws ≠ []) = (us ≠ []) := by
    cases h with
    | nil => rfl
    | cons _ _ => simp
  rw [all_map, pair_same (f := nmV) nm_tw h, ← all_map, pair_same (f := strOf) str_tw h]
  simp only [n]
theorem sl_tw {ks : List Str} {b : Bool} (h : SlB ks A v b) (t : Tw A B d v u) : SlB ks B u b := by
  rcases h with ⟨s, k, f, e⟩ | ⟨a, us, rfl, h1, h2, h3, h4⟩
  · exact .inl ⟨s, kd_tw k t, f, e⟩
  · obtain ⟨b', ws, d', rfl, k1, k2⟩ := seq_tw h1 t
    exact .inr ⟨b', ws, rfl, k1, fun x m => by
      obtain ⟨y, hy, k⟩ := pair_right k2 x m
      exact any_tw (h2 y hy) k, by rw [← Paired.length k2]; exact h3, by rw [h4, sl_same k2]⟩
theorem kp_tw {b : Bool} (h : KpB A v b) (t : Tw A B d v u) : KpB B u b := by
  rcases h with ⟨s, k, f, e⟩ | ⟨a, us, rfl, h1, h2, h3, h4⟩
  · exact .inl ⟨s, kd_tw k t, f, e⟩
  · obtain ⟨b', ws, d', rfl, k1, k2⟩ := seq_tw h1 t
    exact .inr ⟨b', ws, rfl, k1, fun x m => by
      obtain ⟨y, hy, k⟩ := pair_right k2 x m
      exact any_tw (h2 y hy) k, by rw [← Paired.length k2]; exact h3, by rw [h4, kp_same k2]⟩
end
theorem pair_sym {α β : Type} {F : α → β → Prop} {G : β → α → Prop} (h : ∀ a b, F a b → G b a) : ∀ {l : List α} {m : List β}, Paired F l m → Paired G m l
  | _, _, .nil => .nil
  | _, _, .cons t r => .cons (h _ _ t) (pair_sym h r)
theorem tw_sym {A B : Hp} : ∀ {d : Nat} {v u : V}, Tw A B d v u → Tw B A d u v
  | 0, _, _, h => h.elim
  | d + 1, v, u, h => by
    rcases h with ⟨rfl, a⟩ | ⟨a, b, xs, ys, rfl, rfl, h1, h2, h3, h4⟩ | ⟨a, b, xs, ys, rfl, rfl, h1, h2, h3, h4⟩ | ⟨a, b, kvs, rfl, rfl, h1, h2, h3, h4⟩
    · exact .inl ⟨rfl, a⟩
    · exact .inr (.inl ⟨b, a, ys, xs, rfl, rfl, h2, h1, by rw [← Paired.length h4]; exact h3, pair_sym (fun _ _ t => tw_sym t) h4⟩)
    · exact .inr (.inr (.inl ⟨b, a, ys, xs, rfl, rfl, h2, h1, by rw [← Paired.length h4]; exact h3, pair_sym (fun _ _ t => tw_sym t) h4⟩))
    · exact .inr (.inr (.inr ⟨b, a, kvs, rfl, rfl, h2, h1, h3, h4⟩))
/-! ### no lots -/
section
variable {A : Hp} {ks : List Str}
theorem sl_not {a : Addr} {us : List V} (h : SeqAt A a us) (an : ∀ u ∈ us, Any1 A u) (l : us.length ≤ 1000) (no : slL ks us = false) : SlB ks A (.ref a) false := .inr ⟨a, us, rfl, h, an, l, no.symm⟩
theorem sl_kind {v : V} {t : String} (k : Kd A v t) (f : isLB t = false) : SlB ks A v false := .inl ⟨t, k, f, rfl⟩
theorem slL_one {us : List V} {x : V} (m : x ∈ us) (no : oneV ks x = false) : slL ks us = false := by
  unfold slL
  rw [show us.all (oneV ks) = false from by
    rw [List.all_eq_false]
    exact ⟨x, m, by rw [no]; simp⟩]
  simp
theorem slL_nil : slL ks [] = false := by simp [slL]
theorem map_strOf (l : List Str) : (l.map V.str).map strOf = l := by
  rw [List.map_map]
  exact (List.map_congr_left fun x _ => rfl).trans (List.map_id l)
theorem slL_twice {l : List Str} {x : Str} (m : x ∈ l) : slL ks ((l ++ [x]).map V.str) = false := by
  unfold slL
  have h : (once (l ++ [x])).length ≤ l.length := sub_len (once_nodup _) fun y hy => by
    rcases List.mem_append.mp (mem_once.mp hy) with k | k
    · exact k
    · rw [List.mem_singleton.mp k]
      exact m
  rw [map_strOf, List.length_map, decide_eq_false (p := (once (l ++ [x])).length = (l ++ [x]).length) (by rw [List.length_append]; simp; omega)]
  simp
theorem take1_mem {l : List Str} (ne : l ≠ []) : ∃ x ∈ l, l.take 1 = [x] := by
  match l, ne with
  | x :: r, _ => exact ⟨x, List.mem_cons_self, rfl⟩
/-! ### no keepers -/
theorem kp_not {a : Addr} {us : List V} (h : SeqAt A a us) (an : ∀ u ∈ us, Any1 A u) (l : us.length ≤ 1000) (no : kpL us = false) : KpB A (.ref a) false := .inr ⟨a, us, rfl, h, an, l, no.symm⟩
theorem kp_kind {v : V} {t : String} (k : Kd A v t) (f : isLB t = false) : KpB A v false := .inl ⟨t, k, f, rfl⟩
theorem asc_last : ∀ (r : List Str) (x y : Str), ascB (x :: (r ++ [y])) = true → sl x y = true
  | [], x, y, h => by
    have h' : (sl x y && true) = true := h
    rw [Bool.and_true] at h'
    exact h'
  | z :: s, x, y, h => by
    have h' : (sl x z && ascB (z :: (s ++ [y]))) = true := h
    rw [Bool.and_eq_true] at h'
    exact sl_tot.tr _ _ _ h'.1 (asc_last s z y h'.2)
theorem kpL_twice {l : List Str} {x : Str} (e : l.take 1 = [x]) : kpL ((l ++ [x]).map V.str) = false := by
  match l, e with
  | y :: r, e =>
    have e' : y = x := by
      have := List.cons.inj e
      exact this.1
    subst e'
    unfold kpL
    have n : ascB ((((y :: r) ++ [y]).map V.str).map strOf) = false := by
      rw [map_strOf]
      cases h : ascB ((y :: r) ++ [y]) with
      | false => rfl
      | true =>
        have k := asc_last r y y h
        rw [sl_tot.ir] at k
        cases k
    rw [n]
    simp
end
/-! ### the law's own least lots, of lots as they come -/
theorem aLeast_srt {L : List (List Str)} (h : ∀ l ∈ L, l.Nodup) : aLeast L = leastOf (L.map srt) := by
  have asc : ∀ l ∈ L.map srt, Asc sl l := fun l m => by
    obtain ⟨x, hx, rfl⟩ := List.mem_map.mp m
    exact srt_ascS (h x hx)
  refine Min.uniq sl_tot (aLeast_min L) (least_min asc) fun x => ?_
  rw [aRows_mem, List.mem_map]
end K07
/-! text E29 -/
set_option Elab.async false
set_option linter.all false
set_option maxRecDepth 100000
set_option maxHeartbeats 4000000
/-! loops over odd things: what is no lots, no keepers -/
namespace K07
open PySem PySem.Spec PyProof.Rows L2 Evl PySem.W Dw Dw.DV RZ StX Lot LmV LamX NdefX XvC KwX
/-- stands whatever becomes of tables -/
def MonN (R : Hp → V → Prop) : Prop := ∀ H H' v, ExtN H H' → R H v → R H' v
theorem MonN.mon {R : Hp → V → Prop} (m : MonN R) : Mon R := fun H H' v e h => m H H' v (ExtN.of e) h
theorem kd_n {A A' : Hp} (e : ExtN A A') {v : V} {t : String} (h : Kd A v t) : Kd A' v t := by
  cases h with
  | non => exact .non
  | bl b => exact .bl b
  | int i => exact .int i
  | str x => exact .str x
  | lst h => exact .lst (e _ _ h fun _ z => by cases z)
  | tup h => exact .tup (e _ _ h fun _ z => by cases z)
  | dct h => exact .dct (e _ _ h fun _ z => by cases z)
theorem any_n {A A' : Hp} (e : ExtN A A') {v : V} (h : Any1 A v) : Any1 A' v := ⟨h.1.imp fun _ k => kd_n e k, h.2⟩
theorem sl_n {A A' : Hp} (e : ExtN A A') {ks : List Str} {v : V} {b : Bool} (h : SlB ks A v b) : SlB ks A' v b := by
  rcases h with ⟨s, k, f, r⟩ | ⟨a, us, rfl, h1, h2, h3, h4⟩
  · exact .inl ⟨s, kd_n e k, f, r⟩
  · exact .inr ⟨a, us, rfl, seqAt_n e h1, fun u m => any_n e (h2 u m), h3, h4⟩
theorem kp_n {A A' : Hp} (e : ExtN A A') {v : V} {b : Bool} (h : KpB A v b) : KpB A' v b := by
  rcases h with ⟨s, k, f, r⟩ | ⟨a, us, rfl, h1, h2, h3, h4⟩
  · exact .inl ⟨s, kd_n e k, f, r⟩
  · exact .inr ⟨a, us, rfl, seqAt_n e h1, fun u m => any_n e (h2 u m), h3, h4⟩
def AllV (R : Hp → V → Prop) (n : Nat) : Hp → List V → Prop := fun H vs => vs.length = n ∧ ∀ v ∈ vs, R H v
theorem allV_mon {R : Hp → V → Prop} {n : Nat} (m : Mon R) : Mon (AllV R n) := fun H H' vs e h => ⟨h.1, fun v x => m _ _ _ e (h.2 v x)⟩
/-- a tuple, its things being so -/
def TR (L : Hp → List V → Prop) : Hp → V → Prop := fun H v => ∃ p vs, v = .ref p ∧ H p = some (.tup vs) ∧ L H vs
section
variable {K : PySem.W.Frag} {σ : L2.St} {A H : Hp} {R R1 R2 : Hp → V → Prop} {L1 : Hp → List V → Prop} {te ta tb : TE} {tr : TA} {n : Nat}
theorem ear_nil : EvRA tNil σ A (AllV R 0) := fun H1 _ _ q => q [] H1 _ (Ex.refl H1) sup0 ⟨rfl, fun _ m => by cases m⟩
theorem ear_cons (h : EvR te σ A R) (hr : EvRA tr σ A (AllV R n)) (m : Mon R) : EvRA (tCons te tr) σ A (AllV R (n + 1)) := fun H1 e Q q => era_cons h hr m (allV_mon m) H1 e Q fun vs H2 Hs e2 s r => by
  obtain ⟨v, r', rfl, h1, h2⟩ := r
  refine q _ H2 Hs e2 s ⟨by rw [List.length_cons, h2.1], fun x mx => ?_⟩
  rcases List.mem_cons.mp mx with rfl | mx
  · exact h1
  · exact h2.2 x mx
theorem er_tup (h : EvRA tr σ A L1) (hl : ∀ H vs, L1 H vs → vs.length ≤ 100000) (m : Mon L1) : EvR (tTup tr) σ A (TR L1) := fun H1 e Q q => h H1 e _ fun vs H2 B e2 s r => by
  refine ⟨sz_of (hl _ _ r), fun p np => ?_⟩
  exact q _ _ (upd B p (.tup vs)) (e2.trans (Ex.new np)) (sup_new e2 s np) ⟨p, vs, rfl, upd_same, m _ _ _ (Ex.new (sup_no s np)) r⟩
theorem er_imp (h : EvR te σ A R1) (i : ∀ H v, R1 H v → R2 H v) : EvR te σ A R2 := fun H1 e Q q => h H1 e Q fun v H2 Hs e2 s r => q v H2 Hs e2 s (i _ _ r)
theorem er_c {v : V} (r : ∀ H, R1 H v) : EvR (tC v) σ A R1 := fun H1 e _ q => q v H1 (fun _ => none) (Ex.refl H1) sup0 (r _)
theorem er_dnew (r : ∀ H d, H d = some (.dK []) → R1 H (.ref d)) : EvR tDNewK σ A R1 := fun H1 e Q q d nd => q _ _ (upd (fun _ => none) d (.dK [])) (Ex.new nd) (sup_new (Ex.refl H1) sup0 nd) (r _ d upd_same)
theorem if_go2 {sp : Sp} {E : XK} {tu : TS} {D : Ends} (h : ta σ H fun y H1 => tb σ H1 fun z H2 => sp [y, z] H2 (fun r H3 => ∃ b, r = .bl b ∧ (if (!b) = true then tu D σ H3 else D.nx σ H3)) E) : tIfS (tNot (tB (tCall sp [] E (tCons ta (tCons tb tNil))))) tu tNext D σ H := h
variable {T : List (Addr × Str)} {D : Ends} {tz tl : TS} {i : Nat}
/-- for x in (a, b, ..): tables come and go -/
theorem b_oddFor0 (nA : NT A) (e : Ex A H) (t : Tabs T H) (h : EvR te σ A (TR (AllV R n))) (mR : MonN R) (I : L2.St → Prop) (hσ : I σ)
    (body : ∀ x σ' H1 H' A5, Ex H H1 → Tabs T H1 → Ex A A5 → NT A5 → Ex A5 H' → R A5 x → I σ' → Lt T H1 H' → ∀ D : Ends, (∀ σ2 H2, I σ2 → Lt T H1 H2 → D.nx σ2 H2) → tl D (σ'.set i (some x)) H')
    (k : ∀ σ' H', I σ' → Lt T H H' → D.nx σ' H') : tFor (iTup K te) (gName i) tl D σ H := by
  refine h H e _ fun v H1 Hs e1 s r => ?_
  obtain ⟨p, vs, rfl, hp, hl, hv⟩ := r
  have eN : Ex (nt Hs) H1 := nt_sub.trans s.e
  have n5 : NT (jn A (nt Hs)) := nA.jn (nt_NT Hs)
  have e5 : Ex (jn A (nt Hs)) H1 := jn_ex (e.trans e1) eN
  have x5 : ExtN Hs (jn A (nt Hs)) := fun b y h n => jn_r (e.trans e1) eN _ _ (nt_mk h n)
  refine ⟨p, rfl, ⟨vs, st_of (s.e _ _ hp)⟩, ?_⟩
  refine for_tup (xs := vs) (fun j σ' H' => I σ' ∧ Lt T H1 H') ⟨hσ, Lt.of (t.ext e1) (Ex.refl _)⟩ (fun j σ' H' _ q => st_of (q.2.n _ _ (s.e _ _ hp) (fun _ z => by cases z))) (fun j x σ' H' hx q => ?_) fun σ' H' q => k σ' H' q.1 ((Lt.of t e1).trans q.2)
  exact body x σ' H1 H' _ e1 (t.ext e1) jn_l n5 (n5.ex e5 q.2.n) (mR _ _ _ x5 (hv x (List.mem_of_getElem? hx))) q.1 q.2 _ fun σ2 H2 i2 l2 => ⟨i2, l2⟩
theorem b_oddFor (nA : NT A) (e : Ex A H) (t : Tabs T H) (h : EvR te σ A (TR (AllV R n))) (mR : MonN R) (I : L2.St → Prop) (hσ : I σ)
    (body : ∀ x σ' H1 H' A5, Ex H H1 → Tabs T H1 → Ex A A5 → NT A5 → Ex A5 H' → R A5 x → I σ' → Lt T H1 H' → ∀ D : Ends, (∀ σ2 H2, I σ2 → Lt T H1 H2 → D.nx σ2 H2) → tl D (σ'.set i (some x)) H')
    (k : ∀ σ' H', I σ' → Lt T H H' → tz D σ' H') : tSeq (tFor (iTup K te) (gName i) tl) tz D σ H := b_oddFor0 (D := { D with nx := tz D }) nA e t h mR I hσ body k
end
/-! ### refused -/
/-- what is no lots, and where -/
inductive BadL (ks : List Str) (A : Hp) : V → Int → Prop where
  | none {v : V} {t : String} (k : Kd A v t) (f : isLB t = false) : BadL ks A v 0
  | nil {a : Addr} (h : SeqAt A a []) : BadL ks A (.ref a) 0
  | bad {a : Addr} {us : List V} {n : Nat} (h : SeqAt A a us) (l : us.length ≤ 1000) (hn : n < us.length) (ok : ∀ i x, i < n → us[i]? = some x → SlB ks A x true) (no : ∀ x, us[n]? = some x → SlB ks A x false) : BadL ks A (.ref a) (n : Int)
theorem pat_right {α β : Type} {F : α → β → Prop} {l : List α} {m : List β} (h : Paired F l m) {i : Nat} {b : β} (hb : m[i]? = some b) : ∃ a, l[i]? = some a ∧ F a b := by
  obtain ⟨hi, _⟩ := List.getElem?_eq_some_iff.mp hb
  have hi' : i < l.length := by
    rw [Paired.length h]
    exact hi
  have ha : l[i]? = some l[i] := List.getElem?_eq_getElem hi'
  exact ⟨_, ha, pat h ha hb⟩
theorem BadL.tw {ks : List Str} {A B : Hp} {v u : V} {n : Int} {d : Nat} (h : BadL ks A v n) (t : Tw A B d v u) : BadL ks B u n := by
  cases h with
  | none k f => exact .none (kd_tw k t) f
  | nil h =>
    obtain ⟨b, ws, d', rfl, k1, k2⟩ := seq_tw h t
    cases k2
    exact .nil k1
  | bad h l hn ok no =>
    obtain ⟨b, ws, d', rfl, k1, k2⟩ := seq_tw h t
    refine .bad k1 (by rw [← Paired.length k2]; exact l) (by rw [← Paired.length k2]; exact hn) (fun i x hi hx => ?_) fun x hx => ?_
    · obtain ⟨y, hy, k⟩ := pat_right k2 hx
      exact sl_tw (ok i y hi hy) k
    · obtain ⟨y, hy, k⟩ := pat_right k2 hx
      exact sl_tw (no y hy) k
theorem BadL.lots {ks : List Str} {A H : Hp} {u : V} {n : Int} {E : XK} {CLo : Addr} {R : List (List Str) → Prop} (h : BadL ks A u n) (q : Rz CLo "index" (.int n) H E) : LotsB ks A H u E CLo R := by
  cases h with
  | none k f => exact .none k f q
  | nil h => exact .nil rfl h q
  | bad h l hn ok no => exact .bad rfl h l hn ok no q
section
variable {T : List (Addr × Str)} {c : Nat → Addr} {σ : L2.St} {A H : Hp} {kv mv : V} {ks : List Str} {i : Nat} {Q : VK}
theorem strs_tw {A B : Hp} {v u : V} {l : List Str} (hl : l.length ≤ 1000) (h : rep A v l) (h' : rep B u l) {d : Nat} (hd : 2 ≤ d) : Tw A B d v u := (DVT.tw (show DVT.sm l from ⟨hl, fun _ _ => True.intro⟩) h h').ups hd
/-- family_of is refused for its lots -/
theorem lots_no {n : Int} (hk : σ[2]? = some (some kv)) (hm : σ[i]? = some (some mv)) (nA : NT A) (e : Ex A H) (t : Tabs T H) (rk : rep A kv ks) (gk : GoodK goodName ks) (tw : Tw A A 8 mv mv) (b : BadL ks A mv n)
    (q : ∀ p H', Lt T H H' → H' p = some (.tup [.str "lots", .int n]) → Q (.ref p) H') : tLam T (TMet c) (fun E => tCall (spFamOf T (c 2) (c 4)) [] E (tCons (tCall (spC 8) [] E0 (tCons (tVar 2) tNil)) (tCons (tCall (spC 8) [] E0 (tCons (tVar i) tNil)) tNil))) σ H Q := by
  refine ⟨t, fun H1 n1 t1 => ?_⟩
  have y1 : Ex A H1 := nA.ex e n1
  have kl := gk.len
  refine ⟨kv, hk, kv, A, rfl, y1, strs_tw (by omega) rk rk (by decide), fun u1 H2 Hs1 e2 s2 o2 tw1 => ?_⟩
  refine ⟨mv, hm, mv, A, rfl, y1.trans e2, tw, fun u2 H3 Hs2 e3 s3 o3 tw2 => ?_⟩
  have j2 : Ex Hs1 H3 := s2.trans e3
  refine ⟨u1, u2, jn Hs1 Hs2, rfl, jn_ex j2 s3, t1.ext (e2.trans e3), .inr ⟨ks, lsR_of (DV.ext jn_l (DVT.cp rk tw1)), gk, (b.tw (Tw.ext (Ex.refl _) (jn_r j2 s3) tw2)).lots fun d H4 e4 nd hd => ?_⟩⟩
  refine .inr (.inl ⟨rfl, d, _, _, rfl, hd, rfl, by show 2 ≤ sizeLine; decide, fun p np => ?_⟩)
  have x : Ex H1 (upd H4 p (.tup [.str "lots", .int n])) := ((e2.trans e3).trans e4).trans (Ex.new np)
  exact q p _ ⟨n1.trans (ExtN.of x), t1.ext x⟩ upd_same
/-- family_of is refused for its keepers -/
theorem keeps_no (hm : σ[i]? = some (some mv)) (nA : NT A) (e : Ex A H) (t : Tabs T H) (tw : Tw A A 8 mv mv) (b : KpB A mv false)
    (q : ∀ u p Hs H', Lt T H H' → Ex Hs H' → Tw A Hs 8 mv u → H' p = some (.tup [.str "keepers", u]) → Q (.ref p) H') : tLam T (TMet c) (fun E => tCall (spFamOf T (c 2) (c 4)) [] E (tCons (tCall (spC 8) [] E0 (tCons (tVar i) tNil)) (tCons (tUn (rU fun i => .int (-i)) (tC (.int 1))) tNil))) σ H Q := by
  refine ⟨t, fun H1 n1 t1 => ?_⟩
  have y1 : Ex A H1 := nA.ex e n1
  refine ⟨mv, hm, mv, A, rfl, y1, tw, fun u1 H2 Hs1 e2 s2 o2 tw1 => ⟨1, rfl, ?_⟩⟩
  refine ⟨u1, .int (-1), Hs1, rfl, s2, t1.ext e2, .inl ⟨kp_tw b tw1, fun d H4 e4 nd hd => ?_⟩⟩
  refine .inl ⟨rfl, d, _, _, rfl, hd, rfl, by show 2 ≤ sizeLine; decide, fun p np => ?_⟩
  have x : Ex H2 (upd H4 p (.tup [.str "keepers", u1])) := e4.trans (Ex.new np)
  exact q u1 p Hs1 _ ⟨n1.trans (ExtN.of (e2.trans x)), t1.ext (e2.trans x)⟩ (s2.trans x) tw1 upd_same
end
end K07
/-! text E31 -/
set_option Elab.async false
set_option linter.all false
set_option maxRecDepth 100000
set_option maxHeartbeats 4000000
/-! the odd things of least_right, and its loops over them -/
namespace K07
open PySem PySem.Spec PyProof.Rows L2 Evl PySem.W Dw Dw.DV RZ StX Lot LmV LamX NdefX XvC KwX
/-- no lot -/
def OdL (ks : List Str) (H : Hp) (v : V) : Prop := SlB ks H v false ∧ Tw H H 7 v v
/-- no lots at all -/
def OdN (ks : List Str) (H : Hp) (v : V) : Prop := BadL ks H v 0 ∧ Tw H H 7 v v
/-- no keepers -/
def OdK (H : Hp) (v : V) : Prop := KpB H v false ∧ Tw H H 7 v v
theorem bad_n {ks : List Str} {A A' : Hp} (e : ExtN A A') {v : V} {n : Int} (h : BadL ks A v n) : BadL ks A' v n := by
  cases h with
  | none k f => exact .none (kd_n e k) f
  | nil h => exact .nil (seqAt_n e h)
  | bad h l hn ok no => exact .bad (seqAt_n e h) l hn (fun i x hi hx => sl_n e (ok i x hi hx)) fun x hx => sl_n e (no x hx)
theorem odL_n {ks : List Str} : MonN (OdL ks) := fun _ _ _ e h => ⟨sl_n e h.1, tw_n e e h.2⟩
theorem odN_n {ks : List Str} : MonN (OdN ks) := fun _ _ _ e h => ⟨bad_n e h.1, tw_n e e h.2⟩
theorem odK_n : MonN OdK := fun _ _ _ e h => ⟨kp_n e h.1, tw_n e e h.2⟩
section
variable {ks : List Str} {H : Hp} {v : V} {d : Addr}
theorem any_str {x : Str} (h : x.length ≤ 100000) : Any1 H (.str x) := ⟨⟨_, .str x⟩, h⟩
theorem strs_at {l : List Str} (h : rep H v l) : ∃ a, v = .ref a ∧ H a = some (.lst (l.map V.str)) := by
  obtain ⟨a, us, rfl, h1, h2⟩ := h
  rw [reps_str h2] at h1
  exact ⟨a, rfl, h1⟩
theorem any_strs {l : List Str} (hx : ∀ x ∈ l, x.length ≤ 100000) : ∀ u ∈ l.map V.str, Any1 H u := fun u m => by
  obtain ⟨x, hx', rfl⟩ := List.mem_map.mp m
  exact any_str (hx x hx')
theorem dct_tw (h : H d = some (.dK [])) : Tw H H 7 (.ref d) (.ref d) := .inr (.inr (.inr ⟨d, d, [], rfl, rfl, h, h, by decide, by decide, .nil, fun _ m => by cases m⟩))
theorem odL_atom (a : atomV v = true) : OdL ks H v := by
  obtain ⟨t, k, f, _⟩ := atom_kd (H := H) a
  exact ⟨sl_kind k f, Tw.of_atom a⟩
theorem odL_dct (h : H d = some (.dK [])) : OdL ks H (.ref d) := ⟨sl_kind (.dct h) (by decide), dct_tw h⟩
theorem odL_strs {l : List Str} (h : rep H v l) (hl : l.length ≤ 1000) (hx : ∀ x ∈ l, x.length ≤ 100000) (no : slL ks (l.map V.str) = false) : OdL ks H v := by
  have tw := strs_tw hl h h (d := 7) (by decide)
  obtain ⟨a, rfl, h1⟩ := strs_at h
  exact ⟨sl_not (.inl h1) (any_strs hx) (by rw [List.length_map]; exact hl) no, tw⟩
theorem odL_lls {x : Str} (h : rep H v [[x]]) : OdL ks H v := by
  have tw : Tw H H 7 v v := (DVT.tw (show DVT.sm [[x]] from ⟨by simp, fun l m => ⟨by rw [List.mem_singleton.mp m]; simp, fun _ _ => True.intro⟩⟩) h h).ups (by decide)
  obtain ⟨a, us, rfl, h1, h2⟩ := h
  cases h2 with
  | cons k r =>
    cases r
    obtain ⟨b, us', rfl, k1, _⟩ := k
    exact ⟨sl_not (.inl h1) (fun u m => by rw [List.mem_singleton.mp m]; exact ⟨⟨_, .lst k1⟩, True.intro⟩) (by show 1 ≤ 1000; decide) (slL_one List.mem_cons_self rfl), tw⟩
theorem non_tw {a : Addr} (h : H a = some (.lst [.non])) : Tw H H 7 (.ref a) (.ref a) := .inr (.inl ⟨a, a, _, _, rfl, rfl, h, h, by show 1 ≤ 1000; decide, .cons (Tw.of_atom rfl) .nil⟩)
theorem odL_non (h : LR (ConsR (fun _ u => u = .non) NilR) H v) : OdL ks H v := by
  obtain ⟨a, vs, rfl, h1, x, r, rfl, rfl, h3⟩ := h
  have h3' : r = [] := h3
  subst h3'
  exact ⟨sl_not (.inl h1) (fun u m => by rw [List.mem_singleton.mp m]; exact ⟨⟨_, .non⟩, True.intro⟩) (by show 1 ≤ 1000; decide) (slL_one List.mem_cons_self rfl), non_tw h1⟩
theorem odN_atom (a : atomV v = true) : OdN ks H v := by
  obtain ⟨t, k, f, _⟩ := atom_kd (H := H) a
  exact ⟨.none k f, Tw.of_atom a⟩
theorem odN_dct (h : H d = some (.dK [])) : OdN ks H (.ref d) := ⟨.none (.dct h) (by decide), dct_tw h⟩
theorem odN_lst (h : rep H v ([] : List Str)) : OdN ks H v := by
  have tw := strs_tw (by decide) h h (d := 7) (by decide)
  obtain ⟨a, rfl, h1⟩ := strs_at h
  exact ⟨.nil (.inl h1), tw⟩
theorem tup0_tw {R : Hp → V → Prop} (h : TR (AllV R 0) H v) : ∃ a, v = .ref a ∧ H a = some (.tup []) ∧ Tw H H 7 v v := by
  obtain ⟨a, vs, rfl, h1, h2, _⟩ := h
  have e := List.eq_nil_of_length_eq_zero h2
  subst e
  exact ⟨a, rfl, h1, .inr (.inr (.inl ⟨a, a, [], [], rfl, rfl, h1, h1, by decide, .nil⟩))⟩
theorem odN_tup {R : Hp → V → Prop} (h : TR (AllV R 0) H v) : OdN ks H v := by
  obtain ⟨a, rfl, h1, tw⟩ := tup0_tw h
  exact ⟨.nil (.inr h1), tw⟩
theorem odK_atom (a : atomV v = true) : OdK H v := by
  obtain ⟨t, k, f, _⟩ := atom_kd (H := H) a
  exact ⟨kp_kind k f, Tw.of_atom a⟩
theorem odK_dct (h : H d = some (.dK [])) : OdK H (.ref d) := ⟨kp_kind (.dct h) (by decide), dct_tw h⟩
theorem odK_tup {R : Hp → V → Prop} (h : TR (AllV R 0) H v) : OdK H v := by
  obtain ⟨a, rfl, h1, tw⟩ := tup0_tw h
  exact ⟨kp_not (.inr h1) (fun u m => by cases m) (by decide) (by simp [kpL]), tw⟩
theorem odK_strs {l : List Str} (h : rep H v l) (hl : l.length ≤ 1000) (hx : ∀ x ∈ l, x.length ≤ 100000) (no : kpL (l.map V.str) = false) : OdK H v := by
  have tw := strs_tw hl h h (d := 7) (by decide)
  obtain ⟨a, rfl, h1⟩ := strs_at h
  exact ⟨kp_not (.inl h1) (any_strs hx) (by rw [List.length_map]; exact hl) no, tw⟩
theorem odK_non (h : LR (ConsR (fun _ u => u = .non) NilR) H v) : OdK H v := by
  obtain ⟨a, vs, rfl, h1, x, r, rfl, rfl, h3⟩ := h
  have h3' : r = [] := h3
  subst h3'
  exact ⟨kp_not (.inl h1) (fun u m => by rw [List.mem_singleton.mp m]; exact ⟨⟨_, .non⟩, True.intro⟩) (by show 1 ≤ 1000; decide) (by decide), non_tw h1⟩
end
section
variable {K : PySem.W.Frag} {σ : L2.St} {A : Hp} {ks l0 : List Str} {ls : List (List Str)} {kv lv : V}
theorem er_non1 {R : Hp → V → Prop} (h : ∀ H v, LR (ConsR (fun _ u => u = .non) NilR) H v → R H v) : EvR (tLst (tCons (tC .non) tNil)) σ A R := er_imp (er_lst (era_cons (er_c (R1 := fun _ u => u = .non) fun _ => rfl) era_nil (fun _ _ _ _ h => h) nil_mon) (fun H vs h => by
  obtain ⟨v, r, rfl, _, h2⟩ := h
  have h2' : r = [] := h2
  subst h2'
  show 1 ≤ 100000
  decide) (cons_mon (fun _ _ _ _ h => h) nil_mon)) h
theorem er_nil0 {R : Hp → V → Prop} (h : ∀ H v, rep H v ([] : List Str) → R H v) : EvR (tLst tNil) σ A R := er_imp (er_of (ed_lst (α := Str) eda_nil (by decide))) h
theorem ed_strs2 {x y : Str} : EvD (tLst (tCons (tC (.str x)) (tCons (tC (.str y)) tNil))) σ A [x, y] := ed_lst (eda_cons ed_str (eda_cons ed_str eda_nil)) (by simp)
theorem ed_strs1 {x : Str} : EvD (tLst (tCons (tC (.str x)) tNil)) σ A [x] := ed_lst (eda_cons ed_str eda_nil) (by simp)
theorem ed_twice {te : TE} {l : List Str} (h : EvD te σ A l) (hl : l.length ≤ 1000) : EvD (tOp rCat te (tSl (rSlL K) te tNoPart (tPart (tC (.int 1))))) σ A (l ++ l.take 1) := by
  have k : EvD (tSl (rSlL K) te tNoPart (tPart (tC (.int 1)))) σ A (cutT l none (some 1)) := ed_sl h eo_none (eo_some ev_c)
  have e : cutT l none (some 1) = l.take 1 := by
    by_cases n : l = []
    · subst n
      rfl
    · exact cut_take l 1 (by decide) (by
        have := List.length_pos_iff.mpr n
        show 1 ≤ l.length
        omega)
  rw [e] at k
  exact ed_cat h k (by
    have := List.length_take_le 1 l
    omega)
abbrev tIx0 (K : PySem.W.Frag) (i : Nat) : TE := tOp (rIxL K) (tVar i) (tC (.int 0))
abbrev tOddL (K : PySem.W.Frag) : TE := tTup (tCons (tC .non) (tCons (tLst tNil) (tCons (tC (.int 5)) (tCons (tC (.str "a")) (tCons (tLst (tCons (tC (.str "noplace99")) tNil)) (tCons (tLst (tCons (tC .non) tNil)) (tCons (tOp rCat (tIx0 K 4) (tSl (rSlL K) (tIx0 K 4) tNoPart (tPart (tC (.int 1)))))
  (tCons tDNewK (tCons (tLst (tCons (tLst (tCons (tIx0 K 2) tNil)) tNil)) tNil)))))))))
theorem name_len {x : Str} (g : goodName x = true) : x.length ≤ 100000 := by
  unfold goodName at g
  rw [Bool.and_eq_true, Bool.and_eq_true, decide_eq_true_eq, decide_eq_true_eq] at g
  omega
theorem oddL (hk : σ[2]? = some (some kv)) (hl : σ[4]? = some (some lv)) (rk : rep A kv ks) (rl : rep A lv ls) (gk : GoodK goodName ks) (sub : ks ⊆ nameL) (e0 : ls[0]? = some l0) (g0 : l0 ≠ [] ∧ l0 ⊆ ks ∧ l0.Nodup) : EvR (tOddL K) σ A (TR (AllV (OdL ks) 9)) := by
  have kl := gk.len
  have ll := sub_len g0.2.2 g0.2.1
  obtain ⟨k0, kr, ek⟩ : ∃ k0 kr, ks = k0 :: kr := by
    match ks, gk.ne with
    | k0 :: kr, _ => exact ⟨k0, kr, rfl⟩
  have i0 : EvD (tIx0 K 4) σ A l0 := ed_ixL (i := 0) (ed_var hl rl) ev_c e0
  have j0 : EvD (tIx0 K 2) σ A k0 := ed_ixL (i := 0) (ed_var hk rk) ev_c (by rw [ek]; rfl)
  have m := (odL_n (ks := ks)).mon
  refine er_tup (ear_cons (er_c fun _ => odL_atom rfl) (ear_cons (er_nil0 fun H v h => odL_strs h (by decide) (fun _ m => by cases m) slL_nil) (ear_cons (er_c fun _ => odL_atom rfl) (ear_cons (er_c fun _ => odL_atom rfl)
    (ear_cons (er_imp (er_of ed_strs1) fun H v h => odL_strs h (by decide) (fun x m => by rw [List.mem_singleton.mp m]; decide) (slL_one List.mem_cons_self (decide_eq_false fun z => absurd (sub z) (by decide +kernel))))
    (ear_cons (er_non1 fun H v h => odL_non h) (ear_cons (er_imp (er_of (ed_twice i0 (by omega))) fun H v h => ?_) (ear_cons (er_dnew fun H d h => odL_dct h) (ear_cons (er_imp (er_of (ed_lst (eda_cons (ed_lst (eda_cons j0 eda_nil) (by simp)) eda_nil) (by simp))) fun H v h => odL_lls h) ear_nil m) m) m) m) m) m) m) m) m) (fun H vs h => by rw [h.1]; decide) (allV_mon m)
  obtain ⟨x, hx, e⟩ := take1_mem g0.1
  rw [e] at h
  exact odL_strs h (by rw [List.length_append]; simp; omega) (fun y hy => name_len (gk.all y (by
    rcases List.mem_append.mp hy with z | z
    · exact g0.2.1 z
    · rw [List.mem_singleton.mp z]
      exact g0.2.1 hx))) (slL_twice hx)
abbrev tOddN : TE := tTup (tCons (tC .non) (tCons (tC (.int 5)) (tCons (tC (.str "ab")) (tCons (tLst tNil) (tCons tDNewK (tCons (tTup tNil) tNil))))))
theorem er_tup0 {R : Hp → V → Prop} (h : ∀ H v, TR (AllV R 0) H v → R H v) (m : Mon R) : EvR (tTup tNil) σ A R := er_imp (er_tup ear_nil (fun H vs h => by rw [h.1]; decide) (allV_mon m)) h
theorem oddN : EvR tOddN σ A (TR (AllV (OdN ks) 6)) := by
  have m := (odN_n (ks := ks)).mon
  exact er_tup (ear_cons (er_c fun _ => odN_atom rfl) (ear_cons (er_c fun _ => odN_atom rfl) (ear_cons (er_c fun _ => odN_atom rfl) (ear_cons (er_nil0 fun H v h => odN_lst h) (ear_cons (er_dnew fun H d h => odN_dct h) (ear_cons (er_tup0 (fun H v h => odN_tup h) m) ear_nil m) m) m) m) m) m) (fun H vs h => by rw [h.1]; decide) (allV_mon m)
abbrev tOddK (K : PySem.W.Frag) : TE := tTup (tCons (tC .non) (tCons (tC (.int 5)) (tCons (tC (.str "ab")) (tCons (tLst tNil) (tCons tDNewK (tCons (tTup tNil) (tCons (tLst (tCons (tC (.str "A")) tNil)) (tCons (tOp rCat (tVar 2) (tSl (rSlL K) (tVar 2) tNoPart (tPart (tC (.int 1)))))
  (tCons (tLst (tCons (tC .non) tNil)) (tCons (tLst (tCons (tC (.str "b")) (tCons (tC (.str "a")) tNil))) (tCons (tLst (tCons (tC (.str "a_b")) tNil)) (tCons (tLst (tCons (tC (.str "a")) (tCons (tC (.str "aB")) tNil))) tNil))))))))))))
theorem oddK (hk : σ[2]? = some (some kv)) (rk : rep A kv ks) (gk : GoodK goodName ks) : EvR (tOddK K) σ A (TR (AllV OdK 12)) := by
  have kl := gk.len
  have m := odK_n.mon
  have s1 : ∀ {x : Str}, x.length ≤ 100000 → kpL ([x].map V.str) = false → EvR (tLst (tCons (tC (.str x)) tNil)) σ A OdK := fun {x} hx no => er_imp (er_of ed_strs1) fun H v h => odK_strs h (by simp) (fun y m => by rw [List.mem_singleton.mp m]; exact hx) no
  have s2 : ∀ {x y : Str}, x.length ≤ 100000 → y.length ≤ 100000 → kpL ([x, y].map V.str) = false → EvR (tLst (tCons (tC (.str x)) (tCons (tC (.str y)) tNil))) σ A OdK := fun {x y} hx hy no => er_imp (er_of ed_strs2) fun H v h => odK_strs h (by simp) (fun z m => by
    rcases List.mem_cons.mp m with rfl | m
    · exact hx
    · rw [List.mem_singleton.mp m]
      exact hy) no
  refine er_tup (ear_cons (er_c fun _ => odK_atom rfl) (ear_cons (er_c fun _ => odK_atom rfl) (ear_cons (er_c fun _ => odK_atom rfl) (ear_cons (er_nil0 fun H v h => odK_strs h (by decide) (fun _ m => by cases m) (by simp [kpL])) (ear_cons (er_dnew fun H d h => odK_dct h) (ear_cons (er_tup0 (fun H v h => odK_tup h) m)
    (ear_cons (s1 (by decide) (by decide +kernel)) (ear_cons (er_imp (er_of (ed_twice (ed_var hk rk) (by omega))) fun H v h => ?_) (ear_cons (er_non1 fun H v h => odK_non h) (ear_cons (s2 (by decide) (by decide) (by decide +kernel)) (ear_cons (s1 (by decide) (by decide +kernel)) (ear_cons (s2 (by decide) (by decide) (by decide +kernel)) ear_nil m) m) m) m) m) m) m) m) m) m) m) m) (fun H vs h => by rw [h.1]; decide) (allV_mon m)
  obtain ⟨x, hx, e⟩ := take1_mem gk.ne
  rw [e] at h
  exact odK_strs h (by rw [List.length_append]; simp; omega) (fun y hy => name_len (gk.all y (by
    rcases List.mem_append.mp hy with z | z
    · exact z
    · rw [List.mem_singleton.mp z]
      exact hx))) (kpL_twice e)
end
end K07
/-! text E32 -/
set_option Elab.async false
set_option linter.all false
set_option maxRecDepth 100000
set_option maxHeartbeats 4000000
/-! least_right: within its loops -/
namespace K07
open PySem PySem.Spec PyProof.Rows L2 Evl PySem.W Dw Dw.DV RZ StX Lot LmV LamX NdefX XvC KwX
abbrev so (p v kv : V) (y3 y4 y5 y6 y7 y8 y9 y10 : Option V) : L2.St := [some p, some v, some kv, y3, y4, y5, y6, y7, y8, y9, y10, none]
def IsO (p v kv : V) (y4 : Option V) (σ : L2.St) : Prop := ∃ y3 y5 y6 y7 y8 y9 y10, σ = so p v kv y3 y4 y5 y6 y7 y8 y9 y10
def IsE (p v kv : V) (σ : L2.St) : Prop := ∃ y3 y4 y5 y6 y7 y8 y9 y10, σ = so p v kv y3 y4 y5 y6 y7 y8 y9 y10
abbrev tCp8 (i : Nat) : TE := tCall (spC 8) [] E0 (tCons (tVar i) tNil)
section
variable {K : PySem.W.Frag} {T : List (Addr × Str)} {c : Nat → Addr} {A H1 H' : Hp} {p v kv : V} {ks : List Str} {ls : List (List Str)} {Dl : Addr} {σ : L2.St} {D : Ends} {x : V}
abbrev tBody1 (K : PySem.W.Frag) (T : List (Addr × Str)) (c : Nat → Addr) : TS := tSeq (tAsg (tOp rCat (tVar 4) (tLst (tCons (tVar 9) tNil))) (gName 10)) (tSeq (tAsg (tLam T (TMet c) fun E => tCall (spFamOf T (c 2) (c 4)) [] E (tCons (tCp8 2) (tCons (tCp8 10) tNil))) (gName 8))
  (tIfS (tNot (tB (tCall (spS 9) [] E0 (tCons (tVar 8) (tCons (tTup (tCons (tC (.str "lots")) (tCons (tCB (rLenS K) (tCons (tVar 4) tNil)) tNil))) tNil))))) tNever tNext))
/-- lots and something that is none: refused at its place -/
theorem body1 (nA : NT A) (e : Ex A H') (rk : rep A kv ks) (gk : GoodK goodName ks) (rl : rep A (.ref Dl) ls) (l9 : ls.length ≤ 100) (gl : ∀ l ∈ ls, l ≠ [] ∧ l ⊆ ks ∧ l.Nodup) (r : OdL ks A x) (i : IsO p v kv (some (.ref Dl)) σ) (l : Lt T H1 H') (nx : ∀ σ2 H2, IsO p v kv (some (.ref Dl)) σ2 → Lt T H1 H2 → D.nx σ2 H2) : tBody1 K T c D (σ.set 9 (some x)) H' := by
  obtain ⟨y3, y5, y6, y7, y8, y9, y10, rfl⟩ := i
  have rl' := rl
  obtain ⟨_, us, e0, hD, rus⟩ := rl'
  cases e0
  have len := Reps.len rus
  refine ⟨.ref Dl, rfl, x, rfl, by show 1 ≤ sizeLine; decide, fun l1 nl => ⟨Dl, l1, us, [x], rfl, rfl, Ex.new nl _ _ (e _ _ hD), upd_same, sz_of (by simp; omega), fun M nM => ?_⟩⟩
  refine nm_go ?_
  have x2 : Ex H' (upd (upd H' l1 (.lst [x])) M (.lst (us ++ [x]))) := (Ex.new nl).trans (Ex.new nM)
  have hM : (upd (upd H' l1 (.lst [x])) M (.lst (us ++ [x]))) M = some (.lst (us ++ [x])) := upd_same
  have AM : A M = none := exf (e.trans (Ex.new nl)) nM
  generalize upd (upd H' l1 (.lst [x])) M (.lst (us ++ [x])) = H2 at x2 hM
  have xA : Ex A (upd A M (.lst (us ++ [x]))) := Ex.new AM
  have e6 : Ex (upd A M (.lst (us ++ [x]))) H2 := fun b o h => by
    by_cases y : b = M
    · rw [y, upd_same] at h
      rw [y, hM]
      exact h
    · rw [upd_ne y] at h
      exact x2 _ _ (e _ _ h)
  have n6 : NT (upd A M (.lst (us ++ [x]))) := fun b ps h => by
    by_cases y : b = M
    · rw [y, upd_same] at h
      cases h
    · rw [upd_ne y] at h
      exact nA b ps h
  have hM6 : (upd A M (.lst (us ++ [x]))) M = some (.lst (us ++ [x])) := upd_same
  generalize upd A M (.lst (us ++ [x])) = A6 at xA e6 n6 hM6
  have ll : (us ++ [x]).length = ls.length + 1 := by rw [List.length_append, len]; rfl
  have at_ : ∀ j y, j < ls.length → (us ++ [x])[j]? = some y → ∃ z ∈ ls, rep A6 y z := fun j y hj hy => by
    rw [List.getElem?_append_left (by omega)] at hy
    exact ⟨ls[j], List.getElem_mem hj, DV.ext xA (Reps.at rus hy (List.getElem?_eq_getElem hj))⟩
  have l2 : Lt T H1 H2 := l.go x2
  have tw : Tw A6 A6 8 (.ref M) (.ref M) := tw_seq (.inl hM6) (by omega) fun y m => by
    rcases List.mem_append.mp m with z | z
    · obtain ⟨j, hj, ej⟩ := List.mem_iff_getElem.mp z
      obtain ⟨z', hz, rz⟩ := at_ j y (by omega) (by rw [List.getElem?_append_left hj, List.getElem?_eq_getElem hj, ej])
      have := sub_len (gl z' hz).2.2 (gl z' hz).2.1
      have := gk.len
      exact strs_tw (by omega) rz rz (by decide)
    · rw [List.mem_singleton.mp z]
      exact Tw.ext xA xA r.2
  have bad : BadL ks A6 (.ref M) (ls.length : Int) := .bad (.inl hM6) (by omega) (by omega) (fun j y hj hy => by
    obtain ⟨z', hz, rz⟩ := at_ j y hj hy
    exact sl_good (lsR_of rz) gk (gl z' hz).1 (gl z' hz).2.1 (gl z' hz).2.2) fun y hy => by
      rw [List.getElem?_append_right (by omega), len, Nat.sub_self] at hy
      cases hy
      exact sl_n (ExtN.of xA) r.1
  refine lots_no (A := A6) (mv := .ref M) (kv := kv) rfl rfl n6 e6 l2.t (DV.ext xA rk) gk tw bad fun q H3 l3 hq => ?_
  refine nm_go ?_
  have e3 : Ex A6 H3 := n6.ex e6 l3.n
  have rq : rep H3 (.ref q) (((("lots" : Str), (ls.length : Int))) : Str × Int) := ⟨q, .str "lots", .int (ls.length : Int), rfl, hq, rfl, rfl⟩
  have same : Ev (tCall (spS 9) [] E0 (tCons (tVar 8) (tCons (tTup (tCons (tC (.str "lots")) (tCons (tCB (rLenS K) (tCons (tVar 4) tNil)) tNil))) tNil))) (so p v kv y3 (some (.ref Dl)) y5 y6 y7 (some (.ref q)) (some x) (some (.ref M))) H3 (.bl true) :=
    ev_same (x := ((("lots" : Str), (ls.length : Int)) : Str × Int)) (ed_var (i := 8) rfl rq) (ed_pair ed_str (ed_evI (ev_lenD (ed_var (i := 4) rfl (DV.ext (xA.trans e3) rl))))) rfl ⟨True.intro, True.intro⟩ (by decide)
  exact b_if (Bs.start (Ex.refl H3)) (et_not (et_B same)) (fun z => by cases z) fun _ H4 B4 => nx _ H4 ⟨_, _, _, _, _, _, _, rfl⟩ ((l2.trans l3).go B4.h)
abbrev tBody2 (T : List (Addr × Str)) (c : Nat → Addr) : TS := tIfS (tNot (tB (tCall (spS 9) [] E0 (tCons (tLam T (TMet c) fun E => tCall (spFamOf T (c 2) (c 4)) [] E (tCons (tCp8 2) (tCons (tCp8 9) tNil))) (tCons (tTup (tCons (tC (.str "lots")) (tCons (tC (.int 0)) tNil))) tNil))))) tNever tNext
theorem body2 (nA : NT A) (e : Ex A H') (rk : rep A kv ks) (gk : GoodK goodName ks) (r : OdN ks A x) (i : IsE p v kv σ) (l : Lt T H1 H') (nx : ∀ σ2 H2, IsE p v kv σ2 → Lt T H1 H2 → D.nx σ2 H2) : tBody2 T c D (σ.set 9 (some x)) H' := by
  obtain ⟨y3, y4, y5, y6, y7, y8, y9, y10, rfl⟩ := i
  refine if_go2 (lots_no (A := A) (mv := x) (kv := kv) rfl rfl nA e l.t rk gk (r.2.up) r.1 fun q H3 l3 hq => ?_)
  refine ⟨by show 2 ≤ sizeLine; decide, fun s ns => ?_⟩
  have hq' := Ex.new (o := .tup [.str "lots", .int 0]) ns _ _ hq
  refine ⟨.ref q, .ref s, rfl, .inr (.inr (.inl ⟨q, s, [.str "lots", .int 0], [.str "lots", .int 0], rfl, rfl, hq', upd_same, by show 2 ≤ 1000; decide, .cons (Tw.of_atom rfl) (.cons (Tw.of_atom rfl) .nil)⟩)), fun H4 e4 => ⟨true, rfl, ?_⟩⟩
  exact if_no (by decide) (nx _ H4 ⟨_, _, _, _, _, _, _, _, rfl⟩ ((l.trans l3).go ((Ex.new ns).trans e4)))
abbrev tBody3 (T : List (Addr × Str)) (c : Nat → Addr) : TS := tIfS (tNot (tB (tCall (spS 9) [] E0 (tCons (tLam T (TMet c) fun E => tCall (spFamOf T (c 2) (c 4)) [] E (tCons (tCp8 9) (tCons (tUn (rU fun i => .int (-i)) (tC (.int 1))) tNil))) (tCons (tTup (tCons (tC (.str "keepers")) (tCons (tVar 9) tNil))) tNil))))) tNever tNext
theorem body3 (nA : NT A) (e : Ex A H') (r : OdK A x) (i : IsE p v kv σ) (l : Lt T H1 H') (nx : ∀ σ2 H2, IsE p v kv σ2 → Lt T H1 H2 → D.nx σ2 H2) : tBody3 T c D (σ.set 9 (some x)) H' := by
  obtain ⟨y3, y4, y5, y6, y7, y8, y9, y10, rfl⟩ := i
  refine if_go2 (keeps_no (A := A) (mv := x) rfl nA e l.t (r.2.up) r.1 fun u q Hs H3 l3 s3 tw hq => ?_)
  refine ⟨x, rfl, by show 2 ≤ sizeLine; decide, fun s ns => ?_⟩
  have xn := Ex.new (o := .tup [.str "keepers", x]) ns
  have e3 : Ex A H3 := nA.ex e l3.n
  refine ⟨.ref q, .ref s, rfl, .inr (.inr (.inl ⟨q, s, [.str "keepers", u], [.str "keepers", x], rfl, rfl, xn _ _ hq, upd_same, by show 2 ≤ 1000; decide, .cons (Tw.of_atom rfl) (.cons (tw_sym (Tw.ext (e3.trans xn) (s3.trans xn) tw)) .nil)⟩)), fun H4 e4 => ⟨true, rfl, ?_⟩⟩
  exact if_no (by decide) (nx _ H4 ⟨_, _, _, _, _, _, _, _, rfl⟩ ((l.trans l3).go (xn.trans e4)))
end
end K07
/-! text E33 -/
set_option Elab.async false
set_option linter.all false
set_option maxRecDepth 100000
set_option maxHeartbeats 4000000
/-! least_right: lots drawn -/
namespace K07
open PySem PySem.Spec PyProof.Rows L2 Evl PySem.W Dw Dw.DV RZ StX Lot LmV LamX NdefX XvC KwX
section
variable {K : PySem.W.Frag} {A H : Hp} {v kv : V} {ks : List Str} {pA c0 : Addr} {n : Int} {y3 y4 y5 y6 y7 y8 y9 y10 : Option V} {tz : TS} {D0 : Ends}
abbrev tLotsD (K : PySem.W.Frag) : TS := tAsg (tLc (iRng1 (tCons (tOp (rI0 fun i j => V.int (i + j)) (tC (V.int 1)) (tCall spDraw [] E0 (tCons (tVar 0) (tCons (tC (V.int 9)) tNil)))) tNil)) (gName 11) tYes
  (tCall (spMixed K) [] E0 (tCons (tVar 0) (tCons (tCall spLotD [] E0 (tCons (tVar 0) (tCons (tVar 2) tNil))) tNil))) [11]) (gName 4)
theorem lots_made (hst : St H pA c0 n) (hn : n ≤ 890000) (eA : Ex A H) (Ap : A pA = none) (Ac : A c0 = none) (rk : rep A kv ks) (gk : GoodK goodName ks) (l30 : ks.length ≤ 30)
    (q : ∀ Dl H' B ls, ExB [pA, c0] H H' → St H' pA c0 (n + 1000) → Ex B H' → B pA = none → B c0 = none → rep B (.ref Dl) ls → ls ≠ [] → ls.length ≤ 9 → (∀ l ∈ ls, l ≠ [] ∧ l ⊆ ks ∧ l.Nodup) → tz D0 (so (.ref pA) v kv y3 (some (.ref Dl)) y5 y6 y7 y8 y9 y10) H') :
    tSeq (tLotsD K) tz D0 (so (.ref pA) v kv y3 y4 y5 y6 y7 y8 y9 y10) H := by
  refine ⟨.ref pA, rfl, pA, c0, n, 9, rfl, hst, by omega, by omega, by omega, fun r H2 r0 r1 e2 s2 => ?_⟩
  refine ⟨1, r, rfl, rfl, 1 + r, rfl, by omega, by omega, fun D nD => ?_⟩
  have Dpc : D ∉ [pA, c0] := nPC s2 nD
  have HD : H D = none := exb_none e2 s2 nD
  refine lc_range (fun i H' => ExB [pA, c0] H H' ∧ St H' pA c0 (n + 1 + 80 * i) ∧ ∃ ws Hw ls, H' D = some (.lst ws) ∧ Ex Hw H' ∧ (∀ b u, Hw b = some u → b ≠ D ∧ b ∉ [pA, c0]) ∧ Reps Hw ws ls ∧ ls.length = i ∧ ∀ y ∈ ls, y ≠ [] ∧ y ⊆ ks ∧ y.Nodup)
    ⟨e2.trans (ExB.new nD), (s2.new nD).up (by omega), [], fun _ => none, [], upd_same, fun _ _ z => (by cases z), fun _ _ z => (by cases z), .nil, rfl, fun _ m => by cases m⟩ (fun i H' hi hI => ?_) (fun H' hI => ?_)
  · obtain ⟨k1, k2, ws, Hw, ls, k3, k4, k5, k6, k7, k8⟩ := hI
    refine ⟨rfl, ?_⟩
    have A3 := exb eA Ap Ac k1
    refine ⟨.ref pA, rfl, .ref pA, rfl, kv, rfl, pA, c0, n + 1 + 80 * (i : Int), kv, ks, A, rfl, k2, by omega, A3, Ap, Ac, rk, gk, l30, fun l u H4 Hs gl e4 s4 eHs oHs ru => ?_⟩
    obtain ⟨b, us, rfl, hb, hus⟩ := ru
    have ul := Reps.len hus
    have ll := sub_len (gl.asc.nodup sl_tot) gl.sub
    refine ⟨pA, c0, b, us, _, rfl, s4, sq_of (eHs _ _ hb), by omega, by omega, fun ys qa H5 perm e5 s5 nq hq => ?_⟩
    obtain ⟨ns, pn, rn⟩ := reps_perm (α := Str) perm hus
    have qpc : qa ∉ [pA, c0] := nPC s4 nq
    have D4 : H4 D = some (.lst ws) := e4 _ _ Dpc k3
    have D5 : H5 D = some (.lst ws) := e5 _ _ Dpc D4
    have qD : qa ≠ D := fun z => by
      rw [z, D4] at nq
      cases nq
    have Hw4 : Ex Hw H4 := fun b o z => e4 b o (k5 b o z).2 (k4 b o z)
    have Hw5 : Ex Hw H5 := fun b o z => e5 b o (k5 b o z).2 (Hw4 b o z)
    have nw : Hw qa = none := exf Hw4 nq
    refine ⟨ws, D5, by rw [Reps.len k6, k7]; exact sz_lt (by omega), fun b o m z => ?_, (s5.mut Dpc).up (by omega), ws ++ [.ref qa], upd Hw qa (.lst ys), ls ++ [ns], upd_same, fun b o z => ?_, fun b o z => ?_, ?_, by rw [List.length_append, k7]; rfl, fun y hy => ?_⟩
    · rw [upd_ne (ne_of_none z HD)]
      exact ((k1.trans e4).trans e5) b o m z
    · by_cases y : b = qa
      · rw [y, upd_same] at z
        rw [y, upd_ne qD, hq]
        exact z
      · rw [upd_ne y] at z
        rw [upd_ne (k5 b o z).1]
        exact Hw5 _ _ z
    · by_cases y : b = qa
      · rw [y]
        exact ⟨qD, qpc⟩
      · rw [upd_ne y] at z
        exact k5 b o z
    · have ey := reps_str rn
      subst ey
      exact Reps.app (Reps.ext (Ex.new nw) k6) (.cons ⟨qa, _, rfl, upd_same, reps_strs ns⟩ .nil)
    · rcases List.mem_append.mp hy with w | w
      · exact k8 y w
      · rw [List.mem_singleton.mp w]
        refine ⟨fun z => gl.ne (List.eq_nil_of_length_eq_zero (by rw [← pn.length_eq, z]; rfl)), fun x hx => gl.sub (pn.mem_iff.mp hx), pn.nodup_iff.mpr (gl.asc.nodup sl_tot)⟩
  · obtain ⟨k1, k2, ws, Hw, ls, k3, k4, k5, k6, k7, k8⟩ := hI
    have HwD : Hw D = none := by
      cases z : Hw D with
      | none => rfl
      | some o => exact absurd rfl (k5 D o z).1
    have out : ∀ b, b ∈ [pA, c0] → (upd Hw D (.lst ws)) b = none := fun b m => by
      have bD : b ≠ D := fun z => Dpc (by rw [← z]; exact m)
      rw [upd_ne bD]
      cases z : Hw b with
      | none => rfl
      | some o => exact absurd m (k5 b o z).2
    refine nm_go (q D H' (upd Hw D (.lst ws)) ls k1 (k2.up (by omega)) (fun b o z => ?_) (out _ List.mem_cons_self) (out _ (List.mem_cons_of_mem _ List.mem_cons_self)) ⟨D, ws, rfl, upd_same, Reps.ext (Ex.new HwD) k6⟩ (fun z => ?_) (by omega) k8)
    · by_cases y : b = D
      · rw [y, upd_same] at z
        rw [y, k3]
        exact z
      · rw [upd_ne y] at z
        exact k4 _ _ z
    · rw [z] at k7
      simp at k7
      omega
end
end K07
/-! text E34 -/
set_option Elab.async false
set_option linter.all false
set_option maxRecDepth 100000
set_option maxHeartbeats 4000000
/-! least_right: what is told of lots given loosely, by names; both apart -/
namespace K07
open PySem PySem.Spec PyProof.Rows L2 Evl PySem.W Dw Dw.DV RZ StX Lot LmV LamX NdefX XvC KwX
/-- lists spoilt that were new: what stood stands -/
theorem spoil_lt {T : List (Addr × Str)} {H4 Hm H' : Hp} {L : List Addr} (l : Lt T H4 Hm) (ls : ∀ b ∈ L, ∃ vs, Hm b = some (.lst vs)) (nw : ∀ b ∈ L, nt H4 b = none) (f : ∀ b o, b ∉ L → Hm b = some o → H' b = some o) : Lt T H4 H' := by
  refine ⟨fun b o h n => f b o (fun m => ?_) (l.n b o h n), fun q hq => ?_⟩
  · have k := nw b m
    rw [nt_mk h n] at k
    cases k
  · obtain ⟨ps, g1, g2, g3⟩ := l.t q hq
    have nl : ∀ {b : Addr} {o : HO}, Hm b = some o → (∀ vs, o ≠ .lst vs) → b ∉ L := fun {b o} h n m => by
      obtain ⟨vs, hv⟩ := ls b m
      rw [hv] at h
      exact n vs (Option.some.inj h).symm
    refine ⟨ps, f _ _ (nl g1 fun _ z => by cases z) g1, g2, fun pos cv h => ?_⟩
    obtain ⟨cA, k1, k2⟩ := g3 pos cv h
    refine ⟨cA, k1, f _ _ (nl k2 fun vs z => ?_) k2⟩
    unfold CodeO at z
    cases z
theorem rl_strL {H : Hp} : ∀ {xs : List Str} {vs : List V} {L : List Addr}, RL StrW H xs vs L → L = []
  | _, _, _, .nil => rfl
  | _, _, _, .cons h r => by rw [rl_strL r, h.2]; rfl
theorem lsW_list {H : Hp} {xs : List Str} {v : V} {L : List Addr} (h : LstW StrW xs H v L) : ∀ b ∈ L, ∃ vs, H b = some (.lst vs) := by
  obtain ⟨a, vs, Ls, rfl, h1, h2, rfl⟩ := h
  rw [rl_strL h2]
  intro b m
  rw [List.mem_singleton.mp m]
  exact ⟨_, h1⟩
theorem rl_lsL {H : Hp} : ∀ {xs : List (List Str)} {vs : List V} {L : List Addr}, RL (fun l => LstW StrW l) H xs vs L → ∀ b ∈ L, ∃ vs, H b = some (.lst vs)
  | _, _, _, .nil, _, m => by cases m
  | _, _, _, .cons h r, b, m => by
    rcases List.mem_append.mp m with y | y
    · exact lsW_list h b y
    · exact rl_lsL r b y
/-- what a new family stands on are lists -/
theorem fmW_list {H : Hp} {F : FamT} {v : V} {L : List Addr} (h : FmW F H v L) : ∀ b ∈ L, ∃ vs, H b = some (.lst vs) := by
  obtain ⟨a, v1, v2, L1, L2, rfl, h1, k1, ⟨d, ws, Ms, rfl, m1, m2, rfl⟩, rfl⟩ := h
  intro b m
  rcases List.mem_append.mp m with y | y
  · exact lsW_list k1 b y
  · rcases List.mem_cons.mp y with z | z
    · rw [z]
      exact ⟨_, m1⟩
    · exact rl_lsL m2 b z
section
variable {K : PySem.W.Frag} {T : List (Addr × Str)} {c : Nat → Addr} {A H : Hp} {pv v kv u1 u2 : V} {ks : List Str} {ls : List (List Str)} {Dl Pp : Addr} {y3 y6 y7 y8 y9 y10 : Option V} {D : Ends}
abbrev tRest (K : PySem.W.Frag) (T : List (Addr × Str)) (c : Nat → Addr) : TS := tSeq (tPar 6 7 (tCons (tCp8 5) (tCons (tTup (tCons (tVar 2) (tCons (tCall spAl [] E0 (tCons (tVar 4) tNil)) tNil))) tNil)))
  (tSeq (tAsg (tLst (tCons (tCall (spFamOf T (c 2) (c 4)) [] E0 (tCons (tOp (rIxL K) (tVar 5) (tC (.int 0))) (tCons (tOp (rIxL K) (tVar 5) (tC (.int 1))) tNil))) (tCons (tVar 5) tNil))) (gName 8))
  (tSeq (tDrop (tBM K "list" rAppend (tVar 8) (tCons (tCallSw (spFamOf T (c 2) (c 4)) E0 (tCons (tCp8 4) (tCons (tCp8 2) tNil))) tNil)))
  (tSeq (tIfS (tOr (tNot (tB (tCall (spS 9) [] E0 (tCons (tVar 8) (tCons (tLst (tCons (tVar 7) (tCons (tVar 6) (tCons (tVar 7) tNil)))) tNil))))) (tNot (tB (tCall (spAprt 4) [] E0 (tCons (tOp rCat (tCB (rListS K) (tCons (tOp (rIxL K) (tVar 8) (tC (.int 0))) tNil)) (tCB (rListS K) (tCons (tOp (rIxL K) (tVar 8) (tC (.int 2))) tNil))) tNil))))) tNever tNext)
  (tFor (iTup K (tOddL K)) (gName 9) (tBody1 K T c)))))
theorem turn_rest {l0 : List Str} (nA : NT A) (e : Ex A H) (t : Tabs T H) (rk : rep A kv ks) (rl : rep A (.ref Dl) ls) (hP : A Pp = some (.lst [u1, u2])) (f1 : LsR ks A u1) (f2 : LlR ls A u2) (gk : GoodK goodName ks) (sub : ks ⊆ nameL) (gl : ∀ l ∈ ls, l ≠ [] ∧ l ⊆ ks ∧ l.Nodup) (h0 : ls[0]? = some l0) (l9 : ls.length ≤ 100)
    (nx : ∀ σ2 H2, IsO pv v kv (some (.ref Dl)) σ2 → Lt T H H2 → D.nx σ2 H2) : tRest K T c D (so pv v kv y3 (some (.ref Dl)) (some (.ref Pp)) y6 y7 y8 y9 y10) H := by
  have kl := gk.len
  have ll : ∀ l ∈ ls, l.length ≤ 100 := fun l m => by
    have := sub_len (gl l m).2.2 (gl l m).2.1
    omega
  have ne : ls ≠ [] := fun z => by
    rw [z] at h0
    cases h0
  have tw5 : Tw A A 8 (.ref Pp) (.ref Pp) := tw_seq (.inl hP) (by show 2 ≤ 1000; decide) fun u m => by
    rcases List.mem_cons.mp m with y | y
    · rw [y]
      exact (ls_tw f1 (by omega)).ups (by decide)
    · rw [List.mem_singleton.mp y]
      exact (ll_tw f2 (by omega) fun x m => by have := ll x m; omega).ups (by decide)
  refine b_parR (R1 := fun Hx y => Tw A Hx 8 (.ref Pp) y) (R2 := fun Hx y => rep Hx y ((ks, aLeast ls) : FamT)) (Bs.start e)
    (er_copied (d := 8) (E := E0) (R1 := fun Hx y => Hx = A ∧ y = .ref Pp) (R2 := fun Hx y => Tw A Hx 8 (.ref Pp) y) (er_varR (i := 5) rfl ⟨rfl, rfl⟩) (fun Hx y h => by
        obtain ⟨z1, z2⟩ := h
        rw [z1, z2]
        exact tw5) (fun Hx Hy y z h t => by
        obtain ⟨z1, z2⟩ := h
        rw [z1, z2] at t
        exact t))
    (er_of (ed_pair (ed_var (i := 2) rfl rk) (ed_call1 (E := E0) (P := fun L : List (List Str) => L.length ≤ 1000 ∧ (∀ l ∈ L, l ≠ []) ∧ ∀ l ∈ L, l.length ≤ 100) (f := aLeast) (ed_var (i := 4) rfl rl) ⟨by omega, fun l m => (gl l m).1, ll⟩)))
    (fun Hx Hy y e h => Tw.ext (Ex.refl _) e h) rep_mon fun w dv A2 H2 B2 x2 tw2 d2 => ?_
  rw [aLeast_srt fun l m => (gl l m).2.2] at d2
  have e3 : Ex (nt A2) H2 := nt_sub.trans B2.h
  have n3 : NT (nt A2) := nt_NT A2
  have xA : Ex A (nt A2) := fun b o h => nt_mk (x2 _ _ h) fun ps z => nA b ps (by rw [h, z])
  have d3 : rep (nt A2) dv ((ks, leastOf (ls.map srt)) : FamT) := DVN.extN (nt_ext A2) d2
  have tw3 : Tw (nt A2) (nt A2) 8 (.ref Pp) w := tw_n (ExtN.of xA) (nt_ext A2) tw2
  have t2 : Tabs T H2 := t.ext B2.e
  have l2 : Lt T H H2 := Lt.of t B2.e
  have k3 := DV.ext xA rk
  have rl3 := DV.ext xA rl
  have hP3 := xA _ _ hP
  have f13 := lsR_mon _ _ _ _ xA f1
  have f23 := llR_mon _ _ _ _ xA f2
  generalize nt A2 = A3 at e3 n3 d3 tw3 k3 rl3 hP3 f13 f23
  clear d2 tw2 x2 B2 xA
  -- found
  refine ⟨.ref Pp, rfl, Pp, [u1, u2], 0, u1, rfl, rfl, sq_of (e3 _ _ hP3), rfl, .ref Pp, rfl, Pp, [u1, u2], 1, u2, rfl, rfl, sq_of (e3 _ _ hP3), rfl, u1, u2, A3, rfl, e3, t2, .inr ⟨ks, f13, gk, .ok f23 ne (by omega) gl fun w1 H5 Hs5 L5 l5 s5 o5 r5 nd5 dm5 => ?_⟩⟩
  refine ⟨.ref Pp, rfl, by show 2 ≤ sizeLine; decide, fun D1 nD1 => nm_go ?_⟩
  have hD1 : (upd H5 D1 (.lst [w1, .ref Pp])) D1 = some (.lst [w1, .ref Pp]) := upd_same
  have x5 : Ex Hs5 (upd H5 D1 (.lst [w1, .ref Pp])) := s5.trans (Ex.new nD1)
  have l6 : Lt T H2 (upd H5 D1 (.lst [w1, .ref Pp])) := l5.go (Ex.new nD1)
  have D1n : nt H2 D1 = none := exf (nt_ex (Ex.refl H2) l5.n) nD1
  have D5 : Hs5 D1 = none := exf s5 nD1
  generalize upd H5 D1 (.lst [w1, .ref Pp]) = H6 at hD1 x5 l6
  clear l5 s5 nD1
  have e6 : Ex A3 H6 := n3.ex e3 l6.n
  -- found.append
  refine ⟨.ref D1, rfl, .inl ⟨rfl, _, sq_of hD1⟩, ?_⟩
  have twl : Tw A3 A3 8 (.ref Dl) (.ref Dl) := (ll_tw (llR_of rl3) (by omega) fun x m => by have := ll x m; omega).ups (by decide)
  refine ⟨.ref Dl, rfl, .ref Dl, A3, rfl, e6, twl, fun z1 H7 Hs7 e7 s7 o7 tw7 => ⟨kv, rfl, kv, A3, rfl, e6.trans e7, strs_tw (by omega) k3 k3 (by decide), fun z2 H8 Hs8 e8 s8 o8 tw8 => ⟨rfl, ?_⟩⟩⟩
  have j7 : Ex Hs7 H8 := s7.trans e8
  refine ⟨z2, z1, jn Hs7 Hs8, rfl, jn_ex j7 s8, l6.t.ext (e7.trans e8), .inr ⟨ks, lsR_of (DV.ext (jn_r j7 s8) (DVT.cp k3 tw8)), gk, .ok (llR_of (DV.ext jn_l (DVT.cp rl3 tw7))) ne (by omega) gl fun w2 H9 Hs9 L9 l9' s9 o9 r9 nd9 dm9 => ?_⟩⟩
  have l69 : Lt T H6 H9 := (Lt.of l6.t (e7.trans e8)).trans l9'
  have nl : ∀ {xs : List V} (ps : Array Value), HO.lst xs ≠ .tbl ps := fun _ z => by cases z
  have hD9 : H9 D1 = some (.lst [w1, .ref Pp]) := l69.n _ _ hD1 nl
  refine ⟨D1, [w1, .ref Pp], w2, rfl, rfl, hD9, by show 2 < sizeLine; decide, ?_⟩
  have l10 : Lt T H2 (upd H9 D1 (.lst ([w1, .ref Pp] ++ [w2]))) := (l6.trans l69).mut hD9 D1n
  have o9' : ∀ b x, Hs9 b = some x → nt H6 b = none := fun b x h => exf (nt_mono (ExtN.of (e7.trans e8))) (o9 b x h)
  have D9 : Hs9 D1 = none := by
    cases m : Hs9 D1 with
    | none => rfl
    | some o =>
      have k := o9' D1 o m
      rw [nt_mk hD1 nl] at k
      cases k
  have x10 : Ex (nt Hs5) (upd H9 D1 (.lst ([w1, .ref Pp] ++ [w2]))) := (nt_ex x5 l69.n).mut (exf nt_sub D5)
  have s10 : Ex Hs9 (upd H9 D1 (.lst ([w1, .ref Pp] ++ [w2]))) := s9.mut D9
  have hD10 : (upd H9 D1 (.lst ([w1, .ref Pp] ++ [w2]))) D1 = some (.lst [w1, .ref Pp, w2]) := upd_same
  have up69 : ∀ b o, b ≠ D1 → H6 b = some o → (∀ ps, o ≠ .tbl ps) → (upd H9 D1 (.lst ([w1, .ref Pp] ++ [w2]))) b = some o := fun b o n h m => by
    rw [upd_ne n]
    exact l69.n _ _ h m
  have r5' : FmW (ks, leastOf (ls.map srt)) (nt Hs5) w1 L5 := fmW_n (nt_ext Hs5) r5
  dsimp only
  generalize upd H9 D1 (.lst ([w1, .ref Pp] ++ [w2])) = H10 at l10 x10 s10 hD10 up69 ⊢
  have e10 : Ex A3 H10 := n3.ex e3 l10.n
  have sm : DVT.sm ((ks, leastOf (ls.map srt)) : FamT) := by
    have h1 : (leastOf (ls.map srt)).length ≤ (ls.map srt).length := leastOf_len
    rw [List.length_map] at h1
    refine ⟨⟨by show ks.length ≤ 1000; omega, fun _ _ => True.intro⟩, by show (leastOf (ls.map srt)).length ≤ 1000; omega, fun l m => ⟨?_, fun _ _ => True.intro⟩⟩
    obtain ⟨x, hx, rfl⟩ := List.mem_map.mp (leastOf_mem m)
    rw [srt_len]
    have := ll x hx
    omega
  have same : EvT (tNot (tB (tCall (spS 9) [] E0 (tCons (tVar 8) (tCons (tLst (tCons (tVar 7) (tCons (tVar 6) (tCons (tVar 7) tNil)))) tNil))))) (so pv v kv y3 (some (.ref Dl)) (some (.ref Pp)) (some w) (some dv) (some (.ref D1)) y9 y10) H10 false := by
    refine et_not (a := true) (et_B fun H' e' Q' q' => ?_)
    refine ⟨.ref D1, rfl, dv, rfl, w, rfl, dv, rfl, by show 3 ≤ sizeLine; decide, fun l nl => ?_⟩
    have z1 : Ex H' (upd H' l (.lst [dv, w, dv])) := Ex.new nl
    have g : Ex H10 _ := e'.trans z1
    have g3 := e10.trans g
    have rd := DV.ext g3 d3
    refine ⟨.ref D1, .ref l, rfl, .inr (.inl ⟨D1, l, [w1, .ref Pp, w2], [dv, w, dv], rfl, rfl, g _ _ hD10, upd_same, by show 3 ≤ 1000; decide, ?_⟩), fun H'' e'' => q' H'' (z1.trans e'')⟩
    exact .cons ((DVT.tw sm (DV.ext (x10.trans g) (fmW_rep r5')) rd).ups (by decide)) (.cons (Tw.ext g3 g3 tw3) (.cons ((DVT.tw sm (DV.ext (s10.trans g) (fmW_rep r9)) rd).ups (by decide)) .nil))
  refine nx_if ?_
  refine same H10 (Ex.refl _) _ fun H11 e11 => ?_
  refine if_no (by decide) ?_
  have l11 : Lt T H2 H11 := l10.go e11
  have e311 : Ex A3 H11 := e10.trans e11
  -- apart
  have lts : Lts (ks, leastOf (ls.map srt)) := by
    have h1 : (leastOf (ls.map srt)).length ≤ (ls.map srt).length := leastOf_len
    rw [List.length_map] at h1
    have nn : late9 ∉ ks := fun m => absurd (sub m) (by decide +kernel)
    refine ⟨nn, by show ks.length ≤ 1000; omega, fun l m => ?_, by show (leastOf (ls.map srt)).length ≤ 1000; omega⟩
    obtain ⟨x, hx, rfl⟩ := List.mem_map.mp (leastOf_mem m)
    exact ⟨fun z => nn ((gl x hx).2.1 (srt_mem.mp z)), by rw [srt_len]; have := ll x hx; omega⟩
  have R : RL (fun F => FmW F) H11 [((ks, leastOf (ls.map srt)) : FamT), (ks, leastOf (ls.map srt))] [w1, w2] (L5 ++ (L9 ++ [])) := .cons (fmW_mon _ _ _ _ _ (x10.trans e11) r5') (.cons (fmW_mon _ _ _ _ _ (s10.trans e11) r9) .nil)
  obtain ⟨lsx, pls, lls, Ms, pMs, eMs⟩ := rl_fmT R fun F m => by
    rcases List.mem_cons.mp m with rfl | m
    · exact lts
    · rw [List.mem_singleton.mp m]
      exact lts
  obtain ⟨x1, x2, p1, p2, rfl, rfl, rfl, hp1, hp2⟩ : ∃ x1 x2 p1 p2, lsx = [x1, x2] ∧ w1 = .ref p1 ∧ w2 = .ref p2 ∧ H11 p1 = some (.tup x1) ∧ H11 p2 = some (.tup x2) := by
    match lsx, pls with
    | [x1, x2], .cons ⟨p1, e1, hp1⟩ (.cons ⟨p2, e2, hp2⟩ .nil) => exact ⟨x1, x2, p1, p2, rfl, e1, e2, hp1, hp2⟩
  have fl : [x1, x2].flatten = x1 ++ x2 := by simp
  rw [fl] at lls pMs
  have lls' : (x1 ++ x2).length = 4 := lls
  rw [List.length_append] at lls'
  have hD11 := e11 _ _ hD10
  refine not_go ?_
  refine ⟨.ref D1, rfl, D1, _, 0, .ref p1, rfl, rfl, sq_of hD11, rfl, p1, x1, rfl, .inr (st_of hp1), fun m1 nm1 => ?_⟩
  have g1 := Ex.new (o := .lst x1) nm1
  refine ⟨.ref D1, rfl, D1, _, 2, .ref p2, rfl, rfl, sq_of (g1 _ _ hD11), rfl, p2, x2, rfl, .inr (st_of (g1 _ _ hp2)), fun m2 nm2 => ?_⟩
  have g2 := Ex.new (o := .lst x2) nm2
  refine ⟨m1, m2, x1, x2, rfl, rfl, g2 _ _ upd_same, upd_same, sz_of (by omega), fun m3 nm3 => ?_⟩
  have g3 := Ex.new (o := .lst (x1 ++ x2)) nm3
  have g := (g1.trans g2).trans g3
  have m3n : H11 m3 = none := exf (g1.trans g2) nm3
  have hm3 : (upd (upd (upd H11 m1 (.lst x1)) m2 (.lst x2)) m3 (.lst (x1 ++ x2))) m3 = some (.lst (x1 ++ x2)) := upd_same
  generalize upd (upd (upd H11 m1 (.lst x1)) m2 (.lst x2)) m3 (.lst (x1 ++ x2)) = H12 at g hm3
  have l12 : Lt T H2 H12 := l11.go g
  have pM12 : Paired (fun v M => Tr H12 3 v M) (x1 ++ x2) Ms := pimp (fun _ _ t => Tr.ext g t) pMs
  have tr : Tr H12 4 (.ref m3) (m3 :: Ms.flatten) := .inr (.inl ⟨m3, x1 ++ x2, Ms, rfl, hm3, by rw [List.length_append]; omega, pM12, rfl⟩)
  have lst12 := Tr.lists tr
  have in5 : ∀ b ∈ L5, b ∈ m3 :: Ms.flatten := fun b m => by
    rw [eMs]
    exact List.mem_cons_of_mem _ (List.mem_append_left _ m)
  have nd : (m3 :: Ms.flatten).Nodup := by
    rw [eMs, List.append_nil]
    refine List.nodup_cons.mpr ⟨fun m => ?_, List.nodup_append.mpr ⟨nd5, nd9, fun a ha b hb z => ?_⟩⟩
    · rcases List.mem_append.mp m with y | y
      · obtain ⟨o, ho⟩ := dm5 m3 y
        obtain ⟨vs, hv⟩ := lst12 m3 List.mem_cons_self
        by_cases q : ∃ ps, o = .tbl ps
        · obtain ⟨ps, rfl⟩ := q
          have k := x5 _ _ ho
          have := fmW_list r5' m3 y
          obtain ⟨vs', hv'⟩ := this
          rw [(nt_of hv').1] at ho
          cases ho
        · have k := x10 _ _ (nt_mk ho fun ps z => q ⟨ps, z⟩)
          rw [e11 _ _ k] at m3n
          cases m3n
      · obtain ⟨o, ho⟩ := dm9 m3 y
        rw [e11 _ _ (s10 _ _ ho)] at m3n
        cases m3n
    · obtain ⟨vs', hv'⟩ := fmW_list r5' a ha
      obtain ⟨o, ho⟩ := dm9 b hb
      have k := o9' b o ho
      rw [← z, nt_mk (x5 _ _ (nt_of hv').1) (fun ps w => by cases w)] at k
      cases k
  refine ⟨.ref m3, m3 :: Ms.flatten, rfl, tr, nd, fun H13 f13 => ⟨true, rfl, ?_⟩⟩
  refine if_no (by decide) ?_
  have nw : ∀ b ∈ m3 :: Ms.flatten, nt H2 b = none := fun b m => by
    rw [eMs, List.append_nil] at m
    rcases List.mem_cons.mp m with y | y
    · rw [y]
      exact exf (nt_ex (Ex.refl H2) l11.n) m3n
    · rcases List.mem_append.mp y with y | y
      · obtain ⟨o, ho⟩ := dm5 b y
        exact o5 b o ho
      · obtain ⟨o, ho⟩ := dm9 b y
        exact exf (nt_mono l6.n) (o9' b o ho)
  have l13 : Lt T H2 H13 := spoil_lt l12 lst12 nw f13
  have e13 : Ex A3 H13 := n3.ex e3 l13.n
  exact b_oddFor0 (A := A3) n3 e13 l13.t (oddL (ls := ls) (lv := .ref Dl) (kv := kv) rfl rfl k3 rl3 gk sub h0 (gl _ (List.mem_of_getElem? h0))) odL_n (IsO pv v kv (some (.ref Dl))) ⟨_, _, _, _, _, _, _, rfl⟩
    (fun x σ' H1 H' A5 eH t1 eA n5 e5 r i l D nx => body1 n5 e5 (DV.ext eA k3) gk (DV.ext eA rl3) l9 gl r i l nx) fun σ' H' i l => nx σ' H' i (l2.trans (l13.trans l))
end
end K07
/-! text E35 -/
set_option Elab.async false
set_option linter.all false
set_option maxRecDepth 100000
set_option maxHeartbeats 8000000
/-! _law_least_right: the walk -/
namespace K07
open PySem PySem.Spec PyProof.Rows L2 Evl PySem.W Dw Dw.DV RZ StX Lot LmV LamX NdefX XvC KwX
section
variable {P : Program} {w : World} {K : PySem.W.Frag} {mg : Str → Option Value} {base : Heap} {T : List (Addr × Str)} {fa : Nat → Addr} {da : Nat → FuncData} {c pt : Nat → Addr}
abbrev NLr : List Str := ["stream", "family", "keepers", "k", "lots", "passed", "was", "due", "found", "odd", "mine", "j"]
theorem scLr : FnScope NLr ["stream", "family"] (defScope (top 59)) := ⟨rfl, rfl, rfl, by decide +kernel, rfl, by decide +kernel, by decide +kernel⟩
def spLr (T : List (Addr × Str)) : Sp := fun vs H Q _ => ∃ (p c0 : Addr) (n : Int) (v : V) (F : FamT) (A : Hp), vs = [.ref p, v] ∧ St H p c0 n ∧ n ≤ 780000 ∧ Ex A H ∧ NT A ∧ A p = none ∧ A c0 = none ∧ Tabs T H ∧ rep A v F ∧ GoodF goodName F ∧ F.1 ⊆ nameL ∧
  ∀ H', ExD p c0 H H' → Tabs T H' → St H' p c0 (n + 5000) → Q (.bl true) H'
abbrev tBadCall (T : List (Addr × Str)) (c : Nat → Addr) (ta tb : TE) : TE := tLam T (TMet c) fun E => tCall (spFamOf T (c 2) (c 4)) [] E (tCons ta (tCons tb tNil))
abbrev tCp (i : Nat) : TE := tCall (spC 8) [] E0 (tCons (tVar i) tNil)
abbrev tIfNot (t : TT) : TS := tIfS t tNever tNext
theorem head0 {α : Type} {l : List α} (n : l ≠ []) : ∃ x, l[0]? = some x := by
  match l, n with
  | x :: _, _ => exact ⟨x, rfl⟩
theorem ok_lr (W : Wd P w K mg base T fa da c pt) : FnOk P w K mg base CX0 11 (fa 59) (da 59) ["stream", "family"] (spLr T) := by
  have B := W.b
  have DC := W.d 48 "_law_copied" (by decide +kernel)
  have GC := ok_copied (P := P) (w := w) (base := base) DC.F DC.g W.b 8
  have bC : Binds K (da 48) ["thing"] [] := df_b1 DC (by intros; rfl)
  have DS := W.d 49 "_law_same" (by decide +kernel)
  have GS := ok_same (P := P) (w := w) (base := base) DS.F DS.g W.b 9
  have bS : Binds K (da 49) ["found", "due"] [] := df_b2 DS (by intros; rfl)
  have DM := W.d 47 "_law_mixed" (by decide +kernel)
  have DD := W.d 46 "_law_draw" (by decide +kernel)
  have GM : FnOk P w K mg base CX0 2 (fa 47) (da 47) ["stream", "some"] (spMixed K) := ok_mixed DM.F DD.F DD.g W.b.int W.b.list W.b.len W.b.range
  have bM : Binds K (da 47) ["stream", "some"] [] := df_b2 DM (by intros; rfl)
  have GD : FnOk P w K mg base CX0 1 (fa 46) (da 46) ["stream", "many"] spDraw := ok_draw DD.F W.b.int
  have bD : Binds K (da 46) ["stream", "many"] [] := df_b2 DD (by intros; rfl)
  have DL := W.d 40 "_law_a_lot" (by decide +kernel)
  have GL : FnOk P w K mg base CX0 3 (fa 40) (da 40) ["stream", "keepers"] spLotD := ok_lotD DL.F W.b DD DM
  have bL : Binds K (da 40) ["stream", "keepers"] [] := df_b2 DL (by intros; rfl)
  have DO := W.d 51 "_law_loose" (by decide +kernel)
  have GO := ok_loose (P := P) (w := w) (base := base) DO.F DO.g W.b DD 5
  have bO : Binds K (da 51) ["stream", "thing"] [] := df_b2 DO (by intros; rfl)
  have DA := W.d 54 "_law_apart" (by decide +kernel)
  have GA : FnOk P w K mg base CX0 6 (fa 54) (da 54) ["thing"] (spAprt 4) := ok_aprt DA.F W.b (W.d 52 _ (by decide +kernel)) (W.d 53 _ (by decide +kernel)) 4
  have bA : Binds K (da 54) ["thing"] [] := df_b1 DA (by intros; rfl)
  have DN := W.d 39 "_law_a_least" (by decide +kernel)
  have GN : FnOk P w K mg base CX0 2 (fa 39) (da 39) ["lots"] spAl := ok_al DN.F W.b (W.d 50 _ (by decide +kernel)) (W.d 37 _ (by decide +kernel))
  have bN : Binds K (da 39) ["lots"] [] := df_b1 DN (by intros; rfl)
  have DF := W.d 29 "family_of" (by decide +kernel)
  have GF : FnOk P w K mg base (L2.CX P w) 4 (fa 29) (da 29) ["keepers", "lots"] (spFamOf T (c 2) (c 4)) := ok_famOf DF.F W.b W.fs (W.d 27 _ (by decide +kernel)) (W.d 28 _ (by decide +kernel)) (W.d 25 _ (by decide +kernel)) W.le W.bk W.bl
  have bF : Binds K (da 29) ["keepers", "lots"] [] := df_b2 DF (by intros; rfl)
  have sF := binds_sw (a := "keepers") (b := "lots") DF.F (by intros; rfl)
  obtain ⟨tb, tm, tu⟩ := W.tb 59 "_law_least_right.<locals>.<lambda>" (by decide +kernel)
  refine okC (W.d 59 "_law_least_right" (by decide +kernel)).F scLr (fun vs H Q E h => ?_) (fun cc A outer s H vs Q E hc hr h => ?_)
  · obtain ⟨p, c0, n, v, F, A0, rfl, _⟩ := h
    rfl
  · refine ⟨_, PSs.nox (pss_cons (ps_set (i := 2) scLr.nd rfl (.inr rfl) (pe_ix ix_tup (pv 1) pe_int (fun _ _ => rfl)))
      (pss_cons (ps_for PassesOwn.never rfl (pi_range1 (by rfl) B.range (pa_cons pe_int pa_nil)) (pg_name (i := 3) scLr.nd rfl (.inl rfl))
        (pss_cons (ps_setLc (i := 4) (own := [("j", 11)]) (g := gName 11) (tt := tYes) (te := tCall (spMixed K) [] E0 (tCons (tVar 0) (tCons (tCall spLotD [] E0 (tCons (tVar 0) (tCons (tVar 2) tNil))) tNil))) rfl scLr.nd rfl rfl (sw_true rfl rfl (by rfl) (by rfl)) (pi_range1 (by rfl) B.range (pa_cons (pe_op op_add pe_int (pe_call GD (hr.mono (by decide)) (by rfl) DD.g DD.F.kp bD .nil pass0 (pa_cons (pv 0) (pa_cons pe_int pa_nil)))) pa_nil)) (blkOk_by (N := NLr) (sc := defScope (top 59)) (by decide +kernel))
          (fun _ _ _ _ _ => pg_name (i := 11) scLr.nd rfl (.inl rfl)) (fun _ _ _ _ _ => pts_nil)
          (fun _ _ _ _ _ => pe_call GM (hr.mono (by decide)) (by rfl) DM.g DM.F.kp bM .nil pass0 (pa_cons (pv 0) (pa_cons (pe_call GL (hr.mono (by decide)) (by rfl) DL.g DL.F.kp bL .nil pass0 (pa_cons (pv 0) (pa_cons (pv 2) pa_nil))) pa_nil))))
        (pss_cons (ps_set (i := 5) scLr.nd rfl (.inl rfl) (pe_lst (pa_cons (pe_call GO (hr.mono (by decide)) (by rfl) DO.g DO.F.kp bO .nil pass0 (pa_cons (pv 0) (pa_cons (pv 2) pa_nil))) (pa_cons (pe_call GO (hr.mono (by decide)) (by rfl) DO.g DO.F.kp bO .nil pass0 (pa_cons (pv 0) (pa_cons (pv 4) pa_nil))) pa_nil))))
        (pss_cons (ps_par (i := 6) (j := 7) rfl scLr.nd rfl rfl (by decide) rfl rfl (pa_cons (pe_call GC (hr.mono (by decide)) (by rfl) DC.g DC.F.kp bC .nil pass0 (pa_cons (pv 5) pa_nil))
          (pa_cons (pe_tup (pa_cons (pv 2) (pa_cons (pe_call GN (hr.mono (by decide)) (by rfl) DN.g DN.F.kp bN .nil pass0 (pa_cons (pv 4) pa_nil)) pa_nil))) pa_nil)) (by rfl))
        (pss_cons (ps_set (i := 8) scLr.nd rfl (.inl rfl) (pe_lst (pa_cons (pe_call GF (hr.mono (by decide)) (by rfl) DF.g DF.F.kp bF .nil passL (pa_cons (pe_ix ix_list (pv 5) pe_int (fun _ _ => rfl)) (pa_cons (pe_ix ix_list (pv 5) pe_int (fun _ _ => rfl)) pa_nil))) (pa_cons (pv 5) pa_nil))))
        (pss_cons (ps_expr (pe_bm PySem.F.plainAttrs_list PySem.F.slot_list_append PySem.F.type_list_append mt_append (pv 8) (pa_cons (pe_callSw GF (hr.mono (by decide)) (by rfl) DF.g DF.F.kp sF passL (pk_cons (pe_call GC (hr.mono (by decide)) (by rfl) DC.g DC.F.kp bC .nil pass0 (pa_cons (pv 4) pa_nil)) (pk_cons (pe_call GC (hr.mono (by decide)) (by rfl) DC.g DC.F.kp bC .nil pass0 (pa_cons (pv 2) pa_nil)) pk_nil))) pa_nil)))
        (pss_cons (ps_if (pw_or (pt_not (pt_val (pe_call GS (hr.mono (by decide)) (by rfl) DS.g DS.F.kp bS .nil pass0 (pa_cons (pv 8) (pa_cons (pe_lst (pa_cons (pv 7) (pa_cons (pv 6) (pa_cons (pv 7) pa_nil)))) pa_nil)))))
          (pw_or1 (pt_not (pt_val (pe_call GA (hr.mono (by decide)) (by rfl) DA.g DA.F.kp bA .nil pass0 (pa_cons (pe_op op_cat (pe_callTy call_list_of (by rfl) B.list (by decide +kernel) (pa_cons (pe_ix ix_list (pv 8) pe_int (fun _ _ => rfl)) pa_nil)) (pe_callTy call_list_of (by rfl) B.list (by decide +kernel) (pa_cons (pe_ix ix_list (pv 8) pe_int (fun _ _ => rfl)) pa_nil))) pa_nil)))))).pt pss_never pss_nil)
        (pss_one (ps_for PassesOwn.never rfl (pi_tup (pe_tup (pa_cons pe_non (pa_cons (pe_lst pa_nil) (pa_cons pe_int (pa_cons pe_str (pa_cons (pe_lst (pa_cons pe_str pa_nil)) (pa_cons (pe_lst (pa_cons pe_non pa_nil)) (pa_cons (pe_op op_cat (pe_ix ix_list (pv 4) pe_int (fun _ _ => rfl)) (pe_slice sl_list (pe_ix ix_list (pv 4) pe_int (fun _ _ => rfl)) po_none (po_some pe_int)))
            (pa_cons pe_dnewK (pa_cons (pe_lst (pa_cons (pe_lst (pa_cons (pe_ix ix_list (pv 2) pe_int (fun _ _ => rfl)) pa_nil)) pa_nil)) pa_nil))))))))))) (pg_name (i := 9) scLr.nd rfl (.inr rfl))
          (pss_cons (ps_set (i := 10) scLr.nd rfl (.inr rfl) (pe_op op_cat (pv 4) (pe_lst (pa_cons (pv 9) pa_nil))))
          (pss_cons (ps_set (i := 8) scLr.nd rfl (.inl rfl) (pe_met (k := 8) (t := fun E => tCall (spFamOf T (c 2) (c 4)) [] E (tCons (tCp 2) (tCons (tCp 10) tNil))) (defScope (top 59)) W (by rfl) (tb cc hc) rfl tm tu (hr.mono (by decide)) rfl (by decide +kernel) rfl (fun _ _ _ _ _ => rfl)
            (fun A outer s H E f c' hr2 => pe_call GF (hr2.mono (by decide)) (by rfl) DF.g DF.F.kp bF .nil (passes_call (takes_of rfl rfl rfl rfl) fun _ _ _ _ h => h) (pa_cons (pe_call GC hr2 (by rfl) DC.g DC.F.kp bC .nil pass0 (pa_cons (pv 2) pa_nil)) (pa_cons (pe_call GC hr2 (by rfl) DC.g DC.F.kp bC .nil pass0 (pa_cons (pv 10) pa_nil)) pa_nil)))))
          (pss_one (ps_if (pt_not (pt_val (pe_call GS (hr.mono (by decide)) (by rfl) DS.g DS.F.kp bS .nil pass0 (pa_cons (pv 8) (pa_cons (pe_tup (pa_cons pe_str (pa_cons (pe_callB call_len_seq (by rfl) B.len PySem.boot_len (pa_cons (pv 4) pa_nil)) pa_nil))) pa_nil))))) pss_never pss_nil)))))))))))))
      (pss_cons (ps_for PassesOwn.never rfl (pi_tup (pe_tup (pa_cons pe_non (pa_cons pe_int (pa_cons pe_str (pa_cons (pe_lst pa_nil) (pa_cons pe_dnewK (pa_cons (pe_tup pa_nil) pa_nil)))))))) (pg_name (i := 9) scLr.nd rfl (.inr rfl))
          (pss_one (ps_if (pt_not (pt_val (pe_call GS (hr.mono (by decide)) (by rfl) DS.g DS.F.kp bS .nil pass0 (pa_cons (pe_met (k := 8) (t := fun E => tCall (spFamOf T (c 2) (c 4)) [] E (tCons (tCp 2) (tCons (tCp 9) tNil))) (defScope (top 59)) W (by rfl) (tb cc hc) rfl tm tu (hr.mono (by decide)) rfl (by decide +kernel) rfl (fun _ _ _ _ _ => rfl)
            (fun A outer s H E f c' hr2 => pe_call GF (hr2.mono (by decide)) (by rfl) DF.g DF.F.kp bF .nil (passes_call (takes_of rfl rfl rfl rfl) fun _ _ _ _ h => h) (pa_cons (pe_call GC hr2 (by rfl) DC.g DC.F.kp bC .nil pass0 (pa_cons (pv 2) pa_nil)) (pa_cons (pe_call GC hr2 (by rfl) DC.g DC.F.kp bC .nil pass0 (pa_cons (pv 9) pa_nil)) pa_nil)))) (pa_cons (pe_tup (pa_cons pe_str (pa_cons pe_int pa_nil))) pa_nil))))) pss_never pss_nil)))
      (pss_cons (ps_for PassesOwn.never rfl (pi_tup (pe_tup (pa_cons pe_non (pa_cons pe_int (pa_cons pe_str (pa_cons (pe_lst pa_nil) (pa_cons pe_dnewK (pa_cons (pe_tup pa_nil) (pa_cons (pe_lst (pa_cons pe_str pa_nil)) (pa_cons (pe_op op_cat (pv 2) (pe_slice sl_list (pv 2) po_none (po_some pe_int))) (pa_cons (pe_lst (pa_cons pe_non pa_nil)) (pa_cons (pe_lst (pa_cons pe_str (pa_cons pe_str pa_nil))) (pa_cons (pe_lst (pa_cons pe_str pa_nil)) (pa_cons (pe_lst (pa_cons pe_str (pa_cons pe_str pa_nil))) pa_nil)))))))))))))) (pg_name (i := 9) scLr.nd rfl (.inr rfl))
          (pss_one (ps_if (pt_not (pt_val (pe_call GS (hr.mono (by decide)) (by rfl) DS.g DS.F.kp bS .nil pass0 (pa_cons (pe_met (k := 8) (t := fun E => tCall (spFamOf T (c 2) (c 4)) [] E (tCons (tCp 9) (tCons (tUn (rU fun i => .int (-i)) (tC (.int 1))) tNil))) (defScope (top 59)) W (by rfl) (tb cc hc) rfl tm tu (hr.mono (by decide)) rfl (by decide +kernel) rfl (fun _ _ _ _ _ => rfl)
            (fun A outer s H E f c' hr2 => pe_call GF (hr2.mono (by decide)) (by rfl) DF.g DF.F.kp bF .nil (passes_call (takes_of rfl rfl rfl rfl) fun _ _ _ _ h => h) (pa_cons (pe_call GC hr2 (by rfl) DC.g DC.F.kp bC .nil pass0 (pa_cons (pv 9) pa_nil)) (pa_cons (pe_un un_neg pe_int) pa_nil)))) (pa_cons (pe_tup (pa_cons pe_str (pa_cons (pv 9) pa_nil))) pa_nil))))) pss_never pss_nil)))
      (pss_one (ps_ret pe_bl)))))), ?_⟩
    obtain ⟨p, c0, n, v, F, A0, rfl, hst, hn, eA, nA, Ap, Ac, tt, hv, g, sub, q⟩ := h
    have kl := g.ks.len
    have hv' := hv
    obtain ⟨a, v1, v2, rfl, ha, r1, r2⟩ := hv'
    refine ⟨.ref a, rfl, a, [v1, v2], 0, v1, rfl, rfl, st_of (eA _ _ ha), rfl, ?_⟩
    refine nm_go ?_
    have l30 : F.1.length ≤ 30 := by
      have := sub_len (g.ks.asc.nodup sl_tot) sub
      have : nameL.length = 11 := rfl
      omega
    -- what goes on standing
    have keep : ∀ {H'}, ExD p c0 H H' → Ex A0 H' := fun {H'} x b o h => x b o (fun m => by
      rcases List.mem_cons.mp m with z | m
      · rw [z, Ap] at h
        cases h
      · rw [List.mem_singleton.mp m, Ac] at h
        cases h) (eA _ _ h) fun ps z => nA b ps (by rw [h, z])
    have stL : ∀ {H1 H2 : Hp} {m : Int}, St H1 p c0 m → Lt T H1 H2 → St H2 p c0 m := fun {H1 H2 m} s l => by
      obtain ⟨ne', cells, rest, cnt, mix, gp, gc, gl⟩ := s
      exact ⟨ne', cells, rest, cnt, mix, l.n _ _ gp (fun _ z => by cases z), l.n _ _ gc (fun _ z => by cases z), gl⟩
    have ln : ∀ {H1 H2 : Hp}, ExD p c0 H H1 → Lt T H1 H2 → ExD p c0 H H2 := fun {H1 H2} x l b o m h nt' => l.n b o (x b o m h nt') nt'
    refine b_forR (n := 4) (Ex.refl H) (show EvA (tCons (tC (.int 4)) tNil) _ H [.int 4] from fun H1 e Q q => q H1 (Ex.refl H1)) (by decide) (by decide) rfl (fun i σ H' => IsE (.ref p) (.ref a) v1 σ ∧ ExD p c0 H H' ∧ Tabs T H' ∧ St H' p c0 (n + 1100 * i)) (fun H1 e1 => ?_) (fun i σ H1 hi hI => ?_) fun σ H1 hI => ?_
    · obtain ⟨o1, hp⟩ := hst.p
      obtain ⟨o2, hc2⟩ := hst.c
      exact ⟨⟨_, _, _, _, _, _, _, _, rfl⟩, fun b o _ h _ => e1 _ _ h, tt.ext e1, hst.ext ((e1 _ _ hp).trans hp.symm) ((e1 _ _ hc2).trans hc2.symm) (by omega)⟩
    · obtain ⟨⟨y3, y4, y5, y6, y7, y8, y9, y10, rfl⟩, xd, t1, s1⟩ := hI
      refine nm_go ?_
      refine lots_made (A := A0) (ks := F.1) s1 (by omega) (keep xd) Ap Ac r1 g.ks l30 fun Dl H2 B' ls x2 s2 eB Bp Bc rl ne l9 gl => ?_
      have eA2 : Ex A0 H2 := exb (keep xd) Ap Ac x2
      have eB2 : Ex (nt B') H2 := nt_sub.trans eB
      have A2e : Ex (jn A0 (nt B')) H2 := jn_ex eA2 eB2
      have n2 : NT (jn A0 (nt B')) := nA.jn (nt_NT B')
      have off : ∀ {b : Addr}, A0 b = none → B' b = none → (jn A0 (nt B')) b = none := fun {b} h1 h2 => by
        cases m : (jn A0 (nt B')) b with
        | none => rfl
        | some o =>
          rcases jn_of m with z | z
          · rw [h1] at z
            cases z
          · rw [(nt_of z).1] at h2
            cases h2
      have Ap2 := off Ap Bp
      have Ac2 := off Ac Bc
      have k2 : rep (jn A0 (nt B')) v1 F.1 := DV.ext jn_l r1
      have rl2 : rep (jn A0 (nt B')) (.ref Dl) ls := DV.ext (jn_r eA2 eB2) (DVN.extN (nt_ext B') rl)
      generalize jn A0 (nt B') = A2 at A2e n2 Ap2 Ac2 k2 rl2
      have ll : ∀ l ∈ ls, l.length ≤ 100 := fun l m => by
        have := sub_len (gl l m).2.2 (gl l m).2.1
        omega
      refine ⟨.ref p, rfl, v1, rfl, p, c0, _, v1, A2, 1, rfl, s2, by omega, A2e, Ap2, Ac2, sz_ls (d := 3) k2 (by omega), fun u1 H3 Hs1 x3 s3 e3 o3 lz1 => ?_⟩
      refine ⟨.ref p, rfl, .ref Dl, rfl, p, c0, _, .ref Dl, A2, ls.length + 1, rfl, s3, by omega, exb A2e Ap2 Ac2 x3, Ap2, Ac2, sz_ll (d := 2) rl2 (by omega) (fun l m => by have := ll l m; omega), fun u2 H4 Hs2 x4 s4 e4 o4 lz2 => ?_⟩
      refine ⟨by show 2 ≤ sizeLine; decide, fun P nP => nm_go ?_⟩
      have f1 := lsR_n (nt_ext Hs1) (lz_ls k2 lz1)
      have f2 := llR_n (nt_ext Hs2) (lz_ll rl2 lz2)
      have E2 : Ex A2 H4 := exb (exb A2e Ap2 Ac2 x3) Ap2 Ac2 x4
      have E3 : Ex (nt Hs1) H4 := fun b o h => x4 b o (nPC s2 (o3 b o (nt_of h).1)) (e3 _ _ (nt_of h).1)
      have E4 : Ex (nt Hs2) H4 := nt_sub.trans e4
      have E5 : Ex (jn A2 (nt Hs1)) H4 := jn_ex E2 E3
      have J : Ex (jn (jn A2 (nt Hs1)) (nt Hs2)) H4 := jn_ex E5 E4
      have JP := exf J nP
      have up : Ex (jn (jn A2 (nt Hs1)) (nt Hs2)) (upd (jn (jn A2 (nt Hs1)) (nt Hs2)) P (.lst [u1, u2])) := Ex.new JP
      have n5 : NT (upd (jn (jn A2 (nt Hs1)) (nt Hs2)) P (.lst [u1, u2])) := fun b ps h => by
        by_cases y : b = P
        · rw [y, upd_same] at h
          cases h
        · rw [upd_ne y] at h
          exact ((n2.jn (nt_NT Hs1)).jn (nt_NT Hs2)) b ps h
      obtain ⟨l0, h0⟩ := head0 ne
      have t5 : Tabs T (upd H4 P (.lst [u1, u2])) := (tabs_exb (tabs_exb (tabs_exb t1 s1 x2) s2 x3) s3 x4).ext (Ex.new nP)
      have x5 : ExB [p, c0] H1 (upd H4 P (.lst [u1, u2])) := ((x2.trans x3).trans x4).trans (ExB.new nP)
      have s5 : St (upd H4 P (.lst [u1, u2])) p c0 (n + 1100 * ((i + 1 : Nat) : Int)) := (s4.new nP).up (by omega)
      refine turn_rest (A := upd (jn (jn A2 (nt Hs1)) (nt Hs2)) P (.lst [u1, u2])) n5 (upd_ex2 J) t5 (DV.ext ((jn_l.trans jn_l).trans up) k2) (DV.ext ((jn_l.trans jn_l).trans up) rl2) upd_same (lsR_mon _ _ _ _ (((jn_r E2 E3).trans jn_l).trans up) f1) (llR_mon _ _ _ _ ((jn_r E5 E4).trans up) f2) g.ks sub gl h0 (by omega) fun σ2 H6 io l => ?_
      obtain ⟨z3, z5, z6, z7, z8, z9, z10, rfl⟩ := io
      exact ⟨⟨_, _, _, _, _, _, _, _, rfl⟩, ln (fun b o m h n' => x5 b o m (xd b o m h n')) l, l.t, stL s5 l⟩
    · obtain ⟨⟨y3, y4, y5, y6, y7, y8, y9, y10, rfl⟩, xd, t1, s1⟩ := hI
      refine b_oddFor (A := A0) nA (keep xd) t1 (oddN (ks := F.1)) odN_n (IsE (.ref p) (.ref a) v1) ⟨_, _, _, _, _, _, _, _, rfl⟩ (fun x σ' H1 H' A5 eH t1 eA n5 e5 r i l D nx => body2 n5 e5 (DV.ext eA r1) g.ks r i l nx) fun σ' H2 i2 l2 => ?_
      obtain ⟨z3, z4, z5, z6, z7, z8, z9, z10, rfl⟩ := i2
      refine b_oddFor (A := A0) nA (nA.ex (keep xd) l2.n) l2.t (oddK (kv := v1) rfl r1 g.ks) odK_n (IsE (.ref p) (.ref a) v1) ⟨_, _, _, _, _, _, _, _, rfl⟩ (fun x σ' H1 H' A5 eH t1 eA n5 e5 r i l D nx => body3 n5 e5 r i l nx) fun σ' H3 i3 l3 => ?_
      exact q H3 (ln (ln xd l2) l3) l3.t ((stL (stL s1 l2) l3).up (by omega))
end
end K07
/-! text E36 -/
set_option Elab.async false
set_option linter.all false
set_option maxRecDepth 100000
set_option maxHeartbeats 4000000
/-! _law_a_meet, _law_a_family -/
namespace K07
open PySem PySem.Spec PyProof.Rows L2 Evl PySem.W Dw Dw.DV RZ StX Lot LmV LamX NdefX XvC KwX
section
variable {P : Program} {w : World} {K : PySem.W.Frag} {mg : Str → Option Value} {base : Heap} {f : Addr} {fd : FuncData}
theorem scMeetA : FnScope ["one", "other", "keeper"] ["one", "other"] (defScope (top 38)) := ⟨rfl, rfl, rfl, by decide +kernel, rfl, by decide +kernel, by decide +kernel⟩
def meetA (one other : List Str) : Bool := one.any fun x => decide (x ∈ other)
theorem ok_meetA (F : FnP K "_law_a_meet" (top 38) f fd) (ma : mg "any" = none) : FnOk P w K mg base CX0 1 f fd ["one", "other"] (sp2 (fun one _ => one.length ≤ 1000) meetA) := by
  refine F.ok scMeetA (fun vs H Q E h => ?_) (fun cdv A outer s H vs Q E hr h => ?_)
  · obtain ⟨v, u, _, _, _, rfl, _⟩ := h
    rfl
  · obtain ⟨v, u, one, other, B, rfl, eB, hv, hu, hl, q⟩ := h
    refine ⟨_, PSs.nox (pss_one (ps_ret (pe_callB (cr_any rfl) (by rfl) ma (by decide +kernel) (pa_cons (pe_lc (own := [("keeper", 2)]) (g := gName 2) (tt := tYes) (te := tOp (rInW Str false) (tVar 2) (tVar 1)) rfl scMeetA.nd
      (pi_list (pv 0)) (blkOk_by (N := ["one", "other", "keeper"]) (sc := defScope (top 38)) (by decide +kernel))
      (fun _ _ _ _ _ => pg_name (i := 2) scMeetA.nd rfl (.inl rfl)) (fun _ _ _ _ _ => pts_nil) (fun _ _ _ _ _ => pe_cmpR (op_inW (α := Str) (uS hr)) (pv 2) (pv 1) (by rfl))) pa_nil)))), ?_⟩
    have lc := ed_lc (K := K) (σ := [some v, some u, none]) (H := B) (tl := tVar 0) (tt := tYes) (te := tOp (rInW Str false) (tVar 2) (tVar 1)) (j := 2) (vs := [2]) (fun _ : Str => true) (fun x : Str => decide (x ∈ other)) (ed_var (v := v) rfl hv) (by omega) (fun _ => rfl) (fun _ _ _ _ _ _ => et_yes)
      fun x y H1 e _ r _ => ed_bl (ev_inD (ed_var (i := 2) (v := y) rfl r) (ed_var (i := 1) (v := u) rfl (DV.ext e hu)))
    have an := ev_anyD (K := K) lc
    rw [List.filter_eq_self.mpr (fun _ _ => rfl), List.any_map] at an
    exact b_ret (Bs.start eB) (ed_bl an) q
end
/-- a family as the law draws it -/
structure GF (F : FamT) : Prop where
  g : GoodF goodName F
  s : F.1 ⊆ nameL
  l : F.2.length ≤ 64
/-- (keepers, _law_a_least(lots)) told -/
theorem fam_tail {H0 Hn B H : Hp} {kv v4 : V} {ks : List Str} {ls : List (List Str)} {p c : Addr} {n m : Int} {Q : VK} (k : rep Hn kv ks) (rl : rep B v4 ls) (eN : Ex Hn H) (eB : Ex B H) (oN : ∀ b o, Hn b = some o → H0 b = none) (oB : ∀ b o, B b = some o → H0 b = none) (x : ExB [p, c] H0 H) (s : St H p c n) (gk : GoodK goodName ks) (sub : ks ⊆ nameL)
    (ne : ls ≠ []) (gl : ∀ l ∈ ls, GoodL ks l) (l64 : ls.length ≤ 64) (hm : n ≤ m) (q : EndS (fun _ => none) H0 p c m GF Q) : spAl [v4] H (fun u H4 => 2 ≤ sizeLine ∧ ∀ T, H4 T = none → Q (.ref T) (upd H4 T (.tup [kv, u]))) E0 := by
  have kl := gk.len
  refine ⟨v4, ls, B, rfl, eB, rl, ⟨by omega, fun l m => (gl l m).ne, fun l m => by have := (gl l m).len; omega⟩, fun u H4 Hs e4 sp4 r4 => ?_⟩
  rw [aLeast_eq fun l m => (gl l m).asc] at r4
  refine ⟨by show 2 ≤ sizeLine; decide, fun T nT => ?_⟩
  obtain ⟨o1, h1⟩ := s.p
  obtain ⟨o2, h2⟩ := s.c
  have s4 : St H4 p c n := s.ext ((e4 _ _ h1).trans h1.symm) ((e4 _ _ h2).trans h2.symm) (Int.le_refl _)
  have x4 : ExB [p, c] H0 H4 := x.trans (ExB.of e4)
  have eN4 : Ex Hn H4 := eN.trans e4
  have eJ : Ex (jn Hn Hs) H4 := jn_ex eN4 sp4.e
  have nJ := exf eJ nT
  have h : (leastOf ls).length ≤ ls.length := leastOf_len
  refine q (ks, leastOf ls) (.ref T) _ (upd (jn Hn Hs) T (.tup [kv, u])) ⟨goodF_least gk ne gl (by omega), sub, by show (leastOf ls).length ≤ 64; omega⟩ (x4.trans (ExB.new nT)) ((s4.new nT).up hm) (upd_ex2 eJ) (fun b o z => .inr ?_) ⟨T, kv, u, rfl, upd_same, DV.ext (jn_l.trans (Ex.new nJ)) k, DV.ext ((jn_r eN4 sp4.e).trans (Ex.new nJ)) r4⟩
  by_cases y : b = T
  · rw [y]
    exact exb_none x4 s4 nT
  · rw [upd_ne y] at z
    rcases jn_of z with z | z
    · exact oN b o z
    · rcases sp4.o b o z with w | w
      · exact oB b o w
      · exact exb_none x s w
/-- lots drawn, ascending -/
theorem lots_asc {A H : Hp} {kv : V} {ks : List Str} {pA c0 : Addr} {n : Int} {σ : L2.St} {j : Nat} {Q : VK} (h0 : ∀ x, ((wipe σ [j]).set j (some x))[0]? = some (some (.ref pA))) (h2 : ∀ x, ((wipe σ [j]).set j (some x))[2]? = some (some kv)) (z0 : σ[0]? = some (some (.ref pA))) (hw : ∀ x, wipe ((wipe σ [j]).set j (some x)) [j] = wipe σ [j])
    (hst : St H pA c0 n) (hn : n ≤ 890000) (eA : Ex A H) (Ap : A pA = none) (Ac : A c0 = none) (rk : rep A kv ks) (gk : GoodK goodName ks) (l30 : ks.length ≤ 30)
    (q : ∀ Dl H' B ls, ExB [pA, c0] H H' → St H' pA c0 (n + 300) → Ex B H' → (∀ b o, B b = some o → A b = some o ∨ H b = none) → rep B (.ref Dl) ls → ls ≠ [] → ls.length ≤ 7 → (∀ l ∈ ls, GoodL ks l) → Q (.ref Dl) H') :
    tLc (iRng1 (tCons (tOp (rI0 fun i j => V.int (i + j)) (tC (V.int 1)) (tCall spDraw [] E0 (tCons (tVar 0) (tCons (tC (V.int 7)) tNil)))) tNil)) (gName j) tYes (tCall spLotD [] E0 (tCons (tVar 0) (tCons (tVar 2) tNil))) [j] σ H Q := by
  refine ⟨.ref pA, z0, pA, c0, n, 7, rfl, hst, by omega, by omega, by omega, fun r H2 r0 r1 e2 s2 => ?_⟩
  refine ⟨1, r, rfl, rfl, 1 + r, rfl, by omega, by omega, fun D nD => ?_⟩
  have Dpc : D ∉ [pA, c0] := nPC s2 nD
  have HD : H D = none := exb_none e2 s2 nD
  refine lc_range (fun i H' => ExB [pA, c0] H H' ∧ St H' pA c0 (n + 1 + 40 * i) ∧ ∃ ws Hw ls, H' D = some (.lst ws) ∧ Ex Hw H' ∧ (∀ b u, Hw b = some u → b ≠ D ∧ b ∉ [pA, c0] ∧ (A b = some u ∨ H b = none)) ∧ Reps Hw ws ls ∧ ls.length = i ∧ ∀ y ∈ ls, GoodL ks y)
    ⟨e2.trans (ExB.new nD), (s2.new nD).up (by omega), [], fun _ => none, [], upd_same, fun _ _ z => (by cases z), fun _ _ z => (by cases z), .nil, rfl, fun _ m => by cases m⟩ (fun i H' hi hI => ?_) (fun H' hI => ?_)
  · obtain ⟨k1, k2, ws, Hw, ls, k3, k4, k5, k6, k7, k8⟩ := hI
    refine ⟨hw _, ?_⟩
    have A3 := exb eA Ap Ac k1
    refine ⟨.ref pA, h0 _, kv, h2 _, pA, c0, n + 1 + 40 * (i : Int), kv, ks, A, rfl, k2, by omega, A3, Ap, Ac, rk, gk, l30, fun l u H4 Hs gl e4 s4 eHs oHs ru => ?_⟩
    have HsD : Hs D = none := by
      cases z : Hs D with
      | none => rfl
      | some o =>
        rcases oHs D o z with y | y
        · rw [exf eA HD] at y
          cases y
        · rw [k3] at y
          cases y
    have D4 : H4 D = some (.lst ws) := e4 _ _ Dpc k3
    have Hw4 : Ex Hw H4 := fun b o z => e4 b o (k5 b o z).2.1 (k4 b o z)
    refine ⟨ws, D4, by rw [Reps.len k6, k7]; exact sz_lt (by omega), fun b o m z => ?_, (s4.mut Dpc).up (by omega), ws ++ [u], jn Hw Hs, ls ++ [l], upd_same, fun b o z => ?_, fun b o z => ?_, ?_, by rw [List.length_append, k7]; rfl, fun y hy => ?_⟩
    · rw [upd_ne (ne_of_none z HD)]
      exact (k1.trans e4) b o m z
    · rcases jn_of z with y | y
      · rw [upd_ne (k5 b o y).1]
        exact Hw4 _ _ y
      · rw [upd_ne (fun w => by rw [w, HsD] at y; cases y)]
        exact eHs _ _ y
    · rcases jn_of z with y | y
      · exact k5 b o y
      · refine ⟨fun w => (by rw [w, HsD] at y; cases y), fun m => ?_, ?_⟩
        · rcases oHs b o y with w | w
          · rcases List.mem_cons.mp m with r | m
            · rw [r, Ap] at w
              cases w
            · rw [List.mem_singleton.mp m, Ac] at w
              cases w
          · exact nPC k2 w m
        · rcases oHs b o y with w | w
          · exact .inl w
          · exact .inr (exb_none k1 k2 w)
    · exact Reps.app (Reps.ext jn_l k6) (.cons (DV.ext (jn_r Hw4 eHs) ru) .nil)
    · rcases List.mem_append.mp hy with w | w
      · exact k8 y w
      · rw [List.mem_singleton.mp w]
        exact gl
  · obtain ⟨k1, k2, ws, Hw, ls, k3, k4, k5, k6, k7, k8⟩ := hI
    have HwD : Hw D = none := by
      cases z : Hw D with
      | none => rfl
      | some o => exact absurd rfl (k5 D o z).1
    refine q D H' (upd Hw D (.lst ws)) ls k1 (k2.up (by omega)) (fun b o z => ?_) (fun b o z => ?_) ⟨D, ws, rfl, upd_same, Reps.ext (Ex.new HwD) k6⟩ (fun z => ?_) (by omega) k8
    · by_cases y : b = D
      · rw [y, upd_same] at z
        rw [y, k3]
        exact z
      · rw [upd_ne y] at z
        exact k4 _ _ z
    · by_cases y : b = D
      · rw [y]
        exact .inr HD
      · rw [upd_ne y] at z
        exact (k5 b o z).2.2
    · rw [z] at k7
      simp at k7
      omega
section
variable {P : Program} {w : World} {K : PySem.W.Frag} {mg : Str → Option Value} {base : Heap} {f : Addr} {fd : FuncData} {fD fM fA fO fW fLo fNa : Addr} {dD dM dA dO dW dLo dNa : FuncData}
def spFamA : Sp := fun vs H Q _ => ∃ (p c : Addr) (n : Int), vs = [.ref p, .int 8] ∧ St H p c n ∧ n ≤ 800000 ∧ EndS (fun _ => none) H p c (n + 2000) GF Q
abbrev NFamA : List Str := ["stream", "many", "keepers", "k"]
theorem scFamA : FnScope NFamA ["stream", "many"] (defScope (top 41)) := ⟨rfl, rfl, rfl, by decide +kernel, rfl, by decide +kernel, by decide +kernel⟩
theorem ok_famA (F : FnP K "_law_a_family" (top 41) f fd) (B : Bn mg) (DR : Df K mg "_law_draw" 46 fD dD) (MI : Df K mg "_law_mixed" 47 fM dM) (AL : Df K mg "_law_a_least" 39 fA dA) (ON : Df K mg "_law_each_once" 50 fO dO) (WI : Df K mg "_law_a_within" 37 fW dW) (LO : Df K mg "_law_a_lot" 40 fLo dLo) (NA : Df K mg "_law_a_names" 36 fNa dNa) :
    FnOk P w K mg base CX0 4 f fd ["stream", "many"] spFamA := by
  have GD : FnOk P w K mg base CX0 1 fD dD ["stream", "many"] spDraw := ok_draw DR.F B.int
  have bD : Binds K dD ["stream", "many"] [] := DR.F.bindsN fun _ _ _ _ _ _ us hl => match us, hl with | [_, _], _ => rfl
  have GA : FnOk P w K mg base CX0 2 fA dA ["lots"] spAl := ok_al AL.F B ON WI
  have bA : Binds K dA ["lots"] [] := AL.F.bindsN fun _ _ _ _ _ _ us hl => match us, hl with | [_], _ => rfl
  have GL : FnOk P w K mg base CX0 3 fLo dLo ["stream", "keepers"] spLotD := ok_lotD LO.F B DR MI
  have bL : Binds K dLo ["stream", "keepers"] [] := LO.F.bindsN fun _ _ _ _ _ _ us hl => match us, hl with | [_, _], _ => rfl
  have GN : FnOk P w K mg base CX0 3 fNa dNa ["stream", "many"] spNames := ok_names NA.F B DR MI
  have bN : Binds K dNa ["stream", "many"] [] := NA.F.bindsN fun _ _ _ _ _ _ us hl => match us, hl with | [_, _], _ => rfl
  refine F.ok scFamA (fun vs H Q E h => ?_) (fun cdv A outer s H vs Q E hr h => ?_)
  · obtain ⟨p, c, n, rfl, _⟩ := h
    rfl
  · obtain ⟨p, c, n, rfl, hst, hn, q⟩ := h
    refine ⟨_, PSs.nox (pss_cons (ps_set (i := 2) scFamA.nd rfl (.inr rfl) (pe_call GN hr (by rfl) NA.g NA.F.kp bN .nil pass0 (pa_cons (pv 0) (pa_cons (pe_op op_add pe_int (pe_call GD (hr.mono (by decide)) (by rfl) DR.g DR.F.kp bD .nil pass0 (pa_cons (pv 0) (pa_cons (pv 1) pa_nil)))) pa_nil))))
      (pss_one (ps_ret (pe_tup (pa_cons (pv 2) (pa_cons (pe_call GA (hr.mono (by decide)) (by rfl) AL.g AL.F.kp bA .nil pass0 (pa_cons
      (pe_lc (own := [("k", 3)]) (g := gName 3) (tt := tYes) (te := tCall spLotD [] E0 (tCons (tVar 0) (tCons (tVar 2) tNil))) rfl scFamA.nd (pi_range1 (by rfl) B.range (pa_cons (pe_op op_add pe_int (pe_call GD (hr.mono (by decide)) (by rfl) DR.g DR.F.kp bD .nil pass0 (pa_cons (pv 0) (pa_cons pe_int pa_nil)))) pa_nil)) (blkOk_by (N := NFamA) (sc := defScope (top 41)) (by decide +kernel))
        (fun _ _ _ _ _ => pg_name (i := 3) scFamA.nd rfl (.inl rfl)) (fun _ _ _ _ _ => pts_nil) (fun _ _ _ _ _ => pe_call GL hr (by rfl) LO.g LO.F.kp bL .nil pass0 (pa_cons (pv 0) (pa_cons (pv 2) pa_nil)))) pa_nil)) pa_nil)))))), ?_⟩
    refine ⟨.ref p, rfl, .ref p, rfl, .int 8, rfl, p, c, n, 8, rfl, hst, by omega, by omega, by omega, fun r H2 r0 r1 e2 s2 => ?_⟩
    refine ⟨1, r, rfl, rfl, p, c, n + 1, 1 + r, rfl, s2, by omega, by omega, by omega, fun ks kv H3 Hn gn e3 s3 eN oN rk => ?_⟩
    refine nm_go ?_
    have oN' : ∀ b o, Hn b = some o → H2 b = none := fun b o h => (oN b o h).elim (fun z => by cases z) id
    have oNH : ∀ b o, Hn b = some o → H b = none := fun b o h => exb_none e2 s2 (oN' b o h)
    have Np : Hn p = none := by
      cases z : Hn p with
      | none => rfl
      | some o => exact absurd List.mem_cons_self (nPC s2 (oN' p o z))
    have Nc : Hn c = none := by
      cases z : Hn c with
      | none => rfl
      | some o => exact absurd (List.mem_cons_of_mem _ List.mem_cons_self) (nPC s2 (oN' c o z))
    have l30 : ks.length ≤ 30 := by
      have := gn.l
      omega
    refine ⟨kv, rfl, ?_⟩
    refine tc_go ?_
    refine lots_asc (σ := [some (.ref p), some (.int 8), some kv, none]) (j := 3) (A := Hn) (kv := kv) (ks := ks) (fun _ => rfl) (fun _ => rfl) rfl (fun _ => rfl) s3 (by omega) eN Np Nc rk gn.k l30 fun Dl H4 B' ls x4 s4 eB oB rl ne l7 gl => ?_
    refine fam_tail (Hn := Hn) (B := B') (H0 := H) rk rl (exb eN Np Nc x4) eB oNH (fun b o h => (oB b o h).elim (oNH b o) fun z => exb_none (e2.trans e3) s3 z) ((e2.trans e3).trans x4) s4 gn.k gn.s ne gl (by omega) (by omega) q
end
end K07
/-! text E37 -/
set_option Elab.async false
set_option linter.all false
set_option maxRecDepth 100000
set_option maxHeartbeats 4000000
/-! _law_a_council -/
namespace K07
open PySem PySem.Spec PyProof.Rows L2 Evl PySem.W Dw Dw.DV RZ StX Lot LmV LamX NdefX XvC KwX
/-! ### all some of the keepers -/
def pws (xs : List Str) : List (List Str) := xs.foldl (fun L x => L ++ L.map fun l => l ++ [x]) [[]]
theorem pws_snoc (xs : List Str) (x : Str) : pws (xs ++ [x]) = pws xs ++ (pws xs).map fun l => l ++ [x] := by
  unfold pws
  rw [List.foldl_append]
  rfl
theorem take_snoc {ks : List Str} {n : Nat} {x : Str} (h : ks[n]? = some x) : ks.take (n + 1) = ks.take n ++ [x] := by
  rw [List.take_add_one, h]
  rfl
theorem pws_len (ks : List Str) : ∀ n, n ≤ ks.length → (pws (ks.take n)).length = 2 ^ n
  | 0, _ => rfl
  | n + 1, h => by
    rw [take_snoc (List.getElem?_eq_getElem (show n < ks.length by omega)), pws_snoc, List.length_append, List.length_map, pws_len ks n (by omega), Nat.pow_succ]
    omega
theorem pws_sub (ks : List Str) : ∀ n, n ≤ ks.length → ∀ l ∈ pws (ks.take n), l.Sublist (ks.take n)
  | 0, _, l, m => by
    have e : l = [] := List.mem_singleton.mp m
    rw [e]
    exact List.nil_sublist _
  | n + 1, h, l, m => by
    rw [take_snoc (List.getElem?_eq_getElem (show n < ks.length by omega))] at m ⊢
    rw [pws_snoc] at m
    rcases List.mem_append.mp m with y | y
    · exact (pws_sub ks n (by omega) l y).trans (List.sublist_append_left _ _)
    · obtain ⟨a, ha, rfl⟩ := List.mem_map.mp y
      exact (pws_sub ks n (by omega) a ha).append (List.Sublist.refl _)
theorem pws_take (ks : List Str) : ∀ n, n ≤ ks.length → ∀ m, m ≤ n → ks.take m ∈ pws (ks.take n)
  | 0, _, m, h => by
    have e : m = 0 := by omega
    subst e
    exact List.mem_singleton.mpr rfl
  | n + 1, h, m, hm => by
    have hx : ks[n]? = some ks[n] := List.getElem?_eq_getElem (show n < ks.length by omega)
    rw [take_snoc hx, pws_snoc]
    by_cases e : m = n + 1
    · subst e
      rw [take_snoc hx]
      exact List.mem_append_right _ (List.mem_map.mpr ⟨_, pws_take ks n (by omega) n (Nat.le_refl _), rfl⟩)
    · exact List.mem_append_left _ (pws_take ks n (by omega) m (by omega))
/-- some of the keepers, so many -/
theorem pws_good {ks : List Str} (gk : GoodK goodName ks) (h6 : ks.length < 7) {m : Nat} (h1 : 1 ≤ m) (h2 : m ≤ ks.length) :
    ((pws ks).filter fun l => decide (l.length = m)) ≠ [] ∧ (∀ l ∈ (pws ks).filter fun l => decide (l.length = m), GoodL ks l) ∧ ((pws ks).filter fun l => decide (l.length = m)).length ≤ 64 := by
  have e : ks.take ks.length = ks := List.take_length
  have len := pws_len ks ks.length (Nat.le_refl _)
  have sub := pws_sub ks ks.length (Nat.le_refl _)
  have tk := pws_take ks ks.length (Nat.le_refl _) m h2
  rw [e] at len sub tk
  refine ⟨fun z => ?_, fun l hl => ?_, ?_⟩
  · have k : ks.take m ∈ (pws ks).filter fun l => decide (l.length = m) := List.mem_filter.mpr ⟨tk, decide_eq_true (by rw [List.length_take]; omega)⟩
    rw [z] at k
    cases k
  · obtain ⟨k1, k2⟩ := List.mem_filter.mp hl
    have k2 := of_decide_eq_true k2
    exact ⟨fun z => by rw [z] at k2; simp at k2; omega, List.Pairwise.sublist (sub l k1) gk.asc, (sub l k1).subset⟩
  · have f := List.length_filter_le (fun l : List Str => decide (l.length = m)) (pws ks)
    have p : 2 ^ ks.length ≤ 2 ^ 6 := Nat.pow_le_pow_right (by decide) (by omega)
    have q : (2 : Nat) ^ 6 = 64 := by decide
    omega
abbrev spMeetA : Sp := sp2 (fun (one _ : List Str) => one.length ≤ 1000) meetA
abbrev cs (p kv : V) (kd : Int) (y4 y5 y6 y7 y8 : Option V) : L2.St := [some p, some (.int 8), some kv, some (.int kd), y4, y5, y6, y7, y8, none]
theorem ite_both {c : Prop} [Decidable c] {a b : Prop} (h1 : a) (h2 : b) : if c then a else b := by
  split
  · exact h1
  · exact h2
section
variable {α : Type} [DecidableEq α] [Datum α] [DV α] {σ : L2.St} {H A A0 H0 : Hp} {te : TE} {D : Ends}
theorem b_asg0 {x : α} {i : Nat} (B : Bs A0 H0 A H) (h : EvD te σ A x) (k : ∀ v A' H1, Bs A0 H0 A' H1 → Ex A A' → rep A' v x → D.nx (σ.set i (some v)) H1) : tAsg te (gName i) D σ H := h H B.h _ fun v H1 Hs e s r => k v (jn A Hs) H1 (B.go e s) jn_l (B.rep e s r)
end
section
variable {K : PySem.W.Frag} {H0 Hn B H : Hp} {kv v4 : V} {ks : List Str} {ls : List (List Str)} {p c : Addr} {n m kd : Int} {Q : VK} {y5 y6 y7 y8 : Option V} {tz : TS} {D0 : Ends}
abbrev tIfCo (K : PySem.W.Frag) : TS := tIfS (tAnd (tTest (tOp rEq (tVar 3) (tC (.int 0)))) (tTest (tOp (rI0 fun i j => V.bl (decide (i < j))) (tCB (rLenS K) (tCons (tVar 2) tNil)) (tC (.int 7)))))
  (tSeq (tAsg (tOp (rI0 fun i j => V.int (i + j)) (tOp (rI CDiv fun i j => V.int (i / j)) (tCB (rLenS K) (tCons (tVar 2) tNil)) (tC (.int 2))) (tC (.int 1))) (gName 7))
  (tSeq (tAsg (tLst (tCons (tLst tNil) tNil)) (gName 4))
  (tSeq (tFor (iList K (tVar 2)) (gName 8) (tAsg (tOp rCat (tVar 4) (tLc (iList K (tVar 4)) (gName 6) tYes (tOp rCat (tVar 6) (tLst (tCons (tVar 8) tNil))) [6])) (gName 4)))
  (tAsg (tLc (iList K (tVar 4)) (gName 6) (tTest (tOp rEq (tCB (rLenS K) (tCons (tVar 6) tNil)) (tVar 7))) (tVar 6) [6]) (gName 4))))) tNext
theorem co_rest (k : rep Hn kv ks) (rl : rep B v4 ls) (eN : Ex Hn H) (eB : Ex B H) (oN : ∀ b o, Hn b = some o → H0 b = none) (oB : ∀ b o, B b = some o → H0 b = none) (x : ExB [p, c] H0 H) (s : St H p c n) (gk : GoodK goodName ks) (sub : ks ⊆ nameL)
    (ne : ls ≠ []) (gl : ∀ l ∈ ls, GoodL ks l) (l64 : ls.length ≤ 64) (hm : n ≤ m) (q : EndS (fun _ => none) H0 p c m GF Q) : tSeq (tIfCo K) (tRet (tTup (tCons (tVar 2) (tCons (tCall spAl [] E0 (tCons (tVar 4) tNil)) tNil)))) { nx := fun _ H' => Q V.non H', rt := Q } (cs (.ref p) kv kd (some v4) y5 y6 y7 y8) H := by
  have kl := gk.len
  have B0 : Bs (jn Hn B) H (jn Hn B) H := Bs.start (jn_ex eN eB)
  have oA : ∀ b o, (jn Hn B) b = some o → H0 b = none := fun b o h => (jn_of h).elim (oN b o) (oB b o)
  have kA : rep (jn Hn B) kv ks := DV.ext jn_l k
  have rA : rep (jn Hn B) v4 ls := DV.ext (jn_r eN eB) rl
  generalize jn Hn B = A at B0 oA kA rA
  have fin : ∀ {A' H' : Hp} {w : V} {L : List (List Str)} {z5 z6 z7 z8 : Option V}, Bs A H A' H' → rep A' w L → L ≠ [] → (∀ l ∈ L, GoodL ks l) → L.length ≤ 64 → tRet (tTup (tCons (tVar 2) (tCons (tCall spAl [] E0 (tCons (tVar 4) tNil)) tNil))) { nx := fun _ H' => Q V.non H', rt := Q } (cs (.ref p) kv kd (some w) z5 z6 z7 z8) H' := by
    intro A' H' w L z5 z6 z7 z8 B' r n' g' l'
    obtain ⟨o1, h1⟩ := s.p
    obtain ⟨o2, h2⟩ := s.c
    have o' : ∀ b o, A' b = some o → H0 b = none := fun b o h => (B'.o b o h).elim (oA b o) fun z => exb_none x s z
    refine ⟨kv, rfl, tc_go ⟨w, rfl, ?_⟩⟩
    exact fam_tail (Hn := A') (B := A') (DV.ext B'.a kA) r B'.h B'.h o' o' (x.trans (ExB.of B'.e)) (s.ext ((B'.e _ _ h1).trans h1.symm) ((B'.e _ _ h2).trans h2.symm) (Int.le_refl _)) gk sub n' g' l' hm q
  have t1 : EvT (tTest (tOp rEq (tVar 3) (tC (.int 0)))) (cs (.ref p) kv kd (some v4) y5 y6 y7 y8) A (decide (V.int kd = V.int 0)) := et_test (ev_op (ev_var rfl) ev_c (rv_eq rfl))
  have len : ∀ {y4 z5 z6 z7 z8 : Option V} {A'}, Ex A A' → Ev (tCB (rLenS K) (tCons (tVar 2) tNil)) (cs (.ref p) kv kd y4 z5 z6 z7 z8) A' (.int (ks.length : Int)) := fun e => ev_lenD (ed_var rfl (DV.ext e kA))
  have t2 : EvT (tTest (tOp (rI0 fun i j => V.bl (decide (i < j))) (tCB (rLenS K) (tCons (tVar 2) tNil)) (tC (.int 7)))) (cs (.ref p) kv kd (some v4) y5 y6 y7 y8) A (decide ((ks.length : Int) < 7)) := et_test (ev_op (len (Ex.refl _)) ev_c (rv_I0 (g := fun i j => .bl (decide (i < j))) (i := (ks.length : Int)) (j := 7)))
  refine b_seqIf B0 (et_and t1 fun _ => t2) (fun z H1 B1 => ?_) fun z H1 B1 => fin B1 rA ne gl l64
  have h6 : ks.length < 7 := by
    rw [Bool.and_eq_true] at z
    have := of_decide_eq_true z.2
    omega
  have pos : 0 < ks.length := List.length_pos_iff.mpr gk.ne
  have most : EvD (tOp (rI0 fun i j => V.int (i + j)) (tOp (rI CDiv fun i j => V.int (i / j)) (tCB (rLenS K) (tCons (tVar 2) tNil)) (tC (.int 2))) (tC (.int 1))) (cs (.ref p) kv kd (some v4) y5 y6 y7 y8) A ((ks.length : Int) / 2 + 1) := ed_evI fun H1 e Q q => len (Ex.refl _) H1 e _ fun H2 e2 => ⟨_, 2, rfl, rfl, ⟨by decide, by decide⟩, _, 1, rfl, rfl, q H2 e2⟩
  refine b_asg B1 most fun v7 A2 H2 B2 x2 r7 => ?_
  have r7' : v7 = V.int ((ks.length : Int) / 2 + 1) := r7
  subst r7'
  refine b_asg (x := ([[]] : List (List Str))) B2 (ed_lst (eda_cons (ed_lst (α := Str) eda_nil (by decide)) eda_nil) (by decide)) fun v40 A3 H3 B3 x3 r40 => ?_
  have k3 : rep A3 kv ks := DV.ext (x2.trans x3) kA
  obtain ⟨a, us, rfl, ha, hus⟩ := k3
  have ul := Reps.len hus
  refine ⟨.ref a, rfl, a, rfl, ⟨us, sq_of (B3.h _ _ ha)⟩, for_list (xs := us) (fun i σ H' => ∃ w A' z8, σ = cs (.ref p) (.ref a) kd (some w) y5 y6 (some (.int ((ks.length : Int) / 2 + 1))) z8 ∧ Bs A H A' H' ∧ Ex A3 A' ∧ rep A' w (pws (ks.take i))) ⟨v40, A3, _, rfl, B3, Ex.refl _, r40⟩ (fun i σ H' _ h => by
    obtain ⟨w, A', z8, rfl, B', x', r'⟩ := h
    exact sq_of (B'.h _ _ (x' _ _ ha))) (fun i x σ H' hx h => ?_) fun σ H' h => ?_⟩
  · obtain ⟨w, A', z8, rfl, B', x', r'⟩ := h
    obtain ⟨hi, _⟩ := List.getElem?_eq_some_iff.mp hx
    have hk : ks[i]? = some ks[i] := List.getElem?_eq_getElem (by omega)
    have ex : x = .str ks[i] := Reps.at hus hx hk
    subst ex
    have pl := pws_len ks i (by omega)
    have pp : 2 ^ i ≤ 2 ^ 6 := Nat.pow_le_pow_right (by decide) (by omega)
    have p6 : (2 : Nat) ^ 6 = 64 := by decide
    refine nm_go ?_
    have lc := ed_lc (K := K) (σ := cs (.ref p) (.ref a) kd (some w) y5 y6 (some (.int ((ks.length : Int) / 2 + 1))) (some (.str ks[i]))) (H := A') (tl := tVar 4) (tt := tYes) (te := tOp rCat (tVar 6) (tLst (tCons (tVar 8) tNil))) (j := 6) (vs := [6]) (fun _ : List Str => true) (fun l : List Str => l ++ [ks[i]]) (ed_var rfl r') (by omega) (fun _ => rfl) (fun _ _ _ _ _ _ => et_yes)
      fun l y H1 e ml r _ => ed_cat (ed_var (i := 6) (v := y) rfl r) (ed_lst (eda_cons (ed_var (i := 8) (v := .str ks[i]) (x := ks[i]) rfl rfl) eda_nil) (by simp)) (by
        have := (pws_sub ks i (by omega) l ml).length_le
        have := List.length_take_le i ks
        simp
        omega)
    rw [List.filter_eq_self.mpr (fun _ _ => rfl)] at lc
    refine b_asg0 B' (ed_cat (ed_var (i := 4) (v := w) rfl r') lc (by rw [List.length_map]; omega)) fun v' A'' H'' B'' x'' r'' => ⟨v', A'', _, rfl, B'', x'.trans x'', ?_⟩
    rw [take_snoc hk, pws_snoc]
    exact r''
  · obtain ⟨w, A', z8, rfl, B', x', r'⟩ := h
    rw [ul, List.take_length] at r'
    have pl := pws_len ks ks.length (Nat.le_refl _)
    rw [List.take_length] at pl
    have pp : 2 ^ ks.length ≤ 2 ^ 6 := Nat.pow_le_pow_right (by decide) (by omega)
    have p6 : (2 : Nat) ^ 6 = 64 := by decide
    have lc := ed_lc (K := K) (σ := cs (.ref p) (.ref a) kd (some w) y5 y6 (some (.int ((ks.length : Int) / 2 + 1))) z8) (H := A') (tl := tVar 4) (tt := tTest (tOp rEq (tCB (rLenS K) (tCons (tVar 6) tNil)) (tVar 7))) (te := tVar 6) (j := 6) (vs := [6]) (fun l : List Str => decide (l.length = ks.length / 2 + 1)) (fun l : List Str => l) (ed_var rfl r') (by omega) (fun _ => rfl)
      (fun l y H1 e _ r => et_is (et_test (ev_op (ev_lenD (ed_var (i := 6) (v := y) rfl r)) (ev_var (i := 7) (v := .int ((ks.length : Int) / 2 + 1)) rfl) (rv_eq rfl))) (by
        rw [decide_eq_decide]
        constructor
        · intro z
          have := V.int.inj z
          omega
        · intro z
          rw [z]
          exact congrArg V.int (by omega)))
      fun l y H1 e _ r _ => ed_var (i := 6) (v := y) rfl r
    rw [List.map_id'] at lc
    obtain ⟨g1, g2, g3⟩ := pws_good gk h6 (m := ks.length / 2 + 1) (by omega) (by omega)
    exact b_asg0 B' lc fun v' A'' H'' B'' x'' r'' => fin B'' r'' g1 g2 g3
abbrev tLoopCo (K : PySem.W.Frag) : TS := tFor (iRng1 (tCons (tC (.int 12)) tNil)) (gName 5) (tSeq (tAsg (tCall spLotD [] E0 (tCons (tVar 0) (tCons (tVar 2) tNil))) (gName 6))
  (tDrop (tBM K "list" rExtend (tVar 4) (tCons (tIf (tB (tCB (rAll K) (tCons (tLc (iList K (tVar 4)) (gName 9) tYes (tCall spMeetA [] E0 (tCons (tVar 6) (tCons (tVar 9) tNil))) [9]) tNil))) (tLst (tCons (tVar 6) tNil)) (tLst tNil)) tNil))))
theorem co_loop (k : rep Hn kv ks) (eN : Ex Hn H) (oN : ∀ b o, Hn b = some o → H0 b = none) (x : ExB [p, c] H0 H) (s0 : ∃ n0, St H0 p c n0) (s : St H p c n) (hn : n ≤ 890000) (gk : GoodK goodName ks) (l30 : ks.length ≤ 30)
    (q : ∀ Dl H' B ls y5 y6, ExB [p, c] H0 H' → St H' p c (n + 480) → Ex Hn H' → Ex B H' → (∀ b o, B b = some o → H0 b = none) → rep B (.ref Dl) ls → ls ≠ [] → ls.length ≤ 13 → (∀ l ∈ ls, GoodL ks l) → tz D0 (cs (.ref p) kv kd (some (.ref Dl)) y5 y6 none none) H') :
    tSeq (tAsg (tLst (tCons (tCB (rListS K) (tCons (tVar 2) tNil)) tNil)) (gName 4)) (tSeq (tLoopCo K) tz) D0 (cs (.ref p) kv kd none none none none none) H := by
  have kl := gk.len
  obtain ⟨n0, st0⟩ := s0
  have Np : Hn p = none := by
    cases z : Hn p with
    | none => rfl
    | some o => exact absurd List.mem_cons_self (nPC st0 (oN p o z))
  have Nc : Hn c = none := by
    cases z : Hn c with
    | none => rfl
    | some o => exact absurd (List.mem_cons_of_mem _ List.mem_cons_self) (nPC st0 (oN c o z))
  have k' := k
  obtain ⟨a, us, rfl, ha, hus⟩ := k
  refine ⟨.ref a, rfl, a, us, rfl, .inl (sq_of (eN _ _ ha)), fun l1 nl1 => ⟨by show 1 ≤ sizeLine; decide, fun D nD => nm_go ?_⟩⟩
  have Dl1 : l1 ≠ D := fun z => by
    rw [← z, upd_same] at nD
    cases nD
  have hl1 : (upd (upd H l1 (.lst us)) D (.lst [.ref l1])) l1 = some (.lst us) := by
    rw [upd_ne Dl1, upd_same]
  have hD : (upd (upd H l1 (.lst us)) D (.lst [.ref l1])) D = some (.lst [.ref l1]) := upd_same
  have e1 : Ex H (upd (upd H l1 (.lst us)) D (.lst [.ref l1])) := (Ex.new nl1).trans (Ex.new nD)
  have HD : H D = none := exf (Ex.new nl1) nD
  have D0n : H0 D = none := exb_none x s HD
  have l0n : H0 l1 = none := exb_none x s nl1
  have Dpc : D ∉ [p, c] := nPC s HD
  generalize upd (upd H l1 (.lst us)) D (.lst [.ref l1]) = H1 at hl1 hD e1
  refine b_forR (n := 12) (Ex.refl H1) (show EvA (tCons (tC (.int 12)) tNil) _ H1 [.int 12] from fun H1 e Q q => q H1 (Ex.refl H1)) (by decide) (by decide) rfl
    (fun i σ H' => ∃ y5 y6, σ = cs (.ref p) (.ref a) kd (some (.ref D)) y5 y6 none none ∧ ExB [p, c] H0 H' ∧ Ex Hn H' ∧ St H' p c (n + 40 * i) ∧ ∃ ws Hw ls, H' D = some (.lst ws) ∧ Ex Hw H' ∧ (∀ b u, Hw b = some u → b ≠ D ∧ H0 b = none) ∧ Reps Hw ws ls ∧ ls ≠ [] ∧ ls.length ≤ i + 1 ∧ ∀ l ∈ ls, GoodL ks l) (fun H2 e2 => ?_) (fun i σ H2 hi hI => ?_) fun σ H2 hI => ?_
  · obtain ⟨o1, h1⟩ := s.p
    obtain ⟨o2, h2⟩ := s.c
    have e := e1.trans e2
    refine ⟨_, _, rfl, x.trans (ExB.of e), eN.trans e, s.ext ((e _ _ h1).trans h1.symm) ((e _ _ h2).trans h2.symm) (by omega), [.ref l1], upd (fun _ => none) l1 (.lst us), [ks], e2 _ _ hD, fun b o h => ?_, fun b o h => ?_, .cons ⟨l1, us, rfl, upd_same, ?_⟩ .nil, by simp, by simp, fun l m => ?_⟩
    · by_cases y : b = l1
      · rw [y, upd_same] at h
        rw [y, e2 _ _ hl1]
        exact h
      · rw [upd_ne y] at h
        cases h
    · by_cases y : b = l1
      · rw [y]
        exact ⟨Dl1, l0n⟩
      · rw [upd_ne y] at h
        cases h
    · rw [reps_str hus]
      exact reps_strs ks
    · rw [List.mem_singleton.mp m]
      exact ⟨gk.ne, gk.asc, List.Subset.refl _⟩
  · obtain ⟨y5, y6, rfl, x2, n2, s2, ws, Hw, ls, k3, k4, k5, k6, k7, k8, k9⟩ := hI
    refine nm_go ?_
    refine ⟨.ref p, rfl, .ref a, rfl, p, c, n + 40 * (i : Int), .ref a, ks, Hn, rfl, s2, by omega, n2, Np, Nc, k', gk, l30, fun l u H4 Hs gl e4 s4 eHs oHs ru => nm_go ?_⟩
    have oH : ∀ b o, Hs b = some o → H0 b = none := fun b o h => (oHs b o h).elim (oN b o) fun z => exb_none x2 s2 z
    have HsD : Hs D = none := by
      cases z : Hs D with
      | none => rfl
      | some o =>
        rcases oHs D o z with y | y
        · rw [eN _ _ y] at HD
          cases HD
        · rw [k3] at y
          cases y
    have HwD : Hw D = none := by
      cases z : Hw D with
      | none => rfl
      | some o => exact absurd rfl (k5 D o z).1
    have D4 : H4 D = some (.lst ws) := e4 _ _ Dpc k3
    have Hw4 : Ex Hw H4 := fun b o z => e4 b o (nPC st0 (k5 b o z).2) (k4 b o z)
    have x4 : ExB [p, c] H0 H4 := x2.trans e4
    have n4 : Ex Hn H4 := fun b o z => e4 b o (nPC st0 (oN b o z)) (n2 b o z)
    have eJ : Ex (jn Hw Hs) H4 := jn_ex Hw4 eHs
    have JD : (jn Hw Hs) D = none := by
      cases z : (jn Hw Hs) D with
      | none => rfl
      | some o =>
        rcases jn_of z with y | y
        · rw [HwD] at y
          cases y
        · rw [HsD] at y
          cases y
    have rJ : Reps (jn Hw Hs) ws ls := Reps.ext jn_l k6
    have ruJ : rep (jn Hw Hs) u l := DV.ext (jn_r Hw4 eHs) ru
    have oJ : ∀ b o, (jn Hw Hs) b = some o → b ≠ D ∧ H0 b = none := fun b o h => (jn_of h).elim (k5 b o) fun z => ⟨fun w => (by rw [w, HsD] at z; cases z), oH b o z⟩
    generalize jn Hw Hs = J at eJ JD rJ ruJ oJ
    refine ⟨.ref D, rfl, .inl ⟨rfl, _, sq_of D4⟩, ?_⟩
    have eA4 : Ex (upd J D (.lst ws)) H4 := fun b o z => by
      by_cases y : b = D
      · rw [y, upd_same] at z
        rw [y, D4]
        exact z
      · rw [upd_ne y] at z
        exact eJ _ _ z
    have ll := gl.len
    have lc := ed_lc (K := K) (σ := cs (.ref p) (.ref a) kd (some (.ref D)) (some (.int (0 + (i : Int)))) (some u) none none) (H := upd J D (.lst ws)) (tl := tVar 4) (tt := tYes) (te := tCall spMeetA [] E0 (tCons (tVar 6) (tCons (tVar 9) tNil))) (j := 9) (vs := [9]) (fun _ : List Str => true) (fun o : List Str => meetA l o) (ed_var (i := 4) rfl ⟨D, ws, rfl, upd_same, Reps.ext (Ex.new JD) rJ⟩) (by omega) (fun _ => rfl) (fun _ _ _ _ _ _ => et_yes)
      fun o y H1 e _ r _ => ed_call2 (P := fun (one _ : List Str) => one.length ≤ 1000) (f := meetA) (E := E0) (ed_var (i := 6) (v := u) rfl (DV.ext ((Ex.new JD).trans e) ruJ)) (ed_var (i := 9) (v := y) rfl r) (by omega)
    have al := et_B (ev_allD (K := K) lc)
    refine al H4 eA4 _ fun H5 e5 => ?_
    have D5 := e5 _ _ D4
    have s5 : St H5 p c (n + 40 * (i : Int) + 40) := by
      obtain ⟨o1, h1⟩ := s4.p
      obtain ⟨o2, h2⟩ := s4.c
      exact s4.ext ((e5 _ _ h1).trans h1.symm) ((e5 _ _ h2).trans h2.symm) (Int.le_refl _)
    have step : ∀ (zs : List V) (lz : List (List Str)), Reps J zs lz → lz.length ≤ 1 → (∀ y ∈ lz, GoodL ks y) → ∀ Z, H5 Z = none → ∃ y5 y6, cs (.ref p) (.ref a) kd (some (.ref D)) (some (.int (0 + (i : Int)))) (some u) none none = cs (.ref p) (.ref a) kd (some (.ref D)) y5 y6 none none ∧ ExB [p, c] H0 (upd (upd H5 Z (.lst zs)) D (.lst (ws ++ zs))) ∧ Ex Hn (upd (upd H5 Z (.lst zs)) D (.lst (ws ++ zs))) ∧ St (upd (upd H5 Z (.lst zs)) D (.lst (ws ++ zs))) p c (n + 40 * ((i + 1 : Nat) : Int)) ∧
        ∃ ws' Hw ls, (upd (upd H5 Z (.lst zs)) D (.lst (ws ++ zs))) D = some (.lst ws') ∧ Ex Hw (upd (upd H5 Z (.lst zs)) D (.lst (ws ++ zs))) ∧ (∀ b u, Hw b = some u → b ≠ D ∧ H0 b = none) ∧ Reps Hw ws' ls ∧ ls ≠ [] ∧ ls.length ≤ i + 1 + 1 ∧ ∀ l ∈ ls, GoodL ks l := by
      intro zs lz rz lz1 gz Z nZ
      have xZ : Ex H5 (upd H5 Z (.lst zs)) := Ex.new nZ
      refine ⟨_, _, rfl, ?_, ((n4.trans e5).trans xZ).mut (exf eN HD), ((s5.new nZ).mut Dpc).up (by omega), ws ++ zs, J, ls ++ lz, upd_same, ((eJ.trans e5).trans xZ).mut JD, oJ, Reps.app rJ rz, fun z => k7 (List.append_eq_nil_iff.mp z).1, by rw [List.length_append]; omega, fun y m => (List.mem_append.mp m).elim (k9 y) (gz y)⟩
      exact fun b o m h => by
        rw [upd_ne (ne_of_none h D0n)]
        exact xZ _ _ (e5 _ _ (x4 b o m h))
    have wl := Reps.len k6
    refine ite_both ?_ ?_
    · refine ⟨u, rfl, by show 1 ≤ sizeLine; decide, fun Z nZ => ⟨D, Z, ws, [u], rfl, rfl, Ex.new nZ _ _ D5, upd_same, sz_of (by simp; omega), ?_⟩⟩
      exact step [u] [l] (.cons ruJ .nil) (by simp) (fun y m => by rw [List.mem_singleton.mp m]; exact gl) Z nZ
    · refine ⟨by show 0 ≤ sizeLine; decide, fun Z nZ => ⟨D, Z, ws, [], rfl, rfl, Ex.new nZ _ _ D5, upd_same, sz_of (by simp; omega), ?_⟩⟩
      exact step [] [] .nil (by simp) (fun y m => by cases m) Z nZ
  · obtain ⟨y5, y6, rfl, x2, n2, s2, ws, Hw, ls, k3, k4, k5, k6, k7, k8, k9⟩ := hI
    have HwD : Hw D = none := by
      cases z : Hw D with
      | none => rfl
      | some o => exact absurd rfl (k5 D o z).1
    refine q D H2 (upd Hw D (.lst ws)) ls y5 y6 x2 (s2.up (by omega)) n2 (fun b o z => ?_) (fun b o z => ?_) ⟨D, ws, rfl, upd_same, Reps.ext (Ex.new HwD) k6⟩ k7 (by omega) k9
    · by_cases y : b = D
      · rw [y, upd_same] at z
        rw [y, k3]
        exact z
      · rw [upd_ne y] at z
        exact k4 _ _ z
    · by_cases y : b = D
      · rw [y]
        exact D0n
      · rw [upd_ne y] at z
        exact (k5 b o z).2
end
section
variable {P : Program} {w : World} {K : PySem.W.Frag} {mg : Str → Option Value} {base : Heap} {f : Addr} {fd : FuncData} {fD fM fA fO fW fLo fNa fMe : Addr} {dD dM dA dO dW dLo dNa dMe : FuncData}
abbrev NCo : List Str := ["stream", "many", "keepers", "kind", "lots", "k", "lot", "most", "keeper", "other"]
theorem scCo : FnScope NCo ["stream", "many"] (defScope (top 42)) := ⟨rfl, rfl, rfl, by decide +kernel, rfl, by decide +kernel, by decide +kernel⟩
theorem ok_councilA (F : FnP K "_law_a_council" (top 42) f fd) (B : Bn mg) (DR : Df K mg "_law_draw" 46 fD dD) (MI : Df K mg "_law_mixed" 47 fM dM) (AL : Df K mg "_law_a_least" 39 fA dA) (ON : Df K mg "_law_each_once" 50 fO dO) (WI : Df K mg "_law_a_within" 37 fW dW) (LO : Df K mg "_law_a_lot" 40 fLo dLo) (NA : Df K mg "_law_a_names" 36 fNa dNa) (ME : Df K mg "_law_a_meet" 38 fMe dMe) :
    FnOk P w K mg base CX0 4 f fd ["stream", "many"] spFamA := by
  have GD : FnOk P w K mg base CX0 1 fD dD ["stream", "many"] spDraw := ok_draw DR.F B.int
  have bD : Binds K dD ["stream", "many"] [] := DR.F.bindsN fun _ _ _ _ _ _ us hl => match us, hl with | [_, _], _ => rfl
  have GA : FnOk P w K mg base CX0 2 fA dA ["lots"] spAl := ok_al AL.F B ON WI
  have bA : Binds K dA ["lots"] [] := AL.F.bindsN fun _ _ _ _ _ _ us hl => match us, hl with | [_], _ => rfl
  have GL : FnOk P w K mg base CX0 3 fLo dLo ["stream", "keepers"] spLotD := ok_lotD LO.F B DR MI
  have bL : Binds K dLo ["stream", "keepers"] [] := LO.F.bindsN fun _ _ _ _ _ _ us hl => match us, hl with | [_, _], _ => rfl
  have GN : FnOk P w K mg base CX0 3 fNa dNa ["stream", "many"] spNames := ok_names NA.F B DR MI
  have bN : Binds K dNa ["stream", "many"] [] := NA.F.bindsN fun _ _ _ _ _ _ us hl => match us, hl with | [_, _], _ => rfl
  have GM : FnOk P w K mg base CX0 1 fMe dMe ["one", "other"] spMeetA := ok_meetA ME.F B.any
  have bM : Binds K dMe ["one", "other"] [] := ME.F.bindsN fun _ _ _ _ _ _ us hl => match us, hl with | [_, _], _ => rfl
  refine F.ok scCo (fun vs H Q E h => ?_) (fun cdv A outer s H vs Q E hr h => ?_)
  · obtain ⟨p, c, n, rfl, _⟩ := h
    rfl
  · obtain ⟨p, c, n, rfl, hst, hn, q⟩ := h
    refine ⟨_, PSs.nox (pss_cons (ps_par (i := 2) (j := 3) rfl scCo.nd rfl rfl (by decide) rfl rfl (pa_cons (pe_call GN hr (by rfl) NA.g NA.F.kp bN .nil pass0 (pa_cons (pv 0) (pa_cons (pe_op op_add pe_int (pe_call GD (hr.mono (by decide)) (by rfl) DR.g DR.F.kp bD .nil pass0 (pa_cons (pv 0) (pa_cons (pv 1) pa_nil)))) pa_nil)))
        (pa_cons (pe_call GD (hr.mono (by decide)) (by rfl) DR.g DR.F.kp bD .nil pass0 (pa_cons (pv 0) (pa_cons pe_int pa_nil))) pa_nil)) (by rfl))
      (pss_cons (ps_set (i := 4) scCo.nd rfl (.inl rfl) (pe_lst (pa_cons (pe_callTy call_list_of (by rfl) B.list (by decide +kernel) (pa_cons (pv 2) pa_nil)) pa_nil)))
      (pss_cons (ps_for PassesOwn.never rfl (pi_range1 (by rfl) B.range (pa_cons pe_int pa_nil)) (pg_name (i := 5) scCo.nd rfl (.inl rfl))
        (pss_cons (ps_set (i := 6) scCo.nd rfl (.inr rfl) (pe_call GL hr (by rfl) LO.g LO.F.kp bL .nil pass0 (pa_cons (pv 0) (pa_cons (pv 2) pa_nil))))
        (pss_one (ps_expr (pe_bm PySem.F.plainAttrs_list PySem.F.slot_list_extend PySem.F.type_list_extend mt_extend (pv 4) (pa_cons (pe_ifExp (pt_val (pe_callB (cr_all rfl) (by rfl) B.all (by decide +kernel) (pa_cons
          (pe_lc (own := [("other", 9)]) (g := gName 9) (tt := tYes) (te := tCall spMeetA [] E0 (tCons (tVar 6) (tCons (tVar 9) tNil))) rfl scCo.nd (pi_list (pv 4)) (blkOk_by (N := NCo) (sc := defScope (top 42)) (by decide +kernel)) (fun _ _ _ _ _ => pg_name (i := 9) scCo.nd rfl (.inl rfl)) (fun _ _ _ _ _ => pts_nil)
            (fun _ _ _ _ _ => pe_call GM (hr.mono (by decide)) (by rfl) ME.g ME.F.kp bM .nil pass0 (pa_cons (pv 6) (pa_cons (pv 9) pa_nil)))) pa_nil))) (pe_lst (pa_cons (pv 6) pa_nil)) (pe_lst pa_nil)) pa_nil))))))
      (pss_cons (ps_if (pw_and (pt_cmpR op_eq (pv 3) pe_int (nomark _)) (pw_and1 (pt_cmpR op_lt (pe_callB call_len_seq (by rfl) B.len PySem.boot_len (pa_cons (pv 2) pa_nil)) pe_int (nomark _)))).pt
        (pss_cons (ps_set (i := 7) scCo.nd rfl (.inr rfl) (pe_op op_add (pe_op op_fdiv (pe_callB call_len_seq (by rfl) B.len PySem.boot_len (pa_cons (pv 2) pa_nil)) pe_int) pe_int))
        (pss_cons (ps_set (i := 4) scCo.nd rfl (.inl rfl) (pe_lst (pa_cons (pe_lst pa_nil) pa_nil)))
        (pss_cons (ps_for PassesOwn.never rfl (pi_list (pv 2)) (pg_name (i := 8) scCo.nd rfl (.inr rfl))
          (pss_one (ps_set (i := 4) scCo.nd rfl (.inl rfl) (pe_op op_cat (pv 4) (pe_lc (own := [("lot", 6)]) (g := gName 6) (tt := tYes) (te := tOp rCat (tVar 6) (tLst (tCons (tVar 8) tNil))) rfl scCo.nd (pi_list (pv 4)) (blkOk_by (N := NCo) (sc := defScope (top 42)) (by decide +kernel)) (fun _ _ _ _ _ => pg_name (i := 6) scCo.nd rfl (.inl rfl)) (fun _ _ _ _ _ => pts_nil)
            (fun _ _ _ _ _ => pe_op op_cat (pv 6) (pe_lst (pa_cons (pv 8) pa_nil))))))))
        (pss_one (ps_setLc (i := 4) (own := [("lot", 6)]) (g := gName 6) (tt := tTest (tOp rEq (tCB (rLenS K) (tCons (tVar 6) tNil)) (tVar 7))) (te := tVar 6) rfl scCo.nd rfl rfl (sw_true rfl rfl (by rfl) (by rfl)) (pi_list (pv 4)) (blkOk_by (N := NCo) (sc := defScope (top 42)) (by decide +kernel))
          (fun _ _ _ _ _ => pg_name (i := 6) scCo.nd rfl (.inl rfl)) (fun _ _ _ _ _ => pts_one (pt_cmpR op_eq (pe_callB call_len_seq (by rfl) B.len PySem.boot_len (pa_cons (pv 6) pa_nil)) (pv 7) (nomark _))) (fun _ _ _ _ _ => pv 6)))))) pss_nil)
      (pss_one (ps_ret (pe_tup (pa_cons (pv 2) (pa_cons (pe_call GA (hr.mono (by decide)) (by rfl) AL.g AL.F.kp bA .nil pass0 (pa_cons (pv 4) pa_nil)) pa_nil))))))))), ?_⟩
    refine ⟨.ref p, rfl, .ref p, rfl, .int 8, rfl, p, c, n, 8, rfl, hst, by omega, by omega, by omega, fun r H2 r0 r1 e2 s2 => ?_⟩
    refine ⟨1, r, rfl, rfl, p, c, n + 1, 1 + r, rfl, s2, by omega, by omega, by omega, fun ks kv H3 Hn gn e3 s3 eN oN rk => ?_⟩
    refine ⟨.ref p, rfl, p, c, n + 1 + 20, 3, rfl, s3, by omega, by omega, by omega, fun kd H4 kd0 kd1 e4 s4 => ?_⟩
    refine ⟨kv, .int kd, rfl, ?_⟩
    have oN' : ∀ b o, Hn b = some o → H2 b = none := fun b o h => (oN b o h).elim (fun z => by cases z) id
    have oNH : ∀ b o, Hn b = some o → H b = none := fun b o h => exb_none e2 s2 (oN' b o h)
    have eN4 : Ex Hn H4 := fun b o h => e4 b o (nPC s2 (oN' b o h)) (eN b o h)
    have l30 : ks.length ≤ 30 := by
      have := gn.l
      omega
    have x4 : ExB [p, c] H H4 := (e2.trans e3).trans e4
    refine co_loop (Hn := Hn) rk eN4 oNH x4 ⟨n, hst⟩ s4 (by omega) gn.k l30 fun Dl H5 B' ls y5 y6 x5 s5 n5 eB oB rl ne l13 gl => ?_
    exact co_rest (Hn := Hn) (B := B') rk rl n5 eB oNH oB x5 s5 gn.k gn.s ne gl (by omega) (by omega) q
end
end K07
/-! text E38a -/
set_option Elab.async false
set_option linter.all false
set_option maxRecDepth 100000
set_option maxHeartbeats 4000000
/-! the law's written example: plain -/
namespace K07
open PySem PySem.Spec PyProof.Rows L2 Evl PySem.W Dw Dw.DV RZ StX Lot LmV LamX NdefX XvC KwX
abbrev lA : List Str := ["a"]
abbrev lB : List Str := ["b"]
abbrev lC : List Str := ["c"]
abbrev lAB : List Str := ["a", "b"]
abbrev lAC : List Str := ["a", "c"]
abbrev lBC : List Str := ["b", "c"]
abbrev lABC : List Str := ["a", "b", "c"]
abbrev exT : FamT := (lABC, [lAB, lAC, lBC])
abbrev exO : FamT := (lAB, [lA])
abbrev exL : FamT := (lA, [lA])
instance (l : List Str) : Decidable (Asc sl l) := inferInstanceAs (Decidable (l.Pairwise _))
theorem tt0 : trust ("a" : Str) exT.2 = [lB, lC, lBC] := by decide +kernel
theorem tt1 : leastOf (trust ("a" : Str) exT.2) = [lB, lC] := by
  rw [tt0]
  refine Min.uniq (L' := [lB, lC, lBC]) sl_tot (least_min (by decide +kernel)) ⟨by unfold Asc; decide +kernel, fun r => ?_⟩ fun _ => Iff.rfl
  constructor
  · intro m
    rcases List.mem_cons.mp m with rfl | m
    · exact ⟨by decide +kernel, by show ∀ s ∈ [lB, lC, lBC], (∀ x ∈ s, x ∈ lB) → s = lB; decide +kernel⟩
    · rw [List.mem_singleton.mp m]
      exact ⟨by decide +kernel, by show ∀ s ∈ [lB, lC, lBC], (∀ x ∈ s, x ∈ lC) → s = lC; decide +kernel⟩
  · rintro ⟨h1, h2⟩
    rcases List.mem_cons.mp h1 with rfl | h1
    · decide +kernel
    rcases List.mem_cons.mp h1 with rfl | h1
    · decide +kernel
    have e := List.mem_singleton.mp h1
    subst e
    have k := h2 lB (by decide +kernel) (by show ∀ x ∈ lB, x ∈ lBC; decide +kernel)
    exact absurd k (by decide +kernel)
theorem tt2 : fall ("a" : Str) exT.2 = [lBC] := by decide +kernel
theorem tt3 : drop1 ("a" : Str) exT.1 = lBC := by decide +kernel
theorem goodS {F : FamT} (h1 : F.1 ≠ []) (h2 : ∀ x ∈ F.1, goodName x = true) (h3 : F.1.Pairwise fun a b => sl a b = true) (h4 : F.1.length ≤ 100) (h5 : F.2 ≠ []) (h6 : F.2.length ≤ 1000) (h7 : ∀ l ∈ F.2, l ≠ [] ∧ (l.Pairwise fun a b => sl a b = true) ∧ ∀ x ∈ l, x ∈ F.1) (h8 : F.2.Pairwise fun a b => lex sl a b = true) (h9 : ∀ a ∈ F.2, ∀ b ∈ F.2, (∀ x ∈ a, x ∈ b) → a = b) : GoodF goodName F :=
  ⟨⟨h1, h2, h3, h4⟩, h5, h6, fun l m => ⟨(h7 l m).1, (h7 l m).2.1, (h7 l m).2.2⟩, h8, fun a ha b hb s => h9 a ha b hb s⟩
theorem gT : GoodF goodName exT := goodS (by decide) (by decide +kernel) (by decide +kernel) (by decide) (by decide) (by decide) (by decide +kernel) (by decide +kernel) (by decide +kernel)
theorem gO : GoodF goodName exO := goodS (by decide) (by decide +kernel) (by decide +kernel) (by decide) (by decide) (by decide) (by decide +kernel) (by decide +kernel) (by decide +kernel)
theorem gL : GoodF goodName exL := goodS (by decide) (by decide +kernel) (by decide +kernel) (by decide) (by decide) (by decide) (by decide +kernel) (by decide +kernel) (by decide +kernel)
theorem ansFO : lawFall exO "a" = (((("none" : Str), (none : Option FamT))) : Ans) := by decide +kernel
theorem ansTO : lawTrust exO "a" = (((("none" : Str), (none : Option FamT))) : Ans) := by decide +kernel
theorem ansTL : lawTrust exL "a" = (((("last" : Str), (none : Option FamT))) : Ans) := by decide +kernel
theorem resF : resB false exT "a" = ((lBC, [lBC]) : FamT) := by
  unfold resB
  rw [tt2, tt3]
  rfl
theorem resT : resB true exT "a" = ((lBC, [lB, lC]) : FamT) := by
  unfold resB
  rw [tt1, tt3]
  rfl
theorem noF : ¬ noB false exT "a" := by
  unfold noB
  rw [if_neg (by decide), tt2]
  decide
theorem noT : ¬ noB true exT "a" := by
  unfold noB
  rw [if_pos rfl]
  decide +kernel
section
variable {T : List (Addr × Str)} {A H H' Hs : Hp} {D : Addr} {us : List V} {u : V}
/-- a row more in a list of ours -/
theorem add_row (nA : NT A) (e : Ex A H) (AD : A D = none) (hD : H D = some (.lst us)) (l : Lt T H H') (s : Ex Hs H') (o : ∀ b x, Hs b = some x → nt H b = none) :
    NT (jn A (nt Hs)) ∧ Ex (jn A (nt Hs)) (upd H' D (.lst (us ++ [u]))) ∧ (jn A (nt Hs)) D = none ∧ H' D = some (.lst us) ∧ Tabs T (upd H' D (.lst (us ++ [u]))) ∧ ExtN Hs (jn A (nt Hs)) := by
  have nl : ∀ {xs : List V} (ps : Array Value), HO.lst xs ≠ .tbl ps := fun _ z => by cases z
  have hD' : H' D = some (.lst us) := l.n _ _ hD nl
  have eA : Ex A H' := nA.ex e l.n
  have eN : Ex (nt Hs) H' := nt_sub.trans s
  have JD : (jn A (nt Hs)) D = none := by
    cases m : (jn A (nt Hs)) D with
    | none => rfl
    | some x =>
      rcases jn_of m with z | z
      · rw [AD] at z
        cases z
      · have k := o D x (nt_of z).1
        rw [nt_mk hD nl] at k
        cases k
  refine ⟨nA.jn (nt_NT Hs), (jn_ex eA eN).mut JD, JD, hD', tabs_but l.t hD' fun b o n h => ?_, fun b y h n => jn_r eA eN _ _ (nt_mk h n)⟩
  rw [upd_ne n]
  exact h
end
end K07
/-! text E38 -/
set_option Elab.async false
set_option linter.all false
set_option maxRecDepth 100000
set_option maxHeartbeats 8000000
/-! the law -/
namespace K07
open PySem PySem.Spec PyProof.Rows L2 Evl PySem.W Dw Dw.DV RZ StX Lot LmV LamX NdefX XvC KwX
section
variable {P : Program} {w : World} {K : PySem.W.Frag} {mg : Str → Option Value} {base : Heap} {T : List (Addr × Str)} {fa : Nat → Addr} {da : Nat → FuncData} {c pt : Nat → Addr}
abbrev NLaw : List Str := ["script", "stream", "turn", "family", "was", "name", "three", "found", "due"]
theorem scLaw : FnScope NLaw ["script"] (defScope (top 60)) := ⟨rfl, rfl, rfl, by decide +kernel, rfl, by decide +kernel, by decide +kernel⟩
def spLaw (K : PySem.W.Frag) (T : List (Addr × Str)) : Sp := fun vs H Q _ => ∃ (a : Addr) (ns : List Int), vs = [.ref a] ∧ SqL K H a (ns.map V.int) ∧ ns.length ≤ 63 ∧ Tabs T H ∧ ∀ H', Q (.bl true) H'
abbrev tFm (xs : TA) (ls : TA) : TE := tTup (tCons (tLst xs) (tCons (tLst ls) tNil))
abbrev tS1 (x : Str) : TA := tCons (tC (.str x)) tNil
abbrev tS2 (x y : Str) : TA := tCons (tC (.str x)) (tCons (tC (.str y)) tNil)
theorem ite_one {c : Prop} [Decidable c] {a : Prop} (h : a) : if c then a else a := by
  split
  · exact h
  · exact h
theorem call_go2 {sp : Sp} {E : XK} {ta tb : TE} {σ : L2.St} {H : Hp} {Q : VK} (h : ta σ H fun v H1 => tb σ H1 fun u H2 => sp [v, u] H2 Q E) : tCall sp [] E (tCons ta (tCons tb tNil)) σ H Q := h
theorem ed_exO {σ : L2.St} {A : Hp} : EvD (tFm (tS2 "a" "b") (tCons (tLst (tS1 "a")) tNil)) σ A exO := ed_pair ed_strs2 (ed_lst (eda_cons ed_strs1 eda_nil) (by decide))
theorem ed_exL {σ : L2.St} {A : Hp} : EvD (tFm (tS1 "a") (tCons (tLst (tS1 "a")) tNil)) σ A exL := ed_pair ed_strs1 (ed_lst (eda_cons ed_strs1 eda_nil) (by decide))
theorem sm_fam {F : FamT} (h1 : F.1.length ≤ 1000) (h2 : F.2.length ≤ 1000) (h3 : ∀ l ∈ F.2, l.length ≤ 1000) : DVT.sm F := ⟨⟨h1, fun _ _ => True.intro⟩, h2, fun l m => ⟨h3 l m, fun _ _ => True.intro⟩⟩
theorem sm_none (x : Str) : DVT.sm (((x, (none : Option FamT))) : Ans) := ⟨True.intro, fun G e => by cases e⟩
theorem ExD.trans {p c : Addr} {H H1 H2 : Hp} (a : ExD p c H H1) (b : ExD p c H1 H2) : ExD p c H H2 := fun x o m h n => b x o m (a x o m h n) n
theorem ok_law (W : Wd P w K mg base T fa da c pt) (tb : ∀ cc, (da 60).code = .ref cc → TabB base mg cc (pt 60)) (tm : (pt 60, ("law.<locals>.<lambda>" : Str)) ∈ T) (tu : ∀ p ∈ T, p.1 = pt 60 → p.2 = ("law.<locals>.<lambda>" : Str)) : FnOk P w K mg base CX0 12 (fa 60) (da 60) ["script"] (spLaw K T) := by
  have B := W.b
  have DC := W.d 48 "_law_copied" (by decide +kernel)
  have GC := ok_copied (P := P) (w := w) (base := base) DC.F DC.g W.b 8
  have bC : Binds K (da 48) ["thing"] [] := df_b1 DC (by intros; rfl)
  have DS := W.d 49 "_law_same" (by decide +kernel)
  have GS := ok_same (P := P) (w := w) (base := base) DS.F DS.g W.b 9
  have bS : Binds K (da 49) ["found", "due"] [] := df_b2 DS (by intros; rfl)
  have DM := W.d 47 "_law_mixed" (by decide +kernel)
  have DD := W.d 46 "_law_draw" (by decide +kernel)
  have DT := W.d 45 "_law_start" (by decide +kernel)
  have GT : FnOk P w K mg base CX0 1 (fa 45) (da 45) ["script"] (spStart K) := ok_start DT.F B.list
  have bT : Binds K (da 45) ["script"] [] := df_b1 DT (by intros; rfl)
  have DF := W.d 41 "_law_a_family" (by decide +kernel)
  have GF : FnOk P w K mg base CX0 4 (fa 41) (da 41) ["stream", "many"] spFamA := ok_famA DF.F B DD DM (W.d 39 _ (by decide +kernel)) (W.d 50 _ (by decide +kernel)) (W.d 37 _ (by decide +kernel)) (W.d 40 _ (by decide +kernel)) (W.d 36 _ (by decide +kernel))
  have bF : Binds K (da 41) ["stream", "many"] [] := df_b2 DF (by intros; rfl)
  have DU := W.d 42 "_law_a_council" (by decide +kernel)
  have GU : FnOk P w K mg base CX0 4 (fa 42) (da 42) ["stream", "many"] spFamA := ok_councilA DU.F B DD DM (W.d 39 _ (by decide +kernel)) (W.d 50 _ (by decide +kernel)) (W.d 37 _ (by decide +kernel)) (W.d 40 _ (by decide +kernel)) (W.d 36 _ (by decide +kernel)) (W.d 38 _ (by decide +kernel))
  have bU : Binds K (da 42) ["stream", "many"] [] := df_b2 DU (by intros; rfl)
  have DK := W.d 57 "_law_keeper_right" (by decide +kernel)
  have GK : FnOk P w K mg base CX0 11 (fa 57) (da 57) ["stream", "family", "name"] (spKr T) := ok_kr W
  have bK : Binds K (da 57) ["stream", "family", "name"] [] := DK.F.bindsN fun _ _ _ _ _ _ us hl => match us, hl with | [_, _, _], _ => rfl
  have DW := W.d 58 "_law_two_right" (by decide +kernel)
  have GW : FnOk P w K mg base CX0 11 (fa 58) (da 58) ["stream", "family"] (spTw T) := ok_tw W
  have bW : Binds K (da 58) ["stream", "family"] [] := df_b2 DW (by intros; rfl)
  have DL := W.d 59 "_law_least_right" (by decide +kernel)
  have GL : FnOk P w K mg base CX0 11 (fa 59) (da 59) ["stream", "family"] (spLr T) := ok_lr W
  have bL : Binds K (da 59) ["stream", "family"] [] := df_b2 DL (by intros; rfl)
  have D1 := W.d 33 "fallen_family" (by decide +kernel)
  have G1 : FnOk P w K mg base (L2.CX P w) 6 (fa 33) (da 33) ["family", "keeper"] (spFallL (c 9) (c 10)) := ok_fallL D1.F W.b W.fs (W.d 24 _ (by decide +kernel)) W.nl W.lk (W.d 30 _ (by decide +kernel)) (W.d 32 _ (by decide +kernel))
  have b1 : Binds K (da 33) ["family", "keeper"] [] := df_b2 D1 (by intros; rfl)
  have D2 := W.d 34 "trusted_family" (by decide +kernel)
  have G2 : FnOk P w K mg base (L2.CX P w) 6 (fa 34) (da 34) ["family", "keeper"] (spTrustL T (c 9) (c 10)) := ok_trustL D2.F W.b W.fs (W.d 24 _ (by decide +kernel)) (W.d 25 _ (by decide +kernel)) W.le W.nl W.lk (W.d 30 _ (by decide +kernel)) (W.d 32 _ (by decide +kernel))
  have b2 : Binds K (da 34) ["family", "keeper"] [] := df_b2 D2 (by intros; rfl)
  refine okC (W.d 60 "law" (by decide +kernel)).F scLaw (fun vs H Q E h => ?_) (fun cc A outer s H vs Q E hc hr h => ?_)
  · obtain ⟨a, _, rfl, _⟩ := h
    rfl
  · obtain ⟨a, ns, rfl, hS, hl, hT, q⟩ := h
    refine ⟨_, PSs.nox (pss_cons (ps_set (i := 1) scLaw.nd rfl (.inl rfl) (pe_call GT (hr.mono (by decide)) (by rfl) DT.g DT.F.kp bT .nil pass0 (pa_cons (pv 0) pa_nil)))
      (pss_cons (ps_for PassesOwn.never rfl (pi_range1 (by rfl) B.range (pa_cons pe_int pa_nil)) (pg_name (i := 2) scLaw.nd rfl (.inl rfl))
        (pss_cons (ps_set (i := 3) scLaw.nd rfl (.inl rfl) (pe_ifExp (pt_cmpR op_eq (pe_op op_mod (pv 2) pe_int) pe_int (nomark _)) (pe_call GF (hr.mono (by decide)) (by rfl) DF.g DF.F.kp bF .nil pass0 (pa_cons (pv 1) (pa_cons pe_int pa_nil))) (pe_call GU (hr.mono (by decide)) (by rfl) DU.g DU.F.kp bU .nil pass0 (pa_cons (pv 1) (pa_cons pe_int pa_nil)))))
        (pss_cons (ps_set (i := 4) scLaw.nd rfl (.inl rfl) (pe_call GC (hr.mono (by decide)) (by rfl) DC.g DC.F.kp bC .nil pass0 (pa_cons (pv 3) pa_nil)))
        (pss_cons (ps_for PassesOwn.never rfl (pi_list (pe_ix ix_tup (pv 3) pe_int (fun _ _ => rfl))) (pg_name (i := 5) scLaw.nd rfl (.inl rfl))
          (pss_one (ps_if (pt_not (pt_val (pe_call GK hr (by rfl) DK.g DK.F.kp bK .nil pass0 (pa_cons (pv 1) (pa_cons (pv 3) (pa_cons (pv 5) pa_nil)))))) pss_never pss_nil)))
        (pss_one (ps_if (pw_or (pt_not (pt_val (pe_call GW hr (by rfl) DW.g DW.F.kp bW .nil pass0 (pa_cons (pv 1) (pa_cons (pv 3) pa_nil))))) (pw_or (pt_not (pt_val (pe_call GL hr (by rfl) DL.g DL.F.kp bL .nil pass0 (pa_cons (pv 1) (pa_cons (pv 3) pa_nil)))))
          (pw_or1 (pt_not (pt_val (pe_call GS (hr.mono (by decide)) (by rfl) DS.g DS.F.kp bS .nil pass0 (pa_cons (pv 3) (pa_cons (pv 4) pa_nil)))))))).pt pss_never pss_nil))))))
      (pss_cons (ps_set (i := 6) scLaw.nd rfl (.inl rfl) (pe_tup (pa_cons (pe_lst (pa_cons pe_str (pa_cons pe_str (pa_cons pe_str pa_nil)))) (pa_cons (pe_lst (pa_cons (pe_lst (pa_cons pe_str (pa_cons pe_str pa_nil))) (pa_cons (pe_lst (pa_cons pe_str (pa_cons pe_str pa_nil))) (pa_cons (pe_lst (pa_cons pe_str (pa_cons pe_str pa_nil))) pa_nil)))) pa_nil))))
      (pss_cons (ps_set (i := 7) scLaw.nd rfl (.inl rfl) (pe_lst (pa_cons (pe_call G1 (hr.mono (by decide)) (by rfl) D1.g D1.F.kp b1 .nil passL (pa_cons (pe_call GC (hr.mono (by decide)) (by rfl) DC.g DC.F.kp bC .nil pass0 (pa_cons (pv 6) pa_nil)) (pa_cons pe_str pa_nil)))
        (pa_cons (pe_call G2 (hr.mono (by decide)) (by rfl) D2.g D2.F.kp b2 .nil passL (pa_cons (pe_call GC (hr.mono (by decide)) (by rfl) DC.g DC.F.kp bC .nil pass0 (pa_cons (pv 6) pa_nil)) (pa_cons pe_str pa_nil))) pa_nil))))
      (pss_cons (ps_expr (pe_bm PySem.F.plainAttrs_list PySem.F.slot_list_append PySem.F.type_list_append mt_append (pv 7) (pa_cons (pe_met (k := 8) (t := fun E => tCall (spFallL (c 9) (c 10)) [] E (tCons (tFm (tS2 "a" "b") (tCons (tLst (tS1 "a")) tNil)) (tCons (tC (.str "a")) tNil))) (defScope (top 60)) W (by rfl) (tb cc hc) rfl tm tu (hr.mono (by decide)) rfl (by decide +kernel) rfl (fun _ _ _ _ _ => rfl)
        (fun A outer s H E f c' hr2 => pe_call G1 (hr2.mono (by decide)) (by rfl) D1.g D1.F.kp b1 .nil (passes_call (takes_of rfl rfl rfl rfl) fun _ _ _ _ h => h) (pa_cons (pe_tup (pa_cons (pe_lst (pa_cons pe_str (pa_cons pe_str pa_nil))) (pa_cons (pe_lst (pa_cons (pe_lst (pa_cons pe_str pa_nil)) pa_nil)) pa_nil))) (pa_cons pe_str pa_nil)))) pa_nil)))
      (pss_cons (ps_expr (pe_bm PySem.F.plainAttrs_list PySem.F.slot_list_append PySem.F.type_list_append mt_append (pv 7) (pa_cons (pe_met (k := 8) (t := fun E => tCall (spTrustL T (c 9) (c 10)) [] E (tCons (tFm (tS2 "a" "b") (tCons (tLst (tS1 "a")) tNil)) (tCons (tC (.str "a")) tNil))) (defScope (top 60)) W (by rfl) (tb cc hc) rfl tm tu (hr.mono (by decide)) rfl (by decide +kernel) rfl (fun _ _ _ _ _ => rfl)
        (fun A outer s H E f c' hr2 => pe_call G2 (hr2.mono (by decide)) (by rfl) D2.g D2.F.kp b2 .nil (passes_call (takes_of rfl rfl rfl rfl) fun _ _ _ _ h => h) (pa_cons (pe_tup (pa_cons (pe_lst (pa_cons pe_str (pa_cons pe_str pa_nil))) (pa_cons (pe_lst (pa_cons (pe_lst (pa_cons pe_str pa_nil)) pa_nil)) pa_nil))) (pa_cons pe_str pa_nil)))) pa_nil)))
      (pss_cons (ps_expr (pe_bm PySem.F.plainAttrs_list PySem.F.slot_list_append PySem.F.type_list_append mt_append (pv 7) (pa_cons (pe_met (k := 8) (t := fun E => tCall (spTrustL T (c 9) (c 10)) [] E (tCons (tFm (tS1 "a") (tCons (tLst (tS1 "a")) tNil)) (tCons (tC (.str "a")) tNil))) (defScope (top 60)) W (by rfl) (tb cc hc) rfl tm tu (hr.mono (by decide)) rfl (by decide +kernel) rfl (fun _ _ _ _ _ => rfl)
        (fun A outer s H E f c' hr2 => pe_call G2 (hr2.mono (by decide)) (by rfl) D2.g D2.F.kp b2 .nil (passes_call (takes_of rfl rfl rfl rfl) fun _ _ _ _ h => h) (pa_cons (pe_tup (pa_cons (pe_lst (pa_cons pe_str pa_nil)) (pa_cons (pe_lst (pa_cons (pe_lst (pa_cons pe_str pa_nil)) pa_nil)) pa_nil))) (pa_cons pe_str pa_nil)))) pa_nil)))
      (pss_cons (ps_set (i := 8) scLaw.nd rfl (.inl rfl) (pe_lst (pa_cons (pe_tup (pa_cons (pe_lst (pa_cons pe_str (pa_cons pe_str pa_nil))) (pa_cons (pe_lst (pa_cons (pe_lst (pa_cons pe_str (pa_cons pe_str pa_nil))) pa_nil)) pa_nil)))
        (pa_cons (pe_tup (pa_cons (pe_lst (pa_cons pe_str (pa_cons pe_str pa_nil))) (pa_cons (pe_lst (pa_cons (pe_lst (pa_cons pe_str pa_nil)) (pa_cons (pe_lst (pa_cons pe_str pa_nil)) pa_nil))) pa_nil)))
        (pa_cons (pe_tup (pa_cons pe_str (pa_cons pe_non pa_nil))) (pa_cons (pe_tup (pa_cons pe_str (pa_cons pe_non pa_nil))) (pa_cons (pe_tup (pa_cons pe_str (pa_cons pe_non pa_nil))) pa_nil)))))))
      (pss_one (ps_ret (pe_call GS (hr.mono (by decide)) (by rfl) DS.g DS.F.kp bS .nil pass0 (pa_cons (pv 7) (pa_cons (pv 8) pa_nil))))))))))))), ?_⟩
    refine ⟨.ref a, rfl, a, ns, rfl, hS, hl, fun H1 p c0 e1 np nc st => nm_go ?_⟩
    refine b_forR (hi := 10) (n := 10) (Ex.refl H1) (show EvA (tCons (tC (.int 10)) tNil) _ H1 [.int 10] from fun H1 e Q q => q H1 (Ex.refl H1)) (by decide) (by decide) rfl (fun i σ H' => ∃ y2 y3 y4 y5, σ = [some (.ref a), some (.ref p), y2, y3, y4, y5, none, none, none] ∧ St H' p c0 (9000 * (i : Int)) ∧ Tabs T H') (fun H2 e2 => ?_) (fun i σ H2 hi hI => ?_) fun σ H2 hI => ?_
    · obtain ⟨o1, hp⟩ := st.p
      obtain ⟨o2, hc2⟩ := st.c
      exact ⟨_, _, _, _, rfl, st.ext ((e2 _ _ hp).trans hp.symm) ((e2 _ _ hc2).trans hc2.symm) (by omega), hT.ext (e1.trans e2)⟩
    · obtain ⟨y2, y3, y4, y5, rfl, st2, t2⟩ := hI
      refine nm_go ?_
      have tst : EvT (tTest (tOp rEq (tOp (rI (fun _ j => 0 < j) fun i j => V.int (i % j)) (tVar 2) (tC (V.int 2))) (tC (V.int 0)))) [some (.ref a), some (.ref p), some (.int (0 + (i : Int))), y3, y4, y5, none, none, none] H2 (decide (V.int ((0 + (i : Int)) % 2) = V.int 0)) := et_test (ev_op (show Ev (tOp (rI (fun _ j => 0 < j) fun i j => V.int (i % j)) (tVar 2) (tC (V.int 2))) _ H2 (.int ((0 + (i : Int)) % 2)) from fun H e Q q => ⟨_, rfl, _, 2, rfl, rfl, (show (0 : Int) < 2 by decide), q H (Ex.refl H)⟩) ev_c (rv_eq rfl))
      refine tst H2 (Ex.refl _) _ fun H3 e3 => ?_
      refine ite_one ?_
      obtain ⟨o1, hp⟩ := st2.p
      obtain ⟨o2, hc2⟩ := st2.c
      have st3 : St H3 p c0 (9000 * (i : Int)) := st2.ext ((e3 _ _ hp).trans hp.symm) ((e3 _ _ hc2).trans hc2.symm) (Int.le_refl _)
      refine ⟨.ref p, rfl, p, c0, 9000 * (i : Int), rfl, st3, by omega, fun F v3 H4 Hs gf x4 s4 eHs oHs rF => nm_go ?_⟩
      have A4e : Ex (nt Hs) H4 := nt_sub.trans eHs
      have oF : ∀ b o, (nt Hs) b = some o → H3 b = none := fun b o h => (oHs b o (nt_of h).1).elim (fun z => by cases z) id
      have rF' : rep (nt Hs) v3 F := DVN.extN (nt_ext Hs) rF
      have t4 : Tabs T H4 := tabs_exb (t2.ext e3) st3 x4
      refine b_asg (Bs.start A4e) (ed_copied (d := 8) (E := E0) (ed_var (i := 3) rfl rF') (good_sm gf.g)) fun v4 A5 H5 B5 x5 r5 => ?_
      have n6 : NT (nt A5) := nt_NT A5
      have e6 : Ex (nt A5) H5 := nt_sub.trans B5.h
      have off : ∀ b, b ∈ [p, c0] → (nt A5) b = none := fun b m => by
        cases z : (nt A5) b with
        | none => rfl
        | some o =>
          rcases B5.o b o (nt_of z).1 with y | y
          · exact absurd m (nPC st3 (oF b o y))
          · exact absurd m (nPC s4 y)
      have q3 : rep (nt A5) v3 F := DVN.extN (nt_ext A5) (DV.ext x5 rF')
      have q4 : rep (nt A5) v4 F := DVN.extN (nt_ext A5) r5
      obtain ⟨o3, hp4⟩ := s4.p
      obtain ⟨o4, hc4⟩ := s4.c
      have st5 : St H5 p c0 (9000 * (i : Int) + 2000) := s4.ext ((B5.e _ _ hp4).trans hp4.symm) ((B5.e _ _ hc4).trans hc4.symm) (Int.le_refl _)
      have t5 : Tabs T H5 := t4.ext B5.e
      have offp := off p List.mem_cons_self
      have offc := off c0 (List.mem_cons_of_mem _ List.mem_cons_self)
      clear off
      generalize nt A5 = A6 at n6 e6 q3 q4 offp offc
      have keep : ∀ {H'}, ExD p c0 H5 H' → Ex A6 H' := fun {H'} x b o h => x b o (fun m => by
        rcases List.mem_cons.mp m with z | m
        · rw [z, offp] at h
          cases h
        · rw [List.mem_singleton.mp m, offc] at h
          cases h) (e6 _ _ h) fun ps z => n6 b ps (by rw [h, z])
      have l11 : F.1.length ≤ 11 := by
        have := sub_len (gf.g.ks.asc.nodup sl_tot) gf.s
        have : nameL.length = 11 := rfl
        omega
      have n9 : late9 ∉ F.1 := fun m => absurd (gf.s m) (by decide +kernel)
      have q3' := q3
      obtain ⟨a3, k1, l1, rfl, ha3, ⟨ka, us, rfl, hka, hus⟩, _⟩ := q3'
      have ul := Reps.len hus
      refine ⟨.ref a3, rfl, a3, [.ref ka, l1], 0, .ref ka, rfl, rfl, st_of (e6 _ _ ha3), rfl, ka, rfl, ⟨us, sq_of (e6 _ _ hka)⟩, ?_⟩
      refine for_list (xs := us) (fun j σ H' => ∃ y5, σ = [some (.ref a), some (.ref p), some (.int (0 + (i : Int))), some (.ref a3), some v4, y5, none, none, none] ∧ ExD p c0 H5 H' ∧ Tabs T H' ∧ St H' p c0 (9000 * (i : Int) + 2000 + 100 * (j : Int)) ∧ j ≤ 11) ⟨_, rfl, fun b o _ h _ => h, t5, st5.up (by omega), by omega⟩ (fun j σ H' _ h => by
        obtain ⟨y5, rfl, xd, _⟩ := h
        exact sq_of (keep xd _ _ hka)) (fun j x σ H' hx h => ?_) fun σ H' h => ?_
      · obtain ⟨y5, rfl, xd, tH, sH, j11⟩ := h
        obtain ⟨hj, _⟩ := List.getElem?_eq_some_iff.mp hx
        have hk : F.1[j]? = some F.1[j] := List.getElem?_eq_getElem (by omega)
        have ex : x = .str F.1[j] := Reps.at hus hx hk
        subst ex
        refine nm_go ?_
        refine ⟨.ref p, rfl, .ref a3, rfl, .str F.1[j], rfl, p, c0, _, .ref a3, F, F.1[j], A6, rfl, sH, by omega, keep xd, n6, offp, offc, tH, q3, ⟨gf.g, List.getElem_mem _⟩, gf.l, n9, fun H7 x7 t7 s7 => ⟨true, rfl, if_no (by decide) ?_⟩⟩
        exact ⟨_, rfl, xd.trans x7, t7, s7.up (by omega), by omega⟩
      · obtain ⟨y5, rfl, xd, tH, sH, j11⟩ := h
        refine ⟨.ref p, rfl, .ref a3, rfl, p, c0, _, .ref a3, F, A6, rfl, sH, by omega, keep xd, n6, offp, offc, tH, q3, gf.g, fun H8 x8 t8 s8 => ⟨true, rfl, if_no (by decide) ?_⟩⟩
        refine ⟨.ref p, rfl, .ref a3, rfl, p, c0, _, .ref a3, F, A6, rfl, s8, by omega, keep (xd.trans x8), n6, offp, offc, t8, q3, gf.g, gf.s, fun H9 x9 t9 s9 => ⟨true, rfl, if_no (by decide) ?_⟩⟩
        have same := et_not (et_B (ev_same (d := 9) (E := E0) (σ := [some (.ref a), some (.ref p), some (.int (0 + (i : Int))), some (.ref a3), some v4, y5, none, none, none]) (ed_var (i := 3) rfl q3) (ed_var (i := 4) rfl q4) rfl (good_sm gf.g) (by decide)))
        refine same H9 (keep ((xd.trans x8).trans x9)) _ fun H10 e10 => ?_
        refine if_no (by decide) ?_
        obtain ⟨o5, hp9⟩ := s9.p
        obtain ⟨o6, hc9⟩ := s9.c
        exact ⟨_, _, _, _, rfl, s9.ext ((e10 _ _ hp9).trans hp9.symm) ((e10 _ _ hc9).trans hc9.symm) (by omega), t9.ext e10⟩
    · obtain ⟨y2, y3, y4, y5, rfl, st2, t2⟩ := hI
      clear st2 hS hT e1 np nc st
      refine b_asg (A := fun _ => none) (x := exT) (Bs.start (fun _ _ z => by cases z)) (ed_pair (ed_lst (eda_cons ed_str (eda_cons ed_str (eda_cons ed_str eda_nil))) (by decide)) (ed_lst (eda_cons ed_strs2 (eda_cons ed_strs2 (eda_cons ed_strs2 eda_nil))) (by decide))) fun v6 A1 H3 B3 x3 r6 => ?_
      have n2 : NT (nt A1) := nt_NT A1
      have e2 : Ex (nt A1) H3 := nt_sub.trans B3.h
      have rT : rep (nt A1) v6 exT := DVN.extN (nt_ext A1) r6
      have t3 : Tabs T H3 := t2.ext B3.e
      generalize nt A1 = A2 at n2 e2 rT
      have twT : Tw A2 A2 8 v6 v6 := (DVT.tw (good_sm gT) rT rT).ups (by decide)
      refine ⟨v6, rfl, v6, A2, rfl, e2, twT, fun z1 H4 Hs4 e4 s4 o4 tw4 => ?_⟩
      refine sp_B (b := false) (T := T) (c := c) s4 (t3.ext e4) (fmR_of (DVT.cp rT tw4)) ⟨gT, by decide +kernel⟩ (by decide) (fun z => absurd z noF) fun _ w1 H5 Hs5 L5 l5 s5 o5 r5 nd5 dm5 => ?_
      have l35 : Lt T H3 H5 := (Lt.of t3 e4).trans l5
      refine ⟨v6, rfl, v6, A2, rfl, n2.ex e2 l35.n, twT, fun z2 H6 Hs6 e6 s6 o6 tw6 => ?_⟩
      refine sp_B (b := true) (T := T) (c := c) s6 (l35.t.ext e6) (fmR_of (DVT.cp rT tw6)) ⟨gT, by decide +kernel⟩ (by decide) (fun z => absurd z noT) fun _ w2 H7 Hs7 L7 l7 s7 o7 r7 nd7 dm7 => ?_
      rw [resF] at r5
      rw [resT] at r7
      refine ⟨by show 2 ≤ sizeLine; decide, fun D nD => nm_go ?_⟩
      have g5 : Ex (nt Hs5) H7 := nt_ex s5 ((ExtN.of e6).trans l7.n)
      have g7 : Ex (nt Hs7) H7 := nt_sub.trans s7
      have eJ : Ex (jn (nt Hs5) (nt Hs7)) H7 := jn_ex g5 g7
      have n3 : NT (jn (nt Hs5) (nt Hs7)) := (nt_NT Hs5).jn (nt_NT Hs7)
      have D3 : (jn (nt Hs5) (nt Hs7)) D = none := exf eJ nD
      have q1 : rep (jn (nt Hs5) (nt Hs7)) w1 ((lBC, [lBC]) : FamT) := DV.ext jn_l (DVN.extN (nt_ext Hs5) (fmW_rep r5))
      have q2 : rep (jn (nt Hs5) (nt Hs7)) w2 ((lBC, [lB, lC]) : FamT) := DV.ext (jn_r g5 g7) (DVN.extN (nt_ext Hs7) (fmW_rep r7))
      have hD8 : (upd H7 D (.lst [w1, w2])) D = some (.lst [w1, w2]) := upd_same
      have e8 : Ex (jn (nt Hs5) (nt Hs7)) (upd H7 D (.lst [w1, w2])) := eJ.trans (Ex.new nD)
      have t8 : Tabs T (upd H7 D (.lst [w1, w2])) := l7.t.ext (Ex.new nD)
      generalize jn (nt Hs5) (nt Hs7) = A3 at n3 D3 q1 q2 e8
      generalize upd H7 D (.lst [w1, w2]) = H8 at hD8 e8 t8
      clear eJ g5 g7 r5 r7 l7 l5 l35 nD
      -- three more
      refine ⟨.ref D, rfl, .inl ⟨rfl, _, sq_of hD8⟩, ?_⟩
      refine ⟨t8, fun H9 n9 t9 => call_go2 (ed_exO (A := fun _ => none) H9 (fun _ _ z => by cases z) _ fun z9 H10 Hs10 e10 s10 r10 => ?_)⟩
      refine met_fall (T := T) (H := H8) s10.e (fmR_of r10) ⟨gO, by decide +kernel⟩ ⟨n9.trans (ExtN.of e10), t9.ext e10⟩ fun u1 H11 Hs11 L11 l11 s11 o11 a11 nd11 dm11 => ?_
      rw [ansFO] at a11
      obtain ⟨n4, e4', D4, hD11, t12, x11⟩ := add_row (u := u1) n3 e8 D3 hD8 l11 s11 o11
      refine ⟨D, [w1, w2], u1, rfl, rfl, hD11, by show 2 < sizeLine; decide, ?_⟩
      have p1 : rep (jn A3 (nt Hs11)) u1 (((("none" : Str), (none : Option FamT))) : Ans) := DVN.extN x11 (ansW_rep a11)
      replace q1 := DV.ext (jn_l (B := nt Hs11)) q1
      replace q2 := DV.ext (jn_l (B := nt Hs11)) q2
      have hD12 : (upd H11 D (.lst ([w1, w2] ++ [u1]))) D = some (.lst [w1, w2, u1]) := upd_same
      dsimp only
      generalize upd H11 D (.lst ([w1, w2] ++ [u1])) = H12 at e4' t12 hD12 ⊢
      generalize jn A3 (nt Hs11) = A4 at n4 e4' D4 p1 q1 q2
      clear x11 hD11 a11 l11 s11 o11 nd11 dm11 L11 Hs11 r10 s10 Hs10 e10 n9 t9
      refine ⟨.ref D, rfl, .inl ⟨rfl, _, sq_of hD12⟩, ?_⟩
      refine ⟨t12, fun H13 n13 t13 => call_go2 (ed_exO (A := fun _ => none) H13 (fun _ _ z => by cases z) _ fun z13 H14 Hs14 e14 s14 r14 => ?_)⟩
      refine met_trust (T := T) (H := H12) s14.e (fmR_of r14) ⟨gO, by decide +kernel⟩ ⟨n13.trans (ExtN.of e14), t13.ext e14⟩ fun u2 H15 Hs15 L15 l15 s15 o15 a15 nd15 dm15 => ?_
      rw [ansTO] at a15
      obtain ⟨n5, e5', D5, hD15, t16, x15⟩ := add_row (u := u2) n4 e4' D4 hD12 l15 s15 o15
      refine ⟨D, [w1, w2, u1], u2, rfl, rfl, hD15, by show 3 < sizeLine; decide, ?_⟩
      have p2 : rep (jn A4 (nt Hs15)) u2 (((("none" : Str), (none : Option FamT))) : Ans) := DVN.extN x15 (ansW_rep a15)
      replace q1 := DV.ext (jn_l (B := nt Hs15)) q1
      replace q2 := DV.ext (jn_l (B := nt Hs15)) q2
      replace p1 := DV.ext (jn_l (B := nt Hs15)) p1
      have hD16 : (upd H15 D (.lst ([w1, w2, u1] ++ [u2]))) D = some (.lst [w1, w2, u1, u2]) := upd_same
      dsimp only
      generalize upd H15 D (.lst ([w1, w2, u1] ++ [u2])) = H16 at e5' t16 hD16 ⊢
      generalize jn A4 (nt Hs15) = A5 at n5 e5' D5 p1 p2 q1 q2
      clear x15 hD15 a15 l15 s15 o15 nd15 dm15 L15 Hs15 r14 s14 Hs14 e14 n13 t13
      refine ⟨.ref D, rfl, .inl ⟨rfl, _, sq_of hD16⟩, ?_⟩
      refine ⟨t16, fun H17 n17 t17 => call_go2 (ed_exL (A := fun _ => none) H17 (fun _ _ z => by cases z) _ fun z17 H18 Hs18 e18 s18 r18 => ?_)⟩
      refine met_trust (T := T) (H := H16) s18.e (fmR_of r18) ⟨gL, by decide +kernel⟩ ⟨n17.trans (ExtN.of e18), t17.ext e18⟩ fun u3 H19 Hs19 L19 l19 s19 o19 a19 nd19 dm19 => ?_
      rw [ansTL] at a19
      obtain ⟨n6, e6', D6, hD19, t20, x19⟩ := add_row (u := u3) n5 e5' D5 hD16 l19 s19 o19
      refine ⟨D, [w1, w2, u1, u2], u3, rfl, rfl, hD19, by show 4 < sizeLine; decide, ?_⟩
      have p3 : rep (jn A5 (nt Hs19)) u3 (((("last" : Str), (none : Option FamT))) : Ans) := DVN.extN x19 (ansW_rep a19)
      replace q1 := DV.ext (jn_l (B := nt Hs19)) q1
      replace q2 := DV.ext (jn_l (B := nt Hs19)) q2
      replace p1 := DV.ext (jn_l (B := nt Hs19)) p1
      replace p2 := DV.ext (jn_l (B := nt Hs19)) p2
      have hD20 : (upd H19 D (.lst ([w1, w2, u1, u2] ++ [u3]))) D = some (.lst [w1, w2, u1, u2, u3]) := upd_same
      dsimp only
      generalize upd H19 D (.lst ([w1, w2, u1, u2] ++ [u3])) = H20 at e6' t20 hD20 ⊢
      generalize jn A5 (nt Hs19) = A6 at n6 e6' D6 p1 p2 p3 q1 q2
      clear x19 hD19 a19 l19 s19 o19 nd19 dm19 L19 Hs19 r18 s18 Hs18 e18 n17 t17
      -- due
      have due : EvRA (tCons (tTup (tCons (tLst (tS2 "b" "c")) (tCons (tLst (tCons (tLst (tS2 "b" "c")) tNil)) tNil))) (tCons (tTup (tCons (tLst (tS2 "b" "c")) (tCons (tLst (tCons (tLst (tS1 "b")) (tCons (tLst (tS1 "c")) tNil))) tNil)))
          (tCons (tTup (tCons (tC (.str "none")) (tCons (tC .non) tNil))) (tCons (tTup (tCons (tC (.str "none")) (tCons (tC .non) tNil))) (tCons (tTup (tCons (tC (.str "last")) (tCons (tC .non) tNil))) tNil))))) [some (.ref a), some (.ref p), y2, y3, y4, y5, some v6, some (.ref D), none] A6
          (ConsR (fun H v => rep H v ((lBC, [lBC]) : FamT)) (ConsR (fun H v => rep H v ((lBC, [lB, lC]) : FamT)) (ConsR (fun H v => rep H v (((("none" : Str), (none : Option FamT))) : Ans)) (ConsR (fun H v => rep H v (((("none" : Str), (none : Option FamT))) : Ans)) (ConsR (fun H v => rep H v (((("last" : Str), (none : Option FamT))) : Ans)) NilR))))) :=
        era_cons (er_of (ed_pair ed_strs2 (ed_lst (eda_cons ed_strs2 eda_nil) (by decide)))) (era_cons (er_of (ed_pair ed_strs2 (ed_lst (eda_cons ed_strs1 (eda_cons ed_strs1 eda_nil)) (by decide)))) (era_cons (er_of (ed_pair ed_str ed_none)) (era_cons (er_of (ed_pair ed_str ed_none)) (era_cons (er_of (ed_pair ed_str ed_none)) era_nil rep_mon nil_mon) rep_mon (cons_mon rep_mon nil_mon)) rep_mon (cons_mon rep_mon (cons_mon rep_mon nil_mon))) rep_mon (cons_mon rep_mon (cons_mon rep_mon (cons_mon rep_mon nil_mon)))) rep_mon (cons_mon rep_mon (cons_mon rep_mon (cons_mon rep_mon (cons_mon rep_mon nil_mon))))
      refine b_lstR (Bs.start e6') due (fun H vs h => ?_) (cons_mon rep_mon (cons_mon rep_mon (cons_mon rep_mon (cons_mon rep_mon (cons_mon rep_mon nil_mon))))) fun vs d A7 H21 B7 x7 d1 d2 hd hv => ?_
      · obtain ⟨v1, r1, rfl, _, v2, r2, rfl, _, v3, r3, rfl, _, v4, r4, rfl, _, v5, r5, rfl, _, h5⟩ := h
        have h5' : r5 = [] := h5
        subst h5'
        show 5 ≤ 100000
        decide
      · obtain ⟨v1, r1, rfl, b1', v2, r2, rfl, b2', v3, r3, rfl, b3', v4, r4, rfl, b4', v5, r5, rfl, b5', h5⟩ := hv
        have h5' : r5 = [] := h5
        subst h5'
        have g := B7.h
        refine ⟨.ref D, rfl, .ref d, rfl, .ref D, .ref d, rfl, .inr (.inl ⟨D, d, [w1, w2, u1, u2, u3], [v1, v2, v3, v4, v5], rfl, rfl, B7.e _ _ hD20, hd, by show 5 ≤ 1000; decide, ?_⟩), fun H' _ => q H'⟩
        have E7 := x7.trans g
        exact .cons ((DVT.tw (sm_fam (by decide) (by decide) (by decide)) (DV.ext E7 q1) (DV.ext g b1')).ups (by decide)) (.cons ((DVT.tw (sm_fam (by decide) (by decide) (by decide)) (DV.ext E7 q2) (DV.ext g b2')).ups (by decide)) (.cons ((DVT.tw (sm_none "none") (DV.ext E7 p1) (DV.ext g b3')).ups (by decide))
          (.cons ((DVT.tw (sm_none "none") (DV.ext E7 p2) (DV.ext g b4')).ups (by decide)) (.cons ((DVT.tw (sm_none "last") (DV.ext E7 p3) (DV.ext g b5')).ups (by decide)) .nil))))
end
end K07
/-! text H2 -/
set_option Elab.async false
set_option linter.all false
set_option maxRecDepth 100000
set_option maxHeartbeats 0
/-! the head: facts by names, the run -/
namespace K07
open PySem PySem.Spec PyProof.Rows L2 Dw XvC PySem.HandSPX
def defD (p : Nat × PySem.Str) : He.DefD := ⟨(p.2, none), p.2, p.2, defArgs (top p.1), defBody (top p.1), defScope (top p.1), [], []⟩
def clsInit (st : Stmt) : Stmt := match st with
  | .ClassDef _ _ _ (b :: _) _ _ _ _ _ _ _ => b
  | s => s
def initD (p : Nat × PySem.Str) : He.DefD := ⟨(p.2, some "__init__"), "__init__", p.2 ++ ".__init__", defArgs (clsInit (top p.1)), defBody (clsInit (top p.1)), defScope (clsInit (top p.1)), [], []⟩
def inits : List (Nat × PySem.Str) := [(5, "BadKeepers"), (6, "BadLots")]
def fn : List He.DefD := lawDefs.map defD ++ inits.map initD
def clsN : List PySem.Str := ["BadFamily", "BadCouncil", "BadKeepers", "BadKeeper", "BadLots", "BadNumber", "BadOtherNumber", "BadOtherFamily", "BadNaming", "LastKeeper", "NoLots"]
def fac : List He.Fa := frees.map He.Fa.free ++ (lawDefs.map (·.2)).map He.Fa.glo ++ clsN.map He.Fa.glo
def tf : List He.Defn := [("least_of", none), ("_law_keeper_right", none), ("_law_two_right", none), ("_law_least_right", none), ("law", none)]
def cOf (K : PySem.W.Frag) (i : Nat) : Addr := He.ga K (clsN.getD i "NoLots")
def noxB (K : PySem.W.Frag) (C : Addr) : Bool := PySem.W.excIn K C veTail "ValueError.__new__" && (PySem.W.keepIn K (.ref C) && (decide (PySem.W.subIn K (.ref C) (.type "BaseException") = some true) && (decide (PySem.W.typeIn K (.ref C) = some (.type "type")) && decide (PySem.W.exmOne K (.ref C) (.ref C) = some true))))
def ex1B (K : PySem.W.Frag) (C : Addr) (fld : PySem.Str) : Bool := XvC.exC K (He.ga K "LotError") C && (XvC.initB K C (He.ma K C "__init__") && (XvC.noB K C fld && xfB K C))
def exmB (K : PySem.W.Frag) : Bool := [2, 4, 9, 10].all fun i => (List.range 11).all fun j => decide (PySem.W.exmOne K (.ref (cOf K i)) (.ref (cOf K j)) = some (decide (i = j)))
def nodupA : List Addr → Bool
  | [] => true
  | a :: r => r.all (fun b => !Nat.beq a b) && nodupA r
def exx (K : PySem.W.Frag) : Bool := noxB K (cOf K 10) && (noxB K (cOf K 9) && (ex1B K (cOf K 2) "thing" && (ex1B K (cOf K 4) "index" && (exmB K && nodupA (tf.map fun p => (He.cT K p).2)))))
def loose : List PySem.Str := (["LotError", "BadCouncil", "BadFamily", "BadKeeper", "BadKeepers", "BadLots", "BadNaming", "BadNumber", "BadOtherFamily", "BadOtherNumber", "LastKeeper", "NoLots", "is_list", "is_name", "is_one_of"] : List PySem.Str) ++ (["are_keepers", "are_some_of", "is_lot_of", "holds", "is_family", "told_family", "checked_family", "least_of", "checked_keepers", "is_some_lot", "family_of", "known_keeper", "less_keeper", "fallen_family", "trusted_family"] : List PySem.Str) ++ (["_law_a_names", "_law_a_within", "_law_a_meet", "_law_a_least", "_law_a_lot", "_law_a_family", "_law_a_council", "_law_a_passed", "_law_a_met", "_law_start", "_law_draw", "_law_mixed", "_law_copied", "_law_same", "_law_each_once"] : List PySem.Str) ++ (["_law_loose", "_law_spoilt", "_law_is_once", "_law_apart", "_law_fallen", "_law_trusted", "_law_keeper_right", "_law_two_right", "_law_least_right"] : List PySem.Str)
abbrev R : PySem.W.OpenRow := PySem.W.OpenLaw.row PySem.Challenge.rw_meetinglots_k02_whole_without_a_keeper
abbrev hk : PySem.W.Hook := He.hookX 6 fac fn [] tf exx
def ob (s : PySem.W.SharedT) : He.AlX := He.obsX 6 fac fn [] tf exx (HandSHeadRun.getT s)
theorem ob_eq (s : PySem.W.SharedT) : ob s = hk.obs s.abs := He.obsX_eq (HandSHeadRun.getT_eq s)
theorem run (w : World) : HandSHeadRun.RunEq R (PySem.W.view R.prog [60]) hk ob 12000 loose w := by
  intro os
  kernel_rfl
end K07
/-! text Z02 -/
set_option Elab.async false
set_option linter.all false
set_option maxRecDepth 100000
set_option maxHeartbeats 4000000
/-! what the head tells, put together -/
namespace K07
open PySem PySem.Spec PyProof.Rows L2 Evl PySem.W Dw Dw.DV RZ StX Lot LmV LamX NdefX XvE XvC PySem.HandSPX
def csOf (K : PySem.W.Frag) : List (Addr × Addr) := tf.map fun p => He.cT K p
def ptOf (K : PySem.W.Frag) (i : Nat) : Addr := (He.cT K (match i with
  | 57 => ("_law_keeper_right", none)
  | 58 => ("_law_two_right", none)
  | 59 => ("_law_least_right", none)
  | 60 => ("law", none)
  | _ => ("least_of", none))).2
abbrev lawQ : Str := "law.<locals>.<lambda>"
def tOf (K : PySem.W.Frag) : List (Addr × Str) := [(ptOf K 25, lmQ), (ptOf K 57, "_law_keeper_right.<locals>.<lambda>"), (ptOf K 58, "_law_two_right.<locals>.<lambda>"), (ptOf K 59, "_law_least_right.<locals>.<lambda>"), (ptOf K 60, lawQ)]
def nmOf (i : Nat) : Str := ((lawDefs.find? fun p => p.1 == i).map (·.2)).getD "law"
theorem nm_of : ∀ p ∈ lawDefs, nmOf p.1 = p.2 := by decide +kernel
theorem bad {a b : Bool} (h : (a && b) = true) : a = true ∧ b = true := Bool.and_eq_true_iff.mp h
theorem nodupA_ok : ∀ {l : List Addr}, nodupA l = true → l.Nodup
  | [], _ => .nil
  | a :: r, h => by
    obtain ⟨h1, h2⟩ := bad h
    refine List.nodup_cons.mpr ⟨fun m => ?_, nodupA_ok h2⟩
    have k := List.all_eq_true.mp h1 a m
    rw [Nat.beq_refl] at k
    cases k
theorem uniq_fst {l : List (Addr × Str)} (nd : (l.map (·.1)).Nodup) {a : Addr} {q : Str} (m : (a, q) ∈ l) : ∀ p ∈ l, p.1 = a → p.2 = q := by
  induction l with
  | nil => cases m
  | cons x r ih =>
    rw [List.map_cons] at nd
    obtain ⟨n1, n2⟩ := List.nodup_cons.mp nd
    intro p hp e
    rcases List.mem_cons.mp m with y | y
    · rcases List.mem_cons.mp hp with z | z
      · rw [z, ← y]
      · refine absurd (List.mem_map.mpr ⟨p, z, ?_⟩) n1
        rw [e, ← y]
    · rcases List.mem_cons.mp hp with z | z
      · refine absurd (List.mem_map.mpr ⟨(a, q), y, ?_⟩) n1
        rw [← z, e]
      · exact ih n2 y p z e
section
variable {P : Program} {w : World} {K : PySem.W.Frag} {mg : Str → Option Value} {base : Heap} {C fI : Addr} {fd : FuncData} {q : Str} {args : Arguments} {body : List Stmt} {scope : Scope} {m : List Value}
theorem ok_init1 {fld : Str} {p1 p2 p3 p4 : Pos} (F : FunD K "__init__" q args body scope [] [] fI fd) (T : Xc K C m) (hno : PySem.W.findIn K (.ref C) fld = some none) (S : FnScope ["self", fld] ["self", fld] scope)
    (hb : body = [.Assign [.Attribute (.Name "self" p1) fld p2] (.Name fld p3) p4]) (hd : (fld == ("__debug__" : Str)) = false) (hcd : (fld == ("__classdict__" : Str)) = false) : FnOk P w K mg base CX0 1 fI fd ["self", fld] (spInit C [fld]) := by
  have vis : ∀ {x : Str}, x ∈ (["self", fld] : List Str) → Vis scope x := fun {x} h => (S.par x h).elim .inl fun z => .inr (.inl z)
  refine F.ok S (fun vs H Q E h => ?_) (fun cdv A outer s H vs Q E hr h => ?_)
  · obtain ⟨a, us, rfl, hl, _⟩ := h
    show us.length + 1 = 2
    rw [hl]
    rfl
  · obtain ⟨a, us, rfl, hl, he, qq⟩ := h
    obtain ⟨y, rfl⟩ : ∃ y, us = [y] := by
      match us, hl with
      | [y], _ => exact ⟨y, rfl⟩
    subst hb
    refine ⟨_, PSs.nox (pss_one (ps_ost (pe_var (i := 0) (X := (cxOf CX0 P w K mg base ["self", fld] q scope fI cdv A outer s H E).nox) rfl (vis (by simp)) rfl rfl) (pe_var (i := 1) rfl (vis (by simp)) hd hcd) rfl)), ?_⟩
    refine ⟨y, rfl, .ref a, rfl, a, C, rfl, T.oex, hno, .inl ⟨he, fun dx nd da => ?_⟩⟩
    refine qq dx _ nd da ?_ upd_same fun b h1 h2 => ?_
    · rw [upd_ne da, upd_same]
      rfl
    · rw [upd_ne h2, upd_ne h1]
end
section
variable {w : World} {h : Heap} {K : PySem.W.Frag} {mg : Str → Option Value} {base : Heap}
theorem mem_def {i : Nat} {n : Str} (m : (i, n) ∈ lawDefs) : defD (i, n) ∈ fn := List.mem_append_left _ (List.mem_map.mpr ⟨_, m, rfl⟩)
theorem mem_init {p : Nat × Str} (m : p ∈ inits) : initD p ∈ fn := List.mem_append_right _ (List.mem_map.mpr ⟨_, m, rfl⟩)
theorem mem_free {n : Str} (m : n ∈ frees) : He.Fa.free n ∈ fac := List.mem_append_left _ (List.mem_append_left _ (List.mem_map.mpr ⟨_, m, rfl⟩))
theorem mem_glo {n : Str} (m : n ∈ lawDefs.map (·.2)) : He.Fa.glo n ∈ fac := List.mem_append_left _ (List.mem_append_right _ (List.mem_map.mpr ⟨_, m, rfl⟩))
theorem mem_cls {n : Str} (m : n ∈ clsN) : He.Fa.glo n ∈ fac := List.mem_append_right _ (List.mem_map.mpr ⟨_, m, rfl⟩)
theorem dfOf (c : He.SaysX fac fn [] tf exx w h K) (X : K.In h) (G : h.Ns mainGlobals mg) {i : Nat} {n : Str} (m : (i, n) ∈ lawDefs) : ∃ fd, Df K mg n i (He.ga K n) fd := by
  obtain ⟨fd, F⟩ := c.t.d.defs (mem_def m)
  exact ⟨fd, F, He.glo_ok X G (c.t.d.facts (mem_glo (List.mem_map.mpr ⟨_, m, rfl⟩)))⟩
theorem cOf_g (c : He.SaysX fac fn [] tf exx w h K) (X : K.In h) (G : h.Ns mainGlobals mg) {i : Nat} {n : Str} (e : metN[i]? = some n) : mg n = some (.ref (cOf K i)) := by
  have e2 : cOf K i = He.ga K n := by
    unfold cOf
    rw [List.getD_eq_getElem?_getD, show clsN[i]? = some n from e]
    rfl
  rw [e2]
  exact He.glo_ok X G (c.t.d.facts (mem_cls (List.mem_of_getElem? (l := clsN) e)))
theorem nox_of {C : Addr} {n : Str} (g : mg n = some (.ref C)) (z : noxB K C = true) : NoX K mg n C := by
  obtain ⟨z1, z⟩ := bad z
  obtain ⟨z2, z⟩ := bad z
  obtain ⟨z3, z⟩ := bad z
  obtain ⟨z4, z5⟩ := bad z
  exact ⟨z1, g, z2, of_decide_eq_true z3, of_decide_eq_true z4, of_decide_eq_true z5⟩
theorem ex1_keepers (c : He.SaysX fac fn [] tf exx w h K) {P : Program} {w' : World} (g : mg "BadKeepers" = some (.ref (cOf K 2))) (z : ex1B K (cOf K 2) "thing" = true) : Ex1 P w' K mg base "BadKeepers" "thing" (cOf K 2) := by
  obtain ⟨z1, z⟩ := bad z
  obtain ⟨z2, z⟩ := bad z
  obtain ⟨z3, z4⟩ := bad z
  obtain ⟨i1, i2⟩ := bad z2
  obtain ⟨fd, F⟩ := c.t.d.defs (mem_init (p := (5, "BadKeepers")) (by decide +kernel))
  have x := xc_of (C := cOf K 2) (m := .ref (He.ga K "LotError") :: veTail) (by rfl) z1
  exact ⟨x.oex, ⟨_, fd, of_decide_eq_true i1, of_decide_eq_true i2, ok_init1 F x (of_decide_eq_true z3) ⟨rfl, rfl, rfl, by decide +kernel, rfl, by decide +kernel, by decide +kernel⟩ rfl rfl rfl, F.bindsN fun _ _ _ _ _ _ us hl => match us, hl with | [_, _], _ => rfl⟩, g, of_decide_eq_true z3, xfB_ok z4⟩
theorem ex1_lots (c : He.SaysX fac fn [] tf exx w h K) {P : Program} {w' : World} (g : mg "BadLots" = some (.ref (cOf K 4))) (z : ex1B K (cOf K 4) "index" = true) : Ex1 P w' K mg base "BadLots" "index" (cOf K 4) := by
  obtain ⟨z1, z⟩ := bad z
  obtain ⟨z2, z⟩ := bad z
  obtain ⟨z3, z4⟩ := bad z
  obtain ⟨i1, i2⟩ := bad z2
  obtain ⟨fd, F⟩ := c.t.d.defs (mem_init (p := (6, "BadLots")) (by decide +kernel))
  have x := xc_of (C := cOf K 4) (m := .ref (He.ga K "LotError") :: veTail) (by rfl) z1
  exact ⟨x.oex, ⟨_, fd, of_decide_eq_true i1, of_decide_eq_true i2, ok_init1 F x (of_decide_eq_true z3) ⟨rfl, rfl, rfl, by decide +kernel, rfl, by decide +kernel, by decide +kernel⟩ rfl rfl rfl, F.bindsN fun _ _ _ _ _ _ us hl => match us, hl with | [_, _], _ => rfl⟩, g, of_decide_eq_true z3, xfB_ok z4⟩
/-- a def's table of lambdas -/
theorem tabOf (TB : ∀ p ∈ csOf K, TabB base mg p.1 p.2) {n : Str} {i : Nat} {fd : FuncData} (hx : (i, n) ∈ lawDefs) (D : Df K mg n i (He.ga K (nmOf i)) fd) (mt : ((n, none) : He.Defn) ∈ tf) : ∀ cc, fd.code = .ref cc → TabB base mg cc (He.cT K (n, none)).2 := fun cd hc => by
  have hn : nmOf i = n := nm_of _ hx
  rw [hn] at D
  have t := TB (He.cT K (n, none)) (List.mem_map.mpr ⟨_, mt, rfl⟩)
  have e : (He.cT K (n, none)).1 = cd := by
    obtain ⟨oc, od, dV, kV, doc, pm, an, cdv, ct, osl, rfl, lk, _⟩ := D.F.ex
    exact He.codeOf_eq (p := (n, none)) lk hc
  rw [e] at t
  exact t
theorem tabs0 {H : Hp} (hT : ∀ p ∈ csOf K, H p.2 = some (.tbl #[])) : Tabs (tOf K) H := fun q hq => by
  have go : ∀ {n : Str}, ((n, none) : He.Defn) ∈ tf → H (He.cT K (n, none)).2 = some (.tbl #[]) := fun m => hT (He.cT K (_, none)) (List.mem_map.mpr ⟨_, m, rfl⟩)
  have k : H q.1 = some (.tbl #[]) := by
    rcases List.mem_cons.mp hq with rfl | hq
    · exact go (n := "least_of") (by decide +kernel)
    rcases List.mem_cons.mp hq with rfl | hq
    · exact go (n := "_law_keeper_right") (by decide +kernel)
    rcases List.mem_cons.mp hq with rfl | hq
    · exact go (n := "_law_two_right") (by decide +kernel)
    rcases List.mem_cons.mp hq with rfl | hq
    · exact go (n := "_law_least_right") (by decide +kernel)
    rw [List.mem_singleton.mp hq]
    exact go (n := "law") (by decide +kernel)
  exact ⟨#[], k, True.intro, fun pos cv z => by cases z⟩
/-- the law at the head's heap -/
theorem law_at (l : PySem.W.OpenLaw) (c : He.SaysX fac fn [] tf exx w h K) (X : K.In h) (G : h.Ns mainGlobals mg) {f : Addr} (hf : mg ("law" : Str) = some (.ref f)) : LawAtS l w K CX0 12 63 "script" mg f h := by
  obtain ⟨z1, y⟩ := bad c.more
  obtain ⟨z2, y⟩ := bad y
  obtain ⟨z3, y⟩ := bad y
  obtain ⟨z4, y⟩ := bad y
  obtain ⟨z5, z6⟩ := bad y
  have fr : ∀ {n : Str}, n ∈ frees → mg n = none := fun m => He.free_ok X G (c.t.d.facts (mem_free m))
  obtain ⟨fd0, p0⟩ := dfOf c X G (i := 60) (n := "law") (by decide +kernel)
  have all : ∀ i : Nat, ∃ fd : FuncData, ∀ x, (i, x) ∈ lawDefs → Df K mg x i (He.ga K (nmOf i)) fd := fun i => by
    by_cases q : ∃ x, (i, x) ∈ lawDefs
    · obtain ⟨x, hx⟩ := q
      obtain ⟨fd, D⟩ := dfOf c X G hx
      have ex := nm_of _ hx
      refine ⟨fd, fun y hy => ?_⟩
      have ey := nm_of _ hy
      have e : y = x := ey.symm.trans ex
      subst e
      have ex' : nmOf i = y := ex
      rw [ex']
      exact D
    · exact ⟨fd0, fun x hx => absurd ⟨x, hx⟩ q⟩
  obtain ⟨da, hda⟩ := Classical.axiomOfChoice all
  have dl := hda 60 "law" (by decide +kernel)
  have e := hf.symm.trans dl.g
  cases e
  have b := FunD.bindsA (ps := ["script"]) dl.F fun _ _ _ _ _ _ us hl => match us, hl with | [_], _ => rfl
  have B : Bn mg := ⟨fr (n := "isinstance") (by decide +kernel), fr (n := "str") (by decide +kernel), fr (n := "list") (by decide +kernel), fr (n := "tuple") (by decide +kernel), fr (n := "dict") (by decide +kernel), fr (n := "int") (by decide +kernel), fr (n := "bool") (by decide +kernel), fr (n := "len") (by decide +kernel), fr (n := "all") (by decide +kernel), fr (n := "any") (by decide +kernel), fr (n := "zip") (by decide +kernel), fr (n := "sum") (by decide +kernel), fr (n := "range") (by decide +kernel), fr (n := "sorted") (by decide +kernel), fr (n := "enumerate") (by decide +kernel)⟩
  have g : ∀ i x, metN[i]? = some x → mg x = some (.ref (cOf K i)) := fun i x e => cOf_g c X G e
  have em : ∀ i ∈ [2, 4, 9, 10], ∀ j, j < 11 → PySem.W.exmOne K (.ref (cOf K i)) (.ref (cOf K j)) = some (decide (i = j)) := fun i hi j hj => of_decide_eq_true (List.all_eq_true.mp (List.all_eq_true.mp z5 i hi) j (List.mem_range.mpr hj))
  have nd : ((tOf K).map (·.1)).Nodup := nodupA_ok z6
  refine ⟨da 60, csOf K, spLaw K (tOf K), fun p hp => ?_, fun p hp => ?_, fun p hp => ?_, fun s v => b s [v] rfl, fun H a ns hl _ hT hS => ⟨a, ns, rfl, hS, hl, tabs0 hT, fun _ => rfl⟩, fun base _ _ TB => ?_⟩
  · obtain ⟨q, hq, rfl⟩ := List.mem_map.mp hp
    exact c.empty q hq
  · obtain ⟨q, hq, rfl⟩ := List.mem_map.mp hp
    exact c.out q hq
  · obtain ⟨q, hq, rfl⟩ := List.mem_map.mp hp
    exact PySem.W.codeHd_of_K X (c.hd q hq)
  · have bk : Ex1 l.prog w K mg base "BadKeepers" "thing" (cOf K 2) := ex1_keepers c (g 2 _ rfl) z3
    have bl : Ex1 l.prog w K mg base "BadLots" "index" (cOf K 4) := ex1_lots c (g 4 _ rfl) z4
    have m25 : (ptOf K 25, lmQ) ∈ tOf K := List.mem_cons_self
    have m57 : (ptOf K 57, ("_law_keeper_right.<locals>.<lambda>" : Str)) ∈ tOf K := List.mem_cons_of_mem _ List.mem_cons_self
    have m58 : (ptOf K 58, ("_law_two_right.<locals>.<lambda>" : Str)) ∈ tOf K := List.mem_cons_of_mem _ (List.mem_cons_of_mem _ List.mem_cons_self)
    have m59 : (ptOf K 59, ("_law_least_right.<locals>.<lambda>" : Str)) ∈ tOf K := List.mem_cons_of_mem _ (List.mem_cons_of_mem _ (List.mem_cons_of_mem _ List.mem_cons_self))
    have m60 : (ptOf K 60, lawQ) ∈ tOf K := List.mem_cons_of_mem _ (List.mem_cons_of_mem _ (List.mem_cons_of_mem _ (List.mem_cons_of_mem _ List.mem_cons_self)))
    have W : Wd l.prog w K mg base (tOf K) (fun i => He.ga K (nmOf i)) da (cOf K) (ptOf K) := {
      d := fun i x hx => hda i x hx
      b := B
      m := ⟨g, em, bk.xf, bl.xf, bk.no, bl.no⟩
      nl := nox_of (g 10 _ rfl) z1
      lk := nox_of (g 9 _ rfl) z2
      bk := bk
      bl := bl
      le := ⟨tabOf TB (i := 25) (n := "least_of") (by decide +kernel) (hda 25 "least_of" (by decide +kernel)) (by decide +kernel), m25, uniq_fst nd m25⟩
      tb := fun i q hq => by
        rcases List.mem_cons.mp hq with e | hq
        · cases e
          exact ⟨tabOf TB (i := 57) (n := "_law_keeper_right") (by decide +kernel) (hda 57 "_law_keeper_right" (by decide +kernel)) (by decide +kernel), m57, uniq_fst nd m57⟩
        rcases List.mem_cons.mp hq with e | hq
        · cases e
          exact ⟨tabOf TB (i := 58) (n := "_law_two_right") (by decide +kernel) (hda 58 "_law_two_right" (by decide +kernel)) (by decide +kernel), m58, uniq_fst nd m58⟩
        cases List.mem_singleton.mp hq
        exact ⟨tabOf TB (i := 59) (n := "_law_least_right") (by decide +kernel) (hda 59 "_law_least_right" (by decide +kernel)) (by decide +kernel), m59, uniq_fst nd m59⟩ }
    exact ok_law W (tabOf TB (i := 60) (n := "law") (by decide +kernel) (hda 60 "law" (by decide +kernel)) (by decide +kernel)) m60 (uniq_fst nd m60)
end
end K07
/-! text Z03 -/
set_option Elab.async false
set_option linter.all false
set_option maxRecDepth 100000
set_option maxHeartbeats 0
/-! the theorem -/
open PySem PySem.W PySem.Calls PyProof.Rows
theorem PySem.Challenge.cw_meetinglots_k02_whole_without_a_keeper_holds : PySem.Challenge.rw_meetinglots_k02_whole_without_a_keeper.Holds := by
  w_on; o_law
  refine HandSHeadRun.head_any (r := OpenLaw.row PySem.Challenge.rw_meetinglots_k02_whole_without_a_keeper) (q := view (OpenLaw.row PySem.Challenge.rw_meetinglots_k02_whole_without_a_keeper).prog [60]) (H := K07.hk) (ob := K07.ob) (M := 12000) (loose := K07.loose) (d := HandSHeadRun.topDef (OpenLaw.row PySem.Challenge.rw_meetinglots_k02_whole_without_a_keeper).prog 60) (kwd := []) K07.ob_eq
    (by kernel_rfl) (fun s => by kernel_rfl) K07.run (by kernel_rfl) (by kernel_rfl) (by kernel_rfl) (by rfl) (by first | assumption | decide +kernel) (by decide +kernel) ⟨rfl, rfl, rfl, rfl, rfl, by decide +kernel⟩ ?hw ?hc
  case hw => w_witness2
  case hc =>
    refine LamX.walk_ofTsE (l := PySem.Challenge.rw_meetinglots_k02_whole_without_a_keeper) (n := 63) (k := 12) (x := "script") (CX := fun _ => L2.CX0) rfl (by decide) (by kernel_rfl) ⟨rfl, by decide, by decide⟩ ?F (fun _ _ _ _ _ z => z)
    intro w mg fa h Y G hmg0
    obtain ⟨K, KX, c⟩ := Y
    refine ⟨K, KX, K07.law_at _ c KX G ?_⟩
    have e : (HandSHeadRun.topDef (OpenLaw.row PySem.Challenge.rw_meetinglots_k02_whole_without_a_keeper).prog 60).name = ("law" : PySem.Str) := by kernel_rfl
    rw [← e]
    exact hmg0
