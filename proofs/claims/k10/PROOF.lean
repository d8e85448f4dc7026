import PyProof.Rows.All
import Wide.All
import OpenK.AllK
import Wide.FinOn
import HandS.ForMost
import HandS.Wide
import HandS.IsInst
import HandS.Deep
import HandS.Exc
import HandS.CallSlots
import HandS.HeadHook1
import HandS.Lambda
import KE.KDictKeyed
import KE.KeyNested
import HandS.ExcOwn
import HandS.ExcCtx
import HandS.HotCalls
import HandS.TupAny
import HandS.Defaults
import HandS.WordsExc
import HandS.More
import HandS.HeadEnd
import HandS.HeadHook2
import HandS.Style
import HandS.NoneIn
import HandS.ExcIs
import HandS.Hot
import HandS.Comp
import PyProof.ExcBaseAll.ValueError
import HandS.ExcInitHot
import HandS.Dict
import HandS.Conv
import PyProof.Rows.SeqRoads
import HandS.DictComp
import HandS.HeadHook4
import KE.SortKeyHeap
import KE.KSortKey
import HandS.List
import KE.KRevSl
import HandS.Text
import HandS.StrMore
import HandS.Call
import PySem.Challenge.RW_everypoint_k10_conditions_at_a_point
import KE.KStateDown
import Lean
import HandS.Head0
import HandS.Head1
import HandS.Head2
import HandS.HeadWalk
set_option Elab.async false
set_option linter.all false
set_option maxRecDepth 100000
set_option maxHeartbeats 4000000
/-! the tables of code objects that the law's program fills (lambdas), the one lambda's name; none here -/
namespace Sm
def lamT : PySem.W.Frag → List (PySem.Addr × PySem.Str) := fun _ => []
def lamQ : PySem.Str := "sort_points.<locals>.<lambda>"
end Sm
namespace Sm
open PySem PySem.Spec PyProof.Rows L2

/-! ### values, heaps, outcomes -/
inductive D where
  | non | bl (b : Bool) | int (i : Int) | str (x : Str) | tup (xs : List D) | rol (xs : List D) | ref (n : Nat) | dic (n : Nat) | ty (n : String) | exn (x : Str) (a : Addr) | cls (x : Str)
structure Ex where
  cls : Str
inductive EO where
  | lst (xs : List D)
  /-- a dict whose keys are tuples; one whose keys are numbers or texts -/
  | dct (kvs : List (D × D))
  | dcl (kvs : List (D × D))
abbrev EH := List EO
abbrev Sl := List (Option D)
abbrev St := L2.St
inductive R (α : Type) where
  | ok (a : α) (h : EH)
  | exc (x : Ex) (h : EH)
  | bad
def R.bind {α β : Type} (r : R α) (k : α → EH → R β) : R β := match r with
  | .ok a h => k a h
  | .exc x h => .exc x h
  | .bad => .bad
@[simp] theorem R.bind_ok {α β : Type} (a : α) (h : EH) (k : α → EH → R β) : (R.ok a h).bind k = k a h := rfl
@[simp] theorem R.bind_exc {α β : Type} (x : Ex) (h : EH) (k : α → EH → R β) : (R.exc x h : R α).bind k = .exc x h := rfl
@[simp] theorem R.bind_bad {α β : Type} (k : α → EH → R β) : (R.bad : R α).bind k = .bad := rfl

/-! ### what stands for what -/
def SqF (K : PySem.W.Frag) (H : Hp) (a : Addr) (xs : List V) : Prop :=
  (∃ o, H a = some (.frz o (.lst xs))) ∨
    ∃ (o : Obj) (its : Array Value) (n : Nat), K.lookup a = some o ∧ o.cls = .type "list" ∧ o.dict = none ∧ o.data = .seq its n ∧ its.size ≤ sizeLine ∧ Vals xs its.toList
/-- a list stands at a -/
def LstAt (H : Hp) (a : Addr) : Prop := ∃ xs, H a = some (.lst xs)
theorem SqF.l {K : PySem.W.Frag} {H : Hp} {a : Addr} {xs : List V} (h : SqF K H a xs) : SqL K H a xs := by
  rcases h with ⟨o, h⟩ | h
  · exact .inl (.inr ⟨o, h⟩)
  · exact .inr h
mutual
inductive Rp (K : PySem.W.Frag) (H : Hp) (μ : List Addr) : D → V → Prop
  | non : Rp K H μ .non .non
  | bl (b : Bool) : Rp K H μ (.bl b) (.bl b)
  | int (i : Int) : Rp K H μ (.int i) (.int i)
  | str (x : Str) : Rp K H μ (.str x) (.str x)
  | ty (n : String) : Rp K H μ (.ty n) (.ty n)
  | tup {a : Addr} {ds : List D} {xs : List V} : SqT K H a xs → RpAll K H μ ds xs → Rp K H μ (.tup ds) (.ref a)
  | rol {a : Addr} {ds : List D} {xs : List V} : SqF K H a xs → RpAll K H μ ds xs → Rp K H μ (.rol ds) (.ref a)
  | ref {n : Nat} {a : Addr} : μ[n]? = some a → LstAt H a → Rp K H μ (.ref n) (.ref a)
  | dic {n : Nat} {a : Addr} : μ[n]? = some a → Rp K H μ (.dic n) (.ref a)
  | exn (x : Str) (a : Addr) : Rp K H μ (.exn x a) (.ref a)
  | cls (x : Str) : Rp K H μ (.cls x) (.ref (He.ga K x))
inductive RpAll (K : PySem.W.Frag) (H : Hp) (μ : List Addr) : List D → List V → Prop
  | nil : RpAll K H μ [] []
  | cons {d : D} {ds : List D} {v : V} {vs : List V} : Rp K H μ d v → RpAll K H μ ds vs → RpAll K H μ (d :: ds) (v :: vs)
end
/-- the table of code objects at P, its code objects: none of them held by the evaluator -/
def TabN (μ : List Addr) (H : Hp) (P : Addr) (q : Str) : Prop := q = lamQ ∧ P ∉ μ ∧ ∃ ps : Array Value, H P = some (.tbl ps) ∧ TriplesOk ps.toList ∧ ∀ (pos : Pos) (cv : Value), codeAmong pos ps.toList = some cv → ∃ c, cv = .ref c ∧ c ∉ μ ∧ H c = some (LamX.CodeO c q)
theorem TabN.ext {μ μ' : List Addr} {H H' : Hp} {P : Addr} {q : Str} (t : TabN μ H P q) (n : ∀ b ∈ μ', b ∈ μ ∨ H b = none) (e : ∀ b o, H b = some o → b ∉ μ → H' b = some o) : TabN μ' H' P q := by
  obtain ⟨hq, h0, ps, h1, h2, h3⟩ := t
  have out : ∀ b o, H b = some o → b ∉ μ → b ∉ μ' := fun b o h hb z => (n b z).elim hb fun y => by rw [y] at h; cases h
  refine ⟨hq, out _ _ h1 h0, ps, e _ _ h1 h0, h2, fun pos cv hc => ?_⟩
  obtain ⟨c, e1, e2, e3⟩ := h3 pos cv hc
  exact ⟨c, e1, out _ _ e3 e2, e _ _ e3 e2⟩
theorem TabN.grow {μ : List Addr} {H : Hp} {P a : Addr} {q : Str} {vs : List V} (t : TabN μ H P q) (h : H a = some (.lst vs)) : TabN (μ ++ [a]) H P q := by
  obtain ⟨hq, h0, ps, h1, h2, h3⟩ := t
  have out : ∀ b o, H b = some o → b ∉ μ → o ≠ .lst vs → b ∉ μ ++ [a] := fun b o e hb no z => (List.mem_append.mp z).elim hb fun y => by
    rw [List.mem_singleton.mp y, h] at e
    exact no (Option.some.inj e).symm
  refine ⟨hq, out _ _ h1 h0 (fun z => by cases z), ps, h1, h2, fun pos cv hc => ?_⟩
  obtain ⟨c, e1, e2, e3⟩ := h3 pos cv hc
  exact ⟨c, e1, out _ _ e3 e2 (fun z => by unfold LamX.CodeO at z; cases z), e3⟩
theorem TabN.put {μ : List Addr} {H : Hp} {P a : Addr} {q : Str} {vs : List V} {o : HO} (t : TabN μ H P q) (h : H a = some (.lst vs)) : TabN μ (upd H a o) P q := by
  obtain ⟨hq, h0, ps, h1, h2, h3⟩ := t
  have out : ∀ b u, H b = some u → u ≠ .lst vs → upd H a o b = some u := fun b u e no => by
    rw [upd_ne]
    · exact e
    · intro z
      rw [z, h] at e
      exact no (Option.some.inj e).symm
  refine ⟨hq, h0, ps, out _ _ h1 (fun z => by cases z), h2, fun pos cv hc => ?_⟩
  obtain ⟨c, e1, e2, e3⟩ := h3 pos cv hc
  exact ⟨c, e1, e2, out _ _ e3 (fun z => by unfold LamX.CodeO at z; cases z)⟩
theorem TabN.out {μ : List Addr} {H : Hp} {P a : Addr} {q : Str} {u : HO} (t : TabN μ H P q) (h : H a = some u) (nt : ∀ ps, u ≠ .tbl ps) (nc : ∀ q, u ≠ LamX.CodeO a q) : TabN (μ ++ [a]) H P q := by
  obtain ⟨hq, h0, ps, h1, h2, h3⟩ := t
  refine ⟨hq, fun z => (List.mem_append.mp z).elim h0 fun y => ?_, ps, h1, h2, fun pos cv hc => ?_⟩
  · rw [← List.mem_singleton.mp y, h1] at h
    exact nt ps (Option.some.inj h).symm
  · obtain ⟨c, e1, e2, e3⟩ := h3 pos cv hc
    refine ⟨c, e1, fun z => (List.mem_append.mp z).elim e2 fun y => ?_, e3⟩
    have e : c = a := List.mem_singleton.mp y
    rw [e, h] at e3
    exact nc q (Option.some.inj e3)
theorem heap_size : ∀ n : Nat, ∃ h : Heap, h.objs.size = n
  | 0 => ⟨{}, rfl⟩
  | n + 1 => by
    obtain ⟨h, e⟩ := heap_size n
    exact ⟨h.push { cls := .none, data := .plain }, by rw [Heap.size_push, e]⟩
structure Ext (μ μ' : List Addr) (H H' : Hp) : Prop where
  pre : ∃ t, μ' = μ ++ t
  frm : ∀ b o, H b = some o → b ∉ μ → (∀ ps, o ≠ .tbl ps) → H' b = some o
  tbl : ∀ b ps, H b = some (.tbl ps) → b ∉ μ → ∃ ps', H' b = some (.tbl ps')
  tab : ∀ P q, TabN μ H P q → TabN μ' H' P q
  tup : ∀ b xs, H b = some (.tup xs) → H' b = some (.tup xs)
  frz : ∀ b o u, H b = some (.frz o u) → H' b = some (.frz o u)
  new : ∀ b ∈ μ', b ∈ μ ∨ H b = none
  lst : ∀ b, LstAt H b → LstAt H' b
theorem Ext.of {μ μ' : List Addr} {H H' : Hp} (pre : ∃ t, μ' = μ ++ t) (frm : ∀ b o, H b = some o → b ∉ μ → H' b = some o) (tup : ∀ b xs, H b = some (.tup xs) → H' b = some (.tup xs)) (frz : ∀ b o u, H b = some (.frz o u) → H' b = some (.frz o u)) (new : ∀ b ∈ μ', b ∈ μ ∨ H b = none) (lst : ∀ b, LstAt H b → LstAt H' b) : Ext μ μ' H H' :=
  ⟨pre, fun b o h hb _ => frm b o h hb, fun b ps h hb => ⟨ps, frm b _ h hb⟩, fun _ _ t => t.ext new frm, tup, frz, new, lst⟩
theorem Ext.refl (μ : List Addr) (H : Hp) : Ext μ μ H H := Ext.of ⟨[], by simp⟩ (fun _ _ h _ => h) (fun _ _ h => h) (fun _ _ _ h => h) (fun _ h => .inl h) (fun _ h => h)
theorem Ext.sub {μ μ' : List Addr} {H H' : Hp} (x : Ext μ μ' H H') {b : Addr} (h : b ∈ μ) : b ∈ μ' := by
  obtain ⟨t, e⟩ := x.pre
  rw [e]; exact List.mem_append_left _ h
theorem Ext.getμ {μ μ' : List Addr} {H H' : Hp} (x : Ext μ μ' H H') {n : Nat} {a : Addr} (h : μ[n]? = some a) : μ'[n]? = some a := by
  obtain ⟨t, e⟩ := x.pre
  rw [e]
  rw [List.getElem?_append_left (List.getElem?_eq_some_iff.mp h).1]; exact h
theorem Ext.fresh {μ μ' : List Addr} {H H' : Hp} (x : Ext μ μ' H H') {b : Addr} (h : H' b = none) : b ∈ μ ∨ H b = none := by
  by_cases hb : b ∈ μ
  · exact .inl hb
  · cases e : H b with
    | none => exact .inr rfl
    | some o =>
      rcases Classical.em (∃ ps, o = HO.tbl ps) with ⟨ps, rfl⟩ | nt
      · obtain ⟨ps', e'⟩ := x.tbl b ps e hb
        rw [h] at e'; cases e'
      · have := x.frm b o e hb fun ps z => nt ⟨ps, z⟩
        rw [h] at this; cases this
theorem Ext.trans {μ μ1 μ2 : List Addr} {H H1 H2 : Hp} (a : Ext μ μ1 H H1) (b : Ext μ1 μ2 H1 H2) : Ext μ μ2 H H2 where
  pre := by
    obtain ⟨t, e⟩ := a.pre
    obtain ⟨u, f⟩ := b.pre
    exact ⟨t ++ u, by rw [f, e, List.append_assoc]⟩
  frm := fun c o h hc ht => b.frm c o (a.frm c o h hc ht) (fun h1 => by
    rcases a.new c h1 with z | z
    · exact hc z
    · rw [z] at h; cases h) ht
  tbl := fun c ps h hc => by
    obtain ⟨ps1, h1⟩ := a.tbl c ps h hc
    exact b.tbl c ps1 h1 fun h1 => by
      rcases a.new c h1 with z | z
      · exact hc z
      · rw [z] at h; cases h
  tab := fun P q t => b.tab P q (a.tab P q t)
  tup := fun c xs h => b.tup c xs (a.tup c xs h)
  frz := fun c o u h => b.frz c o u (a.frz c o u h)
  new := fun c h => by
    rcases b.new c h with z | z
    · exact a.new c z
    · exact a.fresh z
  lst := fun c h => b.lst c (a.lst c h)
/-- what the values lean on -/
structure Ext0 (μ μ' : List Addr) (H H' : Hp) : Prop where
  pre : ∃ t, μ' = μ ++ t
  tup : ∀ b xs, H b = some (.tup xs) → H' b = some (.tup xs)
  frz : ∀ b o u, H b = some (.frz o u) → H' b = some (.frz o u)
  lst : ∀ b, LstAt H b → LstAt H' b
theorem Ext.z {μ μ' : List Addr} {H H' : Hp} (x : Ext μ μ' H H') : Ext0 μ μ' H H' := ⟨x.pre, x.tup, x.frz, x.lst⟩
theorem Ext0.getμ {μ μ' : List Addr} {H H' : Hp} (x : Ext0 μ μ' H H') {n : Nat} {a : Addr} (h : μ[n]? = some a) : μ'[n]? = some a := by
  obtain ⟨t, e⟩ := x.pre
  rw [e]
  rw [List.getElem?_append_left (List.getElem?_eq_some_iff.mp h).1]; exact h
theorem SqT.ext {K : PySem.W.Frag} {μ μ' : List Addr} {H H' : Hp} (x : Ext0 μ μ' H H') {a : Addr} {xs : List V} (h : SqT K H a xs) : SqT K H' a xs := by
  rcases h with (h | ⟨o, h⟩) | h
  · exact .inl (.inl (x.tup _ _ h))
  · exact .inl (.inr ⟨o, x.frz _ _ _ h⟩)
  · exact .inr h
theorem SqF.ext {K : PySem.W.Frag} {μ μ' : List Addr} {H H' : Hp} (x : Ext0 μ μ' H H') {a : Addr} {xs : List V} (h : SqF K H a xs) : SqF K H' a xs := by
  rcases h with ⟨o, h⟩ | h
  · exact .inl ⟨o, x.frz _ _ _ h⟩
  · exact .inr h
mutual
theorem Rp.ext0 {K : PySem.W.Frag} {μ μ' : List Addr} {H H' : Hp} (x : Ext0 μ μ' H H') : ∀ {d : D} {v : V}, Rp K H μ d v → Rp K H' μ' d v
  | _, _, .non => .non
  | _, _, .bl b => .bl b
  | _, _, .int b => .int b
  | _, _, .str b => .str b
  | _, _, .ty b => .ty b
  | _, _, .tup h r => .tup (SqT.ext x h) (RpAll.ext0 x r)
  | _, _, .rol h r => .rol (SqF.ext x h) (RpAll.ext0 x r)
  | _, _, .ref h l => .ref (x.getμ h) (x.lst _ l)
  | _, _, .dic h => .dic (x.getμ h)
  | _, _, .exn x a => .exn x a
  | _, _, .cls x => .cls x
theorem RpAll.ext0 {K : PySem.W.Frag} {μ μ' : List Addr} {H H' : Hp} (x : Ext0 μ μ' H H') : ∀ {d : List D} {v : List V}, RpAll K H μ d v → RpAll K H' μ' d v
  | _, _, .nil => .nil
  | _, _, .cons a b => .cons (Rp.ext0 x a) (RpAll.ext0 x b)
end
theorem Rp.ext {K : PySem.W.Frag} {μ μ' : List Addr} {H H' : Hp} (x : Ext μ μ' H H') {d : D} {v : V} (h : Rp K H μ d v) : Rp K H' μ' d v := h.ext0 x.z
theorem RpAll.ext {K : PySem.W.Frag} {μ μ' : List Addr} {H H' : Hp} (x : Ext μ μ' H H') {d : List D} {v : List V} (h : RpAll K H μ d v) : RpAll K H' μ' d v := h.ext0 x.z
section
variable {K : PySem.W.Frag} {H : Hp} {μ : List Addr}
theorem RpAll.len : ∀ {ds : List D} {vs : List V}, RpAll K H μ ds vs → ds.length = vs.length
  | _, _, .nil => rfl
  | _, _, .cons _ r => congrArg Nat.succ (RpAll.len r)
theorem RpAll.get : ∀ {ds : List D} {vs : List V} {i : Nat} {d : D}, RpAll K H μ ds vs → ds[i]? = some d → ∃ v, vs[i]? = some v ∧ Rp K H μ d v
  | _, _, _, _, .nil, e => by simp at e
  | _, _, 0, _, .cons r _, e => by simp at e; subst e; exact ⟨_, rfl, r⟩
  | _, _, i + 1, d, .cons _ t, e => by
    obtain ⟨u, h1, h2⟩ := RpAll.get (i := i) (d := d) t (by simpa using e)
    exact ⟨u, by simpa using h1, h2⟩
theorem RpAll.getV : ∀ {ds : List D} {vs : List V} {i : Nat} {v : V}, RpAll K H μ ds vs → vs[i]? = some v → ∃ d, ds[i]? = some d ∧ Rp K H μ d v
  | _, _, _, _, .nil, e => by simp at e
  | _, _, 0, _, .cons r _, e => by simp at e; subst e; exact ⟨_, rfl, r⟩
  | _, _, i + 1, d, .cons _ t, e => by
    obtain ⟨u, h1, h2⟩ := RpAll.getV (i := i) (v := d) t (by simpa using e)
    exact ⟨u, by simpa using h1, h2⟩
theorem RpAll.app : ∀ {ds : List D} {vs : List V} {es : List D} {ws : List V}, RpAll K H μ ds vs → RpAll K H μ es ws → RpAll K H μ (ds ++ es) (vs ++ ws)
  | _, _, _, _, .nil, s => s
  | _, _, _, _, .cons r t, s => .cons r (RpAll.app t s)
theorem RpAll.take : ∀ {ds : List D} {vs : List V} (n : Nat), RpAll K H μ ds vs → RpAll K H μ (ds.take n) (vs.take n)
  | _, _, 0, _ => .nil
  | _, _, _ + 1, .nil => .nil
  | _, _, n + 1, .cons r t => .cons r (RpAll.take n t)
theorem RpAll.drop : ∀ {ds : List D} {vs : List V} (n : Nat), RpAll K H μ ds vs → RpAll K H μ (ds.drop n) (vs.drop n)
  | _, _, 0, r => r
  | _, _, _ + 1, .nil => .nil
  | _, _, n + 1, .cons _ t => RpAll.drop n t
theorem RpAll.set {x : V} {d : D} (r : Rp K H μ d x) : ∀ {ds : List D} {vs : List V} (i : Nat), RpAll K H μ ds vs → RpAll K H μ (ds.set i d) (vs.set i x)
  | _, _, _, .nil => .nil
  | _, _, 0, .cons _ t => .cons r t
  | _, _, i + 1, .cons q t => .cons q (RpAll.set r i t)
theorem RpAll.one {d : D} {v : V} (r : Rp K H μ d v) : RpAll K H μ [d] [v] := .cons r .nil
end
/-! ### keys -/
mutual
/-- a key without texts -/
def keyT : D → Option NestedKey
  | .int i => some (.num i)
  | .non => some .none
  | .tup xs => match keyTs xs with
    | some ks => some (.tup ks)
    | none => none
  | _ => none
def keyTs : List D → Option (List NestedKey)
  | [] => some []
  | x :: xs => match keyT x, keyTs xs with
    | some k, some ks => some (k :: ks)
    | _, _ => none
end
/-- a tuple as a key -/
def keyOf (d : D) : Option NestedKey := match d with
  | .tup xs => match keyTs xs with
    | some ks => if (NestedKey.tup ks).depth ≤ 8 then some (.tup ks) else none
    | none => none
  | _ => none
/-- a number or a text as a key -/
def keyL : D → Option Key
  | .int i => some (.inl i)
  | .str x => some (.inr x)
  | _ => none
/-- what a dict's entry stands for -/
def EntR (K : PySem.W.Frag) (H : Hp) (μ : List Addr) (kv : D × D) (e : DictEntry) : Prop :=
  ∃ k b v, keyOf kv.1 = some k ∧ e.key = .ref b ∧ (∀ w, e.hash = k.hash w) ∧ Rp K H μ kv.1 (.ref b) ∧ RelV v e.val ∧ Rp K H μ kv.2 v
/-- a dict with the entries es -/
def rawD (a : Addr) (es : Array DictEntry) : HO := .ext fun h => ∃ o ep, h.get? a = some o ∧ o.ExactDict ∧ o.data = .dict es ep
theorem rawD_ne {a : Addr} {es : Array DictEntry} (q : Str) : rawD a es ≠ LamX.CodeO a q := fun z => by
  obtain ⟨h, e⟩ := heap_size a
  have z' := HO.ext.inj z
  have w := congrFun z' (h.push { cls := .type "dict", data := .dict es })
  have hp : (h.push { cls := .type "dict", data := .dict es }).get? a = some { cls := .type "dict", data := .dict es } := by rw [← e]; exact Heap.get?_push_size _ rfl
  have t : ∃ o ep, (h.push { cls := .type "dict", data := .dict es }).get? a = some o ∧ o.ExactDict ∧ o.data = .dict es ep := ⟨_, 0, hp, ⟨rfl, rfl, rfl⟩, rfl⟩
  rw [w] at t
  obtain ⟨oc, vs, t, e1, e2, _⟩ := t
  rw [hp] at e1
  cases e1
  cases e2
def KvR (K : PySem.W.Frag) (H : Hp) (μ : List Addr) (kv : D × D) (p : Key × V) : Prop := keyL kv.1 = some p.1 ∧ Rp K H μ kv.2 p.2
/-- an object of the evaluator's heap at its address -/
def ObjR (K : PySem.W.Frag) (H : Hp) (μ : List Addr) : EO → Addr → Prop
  | .lst ds, a => ∃ xs, H a = some (.lst xs) ∧ RpAll K H μ ds xs
  | .dct kvs, a => ∃ es : Array DictEntry, H a = some (rawD a es) ∧ Paired (EntR K H μ) kvs es.toList ∧ (kvs.map fun kv => keyOf kv.1).Nodup ∧ kvs.length ≤ sizeLine ∧ (a == sysModules) = false
  | .dcl kvs, a => ∃ ps, H a = some (.dK ps) ∧ Paired (KvR K H μ) kvs ps
structure HeapR (K : PySem.W.Frag) (H : Hp) (μ : List Addr) (eh : EH) : Prop where
  len : μ.length = eh.length
  nd : μ.Nodup
  obj : ∀ (n : Nat) (o : EO) (a : Addr), eh[n]? = some o → μ[n]? = some a → ObjR K H μ o a
  tab : ∀ p ∈ lamT K, TabN μ H p.1 p.2
structure EnvR (K : PySem.W.Frag) (H : Hp) (μ : List Addr) (e : Sl) (σ : St) : Prop where
  len : e.length = σ.length
  val : ∀ (i : Nat) (d : D), e[i]? = some (some d) → ∃ v, σ[i]? = some (some v) ∧ Rp K H μ d v
section
variable {K : PySem.W.Frag} {H H' : Hp} {μ μ' : List Addr} {e : Sl} {σ : St} {eh : EH}
theorem EnvR.ext (x : Ext μ μ' H H') (r : EnvR K H μ e σ) : EnvR K H' μ' e σ := ⟨r.len, fun i d h => by
  obtain ⟨v, a, b⟩ := r.val i d h
  exact ⟨v, a, b.ext x⟩⟩
theorem EnvR.set (r : EnvR K H μ e σ) (i : Nat) {d : D} {v : V} (h : Rp K H μ d v) : EnvR K H μ (e.set i (some d)) (σ.set i (some v)) := ⟨by simp [r.len], fun j d' hj => by
  by_cases hij : i = j
  · subst hij
    by_cases hl : i < e.length
    · rw [List.getElem?_set_self hl] at hj
      cases hj
      exact ⟨v, by rw [List.getElem?_set_self (by rw [← r.len]; exact hl)], h⟩
    · rw [List.getElem?_eq_none (by simpa using hl)] at hj; cases hj
  · rw [List.getElem?_set_ne hij] at hj
    obtain ⟨w, a, b⟩ := r.val j d' hj
    exact ⟨w, by rw [List.getElem?_set_ne hij]; exact a, b⟩⟩
theorem HeapR.lst (r : HeapR K H μ eh) {n : Nat} {a : Addr} {ds : List D} (h : eh[n]? = some (.lst ds)) (ha : μ[n]? = some a) : ∃ xs, H a = some (.lst xs) ∧ RpAll K H μ ds xs := r.obj n _ a h ha
/-- an object may be read again behind a growth that changes nothing -/
theorem ObjR.ext {o : EO} {a : Addr} (x : Ext0 μ μ' H H') (k : H' a = H a) (r : ObjR K H μ o a) : ObjR K H' μ' o a := by
  cases o with
  | lst ds =>
    obtain ⟨xs, h, q⟩ := r
    exact ⟨xs, by rw [k]; exact h, q.ext0 x⟩
  | dct kvs =>
    obtain ⟨es, h, q, nd, l, s⟩ := r
    exact ⟨es, by rw [k]; exact h, Paired.mapP q fun kv e ⟨ky, b, v, e1, e2, e3, e4, e5, e6⟩ => ⟨ky, b, v, e1, e2, e3, e4.ext0 x, e5, e6.ext0 x⟩, nd, l, s⟩
  | dcl kvs =>
    obtain ⟨ps, h, q⟩ := r
    exact ⟨ps, by rw [k]; exact h, Paired.mapP q fun kv e ⟨e1, e2⟩ => ⟨e1, e2.ext0 x⟩⟩
/-- the heap grew by things that the evaluator doesn't hold -/
theorem HeapR.grow (r : HeapR K H μ eh) (x : Ext0 μ μ H H') (k : ∀ a ∈ μ, H' a = H a) (tb : ∀ P q, TabN μ H P q → TabN μ H' P q) : HeapR K H' μ eh := ⟨r.len, r.nd, fun n o a h ha => (r.obj n o a h ha).ext x (k a (List.mem_of_getElem? ha)), fun p hp => tb _ _ (r.tab p hp)⟩
/-- an object is taken over -/
theorem HeapR.own (r : HeapR K H μ eh) {a : Addr} {o : EO} (hn : a ∉ μ) (h : ObjR K H (μ ++ [a]) o a) (tb : ∀ P q, TabN μ H P q → TabN (μ ++ [a]) H P q) : HeapR K H (μ ++ [a]) (eh ++ [o]) := by
  refine ⟨by simp [r.len], List.nodup_append.mpr ⟨r.nd, by simp, fun b hb c hc => ?_⟩, fun n o' b h1 h2 => ?_, fun p hp => tb _ _ (r.tab p hp)⟩
  · have e : c = a := by simpa using hc
    subst e
    intro e; subst e; exact hn hb
  · by_cases hl : n < eh.length
    · rw [List.getElem?_append_left hl] at h1
      rw [List.getElem?_append_left (by rw [r.len]; exact hl)] at h2
      exact (r.obj n o' b h1 h2).ext ⟨⟨[a], rfl⟩, fun _ _ h => h, fun _ _ _ h => h, fun _ h => h⟩ rfl
    · have hl2 : n < (eh ++ [o]).length := (List.getElem?_eq_some_iff.mp h1).1
      have hn' : n = eh.length := by simp at hl2; omega
      subst hn'
      rw [List.getElem?_append_right (Nat.le_refl _)] at h1
      rw [List.getElem?_append_right (by rw [r.len]; exact Nat.le_refl _)] at h2
      simp [r.len] at h1 h2
      subst h1; subst h2
      exact h
theorem HeapR.lt (r : HeapR K H μ eh) {n : Nat} {o : EO} (h : eh[n]? = some o) : ∃ a, μ[n]? = some a := by
  have := (List.getElem?_eq_some_iff.mp h).1
  exact ⟨μ[n]'(by rw [r.len]; exact this), List.getElem?_eq_getElem _⟩
/-- no tuple, nothing frozen stands in μ -/
theorem HeapR.mutAt (r : HeapR K H μ eh) {a : Addr} (h : a ∈ μ) : ∃ o, H a = some o ∧ Mut (some o) := by
  obtain ⟨n, hn, e⟩ := List.mem_iff_getElem.mp h
  have h1 : μ[n]? = some a := by rw [List.getElem?_eq_getElem hn, e]
  have h2 : n < eh.length := by rw [← r.len]; exact hn
  have q := r.obj n _ a (List.getElem?_eq_getElem h2) h1
  generalize eh[n] = o at q
  cases o with
  | lst ds => obtain ⟨xs, e, _⟩ := q; exact ⟨_, e, trivial⟩
  | dct kvs => obtain ⟨es, e, _⟩ := q; exact ⟨_, e, trivial⟩
  | dcl kvs => obtain ⟨ps, e, _⟩ := q; exact ⟨_, e, trivial⟩
/-- a new thing at p that the evaluator doesn't hold -/
theorem LstAt.upd {p b : Addr} {o : HO} (h : LstAt H b) (hp : H p = none) : LstAt (upd H p o) b := by
  obtain ⟨xs, e⟩ := h
  exact ⟨xs, by rw [upd_ne (ne_of_none e hp)]; exact e⟩
theorem Ext.add {p : Addr} {o : HO} (hp : H p = none) (r : HeapR K H μ eh) : Ext μ μ H (upd H p o) :=
  Ext.of ⟨[], by simp⟩ (fun b u h _ => by rw [upd_ne (ne_of_none h hp)]; exact h) (fun b u h => by rw [upd_ne (ne_of_none h hp)]; exact h) (fun b o u h => by rw [upd_ne (ne_of_none h hp)]; exact h) (fun b h => .inl h) (fun b h => h.upd hp)
theorem HeapR.out (r : HeapR K H μ eh) {p : Addr} (hp : H p = none) : p ∉ μ := fun h => by
  obtain ⟨xs, e, _⟩ := r.mutAt h
  rw [hp] at e; cases e
theorem HeapR.add {p : Addr} {o : HO} (hp : H p = none) (r : HeapR K H μ eh) : HeapR K (upd H p o) μ eh :=
  r.grow (Ext.add hp r).z (fun a ha => upd_ne fun e => r.out hp (e ▸ ha)) (Ext.add hp r).tab
/-- a list at hand is taken over -/
theorem HeapR.take (r : HeapR K H μ eh) {a : Addr} {ds : List D} {xs : List V} (hn : a ∉ μ) (h : H a = some (.lst xs)) (q : RpAll K H μ ds xs) : HeapR K H (μ ++ [a]) (eh ++ [.lst ds]) :=
  r.own hn ⟨xs, h, q.ext0 ⟨⟨[a], rfl⟩, fun _ _ h => h, fun _ _ _ h => h, fun _ h => h⟩⟩ fun P q t => t.grow h
theorem EnvR.own (r : EnvR K H μ e σ) (a : Addr) : EnvR K H (μ ++ [a]) e σ := ⟨r.len, fun i d h => by
  obtain ⟨v, x, b⟩ := r.val i d h
  exact ⟨v, x, b.ext0 ⟨⟨[a], rfl⟩, fun _ _ h => h, fun _ _ _ h => h, fun _ h => h⟩⟩⟩
/-- a list that the evaluator holds is written -/
theorem Ext.putX {a : Addr} {o : HO} (ha : a ∈ μ) (r : HeapR K H μ eh) (hl : LstAt H a → ∃ xs, o = .lst xs) : Ext μ μ H (upd H a o) := by
  obtain ⟨u, e, mu⟩ := r.mutAt ha
  exact Ext.of ⟨[], by simp⟩ (fun b u h hb => by rw [upd_ne (fun z => hb (by rw [z]; exact ha))]; exact h) (fun b ys h => by rw [upd_ne (ne_of h e (by intro z; rw [← z] at mu; exact mu))]; exact h) (fun b o ys h => by rw [upd_ne (ne_of h e (by intro z; rw [← z] at mu; exact mu))]; exact h) (fun b h => .inl h) (fun b h => by
    by_cases c : b = a
    · subst c
      obtain ⟨xs, q⟩ := hl h
      exact ⟨xs, by rw [upd_same, q]⟩
    · obtain ⟨xs, q⟩ := h
      exact ⟨xs, by rw [upd_ne c]; exact q⟩)
theorem Ext.put {a : Addr} {xs : List V} (ha : a ∈ μ) (r : HeapR K H μ eh) : Ext μ μ H (upd H a (.lst xs)) := Ext.putX ha r fun _ => ⟨xs, rfl⟩
theorem HeapR.putO (r : HeapR K H μ eh) {n : Nat} {a : Addr} {o : EO} {ho : HO} (hn : n < eh.length) (ha : μ[n]? = some a) (hl : LstAt H a → ∃ xs, ho = .lst xs) (q : ObjR K (upd H a ho) μ o a) : HeapR K (upd H a ho) μ (eh.set n o) := by
  have x : Ext μ μ H (upd H a ho) := Ext.putX (List.mem_of_getElem? ha) r hl
  refine ⟨by simp [r.len], r.nd, fun m o' b h1 h2 => ?_, fun p hp => x.tab _ _ (r.tab p hp)⟩
  by_cases hm : n = m
  · subst hm
    rw [List.getElem?_set_self hn] at h1
    rw [ha] at h2
    cases h1; cases h2
    exact q
  · rw [List.getElem?_set_ne hm] at h1
    refine (r.obj m o' b h1 h2).ext x.z (upd_ne fun e => hm ?_)
    subst e
    obtain ⟨l1, e1⟩ := List.getElem?_eq_some_iff.mp ha
    obtain ⟨l2, e2⟩ := List.getElem?_eq_some_iff.mp h2
    exact (List.getElem_inj r.nd).mp (e1.trans e2.symm)
theorem HeapR.put (r : HeapR K H μ eh) {n : Nat} {a : Addr} {ds : List D} {xs : List V} (hn : n < eh.length) (ha : μ[n]? = some a) (q : RpAll K H μ ds xs) : HeapR K (upd H a (.lst xs)) μ (eh.set n (.lst ds)) := by
  have x : Ext μ μ H (upd H a (.lst xs)) := Ext.put (List.mem_of_getElem? ha) r
  refine ⟨by simp [r.len], r.nd, fun m o b h1 h2 => ?_, fun p hp => x.tab _ _ (r.tab p hp)⟩
  by_cases hm : n = m
  · subst hm
    rw [List.getElem?_set_self hn] at h1
    rw [ha] at h2
    cases h1; cases h2
    exact ⟨xs, upd_same, q.ext x⟩
  · rw [List.getElem?_set_ne hm] at h1
    refine (r.obj m o b h1 h2).ext x.z (upd_ne fun e => hm ?_)
    subst e
    obtain ⟨l1, e1⟩ := List.getElem?_eq_some_iff.mp ha
    obtain ⟨l2, e2⟩ := List.getElem?_eq_some_iff.mp h2
    exact (List.getElem_inj r.nd).mp (e1.trans e2.symm)
end
end Sm
namespace Sm
open PySem PySem.Spec PyProof.Rows L2

/-! ### what an outcome asks of the wish -/
abbrev Rel (α β : Type) := PySem.W.Frag → Hp → Hp → List Addr → α → β → Prop
def relD : Rel D V := fun K _ H μ d v => Rp K H μ d v
def relA : Rel (List D) (List V) := fun K _ H μ d v => RpAll K H μ d v
def relB : Rel Bool Bool := fun _ _ _ _ a b => a = b
/-- a list made here that the evaluator doesn't hold -/
def relT : Rel (List D) V := fun K H0 H μ ds v => ∃ a vs, v = .ref a ∧ H a = some (.lst vs) ∧ a ∉ μ ∧ H0 a = none ∧ RpAll K H μ ds vs
/-- an exception -/
def ExR (mg : Str → Option Value) (x : Ex) (c : Value) (dd : Option Addr) : Prop := ∃ C : Addr, c = .ref C ∧ mg x.cls = some (.ref C) ∧ dd = none
section
variable {α β γ δ : Type}
def post (Rl : Rel α β) (K : PySem.W.Frag) (mg : Str → Option Value) (W : Value → Option Addr → Hp → Prop) (μ : List Addr) (H : Hp) (r : R α) (Q : β → Hp → Prop) : Prop := match r with
  | .ok a eh' => ∀ μ' H' b, Ext μ μ' H H' → HeapR K H' μ' eh' → Rl K H H' μ' a b → Q b H'
  | .exc x eh' => ∀ μ' H' c dd, Ext μ μ' H H' → HeapR K H' μ' eh' → ExR mg x c dd → W c dd H'
  | .bad => False
structure RelBack (Rl : Rel α β) : Prop where
  b : ∀ {K : PySem.W.Frag} {μ μ1 μ2 : List Addr} {H H1 H2 : Hp} {a : α} {b : β}, Ext μ μ1 H H1 → Ext μ1 μ2 H1 H2 → Rl K H1 H2 μ2 a b → Rl K H H2 μ2 a b
theorem backD : RelBack relD := ⟨fun _ _ h => h⟩
theorem backA : RelBack relA := ⟨fun _ _ h => h⟩
theorem backB : RelBack relB := ⟨fun _ _ h => h⟩
theorem backT : RelBack relT := ⟨fun {K μ μ1 μ2 H H1 H2 a b} x y ⟨p, vs, e, h, hn, h0, r⟩ => ⟨p, vs, e, h, hn, (x.fresh h0).resolve_left fun z => hn (y.sub (x.sub z)), r⟩⟩
variable {Rl : Rel α β} {Rl2 : Rel γ δ} {K : PySem.W.Frag} {mg : Str → Option Value} {W : Value → Option Addr → Hp → Prop} {μ μ1 : List Addr} {H H1 : Hp}
theorem post_mono {r : R α} {Q Q' : β → Hp → Prop} (h : post Rl K mg W μ H r Q) (k : ∀ b H', Q b H' → Q' b H') : post Rl K mg W μ H r Q' := by
  cases r with
  | ok a eh => exact fun μ' H' b x hr ra => k _ _ (h μ' H' b x hr ra)
  | exc x eh => exact h
  | bad => exact h
theorem post_ext (bk : RelBack Rl) {r : R α} {Q : β → Hp → Prop} (h : post Rl K mg W μ H r Q) (x : Ext μ μ1 H H1) : post Rl K mg W μ1 H1 r Q := by
  cases r with
  | ok a eh => exact fun μ' H' b y hr ra => h μ' H' b (x.trans y) hr (bk.b x y ra)
  | exc e eh => exact fun μ' H' c dd y hr ra => h μ' H' c dd (x.trans y) hr ra
  | bad => exact h
theorem post_bind (bk : RelBack Rl2) {r : R α} {k : α → EH → R γ} {Q : δ → Hp → Prop} (h : post Rl2 K mg W μ H (r.bind k) Q) :
    post Rl K mg W μ H r (fun b H1 => ∃ μ1 eh1 a, Ext μ μ1 H H1 ∧ HeapR K H1 μ1 eh1 ∧ Rl K H H1 μ1 a b ∧ post Rl2 K mg W μ1 H1 (k a eh1) Q) := by
  cases r with
  | ok a eh => exact fun μ' H' b x hr ra => ⟨μ', eh, a, x, hr, ra, post_ext bk h x⟩
  | exc x eh => exact h
  | bad => exact h
end
section
variable {α β : Type}
/-- the reading of an evaluator -/
def tG (Rl : Rel α β) (X : Cx) (W : WX) (m : Sl → EH → R α) : St → Hp → (β → Hp → Prop) → Prop := fun σ H Q =>
  ∃ μ e eh, EnvR X.K H μ e σ ∧ HeapR X.K H μ eh ∧ post Rl X.K X.mg (fun c d H' => W c d σ H') μ H (m e eh) Q
end
structure SE (X : Cx) (W : WX) (e : Expr) (m : Sl → EH → R D) : Prop where
  pe : PE X e (tG relD X W m)
/-- a list that only this expression holds -/
structure SL (X : Cx) (W : WX) (e : Expr) (m : Sl → EH → R (List D)) : Prop where
  pe : PE X e (tG relT X W m)
structure SB (X : Cx) (W : WX) (e : Expr) (m : Sl → EH → R Bool) : Prop where
  pt : PT X e (tG relB X W m)
structure SA (X : Cx) (W : WX) (es : List Expr) (m : Sl → EH → R (List D)) : Prop where
  pa : PA X es (tG relA X W m)
section
variable {X : Cx} {W : WX}
theorem peI {e : Expr} {t t' : TE} (h : PE X e t) (hi : ∀ σ H Q, t' σ H Q → t σ H Q) : PE X e t' := ⟨fun pins s σ H Q I q => h.run pins s σ H Q I (hi _ _ _ q)⟩
theorem ptI {e : Expr} {t t' : TT} (h : PT X e t) (hi : ∀ σ H Q, t' σ H Q → t σ H Q) : PT X e t' := ⟨fun pins s σ H Q I q => h.run pins s σ H Q I (hi _ _ _ q)⟩
theorem paI {e : List Expr} {t t' : TA} (h : PA X e t) (hi : ∀ σ H Q, t' σ H Q → t σ H Q) : PA X e t' := ⟨fun pos pins s σ H Q I q => h.run pos pins s σ H Q I (hi _ _ _ q)⟩
theorem psI {e : Stmt} {t t' : TS} (h : PS X e t) (hi : ∀ D σ H, t' D σ H → t D σ H) : PS X e t' := ⟨fun pins s σ H D I q => h.run pins s σ H D I (hi _ _ _ q)⟩

/-! ### names, constants -/
def eVar (i : Nat) : Sl → EH → R D := fun e h => match e[i]? with
  | some (some d) => .ok d h
  | _ => .bad
def eC (d : D) : Sl → EH → R D := fun _ h => .ok d h
theorem se_var (i : Nat) {x : Str} {pos : Pos} (hN : X.N[i]? = some x := by rfl) (hv : Vis X.env.scope x := by first | exact Or.inl rfl | exact Or.inr (Or.inl rfl) | exact Or.inr (Or.inr rfl)) (hd : (x == ("__debug__" : Str)) = false := by decide)
    (hcd : (x == ("__classdict__" : Str)) = false := by decide) : SE X W (.Name x pos) (eVar i) := ⟨peI (pe_var hN hv hd hcd) fun σ H Q ⟨μ, e, eh, er, hr, p⟩ => by
  unfold eVar at p
  cases h : e[i]? with
  | none => rw [h] at p; exact p.elim
  | some o => cases o with
    | none => rw [h] at p; exact p.elim
    | some d =>
      rw [h] at p
      obtain ⟨v, hv, r⟩ := er.val i d h
      exact ⟨v, hv, p μ H v (Ext.refl _ _) hr r⟩⟩
theorem se_c {e : Expr} {d : D} {v : V} (h : PE X e (tC v)) (r : ∀ H μ, Rp X.K H μ d v) : SE X W e (eC d) := ⟨peI h fun σ H Q ⟨μ, e, eh, er, hr, p⟩ => p μ H v (Ext.refl _ _) hr (r _ _)⟩
theorem se_int {i j pos} : SE X W (.Constant (.int i) j pos) (eC (.int i)) := se_c pe_int fun _ _ => .int _
theorem se_bl {i j pos} : SE X W (.Constant (.bool i) j pos) (eC (.bl i)) := se_c pe_bl fun _ _ => .bl _
theorem se_str {i j pos} : SE X W (.Constant (.str i) j pos) (eC (.str i)) := se_c pe_str fun _ _ => .str _
theorem se_non {j pos} : SE X W (.Constant .none j pos) (eC .non) := se_c pe_non fun _ _ => .non

/-! ### operators -/
def opE (f : D → D → EH → Option (D × EH)) (x y : D) (h : EH) : R D := match f x y h with
  | some (d, h') => .ok d h'
  | none => .bad
def eBin (f : D → D → EH → Option (D × EH)) (ma mb : Sl → EH → R D) : Sl → EH → R D := fun e h => (ma e h).bind fun x h1 => (mb e h1).bind fun y h2 => opE f x y h2
/-- the outcome of an operator by values -/
def outD (X : Cx) (μ : List Addr) (H : Hp) (o : Option (D × EH)) (Q : VK) : Prop := match o with
  | some (d, eh') => ∀ μ' H' v, Ext μ μ' H H' → HeapR X.K H' μ' eh' → Rp X.K H' μ' d v → Q v H'
  | none => False
def rD (X : Cx) (f : D → D → EH → Option (D × EH)) : R2 := fun x y H Q => ∃ μ eh dx dy, HeapR X.K H μ eh ∧ Rp X.K H μ dx x ∧ Rp X.K H μ dy y ∧ outD X μ H (f dx dy eh) Q
theorem post_op {f : D → D → EH → Option (D × EH)} {x y : D} {h : EH} {mg : Str → Option Value} {W : Value → Option Addr → Hp → Prop} {μ : List Addr} {H : Hp} {Q : VK} (p : post relD X.K mg W μ H (opE f x y h) Q) : outD X μ H (f x y h) Q := by
  unfold opE at p
  cases e : f x y h with
  | none => rw [e] at p; exact p
  | some r => obtain ⟨d, h'⟩ := r; rw [e] at p; exact p
theorem tOp_of {f : D → D → EH → Option (D × EH)} {ma mb : Sl → EH → R D} (σ : St) (H : Hp) (Q : VK) (h : tG relD X W (eBin f ma mb) σ H Q) : tOp (rD X f) (tG relD X W ma) (tG relD X W mb) σ H Q := by
  obtain ⟨μ, e, eh, er, hr, p⟩ := h
  refine ⟨μ, e, eh, er, hr, post_mono (post_bind (Rl := relD) backD p) ?_⟩
  rintro x H1 ⟨μ1, eh1, dx, x1, hr1, rx, p1⟩
  refine ⟨μ1, e, eh1, er.ext x1, hr1, post_mono (post_bind (Rl := relD) backD p1) ?_⟩
  rintro y H2 ⟨μ2, eh2, dy, x2, hr2, ry, p2⟩
  exact ⟨μ2, eh2, dx, dy, hr2, Rp.ext x2 rx, ry, post_op p2⟩
theorem se_bin {op : Operator} {f : D → D → EH → Option (D × EH)} {a b : Expr} {ma mb : Sl → EH → R D} {pos : Pos} (ho : OpR X (binaryOp op) (rD X f)) (ha : SE X W a ma) (hb : SE X W b mb) : SE X W (.BinOp a op b pos) (eBin f ma mb) :=
  ⟨peI (pe_op ho ha.pe hb.pe) tOp_of⟩
def eUn (f : D → Option D) (ma : Sl → EH → R D) : Sl → EH → R D := fun e h => (ma e h).bind fun x h1 => match f x with
  | some d => .ok d h1
  | none => .bad
def rD1 (X : Cx) (f : D → Option D) : V → Hp → VK → Prop := fun x H Q => ∃ μ eh dx, HeapR X.K H μ eh ∧ Rp X.K H μ dx x ∧ outD X μ H ((f dx).map (·, eh)) Q
theorem tUn_of {f : D → Option D} {ma : Sl → EH → R D} (σ : St) (H : Hp) (Q : VK) (h : tG relD X W (eUn f ma) σ H Q) : tUn (rD1 X f) (tG relD X W ma) σ H Q := by
  obtain ⟨μ, e, eh, er, hr, p⟩ := h
  refine ⟨μ, e, eh, er, hr, post_mono (post_bind (Rl := relD) backD p) ?_⟩
  rintro x H1 ⟨μ1, eh1, dx, x1, hr1, rx, p1⟩
  refine ⟨μ1, eh1, dx, hr1, rx, ?_⟩
  cases h : f dx with
  | none => simp only [h] at p1; exact p1
  | some d => simp only [h] at p1; exact p1
theorem se_un {op : UnaryOp} {f : D → Option D} {a : Expr} {ma : Sl → EH → R D} {pos : Pos} (ho : UnR X (unaryOp op) (rD1 X f)) (ha : SE X W a ma) : SE X W (.UnaryOp op a pos) (eUn f ma) := ⟨peI (pe_un ho ha.pe) tUn_of⟩

theorem outD_val {μ : List Addr} {H : Hp} {d : D} {eh : EH} {Q : VK} {v : V} (h : outD X μ H (some (d, eh)) Q) (hr : HeapR X.K H μ eh) (r : Rp X.K H μ d v) : Q v H := h μ H v (Ext.refl _ _) hr r
/-- a new tuple -/
theorem outD_tup {μ : List Addr} {H : Hp} {ds : List D} {vs : List V} {eh : EH} {Q : VK} {p : Addr} (h : outD X μ H (some (.tup ds, eh)) Q) (hr : HeapR X.K H μ eh) (r : RpAll X.K H μ ds vs) (hp : H p = none) : Q (.ref p) (upd H p (.tup vs)) :=
  h μ _ _ (Ext.add hp hr) (hr.add hp) (.tup (SqT.of upd_same) (r.ext (Ext.add hp hr)))
/-- a new list, taken over -/
theorem Ext.own {μ : List Addr} {H : Hp} {p : Addr} {o : HO} (hp : H p = none) (hn : p ∉ μ) : Ext μ (μ ++ [p]) H (upd H p o) :=
  Ext.of ⟨[p], rfl⟩ (fun b u h _ => by rw [upd_ne (ne_of_none h hp)]; exact h) (fun b u h => by rw [upd_ne (ne_of_none h hp)]; exact h) (fun b o u h => by rw [upd_ne (ne_of_none h hp)]; exact h)
    (fun b h => (List.mem_append.mp h).imp id fun z => by rw [List.mem_singleton.mp z]; exact hp) (fun b h => h.upd hp)
theorem outD_lst {μ : List Addr} {H : Hp} {ds : List D} {vs : List V} {eh : EH} {Q : VK} {p : Addr} (h : outD X μ H (some (.ref eh.length, eh ++ [.lst ds])) Q) (hr : HeapR X.K H μ eh) (r : RpAll X.K H μ ds vs) (hp : H p = none) : Q (.ref p) (upd H p (.lst vs)) := by
  have hn := hr.out hp
  refine h (μ ++ [p]) _ _ (Ext.own hp hn) (HeapR.take (hr.add hp) hn upd_same (r.ext (Ext.add hp hr))) (.ref ?_ ⟨_, upd_same⟩)
  rw [← hr.len]; simp

/-- + -/
def oAdd : D → D → EH → Option (D × EH)
  | .int i, .int j, h => some (.int (i + j), h)
  | .str x, .str y, h => if x.length + y.length ≤ sizeLine then some (.str (x ++ y), h) else none
  | .tup xs, .tup ys, h => if xs.length + ys.length ≤ sizeLine then some (.tup (xs ++ ys), h) else none
  | .ref n, .ref m, h => match h[n]?, h[m]? with
    | some (.lst xs), some (.lst ys) => if xs.length + ys.length ≤ sizeLine then some (.ref h.length, h ++ [.lst (xs ++ ys)]) else none
    | _, _ => none
  | _, _, _ => none
def mulOk (i j : Int) : Bool := !(decide (Builtin.Int.intBits i > shortFactorBits) && decide (Builtin.Int.intBits j > shortFactorBits) && Builtin.Int.intTooBig (Builtin.Int.intBits i + Builtin.Int.intBits j))
def divOk (j : Int) : Bool := decide (j ≠ 0) && decide (j.natAbs.log2 < 9000)
def oI (f : Int → Int → Option Int) : D → D → EH → Option (D × EH)
  | .int i, .int j, h => (f i j).map fun k => (.int k, h)
  | _, _, _ => none
def oSub : D → D → EH → Option (D × EH) := oI fun i j => some (i - j)
def oMul : D → D → EH → Option (D × EH) := oI fun i j => if mulOk i j then some (i * j) else none
def oDiv : D → D → EH → Option (D × EH) := oI fun i j => if divOk j then some (i.fdiv j) else none
def oMod : D → D → EH → Option (D × EH) := oI fun i j => if j ≠ 0 then some (i.fmod j) else none
def oPow : D → D → EH → Option (D × EH) := oI fun i j => if 0 ≤ j ∧ j ≤ 1000000 ∧ i.natAbs < 2 ^ 64 then some (i ^ j.toNat) else none
theorem or_I {f : Int → Int → Option Int} {g : Value → Value → Sem Value} {C : Int → Int → Prop} {k : Int → Int → Int} (h : OpR X g (rI C fun i j => .int (k i j))) (hf : ∀ i j z, f i j = some z → C i j ∧ k i j = z) : OpR X g (rD X (oI f)) := by
  intro pins s σ H x y v u Q I rx ry ⟨μ, eh, dx, dy, hr, r1, r2, o⟩
  cases r1 with
  | int i => cases r2 with
    | int j =>
      simp only [oI] at o
      cases e : f i j with
      | none => rw [e] at o; exact o.elim
      | some z =>
        rw [e] at o
        obtain ⟨c, e2⟩ := hf i j z e
        refine h pins s σ H _ _ v u Q I rx ry ⟨i, j, rfl, rfl, c, ?_⟩
        show Q (V.int (k i j)) H
        rw [e2]
        exact outD_val o hr (.int z)
    | _ => exact o.elim
  | _ => exact o.elim
theorem or_sub : OpR X (binaryOp .Sub) (rD X oSub) := or_I (C := fun _ _ => True) (k := fun i j => i - j) (opI fun _ _ _ _ _ _ _ _ q => sub_int q) fun i j z h => ⟨trivial, by simpa using h⟩
theorem or_mul : OpR X (binaryOp .Mult) (rD X oMul) := or_I (C := fun i j => IntMulOk i j) (k := fun i j => i * j) (opI fun _ _ _ _ _ _ _ hc q => mul_int q hc) fun i j z h => by
  by_cases c : mulOk i j = true
  · rw [if_pos c] at h
    refine ⟨?_, by simpa using h⟩
    unfold mulOk at c
    unfold IntMulOk
    intro z
    rw [z] at c
    cases c
  · rw [if_neg c] at h; cases h
theorem or_div : OpR X (binaryOp .FloorDiv) (rD X oDiv) := or_I (C := fun _ j => divOk j = true) (k := fun i j => i.fdiv j) (opI fun i j _ _ _ _ _ hc q => by
    have h := Bool.and_eq_true_iff.mp hc
    exact floordiv_int (of_decide_eq_true h.1) q (.inl (PyProof.noPylong_of_log2 (of_decide_eq_true h.2)))) fun i j z h => by
  by_cases c : divOk j = true
  · rw [if_pos c] at h; exact ⟨c, by simpa using h⟩
  · rw [if_neg c] at h; cases h
theorem or_mod : OpR X (binaryOp .Mod) (rD X oMod) := or_I (C := fun _ j => j ≠ 0) (k := fun i j => i.fmod j) op_modN fun i j z h => by
  by_cases c : j ≠ 0
  · rw [if_pos c] at h; exact ⟨c, by simpa using h⟩
  · rw [if_neg c] at h; cases h
theorem or_pow : OpR X (binaryOp .Pow) (rD X oPow) := or_I (C := CPow) (k := fun i j => i ^ j.toNat) op_pow fun i j z h => by
  by_cases c : 0 ≤ j ∧ j ≤ 1000000 ∧ i.natAbs < 2 ^ 64
  · rw [if_pos c] at h; exact ⟨c, by simpa using h⟩
  · rw [if_neg c] at h; cases h
theorem or_add : OpR X (binaryOp .Add) (rD X oAdd) := by
  intro pins s σ H x y v u Q I rx ry ⟨μ, eh, dx, dy, hr, r1, r2, o⟩
  cases r1 with
  | int i => cases r2 with
    | int j => exact op_add pins s σ H _ _ v u Q I rx ry ⟨i, j, rfl, rfl, outD_val o hr (.int _)⟩
    | _ => exact o.elim
  | str i => cases r2 with
    | str j =>
      simp only [oAdd] at o
      by_cases c : i.length + j.length ≤ sizeLine
      · rw [if_pos c] at o
        exact op_add_str pins s σ H _ _ v u Q I rx ry ⟨i, j, rfl, rfl, c, outD_val o hr (.str _)⟩
      · rw [if_neg c] at o; exact o.elim
    | _ => exact o.elim
  | @tup a ds xs h1 q1 => cases r2 with
    | @tup b es ys h2 q2 =>
      simp only [oAdd] at o
      by_cases c : ds.length + es.length ≤ sizeLine
      · rw [if_pos c] at o
        have l1 := q1.len
        have l2 := q2.len
        refine op_catA pins s σ H _ _ v u Q I rx ry ⟨a, b, xs, ys, rfl, rfl, h1, h2, by omega, fun ex => ?_, fun nx ey => ?_, fun nx ny p hp => outD_tup o hr (q1.app q2) hp⟩
        · subst ex
          cases q1
          exact outD_val o hr (.tup h2 q2)
        · subst ey
          cases q2
          rw [List.append_nil] at o
          exact outD_val o hr (.tup h1 q1)
      · rw [if_neg c] at o; exact o.elim
    | _ => exact o.elim
  | @ref n a ha _ => cases r2 with
    | @ref m b hb _ =>
      simp only [oAdd] at o
      cases e1 : eh[n]? with
      | none => rw [e1] at o; exact o.elim
      | some o1 => cases o1 with
        | dct _ => rw [e1] at o; exact o.elim
        | dcl _ => rw [e1] at o; exact o.elim
        | lst xs => cases e2 : eh[m]? with
          | none => rw [e1, e2] at o; exact o.elim
          | some o2 => cases o2 with
            | dct _ => rw [e1, e2] at o; exact o.elim
            | dcl _ => rw [e1, e2] at o; exact o.elim
            | lst ys =>
              rw [e1, e2] at o
              simp only at o
              obtain ⟨vs, H1, q1⟩ := hr.lst e1 ha
              obtain ⟨ws, H2, q2⟩ := hr.lst e2 hb
              have l1 := q1.len
              have l2 := q2.len
              by_cases c : xs.length + ys.length ≤ sizeLine
              · rw [if_pos c] at o
                exact op_cat pins s σ H _ _ v u Q I rx ry ⟨a, b, vs, ws, rfl, rfl, H1, H2, by omega, fun p hp => outD_lst o hr (q1.app q2) hp⟩
              · rw [if_neg c] at o; exact o.elim
    | _ => exact o.elim
  | _ => exact o.elim
def oNeg : D → Option D
  | .int i => some (.int (-i))
  | _ => none
theorem ur_neg : UnR X (unaryOp .USub) (rD1 X oNeg) := by
  intro pins s σ H x v Q I rx ⟨μ, eh, dx, hr, r1, o⟩
  cases r1 with
  | int i => exact un_neg pins s σ H _ v Q I rx ⟨i, rfl, outD_val o hr (.int _)⟩
  | _ => exact o.elim
end
end Sm
namespace Sm
open PySem PySem.Spec PyProof.Rows L2
section
variable {X : Cx} {W : WX}
/-! ### argument lists, displays -/
def aNil : Sl → EH → R (List D) := fun _ h => .ok [] h
def aCons (m : Sl → EH → R D) (ms : Sl → EH → R (List D)) : Sl → EH → R (List D) := fun e h => (m e h).bind fun d h1 => (ms e h1).bind fun ds h2 => .ok (d :: ds) h2
theorem sa_nil : SA X W [] aNil := ⟨paI pa_nil fun σ H Q ⟨μ, e, eh, er, hr, p⟩ => p μ H [] (Ext.refl _ _) hr .nil⟩
theorem sa_cons {a : Expr} {es : List Expr} {m : Sl → EH → R D} {ms : Sl → EH → R (List D)} (ha : SE X W a m) (hs : SA X W es ms) (he : starEach (a :: es) X.env = (false, eval a X.env) :: starEach es X.env := by rfl) : SA X W (a :: es) (aCons m ms) := by
  refine ⟨paI (pa_cons ha.pe hs.pa he) fun σ H Q ⟨μ, e, eh, er, hr, p⟩ => ?_⟩
  refine ⟨μ, e, eh, er, hr, post_mono (post_bind (Rl := relD) backA p) ?_⟩
  rintro x H1 ⟨μ1, eh1, dx, x1, hr1, rx, p1⟩
  refine ⟨μ1, e, eh1, er.ext x1, hr1, post_mono (post_bind (Rl := relA) backA p1) ?_⟩
  rintro y H2 ⟨μ2, eh2, dy, x2, hr2, ry, p2⟩
  exact p2 μ2 H2 (x :: y) (Ext.refl _ _) hr2 (.cons (Rp.ext x2 rx) ry)
/-- a list that only its expression holds is taken over -/
def eNew (m : Sl → EH → R (List D)) : Sl → EH → R D := fun e h => (m e h).bind fun xs h1 => .ok (.ref h1.length) (h1 ++ [.lst xs])
theorem Ext.snoc {μ μ' : List Addr} {H H' : Hp} {a : Addr} {vs : List V} (x : Ext μ μ' H H') (h0 : H a = none) (hl : H' a = some (.lst vs)) : Ext μ (μ' ++ [a]) H H' :=
  ⟨by obtain ⟨t, e⟩ := x.pre; exact ⟨t ++ [a], by rw [e, List.append_assoc]⟩, x.frm, x.tbl, fun P q t => (x.tab P q t).grow hl, x.tup, x.frz, fun b hb => (List.mem_append.mp hb).elim (x.new b) fun z => .inr (by rw [List.mem_singleton.mp z]; exact h0), x.lst⟩
theorem se_new {a : Expr} {m : Sl → EH → R (List D)} (h : SL X W a m) : SE X W a (eNew m) := by
  refine ⟨peI h.pe fun σ H Q ⟨μ, e, eh, er, hr, p⟩ => ⟨μ, e, eh, er, hr, ?_⟩⟩
  unfold eNew at p
  cases hm : m e eh with
  | bad => rw [hm] at p; exact p
  | exc x h1 => rw [hm] at p; exact p
  | ok xs eh1 =>
    rw [hm] at p
    rintro μ' H' v x hr' ⟨a, vs, rfl, h, hn, h0, r⟩
    refine p (μ' ++ [a]) H' (.ref a) (x.snoc h0 h) (hr'.take hn h r) (.ref ?_ ⟨_, h⟩)
    rw [← hr'.len]; simp
def eTup (ms : Sl → EH → R (List D)) : Sl → EH → R D := fun e h => (ms e h).bind fun ds h1 => if ds.length ≤ sizeLine then .ok (.tup ds) h1 else .bad
theorem se_tup {es : List Expr} {ms : Sl → EH → R (List D)} {k : Nat} {pos : Pos} (h : SA X W es ms) : SE X W (.Tuple es k pos) (eTup ms) := by
  refine ⟨peI (pe_tup h.pa) fun σ H Q ⟨μ, e, eh, er, hr, p⟩ => ?_⟩
  refine ⟨μ, e, eh, er, hr, post_mono (post_bind (Rl := relA) backD p) ?_⟩
  rintro x H1 ⟨μ1, eh1, ds, x1, hr1, rx, p1⟩
  have l := RpAll.len rx
  by_cases c : ds.length ≤ sizeLine
  · rw [if_pos c] at p1
    exact ⟨by omega, fun q hq => p1 μ1 _ _ (Ext.add hq hr1) (hr1.add hq) (.tup (SqT.of upd_same) (RpAll.ext (Ext.add hq hr1) rx))⟩
  · rw [if_neg c] at p1; exact p1.elim
def lDisp (ms : Sl → EH → R (List D)) : Sl → EH → R (List D) := fun e h => (ms e h).bind fun ds h1 => if ds.length ≤ sizeLine then .ok ds h1 else .bad
theorem relT_new {μ : List Addr} {H : Hp} {ds : List D} {vs : List V} {eh : EH} {mg : Str → Option Value} {W : Value → Option Addr → Hp → Prop} {Q : VK} {p : Addr} (h : post relT X.K mg W μ H (.ok ds eh) Q) (hr : HeapR X.K H μ eh) (r : RpAll X.K H μ ds vs) (hp : H p = none) : Q (.ref p) (upd H p (.lst vs)) :=
  h μ _ _ (Ext.add hp hr) (hr.add hp) ⟨p, vs, rfl, upd_same, hr.out hp, hp, r.ext (Ext.add hp hr)⟩
theorem sl_disp {es : List Expr} {ms : Sl → EH → R (List D)} {pos : Pos} (h : SA X W es ms) : SL X W (.List es pos) (lDisp ms) := by
  refine ⟨peI (pe_lst h.pa) fun σ H Q ⟨μ, e, eh, er, hr, p⟩ => ?_⟩
  refine ⟨μ, e, eh, er, hr, post_mono (post_bind (Rl := relA) backT p) ?_⟩
  rintro x H1 ⟨μ1, eh1, ds, x1, hr1, rx, p1⟩
  have l := RpAll.len rx
  by_cases c : ds.length ≤ sizeLine
  · rw [if_pos c] at p1
    exact ⟨by omega, fun q hq => relT_new p1 hr1 rx hq⟩
  · rw [if_neg c] at p1; exact p1.elim

/-! ### tests -/
def asB (d : D) (h : EH) : R Bool := match d with
  | .bl b => .ok b h
  | _ => .bad
def bOf (m : Sl → EH → R D) : Sl → EH → R Bool := fun e h => (m e h).bind asB
theorem bl_of {d : D} {v : V} {μ : List Addr} {H : Hp} {eh : EH} {mg : Str → Option Value} {W : Value → Option Addr → Hp → Prop} {Q : Bool → Hp → Prop} (r : Rp X.K H μ d v) (hr : HeapR X.K H μ eh)
    (p : post relB X.K mg W μ H (asB d eh) Q) : ∃ c, v = .bl c ∧ Q c H := by
  cases r with
  | bl b => exact ⟨b, rfl, p μ H b (Ext.refl _ _) hr rfl⟩
  | _ => exact p.elim
theorem sb_val {a : Expr} {m : Sl → EH → R D} (h : SE X W a m) (he : ∀ whole, isTrue a X.env whole = (do let v ← whole; standAt a.pos; holding [v] (truthy v)) := by intro _; rfl) : SB X W a (bOf m) := by
  refine ⟨ptI (pt_val h.pe he) fun σ H Q ⟨μ, e, eh, er, hr, p⟩ => ⟨μ, e, eh, er, hr, post_mono (post_bind (Rl := relD) backB p) ?_⟩⟩
  rintro x H1 ⟨μ1, eh1, d, x1, hr1, rx, p1⟩
  exact bl_of rx hr1 p1
theorem se_cmp {op : CmpOp} {f : D → D → EH → Option (D × EH)} {a b : Expr} {ma mb : Sl → EH → R D} {pos : Pos} (ho : OpR X (compareOp op) (rD X f)) (ha : SE X W a ma) (hb : SE X W b mb) (hm : behindInMarks op b = false := by rfl) : SE X W (.Compare a [op] [b] pos) (eBin f ma mb) :=
  ⟨peI (pe_cmpR ho ha.pe hb.pe hm) tOp_of⟩
theorem sb_cmp {op : CmpOp} {f : D → D → EH → Option (D × EH)} {a b : Expr} {ma mb : Sl → EH → R D} {pos : Pos} (ho : OpR X (compareOp op) (rD X f)) (ha : SE X W a ma) (hb : SE X W b mb) (hm : behindInMarks op b = false := by rfl) : SB X W (.Compare a [op] [b] pos) (bOf (eBin f ma mb)) := by
  refine ⟨ptI (pt_cmpR ho ha.pe hb.pe hm) fun σ H Q ⟨μ, e, eh, er, hr, p⟩ => tOp_of σ H _ ⟨μ, e, eh, er, hr, ?_⟩⟩
  refine post_mono (post_bind (Rl := relD) backB p) ?_
  rintro x H1 ⟨μ1, eh1, d, x1, hr1, rx, p1⟩
  exact bl_of rx hr1 p1
def bNot (m : Sl → EH → R Bool) : Sl → EH → R Bool := fun e h => (m e h).bind fun b h1 => .ok (!b) h1
theorem sb_not {a : Expr} {m : Sl → EH → R Bool} {pos : Pos} (h : SB X W a m) : SB X W (.UnaryOp .Not a pos) (bNot m) := by
  refine ⟨ptI (pt_not h.pt) fun σ H Q ⟨μ, e, eh, er, hr, p⟩ => ⟨μ, e, eh, er, hr, post_mono (post_bind (Rl := relB) backB p) ?_⟩⟩
  rintro x H1 ⟨μ1, eh1, d, x1, hr1, rx, p1⟩
  cases rx
  exact p1 μ1 H1 _ (Ext.refl _ _) hr1 rfl
structure SW (X : Cx) (W : WX) (e : Expr) (m : Sl → EH → R Bool) : Prop where
  pw : PW X e (tG relB X W m)
theorem pwI {e : Expr} {t t' : TT} (h : PW X e t) (hi : ∀ σ H Q, t' σ H Q → t σ H Q) : PW X e t' := ⟨fun wh pins s σ H Q I q => h.run wh pins s σ H Q I (hi _ _ _ q)⟩
def bAnd (m1 m2 : Sl → EH → R Bool) : Sl → EH → R Bool := fun e h => (m1 e h).bind fun b h1 => if b = true then m2 e h1 else .ok false h1
def bOr (m1 m2 : Sl → EH → R Bool) : Sl → EH → R Bool := fun e h => (m1 e h).bind fun b h1 => if b = true then .ok true h1 else m2 e h1
theorem sw_and1 {a : Expr} {m : Sl → EH → R Bool} {pos : Pos} (h : SB X W a m) : SW X W (.BoolOp .And [a] pos) m := ⟨pw_and1 h.pt⟩
theorem sw_or1 {a : Expr} {m : Sl → EH → R Bool} {pos : Pos} (h : SB X W a m) : SW X W (.BoolOp .Or [a] pos) m := ⟨pw_or1 h.pt⟩
theorem sw_and {a b : Expr} {rest : List Expr} {m1 m2 : Sl → EH → R Bool} {pos : Pos} (h1 : SB X W a m1) (h2 : SW X W (.BoolOp .And (b :: rest) pos) m2) : SW X W (.BoolOp .And (a :: b :: rest) pos) (bAnd m1 m2) := by
  refine ⟨pwI (pw_and h1.pt h2.pw) fun σ H Q ⟨μ, e, eh, er, hr, p⟩ => ⟨μ, e, eh, er, hr, post_mono (post_bind (Rl := relB) backB p) ?_⟩⟩
  rintro x H1 ⟨μ1, eh1, d, x1, hr1, rx, p1⟩
  cases rx
  cases x with
  | true => exact iteT ⟨μ1, e, eh1, er.ext x1, hr1, p1⟩
  | false => exact iteF (p1 μ1 H1 _ (Ext.refl _ _) hr1 rfl)
theorem sw_or {a b : Expr} {rest : List Expr} {m1 m2 : Sl → EH → R Bool} {pos : Pos} (h1 : SB X W a m1) (h2 : SW X W (.BoolOp .Or (b :: rest) pos) m2) : SW X W (.BoolOp .Or (a :: b :: rest) pos) (bOr m1 m2) := by
  refine ⟨pwI (pw_or h1.pt h2.pw) fun σ H Q ⟨μ, e, eh, er, hr, p⟩ => ⟨μ, e, eh, er, hr, post_mono (post_bind (Rl := relB) backB p) ?_⟩⟩
  rintro x H1 ⟨μ1, eh1, d, x1, hr1, rx, p1⟩
  cases rx
  cases x with
  | true => exact iteT (p1 μ1 H1 _ (Ext.refl _ _) hr1 rfl)
  | false => exact iteF ⟨μ1, e, eh1, er.ext x1, hr1, p1⟩
theorem sw_pt {a : Expr} {m : Sl → EH → R Bool} (h : SW X W a m) : SB X W a m := ⟨h.pw.pt⟩
/-- as values -/
def eAnd (ma mb : Sl → EH → R D) : Sl → EH → R D := fun e h => (ma e h).bind fun x h1 => match x with
  | .bl true => mb e h1
  | .bl false => .ok (.bl false) h1
  | _ => .bad
def eOr (ma mb : Sl → EH → R D) : Sl → EH → R D := fun e h => (ma e h).bind fun x h1 => match x with
  | .bl false => mb e h1
  | .bl true => .ok (.bl true) h1
  | _ => .bad
def eNot (ma : Sl → EH → R D) : Sl → EH → R D := fun e h => (ma e h).bind fun x h1 => match x with
  | .bl b => .ok (.bl (!b)) h1
  | _ => .bad
theorem se_one {op} {a : Expr} {m : Sl → EH → R D} {pos : Pos} (h : SE X W a m) : SE X W (.BoolOp op [a] pos) m := ⟨pe_one h.pe⟩
theorem se_and {a b : Expr} {rest : List Expr} {m1 m2 : Sl → EH → R D} {pos : Pos} (h1 : SE X W a m1) (h2 : SE X W (.BoolOp .And (b :: rest) pos) m2) : SE X W (.BoolOp .And (a :: b :: rest) pos) (eAnd m1 m2) := by
  refine ⟨peI (pe_and h1.pe h2.pe) fun σ H Q ⟨μ, e, eh, er, hr, p⟩ => ⟨μ, e, eh, er, hr, post_mono (post_bind (Rl := relD) backD p) ?_⟩⟩
  rintro x H1 ⟨μ1, eh1, d, x1, hr1, rx, p1⟩
  cases rx with
  | bl b => cases b with
    | true => exact ⟨true, rfl, iteT ⟨μ1, e, eh1, er.ext x1, hr1, p1⟩⟩
    | false => exact ⟨false, rfl, iteF (p1 μ1 H1 _ (Ext.refl _ _) hr1 (.bl false))⟩
  | _ => exact p1.elim
theorem se_or {a b : Expr} {rest : List Expr} {m1 m2 : Sl → EH → R D} {pos : Pos} (h1 : SE X W a m1) (h2 : SE X W (.BoolOp .Or (b :: rest) pos) m2) : SE X W (.BoolOp .Or (a :: b :: rest) pos) (eOr m1 m2) := by
  refine ⟨peI (pe_or h1.pe h2.pe) fun σ H Q ⟨μ, e, eh, er, hr, p⟩ => ⟨μ, e, eh, er, hr, post_mono (post_bind (Rl := relD) backD p) ?_⟩⟩
  rintro x H1 ⟨μ1, eh1, d, x1, hr1, rx, p1⟩
  cases rx with
  | bl b => cases b with
    | true => exact ⟨true, rfl, iteT (p1 μ1 H1 _ (Ext.refl _ _) hr1 (.bl true))⟩
    | false => exact ⟨false, rfl, iteF ⟨μ1, e, eh1, er.ext x1, hr1, p1⟩⟩
  | _ => exact p1.elim
theorem se_not {a : Expr} {m : Sl → EH → R D} {pos : Pos} (h : SE X W a m) : SE X W (.UnaryOp .Not a pos) (eNot m) := by
  refine ⟨peI (pe_not h.pe) fun σ H Q ⟨μ, e, eh, er, hr, p⟩ => ⟨μ, e, eh, er, hr, post_mono (post_bind (Rl := relD) backD p) ?_⟩⟩
  rintro x H1 ⟨μ1, eh1, d, x1, hr1, rx, p1⟩
  cases rx with
  | bl b => exact ⟨b, rfl, p1 μ1 H1 _ (Ext.refl _ _) hr1 (.bl _)⟩
  | _ => exact p1.elim
def eIf (mc : Sl → EH → R Bool) (ma mb : Sl → EH → R D) : Sl → EH → R D := fun e h => (mc e h).bind fun b h1 => if b = true then ma e h1 else mb e h1
theorem se_ifExp {c a b : Expr} {mc : Sl → EH → R Bool} {ma mb : Sl → EH → R D} {pos : Pos} (hc : SB X W c mc) (ha : SE X W a ma) (hb : SE X W b mb) : SE X W (.IfExp c a b pos) (eIf mc ma mb) := by
  refine ⟨peI (pe_ifExp hc.pt ha.pe hb.pe) fun σ H Q ⟨μ, e, eh, er, hr, p⟩ => ⟨μ, e, eh, er, hr, post_mono (post_bind (Rl := relB) backD p) ?_⟩⟩
  rintro x H1 ⟨μ1, eh1, d, x1, hr1, rx, p1⟩
  cases rx
  cases x with
  | true => exact iteT ⟨μ1, e, eh1, er.ext x1, hr1, p1⟩
  | false => exact iteF ⟨μ1, e, eh1, er.ext x1, hr1, p1⟩

/-! ### comparisons -/
def oB (f : Int → Int → Bool) : D → D → EH → Option (D × EH)
  | .int i, .int j, h => some (.bl (f i j), h)
  | _, _, _ => none
theorem or_B {f : Int → Int → Bool} {g : Value → Value → Sem Value} (h : OpR X g (rI0 fun i j => .bl (f i j))) : OpR X g (rD X (oB f)) := by
  intro pins s σ H x y v u Q I rx ry ⟨μ, eh, dx, dy, hr, r1, r2, o⟩
  cases r1 with
  | int i => cases r2 with
    | int j => exact h pins s σ H _ _ v u Q I rx ry ⟨i, j, rfl, rfl, outD_val o hr (.bl _)⟩
    | _ => exact o.elim
  | _ => exact o.elim
def oLt : D → D → EH → Option (D × EH) := oB fun i j => decide (i < j)
def oLe : D → D → EH → Option (D × EH) := oB fun i j => decide (i ≤ j)
def oGt : D → D → EH → Option (D × EH) := oB fun i j => decide (j < i)
def oGe : D → D → EH → Option (D × EH) := oB fun i j => decide (j ≤ i)
theorem or_lt : OpR X (compareOp .Lt) (rD X oLt) := or_B op_lt
theorem or_le : OpR X (compareOp .LtE) (rD X oLe) := or_B op_le
theorem or_gt : OpR X (compareOp .Gt) (rD X oGt) := or_B op_gt
theorem or_ge : OpR X (compareOp .GtE) (rD X oGe) := or_B op_ge
/-- a value as data -/
def allO {α β : Type} (f : α → Option β) : List α → Option (List β)
  | [] => some []
  | x :: xs => match f x with
    | some y => (allO f xs).map (y :: ·)
    | none => none
def pyOf : Nat → EH → D → Option PyData
  | 0, _, _ => none
  | n + 1, h, d => match d with
    | .non => some .none
    | .bl b => some (.bool b)
    | .int i => some (.int i)
    | .str x => some (.str x)
    | .tup xs => (allO (pyOf n h) xs).map .tuple
    | .rol xs => (allO (pyOf n h) xs).map .list
    | .ref k => match h[k]? with
      | some (.lst xs) => (allO (pyOf n h) xs).map .list
      | _ => none
    | .dic _ => none
    | .ty _ => none
    | .exn _ _ => none
    | .cls _ => none
theorem dp_all {K : PySem.W.Frag} {H : Hp} {μ : List Addr} {f : D → Option PyData} (ih : ∀ d v p, f d = some p → Rp K H μ d v → Dp K H v p) : ∀ (ds : List D) (vs : List V) (ps : List PyData), allO f ds = some ps → RpAll K H μ ds vs → DpAll K H vs ps
  | [], _, ps, h, r => by
    cases r
    cases h
    exact .nil
  | d :: ds, _, ps, h, r => by
    cases r with
    | cons r1 r2 =>
      unfold allO at h
      cases e : f d with
      | none => rw [e] at h; cases h
      | some p =>
        rw [e] at h
        cases e2 : allO f ds with
        | none => rw [e2] at h; cases h
        | some qs =>
          rw [e2] at h
          cases h
          exact .cons (ih d _ p e r1) (dp_all ih ds _ qs e2 r2)
theorem dp_of {K : PySem.W.Frag} {H : Hp} {μ : List Addr} {eh : EH} (hr : HeapR K H μ eh) : ∀ (n : Nat) (d : D) (v : V) (p : PyData), pyOf n eh d = some p → Rp K H μ d v → Dp K H v p
  | 0, _, _, _, h, _ => by cases h
  | n + 1, d, v, p, h, r => by
    have ih : ∀ d v p, pyOf n eh d = some p → Rp K H μ d v → Dp K H v p := dp_of hr n
    cases r with
    | non => cases h; exact .non
    | bl b => cases h; exact .bl b
    | int b => cases h; exact .int b
    | str b => cases h; exact .str b
    | ty b => cases h
    | dic => cases h
    | exn => cases h
    | cls => cases h
    | @tup a ds xs s q =>
      simp only [pyOf] at h
      cases e : allO (pyOf n eh) ds with
      | none => rw [e] at h; cases h
      | some qs => rw [e] at h; cases h; exact .tup s (dp_all ih ds xs qs e q)
    | @rol a ds xs s q =>
      simp only [pyOf] at h
      cases e : allO (pyOf n eh) ds with
      | none => rw [e] at h; cases h
      | some qs => rw [e] at h; cases h; exact .lst s.l (dp_all ih ds xs qs e q)
    | @ref k a ha hlst =>
      simp only [pyOf] at h
      cases e0 : eh[k]? with
      | none => rw [e0] at h; cases h
      | some o => cases o with
        | dct _ => rw [e0] at h; cases h
        | dcl _ => rw [e0] at h; cases h
        | lst ds =>
          rw [e0] at h
          simp only at h
          obtain ⟨xs, hx, q⟩ := hr.lst e0 ha
          cases e : allO (pyOf n eh) ds with
          | none => rw [e] at h; cases h
          | some qs => rw [e] at h; cases h; exact .lst (SqL.of hx) (dp_all ih ds xs qs e q)
/-- == -/
def pyEq (h : EH) : D → D → Option Bool
  | .int i, .int j => some (decide (i = j))
  | .str i, .str j => some (decide (i = j))
  | x, y => match pyOf 70 h x, pyOf 70 h y with
    | some a, some b => if SeqAt.shaped a = true ∧ SeqAt.shaped b = true then some (PyData.eqv a b) else none
    | _, _ => none
def oEq : D → D → EH → Option (D × EH) := fun x y h => (pyEq h x y).map fun b => (.bl b, h)
def oNe : D → D → EH → Option (D × EH) := fun x y h => (pyEq h x y).map fun b => (.bl (!b), h)
theorem pyEq_cases {h : EH} {x y : D} {b : Bool} (e : pyEq h x y = some b) : (∃ i j, x = .int i ∧ y = .int j ∧ b = decide (i = j)) ∨ (∃ i j, x = .str i ∧ y = .str j ∧ b = decide (i = j)) ∨
    ∃ p q, pyOf 70 h x = some p ∧ pyOf 70 h y = some q ∧ SeqAt.shaped p = true ∧ SeqAt.shaped q = true ∧ b = PyData.eqv p q := by
  unfold pyEq at e
  split at e
  · cases e; exact .inl ⟨_, _, rfl, rfl, rfl⟩
  · cases e; exact .inr (.inl ⟨_, _, rfl, rfl, rfl⟩)
  · split at e
    · split at e
      · rename_i hc
        cases e
        exact .inr (.inr ⟨_, _, by assumption, by assumption, hc.1, hc.2, rfl⟩)
      · cases e
    · cases e
theorem or_eq (hu : X.A.units + 64 < cLine) : OpR X (compareOp .Eq) (rD X oEq) := by
  intro pins s σ H x y v u Q I rx ry ⟨μ, eh, dx, dy, hr, r1, r2, o⟩
  unfold oEq at o
  cases e : pyEq eh dx dy with
  | none => rw [e] at o; exact o.elim
  | some b =>
    rw [e] at o
    have q : Q (.bl b) H := outD_val o hr (.bl _)
    rcases pyEq_cases e with ⟨i, j, rfl, rfl, rfl⟩ | ⟨i, j, rfl, rfl, rfl⟩ | ⟨p, p2, e1, e2, s1, s2, rfl⟩
    · cases r1; cases r2
      refine op_eq pins s σ H _ _ v u Q I rx ry ⟨rfl, ?_⟩
      have z : decide (V.int i = V.int j) = decide (i = j) := by rw [dec_int]; exact Bool.beq_eq_decide_eq i j
      rw [z]; exact q
    · cases r1; cases r2
      refine op_eq pins s σ H _ _ v u Q I rx ry ⟨rfl, ?_⟩
      have z : decide (V.str i = V.str j) = decide (i = j) := by rw [dec_str]; exact Bool.beq_eq_decide_eq i j
      rw [z]; exact q
    · exact op_eqD hu pins s σ H _ _ v u Q I rx ry ⟨p, p2, dp_of hr _ _ _ _ e1 r1, dp_of hr _ _ _ _ e2 r2, s1, s2, q⟩
theorem or_ne (hu : X.A.units + 64 < cLine) : OpR X (compareOp .NotEq) (rD X oNe) := by
  intro pins s σ H x y v u Q I rx ry ⟨μ, eh, dx, dy, hr, r1, r2, o⟩
  unfold oNe at o
  cases e : pyEq eh dx dy with
  | none => rw [e] at o; exact o.elim
  | some b =>
    rw [e] at o
    have q : Q (.bl (!b)) H := outD_val o hr (.bl _)
    rcases pyEq_cases e with ⟨i, j, rfl, rfl, rfl⟩ | ⟨i, j, rfl, rfl, rfl⟩ | ⟨p, p2, e1, e2, s1, s2, rfl⟩
    · cases r1; cases r2
      refine op_ne pins s σ H _ _ v u Q I rx ry ⟨rfl, ?_⟩
      have z : decide (V.int i = V.int j) = decide (i = j) := by rw [dec_int]; exact Bool.beq_eq_decide_eq i j
      rw [z]; exact q
    · cases r1; cases r2
      refine op_ne pins s σ H _ _ v u Q I rx ry ⟨rfl, ?_⟩
      have z : decide (V.str i = V.str j) = decide (i = j) := by rw [dec_str]; exact Bool.beq_eq_decide_eq i j
      rw [z]; exact q
    · exact op_neD hu pins s σ H _ _ v u Q I rx ry ⟨p, p2, dp_of hr _ _ _ _ e1 r1, dp_of hr _ _ _ _ e2 r2, s1, s2, q⟩
/-- x in a list -/
def pyIn (h : EH) (x y : D) : Option Bool := match pyOf 70 h x, pyOf 70 h y with
  | some a, some (.list ds) => if SeqAt.shaped a = true ∧ SeqAt.shaped (.list ds) = true then some (ds.any fun z => PyData.eqv z a) else none
  | _, _ => none
def oIn : D → D → EH → Option (D × EH) := fun x y h => (pyIn h x y).map fun b => (.bl b, h)
def oNotIn : D → D → EH → Option (D × EH) := fun x y h => (pyIn h x y).map fun b => (.bl (!b), h)
theorem pyIn_cases {h : EH} {x y : D} {b : Bool} (e : pyIn h x y = some b) : ∃ p ds, pyOf 70 h x = some p ∧ pyOf 70 h y = some (.list ds) ∧ SeqAt.shaped p = true ∧ SeqAt.shaped (.list ds) = true ∧ b = ds.any fun z => PyData.eqv z p := by
  unfold pyIn at e
  split at e
  · split at e
    · rename_i hc
      cases e
      exact ⟨_, _, by assumption, by assumption, hc.1, hc.2, rfl⟩
    · cases e
  · cases e
theorem or_in (hu : X.A.units + 65 < cLine) : OpR X (compareOp .In) (rD X oIn) := by
  intro pins s σ H x y v u Q I rx ry ⟨μ, eh, dx, dy, hr, r1, r2, o⟩
  unfold oIn at o
  cases e : pyIn eh dx dy with
  | none => rw [e] at o; exact o.elim
  | some b =>
    rw [e] at o
    have q : Q (.bl b) H := outD_val o hr (.bl _)
    obtain ⟨p, ds, e1, e2, s1, s2, rfl⟩ := pyIn_cases e
    exact op_inD hu pins s σ H _ _ v u Q I rx ry ⟨p, ds, dp_of hr _ _ _ _ e1 r1, dp_of hr _ _ _ _ e2 r2, s1, s2, q⟩
theorem or_notIn (hu : X.A.units + 65 < cLine) : OpR X (compareOp .NotIn) (rD X oNotIn) := by
  intro pins s σ H x y v u Q I rx ry ⟨μ, eh, dx, dy, hr, r1, r2, o⟩
  unfold oNotIn at o
  cases e : pyIn eh dx dy with
  | none => rw [e] at o; exact o.elim
  | some b =>
    rw [e] at o
    have q : Q (.bl (!b)) H := outD_val o hr (.bl _)
    obtain ⟨p, ds, e1, e2, s1, s2, rfl⟩ := pyIn_cases e
    exact op_notInD hu pins s σ H _ _ v u Q I rx ry ⟨p, ds, dp_of hr _ _ _ _ e1 r1, dp_of hr _ _ _ _ e2 r2, s1, s2, q⟩
end
end Sm
namespace Sm
open PySem PySem.Spec PyProof.Rows L2
section
variable {K : PySem.W.Frag} {H : Hp} {μ : List Addr}
theorem RpAll.atI {ds : List D} {vs : List V} {i : Int} {d : D} (r : RpAll K H μ ds vs) (h : L2.atI ds i = some d) : ∃ v, L2.atI vs i = some v ∧ Rp K H μ d v := by
  unfold L2.atI at h ⊢
  have l := r.len
  rw [← l]
  cases e : ixN ds.length i with
  | none => rw [e] at h; cases h
  | some j =>
    rw [e] at h
    exact r.get h
def cutD (xs : List D) (lo hi : Option Int) : List D := (xs.drop (HT.sIx xs.length 0 lo)).take (HT.sIx xs.length xs.length hi - HT.sIx xs.length 0 lo)
theorem RpAll.cut {ds : List D} {vs : List V} (r : RpAll K H μ ds vs) (lo hi : Option Int) : RpAll K H μ (cutD ds lo hi) (cutV vs lo hi) := by
  have l := r.len
  unfold cutD cutV
  rw [l]
  exact (r.drop _).take _
end
section
variable {X : Cx} {W : WX}
/-! ### items -/
def oIx : D → D → EH → Option (D × EH)
  | .tup xs, .int i, h => (atI xs i).map (·, h)
  | .rol xs, .int i, h => (atI xs i).map (·, h)
  | .ref n, .int i, h => match h[n]? with
    | some (.lst xs) => (atI xs i).map (·, h)
    | _ => none
  | .str z, .int i, h => if z.length ≤ sizeLine then (atI z.cps.toList i).map fun c => (.str ⟨#[c]⟩, h) else none
  | _, _, _ => none
theorem ir_ix : IxR X (rD X oIx) := by
  intro value slice pins s σ H x y v u Q I rx ry ⟨μ, eh, dx, dy, hr, r1, r2, o⟩ hs
  cases r2 with
  | int i => cases r1 with
    | @tup a ds xs h q =>
      simp only [oIx] at o
      cases e : atI ds i with
      | none => rw [e] at o; exact o.elim
      | some d =>
        rw [e] at o
        obtain ⟨w, hw, rw_⟩ := q.atI e
        exact ix_tup value slice pins s σ H _ _ v u Q I rx ry ⟨a, xs, i, w, rfl, rfl, h, hw, outD_val o hr rw_⟩ hs
    | @rol a ds xs h q =>
      simp only [oIx] at o
      cases e : atI ds i with
      | none => rw [e] at o; exact o.elim
      | some d =>
        rw [e] at o
        obtain ⟨w, hw, rw_⟩ := q.atI e
        exact ix_list value slice pins s σ H _ _ v u Q I rx ry ⟨a, xs, i, w, rfl, rfl, h.l, hw, outD_val o hr rw_⟩ hs
    | @ref n a ha hlst =>
      simp only [oIx] at o
      cases e1 : eh[n]? with
      | none => rw [e1] at o; exact o.elim
      | some o1 => cases o1 with
        | dct _ => rw [e1] at o; exact o.elim
        | dcl _ => rw [e1] at o; exact o.elim
        | lst ds =>
          rw [e1] at o
          simp only at o
          obtain ⟨xs, h, q⟩ := hr.lst e1 ha
          cases e : atI ds i with
          | none => rw [e] at o; exact o.elim
          | some d =>
            rw [e] at o
            obtain ⟨w, hw, rw_⟩ := q.atI e
            exact ix_list value slice pins s σ H _ _ v u Q I rx ry ⟨a, xs, i, w, rfl, rfl, SqL.of h, hw, outD_val o hr rw_⟩ hs
    | str z =>
      simp only [oIx] at o
      by_cases c : z.length ≤ sizeLine
      · rw [if_pos c] at o
        cases e : atI z.cps.toList i with
        | none => rw [e] at o; exact o.elim
        | some d =>
          rw [e] at o
          exact ix_str value slice pins s σ H _ _ v u Q I rx ry ⟨z, i, d, rfl, rfl, c, e, outD_val o hr (.str _)⟩ hs
      · rw [if_neg c] at o; exact o.elim
    | _ => exact o.elim
  | _ => cases r1 <;> exact o.elim
theorem se_ix {a b : Expr} {ma mb : Sl → EH → R D} {pos : Pos} (ha : SE X W a ma) (hb : SE X W b mb) (hs : PlainIx b := by intro _ _; rfl) : SE X W (.Subscript a b pos) (eBin oIx ma mb) := ⟨peI (pe_ix ir_ix ha.pe hb.pe hs) tOp_of⟩

/-! ### slices -/
def relO : Rel (Option Int) (Option Int) := fun _ _ _ _ a b => a = b
theorem backO : RelBack relO := ⟨fun _ _ h => h⟩
structure SO (X : Cx) (W : WX) (e : Option Expr) (m : Sl → EH → R (Option Int)) : Prop where
  po : PO X e (tG relO X W m)
def pNo : Sl → EH → R (Option Int) := fun _ h => .ok none h
def asI (d : D) (h : EH) : R (Option Int) := match d with
  | .int i => .ok (some i) h
  | _ => .bad
def pSo (m : Sl → EH → R D) : Sl → EH → R (Option Int) := fun e h => (m e h).bind asI
theorem so_none : SO X W none pNo := ⟨⟨fun pins s σ H Q I ⟨μ, e, eh, er, hr, p⟩ => po_none.run pins s σ H Q I (p μ H none (Ext.refl _ _) hr rfl)⟩⟩
theorem so_some {a : Expr} {m : Sl → EH → R D} (h : SE X W a m) : SO X W (some a) (pSo m) := by
  refine ⟨⟨fun pins s σ H Q I ⟨μ, e, eh, er, hr, p⟩ => (po_some h.pe).run pins s σ H Q I ⟨μ, e, eh, er, hr, post_mono (post_bind (Rl := relD) backO p) ?_⟩⟩⟩
  rintro x H1 ⟨μ1, eh1, d, x1, hr1, rx, p1⟩
  cases rx with
  | int i => exact ⟨i, rfl, p1 μ1 H1 _ (Ext.refl _ _) hr1 rfl⟩
  | _ => exact p1.elim
def oSl : D → Option Int → Option Int → EH → Option (D × EH)
  | .str z, lo, hi, h => if z.length ≤ sizeLine then some (.str (cutS z lo hi), h) else none
  | .tup xs, lo, hi, h => some (.tup (cutD xs lo hi), h)
  | .rol xs, lo, hi, h => some (.ref h.length, h ++ [.lst (cutD xs lo hi)])
  | .ref n, lo, hi, h => match h[n]? with
    | some (.lst xs) => some (.ref h.length, h ++ [.lst (cutD xs lo hi)])
    | _ => none
  | _, _, _, _ => none
def rSlD (X : Cx) : V → Option Int → Option Int → Hp → VK → Prop := fun x lo hi H Q => ∃ μ eh dx, HeapR X.K H μ eh ∧ Rp X.K H μ dx x ∧ outD X μ H (oSl dx lo hi eh) Q
theorem cut_whole {ds : List D} {lo hi : Option Int} (h : HT.sIx ds.length 0 lo = 0 ∧ HT.sIx ds.length ds.length hi = ds.length) : cutD ds lo hi = ds := by
  unfold cutD
  rw [h.1, h.2]
  simp
theorem sr_sl : SlR X (rSlD X) := by
  intro pins s σ H x v vl vu lo hi sl Q I rx hs pl pu ⟨μ, eh, dx, hr, r, o⟩
  cases r with
  | str z =>
    simp only [oSl] at o
    by_cases c : z.length ≤ sizeLine
    · rw [if_pos c] at o
      exact sl_str pins s σ H _ v vl vu lo hi sl Q I rx hs pl pu ⟨z, rfl, c, outD_val o hr (.str _)⟩
    · rw [if_neg c] at o; exact o.elim
  | @tup a ds xs h q =>
    have l := q.len
    refine sl_tupA pins s σ H _ v vl vu lo hi sl Q I rx hs pl pu ⟨a, xs, rfl, h, fun w => ?_, fun _ p hp => outD_tup o hr (q.cut lo hi) hp⟩
    rw [← l] at w
    simp only [oSl] at o
    rw [cut_whole w] at o
    exact outD_val o hr (.tup h q)
  | @rol a ds xs h q => exact sl_list pins s σ H _ v vl vu lo hi sl Q I rx hs pl pu ⟨a, xs, rfl, h.l, fun p hp => outD_lst o hr (q.cut lo hi) hp⟩
  | @ref n a ha hlst =>
    simp only [oSl] at o
    cases e1 : eh[n]? with
    | none => rw [e1] at o; exact o.elim
    | some o1 => cases o1 with
      | dct _ => rw [e1] at o; exact o.elim
      | dcl _ => rw [e1] at o; exact o.elim
      | lst ds =>
        rw [e1] at o
        obtain ⟨xs, h, q⟩ := hr.lst e1 ha
        exact sl_list pins s σ H _ v vl vu lo hi sl Q I rx hs pl pu ⟨a, xs, rfl, SqL.of h, fun p hp => outD_lst o hr (q.cut lo hi) hp⟩
  | _ => exact o.elim
def eSl (m : Sl → EH → R D) (ml mh : Sl → EH → R (Option Int)) : Sl → EH → R D := fun e h => (m e h).bind fun x h1 => (ml e h1).bind fun l h2 => (mh e h2).bind fun u h3 => match oSl x l u h3 with
  | some (d, h4) => .ok d h4
  | none => .bad
theorem se_slice {a : Expr} {lo hi : Option Expr} {m : Sl → EH → R D} {ml mh : Sl → EH → R (Option Int)} {p2 pos : Pos} (ha : SE X W a m) (hl : SO X W lo ml) (hh : SO X W hi mh) : SE X W (.Subscript a (.Slice lo hi none p2) pos) (eSl m ml mh) := by
  refine ⟨peI (pe_slice sr_sl ha.pe hl.po hh.po) fun σ H Q ⟨μ, e, eh, er, hr, p⟩ => ⟨μ, e, eh, er, hr, post_mono (post_bind (Rl := relD) backD p) ?_⟩⟩
  rintro x H1 ⟨μ1, eh1, d, x1, hr1, rx, p1⟩
  refine ⟨μ1, e, eh1, er.ext x1, hr1, post_mono (post_bind (Rl := relO) backD p1) ?_⟩
  rintro l H2 ⟨μ2, eh2, l', x2, hr2, rl, p2⟩
  cases rl
  refine ⟨μ2, e, eh2, (er.ext x1).ext x2, hr2, post_mono (post_bind (Rl := relO) backD p2) ?_⟩
  rintro u H3 ⟨μ3, eh3, u', x3, hr3, ru, p3⟩
  cases ru
  refine ⟨μ3, eh3, d, hr3, Rp.ext x3 (Rp.ext x2 rx), ?_⟩
  cases h : oSl d l u eh3 with
  | none => rw [h] at p3; exact p3
  | some r => obtain ⟨z, h4⟩ := r; rw [h] at p3; exact p3

/-! ### own defs -/
def spD (K : PySem.W.Frag) (mg : Str → Option Value) (m : List D → EH → R D) : Sp := fun vs H Q E =>
  ∃ μ eh ds, HeapR K H μ eh ∧ RpAll K H μ ds vs ∧ post relD K mg (fun c d H' => E c d H') μ H (m ds eh) Q
/-- what a def's block comes to -/
inductive RS where
  | nx (e : Sl) (h : EH)
  | rt (d : D) (h : EH)
  | bk (e : Sl) (h : EH)
  | ct (e : Sl) (h : EH)
  | exc (x : Ex) (e : Sl) (h : EH)
  | bad
def mFun (np n : Nat) (m : Sl → EH → RS) : List D → EH → R D := fun ds h => if ds.length = np then (match m (ds.map some ++ List.replicate (n - ds.length) none) h with
  | .nx _ h' => .ok .non h'
  | .rt d h' => .ok d h'
  | .exc x _ h' => .exc x h'
  | _ => .bad) else .bad
theorem mFun_len {np n : Nat} {m : Sl → EH → RS} {ds : List D} {h : EH} (c : ds.length ≠ np) : mFun np n m ds h = .bad := if_neg c
section
variable {α : Type}
def postS (K : PySem.W.Frag) (mg : Str → Option Value) (W : WX) (μ : List Addr) (H : Hp) (r : RS) (D : Ends) : Prop := match r with
  | .nx e eh' => ∀ μ' H' σ', Ext μ μ' H H' → HeapR K H' μ' eh' → EnvR K H' μ' e σ' → D.nx σ' H'
  | .rt d eh' => ∀ μ' H' v, Ext μ μ' H H' → HeapR K H' μ' eh' → Rp K H' μ' d v → D.rt v H'
  | .bk e eh' => ∀ μ' H' σ', Ext μ μ' H H' → HeapR K H' μ' eh' → EnvR K H' μ' e σ' → D.bk σ' H'
  | .ct e eh' => ∀ μ' H' σ', Ext μ μ' H H' → HeapR K H' μ' eh' → EnvR K H' μ' e σ' → D.ct σ' H'
  | .exc x e eh' => ∀ μ' H' σ' c dd, Ext μ μ' H H' → HeapR K H' μ' eh' → EnvR K H' μ' e σ' → ExR mg x c dd → W c dd σ' H'
  | .bad => False
theorem postS_ext {K : PySem.W.Frag} {mg : Str → Option Value} {W : WX} {μ μ1 : List Addr} {H H1 : Hp} {r : RS} {D : Ends} (h : postS K mg W μ H r D) (x : Ext μ μ1 H H1) : postS K mg W μ1 H1 r D := by
  cases r with
  | nx e eh => exact fun μ' H' σ' y hr er => h μ' H' σ' (x.trans y) hr er
  | rt d eh => exact fun μ' H' v y hr rd => h μ' H' v (x.trans y) hr rd
  | bk e eh => exact fun μ' H' σ' y hr er => h μ' H' σ' (x.trans y) hr er
  | ct e eh => exact fun μ' H' σ' y hr er => h μ' H' σ' (x.trans y) hr er
  | exc x' e eh => exact fun μ' H' σ' c dd y hr er re => h μ' H' σ' c dd (x.trans y) hr er re
  | bad => exact h
end
def tS (X : Cx) (W : WX) (m : Sl → EH → RS) : TS := fun D σ H => ∃ μ e eh, EnvR X.K H μ e σ ∧ HeapR X.K H μ eh ∧ postS X.K X.mg W μ H (m e eh) D
structure SS (X : Cx) (W : WX) (st : Stmt) (m : Sl → EH → RS) : Prop where
  ps : PS X st (tS X W m)
structure SSs (X : Cx) (W : WX) (st : List Stmt) (m : Sl → EH → RS) : Prop where
  pss : PSs X st (tS X W m)
/-- a def's wish -/
abbrev Wd (E : XK) : WX := fun c d _ H => E c d H
theorem fnD_len {K : PySem.W.Frag} {mg : Str → Option Value} {N ps : List Str} {m : Sl → EH → RS} {vs : List V} {H : Hp} {Q : VK} {E : XK} (z : spD K mg (mFun ps.length N.length m) vs H Q E) : vs.length = ps.length := by
  obtain ⟨μ, eh, ds, hr, ra, p⟩ := z
  · by_cases c : ds.length = ps.length
    · rw [← ra.len, c]
    · rw [mFun_len c] at p; exact p.elim
theorem fnD_go {P : Program} {w : World} {K : PySem.W.Frag} {mg : Str → Option Value} {base : Heap} {qual : Str} {body : List Stmt} {scope : Scope} {f : Addr} {N ps : List Str} {m : Sl → EH → RS} {cdv : Value} {A : Around} {outer : List Env} {s : Shared} {H : Hp} {vs : List V} {Q : VK} {E : XK} (hb : SSs (cxOf (L2N.CX P w) P w K mg base N qual scope f cdv A outer s H E) (Wd E) body m) (z : spD K mg (mFun ps.length N.length m) vs H Q E) :
    ∃ t, PSs (cxOf (L2N.CX P w) P w K mg base N qual scope f cdv A outer s H E) body t ∧ t { nx := fun _ H' => Q .non H', rt := Q } (L2.start N vs) H := by
  obtain ⟨μ, eh, ds, hr, ra, p⟩ := z
  refine ⟨_, hb.pss, μ, ds.map some ++ List.replicate (N.length - ds.length) none, eh, ?_, hr, ?_⟩
  · refine ⟨?_, fun i d h => ?_⟩
    · show _ = (L2.start N vs).length
      unfold L2.start
      simp [ra.len]
    · show ∃ v, (L2.start N vs)[i]? = some (some v) ∧ _
      unfold L2.start
      by_cases hi : i < ds.length
      · rw [List.getElem?_append_left (by simpa using hi)] at h
        rw [List.getElem?_append_left (by simpa using (by rw [← ra.len]; exact hi : i < vs.length))]
        rw [List.getElem?_map] at h
        cases e : ds[i]? with
        | none => rw [e] at h; cases h
        | some d' =>
          rw [e] at h
          have h' : d' = d := by injection (Option.some.inj h)
          subst h'
          obtain ⟨v, h1, h2⟩ := ra.get e
          exact ⟨v, by rw [List.getElem?_map, h1]; rfl, h2⟩
      · rw [List.getElem?_append_right (by simpa using Nat.le_of_not_lt hi)] at h
        have := List.mem_of_getElem? h
        rw [List.mem_replicate] at this
        cases this.2
  · by_cases c : ds.length = ps.length
    · unfold mFun at p
      rw [if_pos c] at p
      generalize m (ds.map some ++ List.replicate (N.length - ds.length) none) eh = r at p
      cases r with
      | nx e h' => exact fun μ' H' σ' x hr' _ => p μ' H' .non x hr' .non
      | rt d h' => exact p
      | bk e h' => exact p.elim
      | ct e h' => exact p.elim
      | exc x e h' => exact fun μ' H' σ' c dd x hr' _ re => p μ' H' c dd x hr' re
      | bad => exact p
    · rw [mFun_len c] at p; exact p.elim

theorem fnD {P : Program} {w : World} {K : PySem.W.Frag} {mg : Str → Option Value} {base : Heap} {x qual : Str} {params : Arguments} {body : List Stmt} {scope : Scope} {dvs : List V} {kws : List (Str × V)} {f : Addr} {fd : FuncData} {N ps : List Str} {k : Nat} {m : Sl → EH → RS}
    (F : FunD K x qual params body scope dvs kws f fd) (S : FnScope N ps scope)
    (hb : ∀ (cdv : Value) (A : Around) (outer : List Env) (s : Shared) (H : Hp) (E : XK), Room k (A.deeper (envOfC qual scope s.heap.objs.size f cdv)) → SSs (cxOf (L2N.CX P w) P w K mg base N qual scope f cdv A outer s H E) (Wd E) body m) :
    FnOk P w K mg base (L2N.CX P w) (k + 1) f fd ps (spD K mg (mFun ps.length N.length m)) := by
  exact F.ok S (fun vs H Q E z => fnD_len z) fun cdv A outer s H vs Q E hR z => fnD_go (hb cdv A outer s H E hR) z

/-- f(a, ..) -/
def eCall (m : List D → EH → R D) (ms : Sl → EH → R (List D)) : Sl → EH → R D := fun e h => (ms e h).bind m
def eCallD (m : List D → EH → R D) (dds : List D) (ms : Sl → EH → R (List D)) : Sl → EH → R D := fun e h => (ms e h).bind fun ds h1 => m (ds ++ dds) h1
section
variable {k : Nat} {f : Addr} {fd : FuncData} {ps : List Str} {m : List D → EH → R D} {x : Str} {p pos : Pos} {a : Expr} {es : List Expr} {ms : Sl → EH → R (List D)}
theorem se_callD {dvs : List V} {dds : List D} {ds : List Value} (F : FnOk X.prog X.w X.K X.mg X.base (L2N.CX X.prog X.w) k f fd ps (spD X.K X.mg m)) (tk : L2N.Takes X W) (hr : Room k X.A) (hm : X.mg x = some (.ref f)) (hk : PySem.W.keepIn X.K (.ref f) = true) (hb : Binds X.K fd ps ds) (hd : Vals dvs ds)
    (hdd : ∀ H μ, RpAll X.K H μ dds dvs) (ha : SA X W (a :: es) ms) (hg : Gl X x := by rfl) (hdb : (x == ("__debug__" : Str)) = false := by decide) (he : starEach (a :: es) X.env = (false, eval a X.env) :: starEach es X.env := by rfl) (hpl : (backTo pos (starEach es X.env)).any (·.1) = false := by rfl) :
    SE X W (.Call (.Name x p) (a :: es) [] pos) (eCallD m dds ms) := by
  refine ⟨peI (pe_callSD F hr hg hm hk hb hd (fun σ => L2N.passAt tk σ) ha.pa hdb he hpl) fun σ H Q ⟨μ, e, eh, er, hr, p⟩ => ⟨μ, e, eh, er, hr, post_mono (post_bind (Rl := relA) backD p) ?_⟩⟩
  rintro vs H1 ⟨μ1, eh1, us, x1, hr1, rx, p1⟩
  exact ⟨μ1, eh1, us ++ dds, hr1, RpAll.app rx (hdd _ _), p1⟩
theorem se_call (F : FnOk X.prog X.w X.K X.mg X.base (L2N.CX X.prog X.w) k f fd ps (spD X.K X.mg m)) (tk : L2N.Takes X W) (hr : Room k X.A) (hm : X.mg x = some (.ref f)) (hk : PySem.W.keepIn X.K (.ref f) = true) (hb : Binds X.K fd ps [])
    (ha : SA X W (a :: es) ms) (hg : Gl X x := by rfl) (hdb : (x == ("__debug__" : Str)) = false := by decide) (he : starEach (a :: es) X.env = (false, eval a X.env) :: starEach es X.env := by rfl) (hpl : (backTo pos (starEach es X.env)).any (·.1) = false := by rfl) :
    SE X W (.Call (.Name x p) (a :: es) [] pos) (eCall m ms) := by
  refine ⟨peI (pe_callSD F hr hg hm hk hb .nil (fun σ => L2N.passAt tk σ) ha.pa hdb he hpl) fun σ H Q ⟨μ, e, eh, er, hr, p⟩ => ⟨μ, e, eh, er, hr, post_mono (post_bind (Rl := relA) backD p) ?_⟩⟩
  rintro vs H1 ⟨μ1, eh1, us, x1, hr1, rx, p1⟩
  exact ⟨μ1, eh1, us, hr1, by rw [List.append_nil]; exact rx, p1⟩
end
/-! keywords -/
structure SK (X : Cx) (W : WX) (kws : List Keyword) (m : Sl → EH → R (List D)) : Prop where
  pk : PK X kws (tG relA X W m)
theorem pkI {e : List Keyword} {t t' : TA} (h : PK X e t) (hi : ∀ σ H Q, t' σ H Q → t σ H Q) : PK X e t' := ⟨fun pos pins s σ H Q I q => h.run pos pins s σ H Q I (hi _ _ _ q)⟩
theorem sk_nil : SK X W [] aNil := ⟨pkI pk_nil fun σ H Q ⟨μ, e, eh, er, hr, p⟩ => p μ H [] (Ext.refl _ _) hr .nil⟩
theorem sk_cons {nm : Option Str} {a : Expr} {kp : Pos} {kws : List Keyword} {m : Sl → EH → R D} {ms : Sl → EH → R (List D)} (ha : SE X W a m) (hs : SK X W kws ms) : SK X W (⟨nm, a, kp⟩ :: kws) (aCons m ms) := by
  refine ⟨pkI (pk_cons ha.pe hs.pk) fun σ H Q ⟨μ, e, eh, er, hr, p⟩ => ⟨μ, e, eh, er, hr, post_mono (post_bind (Rl := relD) backA p) ?_⟩⟩
  rintro x H1 ⟨μ1, eh1, dx, x1, hr1, rx, p1⟩
  refine ⟨μ1, e, eh1, er.ext x1, hr1, post_mono (post_bind (Rl := relA) backA p1) ?_⟩
  rintro y H2 ⟨μ2, eh2, dy, x2, hr2, ry, p2⟩
  exact p2 μ2 H2 (x :: y) (Ext.refl _ _) hr2 (.cons (Rp.ext x2 rx) ry)
/-- how a call with n positional values and the keywords ks binds -/
structure KB (K : PySem.W.Frag) (fd : FuncData) (ps : List Str) (n : Nat) (ks : List Str) (g : List Value → List Value → List Value) (gV : List V → List V → List V) (gD : List D → List D → List D) : Prop where
  to : ∀ (s : Shared) (us ws : List Value), K.In s.heap → us.length = n → ws.length = ks.length → BindsTo s fd ⟨us, ks.zip ws⟩ (ps.zip (g us ws))
  rel : ∀ {vs : List V} {us : List Value} {zs : List V} {ws : List Value}, vs.length = n → zs.length = ks.length → Vals vs us → Vals zs ws → Vals (gV vs zs) (g us ws) ∧ (gV vs zs).length = ps.length
  relD : ∀ {H : Hp} {μ : List Addr} {ds : List D} {vs : List V} {es : List D} {zs : List V}, ds.length = n → es.length = ks.length → RpAll K H μ ds vs → RpAll K H μ es zs → RpAll K H μ (gD ds es) (gV vs zs)
def eCallK (m : List D → EH → R D) (n nk : Nat) (g : List D → List D → List D) (ms mk : Sl → EH → R (List D)) : Sl → EH → R D := fun e h => (ms e h).bind fun ds h1 => (mk e h1).bind fun es h2 => if ds.length = n ∧ es.length = nk then m (g ds es) h2 else .bad
section
variable {k n : Nat} {f : Addr} {fd : FuncData} {ps ks : List Str} {m : List D → EH → R D} {x : Str} {p pos : Pos} {a : Expr} {es : List Expr} {kws : List Keyword} {ms mk : Sl → EH → R (List D)} {g : List Value → List Value → List Value} {gV : List V → List V → List V} {gD : List D → List D → List D}
theorem run_kD {pins : List (Addr × Obj)} {σ : St} {H : Hp} {s : Shared} {Q : VK} {us ws : List Value} {vs zs : List V} (F : FnOk X.prog X.w X.K X.mg X.base (L2N.CX X.prog X.w) k f fd ps (spD X.K X.mg m)) (tk : L2N.Takes X W) (hr : Room k X.A) (hb : KB X.K fd ps n ks g gV gD)
    (I : Inv X pins σ H s) (r : Vals vs us) (rz : Vals zs ws) (l1 : vs.length = n) (l2 : zs.length = ks.length) (h : spD X.K X.mg m (gV vs zs) H Q (WE W σ)) : wpAny (model X.prog X.w) X.A (call (.ref f) us (ks.zip ws)) (EP X pins σ Q) X.xe s := by
  obtain ⟨r2, l3⟩ := hb.rel l1 l2 r rz
  refine wpAny_call (codeAny_mono (F.run X.A X.stack s H ⟨us, ks.zip ws⟩ (g us ws) (gV vs zs) Q (WE W σ) hr I.env0 (hb.to s us ws I.kIn (r.length.symm.trans l1) (rz.length.symm.trans l2)) r2 h) fun r s' hq => ?_)
  cases r with
  | error e => exact L2N.passAt tk σ pins H s e s' I hq
  | ok fl =>
    cases fl with
    | ret u => exact I.after hq
    | _ => exact False.elim hq
def tKD (n nk : Nat) (sp : Sp) (gV : List V → List V → List V) (E : St → XK) (t tk : TA) : TE := fun σ H Q => t σ H fun vs H1 => tk σ H1 fun zs H2 => vs.length = n ∧ zs.length = nk ∧ sp (gV vs zs) H2 Q (E σ)
theorem tKD_of {sp : Sp} (hsp : sp = spD X.K X.mg m) (hb : KB X.K fd ps n ks g gV gD) (σ : St) (H : Hp) (Q : VK) (h : tG relD X W (eCallK m n ks.length gD ms mk) σ H Q) : tKD n ks.length sp gV (WE W) (tG relA X W ms) (tG relA X W mk) σ H Q := by
  subst hsp
  obtain ⟨μ, e, eh, er, hr, p⟩ := h
  refine ⟨μ, e, eh, er, hr, post_mono (post_bind (Rl := relA) backD p) ?_⟩
  rintro vs H1 ⟨μ1, eh1, ds, x1, hr1, rx, p1⟩
  refine ⟨μ1, e, eh1, er.ext x1, hr1, post_mono (post_bind (Rl := relA) backD p1) ?_⟩
  rintro zs H2 ⟨μ2, eh2, es, x2, hr2, rz, p2⟩
  by_cases c : ds.length = n ∧ es.length = ks.length
  · rw [if_pos c] at p2
    exact ⟨by rw [← RpAll.len rx]; exact c.1, by rw [← RpAll.len rz]; exact c.2, μ2, eh2, gD ds es, hr2, hb.relD c.1 c.2 (RpAll.ext x2 rx) rz, p2⟩
  · rw [if_neg c] at p2; exact p2.elim
theorem se_callK (F : FnOk X.prog X.w X.K X.mg X.base (L2N.CX X.prog X.w) k f fd ps (spD X.K X.mg m)) (tk : L2N.Takes X W) (hr : Room k X.A) (hm : X.mg x = some (.ref f)) (hk : PySem.W.keepIn X.K (.ref f) = true) (hb : KB X.K fd ps n ks g gV gD)
    (ha : SA X W (a :: es) ms) (hkw : SK X W kws mk) (hg : Gl X x := by rfl) (hall : (backToKw pos (keywordEach kws X.env)).all (·.1.isSome) = true := by rfl) (hks : (backToKw pos (keywordEach kws X.env)).filterMap (·.1) = ks := by rfl)
    (hdb : (x == ("__debug__" : Str)) = false := by decide) (he : starEach (a :: es) X.env = (false, eval a X.env) :: starEach es X.env := by rfl)
    (hpl : ((backTo pos (starEach (a :: es) X.env)).any (·.1) || (backToKw pos (keywordEach kws X.env)).any (·.1.isNone)) = false := by rfl) :
    SE X W (.Call (.Name x p) (a :: es) kws pos) (eCallK m n ks.length gD ms mk) := by
  refine ⟨⟨fun pins s σ H Q I h => ?_⟩⟩
  have h' := tKD_of rfl hb σ H Q h
  refine wpAny_Call_Name_kw (ld_glob I hg hm ?_ hdb)
  refine PySem.W.callWith_KW (h₀ := X.base) I.ok.mod.kin hk hall (thn (ha.pa.run pos pins s σ H _ I h') fun us s1 ⟨vs, H1, I1, r, q⟩ => ?_) hpl he
  refine thn (hkw.pk.run pos pins s1 σ H1 _ I1 q) fun ws s2 ⟨zs, H2, I2, rz, l1, l2, q2⟩ => ⟨I2.kIn, ?_⟩
  rw [hks]
  exact run_kD F tk hr hb I2 r rz l1 l2 q2
theorem se_callK0 (F : FnOk X.prog X.w X.K X.mg X.base (L2N.CX X.prog X.w) k f fd ps (spD X.K X.mg m)) (tk : L2N.Takes X W) (hr : Room k X.A) (hm : X.mg x = some (.ref f)) (hk : PySem.W.keepIn X.K (.ref f) = true) (hb : KB X.K fd ps 0 ks g gV gD)
    (hkw : SK X W kws mk) (hg : Gl X x := by rfl) (hall : (backToKw pos (keywordEach kws X.env)).all (·.1.isSome) = true := by rfl) (hks : (backToKw pos (keywordEach kws X.env)).filterMap (·.1) = ks := by rfl)
    (hdb : (x == ("__debug__" : Str)) = false := by decide)
    (hpl : ((backTo pos (starEach [] X.env)).any (·.1) || (backToKw pos (keywordEach kws X.env)).any (·.1.isNone)) = false := by rfl) :
    SE X W (.Call (.Name x p) [] kws pos) (eCallK m 0 ks.length gD aNil mk) := by
  refine ⟨⟨fun pins s σ H Q I h => ?_⟩⟩
  have h' := tKD_of rfl hb σ H Q h
  refine wpAny_Call_Name_kw (ld_glob I hg hm ?_ hdb)
  refine PySem.W.callWith_KW0 (h₀ := X.base) I.ok.mod.kin hk hall ?_ hpl
  obtain ⟨μ, e, eh, er, hR, p⟩ := h'
  have q := p μ H [] (Ext.refl _ _) hR .nil
  refine thn (hkw.pk.run pos pins s σ H _ I q) fun ws s2 ⟨zs, H2, I2, rz, l1, l2, q2⟩ => ⟨I2.kIn, ?_⟩
  rw [hks]
  exact run_kD F tk hr hb I2 .nil rz l1 l2 q2
end
end
end Sm
namespace Sm
open PySem PySem.Spec PyProof.Rows L2

/-! ### loops -/
inductive Lp (S ρ : Type) where
  | more (s : S)
  | done (r : ρ)
def runN {S ρ : Type} (step : S → Lp S ρ) : Nat → S → Option ρ
  | 0, _ => none
  | n + 1, s => match step s with
    | .done r => some r
    | .more s' => runN step n s'
open Classical in
noncomputable def loopW {S ρ : Type} (step : S → Lp S ρ) (s : S) : Option ρ :=
  if h : ∃ n r, runN step n s = some r then some (Classical.choose (Classical.choose_spec h)) else none
theorem runN_det {S ρ : Type} {step : S → Lp S ρ} : ∀ {n m : Nat} {s : S} {r r' : ρ}, runN step n s = some r → runN step m s = some r' → r = r'
  | 0, _, _, _, _, h, _ => by cases h
  | _ + 1, 0, _, _, _, _, h => by cases h
  | n + 1, m + 1, s, r, r', h1, h2 => by
    unfold runN at h1 h2
    cases e : step s with
    | done q =>
      rw [e] at h1 h2
      exact (Option.some.inj h1).symm.trans (Option.some.inj h2)
    | more s' =>
      rw [e] at h1 h2
      exact runN_det h1 h2
theorem loopW_of {S ρ : Type} {step : S → Lp S ρ} {s : S} {r : ρ} {n : Nat} (h : runN step n s = some r) : loopW step s = some r := by
  have hx : ∃ n r, runN step n s = some r := ⟨n, r, h⟩
  unfold loopW
  rw [dif_pos hx]
  exact congrArg some (runN_det (Classical.choose_spec (Classical.choose_spec hx)) h)
theorem loopW_run {S ρ : Type} {step : S → Lp S ρ} {s : S} {r : ρ} (h : loopW step s = some r) : ∃ n, runN step n s = some r := by
  unfold loopW at h
  split at h
  · rename_i hx
    have e := Option.some.inj h
    exact ⟨_, by rw [← e]; exact Classical.choose_spec (Classical.choose_spec hx)⟩
  · cases h
theorem loopW_done {S ρ : Type} {step : S → Lp S ρ} {s : S} {r : ρ} (h : step s = .done r) : loopW step s = some r := loopW_of (n := 1) (by unfold runN; rw [h])
theorem loopW_more {S ρ : Type} {step : S → Lp S ρ} {s s' : S} (h : step s = .more s') : loopW step s = loopW step s' := by
  cases e : loopW step s' with
  | some r =>
    obtain ⟨n, q⟩ := loopW_run e
    exact loopW_of (n := n + 1) (by unfold runN; rw [h]; exact q)
  | none =>
    cases e2 : loopW step s with
    | none => rfl
    | some r =>
      obtain ⟨n, q⟩ := loopW_run e2
      cases n with
      | zero => cases q
      | succ n =>
        unfold runN at q
        rw [h] at q
        rw [loopW_of q] at e
        cases e

section
variable {X : Cx} {W : WX}
/-! ### built-ins by name -/
def opA (o : Option (D × EH)) : R D := match o with
  | some (d, h) => .ok d h
  | none => .bad
def rA (X : Cx) (f : List D → EH → Option (D × EH)) : List V → Hp → VK → Prop := fun vs H Q => ∃ μ eh ds, HeapR X.K H μ eh ∧ RpAll X.K H μ ds vs ∧ outD X μ H (f ds eh) Q
theorem post_opA {o : Option (D × EH)} {mg : Str → Option Value} {W : Value → Option Addr → Hp → Prop} {μ : List Addr} {H : Hp} {Q : VK} (p : post relD X.K mg W μ H (opA o) Q) : outD X μ H o Q := by
  cases o with
  | none => exact p
  | some r => obtain ⟨d, h'⟩ := r; exact p
def eCB (f : List D → EH → Option (D × EH)) (ms : Sl → EH → R (List D)) : Sl → EH → R D := fun e h => (ms e h).bind fun ds h1 => opA (f ds h1)
section
variable {f : List D → EH → Option (D × EH)} {x : Str} {p pos : Pos} {a : Expr} {es : List Expr} {ms : Sl → EH → R (List D)} {id T : String}
theorem tCB_of (σ : St) (H : Hp) (Q : VK) (h : tG relD X W (eCB f ms) σ H Q) : tCB (rA X f) (tG relA X W ms) σ H Q := by
  obtain ⟨μ, e, eh, er, hr, p⟩ := h
  refine ⟨μ, e, eh, er, hr, post_mono (post_bind (Rl := relA) backD p) ?_⟩
  rintro vs H1 ⟨μ1, eh1, us, x1, hr1, rx, p1⟩
  exact ⟨μ1, eh1, us, hr1, rx, post_opA p1⟩
theorem se_callB (hc : CallR X (.builtin id) (rA X f)) (hm : X.mg x = none) (ha : SA X W (a :: es) ms) (hg : Gl X x := by rfl) (hv : bootBuiltins x = some (.builtin id) := by decide +kernel) (hn : x ≠ "__name__" := by decide) (hdb : (x == ("__debug__" : Str)) = false := by decide)
    (he : starEach (a :: es) X.env = (false, eval a X.env) :: starEach es X.env := by rfl) (hpl : (backTo pos (starEach es X.env)).any (·.1) = false := by rfl) : SE X W (.Call (.Name x p) (a :: es) [] pos) (eCB f ms) := ⟨peI (pe_callB hc hg hm hv ha.pa hn hdb he hpl) tCB_of⟩
theorem se_callTy (hc : CallR X (.type T) (rA X f)) (hm : X.mg x = none) (ha : SA X W (a :: es) ms) (hg : Gl X x := by rfl) (hv : bootBuiltins x = some (.type T) := by decide +kernel) (hn : x ≠ "__name__" := by decide) (hdb : (x == ("__debug__" : Str)) = false := by decide)
    (he : starEach (a :: es) X.env = (false, eval a X.env) :: starEach es X.env := by rfl) (hpl : (backTo pos (starEach es X.env)).any (·.1) = false := by rfl) : SE X W (.Call (.Name x p) (a :: es) [] pos) (eCB f ms) := ⟨peI (pe_callTy hc hg hm hv ha.pa hn hdb he hpl) tCB_of⟩
/-- a built-in class as a value -/
theorem se_ty {n : String} (hm : X.mg x = none) (hg : Gl X x := by rfl) (hv : bootBuiltins x = some (.type n) := by decide +kernel) (hn : x ≠ "__name__" := by decide) (hd : (x == ("__debug__" : Str)) = false := by decide) : SE X W (.Name x pos) (eC (.ty n)) :=
  se_c (v := .ty n) (pe_bltn hg hm hv rfl hn hd) fun _ _ => .ty n
end
def fLen : List D → EH → Option (D × EH)
  | [.tup xs], h => some (.int xs.length, h)
  | [.rol xs], h => some (.int xs.length, h)
  | [.ref n], h => match h[n]? with
    | some (.lst xs) => some (.int xs.length, h)
    | _ => none
  | [.str z], h => if z.length ≤ sizeLine then some (.int z.length, h) else none
  | _, _ => none
theorem cr_len : CallR X (.builtin "len") (rA X fLen) := by
  intro pins s σ H vs us Q I r ⟨μ, eh, ds, hr, ra, o⟩
  cases ra with
  | nil => exact o.elim
  | cons r1 r2 => cases r2 with
    | cons _ _ => cases r1 <;> exact o.elim
    | nil => cases r1 with
      | @tup a ds xs h q => exact call_len_seq pins s σ H _ us Q I r ⟨a, xs, rfl, .inr h, by rw [← q.len]; exact outD_val o hr (.int _)⟩
      | @rol a ds xs h q => exact call_len_seq pins s σ H _ us Q I r ⟨a, xs, rfl, .inl h.l, by rw [← q.len]; exact outD_val o hr (.int _)⟩
      | @ref n a ha hlst =>
        simp only [fLen] at o
        cases e1 : eh[n]? with
        | none => rw [e1] at o; exact o.elim
        | some o1 => cases o1 with
          | dct _ => rw [e1] at o; exact o.elim
          | dcl _ => rw [e1] at o; exact o.elim
          | lst ds =>
            rw [e1] at o
            obtain ⟨xs, h, q⟩ := hr.lst e1 ha
            exact call_len_seq pins s σ H _ us Q I r ⟨a, xs, rfl, .inl (SqL.of h), by rw [← q.len]; exact outD_val o hr (.int _)⟩
      | str z =>
        simp only [fLen] at o
        by_cases c : z.length ≤ sizeLine
        · rw [if_pos c] at o
          exact call_len_str pins s σ H _ us Q I r ⟨z, rfl, c, outD_val o hr (.int _)⟩
        · rw [if_neg c] at o; exact o.elim
      | _ => exact o.elim
def fI1 (g : Int → Int) : List D → EH → Option (D × EH)
  | [.int i], h => some (.int (g i), h)
  | _, _ => none
def fI2 (g : Int → Int → Int) : List D → EH → Option (D × EH)
  | [.int i, .int j], h => some (.int (g i j), h)
  | _, _ => none
def fAbs : List D → EH → Option (D × EH) := fI1 fun i => (i.natAbs : Int)
def fMax2 : List D → EH → Option (D × EH) := fI2 fun i j => max i j
def fMin2 : List D → EH → Option (D × EH) := fI2 fun i j => min i j
theorem cr_abs : CallR X (.builtin "abs") (rA X fAbs) := by
  intro pins s σ H vs us Q I r ⟨μ, eh, ds, hr, ra, o⟩
  cases ra with
  | nil => exact o.elim
  | cons r1 r2 => cases r2 with
    | cons _ _ => cases r1 <;> exact o.elim
    | nil => cases r1 with
      | int i =>
        refine call_abs pins s σ H _ us Q I r ⟨i, rfl, ?_⟩
        have e : (if i < 0 then -i else i) = (i.natAbs : Int) := by split <;> omega
        rw [e]
        exact outD_val o hr (.int _)
      | _ => exact o.elim
theorem cr_max2 (hc : X.calm = true) : CallR X (.builtin "max") (rA X fMax2) := by
  intro pins s σ H vs us Q I r ⟨μ, eh, ds, hr, ra, o⟩
  cases ra with
  | nil => exact o.elim
  | cons r1 r2 => cases r2 with
    | nil => cases r1 <;> exact o.elim
    | cons r2 r3 => cases r3 with
      | cons _ _ => cases r1 <;> cases r2 <;> exact o.elim
      | nil => cases r1 with
        | int i => cases r2 with
          | int j =>
            refine call_max2 hc pins s σ H _ us Q I r ⟨i, j, rfl, ?_⟩
            have e : (if j > i then j else i) = max i j := by split <;> omega
            rw [e]
            exact outD_val o hr (.int _)
          | _ => exact o.elim
        | _ => exact o.elim
theorem cr_min2 (hc : X.calm = true) : CallR X (.builtin "min") (rA X fMin2) := by
  intro pins s σ H vs us Q I r ⟨μ, eh, ds, hr, ra, o⟩
  cases ra with
  | nil => exact o.elim
  | cons r1 r2 => cases r2 with
    | nil => cases r1 <;> exact o.elim
    | cons r2 r3 => cases r3 with
      | cons _ _ => cases r1 <;> cases r2 <;> exact o.elim
      | nil => cases r1 with
        | int i => cases r2 with
          | int j =>
            refine call_min2 hc pins s σ H _ us Q I r ⟨i, j, rfl, ?_⟩
            have e : (if j < i then j else i) = min i j := by split <;> omega
            rw [e]
            exact outD_val o hr (.int _)
          | _ => exact o.elim
        | _ => exact o.elim
def fInt : List D → EH → Option (D × EH)
  | [.int i], h => some (.int i, h)
  | [.bl b], h => some (.int (if b then 1 else 0), h)
  | _, _ => none
theorem cr_int : CallR X (.type "int") (rA X fInt) := by
  intro pins s σ H vs us Q I r ⟨μ, eh, ds, hr, ra, o⟩
  cases ra with
  | nil => exact o.elim
  | cons r1 r2 => cases r2 with
    | cons _ _ => cases r1 <;> exact o.elim
    | nil => cases r1 with
      | int i => exact call_int1 pins s σ H _ us Q I r (.inl ⟨i, rfl, outD_val o hr (.int _)⟩)
      | bl b => exact call_int1 pins s σ H _ us Q I r (.inr ⟨b, rfl, outD_val o hr (.int _)⟩)
      | _ => exact o.elim
def tyN (h : EH) : D → Option String
  | .non => some "NoneType"
  | .bl _ => some "bool"
  | .int _ => some "int"
  | .str _ => some "str"
  | .tup _ => some "tuple"
  | .rol _ => some "list"
  | .ref n => match h[n]? with
    | some (.lst _) => some "list"
    | _ => none
  | .dic n => match h[n]? with
    | some (.dcl _) => some "dict"
    | _ => none
  | .ty _ => none
  | .exn _ _ => none
  | .cls _ => none
theorem tyX_of {H : Hp} {μ : List Addr} {eh : EH} {d : D} {v : V} {t : String} (hr : HeapR X.K H μ eh) (r : Rp X.K H μ d v) (h : tyN eh d = some t) : TyX X.K H v (.type t) := by
  cases r with
  | non => cases h; exact .base .non
  | bl b => cases h; exact .base (.bl b)
  | int b => cases h; exact .base (.int b)
  | str b => cases h; exact .base (.str b)
  | ty b => cases h
  | exn => cases h
  | cls => cases h
  | @tup a ds xs q _ =>
    cases h
    rcases q with (q | ⟨ob, q⟩) | ⟨ob, its, n, q, c, _⟩
    · exact .base (.tup q)
    · exact .fTuple q
    · exact .kTuple q c
  | @rol a ds xs q _ =>
    cases h
    rcases q with ⟨ob, q⟩ | ⟨ob, its, n, q, c, _⟩
    · exact .base (.frz q)
    · exact .kList q c
  | @ref n a ha hlst =>
    simp only [tyN] at h
    cases e1 : eh[n]? with
    | none => rw [e1] at h; cases h
    | some o1 => cases o1 with
      | dct _ => rw [e1] at h; cases h
      | dcl _ => rw [e1] at h; cases h
      | lst ds =>
        rw [e1] at h
        cases h
        obtain ⟨xs, hx, _⟩ := hr.lst e1 ha
        exact .base (.lst hx)
  | @dic n a ha =>
    simp only [tyN] at h
    cases e1 : eh[n]? with
    | none => rw [e1] at h; cases h
    | some o1 => cases o1 with
      | lst _ => rw [e1] at h; cases h
      | dct _ => rw [e1] at h; cases h
      | dcl kvs =>
        rw [e1] at h
        cases h
        obtain ⟨ps, hx, _⟩ := (show ObjR X.K H μ (.dcl kvs) a from hr.obj n _ a e1 ha)
        exact .base (.dK hx)
def fIsi : List D → EH → Option (D × EH)
  | [d, .ty n], h => match tyN h d with
    | some t => (kitB t n).map fun b => (.bl b, h)
    | none => none
  | _, _ => none
theorem cr_isi : CallR X (.builtin "isinstance") (rA X fIsi) := by
  intro pins s σ H vs us Q I r ⟨μ, eh, ds, hr, ra, o⟩
  cases ra with
  | nil => exact o.elim
  | @cons d ds' v vs' r1 r2 => cases r2 with
    | nil => exact o.elim
    | cons r2 r3 => cases r3 with
      | cons _ _ => cases r2 <;> exact o.elim
      | nil => cases r2 with
        | ty n =>
          simp only [fIsi] at o
          cases e : tyN eh d with
          | none => rw [e] at o; exact o.elim
          | some t =>
            rw [e] at o
            simp only at o
            cases e2 : kitB t n with
            | none => rw [e2] at o; exact o.elim
            | some b =>
              rw [e2] at o
              exact call_isi pins s σ H _ us Q I r ⟨v, .ty n, .type t, .type n, b, rfl, .ty n, tyX_of hr r1 e, kit_ty e2, outD_val o hr (.bl _)⟩
        | _ => exact o.elim
/-- list(x) -/
def itemsD (h : EH) : D → Option (List D)
  | .tup xs => some xs
  | .rol xs => some xs
  | .ref n => match h[n]? with
    | some (.lst xs) => some xs
    | _ => none
  | _ => none
theorem items_of {H : Hp} {μ : List Addr} {eh : EH} {d : D} {v : V} {ds : List D} (hr : HeapR X.K H μ eh) (r : Rp X.K H μ d v) (h : itemsD eh d = some ds) : ∃ a xs, v = .ref a ∧ (SqL X.K H a xs ∨ SqT X.K H a xs) ∧ RpAll X.K H μ ds xs := by
  cases r with
  | @tup a es xs q r => cases h; exact ⟨a, xs, rfl, .inr q, r⟩
  | @rol a es xs q r => cases h; exact ⟨a, xs, rfl, .inl q.l, r⟩
  | @ref n a ha hlst =>
    simp only [itemsD] at h
    cases e1 : eh[n]? with
    | none => rw [e1] at h; cases h
    | some o1 => cases o1 with
      | dct _ => rw [e1] at h; cases h
      | dcl _ => rw [e1] at h; cases h
      | lst ds =>
        rw [e1] at h
        cases h
        obtain ⟨xs, hx, q⟩ := hr.lst e1 ha
        exact ⟨a, xs, rfl, .inl (SqL.of hx), q⟩
  | _ => cases h
def asL (d : D) (h : EH) : R (List D) := match itemsD h d with
  | some xs => .ok xs h
  | none => .bad
def lList (m : Sl → EH → R D) : Sl → EH → R (List D) := fun e h => (m e h).bind asL
theorem sl_list {a : Expr} {m : Sl → EH → R D} {p pos : Pos} (hm : X.mg "list" = none) (ha : SE X W a m) (hg : Gl X "list" := by rfl) (he : starEach [a] X.env = (false, eval a X.env) :: starEach [] X.env := by rfl) : SL X W (.Call (.Name "list" p) [a] [] pos) (lList m) := by
  refine ⟨peI (pe_callTy call_list_of hg hm (by decide +kernel) (pa_cons ha.pe pa_nil he) (he := he)) fun σ H Q ⟨μ, e, eh, er, hr, p⟩ => ⟨μ, e, eh, er, hr, post_mono (post_bind (Rl := relD) backT p) ?_⟩⟩
  rintro x H1 ⟨μ1, eh1, d, x1, hr1, rx, p1⟩
  unfold asL at p1
  cases e : itemsD eh1 d with
  | none => rw [e] at p1; exact p1.elim
  | some ds =>
    rw [e] at p1
    obtain ⟨a, xs, rfl, q, r⟩ := items_of hr1 rx e
    exact ⟨a, xs, rfl, q, fun l hl => relT_new p1 hr1 r hl⟩
/-- all([..]), any([..]) of a list at hand -/
def blsD : List D → Option (List Bool) := allO fun d => match d with
  | .bl b => some b
  | _ => none
theorem bls_of {K : PySem.W.Frag} {H : Hp} {μ : List Addr} : ∀ {ds : List D} {vs : List V} {bs : List Bool}, blsD ds = some bs → RpAll K H μ ds vs → vs = bs.map V.bl
  | [], _, _, h, r => by
    cases r
    cases h
    rfl
  | d :: ds, _, bs, h, r => by
    cases r with
    | cons r1 r2 =>
      unfold blsD allO at h
      cases r1 with
      | bl b =>
        simp only at h
        cases e : allO (fun d : D => match d with | .bl b => some b | _ => none) ds with
        | none => rw [e] at h; cases h
        | some qs =>
          rw [e] at h
          cases h
          have ih := bls_of (ds := ds) (bs := qs) e r2
          rw [ih]
          rfl
      | _ => cases h
def eLB (f : List Bool → Bool) (m : Sl → EH → R (List D)) : Sl → EH → R D := fun e h => (m e h).bind fun ds h1 => match blsD ds with
  | some bs => .ok (.bl (f bs)) h1
  | none => .bad
theorem se_lb {f : List Bool → Bool} {id : String} {x : Str} {a : Expr} {m : Sl → EH → R (List D)} {p pos : Pos} (hc : CallR X (.builtin id) (fun vs H Q => ∃ (a : Addr) (bs : List Bool), vs = [V.ref a] ∧ SqL X.K H a (bs.map V.bl) ∧ Q (.bl (f bs)) H)) (hm : X.mg x = none) (ha : SL X W a m) (hg : Gl X x := by rfl)
    (hv : bootBuiltins x = some (.builtin id) := by decide +kernel) (hn : x ≠ "__name__" := by decide) (hdb : (x == ("__debug__" : Str)) = false := by decide) (he : starEach [a] X.env = (false, eval a X.env) :: starEach [] X.env := by rfl) : SE X W (.Call (.Name x p) [a] [] pos) (eLB f m) := by
  refine ⟨peI (pe_callB hc hg hm hv (pa_cons ha.pe pa_nil he) hn hdb (he := he)) fun σ H Q ⟨μ, e, eh, er, hr, p⟩ => ⟨μ, e, eh, er, hr, post_mono (post_bind (Rl := relT) backD p) ?_⟩⟩
  rintro x H1 ⟨μ1, eh1, ds, x1, hr1, ⟨a, vs, rfl, hx, _, _, r⟩, p1⟩
  cases e : blsD ds with
  | none => simp only [e] at p1; exact p1.elim
  | some bs =>
    simp only [e] at p1
    rw [bls_of e r] at hx
    exact ⟨a, bs, rfl, SqL.of hx, p1 μ1 H1 _ (Ext.refl _ _) hr1 (.bl _)⟩
/-- tuple([..]) of a list at hand -/
def eTupL (m : Sl → EH → R (List D)) : Sl → EH → R D := fun e h => (m e h).bind fun ds h1 => .ok (.tup ds) h1
theorem se_tupL {a : Expr} {m : Sl → EH → R (List D)} {p pos : Pos} (hm : X.mg "tuple" = none) (ha : SL X W a m) (hg : Gl X "tuple" := by rfl) (he : starEach [a] X.env = (false, eval a X.env) :: starEach [] X.env := by rfl) : SE X W (.Call (.Name "tuple" p) [a] [] pos) (eTupL m) := by
  refine ⟨peI (pe_callTy call_tuple_of hg hm (by decide +kernel) (pa_cons ha.pe pa_nil he) (he := he)) fun σ H Q ⟨μ, e, eh, er, hr, p⟩ => ⟨μ, e, eh, er, hr, post_mono (post_bind (Rl := relT) backD p) ?_⟩⟩
  rintro x H1 ⟨μ1, eh1, ds, x1, hr1, ⟨a, vs, rfl, hx, _, _, r⟩, p1⟩
  exact ⟨a, vs, rfl, .inl ⟨SqL.of hx, fun l hl => p1 μ1 _ _ (Ext.add hl hr1) (hr1.add hl) (.tup (SqT.of upd_same) (r.ext (Ext.add hl hr1)))⟩⟩
/-- len([..]) of a list at hand -/
def eLenL (m : Sl → EH → R (List D)) : Sl → EH → R D := fun e h => (m e h).bind fun ds h1 => .ok (.int ds.length) h1
theorem se_lenL {a : Expr} {m : Sl → EH → R (List D)} {p pos : Pos} (hm : X.mg "len" = none) (ha : SL X W a m) (hg : Gl X "len" := by rfl) (he : starEach [a] X.env = (false, eval a X.env) :: starEach [] X.env := by rfl) : SE X W (.Call (.Name "len" p) [a] [] pos) (eLenL m) := by
  refine ⟨peI (pe_callB call_len_seq hg hm PySem.boot_len (pa_cons ha.pe pa_nil he) (he := he)) fun σ H Q ⟨μ, e, eh, er, hr, p⟩ => ⟨μ, e, eh, er, hr, post_mono (post_bind (Rl := relT) backD p) ?_⟩⟩
  rintro x H1 ⟨μ1, eh1, ds, x1, hr1, ⟨a, vs, rfl, hx, _, _, r⟩, p1⟩
  exact ⟨a, vs, rfl, .inl (SqL.of hx), by rw [← r.len]; exact p1 μ1 H1 _ (Ext.refl _ _) hr1 (.int _)⟩

/-! ### methods -/
def rM (X : Cx) (f : D → List D → EH → Option (D × EH)) : V → List V → Hp → VK → Prop := fun x xs H Q => ∃ μ eh dx ds, HeapR X.K H μ eh ∧ Rp X.K H μ dx x ∧ RpAll X.K H μ ds xs ∧ outD X μ H (f dx ds eh) Q
def eMt (T : String) (f : D → List D → EH → Option (D × EH)) (mo : Sl → EH → R D) (ms : Sl → EH → R (List D)) : Sl → EH → R D := fun e h => (mo e h).bind fun o h1 => if tyN h1 o = some T then (ms e h1).bind fun ds h2 => opA (f o ds h2) else .bad
/-- the types whose methods are called here -/
def mtT (T : String) : Prop := T = "list" ∨ T = "str"
theorem tyV_of {H : Hp} {μ : List Addr} {eh : EH} {d : D} {v : V} {T : String} (hT : mtT T) (hr : HeapR X.K H μ eh) (r : Rp X.K H μ d v) (h : tyN eh d = some T) : tyV X.K T v H := by
  rcases hT with rfl | rfl
  · cases r with
    | @rol a ds xs q _ => exact .inl ⟨rfl, xs, q.l⟩
    | @ref n a ha hlst =>
      simp only [tyN] at h
      cases e1 : eh[n]? with
      | none => rw [e1] at h; cases h
      | some o1 => cases o1 with
        | dct _ => rw [e1] at h; cases h
        | dcl _ => rw [e1] at h; cases h
        | lst ds =>
          obtain ⟨xs, hx, _⟩ := hr.lst e1 ha
          exact .inl ⟨rfl, xs, SqL.of hx⟩
    | @dic n a ha =>
      simp only [tyN] at h
      cases e1 : eh[n]? with
      | none => rw [e1] at h; cases h
      | some o1 => cases o1 with
        | lst _ => rw [e1] at h; cases h
        | dct _ => rw [e1] at h; cases h
        | dcl kvs => rw [e1] at h; exact absurd (Option.some.inj h) (by decide)
    | ty _ => cases h
    | exn => cases h
    | cls => cases h
    | _ => exact absurd (Option.some.inj h) (by decide)
  · cases r with
    | str z => rfl
    | @ref n a ha hlst =>
      simp only [tyN] at h
      cases e1 : eh[n]? with
      | none => rw [e1] at h; cases h
      | some o1 => cases o1 with
        | dct _ => rw [e1] at h; cases h
        | dcl _ => rw [e1] at h; cases h
        | lst ds => rw [e1] at h; exact absurd (Option.some.inj h) (by decide)
    | @dic n a ha =>
      simp only [tyN] at h
      cases e1 : eh[n]? with
      | none => rw [e1] at h; cases h
      | some o1 => cases o1 with
        | lst _ => rw [e1] at h; cases h
        | dct _ => rw [e1] at h; cases h
        | dcl kvs => rw [e1] at h; exact absurd (Option.some.inj h) (by decide)
    | ty _ => cases h
    | exn => cases h
    | cls => cases h
    | _ => exact absurd (Option.some.inj h) (by decide)
section
variable {f : D → List D → EH → Option (D × EH)} {name : Str} {apos cpos : Pos} {o a : Expr} {es : List Expr} {mo : Sl → EH → R D} {ms : Sl → EH → R (List D)} {id T : String}
theorem se_mt (hT : mtT T) (pa : PlainAttrs T) (slot : Slot T name id) (hty : typeOf (.builtin id) = pure (.type "method_descriptor")) (hm : MtR X id (rM X f)) (ho : SE X W o mo) (ha : SA X W (a :: es) ms)
    (hbase : attributeBase o name X.env (eval o X.env) = eval o X.env := by rfl)
    (hfew : ((backTo cpos (starEach (a :: es) X.env)).all (fun x => !x.1) && (backToKw cpos (keywordEach [] X.env)).all (fun x => x.1.isSome) && decide ((a :: es).length + ([] : List Keyword).length + (if ([] : List Keyword).isEmpty then 0 else 1) < 30)) = true := by rfl)
    (hline : (apos.endLine == cpos.line) = true := by rfl) (hs : starEach (a :: es) X.env = (false, eval a X.env) :: starEach es X.env := by rfl) (hplain : (backTo cpos (starEach es X.env)).any (·.1) = false := by rfl) :
    SE X W (.Call (.Attribute o name apos) (a :: es) [] cpos) (eMt T f mo ms) := by
  refine ⟨peI (pe_bm pa slot hty hm ho.pe ha.pa hbase hfew hline hs hplain) fun σ H Q ⟨μ, e, eh, er, hr, p⟩ => ⟨μ, e, eh, er, hr, post_mono (post_bind (Rl := relD) backD p) ?_⟩⟩
  rintro x H1 ⟨μ1, eh1, d, x1, hr1, rx, p1⟩
  by_cases c : tyN eh1 d = some T
  · rw [if_pos c] at p1
    refine ⟨tyV_of hT hr1 rx c, μ1, e, eh1, er.ext x1, hr1, post_mono (post_bind (Rl := relA) backD p1) ?_⟩
    rintro vs H2 ⟨μ2, eh2, ds, x2, hr2, rv, p2⟩
    exact ⟨μ2, eh2, d, ds, hr2, Rp.ext x2 rx, rv, post_opA p2⟩
  · rw [if_neg c] at p1; exact p1.elim
theorem se_mt0 (hT : mtT T) (pa : PlainAttrs T) (slot : Slot T name id) (hty : typeOf (.builtin id) = pure (.type "method_descriptor")) (hm : MtR X id (rM X f)) (ho : SE X W o mo)
    (hbase : attributeBase o name X.env (eval o X.env) = eval o X.env := by rfl) (hline : (apos.endLine == cpos.line) = true := by rfl) :
    SE X W (.Call (.Attribute o name apos) [] [] cpos) (eMt T f mo aNil) := by
  refine ⟨peI (pe_bm0 pa slot hty hm ho.pe hbase hline) fun σ H Q ⟨μ, e, eh, er, hr, p⟩ => ⟨μ, e, eh, er, hr, post_mono (post_bind (Rl := relD) backD p) ?_⟩⟩
  rintro x H1 ⟨μ1, eh1, d, x1, hr1, rx, p1⟩
  by_cases c : tyN eh1 d = some T
  · rw [if_pos c] at p1
    exact ⟨tyV_of hT hr1 rx c, μ1, eh1, d, [], hr1, rx, .nil, post_opA p1⟩
  · rw [if_neg c] at p1; exact p1.elim
end
/-- a list is changed in its place -/
theorem outD_put {μ : List Addr} {H : Hp} {n : Nat} {a : Addr} {d : D} {v : V} {ds es : List D} {xs : List V} {eh : EH} {Q : VK} (o : outD X μ H (some (d, eh.set n (.lst es))) Q) (hr : HeapR X.K H μ eh) (h : eh[n]? = some (.lst ds)) (ha : μ[n]? = some a) (q : RpAll X.K H μ es xs) (r : Rp X.K H μ d v) :
    Q v (upd H a (.lst xs)) := o μ _ v (Ext.put (List.mem_of_getElem? ha) hr) (hr.put (List.getElem?_eq_some_iff.mp h).1 ha q) (r.ext (Ext.put (List.mem_of_getElem? ha) hr))
def fAppend : D → List D → EH → Option (D × EH)
  | .ref n, [d], h => match h[n]? with
    | some (.lst xs) => if xs.length < sizeLine then some (.non, h.set n (.lst (xs ++ [d]))) else none
    | _ => none
  | _, _, _ => none
theorem mr_append : MtR X "list.append" (rM X fAppend) := by
  intro pins s σ H x vs v us Q I rx rv ⟨μ, eh, dx, ds, hr, r1, r2, o⟩
  cases r1 with
  | @ref n a ha hlst => cases r2 with
    | nil => exact o.elim
    | cons r3 r4 => cases r4 with
      | cons _ _ => exact o.elim
      | nil =>
        simp only [fAppend] at o
        cases e1 : eh[n]? with
        | none => rw [e1] at o; exact o.elim
        | some o1 => cases o1 with
          | dct _ => rw [e1] at o; exact o.elim
          | dcl _ => rw [e1] at o; exact o.elim
          | lst ds =>
            rw [e1] at o
            simp only at o
            obtain ⟨xs, hx, q⟩ := hr.lst e1 ha
            have l := q.len
            by_cases c : ds.length < sizeLine
            · rw [if_pos c] at o
              exact mt_append pins s σ H _ _ v us Q I rx rv ⟨a, xs, _, rfl, rfl, hx, by omega, outD_put o hr e1 ha (q.app (.one r3)) .non⟩
            · rw [if_neg c] at o; exact o.elim
  | _ => exact o.elim
def fInsert : D → List D → EH → Option (D × EH)
  | .ref n, [.int i, d], h => match h[n]? with
    | some (.lst xs) => if xs.length < sizeLine ∧ 0 ≤ i ∧ i < 2 ^ 63 then some (.non, h.set n (.lst (xs.take i.toNat ++ [d] ++ xs.drop i.toNat))) else none
    | _ => none
  | _, _, _ => none
theorem mr_insert : MtR X "list.insert" (rM X fInsert) := by
  intro pins s σ H x vs v us Q I rx rv ⟨μ, eh, dx, ds, hr, r1, r2, o⟩
  cases r1 with
  | @ref n a ha hlst => cases r2 with
    | nil => exact o.elim
    | cons r3 r4 => cases r4 with
      | nil => cases r3 <;> exact o.elim
      | cons r4 r5 => cases r5 with
        | cons _ _ => cases r3 <;> exact o.elim
        | nil => cases r3 with
          | int i =>
            simp only [fInsert] at o
            cases e1 : eh[n]? with
            | none => rw [e1] at o; exact o.elim
            | some o1 => cases o1 with
              | dct _ => rw [e1] at o; exact o.elim
              | dcl _ => rw [e1] at o; exact o.elim
              | lst ds =>
                rw [e1] at o
                simp only at o
                obtain ⟨xs, hx, q⟩ := hr.lst e1 ha
                have l := q.len
                by_cases c : ds.length < sizeLine ∧ 0 ≤ i ∧ i < 2 ^ 63
                · rw [if_pos c] at o
                  exact mt_insert pins s σ H _ _ v us Q I rx rv ⟨a, xs, i, _, rfl, rfl, hx, by omega, c.2.1, c.2.2, outD_put o hr e1 ha (((q.take _).app (.one r4)).app (q.drop _)) .non⟩
                · rw [if_neg c] at o; exact o.elim
          | _ => exact o.elim
  | _ => exact o.elim
def fPop : D → List D → EH → Option (D × EH)
  | .ref n, [], h => match h[n]? with
    | some (.lst xs) => match xs[xs.length - 1]? with
      | some d => some (d, h.set n (.lst xs.dropLast))
      | none => none
    | _ => none
  | _, _, _ => none
theorem RpAll.dropLast {K : PySem.W.Frag} {H : Hp} {μ : List Addr} {ds : List D} {vs : List V} (r : RpAll K H μ ds vs) : RpAll K H μ ds.dropLast vs.dropLast := by
  rw [List.dropLast_eq_take, List.dropLast_eq_take, r.len]
  exact r.take _
theorem mr_pop : MtR X "list.pop" (rM X fPop) := by
  intro pins s σ H x vs v us Q I rx rv ⟨μ, eh, dx, ds, hr, r1, r2, o⟩
  cases r1 with
  | @ref n a ha hlst => cases r2 with
    | cons _ _ => exact o.elim
    | nil =>
        simp only [fPop] at o
        cases e1 : eh[n]? with
        | none => rw [e1] at o; exact o.elim
        | some o1 => cases o1 with
          | dct _ => rw [e1] at o; exact o.elim
          | dcl _ => rw [e1] at o; exact o.elim
          | lst ds =>
            rw [e1] at o
            simp only at o
            obtain ⟨xs, hx, q⟩ := hr.lst e1 ha
            cases e2 : ds[ds.length - 1]? with
            | none => rw [e2] at o; exact o.elim
            | some d =>
              rw [e2] at o
              obtain ⟨y, hy, ry⟩ := q.get e2
              exact mt_pop pins s σ H _ _ v us Q I rx rv ⟨a, xs, y, rfl, rfl, hx, by rw [← q.len]; exact hy, outD_put o hr e1 ha q.dropLast ry⟩
  | _ => exact o.elim
end
end Sm
namespace Sm
open PySem PySem.Spec PyProof.Rows L2
section
variable {X : Cx} {W : WX}
/-! ### statements -/
def liftS {α : Type} (r : R α) (e : Sl) (k : α → EH → RS) : RS := match r with
  | .ok a h => k a h
  | .exc x h => .exc x e h
  | .bad => .bad
@[simp] theorem liftS_ok {α : Type} (a : α) (h : EH) (e : Sl) (k : α → EH → RS) : liftS (.ok a h) e k = k a h := rfl
@[simp] theorem liftS_exc {α : Type} (x : Ex) (h : EH) (e : Sl) (k : α → EH → RS) : liftS (.exc x h : R α) e k = .exc x e h := rfl
@[simp] theorem liftS_bad {α : Type} (e : Sl) (k : α → EH → RS) : liftS (.bad : R α) e k = .bad := rfl
/-- the reading of an expression within a statement -/
theorem postS_lift {α β : Type} {Rl : Rel α β} {K : PySem.W.Frag} {mg : Str → Option Value} {μ : List Addr} {H : Hp} {σ : St} {r : R α} {e : Sl} {k : α → EH → RS} {D : Ends} (er : EnvR K H μ e σ) (h : postS K mg W μ H (liftS r e k) D) :
    post Rl K mg (fun c d H' => W c d σ H') μ H r (fun b H1 => ∃ μ1 eh1 a, Ext μ μ1 H H1 ∧ HeapR K H1 μ1 eh1 ∧ Rl K H H1 μ1 a b ∧ postS K mg W μ1 H1 (k a eh1) D) := by
  cases r with
  | ok a eh => exact fun μ' H' b x hr ra => ⟨μ', eh, a, x, hr, ra, postS_ext h x⟩
  | exc x eh => exact fun μ' H' c dd y hr re => h μ' H' σ c dd y hr (er.ext y) re
  | bad => exact h
theorem pssI {e : List Stmt} {t t' : TS} (h : PSs X e t) (hi : ∀ D σ H, t' D σ H → t D σ H) : PSs X e t' := ⟨fun pins s σ H D I q => h.run pins s σ H D I (hi _ _ _ q)⟩
def sNil : Sl → EH → RS := fun e h => .nx e h
def sSeq (a b : Sl → EH → RS) : Sl → EH → RS := fun e h => match a e h with
  | .nx e' h' => b e' h'
  | r => r
theorem ss_nil : SSs X W [] sNil := ⟨pssI pss_nil fun D σ H ⟨μ, e, eh, er, hr, p⟩ => p μ H σ (Ext.refl _ _) hr er⟩
theorem ss_one {st : Stmt} {m : Sl → EH → RS} (h : SS X W st m) : SSs X W [st] m := ⟨pss_one h.ps⟩
theorem ss_cons {st : Stmt} {rest : List Stmt} {a b : Sl → EH → RS} (ha : SS X W st a) (hb : SSs X W rest b) : SSs X W (st :: rest) (sSeq a b) := by
  refine ⟨pssI (pss_cons ha.ps hb.pss) fun D σ H ⟨μ, e, eh, er, hr, p⟩ => ⟨μ, e, eh, er, hr, ?_⟩⟩
  unfold sSeq at p
  cases q : a e eh with
  | nx e' h' =>
    rw [q] at p
    exact fun μ' H' σ' x hr' er' => ⟨μ', e', h', er', hr', postS_ext p x⟩
  | rt d h' => rw [q] at p; exact p
  | bk e' h' => rw [q] at p; exact p
  | ct e' h' => rw [q] at p; exact p
  | exc x e' h' => rw [q] at p; exact p
  | bad => rw [q] at p; exact p
def sPass : Sl → EH → RS := fun e h => .nx e h
def sBreak : Sl → EH → RS := fun e h => .bk e h
def sCont : Sl → EH → RS := fun e h => .ct e h
theorem ss_pass {pos} : SS X W (.Pass pos) sPass := ⟨psI ps_pass fun D σ H ⟨μ, e, eh, er, hr, p⟩ => p μ H σ (Ext.refl _ _) hr er⟩
theorem ss_break {pos} : SS X W (.Break pos) sBreak := ⟨psI ps_break fun D σ H ⟨μ, e, eh, er, hr, p⟩ => p μ H σ (Ext.refl _ _) hr er⟩
theorem ss_continue {pos} : SS X W (.Continue pos) sCont := ⟨psI ps_continue fun D σ H ⟨μ, e, eh, er, hr, p⟩ => p μ H σ (Ext.refl _ _) hr er⟩
/-- code that is never come to -/
def sBad : Sl → EH → RS := fun _ _ => .bad
theorem ss_bad {st : Stmt} : SS X W st sBad := ⟨psI ps_never fun D σ H ⟨μ, e, eh, er, hr, p⟩ => p.elim⟩
def sExpr (m : Sl → EH → R D) : Sl → EH → RS := fun e h => liftS (m e h) e fun _ h1 => .nx e h1
theorem ss_expr {a : Expr} {m : Sl → EH → R D} {pos : Pos} (ha : SE X W a m) (hs : swapsWith a none pos.line X.env = pure false := by rfl) : SS X W (.Expr a pos) (sExpr m) := by
  refine ⟨psI (ps_expr ha.pe hs) fun D σ H ⟨μ, e, eh, er, hr, p⟩ => ⟨μ, e, eh, er, hr, post_mono (postS_lift (Rl := relD) er p) ?_⟩⟩
  rintro v H1 ⟨μ1, eh1, d, x1, hr1, rx, p1⟩
  exact p1 μ1 H1 σ (Ext.refl _ _) hr1 (er.ext x1)
def sRet (m : Sl → EH → R D) : Sl → EH → RS := fun e h => liftS (m e h) e fun d h1 => .rt d h1
theorem ss_ret {a : Expr} {m : Sl → EH → R D} {pos : Pos} (ha : SE X W a m) : SS X W (.Return (some a) pos) (sRet m) := by
  refine ⟨psI (ps_ret ha.pe) fun D σ H ⟨μ, e, eh, er, hr, p⟩ => ⟨μ, e, eh, er, hr, post_mono (postS_lift (Rl := relD) er p) ?_⟩⟩
  rintro v H1 ⟨μ1, eh1, d, x1, hr1, rx, p1⟩
  exact p1 μ1 H1 v (Ext.refl _ _) hr1 rx
def sRetN : Sl → EH → RS := fun _ h => .rt .non h
theorem ss_retN {pos : Pos} : SS X W (.Return none pos) sRetN := ⟨psI ps_retN fun D σ H ⟨μ, e, eh, er, hr, p⟩ => p μ H .non (Ext.refl _ _) hr .non⟩
def sIf (c : Sl → EH → R Bool) (a b : Sl → EH → RS) : Sl → EH → RS := fun e h => liftS (c e h) e fun t h1 => if t = true then a e h1 else b e h1
theorem ss_if {c : Expr} {a b : List Stmt} {mc : Sl → EH → R Bool} {ma mb : Sl → EH → RS} {pos : Pos} (hc : SB X W c mc) (ha : SSs X W a ma) (hb : SSs X W b mb) : SS X W (.If c a b pos) (sIf mc ma mb) := by
  refine ⟨psI (ps_if hc.pt ha.pss hb.pss) fun D σ H ⟨μ, e, eh, er, hr, p⟩ => ⟨μ, e, eh, er, hr, post_mono (postS_lift (Rl := relB) er p) ?_⟩⟩
  rintro v H1 ⟨μ1, eh1, d, x1, hr1, rx, p1⟩
  cases rx
  cases v with
  | true => exact iteT ⟨μ1, e, eh1, er.ext x1, hr1, p1⟩
  | false => exact iteF ⟨μ1, e, eh1, er.ext x1, hr1, p1⟩

/-! ### targets -/
def relG (vs : List Nat) (σ0 : St) : Rel Sl St := fun K _ H μ e σ => EnvR K H μ e σ ∧ σ.length = σ0.length ∧ ∀ j, j ∉ vs → σ[j]? = σ0[j]?
def tGt (X : Cx) (W : WX) (vs : List Nat) (g : D → Sl → EH → R Sl) : TG := fun v σ H Q => ∃ μ e eh d, EnvR X.K H μ e σ ∧ HeapR X.K H μ eh ∧ Rp X.K H μ d v ∧ post (relG vs σ) X.K X.mg (fun c dd H' => W c dd σ H') μ H (g d e eh) Q
structure SG (X : Cx) (W : WX) (tg : Expr) (vs : List Nat) (g : D → Sl → EH → R Sl) : Prop where
  pg : PG X tg (tGt X W vs g)
theorem pgI {e : Expr} {t t' : TG} (h : PG X e t) (hi : ∀ v σ H Q, t' v σ H Q → t v σ H Q) : PG X e t' := ⟨fun pins s σ H v u Q I r q => h.run pins s σ H v u Q I r (hi _ _ _ _ q)⟩
theorem pgsI {e : List Expr} {t t' : TGs} (h : PGs X e t) (hi : ∀ v σ H Q, t' v σ H Q → t v σ H Q) : PGs X e t' := ⟨fun pins s σ H v u Q I r q => h.run pins s σ H v u Q I r (hi _ _ _ _ q)⟩
def gVar (i : Nat) : D → Sl → EH → R Sl := fun d e h => .ok (e.set i (some d)) h
theorem sg_name (i : Nat) {x : Str} {pos : Pos} (hN : X.N.Nodup) (hi : X.N[i]? = some x := by rfl) (hx : Loc X.env.scope x := by first | exact Or.inl rfl | exact Or.inr rfl) (hf : X.fn x = true ∨ X.env.scope.names.lookup x = some .local := by first | exact .inl rfl | exact .inr rfl) : SG X W (.Name x pos) [i] (gVar i) :=
  ⟨pgI (pg_name hN hi hx hf) fun v σ H Q ⟨μ, e, eh, d, er, hr, rd, p⟩ => p μ H _ (Ext.refl _ _) hr ⟨er.set i rd, by simp, fun j hj => List.getElem?_set_ne (fun q => hj (by simp [q]))⟩⟩
/-- several targets -/
def tGts (X : Cx) (W : WX) (vs : List Nat) (g : List D → Sl → EH → R Sl) : TGs := fun xs σ H Q => ∃ μ e eh ds, EnvR X.K H μ e σ ∧ HeapR X.K H μ eh ∧ RpAll X.K H μ ds xs ∧ post (relG vs σ) X.K X.mg (fun c dd H' => W c dd σ H') μ H (g ds e eh) Q
structure SGs (X : Cx) (W : WX) (tg : List Expr) (vs : List Nat) (g : List D → Sl → EH → R Sl) : Prop where
  pgs : PGs X tg (tGts X W vs g)
def gNil : List D → Sl → EH → R Sl := fun ds e h => match ds with
  | [] => .ok e h
  | _ => .bad
/-- the targets store; an exception within is not carried -/
def gCons (g : D → Sl → EH → R Sl) (gs : List D → Sl → EH → R Sl) : List D → Sl → EH → R Sl := fun ds e h => match ds with
  | d :: ds => match g d e h with
    | .ok e1 h1 => (match gs ds e1 h1 with
      | .ok e2 h2 => .ok e2 h2
      | _ => .bad)
    | _ => .bad
  | [] => .bad
theorem sgs_nil : SGs X W [] [] gNil := ⟨pgsI pgs_nil fun v σ H Q ⟨μ, e, eh, ds, er, hr, rd, p⟩ => by
  cases rd with
  | nil => exact ⟨rfl, p μ H σ (Ext.refl _ _) hr ⟨er, rfl, fun _ _ => rfl⟩⟩
  | cons _ _ => exact p.elim⟩
theorem sgs_cons {a : Expr} {es : List Expr} {vs ws : List Nat} {g : D → Sl → EH → R Sl} {gs : List D → Sl → EH → R Sl} (ha : SG X W a vs g) (hs : SGs X W es ws gs)
    (h : (assignEach (a :: es) X.env).map (·.2) = assign a X.env :: (assignEach es X.env).map (·.2) := by rfl) : SGs X W (a :: es) (vs ++ ws) (gCons g gs) := by
  refine ⟨pgsI (pgs_cons ha.pg hs.pgs h) fun v σ H Q ⟨μ, e, eh, ds, er, hr, rd, p⟩ => ?_⟩
  cases rd with
  | nil => exact p.elim
  | @cons d ds' v' vr r1 r2 =>
    refine ⟨v', vr, rfl, μ, e, eh, d, er, hr, r1, ?_⟩
    unfold gCons at p
    simp only at p
    cases q : g d e eh with
    | bad => rw [q] at p; exact p.elim
    | exc x h1 => rw [q] at p; exact p.elim
    | ok e1 h1 =>
      rw [q] at p
      simp only at p
      rintro μ1 H1 σ1 x1 hr1 ⟨er1, l1, k1⟩
      refine ⟨μ1, e1, h1, ds', er1, hr1, r2.ext x1, ?_⟩
      cases q2 : gs ds' e1 h1 with
      | bad => rw [q2] at p; exact p.elim
      | exc x h1 => rw [q2] at p; exact p.elim
      | ok e2 h2 =>
        rw [q2] at p
        rintro μ2 H2 σ2 x2 hr2 ⟨er2, l2, k2⟩
        exact p μ2 H2 σ2 (x1.trans x2) hr2 ⟨er2, l2.trans l1, fun j hj => (k2 j fun z => hj (List.mem_append_right _ z)).trans (k1 j fun z => hj (List.mem_append_left _ z))⟩
def gTupD (n : Nat) (gs : List D → Sl → EH → R Sl) : D → Sl → EH → R Sl := fun d e h => match d with
  | .tup ds => if ds.length = n then gs ds e h else .bad
  | _ => .bad
theorem sg_tup {es : List Expr} {k : Nat} {n : Nat} {vs : List Nat} {gs : List D → Sl → EH → R Sl} {pos : Pos} (hc : X.calm = true) (hs : SGs X W es vs gs) (hn : (assignEach es X.env).length = n := by rfl) (hst : (assignEach es X.env).findIdx? (·.1) = none := by rfl) :
    SG X W (.Tuple es k pos) vs (gTupD n gs) := by
  refine ⟨pgI (pg_tup hc hs.pgs hn hst) fun v σ H Q ⟨μ, e, eh, d, er, hr, rd, p⟩ => ?_⟩
  cases rd with
  | @tup a ds xs q r =>
    unfold gTupD at p
    simp only at p
    by_cases c : ds.length = n
    · rw [if_pos c] at p
      exact ⟨a, xs, rfl, q, by rw [← r.len]; exact c, μ, e, eh, ds, er, hr, r, p⟩
    · rw [if_neg c] at p; exact p.elim
  | _ => exact p.elim
def gSubD (mo mi : Sl → EH → R D) : D → Sl → EH → R Sl := fun d e h => (mo e h).bind fun o h1 => (mi e h1).bind fun i h2 => match o, i with
  | .ref n, .int k => (match h2[n]? with
    | some (.lst xs) => (match ixN xs.length k with
      | some j => .ok e (h2.set n (.lst (xs.set j d)))
      | none => .bad)
    | _ => .bad)
  | _, _ => .bad
theorem sg_sub {o i : Expr} {mo mi : Sl → EH → R D} {pos : Pos} (ho : SE X W o mo) (hi : SE X W i mi)
    (ha : ∀ v, assign (.Subscript o i pos) X.env v = (do
      let ov ← holding [v] (eval o X.env)
      let iv ← holding [v, ov] (eval i X.env)
      standAt pos
      holding [v, ov, iv] (setItem ov iv v)
      release [v, ov, iv] []) := by intro _; rfl) : SG X W (.Subscript o i pos) [] (gSubD mo mi) := by
  refine ⟨pgI (pg_sub ho.pe hi.pe set_list ha) fun v σ H Q ⟨μ, e, eh, d, er, hr, rd, p⟩ => ⟨μ, e, eh, er, hr, post_mono (post_bind (Rl := relD) ⟨fun _ _ h => h⟩ p) ?_⟩⟩
  rintro x H1 ⟨μ1, eh1, dx, x1, hr1, rx, p1⟩
  refine ⟨μ1, e, eh1, er.ext x1, hr1, post_mono (post_bind (Rl := relD) ⟨fun _ _ h => h⟩ p1) ?_⟩
  rintro y H2 ⟨μ2, eh2, dy, x2, hr2, ry, p2⟩
  have rx2 := Rp.ext x2 rx
  cases rx2 with
  | @ref n a hn hlst => cases ry with
    | int k =>
      simp only at p2
      cases q : eh2[n]? with
      | none => rw [q] at p2; exact p2.elim
      | some o => cases o with
        | dct _ => rw [q] at p2; exact p2.elim
        | dcl _ => rw [q] at p2; exact p2.elim
        | lst xs =>
          rw [q] at p2
          simp only at p2
          obtain ⟨ys, hy, ra⟩ := hr2.lst q hn
          cases q2 : ixN xs.length k with
          | none => rw [q2] at p2; exact p2.elim
          | some j =>
            rw [q2] at p2
            have rd2 := Rp.ext x2 (Rp.ext x1 rd)
            refine ⟨a, ys, k, j, rfl, rfl, hy, by rw [← ra.len]; exact q2, ?_⟩
            have x3 : Ext μ2 μ2 H2 (upd H2 a (.lst (ys.set j v))) := Ext.put (List.mem_of_getElem? hn) hr2
            exact p2 μ2 _ σ x3 (hr2.put (List.getElem?_eq_some_iff.mp q).1 hn (ra.set rd2 j)) ⟨((er.ext x1).ext x2).ext x3, rfl, fun _ _ => rfl⟩
    | _ => exact p2.elim
  | _ => cases ry <;> exact p2.elim
def sAsg (m : Sl → EH → R D) (g : D → Sl → EH → R Sl) : Sl → EH → RS := fun e h => liftS (m e h) e fun d h1 => liftS (g d e h1) e fun e' h2 => .nx e' h2
theorem asg_of {m : Sl → EH → R D} {g : D → Sl → EH → R Sl} {vs : List Nat} (D : Ends) (σ : St) (H : Hp) (h : tS X W (sAsg m g) D σ H) : tAsg (tG relD X W m) (tGt X W vs g) D σ H := by
  obtain ⟨μ, e, eh, er, hr, p⟩ := h
  refine ⟨μ, e, eh, er, hr, post_mono (postS_lift (Rl := relD) er p) ?_⟩
  rintro v H1 ⟨μ1, eh1, d, x1, hr1, rx, p1⟩
  refine ⟨μ1, e, eh1, d, er.ext x1, hr1, rx, post_mono (postS_lift (Rl := relG vs σ) (er.ext x1) p1) ?_⟩
  rintro σ2 H2 ⟨μ2, eh2, e2, x2, hr2, ⟨er2, _, _⟩, p2⟩
  exact p2 μ2 H2 σ2 (Ext.refl _ _) hr2 er2
theorem ss_asg {tg a : Expr} {m : Sl → EH → R D} {vs : List Nat} {g : D → Sl → EH → R Sl} {pos : Pos} (ha : SE X W a m) (hg : SG X W tg vs g) (hs : swapsWithSole [tg] a pos.line X.env = pure false := by rfl) (hw : swappedStores [tg] a X.env = pure none := by rfl)
    (h1 : (assignEach [tg] X.env).map (·.2) = [assign tg X.env] := by rfl) : SS X W (.Assign [tg] a pos) (sAsg m g) := ⟨psI (ps_asg ha.pe hg.pg hs hw h1) asg_of⟩
theorem ss_set (i : Nat) {x : Str} {a : Expr} {m : Sl → EH → R D} {pos pos' : Pos} (hN : X.N.Nodup) (ha : SE X W a m) (hi : X.N[i]? = some x := by rfl) (hx : Loc X.env.scope x := by first | exact Or.inl rfl | exact Or.inr rfl) (hs : swapsWith a (some (.Name x pos')) pos.line X.env = pure false := by rfl)
    (hf : X.fn x = true ∨ X.env.scope.names.lookup x = some .local := by first | exact .inl rfl | exact .inr rfl) : SS X W (.Assign [.Name x pos'] a pos) (sAsg m (gVar i)) := by
  refine ⟨psI (ps_set hN hi hx ha.pe hs hf) fun D σ H ⟨μ, e, eh, er, hr, p⟩ => ⟨μ, e, eh, er, hr, post_mono (postS_lift (Rl := relD) er p) ?_⟩⟩
  rintro v H1 ⟨μ1, eh1, d, x1, hr1, rx, p1⟩
  exact p1 μ1 H1 _ (Ext.refl _ _) hr1 ((er.ext x1).set i rx)
/-- a, b = x, y -/
def sPar (i j : Nat) (ms : Sl → EH → R (List D)) : Sl → EH → RS := fun e h => liftS (ms e h) e fun ds h1 => match ds with
  | [a, b] => .nx ((e.set i (some a)).set j (some b)) h1
  | _ => .bad
theorem ss_par (i j : Nat) {x y : Str} {a b : Expr} {ms : Sl → EH → R (List D)} {px py pt pos : Pos} {kt k2 pt2} (hc : X.calm = true) (hN : X.N.Nodup) (ha : SA X W [a, b] ms) (hi : X.N[i]? = some x := by rfl) (hj : X.N[j]? = some y := by rfl) (hij : i ≠ j := by decide)
    (hx : X.env.scope.names.lookup x = some .local := by rfl) (hy : X.env.scope.names.lookup y = some .local := by rfl)
    (hw : swappedStores [.Tuple [.Name x px, .Name y py] kt pt] (.Tuple [a, b] k2 pt2) X.env = pure (some [x, y]) := by rfl)
    (hs : swapsWithSole [.Tuple [.Name x px, .Name y py] kt pt] (.Tuple [a, b] k2 pt2) pos.line X.env = pure false := by rfl) :
    SS X W (.Assign [.Tuple [.Name x px, .Name y py] kt pt] (.Tuple [a, b] k2 pt2) pos) (sPar i j ms) := by
  refine ⟨psI (ps_par hc hN hi hj hij hx hy ha.pa hw hs) fun D σ H ⟨μ, e, eh, er, hr, p⟩ => ⟨μ, e, eh, er, hr, post_mono (postS_lift (Rl := relA) er p) ?_⟩⟩
  rintro v H1 ⟨μ1, eh1, ds, x1, hr1, rx, p1⟩
  cases rx with
  | nil => exact p1.elim
  | cons r1 r2 => cases r2 with
    | nil => exact p1.elim
    | cons r2 r3 => cases r3 with
      | cons _ _ => exact p1.elim
      | nil => exact ⟨_, _, rfl, p1 μ1 H1 _ (Ext.refl _ _) hr1 (((er.ext x1).set i r1).set j r2)⟩
/-- name op= e -/
def sAug (i : Nat) (f : D → D → EH → Option (D × EH)) (m : Sl → EH → R D) : Sl → EH → RS := fun e h => match e[i]? with
  | some (some d) => liftS (m e h) e fun y h1 => (match f d y h1 with
    | some (z, h2) => .nx (e.set i (some z)) h2
    | none => .bad)
  | _ => .bad
def rIp (X : Cx) (f : D → D → EH → Option (D × EH)) : TIp := fun x y H Q => ∃ μ eh dx dy, HeapR X.K H μ eh ∧ Rp X.K H μ dx x ∧ Rp X.K H μ dy y ∧ outD X μ H (f dx dy eh) Q
theorem ss_aug (i : Nat) {x : Str} {a : Expr} {op : Operator} {f : D → D → EH → Option (D × EH)} {m : Sl → EH → R D} {pos pos' : Pos} (hN : X.N.Nodup) (ho : PIp X op (rIp X f)) (ha : SE X W a m) (hi : X.N[i]? = some x := by rfl) (hx : Loc X.env.scope x := by first | exact Or.inl rfl | exact Or.inr rfl)
    (hf : X.fn x = true ∨ X.env.scope.names.lookup x = some .local := by first | exact .inl rfl | exact .inr rfl) : SS X W (.AugAssign (.Name x pos') op a pos) (sAug i f m) := by
  refine ⟨psI (ps_aug hN hi hx ha.pe ho hf) fun D σ H ⟨μ, e, eh, er, hr, p⟩ => ?_⟩
  unfold sAug at p
  cases q : e[i]? with
  | none => rw [q] at p; exact p.elim
  | some o => cases o with
    | none => rw [q] at p; exact p.elim
    | some d =>
      rw [q] at p
      simp only at p
      obtain ⟨v, hv, rv⟩ := er.val i d q
      refine ⟨v, hv, μ, e, eh, er, hr, post_mono (postS_lift (Rl := relD) er p) ?_⟩
      rintro y H1 ⟨μ1, eh1, dy, x1, hr1, ry, p1⟩
      refine ⟨μ1, eh1, d, dy, hr1, rv.ext x1, ry, ?_⟩
      cases q2 : f d dy eh1 with
      | none => rw [q2] at p1; exact p1
      | some r =>
        obtain ⟨z, h2⟩ := r
        rw [q2] at p1
        exact fun μ2 H2 w x2 hr2 rz => p1 μ2 H2 _ x2 hr2 (((er.ext x1).ext x2).set i rz)
theorem ip_I {op : Operator} {f : Int → Int → Int} (h : PIp X op (ipI f)) : PIp X op (rIp X (oI fun i j => some (f i j))) := by
  intro pins s σ H x y v u Q I rx ry ⟨μ, eh, dx, dy, hr, r1, r2, o⟩
  cases r1 with
  | int i => cases r2 with
    | int j => exact h pins s σ H _ _ v u Q I rx ry ⟨i, j, rfl, rfl, outD_val o hr (.int _)⟩
    | _ => exact o.elim
  | _ => exact o.elim
theorem ia_add : PIp X .Add (rIp X (oI fun i j => some (i + j))) := ip_I ip_add
theorem ia_sub : PIp X .Sub (rIp X (oI fun i j => some (i - j))) := ip_I ip_sub

/-! ### while -/
def stepW (c : Sl → EH → R Bool) (b : Sl → EH → RS) : Sl × EH → Lp (Sl × EH) RS := fun s => match c s.1 s.2 with
  | .ok true h => (match b s.1 h with
    | .nx e' h' => .more (e', h')
    | .ct e' h' => .more (e', h')
    | .bk e' h' => .done (.nx e' h')
    | r => .done r)
  | .ok false h => .done (.nx s.1 h)
  | .exc x h => .done (.exc x s.1 h)
  | .bad => .done .bad
noncomputable def sWhile (c : Sl → EH → R Bool) (b : Sl → EH → RS) : Sl → EH → RS := fun e h => (loopW (stepW c b) (e, h)).getD .bad
theorem ss_while {c : Expr} {body : List Stmt} {mc : Sl → EH → R Bool} {mb : Sl → EH → RS} {pos : Pos} (hp : PassesOwn (model X.prog X.w) X.A X.env X.xe) (hc : SB X W c mc) (hb : SSs X W body mb) : SS X W (.While c body [] pos) (sWhile mc mb) := by
  refine ⟨psI (ps_while hp hc.pt hb.pss) fun D σ H ⟨μ, e, eh, er, hr, p⟩ => ?_⟩
  unfold sWhile at p
  cases q : loopW (stepW mc mb) (e, eh) with
  | none => rw [q] at p; exact p.elim
  | some r =>
    rw [q] at p
    have p : postS X.K X.mg W μ H r D := p
    obtain ⟨n, hn⟩ := loopW_run q
    refine ⟨fun m σ' H' => ∃ μ' e' eh', EnvR X.K H' μ' e' σ' ∧ HeapR X.K H' μ' eh' ∧ Ext μ μ' H H' ∧ runN (stepW mc mb) m (e', eh') = some r, ⟨n, μ, e, eh, er, hr, Ext.refl _ _, hn⟩, ?_⟩
    rintro m σ1 H1 ⟨μ1, e1, eh1, er1, hr1, x1, hm⟩
    cases m with
    | zero => cases hm
    | succ k =>
      unfold runN stepW at hm
      refine ⟨μ1, e1, eh1, er1, hr1, ?_⟩
      simp only at hm
      cases qc : mc e1 eh1 with
      | bad =>
        rw [qc] at hm
        cases hm
        exact p.elim
      | exc x h2 =>
        rw [qc] at hm
        cases hm
        exact fun μ2 H2 cc dd x2 hr2 re => p μ2 H2 σ1 cc dd (x1.trans x2) hr2 (er1.ext x2) re
      | ok t h2 =>
        rw [qc] at hm
        rintro μ2 H2 b x2 hr2 rfl
        cases t with
        | false =>
          cases hm
          exact iteF (p μ2 H2 σ1 (x1.trans x2) hr2 (er1.ext x2))
        | true =>
          refine iteT ⟨fun σ' H' => ∃ μ' e' eh', EnvR X.K H' μ' e' σ' ∧ HeapR X.K H' μ' eh' ∧ Ext μ μ' H H' ∧ runN (stepW mc mb) k (e', eh') = some r, fun σ' H' z => ⟨k, Nat.lt_succ_self k, z⟩, μ2, e1, h2, er1.ext x2, hr2, ?_⟩
          simp only at hm
          cases qb : mb e1 h2 with
          | nx e' h' => rw [qb] at hm; exact fun μ3 H3 σ3 x3 hr3 er3 => ⟨μ3, e', h', er3, hr3, (x1.trans x2).trans x3, hm⟩
          | ct e' h' => rw [qb] at hm; exact fun μ3 H3 σ3 x3 hr3 er3 => ⟨μ3, e', h', er3, hr3, (x1.trans x2).trans x3, hm⟩
          | bk e' h' => rw [qb] at hm; cases hm; exact fun μ3 H3 σ3 x3 hr3 er3 => p μ3 H3 σ3 ((x1.trans x2).trans x3) hr3 er3
          | rt d h' => rw [qb] at hm; cases hm; exact fun μ3 H3 v x3 hr3 rv => p μ3 H3 v ((x1.trans x2).trans x3) hr3 rv
          | exc x e' h' => rw [qb] at hm; cases hm; exact fun μ3 H3 σ3 cc dd x3 hr3 er3 re => p μ3 H3 σ3 cc dd ((x1.trans x2).trans x3) hr3 er3 re
          | bad => rw [qb] at hm; cases hm; exact p.elim

/-! ### what is walked -/
abbrev Itd := Nat → EH → Option (Option D)
def relI : Rel Itd It := fun K _ H μ it J => ∀ (i : Nat) (μ' : List Addr) (H' : Hp) (eh' : EH), Ext μ μ' H H' → HeapR K H' μ' eh' → match it i eh' with
  | none => True
  | some none => J.stop i H'
  | some (some d) => J.go i H' ∧ ∀ x H2, J.yld i H' x H2 → Ext μ' μ' H' H2 ∧ HeapR K H2 μ' eh' ∧ Rp K H2 μ' d x
structure SI (X : Cx) (W : WX) (tg iter : Expr) (m : Sl → EH → R Itd) : Prop where
  pi : PI X tg iter (tG relI X W m)
theorem piI {tg e : Expr} {t t' : TI} (h : PI X tg e t) (hi : ∀ σ H R, t' σ H R → t σ H R) : PI X tg e t' := ⟨fun pins s σ H R I q => h.run pins s σ H R I (hi _ _ _ q)⟩
def itL (xs : List D) : Itd := fun i _ => some xs[i]?
def itH (n : Nat) : Itd := fun i h => match h[n]? with
  | some (.lst xs) => some xs[i]?
  | _ => none
def asItL (d : D) (h : EH) : R Itd := match d with
  | .rol xs => .ok (itL xs) h
  | .ref n => .ok (itH n) h
  | _ => .bad
def iLst (m : Sl → EH → R D) : Sl → EH → R Itd := fun e h => (m e h).bind asItL
theorem backI : RelBack relI := ⟨fun _ _ h => h⟩
theorem itl_at {K : PySem.W.Frag} {H : Hp} {μ : List Addr} {eh : EH} {a : Addr} {xs : List V} {ds : List D} {i : Nat} (hx : SqL K H a xs) (r : RpAll K H μ ds xs) (hr : HeapR K H μ eh) : match (some ds[i]? : Option (Option D)) with
    | none => True
    | some none => (Itl K a).stop i H
    | some (some d) => (Itl K a).go i H ∧ ∀ x H2, (Itl K a).yld i H x H2 → Ext μ μ H H2 ∧ HeapR K H2 μ eh ∧ Rp K H2 μ d x := by
  cases e : ds[i]? with
  | none => exact ⟨xs, hx, by rw [← r.len]; exact List.getElem?_eq_none_iff.mp e⟩
  | some d =>
    obtain ⟨v, hv, rv⟩ := r.get e
    refine ⟨⟨xs, v, hx, hv⟩, fun x H2 ⟨e2, y⟩ => ?_⟩
    subst e2
    have := y xs hx
    rw [hv] at this
    cases this
    exact ⟨Ext.refl _ _, hr, rv⟩
theorem si_lst {tg a : Expr} {m : Sl → EH → R D} (ha : SE X W a m) : SI X W tg a (iLst m) := by
  refine ⟨piI (pi_list ha.pe) fun σ H Q ⟨μ, e, eh, er, hr, p⟩ => ⟨μ, e, eh, er, hr, post_mono (post_bind (Rl := relD) backI p) ?_⟩⟩
  rintro x H1 ⟨μ1, eh1, d, x1, hr1, rx, p1⟩
  cases rx with
  | @rol a ds xs q r =>
    refine ⟨a, rfl, ⟨xs, q.l⟩, p1 μ1 H1 _ (Ext.refl _ _) hr1 fun i μ' H' eh' y hr' => ?_⟩
    exact itl_at (SqF.ext y.z q).l (r.ext y) hr'
  | @ref n a hn hlst =>
    unfold asItL at p1
    simp only at p1
    refine ⟨a, rfl, ?_, p1 μ1 H1 _ (Ext.refl _ _) hr1 fun i μ' H' eh' y hr' => ?_⟩
    · obtain ⟨xs, hx⟩ := hlst
      exact ⟨xs, SqL.of hx⟩
    · unfold itH
      have hn' := y.getμ hn
      cases e1 : eh'[n]? with
      | none => exact trivial
      | some o => cases o with
        | dct _ => exact trivial
        | dcl _ => exact trivial
        | lst ds =>
          obtain ⟨xs, hx, r⟩ := hr'.lst e1 hn'
          exact itl_at (SqL.of hx) r hr'
  | _ => exact p1.elim
/-- a list at hand -/
def iTmp (m : Sl → EH → R (List D)) : Sl → EH → R Itd := fun e h => (m e h).bind fun ds h1 => .ok (itL ds) h1
theorem si_tmp {tg a : Expr} {m : Sl → EH → R (List D)} (ha : SL X W a m) : SI X W tg a (iTmp m) := by
  refine ⟨piI (pi_list ha.pe) fun σ H Q ⟨μ, e, eh, er, hr, p⟩ => ⟨μ, e, eh, er, hr, post_mono (post_bind (Rl := relT) backI p) ?_⟩⟩
  rintro x H1 ⟨μ1, eh1, ds, x1, hr1, ⟨a, vs, rfl, hx, hn, _, r⟩, p1⟩
  exact ⟨a, rfl, ⟨vs, SqL.of hx⟩, p1 μ1 H1 _ (Ext.refl _ _) hr1 fun i μ' H' eh' y hr' => itl_at (SqL.of (y.frm a _ hx hn (fun _ z => by cases z))) (r.ext y) hr'⟩
/-- a tuple -/
def asItT (d : D) (h : EH) : R Itd := match d with
  | .tup xs => .ok (itL xs) h
  | _ => .bad
def iTupD (m : Sl → EH → R D) : Sl → EH → R Itd := fun e h => (m e h).bind asItT
theorem si_tup {tg a : Expr} {m : Sl → EH → R D} (ha : SE X W a m) : SI X W tg a (iTupD m) := by
  refine ⟨piI (pi_tup ha.pe) fun σ H Q ⟨μ, e, eh, er, hr, p⟩ => ⟨μ, e, eh, er, hr, post_mono (post_bind (Rl := relD) backI p) ?_⟩⟩
  rintro x H1 ⟨μ1, eh1, d, x1, hr1, rx, p1⟩
  cases rx with
  | @tup a ds xs q r =>
    refine ⟨a, rfl, ⟨xs, q⟩, p1 μ1 H1 _ (Ext.refl _ _) hr1 fun i μ' H' eh' y hr' => ?_⟩
    have hx := SqT.ext y.z q
    unfold itL
    cases e : ds[i]? with
    | none => exact ⟨xs, hx, by rw [← r.len]; exact List.getElem?_eq_none_iff.mp e⟩
    | some d =>
      obtain ⟨v, hv, rv⟩ := (r.ext y).get e
      refine ⟨⟨xs, v, hx, hv⟩, fun x H2 ⟨e2, y2⟩ => ?_⟩
      subst e2
      have := y2 xs hx
      rw [hv] at this
      cases this
      exact ⟨Ext.refl _ _, hr', rv⟩
  | _ => exact p1.elim
/-- ranges -/
def itR (lo c : Int) (n : Nat) : Itd := fun i _ => some (if i < n then some (.int (lo + i * c)) else none)
/-- the bounds of ranges; told in a way that nothing computes -/
def rg1 (j : Int) : Prop := -(2 ^ 62) ≤ j ∧ j < 2 ^ 62
def rg2 (i j : Int) : Prop := -(2 ^ 62) ≤ i ∧ i < 2 ^ 62 ∧ -(2 ^ 62) ≤ j ∧ j < 2 ^ 62
def rg3 (i j k : Int) : Prop := k ≠ 0 ∧ k.natAbs < 1073741824 ∧ Builtin.Range.small i j k = true ∧ 0 ≤ Builtin.Range.rangeSize i j k
noncomputable instance {j : Int} : Decidable (rg1 j) := Classical.propDecidable _
noncomputable instance {i j : Int} : Decidable (rg2 i j) := Classical.propDecidable _
noncomputable instance {i j k : Int} : Decidable (rg3 i j k) := Classical.propDecidable _
noncomputable def asR1 (ds : List D) (h : EH) : R Itd := match ds with
  | [.int j] => if rg1 j then .ok (itR 0 1 j.toNat) h else .bad
  | _ => .bad
noncomputable def asR2 (ds : List D) (h : EH) : R Itd := match ds with
  | [.int i, .int j] => if rg2 i j then .ok (itR i 1 (j - i).toNat) h else .bad
  | _ => .bad
noncomputable def asR3 (ds : List D) (h : EH) : R Itd := match ds with
  | [.int i, .int j, .int c] => if rg3 i j c then .ok (itR i c (Builtin.Range.rangeSize i j c).toNat) h else .bad
  | _ => .bad
def iRng (k : List D → EH → R Itd) (ms : Sl → EH → R (List D)) : Sl → EH → R Itd := fun e h => (ms e h).bind k
theorem relI_r {K : PySem.W.Frag} {H0 H : Hp} {μ : List Addr} (lo : Int) (n : Nat) : relI K H0 H μ (itR lo 1 n) (Itr lo n) := fun i μ' H' eh' y hr' => by
  unfold itR
  by_cases c : i < n
  · simp only [if_pos c]
    refine ⟨c, fun x H2 ⟨e1, e2⟩ => ?_⟩
    subst e1 e2
    rw [Int.mul_one]
    exact ⟨Ext.refl _ _, hr', .int _⟩
  · simp only [if_neg c]
    exact Nat.le_of_not_lt c
section
variable {tg a b c : Expr} {p pos : Pos} {ms : Sl → EH → R (List D)}
theorem si_range1 (hm : X.mg "range" = none) (ha : SA X W [a] ms) (hg : Gl X "range" := by rfl) (hs : starEach [a] X.env = [(false, eval a X.env)] := by rfl) : SI X W tg (.Call (.Name "range" p) [a] [] pos) (iRng asR1 ms) := by
  refine ⟨piI (pi_range1 hg hm ha.pa hs) fun σ H Q ⟨μ, e, eh, er, hr, p⟩ => ⟨μ, e, eh, er, hr, post_mono (post_bind (Rl := relA) backI p) ?_⟩⟩
  rintro vs H1 ⟨μ1, eh1, ds, x1, hr1, rx, p1⟩
  unfold asR1 at p1
  cases rx with
  | nil => exact p1.elim
  | cons r1 r2 => cases r2 with
    | cons _ _ => cases r1 <;> exact p1.elim
    | nil => cases r1 with
      | int j =>
        simp only at p1
        by_cases c : rg1 j
        · rw [if_pos c] at p1
          exact ⟨j, rfl, c.1, c.2, p1 μ1 H1 _ (Ext.refl _ _) hr1 (relI_r 0 _)⟩
        · rw [if_neg c] at p1; exact p1.elim
      | _ => exact p1.elim
theorem si_range2 (hm : X.mg "range" = none) (ha : SA X W [a, b] ms) (hg : Gl X "range" := by rfl) (hs : starEach [a, b] X.env = [(false, eval a X.env), (false, eval b X.env)] := by rfl) (hs2 : starEach [b] X.env = [(false, eval b X.env)] := by rfl) : SI X W tg (.Call (.Name "range" p) [a, b] [] pos) (iRng asR2 ms) := by
  refine ⟨piI (pi_range2 hg hm ha.pa hs hs2) fun σ H Q ⟨μ, e, eh, er, hr, p⟩ => ⟨μ, e, eh, er, hr, post_mono (post_bind (Rl := relA) backI p) ?_⟩⟩
  rintro vs H1 ⟨μ1, eh1, ds, x1, hr1, rx, p1⟩
  unfold asR2 at p1
  cases rx with
  | nil => exact p1.elim
  | cons r1 r2 => cases r2 with
    | nil => cases r1 <;> exact p1.elim
    | cons r2 r3 => cases r3 with
      | cons _ _ => cases r1 <;> cases r2 <;> exact p1.elim
      | nil => cases r1 with
        | int i => cases r2 with
          | int j =>
            simp only at p1
            by_cases c : rg2 i j
            · rw [if_pos c] at p1
              exact ⟨i, j, rfl, c, p1 μ1 H1 _ (Ext.refl _ _) hr1 (relI_r i _)⟩
            · rw [if_neg c] at p1; exact p1.elim
          | _ => exact p1.elim
        | _ => cases r2 <;> exact p1.elim
theorem si_range3 (hm : X.mg "range" = none) (ha : SA X W [a, b, c] ms) (hg : Gl X "range" := by rfl) (hs : starEach [a, b, c] X.env = (false, eval a X.env) :: starEach [b, c] X.env := by rfl) (hpl : (backTo pos (starEach [b, c] X.env)).any (·.1) = false := by rfl) : SI X W tg (.Call (.Name "range" p) [a, b, c] [] pos) (iRng asR3 ms) := by
  refine ⟨piI (pi_range3 hg hm ha.pa hs hpl) fun σ H Q ⟨μ, e, eh, er, hr, p⟩ => ⟨μ, e, eh, er, hr, post_mono (post_bind (Rl := relA) backI p) ?_⟩⟩
  rintro vs H1 ⟨μ1, eh1, ds, x1, hr1, rx, p1⟩
  unfold asR3 at p1
  split at p1
  · rename_i i j k
    cases rx with
    | cons r1 r2 => cases r2 with
      | cons r2 r3 => cases r3 with
        | cons r3 r4 => cases r4 with
          | nil =>
            cases r1; cases r2; cases r3
            by_cases z : rg3 i j k
            · rw [if_pos z] at p1
              refine ⟨i, j, k, (Builtin.Range.rangeSize i j k).toNat, rfl, ⟨z.1, z.2.1, z.2.2.1, (Int.toNat_of_nonneg z.2.2.2).symm⟩, p1 μ1 H1 _ (Ext.refl _ _) hr1 fun n μ' H' eh' y hr' => ?_⟩
              unfold itR
              by_cases cc : n < (Builtin.Range.rangeSize i j k).toNat
              · simp only [if_pos cc]
                refine ⟨cc, fun x H2 ⟨e1, e2⟩ => ?_⟩
                subst e1 e2
                exact ⟨Ext.refl _ _, hr', .int _⟩
              · simp only [if_neg cc]
                exact Nat.le_of_not_lt cc
            · rw [if_neg z] at p1; exact p1.elim
  · exact p1.elim
end

/-! ### for -/
def stepF (it : Itd) (g : D → Sl → EH → R Sl) (b : Sl → EH → RS) : Nat × Sl × EH → Lp (Nat × Sl × EH) RS := fun s => match it s.1 s.2.2 with
  | none => .done .bad
  | some none => .done (.nx s.2.1 s.2.2)
  | some (some d) => (match g d s.2.1 s.2.2 with
    | .ok e1 h1 => (match b e1 h1 with
      | .nx e' h' => .more (s.1 + 1, e', h')
      | .ct e' h' => .more (s.1 + 1, e', h')
      | .bk e' h' => .done (.nx e' h')
      | r => .done r)
    | .exc x h => .done (.exc x s.2.1 h)
    | .bad => .done .bad)
noncomputable def sFor (mi : Sl → EH → R Itd) (g : D → Sl → EH → R Sl) (b : Sl → EH → RS) : Sl → EH → RS := fun e h => liftS (mi e h) e fun it h1 => (loopW (stepF it g b) (0, e, h1)).getD .bad
theorem ss_for {tg iter : Expr} {body : List Stmt} {mi : Sl → EH → R Itd} {vs : List Nat} {g : D → Sl → EH → R Sl} {mb : Sl → EH → RS} {pos : Pos} (hp : PassesOwn (model X.prog X.w) X.A X.env X.xe) (hc : X.calm = true) (hi : SI X W tg iter mi) (hg : SG X W tg vs g) (hb : SSs X W body mb)
    (hs : ∀ x, foldedSetIterable iter X.env x = pure x := by intro _; rfl) : SS X W (.For tg iter body [] pos) (sFor mi g mb) := by
  refine ⟨psI (ps_for hp hc hi.pi hg.pg hb.pss hs) fun D σ H ⟨μ, e, eh, er, hr, p⟩ => ⟨μ, e, eh, er, hr, post_mono (postS_lift (Rl := relI) er p) ?_⟩⟩
  rintro J H0 ⟨μ0, eh0, it, x0, hr0, ri, p0⟩
  cases q : loopW (stepF it g mb) (0, e, eh0) with
  | none => rw [q] at p0; exact p0.elim
  | some r =>
    rw [q] at p0
    have p : postS X.K X.mg W μ0 H0 r D := p0
    obtain ⟨n, hn⟩ := loopW_run q
    refine ⟨fun i m σ' H' => ∃ μ' e' eh', EnvR X.K H' μ' e' σ' ∧ HeapR X.K H' μ' eh' ∧ Ext μ0 μ' H0 H' ∧ runN (stepF it g mb) m (i, e', eh') = some r, ⟨n, μ0, e, eh0, er.ext x0, hr0, Ext.refl _ _, hn⟩, ?_⟩
    rintro i m σ1 H1 ⟨μ1, e1, eh1, er1, hr1, x1, hm⟩
    cases m with
    | zero => cases hm
    | succ k =>
      unfold runN stepF at hm
      simp only at hm
      have ri1 := ri i μ1 H1 eh1 x1 hr1
      cases qi : it i eh1 with
      | none =>
        rw [qi] at hm
        cases hm
        exact p.elim
      | some o =>
        rw [qi] at hm ri1
        cases o with
        | none =>
          cases hm
          exact .inl ⟨ri1, p μ1 H1 σ1 x1 hr1 er1⟩
        | some d =>
          obtain ⟨go, yl⟩ := ri1
          refine .inr ⟨go, fun σ' H' => ∃ μ' e' eh', EnvR X.K H' μ' e' σ' ∧ HeapR X.K H' μ' eh' ∧ Ext μ0 μ' H0 H' ∧ runN (stepF it g mb) k (i + 1, e', eh') = some r, fun σ' H' z => ⟨k, Nat.lt_succ_self k, z⟩, fun v H2 hy => ?_⟩
          obtain ⟨x2, hr2, rv⟩ := yl v H2 hy
          refine ⟨μ1, e1, eh1, d, er1.ext x2, hr2, rv, ?_⟩
          simp only at hm
          cases qg : g d e1 eh1 with
          | bad => rw [qg] at hm; cases hm; exact p.elim
          | exc x h2 => rw [qg] at hm; cases hm; exact fun μ3 H3 cc dd x3 hr3 re => p μ3 H3 σ1 cc dd ((x1.trans x2).trans x3) hr3 ((er1.ext x2).ext x3) re
          | ok e2 h2 =>
            rw [qg] at hm
            rintro μ3 H3 σ3 x3 hr3 ⟨er3, _, _⟩
            refine ⟨μ3, e2, h2, er3, hr3, ?_⟩
            have x13 := (x1.trans x2).trans x3
            simp only at hm
            cases qb : mb e2 h2 with
            | nx e' h' => rw [qb] at hm; exact fun μ4 H4 σ4 x4 hr4 er4 => ⟨μ4, e', h', er4, hr4, x13.trans x4, hm⟩
            | ct e' h' => rw [qb] at hm; exact fun μ4 H4 σ4 x4 hr4 er4 => ⟨μ4, e', h', er4, hr4, x13.trans x4, hm⟩
            | bk e' h' => rw [qb] at hm; cases hm; exact fun μ4 H4 σ4 x4 hr4 er4 => p μ4 H4 σ4 (x13.trans x4) hr4 er4
            | rt d h' => rw [qb] at hm; cases hm; exact fun μ4 H4 v x4 hr4 rv => p μ4 H4 v (x13.trans x4) hr4 rv
            | exc x e' h' => rw [qb] at hm; cases hm; exact fun μ4 H4 σ4 cc dd x4 hr4 er4 re => p μ4 H4 σ4 cc dd (x13.trans x4) hr4 er4 re
            | bad => rw [qb] at hm; cases hm; exact p.elim

/-! ### comprehensions -/
def wipeD (e : Sl) : List Nat → Sl
  | [] => e
  | v :: vs => (wipeD e vs).set v none
theorem wipe_get {σ : St} {j : Nat} : ∀ {vs : List Nat}, j ∉ vs → (wipe σ vs)[j]? = σ[j]?
  | [], _ => rfl
  | v :: vs, h => by
    unfold wipe
    rw [List.getElem?_set_ne (fun e => h (by simp [e]))]
    exact wipe_get fun z => h (List.mem_cons_of_mem _ z)
theorem wipe_gone {σ : St} {j : Nat} : ∀ {vs : List Nat}, j ∈ vs → j < σ.length → (wipe σ vs)[j]? = some none
  | v :: vs, h, hl => by
    unfold wipe
    by_cases e : v = j
    · subst e
      rw [List.getElem?_set_self (by rw [wipe_length]; exact hl)]
    · rw [List.getElem?_set_ne e]
      exact wipe_gone ((List.mem_cons.mp h).resolve_left fun z => e z.symm) hl
theorem wipe_back {σ τ : St} {vs ws : List Nat} (hw : ∀ j, j ∈ ws → j ∈ vs) (hl : τ.length = (wipe σ vs).length) (h : ∀ j, j ∉ ws → τ[j]? = (wipe σ vs)[j]?) : wipe τ vs = wipe σ vs := by
  rw [wipe_length] at hl
  apply List.ext_getElem?
  intro j
  by_cases c : j ∈ vs
  · by_cases cl : j < σ.length
    · rw [wipe_gone c cl, wipe_gone c (by rw [hl]; exact cl)]
    · rw [List.getElem?_eq_none (by rw [wipe_length, hl]; omega), List.getElem?_eq_none (by rw [wipe_length]; omega)]
  · rw [wipe_get c]; exact h j fun z => c (hw j z)
theorem Ext.putD {μ μ' : List Addr} {H0 H : Hp} {D : Addr} {o : HO} {vs : List V} (x : Ext μ μ' H0 H) (h0 : H0 D = none) (hl : H D = some (.lst vs)) : Ext μ μ' H0 (upd H D o) :=
  ⟨x.pre, fun b u h hb ht => by rw [upd_ne (ne_of_none h h0)]; exact x.frm b u h hb ht, fun b ps h hb => by rw [upd_ne (ne_of_none h h0)]; exact x.tbl b ps h hb, fun P q t => (x.tab P q t).put hl, fun b u h => by rw [upd_ne (ne_of_none h h0)]; exact x.tup b u h, fun b o u h => by rw [upd_ne (ne_of_none h h0)]; exact x.frz b o u h, x.new, fun b h => by
    have z : b ≠ D := by obtain ⟨xs, e⟩ := h; exact ne_of_none e h0
    obtain ⟨xs, e⟩ := x.lst b h
    exact ⟨xs, by rw [upd_ne z]; exact e⟩⟩
theorem Ext0.putD {μ : List Addr} {H : Hp} {D : Addr} {vs ws : List V} (h : H D = some (.lst vs)) : Ext0 μ μ H (upd H D (.lst ws)) :=
  ⟨⟨[], by simp⟩, fun b u q => by rw [upd_ne (ne_of q h (by intro z; cases z))]; exact q, fun b o u q => by rw [upd_ne (ne_of q h (by intro z; cases z))]; exact q, fun b ⟨xs, e⟩ => by
    by_cases c : b = D
    · subst c; exact ⟨ws, upd_same⟩
    · exact ⟨xs, by rw [upd_ne c]; exact e⟩⟩
theorem wipe_agree {σ τ : St} {vs : List Nat} (hl : τ.length = σ.length) (h : ∀ j, j ∉ vs → τ[j]? = σ[j]?) : wipe τ vs = wipe σ vs := by
  apply List.ext_getElem?
  intro j
  by_cases c : j ∈ vs
  · by_cases cl : j < σ.length
    · rw [wipe_gone c cl, wipe_gone c (by rw [hl]; exact cl)]
    · rw [List.getElem?_eq_none (by rw [wipe_length, hl]; omega), List.getElem?_eq_none (by rw [wipe_length]; omega)]
  · rw [wipe_get c, wipe_get c]; exact h j c
theorem EnvR.wipe {K : PySem.W.Frag} {H : Hp} {μ : List Addr} {e : Sl} {σ : St} (r : EnvR K H μ e σ) : ∀ vs : List Nat, EnvR K H μ (wipeD e vs) (L2.wipe σ vs)
  | [] => r
  | v :: vs => by
    have ih := EnvR.wipe r vs
    refine ⟨by unfold wipeD L2.wipe; simp [ih.len], fun i d h => ?_⟩
    unfold wipeD at h
    by_cases c : v = i
    · subst c
      by_cases hl : v < (wipeD e vs).length
      · rw [List.getElem?_set_self hl] at h; cases h
      · rw [List.getElem?_eq_none (by simpa using hl)] at h; cases h
    · rw [List.getElem?_set_ne c] at h
      obtain ⟨w, hw, rw_⟩ := ih.val i d h
      exact ⟨w, by unfold L2.wipe; rw [List.getElem?_set_ne c]; exact hw, rw_⟩
abbrev wF : WX := fun _ _ _ _ => False
def stepC (it : Itd) (vs : List Nat) (g : D → Sl → EH → R Sl) (t : Sl → EH → R Bool) (m : Sl → EH → R D) (e : Sl) : Nat × List D × EH → Lp (Nat × List D × EH) (R (List D)) := fun s => match it s.1 s.2.2 with
  | none => .done .bad
  | some none => .done (.ok s.2.1 s.2.2)
  | some (some d) => (match g d (wipeD e vs) s.2.2 with
    | .ok e1 h1 => (match t e1 h1 with
      | .ok true h2 => (match m e1 h2 with
        | .ok y h3 => if s.2.1.length < sizeLine then .more (s.1 + 1, s.2.1 ++ [y], h3) else .done .bad
        | _ => .done .bad)
      | .ok false h2 => .more (s.1 + 1, s.2.1, h2)
      | _ => .done .bad)
    | _ => .done .bad)
noncomputable def lComp (vs : List Nat) (mi : Sl → EH → R Itd) (g : D → Sl → EH → R Sl) (t : Sl → EH → R Bool) (m : Sl → EH → R D) : Sl → EH → R (List D) := fun e h => (mi e h).bind fun it h1 => (loopW (stepC it vs g t m e) (0, [], h1)).getD .bad
def bYes : Sl → EH → R Bool := fun _ h => .ok true h
structure STs (X : Cx) (W : WX) (ifs : List Expr) (m : Sl → EH → R Bool) : Prop where
  pts : PTs X ifs (tG relB X W m)
theorem ptsI {e : List Expr} {t t' : TT} (h : PTs X e t) (hi : ∀ σ H Q, t' σ H Q → t σ H Q) : PTs X e t' := ⟨fun pins s σ H Q I q => h.run pins s σ H Q I (hi _ _ _ q)⟩
theorem sts_nil : STs X W [] bYes := ⟨ptsI pts_nil fun σ H Q ⟨μ, e, eh, er, hr, p⟩ => p μ H true (Ext.refl _ _) hr rfl⟩
theorem sts_one {c : Expr} {m : Sl → EH → R Bool} (h : SB X W c m) : STs X W [c] m := ⟨pts_one h.pt⟩
section
variable {elt tg iter : Expr} {ifs : List Expr} {scope : Scope} {own : List (Str × Nat)} {pos : Pos} {mi : Sl → EH → R Itd} {g : D → Sl → EH → R Sl} {t : Sl → EH → R Bool} {m : Sl → EH → R D}
/-- what a block's reading comes to (its context has the same K, mg) -/
theorem tLc_of {ws : List Nat} {tt : TT} {te : TE} {tg_ : TG} (hw : ∀ j, j ∈ ws → j ∈ own.map (·.2))
    (hg1 : ∀ v σ H Q, tGt X wF ws g v σ H Q → tg_ v σ H Q) (ht1 : ∀ σ H Q, tG relB X wF t σ H Q → tt σ H Q) (hm1 : ∀ σ H Q, tG relD X wF m σ H Q → te σ H Q)
    (σ : St) (H : Hp) (Q : VK) (h : tG relT X W (lComp (own.map (·.2)) mi g t m) σ H Q) : tLc (tG relI X W mi) tg_ tt te (own.map (·.2)) σ H Q := by
  obtain ⟨μ, e, eh, er, hr, p⟩ := h
  unfold lComp at p
  refine ⟨μ, e, eh, er, hr, ?_⟩
  cases qm : mi e eh with
  | bad => rw [qm] at p; exact p
  | exc x h2 => rw [qm] at p; exact p
  | ok it eh0 =>
    rw [qm] at p
    rintro μ0 H0 J x0 hr0 ri D hD
    simp only [R.bind_ok] at p
    cases q : loopW (stepC it (own.map (·.2)) g t m e) (0, [], eh0) with
    | none => rw [q] at p; exact p.elim
    | some r =>
      rw [q] at p
      have p : post relT X.K X.mg (fun c d H' => W c d σ H') μ H r Q := p
      obtain ⟨n, hn⟩ := loopW_run q
      -- behind the new list
      have nD0 : D ∉ μ0 := hr0.out hD
      refine ⟨fun i k H' => ∃ μ' acc vs eh', HeapR X.K H' μ' eh' ∧ Ext μ0 μ' H0 H' ∧ D ∉ μ' ∧ H' D = some (.lst vs) ∧ RpAll X.K H' μ' acc vs ∧ runN (stepC it (own.map (·.2)) g t m e) k (i, acc, eh') = some r,
        ⟨n, μ0, [], [], eh0, hr0.add hD, Ext.add hD hr0, nD0, upd_same, .nil, hn⟩, ?_⟩
      rintro i k H1 ⟨μ1, acc, vs, eh1, hr1, x1, nD, hD1, ra, hk⟩
      cases k with
      | zero => cases hk
      | succ k =>
        unfold runN stepC at hk
        simp only at hk
        have ri1 := ri i μ1 H1 eh1 x1 hr1
        cases qi : it i eh1 with
        | none => rw [qi] at hk; cases hk; exact p.elim
        | some o =>
          rw [qi] at hk ri1
          cases o with
          | none =>
            cases hk
            exact .inl ⟨ri1, p μ1 H1 _ (x0.trans x1) hr1 ⟨D, vs, rfl, hD1, nD, (x0.fresh hD).resolve_left fun z => nD0 (x0.sub z), ra⟩⟩
          | some d =>
            obtain ⟨go, yl⟩ := ri1
            refine .inr ⟨go, fun H' => ∃ μ' acc vs eh', HeapR X.K H' μ' eh' ∧ Ext μ0 μ' H0 H' ∧ D ∉ μ' ∧ H' D = some (.lst vs) ∧ RpAll X.K H' μ' acc vs ∧ runN (stepC it (own.map (·.2)) g t m e) k (i + 1, acc, eh') = some r, fun H' z => ⟨k, Nat.lt_succ_self k, z⟩, fun v H2 hy => ?_⟩
            obtain ⟨x2, hr2, rv⟩ := yl v H2 hy
            have er2 : EnvR X.K H2 μ1 e σ := er.ext ((x0.trans x1).trans x2)
            refine hg1 v _ H2 _ ⟨μ1, wipeD e (own.map (·.2)), eh1, d, er2.wipe _, hr2, rv, ?_⟩
            simp only at hk
            cases qg : g d (wipeD e (own.map (·.2))) eh1 with
            | bad => rw [qg] at hk; cases hk; exact p.elim
            | exc x h2 => rw [qg] at hk; cases hk; exact p.elim
            | ok e2 h2 =>
              rw [qg] at hk
              simp only at hk
              rintro μ3 H3 σ3 x3 hr3 ⟨er3, l3, k3⟩
              have hD0 : H0 D = none := hD
              have x13 := (x1.trans x2).trans x3
              have nD3 : D ∉ μ3 := fun z => by
                rcases x3.new D z with y | y
                · exact nD y
                · have := x2.frm D _ hD1 nD (fun _ z => by cases z)
                  rw [this] at y; cases y
              have hD3 : H3 D = some (.lst vs) := x3.frm D _ (x2.frm D _ hD1 nD (fun _ z => by cases z)) nD (fun _ z => by cases z)
              refine ⟨wipe_back hw l3 k3, ht1 _ _ _ ⟨μ3, e2, h2, er3, hr3, ?_⟩⟩
              cases qt : t e2 h2 with
              | bad => rw [qt] at hk; cases hk; exact p.elim
              | exc x h2 => rw [qt] at hk; cases hk; exact p.elim
              | ok b h4 =>
                rw [qt] at hk
                rintro μ4 H4 bb x4 hr4 rfl
                have nD4 : D ∉ μ4 := fun z => by
                  rcases x4.new D z with y | y
                  · exact nD3 y
                  · rw [hD3] at y; cases y
                have hD4 : H4 D = some (.lst vs) := x4.frm D _ hD3 nD3 (fun _ z => by cases z)
                have ra4 := RpAll.ext x4 (RpAll.ext x3 (RpAll.ext x2 ra))
                cases b with
                | false => exact iteF ⟨μ4, acc, vs, h4, hr4, x13.trans x4, nD4, hD4, ra4, hk⟩
                | true =>
                  refine iteT (hm1 _ _ _ ⟨μ4, e2, h4, er3.ext x4, hr4, ?_⟩)
                  simp only at hk
                  cases qe : m e2 h4 with
                  | bad => rw [qe] at hk; cases hk; exact p.elim
                  | exc x h2 => rw [qe] at hk; cases hk; exact p.elim
                  | ok y h5 =>
                    rw [qe] at hk
                    simp only at hk
                    rintro μ5 H5 w x5 hr5 rw5
                    have nD5 : D ∉ μ5 := fun z => by
                      rcases x5.new D z with y | y
                      · exact nD4 y
                      · rw [hD4] at y; cases y
                    have hD5 : H5 D = some (.lst vs) := x5.frm D _ hD4 nD4 (fun _ z => by cases z)
                    have ra5 := RpAll.ext x5 ra4
                    have l5 := ra5.len
                    by_cases cz : acc.length < sizeLine
                    · rw [if_pos cz] at hk
                      have z0 : Ext0 μ5 μ5 H5 (upd H5 D (.lst (vs ++ [w]))) := Ext0.putD hD5
                      exact ⟨vs, hD5, by omega, μ5, acc ++ [y], vs ++ [w], h5, hr5.grow z0 (fun a ha => upd_ne fun e => nD5 (e ▸ ha)) (fun P q t => t.put hD5), ((x13.trans x4).trans x5).putD hD0 hD5, nD5, upd_same, (ra5.app (.one rw5)).ext0 z0, hk⟩
                    · rw [if_neg cz] at hk; cases hk; exact p.elim
theorem sl_comp {ws : List Nat} (hc : X.calm = true) (hN : X.N.Nodup) (hi : SI X W tg iter mi) (ok : BlkOk X.N X.env.scope scope own) (hw : ∀ j, j ∈ ws → j ∈ own.map (·.2))
    (hg : ∀ (s : Shared) (H : Hp) (C : Addr) (cl : List (Str × Addr)) (fp : List Addr), SG (X.blk s H scope (compEnvC scope cl C X.env) fp) wF tg ws g) (ht : ∀ (s : Shared) (H : Hp) (C : Addr) (cl : List (Str × Addr)) (fp : List Addr), STs (X.blk s H scope (compEnvC scope cl C X.env) fp) wF ifs t)
    (he : ∀ (s : Shared) (H : Hp) (C : Addr) (cl : List (Str × Addr)) (fp : List Addr), SE (X.blk s H scope (compEnvC scope cl C X.env) fp) wF elt m) (hs : ∀ x, foldedSetIterable iter X.env x = pure x := by intro _; rfl) :
    SL X W (.ListComp elt [⟨tg, iter, ifs, 0⟩] scope pos) (lComp (own.map (·.2)) mi g t m) :=
  ⟨peI (pe_lc (g := tGt X wF ws g) (tt := tG relB X wF t) (te := tG relD X wF m) hc hN hi.pi ok (fun s H C cl fp => (hg s H C cl fp).pg) (fun s H C cl fp => (ht s H C cl fp).pts) (fun s H C cl fp => (he s H C cl fp).pe) hs) (tLc_of hw (fun _ _ _ _ h => h) (fun _ _ _ h => h) (fun _ _ _ h => h))⟩
/-- name = [..] -/
theorem ss_setLc {ws : List Nat} (i : Nat) {y : Str} {py spos : Pos} (hc : X.calm = true) (hN : X.N.Nodup) (hi : SI X W tg iter mi) (ok : BlkOk X.N X.env.scope scope own) (hw : ∀ j, j ∈ ws → j ∈ own.map (·.2))
    (hg : ∀ (s : Shared) (H : Hp) (C : Addr) (cl : List (Str × Addr)) (fp : List Addr), SG (X.blk s H scope (compEnvC scope cl C X.env) fp) wF tg ws g) (ht : ∀ (s : Shared) (H : Hp) (C : Addr) (cl : List (Str × Addr)) (fp : List Addr), STs (X.blk s H scope (compEnvC scope cl C X.env) fp) wF ifs t)
    (he : ∀ (s : Shared) (H : Hp) (C : Addr) (cl : List (Str × Addr)) (fp : List Addr), SE (X.blk s H scope (compEnvC scope cl C X.env) fp) wF elt m)
    (hsw : swapsWith (.ListComp elt [⟨tg, iter, ifs, 0⟩] scope pos) (some (.Name y py)) spos.line X.env = pure true) (hy : X.N[i]? = some y := by rfl) (hyl : X.env.scope.names.lookup y = some .local := by rfl) (hs : ∀ x, foldedSetIterable iter X.env x = pure x := by intro _; rfl) :
    SS X W (.Assign [.Name y py] (.ListComp elt [⟨tg, iter, ifs, 0⟩] scope pos) spos) (sAsg (eNew (lComp (own.map (·.2)) mi g t m)) (gVar i)) := by
  refine ⟨psI (ps_setLc (g := tGt X wF ws g) (tt := tG relB X wF t) (te := tG relD X wF m) hc hN hy hyl hsw hi.pi ok (fun s H C cl fp => (hg s H C cl fp).pg) (fun s H C cl fp => (ht s H C cl fp).pts) (fun s H C cl fp => (he s H C cl fp).pe) hs) fun D σ H ⟨μ, e, eh, er, hr, p⟩ => ?_⟩
  refine tLc_of hw (fun _ _ _ _ h => h) (fun _ _ _ h => h) (fun _ _ _ h => h) σ H _ ⟨μ, e, eh, er, hr, ?_⟩
  unfold sAsg eNew at p
  cases q : lComp (own.map (·.2)) mi g t m e eh with
  | bad => rw [q] at p; exact p
  | exc x h1 => rw [q] at p; exact fun μ' H' c dd y hr' re => p μ' H' σ c dd y hr' (er.ext y) re
  | ok xs eh1 =>
    rw [q] at p
    rintro μ1 H1 v x1 hr1 ⟨a, vs, rfl, hx, hn, h0, r⟩
    refine p (μ1 ++ [a]) H1 _ (x1.snoc h0 hx) (hr1.take hn hx r) (((er.ext x1).own a).set i (.ref ?_ ⟨_, hx⟩))
    rw [← hr1.len]; simp
end
end
end Sm
namespace Sm
open PySem PySem.Spec PyProof.Rows L2
section
variable {X : Cx} {W : WX}
/-! ### a list or a tuple walked -/
def asItS (d : D) (h : EH) : R Itd := match d with
  | .tup xs => .ok (itL xs) h
  | .rol xs => .ok (itL xs) h
  | .ref n => .ok (itH n) h
  | _ => .bad
def iSeq (m : Sl → EH → R D) : Sl → EH → R Itd := fun e h => (m e h).bind asItS
theorem itt_at {K : PySem.W.Frag} {H : Hp} {μ : List Addr} {eh : EH} {a : Addr} {xs : List V} {ds : List D} {i : Nat} (hx : SqT K H a xs) (r : RpAll K H μ ds xs) (hr : HeapR K H μ eh) : match (some ds[i]? : Option (Option D)) with
    | none => True
    | some none => (Itt K a).stop i H
    | some (some d) => (Itt K a).go i H ∧ ∀ x H2, (Itt K a).yld i H x H2 → Ext μ μ H H2 ∧ HeapR K H2 μ eh ∧ Rp K H2 μ d x := by
  cases e : ds[i]? with
  | none => exact ⟨xs, hx, by rw [← r.len]; exact List.getElem?_eq_none_iff.mp e⟩
  | some d =>
    obtain ⟨v, hv, rv⟩ := r.get e
    refine ⟨⟨xs, v, hx, hv⟩, fun x H2 ⟨e2, y⟩ => ?_⟩
    subst e2
    have := y xs hx
    rw [hv] at this
    cases this
    exact ⟨Ext.refl _ _, hr, rv⟩
theorem si_seq {tg a : Expr} {m : Sl → EH → R D} (ha : SE X W a m) : SI X W tg a (iSeq m) := by
  refine ⟨⟨fun pins s σ H RR I h => ?_⟩⟩
  obtain ⟨μ, e, eh, er, hr, p⟩ := h
  refine thn (ha.pe.run pins s σ H _ I ⟨μ, e, eh, er, hr, post_bind (Rl := relD) backI p⟩) fun v s1 ⟨x, H1, I1, r1, μ1, eh1, d, x1, hr1, rx, p1⟩ => ?_
  have fresh : ∀ b ∈ [s1.heap.objs.size], FpOk X pins H1 b := fun b hb => by
    rw [List.mem_singleton.mp hb]
    exact I1.fpOk (Nat.le_refl _) (I1.hok.fresh (Nat.le_refl _))
  have lists : ∀ (a : Addr) (xs : List V) (it : Itd), v = .ref a → SqL X.K H1 a xs → (relI X.K H H1 μ1 it (Itl X.K a)) → post relI X.K X.mg (fun c d H' => W c d σ H') μ1 H1 (.ok it eh1) RR →
      wpAny (model X.prog X.w) X.A (pyIter v) (PIE X pins σ tg RR) X.xe s1 := fun a xs it ev hq ri pp => by
    subst ev
    obtain ⟨its, rv, pl, _⟩ := I1.list hq
    exact wpAny_pyIter_list pl.isList ⟨_, [s1.heap.objs.size], _, _, H1, rfl, I1.kept (t' := s1.toks) fun b o e => Heap.get?_push_of_some _ e, turn_list a _, ⟨_, Heap.get?_push_size _ rfl, rfl, rfl⟩, fresh, pp μ1 H1 _ (Ext.refl _ _) hr1 ri⟩
  cases rx with
  | @rol a ds xs q r => exact lists a xs (itL ds) r1 q.l (fun i μ' H' eh' y hr' => itl_at (SqF.ext y.z q).l (r.ext y) hr') p1
  | @ref n a hn hlst =>
    obtain ⟨xs, hx⟩ := hlst
    refine lists a xs (itH n) r1 (SqL.of hx) (fun i μ' H' eh' y hr' => ?_) p1
    unfold itH
    have hn' := y.getμ hn
    cases e1 : eh'[n]? with
    | none => exact trivial
    | some o => cases o with
      | dct _ => exact trivial
      | dcl _ => exact trivial
      | lst ds =>
        obtain ⟨xs, hx, r⟩ := hr'.lst e1 hn'
        exact itl_at (SqL.of hx) r hr'
  | @tup a ds xs q r =>
    have r1 : v = .ref a := r1
    subst r1
    obtain ⟨its, rv, pt, _⟩ := I1.tuple q
    exact wpAny_pyIter_tuple (show s1.heap.IsTuple a its.toArray from pt) ⟨_, [s1.heap.objs.size], _, _, H1, rfl, I1.kept (t' := s1.toks) fun b o e => Heap.get?_push_of_some _ e, turn_tuple a _, ⟨_, Heap.get?_push_size _ rfl, rfl, rfl⟩, fresh,
      p1 μ1 H1 _ (Ext.refl _ _) hr1 fun i μ' H' eh' y hr' => itt_at (SqT.ext y.z q) (r.ext y) hr'⟩
  | _ => exact p1.elim
theorem Room.u65 {k : Nat} {A : Around} (r : Room k A) : A.units + 65 < cLine := by have := r.un; omega
end
/-! ### calls by names -/
section
variable (P : Program) (w : World) (K : PySem.W.Frag) (mg : Str → Option Value) (base : Heap)
/-- f(..) with every argument by place but those of dds, which are the defaults -/
def CallP (x : Str) (k : Nat) (m : List D → EH → R D) (dds : List D) : Prop := ∃ (f : Addr) (fd : FuncData) (ps : List Str) (dvs : List V) (ds : List Value),
  FnOk P w K mg base (L2N.CX P w) k f fd ps (spD K mg m) ∧ mg x = some (.ref f) ∧ PySem.W.keepIn K (.ref f) = true ∧ Binds K fd ps ds ∧ Vals dvs ds ∧ ∀ H μ, RpAll K H μ dds dvs
def CallK (x : Str) (k : Nat) (m : List D → EH → R D) (n : Nat) (ks : List Str) (gD : List D → List D → List D) : Prop := ∃ (f : Addr) (fd : FuncData) (ps : List Str) (g : List Value → List Value → List Value) (gV : List V → List V → List V),
  FnOk P w K mg base (L2N.CX P w) k f fd ps (spD K mg m) ∧ mg x = some (.ref f) ∧ PySem.W.keepIn K (.ref f) = true ∧ KB K fd ps n ks g gV gD
end
section
variable {X : Cx} {W : WX} {k j : Nat} {m : List D → EH → R D} {x : Str} {p pos : Pos} {a : Expr} {es : List Expr} {kws : List Keyword} {ms mk : Sl → EH → R (List D)} {dds : List D} {n : Nat} {ks : List Str} {gD : List D → List D → List D}
theorem se_p (h : CallP X.prog X.w X.K X.mg X.base x k m []) (tk : L2N.Takes X W) (hr : Room j X.A) (ha : SA X W (a :: es) ms) (hj : k ≤ j := by decide) (hg : Gl X x := by rfl) (hdb : (x == ("__debug__" : Str)) = false := by decide)
    (he : starEach (a :: es) X.env = (false, eval a X.env) :: starEach es X.env := by rfl) (hpl : (backTo pos (starEach es X.env)).any (·.1) = false := by rfl) : SE X W (.Call (.Name x p) (a :: es) [] pos) (eCall m ms) := by
  obtain ⟨f, fd, ps, dvs, ds, F, hm, hk, hb, hd, hdd⟩ := h
  have e : dvs = [] := by
    have := hdd (fun _ => none) []
    cases this
    rfl
  subst e
  cases hd
  exact se_call F tk (hr.mono hj) hm hk hb ha hg hdb he hpl
theorem se_pd (h : CallP X.prog X.w X.K X.mg X.base x k m dds) (tk : L2N.Takes X W) (hr : Room j X.A) (ha : SA X W (a :: es) ms) (hj : k ≤ j := by decide) (hg : Gl X x := by rfl) (hdb : (x == ("__debug__" : Str)) = false := by decide)
    (he : starEach (a :: es) X.env = (false, eval a X.env) :: starEach es X.env := by rfl) (hpl : (backTo pos (starEach es X.env)).any (·.1) = false := by rfl) : SE X W (.Call (.Name x p) (a :: es) [] pos) (eCallD m dds ms) := by
  obtain ⟨f, fd, ps, dvs, ds, F, hm, hk, hb, hd, hdd⟩ := h
  exact se_callD F tk (hr.mono hj) hm hk hb hd hdd ha hg hdb he hpl
theorem se_k (h : CallK X.prog X.w X.K X.mg X.base x k m n ks gD) (tk : L2N.Takes X W) (hr : Room j X.A) (ha : SA X W (a :: es) ms) (hkw : SK X W kws mk) (hj : k ≤ j := by decide) (hg : Gl X x := by rfl) (hall : (backToKw pos (keywordEach kws X.env)).all (·.1.isSome) = true := by rfl)
    (hks : (backToKw pos (keywordEach kws X.env)).filterMap (·.1) = ks := by rfl) (hdb : (x == ("__debug__" : Str)) = false := by decide) (he : starEach (a :: es) X.env = (false, eval a X.env) :: starEach es X.env := by rfl)
    (hpl : ((backTo pos (starEach (a :: es) X.env)).any (·.1) || (backToKw pos (keywordEach kws X.env)).any (·.1.isNone)) = false := by rfl) : SE X W (.Call (.Name x p) (a :: es) kws pos) (eCallK m n ks.length gD ms mk) := by
  obtain ⟨f, fd, ps, g, gV, F, hm, hk, hb⟩ := h
  exact se_callK F tk (hr.mono hj) hm hk hb ha hkw hg hall hks hdb he hpl
theorem se_k0 (h : CallK X.prog X.w X.K X.mg X.base x k m 0 ks gD) (tk : L2N.Takes X W) (hr : Room j X.A) (hkw : SK X W kws mk) (hj : k ≤ j := by decide) (hg : Gl X x := by rfl) (hall : (backToKw pos (keywordEach kws X.env)).all (·.1.isSome) = true := by rfl)
    (hks : (backToKw pos (keywordEach kws X.env)).filterMap (·.1) = ks := by rfl) (hdb : (x == ("__debug__" : Str)) = false := by decide)
    (hpl : ((backTo pos (starEach [] X.env)).any (·.1) || (backToKw pos (keywordEach kws X.env)).any (·.1.isNone)) = false := by rfl) : SE X W (.Call (.Name x p) [] kws pos) (eCallK m 0 ks.length gD aNil mk) := by
  obtain ⟨f, fd, ps, g, gV, F, hm, hk, hb⟩ := h
  exact se_callK0 F tk (hr.mono hj) hm hk hb hkw hg hall hks hdb hpl
end
section
variable {P : Program} {w : World} {K : PySem.W.Frag} {mg : Str → Option Value} {base : Heap} {x qual : Str} {params : Arguments} {body : List Stmt} {scope : Scope} {dvs : List V} {kws : List (Str × V)} {f : Addr} {fd : FuncData} {ps : List Str} {k : Nat} {m : List D → EH → R D}
theorem mkP (F : FunD K x qual params body scope [] kws f fd) (ok : FnOk P w K mg base (L2N.CX P w) k f fd ps (spD K mg m)) (g : mg x = some (.ref f))
    (h : ∀ (kV doc pm : Value) (an : Option Addr) (cdv ct : Value) (us : List Value), us.length = ps.length → bindArgs (PySem.W.fnOf x qual params body scope .none kV doc pm an cdv ct) ⟨us, []⟩ = pure (ps.zip us)) : CallP P w K mg base x k m [] :=
  ⟨f, fd, ps, [], [], ok, g, F.kp, F.bindsN h, .nil, fun _ _ => .nil⟩
/-- defaults stand, j of them are given -/
theorem mkPD (F : FunD K x qual params body scope dvs kws f fd) (ok : FnOk P w K mg base (L2N.CX P w) k f fd ps (spD K mg m)) (g : mg x = some (.ref f)) (n j : Nat) (dds : List D) (hdd : ∀ H μ, RpAll K H μ dds (dvs.drop j)) (hd : dvs ≠ []) (hn : n + (dvs.length - j) = ps.length)
    (h : ∀ (T : Addr) (kV doc pm : Value) (an : Option Addr) (cdv ct : Value) (us its : List Value), us.length = n → its.length = dvs.length →
      ∃ k, bindArgs (PySem.W.fnOf x qual params body scope (.ref T) kV doc pm an cdv ct) ⟨us, []⟩ = seqItems? (.ref T) >>= k ∧ k (some its.toArray) = pure (ps.zip (us ++ its.drop j))) : CallP P w K mg base x k m dds := by
  obtain ⟨ds, hv, hb⟩ := F.binds1 n j hd hn h
  exact ⟨f, fd, ps, _, ds, ok, g, F.kp, hb, hv, hdd⟩
/-- keywords, no defaults -/
theorem mkK (F : FunD K x qual params body scope [] kws f fd) (ok : FnOk P w K mg base (L2N.CX P w) k f fd ps (spD K mg m)) (g : mg x = some (.ref f)) (n : Nat) (ks : List Str) (gg : {α : Type} → List α → List α → List α)
    (h : ∀ (kV doc pm : Value) (an : Option Addr) (cdv ct : Value) (us ws : List Value), us.length = n → ws.length = ks.length → bindArgs (PySem.W.fnOf x qual params body scope .none kV doc pm an cdv ct) ⟨us, ks.zip ws⟩ = pure (ps.zip (gg us ws)))
    (h1 : ∀ {vs : List V} {us : List Value} {zs : List V} {ws : List Value}, vs.length = n → zs.length = ks.length → Vals vs us → Vals zs ws → Vals (gg vs zs) (gg us ws) ∧ (gg vs zs).length = ps.length)
    (h2 : ∀ {H : Hp} {μ : List Addr} {ds : List D} {vs : List V} {es : List D} {zs : List V}, ds.length = n → es.length = ks.length → RpAll K H μ ds vs → RpAll K H μ es zs → RpAll K H μ (gg ds es) (gg vs zs)) : CallK P w K mg base x k m n ks gg := by
  obtain ⟨oc, od, dV, kV, doc, pm, an, cdv, ct, osl, rfl, lk, hcd, hD, hK⟩ := F.ex
  rcases hD with ⟨_, rfl⟩ | ⟨e, _⟩
  · exact ⟨f, _, ps, gg, gg, ok, g, F.kp, ⟨fun s us ws _ l1 l2 => .of_eq (h kV doc pm an cdv ct us ws l1 l2), h1, h2⟩⟩
  · exact absurd rfl e
end
/-! ### the end -/
theorem rp_script {K : PySem.W.Frag} {H : Hp} {a : Addr} {ns : List Int} (hO : Only H) (h : SqL K H a (ns.map V.int)) : Rp K H [] (.rol (ns.map D.int)) (.ref a) := by
  have r : RpAll K H [] (ns.map D.int) (ns.map V.int) := by
    induction ns with
    | nil => exact .nil
    | cons n ns ih => exact .cons (.int n) (by
        clear h
        clear ih
        induction ns with
        | nil => exact .nil
        | cons m ns ih => exact .cons (.int m) ih)
  refine .rol ?_ r
  rcases h with (h | ⟨o, h⟩) | h
  · rcases hO a with z | ⟨o, xs, z⟩
    · rw [z] at h; cases h
    · rw [z] at h; cases h
  · exact .inl ⟨o, h⟩
  · exact .inr h
theorem sp_law {K : PySem.W.Frag} {mg : Str → Option Value} {H : Hp} {a : Addr} {ns : List Int} {m : List D → EH → R D} {h' : EH} (hT : lamT K = []) (hO : Only H) (h : SqL K H a (ns.map V.int)) (e : m [.rol (ns.map D.int)] [] = .ok (.bl true) h') : spD K mg m [.ref a] H (fun v _ => v = .bl true) fun _ _ _ => False := by
  refine ⟨[], [], [.rol (ns.map D.int)], ⟨rfl, List.nodup_nil, fun n o a h => by simp at h, fun p hp => absurd hp (by simp [hT])⟩, .one (rp_script hO h), ?_⟩
  rw [e]
  intro μ' H' v _ _ r
  cases r
  rfl
/-- a law's end, what its def may let out told by the world -/
theorem walk_end {l : PySem.W.OpenLaw} {k : Nat} {q : Program} {loose : List Str} {XP : (Str → Option Value) → Heap → Prop} {YP : World → Heap → Prop} {d : DefRec} {x : Str} {CC : World → CXT} (h63 : l.most = some 63) (h0 : d.params.defaults = []) (room : Room k callerA)
    (body : ∀ (w : World) (mg : Str → Option Value) (fa : Addr) (h : Heap), YP w h → h.Ns mainGlobals mg → mg d.name = some (.ref fa) → ∃ (K : PySem.W.Frag) (fd : FuncData) (sp : Sp), K.In h ∧ (∀ (s : Shared) (u : Value), BindsTo s fd ⟨[u], []⟩ [(x, u)]) ∧
      (∀ (H : Hp) (a : Addr) (ns : List Int), ns.length ≤ 63 → Only H → SqL K H a (ns.map V.int) → sp [.ref a] H (fun v _ => v = .bl true) fun _ _ _ => False) ∧ ∀ base : Heap, K.In base → base.Ns mainGlobals mg → FnOk l.prog w K mg base (CC w) k fa fd [x] sp)
    (quiet : ∀ (w : World) (H : Hp) (s : Shared) (e : Value) (s' : Shared), CC w [] H s (fun _ _ _ => False) e s' → False) : PySem.W.WalkO q loose XP YP l.row.toRowW d [] (fun f vs => PySem.call f vs) :=
  Att.attach_call h63 h0 fun w _ s₁ mg _ fa _ _ _ _ _ _ ns G Y _ _ _ hmg ho hi hl hg => by
    obtain ⟨K, fd, sp, KX, hb, hsp, hF⟩ := body w mg fa _ Y G.T.g hmg
    exact law_call (w := w) KX G.T.g G.T.b G.T.builtins G.T.nolimit hg ho hi (Nat.le_trans hl (by decide)) room hF hb (fun H a b => hsp H _ ns hl a b) fun H e s' => quiet w H s₁ e s'
theorem cx_none {P : Program} {w : World} (H : Hp) (s : Shared) (e : Value) (s' : Shared) (h : L2N.CX P w [] H s (fun _ _ _ => False) e s') : False := by
  obtain ⟨_, _, _, _, _, _, _, _, _, _, _, _, z⟩ := h
  exact z
end Sm
namespace Sm
open PySem PySem.Spec PyProof.Rows L2
section
variable {X : Cx} {W : WX}
theorem RpAll.rev {K : PySem.W.Frag} {H : Hp} {μ : List Addr} : ∀ {ds : List D} {vs : List V}, RpAll K H μ ds vs → RpAll K H μ ds.reverse vs.reverse
  | _, _, .nil => .nil
  | _, _, .cons r1 r2 => by
    rw [List.reverse_cons, List.reverse_cons]
    exact (RpAll.rev r2).app (.one r1)
/-! ### what is never reached -/
def eBad : Sl → EH → R D := fun _ _ => .bad
def lBad : Sl → EH → R (List D) := fun _ _ => .bad
def bBad : Sl → EH → R Bool := fun _ _ => .bad
def iBad : Sl → EH → R Itd := fun _ _ => .bad
theorem se_bad {e : Expr} : SE X W e eBad := ⟨⟨fun pins s σ H Q I ⟨μ, e, eh, er, hr, p⟩ => p.elim⟩⟩
theorem sl_bad {e : Expr} : SL X W e lBad := ⟨⟨fun pins s σ H Q I ⟨μ, e, eh, er, hr, p⟩ => p.elim⟩⟩
/-! ### is -/
def isNon : D → Bool
  | .non => true
  | _ => false
def isBl (b : Bool) : D → Bool
  | .bl a => decide (a = b)
  | _ => false
def oIs : D → D → EH → Option (D × EH)
  | x, .non, h => some (.bl (isNon x), h)
  | x, .bl b, h => some (.bl (isBl b x), h)
  | _, _, _ => none
def oIsNot : D → D → EH → Option (D × EH)
  | x, .non, h => some (.bl (!isNon x), h)
  | x, .bl b, h => some (.bl (!isBl b x), h)
  | _, _, _ => none
theorem or_is : OpR X (compareOp .Is) (rD X oIs) := by
  intro pins s σ H x y v u Q I rx ry ⟨μ, eh, dx, dy, hr, r1, r2, o⟩
  cases r2 with
  | non =>
    refine op_isN pins s σ H _ _ v u Q I rx ry ⟨rfl, ?_⟩
    cases r1 <;> exact outD_val o hr (.bl _)
  | bl b =>
    cases r1 with
    | bl a => exact op_isBl pins s σ H _ _ v u Q I rx ry ⟨a, b, rfl, rfl, outD_val o hr (.bl _)⟩
    | _ =>
      cases ry
      have q : Q (.bl false) H := outD_val o hr (.bl _)
      first
        | (cases rx; exact wpAny_is_other rfl (fun z => by cases z) ⟨.bl false, H, I, rfl, q⟩)
        | (obtain ⟨t, rfl⟩ := rx; exact wpAny_is_other rfl (fun z => by cases z) ⟨.bl false, H, I, rfl, q⟩)
  | _ => cases r1 <;> exact o.elim
theorem or_isNot : OpR X (compareOp .IsNot) (rD X oIsNot) := by
  intro pins s σ H x y v u Q I rx ry ⟨μ, eh, dx, dy, hr, r1, r2, o⟩
  cases r2 with
  | non =>
    refine op_notN pins s σ H _ _ v u Q I rx ry ⟨rfl, ?_⟩
    cases r1 <;> exact outD_val o hr (.bl _)
  | bl b =>
    cases r1 with
    | bl a => exact op_notBl pins s σ H _ _ v u Q I rx ry ⟨a, b, rfl, rfl, outD_val o hr (.bl _)⟩
    | _ =>
      cases ry
      have q : Q (.bl true) H := outD_val o hr (.bl _)
      first
        | (cases rx; exact wpAny_isNot_other rfl (fun z => by cases z) ⟨.bl true, H, I, rfl, q⟩)
        | (obtain ⟨t, rfl⟩ := rx; exact wpAny_isNot_other rfl (fun z => by cases z) ⟨.bl true, H, I, rfl, q⟩)
  | _ => cases r1 <;> exact o.elim
/-! ### truth of any value -/
def asT (d : D) (h : EH) : R Bool := match d with
  | .bl b => .ok b h
  | .non => .ok false h
  | .int i => .ok (i != 0) h
  | .str z => if z.length ≤ sizeLine then .ok ((z.length : Int) != 0) h else .bad
  | .tup xs => .ok (!xs.isEmpty) h
  | .rol xs => .ok (!xs.isEmpty) h
  | .ref n => (match h[n]? with
    | some (.lst xs) => .ok (!xs.isEmpty) h
    | _ => .bad)
  | .dic _ => .bad
  | .ty _ => .bad
  | .exn _ _ => .bad
  | .cls _ => .bad
def bTru (m : Sl → EH → R D) : Sl → EH → R Bool := fun e h => (m e h).bind asT
theorem empty_all {K : PySem.W.Frag} {H : Hp} {μ : List Addr} {ds : List D} {vs : List V} (r : RpAll K H μ ds vs) : ds.isEmpty = vs.isEmpty := by
  cases r <;> rfl
theorem sb_tru {a : Expr} {m : Sl → EH → R D} (h : SE X W a m) (he : ∀ whole, isTrue a X.env whole = (do let v ← whole; standAt a.pos; holding [v] (truthy v)) := by intro _; rfl) : SB X W a (bTru m) := by
  refine ⟨ptI (pt_truth h.pe he) fun σ H Q ⟨μ, e, eh, er, hr, p⟩ => ⟨μ, e, eh, er, hr, post_mono (post_bind (Rl := relD) backB p) ?_⟩⟩
  rintro x H1 ⟨μ1, eh1, d, x1, hr1, rx, p1⟩
  unfold asT at p1
  cases rx with
  | non => exact ⟨false, rfl, p1 μ1 H1 _ (Ext.refl _ _) hr1 rfl⟩
  | bl b => exact ⟨b, rfl, p1 μ1 H1 _ (Ext.refl _ _) hr1 rfl⟩
  | int i => exact ⟨_, rfl, p1 μ1 H1 _ (Ext.refl _ _) hr1 rfl⟩
  | str z =>
    simp only at p1
    by_cases c : z.length ≤ sizeLine
    · rw [if_pos c] at p1
      exact ⟨_, ⟨c, rfl⟩, p1 μ1 H1 _ (Ext.refl _ _) hr1 rfl⟩
    · rw [if_neg c] at p1; exact p1.elim
  | dic _ => exact p1.elim
  | ty n => exact p1.elim
  | exn => exact p1.elim
  | cls => exact p1.elim
  | @tup a ds xs q r => exact ⟨_, .inr (.inl ⟨xs, q, rfl⟩), by rw [← empty_all r]; exact p1 μ1 H1 _ (Ext.refl _ _) hr1 rfl⟩
  | @rol a ds xs q r => exact ⟨_, .inl ⟨xs, q.l, rfl⟩, by rw [← empty_all r]; exact p1 μ1 H1 _ (Ext.refl _ _) hr1 rfl⟩
  | @ref n a ha hlst =>
    simp only at p1
    cases e1 : eh1[n]? with
    | none => rw [e1] at p1; exact p1.elim
    | some o1 => cases o1 with
      | dct _ => rw [e1] at p1; exact p1.elim
      | dcl _ => rw [e1] at p1; exact p1.elim
      | lst ds =>
        rw [e1] at p1
        obtain ⟨xs, hx, r⟩ := hr1.lst e1 ha
        exact ⟨_, .inl ⟨xs, SqL.of hx, rfl⟩, by rw [← empty_all r]; exact p1 μ1 H1 _ (Ext.refl _ _) hr1 rfl⟩
/-! ### a list times an int -/
theorem rep_all {K : PySem.W.Frag} {H : Hp} {μ : List Addr} {ds : List D} {vs : List V} (r : RpAll K H μ ds vs) : ∀ k : Nat, RpAll K H μ (List.replicate k ds).flatten (List.replicate k vs).flatten
  | 0 => .nil
  | k + 1 => by
    rw [List.replicate_succ, List.replicate_succ, List.flatten_cons, List.flatten_cons]
    exact r.app (rep_all r k)
noncomputable def oRep : D → D → EH → Option (D × EH)
  | .ref n, .int k, h => match h[n]? with
    | some (.lst xs) => if rg1 k then (if xs.length * k.toNat ≤ sizeLine then some (.ref h.length, h ++ [.lst (List.replicate k.toNat xs).flatten]) else none) else none
    | _ => none
  | _, _, _ => none
theorem or_rep : OpR X (binaryOp .Mult) (rD X oRep) := by
  intro pins s σ H x y v u Q I rx ry ⟨μ, eh, dx, dy, hr, r1, r2, o⟩
  cases r1 with
  | @ref n a ha hlst => cases r2 with
    | int k =>
      simp only [oRep] at o
      cases e1 : eh[n]? with
      | none => rw [e1] at o; exact o.elim
      | some o1 => cases o1 with
        | dct _ => rw [e1] at o; exact o.elim
        | dcl _ => rw [e1] at o; exact o.elim
        | lst ds =>
          rw [e1] at o
          simp only at o
          obtain ⟨xs, hx, q⟩ := hr.lst e1 ha
          by_cases c : rg1 k
          · rw [if_pos c] at o
            have c1 := c.1
            have c2 := c.2
            by_cases c3 : ds.length * k.toNat ≤ sizeLine
            · rw [if_pos c3] at o
              exact op_rep pins s σ H _ _ v u Q I rx ry ⟨a, k, xs, rfl, rfl, hx, by omega, by omega, by rw [← q.len]; exact c3, fun p hp => outD_lst o hr (rep_all q _) hp⟩
            · rw [if_neg c3] at o; exact o.elim
          · rw [if_neg c] at o; exact o.elim
    | _ => exact o.elim
  | _ => exact o.elim
/-! ### tuple(x) -/
def fTuple : List D → EH → Option (D × EH)
  | [.tup xs], h => some (.tup xs, h)
  | [.rol xs], h => some (.tup xs, h)
  | [.ref n], h => match h[n]? with
    | some (.lst xs) => some (.tup xs, h)
    | _ => none
  | _, _ => none
theorem cr_tuple : CallR X (.type "tuple") (rA X fTuple) := by
  intro pins s σ H vs us Q I r ⟨μ, eh, ds, hr, ra, o⟩
  cases ra with
  | nil => exact o.elim
  | cons r1 r2 => cases r2 with
    | cons _ _ => cases r1 <;> exact o.elim
    | nil => cases r1 with
      | @tup a ds xs h q => exact call_tuple_of pins s σ H _ us Q I r ⟨a, xs, rfl, .inr ⟨h, outD_val o hr (.tup h q)⟩⟩
      | @rol a ds xs h q => exact call_tuple_of pins s σ H _ us Q I r ⟨a, xs, rfl, .inl ⟨h.l, fun l hl => outD_tup o hr q hl⟩⟩
      | @ref n a ha hlst =>
        simp only [fTuple] at o
        cases e1 : eh[n]? with
        | none => rw [e1] at o; exact o.elim
        | some o1 => cases o1 with
          | dct _ => rw [e1] at o; exact o.elim
          | dcl _ => rw [e1] at o; exact o.elim
          | lst ds =>
            rw [e1] at o
            obtain ⟨xs, hx, q⟩ := hr.lst e1 ha
            exact call_tuple_of pins s σ H _ us Q I r ⟨a, xs, rfl, .inl ⟨SqL.of hx, fun l hl => outD_tup o hr q hl⟩⟩
      | _ => exact o.elim
/-! ### max([..]), min([..]) of ints at hand -/
def intsD : List D → Option (List Int) := allO fun d => match d with
  | .int b => some b
  | _ => none
theorem ints_of {K : PySem.W.Frag} {H : Hp} {μ : List Addr} : ∀ {ds : List D} {vs : List V} {bs : List Int}, intsD ds = some bs → RpAll K H μ ds vs → vs = bs.map V.int
  | [], _, _, h, r => by
    cases r
    cases h
    rfl
  | d :: ds, _, bs, h, r => by
    cases r with
    | cons r1 r2 =>
      unfold intsD allO at h
      cases r1 with
      | int b =>
        simp only at h
        cases e : allO (fun d : D => match d with | .int b => some b | _ => none) ds with
        | none => rw [e] at h; cases h
        | some qs =>
          rw [e] at h
          cases h
          have ih := ints_of (ds := ds) (bs := qs) e r2
          rw [ih]
          rfl
      | _ => cases h
def maxOf : List Int → Int
  | [] => 0
  | x :: xs => xs.foldl max x
def minOf : List Int → Int
  | [] => 0
  | x :: xs => xs.foldl min x
theorem foldl_max {x : Int} : ∀ {xs : List Int}, x ≤ xs.foldl max x ∧ (∀ y ∈ xs, y ≤ xs.foldl max x) ∧ (xs.foldl max x = x ∨ xs.foldl max x ∈ xs)
  | [] => ⟨Int.le_refl _, by simp, .inl rfl⟩
  | y :: xs => by
    obtain ⟨a, b, c⟩ := foldl_max (x := max x y) (xs := xs)
    rw [List.foldl_cons]
    refine ⟨by omega, fun z hz => ?_, ?_⟩
    · rcases List.mem_cons.mp hz with rfl | hz
      · omega
      · exact b z hz
    · rcases c with c | c
      · rw [c]
        by_cases l : x ≤ y
        · exact .inr (by rw [Int.max_eq_right l]; simp)
        · exact .inl (by omega)
      · exact .inr (List.mem_cons_of_mem _ c)
theorem foldl_min {x : Int} : ∀ {xs : List Int}, xs.foldl min x ≤ x ∧ (∀ y ∈ xs, xs.foldl min x ≤ y) ∧ (xs.foldl min x = x ∨ xs.foldl min x ∈ xs)
  | [] => ⟨Int.le_refl _, by simp, .inl rfl⟩
  | y :: xs => by
    obtain ⟨a, b, c⟩ := foldl_min (x := min x y) (xs := xs)
    rw [List.foldl_cons]
    refine ⟨by omega, fun z hz => ?_, ?_⟩
    · rcases List.mem_cons.mp hz with rfl | hz
      · omega
      · exact b z hz
    · rcases c with c | c
      · rw [c]
        by_cases l : y ≤ x
        · exact .inr (by rw [Int.min_eq_right l]; simp)
        · exact .inl (by omega)
      · exact .inr (List.mem_cons_of_mem _ c)
theorem maxOf_mem {xs : List Int} (h : 0 < xs.length) : maxOf xs ∈ xs ∧ ∀ y ∈ xs, y ≤ maxOf xs := by
  cases xs with
  | nil => simp at h
  | cons x xs =>
    obtain ⟨a, b, c⟩ := foldl_max (x := x) (xs := xs)
    refine ⟨?_, fun y hy => ?_⟩
    · rcases c with c | c
      · exact List.mem_cons.mpr (.inl c)
      · exact List.mem_cons_of_mem _ c
    · rcases List.mem_cons.mp hy with rfl | hy
      · exact a
      · exact b y hy
theorem minOf_mem {xs : List Int} (h : 0 < xs.length) : minOf xs ∈ xs ∧ ∀ y ∈ xs, minOf xs ≤ y := by
  cases xs with
  | nil => simp at h
  | cons x xs =>
    obtain ⟨a, b, c⟩ := foldl_min (x := x) (xs := xs)
    refine ⟨?_, fun y hy => ?_⟩
    · rcases c with c | c
      · exact List.mem_cons.mpr (.inl c)
      · exact List.mem_cons_of_mem _ c
    · rcases List.mem_cons.mp hy with rfl | hy
      · exact a
      · exact b y hy
def rLi (f : List Int → Int) (K : PySem.W.Frag) : List V → Hp → VK → Prop := fun vs H Q => ∃ (a : Addr) (ns : List Int), vs = [V.ref a] ∧ SqL K H a (ns.map V.int) ∧ 0 < ns.length ∧ Q (.int (f ns)) H
theorem ci_max (hc : X.calm = true) : CallR X (.builtin "max") (rLi maxOf X.K) := fun pins s σ H vs us Q I r ⟨a, ns, e, hs, hl, q⟩ =>
  cr_max hc pins s σ H vs us Q I r ⟨a, ns, e, hs, hl, fun m hm hy => by
    obtain ⟨a1, a2⟩ := maxOf_mem hl
    have e : m = maxOf ns := by have := hy _ a1; have := a2 m hm; omega
    rw [e]; exact q⟩
theorem ci_min (hc : X.calm = true) : CallR X (.builtin "min") (rLi minOf X.K) := fun pins s σ H vs us Q I r ⟨a, ns, e, hs, hl, q⟩ =>
  cr_min hc pins s σ H vs us Q I r ⟨a, ns, e, hs, hl, fun m hm hy => by
    obtain ⟨a1, a2⟩ := minOf_mem hl
    have e : m = minOf ns := by have := hy _ a1; have := a2 m hm; omega
    rw [e]; exact q⟩
theorem ci_sum (hc : X.calm = true) : CallR X (.builtin "sum") (rLi List.sum X.K) := fun pins s σ H vs us Q I r ⟨a, ns, e, hs, hl, q⟩ => cr_sum hc pins s σ H vs us Q I r ⟨a, ns, e, hs, q⟩
def eLI (f : List Int → Int) (m : Sl → EH → R (List D)) : Sl → EH → R D := fun e h => (m e h).bind fun ds h1 => match intsD ds with
  | some ns => if 0 < ns.length then .ok (.int (f ns)) h1 else .bad
  | none => .bad
theorem se_li {f : List Int → Int} {id : String} {x : Str} {a : Expr} {m : Sl → EH → R (List D)} {p pos : Pos} (hc : CallR X (.builtin id) (rLi f X.K)) (hm : X.mg x = none) (ha : SL X W a m) (hg : Gl X x := by rfl)
    (hv : bootBuiltins x = some (.builtin id) := by decide +kernel) (hn : x ≠ "__name__" := by decide) (hdb : (x == ("__debug__" : Str)) = false := by decide) (he : starEach [a] X.env = (false, eval a X.env) :: starEach [] X.env := by rfl) : SE X W (.Call (.Name x p) [a] [] pos) (eLI f m) := by
  refine ⟨peI (pe_callB hc hg hm hv (pa_cons ha.pe pa_nil he) hn hdb (he := he)) fun σ H Q ⟨μ, e, eh, er, hr, p⟩ => ⟨μ, e, eh, er, hr, post_mono (post_bind (Rl := relT) backD p) ?_⟩⟩
  rintro x H1 ⟨μ1, eh1, ds, x1, hr1, ⟨a, vs, rfl, hx, _, _, r⟩, p1⟩
  cases e : intsD ds with
  | none => simp only [e] at p1; exact p1.elim
  | some bs =>
    simp only [e] at p1
    rw [ints_of e r] at hx
    by_cases c : 0 < bs.length
    · rw [if_pos c] at p1
      exact ⟨a, bs, rfl, SqL.of hx, c, p1 μ1 H1 _ (Ext.refl _ _) hr1 (.int _)⟩
    · rw [if_neg c] at p1; exact p1.elim
/-- max(xs), min(xs) of a list of the heap -/
def fLi (f : List Int → Int) : List D → EH → Option (D × EH)
  | [.ref n], h => match h[n]? with
    | some (.lst ds) => match intsD ds with
      | some ns => if 0 < ns.length then some (.int (f ns), h) else none
      | none => none
    | _ => none
  | _, _ => none
theorem cr_li {f : List Int → Int} {id : String} (hc : CallR X (.builtin id) (rLi f X.K)) : CallR X (.builtin id) (rA X (fLi f)) := by
  intro pins s σ H vs us Q I r ⟨μ, eh, ds, hr, ra, o⟩
  cases ra with
  | nil => exact o.elim
  | cons r1 r2 => cases r2 with
    | cons _ _ => cases r1 <;> exact o.elim
    | nil => cases r1 with
      | @ref n a ha hlst =>
        simp only [fLi] at o
        cases e1 : eh[n]? with
        | none => rw [e1] at o; exact o.elim
        | some o1 => cases o1 with
          | dct _ => rw [e1] at o; exact o.elim
          | dcl _ => rw [e1] at o; exact o.elim
          | lst ds =>
            rw [e1] at o
            simp only at o
            obtain ⟨xs, hx, q⟩ := hr.lst e1 ha
            cases e : intsD ds with
            | none => rw [e] at o; exact o.elim
            | some bs =>
              rw [e] at o
              simp only at o
              rw [ints_of e q] at hx
              by_cases c : 0 < bs.length
              · rw [if_pos c] at o
                exact hc pins s σ H _ us Q I r ⟨a, bs, rfl, SqL.of hx, c, outD_val o hr (.int _)⟩
              · rw [if_neg c] at o; exact o.elim
      | _ => exact o.elim
def asRev (d : D) (h : EH) : R D := match d with
  | .ref n => match h[n]? with
    | some (.lst xs) => .ok (.ref h.length) (h ++ [.lst xs.reverse])
    | _ => .bad
  | _ => .bad
def eRev (m : Sl → EH → R D) : Sl → EH → R D := fun e h => (m e h).bind asRev
theorem se_rev {a : Expr} {m : Sl → EH → R D} {k : Nat} {p1 p2 p3 pos : Pos} (ha : SE X W a m) : SE X W (.Subscript a (.Slice none none (some (.UnaryOp .USub (.Constant (.int 1) k p1) p2)) p3) pos) (eRev m) := by
  refine ⟨peI (pe_revL ha.pe) fun σ H Q ⟨μ, e, eh, er, hr, p⟩ => ⟨μ, e, eh, er, hr, post_mono (post_bind (Rl := relD) backD p) ?_⟩⟩
  rintro x H1 ⟨μ1, eh1, d, x1, hr1, rx, p1⟩
  unfold asRev at p1
  cases rx with
  | @ref n a ha hlst =>
    simp only at p1
    cases e1 : eh1[n]? with
    | none => rw [e1] at p1; exact p1.elim
    | some o1 => cases o1 with
      | dct _ => rw [e1] at p1; exact p1.elim
      | dcl _ => rw [e1] at p1; exact p1.elim
      | lst ds =>
        rw [e1] at p1
        obtain ⟨xs, hx, q⟩ := hr1.lst e1 ha
        refine ⟨a, xs, rfl, SqL.of hx, fun l hl => ?_⟩
        have o : outD X μ1 H1 (some (.ref eh1.length, eh1 ++ [.lst ds.reverse])) Q := p1
        exact outD_lst o hr1 q.rev hl
  | _ => exact p1.elim
/-! ### more methods of lists -/
theorem RpAll.eraseAt {K : PySem.W.Frag} {H : Hp} {μ : List Addr} {ds : List D} {vs : List V} (r : RpAll K H μ ds vs) (k : Nat) : RpAll K H μ (ds.eraseIdx k) (vs.eraseIdx k) := by
  rw [List.eraseIdx_eq_take_drop_succ, List.eraseIdx_eq_take_drop_succ]
  exact (r.take _).app (r.drop _)
noncomputable def fPopAt : D → List D → EH → Option (D × EH)
  | .ref n, [.int i], h => match h[n]? with
    | some (.lst xs) => if rg1 i then (if 0 ≤ i then (match xs[i.toNat]? with
      | some d => some (d, h.set n (.lst (xs.eraseIdx i.toNat)))
      | none => none) else none) else none
    | _ => none
  | _, _, _ => none
theorem mr_popAt : MtR X "list.pop" (rM X fPopAt) := by
  intro pins s σ H x vs v us Q I rx rv ⟨μ, eh, dx, ds, hr, r1, r2, o⟩
  cases r1 with
  | @ref n a ha hlst => cases r2 with
    | nil => exact o.elim
    | cons r3 r4 => cases r4 with
      | cons _ _ => cases r3 <;> exact o.elim
      | nil => cases r3 with
        | int i =>
          simp only [fPopAt] at o
          cases e1 : eh[n]? with
          | none => rw [e1] at o; exact o.elim
          | some o1 => cases o1 with
            | dct _ => rw [e1] at o; exact o.elim
            | dcl _ => rw [e1] at o; exact o.elim
            | lst ds =>
              rw [e1] at o
              simp only at o
              obtain ⟨xs, hx, q⟩ := hr.lst e1 ha
              have l := q.len
              by_cases c : rg1 i
              · rw [if_pos c] at o
                by_cases c0 : 0 ≤ i
                · rw [if_pos c0] at o
                  cases e2 : ds[i.toNat]? with
                  | none => rw [e2] at o; exact o.elim
                  | some d =>
                    rw [e2] at o
                    obtain ⟨y, hy, ry⟩ := q.get e2
                    have hlt := (List.getElem?_eq_some_iff.mp hy).1
                    have c1 := c.1
                    have c2 := c.2
                    refine mt_popAt pins s σ H _ _ v us Q I rx rv ⟨a, xs, i, i.toNat, y, rfl, rfl, hx, by omega, by omega, ?_, hy, outD_put o hr e1 ha (q.eraseAt _) ry⟩
                    unfold seqIndex?
                    simp only [if_neg (Int.not_lt.mpr c0)]
                    rw [if_pos (by simp only [Bool.and_eq_true, decide_eq_true_eq]; omega)]
                · rw [if_neg c0] at o; exact o.elim
              · rw [if_neg c] at o; exact o.elim
        | _ => exact o.elim
  | _ => exact o.elim
def fReverse : D → List D → EH → Option (D × EH)
  | .ref n, [], h => match h[n]? with
    | some (.lst xs) => some (.non, h.set n (.lst xs.reverse))
    | _ => none
  | _, _, _ => none
theorem mr_reverse : MtR X "list.reverse" (rM X fReverse) := by
  intro pins s σ H x vs v us Q I rx rv ⟨μ, eh, dx, ds, hr, r1, r2, o⟩
  cases r1 with
  | @ref n a ha hlst => cases r2 with
    | cons _ _ => exact o.elim
    | nil =>
        simp only [fReverse] at o
        cases e1 : eh[n]? with
        | none => rw [e1] at o; exact o.elim
        | some o1 => cases o1 with
          | dct _ => rw [e1] at o; exact o.elim
          | dcl _ => rw [e1] at o; exact o.elim
          | lst ds =>
            rw [e1] at o
            obtain ⟨xs, hx, q⟩ := hr.lst e1 ha
            exact mt_reverse pins s σ H _ _ v us Q I rx rv ⟨a, xs, rfl, rfl, hx, outD_put o hr e1 ha q.rev .non⟩
  | _ => exact o.elim
def fExtend : D → List D → EH → Option (D × EH)
  | .ref n, [.ref m], h => match h[n]?, h[m]? with
    | some (.lst xs), some (.lst ys) => if xs.length + ys.length ≤ sizeLine then some (.non, h.set n (.lst (xs ++ ys))) else none
    | _, _ => none
  | _, _, _ => none
theorem mr_extend : MtR X "list.extend" (rM X fExtend) := by
  intro pins s σ H x vs v us Q I rx rv ⟨μ, eh, dx, ds, hr, r1, r2, o⟩
  cases r1 with
  | @ref n a ha hlst => cases r2 with
    | nil => exact o.elim
    | cons r3 r4 => cases r4 with
      | cons _ _ => cases r3 <;> exact o.elim
      | nil => cases r3 with
        | @ref m b hb hlst2 =>
          simp only [fExtend] at o
          cases e1 : eh[n]? with
          | none => rw [e1] at o; exact o.elim
          | some o1 => cases e2 : eh[m]? with
            | none => rw [e1, e2] at o; cases o1 <;> exact o.elim
            | some o2 => cases o1 with
              | dct _ => rw [e1, e2] at o; exact o.elim
              | dcl _ => rw [e1, e2] at o; exact o.elim
              | lst ds => cases o2 with
                | dct _ => rw [e1, e2] at o; exact o.elim
                | dcl _ => rw [e1, e2] at o; exact o.elim
                | lst es =>
                  rw [e1, e2] at o
                  simp only at o
                  obtain ⟨xs, hx, q⟩ := hr.lst e1 ha
                  obtain ⟨ys, hy, q2⟩ := hr.lst e2 hb
                  have l := q.len
                  have l2 := q2.len
                  by_cases c : ds.length + es.length ≤ sizeLine
                  · rw [if_pos c] at o
                    exact mt_extend pins s σ H _ _ v us Q I rx rv ⟨a, b, xs, ys, rfl, rfl, hx, hy, by omega, outD_put o hr e1 ha (q.app q2) .non⟩
                  · rw [if_neg c] at o; exact o.elim
        | _ => exact o.elim
  | _ => exact o.elim
/-! ### a, b, .. = a tuple or a list -/
def gUnp (n : Nat) (gs : List D → Sl → EH → R Sl) : D → Sl → EH → R Sl := fun d e h => match d with
  | .tup ds => if ds.length = n then gs ds e h else .bad
  | .rol ds => if ds.length = n then gs ds e h else .bad
  | .ref m => (match h[m]? with
    | some (.lst ds) => if ds.length = n then gs ds e h else .bad
    | _ => .bad)
  | _ => .bad
theorem sg_unp {es : List Expr} {k : Nat} {n : Nat} {vs : List Nat} {gs : List D → Sl → EH → R Sl} {pos : Pos} (hc : X.calm = true) (hs : SGs X W es vs gs) (hn : (assignEach es X.env).length = n := by rfl) (hst : (assignEach es X.env).findIdx? (·.1) = none := by rfl) :
    SG X W (.Tuple es k pos) vs (gUnp n gs) := by
  refine ⟨⟨fun pins s σ H v u Q I rv ⟨μ, e, eh, d, er, hr, rd, p⟩ => ?_⟩⟩
  have h1 := pg_tup (k := k) (pos := pos) hc hs.pgs hn hst
  have h2 := pg_unl (k := k) (pos := pos) hc hs.pgs hn hst
  unfold gUnp at p
  cases rd with
  | @tup a ds xs q r =>
    simp only at p
    by_cases c : ds.length = n
    · rw [if_pos c] at p
      exact h1.run pins s σ H _ u Q I rv ⟨a, xs, rfl, q, by rw [← r.len]; exact c, μ, e, eh, ds, er, hr, r, p⟩
    · rw [if_neg c] at p; exact p.elim
  | @rol a ds xs q r =>
    simp only at p
    by_cases c : ds.length = n
    · rw [if_pos c] at p
      exact h2.run pins s σ H _ u Q I rv ⟨a, xs, rfl, q.l, by rw [← r.len]; exact c, μ, e, eh, ds, er, hr, r, p⟩
    · rw [if_neg c] at p; exact p.elim
  | @ref m a ha hlst =>
    simp only at p
    cases e1 : eh[m]? with
    | none => rw [e1] at p; exact p.elim
    | some o1 => cases o1 with
      | dct _ => rw [e1] at p; exact p.elim
      | dcl _ => rw [e1] at p; exact p.elim
      | lst ds =>
        rw [e1] at p
        simp only at p
        obtain ⟨xs, hx, q⟩ := hr.lst e1 ha
        by_cases c : ds.length = n
        · rw [if_pos c] at p
          exact h2.run pins s σ H _ u Q I rv ⟨a, xs, rfl, SqL.of hx, by rw [← q.len]; exact c, μ, e, eh, ds, er, hr, q, p⟩
        · rw [if_neg c] at p; exact p.elim
  | _ => exact p.elim
/-! ### zip, enumerate of lists -/
def itZ (n m : Nat) : Itd := fun i h => match h[n]?, h[m]? with
  | some (.lst xs), some (.lst ys) => (match xs[i]?, ys[i]? with
    | some x, some y => some (some (.tup [x, y]))
    | _, _ => some none)
  | _, _ => none
def asZip (ds : List D) (h : EH) : R Itd := match ds with
  | [.ref n, .ref m] => match h[n]?, h[m]? with
    | some _, some _ => .ok (itZ n m) h
    | _, _ => .bad
  | _ => .bad
def itE (n : Nat) : Itd := fun i h => match h[n]? with
  | some (.lst xs) => (match xs[i]? with
    | some x => some (some (.tup [.int (i : Nat), x]))
    | none => some none)
  | _ => none
def asEnum (ds : List D) (h : EH) : R Itd := match ds with
  | [.ref n] => match h[n]? with
    | some _ => .ok (itE n) h
    | _ => .bad
  | _ => .bad
theorem si_zip {a b : Expr} {ms : Sl → EH → R (List D)} {p pos tpos : Pos} {elts : List Expr} {kk : Nat} (hm : X.mg "zip" = none) (ha : SA X W [a, b] ms) (hg : Gl X "zip" := by rfl)
    (hs : starEach [a, b] X.env = (false, eval a X.env) :: starEach [b] X.env := by rfl) (hpl : (backTo pos (starEach [b] X.env)).any (·.1) = false := by rfl) : SI X W (.Tuple elts kk tpos) (.Call (.Name "zip" p) [a, b] [] pos) (iRng asZip ms) := by
  refine ⟨piI (pi_zip hg hm ha.pa hs hpl) fun σ H Q ⟨μ, e, eh, er, hr, p⟩ => ⟨μ, e, eh, er, hr, post_mono (post_bind (Rl := relA) backI p) ?_⟩⟩
  rintro vs H1 ⟨μ1, eh1, ds, x1, hr1, rx, p1⟩
  unfold asZip at p1
  cases rx with
  | nil => exact p1.elim
  | cons r1 r2 => cases r2 with
    | nil => cases r1 <;> exact p1.elim
    | cons r2 r3 => cases r3 with
      | cons _ _ => cases r1 <;> cases r2 <;> exact p1.elim
      | nil => cases r1 with
        | @ref n a ha hlst => cases r2 with
          | @ref m b hb hlst2 =>
            simp only at p1
            cases e1 : eh1[n]? with
            | none => rw [e1] at p1; exact p1.elim
            | some o1 => cases e2 : eh1[m]? with
              | none => rw [e1, e2] at p1; exact p1.elim
              | some o2 =>
                rw [e1, e2] at p1
                obtain ⟨xs, hx⟩ := hlst
                obtain ⟨ys, hy⟩ := hlst2
                refine ⟨a, b, xs, ys, rfl, SqL.of hx, SqL.of hy, p1 μ1 H1 _ (Ext.refl _ _) hr1 fun i μ' H' eh' y hr' => ?_⟩
                have ha' := y.getμ ha
                have hb' := y.getμ hb
                unfold itZ
                cases f1 : eh'[n]? with
                | none => exact trivial
                | some o3 => cases f2 : eh'[m]? with
                  | none => cases o3 <;> exact trivial
                  | some o4 => cases o3 with
                    | dct _ => exact trivial
                    | dcl _ => exact trivial
                    | lst ds => cases o4 with
                      | dct _ => exact trivial
                      | dcl _ => exact trivial
                      | lst es =>
                        obtain ⟨xs', hx', q1⟩ := hr'.lst f1 ha'
                        obtain ⟨ys', hy', q2⟩ := hr'.lst f2 hb'
                        simp only
                        cases g1 : ds[i]? with
                        | none => exact ⟨xs', ys', SqL.of hx', SqL.of hy', .inl (by rw [← q1.len]; exact List.getElem?_eq_none_iff.mp g1)⟩
                        | some d1 => cases g2 : es[i]? with
                          | none => exact ⟨xs', ys', SqL.of hx', SqL.of hy', .inr (by rw [← q2.len]; exact List.getElem?_eq_none_iff.mp g2)⟩
                          | some d2 =>
                            obtain ⟨v1, hv1, rv1⟩ := q1.get g1
                            obtain ⟨v2, hv2, rv2⟩ := q2.get g2
                            refine ⟨⟨xs', ys', v1, v2, SqL.of hx', SqL.of hy', hv1, hv2⟩, fun x H2 ⟨T, x1, x2, ex, hT, eH, i1, i2⟩ => ?_⟩
                            subst ex eH
                            have c1 := i1 xs' (SqL.of hx')
                            have c2 := i2 ys' (SqL.of hy')
                            rw [hv1] at c1
                            rw [hv2] at c2
                            cases c1
                            cases c2
                            exact ⟨Ext.add hT hr', hr'.add hT, .tup (SqT.of upd_same) ((RpAll.cons rv1 (.cons rv2 .nil)).ext (Ext.add hT hr'))⟩
          | _ => exact p1.elim
        | _ => cases r2 <;> exact p1.elim
theorem si_enum {a : Expr} {ms : Sl → EH → R (List D)} {p pos tpos : Pos} {elts : List Expr} {kk : Nat} (hm : X.mg "enumerate" = none) (ha : SA X W [a] ms) (hg : Gl X "enumerate" := by rfl)
    (hs : starEach [a] X.env = [(false, eval a X.env)] := by rfl) : SI X W (.Tuple elts kk tpos) (.Call (.Name "enumerate" p) [a] [] pos) (iRng asEnum ms) := by
  refine ⟨piI (pi_enum hg hm ha.pa hs) fun σ H Q ⟨μ, e, eh, er, hr, p⟩ => ⟨μ, e, eh, er, hr, post_mono (post_bind (Rl := relA) backI p) ?_⟩⟩
  rintro vs H1 ⟨μ1, eh1, ds, x1, hr1, rx, p1⟩
  unfold asEnum at p1
  cases rx with
  | nil => exact p1.elim
  | cons r1 r2 => cases r2 with
    | cons _ _ => cases r1 <;> exact p1.elim
    | nil => cases r1 with
      | @ref n a ha hlst =>
        simp only at p1
        cases e1 : eh1[n]? with
        | none => rw [e1] at p1; exact p1.elim
        | some o1 =>
          rw [e1] at p1
          obtain ⟨xs, hx⟩ := hlst
          refine ⟨a, xs, rfl, SqL.of hx, p1 μ1 H1 _ (Ext.refl _ _) hr1 fun i μ' H' eh' y hr' => ?_⟩
          have ha' := y.getμ ha
          unfold itE
          cases f1 : eh'[n]? with
          | none => exact trivial
          | some o3 => cases o3 with
            | dct _ => exact trivial
            | dcl _ => exact trivial
            | lst ds =>
              obtain ⟨xs', hx', q1⟩ := hr'.lst f1 ha'
              simp only
              cases g1 : ds[i]? with
              | none => exact ⟨xs', SqL.of hx', by rw [← q1.len]; exact List.getElem?_eq_none_iff.mp g1⟩
              | some d1 =>
                obtain ⟨v1, hv1, rv1⟩ := q1.get g1
                refine ⟨⟨xs', v1, SqL.of hx', hv1⟩, fun x H2 ⟨T, x1, ex, hT, eH, i1⟩ => ?_⟩
                subst ex eH
                have c1 := i1 xs' (SqL.of hx')
                rw [hv1] at c1
                cases c1
                exact ⟨Ext.add hT hr', hr'.add hT, .tup (SqT.of upd_same) ((RpAll.cons (.int _) (.cons rv1 .nil)).ext (Ext.add hT hr'))⟩
      | _ => exact p1.elim
end
/-- a def that is never called -/
theorem fn_bad {P : Program} {w : World} {K : PySem.W.Frag} {mg : Str → Option Value} {base : Heap} {k : Nat} {f : Addr} {fd : FuncData} {ps : List Str} : FnOk P w K mg base (L2N.CX P w) k f fd ps (spD K mg fun _ _ => .bad) :=
  ⟨fun _ _ _ _ ⟨_, _, _, _, _, p⟩ => p.elim, fun _ _ _ _ _ _ _ _ _ _ _ _ _ ⟨_, _, _, _, _, p⟩ => p.elim⟩
end Sm
namespace Sm
open PySem PySem.Spec PyProof.Rows L2
/-! ### constants of the module: ints, texts, tuples of such -/
mutual
def conV (K : PySem.W.Frag) : D → Value → Bool
  | .non, .none => true
  | .bl b, .bool c => b == c
  | .int i, .int j _ => decide (i = j)
  | .str x, .str y _ => decide (x = y)
  | .tup ds, .ref a => (match K.lookup a with
    | some ⟨.type c, _, .seq its _, _⟩ => decide (c = "tuple") && (decide (its.size ≤ sizeLine) && conA K ds its.toList)
    | _ => false)
  | _, _ => false
def conA (K : PySem.W.Frag) : List D → List Value → Bool
  | [], [] => true
  | d :: ds, v :: vs => conV K d v && conA K ds vs
  | _, _ => false
end
def vOf : Value → V
  | .none => .non
  | .bool b => .bl b
  | .int i _ => .int i
  | .str x _ => .str x
  | .ref a => .ref a
  | _ => .non
mutual
theorem conV_ok {K : PySem.W.Frag} : ∀ {d : D} {v : Value}, conV K d v = true → RelV (vOf v) v ∧ ∀ H μ, Rp K H μ d (vOf v)
  | .non, .none, _ => ⟨rfl, fun _ _ => .non⟩
  | .bl b, .bool c, h => by
    have e : b = c := by
      have h1 : (b == c) = true := h
      exact eq_of_beq h1
    subst e
    exact ⟨rfl, fun _ _ => .bl b⟩
  | .int i, .int j t, h => by
    have e : i = j := of_decide_eq_true h
    subst e
    exact ⟨⟨t, rfl⟩, fun _ _ => .int i⟩
  | .str x, .str y t, h => by
    have e : x = y := of_decide_eq_true h
    subst e
    exact ⟨⟨t, rfl⟩, fun _ _ => .str x⟩
  | .tup ds, .ref a, h => by
    have h1 : (match K.lookup a with
      | some ⟨.type c, _, .seq its _, _⟩ => decide (c = "tuple") && (decide (its.size ≤ sizeLine) && conA K ds its.toList)
      | _ => false) = true := h
    cases q : K.lookup a with
    | none => rw [q] at h1; cases h1
    | some o =>
      obtain ⟨oc, od, dt, osl⟩ := o
      rw [q] at h1
      cases oc with
      | type c => cases dt with
        | seq its n =>
          obtain ⟨h2, h3⟩ := He.ba h1
          obtain ⟨h4, h5⟩ := He.ba h3
          obtain ⟨r, z⟩ := conA_ok h5
          exact ⟨rfl, fun H μ => .tup (.inr ⟨_, its, n, q, congrArg Value.type (of_decide_eq_true h2), rfl, of_decide_eq_true h4, r⟩) (z H μ)⟩
        | _ => cases h1
      | _ => cases dt <;> cases h1
theorem conA_ok {K : PySem.W.Frag} : ∀ {ds : List D} {vs : List Value}, conA K ds vs = true → Vals (vs.map vOf) vs ∧ ∀ H μ, RpAll K H μ ds (vs.map vOf)
  | [], [], _ => ⟨.nil, fun _ _ => .nil⟩
  | d :: ds, v :: vs, h => by
    obtain ⟨h1, h2⟩ := He.ba (show (conV K d v && conA K ds vs) = true from h)
    obtain ⟨r1, z1⟩ := conV_ok h1
    obtain ⟨r2, z2⟩ := conA_ok h2
    exact ⟨.cons r1 r2, fun H μ => .cons (z1 H μ) (z2 H μ)⟩
end
/-- the module's name x stands for d -/
def ConOk (K : PySem.W.Frag) (mg : Str → Option Value) (x : Str) (d : D) : Prop := ∃ v y, mg x = some v ∧ RelV y v ∧ ∀ H μ, Rp K H μ d y
section
variable {X : Cx} {W : WX}
theorem se_con {x : Str} {d : D} {pos : Pos} (c : ConOk X.K X.mg x d) (hg : Gl X x := by rfl) (hdb : (x == ("__debug__" : Str)) = false := by decide) : SE X W (.Name x pos) (eC d) := by
  obtain ⟨v, y, hm, r, z⟩ := c
  exact ⟨⟨fun pins s σ H Q I ⟨μ, e, eh, er, hr, p⟩ => ld_glob I hg hm ⟨y, H, I, r, p μ H y (Ext.refl _ _) hr (z H μ)⟩ hdb⟩⟩
end
/-! ### a call without arguments -/
section
variable {X : Cx} {W : WX}
theorem se_p0 {x : Str} {k j : Nat} {m : List D → EH → R D} {p pos : Pos} (c : CallP X.prog X.w X.K X.mg X.base x k m []) (tk : L2N.Takes X W) (hr : Room j X.A) (hj : k ≤ j := by decide) (hg : Gl X x := by rfl) (hdb : (x == ("__debug__" : Str)) = false := by decide) : SE X W (.Call (.Name x p) [] [] pos) (eCall m aNil) := by
  obtain ⟨f, fd, ps, dvs, ds, F, hm, hk, hb, hd, hdd⟩ := c
  have nov : dvs = [] := by
    have := hdd (fun _ => none) []
    cases this
    rfl
  subst nov
  cases hd
  refine ⟨⟨fun pins s σ H Q I ⟨μ, e, eh, er, hR, q⟩ => wpAny_Call_Name_kw (ld_glob I hg hm ?_ hdb)⟩⟩
  have told : spD X.K X.mg m [] H Q (WE W σ) := ⟨μ, eh, [], hR, .nil, q⟩
  exact PySem.W.callWith_K0 I.kIn hk (run_fnS (E := WE W) (us := []) F (hr.mono hj) hb (L2N.passAt tk σ) I .nil told)
end
/-! ### the head's facts, and more -/
def conB (cs : List (Str × D)) (K : PySem.W.Frag) : Bool := cs.all fun p => match PySem.W.nsIn K mainGlobals p.1 with
  | some (some v) => conV K p.2 v
  | _ => false
theorem con_ok {cs : List (Str × D)} {K : PySem.W.Frag} {h : Heap} {mg : Str → Option Value} (X : K.In h) (G : h.Ns mainGlobals mg) (c : conB cs K = true) (i : Nat) {x : Str} {d : D} (e : cs[i]? = some (x, d) := by rfl) : ConOk K mg x d := by
  have z := List.all_eq_true.mp c (x, d) (List.mem_of_getElem? e)
  simp only at z
  cases q : PySem.W.nsIn K mainGlobals x with
  | none => rw [q] at z; cases z
  | some o => cases o with
    | none => rw [q] at z; cases z
    | some v =>
      rw [q] at z
      obtain ⟨r, w⟩ := conV_ok z
      exact ⟨v, _, PySem.W.mg_of X G q, r, w⟩
abbrev AlM : Type := He.AlD × Bool
def obsM (n : Nat) (fa : List He.Fa) (fn : List He.DefD) (ex : PySem.W.Frag → Bool) (g : Addr → Option Obj) : AlM := (He.obsDG n fa fn g, ex (He.frG g (He.asD g n)))
def hookM (n : Nat) (fa : List He.Fa) (fn : List He.DefD) (ex : PySem.W.Frag → Bool) : PySem.W.Hook where
  α := AlM
  obs := fun s => obsM n fa fn ex s.heap.get?
  val := fun _ => (He.valD fn, true)
  says := fun _ h => ∃ K : PySem.W.Frag, K.In h ∧ He.SaysD fa fn K ∧ ex K = true
  of := fun _ s e => ⟨He.frG s.heap.get? (He.asD s.heap.get? n), He.frG_in, congrArg Prod.fst e, congrArg Prod.snd e⟩
  keeps := fun _ _ _ ⟨K, hK, c⟩ k => ⟨K, PySem.W.Frag.In.keeps hK k, c⟩
theorem obsM_eq {n : Nat} {fa : List He.Fa} {fn : List He.DefD} {ex : PySem.W.Frag → Bool} {g : Addr → Option Obj} {s : Shared} (h : ∀ a, g a = s.heap.get? a) : obsM n fa fn ex g = (hookM n fa fn ex).obs s := by
  have e : g = s.heap.get? := funext h
  rw [e] <;> rfl
end Sm
namespace Sm
open PySem PySem.Spec PyProof.Rows L2 L2H
/-! ### the program's exception classes -/
/-- x is y or derives from it -/
def exSub (x y : Str) : Bool := decide (x = y) || decide (y = "SpaceError")
def excCB (K : PySem.W.Frag) (D : Addr) : Bool :=
  decide (PySem.W.findIn K (.ref D) "__getattribute__" = some (some (.builtin "BaseException.__getattribute__"))) && (decide (PySem.W.findIn K (.ref D) "__getattr__" = some none) &&
  (decide (PySem.W.subIn K (.ref D) (.type "BaseException") = some true) && (PySem.W.hasDictIn K D && (decide (PySem.W.findIn K (.ref D) "__class__" = some (some (.builtin "object.__class__"))) &&
  (decide (PySem.W.specialIn K (.builtin "object.__class__") "__get__" = some (some (.builtin "getset_descriptor.__get__"))) && (decide (PySem.W.takesIn K (.builtin "object.__class__") = some true) && decide (PySem.W.mroIn K D (.type "object") = some true)))))))
theorem excCB_ok {K : PySem.W.Frag} {D : Addr} (h : excCB K D = true) : ExcC K D := by
  obtain ⟨h1, h⟩ := He.ba h
  obtain ⟨h2, h⟩ := He.ba h
  obtain ⟨h3, h⟩ := He.ba h
  obtain ⟨h4, h⟩ := He.ba h
  obtain ⟨h5, h⟩ := He.ba h
  obtain ⟨h6, h⟩ := He.ba h
  obtain ⟨h7, h8⟩ := He.ba h
  exact ⟨of_decide_eq_true h1, of_decide_eq_true h2, of_decide_eq_true h3, h4, of_decide_eq_true h5, of_decide_eq_true h6, of_decide_eq_true h7, of_decide_eq_true h8⟩
/-- xs: the classes that are raised (ahead of them those that the program makes); ts: those that are asked for; ys: those of except clauses -/
def xcB (xs ts ys : List Str) (K : PySem.W.Frag) : Bool :=
  (ts.all fun x => He.eqO (PySem.W.nsIn K mainGlobals x) (some (some (.ref (He.ga K x))))) &&
  ((xs.all fun x => excCB K (He.ga K x) && (decide (PySem.W.kitOne K (.ref (He.ga K x)) (.type "ValueError") = some true) &&
    ((ts.all fun y => decide (PySem.W.kitOne K (.ref (He.ga K x)) (.ref (He.ga K y)) = some (exSub x y))) && ys.all fun y => decide (PySem.W.exmOne K (.ref (He.ga K x)) (.ref (He.ga K y)) = some (exSub x y))))) &&
  (ys.all (fun x => decide (x ∈ ts)) && xs.all fun x => decide (x ∈ ts) && (PySem.W.excIn K (He.ga K x) He.veBase "ValueError.__new__" && (PySem.W.keepIn K (.ref (He.ga K x)) && decide (PySem.W.typeIn K (.ref (He.ga K x)) = some (.type "type"))))))
structure XOk (K : PySem.W.Frag) (mg : Str → Option Value) (xs ts ys : List Str) : Prop where
  glo : ∀ x ∈ ts, mg x = some (.ref (He.ga K x))
  exc : ∀ x ∈ xs, ExcC K (He.ga K x)
  kv : ∀ x ∈ xs, PySem.W.kitOne K (.ref (He.ga K x)) (.type "ValueError") = some true
  kit : ∀ x ∈ xs, ∀ y ∈ ts, PySem.W.kitOne K (.ref (He.ga K x)) (.ref (He.ga K y)) = some (exSub x y)
  exm : ∀ x ∈ xs, ∀ y ∈ ys, PySem.W.exmOne K (.ref (He.ga K x)) (.ref (He.ga K y)) = some (exSub x y)
  sub : ∀ y ∈ ys, y ∈ ts
  psub : ∀ y ∈ xs, y ∈ ts
  new : ∀ x ∈ xs, PySem.W.excIn K (He.ga K x) He.veBase "ValueError.__new__" = true
  keep : ∀ x ∈ xs, PySem.W.keepIn K (.ref (He.ga K x)) = true
  ty : ∀ x ∈ xs, PySem.W.typeIn K (.ref (He.ga K x)) = some (.type "type")
theorem xok {xs ts ys : List Str} {K : PySem.W.Frag} {h : Heap} {mg : Str → Option Value} (X : K.In h) (G : h.Ns mainGlobals mg) (c : xcB xs ts ys K = true) : XOk K mg xs ts ys := by
  obtain ⟨c0, c⟩ := He.ba c
  obtain ⟨c1, c⟩ := He.ba c
  obtain ⟨c2, c3⟩ := He.ba c
  have a2 := fun x (hx : x ∈ xs) => He.ba (List.all_eq_true.mp c1 x hx)
  have a3 := fun x (hx : x ∈ xs) => He.ba (a2 x hx).2
  have a4 := fun x (hx : x ∈ xs) => He.ba (a3 x hx).2
  have b1 := fun x (hx : x ∈ xs) => He.ba (List.all_eq_true.mp c3 x hx)
  have b2 := fun x (hx : x ∈ xs) => He.ba (b1 x hx).2
  have b3 := fun x (hx : x ∈ xs) => He.ba (b2 x hx).2
  exact ⟨fun x hx => PySem.W.mg_of X G (He.eqO_ok (List.all_eq_true.mp c0 x hx)), fun x hx => excCB_ok (a2 x hx).1, fun x hx => of_decide_eq_true (a3 x hx).1, fun x hx y hy => of_decide_eq_true (List.all_eq_true.mp (a4 x hx).1 y hy),
    fun x hx y hy => of_decide_eq_true (List.all_eq_true.mp (a4 x hx).2 y hy), fun y hy => of_decide_eq_true (List.all_eq_true.mp c2 y hy), fun y hy => of_decide_eq_true (b1 y hy).1, fun x hx => (b2 x hx).1, fun x hx => (b3 x hx).1, fun x hx => of_decide_eq_true (b3 x hx).2⟩
section
variable {X : Cx} {W : WX} {xs ts ys : List Str}
/-! ### raise -/
def sRaise (x : Str) : Sl → EH → RS := fun e h => .exc ⟨x⟩ e h
theorem pmk_own0 {x : Str} {C : Addr} {bmB : List Value} {B newId initId : String} {p pos : Pos} (F : ExcBaseFacts B newId initId bmB) (q : PySem.W.excIn X.K C bmB newId = true) (gC : X.mg x = some (.ref C)) (kC : PySem.W.keepIn X.K (.ref C) = true) (r : Raises X (.ref C)) (hg : Gl X x)
    (hdb : (x == ("__debug__" : Str)) = false := by decide) : L2N.PMk X (.Call (.Name x p) [] [] pos) (fun _ H Q => Q (.ref C) none H) := by
  intro pins s σ H Q I h
  refine wpAny_Call_Name_kw (ld_glob I hg gC ?_ hdb)
  refine PySem.W.callWith_K0 I.kIn kC ?_
  obtain ⟨bm, N, nm, qn, bs, hdct, sn, sub, ab, col, dd, k0, k1, k2, k3, k5, mN, hC, hN, hni, T⟩ := exc_obj I.kIn q
  obtain ⟨hp1, g1, d1, tk1, os1⟩ := s
  exact wpAny_call_exc_subT F T hC hN hni (fun h' e hm => L2N.mk_of I hm r h (I.hok.gone hm.new)) (Nat.zero_le _)
theorem ss_raise {x : Str} {p pos pos2 : Pos} (o : XOk X.K X.mg xs ts ys) (tk : L2N.Takes X W) (hx : x ∈ xs := by decide) (hc : X.calm = true := by rfl) (hg : Gl X x := by rfl) (hdb : (x == ("__debug__" : Str)) = false := by decide) : SS X W (.Raise (some (.Call (.Name x p) [] [] pos)) none pos2) (sRaise x) :=
  have hx2 := o.psub x hx
  ⟨psI (L2N.ps_raise hc tk (pmk_own0 PySem.F.excBase_ValueError (o.new x hx) (o.glo x hx2) (o.keep x hx) (raises_own (o.exc x hx).hs (o.ty x hx)) hg hdb)) fun D σ H ⟨μ, e, eh, er, hr, p⟩ => p μ H σ _ none (Ext.refl _ _) hr er ⟨_, rfl, o.glo x hx2, rfl⟩⟩
/-! ### try: .. except C as n: .. -/
open Classical in
/-- what does not lean on the exception's address -/
noncomputable def onceA (f : Addr → RS) : RS := if h : ∃ r, ∀ a, f a = r then h.choose else .bad
theorem onceA_eq {f : Addr → RS} {r : RS} (h : ∀ a, f a = r) : onceA f = r := by
  have z : ∃ r, ∀ a, f a = r := ⟨r, h⟩
  unfold onceA
  rw [dif_pos z]
  exact (z.choose_spec 0).symm.trans (h 0)
theorem onceA_get {f : Addr → RS} (h : onceA f ≠ .bad) (a : Addr) : f a = onceA f := by
  unfold onceA at h ⊢
  by_cases z : ∃ r, ∀ a, f a = r
  · rw [dif_pos z]; exact z.choose_spec a
  · rw [dif_neg z] at h; exact absurd rfl h
def clr (i : Nat) : RS → RS
  | .nx e h => .nx (e.set i none) h
  | .bk e h => .bk (e.set i none) h
  | .ct e h => .ct (e.set i none) h
  | .rt d h => .rt d h
  | _ => .bad
noncomputable def sTry (xs : List Str) (cn : Str) (i : Nat) (body : Sl → EH → RS) (suite : Str → Addr → Sl → EH → RS) : Sl → EH → RS := fun e h => match body e h with
  | .exc x e' h' => if x.cls ∈ xs then (if exSub x.cls cn = true then onceA fun a => clr i (suite x.cls a (e'.set i (some (.exn x.cls a))) h') else .exc x e' h') else .bad
  | r => r
theorem EnvR.gone {K : PySem.W.Frag} {H : Hp} {μ : List Addr} {e : Sl} {σ : St} (r : EnvR K H μ e σ) (i : Nat) : EnvR K H μ (e.set i none) (σ.set i none) := ⟨by simp [r.len], fun j d hj => by
  by_cases hij : i = j
  · subst hij
    by_cases hl : i < e.length
    · rw [List.getElem?_set_self hl] at hj; cases hj
    · rw [List.getElem?_eq_none (by simpa using hl)] at hj; cases hj
  · rw [List.getElem?_set_ne hij] at hj
    obtain ⟨w, a, b⟩ := r.val j d hj
    exact ⟨w, by rw [List.getElem?_set_ne hij]; exact a, b⟩⟩
theorem clr_post {K : PySem.W.Frag} {mg : Str → Option Value} {μ : List Addr} {H : Hp} {i : Nat} {r : RS} {D : Ends} (p : postS K mg W μ H (clr i r) D) :
    postS K mg wF μ H r { nx := fun σ' H' => D.nx (σ'.set i none) H', rt := D.rt, bk := fun σ' H' => D.bk (σ'.set i none) H', ct := fun σ' H' => D.ct (σ'.set i none) H' } := by
  cases r with
  | nx e h => exact fun μ' H' σ' x hr er => p μ' H' _ x hr (er.gone i)
  | bk e h => exact fun μ' H' σ' x hr er => p μ' H' _ x hr (er.gone i)
  | ct e h => exact fun μ' H' σ' x hr er => p μ' H' _ x hr (er.gone i)
  | rt d h => exact p
  | exc x e h => exact p.elim
  | bad => exact p.elim
theorem takes_no {X : Cx} : L2N.Takes X wF := fun u s' ⟨_, _, _, _, _, _, _, _, _, _, _, _, _, _, _, _, w⟩ => w.elim
theorem ss_tryAs {cn n : Str} {i : Nat} {np pos pos' : Pos} {body suite : List Stmt} {b₀ : Stmt} {mb : Sl → EH → RS} {ms : Str → Addr → Sl → EH → RS} (o : XOk X.K X.mg xs ts ys) (tk : L2N.Takes X W)
    (hb : ∀ (W : WX) (pn : List (Addr × Obj)) (xe : Value → Shared → Prop), L2N.Takes (X.tr pn xe) W → PassesOwn (model X.prog X.w) X.A X.env xe → SSs (X.tr pn xe) W body mb)
    (hsu : ∀ (x : Str) (a : Addr) (oe : Obj) (pn : List (Addr × Obj)), x ∈ xs → L2N.Zn (.ref (He.ga X.K x)) none oe → (∃ vs, oe.data = .fields vs) → SSs (X.suite a ((a, oe) :: pn)) wF (b₀ :: suite) (ms x a))
    (hN : X.N.Nodup) (hs : X.stack = X.env :: X.outer := by rfl) (hf : X.env.frame = some X.env.locals := by rfl) (hi : X.N[i]? = some n := by rfl) (hln : X.env.kindOf n = some .local := by rfl) (hy : cn ∈ ys := by decide) (hg : Gl X cn := by rfl) (hdb : (cn == ("__debug__" : Str)) = false := by decide) :
    SS X W (.Try body [.ExceptHandler (some (.Name cn np)) (some n) (b₀ :: suite) pos'] [] [] pos) (sTry xs cn i mb ms) := by
  refine ⟨psI (L2N.ps_try_as (c := .ref (He.ga X.K cn)) (tb := fun W' => tS X W' mb) (ts := fun a cls d D σ H => ∃ x, x ∈ xs ∧ cls = .ref (He.ga X.K x) ∧ d = none ∧ tS X wF (ms x a) D σ H) hs hf hN hi hln ⟨hg, hdb, .inl (o.glo cn (o.sub cn hy))⟩ tk
    (fun W' pn xe t1 t2 => (hb W' pn xe t1 t2).pss) (fun a oe cls d pn hz hd => ⟨fun pins s σ H D I ⟨x, hx, hc, hn, t⟩ => ?_⟩)) fun D σ H ⟨μ, e, eh, er, hr, p⟩ => ⟨μ, e, eh, er, hr, ?_⟩⟩
  · subst hc hn
    exact (hsu x a oe pn hx hz hd).pss.run pins s σ H D I t
  · unfold sTry at p
    cases q : mb e eh with
    | nx e' h' => rw [q] at p; exact p
    | rt d h' => rw [q] at p; exact p
    | bk e' h' => rw [q] at p; exact p
    | ct e' h' => rw [q] at p; exact p
    | bad => rw [q] at p; exact p
    | exc x e' h' =>
      rw [q] at p
      simp only at p
      by_cases hx : x.cls ∈ xs
      · rw [if_pos hx] at p
        rintro μ' H' σ' c dd y hr' er' ⟨C, rfl, hm, rfl⟩
        have eC : C = He.ga X.K x.cls := by
          have := (o.glo _ (o.psub _ hx)).symm.trans hm
          cases this; rfl
        subst eC
        refine ⟨exSub x.cls cn, o.exm _ hx _ hy, fun hb a na => ?_, fun hb => ?_⟩
        · rw [if_pos hb] at p
          have nb : onceA (fun a => clr i (ms x.cls a (e'.set i (some (.exn x.cls a))) h')) ≠ .bad := fun z => by rw [z] at p; exact p
          rw [← onceA_get nb a] at p
          exact ⟨x.cls, hx, rfl, rfl, μ', _, h', er'.set i (.exn x.cls a), hr', clr_post (postS_ext p y)⟩
        · rw [if_neg (by rw [hb]; decide)] at p
          exact p μ' H' σ' _ _ y hr' er' ⟨_, rfl, hm, rfl⟩
      · rw [if_neg hx] at p; exact p.elim
/-! ### isinstance of a caught exception -/
theorem se_cls {x : Str} {pos : Pos} (o : XOk X.K X.mg xs ts ys) (hx : x ∈ ts := by decide) (hg : Gl X x := by rfl) (hdb : (x == ("__debug__" : Str)) = false := by decide) : SE X W (.Name x pos) (eC (.cls x)) :=
  ⟨⟨fun pins s σ H Q I ⟨μ, e, eh, er, hr, p⟩ => ld_glob I hg (o.glo x hx) ⟨.ref (He.ga X.K x), H, I, rfl, p μ H _ (Ext.refl _ _) hr (.cls x)⟩ hdb⟩⟩
def fIsx (ts : List Str) (x0 : Str) (a0 : Addr) : List D → EH → Option (D × EH)
  | [.exn x a, .cls y], h => if x = x0 ∧ a = a0 ∧ y ∈ ts then some (.bl (exSub x y), h) else none
  | [.exn x a, .ty n], h => if x = x0 ∧ a = a0 ∧ n = "ValueError" then some (.bl true, h) else none
  | _, _ => none
theorem cr_isx {x0 : Str} {a0 : Addr} {oe : Obj} (o : XOk X.K X.mg xs ts ys) (hx0 : x0 ∈ xs) (hp : (a0, oe) ∈ X.pn) (hz : L2N.Zn (.ref (He.ga X.K x0)) none oe) (hf : ∃ vs, oe.data = .fields vs) : CallR X (.builtin "isinstance") (rA X (fIsx ts x0 a0)) := by
  intro pins s σ H vs us Q I r ⟨μ, eh, ds, hr, ra, ou⟩
  have C := o.exc x0 hx0
  have J : PySem.W.InstAt s.heap a0 oe (He.ga X.K x0) none := by
    obtain ⟨hget, _⟩ := I.pin (a0, oe) (List.mem_append_left _ hp)
    obtain ⟨vs', hv⟩ := hf
    obtain ⟨oc, od, oda, osl⟩ := oe
    obtain ⟨h1, h2, _⟩ := hz
    dsimp only at h1 h2 hv
    subst h1 h2 hv
    exact ⟨hget, rfl, rfl, trivial⟩
  have fin : ∀ {cv : Value} {b : Bool}, PySem.W.kitOne X.K (.ref (He.ga X.K x0)) cv = some b → Q (.bl b) H → wpAny (model X.prog X.w) X.A (call (.builtin "isinstance") [.ref a0, cv]) (EP X pins σ Q) X.xe s := fun {cv b} e q =>
    PySem.W.kia_one (PySem.W.handS_kitx_exc C.hg C.hk C.hs C.hd C.ha C.hn C.ht C.hm) I.kIn J e (fun z => nomatch z) fun tk => ⟨.bl b, H, I.kept (t' := tk) fun _ _ z => z, rfl, q⟩
  cases ra with
  | nil => exact ou.elim
  | cons r1 r2 => cases r2 with
    | nil => cases r1 <;> exact ou.elim
    | cons r2 r3 => cases r3 with
      | cons _ _ => cases r1 <;> first | exact ou.elim | (cases r2 <;> exact ou.elim)
      | nil =>
        cases r with
        | cons u1 rr => cases rr with
          | cons u2 rr =>
            cases rr
            cases r1 with
            | exn x a =>
              cases u1
              cases r2 with
              | cls y =>
                cases u2
                simp only [fIsx] at ou
                by_cases c : x = x0 ∧ a = a0 ∧ y ∈ ts
                · rw [if_pos c] at ou
                  obtain ⟨rfl, rfl, hy⟩ := c
                  exact fin (o.kit _ hx0 _ hy) (outD_val ou hr (.bl _))
                · rw [if_neg c] at ou; exact ou.elim
              | ty n =>
                cases u2
                simp only [fIsx] at ou
                by_cases c : x = x0 ∧ a = a0 ∧ n = "ValueError"
                · rw [if_pos c] at ou
                  obtain ⟨rfl, rfl, rfl⟩ := c
                  exact fin (o.kv _ hx0) (outD_val ou hr (.bl _))
                · rw [if_neg c] at ou; exact ou.elim
              | _ => exact ou.elim
            | _ => cases r2 <;> exact ou.elim
end
end Sm
namespace Sm
open PySem PySem.Spec PyProof.Rows L2 L2H HotX
/-! ### a comprehension over range where an exception is handled -/
structure TurnE (P : Program) (w : World) (K : PySem.W.Frag) (tg : Expr) (J : It) (fp : List Addr) (it : Addr) (tn : Nat → Heap → Prop) : Prop where
  obj : ∀ i h, tn i h → ∀ b ∈ fp, ∃ o, h.get? b = some o ∧ ∀ v, o.data ≠ .cell v
  keep : ∀ i h h', tn i h → (∀ b ∈ fp, ∀ o, h.get? b = some o → h'.get? b = some o) → tn i h'
  item : ∀ (X : Cx), X.prog = P → X.w = w → X.K = K → ∀ (i : Nat) (pins : List (Addr × Obj)) (s : Shared) (σ : St) (H : Hp) (E : Value → Shared → Prop), Inv X pins σ H s → (∀ b ∈ fp, FpOk X pins H b) → tn i s.heap → J.go i H →
    wpAny (model P w) X.A (pyNext (.ref it)) (fun r s1 => ∃ u, r = some u ∧
      wpAny (model P w) X.A (letOwnedTupleGo tg (.ref it) u) (fun _ s2 => ∃ x H', Inv X pins σ H' s2 ∧ RelV x u ∧ J.yld i H x H' ∧ tn (i + 1) s2.heap ∧ ∀ b ∈ fp, H' b = none) E s1) E s
  done : ∀ (X : Cx), X.prog = P → X.w = w → X.K = K → ∀ (x1 : Addr) (i : Nat) (pins : List (Addr × Obj)) (s : Shared) (σ : St) (H : Hp) (E : Value → Shared → Prop), HotAt X.A x1 s.heap → Inv X pins σ H s → (∀ b ∈ fp, FpOk X pins H b) → tn i s.heap → J.stop i H →
    wpAny (model P w) X.A (pyNext (.ref it)) (fun r s1 => r = none ∧ Inv X pins σ H s1) E s
  self : ∀ (A : Around) (i : Nat) (s : Shared) (Q : Value → Shared → Prop) (E : Value → Shared → Prop), tn i s.heap → Q (.ref it) s → wpAny (model P w) A (pyIter (.ref it)) Q E s
theorem turn_rangeE {P : Program} {w : World} {K : PySem.W.Frag} {tg : Expr} (it : Addr) (lo : Int) (n : Nat) : TurnE P w K tg (Itr lo n) [it] it (fun i h => IsRangeIter h it (lo + (i : Nat) * 1) ((n : Int) - (i : Nat)) 1) where
  obj := (turn_rangeH (P := P) (w := w) (K := K) (tg := tg) it lo n).obj
  keep := (turn_rangeH (P := P) (w := w) (K := K) (tg := tg) it lo n).keep
  self := (turn_rangeH (P := P) (w := w) (K := K) (tg := tg) it lo n).self
  item := by
    intro X hP hw hK i pins s σ H E I hf st hg
    subst hP hw hK
    obtain ⟨f0, f1, f2, f3, f4, f5⟩ := hf it (by simp)
    have hlt : i < n := hg
    refine wpAny_pyNext_range_item st (by omega) fun h' st' sb => ?_
    have e1 : lo + ((i : Nat) : Int) * 1 + 1 = lo + ((i + 1 : Nat) : Int) * 1 := by omega
    have e2 : (n : Int) - ((i : Nat) : Int) - 1 = (n : Int) - ((i + 1 : Nat) : Int) := by omega
    rw [e1, e2] at st'
    have I1 : Inv X pins σ H { s with heap := h', toks := s.toks + 1 } := I.turned (fun b o hb e => (sb.2 b hb).trans e) f0 f1 f3 f4 f5
    refine ⟨_, rfl, go_of (s := { s with heap := h', toks := s.toks + 1 }) (n := "range_iterator") st' rfl rfl (by decide) ⟨.int (lo + i), H, I1, ⟨s.toks, ?_⟩, ⟨rfl, rfl⟩, st', fun b hb => (hf b hb).1⟩⟩
    rw [Int.mul_one]
  done := by
    intro X hP hw hK x1 i pins s σ H E hot I hf st hg
    subst hP hw hK
    obtain ⟨f0, f1, f2, f3, f4, f5⟩ := hf it (by simp)
    exact pyNext_range_end_hot hot st (by have : n ≤ i := hg; omega) fun h' eb => ⟨rfl, I.turned (t' := s.toks) (fun b o _ e => eb b o e) f0 f1 f3 f4 f5⟩
def PIEe (X : Cx) (pins : List (Addr × Obj)) (σ : St) (tg : Expr) (R : It → Hp → Prop) (itv : Value) (s2 : Shared) : Prop :=
  ∃ (it : Addr) (fp : List Addr) (tn : Nat → Heap → Prop) (J : It) (H' : Hp), itv = .ref it ∧ Inv X pins σ H' s2 ∧ TurnE X.prog X.w X.K tg J fp it tn ∧ tn 0 s2.heap ∧ (∀ b ∈ fp, FpOk X pins H' b) ∧ R J H'
structure PIe (X : Cx) (tg iter : Expr) (wi : TI) : Prop where
  run : ∀ (pins : List (Addr × Obj)) (s : Shared) (σ : St) (H : Hp) (R : It → Hp → Prop), Inv X pins σ H s → wi σ H R →
    wpAny (model X.prog X.w) X.A (eval iter X.env) (fun v s1 => wpAny (model X.prog X.w) X.A (pyIter v) (PIEe X pins σ tg R) X.xe s1) X.xe s
section
variable {X : Cx} {tg : Expr}
theorem range_itE {pins : List (Addr × Obj)} {σ : St} {H : Hp} {s : Shared} {R : It → Hp → Prop} {E : Value → Shared → Prop} {hi : Int} {t u v : Tok} {tk : Nat} (I : Inv X pins σ H s) (h3 : -(2 ^ 62) ≤ hi) (h4 : hi < 2 ^ 62)
    (q : R (Itr 0 hi.toNat) H) : wpAny (model X.prog X.w) X.A (pyIter (.ref s.heap.objs.size)) (PIEe X pins σ tg R) E { s with heap := s.heap.push { cls := .type "range", data := .fields #[.int 0 t, .int hi u, .int 1 v] }, toks := tk } := by
  refine wpAny_pyIter_range (IsRange.new ..) (small_one (by omega) (by omega) h3 h4) ?_
  have I1 : Inv X pins σ H { s with heap := s.heap.push { cls := .type "range", data := .fields #[.int 0 t, .int hi u, .int 1 v] }, toks := tk } := I.kept fun b o e => Heap.get?_push_of_some _ e
  refine ⟨(s.heap.push { cls := .type "range", data := .fields #[.int 0 t, .int hi u, .int 1 v] }).objs.size, [(s.heap.push { cls := .type "range", data := .fields #[.int 0 t, .int hi u, .int 1 v] }).objs.size], _, _, H, rfl,
    I1.kept (t' := tk) fun b o e => Heap.get?_push_of_some _ e, turn_rangeE _ 0 hi.toNat, ?_, fun b hb => ?_, q⟩
  · have e1 : (0 : Int) + ((0 : Nat) : Int) * 1 = 0 := by simp
    have e2 : ((hi.toNat : Nat) : Int) - ((0 : Nat) : Int) = Builtin.Range.rangeSize 0 hi 1 := by rw [rangeSize_one]; split <;> omega
    show IsRangeIter _ _ ((0 : Int) + ((0 : Nat) : Int) * 1) (((hi.toNat : Nat) : Int) - ((0 : Nat) : Int)) 1
    rw [e1, e2]
    exact Heap.get?_push_size _ rfl
  · have e : b = (s.heap.push { cls := .type "range", data := .fields #[.int 0 t, .int hi u, .int 1 v] }).objs.size := by simpa using hb
    subst e
    exact I1.fpOk (Nat.le_refl _) (I1.hok.fresh (Nat.le_refl _))
theorem pi_range1E {a : Expr} {ta : TA} {p pos : Pos} (hg : Gl X "range") (hm : X.mg "range" = none) (ha : PA X [a] ta) (hs : starEach [a] X.env = [(false, eval a X.env)] := by rfl) : PIe X tg (.Call (.Name "range" p) [a] [] pos) (iRng1 ta) := by
  refine ⟨fun pins s σ H R I h => ?_⟩
  refine Call_ (ld_blt I hg hm boot_range (PyProof.Rows.callWith_type1 (thn (ha.run pos pins s σ H _ I h) fun us s1 ⟨vs, H1, I1, r1, q1⟩ => ?_) hs rfl))
  obtain ⟨j, e, q1, q2, q⟩ := q1
  subst e
  cases r1 with
  | cons r rr =>
    cases rr
    obtain ⟨t, rfl⟩ := r
    exact call_range_1 (range_itE I1 q1 q2 q)
/-- a comprehension there -/
theorem lcE_core {pins : List (Addr × Obj)} {s : Shared} {σ : St} {H : Hp} {Q : VK} {pos' : Pos} {use : Option (Value → Sem Unit)} {Qf : Value → Shared → Prop} {elt iter : Expr} {ifs : List Expr} {scope : Scope} {own : List (Str × Nat)} {pos : Pos} {wi : TI} {g : TG} {tt : TT} {te : TE} {p : Addr × Obj} (hot : Hot1 X.A p) (hpn : p ∈ X.pn) (hN : X.N.Nodup) (I : Inv X pins σ H s) (hi : PIe X tg iter wi) (ok : BlkOk X.N X.env.scope scope own)
    (hg : ∀ (s : Shared) (H : Hp) (C : Addr) (cl : List (Str × Addr)) (fp : List Addr), PG (X.blk s H scope (compEnvC scope cl C X.env) fp) tg g) (ht : ∀ (s : Shared) (H : Hp) (C : Addr) (cl : List (Str × Addr)) (fp : List Addr), PTs (X.blk s H scope (compEnvC scope cl C X.env) fp) ifs tt)
    (he : ∀ (s : Shared) (H : Hp) (C : Addr) (cl : List (Str × Addr)) (fp : List Addr), PE (X.blk s H scope (compEnvC scope cl C X.env) fp) elt te) (hs : ∀ x, foldedSetIterable iter X.env x = pure x) (h : tLc wi g tt te (own.map (·.2)) σ H Q)
    (fin : ∀ D C s' m H', Inv X pins σ H' s' → Q (.ref D) H' → s'.heap.Ns C m → FpOk X pins H' C → compPost (model X.prog X.w) X.A X.xe use Qf (.ref D) C (.ok .next) s') :
    wpAny (model X.prog X.w) X.A (comprehension (.ListComp elt [⟨tg, iter, ifs, 0⟩] scope pos) scope X.env pos' (newList []) false (eval iter X.env) use) Qf X.xe s := by
  have hfree : ∀ y ∈ scope.names, y.2 = .free → ∃ c, X.env.cells.lookup y.1 = some c := fun y hy e => by
    rcases ok.free y hy e with k | k
    · exact I.ok.has _ (.inl k)
    · exact I.ok.has _ (.inr k)
  refine wpAny_comprehension_free (use := use) rfl hs (closure_ok hfree) ok.kind (fun y hy e => by rw [ok.uniq y hy, e]) (thn (hi.run pins s σ H _ I h) fun xv s1 hx => thn hx fun itv s2 h2 => ?_)
  obtain ⟨it, fp, tn, J, H2, rfl, I2, T, st2, f2, q⟩ := h2
  refine wpAny_newObj_type (newEnv_comp ?_) (by show 0 ≤ sizeLine; decide)
  generalize hD : s2.heap.objs.size = D
  have hDn : H2 D = none := I2.hok.fresh (Nat.le_of_eq hD)
  obtain ⟨W, ⟨m0, w0⟩, turn⟩ := q D hDn
  generalize hs3 : ({ s2 with heap := s2.heap.push { cls := .type "list", data := .seq ([] : List Value).toArray } } : Shared) = s3
  have h3 : s3.heap = s2.heap.push { cls := .type "list", data := .seq ([] : List Value).toArray } := by rw [← hs3]
  have I3 : Inv X pins σ (upd H2 D (.lst [])) s3 := by
    rw [← hs3]
    refine I2.laid (t' := s2.toks) (fun b o e => Heap.get?_push_of_some _ e) (Nat.le_of_eq hD) ⟨Nat.zero_le _, [], 0, .nil, ?_⟩
    rw [← hD]
    exact Heap.get?_push_size _ rfl
  have f3 : ∀ b ∈ fp, FpOk X pins (upd H2 D (.lst [])) b ∧ b < s3.heap.objs.size := fun b hb => by
    obtain ⟨o, e, _⟩ := T.obj _ _ st2 b hb
    have hlt : b < s2.heap.objs.size := Heap.lt_size e
    refine ⟨⟨?_, (f2 b hb).2⟩, by rw [h3, Heap.size_push]; exact Nat.lt_succ_of_lt hlt⟩
    rw [upd_ne (by rw [← hD]; exact Nat.ne_of_lt hlt)]
    exact (f2 b hb).1
  have st3 : tn 0 s3.heap := T.keep _ _ _ st2 fun b _ o e => by rw [h3]; exact Heap.get?_push_of_some _ e
  have I4 := block_start I3 ok hN f3
  have pg := hg s3 (upd H2 D (.lst [])) s3.heap.objs.size (cellsFrom (s3.heap.objs.size + 1) scope.names (cloFrom X.env.cells scope.names [])) fp
  have pt := ht s3 (upd H2 D (.lst [])) s3.heap.objs.size (cellsFrom (s3.heap.objs.size + 1) scope.names (cloFrom X.env.cells scope.names [])) fp
  have pe := he s3 (upd H2 D (.lst [])) s3.heap.objs.size (cellsFrom (s3.heap.objs.size + 1) scope.names (cloFrom X.env.cells scope.names [])) fp
  show codeAny _ _ (.compStart (.ListComp elt [⟨tg, iter, ifs, 0⟩] scope pos) 0 (.ref it) (.ref D) (compEnvC scope (cellsFrom (s3.heap.objs.size + 1) scope.names (cloFrom X.env.cells scope.names [])) s3.heap.objs.size X.env)) (compPost (model X.prog X.w) X.A X.xe use Qf (.ref D) s3.heap.objs.size) { s3 with heap := pushCells (s3.heap.push { cls := .type "dict", data := .dict #[] }) scope.names }
  have nfp : ∀ b ∈ fp, (upd H2 D (.lst [])) b = none := fun b hb => (f3 b hb).1.1
  generalize hce : compEnvC scope (cellsFrom (s3.heap.objs.size + 1) scope.names (cloFrom X.env.cells scope.names [])) s3.heap.objs.size X.env = ce at I4 pg pt pe ⊢
  have cL : ce.locals = s3.heap.objs.size := by subst hce; rfl
  generalize hH3 : upd H2 D (.lst []) = H3 at I3 I4 pg pt pe w0 nfp f3
  generalize hs4 : ({ s3 with heap := pushCells (s3.heap.push { cls := .type "dict", data := .dict #[] }) scope.names } : Shared) = s4 at I4 ⊢
  have st4 : tn 0 s4.heap := T.keep _ _ _ st3 fun b _ o e => by rw [← hs4]; exact pushCells_keeps _ _ _ _ (Heap.get?_push_of_some _ e)
  have stat : ∀ {σ' : St} {H' : Hp} {s' : Shared}, Inv (X.blk s3 H3 scope ce fp) [] σ' H' s' → (∀ b ∈ fp, H' b = none) → ∀ b ∈ fp, FpOk (X.blk s3 H3 scope ce fp) [] H' b := fun {σ' H' s'} I' hn b hb =>
    ⟨hn b hb, (I'.ok.exf b hb).1, I'.ok.exfs b hb, .inl hb, fun x c e => (I'.ok.exf b hb).2 x c e, fun p hp => absurd (show p ∈ ([] : List (Addr × Obj)) ++ [] from hp) (by simp)⟩
  -- the handled exception stands through the block
  have hotB : ∀ {σ' : St} {H' : Hp} {s' : Shared}, Inv (X.blk s3 H3 scope ce fp) [] σ' H' s' → HotAt X.A p.1 s'.heap := fun {σ' H' s'} I' => by
    obtain ⟨hh, vs, e1, c1⟩ := hot
    obtain ⟨p1, p2, p3, p4, _⟩ := I3.pin p (List.mem_append_left _ hpn)
    exact ⟨hh, p.2, vs, I'.base.keep p.1 p.2 p1 p2 (fun hm => (List.mem_cons.mp (I3.stkSub p.1 hm)).elim p3 p4) (fun hm => (f3 p.1 hm).1.2.2.2.2.2 p (List.mem_append_left _ hpn) rfl), e1, c1⟩
  have loop : codeAny (model X.prog X.w) X.A (.compLoop (.ListComp elt [⟨tg, iter, ifs, 0⟩] scope pos) 0 (.ref it) (.ref D) ce) (compPost (model X.prog X.w) X.A X.xe use Qf (.ref D) s3.heap.objs.size) s4 := by
    refine compLoop_any (fun n s' => ∃ i H', Inv (X.blk s3 H3 scope ce fp) [] (wipe σ (own.map (·.2))) H' s' ∧ tn i s'.heap ∧ (∀ b ∈ fp, H' b = none) ∧ W i n H') ?_ m0 ⟨0, H3, I4, st4, nfp, w0⟩
    rintro n s5 ⟨i, H5, I5, st5, n5, w5⟩
    rcases turn i n H5 w5 with ⟨stop, qq⟩ | ⟨go, Nx, hNx, step⟩
    · have td := T.done (X.blk s3 H3 scope ce fp) rfl rfl rfl p.1 i [] s5 _ H5 (fun _ _ => False) (hotB I5) I5 (stat I5 n5) st5 stop
      refine thnF td fun r s6 ⟨hr, I6⟩ => ?_
      subst hr
      have I7 : Inv X pins σ H5 s6 := I3.call' (ch := fp) I6.os I6.base I6.hok I6.bare fun b hb => ⟨(f3 b hb).1.2.2.2.1, (f3 b hb).1.2.1, (f3 b hb).1.2.2.2.2.1, (f3 b hb).1.2.2.2.2.2⟩
      have nC : H5 s3.heap.objs.size = none := by
        have z : H5 ce.locals = none := I6.free
        rw [cL] at z
        exact z
      obtain ⟨m, hn, _⟩ := I6.loc
      have hn : s6.heap.Ns ce.locals m := hn
      rw [cL] at hn
      exact fin D _ s6 m H5 I7 qq hn (I3.fpOk (Nat.le_refl _) nC)
    · have ti := T.item (X.blk s3 H3 scope ce fp) rfl rfl rfl i [] s5 _ H5 (fun _ _ => False) I5 (stat I5 n5) st5 go
      refine thnF ti fun r s6 ⟨u, hr, h6⟩ => ?_
      subst hr
      refine thnF h6 fun _ s7 ⟨x, H7, I7, r7, y7, st7, n7⟩ => ?_
      have I7' := I7.pinned (stat I7 n7) (T.obj _ _ st7)
      refine thnF (pg.run _ s7 _ H7 x u _ I7' r7 (step x H7 y7)) fun _ s8 ⟨σ8, H8, I8, hw8, q8⟩ => ?_
      refine thnF (pt.run _ s8 σ8 H8 _ I8 q8) fun b s9 ⟨H9, I9, q9⟩ => ?_
      have nxt : ∀ {s' : Shared} {H' : Hp}, Inv (X.blk s3 H3 scope ce fp) ([] ++ pinsAt fp s7.heap) σ8 H' s' → Nx H' → ∃ m, m < n ∧ ∃ i H', Inv (X.blk s3 H3 scope ce fp) [] (wipe σ (own.map (·.2))) H' s' ∧ tn i s'.heap ∧ (∀ b ∈ fp, H' b = none) ∧ W i m H' := fun {s' H'} I' nx => by
        obtain ⟨m', hm, w'⟩ := hNx H' nx
        have pin' : ∀ b ∈ fp, ∀ o, s7.heap.get? b = some o → s'.heap.get? b = some o ∧ H' b = none := fun b hb o e =>
          let z := I'.pin (b, o) (List.mem_append_right _ (List.mem_append_right _ (mem_pinsAt hb e)))
          ⟨z.1, z.2.1⟩
        have hl : (wipe σ (own.map (·.2))).length = σ8.length := by rw [← hw8, L2.wipe_length]
        refine ⟨m', hm, i + 1, H', (I'.unpinned (pins := [])).weak hl (fun j v e => ?_), T.keep _ _ _ st7 fun b hb o e => (pin' b hb o e).1, fun b hb => ?_, w'⟩
        · rw [← hw8] at e
          exact (wipe_some e).1
        · obtain ⟨o, e, _⟩ := T.obj _ _ st7 b hb
          exact (pin' b hb o e).2
      cases b with
      | false =>
        simp only [Bool.false_eq_true, if_false] at q9 ⊢
        exact nxt I9 q9
      | true =>
        simp only [if_true] at q9 ⊢
        refine thnF (pe.run _ s9 σ8 H9 _ I9 q9) fun z s10 ⟨yv, H10, I10, r10, acc, hD10, hz10, nx⟩ => ?_
        exact app_ok (X := X.blk s3 H3 scope ce fp) I10 hD10 hz10 r10 fun s11 I11 => nxt I11 nx
  exact codeAny_compStart_list loop (T.self X.A 0 _ _ _ st4 loop)
theorem pe_lcE {elt iter : Expr} {ifs : List Expr} {scope : Scope} {own : List (Str × Nat)} {pos : Pos} {wi : TI} {g : TG} {tt : TT} {te : TE} {p : Addr × Obj} (hot : Hot1 X.A p) (hpn : p ∈ X.pn) (hN : X.N.Nodup) (hi : PIe X tg iter wi) (ok : BlkOk X.N X.env.scope scope own)
    (hg : ∀ (s : Shared) (H : Hp) (C : Addr) (cl : List (Str × Addr)) (fp : List Addr), PG (X.blk s H scope (compEnvC scope cl C X.env) fp) tg g) (ht : ∀ (s : Shared) (H : Hp) (C : Addr) (cl : List (Str × Addr)) (fp : List Addr), PTs (X.blk s H scope (compEnvC scope cl C X.env) fp) ifs tt)
    (he : ∀ (s : Shared) (H : Hp) (C : Addr) (cl : List (Str × Addr)) (fp : List Addr), PE (X.blk s H scope (compEnvC scope cl C X.env) fp) elt te) (hs : ∀ x, foldedSetIterable iter X.env x = pure x := by intro _; rfl) :
    PE X (.ListComp elt [⟨tg, iter, ifs, 0⟩] scope pos) (tLc wi g tt te (own.map (·.2))) := by
  refine ⟨fun pins s σ H Q I h => ?_⟩
  rw [eval_ListComp]
  exact lcE_core hot hpn hN I hi ok hg ht he hs h fun D C s' m H' I' q hn f => by
    obtain ⟨f0, f1, f2, f3, f4, f5⟩ := f
    exact ⟨m, hn, fun h'' sb => ⟨.ref D, H', I'.turned (t' := s'.toks) (fun b o hb e => (sb.2 b hb).trans e) f0 f1 f3 f4 f5, rfl, q⟩⟩
theorem ps_setLcE {i : Nat} {y : Str} {py : Pos} {elt iter : Expr} {ifs : List Expr} {scope : Scope} {own : List (Str × Nat)} {pos spos : Pos} {wi : TI} {g : TG} {tt : TT} {te : TE} {p : Addr × Obj} (hot : Hot1 X.A p) (hpn : p ∈ X.pn) (hN : X.N.Nodup) (hy : X.N[i]? = some y) (hyl : X.env.scope.names.lookup y = some .local)
    (hsw : swapsWith (.ListComp elt [⟨tg, iter, ifs, 0⟩] scope pos) (some (.Name y py)) spos.line X.env = pure true) (hi : PIe X tg iter wi) (ok : BlkOk X.N X.env.scope scope own) (hg : ∀ (s : Shared) (H : Hp) (C : Addr) (cl : List (Str × Addr)) (fp : List Addr), PG (X.blk s H scope (compEnvC scope cl C X.env) fp) tg g)
    (ht : ∀ (s : Shared) (H : Hp) (C : Addr) (cl : List (Str × Addr)) (fp : List Addr), PTs (X.blk s H scope (compEnvC scope cl C X.env) fp) ifs tt) (he : ∀ (s : Shared) (H : Hp) (C : Addr) (cl : List (Str × Addr)) (fp : List Addr), PE (X.blk s H scope (compEnvC scope cl C X.env) fp) elt te) (hs : ∀ x, foldedSetIterable iter X.env x = pure x := by intro _; rfl) :
    PS X (.Assign [.Name y py] (.ListComp elt [⟨tg, iter, ifs, 0⟩] scope pos) spos) (tAsg (tLc wi g tt te (own.map (·.2))) (gName i)) := by
  refine ⟨fun pins s σ H Dn I w => ?_⟩
  rw [exec_Assign_Name_used _ _ _ _ hsw]
  have w : tLc wi g tt te (own.map (·.2)) σ H (fun x H1 => gName i x σ H1 Dn.nx) := w
  refine wpAny_bind (wpAny_standAt (wpAny_bind ?_))
  show wpAny _ X.A (do
    let _ ← comprehension (.ListComp elt [⟨tg, iter, ifs, 0⟩] scope pos) scope X.env (firstIterPos [⟨tg, iter, ifs, 0⟩] pos) (newList []) false (eval iter X.env) (some (assign (.Name y py) X.env))) _ _ s
  refine wpAny_bind (thn (lcE_core (Qf := fun _ s' => SP X pins Dn .next s') hot hpn hN I hi ok hg ht he hs w fun L C s' m H' J q ns f => ?_) fun _ s' z => wpAny_pure (wpAny_pure z))
  obtain ⟨f0, f1, f2, f3, f4, f5⟩ := f
  show wpAny _ _ (assign (.Name y py) X.env (.ref L)) _ _ _
  refine wpAny_assign_Name (store_ok2 (v := V.ref L) J hN hy (.inl hyl) rfl ?_ (.inr hyl))
  rintro s2 J2 ⟨a, sb, ha⟩
  have ne : C ≠ a := ha.elim (fun z => by rw [z]; exact f1) fun z e => f4 y a z e.symm
  exact ⟨m, ns.sameBut sb ne, fun h3 sb3 => ⟨_, H', J2.turned (t' := s2.toks) (fun b o hb e => (sb3.2 b hb).trans e) f0 f1 f3 f4 f5, q⟩⟩
end
section
variable {X : Cx} {W : WX} {tg : Expr}
structure SIe (X : Cx) (W : WX) (tg iter : Expr) (m : Sl → EH → R Itd) : Prop where
  pi : PIe X tg iter (tG relI X W m)
theorem pieI {tg e : Expr} {t t' : TI} (h : PIe X tg e t) (hi : ∀ σ H R, t' σ H R → t σ H R) : PIe X tg e t' := ⟨fun pins s σ H R I q => h.run pins s σ H R I (hi _ _ _ q)⟩
theorem sie_range1 {a : Expr} {ms : Sl → EH → R (List D)} {p pos : Pos} (hm : X.mg "range" = none) (ha : SA X W [a] ms) (hg : Gl X "range" := by rfl) (hs : starEach [a] X.env = [(false, eval a X.env)] := by rfl) : SIe X W tg (.Call (.Name "range" p) [a] [] pos) (iRng asR1 ms) := by
  refine ⟨pieI (pi_range1E hg hm ha.pa hs) fun σ H Q ⟨μ, e, eh, er, hr, p⟩ => ⟨μ, e, eh, er, hr, post_mono (post_bind (Rl := relA) backI p) ?_⟩⟩
  rintro vs H1 ⟨μ1, eh1, ds, x1, hr1, rx, p1⟩
  unfold asR1 at p1
  cases rx with
  | nil => exact p1.elim
  | cons r1 r2 => cases r2 with
    | cons _ _ => cases r1 <;> exact p1.elim
    | nil => cases r1 with
      | int j =>
        simp only at p1
        by_cases c : rg1 j
        · rw [if_pos c] at p1
          exact ⟨j, rfl, c.1, c.2, p1 μ1 H1 _ (Ext.refl _ _) hr1 (relI_r 0 _)⟩
        · rw [if_neg c] at p1; exact p1.elim
      | _ => exact p1.elim
theorem sl_compE {elt iter : Expr} {ifs : List Expr} {scope : Scope} {own : List (Str × Nat)} {pos : Pos} {mi : Sl → EH → R Itd} {g : D → Sl → EH → R Sl} {t : Sl → EH → R Bool} {m : Sl → EH → R D} {ws : List Nat} {p : Addr × Obj} (hot : Hot1 X.A p) (hpn : p ∈ X.pn) (hN : X.N.Nodup) (hi : SIe X W tg iter mi) (ok : BlkOk X.N X.env.scope scope own) (hw : ∀ j, j ∈ ws → j ∈ own.map (·.2))
    (hg : ∀ (s : Shared) (H : Hp) (C : Addr) (cl : List (Str × Addr)) (fp : List Addr), SG (X.blk s H scope (compEnvC scope cl C X.env) fp) wF tg ws g) (ht : ∀ (s : Shared) (H : Hp) (C : Addr) (cl : List (Str × Addr)) (fp : List Addr), STs (X.blk s H scope (compEnvC scope cl C X.env) fp) wF ifs t)
    (he : ∀ (s : Shared) (H : Hp) (C : Addr) (cl : List (Str × Addr)) (fp : List Addr), SE (X.blk s H scope (compEnvC scope cl C X.env) fp) wF elt m) (hs : ∀ x, foldedSetIterable iter X.env x = pure x := by intro _; rfl) :
    SL X W (.ListComp elt [⟨tg, iter, ifs, 0⟩] scope pos) (lComp (own.map (·.2)) mi g t m) :=
  ⟨peI (pe_lcE (g := tGt X wF ws g) (tt := tG relB X wF t) (te := tG relD X wF m) hot hpn hN hi.pi ok (fun s H C cl fp => (hg s H C cl fp).pg) (fun s H C cl fp => (ht s H C cl fp).pts) (fun s H C cl fp => (he s H C cl fp).pe) hs) (tLc_of hw (fun _ _ _ _ h => h) (fun _ _ _ h => h) (fun _ _ _ h => h))⟩
/-- name = [..], an exception handled -/
theorem ss_setLcE {elt iter : Expr} {ifs : List Expr} {scope : Scope} {own : List (Str × Nat)} {pos : Pos} {mi : Sl → EH → R Itd} {g : D → Sl → EH → R Sl} {t : Sl → EH → R Bool} {m : Sl → EH → R D} {ws : List Nat} {p : Addr × Obj} (i : Nat) {y : Str} {py spos : Pos} (hot : Hot1 X.A p) (hpn : p ∈ X.pn) (hN : X.N.Nodup) (hi : SIe X W tg iter mi) (ok : BlkOk X.N X.env.scope scope own) (hw : ∀ j, j ∈ ws → j ∈ own.map (·.2))
    (hg : ∀ (s : Shared) (H : Hp) (C : Addr) (cl : List (Str × Addr)) (fp : List Addr), SG (X.blk s H scope (compEnvC scope cl C X.env) fp) wF tg ws g) (ht : ∀ (s : Shared) (H : Hp) (C : Addr) (cl : List (Str × Addr)) (fp : List Addr), STs (X.blk s H scope (compEnvC scope cl C X.env) fp) wF ifs t)
    (he : ∀ (s : Shared) (H : Hp) (C : Addr) (cl : List (Str × Addr)) (fp : List Addr), SE (X.blk s H scope (compEnvC scope cl C X.env) fp) wF elt m)
    (hsw : swapsWith (.ListComp elt [⟨tg, iter, ifs, 0⟩] scope pos) (some (.Name y py)) spos.line X.env = pure true) (hy : X.N[i]? = some y := by rfl) (hyl : X.env.scope.names.lookup y = some .local := by rfl) (hs : ∀ x, foldedSetIterable iter X.env x = pure x := by intro _; rfl) :
    SS X W (.Assign [.Name y py] (.ListComp elt [⟨tg, iter, ifs, 0⟩] scope pos) spos) (sAsg (eNew (lComp (own.map (·.2)) mi g t m)) (gVar i)) := by
  refine ⟨psI (ps_setLcE (g := tGt X wF ws g) (tt := tG relB X wF t) (te := tG relD X wF m) hot hpn hN hy hyl hsw hi.pi ok (fun s H C cl fp => (hg s H C cl fp).pg) (fun s H C cl fp => (ht s H C cl fp).pts) (fun s H C cl fp => (he s H C cl fp).pe) hs) fun D σ H ⟨μ, e, eh, er, hr, p⟩ => ?_⟩
  refine tLc_of hw (fun _ _ _ _ h => h) (fun _ _ _ h => h) (fun _ _ _ h => h) σ H _ ⟨μ, e, eh, er, hr, ?_⟩
  unfold sAsg eNew at p
  cases q : lComp (own.map (·.2)) mi g t m e eh with
  | bad => rw [q] at p; exact p
  | exc x h1 => rw [q] at p; exact fun μ' H' c dd y hr' re => p μ' H' σ c dd y hr' (er.ext y) re
  | ok xs eh1 =>
    rw [q] at p
    rintro μ1 H1 v x1 hr1 ⟨a, vs, rfl, hx, hn, h0, r⟩
    refine p (μ1 ++ [a]) H1 _ (x1.snoc h0 hx) (hr1.take hn hx r) (((er.ext x1).own a).set i (.ref ?_ ⟨_, hx⟩))
    rw [← hr1.len]; simp
end
end Sm
namespace Sm
open PySem PySem.Spec PyProof.Rows L2 L2H
/-! ### a def that is called while an exception is handled, with this exception among its arguments -/
structure FnE (P : Program) (w : World) (K : PySem.W.Frag) (mg : Str → Option Value) (base : Heap) (xs : List Str) (k : Nat) (f : Addr) (fd : FuncData) (ps : List Str) (m : Str → Addr → List D → EH → R D) : Prop where
  len : ∀ x a vs H Q E, spD K mg (m x a) vs H Q E → vs.length = ps.length
  run : ∀ (A : Around) (outer : List Env) (s : Shared) (H : Hp) (args : Args) (us : List Value) (vs : List V) (Q : VK) (E : XK) (a : Addr) (oe : Obj) (x : Str), x ∈ xs → RoomH k A → Hot1 A (a, oe) → L2N.Zn (.ref (He.ga K x)) none oe → PinOk outer H s (a, oe) → Env0 P w K mg base A outer s H → BindsTo s fd args (ps.zip us) → Vals vs us → spD K mg (m x a) vs H Q E →
    codeAny (model P w) A (.call (.ref f) args) (CR (L2N.CX P w) outer P w H s Q E) s
theorem hotU {k : Nat} {A : Around} (r : RoomH k A) : A.units + 64 < cLine := by have := r.un; omega
theorem hotU65 {k : Nat} {A : Around} (r : RoomH k A) : A.units + 65 < cLine := by have := r.un; omega
theorem fnHot {P : Program} {w : World} {K : PySem.W.Frag} {mg : Str → Option Value} {base : Heap} {x qual : Str} {params : Arguments} {body : List Stmt} {scope : Scope} {dvs : List V} {kws : List (Str × V)} {f : Addr} {fd : FuncData} {N ps xs : List Str} {k : Nat} {m : Str → Addr → Sl → EH → RS}
    (F : FunD K x qual params body scope dvs kws f fd) (S : FnScope N ps scope)
    (hb : ∀ (cdv : Value) (A : Around) (outer : List Env) (s : Shared) (H : Hp) (E : XK) (a : Addr) (oe : Obj) (x0 : Str), x0 ∈ xs → Hot1 (A.deeper (envOfC qual scope s.heap.objs.size f cdv)) (a, oe) → L2N.Zn (.ref (He.ga K x0)) none oe → RoomH k (A.deeper (envOfC qual scope s.heap.objs.size f cdv)) →
      SSs (cxH (L2N.CX P w) P w K mg base N qual scope f cdv A outer s H E (a, oe)) (Wd E) body (m x0 a)) :
    FnE P w K mg base xs (k + 1) f fd ps (fun x0 a => mFun ps.length N.length (m x0 a)) := by
  obtain ⟨oc, od, dV, kV, doc, pm, an, cdv, ct, osl, rfl, lk, hcd, _, _⟩ := F.ex
  have len : ∀ x0 a vs H Q E, spD K mg (mFun ps.length N.length (m x0 a)) vs H Q E → vs.length = ps.length := fun x0 a vs H Q E ⟨μ, eh, ds, hr, ra, p⟩ => by
    by_cases c : ds.length = ps.length
    · rw [← ra.len, c]
    · rw [mFun_len c] at p; exact p.elim
  refine ⟨len, fun A outer s H args us vs Q E a oe x0 hx0 hr hot hz hpin e0 hbd r hsp => ?_⟩
  have hl := len _ _ _ _ _ _ hsp
  have KX : K.In s.heap := e0.mod.kin.keeps fun b o e => (e0.bs b o e).1
  have lim : s.heap.NoLimit := e0.mod.nolimit.keeps fun b o e => (e0.bs b o e).1
  have hkind : ∀ y ∈ ps.zip us, scope.names.lookup y.1 = some .local ∨ (scope.names.lookup y.1 = some .cell ∧ ((cellsFrom (s.heap.objs.size + 1) scope.names []).lookup y.1).isSome = true) := fun ⟨n, v⟩ hy => by
    rcases S.par n (List.of_mem_zip hy).1 with q | q
    · exact .inl q
    · exact .inr ⟨q, PySem.W.cellsFrom_some _ _ _ (.inl q)⟩
  refine codeAny_call_function hr.depth (KX _ _ lk) rfl S.co S.gen rfl (PySem.W.codeRec_of KX hcd) (hbd _ _ _ _ ?_)
  refine wpAny_newFunctionEnv_cells S.kind hkind fun env he s1 xx => ?_
  subst he
  refine ⟨lim.keeps xx.toInCall.keep, codeAny_func ?_⟩
  have I : Inv (cxH (L2N.CX P w) P w K mg base N qual scope f cdv A outer s H E (a, oe)) [] (L2.start N vs) H s1 := inv_startH S hpin e0 hl r xx
  have B := hb cdv A outer s H E a oe x0 hx0 hot hz (hr.deeper _)
  obtain ⟨μ, eh, ds, hR, ra, p⟩ := hsp
  have hds : ds.length = ps.length := by rw [ra.len]; exact hl
  have er : EnvR K H μ (ds.map some ++ List.replicate (N.length - ds.length) none) (L2.start N vs) := by
    refine ⟨?_, fun i d h => ?_⟩
    · unfold L2.start
      simp [ra.len]
    · unfold L2.start
      by_cases hi : i < ds.length
      · rw [List.getElem?_append_left (by simpa using hi)] at h
        rw [List.getElem?_append_left (by simpa using (by rw [← ra.len]; exact hi : i < vs.length))]
        rw [List.getElem?_map] at h
        cases e : ds[i]? with
        | none => rw [e] at h; cases h
        | some d' =>
          rw [e] at h
          have h' : d' = d := by injection (Option.some.inj h)
          subst h'
          obtain ⟨v, h1, h2⟩ := ra.get e
          exact ⟨v, by rw [List.getElem?_map, h1]; rfl, h2⟩
      · rw [List.getElem?_append_right (by simpa using Nat.le_of_not_lt hi)] at h
        have := List.mem_of_getElem? h
        rw [List.mem_replicate] at this
        cases this.2
  have p' : postS K mg (Wd E) μ H (m x0 a (ds.map some ++ List.replicate (N.length - ds.length) none) eh) { nx := fun _ H' => Q .non H', rt := Q } := by
    unfold mFun at p
    rw [if_pos hds] at p
    generalize m x0 a (ds.map some ++ List.replicate (N.length - ds.length) none) eh = r at p
    cases r with
    | nx e h' => exact fun μ' H' σ' x hr' _ => p μ' H' .non x hr' .non
    | rt d h' => exact p
    | bk e h' => exact p.elim
    | ct e h' => exact p.elim
    | exc x e h' => exact fun μ' H' σ' c dd x hr' _ re => p μ' H' c dd x hr' re
    | bad => exact p
  refine wpAny_mono (B.pss.run [] s1 (L2.start N vs) H _ I ⟨μ, _, eh, er, hR, p'⟩) (fun fl s' hs => ?_) fun e s' hs => hs
  have fin : ∀ {σ' : St} {H' : Hp} {v : V} {u : Value}, Inv (cxH (L2N.CX P w) P w K mg base N qual scope f cdv A outer s H E (a, oe)) [] σ' H' s' → RelV v u → Q v H' → CE outer P w H s Q u s' :=
    fun {σ' H' v u} J rv q => ⟨v, H', J.os, J.bare, J.base, J.hok, rv, q⟩
  cases fl with
  | ret u =>
    obtain ⟨v, σ', H', J, rv, q⟩ := hs
    exact fin J rv q
  | next =>
    obtain ⟨σ', H', J, q⟩ := hs
    exact fin (v := V.non) (u := Value.none) J rfl q
  | brk =>
    obtain ⟨_, _, _, q⟩ := hs
    exact False.elim q
  | cont =>
    obtain ⟨_, _, _, q⟩ := hs
    exact False.elim q
/-- a def by its name, to be called so -/
def CallE (P : Program) (w : World) (K : PySem.W.Frag) (mg : Str → Option Value) (base : Heap) (xs : List Str) (x : Str) (k : Nat) (m : Str → Addr → List D → EH → R D) : Prop := ∃ f fd ps, FnE P w K mg base xs k f fd ps m ∧ mg x = some (.ref f) ∧ PySem.W.keepIn K (.ref f) = true ∧ Binds K fd ps []
theorem mkE {P : Program} {w : World} {K : PySem.W.Frag} {mg : Str → Option Value} {base : Heap} {x qual : Str} {params : Arguments} {body : List Stmt} {scope : Scope} {f : Addr} {fd : FuncData} {ps xs : List Str} {k : Nat} {m : Str → Addr → List D → EH → R D}
    (F : FunD K x qual params body scope [] [] f fd) (ok : FnE P w K mg base xs k f fd ps m) (g : mg x = some (.ref f))
    (h : ∀ (kV doc pm : Value) (an : Option Addr) (cdv ct : Value) (us : List Value), us.length = ps.length → bindArgs (PySem.W.fnOf x qual params body scope .none kV doc pm an cdv ct) ⟨us, []⟩ = pure (ps.zip us)) : CallE P w K mg base xs x k m :=
  ⟨f, fd, ps, ok, g, F.kp, fun s us _ hl => by
    have := F.bindsA h s us (by simpa using hl)
    simpa using this⟩
section
variable {X : Cx} {W : WX} {xs : List Str}
theorem hot1_of {A : Around} {a : Addr} {oe : Obj} {cls : Value} {d : Option Addr} (hz : L2N.Zn cls d oe) (hf : ∃ vs, oe.data = .fields vs) : Hot1 (A.mark (some (.ref a))) (a, oe) := by
  obtain ⟨vs, e⟩ := hf
  exact ⟨rfl, vs, e, hz.2.2 vs e⟩
theorem se_e {j k : Nat} {x x0 : Str} {a0 : Addr} {oe : Obj} {m : Str → Addr → List D → EH → R D} {ms : Sl → EH → R (List D)} {p pos : Pos} {a : Expr} {es : List Expr} (h : CallE X.prog X.w X.K X.mg X.base xs x k m) (tk : L2N.Takes X W) (hr : RoomH j X.A) (hx0 : x0 ∈ xs) (hot : Hot1 X.A (a0, oe)) (hp : (a0, oe) ∈ X.pn) (hz : L2N.Zn (.ref (He.ga X.K x0)) none oe)
    (ha : SA X W (a :: es) ms) (hj : k ≤ j := by decide) (hg : Gl X x := by rfl) (hdb : (x == ("__debug__" : Str)) = false := by decide) (he : starEach (a :: es) X.env = (false, eval a X.env) :: starEach es X.env := by rfl) (hpl : (backTo pos (starEach es X.env)).any (·.1) = false := by rfl) :
    SE X W (.Call (.Name x p) (a :: es) [] pos) (eCall (m x0 a0) ms) := by
  obtain ⟨f, fd, ps, F, hm, hk, hb⟩ := h
  refine ⟨⟨fun pins s σ H Q I ⟨μ, e, eh, er, hR, q⟩ => ?_⟩⟩
  refine wpAny_Call_Name_kw (ld_glob I hg hm ?_ hdb)
  refine PySem.W.callWith_K (h₀ := X.base) I.ok.mod.kin hk (thn (ha.pa.run pos pins s σ H _ I ⟨μ, e, eh, er, hR, post_bind (Rl := relA) backD q⟩) fun us s1 ⟨vs, H1, I1, r, μ1, eh1, ds, x1, hr1, rx, p1⟩ => ⟨I1.kIn, ?_⟩) he hpl
  have sp : spD X.K X.mg (m x0 a0) vs H1 Q (WE W σ) := ⟨μ1, eh1, ds, hr1, rx, p1⟩
  have hl : us.length = ps.length := by rw [← r.length]; exact F.len _ _ _ _ _ _ sp
  have b := hb s1 us I1.kIn (by rw [List.append_nil]; exact hl)
  rw [List.append_nil] at b
  have P1 := I1.pin (a0, oe) (List.mem_append_left _ hp)
  have hpin : PinOk X.stack H1 s1 (a0, oe) := ⟨P1.1, P1.2.1, fun hm => (List.mem_cons.mp (I1.stkSub a0 hm)).elim P1.2.2.1 P1.2.2.2.1, P1.2.2.2.2⟩
  refine wpAny_call (codeAny_mono (F.run X.A X.stack s1 H1 ⟨us, []⟩ us vs Q (WE W σ) a0 oe x0 hx0 (hr.mono hj) hot hz hpin I1.env0 b r sp) fun r s' hq => ?_)
  cases r with
  | error e => exact L2N.passAt tk σ pins H1 s1 e s' I1 hq
  | ok fl =>
    cases fl with
    | ret u => exact I1.after hq
    | next => exact False.elim hq
    | brk => exact False.elim hq
    | cont => exact False.elim hq
end
end Sm
namespace Sm
open PySem PySem.Spec PyProof.Rows L2
/-! ### keys -/
mutual
theorem hash_same (w w' : World) : ∀ (d : D) (k : NestedKey), keyT d = some k → k.hash w = k.hash w'
  | .int i, k, e => by rw [keyT] at e; cases e; rfl
  | .non, k, e => by rw [keyT] at e; cases e; rfl
  | .tup xs, k, e => by
    rw [keyT] at e
    cases q : keyTs xs with
    | none => rw [q] at e; cases e
    | some ks =>
      rw [q] at e
      cases e
      rw [NestedKey.hash, NestedKey.hash, hashes_same w w' xs ks q]
  | .bl _, k, e => by rw [keyT] at e; cases e; all_goals (intros; contradiction)
  | .str _, k, e => by rw [keyT] at e; cases e; all_goals (intros; contradiction)
  | .rol _, k, e => by rw [keyT] at e; cases e; all_goals (intros; contradiction)
  | .ref _, k, e => by rw [keyT] at e; cases e; all_goals (intros; contradiction)
  | .dic _, k, e => by rw [keyT] at e; cases e; all_goals (intros; contradiction)
  | .ty _, k, e => by rw [keyT] at e; cases e; all_goals (intros; contradiction)
  | .exn _ _, k, e => by rw [keyT] at e; cases e; all_goals (intros; contradiction)
  | .cls _, k, e => by rw [keyT] at e; cases e; all_goals (intros; contradiction)
theorem hashes_same (w w' : World) : ∀ (ds : List D) (ks : List NestedKey), keyTs ds = some ks → NestedKey.hashes w ks = NestedKey.hashes w' ks
  | [], ks, e => by rw [keyTs] at e; cases e; rfl
  | d :: ds, ks, e => by
    rw [keyTs] at e
    cases q : keyT d with
    | none => rw [q] at e; cases e
    | some k =>
      cases q2 : keyTs ds with
      | none => rw [q, q2] at e; cases e
      | some ks2 =>
        rw [q, q2] at e
        cases e
        rw [NestedKey.hashes, NestedKey.hashes, hash_same w w' d k q, hashes_same w w' ds ks2 q2]
end
theorem keyOf_tup {d : D} {k : NestedKey} (e : keyOf d = some k) : ∃ xs ks, d = .tup xs ∧ keyTs xs = some ks ∧ k = .tup ks ∧ k.depth ≤ 8 := by
  unfold keyOf at e
  split at e
  · rename_i xs
    split at e
    · rename_i ks q
      split at e
      · cases e; exact ⟨xs, ks, rfl, q, rfl, by assumption⟩
      · cases e
    · cases e
  · cases e
theorem keyOf_hash {d : D} {k : NestedKey} (e : keyOf d = some k) (w w' : World) : k.hash w = k.hash w' := by
  obtain ⟨xs, ks, rfl, q, rfl, _⟩ := keyOf_tup e
  exact hash_same w w' (.tup xs) (.tup ks) (by rw [keyT, q])
section
variable {X : Cx} {pins : List (Addr × Obj)} {σ : St} {H : Hp} {s : Shared} {μ : List Addr}
mutual
theorem nested_of (I : Inv X pins σ H s) : ∀ (d : D) (k : NestedKey) (v : V) (u : Value), keyT d = some k → Rp X.K H μ d v → RelV v u → NestedIs s.heap k u
  | .int i, k, v, u, e, r, ru => by
    rw [keyT] at e; cases e; cases r
    obtain ⟨t, rfl⟩ := (show ∃ t, u = Value.int i t from ru)
    exact .int i t
  | .non, k, v, u, e, r, ru => by
    rw [keyT] at e; cases e; cases r
    cases (show u = Value.none from ru)
    exact .none
  | .tup xs, k, v, u, e, r, ru => by
    rw [keyT] at e
    cases q : keyTs xs with
    | none => rw [q] at e; cases e
    | some ks =>
      rw [q] at e
      cases e
      cases r with
      | tup h1 h2 =>
        cases (show u = Value.ref _ from ru)
        obtain ⟨its, rv, ⟨o, e1, e2, m, e3⟩, _⟩ := I.tuple h1
        exact .tup e1 e2 e3 (by simpa using nesteds_of I xs ks _ _ q h2 rv)
  | .bl _, k, v, u, e, r, ru => by rw [keyT] at e; cases e; all_goals (intros; contradiction)
  | .str _, k, v, u, e, r, ru => by rw [keyT] at e; cases e; all_goals (intros; contradiction)
  | .rol _, k, v, u, e, r, ru => by rw [keyT] at e; cases e; all_goals (intros; contradiction)
  | .ref _, k, v, u, e, r, ru => by rw [keyT] at e; cases e; all_goals (intros; contradiction)
  | .dic _, k, v, u, e, r, ru => by rw [keyT] at e; cases e; all_goals (intros; contradiction)
  | .ty _, k, v, u, e, r, ru => by rw [keyT] at e; cases e; all_goals (intros; contradiction)
  | .exn _ _, k, v, u, e, r, ru => by rw [keyT] at e; cases e; all_goals (intros; contradiction)
  | .cls _, k, v, u, e, r, ru => by rw [keyT] at e; cases e; all_goals (intros; contradiction)
theorem nesteds_of (I : Inv X pins σ H s) : ∀ (ds : List D) (ks : List NestedKey) (vs : List V) (us : List Value), keyTs ds = some ks → RpAll X.K H μ ds vs → Vals vs us → NestedAll s.heap ks us
  | [], ks, vs, us, e, r, ru => by
    rw [keyTs] at e; cases e; cases r; cases ru; exact .nil
  | d :: ds, ks, vs, us, e, r, ru => by
    rw [keyTs] at e
    cases q : keyT d with
    | none => rw [q] at e; cases e
    | some k =>
      cases q2 : keyTs ds with
      | none => rw [q, q2] at e; cases e
      | some ks2 =>
        rw [q, q2] at e
        cases e
        cases r with
        | cons r1 r2 => cases ru with
          | cons u1 u2 => exact .cons (nested_of I d k _ _ q r1 u1) (nesteds_of I ds ks2 _ _ q2 r2 u2)
end
/-- a key of the evaluator is one of the machine -/
theorem key_is (I : Inv X pins σ H s) {d : D} {k : NestedKey} {v : V} {u : Value} (e : keyOf d = some k) (r : Rp X.K H μ d v) (ru : RelV v u) : ∃ b, v = .ref b ∧ u = .ref b ∧ (nestedKind X.prog X.w).is s.heap k b := by
  obtain ⟨xs, ks, rfl, q, rfl, hd⟩ := keyOf_tup e
  have n := nested_of I (.tup xs) (.tup ks) v u (by rw [keyT, q]) r ru
  cases r with
  | @tup a ds xs h1 h2 =>
    cases (show u = Value.ref _ from ru)
    exact ⟨a, rfl, rfl, n, hd⟩
end
/-! ### the evaluator's dicts -/
def dGet (kvs : List (D × D)) (k : NestedKey) : Option D := (kvs.find? fun kv => decide (keyOf kv.1 = some k)).map (·.2)
def dRep (k : NestedKey) (v : D) (kv : D × D) : D × D := if keyOf kv.1 = some k then (kv.1, v) else kv
def dPut (kvs : List (D × D)) (d : D) (k : NestedKey) (v : D) : List (D × D) := if (dGet kvs k).isSome then kvs.map (dRep k v) else kvs ++ [(d, v)]
abbrev NX := NestedKey × Addr × Value
def XR (K : PySem.W.Frag) (H : Hp) (μ : List Addr) (kv : D × D) (x : NX) : Prop := keyOf kv.1 = some x.1 ∧ Rp K H μ kv.1 (.ref x.2.1) ∧ ∃ v, RelV v x.2.2 ∧ Rp K H μ kv.2 v
section
variable {K : PySem.W.Frag} {H : Hp} {μ : List Addr}
theorem xr_get {kvs : List (D × D)} {xs : List NX} (r : Paired (XR K H μ) kvs xs) (k : NestedKey) : match dGet kvs k with
    | some d => ∃ p v, atKey xs k = some p ∧ RelV v p.2 ∧ Rp K H μ d v
    | none => atKey xs k = none := by
  induction r with
  | nil => exact rfl
  | @cons kv x kvs xs h t ih =>
    obtain ⟨e, _, v, rv, rp⟩ := h
    unfold dGet atKey at ih ⊢
    by_cases c : x.1 = k
    · have c' : keyOf kv.1 = some k := by rw [e, c]
      rw [List.find?_cons_of_pos (by simpa using c'), List.find?_cons_of_pos (by simpa using c)]
      exact ⟨x.2, v, rfl, rv, rp⟩
    · have c' : ¬ keyOf kv.1 = some k := by rw [e]; intro z; exact c (Option.some.inj z)
      rw [List.find?_cons_of_neg (by simpa using c'), List.find?_cons_of_neg (by simpa using c)]
      exact ih
theorem xr_rep {kvs : List (D × D)} {xs : List NX} (r : Paired (XR K H μ) kvs xs) (k : NestedKey) {d : D} {v : V} {u : Value} (rv : RelV v u) (rd : Rp K H μ d v) : Paired (XR K H μ) (kvs.map (dRep k d)) (xs.map (putAt k u)) := by
  induction r with
  | nil => exact .nil
  | @cons kv x kvs xs h t ih =>
    refine .cons ?_ ih
    obtain ⟨e, rk, h3⟩ := h
    unfold dRep putAt
    by_cases c : x.1 = k
    · rw [if_pos (by rw [e, c]), if_pos c]
      exact ⟨e, rk, v, rv, rd⟩
    · rw [if_neg (by rw [e]; intro z; exact c (Option.some.inj z)), if_neg c]
      exact ⟨e, rk, h3⟩
theorem paired_app {α β : Type} {F : α → β → Prop} : ∀ {l₁ m₁ : List α} {l₂ m₂ : List β}, Paired F l₁ l₂ → Paired F m₁ m₂ → Paired F (l₁ ++ m₁) (l₂ ++ m₂)
  | _, _, _, _, .nil, s => s
  | _, _, _, _, .cons r t, s => .cons r (paired_app t s)
theorem xr_put {kvs : List (D × D)} {xs : List NX} (r : Paired (XR K H μ) kvs xs) {dk : D} {k : NestedKey} {b : Addr} {d : D} {v : V} {u : Value} (ek : keyOf dk = some k) (rk : Rp K H μ dk (.ref b)) (rv : RelV v u) (rd : Rp K H μ d v) : Paired (XR K H μ) (dPut kvs dk k d) (storedH xs k b u) := by
  have g := xr_get r k
  unfold dPut storedH
  cases e : dGet kvs k with
  | none =>
    rw [e] at g
    simp only at g
    rw [g]
    exact paired_app r (.cons ⟨ek, rk, v, rv, rd⟩ .nil)
  | some d' =>
    rw [e] at g
    obtain ⟨p, v', ep, _⟩ := g
    rw [ep]
    exact xr_rep r k rv rd
theorem xr_keys {kvs : List (D × D)} {xs : List NX} (r : Paired (XR K H μ) kvs xs) : kvs.map (fun kv => keyOf kv.1) = (xs.map (·.1)).map some := by
  induction r with
  | nil => rfl
  | @cons kv x kvs xs h t ih => rw [List.map_cons, List.map_cons, List.map_cons, ih, h.1]
theorem ent_xs {kvs : List (D × D)} {es : List DictEntry} (P : Program) (w : World) (r : Paired (EntR K H μ) kvs es) : ∃ xs : List NX, es = xs.map (entryOfKey (nestedKind P w)) ∧ Paired (XR K H μ) kvs xs := by
  induction r with
  | nil => exact ⟨[], rfl, .nil⟩
  | @cons kv e kvs es h t ih =>
    obtain ⟨xs, e1, r⟩ := ih
    obtain ⟨k, b, v, ek, eb, eh, rk, rv, rp⟩ := h
    refine ⟨(k, b, e.val) :: xs, ?_, .cons ⟨ek, rk, v, rv, rp⟩ r⟩
    rw [List.map_cons, e1]
    congr 1
    have e2 : (nestedKind P w).hash k = k.hash w := rfl
    unfold entryOfKey
    rw [e2, ← eh w, ← eb]
theorem xs_ent {kvs : List (D × D)} {xs : List NX} (P : Program) (w : World) (r : Paired (XR K H μ) kvs xs) : Paired (EntR K H μ) kvs (xs.map (entryOfKey (nestedKind P w))) := by
  induction r with
  | nil => exact .nil
  | @cons kv x kvs xs h t ih =>
    obtain ⟨ek, rk, v, rv, rp⟩ := h
    refine .cons ⟨x.1, x.2.1, v, ek, rfl, fun w' => ?_, rk, rv, rp⟩ ih
    exact keyOf_hash ek w w'
theorem Paired.len {α β : Type} {F : α → β → Prop} : ∀ {l₁ : List α} {l₂ : List β}, Paired F l₁ l₂ → l₁.length = l₂.length
  | _, _, .nil => rfl
  | _, _, .cons _ t => congrArg Nat.succ (Paired.len t)
theorem XR.ext {μ' : List Addr} {H' : Hp} (x : Ext0 μ μ' H H') {kv : D × D} {y : NX} (h : XR K H μ kv y) : XR K H' μ' kv y := ⟨h.1, h.2.1.ext0 x, let ⟨v, a, b⟩ := h.2.2; ⟨v, a, b.ext0 x⟩⟩
end
section
variable {X : Cx} {W : WX} {pins : List (Addr × Obj)} {σ : St} {H : Hp} {s : Shared} {μ : List Addr} {eh : EH} {n : Nat} {a : Addr} {kvs : List (D × D)}
/-- the dict at the machine -/
structure DAt (X : Cx) (H : Hp) (s : Shared) (μ : List Addr) (a : Addr) (kvs : List (D × D)) (xs : List NX) : Prop where
  dd : s.heap.DictOfH (nestedKind X.prog X.w) a xs
  xr : Paired (XR X.K H μ) kvs xs
  sz : xs.length ≤ sizeLine
  sm : (a == sysModules) = false
theorem dct_at (I : Inv X pins σ H s) (hr : HeapR X.K H μ eh) (e : eh[n]? = some (.dct kvs)) (ha : μ[n]? = some a) : (∃ es, H a = some (rawD a es)) ∧ ∃ xs, DAt X H s μ a kvs xs := by
  obtain ⟨es, eH, pr, nd, l, sm⟩ := (show ObjR X.K H μ (.dct kvs) a from hr.obj n _ a e ha)
  obtain ⟨⟨o, ep, ho, hx, hd⟩, _, _⟩ := (show ObjOk X.prog X.w H s.heap a (rawD a es) from I.hok a _ eH)
  obtain ⟨xs, e1, xr⟩ := ent_xs X.prog X.w pr
  refine ⟨⟨es, eH⟩, xs, ⟨o, es, ep, ho, hx, hd, e1, ?_, ?_⟩, xr, by rw [← Paired.len xr]; exact l, sm⟩
  · intro x hx'
    have key : ∀ {kvs : List (D × D)} {xs : List NX}, Paired (XR X.K H μ) kvs xs → ∀ x ∈ xs, (nestedKind X.prog X.w).is s.heap x.1 x.2.1 := by
      intro kvs xs r
      induction r with
      | nil => intro x hx; cases hx
      | @cons kv y kvs xs h t ih =>
        intro x hx
        rcases List.mem_cons.mp hx with rfl | hx
        · obtain ⟨b, e1, e2, q⟩ := key_is I h.1 h.2.1 (show RelV (.ref x.2.1) (.ref x.2.1) from rfl)
          cases e1
          exact q
        · exact ih x hx
    exact key xr x hx'
  · have := xr_keys xr
    rw [this] at nd
    exact (List.pairwise_map.mp nd).imp fun h z => h (by rw [z])
/-- a dict is written -/
theorem dct_new {h' : Heap} {xs : List NX} (sm : (a == sysModules) = false) (dd : h'.DictOfH (nestedKind X.prog X.w) a xs) (xr : Paired (XR X.K H μ) kvs xs) (l : kvs.length ≤ sizeLine) :
    ∃ es, (∃ q, h'.get? a = some q) ∧ ObjOk X.prog X.w (upd H a (rawD a es)) h' a (rawD a es) ∧ es.toList = xs.map (entryOfKey (nestedKind X.prog X.w)) ∧ (kvs.map fun kv => keyOf kv.1).Nodup := by
  obtain ⟨o, es, ep, ho, hx, hd, e1, _, nd⟩ := dd
  refine ⟨es, ⟨o, ho⟩, ⟨⟨o, ep, ho, hx, hd⟩, ⟨o, ho⟩, fun h1 h2 ⟨o, ep, q1, q2, q3⟩ k => ⟨o, ep, k o q1, q2, q3⟩⟩, e1, ?_⟩
  rw [xr_keys xr]
  exact List.pairwise_map.mpr (nd.imp fun h z => h (Option.some.inj z))
end
end Sm
namespace Sm
open PySem PySem.Spec PyProof.Rows L2
section
variable {X : Cx} {W : WX}
theorem nroom {A : Around} (hu : A.units + 65 < cLine) {P : Program} {w : World} : (nestedKind P w).room A.in1 := by
  show A.in1.units + 8 < cLine
  have : A.in1.units = A.units + 1 := rfl
  omega
/-- {} -/
def eDictT : Sl → EH → R D := fun _ h => .ok (.dic h.length) (h ++ [.dct []])
theorem se_dictT {pos : Pos} : SE X W (.Dict [] [] pos) eDictT := ⟨⟨fun pins s σ H Q I ⟨μ, e, eh, er, hr, p⟩ => by
  have hp := I.hok.fresh (Nat.le_refl s.heap.objs.size)
  have hn := hr.out hp
  refine wpAny_Dict_empty ⟨.ref s.heap.objs.size, upd H s.heap.objs.size (rawD s.heap.objs.size #[]), I.laid (a := s.heap.objs.size) (o := rawD s.heap.objs.size #[]) (t' := s.toks) (fun _ _ q => Heap.get?_push_of_some _ q) (Nat.le_refl _) ?_, rfl, ?_⟩
  · exact ⟨⟨_, 0, Heap.get?_push_size _ rfl, ⟨rfl, rfl, rfl⟩, rfl⟩, ⟨_, Heap.get?_push_size _ rfl⟩, fun h1 h2 ⟨o, ep, q1, q2, q3⟩ k => ⟨o, ep, k o q1, q2, q3⟩⟩
  · refine p (μ ++ [s.heap.objs.size]) _ _ (Ext.own hp hn) ((hr.add hp).own hn ?_ fun P q t => t.out upd_same (fun ps z => by unfold rawD at z; cases z) rawD_ne) (.dic ?_)
    · exact ⟨#[], upd_same, .nil, List.nodup_nil, Nat.zero_le _, beq_eq_false_iff_ne.mpr (Ne.symm (Nat.ne_of_lt I.big))⟩
    · rw [← hr.len]; simp⟩⟩
/-- {} for numbers and texts, or as a plain value -/
def eDictL : Sl → EH → R D := fun _ h => .ok (.dic h.length) (h ++ [.dcl []])
theorem se_dictL {pos : Pos} : SE X W (.Dict [] [] pos) eDictL := ⟨peI pe_dnewK fun σ H Q ⟨μ, e, eh, er, hr, p⟩ q hq => by
  have hn := hr.out hq
  refine p (μ ++ [q]) _ _ (Ext.own hq hn) ((hr.add hq).own hn ⟨[], upd_same, .nil⟩ fun P q t => t.out upd_same (fun ps z => by cases z) (fun q z => by unfold LamX.CodeO at z; cases z)) (.dic ?_)
  rw [← hr.len]; simp⟩
/-! ### d[k] -/
def oDGet : D → D → EH → Option (D × EH) := fun x y h => match x with
  | .dic n => match h[n]?, keyOf y with
    | some (.dct kvs), some k => (dGet kvs k).map (·, h)
    | _, _ => none
  | _ => none
theorem oDGet_in {x y : D} {h : EH} {r : D × EH} (e : oDGet x y h = some r) : ∃ n kvs k d, x = .dic n ∧ h[n]? = some (.dct kvs) ∧ keyOf y = some k ∧ dGet kvs k = some d ∧ r = (d, h) := by
  unfold oDGet at e
  split at e
  · split at e
    · rename_i n kvs k e1 e2
      cases g : dGet kvs k with
      | none => rw [g] at e; cases e
      | some d => rw [g] at e; cases e; exact ⟨_, _, _, _, rfl, e1, e2, g, rfl⟩
    · cases e
  · cases e
theorem outD_some {μ : List Addr} {H : Hp} {o : Option (D × EH)} {Q : VK} (h : outD X μ H o Q) : ∃ r, o = some r ∧ outD X μ H (some r) Q := by
  cases o with
  | none => exact h.elim
  | some r => exact ⟨r, rfl, h⟩
theorem ir_dget (hu : X.A.units + 65 < cLine) : IxR X (rD X oDGet) := by
  intro value slice pins s σ H x y v u Q I rx ry ⟨μ, eh, dx, dy, hr, r1, r2, o⟩ hs
  obtain ⟨r, er, o⟩ := outD_some o
  obtain ⟨n, kvs, k, d, rfl, e1, ek, eg, rfl⟩ := oDGet_in er
  cases r1 with
  | @dic n a ha =>
    obtain ⟨_, xs, D⟩ := dct_at I hr e1 ha
    obtain ⟨b, e2, e3, hk⟩ := key_is I ek r2 ry
    have g := xr_get D.xr k
    rw [eg] at g
    obtain ⟨p, v', ep, rv, rp⟩ := g
    cases (show v = Value.ref a from rx)
    subst e3
    refine subscriptTail_builtinR (x := p.2) D.dd.typeIs PySem.F.slot_dict_getitem.lookup (wpAny_getItem_heap (nroom hu) hk D.dd ep ⟨rfl, v', H, I.tok _, rv, outD_val o hr rp⟩) hs
theorem se_dget {a b : Expr} {ma mb : Sl → EH → R D} {pos : Pos} (hu : X.A.units + 65 < cLine) (ha : SE X W a ma) (hb : SE X W b mb) (hs : PlainIx b := by intro _ _; rfl) : SE X W (.Subscript a b pos) (eBin oDGet ma mb) := ⟨peI (pe_ix (ir_dget hu) ha.pe hb.pe hs) tOp_of⟩
/-! ### k in d -/
def oDIn : D → D → EH → Option (D × EH) := fun x y h => match y with
  | .dic n => match h[n]?, keyOf x with
    | some (.dct kvs), some k => some (.bl (dGet kvs k).isSome, h)
    | _, _ => none
  | _ => none
def oDNotIn : D → D → EH → Option (D × EH) := fun x y h => match y with
  | .dic n => match h[n]?, keyOf x with
    | some (.dct kvs), some k => some (.bl (!(dGet kvs k).isSome), h)
    | _, _ => none
  | _ => none
theorem dget_some {K : PySem.W.Frag} {H : Hp} {μ : List Addr} {kvs : List (D × D)} {xs : List NX} (r : Paired (XR K H μ) kvs xs) (k : NestedKey) : (dGet kvs k).isSome = (atKey xs k).isSome := by
  have g := xr_get r k
  cases e : dGet kvs k with
  | none => rw [e] at g; simp only at g; rw [g]; rfl
  | some d => rw [e] at g; obtain ⟨p, v, ep, _⟩ := g; rw [ep]; rfl
theorem or_din (hu : X.A.units + 65 < cLine) : OpR X (compareOp .In) (rD X oDIn) := by
  intro pins s σ H x y v u Q I rx ry ⟨μ, eh, dx, dy, hr, r1, r2, o⟩
  obtain ⟨r, er, o⟩ := outD_some o
  unfold oDIn at er
  split at er
  · rename_i n
    split at er
    · rename_i kvs k e1 ek
      cases er
      cases r2 with
      | @dic n a ha =>
        obtain ⟨_, xs, D⟩ := dct_at I hr e1 ha
        obtain ⟨b, e2, e3, hk⟩ := key_is I ek r1 rx
        cases (show u = Value.ref a from ry)
        subst e3
        refine wpAny_in_heap (nroom hu) hk D.sm D.dd ?_
        rw [← dget_some D.xr]
        exact ⟨.bl _, H, I.tok _, rfl, outD_val o hr (.bl _)⟩
    · cases er
  · cases er
theorem or_dnotin (hu : X.A.units + 65 < cLine) : OpR X (compareOp .NotIn) (rD X oDNotIn) := by
  intro pins s σ H x y v u Q I rx ry ⟨μ, eh, dx, dy, hr, r1, r2, o⟩
  obtain ⟨r, er, o⟩ := outD_some o
  unfold oDNotIn at er
  split at er
  · rename_i n
    split at er
    · rename_i kvs k e1 ek
      cases er
      cases r2 with
      | @dic n a ha =>
        obtain ⟨_, xs, D⟩ := dct_at I hr e1 ha
        obtain ⟨b, e2, e3, hk⟩ := key_is I ek r1 rx
        cases (show u = Value.ref a from ry)
        subst e3
        refine wpAny_notIn_heap (nroom hu) hk D.sm D.dd ?_
        rw [← dget_some D.xr]
        exact ⟨.bl _, H, I.tok _, rfl, outD_val o hr (.bl _)⟩
    · cases er
  · cases er
/-! ### d[k] = v -/
theorem dPut_len {kvs : List (D × D)} {d : D} {k : NestedKey} {v : D} : (dPut kvs d k v).length ≤ kvs.length + 1 := by
  unfold dPut
  split
  · simp
  · simp
def rPutD (X : Cx) : V → V → V → Hp → (Hp → Prop) → Prop := fun o i v H Q => ∃ (μ : List Addr) (eh : EH) (n : Nat) (a : Addr) (kvs : List (D × D)) (dk : D) (k : NestedKey) (d : D), o = .ref a ∧ HeapR X.K H μ eh ∧ μ[n]? = some a ∧ eh[n]? = some (.dct kvs) ∧ keyOf dk = some k ∧ Rp X.K H μ dk i ∧ Rp X.K H μ d v ∧ kvs.length < sizeLine ∧
  ∀ H', Ext μ μ H H' → HeapR X.K H' μ (eh.set n (.dct (dPut kvs dk k d))) → Q H'
theorem set_dct (hu : X.A.units + 65 < cLine) : PSet X (rPutD X) := by
  intro pins s σ H o i v ov iv u Q I ro ri rv h
  obtain ⟨μ, eh, n, a, kvs, dk, k, d, rfl, hr, ha, e1, ek, rk, rd, l, q⟩ := h
  cases (show ov = Value.ref a from ro)
  obtain ⟨⟨es0, eH⟩, xs, D⟩ := dct_at I hr e1 ha
  obtain ⟨b, e2, e3, hk⟩ := key_is I ek rk ri
  subst e2 e3
  refine wpAny_setItem_heap (hsz := D.sz) (nroom hu) hk D.dd fun h' dd' hs => ?_
  have xr' := xr_put D.xr ek rk rv rd
  have l' : (dPut kvs dk k d).length ≤ sizeLine := by have := dPut_len (kvs := kvs) (d := dk) (k := k) (v := d); omega
  obtain ⟨es, he, ok, e4, nd⟩ := dct_new (H := H) D.sm dd' xr' l'
  have hl : LstAt H a → ∃ xs, rawD a es = .lst xs := fun ⟨ys, z⟩ => by rw [eH] at z; cases z
  have x3 : Ext μ μ H (upd H a (rawD a es)) := Ext.putX (List.mem_of_getElem? ha) hr hl
  refine ⟨_, I.write (x := a) (e := a) (by rw [eH]; trivial) (.inl rfl) (fun b u hb z => (hs.2 b hb).trans z) he ok, q _ x3 (hr.putO (List.getElem?_eq_some_iff.mp e1).1 ha hl ⟨es, upd_same, ?_, nd, l', D.sm⟩)⟩
  rw [e4]
  exact xs_ent X.prog X.w (Paired.mapP xr' fun _ _ z => z.ext x3.z)
def gDPut (mo mi : Sl → EH → R D) : D → Sl → EH → R Sl := fun d e h => (mo e h).bind fun o h1 => (mi e h1).bind fun i h2 => match o with
  | .dic n => (match h2[n]?, keyOf i with
    | some (.dct kvs), some k => if kvs.length < sizeLine then .ok e (h2.set n (.dct (dPut kvs i k d))) else .bad
    | _, _ => .bad)
  | _ => .bad
theorem sg_dput {o i : Expr} {mo mi : Sl → EH → R D} {pos : Pos} (hu : X.A.units + 65 < cLine) (ho : SE X W o mo) (hi : SE X W i mi)
    (ha : ∀ v, assign (.Subscript o i pos) X.env v = (do
      let ov ← holding [v] (eval o X.env)
      let iv ← holding [v, ov] (eval i X.env)
      standAt pos
      holding [v, ov, iv] (setItem ov iv v)
      release [v, ov, iv] []) := by intro _; rfl) : SG X W (.Subscript o i pos) [] (gDPut mo mi) := by
  refine ⟨pgI (pg_sub ho.pe hi.pe (set_dct hu) ha) fun v σ H Q ⟨μ, e, eh, d, er, hr, rd, p⟩ => ⟨μ, e, eh, er, hr, post_mono (post_bind (Rl := relD) ⟨fun _ _ h => h⟩ p) ?_⟩⟩
  rintro x H1 ⟨μ1, eh1, dx, x1, hr1, rx, p1⟩
  refine ⟨μ1, e, eh1, er.ext x1, hr1, post_mono (post_bind (Rl := relD) ⟨fun _ _ h => h⟩ p1) ?_⟩
  rintro y H2 ⟨μ2, eh2, dy, x2, hr2, ry, p2⟩
  have rx2 := Rp.ext x2 rx
  cases rx2 with
  | @dic n a hn =>
    simp only at p2
    split at p2
    · rename_i kvs k e1 ek
      by_cases c : kvs.length < sizeLine
      · rw [if_pos c] at p2
        refine ⟨μ2, eh2, n, a, kvs, dy, k, d, rfl, hr2, hn, e1, ek, ry, Rp.ext x2 (Rp.ext x1 rd), c, fun H' x3 hr' => ?_⟩
        exact p2 μ2 H' σ x3 hr' ⟨((er.ext x1).ext x2).ext x3, rfl, fun _ _ => rfl⟩
      · rw [if_neg c] at p2; exact p2.elim
    · exact p2.elim
  | _ => exact p2.elim
/-! ### list(d) -/
theorem call_list_dct (hc : X.calm = true) : CallR X (.type "list") (fun vs H Q => ∃ (μ : List Addr) (eh : EH) (n : Nat) (a : Addr) (kvs : List (D × D)), vs = [V.ref a] ∧ HeapR X.K H μ eh ∧ μ[n]? = some a ∧ eh[n]? = some (.dct kvs) ∧ ∀ p ws, H p = none → RpAll X.K H μ (kvs.map (·.1)) ws → Q (.ref p) (upd H p (.lst ws))) := by
  intro pins s σ H vs us Q I r h
  obtain ⟨μ, eh, n, a, kvs, rfl, hr, ha, e1, q⟩ := h
  obtain ⟨u, rfl, rx⟩ := r.one
  cases rx
  obtain ⟨_, xs, D⟩ := dct_at I hr e1 ha
  obtain ⟨o, es, ep, ho, hx, hdt, he, _, hn⟩ := D.dd
  have l1 : es.size = xs.length := by rw [← Array.length_toList, he, List.length_map]
  have l3 := D.sz
  refine PySem.W.kdl_call (kdl_raw D.sm hx hdt) (I.ok.hd hc) ho (by omega) fun h' tk acc' c' kp e it => ?_
  have ea : acc'.toList = xs.map fun x => Value.ref x.2.1 := by
    have hl : acc'.toList.length = xs.length := by rw [Array.length_toList, it.1]; exact l1
    apply List.ext_getElem?
    intro j
    rw [List.getElem?_map]
    cases hj : acc'.toList[j]? with
    | none =>
      have h1 := List.getElem?_eq_none_iff.mp hj
      rw [List.getElem?_eq_none (by omega)]
      rfl
    | some v =>
      obtain ⟨en, hen, hv⟩ := it.2 j v (by rw [← Array.getElem?_toList]; exact hj)
      rw [← Array.getElem?_toList, he, List.getElem?_map] at hen
      cases hb : xs[j]? with
      | none => rw [hb] at hen; cases hen
      | some x =>
        rw [hb] at hen
        cases hen
        rw [hv]
        rfl
  have rk : ∀ {kvs : List (Sm.D × Sm.D)} {xs : List NX}, Paired (XR X.K H μ) kvs xs → RpAll X.K H μ (kvs.map (·.1)) (xs.map fun x => V.ref x.2.1) ∧ Vals (xs.map fun x => V.ref x.2.1) (xs.map fun x => Value.ref x.2.1) := by
    intro kvs xs r
    induction r with
    | nil => exact ⟨.nil, .nil⟩
    | cons h t ih => exact ⟨.cons h.2.1 ih.1, .cons rfl ih.2⟩
  obtain ⟨k1, k2⟩ := rk D.xr
  refine ⟨.ref s.heap.objs.size, _, I.laid (t' := tk) (o := .lst (xs.map fun x => V.ref x.2.1)) kp (Nat.le_refl _) ?_, rfl, q _ _ (I.hok.fresh (Nat.le_refl _)) k1⟩
  exact ⟨by rw [List.length_map]; exact l3, acc'.toList, c', by rw [ea]; exact k2, by rw [Array.toArray_toList]; exact e⟩
def asKeys (d : D) (h : EH) : R (List D) := match d with
  | .dic n => (match h[n]? with
    | some (.dct kvs) => .ok (kvs.map (·.1)) h
    | _ => .bad)
  | _ => .bad
def lKeys (m : Sl → EH → R D) : Sl → EH → R (List D) := fun e h => (m e h).bind asKeys
theorem sl_keys {a : Expr} {m : Sl → EH → R D} {p pos : Pos} (hc : X.calm = true) (hm : X.mg "list" = none) (ha : SE X W a m) (hg : Gl X "list" := by rfl) (he : starEach [a] X.env = (false, eval a X.env) :: starEach [] X.env := by rfl) : SL X W (.Call (.Name "list" p) [a] [] pos) (lKeys m) := by
  refine ⟨peI (pe_callTy (call_list_dct hc) hg hm (by decide +kernel) (pa_cons ha.pe pa_nil he) (he := he)) fun σ H Q ⟨μ, e, eh, er, hr, p⟩ => ⟨μ, e, eh, er, hr, post_mono (post_bind (Rl := relD) backT p) ?_⟩⟩
  rintro x H1 ⟨μ1, eh1, d, x1, hr1, rx, p1⟩
  unfold asKeys at p1
  cases rx with
  | @dic n a ha =>
    simp only at p1
    split at p1
    · rename_i kvs e1
      exact ⟨μ1, eh1, n, a, kvs, rfl, hr1, ha, e1, fun q ws hq rw_ => relT_new p1 hr1 rw_ hq⟩
    · exact p1.elim
  | _ => exact p1.elim
/-! ### len(d) -/
def fLenD : List D → EH → Option (D × EH)
  | [.dic n], h => match h[n]? with
    | some (.dct kvs) => some (.int kvs.length, h)
    | _ => none
  | _, _ => none
theorem cr_lenD : CallR X (.builtin "len") (rA X fLenD) := by
  intro pins s σ H vs us Q I r ⟨μ, eh, ds, hr, ra, o⟩
  obtain ⟨z, ez, o⟩ := outD_some o
  unfold fLenD at ez
  split at ez
  · rename_i n
    split at ez
    · rename_i kvs e1
      cases ez
      cases ra with
      | cons r1 r2 =>
        cases r2
        cases r1 with
        | @dic n a ha =>
          obtain ⟨u, rfl, rx⟩ := r.one
          cases (show u = Value.ref a from rx)
          obtain ⟨_, xs, D⟩ := dct_at I hr e1 ha
          have l := Paired.len D.xr
          have l3 := D.sz
          have hm : s.heap.DictKeyed (nestedKind X.prog X.w) a (pairsH xs) := ⟨xs, D.dd, rfl⟩
          have l4 : (pairsH xs).length = kvs.length := by rw [pairsH_length, l]
          refine PyProof.Rows.call_len_slot (n := (pairsH xs).length) hm.typeIs PySem.F.slot_dict_len (fun Q' hq => len_keyed D.sm hm hq) (by omega) (by rw [sizeLine_eq] at l3; omega) ?_
          rw [l4]
          exact ⟨.int _, H, I.tok _, ⟨_, rfl⟩, outD_val o hr (.int _)⟩
    · cases ez
  · cases ez
end
end Sm
/-! a comprehension of two clauses: its list is taken over from the start -/
namespace Sm
open PySem PySem.Spec PyProof.Rows L2
section
variable {X : Cx} {W : WX}
def stepI (n : Nat) (it : Itd) (vs : List Nat) (g : D → Sl → EH → R Sl) (t : Sl → EH → R Bool) (m : Sl → EH → R D) (e : Sl) : Nat × EH → Lp (Nat × EH) (Option EH) := fun s => match it s.1 s.2 with
  | none => .done none
  | some none => .done (some s.2)
  | some (some d) => (match g d (wipeD e vs) s.2 with
    | .ok e1 h1 => (match t e1 h1 with
      | .ok true h2 => (match m e1 h2 with
        | .ok y h3 => (match h3[n]? with
          | some (.lst acc) => if acc.length < sizeLine then .more (s.1 + 1, h3.set n (.lst (acc ++ [y]))) else .done none
          | _ => .done none)
        | _ => .done none)
      | .ok false h2 => .more (s.1 + 1, h2)
      | _ => .done none)
    | _ => .done none)
noncomputable def stepO (n : Nat) (it : Itd) (vs vs1 : List Nat) (g : D → Sl → EH → R Sl) (t : Sl → EH → R Bool) (mi1 : Sl → EH → R Itd) (g1 : D → Sl → EH → R Sl) (t1 : Sl → EH → R Bool) (m : Sl → EH → R D) (e : Sl) : Nat × EH → Lp (Nat × EH) (Option EH) := fun s => match it s.1 s.2 with
  | none => .done none
  | some none => .done (some s.2)
  | some (some d) => (match g d (wipeD e vs) s.2 with
    | .ok e1 h1 => (match t e1 h1 with
      | .ok true h2 => (match mi1 e1 h2 with
        | .ok it1 h3 => (match loopW (stepI n it1 vs1 g1 t1 m e1) (0, h3) with
          | some (some h4) => .more (s.1 + 1, h4)
          | _ => .done none)
        | _ => .done none)
      | .ok false h2 => .more (s.1 + 1, h2)
      | _ => .done none)
    | _ => .done none)
noncomputable def eComp2 (vs vs1 : List Nat) (mi : Sl → EH → R Itd) (g : D → Sl → EH → R Sl) (t : Sl → EH → R Bool) (mi1 : Sl → EH → R Itd) (g1 : D → Sl → EH → R Sl) (t1 : Sl → EH → R Bool) (m : Sl → EH → R D) : Sl → EH → R D := fun e h => (mi e h).bind fun it h1 =>
  match loopW (stepO h1.length it vs vs1 g t mi1 g1 t1 m e) (0, h1 ++ [.lst []]) with
  | some (some h2) => .ok (.ref h1.length) h2
  | _ => .bad
section
variable {elt tg iter tg1 iter1 : Expr} {ifs ifs1 : List Expr} {scope : Scope} {own : List (Str × Nat)} {vs1 : List Nat} {pos : Pos} {mi mi1 : Sl → EH → R Itd} {g g1 : D → Sl → EH → R Sl} {t t1 : Sl → EH → R Bool} {m : Sl → EH → R D}
theorem tLc2_of {ws ws1 : List Nat} (hw : ∀ j, j ∈ ws → j ∈ own.map (·.2)) (hw1 : ∀ j, j ∈ ws1 → j ∈ vs1)
    (σ : St) (H : Hp) (Q : VK) (h : tG relD X W (eComp2 (own.map (·.2)) vs1 mi g t mi1 g1 t1 m) σ H Q) : tLc2 (tG relI X W mi) (tGt X wF ws g) (tG relB X wF t) (tG relI X wF mi1) (tGt X wF ws1 g1) (tG relB X wF t1) (tG relD X wF m) (own.map (·.2)) vs1 σ H Q := by
  obtain ⟨μ, e, eh, er, hr, p⟩ := h
  unfold eComp2 at p
  refine ⟨μ, e, eh, er, hr, ?_⟩
  cases qm : mi e eh with
  | bad => rw [qm] at p; exact p
  | exc x h2 => rw [qm] at p; exact p
  | ok it eh0 =>
    rw [qm] at p
    rintro μ0 H0 J x0 hr0 ri D hD
    simp only [R.bind_ok] at p
    have nD0 : D ∉ μ0 := hr0.out hD
    have hrA : HeapR X.K (upd H0 D (.lst [])) (μ0 ++ [D]) (eh0 ++ [.lst []]) := (hr0.add hD).take nD0 upd_same .nil
    have xA : Ext μ0 (μ0 ++ [D]) H0 (upd H0 D (.lst [])) := Ext.own hD nD0
    have hnA : (μ0 ++ [D])[eh0.length]? = some D := by rw [← hr0.len]; simp
    have lA : LstAt (upd H0 D (.lst [])) D := ⟨[], upd_same⟩
    generalize μ0 ++ [D] = μA at *
    generalize upd H0 D (.lst []) = HA at *
    cases q : loopW (stepO eh0.length it (own.map (·.2)) vs1 g t mi1 g1 t1 m e) (0, eh0 ++ [.lst []]) with
    | none => rw [q] at p; exact p.elim
    | some r =>
      rw [q] at p
      cases r with
      | none => exact p.elim
      | some hF =>
        have p : post relD X.K X.mg (fun c d H' => W c d σ H') μ H (.ok (.ref eh0.length) hF) Q := p
        obtain ⟨n, hn⟩ := loopW_run q
        refine ⟨fun i k H' => ∃ μ' eh', HeapR X.K H' μ' eh' ∧ Ext μA μ' HA H' ∧ runN (stepO eh0.length it (own.map (·.2)) vs1 g t mi1 g1 t1 m e) k (i, eh') = some (some hF), ⟨n, μA, _, hrA, Ext.refl _ _, hn⟩, ?_⟩
        rintro i k H1 ⟨μ1, eh1, hr1, x1, hk⟩
        cases k with
        | zero => cases hk
        | succ k =>
          unfold runN stepO at hk
          simp only at hk
          have ri1 := ri i μ1 H1 eh1 (xA.trans x1) hr1
          cases qi : it i eh1 with
          | none => rw [qi] at hk; cases hk
          | some o =>
            rw [qi] at hk ri1
            cases o with
            | none =>
              cases hk
              exact .inl ⟨ri1, p μ1 H1 _ (x0.trans (xA.trans x1)) hr1 (.ref (x1.z.getμ hnA) (x1.lst D lA))⟩
            | some d =>
              obtain ⟨go, yl⟩ := ri1
              refine .inr ⟨go, fun H' => ∃ μ' eh', HeapR X.K H' μ' eh' ∧ Ext μA μ' HA H' ∧ runN (stepO eh0.length it (own.map (·.2)) vs1 g t mi1 g1 t1 m e) k (i + 1, eh') = some (some hF), fun H' z => ⟨k, Nat.lt_succ_self k, z⟩, fun v H2 hy => ?_⟩
              obtain ⟨x2, hr2, rv⟩ := yl v H2 hy
              have er2 : EnvR X.K H2 μ1 e σ := er.ext ((x0.trans (xA.trans x1)).trans x2)
              refine ⟨μ1, wipeD e (own.map (·.2)), eh1, d, er2.wipe _, hr2, rv, ?_⟩
              simp only at hk
              cases qg : g d (wipeD e (own.map (·.2))) eh1 with
              | bad => rw [qg] at hk; cases hk
              | exc x h2 => rw [qg] at hk; cases hk
              | ok e2 h2 =>
                rw [qg] at hk
                simp only at hk
                rintro μ3 H3 σ3 x3 hr3 ⟨er3, l3, k3⟩
                have x13 := (x1.trans x2).trans x3
                refine ⟨wipe_back hw l3 k3, ⟨μ3, e2, h2, er3, hr3, ?_⟩⟩
                cases qt : t e2 h2 with
                | bad => rw [qt] at hk; cases hk
                | exc x h2 => rw [qt] at hk; cases hk
                | ok b h4 =>
                  rw [qt] at hk
                  rintro μ4 H4 bb x4 hr4 rfl
                  cases b with
                  | false => exact iteF ⟨μ4, h4, hr4, x13.trans x4, hk⟩
                  | true =>
                    refine iteT ⟨μ4, e2, h4, er3.ext x4, hr4, ?_⟩
                    simp only at hk
                    cases q1 : mi1 e2 h4 with
                    | bad => rw [q1] at hk; cases hk
                    | exc x h2 => rw [q1] at hk; cases hk
                    | ok it1 h5 =>
                      rw [q1] at hk
                      simp only at hk
                      rintro μ5 H5 J1 x5 hr5 ri5
                      have er5 : EnvR X.K H5 μ5 e2 σ3 := (er3.ext x4).ext x5
                      have x15 := (x13.trans x4).trans x5
                      cases ql : loopW (stepI eh0.length it1 vs1 g1 t1 m e2) (0, h5) with
                      | none => rw [ql] at hk; cases hk
                      | some r1 =>
                        rw [ql] at hk
                        cases r1 with
                        | none => cases hk
                        | some h6 =>
                          simp only at hk
                          obtain ⟨n1, hn1⟩ := loopW_run ql
                          refine ⟨fun j l H' => ∃ μ' eh', HeapR X.K H' μ' eh' ∧ Ext μ5 μ' H5 H' ∧ runN (stepI eh0.length it1 vs1 g1 t1 m e2) l (j, eh') = some (some h6), ⟨n1, μ5, h5, hr5, Ext.refl _ _, hn1⟩, ?_⟩
                          rintro j l H6 ⟨μ6, eh6, hr6, x6, hl⟩
                          cases l with
                          | zero => cases hl
                          | succ l =>
                            unfold runN stepI at hl
                            simp only at hl
                            have ri6 := ri5 j μ6 H6 eh6 x6 hr6
                            cases qj : it1 j eh6 with
                            | none => rw [qj] at hl; cases hl
                            | some o =>
                              rw [qj] at hl ri6
                              cases o with
                              | none =>
                                cases hl
                                exact .inl ⟨ri6, μ6, h6, hr6, x15.trans x6, hk⟩
                              | some d1 =>
                                obtain ⟨go1, yl1⟩ := ri6
                                refine .inr ⟨go1, fun H' => ∃ μ' eh', HeapR X.K H' μ' eh' ∧ Ext μ5 μ' H5 H' ∧ runN (stepI eh0.length it1 vs1 g1 t1 m e2) l (j + 1, eh') = some (some h6), fun H' z => ⟨l, Nat.lt_succ_self l, z⟩, fun v1 H7 hy1 => ?_⟩
                                obtain ⟨x7, hr7, rv1⟩ := yl1 v1 H7 hy1
                                refine ⟨μ6, wipeD e2 vs1, eh6, d1, (er5.ext (x6.trans x7)).wipe _, hr7, rv1, ?_⟩
                                simp only at hl
                                cases qg1 : g1 d1 (wipeD e2 vs1) eh6 with
                                | bad => rw [qg1] at hl; cases hl
                                | exc x h2 => rw [qg1] at hl; cases hl
                                | ok e3 h8 =>
                                  rw [qg1] at hl
                                  simp only at hl
                                  rintro μ8 H8 σ8 x8 hr8 ⟨er8, l8, k8⟩
                                  have x68 := (x6.trans x7).trans x8
                                  refine ⟨wipe_back hw1 l8 k8, ⟨μ8, e3, h8, er8, hr8, ?_⟩⟩
                                  cases qt1 : t1 e3 h8 with
                                  | bad => rw [qt1] at hl; cases hl
                                  | exc x h2 => rw [qt1] at hl; cases hl
                                  | ok b h9 =>
                                    rw [qt1] at hl
                                    rintro μ9 H9 bb x9 hr9 rfl
                                    cases b with
                                    | false => exact iteF ⟨μ9, h9, hr9, x68.trans x9, hl⟩
                                    | true =>
                                      refine iteT ⟨μ9, e3, h9, er8.ext x9, hr9, ?_⟩
                                      simp only at hl
                                      cases qe : m e3 h9 with
                                      | bad => rw [qe] at hl; cases hl
                                      | exc x h2 => rw [qe] at hl; cases hl
                                      | ok y h10 =>
                                        rw [qe] at hl
                                        simp only at hl
                                        rintro μ10 H10 w x10 hr10 rw10
                                        have x610 := (x68.trans x9).trans x10
                                        have hμ : μ10[eh0.length]? = some D := (x15.trans x610).z.getμ hnA
                                        cases qc : h10[eh0.length]? with
                                        | none => rw [qc] at hl; cases hl
                                        | some oo =>
                                          rw [qc] at hl
                                          have ob := hr10.obj _ _ D qc hμ
                                          cases oo with
                                          | lst acc =>
                                            obtain ⟨xs, eD, ra⟩ := ob
                                            simp only at hl
                                            have l5 := ra.len
                                            by_cases cz : acc.length < sizeLine
                                            · rw [if_pos cz] at hl
                                              have z1 : Ext μ10 μ10 H10 (upd H10 D (.lst (xs ++ [w]))) := Ext.put (List.mem_of_getElem? hμ) hr10
                                              exact ⟨xs, eD, by omega, μ10, _, hr10.putO (o := .lst (acc ++ [y])) (ho := .lst (xs ++ [w])) (List.getElem?_eq_some_iff.mp qc).1 hμ (fun _ => ⟨_, rfl⟩) ⟨xs ++ [w], upd_same, (ra.app (.one rw10)).ext0 z1.z⟩, x610.trans z1, hl⟩
                                            · rw [if_neg cz] at hl; cases hl
                                          | _ => cases hl
theorem se_comp2 {ws ws1 : List Nat} (hc : X.calm = true) (hN : X.N.Nodup) (hi : SI X W tg iter mi) (ok : BlkOk X.N X.env.scope scope own) (hv : ∀ i ∈ vs1, i ∈ own.map (·.2)) (hw : ∀ j, j ∈ ws → j ∈ own.map (·.2)) (hw1 : ∀ j, j ∈ ws1 → j ∈ vs1)
    (hg : ∀ (s : Shared) (H : Hp) (C : Addr) (cl : List (Str × Addr)) (fp : List Addr), SG (X.blk s H scope (compEnvC scope cl C X.env) fp) wF tg ws g) (ht : ∀ (s : Shared) (H : Hp) (C : Addr) (cl : List (Str × Addr)) (fp : List Addr), STs (X.blk s H scope (compEnvC scope cl C X.env) fp) wF ifs t)
    (hi1 : ∀ (s : Shared) (H : Hp) (C : Addr) (cl : List (Str × Addr)) (fp : List Addr), SI (X.blk s H scope (compEnvC scope cl C X.env) fp) wF tg1 iter1 mi1)
    (hg1 : ∀ (s : Shared) (H : Hp) (C : Addr) (cl : List (Str × Addr)) (fp : List Addr), SG (X.blk s H scope (compEnvC scope cl C X.env) fp) wF tg1 ws1 g1) (ht1 : ∀ (s : Shared) (H : Hp) (C : Addr) (cl : List (Str × Addr)) (fp : List Addr), STs (X.blk s H scope (compEnvC scope cl C X.env) fp) wF ifs1 t1)
    (he : ∀ (s : Shared) (H : Hp) (C : Addr) (cl : List (Str × Addr)) (fp : List Addr), SE (X.blk s H scope (compEnvC scope cl C X.env) fp) wF elt m) (hs : ∀ x, foldedSetIterable iter X.env x = pure x := by intro _; rfl) (hs1 : ∀ env x, foldedSetIterable iter1 env x = pure x := by intro _ _; rfl) :
    SE X W (.ListComp elt [⟨tg, iter, ifs, 0⟩, ⟨tg1, iter1, ifs1, 0⟩] scope pos) (eComp2 (own.map (·.2)) vs1 mi g t mi1 g1 t1 m) :=
  ⟨peI (pe_lc2 (vs1 := vs1) (g := tGt X wF ws g) (tt := tG relB X wF t) (te := tG relD X wF m) (wi1 := tG relI X wF mi1) (g1 := tGt X wF ws1 g1) (tt1 := tG relB X wF t1) hc hN hi.pi ok hv (fun s H C cl fp => (hg s H C cl fp).pg) (fun s H C cl fp => (ht s H C cl fp).pts) (fun s H C cl fp => (hi1 s H C cl fp).pi) (fun s H C cl fp => (hg1 s H C cl fp).pg) (fun s H C cl fp => (ht1 s H C cl fp).pts) (fun s H C cl fp => (he s H C cl fp).pe) hs hs1) (tLc2_of hw hw1)⟩
end
end
end Sm
/-! a dict comprehension whose keys are tuples of numbers; the walk (dcT_core) goes as HandS.DictComp's own, with this layer's dicts -/
namespace Sm
open PySem PySem.Spec PyProof.Rows L2
section
variable {X : Cx} {W : WX}
theorem nroom0 {A : Around} (hu : A.units + 65 < cLine) {P : Program} {w : World} : (nestedKind P w).room A := by
  show A.units + 8 < cLine
  omega
theorem dset_dct {pins : List (Addr × Obj)} {σ : St} {H : Hp} {s : Shared} {E : Value → Shared → Prop} {a : Addr} {i v : V} {iv u : Value} {Q : Unit → Shared → Prop} {Nx : Hp → Prop} (hu : X.A.units + 65 < cLine) (I : Inv X pins σ H s) (ri : RelV i iv) (rv : RelV v u)
    (h : rPutD X (.ref a) i v H Nx) (k : ∀ s' H', Inv X pins σ H' s' → Nx H' → Q () s') : wpAny (model X.prog X.w) X.A (dictSet a iv u) Q E s := by
  obtain ⟨μ, eh, n, a', kvs, dk, k', d, ea, hr, ha, e1, ek, rk, rd, l, q⟩ := h
  cases ea
  obtain ⟨⟨es0, eH⟩, xs, D⟩ := dct_at I hr e1 ha
  obtain ⟨b, e2, e3, hk⟩ := key_is I ek rk ri
  subst e2 e3
  refine wpAny_dictSet_heap (hsz := D.sz) (nroom0 hu) hk D.dd fun h' dd' hs => ?_
  have xr' := xr_put D.xr ek rk rv rd
  have l' : (dPut kvs dk k' d).length ≤ sizeLine := by have := dPut_len (kvs := kvs) (d := dk) (k := k') (v := d); omega
  obtain ⟨es, he, ok, e4, nd⟩ := dct_new (H := H) D.sm dd' xr' l'
  have hl : LstAt H a → ∃ xs, rawD a es = .lst xs := fun ⟨ys, z⟩ => by rw [eH] at z; cases z
  have x3 : Ext μ μ H (upd H a (rawD a es)) := Ext.putX (List.mem_of_getElem? ha) hr hl
  refine k _ _ (I.write (x := a) (e := a) (by rw [eH]; trivial) (.inl rfl) (fun b u hb z => (hs.2 b hb).trans z) he ok) (q _ x3 (hr.putO (List.getElem?_eq_some_iff.mp e1).1 ha hl ⟨es, upd_same, ?_, nd, l', D.sm⟩))
  rw [e4]
  exact xs_ent X.prog X.w (Paired.mapP xr' fun _ _ z => z.ext x3.z)
/-- {k: v for target in iter if ..}: D the new dict -/
def tDcT (X : Cx) (wi : TI) (g : TG) (tt : TT) (tk tv : TE) (vs : List Nat) : TE := fun σ H Q => wi σ H fun J H1 => ∀ D, H1 D = none → (D == sysModules) = false → ∃ W : Nat → Nat → Hp → Prop, (∃ m, W 0 m (upd H1 D (rawD D #[]))) ∧ ∀ i m H, W i m H →
  (J.stop i H ∧ Q (.ref D) H) ∨ (J.go i H ∧ ∃ Nx : Hp → Prop, (∀ H', Nx H' → ∃ m', m' < m ∧ W (i + 1) m' H') ∧ ∀ x H', J.yld i H x H' → g x (wipe σ vs) H' fun σ2 H2 => wipe σ2 vs = wipe σ vs ∧ tt σ2 H2 fun b H3 =>
    if b = true then tk σ2 H3 fun y H4 => tv σ2 H4 fun z H5 => rPutD X (.ref D) y z H5 Nx else Nx H3)
theorem dcT_core {pins : List (Addr × Obj)} {s : Shared} {σ : St} {H : Hp} {Q : VK} {kx vx tg iter : Expr} {ifs : List Expr} {scope : Scope} {own : List (Str × Nat)} {pos pos' : Pos} {wi : TI} {g : TG} {tt : TT} {tk tv : TE} {use : Option (Value → Sem Unit)} {Qf : Value → Shared → Prop}
    (hu : X.A.units + 65 < cLine) (hc : X.calm = true) (hN : X.N.Nodup) (I : Inv X pins σ H s) (hi : PI X tg iter wi) (ok : BlkOk X.N X.env.scope scope own)
    (hg : ∀ (s : Shared) (H : Hp) (C : Addr) (cl : List (Str × Addr)) (fp : List Addr), PG (X.blk s H scope (compEnvC scope cl C X.env) fp) tg g) (ht : ∀ (s : Shared) (H : Hp) (C : Addr) (cl : List (Str × Addr)) (fp : List Addr), PTs (X.blk s H scope (compEnvC scope cl C X.env) fp) ifs tt)
    (hk : ∀ (s : Shared) (H : Hp) (C : Addr) (cl : List (Str × Addr)) (fp : List Addr), PE (X.blk s H scope (compEnvC scope cl C X.env) fp) kx tk)
    (he : ∀ (s : Shared) (H : Hp) (C : Addr) (cl : List (Str × Addr)) (fp : List Addr), PE (X.blk s H scope (compEnvC scope cl C X.env) fp) vx tv) (hs : ∀ x, foldedSetIterable iter X.env x = pure x)
    (h : tDcT X wi g tt tk tv (own.map (·.2)) σ H Q)
    (hRR : ∀ D C s' m H', Inv X pins σ H' s' → Q (.ref D) H' → s'.heap.Ns C m → FpOk X pins H' C → compPost (model X.prog X.w) X.A X.xe use Qf (.ref D) C (.ok .next) s') :
    wpAny (model X.prog X.w) X.A (comprehension (.DictComp kx vx [⟨tg, iter, ifs, 0⟩] scope pos) scope X.env pos' newDict false (eval iter X.env) use) Qf X.xe s := by
  have hfree : ∀ y ∈ scope.names, y.2 = .free → ∃ c, X.env.cells.lookup y.1 = some c := fun y hy e => by
    rcases ok.free y hy e with k | k
    · exact I.ok.has _ (.inl k)
    · exact I.ok.has _ (.inr k)
  refine wpAny_comprehension_free (use := use) rfl hs (closure_ok hfree) ok.kind (fun y hy e => by rw [ok.uniq y hy, e])
    (thn (hi.run pins s σ H _ I h) fun xv s1 hx => thn hx fun itv s2 h2 => ?_)
  obtain ⟨it, fp, tn, J, H2, e, I2, T, st2, f2, q⟩ := h2
  subst e
  refine wpAny_newObj_type (newEnv_comp ?_)
  generalize hD : s2.heap.objs.size = D
  have hDn : H2 D = none := I2.hok.fresh (Nat.le_of_eq hD)
  obtain ⟨W, ⟨m0, w0⟩, turn⟩ := q D hDn (beq_eq_false_iff_ne.mpr (Ne.symm (Nat.ne_of_lt (hD ▸ I2.big))))
  -- the new list
  generalize hs3 : ({ s2 with heap := s2.heap.push { cls := .type "dict", data := .dict #[] } } : Shared) = s3
  have I3 : Inv X pins σ (upd H2 D (rawD D #[])) s3 := by
    rw [← hs3]
    refine I2.laid (t' := s2.toks) (fun b o e => Heap.get?_push_of_some _ e) (Nat.le_of_eq hD) ?_
    rw [← hD]
    exact ⟨⟨_, 0, Heap.get?_push_size _ rfl, ⟨rfl, rfl, rfl⟩, rfl⟩, ⟨_, Heap.get?_push_size _ rfl⟩, fun h1 h2 ⟨o, ep, q1, q2, q3⟩ k => ⟨o, ep, k o q1, q2, q3⟩⟩
  have h3 : s3.heap = s2.heap.push { cls := .type "dict", data := .dict #[] } := by rw [← hs3]
  have sz : ∀ b ∈ fp, b < s2.heap.objs.size := fun b hb => by
    obtain ⟨o, e, _⟩ := T.obj _ _ st2 b hb
    exact Heap.lt_size e
  have f3 : ∀ b ∈ fp, FpOk X pins (upd H2 D (rawD D #[])) b ∧ b < s3.heap.objs.size := fun b hb => by
    have hlt := sz b hb
    refine ⟨⟨?_, (f2 b hb).2⟩, by rw [h3, Heap.size_push]; exact Nat.lt_succ_of_lt hlt⟩
    rw [upd_ne (by rw [← hD]; exact Nat.ne_of_lt hlt)]
    exact (f2 b hb).1
  have st3 : tn 0 s3.heap := T.keep _ _ _ st2 fun b _ o e => by rw [h3]; exact Heap.get?_push_of_some _ e
  have I4 := block_start I3 ok hN f3
  have pg := hg s3 (upd H2 D (rawD D #[])) s3.heap.objs.size (cellsFrom (s3.heap.objs.size + 1) scope.names (cloFrom X.env.cells scope.names [])) fp
  have pt := ht s3 (upd H2 D (rawD D #[])) s3.heap.objs.size (cellsFrom (s3.heap.objs.size + 1) scope.names (cloFrom X.env.cells scope.names [])) fp
  have pk := hk s3 (upd H2 D (rawD D #[])) s3.heap.objs.size (cellsFrom (s3.heap.objs.size + 1) scope.names (cloFrom X.env.cells scope.names [])) fp
  have pe := he s3 (upd H2 D (rawD D #[])) s3.heap.objs.size (cellsFrom (s3.heap.objs.size + 1) scope.names (cloFrom X.env.cells scope.names [])) fp
  show codeAny _ _ (.compStart (.DictComp kx vx [⟨tg, iter, ifs, 0⟩] scope pos) 0 (.ref it) (.ref D) (compEnvC scope (cellsFrom (s3.heap.objs.size + 1) scope.names (cloFrom X.env.cells scope.names [])) s3.heap.objs.size X.env)) (compPost (model X.prog X.w) X.A X.xe use Qf (.ref D) s3.heap.objs.size) { s3 with heap := pushCells (s3.heap.push { cls := .type "dict", data := .dict #[] }) scope.names }
  have nfp : ∀ b ∈ fp, (upd H2 D (rawD D #[])) b = none := fun b hb => (f3 b hb).1.1
  generalize hce : compEnvC scope (cellsFrom (s3.heap.objs.size + 1) scope.names (cloFrom X.env.cells scope.names [])) s3.heap.objs.size X.env = ce at I4 pg pt pk pe ⊢
  have cL : ce.locals = s3.heap.objs.size := by subst hce; rfl
  generalize hH3 : upd H2 D (rawD D #[]) = H3 at I3 I4 pg pt pk pe w0 nfp f3
  generalize hs4 : ({ s3 with heap := pushCells (s3.heap.push { cls := .type "dict", data := .dict #[] }) scope.names } : Shared) = s4 at I4 ⊢
  have st4 : tn 0 s4.heap := T.keep _ _ _ st3 fun b _ o e => by rw [← hs4]; exact pushCells_keeps _ _ _ _ (Heap.get?_push_of_some _ e)
  have stat : ∀ {σ' : St} {H' : Hp} {s' : Shared}, Inv (X.blk s3 H3 scope ce fp) [] σ' H' s' → (∀ b ∈ fp, H' b = none) → ∀ b ∈ fp, FpOk (X.blk s3 H3 scope ce fp) [] H' b := fun {σ' H' s'} I' hn b hb =>
    ⟨hn b hb, (I'.ok.exf b hb).1, I'.ok.exfs b hb, .inl hb, fun x c e => (I'.ok.exf b hb).2 x c e, fun p hp => absurd (show p ∈ ([] : List (Addr × Obj)) ++ [] from hp) (by simp)⟩
  have loop : codeAny (model X.prog X.w) X.A (.compLoop (.DictComp kx vx [⟨tg, iter, ifs, 0⟩] scope pos) 0 (.ref it) (.ref D) ce) (compPost (model X.prog X.w) X.A X.xe use Qf (.ref D) s3.heap.objs.size) s4 := by
    refine compLoop_anyD (fun n s' => ∃ i H', Inv (X.blk s3 H3 scope ce fp) [] (wipe σ (own.map (·.2))) H' s' ∧ tn i s'.heap ∧ (∀ b ∈ fp, H' b = none) ∧ W i n H') ?_ m0 ⟨0, H3, I4, st4, nfp, w0⟩
    rintro n s5 ⟨i, H5, I5, st5, n5, w5⟩
    rcases turn i n H5 w5 with ⟨stop, qq⟩ | ⟨go, Nx, hNx, step⟩
    · have td := T.done (X.blk s3 H3 scope ce fp) rfl rfl rfl hc i [] s5 _ H5 (fun _ _ => False) I5 (stat I5 n5) st5 stop
      refine thnF td fun r s6 ⟨hr, I6⟩ => ?_
      subst hr
      -- back in the def's context
      have I7 : Inv X pins σ H5 s6 := I3.call' (ch := fp) I6.os I6.base I6.hok I6.bare fun b hb => ⟨(f3 b hb).1.2.2.2.1, (f3 b hb).1.2.1, (f3 b hb).1.2.2.2.2.1, (f3 b hb).1.2.2.2.2.2⟩
      have nC : H5 s3.heap.objs.size = none := by
        have z : H5 ce.locals = none := I6.free
        rw [cL] at z
        exact z
      obtain ⟨m, hn, _⟩ := I6.loc
      have hn : s6.heap.Ns ce.locals m := hn
      rw [cL] at hn
      exact hRR D s3.heap.objs.size s6 m H5 I7 qq hn (I3.fpOk (Nat.le_refl _) nC)
    · have ti := T.item (X.blk s3 H3 scope ce fp) rfl rfl rfl hc i [] s5 _ H5 (fun _ _ => False) I5 (stat I5 n5) st5 go
      refine thnF ti fun r s6 ⟨u, hr, h6⟩ => ?_
      subst hr
      refine thnF h6 fun _ s7 ⟨x, H7, I7, r7, y7, st7, n7⟩ => ?_
      have I7' := I7.pinned (stat I7 n7) (T.obj _ _ st7)
      refine thnF (pg.run _ s7 _ H7 x u _ I7' r7 (step x H7 y7)) fun _ s8 ⟨σ8, H8, I8, hw8, q8⟩ => ?_
      refine thnF (pt.run _ s8 σ8 H8 _ I8 q8) fun b s9 ⟨H9, I9, q9⟩ => ?_
      -- the turn's end
      have fin : ∀ {s' : Shared} {H' : Hp}, Inv (X.blk s3 H3 scope ce fp) ([] ++ pinsAt fp s7.heap) σ8 H' s' → Nx H' → ∃ m, m < n ∧ ∃ i H', Inv (X.blk s3 H3 scope ce fp) [] (wipe σ (own.map (·.2))) H' s' ∧ tn i s'.heap ∧ (∀ b ∈ fp, H' b = none) ∧ W i m H' := fun {s' H'} I' nx => by
        obtain ⟨m', hm, w'⟩ := hNx H' nx
        have pin' : ∀ b ∈ fp, ∀ o, s7.heap.get? b = some o → s'.heap.get? b = some o ∧ H' b = none := fun b hb o e =>
          let z := I'.pin (b, o) (List.mem_append_right _ (List.mem_append_right _ (mem_pinsAt hb e)))
          ⟨z.1, z.2.1⟩
        have hl : (wipe σ (own.map (·.2))).length = σ8.length := by rw [← hw8, wipe_length]
        refine ⟨m', hm, i + 1, H', (I'.unpinned (pins := [])).weak hl (fun j v e => ?_), T.keep _ _ _ st7 fun b hb o e => (pin' b hb o e).1, fun b hb => ?_, w'⟩
        · rw [← hw8] at e
          exact (wipe_some e).1
        · obtain ⟨o, e, _⟩ := T.obj _ _ st7 b hb
          exact (pin' b hb o e).2
      cases b with
      | false =>
        simp only [Bool.false_eq_true, if_false] at q9 ⊢
        exact fin I9 q9
      | true =>
        simp only [if_true] at q9 ⊢
        refine thnF (pk.run _ s9 σ8 H9 _ I9 q9) fun z s10 ⟨yk, H10, I10, r10, q10⟩ => ?_
        refine thnF (pe.run _ s10 σ8 H10 _ I10 q10) fun z2 s11 ⟨yv, H11, I11, r11, nx⟩ => ?_
        exact dset_dct (X := X.blk s3 H3 scope ce fp) hu I11 r10 r11 nx fun s12 H12 I12 n12 => fin I12 n12
  exact codeAny_compStart_dict loop (T.self X.A 0 _ _ _ st4 loop)
/-- as a value -/
theorem pe_dcT {kx vx tg iter : Expr} {ifs : List Expr} {scope : Scope} {own : List (Str × Nat)} {pos : Pos} {wi : TI} {g : TG} {tt : TT} {tk tv : TE} (hu : X.A.units + 65 < cLine) (hc : X.calm = true) (hN : X.N.Nodup) (hi : PI X tg iter wi) (ok : BlkOk X.N X.env.scope scope own)
    (hg : ∀ (s : Shared) (H : Hp) (C : Addr) (cl : List (Str × Addr)) (fp : List Addr), PG (X.blk s H scope (compEnvC scope cl C X.env) fp) tg g) (ht : ∀ (s : Shared) (H : Hp) (C : Addr) (cl : List (Str × Addr)) (fp : List Addr), PTs (X.blk s H scope (compEnvC scope cl C X.env) fp) ifs tt)
    (hk : ∀ (s : Shared) (H : Hp) (C : Addr) (cl : List (Str × Addr)) (fp : List Addr), PE (X.blk s H scope (compEnvC scope cl C X.env) fp) kx tk)
    (he : ∀ (s : Shared) (H : Hp) (C : Addr) (cl : List (Str × Addr)) (fp : List Addr), PE (X.blk s H scope (compEnvC scope cl C X.env) fp) vx tv) (hs : ∀ x, foldedSetIterable iter X.env x = pure x := by intro _; rfl) :
    PE X (.DictComp kx vx [⟨tg, iter, ifs, 0⟩] scope pos) (tDcT X wi g tt tk tv (own.map (·.2))) := by
  refine ⟨fun pins s σ H Q I h => ?_⟩
  rw [arm_eval_DictComp]
  refine dcT_core hu hc hN I hi ok hg ht hk he hs h fun D C s' m H' I' q hn f => ⟨m, hn, fun h'' sb => ?_⟩
  obtain ⟨f0, f1, f2, f3, f4, f5⟩ := f
  exact ⟨.ref D, H', I'.turned (t' := s'.toks) (fun b o hb e => (sb.2 b hb).trans e) f0 f1 f3 f4 f5, rfl, q⟩
def stepD (n : Nat) (it : Itd) (vs : List Nat) (g : D → Sl → EH → R Sl) (t : Sl → EH → R Bool) (mk mv : Sl → EH → R D) (e : Sl) : Nat × EH → Lp (Nat × EH) (Option EH) := fun s => match it s.1 s.2 with
  | none => .done none
  | some none => .done (some s.2)
  | some (some d) => (match g d (wipeD e vs) s.2 with
    | .ok e1 h1 => (match t e1 h1 with
      | .ok true h2 => (match mk e1 h2 with
        | .ok y h3 => (match mv e1 h3 with
          | .ok z h4 => (match h4[n]?, keyOf y with
            | some (.dct kvs), some k => if kvs.length < sizeLine then .more (s.1 + 1, h4.set n (.dct (dPut kvs y k z))) else .done none
            | _, _ => .done none)
          | _ => .done none)
        | _ => .done none)
      | .ok false h2 => .more (s.1 + 1, h2)
      | _ => .done none)
    | _ => .done none)
noncomputable def eDComp (vs : List Nat) (mi : Sl → EH → R Itd) (g : D → Sl → EH → R Sl) (t : Sl → EH → R Bool) (mk mv : Sl → EH → R D) : Sl → EH → R D := fun e h => (mi e h).bind fun it h1 =>
  match loopW (stepD h1.length it vs g t mk mv e) (0, h1 ++ [.dct []]) with
  | some (some h2) => .ok (.dic h1.length) h2
  | _ => .bad
section
variable {kx vx tg iter : Expr} {ifs : List Expr} {scope : Scope} {own : List (Str × Nat)} {pos : Pos} {mi : Sl → EH → R Itd} {g : D → Sl → EH → R Sl} {t : Sl → EH → R Bool} {mk mv : Sl → EH → R D}
theorem tDcT_of {ws : List Nat} (hw : ∀ j, j ∈ ws → j ∈ own.map (·.2))
    (σ : St) (H : Hp) (Q : VK) (h : tG relD X W (eDComp (own.map (·.2)) mi g t mk mv) σ H Q) : tDcT X (tG relI X W mi) (tGt X wF ws g) (tG relB X wF t) (tG relD X wF mk) (tG relD X wF mv) (own.map (·.2)) σ H Q := by
  obtain ⟨μ, e, eh, er, hr, p⟩ := h
  unfold eDComp at p
  refine ⟨μ, e, eh, er, hr, ?_⟩
  cases qm : mi e eh with
  | bad => rw [qm] at p; exact p
  | exc x h2 => rw [qm] at p; exact p
  | ok it eh0 =>
    rw [qm] at p
    rintro μ0 H0 J x0 hr0 ri D hD sm
    simp only [R.bind_ok] at p
    have nD0 : D ∉ μ0 := hr0.out hD
    have hrA : HeapR X.K (upd H0 D (rawD D #[])) (μ0 ++ [D]) (eh0 ++ [.dct []]) := (hr0.add hD).own nD0 ⟨#[], upd_same, .nil, List.nodup_nil, Nat.zero_le _, sm⟩ fun P q t => t.out upd_same (fun ps z => by unfold rawD at z; cases z) rawD_ne
    have xA : Ext μ0 (μ0 ++ [D]) H0 (upd H0 D (rawD D #[])) := Ext.own hD nD0
    have hnA : (μ0 ++ [D])[eh0.length]? = some D := by rw [← hr0.len]; simp
    generalize μ0 ++ [D] = μA at *
    generalize upd H0 D (rawD D #[]) = HA at *
    cases q : loopW (stepD eh0.length it (own.map (·.2)) g t mk mv e) (0, eh0 ++ [.dct []]) with
    | none => rw [q] at p; exact p.elim
    | some r =>
      rw [q] at p
      cases r with
      | none => exact p.elim
      | some hF =>
        have p : post relD X.K X.mg (fun c d H' => W c d σ H') μ H (.ok (.dic eh0.length) hF) Q := p
        obtain ⟨n, hn⟩ := loopW_run q
        refine ⟨fun i k H' => ∃ μ' eh', HeapR X.K H' μ' eh' ∧ Ext μA μ' HA H' ∧ runN (stepD eh0.length it (own.map (·.2)) g t mk mv e) k (i, eh') = some (some hF), ⟨n, μA, _, hrA, Ext.refl _ _, hn⟩, ?_⟩
        rintro i k H1 ⟨μ1, eh1, hr1, x1, hk⟩
        cases k with
        | zero => cases hk
        | succ k =>
          unfold runN stepD at hk
          simp only at hk
          have ri1 := ri i μ1 H1 eh1 (xA.trans x1) hr1
          cases qi : it i eh1 with
          | none => rw [qi] at hk; cases hk
          | some o =>
            rw [qi] at hk ri1
            cases o with
            | none =>
              cases hk
              exact .inl ⟨ri1, p μ1 H1 _ (x0.trans (xA.trans x1)) hr1 (.dic (x1.z.getμ hnA))⟩
            | some d =>
              obtain ⟨go, yl⟩ := ri1
              refine .inr ⟨go, fun H' => ∃ μ' eh', HeapR X.K H' μ' eh' ∧ Ext μA μ' HA H' ∧ runN (stepD eh0.length it (own.map (·.2)) g t mk mv e) k (i + 1, eh') = some (some hF), fun H' z => ⟨k, Nat.lt_succ_self k, z⟩, fun v H2 hy => ?_⟩
              obtain ⟨x2, hr2, rv⟩ := yl v H2 hy
              have er2 : EnvR X.K H2 μ1 e σ := er.ext ((x0.trans (xA.trans x1)).trans x2)
              refine ⟨μ1, wipeD e (own.map (·.2)), eh1, d, er2.wipe _, hr2, rv, ?_⟩
              simp only at hk
              cases qg : g d (wipeD e (own.map (·.2))) eh1 with
              | bad => rw [qg] at hk; cases hk
              | exc x h2 => rw [qg] at hk; cases hk
              | ok e2 h2 =>
                rw [qg] at hk
                simp only at hk
                rintro μ3 H3 σ3 x3 hr3 ⟨er3, l3, k3⟩
                have x13 := (x1.trans x2).trans x3
                refine ⟨wipe_back hw l3 k3, ⟨μ3, e2, h2, er3, hr3, ?_⟩⟩
                cases qt : t e2 h2 with
                | bad => rw [qt] at hk; cases hk
                | exc x h2 => rw [qt] at hk; cases hk
                | ok b h4 =>
                  rw [qt] at hk
                  rintro μ4 H4 bb x4 hr4 rfl
                  cases b with
                  | false => exact iteF ⟨μ4, h4, hr4, x13.trans x4, hk⟩
                  | true =>
                    refine iteT ⟨μ4, e2, h4, er3.ext x4, hr4, ?_⟩
                    simp only at hk
                    cases q1 : mk e2 h4 with
                    | bad => rw [q1] at hk; cases hk
                    | exc x h2 => rw [q1] at hk; cases hk
                    | ok y h5 =>
                      rw [q1] at hk
                      simp only at hk
                      rintro μ5 H5 w5 x5 hr5 rw5
                      refine ⟨μ5, e2, h5, (er3.ext x4).ext x5, hr5, ?_⟩
                      cases q2 : mv e2 h5 with
                      | bad => rw [q2] at hk; cases hk
                      | exc x h2 => rw [q2] at hk; cases hk
                      | ok z h6 =>
                        rw [q2] at hk
                        simp only at hk
                        rintro μ6 H6 w6 x6 hr6 rw6
                        have x16 := ((x13.trans x4).trans x5).trans x6
                        have hμ : μ6[eh0.length]? = some D := x16.z.getμ hnA
                        cases e1 : h6[eh0.length]? with
                        | none => rw [e1] at hk; cases hk
                        | some oo =>
                          cases ek : keyOf y with
                          | none => rw [e1, ek] at hk; cases oo <;> cases hk
                          | some k' =>
                            rw [e1, ek] at hk
                            cases oo with
                            | dct kvs =>
                              simp only at hk
                              by_cases cz : kvs.length < sizeLine
                              · rw [if_pos cz] at hk
                                exact ⟨μ6, h6, eh0.length, D, kvs, y, k', z, rfl, hr6, hμ, e1, ek, Rp.ext x6 rw5, rw6, cz, fun H' x7 hr7 => ⟨μ6, _, hr7, x16.trans x7, hk⟩⟩
                              · rw [if_neg cz] at hk; cases hk
                            | _ => cases hk
theorem se_dcomp {ws : List Nat} (hu : X.A.units + 65 < cLine) (hc : X.calm = true) (hN : X.N.Nodup) (hi : SI X W tg iter mi) (ok : BlkOk X.N X.env.scope scope own) (hw : ∀ j, j ∈ ws → j ∈ own.map (·.2))
    (hg : ∀ (s : Shared) (H : Hp) (C : Addr) (cl : List (Str × Addr)) (fp : List Addr), SG (X.blk s H scope (compEnvC scope cl C X.env) fp) wF tg ws g) (ht : ∀ (s : Shared) (H : Hp) (C : Addr) (cl : List (Str × Addr)) (fp : List Addr), STs (X.blk s H scope (compEnvC scope cl C X.env) fp) wF ifs t)
    (hk : ∀ (s : Shared) (H : Hp) (C : Addr) (cl : List (Str × Addr)) (fp : List Addr), SE (X.blk s H scope (compEnvC scope cl C X.env) fp) wF kx mk) (he : ∀ (s : Shared) (H : Hp) (C : Addr) (cl : List (Str × Addr)) (fp : List Addr), SE (X.blk s H scope (compEnvC scope cl C X.env) fp) wF vx mv) (hs : ∀ x, foldedSetIterable iter X.env x = pure x := by intro _; rfl) :
    SE X W (.DictComp kx vx [⟨tg, iter, ifs, 0⟩] scope pos) (eDComp (own.map (·.2)) mi g t mk mv) :=
  ⟨peI (pe_dcT (g := tGt X wF ws g) (tt := tG relB X wF t) (tk := tG relD X wF mk) (tv := tG relD X wF mv) hu hc hN hi.pi ok (fun s H C cl fp => (hg s H C cl fp).pg) (fun s H C cl fp => (ht s H C cl fp).pts) (fun s H C cl fp => (hk s H C cl fp).pe) (fun s H C cl fp => (he s H C cl fp).pe) hs) (tDcT_of hw)⟩
end
end
end Sm
/-! sorted(xs, key=lambda x: (d[x[0]], d[x[1]], d[x[2]])), d a dict of a name that the lambda captures -/
namespace Sm
open PySem PySem.Spec PyProof.Rows L2
/-! ### the rank of an item -/
def keyI (kvs : List (D × D)) (d : D) : Option Int := match keyOf d with
  | some k => match dGet kvs k with
    | some (.int i) => some i
    | _ => none
  | none => none
def key3 (kvs : List (D × D)) (d : D) : Option (Int × Int × Int) := match d with
  | .tup (a :: b :: c :: _) => match keyI kvs a, keyI kvs b, keyI kvs c with
    | some i, some j, some k => some (i, j, k)
    | _, _, _ => none
  | _ => none
def dat3 (t : Int × Int × Int) : PyData := .tuple [.int t.1, .int t.2.1, .int t.2.2]
def keyP (kvs : List (D × D)) (d : D) : PyData := dat3 ((key3 kvs d).getD (0, 0, 0))
/-- the items of a list -/
def lstD (h : EH) : D → Option (List D)
  | .rol xs => some xs
  | .ref n => itemsD h (.ref n)
  | _ => none
noncomputable def lSortK (i j : Nat) : Sl → EH → R (List D) := fun e h => match e[i]?, e[j]? with
  | some (some p), some (some (.dic m)) => match lstD h p, h[m]? with
    | some ds, some (.dct kvs) => if (ds.all fun d => (key3 kvs d).isSome) = true ∧ ds.length ≤ sizeLine then .ok (ds.mergeSort (PySem.W.dataLe false (keyP kvs))) h else .bad
    | _, _ => .bad
  | _, _ => .bad
/-! ### the making of the lambda, and what it leaves -/
/-- H', but for the table at P that may be longer by the new code object -/
def MadeN (H H' : Hp) (P : Addr) (q : Str) : Prop := H' = H ∨ ∃ (ps : Array Value) (pos : Pos) (c : Addr), H P = some (.tbl ps) ∧ H c = none ∧ TriplesOk ps.toList ∧ H' = upd (upd H P (.tbl (ps ++ #[rawInt pos.line, rawInt pos.col, .ref c]))) c (LamX.CodeO c q)
section
variable {X : Cx} {pins : List (Addr × Obj)} {σ : St} {H H' : Hp} {s : Shared} {μ : List Addr} {eh : EH} {P : Addr} {q : Str}
theorem MadeN.same (m : MadeN H H' P q) {b : Addr} {o : HO} (e : H b = some o) (nt : ∀ ps, o ≠ .tbl ps) : H' b = some o := by
  rcases m with rfl | ⟨ps, pos, c, hP, hc, _, rfl⟩
  · exact e
  · rw [upd_ne (ne_of_none e hc), upd_ne]
    · exact e
    · intro z; rw [z, hP] at e; exact nt _ (Option.some.inj e).symm
theorem MadeN.ext (m : MadeN H H' P lamQ) (hr : HeapR X.K H μ eh) : Ext μ μ H H' where
  pre := ⟨[], by simp⟩
  frm := fun b o e _ nt => m.same e nt
  tbl := fun b ps e _ => by
    rcases m with rfl | ⟨ps0, pos, c, hP, hc, _, rfl⟩
    · exact ⟨ps, e⟩
    · by_cases z : b = P
      · subst z; exact ⟨_, by rw [upd_ne (ne_of_none e hc), upd_same]⟩
      · exact ⟨ps, by rw [upd_ne (ne_of_none e hc), upd_ne z]; exact e⟩
  tab := fun P' q' t => by
    obtain ⟨hq, h0, ps, h1, h2, h3⟩ := t
    rcases m with rfl | ⟨ps0, pos, c, hP, hc, ht, rfl⟩
    · exact ⟨hq, h0, ps, h1, h2, h3⟩
    · have old : ∀ {b : Addr}, H b = some (LamX.CodeO b q') → upd (upd H P (.tbl (ps0 ++ #[rawInt pos.line, rawInt pos.col, .ref c]))) c (LamX.CodeO c lamQ) b = some (LamX.CodeO b q') := fun {b} e => by
        rw [upd_ne (ne_of_none e hc), upd_ne]
        · exact e
        · intro z; rw [z, hP] at e; cases e
      by_cases z : P' = P
      · subst z
        rw [hP] at h1
        cases h1
        have eL : (ps ++ #[rawInt pos.line, rawInt pos.col, .ref c]).toList = ps.toList ++ [rawInt pos.line, rawInt pos.col, .ref c] := by simp
        refine ⟨hq, h0, _, by rw [upd_ne (ne_of_none hP hc), upd_same], by rw [eL]; exact PySem.TriplesOk_snoc _ _ _ _ ht, fun p' cv hcv => ?_⟩
        rw [eL] at hcv
        rcases LamX.among_app _ ht hcv with y | y
        · obtain ⟨b, e1, e2, e3⟩ := h3 p' cv y
          exact ⟨b, e1, e2, old e3⟩
        · exact ⟨c, y, hr.out hc, by rw [upd_same, hq]⟩
      · refine ⟨hq, h0, ps, by rw [upd_ne (ne_of_none h1 hc), upd_ne z]; exact h1, h2, fun p' cv hcv => ?_⟩
        obtain ⟨b, e1, e2, e3⟩ := h3 p' cv hcv
        exact ⟨b, e1, e2, old e3⟩
  tup := fun b xs e => m.same e fun _ z => by cases z
  frz := fun b o u e => m.same e fun _ z => by cases z
  new := fun b h => .inl h
  lst := fun b ⟨xs, e⟩ => ⟨xs, m.same e fun _ z => by cases z⟩
theorem MadeN.heap (m : MadeN H H' P lamQ) (hP : P ∉ μ) (hr : HeapR X.K H μ eh) : HeapR X.K H' μ eh := by
  refine hr.grow (m.ext hr).z (fun a ha => ?_) (m.ext hr).tab
  rcases m with rfl | ⟨ps0, pos, c, e, hc, ht, rfl⟩
  · rfl
  · rw [upd_ne (fun z => hr.out hc (by rw [← z]; exact ha)), upd_ne (fun z => hP (by rw [← z]; exact ha))]
theorem frame_new (I : Inv X pins σ H s) {g : Addr} (hg : s.heap.objs.size ≤ g) : g ∉ frs X.stack := by
  intro z
  rcases List.mem_cons.mp (I.stkSub _ z) with e | e
  · exact Nat.not_lt.mpr hg (e ▸ I.lt)
  · exact I.nofs hg e
theorem lam_made {c : Addr} {params : Arguments} {body : Expr} {scope : Scope} {pos : Pos} {E Q : Value → Shared → Prop} (I : Inv X pins σ H s) (TB : LamX.TabB X.base X.mg c P) (hcode : X.env.code = .ref c) (hq : X.env.qual ++ "<lambda>" = q) (t : TabN μ H P q)
    (hdef : defaultsOf params X.env = ([], [])) (hfree : ∀ y ∈ scope.names, y.2 = .free → ∃ c, X.env.cells.lookup y.1 = some c)
    (h : ∀ (f c' : Addr) (pm ctv : Value) (H1 : Hp) (s' : Shared), Inv X pins σ H1 s' → MadeN H H1 P q → s'.heap.get? f = some (PySem.W.kla_obj "<lambda>" (X.env.qual ++ "<lambda>") params body scope (cloFrom X.env.cells scope.names []) pm c' ctv) →
      H1 f = none → f ∉ frs X.stack → H1 c' = some (LamX.CodeO c' q) → Q (.ref f) s') : wpAny (model X.prog X.w) X.A (eval (.Lambda params body scope pos) X.env) Q E s := by
  subst hq
  obtain ⟨_, _, ps, hP, ok, known⟩ := t
  have obP : s.heap.get? P = some { cls := .none, data := .fields ps } := I.hok P _ hP
  have glob := I.mod.glob.keeps I.bk
  have blt := TB.bm.keeps I.bk
  have head := TB.code.keeps I.bk
  refine PySem.W.kla_eval hdef ?_
  rcases hc : codeAmong pos ps.toList with _ | cv
  · refine PySem.W.kla_makeFunction (closure_ok hfree) I.ok.glob glob hcode head obP ok hc TB.gP blt ?_
    rintro c' ctv h' tk hx hge hlt ⟨c2, oc, vs, t, e2, hoc, hd, hv⟩ htb
    cases e2
    have fr : s.heap.objs.size ≤ h'.objs.size := by omega
    have nc : H c' = none := I.hok.fresh hge
    have J := LamX.inv_table (t' := tk) (more := #[rawInt pos.line, rawInt pos.col, .ref c']) (q := X.env.qual ++ "<lambda>") I hP (fun b o hb e => Heap.get?_push_of_some (PySem.W.kla_obj "<lambda>" (X.env.qual ++ "<lambda>") params body scope (cloFrom X.env.cells scope.names []) ((X.mg "__name__").getD .none) c' ctv) (hx b o hb e)) (Heap.get?_push_of_some _ htb) hge ⟨oc, vs, t, Heap.get?_push_of_some _ hoc, hd, hv⟩
    refine h _ c' _ ctv _ _ J (.inr ⟨ps, pos, c', hP, nc, ok, rfl⟩) (Heap.get?_push_size _ rfl) ?_ (frame_new I fr) upd_same
    have sP : P < s.heap.objs.size := Heap.lt_size obP
    rw [upd_ne (Nat.ne_of_gt hlt), upd_ne (Nat.ne_of_gt (Nat.lt_of_lt_of_le sP fr))]
    exact I.hok.fresh fr
  · obtain ⟨c', rfl, _, hco⟩ := known pos cv hc
    refine PySem.W.kla_makeFunctionHit (closure_ok hfree) I.ok.glob glob hcode head obP ok hc blt ?_
    intro ctv h' tk hx hsz
    exact h _ c' _ ctv H _ (I.kept fun b o e => Heap.get?_push_of_some _ (hx b o e)) (.inl rfl) (Heap.get?_push_size _ rfl) (I.hok.fresh hsz) (frame_new I hsz) hco
end
/-! ### the lambda's body -/
theorem lam_item {prog : Program} {w : World} {A : Around} {E Q : Value → Shared → Prop} {env : Env} {s : Shared} {r v : Str} {c t da b : Addr} {m : Str → Option Value} {its : Array Value} {n : Int} {jn j : Nat} {k : NestedKey} {xs : List NX} {pp : Addr × Value} {p1 p2 p3 p4 p5 : Pos}
    (hu : A.units + 65 < cLine) (hk : env.scope.kind = .function) (kr : env.kindOf r = some .free) (kv : env.kindOf v = some .local) (hc : env.cells.lookup r = some c) (hcell : s.heap.IsCell c (some (.ref da))) (hn : s.heap.Ns env.locals m) (hm : m v = some (.ref t))
    (ht : IsTup s.heap t its) (lo : -(2 ^ 63) ≤ n) (hi : n < 2 ^ 63) (hj : seqIndex? n its.size = some jn) (hx : its[jn]? = some (.ref b)) (key : (nestedKind prog w).is s.heap k b) (dd : s.heap.DictOfH (nestedKind prog w) da xs) (hp : atKey xs k = some pp)
    (d1 : (r == ("__debug__" : Str)) = false) (d2 : (v == ("__debug__" : Str)) = false) (d3 : (r == ("__classdict__" : Str)) = false) (q : ∀ tk, Q pp.2 { s with toks := tk }) :
    wpAny (model prog w) A (eval (.Subscript (.Name r p1) (.Subscript (.Name v p2) (.Constant (.int n) j p3) p4) p5) env) Q E s := by
  refine Subscript_ (wpAny_Name (wpAny_loadName_free hk kr hc hcell ?_ d3) d1)
  refine Subscript_ (wpAny_Name (wpAny_loadName_local hk kv hn hm ?_) d2)
  refine wpAny_Constant_int ?_
  refine subscriptTail_builtinR (x := .ref b) (s := { s with toks := s.toks + 1 }) ht.typeIs slot_tuple_getitem.lookup (getItem_tuple (Q := fun z s' => z = .ref b ∧ wpAny (model prog w) A (subscriptTail (.Name r p1) (.Subscript (.Name v p2) (.Constant (.int n) j p3) p4) (.ref da) z) Q E s') ht lo hi hj hx ⟨rfl, ?_⟩)
  exact subscriptTail_builtinR (x := pp.2) (s := { s with toks := s.toks + 1 }) dd.typeIs PySem.F.slot_dict_getitem.lookup (wpAny_getItem_heap (s := { s with toks := s.toks + 1 }) (Q := fun z s' => z = pp.2 ∧ Q z s') (nroom hu) key dd hp ⟨rfl, q _⟩)
theorem lex3_at {kvs : List (D × D)} {d : D} (h : (key3 kvs d).isSome = true) : ∃ a b c rest i j k, d = .tup (a :: b :: c :: rest) ∧ keyI kvs a = some i ∧ keyI kvs b = some j ∧ keyI kvs c = some k ∧ key3 kvs d = some (i, j, k) := by
  unfold key3 at h ⊢
  split at h
  · rename_i a b c rest
    split at h
    · rename_i i j k e1 e2 e3
      exact ⟨a, b, c, rest, i, j, k, rfl, e1, e2, e3, rfl⟩
    · cases h
  · cases h
theorem keyI_at {kvs : List (D × D)} {d : D} {i : Int} (h : keyI kvs d = some i) : ∃ k, keyOf d = some k ∧ dGet kvs k = some (.int i) := by
  unfold keyI at h
  split at h
  · rename_i k e
    split at h
    · rename_i e2
      cases h
      exact ⟨k, e, e2⟩
    · cases h
  · cases h
theorem each_rp {K : PySem.W.Frag} {H : Hp} {μ : List Addr} : ∀ {ds : List D} {vs : List V} {us : List Value}, RpAll K H μ ds vs → Vals vs us → PySem.W.EachIs (fun u d => ∃ y, Rp K H μ d y ∧ RelV y u) us ds
  | [], _, _, .nil, .nil => .nil
  | _ :: _, _, _, .cons r1 r2, .cons u1 u2 => .cons ⟨_, r1, u1⟩ (each_rp r2 u2)
theorem rp_each {K : PySem.W.Frag} {H : Hp} {μ : List Addr} : ∀ {ds : List D} {us : List Value}, PySem.W.EachIs (fun u d => ∃ y, Rp K H μ d y ∧ RelV y u) us ds → ∃ vs, RpAll K H μ ds vs ∧ Vals vs us
  | [], _, .nil => ⟨[], .nil, .nil⟩
  | _ :: _, _, .cons ⟨y, r, u⟩ t => by
    obtain ⟨vs, a, b⟩ := rp_each t
    exact ⟨y :: vs, .cons r a, .cons u b⟩
section
variable {X : Cx} {W : WX}
theorem dict_keep {P : Program} {w : World} {h h' : Heap} {a : Addr} {xs : List NX} (d : h.DictOfH (nestedKind P w) a xs) (k : ∀ b o, h.get? b = some o → h'.get? b = some o) : h'.DictOfH (nestedKind P w) a xs := by
  obtain ⟨o, es, ep, e1, e2, e3, e4, e5, e6⟩ := d
  exact ⟨o, es, ep, k _ _ e1, e2, e3, e4, fun x hx => ⟨NestedIs.at (fun b o vs n e _ => k b o e) _ _ (e5 x hx).1, (e5 x hx).2⟩, e6⟩
theorem sz_okP {α : Type} {xs : List α} (e : xs.length = 3) : xs.length ≤ sizeLine := by rw [sizeLine_eq, e]; decide
theorem tup_keep {h h' : Heap} {a : Addr} {its : Array Value} (t : IsTup h a its) (k : ∀ b o, h.get? b = some o → h'.get? b = some o) : IsTup h' a its := by
  obtain ⟨o, e, z⟩ := t
  exact ⟨o, k _ _ e, z⟩
abbrev lamCxE (X : Cx) (v r : Str) (f c' L : Addr) : Env := PySem.W.envX (X.env.qual ++ "<lambda>") { kind := .function, names := [(v, .local), (r, .free)], isGenerator := false, isCoroutine := false, more := [] } L f (.ref c') (cloFrom X.env.cells [(v, .local), (r, .free)] [])
theorem lst_of {H : Hp} {μ : List Addr} {eh : EH} {d : D} {v : V} {ds : List D} (hr : HeapR X.K H μ eh) (r : Rp X.K H μ d v) (h : lstD eh d = some ds) : ∃ a xs, v = .ref a ∧ SqL X.K H a xs ∧ RpAll X.K H μ ds xs := by
  cases r with
  | @rol a es xs q r => cases h; exact ⟨a, xs, rfl, q.l, r⟩
  | @ref n a ha hl =>
    simp only [lstD, itemsD] at h
    rcases e1 : eh[n]? with _ | o
    · rw [e1] at h; cases h
    rw [e1] at h
    cases o with
    | lst es =>
      cases h
      obtain ⟨xs, z, q⟩ := hr.lst e1 ha
      exact ⟨a, xs, rfl, SqL.of z, q⟩
    | _ => cases h
  | _ => cases h
theorem sl_sortK {i j : Nat} {x r v : Str} {c P : Addr} {j0 j1 j2 kt : Nat} {pa p1 p2 lp kp pos q1 q2 q3 q4 q5 q6 q7 q8 q9 qa qb qc qd qe qf qt : Pos} (room : Room 1 X.A) (hz : X.mg "sorted" = none) (hN : X.N[i]? = some x) (hNr : X.N[j]? = some r) (hr : X.env.scope.names.lookup r = some .cell)
    (hT : (P, lamQ) ∈ lamT X.K) (TB : LamX.TabB X.base X.mg c P) (hcode : X.env.code = .ref c) (hq : X.env.qual ++ "<lambda>" = lamQ) (hvr : (v == r) = false) (hvx : Vis X.env.scope x)
    (dx : (x == ("__debug__" : Str)) = false) (cx : (x == ("__classdict__" : Str)) = false) (dr : (r == ("__debug__" : Str)) = false) (cr : (r == ("__classdict__" : Str)) = false) (dv : (v == ("__debug__" : Str)) = false) (hbind : ∀ (q : Str) (body : Expr) (cl : List (Str × Addr)) (pm cv ctv u : Value), bindArgs (PySem.W.kla_fn "<lambda>" q ⟨[], [⟨v, none, pa⟩], none, [], [], none, []⟩ body { kind := .function, names := [(v, .local), (r, .free)], isGenerator := false, isCoroutine := false, more := [] } cl pm cv ctv) ⟨[u], []⟩ = pure [(v, u)] := by intros; rfl) (hg : Gl X "sorted" := by rfl) (hv : bootBuiltins "sorted" = some (.builtin "sorted") := by decide +kernel) :
    SL X W (.Call (.Name "sorted" p1) [.Name x p2] [⟨some "key", .Lambda ⟨[], [⟨v, none, pa⟩], none, [], [], none, []⟩ (.Tuple [.Subscript (.Name r q1) (.Subscript (.Name v q2) (.Constant (.int 0) j0 q3) q4) q5, .Subscript (.Name r q6) (.Subscript (.Name v q7) (.Constant (.int 1) j1 q8) q9) qa, .Subscript (.Name r qb) (.Subscript (.Name v qc) (.Constant (.int 2) j2 qd) qe) qf] kt qt)
      { kind := .function, names := [(v, .local), (r, .free)], isGenerator := false, isCoroutine := false, more := [] } lp, kp⟩] pos) (lSortK i j) := by
  refine ⟨⟨fun pins s σ H Q I ⟨μ, e, eh, er, hh, p⟩ => ?_⟩⟩
  unfold lSortK at p
  rcases ei : e[i]? with _ | _ | dp
  · rw [ei] at p; exact p.elim
  · rw [ei] at p; exact p.elim
  rcases ej : e[j]? with _ | _ | dj
  · rw [ei, ej] at p; exact p.elim
  · rw [ei, ej] at p; exact p.elim
  rw [ei, ej] at p
  cases dj with
  | dic m =>
    simp only at p
    rcases e1 : lstD eh dp with _ | ds
    · rw [e1] at p; exact p.elim
    rcases e2 : eh[m]? with _ | o
    · rw [e1, e2] at p; exact p.elim
    rw [e1, e2] at p
    cases o with
    | dct kvs =>
      simp only at p
      by_cases cond : (ds.all fun d => (key3 kvs d).isSome) = true ∧ ds.length ≤ sizeLine
      · rw [if_pos cond] at p
        obtain ⟨vp, sp, rp⟩ := er.val i dp ei
        obtain ⟨vj, sj, rj⟩ := er.val j _ ej
        refine wpAny_Call_Name_kw (ld_blt I hg hz hv ?_ (by decide) (by decide))
        refine PyProof.Rows.callWith_kw (Calls.spliced_cons (thn ((pe_var (pos := p2) hN hvx dx cx).run pins s σ H (fun y H1 => y = vp ∧ H1 = H) I ⟨vp, sp, rfl, rfl⟩) fun u s1 ⟨y, H1, I1, ru, e3, e4⟩ => Calls.spliced_nil ?_))
        subst e3 e4
        have tab := hh.tab _ hT
        refine PyProof.Rows.evalAll_cons (show wpAny _ _ (do
          let v ← eval _ X.env
          standAt pos
          pure v) _ _ _ from wpAny_bind (wpAny_mono (lam_made I1 TB hcode hq tab rfl (fun y hy hf => ?_) (Q := fun u s2 => wpAny (model X.prog X.w) X.A (do
          standAt pos
          pure u) _ X.xe s2) fun f c' pm ctv H2 s2 I2 mn of nf frf co => wpAny_bind (wpAny_standAt (wpAny_pure (PyProof.Rows.evalAll_nil ?_)))) (fun _ _ z => z) fun _ _ z => z))
        · simp only [List.mem_cons, List.not_mem_nil, or_false] at hy
          rcases hy with rfl | rfl
          · cases hf
          · exact I.ok.has _ (.inl hr)
        have hh2 := mn.heap tab.2.1 hh
        have x2 := mn.ext hh
        obtain ⟨a, vs, rfl, sq, ra⟩ := lst_of hh2 (rp.ext x2) e1
        obtain rfl : u = Value.ref a := ru
        obtain ⟨its, rv, pl, hsz⟩ := I2.list sq
        obtain ⟨mm, hn, hl⟩ := I2.loc
        obtain ⟨ur, rr, lk⟩ := hl j r vj hNr sj (.inr (.inl hr))
        cases rj with
        | @dic _ da hda =>
          obtain rfl : ur = Value.ref da := rr
          obtain ⟨cc, hcc, hcell⟩ : ∃ cc, X.env.cells.lookup r = some cc ∧ s2.heap.IsCell cc (some (.ref da)) := by
            rcases lk with ⟨k1, _⟩ | ⟨_, z⟩
            · have k1 : X.env.scope.names.lookup r = some .local := k1
              rw [hr] at k1; cases k1
            · exact z
          obtain ⟨_, xs, DA⟩ := dct_at I2 hh2 e2 hda
          have un := room.un
          show wpAny _ _ (call (.builtin "sorted") [.ref a] [(Str.ofString "key", .ref f)]) _ _ s2
          refine PySem.W.sorted_key_data (b := false) (keyP kvs) pl.isList (each_rp ra rv) (PySem.W.AllAlike.of fun _ _ => by simp [keyP, dat3, PySem.W.alike, PySem.W.alikeAll]) (PySem.W.Sortable.tuples fun _ => ⟨_, _, rfl⟩) cond.2 (fun d _ => ?_) (ksk_s1 _ _) (fun _ => ksk_l1 _ _) (fun _ => ksk_t1 _ _) ?turn ?fin
          case turn =>
            intro v1 d hR hmem h tk keep
            obtain ⟨a0, b0, c0, rest, i0, i1, i2, rfl, k0, k1, k2, k3⟩ := lex3_at (List.all_eq_true.mp cond.1 d hmem)
            obtain ⟨y, ry, ru⟩ := hR
            cases ry with
            | @tup t _ ws tsq tra =>
              obtain rfl : v1 = Value.ref t := ru
              obtain ⟨ti, tv, tt, _⟩ := I2.tuple tsq
              have item : ∀ {d0 : D} {w0 : V} {u0 : Value} {n0 : Int}, keyI kvs d0 = some n0 → Rp X.K H2 μ d0 w0 → RelV w0 u0 → ∃ b k pp tk, u0 = .ref b ∧ (nestedKind X.prog X.w).is h k b ∧ atKey xs k = some pp ∧ pp.2 = .int n0 tk := fun {d0 w0 u0 n0} hk rw_ ru0 => by
                obtain ⟨k, ek, eg⟩ := keyI_at hk
                obtain ⟨b, _, e4, is⟩ := key_is I2 ek rw_ ru0
                have g := xr_get DA.xr k
                rw [eg] at g
                obtain ⟨pp, vv, ep, rvv, rpp⟩ := g
                cases rpp
                obtain ⟨tk, e5⟩ := (show ∃ tk, pp.2 = Value.int n0 tk from rvv)
                exact ⟨b, k, pp, tk, e4, ⟨NestedIs.at (fun b o vs n e _ => keep b o e) _ _ is.1, is.2⟩, ep, e5⟩
              cases tra with
              | cons r0 tra => cases tra with
                | cons r1 tra => cases tra with
                  | cons r2 tra => cases tv with
                    | cons u0 tv => cases tv with
                      | cons u1 tv => cases tv with
                        | cons u2 tv =>
                          obtain ⟨g0, n0, pp0, t0, rfl, is0, at0, e0⟩ := item k0 r0 u0
                          obtain ⟨g1, n1, pp1, t1, rfl, is1, at1, e1'⟩ := item k1 r1 u1
                          obtain ⟨g2, n2, pp2, t2, rfl, is2, at2, e2'⟩ := item k2 r2 u2
                          obtain ⟨⟨oc, cvs, ct, c1, c2, c3⟩, _, _⟩ := I2.hok c' _ co
                          have cm : (lamCxE X v r f c' h.objs.size).cells.lookup r = some cc := by
                            show (cloFrom X.env.cells [(v, .local), (r, .free)] []).lookup r = some cc
                            simp [cloFrom, hcc]
                          refine wpAny_call (codeAny_mono (R := fun q s' => ∃ u, q = .ok (.ret u) ∧ PySem.W.KeyPure (keyP kvs (.tup (a0 :: b0 :: c0 :: rest))) { s2 with heap := h, toks := tk } u s') (PySem.W.kla_callFunE (by have := room.dp; show X.A.depth < recursionLimit; omega) (keep _ _ of) rfl rfl rfl rfl ⟨c', oc, cvs, ct, rfl, keep _ _ c1, c2, by rw [hq]; exact c3⟩ ?_) ?_)
                          · rw [hbind]
                            refine wpAny_pure (wpAny_newFunctionEnv (fun y hy => ?_) (fun y hy => ?_) (fun h1 hns hsb => ⟨(I2.nolimit.keeps keep).fresh _ hsb, ?_⟩) rfl)
                            · simp only [List.mem_cons, List.not_mem_nil, or_false] at hy
                              rcases hy with rfl | rfl <;> simp
                            · simp only [List.mem_cons, List.not_mem_nil, or_false] at hy
                              subst hy
                              simp [List.lookup]
                            have kp : ∀ b o, h.get? b = some o → h1.get? b = some o := fun b o e => hsb.extBut b o (Nat.ne_of_lt (Heap.lt_size e)) (Heap.get?_push_of_some _ e)
                            show codeAny (model X.prog X.w) X.A.in1.in1 (.expr _ (lamCxE X v r f c' h.objs.size)) _ _
                            have kk : ∀ b o, s2.heap.get? b = some o → h1.get? b = some o := fun b o e => kp _ _ (keep _ _ e)
                            have hu : (X.A.in1.in1.deeper (lamCxE X v r f c' h.objs.size)).units + 65 < cLine := by
                              show X.A.units + 1 + 1 + 3 + 65 < cLine
                              omega
                            have cell1 : h1.IsCell cc (some (.ref da)) := by
                              obtain ⟨o, z1, z2⟩ := hcell
                              exact ⟨o, kk _ _ z1, z2⟩
                            have tt1 := tup_keep tt kk
                            have dd1 := dict_keep DA.dd kk
                            have is' : ∀ {k : NestedKey} {b : Addr}, (nestedKind X.prog X.w).is h k b → (nestedKind X.prog X.w).is h1 k b := fun {k b} z => ⟨NestedIs.at (fun b o vs n e _ => kp b o e) _ _ z.1, z.2⟩
                            have kr : (lamCxE X v r f c' h.objs.size).kindOf r = some .free := by
                              show [(v, NameKind.local), (r, NameKind.free)].lookup r = _
                              have : (r == v) = false := by
                                rw [beq_eq_false_iff_ne] at hvr ⊢
                                exact fun z => hvr z.symm
                              simp [List.lookup, this]
                            have kv : (lamCxE X v r f c' h.objs.size).kindOf v = some .local := by
                              show [(v, NameKind.local), (r, NameKind.free)].lookup v = _
                              simp [List.lookup]
                            have mv : ([(v, Value.ref t)].reverse.lookup v) = some (.ref t) := by simp [List.lookup]
                            refine PySem.W.kla_codeExpr (wpAny_mono (E := fun _ _ => False) (wpAny_Tuple (Calls.spliced_cons (lam_item hu rfl kr kv cm cell1 hns mv tt1 (by decide) (by decide) (jn := 0) (by simp [seqIndex?]; omega) rfl (is' is0) dd1 at0 dr dv cr fun tk0 => Calls.spliced_cons (lam_item hu rfl kr kv cm cell1 hns mv tt1 (by decide) (by decide) (jn := 1) (by simp [seqIndex?]; omega) rfl (is' is1) dd1 at1 dr dv cr fun tk1 => Calls.spliced_cons (lam_item hu rfl kr kv cm cell1 hns mv tt1 (by decide) (by decide) (jn := 2) (by simp [seqIndex?]; omega) rfl (is' is2) dd1 at2 dr dv cr fun tk2 => Calls.spliced_nil ⟨sz_okP rfl, ?_⟩))))) (fun _ _ z => z) fun _ _ z => z.elim)
                            refine ⟨_, rfl, _, _, rfl, fun b o e => Heap.get?_push_of_some _ (kp _ _ e), ?_⟩
                            rw [e0, e1', e2', keyP, k3]
                            exact .tuple (Heap.get?_push_size _ rfl) rfl rfl (.cons (.int _ _) (.cons (.int _ _) (.cons (.int _ _) .nil)))
                          · rintro q s' ⟨u, rfl, kq⟩
                            exact kq
          case fin =>
            intro out c1 h' tk keep nofr hD hlen eo
            obtain ⟨ws, r1, r2⟩ := rp_each eo
            have fr : H2 (s2.heap.objs.size + 1) = none := I2.hok.fresh (Nat.le_succ _)
            have x3 := Ext.add (o := .lst ws) fr hh2
            refine ⟨.ref _, upd H2 (s2.heap.objs.size + 1) (.lst ws), I2.laid keep (Nat.le_succ _) ⟨by rw [r2.length, hlen]; exact cond.2, out, c1, r2, hD⟩, rfl, p μ _ _ (x2.trans x3) (hh2.add fr) ⟨_, ws, rfl, upd_same, hh2.out fr, (x2.fresh fr).resolve_left (hh2.out fr), r1.ext x3⟩⟩
          show X.A.units + 2 + (keyP kvs d).depth < cLine
          have : (keyP kvs d).depth = 1 := by simp [keyP, dat3, PyData.depth, PyData.depthAll]
          omega
      · rw [if_neg cond] at p; exact p.elim
    | _ => exact p.elim
  | _ => exact p.elim
end
/-- a def whose code object is known -/
theorem fnDc {P : Program} {w : World} {K : PySem.W.Frag} {mg : Str → Option Value} {base : Heap} {x qual : Str} {params : Arguments} {body : List Stmt} {scope : Scope} {dvs : List V} {kws : List (Str × V)} {pd : He.Defn} {fd : FuncData} {N ps : List Str} {k : Nat} {m : Sl → EH → RS}
    (F : FunD K x qual params body scope dvs kws (He.fAd K pd) fd) (S : FnScope N ps scope)
    (hb : ∀ (cdv : Value) (A : Around) (outer : List Env) (s : Shared) (H : Hp) (E : XK), cdv = .ref (He.cT K pd).1 → Room k (A.deeper (envOfC qual scope s.heap.objs.size (He.fAd K pd) cdv)) → SSs (cxOf (L2N.CX P w) P w K mg base N qual scope (He.fAd K pd) cdv A outer s H E) (Wd E) body m) :
    FnOk P w K mg base (L2N.CX P w) (k + 1) (He.fAd K pd) fd ps (spD K mg (mFun ps.length N.length m)) := by
  obtain ⟨oc, od, dV, kV, doc, pm, an, cdv, ct, osl, e, lk, hcd, _, _⟩ := F.ex
  obtain ⟨c, rfl⟩ := He.codeIn_ref hcd
  have ec : (Value.ref c) = .ref (He.cT K pd).1 := by
    show _ = Value.ref (He.codeOf K pd)
    rw [He.codeOf_eq lk (by rw [e])]
  subst e
  exact fn_of lk hcd S (fun vs H Q E z => fnD_len z) fun A outer s H vs Q E hR z => fnD_go (hb _ A outer s H E ec hR) z
/-! ### the end of a law that makes lambdas -/
theorem sp_lawT {K : PySem.W.Frag} {mg : Str → Option Value} {H : Hp} {a : Addr} {ns : List Int} {m : List D → EH → R D} {P : Addr} {h1 h2 : EH} (hT : lamT K = [(P, lamQ)]) (hP : H P = some (.tbl #[])) (h : SqL K H a (ns.map V.int)) (e1 : m [.rol (ns.map D.int)] [] = .ok (.bl true) h1) (e2 : m [.ref 0] [.lst (ns.map D.int)] = .ok (.bl true) h2) : spD K mg m [.ref a] H (fun v _ => v = .bl true) fun _ _ _ => False := by
  have r : ∀ μ, RpAll K H μ (ns.map D.int) (ns.map V.int) := fun μ => by
    clear h e1 e2
    induction ns with
    | nil => exact .nil
    | cons n ns ih => exact .cons (.int n) ih
  have nil0 : ∀ μ, P ∉ μ → TabN μ H P lamQ := fun μ hn => ⟨rfl, hn, #[], hP, True.intro, fun pos cv hc => by
    have z : codeAmong pos [] = some cv := hc
    simp [codeAmong] at z⟩
  have frozen : SqF K H a (ns.map V.int) → spD K mg m [.ref a] H (fun v _ => v = .bl true) fun _ _ _ => False := fun q => by
    refine ⟨[], [], [.rol (ns.map D.int)], ⟨rfl, List.nodup_nil, fun n o a h => by simp at h, fun p hp => ?_⟩, .one (.rol q (r _)), ?_⟩
    · rw [hT, List.mem_singleton] at hp; subst hp; exact nil0 [] (by simp)
    rw [e1]
    intro μ' H' v _ _ z
    cases z
    rfl
  rcases h with (h | ⟨o, h⟩) | h
  · have ne : P ≠ a := fun z => by rw [z, h] at hP; cases hP
    refine ⟨[a], [.lst (ns.map D.int)], [.ref 0], ⟨rfl, by simp, fun n o b h1 h2 => ?_, fun p hp => ?_⟩, .one (.ref rfl ⟨_, h⟩), ?_⟩
    · cases n with
      | zero => cases h1; cases h2; exact ⟨_, h, r _⟩
      | succ n => simp at h1
    · rw [hT, List.mem_singleton] at hp; subst hp; exact nil0 [a] (by simp [ne])
    rw [e2]
    intro μ' H' v _ _ z
    cases z
    rfl
  · exact frozen (.inl ⟨o, h⟩)
  · exact frozen (.inr h)
end Sm
namespace Sm
open PySem PySem.Spec PyProof.Rows L2 HT
section
variable {prog : Program} {w : World} {A : Around} {E : Value → Shared → Prop} {s : Shared}
theorem sliceApplied_rev {sl : Addr} {vl vu vs : Value} {n : Nat} {Q : Int × Int × Nat → Shared → Prop} (hs : s.heap.IsSliceOf sl vl vu vs) (pl : IsPart vl none) (pu : IsPart vu none) (ps : IsPart vs (some (-1)))
    (h : Q ((n : Int) - 1, -1, n) s) : wpAny (model prog w) A (Builtin.Slice.sliceApplied (.ref sl) (pure (n : Int))) Q E s := by
  obtain ⟨os, hos, hcs, hds⟩ := id hs
  unfold Builtin.Slice.sliceApplied Builtin.Slice.sliceFields
  refine wpAny_bind (wpAny_bind (wpAny_field hos hds (x := vl) rfl (wpAny_bind (wpAny_field hos hds (x := vu) rfl (wpAny_bind (wpAny_field hos hds (x := vs) rfl (wpAny_pure ?_)))))))
  refine wpAny_bind (slicePart_ ps ?_)
  show wpAny _ _ (if ((-1 : Int) == 0) = true then _ else _) _ _ s
  rw [if_neg (by decide)]
  refine wpAny_bind (slicePart_ pl (wpAny_bind (slicePart_ pu (wpAny_bind (wpAny_pure ?_)))))
  have e : Builtin.Slice.slicePlaces ((n : Int) - 1) (-1) (-1) = n := by
    unfold Builtin.Slice.slicePlaces
    have h1 : ¬ ((-1 : Int) > 0) := by decide
    simp only [h1, if_false]
    rw [show (- -1 : Int) = 1 by decide, Int.ediv_one]
    split <;> omega
  show wpAny _ _ (pure ((n : Int) - 1, (-1 : Int), Builtin.Slice.slicePlaces ((n : Int) - 1) (-1) (-1))) _ _ s
  rw [e]
  exact wpAny_pure h
theorem filterMap_cg {α β : Type} {f g : α → Option β} : ∀ {l : List α}, (∀ x ∈ l, f x = g x) → l.filterMap f = l.filterMap g
  | [], _ => rfl
  | a :: l, h => by
    rw [List.filterMap_cons, List.filterMap_cons, h a (List.mem_cons_self ..), filterMap_cg fun x hx => h x (List.mem_cons_of_mem _ hx)]
theorem pick_rev (xs : Array Value) : ((List.range xs.size).filterMap fun (m : Nat) => xs[(((xs.size : Int) - 1) + (m : Int) * (-1)).toNat]?).toArray = xs.toList.reverse.toArray := by
  rw [← PySem.W.krv_pick]
  unfold slicePick
  rw [PySem.W.krv_bounds]
  show _ = ((sliceRange ((xs.size : Int) - 1) (-1) (-1)).filterMap (xs[·]?)).toArray
  rw [PySem.W.krv_sliceRange, List.filterMap_map]
  congr 1
  refine filterMap_cg fun m hm => ?_
  have := List.mem_range.mp hm
  have e : (((xs.size : Int) - 1) + (m : Int) * (-1)).toNat = xs.size - 1 - m := by omega
  rw [e]; rfl
theorem getItem_tuple_rev {t sl : Addr} {items : Array Value} {vl vu vs : Value} {Q : Value → Shared → Prop} (ht : IsTup s.heap t items) (hs : s.heap.IsSliceOf sl vl vu vs) (pl : IsPart vl none) (pu : IsPart vu none) (ps : IsPart vs (some (-1)))
    (h : Q (.ref s.heap.objs.size) { s with heap := s.heap.push { cls := .type "tuple", data := .seq items.toList.reverse.toArray } })
    (hsz : items.size ≤ sizeLine) : wpAny (model prog w) A (getItem (.ref t) (.ref sl)) Q E s := by
  have htake : sizeOk (.seq items.toList.reverse.toArray) := by
    show items.toList.reverse.toArray.size ≤ sizeLine
    rw [List.size_toArray, List.length_reverse, Array.length_toList]
    omega
  obtain ⟨os, hos, hcs, hds⟩ := id hs
  have hTs : s.TypeIs (.ref sl) "slice" := ⟨os, hos, hcs⟩
  unfold getItem
  try with_reducible refine wpAny_holding ?_
  first | refine wpAny_bind (wpAny_pure ?_) | skip
  refine wpAny_bind (wpAny_sequenceKey ht.typeIs (by decide) ?_)
  refine wpAny_bind (wpAny_callSpecial?_slot (name := Str.ofString "__getitem__") ht.typeIs PyProof.Rows.slot_tuple_getitem
    (wpAny_call_entry PyProof.Rows.slot_tuple_getitem ht.typeIs entry_tuple_getitem ?_ (args_tuple_getitem _ _)))
  show wpAny _ _ (Builtin.Tuple.tupleItemsOf (.ref t) >>= _) _ _ s
  refine wpAny_bind (tupleItemsOf_ ht ?_)
  refine wpAny_bind (wpAny_typeOf hTs ?_)
  rw [if_pos (by decide)]
  refine wpAny_bind (sliceApplied_rev hs pl pu ps ?_)
  have hno : ¬ ((((items.size : Int) - 1) == 0 && (-1 : Int) == 1 && items.size == items.size) = true) := by
    intro q
    rw [Bool.and_eq_true, Bool.and_eq_true] at q
    exact absurd q.1.2 (by decide)
  show wpAny _ _ (if (((items.size : Int) - 1) == 0 && (-1 : Int) == 1 && items.size == items.size) = true then _ else _) _ _ s
  rw [if_neg hno, pick_rev]
  first
    | exact wpAny_bind (m := Builtin.Tuple.tupleExact _) (wpAny_newObj_type (wpAny_pure ⟨_, rfl, wpAny_pure h⟩) htake)
    | exact wpAny_bind (m := Builtin.Tuple.tupleExact _) (wpAny_newObj_type (wpAny_bind (wpAny_pure (wpAny_pure ⟨_, rfl, wpAny_pure h⟩))) htake)
    | exact wpAny_bind (wpAny_bind (m := Builtin.Tuple.tupleExact _) (wpAny_newObj_type (wpAny_pure (wpAny_pure ⟨_, rfl, wpAny_pure h⟩)) htake))
    | exact wpAny_bind (wpAny_bind (m := Builtin.Tuple.tupleExact _) (wpAny_newObj_type (wpAny_pure ⟨_, rfl, wpAny_pure h⟩) htake))
end
section
variable {X : Cx} {W : WX}
/-- x[::-1], x a list or a tuple -/
def tRev2 (K : PySem.W.Frag) (te : TE) : TE := fun σ H Q => te σ H fun x H1 => ∃ a xs, x = .ref a ∧ ((SqL K H1 a xs ∧ ∀ p, H1 p = none → Q (.ref p) (upd H1 p (.lst xs.reverse))) ∨ (SqT K H1 a xs ∧ ∀ p, H1 p = none → Q (.ref p) (upd H1 p (.tup xs.reverse))))
theorem pe_rev2 {e : Expr} {te : TE} {k : Nat} {p1 p2 p3 pos : Pos} (he : PE X e te) : PE X (.Subscript e (.Slice none none (some (.UnaryOp .USub (.Constant (.int 1) k p1) p2)) p3) pos) (tRev2 X.K te) := by
  refine ⟨fun pins s σ H Q I h => ?_⟩
  refine Subscript_ (thn (he.run pins s σ H _ I h) fun v s1 ⟨x, H1, I1, r1, q1⟩ => ?_)
  obtain ⟨a, xs, ex, q⟩ := q1
  subst ex
  cases r1
  have hst : PO X (some (.UnaryOp .USub (.Constant (.int 1) k p1) p2)) (tPart (tUn (rU fun i => .int (-i)) (tC (.int 1)))) := po_some (pe_un un_neg pe_int)
  refine wpAny_Slice (thn (po_none.run pins s1 σ H1 (fun o H2 => o = none ∧ H2 = H1) I1 ⟨rfl, rfl⟩) fun vl s2 ⟨l, H2, I2, pl, el, e2⟩ => ?_)
  subst el e2
  refine thn (po_none.run pins s2 σ H2 (fun o H3 => o = none ∧ H3 = H2) I2 ⟨rfl, rfl⟩) fun vu s3 ⟨u, H3, I3, pu, eu, e3⟩ => ?_
  subst eu e3
  refine thn (hst.run pins s3 σ H3 (fun o H4 => o = some (-1) ∧ H4 = H3) I3 ⟨1, rfl, -1, rfl, rfl, rfl⟩) fun vs s4 ⟨o, H4, I4, ps, eo, e4⟩ => ?_
  subst eo e4
  have I5 : Inv X pins σ H4 { s4 with heap := s4.heap.push { cls := .type "slice", data := .fields #[vl, vu, vs] } } := I4.kept (t' := s4.toks) fun b ob q => Heap.get?_push_of_some _ q
  show wpAny (model X.prog X.w) X.A (subscriptTail e (.Slice none none (some (.UnaryOp .USub (.Constant (.int 1) k p1) p2)) p3) (.ref a) (.ref s4.heap.objs.size)) (EP X pins σ Q) X.xe { s4 with heap := s4.heap.push { cls := .type "slice", data := .fields #[vl, vu, vs] } }
  rcases q with ⟨hx, q⟩ | ⟨hx, q⟩
  · obtain ⟨its, r, ht, hz⟩ := I5.list hx
    have hlen := r.length
    refine tail_any (ops := [.ref a, .ref s4.heap.objs.size]) ht.isList.typeIs (PySem.slot_list_getitem.lookup) ?_ (by with_unfolding_all rfl)
    refine wpAny_getItem_list_slice ht.isList (Heap.IsSliceOf.new _ vl vu vs) pl pu ps (by decide) ?_ (by rw [List.size_toArray]; omega)
    rw [PySem.W.krv_pick]
    refine ⟨.ref _, _, I5.laid (t' := s4.toks) (o := .lst xs.reverse) (fun b ob q => Heap.get?_push_of_some _ q) (Nat.le_refl _) ?_, rfl, q _ (I5.hok.fresh (Nat.le_refl _))⟩
    exact ⟨by rw [List.length_reverse]; exact hz, _, 0, r.reverse, Heap.get?_push_size _ rfl⟩
  · obtain ⟨its, r, ht, hz⟩ := I5.tuple hx
    have hlen := r.length
    refine tail_any (ops := [.ref a, .ref s4.heap.objs.size]) ht.typeIs (PyProof.Rows.slot_tuple_getitem.lookup) ?_ (by with_unfolding_all rfl)
    refine getItem_tuple_rev ht (Heap.IsSliceOf.new _ vl vu vs) pl pu ps ?_ (by rw [List.size_toArray]; omega)
    refine ⟨.ref _, _, I5.laid (t' := s4.toks) (o := .tup xs.reverse) (fun b ob q => Heap.get?_push_of_some _ q) (Nat.le_refl _) ?_, rfl, q _ (I5.hok.fresh (Nat.le_refl _))⟩
    exact ⟨by rw [List.length_reverse]; exact hz, _, r.reverse, IsTup.new _ _⟩
def asRev2 (d : D) (h : EH) : R D := match d with
  | .ref n => match h[n]? with
    | some (.lst xs) => .ok (.ref h.length) (h ++ [.lst xs.reverse])
    | _ => .bad
  | .tup xs => .ok (.tup xs.reverse) h
  | _ => .bad
def eRev2 (m : Sl → EH → R D) : Sl → EH → R D := fun e h => (m e h).bind asRev2
theorem se_rev2 {a : Expr} {m : Sl → EH → R D} {k : Nat} {p1 p2 p3 pos : Pos} (ha : SE X W a m) : SE X W (.Subscript a (.Slice none none (some (.UnaryOp .USub (.Constant (.int 1) k p1) p2)) p3) pos) (eRev2 m) := by
  refine ⟨peI (pe_rev2 ha.pe) fun σ H Q ⟨μ, e, eh, er, hr, p⟩ => ⟨μ, e, eh, er, hr, post_mono (post_bind (Rl := relD) backD p) ?_⟩⟩
  rintro x H1 ⟨μ1, eh1, d, x1, hr1, rx, p1⟩
  unfold asRev2 at p1
  cases rx with
  | @ref n a ha hlst =>
    simp only at p1
    cases e1 : eh1[n]? with
    | none => rw [e1] at p1; exact p1.elim
    | some o1 => cases o1 with
      | dct _ => rw [e1] at p1; exact p1.elim
      | dcl _ => rw [e1] at p1; exact p1.elim
      | lst ds =>
        rw [e1] at p1
        obtain ⟨xs, hx, q⟩ := hr1.lst e1 ha
        refine ⟨a, xs, rfl, .inl ⟨SqL.of hx, fun l hl => ?_⟩⟩
        have o : outD X μ1 H1 (some (.ref eh1.length, eh1 ++ [.lst ds.reverse])) Q := p1
        exact outD_lst o hr1 q.rev hl
  | @tup a ds xs h q =>
    have o : outD X μ1 H1 (some (.tup ds.reverse, eh1)) Q := p1
    exact ⟨a, xs, rfl, .inr ⟨h, fun l hl => outD_tup o hr1 q.rev hl⟩⟩
  | _ => exact p1.elim
end
end Sm
namespace Sm
open PySem PySem.Spec PyProof.Rows L2

/-! ### isinstance(x, (A, B, ..)) -/
section
variable {X : Cx} {W : WX}
/-- names of classes -/
structure SCl (X : Cx) (es : List Expr) (vs : List V) : Prop where
  pa : PA X es (fun σ H Q => Q vs H)
theorem scl_nil : SCl X [] [] := ⟨⟨fun pos pins s σ H Q I q => (pa_nil (X := X)).run pos pins s σ H Q I q⟩⟩
theorem scl_cons {e : Expr} {es : List Expr} {v : V} {vs : List V} (h : PE X e (tC v)) (r : SCl X es vs) (hs : starEach (e :: es) X.env = (false, eval e X.env) :: starEach es X.env := by rfl) : SCl X (e :: es) (v :: vs) :=
  ⟨paI (pa_cons h r.pa hs) fun σ H Q q => q⟩
theorem scl_ty {n : String} {pos : Pos} {x : Str} {es : List Expr} {vs : List V} (hm : X.mg x = none) (r : SCl X es vs) (hg : Gl X x := by rfl) (hv : bootBuiltins x = some (.type n) := by decide +kernel) (hn : x ≠ "__name__" := by decide) (hd : (x == ("__debug__" : Str)) = false := by decide)
    (hs : starEach (.Name x pos :: es) X.env = (false, eval (.Name x pos) X.env) :: starEach es X.env := by rfl) : SCl X (.Name x pos :: es) (.ty n :: vs) := scl_cons (pe_bltn hg hm hv rfl hn hd) r hs
def kitBs (t : String) : List String → Option Bool
  | [] => some false
  | n :: ns => match kitB t n with
    | some true => some true
    | some false => kitBs t ns
    | none => none
theorem kitBs_any {K : PySem.W.Frag} {t : String} : ∀ {ts : List String} {b : Bool}, kitBs t ts = some b → PySem.W.kitAny K (.type t) (ts.map .type) = some b
  | [], b, h => by cases h; exact kitAny_nil
  | n :: ns, b, h => by
    unfold kitBs at h
    cases e : kitB t n with
    | none => rw [e] at h; cases h
    | some c =>
      rw [e] at h
      cases c with
      | true => cases h; exact kitAny_cons (kit_ty e) (fun z => nomatch z) fun _ => rfl
      | false => exact kitAny_cons (kit_ty e) (fun _ => kitBs_any h) fun z => nomatch z
theorem clsv_ty : ∀ (ts : List String), Paired ClsV (ts.map V.ty) (ts.map Value.type)
  | [] => .nil
  | t :: ts => .cons (.ty t) (clsv_ty ts)
def asIsiT (ts : List String) (d : D) (h : EH) : R D := match tyN h d with
  | some t => match kitBs t ts with
    | some b => .ok (.bl b) h
    | none => .bad
  | none => .bad
def eIsiT (ts : List String) (m : Sl → EH → R D) : Sl → EH → R D := fun e h => (m e h).bind (asIsiT ts)
theorem se_isiT {ts : List String} {a : Expr} {m : Sl → EH → R D} {es : List Expr} {k : Nat} {p pos tpos : Pos} (hm : X.mg "isinstance" = none) (ha : SE X W a m) (hc : SCl X es (ts.map V.ty)) (hl : ts.length ≤ sizeLine := by decide) (hg : Gl X "isinstance" := by rfl)
    (he : starEach [a, .Tuple es k tpos] X.env = (false, eval a X.env) :: starEach [.Tuple es k tpos] X.env := by rfl) (he2 : starEach [.Tuple es k tpos] X.env = (false, eval (.Tuple es k tpos) X.env) :: starEach [] X.env := by rfl)
    (hpl : (backTo pos (starEach [.Tuple es k tpos] X.env)).any (·.1) = false := by rfl) :
    SE X W (.Call (.Name "isinstance" p) [a, .Tuple es k tpos] [] pos) (eIsiT ts m) := by
  refine ⟨peI (pe_callB call_isiT hg hm (by decide +kernel) (pa_cons ha.pe (pa_cons (pe_tup hc.pa) pa_nil he2) he) (he := he) (hpl := hpl)) fun σ H Q ⟨μ, e, eh, er, hr, p⟩ => ⟨μ, e, eh, er, hr, post_mono (post_bind (Rl := relD) backD p) ?_⟩⟩
  rintro x H1 ⟨μ1, eh1, d, x1, hr1, rx, p1⟩
  refine ⟨by simpa using hl, fun q hq => ?_⟩
  unfold asIsiT at p1
  cases e1 : tyN eh1 d with
  | none => rw [e1] at p1; exact p1.elim
  | some t =>
    rw [e1] at p1
    simp only at p1
    cases e2 : kitBs t ts with
    | none => rw [e2] at p1; exact p1.elim
    | some b =>
      rw [e2] at p1
      exact ⟨x, q, ts.map V.ty, .type t, ts.map Value.type, b, rfl, upd_same, clsv_ty ts, tyX_of (hr1.add hq) (rx.ext (Ext.add hq hr1)) e1, kitBs_any e2, p1 μ1 _ _ (Ext.add hq hr1) (hr1.add hq) (.bl b)⟩
end

/-! ### x in (a, b, ..) of flat values -/
def flD : D → Option V
  | .non => some .non
  | .bl b => some (.bl b)
  | .int i => some (.int i)
  | .str x => some (.str x)
  | _ => none
def flDs : List D → Option (List V)
  | [] => some []
  | d :: ds => match flD d, flDs ds with
    | some v, some vs => some (v :: vs)
    | _, _ => none
theorem flD_rp {K : PySem.W.Frag} {H : Hp} {μ : List Addr} {d : D} {v w : V} (h : flD d = some v) (r : Rp K H μ d w) : w = v ∧ flatV v = true := by
  cases r <;> first | (cases h; exact ⟨rfl, rfl⟩) | cases h
theorem flDs_rp {K : PySem.W.Frag} {H : Hp} {μ : List Addr} : ∀ {ds : List D} {vs ws : List V}, flDs ds = some vs → RpAll K H μ ds ws → ws = vs ∧ vs.all flatV = true
  | [], _, _, h, .nil => by cases h; exact ⟨rfl, rfl⟩
  | d :: ds, _, _, h, .cons r q => by
    simp only [flDs] at h
    cases e1 : flD d with
    | none => rw [e1] at h; cases h
    | some v =>
      rw [e1] at h
      cases e2 : flDs ds with
      | none => rw [e2] at h; cases h
      | some vs =>
        rw [e2] at h
        cases h
        obtain ⟨rfl, f1⟩ := flD_rp e1 r
        obtain ⟨rfl, f2⟩ := flDs_rp e2 q
        exact ⟨rfl, by rw [List.all_cons, f1, f2]; rfl⟩
def inT (x y : D) : Option Bool := match flD x, y with
  | some v, .tup ys => (flDs ys).map fun vs => inV v vs
  | _, _ => none
def oInT : D → D → EH → Option (D × EH) := fun x y h => (inT x y).map fun b => (.bl b, h)
def oNotInT : D → D → EH → Option (D × EH) := fun x y h => (inT x y).map fun b => (.bl (!b), h)
section
variable {X : Cx}
theorem inT_cases {x y : D} {b : Bool} (e : inT x y = some b) : ∃ v ys vs, flD x = some v ∧ y = .tup ys ∧ flDs ys = some vs ∧ b = inV v vs := by
  unfold inT at e
  cases e1 : flD x with
  | none => rw [e1] at e; cases y <;> cases e
  | some v =>
    rw [e1] at e
    cases y with
    | tup ys =>
      simp only [Option.map_eq_some_iff] at e
      obtain ⟨vs, h, rfl⟩ := e
      exact ⟨v, ys, vs, rfl, rfl, h, rfl⟩
    | _ => cases e
theorem or_inT : OpR X (compareOp .In) (rD X oInT) := by
  intro pins s σ H x y v u Q I rx ry ⟨μ, eh, dx, dy, hr, r1, r2, o⟩
  unfold oInT at o
  cases e : inT dx dy with
  | none => rw [e] at o; exact o.elim
  | some b =>
    rw [e] at o
    obtain ⟨w, ys, vs, h1, rfl, h2, rfl⟩ := inT_cases e
    obtain ⟨rfl, f1⟩ := flD_rp h1 r1
    cases r2 with
    | tup h q =>
      obtain ⟨rfl, f2⟩ := flDs_rp h2 q
      exact op_in_seq pins s σ H _ _ v u Q I rx ry ⟨_, _, rfl, .inr h, f1, f2, outD_val o hr (.bl _)⟩
theorem or_notInT : OpR X (compareOp .NotIn) (rD X oNotInT) := by
  intro pins s σ H x y v u Q I rx ry ⟨μ, eh, dx, dy, hr, r1, r2, o⟩
  unfold oNotInT at o
  cases e : inT dx dy with
  | none => rw [e] at o; exact o.elim
  | some b =>
    rw [e] at o
    obtain ⟨w, ys, vs, h1, rfl, h2, rfl⟩ := inT_cases e
    obtain ⟨rfl, f1⟩ := flD_rp h1 r1
    cases r2 with
    | tup h q =>
      obtain ⟨rfl, f2⟩ := flDs_rp h2 q
      exact op_notIn_seq pins s σ H _ _ v u Q I rx ry ⟨_, _, rfl, .inr h, f1, f2, outD_val o hr (.bl _)⟩
end

/-! ### a < b < c -/
def eChain (f g : D → D → EH → Option (D × EH)) (ma mb mc : Sl → EH → R D) : Sl → EH → R D := fun e h => (ma e h).bind fun x h1 => (mb e h1).bind fun y h2 => (opE f x y h2).bind fun z h3 => match z with
  | .bl true => (mc e h3).bind fun w h4 => opE g y w h4
  | .bl false => .ok (.bl false) h3
  | _ => .bad
section
variable {X : Cx} {W : WX}
theorem post_opQ {f : D → D → EH → Option (D × EH)} {x y : D} {h : EH} {mg : Str → Option Value} {W : Value → Option Addr → Hp → Prop} {μ : List Addr} {H : Hp} {Q : VK} (p : post relD X.K mg W μ H (opE f x y h) Q) : outD X μ H (f x y h) Q := post_op p
theorem tChain_of {f g : D → D → EH → Option (D × EH)} {ma mb mc : Sl → EH → R D} (σ : St) (H : Hp) (Q : VK) (h : tG relD X W (eChain f g ma mb mc) σ H Q) : tChain (rD X f) (rD X g) (tG relD X W ma) (tG relD X W mb) (tG relD X W mc) σ H Q := by
  obtain ⟨μ, e, eh, er, hr, p⟩ := h
  refine ⟨μ, e, eh, er, hr, post_mono (post_bind (Rl := relD) backD p) ?_⟩
  rintro x H1 ⟨μ1, eh1, dx, x1, hr1, rx, p1⟩
  refine ⟨μ1, e, eh1, er.ext x1, hr1, post_mono (post_bind (Rl := relD) backD p1) ?_⟩
  rintro y H2 ⟨μ2, eh2, dy, x2, hr2, ry, p2⟩
  refine ⟨μ2, eh2, dx, dy, hr2, Rp.ext x2 rx, ry, ?_⟩
  refine post_op (post_mono (post_bind (Rl := relD) backD p2) ?_)
  rintro z H3 ⟨μ3, eh3, dz, x3, hr3, rz, p3⟩
  cases rz with
  | bl k =>
    cases k with
    | true =>
      refine ⟨true, rfl, ?_⟩
      rw [if_pos rfl]
      refine ⟨μ3, e, eh3, ((er.ext x1).ext x2).ext x3, hr3, post_mono (post_bind (Rl := relD) backD p3) ?_⟩
      rintro w H4 ⟨μ4, eh4, dw, x4, hr4, rw4, p4⟩
      exact ⟨μ4, eh4, dy, dw, hr4, Rp.ext x4 (Rp.ext x3 ry), rw4, post_op p4⟩
    | false =>
      refine ⟨false, rfl, ?_⟩
      rw [if_neg (by decide)]
      exact p3 μ3 H3 _ (Ext.refl _ _) hr3 (.bl _)
  | _ => exact p3.elim
theorem se_chain {op op' : CmpOp} {f g : D → D → EH → Option (D × EH)} {a b c : Expr} {ma mb mc : Sl → EH → R D} {pos : Pos} (ho : OpR X (compareOp op) (rD X f)) (ho' : OpR X (compareOp op') (rD X g)) (ha : SE X W a ma) (hb : SE X W b mb) (hc : SE X W c mc)
    (hm : lastMarks [op, op'] [b, c] = false := by with_unfolding_all rfl) : SE X W (.Compare a [op, op'] [b, c] pos) (eChain f g ma mb mc) := ⟨peI (pe_chain ho ho' ha.pe hb.pe hc.pe hm) tChain_of⟩

theorem sb_chain {op op' : CmpOp} {f g : D → D → EH → Option (D × EH)} {a b c : Expr} {ma mb mc : Sl → EH → R D} {pos : Pos} (ho : OpR X (compareOp op) (rD X f)) (ho' : OpR X (compareOp op') (rD X g)) (ha : SE X W a ma) (hb : SE X W b mb) (hc : SE X W c mc)
    (hm : lastMarks [op, op'] [b, c] = false := by with_unfolding_all rfl) : SB X W (.Compare a [op, op'] [b, c] pos) (bOf (eChain f g ma mb mc)) := by
  refine ⟨ptI (pt_chain ho ho' ha.pe hb.pe hc.pe hm) fun σ H Q ⟨μ, e, eh, er, hr, p⟩ => tChain_of σ H _ ⟨μ, e, eh, er, hr, ?_⟩⟩
  refine post_mono (post_bind (Rl := relD) backB p) ?_
  rintro x H1 ⟨μ1, eh1, d, x1, hr1, rx, p1⟩
  exact bl_of rx hr1 p1
/-! ### {1: 2, ..}[k] -/
def kvI (ps : List (Int × Int)) : List (Key × V) := ps.map fun p => (.inl p.1, .int p.2)
def dLitAt (ps : List (Int × Int)) (i : Int) : Option V := valV (mergeK [] (kvI ps)) (.inl i)
def asDLit (ps : List (Int × Int)) (d : D) (h : EH) : R D := match d with
  | .int i => match dLitAt ps i with
    | some (.int j) => .ok (.int j) h
    | _ => .bad
  | _ => .bad
def eDLit (ps : List (Int × Int)) (m : Sl → EH → R D) : Sl → EH → R D := fun e h => (m e h).bind (asDLit ps)
/-- constant pairs -/
structure SPs (X : Cx) (pos : Pos) (keys : List (Option Expr)) (values : List Expr) (ps : List (Int × Int)) : Prop where
  h : ∃ trs, PPs X pos keys values trs ∧ ∀ σ H (Q : List (V × V) → Hp → Prop), Q (ps.map fun p => (.int p.1, .int p.2)) H → tPairs trs σ H Q
theorem sps_nil {pos : Pos} : SPs X pos [] [] [] := ⟨[], pps_nil, fun _ _ _ q => q⟩
theorem sps_cons {pos : Pos} {a b : Int} {k v : Expr} {ks : List (Option Expr)} {vs : List Expr} {ps : List (Int × Int)} (hk : PE X k (tC (.int a))) (hv : PE X v (tC (.int b))) (r : SPs X pos ks vs ps) : SPs X pos (some k :: ks) (v :: vs) ((a, b) :: ps) := by
  obtain ⟨trs, h1, h2⟩ := r.h
  exact ⟨(tC (.int a), tC (.int b)) :: trs, pps_cons hk hv h1, fun σ H Q q => h2 σ H _ q⟩
theorem pe_neg {i : Int} {e : Expr} {p : Pos} (h : PE X e (tC (.int i))) : PE X (.UnaryOp .USub e p) (tC (.int (-i))) := ⟨fun pins s σ H Q I q => (pe_un un_neg h).run pins s σ H Q I ⟨i, rfl, q⟩⟩
theorem se_dlit {keys : List (Option Expr)} {values : List Expr} {ps : List (Int × Int)} {i : Expr} {m : Sl → EH → R D} {pos dpos : Pos} (hu : X.A.units + 65 < cLine) (hp : SPs X dpos keys values ps) (hi : SE X W i m) (hall : keys.all (·.isSome) = true := by rfl) (hl : keys.length = values.length := by rfl)
    (h0 : keys ≠ [] := by simp) (h15 : keys.length ≤ 15 := by decide) (hps : ps.length ≤ 15 := by decide) (hs : NoSl i := by intro _ _; rfl) : SE X W (.Subscript (.Dict keys values dpos) i pos) (eDLit ps m) := by
  obtain ⟨trs, hp1, hp2⟩ := hp.h
  refine ⟨peI (pe_dget (by omega) (pe_disp hp1 hall hl h0 h15) hi.pe hs) fun σ H Q ⟨μ, e, eh, er, hr, p⟩ q hq => hp2 _ _ _ ⟨upd_same, kvI ps, by simp [kvI, kV], by simpa [kvI] using hps, ?_⟩⟩
  rw [upd_upd]
  refine ⟨μ, e, eh, er.ext (Ext.add hq hr), hr.add hq, post_mono (post_bind (Rl := relD) backD (post_ext backD p (Ext.add hq hr))) ?_⟩
  rintro x H1 ⟨μ1, eh1, d, x1, hr1, rx, p1⟩
  have at1 : H1 q = some (.dK (mergeK [] (kvI ps))) := x1.frm q _ upd_same (hr.out hq) (fun ps z => by cases z)
  unfold asDLit at p1
  cases rx with
  | int k =>
    simp only at p1
    split at p1
    · rename_i j ej
      exact ⟨q, .int j, rfl, .inl ⟨_, .inl k, .inl at1, rfl, ej.symm⟩, p1 μ1 H1 _ (Ext.refl _ _) hr1 (.int _)⟩
    · exact p1.elim
  | _ => exact p1.elim
end

/-! ### texts -/
section
variable {X : Cx}
def fStrI : List D → EH → Option (D × EH)
  | [.int i], h => if i.natAbs.log2 < 1920 then some (.str (toString i), h) else none
  | _, _ => none
theorem cr_strI : CallR X (.type "str") (rA X fStrI) := by
  intro pins s σ H vs us Q I r ⟨μ, eh, ds, hr, ra, o⟩
  cases ra with
  | nil => exact o.elim
  | cons r1 r2 => cases r2 with
    | cons _ _ => cases r1 <;> exact o.elim
    | nil => cases r1 with
      | int i =>
        simp only [fStrI] at o
        by_cases c : i.natAbs.log2 < 1920
        · rw [if_pos c] at o
          exact call_str_int pins s σ H _ us Q I r ⟨i, rfl, c, outD_val o hr (.str _)⟩
        · rw [if_neg c] at o; exact o.elim
      | _ => exact o.elim
/-- a text's method without arguments -/
def fS0 (c : Str → Bool) (g : Str → D) : D → List D → EH → Option (D × EH)
  | .str x, [], h => if c x then some (g x, h) else none
  | _, _, _ => none
def fUpper : D → List D → EH → Option (D × EH) := fS0 (fun x => decide (x.length ≤ 5592405)) fun x => .str (Txt.upper x)
theorem mr_upper : MtR X "str.upper" (rM X fUpper) := by
  intro pins s σ H x xs v us Q I rx rv ⟨μ, eh, dx, ds, hr, r1, r2, o⟩
  cases r1 with
  | str z => cases r2 with
    | cons _ _ => exact o.elim
    | nil =>
      simp only [fUpper, fS0] at o
      by_cases c : z.length ≤ 5592405
      · rw [if_pos (by simpa using c)] at o
        exact mt_upper pins s σ H _ _ v us Q I rx rv ⟨z, rfl, rfl, c, outD_val o hr (.str _)⟩
      · rw [if_neg (by simpa using c)] at o; exact o.elim
  | _ => exact o.elim
def strsD : List D → Option (List Str)
  | [] => some []
  | .str x :: ds => (strsD ds).map (x :: ·)
  | _ => none
theorem strsD_map : ∀ {ds : List D} {ys : List Str}, strsD ds = some ys → ds = ys.map .str
  | [], _, h => by cases h; rfl
  | .str x :: ds, ys, h => by
    simp only [strsD, Option.map_eq_some_iff] at h
    obtain ⟨zs, h1, rfl⟩ := h
    rw [strsD_map h1]; rfl
  | .non :: _, _, h => by cases h
  | .bl _ :: _, _, h => by cases h
  | .int _ :: _, _, h => by cases h
  | .tup _ :: _, _, h => by cases h
  | .rol _ :: _, _, h => by cases h
  | .ref _ :: _, _, h => by cases h
  | .dic _ :: _, _, h => by cases h
  | .ty _ :: _, _, h => by cases h
  | .exn _ _ :: _, _, h => by cases h
  | .cls _ :: _, _, h => by cases h
theorem strsD_vals {K : PySem.W.Frag} {H : Hp} {μ : List Addr} : ∀ {ys : List Str} {vs : List V}, RpAll K H μ (ys.map .str) vs → vs = ys.map V.str
  | [], _, .nil => rfl
  | y :: ys, _, .cons r q => by cases r; rw [strsD_vals q]; rfl
def fJoin : D → List D → EH → Option (D × EH)
  | .str a, [d], h => match itemsD h d with
    | some ds => match strsD ds with
      | some ys => if (ys.map (·.length)).sum + ys.length * a.length ≤ 16777216 then some (.str (Txt.join a ys), h) else none
      | none => none
    | none => none
  | _, _, _ => none
theorem mr_join : MtR X "str.join" (rM X fJoin) := by
  intro pins s σ H x xs v us Q I rx rv ⟨μ, eh, dx, ds, hr, r1, r2, o⟩
  cases r1 with
  | str a => cases r2 with
    | nil => exact o.elim
    | cons r3 r4 => cases r4 with
      | cons _ _ => exact o.elim
      | nil =>
        rename_i d w
        simp only [fJoin] at o
        cases e1 : itemsD eh d with
        | none => rw [e1] at o; exact o.elim
        | some es =>
          rw [e1] at o
          simp only at o
          cases e2 : strsD es with
          | none => rw [e2] at o; exact o.elim
          | some ys =>
            rw [e2] at o
            simp only at o
            by_cases c : (ys.map (·.length)).sum + ys.length * a.length ≤ 16777216
            · rw [if_pos c] at o
              obtain ⟨p, vs, rfl, hp, q⟩ := items_of hr r3 e1
              rw [strsD_map e2] at q
              rw [strsD_vals q] at hp
              exact mt_join pins s σ H _ _ v us Q I rx rv ⟨a, p, ys, rfl, rfl, hp, c, outD_val o hr (.str _)⟩
            · rw [if_neg c] at o; exact o.elim
  | _ => exact o.elim
def fPartition : D → List D → EH → Option (D × EH)
  | .str a, [.str b], h => if (b.length == 0) = false ∧ a.length ≤ sizeLine then some (.tup [.str (Txt.partition a b).1, .str (Txt.partition a b).2.1, .str (Txt.partition a b).2.2], h) else none
  | _, _, _ => none
theorem mr_partition : MtR X "str.partition" (rM X fPartition) := by
  intro pins s σ H x xs v us Q I rx rv ⟨μ, eh, dx, ds, hr, r1, r2, o⟩
  cases r1 with
  | str a => cases r2 with
    | nil => exact o.elim
    | cons r3 r4 => cases r4 with
      | cons _ _ => cases r3 <;> exact o.elim
      | nil => cases r3 with
        | str b =>
          simp only [fPartition] at o
          by_cases c : (b.length == 0) = false ∧ a.length ≤ sizeLine
          · rw [if_pos c] at o
            exact mt_partition pins s σ H _ _ v us Q I rx rv ⟨a, b, rfl, rfl, c.1, c.2, fun p hp => outD_tup o hr (.cons (.str _) (.cons (.str _) (.cons (.str _) .nil))) hp⟩
          · rw [if_neg c] at o; exact o.elim
        | _ => exact o.elim
  | _ => exact o.elim
def fStarts : D → List D → EH → Option (D × EH)
  | .str a, [.str b], h => some (.bl (Txt.startswith a b), h)
  | _, _, _ => none
theorem mr_starts : MtR X "str.startswith" (rM X fStarts) := by
  intro pins s σ H x xs v us Q I rx rv ⟨μ, eh, dx, ds, hr, r1, r2, o⟩
  cases r1 with
  | str a => cases r2 with
    | nil => exact o.elim
    | cons r3 r4 => cases r4 with
      | cons _ _ => cases r3 <;> exact o.elim
      | nil => cases r3 with
        | str b => exact mt_startswith pins s σ H _ _ v us Q I rx rv ⟨a, b, rfl, rfl, outD_val o hr (.bl _)⟩
        | _ => exact o.elim
  | _ => exact o.elim
end

/-! ### isinstance(e, (A, B, ..)) of an exception -/
section
variable {X : Cx} {W : WX} {xs ts ys : List Str}
theorem scl_cls {x : Str} {pos : Pos} {es : List Expr} {vs : List V} (o : XOk X.K X.mg xs ts ys) (r : SCl X es vs) (hx : x ∈ ts := by decide) (hg : Gl X x := by rfl) (hdb : (x == ("__debug__" : Str)) = false := by decide)
    (hs : starEach (.Name x pos :: es) X.env = (false, eval (.Name x pos) X.env) :: starEach es X.env := by rfl) : SCl X (.Name x pos :: es) (.ref (He.ga X.K x) :: vs) :=
  scl_cons ⟨fun pins s σ H Q I q => ld_glob I hg (o.glo x hx) ⟨.ref (He.ga X.K x), H, I, rfl, q⟩ hdb⟩ r hs
theorem clsv_own (K : PySem.W.Frag) : ∀ (cs : List Str), Paired ClsV (cs.map fun c => V.ref (He.ga K c)) (cs.map fun c => Value.ref (He.ga K c))
  | [] => .nil
  | t :: ts => .cons (.own _) (clsv_own K ts)
theorem kit_exs {K : PySem.W.Frag} {mg : Str → Option Value} (o : XOk K mg xs ts ys) {x : Str} (hx : x ∈ xs) : ∀ (cs : List Str), (∀ c ∈ cs, c ∈ ts) → PySem.W.kitAny K (.ref (He.ga K x)) (cs.map fun c => Value.ref (He.ga K c)) = some (cs.any (exSub x))
  | [], _ => kitAny_nil
  | c :: cs, h => by
    refine kitAny_cons (o.kit x hx c (h c (List.mem_cons_self ..))) (fun e => ?_) fun e => by simp [e]
    rw [kit_exs o hx cs fun d hd => h d (List.mem_cons_of_mem _ hd)]
    simp [e]
def asIsxT (cs : List Str) (x0 : Str) (a0 : Addr) (d : D) (h : EH) : R D := match d with
  | .exn x a => if x = x0 ∧ a = a0 then .ok (.bl (cs.any (exSub x0))) h else .bad
  | _ => .bad
def eIsxT (cs : List Str) (x0 : Str) (a0 : Addr) (m : Sl → EH → R D) : Sl → EH → R D := fun e h => (m e h).bind (asIsxT cs x0 a0)
theorem se_isxT {cs : List Str} {a : Expr} {m : Sl → EH → R D} {es : List Expr} {k : Nat} {p pos tpos : Pos} {x0 : Str} {a0 : Addr} {oe : Obj} (o : XOk X.K X.mg xs ts ys) (hx0 : x0 ∈ xs) (hp : (a0, oe) ∈ X.pn) (hz : L2N.Zn (.ref (He.ga X.K x0)) none oe) (hf : ∃ vs, oe.data = .fields vs)
    (hm : X.mg "isinstance" = none) (ha : SE X W a m) (hc : SCl X es (cs.map fun c => V.ref (He.ga X.K c))) (hcs : ∀ c ∈ cs, c ∈ ts := by decide) (hl : cs.length ≤ sizeLine := by decide) (hg : Gl X "isinstance" := by rfl)
    (he : starEach [a, .Tuple es k tpos] X.env = (false, eval a X.env) :: starEach [.Tuple es k tpos] X.env := by rfl) (he2 : starEach [.Tuple es k tpos] X.env = (false, eval (.Tuple es k tpos) X.env) :: starEach [] X.env := by rfl)
    (hpl : (backTo pos (starEach [.Tuple es k tpos] X.env)).any (·.1) = false := by rfl) :
    SE X W (.Call (.Name "isinstance" p) [a, .Tuple es k tpos] [] pos) (eIsxT cs x0 a0 m) := by
  have hcall : CallR X (.builtin "isinstance") (fun vs H Q => ∃ (tp : Addr) , vs = [.ref a0, .ref tp] ∧ H tp = some (.tup (cs.map fun c => V.ref (He.ga X.K c))) ∧ Q (.bl (cs.any (exSub x0))) H) := by
    intro pins s σ H vs us Q I r ⟨tp, e, ht, q⟩
    subst e
    have C := o.exc x0 hx0
    have J : PySem.W.InstAt s.heap a0 oe (He.ga X.K x0) none := by
      obtain ⟨hget, _⟩ := I.pin (a0, oe) (List.mem_append_left _ hp)
      obtain ⟨vs', hv⟩ := hf
      obtain ⟨oc, od, oda, osl⟩ := oe
      obtain ⟨h1, h2, _⟩ := hz
      dsimp only at h1 h2 hv
      subst h1 h2 hv
      exact ⟨hget, rfl, rfl, trivial⟩
    obtain ⟨u1, u2, rfl, r1, r2⟩ := vals2 r
    cases (show u2 = Value.ref tp from r2)
    cases (show u1 = Value.ref a0 from r1)
    obtain ⟨_, its, rv, oo, h1, h2, n, h3⟩ := (show ObjOk X.prog X.w H s.heap tp (.tup (cs.map fun c => V.ref (He.ga X.K c))) from I.hok tp _ ht)
    have e3 := ClsV.all (clsv_own X.K cs) rv
    subst e3
    obtain ⟨oc, od, dt, sl⟩ := oo
    simp only at h2 h3
    subst h2 h3
    exact PySem.W.kia_tup (PySem.W.handS_kitx_exc C.hg C.hk C.hs C.hd C.ha C.hn C.ht C.hm) I.kIn J h1 (kit_exs o hx0 cs hcs) (fun z => nomatch z) fun tk => ⟨.bl _, H, I.tok tk, rfl, q⟩
  refine ⟨peI (pe_callB hcall hg hm (by decide +kernel) (pa_cons ha.pe (pa_cons (pe_tup hc.pa) pa_nil he2) he) (he := he) (hpl := hpl)) fun σ H Q ⟨μ, e, eh, er, hr, p⟩ => ⟨μ, e, eh, er, hr, post_mono (post_bind (Rl := relD) backD p) ?_⟩⟩
  rintro x H1 ⟨μ1, eh1, d, x1, hr1, rx, p1⟩
  refine ⟨by simpa using hl, fun q hq => ?_⟩
  unfold asIsxT at p1
  cases rx with
  | exn y b =>
    simp only at p1
    by_cases c : y = x0 ∧ b = a0
    · rw [if_pos c] at p1
      obtain ⟨rfl, rfl⟩ := c
      exact ⟨q, rfl, upd_same, p1 μ1 _ _ (Ext.add hq hr1) (hr1.add hq) (.bl _)⟩
    · rw [if_neg c] at p1; exact p1.elim
  | _ => exact p1.elim
end
end Sm
namespace Mv
open PySem PySem.Spec PyProof.Rows L2 Sm
def exs : List Str := []
def eys : List Str := []
def eps : List Str := []
def topS (i : Nat) : Stmt := PySem.Challenge.pw_everypoint_k10_conditions_at_a_point.main.body.getD i (.Pass ⟨0, 0, 0, 0⟩)
end Mv
set_option maxHeartbeats 0
namespace Mv
open PySem PySem.Spec PyProof.Rows L2 Sm
def fnE (x : Str) (i : Nat) (dfl : List He.Dv) : He.DefD := ⟨(x, none), x, x, defArgs (topS i), defBody (topS i), defScope (topS i), dfl, []⟩
def fn : List He.DefD := [fnE "common_divisor" 1 [],
  fnE "divisor_of_four" 2 [],
  fnE "leading" 3 [],
  fnE "is_whole" 4 [],
  fnE "is_plane" 5 [],
  fnE "parts_at" 6 [],
  fnE "side_of" 7 [],
  fnE "is_condition" 9 [],
  fnE "is_conditions" 10 [],
  fnE "fulfils" 11 [],
  fnE "holds" 12 [],
  fnE "closed_need" 13 [],
  fnE "closed" 14 [],
  fnE "_law_mix" 16 [],
  fnE "_law_store" 17 [],
  fnE "_law_take" 18 [],
  fnE "_law_pick" 19 [],
  fnE "_law_few" 20 [],
  fnE "_law_wide" 21 [],
  fnE "_law_integer" 22 [],
  fnE "_law_gcd" 23 [],
  fnE "_law_frac" 24 [],
  fnE "_law_ratio" 25 [],
  fnE "_law_is_integer" 26 [],
  fnE "_law_copy" 27 [],
  fnE "_law_spots" 28 [],
  fnE "_law_bend_one" 29 [],
  fnE "_law_bend" 30 [],
  fnE "_law_point" 31 [],
  fnE "_law_is_plane" 32 [],
  fnE "_law_is_condition" 33 [],
  fnE "_law_is_conditions" 34 [],
  fnE "_law_form" 35 [],
  fnE "_law_normal" 36 [],
  fnE "_law_plane" 37 [],
  fnE "_law_wide_plane" 38 [],
  fnE "_law_over" 39 [],
  fnE "_law_value_sign" 40 [],
  fnE "_law_condition" 41 [],
  fnE "_law_listed" 42 [],
  fnE "_law_true" 43 [],
  fnE "_law_bool" 44 [],
  fnE "_law_held" 45 [],
  fnE "_law_is" 46 [],
  fnE "_law_closed_due" 47 [],
  fnE "_law_again" 48 [],
  fnE "_law_bent" 49 [],
  fnE "law" 50 []]
def fa : List He.Fa := [.glo "common_divisor", .glo "divisor_of_four", .glo "leading", .glo "is_whole", .glo "is_plane", .glo "parts_at", .glo "side_of", .glo "is_condition", .glo "is_conditions", .glo "fulfils", .glo "holds", .glo "closed_need", .glo "closed", .glo "_law_mix", .glo "_law_store", .glo "_law_take", .glo "_law_pick", .glo "_law_few", .glo "_law_wide", .glo "_law_integer", .glo "_law_gcd", .glo "_law_frac", .glo "_law_ratio", .glo "_law_is_integer", .glo "_law_copy", .glo "_law_spots", .glo "_law_bend_one", .glo "_law_bend", .glo "_law_point", .glo "_law_is_plane", .glo "_law_is_condition", .glo "_law_is_conditions", .glo "_law_form", .glo "_law_normal", .glo "_law_plane", .glo "_law_wide_plane", .glo "_law_over", .glo "_law_value_sign", .glo "_law_condition", .glo "_law_listed", .glo "_law_true", .glo "_law_bool", .glo "_law_held", .glo "_law_is", .glo "_law_closed_due", .glo "_law_again", .glo "_law_bent", .glo "law", .free "abs", .free "all", .free "bool", .free "dict", .free "int", .free "isinstance", .free "len", .free "list", .free "max", .free "min", .free "range", .free "str", .free "tuple"]
def cs : List (PySem.Str × Sm.D) := []
def exq (K : PySem.W.Frag) : Bool := Sm.conB cs K && true
def names : List PySem.Str := (["common_divisor", "divisor_of_four", "leading", "is_whole", "is_plane", "parts_at", "side_of", "is_condition", "is_conditions", "fulfils", "holds", "closed_need", "closed", "_law_mix", "_law_store", "_law_take", "_law_pick", "_law_few", "_law_wide", "_law_integer", "_law_gcd", "_law_frac", "_law_ratio", "_law_is_integer", "_law_copy", "_law_spots", "_law_bend_one", "_law_bend", "_law_point", "_law_is_plane"] : List PySem.Str) ++ (["_law_is_condition", "_law_is_conditions", "_law_form", "_law_normal", "_law_plane", "_law_wide_plane", "_law_over", "_law_value_sign", "_law_condition", "_law_listed", "_law_true", "_law_bool", "_law_held", "_law_is", "_law_closed_due", "_law_again", "_law_bent"] : List PySem.Str)
abbrev RR : PySem.W.OpenRow := PySem.W.OpenLaw.row PySem.Challenge.rw_everypoint_k10_conditions_at_a_point
abbrev hk : PySem.W.Hook := Sm.hookM 2 fa fn exq
def ob (s : PySem.W.SharedT) : Sm.AlM := Sm.obsM 2 fa fn exq (HandSHeadRun.getT s)
theorem ob_eq (s : PySem.W.SharedT) : ob s = hk.obs s.abs := Sm.obsM_eq (HandSHeadRun.getT_eq s)
theorem run (w : World) : HandSHeadRun.RunEq RR (PySem.W.view RR.prog [50]) hk ob 20000 names w := by
  intro os
  kernel_rfl
end Mv
namespace Sm
open PySem PySem.Spec PyProof.Rows L2
/-! ### simp rules of the evaluators -/
section
variable {d x y : D} {e : Sl} {h : EH} {i j : Int} {n m : Nat}
@[simp] theorem eVar_z {d : D} {e : Sl} {h : EH} : eVar 0 (some d :: e) h = .ok d h := rfl
@[simp] theorem eVar_s {i : Nat} {x : Option D} {e : Sl} {h : EH} : eVar (i + 1) (x :: e) h = eVar i e h := by
  unfold eVar; rw [List.getElem?_cons_succ]
@[simp] theorem eC_r : eC d e h = .ok d h := rfl
@[simp] theorem eBin_r {f : D → D → EH → Option (D × EH)} {ma mb : Sl → EH → R D} : eBin f ma mb e h = (ma e h).bind fun x h1 => (mb e h1).bind fun y h2 => opE f x y h2 := rfl
@[simp] theorem eUn_neg {ma : Sl → EH → R D} : eUn oNeg ma e h = (ma e h).bind fun x h1 => (match oNeg x with
  | some d => .ok d h1
  | none => .bad) := rfl
@[simp] theorem oNeg_i : oNeg (.int i) = some (.int (-i)) := rfl
@[simp] theorem op_add_i : opE oAdd (.int i) (.int j) h = .ok (.int (i + j)) h := rfl
@[simp] theorem op_sub_i : opE oSub (.int i) (.int j) h = .ok (.int (i - j)) h := rfl
theorem op_mul_i (c : mulOk i j = true) : opE oMul (.int i) (.int j) h = .ok (.int (i * j)) h := by
  simp only [opE, oMul, oI, if_pos c]; rfl
theorem op_div_i (c : divOk j = true) : opE oDiv (.int i) (.int j) h = .ok (.int (i.fdiv j)) h := by
  simp only [opE, oDiv, oI, if_pos c]; rfl
theorem op_mod_i (c : j ≠ 0) : opE oMod (.int i) (.int j) h = .ok (.int (i.fmod j)) h := by
  simp only [opE, oMod, oI, if_pos c]; rfl
theorem op_mod_p (c : 0 < j) : opE oMod (.int i) (.int j) h = .ok (.int (i % j)) h := by
  rw [op_mod_i (by omega), Int.fmod_eq_emod_of_nonneg i (by omega)]
theorem op_div_p (c : 0 < j) (c2 : j.natAbs.log2 < 9000) : opE oDiv (.int i) (.int j) h = .ok (.int (i / j)) h := by
  rw [op_div_i (by simp [divOk, c2]; omega), Int.fdiv_eq_ediv_of_nonneg i (by omega)]
@[simp] theorem op_lt_i : opE oLt (.int i) (.int j) h = .ok (.bl (decide (i < j))) h := rfl
@[simp] theorem op_le_i : opE oLe (.int i) (.int j) h = .ok (.bl (decide (i ≤ j))) h := rfl
@[simp] theorem op_gt_i : opE oGt (.int i) (.int j) h = .ok (.bl (decide (j < i))) h := rfl
@[simp] theorem op_ge_i : opE oGe (.int i) (.int j) h = .ok (.bl (decide (j ≤ i))) h := rfl
@[simp] theorem op_eq_i : opE oEq (.int i) (.int j) h = .ok (.bl (decide (i = j))) h := rfl
@[simp] theorem op_ne_i : opE oNe (.int i) (.int j) h = .ok (.bl (!decide (i = j))) h := rfl
@[simp] theorem aNil_r : aNil e h = .ok [] h := rfl
@[simp] theorem aCons_r {m : Sl → EH → R D} {ms : Sl → EH → R (List D)} : aCons m ms e h = (m e h).bind fun d h1 => (ms e h1).bind fun ds h2 => .ok (d :: ds) h2 := rfl
theorem sz_ok {n : Nat} (c : n ≤ 1000) : n ≤ sizeLine := by rw [sizeLine_eq]; omega
theorem sz_lt {n : Nat} (c : n ≤ 1000) : n < sizeLine := by rw [sizeLine_eq]; omega
@[simp] theorem eTup_r {ms : Sl → EH → R (List D)} : eTup ms e h = (ms e h).bind fun ds h1 => if ds.length ≤ sizeLine then .ok (.tup ds) h1 else .bad := rfl
@[simp] theorem lDisp_r {ms : Sl → EH → R (List D)} : lDisp ms e h = (ms e h).bind fun ds h1 => if ds.length ≤ sizeLine then .ok ds h1 else .bad := rfl
@[simp] theorem eNew_r {m : Sl → EH → R (List D)} : eNew m e h = (m e h).bind fun xs h1 => .ok (.ref h1.length) (h1 ++ [.lst xs]) := rfl
@[simp] theorem bOf_r {m : Sl → EH → R D} : bOf m e h = (m e h).bind asB := rfl
@[simp] theorem asB_r {b : Bool} : asB (.bl b) h = .ok b h := rfl
@[simp] theorem bNot_r {m : Sl → EH → R Bool} : bNot m e h = (m e h).bind fun b h1 => .ok (!b) h1 := rfl
@[simp] theorem bAnd_r {a b : Sl → EH → R Bool} : bAnd a b e h = (a e h).bind fun t h1 => if t = true then b e h1 else .ok false h1 := rfl
@[simp] theorem bOr_r {a b : Sl → EH → R Bool} : bOr a b e h = (a e h).bind fun t h1 => if t = true then .ok true h1 else b e h1 := rfl
def andK (m : Sl → EH → R D) (e : Sl) (x : D) (h : EH) : R D := match x with
  | .bl true => m e h
  | .bl false => .ok (.bl false) h
  | _ => .bad
def orK (m : Sl → EH → R D) (e : Sl) (x : D) (h : EH) : R D := match x with
  | .bl false => m e h
  | .bl true => .ok (.bl true) h
  | _ => .bad
@[simp] theorem andK_r {m : Sl → EH → R D} {b : Bool} : andK m e (.bl b) h = if b = true then m e h else .ok (.bl false) h := by cases b <;> rfl
@[simp] theorem orK_r {m : Sl → EH → R D} {b : Bool} : orK m e (.bl b) h = if b = true then .ok (.bl true) h else m e h := by cases b <;> rfl
@[simp] theorem eAnd_r {a b : Sl → EH → R D} : eAnd a b e h = (a e h).bind (andK b e) := rfl
@[simp] theorem eOr_r {a b : Sl → EH → R D} : eOr a b e h = (a e h).bind (orK b e) := rfl
def notK (x : D) (h : EH) : R D := match x with
  | .bl b => .ok (.bl (!b)) h
  | _ => .bad
@[simp] theorem notK_r {b : Bool} : notK (.bl b) h = .ok (.bl (!b)) h := rfl
@[simp] theorem eNot_r {a : Sl → EH → R D} : eNot a e h = (a e h).bind notK := rfl
@[simp] theorem eIf_r {c : Sl → EH → R Bool} {a b : Sl → EH → R D} : eIf c a b e h = (c e h).bind fun t h1 => if t = true then a e h1 else b e h1 := rfl
@[simp] theorem eCall_r {f : List D → EH → R D} {ms : Sl → EH → R (List D)} : eCall f ms e h = (ms e h).bind f := rfl
@[simp] theorem eCallD_r {f : List D → EH → R D} {dds : List D} {ms : Sl → EH → R (List D)} : eCallD f dds ms e h = (ms e h).bind fun ds h1 => f (ds ++ dds) h1 := rfl
@[simp] theorem eCallK_r {f : List D → EH → R D} {n nk : Nat} {g : List D → List D → List D} {ms mk : Sl → EH → R (List D)} : eCallK f n nk g ms mk e h = (ms e h).bind fun ds h1 => (mk e h1).bind fun es h2 => if ds.length = n ∧ es.length = nk then f (g ds es) h2 else .bad := rfl
@[simp] theorem eCB_r {f : List D → EH → Option (D × EH)} {ms : Sl → EH → R (List D)} : eCB f ms e h = (ms e h).bind fun ds h1 => opA (f ds h1) := rfl
@[simp] theorem opA_s : opA (some (d, h)) = .ok d h := rfl
@[simp] theorem opA_n : opA none = .bad := rfl
@[simp] theorem fLen_t {xs : List D} : fLen [.tup xs] h = some (.int xs.length, h) := rfl
@[simp] theorem fLen_o {xs : List D} : fLen [.rol xs] h = some (.int xs.length, h) := rfl
theorem fLen_r {n : Nat} {xs : List D} (q : h[n]? = some (.lst xs)) : fLen [.ref n] h = some (.int xs.length, h) := by simp only [fLen, q]
@[simp] theorem fAbs_r : fAbs [.int i] h = some (.int i.natAbs, h) := rfl
@[simp] theorem fMax_r : fMax2 [.int i, .int j] h = some (.int (max i j), h) := rfl
@[simp] theorem fMin_r : fMin2 [.int i, .int j] h = some (.int (min i j), h) := rfl
@[simp] theorem fInt_r : fInt [.int i] h = some (.int i, h) := rfl
@[simp] theorem fInt_b {b : Bool} : fInt [.bl b] h = some (.int (if b then 1 else 0), h) := rfl
theorem kit_ii : kitB "int" "int" = some true := by decide +kernel
theorem kit_ib : kitB "int" "bool" = some false := by decide +kernel
theorem kit_bi : kitB "bool" "int" = some true := by decide +kernel
theorem kit_bb : kitB "bool" "bool" = some true := by decide +kernel
theorem kit_tt : kitB "tuple" "tuple" = some true := by decide +kernel
theorem kit_ll : kitB "list" "list" = some true := by decide +kernel
theorem kit_lt : kitB "list" "tuple" = some false := by decide +kernel
theorem kit_tl : kitB "tuple" "list" = some false := by decide +kernel
theorem kit_ti : kitB "tuple" "int" = some false := by decide +kernel
theorem kit_it : kitB "int" "tuple" = some false := by decide +kernel
theorem kit_st : kitB "str" "tuple" = some false := by decide +kernel
theorem kit_si : kitB "str" "int" = some false := by decide +kernel
theorem kit_ss : kitB "str" "str" = some true := by decide +kernel
theorem kit_li : kitB "list" "int" = some false := by decide +kernel
theorem kit_is : kitB "int" "str" = some false := by decide +kernel
@[simp] theorem isi_ii : fIsi [.int i, .ty "int"] h = some (.bl true, h) := by simp [fIsi, tyN, kit_ii]
@[simp] theorem isi_ib : fIsi [.int i, .ty "bool"] h = some (.bl false, h) := by simp [fIsi, tyN, kit_ib]
@[simp] theorem isi_it : fIsi [.int i, .ty "tuple"] h = some (.bl false, h) := by simp [fIsi, tyN, kit_it]
@[simp] theorem isi_tt {xs : List D} : fIsi [.tup xs, .ty "tuple"] h = some (.bl true, h) := by simp [fIsi, tyN, kit_tt]
@[simp] theorem isi_tl {xs : List D} : fIsi [.tup xs, .ty "list"] h = some (.bl false, h) := by simp [fIsi, tyN, kit_tl]
@[simp] theorem isi_ti {xs : List D} : fIsi [.tup xs, .ty "int"] h = some (.bl false, h) := by simp [fIsi, tyN, kit_ti]
theorem isi_ll {n : Nat} {xs : List D} (q : h[n]? = some (.lst xs)) : fIsi [.ref n, .ty "list"] h = some (.bl true, h) := by simp [fIsi, tyN, kit_ll, q]
theorem isi_lt {n : Nat} {xs : List D} (q : h[n]? = some (.lst xs)) : fIsi [.ref n, .ty "tuple"] h = some (.bl false, h) := by simp [fIsi, tyN, kit_lt, q]
theorem isi_li {n : Nat} {xs : List D} (q : h[n]? = some (.lst xs)) : fIsi [.ref n, .ty "int"] h = some (.bl false, h) := by simp [fIsi, tyN, kit_li, q]
/-! items -/
theorem atI_n {α : Type} {xs : List α} {k : Nat} : L2.atI xs (k : Int) = xs[k]? := by
  cases q : xs[k]? with
  | some v => exact atI_nat q
  | none =>
    unfold L2.atI ixN
    have := List.getElem?_eq_none_iff.mp q
    rw [if_pos (by omega), if_neg (by omega)]
    rfl
@[simp] theorem atI_0 {α : Type} {x : α} {xs : List α} : L2.atI (x :: xs) 0 = some x := atI_n (k := 0)
@[simp] theorem atI_1 {α : Type} {x y : α} {xs : List α} : L2.atI (x :: y :: xs) 1 = some y := atI_n (k := 1)
@[simp] theorem atI_2 {α : Type} {x y z : α} {xs : List α} : L2.atI (x :: y :: z :: xs) 2 = some z := atI_n (k := 2)
@[simp] theorem atI_3 {α : Type} {x y z u : α} {xs : List α} : L2.atI (x :: y :: z :: u :: xs) 3 = some u := atI_n (k := 3)
@[simp] theorem atI_4 {α : Type} {x y z u v : α} {xs : List α} : L2.atI (x :: y :: z :: u :: v :: xs) 4 = some v := atI_n (k := 4)
@[simp] theorem atI_5 {α : Type} {x y z u v w : α} {xs : List α} : L2.atI (x :: y :: z :: u :: v :: w :: xs) 5 = some w := atI_n (k := 5)
@[simp] theorem atI_6 {α : Type} {x y z u v w t : α} {xs : List α} : L2.atI (x :: y :: z :: u :: v :: w :: t :: xs) 6 = some t := atI_n (k := 6)
theorem op_ix_t {xs : List D} : opE oIx (.tup xs) (.int i) h = (match L2.atI xs i with
  | some d => .ok d h
  | none => .bad) := by
  simp only [opE, oIx]
  cases L2.atI xs i <;> rfl
theorem op_ix_ts {xs : List D} (q : L2.atI xs i = some d) : opE oIx (.tup xs) (.int i) h = .ok d h := by rw [op_ix_t, q]
@[simp] theorem op_ix_t0 {xs : List D} : opE oIx (.tup (x :: xs)) (.int 0) h = .ok x h := op_ix_ts atI_0
@[simp] theorem op_ix_t1 {xs : List D} : opE oIx (.tup (x :: y :: xs)) (.int 1) h = .ok y h := op_ix_ts atI_1
@[simp] theorem op_ix_t2 {z : D} {xs : List D} : opE oIx (.tup (x :: y :: z :: xs)) (.int 2) h = .ok z h := op_ix_ts atI_2
@[simp] theorem op_ix_t3 {z u : D} {xs : List D} : opE oIx (.tup (x :: y :: z :: u :: xs)) (.int 3) h = .ok u h := op_ix_ts atI_3
theorem op_ix_r {n : Nat} {xs : List D} (q : h[n]? = some (.lst xs)) (q2 : L2.atI xs i = some d) : opE oIx (.ref n) (.int i) h = .ok d h := by
  unfold opE oIx; simp only [q, q2]; rfl
theorem op_ix_o {xs : List D} (q2 : L2.atI xs i = some d) : opE oIx (.rol xs) (.int i) h = .ok d h := by
  unfold opE oIx; simp only [q2]; rfl
/-! statements -/
def thenS (r : RS) (k : Sl → EH → RS) : RS := match r with
  | .nx e' h' => k e' h'
  | r => r
@[simp] theorem thenS_nx {k : Sl → EH → RS} : thenS (.nx e h) k = k e h := rfl
@[simp] theorem thenS_rt {k : Sl → EH → RS} : thenS (.rt d h) k = .rt d h := rfl
@[simp] theorem thenS_bk {k : Sl → EH → RS} : thenS (.bk e h) k = .bk e h := rfl
@[simp] theorem thenS_ct {k : Sl → EH → RS} : thenS (.ct e h) k = .ct e h := rfl
@[simp] theorem thenS_exc {x : Ex} {k : Sl → EH → RS} : thenS (.exc x e h) k = .exc x e h := rfl
@[simp] theorem thenS_bad {k : Sl → EH → RS} : thenS .bad k = .bad := rfl
@[simp] theorem sSeq_r {a b : Sl → EH → RS} : sSeq a b e h = thenS (a e h) b := by unfold sSeq thenS; cases a e h <;> rfl
@[simp] theorem sNil_r : sNil e h = .nx e h := rfl
@[simp] theorem sPass_r : sPass e h = .nx e h := rfl
@[simp] theorem sBreak_r : sBreak e h = .bk e h := rfl
@[simp] theorem sCont_r : sCont e h = .ct e h := rfl
@[simp] theorem sBad_r : sBad e h = .bad := rfl
@[simp] theorem sExpr_r {m : Sl → EH → R D} : sExpr m e h = liftS (m e h) e fun _ h1 => .nx e h1 := rfl
@[simp] theorem sRet_r {m : Sl → EH → R D} : sRet m e h = liftS (m e h) e fun d h1 => .rt d h1 := rfl
@[simp] theorem sRetN_r : sRetN e h = .rt .non h := rfl
@[simp] theorem sIf_r {c : Sl → EH → R Bool} {a b : Sl → EH → RS} : sIf c a b e h = liftS (c e h) e fun t h1 => if t = true then a e h1 else b e h1 := rfl
@[simp] theorem gVar_r {i : Nat} : gVar i d e h = .ok (e.set i (some d)) h := rfl
@[simp] theorem sAsg_r {m : Sl → EH → R D} {g : D → Sl → EH → R Sl} : sAsg m g e h = liftS (m e h) e fun d h1 => liftS (g d e h1) e fun e' h2 => .nx e' h2 := rfl
def parK (i j : Nat) (e : Sl) (ds : List D) (h : EH) : RS := match ds with
  | [a, b] => .nx ((e.set i (some a)).set j (some b)) h
  | _ => .bad
@[simp] theorem parK_r {i j : Nat} {a b : D} : parK i j e [a, b] h = .nx ((e.set i (some a)).set j (some b)) h := rfl
@[simp] theorem sPar_r {i j : Nat} {ms : Sl → EH → R (List D)} : sPar i j ms e h = liftS (ms e h) e (parK i j e) := rfl
theorem sAug_r {i : Nat} {f : D → D → EH → Option (D × EH)} {m : Sl → EH → R D} (q : e[i]? = some (some d)) : sAug i f m e h = liftS (m e h) e fun y h1 => (match f d y h1 with
    | some (z, h2) => .nx (e.set i (some z)) h2
    | none => .bad) := by unfold sAug; simp only [q]; try rfl
theorem sAug_i {i : Nat} {f : Int → Int → Int} {m : Sl → EH → R D} {a b : Int} {h1 : EH} (q : e[i]? = some (some (.int a))) (q2 : m e h = .ok (.int b) h1) : sAug i (oI fun i j => some (f i j)) m e h = .nx (e.set i (some (.int (f a b)))) h1 := by
  rw [sAug_r q, q2]; rfl
@[simp] theorem gTup_r {n : Nat} {gs : List D → Sl → EH → R Sl} {ds : List D} : gTupD n gs (.tup ds) e h = if ds.length = n then gs ds e h else .bad := rfl
@[simp] theorem gNil_r : gNil [] e h = .ok e h := rfl
theorem gCons_r {g : D → Sl → EH → R Sl} {gs : List D → Sl → EH → R Sl} {ds : List D} : gCons g gs (d :: ds) e h = (match g d e h with
    | .ok e1 h1 => (match gs ds e1 h1 with
      | .ok e2 h2 => .ok e2 h2
      | _ => .bad)
    | _ => .bad) := rfl
@[simp] theorem gCons_v {i : Nat} {gs : List D → Sl → EH → R Sl} {ds : List D} : gCons (gVar i) gs (d :: ds) e h = (match gs ds (e.set i (some d)) h with
      | .ok e2 h2 => .ok e2 h2
      | _ => .bad) := rfl
def finR (r : RS) : R D := match r with
  | .nx _ h' => .ok .non h'
  | .rt d h' => .ok d h'
  | .exc x _ h' => .exc x h'
  | _ => .bad
@[simp] theorem finR_nx : finR (.nx e h) = .ok .non h := rfl
@[simp] theorem finR_rt : finR (.rt d h) = .ok d h := rfl
@[simp] theorem finR_exc {x : Ex} : finR (.exc x e h) = .exc x h := rfl
@[simp] theorem finR_bad : finR .bad = .bad := rfl
theorem mFun_eq {np n : Nat} {b : Sl → EH → RS} {ds : List D} (c : ds.length = np) : mFun np n b ds h = finR (b (ds.map some ++ List.replicate (n - ds.length) none) h) := by
  unfold mFun finR
  rw [if_pos c]
  try (cases b (ds.map some ++ List.replicate (n - ds.length) none) h <;> rfl)
@[simp] theorem mFun_1 {n : Nat} {b : Sl → EH → RS} {a : D} : mFun 1 n b [a] h = finR (b (some a :: List.replicate (n - 1) none) h) := mFun_eq rfl
@[simp] theorem mFun_2 {n : Nat} {b : Sl → EH → RS} {a a2 : D} : mFun 2 n b [a, a2] h = finR (b (some a :: some a2 :: List.replicate (n - 2) none) h) := mFun_eq rfl
@[simp] theorem mFun_3 {n : Nat} {b : Sl → EH → RS} {a a2 a3 : D} : mFun 3 n b [a, a2, a3] h = finR (b (some a :: some a2 :: some a3 :: List.replicate (n - 3) none) h) := mFun_eq rfl
@[simp] theorem mFun_4 {n : Nat} {b : Sl → EH → RS} {a a2 a3 a4 : D} : mFun 4 n b [a, a2, a3, a4] h = finR (b (some a :: some a2 :: some a3 :: some a4 :: List.replicate (n - 4) none) h) := mFun_eq rfl
@[simp] theorem thenS_ite {c : Prop} [Decidable c] {a b : RS} {k : Sl → EH → RS} : thenS (if c then a else b) k = if c then thenS a k else thenS b k := by split <;> rfl
@[simp] theorem finR_ite {c : Prop} [Decidable c] {a b : RS} : finR (if c then a else b) = if c then finR a else finR b := by split <;> rfl
@[simp] theorem liftS_ite {α : Type} {c : Prop} [Decidable c] {a b : R α} {k : α → EH → RS} : liftS (if c then a else b) e k = if c then liftS a e k else liftS b e k := by split <;> rfl
@[simp] theorem bind_ite {α β : Type} {c : Prop} [Decidable c] {a b : R α} {k : α → EH → R β} : (if c then a else b).bind k = if c then a.bind k else b.bind k := by split <;> rfl
theorem op_ix_u {n : Nat} : opE oIx (.ref n) (.int i) h = (match h[n]? with
  | some (.lst xs) => (match L2.atI xs i with
    | some d => .ok d h
    | none => .bad)
  | _ => .bad) := by
  simp only [opE, oIx]
  cases h[n]? with
  | none => rfl
  | some o => cases o with
    | dct _ => rfl
    | dcl _ => rfl
    | lst xs => simp only []; cases L2.atI xs i <;> rfl
theorem fLen_u {n : Nat} : fLen [.ref n] h = (match h[n]? with
    | some (.lst xs) => some (.int xs.length, h)
    | _ => none) := rfl
def setK (e : Sl) (d o i : D) (h : EH) : R Sl := match o, i with
  | .ref n, .int k => (match h[n]? with
    | some (.lst xs) => (match ixN xs.length k with
      | some j => .ok e (h.set n (.lst (xs.set j d)))
      | none => .bad)
    | _ => .bad)
  | _, _ => .bad
@[simp] theorem gSub_r {mo mi : Sl → EH → R D} : gSubD mo mi d e h = (mo e h).bind fun o h1 => (mi e h1).bind fun i h2 => setK e d o i h2 := rfl
theorem setK_u {n : Nat} : setK e d (.ref n) (.int i) h = (match h[n]? with
    | some (.lst xs) => (match ixN xs.length i with
      | some j => .ok e (h.set n (.lst (xs.set j d)))
      | none => .bad)
    | _ => .bad) := rfl
end
/-! ### sizes -/
theorem intBits_le {i : Int} {n : Nat} (h : i.natAbs < 2 ^ n) : Builtin.Int.intBits i ≤ n := by
  unfold Builtin.Int.intBits
  split
  · exact Nat.zero_le _
  · rename_i hz
    have h0 : i.natAbs ≠ 0 := by simpa using hz
    have := (Nat.log2_lt h0).mpr h
    omega
theorem mulOk_r {i j : Int} (h : j.natAbs < 2 ^ 64) : mulOk i j = true := by
  have := intBits_le h
  unfold mulOk
  have e : decide (Builtin.Int.intBits j > shortFactorBits) = false := decide_eq_false (by unfold shortFactorBits; omega)
  rw [e]; simp
theorem mulOk_l {i j : Int} (h : i.natAbs < 2 ^ 64) : mulOk i j = true := by
  have := intBits_le h
  unfold mulOk
  have e : decide (Builtin.Int.intBits i > shortFactorBits) = false := decide_eq_false (by unfold shortFactorBits; omega)
  rw [e]; simp
theorem mulOk_of {i j : Int} {a b : Nat} (h1 : i.natAbs < 2 ^ a) (h2 : j.natAbs < 2 ^ b) (h : a + b ≤ 100000000) : mulOk i j = true := by
  have l1 := intBits_le h1
  have l2 := intBits_le h2
  have e : bitsLine = 134217728 := by decide
  have q : Builtin.Int.intTooBig (((Builtin.Int.intBits i + Builtin.Int.intBits j : Nat)) : Int) = false := by
    unfold Builtin.Int.intTooBig
    exact decide_eq_false (by omega)
  unfold mulOk
  have q2 : Builtin.Int.intTooBig (((Builtin.Int.intBits i : Nat) : Int) + ((Builtin.Int.intBits j : Nat) : Int)) = false := by rw [← q]; rfl
  rw [q2]
  simp
end Sm
namespace Sm
open PySem PySem.Spec PyProof.Rows L2
/-! ### loops by invariants -/
section
variable {it : Itd} {g : D → Sl → EH → R Sl} {b : Sl → EH → RS} {e : Sl} {h : EH}
/-- a for that may return from within: P by the turn, Rt what a return gives -/
theorem for_rt (len : Nat) (item : Nat → D) (P : Nat → Sl → EH → Prop) (Rt : D → EH → Prop) (hi : ∀ k e h, k < len → P k e h → it k h = some (some (item k))) (hz : ∀ e h, P len e h → it len h = some none)
    (hs : ∀ k e h, k < len → P k e h → ∃ e1 h1, g (item k) e h = .ok e1 h1 ∧ ((∃ e2 h2, (b e1 h1 = .nx e2 h2 ∨ b e1 h1 = .ct e2 h2) ∧ P (k + 1) e2 h2) ∨ ∃ d h2, b e1 h1 = .rt d h2 ∧ Rt d h2)) :
    ∀ (m k : Nat) (e : Sl) (h : EH), k + m = len → P k e h → (∃ e' h', loopW (stepF it g b) (k, e, h) = some (.nx e' h') ∧ P len e' h') ∨ ∃ d h', loopW (stepF it g b) (k, e, h) = some (.rt d h') ∧ Rt d h'
  | 0, k, e, h, hk, p => by
    have e0 : k = len := by omega
    subst e0
    exact .inl ⟨e, h, loopW_done (by simp only [stepF, hz e h p]), p⟩
  | m + 1, k, e, h, hk, p => by
    obtain ⟨e1, h1, q1, q2⟩ := hs k e h (by omega) p
    have q0 := hi k e h (by omega) p
    rcases q2 with ⟨e2, h2, q2 | q2, p2⟩ | ⟨d, h2, q2, r⟩
    · rw [loopW_more (s' := (k + 1, e2, h2)) (by simp only [stepF, q0, q1, q2])]
      exact for_rt len item P Rt hi hz hs m (k + 1) e2 h2 (by omega) p2
    · rw [loopW_more (s' := (k + 1, e2, h2)) (by simp only [stepF, q0, q1, q2])]
      exact for_rt len item P Rt hi hz hs m (k + 1) e2 h2 (by omega) p2
    · exact .inr ⟨d, h2, loopW_done (by simp only [stepF, q0, q1, q2]), r⟩
/-- a for that runs through -/
theorem for_thru (len : Nat) (item : Nat → D) (P : Nat → Sl → EH → Prop) (hi : ∀ k e h, k < len → P k e h → it k h = some (some (item k))) (hz : ∀ e h, P len e h → it len h = some none)
    (hs : ∀ k e h, k < len → P k e h → ∃ e1 h1, g (item k) e h = .ok e1 h1 ∧ ∃ e2 h2, (b e1 h1 = .nx e2 h2 ∨ b e1 h1 = .ct e2 h2) ∧ P (k + 1) e2 h2) (p : P 0 e h) :
    ∃ e' h', loopW (stepF it g b) (0, e, h) = some (.nx e' h') ∧ P len e' h' := by
  rcases for_rt len item P (fun _ _ => False) hi hz (fun k e h hk p => by
    obtain ⟨e1, h1, q1, q2⟩ := hs k e h hk p
    exact ⟨e1, h1, q1, .inl q2⟩) len 0 e h (by omega) p with q | ⟨_, _, _, z⟩
  · exact q
  · exact z.elim
theorem itR_in {lo c : Int} {n k : Nat} {h : EH} (hk : k < n) : itR lo c n k h = some (some (.int (lo + k * c))) := by unfold itR; rw [if_pos hk]
theorem itR_out {lo c : Int} {n : Nat} {h : EH} : itR lo c n n h = some none := by unfold itR; rw [if_neg (Nat.lt_irrefl _)]
theorem itL_in {xs : List D} {k : Nat} {h : EH} (hk : k < xs.length) : itL xs k h = some (some xs[k]) := by unfold itL; rw [List.getElem?_eq_getElem hk]
theorem itL_out {xs : List D} {h : EH} : itL xs xs.length h = some none := by unfold itL; rw [List.getElem?_eq_none (Nat.le_refl _)]
theorem itH_in {n : Nat} {xs : List D} {k : Nat} {h : EH} (q : h[n]? = some (.lst xs)) (hk : k < xs.length) : itH n k h = some (some xs[k]) := by unfold itH; simp only [q]; rw [List.getElem?_eq_getElem hk]
theorem itH_out {n : Nat} {xs : List D} {h : EH} (q : h[n]? = some (.lst xs)) : itH n xs.length h = some none := by unfold itH; simp only [q]; rw [List.getElem?_eq_none (Nat.le_refl _)]
/-- for k in range(..) -/
theorem for_range {lo c : Int} {n : Nat} (P : Nat → Sl → EH → Prop) (p : P 0 e h) (hs : ∀ k e h, k < n → P k e h → ∃ e1 h1, g (.int (lo + k * c)) e h = .ok e1 h1 ∧ ∃ e2 h2, (b e1 h1 = .nx e2 h2 ∨ b e1 h1 = .ct e2 h2) ∧ P (k + 1) e2 h2) :
    ∃ e' h', loopW (stepF (itR lo c n) g b) (0, e, h) = some (.nx e' h') ∧ P n e' h' :=
  for_thru n (fun k => .int (lo + k * c)) P (fun k e h hk _ => itR_in hk) (fun _ _ _ => itR_out) hs p
theorem for_range_rt {lo c : Int} {n : Nat} (P : Nat → Sl → EH → Prop) (Rt : D → EH → Prop) (p : P 0 e h) (hs : ∀ k e h, k < n → P k e h → ∃ e1 h1, g (.int (lo + k * c)) e h = .ok e1 h1 ∧ ((∃ e2 h2, (b e1 h1 = .nx e2 h2 ∨ b e1 h1 = .ct e2 h2) ∧ P (k + 1) e2 h2) ∨ ∃ d h2, b e1 h1 = .rt d h2 ∧ Rt d h2)) :
    (∃ e' h', loopW (stepF (itR lo c n) g b) (0, e, h) = some (.nx e' h') ∧ P n e' h') ∨ ∃ d h', loopW (stepF (itR lo c n) g b) (0, e, h) = some (.rt d h') ∧ Rt d h' :=
  for_rt n (fun k => .int (lo + k * c)) P Rt (fun k e h hk _ => itR_in hk) (fun _ _ _ => itR_out) hs n 0 e h (by omega) p
/-- for x in a list by value -/
theorem for_list {xs : List D} (P : Nat → Sl → EH → Prop) (p : P 0 e h) (hs : ∀ (k : Nat) e h, (hk : k < xs.length) → P k e h → ∃ e1 h1, g xs[k] e h = .ok e1 h1 ∧ ∃ e2 h2, (b e1 h1 = .nx e2 h2 ∨ b e1 h1 = .ct e2 h2) ∧ P (k + 1) e2 h2) :
    ∃ e' h', loopW (stepF (itL xs) g b) (0, e, h) = some (.nx e' h') ∧ P xs.length e' h' :=
  for_thru xs.length (fun k => xs.getD k .non) P (fun k e h hk _ => by rw [itL_in hk]; simp [hk]) (fun _ _ _ => itL_out) (fun k e h hk p => by simpa [hk] using hs k e h hk p) p
/-- for x in a list of the heap that stays -/
theorem for_heap {n : Nat} {xs : List D} (P : Nat → Sl → EH → Prop) (hx : ∀ k e h, P k e h → h[n]? = some (.lst xs)) (p : P 0 e h) (hs : ∀ (k : Nat) e h, (hk : k < xs.length) → P k e h → ∃ e1 h1, g xs[k] e h = .ok e1 h1 ∧ ∃ e2 h2, (b e1 h1 = .nx e2 h2 ∨ b e1 h1 = .ct e2 h2) ∧ P (k + 1) e2 h2) :
    ∃ e' h', loopW (stepF (itH n) g b) (0, e, h) = some (.nx e' h') ∧ P xs.length e' h' :=
  for_thru xs.length (fun k => xs.getD k .non) P (fun k e h hk p => by rw [itH_in (hx k e h p) hk]; simp [hk]) (fun e h p => itH_out (hx _ e h p)) (fun k e h hk p => by simpa [hk] using hs k e h hk p) p
theorem for_heap_rt {n : Nat} {xs : List D} (P : Nat → Sl → EH → Prop) (Rt : D → EH → Prop) (hx : ∀ k e h, P k e h → h[n]? = some (.lst xs)) (p : P 0 e h)
    (hs : ∀ (k : Nat) e h, (hk : k < xs.length) → P k e h → ∃ e1 h1, g xs[k] e h = .ok e1 h1 ∧ ((∃ e2 h2, (b e1 h1 = .nx e2 h2 ∨ b e1 h1 = .ct e2 h2) ∧ P (k + 1) e2 h2) ∨ ∃ d h2, b e1 h1 = .rt d h2 ∧ Rt d h2)) :
    (∃ e' h', loopW (stepF (itH n) g b) (0, e, h) = some (.nx e' h') ∧ P xs.length e' h') ∨ ∃ d h', loopW (stepF (itH n) g b) (0, e, h) = some (.rt d h') ∧ Rt d h' :=
  for_rt xs.length (fun k => xs.getD k .non) P Rt (fun k e h hk p => by rw [itH_in (hx k e h p) hk]; simp [hk]) (fun e h p => itH_out (hx _ e h p)) (fun k e h hk p => by simpa [hk] using hs k e h hk p) xs.length 0 e h (by omega) p
end
/-- while, by an invariant and a measure -/
theorem while_thru {c : Sl → EH → R Bool} {b : Sl → EH → RS} (P : Sl → EH → Prop) (μ : Sl → EH → Nat) (Z : Sl → EH → Prop)
    (hs : ∀ e h, P e h → (∃ h1, c e h = .ok false h1 ∧ Z e h1) ∨ ∃ h1 e2 h2, c e h = .ok true h1 ∧ (b e h1 = .nx e2 h2 ∨ b e h1 = .ct e2 h2) ∧ P e2 h2 ∧ μ e2 h2 < μ e h) :
    ∀ (n : Nat) (e : Sl) (h : EH), μ e h ≤ n → P e h → ∃ e' h', loopW (stepW c b) (e, h) = some (.nx e' h') ∧ Z e' h' := by
  intro n
  induction n with
  | zero =>
    intro e h hn p
    rcases hs e h p with ⟨h1, q, z⟩ | ⟨h1, e2, h2, q, q2, p2, l⟩
    · exact ⟨e, h1, loopW_done (by simp only [stepW, q]), z⟩
    · omega
  | succ n ih =>
    intro e h hn p
    rcases hs e h p with ⟨h1, q, z⟩ | ⟨h1, e2, h2, q, q2, p2, l⟩
    · exact ⟨e, h1, loopW_done (by simp only [stepW, q]), z⟩
    · rw [loopW_more (s' := (e2, h2)) (by rcases q2 with q2 | q2 <;> simp only [stepW, q, q2])]
      exact ih e2 h2 (by omega) p2
/-- a comprehension: every turn keeps or drops -/
theorem comp_thru {it : Itd} {vs : List Nat} {g : D → Sl → EH → R Sl} {t : Sl → EH → R Bool} {m : Sl → EH → R D} {e : Sl} (len : Nat) (item : Nat → D) (P : Nat → List D → EH → Prop) (hi : ∀ k a h, k < len → P k a h → it k h = some (some (item k))) (hz : ∀ a h, P len a h → it len h = some none)
    (hs : ∀ k a h, k < len → P k a h → ∃ e1 h1, g (item k) (wipeD e vs) h = .ok e1 h1 ∧ ((∃ h2, t e1 h1 = .ok false h2 ∧ P (k + 1) a h2) ∨ ∃ h2 y h3, t e1 h1 = .ok true h2 ∧ m e1 h2 = .ok y h3 ∧ a.length < sizeLine ∧ P (k + 1) (a ++ [y]) h3)) :
    ∀ (j k : Nat) (a : List D) (h : EH), k + j = len → P k a h → ∃ a' h', loopW (stepC it vs g t m e) (k, a, h) = some (.ok a' h') ∧ P len a' h'
  | 0, k, a, h, hk, p => by
    have e0 : k = len := by omega
    subst e0
    exact ⟨a, h, loopW_done (by simp only [stepC, hz a h p]), p⟩
  | j + 1, k, a, h, hk, p => by
    obtain ⟨e1, h1, q1, q2⟩ := hs k a h (by omega) p
    have q0 := hi k a h (by omega) p
    rcases q2 with ⟨h2, q2, p2⟩ | ⟨h2, y, h3, q2, q3, l, p2⟩
    · rw [loopW_more (s' := (k + 1, a, h2)) (by simp only [stepC, q0, q1, q2])]
      exact comp_thru len item P hi hz hs j (k + 1) a h2 (by omega) p2
    · rw [loopW_more (s' := (k + 1, a ++ [y], h3)) (by simp only [stepC, q0, q1, q2, q3, if_pos l])]
      exact comp_thru len item P hi hz hs j (k + 1) (a ++ [y]) h3 (by omega) p2
/-- sFor, sWhile, lComp by their loops -/
theorem sFor_eq {mi : Sl → EH → R Itd} {g : D → Sl → EH → R Sl} {b : Sl → EH → RS} {e : Sl} {h h1 : EH} {it : Itd} {r : RS} (q : mi e h = .ok it h1) (l : loopW (stepF it g b) (0, e, h1) = some r) : sFor mi g b e h = r := by
  unfold sFor; rw [q]; simp only [liftS_ok, l]; rfl
theorem sWhile_eq {c : Sl → EH → R Bool} {b : Sl → EH → RS} {e : Sl} {h : EH} {r : RS} (l : loopW (stepW c b) (e, h) = some r) : sWhile c b e h = r := by
  unfold sWhile; rw [l]; rfl
theorem lComp_eq {vs : List Nat} {mi : Sl → EH → R Itd} {g : D → Sl → EH → R Sl} {t : Sl → EH → R Bool} {m : Sl → EH → R D} {e : Sl} {h h1 : EH} {it : Itd} {r : R (List D)} (q : mi e h = .ok it h1) (l : loopW (stepC it vs g t m e) (0, [], h1) = some r) : lComp vs mi g t m e h = r := by
  unfold lComp; rw [q]; simp only [R.bind_ok, l]; rfl
section
variable {e : Sl} {h : EH}
@[simp] theorem iSeq_r {m : Sl → EH → R D} : iSeq m e h = (m e h).bind asItS := rfl
@[simp] theorem asItS_t {xs : List D} : asItS (.tup xs) h = .ok (itL xs) h := rfl
@[simp] theorem asItS_o {xs : List D} : asItS (.rol xs) h = .ok (itL xs) h := rfl
@[simp] theorem asItS_r {n : Nat} : asItS (.ref n) h = .ok (itH n) h := rfl
@[simp] theorem iTmp_r {m : Sl → EH → R (List D)} : iTmp m e h = (m e h).bind fun ds h1 => .ok (itL ds) h1 := rfl
@[simp] theorem iRng_r {k : List D → EH → R Itd} {ms : Sl → EH → R (List D)} : iRng k ms e h = (ms e h).bind k := rfl
theorem asR1_r {j : Int} (h1 : -(2 ^ 62) ≤ j) (h2 : j < 2 ^ 62) : asR1 [.int j] h = .ok (itR 0 1 j.toNat) h := if_pos ⟨h1, h2⟩
theorem asR2_r {i j : Int} (h1 : -(2 ^ 62) ≤ i) (h2 : i < 2 ^ 62) (h3 : -(2 ^ 62) ≤ j) (h4 : j < 2 ^ 62) : asR2 [.int i, .int j] h = .ok (itR i 1 (j - i).toNat) h := if_pos ⟨h1, h2, h3, h4⟩
@[simp] theorem lList_r {m : Sl → EH → R D} : lList m e h = (m e h).bind asL := rfl
@[simp] theorem asL_t {xs : List D} : asL (.tup xs) h = .ok xs h := rfl
@[simp] theorem asL_o {xs : List D} : asL (.rol xs) h = .ok xs h := rfl
theorem asL_u {n : Nat} {xs : List D} (q : h[n]? = some (.lst xs)) : asL (.ref n) h = .ok xs h := by unfold asL itemsD; simp only [q]
end
end Sm
namespace Sm
open PySem PySem.Spec PyProof.Rows L2
/-! ### what must hold ahead, backwards -/
/-- bears what comes after, so that simp leaves it alone -/
structure Fx {α : Type} (Q : α → EH → Prop) (E : Ex → EH → Prop) : Type where
structure Fs (N : Sl → EH → Prop) (T : D → EH → Prop) (B C : Sl → EH → Prop) (X : Ex → Sl → EH → Prop) : Type where
def Wp {α : Type} (r : R α) (Q : α → EH → Prop) (E : Ex → EH → Prop) (_ : Fx Q E := ⟨⟩) : Prop := match r with
  | .ok a h => Q a h
  | .exc x h => E x h
  | .bad => False
def Ws (r : RS) (N : Sl → EH → Prop) (T : D → EH → Prop) (B C : Sl → EH → Prop) (X : Ex → Sl → EH → Prop) (_ : Fs N T B C X := ⟨⟩) : Prop := match r with
  | .nx e h => N e h
  | .rt d h => T d h
  | .bk e h => B e h
  | .ct e h => C e h
  | .exc x e h => X x e h
  | .bad => False
section
variable {α β : Type} {Q : α → EH → Prop} {E : Ex → EH → Prop} {N B C : Sl → EH → Prop} {T : D → EH → Prop} {X : Ex → Sl → EH → Prop} {e : Sl} {h : EH} {d : D} {x : Ex}
@[simp] theorem Wp_ok {a : α} : Wp (.ok a h) Q E = Q a h := rfl
@[simp] theorem Wp_exc : Wp (.exc x h) Q E = E x h := rfl
@[simp] theorem Wp_bad : Wp .bad Q E = False := rfl
@[simp] theorem Wp_bind {r : R α} {k : α → EH → R β} {Q : β → EH → Prop} : Wp (r.bind k) Q E = Wp r (fun a h => Wp (k a h) Q E) E := by cases r <;> rfl
@[simp] theorem Wp_ite {c : Prop} [Decidable c] {a b : R α} : Wp (if c then a else b) Q E = if c then Wp a Q E else Wp b Q E := by split <;> rfl
@[simp] theorem Ws_nx : Ws (.nx e h) N T B C X = N e h := rfl
@[simp] theorem Ws_rt : Ws (.rt d h) N T B C X = T d h := rfl
@[simp] theorem Ws_bk : Ws (.bk e h) N T B C X = B e h := rfl
@[simp] theorem Ws_ct : Ws (.ct e h) N T B C X = C e h := rfl
@[simp] theorem Ws_exc : Ws (.exc x e h) N T B C X = X x e h := rfl
@[simp] theorem Ws_bad : Ws .bad N T B C X = False := rfl
@[simp] theorem Ws_ite {c : Prop} [Decidable c] {a b : RS} : Ws (if c then a else b) N T B C X = if c then Ws a N T B C X else Ws b N T B C X := by split <;> rfl
@[simp] theorem Ws_then {r : RS} {k : Sl → EH → RS} : Ws (thenS r k) N T B C X = Ws r (fun e h => Ws (k e h) N T B C X) T B C X := by cases r <;> rfl
@[simp] theorem Ws_lift {r : R α} {k : α → EH → RS} : Ws (liftS r e k) N T B C X = Wp r (fun a h => Ws (k a h) N T B C X) (fun x h => X x e h) := by cases r <;> rfl
@[simp] theorem Wp_fin {r : RS} {Q : D → EH → Prop} : Wp (finR r) Q E = Ws r (fun _ h => Q .non h) Q (fun _ _ => False) (fun _ _ => False) (fun x _ h => E x h) := by cases r <;> rfl
theorem Wp.mono {r : R α} {Q' : α → EH → Prop} (w : Wp r Q E) (m : ∀ a h, Q a h → Q' a h) : Wp r Q' E := by
  cases r with
  | ok a h => exact m a h w
  | exc x h => exact w
  | bad => exact w
theorem Wp.get {r : R α} (w : Wp r Q fun _ _ => False) : ∃ a h, r = .ok a h ∧ Q a h := by
  cases r with
  | ok a h => exact ⟨a, h, rfl, w⟩
  | exc x h => exact w.elim
  | bad => exact w.elim
theorem Wp.of {r : R α} {a : α} (q : r = .ok a h) (w : Q a h) : Wp r Q E := by rw [q]; exact w
/-! loops -/
noncomputable def runF (it : Itd) (g : D → Sl → EH → R Sl) (b : Sl → EH → RS) (e : Sl) (h : EH) : RS := (loopW (stepF it g b) (0, e, h)).getD .bad
@[simp] theorem sFor_r {mi : Sl → EH → R Itd} {g : D → Sl → EH → R Sl} {b : Sl → EH → RS} : sFor mi g b e h = liftS (mi e h) e fun it h1 => runF it g b e h1 := rfl
theorem ws_runF {it : Itd} {g : D → Sl → EH → R Sl} {b : Sl → EH → RS} (len : Nat) (item : Nat → D) (P : Nat → Sl → EH → Prop) (hi : ∀ k e h, k < len → P k e h → it k h = some (some (item k))) (hz : ∀ e h, P len e h → it len h = some none) (p : P 0 e h)
    (hs : ∀ k e h, k < len → P k e h → Wp (g (item k) e h) (fun e1 h1 => Ws (b e1 h1) (P (k + 1)) T N (P (k + 1)) X) (fun x h => X x e h)) (hN : ∀ e h, P len e h → N e h) : Ws (runF it g b e h) N T B C X := by
  have key : ∀ (m k : Nat) (e : Sl) (h : EH), k + m = len → P k e h → ∃ r, loopW (stepF it g b) (k, e, h) = some r ∧ Ws r N T B C X := by
    intro m
    induction m with
    | zero =>
      intro k e h hk p
      have e0 : k = len := by omega
      subst e0
      exact ⟨.nx e h, loopW_done (by simp only [stepF, hz e h p]), hN e h p⟩
    | succ m ih =>
      intro k e h hk p
      have w := hs k e h (by omega) p
      have q0 := hi k e h (by omega) p
      cases q1 : g (item k) e h with
      | bad => rw [q1] at w; exact w.elim
      | exc x h1 => rw [q1] at w; exact ⟨.exc x e h1, loopW_done (by simp only [stepF, q0, q1]), w⟩
      | ok e1 h1 =>
        rw [q1] at w
        have w : Ws (b e1 h1) (P (k + 1)) T N (P (k + 1)) X := w
        cases q2 : b e1 h1 with
        | bad => rw [q2] at w; exact w.elim
        | nx e2 h2 => rw [q2] at w; rw [loopW_more (s' := (k + 1, e2, h2)) (by simp only [stepF, q0, q1, q2])]; exact ih (k + 1) e2 h2 (by omega) w
        | ct e2 h2 => rw [q2] at w; rw [loopW_more (s' := (k + 1, e2, h2)) (by simp only [stepF, q0, q1, q2])]; exact ih (k + 1) e2 h2 (by omega) w
        | bk e2 h2 => rw [q2] at w; exact ⟨.nx e2 h2, loopW_done (by simp only [stepF, q0, q1, q2]), w⟩
        | rt d h2 => rw [q2] at w; exact ⟨.rt d h2, loopW_done (by simp only [stepF, q0, q1, q2]), w⟩
        | exc x e2 h2 => rw [q2] at w; exact ⟨.exc x e2 h2, loopW_done (by simp only [stepF, q0, q1, q2]), w⟩
  obtain ⟨r, q, w⟩ := key len 0 e h (by omega) p
  unfold runF
  rw [q]
  exact w
theorem ws_runR {lo c : Int} {n : Nat} {g : D → Sl → EH → R Sl} {b : Sl → EH → RS} (P : Nat → Sl → EH → Prop) (p : P 0 e h)
    (hs : ∀ k e h, k < n → P k e h → Wp (g (.int (lo + k * c)) e h) (fun e1 h1 => Ws (b e1 h1) (P (k + 1)) T N (P (k + 1)) X) (fun x h => X x e h)) (hN : ∀ e h, P n e h → N e h) : Ws (runF (itR lo c n) g b e h) N T B C X :=
  ws_runF n (fun k => .int (lo + k * c)) P (fun k e h hk _ => itR_in hk) (fun _ _ _ => itR_out) p hs hN
/-- range(n) -/
theorem ws_run1 {n : Nat} {i : Nat} {b : Sl → EH → RS} (P : Nat → Sl → EH → Prop) (p : P 0 e h)
    (hs : ∀ (k : Nat) e h, k < n → P k e h → Ws (b (e.set i (some (.int k))) h) (P (k + 1)) T N (P (k + 1)) X) (hN : ∀ e h, P n e h → N e h) : Ws (runF (itR 0 1 n) (gVar i) b e h) N T B C X :=
  ws_runR P p (fun k e h hk q => by
    have := hs k e h hk q
    rw [show (k : Int) = 0 + k * 1 by omega] at this
    exact this) hN
theorem ws_runL {xs : List D} {g : D → Sl → EH → R Sl} {b : Sl → EH → RS} (P : Nat → Sl → EH → Prop) (p : P 0 e h)
    (hs : ∀ (k : Nat) e h (hk : k < xs.length), P k e h → Wp (g xs[k] e h) (fun e1 h1 => Ws (b e1 h1) (P (k + 1)) T N (P (k + 1)) X) (fun x h => X x e h)) (hN : ∀ e h, P xs.length e h → N e h) : Ws (runF (itL xs) g b e h) N T B C X :=
  ws_runF xs.length (fun k => xs.getD k .non) P (fun k e h hk _ => by rw [itL_in hk]; simp [hk]) (fun _ _ _ => itL_out) p (fun k e h hk p => by simpa [hk] using hs k e h hk p) hN
theorem ws_runH {n : Nat} {xs : List D} {g : D → Sl → EH → R Sl} {b : Sl → EH → RS} (P : Nat → Sl → EH → Prop) (hx : ∀ k e h, P k e h → h[n]? = some (.lst xs)) (p : P 0 e h)
    (hs : ∀ (k : Nat) e h (hk : k < xs.length), P k e h → Wp (g xs[k] e h) (fun e1 h1 => Ws (b e1 h1) (P (k + 1)) T N (P (k + 1)) X) (fun x h => X x e h)) (hN : ∀ e h, P xs.length e h → N e h) : Ws (runF (itH n) g b e h) N T B C X :=
  ws_runF xs.length (fun k => xs.getD k .non) P (fun k e h hk p => by rw [itH_in (hx k e h p) hk]; simp [hk]) (fun e h p => itH_out (hx _ e h p)) p (fun k e h hk p => by simpa [hk] using hs k e h hk p) hN
theorem ws_while {c : Sl → EH → R Bool} {b : Sl → EH → RS} (P : Sl → EH → Prop) (μ : Sl → EH → Nat) (p : P e h)
    (hs : ∀ e h, P e h → Wp (c e h) (fun t h1 => if t = true then Ws (b e h1) (fun e2 h2 => P e2 h2 ∧ μ e2 h2 < μ e h) T N (fun e2 h2 => P e2 h2 ∧ μ e2 h2 < μ e h) X else N e h1) (fun x h1 => X x e h1)) : Ws (sWhile c b e h) N T B C X := by
  have key : ∀ (m : Nat) (e : Sl) (h : EH), μ e h < m → P e h → ∃ r, loopW (stepW c b) (e, h) = some r ∧ Ws r N T B C X := by
    intro m
    induction m with
    | zero => intro e h l _; omega
    | succ m ih =>
      intro e h l p
      have w := hs e h p
      cases q1 : c e h with
      | bad => rw [q1] at w; exact w.elim
      | exc x h1 => rw [q1] at w; exact ⟨.exc x e h1, loopW_done (by simp only [stepW, q1]), w⟩
      | ok t h1 =>
        rw [q1] at w
        cases t with
        | false => exact ⟨.nx e h1, loopW_done (by simp only [stepW, q1]), w⟩
        | true =>
          have w : Ws (b e h1) (fun e2 h2 => P e2 h2 ∧ μ e2 h2 < μ e h) T N (fun e2 h2 => P e2 h2 ∧ μ e2 h2 < μ e h) X := w
          cases q2 : b e h1 with
          | bad => rw [q2] at w; exact w.elim
          | nx e2 h2 => rw [q2] at w; rw [loopW_more (s' := (e2, h2)) (by simp only [stepW, q1, q2])]; exact ih e2 h2 (by have := w.2; omega) w.1
          | ct e2 h2 => rw [q2] at w; rw [loopW_more (s' := (e2, h2)) (by simp only [stepW, q1, q2])]; exact ih e2 h2 (by have := w.2; omega) w.1
          | bk e2 h2 => rw [q2] at w; exact ⟨.nx e2 h2, loopW_done (by simp only [stepW, q1, q2]), w⟩
          | rt d h2 => rw [q2] at w; exact ⟨.rt d h2, loopW_done (by simp only [stepW, q1, q2]), w⟩
          | exc x e2 h2 => rw [q2] at w; exact ⟨.exc x e2 h2, loopW_done (by simp only [stepW, q1, q2]), w⟩
  obtain ⟨r, q, w⟩ := key (μ e h + 1) e h (by omega) p
  unfold sWhile
  rw [q]
  exact w
noncomputable def runC (it : Itd) (vs : List Nat) (g : D → Sl → EH → R Sl) (t : Sl → EH → R Bool) (m : Sl → EH → R D) (e : Sl) (h : EH) : R (List D) := (loopW (stepC it vs g t m e) (0, [], h)).getD .bad
@[simp] theorem lComp_r {vs : List Nat} {mi : Sl → EH → R Itd} {g : D → Sl → EH → R Sl} {t : Sl → EH → R Bool} {m : Sl → EH → R D} : lComp vs mi g t m e h = (mi e h).bind fun it h1 => runC it vs g t m e h1 := rfl
abbrev nE : Ex → EH → Prop := fun _ _ => False
theorem wp_runC {it : Itd} {vs : List Nat} {g : D → Sl → EH → R Sl} {t : Sl → EH → R Bool} {m : Sl → EH → R D} {Q : List D → EH → Prop} (len : Nat) (item : Nat → D) (P : Nat → List D → EH → Prop) (hi : ∀ k a h, k < len → P k a h → it k h = some (some (item k))) (hz : ∀ a h, P len a h → it len h = some none) (p : P 0 [] h)
    (hs : ∀ k a h, k < len → P k a h → Wp (g (item k) (wipeD e vs) h) (fun e1 h1 => Wp (t e1 h1) (fun b h2 => if b = true then Wp (m e1 h2) (fun y h3 => a.length < sizeLine ∧ P (k + 1) (a ++ [y]) h3) nE else P (k + 1) a h2) nE) nE) (hQ : ∀ a h, P len a h → Q a h) : Wp (runC it vs g t m e h) Q E := by
  obtain ⟨a', h', q, p'⟩ := comp_thru (it := it) (vs := vs) (g := g) (t := t) (m := m) (e := e) len item P hi hz (fun k a h hk p => by
    obtain ⟨e1, h1, q1, w1⟩ := (hs k a h hk p).get
    obtain ⟨b, h2, q2, w2⟩ := w1.get
    refine ⟨e1, h1, q1, ?_⟩
    cases b with
    | false => exact .inl ⟨h2, q2, w2⟩
    | true =>
      obtain ⟨y, h3, q3, w3⟩ := Wp.get w2
      exact .inr ⟨h2, y, h3, q2, q3, w3.1, w3.2⟩) len 0 [] h (by omega) p
  unfold runC
  rw [q]
  exact hQ a' h' p'
@[simp] theorem bYes_r : bYes e h = .ok true h := rfl
theorem wp_runCR {lo c : Int} {n : Nat} {vs : List Nat} {g : D → Sl → EH → R Sl} {t : Sl → EH → R Bool} {m : Sl → EH → R D} {Q : List D → EH → Prop} (P : Nat → List D → EH → Prop) (p : P 0 [] h)
    (hs : ∀ (k : Nat) a h, k < n → P k a h → Wp (g (.int (lo + k * c)) (wipeD e vs) h) (fun e1 h1 => Wp (t e1 h1) (fun b h2 => if b = true then Wp (m e1 h2) (fun y h3 => a.length < sizeLine ∧ P (k + 1) (a ++ [y]) h3) nE else P (k + 1) a h2) nE) nE) (hQ : ∀ a h, P n a h → Q a h) : Wp (runC (itR lo c n) vs g t m e h) Q E :=
  wp_runC n (fun k => .int (lo + k * c)) P (fun k a h hk _ => itR_in hk) (fun _ _ _ => itR_out) p hs hQ
theorem wp_runCL {xs : List D} {vs : List Nat} {g : D → Sl → EH → R Sl} {t : Sl → EH → R Bool} {m : Sl → EH → R D} {Q : List D → EH → Prop} (P : Nat → List D → EH → Prop) (p : P 0 [] h)
    (hs : ∀ (k : Nat) a h (hk : k < xs.length), P k a h → Wp (g xs[k] (wipeD e vs) h) (fun e1 h1 => Wp (t e1 h1) (fun b h2 => if b = true then Wp (m e1 h2) (fun y h3 => a.length < sizeLine ∧ P (k + 1) (a ++ [y]) h3) nE else P (k + 1) a h2) nE) nE) (hQ : ∀ a h, P xs.length a h → Q a h) : Wp (runC (itL xs) vs g t m e h) Q E :=
  wp_runC xs.length (fun k => xs.getD k .non) P (fun k a h hk _ => by rw [itL_in hk]; simp [hk]) (fun _ _ _ => itL_out) p (fun k a h hk p => by simpa [hk] using hs k a h hk p) hQ
theorem wp_runCH {n : Nat} {xs : List D} {vs : List Nat} {g : D → Sl → EH → R Sl} {t : Sl → EH → R Bool} {m : Sl → EH → R D} {Q : List D → EH → Prop} (P : Nat → List D → EH → Prop) (hx : ∀ k a h, P k a h → h[n]? = some (.lst xs)) (p : P 0 [] h)
    (hs : ∀ (k : Nat) a h (hk : k < xs.length), P k a h → Wp (g xs[k] (wipeD e vs) h) (fun e1 h1 => Wp (t e1 h1) (fun b h2 => if b = true then Wp (m e1 h2) (fun y h3 => a.length < sizeLine ∧ P (k + 1) (a ++ [y]) h3) nE else P (k + 1) a h2) nE) nE) (hQ : ∀ a h, P xs.length a h → Q a h) : Wp (runC (itH n) vs g t m e h) Q E :=
  wp_runC xs.length (fun k => xs.getD k .non) P (fun k a h hk p => by rw [itH_in (hx k a h p) hk]; simp [hk]) (fun a h p => itH_out (hx _ a h p)) p (fun k a h hk p => by simpa [hk] using hs k a h hk p) hQ
end
/-! ### the heap -/
section
variable {h h' h'' : EH} {n m : Nat} {xs ys : List D}
/-- a list of the heap -/
abbrev At (h : EH) (n : Nat) (xs : List D) : Prop := h[n]? = some (.lst xs)
/-- old cells stay -/
def Keep (h h' : EH) : Prop := ∀ (k : Nat) (o : EO), h[k]? = some o → h'[k]? = some o
theorem Keep.refl : Keep h h := fun _ _ q => q
theorem Keep.trans (a : Keep h h') (b : Keep h' h'') : Keep h h'' := fun k o q => b k o (a k o q)
theorem Keep.add {o : List EO} : Keep h (h ++ o) := fun k _ q => by rw [List.getElem?_append_left (List.getElem?_eq_some_iff.mp q).1]; exact q
theorem Keep.len (a : Keep h h') : h.length ≤ h'.length := by
  cases c : h.length with
  | zero => omega
  | succ n =>
    have := a n _ (List.getElem?_eq_getElem (by omega))
    have := (List.getElem?_eq_some_iff.mp this).1
    omega
theorem At.new : At (h ++ [.lst xs]) h.length xs := by unfold At; simp
theorem At.lt (a : At h n xs) : n < h.length := (List.getElem?_eq_some_iff.mp a).1
theorem At.ne (a : At h n xs) : n ≠ h.length := by have := a.lt; omega
theorem At.add {o : List EO} (a : At h n xs) : At (h ++ o) n xs := Keep.add _ _ a
theorem At.set_self (a : At h n xs) : At (h.set n (.lst ys)) n ys := List.getElem?_set_self a.lt
theorem At.set_ne {o : EO} (a : At h n xs) (c : m ≠ n) : At (h.set m o) n xs := by unfold At; rw [List.getElem?_set_ne c]; exact a
/-- a cell set that was made behind h -/
theorem Keep.set {o : EO} (a : Keep h h') (c : h.length ≤ n) : Keep h (h'.set n o) := fun k o q => by
  have := (List.getElem?_eq_some_iff.mp q).1
  rw [List.getElem?_set_ne (by omega)]; exact a k o q
variable {e : Sl} {i : Int} {d : D}
theorem op_ix_at {k : Nat} {x : D} (a : At h n xs) (q : xs[k]? = some x) : opE oIx (.ref n) (.int k) h = .ok x h := op_ix_r a (by rw [atI_n]; exact q)
theorem op_ix_last {x : D} (a : At h n (xs ++ [x])) : opE oIx (.ref n) (.int (-1)) h = .ok x h := op_ix_r a (by
  unfold L2.atI ixN
  rw [if_neg (by omega), if_pos (by simp; omega), Option.bind_some, show (-1 + ((xs ++ [x]).length : Int)).toNat = xs.length by simp; omega]
  simp)
theorem fAppend_r (a : At h n xs) (c : xs.length < sizeLine) : fAppend (.ref n) [d] h = some (.non, h.set n (.lst (xs ++ [d]))) := by
  unfold fAppend; simp only [show h[n]? = some (.lst xs) from a, if_pos c]
theorem fInsert_r {k : Nat} (a : At h n xs) (c : xs.length < sizeLine) (c2 : k < 1000000) : fInsert (.ref n) [.int k, d] h = some (.non, h.set n (.lst (xs.take k ++ [d] ++ xs.drop k))) := by
  unfold fInsert; simp only [show h[n]? = some (.lst xs) from a]; rw [if_pos ⟨c, by omega, by omega⟩, Int.toNat_natCast]
theorem tyN_r (a : At h n xs) : tyN h (.ref n) = some "list" := by unfold tyN; simp only [show h[n]? = some (.lst xs) from a]
@[simp] theorem eMt_r {T : String} {f : D → List D → EH → Option (D × EH)} {mo : Sl → EH → R D} {ms : Sl → EH → R (List D)} : eMt T f mo ms e h = (mo e h).bind fun o h1 => if tyN h1 o = some T then (ms e h1).bind fun ds h2 => opA (f o ds h2) else .bad := rfl
theorem op_add_l (a : At h n xs) (b : At h m ys) (c : xs.length + ys.length ≤ sizeLine) : opE oAdd (.ref n) (.ref m) h = .ok (.ref h.length) (h ++ [.lst (xs ++ ys)]) := by
  unfold opE oAdd; simp only [show h[n]? = some (.lst xs) from a, show h[m]? = some (.lst ys) from b, if_pos c]
def slE (x : D) (lo hi : Option Int) (h : EH) : R D := match oSl x lo hi h with
  | some (d, h4) => .ok d h4
  | none => .bad
@[simp] theorem eSl_r {m : Sl → EH → R D} {ml mh : Sl → EH → R (Option Int)} : eSl m ml mh e h = (m e h).bind fun x h1 => (ml e h1).bind fun l h2 => (mh e h2).bind fun u h3 => slE x l u h3 := rfl
@[simp] theorem pNo_r : pNo e h = .ok none h := rfl
@[simp] theorem pSo_r {m : Sl → EH → R D} : pSo m e h = (m e h).bind asI := rfl
@[simp] theorem asI_i : asI (.int i) h = .ok (some i) h := rfl
theorem oSl_r {lo hi : Option Int} (a : At h n xs) : oSl (.ref n) lo hi h = some (.ref h.length, h ++ [.lst (cutD xs lo hi)]) := by
  unfold oSl; simp only [show h[n]? = some (.lst xs) from a]
theorem slE_r {lo hi : Option Int} (a : At h n xs) : slE (.ref n) lo hi h = .ok (.ref h.length) (h ++ [.lst (cutD xs lo hi)]) := by
  unfold slE; rw [oSl_r a]
@[simp] theorem slE_t {lo hi : Option Int} : slE (.tup xs) lo hi h = .ok (.tup (cutD xs lo hi)) h := rfl
@[simp] theorem oSl_t {lo hi : Option Int} : oSl (.tup xs) lo hi h = some (.tup (cutD xs lo hi), h) := rfl
theorem sIx_some {L d k : Nat} : HT.sIx L d (some (k : Int)) = min k L := by
  unfold HT.sIx
  simp
  omega
theorem cutD_lo {k : Nat} : cutD xs (some (k : Int)) none = xs.drop k := by
  unfold cutD
  rw [sIx_some, show HT.sIx xs.length xs.length none = xs.length from rfl, List.take_of_length_le (by simp)]
  by_cases c : k ≤ xs.length
  · rw [Nat.min_eq_left c]
  · rw [Nat.min_eq_right (by omega), List.drop_length, List.drop_of_length_le (by omega)]
theorem cutD_hi {k : Nat} : cutD xs none (some (k : Int)) = xs.take k := by
  unfold cutD
  rw [sIx_some, show HT.sIx xs.length 0 none = 0 from rfl, List.drop_zero, Nat.sub_zero]
  by_cases c : k ≤ xs.length
  · rw [Nat.min_eq_left c]
  · rw [Nat.min_eq_right (by omega), List.take_length, List.take_of_length_le (by omega)]
@[simp] theorem sAug_u {i : Nat} {f : D → D → EH → Option (D × EH)} {m : Sl → EH → R D} : sAug i f m e h = liftS (eVar i e h) e fun d _ => liftS (m e h) e fun y h1 => liftS (opE f d y h1) e fun z h2 => .nx (e.set i (some z)) h2 := by
  unfold sAug eVar
  rcases e[i]? with _ | _ | d
  · rfl
  · rfl
  · show liftS (m e h) e _ = liftS (m e h) e _
    congr 1
    funext y h1
    unfold opE
    cases f d y h1 with
    | none => rfl
    | some r => rfl
@[simp] theorem op_oI {f : Int → Int → Int} {i j : Int} : opE (oI fun i j => some (f i j)) (.int i) (.int j) h = .ok (.int (f i j)) h := rfl
/-- the ends of slices and of sums of lists, the new list by its place -/
theorem wp_lo {k : Nat} {Q : D → EH → Prop} {E : Ex → EH → Prop} (a : At h n xs) (q : ∀ m h', Keep h h' → h.length ≤ m → At h' m (xs.drop k) → Q (.ref m) h') : Wp (slE (.ref n) (some (k : Int)) none h) Q E := by
  rw [slE_r a, cutD_lo]
  exact q _ _ Keep.add (Nat.le_refl _) At.new
theorem wp_hi {k : Nat} {Q : D → EH → Prop} {E : Ex → EH → Prop} (a : At h n xs) (q : ∀ m h', Keep h h' → h.length ≤ m → At h' m (xs.take k) → Q (.ref m) h') : Wp (slE (.ref n) none (some (k : Int)) h) Q E := by
  rw [slE_r a, cutD_hi]
  exact q _ _ Keep.add (Nat.le_refl _) At.new
theorem wp_cat {Q : D → EH → Prop} {E : Ex → EH → Prop} (a : At h n xs) (b : At h m ys) (c : xs.length + ys.length ≤ 1000) (q : ∀ m h', Keep h h' → h.length ≤ m → At h' m (xs ++ ys) → Q (.ref m) h') : Wp (opE oAdd (.ref n) (.ref m) h) Q E := by
  rw [op_add_l a b (sz_ok c)]
  exact q _ _ Keep.add (Nat.le_refl _) At.new
@[simp] theorem eLenL_r {m : Sl → EH → R (List D)} : eLenL m e h = (m e h).bind fun ds h1 => .ok (.int ds.length) h1 := rfl
end
end Sm
namespace Sm
open PySem PySem.Spec PyProof.Rows L2
/-! ### values of a Lean type -/
class Vd (α : Type) [DecidableEq α] where
  d : α → D
  p : α → PyData
  dep : Nat
  py : ∀ (n : Nat) (h : EH) (a : α), dep < n → pyOf n h (d a) = some (p a)
  lay : ∀ a, (p a).canLay0 = true
  depth : ∀ a, (p a).depth ≤ dep
  eqv : ∀ a b, PyData.eqv (p a) (p b) = decide (a = b)
/-- a ratio as a value -/
def rt (x : Rat) : D := .tup [.int x.num, .int x.den]
instance : Vd Int where
  d := .int
  p := .int
  dep := 0
  py n h a hn := by cases n with
    | zero => omega
    | succ n => rfl
  lay _ := rfl
  depth _ := Nat.le_refl _
  eqv a b := by simp only [PyData.eqv]; exact Bool.beq_eq_decide_eq a b
theorem allO_map {α : Type} {f : D → Option PyData} {g : α → D} {k : α → PyData} (q : ∀ a, f (g a) = some (k a)) : ∀ xs : List α, allO f (xs.map g) = some (xs.map k)
  | [] => rfl
  | x :: xs => by
    rw [List.map_cons, allO, q x]
    simp only [allO_map q xs, Option.map_some, List.map_cons]
section
variable {α : Type} [DecidableEq α] [Vd α] {β : Type} [DecidableEq β] [Vd β]
theorem lay_map : ∀ xs : List α, PyData.canLayAll0 (xs.map Vd.p) = true
  | [] => rfl
  | x :: xs => by rw [List.map_cons, PyData.canLayAll0, Vd.lay x, lay_map xs]; rfl
theorem depth_map : ∀ xs : List α, PyData.depthAll (xs.map Vd.p) ≤ Vd.dep α
  | [] => Nat.zero_le _
  | x :: xs => by
    rw [List.map_cons, PyData.depthAll]
    exact Nat.max_le.mpr ⟨Vd.depth x, depth_map xs⟩
theorem eqv_map : ∀ xs ys : List α, PyData.eqvAll (xs.map Vd.p) (ys.map Vd.p) = decide (xs = ys)
  | [], [] => by simp only [List.map_nil, PyData.eqvAll, decide_true]
  | [], _ :: _ => by simp [PyData.eqvAll]
  | _ :: _, [] => by simp [PyData.eqvAll]
  | x :: xs, y :: ys => by
    rw [List.map_cons, List.map_cons, PyData.eqvAll, Vd.eqv x y, eqv_map xs ys, ← Bool.decide_and]
    exact decide_eq_decide.mpr (by rw [List.cons.injEq])
instance : Vd (α × β) where
  d a := .tup [Vd.d a.1, Vd.d a.2]
  p a := .tuple [Vd.p a.1, Vd.p a.2]
  dep := max (Vd.dep α) (Vd.dep β) + 1
  py n h a hn := by
    cases n with
    | zero => omega
    | succ n => simp only [pyOf, allO, Vd.py n h a.1 (by omega), Vd.py n h a.2 (by omega), Option.map_some]
  lay a := by simp [PyData.canLay0, PyData.canLayAll0, Vd.lay]
  depth a := by
    simp only [PyData.depth, PyData.depthAll]
    have := Vd.depth a.1
    have := Vd.depth a.2
    omega
  eqv a b := by
    simp only [PyData.eqv, PyData.eqvAll]
    rw [Vd.eqv, Vd.eqv, Bool.and_true, ← Bool.decide_and]
    exact decide_eq_decide.mpr ⟨fun e => Prod.ext e.1 e.2, fun e => by rw [e]; exact ⟨rfl, rfl⟩⟩
instance : Vd Rat where
  d := rt
  p x := .tuple [.int x.num, .int x.den]
  dep := 1
  py n h a hn := by
    match n, hn with
    | n + 2, _ => rfl
  lay _ := rfl
  depth _ := Nat.le_refl _
  eqv a b := by
    simp only [PyData.eqv, PyData.eqvAll]
    rw [Bool.and_true, Bool.beq_eq_decide_eq, Bool.beq_eq_decide_eq, ← Bool.decide_and]
    exact decide_eq_decide.mpr ⟨fun e => Rat.ext e.1 (by have := e.2; omega), fun e => by rw [e]; exact ⟨rfl, rfl⟩⟩
/-- a tuple of any length -/
instance : Vd (List α) where
  d xs := .tup (xs.map Vd.d)
  p xs := .tuple (xs.map Vd.p)
  dep := Vd.dep α + 1
  py n h a hn := by
    cases n with
    | zero => omega
    | succ n => simp only [pyOf, allO_map (fun x => Vd.py n h x (by omega)) a, Option.map_some]
  lay a := by simp only [PyData.canLay0]; exact lay_map a
  depth a := by
    simp only [PyData.depth]
    have := depth_map a
    omega
  eqv a b := by simp only [PyData.eqv]; exact eqv_map a b
theorem pyEq_gen {h : EH} {x y : D} {a b : PyData} (q1 : pyOf 70 h x = some a) (q2 : pyOf 70 h y = some b) (s1 : SeqAt.shaped a = true) (s2 : SeqAt.shaped b = true) : pyEq h x y = some (PyData.eqv a b) := by
  unfold pyEq
  split
  · cases q1; cases q2; simp only [PyData.eqv]; rw [Bool.beq_eq_decide_eq]
  · cases q1; cases q2; simp only [PyData.eqv]; rw [Bool.beq_eq_decide_eq]
  · simp only [q1, q2, s1, s2, and_self, if_true]
theorem vd_shaped (c : Vd.dep α ≤ 64) (a : α) : SeqAt.shaped (Vd.p a) = true := by
  unfold SeqAt.shaped
  rw [Vd.lay a, Bool.true_and]
  exact decide_eq_true (Nat.le_trans (Vd.depth a) c)
theorem vl_shaped (c : Vd.dep α ≤ 63) (xs : List α) : SeqAt.shaped (.list (xs.map Vd.p)) = true := by
  unfold SeqAt.shaped
  rw [PyData.canLay0, lay_map xs, Bool.true_and, PyData.depth]
  have := depth_map xs
  exact decide_eq_true (by omega)
theorem py_list' {h : EH} {n k : Nat} {xs : List α} (c : Vd.dep α < k) (q : At h n (xs.map Vd.d)) : pyOf (k + 1) h (.ref n) = some (.list (xs.map Vd.p)) := by
  simp only [pyOf, show h[n]? = some (.lst (xs.map Vd.d)) from q, allO_map (fun x => Vd.py k h x c) xs, Option.map_some]
theorem py_list {h : EH} {n : Nat} {xs : List α} (c : Vd.dep α < 69) (q : At h n (xs.map Vd.d)) : pyOf 70 h (.ref n) = some (.list (xs.map Vd.p)) := py_list' c q
theorem pyEq_v {h : EH} (a b : α) (c : Vd.dep α ≤ 60 := by decide) : pyEq h (Vd.d a) (Vd.d b) = some (decide (a = b)) := by
  rw [pyEq_gen (Vd.py 70 h a (by omega)) (Vd.py 70 h b (by omega)) (vd_shaped (by omega) a) (vd_shaped (by omega) b), Vd.eqv]
theorem pyEq_l {h : EH} {n m : Nat} {xs ys : List α} (q : At h n (xs.map Vd.d)) (q2 : At h m (ys.map Vd.d)) (c : Vd.dep α ≤ 60 := by decide) : pyEq h (.ref n) (.ref m) = some (decide (xs = ys)) := by
  rw [pyEq_gen (py_list (by omega) q) (py_list (by omega) q2) (vl_shaped (by omega) xs) (vl_shaped (by omega) ys), PyData.eqv, eqv_map]
theorem any_map (a : α) : ∀ xs : List α, ((xs.map Vd.p).any fun z => PyData.eqv z (Vd.p a)) = decide (a ∈ xs)
  | [] => rfl
  | x :: xs => by
    rw [List.map_cons, List.any_cons, Vd.eqv, any_map a xs, ← Bool.decide_or]
    exact decide_eq_decide.mpr (by rw [List.mem_cons]; exact ⟨fun z => z.imp Eq.symm id, fun z => z.imp Eq.symm id⟩)
theorem pyIn_l {h : EH} {n : Nat} {a : α} {xs : List α} (q : At h n (xs.map Vd.d)) (c : Vd.dep α ≤ 60 := by decide) : pyIn h (Vd.d a) (.ref n) = some (decide (a ∈ xs)) := by
  unfold pyIn
  simp only [Vd.py 70 h a (by omega), py_list (by omega) q, vd_shaped (by omega) a, vl_shaped (by omega) xs, and_self, if_true, any_map]
theorem op_eq_v {h : EH} (a b : α) (c : Vd.dep α ≤ 60 := by decide) : opE oEq (Vd.d a) (Vd.d b) h = .ok (.bl (decide (a = b))) h := by
  unfold opE oEq; rw [pyEq_v a b c]; rfl
theorem op_ne_v {h : EH} (a b : α) (c : Vd.dep α ≤ 60 := by decide) : opE oNe (Vd.d a) (Vd.d b) h = .ok (.bl (!decide (a = b))) h := by
  unfold opE oNe; rw [pyEq_v a b c]; rfl
theorem op_eq_l {h : EH} {n m : Nat} {xs ys : List α} (q : At h n (xs.map Vd.d)) (q2 : At h m (ys.map Vd.d)) (c : Vd.dep α ≤ 60 := by decide) : opE oEq (.ref n) (.ref m) h = .ok (.bl (decide (xs = ys))) h := by
  unfold opE oEq; rw [pyEq_l q q2 c]; rfl
theorem op_ne_l {h : EH} {n m : Nat} {xs ys : List α} (q : At h n (xs.map Vd.d)) (q2 : At h m (ys.map Vd.d)) (c : Vd.dep α ≤ 60 := by decide) : opE oNe (.ref n) (.ref m) h = .ok (.bl (!decide (xs = ys))) h := by
  unfold opE oNe; rw [pyEq_l q q2 c]; rfl
theorem op_in_l {h : EH} {n : Nat} {a : α} {xs : List α} (q : At h n (xs.map Vd.d)) (c : Vd.dep α ≤ 60 := by decide) : opE oIn (Vd.d a) (.ref n) h = .ok (.bl (decide (a ∈ xs))) h := by
  unfold opE oIn; rw [pyIn_l q c]; rfl
theorem op_nin_l {h : EH} {n : Nat} {a : α} {xs : List α} (q : At h n (xs.map Vd.d)) (c : Vd.dep α ≤ 60 := by decide) : opE oNotIn (Vd.d a) (.ref n) h = .ok (.bl (!decide (a ∈ xs))) h := by
  unfold opE oNotIn; rw [pyIn_l q c]; rfl
end
@[simp] theorem rt_0 {x : Rat} {h : EH} : opE oIx (rt x) (.int 0) h = .ok (.int x.num) h := op_ix_t0
@[simp] theorem rt_1 {x : Rat} {h : EH} : opE oIx (rt x) (.int 1) h = .ok (.int x.den) h := op_ix_t1
@[simp] theorem rt_len {x : Rat} {h : EH} : fLen [rt x] h = some (.int 2, h) := rfl
@[simp] theorem rt_isi {x : Rat} {h : EH} : fIsi [rt x, .ty "tuple"] h = some (.bl true, h) := isi_tt
theorem rt_int (i : Int) : D.tup [.int i, .int 1] = rt i := rfl
theorem rt_eq {x y : Rat} {h : EH} : opE oEq (rt x) (rt y) h = .ok (.bl (decide (x = y))) h := op_eq_v x y (by decide)
theorem rt_ne {x y : Rat} {h : EH} : opE oNe (rt x) (rt y) h = .ok (.bl (!decide (x = y))) h := op_ne_v x y (by decide)
/-! ### ranges by a step -/
theorem asR1_i {j : Int} {h : EH} (h0 : 0 ≤ j) (h1 : j ≤ 1000000) : asR1 [.int j] h = .ok (itR 0 1 j.toNat) h := asR1_r (by omega) (by omega)
theorem asR1_n {k : Nat} {h : EH} (h1 : k ≤ 1000000) : asR1 [.int (k : Int)] h = .ok (itR 0 1 k) h := asR1_r (by omega) (by omega)
theorem asR3_r {i j : Int} {c : Int} {n : Nat} {h : EH} (hc : c ≠ 0) (h1 : c.natAbs < 1000) (q : Builtin.Range.small i j c = true) (z : Builtin.Range.rangeSize i j c = n) : asR3 [.int i, .int j, .int c] h = .ok (itR i c n) h := by
  unfold asR3
  simp only
  rw [if_pos (show rg3 i j c from ⟨hc, by omega, q, by omega⟩), z, Int.toNat_natCast]
theorem asR3_2 {L : Nat} {h : EH} (hL : L < 2 ^ 60) (hp : 0 < L) : asR3 [.int 0, .int ((L : Int) - 1), .int 2] h = .ok (itR 0 2 (L / 2)) h := by
  have z : Builtin.Range.rangeSize 0 ((L : Int) - 1) 2 = ((L / 2 : Nat) : Int) := by
    unfold Builtin.Range.rangeSize
    rw [if_pos (by decide)]
    split <;> omega
  refine asR3_r (by decide) (by decide) ?_ z
  unfold Builtin.Range.small
  rw [z]
  have e1 : (if (2 : Int) > 0 then Builtin.Range.rangeFitsLong ((L : Int) - 1 + (2 - 1)) else Builtin.Range.rangeFitsLong ((L : Int) - 1 + (2 + 1))) = Builtin.Range.rangeFitsLong ((L : Int) - 1 + (2 - 1)) := if_pos (by decide)
  rw [e1]
  simp only [Builtin.Range.rangeFitsLong, Bool.and_eq_true, Bool.or_eq_true, decide_eq_true_eq, beq_iff_eq]
  omega
end Sm
namespace Sm
open PySem PySem.Spec PyProof.Rows L2
section
variable {e : Sl} {h : EH} {d : D} {i : Int} {b : Bool} {x : Str} {n m : Nat} {xs ys : List D} {E : Ex → EH → Prop}
@[simp] theorem sRaise_r {x : Str} : sRaise x e h = .exc ⟨x⟩ e h := rfl
theorem sTry_exc {xs : List Str} {cn x : Str} {i : Nat} {b : Sl → EH → RS} {s : Str → Addr → Sl → EH → RS} {e' : Sl} {h' : EH} {r : RS} (hb : b e h = .exc ⟨x⟩ e' h') (hx : x ∈ xs) (hs : exSub x cn = true) (hr : ∀ a, clr i (s x a (e'.set i (some (.exn x a))) h') = r) : sTry xs cn i b s e h = r := by
  unfold sTry
  rw [hb]
  simp only [hx, hs, if_true]
  exact onceA_eq hr
theorem sTry_rt {xs : List Str} {cn : Str} {i : Nat} {b : Sl → EH → RS} {s : Str → Addr → Sl → EH → RS} {d : D} {h' : EH} (hb : b e h = .rt d h') : sTry xs cn i b s e h = .rt d h' := by unfold sTry; rw [hb]
theorem sTry_nx {xs : List Str} {cn : Str} {i : Nat} {b : Sl → EH → RS} {s : Str → Addr → Sl → EH → RS} {e' : Sl} {h' : EH} (hb : b e h = .nx e' h') : sTry xs cn i b s e h = .nx e' h' := by unfold sTry; rw [hb]
@[simp] theorem clr_rt {i : Nat} : clr i (.rt d h) = .rt d h := rfl
@[simp] theorem clr_nx {i : Nat} : clr i (.nx e h) = .nx (e.set i none) h := rfl
@[simp] theorem eBad_r : eBad e h = .bad := rfl
@[simp] theorem lBad_r : lBad e h = .bad := rfl
@[simp] theorem op_is_n : opE oIs d .non h = .ok (.bl (isNon d)) h := by cases d <;> rfl
@[simp] theorem op_is_b : opE oIs d (.bl b) h = .ok (.bl (isBl b d)) h := by cases d <;> rfl
@[simp] theorem op_isn_n : opE oIsNot d .non h = .ok (.bl (!isNon d)) h := by cases d <;> rfl
@[simp] theorem op_isn_b : opE oIsNot d (.bl b) h = .ok (.bl (!isBl b d)) h := by cases d <;> rfl
@[simp] theorem isNon_n : isNon .non = true := rfl
@[simp] theorem isNon_i : isNon (.int i) = false := rfl
@[simp] theorem isNon_b : isNon (.bl b) = false := rfl
@[simp] theorem isNon_s : isNon (.str x) = false := rfl
@[simp] theorem isNon_t : isNon (.tup xs) = false := rfl
@[simp] theorem isNon_r : isNon (.ref n) = false := rfl
@[simp] theorem isNon_rt {x : Rat} : isNon (rt x) = false := rfl
@[simp] theorem isBl_n : isBl b .non = false := rfl
@[simp] theorem isBl_i : isBl b (.int i) = false := rfl
@[simp] theorem isBl_b {a : Bool} : isBl b (.bl a) = decide (a = b) := rfl
@[simp] theorem isBl_s : isBl b (.str x) = false := rfl
@[simp] theorem isBl_t : isBl b (.tup xs) = false := rfl
@[simp] theorem isBl_r : isBl b (.ref n) = false := rfl
@[simp] theorem isBl_rt {x : Rat} : isBl b (rt x) = false := rfl
@[simp] theorem bTru_r {m : Sl → EH → R D} : bTru m e h = (m e h).bind asT := rfl
@[simp] theorem asT_b : asT (.bl b) h = .ok b h := rfl
@[simp] theorem asT_n : asT .non h = .ok false h := rfl
@[simp] theorem asT_i : asT (.int i) h = .ok (i != 0) h := rfl
@[simp] theorem asT_t : asT (.tup xs) h = .ok (!xs.isEmpty) h := rfl
@[simp] theorem asT_o : asT (.rol xs) h = .ok (!xs.isEmpty) h := rfl
theorem asT_r (a : At h n xs) : asT (.ref n) h = .ok (!xs.isEmpty) h := by unfold asT; simp only [show h[n]? = some (.lst xs) from a]
theorem op_rep_r {k : Nat} (a : At h n xs) (c : k ≤ 1000000) (c2 : xs.length * k ≤ 1000) : opE oRep (.ref n) (.int k) h = .ok (.ref h.length) (h ++ [.lst (List.replicate k xs).flatten]) := by
  unfold opE oRep
  simp only [show h[n]? = some (.lst xs) from a]
  rw [if_pos (show rg1 (k : Int) from ⟨by omega, by omega⟩), Int.toNat_natCast, if_pos (sz_ok c2)]
@[simp] theorem fTuple_t : fTuple [.tup xs] h = some (.tup xs, h) := rfl
@[simp] theorem fTuple_o : fTuple [.rol xs] h = some (.tup xs, h) := rfl
theorem fTuple_r (a : At h n xs) : fTuple [.ref n] h = some (.tup xs, h) := by unfold fTuple; simp only [show h[n]? = some (.lst xs) from a]
@[simp] theorem eTupL_r {m : Sl → EH → R (List D)} : eTupL m e h = (m e h).bind fun ds h1 => .ok (.tup ds) h1 := rfl
@[simp] theorem gUnp_t {k : Nat} {gs : List D → Sl → EH → R Sl} : gUnp k gs (.tup xs) e h = if xs.length = k then gs xs e h else .bad := rfl
@[simp] theorem gUnp_rt {gs : List D → Sl → EH → R Sl} {x : Rat} : gUnp 2 gs (rt x) e h = gs [.int x.num, .int x.den] e h := rfl
theorem gUnp_r {k : Nat} {gs : List D → Sl → EH → R Sl} (a : At h n xs) : gUnp k gs (.ref n) e h = if xs.length = k then gs xs e h else .bad := by unfold gUnp; simp only [show h[n]? = some (.lst xs) from a]
@[simp] theorem eRev_r {m : Sl → EH → R D} : eRev m e h = (m e h).bind asRev := rfl
theorem asRev_r (a : At h n xs) : asRev (.ref n) h = .ok (.ref h.length) (h ++ [.lst xs.reverse]) := by unfold asRev; simp only [show h[n]? = some (.lst xs) from a]
theorem asZip_r (a : At h n xs) (b : At h m ys) : asZip [.ref n, .ref m] h = .ok (itZ n m) h := by unfold asZip; simp only [show h[n]? = some (.lst xs) from a, show h[m]? = some (.lst ys) from b]
theorem asEnum_r (a : At h n xs) : asEnum [.ref n] h = .ok (itE n) h := by unfold asEnum; simp only [show h[n]? = some (.lst xs) from a]
theorem itZ_in {k : Nat} {x y : D} (a : At h n xs) (b : At h m ys) (p : xs[k]? = some x) (q : ys[k]? = some y) : itZ n m k h = some (some (.tup [x, y])) := by
  unfold itZ; simp only [show h[n]? = some (.lst xs) from a, show h[m]? = some (.lst ys) from b, p, q]
theorem itZ_out {k : Nat} (a : At h n xs) (b : At h m ys) (p : xs.length ≤ k) : itZ n m k h = some none := by
  unfold itZ; simp only [show h[n]? = some (.lst xs) from a, show h[m]? = some (.lst ys) from b, List.getElem?_eq_none p]
theorem itE_in {k : Nat} {x : D} (a : At h n xs) (p : xs[k]? = some x) : itE n k h = some (some (.tup [.int k, x])) := by
  unfold itE; simp only [show h[n]? = some (.lst xs) from a, p]
theorem itE_out {k : Nat} (a : At h n xs) (p : xs.length ≤ k) : itE n k h = some none := by
  unfold itE; simp only [show h[n]? = some (.lst xs) from a, List.getElem?_eq_none p]
theorem intsD_map : ∀ ns : List Int, intsD (ns.map .int) = some ns
  | [] => rfl
  | x :: xs => by
    have ih := intsD_map xs
    unfold intsD at ih ⊢
    rw [List.map_cons, allO, ih]
    rfl
@[simp] theorem eLI_r {f : List Int → Int} {m : Sl → EH → R (List D)} : eLI f m e h = (m e h).bind fun ds h1 => match intsD ds with
  | some ns => if 0 < ns.length then .ok (.int (f ns)) h1 else .bad
  | none => .bad := rfl
theorem blsD_map : ∀ bs : List Bool, blsD (bs.map .bl) = some bs
  | [] => rfl
  | x :: xs => by
    have ih := blsD_map xs
    unfold blsD at ih ⊢
    rw [List.map_cons, allO, ih]
    rfl
end
/-! loops turn by turn -/
def contF (r : RS) (k : Sl → EH → RS) : RS := match r with
  | .nx e h => k e h
  | .ct e h => k e h
  | .bk e h => .nx e h
  | r => r
@[simp] theorem Ws_cont {N B C : Sl → EH → Prop} {T : D → EH → Prop} {X : Ex → Sl → EH → Prop} {r : RS} {k : Sl → EH → RS} : Ws (contF r k) N T B C X = Ws r (fun e h => Ws (k e h) N T B C X) T N (fun e h => Ws (k e h) N T B C X) X := by cases r <;> rfl
@[simp] theorem contF_nx {e : Sl} {h : EH} {k : Sl → EH → RS} : contF (.nx e h) k = k e h := rfl
@[simp] theorem contF_rt {d : D} {h : EH} {k : Sl → EH → RS} : contF (.rt d h) k = .rt d h := rfl
@[simp] theorem contF_ite {c : Prop} [Decidable c] {a b : RS} {k : Sl → EH → RS} : contF (if c then a else b) k = if c then contF a k else contF b k := by split <;> rfl
noncomputable def runFk (it : Itd) (g : D → Sl → EH → R Sl) (b : Sl → EH → RS) (k : Nat) (e : Sl) (h : EH) : RS := (loopW (stepF it g b) (k, e, h)).getD .bad
theorem runF_k {it : Itd} {g : D → Sl → EH → R Sl} {b : Sl → EH → RS} {e : Sl} {h : EH} : runF it g b e h = runFk it g b 0 e h := rfl
theorem runFk_in {it : Itd} {g : D → Sl → EH → R Sl} {b : Sl → EH → RS} {k : Nat} {e : Sl} {h : EH} {d : D} (q : it k h = some (some d)) : runFk it g b k e h = liftS (g d e h) e fun e1 h1 => contF (b e1 h1) (runFk it g b (k + 1)) := by
  unfold runFk
  cases q1 : g d e h with
  | bad => rw [loopW_done (r := .bad) (by simp only [stepF, q, q1])]; rfl
  | exc x h1 => rw [loopW_done (r := .exc x e h1) (by simp only [stepF, q, q1])]; rfl
  | ok e1 h1 =>
    cases q2 : b e1 h1 with
    | bad => rw [loopW_done (r := .bad) (by simp only [stepF, q, q1, q2])]; simp only [liftS_ok, q2]; rfl
    | nx e2 h2 => rw [loopW_more (s' := (k + 1, e2, h2)) (by simp only [stepF, q, q1, q2])]; simp only [liftS_ok, q2]; rfl
    | ct e2 h2 => rw [loopW_more (s' := (k + 1, e2, h2)) (by simp only [stepF, q, q1, q2])]; simp only [liftS_ok, q2]; rfl
    | bk e2 h2 => rw [loopW_done (r := .nx e2 h2) (by simp only [stepF, q, q1, q2])]; simp only [liftS_ok, q2]; rfl
    | rt d h2 => rw [loopW_done (r := .rt d h2) (by simp only [stepF, q, q1, q2])]; simp only [liftS_ok, q2]; rfl
    | exc x e2 h2 => rw [loopW_done (r := .exc x e2 h2) (by simp only [stepF, q, q1, q2])]; simp only [liftS_ok, q2]; rfl
theorem runFk_out {it : Itd} {g : D → Sl → EH → R Sl} {b : Sl → EH → RS} {k : Nat} {e : Sl} {h : EH} (q : it k h = some none) : runFk it g b k e h = .nx e h := by
  unfold runFk
  rw [loopW_done (r := .nx e h) (by simp only [stepF, q])]; rfl
theorem runFk_R {lo c : Int} {n : Nat} {g : D → Sl → EH → R Sl} {b : Sl → EH → RS} {k : Nat} {e : Sl} {h : EH} : runFk (itR lo c n) g b k e h = if k < n then liftS (g (.int (lo + k * c)) e h) e fun e1 h1 => contF (b e1 h1) (runFk (itR lo c n) g b (k + 1)) else .nx e h := by
  by_cases l : k < n
  · rw [if_pos l]; exact runFk_in (itR_in l)
  · rw [if_neg l]; exact runFk_out (by unfold itR; rw [if_neg l])
theorem runFk_L {xs : List D} {g : D → Sl → EH → R Sl} {b : Sl → EH → RS} {k : Nat} {e : Sl} {h : EH} : runFk (itL xs) g b k e h = match xs[k]? with
    | some d => liftS (g d e h) e fun e1 h1 => contF (b e1 h1) (runFk (itL xs) g b (k + 1))
    | none => .nx e h := by
  cases q : xs[k]? with
  | some d => exact runFk_in (by unfold itL; rw [q])
  | none => exact runFk_out (by unfold itL; rw [q])
theorem runFk_H {m : Nat} {xs : List D} {g : D → Sl → EH → R Sl} {b : Sl → EH → RS} {k : Nat} {e : Sl} {h : EH} (a : At h m xs) : runFk (itH m) g b k e h = match xs[k]? with
    | some d => liftS (g d e h) e fun e1 h1 => contF (b e1 h1) (runFk (itH m) g b (k + 1))
    | none => .nx e h := by
  cases q : xs[k]? with
  | some d => exact runFk_in (by unfold itH; simp only [show h[m]? = some (.lst xs) from a, q])
  | none => exact runFk_out (by unfold itH; simp only [show h[m]? = some (.lst xs) from a, q])
/-! comprehensions that map -/
section
variable {e : Sl} {h : EH} {i n : Nat} {xs : List D} {m : Sl → EH → R D} {Q : List D → EH → Prop} {E : Ex → EH → Prop}
theorem take_snoc {α : Type} {xs : List α} {k : Nat} (hk : k < xs.length) : xs.take (k + 1) = xs.take k ++ [xs[k]] := by
  rw [List.take_add_one, List.getElem?_eq_getElem hk]; rfl
theorem wp_mapL {f : D → D} (hl : xs.length ≤ 1000) (hm : ∀ d ∈ xs, m ((e.set i none).set i (some d)) h = .ok (f d) h) (q : Q (xs.map f) h) : Wp (runC (itL xs) [i] (gVar i) bYes m e h) Q E :=
  wp_runCL (fun k a h' => h' = h ∧ a = (xs.map f).take k) ⟨rfl, by simp⟩ (by
    rintro k a h' hk ⟨rfl, rfl⟩
    simp only [gVar_r, wipeD, Wp_ok, bYes_r, if_true, hm _ (List.getElem_mem hk)]
    refine ⟨sz_lt (by simp; omega), trivial, ?_⟩
    rw [take_snoc (by simpa using hk), List.getElem_map]) (by
    rintro a h' ⟨rfl, rfl⟩
    rw [List.take_of_length_le (by simp)]; exact q)
theorem wp_mapH {f : D → D} (a : At h n xs) (hl : xs.length ≤ 1000) (hm : ∀ d ∈ xs, m ((e.set i none).set i (some d)) h = .ok (f d) h) (q : Q (xs.map f) h) : Wp (runC (itH n) [i] (gVar i) bYes m e h) Q E :=
  wp_runCH (xs := xs) (fun k a h' => h' = h ∧ a = (xs.map f).take k) (fun _ _ _ p => by rw [p.1]; exact a) ⟨rfl, by simp⟩ (by
    rintro k a h' hk ⟨rfl, rfl⟩
    simp only [gVar_r, wipeD, Wp_ok, bYes_r, if_true, hm _ (List.getElem_mem hk)]
    refine ⟨sz_lt (by simp; omega), trivial, ?_⟩
    rw [take_snoc (by simpa using hk), List.getElem_map]) (by
    rintro a h' ⟨rfl, rfl⟩
    rw [List.take_of_length_le (by simp)]; exact q)
theorem wp_mapR {f : Nat → D} {k : Nat} (hl : k ≤ 1000) (hm : ∀ j, j < k → m ((e.set i none).set i (some (.int j))) h = .ok (f j) h) (q : Q ((List.range k).map f) h) : Wp (runC (itR 0 1 k) [i] (gVar i) bYes m e h) Q E :=
  wp_runCR (fun j a h' => h' = h ∧ a = (List.range j).map f) ⟨rfl, rfl⟩ (by
    rintro j a h' hk ⟨rfl, rfl⟩
    have := hm j hk
    rw [show (j : Int) = 0 + j * 1 by omega] at this
    simp only [gVar_r, wipeD, Wp_ok, bYes_r, if_true, this]
    refine ⟨sz_lt (by simp; omega), trivial, ?_⟩
    rw [List.range_succ, List.map_append]; rfl) (by
    rintro a h' ⟨rfl, rfl⟩
    exact q)
end
/-- comprehensions that make a list each time -/
theorem wp_allocH {e : Sl} {h : EH} {i n : Nat} {xs : List D} {F : D → List D} {m : Sl → EH → R D} {Q : List D → EH → Prop} {E : Ex → EH → Prop} (a : At h n xs) (hl : xs.length ≤ 1000)
    (hm : ∀ d ∈ xs, ∀ h1, Keep h h1 → Wp (m ((e.set i none).set i (some d)) h1) (fun y h2 => Keep h1 h2 ∧ ∃ r, y = .ref r ∧ h1.length ≤ r ∧ At h2 r (F d)) nE)
    (q : ∀ (rs : List Nat) h1, Keep h h1 → (∀ r ∈ rs, h.length ≤ r) → rs.map (fun r => h1[r]?) = xs.map (fun d => some (.lst (F d))) → Q (rs.map .ref) h1) : Wp (runC (itH n) [i] (gVar i) bYes m e h) Q E :=
  wp_runCH (xs := xs) (fun k acc h1 => Keep h h1 ∧ ∃ rs : List Nat, acc = rs.map .ref ∧ (∀ r ∈ rs, h.length ≤ r) ∧ rs.map (fun r => h1[r]?) = (xs.take k).map (fun d => some (.lst (F d)))) (fun _ _ _ p => p.1 _ _ a) ⟨Keep.refl, [], rfl, by simp, by simp⟩ (by
    rintro k acc h1 hk ⟨kp, rs, rfl, lo, eq⟩
    have w := hm _ (List.getElem_mem hk) h1 kp
    simp only [gVar_r, wipeD, Wp_ok, bYes_r, if_true]
    refine w.mono ?_
    rintro y h2 ⟨k2, r, rfl, hr, ar⟩
    have ll := congrArg List.length eq
    simp at ll
    refine ⟨sz_lt (by simp; omega), kp.trans k2, rs ++ [r], by simp, ?_, ?_⟩
    · intro r' hr'
      rcases List.mem_append.mp hr' with hr' | hr'
      · exact lo r' hr'
      · rw [List.mem_singleton.mp hr']; have := kp.len; omega
    · rw [take_snoc hk, List.map_append, List.map_append, ← eq]
      have old : ∀ r' ∈ rs, h2[r']? = h1[r']? := fun r' hr' => by
        have : h1[r']? ∈ rs.map (fun r => h1[r]?) := List.mem_map.mpr ⟨r', hr', rfl⟩
        rw [eq] at this
        obtain ⟨d, _, hd⟩ := List.mem_map.mp this
        rw [← hd]
        exact k2 _ _ hd.symm
      rw [List.map_congr_left old]
      simp only [List.map_cons, List.map_nil]
      rw [show h2[r]? = some (.lst (F xs[k])) from ar]) (by
    rintro acc h1 ⟨kp, rs, rfl, lo, eq⟩
    rw [List.take_of_length_le (Nat.le_refl _)] at eq
    exact q rs h1 kp lo eq)
section
variable {h : EH} {a b : Bool}
@[simp] theorem op_eq_b : opE oEq (.bl a) (.bl b) h = .ok (.bl (decide (a = b))) h := by cases a <;> cases b <;> rfl
@[simp] theorem op_ne_b : opE oNe (.bl a) (.bl b) h = .ok (.bl (!decide (a = b))) h := by cases a <;> cases b <;> rfl
@[simp] theorem isi_bb : fIsi [.bl a, .ty "bool"] h = some (.bl true, h) := by simp [fIsi, tyN, kit_bb]
@[simp] theorem isi_bi : fIsi [.bl a, .ty "int"] h = some (.bl true, h) := by simp [fIsi, tyN, kit_bi]
@[simp] theorem szl_1 : 1 ≤ sizeLine := by decide +kernel
@[simp] theorem szl_2 : 2 ≤ sizeLine := by decide +kernel
@[simp] theorem szl_3 : 3 ≤ sizeLine := by decide +kernel
@[simp] theorem szl_4 : 4 ≤ sizeLine := by decide +kernel
@[simp] theorem szl_5 : 5 ≤ sizeLine := by decide +kernel
@[simp] theorem szl_6 : 6 ≤ sizeLine := by decide +kernel
@[simp] theorem szl_7 : 7 ≤ sizeLine := by decide +kernel
@[simp] theorem szl_8 : 8 ≤ sizeLine := by decide +kernel
@[simp] theorem szl_9 : 9 ≤ sizeLine := by decide +kernel
@[simp] theorem szl_10 : 10 ≤ sizeLine := by decide +kernel
@[simp] theorem szl_11 : 11 ≤ sizeLine := by decide +kernel
@[simp] theorem szl_12 : 12 ≤ sizeLine := by decide +kernel
theorem kit_ts : kitB "tuple" "str" = some false := by decide +kernel
theorem kit_ls : kitB "list" "str" = some false := by decide +kernel
theorem kit_bs : kitB "bool" "str" = some false := by decide +kernel
theorem kit_bt : kitB "bool" "tuple" = some false := by decide +kernel
theorem kit_bl : kitB "bool" "list" = some false := by decide +kernel
theorem kit_il : kitB "int" "list" = some false := by decide +kernel
theorem kit_sl : kitB "str" "list" = some false := by decide +kernel
theorem kit_tb : kitB "tuple" "bool" = some false := by decide +kernel
theorem kit_lb : kitB "list" "bool" = some false := by decide +kernel
theorem kit_sb : kitB "str" "bool" = some false := by decide +kernel
@[simp] theorem isi_ts {xs : List D} : fIsi [.tup xs, .ty "str"] h = some (.bl false, h) := by simp [fIsi, tyN, kit_ts]
@[simp] theorem isi_tb {xs : List D} : fIsi [.tup xs, .ty "bool"] h = some (.bl false, h) := by simp [fIsi, tyN, kit_tb]
@[simp] theorem isi_is {i : Int} : fIsi [.int i, .ty "str"] h = some (.bl false, h) := by simp [fIsi, tyN, kit_is]
@[simp] theorem isi_il {i : Int} : fIsi [.int i, .ty "list"] h = some (.bl false, h) := by simp [fIsi, tyN, kit_il]
@[simp] theorem isi_bs {b : Bool} : fIsi [.bl b, .ty "str"] h = some (.bl false, h) := by simp [fIsi, tyN, kit_bs]
@[simp] theorem isi_bt {b : Bool} : fIsi [.bl b, .ty "tuple"] h = some (.bl false, h) := by simp [fIsi, tyN, kit_bt]
@[simp] theorem isi_bl {b : Bool} : fIsi [.bl b, .ty "list"] h = some (.bl false, h) := by simp [fIsi, tyN, kit_bl]
@[simp] theorem isi_sst {x : Str} : fIsi [.str x, .ty "tuple"] h = some (.bl false, h) := by simp [fIsi, tyN, kit_st]
@[simp] theorem isi_ssl {x : Str} : fIsi [.str x, .ty "list"] h = some (.bl false, h) := by simp [fIsi, tyN, kit_sl]
@[simp] theorem isi_ssb {x : Str} : fIsi [.str x, .ty "bool"] h = some (.bl false, h) := by simp [fIsi, tyN, kit_sb]
@[simp] theorem isi_ssi {x : Str} : fIsi [.str x, .ty "int"] h = some (.bl false, h) := by simp [fIsi, tyN, kit_si]
@[simp] theorem isi_sss {x : Str} : fIsi [.str x, .ty "str"] h = some (.bl true, h) := by simp [fIsi, tyN, kit_ss]
theorem isi_ls {n : Nat} {xs : List D} (q : h[n]? = some (.lst xs)) : fIsi [.ref n, .ty "str"] h = some (.bl false, h) := by simp [fIsi, tyN, kit_ls, q]
theorem isi_lb {n : Nat} {xs : List D} (q : h[n]? = some (.lst xs)) : fIsi [.ref n, .ty "bool"] h = some (.bl false, h) := by simp [fIsi, tyN, kit_lb, q]
theorem op_add_t {xs ys : List D} (c : xs.length + ys.length ≤ 1000) : opE oAdd (.tup xs) (.tup ys) h = .ok (.tup (xs ++ ys)) h := by
  simp only [opE, oAdd, if_pos (sz_ok c)]
end
/-- pick one of a list of the heap -/
theorem wp_pick {h : EH} {n k : Nat} {xs : List D} {Q : D → EH → Prop} {E : Ex → EH → Prop} (a : At h n xs) (hk : k < xs.length) (q : ∀ d ∈ xs, Q d h) : Wp (opE oIx (.ref n) (.int k) h) Q E := by
  rw [op_ix_at a (List.getElem?_eq_getElem hk)]
  exact q _ (List.getElem_mem hk)
end Sm
namespace Sm
open PySem PySem.Spec PyProof.Rows L2
section
variable {h h' : EH} {n m : Nat} {kvs : List (D × D)} {e : Sl} {d i : D} {k : NestedKey}
/-- a dict of the heap -/
abbrev Dt (h : EH) (n : Nat) (kvs : List (D × D)) : Prop := h[n]? = some (.dct kvs)
theorem Dt.new : Dt (h ++ [.dct kvs]) h.length kvs := by unfold Dt; simp
theorem Dt.lt (a : Dt h n kvs) : n < h.length := (List.getElem?_eq_some_iff.mp a).1
theorem Dt.add {o : List EO} (a : Dt h n kvs) : Dt (h ++ o) n kvs := Keep.add _ _ a
theorem Dt.set_self {o : List (D × D)} (a : Dt h n kvs) : Dt (h.set n (.dct o)) n o := List.getElem?_set_self a.lt
theorem Dt.set_ne {o : EO} (a : Dt h n kvs) (c : m ≠ n) : Dt (h.set m o) n kvs := by unfold Dt; rw [List.getElem?_set_ne c]; exact a
theorem At.set_d {xs : List D} {o : EO} (a : At h n xs) (c : m ≠ n) : At (h.set m o) n xs := by unfold At; rw [List.getElem?_set_ne c]; exact a
@[simp] theorem eDictT_r : eDictT e h = .ok (.dic h.length) (h ++ [.dct []]) := rfl
@[simp] theorem eDictL_r : eDictL e h = .ok (.dic h.length) (h ++ [.dcl []]) := rfl
def putK (e : Sl) (d o i : D) (h2 : EH) : R Sl := match o with
  | .dic n => (match h2[n]?, keyOf i with
    | some (.dct kvs), some k => if kvs.length < sizeLine then .ok e (h2.set n (.dct (dPut kvs i k d))) else .bad
    | _, _ => .bad)
  | _ => .bad
@[simp] theorem gDPut_r {mo mi : Sl → EH → R D} : gDPut mo mi d e h = (mo e h).bind fun o h1 => (mi e h1).bind fun i h2 => putK e d o i h2 := rfl
theorem putK_r (a : Dt h n kvs) (ek : keyOf i = some k) (l : kvs.length ≤ 1000) : putK e d (.dic n) i h = .ok e (h.set n (.dct (dPut kvs i k d))) := by
  unfold putK
  simp only [show h[n]? = some (.dct kvs) from a, ek]
  rw [if_pos (sz_lt l)]
@[simp] theorem lKeys_r {mo : Sl → EH → R D} : lKeys mo e h = (mo e h).bind asKeys := rfl
theorem asKeys_r (a : Dt h n kvs) : asKeys (.dic n) h = .ok (kvs.map (·.1)) h := by unfold asKeys; simp only [show h[n]? = some (.dct kvs) from a]
theorem op_dget_r {x : D} (a : Dt h n kvs) (ek : keyOf i = some k) (g : dGet kvs k = some x) : opE oDGet (.dic n) i h = .ok x h := by
  unfold opE oDGet
  simp only [show h[n]? = some (.dct kvs) from a, ek, g, Option.map_some]
theorem op_din_r (a : Dt h n kvs) (ek : keyOf i = some k) : opE oDIn i (.dic n) h = .ok (.bl (dGet kvs k).isSome) h := by
  unfold opE oDIn
  simp only [show h[n]? = some (.dct kvs) from a, ek]
theorem op_dnin_r (a : Dt h n kvs) (ek : keyOf i = some k) : opE oDNotIn i (.dic n) h = .ok (.bl (!(dGet kvs k).isSome)) h := by
  unfold opE oDNotIn
  simp only [show h[n]? = some (.dct kvs) from a, ek]
theorem fLenD_r (a : Dt h n kvs) : fLenD [.dic n] h = some (.int kvs.length, h) := by unfold fLenD; simp only [show h[n]? = some (.dct kvs) from a]
@[simp] theorem isNon_dic : isNon (.dic n) = false := rfl
end
/-! ### keys of Lean types -/
class Vk (α : Type) [DecidableEq α] [Vd α] where
  key : α → NestedKey
  eq : ∀ a, keyOf (Vd.d a) = some (key a)
  inj : ∀ a b, key a = key b → a = b
section
variable {α : Type} [DecidableEq α] [Vd α] [Vk α] {β : Type}
theorem dGet_map (f : β → D) (a : α) : ∀ xs : List (α × β), dGet (xs.map fun x => (Vd.d x.1, f x.2)) (Vk.key a) = (xs.find? fun x => decide (x.1 = a)).map fun x => f x.2
  | [] => rfl
  | x :: xs => by
    have ih := dGet_map f a xs
    unfold dGet at ih ⊢
    rw [List.map_cons]
    by_cases c : x.1 = a
    · rw [List.find?_cons_of_pos (by simp [Vk.eq, c]), List.find?_cons_of_pos (by simp [c])]
      rfl
    · rw [List.find?_cons_of_neg (by simp [Vk.eq]; intro z; exact c (Vk.inj _ _ z)), List.find?_cons_of_neg (by simp [c])]
      exact ih
/-- the members so far, with one more -/
def insN (ps : List α) (a : α) : List α := if a ∈ ps then ps else ps ++ [a]
/-- a dict used as a row of members -/
def memD (ps : List α) : List (D × D) := ps.map fun p => (Vd.d p, .bl true)
theorem dGet_mem (ps : List α) (a : α) : (dGet (memD ps) (Vk.key a)).isSome = decide (a ∈ ps) := by
  have := dGet_map (fun _ : Unit => D.bl true) a (ps.map fun p => (p, ()))
  rw [List.map_map] at this
  unfold memD
  rw [show (ps.map fun p => (Vd.d p, D.bl true)) = ps.map ((fun x : α × Unit => (Vd.d x.1, D.bl true)) ∘ fun p => (p, ())) from rfl, this, Option.isSome_map]
  induction ps with
  | nil => rfl
  | cons p ps ih =>
    rw [List.map_cons]
    by_cases c : p = a
    · rw [List.find?_cons_of_pos (by simp [c])]; simp [c]
    · rw [List.find?_cons_of_neg (by simp [c]), ih (by
        have := dGet_map (fun _ : Unit => D.bl true) a (ps.map fun p => (p, ()))
        rw [List.map_map] at this
        exact this)]
      exact decide_eq_decide.mpr ⟨fun z => List.mem_cons_of_mem _ z, fun z => (List.mem_cons.mp z).resolve_left fun y => c y.symm⟩
theorem dPut_mem (ps : List α) (a : α) : dPut (memD ps) (Vd.d a) (Vk.key a) (.bl true) = memD (insN ps a) := by
  have g := dGet_mem ps a
  unfold dPut insN
  rw [g]
  by_cases c : a ∈ ps
  · rw [if_pos (by simpa using c), if_pos c]
    unfold memD
    rw [List.map_map]
    refine List.map_congr_left fun p _ => ?_
    simp only [Function.comp, dRep]
    split <;> rfl
  · rw [if_neg (by simpa using c), if_neg c]
    unfold memD
    rw [List.map_append]
    rfl
theorem memD_keys (ps : List α) : (memD ps).map (·.1) = ps.map Vd.d := by
  unfold memD
  rw [List.map_map]
  rfl
theorem memD_len (ps : List α) : (memD ps).length = ps.length := by unfold memD; simp
theorem insN_len (ps : List α) (a : α) : (insN ps a).length ≤ ps.length + 1 := by
  unfold insN
  split <;> simp
theorem insN_mem {ps : List α} {a b : α} : b ∈ insN ps a ↔ b ∈ ps ∨ b = a := by
  unfold insN
  split
  · rename_i c
    exact ⟨.inl, fun z => z.elim id fun y => by rw [y]; exact c⟩
  · simp
end
instance : Vk Rat where
  key x := .tup [.num x.num, .num x.den]
  eq x := rfl
  inj a b e := by
    injection e with e
    injection e with e1 e2
    injection e1 with e1
    injection e2 with e2 _
    injection e2 with e2
    exact Rat.ext e1 (by omega)
end Sm
namespace Sm
open PySem PySem.Spec PyProof.Rows L2
variable {n : Nat} {h : EH} {Q : D → EH → Prop} {E : Ex → EH → Prop}
/-- the list of draws -/
structure Store (h : EH) (n : Nat) : Prop where
  ex : ∃ (m : Nat) (ns : List Int) (p big left cnt seed mx : Int), h[n]? = some (.lst [.ref m, .int p, .int big, .int left, .int cnt, .int seed, .int mx]) ∧ h[m]? = some (.lst (ns.map .int)) ∧ m < n ∧ 0 ≤ p ∧ 0 ≤ big
/-- only the list of draws at n is changed, and things are made anew -/
structure Dr (n : Nat) (h h' : EH) : Prop where
  st : Store h' n
  len : h.length ≤ h'.length
  old : ∀ k o, k ≠ n → h[k]? = some o → h'[k]? = some o
theorem Dr.trans {n : Nat} {h h1 h2 : EH} (a : Dr n h h1) (b : Dr n h1 h2) : Dr n h h2 := ⟨b.st, Nat.le_trans a.len b.len, fun k o hk q => b.old k o hk (a.old k o hk q)⟩
theorem Dr.set {n m : Nat} {h : EH} {ns : List Int} {p big left cnt seed mx : Int} (hn : n < h.length) (hm : h[m]? = some (.lst (ns.map .int))) (ne : m < n) (hp : 0 ≤ p) (hb : 0 ≤ big) : Dr n h (h.set n (.lst [.ref m, .int p, .int big, .int left, .int cnt, .int seed, .int mx])) :=
  ⟨⟨m, ns, p, big, left, cnt, seed, mx, by rw [List.getElem?_set_self hn], by rw [List.getElem?_set_ne (Nat.ne_of_gt ne)]; exact hm, ne, hp, hb⟩, by simp, fun k o hk q => by rw [List.getElem?_set_ne (Ne.symm hk)]; exact q⟩
/-! ### ratios -/
theorem log_of {j : Int} {n : Nat} (h0 : j ≠ 0) (h : j.natAbs < 2 ^ n) (hn : n ≤ 9000) : j.natAbs.log2 < 9000 := Nat.lt_of_lt_of_le ((Nat.log2_lt (by omega)).mpr h) hn
theorem divOk_of {j : Int} {n : Nat} (h0 : j ≠ 0) (h : j.natAbs < 2 ^ n) (hn : n ≤ 9000) : divOk j = true := by
  unfold divOk
  rw [decide_eq_true h0, decide_eq_true (log_of h0 h hn)]
  rfl
theorem gcd_pos {a b : Int} (h : b ≠ 0) : 0 < Int.gcd a b := Int.gcd_pos_of_ne_zero_right _ h
theorem gcd_le {a b : Int} (h : b ≠ 0) : Int.gcd a b ≤ b.natAbs := by
  rw [Int.gcd]
  exact Nat.gcd_le_right _ (by omega)
theorem divInt_pos {a b : Int} (h : 0 < b) : (Rat.divInt a b).num = a.fdiv (Int.gcd a b : Nat) ∧ ((Rat.divInt a b).den : Int) = b.fdiv (Int.gcd a b : Nat) := by
  have g0 : 0 < Int.gcd a b := gcd_pos (by omega)
  rw [Rat.num_divInt, Rat.den_divInt, if_neg (by omega), Int.sign_eq_one_of_pos h, Int.one_mul, Int.gcd_comm b a, Int.fdiv_eq_ediv_of_nonneg _ (by omega), Int.fdiv_eq_ediv_of_nonneg _ (by omega)]
  refine ⟨rfl, ?_⟩
  rw [Int.natCast_ediv, Int.natAbs_of_nonneg (by omega)]
theorem divInt_neg {a b : Int} (h : b < 0) : (Rat.divInt a b).num = a.fdiv (-(Int.gcd a b : Nat)) ∧ ((Rat.divInt a b).den : Int) = b.fdiv (-(Int.gcd a b : Nat)) := by
  have e : Rat.divInt a b = Rat.divInt (-a) (-b) := (Rat.neg_divInt_neg a b).symm
  have := divInt_pos (a := -a) (b := -b) (by omega)
  rw [e, this.1, this.2, Int.gcd_neg, Int.neg_gcd]
  constructor
  · rw [← Int.neg_fdiv_neg (-a)]; simp
  · rw [← Int.neg_fdiv_neg (-b)]; simp
/-! ### the store of draws -/
theorem map_get {ns : List Int} {k : Nat} (hk : k < (ns.map D.int).length) : (ns.map D.int)[k] = .int (ns[k]'(by simpa using hk)) := by simp
theorem pow10_le {a b : Nat} (h : a ≤ b) : (10 : Int) ^ a ≤ 10 ^ b := by
  have : (10 : Nat) ^ a ≤ 10 ^ b := Nat.pow_le_pow_right (by decide) h
  exact_mod_cast this
theorem Dr.add {h' : EH} {o : List EO} (a : Dr n h h') : Dr n h (h' ++ o) := by
  refine ⟨?_, by have := a.len; simp; omega, fun k o c q => Keep.add _ _ (a.old k o c q)⟩
  obtain ⟨m, ns, p, big, left, cnt, seed, mx, q, qm, ne, hp, hb⟩ := a.st.ex
  exact ⟨m, ns, p, big, left, cnt, seed, mx, Keep.add _ _ q, Keep.add _ _ qm, ne, hp, hb⟩
theorem Dr.set_new {h' : EH} {o : EO} {m : Nat} (a : Dr n h h') (hn : n < h.length) (hm : h.length ≤ m) : Dr n h (h'.set m o) := by
  refine ⟨?_, by have := a.len; simp; omega, fun k o c q => ?_⟩
  · obtain ⟨m', ns, p, big, left, cnt, seed, mx, q, qm, ne, hp, hb⟩ := a.st.ex
    exact ⟨m', ns, p, big, left, cnt, seed, mx, by rw [List.getElem?_set_ne (by omega)]; exact q, by rw [List.getElem?_set_ne (by omega)]; exact qm, ne, hp, hb⟩
  · have := (List.getElem?_eq_some_iff.mp q).1
    rw [List.getElem?_set_ne (by omega)]; exact a.old k _ c q
theorem Dr.at {h' : EH} {m : Nat} {xs : List D} (a : Dr n h h') (c : m ≠ n) (q : At h m xs) : At h' m xs := a.old m _ c q
theorem Dr.dt {h' : EH} {m : Nat} {kvs : List (D × D)} (a : Dr n h h') (c : m ≠ n) (q : Dt h m kvs) : Dt h' m kvs := a.old m _ c q
theorem Dr.refl (S : Store h n) : Dr n h h := ⟨S, Nat.le_refl _, fun _ _ _ q => q⟩
theorem Dr.keep {h' h'' : EH} (a : Dr n h h') (b : Keep h' h'') : Dr n h h'' := by
  refine ⟨?_, by have := a.len; have := b.len; omega, fun k o c q => b _ _ (a.old k o c q)⟩
  obtain ⟨m, ns, p, big, left, cnt, seed, mx, q, qm, ne, hp, hb⟩ := a.st.ex
  exact ⟨m, ns, p, big, left, cnt, seed, mx, b _ _ q, b _ _ qm, ne, hp, hb⟩
theorem Store.lt (S : Store h n) : n < h.length := by
  obtain ⟨m', ns, p, big, left, cnt, seed, mx, q, qm, ne, hp, hb⟩ := S.ex
  exact (List.getElem?_eq_some_iff.mp q).1
/-- the size of a ratio -/
def Sz (n : Nat) (x : Rat) : Prop := x.num.natAbs < 2 ^ n ∧ x.den < 2 ^ n
theorem Sz.mono {n m : Nat} {x : Rat} (a : Sz n x) (c : n ≤ m) : Sz m x := ⟨Nat.lt_of_lt_of_le a.1 (Nat.pow_le_pow_right (by decide) c), Nat.lt_of_lt_of_le a.2 (Nat.pow_le_pow_right (by decide) c)⟩
theorem Sz.neg {n : Nat} {x : Rat} (a : Sz n x) : Sz n (-x) := ⟨by rw [Rat.neg_num, Int.natAbs_neg]; exact a.1, by rw [Rat.neg_den]; exact a.2⟩
theorem fdiv_abs {a : Int} {g : Nat} (h : 0 < g) : (a.fdiv g).natAbs ≤ a.natAbs := by
  rw [Int.fdiv_eq_ediv_of_nonneg _ (by omega)]
  exact Int.natAbs_ediv_le_natAbs a g
theorem Sz.divInt {n : Nat} {a b : Int} (h1 : a.natAbs < 2 ^ n) (h2 : b.natAbs < 2 ^ n) (hb : b ≠ 0) : Sz n (Rat.divInt a b) := by
  have pos : ∀ a b : Int, a.natAbs < 2 ^ n → b.natAbs < 2 ^ n → 0 < b → Sz n (Rat.divInt a b) := fun a b h1 h2 hb => by
    obtain ⟨e1, e2⟩ := divInt_pos (a := a) hb
    have g0 : 0 < Int.gcd a b := gcd_pos (by omega)
    refine ⟨?_, ?_⟩
    · rw [e1]; exact Nat.lt_of_le_of_lt (fdiv_abs g0) h1
    · have := fdiv_abs (a := b) g0
      omega
  by_cases c : b < 0
  · rw [← Rat.neg_divInt_neg]
    exact pos (-a) (-b) (by rw [Int.natAbs_neg]; exact h1) (by rw [Int.natAbs_neg]; exact h2) (by omega)
  · exact pos a b h1 h2 (by omega)
theorem Sz.int {n : Nat} {i : Int} (h : i.natAbs < 2 ^ n) (h0 : 0 < n) : Sz n (i : Rat) := ⟨h, by
  have : (i : Rat).den = 1 := rfl
  rw [this]
  exact Nat.one_lt_pow (by omega) (by decide)⟩
def cmpR (x y : Rat) : Int := if x < y then -1 else if y < x then 1 else 0
def gapR (x y : Rat) : Int := x.num * y.den - y.num * x.den
theorem gap_neg {x y : Rat} : gapR x y < 0 ↔ x < y := by rw [Rat.lt_iff]; unfold gapR; omega
theorem gap_pos {x y : Rat} : 0 < gapR x y ↔ y < x := by rw [Rat.lt_iff]; unfold gapR; omega
theorem gap_swap {x y : Rat} : gapR y x = -gapR x y := by unfold gapR; omega
theorem Sz.m1 {s : Nat} {x y : Rat} (a : Sz s x) (b : Sz s y) (c : s ≤ 50000000) : mulOk x.num y.den = true := mulOk_of a.1 (b := s) (by have := b.2; omega) (by omega)
theorem Sz.m2 {s : Nat} {x y : Rat} (a : Sz s x) (b : Sz s y) (c : s ≤ 50000000) : mulOk x.den y.den = true := mulOk_of (a := s) (b := s) (by have := a.2; omega) (by have := b.2; omega) (by omega)
theorem num_neg {x : Rat} : x.num < 0 ↔ x < 0 := by
  rw [Rat.lt_iff, show (0 : Rat).num = 0 from rfl, show ((0 : Rat).den : Int) = 1 from rfl, Int.zero_mul, Int.mul_one]
theorem num_pos {x : Rat} : 0 < x.num ↔ 0 < x := by
  rw [Rat.lt_iff, show (0 : Rat).num = 0 from rfl, show ((0 : Rat).den : Int) = 1 from rfl, Int.zero_mul, Int.mul_one]
theorem cmp_three (x y : Rat) : cmpR x y = 0 ∨ cmpR x y = 1 ∨ cmpR x y = -1 := by
  unfold cmpR
  split
  · simp
  · split <;> simp
theorem cmp_cases (x y : Rat) : (x < y ∧ cmpR x y = -1) ∨ (y < x ∧ cmpR x y = 1) ∨ (x = y ∧ cmpR x y = 0) := by
  unfold cmpR
  by_cases c1 : x < y
  · exact .inl ⟨c1, if_pos c1⟩
  · by_cases c2 : y < x
    · exact .inr (.inl ⟨c2, by rw [if_neg c1, if_pos c2]⟩)
    · exact .inr (.inr ⟨by grind, by rw [if_neg c1, if_neg c2]⟩)
theorem den_ne (x : Rat) : (x.den : Int) ≠ 0 := by have := x.den_pos; omega
theorem abs_mul_lt {i j : Int} {a b : Nat} (h1 : i.natAbs < 2 ^ a) (h2 : j.natAbs < 2 ^ b) : (i * j).natAbs < 2 ^ (a + b) := by
  rw [Int.natAbs_mul, Nat.pow_add]
  exact Nat.mul_lt_mul'' h1 h2
theorem drop_at {α : Type} {xs : List α} {i : Nat} (c : i < xs.length) : ∃ x, xs[i]? = some x ∧ xs.drop i = x :: xs.drop (i + 1) := ⟨xs[i], List.getElem?_eq_getElem c, List.drop_eq_getElem_cons c⟩
theorem map_at {xs : List Rat} {i : Nat} {x : Rat} (q : xs[i]? = some x) : (xs.map rt)[i]? = some (rt x) := by rw [List.getElem?_map, q]; rfl
theorem take_two {α : Type} {ps : List α} {k : Nat} {p q : α} (hp : ps[2 * k]? = some p) (hq : ps[2 * k + 1]? = some q) : ps.take (2 * (k + 1)) = ps.take (2 * k) ++ [p] ++ [q] := by
  rw [show 2 * (k + 1) = 2 * k + 1 + 1 by omega, List.take_add_one, List.take_add_one, hp, hq]
  rfl
theorem le_sum {a : Nat} : ∀ {xs : List Nat}, a ∈ xs → a ≤ xs.sum
  | x :: xs, h => by
    rw [List.sum_cons]
    rcases List.mem_cons.mp h with rfl | h
    · omega
    · have := le_sum h; omega
theorem rt_nin {m : Nat} {x : Rat} {xs : List Rat} (q : At h m (xs.map rt)) : opE oNotIn (rt x) (.ref m) h = .ok (.bl (!decide (x ∈ xs))) h := op_nin_l (α := Rat) q (by decide)
theorem rl_ne {m k : Nat} {xs ys : List Rat} (q : At h m (xs.map rt)) (q2 : At h k (ys.map rt)) : opE oNe (.ref m) (.ref k) h = .ok (.bl (!decide (xs = ys))) h := op_ne_l (α := Rat) q q2 (by decide)
theorem rt_neg (x : Rat) : D.tup [.int (-x.num), .int x.den] = rt (-x) := rfl
theorem pow_small {t : Nat} (h : t ≤ 27) : (0 : Int) < 10 ^ t ∧ ((10 : Int) ^ t).natAbs < 2 ^ 90 ∧ (10 : Int) ^ t ≠ 0 := by
  have p : (0 : Int) < 10 ^ t := Int.pow_pos (by decide)
  have l : (10 : Int) ^ t ≤ 10 ^ 27 := pow10_le h
  have k : (10 : Int) ^ 27 < 2 ^ 90 := by decide
  refine ⟨p, by omega, by omega⟩
theorem mem_ins {α : Type} {xs : List α} {k : Nat} {x y : α} : y ∈ xs.take k ++ [x] ++ xs.drop k ↔ y ∈ xs ∨ y = x := by
  rw [List.mem_append, List.mem_append, List.mem_singleton]
  have := List.take_append_drop k xs
  constructor
  · rintro ((h | h) | h)
    · exact .inl (List.mem_of_mem_take h)
    · exact .inr h
    · exact .inl (List.mem_of_mem_drop h)
  · rintro (h | h)
    · rw [← this] at h
      rcases List.mem_append.mp h with h | h
      · exact .inl (.inl h)
      · exact .inr h
    · exact .inl (.inr h)
theorem den_pos (x : Rat) : (0 : Int) < x.den := by have := x.den_pos; omega
theorem Sz.mn {s t : Nat} {x y : Rat} (a : Sz s x) (b : Sz t y) (c : s + t ≤ 100000000) : mulOk x.num y.num = true := mulOk_of a.1 b.1 c
theorem Sz.md {s t : Nat} {x y : Rat} (a : Sz s x) (b : Sz t y) (c : s + t ≤ 100000000) : mulOk x.den y.den = true := mulOk_of (a := s) (b := t) (by have := a.2; omega) (by have := b.2; omega) c
theorem Sz.mx {s t : Nat} {x y : Rat} (a : Sz s x) (b : Sz t y) (c : s + t ≤ 100000000) : mulOk x.num y.den = true := mulOk_of a.1 (b := t) (by have := b.2; omega) c
theorem mul_divInt (x y : Rat) : Rat.divInt (x.num * y.num) (x.den * y.den) = x * y := by
  rw [Rat.mul_def', ← Rat.divInt_ofNat, Int.natCast_mul]
theorem add_divInt (x y : Rat) : Rat.divInt (x.num * y.den + y.num * x.den) (x.den * y.den) = x + y := by
  rw [Rat.add_def', ← Rat.divInt_ofNat, Int.natCast_mul]
theorem den_mul_ne (x y : Rat) : (x.den * y.den : Int) ≠ 0 := Int.mul_ne_zero (den_ne x) (den_ne y)
theorem den_mul_lt {s t : Nat} {x y : Rat} (a : Sz s x) (b : Sz t y) : (x.den * y.den : Int).natAbs < 2 ^ (s + t) := abs_mul_lt (by have := a.2; omega) (by have := b.2; omega)
theorem add_num_lt {s t : Nat} {x y : Rat} (a : Sz s x) (b : Sz t y) : (x.num * y.den + y.num * x.den).natAbs < 2 ^ (s + t + 1) := by
  have k1 := abs_mul_lt a.1 (j := y.den) (b := t) (by have := b.2; omega)
  have k2 := abs_mul_lt b.1 (j := x.den) (b := s) (by have := a.2; omega)
  rw [Nat.add_comm t s] at k2
  rw [Nat.pow_succ]; omega
theorem Sz.mul {s t : Nat} {x y : Rat} (a : Sz s x) (b : Sz t y) : Sz (s + t) (x * y) := by
  rw [← mul_divInt]
  exact Sz.divInt (abs_mul_lt a.1 b.1) (den_mul_lt a b) (den_mul_ne x y)
theorem Sz.add {s t : Nat} {x y : Rat} (a : Sz s x) (b : Sz t y) : Sz (s + t + 1) (x + y) := by
  rw [← add_divInt]
  exact Sz.divInt (add_num_lt a b) (Nat.lt_of_lt_of_le (den_mul_lt a b) (Nat.pow_le_pow_right (by decide) (by omega))) (den_mul_ne x y)
theorem Sz.sub {s t : Nat} {x y : Rat} (a : Sz s x) (b : Sz t y) : Sz (s + t + 1) (x - y) := by
  rw [Rat.sub_eq_add_neg]; exact a.add b.neg
/-- a vector -/
structure V3 where
  x : Rat
  y : Rat
  z : Rat
  deriving DecidableEq
def vt (v : V3) : D := .tup [rt v.x, rt v.y, rt v.z]
def Vz (s : Nat) (v : V3) : Prop := Sz s v.x ∧ Sz s v.y ∧ Sz s v.z
theorem Vz.mono {s t : Nat} {v : V3} (a : Vz s v) (c : s ≤ t) : Vz t v := ⟨a.1.mono c, a.2.1.mono c, a.2.2.mono c⟩
@[simp] theorem vt_0 {v : V3} : opE oIx (vt v) (.int 0) h = .ok (rt v.x) h := op_ix_t0
@[simp] theorem vt_1 {v : V3} : opE oIx (vt v) (.int 1) h = .ok (rt v.y) h := op_ix_t1
@[simp] theorem vt_2 {v : V3} : opE oIx (vt v) (.int 2) h = .ok (rt v.z) h := op_ix_t2
@[simp] theorem vt_len {v : V3} : fLen [vt v] h = some (.int 3, h) := rfl
@[simp] theorem vt_isi {v : V3} : fIsi [vt v, .ty "tuple"] h = some (.bl true, h) := isi_tt
instance : Vd V3 where
  d := vt
  p v := .tuple [Vd.p v.x, Vd.p v.y, Vd.p v.z]
  dep := 2
  py n h a hn := by
    cases n with
    | zero => omega
    | succ n =>
      have r : ∀ x : Rat, pyOf n h (rt x) = some (Vd.p x) := fun x => Vd.py n h x (by show 1 < n; omega)
      simp only [vt, pyOf, allO, r, Option.map_some]
  lay _ := rfl
  depth _ := Nat.le_refl _
  eqv a b := by
    simp only [PyData.eqv, PyData.eqvAll]
    rw [Vd.eqv, Vd.eqv, Vd.eqv, Bool.and_true, ← Bool.decide_and, ← Bool.decide_and]
    exact decide_eq_decide.mpr ⟨fun e => by cases a; cases b; simp_all, fun e => by rw [e]; exact ⟨rfl, rfl, rfl⟩⟩
@[simp] theorem gTup_rt {gs : List D → Sl → EH → R Sl} {x : Rat} {e : Sl} : gTupD 2 gs (rt x) e h = gs [.int x.num, .int x.den] e h := rfl
@[simp] theorem gUnp_vt {gs : List D → Sl → EH → R Sl} {v : V3} {e : Sl} : gUnp 3 gs (vt v) e h = gs [rt v.x, rt v.y, rt v.z] e h := rfl
@[simp] theorem asL_vt {v : V3} : asL (vt v) h = .ok [rt v.x, rt v.y, rt v.z] h := rfl
@[simp] theorem gTup_vt {gs : List D → Sl → EH → R Sl} {v : V3} {e : Sl} : gTupD 3 gs (vt v) e h = gs [rt v.x, rt v.y, rt v.z] e h := rfl
theorem vt_eq {x y : V3} : opE oEq (vt x) (vt y) h = .ok (.bl (decide (x = y))) h := op_eq_v x y (by decide)
theorem vt_ne {x y : V3} : opE oNe (vt x) (vt y) h = .ok (.bl (!decide (x = y))) h := op_ne_v x y (by decide)
def V3.dot (u v : V3) : Rat := u.x * v.x + u.y * v.y + u.z * v.z
def V3.smul (t : Rat) (v : V3) : V3 := ⟨t * v.x, t * v.y, t * v.z⟩
def V3.add (u v : V3) : V3 := ⟨u.x + v.x, u.y + v.y, u.z + v.z⟩
def V3.sub (u v : V3) : V3 := ⟨u.x - v.x, u.y - v.y, u.z - v.z⟩
def V3.cross (u v : V3) : V3 := ⟨u.y * v.z - u.z * v.y, u.z * v.x - u.x * v.z, u.x * v.y - u.y * v.x⟩
theorem Vz.dot {s t : Nat} {u v : V3} (a : Vz s u) (b : Vz t v) : Sz (3 * (s + t) + 2) (u.dot v) := ((((a.1.mul b.1).add (a.2.1.mul b.2.1)).add (a.2.2.mul b.2.2))).mono (by omega)
theorem Vz.add {s t : Nat} {u v : V3} (a : Vz s u) (b : Vz t v) : Vz (s + t + 1) (u.add v) := ⟨a.1.add b.1, a.2.1.add b.2.1, a.2.2.add b.2.2⟩
theorem Vz.sub {s t : Nat} {u v : V3} (a : Vz s u) (b : Vz t v) : Vz (s + t + 1) (u.sub v) := ⟨a.1.sub b.1, a.2.1.sub b.2.1, a.2.2.sub b.2.2⟩
theorem Vz.cross {s t : Nat} {u v : V3} (a : Vz s u) (b : Vz t v) : Vz (2 * (s + t) + 1) (u.cross v) := ⟨((a.2.1.mul b.2.2).sub (a.2.2.mul b.2.1)).mono (by omega), ((a.2.2.mul b.1).sub (a.1.mul b.2.2)).mono (by omega), ((a.1.mul b.2.1).sub (a.2.1.mul b.1)).mono (by omega)⟩
theorem sub_divInt (x y : Rat) : Rat.divInt (x.num * y.den - y.num * x.den) (x.den * y.den) = x - y := by
  have := add_divInt x (-y)
  rw [Rat.neg_num, Rat.neg_den, ← Rat.sub_eq_add_neg] at this
  rw [← this]
  congr 1
  rw [Int.neg_mul]; omega
theorem num_eq (x : Rat) : (x.num : Rat) = x * x.den := by
  have e : x = (x.num : Rat) / (x.den : Rat) := by rw [← Rat.intCast_natCast, ← Rat.divInt_eq_div, Rat.num_divInt_den]
  have n1 : ((x.den : Nat) : Rat) ≠ 0 := by have := x.den_pos; exact_mod_cast (by omega : x.den ≠ 0)
  generalize (x.num : Rat) = a at *
  generalize ((x.den : Nat) : Rat) = b at *
  subst e
  grind
theorem den_rat_pos (x : Rat) : (0 : Rat) < (x.den : Rat) := by
  have a := x.den_pos
  exact_mod_cast a
def cmpV (p q : V3) : Int := if cmpR p.x q.x = 0 then (if cmpR p.y q.y = 0 then cmpR p.z q.z else cmpR p.y q.y) else cmpR p.x q.x
theorem neg_one_mul' (x : Rat) : (-1) * x = -x := by grind
theorem Vz.neg {s : Nat} {v : V3} (b : Vz s v) : Vz s (v.smul (-1)) := by
  refine ⟨?_, ?_, ?_⟩
  · show Sz s ((-1) * v.x)
    rw [neg_one_mul']; exact b.1.neg
  · show Sz s ((-1) * v.y)
    rw [neg_one_mul']; exact b.2.1.neg
  · show Sz s ((-1) * v.z)
    rw [neg_one_mul']; exact b.2.2.neg
theorem Vz.smul {s t : Nat} {c : Rat} {v : V3} (a : Sz s c) (b : Vz t v) : Vz (s + t) (v.smul c) := ⟨a.mul b.1, a.mul b.2.1, a.mul b.2.2⟩
/-! signs -/
def sg (a : Rat) : Int := if a < 0 then -1 else if 0 < a then 1 else 0
theorem cmp_sg (x y : Rat) : cmpR x y = sg (x - y) := by
  have e1 : x < y ↔ x - y < 0 := by grind
  have e2 : y < x ↔ 0 < x - y := by grind
  unfold cmpR sg
  simp only [e1, e2]
theorem sg_cases (a : Rat) : (a < 0 ∧ sg a = -1) ∨ (a = 0 ∧ sg a = 0) ∨ (0 < a ∧ sg a = 1) := by
  unfold sg
  by_cases c : a < 0
  · exact .inl ⟨c, if_pos c⟩
  · by_cases d : 0 < a
    · exact .inr (.inr ⟨d, by rw [if_neg c, if_pos d]⟩)
    · exact .inr (.inl ⟨by grind, by rw [if_neg c, if_neg d]⟩)
theorem sg_neg (a : Rat) : sg (-a) = -sg a := by
  rcases sg_cases a with ⟨c, e⟩ | ⟨c, e⟩ | ⟨c, e⟩ <;> rcases sg_cases (-a) with ⟨c2, e2⟩ | ⟨c2, e2⟩ | ⟨c2, e2⟩ <;> first | omega | (exfalso; grind)
theorem sg_mul (a b : Rat) : sg (a * b) = sg a * sg b := by
  have pp : ∀ a b : Rat, 0 < a → 0 < b → sg (a * b) = 1 := fun a b ha hb => by
    have := Rat.mul_pos ha hb
    rcases sg_cases (a * b) with ⟨c, e⟩ | ⟨c, e⟩ | ⟨c, e⟩
    · exfalso; grind
    · exfalso; grind
    · exact e
  rcases sg_cases a with ⟨c, e⟩ | ⟨c, e⟩ | ⟨c, e⟩
  · rcases sg_cases b with ⟨d, f⟩ | ⟨d, f⟩ | ⟨d, f⟩
    · have := pp (-a) (-b) (by grind) (by grind)
      rw [show -a * -b = a * b by grind] at this
      rw [this, e, f]; rfl
    · subst d; rw [Rat.mul_zero, f, Int.mul_zero]
    · have := pp (-a) b (by grind) d
      rw [show -a * b = -(a * b) by grind, sg_neg] at this
      rw [e, f]; omega
  · subst c; rw [Rat.zero_mul, e, Int.zero_mul]
  · rcases sg_cases b with ⟨d, f⟩ | ⟨d, f⟩ | ⟨d, f⟩
    · have := pp a (-b) c (by grind)
      rw [show a * -b = -(a * b) by grind, sg_neg] at this
      rw [e, f]; omega
    · subst d; rw [Rat.mul_zero, f, Int.mul_zero]
    · rw [pp a b c d, e, f]; rfl
theorem sg_zero {a : Rat} : sg a = 0 ↔ a = 0 := by
  rcases sg_cases a with ⟨c, e⟩ | ⟨c, e⟩ | ⟨c, e⟩
  · rw [e]; constructor
    · intro z; omega
    · intro z; exfalso; grind
  · rw [e]; exact ⟨fun _ => c, fun _ => rfl⟩
  · rw [e]; constructor
    · intro z; omega
    · intro z; exfalso; grind
/-- the sign of the first part that is not zero -/
def lex (w : V3) : Int := if sg w.x = 0 then (if sg w.y = 0 then sg w.z else sg w.y) else sg w.x
theorem cmpV_lex (p q : V3) : cmpV p q = lex (p.sub q) := by
  unfold cmpV lex V3.sub
  simp only [cmp_sg]
theorem lex_smul (t : Rat) (w : V3) : lex (w.smul t) = sg t * lex w := by
  unfold lex V3.smul
  simp only [sg_mul]
  by_cases c : sg t = 0
  · simp [c]
  · by_cases c1 : sg w.x = 0
    · by_cases c2 : sg w.y = 0 <;> simp [c, c1, c2, Int.mul_eq_zero]
    · simp [c, c1, Int.mul_eq_zero]
theorem lex_zero {w : V3} : lex w = 0 ↔ w = ⟨0, 0, 0⟩ := by
  obtain ⟨x, y, z⟩ := w
  unfold lex
  by_cases c1 : sg x = 0
  · by_cases c2 : sg y = 0
    · simp only [c1, c2, if_true]
      rw [sg_zero] at c1 c2
      rw [sg_zero, c1, c2]
      simp
    · simp only [c1, c2, if_true, if_false]
      rw [sg_zero] at c2
      simp [c2]
  · simp only [c1, if_false]
    rw [sg_zero] at c1
    simp [c1]
/-! sizes of whole numbers -/
def Bn (s : Nat) (i : Int) : Prop := i.natAbs < 2 ^ s
theorem Bn.mul {s t : Nat} {i j : Int} (a : Bn s i) (b : Bn t j) : Bn (s + t) (i * j) := abs_mul_lt a b
theorem Bn.ok {s t : Nat} {i j : Int} (a : Bn s i) (b : Bn t j) (c : s + t ≤ 100000000) : mulOk i j = true := mulOk_of a b c
theorem Bn.mono {s t : Nat} {i : Int} (a : Bn s i) (c : s ≤ t) : Bn t i := Nat.lt_of_lt_of_le a (Nat.pow_le_pow_right (by decide) c)
theorem Bn.add {s : Nat} {i j : Int} (a : Bn s i) (b : Bn s j) : Bn (s + 1) (i + j) := by
  unfold Bn at *; rw [Nat.pow_succ]; omega
theorem Bn.sub {s : Nat} {i j : Int} (a : Bn s i) (b : Bn s j) : Bn (s + 1) (i - j) := by
  unfold Bn at *; rw [Nat.pow_succ]; omega
theorem Bn.neg {s : Nat} {i : Int} (a : Bn s i) : Bn s (-i) := by unfold Bn at *; rw [Int.natAbs_neg]; exact a
theorem Sz.bn {s : Nat} {x : Rat} (a : Sz s x) : Bn s x.num := a.1
theorem Sz.bd {s : Nat} {x : Rat} (a : Sz s x) : Bn s (x.den : Int) := by have := a.2; unfold Bn; omega
@[simp] theorem op_ne_nn : opE oNe .non .non h = .ok (.bl false) h := rfl
@[simp] theorem op_eq_nn : opE oEq .non .non h = .ok (.bl true) h := rfl
/-! planes in whole numbers -/
structure P4 where
  a : Int
  b : Int
  c : Int
  d : Int
  deriving DecidableEq
def pt (p : P4) : D := .tup [.int p.a, .int p.b, .int p.c, .int p.d]
@[simp] theorem pt_0 {p : P4} : opE oIx (pt p) (.int 0) h = .ok (.int p.a) h := op_ix_t0
@[simp] theorem pt_1 {p : P4} : opE oIx (pt p) (.int 1) h = .ok (.int p.b) h := op_ix_t1
@[simp] theorem pt_2 {p : P4} : opE oIx (pt p) (.int 2) h = .ok (.int p.c) h := op_ix_t2
@[simp] theorem pt_3 {p : P4} : opE oIx (pt p) (.int 3) h = .ok (.int p.d) h := op_ix_t3
@[simp] theorem pt_len {p : P4} : fLen [pt p] h = some (.int 4, h) := rfl
@[simp] theorem pt_isi {p : P4} : fIsi [pt p, .ty "tuple"] h = some (.bl true, h) := isi_tt
@[simp] theorem asL_pt {p : P4} : asL (pt p) h = .ok [.int p.a, .int p.b, .int p.c, .int p.d] h := rfl
@[simp] theorem isNon_pt {p : P4} : isNon (pt p) = false := rfl
@[simp] theorem isNon_vt {v : V3} : isNon (vt v) = false := rfl
@[simp] theorem gUnp_pt {gs : List D → Sl → EH → R Sl} {p : P4} {e : Sl} : gUnp 4 gs (pt p) e h = gs [.int p.a, .int p.b, .int p.c, .int p.d] e h := rfl
def Pz (s : Nat) (p : P4) : Prop := Bn s p.a ∧ Bn s p.b ∧ Bn s p.c ∧ Bn s p.d
theorem Pz.mono {s t : Nat} {p : P4} (a : Pz s p) (c : s ≤ t) : Pz t p := ⟨a.1.mono c, a.2.1.mono c, a.2.2.1.mono c, a.2.2.2.mono c⟩
instance : Vd P4 where
  d := pt
  p v := .tuple [.int v.a, .int v.b, .int v.c, .int v.d]
  dep := 1
  py n h a hn := by
    match n, hn with
    | n + 2, _ => rfl
  lay _ := rfl
  depth _ := Nat.le_refl _
  eqv x y := by
    simp only [PyData.eqv, PyData.eqvAll]
    rw [Bool.and_true, Bool.beq_eq_decide_eq, Bool.beq_eq_decide_eq, Bool.beq_eq_decide_eq, Bool.beq_eq_decide_eq, ← Bool.decide_and, ← Bool.decide_and, ← Bool.decide_and]
    exact decide_eq_decide.mpr ⟨fun e => by cases x; cases y; simp_all, fun e => by rw [e]; exact ⟨rfl, rfl, rfl, rfl⟩⟩
theorem pt_eq {x y : P4} : opE oEq (pt x) (pt y) h = .ok (.bl (decide (x = y))) h := op_eq_v x y (by decide)
theorem pt_ne {x y : P4} : opE oNe (pt x) (pt y) h = .ok (.bl (!decide (x = y))) h := op_ne_v x y (by decide)
instance : Vk P4 where
  key p := .tup [.num p.a, .num p.b, .num p.c, .num p.d]
  eq p := rfl
  inj p q e := by
    injection e with e
    injection e with e1 e
    injection e with e2 e
    injection e with e3 e
    injection e with e4 _
    injection e1 with e1
    injection e2 with e2
    injection e3 with e3
    injection e4 with e4
    cases p; cases q; simp_all
instance : Vk V3 where
  key v := .tup [Vk.key v.x, Vk.key v.y, Vk.key v.z]
  eq v := rfl
  inj p q e := by
    injection e with e
    injection e with e1 e
    injection e with e2 e
    injection e with e3 _
    have h1 := Vk.inj _ _ e1
    have h2 := Vk.inj _ _ e2
    have h3 := Vk.inj _ _ e3
    cases p; cases q; simp_all
theorem pt_key (p : P4) : keyOf (pt p) = some (Vk.key p) := rfl
theorem vt_key (p : V3) : keyOf (vt p) = some (Vk.key p) := rfl
theorem rt_key (p : Rat) : keyOf (rt p) = some (Vk.key p) := rfl
theorem memD_pt (ps : List P4) (a : P4) : dPut (memD ps) (pt a) (Vk.key a) (.bl true) = memD (insN ps a) := dPut_mem ps a
theorem memD_vt (ps : List V3) (a : V3) : dPut (memD ps) (vt a) (Vk.key a) (.bl true) = memD (insN ps a) := dPut_mem ps a
end Sm
/-! rules: comprehensions of two clauses, dict comprehensions, sorted by a lambda -/
namespace Sm
open PySem PySem.Spec PyProof.Rows L2
section
variable {Q : D → EH → Prop} {E : Ex → EH → Prop} {h : EH} {e : Sl}
/-! ### two clauses -/
noncomputable def runI (n : Nat) (it : Itd) (vs : List Nat) (g : D → Sl → EH → R Sl) (t : Sl → EH → R Bool) (m : Sl → EH → R D) (e : Sl) (h : EH) : R Unit := match loopW (stepI n it vs g t m e) (0, h) with
  | some (some h') => .ok () h'
  | _ => .bad
noncomputable def runO (n : Nat) (it : Itd) (vs vs1 : List Nat) (g : D → Sl → EH → R Sl) (t : Sl → EH → R Bool) (mi1 : Sl → EH → R Itd) (g1 : D → Sl → EH → R Sl) (t1 : Sl → EH → R Bool) (m : Sl → EH → R D) (e : Sl) (h : EH) : R D := match loopW (stepO n it vs vs1 g t mi1 g1 t1 m e) (0, h) with
  | some (some h') => .ok (.ref n) h'
  | _ => .bad
@[simp] theorem eComp2_r {vs vs1 : List Nat} {mi : Sl → EH → R Itd} {g : D → Sl → EH → R Sl} {t : Sl → EH → R Bool} {mi1 : Sl → EH → R Itd} {g1 : D → Sl → EH → R Sl} {t1 : Sl → EH → R Bool} {m : Sl → EH → R D} : eComp2 vs vs1 mi g t mi1 g1 t1 m e h = (mi e h).bind fun it h1 => runO h1.length it vs vs1 g t mi1 g1 t1 m e (h1 ++ [.lst []]) := rfl
theorem wp_runI {n : Nat} {it : Itd} {vs : List Nat} {g : D → Sl → EH → R Sl} {t : Sl → EH → R Bool} {m : Sl → EH → R D} {Q : Unit → EH → Prop} (len : Nat) (item : Nat → D) (P : Nat → EH → Prop) (hi : ∀ k h, k < len → P k h → it k h = some (some (item k))) (hz : ∀ h, P len h → it len h = some none) (p : P 0 h)
    (hs : ∀ k h, k < len → P k h → Wp (g (item k) (wipeD e vs) h) (fun e1 h1 => Wp (t e1 h1) (fun b h2 => if b = true then Wp (m e1 h2) (fun y h3 => ∃ a, At h3 n a ∧ a.length < sizeLine ∧ P (k + 1) (h3.set n (.lst (a ++ [y])))) nE else P (k + 1) h2) nE) nE) (hQ : ∀ h, P len h → Q () h) : Wp (runI n it vs g t m e h) Q E := by
  have key : ∀ (j k : Nat) (h : EH), k + j = len → P k h → ∃ h', loopW (stepI n it vs g t m e) (k, h) = some (some h') ∧ P len h' := by
    intro j
    induction j with
    | zero =>
      intro k h hk p
      have e0 : k = len := by omega
      subst e0
      exact ⟨h, loopW_done (by simp only [stepI, hz h p]), p⟩
    | succ j ih =>
      intro k h hk p
      have q0 := hi k h (by omega) p
      obtain ⟨e1, h1, q1, w1⟩ := (hs k h (by omega) p).get
      obtain ⟨b, h2, q2, w2⟩ := w1.get
      cases b with
      | false => rw [loopW_more (s' := (k + 1, h2)) (by simp only [stepI, q0, q1, q2])]; exact ih (k + 1) h2 (by omega) w2
      | true =>
        obtain ⟨y, h3, q3, a, qa, la, w3⟩ := Wp.get w2
        rw [loopW_more (s' := (k + 1, h3.set n (.lst (a ++ [y])))) (by simp only [stepI, q0, q1, q2, q3, show h3[n]? = some (.lst a) from qa, if_pos la])]
        exact ih (k + 1) _ (by omega) w3
  obtain ⟨h', q, p'⟩ := key len 0 h (by omega) p
  unfold runI
  rw [q]
  exact hQ h' p'
theorem wp_runO {n : Nat} {it : Itd} {vs vs1 : List Nat} {g : D → Sl → EH → R Sl} {t : Sl → EH → R Bool} {mi1 : Sl → EH → R Itd} {g1 : D → Sl → EH → R Sl} {t1 : Sl → EH → R Bool} {m : Sl → EH → R D} (len : Nat) (item : Nat → D) (P : Nat → EH → Prop) (hi : ∀ k h, k < len → P k h → it k h = some (some (item k))) (hz : ∀ h, P len h → it len h = some none) (p : P 0 h)
    (hs : ∀ k h, k < len → P k h → Wp (g (item k) (wipeD e vs) h) (fun e1 h1 => Wp (t e1 h1) (fun b h2 => if b = true then Wp (mi1 e1 h2) (fun it1 h3 => Wp (runI n it1 vs1 g1 t1 m e1 h3) (fun _ h4 => P (k + 1) h4) nE) nE else P (k + 1) h2) nE) nE) (hQ : ∀ h, P len h → Q (.ref n) h) : Wp (runO n it vs vs1 g t mi1 g1 t1 m e h) Q E := by
  have key : ∀ (j k : Nat) (h : EH), k + j = len → P k h → ∃ h', loopW (stepO n it vs vs1 g t mi1 g1 t1 m e) (k, h) = some (some h') ∧ P len h' := by
    intro j
    induction j with
    | zero =>
      intro k h hk p
      have e0 : k = len := by omega
      subst e0
      exact ⟨h, loopW_done (by simp only [stepO, hz h p]), p⟩
    | succ j ih =>
      intro k h hk p
      have q0 := hi k h (by omega) p
      obtain ⟨e1, h1, q1, w1⟩ := (hs k h (by omega) p).get
      obtain ⟨b, h2, q2, w2⟩ := w1.get
      cases b with
      | false => rw [loopW_more (s' := (k + 1, h2)) (by simp only [stepO, q0, q1, q2])]; exact ih (k + 1) h2 (by omega) w2
      | true =>
        obtain ⟨it1, h3, q3, w3⟩ := Wp.get w2
        have w4 := w3.get
        obtain ⟨u, h4, q4, p4⟩ := w4
        unfold runI at q4
        rcases q5 : loopW (stepI n it1 vs1 g1 t1 m e1) (0, h3) with _ | _ | h5
        · rw [q5] at q4; cases q4
        · rw [q5] at q4; cases q4
        · rw [q5] at q4
          cases q4
          rw [loopW_more (s' := (k + 1, h4)) (by simp only [stepO, q0, q1, q2, q3, q5])]
          exact ih (k + 1) _ (by omega) p4
  obtain ⟨h', q, p'⟩ := key len 0 h (by omega) p
  unfold runO
  rw [q]
  exact hQ h' p'
/-! ### dict comprehensions -/
noncomputable def runD (n : Nat) (it : Itd) (vs : List Nat) (g : D → Sl → EH → R Sl) (t : Sl → EH → R Bool) (mk mv : Sl → EH → R D) (e : Sl) (h : EH) : R D := match loopW (stepD n it vs g t mk mv e) (0, h) with
  | some (some h') => .ok (.dic n) h'
  | _ => .bad
@[simp] theorem eDComp_r {vs : List Nat} {mi : Sl → EH → R Itd} {g : D → Sl → EH → R Sl} {t : Sl → EH → R Bool} {mk mv : Sl → EH → R D} : eDComp vs mi g t mk mv e h = (mi e h).bind fun it h1 => runD h1.length it vs g t mk mv e (h1 ++ [.dct []]) := rfl
theorem wp_runD {n : Nat} {it : Itd} {vs : List Nat} {g : D → Sl → EH → R Sl} {t : Sl → EH → R Bool} {mk mv : Sl → EH → R D} (len : Nat) (item : Nat → D) (P : Nat → EH → Prop) (hi : ∀ k h, k < len → P k h → it k h = some (some (item k))) (hz : ∀ h, P len h → it len h = some none) (p : P 0 h)
    (hs : ∀ k h, k < len → P k h → Wp (g (item k) (wipeD e vs) h) (fun e1 h1 => Wp (t e1 h1) (fun b h2 => if b = true then Wp (mk e1 h2) (fun y h3 => Wp (mv e1 h3) (fun z h4 => ∃ kvs ky, Dt h4 n kvs ∧ keyOf y = some ky ∧ kvs.length < sizeLine ∧ P (k + 1) (h4.set n (.dct (dPut kvs y ky z)))) nE) nE else P (k + 1) h2) nE) nE) (hQ : ∀ h, P len h → Q (.dic n) h) : Wp (runD n it vs g t mk mv e h) Q E := by
  have key : ∀ (j k : Nat) (h : EH), k + j = len → P k h → ∃ h', loopW (stepD n it vs g t mk mv e) (k, h) = some (some h') ∧ P len h' := by
    intro j
    induction j with
    | zero =>
      intro k h hk p
      have e0 : k = len := by omega
      subst e0
      exact ⟨h, loopW_done (by simp only [stepD, hz h p]), p⟩
    | succ j ih =>
      intro k h hk p
      have q0 := hi k h (by omega) p
      obtain ⟨e1, h1, q1, w1⟩ := (hs k h (by omega) p).get
      obtain ⟨b, h2, q2, w2⟩ := w1.get
      cases b with
      | false => rw [loopW_more (s' := (k + 1, h2)) (by simp only [stepD, q0, q1, q2])]; exact ih (k + 1) h2 (by omega) w2
      | true =>
        obtain ⟨y, h3, q3, w3⟩ := Wp.get w2
        obtain ⟨z, h4, q4, kvs, ky, qd, ek, l, w4⟩ := w3.get
        rw [loopW_more (s' := (k + 1, h4.set n (.dct (dPut kvs y ky z)))) (by simp only [stepD, q0, q1, q2, q3, q4, show h4[n]? = some (.dct kvs) from qd, ek, if_pos l])]
        exact ih (k + 1) _ (by omega) w4
  obtain ⟨h', q, p'⟩ := key len 0 h (by omega) p
  unfold runD
  rw [q]
  exact hQ h' p'
/-! ### sorted by the lambda -/
theorem lSortK_r {i j n m : Nat} {ds : List D} {kvs : List (D × D)} (qi : e[i]? = some (some (.ref n))) (qj : e[j]? = some (some (.dic m))) (a : At h n ds) (d : Dt h m kvs) (c : ∀ x ∈ ds, (key3 kvs x).isSome = true) (l : ds.length ≤ 1000) : lSortK i j e h = .ok (ds.mergeSort (PySem.W.dataLe false (keyP kvs))) h := by
  unfold lSortK
  rw [qi, qj]
  simp only [lstD, itemsD, show h[n]? = some (.lst ds) from a, show h[m]? = some (.dct kvs) from d]
  exact if_pos ⟨List.all_eq_true.mpr c, sz_ok l⟩
end
/-! ### ranks -/
section
variable {α : Type} [DecidableEq α] [Vd α] [Vk α]
/-- the dict from each member to its place -/
def rkD (zs : List α) : List (D × D) := zs.zipIdx.map fun p => (Vd.d p.1, .int p.2)
theorem find_zip (a : α) : ∀ (zs : List α) (k : Nat), a ∈ zs → (zs.zipIdx k).find? (fun x => decide (x.1 = a)) = some (a, k + zs.idxOf a)
  | z :: zs, k, m => by
    rw [List.zipIdx_cons]
    by_cases c : z = a
    · subst c
      rw [List.find?_cons_of_pos (by simp)]
      simp
    · rw [List.find?_cons_of_neg (by simpa using c), find_zip a zs (k + 1) ((List.mem_cons.mp m).resolve_left fun e => c e.symm), List.idxOf_cons]
      have : (z == a) = false := by simpa using c
      simp [this]
      omega
theorem rkD_get {zs : List α} {a : α} (m : a ∈ zs) : dGet (rkD zs) (Vk.key a) = some (.int (zs.idxOf a : Nat)) := by
  unfold rkD
  rw [dGet_map (fun i : Nat => D.int i) a zs.zipIdx, find_zip a zs 0 m]
  simp
theorem rkD_no {zs : List α} {a : α} (m : a ∉ zs) : dGet (rkD zs) (Vk.key a) = none := by
  unfold rkD
  rw [dGet_map (fun i : Nat => D.int i) a zs.zipIdx, Option.map_eq_none_iff, List.find?_eq_none]
  rintro ⟨b, i⟩ hb
  have := (List.mem_zipIdx hb)
  simp only [decide_eq_true_eq]
  rintro rfl
  exact m (by rw [this.2.2]; exact List.getElem_mem _)
theorem rkD_put {zs : List α} {a : α} (m : a ∉ zs) : dPut (rkD zs) (Vd.d a) (Vk.key a) (.int (zs.length : Nat)) = rkD (zs ++ [a]) := by
  unfold dPut
  rw [rkD_no m]
  simp [rkD, List.zipIdx_append]
theorem rkD_len {zs : List α} : (rkD zs).length = zs.length := by simp [rkD]
theorem keyI_rk {zs : List α} {a : α} (m : a ∈ zs) : keyI (rkD zs) (Vd.d a) = some ((zs.idxOf a : Nat) : Int) := by
  unfold keyI
  rw [Vk.eq]
  simp only [rkD_get m]
end
theorem idx_lt {zs : List Rat} (s : zs.Pairwise (· < ·)) {x y : Rat} (hx : x ∈ zs) (hy : y ∈ zs) : zs.idxOf x < zs.idxOf y ↔ x < y := by
  have px := List.getElem_idxOf (List.idxOf_lt_length_of_mem hx)
  have py := List.getElem_idxOf (List.idxOf_lt_length_of_mem hy)
  have mono : ∀ (a b : Nat) (ha : a < zs.length) (hb : b < zs.length), a < b → zs[a] < zs[b] := fun a b ha hb hab => List.pairwise_iff_getElem.mp s a b ha hb hab
  constructor
  · intro c
    have := mono _ _ (List.idxOf_lt_length_of_mem hx) (List.idxOf_lt_length_of_mem hy) c
    rw [px, py] at this
    exact this
  · intro c
    rcases Nat.lt_trichotomy (zs.idxOf x) (zs.idxOf y) with z | z | z
    · exact z
    · have : x = y := by rw [← px, ← py]; congr 1
      subst this
      exact absurd c Rat.lt_irrefl
    · have := mono _ _ (List.idxOf_lt_length_of_mem hy) (List.idxOf_lt_length_of_mem hx) z
      rw [px, py] at this
      exact absurd (Std.lt_trans c this) Rat.lt_irrefl
theorem idx_eq {zs : List Rat} {x y : Rat} (hx : x ∈ zs) (hy : y ∈ zs) : zs.idxOf x = zs.idxOf y ↔ x = y := by
  constructor
  · intro c
    have px := List.getElem_idxOf (List.idxOf_lt_length_of_mem hx)
    have py := List.getElem_idxOf (List.idxOf_lt_length_of_mem hy)
    rw [← px, ← py]
    congr 1
  · intro c; rw [c]
/-! ### the order of triples -/
theorem dataLe_iii {β : Type} (x y z : β → Int) : PySem.W.dataLe false (fun b => .tuple [.int (x b), .int (y b), .int (z b)]) = fun p q => decide (x p < x q ∨ (x p = x q ∧ (y p < y q ∨ (y p = y q ∧ z p ≤ z q)))) := by
  funext p q
  show (!PySem.W.dataLt (.tuple [.int (x q), .int (y q), .int (z q)]) (.tuple [.int (x p), .int (y p), .int (z p)])) = _
  open PySem.W in
  rw [dataLt_tuple, dataLt_cons (by simp [alike]), dataLt_cons (by simp [alike]), dataLt_cons (by simp [alike]), dataLt_int, dataLt_int, dataLt_int]
  rw [show PyProof.Rows.lexLt itemOrd (PySem.W.keyToksAll []) (PySem.W.keyToksAll []) = false from lex_irrefl _]
  simp only [PyData.eqv, beq_iff_eq]
  by_cases a : x q = x p
  · by_cases b : y q = y p
    · by_cases c : z q = z p
      · simp [a, b, c]
      · simp only [a, b, c, if_true, if_false, Int.lt_irrefl, false_or, true_and]
        by_cases d : z q < z p
        · first | (simp [d]; done) | (simp [d]; omega)
        · first | (simp [d]; done) | (simp [d]; omega)
    · simp only [a, b, if_true, if_false, Int.lt_irrefl, false_or, true_and]
      by_cases d : y q < y p
      · first | (simp [d]; done) | (simp [d]; omega)
      · first | (simp [d]; done) | (simp [d]; omega)
  · simp only [a, if_false]
    by_cases d : x q < x p
    · first | (simp [d]; done) | (simp [d]; omega)
    · first | (simp [d]; done) | (simp [d]; omega)
end Sm
namespace Sm
open PySem PySem.Spec PyProof.Rows L2
theorem kt_NoneType_bool : kitB "NoneType" "bool" = some false := by decide +kernel
theorem kt_NoneType_int : kitB "NoneType" "int" = some false := by decide +kernel
theorem kt_NoneType_str : kitB "NoneType" "str" = some false := by decide +kernel
theorem kt_NoneType_list : kitB "NoneType" "list" = some false := by decide +kernel
theorem kt_NoneType_tuple : kitB "NoneType" "tuple" = some false := by decide +kernel
theorem kt_NoneType_dict : kitB "NoneType" "dict" = some false := by decide +kernel
theorem kt_bool_bool : kitB "bool" "bool" = some true := by decide +kernel
theorem kt_bool_int : kitB "bool" "int" = some true := by decide +kernel
theorem kt_bool_str : kitB "bool" "str" = some false := by decide +kernel
theorem kt_bool_list : kitB "bool" "list" = some false := by decide +kernel
theorem kt_bool_tuple : kitB "bool" "tuple" = some false := by decide +kernel
theorem kt_bool_dict : kitB "bool" "dict" = some false := by decide +kernel
theorem kt_int_bool : kitB "int" "bool" = some false := by decide +kernel
theorem kt_int_int : kitB "int" "int" = some true := by decide +kernel
theorem kt_int_str : kitB "int" "str" = some false := by decide +kernel
theorem kt_int_list : kitB "int" "list" = some false := by decide +kernel
theorem kt_int_tuple : kitB "int" "tuple" = some false := by decide +kernel
theorem kt_int_dict : kitB "int" "dict" = some false := by decide +kernel
theorem kt_str_bool : kitB "str" "bool" = some false := by decide +kernel
theorem kt_str_int : kitB "str" "int" = some false := by decide +kernel
theorem kt_str_str : kitB "str" "str" = some true := by decide +kernel
theorem kt_str_list : kitB "str" "list" = some false := by decide +kernel
theorem kt_str_tuple : kitB "str" "tuple" = some false := by decide +kernel
theorem kt_str_dict : kitB "str" "dict" = some false := by decide +kernel
theorem kt_tuple_bool : kitB "tuple" "bool" = some false := by decide +kernel
theorem kt_tuple_int : kitB "tuple" "int" = some false := by decide +kernel
theorem kt_tuple_str : kitB "tuple" "str" = some false := by decide +kernel
theorem kt_tuple_list : kitB "tuple" "list" = some false := by decide +kernel
theorem kt_tuple_tuple : kitB "tuple" "tuple" = some true := by decide +kernel
theorem kt_tuple_dict : kitB "tuple" "dict" = some false := by decide +kernel
theorem kt_list_bool : kitB "list" "bool" = some false := by decide +kernel
theorem kt_list_int : kitB "list" "int" = some false := by decide +kernel
theorem kt_list_str : kitB "list" "str" = some false := by decide +kernel
theorem kt_list_list : kitB "list" "list" = some true := by decide +kernel
theorem kt_list_tuple : kitB "list" "tuple" = some false := by decide +kernel
theorem kt_list_dict : kitB "list" "dict" = some false := by decide +kernel
theorem kt_dict_bool : kitB "dict" "bool" = some false := by decide +kernel
theorem kt_dict_int : kitB "dict" "int" = some false := by decide +kernel
theorem kt_dict_str : kitB "dict" "str" = some false := by decide +kernel
theorem kt_dict_list : kitB "dict" "list" = some false := by decide +kernel
theorem kt_dict_tuple : kitB "dict" "tuple" = some false := by decide +kernel
theorem kt_dict_dict : kitB "dict" "dict" = some true := by decide +kernel
section
variable {e : Sl} {h : EH}
@[simp] theorem ia_NoneType_bool : fIsi [.non, .ty "bool"] h = some (.bl false, h) := by simp [fIsi, tyN, kt_NoneType_bool]
@[simp] theorem ia_NoneType_int : fIsi [.non, .ty "int"] h = some (.bl false, h) := by simp [fIsi, tyN, kt_NoneType_int]
@[simp] theorem ia_NoneType_str : fIsi [.non, .ty "str"] h = some (.bl false, h) := by simp [fIsi, tyN, kt_NoneType_str]
@[simp] theorem ia_NoneType_list : fIsi [.non, .ty "list"] h = some (.bl false, h) := by simp [fIsi, tyN, kt_NoneType_list]
@[simp] theorem ia_NoneType_tuple : fIsi [.non, .ty "tuple"] h = some (.bl false, h) := by simp [fIsi, tyN, kt_NoneType_tuple]
@[simp] theorem ia_NoneType_dict : fIsi [.non, .ty "dict"] h = some (.bl false, h) := by simp [fIsi, tyN, kt_NoneType_dict]
@[simp] theorem ia_bool_bool {b : Bool} : fIsi [.bl b, .ty "bool"] h = some (.bl true, h) := by simp [fIsi, tyN, kt_bool_bool]
@[simp] theorem ia_bool_int {b : Bool} : fIsi [.bl b, .ty "int"] h = some (.bl true, h) := by simp [fIsi, tyN, kt_bool_int]
@[simp] theorem ia_bool_str {b : Bool} : fIsi [.bl b, .ty "str"] h = some (.bl false, h) := by simp [fIsi, tyN, kt_bool_str]
@[simp] theorem ia_bool_list {b : Bool} : fIsi [.bl b, .ty "list"] h = some (.bl false, h) := by simp [fIsi, tyN, kt_bool_list]
@[simp] theorem ia_bool_tuple {b : Bool} : fIsi [.bl b, .ty "tuple"] h = some (.bl false, h) := by simp [fIsi, tyN, kt_bool_tuple]
@[simp] theorem ia_bool_dict {b : Bool} : fIsi [.bl b, .ty "dict"] h = some (.bl false, h) := by simp [fIsi, tyN, kt_bool_dict]
@[simp] theorem ia_int_bool {i : Int} : fIsi [.int i, .ty "bool"] h = some (.bl false, h) := by simp [fIsi, tyN, kt_int_bool]
@[simp] theorem ia_int_int {i : Int} : fIsi [.int i, .ty "int"] h = some (.bl true, h) := by simp [fIsi, tyN, kt_int_int]
@[simp] theorem ia_int_str {i : Int} : fIsi [.int i, .ty "str"] h = some (.bl false, h) := by simp [fIsi, tyN, kt_int_str]
@[simp] theorem ia_int_list {i : Int} : fIsi [.int i, .ty "list"] h = some (.bl false, h) := by simp [fIsi, tyN, kt_int_list]
@[simp] theorem ia_int_tuple {i : Int} : fIsi [.int i, .ty "tuple"] h = some (.bl false, h) := by simp [fIsi, tyN, kt_int_tuple]
@[simp] theorem ia_int_dict {i : Int} : fIsi [.int i, .ty "dict"] h = some (.bl false, h) := by simp [fIsi, tyN, kt_int_dict]
@[simp] theorem ia_str_bool {x : Str} : fIsi [.str x, .ty "bool"] h = some (.bl false, h) := by simp [fIsi, tyN, kt_str_bool]
@[simp] theorem ia_str_int {x : Str} : fIsi [.str x, .ty "int"] h = some (.bl false, h) := by simp [fIsi, tyN, kt_str_int]
@[simp] theorem ia_str_str {x : Str} : fIsi [.str x, .ty "str"] h = some (.bl true, h) := by simp [fIsi, tyN, kt_str_str]
@[simp] theorem ia_str_list {x : Str} : fIsi [.str x, .ty "list"] h = some (.bl false, h) := by simp [fIsi, tyN, kt_str_list]
@[simp] theorem ia_str_tuple {x : Str} : fIsi [.str x, .ty "tuple"] h = some (.bl false, h) := by simp [fIsi, tyN, kt_str_tuple]
@[simp] theorem ia_str_dict {x : Str} : fIsi [.str x, .ty "dict"] h = some (.bl false, h) := by simp [fIsi, tyN, kt_str_dict]
@[simp] theorem ia_tuple_bool {xs : List D} : fIsi [.tup xs, .ty "bool"] h = some (.bl false, h) := by simp [fIsi, tyN, kt_tuple_bool]
@[simp] theorem ia_tuple_int {xs : List D} : fIsi [.tup xs, .ty "int"] h = some (.bl false, h) := by simp [fIsi, tyN, kt_tuple_int]
@[simp] theorem ia_tuple_str {xs : List D} : fIsi [.tup xs, .ty "str"] h = some (.bl false, h) := by simp [fIsi, tyN, kt_tuple_str]
@[simp] theorem ia_tuple_list {xs : List D} : fIsi [.tup xs, .ty "list"] h = some (.bl false, h) := by simp [fIsi, tyN, kt_tuple_list]
@[simp] theorem ia_tuple_tuple {xs : List D} : fIsi [.tup xs, .ty "tuple"] h = some (.bl true, h) := by simp [fIsi, tyN, kt_tuple_tuple]
@[simp] theorem ia_tuple_dict {xs : List D} : fIsi [.tup xs, .ty "dict"] h = some (.bl false, h) := by simp [fIsi, tyN, kt_tuple_dict]
theorem ia_list_bool {n : Nat} {xs : List D} (q : At h n xs) : fIsi [.ref n, .ty "bool"] h = some (.bl false, h) := by simp [fIsi, tyN, kt_list_bool, show h[n]? = some (.lst xs) from q]
theorem ia_list_int {n : Nat} {xs : List D} (q : At h n xs) : fIsi [.ref n, .ty "int"] h = some (.bl false, h) := by simp [fIsi, tyN, kt_list_int, show h[n]? = some (.lst xs) from q]
theorem ia_list_str {n : Nat} {xs : List D} (q : At h n xs) : fIsi [.ref n, .ty "str"] h = some (.bl false, h) := by simp [fIsi, tyN, kt_list_str, show h[n]? = some (.lst xs) from q]
theorem ia_list_list {n : Nat} {xs : List D} (q : At h n xs) : fIsi [.ref n, .ty "list"] h = some (.bl true, h) := by simp [fIsi, tyN, kt_list_list, show h[n]? = some (.lst xs) from q]
theorem ia_list_tuple {n : Nat} {xs : List D} (q : At h n xs) : fIsi [.ref n, .ty "tuple"] h = some (.bl false, h) := by simp [fIsi, tyN, kt_list_tuple, show h[n]? = some (.lst xs) from q]
theorem ia_list_dict {n : Nat} {xs : List D} (q : At h n xs) : fIsi [.ref n, .ty "dict"] h = some (.bl false, h) := by simp [fIsi, tyN, kt_list_dict, show h[n]? = some (.lst xs) from q]
theorem ia_list {n : Nat} {xs : List D} (q : At h n xs) : fIsi [.ref n, .ty "bool"] h = some (.bl false, h) ∧ fIsi [.ref n, .ty "int"] h = some (.bl false, h) ∧ fIsi [.ref n, .ty "str"] h = some (.bl false, h) ∧ fIsi [.ref n, .ty "list"] h = some (.bl true, h) ∧ fIsi [.ref n, .ty "tuple"] h = some (.bl false, h) ∧ fIsi [.ref n, .ty "dict"] h = some (.bl false, h) :=
  ⟨ia_list_bool q, ia_list_int q, ia_list_str q, ia_list_list q, ia_list_tuple q, ia_list_dict q⟩
@[simp] theorem eIsiT_r {ts : List String} {m : Sl → EH → R D} : eIsiT ts m e h = (m e h).bind (asIsiT ts) := rfl
@[simp] theorem it_n : asIsiT ["list", "tuple"] .non h = .ok (.bl false) h := by simp [asIsiT, tyN, kitBs, kt_NoneType_list, kt_NoneType_tuple]
@[simp] theorem it_b {b : Bool} : asIsiT ["list", "tuple"] (.bl b) h = .ok (.bl false) h := by simp [asIsiT, tyN, kitBs, kt_bool_list, kt_bool_tuple]
@[simp] theorem it_i {i : Int} : asIsiT ["list", "tuple"] (.int i) h = .ok (.bl false) h := by simp [asIsiT, tyN, kitBs, kt_int_list, kt_int_tuple]
@[simp] theorem it_s {x : Str} : asIsiT ["list", "tuple"] (.str x) h = .ok (.bl false) h := by simp [asIsiT, tyN, kitBs, kt_str_list, kt_str_tuple]
@[simp] theorem it_t {xs : List D} : asIsiT ["list", "tuple"] (.tup xs) h = .ok (.bl true) h := by simp [asIsiT, tyN, kitBs, kt_tuple_list, kt_tuple_tuple]
theorem it_r {n : Nat} {xs : List D} (q : At h n xs) : asIsiT ["list", "tuple"] (.ref n) h = .ok (.bl true) h := by simp [asIsiT, tyN, kitBs, kt_list_list, show h[n]? = some (.lst xs) from q]
@[simp] theorem eIsxT_r {cs : List Str} {x0 : Str} {a0 : Addr} {m : Sl → EH → R D} : eIsxT cs x0 a0 m e h = (m e h).bind (asIsxT cs x0 a0) := rfl
@[simp] theorem asIsxT_r {cs : List Str} {x0 : Str} {a0 : Addr} : asIsxT cs x0 a0 (.exn x0 a0) h = .ok (.bl (cs.any (exSub x0))) h := by simp [asIsxT]
theorem fStrI_r {i : Int} {n : Nat} (c : i.natAbs < 2 ^ n) (hn : n ≤ 1900) : fStrI [.int i] h = some (.str (toString i), h) := by
  have : i.natAbs.log2 < 1920 := by
    by_cases z : i.natAbs = 0
    · rw [z]; decide
    · exact Nat.lt_of_lt_of_le ((Nat.log2_lt z).mpr c) (by omega)
  show (if i.natAbs.log2 < 1920 then some (D.str (toString i), h) else none) = _
  rw [if_pos this]
theorem fUpper_r {x : Str} (c : x.length ≤ 1000) : fUpper (.str x) [] h = some (.str (Txt.upper x), h) := by
  simp only [fUpper, fS0]
  rw [if_pos (by simp; omega)]
@[simp] theorem eRev2_r {m : Sl → EH → R D} : eRev2 m e h = (m e h).bind asRev2 := rfl
@[simp] theorem asRev2_t {xs : List D} : asRev2 (.tup xs) h = .ok (.tup xs.reverse) h := rfl
theorem asRev2_r {n : Nat} {xs : List D} (a : At h n xs) : asRev2 (.ref n) h = .ok (.ref h.length) (h ++ [.lst xs.reverse]) := by unfold asRev2; simp only [show h[n]? = some (.lst xs) from a]
theorem eLB_all {bs : List Bool} {m : Sl → EH → R (List D)} {h' : EH} (q : m e h = .ok (bs.map .bl) h') : eLB (fun bs => bs.all id) m e h = .ok (.bl (bs.all id)) h' := by
  unfold eLB
  rw [q]
  simp only [R.bind_ok, blsD_map]
theorem eLB_any {bs : List Bool} {m : Sl → EH → R (List D)} {h' : EH} (q : m e h = .ok (bs.map .bl) h') : eLB (fun bs => bs.any id) m e h = .ok (.bl (bs.any id)) h' := by
  unfold eLB
  rw [q]
  simp only [R.bind_ok, blsD_map]
@[simp] theorem op_ne_ss {x y : Str} : opE oNe (.str x) (.str y) h = .ok (.bl (!decide (x = y))) h := rfl
@[simp] theorem op_eq_ss {x y : Str} : opE oEq (.str x) (.str y) h = .ok (.bl (decide (x = y))) h := rfl
@[simp] theorem mFun_5 {n : Nat} {b : Sl → EH → RS} {a a2 a3 a4 a5 : D} : mFun 5 n b [a, a2, a3, a4, a5] h = finR (b (some a :: some a2 :: some a3 :: some a4 :: some a5 :: List.replicate (n - 5) none) h) := mFun_eq rfl
@[simp] theorem mFun_6 {n : Nat} {b : Sl → EH → RS} {a a2 a3 a4 a5 a6 : D} : mFun 6 n b [a, a2, a3, a4, a5, a6] h = finR (b (some a :: some a2 :: some a3 :: some a4 :: some a5 :: some a6 :: List.replicate (n - 6) none) h) := mFun_eq rfl
@[simp] theorem asR1_2 : asR1 [.int 2] h = .ok (itR 0 1 2) h := asR1_i (by decide) (by decide)
@[simp] theorem asR1_3 : asR1 [.int 3] h = .ok (itR 0 1 3) h := asR1_i (by decide) (by decide)
@[simp] theorem asR1_4 : asR1 [.int 4] h = .ok (itR 0 1 4) h := asR1_i (by decide) (by decide)
@[simp] theorem op_ix_t4 {a b c d f : D} {xs : List D} : opE oIx (.tup (a :: b :: c :: d :: f :: xs)) (.int 4) h = .ok f h := op_ix_ts (by rw [show (4 : Int) = ((4 : Nat) : Int) from rfl, atI_n]; rfl)
@[simp] theorem op_ix_t5 {a b c d f g : D} {xs : List D} : opE oIx (.tup (a :: b :: c :: d :: f :: g :: xs)) (.int 5) h = .ok g h := op_ix_ts (by rw [show (5 : Int) = ((5 : Nat) : Int) from rfl, atI_n]; rfl)
theorem op_add_s {x y : Str} (c : x.length + y.length ≤ 5000) : opE oAdd (.str x) (.str y) h = .ok (.str (x ++ y)) h := by
  simp only [opE, oAdd]
  rw [if_pos (Nat.le_trans c (by decide +kernel))]
end
/-! ### consequences -/
theorem wp_mono {α : Type} {r : R α} {Q Q' : α → EH → Prop} {E E' : Ex → EH → Prop} (w : Wp r Q E) (m : ∀ a h, Q a h → Q' a h) (me : ∀ x h, E x h → E' x h) : Wp r Q' E' := by
  cases r with
  | ok a h => exact m a h w
  | exc x h => exact me x h w
  | bad => exact w
theorem ws_mono {r : RS} {N N' B B' C C' : Sl → EH → Prop} {T T' : D → EH → Prop} {X X' : Ex → Sl → EH → Prop} (w : Ws r N T B C X) (n : ∀ a h, N a h → N' a h) (t : ∀ a h, T a h → T' a h) (b : ∀ a h, B a h → B' a h) (c : ∀ a h, C a h → C' a h) (x : ∀ e a h, X e a h → X' e a h) : Ws r N' T' B' C' X' := by
  cases r with
  | nx e h => exact n e h w
  | rt e h => exact t e h w
  | bk e h => exact b e h w
  | ct e h => exact c e h w
  | exc y e h => exact x y e h w
  | bad => exact w
theorem wp_eq {α : Type} {r : R α} {a : α} {h : EH} (w : Wp r (fun a' h' => a' = a ∧ h' = h) fun _ _ => False) : r = .ok a h := by
  obtain ⟨_, _, e, rfl, rfl⟩ := w.get
  exact e
instance : Vd Bool where
  d := .bl
  p := .bool
  dep := 0
  py n h a hn := by cases n with
    | zero => omega
    | succ n => rfl
  lay _ := rfl
  depth _ := Nat.le_refl _
  eqv a b := by cases a <;> cases b <;> rfl
theorem bl_nin {h : EH} {m : Nat} {b : Bool} {bs : List Bool} (q : At h m (bs.map .bl)) : opE oNotIn (.bl b) (.ref m) h = .ok (.bl (!decide (b ∈ bs))) h := op_nin_l (α := Bool) q (by decide)
theorem bl_in {h : EH} {m : Nat} {b : Bool} {bs : List Bool} (q : At h m (bs.map .bl)) : opE oIn (.bl b) (.ref m) h = .ok (.bl (decide (b ∈ bs))) h := op_in_l (α := Bool) q (by decide)
@[simp] theorem eDLit_r {e : Sl} {h : EH} {ps : List (Int × Int)} {m : Sl → EH → R D} : eDLit ps m e h = (m e h).bind (asDLit ps) := rfl
@[simp] theorem eChain_r {e : Sl} {h : EH} {f g : D → D → EH → Option (D × EH)} {ma mb mc : Sl → EH → R D} : eChain f g ma mb mc e h = (ma e h).bind fun x h1 => (mb e h1).bind fun y h2 => (opE f x y h2).bind fun z h3 => match z with
  | .bl true => (mc e h3).bind fun w h4 => opE g y w h4
  | .bl false => .ok (.bl false) h3
  | _ => .bad := rfl
end Sm
namespace Mv
open PySem PySem.Spec PyProof.Rows L2 Sm
def g_holds_0_point_conditions {α : Type} (us ws : List α) : List α := match us, ws with
  | [], [w0, w1] => [w1, w0]
  | _, _ => []
def g_closed_0_conditions {α : Type} (us ws : List α) : List α := match us, ws with
  | [], [w0] => [w0]
  | _, _ => []
def g_is_conditions_0_value {α : Type} (us ws : List α) : List α := match us, ws with
  | [], [w0] => [w0]
  | _, _ => []
noncomputable def w0_common_divisor : Sl → EH → R Bool := (bOf (eBin oGt (eVar 3) (eC (.int 0))))
noncomputable def l0_common_divisor : Sl → EH → RS := (sPar 2 3 (aCons (eVar 3) (aCons (eBin oMod (eVar 2) (eVar 3)) aNil)))
noncomputable def q0_common_divisor : Sl → EH → RS := sWhile w0_common_divisor l0_common_divisor
noncomputable def t2_common_divisor : Sl → EH → RS := (sRet (eVar 2))
noncomputable def t1_common_divisor : Sl → EH → RS := sSeq q0_common_divisor t2_common_divisor
noncomputable def b_common_divisor : Sl → EH → RS := sSeq (sPar 2 3 (aCons (eCB fAbs (aCons (eVar 0) aNil)) (aCons (eCB fAbs (aCons (eVar 1) aNil)) aNil))) t1_common_divisor
noncomputable def m_common_divisor : List D → EH → R D := mFun 2 4 b_common_divisor
noncomputable def b_divisor_of_four : Sl → EH → RS := (sRet (eCall m_common_divisor (aCons (eCall m_common_divisor (aCons (eVar 0) (aCons (eVar 1) aNil))) (aCons (eCall m_common_divisor (aCons (eVar 2) (aCons (eVar 3) aNil))) aNil))))
noncomputable def m_divisor_of_four : List D → EH → R D := mFun 4 4 b_divisor_of_four
noncomputable def t2_leading : Sl → EH → RS := (sRet (eVar 2))
noncomputable def t1_leading : Sl → EH → RS := sSeq (sIf (bOf (eBin oNe (eVar 1) (eC (.int 0)))) (sRet (eVar 1)) sNil) t2_leading
noncomputable def b_leading : Sl → EH → RS := sSeq (sIf (bOf (eBin oNe (eVar 0) (eC (.int 0)))) (sRet (eVar 0)) sNil) t1_leading
noncomputable def m_leading : List D → EH → R D := mFun 3 3 b_leading
noncomputable def b_is_whole : Sl → EH → RS := (sRet (eAnd (eCB fIsi (aCons (eVar 0) (aCons (eC (.ty "int")) aNil))) (eNot (eCB fIsi (aCons (eVar 0) (aCons (eC (.ty "bool")) aNil))))))
noncomputable def m_is_whole : List D → EH → R D := mFun 1 1 b_is_whole
noncomputable def t3_is_plane : Sl → EH → RS := (sRet (eBin oEq (eCall m_divisor_of_four (aCons (eBin oIx (eVar 0) (eC (.int 0))) (aCons (eBin oIx (eVar 0) (eC (.int 1))) (aCons (eBin oIx (eVar 0) (eC (.int 2))) (aCons (eBin oIx (eVar 0) (eC (.int 3))) aNil))))) (eC (.int 1))))
noncomputable def t2_is_plane : Sl → EH → RS := sSeq (sIf (bOf (eBin oLe (eCall m_leading (aCons (eBin oIx (eVar 0) (eC (.int 0))) (aCons (eBin oIx (eVar 0) (eC (.int 1))) (aCons (eBin oIx (eVar 0) (eC (.int 2))) aNil)))) (eC (.int 0)))) (sRet (eC (.bl false))) sNil) t3_is_plane
noncomputable def t1_is_plane : Sl → EH → RS := sSeq (sIf (bNot (bOf (eLB (fun bs => bs.all id) (lComp [1] (iSeq (eVar 0)) (gVar 1) bYes (eCall m_is_whole (aCons (eVar 1) aNil)))))) (sRet (eC (.bl false))) sNil) t2_is_plane
noncomputable def b_is_plane : Sl → EH → RS := sSeq (sIf (bOr (bNot (bOf (eCB fIsi (aCons (eVar 0) (aCons (eC (.ty "tuple")) aNil))))) (bOf (eBin oNe (eCB fLen (aCons (eVar 0) aNil)) (eC (.int 4))))) (sRet (eC (.bl false))) sNil) t1_is_plane
noncomputable def m_is_plane : List D → EH → R D := mFun 1 2 b_is_plane
noncomputable def t3_parts_at : Sl → EH → RS := (sRet (eTup (aCons (eBin oAdd (eVar 5) (eBin oMul (eBin oIx (eVar 0) (eC (.int 3))) (eVar 6))) (aCons (eVar 6) aNil))))
noncomputable def t2_parts_at : Sl → EH → RS := sSeq (sAsg (eBin oMul (eBin oMul (eBin oIx (eVar 2) (eC (.int 1))) (eBin oIx (eVar 3) (eC (.int 1)))) (eBin oIx (eVar 4) (eC (.int 1)))) (gVar 6)) t3_parts_at
noncomputable def t1_parts_at : Sl → EH → RS := sSeq (sAsg (eBin oAdd (eBin oAdd (eBin oMul (eBin oMul (eBin oMul (eBin oIx (eVar 0) (eC (.int 0))) (eBin oIx (eVar 2) (eC (.int 0)))) (eBin oIx (eVar 3) (eC (.int 1)))) (eBin oIx (eVar 4) (eC (.int 1)))) (eBin oMul (eBin oMul (eBin oMul (eBin oIx (eVar 0) (eC (.int 1))) (eBin oIx (eVar 3) (eC (.int 0)))) (eBin oIx (eVar 2) (eC (.int 1)))) (eBin oIx (eVar 4) (eC (.int 1))))) (eBin oMul (eBin oMul (eBin oMul (eBin oIx (eVar 0) (eC (.int 2))) (eBin oIx (eVar 4) (eC (.int 0)))) (eBin oIx (eVar 2) (eC (.int 1)))) (eBin oIx (eVar 3) (eC (.int 1))))) (gVar 5)) t2_parts_at
noncomputable def b_parts_at : Sl → EH → RS := sSeq (sAsg (eVar 1) (gUnp 3 (gCons (gVar 2) (gCons (gVar 3) (gCons (gVar 4) gNil))))) t1_parts_at
noncomputable def m_parts_at : List D → EH → R D := mFun 2 7 b_parts_at
noncomputable def t3_side_of : Sl → EH → RS := (sRet (eC (.int 0)))
noncomputable def t2_side_of : Sl → EH → RS := sSeq (sIf (bOf (eBin oLt (eBin oIx (eVar 2) (eC (.int 0))) (eC (.int 0)))) (sRet (eUn oNeg (eC (.int 1)))) sNil) t3_side_of
noncomputable def t1_side_of : Sl → EH → RS := sSeq (sIf (bOf (eBin oGt (eBin oIx (eVar 2) (eC (.int 0))) (eC (.int 0)))) (sRet (eC (.int 1))) sNil) t2_side_of
noncomputable def b_side_of : Sl → EH → RS := sSeq (sAsg (eCall m_parts_at (aCons (eVar 0) (aCons (eVar 1) aNil))) (gVar 2)) t1_side_of
noncomputable def m_side_of : List D → EH → R D := mFun 2 3 b_side_of
noncomputable def t1_is_condition : Sl → EH → RS := (sRet (eAnd (eCall m_is_plane (aCons (eBin oIx (eVar 0) (eC (.int 0))) aNil)) (eAnd (eCall m_is_whole (aCons (eBin oIx (eVar 0) (eC (.int 1))) aNil)) (eChain oLe oLe (eUn oNeg (eC (.int 2))) (eBin oIx (eVar 0) (eC (.int 1))) (eC (.int 2))))))
noncomputable def b_is_condition : Sl → EH → RS := sSeq (sIf (bOr (bNot (bOf (eCB fIsi (aCons (eVar 0) (aCons (eC (.ty "tuple")) aNil))))) (bOf (eBin oNe (eCB fLen (aCons (eVar 0) aNil)) (eC (.int 2))))) (sRet (eC (.bl false))) sNil) t1_is_condition
noncomputable def m_is_condition : List D → EH → R D := mFun 1 1 b_is_condition
noncomputable def t1_is_conditions : Sl → EH → RS := (sRet (eLB (fun bs => bs.all id) (lComp [1] (iSeq (eVar 0)) (gVar 1) bYes (eCall m_is_condition (aCons (eVar 1) aNil)))))
noncomputable def b_is_conditions : Sl → EH → RS := sSeq (sIf (bNot (bOf (eCB fIsi (aCons (eVar 0) (aCons (eC (.ty "list")) aNil))))) (sRet (eC (.bl false))) sNil) t1_is_conditions
noncomputable def m_is_conditions : List D → EH → R D := mFun 1 2 b_is_conditions
noncomputable def t4_fulfils : Sl → EH → RS := (sRet (eOr (eBin oGt (eVar 3) (eC (.int 0))) (eAnd (eBin oEq (eVar 3) (eC (.int 0))) (eBin oEq (eCB fAbs (aCons (eVar 2) aNil)) (eC (.int 2))))))
noncomputable def t3_fulfils : Sl → EH → RS := sSeq (sIf (bOf (eBin oLt (eVar 2) (eC (.int 0)))) (sAsg (eUn oNeg (eVar 3)) (gVar 3)) sNil) t4_fulfils
noncomputable def t2_fulfils : Sl → EH → RS := sSeq (sIf (bOf (eBin oEq (eVar 2) (eC (.int 0)))) (sRet (eBin oEq (eVar 3) (eC (.int 0)))) sNil) t3_fulfils
noncomputable def t1_fulfils : Sl → EH → RS := sSeq (sAsg (eCall m_side_of (aCons (eBin oIx (eVar 0) (eC (.int 0))) (aCons (eVar 1) aNil))) (gVar 3)) t2_fulfils
noncomputable def b_fulfils : Sl → EH → RS := sSeq (sAsg (eBin oIx (eVar 0) (eC (.int 1))) (gVar 2)) t1_fulfils
noncomputable def m_fulfils : List D → EH → R D := mFun 2 4 b_fulfils
noncomputable def l0_holds : Sl → EH → RS := (sIf (bNot (bOf (eCall m_fulfils (aCons (eVar 2) (aCons (eVar 1) aNil))))) (sRet (eC (.bl false))) sNil)
noncomputable def q0_holds : Sl → EH → RS := sFor (iSeq (eVar 0)) (gVar 2) l0_holds
noncomputable def t1_holds : Sl → EH → RS := (sRet (eC (.bl true)))
noncomputable def b_holds : Sl → EH → RS := sSeq q0_holds t1_holds
noncomputable def m_holds : List D → EH → R D := mFun 2 3 b_holds
noncomputable def t1_closed_need : Sl → EH → RS := (sRet (eVar 0))
noncomputable def b_closed_need : Sl → EH → RS := sSeq (sIf (bOr (bOf (eBin oEq (eVar 0) (eC (.int 1)))) (bOf (eBin oEq (eVar 0) (eUn oNeg (eC (.int 1)))))) (sRet (eBin oMul (eC (.int 2)) (eVar 0))) sNil) t1_closed_need
noncomputable def m_closed_need : List D → EH → R D := mFun 1 1 b_closed_need
noncomputable def b_closed : Sl → EH → RS := (sRet (eNew (lComp [1, 2] (iSeq (eVar 0)) (gUnp 2 (gCons (gVar 1) (gCons (gVar 2) gNil))) bYes (eTup (aCons (eVar 1) (aCons (eCall m_closed_need (aCons (eVar 2) aNil)) aNil))))))
noncomputable def m_closed : List D → EH → R D := mFun 1 3 b_closed
noncomputable def t2__law_mix : Sl → EH → RS := (sRet (eBin oMod (eCB fInt (aCons (eBin oAdd (eBin oAdd (eBin oMul (eVar 3) (eVar 3)) (eBin oMul (eVar 2) (eC (.int 69621)))) (eC (.int 31))) aNil)) (eC (.int 2305843009213693951))))
noncomputable def t1__law_mix : Sl → EH → RS := sSeq (sAsg (eBin oMod (eCB fInt (aCons (eBin oAdd (eBin oAdd (eBin oMul (eVar 2) (eVar 2)) (eBin oMul (eVar 1) (eC (.int 48271)))) (eC (.int 7))) aNil)) (eC (.int 2305843009213693921))) (gVar 3)) t2__law_mix
noncomputable def b__law_mix : Sl → EH → RS := sSeq (sAsg (eBin oMod (eCB fInt (aCons (eBin oAdd (eBin oAdd (eBin oMul (eVar 0) (eC (.int 6364136223846793005))) (eBin oMul (eVar 1) (eC (.int 1442695040888963407)))) (eC (.int 99991))) aNil)) (eC (.int 2305843009213693951))) (gVar 2)) t1__law_mix
noncomputable def m__law_mix : List D → EH → R D := mFun 2 4 b__law_mix
noncomputable def l0__law_store : Sl → EH → RS := (sAsg (eCall m__law_mix (aCons (eVar 1) (aCons (eBin oMod (eCB fInt (aCons (eVar 2) aNil)) (eC (.int 2305843009213693951))) aNil))) (gVar 1))
noncomputable def q0__law_store : Sl → EH → RS := sFor (iSeq (eVar 0)) (gVar 2) l0__law_store
noncomputable def t2__law_store : Sl → EH → RS := (sRet (eNew (lDisp (aCons (eNew (lList (eVar 0))) (aCons (eC (.int 0)) (aCons (eC (.int 0)) (aCons (eC (.int 0)) (aCons (eC (.int 0)) (aCons (eVar 1) (aCons (eC (.int 0)) aNil))))))))))
noncomputable def t1__law_store : Sl → EH → RS := sSeq q0__law_store t2__law_store
noncomputable def b__law_store : Sl → EH → RS := sSeq (sAsg (eBin oAdd (eC (.int 17)) (eCB fLen (aCons (eVar 0) aNil))) (gVar 1)) t1__law_store
noncomputable def m__law_store : List D → EH → R D := mFun 1 3 b__law_store
noncomputable def t5__law_take : Sl → EH → RS := (sRet (eBin oMod (eCB fInt (aCons (eCall m__law_mix (aCons (eCall m__law_mix (aCons (eBin oIx (eVar 0) (eC (.int 5))) (aCons (eBin oIx (eVar 0) (eC (.int 4))) aNil))) (aCons (eBin oIx (eVar 0) (eC (.int 4))) aNil))) aNil)) (eVar 1)))
noncomputable def t4__law_take : Sl → EH → RS := sSeq (sIf (bOf (eBin oGt (eBin oIx (eVar 0) (eC (.int 3))) (eC (.int 0)))) (sSeq (sAsg (eBin oSub (eBin oIx (eVar 0) (eC (.int 3))) (eC (.int 1))) (gSubD (eVar 0) (eC (.int 3)))) (sRet (eBin oMod (eCB fInt (aCons (eCall m__law_mix (aCons (eBin oIx (eVar 0) (eC (.int 6))) (aCons (eBin oIx (eVar 0) (eC (.int 4))) aNil))) aNil)) (eVar 1)))) sNil) t5__law_take
noncomputable def t3__law_take : Sl → EH → RS := sSeq (sAsg (eBin oAdd (eBin oIx (eVar 0) (eC (.int 4))) (eC (.int 1))) (gSubD (eVar 0) (eC (.int 4)))) t4__law_take
noncomputable def t2__law_take : Sl → EH → RS := sSeq (sIf (bOf (eBin oGt (eBin oIx (eVar 0) (eC (.int 2))) (eC (.int 0)))) (sSeq (sAsg (eCB fInt (aCons (eBin oIx (eVar 0) (eC (.int 2))) aNil)) (gVar 3)) (sSeq (sAsg (eBin oDiv (eVar 3) (eVar 1)) (gSubD (eVar 0) (eC (.int 2)))) (sRet (eBin oMod (eVar 3) (eVar 1))))) sNil) t3__law_take
noncomputable def t1__law_take : Sl → EH → RS := sSeq (sIf (bAnd (bOf (eBin oEq (eBin oIx (eVar 0) (eC (.int 2))) (eC (.int 0)))) (bAnd (bOf (eBin oEq (eBin oIx (eVar 0) (eC (.int 3))) (eC (.int 0)))) (bOf (eBin oLt (eBin oIx (eVar 0) (eC (.int 1))) (eCB fLen (aCons (eBin oIx (eVar 0) (eC (.int 0))) aNil)))))) (sSeq (sAsg (eCB fInt (aCons (eBin oIx (eBin oIx (eVar 0) (eC (.int 0))) (eBin oIx (eVar 0) (eC (.int 1)))) aNil)) (gVar 2)) (sSeq (sAsg (eBin oAdd (eBin oIx (eVar 0) (eC (.int 1))) (eC (.int 1))) (gSubD (eVar 0) (eC (.int 1)))) (sIf (bOf (eBin oGe (eCB fAbs (aCons (eVar 2) aNil)) (eBin oPow (eC (.int 10)) (eC (.int 18))))) (sAsg (eCB fAbs (aCons (eVar 2) aNil)) (gSubD (eVar 0) (eC (.int 2)))) (sSeq (sAsg (eC (.int 4)) (gSubD (eVar 0) (eC (.int 3)))) (sAsg (eCall m__law_mix (aCons (eBin oIx (eVar 0) (eC (.int 5))) (aCons (eVar 2) aNil))) (gSubD (eVar 0) (eC (.int 6)))))))) sNil) t2__law_take
noncomputable def b__law_take : Sl → EH → RS := sSeq (sAsg (eCB fMax2 (aCons (eC (.int 1)) (aCons (eVar 1) aNil))) (gVar 1)) t1__law_take
noncomputable def m__law_take : List D → EH → R D := mFun 2 4 b__law_take
noncomputable def b__law_pick : Sl → EH → RS := (sRet (eBin oIx (eVar 1) (eCall m__law_take (aCons (eVar 0) (aCons (eCB fLen (aCons (eVar 1) aNil)) aNil)))))
noncomputable def m__law_pick : List D → EH → R D := mFun 2 2 b__law_pick
noncomputable def t3__law_few : Sl → EH → RS := (sRet (eBin oAdd (eC (.int 1)) (eCall m__law_take (aCons (eVar 0) (aCons (eCB fMin2 (aCons (eC (.int 4)) (aCons (eVar 1) aNil))) aNil)))))
noncomputable def t2__law_few : Sl → EH → RS := sSeq (sIf (bOf (eBin oEq (eVar 2) (eC (.int 1)))) (sRet (eVar 1)) sNil) t3__law_few
noncomputable def t1__law_few : Sl → EH → RS := sSeq (sIf (bOr (bOf (eBin oEq (eVar 2) (eC (.int 0)))) (bOf (eBin oLt (eVar 1) (eC (.int 1))))) (sRet (eC (.int 0))) sNil) t2__law_few
noncomputable def b__law_few : Sl → EH → RS := sSeq (sAsg (eCall m__law_take (aCons (eVar 0) (aCons (eC (.int 8)) aNil))) (gVar 2)) t1__law_few
noncomputable def m__law_few : List D → EH → R D := mFun 2 3 b__law_few
noncomputable def l0__law_wide : Sl → EH → RS := (sAsg (eBin oAdd (eBin oMul (eVar 2) (eC (.int 10))) (eCall m__law_take (aCons (eVar 0) (aCons (eC (.int 10)) aNil)))) (gVar 2))
noncomputable def q0__law_wide : Sl → EH → RS := sFor (iRng asR1 (aCons (eVar 1) aNil)) (gVar 3) l0__law_wide
noncomputable def t2__law_wide : Sl → EH → RS := (sRet (eVar 2))
noncomputable def t1__law_wide : Sl → EH → RS := sSeq q0__law_wide t2__law_wide
noncomputable def b__law_wide : Sl → EH → RS := sSeq (sAsg (eC (.int 0)) (gVar 2)) t1__law_wide
noncomputable def m__law_wide : List D → EH → R D := mFun 2 4 b__law_wide
noncomputable def l0__law_integer : Sl → EH → RS := (sAsg (eBin oMul (eVar 2) (eC (.int 10))) (gVar 2))
noncomputable def q0__law_integer : Sl → EH → RS := sFor (iRng asR1 (aCons (eCall m__law_take (aCons (eVar 0) (aCons (eC (.int 40)) aNil))) aNil)) (gVar 3) l0__law_integer
noncomputable def t6__law_integer : Sl → EH → RS := (sRet (eVar 2))
noncomputable def t5__law_integer : Sl → EH → RS := sSeq (sIf (bOf (eBin oEq (eCall m__law_take (aCons (eVar 0) (aCons (eC (.int 2)) aNil))) (eC (.int 0)))) (sRet (eUn oNeg (eVar 2))) sNil) t6__law_integer
noncomputable def t4__law_integer : Sl → EH → RS := sSeq (sIf (bOf (eBin oEq (eVar 1) (eC (.int 1)))) (sSeq q0__law_integer (sAsg (eBin oSub (eBin oAdd (eVar 2) (eCall m__law_take (aCons (eVar 0) (aCons (eC (.int 3)) aNil)))) (eC (.int 1))) (gVar 2))) (sAsg (eCall m__law_wide (aCons (eVar 0) (aCons (eBin oAdd (eC (.int 1)) (eCall m__law_take (aCons (eVar 0) (aCons (eC (.int 40)) aNil)))) aNil))) (gVar 2))) t5__law_integer
noncomputable def t3__law_integer : Sl → EH → RS := sSeq (sAsg (eC (.int 1)) (gVar 2)) t4__law_integer
noncomputable def t2__law_integer : Sl → EH → RS := sSeq (sIf (bOf (eBin oGt (eVar 1) (eC (.int 2)))) (sRet (eBin oSub (eCall m__law_take (aCons (eVar 0) (aCons (eC (.int 2000)) aNil))) (eC (.int 1000)))) sNil) t3__law_integer
noncomputable def t1__law_integer : Sl → EH → RS := sSeq (sIf (bOf (eBin oEq (eVar 1) (eC (.int 0)))) (sRet (eBin oSub (eCall m__law_take (aCons (eVar 0) (aCons (eC (.int 5)) aNil))) (eC (.int 2)))) sNil) t2__law_integer
noncomputable def b__law_integer : Sl → EH → RS := sSeq (sAsg (eCall m__law_take (aCons (eVar 0) (aCons (eC (.int 6)) aNil))) (gVar 1)) t1__law_integer
noncomputable def m__law_integer : List D → EH → R D := mFun 1 4 b__law_integer
noncomputable def w0__law_gcd : Sl → EH → R Bool := (bOf (eBin oGt (eVar 1) (eC (.int 0))))
noncomputable def l0__law_gcd : Sl → EH → RS := (sSeq (sAsg (eBin oMod (eCB fInt (aCons (eVar 0) aNil)) (eVar 1)) (gVar 2)) (sSeq (sAsg (eVar 1) (gVar 0)) (sAsg (eVar 2) (gVar 1))))
noncomputable def q0__law_gcd : Sl → EH → RS := sWhile w0__law_gcd l0__law_gcd
noncomputable def t3__law_gcd : Sl → EH → RS := (sRet (eVar 0))
noncomputable def t2__law_gcd : Sl → EH → RS := sSeq q0__law_gcd t3__law_gcd
noncomputable def t1__law_gcd : Sl → EH → RS := sSeq (sAsg (eCB fAbs (aCons (eVar 1) aNil)) (gVar 1)) t2__law_gcd
noncomputable def b__law_gcd : Sl → EH → RS := sSeq (sAsg (eCB fAbs (aCons (eVar 0) aNil)) (gVar 0)) t1__law_gcd
noncomputable def m__law_gcd : List D → EH → R D := mFun 2 3 b__law_gcd
noncomputable def t3__law_frac : Sl → EH → RS := (sRet (eTup (aCons (eBin oDiv (eVar 0) (eVar 2)) (aCons (eBin oDiv (eVar 1) (eVar 2)) aNil))))
noncomputable def t2__law_frac : Sl → EH → RS := sSeq (sIf (bOf (eBin oLt (eVar 1) (eC (.int 0)))) (sAsg (eUn oNeg (eVar 2)) (gVar 2)) sNil) t3__law_frac
noncomputable def t1__law_frac : Sl → EH → RS := sSeq (sAsg (eCall m__law_gcd (aCons (eVar 0) (aCons (eVar 1) aNil))) (gVar 2)) t2__law_frac
noncomputable def b__law_frac : Sl → EH → RS := sSeq (sIf (bOf (eBin oEq (eVar 1) (eC (.int 0)))) (sRet (eTup (aCons (eC (.int 0)) (aCons (eC (.int 1)) aNil)))) sNil) t1__law_frac
noncomputable def m__law_frac : List D → EH → R D := mFun 2 3 b__law_frac
noncomputable def t3__law_ratio : Sl → EH → RS := (sRet (eCall m__law_frac (aCons (eBin oSub (eCall m__law_take (aCons (eVar 0) (aCons (eC (.int 25)) aNil))) (eC (.int 12))) (aCons (eBin oAdd (eC (.int 2)) (eCall m__law_take (aCons (eVar 0) (aCons (eC (.int 5)) aNil)))) aNil))))
noncomputable def t2__law_ratio : Sl → EH → RS := sSeq (sIf (bOf (eBin oEq (eVar 1) (eC (.int 1)))) (sRet (eTup (aCons (eBin oSub (eCall m__law_take (aCons (eVar 0) (aCons (eC (.int 13)) aNil))) (eC (.int 6))) (aCons (eC (.int 1)) aNil)))) sNil) t3__law_ratio
noncomputable def t1__law_ratio : Sl → EH → RS := sSeq (sIf (bOf (eBin oEq (eVar 1) (eC (.int 0)))) (sRet (eTup (aCons (eBin oSub (eCall m__law_take (aCons (eVar 0) (aCons (eC (.int 3)) aNil))) (eC (.int 1))) (aCons (eC (.int 1)) aNil)))) sNil) t2__law_ratio
noncomputable def b__law_ratio : Sl → EH → RS := sSeq (sAsg (eCall m__law_take (aCons (eVar 0) (aCons (eC (.int 3)) aNil))) (gVar 1)) t1__law_ratio
noncomputable def m__law_ratio : List D → EH → R D := mFun 1 2 b__law_ratio
noncomputable def b__law_is_integer : Sl → EH → RS := (sRet (eAnd (eCB fIsi (aCons (eVar 0) (aCons (eC (.ty "int")) aNil))) (eNot (eCB fIsi (aCons (eVar 0) (aCons (eC (.ty "bool")) aNil))))))
noncomputable def m__law_is_integer : List D → EH → R D := mFun 1 1 b__law_is_integer
noncomputable def l0__law_copy (ρ : List D → EH → R D) : Sl → EH → RS := (sAsg (eCall ρ (aCons (eBin oIx (eVar 0) (eVar 3)) aNil)) (gDPut (eVar 2) (eVar 3)))
noncomputable def q0__law_copy (ρ : List D → EH → R D) : Sl → EH → RS := sFor (iSeq (eVar 0)) (gVar 3) (l0__law_copy ρ)
noncomputable def t3__law_copy (ρ : List D → EH → R D) : Sl → EH → RS := (sRet (eVar 0))
noncomputable def t2__law_copy (ρ : List D → EH → R D) : Sl → EH → RS := sSeq (sIf (bOf (eCB fIsi (aCons (eVar 0) (aCons (eC (.ty "dict")) aNil)))) (sSeq (sAsg eDictT (gVar 2)) (sSeq (q0__law_copy ρ) (sRet (eVar 2)))) sNil) (t3__law_copy ρ)
noncomputable def t1__law_copy (ρ : List D → EH → R D) : Sl → EH → RS := sSeq (sIf (bOf (eCB fIsi (aCons (eVar 0) (aCons (eC (.ty "tuple")) aNil)))) (sRet (eTupL (lComp [1] (iSeq (eVar 0)) (gVar 1) bYes (eCall ρ (aCons (eVar 1) aNil))))) sNil) (t2__law_copy ρ)
noncomputable def b__law_copy (ρ : List D → EH → R D) : Sl → EH → RS := sSeq (sIf (bOf (eCB fIsi (aCons (eVar 0) (aCons (eC (.ty "list")) aNil)))) (sRet (eNew (lComp [1] (iSeq (eVar 0)) (gVar 1) bYes (eCall ρ (aCons (eVar 1) aNil))))) sNil) (t1__law_copy ρ)
noncomputable def r__law_copy : Nat → List D → EH → R D
  | 0 => fun _ _ => .bad
  | i + 1 => mFun 1 4 (b__law_copy (r__law_copy i))
noncomputable def m__law_copy : List D → EH → R D := r__law_copy 6
noncomputable def l0__law_spots (ρ : List D → EH → R D) : Sl → EH → RS := (sAsg (eBin oAdd (eVar 1) (eCall ρ (aCons (eVar 2) aNil))) (gVar 1))
noncomputable def q0__law_spots (ρ : List D → EH → R D) : Sl → EH → RS := sFor (iSeq (eVar 0)) (gVar 2) (l0__law_spots ρ)
noncomputable def t2__law_spots (ρ : List D → EH → R D) : Sl → EH → RS := (sRet (eVar 1))
noncomputable def t1__law_spots (ρ : List D → EH → R D) : Sl → EH → RS := sSeq (sIf (bOf (eIsiT ["list", "tuple"] (eVar 0))) (q0__law_spots ρ) sNil) (t2__law_spots ρ)
noncomputable def b__law_spots (ρ : List D → EH → R D) : Sl → EH → RS := sSeq (sAsg (eC (.int 1)) (gVar 1)) (t1__law_spots ρ)
noncomputable def r__law_spots : Nat → List D → EH → R D
  | 0 => fun _ _ => .bad
  | i + 1 => mFun 1 3 (b__law_spots (r__law_spots i))
noncomputable def m__law_spots : List D → EH → R D := r__law_spots 6
noncomputable def t5__law_bend_one : Sl → EH → RS := (sRet (eBin oIx (eNew (lDisp (aCons (eC (.int 0)) (aCons (eC (.int 1)) (aCons (eNew (lDisp aNil)) (aCons (eTup aNil) (aCons (eC (.str "")) (aCons (eC .non) (aCons (eC (.bl true)) (aCons (eC (.str "in")) (aCons (eUn oNeg (eC (.int 1))) (aCons (eTup (aCons (eC (.int 0)) (aCons (eC (.int 1)) aNil))) aNil)))))))))))) (eVar 1)))
noncomputable def t4__law_bend_one : Sl → EH → RS := sSeq (sIf (bOf (eCB fIsi (aCons (eVar 0) (aCons (eC (.ty "list")) aNil)))) (sSeq (sIf (bOf (eBin oLt (eVar 1) (eC (.int 5)))) (sRet (eBin oIx (eNew (lDisp (aCons (eC .non) (aCons (eCB fTuple (aCons (eVar 0) aNil)) (aCons (eSl (eVar 0) pNo (pSo (eUn oNeg (eC (.int 1))))) (aCons (eBin oAdd (eVar 0) (eNew (lDisp (aCons (eC (.int 0)) aNil)))) (aCons (eSl (eVar 0) (pSo (eC (.int 1))) pNo) aNil))))))) (eVar 1))) sNil) (sRet (eBin oIx (eNew (lDisp (aCons (eNew (lDisp (aCons (eVar 0) aNil))) (aCons (eBin oAdd (eVar 0) (eSl (eVar 0) pNo (pSo (eC (.int 1))))) (aCons (eRev2 (eVar 0)) (aCons (eNew (lDisp aNil)) (aCons (eC (.str "")) aNil))))))) (eBin oSub (eVar 1) (eC (.int 5)))))) sNil) t5__law_bend_one
noncomputable def t3__law_bend_one : Sl → EH → RS := sSeq (sIf (bOf (eCB fIsi (aCons (eVar 0) (aCons (eC (.ty "tuple")) aNil)))) (sSeq (sIf (bOf (eBin oLt (eVar 1) (eC (.int 5)))) (sRet (eBin oIx (eNew (lDisp (aCons (eC .non) (aCons (eNew (lList (eVar 0))) (aCons (eSl (eVar 0) pNo (pSo (eUn oNeg (eC (.int 1))))) (aCons (eBin oAdd (eVar 0) (eTup (aCons (eC (.int 0)) aNil))) (aCons (eSl (eVar 0) (pSo (eC (.int 1))) pNo) aNil))))))) (eVar 1))) sNil) (sRet (eBin oIx (eNew (lDisp (aCons (eTup (aCons (eVar 0) aNil)) (aCons (eBin oAdd (eVar 0) (eSl (eVar 0) pNo (pSo (eC (.int 1))))) (aCons (eRev2 (eVar 0)) (aCons (eTup aNil) (aCons (eC (.int 0)) aNil))))))) (eBin oSub (eVar 1) (eC (.int 5)))))) sNil) t4__law_bend_one
noncomputable def t2__law_bend_one : Sl → EH → RS := sSeq (sIf (bOf (eCB fIsi (aCons (eVar 0) (aCons (eC (.ty "str")) aNil)))) (sRet (eBin oIx (eNew (lDisp (aCons (eC .non) (aCons (eC (.str "")) (aCons (eBin oAdd (eVar 0) (eC (.str " "))) (aCons (eMt "str" fUpper (eVar 0) aNil) (aCons (eNew (lDisp (aCons (eVar 0) aNil))) (aCons (eTup (aCons (eVar 0) aNil)) (aCons (eBin oAdd (eVar 0) (eVar 0)) (aCons (eC (.int 0)) (aCons (eC (.str "in")) (aCons (eC (.bl true)) aNil)))))))))))) (eVar 1))) sNil) t3__law_bend_one
noncomputable def t1__law_bend_one : Sl → EH → RS := sSeq (sIf (bOf (eCB fIsi (aCons (eVar 0) (aCons (eC (.ty "int")) aNil)))) (sRet (eBin oIx (eNew (lDisp (aCons (eC .non) (aCons (eCB fStrI (aCons (eVar 0) aNil)) (aCons (eBin oEq (eVar 0) (eC (.int 1))) (aCons (eBin oEq (eVar 0) (eC (.int 0))) (aCons (eUn oNeg (eVar 0)) (aCons (eC (.int 0)) (aCons (eTup (aCons (eVar 0) (aCons (eC (.int 1)) aNil))) (aCons (eNew (lDisp (aCons (eVar 0) aNil))) (aCons (eBin oDiv (eCB fAbs (aCons (eVar 0) aNil)) (eC (.int 2))) (aCons (eC (.int 3)) aNil)))))))))))) (eVar 1))) sNil) t2__law_bend_one
noncomputable def b__law_bend_one : Sl → EH → RS := sSeq (sIf (bOr (bOf (eCB fIsi (aCons (eVar 0) (aCons (eC (.ty "bool")) aNil)))) (bOf (eBin oIs (eVar 0) (eC .non)))) (sRet (eBin oIx (eNew (lDisp (aCons (eC (.int 0)) (aCons (eC (.int 1)) (aCons (eC (.str "None")) (aCons (eNew (lDisp (aCons (eVar 0) aNil))) (aCons (eTup (aCons (eVar 0) aNil)) (aCons (eNew (lDisp aNil)) (aCons (eC (.str "")) (aCons (eC (.int 2)) (aCons (eUn oNeg (eC (.int 1))) (aCons (eTup (aCons (eC (.int 0)) (aCons (eC (.int 1)) aNil))) aNil)))))))))))) (eVar 1))) sNil) t1__law_bend_one
noncomputable def m__law_bend_one : List D → EH → R D := mFun 2 2 b__law_bend_one
noncomputable def l0__law_bend (ρ : List D → EH → R D) : Sl → EH → RS := (sSeq (sAsg (eCall m__law_spots (aCons (eVar 5) aNil)) (gVar 6)) (sSeq (sIf (bAnd (bOf (eBin oGe (eVar 4) (eC (.int 0)))) (bOf (eBin oLt (eVar 4) (eVar 6)))) (sExpr (eMt "list" fAppend (eVar 3) (aCons (eCall ρ (aCons (eVar 5) (aCons (eVar 4) (aCons (eVar 2) aNil)))) aNil))) (sExpr (eMt "list" fAppend (eVar 3) (aCons (eCall m__law_copy (aCons (eVar 5) aNil)) aNil)))) (sAsg (eBin oSub (eVar 4) (eVar 6)) (gVar 4))))
noncomputable def q0__law_bend (ρ : List D → EH → R D) : Sl → EH → RS := sFor (iSeq (eVar 0)) (gVar 5) (l0__law_bend ρ)
noncomputable def t6__law_bend (ρ : List D → EH → R D) : Sl → EH → RS := (sRet (eVar 3))
noncomputable def t5__law_bend (ρ : List D → EH → R D) : Sl → EH → RS := sSeq (sIf (bOf (eCB fIsi (aCons (eVar 0) (aCons (eC (.ty "tuple")) aNil)))) (sRet (eCB fTuple (aCons (eVar 3) aNil))) sNil) (t6__law_bend ρ)
noncomputable def t4__law_bend (ρ : List D → EH → R D) : Sl → EH → RS := sSeq (q0__law_bend ρ) (t5__law_bend ρ)
noncomputable def t3__law_bend (ρ : List D → EH → R D) : Sl → EH → RS := sSeq (sAsg (eBin oSub (eVar 1) (eC (.int 1))) (gVar 4)) (t4__law_bend ρ)
noncomputable def t2__law_bend (ρ : List D → EH → R D) : Sl → EH → RS := sSeq (sAsg (eNew (lDisp aNil)) (gVar 3)) (t3__law_bend ρ)
noncomputable def t1__law_bend (ρ : List D → EH → R D) : Sl → EH → RS := sSeq (sIf (bNot (bOf (eIsiT ["list", "tuple"] (eVar 0)))) (sRet (eVar 0)) sNil) (t2__law_bend ρ)
noncomputable def b__law_bend (ρ : List D → EH → R D) : Sl → EH → RS := sSeq (sIf (bOf (eBin oEq (eVar 1) (eC (.int 0)))) (sRet (eCall m__law_bend_one (aCons (eCall m__law_copy (aCons (eVar 0) aNil)) (aCons (eVar 2) aNil)))) sNil) (t1__law_bend ρ)
noncomputable def r__law_bend : Nat → List D → EH → R D
  | 0 => fun _ _ => .bad
  | i + 1 => mFun 3 7 (b__law_bend (r__law_bend i))
noncomputable def m__law_bend : List D → EH → R D := r__law_bend 6
noncomputable def t5__law_point : Sl → EH → RS := (sRet (eTup (aCons (eVar 2) (aCons (eVar 3) (aCons (eCall m__law_ratio (aCons (eVar 0) aNil)) aNil)))))
noncomputable def t4__law_point : Sl → EH → RS := sSeq (sAsg (eCall m__law_ratio (aCons (eVar 0) aNil)) (gVar 3)) t5__law_point
noncomputable def t3__law_point : Sl → EH → RS := sSeq (sIf (bOf (eBin oEq (eVar 1) (eC (.int 1)))) (sRet (eTup (aCons (eVar 2) (aCons (eVar 2) (aCons (eVar 2) aNil))))) sNil) t4__law_point
noncomputable def t2__law_point : Sl → EH → RS := sSeq (sAsg (eCall m__law_ratio (aCons (eVar 0) aNil)) (gVar 2)) t3__law_point
noncomputable def t1__law_point : Sl → EH → RS := sSeq (sIf (bOf (eBin oEq (eVar 1) (eC (.int 0)))) (sRet (eTup (aCons (eTup (aCons (eBin oSub (eCall m__law_take (aCons (eVar 0) (aCons (eC (.int 3)) aNil))) (eC (.int 1))) (aCons (eC (.int 1)) aNil))) (aCons (eTup (aCons (eBin oSub (eCall m__law_take (aCons (eVar 0) (aCons (eC (.int 3)) aNil))) (eC (.int 1))) (aCons (eC (.int 1)) aNil))) (aCons (eTup (aCons (eBin oSub (eCall m__law_take (aCons (eVar 0) (aCons (eC (.int 3)) aNil))) (eC (.int 1))) (aCons (eC (.int 1)) aNil))) aNil))))) sNil) t2__law_point
noncomputable def b__law_point : Sl → EH → RS := sSeq (sAsg (eCall m__law_take (aCons (eVar 0) (aCons (eC (.int 4)) aNil))) (gVar 1)) t1__law_point
noncomputable def m__law_point : List D → EH → R D := mFun 1 4 b__law_point
noncomputable def l0__law_is_plane : Sl → EH → RS := (sSeq (sIf (bNot (bOf (eCall m__law_is_integer (aCons (eVar 2) aNil)))) (sRet (eC (.bl false))) sNil) (sAsg (eCall m__law_gcd (aCons (eVar 1) (aCons (eVar 2) aNil))) (gVar 1)))
noncomputable def q0__law_is_plane : Sl → EH → RS := sFor (iSeq (eVar 0)) (gVar 2) l0__law_is_plane
noncomputable def l1__law_is_plane : Sl → EH → RS := (sIf (bOf (eBin oNe (eVar 2) (eC (.int 0)))) (sRet (eBin oGt (eVar 2) (eC (.int 0)))) sNil)
noncomputable def q1__law_is_plane : Sl → EH → RS := sFor (iSeq (eSl (eVar 0) pNo (pSo (eC (.int 3))))) (gVar 2) l1__law_is_plane
noncomputable def t5__law_is_plane : Sl → EH → RS := (sRet (eC (.bl false)))
noncomputable def t4__law_is_plane : Sl → EH → RS := sSeq q1__law_is_plane t5__law_is_plane
noncomputable def t3__law_is_plane : Sl → EH → RS := sSeq (sIf (bOf (eBin oNe (eVar 1) (eC (.int 1)))) (sRet (eC (.bl false))) sNil) t4__law_is_plane
noncomputable def t2__law_is_plane : Sl → EH → RS := sSeq q0__law_is_plane t3__law_is_plane
noncomputable def t1__law_is_plane : Sl → EH → RS := sSeq (sAsg (eC (.int 0)) (gVar 1)) t2__law_is_plane
noncomputable def b__law_is_plane : Sl → EH → RS := sSeq (sIf (bOr (bNot (bOf (eCB fIsi (aCons (eVar 0) (aCons (eC (.ty "tuple")) aNil))))) (bOf (eBin oNe (eCB fLen (aCons (eVar 0) aNil)) (eC (.int 4))))) (sRet (eC (.bl false))) sNil) t1__law_is_plane
noncomputable def m__law_is_plane : List D → EH → R D := mFun 1 3 b__law_is_plane
noncomputable def t1__law_is_condition : Sl → EH → RS := (sRet (eAnd (eCall m__law_is_integer (aCons (eBin oIx (eVar 0) (eC (.int 1))) aNil)) (eAnd (eBin oGe (eBin oIx (eVar 0) (eC (.int 1))) (eUn oNeg (eC (.int 2)))) (eBin oLe (eBin oIx (eVar 0) (eC (.int 1))) (eC (.int 2))))))
noncomputable def b__law_is_condition : Sl → EH → RS := sSeq (sIf (bOr (bNot (bOf (eCB fIsi (aCons (eVar 0) (aCons (eC (.ty "tuple")) aNil))))) (bOr (bOf (eBin oNe (eCB fLen (aCons (eVar 0) aNil)) (eC (.int 2)))) (bNot (bOf (eCall m__law_is_plane (aCons (eBin oIx (eVar 0) (eC (.int 0))) aNil)))))) (sRet (eC (.bl false))) sNil) t1__law_is_condition
noncomputable def m__law_is_condition : List D → EH → R D := mFun 1 1 b__law_is_condition
noncomputable def l0__law_is_conditions : Sl → EH → RS := (sIf (bNot (bOf (eCall m__law_is_condition (aCons (eVar 1) aNil)))) (sRet (eC (.bl false))) sNil)
noncomputable def q0__law_is_conditions : Sl → EH → RS := sFor (iSeq (eVar 0)) (gVar 1) l0__law_is_conditions
noncomputable def t2__law_is_conditions : Sl → EH → RS := (sRet (eC (.bl true)))
noncomputable def t1__law_is_conditions : Sl → EH → RS := sSeq q0__law_is_conditions t2__law_is_conditions
noncomputable def b__law_is_conditions : Sl → EH → RS := sSeq (sIf (bNot (bOf (eCB fIsi (aCons (eVar 0) (aCons (eC (.ty "list")) aNil))))) (sRet (eC (.bl false))) sNil) t1__law_is_conditions
noncomputable def m__law_is_conditions : List D → EH → R D := mFun 1 2 b__law_is_conditions
noncomputable def t5__law_form : Sl → EH → RS := (sRet (eTup (aCons (eTup (aCons (eBin oDiv (eVar 0) (eVar 4)) (aCons (eBin oDiv (eVar 1) (eVar 4)) (aCons (eBin oDiv (eVar 2) (eVar 4)) (aCons (eBin oDiv (eVar 3) (eVar 4)) aNil))))) (aCons (eVar 5) aNil))))
noncomputable def t4__law_form : Sl → EH → RS := sSeq (sAsg (eBin oMul (eVar 4) (eVar 5)) (gVar 4)) t5__law_form
noncomputable def t3__law_form : Sl → EH → RS := sSeq (sIf (bOr (bOf (eBin oLt (eVar 0) (eC (.int 0)))) (bAnd (bOf (eBin oEq (eVar 0) (eC (.int 0)))) (bOr (bOf (eBin oLt (eVar 1) (eC (.int 0)))) (bAnd (bOf (eBin oEq (eVar 1) (eC (.int 0)))) (bOf (eBin oLt (eVar 2) (eC (.int 0)))))))) (sAsg (eUn oNeg (eC (.int 1))) (gVar 5)) sNil) t4__law_form
noncomputable def t2__law_form : Sl → EH → RS := sSeq (sAsg (eC (.int 1)) (gVar 5)) t3__law_form
noncomputable def t1__law_form : Sl → EH → RS := sSeq (sAsg (eCall m__law_gcd (aCons (eCall m__law_gcd (aCons (eVar 0) (aCons (eVar 1) aNil))) (aCons (eCall m__law_gcd (aCons (eVar 2) (aCons (eVar 3) aNil))) aNil))) (gVar 4)) t2__law_form
noncomputable def b__law_form : Sl → EH → RS := sSeq (sIf (bAnd (bOf (eBin oEq (eVar 0) (eC (.int 0)))) (bAnd (bOf (eBin oEq (eVar 1) (eC (.int 0)))) (bOf (eBin oEq (eVar 2) (eC (.int 0)))))) (sRet (eC .non)) sNil) t1__law_form
noncomputable def m__law_form : List D → EH → R D := mFun 4 6 b__law_form
noncomputable def t8__law_normal : Sl → EH → RS := (sRet (eTup (aCons (eVar 3) (aCons (eVar 4) (aCons (eVar 5) aNil)))))
noncomputable def t7__law_normal : Sl → EH → RS := sSeq (sIf (bAnd (bOf (eBin oEq (eVar 3) (eC (.int 0)))) (bAnd (bOf (eBin oEq (eVar 4) (eC (.int 0)))) (bOf (eBin oEq (eVar 5) (eC (.int 0)))))) (sAsg (eC (.int 1)) (gVar 3)) sNil) t8__law_normal
noncomputable def t6__law_normal : Sl → EH → RS := sSeq (sAsg (eBin oSub (eCall m__law_take (aCons (eVar 0) (aCons (eBin oAdd (eBin oMul (eC (.int 2)) (eVar 2)) (eC (.int 1))) aNil))) (eVar 2)) (gVar 5)) t7__law_normal
noncomputable def t5__law_normal : Sl → EH → RS := sSeq (sAsg (eBin oSub (eCall m__law_take (aCons (eVar 0) (aCons (eBin oAdd (eBin oMul (eC (.int 2)) (eVar 2)) (eC (.int 1))) aNil))) (eVar 2)) (gVar 4)) t6__law_normal
noncomputable def t4__law_normal : Sl → EH → RS := sSeq (sAsg (eBin oSub (eCall m__law_take (aCons (eVar 0) (aCons (eBin oAdd (eBin oMul (eC (.int 2)) (eVar 2)) (eC (.int 1))) aNil))) (eVar 2)) (gVar 3)) t5__law_normal
noncomputable def t3__law_normal : Sl → EH → RS := sSeq (sIf (bOf (eBin oLt (eVar 1) (eC (.int 11)))) (sAsg (eC (.int 9)) (gVar 2)) sNil) t4__law_normal
noncomputable def t2__law_normal : Sl → EH → RS := sSeq (sAsg (eC (.int 2)) (gVar 2)) t3__law_normal
noncomputable def t1__law_normal : Sl → EH → RS := sSeq (sIf (bOf (eBin oLt (eVar 1) (eC (.int 8)))) (sRet (eBin oIx (eNew (lDisp (aCons (eTup (aCons (eC (.int 1)) (aCons (eC (.int 0)) (aCons (eC (.int 0)) aNil)))) (aCons (eTup (aCons (eC (.int 0)) (aCons (eC (.int 1)) (aCons (eC (.int 0)) aNil)))) (aCons (eTup (aCons (eC (.int 0)) (aCons (eC (.int 0)) (aCons (eC (.int 1)) aNil)))) aNil))))) (eCall m__law_take (aCons (eVar 0) (aCons (eC (.int 3)) aNil))))) sNil) t2__law_normal
noncomputable def b__law_normal : Sl → EH → RS := sSeq (sAsg (eCall m__law_take (aCons (eVar 0) (aCons (eC (.int 24)) aNil))) (gVar 1)) t1__law_normal
noncomputable def m__law_normal : List D → EH → R D := mFun 1 6 b__law_normal
noncomputable def t2__law_plane : Sl → EH → RS := (sRet (eBin oIx (eCall m__law_form (aCons (eVar 1) (aCons (eVar 2) (aCons (eVar 3) (aCons (eBin oSub (eCall m__law_take (aCons (eVar 0) (aCons (eC (.int 11)) aNil))) (eC (.int 5))) aNil))))) (eC (.int 0))))
noncomputable def t1__law_plane : Sl → EH → RS := sSeq (sIf (bOf (eBin oEq (eCall m__law_take (aCons (eVar 0) (aCons (eC (.int 8)) aNil))) (eC (.int 0)))) (sRet (eBin oIx (eCall m__law_form (aCons (eBin oMul (eC (.int 2)) (eVar 1)) (aCons (eBin oMul (eC (.int 2)) (eVar 2)) (aCons (eBin oMul (eC (.int 2)) (eVar 3)) (aCons (eBin oSub (eBin oMul (eC (.int 2)) (eCall m__law_take (aCons (eVar 0) (aCons (eC (.int 5)) aNil)))) (eC (.int 5))) aNil))))) (eC (.int 0)))) sNil) t2__law_plane
noncomputable def b__law_plane : Sl → EH → RS := sSeq (sAsg (eCall m__law_normal (aCons (eVar 0) aNil)) (gUnp 3 (gCons (gVar 1) (gCons (gVar 2) (gCons (gVar 3) gNil))))) t1__law_plane
noncomputable def m__law_plane : List D → EH → R D := mFun 1 4 b__law_plane
noncomputable def t5__law_wide_plane : Sl → EH → RS := (sRet (eBin oIx (eVar 3) (eC (.int 0))))
noncomputable def t4__law_wide_plane : Sl → EH → RS := sSeq (sIf (bOf (eBin oIs (eVar 3) (eC .non))) (sRet (eTup (aCons (eC (.int 0)) (aCons (eC (.int 0)) (aCons (eC (.int 1)) (aCons (eC (.int 0)) aNil)))))) sNil) t5__law_wide_plane
noncomputable def t3__law_wide_plane : Sl → EH → RS := sSeq (sAsg (eCall m__law_form (aCons (eVar 1) (aCons (eVar 2) (aCons (eCall m__law_integer (aCons (eVar 0) aNil)) (aCons (eCall m__law_integer (aCons (eVar 0) aNil)) aNil))))) (gVar 3)) t4__law_wide_plane
noncomputable def t2__law_wide_plane : Sl → EH → RS := sSeq (sAsg (eCall m__law_integer (aCons (eVar 0) aNil)) (gVar 2)) t3__law_wide_plane
noncomputable def t1__law_wide_plane : Sl → EH → RS := sSeq (sAsg (eCall m__law_integer (aCons (eVar 0) aNil)) (gVar 1)) t2__law_wide_plane
noncomputable def b__law_wide_plane : Sl → EH → RS := sSeq (sIf (bOf (eBin oEq (eCall m__law_take (aCons (eVar 0) (aCons (eC (.int 2)) aNil))) (eC (.int 0)))) (sRet (eCall m__law_plane (aCons (eVar 0) aNil))) sNil) t1__law_wide_plane
noncomputable def m__law_wide_plane : List D → EH → R D := mFun 1 4 b__law_wide_plane
noncomputable def t1__law_over : Sl → EH → RS := (sRet (eNew (lDisp (aCons (eBin oMul (eBin oMul (eBin oIx (eVar 1) (eC (.int 0))) (eBin oIx (eVar 2) (eC (.int 1)))) (eBin oIx (eVar 3) (eC (.int 1)))) (aCons (eBin oMul (eBin oMul (eBin oIx (eVar 2) (eC (.int 0))) (eBin oIx (eVar 1) (eC (.int 1)))) (eBin oIx (eVar 3) (eC (.int 1)))) (aCons (eBin oMul (eBin oMul (eBin oIx (eVar 3) (eC (.int 0))) (eBin oIx (eVar 1) (eC (.int 1)))) (eBin oIx (eVar 2) (eC (.int 1)))) (aCons (eBin oMul (eBin oMul (eBin oIx (eVar 1) (eC (.int 1))) (eBin oIx (eVar 2) (eC (.int 1)))) (eBin oIx (eVar 3) (eC (.int 1)))) aNil)))))))
noncomputable def b__law_over : Sl → EH → RS := sSeq (sAsg (eVar 0) (gUnp 3 (gCons (gVar 1) (gCons (gVar 2) (gCons (gVar 3) gNil))))) t1__law_over
noncomputable def m__law_over : List D → EH → R D := mFun 1 4 b__law_over
noncomputable def t1__law_value_sign : Sl → EH → RS := (sRet (eBin oAdd (eBin oAdd (eBin oAdd (eBin oMul (eBin oIx (eVar 0) (eC (.int 0))) (eBin oIx (eVar 2) (eC (.int 0)))) (eBin oMul (eBin oIx (eVar 0) (eC (.int 1))) (eBin oIx (eVar 2) (eC (.int 1))))) (eBin oMul (eBin oIx (eVar 0) (eC (.int 2))) (eBin oIx (eVar 2) (eC (.int 2))))) (eBin oMul (eBin oIx (eVar 0) (eC (.int 3))) (eBin oIx (eVar 2) (eC (.int 3))))))
noncomputable def b__law_value_sign : Sl → EH → RS := sSeq (sAsg (eCall m__law_over (aCons (eVar 1) aNil)) (gVar 2)) t1__law_value_sign
noncomputable def m__law_value_sign : List D → EH → R D := mFun 2 3 b__law_value_sign
noncomputable def t5__law_condition : Sl → EH → RS := (sRet (eTup (aCons (eBin oIx (eCall m__law_form (aCons (eBin oMul (eVar 3) (eBin oIx (eVar 6) (eC (.int 3)))) (aCons (eBin oMul (eVar 4) (eBin oIx (eVar 6) (eC (.int 3)))) (aCons (eBin oMul (eVar 5) (eBin oIx (eVar 6) (eC (.int 3)))) (aCons (eVar 7) aNil))))) (eC (.int 0))) (aCons (eVar 2) aNil))))
noncomputable def t4__law_condition : Sl → EH → RS := sSeq (sAsg (eBin oSub (eBin oSub (eBin oMul (eUn oNeg (eVar 3)) (eBin oIx (eVar 6) (eC (.int 0)))) (eBin oMul (eVar 4) (eBin oIx (eVar 6) (eC (.int 1))))) (eBin oMul (eVar 5) (eBin oIx (eVar 6) (eC (.int 2))))) (gVar 7)) t5__law_condition
noncomputable def t3__law_condition : Sl → EH → RS := sSeq (sAsg (eCall m__law_over (aCons (eCall m__law_pick (aCons (eVar 0) (aCons (eVar 1) aNil))) aNil)) (gVar 6)) t4__law_condition
noncomputable def t2__law_condition : Sl → EH → RS := sSeq (sAsg (eCall m__law_normal (aCons (eVar 0) aNil)) (gUnp 3 (gCons (gVar 3) (gCons (gVar 4) (gCons (gVar 5) gNil))))) t3__law_condition
noncomputable def t1__law_condition : Sl → EH → RS := sSeq (sIf (bOf (eBin oEq (eCall m__law_take (aCons (eVar 0) (aCons (eC (.int 2)) aNil))) (eC (.int 0)))) (sRet (eTup (aCons (eCall m__law_wide_plane (aCons (eVar 0) aNil)) (aCons (eVar 2) aNil)))) sNil) t2__law_condition
noncomputable def b__law_condition : Sl → EH → RS := sSeq (sAsg (eBin oSub (eCall m__law_take (aCons (eVar 0) (aCons (eC (.int 5)) aNil))) (eC (.int 2))) (gVar 2)) t1__law_condition
noncomputable def m__law_condition : List D → EH → R D := mFun 2 8 b__law_condition
noncomputable def t6__law_true : Sl → EH → RS := (sRet (eBin oLe (eVar 4) (eC (.int 0))))
noncomputable def t5__law_true : Sl → EH → RS := sSeq (sIf (bOf (eBin oEq (eVar 3) (eUn oNeg (eC (.int 1))))) (sRet (eBin oLt (eVar 4) (eC (.int 0)))) sNil) t6__law_true
noncomputable def t4__law_true : Sl → EH → RS := sSeq (sIf (bOf (eBin oEq (eVar 3) (eC (.int 0)))) (sRet (eBin oEq (eVar 4) (eC (.int 0)))) sNil) t5__law_true
noncomputable def t3__law_true : Sl → EH → RS := sSeq (sIf (bOf (eBin oEq (eVar 3) (eC (.int 2)))) (sRet (eBin oGe (eVar 4) (eC (.int 0)))) sNil) t4__law_true
noncomputable def t2__law_true : Sl → EH → RS := sSeq (sIf (bOf (eBin oEq (eVar 3) (eC (.int 1)))) (sRet (eBin oGt (eVar 4) (eC (.int 0)))) sNil) t3__law_true
noncomputable def t1__law_true : Sl → EH → RS := sSeq (sAsg (eCall m__law_value_sign (aCons (eVar 2) (aCons (eVar 1) aNil))) (gVar 4)) t2__law_true
noncomputable def b__law_true : Sl → EH → RS := sSeq (sAsg (eVar 0) (gUnp 2 (gCons (gVar 2) (gCons (gVar 3) gNil)))) t1__law_true
noncomputable def m__law_true : List D → EH → R D := mFun 2 5 b__law_true
noncomputable def l0__law_listed : Sl → EH → RS := (sSeq (sIf (bAnd (bOf (eBin oGt (eVar 5) (eC (.int 0)))) (bOf (eBin oEq (eCall m__law_take (aCons (eVar 0) (aCons (eC (.int 5)) aNil))) (eC (.int 0))))) (sSeq (sAsg (eCall m__law_pick (aCons (eVar 0) (aCons (eVar 4) aNil))) (gUnp 2 (gCons (gVar 6) (gCons (gVar 7) gNil)))) (sAsg (eTup (aCons (eVar 6) (aCons (eBin oSub (eVar 7) (eBin oMul (eBin oMul (eC (.int 2)) (eVar 7)) (eCall m__law_take (aCons (eVar 0) (aCons (eC (.int 2)) aNil))))) aNil))) (gVar 8))) (sAsg (eCall m__law_condition (aCons (eVar 0) (aCons (eVar 1) aNil))) (gVar 8))) (sSeq (sIf (bAnd (bOf (eBin oEq (eVar 3) (eC (.int 0)))) (bNot (bOf (eCall m__law_true (aCons (eVar 8) (aCons (eBin oIx (eVar 1) (eC (.int 0))) aNil)))))) (sSeq (sAsg (eCall m__law_value_sign (aCons (eBin oIx (eVar 8) (eC (.int 0))) (aCons (eBin oIx (eVar 1) (eC (.int 0))) aNil))) (gVar 9)) (sAsg (eTup (aCons (eBin oIx (eVar 8) (eC (.int 0))) (aCons (eBin oMul (eC (.int 2)) (eBin oSub (eCB fInt (aCons (eBin oGt (eVar 9) (eC (.int 0))) aNil)) (eCB fInt (aCons (eBin oLt (eVar 9) (eC (.int 0))) aNil)))) aNil))) (gVar 8))) sNil) (sExpr (eMt "list" fAppend (eVar 4) (aCons (eVar 8) aNil)))))
noncomputable def q0__law_listed : Sl → EH → RS := sFor (iRng asR1 (aCons (eVar 2) aNil)) (gVar 5) l0__law_listed
noncomputable def t3__law_listed : Sl → EH → RS := (sRet (eVar 4))
noncomputable def t2__law_listed : Sl → EH → RS := sSeq q0__law_listed t3__law_listed
noncomputable def t1__law_listed : Sl → EH → RS := sSeq (sAsg (eNew (lDisp aNil)) (gVar 4)) t2__law_listed
noncomputable def b__law_listed : Sl → EH → RS := sSeq (sAsg (eCall m__law_take (aCons (eVar 0) (aCons (eC (.int 3)) aNil))) (gVar 3)) t1__law_listed
noncomputable def m__law_listed : List D → EH → R D := mFun 3 10 b__law_listed
noncomputable def b__law_bool : Sl → EH → RS := (sRet (eAnd (eCB fIsi (aCons (eVar 0) (aCons (eC (.ty "bool")) aNil))) (eBin oEq (eVar 0) (eVar 1))))
noncomputable def m__law_bool : List D → EH → R D := mFun 2 2 b__law_bool
noncomputable def l0__law_held : Sl → EH → RS := (sIf (bNot (bOf (eCall m__law_bool (aCons (eCall m_holds (aCons (eNew (lDisp (aCons (eBin oIx (eVar 0) (eVar 5)) aNil))) (aCons (eVar 1) aNil))) (aCons (eBin oIx (eVar 2) (eVar 5)) aNil))))) (sRet (eC (.bl false))) sNil)
noncomputable def q0__law_held : Sl → EH → RS := sFor (iRng asR1 (aCons (eCB fMin2 (aCons (eC (.int 12)) (aCons (eCB fLen (aCons (eVar 0) aNil)) aNil))) aNil)) (gVar 5) l0__law_held
noncomputable def t5__law_held : Sl → EH → RS := (sRet (eAnd (eCall m__law_bool (aCons (eCall m_holds (aCons (eNew (lComp [5] (iRng asR1 (aCons (eCB fLen (aCons (eVar 0) aNil)) aNil)) (gVar 5) bYes (eBin oIx (eVar 0) (eBin oSub (eUn oNeg (eC (.int 1))) (eVar 5))))) (aCons (eVar 1) aNil))) (aCons (eVar 4) aNil))) (eCall m__law_bool (aCons (eCall m_holds (aCons (eNew (lDisp aNil)) (aCons (eVar 1) aNil))) (aCons (eC (.bl true)) aNil)))))
noncomputable def t4__law_held : Sl → EH → RS := sSeq (sIf (bAnd (bTru (eVar 4)) (bNot (bOf (eCall m__law_bool (aCons (eCall m_holds (aCons (eCall m_closed (aCons (eVar 0) aNil)) (aCons (eVar 1) aNil))) (aCons (eC (.bl true)) aNil)))))) (sRet (eC (.bl false))) sNil) t5__law_held
noncomputable def t3__law_held : Sl → EH → RS := sSeq q0__law_held t4__law_held
noncomputable def t2__law_held : Sl → EH → RS := sSeq (sIf (bOr (bNot (bOf (eCall m__law_bool (aCons (eCall m_holds (aCons (eVar 0) (aCons (eVar 1) aNil))) (aCons (eVar 4) aNil))))) (bNot (bOf (eCall m__law_bool (aCons (eCallK m_holds 0 2 g_holds_0_point_conditions aNil (aCons (eVar 1) (aCons (eVar 0) aNil))) (aCons (eVar 4) aNil)))))) (sRet (eC (.bl false))) sNil) t3__law_held
noncomputable def t1__law_held : Sl → EH → RS := sSeq (sAsg (eBin oNotIn (eC (.bl false)) (eVar 2)) (gVar 4)) t2__law_held
noncomputable def b__law_held : Sl → EH → RS := sSeq (sAsg (eNew (lComp [3] (iSeq (eVar 0)) (gVar 3) bYes (eCall m__law_true (aCons (eVar 3) (aCons (eVar 1) aNil))))) (gVar 2)) t1__law_held
noncomputable def m__law_held : List D → EH → R D := mFun 2 6 b__law_held
noncomputable def b__law_is : Sl → EH → RS := (sRet (eAnd (eCall m__law_is_conditions (aCons (eVar 0) aNil)) (eBin oEq (eVar 0) (eVar 1))))
noncomputable def m__law_is : List D → EH → R D := mFun 2 2 b__law_is
noncomputable def l0__law_closed_due : Sl → EH → RS := (sExpr (eMt "list" fAppend (eVar 1) (aCons (eTup (aCons (eVar 2) (aCons (eDLit [(-2, -2), (-1, -2), (0, 0), (1, 2), (2, 2)] (eVar 3)) aNil))) aNil)))
noncomputable def q0__law_closed_due : Sl → EH → RS := sFor (iSeq (eVar 0)) (gUnp 2 (gCons (gVar 2) (gCons (gVar 3) gNil))) l0__law_closed_due
noncomputable def t2__law_closed_due : Sl → EH → RS := (sRet (eVar 1))
noncomputable def t1__law_closed_due : Sl → EH → RS := sSeq q0__law_closed_due t2__law_closed_due
noncomputable def b__law_closed_due : Sl → EH → RS := sSeq (sAsg (eNew (lDisp aNil)) (gVar 1)) t1__law_closed_due
noncomputable def m__law_closed_due : List D → EH → R D := mFun 1 4 b__law_closed_due
noncomputable def t9__law_again : Sl → EH → RS := (sRet (eCall m__law_is (aCons (eCall m_closed (aCons (eVar 0) aNil)) (aCons (eVar 4) aNil))))
noncomputable def t8__law_again : Sl → EH → RS := sSeq (sIf (bOr (bNot (bOf (eCall m__law_is (aCons (eCall m_closed (aCons (eVar 3) aNil)) (aCons (eBin oAdd (eVar 4) (eCall m__law_closed_due (aCons (eNew (lDisp (aCons (eVar 1) aNil))) aNil))) aNil))))) (bNot (bOf (eCall m__law_held (aCons (eVar 3) (aCons (eVar 2) aNil)))))) (sRet (eC (.bl false))) sNil) t9__law_again
noncomputable def t7__law_again : Sl → EH → RS := sSeq (sExpr (eMt "list" fAppend (eVar 3) (aCons (eVar 1) aNil))) t8__law_again
noncomputable def t6__law_again : Sl → EH → RS := sSeq (sIf (bOr (bOf (eBin oNe (eVar 3) (eVar 0))) (bOf (eBin oGt (eCB fLen (aCons (eVar 3) aNil)) (eC (.int 39))))) (sRet (eBin oEq (eVar 3) (eVar 0))) sNil) t7__law_again
noncomputable def t5__law_again : Sl → EH → RS := sSeq (sIf (bOr (bOf (eBin oNe (eVar 3) (eVar 0))) (bOr (bNot (bOf (eCall m__law_is (aCons (eCall m_closed (aCons (eVar 3) aNil)) (aCons (eVar 4) aNil))))) (bNot (bOf (eCall m__law_held (aCons (eVar 3) (aCons (eVar 2) aNil))))))) (sRet (eC (.bl false))) sNil) t6__law_again
noncomputable def t4__law_again : Sl → EH → RS := sSeq (sExpr (eMt "list" fAppend (eVar 5) (aCons (eC (.str "spoilt")) aNil))) t5__law_again
noncomputable def t3__law_again : Sl → EH → RS := sSeq (sIf (bOr (bOf (eBin oNe (eVar 3) (eVar 0))) (bOr (bNot (bOf (eCall m__law_is (aCons (eVar 5) (aCons (eVar 4) aNil))))) (bNot (bOf (eCall m__law_is (aCons (eCallK m_closed 0 1 g_closed_0_conditions aNil (aCons (eVar 5) aNil)) (aCons (eVar 4) aNil))))))) (sRet (eC (.bl false))) sNil) t4__law_again
noncomputable def t2__law_again : Sl → EH → RS := sSeq (sAsg (eCall m_closed (aCons (eVar 3) aNil)) (gVar 5)) t3__law_again
noncomputable def t1__law_again : Sl → EH → RS := sSeq (sAsg (eCall m__law_closed_due (aCons (eVar 0) aNil)) (gVar 4)) t2__law_again
noncomputable def b__law_again : Sl → EH → RS := sSeq (sAsg (eNew (lList (eVar 0))) (gVar 3)) t1__law_again
noncomputable def m__law_again : List D → EH → R D := mFun 3 6 b__law_again
noncomputable def b__law_bent : Sl → EH → RS := (sRet (eCall m__law_bend (aCons (eVar 1) (aCons (eCall m__law_take (aCons (eVar 0) (aCons (eCall m__law_spots (aCons (eVar 1) aNil)) aNil))) (aCons (eCall m__law_take (aCons (eVar 0) (aCons (eC (.int 10)) aNil))) aNil)))))
noncomputable def m__law_bent : List D → EH → R D := mFun 2 2 b__law_bent
noncomputable def l0_law : Sl → EH → RS := (sIf (bNot (bOf (eCall m__law_held (aCons (eVar 5) (aCons (eVar 7) aNil))))) (sRet (eC (.bl false))) sNil)
noncomputable def q0_law : Sl → EH → RS := sFor (iSeq (eBin oAdd (eVar 3) (eNew (lDisp (aCons (eCall m__law_point (aCons (eVar 1) aNil)) aNil))))) (gVar 7) l0_law
noncomputable def l1_law : Sl → EH → RS := (sIf (bNot (bOf (eCall m__law_bool (aCons (eCall m_is_conditions (aCons (eVar 9) aNil)) (aCons (eCall m__law_is_conditions (aCons (eVar 9) aNil)) aNil))))) (sRet (eC (.bl false))) sNil)
noncomputable def q1_law : Sl → EH → RS := sFor (iSeq (eBin oAdd (eVar 8) (eNew (lDisp (aCons (eBin oRep (eNew (lDisp (aCons (eVar 6) aNil))) (eBin oAdd (eC (.int 41)) (eCall m__law_take (aCons (eVar 1) (aCons (eC (.int 60)) aNil))))) (aCons (eVar 6) aNil)))))) (gVar 9) l1_law
noncomputable def t9_law : Sl → EH → RS := (sRet (eCall m__law_bool (aCons (eCallK m_is_conditions 0 1 g_is_conditions_0_value aNil (aCons (eBin oAdd (eVar 5) (eNew (lDisp (aCons (eVar 6) aNil)))) aNil)) (aCons (eC (.bl true)) aNil))))
noncomputable def t8_law : Sl → EH → RS := sSeq q1_law t9_law
noncomputable def t7_law : Sl → EH → RS := sSeq (sAsg (eNew (lDisp (aCons (eVar 5) (aCons (eCall m__law_bent (aCons (eVar 1) (aCons (eSl (eVar 5) pNo (pSo (eC (.int 3)))) aNil))) (aCons (eCall m__law_bent (aCons (eVar 1) (aCons (eSl (eVar 5) (pSo (eUn oNeg (eC (.int 2)))) pNo) aNil))) (aCons (eCall m__law_bent (aCons (eVar 1) (aCons (eNew (lDisp (aCons (eVar 6) aNil))) aNil))) aNil)))))) (gVar 8)) t8_law
noncomputable def t6_law : Sl → EH → RS := sSeq q0_law t7_law
noncomputable def t5_law : Sl → EH → RS := sSeq (sIf (bNot (bOf (eCall m__law_again (aCons (eVar 5) (aCons (eVar 6) (aCons (eBin oIx (eVar 3) (eC (.int 0))) aNil)))))) (sRet (eC (.bl false))) sNil) t6_law
noncomputable def t4_law : Sl → EH → RS := sSeq (sAsg (eCall m__law_condition (aCons (eVar 1) (aCons (eVar 3) aNil))) (gVar 6)) t5_law
noncomputable def t3_law : Sl → EH → RS := sSeq (sAsg (eCall m__law_listed (aCons (eVar 1) (aCons (eVar 3) (aCons (eVar 2) aNil)))) (gVar 5)) t4_law
noncomputable def t2_law : Sl → EH → RS := sSeq (sAsg (eNew (lComp [4] (iRng asR1 (aCons (eC (.int 3)) aNil)) (gVar 4) bYes (eCall m__law_point (aCons (eVar 1) aNil)))) (gVar 3)) t3_law
noncomputable def t1_law : Sl → EH → RS := sSeq (sAsg (eCB fMin2 (aCons (eC (.int 40)) (aCons (eBin oAdd (eCall m__law_few (aCons (eVar 1) (aCons (eC (.int 40)) aNil))) (eBin oMul (eCall m__law_take (aCons (eVar 1) (aCons (eC (.int 2)) aNil))) (eCall m__law_take (aCons (eVar 1) (aCons (eC (.int 8)) aNil))))) aNil))) (gVar 2)) t2_law
noncomputable def b_law : Sl → EH → RS := sSeq (sAsg (eCall m__law_store (aCons (eVar 0) aNil)) (gVar 1)) t1_law
noncomputable def m_law : List D → EH → R D := mFun 1 10 b_law
end Mv
namespace Mv
open PySem PySem.Spec PyProof.Rows L2 Sm
variable {n : Nat} {h : EH} {Q : D → EH → Prop} {E : Ex → EH → Prop}
theorem mix_eq (a b : Int) (h : EH) : ∃ r, m__law_mix [.int a, .int b] h = .ok (.int r) h ∧ 0 ≤ r ∧ r < 2305843009213693951 := by
  have k1 : mulOk a 6364136223846793005 = true := mulOk_r (by decide)
  have k2 : ∀ b, mulOk b 1442695040888963407 = true := fun _ => mulOk_r (by decide)
  have k3 : ∀ b, mulOk b 48271 = true := fun _ => mulOk_r (by decide)
  have k5 : ∀ b, mulOk b 69621 = true := fun _ => mulOk_r (by decide)
  have k4 : ∀ x : Int, mulOk (x % 2305843009213693951) (x % 2305843009213693951) = true := fun x => mulOk_l (by have := Int.emod_nonneg x (b := 2305843009213693951) (by decide); have := Int.emod_lt_of_pos x (b := 2305843009213693951) (by decide); omega)
  have k6 : ∀ x : Int, mulOk (x % 2305843009213693921) (x % 2305843009213693921) = true := fun x => mulOk_l (by have := Int.emod_nonneg x (b := 2305843009213693921) (by decide); have := Int.emod_lt_of_pos x (b := 2305843009213693921) (by decide); omega)
  simp [m__law_mix, b__law_mix, t1__law_mix, t2__law_mix, op_mul_i, k1, k2, k3, k4, k5, k6, op_mod_p]
  exact ⟨Int.emod_nonneg _ (by decide), Int.emod_lt_of_pos _ (by decide)⟩
theorem take_t2 {h : EH} {n m : Nat} {ns : List Int} {p big left cnt seed mx M : Int} (q : h[n]? = some (.lst [.ref m, .int p, .int big, .int left, .int cnt, .int seed, .int mx])) (qm : h[m]? = some (.lst (ns.map .int))) (ne : m < n) (hp : 0 ≤ p) (hb : 0 ≤ big) (h1 : 1 ≤ M) (hM : M ≤ 1000000) (c : Option D) (r0 : Option D) :
    ∃ r h', finR (t2__law_take [some (.ref n), some (.int M), c, r0] h) = .ok (.int r) h' ∧ 0 ≤ r ∧ r < M ∧ Dr n h h' := by
  have hn : n < h.length := (List.getElem?_eq_some_iff.mp q).1
  have hs : ∀ o, (h.set n o)[n]? = some o := fun o => List.getElem?_set_self hn
  have hM0 : 0 < M := by omega
  have hd : M.natAbs.log2 < 9000 := Nat.lt_trans ((Nat.log2_lt (k := 64) (by omega)).mpr (by omega)) (by decide)
  by_cases c1 : 0 < big
  · simp [t2__law_take, op_ix_u, q, c1, op_div_p, hM0, hd, setK_u, ixN, op_mod_p]
    exact ⟨_, _, ⟨rfl, rfl⟩, Int.emod_nonneg _ (by omega), Int.emod_lt_of_pos _ hM0, Dr.set hn qm ne hp (Int.ediv_nonneg hb (by omega))⟩
  · by_cases c2 : 0 < left
    · obtain ⟨r1, e1, l1, u1⟩ := mix_eq mx (cnt + 1) ((h.set n (.lst [.ref m, .int p, .int big, .int left, .int (cnt + 1), .int seed, .int mx])).set n (.lst [.ref m, .int p, .int big, .int (left - 1), .int (cnt + 1), .int seed, .int mx]))
      rw [List.set_set] at e1
      simp [t2__law_take, t3__law_take, t4__law_take, op_ix_u, q, c1, c2, op_mod_p, hM0, setK_u, ixN, hs, e1]
      exact ⟨_, _, ⟨rfl, rfl⟩, Int.emod_nonneg _ (by omega), Int.emod_lt_of_pos _ hM0, Dr.set hn qm ne hp hb⟩
    · obtain ⟨r1, e1, l1, u1⟩ := mix_eq seed (cnt + 1) (h.set n (.lst [.ref m, .int p, .int big, .int left, .int (cnt + 1), .int seed, .int mx]))
      obtain ⟨r2, e2, l2, u2⟩ := mix_eq r1 (cnt + 1) (h.set n (.lst [.ref m, .int p, .int big, .int left, .int (cnt + 1), .int seed, .int mx]))
      simp [t2__law_take, t3__law_take, t4__law_take, t5__law_take, op_ix_u, q, c1, c2, op_mod_p, hM0, setK_u, ixN, hs, e1, e2]
      exact ⟨_, _, ⟨rfl, rfl⟩, Int.emod_nonneg _ (by omega), Int.emod_lt_of_pos _ hM0, Dr.set hn qm ne hp hb⟩
theorem take_spec {h : EH} {n : Nat} (S : Store h n) (many : Int) (hm : many ≤ 1000000) : ∃ r h', m__law_take [.ref n, .int many] h = .ok (.int r) h' ∧ 0 ≤ r ∧ r < max 1 many ∧ Dr n h h' := by
  obtain ⟨m, ns, p, big, left, cnt, seed, mx, q, qm, ne, hp, hb⟩ := S.ex
  have hn : n < h.length := (List.getElem?_eq_some_iff.mp q).1
  have hs : ∀ o, (h.set n o)[n]? = some o := fun o => List.getElem?_set_self hn
  have pow : ∀ h, opE oPow (.int 10) (.int 18) h = .ok (.int 1000000000000000000) h := fun _ => rfl
  have t2 := fun {p big left mx : Int} (hp : 0 ≤ p) (hb : 0 ≤ big) (c : Option D) => take_t2 (h := h.set n (.lst [.ref m, .int p, .int big, .int left, .int cnt, .int seed, .int mx])) (n := n) (m := m) (ns := ns) (M := max 1 many) (by rw [List.getElem?_set_self hn]) (by rw [List.getElem?_set_ne (Nat.ne_of_gt ne)]; exact qm) ne hp hb (by omega) (by omega) c none
  have lift : ∀ {p big left mx : Int} {c : Option D}, 0 ≤ p → 0 ≤ big → (∃ r h', finR (t2__law_take [some (.ref n), some (.int (max 1 many)), c, none] (h.set n (.lst [.ref m, .int p, .int big, .int left, .int cnt, .int seed, .int mx]))) = .ok (.int r) h' ∧ 0 ≤ r ∧ r < max 1 many ∧ Dr n h h') := fun {p big left mx c} hp hb => by
    obtain ⟨r, h', e, a, b, d⟩ := t2 (left := left) (mx := mx) hp hb c
    exact ⟨r, h', e, a, b, (Dr.set hn qm ne hp hb).trans d⟩
  by_cases c1 : big = 0 ∧ left = 0 ∧ p < ns.length
  · obtain ⟨c1, c2, c3⟩ := c1
    subst c1 c2
    obtain ⟨k, rfl⟩ : ∃ k : Nat, p = k := ⟨p.toNat, by omega⟩
    have hk : k < ns.length := by omega
    have ha : L2.atI (ns.map D.int) (k : Int) = some (.int ns[k]) := by rw [atI_n]; simp [hk]
    by_cases c4 : 1000000000000000000 ≤ (ns[k].natAbs : Int)
    · have := lift (p := k + 1) (big := ns[k].natAbs) (left := 0) (mx := mx) (c := some (.int ns[k])) (by omega) (by omega)
      simp [m__law_take, b__law_take, t1__law_take, op_ix_u, q, fLen_u, qm, c3, ha, setK_u, ixN, hs, pow, c4]
      exact this
    · obtain ⟨r1, e1, l1, u1⟩ := mix_eq seed ns[k] (h.set n (.lst [.ref m, .int (k + 1), .int 0, .int 4, .int cnt, .int seed, .int mx]))
      have := lift (p := k + 1) (big := 0) (left := 4) (mx := r1) (c := some (.int ns[k])) (by omega) (by omega)
      simp [m__law_take, b__law_take, t1__law_take, op_ix_u, q, fLen_u, qm, c3, ha, setK_u, ixN, hs, pow, c4, e1]
      exact this
  · have c1' : ¬ (big = 0 ∧ left = 0 ∧ p < (ns.length : Int)) := c1
    have := take_t2 q qm ne hp hb (M := max 1 many) (by omega) (by omega) none none
    by_cases d1 : big = 0
    · by_cases d2 : left = 0
      · have d3 : ¬ p < (ns.length : Int) := fun z => c1' ⟨d1, d2, z⟩
        simp [m__law_take, b__law_take, t1__law_take, op_ix_u, q, fLen_u, qm, d1, d2, d3] at this ⊢
        exact this
      · simp [m__law_take, b__law_take, t1__law_take, op_ix_u, q, fLen_u, qm, d1, d2] at this ⊢
        exact this
    · simp [m__law_take, b__law_take, t1__law_take, op_ix_u, q, fLen_u, qm, d1] at this ⊢
      exact this

theorem store_spec (ns : List Int) (h : EH) (hl : ns.length ≤ 1000) : ∃ h', m__law_store [.rol (ns.map .int)] h = .ok (.ref (h.length + 1)) h' ∧ Store h' (h.length + 1) ∧ ∀ (k : Nat) (o : EO), h[k]? = some o → h'[k]? = some o := by
  obtain ⟨e', h', l, ⟨s, x, rfl⟩, rfl⟩ := for_list (e := [some (.rol (ns.map D.int)), some (.int (17 + (ns.length : Int))), none]) (h := h) (xs := ns.map D.int) (g := gVar 2) (b := l0__law_store) (fun _ e h' => (∃ (s : Int) (x : Option D), e = [some (.rol (ns.map D.int)), some (.int s), x]) ∧ h' = h) ⟨⟨_, _, rfl⟩, rfl⟩ (by
    rintro k e h' hk ⟨⟨s, x, rfl⟩, rfl⟩
    rw [map_get hk]
    refine ⟨_, _, rfl, ?_⟩
    obtain ⟨r, e1, _, _⟩ := mix_eq s ((ns[k]'(by simpa using hk)) % 2305843009213693951) h'
    exact ⟨[some (.rol (ns.map D.int)), some (.int r), some (.int (ns[k]'(by simpa using hk)))], h', .inl (by simp [l0__law_store, op_mod_p, e1]), ⟨_, _, rfl⟩, rfl⟩)
  refine ⟨h' ++ [.lst (ns.map D.int)] ++ [.lst [.ref h'.length, .int 0, .int 0, .int 0, .int 0, .int s, .int 0]], ?_, ⟨h'.length, ns, 0, 0, 0, 0, s, 0, ?_, ?_, by omega, by omega, by omega⟩, fun k o q => ?_⟩
  · have l' := l
    simp only [m__law_store, b__law_store, t1__law_store, t2__law_store, q0__law_store, mFun_1, List.replicate, sSeq_r, sAsg_r, eBin_r, eC_r, R.bind_ok, eCB_r, aCons_r, aNil_r, eVar_z, eVar_s, fLen_o, opA_s, op_add_i, liftS_ok, gVar_r, List.set_cons_zero, List.set_cons_succ, thenS_nx, List.length_map]
    rw [sFor_eq (it := itL (ns.map D.int)) (h1 := h') (by simp) l]
    try simp [sz_ok]
  · rw [List.append_assoc, List.getElem?_append_right (by omega)]
    simp
  · rw [List.append_assoc, List.getElem?_append_right (by omega)]
    simp
  · rw [List.append_assoc, List.getElem?_append_left (List.getElem?_eq_some_iff.mp q).1]
    exact q
theorem take_ok (S : Store h n) {M : Int} (hm : M ≤ 1000000) (k : ∀ (r : Int) h', 0 ≤ r → r < max 1 M → Dr n h h' → Q (.int r) h') : Wp (m__law_take [.ref n, .int M] h) Q E := by
  obtain ⟨r, h', e, a, b, d⟩ := take_spec S M hm
  rw [e]; exact k r h' a b d
theorem take_nat (S : Store h n) {M : Int} (hm : M ≤ 1000000) (k : ∀ (r : Nat) h', (r : Int) < max 1 M → Dr n h h' → Q (.int r) h') : Wp (m__law_take [.ref n, .int M] h) Q E :=
  take_ok S hm fun r h' a b d => by
    obtain ⟨r', rfl⟩ : ∃ r' : Nat, r = r' := ⟨r.toNat, by omega⟩
    exact k r' h' b d
end Mv
namespace Mv
open PySem PySem.Spec PyProof.Rows L2 Sm
variable {n : Nat} {h : EH} {Q : D → EH → Prop} {E : Ex → EH → Prop}
/-! ### greatest divisors -/
theorem gcd_spec (a b : Int) (h : EH) : m__law_gcd [.int a, .int b] h = .ok (.int (Int.gcd a b : Nat)) h := by
  obtain ⟨e', h', l, r, hz, hh⟩ := while_thru (c := w0__law_gcd) (b := l0__law_gcd) (fun e h' => h' = h ∧ ∃ (x y : Nat) (r : Option D), e = [some (.int x), some (.int y), r] ∧ Nat.gcd x y = Int.gcd a b)
    (fun e _ => match e with | [_, some (.int y), _] => y.toNat | _ => 0) (fun e h' => ∃ r, e = [some (.int (Int.gcd a b : Nat)), some (.int 0), r] ∧ h' = h) (by
      rintro e h' ⟨rfl, x, y, r, rfl, hg⟩
      by_cases c : y = 0
      · subst c
        refine .inl ⟨h', by simp [w0__law_gcd], r, ?_, rfl⟩
        simp at hg
        rw [hg]; rfl
      · refine .inr ⟨h', [some (.int y), some (.int ((x % y : Nat) : Int)), some (.int ((x % y : Nat) : Int))], h', ?_, .inl ?_, ⟨rfl, y, x % y, _, rfl, ?_⟩, ?_⟩
        · simp [w0__law_gcd]; omega
        · have hy : (0 : Int) < y := by omega
          simp [l0__law_gcd, op_mod_p hy]
        · rw [← hg, Nat.gcd_comm y, ← Nat.gcd_rec, Nat.gcd_comm]
        · simp only [Int.toNat_natCast]
          exact Nat.mod_lt _ (by omega)) _ [some (.int (a.natAbs : Int)), some (.int (b.natAbs : Int)), none] h (Nat.le_refl _) ⟨rfl, a.natAbs, b.natAbs, none, rfl, rfl⟩
  subst hz hh
  simp [m__law_gcd, b__law_gcd, t1__law_gcd, t2__law_gcd, t3__law_gcd, q0__law_gcd, sWhile_eq l]
theorem frac_spec (a b : Int) (h : EH) {n : Nat} (hb : b ≠ 0) (hs : b.natAbs < 2 ^ n) (hn : n ≤ 9000) : m__law_frac [.int a, .int b] h = .ok (rt (Rat.divInt a b)) h := by
  have g0 : 0 < Int.gcd a b := gcd_pos hb
  have gl : ((Int.gcd a b : Nat) : Int).natAbs < 2 ^ n := Nat.lt_of_le_of_lt (by have := gcd_le (a := a) hb; omega) hs
  by_cases c : b < 0
  · have d : divOk (-(Int.gcd a b : Nat)) = true := divOk_of (n := n) (by omega) (by rw [Int.natAbs_neg]; exact gl) hn
    obtain ⟨e1, e2⟩ := divInt_neg (a := a) c
    simp [m__law_frac, b__law_frac, t1__law_frac, t2__law_frac, t3__law_frac, hb, gcd_spec, c, op_div_i d, sz_ok, rt, e1, e2]
  · have d : divOk (Int.gcd a b : Nat) = true := divOk_of (n := n) (by omega) gl hn
    obtain ⟨e1, e2⟩ := divInt_pos (a := a) (b := b) (by omega)
    simp [m__law_frac, b__law_frac, t1__law_frac, t2__law_frac, t3__law_frac, hb, gcd_spec, c, op_div_i d, sz_ok, rt, e1, e2]
theorem frac_ok {a b : Int} {s : Nat} (h1 : a.natAbs < 2 ^ s) (h2 : b.natAbs < 2 ^ s) (hb : b ≠ 0) (hs : s ≤ 9000) (k : Sz s (Rat.divInt a b) → Q (rt (Rat.divInt a b)) h) : Wp (m__law_frac [.int a, .int b] h) Q E := by
  rw [frac_spec a b h hb h2 hs]
  exact k (Sz.divInt h1 h2 hb)
end Mv
namespace Mv
open PySem PySem.Spec PyProof.Rows L2 Sm
variable {n : Nat} {h : EH} {Q : D → EH → Prop} {E : Ex → EH → Prop}
theorem _root_.Sm.Pz.of {s : Nat} {a b c d : Int} (h1 : a.natAbs < 2 ^ s) (h2 : b.natAbs < 2 ^ s) (h3 : c.natAbs < 2 ^ s) (h4 : d.natAbs < 2 ^ s) : Pz s ⟨a, b, c, d⟩ := ⟨h1, h2, h3, h4⟩
/-- a normal that is not zero -/
def Nz (p : P4) : Prop := ¬ (p.a = 0 ∧ p.b = 0 ∧ p.c = 0)
def gcd4 (a b c d : Int) : Nat := Int.gcd (Int.gcd a b : Nat) (Int.gcd c d : Nat)
/-- which way a plane's numbers are turned -/
def sideOf (a b c : Int) : Int := if a < 0 ∨ (a = 0 ∧ (b < 0 ∨ (b = 0 ∧ c < 0))) then -1 else 1
theorem gcd4_dvd (a b c d : Int) : (gcd4 a b c d : Int) ∣ a ∧ (gcd4 a b c d : Int) ∣ b ∧ (gcd4 a b c d : Int) ∣ c ∧ (gcd4 a b c d : Int) ∣ d := by
  have l : (gcd4 a b c d : Int) ∣ (Int.gcd a b : Nat) := Int.gcd_dvd_left ..
  have r : (gcd4 a b c d : Int) ∣ (Int.gcd c d : Nat) := Int.gcd_dvd_right ..
  exact ⟨Int.dvd_trans l (Int.gcd_dvd_left ..), Int.dvd_trans l (Int.gcd_dvd_right ..), Int.dvd_trans r (Int.gcd_dvd_left ..), Int.dvd_trans r (Int.gcd_dvd_right ..)⟩
theorem side_cases (a b c : Int) : sideOf a b c = 1 ∨ sideOf a b c = -1 := by
  unfold sideOf; split
  · exact .inr rfl
  · exact .inl rfl
structure FormOf (a b c d : Int) (q : P4) : Prop where
  ea : a = gcd4 a b c d * sideOf a b c * q.a
  eb : b = gcd4 a b c d * sideOf a b c * q.b
  ec : c = gcd4 a b c d * sideOf a b c * q.c
  ed : d = gcd4 a b c d * sideOf a b c * q.d
  pos : 0 < gcd4 a b c d
  nz : Nz q
theorem FormOf.bn {a b c d : Int} {q : P4} {s : Nat} (f : FormOf a b c d q) (z : Pz s ⟨a, b, c, d⟩) : Pz s q := by
  have k : ∀ x y : Int, x = gcd4 a b c d * sideOf a b c * y → Bn s x → Bn s y := fun x y e hx => by
    have l : y.natAbs ≤ x.natAbs := by
      rw [e, Int.natAbs_mul]
      refine Nat.le_mul_of_pos_left _ ?_
      rw [Int.natAbs_mul]
      have := f.pos
      rcases side_cases a b c with z | z <;> (rw [z]; simp; omega)
    exact Nat.lt_of_le_of_lt l hx
  exact ⟨k _ _ f.ea z.1, k _ _ f.eb z.2.1, k _ _ f.ec z.2.2.1, k _ _ f.ed z.2.2.2⟩
theorem form_gb {a b c d : Int} {s : Nat} (z : Pz s ⟨a, b, c, d⟩) (ne : ¬ (a = 0 ∧ b = 0 ∧ c = 0)) : 0 < gcd4 a b c d ∧ gcd4 a b c d < 2 ^ s := by
  obtain ⟨d1, d2, d3, d4⟩ := gcd4_dvd a b c d
  have gp : 0 < gcd4 a b c d := by
    rcases Nat.eq_zero_or_pos (gcd4 a b c d) with g | g
    · rw [g] at d1 d2 d3
      simp at d1 d2 d3
      exact absurd ⟨d1, d2, d3⟩ ne
    · exact g
  refine ⟨gp, ?_⟩
  have le : ∀ x : Int, (gcd4 a b c d : Int) ∣ x → x ≠ 0 → Bn s x → gcd4 a b c d < 2 ^ s := fun x dv nz hx => by
    obtain ⟨y, e⟩ := dv
    have y0 : 0 < y.natAbs := by
      rcases Nat.eq_zero_or_pos y.natAbs with w | w
      · exact absurd (by rw [e, Int.natAbs_eq_zero.mp w, Int.mul_zero]) nz
      · exact w
    have := Nat.le_mul_of_pos_right (gcd4 a b c d) y0
    have e2 : x.natAbs = gcd4 a b c d * y.natAbs := by rw [e, Int.natAbs_mul, Int.natAbs_natCast]
    exact Nat.lt_of_le_of_lt (by omega) hx
  by_cases a0 : a = 0
  · by_cases b0 : b = 0
    · exact le c d3 (fun z => ne ⟨a0, b0, z⟩) z.2.2.1
    · exact le b d2 b0 z.2.1
  · exact le a d1 a0 z.1
/-- the bound by the normal alone -/
theorem form_gb3 {a b c d : Int} {s : Nat} (za : Bn s a) (zb : Bn s b) (zc : Bn s c) (ne : ¬ (a = 0 ∧ b = 0 ∧ c = 0)) : 0 < gcd4 a b c d ∧ gcd4 a b c d < 2 ^ s := by
  obtain ⟨d1, d2, d3, d4⟩ := gcd4_dvd a b c d
  have gp : 0 < gcd4 a b c d := by
    rcases Nat.eq_zero_or_pos (gcd4 a b c d) with g | g
    · rw [g] at d1 d2 d3
      simp at d1 d2 d3
      exact absurd ⟨d1, d2, d3⟩ ne
    · exact g
  refine ⟨gp, ?_⟩
  have le : ∀ x : Int, (gcd4 a b c d : Int) ∣ x → x ≠ 0 → Bn s x → gcd4 a b c d < 2 ^ s := fun x dv nz hx => by
    obtain ⟨y, e⟩ := dv
    have y0 : 0 < y.natAbs := by
      rcases Nat.eq_zero_or_pos y.natAbs with w | w
      · exact absurd (by rw [e, Int.natAbs_eq_zero.mp w, Int.mul_zero]) nz
      · exact w
    have := Nat.le_mul_of_pos_right (gcd4 a b c d) y0
    have e2 : x.natAbs = gcd4 a b c d * y.natAbs := by rw [e, Int.natAbs_mul, Int.natAbs_natCast]
    exact Nat.lt_of_le_of_lt (by omega) hx
  by_cases a0 : a = 0
  · by_cases b0 : b = 0
    · exact le c d3 (fun z => ne ⟨a0, b0, z⟩) zc
    · exact le b d2 b0 zb
  · exact le a d1 a0 za
theorem form_ex {a b c d : Int} (ne : ¬ (a = 0 ∧ b = 0 ∧ c = 0)) (gp : 0 < gcd4 a b c d) : ∃ q, FormOf a b c d q := by
  obtain ⟨d1, d2, d3, d4⟩ := gcd4_dvd a b c d
  have sc := side_cases a b c
  have dv : ∀ x : Int, (gcd4 a b c d : Int) ∣ x → ∃ y, x = gcd4 a b c d * sideOf a b c * y := fun x ⟨y, e⟩ => by
    rcases sc with f | f
    · exact ⟨y, by rw [f, e]; simp⟩
    · exact ⟨-y, by rw [f, e]; grind⟩
  obtain ⟨qa, ea⟩ := dv a d1
  obtain ⟨qb, eb⟩ := dv b d2
  obtain ⟨qc, ec⟩ := dv c d3
  obtain ⟨qd, ed⟩ := dv d d4
  exact ⟨⟨qa, qb, qc, qd⟩, ea, eb, ec, ed, gp, fun ⟨x, y, w⟩ => ne ⟨by rw [ea]; simp only at x; rw [x]; simp, by rw [eb]; simp only at y; rw [y]; simp, by rw [ec]; simp only at w; rw [w]; simp⟩⟩
theorem gcd4_mul (m a b c d : Int) : gcd4 (m * a) (m * b) (m * c) (m * d) = m.natAbs * gcd4 a b c d := by
  unfold gcd4
  rw [Int.gcd_mul_left, Int.gcd_mul_left]
  have := Int.gcd_mul_left (m.natAbs : Int) (Int.gcd a b : Nat) (Int.gcd c d : Nat)
  simpa using this
/-- a plane in its one form -/
structure IsPl (q : P4) : Prop where
  g : gcd4 q.a q.b q.c q.d = 1
  s : sideOf q.a q.b q.c = 1
  nz : Nz q
theorem sg_mul_pos {g : Int} (hg : 0 < g) (x : Int) : (g * x < 0 ↔ x < 0) ∧ (g * x = 0 ↔ x = 0) := by
  rcases Int.lt_trichotomy x 0 with h | h | h
  · have := Int.mul_neg_of_pos_of_neg hg h
    omega
  · subst h; simp
  · have := Int.mul_pos hg h
    omega
theorem FormOf.pl {a b c d : Int} {q : P4} (f : FormOf a b c d q) : IsPl q := by
  have hp := f.pos
  have sc := side_cases a b c
  refine ⟨?_, ?_, f.nz⟩
  · have e := gcd4_mul (gcd4 a b c d * sideOf a b c) q.a q.b q.c q.d
    rw [← f.ea, ← f.eb, ← f.ec, ← f.ed] at e
    have n1 : ((gcd4 a b c d : Int) * sideOf a b c).natAbs = gcd4 a b c d := by
      rw [Int.natAbs_mul]
      rcases sc with z | z <;> (rw [z]; simp)
    rw [n1] at e
    have : gcd4 a b c d * 1 = gcd4 a b c d * gcd4 q.a q.b q.c q.d := by omega
    exact (Nat.eq_of_mul_eq_mul_left hp this).symm
  · have h1 := sg_mul_pos (g := (gcd4 a b c d : Int)) (by omega) q.a
    have h2 := sg_mul_pos (g := (gcd4 a b c d : Int)) (by omega) q.b
    have h3 := sg_mul_pos (g := (gcd4 a b c d : Int)) (by omega) q.c
    have ea := f.ea
    have eb := f.eb
    have ec := f.ec
    have nz := f.nz
    unfold Nz at nz
    rcases sc with z | z
    · rw [z] at ea eb ec
      rw [Int.mul_one] at ea eb ec
      rw [← ea] at h1
      rw [← eb] at h2
      rw [← ec] at h3
      unfold sideOf at z ⊢
      split at z
      · cases z
      · rw [if_neg (by omega)]
    · rw [z] at ea eb ec
      have ea' : a = -((gcd4 a b c d : Int) * q.a) := by rw [← Int.neg_mul, Int.mul_neg_one] at *; exact ea
      have eb' : b = -((gcd4 a b c d : Int) * q.b) := by rw [← Int.neg_mul, Int.mul_neg_one] at *; exact eb
      have ec' : c = -((gcd4 a b c d : Int) * q.c) := by rw [← Int.neg_mul, Int.mul_neg_one] at *; exact ec
      generalize (gcd4 a b c d : Int) * q.a = u at *
      generalize (gcd4 a b c d : Int) * q.b = v at *
      generalize (gcd4 a b c d : Int) * q.c = w at *
      unfold sideOf at z ⊢
      split at z
      · rw [if_neg (by omega)]
      · cases z
theorem IsPl.unique {q r : P4} {m n : Int} (hq : IsPl q) (hr : IsPl r) (m0 : m ≠ 0) (ea : m * q.a = n * r.a) (eb : m * q.b = n * r.b) (ec : m * q.c = n * r.c) (ed : m * q.d = n * r.d) : q = r := by
  have e1 := gcd4_mul m q.a q.b q.c q.d
  have e2 := gcd4_mul n r.a r.b r.c r.d
  rw [ea, eb, ec, ed, e2, hq.g, hr.g] at e1
  have hmn : m = n ∨ m = -n := by omega
  obtain ⟨qa, qb, qc, qd⟩ := q
  obtain ⟨ra, rb, rc, rd⟩ := r
  simp only at *
  rcases hmn with h | h
  · subst h
    rw [Int.eq_of_mul_eq_mul_left m0 ea, Int.eq_of_mul_eq_mul_left m0 eb, Int.eq_of_mul_eq_mul_left m0 ec, Int.eq_of_mul_eq_mul_left m0 ed]
  · have n1 : n = -m := by omega
    subst n1
    have fa : qa = -ra := Int.eq_of_mul_eq_mul_left m0 (by rw [ea]; grind)
    have fb : qb = -rb := Int.eq_of_mul_eq_mul_left m0 (by rw [eb]; grind)
    have fc : qc = -rc := Int.eq_of_mul_eq_mul_left m0 (by rw [ec]; grind)
    have s1 := hq.s
    have s2 := hr.s
    have nz := hr.nz
    unfold Nz at nz
    unfold sideOf at s1 s2
    simp only at s1 s2 nz
    split at s1
    · cases s1
    · split at s2
      · cases s2
      · omega
/-- q with the side s is the half-space a x + b y + c z + d > 0 -/
structure HalfOf (a b c d : Rat) (q : P4) (s : Int) : Prop where
  pl : IsPl q
  side : s = 1 ∨ s = -1
  ex : ∃ t : Rat, 0 < t ∧ a * t = s * q.a ∧ b * t = s * q.b ∧ c * t = s * q.c ∧ d * t = s * q.d
theorem HalfOf.unique {a b c d r : Rat} {q q' : P4} {s s' : Int} (f : HalfOf a b c d q s) (g : HalfOf (r * a) (r * b) (r * c) (r * d) q' s') (hr : r ≠ 0) : q = q' := by
  obtain ⟨t, tp, ta, tb, tc, td⟩ := f.ex
  obtain ⟨t', tp', ta', tb', tc', td'⟩ := g.ex
  have hs : (s : Rat) ≠ 0 := by rcases f.side with e | e <;> (rw [e]; decide +kernel)
  have hs' : (s' : Rat) ≠ 0 := by rcases g.side with e | e <;> (rw [e]; decide +kernel)
  generalize eα : t * s' = α
  generalize eβ : t' * r * s = β
  have hα : α ≠ 0 := by rw [← eα]; grind
  have hβ : β ≠ 0 := by rw [← eβ]; grind
  have nα := num_eq α
  have nβ := num_eq β
  have k : ∀ (x y : Int) (z : Rat), z * t = s * x → r * z * t' = s' * y → β.num * α.den * x = α.num * β.den * y := by
    intro x y z h1 h2
    have : ((β.num * α.den * x : Int) : Rat) = ((α.num * β.den * y : Int) : Rat) := by
      push_cast
      rw [nα, nβ, ← eα, ← eβ]
      grind
    exact_mod_cast this
  refine f.pl.unique g.pl (m := β.num * α.den) (n := α.num * β.den) ?_ (k _ _ _ ta ta') (k _ _ _ tb tb') (k _ _ _ tc tc') (k _ _ _ td td')
  exact Int.mul_ne_zero (fun z => hβ (Rat.num_eq_zero.mp z)) (den_ne α)
end Mv
namespace Mv
open PySem PySem.Spec PyProof.Rows L2 Sm
variable {n : Nat} {h : EH} {Q : D → EH → Prop} {E : Ex → EH → Prop}
theorem form_none {d : Int} : m__law_form [.int 0, .int 0, .int 0, .int d] h = .ok .non h := by
  simp [m__law_form, b__law_form]
theorem form_eq {a b c d : Int} {s : Nat} (z : Pz s ⟨a, b, c, d⟩) (hs : s ≤ 9000) (ne : ¬ (a = 0 ∧ b = 0 ∧ c = 0)) : ∃ q, m__law_form [.int a, .int b, .int c, .int d] h = .ok (.tup [pt q, .int (sideOf a b c)]) h ∧ FormOf a b c d q := by
  obtain ⟨d1, d2, d3, d4⟩ := gcd4_dvd a b c d
  have gp : 0 < gcd4 a b c d := by
    rcases Nat.eq_zero_or_pos (gcd4 a b c d) with g | g
    · rw [g] at d1 d2 d3
      simp at d1 d2 d3
      exact absurd ⟨d1, d2, d3⟩ ne
    · exact g
  have gb : gcd4 a b c d < 2 ^ s := by
    have le : ∀ x : Int, (gcd4 a b c d : Int) ∣ x → x ≠ 0 → Bn s x → gcd4 a b c d < 2 ^ s := fun x dv nz hx => by
      obtain ⟨y, e⟩ := dv
      have y0 : 0 < y.natAbs := by
        rcases Nat.eq_zero_or_pos y.natAbs with w | w
        · exact absurd (by rw [e, Int.natAbs_eq_zero.mp w, Int.mul_zero]) nz
        · exact w
      have := Nat.le_mul_of_pos_right (gcd4 a b c d) y0
      have e2 : x.natAbs = gcd4 a b c d * y.natAbs := by rw [e, Int.natAbs_mul, Int.natAbs_natCast]
      exact Nat.lt_of_le_of_lt (by omega) hx
    by_cases a0 : a = 0
    · by_cases b0 : b = 0
      · exact le c d3 (fun z => ne ⟨a0, b0, z⟩) z.2.2.1
      · exact le b d2 b0 z.2.1
    · exact le a d1 a0 z.1
  have sc := side_cases a b c
  have m0 : (gcd4 a b c d : Int) * sideOf a b c ≠ 0 := by
    rcases sc with e | e <;> (rw [e]; omega)
  have dv : ∀ x : Int, (gcd4 a b c d : Int) ∣ x → ∃ y, x = gcd4 a b c d * sideOf a b c * y := fun x ⟨y, e⟩ => by
    rcases sc with f | f
    · exact ⟨y, by rw [f, e]; simp⟩
    · exact ⟨-y, by rw [f, e]; grind⟩
  obtain ⟨qa, ea⟩ := dv a d1
  obtain ⟨qb, eb⟩ := dv b d2
  obtain ⟨qc, ec⟩ := dv c d3
  obtain ⟨qd, ed⟩ := dv d d4
  have f : FormOf a b c d ⟨qa, qb, qc, qd⟩ := ⟨ea, eb, ec, ed, gp, fun ⟨x, y, w⟩ => ne ⟨by rw [ea]; simp only at x; rw [x]; simp, by rw [eb]; simp only at y; rw [y]; simp, by rw [ec]; simp only at w; rw [w]; simp⟩⟩
  refine ⟨⟨qa, qb, qc, qd⟩, ?_, f⟩
  have km : mulOk (gcd4 a b c d : Int) (sideOf a b c) = true := mulOk_r (by rcases sc with e | e <;> (rw [e]; decide))
  have dk : divOk ((gcd4 a b c d : Int) * sideOf a b c) = true := divOk_of (n := s) m0 (by rcases sc with e | e <;> (rw [e]; simp; exact gb)) hs
  have c1 : ∀ x y : Int, x = gcd4 a b c d * sideOf a b c * y → x.fdiv (gcd4 a b c d * sideOf a b c) = y := fun x y e => by rw [e]; exact Int.mul_fdiv_cancel_left _ m0
  have f1 := c1 _ _ ea
  have f2 := c1 _ _ eb
  have f3 := c1 _ _ ec
  have f4 := c1 _ _ ed
  have eg : (Int.gcd ((Int.gcd a b : Nat) : Int) ((Int.gcd c d : Nat) : Int)) = gcd4 a b c d := rfl
  have ne' : ¬ (a = 0 ∧ b = 0 ∧ c = 0) := ne
  clear ea eb ec ed c1 f dv d1 d2 d3 d4 sc m0 gp gb
  have t3e : ∀ G : Int, finR (t3__law_form [some (.int a), some (.int b), some (.int c), some (.int d), some (.int G), some (.int 1)] h) = finR (t4__law_form [some (.int a), some (.int b), some (.int c), some (.int d), some (.int G), some (.int (sideOf a b c))] h) := fun G => by
    unfold sideOf
    by_cases a1 : a < 0
    · simp [t3__law_form, a1]
    · by_cases a0 : a = 0
      · by_cases b1 : b < 0
        · simp [t3__law_form, a0, b1]
        · by_cases b0 : b = 0
          · by_cases c1 : c < 0
            · simp [t3__law_form, a0, b0, c1]
            · simp [t3__law_form, a0, b0, c1]
          · simp [t3__law_form, a0, b0, b1]
      · simp [t3__law_form, a0, a1]
  have tl : finR (t4__law_form [some (.int a), some (.int b), some (.int c), some (.int d), some (.int (gcd4 a b c d)), some (.int (sideOf a b c))] h) = .ok (.tup [pt ⟨qa, qb, qc, qd⟩, .int (sideOf a b c)]) h := by
    generalize (gcd4 a b c d : Int) = G at *
    generalize sideOf a b c = sd at *
    simp [t4__law_form, t5__law_form, op_mul_i, km, op_div_i dk, sz_ok, f1, f2, f3, f4, pt]
  rw [← tl, ← t3e]
  by_cases a0 : a = 0
  · by_cases b0 : b = 0
    · have c0 : ¬ c = 0 := fun z => ne' ⟨a0, b0, z⟩
      simp [m__law_form, b__law_form, t1__law_form, t2__law_form, gcd_spec, a0, b0, c0, gcd4]
    · simp [m__law_form, b__law_form, t1__law_form, t2__law_form, gcd_spec, a0, b0, gcd4]
  · simp [m__law_form, b__law_form, t1__law_form, t2__law_form, gcd_spec, a0, gcd4]
end Mv
namespace Mv
open PySem PySem.Spec PyProof.Rows L2 Sm
variable {n : Nat} {h : EH} {Q : D → EH → Prop} {E : Ex → EH → Prop}
theorem normal_ok (S : Store h n) (k : ∀ (a b c : Int) h', a.natAbs < 10 → b.natAbs < 10 → c.natAbs < 10 → ¬ (a = 0 ∧ b = 0 ∧ c = 0) → Dr n h h' → Q (.tup [.int a, .int b, .int c]) h') : Wp (m__law_normal [.ref n] h) Q E := by
  simp [m__law_normal, b__law_normal, t1__law_normal, t2__law_normal, t3__law_normal, t4__law_normal, t5__law_normal, t6__law_normal, t7__law_normal, t8__law_normal]
  refine take_ok S (by decide) fun kd h1 a1 b1 d1 => ?_
  have l1 := d1.len
  have hn := S.lt
  by_cases c8 : kd < 8
  · simp [c8, sz_ok]
    have d2 := d1.add (o := [.lst [D.tup [.int 1, .int 0, .int 0], .tup [.int 0, .int 1, .int 0], .tup [.int 0, .int 0, .int 1]]])
    refine take_nat (M := 3) d2.st (by decide) fun i h2 a2 d3 => ?_
    have q := d3.at (m := h1.length) (by omega) At.new
    refine wp_pick q (by simp; omega) fun d hd => ?_
    simp at hd
    rcases hd with rfl | rfl | rfl <;> exact k _ _ _ _ (by decide) (by decide) (by decide) (by decide) (d2.trans d3)
  · have rest : ∀ M : Int, M = 2 ∨ M = 9 → ∀ Q' : D → D → D → EH → Prop, (∀ (a b c : Int) h', a.natAbs < 10 → b.natAbs < 10 → c.natAbs < 10 → Dr n h h' → Q' (.int (a + M)) (.int (b + M)) (.int (c + M)) h') → Wp (m__law_take [.ref n, .int (2 * M + 1)] h1) (fun x h2 => Wp (m__law_take [.ref n, .int (2 * M + 1)] h2) (fun y h3 => Wp (m__law_take [.ref n, .int (2 * M + 1)] h3) (fun z h4 => Q' x y z h4) E) E) E := fun M hM Q' kk => by
      refine take_ok (M := 2 * M + 1) d1.st (by omega) fun x h2 a2 b2 d2 => ?_
      have d2 := d1.trans d2
      refine take_ok (M := 2 * M + 1) d2.st (by omega) fun y h3 a3 b3 d3 => ?_
      have d3 := d2.trans d3
      refine take_ok (M := 2 * M + 1) d3.st (by omega) fun z h4 a4 b4 d4 => ?_
      have := kk (x - M) (y - M) (z - M) h4 (by omega) (by omega) (by omega) (d3.trans d4)
      rw [show x - M + M = x by omega, show y - M + M = y by omega, show z - M + M = z by omega] at this
      exact this
    have fin : ∀ (a b c : Int) h', a.natAbs < 10 → b.natAbs < 10 → c.natAbs < 10 → Dr n h h' → if a = 0 ∧ b = 0 ∧ c = 0 then Q (.tup [.int 1, .int b, .int c]) h' else Q (.tup [.int a, .int b, .int c]) h' := fun a b c h' la lb lc d => by
      split
      · exact k _ _ _ _ (by decide) lb lc (by omega) d
      · rename_i hne; exact k _ _ _ _ la lb lc hne d
    have km : ∀ M : Int, mulOk 2 M = true := fun M => mulOk_l (by decide)
    by_cases c11 : kd < 11
    · simp [c8, c11, op_mul_i, km]
      refine take_ok (M := 19) d1.st (by decide) fun x h2 a2 b2 d2 => ?_
      have d2 := d1.trans d2
      simp [op_mul_i, km]
      refine take_ok (M := 19) d2.st (by decide) fun y h3 a3 b3 d3 => ?_
      have d3 := d2.trans d3
      simp [op_mul_i, km]
      refine take_ok (M := 19) d3.st (by decide) fun z h4 a4 b4 d4 => ?_
      have f := fin (x - 9) (y - 9) (z - 9) h4 (by omega) (by omega) (by omega) (d3.trans d4)
      by_cases x0 : x - 9 = 0
      · by_cases y0 : y - 9 = 0
        · by_cases z0 : z - 9 = 0 <;> simp [x0, y0, z0, sz_ok] at f ⊢ <;> exact f
        · simp [x0, y0, sz_ok] at f ⊢; exact f
      · simp [x0, sz_ok] at f ⊢; exact f
    · simp [c8, c11, op_mul_i, km]
      refine take_ok (M := 5) d1.st (by decide) fun x h2 a2 b2 d2 => ?_
      have d2 := d1.trans d2
      simp [op_mul_i, km]
      refine take_ok (M := 5) d2.st (by decide) fun y h3 a3 b3 d3 => ?_
      have d3 := d2.trans d3
      simp [op_mul_i, km]
      refine take_ok (M := 5) d3.st (by decide) fun z h4 a4 b4 d4 => ?_
      have f := fin (x - 2) (y - 2) (z - 2) h4 (by omega) (by omega) (by omega) (d3.trans d4)
      by_cases x0 : x - 2 = 0
      · by_cases y0 : y - 2 = 0
        · by_cases z0 : z - 2 = 0 <;> simp [x0, y0, z0, sz_ok] at f ⊢ <;> exact f
        · simp [x0, y0, sz_ok] at f ⊢; exact f
      · simp [x0, sz_ok] at f ⊢; exact f
end Mv
namespace Mv
open PySem PySem.Spec PyProof.Rows L2 Sm
variable {n : Nat} {h : EH} {Q : D → EH → Prop} {E : Ex → EH → Prop}
theorem plane_pl (S : Store h n) (k : ∀ p h', Pz 6 p → IsPl p → Dr n h h' → Q (pt p) h') : Wp (m__law_plane [.ref n] h) Q E := by
  simp [m__law_plane, b__law_plane, t1__law_plane, t2__law_plane]
  refine normal_ok S fun a b c h1 la lb lc ne d1 => ?_
  simp
  refine take_ok (M := 8) d1.st (by decide) fun r h2 a2 b2 d2 => ?_
  have d2 := d1.trans d2
  have km : ∀ M : Int, mulOk 2 M = true := fun M => mulOk_l (by decide)
  by_cases c0 : r = 0
  · simp [c0, op_mul_i, km]
    refine take_ok (M := 5) d2.st (by decide) fun e h3 a3 b3 d3 => ?_
    obtain ⟨q, eq, f⟩ := form_eq (h := h3) (s := 6) (a := 2 * a) (b := 2 * b) (c := 2 * c) (d := 2 * e - 5) (.of (by omega) (by omega) (by omega) (by omega)) (by decide) (by omega)
    simp [op_mul_i, km, eq]
    exact k q _ (f.bn (.of (by omega) (by omega) (by omega) (by omega))) f.pl (d2.trans d3)
  · simp [c0]
    refine take_ok (M := 11) d2.st (by decide) fun e h3 a3 b3 d3 => ?_
    obtain ⟨q, eq, f⟩ := form_eq (h := h3) (s := 6) (a := a) (b := b) (c := c) (d := e - 5) (.of (by omega) (by omega) (by omega) (by omega)) (by decide) ne
    simp [eq]
    exact k q _ (f.bn (.of (by omega) (by omega) (by omega) (by omega))) f.pl (d2.trans d3)
theorem plane_ok (S : Store h n) (k : ∀ p h', Pz 6 p → Nz p → Dr n h h' → Q (pt p) h') : Wp (m__law_plane [.ref n] h) Q E := plane_pl S fun p h' z pl d => k p h' z pl.nz d
end Mv
namespace Mv
open PySem PySem.Spec PyProof.Rows L2 Sm
variable {n : Nat} {h : EH} {Q : D → EH → Prop} {E : Ex → EH → Prop}
theorem wide_spec {h : EH} {n : Nat} (S : Store h n) (many : Int) (h0 : 0 ≤ many) (h1 : many ≤ 1000) : ∃ r h', m__law_wide [.ref n, .int many] h = .ok (.int r) h' ∧ 0 ≤ r ∧ r < 10 ^ many.toNat ∧ Dr n h h' := by
  obtain ⟨e', h', l, ⟨s, x, rfl, s0, s1⟩, d⟩ := for_range (e := [some (.ref n), some (.int many), some (.int 0), none]) (h := h) (lo := 0) (c := 1) (n := many.toNat) (g := gVar 3) (b := l0__law_wide)
    (fun k e h' => (∃ (s : Int) (x : Option D), e = [some (.ref n), some (.int many), some (.int s), x] ∧ 0 ≤ s ∧ s < 10 ^ k) ∧ Store h' n ∧ (k = 0 ∧ h' = h ∨ Dr n h h')) ⟨⟨0, none, rfl, by omega, by decide⟩, S, .inl ⟨rfl, rfl⟩⟩ (by
      rintro k e h' hk ⟨⟨s, x, rfl, s0, s1⟩, S', d⟩
      obtain ⟨r, h2, e2, a2, b2, d2⟩ := take_spec S' 10 (by omega)
      have km : mulOk s 10 = true := mulOk_r (by decide)
      refine ⟨_, _, rfl, [some (.ref n), some (.int many), some (.int (s * 10 + r)), some (.int (0 + k * 1))], h2, .inl (by simp [l0__law_wide, op_mul_i, km, e2]), ⟨_, _, rfl, by omega, ?_⟩, d2.st, .inr ?_⟩
      · rw [Int.pow_succ]; omega
      · rcases d with ⟨_, rfl⟩ | d
        · exact d2
        · exact d.trans d2)
  have dd : Dr n h h' := by
    rcases d with ⟨S', ⟨_, rfl⟩ | d⟩
    · exact ⟨S', Nat.le_refl _, fun _ _ _ q => q⟩
    · exact d
  refine ⟨s, h', ?_, s0, s1, dd⟩
  simp only [m__law_wide, b__law_wide, t1__law_wide, t2__law_wide, q0__law_wide, mFun_2, List.replicate, sSeq_r, sAsg_r, eC_r, liftS_ok, gVar_r, List.set_cons_zero, List.set_cons_succ, thenS_nx]
  rw [sFor_eq (it := itR 0 1 many.toNat) (h1 := h) (by simp [asR1_r (show -(2 ^ 62) ≤ many by omega) (show many < 2 ^ 62 by omega)]) l]
  simp
end Mv
namespace Mv
open PySem PySem.Spec PyProof.Rows L2 Sm
variable {n : Nat} {h : EH} {Q : D → EH → Prop} {E : Ex → EH → Prop}
theorem integer_spec {h : EH} {n : Nat} (S : Store h n) : ∃ r h', m__law_integer [.ref n] h = .ok (.int r) h' ∧ r.natAbs ≤ 10 ^ 40 ∧ Dr n h h' := by
  obtain ⟨k, h1, e1, a1, b1, d1⟩ := take_spec S 6 (by omega)
  by_cases c0 : k = 0
  · obtain ⟨r, h2, e2, a2, b2, d2⟩ := take_spec d1.st 5 (by omega)
    exact ⟨r - 2, h2, by simp [m__law_integer, b__law_integer, t1__law_integer, e1, c0, e2], by omega, d1.trans d2⟩
  · by_cases c2 : 2 < k
    · obtain ⟨r, h2, e2, a2, b2, d2⟩ := take_spec d1.st 2000 (by omega)
      exact ⟨r - 1000, h2, by simp [m__law_integer, b__law_integer, t1__law_integer, t2__law_integer, e1, c0, c2, e2], by omega, d1.trans d2⟩
    · -- behind the two ways a found number and its sign
      have tail : ∀ (f : Int) (x : Option D) (h2 : EH), Store h2 n → 0 ≤ f + 1 → f ≤ 10 ^ 40 → ∃ r h', finR (t5__law_integer [some (.ref n), some (.int k), some (.int f), x] h2) = .ok (.int r) h' ∧ r.natAbs ≤ 10 ^ 40 ∧ Dr n h2 h' := fun f x h2 S2 f0 f1 => by
        obtain ⟨s, h3, e3, a3, b3, d3⟩ := take_spec S2 2 (by omega)
        by_cases cs : s = 0
        · exact ⟨-f, h3, by simp [t5__law_integer, e3, cs], by omega, d3⟩
        · exact ⟨f, h3, by simp [t5__law_integer, t6__law_integer, e3, cs], by omega, d3⟩
      by_cases c1 : k = 1
      · obtain ⟨t, h2, e2, a2, b2, d2⟩ := take_spec d1.st 40 (by omega)
        obtain ⟨e', h', l, ⟨x, rfl⟩, rfl⟩ := for_range (e := [some (.ref n), some (.int k), some (.int 1), none]) (h := h2) (lo := 0) (c := 1) (n := t.toNat) (g := gVar 3) (b := l0__law_integer)
          (fun j e h' => (∃ x, e = [some (.ref n), some (.int k), some (.int (10 ^ j)), x]) ∧ h' = h2) ⟨⟨none, rfl⟩, rfl⟩ (by
            rintro j e h' hj ⟨⟨x, rfl⟩, rfl⟩
            have km : mulOk (10 ^ j) 10 = true := mulOk_r (by decide)
            exact ⟨_, _, rfl, [some (.ref n), some (.int k), some (.int (10 ^ (j + 1))), some (.int (0 + j * 1))], h', .inl (by simp [l0__law_integer, op_mul_i, km, Int.pow_succ]), ⟨_, rfl⟩, rfl⟩)
        obtain ⟨u, h3, e3, a3, b3, d3⟩ := take_spec d2.st 3 (by omega)
        have lt : (10 : Int) ^ t.toNat ≤ 10 ^ 39 := pow10_le (by omega)
        have p0 : (0 : Int) < 10 ^ t.toNat := Int.pow_pos (by decide)
        obtain ⟨r, h4, e4, a4, d4⟩ := tail (10 ^ t.toNat + u - 1) x h3 d3.st (by omega) (by omega)
        refine ⟨r, h4, ?_, a4, ((d1.trans d2).trans d3).trans d4⟩
        have sf : q0__law_integer [some (.ref n), some (.int k), some (.int 1), none] h1 = .nx [some (.ref n), some (.int k), some (.int (10 ^ t.toNat)), x] h' :=
          sFor_eq (it := itR 0 1 t.toNat) (h1 := h') (by simp [e2, asR1_r (show -(2 ^ 62) ≤ t by omega) (show t < 2 ^ 62 by omega)]) l
        simp [m__law_integer, b__law_integer, t1__law_integer, t2__law_integer, t3__law_integer, t4__law_integer, e1, c0, c2, c1] at sf e4 ⊢
        simp [sf, e3, e4]
      · obtain ⟨t, h2, e2, a2, b2, d2⟩ := take_spec d1.st 40 (by omega)
        obtain ⟨f, h3, e3, a3, b3, d3⟩ := wide_spec d2.st (1 + t) (by omega) (by omega)
        have lt : (10 : Int) ^ (1 + t).toNat ≤ 10 ^ 40 := pow10_le (by omega)
        obtain ⟨r, h4, e4, a4, d4⟩ := tail f none h3 d3.st (by omega) (by omega)
        refine ⟨r, h4, ?_, a4, ((d1.trans d2).trans d3).trans d4⟩
        simp [m__law_integer, b__law_integer, t1__law_integer, t2__law_integer, t3__law_integer, t4__law_integer, e1, c0, c2, c1, e2, e3, e4]

theorem integer_ok (S : Store h n) (k : ∀ (r : Int) h', r.natAbs ≤ 10 ^ 40 → Dr n h h' → Q (.int r) h') : Wp (m__law_integer [.ref n] h) Q E := by
  obtain ⟨r, h', e, a, d⟩ := integer_spec S
  rw [e]; exact k r h' a d
end Mv
namespace Mv
open PySem PySem.Spec PyProof.Rows L2 Sm
theorem wide_plane_ok {n : Nat} {h : EH} {Q : D → EH → Prop} {E : Ex → EH → Prop} (S : Store h n) (k : ∀ p h', Pz 133 p → IsPl p → Dr n h h' → Q (pt p) h') : Wp (m__law_wide_plane [.ref n] h) Q E := by
  simp [m__law_wide_plane, b__law_wide_plane]
  refine take_nat S (by decide) fun r h1 hr d1 => ?_
  by_cases r0 : r = 0
  · subst r0
    simp
    exact plane_pl d1.st fun p h2 z pl d2 => k p h2 (z.mono (by decide)) pl (d1.trans d2)
  · simp [r0, t1__law_wide_plane]
    refine integer_ok d1.st fun a h2 ha d2 => ?_
    simp [t2__law_wide_plane]
    refine integer_ok d2.st fun b h3 hb d3 => ?_
    simp [t3__law_wide_plane]
    refine integer_ok d3.st fun c h4 hc d4 => ?_
    try simp
    refine integer_ok d4.st fun d h5 hd d5 => ?_
    have d05 := (((d1.trans d2).trans d3).trans d4).trans d5
    have p10 : (10 : Nat) ^ 40 < 2 ^ 133 := by decide
    by_cases ne : a = 0 ∧ b = 0 ∧ c = 0
    · obtain ⟨rfl, rfl, rfl⟩ := ne
      simp [form_none, t4__law_wide_plane]
      have bz : Bn 133 0 := by unfold Bn; decide
      have b1 : Bn 133 1 := by unfold Bn; decide
      exact k ⟨0, 0, 1, 0⟩ _ ⟨bz, bz, b1, bz⟩ ⟨by decide, by decide, fun z => by cases z.2.2⟩ d05
    · have z : Pz 133 ⟨a, b, c, d⟩ := ⟨by show a.natAbs < _; omega, by show b.natAbs < _; omega, by show c.natAbs < _; omega, by show d.natAbs < _; omega⟩
      obtain ⟨q, e, f⟩ := form_eq (h := h5) z (by decide) ne
      simp [e, t4__law_wide_plane, t5__law_wide_plane]
      exact k q _ (f.bn z) f.pl d05
end Mv
namespace Mv
open PySem PySem.Spec PyProof.Rows L2 Sm
variable {n : Nat} {h : EH} {Q : D → EH → Prop} {E : Ex → EH → Prop}
/-- what a plane's numbers come to at a point, times its denominators -/
def wd (v : V3) : Int := v.x.den * v.y.den * v.z.den
def su (P : P4) (v : V3) : Int := P.a * v.x.num * v.y.den * v.z.den + P.b * v.y.num * v.x.den * v.z.den + P.c * v.z.num * v.x.den * v.y.den + P.d * wd v
def val (P : P4) (v : V3) : Rat := P.a * v.x + P.b * v.y + P.c * v.z + P.d
theorem wd_pos (v : V3) : 0 < wd v := Int.mul_pos (Int.mul_pos (den_pos _) (den_pos _)) (den_pos _)
theorem su_val (P : P4) (v : V3) : ((su P v : Int) : Rat) = val P v * wd v := by
  have h1 := num_eq v.x
  have h2 := num_eq v.y
  have h3 := num_eq v.z
  unfold su val wd
  push_cast
  rw [h1, h2, h3]
  grind
theorem wd_bn {t : Nat} {v : V3} (z : Vz t v) : Bn (t + t + t) (wd v) := Bn.mul (Bn.mul z.1.bd z.2.1.bd) z.2.2.bd
def sgi (i : Int) : Int := if 0 < i then 1 else if i < 0 then -1 else 0
theorem val_sz {s t : Nat} {P : P4} {v : V3} (p : Pz s P) (z : Vz t v) (c : 3 * t ≤ 9000) : Sz (s + 3 * t + 3) (val P v) := by
  have w0 : wd v ≠ 0 := by have := wd_pos v; omega
  have e : Rat.divInt (su P v) (wd v) = val P v := by
    have hw : ((wd v : Int) : Rat) ≠ 0 := by exact_mod_cast w0
    rw [Rat.divInt_eq_div, su_val]
    grind
  rw [← e]
  obtain ⟨pa, pb, pc, pd⟩ := p
  obtain ⟨zx, zy, zz⟩ := z
  have a1 := Bn.mul (Bn.mul (Bn.mul pa zx.bn) zy.bd) zz.bd
  have a2 := Bn.mul (Bn.mul (Bn.mul pb zy.bn) zx.bd) zz.bd
  have a3 := Bn.mul (Bn.mul (Bn.mul pc zz.bn) zx.bd) zy.bd
  have a4 := Bn.mul pd (Bn.mul (Bn.mul zx.bd zy.bd) zz.bd)
  have b1 := ((a1.add a2).add (a3.mono (by omega))).add ((show Bn _ (P.d * wd v) from a4).mono (show s + (t + t + t) ≤ s + t + t + t + 1 + 1 by omega))
  exact Sz.divInt ((show Bn _ (su P v) from b1).mono (by omega)) ((wd_bn ⟨zx, zy, zz⟩).mono (by omega)) w0
theorem su_bn {s t : Nat} {P : P4} {v : V3} (p : Pz s P) (z : Vz t v) : Bn (s + 3 * t + 3) (su P v) := by
  obtain ⟨pa, pb, pc, pd⟩ := p
  obtain ⟨zx, zy, zz⟩ := z
  have a1 := Bn.mul (Bn.mul (Bn.mul pa zx.bn) zy.bd) zz.bd
  have a2 := Bn.mul (Bn.mul (Bn.mul pb zy.bn) zx.bd) zz.bd
  have a3 := Bn.mul (Bn.mul (Bn.mul pc zz.bn) zx.bd) zy.bd
  have a4 := Bn.mul pd (Bn.mul (Bn.mul zx.bd zy.bd) zz.bd)
  exact (show Bn _ (su P v) from ((a1.add a2).add (a3.mono (by omega))).add ((show Bn _ (P.d * wd v) from a4).mono (show s + (t + t + t) ≤ s + t + t + t + 1 + 1 by omega))).mono (by omega)
theorem sgi_sg (P : P4) (v : V3) : sgi (su P v) = sg (val P v) := by
  have e := su_val P v
  have w : (0 : Rat) < ((wd v : Int) : Rat) := by exact_mod_cast wd_pos v
  have key : sg ((su P v : Int) : Rat) = sg (val P v) := by
    rw [e, sg_mul]
    rcases sg_cases ((wd v : Int) : Rat) with ⟨c, f⟩ | ⟨c, f⟩ | ⟨c, f⟩
    · exfalso; grind
    · exfalso; grind
    · rw [f, Int.mul_one]
  rw [← key]
  unfold sgi sg
  have e1 : ((su P v : Int) : Rat) < 0 ↔ su P v < 0 := by
    constructor
    · intro x; exact_mod_cast x
    · intro x; exact_mod_cast x
  have e2 : (0 : Rat) < ((su P v : Int) : Rat) ↔ 0 < su P v := by
    constructor
    · intro x; exact_mod_cast x
    · intro x; exact_mod_cast x
  simp only [e1, e2]
  split <;> split <;> omega
end Mv
namespace Mv
open PySem PySem.Spec PyProof.Rows L2 Sm
variable {n : Nat} {h : EH} {Q : D → EH → Prop} {E : Ex → EH → Prop}
theorem parts_eq {s t : Nat} {P : P4} {v : V3} (p : Pz s P) (z : Vz t v) (c : s + 3 * t ≤ 100000) : m_parts_at [pt P, vt v] h = .ok (.tup [.int (su P v), .int (wd v)]) h := by
  obtain ⟨pa, pb, pc, pd⟩ := p
  obtain ⟨zx, zy, zz⟩ := z
  have a1 := Bn.mul pa zx.bn
  have a2 := Bn.mul a1 zy.bd
  have b1 := Bn.mul pb zy.bn
  have b2 := Bn.mul b1 zx.bd
  have c1 := Bn.mul pc zz.bn
  have c2 := Bn.mul c1 zx.bd
  have w1 := Bn.mul zx.bd zy.bd
  have w2 := Bn.mul w1 zz.bd
  have m1 := Bn.ok pa zx.bn (by omega)
  have m2 := Bn.ok a1 zy.bd (by omega)
  have m3 := Bn.ok a2 zz.bd (by omega)
  have m4 := Bn.ok pb zy.bn (by omega)
  have m5 := Bn.ok b1 zx.bd (by omega)
  have m6 := Bn.ok b2 zz.bd (by omega)
  have m7 := Bn.ok pc zz.bn (by omega)
  have m8 := Bn.ok c1 zx.bd (by omega)
  have m9 := Bn.ok c2 zy.bd (by omega)
  have n1 := Bn.ok zx.bd zy.bd (by omega)
  have n2 := Bn.ok w1 zz.bd (by omega)
  have n3 := Bn.ok pd w2 (by omega)
  simp [m_parts_at, b_parts_at, t1_parts_at, t2_parts_at, t3_parts_at, op_mul_i, m1, m2, m3, m4, m5, m6, m7, m8, m9, n1, n2, n3, su, wd]
theorem side_eq {s t : Nat} {P : P4} {v : V3} (p : Pz s P) (z : Vz t v) (c : s + 3 * t ≤ 100000) : m_side_of [pt P, vt v] h = .ok (.int (sgi (su P v))) h := by
  unfold sgi
  by_cases h1 : 0 < su P v
  · simp [m_side_of, b_side_of, t1_side_of, parts_eq p z c, h1]
  · by_cases h2 : su P v < 0
    · simp [m_side_of, b_side_of, t1_side_of, t2_side_of, parts_eq p z c, h1, h2]
    · simp [m_side_of, b_side_of, t1_side_of, t2_side_of, t3_side_of, parts_eq p z c, h1, h2]
end Mv
namespace Mv
open PySem PySem.Spec PyProof.Rows L2 Sm
theorem over_eq {t : Nat} {v : V3} {h : EH} (z : Vz t v) (c : 2 * t ≤ 100000) : m__law_over [vt v] h = .ok (.ref h.length) (h ++ [.lst [.int (v.x.num * v.y.den * v.z.den), .int (v.y.num * v.x.den * v.z.den), .int (v.z.num * v.x.den * v.y.den), .int (v.x.den * v.y.den * v.z.den)]]) := by
  obtain ⟨zx, zy, zz⟩ := z
  have a1 := Bn.mul zx.bn zy.bd
  have b1 := Bn.mul zy.bn zx.bd
  have c1 := Bn.mul zz.bn zx.bd
  have w1 := Bn.mul zx.bd zy.bd
  have m1 := Bn.ok zx.bn zy.bd (by omega)
  have m2 := Bn.ok a1 zz.bd (by omega)
  have m4 := Bn.ok zy.bn zx.bd (by omega)
  have m5 := Bn.ok b1 zz.bd (by omega)
  have m7 := Bn.ok zz.bn zx.bd (by omega)
  have m8 := Bn.ok c1 zy.bd (by omega)
  have n1 := Bn.ok zx.bd zy.bd (by omega)
  have n2 := Bn.ok w1 zz.bd (by omega)
  simp [m__law_over, b__law_over, t1__law_over, op_mul_i, m1, m2, m4, m5, m7, m8, n1, n2]
theorem value_sign_eq {s t : Nat} {P : P4} {v : V3} {h : EH} (p : Pz s P) (z : Vz t v) (c : s + 3 * t ≤ 100000) : m__law_value_sign [pt P, vt v] h = .ok (.int (su P v)) (h ++ [.lst [.int (v.x.num * v.y.den * v.z.den), .int (v.y.num * v.x.den * v.z.den), .int (v.z.num * v.x.den * v.y.den), .int (v.x.den * v.y.den * v.z.den)]]) := by
  have e := over_eq (h := h) z (by omega)
  obtain ⟨pa, pb, pc, pd⟩ := p
  obtain ⟨zx, zy, zz⟩ := z
  have m1 := Bn.ok pa (Bn.mul (Bn.mul zx.bn zy.bd) zz.bd) (by omega)
  have m2 := Bn.ok pb (Bn.mul (Bn.mul zy.bn zx.bd) zz.bd) (by omega)
  have m3 := Bn.ok pc (Bn.mul (Bn.mul zz.bn zx.bd) zy.bd) (by omega)
  have m4 := Bn.ok pd (Bn.mul (Bn.mul zx.bd zy.bd) zz.bd) (by omega)
  have hsu : P.a * (v.x.num * v.y.den * v.z.den) + P.b * (v.y.num * v.x.den * v.z.den) + P.c * (v.z.num * v.x.den * v.y.den) + P.d * (v.x.den * v.y.den * v.z.den) = su P v := by
    unfold su wd
    simp only [Int.mul_assoc]
  have i0 : ∀ (a b c d : D), opE oIx (.ref h.length) (.int 0) (h ++ [.lst [a, b, c, d]]) = .ok a (h ++ [.lst [a, b, c, d]]) := fun a b c d => op_ix_at (k := 0) At.new rfl
  have i1 : ∀ (a b c d : D), opE oIx (.ref h.length) (.int 1) (h ++ [.lst [a, b, c, d]]) = .ok b (h ++ [.lst [a, b, c, d]]) := fun a b c d => op_ix_at (k := 1) At.new rfl
  have i2 : ∀ (a b c d : D), opE oIx (.ref h.length) (.int 2) (h ++ [.lst [a, b, c, d]]) = .ok c (h ++ [.lst [a, b, c, d]]) := fun a b c d => op_ix_at (k := 2) At.new rfl
  have i3 : ∀ (a b c d : D), opE oIx (.ref h.length) (.int 3) (h ++ [.lst [a, b, c, d]]) = .ok d (h ++ [.lst [a, b, c, d]]) := fun a b c d => op_ix_at (k := 3) At.new rfl
  simp [m__law_value_sign, b__law_value_sign, t1__law_value_sign, e, i0, i1, i2, i3, op_mul_i, m1, m2, m3, m4, hsu]
end Mv
namespace Mv
open PySem PySem.Spec PyProof.Rows L2 Sm
variable {n : Nat} {h : EH} {Q : D → EH → Prop} {E : Ex → EH → Prop}
theorem pick_ok (S : Store h n) {m : Nat} {xs : List D} (q : At h m xs) (hm : m ≠ n) (h0 : 0 < xs.length) (h1 : xs.length ≤ 1000) (k : ∀ d h', d ∈ xs → Dr n h h' → Q d h') : Wp (m__law_pick [.ref n, .ref m] h) Q E := by
  simp [m__law_pick, b__law_pick, fLen_r q]
  refine take_nat (M := (xs.length : Int)) S (by omega) fun r h' a d => ?_
  try simp
  exact wp_pick (d.at hm q) (by omega) fun x hx => k x _ hx d
end Mv
namespace Mv
open PySem PySem.Spec PyProof.Rows L2 Sm
variable {n : Nat} {h : EH} {Q : D → EH → Prop} {E : Ex → EH → Prop}
def ht (x : P4 × Int) : D := .tup [pt x.1, .int x.2]
instance : Vd (P4 × Int) where
  d := ht
  p x := .tuple [.tuple [.int x.1.a, .int x.1.b, .int x.1.c, .int x.1.d], .int x.2]
  dep := 2
  py n h a hn := by
    match n, hn with
    | n + 3, _ => rfl
  lay _ := rfl
  depth _ := Nat.le_refl _
  eqv x y := by
    simp only [PyData.eqv, PyData.eqvAll]
    rw [Bool.and_true, Bool.and_true, Bool.beq_eq_decide_eq, Bool.beq_eq_decide_eq, Bool.beq_eq_decide_eq, Bool.beq_eq_decide_eq, Bool.beq_eq_decide_eq, ← Bool.decide_and, ← Bool.decide_and, ← Bool.decide_and, ← Bool.decide_and]
    refine decide_eq_decide.mpr ⟨fun e => ?_, fun e => by rw [e]; exact ⟨⟨rfl, rfl, rfl, rfl⟩, rfl⟩⟩
    obtain ⟨⟨xa, xb, xc, xd⟩, xs⟩ := x
    obtain ⟨⟨ya, yb, yc, yd⟩, ys⟩ := y
    simp_all
theorem ht_eq {x y : P4 × Int} : opE oEq (ht x) (ht y) h = .ok (.bl (decide (x = y))) h := op_eq_v x y (by decide)
theorem ht_ne {x y : P4 × Int} : opE oNe (ht x) (ht y) h = .ok (.bl (!decide (x = y))) h := op_ne_v x y (by decide)
end Mv
namespace Mv
open PySem PySem.Spec PyProof.Rows L2 Sm
variable {n : Nat} {h : EH} {Q : D → EH → Prop} {E : Ex → EH → Prop}
@[simp] theorem ht_0 {x : P4 × Int} : opE oIx (ht x) (.int 0) h = .ok (pt x.1) h := op_ix_t0
@[simp] theorem ht_1 {x : P4 × Int} : opE oIx (ht x) (.int 1) h = .ok (.int x.2) h := op_ix_t1
@[simp] theorem gUnp_ht {gs : List D → Sl → EH → R Sl} {x : P4 × Int} {e : Sl} : gUnp 2 gs (ht x) e h = gs [pt x.1, .int x.2] e h := rfl
end Mv
namespace Mv
open PySem PySem.Spec PyProof.Rows L2 Sm
/-- a condition: a plane in its form, and its need -/
structure Cok (s : Nat) (c : P4 × Int) : Prop where
  pl : IsPl c.1
  sz : Pz s c.1
  lo : -2 ≤ c.2
  hi : c.2 ≤ 2
/-- whether a condition holds where the plane's sum is t -/
def truI (need t : Int) : Bool := if need = 1 then decide (0 < t) else if need = 2 then decide (0 ≤ t) else if need = 0 then decide (t = 0) else if need = -1 then decide (t < 0) else decide (t ≤ 0)
def tru (c : P4 × Int) (v : V3) : Bool := truI c.2 (su c.1 v)
def clN (n : Int) : Int := if n = 1 ∨ n = -1 then 2 * n else n
def cl (c : P4 × Int) : P4 × Int := (c.1, clN c.2)
theorem need_cases {n : Int} (lo : -2 ≤ n) (hi : n ≤ 2) : n = -2 ∨ n = -1 ∨ n = 0 ∨ n = 1 ∨ n = 2 := by omega
theorem Cok.cl {s : Nat} {c : P4 × Int} (k : Cok s c) : Cok s (cl c) := ⟨k.pl, k.sz, by
  have := k.lo; have := k.hi
  show -2 ≤ clN c.2
  unfold clN; split <;> omega, by
  have := k.lo; have := k.hi
  show clN c.2 ≤ 2
  unfold clN; split <;> omega⟩
theorem tru_cl {s : Nat} {c : P4 × Int} (k : Cok s c) (v : V3) (t : tru c v = true) : tru (cl c) v = true := by
  unfold tru cl clN at *
  simp only
  rcases need_cases k.lo k.hi with e | e | e | e | e <;> simp [e, truI] at t ⊢ <;> omega
theorem cl_cl (c : P4 × Int) : cl (cl c) = cl c := by
  unfold cl
  simp only [Prod.mk.injEq, true_and]
  unfold clN
  split
  · split <;> omega
  · rfl
end Mv
namespace Mv
open PySem PySem.Spec PyProof.Rows L2 Sm
theorem condition_ok {n m : Nat} {h : EH} {vs : List V3} {Q : D → EH → Prop} {E : Ex → EH → Prop} (S : Store h n) (a : At h m (vs.map vt)) (hm : m ≠ n) (v0 : 0 < vs.length) (v1 : vs.length ≤ 1000) (zv : ∀ v ∈ vs, Vz 5 v) (k : ∀ c h', Cok 133 c → Dr n h h' → Q (ht c) h') : Wp (m__law_condition [.ref n, .ref m] h) Q E := by
  simp [m__law_condition, b__law_condition]
  refine take_nat S (by decide) fun r h1 hr d1 => ?_
  simp [t1__law_condition]
  refine take_nat d1.st (by decide) fun r2 h2 hr2 d2 => ?_
  have d02 := d1.trans d2
  by_cases c0 : r2 = 0
  · subst c0
    simp
    refine wide_plane_ok d02.st fun p h3 z pl d3 => ?_
    exact k (p, (r : Int) - 2) h3 ⟨pl, z, by show -2 ≤ (r : Int) - 2; omega, by show (r : Int) - 2 ≤ 2; omega⟩ (d02.trans d3)
  · simp [c0, t2__law_condition]
    refine normal_ok d02.st fun a' b' c' h3 ha hb hc ne d3 => ?_
    have d03 := d02.trans d3
    simp [t3__law_condition]
    refine pick_ok d03.st (d03.at hm a) hm (by simpa using v0) (by simpa using v1) fun d h4 hd d4 => ?_
    obtain ⟨v, hv, rfl⟩ := List.mem_map.mp hd
    have z := zv v hv
    have d04 := d03.trans d4
    have e := over_eq (h := h4) z (by decide)
    generalize hx : v.x.num * v.y.den * v.z.den = x0 at e
    generalize hy : v.y.num * v.x.den * v.z.den = x1 at e
    generalize hz : v.z.num * v.x.den * v.y.den = x2 at e
    generalize hw : (v.x.den : Int) * v.y.den * v.z.den = x3 at e
    have b0 : Bn 15 x0 := hx ▸ Bn.mul (Bn.mul z.1.bn z.2.1.bd) z.2.2.bd
    have b1 : Bn 15 x1 := hy ▸ Bn.mul (Bn.mul z.2.1.bn z.1.bd) z.2.2.bd
    have b2 : Bn 15 x2 := hz ▸ Bn.mul (Bn.mul z.2.2.bn z.1.bd) z.2.1.bd
    have b3 : Bn 15 x3 := hw ▸ Bn.mul (Bn.mul z.1.bd z.2.1.bd) z.2.2.bd
    have w3 : 0 < x3 := hw ▸ wd_pos v
    have ba : Bn 4 a' := by show a'.natAbs < _; omega
    have bb : Bn 4 b' := by show b'.natAbs < _; omega
    have bc : Bn 4 c' := by show c'.natAbs < _; omega
    have m0 := Bn.ok ba.neg b0 (by decide)
    have m1 := Bn.ok bb b1 (by decide)
    have m2 := Bn.ok bc b2 (by decide)
    have m3 := Bn.ok ba b3 (by decide)
    have m4 := Bn.ok bb b3 (by decide)
    have m5 := Bn.ok bc b3 (by decide)
    have bl : Bn 21 (-a' * x0 - b' * x1 - c' * x2) := Bn.sub (Bn.sub (Bn.mul ba.neg b0) (Bn.mul bb b1)) ((Bn.mul bc b2).mono (by decide))
    have zp : Pz 21 ⟨a' * x3, b' * x3, c' * x3, -a' * x0 - b' * x1 - c' * x2⟩ := ⟨(Bn.mul ba b3).mono (by decide), (Bn.mul bb b3).mono (by decide), (Bn.mul bc b3).mono (by decide), bl⟩
    have n0 : ¬ (a' * x3 = 0 ∧ b' * x3 = 0 ∧ c' * x3 = 0) := fun q => ne ⟨(Int.mul_eq_zero.mp q.1).resolve_right (by omega), (Int.mul_eq_zero.mp q.2.1).resolve_right (by omega), (Int.mul_eq_zero.mp q.2.2).resolve_right (by omega)⟩
    obtain ⟨q, ef, f⟩ := form_eq (h := h4 ++ [.lst [.int x0, .int x1, .int x2, .int x3]]) zp (by decide) n0
    have i0 : ∀ (h : EH) (a b c d : D), opE oIx (.ref h.length) (.int 0) (h ++ [.lst [a, b, c, d]]) = .ok a (h ++ [.lst [a, b, c, d]]) := fun h a b c d => op_ix_at (k := 0) At.new rfl
    have i1 : ∀ (h : EH) (a b c d : D), opE oIx (.ref h.length) (.int 1) (h ++ [.lst [a, b, c, d]]) = .ok b (h ++ [.lst [a, b, c, d]]) := fun h a b c d => op_ix_at (k := 1) At.new rfl
    have i2 : ∀ (h : EH) (a b c d : D), opE oIx (.ref h.length) (.int 2) (h ++ [.lst [a, b, c, d]]) = .ok c (h ++ [.lst [a, b, c, d]]) := fun h a b c d => op_ix_at (k := 2) At.new rfl
    have i3 : ∀ (h : EH) (a b c d : D), opE oIx (.ref h.length) (.int 3) (h ++ [.lst [a, b, c, d]]) = .ok d (h ++ [.lst [a, b, c, d]]) := fun h a b c d => op_ix_at (k := 3) At.new rfl
    simp [e, t4__law_condition, i0, i1, i2, i3, op_mul_i, m0, m1, m2, m3, m4, m5, t5__law_condition]
    try simp at ef
    rw [ef]
    simp
    exact k (q, (r : Int) - 2) _ ⟨f.pl, (f.bn zp).mono (by decide), by show -2 ≤ (r : Int) - 2; omega, by show (r : Int) - 2 ≤ 2; omega⟩ d04.add
end Mv
namespace Mv
open PySem PySem.Spec PyProof.Rows L2 Sm
theorem ltrue_ok {s t : Nat} {c : P4 × Int} {v : V3} {h : EH} {Q : D → EH → Prop} {E : Ex → EH → Prop} (k : Cok s c) (z : Vz t v) (cs : s + 3 * t ≤ 100000) (q : ∀ h', Keep h h' → Q (.bl (tru c v)) h') : Wp (m__law_true [ht c, vt v] h) Q E := by
  have e := value_sign_eq (h := h) k.sz z cs
  have q' := q _ (Keep.add (h := h) (o := [.lst [.int (v.x.num * v.y.den * v.z.den), .int (v.y.num * v.x.den * v.z.den), .int (v.z.num * v.x.den * v.y.den), .int (v.x.den * v.y.den * v.z.den)]]))
  unfold tru at q'
  generalize su c.1 v = t at e q'
  have hd : ∀ c : P4 × Int, c.2 = c.2 := fun _ => rfl
  rcases need_cases k.lo k.hi with en | en | en | en | en <;> rw [en] at q' <;> simp [truI] at q' <;> simp [m__law_true, b__law_true, t1__law_true, t2__law_true, t3__law_true, t4__law_true, t5__law_true, t6__law_true, e, en] <;> exact q'
end Mv
namespace Mv
open PySem PySem.Spec PyProof.Rows L2 Sm
variable {n : Nat} {h : EH} {Q : D → EH → Prop} {E : Ex → EH → Prop}
-- imports c_condition c_ltrue
/-- what the loop of _law_listed keeps -/
def LiP (n m F : Nat) (h1 : EH) (mn kd : Int) (j : Nat) (e : Sl) (h : EH) : Prop := ∃ cs : List (P4 × Int), Dr n h1 h ∧ At h F (cs.map ht) ∧ cs.length = j ∧ (∀ c ∈ cs, Cok 133 c) ∧ ∃ o5 o6 o7 o8 o9, e = [some (.ref n), some (.ref m), some (.int mn), some (.int kd), some (.ref F), o5, o6, o7, o8, o9]
theorem listed_turn {n m F j : Nat} {h1 h : EH} {mn kd : Int} {vs : List V3} {v0 : V3} {o6 o7 o8 o9 : Option D} {cs : List (P4 × Int)} {E : Ex → Sl → EH → Prop} (hF : F = h1.length) (am : At h1 m ((v0 :: vs).map vt)) (hm : m ≠ n) (vl : vs.length ≤ 100) (zv : ∀ v ∈ v0 :: vs, Vz 5 v) (hj : j ≤ 900)
    (hn : n < h1.length) (d : Dr n h1 h) (a : At h F (cs.map ht)) (hl : cs.length = j) (ok : ∀ c ∈ cs, Cok 133 c) :
    Ws (l0__law_listed [some (.ref n), some (.ref m), some (.int mn), some (.int kd), some (.ref F), some (.int (j : Int)), o6, o7, o8, o9] h) (LiP n m F h1 mn kd (j + 1)) (fun _ _ => False) (fun _ _ => False) (fun _ _ => False) E := by
  have Fn : F ≠ n := by omega
  -- the last two statements, with the part at hand
  have tail : ∀ (c : P4 × Int) (h2 : EH) (o6 o7 o9 : Option D), Cok 133 c → Dr n h1 h2 → At h2 F (cs.map ht) →
      Ws (sSeq (sIf (bAnd (bOf (eBin oEq (eVar 3) (eC (.int 0)))) (bNot (bOf (eCall m__law_true (aCons (eVar 8) (aCons (eBin oIx (eVar 1) (eC (.int 0))) aNil)))))) (sSeq (sAsg (eCall m__law_value_sign (aCons (eBin oIx (eVar 8) (eC (.int 0))) (aCons (eBin oIx (eVar 1) (eC (.int 0))) aNil))) (gVar 9)) (sAsg (eTup (aCons (eBin oIx (eVar 8) (eC (.int 0))) (aCons (eBin oMul (eC (.int 2)) (eBin oSub (eCB fInt (aCons (eBin oGt (eVar 9) (eC (.int 0))) aNil)) (eCB fInt (aCons (eBin oLt (eVar 9) (eC (.int 0))) aNil)))) aNil))) (gVar 8))) sNil) (sExpr (eMt "list" fAppend (eVar 4) (aCons (eVar 8) aNil)))
        [some (.ref n), some (.ref m), some (.int mn), some (.int kd), some (.ref F), some (.int (j : Int)), o6, o7, some (ht c), o9] h2) (LiP n m F h1 mn kd (j + 1)) (fun _ _ => False) (fun _ _ => False) (fun _ _ => False) E := by
    intro c h2 o6 o7 o9 kc d2 a2
    have am2 : At h2 m ((v0 :: vs).map vt) := d2.at hm am
    have z0 := zv v0 (by simp)
    have app : ∀ (c : P4 × Int) (h3 : EH) (o9 : Option D), Cok 133 c → Dr n h1 h3 → At h3 F (cs.map ht) →
        Ws (sExpr (eMt "list" fAppend (eVar 4) (aCons (eVar 8) aNil)) [some (.ref n), some (.ref m), some (.int mn), some (.int kd), some (.ref F), some (.int (j : Int)), o6, o7, some (ht c), o9] h3) (LiP n m F h1 mn kd (j + 1)) (fun _ _ => False) (fun _ _ => False) (fun _ _ => False) E := by
      intro c h3 o9 kc d3 a3
      have tl : tyN h3 (.ref F) = some "list" := by simp [tyN, show h3[F]? = some (.lst (cs.map ht)) from a3]
      simp [tl, fAppend_r a3 (sz_lt (by simp; omega))]
      refine ⟨cs ++ [c], d3.set_new hn (by omega), ?_, by simp [hl], fun x hx => ?_, _, _, _, _, _, rfl⟩
      · have := a3.set_self (ys := (cs ++ [c]).map ht)
        simpa using this
      · rcases List.mem_append.mp hx with hx | hx
        · exact ok x hx
        · rw [List.mem_singleton.mp hx]; exact kc
    have i0 : opE oIx (.ref m) (.int 0) h2 = .ok (vt v0) h2 := op_ix_at (k := 0) am2 rfl
    by_cases k0 : kd = 0
    · subst k0
      simp [i0]
      refine ltrue_ok kc z0 (by decide) fun h3 kp => ?_
      by_cases tc : tru c v0 = true
      · simp [tc]
        have := app c h3 o9 kc (d2.keep kp) (kp _ _ a2)
        simp at this
        exact this
      · have am3 : At h3 m ((v0 :: vs).map vt) := kp _ _ am2
        have i3 : opE oIx (.ref m) (.int 0) h3 = .ok (vt v0) h3 := op_ix_at (k := 0) am3 rfl
        have es := value_sign_eq (h := h3) kc.sz z0 (by decide)
        have tf : tru c v0 = false := by simpa using tc
        have kc' : ∀ x : Int, x = -2 ∨ x = 0 ∨ x = 2 → Cok 133 (c.1, x) := fun x hx => ⟨kc.pl, kc.sz, by show -2 ≤ x; omega, by show x ≤ 2; omega⟩
        have ap2 := fun x hx => app (c.1, x) (h3 ++ [.lst [.int (v0.x.num * v0.y.den * v0.z.den), .int (v0.y.num * v0.x.den * v0.z.den), .int (v0.z.num * v0.x.den * v0.y.den), .int (v0.x.den * v0.y.den * v0.z.den)]]) (some (.int (su c.1 v0))) (kc' x hx) ((d2.keep kp).add) (At.add (kp _ _ a2))
        have mm : mulOk 2 1 = true ∧ mulOk 2 0 = true ∧ mulOk 2 (-1) = true := by decide +kernel
        rcases Int.lt_trichotomy (su c.1 v0) 0 with hs | hs | hs
        · have n0 : ¬ (0 < su c.1 v0) := by omega
          have := ap2 (-2) (.inl rfl)
          simp [ht] at this
          simp [tf, i3, es, fInt, n0, hs, op_mul_i, mm]
          exact this
        · have := ap2 0 (.inr (.inl rfl))
          simp [ht, hs] at this
          simp [tf, i3, es, fInt, hs, op_mul_i, mm]
          exact this
        · have n0 : ¬ (su c.1 v0 < 0) := by omega
          have := ap2 2 (.inr (.inr rfl))
          simp [ht] at this
          simp [tf, i3, es, fInt, n0, hs, op_mul_i, mm]
          exact this
    · have := app c h2 o9 kc d2 a2
      simp at this
      simp [k0]
      exact this
  have cond : ∀ (h2 : EH) (o6 o7 o8 o9 : Option D), Dr n h1 h2 → At h2 F (cs.map ht) → Wp (m__law_condition [.ref n, .ref m] h2) (fun d h3 => ∃ c, d = ht c ∧ Cok 133 c ∧ Dr n h1 h3 ∧ At h3 F (cs.map ht)) (fun x h => E x [] h) := fun h2 o6 o7 o8 o9 d2 a2 =>
    condition_ok (vs := v0 :: vs) d2.st (d2.at hm am) hm (by simp) (by simp; omega) zv fun c h3 kc d3 => ⟨c, rfl, kc, d2.trans d3, d3.at Fn a2⟩
  by_cases j0 : j = 0
  · subst j0
    simp [l0__law_listed]
    refine condition_ok (vs := v0 :: vs) d.st (d.at hm am) hm (by simp) (by simp; omega) zv fun c h3 kc d3 => ?_
    have := tail c h3 o6 o7 o9 kc (d.trans d3) (d3.at Fn a)
    simp at this
    simp
    exact this
  · have jp : 0 < j := by omega
    simp [l0__law_listed, jp]
    refine take_nat d.st (by decide) fun r h2 hr d2 => ?_
    have d02 := d.trans d2
    have a2 := d2.at Fn a
    by_cases r0 : r = 0
    · subst r0
      simp
      refine pick_ok d2.st a2 Fn (by simp; omega) (by simp; omega) fun dd h3 hd d3 => ?_
      obtain ⟨c, hc, rfl⟩ := List.mem_map.mp hd
      have kc := ok c hc
      have mm := fun x (hx : Bn 3 x) => Bn.ok (s := 2) (i := 2) (by unfold Bn; decide) hx (by decide)
      have b2 : Bn 3 c.2 := by
        have := kc.lo; have := kc.hi
        show c.2.natAbs < 2 ^ 3
        omega
      have m1 := mm _ b2
      have b4 : Bn 5 (2 * c.2) := Bn.mul (s := 2) (by unfold Bn; decide) b2
      simp [op_mul_i, m1]
      refine take_nat d3.st (by decide) fun q h4 hq d4 => ?_
      have q2 : q = 0 ∨ q = 1 := by omega
      have bq : Bn 1 (q : Int) := by show (q : Int).natAbs < 2 ^ 1; omega
      have m2 := Bn.ok b4 bq (by decide)
      simp [op_mul_i, m2]
      have kc' : Cok 133 (c.1, c.2 - 2 * c.2 * q) := by
        have := kc.lo; have := kc.hi
        refine ⟨kc.pl, kc.sz, ?_, ?_⟩ <;> rcases q2 with rfl | rfl <;> simp <;> omega
      have := tail (c.1, c.2 - 2 * c.2 * q) h4 (some (pt c.1)) (some (.int c.2)) o9 kc' ((d02.trans d3).trans d4) (d4.at Fn (d3.at Fn a2))
      simp [ht] at this
      try simp
      exact this
    · simp [r0]
      refine condition_ok (vs := v0 :: vs) d2.st (d02.at hm am) hm (by simp) (by simp; omega) zv fun c h3 kc d3 => ?_
      have := tail c h3 o6 o7 o9 kc (d02.trans d3) (d3.at Fn a2)
      simp at this
      simp
      exact this
theorem listed_ok {n m : Nat} {h : EH} {many : Nat} {vs : List V3} {v0 : V3} {Q : D → EH → Prop} {E : Ex → EH → Prop} (S : Store h n) (am : At h m ((v0 :: vs).map vt)) (hm : m ≠ n) (vl : vs.length ≤ 100) (zv : ∀ v ∈ v0 :: vs, Vz 5 v) (hj : many ≤ 900)
    (k : ∀ (F : Nat) (cs : List (P4 × Int)) (h' : EH), h.length ≤ F → Dr n h h' → At h' F (cs.map ht) → cs.length = many → (∀ c ∈ cs, Cok 133 c) → Q (.ref F) h') : Wp (m__law_listed [.ref n, .ref m, .int (many : Int)] h) Q E := by
  simp [m__law_listed, b__law_listed]
  refine take_nat S (by decide) fun kd h1 hk d1 => ?_
  simp [t1__law_listed, t2__law_listed, q0__law_listed]
  rw [asR1_n (by omega)]
  simp
  have d2 : Dr n h (h1 ++ [.lst []]) := d1.add
  refine ws_runR (fun j e h' => ∃ cs : List (P4 × Int), Dr n h1 h' ∧ At h' h1.length (cs.map ht) ∧ cs.length = j ∧ (∀ c ∈ cs, Cok 133 c) ∧ ∃ o5 o6 o7 o8 o9, e = [some (.ref n), some (.ref m), some (.int (many : Int)), some (.int (kd : Int)), some (.ref h1.length), o5, o6, o7, o8, o9]) ⟨[], (Dr.refl d1.st).add, At.new, rfl, by simp, _, _, _, _, _, rfl⟩ ?_ ?_
  · rintro j e h' hj' ⟨cs, d, a, hl, ok, o5, o6, o7, o8, o9, rfl⟩
    have es : (0 : Int) + j * 1 = (j : Int) := by omega
    rw [es]
    simp only [gVar_r, Wp_ok]
    exact ws_mono (listed_turn (E := fun _ _ _ => False) rfl (d1.at hm am) hm vl zv (by omega) d1.st.lt d a hl ok) (fun _ _ q => q) (fun _ _ q => False.elim q) (fun _ _ q => False.elim q) (fun _ _ q => False.elim q) (fun _ _ _ q => False.elim q)
  · rintro e h' ⟨cs, d, a, hl, ok, o5, o6, o7, o8, o9, rfl⟩
    simp [t3__law_listed]
    exact k _ cs h' d1.len (d1.trans d) a hl ok
end Mv
namespace Mv
open PySem PySem.Spec PyProof.Rows L2 Sm
theorem fulfils_eq {s t : Nat} {c : P4 × Int} {v : V3} {h : EH} (k : Cok s c) (z : Vz t v) (cs : s + 3 * t ≤ 100000) : m_fulfils [ht c, vt v] h = .ok (.bl (tru c v)) h := by
  have e := side_eq (h := h) k.sz z cs
  unfold tru
  generalize su c.1 v = t at e
  rcases need_cases k.lo k.hi with en | en | en | en | en <;> rcases Int.lt_trichotomy t 0 with ht | ht | ht <;>
    simp [m_fulfils, b_fulfils, t1_fulfils, t2_fulfils, t3_fulfils, t4_fulfils, e, en, truI, sgi, ht] <;> (try simp [show ¬ (0 < t) by omega, ht]) <;> (try simp [show ¬ (t < 0) by omega, ht]) <;> (try omega)
theorem holds_eq {s t m : Nat} {cs : List (P4 × Int)} {v : V3} {h : EH} (a : At h m (cs.map ht)) (k : ∀ c ∈ cs, Cok s c) (z : Vz t v) (hs : s + 3 * t ≤ 100000) : m_holds [.ref m, vt v] h = .ok (.bl (cs.all (tru · v))) h := by
  refine wp_eq ?_
  simp [m_holds, b_holds, q0_holds]
  refine ws_runH (xs := cs.map ht) (fun j e h' => h' = h ∧ (∃ d, e = [some (.ref m), some (vt v), d]) ∧ ∀ c ∈ cs.take j, tru c v = true) (fun j e h' p => by rw [p.1]; exact a) ⟨rfl, ⟨_, rfl⟩, by simp⟩ ?_ ?_
  · rintro j e h' hj ⟨rfl, ⟨d, rfl⟩, w⟩
    have hj' : j < cs.length := by simpa using hj
    have kj := k _ (List.getElem_mem hj')
    have e := fulfils_eq (h := h') kj z hs
    by_cases ct : tru cs[j] v = true
    · have w' : ∀ c ∈ cs.take (j + 1), tru c v = true := fun c hc => by
        rw [take_snoc hj'] at hc
        rcases List.mem_append.mp hc with hc | hc
        · exact w c hc
        · rw [List.mem_singleton.mp hc]; exact ct
      simp [l0_holds, e, ct]
      exact fun a b hc => w' (a, b) hc
    · simp [l0_holds, e, ct]
      exact ⟨cs[j].1, cs[j].2, List.getElem_mem hj', by simpa using ct⟩
  · rintro e h' ⟨rfl, ⟨d, rfl⟩, w⟩
    simp [t1_holds]
    rw [List.take_of_length_le (by simp)] at w
    simpa using w
end Mv
namespace Mv
open PySem PySem.Spec PyProof.Rows L2 Sm
/-- a plain value, at most n deep: its numbers below 2^B, its texts of P, its lists at most len long and not at a place of Z -/
def Wf (B len : Nat) (Z : Nat → Prop) (P : Str → Prop) : Nat → EH → D → Prop
  | 0, _, _ => False
  | n + 1, h, d => match d with
    | .non => True
    | .bl _ => True
    | .int i => i.natAbs < 2 ^ B
    | .str x => P x
    | .tup xs => xs.length ≤ len ∧ ∀ x ∈ xs, Wf B len Z P n h x
    | .ref m => ∃ xs, At h m xs ∧ ¬ Z m ∧ xs.length ≤ len ∧ ∀ x ∈ xs, Wf B len Z P n h x
    | _ => False
section
variable {B len : Nat} {Z Z' : Nat → Prop} {P P' : Str → Prop} {n : Nat} {h h' : EH} {d : D}
theorem Wf.mono {B' len' : Nat} (hB : B ≤ B') (hl : len ≤ len') (hP : ∀ x, P x → P' x) (hZ : ∀ m o, ¬ Z m → h[m]? = some o → h'[m]? = some o ∧ ¬ Z' m) : ∀ {n k : Nat} {d : D}, n ≤ k → Wf B len Z P n h d → Wf B' len' Z' P' k h' d
  | 0, _, _, _, w => w.elim
  | n + 1, 0, _, l, _ => by omega
  | n + 1, k + 1, d, l, w => by
    unfold Wf at w ⊢
    cases d with
    | non => trivial
    | bl b => trivial
    | int i => exact Nat.lt_of_lt_of_le w (Nat.pow_le_pow_right (by decide) hB)
    | str x => exact hP x w
    | tup xs => exact ⟨Nat.le_trans w.1 hl, fun x hx => Wf.mono hB hl hP hZ (by omega) (w.2 x hx)⟩
    | ref m =>
      obtain ⟨xs, a, hm, l1, w⟩ := w
      exact ⟨xs, (hZ _ _ hm a).1, (hZ _ _ hm a).2, Nat.le_trans l1 hl, fun x hx => Wf.mono hB hl hP hZ (by omega) (w x hx)⟩
    | rol _ => exact w.elim
    | dic _ => exact w.elim
    | ty _ => exact w.elim
    | exn _ _ => exact w.elim
    | cls _ => exact w.elim
theorem Wf.keep (w : Wf B len Z P n h d) (k : Keep h h') : Wf B len Z P n h' d := Wf.mono (Nat.le_refl _) (Nat.le_refl _) (fun _ p => p) (fun m o z a => ⟨k m o a, z⟩) (Nat.le_refl _) w
theorem Wf.dr {s : Nat} (w : Wf B len Z P n h d) (hs : Z s) (k : Dr s h h') : Wf B len Z P n h' d := Wf.mono (Nat.le_refl _) (Nat.le_refl _) (fun _ p => p) (fun m o z a => ⟨k.old m o (fun e => z (e ▸ hs)) a, z⟩) (Nat.le_refl _) w
theorem Wf.up {k : Nat} (w : Wf B len Z P n h d) (c : n ≤ k) : Wf B len Z P k h d := Wf.mono (Nat.le_refl _) (Nat.le_refl _) (fun _ p => p) (fun _ _ z q => ⟨q, z⟩) c w
end
variable {B len : Nat} {Z Z' : Nat → Prop} {P : Str → Prop}
/-! ### a copy -/
theorem copy_ok (hl : len ≤ 1000) : ∀ (k f : Nat) {h : EH} {d : D} {Q : D → EH → Prop} {E : Ex → EH → Prop}, k ≤ f → (∀ m, Z m → m < h.length) → Wf B len Z P k h d → (∀ d' h', Keep h h' → Wf B len Z P k h' d' → Q d' h') → Wp (r__law_copy f [d] h) Q E
  | 0, _, _, _, _, _, _, _, w, _ => w.elim
  | k + 1, 0, _, _, _, _, l, _, _, _ => by omega
  | k + 1, f + 1, h, d, Q, E, hf, hz, w, q => by
    have ih := fun {h d Q E} => @copy_ok hl k f h d Q E (by omega)
    unfold Wf at w
    have q0 : ∀ {d'}, Wf B len Z P (k + 1) h d' → Q d' h := fun w' => q _ _ Keep.refl w'
    cases d with
    | non => simp [r__law_copy, b__law_copy, t1__law_copy, t2__law_copy, t3__law_copy]; exact q0 (by unfold Wf; trivial)
    | bl b => simp [r__law_copy, b__law_copy, t1__law_copy, t2__law_copy, t3__law_copy]; exact q0 (by unfold Wf; trivial)
    | int b => simp [r__law_copy, b__law_copy, t1__law_copy, t2__law_copy, t3__law_copy]; exact q0 (by unfold Wf; exact w)
    | str b => simp [r__law_copy, b__law_copy, t1__law_copy, t2__law_copy, t3__law_copy]; exact q0 (by unfold Wf; exact w)
    | tup xs =>
      simp [r__law_copy, b__law_copy, t1__law_copy]
      refine wp_runCL (fun j a h' => Keep h h' ∧ a.length = j ∧ ∀ x ∈ a, Wf B len Z P k h' x) ⟨Keep.refl, rfl, by simp⟩ ?_ ?_
      · rintro j a h1 hj ⟨kp, ha, wa⟩
        simp [wipeD]
        refine ih (fun m z => by have := hz m z; have := kp.len; omega) ((w.2 _ (List.getElem_mem hj)).keep kp) fun d' h2 kp2 wd => ⟨sz_lt (by omega), kp.trans kp2, by simp [ha], fun x hx => ?_⟩
        rcases List.mem_append.mp hx with hx | hx
        · exact (wa x hx).keep kp2
        · rw [List.mem_singleton.mp hx]; exact wd
      · rintro a h1 ⟨kp, ha, wa⟩
        exact q _ _ kp (by unfold Wf; exact ⟨by omega, wa⟩)
    | ref m =>
      obtain ⟨xs, a, hm, l1, w⟩ := w
      simp [r__law_copy, b__law_copy, ia_list a]
      refine wp_runCH (fun j a h' => Keep h h' ∧ a.length = j ∧ ∀ x ∈ a, Wf B len Z P k h' x) (fun j b h1 p => p.1 _ _ a) ⟨Keep.refl, rfl, by simp⟩ ?_ ?_
      · rintro j a h1 hj ⟨kp, ha, wa⟩
        simp [wipeD]
        refine ih (fun m z => by have := hz m z; have := kp.len; omega) ((w _ (List.getElem_mem hj)).keep kp) fun d' h2 kp2 wd => ⟨sz_lt (by omega), kp.trans kp2, by simp [ha], fun x hx => ?_⟩
        rcases List.mem_append.mp hx with hx | hx
        · exact (wa x hx).keep kp2
        · rw [List.mem_singleton.mp hx]; exact wd
      · rintro a h1 ⟨kp, ha, wa⟩
        exact q _ _ (kp.trans Keep.add) (by unfold Wf; exact ⟨a, At.new, fun q => by have := hz _ q; have := kp.len; omega, by omega, fun x hx => (wa x hx).keep Keep.add⟩)
    | rol _ => exact w.elim
    | dic _ => exact w.elim
    | ty _ => exact w.elim
    | exn _ _ => exact w.elim
    | cls _ => exact w.elim
/-! ### how many places there are -/
def spN : Nat → EH → D → Nat
  | 0, _, _ => 0
  | n + 1, h, d => match d with
    | .tup xs => 1 + (xs.map (spN n h)).sum
    | .ref m => match h[m]? with
      | some (.lst xs) => 1 + (xs.map (spN n h)).sum
      | _ => 1
    | _ => 1
theorem sum_snoc {xs : List D} {f : D → Nat} {j : Nat} (hj : j < xs.length) : ((xs.take (j + 1)).map f).sum = ((xs.take j).map f).sum + f xs[j] := by
  rw [take_snoc hj, List.map_append, List.sum_append]; simp only [List.map_cons, List.map_nil, List.sum_cons, List.sum_nil]; omega
theorem spots_ok : ∀ (k f : Nat) {h : EH} {d : D}, k ≤ f → Wf B len Z P k h d → r__law_spots f [d] h = .ok (.int (spN k h d : Nat)) h
  | 0, _, _, _, _, w => w.elim
  | k + 1, 0, _, _, l, _ => by omega
  | k + 1, f + 1, h, d, hf, w => by
    have ih := fun {h d} => @spots_ok k f h d (by omega)
    unfold Wf at w
    cases d with
    | non => simp [r__law_spots, b__law_spots, t1__law_spots, t2__law_spots, spN]
    | bl b => simp [r__law_spots, b__law_spots, t1__law_spots, t2__law_spots, spN]
    | int b => simp [r__law_spots, b__law_spots, t1__law_spots, t2__law_spots, spN]
    | str b => simp [r__law_spots, b__law_spots, t1__law_spots, t2__law_spots, spN]
    | tup xs =>
      refine wp_eq ?_
      simp [r__law_spots, b__law_spots, t1__law_spots, q0__law_spots]
      refine ws_runL (fun j e h' => h' = h ∧ ∃ d, e = [some (D.tup xs), some (.int ((1 + ((xs.take j).map (spN k h)).sum : Nat) : Int)), d]) ⟨rfl, none, by simp⟩ ?_ ?_
      · rintro j e h' hj ⟨rfl, d, rfl⟩
        have e := sum_snoc (f := spN k h') hj
        simp only [List.map_take] at e
        simp [l0__law_spots, ih (w.2 _ (List.getElem_mem hj))]
        omega
      · rintro e h' ⟨rfl, d, rfl⟩
        simp [t2__law_spots, spN]
    | ref m =>
      obtain ⟨xs, a, hm, l1, w⟩ := w
      refine wp_eq ?_
      simp [r__law_spots, b__law_spots, t1__law_spots, q0__law_spots, it_r a]
      refine ws_runH (fun j e h' => h' = h ∧ ∃ d, e = [some (D.ref m), some (.int ((1 + ((xs.take j).map (spN k h)).sum : Nat) : Int)), d]) (by rintro j e h' ⟨rfl, _⟩; exact a) ⟨rfl, none, by simp⟩ ?_ ?_
      · rintro j e h' hj ⟨rfl, d, rfl⟩
        have e := sum_snoc (f := spN k h') hj
        simp only [List.map_take] at e
        simp [l0__law_spots, ih (w _ (List.getElem_mem hj))]
        omega
      · rintro e h' ⟨rfl, d, rfl⟩
        simp [t2__law_spots, spN, show h'[m]? = some (.lst xs) from a]
    | rol _ => exact w.elim
    | dic _ => exact w.elim
    | ty _ => exact w.elim
    | exn _ _ => exact w.elim
    | cls _ => exact w.elim
/-! ### one place is changed -/
structure Tx (B : Nat) (P P' : Str → Prop) : Prop where
  short : ∀ x, P x → x.length ≤ 1000
  old : ∀ x, P x → P' x
  e : P' ""
  sp : ∀ x, P x → P' (x ++ " ")
  up : ∀ x, P x → P' (Txt.upper x)
  dbl : ∀ x, P x → P' (x ++ x)
  num : ∀ i : Int, i.natAbs < 2 ^ B → P' (toString i)
  none : P' "None"
  in_ : P' "in"
variable {P' : Str → Prop} {E : Ex → EH → Prop}
theorem pow_gt {B : Nat} {c : Nat} (h2 : 2 ≤ B) (hc : c < 4) : c < 2 ^ B := Nat.lt_of_lt_of_le hc (Nat.pow_le_pow_right (n := 2) (by decide) h2)
theorem wp_pickA {h : EH} {os : List EO} {i k : Nat} {xs : List D} {Q : D → EH → Prop} (a : os[i]? = some (.lst xs)) (hk : k < xs.length) (q : ∀ d ∈ xs, Q d (h ++ os)) : Wp (opE oIx (.ref (h.length + i)) (.int k) (h ++ os)) Q E :=
  wp_pick (xs := xs) (by show (h ++ os)[h.length + i]? = _; rw [List.getElem?_append_right (by omega), Nat.add_sub_cancel_left]; exact a) hk q
theorem wp_pickB {h : EH} {os : List EO} {k : Nat} {xs : List D} {Q : D → EH → Prop} (a : os[0]? = some (.lst xs)) (hk : k < xs.length) (q : ∀ d ∈ xs, Q d (h ++ os)) : Wp (opE oIx (.ref h.length) (.int k) (h ++ os)) Q E := wp_pickA (i := 0) a hk q
theorem at_new {h : EH} {os : List EO} {i : Nat} {xs : List D} (a : os[i]? = some (.lst xs)) : At (h ++ os) (h.length + i) xs := by
  show (h ++ os)[h.length + i]? = _
  rw [List.getElem?_append_right (by omega), Nat.add_sub_cancel_left]; exact a
theorem bend_one_non {k kd : Nat} {h : EH} {Q : D → EH → Prop} (tx : Tx B P P') (hB : 2 ≤ B) (hl : 2 ≤ len) (hz : (∀ m, Z m → m < h.length)) (hk : kd < 10) {d : D} (hd : d = .non ∨ ∃ b, d = .bl b)
    (q : ∀ d' h', Keep h h' → Wf B (len + 1) Z P' (k + 2) h' d' → Q d' h') : Wp (m__law_bend_one [d, .int (kd : Int)] h) Q E := by
  have h3 := pow_gt (c := 3) hB (by decide)
  have h2 := pow_gt (c := 2) hB (by decide)
  have h1 := pow_gt (c := 1) hB (by decide)
  have hz0 : ¬ Z (h.length) := fun q => by have := hz _ q; omega
  have hz1 : ¬ Z (h.length + 1) := fun q => by have := hz _ q; omega
  rcases hd with rfl | ⟨b, rfl⟩ <;>
  · simp [m__law_bend_one, b__law_bend_one]
    refine wp_pickA (i := 2) rfl hk fun d' hd' => ?_
    refine q _ _ Keep.add ?_
    simp only [List.mem_cons, List.not_mem_nil, or_false] at hd'
    rcases hd' with rfl | rfl | rfl | rfl | rfl | rfl | rfl | rfl | rfl | rfl <;> simp [Wf, At, tx.none, tx.e, h1, h2, hz0, hz1] <;> omega
theorem bend_one_int {k kd : Nat} {h : EH} {Q : D → EH → Prop} (tx : Tx B P P') (hB : 2 ≤ B) (hB2 : B ≤ 1900) (hl : 2 ≤ len) (hz : (∀ m, Z m → m < h.length)) (hk : kd < 10) {i : Int} (hi : i.natAbs < 2 ^ B)
    (q : ∀ d' h', Keep h h' → Wf B (len + 1) Z P' (k + 2) h' d' → Q d' h') : Wp (m__law_bend_one [.int i, .int (kd : Int)] h) Q E := by
  have h3 := pow_gt (c := 3) hB (by decide)
  have h2 := pow_gt (c := 2) hB (by decide)
  have h1 := pow_gt (c := 1) hB (by decide)
  have h0 := pow_gt (c := 0) hB (by decide)
  have hz0 : ¬ Z (h.length) := fun q => by have := hz _ q; omega
  have hz1 : ¬ Z (h.length + 1) := fun q => by have := hz _ q; omega
  have nm := tx.num _ hi
  simp only [Int.toString_eq_repr] at nm
  have hd : ∀ h, opE oDiv (.int (i.natAbs : Nat)) (.int 2) h = .ok (.int ((i.natAbs / 2 : Nat) : Int)) h := fun h => by
    rw [op_div_p (by decide) (by decide +kernel)]; rfl
  have e2 : i.natAbs / 2 < 2 ^ B := by omega
  simp [m__law_bend_one, b__law_bend_one, t1__law_bend_one, fStrI_r hi hB2, hd]
  refine wp_pickA (i := 1) rfl hk fun d' hd' => ?_
  refine q _ _ Keep.add ?_
  simp only [List.mem_cons, List.not_mem_nil, or_false] at hd'
  rcases hd' with rfl | rfl | rfl | rfl | rfl | rfl | rfl | rfl | rfl | rfl <;> simp [Wf, At, nm, h0, h1, h2, hz0, hz1, hi, e2] <;> omega
theorem bend_one_str {k kd : Nat} {h : EH} {Q : D → EH → Prop} (tx : Tx B P P') (hB : 2 ≤ B) (hl : 2 ≤ len) (hz : (∀ m, Z m → m < h.length)) (hk : kd < 10) {x : Str} (hx : P x)
    (q : ∀ d' h', Keep h h' → Wf B (len + 1) Z P' (k + 2) h' d' → Q d' h') : Wp (m__law_bend_one [.str x, .int (kd : Int)] h) Q E := by
  have h3 := pow_gt (c := 3) hB (by decide)
  have h2 := pow_gt (c := 2) hB (by decide)
  have h1 := pow_gt (c := 1) hB (by decide)
  have hz0 : ¬ Z (h.length) := fun q => by have := hz _ q; omega
  have hz1 : ¬ Z (h.length + 1) := fun q => by have := hz _ q; omega
  have l := tx.short x hx
  have l2 : (" " : Str).length = 1 := rfl
  simp [m__law_bend_one, b__law_bend_one, t1__law_bend_one, t2__law_bend_one, op_add_s (x := x) (y := " ") (by omega), op_add_s (x := x) (y := x) (by omega), tyN, fUpper_r l]
  refine wp_pickA (i := 1) rfl hk fun d' hd' => ?_
  refine q _ _ Keep.add ?_
  simp only [List.mem_cons, List.not_mem_nil, or_false] at hd'
  rcases hd' with rfl | rfl | rfl | rfl | rfl | rfl | rfl | rfl | rfl | rfl <;> simp [Wf, At, tx.old _ hx, tx.sp _ hx, tx.up _ hx, tx.dbl _ hx, tx.e, tx.in_, h1, h2, hz0, hz1] <;> omega
theorem cut_sub {xs : List D} {lo hi : Option Int} : (cutD xs lo hi).length ≤ xs.length ∧ ∀ x ∈ cutD xs lo hi, x ∈ xs := by
  unfold Sm.cutD
  refine ⟨?_, fun x hx => List.mem_of_mem_drop (List.mem_of_mem_take hx)⟩
  rw [List.length_take, List.length_drop]; omega
theorem cut_one {xs : List D} : (cutD xs none (some 1)).length ≤ 1 := by
  rw [show (1 : Int) = ((1 : Nat) : Int) from rfl, cutD_hi, List.length_take]; omega
theorem bend_one_tup {k kd : Nat} {h : EH} {Q : D → EH → Prop} (tx : Tx B P P') (hB : 2 ≤ B) (hl : 2 ≤ len) (hl2 : len ≤ 500) (hz : (∀ m, Z m → m < h.length)) (hk : kd < 10) {xs : List D} (hn : xs.length ≤ len) (w : ∀ x ∈ xs, Wf B len Z P k h x)
    (q : ∀ d' h', Keep h h' → Wf B (len + 1) Z P' (k + 2) h' d' → Q d' h') : Wp (m__law_bend_one [.tup xs, .int (kd : Int)] h) Q E := by
  have h0 := pow_gt (c := 0) hB (by decide)
  have hz0 : ¬ Z (h.length) := fun q => by have := hz _ q; omega
  have up : ∀ {h' : EH}, Keep h h' → ∀ x ∈ xs, Wf B (len + 1) Z P' (k + 1) h' x := fun kp x hx => Wf.mono (Nat.le_refl _) (by omega) tx.old (fun m o z a => ⟨kp m o a, z⟩) (by omega) (w x hx)
  have up0 : ∀ {h' : EH}, Keep h h' → ∀ x ∈ xs, Wf B (len + 1) Z P' k h' x := fun kp x hx => Wf.mono (Nat.le_refl _) (by omega) tx.old (fun m o z a => ⟨kp m o a, z⟩) (by omega) (w x hx)
  have c1 := cut_one (xs := xs)
  have cu : ∀ {lo hi : Option Int}, (cutD xs lo hi).length ≤ len + 1 := fun {lo hi} => by have := (cut_sub (xs := xs) (lo := lo) (hi := hi)).1; omega
  by_cases c : kd < 5
  · have ci : (kd : Int) < 5 := by omega
    simp [m__law_bend_one, b__law_bend_one, t1__law_bend_one, t2__law_bend_one, t3__law_bend_one, ci, asL, itemsD, op_add_t (xs := xs) (ys := [.int 0]) (by simp; omega)]
    refine wp_pickA (i := 1) rfl c fun d' hd' => ?_
    refine q _ _ Keep.add ?_
    simp only [List.mem_cons, List.not_mem_nil, or_false] at hd'
    rcases hd' with rfl | rfl | rfl | rfl | rfl
    · simp [Wf]
    · exact ⟨xs, by simp [At], hz0, by omega, up Keep.add⟩
    · exact ⟨cu, fun x hx => up Keep.add x (cut_sub.2 x hx)⟩
    · refine ⟨by simp; omega, fun x hx => ?_⟩
      rcases List.mem_append.mp hx with hx | hx
      · exact up Keep.add x hx
      · rw [List.mem_singleton.mp hx]; exact h0
    · exact ⟨cu, fun x hx => up Keep.add x (cut_sub.2 x hx)⟩
  · have ci : ¬ (kd : Int) < 5 := by omega
    obtain ⟨k5, rfl⟩ : ∃ k5, kd = k5 + 5 := ⟨kd - 5, by omega⟩
    have e5 : ¬ ((k5 : Int) + 5 < 5) := by omega
    simp [m__law_bend_one, b__law_bend_one, t1__law_bend_one, t2__law_bend_one, t3__law_bend_one, ci, e5, op_add_t (xs := xs) (ys := cutD xs none (some 1)) (by omega)]
    refine wp_pickB rfl (by simp; omega) fun d' hd' => ?_
    refine q _ _ Keep.add ?_
    simp only [List.mem_cons, List.not_mem_nil, or_false] at hd'
    rcases hd' with rfl | rfl | rfl | rfl | rfl
    · exact ⟨by simp, fun x hx => by
        rw [List.mem_singleton.mp hx]
        exact ⟨by omega, up0 Keep.add⟩⟩
    · refine ⟨by simp; omega, fun x hx => ?_⟩
      rcases List.mem_append.mp hx with hx | hx
      · exact up Keep.add x hx
      · exact up Keep.add x (cut_sub.2 x hx)
    · exact ⟨by simp; omega, fun x hx => up Keep.add x (by simpa using hx)⟩
    · exact ⟨by simp, fun x hx => by simp at hx⟩
    · exact h0
theorem bend_one_lst {k kd : Nat} {h : EH} {Q : D → EH → Prop} (tx : Tx B P P') (hB : 2 ≤ B) (hl : 2 ≤ len) (hl2 : len ≤ 500) (hz : (∀ m, Z m → m < h.length)) (hk : kd < 10) {xs : List D} {m : Nat} (a : At h m xs) (hm : ¬ Z m) (hn : xs.length ≤ len) (w : ∀ x ∈ xs, Wf B len Z P k h x)
    (q : ∀ d' h', Keep h h' → Wf B (len + 1) Z P' (k + 2) h' d' → Q d' h') : Wp (m__law_bend_one [.ref m, .int (kd : Int)] h) Q E := by
  have h0 := pow_gt (c := 0) hB (by decide)
  have hz0 : ¬ Z (h.length) := fun q => by have := hz _ q; omega
  have hz1 : ¬ Z (h.length + 1) := fun q => by have := hz _ q; omega
  have hz2 : ¬ Z (h.length + 2) := fun q => by have := hz _ q; omega
  have hz3 : ¬ Z (h.length + 3) := fun q => by have := hz _ q; omega
  have hz4 : ¬ Z (h.length + 4) := fun q => by have := hz _ q; omega
  have up : ∀ {h' : EH}, Keep h h' → ∀ x ∈ xs, Wf B (len + 1) Z P' (k + 1) h' x := fun kp x hx => Wf.mono (Nat.le_refl _) (by omega) tx.old (fun m o z a => ⟨kp m o a, z⟩) (by omega) (w x hx)
  have up0 : ∀ {h' : EH}, Keep h h' → ∀ x ∈ xs, Wf B (len + 1) Z P' k h' x := fun kp x hx => Wf.mono (Nat.le_refl _) (by omega) tx.old (fun m o z a => ⟨kp m o a, z⟩) (by omega) (w x hx)
  have c1 := cut_one (xs := xs)
  have cu : ∀ {lo hi : Option Int}, (cutD xs lo hi).length ≤ len + 1 := fun {lo hi} => by have := (cut_sub (xs := xs) (lo := lo) (hi := hi)).1; omega
  have aa : ∀ o : List EO, At (h ++ o) m xs := fun o => a.add
  have hx1 : ∀ {h : EH} {n : Nat}, At h m xs → At h n [.int 0] → opE oAdd (.ref m) (.ref n) h = .ok (.ref h.length) (h ++ [.lst (xs ++ [.int 0])]) := fun a b => op_add_l a b (sz_ok (by simp; omega))
  have hx2 : ∀ {h : EH} {n : Nat}, At h m xs → At h n (cutD xs none (some 1)) → opE oAdd (.ref m) (.ref n) h = .ok (.ref h.length) (h ++ [.lst (xs ++ cutD xs none (some 1))]) := fun a b => op_add_l a b (sz_ok (by omega))
  by_cases c : kd < 5
  · have ci : (kd : Int) < 5 := by omega
    simp [m__law_bend_one, b__law_bend_one, t1__law_bend_one, t2__law_bend_one, t3__law_bend_one, t4__law_bend_one, ci, ia_list a, fTuple_r a, At, slE_r a, slE_r (aa _), hx1 (aa _)]
    refine wp_pickA (i := 4) rfl c fun d' hd' => ?_
    refine q _ _ Keep.add ?_
    simp only [List.mem_cons, List.not_mem_nil, or_false] at hd'
    rcases hd' with rfl | rfl | rfl | rfl | rfl
    · simp [Wf]
    · exact ⟨by omega, up Keep.add⟩
    · exact ⟨_, at_new (i := 0) rfl, hz0, cu, fun x hx => up Keep.add x (cut_sub.2 x hx)⟩
    · refine ⟨_, at_new (i := 2) rfl, hz2, by simp; omega, fun x hx => ?_⟩
      rcases List.mem_append.mp hx with hx | hx
      · exact up Keep.add x hx
      · rw [List.mem_singleton.mp hx]; exact h0
    · exact ⟨_, at_new (i := 3) rfl, hz3, cu, fun x hx => up Keep.add x (cut_sub.2 x hx)⟩
  · have ci : ¬ (kd : Int) < 5 := by omega
    obtain ⟨k5, rfl⟩ : ∃ k5, kd = k5 + 5 := ⟨kd - 5, by omega⟩
    have e5 : ¬ ((k5 : Int) + 5 < 5) := by omega
    simp [m__law_bend_one, b__law_bend_one, t1__law_bend_one, t2__law_bend_one, t3__law_bend_one, t4__law_bend_one, ci, e5, ia_list a, At, slE_r (aa _), hx2 (aa _), asRev2_r (aa _)]
    refine wp_pickA (i := 5) rfl (by simp; omega) fun d' hd' => ?_
    refine q _ _ Keep.add ?_
    simp only [List.mem_cons, List.not_mem_nil, or_false] at hd'
    rcases hd' with rfl | rfl | rfl | rfl | rfl
    · exact ⟨_, at_new (i := 0) rfl, hz0, by simp, fun x hx => by
        rw [List.mem_singleton.mp hx]
        exact ⟨xs, aa _, hm, by omega, up0 Keep.add⟩⟩
    · refine ⟨_, at_new (i := 2) rfl, hz2, by simp; omega, fun x hx => ?_⟩
      rcases List.mem_append.mp hx with hx | hx
      · exact up Keep.add x hx
      · exact up Keep.add x (cut_sub.2 x hx)
    · exact ⟨_, at_new (i := 3) rfl, hz3, by simp; omega, fun x hx => up Keep.add x (by simpa using hx)⟩
    · exact ⟨_, at_new (i := 4) rfl, hz4, by simp, fun x hx => by simp at hx⟩
    · exact tx.e
theorem bend_one_ok {k kd : Nat} {h : EH} {d : D} {Q : D → EH → Prop} (tx : Tx B P P') (hB : 2 ≤ B) (hB2 : B ≤ 1900) (hl : 2 ≤ len) (hl2 : len ≤ 500) (hz : (∀ m, Z m → m < h.length)) (hk : kd < 10) (w : Wf B len Z P (k + 1) h d)
    (q : ∀ d' h', Keep h h' → Wf B (len + 1) Z P' (k + 2) h' d' → Q d' h') : Wp (m__law_bend_one [d, .int (kd : Int)] h) Q E := by
  unfold Wf at w
  cases d with
  | non => exact bend_one_non tx hB hl hz hk (.inl rfl) q
  | bl b => exact bend_one_non tx hB hl hz hk (.inr ⟨b, rfl⟩) q
  | int i => exact bend_one_int tx hB hB2 hl hz hk w q
  | str x => exact bend_one_str tx hB hl hz hk w q
  | tup xs => exact bend_one_tup tx hB hl hl2 hz hk w.1 w.2 q
  | ref m =>
    obtain ⟨xs, a, hm, l, w⟩ := w
    exact bend_one_lst tx hB hl hl2 hz hk a hm l w q
  | rol _ => exact w.elim
  | dic _ => exact w.elim
  | ty _ => exact w.elim
  | exn _ _ => exact w.elim
  | cls _ => exact w.elim
/-! ### a bent value -/
theorem Wf.off {k : Nat} {h : EH} {d : D} (w : Wf B len Z P k h d) : Wf B len (fun m => Z m ∨ m = h.length) P k h d :=
  Wf.mono (Nat.le_refl _) (Nat.le_refl _) (fun _ p => p) (fun m o z a => ⟨a, fun q => q.elim z fun e => by have := (List.getElem?_eq_some_iff.mp a).1; omega⟩) (Nat.le_refl _) w
theorem Wf.on {k : Nat} {h : EH} {d : D} (w : Wf B len Z P k h d) (s : ∀ m, Z' m → Z m) : Wf B len Z' P k h d :=
  Wf.mono (Nat.le_refl _) (Nat.le_refl _) (fun _ p => p) (fun m o z a => ⟨a, fun q => z (s m q)⟩) (Nat.le_refl _) w
theorem Wf.put {k m0 : Nat} {h : EH} {d : D} {o : EO} (w : Wf B len (fun m => Z m ∨ m = m0) P k h d) : Wf B len (fun m => Z m ∨ m = m0) P k (h.set m0 o) d :=
  Wf.mono (Nat.le_refl _) (Nat.le_refl _) (fun _ p => p) (fun m o z a => ⟨by rw [List.getElem?_set_ne (fun e => z (.inr e.symm))]; exact a, z⟩) (Nat.le_refl _) w
theorem bend_ok (tx : Tx B P P') (hB : 2 ≤ B) (hB2 : B ≤ 1900) (hl : 2 ≤ len) (hl2 : len ≤ 500) {kd : Nat} (hk : kd < 10) : ∀ (k f : Nat) {Z : Nat → Prop} {h : EH} {d : D} {at_ : Int} {Q : D → EH → Prop} {E : Ex → EH → Prop}, k ≤ f → k ≤ 6 → (∀ m, Z m → m < h.length) → Wf B len Z P k h d →
    (∀ d' h', Keep h h' → Wf B (len + 1) Z P' (k + 1) h' d' → Q d' h') → Wp (r__law_bend f [d, .int at_, .int (kd : Int)] h) Q E
  | 0, _, _, _, _, _, _, _, _, _, _, w, _ => w.elim
  | k + 1, 0, _, _, _, _, _, _, l, _, _, _, _ => by omega
  | k + 1, f + 1, Z, h, d, at_, Q, E, hf, hk6, hz, w, q => by
    have ih := fun {Z h d at_ Q E} => @bend_ok tx hB hB2 hl hl2 kd hk k f Z h d at_ Q E (by omega) (by omega)
    have hcp : ∀ {Z : Nat → Prop} {j h d} {Q : D → EH → Prop} {E : Ex → EH → Prop}, j ≤ 6 → (∀ m, Z m → m < h.length) → Wf B len Z P j h d → (∀ d' h', Keep h h' → Wf B len Z P j h' d' → Q d' h') → Wp (m__law_copy [d] h) Q E := fun hj => copy_ok (by omega) _ 6 hj
    have hsp : ∀ {Z : Nat → Prop} {j h d}, j ≤ 6 → Wf B len Z P j h d → m__law_spots [d] h = .ok (.int (spN j h d : Nat)) h := fun hj => spots_ok _ 6 hj
    by_cases h0 : at_ = 0
    · subst h0
      simp [r__law_bend, b__law_bend]
      refine hcp hk6 hz w fun d' h' kp w' => ?_
      exact bend_one_ok tx hB hB2 hl hl2 (fun m z => by have := hz m z; have := kp.len; omega) hk w' fun d2 h2 kp2 w2 => q _ _ (kp.trans kp2) w2
    · have same : ∀ {h'}, Keep h h' → Wf B (len + 1) Z P' (k + 2) h' d := fun kp => Wf.mono (Nat.le_refl _) (by omega) tx.old (fun m o z a => ⟨kp m o a, z⟩) (by omega) w
      unfold Wf at w
      -- one turn of the loop: a part is put behind the list
      have turn : ∀ (x : D) (h' : EH) (m0 : Nat) (ys : List D) (lf : Int) (v : D) (o5 : Option D) (o6 : Option D), Keep h h' → h.length = m0 → At h' m0 ys → ys.length < 1000 → (∀ y ∈ ys, Wf B (len + 1) (fun m => Z m ∨ m = m0) P' (k + 1) h' y) → Wf B len (fun m => Z m ∨ m = m0) P k h' x →
          Ws (l0__law_bend (r__law_bend f) [some v, some (.int at_), some (.int (kd : Int)), some (.ref m0), some (.int lf), some x, o6] h') (fun e1 h1 => Keep h h1 ∧ ∃ zs lf' o5' o6', At h1 m0 zs ∧ zs.length = ys.length + 1 ∧ (∀ y ∈ zs, Wf B (len + 1) (fun m => Z m ∨ m = m0) P' (k + 1) h1 y) ∧ e1 = [some v, some (.int at_), some (.int (kd : Int)), some (.ref m0), some (.int lf'), o5', o6']) (fun _ _ => False) (fun _ _ => False) (fun _ _ => False) (fun _ _ _ => False) := by
        intro x h' m0 ys lf v o5 o6 kp hm0 a hj2 wy wx
        have hz' : ∀ m, (Z m ∨ m = m0) → m < h'.length := fun m q => by
          have := kp.len; have := a.lt
          rcases q with q | q
          · have := hz m q; omega
          · omega
        have put : ∀ {x' : D} {h2 : EH}, Keep h' h2 → Wf B (len + 1) (fun m => Z m ∨ m = m0) P' (k + 1) h2 x' → ∀ lf' o5' o6', (Keep h (h2.set m0 (.lst (ys ++ [x']))) ∧ ∃ zs lf'' o5'' o6'', At (h2.set m0 (.lst (ys ++ [x']))) m0 zs ∧ zs.length = ys.length + 1 ∧ (∀ y ∈ zs, Wf B (len + 1) (fun m => Z m ∨ m = m0) P' (k + 1) (h2.set m0 (.lst (ys ++ [x']))) y) ∧ [some v, some (.int at_), some (.int (kd : Int)), some (.ref m0), some (.int lf'), o5', o6'] = [some v, some (.int at_), some (.int (kd : Int)), some (.ref m0), some (.int lf''), o5'', o6'']) := by
          intro x' h2 kp2 wx' lf' o5' o6'
          have a2 : At h2 m0 ys := kp2 _ _ a
          refine ⟨(kp.trans kp2).set (by omega), _, lf', o5', o6', a2.set_self, by simp, fun y hy => ?_, rfl⟩
          rcases List.mem_append.mp hy with hy | hy
          · exact ((wy y hy).keep kp2).put
          · rw [List.mem_singleton.mp hy]; exact wx'.put
        have tl : tyN h' (.ref m0) = some "list" := by simp [tyN, show h'[m0]? = some (.lst ys) from a]
        simp [l0__law_bend, hsp (by omega) wx, tl]
        have keepx : Wp (m__law_copy [x] h') (fun a h2 => Wp (opA (fAppend (.ref m0) [a] h2)) (fun _ h3 => ∀ lf' o5' o6', (Keep h h3 ∧ ∃ zs lf'' o5'' o6'', At h3 m0 zs ∧ zs.length = ys.length + 1 ∧ (∀ y ∈ zs, Wf B (len + 1) (fun m => Z m ∨ m = m0) P' (k + 1) h3 y) ∧ [some v, some (.int at_), some (.int (kd : Int)), some (.ref m0), some (.int lf'), o5', o6'] = [some v, some (.int at_), some (.int (kd : Int)), some (.ref m0), some (.int lf''), o5'', o6''])) nE) nE := by
          refine hcp (by omega) hz' wx fun d' h2 kp2 w2 => ?_
          rw [fAppend_r (kp2 _ _ a) (sz_lt (by omega))]
          exact put kp2 (Wf.mono (Nat.le_refl _) (by omega) tx.old (fun m o z a => ⟨a, z⟩) (by omega) w2)
        have bentx : Wp (r__law_bend f [x, .int lf, .int (kd : Int)] h') (fun a h2 => Wp (opA (fAppend (.ref m0) [a] h2)) (fun _ h3 => ∀ lf' o5' o6', (Keep h h3 ∧ ∃ zs lf'' o5'' o6'', At h3 m0 zs ∧ zs.length = ys.length + 1 ∧ (∀ y ∈ zs, Wf B (len + 1) (fun m => Z m ∨ m = m0) P' (k + 1) h3 y) ∧ [some v, some (.int at_), some (.int (kd : Int)), some (.ref m0), some (.int lf'), o5', o6'] = [some v, some (.int at_), some (.int (kd : Int)), some (.ref m0), some (.int lf''), o5'', o6''])) nE) nE := by
          refine ih hz' wx fun d' h2 kp2 w2 => ?_
          rw [fAppend_r (kp2 _ _ a) (sz_lt (by omega))]
          exact put kp2 w2
        by_cases c1 : 0 ≤ lf
        · by_cases c2 : lf < (spN k h' x : Nat)
          · simp only [c1, c2, if_true]
            exact wp_mono bentx (fun a h2 w => wp_mono w (fun _ h3 q => by have q1 := q 0 none none; simp at q1 ⊢; exact q1) fun _ _ q => q) fun _ _ q => q
          · simp only [c1, c2, if_true, if_false]
            exact wp_mono keepx (fun a h2 w => wp_mono w (fun _ h3 q => by have q1 := q 0 none none; simp at q1 ⊢; exact q1) fun _ _ q => q) fun _ _ q => q
        · simp only [c1, if_false]
          exact wp_mono keepx (fun a h2 w => wp_mono w (fun _ h3 q => by have q1 := q 0 none none; simp at q1 ⊢; exact q1) fun _ _ q => q) fun _ _ q => q
      cases d with
      | non => simp [r__law_bend, b__law_bend, t1__law_bend, h0]; exact q _ _ Keep.refl (same Keep.refl)
      | bl b => simp [r__law_bend, b__law_bend, t1__law_bend, h0]; exact q _ _ Keep.refl (same Keep.refl)
      | int b => simp [r__law_bend, b__law_bend, t1__law_bend, h0]; exact q _ _ Keep.refl (same Keep.refl)
      | str b => simp [r__law_bend, b__law_bend, t1__law_bend, h0]; exact q _ _ Keep.refl (same Keep.refl)
      | tup xs =>
        simp [r__law_bend, b__law_bend, t1__law_bend, t2__law_bend, t3__law_bend, t4__law_bend, q0__law_bend, h0]
        refine ws_runL (fun j e h1 => Keep h h1 ∧ ∃ zs lf' o5' o6', At h1 h.length zs ∧ zs.length = j ∧ (∀ y ∈ zs, Wf B (len + 1) (fun m => Z m ∨ m = h.length) P' (k + 1) h1 y) ∧ e = [some (.tup xs), some (.int at_), some (.int (kd : Int)), some (.ref h.length), some (.int lf'), o5', o6']) ⟨Keep.add, [], _, _, _, At.new, rfl, by simp, rfl⟩ ?_ ?_
        · rintro j e h1 hj ⟨kp, zs, lf', o5', o6', a, rfl, wz, rfl⟩
          simp
          refine ws_mono (turn xs[zs.length] h1 h.length zs lf' (.tup xs) (some xs[zs.length]) o6' kp rfl a (by omega) wz ((w.2 _ (List.getElem_mem hj)).off.keep kp)) (fun _ _ q => q) (fun _ _ q => q.elim) (fun _ _ q => q.elim) (fun _ _ q => q.elim) fun _ _ _ q => q.elim
        · rintro e h1 ⟨kp, zs, lf', o5', o6', a, hz2, wz, rfl⟩
          simp [t5__law_bend, fTuple_r a]
          exact q _ _ kp ⟨by omega, fun x hx => (wz x hx).on fun m q => .inl q⟩
      | ref m =>
        obtain ⟨xs, a, hm, l, w⟩ := w
        simp [r__law_bend, b__law_bend, t1__law_bend, t2__law_bend, t3__law_bend, t4__law_bend, q0__law_bend, h0, it_r a, asItS_r]
        refine ws_runH (xs := xs) (fun j e h1 => Keep h h1 ∧ ∃ zs lf' o5' o6', At h1 h.length zs ∧ zs.length = j ∧ (∀ y ∈ zs, Wf B (len + 1) (fun m => Z m ∨ m = h.length) P' (k + 1) h1 y) ∧ e = [some (.ref m), some (.int at_), some (.int (kd : Int)), some (.ref h.length), some (.int lf'), o5', o6']) (fun j e h1 p => p.1 _ _ a) ⟨Keep.add, [], _, _, _, At.new, rfl, by simp, rfl⟩ ?_ ?_
        · rintro j e h1 hj ⟨kp, zs, lf', o5', o6', a', rfl, wz, rfl⟩
          simp
          refine ws_mono (turn xs[zs.length] h1 h.length zs lf' (.ref m) (some xs[zs.length]) o6' kp rfl a' (by omega) wz ((w _ (List.getElem_mem hj)).off.keep kp)) (fun _ _ q => q) (fun _ _ q => q.elim) (fun _ _ q => q.elim) (fun _ _ q => q.elim) fun _ _ _ q => q.elim
        · rintro e h1 ⟨kp, zs, lf', o5', o6', a', hz2, wz, rfl⟩
          simp [t5__law_bend, t6__law_bend, ia_list (kp _ _ a)]
          exact q _ _ kp ⟨_, a', fun z => by have := hz _ z; omega, by omega, fun x hx => (wz x hx).on fun m q => .inl q⟩
      | rol _ => exact w.elim
      | dic _ => exact w.elim
      | ty _ => exact w.elim
      | exn _ _ => exact w.elim
      | cls _ => exact w.elim
end Mv
namespace Mv
open PySem PySem.Spec PyProof.Rows L2 Sm
theorem closed_need_eq {n : Int} {h : EH} : m_closed_need [.int n] h = .ok (.int (clN n)) h := by
  have m1 : mulOk 2 1 = true := by decide +kernel
  have m2 : mulOk 2 (-1) = true := by decide +kernel
  by_cases c1 : n = 1
  · subst c1; simp [m_closed_need, b_closed_need, clN, op_mul_i, m1, m2]
  · by_cases c2 : n = -1
    · subst c2; simp [m_closed_need, b_closed_need, clN, op_mul_i, m1, m2]
    · simp [m_closed_need, b_closed_need, t1_closed_need, clN, c1, c2]
theorem closed_ok {m : Nat} {cs : List (P4 × Int)} {h : EH} {Q : D → EH → Prop} {E : Ex → EH → Prop} (a : At h m (cs.map ht)) (hl : cs.length ≤ 1000) (q : Q (.ref h.length) (h ++ [.lst ((cs.map cl).map ht)])) : Wp (m_closed [.ref m] h) Q E := by
  simp [m_closed, b_closed]
  refine wp_runCH (xs := cs.map ht) (fun j r h' => h' = h ∧ r = ((cs.take j).map cl).map ht) (fun j r h' p => by rw [p.1]; exact a) ⟨rfl, by simp⟩ ?_ ?_
  · rintro j r h' hj ⟨rfl, rfl⟩
    have hj' : j < cs.length := by simpa using hj
    simp [wipeD, closed_need_eq]
    refine ⟨sz_lt (by omega), ?_⟩
    rw [take_snoc (xs := cs.map (ht ∘ cl)) (by simpa using hj')]
    simp [cl, ht]
  · rintro r h' ⟨rfl, rfl⟩
    rw [List.take_of_length_le (by simp)]
    exact q
end Mv
namespace Mv
open PySem PySem.Spec PyProof.Rows L2 Sm
variable {n : Nat} {h : EH} {Q : D → EH → Prop} {E : Ex → EH → Prop}
-- imports Q1 c_holds c_closed
theorem bool_eq {a b : Bool} {h : EH} : m__law_bool [.bl a, .bl b] h = .ok (.bl (decide (a = b))) h := by
  cases a <;> cases b <;> simp [m__law_bool, b__law_bool]
theorem bool_same {a : Bool} {h : EH} : m__law_bool [.bl a, .bl a] h = .ok (.bl true) h := by
  rw [bool_eq]; simp
theorem not_in_all {bs : List Bool} : (!decide (false ∈ bs)) = bs.all id := by
  induction bs with
  | nil => rfl
  | cons b bs ih => cases b <;> simp_all
theorem atI_rev {α : Type} {xs : List α} {k : Nat} (hk : k < xs.length) : L2.atI xs (-1 - (k : Int)) = xs.reverse[k]? := by
  rw [List.getElem?_reverse hk]
  have e : L2.ixN xs.length (-1 - (k : Int)) = some (xs.length - 1 - k) := by
    unfold L2.ixN
    rw [if_neg (by omega)]
    rw [if_pos (by omega)]
    congr 1
    omega
  unfold L2.atI
  rw [e]
  rfl
theorem op_ix_rev {h : EH} {m k : Nat} {xs : List D} {x : D} (a : At h m xs) (hk : k < xs.length) (q : xs.reverse[k]? = some x) : opE oIx (.ref m) (.int (-1 - (k : Int))) h = .ok x h := op_ix_r a (by rw [atI_rev hk]; exact q)
section
variable {h : EH} {m : Nat} {cs : List (P4 × Int)} {v : V3} {Q : D → EH → Prop} {E : Ex → EH → Prop}
theorem held_ok (a : At h m (cs.map ht)) (hl : cs.length ≤ 100) (ok : ∀ c ∈ cs, Cok 133 c) (z : Vz 5 v) (q : ∀ h', Keep h h' → Q (.bl true) h') : Wp (m__law_held [.ref m, vt v] h) Q E := by
  have ho := fun {h : EH} {m : Nat} {cs : List (P4 × Int)} (a : At h m (cs.map ht)) (ok : ∀ c ∈ cs, Cok 133 c) => holds_eq a ok z (by decide)
  simp [m__law_held, b__law_held]
  refine wp_runCH (xs := cs.map ht) (fun j r h' => Keep h h' ∧ r = ((cs.take j).map fun c => D.bl (tru c v))) (fun j r h' p => p.1 _ _ a) ⟨Keep.refl, by simp⟩ ?_ ?_
  · rintro j r h1 hj ⟨kp, rfl⟩
    have hj' : j < cs.length := by simpa using hj
    simp [wipeD]
    refine ltrue_ok (ok _ (List.getElem_mem hj')) z (by decide) fun h2 kp2 => ⟨sz_lt (by simp; omega), kp.trans kp2, ?_⟩
    rw [take_snoc hj', List.map_append]; rfl
  rintro r h1 ⟨kp, rfl⟩
  rw [List.take_of_length_le (by simp)]
  have as : At (h1 ++ [.lst (cs.map fun c => D.bl (tru c v))]) h1.length ((cs.map (tru · v)).map .bl) := by
    rw [List.map_map]; exact At.new
  have nin := bl_nin (b := false) as
  rw [not_in_all] at nin
  have al : (cs.map (tru · v)).all id = cs.all (tru · v) := by rw [List.all_map]; rfl
  rw [al] at nin
  have a1 : At (h1 ++ [.lst (cs.map fun c => D.bl (tru c v))]) m (cs.map ht) := At.add (kp _ _ a)
  have k1 : Keep h (h1 ++ [.lst (cs.map fun c => D.bl (tru c v))]) := kp.trans Keep.add
  generalize h1 ++ [.lst (cs.map fun c => D.bl (tru c v))] = h2 at *
  generalize h1.length = s at *
  have e1 := ho a1 ok
  simp [t1__law_held, nin, t2__law_held, e1, bool_same, g_holds_0_point_conditions, t3__law_held, q0__law_held, fLen_r a1]
  rw [asR1_i (by omega) (by omega)]
  simp
  refine ws_runR (fun j e h' => Keep h2 h' ∧ ∃ d, e = [some (.ref m), some (vt v), some (.ref s), none, some (.bl (cs.all (tru · v))), d]) ⟨Keep.refl, _, rfl⟩ ?_ ?_
  · rintro j e h3 hj ⟨kp3, d, rfl⟩
    have hj' : j < cs.length := by omega
    have es : (0 : Int) + j * 1 = (j : Int) := by omega
    rw [es]
    have b3 : At h3 s ((cs.map (tru · v)).map .bl) := kp3 _ _ as
    have a3 : At h3 m (cs.map ht) := kp3 _ _ a1
    have i1 : opE oIx (.ref m) (.int (j : Int)) h3 = .ok (ht cs[j]) h3 := op_ix_at a3 (by simp [hj'])
    have b4 : At (h3 ++ [.lst [ht cs[j]]]) s ((cs.map (tru · v)).map .bl) := At.add b3
    have i2 : opE oIx (.ref s) (.int (j : Int)) (h3 ++ [.lst [ht cs[j]]]) = .ok (.bl (tru cs[j] v)) (h3 ++ [.lst [ht cs[j]]]) := op_ix_at b4 (by simp [hj'])
    have e2 := ho (cs := [cs[j]]) (h := h3 ++ [.lst [ht cs[j]]]) (m := h3.length) At.new (fun c hc => by rw [List.mem_singleton.mp hc]; exact ok _ (List.getElem_mem hj'))
    simp only [List.all_cons, List.all_nil, Bool.and_true] at e2
    simp [l0__law_held, i1, i2, e2, bool_same]
    exact kp3.trans Keep.add
  rintro e h3 ⟨kp3, d, rfl⟩
  have a3 : At h3 m (cs.map ht) := kp3 _ _ a1
  -- the rest
  have rest : ∀ (h4 : EH) (d : Option D), Keep h3 h4 → Wp (finR (t5__law_held [some (.ref m), some (vt v), some (.ref s), none, some (.bl (cs.all (tru · v))), d] h4)) Q E := by
    intro h4 d kp4
    have a4 : At h4 m (cs.map ht) := kp4 _ _ a3
    simp [t5__law_held, fLen_r a4]
    rw [asR1_n (by omega)]
    simp
    refine wp_runCR (fun j r h' => h' = h4 ∧ r = (cs.map ht).reverse.take j) ⟨rfl, by simp⟩ ?_ ?_
    · rintro j r h' hj ⟨rfl, rfl⟩
      have es : (0 : Int) + j * 1 = (j : Int) := by omega
      rw [es]
      have hr : j < (cs.map ht).reverse.length := by simpa using hj
      obtain ⟨x, hx⟩ : ∃ x, (cs.map ht).reverse[j]? = some x := ⟨_, List.getElem?_eq_getElem hr⟩
      have i1 := op_ix_rev a4 (k := j) (by simpa using hj) hx
      simp [wipeD, i1]
      refine ⟨sz_lt (by omega), ?_⟩
      rw [← List.map_reverse, List.take_add_one, List.map_reverse, hx]
      rfl
    · rintro r h' ⟨rfl, rfl⟩
      rw [List.take_of_length_le (by simp), ← List.map_reverse]
      have e3 := ho (cs := cs.reverse) (h := h' ++ [.lst (cs.reverse.map ht)]) (m := h'.length) At.new (fun c hc => ok _ (by simpa using hc))
      rw [List.all_reverse] at e3
      have e4 := ho (cs := []) (h := h' ++ [EO.lst (cs.reverse.map ht)] ++ [EO.lst []]) (m := (h' ++ [EO.lst (cs.reverse.map ht)]).length) At.new (fun c hc => by cases hc)
      simp at e3 e4
      simp [e3, bool_same, e4]
      exact q _ (((k1.trans kp3).trans kp4).trans Keep.add)
  by_cases al2 : cs.all (tru · v) = true
  · simp [t4__law_held, al2]
    refine closed_ok a3 (by omega) ?_
    have e5 := ho (cs := cs.map cl) (h := h3 ++ [.lst ((cs.map cl).map ht)]) (m := h3.length) At.new (fun c hc => by
      obtain ⟨c', hc', rfl⟩ := List.mem_map.mp hc
      exact (ok c' hc').cl)
    have all2 : (cs.map cl).all (tru · v) = true := by
      rw [List.all_map]
      refine List.all_eq_true.mpr fun c hc => tru_cl (ok c hc) v ?_
      exact List.all_eq_true.mp al2 c hc
    rw [all2] at e5
    have := rest _ d (Keep.add (o := [.lst ((cs.map cl).map ht)]))
    rw [al2] at this
    simp at this e5
    simp [e5, bool_same]
    exact this
  · have af : cs.all (tru · v) = false := by simpa using al2
    have := rest _ d Keep.refl
    rw [af] at this
    simp at this
    simp [t4__law_held, af]
    exact this
end
end Mv
namespace Mv
open PySem PySem.Spec PyProof.Rows L2 Sm
variable {B len n : Nat} {Z : Nat → Prop} {P : Str → Prop} {h : EH} {d : D}
def isIntD : D → Bool
  | .int _ => true
  | _ => false
theorem lis_integer_w (w : Wf B len Z P n h d) : m__law_is_integer [d] h = .ok (.bl (isIntD d)) h := by
  cases n with
  | zero => exact w.elim
  | succ n =>
    unfold Wf at w
    cases d with
    | ref m =>
      obtain ⟨xs, a, _⟩ := w
      simp [m__law_is_integer, b__law_is_integer, ia_list a, isIntD]
    | rol _ => exact w.elim
    | dic _ => exact w.elim
    | ty _ => exact w.elim
    | exn _ _ => exact w.elim
    | cls _ => exact w.elim
    | _ => simp [m__law_is_integer, b__law_is_integer, isIntD]
/-- a plain value is no tuple, or a tuple of plain values -/
theorem Wf.tupcase (w : Wf B len Z P (n + 1) h d) : fIsi [d, .ty "tuple"] h = some (.bl false, h) ∧ (∀ xs, d ≠ .tup xs) ∨ ∃ xs, d = .tup xs ∧ xs.length ≤ len ∧ ∀ x ∈ xs, Wf B len Z P n h x := by
  unfold Wf at w
  cases d with
  | ref m =>
    obtain ⟨xs, a, _⟩ := w
    exact .inl ⟨ia_list_tuple a, fun _ z => by cases z⟩
  | tup xs => exact .inr ⟨xs, rfl, w.1, w.2⟩
  | rol _ => exact w.elim
  | dic _ => exact w.elim
  | ty _ => exact w.elim
  | exn _ _ => exact w.elim
  | cls _ => exact w.elim
  | _ => exact .inl ⟨by simp, fun _ z => by cases z⟩
theorem Wf.intcase (i : isIntD d = true) : ∃ k, d = .int k := by
  cases d with
  | int k => exact ⟨k, rfl⟩
  | _ => cases i
end Mv
namespace Mv
open PySem PySem.Spec PyProof.Rows L2 Sm
variable {n : Nat} {h : EH} {Q : D → EH → Prop} {E : Ex → EH → Prop}
theorem cd_eq (a b : Int) (h : EH) : m_common_divisor [.int a, .int b] h = .ok (.int (Int.gcd a b : Nat)) h := by
  obtain ⟨e', h', l, hz, hh⟩ := while_thru (c := w0_common_divisor) (b := l0_common_divisor) (fun e h' => h' = h ∧ ∃ (x y : Nat), e = [some (.int a), some (.int b), some (.int x), some (.int y)] ∧ Nat.gcd x y = Int.gcd a b)
    (fun e _ => match e with | [_, _, _, some (.int y)] => y.toNat | _ => 0) (fun e h' => e = [some (.int a), some (.int b), some (.int (Int.gcd a b : Nat)), some (.int 0)] ∧ h' = h) (by
      rintro e h' ⟨rfl, x, y, rfl, hg⟩
      by_cases c : y = 0
      · subst c
        refine .inl ⟨h', by simp [w0_common_divisor], ?_, rfl⟩
        simp at hg
        rw [hg]; rfl
      · refine .inr ⟨h', [some (.int a), some (.int b), some (.int y), some (.int ((x % y : Nat) : Int))], h', ?_, .inl ?_, ⟨rfl, y, x % y, rfl, ?_⟩, ?_⟩
        · simp [w0_common_divisor, c]
          try omega
        · have hy : (0 : Int) < y := by omega
          simp [l0_common_divisor, op_mod_p hy]
        · rw [← hg, Nat.gcd_comm y, ← Nat.gcd_rec, Nat.gcd_comm]
        · simp only [Int.toNat_natCast]
          exact Nat.mod_lt _ (by omega)) _ [some (.int a), some (.int b), some (.int (a.natAbs : Int)), some (.int (b.natAbs : Int))] h (Nat.le_refl _) ⟨rfl, a.natAbs, b.natAbs, rfl, rfl⟩
  subst hz hh
  simp [m_common_divisor, b_common_divisor, t1_common_divisor, t2_common_divisor, q0_common_divisor, sWhile_eq l]
theorem df_eq (a b c d : Int) : m_divisor_of_four [.int a, .int b, .int c, .int d] h = .ok (.int (gcd4 a b c d : Nat)) h := by
  simp [m_divisor_of_four, b_divisor_of_four, cd_eq, gcd4]
def lead (a b c : Int) : Int := if a ≠ 0 then a else if b ≠ 0 then b else c
theorem lead_eq (a b c : Int) : m_leading [.int a, .int b, .int c] h = .ok (.int (lead a b c)) h := by
  unfold lead
  by_cases a0 : a = 0
  · by_cases b0 : b = 0
    · simp [m_leading, b_leading, t1_leading, t2_leading, a0, b0]
    · simp [m_leading, b_leading, t1_leading, t2_leading, a0, b0]
  · simp [m_leading, b_leading, t1_leading, t2_leading, a0]
theorem lead_zero {a b c : Int} : lead a b c = 0 ↔ a = 0 ∧ b = 0 ∧ c = 0 := by
  unfold lead
  by_cases a0 : a = 0 <;> by_cases b0 : b = 0 <;> simp [a0, b0]
theorem lead_side {a b c : Int} (ne : ¬ (a = 0 ∧ b = 0 ∧ c = 0)) : (if 0 < lead a b c then (1 : Int) else -1) = sideOf a b c := by
  have fin : ∀ x : Int, lead a b c = x → (0 < x → ¬ (a < 0 ∨ (a = 0 ∧ (b < 0 ∨ (b = 0 ∧ c < 0))))) → (¬ 0 < x → (a < 0 ∨ (a = 0 ∧ (b < 0 ∨ (b = 0 ∧ c < 0))))) → (if 0 < lead a b c then (1 : Int) else -1) = sideOf a b c := by
    intro x e h1 h2
    rw [e]
    unfold sideOf
    by_cases p : 0 < x
    · rw [if_pos p, if_neg (h1 p)]
    · rw [if_neg p, if_pos (h2 p)]
  by_cases a0 : a = 0
  · by_cases b0 : b = 0
    · exact fin c (by simp [lead, a0, b0]) (by omega) (by omega)
    · exact fin b (by simp [lead, a0, b0]) (by omega) (by omega)
  · exact fin a (by simp [lead, a0]) (by omega) (by omega)
end Mv
namespace Mv
open PySem PySem.Spec PyProof.Rows L2 Sm
variable {n : Nat} {h : EH} {Q : D → EH → Prop} {E : Ex → EH → Prop}
theorem is_integer_eq {i : Int} : m__law_is_integer [.int i] h = .ok (.bl true) h := by
  simp [m__law_is_integer, b__law_is_integer]
end Mv
namespace Mv
open PySem PySem.Spec PyProof.Rows L2 Sm
variable {n : Nat} {h : EH} {Q : D → EH → Prop} {E : Ex → EH → Prop}
theorem gcd_chain (a b c d : Int) : Int.gcd ((Int.gcd ((Int.gcd ((Int.gcd 0 a : Nat) : Int) b : Nat) : Int) c : Nat) : Int) d = gcd4 a b c d := by
  unfold gcd4 Int.gcd
  simp only [Int.natAbs_natCast, Int.natAbs_zero, Nat.gcd_zero_left]
  rw [Nat.gcd_assoc]
theorem is_plane_eq {P : P4} (p : IsPl P) : m__law_is_plane [pt P] h = .ok (.bl true) h := by
  have g := p.g
  have s := p.s
  have nz := p.nz
  have e0 : slE (pt P) none (some 3) h = .ok (.tup [.int P.a, .int P.b, .int P.c]) h := rfl
  rw [← gcd_chain] at g
  have w : q1__law_is_plane [some (pt P), some (.int 1), some (.int P.d)] h = .rt (.bl true) h := by
    unfold Nz at nz
    unfold sideOf at s
    by_cases a0 : P.a = 0
    · by_cases b0 : P.b = 0
      · have c0 : P.c ≠ 0 := fun z => nz ⟨a0, b0, z⟩
        have cp : 0 < P.c := by
          split at s
          · cases s
          · omega
        simp [q1__law_is_plane, e0, runF_k, runFk_L, l1__law_is_plane, a0, b0, c0, cp]
      · have bp : 0 < P.b := by
          split at s
          · cases s
          · omega
        simp [q1__law_is_plane, e0, runF_k, runFk_L, l1__law_is_plane, a0, b0, bp]
    · have ap : 0 < P.a := by
        split at s
        · cases s
        · omega
      simp [q1__law_is_plane, e0, runF_k, runFk_L, l1__law_is_plane, a0, ap]
  have e1 : asItS (pt P) h = .ok (itL [.int P.a, .int P.b, .int P.c, .int P.d]) h := rfl
  simp [m__law_is_plane, b__law_is_plane, t1__law_is_plane, t2__law_is_plane, q0__law_is_plane, e1, runF_k, runFk_L, l0__law_is_plane, is_integer_eq, gcd_spec, t3__law_is_plane, t4__law_is_plane]
  rw [Int.gcd_zero_left] at g
  rw [g]
  simp [w]
end Mv
namespace Mv
open PySem PySem.Spec PyProof.Rows L2 Sm
variable {B len n : Nat} {Z : Nat → Prop} {P : Str → Prop} {h : EH} {d : D}
/-- all([f(x) for x in xs]) -/
theorem all_run4 {xs : List D} {f : D → Bool} {i : Nat} {m : Sl → EH → R D} {mi : Sl → EH → R Itd} {e : Sl} (hi : mi e h = .ok (itL xs) h) (hl : xs.length ≤ 1000) (hm : ∀ d ∈ xs, m ((e.set i none).set i (some d)) h = .ok (.bl (f d)) h) : eLB (fun bs => bs.all id) (lComp [i] mi (gVar i) bYes m) e h = .ok (.bl (xs.all f)) h := by
  have q : runC (itL xs) [i] (gVar i) bYes m e h = .ok ((xs.map f).map .bl) h := wp_eq (wp_mapL (f := fun d => .bl (f d)) hl hm ⟨by simp, rfl⟩)
  rw [eLB_all (bs := xs.map f) (h' := h) (by rw [lComp_r, hi, R.bind_ok, q])]
  rw [List.all_map]; rfl
theorem is_whole_w (w : Wf B len Z P n h d) : m_is_whole [d] h = .ok (.bl (isIntD d)) h := by
  cases n with
  | zero => exact w.elim
  | succ n =>
    unfold Wf at w
    cases d with
    | ref m =>
      obtain ⟨xs, a, _⟩ := w
      simp [m_is_whole, b_is_whole, ia_list a, isIntD]
    | rol _ => exact w.elim
    | dic _ => exact w.elim
    | ty _ => exact w.elim
    | exn _ _ => exact w.elim
    | cls _ => exact w.elim
    | _ => simp [m_is_whole, b_is_whole, isIntD]
def isPlI (a b c d : Int) : Bool := decide (0 < lead a b c) && decide (gcd4 a b c d = 1)
def isPlaneD : D → Bool
  | .tup [.int a, .int b, .int c, .int d] => isPlI a b c d
  | _ => false
theorem isPlaneD_len {xs : List D} (c : xs.length ≠ 4) : isPlaneD (.tup xs) = false := by
  unfold isPlaneD
  split
  · rename_i e
    cases e
    exact absurd rfl c
  · rfl
theorem isPlaneD_no (c : ∀ xs, d ≠ .tup xs) : isPlaneD d = false := by
  unfold isPlaneD
  split
  · exact absurd rfl (c _)
  · rfl
theorem isPlaneD_int {a b c d : D} (q : ¬ (isIntD a = true ∧ isIntD b = true ∧ isIntD c = true ∧ isIntD d = true)) : isPlaneD (.tup [a, b, c, d]) = false := by
  unfold isPlaneD
  split
  · rename_i e
    cases e
    exact absurd ⟨rfl, rfl, rfl, rfl⟩ q
  · rfl
theorem is_plane_w (w : Wf B len Z P (n + 1) h d) : m_is_plane [d] h = .ok (.bl (isPlaneD d)) h := by
  rcases w.tupcase with ⟨e, c⟩ | ⟨xs, rfl, l, w⟩
  · simp [m_is_plane, b_is_plane, e, isPlaneD_no c]
  · by_cases hl : xs.length = 4
    · match xs, hl with
      | [a, b, c, d], _ =>
        have wa := is_whole_w (w a (by simp))
        have wb := is_whole_w (w b (by simp))
        have wc := is_whole_w (w c (by simp))
        have wd := is_whole_w (w d (by simp))
        have e := all_run4 (mi := iSeq (eVar 0)) (i := 1) (f := isIntD) (e := [some (.tup [a, b, c, d]), none]) (xs := [a, b, c, d]) (h := h) (m := eCall m_is_whole (aCons (eVar 1) aNil)) (by simp) (by simp) (fun y hy => by
          simp at hy
          rcases hy with rfl | rfl | rfl | rfl <;> simp [wa, wb, wc, wd])
        by_cases q : isIntD a = true ∧ isIntD b = true ∧ isIntD c = true ∧ isIntD d = true
        · obtain ⟨qa, qb, qc, qd⟩ := q
          obtain ⟨i, rfl⟩ := Wf.intcase qa
          obtain ⟨j, rfl⟩ := Wf.intcase qb
          obtain ⟨k, rfl⟩ := Wf.intcase qc
          obtain ⟨m, rfl⟩ := Wf.intcase qd
          simp only [isIntD, List.all_cons, List.all_nil, Bool.and_self] at e
          by_cases hz : lead i j k ≤ 0
          · simp [m_is_plane, b_is_plane, t1_is_plane, t2_is_plane, e, lead_eq, hz, isPlaneD, isPlI]
            omega
          · have hz' : 0 < lead i j k := by omega
            simp [m_is_plane, b_is_plane, t1_is_plane, t2_is_plane, t3_is_plane, e, lead_eq, hz, isPlaneD, isPlI, df_eq, hz']
            try omega
        · rw [isPlaneD_int q]
          have e2 : ([a, b, c, d] : List D).all isIntD = false := by
            cases h1 : isIntD a <;> cases h2 : isIntD b <;> cases h3 : isIntD c <;> cases h4 : isIntD d <;> simp [h1, h2, h3, h4] at q ⊢
          rw [e2] at e
          simp [m_is_plane, b_is_plane, t1_is_plane, e]
    · have hi : ¬ (xs.length : Int) = 4 := by omega
      simp [m_is_plane, b_is_plane, isPlaneD_len hl, hi]
theorem ii (i : Int) : isIntD (.int i) = true := rfl
theorem lis_plane_w (w : Wf B len Z P (n + 1) h d) : m__law_is_plane [d] h = .ok (.bl (isPlaneD d)) h := by
  rcases w.tupcase with ⟨e, c⟩ | ⟨xs, rfl, l, w⟩
  · simp [m__law_is_plane, b__law_is_plane, e, isPlaneD_no c]
  · by_cases hl : xs.length = 4
    · match xs, hl with
      | [a, b, c, d], _ =>
        have wa := lis_integer_w (w a (by simp))
        have wb := lis_integer_w (w b (by simp))
        have wc := lis_integer_w (w c (by simp))
        have wd := lis_integer_w (w d (by simp))
        by_cases qa : isIntD a = true
        · obtain ⟨i, rfl⟩ := Wf.intcase qa
          by_cases qb : isIntD b = true
          · obtain ⟨j, rfl⟩ := Wf.intcase qb
            by_cases qc : isIntD c = true
            · obtain ⟨k, rfl⟩ := Wf.intcase qc
              by_cases qd : isIntD d = true
              · obtain ⟨m, rfl⟩ := Wf.intcase qd
                have ct : Sm.cutD [D.int i, D.int j, D.int k, D.int m] none (some 3) = [.int i, .int j, .int k] := by
                  rw [show (3 : Int) = ((3 : Nat) : Int) from rfl, cutD_hi]; rfl
                have gc := gcd_chain i j k m
                by_cases g : gcd4 i j k m = 1
                · by_cases i0 : i = 0
                  · subst i0
                    by_cases j0 : j = 0
                    · subst j0
                      by_cases k0 : k = 0
                      · subst k0
                        simp at gc
                        simp [m__law_is_plane, b__law_is_plane, t1__law_is_plane, t2__law_is_plane, q0__law_is_plane, runF_k, runFk_L, l0__law_is_plane, wa, wb, wc, wd, isIntD, gcd_spec, t3__law_is_plane, gc, g, t4__law_is_plane, q1__law_is_plane, ct, l1__law_is_plane, t5__law_is_plane, isPlaneD, isPlI, lead]
                      · simp at gc
                        simp [m__law_is_plane, b__law_is_plane, t1__law_is_plane, t2__law_is_plane, q0__law_is_plane, runF_k, runFk_L, l0__law_is_plane, wa, wb, wc, wd, isIntD, gcd_spec, t3__law_is_plane, gc, g, t4__law_is_plane, q1__law_is_plane, ct, l1__law_is_plane, t5__law_is_plane, isPlaneD, isPlI, lead, k0]
                    · simp at gc
                      simp [m__law_is_plane, b__law_is_plane, t1__law_is_plane, t2__law_is_plane, q0__law_is_plane, runF_k, runFk_L, l0__law_is_plane, wa, wb, wc, wd, isIntD, gcd_spec, t3__law_is_plane, gc, g, t4__law_is_plane, q1__law_is_plane, ct, l1__law_is_plane, t5__law_is_plane, isPlaneD, isPlI, lead, j0]
                  · simp at gc
                    simp [m__law_is_plane, b__law_is_plane, t1__law_is_plane, t2__law_is_plane, q0__law_is_plane, runF_k, runFk_L, l0__law_is_plane, wa, wb, wc, wd, isIntD, gcd_spec, t3__law_is_plane, gc, g, t4__law_is_plane, q1__law_is_plane, ct, l1__law_is_plane, t5__law_is_plane, isPlaneD, isPlI, lead, i0]
                · have g' : ¬ (gcd4 i j k m : Int) = 1 := by omega
                  simp at gc
                  simp [m__law_is_plane, b__law_is_plane, t1__law_is_plane, t2__law_is_plane, q0__law_is_plane, runF_k, runFk_L, l0__law_is_plane, wa, wb, wc, wd, isIntD, gcd_spec, t3__law_is_plane, gc, g, g', isPlaneD, isPlI]
              · rw [isPlaneD_int (fun q => qd q.2.2.2)]
                simp [m__law_is_plane, b__law_is_plane, t1__law_is_plane, t2__law_is_plane, q0__law_is_plane, runF_k, runFk_L, l0__law_is_plane, wa, wb, wc, wd, ii, gcd_spec, qd]
            · rw [isPlaneD_int (fun q => qc q.2.2.1)]
              simp [m__law_is_plane, b__law_is_plane, t1__law_is_plane, t2__law_is_plane, q0__law_is_plane, runF_k, runFk_L, l0__law_is_plane, wa, wb, wc, ii, gcd_spec, qc]
          · rw [isPlaneD_int (fun q => qb q.2.1)]
            simp [m__law_is_plane, b__law_is_plane, t1__law_is_plane, t2__law_is_plane, q0__law_is_plane, runF_k, runFk_L, l0__law_is_plane, wa, wb, ii, gcd_spec, qb]
        · rw [isPlaneD_int (fun q => qa q.1)]
          simp [m__law_is_plane, b__law_is_plane, t1__law_is_plane, t2__law_is_plane, q0__law_is_plane, runF_k, runFk_L, l0__law_is_plane, wa, qa]
    · have hi : ¬ (xs.length : Int) = 4 := by omega
      simp [m__law_is_plane, b__law_is_plane, isPlaneD_len hl, hi]
end Mv
namespace Mv
open PySem PySem.Spec PyProof.Rows L2 Sm
variable {B len n : Nat} {Z : Nat → Prop} {P : Str → Prop} {h : EH} {d : D}
def isNeedD : D → Bool
  | .int i => decide (-2 ≤ i) && decide (i ≤ 2)
  | _ => false
theorem isNeedD_no {d : D} (c : ¬ isIntD d = true) : isNeedD d = false := by
  unfold isNeedD
  split
  · exact absurd rfl c
  · rfl
def isCondD : D → Bool
  | .tup [a, b] => isPlaneD a && isNeedD b
  | _ => false
theorem isCondD_len {xs : List D} (c : xs.length ≠ 2) : isCondD (.tup xs) = false := by
  unfold isCondD
  split
  · rename_i e
    cases e
    exact absurd rfl c
  · rfl
theorem isCondD_no (c : ∀ xs, d ≠ .tup xs) : isCondD d = false := by
  unfold isCondD
  split
  · exact absurd rfl (c _)
  · rfl
theorem is_condition_w (w : Wf B len Z P (n + 2) h d) : m_is_condition [d] h = .ok (.bl (isCondD d)) h := by
  rcases w.tupcase with ⟨e, c⟩ | ⟨xs, rfl, l, w⟩
  · simp [m_is_condition, b_is_condition, e, isCondD_no c]
  · by_cases hl : xs.length = 2
    · match xs, hl with
      | [a, b], _ =>
        have wa := is_plane_w (w a (by simp))
        have wb := is_whole_w (w b (by simp))
        have e0 : isCondD (.tup [a, b]) = (isPlaneD a && isNeedD b) := rfl
        rw [e0]
        by_cases qa : isPlaneD a = true
        · by_cases qb : isIntD b = true
          · obtain ⟨i, rfl⟩ := Wf.intcase qb
            by_cases c1 : -2 ≤ i
            · by_cases c2 : i ≤ 2 <;> simp [m_is_condition, b_is_condition, t1_is_condition, wa, wb, qa, ii, isNeedD, c1, c2]
            · simp [m_is_condition, b_is_condition, t1_is_condition, wa, wb, qa, ii, isNeedD, c1]
          · simp [m_is_condition, b_is_condition, t1_is_condition, wa, wb, qa, qb, isNeedD_no qb]
        · simp [m_is_condition, b_is_condition, t1_is_condition, wa, qa]
    · have hi : ¬ (xs.length : Int) = 2 := by omega
      simp [m_is_condition, b_is_condition, isCondD_len hl, hi]
theorem lis_condition_w (w : Wf B len Z P (n + 2) h d) : m__law_is_condition [d] h = .ok (.bl (isCondD d)) h := by
  rcases w.tupcase with ⟨e, c⟩ | ⟨xs, rfl, l, w⟩
  · simp [m__law_is_condition, b__law_is_condition, e, isCondD_no c]
  · by_cases hl : xs.length = 2
    · match xs, hl with
      | [a, b], _ =>
        have wa := lis_plane_w (w a (by simp))
        have wb := lis_integer_w (w b (by simp))
        have e0 : isCondD (.tup [a, b]) = (isPlaneD a && isNeedD b) := rfl
        rw [e0]
        by_cases qa : isPlaneD a = true
        · by_cases qb : isIntD b = true
          · obtain ⟨i, rfl⟩ := Wf.intcase qb
            by_cases c1 : -2 ≤ i
            · by_cases c2 : i ≤ 2 <;> simp [m__law_is_condition, b__law_is_condition, t1__law_is_condition, wa, wb, qa, ii, isNeedD, c1, c2]
            · simp [m__law_is_condition, b__law_is_condition, t1__law_is_condition, wa, wb, qa, ii, isNeedD, c1]
          · simp [m__law_is_condition, b__law_is_condition, t1__law_is_condition, wa, wb, qa, qb, isNeedD_no qb]
        · simp [m__law_is_condition, b__law_is_condition, wa, qa]
    · have hi : ¬ (xs.length : Int) = 2 := by omega
      simp [m__law_is_condition, b__law_is_condition, isCondD_len hl, hi]
/-- a plain value is no list, or a list of plain values -/
theorem Wf.lstcase (w : Wf B len Z P (n + 1) h d) : fIsi [d, .ty "list"] h = some (.bl false, h) ∨ ∃ m xs, d = .ref m ∧ At h m xs ∧ xs.length ≤ len ∧ ∀ x ∈ xs, Wf B len Z P n h x := by
  unfold Wf at w
  cases d with
  | ref m =>
    obtain ⟨xs, a, _, l, w⟩ := w
    exact .inr ⟨m, xs, rfl, a, l, w⟩
  | rol _ => exact w.elim
  | dic _ => exact w.elim
  | ty _ => exact w.elim
  | exn _ _ => exact w.elim
  | cls _ => exact w.elim
  | _ => exact .inl (by simp)
/-- a list of plain values, judged as a list of conditions -/
theorem is_conditions_at {m : Nat} {xs : List D} (hl : xs.length ≤ 1000) (a : At h m xs) (w : ∀ x ∈ xs, Wf B len Z P (n + 2) h x) : m_is_conditions [.ref m] h = .ok (.bl (xs.all isCondD)) h := by
  have q : runC (itH m) [1] (gVar 1) bYes (eCall m_is_condition (aCons (eVar 1) aNil)) [some (.ref m), none] h = .ok ((xs.map isCondD).map .bl) h := wp_eq (wp_mapH (f := fun d => .bl (isCondD d)) a (by omega) (fun d hd => by simp [is_condition_w (w d hd)]) ⟨by simp, rfl⟩)
  have e := eLB_all (e := [some (.ref m), none]) (h := h) (m := lComp [1] (iSeq (eVar 0)) (gVar 1) bYes (eCall m_is_condition (aCons (eVar 1) aNil))) (bs := xs.map isCondD) (h' := h) (by rw [lComp_r]; simp [q])
  simp [m_is_conditions, b_is_conditions, t1_is_conditions, ia_list a, e]
theorem lis_conditions_at {m : Nat} {xs : List D} (a : At h m xs) (w : ∀ x ∈ xs, Wf B len Z P (n + 2) h x) : m__law_is_conditions [.ref m] h = .ok (.bl (xs.all isCondD)) h := by
  refine wp_eq ?_
  simp [m__law_is_conditions, b__law_is_conditions, t1__law_is_conditions, q0__law_is_conditions, ia_list a]
  refine ws_runH (xs := xs) (fun j e h' => h' = h ∧ (∃ d, e = [some (.ref m), d]) ∧ ∀ c ∈ xs.take j, isCondD c = true) (fun j e h' p => by rw [p.1]; exact a) ⟨rfl, ⟨_, rfl⟩, by simp⟩ ?_ ?_
  · rintro j e h' hj ⟨rfl, ⟨d, rfl⟩, w2⟩
    have e := lis_condition_w (w _ (List.getElem_mem hj))
    by_cases ct : isCondD xs[j] = true
    · have w' : ∀ c ∈ xs.take (j + 1), isCondD c = true := fun c hc => by
        rw [take_snoc hj] at hc
        rcases List.mem_append.mp hc with hc | hc
        · exact w2 c hc
        · rw [List.mem_singleton.mp hc]; exact ct
      simp [l0__law_is_conditions, e, ct]
      exact w'
    · simp [l0__law_is_conditions, e, ct]
      exact ⟨_, List.getElem_mem hj, by simpa using ct⟩
  · rintro e h' ⟨rfl, ⟨d, rfl⟩, w2⟩
    simp [t2__law_is_conditions]
    rw [List.take_of_length_le (by simp)] at w2
    simpa using w2
/-- the judge of a list of conditions and the program's answer are one -/
theorem is_conditions_w (hl : len ≤ 1000) (w : Wf B len Z P (n + 3) h d) : ∃ b, m_is_conditions [d] h = .ok (.bl b) h ∧ m__law_is_conditions [d] h = .ok (.bl b) h := by
  rcases w.lstcase with e | ⟨m, xs, rfl, a, l, w⟩
  · exact ⟨false, by simp [m_is_conditions, b_is_conditions, e], by simp [m__law_is_conditions, b__law_is_conditions, e]⟩
  · exact ⟨xs.all isCondD, is_conditions_at (by omega) a w, lis_conditions_at a w⟩
/-! ### conditions -/
theorem isCondD_ht {s : Nat} {c : P4 × Int} (k : Cok s c) : isCondD (ht c) = true := by
  show (isPlaneD (pt c.1) && isNeedD (.int c.2)) = true
  have hl : 0 < lead c.1.a c.1.b c.1.c := by
    have e := lead_side (a := c.1.a) (b := c.1.b) (c := c.1.c) k.pl.nz
    rw [k.pl.s] at e
    by_cases p : 0 < lead c.1.a c.1.b c.1.c
    · exact p
    · rw [if_neg p] at e; cases e
  have e1 : isPlaneD (pt c.1) = true := by
    show isPlI c.1.a c.1.b c.1.c c.1.d = true
    simp [isPlI, hl, k.pl.g]
  have e2 : isNeedD (.int c.2) = true := by
    have := k.lo; have := k.hi
    simp [isNeedD]; omega
  rw [e1, e2]; rfl
theorem wf_ht {s : Nat} {c : P4 × Int} (k : Cok s c) (hs : s ≤ B) (h2 : 2 ≤ B) (hl : 4 ≤ len) : Wf B len Z P (n + 3) h (ht c) := by
  have pw : 2 ^ s ≤ 2 ^ B := Nat.pow_le_pow_right (by decide) hs
  have p2 : 2 ^ 2 ≤ 2 ^ B := Nat.pow_le_pow_right (n := 2) (by decide) h2
  obtain ⟨za, zb, zc, zd⟩ := k.sz
  have := k.lo; have := k.hi
  refine ⟨by simp; omega, fun x hx => ?_⟩
  rcases List.mem_cons.mp hx with rfl | hx
  · refine ⟨by simp; omega, fun y hy => ?_⟩
    simp at hy
    rcases hy with rfl | rfl | rfl | rfl
    · exact Nat.lt_of_lt_of_le za pw
    · exact Nat.lt_of_lt_of_le zb pw
    · exact Nat.lt_of_lt_of_le zc pw
    · exact Nat.lt_of_lt_of_le zd pw
  · rw [List.mem_singleton.mp hx]
    show c.2.natAbs < 2 ^ B
    omega
end Mv
namespace Mv
open PySem PySem.Spec PyProof.Rows L2 Sm
variable {n : Nat} {h : EH} {Q : D → EH → Prop} {E : Ex → EH → Prop}
-- imports Q2 c_wfcond
section
variable {h : EH} {m k : Nat} {cs ds : List (P4 × Int)} {v : V3} {Q : D → EH → Prop} {E : Ex → EH → Prop}
theorem all_cond {s : Nat} (ok : ∀ c ∈ cs, Cok s c) : (cs.map ht).all isCondD = true := by
  rw [List.all_map]
  exact List.all_eq_true.mpr fun c hc => isCondD_ht (ok c hc)
theorem wf_hts (ok : ∀ c ∈ cs, Cok 133 c) : ∀ x ∈ cs.map ht, Wf 140 200 (fun m => m = 1) (fun _ => True) (2 + 2) h x := fun x hx => by
  obtain ⟨c, hc, rfl⟩ := List.mem_map.mp hx
  exact wf_ht (ok c hc) (by decide) (by decide) (by decide)
theorem is_eq (a : At h m (cs.map ht)) (b : At h k (ds.map ht)) (ok : ∀ c ∈ cs, Cok 133 c) : m__law_is [.ref m, .ref k] h = .ok (.bl (decide (cs = ds))) h := by
  have e := lis_conditions_at a (wf_hts ok)
  rw [all_cond ok] at e
  have e2 : opE oEq (.ref m) (.ref k) h = .ok (.bl (decide (cs = ds))) h := op_eq_l (α := P4 × Int) a b (by decide)
  simp [m__law_is, b__law_is, e, e2]
theorem cl_lit {s : Nat} {c : P4 × Int} (kc : Cok s c) (h : EH) : asDLit [(-2, -2), (-1, -2), (0, 0), (1, 2), (2, 2)] (.int c.2) h = .ok (.int (clN c.2)) h := by
  rcases need_cases kc.lo kc.hi with e | e | e | e | e <;> rw [e] <;> rfl
theorem closed_due_ok (a : At h m (cs.map ht)) (hl : cs.length ≤ 100) (ok : ∀ c ∈ cs, Cok 133 c) (q : ∀ F h', Keep h h' → h.length ≤ F → At h' F ((cs.map cl).map ht) → Q (.ref F) h') : Wp (m__law_closed_due [.ref m] h) Q E := by
  simp [m__law_closed_due, b__law_closed_due, t1__law_closed_due, q0__law_closed_due]
  refine ws_runH (xs := cs.map ht) (fun j e h' => Keep h h' ∧ At h' h.length (((cs.take j).map cl).map ht) ∧ ∃ o2 o3, e = [some (.ref m), some (.ref h.length), o2, o3]) (fun j e h' p => p.1 _ _ a) ⟨Keep.add, At.new, _, _, rfl⟩ ?_ ?_
  · rintro j e h1 hj ⟨kp, b, o2, o3, rfl⟩
    have hj' : j < cs.length := by simpa using hj
    have kc := ok _ (List.getElem_mem hj')
    have tl : tyN h1 (.ref h.length) = some "list" := by simp [tyN, show h1[h.length]? = some (.lst _) from b]
    simp [l0__law_closed_due, tl, cl_lit kc, fAppend_r b (sz_lt (by simp; omega))]
    refine ⟨kp.set (Nat.le_refl _), ?_⟩
    have := b.set_self (ys := ((cs.take (j + 1)).map cl).map ht)
    rw [take_snoc hj', List.map_append, List.map_append] at this
    simp [cl, ht] at this ⊢
    rw [take_snoc (xs := cs.map (ht ∘ cl)) (by simpa using hj')]
    simpa [cl, ht] using this
  · rintro e h1 ⟨kp, b, o2, o3, rfl⟩
    rw [List.take_of_length_le (by simp)] at b
    simp [t2__law_closed_due]
    exact q _ _ kp (Nat.le_refl _) b
theorem again_ok {c : P4 × Int} (a : At h m (cs.map ht)) (hl : cs.length ≤ 40) (ok : ∀ c ∈ cs, Cok 133 c) (kc : Cok 133 c) (z : Vz 5 v) (q : ∀ h', Keep h h' → Q (.bl true) h') : Wp (m__law_again [.ref m, ht c, vt v] h) Q E := by
  have okc : ∀ c ∈ cs.map cl, Cok 133 c := fun c hc => by
    obtain ⟨c', hc', rfl⟩ := List.mem_map.mp hc
    exact (ok c' hc').cl
  have clcl : (cs.map cl).map cl = cs.map cl := by
    rw [List.map_map]
    exact List.map_congr_left fun c _ => cl_cl c
  have mh : m < h.length := a.lt
  have aL : asL (.ref m) h = .ok (cs.map ht) h := by unfold asL itemsD; simp only [show h[m]? = some (.lst (cs.map ht)) from a]
  simp [m__law_again, b__law_again, aL]
  generalize eh1 : h ++ [EO.lst (cs.map ht)] = h1
  have k1 : Keep h h1 := eh1 ▸ Keep.add
  have a1 : At h1 m (cs.map ht) := k1 _ _ a
  have b1 : At h1 h.length (cs.map ht) := eh1 ▸ At.new
  simp [t1__law_again]
  refine closed_due_ok a1 (by omega) ok fun F h2 k2 lF dF => ?_
  simp [t2__law_again]
  have lh1 : h.length < h1.length := b1.lt
  refine closed_ok (k2 _ _ b1) (by omega) ?_
  have k3 : Keep h2 (h2 ++ [EO.lst ((cs.map cl).map ht)]) := Keep.add
  have f3 : At (h2 ++ [EO.lst ((cs.map cl).map ht)]) h2.length ((cs.map cl).map ht) := At.new
  have a3 := k3 _ _ (k2 _ _ a1)
  have b3 := k3 _ _ (k2 _ _ b1)
  have d3 := k3 _ _ dF
  have lh2 : F < h2.length := dF.lt
  have lh2' : h.length < h2.length := At.lt (k2 _ _ b1)
  generalize h2 ++ [EO.lst ((cs.map cl).map ht)] = h3 at *
  generalize hG : h2.length = G at *
  have ne3 : opE oNe (.ref h.length) (.ref m) h3 = .ok (.bl (!decide (cs = cs))) h3 := op_ne_l (α := P4 × Int) b3 a3 (by decide)
  have is3 := is_eq f3 d3 okc
  simp [t3__law_again, ne3, is3, g_closed_0_conditions]
  refine closed_ok f3 (by simp; omega) ?_
  rw [clcl]
  have k4 : Keep h3 (h3 ++ [EO.lst ((cs.map cl).map ht)]) := Keep.add
  have is4 := is_eq (h := h3 ++ [EO.lst ((cs.map cl).map ht)]) (m := h3.length) At.new (k4 _ _ d3) okc
  simp at is4
  simp [is4]
  have a4 := k4 _ _ a3
  have b4 := k4 _ _ b3
  have d4 := k4 _ _ d3
  have f4 := k4 _ _ f3
  have kh4 : Keep h h3 → Keep h (h3 ++ [EO.lst ((cs.map cl).map ht)]) := fun k => k.trans k4
  have k03 : Keep h h3 := by
    have := k1.trans k2
    intro i o e
    exact k3 _ _ (this i o e)
  have k04 := kh4 k03
  rw [show cs.map (ht ∘ cl) = (cs.map cl).map ht by rw [List.map_map]]
  generalize h3 ++ [EO.lst ((cs.map cl).map ht)] = h4 at *
  have lhG : h.length < G := by omega
  have tl4 : tyN h4 (.ref G) = some "list" := by simp [tyN, show h4[G]? = some (.lst _) from f4]
  simp [t4__law_again, tl4, fAppend_r f4 (sz_lt (by simp; omega))]
  generalize eh5 : h4.set G _ = h5
  have a5 : At h5 m (cs.map ht) := eh5 ▸ At.set_ne a4 (by omega)
  have b5 : At h5 h.length (cs.map ht) := eh5 ▸ At.set_ne b4 (by omega)
  have d5 : At h5 F ((cs.map cl).map ht) := eh5 ▸ At.set_ne d4 (by omega)
  have k05 : Keep h h5 := eh5 ▸ k04.set (by omega)
  have ne5 : opE oNe (.ref h.length) (.ref m) h5 = .ok (.bl (!decide (cs = cs))) h5 := op_ne_l (α := P4 × Int) b5 a5 (by decide)
  simp [t5__law_again, ne5]
  refine closed_ok b5 (by omega) ?_
  have k6 : Keep h5 (h5 ++ [EO.lst ((cs.map cl).map ht)]) := Keep.add
  have is6 := is_eq (h := h5 ++ [EO.lst ((cs.map cl).map ht)]) (m := h5.length) At.new (k6 _ _ d5) okc
  simp at is6
  simp [is6]
  rw [show cs.map (ht ∘ cl) = (cs.map cl).map ht by rw [List.map_map]]
  have a6 := k6 _ _ a5
  have b6 := k6 _ _ b5
  have d6 := k6 _ _ d5
  have k06 := k05.trans k6
  generalize h5 ++ [EO.lst ((cs.map cl).map ht)] = h6 at *
  refine held_ok b6 (by omega) ok z fun h7 k7 => ?_
  have a7 := k7 _ _ a6
  have b7 := k7 _ _ b6
  have d7 := k7 _ _ d6
  have k07 := k06.trans k7
  have ne7 : opE oNe (.ref h.length) (.ref m) h7 = .ok (.bl (!decide (cs = cs))) h7 := op_ne_l (α := P4 × Int) b7 a7 (by decide)
  have eq7 : opE oEq (.ref h.length) (.ref m) h7 = .ok (.bl (decide (cs = cs))) h7 := op_eq_l (α := P4 × Int) b7 a7 (by decide)
  by_cases c39 : 39 < cs.length
  · have c39' : (39 : Int) < (cs.length : Int) := by omega
    simp [t6__law_again, ne7, eq7, fLen_r b7, c39']
    exact q _ k07
  · have c39' : ¬ ((39 : Int) < (cs.length : Int)) := by omega
    have tl7 : tyN h7 (.ref h.length) = some "list" := by simp [tyN, show h7[h.length]? = some (.lst _) from b7]
    simp [t6__law_again, ne7, fLen_r b7, c39', t7__law_again, tl7, fAppend_r b7 (sz_lt (by simp; omega))]
    generalize eh8 : h7.set h.length _ = h8
    have lF' : h.length < F := by omega
    have b8 : At h8 h.length ((cs ++ [c]).map ht) := by
      have := At.set_self b7 (ys := (cs ++ [c]).map ht)
      rw [← eh8]
      simpa using this
    have a8 : At h8 m (cs.map ht) := eh8 ▸ At.set_ne a7 (by omega)
    have d8 : At h8 F ((cs.map cl).map ht) := eh8 ▸ At.set_ne d7 (by omega)
    have k08 : Keep h h8 := eh8 ▸ k07.set (Nat.le_refl _)
    have ok8 : ∀ x ∈ cs ++ [c], Cok 133 x := fun x hx => by
      rcases List.mem_append.mp hx with hx | hx
      · exact ok x hx
      · rw [List.mem_singleton.mp hx]; exact kc
    have okc8 : ∀ x ∈ (cs ++ [c]).map cl, Cok 133 x := fun x hx => by
      obtain ⟨y, hy, rfl⟩ := List.mem_map.mp hx
      exact (ok8 y hy).cl
    simp [t8__law_again]
    refine closed_ok b8 (by simp; omega) ?_
    have f9 : At (h8 ++ [EO.lst (((cs ++ [c]).map cl).map ht)]) h8.length (((cs ++ [c]).map cl).map ht) := At.new
    have k9 : Keep h8 (h8 ++ [EO.lst (((cs ++ [c]).map cl).map ht)]) := Keep.add
    have a9 := k9 _ _ a8
    have b9 := k9 _ _ b8
    have d9 := k9 _ _ d8
    have k09 := k08.trans k9
    generalize hG9 : h8.length = G9 at *
    generalize h8 ++ [EO.lst (((cs ++ [c]).map cl).map ht)] = h9 at *
    simp
    have n10 : At (h9 ++ [EO.lst [ht c]]) h9.length ([c].map ht) := At.new
    have k10 : Keep h9 (h9 ++ [EO.lst [ht c]]) := Keep.add
    refine closed_due_ok n10 (by simp) (fun x hx => by rw [List.mem_singleton.mp hx]; exact kc) fun F2 h11 k11 lF2 dF2 => ?_
    have d11 := k11 _ _ (k10 _ _ d9)
    have b11 := k11 _ _ (k10 _ _ b9)
    have a11 := k11 _ _ (k10 _ _ a9)
    have f11 := k11 _ _ (k10 _ _ f9)
    have k011 := (k09.trans k10).trans k11
    have cat := op_add_l d11 dF2 (sz_ok (by simp; omega))
    simp at cat
    have k12 : Keep h11 (h11 ++ [EO.lst ((((cs ++ [c]).map cl)).map ht)]) := Keep.add
    have n12 : At (h11 ++ [EO.lst ((((cs ++ [c]).map cl)).map ht)]) h11.length (((cs ++ [c]).map cl).map ht) := At.new
    have is12 := is_eq (k12 _ _ f11) n12 okc8
    simp at is12
    simp [cat, is12]
    have b12 := k12 _ _ b11
    have a12 := k12 _ _ a11
    have d12 := k12 _ _ d11
    have k012 := k011.trans k12
    simp at b12 a12 d12 k012
    generalize h11 ++ _ = h12 at *
    refine held_ok (cs := cs ++ [c]) (by simpa using b12) (by simp; omega) ok8 z fun h13 k13 => ?_
    have a13 : At h13 m (cs.map ht) := k13 _ _ a12
    have d13 : At h13 F ((cs.map cl).map ht) := k13 _ _ (by simpa using d12)
    simp [t9__law_again]
    refine closed_ok a13 (by omega) ?_
    have k14 : Keep h13 (h13 ++ [EO.lst ((cs.map cl).map ht)]) := Keep.add
    have is14 := is_eq (h := h13 ++ [EO.lst ((cs.map cl).map ht)]) (m := h13.length) At.new (k14 _ _ d13) okc
    simp at is14
    simp [is14]
    have := q _ ((k012.trans k13).trans k14)
    simpa using this
end
end Mv
namespace Mv
open PySem PySem.Spec PyProof.Rows L2 Sm
variable {n : Nat} {h : EH} {Q : D → EH → Prop} {E : Ex → EH → Prop}
theorem few_spec {h : EH} {n : Nat} (S : Store h n) (most : Int) (h0 : 0 ≤ most) : ∃ r h', m__law_few [.ref n, .int most] h = .ok (.int r) h' ∧ 0 ≤ r ∧ r ≤ most ∧ Dr n h h' := by
  obtain ⟨k, h1, e1, a1, b1, d1⟩ := take_spec S 8 (by omega)
  by_cases c : k = 0 ∨ most < 1
  · refine ⟨0, h1, ?_, by omega, by omega, d1⟩
    rcases c with c | c
    · simp [m__law_few, b__law_few, t1__law_few, e1, c]
    · by_cases c0 : k = 0 <;> simp [m__law_few, b__law_few, t1__law_few, e1, c, c0]
  · have c0 : ¬ k = 0 := fun z => c (.inl z)
    have c1 : ¬ most < 1 := fun z => c (.inr z)
    by_cases c2 : k = 1
    · exact ⟨most, h1, by simp [m__law_few, b__law_few, t1__law_few, t2__law_few, e1, c0, c1, c2], by omega, by omega, d1⟩
    · obtain ⟨r, h2, e2, a2, b2, d2⟩ := take_spec d1.st (min 4 most) (by omega)
      exact ⟨1 + r, h2, by simp [m__law_few, b__law_few, t1__law_few, t2__law_few, t3__law_few, e1, e2, c0, c1, c2], by omega, by omega, d1.trans d2⟩
theorem few_ok (S : Store h n) {M : Int} (h0 : 0 ≤ M) (k : ∀ (r : Int) h', 0 ≤ r → r ≤ M → Dr n h h' → Q (.int r) h') : Wp (m__law_few [.ref n, .int M] h) Q E := by
  obtain ⟨r, h', e, a, b, d⟩ := few_spec S M h0
  rw [e]; exact k r h' a b d
end Mv
namespace Mv
open PySem PySem.Spec PyProof.Rows L2 Sm
variable {n : Nat} {h : EH} {Q : D → EH → Prop} {E : Ex → EH → Prop}
theorem ratio_ok (S : Store h n) (k : ∀ x h', Sz 5 x → Dr n h h' → Q (rt x) h') : Wp (m__law_ratio [.ref n] h) Q E := by
  simp [m__law_ratio, b__law_ratio, t1__law_ratio, t2__law_ratio, t3__law_ratio]
  refine take_ok S (by decide) fun r1 h1 a1 b1 d1 => ?_
  simp
  split
  · refine take_ok d1.st (by decide) fun r2 h2 a2 b2 d2 => ?_
    try simp [sz_ok]
    exact k ((r2 - 1 : Int) : Rat) _ (Sz.int (n := 5) (by omega) (by decide)) (d1.trans d2)
  · split
    · refine take_ok d1.st (by decide) fun r2 h2 a2 b2 d2 => ?_
      try simp [sz_ok]
      exact k ((r2 - 6 : Int) : Rat) _ (Sz.int (n := 5) (by omega) (by decide)) (d1.trans d2)
    · refine take_ok d1.st (by decide) fun r2 h2 a2 b2 d2 => ?_
      simp
      refine take_ok d2.st (by decide) fun r3 h3 a3 b3 d3 => ?_
      simp
      exact frac_ok (s := 5) (by omega) (by omega) (by omega) (by decide) fun z => k _ _ z ((d1.trans d2).trans d3)
end Mv
namespace Mv
open PySem PySem.Spec PyProof.Rows L2 Sm
variable {n : Nat} {h : EH} {Q : D → EH → Prop} {E : Ex → EH → Prop}
theorem point_ok (S : Store h n) (k : ∀ v h', Vz 5 v → Dr n h h' → Q (vt v) h') : Wp (m__law_point [.ref n] h) Q E := by
  simp [m__law_point, b__law_point, t1__law_point, t2__law_point, t3__law_point, t4__law_point, t5__law_point]
  refine take_ok S (by decide) fun r1 h1 a1 b1 d1 => ?_
  by_cases c0 : r1 = 0
  · simp [c0]
    refine take_ok d1.st (by decide) fun r2 h2 a2 b2 d2 => ?_
    try simp [sz_ok]
    refine take_ok d2.st (by decide) fun r3 h3 a3 b3 d3 => ?_
    try simp [sz_ok]
    refine take_ok d3.st (by decide) fun r4 h4 a4 b4 d4 => ?_
    try simp [sz_ok]
    exact k ⟨(r2 - 1 : Int), (r3 - 1 : Int), (r4 - 1 : Int)⟩ _ ⟨Sz.int (n := 5) (by omega) (by decide), Sz.int (n := 5) (by omega) (by decide), Sz.int (n := 5) (by omega) (by decide)⟩ (((d1.trans d2).trans d3).trans d4)
  · simp [c0]
    refine ratio_ok d1.st fun x h2 zx d2 => ?_
    by_cases c1 : r1 = 1
    · simp [c1, sz_ok]
      exact k ⟨x, x, x⟩ _ ⟨zx, zx, zx⟩ (d1.trans d2)
    · simp [c1]
      refine ratio_ok d2.st fun y h3 zy d3 => ?_
      try simp
      refine ratio_ok d3.st fun z h4 zz d4 => ?_
      try simp [sz_ok]
      exact k ⟨x, y, z⟩ _ ⟨zx, zy, zz⟩ (((d1.trans d2).trans d3).trans d4)
end Mv
namespace Mv
open PySem PySem.Spec PyProof.Rows L2 Sm
variable {n : Nat} {h : EH} {Q : D → EH → Prop} {E : Ex → EH → Prop}
-- imports Q3 c_few c_point
def bdN (len : Nat) : Nat → Nat
  | 0 => 0
  | k + 1 => 1 + len * bdN len k
theorem sum_le {f : D → Nat} {b : Nat} : ∀ {xs : List D}, (∀ x ∈ xs, f x ≤ b) → (xs.map f).sum ≤ xs.length * b
  | [], _ => by simp
  | x :: xs, h => by
    have := sum_le (xs := xs) fun y hy => h y (List.mem_cons_of_mem _ hy)
    have := h x (List.mem_cons_self ..)
    simp only [List.map_cons, List.sum_cons, List.length_cons, Nat.succ_mul]
    omega
theorem spN_le {B len : Nat} {Z : Nat → Prop} {P : Str → Prop} : ∀ {k : Nat} {h : EH} {d : D}, Wf B len Z P k h d → spN k h d ≤ bdN len k
  | 0, _, _, w => w.elim
  | k + 1, h, d, w => by
    unfold Wf at w
    unfold spN bdN
    cases d with
    | tup xs =>
      have := sum_le (f := spN k h) (b := bdN len k) (xs := xs) fun x hx => spN_le (w.2 x hx)
      have := Nat.mul_le_mul_right (bdN len k) w.1
      simp only; omega
    | ref m =>
      obtain ⟨xs, a, _, l, w⟩ := w
      have := sum_le (f := spN k h) (b := bdN len k) (xs := xs) fun x hx => spN_le (w x hx)
      have := Nat.mul_le_mul_right (bdN len k) l
      simp only [show h[m]? = some (.lst xs) from a]; omega
    | _ => simp only; omega
theorem txn {B : Nat} : Tx B (fun _ => False) fun _ => True := ⟨fun x hx => hx.elim, fun _ _ => trivial, trivial, fun _ _ => trivial, fun _ _ => trivial, fun _ _ => trivial, fun _ _ => trivial, trivial, trivial⟩
abbrev ZW : Nat → Prop := fun m => m = 1
theorem bent_ok {h : EH} {d : D} {Q : D → EH → Prop} {E : Ex → EH → Prop} (S : Store h 1) (w : Wf 140 4 ZW (fun _ => False) 4 h d) (q : ∀ d' h', Dr 1 h h' → Wf 140 200 ZW (fun _ => True) 6 h' d' → Q d' h') : Wp (m__law_bent [.ref 1, d] h) Q E := by
  have e : m__law_spots [d] h = .ok (.int (spN 4 h d : Nat)) h := spots_ok 4 6 (by decide) w
  have l := spN_le w
  have : bdN 4 4 = 85 := by decide
  simp [m__law_bent, b__law_bent, e]
  refine take_nat S (by omega) fun at_ h1 ha d1 => ?_
  try simp
  refine take_nat d1.st (by decide) fun kd h2 hk d2 => ?_
  try simp
  have d02 := d1.trans d2
  refine bend_ok txn (by decide) (by decide) (by decide) (by decide) (by omega) 4 6 (by decide) (by decide) (fun q e => by rw [e]; exact d2.st.lt) (w.dr rfl d02) fun bent h3 k3 wb => ?_
  exact q _ _ (d02.keep k3) (Wf.mono (by decide) (by decide) (fun _ q => q) (fun _ _ z a => ⟨a, z⟩) (by decide) wb)
theorem points_ok {n : Nat} {h : EH} {e : Sl} {Q : List D → EH → Prop} {E : Ex → EH → Prop} (S : Store h n) (e1 : e[1]? = some (some (.ref n))) (q : ∀ v0 v1 v2 h', Vz 5 v0 → Vz 5 v1 → Vz 5 v2 → Dr n h h' → Q [vt v0, vt v1, vt v2] h') :
    Wp (runC (itR 0 1 3) [4] (gVar 4) bYes (eCall m__law_point (aCons (eVar 1) aNil)) e h) Q E := by
  refine wp_runCR (fun j r h' => Dr n h h' ∧ ∃ vs : List V3, r = vs.map vt ∧ vs.length = j ∧ ∀ v ∈ vs, Vz 5 v) ⟨Dr.refl S, [], rfl, rfl, by simp⟩ ?_ ?_
  · rintro j r h' hj ⟨d, vs, rfl, hl, zv⟩
    have ev : eVar 1 ((wipeD e [4]).set 4 (some (.int (0 + j * 1)))) h' = .ok (.ref n) h' := by
      simp [eVar, wipeD, e1]
    simp [wipeD] at ev ⊢
    simp [ev]
    refine point_ok d.st fun v h2 z d2 => ⟨sz_lt (by simp; omega), d.trans d2, vs ++ [v], by simp, by simp [hl], fun x hx => ?_⟩
    rcases List.mem_append.mp hx with hx | hx
    · exact zv x hx
    · rw [List.mem_singleton.mp hx]; exact z
  · rintro r h' ⟨d, vs, rfl, hl, zv⟩
    match vs, hl with
    | [a, b, c], _ => exact q a b c h' (zv a (by simp)) (zv b (by simp)) (zv c (by simp)) d
end Mv
namespace Mv
open PySem PySem.Spec PyProof.Rows L2 Sm
variable {n : Nat} {h : EH} {Q : D → EH → Prop} {E : Ex → EH → Prop}
-- imports Q4
theorem law_ok (ns : List Int) (hl : ns.length ≤ 63) : ∃ h', m_law [.rol (ns.map Sm.D.int)] [] = .ok (.bl true) h' := by
  suffices w : Wp (m_law [.rol (ns.map Sm.D.int)] []) (fun d _ => d = .bl true) nE by
    obtain ⟨a, h', e, rfl⟩ := w.get
    exact ⟨h', e⟩
  obtain ⟨h1, e1, S, _⟩ := store_spec ns [] (by omega)
  simp [m_law, b_law, t1_law, e1]
  refine few_ok S (by decide) fun f h2 f0 f1 d2 => ?_
  try simp
  refine take_nat d2.st (by decide) fun r1 h3 hr1 d3 => ?_
  try simp
  refine take_nat d3.st (by decide) fun r2 h4 hr2 d4 => ?_
  have b1 : Bn 1 (r1 : Int) := by show (r1 : Int).natAbs < 2 ^ 1; omega
  have b2 : Bn 3 (r2 : Int) := by show (r2 : Int).natAbs < 2 ^ 3; omega
  have p0 : 0 ≤ (r1 : Int) * r2 := Int.mul_nonneg (by omega) (by omega)
  simp [op_mul_i, Bn.ok b1 b2 (by decide), fMin2, fI2]
  obtain ⟨many, em⟩ := Int.eq_ofNat_of_zero_le (show (0 : Int) ≤ min 40 (f + r1 * r2) by omega)
  have hm : many ≤ 40 := by omega
  rw [em]
  simp [t2_law]
  refine points_ok d4.st rfl fun v0 v1 v2 h5 z0 z1 z2 d5 => ?_
  have aP : At (h5 ++ [EO.lst [vt v0, vt v1, vt v2]]) h5.length ([v0, v1, v2].map vt) := At.new
  have d6 : Dr 1 h5 (h5 ++ [EO.lst [vt v0, vt v1, vt v2]]) := (Dr.refl d5.st).add
  have hP : h5.length ≠ 1 := by have := d5.st.lt; omega
  have zv : ∀ v ∈ [v0, v1, v2], Vz 5 v := fun v hv => by
    simp at hv
    rcases hv with rfl | rfl | rfl <;> assumption
  generalize eP : h5.length = Pn at *
  generalize h5 ++ [EO.lst [vt v0, vt v1, vt v2]] = h6 at *
  simp [t3_law]
  refine listed_ok d6.st aP hP (by simp) zv (by omega) fun F cs h7 lF d7 aF hlF ok => ?_
  have hF : F ≠ 1 := by have := d6.st.lt; omega
  simp [t4_law]
  refine condition_ok d7.st (d7.at hP aP) hP (by simp) (by simp) zv fun c h8 kc d8 => ?_
  have aP8 := d8.at hP (d7.at hP aP)
  have aF8 := d8.at hF aF
  have i0 : opE oIx (.ref Pn) (.int 0) h8 = .ok (vt v0) h8 := op_ix_at (k := 0) aP8 rfl
  simp [t5_law, i0]
  refine again_ok aF8 (by omega) ok kc z0 fun h9 k9 => ?_
  have d9 : Dr 1 h7 h9 := d8.keep k9
  have aP9 := k9 _ _ aP8
  have aF9 := k9 _ _ aF8
  simp [t6_law, q0_law]
  refine point_ok d9.st fun v3 h10 z3 d10 => ?_
  have aP10 := d10.at hP aP9
  have aF10 := d10.at hF aF9
  try simp
  have k11 : Keep h10 (h10 ++ [EO.lst [vt v3]]) := Keep.add
  have n11 : At (h10 ++ [EO.lst [vt v3]]) h10.length [vt v3] := At.new
  have cat := op_add_l (k11 _ _ aP10) n11 (sz_ok (by simp))
  try simp at cat
  simp [cat]
  have a12 : At (h10 ++ [EO.lst [vt v3], EO.lst [vt v0, vt v1, vt v2, vt v3]]) (h10.length + 1) ([v0, v1, v2, v3].map vt) := at_new (i := 1) rfl
  have d12 : Dr 1 h10 (h10 ++ [EO.lst [vt v3], EO.lst [vt v0, vt v1, vt v2, vt v3]]) := (Dr.refl d10.st).add
  generalize h10 ++ [EO.lst [vt v3], EO.lst [vt v0, vt v1, vt v2, vt v3]] = h12 at *
  generalize h10.length + 1 = P4n at *
  have aF12 := d12.at hF aF10
  have zv4 : ∀ v ∈ [v0, v1, v2, v3], Vz 5 v := fun v hv => by
    simp at hv
    rcases hv with rfl | rfl | rfl | rfl <;> assumption
  refine ws_runH (xs := [v0, v1, v2, v3].map vt) (fun j e h' => Keep h12 h' ∧ ∃ d, e = [some (.rol (ns.map .int)), some (.ref 1), some (.int (many : Int)), some (.ref Pn), none, some (.ref F), some (ht c), d, none, none]) (fun j e h' p => p.1 _ _ a12) ⟨Keep.refl, _, rfl⟩ ?_ ?_
  · rintro j e h' hj ⟨kp, d, rfl⟩
    have hj' : j < [v0, v1, v2, v3].length := by simpa using hj
    rw [List.getElem_map]
    have zj := zv4 _ (List.getElem_mem hj')
    generalize [v0, v1, v2, v3][j] = v at zj
    simp [l0_law]
    refine held_ok (kp _ _ aF12) (by omega) ok zj fun h2 k2 => ?_
    simp
    exact kp.trans k2
  rintro e h13 ⟨k13, d, rfl⟩
  have d13 : Dr 1 h10 h13 := d12.keep k13
  have aF13 := k13 _ _ aF12
  have len13 := d13.st.lt
  -- the values
  have wfh : ∀ (h : EH) (x : D), x ∈ cs.map ht → Wf 140 4 ZW (fun _ => False) 3 h x := fun h x hx => by
    obtain ⟨c', hc', rfl⟩ := List.mem_map.mp hx
    exact wf_ht (ok c' hc') (by decide) (by decide) (by decide)
  simp [t7_law, slE_r aF13]
  have w14 : Wf 140 4 ZW (fun _ => False) 4 (h13 ++ [EO.lst (cutD (cs.map ht) none (some 3))]) (.ref h13.length) :=
    ⟨_, At.new, fun e => by have : h13.length = 1 := e; omega, by
      rw [show (3 : Int) = ((3 : Nat) : Int) from rfl, cutD_hi, List.length_take]; omega, fun x hx => wfh _ x (cut_sub.2 x hx)⟩
  refine bent_ok (d13.add).st w14 fun bent1 h14 d14 wb1 => ?_
  have d14' : Dr 1 h13 h14 := (Dr.add (Dr.refl d13.st)).trans d14
  have aF14 := d14'.at hF aF13
  have l14 := d14'.st.lt
  simp [slE_r aF14]
  have w15 : Wf 140 4 ZW (fun _ => False) 4 (h14 ++ [EO.lst (cutD (cs.map ht) (some (-2)) none)]) (.ref h14.length) :=
    ⟨_, At.new, fun e => by have : h14.length = 1 := e; omega, by
      unfold Sm.cutD
      rw [List.length_take, List.length_drop]
      simp [HT.sIx]
      omega, fun x hx => wfh _ x (cut_sub.2 x hx)⟩
  refine bent_ok (d14'.add).st w15 fun bent2 h15 d15 wb2 => ?_
  have d15' : Dr 1 h14 h15 := (Dr.add (Dr.refl d14'.st)).trans d15
  have l15 := d15'.st.lt
  try simp
  have w16 : Wf 140 4 ZW (fun _ => False) 4 (h15 ++ [EO.lst [ht c]]) (.ref h15.length) :=
    ⟨_, At.new, fun e => by have : h15.length = 1 := e; omega, by simp, fun x hx => by
      rw [List.mem_singleton.mp hx]
      exact wf_ht kc (by decide) (by decide) (by decide)⟩
  refine bent_ok (d15'.add).st w16 fun bent3 h16 d16 wb3 => ?_
  have d16' : Dr 1 h15 h16 := (Dr.add (Dr.refl d15'.st)).trans d16
  have l16 := d16'.st.lt
  have wb1' : Wf 140 200 ZW (fun _ => True) 6 h16 bent1 := (wb1.dr rfl d15').dr rfl d16'
  have wb2' : Wf 140 200 ZW (fun _ => True) 6 h16 bent2 := wb2.dr rfl d16'
  have aF16 := d16'.at hF (d15'.at hF aF14)
  simp [t8_law, q1_law]
  have d17 : Dr 1 h16 (h16 ++ [EO.lst [D.ref F, bent1, bent2, bent3], EO.lst [ht c]]) := Dr.add (Dr.refl d16'.st)
  have nV : At (h16 ++ [EO.lst [D.ref F, bent1, bent2, bent3], EO.lst [ht c]]) h16.length [D.ref F, bent1, bent2, bent3] := at_new (i := 0) rfl
  have nM : At (h16 ++ [EO.lst [D.ref F, bent1, bent2, bent3], EO.lst [ht c]]) (h16.length + 1) [ht c] := at_new (i := 1) rfl
  generalize h16 ++ [EO.lst [D.ref F, bent1, bent2, bent3], EO.lst [ht c]] = h17 at *
  refine take_nat d17.st (by decide) fun r h18 hr d18 => ?_
  have hr : r < 60 := by omega
  have dn : ∀ i, h16.length ≤ i → i ≠ 1 := fun i hi => by omega
  have nV8 := d18.at (dn _ (Nat.le_refl _)) nV
  have nM8 := d18.at (dn _ (by omega)) nM
  have e41 : (41 : Int) + r = ((41 + r : Nat) : Int) := by omega
  try simp
  rw [e41]
  rw [op_rep_r nM8 (by omega) (by simp; omega)]
  try simp
  have d19 : Dr 1 h18 (h18 ++ [EO.lst (List.replicate (41 + r) (ht c)), EO.lst [D.ref h18.length, ht c]]) := Dr.add (Dr.refl d18.st)
  have nR : At (h18 ++ [EO.lst (List.replicate (41 + r) (ht c)), EO.lst [D.ref h18.length, ht c]]) h18.length (List.replicate (41 + r) (ht c)) := at_new (i := 0) rfl
  have nT : At (h18 ++ [EO.lst (List.replicate (41 + r) (ht c)), EO.lst [D.ref h18.length, ht c]]) (h18.length + 1) [D.ref h18.length, ht c] := at_new (i := 1) rfl
  have l18 := d18.st.lt
  have hR : h18.length ≠ 1 := by omega
  generalize h18 ++ [EO.lst (List.replicate (41 + r) (ht c)), EO.lst [D.ref h18.length, ht c]] = h19 at *
  generalize h18.length = R at *
  have nV9 := d19.at (dn _ (Nat.le_refl _)) nV8
  have cat2 := op_add_l nV9 nT (sz_ok (by simp))
  try simp at cat2
  simp [cat2]
  have d20 : Dr 1 h19 (h19 ++ [EO.lst [D.ref F, bent1, bent2, bent3, D.ref R, ht c]]) := Dr.add (Dr.refl d19.st)
  have nA : At (h19 ++ [EO.lst [D.ref F, bent1, bent2, bent3, D.ref R, ht c]]) h19.length [D.ref F, bent1, bent2, bent3, D.ref R, ht c] := At.new
  have nR20 := d20.at hR nR
  have dAll : Dr 1 h16 (h19 ++ [EO.lst [D.ref F, bent1, bent2, bent3, D.ref R, ht c]]) := ((d17.trans d18).trans d19).trans d20
  have aF20 := dAll.at hF aF16
  generalize h19 ++ [EO.lst [D.ref F, bent1, bent2, bent3, D.ref R, ht c]] = h20 at *
  generalize h19.length = A at *
  have wF : Wf 140 200 ZW (fun _ => True) 6 h20 (.ref F) := ⟨_, aF20, hF, by simp; omega, fun x hx => Wf.mono (by decide) (by decide) (fun _ q => q.elim) (fun _ _ z a => ⟨a, z⟩) (by decide) (wfh h20 x hx)⟩
  have wc : Wf 140 200 ZW (fun _ => True) 3 h20 (ht c) := wf_ht kc (by decide) (by decide) (by decide)
  have wR : Wf 140 200 ZW (fun _ => True) 6 h20 (.ref R) := ⟨_, nR20, hR, by simp; omega, fun x hx => by
    simp at hx
    rw [hx]
    exact wc.up (by decide)⟩
  have wA : ∀ x ∈ [D.ref F, bent1, bent2, bent3, D.ref R, ht c], Wf 140 200 ZW (fun _ => True) 6 h20 x := fun x hx => by
    simp only [List.mem_cons, List.not_mem_nil, or_false] at hx
    rcases hx with rfl | rfl | rfl | rfl | rfl | rfl
    · exact wF
    · exact wb1'.dr rfl dAll
    · exact wb2'.dr rfl dAll
    · exact wb3.dr rfl dAll
    · exact wR
    · exact wc.up (by decide)
  refine ws_runH (xs := [D.ref F, bent1, bent2, bent3, D.ref R, ht c]) (fun j e h' => h' = h20 ∧ ∃ d9, e = [some (.rol (ns.map .int)), some (.ref 1), some (.int (many : Int)), some (.ref Pn), none, some (.ref F), some (ht c), d, some (.ref h16.length), d9]) (fun j e h' p => by rw [p.1]; exact nA) ⟨rfl, _, rfl⟩ ?_ ?_
  · rintro j e h' hj ⟨rfl, d9, rfl⟩
    obtain ⟨b, eb1, eb2⟩ := is_conditions_w (n := 3) (by decide) (wA _ (List.getElem_mem hj))
    simp [l1_law, eb1, eb2, bool_same]
  rintro e h' ⟨rfl, d9, rfl⟩
  have n21 : At (h' ++ [EO.lst [ht c]]) h'.length [ht c] := At.new
  have cat3 := op_add_l (At.add (o := [EO.lst [ht c]]) aF20) n21 (sz_ok (by simp; omega))
  try simp at cat3
  have ok2 : ∀ x ∈ cs ++ [c], Cok 133 x := fun x hx => by
    rcases List.mem_append.mp hx with hx | hx
    · exact ok x hx
    · rw [List.mem_singleton.mp hx]; exact kc
  have n22 : At (h' ++ [EO.lst [ht c], EO.lst ((cs ++ [c]).map ht)]) (h'.length + 1) ((cs ++ [c]).map ht) := at_new (i := 1) rfl
  have e22 := is_conditions_at (by simp; omega) n22 (wf_hts ok2)
  rw [all_cond ok2] at e22
  try simp at e22
  simp [t9_law, cat3, g_is_conditions_0_value, e22, bool_same]
end Mv
namespace Mv
open PySem PySem.Spec PyProof.Rows L2 L2H Sm
section
variable {P : Program} {w : World} {K : PySem.W.Frag} {mg : Str → Option Value} {base : Heap}
theorem sc_common_divisor : FnScope ["m", "n", "high", "low"] ["m", "n"] (defScope (topS 1)) := ⟨rfl, rfl, rfl, by decide +kernel, rfl, by decide +kernel, by decide +kernel⟩
theorem ok_common_divisor {f : Addr} {fd : FuncData} {dvs : List V} (F : FunD K "common_divisor" "common_divisor" (defArgs (topS 1)) (defBody (topS 1)) (defScope (topS 1)) dvs [] f fd) (z_abs : mg "abs" = none) : FnOk P w K mg base (L2N.CX P w) 1 f fd ["m", "n"] (spD K mg m_common_divisor) :=
  fnD (N := ["m", "n", "high", "low"]) F sc_common_divisor fun cdv A outer s H E hr => by
    have nd := (sc_common_divisor).nd
    have tk : L2N.Takes (cxOf (L2N.CX P w) P w K mg base ["m", "n", "high", "low"] "common_divisor" (defScope (topS 1)) f cdv A outer s H E) (Wd E) := L2N.takes_of rfl rfl rfl rfl
    have hp : PassesOwn (model P w) (A.deeper (envOfC "common_divisor" (defScope (topS 1)) s.heap.objs.size f cdv)) (envOfC "common_divisor" (defScope (topS 1)) s.heap.objs.size f cdv) (cxOf (L2N.CX P w) P w K mg base ["m", "n", "high", "low"] "common_divisor" (defScope (topS 1)) f cdv A outer s H E).xe := passes_of (X := cxOf (L2N.CX P w) P w K mg base ["m", "n", "high", "low"] "common_divisor" (defScope (topS 1)) f cdv A outer s H E) rfl
    exact (ss_cons (ss_par 2 3 rfl nd (sa_cons (se_callB cr_abs z_abs (sa_cons (se_var 0) sa_nil)) (sa_cons (se_callB cr_abs z_abs (sa_cons (se_var 1) sa_nil)) sa_nil))) (ss_cons (ss_while hp (sb_cmp or_gt (se_var 3) se_int) (ss_one (ss_par 2 3 rfl nd (sa_cons (se_var 3) (sa_cons (se_bin or_mod (se_var 2) (se_var 3)) sa_nil))))) (ss_one (ss_ret (se_var 2)))))
theorem sc_divisor_of_four : FnScope ["a", "b", "c", "d"] ["a", "b", "c", "d"] (defScope (topS 2)) := ⟨rfl, rfl, rfl, by decide +kernel, rfl, by decide +kernel, by decide +kernel⟩
theorem ok_divisor_of_four {f : Addr} {fd : FuncData} {dvs : List V} (F : FunD K "divisor_of_four" "divisor_of_four" (defArgs (topS 2)) (defBody (topS 2)) (defScope (topS 2)) dvs [] f fd) (c0 : CallP P w K mg base "common_divisor" 1 m_common_divisor []) : FnOk P w K mg base (L2N.CX P w) 2 f fd ["a", "b", "c", "d"] (spD K mg m_divisor_of_four) :=
  fnD (N := ["a", "b", "c", "d"]) F sc_divisor_of_four fun cdv A outer s H E hr => by
    have nd := (sc_divisor_of_four).nd
    have tk : L2N.Takes (cxOf (L2N.CX P w) P w K mg base ["a", "b", "c", "d"] "divisor_of_four" (defScope (topS 2)) f cdv A outer s H E) (Wd E) := L2N.takes_of rfl rfl rfl rfl
    have hp : PassesOwn (model P w) (A.deeper (envOfC "divisor_of_four" (defScope (topS 2)) s.heap.objs.size f cdv)) (envOfC "divisor_of_four" (defScope (topS 2)) s.heap.objs.size f cdv) (cxOf (L2N.CX P w) P w K mg base ["a", "b", "c", "d"] "divisor_of_four" (defScope (topS 2)) f cdv A outer s H E).xe := passes_of (X := cxOf (L2N.CX P w) P w K mg base ["a", "b", "c", "d"] "divisor_of_four" (defScope (topS 2)) f cdv A outer s H E) rfl
    exact (ss_one (ss_ret (se_p c0 tk hr (sa_cons (se_p c0 tk hr (sa_cons (se_var 0) (sa_cons (se_var 1) sa_nil))) (sa_cons (se_p c0 tk hr (sa_cons (se_var 2) (sa_cons (se_var 3) sa_nil))) sa_nil)))))
theorem sc_leading : FnScope ["a", "b", "c"] ["a", "b", "c"] (defScope (topS 3)) := ⟨rfl, rfl, rfl, by decide +kernel, rfl, by decide +kernel, by decide +kernel⟩
theorem ok_leading {f : Addr} {fd : FuncData} {dvs : List V} (F : FunD K "leading" "leading" (defArgs (topS 3)) (defBody (topS 3)) (defScope (topS 3)) dvs [] f fd)  : FnOk P w K mg base (L2N.CX P w) 1 f fd ["a", "b", "c"] (spD K mg m_leading) :=
  fnD (N := ["a", "b", "c"]) F sc_leading fun cdv A outer s H E hr => by
    have nd := (sc_leading).nd
    have tk : L2N.Takes (cxOf (L2N.CX P w) P w K mg base ["a", "b", "c"] "leading" (defScope (topS 3)) f cdv A outer s H E) (Wd E) := L2N.takes_of rfl rfl rfl rfl
    have hp : PassesOwn (model P w) (A.deeper (envOfC "leading" (defScope (topS 3)) s.heap.objs.size f cdv)) (envOfC "leading" (defScope (topS 3)) s.heap.objs.size f cdv) (cxOf (L2N.CX P w) P w K mg base ["a", "b", "c"] "leading" (defScope (topS 3)) f cdv A outer s H E).xe := passes_of (X := cxOf (L2N.CX P w) P w K mg base ["a", "b", "c"] "leading" (defScope (topS 3)) f cdv A outer s H E) rfl
    exact (ss_cons (ss_if (sb_cmp (or_ne hr.units) (se_var 0) se_int) (ss_one (ss_ret (se_var 0))) ss_nil) (ss_cons (ss_if (sb_cmp (or_ne hr.units) (se_var 1) se_int) (ss_one (ss_ret (se_var 1))) ss_nil) (ss_one (ss_ret (se_var 2)))))
theorem sc_is_whole : FnScope ["value"] ["value"] (defScope (topS 4)) := ⟨rfl, rfl, rfl, by decide +kernel, rfl, by decide +kernel, by decide +kernel⟩
theorem ok_is_whole {f : Addr} {fd : FuncData} {dvs : List V} (F : FunD K "is_whole" "is_whole" (defArgs (topS 4)) (defBody (topS 4)) (defScope (topS 4)) dvs [] f fd) (z_bool : mg "bool" = none) (z_isinstance : mg "isinstance" = none) (z_int : mg "int" = none) : FnOk P w K mg base (L2N.CX P w) 1 f fd ["value"] (spD K mg m_is_whole) :=
  fnD (N := ["value"]) F sc_is_whole fun cdv A outer s H E hr => by
    have nd := (sc_is_whole).nd
    have tk : L2N.Takes (cxOf (L2N.CX P w) P w K mg base ["value"] "is_whole" (defScope (topS 4)) f cdv A outer s H E) (Wd E) := L2N.takes_of rfl rfl rfl rfl
    have hp : PassesOwn (model P w) (A.deeper (envOfC "is_whole" (defScope (topS 4)) s.heap.objs.size f cdv)) (envOfC "is_whole" (defScope (topS 4)) s.heap.objs.size f cdv) (cxOf (L2N.CX P w) P w K mg base ["value"] "is_whole" (defScope (topS 4)) f cdv A outer s H E).xe := passes_of (X := cxOf (L2N.CX P w) P w K mg base ["value"] "is_whole" (defScope (topS 4)) f cdv A outer s H E) rfl
    exact (ss_one (ss_ret (se_and (se_callB cr_isi z_isinstance (sa_cons (se_var 0) (sa_cons (se_ty (n := "int") z_int) sa_nil))) (se_one (se_not (se_callB cr_isi z_isinstance (sa_cons (se_var 0) (sa_cons (se_ty (n := "bool") z_bool) sa_nil))))))))
theorem sc_is_plane : FnScope ["value", "part"] ["value"] (defScope (topS 5)) := ⟨rfl, rfl, rfl, by decide +kernel, rfl, by decide +kernel, by decide +kernel⟩
theorem ok_is_plane {f : Addr} {fd : FuncData} {dvs : List V} (F : FunD K "is_plane" "is_plane" (defArgs (topS 5)) (defBody (topS 5)) (defScope (topS 5)) dvs [] f fd) (c0 : CallP P w K mg base "is_whole" 1 m_is_whole []) (c1 : CallP P w K mg base "leading" 1 m_leading []) (c2 : CallP P w K mg base "divisor_of_four" 2 m_divisor_of_four []) (z_len : mg "len" = none) (z_tuple : mg "tuple" = none) (z_isinstance : mg "isinstance" = none) (z_all : mg "all" = none) : FnOk P w K mg base (L2N.CX P w) 3 f fd ["value"] (spD K mg m_is_plane) :=
  fnD (N := ["value", "part"]) F sc_is_plane fun cdv A outer s H E hr => by
    have nd := (sc_is_plane).nd
    have tk : L2N.Takes (cxOf (L2N.CX P w) P w K mg base ["value", "part"] "is_plane" (defScope (topS 5)) f cdv A outer s H E) (Wd E) := L2N.takes_of rfl rfl rfl rfl
    have hp : PassesOwn (model P w) (A.deeper (envOfC "is_plane" (defScope (topS 5)) s.heap.objs.size f cdv)) (envOfC "is_plane" (defScope (topS 5)) s.heap.objs.size f cdv) (cxOf (L2N.CX P w) P w K mg base ["value", "part"] "is_plane" (defScope (topS 5)) f cdv A outer s H E).xe := passes_of (X := cxOf (L2N.CX P w) P w K mg base ["value", "part"] "is_plane" (defScope (topS 5)) f cdv A outer s H E) rfl
    exact (ss_cons (ss_if (sw_pt (sw_or (sb_not (sb_val (se_callB cr_isi z_isinstance (sa_cons (se_var 0) (sa_cons (se_ty (n := "tuple") z_tuple) sa_nil))))) (sw_or1 (sb_cmp (or_ne hr.units) (se_callB cr_len z_len (sa_cons (se_var 0) sa_nil)) se_int)))) (ss_one (ss_ret se_bl)) ss_nil) (ss_cons (ss_if (sb_not (sb_val (se_lb (cr_all rfl) z_all (sl_comp (own := [("part", 1)]) rfl nd (si_seq (se_var 0)) (blkOk_by (N := ["value", "part"]) (sc := defScope (topS 5)) (own := [("part", 1)]) (by decide +kernel)) (by decide) (fun _ _ _ _ _ => (sg_name 1 nd)) (fun _ _ _ _ _ => sts_nil) (fun _ _ _ _ _ => (se_p c0 takes_no hr (sa_cons (se_var 1) sa_nil))))))) (ss_one (ss_ret se_bl)) ss_nil) (ss_cons (ss_if (sb_cmp or_le (se_p c1 tk hr (sa_cons (se_ix (se_var 0) se_int) (sa_cons (se_ix (se_var 0) se_int) (sa_cons (se_ix (se_var 0) se_int) sa_nil)))) se_int) (ss_one (ss_ret se_bl)) ss_nil) (ss_one (ss_ret (se_cmp (or_eq hr.units) (se_p c2 tk hr (sa_cons (se_ix (se_var 0) se_int) (sa_cons (se_ix (se_var 0) se_int) (sa_cons (se_ix (se_var 0) se_int) (sa_cons (se_ix (se_var 0) se_int) sa_nil))))) se_int))))))
theorem sc_parts_at : FnScope ["plane", "point", "x", "y", "z", "far", "bottom"] ["plane", "point"] (defScope (topS 6)) := ⟨rfl, rfl, rfl, by decide +kernel, rfl, by decide +kernel, by decide +kernel⟩
theorem ok_parts_at {f : Addr} {fd : FuncData} {dvs : List V} (F : FunD K "parts_at" "parts_at" (defArgs (topS 6)) (defBody (topS 6)) (defScope (topS 6)) dvs [] f fd)  : FnOk P w K mg base (L2N.CX P w) 1 f fd ["plane", "point"] (spD K mg m_parts_at) :=
  fnD (N := ["plane", "point", "x", "y", "z", "far", "bottom"]) F sc_parts_at fun cdv A outer s H E hr => by
    have nd := (sc_parts_at).nd
    have tk : L2N.Takes (cxOf (L2N.CX P w) P w K mg base ["plane", "point", "x", "y", "z", "far", "bottom"] "parts_at" (defScope (topS 6)) f cdv A outer s H E) (Wd E) := L2N.takes_of rfl rfl rfl rfl
    have hp : PassesOwn (model P w) (A.deeper (envOfC "parts_at" (defScope (topS 6)) s.heap.objs.size f cdv)) (envOfC "parts_at" (defScope (topS 6)) s.heap.objs.size f cdv) (cxOf (L2N.CX P w) P w K mg base ["plane", "point", "x", "y", "z", "far", "bottom"] "parts_at" (defScope (topS 6)) f cdv A outer s H E).xe := passes_of (X := cxOf (L2N.CX P w) P w K mg base ["plane", "point", "x", "y", "z", "far", "bottom"] "parts_at" (defScope (topS 6)) f cdv A outer s H E) rfl
    exact (ss_cons (ss_asg (se_var 1) (sg_unp rfl (sgs_cons (sg_name 2 nd) (sgs_cons (sg_name 3 nd) (sgs_cons (sg_name 4 nd) sgs_nil))))) (ss_cons (ss_set 5 nd (se_bin or_add (se_bin or_add (se_bin or_mul (se_bin or_mul (se_bin or_mul (se_ix (se_var 0) se_int) (se_ix (se_var 2) se_int)) (se_ix (se_var 3) se_int)) (se_ix (se_var 4) se_int)) (se_bin or_mul (se_bin or_mul (se_bin or_mul (se_ix (se_var 0) se_int) (se_ix (se_var 3) se_int)) (se_ix (se_var 2) se_int)) (se_ix (se_var 4) se_int))) (se_bin or_mul (se_bin or_mul (se_bin or_mul (se_ix (se_var 0) se_int) (se_ix (se_var 4) se_int)) (se_ix (se_var 2) se_int)) (se_ix (se_var 3) se_int)))) (ss_cons (ss_set 6 nd (se_bin or_mul (se_bin or_mul (se_ix (se_var 2) se_int) (se_ix (se_var 3) se_int)) (se_ix (se_var 4) se_int))) (ss_one (ss_ret (se_tup (sa_cons (se_bin or_add (se_var 5) (se_bin or_mul (se_ix (se_var 0) se_int) (se_var 6))) (sa_cons (se_var 6) sa_nil))))))))
theorem sc_side_of : FnScope ["plane", "point", "parts"] ["plane", "point"] (defScope (topS 7)) := ⟨rfl, rfl, rfl, by decide +kernel, rfl, by decide +kernel, by decide +kernel⟩
theorem ok_side_of {f : Addr} {fd : FuncData} {dvs : List V} (F : FunD K "side_of" "side_of" (defArgs (topS 7)) (defBody (topS 7)) (defScope (topS 7)) dvs [] f fd) (c0 : CallP P w K mg base "parts_at" 1 m_parts_at []) : FnOk P w K mg base (L2N.CX P w) 2 f fd ["plane", "point"] (spD K mg m_side_of) :=
  fnD (N := ["plane", "point", "parts"]) F sc_side_of fun cdv A outer s H E hr => by
    have nd := (sc_side_of).nd
    have tk : L2N.Takes (cxOf (L2N.CX P w) P w K mg base ["plane", "point", "parts"] "side_of" (defScope (topS 7)) f cdv A outer s H E) (Wd E) := L2N.takes_of rfl rfl rfl rfl
    have hp : PassesOwn (model P w) (A.deeper (envOfC "side_of" (defScope (topS 7)) s.heap.objs.size f cdv)) (envOfC "side_of" (defScope (topS 7)) s.heap.objs.size f cdv) (cxOf (L2N.CX P w) P w K mg base ["plane", "point", "parts"] "side_of" (defScope (topS 7)) f cdv A outer s H E).xe := passes_of (X := cxOf (L2N.CX P w) P w K mg base ["plane", "point", "parts"] "side_of" (defScope (topS 7)) f cdv A outer s H E) rfl
    exact (ss_cons (ss_set 2 nd (se_p c0 tk hr (sa_cons (se_var 0) (sa_cons (se_var 1) sa_nil)))) (ss_cons (ss_if (sb_cmp or_gt (se_ix (se_var 2) se_int) se_int) (ss_one (ss_ret se_int)) ss_nil) (ss_cons (ss_if (sb_cmp or_lt (se_ix (se_var 2) se_int) se_int) (ss_one (ss_ret (se_un ur_neg se_int))) ss_nil) (ss_one (ss_ret se_int)))))
theorem sc_is_condition : FnScope ["value"] ["value"] (defScope (topS 9)) := ⟨rfl, rfl, rfl, by decide +kernel, rfl, by decide +kernel, by decide +kernel⟩
theorem ok_is_condition {f : Addr} {fd : FuncData} {dvs : List V} (F : FunD K "is_condition" "is_condition" (defArgs (topS 9)) (defBody (topS 9)) (defScope (topS 9)) dvs [] f fd) (c0 : CallP P w K mg base "is_whole" 1 m_is_whole []) (c1 : CallP P w K mg base "is_plane" 3 m_is_plane []) (z_len : mg "len" = none) (z_tuple : mg "tuple" = none) (z_isinstance : mg "isinstance" = none) : FnOk P w K mg base (L2N.CX P w) 4 f fd ["value"] (spD K mg m_is_condition) :=
  fnD (N := ["value"]) F sc_is_condition fun cdv A outer s H E hr => by
    have nd := (sc_is_condition).nd
    have tk : L2N.Takes (cxOf (L2N.CX P w) P w K mg base ["value"] "is_condition" (defScope (topS 9)) f cdv A outer s H E) (Wd E) := L2N.takes_of rfl rfl rfl rfl
    have hp : PassesOwn (model P w) (A.deeper (envOfC "is_condition" (defScope (topS 9)) s.heap.objs.size f cdv)) (envOfC "is_condition" (defScope (topS 9)) s.heap.objs.size f cdv) (cxOf (L2N.CX P w) P w K mg base ["value"] "is_condition" (defScope (topS 9)) f cdv A outer s H E).xe := passes_of (X := cxOf (L2N.CX P w) P w K mg base ["value"] "is_condition" (defScope (topS 9)) f cdv A outer s H E) rfl
    exact (ss_cons (ss_if (sw_pt (sw_or (sb_not (sb_val (se_callB cr_isi z_isinstance (sa_cons (se_var 0) (sa_cons (se_ty (n := "tuple") z_tuple) sa_nil))))) (sw_or1 (sb_cmp (or_ne hr.units) (se_callB cr_len z_len (sa_cons (se_var 0) sa_nil)) se_int)))) (ss_one (ss_ret se_bl)) ss_nil) (ss_one (ss_ret (se_and (se_p c1 tk hr (sa_cons (se_ix (se_var 0) se_int) sa_nil)) (se_and (se_p c0 tk hr (sa_cons (se_ix (se_var 0) se_int) sa_nil)) (se_one (se_chain or_le or_le (se_un ur_neg se_int) (se_ix (se_var 0) se_int) se_int)))))))
theorem sc_is_conditions : FnScope ["value", "member"] ["value"] (defScope (topS 10)) := ⟨rfl, rfl, rfl, by decide +kernel, rfl, by decide +kernel, by decide +kernel⟩
theorem ok_is_conditions {f : Addr} {fd : FuncData} {dvs : List V} (F : FunD K "is_conditions" "is_conditions" (defArgs (topS 10)) (defBody (topS 10)) (defScope (topS 10)) dvs [] f fd) (c0 : CallP P w K mg base "is_condition" 4 m_is_condition []) (z_list : mg "list" = none) (z_isinstance : mg "isinstance" = none) (z_all : mg "all" = none) : FnOk P w K mg base (L2N.CX P w) 5 f fd ["value"] (spD K mg m_is_conditions) :=
  fnD (N := ["value", "member"]) F sc_is_conditions fun cdv A outer s H E hr => by
    have nd := (sc_is_conditions).nd
    have tk : L2N.Takes (cxOf (L2N.CX P w) P w K mg base ["value", "member"] "is_conditions" (defScope (topS 10)) f cdv A outer s H E) (Wd E) := L2N.takes_of rfl rfl rfl rfl
    have hp : PassesOwn (model P w) (A.deeper (envOfC "is_conditions" (defScope (topS 10)) s.heap.objs.size f cdv)) (envOfC "is_conditions" (defScope (topS 10)) s.heap.objs.size f cdv) (cxOf (L2N.CX P w) P w K mg base ["value", "member"] "is_conditions" (defScope (topS 10)) f cdv A outer s H E).xe := passes_of (X := cxOf (L2N.CX P w) P w K mg base ["value", "member"] "is_conditions" (defScope (topS 10)) f cdv A outer s H E) rfl
    exact (ss_cons (ss_if (sb_not (sb_val (se_callB cr_isi z_isinstance (sa_cons (se_var 0) (sa_cons (se_ty (n := "list") z_list) sa_nil))))) (ss_one (ss_ret se_bl)) ss_nil) (ss_one (ss_ret (se_lb (cr_all rfl) z_all (sl_comp (own := [("member", 1)]) rfl nd (si_seq (se_var 0)) (blkOk_by (N := ["value", "member"]) (sc := defScope (topS 10)) (own := [("member", 1)]) (by decide +kernel)) (by decide) (fun _ _ _ _ _ => (sg_name 1 nd)) (fun _ _ _ _ _ => sts_nil) (fun _ _ _ _ _ => (se_p c0 takes_no hr (sa_cons (se_var 1) sa_nil))))))))
theorem sc_fulfils : FnScope ["condition", "point", "need", "side"] ["condition", "point"] (defScope (topS 11)) := ⟨rfl, rfl, rfl, by decide +kernel, rfl, by decide +kernel, by decide +kernel⟩
theorem ok_fulfils {f : Addr} {fd : FuncData} {dvs : List V} (F : FunD K "fulfils" "fulfils" (defArgs (topS 11)) (defBody (topS 11)) (defScope (topS 11)) dvs [] f fd) (c0 : CallP P w K mg base "side_of" 2 m_side_of []) (z_abs : mg "abs" = none) : FnOk P w K mg base (L2N.CX P w) 3 f fd ["condition", "point"] (spD K mg m_fulfils) :=
  fnD (N := ["condition", "point", "need", "side"]) F sc_fulfils fun cdv A outer s H E hr => by
    have nd := (sc_fulfils).nd
    have tk : L2N.Takes (cxOf (L2N.CX P w) P w K mg base ["condition", "point", "need", "side"] "fulfils" (defScope (topS 11)) f cdv A outer s H E) (Wd E) := L2N.takes_of rfl rfl rfl rfl
    have hp : PassesOwn (model P w) (A.deeper (envOfC "fulfils" (defScope (topS 11)) s.heap.objs.size f cdv)) (envOfC "fulfils" (defScope (topS 11)) s.heap.objs.size f cdv) (cxOf (L2N.CX P w) P w K mg base ["condition", "point", "need", "side"] "fulfils" (defScope (topS 11)) f cdv A outer s H E).xe := passes_of (X := cxOf (L2N.CX P w) P w K mg base ["condition", "point", "need", "side"] "fulfils" (defScope (topS 11)) f cdv A outer s H E) rfl
    exact (ss_cons (ss_set 2 nd (se_ix (se_var 0) se_int)) (ss_cons (ss_set 3 nd (se_p c0 tk hr (sa_cons (se_ix (se_var 0) se_int) (sa_cons (se_var 1) sa_nil)))) (ss_cons (ss_if (sb_cmp (or_eq hr.units) (se_var 2) se_int) (ss_one (ss_ret (se_cmp (or_eq hr.units) (se_var 3) se_int))) ss_nil) (ss_cons (ss_if (sb_cmp or_lt (se_var 2) se_int) (ss_one (ss_set 3 nd (se_un ur_neg (se_var 3)))) ss_nil) (ss_one (ss_ret (se_or (se_cmp or_gt (se_var 3) se_int) (se_one (se_and (se_cmp (or_eq hr.units) (se_var 3) se_int) (se_one (se_cmp (or_eq hr.units) (se_callB cr_abs z_abs (sa_cons (se_var 2) sa_nil)) se_int)))))))))))
theorem sc_holds : FnScope ["conditions", "point", "condition"] ["conditions", "point"] (defScope (topS 12)) := ⟨rfl, rfl, rfl, by decide +kernel, rfl, by decide +kernel, by decide +kernel⟩
theorem ok_holds {f : Addr} {fd : FuncData} {dvs : List V} (F : FunD K "holds" "holds" (defArgs (topS 12)) (defBody (topS 12)) (defScope (topS 12)) dvs [] f fd) (c0 : CallP P w K mg base "fulfils" 3 m_fulfils []) : FnOk P w K mg base (L2N.CX P w) 4 f fd ["conditions", "point"] (spD K mg m_holds) :=
  fnD (N := ["conditions", "point", "condition"]) F sc_holds fun cdv A outer s H E hr => by
    have nd := (sc_holds).nd
    have tk : L2N.Takes (cxOf (L2N.CX P w) P w K mg base ["conditions", "point", "condition"] "holds" (defScope (topS 12)) f cdv A outer s H E) (Wd E) := L2N.takes_of rfl rfl rfl rfl
    have hp : PassesOwn (model P w) (A.deeper (envOfC "holds" (defScope (topS 12)) s.heap.objs.size f cdv)) (envOfC "holds" (defScope (topS 12)) s.heap.objs.size f cdv) (cxOf (L2N.CX P w) P w K mg base ["conditions", "point", "condition"] "holds" (defScope (topS 12)) f cdv A outer s H E).xe := passes_of (X := cxOf (L2N.CX P w) P w K mg base ["conditions", "point", "condition"] "holds" (defScope (topS 12)) f cdv A outer s H E) rfl
    exact (ss_cons (ss_for hp rfl (si_seq (se_var 0)) (sg_name 2 nd) (ss_one (ss_if (sb_not (sb_val (se_p c0 tk hr (sa_cons (se_var 2) (sa_cons (se_var 1) sa_nil))))) (ss_one (ss_ret se_bl)) ss_nil))) (ss_one (ss_ret se_bl)))
theorem sc_closed_need : FnScope ["need"] ["need"] (defScope (topS 13)) := ⟨rfl, rfl, rfl, by decide +kernel, rfl, by decide +kernel, by decide +kernel⟩
theorem ok_closed_need {f : Addr} {fd : FuncData} {dvs : List V} (F : FunD K "closed_need" "closed_need" (defArgs (topS 13)) (defBody (topS 13)) (defScope (topS 13)) dvs [] f fd)  : FnOk P w K mg base (L2N.CX P w) 1 f fd ["need"] (spD K mg m_closed_need) :=
  fnD (N := ["need"]) F sc_closed_need fun cdv A outer s H E hr => by
    have nd := (sc_closed_need).nd
    have tk : L2N.Takes (cxOf (L2N.CX P w) P w K mg base ["need"] "closed_need" (defScope (topS 13)) f cdv A outer s H E) (Wd E) := L2N.takes_of rfl rfl rfl rfl
    have hp : PassesOwn (model P w) (A.deeper (envOfC "closed_need" (defScope (topS 13)) s.heap.objs.size f cdv)) (envOfC "closed_need" (defScope (topS 13)) s.heap.objs.size f cdv) (cxOf (L2N.CX P w) P w K mg base ["need"] "closed_need" (defScope (topS 13)) f cdv A outer s H E).xe := passes_of (X := cxOf (L2N.CX P w) P w K mg base ["need"] "closed_need" (defScope (topS 13)) f cdv A outer s H E) rfl
    exact (ss_cons (ss_if (sw_pt (sw_or (sb_cmp (or_eq hr.units) (se_var 0) se_int) (sw_or1 (sb_cmp (or_eq hr.units) (se_var 0) (se_un ur_neg se_int))))) (ss_one (ss_ret (se_bin or_mul se_int (se_var 0)))) ss_nil) (ss_one (ss_ret (se_var 0))))
theorem sc_closed : FnScope ["conditions", "plane", "need"] ["conditions"] (defScope (topS 14)) := ⟨rfl, rfl, rfl, by decide +kernel, rfl, by decide +kernel, by decide +kernel⟩
theorem ok_closed {f : Addr} {fd : FuncData} {dvs : List V} (F : FunD K "closed" "closed" (defArgs (topS 14)) (defBody (topS 14)) (defScope (topS 14)) dvs [] f fd) (c0 : CallP P w K mg base "closed_need" 1 m_closed_need []) : FnOk P w K mg base (L2N.CX P w) 2 f fd ["conditions"] (spD K mg m_closed) :=
  fnD (N := ["conditions", "plane", "need"]) F sc_closed fun cdv A outer s H E hr => by
    have nd := (sc_closed).nd
    have tk : L2N.Takes (cxOf (L2N.CX P w) P w K mg base ["conditions", "plane", "need"] "closed" (defScope (topS 14)) f cdv A outer s H E) (Wd E) := L2N.takes_of rfl rfl rfl rfl
    have hp : PassesOwn (model P w) (A.deeper (envOfC "closed" (defScope (topS 14)) s.heap.objs.size f cdv)) (envOfC "closed" (defScope (topS 14)) s.heap.objs.size f cdv) (cxOf (L2N.CX P w) P w K mg base ["conditions", "plane", "need"] "closed" (defScope (topS 14)) f cdv A outer s H E).xe := passes_of (X := cxOf (L2N.CX P w) P w K mg base ["conditions", "plane", "need"] "closed" (defScope (topS 14)) f cdv A outer s H E) rfl
    exact (ss_one (ss_ret (se_new (sl_comp (own := [("plane", 1), ("need", 2)]) rfl nd (si_seq (se_var 0)) (blkOk_by (N := ["conditions", "plane", "need"]) (sc := defScope (topS 14)) (own := [("plane", 1), ("need", 2)]) (by decide +kernel)) (by decide) (fun _ _ _ _ _ => (sg_unp rfl (sgs_cons (sg_name 1 nd) (sgs_cons (sg_name 2 nd) sgs_nil)))) (fun _ _ _ _ _ => sts_nil) (fun _ _ _ _ _ => (se_tup (sa_cons (se_var 1) (sa_cons (se_p c0 takes_no hr (sa_cons (se_var 2) sa_nil)) sa_nil))))))))
theorem sc__law_mix : FnScope ["_law_one", "_law_two", "_law_once", "_law_twice"] ["_law_one", "_law_two"] (defScope (topS 16)) := ⟨rfl, rfl, rfl, by decide +kernel, rfl, by decide +kernel, by decide +kernel⟩
theorem ok__law_mix {f : Addr} {fd : FuncData} {dvs : List V} (F : FunD K "_law_mix" "_law_mix" (defArgs (topS 16)) (defBody (topS 16)) (defScope (topS 16)) dvs [] f fd) (z_int : mg "int" = none) : FnOk P w K mg base (L2N.CX P w) 1 f fd ["_law_one", "_law_two"] (spD K mg m__law_mix) :=
  fnD (N := ["_law_one", "_law_two", "_law_once", "_law_twice"]) F sc__law_mix fun cdv A outer s H E hr => by
    have nd := (sc__law_mix).nd
    have tk : L2N.Takes (cxOf (L2N.CX P w) P w K mg base ["_law_one", "_law_two", "_law_once", "_law_twice"] "_law_mix" (defScope (topS 16)) f cdv A outer s H E) (Wd E) := L2N.takes_of rfl rfl rfl rfl
    have hp : PassesOwn (model P w) (A.deeper (envOfC "_law_mix" (defScope (topS 16)) s.heap.objs.size f cdv)) (envOfC "_law_mix" (defScope (topS 16)) s.heap.objs.size f cdv) (cxOf (L2N.CX P w) P w K mg base ["_law_one", "_law_two", "_law_once", "_law_twice"] "_law_mix" (defScope (topS 16)) f cdv A outer s H E).xe := passes_of (X := cxOf (L2N.CX P w) P w K mg base ["_law_one", "_law_two", "_law_once", "_law_twice"] "_law_mix" (defScope (topS 16)) f cdv A outer s H E) rfl
    exact (ss_cons (ss_set 2 nd (se_bin or_mod (se_callTy cr_int z_int (sa_cons (se_bin or_add (se_bin or_add (se_bin or_mul (se_var 0) se_int) (se_bin or_mul (se_var 1) se_int)) se_int) sa_nil)) se_int)) (ss_cons (ss_set 3 nd (se_bin or_mod (se_callTy cr_int z_int (sa_cons (se_bin or_add (se_bin or_add (se_bin or_mul (se_var 2) (se_var 2)) (se_bin or_mul (se_var 1) se_int)) se_int) sa_nil)) se_int)) (ss_one (ss_ret (se_bin or_mod (se_callTy cr_int z_int (sa_cons (se_bin or_add (se_bin or_add (se_bin or_mul (se_var 3) (se_var 3)) (se_bin or_mul (se_var 2) se_int)) se_int) sa_nil)) se_int)))))
theorem sc__law_store : FnScope ["_law_script", "_law_seed", "_law_cell"] ["_law_script"] (defScope (topS 17)) := ⟨rfl, rfl, rfl, by decide +kernel, rfl, by decide +kernel, by decide +kernel⟩
theorem ok__law_store {f : Addr} {fd : FuncData} {dvs : List V} (F : FunD K "_law_store" "_law_store" (defArgs (topS 17)) (defBody (topS 17)) (defScope (topS 17)) dvs [] f fd) (c0 : CallP P w K mg base "_law_mix" 1 m__law_mix []) (z_len : mg "len" = none) (z_int : mg "int" = none) (z_list : mg "list" = none) : FnOk P w K mg base (L2N.CX P w) 2 f fd ["_law_script"] (spD K mg m__law_store) :=
  fnD (N := ["_law_script", "_law_seed", "_law_cell"]) F sc__law_store fun cdv A outer s H E hr => by
    have nd := (sc__law_store).nd
    have tk : L2N.Takes (cxOf (L2N.CX P w) P w K mg base ["_law_script", "_law_seed", "_law_cell"] "_law_store" (defScope (topS 17)) f cdv A outer s H E) (Wd E) := L2N.takes_of rfl rfl rfl rfl
    have hp : PassesOwn (model P w) (A.deeper (envOfC "_law_store" (defScope (topS 17)) s.heap.objs.size f cdv)) (envOfC "_law_store" (defScope (topS 17)) s.heap.objs.size f cdv) (cxOf (L2N.CX P w) P w K mg base ["_law_script", "_law_seed", "_law_cell"] "_law_store" (defScope (topS 17)) f cdv A outer s H E).xe := passes_of (X := cxOf (L2N.CX P w) P w K mg base ["_law_script", "_law_seed", "_law_cell"] "_law_store" (defScope (topS 17)) f cdv A outer s H E) rfl
    exact (ss_cons (ss_set 1 nd (se_bin or_add se_int (se_callB cr_len z_len (sa_cons (se_var 0) sa_nil)))) (ss_cons (ss_for hp rfl (si_seq (se_var 0)) (sg_name 2 nd) (ss_one (ss_set 1 nd (se_p c0 tk hr (sa_cons (se_var 1) (sa_cons (se_bin or_mod (se_callTy cr_int z_int (sa_cons (se_var 2) sa_nil)) se_int) sa_nil)))))) (ss_one (ss_ret (se_new (sl_disp (sa_cons (se_new (sl_list z_list (se_var 0))) (sa_cons se_int (sa_cons se_int (sa_cons se_int (sa_cons se_int (sa_cons (se_var 1) (sa_cons se_int sa_nil)))))))))))))
theorem sc__law_take : FnScope ["_law_store_here", "_law_many", "_law_cell", "_law_rest"] ["_law_store_here", "_law_many"] (defScope (topS 18)) := ⟨rfl, rfl, rfl, by decide +kernel, rfl, by decide +kernel, by decide +kernel⟩
theorem ok__law_take {f : Addr} {fd : FuncData} {dvs : List V} (F : FunD K "_law_take" "_law_take" (defArgs (topS 18)) (defBody (topS 18)) (defScope (topS 18)) dvs [] f fd) (c0 : CallP P w K mg base "_law_mix" 1 m__law_mix []) (z_max : mg "max" = none) (z_len : mg "len" = none) (z_abs : mg "abs" = none) (z_int : mg "int" = none) : FnOk P w K mg base (L2N.CX P w) 2 f fd ["_law_store_here", "_law_many"] (spD K mg m__law_take) :=
  fnD (N := ["_law_store_here", "_law_many", "_law_cell", "_law_rest"]) F sc__law_take fun cdv A outer s H E hr => by
    have nd := (sc__law_take).nd
    have tk : L2N.Takes (cxOf (L2N.CX P w) P w K mg base ["_law_store_here", "_law_many", "_law_cell", "_law_rest"] "_law_take" (defScope (topS 18)) f cdv A outer s H E) (Wd E) := L2N.takes_of rfl rfl rfl rfl
    have hp : PassesOwn (model P w) (A.deeper (envOfC "_law_take" (defScope (topS 18)) s.heap.objs.size f cdv)) (envOfC "_law_take" (defScope (topS 18)) s.heap.objs.size f cdv) (cxOf (L2N.CX P w) P w K mg base ["_law_store_here", "_law_many", "_law_cell", "_law_rest"] "_law_take" (defScope (topS 18)) f cdv A outer s H E).xe := passes_of (X := cxOf (L2N.CX P w) P w K mg base ["_law_store_here", "_law_many", "_law_cell", "_law_rest"] "_law_take" (defScope (topS 18)) f cdv A outer s H E) rfl
    exact (ss_cons (ss_set 1 nd (se_callB (cr_max2 rfl) z_max (sa_cons se_int (sa_cons (se_var 1) sa_nil)))) (ss_cons (ss_if (sw_pt (sw_and (sb_cmp (or_eq hr.units) (se_ix (se_var 0) se_int) se_int) (sw_and (sb_cmp (or_eq hr.units) (se_ix (se_var 0) se_int) se_int) (sw_and1 (sb_cmp or_lt (se_ix (se_var 0) se_int) (se_callB cr_len z_len (sa_cons (se_ix (se_var 0) se_int) sa_nil))))))) (ss_cons (ss_set 2 nd (se_callTy cr_int z_int (sa_cons (se_ix (se_ix (se_var 0) se_int) (se_ix (se_var 0) se_int)) sa_nil))) (ss_cons (ss_asg (se_bin or_add (se_ix (se_var 0) se_int) se_int) (sg_sub (se_var 0) se_int)) (ss_one (ss_if (sb_cmp or_ge (se_callB cr_abs z_abs (sa_cons (se_var 2) sa_nil)) (se_bin or_pow se_int se_int)) (ss_one (ss_asg (se_callB cr_abs z_abs (sa_cons (se_var 2) sa_nil)) (sg_sub (se_var 0) se_int))) (ss_cons (ss_asg se_int (sg_sub (se_var 0) se_int)) (ss_one (ss_asg (se_p c0 tk hr (sa_cons (se_ix (se_var 0) se_int) (sa_cons (se_var 2) sa_nil))) (sg_sub (se_var 0) se_int)))))))) ss_nil) (ss_cons (ss_if (sb_cmp or_gt (se_ix (se_var 0) se_int) se_int) (ss_cons (ss_set 3 nd (se_callTy cr_int z_int (sa_cons (se_ix (se_var 0) se_int) sa_nil))) (ss_cons (ss_asg (se_bin or_div (se_var 3) (se_var 1)) (sg_sub (se_var 0) se_int)) (ss_one (ss_ret (se_bin or_mod (se_var 3) (se_var 1)))))) ss_nil) (ss_cons (ss_asg (se_bin or_add (se_ix (se_var 0) se_int) se_int) (sg_sub (se_var 0) se_int)) (ss_cons (ss_if (sb_cmp or_gt (se_ix (se_var 0) se_int) se_int) (ss_cons (ss_asg (se_bin or_sub (se_ix (se_var 0) se_int) se_int) (sg_sub (se_var 0) se_int)) (ss_one (ss_ret (se_bin or_mod (se_callTy cr_int z_int (sa_cons (se_p c0 tk hr (sa_cons (se_ix (se_var 0) se_int) (sa_cons (se_ix (se_var 0) se_int) sa_nil))) sa_nil)) (se_var 1))))) ss_nil) (ss_one (ss_ret (se_bin or_mod (se_callTy cr_int z_int (sa_cons (se_p c0 tk hr (sa_cons (se_p c0 tk hr (sa_cons (se_ix (se_var 0) se_int) (sa_cons (se_ix (se_var 0) se_int) sa_nil))) (sa_cons (se_ix (se_var 0) se_int) sa_nil))) sa_nil)) (se_var 1)))))))))
theorem sc__law_pick : FnScope ["_law_store_here", "_law_items"] ["_law_store_here", "_law_items"] (defScope (topS 19)) := ⟨rfl, rfl, rfl, by decide +kernel, rfl, by decide +kernel, by decide +kernel⟩
theorem ok__law_pick {f : Addr} {fd : FuncData} {dvs : List V} (F : FunD K "_law_pick" "_law_pick" (defArgs (topS 19)) (defBody (topS 19)) (defScope (topS 19)) dvs [] f fd) (c0 : CallP P w K mg base "_law_take" 2 m__law_take []) (z_len : mg "len" = none) : FnOk P w K mg base (L2N.CX P w) 3 f fd ["_law_store_here", "_law_items"] (spD K mg m__law_pick) :=
  fnD (N := ["_law_store_here", "_law_items"]) F sc__law_pick fun cdv A outer s H E hr => by
    have nd := (sc__law_pick).nd
    have tk : L2N.Takes (cxOf (L2N.CX P w) P w K mg base ["_law_store_here", "_law_items"] "_law_pick" (defScope (topS 19)) f cdv A outer s H E) (Wd E) := L2N.takes_of rfl rfl rfl rfl
    have hp : PassesOwn (model P w) (A.deeper (envOfC "_law_pick" (defScope (topS 19)) s.heap.objs.size f cdv)) (envOfC "_law_pick" (defScope (topS 19)) s.heap.objs.size f cdv) (cxOf (L2N.CX P w) P w K mg base ["_law_store_here", "_law_items"] "_law_pick" (defScope (topS 19)) f cdv A outer s H E).xe := passes_of (X := cxOf (L2N.CX P w) P w K mg base ["_law_store_here", "_law_items"] "_law_pick" (defScope (topS 19)) f cdv A outer s H E) rfl
    exact (ss_one (ss_ret (se_ix (se_var 1) (se_p c0 tk hr (sa_cons (se_var 0) (sa_cons (se_callB cr_len z_len (sa_cons (se_var 1) sa_nil)) sa_nil))))))
theorem sc__law_few : FnScope ["_law_store_here", "_law_most", "_law_kind"] ["_law_store_here", "_law_most"] (defScope (topS 20)) := ⟨rfl, rfl, rfl, by decide +kernel, rfl, by decide +kernel, by decide +kernel⟩
theorem ok__law_few {f : Addr} {fd : FuncData} {dvs : List V} (F : FunD K "_law_few" "_law_few" (defArgs (topS 20)) (defBody (topS 20)) (defScope (topS 20)) dvs [] f fd) (c0 : CallP P w K mg base "_law_take" 2 m__law_take []) (z_min : mg "min" = none) : FnOk P w K mg base (L2N.CX P w) 3 f fd ["_law_store_here", "_law_most"] (spD K mg m__law_few) :=
  fnD (N := ["_law_store_here", "_law_most", "_law_kind"]) F sc__law_few fun cdv A outer s H E hr => by
    have nd := (sc__law_few).nd
    have tk : L2N.Takes (cxOf (L2N.CX P w) P w K mg base ["_law_store_here", "_law_most", "_law_kind"] "_law_few" (defScope (topS 20)) f cdv A outer s H E) (Wd E) := L2N.takes_of rfl rfl rfl rfl
    have hp : PassesOwn (model P w) (A.deeper (envOfC "_law_few" (defScope (topS 20)) s.heap.objs.size f cdv)) (envOfC "_law_few" (defScope (topS 20)) s.heap.objs.size f cdv) (cxOf (L2N.CX P w) P w K mg base ["_law_store_here", "_law_most", "_law_kind"] "_law_few" (defScope (topS 20)) f cdv A outer s H E).xe := passes_of (X := cxOf (L2N.CX P w) P w K mg base ["_law_store_here", "_law_most", "_law_kind"] "_law_few" (defScope (topS 20)) f cdv A outer s H E) rfl
    exact (ss_cons (ss_set 2 nd (se_p c0 tk hr (sa_cons (se_var 0) (sa_cons se_int sa_nil)))) (ss_cons (ss_if (sw_pt (sw_or (sb_cmp (or_eq hr.units) (se_var 2) se_int) (sw_or1 (sb_cmp or_lt (se_var 1) se_int)))) (ss_one (ss_ret se_int)) ss_nil) (ss_cons (ss_if (sb_cmp (or_eq hr.units) (se_var 2) se_int) (ss_one (ss_ret (se_var 1))) ss_nil) (ss_one (ss_ret (se_bin or_add se_int (se_p c0 tk hr (sa_cons (se_var 0) (sa_cons (se_callB (cr_min2 rfl) z_min (sa_cons se_int (sa_cons (se_var 1) sa_nil))) sa_nil)))))))))
theorem sc__law_wide : FnScope ["_law_store_here", "_law_many", "_law_found", "_law_k"] ["_law_store_here", "_law_many"] (defScope (topS 21)) := ⟨rfl, rfl, rfl, by decide +kernel, rfl, by decide +kernel, by decide +kernel⟩
theorem ok__law_wide {f : Addr} {fd : FuncData} {dvs : List V} (F : FunD K "_law_wide" "_law_wide" (defArgs (topS 21)) (defBody (topS 21)) (defScope (topS 21)) dvs [] f fd) (c0 : CallP P w K mg base "_law_take" 2 m__law_take []) (z_range : mg "range" = none) : FnOk P w K mg base (L2N.CX P w) 3 f fd ["_law_store_here", "_law_many"] (spD K mg m__law_wide) :=
  fnD (N := ["_law_store_here", "_law_many", "_law_found", "_law_k"]) F sc__law_wide fun cdv A outer s H E hr => by
    have nd := (sc__law_wide).nd
    have tk : L2N.Takes (cxOf (L2N.CX P w) P w K mg base ["_law_store_here", "_law_many", "_law_found", "_law_k"] "_law_wide" (defScope (topS 21)) f cdv A outer s H E) (Wd E) := L2N.takes_of rfl rfl rfl rfl
    have hp : PassesOwn (model P w) (A.deeper (envOfC "_law_wide" (defScope (topS 21)) s.heap.objs.size f cdv)) (envOfC "_law_wide" (defScope (topS 21)) s.heap.objs.size f cdv) (cxOf (L2N.CX P w) P w K mg base ["_law_store_here", "_law_many", "_law_found", "_law_k"] "_law_wide" (defScope (topS 21)) f cdv A outer s H E).xe := passes_of (X := cxOf (L2N.CX P w) P w K mg base ["_law_store_here", "_law_many", "_law_found", "_law_k"] "_law_wide" (defScope (topS 21)) f cdv A outer s H E) rfl
    exact (ss_cons (ss_set 2 nd se_int) (ss_cons (ss_for hp rfl (si_range1 z_range (sa_cons (se_var 1) sa_nil)) (sg_name 3 nd) (ss_one (ss_set 2 nd (se_bin or_add (se_bin or_mul (se_var 2) se_int) (se_p c0 tk hr (sa_cons (se_var 0) (sa_cons se_int sa_nil))))))) (ss_one (ss_ret (se_var 2)))))
theorem sc__law_integer : FnScope ["_law_store_here", "_law_kind", "_law_found", "_law_k"] ["_law_store_here"] (defScope (topS 22)) := ⟨rfl, rfl, rfl, by decide +kernel, rfl, by decide +kernel, by decide +kernel⟩
theorem ok__law_integer {f : Addr} {fd : FuncData} {dvs : List V} (F : FunD K "_law_integer" "_law_integer" (defArgs (topS 22)) (defBody (topS 22)) (defScope (topS 22)) dvs [] f fd) (c0 : CallP P w K mg base "_law_take" 2 m__law_take []) (c1 : CallP P w K mg base "_law_wide" 3 m__law_wide []) (z_range : mg "range" = none) : FnOk P w K mg base (L2N.CX P w) 4 f fd ["_law_store_here"] (spD K mg m__law_integer) :=
  fnD (N := ["_law_store_here", "_law_kind", "_law_found", "_law_k"]) F sc__law_integer fun cdv A outer s H E hr => by
    have nd := (sc__law_integer).nd
    have tk : L2N.Takes (cxOf (L2N.CX P w) P w K mg base ["_law_store_here", "_law_kind", "_law_found", "_law_k"] "_law_integer" (defScope (topS 22)) f cdv A outer s H E) (Wd E) := L2N.takes_of rfl rfl rfl rfl
    have hp : PassesOwn (model P w) (A.deeper (envOfC "_law_integer" (defScope (topS 22)) s.heap.objs.size f cdv)) (envOfC "_law_integer" (defScope (topS 22)) s.heap.objs.size f cdv) (cxOf (L2N.CX P w) P w K mg base ["_law_store_here", "_law_kind", "_law_found", "_law_k"] "_law_integer" (defScope (topS 22)) f cdv A outer s H E).xe := passes_of (X := cxOf (L2N.CX P w) P w K mg base ["_law_store_here", "_law_kind", "_law_found", "_law_k"] "_law_integer" (defScope (topS 22)) f cdv A outer s H E) rfl
    exact (ss_cons (ss_set 1 nd (se_p c0 tk hr (sa_cons (se_var 0) (sa_cons se_int sa_nil)))) (ss_cons (ss_if (sb_cmp (or_eq hr.units) (se_var 1) se_int) (ss_one (ss_ret (se_bin or_sub (se_p c0 tk hr (sa_cons (se_var 0) (sa_cons se_int sa_nil))) se_int))) ss_nil) (ss_cons (ss_if (sb_cmp or_gt (se_var 1) se_int) (ss_one (ss_ret (se_bin or_sub (se_p c0 tk hr (sa_cons (se_var 0) (sa_cons se_int sa_nil))) se_int))) ss_nil) (ss_cons (ss_set 2 nd se_int) (ss_cons (ss_if (sb_cmp (or_eq hr.units) (se_var 1) se_int) (ss_cons (ss_for hp rfl (si_range1 z_range (sa_cons (se_p c0 tk hr (sa_cons (se_var 0) (sa_cons se_int sa_nil))) sa_nil)) (sg_name 3 nd) (ss_one (ss_set 2 nd (se_bin or_mul (se_var 2) se_int)))) (ss_one (ss_set 2 nd (se_bin or_sub (se_bin or_add (se_var 2) (se_p c0 tk hr (sa_cons (se_var 0) (sa_cons se_int sa_nil)))) se_int)))) (ss_one (ss_set 2 nd (se_p c1 tk hr (sa_cons (se_var 0) (sa_cons (se_bin or_add se_int (se_p c0 tk hr (sa_cons (se_var 0) (sa_cons se_int sa_nil)))) sa_nil)))))) (ss_cons (ss_if (sb_cmp (or_eq hr.units) (se_p c0 tk hr (sa_cons (se_var 0) (sa_cons se_int sa_nil))) se_int) (ss_one (ss_ret (se_un ur_neg (se_var 2)))) ss_nil) (ss_one (ss_ret (se_var 2)))))))))
theorem sc__law_gcd : FnScope ["_law_one", "_law_two", "_law_rest"] ["_law_one", "_law_two"] (defScope (topS 23)) := ⟨rfl, rfl, rfl, by decide +kernel, rfl, by decide +kernel, by decide +kernel⟩
theorem ok__law_gcd {f : Addr} {fd : FuncData} {dvs : List V} (F : FunD K "_law_gcd" "_law_gcd" (defArgs (topS 23)) (defBody (topS 23)) (defScope (topS 23)) dvs [] f fd) (z_abs : mg "abs" = none) (z_int : mg "int" = none) : FnOk P w K mg base (L2N.CX P w) 1 f fd ["_law_one", "_law_two"] (spD K mg m__law_gcd) :=
  fnD (N := ["_law_one", "_law_two", "_law_rest"]) F sc__law_gcd fun cdv A outer s H E hr => by
    have nd := (sc__law_gcd).nd
    have tk : L2N.Takes (cxOf (L2N.CX P w) P w K mg base ["_law_one", "_law_two", "_law_rest"] "_law_gcd" (defScope (topS 23)) f cdv A outer s H E) (Wd E) := L2N.takes_of rfl rfl rfl rfl
    have hp : PassesOwn (model P w) (A.deeper (envOfC "_law_gcd" (defScope (topS 23)) s.heap.objs.size f cdv)) (envOfC "_law_gcd" (defScope (topS 23)) s.heap.objs.size f cdv) (cxOf (L2N.CX P w) P w K mg base ["_law_one", "_law_two", "_law_rest"] "_law_gcd" (defScope (topS 23)) f cdv A outer s H E).xe := passes_of (X := cxOf (L2N.CX P w) P w K mg base ["_law_one", "_law_two", "_law_rest"] "_law_gcd" (defScope (topS 23)) f cdv A outer s H E) rfl
    exact (ss_cons (ss_set 0 nd (se_callB cr_abs z_abs (sa_cons (se_var 0) sa_nil))) (ss_cons (ss_set 1 nd (se_callB cr_abs z_abs (sa_cons (se_var 1) sa_nil))) (ss_cons (ss_while hp (sb_cmp or_gt (se_var 1) se_int) (ss_cons (ss_set 2 nd (se_bin or_mod (se_callTy cr_int z_int (sa_cons (se_var 0) sa_nil)) (se_var 1))) (ss_cons (ss_set 0 nd (se_var 1)) (ss_one (ss_set 1 nd (se_var 2)))))) (ss_one (ss_ret (se_var 0))))))
theorem sc__law_frac : FnScope ["_law_top", "_law_bottom", "_law_many"] ["_law_top", "_law_bottom"] (defScope (topS 24)) := ⟨rfl, rfl, rfl, by decide +kernel, rfl, by decide +kernel, by decide +kernel⟩
theorem ok__law_frac {f : Addr} {fd : FuncData} {dvs : List V} (F : FunD K "_law_frac" "_law_frac" (defArgs (topS 24)) (defBody (topS 24)) (defScope (topS 24)) dvs [] f fd) (c0 : CallP P w K mg base "_law_gcd" 1 m__law_gcd []) : FnOk P w K mg base (L2N.CX P w) 2 f fd ["_law_top", "_law_bottom"] (spD K mg m__law_frac) :=
  fnD (N := ["_law_top", "_law_bottom", "_law_many"]) F sc__law_frac fun cdv A outer s H E hr => by
    have nd := (sc__law_frac).nd
    have tk : L2N.Takes (cxOf (L2N.CX P w) P w K mg base ["_law_top", "_law_bottom", "_law_many"] "_law_frac" (defScope (topS 24)) f cdv A outer s H E) (Wd E) := L2N.takes_of rfl rfl rfl rfl
    have hp : PassesOwn (model P w) (A.deeper (envOfC "_law_frac" (defScope (topS 24)) s.heap.objs.size f cdv)) (envOfC "_law_frac" (defScope (topS 24)) s.heap.objs.size f cdv) (cxOf (L2N.CX P w) P w K mg base ["_law_top", "_law_bottom", "_law_many"] "_law_frac" (defScope (topS 24)) f cdv A outer s H E).xe := passes_of (X := cxOf (L2N.CX P w) P w K mg base ["_law_top", "_law_bottom", "_law_many"] "_law_frac" (defScope (topS 24)) f cdv A outer s H E) rfl
    exact (ss_cons (ss_if (sb_cmp (or_eq hr.units) (se_var 1) se_int) (ss_one (ss_ret (se_tup (sa_cons se_int (sa_cons se_int sa_nil))))) ss_nil) (ss_cons (ss_set 2 nd (se_p c0 tk hr (sa_cons (se_var 0) (sa_cons (se_var 1) sa_nil)))) (ss_cons (ss_if (sb_cmp or_lt (se_var 1) se_int) (ss_one (ss_set 2 nd (se_un ur_neg (se_var 2)))) ss_nil) (ss_one (ss_ret (se_tup (sa_cons (se_bin or_div (se_var 0) (se_var 2)) (sa_cons (se_bin or_div (se_var 1) (se_var 2)) sa_nil))))))))
theorem sc__law_ratio : FnScope ["_law_store_here", "_law_kind"] ["_law_store_here"] (defScope (topS 25)) := ⟨rfl, rfl, rfl, by decide +kernel, rfl, by decide +kernel, by decide +kernel⟩
theorem ok__law_ratio {f : Addr} {fd : FuncData} {dvs : List V} (F : FunD K "_law_ratio" "_law_ratio" (defArgs (topS 25)) (defBody (topS 25)) (defScope (topS 25)) dvs [] f fd) (c0 : CallP P w K mg base "_law_take" 2 m__law_take []) (c1 : CallP P w K mg base "_law_frac" 2 m__law_frac []) : FnOk P w K mg base (L2N.CX P w) 3 f fd ["_law_store_here"] (spD K mg m__law_ratio) :=
  fnD (N := ["_law_store_here", "_law_kind"]) F sc__law_ratio fun cdv A outer s H E hr => by
    have nd := (sc__law_ratio).nd
    have tk : L2N.Takes (cxOf (L2N.CX P w) P w K mg base ["_law_store_here", "_law_kind"] "_law_ratio" (defScope (topS 25)) f cdv A outer s H E) (Wd E) := L2N.takes_of rfl rfl rfl rfl
    have hp : PassesOwn (model P w) (A.deeper (envOfC "_law_ratio" (defScope (topS 25)) s.heap.objs.size f cdv)) (envOfC "_law_ratio" (defScope (topS 25)) s.heap.objs.size f cdv) (cxOf (L2N.CX P w) P w K mg base ["_law_store_here", "_law_kind"] "_law_ratio" (defScope (topS 25)) f cdv A outer s H E).xe := passes_of (X := cxOf (L2N.CX P w) P w K mg base ["_law_store_here", "_law_kind"] "_law_ratio" (defScope (topS 25)) f cdv A outer s H E) rfl
    exact (ss_cons (ss_set 1 nd (se_p c0 tk hr (sa_cons (se_var 0) (sa_cons se_int sa_nil)))) (ss_cons (ss_if (sb_cmp (or_eq hr.units) (se_var 1) se_int) (ss_one (ss_ret (se_tup (sa_cons (se_bin or_sub (se_p c0 tk hr (sa_cons (se_var 0) (sa_cons se_int sa_nil))) se_int) (sa_cons se_int sa_nil))))) ss_nil) (ss_cons (ss_if (sb_cmp (or_eq hr.units) (se_var 1) se_int) (ss_one (ss_ret (se_tup (sa_cons (se_bin or_sub (se_p c0 tk hr (sa_cons (se_var 0) (sa_cons se_int sa_nil))) se_int) (sa_cons se_int sa_nil))))) ss_nil) (ss_one (ss_ret (se_p c1 tk hr (sa_cons (se_bin or_sub (se_p c0 tk hr (sa_cons (se_var 0) (sa_cons se_int sa_nil))) se_int) (sa_cons (se_bin or_add se_int (se_p c0 tk hr (sa_cons (se_var 0) (sa_cons se_int sa_nil)))) sa_nil))))))))
theorem sc__law_is_integer : FnScope ["_law_value"] ["_law_value"] (defScope (topS 26)) := ⟨rfl, rfl, rfl, by decide +kernel, rfl, by decide +kernel, by decide +kernel⟩
theorem ok__law_is_integer {f : Addr} {fd : FuncData} {dvs : List V} (F : FunD K "_law_is_integer" "_law_is_integer" (defArgs (topS 26)) (defBody (topS 26)) (defScope (topS 26)) dvs [] f fd) (z_bool : mg "bool" = none) (z_isinstance : mg "isinstance" = none) (z_int : mg "int" = none) : FnOk P w K mg base (L2N.CX P w) 1 f fd ["_law_value"] (spD K mg m__law_is_integer) :=
  fnD (N := ["_law_value"]) F sc__law_is_integer fun cdv A outer s H E hr => by
    have nd := (sc__law_is_integer).nd
    have tk : L2N.Takes (cxOf (L2N.CX P w) P w K mg base ["_law_value"] "_law_is_integer" (defScope (topS 26)) f cdv A outer s H E) (Wd E) := L2N.takes_of rfl rfl rfl rfl
    have hp : PassesOwn (model P w) (A.deeper (envOfC "_law_is_integer" (defScope (topS 26)) s.heap.objs.size f cdv)) (envOfC "_law_is_integer" (defScope (topS 26)) s.heap.objs.size f cdv) (cxOf (L2N.CX P w) P w K mg base ["_law_value"] "_law_is_integer" (defScope (topS 26)) f cdv A outer s H E).xe := passes_of (X := cxOf (L2N.CX P w) P w K mg base ["_law_value"] "_law_is_integer" (defScope (topS 26)) f cdv A outer s H E) rfl
    exact (ss_one (ss_ret (se_and (se_callB cr_isi z_isinstance (sa_cons (se_var 0) (sa_cons (se_ty (n := "int") z_int) sa_nil))) (se_one (se_not (se_callB cr_isi z_isinstance (sa_cons (se_var 0) (sa_cons (se_ty (n := "bool") z_bool) sa_nil))))))))
theorem sc__law_copy : FnScope ["_law_value", "_law_part", "_law_found", "_law_key"] ["_law_value"] (defScope (topS 27)) := ⟨rfl, rfl, rfl, by decide +kernel, rfl, by decide +kernel, by decide +kernel⟩
theorem ok__law_copy {k : Nat} {ρ : List D → EH → R D} {f : Addr} {fd : FuncData} {dvs : List V} (F : FunD K "_law_copy" "_law_copy" (defArgs (topS 27)) (defBody (topS 27)) (defScope (topS 27)) dvs [] f fd) (hk : 0 ≤ k) (cs : CallP P w K mg base "_law_copy" k ρ []) (z_list : mg "list" = none) (z_isinstance : mg "isinstance" = none) (z_tuple : mg "tuple" = none) (z_dict : mg "dict" = none) : FnOk P w K mg base (L2N.CX P w) (k + 1) f fd ["_law_value"] (spD K mg (mFun 1 4 (b__law_copy ρ))) :=
  fnD (N := ["_law_value", "_law_part", "_law_found", "_law_key"]) F sc__law_copy fun cdv A outer s H E hr => by
    have nd := (sc__law_copy).nd
    have tk : L2N.Takes (cxOf (L2N.CX P w) P w K mg base ["_law_value", "_law_part", "_law_found", "_law_key"] "_law_copy" (defScope (topS 27)) f cdv A outer s H E) (Wd E) := L2N.takes_of rfl rfl rfl rfl
    have hp : PassesOwn (model P w) (A.deeper (envOfC "_law_copy" (defScope (topS 27)) s.heap.objs.size f cdv)) (envOfC "_law_copy" (defScope (topS 27)) s.heap.objs.size f cdv) (cxOf (L2N.CX P w) P w K mg base ["_law_value", "_law_part", "_law_found", "_law_key"] "_law_copy" (defScope (topS 27)) f cdv A outer s H E).xe := passes_of (X := cxOf (L2N.CX P w) P w K mg base ["_law_value", "_law_part", "_law_found", "_law_key"] "_law_copy" (defScope (topS 27)) f cdv A outer s H E) rfl
    exact (ss_cons (ss_if (sb_val (se_callB cr_isi z_isinstance (sa_cons (se_var 0) (sa_cons (se_ty (n := "list") z_list) sa_nil)))) (ss_one (ss_ret (se_new (sl_comp (own := [("_law_part", 1)]) rfl nd (si_seq (se_var 0)) (blkOk_by (N := ["_law_value", "_law_part", "_law_found", "_law_key"]) (sc := defScope (topS 27)) (own := [("_law_part", 1)]) (by decide +kernel)) (by decide) (fun _ _ _ _ _ => (sg_name 1 nd)) (fun _ _ _ _ _ => sts_nil) (fun _ _ _ _ _ => (se_p cs takes_no hr (sa_cons (se_var 1) sa_nil) (hj := Nat.le_refl _))))))) ss_nil) (ss_cons (ss_if (sb_val (se_callB cr_isi z_isinstance (sa_cons (se_var 0) (sa_cons (se_ty (n := "tuple") z_tuple) sa_nil)))) (ss_one (ss_ret (se_tupL z_tuple (sl_comp (own := [("_law_part", 1)]) rfl nd (si_seq (se_var 0)) (blkOk_by (N := ["_law_value", "_law_part", "_law_found", "_law_key"]) (sc := defScope (topS 27)) (own := [("_law_part", 1)]) (by decide +kernel)) (by decide) (fun _ _ _ _ _ => (sg_name 1 nd)) (fun _ _ _ _ _ => sts_nil) (fun _ _ _ _ _ => (se_p cs takes_no hr (sa_cons (se_var 1) sa_nil) (hj := Nat.le_refl _))))))) ss_nil) (ss_cons (ss_if (sb_val (se_callB cr_isi z_isinstance (sa_cons (se_var 0) (sa_cons (se_ty (n := "dict") z_dict) sa_nil)))) (ss_cons (ss_set 2 nd se_dictT) (ss_cons (ss_for hp rfl (si_seq (se_var 0)) (sg_name 3 nd) (ss_one (ss_asg (se_p cs tk hr (sa_cons (se_ix (se_var 0) (se_var 3)) sa_nil) (hj := Nat.le_refl _)) (sg_dput (Room.u65 hr) (se_var 2) (se_var 3))))) (ss_one (ss_ret (se_var 2))))) ss_nil) (ss_one (ss_ret (se_var 0))))))
theorem sc__law_spots : FnScope ["_law_value", "_law_many", "_law_part"] ["_law_value"] (defScope (topS 28)) := ⟨rfl, rfl, rfl, by decide +kernel, rfl, by decide +kernel, by decide +kernel⟩
theorem ok__law_spots {k : Nat} {ρ : List D → EH → R D} {f : Addr} {fd : FuncData} {dvs : List V} (F : FunD K "_law_spots" "_law_spots" (defArgs (topS 28)) (defBody (topS 28)) (defScope (topS 28)) dvs [] f fd) (hk : 0 ≤ k) (cs : CallP P w K mg base "_law_spots" k ρ []) (z_tuple : mg "tuple" = none) (z_list : mg "list" = none) (z_isinstance : mg "isinstance" = none) : FnOk P w K mg base (L2N.CX P w) (k + 1) f fd ["_law_value"] (spD K mg (mFun 1 3 (b__law_spots ρ))) :=
  fnD (N := ["_law_value", "_law_many", "_law_part"]) F sc__law_spots fun cdv A outer s H E hr => by
    have nd := (sc__law_spots).nd
    have tk : L2N.Takes (cxOf (L2N.CX P w) P w K mg base ["_law_value", "_law_many", "_law_part"] "_law_spots" (defScope (topS 28)) f cdv A outer s H E) (Wd E) := L2N.takes_of rfl rfl rfl rfl
    have hp : PassesOwn (model P w) (A.deeper (envOfC "_law_spots" (defScope (topS 28)) s.heap.objs.size f cdv)) (envOfC "_law_spots" (defScope (topS 28)) s.heap.objs.size f cdv) (cxOf (L2N.CX P w) P w K mg base ["_law_value", "_law_many", "_law_part"] "_law_spots" (defScope (topS 28)) f cdv A outer s H E).xe := passes_of (X := cxOf (L2N.CX P w) P w K mg base ["_law_value", "_law_many", "_law_part"] "_law_spots" (defScope (topS 28)) f cdv A outer s H E) rfl
    exact (ss_cons (ss_set 1 nd se_int) (ss_cons (ss_if (sb_val (se_isiT (ts := ["list", "tuple"]) z_isinstance (se_var 0) (scl_ty (n := "list") z_list (scl_ty (n := "tuple") z_tuple scl_nil)))) (ss_one (ss_for hp rfl (si_seq (se_var 0)) (sg_name 2 nd) (ss_one (ss_set 1 nd (se_bin or_add (se_var 1) (se_p cs tk hr (sa_cons (se_var 2) sa_nil) (hj := Nat.le_refl _))))))) ss_nil) (ss_one (ss_ret (se_var 1)))))
theorem sc__law_bend_one : FnScope ["_law_value", "_law_kind"] ["_law_value", "_law_kind"] (defScope (topS 29)) := ⟨rfl, rfl, rfl, by decide +kernel, rfl, by decide +kernel, by decide +kernel⟩
theorem ok__law_bend_one {f : Addr} {fd : FuncData} {dvs : List V} (F : FunD K "_law_bend_one" "_law_bend_one" (defArgs (topS 29)) (defBody (topS 29)) (defScope (topS 29)) dvs [] f fd) (z_bool : mg "bool" = none) (z_isinstance : mg "isinstance" = none) (z_int : mg "int" = none) (z_abs : mg "abs" = none) (z_str : mg "str" = none) (z_tuple : mg "tuple" = none) (z_list : mg "list" = none) : FnOk P w K mg base (L2N.CX P w) 1 f fd ["_law_value", "_law_kind"] (spD K mg m__law_bend_one) :=
  fnD (N := ["_law_value", "_law_kind"]) F sc__law_bend_one fun cdv A outer s H E hr => by
    have nd := (sc__law_bend_one).nd
    have tk : L2N.Takes (cxOf (L2N.CX P w) P w K mg base ["_law_value", "_law_kind"] "_law_bend_one" (defScope (topS 29)) f cdv A outer s H E) (Wd E) := L2N.takes_of rfl rfl rfl rfl
    have hp : PassesOwn (model P w) (A.deeper (envOfC "_law_bend_one" (defScope (topS 29)) s.heap.objs.size f cdv)) (envOfC "_law_bend_one" (defScope (topS 29)) s.heap.objs.size f cdv) (cxOf (L2N.CX P w) P w K mg base ["_law_value", "_law_kind"] "_law_bend_one" (defScope (topS 29)) f cdv A outer s H E).xe := passes_of (X := cxOf (L2N.CX P w) P w K mg base ["_law_value", "_law_kind"] "_law_bend_one" (defScope (topS 29)) f cdv A outer s H E) rfl
    exact (ss_cons (ss_if (sw_pt (sw_or (sb_val (se_callB cr_isi z_isinstance (sa_cons (se_var 0) (sa_cons (se_ty (n := "bool") z_bool) sa_nil)))) (sw_or1 (sb_cmp or_is (se_var 0) se_non)))) (ss_one (ss_ret (se_ix (se_new (sl_disp (sa_cons se_int (sa_cons se_int (sa_cons se_str (sa_cons (se_new (sl_disp (sa_cons (se_var 0) sa_nil))) (sa_cons (se_tup (sa_cons (se_var 0) sa_nil)) (sa_cons (se_new (sl_disp sa_nil)) (sa_cons se_str (sa_cons se_int (sa_cons (se_un ur_neg se_int) (sa_cons (se_tup (sa_cons se_int (sa_cons se_int sa_nil))) sa_nil)))))))))))) (se_var 1)))) ss_nil) (ss_cons (ss_if (sb_val (se_callB cr_isi z_isinstance (sa_cons (se_var 0) (sa_cons (se_ty (n := "int") z_int) sa_nil)))) (ss_one (ss_ret (se_ix (se_new (sl_disp (sa_cons se_non (sa_cons (se_callTy cr_strI z_str (sa_cons (se_var 0) sa_nil)) (sa_cons (se_cmp (or_eq hr.units) (se_var 0) se_int) (sa_cons (se_cmp (or_eq hr.units) (se_var 0) se_int) (sa_cons (se_un ur_neg (se_var 0)) (sa_cons se_int (sa_cons (se_tup (sa_cons (se_var 0) (sa_cons se_int sa_nil))) (sa_cons (se_new (sl_disp (sa_cons (se_var 0) sa_nil))) (sa_cons (se_bin or_div (se_callB cr_abs z_abs (sa_cons (se_var 0) sa_nil)) se_int) (sa_cons se_int sa_nil)))))))))))) (se_var 1)))) ss_nil) (ss_cons (ss_if (sb_val (se_callB cr_isi z_isinstance (sa_cons (se_var 0) (sa_cons (se_ty (n := "str") z_str) sa_nil)))) (ss_one (ss_ret (se_ix (se_new (sl_disp (sa_cons se_non (sa_cons se_str (sa_cons (se_bin or_add (se_var 0) se_str) (sa_cons (se_mt0 (.inr rfl) PySem.F.plainAttrs_str PySem.F.slot_str_upper PySem.F.type_str_upper mr_upper (se_var 0)) (sa_cons (se_new (sl_disp (sa_cons (se_var 0) sa_nil))) (sa_cons (se_tup (sa_cons (se_var 0) sa_nil)) (sa_cons (se_bin or_add (se_var 0) (se_var 0)) (sa_cons se_int (sa_cons se_str (sa_cons se_bl sa_nil)))))))))))) (se_var 1)))) ss_nil) (ss_cons (ss_if (sb_val (se_callB cr_isi z_isinstance (sa_cons (se_var 0) (sa_cons (se_ty (n := "tuple") z_tuple) sa_nil)))) (ss_cons (ss_if (sb_cmp or_lt (se_var 1) se_int) (ss_one (ss_ret (se_ix (se_new (sl_disp (sa_cons se_non (sa_cons (se_new (sl_list z_list (se_var 0))) (sa_cons (se_slice (se_var 0) so_none (so_some (se_un ur_neg se_int))) (sa_cons (se_bin or_add (se_var 0) (se_tup (sa_cons se_int sa_nil))) (sa_cons (se_slice (se_var 0) (so_some se_int) so_none) sa_nil))))))) (se_var 1)))) ss_nil) (ss_one (ss_ret (se_ix (se_new (sl_disp (sa_cons (se_tup (sa_cons (se_var 0) sa_nil)) (sa_cons (se_bin or_add (se_var 0) (se_slice (se_var 0) so_none (so_some se_int))) (sa_cons (se_rev2 (se_var 0)) (sa_cons (se_tup sa_nil) (sa_cons se_int sa_nil))))))) (se_bin or_sub (se_var 1) se_int))))) ss_nil) (ss_cons (ss_if (sb_val (se_callB cr_isi z_isinstance (sa_cons (se_var 0) (sa_cons (se_ty (n := "list") z_list) sa_nil)))) (ss_cons (ss_if (sb_cmp or_lt (se_var 1) se_int) (ss_one (ss_ret (se_ix (se_new (sl_disp (sa_cons se_non (sa_cons (se_callTy cr_tuple z_tuple (sa_cons (se_var 0) sa_nil)) (sa_cons (se_slice (se_var 0) so_none (so_some (se_un ur_neg se_int))) (sa_cons (se_bin or_add (se_var 0) (se_new (sl_disp (sa_cons se_int sa_nil)))) (sa_cons (se_slice (se_var 0) (so_some se_int) so_none) sa_nil))))))) (se_var 1)))) ss_nil) (ss_one (ss_ret (se_ix (se_new (sl_disp (sa_cons (se_new (sl_disp (sa_cons (se_var 0) sa_nil))) (sa_cons (se_bin or_add (se_var 0) (se_slice (se_var 0) so_none (so_some se_int))) (sa_cons (se_rev2 (se_var 0)) (sa_cons (se_new (sl_disp sa_nil)) (sa_cons se_str sa_nil))))))) (se_bin or_sub (se_var 1) se_int))))) ss_nil) (ss_one (ss_ret (se_ix (se_new (sl_disp (sa_cons se_int (sa_cons se_int (sa_cons (se_new (sl_disp sa_nil)) (sa_cons (se_tup sa_nil) (sa_cons se_str (sa_cons se_non (sa_cons se_bl (sa_cons se_str (sa_cons (se_un ur_neg se_int) (sa_cons (se_tup (sa_cons se_int (sa_cons se_int sa_nil))) sa_nil)))))))))))) (se_var 1)))))))))
theorem sc__law_bend : FnScope ["_law_value", "_law_at", "_law_kind", "_law_parts", "_law_left", "_law_part", "_law_many"] ["_law_value", "_law_at", "_law_kind"] (defScope (topS 30)) := ⟨rfl, rfl, rfl, by decide +kernel, rfl, by decide +kernel, by decide +kernel⟩
theorem ok__law_bend {k : Nat} {ρ : List D → EH → R D} {f : Addr} {fd : FuncData} {dvs : List V} (F : FunD K "_law_bend" "_law_bend" (defArgs (topS 30)) (defBody (topS 30)) (defScope (topS 30)) dvs [] f fd) (hk : 6 ≤ k) (cs : CallP P w K mg base "_law_bend" k ρ []) (c0 : CallP P w K mg base "_law_copy" 6 m__law_copy []) (c1 : CallP P w K mg base "_law_bend_one" 1 m__law_bend_one []) (c2 : CallP P w K mg base "_law_spots" 6 m__law_spots []) (z_tuple : mg "tuple" = none) (z_list : mg "list" = none) (z_isinstance : mg "isinstance" = none) : FnOk P w K mg base (L2N.CX P w) (k + 1) f fd ["_law_value", "_law_at", "_law_kind"] (spD K mg (mFun 3 7 (b__law_bend ρ))) :=
  fnD (N := ["_law_value", "_law_at", "_law_kind", "_law_parts", "_law_left", "_law_part", "_law_many"]) F sc__law_bend fun cdv A outer s H E hr => by
    have nd := (sc__law_bend).nd
    have tk : L2N.Takes (cxOf (L2N.CX P w) P w K mg base ["_law_value", "_law_at", "_law_kind", "_law_parts", "_law_left", "_law_part", "_law_many"] "_law_bend" (defScope (topS 30)) f cdv A outer s H E) (Wd E) := L2N.takes_of rfl rfl rfl rfl
    have hp : PassesOwn (model P w) (A.deeper (envOfC "_law_bend" (defScope (topS 30)) s.heap.objs.size f cdv)) (envOfC "_law_bend" (defScope (topS 30)) s.heap.objs.size f cdv) (cxOf (L2N.CX P w) P w K mg base ["_law_value", "_law_at", "_law_kind", "_law_parts", "_law_left", "_law_part", "_law_many"] "_law_bend" (defScope (topS 30)) f cdv A outer s H E).xe := passes_of (X := cxOf (L2N.CX P w) P w K mg base ["_law_value", "_law_at", "_law_kind", "_law_parts", "_law_left", "_law_part", "_law_many"] "_law_bend" (defScope (topS 30)) f cdv A outer s H E) rfl
    exact (ss_cons (ss_if (sb_cmp (or_eq hr.units) (se_var 1) se_int) (ss_one (ss_ret (se_p c1 tk hr (sa_cons (se_p c0 tk hr (sa_cons (se_var 0) sa_nil) (hj := Nat.le_trans (by decide) hk)) (sa_cons (se_var 2) sa_nil)) (hj := Nat.le_trans (by decide) hk)))) ss_nil) (ss_cons (ss_if (sb_not (sb_val (se_isiT (ts := ["list", "tuple"]) z_isinstance (se_var 0) (scl_ty (n := "list") z_list (scl_ty (n := "tuple") z_tuple scl_nil))))) (ss_one (ss_ret (se_var 0))) ss_nil) (ss_cons (ss_set 3 nd (se_new (sl_disp sa_nil))) (ss_cons (ss_set 4 nd (se_bin or_sub (se_var 1) se_int)) (ss_cons (ss_for hp rfl (si_seq (se_var 0)) (sg_name 5 nd) (ss_cons (ss_set 6 nd (se_p c2 tk hr (sa_cons (se_var 5) sa_nil) (hj := Nat.le_trans (by decide) hk))) (ss_cons (ss_if (sw_pt (sw_and (sb_cmp or_ge (se_var 4) se_int) (sw_and1 (sb_cmp or_lt (se_var 4) (se_var 6))))) (ss_one (ss_expr (se_mt (.inl rfl) PySem.F.plainAttrs_list PySem.F.slot_list_append PySem.F.type_list_append mr_append (se_var 3) (sa_cons (se_p cs tk hr (sa_cons (se_var 5) (sa_cons (se_var 4) (sa_cons (se_var 2) sa_nil))) (hj := Nat.le_refl _)) sa_nil)))) (ss_one (ss_expr (se_mt (.inl rfl) PySem.F.plainAttrs_list PySem.F.slot_list_append PySem.F.type_list_append mr_append (se_var 3) (sa_cons (se_p c0 tk hr (sa_cons (se_var 5) sa_nil) (hj := Nat.le_trans (by decide) hk)) sa_nil))))) (ss_one (ss_set 4 nd (se_bin or_sub (se_var 4) (se_var 6))))))) (ss_cons (ss_if (sb_val (se_callB cr_isi z_isinstance (sa_cons (se_var 0) (sa_cons (se_ty (n := "tuple") z_tuple) sa_nil)))) (ss_one (ss_ret (se_callTy cr_tuple z_tuple (sa_cons (se_var 3) sa_nil)))) ss_nil) (ss_one (ss_ret (se_var 3)))))))))
theorem sc__law_point : FnScope ["_law_store_here", "_law_kind", "_law_first", "_law_second"] ["_law_store_here"] (defScope (topS 31)) := ⟨rfl, rfl, rfl, by decide +kernel, rfl, by decide +kernel, by decide +kernel⟩
theorem ok__law_point {f : Addr} {fd : FuncData} {dvs : List V} (F : FunD K "_law_point" "_law_point" (defArgs (topS 31)) (defBody (topS 31)) (defScope (topS 31)) dvs [] f fd) (c0 : CallP P w K mg base "_law_take" 2 m__law_take []) (c1 : CallP P w K mg base "_law_ratio" 3 m__law_ratio []) : FnOk P w K mg base (L2N.CX P w) 4 f fd ["_law_store_here"] (spD K mg m__law_point) :=
  fnD (N := ["_law_store_here", "_law_kind", "_law_first", "_law_second"]) F sc__law_point fun cdv A outer s H E hr => by
    have nd := (sc__law_point).nd
    have tk : L2N.Takes (cxOf (L2N.CX P w) P w K mg base ["_law_store_here", "_law_kind", "_law_first", "_law_second"] "_law_point" (defScope (topS 31)) f cdv A outer s H E) (Wd E) := L2N.takes_of rfl rfl rfl rfl
    have hp : PassesOwn (model P w) (A.deeper (envOfC "_law_point" (defScope (topS 31)) s.heap.objs.size f cdv)) (envOfC "_law_point" (defScope (topS 31)) s.heap.objs.size f cdv) (cxOf (L2N.CX P w) P w K mg base ["_law_store_here", "_law_kind", "_law_first", "_law_second"] "_law_point" (defScope (topS 31)) f cdv A outer s H E).xe := passes_of (X := cxOf (L2N.CX P w) P w K mg base ["_law_store_here", "_law_kind", "_law_first", "_law_second"] "_law_point" (defScope (topS 31)) f cdv A outer s H E) rfl
    exact (ss_cons (ss_set 1 nd (se_p c0 tk hr (sa_cons (se_var 0) (sa_cons se_int sa_nil)))) (ss_cons (ss_if (sb_cmp (or_eq hr.units) (se_var 1) se_int) (ss_one (ss_ret (se_tup (sa_cons (se_tup (sa_cons (se_bin or_sub (se_p c0 tk hr (sa_cons (se_var 0) (sa_cons se_int sa_nil))) se_int) (sa_cons se_int sa_nil))) (sa_cons (se_tup (sa_cons (se_bin or_sub (se_p c0 tk hr (sa_cons (se_var 0) (sa_cons se_int sa_nil))) se_int) (sa_cons se_int sa_nil))) (sa_cons (se_tup (sa_cons (se_bin or_sub (se_p c0 tk hr (sa_cons (se_var 0) (sa_cons se_int sa_nil))) se_int) (sa_cons se_int sa_nil))) sa_nil)))))) ss_nil) (ss_cons (ss_set 2 nd (se_p c1 tk hr (sa_cons (se_var 0) sa_nil))) (ss_cons (ss_if (sb_cmp (or_eq hr.units) (se_var 1) se_int) (ss_one (ss_ret (se_tup (sa_cons (se_var 2) (sa_cons (se_var 2) (sa_cons (se_var 2) sa_nil)))))) ss_nil) (ss_cons (ss_set 3 nd (se_p c1 tk hr (sa_cons (se_var 0) sa_nil))) (ss_one (ss_ret (se_tup (sa_cons (se_var 2) (sa_cons (se_var 3) (sa_cons (se_p c1 tk hr (sa_cons (se_var 0) sa_nil)) sa_nil)))))))))))
theorem sc__law_is_plane : FnScope ["_law_value", "_law_common", "_law_part"] ["_law_value"] (defScope (topS 32)) := ⟨rfl, rfl, rfl, by decide +kernel, rfl, by decide +kernel, by decide +kernel⟩
theorem ok__law_is_plane {f : Addr} {fd : FuncData} {dvs : List V} (F : FunD K "_law_is_plane" "_law_is_plane" (defArgs (topS 32)) (defBody (topS 32)) (defScope (topS 32)) dvs [] f fd) (c0 : CallP P w K mg base "_law_gcd" 1 m__law_gcd []) (c1 : CallP P w K mg base "_law_is_integer" 1 m__law_is_integer []) (z_len : mg "len" = none) (z_tuple : mg "tuple" = none) (z_isinstance : mg "isinstance" = none) : FnOk P w K mg base (L2N.CX P w) 2 f fd ["_law_value"] (spD K mg m__law_is_plane) :=
  fnD (N := ["_law_value", "_law_common", "_law_part"]) F sc__law_is_plane fun cdv A outer s H E hr => by
    have nd := (sc__law_is_plane).nd
    have tk : L2N.Takes (cxOf (L2N.CX P w) P w K mg base ["_law_value", "_law_common", "_law_part"] "_law_is_plane" (defScope (topS 32)) f cdv A outer s H E) (Wd E) := L2N.takes_of rfl rfl rfl rfl
    have hp : PassesOwn (model P w) (A.deeper (envOfC "_law_is_plane" (defScope (topS 32)) s.heap.objs.size f cdv)) (envOfC "_law_is_plane" (defScope (topS 32)) s.heap.objs.size f cdv) (cxOf (L2N.CX P w) P w K mg base ["_law_value", "_law_common", "_law_part"] "_law_is_plane" (defScope (topS 32)) f cdv A outer s H E).xe := passes_of (X := cxOf (L2N.CX P w) P w K mg base ["_law_value", "_law_common", "_law_part"] "_law_is_plane" (defScope (topS 32)) f cdv A outer s H E) rfl
    exact (ss_cons (ss_if (sw_pt (sw_or (sb_not (sb_val (se_callB cr_isi z_isinstance (sa_cons (se_var 0) (sa_cons (se_ty (n := "tuple") z_tuple) sa_nil))))) (sw_or1 (sb_cmp (or_ne hr.units) (se_callB cr_len z_len (sa_cons (se_var 0) sa_nil)) se_int)))) (ss_one (ss_ret se_bl)) ss_nil) (ss_cons (ss_set 1 nd se_int) (ss_cons (ss_for hp rfl (si_seq (se_var 0)) (sg_name 2 nd) (ss_cons (ss_if (sb_not (sb_val (se_p c1 tk hr (sa_cons (se_var 2) sa_nil)))) (ss_one (ss_ret se_bl)) ss_nil) (ss_one (ss_set 1 nd (se_p c0 tk hr (sa_cons (se_var 1) (sa_cons (se_var 2) sa_nil))))))) (ss_cons (ss_if (sb_cmp (or_ne hr.units) (se_var 1) se_int) (ss_one (ss_ret se_bl)) ss_nil) (ss_cons (ss_for hp rfl (si_seq (se_slice (se_var 0) so_none (so_some se_int))) (sg_name 2 nd) (ss_one (ss_if (sb_cmp (or_ne hr.units) (se_var 2) se_int) (ss_one (ss_ret (se_cmp or_gt (se_var 2) se_int))) ss_nil))) (ss_one (ss_ret se_bl)))))))
theorem sc__law_is_condition : FnScope ["_law_value"] ["_law_value"] (defScope (topS 33)) := ⟨rfl, rfl, rfl, by decide +kernel, rfl, by decide +kernel, by decide +kernel⟩
theorem ok__law_is_condition {f : Addr} {fd : FuncData} {dvs : List V} (F : FunD K "_law_is_condition" "_law_is_condition" (defArgs (topS 33)) (defBody (topS 33)) (defScope (topS 33)) dvs [] f fd) (c0 : CallP P w K mg base "_law_is_plane" 2 m__law_is_plane []) (c1 : CallP P w K mg base "_law_is_integer" 1 m__law_is_integer []) (z_len : mg "len" = none) (z_tuple : mg "tuple" = none) (z_isinstance : mg "isinstance" = none) : FnOk P w K mg base (L2N.CX P w) 3 f fd ["_law_value"] (spD K mg m__law_is_condition) :=
  fnD (N := ["_law_value"]) F sc__law_is_condition fun cdv A outer s H E hr => by
    have nd := (sc__law_is_condition).nd
    have tk : L2N.Takes (cxOf (L2N.CX P w) P w K mg base ["_law_value"] "_law_is_condition" (defScope (topS 33)) f cdv A outer s H E) (Wd E) := L2N.takes_of rfl rfl rfl rfl
    have hp : PassesOwn (model P w) (A.deeper (envOfC "_law_is_condition" (defScope (topS 33)) s.heap.objs.size f cdv)) (envOfC "_law_is_condition" (defScope (topS 33)) s.heap.objs.size f cdv) (cxOf (L2N.CX P w) P w K mg base ["_law_value"] "_law_is_condition" (defScope (topS 33)) f cdv A outer s H E).xe := passes_of (X := cxOf (L2N.CX P w) P w K mg base ["_law_value"] "_law_is_condition" (defScope (topS 33)) f cdv A outer s H E) rfl
    exact (ss_cons (ss_if (sw_pt (sw_or (sb_not (sb_val (se_callB cr_isi z_isinstance (sa_cons (se_var 0) (sa_cons (se_ty (n := "tuple") z_tuple) sa_nil))))) (sw_or (sb_cmp (or_ne hr.units) (se_callB cr_len z_len (sa_cons (se_var 0) sa_nil)) se_int) (sw_or1 (sb_not (sb_val (se_p c0 tk hr (sa_cons (se_ix (se_var 0) se_int) sa_nil)))))))) (ss_one (ss_ret se_bl)) ss_nil) (ss_one (ss_ret (se_and (se_p c1 tk hr (sa_cons (se_ix (se_var 0) se_int) sa_nil)) (se_and (se_cmp or_ge (se_ix (se_var 0) se_int) (se_un ur_neg se_int)) (se_one (se_cmp or_le (se_ix (se_var 0) se_int) se_int)))))))
theorem sc__law_is_conditions : FnScope ["_law_value", "_law_part"] ["_law_value"] (defScope (topS 34)) := ⟨rfl, rfl, rfl, by decide +kernel, rfl, by decide +kernel, by decide +kernel⟩
theorem ok__law_is_conditions {f : Addr} {fd : FuncData} {dvs : List V} (F : FunD K "_law_is_conditions" "_law_is_conditions" (defArgs (topS 34)) (defBody (topS 34)) (defScope (topS 34)) dvs [] f fd) (c0 : CallP P w K mg base "_law_is_condition" 3 m__law_is_condition []) (z_list : mg "list" = none) (z_isinstance : mg "isinstance" = none) : FnOk P w K mg base (L2N.CX P w) 4 f fd ["_law_value"] (spD K mg m__law_is_conditions) :=
  fnD (N := ["_law_value", "_law_part"]) F sc__law_is_conditions fun cdv A outer s H E hr => by
    have nd := (sc__law_is_conditions).nd
    have tk : L2N.Takes (cxOf (L2N.CX P w) P w K mg base ["_law_value", "_law_part"] "_law_is_conditions" (defScope (topS 34)) f cdv A outer s H E) (Wd E) := L2N.takes_of rfl rfl rfl rfl
    have hp : PassesOwn (model P w) (A.deeper (envOfC "_law_is_conditions" (defScope (topS 34)) s.heap.objs.size f cdv)) (envOfC "_law_is_conditions" (defScope (topS 34)) s.heap.objs.size f cdv) (cxOf (L2N.CX P w) P w K mg base ["_law_value", "_law_part"] "_law_is_conditions" (defScope (topS 34)) f cdv A outer s H E).xe := passes_of (X := cxOf (L2N.CX P w) P w K mg base ["_law_value", "_law_part"] "_law_is_conditions" (defScope (topS 34)) f cdv A outer s H E) rfl
    exact (ss_cons (ss_if (sb_not (sb_val (se_callB cr_isi z_isinstance (sa_cons (se_var 0) (sa_cons (se_ty (n := "list") z_list) sa_nil))))) (ss_one (ss_ret se_bl)) ss_nil) (ss_cons (ss_for hp rfl (si_seq (se_var 0)) (sg_name 1 nd) (ss_one (ss_if (sb_not (sb_val (se_p c0 tk hr (sa_cons (se_var 1) sa_nil)))) (ss_one (ss_ret se_bl)) ss_nil))) (ss_one (ss_ret se_bl))))
theorem sc__law_form : FnScope ["_law_a", "_law_b", "_law_c", "_law_d", "_law_many", "_law_side"] ["_law_a", "_law_b", "_law_c", "_law_d"] (defScope (topS 35)) := ⟨rfl, rfl, rfl, by decide +kernel, rfl, by decide +kernel, by decide +kernel⟩
theorem ok__law_form {f : Addr} {fd : FuncData} {dvs : List V} (F : FunD K "_law_form" "_law_form" (defArgs (topS 35)) (defBody (topS 35)) (defScope (topS 35)) dvs [] f fd) (c0 : CallP P w K mg base "_law_gcd" 1 m__law_gcd []) : FnOk P w K mg base (L2N.CX P w) 2 f fd ["_law_a", "_law_b", "_law_c", "_law_d"] (spD K mg m__law_form) :=
  fnD (N := ["_law_a", "_law_b", "_law_c", "_law_d", "_law_many", "_law_side"]) F sc__law_form fun cdv A outer s H E hr => by
    have nd := (sc__law_form).nd
    have tk : L2N.Takes (cxOf (L2N.CX P w) P w K mg base ["_law_a", "_law_b", "_law_c", "_law_d", "_law_many", "_law_side"] "_law_form" (defScope (topS 35)) f cdv A outer s H E) (Wd E) := L2N.takes_of rfl rfl rfl rfl
    have hp : PassesOwn (model P w) (A.deeper (envOfC "_law_form" (defScope (topS 35)) s.heap.objs.size f cdv)) (envOfC "_law_form" (defScope (topS 35)) s.heap.objs.size f cdv) (cxOf (L2N.CX P w) P w K mg base ["_law_a", "_law_b", "_law_c", "_law_d", "_law_many", "_law_side"] "_law_form" (defScope (topS 35)) f cdv A outer s H E).xe := passes_of (X := cxOf (L2N.CX P w) P w K mg base ["_law_a", "_law_b", "_law_c", "_law_d", "_law_many", "_law_side"] "_law_form" (defScope (topS 35)) f cdv A outer s H E) rfl
    exact (ss_cons (ss_if (sw_pt (sw_and (sb_cmp (or_eq hr.units) (se_var 0) se_int) (sw_and (sb_cmp (or_eq hr.units) (se_var 1) se_int) (sw_and1 (sb_cmp (or_eq hr.units) (se_var 2) se_int))))) (ss_one (ss_ret se_non)) ss_nil) (ss_cons (ss_set 4 nd (se_p c0 tk hr (sa_cons (se_p c0 tk hr (sa_cons (se_var 0) (sa_cons (se_var 1) sa_nil))) (sa_cons (se_p c0 tk hr (sa_cons (se_var 2) (sa_cons (se_var 3) sa_nil))) sa_nil)))) (ss_cons (ss_set 5 nd se_int) (ss_cons (ss_if (sw_pt (sw_or (sb_cmp or_lt (se_var 0) se_int) (sw_or1 (sw_pt (sw_and (sb_cmp (or_eq hr.units) (se_var 0) se_int) (sw_and1 (sw_pt (sw_or (sb_cmp or_lt (se_var 1) se_int) (sw_or1 (sw_pt (sw_and (sb_cmp (or_eq hr.units) (se_var 1) se_int) (sw_and1 (sb_cmp or_lt (se_var 2) se_int))))))))))))) (ss_one (ss_set 5 nd (se_un ur_neg se_int))) ss_nil) (ss_cons (ss_set 4 nd (se_bin or_mul (se_var 4) (se_var 5))) (ss_one (ss_ret (se_tup (sa_cons (se_tup (sa_cons (se_bin or_div (se_var 0) (se_var 4)) (sa_cons (se_bin or_div (se_var 1) (se_var 4)) (sa_cons (se_bin or_div (se_var 2) (se_var 4)) (sa_cons (se_bin or_div (se_var 3) (se_var 4)) sa_nil))))) (sa_cons (se_var 5) sa_nil))))))))))
theorem sc__law_normal : FnScope ["_law_store_here", "_law_kind", "_law_most", "_law_a", "_law_b", "_law_c"] ["_law_store_here"] (defScope (topS 36)) := ⟨rfl, rfl, rfl, by decide +kernel, rfl, by decide +kernel, by decide +kernel⟩
theorem ok__law_normal {f : Addr} {fd : FuncData} {dvs : List V} (F : FunD K "_law_normal" "_law_normal" (defArgs (topS 36)) (defBody (topS 36)) (defScope (topS 36)) dvs [] f fd) (c0 : CallP P w K mg base "_law_take" 2 m__law_take []) : FnOk P w K mg base (L2N.CX P w) 3 f fd ["_law_store_here"] (spD K mg m__law_normal) :=
  fnD (N := ["_law_store_here", "_law_kind", "_law_most", "_law_a", "_law_b", "_law_c"]) F sc__law_normal fun cdv A outer s H E hr => by
    have nd := (sc__law_normal).nd
    have tk : L2N.Takes (cxOf (L2N.CX P w) P w K mg base ["_law_store_here", "_law_kind", "_law_most", "_law_a", "_law_b", "_law_c"] "_law_normal" (defScope (topS 36)) f cdv A outer s H E) (Wd E) := L2N.takes_of rfl rfl rfl rfl
    have hp : PassesOwn (model P w) (A.deeper (envOfC "_law_normal" (defScope (topS 36)) s.heap.objs.size f cdv)) (envOfC "_law_normal" (defScope (topS 36)) s.heap.objs.size f cdv) (cxOf (L2N.CX P w) P w K mg base ["_law_store_here", "_law_kind", "_law_most", "_law_a", "_law_b", "_law_c"] "_law_normal" (defScope (topS 36)) f cdv A outer s H E).xe := passes_of (X := cxOf (L2N.CX P w) P w K mg base ["_law_store_here", "_law_kind", "_law_most", "_law_a", "_law_b", "_law_c"] "_law_normal" (defScope (topS 36)) f cdv A outer s H E) rfl
    exact (ss_cons (ss_set 1 nd (se_p c0 tk hr (sa_cons (se_var 0) (sa_cons se_int sa_nil)))) (ss_cons (ss_if (sb_cmp or_lt (se_var 1) se_int) (ss_one (ss_ret (se_ix (se_new (sl_disp (sa_cons (se_tup (sa_cons se_int (sa_cons se_int (sa_cons se_int sa_nil)))) (sa_cons (se_tup (sa_cons se_int (sa_cons se_int (sa_cons se_int sa_nil)))) (sa_cons (se_tup (sa_cons se_int (sa_cons se_int (sa_cons se_int sa_nil)))) sa_nil))))) (se_p c0 tk hr (sa_cons (se_var 0) (sa_cons se_int sa_nil)))))) ss_nil) (ss_cons (ss_set 2 nd se_int) (ss_cons (ss_if (sb_cmp or_lt (se_var 1) se_int) (ss_one (ss_set 2 nd se_int)) ss_nil) (ss_cons (ss_set 3 nd (se_bin or_sub (se_p c0 tk hr (sa_cons (se_var 0) (sa_cons (se_bin or_add (se_bin or_mul se_int (se_var 2)) se_int) sa_nil))) (se_var 2))) (ss_cons (ss_set 4 nd (se_bin or_sub (se_p c0 tk hr (sa_cons (se_var 0) (sa_cons (se_bin or_add (se_bin or_mul se_int (se_var 2)) se_int) sa_nil))) (se_var 2))) (ss_cons (ss_set 5 nd (se_bin or_sub (se_p c0 tk hr (sa_cons (se_var 0) (sa_cons (se_bin or_add (se_bin or_mul se_int (se_var 2)) se_int) sa_nil))) (se_var 2))) (ss_cons (ss_if (sw_pt (sw_and (sb_cmp (or_eq hr.units) (se_var 3) se_int) (sw_and (sb_cmp (or_eq hr.units) (se_var 4) se_int) (sw_and1 (sb_cmp (or_eq hr.units) (se_var 5) se_int))))) (ss_one (ss_set 3 nd se_int)) ss_nil) (ss_one (ss_ret (se_tup (sa_cons (se_var 3) (sa_cons (se_var 4) (sa_cons (se_var 5) sa_nil))))))))))))))
theorem sc__law_plane : FnScope ["_law_store_here", "_law_a", "_law_b", "_law_c"] ["_law_store_here"] (defScope (topS 37)) := ⟨rfl, rfl, rfl, by decide +kernel, rfl, by decide +kernel, by decide +kernel⟩
theorem ok__law_plane {f : Addr} {fd : FuncData} {dvs : List V} (F : FunD K "_law_plane" "_law_plane" (defArgs (topS 37)) (defBody (topS 37)) (defScope (topS 37)) dvs [] f fd) (c0 : CallP P w K mg base "_law_normal" 3 m__law_normal []) (c1 : CallP P w K mg base "_law_take" 2 m__law_take []) (c2 : CallP P w K mg base "_law_form" 2 m__law_form []) : FnOk P w K mg base (L2N.CX P w) 4 f fd ["_law_store_here"] (spD K mg m__law_plane) :=
  fnD (N := ["_law_store_here", "_law_a", "_law_b", "_law_c"]) F sc__law_plane fun cdv A outer s H E hr => by
    have nd := (sc__law_plane).nd
    have tk : L2N.Takes (cxOf (L2N.CX P w) P w K mg base ["_law_store_here", "_law_a", "_law_b", "_law_c"] "_law_plane" (defScope (topS 37)) f cdv A outer s H E) (Wd E) := L2N.takes_of rfl rfl rfl rfl
    have hp : PassesOwn (model P w) (A.deeper (envOfC "_law_plane" (defScope (topS 37)) s.heap.objs.size f cdv)) (envOfC "_law_plane" (defScope (topS 37)) s.heap.objs.size f cdv) (cxOf (L2N.CX P w) P w K mg base ["_law_store_here", "_law_a", "_law_b", "_law_c"] "_law_plane" (defScope (topS 37)) f cdv A outer s H E).xe := passes_of (X := cxOf (L2N.CX P w) P w K mg base ["_law_store_here", "_law_a", "_law_b", "_law_c"] "_law_plane" (defScope (topS 37)) f cdv A outer s H E) rfl
    exact (ss_cons (ss_asg (se_p c0 tk hr (sa_cons (se_var 0) sa_nil)) (sg_unp rfl (sgs_cons (sg_name 1 nd) (sgs_cons (sg_name 2 nd) (sgs_cons (sg_name 3 nd) sgs_nil))))) (ss_cons (ss_if (sb_cmp (or_eq hr.units) (se_p c1 tk hr (sa_cons (se_var 0) (sa_cons se_int sa_nil))) se_int) (ss_one (ss_ret (se_ix (se_p c2 tk hr (sa_cons (se_bin or_mul se_int (se_var 1)) (sa_cons (se_bin or_mul se_int (se_var 2)) (sa_cons (se_bin or_mul se_int (se_var 3)) (sa_cons (se_bin or_sub (se_bin or_mul se_int (se_p c1 tk hr (sa_cons (se_var 0) (sa_cons se_int sa_nil)))) se_int) sa_nil))))) se_int))) ss_nil) (ss_one (ss_ret (se_ix (se_p c2 tk hr (sa_cons (se_var 1) (sa_cons (se_var 2) (sa_cons (se_var 3) (sa_cons (se_bin or_sub (se_p c1 tk hr (sa_cons (se_var 0) (sa_cons se_int sa_nil))) se_int) sa_nil))))) se_int)))))
theorem sc__law_wide_plane : FnScope ["_law_store_here", "_law_a", "_law_b", "_law_found"] ["_law_store_here"] (defScope (topS 38)) := ⟨rfl, rfl, rfl, by decide +kernel, rfl, by decide +kernel, by decide +kernel⟩
theorem ok__law_wide_plane {f : Addr} {fd : FuncData} {dvs : List V} (F : FunD K "_law_wide_plane" "_law_wide_plane" (defArgs (topS 38)) (defBody (topS 38)) (defScope (topS 38)) dvs [] f fd) (c0 : CallP P w K mg base "_law_take" 2 m__law_take []) (c1 : CallP P w K mg base "_law_plane" 4 m__law_plane []) (c2 : CallP P w K mg base "_law_integer" 4 m__law_integer []) (c3 : CallP P w K mg base "_law_form" 2 m__law_form []) : FnOk P w K mg base (L2N.CX P w) 5 f fd ["_law_store_here"] (spD K mg m__law_wide_plane) :=
  fnD (N := ["_law_store_here", "_law_a", "_law_b", "_law_found"]) F sc__law_wide_plane fun cdv A outer s H E hr => by
    have nd := (sc__law_wide_plane).nd
    have tk : L2N.Takes (cxOf (L2N.CX P w) P w K mg base ["_law_store_here", "_law_a", "_law_b", "_law_found"] "_law_wide_plane" (defScope (topS 38)) f cdv A outer s H E) (Wd E) := L2N.takes_of rfl rfl rfl rfl
    have hp : PassesOwn (model P w) (A.deeper (envOfC "_law_wide_plane" (defScope (topS 38)) s.heap.objs.size f cdv)) (envOfC "_law_wide_plane" (defScope (topS 38)) s.heap.objs.size f cdv) (cxOf (L2N.CX P w) P w K mg base ["_law_store_here", "_law_a", "_law_b", "_law_found"] "_law_wide_plane" (defScope (topS 38)) f cdv A outer s H E).xe := passes_of (X := cxOf (L2N.CX P w) P w K mg base ["_law_store_here", "_law_a", "_law_b", "_law_found"] "_law_wide_plane" (defScope (topS 38)) f cdv A outer s H E) rfl
    exact (ss_cons (ss_if (sb_cmp (or_eq hr.units) (se_p c0 tk hr (sa_cons (se_var 0) (sa_cons se_int sa_nil))) se_int) (ss_one (ss_ret (se_p c1 tk hr (sa_cons (se_var 0) sa_nil)))) ss_nil) (ss_cons (ss_set 1 nd (se_p c2 tk hr (sa_cons (se_var 0) sa_nil))) (ss_cons (ss_set 2 nd (se_p c2 tk hr (sa_cons (se_var 0) sa_nil))) (ss_cons (ss_set 3 nd (se_p c3 tk hr (sa_cons (se_var 1) (sa_cons (se_var 2) (sa_cons (se_p c2 tk hr (sa_cons (se_var 0) sa_nil)) (sa_cons (se_p c2 tk hr (sa_cons (se_var 0) sa_nil)) sa_nil)))))) (ss_cons (ss_if (sb_cmp or_is (se_var 3) se_non) (ss_one (ss_ret (se_tup (sa_cons se_int (sa_cons se_int (sa_cons se_int (sa_cons se_int sa_nil))))))) ss_nil) (ss_one (ss_ret (se_ix (se_var 3) se_int))))))))
theorem sc__law_over : FnScope ["_law_one", "_law_a", "_law_b", "_law_c"] ["_law_one"] (defScope (topS 39)) := ⟨rfl, rfl, rfl, by decide +kernel, rfl, by decide +kernel, by decide +kernel⟩
theorem ok__law_over {f : Addr} {fd : FuncData} {dvs : List V} (F : FunD K "_law_over" "_law_over" (defArgs (topS 39)) (defBody (topS 39)) (defScope (topS 39)) dvs [] f fd)  : FnOk P w K mg base (L2N.CX P w) 1 f fd ["_law_one"] (spD K mg m__law_over) :=
  fnD (N := ["_law_one", "_law_a", "_law_b", "_law_c"]) F sc__law_over fun cdv A outer s H E hr => by
    have nd := (sc__law_over).nd
    have tk : L2N.Takes (cxOf (L2N.CX P w) P w K mg base ["_law_one", "_law_a", "_law_b", "_law_c"] "_law_over" (defScope (topS 39)) f cdv A outer s H E) (Wd E) := L2N.takes_of rfl rfl rfl rfl
    have hp : PassesOwn (model P w) (A.deeper (envOfC "_law_over" (defScope (topS 39)) s.heap.objs.size f cdv)) (envOfC "_law_over" (defScope (topS 39)) s.heap.objs.size f cdv) (cxOf (L2N.CX P w) P w K mg base ["_law_one", "_law_a", "_law_b", "_law_c"] "_law_over" (defScope (topS 39)) f cdv A outer s H E).xe := passes_of (X := cxOf (L2N.CX P w) P w K mg base ["_law_one", "_law_a", "_law_b", "_law_c"] "_law_over" (defScope (topS 39)) f cdv A outer s H E) rfl
    exact (ss_cons (ss_asg (se_var 0) (sg_unp rfl (sgs_cons (sg_name 1 nd) (sgs_cons (sg_name 2 nd) (sgs_cons (sg_name 3 nd) sgs_nil))))) (ss_one (ss_ret (se_new (sl_disp (sa_cons (se_bin or_mul (se_bin or_mul (se_ix (se_var 1) se_int) (se_ix (se_var 2) se_int)) (se_ix (se_var 3) se_int)) (sa_cons (se_bin or_mul (se_bin or_mul (se_ix (se_var 2) se_int) (se_ix (se_var 1) se_int)) (se_ix (se_var 3) se_int)) (sa_cons (se_bin or_mul (se_bin or_mul (se_ix (se_var 3) se_int) (se_ix (se_var 1) se_int)) (se_ix (se_var 2) se_int)) (sa_cons (se_bin or_mul (se_bin or_mul (se_ix (se_var 1) se_int) (se_ix (se_var 2) se_int)) (se_ix (se_var 3) se_int)) sa_nil)))))))))
theorem sc__law_value_sign : FnScope ["_law_plane_here", "_law_one", "_law_parts"] ["_law_plane_here", "_law_one"] (defScope (topS 40)) := ⟨rfl, rfl, rfl, by decide +kernel, rfl, by decide +kernel, by decide +kernel⟩
theorem ok__law_value_sign {f : Addr} {fd : FuncData} {dvs : List V} (F : FunD K "_law_value_sign" "_law_value_sign" (defArgs (topS 40)) (defBody (topS 40)) (defScope (topS 40)) dvs [] f fd) (c0 : CallP P w K mg base "_law_over" 1 m__law_over []) : FnOk P w K mg base (L2N.CX P w) 2 f fd ["_law_plane_here", "_law_one"] (spD K mg m__law_value_sign) :=
  fnD (N := ["_law_plane_here", "_law_one", "_law_parts"]) F sc__law_value_sign fun cdv A outer s H E hr => by
    have nd := (sc__law_value_sign).nd
    have tk : L2N.Takes (cxOf (L2N.CX P w) P w K mg base ["_law_plane_here", "_law_one", "_law_parts"] "_law_value_sign" (defScope (topS 40)) f cdv A outer s H E) (Wd E) := L2N.takes_of rfl rfl rfl rfl
    have hp : PassesOwn (model P w) (A.deeper (envOfC "_law_value_sign" (defScope (topS 40)) s.heap.objs.size f cdv)) (envOfC "_law_value_sign" (defScope (topS 40)) s.heap.objs.size f cdv) (cxOf (L2N.CX P w) P w K mg base ["_law_plane_here", "_law_one", "_law_parts"] "_law_value_sign" (defScope (topS 40)) f cdv A outer s H E).xe := passes_of (X := cxOf (L2N.CX P w) P w K mg base ["_law_plane_here", "_law_one", "_law_parts"] "_law_value_sign" (defScope (topS 40)) f cdv A outer s H E) rfl
    exact (ss_cons (ss_set 2 nd (se_p c0 tk hr (sa_cons (se_var 1) sa_nil))) (ss_one (ss_ret (se_bin or_add (se_bin or_add (se_bin or_add (se_bin or_mul (se_ix (se_var 0) se_int) (se_ix (se_var 2) se_int)) (se_bin or_mul (se_ix (se_var 0) se_int) (se_ix (se_var 2) se_int))) (se_bin or_mul (se_ix (se_var 0) se_int) (se_ix (se_var 2) se_int))) (se_bin or_mul (se_ix (se_var 0) se_int) (se_ix (se_var 2) se_int))))))
theorem sc__law_condition : FnScope ["_law_store_here", "_law_points", "_law_need", "_law_a", "_law_b", "_law_c", "_law_parts", "_law_last"] ["_law_store_here", "_law_points"] (defScope (topS 41)) := ⟨rfl, rfl, rfl, by decide +kernel, rfl, by decide +kernel, by decide +kernel⟩
theorem ok__law_condition {f : Addr} {fd : FuncData} {dvs : List V} (F : FunD K "_law_condition" "_law_condition" (defArgs (topS 41)) (defBody (topS 41)) (defScope (topS 41)) dvs [] f fd) (c0 : CallP P w K mg base "_law_take" 2 m__law_take []) (c1 : CallP P w K mg base "_law_wide_plane" 5 m__law_wide_plane []) (c2 : CallP P w K mg base "_law_normal" 3 m__law_normal []) (c3 : CallP P w K mg base "_law_pick" 3 m__law_pick []) (c4 : CallP P w K mg base "_law_over" 1 m__law_over []) (c5 : CallP P w K mg base "_law_form" 2 m__law_form []) : FnOk P w K mg base (L2N.CX P w) 6 f fd ["_law_store_here", "_law_points"] (spD K mg m__law_condition) :=
  fnD (N := ["_law_store_here", "_law_points", "_law_need", "_law_a", "_law_b", "_law_c", "_law_parts", "_law_last"]) F sc__law_condition fun cdv A outer s H E hr => by
    have nd := (sc__law_condition).nd
    have tk : L2N.Takes (cxOf (L2N.CX P w) P w K mg base ["_law_store_here", "_law_points", "_law_need", "_law_a", "_law_b", "_law_c", "_law_parts", "_law_last"] "_law_condition" (defScope (topS 41)) f cdv A outer s H E) (Wd E) := L2N.takes_of rfl rfl rfl rfl
    have hp : PassesOwn (model P w) (A.deeper (envOfC "_law_condition" (defScope (topS 41)) s.heap.objs.size f cdv)) (envOfC "_law_condition" (defScope (topS 41)) s.heap.objs.size f cdv) (cxOf (L2N.CX P w) P w K mg base ["_law_store_here", "_law_points", "_law_need", "_law_a", "_law_b", "_law_c", "_law_parts", "_law_last"] "_law_condition" (defScope (topS 41)) f cdv A outer s H E).xe := passes_of (X := cxOf (L2N.CX P w) P w K mg base ["_law_store_here", "_law_points", "_law_need", "_law_a", "_law_b", "_law_c", "_law_parts", "_law_last"] "_law_condition" (defScope (topS 41)) f cdv A outer s H E) rfl
    exact (ss_cons (ss_set 2 nd (se_bin or_sub (se_p c0 tk hr (sa_cons (se_var 0) (sa_cons se_int sa_nil))) se_int)) (ss_cons (ss_if (sb_cmp (or_eq hr.units) (se_p c0 tk hr (sa_cons (se_var 0) (sa_cons se_int sa_nil))) se_int) (ss_one (ss_ret (se_tup (sa_cons (se_p c1 tk hr (sa_cons (se_var 0) sa_nil)) (sa_cons (se_var 2) sa_nil))))) ss_nil) (ss_cons (ss_asg (se_p c2 tk hr (sa_cons (se_var 0) sa_nil)) (sg_unp rfl (sgs_cons (sg_name 3 nd) (sgs_cons (sg_name 4 nd) (sgs_cons (sg_name 5 nd) sgs_nil))))) (ss_cons (ss_set 6 nd (se_p c4 tk hr (sa_cons (se_p c3 tk hr (sa_cons (se_var 0) (sa_cons (se_var 1) sa_nil))) sa_nil))) (ss_cons (ss_set 7 nd (se_bin or_sub (se_bin or_sub (se_bin or_mul (se_un ur_neg (se_var 3)) (se_ix (se_var 6) se_int)) (se_bin or_mul (se_var 4) (se_ix (se_var 6) se_int))) (se_bin or_mul (se_var 5) (se_ix (se_var 6) se_int)))) (ss_one (ss_ret (se_tup (sa_cons (se_ix (se_p c5 tk hr (sa_cons (se_bin or_mul (se_var 3) (se_ix (se_var 6) se_int)) (sa_cons (se_bin or_mul (se_var 4) (se_ix (se_var 6) se_int)) (sa_cons (se_bin or_mul (se_var 5) (se_ix (se_var 6) se_int)) (sa_cons (se_var 7) sa_nil))))) se_int) (sa_cons (se_var 2) sa_nil))))))))))
theorem sc__law_true : FnScope ["_law_condition_here", "_law_one", "_law_plane_here", "_law_need", "_law_total"] ["_law_condition_here", "_law_one"] (defScope (topS 43)) := ⟨rfl, rfl, rfl, by decide +kernel, rfl, by decide +kernel, by decide +kernel⟩
theorem ok__law_true {f : Addr} {fd : FuncData} {dvs : List V} (F : FunD K "_law_true" "_law_true" (defArgs (topS 43)) (defBody (topS 43)) (defScope (topS 43)) dvs [] f fd) (c0 : CallP P w K mg base "_law_value_sign" 2 m__law_value_sign []) : FnOk P w K mg base (L2N.CX P w) 3 f fd ["_law_condition_here", "_law_one"] (spD K mg m__law_true) :=
  fnD (N := ["_law_condition_here", "_law_one", "_law_plane_here", "_law_need", "_law_total"]) F sc__law_true fun cdv A outer s H E hr => by
    have nd := (sc__law_true).nd
    have tk : L2N.Takes (cxOf (L2N.CX P w) P w K mg base ["_law_condition_here", "_law_one", "_law_plane_here", "_law_need", "_law_total"] "_law_true" (defScope (topS 43)) f cdv A outer s H E) (Wd E) := L2N.takes_of rfl rfl rfl rfl
    have hp : PassesOwn (model P w) (A.deeper (envOfC "_law_true" (defScope (topS 43)) s.heap.objs.size f cdv)) (envOfC "_law_true" (defScope (topS 43)) s.heap.objs.size f cdv) (cxOf (L2N.CX P w) P w K mg base ["_law_condition_here", "_law_one", "_law_plane_here", "_law_need", "_law_total"] "_law_true" (defScope (topS 43)) f cdv A outer s H E).xe := passes_of (X := cxOf (L2N.CX P w) P w K mg base ["_law_condition_here", "_law_one", "_law_plane_here", "_law_need", "_law_total"] "_law_true" (defScope (topS 43)) f cdv A outer s H E) rfl
    exact (ss_cons (ss_asg (se_var 0) (sg_unp rfl (sgs_cons (sg_name 2 nd) (sgs_cons (sg_name 3 nd) sgs_nil)))) (ss_cons (ss_set 4 nd (se_p c0 tk hr (sa_cons (se_var 2) (sa_cons (se_var 1) sa_nil)))) (ss_cons (ss_if (sb_cmp (or_eq hr.units) (se_var 3) se_int) (ss_one (ss_ret (se_cmp or_gt (se_var 4) se_int))) ss_nil) (ss_cons (ss_if (sb_cmp (or_eq hr.units) (se_var 3) se_int) (ss_one (ss_ret (se_cmp or_ge (se_var 4) se_int))) ss_nil) (ss_cons (ss_if (sb_cmp (or_eq hr.units) (se_var 3) se_int) (ss_one (ss_ret (se_cmp (or_eq hr.units) (se_var 4) se_int))) ss_nil) (ss_cons (ss_if (sb_cmp (or_eq hr.units) (se_var 3) (se_un ur_neg se_int)) (ss_one (ss_ret (se_cmp or_lt (se_var 4) se_int))) ss_nil) (ss_one (ss_ret (se_cmp or_le (se_var 4) se_int)))))))))
theorem sc__law_listed : FnScope ["_law_store_here", "_law_points", "_law_many", "_law_kind", "_law_found", "_law_k", "_law_plane_here", "_law_need", "_law_part", "_law_total"] ["_law_store_here", "_law_points", "_law_many"] (defScope (topS 42)) := ⟨rfl, rfl, rfl, by decide +kernel, rfl, by decide +kernel, by decide +kernel⟩
theorem ok__law_listed {f : Addr} {fd : FuncData} {dvs : List V} (F : FunD K "_law_listed" "_law_listed" (defArgs (topS 42)) (defBody (topS 42)) (defScope (topS 42)) dvs [] f fd) (c0 : CallP P w K mg base "_law_take" 2 m__law_take []) (c1 : CallP P w K mg base "_law_true" 3 m__law_true []) (c2 : CallP P w K mg base "_law_value_sign" 2 m__law_value_sign []) (c3 : CallP P w K mg base "_law_pick" 3 m__law_pick []) (c4 : CallP P w K mg base "_law_condition" 6 m__law_condition []) (z_range : mg "range" = none) (z_int : mg "int" = none) : FnOk P w K mg base (L2N.CX P w) 7 f fd ["_law_store_here", "_law_points", "_law_many"] (spD K mg m__law_listed) :=
  fnD (N := ["_law_store_here", "_law_points", "_law_many", "_law_kind", "_law_found", "_law_k", "_law_plane_here", "_law_need", "_law_part", "_law_total"]) F sc__law_listed fun cdv A outer s H E hr => by
    have nd := (sc__law_listed).nd
    have tk : L2N.Takes (cxOf (L2N.CX P w) P w K mg base ["_law_store_here", "_law_points", "_law_many", "_law_kind", "_law_found", "_law_k", "_law_plane_here", "_law_need", "_law_part", "_law_total"] "_law_listed" (defScope (topS 42)) f cdv A outer s H E) (Wd E) := L2N.takes_of rfl rfl rfl rfl
    have hp : PassesOwn (model P w) (A.deeper (envOfC "_law_listed" (defScope (topS 42)) s.heap.objs.size f cdv)) (envOfC "_law_listed" (defScope (topS 42)) s.heap.objs.size f cdv) (cxOf (L2N.CX P w) P w K mg base ["_law_store_here", "_law_points", "_law_many", "_law_kind", "_law_found", "_law_k", "_law_plane_here", "_law_need", "_law_part", "_law_total"] "_law_listed" (defScope (topS 42)) f cdv A outer s H E).xe := passes_of (X := cxOf (L2N.CX P w) P w K mg base ["_law_store_here", "_law_points", "_law_many", "_law_kind", "_law_found", "_law_k", "_law_plane_here", "_law_need", "_law_part", "_law_total"] "_law_listed" (defScope (topS 42)) f cdv A outer s H E) rfl
    exact (ss_cons (ss_set 3 nd (se_p c0 tk hr (sa_cons (se_var 0) (sa_cons se_int sa_nil)))) (ss_cons (ss_set 4 nd (se_new (sl_disp sa_nil))) (ss_cons (ss_for hp rfl (si_range1 z_range (sa_cons (se_var 2) sa_nil)) (sg_name 5 nd) (ss_cons (ss_if (sw_pt (sw_and (sb_cmp or_gt (se_var 5) se_int) (sw_and1 (sb_cmp (or_eq hr.units) (se_p c0 tk hr (sa_cons (se_var 0) (sa_cons se_int sa_nil))) se_int)))) (ss_cons (ss_asg (se_p c3 tk hr (sa_cons (se_var 0) (sa_cons (se_var 4) sa_nil))) (sg_unp rfl (sgs_cons (sg_name 6 nd) (sgs_cons (sg_name 7 nd) sgs_nil)))) (ss_one (ss_set 8 nd (se_tup (sa_cons (se_var 6) (sa_cons (se_bin or_sub (se_var 7) (se_bin or_mul (se_bin or_mul se_int (se_var 7)) (se_p c0 tk hr (sa_cons (se_var 0) (sa_cons se_int sa_nil))))) sa_nil)))))) (ss_one (ss_set 8 nd (se_p c4 tk hr (sa_cons (se_var 0) (sa_cons (se_var 1) sa_nil)))))) (ss_cons (ss_if (sw_pt (sw_and (sb_cmp (or_eq hr.units) (se_var 3) se_int) (sw_and1 (sb_not (sb_val (se_p c1 tk hr (sa_cons (se_var 8) (sa_cons (se_ix (se_var 1) se_int) sa_nil)))))))) (ss_cons (ss_set 9 nd (se_p c2 tk hr (sa_cons (se_ix (se_var 8) se_int) (sa_cons (se_ix (se_var 1) se_int) sa_nil)))) (ss_one (ss_set 8 nd (se_tup (sa_cons (se_ix (se_var 8) se_int) (sa_cons (se_bin or_mul se_int (se_bin or_sub (se_callTy cr_int z_int (sa_cons (se_cmp or_gt (se_var 9) se_int) sa_nil)) (se_callTy cr_int z_int (sa_cons (se_cmp or_lt (se_var 9) se_int) sa_nil)))) sa_nil)))))) ss_nil) (ss_one (ss_expr (se_mt (.inl rfl) PySem.F.plainAttrs_list PySem.F.slot_list_append PySem.F.type_list_append mr_append (se_var 4) (sa_cons (se_var 8) sa_nil))))))) (ss_one (ss_ret (se_var 4))))))
theorem sc__law_bool : FnScope ["_law_actual", "_law_due"] ["_law_actual", "_law_due"] (defScope (topS 44)) := ⟨rfl, rfl, rfl, by decide +kernel, rfl, by decide +kernel, by decide +kernel⟩
theorem ok__law_bool {f : Addr} {fd : FuncData} {dvs : List V} (F : FunD K "_law_bool" "_law_bool" (defArgs (topS 44)) (defBody (topS 44)) (defScope (topS 44)) dvs [] f fd) (z_bool : mg "bool" = none) (z_isinstance : mg "isinstance" = none) : FnOk P w K mg base (L2N.CX P w) 1 f fd ["_law_actual", "_law_due"] (spD K mg m__law_bool) :=
  fnD (N := ["_law_actual", "_law_due"]) F sc__law_bool fun cdv A outer s H E hr => by
    have nd := (sc__law_bool).nd
    have tk : L2N.Takes (cxOf (L2N.CX P w) P w K mg base ["_law_actual", "_law_due"] "_law_bool" (defScope (topS 44)) f cdv A outer s H E) (Wd E) := L2N.takes_of rfl rfl rfl rfl
    have hp : PassesOwn (model P w) (A.deeper (envOfC "_law_bool" (defScope (topS 44)) s.heap.objs.size f cdv)) (envOfC "_law_bool" (defScope (topS 44)) s.heap.objs.size f cdv) (cxOf (L2N.CX P w) P w K mg base ["_law_actual", "_law_due"] "_law_bool" (defScope (topS 44)) f cdv A outer s H E).xe := passes_of (X := cxOf (L2N.CX P w) P w K mg base ["_law_actual", "_law_due"] "_law_bool" (defScope (topS 44)) f cdv A outer s H E) rfl
    exact (ss_one (ss_ret (se_and (se_callB cr_isi z_isinstance (sa_cons (se_var 0) (sa_cons (se_ty (n := "bool") z_bool) sa_nil))) (se_one (se_cmp (or_eq hr.units) (se_var 0) (se_var 1))))))
theorem sc__law_held : FnScope ["_law_items", "_law_one", "_law_singles", "_law_part", "_law_due", "_law_k"] ["_law_items", "_law_one"] (defScope (topS 45)) := ⟨rfl, rfl, rfl, by decide +kernel, rfl, by decide +kernel, by decide +kernel⟩
theorem ok__law_held {f : Addr} {fd : FuncData} {dvs : List V} (F : FunD K "_law_held" "_law_held" (defArgs (topS 45)) (defBody (topS 45)) (defScope (topS 45)) dvs [] f fd) (c0 : CallP P w K mg base "_law_true" 3 m__law_true []) (c1 : CallK P w K mg base "holds" 4 m_holds 0 ["point", "conditions"] g_holds_0_point_conditions) (c2 : CallP P w K mg base "_law_bool" 1 m__law_bool []) (c3 : CallP P w K mg base "holds" 4 m_holds []) (c4 : CallP P w K mg base "closed" 2 m_closed []) (z_len : mg "len" = none) (z_min : mg "min" = none) (z_range : mg "range" = none) : FnOk P w K mg base (L2N.CX P w) 5 f fd ["_law_items", "_law_one"] (spD K mg m__law_held) :=
  fnD (N := ["_law_items", "_law_one", "_law_singles", "_law_part", "_law_due", "_law_k"]) F sc__law_held fun cdv A outer s H E hr => by
    have nd := (sc__law_held).nd
    have tk : L2N.Takes (cxOf (L2N.CX P w) P w K mg base ["_law_items", "_law_one", "_law_singles", "_law_part", "_law_due", "_law_k"] "_law_held" (defScope (topS 45)) f cdv A outer s H E) (Wd E) := L2N.takes_of rfl rfl rfl rfl
    have hp : PassesOwn (model P w) (A.deeper (envOfC "_law_held" (defScope (topS 45)) s.heap.objs.size f cdv)) (envOfC "_law_held" (defScope (topS 45)) s.heap.objs.size f cdv) (cxOf (L2N.CX P w) P w K mg base ["_law_items", "_law_one", "_law_singles", "_law_part", "_law_due", "_law_k"] "_law_held" (defScope (topS 45)) f cdv A outer s H E).xe := passes_of (X := cxOf (L2N.CX P w) P w K mg base ["_law_items", "_law_one", "_law_singles", "_law_part", "_law_due", "_law_k"] "_law_held" (defScope (topS 45)) f cdv A outer s H E) rfl
    exact (ss_cons (ss_setLc (own := [("_law_part", 3)]) 2 rfl nd (si_seq (se_var 0)) (blkOk_by (N := ["_law_items", "_law_one", "_law_singles", "_law_part", "_law_due", "_law_k"]) (sc := defScope (topS 45)) (own := [("_law_part", 3)]) (by decide +kernel)) (by decide) (fun _ _ _ _ _ => (sg_name 3 nd)) (fun _ _ _ _ _ => sts_nil) (fun _ _ _ _ _ => (se_p c0 takes_no hr (sa_cons (se_var 3) (sa_cons (se_var 1) sa_nil)))) (sw_true rfl rfl rfl (by decide +kernel))) (ss_cons (ss_set 4 nd (se_cmp (or_notIn (Room.u65 hr)) se_bl (se_var 2))) (ss_cons (ss_if (sw_pt (sw_or (sb_not (sb_val (se_p c2 tk hr (sa_cons (se_p c3 tk hr (sa_cons (se_var 0) (sa_cons (se_var 1) sa_nil))) (sa_cons (se_var 4) sa_nil))))) (sw_or1 (sb_not (sb_val (se_p c2 tk hr (sa_cons (se_k0 c1 tk hr (sk_cons (se_var 1) (sk_cons (se_var 0) sk_nil))) (sa_cons (se_var 4) sa_nil)))))))) (ss_one (ss_ret se_bl)) ss_nil) (ss_cons (ss_for hp rfl (si_range1 z_range (sa_cons (se_callB (cr_min2 rfl) z_min (sa_cons se_int (sa_cons (se_callB cr_len z_len (sa_cons (se_var 0) sa_nil)) sa_nil))) sa_nil)) (sg_name 5 nd) (ss_one (ss_if (sb_not (sb_val (se_p c2 tk hr (sa_cons (se_p c3 tk hr (sa_cons (se_new (sl_disp (sa_cons (se_ix (se_var 0) (se_var 5)) sa_nil))) (sa_cons (se_var 1) sa_nil))) (sa_cons (se_ix (se_var 2) (se_var 5)) sa_nil))))) (ss_one (ss_ret se_bl)) ss_nil))) (ss_cons (ss_if (sw_pt (sw_and (sb_tru (se_var 4)) (sw_and1 (sb_not (sb_val (se_p c2 tk hr (sa_cons (se_p c3 tk hr (sa_cons (se_p c4 tk hr (sa_cons (se_var 0) sa_nil)) (sa_cons (se_var 1) sa_nil))) (sa_cons se_bl sa_nil)))))))) (ss_one (ss_ret se_bl)) ss_nil) (ss_one (ss_ret (se_and (se_p c2 tk hr (sa_cons (se_p c3 tk hr (sa_cons (se_new (sl_comp (own := [("_law_k", 5)]) rfl nd (si_range1 z_range (sa_cons (se_callB cr_len z_len (sa_cons (se_var 0) sa_nil)) sa_nil)) (blkOk_by (N := ["_law_items", "_law_one", "_law_singles", "_law_part", "_law_due", "_law_k"]) (sc := defScope (topS 45)) (own := [("_law_k", 5)]) (by decide +kernel)) (by decide) (fun _ _ _ _ _ => (sg_name 5 nd)) (fun _ _ _ _ _ => sts_nil) (fun _ _ _ _ _ => (se_ix (se_var 0) (se_bin or_sub (se_un ur_neg se_int) (se_var 5)))))) (sa_cons (se_var 1) sa_nil))) (sa_cons (se_var 4) sa_nil))) (se_one (se_p c2 tk hr (sa_cons (se_p c3 tk hr (sa_cons (se_new (sl_disp sa_nil)) (sa_cons (se_var 1) sa_nil))) (sa_cons se_bl sa_nil))))))))))))
theorem sc__law_is : FnScope ["_law_actual", "_law_due"] ["_law_actual", "_law_due"] (defScope (topS 46)) := ⟨rfl, rfl, rfl, by decide +kernel, rfl, by decide +kernel, by decide +kernel⟩
theorem ok__law_is {f : Addr} {fd : FuncData} {dvs : List V} (F : FunD K "_law_is" "_law_is" (defArgs (topS 46)) (defBody (topS 46)) (defScope (topS 46)) dvs [] f fd) (c0 : CallP P w K mg base "_law_is_conditions" 4 m__law_is_conditions []) : FnOk P w K mg base (L2N.CX P w) 5 f fd ["_law_actual", "_law_due"] (spD K mg m__law_is) :=
  fnD (N := ["_law_actual", "_law_due"]) F sc__law_is fun cdv A outer s H E hr => by
    have nd := (sc__law_is).nd
    have tk : L2N.Takes (cxOf (L2N.CX P w) P w K mg base ["_law_actual", "_law_due"] "_law_is" (defScope (topS 46)) f cdv A outer s H E) (Wd E) := L2N.takes_of rfl rfl rfl rfl
    have hp : PassesOwn (model P w) (A.deeper (envOfC "_law_is" (defScope (topS 46)) s.heap.objs.size f cdv)) (envOfC "_law_is" (defScope (topS 46)) s.heap.objs.size f cdv) (cxOf (L2N.CX P w) P w K mg base ["_law_actual", "_law_due"] "_law_is" (defScope (topS 46)) f cdv A outer s H E).xe := passes_of (X := cxOf (L2N.CX P w) P w K mg base ["_law_actual", "_law_due"] "_law_is" (defScope (topS 46)) f cdv A outer s H E) rfl
    exact (ss_one (ss_ret (se_and (se_p c0 tk hr (sa_cons (se_var 0) sa_nil)) (se_one (se_cmp (or_eq hr.units) (se_var 0) (se_var 1))))))
theorem sc__law_closed_due : FnScope ["_law_items", "_law_found", "_law_plane_here", "_law_need"] ["_law_items"] (defScope (topS 47)) := ⟨rfl, rfl, rfl, by decide +kernel, rfl, by decide +kernel, by decide +kernel⟩
theorem ok__law_closed_due {f : Addr} {fd : FuncData} {dvs : List V} (F : FunD K "_law_closed_due" "_law_closed_due" (defArgs (topS 47)) (defBody (topS 47)) (defScope (topS 47)) dvs [] f fd)  : FnOk P w K mg base (L2N.CX P w) 1 f fd ["_law_items"] (spD K mg m__law_closed_due) :=
  fnD (N := ["_law_items", "_law_found", "_law_plane_here", "_law_need"]) F sc__law_closed_due fun cdv A outer s H E hr => by
    have nd := (sc__law_closed_due).nd
    have tk : L2N.Takes (cxOf (L2N.CX P w) P w K mg base ["_law_items", "_law_found", "_law_plane_here", "_law_need"] "_law_closed_due" (defScope (topS 47)) f cdv A outer s H E) (Wd E) := L2N.takes_of rfl rfl rfl rfl
    have hp : PassesOwn (model P w) (A.deeper (envOfC "_law_closed_due" (defScope (topS 47)) s.heap.objs.size f cdv)) (envOfC "_law_closed_due" (defScope (topS 47)) s.heap.objs.size f cdv) (cxOf (L2N.CX P w) P w K mg base ["_law_items", "_law_found", "_law_plane_here", "_law_need"] "_law_closed_due" (defScope (topS 47)) f cdv A outer s H E).xe := passes_of (X := cxOf (L2N.CX P w) P w K mg base ["_law_items", "_law_found", "_law_plane_here", "_law_need"] "_law_closed_due" (defScope (topS 47)) f cdv A outer s H E) rfl
    exact (ss_cons (ss_set 1 nd (se_new (sl_disp sa_nil))) (ss_cons (ss_for hp rfl (si_seq (se_var 0)) (sg_unp rfl (sgs_cons (sg_name 2 nd) (sgs_cons (sg_name 3 nd) sgs_nil))) (ss_one (ss_expr (se_mt (.inl rfl) PySem.F.plainAttrs_list PySem.F.slot_list_append PySem.F.type_list_append mr_append (se_var 1) (sa_cons (se_tup (sa_cons (se_var 2) (sa_cons (se_dlit (ps := [(-2, -2), (-1, -2), (0, 0), (1, 2), (2, 2)]) (Room.u65 hr) (sps_cons (pe_neg pe_int) (pe_neg pe_int) (sps_cons (pe_neg pe_int) (pe_neg pe_int) (sps_cons pe_int pe_int (sps_cons pe_int pe_int (sps_cons pe_int pe_int sps_nil))))) (se_var 3)) sa_nil))) sa_nil))))) (ss_one (ss_ret (se_var 1)))))
theorem sc__law_again : FnScope ["_law_items", "_law_more", "_law_one", "_law_handed", "_law_due", "_law_first"] ["_law_items", "_law_more", "_law_one"] (defScope (topS 48)) := ⟨rfl, rfl, rfl, by decide +kernel, rfl, by decide +kernel, by decide +kernel⟩
theorem ok__law_again {f : Addr} {fd : FuncData} {dvs : List V} (F : FunD K "_law_again" "_law_again" (defArgs (topS 48)) (defBody (topS 48)) (defScope (topS 48)) dvs [] f fd) (c0 : CallP P w K mg base "_law_closed_due" 1 m__law_closed_due []) (c1 : CallP P w K mg base "closed" 2 m_closed []) (c2 : CallK P w K mg base "closed" 2 m_closed 0 ["conditions"] g_closed_0_conditions) (c3 : CallP P w K mg base "_law_is" 5 m__law_is []) (c4 : CallP P w K mg base "_law_held" 5 m__law_held []) (z_list : mg "list" = none) (z_len : mg "len" = none) : FnOk P w K mg base (L2N.CX P w) 6 f fd ["_law_items", "_law_more", "_law_one"] (spD K mg m__law_again) :=
  fnD (N := ["_law_items", "_law_more", "_law_one", "_law_handed", "_law_due", "_law_first"]) F sc__law_again fun cdv A outer s H E hr => by
    have nd := (sc__law_again).nd
    have tk : L2N.Takes (cxOf (L2N.CX P w) P w K mg base ["_law_items", "_law_more", "_law_one", "_law_handed", "_law_due", "_law_first"] "_law_again" (defScope (topS 48)) f cdv A outer s H E) (Wd E) := L2N.takes_of rfl rfl rfl rfl
    have hp : PassesOwn (model P w) (A.deeper (envOfC "_law_again" (defScope (topS 48)) s.heap.objs.size f cdv)) (envOfC "_law_again" (defScope (topS 48)) s.heap.objs.size f cdv) (cxOf (L2N.CX P w) P w K mg base ["_law_items", "_law_more", "_law_one", "_law_handed", "_law_due", "_law_first"] "_law_again" (defScope (topS 48)) f cdv A outer s H E).xe := passes_of (X := cxOf (L2N.CX P w) P w K mg base ["_law_items", "_law_more", "_law_one", "_law_handed", "_law_due", "_law_first"] "_law_again" (defScope (topS 48)) f cdv A outer s H E) rfl
    exact (ss_cons (ss_set 3 nd (se_new (sl_list z_list (se_var 0)))) (ss_cons (ss_set 4 nd (se_p c0 tk hr (sa_cons (se_var 0) sa_nil))) (ss_cons (ss_set 5 nd (se_p c1 tk hr (sa_cons (se_var 3) sa_nil))) (ss_cons (ss_if (sw_pt (sw_or (sb_cmp (or_ne hr.units) (se_var 3) (se_var 0)) (sw_or (sb_not (sb_val (se_p c3 tk hr (sa_cons (se_var 5) (sa_cons (se_var 4) sa_nil))))) (sw_or1 (sb_not (sb_val (se_p c3 tk hr (sa_cons (se_k0 c2 tk hr (sk_cons (se_var 5) sk_nil)) (sa_cons (se_var 4) sa_nil))))))))) (ss_one (ss_ret se_bl)) ss_nil) (ss_cons (ss_expr (se_mt (.inl rfl) PySem.F.plainAttrs_list PySem.F.slot_list_append PySem.F.type_list_append mr_append (se_var 5) (sa_cons se_str sa_nil))) (ss_cons (ss_if (sw_pt (sw_or (sb_cmp (or_ne hr.units) (se_var 3) (se_var 0)) (sw_or (sb_not (sb_val (se_p c3 tk hr (sa_cons (se_p c1 tk hr (sa_cons (se_var 3) sa_nil)) (sa_cons (se_var 4) sa_nil))))) (sw_or1 (sb_not (sb_val (se_p c4 tk hr (sa_cons (se_var 3) (sa_cons (se_var 2) sa_nil))))))))) (ss_one (ss_ret se_bl)) ss_nil) (ss_cons (ss_if (sw_pt (sw_or (sb_cmp (or_ne hr.units) (se_var 3) (se_var 0)) (sw_or1 (sb_cmp or_gt (se_callB cr_len z_len (sa_cons (se_var 3) sa_nil)) se_int)))) (ss_one (ss_ret (se_cmp (or_eq hr.units) (se_var 3) (se_var 0)))) ss_nil) (ss_cons (ss_expr (se_mt (.inl rfl) PySem.F.plainAttrs_list PySem.F.slot_list_append PySem.F.type_list_append mr_append (se_var 3) (sa_cons (se_var 1) sa_nil))) (ss_cons (ss_if (sw_pt (sw_or (sb_not (sb_val (se_p c3 tk hr (sa_cons (se_p c1 tk hr (sa_cons (se_var 3) sa_nil)) (sa_cons (se_bin or_add (se_var 4) (se_p c0 tk hr (sa_cons (se_new (sl_disp (sa_cons (se_var 1) sa_nil))) sa_nil))) sa_nil))))) (sw_or1 (sb_not (sb_val (se_p c4 tk hr (sa_cons (se_var 3) (sa_cons (se_var 2) sa_nil)))))))) (ss_one (ss_ret se_bl)) ss_nil) (ss_one (ss_ret (se_p c3 tk hr (sa_cons (se_p c1 tk hr (sa_cons (se_var 0) sa_nil)) (sa_cons (se_var 4) sa_nil))))))))))))))
theorem sc__law_bent : FnScope ["_law_store_here", "_law_value"] ["_law_store_here", "_law_value"] (defScope (topS 49)) := ⟨rfl, rfl, rfl, by decide +kernel, rfl, by decide +kernel, by decide +kernel⟩
theorem ok__law_bent {f : Addr} {fd : FuncData} {dvs : List V} (F : FunD K "_law_bent" "_law_bent" (defArgs (topS 49)) (defBody (topS 49)) (defScope (topS 49)) dvs [] f fd) (c0 : CallP P w K mg base "_law_take" 2 m__law_take []) (c1 : CallP P w K mg base "_law_spots" 6 m__law_spots []) (c2 : CallP P w K mg base "_law_bend" 12 m__law_bend []) : FnOk P w K mg base (L2N.CX P w) 13 f fd ["_law_store_here", "_law_value"] (spD K mg m__law_bent) :=
  fnD (N := ["_law_store_here", "_law_value"]) F sc__law_bent fun cdv A outer s H E hr => by
    have nd := (sc__law_bent).nd
    have tk : L2N.Takes (cxOf (L2N.CX P w) P w K mg base ["_law_store_here", "_law_value"] "_law_bent" (defScope (topS 49)) f cdv A outer s H E) (Wd E) := L2N.takes_of rfl rfl rfl rfl
    have hp : PassesOwn (model P w) (A.deeper (envOfC "_law_bent" (defScope (topS 49)) s.heap.objs.size f cdv)) (envOfC "_law_bent" (defScope (topS 49)) s.heap.objs.size f cdv) (cxOf (L2N.CX P w) P w K mg base ["_law_store_here", "_law_value"] "_law_bent" (defScope (topS 49)) f cdv A outer s H E).xe := passes_of (X := cxOf (L2N.CX P w) P w K mg base ["_law_store_here", "_law_value"] "_law_bent" (defScope (topS 49)) f cdv A outer s H E) rfl
    exact (ss_one (ss_ret (se_p c2 tk hr (sa_cons (se_var 1) (sa_cons (se_p c0 tk hr (sa_cons (se_var 0) (sa_cons (se_p c1 tk hr (sa_cons (se_var 1) sa_nil)) sa_nil))) (sa_cons (se_p c0 tk hr (sa_cons (se_var 0) (sa_cons se_int sa_nil))) sa_nil))))))
theorem sc_law : FnScope ["_law_script", "_law_store_here", "_law_many", "_law_points", "_law_k", "_law_items", "_law_more", "_law_one", "_law_values", "_law_value"] ["_law_script"] (defScope (topS 50)) := ⟨rfl, rfl, rfl, by decide +kernel, rfl, by decide +kernel, by decide +kernel⟩
theorem ok_law {f : Addr} {fd : FuncData} {dvs : List V} (F : FunD K "law" "law" (defArgs (topS 50)) (defBody (topS 50)) (defScope (topS 50)) dvs [] f fd) (c0 : CallP P w K mg base "_law_store" 2 m__law_store []) (c1 : CallP P w K mg base "_law_few" 3 m__law_few []) (c2 : CallP P w K mg base "_law_take" 2 m__law_take []) (c3 : CallP P w K mg base "_law_point" 4 m__law_point []) (c4 : CallP P w K mg base "_law_listed" 7 m__law_listed []) (c5 : CallP P w K mg base "_law_condition" 6 m__law_condition []) (c6 : CallP P w K mg base "_law_again" 6 m__law_again []) (c7 : CallP P w K mg base "_law_held" 5 m__law_held []) (c8 : CallP P w K mg base "_law_bent" 13 m__law_bent []) (c9 : CallP P w K mg base "_law_is_conditions" 4 m__law_is_conditions []) (c10 : CallP P w K mg base "is_conditions" 5 m_is_conditions []) (c11 : CallP P w K mg base "_law_bool" 1 m__law_bool []) (c12 : CallK P w K mg base "is_conditions" 5 m_is_conditions 0 ["value"] g_is_conditions_0_value) (z_min : mg "min" = none) (z_range : mg "range" = none) : FnOk P w K mg base (L2N.CX P w) 14 f fd ["_law_script"] (spD K mg m_law) :=
  fnD (N := ["_law_script", "_law_store_here", "_law_many", "_law_points", "_law_k", "_law_items", "_law_more", "_law_one", "_law_values", "_law_value"]) F sc_law fun cdv A outer s H E hr => by
    have nd := (sc_law).nd
    have tk : L2N.Takes (cxOf (L2N.CX P w) P w K mg base ["_law_script", "_law_store_here", "_law_many", "_law_points", "_law_k", "_law_items", "_law_more", "_law_one", "_law_values", "_law_value"] "law" (defScope (topS 50)) f cdv A outer s H E) (Wd E) := L2N.takes_of rfl rfl rfl rfl
    have hp : PassesOwn (model P w) (A.deeper (envOfC "law" (defScope (topS 50)) s.heap.objs.size f cdv)) (envOfC "law" (defScope (topS 50)) s.heap.objs.size f cdv) (cxOf (L2N.CX P w) P w K mg base ["_law_script", "_law_store_here", "_law_many", "_law_points", "_law_k", "_law_items", "_law_more", "_law_one", "_law_values", "_law_value"] "law" (defScope (topS 50)) f cdv A outer s H E).xe := passes_of (X := cxOf (L2N.CX P w) P w K mg base ["_law_script", "_law_store_here", "_law_many", "_law_points", "_law_k", "_law_items", "_law_more", "_law_one", "_law_values", "_law_value"] "law" (defScope (topS 50)) f cdv A outer s H E) rfl
    exact (ss_cons (ss_set 1 nd (se_p c0 tk hr (sa_cons (se_var 0) sa_nil))) (ss_cons (ss_set 2 nd (se_callB (cr_min2 rfl) z_min (sa_cons se_int (sa_cons (se_bin or_add (se_p c1 tk hr (sa_cons (se_var 1) (sa_cons se_int sa_nil))) (se_bin or_mul (se_p c2 tk hr (sa_cons (se_var 1) (sa_cons se_int sa_nil))) (se_p c2 tk hr (sa_cons (se_var 1) (sa_cons se_int sa_nil))))) sa_nil)))) (ss_cons (ss_setLc (own := [("_law_k", 4)]) 3 rfl nd (si_range1 z_range (sa_cons se_int sa_nil)) (blkOk_by (N := ["_law_script", "_law_store_here", "_law_many", "_law_points", "_law_k", "_law_items", "_law_more", "_law_one", "_law_values", "_law_value"]) (sc := defScope (topS 50)) (own := [("_law_k", 4)]) (by decide +kernel)) (by decide) (fun _ _ _ _ _ => (sg_name 4 nd)) (fun _ _ _ _ _ => sts_nil) (fun _ _ _ _ _ => (se_p c3 takes_no hr (sa_cons (se_var 1) sa_nil))) (sw_true rfl rfl rfl (by decide +kernel))) (ss_cons (ss_set 5 nd (se_p c4 tk hr (sa_cons (se_var 1) (sa_cons (se_var 3) (sa_cons (se_var 2) sa_nil))))) (ss_cons (ss_set 6 nd (se_p c5 tk hr (sa_cons (se_var 1) (sa_cons (se_var 3) sa_nil)))) (ss_cons (ss_if (sb_not (sb_val (se_p c6 tk hr (sa_cons (se_var 5) (sa_cons (se_var 6) (sa_cons (se_ix (se_var 3) se_int) sa_nil)))))) (ss_one (ss_ret se_bl)) ss_nil) (ss_cons (ss_for hp rfl (si_seq (se_bin or_add (se_var 3) (se_new (sl_disp (sa_cons (se_p c3 tk hr (sa_cons (se_var 1) sa_nil)) sa_nil))))) (sg_name 7 nd) (ss_one (ss_if (sb_not (sb_val (se_p c7 tk hr (sa_cons (se_var 5) (sa_cons (se_var 7) sa_nil))))) (ss_one (ss_ret se_bl)) ss_nil))) (ss_cons (ss_set 8 nd (se_new (sl_disp (sa_cons (se_var 5) (sa_cons (se_p c8 tk hr (sa_cons (se_var 1) (sa_cons (se_slice (se_var 5) so_none (so_some se_int)) sa_nil))) (sa_cons (se_p c8 tk hr (sa_cons (se_var 1) (sa_cons (se_slice (se_var 5) (so_some (se_un ur_neg se_int)) so_none) sa_nil))) (sa_cons (se_p c8 tk hr (sa_cons (se_var 1) (sa_cons (se_new (sl_disp (sa_cons (se_var 6) sa_nil))) sa_nil))) sa_nil))))))) (ss_cons (ss_for hp rfl (si_seq (se_bin or_add (se_var 8) (se_new (sl_disp (sa_cons (se_bin or_rep (se_new (sl_disp (sa_cons (se_var 6) sa_nil))) (se_bin or_add se_int (se_p c2 tk hr (sa_cons (se_var 1) (sa_cons se_int sa_nil))))) (sa_cons (se_var 6) sa_nil)))))) (sg_name 9 nd) (ss_one (ss_if (sb_not (sb_val (se_p c11 tk hr (sa_cons (se_p c10 tk hr (sa_cons (se_var 9) sa_nil)) (sa_cons (se_p c9 tk hr (sa_cons (se_var 9) sa_nil)) sa_nil))))) (ss_one (ss_ret se_bl)) ss_nil))) (ss_one (ss_ret (se_p c11 tk hr (sa_cons (se_k0 c12 tk hr (sk_cons (se_bin or_add (se_var 5) (se_new (sl_disp (sa_cons (se_var 6) sa_nil)))) sk_nil)) (sa_cons se_bl sa_nil))))))))))))))
end
end Mv
set_option maxHeartbeats 0
namespace Mv
open PySem PySem.Spec PyProof.Rows L2 Sm
theorem facts {P : Program} {w : World} {K : PySem.W.Frag} {h : Heap} {mg : Str → Option Value} {f : Addr} (X : K.In h) (G : h.Ns mainGlobals mg) (hfa : mg ("law" : Str) = some (.ref f)) (c : He.SaysD fa fn K) (ccx : exq K = true) :
    ∃ fd : FuncData, (∀ (s : Shared) (v : Value), BindsTo s fd ⟨[v], []⟩ [("_law_script", v)]) ∧ ∀ base : Heap, K.In base → base.Ns mainGlobals mg → FnOk P w K mg base (L2N.CX P w) 14 f fd ["_law_script"] (spD K mg m_law) := by
  obtain ⟨fd0, F0⟩ := c.def_ 0 (d := fnE "common_divisor" 1 []) rfl
  obtain ⟨fd1, F1⟩ := c.def_ 1 (d := fnE "divisor_of_four" 2 []) rfl
  obtain ⟨fd2, F2⟩ := c.def_ 2 (d := fnE "leading" 3 []) rfl
  obtain ⟨fd3, F3⟩ := c.def_ 3 (d := fnE "is_whole" 4 []) rfl
  obtain ⟨fd4, F4⟩ := c.def_ 4 (d := fnE "is_plane" 5 []) rfl
  obtain ⟨fd5, F5⟩ := c.def_ 5 (d := fnE "parts_at" 6 []) rfl
  obtain ⟨fd6, F6⟩ := c.def_ 6 (d := fnE "side_of" 7 []) rfl
  obtain ⟨fd7, F7⟩ := c.def_ 7 (d := fnE "is_condition" 9 []) rfl
  obtain ⟨fd8, F8⟩ := c.def_ 8 (d := fnE "is_conditions" 10 []) rfl
  obtain ⟨fd9, F9⟩ := c.def_ 9 (d := fnE "fulfils" 11 []) rfl
  obtain ⟨fd10, F10⟩ := c.def_ 10 (d := fnE "holds" 12 []) rfl
  obtain ⟨fd11, F11⟩ := c.def_ 11 (d := fnE "closed_need" 13 []) rfl
  obtain ⟨fd12, F12⟩ := c.def_ 12 (d := fnE "closed" 14 []) rfl
  obtain ⟨fd13, F13⟩ := c.def_ 13 (d := fnE "_law_mix" 16 []) rfl
  obtain ⟨fd14, F14⟩ := c.def_ 14 (d := fnE "_law_store" 17 []) rfl
  obtain ⟨fd15, F15⟩ := c.def_ 15 (d := fnE "_law_take" 18 []) rfl
  obtain ⟨fd16, F16⟩ := c.def_ 16 (d := fnE "_law_pick" 19 []) rfl
  obtain ⟨fd17, F17⟩ := c.def_ 17 (d := fnE "_law_few" 20 []) rfl
  obtain ⟨fd18, F18⟩ := c.def_ 18 (d := fnE "_law_wide" 21 []) rfl
  obtain ⟨fd19, F19⟩ := c.def_ 19 (d := fnE "_law_integer" 22 []) rfl
  obtain ⟨fd20, F20⟩ := c.def_ 20 (d := fnE "_law_gcd" 23 []) rfl
  obtain ⟨fd21, F21⟩ := c.def_ 21 (d := fnE "_law_frac" 24 []) rfl
  obtain ⟨fd22, F22⟩ := c.def_ 22 (d := fnE "_law_ratio" 25 []) rfl
  obtain ⟨fd23, F23⟩ := c.def_ 23 (d := fnE "_law_is_integer" 26 []) rfl
  obtain ⟨fd24, F24⟩ := c.def_ 24 (d := fnE "_law_copy" 27 []) rfl
  obtain ⟨fd25, F25⟩ := c.def_ 25 (d := fnE "_law_spots" 28 []) rfl
  obtain ⟨fd26, F26⟩ := c.def_ 26 (d := fnE "_law_bend_one" 29 []) rfl
  obtain ⟨fd27, F27⟩ := c.def_ 27 (d := fnE "_law_bend" 30 []) rfl
  obtain ⟨fd28, F28⟩ := c.def_ 28 (d := fnE "_law_point" 31 []) rfl
  obtain ⟨fd29, F29⟩ := c.def_ 29 (d := fnE "_law_is_plane" 32 []) rfl
  obtain ⟨fd30, F30⟩ := c.def_ 30 (d := fnE "_law_is_condition" 33 []) rfl
  obtain ⟨fd31, F31⟩ := c.def_ 31 (d := fnE "_law_is_conditions" 34 []) rfl
  obtain ⟨fd32, F32⟩ := c.def_ 32 (d := fnE "_law_form" 35 []) rfl
  obtain ⟨fd33, F33⟩ := c.def_ 33 (d := fnE "_law_normal" 36 []) rfl
  obtain ⟨fd34, F34⟩ := c.def_ 34 (d := fnE "_law_plane" 37 []) rfl
  obtain ⟨fd35, F35⟩ := c.def_ 35 (d := fnE "_law_wide_plane" 38 []) rfl
  obtain ⟨fd36, F36⟩ := c.def_ 36 (d := fnE "_law_over" 39 []) rfl
  obtain ⟨fd37, F37⟩ := c.def_ 37 (d := fnE "_law_value_sign" 40 []) rfl
  obtain ⟨fd38, F38⟩ := c.def_ 38 (d := fnE "_law_condition" 41 []) rfl
  obtain ⟨fd39, F39⟩ := c.def_ 39 (d := fnE "_law_listed" 42 []) rfl
  obtain ⟨fd40, F40⟩ := c.def_ 40 (d := fnE "_law_true" 43 []) rfl
  obtain ⟨fd41, F41⟩ := c.def_ 41 (d := fnE "_law_bool" 44 []) rfl
  obtain ⟨fd42, F42⟩ := c.def_ 42 (d := fnE "_law_held" 45 []) rfl
  obtain ⟨fd43, F43⟩ := c.def_ 43 (d := fnE "_law_is" 46 []) rfl
  obtain ⟨fd44, F44⟩ := c.def_ 44 (d := fnE "_law_closed_due" 47 []) rfl
  obtain ⟨fd45, F45⟩ := c.def_ 45 (d := fnE "_law_again" 48 []) rfl
  obtain ⟨fd46, F46⟩ := c.def_ 46 (d := fnE "_law_bent" 49 []) rfl
  obtain ⟨fd47, F47⟩ := c.def_ 47 (d := fnE "law" 50 []) rfl
  have e := hfa.symm.trans (He.glo_ok X G (c.fact 47 (f := .glo "law") rfl))
  cases e
  have g0 := He.glo_ok X G (c.fact 0 (f := .glo "common_divisor") rfl)
  have g1 := He.glo_ok X G (c.fact 1 (f := .glo "divisor_of_four") rfl)
  have g2 := He.glo_ok X G (c.fact 2 (f := .glo "leading") rfl)
  have g3 := He.glo_ok X G (c.fact 3 (f := .glo "is_whole") rfl)
  have g4 := He.glo_ok X G (c.fact 4 (f := .glo "is_plane") rfl)
  have g5 := He.glo_ok X G (c.fact 5 (f := .glo "parts_at") rfl)
  have g6 := He.glo_ok X G (c.fact 6 (f := .glo "side_of") rfl)
  have g7 := He.glo_ok X G (c.fact 7 (f := .glo "is_condition") rfl)
  have g8 := He.glo_ok X G (c.fact 8 (f := .glo "is_conditions") rfl)
  have g9 := He.glo_ok X G (c.fact 9 (f := .glo "fulfils") rfl)
  have g10 := He.glo_ok X G (c.fact 10 (f := .glo "holds") rfl)
  have g11 := He.glo_ok X G (c.fact 11 (f := .glo "closed_need") rfl)
  have g12 := He.glo_ok X G (c.fact 12 (f := .glo "closed") rfl)
  have g13 := He.glo_ok X G (c.fact 13 (f := .glo "_law_mix") rfl)
  have g14 := He.glo_ok X G (c.fact 14 (f := .glo "_law_store") rfl)
  have g15 := He.glo_ok X G (c.fact 15 (f := .glo "_law_take") rfl)
  have g16 := He.glo_ok X G (c.fact 16 (f := .glo "_law_pick") rfl)
  have g17 := He.glo_ok X G (c.fact 17 (f := .glo "_law_few") rfl)
  have g18 := He.glo_ok X G (c.fact 18 (f := .glo "_law_wide") rfl)
  have g19 := He.glo_ok X G (c.fact 19 (f := .glo "_law_integer") rfl)
  have g20 := He.glo_ok X G (c.fact 20 (f := .glo "_law_gcd") rfl)
  have g21 := He.glo_ok X G (c.fact 21 (f := .glo "_law_frac") rfl)
  have g22 := He.glo_ok X G (c.fact 22 (f := .glo "_law_ratio") rfl)
  have g23 := He.glo_ok X G (c.fact 23 (f := .glo "_law_is_integer") rfl)
  have g24 := He.glo_ok X G (c.fact 24 (f := .glo "_law_copy") rfl)
  have g25 := He.glo_ok X G (c.fact 25 (f := .glo "_law_spots") rfl)
  have g26 := He.glo_ok X G (c.fact 26 (f := .glo "_law_bend_one") rfl)
  have g27 := He.glo_ok X G (c.fact 27 (f := .glo "_law_bend") rfl)
  have g28 := He.glo_ok X G (c.fact 28 (f := .glo "_law_point") rfl)
  have g29 := He.glo_ok X G (c.fact 29 (f := .glo "_law_is_plane") rfl)
  have g30 := He.glo_ok X G (c.fact 30 (f := .glo "_law_is_condition") rfl)
  have g31 := He.glo_ok X G (c.fact 31 (f := .glo "_law_is_conditions") rfl)
  have g32 := He.glo_ok X G (c.fact 32 (f := .glo "_law_form") rfl)
  have g33 := He.glo_ok X G (c.fact 33 (f := .glo "_law_normal") rfl)
  have g34 := He.glo_ok X G (c.fact 34 (f := .glo "_law_plane") rfl)
  have g35 := He.glo_ok X G (c.fact 35 (f := .glo "_law_wide_plane") rfl)
  have g36 := He.glo_ok X G (c.fact 36 (f := .glo "_law_over") rfl)
  have g37 := He.glo_ok X G (c.fact 37 (f := .glo "_law_value_sign") rfl)
  have g38 := He.glo_ok X G (c.fact 38 (f := .glo "_law_condition") rfl)
  have g39 := He.glo_ok X G (c.fact 39 (f := .glo "_law_listed") rfl)
  have g40 := He.glo_ok X G (c.fact 40 (f := .glo "_law_true") rfl)
  have g41 := He.glo_ok X G (c.fact 41 (f := .glo "_law_bool") rfl)
  have g42 := He.glo_ok X G (c.fact 42 (f := .glo "_law_held") rfl)
  have g43 := He.glo_ok X G (c.fact 43 (f := .glo "_law_is") rfl)
  have g44 := He.glo_ok X G (c.fact 44 (f := .glo "_law_closed_due") rfl)
  have g45 := He.glo_ok X G (c.fact 45 (f := .glo "_law_again") rfl)
  have g46 := He.glo_ok X G (c.fact 46 (f := .glo "_law_bent") rfl)
  have g47 := He.glo_ok X G (c.fact 47 (f := .glo "law") rfl)
  have z_abs := He.free_ok X G (c.fact 48 (f := .free "abs") rfl)
  have z_all := He.free_ok X G (c.fact 49 (f := .free "all") rfl)
  have z_bool := He.free_ok X G (c.fact 50 (f := .free "bool") rfl)
  have z_dict := He.free_ok X G (c.fact 51 (f := .free "dict") rfl)
  have z_int := He.free_ok X G (c.fact 52 (f := .free "int") rfl)
  have z_isinstance := He.free_ok X G (c.fact 53 (f := .free "isinstance") rfl)
  have z_len := He.free_ok X G (c.fact 54 (f := .free "len") rfl)
  have z_list := He.free_ok X G (c.fact 55 (f := .free "list") rfl)
  have z_max := He.free_ok X G (c.fact 56 (f := .free "max") rfl)
  have z_min := He.free_ok X G (c.fact 57 (f := .free "min") rfl)
  have z_range := He.free_ok X G (c.fact 58 (f := .free "range") rfl)
  have z_str := He.free_ok X G (c.fact 59 (f := .free "str") rfl)
  have z_tuple := He.free_ok X G (c.fact 60 (f := .free "tuple") rfl)
  obtain ⟨cc, cx⟩ := He.ba ccx
  have b := FunD.bindsA (ps := ["_law_script"]) F47 fun _ _ _ _ _ _ us hl => match us, hl with | [_], _ => rfl
  refine ⟨fd47, fun s v => b s [v] rfl, fun base _ _ => ?_⟩
  have o0 := ok_common_divisor (P := P) (w := w) (K := K) (mg := mg) (base := base) F0 z_abs
  have p0_0 := mkP F0 o0 g0 fun _ _ _ _ _ _ us hl => match us, hl with | [_, _], _ => rfl
  have o1 := ok_divisor_of_four (P := P) (w := w) (K := K) (mg := mg) (base := base) F1 p0_0
  have p1_0 := mkP F1 o1 g1 fun _ _ _ _ _ _ us hl => match us, hl with | [_, _, _, _], _ => rfl
  have o2 := ok_leading (P := P) (w := w) (K := K) (mg := mg) (base := base) F2 
  have p2_0 := mkP F2 o2 g2 fun _ _ _ _ _ _ us hl => match us, hl with | [_, _, _], _ => rfl
  have o3 := ok_is_whole (P := P) (w := w) (K := K) (mg := mg) (base := base) F3 z_bool z_isinstance z_int
  have p3_0 := mkP F3 o3 g3 fun _ _ _ _ _ _ us hl => match us, hl with | [_], _ => rfl
  have o4 := ok_is_plane (P := P) (w := w) (K := K) (mg := mg) (base := base) F4 p3_0 p2_0 p1_0 z_len z_tuple z_isinstance z_all
  have p4_0 := mkP F4 o4 g4 fun _ _ _ _ _ _ us hl => match us, hl with | [_], _ => rfl
  have o5 := ok_parts_at (P := P) (w := w) (K := K) (mg := mg) (base := base) F5 
  have p5_0 := mkP F5 o5 g5 fun _ _ _ _ _ _ us hl => match us, hl with | [_, _], _ => rfl
  have o6 := ok_side_of (P := P) (w := w) (K := K) (mg := mg) (base := base) F6 p5_0
  have p6_0 := mkP F6 o6 g6 fun _ _ _ _ _ _ us hl => match us, hl with | [_, _], _ => rfl
  have o7 := ok_is_condition (P := P) (w := w) (K := K) (mg := mg) (base := base) F7 p3_0 p4_0 z_len z_tuple z_isinstance
  have p7_0 := mkP F7 o7 g7 fun _ _ _ _ _ _ us hl => match us, hl with | [_], _ => rfl
  have o8 := ok_is_conditions (P := P) (w := w) (K := K) (mg := mg) (base := base) F8 p7_0 z_list z_isinstance z_all
  have p8_0 := mkP F8 o8 g8 fun _ _ _ _ _ _ us hl => match us, hl with | [_], _ => rfl
  have p8_1 := mkK F8 o8 g8 0 ["value"] (fun {α} => g_is_conditions_0_value) (fun kV doc pm an cdv ct us ws h1 h2 => match us, h1, ws, h2 with | [], _, [_], _ => rfl)
    (fun {vs us zs ws} h1 h2 r1 r2 => match vs, h1, zs, h2, us, ws, r1, r2 with | [], _, [_], _, _, _, .nil, .cons b0 .nil => ⟨.cons b0 .nil, rfl⟩)
    (fun {H μ ds vs es zs} h1 h2 r1 r2 => match ds, h1, es, h2, vs, zs, r1, r2 with | [], _, [_], _, _, _, .nil, .cons b0 .nil => .cons b0 .nil)
  have o9 := ok_fulfils (P := P) (w := w) (K := K) (mg := mg) (base := base) F9 p6_0 z_abs
  have p9_0 := mkP F9 o9 g9 fun _ _ _ _ _ _ us hl => match us, hl with | [_, _], _ => rfl
  have o10 := ok_holds (P := P) (w := w) (K := K) (mg := mg) (base := base) F10 p9_0
  have p10_0 := mkK F10 o10 g10 0 ["point", "conditions"] (fun {α} => g_holds_0_point_conditions) (fun kV doc pm an cdv ct us ws h1 h2 => match us, h1, ws, h2 with | [], _, [_, _], _ => rfl)
    (fun {vs us zs ws} h1 h2 r1 r2 => match vs, h1, zs, h2, us, ws, r1, r2 with | [], _, [_, _], _, _, _, .nil, .cons b0 (.cons b1 .nil) => ⟨.cons b1 (.cons b0 .nil), rfl⟩)
    (fun {H μ ds vs es zs} h1 h2 r1 r2 => match ds, h1, es, h2, vs, zs, r1, r2 with | [], _, [_, _], _, _, _, .nil, .cons b0 (.cons b1 .nil) => .cons b1 (.cons b0 .nil))
  have p10_1 := mkP F10 o10 g10 fun _ _ _ _ _ _ us hl => match us, hl with | [_, _], _ => rfl
  have o11 := ok_closed_need (P := P) (w := w) (K := K) (mg := mg) (base := base) F11 
  have p11_0 := mkP F11 o11 g11 fun _ _ _ _ _ _ us hl => match us, hl with | [_], _ => rfl
  have o12 := ok_closed (P := P) (w := w) (K := K) (mg := mg) (base := base) F12 p11_0
  have p12_0 := mkP F12 o12 g12 fun _ _ _ _ _ _ us hl => match us, hl with | [_], _ => rfl
  have p12_1 := mkK F12 o12 g12 0 ["conditions"] (fun {α} => g_closed_0_conditions) (fun kV doc pm an cdv ct us ws h1 h2 => match us, h1, ws, h2 with | [], _, [_], _ => rfl)
    (fun {vs us zs ws} h1 h2 r1 r2 => match vs, h1, zs, h2, us, ws, r1, r2 with | [], _, [_], _, _, _, .nil, .cons b0 .nil => ⟨.cons b0 .nil, rfl⟩)
    (fun {H μ ds vs es zs} h1 h2 r1 r2 => match ds, h1, es, h2, vs, zs, r1, r2 with | [], _, [_], _, _, _, .nil, .cons b0 .nil => .cons b0 .nil)
  have o13 := ok__law_mix (P := P) (w := w) (K := K) (mg := mg) (base := base) F13 z_int
  have p13_0 := mkP F13 o13 g13 fun _ _ _ _ _ _ us hl => match us, hl with | [_, _], _ => rfl
  have o14 := ok__law_store (P := P) (w := w) (K := K) (mg := mg) (base := base) F14 p13_0 z_len z_int z_list
  have p14_0 := mkP F14 o14 g14 fun _ _ _ _ _ _ us hl => match us, hl with | [_], _ => rfl
  have o15 := ok__law_take (P := P) (w := w) (K := K) (mg := mg) (base := base) F15 p13_0 z_max z_len z_abs z_int
  have p15_0 := mkP F15 o15 g15 fun _ _ _ _ _ _ us hl => match us, hl with | [_, _], _ => rfl
  have o16 := ok__law_pick (P := P) (w := w) (K := K) (mg := mg) (base := base) F16 p15_0 z_len
  have p16_0 := mkP F16 o16 g16 fun _ _ _ _ _ _ us hl => match us, hl with | [_, _], _ => rfl
  have o17 := ok__law_few (P := P) (w := w) (K := K) (mg := mg) (base := base) F17 p15_0 z_min
  have p17_0 := mkP F17 o17 g17 fun _ _ _ _ _ _ us hl => match us, hl with | [_, _], _ => rfl
  have o18 := ok__law_wide (P := P) (w := w) (K := K) (mg := mg) (base := base) F18 p15_0 z_range
  have p18_0 := mkP F18 o18 g18 fun _ _ _ _ _ _ us hl => match us, hl with | [_, _], _ => rfl
  have o19 := ok__law_integer (P := P) (w := w) (K := K) (mg := mg) (base := base) F19 p15_0 p18_0 z_range
  have p19_0 := mkP F19 o19 g19 fun _ _ _ _ _ _ us hl => match us, hl with | [_], _ => rfl
  have o20 := ok__law_gcd (P := P) (w := w) (K := K) (mg := mg) (base := base) F20 z_abs z_int
  have p20_0 := mkP F20 o20 g20 fun _ _ _ _ _ _ us hl => match us, hl with | [_, _], _ => rfl
  have o21 := ok__law_frac (P := P) (w := w) (K := K) (mg := mg) (base := base) F21 p20_0
  have p21_0 := mkP F21 o21 g21 fun _ _ _ _ _ _ us hl => match us, hl with | [_, _], _ => rfl
  have o22 := ok__law_ratio (P := P) (w := w) (K := K) (mg := mg) (base := base) F22 p15_0 p21_0
  have p22_0 := mkP F22 o22 g22 fun _ _ _ _ _ _ us hl => match us, hl with | [_], _ => rfl
  have o23 := ok__law_is_integer (P := P) (w := w) (K := K) (mg := mg) (base := base) F23 z_bool z_isinstance z_int
  have p23_0 := mkP F23 o23 g23 fun _ _ _ _ _ _ us hl => match us, hl with | [_], _ => rfl
  have oo24 : ∀ n : Nat, FnOk P w K mg base (L2N.CX P w) (0 + n) _ fd24 ["_law_value"] (spD K mg (r__law_copy n)) := fun n => by
    induction n with
    | zero => exact fn_bad
    | succ n ih => exact ok__law_copy (P := P) (w := w) (K := K) (mg := mg) (base := base) F24 (Nat.le_add_right _ _) (mkP F24 ih g24 fun _ _ _ _ _ _ us hl => match us, hl with | [_], _ => rfl) z_list z_isinstance z_tuple z_dict
  have o24 : FnOk P w K mg base (L2N.CX P w) 6 _ fd24 ["_law_value"] (spD K mg m__law_copy) := oo24 6
  have p24_0 := mkP F24 o24 g24 fun _ _ _ _ _ _ us hl => match us, hl with | [_], _ => rfl
  have oo25 : ∀ n : Nat, FnOk P w K mg base (L2N.CX P w) (0 + n) _ fd25 ["_law_value"] (spD K mg (r__law_spots n)) := fun n => by
    induction n with
    | zero => exact fn_bad
    | succ n ih => exact ok__law_spots (P := P) (w := w) (K := K) (mg := mg) (base := base) F25 (Nat.le_add_right _ _) (mkP F25 ih g25 fun _ _ _ _ _ _ us hl => match us, hl with | [_], _ => rfl) z_tuple z_list z_isinstance
  have o25 : FnOk P w K mg base (L2N.CX P w) 6 _ fd25 ["_law_value"] (spD K mg m__law_spots) := oo25 6
  have p25_0 := mkP F25 o25 g25 fun _ _ _ _ _ _ us hl => match us, hl with | [_], _ => rfl
  have o26 := ok__law_bend_one (P := P) (w := w) (K := K) (mg := mg) (base := base) F26 z_bool z_isinstance z_int z_abs z_str z_tuple z_list
  have p26_0 := mkP F26 o26 g26 fun _ _ _ _ _ _ us hl => match us, hl with | [_, _], _ => rfl
  have oo27 : ∀ n : Nat, FnOk P w K mg base (L2N.CX P w) (6 + n) _ fd27 ["_law_value", "_law_at", "_law_kind"] (spD K mg (r__law_bend n)) := fun n => by
    induction n with
    | zero => exact fn_bad
    | succ n ih => exact ok__law_bend (P := P) (w := w) (K := K) (mg := mg) (base := base) F27 (Nat.le_add_right _ _) (mkP F27 ih g27 fun _ _ _ _ _ _ us hl => match us, hl with | [_, _, _], _ => rfl) p24_0 p26_0 p25_0 z_tuple z_list z_isinstance
  have o27 : FnOk P w K mg base (L2N.CX P w) 12 _ fd27 ["_law_value", "_law_at", "_law_kind"] (spD K mg m__law_bend) := oo27 6
  have p27_0 := mkP F27 o27 g27 fun _ _ _ _ _ _ us hl => match us, hl with | [_, _, _], _ => rfl
  have o28 := ok__law_point (P := P) (w := w) (K := K) (mg := mg) (base := base) F28 p15_0 p22_0
  have p28_0 := mkP F28 o28 g28 fun _ _ _ _ _ _ us hl => match us, hl with | [_], _ => rfl
  have o29 := ok__law_is_plane (P := P) (w := w) (K := K) (mg := mg) (base := base) F29 p20_0 p23_0 z_len z_tuple z_isinstance
  have p29_0 := mkP F29 o29 g29 fun _ _ _ _ _ _ us hl => match us, hl with | [_], _ => rfl
  have o30 := ok__law_is_condition (P := P) (w := w) (K := K) (mg := mg) (base := base) F30 p29_0 p23_0 z_len z_tuple z_isinstance
  have p30_0 := mkP F30 o30 g30 fun _ _ _ _ _ _ us hl => match us, hl with | [_], _ => rfl
  have o31 := ok__law_is_conditions (P := P) (w := w) (K := K) (mg := mg) (base := base) F31 p30_0 z_list z_isinstance
  have p31_0 := mkP F31 o31 g31 fun _ _ _ _ _ _ us hl => match us, hl with | [_], _ => rfl
  have o32 := ok__law_form (P := P) (w := w) (K := K) (mg := mg) (base := base) F32 p20_0
  have p32_0 := mkP F32 o32 g32 fun _ _ _ _ _ _ us hl => match us, hl with | [_, _, _, _], _ => rfl
  have o33 := ok__law_normal (P := P) (w := w) (K := K) (mg := mg) (base := base) F33 p15_0
  have p33_0 := mkP F33 o33 g33 fun _ _ _ _ _ _ us hl => match us, hl with | [_], _ => rfl
  have o34 := ok__law_plane (P := P) (w := w) (K := K) (mg := mg) (base := base) F34 p33_0 p15_0 p32_0
  have p34_0 := mkP F34 o34 g34 fun _ _ _ _ _ _ us hl => match us, hl with | [_], _ => rfl
  have o35 := ok__law_wide_plane (P := P) (w := w) (K := K) (mg := mg) (base := base) F35 p15_0 p34_0 p19_0 p32_0
  have p35_0 := mkP F35 o35 g35 fun _ _ _ _ _ _ us hl => match us, hl with | [_], _ => rfl
  have o36 := ok__law_over (P := P) (w := w) (K := K) (mg := mg) (base := base) F36 
  have p36_0 := mkP F36 o36 g36 fun _ _ _ _ _ _ us hl => match us, hl with | [_], _ => rfl
  have o37 := ok__law_value_sign (P := P) (w := w) (K := K) (mg := mg) (base := base) F37 p36_0
  have p37_0 := mkP F37 o37 g37 fun _ _ _ _ _ _ us hl => match us, hl with | [_, _], _ => rfl
  have o38 := ok__law_condition (P := P) (w := w) (K := K) (mg := mg) (base := base) F38 p15_0 p35_0 p33_0 p16_0 p36_0 p32_0
  have p38_0 := mkP F38 o38 g38 fun _ _ _ _ _ _ us hl => match us, hl with | [_, _], _ => rfl
  have o40 := ok__law_true (P := P) (w := w) (K := K) (mg := mg) (base := base) F40 p37_0
  have p40_0 := mkP F40 o40 g40 fun _ _ _ _ _ _ us hl => match us, hl with | [_, _], _ => rfl
  have o39 := ok__law_listed (P := P) (w := w) (K := K) (mg := mg) (base := base) F39 p15_0 p40_0 p37_0 p16_0 p38_0 z_range z_int
  have p39_0 := mkP F39 o39 g39 fun _ _ _ _ _ _ us hl => match us, hl with | [_, _, _], _ => rfl
  have o41 := ok__law_bool (P := P) (w := w) (K := K) (mg := mg) (base := base) F41 z_bool z_isinstance
  have p41_0 := mkP F41 o41 g41 fun _ _ _ _ _ _ us hl => match us, hl with | [_, _], _ => rfl
  have o42 := ok__law_held (P := P) (w := w) (K := K) (mg := mg) (base := base) F42 p40_0 p10_0 p41_0 p10_1 p12_0 z_len z_min z_range
  have p42_0 := mkP F42 o42 g42 fun _ _ _ _ _ _ us hl => match us, hl with | [_, _], _ => rfl
  have o43 := ok__law_is (P := P) (w := w) (K := K) (mg := mg) (base := base) F43 p31_0
  have p43_0 := mkP F43 o43 g43 fun _ _ _ _ _ _ us hl => match us, hl with | [_, _], _ => rfl
  have o44 := ok__law_closed_due (P := P) (w := w) (K := K) (mg := mg) (base := base) F44 
  have p44_0 := mkP F44 o44 g44 fun _ _ _ _ _ _ us hl => match us, hl with | [_], _ => rfl
  have o45 := ok__law_again (P := P) (w := w) (K := K) (mg := mg) (base := base) F45 p44_0 p12_0 p12_1 p43_0 p42_0 z_list z_len
  have p45_0 := mkP F45 o45 g45 fun _ _ _ _ _ _ us hl => match us, hl with | [_, _, _], _ => rfl
  have o46 := ok__law_bent (P := P) (w := w) (K := K) (mg := mg) (base := base) F46 p15_0 p25_0 p27_0
  have p46_0 := mkP F46 o46 g46 fun _ _ _ _ _ _ us hl => match us, hl with | [_, _], _ => rfl
  have o47 := ok_law (P := P) (w := w) (K := K) (mg := mg) (base := base) F47 p14_0 p17_0 p15_0 p28_0 p39_0 p38_0 p45_0 p42_0 p46_0 p31_0 p8_0 p41_0 p8_1 z_min z_range
  exact o47
end Mv
open PySem PySem.W PySem.Calls PyProof.Rows
theorem Mv.holds_of (hlaw : ∀ ns : List Int, ns.length ≤ 63 → ∃ h', Mv.m_law [.rol (ns.map Sm.D.int)] [] = .ok (.bl true) h') : PySem.Challenge.rw_everypoint_k10_conditions_at_a_point.Holds := by
  w_on; o_law
  refine HandSHeadRun.head_any (r := OpenLaw.row PySem.Challenge.rw_everypoint_k10_conditions_at_a_point) (q := view (OpenLaw.row PySem.Challenge.rw_everypoint_k10_conditions_at_a_point).prog [50]) (H := Mv.hk) (ob := Mv.ob) (M := 20000) (loose := Mv.names) (d := HandSHeadRun.topDef (OpenLaw.row PySem.Challenge.rw_everypoint_k10_conditions_at_a_point).prog 50) (kwd := []) Mv.ob_eq
    (by kernel_rfl) (fun s => by kernel_rfl) Mv.run (by kernel_rfl) (by kernel_rfl) (by kernel_rfl) (by rfl) (by first | assumption | decide +kernel) (by decide +kernel) ⟨rfl, rfl, rfl, rfl, rfl, by decide +kernel⟩ ?hw ?hc
  case hw => w_witness2
  case hc =>
    refine Sm.walk_end (l := PySem.Challenge.rw_everypoint_k10_conditions_at_a_point) (k := 14) (x := "_law_script") (CC := fun w => L2N.CX (PySem.Challenge.rw_everypoint_k10_conditions_at_a_point).prog w) rfl (by kernel_rfl) ⟨rfl, by decide, by decide⟩ ?F (fun w H s e s' z => Sm.cx_none H s e s' z)
    intro w mg fa h Y G hmg0
    obtain ⟨K, KX, c, cc⟩ := Y
    have hmg : mg ("law" : PySem.Str) = some (.ref fa) := by
      have e : (HandSHeadRun.topDef (OpenLaw.row PySem.Challenge.rw_everypoint_k10_conditions_at_a_point).prog 50).name = ("law" : PySem.Str) := by kernel_rfl
      rw [← e]
      exact hmg0
    obtain ⟨fd, hb, hF⟩ := Mv.facts (P := (PySem.Challenge.rw_everypoint_k10_conditions_at_a_point).prog) (w := w) KX G hmg c cc
    exact ⟨K, fd, Sm.spD K mg Mv.m_law, KX, hb, fun H a ns hl hO hS => (hlaw ns hl).elim fun h' e => Sm.sp_law rfl hO hS e, hF⟩
theorem PySem.Challenge.cw_everypoint_k10_conditions_at_a_point_holds : PySem.Challenge.rw_everypoint_k10_conditions_at_a_point.Holds := by
  exact Mv.holds_of Mv.law_ok
