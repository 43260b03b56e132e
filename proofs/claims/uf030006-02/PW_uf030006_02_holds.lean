import PyProof.Rows.All
import PyProof.Rows.Many
import PyProof.Walks
import PyProof.WalksMore
import PyProof.Cells
import PyProof.Claim2
import PyProof.SliceMore
import PyProof.DictStraight
import PyProof.NsCount
import PyProof.ToksMono
import PyProof.PureInt
import PyProof.Rows.RuleB_floordiv
import PyProof.Rows.RuleB_pow
import PyProof.Rows.IntRules
import PyProof.Rows.StrRules
import PyProof.StrOps
import PyProof.Rows.Tup
import PyProof.ListIndexNeg
import PyProof.IsiPairs
import PyProof.IsiHeapPairs
import PyProof.IsiNone
import PyProof.Conv_int_bool
import PyProof.Truth
import PyProof.ListTruth
import PyProof.Rows.TupMore
import PyProof.Rows.StrFirst
import PyProof.StrCalls
import PyProof.StrCalls2
import PyProof.StrCalls3
import PyProof.Rows.StrJoin2
import PyProof.SliceStr2
import PyProof.SliceList
import PyProof.Rows.StrTemp
import PyProof.Rows.RuleC_int
import PyProof.P3Eq
import PyProof.NeData
import PyProof.Rows.TupSub
import PyProof.StrLawsFirst
import PyProof.DictRoads
import PyProof.TupleOfSeq
import KE.KDictSum
import PyProof.ListCopy
import PyProof.Rows.SeqMore
import PyProof.Conv_int
import PyProof.IsInstanceH
import PyProof.DefCall
import PyProof.StrBlock
import PyProof.PvWalk
import PyProof.Rows.Exc
import PyProof.Boot
import PyProof.Rows.Nodes
import PyProof.Rows.PlainObj
import PyProof.StrWalks
import PyProof.RangeFor
import PyProof.Rows.GenSrcRange
import PyProof.ForAny
import PyProof.CompFree
import PyProof.ZipIter
import PyProof.Rows.TupAssign
import PyProof.WalksEnum
import PyProof.EnumMake
import PyProof.Rows.PlainNoArg
import PyProof.Rows.AttrNodeAny
import PyProof.DictWalks
import KE.KMinKey
import PyProof.WalkInts
import PyProof.Rows.CallKw2
import PyProof.Rows.SetFrom
import OpenK.KLine
import Wide.All
import OpenK.AllK
import Wide.FinOn
import PySem.Challenge.RW_uf030006_02
set_option Elab.async false
set_option linter.all false
set_option autoImplicit false
set_option genSizeOfSpec false
set_option genSizeOf false
set_option bootstrap.genMatcherCode false
set_option maxRecDepth 100000
set_option maxHeartbeats 8000000
namespace Mine
open PySem PySem.Calls PyProof.Rows

/-- pure values; `ref n`: the n-th tracked mutable object -/
inductive V where
  | none
  | bool (b : Bool)
  | int (i : Int)
  | str (s : List Nat)
  | tup (xs : List V)
  | lst (xs : List V)
  | ref (n : Nat)
  | inst (C n : Nat)
  deriving Inhabited

/-- tracked mutable objects; attrs: the attributes of an instance, in the order of attrNames -/
inductive O where
  | lst (xs : List V)
  | idict (es : List (Int × V))
  | attrs (xs : List V)
  | dead
  | priv
  deriving Inhabited
noncomputable def O.live : O → Bool
  | .dead => false
  | _ => true

structure St where
  ρ : List (Option V)
  σ : List O

inductive R (α : Type) where
  | ok (a : α) (st : St)
  | exc (x : Str) (st : St)
  | stuck

noncomputable def R.bind {α β : Type} : R α → (α → St → R β) → R β
  | .ok a st, f => f a st
  | .exc x st, _ => .exc x st
  | .stuck, _ => .stuck
@[simp] theorem R.bind_ok {α β : Type} (a : α) (st : St) (f : α → St → R β) : (R.ok a st).bind f = f a st := by rw [R.bind]
@[simp] theorem R.bind_exc {α β : Type} (a : Str) (st : St) (f : α → St → R β) : (R.exc a st).bind f = .exc a st := by rw [R.bind]
@[simp] theorem R.bind_stuck {α β : Type} (f : α → St → R β) : (R.stuck : R α).bind f = .stuck := by rw [R.bind]
theorem R.bind_inv {α β : Type} {m : R α} {f : α → St → R β} {b : β} {st' : St} (h : m.bind f = .ok b st') : ∃ a st, m = .ok a st ∧ f a st = .ok b st' := by
  cases m with
  | ok a st => exact ⟨a, st, rfl, h⟩
  | exc x st => cases h
  | stuck => cases h
noncomputable def R.lift {α : Type} (o : Option α) (st : St) : R α := match o with | some a => .ok a st | none => .stuck
@[simp] theorem R.lift_some {α : Type} (a : α) (st : St) : R.lift (some a) st = .ok a st := by rw [R.lift]
@[simp] theorem R.lift_none {α : Type} (st : St) : R.lift (none : Option α) st = .stuck := by rw [R.lift]

/-- untracked objects that never change -/
noncomputable def Still (o : Obj) : Prop := (∃ vs n, o.data = .seq vs n) ∨ o.data = .plain
/-- tracked addresses -/
noncomputable def Tr (σ : List O) (μ : List Addr) (b : Addr) : Prop := ∃ (n : Nat) (o : O), σ[n]? = some o ∧ o.live = true ∧ μ[n]? = some b

mutual
inductive RepV (T : Addr → Prop) (μ : List Addr) (h : Heap) : Value → V → Prop
  | none : RepV T μ h .none .none
  | bool (b) : RepV T μ h (.bool b) (.bool b)
  | int (i t) : RepV T μ h (.int i t) (.int i)
  | str (x t) : PyData.strOk x = true → x.length ≤ sizeLine → RepV T μ h (.str x t) (.str x.cps.toList)
  | tup {a o vs n xs} : h.get? a = some o → o.cls = .type "tuple" → o.data = .seq vs n → vs.size ≤ sizeLine → ¬ T a → RepVs T μ h vs.toList xs → RepV T μ h (.ref a) (.tup xs)
  | lst {a o vs n xs} : h.get? a = some o → o.cls = .type "list" → o.data = .seq vs n → vs.size ≤ sizeLine → ¬ T a → RepVs T μ h vs.toList xs → RepV T μ h (.ref a) (.lst xs)
  | ref {n a} : μ[n]? = some a → RepV T μ h (.ref a) (.ref n)
  | inst {x dx C n} : h.get? x = some { cls := .ref C, dict := some dx, data := .plain } → ¬ T x → μ[n]? = some dx → RepV T μ h (.ref x) (.inst C n)
inductive RepVs (T : Addr → Prop) (μ : List Addr) (h : Heap) : List Value → List V → Prop
  | nil : RepVs T μ h [] []
  | cons {v vs x xs} : RepV T μ h v x → RepVs T μ h vs xs → RepVs T μ h (v :: vs) (x :: xs)
end

section
variable {T T' : Addr → Prop} {μ μ' : List Addr} {h h' : Heap}
theorem RepVs.ind {M : List Value → List V → Prop} (hn : M [] []) (hc : ∀ {v vs x xs}, RepV T μ h v x → RepVs T μ h vs xs → M vs xs → M (v :: vs) (x :: xs)) {vs : List Value} {xs : List V} (r : RepVs T μ h vs xs) : M vs xs :=
  RepVs.rec (motive_1 := fun _ _ _ => True) (motive_2 := fun vs xs _ => M vs xs) trivial (fun _ => trivial) (fun _ _ => trivial) (fun _ _ _ _ => trivial) (fun _ _ _ _ _ _ _ => trivial) (fun _ _ _ _ _ _ _ => trivial) (fun _ => trivial) (fun _ _ _ => trivial) hn (fun a r _ ih => hc a r ih) r
theorem RepVs.length {vs : List Value} {xs : List V} (r : RepVs T μ h vs xs) : vs.length = xs.length :=
  RepVs.ind (M := fun vs xs => vs.length = xs.length) rfl (fun _ _ ih => congrArg (· + 1) ih) r
theorem RepVs.get {vs : List Value} {xs : List V} (r : RepVs T μ h vs xs) : ∀ {i : Nat} {x : V}, xs[i]? = some x → ∃ v, vs[i]? = some v ∧ RepV T μ h v x :=
  RepVs.ind (M := fun vs xs => ∀ {i : Nat} {x : V}, xs[i]? = some x → ∃ v, vs[i]? = some v ∧ RepV T μ h v x) (fun e => by simp at e) (fun {v vs y ys} a _ ih {i x} e => by
    cases i with
    | zero => cases e; exact ⟨v, rfl, a⟩
    | succ i => exact ih (i := i) e) r
theorem RepVs.append {vs : List Value} {xs : List V} {us : List Value} {ys : List V} (r : RepVs T μ h vs xs) (y : RepVs T μ h us ys) : RepVs T μ h (vs ++ us) (xs ++ ys) :=
  RepVs.ind (M := fun vs xs => RepVs T μ h (vs ++ us) (xs ++ ys)) y (fun a _ ih => .cons a ih) r
theorem RepVs.take (k : Nat) {vs : List Value} {xs : List V} (r : RepVs T μ h vs xs) : RepVs T μ h (vs.take k) (xs.take k) :=
  RepVs.ind (M := fun vs xs => ∀ k, RepVs T μ h (vs.take k) (xs.take k)) (fun k => by rw [List.take_nil, List.take_nil]; exact .nil) (fun a _ ih k => by
    cases k with
    | zero => exact .nil
    | succ k => exact .cons a (ih k)) r k
theorem RepVs.drop (k : Nat) {vs : List Value} {xs : List V} (r : RepVs T μ h vs xs) : RepVs T μ h (vs.drop k) (xs.drop k) :=
  RepVs.ind (M := fun vs xs => ∀ k, RepVs T μ h (vs.drop k) (xs.drop k)) (fun k => by rw [List.drop_nil, List.drop_nil]; exact .nil) (fun a r ih k => by
    cases k with
    | zero => exact .cons a r
    | succ k => exact ih k) r k

/-- values are kept where what they reach is kept -/
theorem RepV.move (hl : ∀ a o, h.get? a = some o → Still o → ¬ T a → h'.get? a = some o ∧ ¬ T' a) (hr : ∀ (n : Nat) (a : Addr), μ[n]? = some a → μ'[n]? = some a) {v : Value} {x : V} (r : RepV T μ h v x) : RepV T' μ' h' v x :=
  RepV.rec (motive_1 := fun v x _ => RepV T' μ' h' v x) (motive_2 := fun vs xs _ => RepVs T' μ' h' vs xs) .none .bool .int .str
    (fun ho hc hd hz hT _ ih => .tup (hl _ _ ho (.inl ⟨_, _, hd⟩) hT).1 hc hd hz (hl _ _ ho (.inl ⟨_, _, hd⟩) hT).2 ih) (fun ho hc hd hz hT _ ih => .lst (hl _ _ ho (.inl ⟨_, _, hd⟩) hT).1 hc hd hz (hl _ _ ho (.inl ⟨_, _, hd⟩) hT).2 ih) (fun e => .ref (hr _ _ e))
    (fun ho hT e => .inst (hl _ _ ho (.inr rfl) hT).1 (hl _ _ ho (.inr rfl) hT).2 (hr _ _ e)) .nil (fun _ _ a b => .cons a b) r
theorem RepVs.move (hl : ∀ a o, h.get? a = some o → Still o → ¬ T a → h'.get? a = some o ∧ ¬ T' a) (hr : ∀ (n : Nat) (a : Addr), μ[n]? = some a → μ'[n]? = some a) {vs : List Value} {xs : List V} (r : RepVs T μ h vs xs) : RepVs T' μ' h' vs xs :=
  RepVs.ind (M := fun vs xs => RepVs T' μ' h' vs xs) .nil (fun a _ ih => .cons (a.move hl hr) ih) r
end

/-- where a local lies -/
inductive Slot where
  | d (D : Addr) (n : Str)
  | c (a : Addr)
noncomputable def Slot.own : Slot → Addr
  | .d D _ => D
  | .c a => a
noncomputable def Slot.Holds (h : Heap) (v : Value) : Slot → Prop
  | .d D n => ∃ m, h.Ns D m ∧ m n = some v
  | .c a => h.IsCell a (some v)
noncomputable def Slot.Ok (h : Heap) : Slot → Prop
  | .d D _ => ∃ m, h.Ns D m
  | .c a => ∃ v, h.IsCell a v

theorem Slot.Ok.get {h : Heap} {s : Slot} (x : s.Ok h) : ∃ o, h.get? s.own = some o ∧ ((∃ es n, o.data = .dict es n) ∨ ∃ v, o.data = .cell v) := by
  cases s with
  | d D n => obtain ⟨m, o, es, ep, ho, hd, _⟩ := x; exact ⟨o, ho, .inl ⟨es, ep, hd⟩⟩
  | c a => obtain ⟨v, o, ho, hd⟩ := x; exact ⟨o, ho, .inr ⟨v, hd⟩⟩
theorem Slot.Ok.keeps {h h' : Heap} {s : Slot} (x : s.Ok h) (hk : ∀ o, h.get? s.own = some o → h'.get? s.own = some o) : s.Ok h' := by
  cases s with
  | d D n => obtain ⟨m, hm⟩ := x; exact ⟨m, hm.at' hk⟩
  | c a => obtain ⟨v, o, ho, hd⟩ := x; exact ⟨v, o, hk o ho, hd⟩
theorem Slot.Holds.keeps {h h' : Heap} {v : Value} {s : Slot} (x : s.Holds h v) (hk : ∀ o, h.get? s.own = some o → h'.get? s.own = some o) : s.Holds h' v := by
  cases s with
  | d D n => obtain ⟨m, hm, e⟩ := x; exact ⟨m, hm.at' hk, e⟩
  | c a => obtain ⟨o, ho, hd⟩ := x; exact ⟨o, hk o ho, hd⟩

noncomputable def attrNames : List Str := [("signs" : Str), ("behind" : Str), ("firsts" : Str), ("ends" : Str), ("empty" : Str)]
/-- a namespace, as an object -/
noncomputable def ObNs (o : Obj) (m : Str → Option Value) : Prop := ∃ es ep, o.data = .dict es ep ∧ StrKeys es ∧ UniqKeys es ∧ ∀ name, nsFind es name = m name
/-- what an object is laid out as: its values, and what they stand for -/
inductive Lay : Obj → List Value → List V → O → Prop
  | lst {vs : Array Value} {n : Nat} {xs : List V} : vs.size ≤ sizeLine → Lay { cls := .type "list", data := .seq vs n } vs.toList xs (.lst xs)
  | idict {o : Obj} {kvs : List (Int × Value)} {ys : List (Int × V)} : (∀ (prog : Program) (w : World), o.IsDictOf (intKind prog w) kvs) → kvs.length ≤ sizeLine → kvs.map (·.1) = ys.map (·.1) → Lay o (kvs.map (·.2)) (ys.map (·.2)) (.idict ys)
  | attrs {o : Obj} {vs : List Value} {xs : List V} : ObNs o (fun y => (attrNames.zip vs).lookup y) → vs.length ≤ attrNames.length → Lay o vs xs (.attrs xs)
/-- a tracked object at its address -/
inductive RepO (T : Addr → Prop) (μ : List Addr) (h : Heap) (a : Addr) : O → Prop
  | dead : RepO T μ h a .dead
  | priv : RepO T μ h a .priv
  | live {o vs xs ob} : h.get? a = some o → Lay o vs xs ob → RepVs T μ h vs xs → RepO T μ h a ob
theorem RepO.lst {T : Addr → Prop} {μ : List Addr} {h : Heap} {a : Addr} {vs : Array Value} {n : Nat} {xs : List V} (ho : h.get? a = some { cls := .type "list", data := .seq vs n }) (hz : vs.size ≤ sizeLine) (r : RepVs T μ h vs.toList xs) : RepO T μ h a (.lst xs) := .live ho (.lst hz) r
theorem RepO.lst_inv {T : Addr → Prop} {μ : List Addr} {h : Heap} {a : Addr} {xs : List V} (x : RepO T μ h a (.lst xs)) : ∃ (vs : Array Value) (n : Nat), h.get? a = some { cls := .type "list", data := .seq vs n } ∧ vs.size ≤ sizeLine ∧ RepVs T μ h vs.toList xs := by
  cases x with
  | live ho L r => cases L with | lst hz => exact ⟨_, _, ho, hz, r⟩

structure Cx where
  prog : Program
  w : World
  base : Heap
  A : Around
  env : Env
  sl : Nat → Option Slot
noncomputable def Own (c : Cx) (b : Addr) : Prop := ∃ i s, c.sl i = some s ∧ s.own = b

structure Inv (c : Cx) (st : St) (μ : List Addr) (h : Heap) : Prop where
  vars : ∀ (i : Nat) (x : V), st.ρ[i]? = some (some x) → ∃ s v, c.sl i = some s ∧ s.Holds h v ∧ RepV (Tr st.σ μ) μ h v x
  slots : ∀ i s, c.sl i = some s → s.Ok h
  objs : ∀ (n : Nat) (o : O), st.σ[n]? = some o → ∃ a, μ[n]? = some a ∧ RepO (Tr st.σ μ) μ h a o
  len : μ.length = st.σ.length
  nd : μ.Nodup
  lt : ∀ a ∈ μ, a < h.objs.size
  base : ∀ b o, c.base.get? b = some o → h.get? b = some o
  baseS : ∀ b, Own c b → c.base.get? b = none
  baseM : ∀ a ∈ μ, c.base.get? a = none
  sep : ∀ b, Own c b → b ∉ μ

structure Stp (c : Cx) (σ : List O) (μ : List Addr) (h : Heap) (σ' : List O) (μ' : List Addr) (h' : Heap) : Prop where
  size : h.objs.size ≤ h'.objs.size
  keep : ∀ b o, h.get? b = some o → ¬ Own c b → ¬ Tr σ μ b → h'.get? b = some o
  pre : ∀ (n : Nat) (a : Addr), μ[n]? = some a → μ'[n]? = some a
  tr : ∀ b, Tr σ' μ' b → Tr σ μ b ∨ h.objs.size ≤ b
  new : ∀ a ∈ μ', a ∈ μ ∨ h.objs.size ≤ a
  pv : ∀ (n : Nat), σ[n]? = some O.priv → σ'[n]? = some O.priv
  pk : ∀ (n : Nat) (a : Addr) (o : Obj), σ[n]? = some O.priv → μ[n]? = some a → h.get? a = some o → h'.get? a = some o

theorem pv_set {σ : List O} {n : Nat} {o o' : O} (e : σ[n]? = some o) (h : o ≠ .priv) : ∀ (k : Nat), σ[k]? = some O.priv → (σ.set n o')[k]? = some O.priv := fun k q => by
  have : n ≠ k := fun x => by subst x; rw [e] at q; exact h (Option.some.inj q)
  rw [List.getElem?_set_ne this]; exact q
theorem Tr.mem {σ : List O} {μ : List Addr} {b : Addr} (x : Tr σ μ b) : b ∈ μ := let ⟨_, _, _, _, e⟩ := x; List.mem_of_getElem? e

theorem Stp.refl {c : Cx} {σ : List O} {μ : List Addr} {h : Heap} : Stp c σ μ h σ μ h := ⟨Nat.le_refl _, fun _ _ e _ _ => e, fun _ _ e => e, fun _ e => .inl e, fun _ e => .inl e, fun _ e => e, fun _ _ _ _ _ e => e⟩
theorem Stp.trans {c : Cx} {σ σ' σ'' : List O} {μ μ' μ'' : List Addr} {h h' h'' : Heap} (x : Stp c σ μ h σ' μ' h') (y : Stp c σ' μ' h' σ'' μ'' h'') : Stp c σ μ h σ'' μ'' h'' where
  size := Nat.le_trans x.size y.size
  keep := fun b o e h1 h2 => y.keep b o (x.keep b o e h1 h2) h1 fun q => (x.tr b q).elim h2 fun q => Nat.lt_irrefl _ (Nat.lt_of_lt_of_le (Heap.lt_size e) q)
  pre := fun n a e => y.pre n a (x.pre n a e)
  tr := fun b q => (y.tr b q).elim (fun q => x.tr b q) fun q => .inr (Nat.le_trans x.size q)
  new := fun a q => (y.new a q).elim (fun q => x.new a q) fun q => .inr (Nat.le_trans x.size q)
  pv := fun n e => y.pv n (x.pv n e)
  pk := fun n a o e e' e'' => y.pk n a o (x.pv n e) (x.pre n a e') (x.pk n a o e e' e'')

section
variable {c : Cx} {st st' : St} {μ μ' : List Addr} {h h' : Heap}

theorem Inv.own_data (I : Inv c st μ h) {b : Addr} (q : Own c b) {o : Obj} (e : h.get? b = some o) : ¬ Still o := by
  obtain ⟨i, s, hs, rfl⟩ := q
  obtain ⟨o', ho, hd⟩ := (I.slots i s hs).get
  obtain rfl := Option.some.inj (e.symm.trans ho)
  rintro (⟨vs, n, hq⟩ | hq) <;> rcases hd with ⟨es, n', hd⟩ | ⟨v, hd⟩ <;> rw [hd] at hq <;> cases hq
theorem RepV.step (I : Inv c st μ h) (S : Stp c st.σ μ h st'.σ μ' h') {v : Value} {x : V} (r : RepV (Tr st.σ μ) μ h v x) : RepV (Tr st'.σ μ') μ' h' v x :=
  r.move (fun a o e hd hT => ⟨S.keep a o e (fun q => I.own_data q e hd) hT, fun q => (S.tr a q).elim hT fun q => Nat.lt_irrefl _ (Nat.lt_of_lt_of_le (Heap.lt_size e) q)⟩) S.pre
theorem RepVs.step (I : Inv c st μ h) (S : Stp c st.σ μ h st'.σ μ' h') {v : List Value} {x : List V} (r : RepVs (Tr st.σ μ) μ h v x) : RepVs (Tr st'.σ μ') μ' h' v x :=
  r.move (fun a o e hd hT => ⟨S.keep a o e (fun q => I.own_data q e hd) hT, fun q => (S.tr a q).elim hT fun q => Nat.lt_irrefl _ (Nat.lt_of_lt_of_le (Heap.lt_size e) q)⟩) S.pre

/-- the heap has grown only -/
noncomputable def Ext (h h' : Heap) : Prop := h.objs.size ≤ h'.objs.size ∧ ∀ b o, h.get? b = some o → h'.get? b = some o
theorem Ext.refl : Ext h h := ⟨Nat.le_refl _, fun _ _ e => e⟩
theorem Ext.trans {h'' : Heap} (x : Ext h h') (y : Ext h' h'') : Ext h h'' := ⟨Nat.le_trans x.1 y.1, fun b o e => y.2 b o (x.2 b o e)⟩
theorem Ext.push (o : Obj) : Ext h (h.push o) := ⟨by simp, fun _ _ e => Heap.get?_push_of_some _ e⟩

theorem RepV.ext {T : Addr → Prop} (e : Ext h h') {v : Value} {x : V} (r : RepV T μ h v x) : RepV T μ h' v x :=
  r.move (fun a o q _ hT => ⟨e.2 a o q, hT⟩) fun _ _ q => q
theorem RepVs.ext {T : Addr → Prop} (e : Ext h h') {v : List Value} {x : List V} (r : RepVs T μ h v x) : RepVs T μ h' v x :=
  r.move (fun a o q _ hT => ⟨e.2 a o q, hT⟩) fun _ _ q => q
theorem RepO.ext {T : Addr → Prop} (e : Ext h h') {a : Addr} {o : O} (r : RepO T μ h a o) : RepO T μ h' a o := by
  cases r with
  | dead => exact .dead
  | priv => exact .priv
  | live ho L r => exact .live (e.2 _ _ ho) L (r.ext e)

theorem Inv.ext (I : Inv c st μ h) (e : Ext h h') : Inv c st μ h' where
  vars := fun i x q => let ⟨s, v, h1, h2, h3⟩ := I.vars i x q; ⟨s, v, h1, h2.keeps fun o q => e.2 _ o q, h3.ext e⟩
  slots := fun i s q => (I.slots i s q).keeps fun o q => e.2 _ o q
  objs := fun n o q => let ⟨a, h1, h2⟩ := I.objs n o q; ⟨a, h1, h2.ext e⟩
  len := I.len
  nd := I.nd
  lt := fun a q => Nat.lt_of_lt_of_le (I.lt a q) e.1
  base := fun b o q => e.2 b o (I.base b o q)
  baseS := I.baseS
  baseM := I.baseM
  sep := I.sep
theorem Stp.ext (e : Ext h h') {σ : List O} : Stp c σ μ h σ μ h' := ⟨e.1, fun b o q _ _ => e.2 b o q, fun _ _ q => q, fun _ q => .inl q, fun _ q => .inl q, fun _ q => q, fun _ a o _ _ q => e.2 a o q⟩
end

noncomputable def Same (s s' : Shared) : Prop := s'.gens = s.gens ∧ s'.drawn = s.drawn ∧ s'.os = s.os
theorem Same.refl {s : Shared} : Same s s := ⟨rfl, rfl, rfl⟩
theorem Same.trans {s s' s'' : Shared} (x : Same s s') (y : Same s' s'') : Same s s'' := ⟨y.1.trans x.1, y.2.1.trans x.2.1, y.2.2.trans x.2.2⟩

/-- the tree t does what the interpreter's answer m says -/
noncomputable def Sim {α β : Type} (c : Cx) (t : Sem α) (m : R β) (rel : St → List Addr → Heap → α → β → Prop) (σ : List O) (μ : List Addr) (s : Shared) : Prop :=
  match m with
  | .stuck => True
  | .exc _ _ => True
  | .ok b st' => wpAny (model c.prog c.w) c.A t (fun a s' => ∃ μ', rel st' μ' s'.heap a b ∧ Inv c st' μ' s'.heap ∧ Stp c σ μ s.heap st'.σ μ' s'.heap ∧ Same s s') (fun _ _ => False) s

noncomputable def rV (st : St) (μ : List Addr) (h : Heap) (v : Value) (x : V) : Prop := RepV (Tr st.σ μ) μ h v x
noncomputable def rVs (st : St) (μ : List Addr) (h : Heap) (v : List Value) (x : List V) : Prop := RepVs (Tr st.σ μ) μ h v x
noncomputable def rEq {α : Type} (_ : St) (_ : List Addr) (_ : Heap) (v : α) (x : α) : Prop := v = x

section
variable {α β γ δ : Type} {c : Cx} {σ : List O} {μ : List Addr} {s : Shared} {rel : St → List Addr → Heap → α → β → Prop} {rel' : St → List Addr → Heap → γ → δ → Prop}

theorem Sim.bind {t : Sem α} {f : α → Sem γ} {m : R β} {g : β → St → R δ} (h : Sim c t m rel σ μ s)
    (hf : ∀ b st₁ a μ₁ s₁, m = .ok b st₁ → rel st₁ μ₁ s₁.heap a b → Inv c st₁ μ₁ s₁.heap → Stp c σ μ s.heap st₁.σ μ₁ s₁.heap → Sim c (f a) (g b st₁) rel' st₁.σ μ₁ s₁) :
    Sim c (t >>= f) (m.bind g) rel' σ μ s := by
  cases m with
  | stuck => trivial
  | exc x st => trivial
  | ok b st₁ =>
    simp only [R.bind_ok]
    cases hg : g b st₁ with
    | stuck => trivial
    | exc x st => trivial
    | ok d st₂ =>
      refine wpAny_bind (wpAny_mono h (fun a s₁ ⟨μ₁, h1, h2, h3, h4⟩ => ?_) fun _ _ e => e.elim)
      have q := hf b st₁ a μ₁ s₁ rfl h1 h2 h3
      rw [hg] at q
      exact wpAny_mono q (fun a₂ s₂ ⟨μ₂, k1, k2, k3, k4⟩ => ⟨μ₂, k1, k2, h3.trans k3, h4.trans k4⟩) fun _ _ e => e

theorem Sim.pure {a : α} {b : β} {st : St} (I : Inv c st μ s.heap) (h : rel st μ s.heap a b) : Sim c (pure a) (.ok b st) rel st.σ μ s :=
  wpAny_pure ⟨μ, h, I, .refl, .refl⟩
theorem Sim.stuck {t : Sem α} : Sim (β := β) c t .stuck rel σ μ s := trivial
theorem Sim.exc {t : Sem α} {x : Str} {st : St} : Sim (β := β) c t (.exc x st) rel σ μ s := trivial

/-- a leaf: the heap grows at most -/
theorem Sim.leaf {t : Sem α} {b : β} {st : St} (I : Inv c st μ s.heap)
    (h : wpAny (model c.prog c.w) c.A t (fun a s' => Ext s.heap s'.heap ∧ Same s s' ∧ rel st μ s'.heap a b) (fun _ _ => False) s) : Sim c t (.ok b st) rel st.σ μ s :=
  wpAny_mono h (fun _ _ ⟨e, q, r⟩ => ⟨μ, r, I.ext e, .ext e, q⟩) fun _ _ e => e

theorem Sim.holding {vs : List Value} {t : Sem α} {m : R β} (h : Sim c t m rel σ μ s) : Sim c (holding vs t) m rel σ μ s := by
  cases m with
  | stuck => trivial
  | exc x st => trivial
  | ok b st => exact wpAny_holding h
theorem Sim.at {p : Pos} {f : Unit → Sem α} {m : R β} (h : Sim c (f ()) m rel σ μ s) : Sim c (standAt p >>= f) m rel σ μ s := by
  cases m with
  | stuck => trivial
  | exc x st => trivial
  | ok b st => exact wpAny_bind (wpAny_standAt h)
theorem Sim.operate {vs : List Value} {t : Sem Value} {m : R β} {rel : St → List Addr → Heap → Value → β → Prop} (h : Sim c t m rel σ μ s) : Sim c (operate vs t) m rel σ μ s := by
  cases m with
  | stuck => trivial
  | exc x st => trivial
  | ok b st => exact fun Γ p hΓ => by rw [Sem.wp_operate]; exact h Γ p hΓ
theorem Sim.release {vs keep : List Value} {f : Unit → Sem α} {m : R β} (h : Sim c (f ()) m rel σ μ s) : Sim c (release vs keep >>= f) m rel σ μ s := by
  cases m with
  | stuck => trivial
  | exc x st => trivial
  | ok b st => exact wpAny_bind (fun Γ p _ => by rw [Sem.wp_release]; exact h)
/-- by a rule of the library -/
theorem Sim.via {t : Sem α} {T : Sem γ} {f : α → Sem γ} {m : R β} {g : β → St → R δ}
    (hT : ∀ Q : γ → Shared → Prop, wpAny (model c.prog c.w) c.A t (fun a s₁ => wpAny (model c.prog c.w) c.A (f a) Q (fun _ _ => False) s₁) (fun _ _ => False) s → wpAny (model c.prog c.w) c.A T Q (fun _ _ => False) s)
    (h : Sim c t m rel σ μ s)
    (hf : ∀ b st₁ a μ₁ s₁, m = .ok b st₁ → rel st₁ μ₁ s₁.heap a b → Inv c st₁ μ₁ s₁.heap → Stp c σ μ s.heap st₁.σ μ₁ s₁.heap → Sim c (f a) (g b st₁) rel' st₁.σ μ₁ s₁) :
    Sim c T (m.bind g) rel' σ μ s := by
  cases m with
  | stuck => trivial
  | exc x st => trivial
  | ok b st₁ =>
    simp only [R.bind_ok]
    cases hg : g b st₁ with
    | stuck => trivial
    | exc x st => trivial
    | ok d st₂ =>
      refine hT _ (wpAny_mono h (fun a s₁ ⟨μ₁, h1, h2, h3, h4⟩ => ?_) fun _ _ e => e.elim)
      have q := hf b st₁ a μ₁ s₁ rfl h1 h2 h3
      rw [hg] at q
      exact wpAny_mono q (fun a₂ s₂ ⟨μ₂, k1, k2, k3, k4⟩ => ⟨μ₂, k1, k2, h3.trans k3, h4.trans k4⟩) fun _ _ e => e
theorem Sim.imp {T T' : Sem α} {m : R β} (hT : ∀ Q : α → Shared → Prop, wpAny (model c.prog c.w) c.A T Q (fun _ _ => False) s → wpAny (model c.prog c.w) c.A T' Q (fun _ _ => False) s) (h : Sim c T m rel σ μ s) : Sim c T' m rel σ μ s := by
  cases m with
  | stuck => trivial
  | exc x st => trivial
  | ok b st => exact hT _ h
theorem Sim.of_eq {t t' : Sem α} {m : R β} (e : t = t') (h : Sim c t' m rel σ μ s) : Sim c t m rel σ μ s := e ▸ h
theorem Sim.map {t : Sem α} {m : R β} {f : α → γ} {g : β → δ} (h : Sim c t m rel σ μ s) (hr : ∀ st μ h a b, rel st μ h a b → rel' st μ h (f a) (g b)) :
    Sim c (t >>= fun a => Pure.pure (f a)) (m.bind fun b st => .ok (g b) st) rel' σ μ s :=
  Sim.bind h fun b st₁ a μ₁ s₁ _ r I _ => Sim.pure I (hr _ _ _ _ _ r)
end

end Mine
namespace Mine
open PySem

inductive Op | add | sub | mul | fdiv | mod | pow
inductive Cm | lt | le | gt | ge | eq | ne | is | isnot | isin | notin
inductive Ty | int | bool | list | tuple | str
inductive Bi | len | int | list | tuple | sorted
inductive Me | find | index | join | append

mutual
inductive Ex
  | none
  | bool (b : Bool)
  | int (i : Int)
  | str (s : Str)
  | loc (i : Nat)
  | fz (i : Nat)
  | bin (op : Op) (a b : Ex)
  | cmp (op : Cm) (a b : Ex)
  | chain (a : Ex) (o1 : Cm) (b : Ex) (o2 : Cm) (c : Ex)
  | band (a b : Ex)
  | bor (a b : Ex)
  | not (a : Ex)
  | neg (i : Int)
  | ite (c a b : Ex)
  | tup (es : Exs)
  | list (es : Exs)
  | listM (es : Exs)
  | sub (a i : Ex)
  | slice (a : Ex) (lo hi : Exo)
  | isin (a : Ex) (t : Ty)
  | bi (f : Bi) (a : Ex)
  | me (m : Me) (a b : Ex)
  | call (f : Str) (es : Exs)
  | callB (f : Str) (es : Exs)
  | callZ (f : Str) (es : Exs)
  | glob (x : Str) (i : Int)
  | dictM
  | attr (a : Ex) (k : Nat)
  | newI
  | lenSet (a : Ex)
  | minD (a : Ex)
  | min2 (a b : Ex)
  | comp (elt : Ex) (k : Nat) (it : It) (ifs : Exs)
inductive Exs
  | nil
  | cons (e : Ex) (es : Exs)
inductive Exo
  | none
  | some (e : Ex)
inductive It
  | val (e : Ex)
  | range1 (a : Ex)
  | range2 (a b : Ex)
  | enum (a : Ex)
  | zip (a b : Ex)
end

mutual
inductive Sm
  | asg (i : Nat) (e : Ex)
  | asgT (is : List Nat) (e : Ex)
  | expr (e : Ex)
  | ret (e : Ex)
  | ifte (c : Ex) (t f : Sms)
  | for1 (i : Nat) (it : It) (body : Sms)
  | forT (is : List Nat) (it : It) (body : Sms)
  | while (c : Ex) (body : Sms)
  | brk
  | stk
  | asgI (a i e : Ex)
  | asgA (a : Ex) (k : Nat) (e : Ex)
  | forD (i : Nat) (e : Ex) (body : Sms)
inductive Sms
  | nil
  | cons (s : Sm) (ss : Sms)
end

inductive Fl
  | next
  | brk
  | cont
  | ret (v : V)

/-! values -/
mutual
noncomputable def V.eqb : V → V → Bool
  | .none, .none => true
  | .bool a, .bool b => a == b
  | .bool a, .int j => (if a then 1 else 0) == j
  | .int i, .bool b => i == (if b then 1 else 0)
  | .int i, .int j => i == j
  | .str x, .str y => x == y
  | .lst xs, .lst ys => V.eqbs xs ys
  | .tup xs, .tup ys => V.eqbs xs ys
  | _, _ => false
noncomputable def V.eqbs : List V → List V → Bool
  | [], [] => true
  | x :: xs, y :: ys => V.eqb x y && V.eqbs xs ys
  | _, _ => false
end
mutual
/-- free of tracked objects; how deep -/
noncomputable def V.depth? : V → Option Nat
  | .tup xs | .lst xs => (V.depths? xs).map (· + 1)
  | .ref _ | .inst _ _ => Option.none
  | _ => some 0
noncomputable def V.depths? : List V → Option Nat
  | [] => some 0
  | x :: xs => match V.depth? x, V.depths? xs with
    | some a, some b => some (max a b)
    | _, _ => Option.none
end
noncomputable def V.flat64 (x : V) : Bool := match x.depth? with | some d => decide (d ≤ 64) | Option.none => false

noncomputable def V.truthy (σ : List O) : V → Option Bool
  | .none => some false
  | .bool b => some b
  | .int i => some (i != 0)
  | .str s => some (!s.isEmpty)
  | .tup xs => some (!xs.isEmpty)
  | .lst xs => some (!xs.isEmpty)
  | .ref n => match σ[n]? with
    | some (.lst xs) => some (!xs.isEmpty)
    | _ => Option.none
  | .inst _ _ => Option.none

noncomputable def V.isNone : V → Bool
  | .none => true
  | _ => false
noncomputable def smallI (i : Int) : Bool := decide (-(2 ^ 63) ≤ i) && decide (i < 2 ^ 63)

noncomputable def smallR (i : Int) : Bool := decide (-(2 ^ 62) ≤ i) && decide (i < 2 ^ 62)
noncomputable def onI {α : Type} (x y : V) (k : Int → Int → Option α) : Option α := match x with
  | .int a => (match y with | .int b => k a b | _ => none)
  | _ => none
noncomputable def addSem (x y : V) : Option V := match x with
  | .int a => (match y with | .int b => some (.int (a + b)) | _ => none)
  | .str a => (match y with | .str b => if a.length + b.length ≤ sizeLine then some (.str (a ++ b)) else none | _ => none)
  | .lst a => (match y with | .lst b => if a.length + b.length ≤ sizeLine then some (.lst (a ++ b)) else none | _ => none)
  | _ => none
noncomputable def binSem (op : Op) (x y : V) : Option V := match op with
  | .add => addSem x y
  | .sub => onI x y fun a b => some (.int (a - b))
  | .mul => onI x y fun a b => if smallI a || smallI b then some (.int (a * b)) else none
  | .fdiv => onI x y fun a b => if b = 0 then none else some (.int (Int.fdiv a b))
  | .mod => onI x y fun a b => if b = 0 then none else some (.int (Int.fmod a b))
  | .pow => onI x y fun a b => if a = 10 ∧ b = 9 then some (.int (10 ^ 9)) else none

noncomputable def onS {α : Type} (y : V) (k : List Nat → Option α) : Option α := match y with
  | .str l => k l
  | _ => none
noncomputable def inSem (x y : V) : Option Bool := onS x fun l => onS y fun z => match l with
  | [d] => some (z.contains d)
  | _ => none
noncomputable def inD (σ : List O) (x y : V) : Option Bool := match y with
  | .ref n => (match x with
    | .int k => (match σ[n]? with
      | some (.idict es) => some (es.any fun p => p.1 = k)
      | _ => none)
    | _ => none)
  | _ => inSem x y
noncomputable def cmpSem (σ : List O) (op : Cm) (x y : V) : Option Bool := match op with
  | .lt => onI x y fun a b => some (decide (a < b))
  | .le => onI x y fun a b => some (decide (a ≤ b))
  | .gt => onI x y fun a b => some (decide (a > b))
  | .ge => onI x y fun a b => some (decide (a ≥ b))
  | .eq => if x.flat64 && y.flat64 then some (V.eqb x y) else none
  | .ne => if x.flat64 && y.flat64 then some (!V.eqb x y) else none
  | .is => (match y with | .none => some x.isNone | _ => none)
  | .isnot => (match y with | .none => some (!x.isNone) | _ => none)
  | .isin => inD σ x y
  | .notin => (inD σ x y).map not

noncomputable def idxOf {α : Type} (xs : List α) (i : Int) : Option α :=
  if smallI i then (if 0 ≤ i then xs[i.toNat]? else if -(xs.length : Int) ≤ i then xs[(i + xs.length).toNat]? else none) else none

noncomputable def dGet (es : List (Int × V)) (k : Int) : Option V := (es.find? fun p => p.1 = k).map (·.2)
noncomputable def subSem (σ : List O) : V → V → Option V
  | .tup xs, .int i => idxOf xs i
  | .lst xs, .int i => idxOf xs i
  | .str x, .int i => (idxOf x i).map fun c => .str [c]
  | .ref n, .int i => match σ[n]? with
    | some (.lst xs) => idxOf xs i
    | some (.idict es) => dGet es i
    | _ => none
  | _, _ => none

noncomputable def cutL {α : Type} (xs : List α) (lo hi : Option Int) : List α :=
  (xs.drop (lo.elim 0 (clipAt xs.length))).take (hi.elim xs.length (clipAt xs.length) - lo.elim 0 (clipAt xs.length))
noncomputable def partOf : V → Option (Option Int)
  | .none => some none
  | .int i => some (some i)
  | _ => none
noncomputable def sliceSem (σ : List O) (x lo hi : V) : Option V :=
  match partOf lo, partOf hi with
  | some l, some h => (match x with
    | .str x => some (.str (cutL x l h))
    | .lst xs => some (.lst (cutL xs l h))
    | .ref n => (match σ[n]? with
      | some (.lst xs) => some (.lst (cutL xs l h))
      | _ => none)
    | _ => none)
  | _, _ => none

noncomputable def isSem (σ : List O) (t : Ty) (x : V) : Option Bool := match x with
  | .none => some false
  | .bool _ => (match t with | .int => some true | .bool => some true | _ => none)
  | .int _ => (match t with | .int => some true | .bool => some false | _ => none)
  | .str _ => (match t with | .int => some false | .bool => some false | .str => some true | _ => none)
  | .tup _ => (match t with | .int => some false | .bool => some false | .list => some false | .tuple => some true | _ => none)
  | .lst _ => (match t with | .int => some false | .bool => some false | .list => some true | .tuple => some false | _ => none)
  | .ref n => (match t with | .list => (match σ[n]? with | some (.lst _) => some true | _ => none) | _ => none)
  | .inst _ _ => none

noncomputable def insI (i : Int) : List Int → List Int
  | [] => [i]
  | j :: r => if i ≤ j then i :: j :: r else j :: insI i r
noncomputable def sortI (l : List Int) : List Int := l.foldr insI []
noncomputable def biSem (σ : List O) (f : Bi) (x : V) : Option V := match f with
  | .len => (match x with
    | .str x => some (.int x.length)
    | .tup xs => some (.int xs.length)
    | .lst xs => some (.int xs.length)
    | .ref n => (match σ[n]? with | some (.lst xs) => some (.int xs.length) | _ => none)
    | _ => none)
  | .int => (match x with
    | .bool b => some (.int (if b then 1 else 0))
    | .int i => some (.int i)
    | _ => none)
  | .list => (match x with
    | .lst xs => some (.lst xs)
    | _ => none)
  | .tuple => (match x with
    | .lst xs => some (.tup xs)
    | _ => none)
  | .sorted => (match x with
    | .ref n => (match σ[n]? with
      | some (.idict es) => if es.length < 64 then some (.lst ((sortI (es.map (·.1))).map .int)) else none
      | _ => none)
    | _ => none)

/-- how many distinct signs -/
noncomputable def lenSetSem (x : V) : Option V := match x with
  | .str l => if l.length < 4000 ∧ l.all (· < 128) = true then some (.int l.eraseDups.length) else none
  | _ => none
/-- min(.., default=None) of at most one int -/
noncomputable def minDSem (x : V) : Option V := match x with
  | .lst [] => some .none
  | .lst [.int i] => some (.int i)
  | _ => none
noncomputable def attrSem (q : Option Int) (σ : List O) (x : V) (k : Nat) : Option V := match x with
  | .inst C n => if q = some (C : Int) then (match σ[n]? with
    | some (.attrs xs) => xs[k]?
    | _ => none) else none
  | _ => none
noncomputable def setAt (xs : List V) (k : Nat) (v : V) : Option (List V) := if k < xs.length then some (xs.set k v) else if k = xs.length then some (xs ++ [v]) else none
noncomputable def clsName : Str := ("Leaves" : Str)
noncomputable def initName : Str := ("Leaves.__init__" : Str)
noncomputable def strsOf : List V → Option (List (List Nat))
  | [] => some []
  | .str x :: r => (strsOf r).map (x :: ·)
  | _ => none
noncomputable def onS1 (x y : V) (st : St) (k : List Nat → Nat → R V) : R V := match x with
  | .str x => (match y with
    | .str l => (match l with | [d] => k x d | _ => .stuck)
    | _ => .stuck)
  | _ => .stuck
noncomputable def joinSem (x y : V) (st : St) : R V := match x with
  | .str [] => (match y with
    | .lst xs => (match strsOf xs with | some l => if l.flatten.length ≤ sizeLine then .ok (.str l.flatten) st else .stuck | none => .stuck)
    | _ => .stuck)
  | _ => .stuck
noncomputable def appSem (x y : V) (st : St) : R V := match x with
  | .ref n => (match st.σ[n]? with
    | some (.lst xs) => if xs.length < sizeLine then .ok .none ⟨st.ρ, st.σ.set n (.lst (xs ++ [y]))⟩ else .stuck
    | _ => .stuck)
  | _ => .stuck
noncomputable def meSem (m : Me) (x y : V) (st : St) : R V := match m with
  | .find => onS1 x y st fun x d => .ok (.int (match x.findIdx? (· == d) with | some i => (i : Int) | none => -1)) st
  | .index => onS1 x y st fun x d => (match x.findIdx? (· == d) with | some i => .ok (.int (i : Int)) st | none => .stuck)
  | .join => joinSem x y st
  | .append => appSem x y st

noncomputable def recvOk (σ : List O) : Me → V → Bool
  | .append, .ref n => (match σ[n]? with | some (.lst _) => true | _ => false)
  | .append, _ => false
  | _, .str _ => true
  | _, _ => false
noncomputable def upTo (a b : Int) : List V := (List.range (b - a).toNat).map fun (k : Nat) => .int (a + (k : Int))
noncomputable def itemsSem (σ : List O) : V → Option (List V)
  | .str x => some (x.map fun c => .str [c])
  | .lst xs => some xs
  | .tup xs => some xs
  | _ => none
noncomputable def enumL (n : Nat) : List V → List V
  | [] => []
  | x :: xs => .tup [.int n, x] :: enumL (n + 1) xs

noncomputable def enumR (x : V) (st : St) : R (List V) := match x with
  | .lst xs => .ok (enumL 0 xs) ⟨st.ρ, st.σ ++ [.priv]⟩
  | _ => .stuck
noncomputable def storedV (es : List (Int × V)) (k : Int) (v : V) : List (Int × V) := if es.any (fun p => p.1 = k) then es.map (fun p => if p.1 = k then (p.1, v) else p) else es ++ [(k, v)]
noncomputable def setI (x y v : V) (st : St) : R Fl := match x with
  | .ref n => (match y with
    | .int k => (match st.σ[n]? with
      | some (.idict es) => if es.length < sizeLine then .ok .next ⟨st.ρ, st.σ.set n (.idict (storedV es k v))⟩ else .stuck
      | _ => .stuck)
    | _ => .stuck)
  | _ => .stuck
noncomputable def setA (q : Option Int) (x v : V) (k : Nat) (st : St) : R Fl := match x with
  | .inst C n => if q = some (C : Int) then (match st.σ[n]? with
    | some (.attrs xs) => (match setAt xs k v with
      | some ys => if ys.length ≤ attrNames.length then .ok .next ⟨st.ρ, st.σ.set n (.attrs ys)⟩ else .stuck
      | none => .stuck)
    | _ => .stuck) else .stuck
  | _ => .stuck
abbrev Fn := Str → List V → List O → R V
/-- the number of the class -/
noncomputable def clsF (F : Fn) : Option Int := match F clsName [.none] [] with
  | .ok (.int C) _ => some C
  | _ => none
noncomputable def O.isDead : O → Bool
  | .dead => true
  | _ => false
/-- the tracked list that is handed in first is lent out as a frozen one -/
noncomputable def lent (n : Nat) (xs : List V) (r : R V) : R V := match r with
  | .ok (.bool b) st => if st.σ.all O.isDead && decide (n < st.σ.length) then .ok (.bool b) ⟨[], st.σ.set n (.lst xs)⟩ else .stuck
  | _ => .stuck
noncomputable def borrow (F : Fn) : Fn := fun f args σ => match args with
  | .ref n :: ys => (match σ[n]? with
    | some (.lst xs) => lent n xs (F f (.lst xs :: ys) (σ.set n .dead))
    | _ => .stuck)
  | _ => .stuck
noncomputable def freezeR (x : V) (st : St) : R V := match x with
  | .ref n => (match st.σ[n]? with
    | some (.lst xs) => .ok (.lst xs) ⟨st.ρ, st.σ.set n .dead⟩
    | _ => .stuck)
  | _ => .stuck
noncomputable def zipR (x y : V) (st : St) : R (List V) := match x, y with
  | .lst xs, .lst ys => .ok ((xs.zip ys).map fun p => .tup [p.1, p.2]) ⟨st.ρ, st.σ ++ [.priv]⟩
  | _, _ => .stuck

noncomputable def setV (st : St) (i : Nat) (x : V) : St := ⟨st.ρ.set i (some x), st.σ⟩
noncomputable def setAll (st : St) : List Nat → List V → Option St
  | [], [] => some st
  | i :: is, x :: xs => setAll (setV st i x) is xs
  | _, _ => none

noncomputable def asT (is : List Nat) (x : V) (st : St) : R Unit := match x with
  | .tup xs => (match setAll st is xs with | some st' => .ok () st' | none => .stuck)
  | _ => .stuck
noncomputable def forR (step : V → St → R Fl) : List V → St → R Fl
  | [], st => .ok .next st
  | x :: xs, st => (step x st).bind fun fl st => match fl with
    | .next => forR step xs st
    | .cont => forR step xs st
    | .brk => .ok .next st
    | .ret v => .ok (.ret v) st
/-- a loop over a dict's keys: the dict is held fast meanwhile -/
noncomputable def forDR (step : V → St → R Fl) (x : V) (st : St) : R Fl := match x with
  | .ref n => (match st.σ[n]? with
    | some (.idict es) => (forR step (es.map fun p => .int p.1) ⟨st.ρ, st.σ.set n .priv⟩).bind fun fl st' => .ok fl ⟨st'.ρ, st'.σ.set n (.idict es)⟩
    | _ => .stuck)
  | _ => .stuck
noncomputable def whileR (test : St → R Bool) (body : St → R Fl) : Nat → St → R Fl
  | 0, _ => .stuck
  | k + 1, st => (test st).bind fun b st => if b then (body st).bind fun fl st => (match fl with
      | .next => whileR test body k st
      | .cont => whileR test body k st
      | .brk => .ok .next st
      | .ret v => .ok (.ret v) st)
    else .ok .next st
noncomputable def compR (k n : Nat) (tests : St → R Bool) (elt : St → R V) : List V → St → R Unit
  | [], st => .ok () st
  | x :: xs, st => (tests (setV st k x)).bind fun b st => if b then (elt st).bind fun y st => (match st.σ[n]? with
      | some (.lst acc) => if acc.length < sizeLine then compR k n tests elt xs ⟨st.ρ, st.σ.set n (.lst (acc ++ [y]))⟩ else .stuck
      | _ => .stuck) else compR k n tests elt xs st

noncomputable def truthR (m : R V) : R Bool := m.bind fun v st => R.lift (v.truthy st.σ) st
noncomputable def callR (r : R V) (ρ : List (Option V)) : R V := match r with
  | .ok v st => .ok v ⟨ρ, st.σ⟩
  | .exc x st => .exc x ⟨ρ, st.σ⟩
  | .stuck => .stuck

mutual
noncomputable def evE (F : Fn) : Ex → St → R V
  | .none, st => .ok .none st
  | .bool b, st => .ok (.bool b) st
  | .int i, st => .ok (.int i) st
  | .str s, st => .ok (.str s.cps.toList) st
  | .loc i, st => match st.ρ[i]? with
    | some (some v) => .ok v st
    | _ => .stuck
  | .fz i, st => match st.ρ[i]? with
    | some (some (.ref n)) => (match st.σ[n]? with
      | some (.lst xs) => .ok (.lst xs) ⟨st.ρ.set i (some (.lst xs)), st.σ.set n .dead⟩
      | _ => .stuck)
    | _ => .stuck
  | .bin op a b, st => (evE F a st).bind fun x st => (evE F b st).bind fun y st => R.lift (binSem op x y) st
  | .cmp op a b, st => (evE F a st).bind fun x st => (evE F b st).bind fun y st => R.lift ((cmpSem st.σ op x y).map .bool) st
  | .chain a o1 b o2 c, st => (evE F a st).bind fun x st => (evE F b st).bind fun y st => (R.lift (cmpSem st.σ o1 x y) st).bind fun t st =>
      if t then (evE F c st).bind fun z st => R.lift ((cmpSem st.σ o2 y z).map .bool) st else .ok (.bool false) st
  | .band a b, st => (evE F a st).bind fun x st => (R.lift (x.truthy st.σ) st).bind fun t st => if t then evE F b st else .ok x st
  | .bor a b, st => (evE F a st).bind fun x st => (R.lift (x.truthy st.σ) st).bind fun t st => if t then .ok x st else evE F b st
  | .not a, st => (truthR (evE F a st)).bind fun t st => .ok (.bool (!t)) st
  | .neg i, st => .ok (.int (-i)) st
  | .ite c a b, st => (truthR (evE F c st)).bind fun t st => if t then evE F a st else evE F b st
  | .tup es, st => (evEs F es st).bind fun xs st => if xs.length ≤ sizeLine then .ok (.tup xs) st else .stuck
  | .list es, st => (evEs F es st).bind fun xs st => if xs.length ≤ sizeLine then .ok (.lst xs) st else .stuck
  | .listM es, st => (evEs F es st).bind fun xs st => if xs.length ≤ sizeLine then .ok (.ref st.σ.length) ⟨st.ρ, st.σ ++ [.lst xs]⟩ else .stuck
  | .sub a i, st => (evE F a st).bind fun x st => (evE F i st).bind fun y st => R.lift (subSem st.σ x y) st
  | .slice a lo hi, st => (evE F a st).bind fun x st => (evO F lo st).bind fun l st => (evO F hi st).bind fun h st => R.lift (sliceSem st.σ x l h) st
  | .isin a t, st => (evE F a st).bind fun x st => R.lift ((isSem st.σ t x).map .bool) st
  | .bi f a, st => (evE F a st).bind fun x st => R.lift (biSem st.σ f x) st
  | .me m a b, st => (evE F a st).bind fun x st => if recvOk st.σ m x then (evE F b st).bind fun y st => meSem m x y st else .stuck
  | .call f es, st => (evEs F es st).bind fun xs st => callR (F f xs st.σ) st.ρ
  | .callB f es, st => (evEs F es st).bind fun xs st => callR (borrow F f xs st.σ) st.ρ
  | .glob _ i, st => .ok (.int i) st
  | .dictM, st => .ok (.ref st.σ.length) ⟨st.ρ, st.σ ++ [.idict []]⟩
  | .attr a k, st => (evE F a st).bind fun x st => R.lift (attrSem (clsF F) st.σ x k) st
  | .newI, st => callR (F clsName [] st.σ) st.ρ
  | .lenSet a, st => (evE F a st).bind fun x st => R.lift (lenSetSem x) st
  | .minD a, st => (evE F a st).bind fun x st => R.lift (minDSem x) st
  | .min2 a b, st => (evE F a st).bind fun x st => (evE F b st).bind fun y st => R.lift (onI x y fun a b => some (.int (if b < a then b else a))) st
  | .callZ f es, st => (evEs F es st).bind fun xs st => (callR (F f xs st.σ) st.ρ).bind fun x st => freezeR x st
  | .comp elt k it ifs, st => (evIt F it st).bind fun items st => (compR k st.σ.length (evTs F ifs) (evE F elt) items ⟨st.ρ.set k none, st.σ ++ [.lst []]⟩).bind fun _ st' =>
      match st'.σ[st.σ.length]? with
      | some (.lst ys) => .ok (.lst ys) ⟨st'.ρ.set k none, st'.σ.set st.σ.length .dead⟩
      | _ => .stuck
noncomputable def evEs (F : Fn) : Exs → St → R (List V)
  | .nil, st => .ok [] st
  | .cons e es, st => (evE F e st).bind fun x st => (evEs F es st).bind fun xs st => .ok (x :: xs) st
noncomputable def evTs (F : Fn) : Exs → St → R Bool
  | .nil, st => .ok true st
  | .cons e es, st => (truthR (evE F e st)).bind fun b st => if b then evTs F es st else .ok false st
noncomputable def evO (F : Fn) : Exo → St → R V
  | .none, st => .ok .none st
  | .some e, st => evE F e st
noncomputable def evIt (F : Fn) : It → St → R (List V)
  | .val e, st => (evE F e st).bind fun x st => R.lift (itemsSem st.σ x) st
  | .range1 a, st => (evE F a st).bind fun x st => (match x with
    | .int n => if smallR n then .ok (upTo 0 n) st else .stuck
    | _ => .stuck)
  | .range2 a b, st => (evE F a st).bind fun x st => (evE F b st).bind fun y st => (match x, y with
    | .int m, .int n => if smallR m && smallR n then .ok (upTo m n) st else .stuck
    | _, _ => .stuck)
  | .enum a, st => (evE F a st).bind fun x st => enumR x st
  | .zip a b, st => (evE F a st).bind fun x st => (evE F b st).bind fun y st => zipR x y st
end

mutual
noncomputable def evS (F : Fn) (K : Nat) : Sm → St → R Fl
  | .asg i e, st => (evE F e st).bind fun x st => .ok .next (setV st i x)
  | .asgT is e, st => (evE F e st).bind fun x st => (asT is x st).bind fun _ st => .ok .next st
  | .expr e, st => (evE F e st).bind fun _ st => .ok .next st
  | .ret e, st => (evE F e st).bind fun x st => .ok (.ret x) st
  | .ifte c t f, st => (truthR (evE F c st)).bind fun b st => if b then evSs F K t st else evSs F K f st
  | .for1 i it body, st => (evIt F it st).bind fun items st => forR (fun x st => evSs F K body (setV st i x)) items st
  | .forT is it body, st => (evIt F it st).bind fun items st => forR (fun x st => (asT is x st).bind fun _ st => evSs F K body st) items st
  | .while c body, st => whileR (fun st => truthR (evE F c st)) (fun st => evSs F K body st) K st
  | .brk, st => .ok .brk st
  | .stk, _ => .stuck
  | .asgI a i e, st => (evE F e st).bind fun v st => (evE F a st).bind fun x st => (evE F i st).bind fun y st => setI x y v st
  | .asgA a k e, st => (evE F e st).bind fun v st => (evE F a st).bind fun x st => setA (clsF F) x v k st
  | .forD i e body, st => (evE F e st).bind fun x st => forDR (fun x st => evSs F K body (setV st i x)) x st
noncomputable def evSs (F : Fn) (K : Nat) : Sms → St → R Fl
  | .nil, st => .ok .next st
  | .cons s ss, st => (evS F K s st).bind fun fl st => match fl with
    | .next => evSs F K ss st
    | f => .ok f st
end

/-- a def: its parameters are the locals 0 .. params - 1 -/
structure Def where
  name : Str
  params : List Str
  locals : List Str
  slots : Nat
  body : Sms
  globs : List (Str × Int)

mutual
/-- all places lie below n -/
noncomputable def V.lo (n : Nat) : V → Bool
  | .ref k | .inst _ k => decide (k < n)
  | .tup xs | .lst xs => V.los n xs
  | _ => true
noncomputable def V.los (n : Nat) : List V → Bool
  | [] => true
  | x :: xs => V.lo n x && V.los n xs
end

noncomputable def Fl.val : Fl → V
  | .ret v => v
  | _ => .none
noncomputable def O.lo (n : Nat) : O → Bool
  | .lst xs => V.los n xs
  | .idict es => V.los n (es.map (·.2))
  | .attrs xs => V.los n xs
  | .dead => true
  | .priv => true
noncomputable def runDef (F : Fn) (K : Nat) (d : Def) (args : List V) (σ : List O) : R V :=
  if args.length = d.params.length then
    (evSs F K d.body ⟨args.map some ++ List.replicate (d.slots - args.length) none, σ⟩).bind fun fl st =>
      if fl.val.lo σ.length && (st.σ.take σ.length).all (O.lo σ.length) then .ok fl.val ⟨[], st.σ.take σ.length⟩ else .ok fl.val ⟨[], st.σ⟩
  else .stuck
/-- an instance made by its class: initName's def is run on the new one -/
noncomputable def newR (C : Nat) (F : Fn) (σ : List O) : R V := (F initName [.inst C σ.length] (σ ++ [.attrs []])).bind fun r st => match r with
  | .none => .ok (.inst C σ.length) st
  | _ => .stuck
noncomputable def callN (C : Nat) (defs : List Def) (K : Nat) : Nat → Fn
  | 0 => fun _ _ _ => .stuck
  | n + 1 => fun f args σ => if f = clsName then (if args.isEmpty then newR C (callN C defs K n) σ else .ok (.int C) ⟨[], σ⟩) else match defs.find? (fun d => d.name == f) with
    | some d => runDef (callN C defs K n) K d args σ
    | none => .stuck

end Mine
namespace Mine
open PySem
theorem qvE_none (F : Fn)  (st : St) : evE F (.none) st = (.ok .none st) := Eq.trans rfl rfl
theorem qvE_bool (F : Fn) (b : Bool) (st : St) : evE F (.bool b) st = (.ok (.bool b) st) := Eq.trans rfl rfl
theorem qvE_int (F : Fn) (i : Int) (st : St) : evE F (.int i) st = (.ok (.int i) st) := Eq.trans rfl rfl
theorem qvE_str (F : Fn) (s : Str) (st : St) : evE F (.str s) st = (.ok (.str s.cps.toList) st) := Eq.trans rfl rfl
theorem qvE_loc (F : Fn) (i : Nat) (st : St) : evE F (.loc i) st = (match st.ρ[i]? with
    | some (some v) => .ok v st
    | _ => .stuck) := Eq.trans rfl rfl
theorem qvE_fz (F : Fn) (i : Nat) (st : St) : evE F (.fz i) st = (match st.ρ[i]? with
    | some (some (.ref n)) => (match st.σ[n]? with
      | some (.lst xs) => .ok (.lst xs) ⟨st.ρ.set i (some (.lst xs)), st.σ.set n .dead⟩
      | _ => .stuck)
    | _ => .stuck) := Eq.trans rfl rfl
theorem qvE_bin (F : Fn) (op : Op) (a b : Ex) (st : St) : evE F (.bin op a b) st = ((evE F a st).bind fun x st => (evE F b st).bind fun y st => R.lift (binSem op x y) st) := Eq.trans rfl rfl
theorem qvE_cmp (F : Fn) (op : Cm) (a b : Ex) (st : St) : evE F (.cmp op a b) st = ((evE F a st).bind fun x st => (evE F b st).bind fun y st => R.lift ((cmpSem st.σ op x y).map .bool) st) := Eq.trans rfl rfl
theorem qvE_chain (F : Fn) (a : Ex) (o1 : Cm) (b : Ex) (o2 : Cm) (c : Ex) (st : St) : evE F (.chain a o1 b o2 c) st = ((evE F a st).bind fun x st => (evE F b st).bind fun y st => (R.lift (cmpSem st.σ o1 x y) st).bind fun t st =>
      if t then (evE F c st).bind fun z st => R.lift ((cmpSem st.σ o2 y z).map .bool) st else .ok (.bool false) st) := Eq.trans rfl rfl
theorem qvE_band (F : Fn) (a b : Ex) (st : St) : evE F (.band a b) st = ((evE F a st).bind fun x st => (R.lift (x.truthy st.σ) st).bind fun t st => if t then evE F b st else .ok x st) := Eq.trans rfl rfl
theorem qvE_bor (F : Fn) (a b : Ex) (st : St) : evE F (.bor a b) st = ((evE F a st).bind fun x st => (R.lift (x.truthy st.σ) st).bind fun t st => if t then .ok x st else evE F b st) := Eq.trans rfl rfl
theorem qvE_not (F : Fn) (a : Ex) (st : St) : evE F (.not a) st = ((truthR (evE F a st)).bind fun t st => .ok (.bool (!t)) st) := Eq.trans rfl rfl
theorem qvE_neg (F : Fn) (i : Int) (st : St) : evE F (.neg i) st = (.ok (.int (-i)) st) := Eq.trans rfl rfl
theorem qvE_ite (F : Fn) (c a b : Ex) (st : St) : evE F (.ite c a b) st = ((truthR (evE F c st)).bind fun t st => if t then evE F a st else evE F b st) := Eq.trans rfl rfl
theorem qvE_tup (F : Fn) (es : Exs) (st : St) : evE F (.tup es) st = ((evEs F es st).bind fun xs st => if xs.length ≤ sizeLine then .ok (.tup xs) st else .stuck) := Eq.trans rfl rfl
theorem qvE_list (F : Fn) (es : Exs) (st : St) : evE F (.list es) st = ((evEs F es st).bind fun xs st => if xs.length ≤ sizeLine then .ok (.lst xs) st else .stuck) := Eq.trans rfl rfl
theorem qvE_listM (F : Fn) (es : Exs) (st : St) : evE F (.listM es) st = ((evEs F es st).bind fun xs st => if xs.length ≤ sizeLine then .ok (.ref st.σ.length) ⟨st.ρ, st.σ ++ [.lst xs]⟩ else .stuck) := Eq.trans rfl rfl
theorem qvE_sub (F : Fn) (a i : Ex) (st : St) : evE F (.sub a i) st = ((evE F a st).bind fun x st => (evE F i st).bind fun y st => R.lift (subSem st.σ x y) st) := Eq.trans rfl rfl
theorem qvE_slice (F : Fn) (a : Ex) (lo hi : Exo) (st : St) : evE F (.slice a lo hi) st = ((evE F a st).bind fun x st => (evO F lo st).bind fun l st => (evO F hi st).bind fun h st => R.lift (sliceSem st.σ x l h) st) := Eq.trans rfl rfl
theorem qvE_isin (F : Fn) (a : Ex) (t : Ty) (st : St) : evE F (.isin a t) st = ((evE F a st).bind fun x st => R.lift ((isSem st.σ t x).map .bool) st) := Eq.trans rfl rfl
theorem qvE_bi (F : Fn) (f : Bi) (a : Ex) (st : St) : evE F (.bi f a) st = ((evE F a st).bind fun x st => R.lift (biSem st.σ f x) st) := Eq.trans rfl rfl
theorem qvE_me (F : Fn) (m : Me) (a b : Ex) (st : St) : evE F (.me m a b) st = ((evE F a st).bind fun x st => if recvOk st.σ m x then (evE F b st).bind fun y st => meSem m x y st else .stuck) := Eq.trans rfl rfl
theorem qvE_call (F : Fn) (f : Str) (es : Exs) (st : St) : evE F (.call f es) st = ((evEs F es st).bind fun xs st => callR (F f xs st.σ) st.ρ) := Eq.trans rfl rfl
theorem qvE_callB (F : Fn) (f : Str) (es : Exs) (st : St) : evE F (.callB f es) st = ((evEs F es st).bind fun xs st => callR (borrow F f xs st.σ) st.ρ) := Eq.trans rfl rfl
theorem qvE_glob (F : Fn) (x : Str) (i : Int) (st : St) : evE F (.glob x i) st = (.ok (.int i) st) := Eq.trans rfl rfl
theorem qvE_dictM (F : Fn) (st : St) : evE F .dictM st = (.ok (.ref st.σ.length) ⟨st.ρ, st.σ ++ [.idict []]⟩) := Eq.trans rfl rfl
theorem qvE_attr (F : Fn) (a : Ex) (k : Nat) (st : St) : evE F (.attr a k) st = ((evE F a st).bind fun x st => R.lift (attrSem (clsF F) st.σ x k) st) := Eq.trans rfl rfl
theorem qvE_newI (F : Fn) (st : St) : evE F .newI st = callR (F clsName [] st.σ) st.ρ := Eq.trans rfl rfl
theorem qvE_lenSet (F : Fn) (a : Ex) (st : St) : evE F (.lenSet a) st = ((evE F a st).bind fun x st => R.lift (lenSetSem x) st) := Eq.trans rfl rfl
theorem qvE_minD (F : Fn) (a : Ex) (st : St) : evE F (.minD a) st = ((evE F a st).bind fun x st => R.lift (minDSem x) st) := Eq.trans rfl rfl
theorem qvE_min2 (F : Fn) (a b : Ex) (st : St) : evE F (.min2 a b) st = ((evE F a st).bind fun x st => (evE F b st).bind fun y st => R.lift (onI x y fun a b => some (.int (if b < a then b else a))) st) := Eq.trans rfl rfl
theorem qvE_callZ (F : Fn) (f : Str) (es : Exs) (st : St) : evE F (.callZ f es) st = ((evEs F es st).bind fun xs st => (callR (F f xs st.σ) st.ρ).bind fun x st => freezeR x st) := Eq.trans rfl rfl
theorem qvE_comp (F : Fn) (elt : Ex) (k : Nat) (it : It) (ifs : Exs) (st : St) : evE F (.comp elt k it ifs) st = ((evIt F it st).bind fun items st => (compR k st.σ.length (evTs F ifs) (evE F elt) items ⟨st.ρ.set k none, st.σ ++ [.lst []]⟩).bind fun _ st' =>
      match st'.σ[st.σ.length]? with
      | some (.lst ys) => .ok (.lst ys) ⟨st'.ρ.set k none, st'.σ.set st.σ.length .dead⟩
      | _ => .stuck) := Eq.trans rfl rfl
theorem qvEs_nil (F : Fn)  (st : St) : evEs F (.nil) st = (.ok [] st) := Eq.trans rfl rfl
theorem qvEs_cons (F : Fn) (e : Ex) (es : Exs) (st : St) : evEs F (.cons e es) st = ((evE F e st).bind fun x st => (evEs F es st).bind fun xs st => .ok (x :: xs) st) := Eq.trans rfl rfl
theorem qvTs_nil (F : Fn)  (st : St) : evTs F (.nil) st = (.ok true st) := Eq.trans rfl rfl
theorem qvTs_cons (F : Fn) (e : Ex) (es : Exs) (st : St) : evTs F (.cons e es) st = ((truthR (evE F e st)).bind fun b st => if b then evTs F es st else .ok false st) := Eq.trans rfl rfl
theorem qvO_none (F : Fn)  (st : St) : evO F (.none) st = (.ok .none st) := Eq.trans rfl rfl
theorem qvO_some (F : Fn) (e : Ex) (st : St) : evO F (.some e) st = (evE F e st) := Eq.trans rfl rfl
theorem qvIt_val (F : Fn) (e : Ex) (st : St) : evIt F (.val e) st = ((evE F e st).bind fun x st => R.lift (itemsSem st.σ x) st) := Eq.trans rfl rfl
theorem qvIt_range1 (F : Fn) (a : Ex) (st : St) : evIt F (.range1 a) st = ((evE F a st).bind fun x st => (match x with
    | .int n => if smallR n then .ok (upTo 0 n) st else .stuck
    | _ => .stuck)) := Eq.trans rfl rfl
theorem qvIt_range2 (F : Fn) (a b : Ex) (st : St) : evIt F (.range2 a b) st = ((evE F a st).bind fun x st => (evE F b st).bind fun y st => (match x, y with
    | .int m, .int n => if smallR m && smallR n then .ok (upTo m n) st else .stuck
    | _, _ => .stuck)) := Eq.trans rfl rfl
theorem qvIt_enum (F : Fn) (a : Ex) (st : St) : evIt F (.enum a) st = ((evE F a st).bind fun x st => enumR x st) := Eq.trans rfl rfl
theorem qvIt_zip (F : Fn) (a b : Ex) (st : St) : evIt F (.zip a b) st = ((evE F a st).bind fun x st => (evE F b st).bind fun y st => zipR x y st) := Eq.trans rfl rfl
theorem qvS_asg (F : Fn) (K : Nat) (i : Nat) (e : Ex) (st : St) : evS F K (.asg i e) st = ((evE F e st).bind fun x st => .ok .next (setV st i x)) := Eq.trans rfl rfl
theorem qvS_asgT (F : Fn) (K : Nat) (is : List Nat) (e : Ex) (st : St) : evS F K (.asgT is e) st = ((evE F e st).bind fun x st => (asT is x st).bind fun _ st => .ok .next st) := Eq.trans rfl rfl
theorem qvS_expr (F : Fn) (K : Nat) (e : Ex) (st : St) : evS F K (.expr e) st = ((evE F e st).bind fun _ st => .ok .next st) := Eq.trans rfl rfl
theorem qvS_ret (F : Fn) (K : Nat) (e : Ex) (st : St) : evS F K (.ret e) st = ((evE F e st).bind fun x st => .ok (.ret x) st) := Eq.trans rfl rfl
theorem qvS_ifte (F : Fn) (K : Nat) (c : Ex) (t f : Sms) (st : St) : evS F K (.ifte c t f) st = ((truthR (evE F c st)).bind fun b st => if b then evSs F K t st else evSs F K f st) := Eq.trans rfl rfl
theorem qvS_for1 (F : Fn) (K : Nat) (i : Nat) (it : It) (body : Sms) (st : St) : evS F K (.for1 i it body) st = ((evIt F it st).bind fun items st => forR (fun x st => evSs F K body (setV st i x)) items st) := Eq.trans rfl rfl
theorem qvS_forT (F : Fn) (K : Nat) (is : List Nat) (it : It) (body : Sms) (st : St) : evS F K (.forT is it body) st = ((evIt F it st).bind fun items st => forR (fun x st => (asT is x st).bind fun _ st => evSs F K body st) items st) := Eq.trans rfl rfl
theorem qvS_while (F : Fn) (K : Nat) (c : Ex) (body : Sms) (st : St) : evS F K (.while c body) st = (whileR (fun st => truthR (evE F c st)) (fun st => evSs F K body st) K st) := Eq.trans rfl rfl
theorem qvS_brk (F : Fn) (K : Nat)  (st : St) : evS F K (.brk) st = (.ok .brk st) := Eq.trans rfl rfl
theorem qvS_stk (F : Fn) (K : Nat) (st : St) : evS F K .stk st = .stuck := Eq.trans rfl rfl
theorem qvS_asgI (F : Fn) (K : Nat) (a i e : Ex) (st : St) : evS F K (.asgI a i e) st = ((evE F e st).bind fun v st => (evE F a st).bind fun x st => (evE F i st).bind fun y st => setI x y v st) := Eq.trans rfl rfl
theorem qvS_asgA (F : Fn) (K : Nat) (a : Ex) (k : Nat) (e : Ex) (st : St) : evS F K (.asgA a k e) st = ((evE F e st).bind fun v st => (evE F a st).bind fun x st => setA (clsF F) x v k st) := Eq.trans rfl rfl
theorem qvS_forD (F : Fn) (K : Nat) (i : Nat) (e : Ex) (body : Sms) (st : St) : evS F K (.forD i e body) st = ((evE F e st).bind fun x st => forDR (fun x st => evSs F K body (setV st i x)) x st) := Eq.trans rfl rfl
theorem qvSs_nil (F : Fn) (K : Nat)  (st : St) : evSs F K (.nil) st = (.ok .next st) := Eq.trans rfl rfl
theorem qvSs_cons (F : Fn) (K : Nat) (s : Sm) (ss : Sms) (st : St) : evSs F K (.cons s ss) st = ((evS F K s st).bind fun fl st => match fl with
    | .next => evSs F K ss st
    | f => .ok f st) := Eq.trans rfl rfl
end Mine
namespace Mine
open PySem
/-! strict forms: no continuation stands under a binder -/
noncomputable def bin1 (op : Op) (x : V) : R V → R V
  | .ok y st => R.lift (binSem op x y) st
  | .exc e st => .exc e st
  | .stuck => .stuck
noncomputable def bin2 (op : Op) (m : R V) (k : St → R V) : R V := m.bind fun x st => bin1 op x (k st)
noncomputable def cmp1 (op : Cm) (x : V) : R V → R V
  | .ok y st => R.lift ((cmpSem st.σ op x y).map .bool) st
  | .exc e st => .exc e st
  | .stuck => .stuck
noncomputable def cmp2 (op : Cm) (m : R V) (k : St → R V) : R V := m.bind fun x st => cmp1 op x (k st)
noncomputable def sub1 (x : V) : R V → R V
  | .ok y st => R.lift (subSem st.σ x y) st
  | .exc e st => .exc e st
  | .stuck => .stuck
noncomputable def sub2 (m : R V) (k : St → R V) : R V := m.bind fun x st => sub1 x (k st)
noncomputable def sl0 (x l : V) : R V → R V
  | .ok h st => R.lift (sliceSem st.σ x l h) st
  | .exc e st => .exc e st
  | .stuck => .stuck
noncomputable def sl1 (x : V) (m : R V) (k : St → R V) : R V := m.bind fun l st => sl0 x l (k st)
noncomputable def sl2 (m : R V) (k k' : St → R V) : R V := m.bind fun x st => sl1 x (k st) k'
noncomputable def ch3 (y : V) (o2 : Cm) : R V → R V
  | .ok z st => R.lift ((cmpSem st.σ o2 y z).map .bool) st
  | .exc e st => .exc e st
  | .stuck => .stuck
noncomputable def ch2 (y : V) (o2 : Cm) (k : St → R V) (m : R Bool) : R V := m.bind fun t st => if t then ch3 y o2 (k st) else .ok (.bool false) st
noncomputable def ch1 (o1 : Cm) (x : V) (o2 : Cm) (k : St → R V) (m : R V) : R V := m.bind fun y st => ch2 y o2 k (R.lift (cmpSem st.σ o1 x y) st)
noncomputable def ch0 (o1 o2 : Cm) (k k' : St → R V) (m : R V) : R V := m.bind fun x st => ch1 o1 x o2 k' (k st)
noncomputable def band1 (x : V) (k : St → R V) (m : R Bool) : R V := m.bind fun t st => if t then k st else .ok x st
noncomputable def band2 (m : R V) (k : St → R V) : R V := m.bind fun x st => band1 x k (R.lift (x.truthy st.σ) st)
noncomputable def bor1 (x : V) (k : St → R V) (m : R Bool) : R V := m.bind fun t st => if t then .ok x st else k st
noncomputable def bor2 (m : R V) (k : St → R V) : R V := m.bind fun x st => bor1 x k (R.lift (x.truthy st.σ) st)
noncomputable def not1 (m : R Bool) : R V := m.bind fun t st => .ok (.bool (!t)) st
noncomputable def truth1 (m : R V) : R Bool := m.bind fun v st => R.lift (v.truthy st.σ) st
noncomputable def ite1 (m : R Bool) (k k' : St → R V) : R V := m.bind fun t st => if t then k st else k' st
noncomputable def tup1 (m : R (List V)) : R V := m.bind fun xs st => if xs.length ≤ sizeLine then .ok (.tup xs) st else .stuck
noncomputable def list1 (m : R (List V)) : R V := m.bind fun xs st => if xs.length ≤ sizeLine then .ok (.lst xs) st else .stuck
noncomputable def listM1 (m : R (List V)) : R V := m.bind fun xs st => if xs.length ≤ sizeLine then .ok (.ref st.σ.length) ⟨st.ρ, st.σ ++ [.lst xs]⟩ else .stuck
noncomputable def isin1 (t : Ty) (m : R V) : R V := m.bind fun x st => R.lift ((isSem st.σ t x).map .bool) st
noncomputable def bi1 (f : Bi) (m : R V) : R V := m.bind fun x st => R.lift (biSem st.σ f x) st
noncomputable def me1 (m : Me) (x : V) : R V → R V
  | .ok y st => meSem m x y st
  | .exc e st => .exc e st
  | .stuck => .stuck
noncomputable def me2 (m : Me) (r : R V) (k : St → R V) : R V := r.bind fun x st => if recvOk st.σ m x then me1 m x (k st) else .stuck
noncomputable def call1 (F : Fn) (f : Str) (m : R (List V)) : R V := m.bind fun xs st => callR (F f xs st.σ) st.ρ
noncomputable def frz1 (m : R V) : R V := m.bind fun x st => freezeR x st
noncomputable def cons1 (x : V) : R (List V) → R (List V)
  | .ok xs st => .ok (x :: xs) st
  | .exc e st => .exc e st
  | .stuck => .stuck
noncomputable def cons2 (m : R V) (k : St → R (List V)) : R (List V) := m.bind fun x st => cons1 x (k st)
noncomputable def test1 (m : R Bool) (k : St → R Bool) : R Bool := m.bind fun b st => if b then k st else .ok false st
noncomputable def asg1 (i : Nat) (m : R V) : R Fl := m.bind fun x st => .ok .next (setV st i x)
noncomputable def expr1 (m : R V) : R Fl := m.bind fun _ st => .ok .next st
noncomputable def ret1 (m : R V) : R Fl := m.bind fun x st => .ok (.ret x) st
noncomputable def if1 (m : R Bool) (k k' : St → R Fl) : R Fl := m.bind fun b st => if b then k st else k' st
noncomputable def seq1 (m : R Fl) (k : St → R Fl) : R Fl := m.bind fun fl st => match fl with
  | .next => k st
  | f => .ok f st
noncomputable def for1R (step : V → St → R Fl) (m : R (List V)) : R Fl := m.bind fun xs st => forR step xs st
noncomputable def attr1 (q : Option Int) (k : Nat) (m : R V) : R V := m.bind fun x st => R.lift (attrSem q st.σ x k) st
noncomputable def lenSet1 (m : R V) : R V := m.bind fun x st => R.lift (lenSetSem x) st
noncomputable def minD1 (m : R V) : R V := m.bind fun x st => R.lift (minDSem x) st
noncomputable def min1 (x : V) : R V → R V
  | .ok y st => R.lift (onI x y fun a b => some (.int (if b < a then b else a))) st
  | .exc e st => .exc e st
  | .stuck => .stuck
noncomputable def min2 (m : R V) (k : St → R V) : R V := m.bind fun x st => min1 x (k st)
noncomputable def setI1 (x v : V) : R V → R Fl
  | .ok y st => setI x y v st
  | .exc e st => .exc e st
  | .stuck => .stuck
noncomputable def setI2 (v : V) (m : R V) (k : St → R V) : R Fl := m.bind fun x st => setI1 x v (k st)
noncomputable def setI3 (m : R V) (k k' : St → R V) : R Fl := m.bind fun v st => setI2 v (k st) k'
noncomputable def setA1 (q : Option Int) (k : Nat) (v : V) (m : R V) : R Fl := m.bind fun x st => setA q x v k st
noncomputable def setA2 (q : Option Int) (k : Nat) (m : R V) (f : St → R V) : R Fl := m.bind fun v st => setA1 q k v (f st)
noncomputable def forD1 (step : V → St → R Fl) (m : R V) : R Fl := m.bind fun x st => forDR step x st
noncomputable def asT1 (is : List Nat) (m : R V) : R Fl := m.bind fun x st => (asT is x st).bind fun _ st => .ok .next st
noncomputable def enum1 (m : R V) : R (List V) := m.bind fun x st => enumR x st
noncomputable def items1 (m : R V) : R (List V) := m.bind fun x st => R.lift (itemsSem st.σ x) st
noncomputable def rng1 (m : R V) : R (List V) := m.bind fun x st => (match x with
    | .int n => if smallR n then .ok (upTo 0 n) st else .stuck
    | _ => .stuck)
noncomputable def rngB (x : V) : R V → R (List V)
  | .ok y st => (match x, y with
    | .int m, .int n => if smallR m && smallR n then .ok (upTo m n) st else .stuck
    | _, _ => .stuck)
  | .exc e st => .exc e st
  | .stuck => .stuck
noncomputable def rng2 (m : R V) (k : St → R V) : R (List V) := m.bind fun x st => rngB x (k st)
noncomputable def zipB (x : V) : R V → R (List V)
  | .ok y st => zipR x y st
  | .exc e st => .exc e st
  | .stuck => .stuck
noncomputable def zip2 (m : R V) (k : St → R V) : R (List V) := m.bind fun x st => zipB x (k st)
theorem bind_ext {α β : Type} (m : R α) {f g : α → St → R β} (h : ∀ a st, f a st = g a st) : m.bind f = m.bind g := congrArg m.bind (funext fun a => funext fun st => h a st)
theorem wvE_bin (F : Fn) (op : Op) (a b : Ex) (st : St) : evE F (.bin op a b) st = bin2 op (evE F a st) (evE F b) := (qvE_bin F op a b st).trans (bind_ext _ fun x st => by cases evE F b st <;> rfl)
theorem wvE_cmp (F : Fn) (op : Cm) (a b : Ex) (st : St) : evE F (.cmp op a b) st = cmp2 op (evE F a st) (evE F b) := (qvE_cmp F op a b st).trans (bind_ext _ fun x st => by cases evE F b st <;> rfl)
theorem wvE_sub (F : Fn) (a b : Ex) (st : St) : evE F (.sub a b) st = sub2 (evE F a st) (evE F b) := (qvE_sub F a b st).trans (bind_ext _ fun x st => by cases evE F b st <;> rfl)
theorem wvE_slice (F : Fn) (a : Ex) (lo hi : Exo) (st : St) : evE F (.slice a lo hi) st = sl2 (evE F a st) (evO F lo) (evO F hi) := (qvE_slice F a lo hi st).trans (bind_ext _ fun x st => bind_ext _ fun l st => by cases evO F hi st <;> rfl)
theorem wvE_chain (F : Fn) (a : Ex) (o1 : Cm) (b : Ex) (o2 : Cm) (c : Ex) (st : St) : evE F (.chain a o1 b o2 c) st = ch0 o1 o2 (evE F b) (evE F c) (evE F a st) :=
  (qvE_chain F a o1 b o2 c st).trans (bind_ext _ fun x st => bind_ext _ fun y st => bind_ext _ fun t st => by cases t <;> first | rfl | (cases evE F c st <;> rfl))
theorem wvE_band (F : Fn) (a b : Ex) (st : St) : evE F (.band a b) st = band2 (evE F a st) (evE F b) := (qvE_band F a b st).trans rfl
theorem wvE_bor (F : Fn) (a b : Ex) (st : St) : evE F (.bor a b) st = bor2 (evE F a st) (evE F b) := (qvE_bor F a b st).trans rfl
theorem wvE_not (F : Fn) (a : Ex) (st : St) : evE F (.not a) st = not1 (truth1 (evE F a st)) := (qvE_not F a st).trans rfl
theorem wvE_ite (F : Fn) (c a b : Ex) (st : St) : evE F (.ite c a b) st = ite1 (truth1 (evE F c st)) (evE F a) (evE F b) := (qvE_ite F c a b st).trans rfl
theorem wvE_tup (F : Fn) (es : Exs) (st : St) : evE F (.tup es) st = tup1 (evEs F es st) := (qvE_tup F es st).trans rfl
theorem wvE_list (F : Fn) (es : Exs) (st : St) : evE F (.list es) st = list1 (evEs F es st) := (qvE_list F es st).trans rfl
theorem wvE_listM (F : Fn) (es : Exs) (st : St) : evE F (.listM es) st = listM1 (evEs F es st) := (qvE_listM F es st).trans rfl
theorem wvE_isin (F : Fn) (a : Ex) (t : Ty) (st : St) : evE F (.isin a t) st = isin1 t (evE F a st) := (qvE_isin F a t st).trans rfl
theorem wvE_bi (F : Fn) (f : Bi) (a : Ex) (st : St) : evE F (.bi f a) st = bi1 f (evE F a st) := (qvE_bi F f a st).trans rfl
theorem wvE_me (F : Fn) (m : Me) (a b : Ex) (st : St) : evE F (.me m a b) st = me2 m (evE F a st) (evE F b) := (qvE_me F m a b st).trans (bind_ext _ fun x st => by
  cases recvOk st.σ m x with
  | false => rfl
  | true => cases evE F b st <;> rfl)
theorem wvE_call (F : Fn) (f : Str) (es : Exs) (st : St) : evE F (.call f es) st = call1 F f (evEs F es st) := (qvE_call F f es st).trans rfl
theorem wvE_callB (F : Fn) (f : Str) (es : Exs) (st : St) : evE F (.callB f es) st = call1 (borrow F) f (evEs F es st) := (qvE_callB F f es st).trans rfl
theorem wvE_callZ (F : Fn) (f : Str) (es : Exs) (st : St) : evE F (.callZ f es) st = frz1 (call1 F f (evEs F es st)) := (qvE_callZ F f es st).trans (by cases evEs F es st <;> rfl)
theorem wvEs_cons (F : Fn) (e : Ex) (es : Exs) (st : St) : evEs F (.cons e es) st = cons2 (evE F e st) (evEs F es) := (qvEs_cons F e es st).trans (bind_ext _ fun x st => by cases evEs F es st <;> rfl)
theorem wvTs_cons (F : Fn) (e : Ex) (es : Exs) (st : St) : evTs F (.cons e es) st = test1 (truth1 (evE F e st)) (evTs F es) := (qvTs_cons F e es st).trans rfl
theorem wvS_asg (F : Fn) (K : Nat) (i : Nat) (e : Ex) (st : St) : evS F K (.asg i e) st = asg1 i (evE F e st) := (qvS_asg F K i e st).trans rfl
theorem wvS_expr (F : Fn) (K : Nat) (e : Ex) (st : St) : evS F K (.expr e) st = expr1 (evE F e st) := (qvS_expr F K e st).trans rfl
theorem wvS_ret (F : Fn) (K : Nat) (e : Ex) (st : St) : evS F K (.ret e) st = ret1 (evE F e st) := (qvS_ret F K e st).trans rfl
theorem wvS_ifte (F : Fn) (K : Nat) (c : Ex) (t f : Sms) (st : St) : evS F K (.ifte c t f) st = if1 (truth1 (evE F c st)) (evSs F K t) (evSs F K f) := (qvS_ifte F K c t f st).trans rfl
theorem wvS_for1 (F : Fn) (K : Nat) (i : Nat) (it : It) (body : Sms) (st : St) : evS F K (.for1 i it body) st = for1R (fun x st => evSs F K body (setV st i x)) (evIt F it st) := (qvS_for1 F K i it body st).trans rfl
theorem wvS_forT (F : Fn) (K : Nat) (is : List Nat) (it : It) (body : Sms) (st : St) : evS F K (.forT is it body) st = for1R (fun x st => (asT is x st).bind fun _ st => evSs F K body st) (evIt F it st) := (qvS_forT F K is it body st).trans rfl
theorem wvSs_cons (F : Fn) (K : Nat) (s : Sm) (ss : Sms) (st : St) : evSs F K (.cons s ss) st = seq1 (evS F K s st) (evSs F K ss) := (qvSs_cons F K s ss st).trans (bind_ext _ fun fl st => by cases fl <;> rfl)
theorem wvIt_val (F : Fn) (e : Ex) (st : St) : evIt F (.val e) st = items1 (evE F e st) := (qvIt_val F e st).trans rfl
theorem wvIt_range1 (F : Fn) (a : Ex) (st : St) : evIt F (.range1 a) st = rng1 (evE F a st) := (qvIt_range1 F a st).trans rfl
theorem wvIt_range2 (F : Fn) (a b : Ex) (st : St) : evIt F (.range2 a b) st = rng2 (evE F a st) (evE F b) := (qvIt_range2 F a b st).trans (bind_ext _ fun x st => by cases evE F b st <;> rfl)
theorem wvIt_zip (F : Fn) (a b : Ex) (st : St) : evIt F (.zip a b) st = zip2 (evE F a st) (evE F b) := (qvIt_zip F a b st).trans (bind_ext _ fun x st => by cases evE F b st <;> rfl)
theorem wvE_attr (F : Fn) (a : Ex) (k : Nat) (st : St) : evE F (.attr a k) st = attr1 (clsF F) k (evE F a st) := (qvE_attr F a k st).trans rfl
theorem wvE_lenSet (F : Fn) (a : Ex) (st : St) : evE F (.lenSet a) st = lenSet1 (evE F a st) := (qvE_lenSet F a st).trans rfl
theorem wvE_minD (F : Fn) (a : Ex) (st : St) : evE F (.minD a) st = minD1 (evE F a st) := (qvE_minD F a st).trans rfl
theorem wvE_min2 (F : Fn) (a b : Ex) (st : St) : evE F (.min2 a b) st = min2 (evE F a st) (evE F b) := (qvE_min2 F a b st).trans (bind_ext _ fun x st => by cases evE F b st <;> rfl)
theorem wvE_newI (F : Fn) (ρ : List (Option V)) (σ : List O) : evE F .newI ⟨ρ, σ⟩ = callR (F clsName [] σ) ρ := (qvE_newI F ⟨ρ, σ⟩).trans rfl
theorem wvE_dictM (F : Fn) (ρ : List (Option V)) (σ : List O) : evE F .dictM ⟨ρ, σ⟩ = .ok (.ref σ.length) ⟨ρ, σ ++ [.idict []]⟩ := (qvE_dictM F ⟨ρ, σ⟩).trans rfl
theorem wvS_asgI (F : Fn) (K : Nat) (a i e : Ex) (st : St) : evS F K (.asgI a i e) st = setI3 (evE F e st) (evE F a) (evE F i) := (qvS_asgI F K a i e st).trans (bind_ext _ fun v st => bind_ext _ fun x st => by cases evE F i st <;> rfl)
theorem wvS_asgA (F : Fn) (K : Nat) (a : Ex) (k : Nat) (e : Ex) (st : St) : evS F K (.asgA a k e) st = setA2 (clsF F) k (evE F e st) (evE F a) := (qvS_asgA F K a k e st).trans rfl
theorem wvS_asgT (F : Fn) (K : Nat) (is : List Nat) (e : Ex) (st : St) : evS F K (.asgT is e) st = asT1 is (evE F e st) := (qvS_asgT F K is e st).trans rfl
theorem wvS_forD (F : Fn) (K : Nat) (i : Nat) (e : Ex) (body : Sms) (st : St) : evS F K (.forD i e body) st = forD1 (fun x st => evSs F K body (setV st i x)) (evE F e st) := (qvS_forD F K i e body st).trans rfl
theorem wvIt_enum (F : Fn) (a : Ex) (st : St) : evIt F (.enum a) st = enum1 (evE F a st) := (qvIt_enum F a st).trans rfl
theorem wk_loc (F : Fn) (i : Nat) (ρ : List (Option V)) (σ : List O) : evE F (.loc i) ⟨ρ, σ⟩ = (match ρ[i]? with
    | some (some v) => .ok v ⟨ρ, σ⟩
    | _ => .stuck) := (qvE_loc F i ⟨ρ, σ⟩).trans rfl
theorem k_bin2 (op x st k) : bin2 op (.ok x st) k = bin1 op x (k st) := Eq.trans rfl rfl
theorem k_bin1 (op x y st) : bin1 op x (.ok y st) = R.lift (binSem op x y) st := Eq.trans rfl rfl
theorem k_cmp2 (op x st k) : cmp2 op (.ok x st) k = cmp1 op x (k st) := Eq.trans rfl rfl
theorem k_cmp1 (op x y st) : cmp1 op x (.ok y st) = R.lift ((cmpSem st.σ op x y).map .bool) st := Eq.trans rfl rfl
theorem k_sub2 (x st k) : sub2 (.ok x st) k = sub1 x (k st) := Eq.trans rfl rfl
theorem k_sub1 (x y st) : sub1 x (.ok y st) = R.lift (subSem st.σ x y) st := Eq.trans rfl rfl
theorem k_sl2 (x st k k') : sl2 (.ok x st) k k' = sl1 x (k st) k' := Eq.trans rfl rfl
theorem k_sl1 (x l st k) : sl1 x (.ok l st) k = sl0 x l (k st) := Eq.trans rfl rfl
theorem k_sl0 (x l h st) : sl0 x l (.ok h st) = R.lift (sliceSem st.σ x l h) st := Eq.trans rfl rfl
theorem k_ch0 (o1 o2 k k' x st) : ch0 o1 o2 k k' (.ok x st) = ch1 o1 x o2 k' (k st) := Eq.trans rfl rfl
theorem k_ch1 (o1 x o2 k y st) : ch1 o1 x o2 k (.ok y st) = ch2 y o2 k (R.lift (cmpSem st.σ o1 x y) st) := Eq.trans rfl rfl
theorem k_ch2t (y o2 k st) : ch2 y o2 k (.ok true st) = ch3 y o2 (k st) := Eq.trans rfl rfl
theorem k_ch2f (y o2 k st) : ch2 y o2 k (.ok false st) = .ok (.bool false) st := Eq.trans rfl rfl
theorem k_ch3 (y o2 z st) : ch3 y o2 (.ok z st) = R.lift ((cmpSem st.σ o2 y z).map .bool) st := Eq.trans rfl rfl
theorem k_band2 (x st k) : band2 (.ok x st) k = band1 x k (R.lift (x.truthy st.σ) st) := Eq.trans rfl rfl
theorem k_band1t (x st k) : band1 x k (.ok true st) = k st := Eq.trans rfl rfl
theorem k_band1f (x st k) : band1 x k (.ok false st) = .ok x st := Eq.trans rfl rfl
theorem k_bor2 (x st k) : bor2 (.ok x st) k = bor1 x k (R.lift (x.truthy st.σ) st) := Eq.trans rfl rfl
theorem k_bor1t (x st k) : bor1 x k (.ok true st) = .ok x st := Eq.trans rfl rfl
theorem k_bor1f (x st k) : bor1 x k (.ok false st) = k st := Eq.trans rfl rfl
theorem k_not (b st) : not1 (.ok b st) = .ok (.bool (!b)) st := Eq.trans rfl rfl
theorem k_truth (x st) : truth1 (.ok x st) = R.lift (x.truthy st.σ) st := Eq.trans rfl rfl
theorem k_ite_t (st k k') : ite1 (.ok true st) k k' = k st := Eq.trans rfl rfl
theorem k_ite_f (st k k') : ite1 (.ok false st) k k' = k' st := Eq.trans rfl rfl
theorem k_tup (xs st) : tup1 (.ok xs st) = if xs.length ≤ sizeLine then .ok (.tup xs) st else .stuck := Eq.trans rfl rfl
theorem k_list (xs st) : list1 (.ok xs st) = if xs.length ≤ sizeLine then .ok (.lst xs) st else .stuck := Eq.trans rfl rfl
theorem k_listM (xs ρ σ) : listM1 (.ok xs ⟨ρ, σ⟩) = if xs.length ≤ sizeLine then .ok (.ref σ.length) ⟨ρ, σ ++ [.lst xs]⟩ else .stuck := Eq.trans rfl rfl
theorem k_isin (t x st) : isin1 t (.ok x st) = R.lift ((isSem st.σ t x).map .bool) st := Eq.trans rfl rfl
theorem k_bi (f x st) : bi1 f (.ok x st) = R.lift (biSem st.σ f x) st := Eq.trans rfl rfl
theorem k_me2 (m x st k) : me2 m (.ok x st) k = if recvOk st.σ m x then me1 m x (k st) else .stuck := Eq.trans rfl rfl
theorem k_me1 (m x y st) : me1 m x (.ok y st) = meSem m x y st := Eq.trans rfl rfl
theorem k_call (F f xs ρ σ) : call1 F f (.ok xs ⟨ρ, σ⟩) = callR (F f xs σ) ρ := Eq.trans rfl rfl
theorem k_callR (v ρ' σ ρ) : callR (.ok v ⟨ρ', σ⟩) ρ = .ok v ⟨ρ, σ⟩ := Eq.trans rfl rfl
theorem k_frz (x st) : frz1 (.ok x st) = freezeR x st := Eq.trans rfl rfl
theorem k_cons2 (x st k) : cons2 (.ok x st) k = cons1 x (k st) := Eq.trans rfl rfl
theorem k_cons1 (x xs st) : cons1 x (.ok xs st) = .ok (x :: xs) st := Eq.trans rfl rfl
theorem k_test_t (st k) : test1 (.ok true st) k = k st := Eq.trans rfl rfl
theorem k_test_f (st k) : test1 (.ok false st) k = .ok false st := Eq.trans rfl rfl
theorem k_asg (i x ρ σ) : asg1 i (.ok x ⟨ρ, σ⟩) = .ok .next ⟨ρ.set i (some x), σ⟩ := Eq.trans rfl rfl
theorem k_expr (x st) : expr1 (.ok x st) = .ok .next st := Eq.trans rfl rfl
theorem k_ret (x st) : ret1 (.ok x st) = .ok (.ret x) st := Eq.trans rfl rfl
theorem k_if_t (st k k') : if1 (.ok true st) k k' = k st := Eq.trans rfl rfl
theorem k_if_f (st k k') : if1 (.ok false st) k k' = k' st := Eq.trans rfl rfl
theorem k_seq (st k) : seq1 (.ok .next st) k = k st := Eq.trans rfl rfl
theorem k_seqr (v st k) : seq1 (.ok (.ret v) st) k = .ok (.ret v) st := Eq.trans rfl rfl
theorem k_seqb (st k) : seq1 (.ok .brk st) k = .ok .brk st := Eq.trans rfl rfl
theorem k_for (step xs st) : for1R step (.ok xs st) = forR step xs st := Eq.trans rfl rfl
theorem k_attr (q k x st) : attr1 q k (.ok x st) = R.lift (attrSem q st.σ x k) st := Eq.trans rfl rfl
theorem k_lenSet (x st) : lenSet1 (.ok x st) = R.lift (lenSetSem x) st := Eq.trans rfl rfl
theorem k_minD (x st) : minD1 (.ok x st) = R.lift (minDSem x) st := Eq.trans rfl rfl
theorem k_min2 (x st k) : min2 (.ok x st) k = min1 x (k st) := Eq.trans rfl rfl
theorem k_min1 (a b st) : min1 (.int a) (.ok (.int b) st) = .ok (.int (if b < a then b else a)) st := Eq.trans rfl rfl
theorem k_setI1 (x v y st) : setI1 x v (.ok y st) = setI x y v st := Eq.trans rfl rfl
theorem k_setI2 (v x st k) : setI2 v (.ok x st) k = setI1 x v (k st) := Eq.trans rfl rfl
theorem k_setI3 (v st k k') : setI3 (.ok v st) k k' = setI2 v (k st) k' := Eq.trans rfl rfl
theorem k_setA1 (q k v x st) : setA1 q k v (.ok x st) = setA q x v k st := Eq.trans rfl rfl
theorem k_setA2 (q k v st f) : setA2 q k (.ok v st) f = setA1 q k v (f st) := Eq.trans rfl rfl
theorem k_forD (step x st) : forD1 step (.ok x st) = forDR step x st := Eq.trans rfl rfl
theorem k_enum (xs ρ σ) : enum1 (.ok (.lst xs) ⟨ρ, σ⟩) = .ok (enumL 0 xs) ⟨ρ, σ ++ [.priv]⟩ := Eq.trans rfl rfl
theorem k_asT3 (i j k x y z ρ σ) : asT1 [i, j, k] (.ok (.tup [x, y, z]) ⟨ρ, σ⟩) = .ok .next ⟨((ρ.set i (some x)).set j (some y)).set k (some z), σ⟩ := Eq.trans rfl rfl
theorem q_attr {q : Option Int} {σ : List O} {C n k : Nat} {xs : List V} {v : V} (hq : q = some (C : Int)) (h : σ[n]? = some (.attrs xs)) (hk : xs[k]? = some v) : attrSem q σ (.inst C n) k = some v := by
  show (if q = some (C : Int) then (match σ[n]? with | some (.attrs xs) => xs[k]? | _ => none) else none) = _
  rw [if_pos hq, h]; exact hk
theorem q_setI {ρ : List (Option V)} {σ : List O} {n : Nat} {k : Int} {v : V} {es : List (Int × V)} (h : σ[n]? = some (.idict es)) (hl : es.length < sizeLine) : setI (.ref n) (.int k) v ⟨ρ, σ⟩ = .ok .next ⟨ρ, σ.set n (.idict (storedV es k v))⟩ := by
  show (match σ[n]? with | some (.idict es) => if es.length < sizeLine then .ok .next ⟨ρ, σ.set n (.idict (storedV es k v))⟩ else .stuck | _ => .stuck : R Fl) = _
  rw [h]; exact if_pos hl
theorem q_setA {ρ : List (Option V)} {σ : List O} {C n k : Nat} {v : V} {xs ys : List V} {q : Option Int} (hq : q = some (C : Int)) (h : σ[n]? = some (.attrs xs)) (hs : setAt xs k v = some ys) (hl : ys.length ≤ attrNames.length) : setA q (.inst C n) v k ⟨ρ, σ⟩ = .ok .next ⟨ρ, σ.set n (.attrs ys)⟩ := by
  show (if q = some (C : Int) then (match σ[n]? with | some (.attrs xs) => (match setAt xs k v with | some ys => if ys.length ≤ attrNames.length then .ok .next ⟨ρ, σ.set n (.attrs ys)⟩ else .stuck | none => .stuck) | _ => .stuck) else .stuck : R Fl) = _
  rw [if_pos hq, h]; dsimp only; rw [hs]; exact if_pos hl
theorem q_subR {σ : List O} {n : Nat} {i : Int} {xs : List V} (h : σ[n]? = some (.lst xs)) : subSem σ (.ref n) (.int i) = idxOf xs i := by
  show (match σ[n]? with | some (.lst xs) => idxOf xs i | some (.idict es) => dGet es i | _ => none) = _
  rw [h]
theorem q_subD {σ : List O} {n : Nat} {i : Int} {es : List (Int × V)} (h : σ[n]? = some (.idict es)) : subSem σ (.ref n) (.int i) = dGet es i := by
  show (match σ[n]? with | some (.lst xs) => idxOf xs i | some (.idict es) => dGet es i | _ => none) = _
  rw [h]
theorem q_inD {σ : List O} {n : Nat} {k : Int} {es : List (Int × V)} (h : σ[n]? = some (.idict es)) : cmpSem σ .isin (.int k) (.ref n) = some (es.any fun p => p.1 = k) := by
  show (match σ[n]? with | some (.idict es) => some (es.any fun p => p.1 = k) | _ => none) = _
  rw [h]
theorem q_sorted {σ : List O} {n : Nat} {es : List (Int × V)} (h : σ[n]? = some (.idict es)) (hl : es.length < 64) : biSem σ .sorted (.ref n) = some (.lst ((sortI (es.map fun p : Int × V => p.1)).map .int)) := by
  show (match σ[n]? with | some (.idict es) => if es.length < 64 then some (V.lst ((sortI (es.map fun p : Int × V => p.1)).map .int)) else none | _ => none) = _
  rw [h]; exact if_pos hl
theorem q_tuple (σ : List O) (xs : List V) : biSem σ .tuple (.lst xs) = some (.tup xs) := Eq.trans rfl rfl
theorem q_list (σ : List O) (xs : List V) : biSem σ .list (.lst xs) = some (.lst xs) := Eq.trans rfl rfl
theorem q_forD {step : V → St → R Fl} {ρ ρ' : List (Option V)} {σ τ : List O} {n : Nat} {es : List (Int × V)} {fl : Fl} (h : σ[n]? = some (.idict es)) (hf : forR step (es.map fun p => .int p.1) ⟨ρ, σ.set n .priv⟩ = .ok fl ⟨ρ', τ⟩) : forDR step (.ref n) ⟨ρ, σ⟩ = .ok fl ⟨ρ', τ.set n (.idict es)⟩ := by
  show (match σ[n]? with | some (.idict es) => (forR step (es.map fun p => .int p.1) ⟨ρ, σ.set n .priv⟩).bind fun fl st' => .ok fl ⟨st'.ρ, st'.σ.set n (.idict es)⟩ | _ => .stuck : R Fl) = _
  rw [h]; dsimp only; rw [hf, R.bind_ok]
theorem k_items (x st) : items1 (.ok x st) = R.lift (itemsSem st.σ x) st := Eq.trans rfl rfl
theorem k_rng1 (n st) : rng1 (.ok (.int n) st) = if smallR n then .ok (upTo 0 n) st else .stuck := Eq.trans rfl rfl
theorem k_rng2 (x st k) : rng2 (.ok x st) k = rngB x (k st) := Eq.trans rfl rfl
theorem k_rngB (m n st) : rngB (.int m) (.ok (.int n) st) = if smallR m && smallR n then .ok (upTo m n) st else .stuck := Eq.trans rfl rfl
theorem k_zip2 (x st k) : zip2 (.ok x st) k = zipB x (k st) := Eq.trans rfl rfl
theorem k_zipB (xs ys ρ σ) : zipB (.lst xs) (.ok (.lst ys) ⟨ρ, σ⟩) = .ok ((xs.zip ys).map fun p => .tup [p.1, p.2]) ⟨ρ, σ ++ [.priv]⟩ := Eq.trans rfl rfl
theorem qm_find (x : List Nat) (c : Nat) (st : St) : meSem .find (.str x) (.str [c]) st = .ok (.int (match x.findIdx? (· == c) with | some i => (i : Int) | none => -1)) st := Eq.trans rfl rfl
theorem qm_index (x : List Nat) (c : Nat) (st : St) : meSem .index (.str x) (.str [c]) st = (match x.findIdx? (· == c) with | some i => .ok (.int (i : Int)) st | none => .stuck) := Eq.trans rfl rfl
theorem qr_str (σ : List O) (m : Me) (x : List Nat) (h : (match m with | .append => false | _ => true) = true) : recvOk σ m (.str x) = true := by cases m <;> first | rfl | cases h
theorem qr_find (σ : List O) (x : List Nat) : recvOk σ .find (.str x) = true := Eq.trans rfl rfl
theorem qr_index (σ : List O) (x : List Nat) : recvOk σ .index (.str x) = true := Eq.trans rfl rfl
theorem qr_join (σ : List O) (x : List Nat) : recvOk σ .join (.str x) = true := Eq.trans rfl rfl
theorem ql_str (σ : List O) (x : List Nat) : biSem σ .len (.str x) = some (.int x.length) := Eq.trans rfl rfl
theorem ql_tup (σ : List O) (x : List V) : biSem σ .len (.tup x) = some (.int x.length) := Eq.trans rfl rfl
theorem ql_lst (σ : List O) (x : List V) : biSem σ .len (.lst x) = some (.int x.length) := Eq.trans rfl rfl
theorem qm_join {xs : List V} {l : List (List Nat)} (h : strsOf xs = some l) (hz : l.flatten.length ≤ sizeLine) (st : St) : meSem .join (.str []) (.lst xs) st = .ok (.str l.flatten) st := by
  show (match strsOf xs with | some l => if l.flatten.length ≤ sizeLine then .ok (.str l.flatten) st else .stuck | none => .stuck : R V) = _
  rw [h]; exact if_pos hz
theorem qm_append (ρ : List (Option V)) (σ : List O) (n : Nat) (xs : List V) (y : V) (h : σ[n]? = some (.lst xs)) (hl : xs.length < sizeLine) : meSem .append (.ref n) y ⟨ρ, σ⟩ = .ok .none ⟨ρ, σ.set n (.lst (xs ++ [y]))⟩ := by
  show (match σ[n]? with | some (.lst xs) => if xs.length < sizeLine then .ok .none ⟨ρ, σ.set n (.lst (xs ++ [y]))⟩ else .stuck | _ => .stuck : R V) = _
  rw [h]; exact if_pos hl
theorem qr_append (σ : List O) (n : Nat) (xs : List V) (h : σ[n]? = some (.lst xs)) : recvOk σ .append (.ref n) = true := by
  show (match σ[n]? with | some (.lst _) => true | _ => false) = _
  rw [h]
theorem ql_ref (σ : List O) (n : Nat) (xs : List V) (h : σ[n]? = some (.lst xs)) : biSem σ .len (.ref n) = some (.int xs.length) := by
  show (match σ[n]? with | some (.lst xs) => some (V.int xs.length) | _ => none) = _
  rw [h]
theorem qi_bool (σ : List O) (b : Bool) : biSem σ .int (.bool b) = some (.int (if b then 1 else 0)) := Eq.trans rfl rfl
theorem qi_str (σ : List O) (x : List Nat) : itemsSem σ (.str x) = some (x.map fun c => .str [c]) := Eq.trans rfl rfl
theorem qi_lst (σ : List O) (x : List V) : itemsSem σ (.lst x) = some x := Eq.trans rfl rfl
theorem qi_ii (σ : List O) (i : Int) : isSem σ .int (.int i) = some true := Eq.trans rfl rfl
theorem qi_bi (σ : List O) (i : Int) : isSem σ .bool (.int i) = some false := Eq.trans rfl rfl
theorem qsl_str (σ : List O) (x : List Nat) (l h) : sliceSem σ (.str x) (.int l) (.int h) = some (.str (cutL x (some l) (some h))) := Eq.trans rfl rfl
theorem qsl_str0 (σ : List O) (x : List Nat) (h) : sliceSem σ (.str x) .none (.int h) = some (.str (cutL x none (some h))) := Eq.trans rfl rfl
theorem qsl_lst (σ : List O) (x : List V) (l h) : sliceSem σ (.lst x) (.int l) (.int h) = some (.lst (cutL x (some l) (some h))) := Eq.trans rfl rfl
theorem qsl_lst0 (σ : List O) (x : List V) (h) : sliceSem σ (.lst x) .none (.int h) = some (.lst (cutL x none (some h))) := Eq.trans rfl rfl
mutual
theorem V.eqb_refl : ∀ x : V, x.lo 0 = true → V.eqb x x = true
  | .none, _ => by rw [V.eqb]
  | .bool b, _ => by rw [V.eqb]; simp
  | .int i, _ => by rw [V.eqb]; simp
  | .str s, _ => by rw [V.eqb]; simp
  | .tup xs, h => by rw [V.eqb]; exact V.eqbs_refl xs (by rw [V.lo] at h; exact h)
  | .lst xs, h => by rw [V.eqb]; exact V.eqbs_refl xs (by rw [V.lo] at h; exact h)
  | .ref n, h => by rw [V.lo] at h; exact absurd (of_decide_eq_true h) (Nat.not_lt_zero _)
  | .inst _ n, h => by rw [V.lo] at h; exact absurd (of_decide_eq_true h) (Nat.not_lt_zero _)
theorem V.eqbs_refl : ∀ xs : List V, V.los 0 xs = true → V.eqbs xs xs = true
  | [], _ => by rw [V.eqbs]
  | x :: xs, h => by
    rw [V.los, Bool.and_eq_true] at h
    rw [V.eqbs, V.eqb_refl x h.1, V.eqbs_refl xs h.2]; rfl
end
theorem qfree_none {n : Nat} : V.lo n .none = true := by rw [V.lo] <;> simp
theorem qfree_int {n : Nat} (i : Int) : V.lo n (.int i) = true := by rw [V.lo] <;> simp
theorem qfree_bool {n : Nat} (i : Bool) : V.lo n (.bool i) = true := by rw [V.lo] <;> simp
theorem qfree_str {n : Nat} (i : List Nat) : V.lo n (.str i) = true := by rw [V.lo] <;> simp
theorem qfree_tup {n : Nat} (xs : List V) : V.lo n (.tup xs) = V.los n xs := by rw [V.lo]
theorem qfree_lst {n : Nat} (xs : List V) : V.lo n (.lst xs) = V.los n xs := by rw [V.lo]
theorem qfree_ref {n : Nat} (k : Nat) : V.lo n (.ref k) = decide (k < n) := by rw [V.lo]
theorem qfree_inst {n : Nat} (C k : Nat) : V.lo n (.inst C k) = decide (k < n) := by rw [V.lo]
theorem qfrees_nil {n : Nat} : V.los n [] = true := by rw [V.los]
theorem qfrees_cons {n : Nat} (x : V) (xs : List V) : V.los n (x :: xs) = (V.lo n x && V.los n xs) := by rw [V.los]
mutual
theorem V.lo_mono {m n : Nat} (h : m ≤ n) : ∀ x : V, x.lo m = true → x.lo n = true
  | .none, _ => qfree_none
  | .bool b, _ => qfree_bool b
  | .int i, _ => qfree_int i
  | .str s, _ => qfree_str s
  | .tup xs, q => by rw [qfree_tup] at q ⊢; exact V.los_mono h xs q
  | .lst xs, q => by rw [qfree_lst] at q ⊢; exact V.los_mono h xs q
  | .ref k, q => by rw [qfree_ref] at q ⊢; exact decide_eq_true (Nat.lt_of_lt_of_le (of_decide_eq_true q) h)
  | .inst C k, q => by rw [qfree_inst] at q ⊢; exact decide_eq_true (Nat.lt_of_lt_of_le (of_decide_eq_true q) h)
theorem V.los_mono {m n : Nat} (h : m ≤ n) : ∀ xs : List V, V.los m xs = true → V.los n xs = true
  | [], _ => qfrees_nil
  | x :: xs, q => by
    rw [qfrees_cons, Bool.and_eq_true] at q ⊢
    exact ⟨V.lo_mono h x q.1, V.los_mono h xs q.2⟩
end
theorem O.lo_mono {m n : Nat} (h : m ≤ n) {o : O} (q : o.lo m = true) : o.lo n = true := by
  cases o with
  | lst xs => exact V.los_mono h _ q
  | idict es => exact V.los_mono h _ q
  | attrs xs => exact V.los_mono h _ q
  | dead => rfl
  | priv => rfl
theorem qdep_none : V.depth? .none = some 0 := by rw [V.depth?] <;> simp
theorem qdep_int (i : Int) : V.depth? (.int i) = some 0 := by rw [V.depth?] <;> simp
theorem qdep_bool (i : Bool) : V.depth? (.bool i) = some 0 := by rw [V.depth?] <;> simp
theorem qdep_str (i : List Nat) : V.depth? (.str i) = some 0 := by rw [V.depth?] <;> simp
theorem qdep_tup (xs : List V) : V.depth? (.tup xs) = (V.depths? xs).map (· + 1) := by rw [V.depth?]
theorem qdep_lst (xs : List V) : V.depth? (.lst xs) = (V.depths? xs).map (· + 1) := by rw [V.depth?]
theorem qdeps_nil : V.depths? [] = some 0 := by rw [V.depths?]
theorem qdeps_cons (x : V) (xs : List V) : V.depths? (x :: xs) = (match V.depth? x, V.depths? xs with
    | some a, some b => some (max a b)
    | _, _ => Option.none) := by rw [V.depths?] <;> rfl

theorem qc_lt (σ : List O) (a b : Int) : cmpSem σ .lt (.int a) (.int b) = some (decide (a < b)) := Eq.trans rfl rfl
theorem qc_le (σ : List O) (a b : Int) : cmpSem σ .le (.int a) (.int b) = some (decide (a ≤ b)) := Eq.trans rfl rfl
theorem qc_gt (σ : List O) (a b : Int) : cmpSem σ .gt (.int a) (.int b) = some (decide (a > b)) := Eq.trans rfl rfl
theorem qc_ge (σ : List O) (a b : Int) : cmpSem σ .ge (.int a) (.int b) = some (decide (a ≥ b)) := Eq.trans rfl rfl
theorem qc_is (σ : List O) (x : V) : cmpSem σ .is x .none = some x.isNone := Eq.trans rfl rfl
theorem qc_isnot (σ : List O) (x : V) : cmpSem σ .isnot x .none = some (!x.isNone) := Eq.trans rfl rfl
theorem qc_in (σ : List O) (c : Nat) (y : List Nat) : cmpSem σ .isin (.str [c]) (.str y) = some (y.contains c) := Eq.trans rfl rfl
theorem qc_notin (σ : List O) (c : Nat) (y : List Nat) : cmpSem σ .notin (.str [c]) (.str y) = some (!y.contains c) := Eq.trans rfl rfl
theorem qc_eq (σ : List O) (x y : V) (hx : x.flat64 = true) (hy : y.flat64 = true) : cmpSem σ .eq x y = some (V.eqb x y) := by show (if x.flat64 && y.flat64 then _ else none) = _; rw [hx, hy]; rfl
theorem qc_ne (σ : List O) (x y : V) (hx : x.flat64 = true) (hy : y.flat64 = true) : cmpSem σ .ne x y = some (!V.eqb x y) := by show (if x.flat64 && y.flat64 then _ else none) = _; rw [hx, hy]; rfl
theorem qc_eqi (σ : List O) (a b : Int) : cmpSem σ .eq (.int a) (.int b) = some (a == b) := by
  rw [qc_eq _ _ _ (by unfold V.flat64; rw [qdep_int]; rfl) (by unfold V.flat64; rw [qdep_int]; rfl), V.eqb]
theorem qc_nei (σ : List O) (a b : Int) : cmpSem σ .ne (.int a) (.int b) = some (!(a == b)) := by
  rw [qc_ne _ _ _ (by unfold V.flat64; rw [qdep_int]; rfl) (by unfold V.flat64; rw [qdep_int]; rfl), V.eqb]
theorem qb_add (a b : Int) : binSem .add (.int a) (.int b) = some (.int (a + b)) := Eq.trans rfl rfl
theorem qb_sub (a b : Int) : binSem .sub (.int a) (.int b) = some (.int (a - b)) := Eq.trans rfl rfl
theorem qb_mul (a b : Int) (h : (smallI a || smallI b) = true) : binSem .mul (.int a) (.int b) = some (.int (a * b)) := if_pos h
theorem qb_fdiv (a b : Int) (h : b ≠ 0) : binSem .fdiv (.int a) (.int b) = some (.int (Int.fdiv a b)) := if_neg h
theorem qb_mod (a b : Int) (h : b ≠ 0) : binSem .mod (.int a) (.int b) = some (.int (Int.fmod a b)) := if_neg h
theorem qb_pow : binSem .pow (.int 10) (.int 9) = some (.int (10 ^ 9)) := (if_pos (show (10 : Int) = 10 ∧ (9 : Int) = 9 from ⟨rfl, rfl⟩) : (if (10 : Int) = 10 ∧ (9 : Int) = 9 then some (V.int (10 ^ 9)) else none) = _)
theorem qb_adds (x y : List Nat) (h : x.length + y.length ≤ sizeLine) : binSem .add (.str x) (.str y) = some (.str (x ++ y)) := if_pos h
theorem qt_bool (σ : List O) (b : Bool) : V.truthy σ (.bool b) = some b := Eq.trans rfl rfl
theorem qs_tup (σ : List O) (xs : List V) (i : Int) : subSem σ (.tup xs) (.int i) = idxOf xs i := Eq.trans rfl rfl
theorem qs_lst (σ : List O) (xs : List V) (i : Int) : subSem σ (.lst xs) (.int i) = idxOf xs i := Eq.trans rfl rfl
theorem qs_str (σ : List O) (xs : List Nat) (i : Int) : subSem σ (.str xs) (.int i) = (idxOf xs i).map fun c => .str [c] := Eq.trans rfl rfl
theorem small_nat {j : Nat} (h : j < 2 ^ 31) : smallI (j : Int) = true := by
  have h1 : (-(2 ^ 63) : Int) ≤ (j : Int) := by omega
  have h2 : ((j : Int) : Int) < 2 ^ 63 := by omega
  unfold smallI
  rw [decide_eq_true h1, decide_eq_true h2]; rfl
theorem idx_nat {α : Type} (xs : List α) {j : Nat} (h : j < 2 ^ 31) : idxOf xs (j : Int) = xs[j]? := by
  unfold idxOf; rw [if_pos (small_nat h), if_pos (Int.natCast_nonneg j), Int.toNat_natCast]
theorem idx_mod {α : Type} (xs : List α) {i : Int} {n : Nat} (hn : 0 < n) (hs : n < 2 ^ 31) (hx : n ≤ xs.length) : ∃ x, idxOf xs (Int.fmod i n) = some x ∧ x ∈ xs := by
  have h1 : 0 ≤ Int.fmod i n := by rw [Int.fmod_eq_emod_of_nonneg _ (by omega)]; exact Int.emod_nonneg _ (by omega)
  have h2 : Int.fmod i n < n := by rw [Int.fmod_eq_emod_of_nonneg _ (by omega)]; exact Int.emod_lt_of_pos _ (by omega)
  obtain ⟨k, hk⟩ := Int.eq_ofNat_of_zero_le h1
  have hk' : Int.fmod i n = (k : Int) := hk
  have hlt : k < xs.length := by rw [hk'] at h2; omega
  rw [hk', idx_nat xs (by rw [hk'] at h2; omega)]
  exact ⟨xs[k], by simp [hlt], List.getElem_mem hlt⟩
theorem qset (ρ : List (Option V)) (σ : List O) (i : Nat) (x : V) : setV ⟨ρ, σ⟩ i x = ⟨ρ.set i (some x), σ⟩ := Eq.trans rfl rfl
theorem qn_none : V.isNone .none = true := Eq.trans rfl rfl
theorem qn_int (i : Int) : V.isNone (.int i) = false := Eq.trans rfl rfl
theorem qn_str (i : List Nat) : V.isNone (.str i) = false := Eq.trans rfl rfl
theorem qn_tup (i : List V) : V.isNone (.tup i) = false := Eq.trans rfl rfl
noncomputable def Ret (m : R Fl) (r : V) (σ : List O) : Prop := ∃ ρ τ, m = .ok (.ret r) ⟨ρ, σ ++ τ⟩
theorem run_ok {F : Fn} {K : Nat} {d : Def} {args : List V} {σ : List O} {r : V} (hl : args.length = d.params.length)
    (h : Ret (evSs F K d.body ⟨args.map some ++ List.replicate (d.slots - args.length) none, σ⟩) r σ) (hr : r.lo σ.length = true) (hσ : σ.all (O.lo σ.length) = true) : runDef F K d args σ = .ok r ⟨[], σ⟩ := by
  obtain ⟨ρ, τ, h⟩ := h
  unfold runDef
  rw [if_pos hl, h]
  simp only [R.bind_ok, Fl.val, List.take_left', hr, hσ, Bool.and_self, if_true]
theorem Ret.mk {m : R Fl} {r : V} {σ τ : List O} {ρ : List (Option V)} (h : m = .ok (.ret r) ⟨ρ, σ ++ τ⟩) : Ret m r σ := ⟨ρ, τ, h⟩
theorem Ret.mk0 {m : R Fl} {r : V} {σ : List O} {ρ : List (Option V)} (h : m = .ok (.ret r) ⟨ρ, σ⟩) : Ret m r σ := ⟨ρ, [], by rw [h, List.append_nil]⟩
/-- a for loop without an early end -/
theorem forR_all {step : V → St → R Fl} (P : Nat → St → Prop) : ∀ (xs : List V) (k : Nat) (st : St), (∀ i x st, xs[i]? = some x → P (k + i) st → ∃ st', step x st = .ok .next st' ∧ P (k + i + 1) st') → P k st → ∃ st', forR step xs st = .ok .next st' ∧ P (k + xs.length) st'
  | [], k, st, _, h => ⟨st, by rw [forR], h⟩
  | x :: xs, k, st, hs, h => by
    obtain ⟨st₁, h1, h2⟩ := hs 0 x st rfl h
    obtain ⟨st₂, h3, h4⟩ := forR_all P xs (k + 1) st₁ (fun i y st' hy hP => by
      have := hs (i + 1) y st' (by simpa using hy) (by rw [show k + (i + 1) = k + 1 + i from by omega]; exact hP)
      rw [show k + (i + 1) + 1 = k + 1 + i + 1 from by omega] at this
      exact this) h2
    refine ⟨st₂, ?_, by rw [List.length_cons, show k + (xs.length + 1) = k + 1 + xs.length from by omega]; exact h4⟩
    rw [forR, h1, R.bind_ok]
    exact h3
end Mine
namespace Mine
open PySem PySem.Sem

theorem Runs_size_le {M : Model} {Γ : Ctx} {p : Pos} {t : Sem PySem.Fin} {fs : List Frame} {s s' : Shared} {e : End} (h : Runs M Γ p t fs s e s') : s.heap.objs.size ≤ s'.heap.objs.size := by
  induction h <;> (try simp only [Shared.setGen, Heap.size_push, Heap.size_after_update] at *) <;> omega
theorem Returns_size_le {M : Model} {Γ : Ctx} {p : Pos} {s s' : Shared} {r : Result} (h : Returns M Γ p s r s') : s.heap.objs.size ≤ s'.heap.objs.size := Runs_size_le h
theorem Wakes_size_le {M : Model} {Γ : Ctx} {p : Pos} {g : Nat} {r : Resume} {s s' : Shared} {res : GenResult} (h : Wakes M Γ p g r s res s') : s.heap.objs.size ≤ s'.heap.objs.size := by
  unfold Wakes at h
  split at h
  · exact h.elim
  · split at h
    · obtain ⟨e₁, s₁, hr, _, _, rfl⟩ := h; exact (Runs_size_le hr : (s.setGen g .running).heap.objs.size ≤ s₁.heap.objs.size)
    · rw [h.2]; exact Nat.le_refl _
    · rw [h.2]; exact Nat.le_refl _
  · obtain ⟨e₁, s₁, hr, _, _, rfl⟩ := h; exact (Runs_size_le hr : (s.setGen g .running).heap.objs.size ≤ s₁.heap.objs.size)
  · rw [h.2]; exact Nat.le_refl _
  · rw [h.2]; exact Nat.le_refl _

theorem wp_size {α : Type} (M : Model) (Γ : Ctx) (n : Nat) (t : Sem α) : ∀ (Q : α → Pos → Shared → Prop) (E : Value → Pos → Shared → Prop) (p : Pos) (s : Shared), n ≤ s.heap.objs.size → wp M Γ t Q E p s →
    wp M Γ t (fun a p' s' => n ≤ s'.heap.objs.size ∧ Q a p' s') (fun e p' s' => n ≤ s'.heap.objs.size ∧ E e p' s') p s := by
  induction t with
  | pure a => intro Q E p s hn h; exact ⟨hn, h⟩
  | raise e => intro Q E p s hn h; exact ⟨hn, h⟩
  | unsupported _ => intro Q E p s _ h; exact h
  | finish _ => intro Q E p s _ h; exact h
  | rule _ k ih => intro Q E p s hn h; exact ih () Q E p s hn h
  | «at» p' k ih => intro Q E p s hn h; exact ih () Q E p' s hn h
  | load a _ k ih => intro Q E p s hn h; obtain ⟨o, ho, h⟩ := h; exact ⟨o, ho, ih o Q E p s hn h⟩
  | update a _ f k ih => intro Q E p s hn h; exact ⟨h.1, ih () Q E p _ (by simpa using hn) h.2⟩
  | loadIfAlive a k ih => intro Q E p s hn h; exact ih _ Q E p s hn h
  | point _ k ih => intro Q E p s hn h; exact ih () Q E p s hn h
  | register _ _ => intro Q E p s _ h; exact h
  | alloc o k ih => intro Q E p s hn h; exact ih _ Q E p _ (by simp; omega) h
  | fresh k ih => intro Q E p s hn h; exact ih _ Q E p _ hn h
  | ask k ih => intro Q E p s hn h; exact ih _ Q E p s hn h
  | choose src m k ih => intro Q E p s hn h; exact ⟨h.1, ih _ Q E p _ hn h.2⟩
  | os q _ k ih => intro Q E p s hn h; exact ih _ Q E p _ hn h
  | call c hd _ _ k ih => intro Q E p s hn h; obtain ⟨r, s', hr, h⟩ := h; exact ⟨r, s', hr, ih r Q E p s' (Nat.le_trans hn (Returns_size_le hr)) h⟩
  | handled own k ih => intro Q E p s hn h; exact ih _ Q E p s hn h
  | genState g k ih => intro Q E p s hn h; obtain ⟨st, hs, h⟩ := h; exact ⟨st, hs, ih _ Q E p s hn h⟩
  | newGen c k ih => intro Q E p s hn h; exact ih _ Q E p _ hn h
  | resume g r _ k ih => intro Q E p s hn h; obtain ⟨res, s', hw, h⟩ := h; exact ⟨res, s', hw, ih res Q E p s' (Nat.le_trans hn (Wakes_size_le hw)) h⟩
  | yield _ _ _ _ => intro Q E p s _ h; exact h
  | stack k ih => intro Q E p s hn h; exact ih _ Q E p s hn h
  | fork _ _ => intro Q E p s _ h; exact h
  | thread k ih => intro Q E p s hn h; exact ih _ Q E p s hn h
  | await _ _ _ _ _ => intro Q E p s _ h; exact h

/-- the heap never shrinks -/
theorem wpAny_with_size {α : Type} {M : Model} {A : Around} {s : Shared} {t : Sem α} {Q : α → Shared → Prop} {E : Value → Shared → Prop}
    (h : wpAny M A t (fun a s' => s.heap.objs.size ≤ s'.heap.objs.size → Q a s') (fun e s' => s.heap.objs.size ≤ s'.heap.objs.size → E e s') s) : wpAny M A t Q E s :=
  fun Γ p hΓ => Sem.wp_mono M Γ t (fun _ _ _ x => x.2 x.1) (fun _ _ _ x => x.2 x.1) p s (wp_size M Γ s.heap.objs.size t _ _ p s (Nat.le_refl _) (h Γ p hΓ))
end Mine
namespace Mine
open PySem PySem.Calls PyProof.Rows

structure CxOk (c : Cx) : Prop where
  pyl : ∀ s : Shared, (∀ b o, c.base.get? b = some o → s.heap.get? b = some o) → PylongRoom (model c.prog c.w) c.A s
  hh : c.A.handled = none
  units : c.A.units + 100 < cLine
  sys : ∃ o, c.base.get? sysModules = some o

section
variable {c : Cx} {st : St} {μ : List Addr} {s : Shared} {T : Addr → Prop} {h : Heap} {u v : Value}

theorem RepV.int_inv {i : Int} (r : RepV T μ h v (.int i)) : ∃ t, v = .int i t := by cases r with | int _ t => exact ⟨t, rfl⟩
theorem RepV.bool_inv {b : Bool} (r : RepV T μ h v (.bool b)) : v = .bool b := by cases r; rfl
theorem RepV.none_inv (r : RepV T μ h v .none) : v = .none := by cases r; rfl
theorem RepV.str_inv {l : List Nat} (r : RepV T μ h v (.str l)) : ∃ x t, v = .str x t ∧ x.cps.toList = l ∧ PyData.strOk x = true ∧ x.length ≤ sizeLine := by
  cases r with | str x t h1 h2 => exact ⟨x, t, rfl, rfl, h1, h2⟩
theorem RepV.tup_inv {xs : List V} (r : RepV T μ h v (.tup xs)) : ∃ a vs, v = .ref a ∧ IsTup h a vs ∧ vs.size ≤ sizeLine ∧ RepVs T μ h vs.toList xs := by
  cases r with | tup ho hc hd hz _ r => exact ⟨_, _, rfl, ⟨_, ho, hc, _, hd⟩, hz, r⟩
theorem RepV.lst_inv {xs : List V} (r : RepV T μ h v (.lst xs)) : ∃ a vs, v = .ref a ∧ h.IsList a vs ∧ vs.size ≤ sizeLine ∧ RepVs T μ h vs.toList xs := by
  cases r with | lst ho hc hd hz hT r => exact ⟨_, _, rfl, ⟨_, ho, hc, _, hd⟩, hz, r⟩
theorem Inv.ref_inv (I : Inv c st μ h) {n : Nat} {xs : List V} (r : RepV T μ h v (.ref n)) (e : st.σ[n]? = some (.lst xs)) :
    ∃ a vs, v = .ref a ∧ h.PlainList a vs ∧ vs.size ≤ sizeLine ∧ RepVs (Tr st.σ μ) μ h vs.toList xs := by
  cases r with
  | ref q =>
    obtain ⟨a, ha, ro⟩ := I.objs n _ e
    obtain rfl := Option.some.inj (q.symm.trans ha)
    obtain ⟨vs, nn, ho, hz, r⟩ := ro.lst_inv
    exact ⟨_, _, rfl, ⟨_, ho⟩, hz, r⟩
end

/-! results of a leaf -/
section
variable {c : Cx} {st : St} {μ : List Addr} {s : Shared} {u v : Value} {t : Sem Value}
theorem leaf_int (I : Inv c st μ s.heap) {i : Int} (h : ∀ Q : Value → Shared → Prop, (∀ tk n, Q (.int i tk) { s with toks := n }) → wpAny (model c.prog c.w) c.A t Q (fun _ _ => False) s) : Sim c t (.ok (.int i) st) rV st.σ μ s :=
  Sim.leaf I (h _ fun tk n => ⟨.refl, .refl, .int i tk⟩)
theorem leaf_bool (I : Inv c st μ s.heap) {b : Bool} (h : ∀ Q : Value → Shared → Prop, (∀ n, Q (.bool b) { s with toks := n }) → wpAny (model c.prog c.w) c.A t Q (fun _ _ => False) s) : Sim c t (.ok (.bool b) st) rV st.σ μ s :=
  Sim.leaf I (h _ fun n => ⟨.refl, .refl, .bool b⟩)
theorem leaf_str (I : Inv c st μ s.heap) {x : Str} (h1 : PyData.strOk x = true) (h2 : x.length ≤ sizeLine) {l : List Nat} (e : x.cps.toList = l)
    (h : ∀ Q : Value → Shared → Prop, (∀ tk n, Q (.str x tk) { s with toks := n }) → wpAny (model c.prog c.w) c.A t Q (fun _ _ => False) s) : Sim c t (.ok (.str l) st) rV st.σ μ s := by
  subst e
  exact Sim.leaf I (h _ fun tk n => ⟨.refl, .refl, .str x tk h1 h2⟩)
theorem leaf_val (I : Inv c st μ s.heap) {x : V} (r : RepV (Tr st.σ μ) μ s.heap v x) (h : ∀ Q : Value → Shared → Prop, (∀ n, Q v { s with toks := n }) → wpAny (model c.prog c.w) c.A t Q (fun _ _ => False) s) : Sim c t (.ok x st) rV st.σ μ s :=
  Sim.leaf I (h _ fun n => ⟨.refl, .refl, r⟩)
/-- a new frozen list or tuple -/
theorem not_tr_fresh (I : Inv c st μ s.heap) : ¬ Tr st.σ μ s.heap.objs.size := fun q => Nat.lt_irrefl _ (I.lt _ q.mem)
theorem rep_newList (I : Inv c st μ s.heap) {vs : List Value} {xs : List V} (r : RepVs (Tr st.σ μ) μ s.heap vs xs) (hz : vs.length ≤ sizeLine) :
    RepV (Tr st.σ μ) μ (s.heap.push { cls := .type "list", data := .seq vs.toArray }) (.ref s.heap.objs.size) (.lst xs) :=
  .lst (Heap.get?_push_size _ rfl) rfl rfl (by simpa using hz) (not_tr_fresh I) (by simpa using r.ext (.push _))
theorem rep_newTuple (I : Inv c st μ s.heap) {vs : List Value} {xs : List V} (r : RepVs (Tr st.σ μ) μ s.heap vs xs) (hz : vs.length ≤ sizeLine) :
    RepV (Tr st.σ μ) μ (s.heap.push { cls := .type "tuple", data := .seq vs.toArray }) (.ref s.heap.objs.size) (.tup xs) :=
  .tup (Heap.get?_push_size _ rfl) rfl rfl (by simpa using hz) (not_tr_fresh I) (by simpa using r.ext (.push _))
end

noncomputable def opM : Op → Operator
  | .add => .Add
  | .sub => .Sub
  | .mul => .Mult
  | .fdiv => .FloorDiv
  | .mod => .Mod
  | .pow => .Pow

theorem app_cps (x y : Str) : (x ++ y).cps.toList = x.cps.toList ++ y.cps.toList := by
  show (x.cps ++ y.cps).toList = _
  simp
theorem app_len (x y : Str) : (x ++ y).length = x.length + y.length := by
  show (x.cps ++ y.cps).size = x.cps.size + y.cps.size
  simp
theorem strOk_append {x y : Str} (hx : PyData.strOk x = true) (hy : PyData.strOk y = true) : PyData.strOk (x ++ y) = true := by
  unfold PyData.strOk at *
  rw [Array.all_eq_true_iff_forall_mem] at *
  intro a ha
  rcases Array.mem_append.mp (show a ∈ x.cps ++ y.cps from ha) with h | h
  · exact hx a h
  · exact hy a h

theorem smallI_bits {i : Int} (h : smallI i = true) : Builtin.Int.intBits i ≤ 64 := by
  simp only [smallI, Bool.and_eq_true, decide_eq_true_eq] at h
  exact intBits_le_64 (by omega) (by omega)

end Mine
namespace Mine
open PySem PySem.Calls PyProof.Rows

theorem size_fit {n : Nat} (h : n ≤ sizeLine) : (n : Int) < 2 ^ 63 := by
  have e : sizeLine = 16777216 := by decide
  omega

section
variable {c : Cx} {st : St} {μ : List Addr} {s : Shared} {u v : Value}

theorem sim_truthy (I : Inv c st μ s.heap) {x : V} (rx : RepV (Tr st.σ μ) μ s.heap u x) : Sim c (truthy u) (R.lift (x.truthy st.σ) st) rEq st.σ μ s := by
  have leaf : ∀ b : Bool, (∀ Q : Bool → Shared → Prop, (∀ n, Q b { s with toks := n }) → wpAny (model c.prog c.w) c.A (truthy u) Q (fun _ _ => False) s) → Sim c (truthy u) (.ok b st) rEq st.σ μ s :=
    fun b h => Sim.leaf I (h _ fun n => ⟨.refl, .refl, rfl⟩)
  cases x with
  | none => obtain rfl := rx.none_inv; exact leaf _ fun Q hq => (fun _ _ _ => hq _)
  | bool b => obtain rfl := rx.bool_inv; exact leaf _ fun Q hq => wpAny_truthy_bool (hq _)
  | int i => obtain ⟨t, rfl⟩ := rx.int_inv; exact leaf _ fun Q hq => P.truthy_int (hq _)
  | str l =>
    obtain ⟨x, t, rfl, rfl, h1, h2⟩ := rx.str_inv
    refine leaf _ fun Q hq => P.truthy_str (by have := size_fit h2; omega) ?_
    have e : ((x.length : Int) != 0) = !x.cps.toList.isEmpty := by
      show ((x.cps.size : Int) != 0) = _
      rw [← Array.length_toList]
      cases x.cps.toList <;> simp
      omega
    rw [e]; exact hq _
  | tup xs =>
    obtain ⟨a, vs, rfl, hl, hz, r⟩ := rx.tup_inv
    refine leaf _ fun Q hq => PyProof.Rows.truthy_tuple hl (size_fit hz) ?_
    have e : (!vs.isEmpty) = !xs.isEmpty := by
      have := r.length
      rw [Array.length_toList] at this
      cases xs <;> simp_all [Array.isEmpty]
    rw [e]; exact hq _
  | lst xs =>
    obtain ⟨a, vs, rfl, hl, hz, r⟩ := rx.lst_inv
    refine leaf _ fun Q hq => wpAny_truthy_list hl (size_fit hz) ?_
    have e : (!vs.isEmpty) = !xs.isEmpty := by
      have := r.length
      rw [Array.length_toList] at this
      cases xs <;> simp_all [Array.isEmpty]
    rw [e]; exact hq _
  | ref n =>
    simp only [V.truthy]
    split
    · rename_i xs hn
      obtain ⟨a, vs, rfl, hl, hz, r⟩ := I.ref_inv rx hn
      refine leaf _ fun Q hq => wpAny_truthy_list hl.isList (size_fit hz) ?_
      have e : (!vs.isEmpty) = !xs.isEmpty := by
        have := r.length
        rw [Array.length_toList] at this
        cases xs <;> simp_all [Array.isEmpty]
      rw [e]; exact hq _
    · trivial
  | inst C n => trivial
end

/-! equality -/
mutual
noncomputable def V.toD : V → PyData
  | .none => .none
  | .bool b => .bool b
  | .int i => .int i
  | .str l => .str ⟨l.toArray⟩
  | .tup xs => .tuple (V.toDs xs)
  | .lst xs => .list (V.toDs xs)
  | .ref _ => .none
  | .inst _ _ => .none
noncomputable def V.toDs : List V → List PyData
  | [] => []
  | x :: xs => V.toD x :: V.toDs xs
end
mutual
theorem depth_toD : ∀ (x : V) (n : Nat), x.depth? = some n → x.toD.depth = n
  | .none, n, h => by simp [V.depth?] at h; subst h; rfl
  | .bool b, n, h => by simp [V.depth?] at h; subst h; rfl
  | .int i, n, h => by simp [V.depth?] at h; subst h; rfl
  | .str l, n, h => by simp [V.depth?] at h; subst h; rfl
  | .tup xs, n, h => by
    simp only [V.depth?, Option.map_eq_some_iff] at h
    obtain ⟨m, hm, rfl⟩ := h
    simp only [V.toD, PyData.depth, depth_toDs xs m hm]
  | .lst xs, n, h => by
    simp only [V.depth?, Option.map_eq_some_iff] at h
    obtain ⟨m, hm, rfl⟩ := h
    simp only [V.toD, PyData.depth, depth_toDs xs m hm]
  | .ref k, n, h => by simp [V.depth?] at h
  | .inst _ k, n, h => by simp [V.depth?] at h
theorem depth_toDs : ∀ (xs : List V) (n : Nat), V.depths? xs = some n → PyData.depthAll (V.toDs xs) = n
  | [], n, h => by simp [V.depths?] at h; subst h; rfl
  | x :: xs, n, h => by
    unfold V.depths? at h
    split at h
    · rename_i a b ha hb
      cases h
      simp only [V.toDs, PyData.depthAll, depth_toD x a ha, depth_toDs xs b hb]
    · cases h
end
mutual
theorem eqb_toD : ∀ (x y : V), (∃ n, x.depth? = some n) → (∃ n, y.depth? = some n) → V.eqb x y = PyData.eqv x.toD y.toD
  | .ref k, y, h, _ => by obtain ⟨_, h⟩ := h; cases h
  | x, .ref k, _, h => by obtain ⟨_, h⟩ := h; cases h
  | .inst _ k, y, h, _ => by obtain ⟨_, h⟩ := h; cases h
  | x, .inst _ k, _, h => by obtain ⟨_, h⟩ := h; cases h
  | .tup xs, .tup ys, h, h' => by
    obtain ⟨n, h⟩ := h; obtain ⟨n', h'⟩ := h'
    obtain ⟨m, h, _⟩ := Option.map_eq_some_iff.mp (show (V.depths? xs).map (· + 1) = some n from h)
    obtain ⟨m', h', _⟩ := Option.map_eq_some_iff.mp (show (V.depths? ys).map (· + 1) = some n' from h')
    exact eqbs_toD xs ys ⟨m, h⟩ ⟨m', h'⟩
  | .lst xs, .lst ys, h, h' => by
    obtain ⟨n, h⟩ := h; obtain ⟨n', h'⟩ := h'
    obtain ⟨m, h, _⟩ := Option.map_eq_some_iff.mp (show (V.depths? xs).map (· + 1) = some n from h)
    obtain ⟨m', h', _⟩ := Option.map_eq_some_iff.mp (show (V.depths? ys).map (· + 1) = some n' from h')
    exact eqbs_toD xs ys ⟨m, h⟩ ⟨m', h'⟩
  | .str a, .str b, _, _ => by
    simp only [V.eqb, V.toD, PyData.eqv]
    rw [Bool.eq_iff_iff, beq_iff_eq, beq_iff_eq]
    constructor
    · rintro rfl; rfl
    · intro h; have := congrArg (fun x : Str => x.cps.toList) h; simpa using this
  | .none, .none, _, _ | .none, .bool _, _, _ | .none, .int _, _, _ | .none, .str _, _, _ | .none, .tup _, _, _ | .none, .lst _, _, _ => by first | rfl | simp [V.eqb, V.toD, PyData.eqv]
  | .bool _, .none, _, _ | .bool _, .bool _, _, _ | .bool _, .int _, _, _ | .bool _, .str _, _, _ | .bool _, .tup _, _, _ | .bool _, .lst _, _, _ => by first | rfl | simp [V.eqb, V.toD, PyData.eqv]
  | .int _, .none, _, _ | .int _, .bool _, _, _ | .int _, .int _, _, _ | .int _, .str _, _, _ | .int _, .tup _, _, _ | .int _, .lst _, _, _ => by first | rfl | simp [V.eqb, V.toD, PyData.eqv]
  | .str _, .none, _, _ | .str _, .bool _, _, _ | .str _, .int _, _, _ | .str _, .tup _, _, _ | .str _, .lst _, _, _ => by first | rfl | simp [V.eqb, V.toD, PyData.eqv]
  | .tup _, .none, _, _ | .tup _, .bool _, _, _ | .tup _, .int _, _, _ | .tup _, .str _, _, _ | .tup _, .lst _, _, _ => by first | rfl | simp [V.eqb, V.toD, PyData.eqv]
  | .lst _, .none, _, _ | .lst _, .bool _, _, _ | .lst _, .int _, _, _ | .lst _, .str _, _, _ | .lst _, .tup _, _, _ => by first | rfl | simp [V.eqb, V.toD, PyData.eqv]
theorem eqbs_toD : ∀ (xs ys : List V), (∃ n, V.depths? xs = some n) → (∃ n, V.depths? ys = some n) → V.eqbs xs ys = PyData.eqvAll (V.toDs xs) (V.toDs ys)
  | [], [], _, _ => rfl
  | [], _ :: _, _, _ => rfl
  | _ :: _, [], _, _ => rfl
  | x :: xs, y :: ys, h, h' => by
    obtain ⟨n, h⟩ := h; obtain ⟨n', h'⟩ := h'
    unfold V.depths? at h h'
    split at h
    · split at h'
      · rename_i _ _ a b ha hb _ _ a' b' ha' hb'
        simp only [V.eqbs, V.toDs, PyData.eqvAll, eqb_toD x y ⟨_, ha⟩ ⟨_, ha'⟩, eqbs_toD xs ys ⟨_, hb⟩ ⟨_, hb'⟩]
      · cases h'
    · cases h
end
theorem RepV.reads {T : Addr → Prop} {μ : List Addr} {h : Heap} {v : Value} {x : V} (r : RepV T μ h v x) : (∃ n, x.depth? = some n) → ∃ as, Reads h v x.toD as ∧ x.toD.canLay0 = true :=
  RepV.rec (motive_1 := fun v x _ => (∃ n, x.depth? = some n) → ∃ as, Reads h v x.toD as ∧ x.toD.canLay0 = true) (motive_2 := fun vs xs _ => (∃ n, V.depths? xs = some n) → ∃ as, ReadsAll h vs (V.toDs xs) as ∧ PyData.canLayAll0 (V.toDs xs) = true)
    (fun _ => ⟨[], .none, rfl⟩) (fun b _ => ⟨[], .bool b, rfl⟩) (fun i t _ => ⟨[], .int i t, rfl⟩) (fun x t h1 h2 _ => ⟨[], Reads.str x t, h1⟩)
    (fun {a o vs n xs} ho hc hd hz hT _ ih hn => by
      obtain ⟨m, hm⟩ := hn
      have hm : (V.depths? xs).map (· + 1) = some m := hm
      obtain ⟨k, hk, _⟩ := Option.map_eq_some_iff.mp hm
      obtain ⟨as, ra, rc⟩ := ih ⟨k, hk⟩
      exact ⟨_, .tuple ho hc hd ra, rc⟩)
    (fun {a o vs n xs} ho hc hd hz hT _ ih hn => by
      obtain ⟨m, hm⟩ := hn
      have hm : (V.depths? xs).map (· + 1) = some m := hm
      obtain ⟨k, hk, _⟩ := Option.map_eq_some_iff.mp hm
      obtain ⟨as, ra, rc⟩ := ih ⟨k, hk⟩
      exact ⟨_, .list ho hc hd ra, rc⟩)
    (fun _ hn => by obtain ⟨m, hm⟩ := hn; cases hm) (fun _ _ _ hn => by obtain ⟨m, hm⟩ := hn; cases hm) (fun _ => ⟨[], .nil, rfl⟩)
    (fun {v vs x xs} _ _ a b hn => by
      obtain ⟨m, hm⟩ := hn
      cases hp : x.depth? with
      | none => rw [qdeps_cons, hp] at hm; cases hm
      | some p =>
        cases hq : V.depths? xs with
        | none => rw [qdeps_cons, hp, hq] at hm; cases hm
        | some q =>
          obtain ⟨as, ra, rc⟩ := a ⟨_, hp⟩
          obtain ⟨bs, rb, rd⟩ := b ⟨_, hq⟩
          refine ⟨_, .cons ra rb, ?_⟩
          show (x.toD.canLay0 && PyData.canLayAll0 (V.toDs xs)) = true
          rw [rc, rd]; rfl) r
theorem flat64_depth {x : V} (h : x.flat64 = true) : ∃ n, x.depth? = some n ∧ n ≤ 64 := by
  unfold V.flat64 at h
  split at h
  · rename_i d hd; exact ⟨d, hd, of_decide_eq_true h⟩
  · cases h

noncomputable def cmM : Cm → CmpOp
  | .lt => .Lt
  | .le => .LtE
  | .gt => .Gt
  | .ge => .GtE
  | .eq => .Eq
  | .ne => .NotEq
  | .is => .Is
  | .isnot => .IsNot
  | .isin => .In
  | .notin => .NotIn

section
variable {c : Cx} {st : St} {μ : List Addr} {s : Shared} {u v : Value}
theorem one_char {x : Str} {d : Nat} (h : x.cps.toList = [d]) : x = ⟨#[d]⟩ := by
  obtain ⟨⟨l⟩⟩ := x
  simp at h
  subst h; rfl
theorem rep_isNone {T : Addr → Prop} {h : Heap} {x : V} (r : RepV T μ h v x) : (v == Value.none) = x.isNone := by
  cases r <;> rfl
theorem sim_onI {β : Type} {α : Type} {rel : St → List Addr → Heap → α → V → Prop} {t : Sem α} {x y : V} {k : Int → Int → Option β} {f : β → V} (h : ∀ a b, x = .int a → y = .int b → Sim c t (R.lift ((k a b).map f) st) rel st.σ μ s) : Sim c t (R.lift ((onI x y k).map f) st) rel st.σ μ s := by
  cases x <;> first | trivial | (cases y <;> first | trivial | exact h _ _ rfl rfl)
theorem sim_inS {α : Type} {rel : St → List Addr → Heap → α → V → Prop} {t : Sem α} {x y : V} {f : Bool → V} (h : ∀ d z, x = .str [d] → y = .str z → Sim c t (R.lift (some (f (z.contains d))) st) rel st.σ μ s) : Sim c t (R.lift ((inSem x y).map f) st) rel st.σ μ s := by
  cases x <;> first | trivial | skip
  cases y <;> first | trivial | skip
  rename_i l z
  rcases l with _ | ⟨d, _ | ⟨_, _⟩⟩ <;> first | trivial | exact h _ _ rfl rfl
theorem sim_inD {f : Bool → V} {t : Sem Value} {x y : V} (hs : ∀ d z, x = .str [d] → y = .str z → Sim c t (.ok (f (z.contains d)) st) rV st.σ μ s)
    (hd : ∀ n k es, y = .ref n → x = .int k → st.σ[n]? = some (.idict es) → Sim c t (.ok (f (es.any fun p => p.1 = k)) st) rV st.σ μ s) : Sim c t (R.lift ((inD st.σ x y).map f) st) rV st.σ μ s := by
  cases y with
  | ref n =>
    cases x <;> try trivial
    rename_i k
    show Sim c t (R.lift ((match st.σ[n]? with | some (.idict es) => some (es.any fun p => p.1 = k) | _ => none : Option Bool).map f) st) rV st.σ μ s
    cases h : st.σ[n]? with
    | none => trivial
    | some o =>
      cases o <;> try trivial
      exact hd n k _ rfl rfl h
  | str z => exact sim_inS fun d z ex ey => hs d z ex ey
  | _ => cases x <;> trivial
theorem any_some {kvs : List (Int × Value)} {ys : List (Int × V)} (k : Int) (h : kvs.map (·.1) = ys.map (·.1)) : (valueAt kvs k).isSome = ys.any fun p => p.1 = k := by
  have h1 : (valueAt kvs k).isSome = (kvs.map (·.1)).any fun x => x = k := by
    unfold valueAt
    rw [Option.isSome_map, List.any_map, Bool.eq_iff_iff, List.find?_isSome, List.any_eq_true]; rfl
  rw [h1, h, List.any_map]; rfl
theorem dict_at (ok : CxOk c) (I : Inv c st μ s.heap) {n : Nat} {es : List (Int × V)} (r : RepV (Tr st.σ μ) μ s.heap v (.ref n)) (h : st.σ[n]? = some (.idict es)) :
    ∃ d kvs, v = .ref d ∧ μ[n]? = some d ∧ (d == sysModules) = false ∧ s.heap.DictOf (intKind c.prog c.w) d kvs ∧ kvs.map (·.1) = es.map (·.1) ∧ kvs.length ≤ sizeLine ∧ RepVs (Tr st.σ μ) μ s.heap (kvs.map (·.2)) (es.map (·.2)) := by
  cases r with
  | @ref _ d hd =>
    obtain ⟨d', hd', ro⟩ := I.objs n _ h
    obtain rfl := Option.some.inj (hd.symm.trans hd')
    cases ro with
    | live ho L r =>
      cases L with
      | idict hD hzk hkk =>
        refine ⟨d, _, rfl, hd, ?_, Heap.dictOf_iff.mpr ⟨_, ho, hD c.prog c.w⟩, hkk, hzk, r⟩
        obtain ⟨o, hs⟩ := ok.sys
        rw [beq_eq_false_iff_ne]
        rintro rfl
        rw [I.baseM _ (List.mem_of_getElem? hd)] at hs
        cases hs
theorem sim_cmp (ok : CxOk c) (I : Inv c st μ s.heap) {x y : V} (rx : RepV (Tr st.σ μ) μ s.heap u x) (ry : RepV (Tr st.σ μ) μ s.heap v y) (op : Cm) :
    Sim c (compareOp (cmM op) u v) (R.lift ((cmpSem st.σ op x y).map V.bool) st) rV st.σ μ s := by
  cases op
  · refine sim_onI fun a b ex ey => ?_
    subst ex ey
    obtain ⟨t, rfl⟩ := rx.int_inv; obtain ⟨t', rfl⟩ := ry.int_inv
    exact leaf_bool I fun Q hq => P.lt_int (hq _)
  · refine sim_onI fun a b ex ey => ?_
    subst ex ey
    obtain ⟨t, rfl⟩ := rx.int_inv; obtain ⟨t', rfl⟩ := ry.int_inv
    exact leaf_bool I fun Q hq => P.le_int (hq _)
  · refine sim_onI fun a b ex ey => ?_
    subst ex ey
    obtain ⟨t, rfl⟩ := rx.int_inv; obtain ⟨t', rfl⟩ := ry.int_inv
    exact leaf_bool I fun Q hq => P.gt_int (hq _)
  · refine sim_onI fun a b ex ey => ?_
    subst ex ey
    obtain ⟨t, rfl⟩ := rx.int_inv; obtain ⟨t', rfl⟩ := ry.int_inv
    exact leaf_bool I fun Q hq => P.ge_int (hq _)
  · show Sim c _ (R.lift ((if x.flat64 && y.flat64 then _ else none : Option Bool).map V.bool) st) _ _ _ _
    split
    · rename_i h
      obtain ⟨h1, h2⟩ := Bool.and_eq_true_iff.mp h
      obtain ⟨n, hn, hn'⟩ := flat64_depth h1
      obtain ⟨m, hm, hm'⟩ := flat64_depth h2
      obtain ⟨as, ra, la⟩ := rx.reads ⟨_, hn⟩
      obtain ⟨bs, rb, lb⟩ := ry.reads ⟨_, hm⟩
      refine leaf_bool I fun Q hq => SeqAt.compareEq_reads ra rb la lb ?_ ?_
      · rw [depth_toD _ _ hn, depth_toD _ _ hm]; have := ok.units; omega
      · rw [← eqb_toD _ _ ⟨_, hn⟩ ⟨_, hm⟩]; exact hq _
    · trivial
  · show Sim c _ (R.lift ((if x.flat64 && y.flat64 then _ else none : Option Bool).map V.bool) st) _ _ _ _
    split
    · rename_i h
      obtain ⟨h1, h2⟩ := Bool.and_eq_true_iff.mp h
      obtain ⟨n, hn, hn'⟩ := flat64_depth h1
      obtain ⟨m, hm, hm'⟩ := flat64_depth h2
      obtain ⟨as, ra, la⟩ := rx.reads ⟨_, hn⟩
      obtain ⟨bs, rb, lb⟩ := ry.reads ⟨_, hm⟩
      refine leaf_bool I fun Q hq => SeqAt.compareNe_reads ra rb la lb ?_ ?_
      · rw [depth_toD _ _ hn, depth_toD _ _ hm]; have := ok.units; omega
      · rw [← eqb_toD _ _ ⟨_, hn⟩ ⟨_, hm⟩]; exact hq _
    · trivial
  · cases y <;> try trivial
    obtain rfl := ry.none_inv
    refine leaf_bool I fun Q hq => is_none ?_
    rw [rep_isNone rx]; exact hq _
  · cases y <;> try trivial
    obtain rfl := ry.none_inv
    refine leaf_bool I fun Q hq => isNot_none ?_
    rw [rep_isNone rx]; exact hq _
  · refine sim_inD (fun d z ex ey => ?_) fun n k es ey ex h => ?_
    · subst ex ey
      obtain ⟨a, t, rfl, e, h1, h2⟩ := rx.str_inv
      obtain ⟨b, t', rfl, rfl, h1', h2'⟩ := ry.str_inv
      obtain rfl := one_char e
      refine leaf_bool I fun Q hq => P.in_str ?_
      rw [StrLaws.found_one]
      rw [show decide (_ ∈ b.cps.toList) = b.cps.toList.contains _ from (List.contains_eq_mem ..).symm]
      exact hq _
    · subst ex ey
      obtain ⟨t, rfl⟩ := rx.int_inv
      obtain ⟨d, kvs, rfl, _, hds, hD, hk, _, _⟩ := dict_at ok I ry h
      refine leaf_bool I fun Q hq => wpAny_in_of (knd := intKind c.prog c.w) (intKind_is _ _ _ _) hds hD.mapOf ?_
      rw [any_some k hk]; exact hq _
  · have e0 : ((cmpSem st.σ .notin x y).map V.bool) = (inD st.σ x y).map (fun b => V.bool (!b)) := by
      show ((inD st.σ x y).map not).map V.bool = _
      rw [Option.map_map]; rfl
    rw [e0]
    refine sim_inD (fun d z ex ey => ?_) fun n k es ey ex h => ?_
    · subst ex ey
      obtain ⟨a, t, rfl, e, h1, h2⟩ := rx.str_inv
      obtain ⟨b, t', rfl, rfl, h1', h2'⟩ := ry.str_inv
      obtain rfl := one_char e
      refine leaf_bool I fun Q hq => P.notIn_str ?_
      rw [StrLaws.found_one]
      rw [show decide (_ ∈ b.cps.toList) = b.cps.toList.contains _ from (List.contains_eq_mem ..).symm]
      exact hq _
    · subst ex ey
      obtain ⟨t, rfl⟩ := rx.int_inv
      obtain ⟨d, kvs, rfl, _, hds, hD, hk, _, _⟩ := dict_at ok I ry h
      refine leaf_bool I fun Q hq => wpAny_notIn_of (knd := intKind c.prog c.w) (intKind_is _ _ _ _) hds hD.mapOf ?_
      rw [any_some k hk]; exact hq _
end
end Mine
namespace Mine
open PySem PySem.Calls PyProof.Rows

noncomputable def notSlice : Expr → Bool
  | .Slice .. => false
  | _ => true
theorem subscripted_plain {slice : Expr} (h : notSlice slice = true) (o i : Value) : subscripted slice false o i = operate [o, i] (getItem o i) := by
  cases slice <;> first | rfl | exact absurd h Bool.false_ne_true

theorem idxOf_seq {α : Type} {xs : List α} {i : Int} {x : α} (h : idxOf xs i = some x) : (-(2 ^ 63) ≤ i ∧ i < 2 ^ 63) ∧ ∃ j, seqIndex? i xs.length = some j ∧ xs[j]? = some x := by
  unfold idxOf at h
  split at h
  · rename_i hs
    simp only [smallI, Bool.and_eq_true, decide_eq_true_eq] at hs
    refine ⟨hs, ?_⟩
    unfold seqIndex?
    split at h
    · rename_i h0
      have hlt : i.toNat < xs.length := (List.getElem?_eq_some_iff.mp h).1
      refine ⟨i.toNat, ?_, h⟩
      simp only [show ¬ i < 0 from by omega, if_false]
      rw [if_pos (by simp only [Bool.and_eq_true, decide_eq_true_eq]; omega)]
    · split at h
      · rename_i h0 h1
        have hlt : (i + xs.length).toNat < xs.length := (List.getElem?_eq_some_iff.mp h).1
        refine ⟨(i + xs.length).toNat, ?_, h⟩
        simp only [show i < 0 from by omega, if_true]
        rw [if_pos (by simp only [Bool.and_eq_true, decide_eq_true_eq]; omega)]
      · cases h
  · cases h

theorem seqIndex_cases {i : Int} {n j : Nat} (h : seqIndex? i n = some j) : (0 ≤ i ∧ i.toNat = j ∧ i < n) ∨ (i < 0 ∧ -(n : Int) ≤ i ∧ (i + n).toNat = j) := by
  unfold seqIndex? at h
  by_cases h0 : i < 0
  · simp only [h0, if_true] at h
    by_cases hc : (decide (0 ≤ i + (n : Int)) && decide (i + (n : Int) < n)) = true
    · rw [if_pos hc] at h
      simp only [Bool.and_eq_true, decide_eq_true_eq] at hc
      exact .inr ⟨h0, by omega, Option.some.inj h⟩
    · rw [if_neg hc] at h; cases h
  · simp only [h0, if_false] at h
    by_cases hc : (decide (0 ≤ i) && decide (i < (n : Int))) = true
    · rw [if_pos hc] at h
      simp only [Bool.and_eq_true, decide_eq_true_eq] at hc
      exact .inl ⟨by omega, Option.some.inj h, by omega⟩
    · rw [if_neg hc] at h; cases h

section
variable {c : Cx} {st : St} {μ : List Addr} {s : Shared} {u v : Value}
theorem list_at {M : Model} {prog : Program} {w : World} {A : Around} {E : Value → Shared → Prop} {l : Addr} {items : Array Value} {i : Int} {t : Tok} {j : Nat} {x : Value} {Q : Value → Shared → Prop} (hl : s.heap.IsList l items)
    (hb : -(2 ^ 63) ≤ i ∧ i < 2 ^ 63) (hj : seqIndex? i items.size = some j) (hx : items[j]? = some x) (h : Q x s) : wpAny (model prog w) A (getItem (.ref l) (.int i t)) Q E s := by
  rcases seqIndex_cases hj with ⟨h0, rfl, _⟩ | ⟨h0, h1, rfl⟩
  · exact wpAny_getItem_list hl h0 hb.2 hx h
  · exact wpAny_getItem_list_neg hl h0 h1 hb.1 hx h

theorem dget_rep {T : Addr → Prop} {h : Heap} {k : Int} {z : V} : ∀ {kvs : List (Int × Value)} {ys : List (Int × V)}, kvs.map (·.1) = ys.map (·.1) → RepVs T μ h (kvs.map (·.2)) (ys.map (·.2)) → dGet ys k = some z → ∃ w, valueAt kvs k = some w ∧ RepV T μ h w z
  | [], [], _, _, e => by cases e
  | [], _ :: _, e, _, _ => by cases e
  | _ :: _, [], e, _, _ => by cases e
  | p :: kvs, q :: ys, e, r, hz => by
    have e1 : p.1 = q.1 := (List.cons.inj e).1
    have e2 := (List.cons.inj e).2
    cases r with
    | cons a r =>
      unfold dGet at hz
      unfold valueAt
      rw [List.find?_cons] at hz ⊢
      by_cases hk : q.1 = k
      · rw [decide_eq_true hk] at hz
        rw [decide_eq_true (e1.trans hk)]
        cases hz
        exact ⟨_, rfl, a⟩
      · rw [decide_eq_false hk] at hz
        rw [decide_eq_false (fun x => hk (e1.symm.trans x))]
        exact dget_rep e2 r hz
theorem sim_sub (I : Inv c st μ s.heap) {x y : V} (rx : RepV (Tr st.σ μ) μ s.heap u x) (ry : RepV (Tr st.σ μ) μ s.heap v y) {value slice : Expr} (hs : notSlice slice = true) :
    Sim c (subscriptTail value slice u v) (R.lift (subSem st.σ x y) st) rV st.σ μ s := by
  have key : ∀ {a : Addr} {vs : Array Value} {xs : List V} {i : Int}, s.heap.IsList a vs → RepVs (Tr st.σ μ) μ s.heap vs.toList xs → u = .ref a → y = .int i →
      Sim c (subscriptTail value slice u v) (R.lift (idxOf xs i) st) rV st.σ μ s := by
    rintro a vs xs i hl r rfl rfl
    obtain ⟨t, rfl⟩ := ry.int_inv
    cases e : idxOf xs i with
    | none => trivial
    | some x =>
      obtain ⟨hb, j, hj, hx⟩ := idxOf_seq e
      obtain ⟨w, hw, rw'⟩ := r.get hx
      have hlen := r.length
      refine leaf_val I rw' fun Q hq => tail_any hl.typeIs slot_list_getitem.lookup (list_at (M := model c.prog c.w) hl hb (j := j) ?_ ?_ (hq _)) (subscripted_plain hs _ _)
      · rw [← hj, ← hlen, Array.length_toList]
      · rw [← hw]; simp
  unfold subSem
  split
  · rename_i xs i
    obtain ⟨a, vs, rfl, hl, hz, r⟩ := rx.tup_inv
    obtain ⟨t, rfl⟩ := ry.int_inv
    cases e : idxOf xs i with
    | none => trivial
    | some x =>
      obtain ⟨hb, j, hj, hx⟩ := idxOf_seq e
      obtain ⟨w, hw, rw'⟩ := r.get hx
      have hlen := r.length
      refine leaf_val I rw' fun Q hq => tail_any hl.typeIs slot_tuple_getitem.lookup (getItem_tuple hl hb.1 hb.2 (j := j) ?_ ?_ (hq _)) (subscripted_plain hs _ _)
      · rw [← hj, ← hlen, Array.length_toList]
      · rw [← hw]; simp
  · obtain ⟨a, vs, rfl, hl, hz, r⟩ := rx.lst_inv
    exact key hl r rfl rfl
  · rename_i l i
    obtain ⟨x, t, rfl, rfl, h1, h2⟩ := rx.str_inv
    obtain ⟨t', rfl⟩ := ry.int_inv
    cases e : idxOf x.cps.toList i with
    | none => trivial
    | some d =>
      obtain ⟨hb, j, hj, hx⟩ := idxOf_seq e
      refine leaf_str (x := ⟨#[d]⟩) I ?_ (by show 1 ≤ sizeLine; decide) (by rfl) fun Q hq => tail_any (typeIs_str s x t) F.slot_str_getitem.lookup (P.getItem_str (c := d) ?_ ?_ (hq _ _)) (subscripted_plain hs _ _)
      · unfold PyData.strOk at h1 ⊢
        rw [Array.all_eq_true_iff_forall_mem] at h1 ⊢
        intro a ha
        have : a = d := by simpa using ha
        subst this
        refine h1 a ?_
        rw [← Array.mem_toList_iff]
        exact List.mem_of_getElem? hx
      · simp only [Bool.or_eq_false_iff, decide_eq_false_iff_not]; omega
      · rw [show x.length = x.cps.toList.length from by simp [Str.length], hj]
        simpa using hx
  · split
    · rename_i n i _ xs hn
      obtain ⟨a, vs, rfl, hl, hz, r⟩ := I.ref_inv rx hn
      exact key hl.isList r rfl rfl
    · rename_i n i _ es hn
      cases e : dGet es i with
      | none => trivial
      | some z =>
        obtain ⟨t, rfl⟩ := ry.int_inv
        cases rx with
        | @ref _ d hd =>
          obtain ⟨d', hd', ro⟩ := I.objs n _ hn
          obtain rfl := Option.some.inj (hd.symm.trans hd')
          cases ro with
          | live ho L r =>
            cases L with
            | idict hD hzk hkk =>
              obtain ⟨w, hw, rw'⟩ := dget_rep hkk r e
              have hm := Heap.DictOf.mapOf (Heap.dictOf_iff.mpr ⟨_, ho, hD c.prog c.w⟩)
              exact Sim.leaf I (tail_any hm.typeIs slot_dict_getitem.lookup (wpAny_getItem_of (knd := intKind c.prog c.w) (k := i) (by simp [intKind, Value.isInt]) hm hw ⟨.refl, ⟨rfl, rfl, rfl⟩, rw'⟩) (subscripted_plain hs _ _))
    · trivial
  · trivial

/-! slices: the slice object lies at sl -/
theorem part_rep {T : Addr → Prop} {h : Heap} {x : V} {p : Option Int} (r : RepV T μ h v x) (e : partOf x = some p) : IsPart v p ∧ ∃ q : Option (Int × Tok), v = partValue q ∧ q.map (·.1) = p := by
  unfold partOf at e
  split at e
  · cases e; obtain rfl := r.none_inv; exact ⟨.none, none, rfl, rfl⟩
  · cases e; obtain ⟨t, rfl⟩ := r.int_inv; exact ⟨.int _ _, some (_, t), rfl, rfl⟩
  · cases e

theorem pick_cutL (items : Array Value) (lo hi : Option Int) : (slicePick items lo hi none).toList = cutL items.toList lo hi := by
  rw [slicePick_plain]
  unfold cutL
  simp

theorem RepVs.cutL {T : Addr → Prop} {h : Heap} {vs : List Value} {xs : List V} (r : RepVs T μ h vs xs) (lo hi : Option Int) : RepVs T μ h (Mine.cutL vs lo hi) (Mine.cutL xs lo hi) := by
  unfold Mine.cutL
  rw [r.length]
  exact (r.drop _).take _

theorem str_pick (x : Str) (lo hi : Option Int) : (Builtin.Str.strSliceIndices lo hi 1 x.length).filterMap (x.cps[·]?) = cutL x.cps.toList lo hi := by
  have key : Builtin.Str.strSliceIndices lo hi 1 x.length = sliceRange ((lo.elim 0 (clipAt x.length) : Nat) : Int) ((hi.elim x.length (clipAt x.length) : Nat) : Int) 1 := by
    unfold Builtin.Str.strSliceIndices
    simp only [show (1 : Int) > 0 from by decide, if_true]
    cases lo <;> cases hi <;> simp only [Option.elim_none, Option.elim_some, clipAt_cast] <;> rfl
  rw [key, sliceRange_one, pick_run]
  unfold cutL
  simp [Str.length]

theorem mem_cutL {α : Type} {xs : List α} {lo hi : Option Int} {x : α} (h : x ∈ cutL xs lo hi) : x ∈ xs := List.mem_of_mem_drop (List.mem_of_mem_take h)
theorem cutL_length {α : Type} (xs : List α) (lo hi : Option Int) : (cutL xs lo hi).length ≤ xs.length := by
  unfold cutL; simp; omega

theorem sim_slice (I : Inv c st μ s.heap) {x lo hi : V} {vl vu : Value} (rx : RepV (Tr st.σ μ) μ s.heap u x) (rl : RepV (Tr st.σ μ) μ s.heap vl lo) (ru : RepV (Tr st.σ μ) μ s.heap vu hi)
    {value : Expr} {l' u' : Option Expr} {p : Pos} {sa : Addr} (hsl : s.heap.IsSliceOf sa vl vu .none) :
    Sim c (subscriptTail value (.Slice l' u' none p) u (.ref sa)) (R.lift (sliceSem st.σ x lo hi) st) rV st.σ μ s := by
  unfold sliceSem
  split
  · rename_i pl pu hl hu
    obtain ⟨il, ql, el, el'⟩ := part_rep rl hl
    obtain ⟨iu, qu, eu, eu'⟩ := part_rep ru hu
    have key : ∀ {a : Addr} {vs : Array Value} {xs : List V}, s.heap.IsList a vs → vs.size ≤ sizeLine → RepVs (Tr st.σ μ) μ s.heap vs.toList xs → u = .ref a →
        Sim c (subscriptTail value (.Slice l' u' none p) u (.ref sa)) (.ok (.lst (cutL xs pl pu)) st) rV st.σ μ s := by
      rintro a vs xs hL hz r rfl
      refine Sim.leaf I (tail_any hL.typeIs slot_list_getitem.lookup (wpAny_getItem_list_slice hL hsl il iu .none (by simp) ?_ hz) rfl)
      refine ⟨.push _, .refl, ?_⟩
      have e2 : slicePick vs pl pu none = (cutL vs.toList pl pu).toArray := by rw [← pick_cutL]
      rw [e2]
      exact rep_newList I (r.cutL pl pu) (by have := cutL_length vs.toList pl pu; simp at this; omega)
    split
    · obtain ⟨y, t, rfl, rfl, h1, h2⟩ := rx.str_inv
      have hlen : (cutL y.cps.toList pl pu).length ≤ y.length := by have := cutL_length y.cps.toList pl pu; simpa [Str.length] using this
      have e3 : (slicePicked y ql qu none).filterMap (y.cps[·]?) = cutL y.cps.toList pl pu := by
        unfold slicePicked
        rw [el', eu']
        exact str_pick y pl pu
      refine Sim.leaf I (tail_any (typeIs_str _ y t) F.slot_str_getitem.lookup (wpAny_getItem_str_slice (l := ql) (u := qu) (st := none) (by obtain ⟨os, q1, q2, q3⟩ := hsl; exact ⟨os, q1, q2, by rw [q3, el, eu]; rfl⟩) rfl ?_) rfl)
      unfold sliceMade
      split
      · rename_i hc
        refine ⟨.refl, .refl, ?_⟩
        have : cutL y.cps.toList pl pu = y.cps.toList := by
          simp only [Option.map_none, Option.getD_none, Bool.and_eq_true, beq_iff_eq] at hc
          have h4 : (cutL y.cps.toList pl pu).length = y.cps.toList.length := by
            have hk : (cutL y.cps.toList pl pu).length = (slicePicked y ql qu none).length := by
              rw [← e3]
              have hk2 : slicePicked y ql qu none = (List.range ((pu.elim y.length (clipAt y.length)) - (pl.elim 0 (clipAt y.length)))).map ((pl.elim 0 (clipAt y.length)) + ·) := by
                unfold slicePicked
                rw [el', eu']
                have key : Builtin.Str.strSliceIndices pl pu 1 y.length = sliceRange ((pl.elim 0 (clipAt y.length) : Nat) : Int) ((pu.elim y.length (clipAt y.length) : Nat) : Int) 1 := by
                  unfold Builtin.Str.strSliceIndices
                  simp only [show (1 : Int) > 0 from by decide, if_true]
                  cases pl <;> cases pu <;> simp only [Option.elim_none, Option.elim_some, clipAt_cast] <;> rfl
                show Builtin.Str.strSliceIndices pl pu 1 y.length = _
                rw [key, sliceRange_one]
              have hle : pu.elim y.length (clipAt y.length) ≤ y.length := by
                cases pu with
                | none => exact Nat.le_refl _
                | some i => simp only [Option.elim_some]; have := clipAt_cast y.length i; omega
              rw [hk2, pick_run]
              simp [Str.length] at hle ⊢
              omega
            rw [hk, hc.2]; simp [Str.length]
          unfold cutL at h4 ⊢
          simp only [List.length_take, List.length_drop] at h4
          by_cases hz0 : y.cps.toList.length = 0
          · have : y.cps.toList = [] := List.length_eq_zero_iff.mp hz0
            rw [this]; simp
          · have ha : pl.elim 0 (clipAt y.cps.toList.length) = 0 := by omega
            rw [ha] at h4 ⊢
            simp only [List.drop_zero]
            exact List.take_of_length_le (by omega)
        rw [this]
        exact .str y t h1 h2
      · refine ⟨by show (List.toArray _).size ≤ sizeLine; rw [List.size_toArray, e3]; omega, .refl, .refl, ?_⟩
        rw [e3]
        have hr : RepV (Tr st.σ μ) μ s.heap (.str ⟨(cutL y.cps.toList pl pu).toArray⟩ s.toks) (.str (Str.mk (cutL y.cps.toList pl pu).toArray).cps.toList) := by
          refine .str _ _ ?_ (by show (List.toArray _).size ≤ sizeLine; rw [List.size_toArray]; omega)
          unfold PyData.strOk at h1 ⊢
          rw [Array.all_eq_true_iff_forall_mem] at h1 ⊢
          intro a ha
          exact h1 a (by rw [← Array.mem_toList_iff]; exact mem_cutL (by simpa using ha))
        exact hr
    · obtain ⟨a, vs, rfl, hl, hz, r⟩ := rx.lst_inv
      exact key hl hz r rfl
    · split
      · rename_i n _ xs hn
        obtain ⟨a, vs, rfl, hl, hz, r⟩ := I.ref_inv rx hn
        exact key hl.isList hz r rfl
      · trivial
    · trivial
  · trivial
end
end Mine
namespace Mine
open PySem PySem.Calls PyProof.Rows PySem.W
open AutoSeq1 (wpAny_loadPart')

section
variable {prog : Program} {w : World} {A : Around} {s : Shared}
theorem collect_sz {E : Value → Shared → Prop} {Q : List Value → Shared → Prop} {l : Addr} {items : Array Value} {o : Obj} {n : Nat} (ho : s.heap.get? l = some o) (hc : o.cls = .type "list") (hd : o.data = .seq items n) (hsz : items.size ≤ sizeLine)
    (hQ : ∀ h', Ext s.heap h' → Q items.toList { s with heap := h' }) : wpAny (model prog w) A (collect (.ref l)) Q E s :=
  wpAny_mono (wpAny_with_size (E := fun _ _ => False) (wpAny_collect_seq l (.inl rfl) ho hc hd (fun h' hk hs => hQ h' ⟨hs, hk⟩) hsz)) (fun _ _ h => h) fun _ _ h => h.elim
end
theorem tuple_new (l : Addr) (o : Obj) (items : Array Value) (n : Nat) (hc : o.cls = .type "list") (hd : o.data = .seq items n) (hsz : items.size ≤ sizeLine) :
    Meets (Builtin.«tuple.__new__» ⟨[.type "tuple", .ref l], []⟩)
      (fun _ R s => s.heap.get? l = some o ∧ ∀ h' : Heap, Ext s.heap h' → R (.ok (.ret (.ref h'.objs.size))) { s with heap := h'.push { cls := .type "tuple", data := .seq items } }) :=
  .of_wp fun prog w A R s h => by
    obtain ⟨hp, g, d, tk, os⟩ := s; obtain ⟨ht, h⟩ := h
    have hsub := sub_tuple_self
    have hinit := init_tuple_lookup
    have hmh := madeHere_tuple
    have hT : Shared.TypeIs ⟨hp, g, d, tk, os⟩ (.ref l) "list" := ⟨o, ht, hc⟩
    wp_walk using wpAny_loadPart' ht, wpAny_typeOf hT, collect_sz (l := l) ht hc hd hsz
    intro h' X
    show wpAny _ _ (Builtin.Tuple.tupleExact items.toList.toArray >>= fun v => ret v) _ _ _
    unfold Builtin.Tuple.tupleExact
    refine wpAny_bind (wpAny_newObj_type ?_ (by show items.toList.toArray.size ≤ sizeLine; simpa using hsz))
    refine wpAny_pure ⟨_, rfl, ?_⟩
    have e : items.toList.toArray = items := by simp
    rw [e]
    exact h h' X
section
variable {prog : Program} {w : World} {A : Around} {E : Value → Shared → Prop} {s : Shared}
theorem call_tuple_sz {l : Addr} {o : Obj} {items : Array Value} {n : Nat} {Q : Value → Shared → Prop} (ho : s.heap.get? l = some o) (hc : o.cls = .type "list") (hd : o.data = .seq items n) (hsz : items.size ≤ sizeLine)
    (h : ∀ h' : Heap, Ext s.heap h' → Q (.ref h'.objs.size) { s with heap := h'.push { cls := .type "tuple", data := .seq items } }) :
    wpAny (model prog w) A (call (.type "tuple") [.ref l]) Q E s :=
  callType_new PySem.F.called_tuple (by decide) (PySem.F.typeCall_tuple_1 _) (PySem.F.newCall_tuple_1 _) (fun obj => PySem.F.args_object_init_2 obj _) PySem.F.entry_tuple_new
    (tuple_new l o items n hc hd hsz) ⟨ho, fun h' hk => ⟨⟨_, Heap.get?_push_size _ rfl, rfl⟩, h h' hk⟩⟩

theorem ints_of : ∀ {vs : List Value} {ns : List Int}, vs.length = ns.length → (∀ (j : Nat) (v : Value), vs[j]? = some v → ∃ t, v = .int (ns.getD j 0) t) → IntsAre vs ns
  | [], [], _, _ => .nil
  | [], _ :: _, e, _ => by cases e
  | _ :: _, [], e, _ => by cases e
  | v :: vs, n :: ns, e, h => by
    obtain ⟨t, rfl⟩ := h 0 v rfl
    exact .cons n t (ints_of (Nat.succ.inj e) fun j v hv => h (j + 1) v hv)
theorem call_sorted_dict {d : Addr} {kvs : List (Int × Value)} {Q : Value → Shared → Prop} (hh : A.handled = none) (lo : (d == sysModules) = false) (hd : s.heap.DictOf (intKind prog w) d kvs) (h64 : kvs.length < 64)
    (h : ∀ (h' : Heap) (tk : Nat) (a : Addr) (out : Array Value) (e : Nat) (ns' : List Int), (∀ b o, s.heap.get? b = some o → h'.get? b = some o) → s.heap.objs.size ≤ a → h'.get? a = some (seqObj "list" out e) → IntsAre out.toList ns' → ns'.Perm (kvs.map (·.1)) → ns'.Pairwise (· ≤ ·) →
      Q (.ref a) { s with heap := h', toks := tk }) : wpAny (model prog w) A (call (.builtin "sorted") [.ref d]) Q E s := by
  obtain ⟨ep, hat⟩ := hd.dictAt
  have hz : kvs.length ≤ sizeLine := Nat.le_trans (Nat.le_of_lt h64) (by decide)
  refine call_function_entry kind_sorted plain_sorted entry_sorted (args_sorted1 _) ?_
  unfold Builtin.«sorted»
  refine wpAny_bind (m := checkCount "sorted" 1 1 _) (wpAny_pure ?_)
  refine wpAny_bind (wpAny_mono (wpAny_with_size (E := fun _ _ => False) (kdu_collect (A := A.in1) (kdl_dict (knd := intKind prog w) (kvs := kvs) (ep := ep) lo) hh hat hz
    (R := fun l s' => s.heap.objs.size ≤ s'.heap.objs.size → ∃ (h' : Heap) (tk : Nat) (acc : Array Value), l = acc.toList ∧ s' = { s with heap := h', toks := tk } ∧ (∀ b o, s.heap.get? b = some o → h'.get? b = some o) ∧ s.heap.objs.size ≤ h'.objs.size ∧ ItemsOf (fun i v => ∃ k x, kvs[i]? = some (k, x) ∧ (intKind prog w).is k v = true) acc kvs.length)
    fun h' tk acc hk hacc hs => ⟨h', tk, acc, rfl, rfl, hk, hs, hacc⟩)) (fun l s' hl => ?_) fun _ _ e => e.elim)
  obtain ⟨h', tk, acc, rfl, rfl, hk, hs, hacc⟩ := hl
  have hl : acc.toList.length = kvs.length := by rw [Array.length_toList]; exact hacc.1
  refine wpAny_bind (wpAny_newList ?_ (by rw [hl]; exact hz))
  have ho : (h'.push { cls := .type "list", data := .seq acc.toList.toArray }).get? h'.objs.size = some (seqObj "list" acc.toList.toArray 0) := Heap.get?_push_size _ rfl
  have hI : IntsAre acc.toList (kvs.map (·.1)) := ints_of (by rw [hl, List.length_map]) fun j v hv => by
    obtain ⟨k, x, hx, hkv⟩ := hacc.2 j v (by rw [← Array.getElem?_toList]; exact hv)
    obtain ⟨t, rfl⟩ := Value.isInt_shape hkv
    exact ⟨t, by simp [List.getD_eq_getElem?_getD, hx]⟩
  refine wpAny_bind (wpAny_holding (wpAny_call_entry slot_list_sort ⟨_, ho, rfl⟩ entry_list_sort (list_sort_tree ho hI (by rw [hl]; exact h64) fun out ns' a1 a2 a3 => ⟨_, rfl, ?_⟩) (args_list_sort _)))
  obtain ⟨e, he⟩ := sortedHeap_at (out := out) ho
  exact wpAny_pure ⟨_, rfl, h _ tk _ out e ns' (fun b o q => by
    have hlt := Heap.lt_size (hk b o q)
    rw [sortedHeap_old (Nat.ne_of_lt hlt) (by rw [Heap.size_push]; exact Nat.lt_succ_of_lt hlt)]
    exact Heap.get?_push_of_some _ (hk b o q)) hs he a1 a2 a3⟩
end

theorem insI_perm (i : Int) : ∀ l : List Int, (insI i l).Perm (i :: l)
  | [] => .refl _
  | j :: r => by
    unfold insI
    split
    · exact .refl _
    · exact ((insI_perm i r).cons j).trans (.swap i j r)
theorem insI_sorted (i : Int) : ∀ l : List Int, l.Pairwise (· ≤ ·) → (insI i l).Pairwise (· ≤ ·)
  | [], _ => by simp [insI]
  | j :: r, h => by
    unfold insI
    rw [List.pairwise_cons] at h
    split
    · rename_i hij
      rw [List.pairwise_cons, List.pairwise_cons]
      refine ⟨fun a ha => ?_, h⟩
      rcases List.mem_cons.mp ha with rfl | ha
      · exact hij
      · exact Int.le_trans hij (h.1 a ha)
    · rename_i hij
      rw [List.pairwise_cons]
      refine ⟨fun a ha => ?_, insI_sorted i r h.2⟩
      rcases List.mem_cons.mp ((insI_perm i r).mem_iff.mp ha) with rfl | ha
      · omega
      · exact h.1 a ha
theorem sortI_perm : ∀ l : List Int, (sortI l).Perm l
  | [] => .refl _
  | i :: l => (insI_perm i (sortI l)).trans ((sortI_perm l).cons i)
theorem sortI_sorted : ∀ l : List Int, (sortI l).Pairwise (· ≤ ·)
  | [] => .nil
  | i :: l => insI_sorted i _ (sortI_sorted l)
theorem sortI_eq {l ns : List Int} (hp : ns.Perm l) (hs : ns.Pairwise (· ≤ ·)) : ns = sortI l :=
  List.Perm.eq_of_pairwise (fun a b _ _ h1 h2 => Int.le_antisymm h1 h2) hs (sortI_sorted l) (hp.trans (sortI_perm l).symm)
theorem ints_rep {T : Addr → Prop} {μ : List Addr} {h : Heap} : ∀ {vs : List Value} {ns : List Int}, IntsAre vs ns → RepVs T μ h vs (ns.map .int)
  | _, _, .nil => .nil
  | _, _, .cons n t r => .cons (.int n t) (ints_rep r)
end Mine
namespace Mine
open PySem PySem.Calls PyProof.Rows

section
variable {c : Cx} {st : St} {μ : List Addr} {s : Shared} {u v : Value}
theorem sim_addList (I : Inv c st μ s.heap) {a b : Addr} {vs ws : Array Value} {xs ys : List V} (hl : s.heap.IsList a vs) (r : RepVs (Tr st.σ μ) μ s.heap vs.toList xs) (hl' : s.heap.IsList b ws)
    (r' : RepVs (Tr st.σ μ) μ s.heap ws.toList ys) (hz : xs.length + ys.length ≤ sizeLine) : Sim c (binaryOp .Add (.ref a) (.ref b)) (.ok (.lst (xs ++ ys)) st) rV st.σ μ s := by
  obtain ⟨⟨cls, dd, data, sl⟩, ho, hc, n, hd⟩ := id hl
  obtain ⟨⟨cls2, dd2, data2, sl2⟩, ho2, hc2, n2, hd2⟩ := id hl'
  simp only at hc hd hc2 hd2
  subst hc hd hc2 hd2
  have e1 := r.length
  have e2 := r'.length
  have hz' : vs.size + ws.size ≤ sizeLine := by simp at e1 e2; omega
  refine Sim.leaf I (concat_meets ⟨_, ho, rfl⟩ ⟨_, ho2, rfl⟩ noFill_list_add seq_list_add PySem.F.slot_list_add PySem.F.entry_list_add (PySem.F.args_list_add_2 _ _) (list_addW a b vs ws n n2 dd dd2 sl sl2 hz') ⟨ho, ho2, ?_⟩)
  refine ⟨.push _, .refl, ?_⟩
  have e3 : vs ++ ws = (vs.toList ++ ws.toList).toArray := by simp
  rw [e3]
  exact rep_newList I (r.append r') (by simpa using hz')

noncomputable def tyN : Ty → String
  | .int => "int"
  | .bool => "bool"
  | .list => "list"
  | .tuple => "tuple"
  | .str => "str"
theorem sim_isin (I : Inv c st μ s.heap) {x : V} (rx : RepV (Tr st.σ μ) μ s.heap u x) (ty : Ty) :
    Sim c (call (.builtin "isinstance") [u, .type (tyN ty)]) (R.lift ((isSem st.σ ty x).map V.bool) st) rV st.σ μ s := by
  have none_no : ∀ T : String, (Value.type "NoneType" == Value.type T) = false → typeOf (.type T) = pure (.type "type") → isSubtype (.type "NoneType") (.type T) = pure false → u = .none →
      Sim c (call (.builtin "isinstance") [u, .type T]) (.ok (.bool false) st) rV st.σ μ s := by
    rintro T h1 h2 h3 rfl
    exact leaf_bool I fun Q hq => call_isinstance (isinstance_false_none h1 h2 h3) (hq _)
  cases x
  · cases ty
    · obtain rfl := rx.none_inv; exact leaf_bool I fun Q hq => IsiPair.NoneType_int (hq _)
    · obtain rfl := rx.none_inv; exact leaf_bool I fun Q hq => IsiPair.NoneType_bool (hq _)
    · obtain rfl := rx.none_inv; exact leaf_bool I fun Q hq => IsiPair.NoneType_list (hq _)
    · obtain rfl := rx.none_inv; exact leaf_bool I fun Q hq => IsiPair.NoneType_tuple (hq _)
    · obtain rfl := rx.none_inv; exact leaf_bool I fun Q hq => IsiPair.NoneType_str (hq _)
  · obtain rfl := rx.bool_inv
    cases ty <;> try trivial
    · exact leaf_bool I fun Q hq => IsiPair.bool_int (hq _)
    · exact leaf_bool I fun Q hq => IsiPair.bool_bool (hq _)
  · obtain ⟨t, rfl⟩ := rx.int_inv
    cases ty <;> try trivial
    · exact leaf_bool I fun Q hq => IsiPair.int_int (hq _)
    · exact leaf_bool I fun Q hq => IsiPair.int_bool (hq _)
  · obtain ⟨x, t, rfl, rfl, h1, h2⟩ := rx.str_inv
    cases ty <;> try trivial
    · exact leaf_bool I fun Q hq => IsiPair.str_int (hq _)
    · exact leaf_bool I fun Q hq => IsiPair.str_bool (hq _)
    · exact leaf_bool I fun Q hq => IsiPair.str_str (hq _)
  · obtain ⟨a, vs, rfl, ⟨o, ho, hc, _⟩, hz, r⟩ := rx.tup_inv
    cases ty <;> try trivial
    · exact leaf_bool I fun Q hq => IsiPair.tuple_int ho hc (hq _)
    · exact leaf_bool I fun Q hq => IsiPair.tuple_bool ho hc (hq _)
    · exact leaf_bool I fun Q hq => IsiPair.tuple_list ho hc (hq _)
    · exact leaf_bool I fun Q hq => IsiPair.tuple_tuple ho hc (hq _)
  · obtain ⟨a, vs, rfl, ⟨o, ho, hc, _⟩, hz, r⟩ := rx.lst_inv
    cases ty <;> try trivial
    · exact leaf_bool I fun Q hq => IsiPair.list_int ho hc (hq _)
    · exact leaf_bool I fun Q hq => IsiPair.list_bool ho hc (hq _)
    · exact leaf_bool I fun Q hq => IsiPair.list_list ho hc (hq _)
    · exact leaf_bool I fun Q hq => IsiPair.list_tuple ho hc (hq _)
  · rename_i n
    cases ty <;> try trivial
    show Sim c _ (R.lift ((match st.σ[n]? with | some (.lst _) => some true | _ => none : Option Bool).map V.bool) st) _ _ _ _
    split
    · rename_i hn
      obtain ⟨a, vs, rfl, hl, hz, r⟩ := I.ref_inv rx hn
      obtain ⟨o, ho, hc, _⟩ := hl.isList
      exact leaf_bool I fun Q hq => IsiPair.list_list ho hc (hq _)
    · trivial
  · trivial

noncomputable def biV : Bi → Value
  | .len => .builtin "len"
  | .int => .type "int"
  | .list => .type "list"
  | .tuple => .type "tuple"
  | .sorted => .builtin "sorted"
theorem sim_bi (ok : CxOk c) (I : Inv c st μ s.heap) {x : V} (rx : RepV (Tr st.σ μ) μ s.heap u x) (f : Bi) : Sim c (call (biV f) [u]) (R.lift (biSem st.σ f x) st) rV st.σ μ s := by
  have lenL : ∀ {a : Addr} {vs : Array Value} {xs : List V}, s.heap.IsList a vs → vs.size ≤ sizeLine → RepVs (Tr st.σ μ) μ s.heap vs.toList xs → u = .ref a →
      Sim c (call (.builtin "len") [u]) (.ok (.int xs.length) st) rV st.σ μ s := by
    rintro a vs xs hl hz r rfl
    refine leaf_int I fun Q hq => call_len_list hl (size_fit hz) ?_
    have e := r.length
    rw [Array.length_toList] at e
    rw [e]; exact hq _ _
  cases f
  rotate_left
  · cases x <;> try trivial
    · obtain rfl := rx.bool_inv; exact leaf_int I fun Q hq => call_int_bool (hq _ _)
    · obtain ⟨t, rfl⟩ := rx.int_inv; exact leaf_int I fun Q hq => call_int_int (hq _ _)
  · cases x <;> try trivial
    rename_i xs
    cases rx with
    | @lst a o vs n _ ho hc hd hz hT r =>
      exact Sim.leaf I (wpAny_with_size (call_list_seq a (.inl rfl) ho hc hd (fun h' c' hk hn hs => ⟨⟨hs, hk⟩, ⟨rfl, rfl, rfl⟩, .lst hn rfl rfl hz (fun q => Nat.lt_irrefl _ (I.lt _ q.mem)) (r.ext ⟨hs, hk⟩)⟩) hz))
  · cases x <;> try trivial
    rename_i xs
    cases rx with
    | @lst a o vs n _ ho hc hd hz hT r =>
      refine Sim.leaf I (call_tuple_sz ho hc hd hz fun h' X => ⟨X.trans (.push _), ⟨rfl, rfl, rfl⟩, .tup (Heap.get?_push_size _ rfl) rfl rfl hz (fun q => ?_) (r.ext (X.trans (.push _)))⟩)
      exact Nat.lt_irrefl _ (Nat.lt_of_lt_of_le (I.lt _ q.mem) X.1)
  · cases x <;> try trivial
    rename_i m
    show Sim c _ (R.lift (match st.σ[m]? with | some (.idict es) => if es.length < 64 then some (V.lst ((sortI (es.map (fun p : Int × V => p.1))).map .int)) else none | _ => none) st) _ _ _ _
    cases hm : st.σ[m]? with
    | none => trivial
    | some o =>
      cases o <;> try trivial
      rename_i es
      dsimp only
      split
      · rename_i h64
        obtain ⟨d, kvs, rfl, _, lo, hD, hk, _, _⟩ := dict_at ok I rx hm
        have hl : kvs.length = es.length := by have := congrArg List.length hk; simpa using this
        refine Sim.leaf I (wpAny_with_size (call_sorted_dict ok.hh lo hD (by omega) fun h' tk a out e ns' hk' ha ho hI hp hs hz => ⟨⟨hz, hk'⟩, ⟨rfl, rfl, rfl⟩, ?_⟩))
        rw [← sortI_eq (hk ▸ hp) hs]
        have hlen : out.size = es.length := by
          have h1 := (ints_rep (T := Tr st.σ μ) (μ := μ) (h := h') hI).length
          have h2 := hp.length_eq
          rw [Array.length_toList, List.length_map] at h1
          rw [List.length_map] at h2
          omega
        exact .lst ho rfl rfl (by rw [hlen]; exact Nat.le_trans (Nat.le_of_lt h64) (by decide)) (fun q => Nat.lt_irrefl _ (Nat.lt_of_lt_of_le (I.lt _ q.mem) ha)) (ints_rep hI)
      · trivial
  cases x <;> try trivial
  · obtain ⟨x, t, rfl, rfl, h1, h2⟩ := rx.str_inv
    refine leaf_int I fun Q hq => P.len_str (by have := size_fit h2; omega) ?_
    have e : ((x.length : Nat) : Int) = (x.cps.toList.length : Nat) := by simp [Str.length]
    rw [e]; exact hq _ _
  · obtain ⟨a, vs, rfl, hl, hz, r⟩ := rx.tup_inv
    refine leaf_int I fun Q hq => PyProof.Rows.len_tuple hl (size_fit hz) ?_
    have e := r.length
    rw [Array.length_toList] at e
    rw [e]; exact hq _ _
  · obtain ⟨a, vs, rfl, hl, hz, r⟩ := rx.lst_inv
    exact lenL hl hz r rfl
  · rename_i n
    show Sim c _ (R.lift (match st.σ[n]? with | some (.lst xs) => some (V.int xs.length) | _ => none) st) _ _ _ _
    split
    · rename_i hn
      obtain ⟨a, vs, rfl, hl, hz, r⟩ := I.ref_inv rx hn
      exact lenL hl.isList hz r rfl
    · trivial

theorem find_one (x : Str) (d : Nat) : Txt.find x ⟨#[d]⟩ = (match x.cps.toList.findIdx? (· == d) with | some i => (i : Int) | none => -1) := by
  rcases find_whole x ⟨#[d]⟩ with ⟨h0, hn⟩ | ⟨i, h0, hi, hn⟩
  · have : x.cps.toList.findIdx? (· == d) = none := by
      rw [List.findIdx?_eq_none_iff]
      intro a ha
      obtain ⟨i, hi⟩ := List.mem_iff_getElem?.mp ha
      refine beq_false_of_ne ?_
      rintro rfl
      exact hn i ((StrLaws.subAt_one x a i).mpr hi)
    rw [h0, this]
  · have h1 := (StrLaws.subAt_one x d i).mp hi
    have : x.cps.toList.findIdx? (· == d) = some i := by
      obtain ⟨hlt, he⟩ := List.getElem?_eq_some_iff.mp h1
      rw [List.findIdx?_eq_some_iff_getElem]
      refine ⟨hlt, by simp [he], fun j hj => ?_⟩
      simp only [beq_iff_eq]
      intro hq
      refine hn j hj ((StrLaws.subAt_one x d j).mpr ?_)
      rw [List.getElem?_eq_getElem (by omega), hq]
    rw [h0, this]

theorem strsOf_rep {T : Addr → Prop} {h : Heap} : ∀ {vs : List Value} {xs : List V} {l : List (List Nat)}, RepVs T μ h vs xs → strsOf xs = some l →
    ∃ ys : List Str, StrsAre vs ys ∧ ys.map (fun y => y.cps.toList) = l ∧ ∀ y ∈ ys, PyData.strOk y = true
  | _, _, l, .nil, e => by simp [strsOf] at e; subst e; exact ⟨[], .nil, rfl, by simp⟩
  | _, _, l, .cons (x := x) a r, e => by
    unfold strsOf at e
    split at e
    · cases ‹_ :: _ = []›
    · rename_i q
      cases q
      obtain ⟨l', hl', rfl⟩ := Option.map_eq_some_iff.mp e
      obtain ⟨y, t, rfl, rfl, h1, h2⟩ := a.str_inv
      obtain ⟨ys, g1, g2, g3⟩ := strsOf_rep r hl'
      exact ⟨y :: ys, .cons y t g1, by simp [g2], by simpa using ⟨h1, g3⟩⟩
    · cases e

theorem fold_cps : ∀ (l : List Str) (i : Array Nat), (l.foldl (fun acc p => acc ++ (#[] : Array Nat) ++ p.cps) i).toList = i.toList ++ (l.map (fun y => y.cps.toList)).flatten
  | [], i => by simp
  | y :: l, i => by simp only [List.foldl_cons]; rw [fold_cps l]; simp
theorem join_nil (ys : List Str) : (Txt.join ⟨#[]⟩ ys).cps.toList = (ys.map (fun y => y.cps.toList)).flatten := by
  show ((ys.drop 1).foldl (fun acc p => acc ++ (#[] : Array Nat) ++ p.cps) (ys.headD Str.empty).cps).toList = _
  rw [fold_cps]
  cases ys with
  | nil => rfl
  | cons y r => simp

noncomputable def meN : Me → String
  | .find => "str.find"
  | .index => "str.index"
  | .join => "str.join"
  | .append => "list.append"

theorem Tr_set {σ : List O} {n : Nat} {o o' : O} {b : Addr} (e : σ[n]? = some o) (h1 : o.live = true) (h2 : o'.live = true) : Tr (σ.set n o') μ b ↔ Tr σ μ b := by
  have hlt : n < σ.length := (List.getElem?_eq_some_iff.mp e).1
  constructor
  · rintro ⟨k, q, e1, e2, e3⟩
    by_cases hk : n = k
    · subst hk; exact ⟨n, o, e, h1, e3⟩
    · rw [List.getElem?_set_ne hk] at e1; exact ⟨k, q, e1, e2, e3⟩
  · rintro ⟨k, q, e1, e2, e3⟩
    by_cases hk : n = k
    · subst hk; exact ⟨n, o', by simp [hlt], h2, e3⟩
    · exact ⟨k, q, by rw [List.getElem?_set_ne hk]; exact e1, e2, e3⟩

/-- only a is changed -/
noncomputable def UpdAt (a : Addr) (h h' : Heap) : Prop := h.objs.size ≤ h'.objs.size ∧ ∀ b o, b ≠ a → h.get? b = some o → h'.get? b = some o
theorem UpdAt.of {a : Addr} {h h' : Heap} (hs : Heap.SameBut a h h') : UpdAt a h h' := ⟨Nat.le_of_eq hs.1.symm, fun b o hb e => (hs.2 b hb).trans e⟩
/-- a tracked object is changed in place -/
theorem Inv.upd {h h' : Heap} (I : Inv c st μ h) {n : Nat} {o o' : O} {a : Addr} (e : st.σ[n]? = some o) (ha : μ[n]? = some a) (h1 : o.live = true) (h2 : o'.live = true) (hs : UpdAt a h h')
    (hr : RepO (Tr st.σ μ) μ h' a o') (hnp : o ≠ .priv) : Inv c ⟨st.ρ, st.σ.set n o'⟩ μ h' ∧ Stp c st.σ μ h (st.σ.set n o') μ h' := by
  have tr : ∀ b, Tr (st.σ.set n o') μ b ↔ Tr st.σ μ b := fun b => Tr_set e h1 h2
  have trE : Tr (st.σ.set n o') μ = Tr st.σ μ := funext fun b => propext (tr b)
  have ta : Tr st.σ μ a := ⟨n, o, e, h1, ha⟩
  have S : Stp c st.σ μ h (st.σ.set n o') μ h' := ⟨hs.1, fun b ob q _ hT => hs.2 b ob (fun (k : b = a) => hT (k ▸ ta)) q, fun _ _ q => q, fun b q => .inl ((tr b).mp q), fun _ q => .inl q, pv_set e hnp, fun k b ob e1 e2 e3 => hs.2 b ob (fun x => by
    have : n = k := (List.getElem?_inj (List.getElem?_eq_some_iff.mp ha).1 I.nd).mp (ha.trans (x ▸ e2.symm))
    subst this; rw [e] at e1; exact hnp (Option.some.inj e1)) e3⟩
  have mv : ∀ {v : Value} {x : V}, RepV (Tr st.σ μ) μ h v x → RepV (Tr st.σ μ) μ h' v x := fun r => by
    have := r.step (st' := ⟨st.ρ, st.σ.set n o'⟩) I S
    dsimp only at this
    rwa [trE] at this
  have mvs : ∀ {v : List Value} {x : List V}, RepVs (Tr st.σ μ) μ h v x → RepVs (Tr st.σ μ) μ h' v x := fun r => by
    have := r.step (st' := ⟨st.ρ, st.σ.set n o'⟩) I S
    dsimp only at this
    rwa [trE] at this
  have own : ∀ b, Own c b → b ≠ a := fun b q k => I.sep b q (k ▸ List.mem_of_getElem? ha)
  refine ⟨⟨fun i x q => ?_, fun i sl q => ?_, fun k ob q => ?_, by simpa using I.len, I.nd, fun b q => Nat.lt_of_lt_of_le (I.lt b q) hs.1, fun b ob q => ?_, I.baseS, I.baseM, I.sep⟩, S⟩
  · obtain ⟨sl, v, g1, g2, g3⟩ := I.vars i x q
    dsimp only
    rw [trE]
    exact ⟨sl, v, g1, g2.keeps fun ob k => hs.2 _ _ (own _ ⟨i, sl, g1, rfl⟩) k, mv g3⟩
  · exact (I.slots i sl q).keeps fun ob k => hs.2 _ _ (own _ ⟨i, sl, q, rfl⟩) k
  · dsimp only at q ⊢
    rw [trE]
    have hlt : n < st.σ.length := (List.getElem?_eq_some_iff.mp e).1
    by_cases hk : n = k
    · subst hk
      have : o' = ob := by simpa [hlt] using q
      subst this
      exact ⟨a, ha, hr⟩
    · rw [List.getElem?_set_ne hk] at q
      obtain ⟨b, hb, rb⟩ := I.objs k ob q
      have hne : b ≠ a := fun h => hk ((List.getElem?_inj (List.getElem?_eq_some_iff.mp ha).1 I.nd).mp (ha.trans (h ▸ hb.symm)))
      refine ⟨b, hb, ?_⟩
      cases rb with
      | dead => exact .dead
      | priv => exact .priv
      | live ho L r => exact .live (hs.2 b _ hne ho) L (mvs r)
  · refine hs.2 b ob (fun k => ?_) (I.base b ob q)
    have := I.baseM a (List.mem_of_getElem? ha)
    rw [k, this] at q; cases q

theorem sim_onS1 {α : Type} {rel : St → List Addr → Heap → α → V → Prop} {t : Sem α} {x y : V} {k : List Nat → Nat → R V} (h : ∀ z d, x = .str z → y = .str [d] → Sim c t (k z d) rel st.σ μ s) : Sim c t (onS1 x y st k) rel st.σ μ s := by
  cases x <;> first | trivial | skip
  cases y <;> first | trivial | skip
  rename_i z l
  rcases l with _ | ⟨d, _ | ⟨_, _⟩⟩ <;> first | trivial | exact h _ _ rfl rfl
theorem sim_me (I : Inv c st μ s.heap) {x y : V} (rx : RepV (Tr st.σ μ) μ s.heap u x) (ry : RepV (Tr st.σ μ) μ s.heap v y) (m : Me) :
    Sim c (call (.builtin (meN m)) [u, v]) (meSem m x y st) rV st.σ μ s := by
  cases m
  · refine sim_onS1 fun x0 d ex ey => ?_
    subst ex ey
    obtain ⟨a, t, rfl, rfl, h1, h2⟩ := rx.str_inv; obtain ⟨b, t', rfl, e, h1', h2'⟩ := ry.str_inv
    obtain rfl := one_char e
    refine leaf_int I fun Q hq => SC.find ?_
    rw [find_one]; exact hq _ _
  · refine sim_onS1 fun x0 d ex ey => ?_
    subst ex ey
    obtain ⟨a, t, rfl, rfl, h1, h2⟩ := rx.str_inv; obtain ⟨b, t', rfl, e, h1', h2'⟩ := ry.str_inv
    obtain rfl := one_char e
    split
    · rename_i i hi
      have hf := find_one a d
      rw [hi] at hf
      unfold Txt.find at hf
      cases ho : Builtin.Str.occurrences a ⟨#[d]⟩ 0 a.length 1 with
      | nil =>
        rw [ho] at hf
        have hf' : (-1 : Int) = (i : Int) := hf
        omega
      | cons j r =>
        rw [ho] at hf
        have : j = i := by injection hf
        subst this
        exact leaf_int I fun Q hq => SC.index ho (hq _ _)
    · trivial
  · cases x <;> try trivial
    rename_i l0
    cases l0 <;> try trivial
    cases y <;> try trivial
    rename_i ys0
    obtain ⟨a, t, rfl, e, h1, h2⟩ := rx.str_inv; obtain ⟨b, vs, rfl, hl, hz, r⟩ := ry.lst_inv
    show Sim c _ (match strsOf ys0 with | some l => if l.flatten.length ≤ sizeLine then .ok (V.str l.flatten) st else .stuck | none => .stuck : R V) _ _ _ _
    have ea : a = ⟨#[]⟩ := by obtain ⟨⟨l⟩⟩ := a; simp at e; subst e; rfl
    subst ea
    split
    · rename_i l hl'
      split
      · rename_i hlen
        obtain ⟨ys, g1, g2, g3⟩ := strsOf_rep r hl'
        have hj := join_nil ys
        refine leaf_str (x := Txt.join ⟨#[]⟩ ys) I ?_ ?_ (by rw [hj, g2]) fun Q hq => join_list hl g1 ?_ hq
        · unfold PyData.strOk
          rw [Array.all_eq_true_iff_forall_mem]
          intro b hb
          rw [← Array.mem_toList_iff, hj] at hb
          obtain ⟨w, hw, hb'⟩ := List.mem_flatten.mp hb
          obtain ⟨y, hy, rfl⟩ := List.mem_map.mp hw
          have := g3 y hy
          unfold PyData.strOk at this
          rw [Array.all_eq_true_iff_forall_mem] at this
          exact this b (by rw [← Array.mem_toList_iff]; exact hb')
        · show (Txt.join ⟨#[]⟩ ys).cps.size ≤ sizeLine
          rw [← Array.length_toList, hj, g2]; exact hlen
        · have e1 : (ys.map (·.length)).sum = l.flatten.length := by
            rw [← g2, List.length_flatten, List.map_map]
            rfl
          rw [e1]
          show _ + ys.length * 0 ≤ 16777216
          rw [Nat.mul_zero, Nat.add_zero]
          exact hlen
      · trivial
    · trivial
  · cases x <;> try trivial
    rename_i n
    show Sim c _ (match st.σ[n]? with | some (.lst xs) => if xs.length < sizeLine then .ok V.none ⟨st.ρ, st.σ.set n (.lst (xs ++ [y]))⟩ else .stuck | _ => .stuck : R V) _ _ _ _
    split
    · rename_i xs hn
      split
      · rename_i hlen
        obtain ⟨a, vs, rfl, hl, hz, r⟩ := I.ref_inv rx hn
        cases rx with
        | ref ha =>
          have e1 := r.length
          simp at e1
          refine wpAny_list_append_plain hl (fun h' hl' hs => ?_) hz
          have S0 : RepO (Tr st.σ μ) μ h' a (.lst (xs ++ [y])) := by
            obtain ⟨k, ho⟩ := hl'
            have tE : Tr (st.σ.set n (.lst xs)) μ = Tr st.σ μ := funext fun b => propext (Tr_set hn rfl rfl)
            have S : Stp c st.σ μ s.heap (st.σ.set n (.lst xs)) μ h' :=
              ⟨Nat.le_of_eq hs.1.symm, fun b ob q _ hT => (hs.2 b (fun (k : b = a) => hT (k ▸ ⟨n, _, hn, rfl, ha⟩))).trans q, fun _ _ q => q, fun b q => .inl (by rwa [tE] at q), fun _ q => .inl q, pv_set hn (by simp), fun k b ob e1 e2 e3 => (hs.2 b fun x => by
                have : n = k := (List.getElem?_inj (List.getElem?_eq_some_iff.mp ha).1 I.nd).mp (ha.trans (x ▸ e2.symm))
                subst this; rw [hn] at e1; cases e1).trans e3⟩
            have r1 := r.step (st' := ⟨st.ρ, st.σ.set n (.lst xs)⟩) I S
            have r2 := ry.step (st' := ⟨st.ρ, st.σ.set n (.lst xs)⟩) I S
            dsimp only at r1 r2
            rw [tE] at r1 r2
            exact .lst ho (by simp; omega) (by simpa using r1.append (.cons r2 .nil))
          obtain ⟨I', S⟩ := I.upd hn ha rfl rfl (.of hs) S0 (by simp)
          exact ⟨μ, .none, I', S, .refl⟩
      · trivial
    · trivial
end
section
variable {c : Cx} {st : St} {μ : List Addr} {s : Shared} {u v : Value}
theorem sim_onI0 {α : Type} {rel : St → List Addr → Heap → α → V → Prop} {t : Sem α} {x y : V} {k : Int → Int → Option V} (h : ∀ a b, x = .int a → y = .int b → Sim c t (R.lift (k a b) st) rel st.σ μ s) : Sim c t (R.lift (onI x y k) st) rel st.σ μ s := by
  cases x <;> first | trivial | (cases y <;> first | trivial | exact h _ _ rfl rfl)
theorem sim_bin (ok : CxOk c) (I : Inv c st μ s.heap) {x y : V} (rx : RepV (Tr st.σ μ) μ s.heap u x) (ry : RepV (Tr st.σ μ) μ s.heap v y) (op : Op) :
    Sim c (binaryOp (opM op) u v) (R.lift (binSem op x y) st) rV st.σ μ s := by
  cases op
  · show Sim c _ (R.lift (addSem x y) st) _ _ _ _
    cases x <;> try trivial
    · cases y <;> try trivial
      obtain ⟨t, rfl⟩ := rx.int_inv; obtain ⟨t', rfl⟩ := ry.int_inv
      exact leaf_int I fun Q hq => PyProof.Rows.add_int (hq _ _)
    · cases y <;> try trivial
      obtain ⟨x', t, rfl, rfl, h1, h2⟩ := rx.str_inv; obtain ⟨y', t', rfl, rfl, h1', h2'⟩ := ry.str_inv
      show Sim c _ (R.lift (if _ then _ else none) st) _ _ _ _
      split
      · rename_i hz
        refine leaf_str (x := x' ++ y') I (strOk_append h1 h1') (by rw [app_len]; exact hz) (app_cps _ _) fun Q hq => PyProof.Rows.add_str hq hz
      · trivial
    · cases y <;> try trivial
      obtain ⟨a, vs, rfl, hl, hz, r⟩ := rx.lst_inv; obtain ⟨b, ws, rfl, hl', hz', r'⟩ := ry.lst_inv
      show Sim c _ (R.lift (if _ then _ else none) st) _ _ _ _
      split
      · rename_i hlen
        exact sim_addList I hl r hl' r' hlen
      · trivial
  · refine sim_onI0 fun a b ex ey => ?_
    subst ex ey
    obtain ⟨t, rfl⟩ := rx.int_inv; obtain ⟨t', rfl⟩ := ry.int_inv
    exact leaf_int I fun Q hq => PyProof.Rows.sub_int (hq _ _)
  · refine sim_onI0 fun a b ex ey => ?_
    subst ex ey
    obtain ⟨t, rfl⟩ := rx.int_inv; obtain ⟨t', rfl⟩ := ry.int_inv
    split
    · rename_i h
      refine leaf_int I fun Q hq => P.mul_int (hq _ _) ?_
      rcases Bool.or_eq_true_iff.mp h with h | h
      · exact .of_left (smallI_bits h)
      · exact .of_right (smallI_bits h)
    · trivial
  · refine sim_onI0 fun a b ex ey => ?_
    subst ex ey
    obtain ⟨t, rfl⟩ := rx.int_inv; obtain ⟨t', rfl⟩ := ry.int_inv
    split
    · trivial
    · rename_i h
      exact leaf_int I fun Q hq => PyProof.Rows.floordiv_int h (hq _ _) (.inr (ok.pyl s I.base))
  · refine sim_onI0 fun a b ex ey => ?_
    subst ex ey
    obtain ⟨t, rfl⟩ := rx.int_inv; obtain ⟨t', rfl⟩ := ry.int_inv
    split
    · trivial
    · rename_i h
      exact leaf_int I fun Q hq => PyProof.Rows.mod_int h (hq _ _)
  · refine sim_onI0 fun a b ex ey => ?_
    subst ex ey
    obtain ⟨t, rfl⟩ := rx.int_inv; obtain ⟨t', rfl⟩ := ry.int_inv
    split
    · rename_i h
      obtain ⟨rfl, rfl⟩ := h
      exact leaf_int I fun Q hq => PyProof.Rows.pow_int (by decide) (by decide +kernel) (hq _ _)
    · trivial
end
end Mine
namespace Mine
open PySem

structure Gm where
  sc : Scope
  vm : List (Str × Nat)
  used : List Nat
  gs : List (Str × Int)
noncomputable def plainNm (x : Str) : Bool := !(x == ("__debug__" : Str))
noncomputable def Gm.gl (g : Gm) (x : Str) : Bool := decide (g.sc.names.lookup x = some .globalImplicit) && plainNm x
noncomputable def Gm.lv (g : Gm) (x : Str) (i : Nat) : Bool := decide (g.vm.lookup x = some i) && plainNm x
/-- the scope inside a comprehension -/
noncomputable def ownFree (g : Gm) (n : Str) (k : NameKind) : Bool := k == .free && g.sc.kind == .function && g.sc.names.lookup n == some .cell
noncomputable def inScope (g : Gm) (scope : Scope) : Scope := { scope with names := scope.names.map fun (n, k) => if ownFree g n k then (n, .cell) else (n, k) }
noncomputable def Gm.comp (g : Gm) (scope : Scope) (x : Str) (k : Nat) : Gm :=
  ⟨inScope g scope, (x, k) :: g.vm.filter fun p => !(p.1 == x) && decide (scope.names.lookup p.1 = some .free) && decide (g.sc.names.lookup p.1 = some .cell), k :: g.used, g.gs⟩
noncomputable def compOk (g : Gm) (scope : Scope) (x : Str) (k : Nat) : Bool :=
  decide (scope.kind = .function) && decide (scope.names.lookup x = some .local) && (scope.names.all fun p => !(p.2 == .cell)) && plainNm x &&
  !(g.used.contains k) && !(x == (".0" : Str)) &&
  (scope.names.all fun p => p.2 == .local || p.2 == .free || p.2 == .globalImplicit) && (scope.names.all fun p => !(p.2 == .free) || g.sc.names.lookup p.1 == some .cell) &&
  ((scope.names.filter fun p => (p.2 == .local || p.2 == .cell) && p.1 != (".0" : Str)).map (·.1) == [x]) && decide ((scope.names.map (·.1)).Nodup)

noncomputable def plainRecv : Expr → Bool
  | .Call .. => false
  | _ => true
noncomputable def meName : Me → String
  | .find => "find"
  | .index => "index"
  | .join => "join"
  | .append => "append"
noncomputable def biName : Bi → String
  | .len => "len"
  | .int => "int"
  | .list => "list"
  | .tuple => "tuple"
  | .sorted => "sorted"
noncomputable def plainF (f : Str) : Bool := !(f == clsName) && !(f == initName)

noncomputable def notSet : Expr → Bool
  | .Set .. => false
  | _ => true

noncomputable def onConst (py : Expr) (k : Const → Nat → Pos → Bool) : Bool := if h : py.ctorIdx = 19 then Expr.Constant.elim (motive_1 := fun _ => Bool) py h k else false
theorem onConst_inv {py : Expr} {k : Const → Nat → Pos → Bool} (h : onConst py k = true) : ∃ c x p, py = .Constant c x p ∧ k c x p = true := by
  by_cases q : py.ctorIdx = 19
  · exact Expr.Constant.elim (motive_1 := fun py => onConst py k = true → ∃ c x p, py = .Constant c x p ∧ k c x p = true) py q (fun c x p hk => ⟨c, x, p, rfl, hk⟩) h
  · unfold onConst at h
    rw [dif_neg q] at h
    cases h
noncomputable def onName (py : Expr) (k : Str → Pos → Bool) : Bool := if h : py.ctorIdx = 23 then Expr.Name.elim (motive_1 := fun _ => Bool) py h k else false
theorem onName_inv {py : Expr} {k : Str → Pos → Bool} (h : onName py k = true) : ∃ x p, py = .Name x p ∧ k x p = true := by
  by_cases q : py.ctorIdx = 23
  · exact Expr.Name.elim (motive_1 := fun py => onName py k = true → ∃ x p, py = .Name x p ∧ k x p = true) py q (fun x p hk => ⟨x, p, rfl, hk⟩) h
  · unfold onName at h
    rw [dif_neg q] at h
    cases h
noncomputable def onBin (py : Expr) (k : Expr → Operator → Expr → Pos → Bool) : Bool := if h : py.ctorIdx = 2 then Expr.BinOp.elim (motive_1 := fun _ => Bool) py h k else false
theorem onBin_inv {py : Expr} {k : Expr → Operator → Expr → Pos → Bool} (h : onBin py k = true) : ∃ l o r p, py = .BinOp l o r p ∧ k l o r p = true := by
  by_cases q : py.ctorIdx = 2
  · exact Expr.BinOp.elim (motive_1 := fun py => onBin py k = true → ∃ l o r p, py = .BinOp l o r p ∧ k l o r p = true) py q (fun l o r p hk => ⟨l, o, r, p, rfl, hk⟩) h
  · unfold onBin at h
    rw [dif_neg q] at h
    cases h
noncomputable def onCmp (py : Expr) (k : Expr → List CmpOp → List Expr → Pos → Bool) : Bool := if h : py.ctorIdx = 15 then Expr.Compare.elim (motive_1 := fun _ => Bool) py h k else false
theorem onCmp_inv {py : Expr} {k : Expr → List CmpOp → List Expr → Pos → Bool} (h : onCmp py k = true) : ∃ l os rs p, py = .Compare l os rs p ∧ k l os rs p = true := by
  by_cases q : py.ctorIdx = 15
  · exact Expr.Compare.elim (motive_1 := fun py => onCmp py k = true → ∃ l os rs p, py = .Compare l os rs p ∧ k l os rs p = true) py q (fun l os rs p hk => ⟨l, os, rs, p, rfl, hk⟩) h
  · unfold onCmp at h
    rw [dif_neg q] at h
    cases h
noncomputable def onBoolOp (py : Expr) (k : BoolOp → List Expr → Pos → Bool) : Bool := if h : py.ctorIdx = 0 then Expr.BoolOp.elim (motive_1 := fun _ => Bool) py h k else false
theorem onBoolOp_inv {py : Expr} {k : BoolOp → List Expr → Pos → Bool} (h : onBoolOp py k = true) : ∃ o vs p, py = .BoolOp o vs p ∧ k o vs p = true := by
  by_cases q : py.ctorIdx = 0
  · exact Expr.BoolOp.elim (motive_1 := fun py => onBoolOp py k = true → ∃ o vs p, py = .BoolOp o vs p ∧ k o vs p = true) py q (fun o vs p hk => ⟨o, vs, p, rfl, hk⟩) h
  · unfold onBoolOp at h
    rw [dif_neg q] at h
    cases h
noncomputable def onUn (py : Expr) (k : UnaryOp → Expr → Pos → Bool) : Bool := if h : py.ctorIdx = 3 then Expr.UnaryOp.elim (motive_1 := fun _ => Bool) py h k else false
theorem onUn_inv {py : Expr} {k : UnaryOp → Expr → Pos → Bool} (h : onUn py k = true) : ∃ o x p, py = .UnaryOp o x p ∧ k o x p = true := by
  by_cases q : py.ctorIdx = 3
  · exact Expr.UnaryOp.elim (motive_1 := fun py => onUn py k = true → ∃ o x p, py = .UnaryOp o x p ∧ k o x p = true) py q (fun o x p hk => ⟨o, x, p, rfl, hk⟩) h
  · unfold onUn at h
    rw [dif_neg q] at h
    cases h
noncomputable def onIfE (py : Expr) (k : Expr → Expr → Expr → Pos → Bool) : Bool := if h : py.ctorIdx = 5 then Expr.IfExp.elim (motive_1 := fun _ => Bool) py h k else false
theorem onIfE_inv {py : Expr} {k : Expr → Expr → Expr → Pos → Bool} (h : onIfE py k = true) : ∃ t x y p, py = .IfExp t x y p ∧ k t x y p = true := by
  by_cases q : py.ctorIdx = 5
  · exact Expr.IfExp.elim (motive_1 := fun py => onIfE py k = true → ∃ t x y p, py = .IfExp t x y p ∧ k t x y p = true) py q (fun t x y p hk => ⟨t, x, y, p, rfl, hk⟩) h
  · unfold onIfE at h
    rw [dif_neg q] at h
    cases h
noncomputable def onTup (py : Expr) (k : List Expr → Nat → Pos → Bool) : Bool := if h : py.ctorIdx = 25 then Expr.Tuple.elim (motive_1 := fun _ => Bool) py h k else false
theorem onTup_inv {py : Expr} {k : List Expr → Nat → Pos → Bool} (h : onTup py k = true) : ∃ xs k0 p, py = .Tuple xs k0 p ∧ k xs k0 p = true := by
  by_cases q : py.ctorIdx = 25
  · exact Expr.Tuple.elim (motive_1 := fun py => onTup py k = true → ∃ xs k0 p, py = .Tuple xs k0 p ∧ k xs k0 p = true) py q (fun xs k0 p hk => ⟨xs, k0, p, rfl, hk⟩) h
  · unfold onTup at h
    rw [dif_neg q] at h
    cases h
noncomputable def onList (py : Expr) (k : List Expr → Pos → Bool) : Bool := if h : py.ctorIdx = 24 then Expr.List.elim (motive_1 := fun _ => Bool) py h k else false
theorem onList_inv {py : Expr} {k : List Expr → Pos → Bool} (h : onList py k = true) : ∃ xs p, py = .List xs p ∧ k xs p = true := by
  by_cases q : py.ctorIdx = 24
  · exact Expr.List.elim (motive_1 := fun py => onList py k = true → ∃ xs p, py = .List xs p ∧ k xs p = true) py q (fun xs p hk => ⟨xs, p, rfl, hk⟩) h
  · unfold onList at h
    rw [dif_neg q] at h
    cases h
noncomputable def onSub (py : Expr) (k : Expr → Expr → Pos → Bool) : Bool := if h : py.ctorIdx = 21 then Expr.Subscript.elim (motive_1 := fun _ => Bool) py h k else false
theorem onSub_inv {py : Expr} {k : Expr → Expr → Pos → Bool} (h : onSub py k = true) : ∃ v s p, py = .Subscript v s p ∧ k v s p = true := by
  by_cases q : py.ctorIdx = 21
  · exact Expr.Subscript.elim (motive_1 := fun py => onSub py k = true → ∃ v s p, py = .Subscript v s p ∧ k v s p = true) py q (fun v s p hk => ⟨v, s, p, rfl, hk⟩) h
  · unfold onSub at h
    rw [dif_neg q] at h
    cases h
noncomputable def onSlice (py : Expr) (k : Option Expr → Option Expr → Option Expr → Pos → Bool) : Bool := if h : py.ctorIdx = 26 then Expr.Slice.elim (motive_1 := fun _ => Bool) py h k else false
theorem onSlice_inv {py : Expr} {k : Option Expr → Option Expr → Option Expr → Pos → Bool} (h : onSlice py k = true) : ∃ l u st p, py = .Slice l u st p ∧ k l u st p = true := by
  by_cases q : py.ctorIdx = 26
  · exact Expr.Slice.elim (motive_1 := fun py => onSlice py k = true → ∃ l u st p, py = .Slice l u st p ∧ k l u st p = true) py q (fun l u st p hk => ⟨l, u, st, p, rfl, hk⟩) h
  · unfold onSlice at h
    rw [dif_neg q] at h
    cases h
noncomputable def onCall (py : Expr) (k : Expr → List Expr → List Keyword → Pos → Bool) : Bool := if h : py.ctorIdx = 16 then Expr.Call.elim (motive_1 := fun _ => Bool) py h k else false
theorem onCall_inv {py : Expr} {k : Expr → List Expr → List Keyword → Pos → Bool} (h : onCall py k = true) : ∃ f as ks p, py = .Call f as ks p ∧ k f as ks p = true := by
  by_cases q : py.ctorIdx = 16
  · exact Expr.Call.elim (motive_1 := fun py => onCall py k = true → ∃ f as ks p, py = .Call f as ks p ∧ k f as ks p = true) py q (fun f as ks p hk => ⟨f, as, ks, p, rfl, hk⟩) h
  · unfold onCall at h
    rw [dif_neg q] at h
    cases h
noncomputable def onAttr (py : Expr) (k : Expr → Str → Pos → Bool) : Bool := if h : py.ctorIdx = 20 then Expr.Attribute.elim (motive_1 := fun _ => Bool) py h k else false
theorem onAttr_inv {py : Expr} {k : Expr → Str → Pos → Bool} (h : onAttr py k = true) : ∃ o n p, py = .Attribute o n p ∧ k o n p = true := by
  by_cases q : py.ctorIdx = 20
  · exact Expr.Attribute.elim (motive_1 := fun py => onAttr py k = true → ∃ o n p, py = .Attribute o n p ∧ k o n p = true) py q (fun o n p hk => ⟨o, n, p, rfl, hk⟩) h
  · unfold onAttr at h
    rw [dif_neg q] at h
    cases h
noncomputable def onLC (py : Expr) (k : Expr → List Comprehension → Scope → Pos → Bool) : Bool := if h : py.ctorIdx = 8 then Expr.ListComp.elim (motive_1 := fun _ => Bool) py h k else false
theorem onLC_inv {py : Expr} {k : Expr → List Comprehension → Scope → Pos → Bool} (h : onLC py k = true) : ∃ e gs sc p, py = .ListComp e gs sc p ∧ k e gs sc p = true := by
  by_cases q : py.ctorIdx = 8
  · exact Expr.ListComp.elim (motive_1 := fun py => onLC py k = true → ∃ e gs sc p, py = .ListComp e gs sc p ∧ k e gs sc p = true) py q (fun e gs sc p hk => ⟨e, gs, sc, p, rfl, hk⟩) h
  · unfold onLC at h
    rw [dif_neg q] at h
    cases h
noncomputable def onDict (py : Expr) (k : List (Option Expr) → List Expr → Pos → Bool) : Bool := if h : py.ctorIdx = 6 then Expr.Dict.elim (motive_1 := fun _ => Bool) py h k else false
theorem onDict_inv {py : Expr} {k : List (Option Expr) → List Expr → Pos → Bool} (h : onDict py k = true) : ∃ ks vs p, py = .Dict ks vs p ∧ k ks vs p = true := by
  by_cases q : py.ctorIdx = 6
  · exact Expr.Dict.elim (motive_1 := fun py => onDict py k = true → ∃ ks vs p, py = .Dict ks vs p ∧ k ks vs p = true) py q (fun ks vs p hk => ⟨ks, vs, p, rfl, hk⟩) h
  · unfold onDict at h
    rw [dif_neg q] at h
    cases h
noncomputable def onAssign (py : Stmt) (k : List Expr → Expr → Pos → Bool) : Bool := if h : py.ctorIdx = 5 then Stmt.Assign.elim (motive_2 := fun _ => Bool) py h k else false
theorem onAssign_inv {py : Stmt} {k : List Expr → Expr → Pos → Bool} (h : onAssign py k = true) : ∃ ts v p, py = .Assign ts v p ∧ k ts v p = true := by
  by_cases q : py.ctorIdx = 5
  · exact Stmt.Assign.elim (motive_2 := fun py => onAssign py k = true → ∃ ts v p, py = .Assign ts v p ∧ k ts v p = true) py q (fun ts v p hk => ⟨ts, v, p, rfl, hk⟩) h
  · unfold onAssign at h
    rw [dif_neg q] at h
    cases h
noncomputable def onExprS (py : Stmt) (k : Expr → Pos → Bool) : Bool := if h : py.ctorIdx = 24 then Stmt.Expr.elim (motive_2 := fun _ => Bool) py h k else false
theorem onExprS_inv {py : Stmt} {k : Expr → Pos → Bool} (h : onExprS py k = true) : ∃ v p, py = .Expr v p ∧ k v p = true := by
  by_cases q : py.ctorIdx = 24
  · exact Stmt.Expr.elim (motive_2 := fun py => onExprS py k = true → ∃ v p, py = .Expr v p ∧ k v p = true) py q (fun v p hk => ⟨v, p, rfl, hk⟩) h
  · unfold onExprS at h
    rw [dif_neg q] at h
    cases h
noncomputable def onRet (py : Stmt) (k : Option Expr → Pos → Bool) : Bool := if h : py.ctorIdx = 3 then Stmt.Return.elim (motive_2 := fun _ => Bool) py h k else false
theorem onRet_inv {py : Stmt} {k : Option Expr → Pos → Bool} (h : onRet py k = true) : ∃ v p, py = .Return v p ∧ k v p = true := by
  by_cases q : py.ctorIdx = 3
  · exact Stmt.Return.elim (motive_2 := fun py => onRet py k = true → ∃ v p, py = .Return v p ∧ k v p = true) py q (fun v p hk => ⟨v, p, rfl, hk⟩) h
  · unfold onRet at h
    rw [dif_neg q] at h
    cases h
noncomputable def onIfS (py : Stmt) (k : Expr → List Stmt → List Stmt → Pos → Bool) : Bool := if h : py.ctorIdx = 12 then Stmt.If.elim (motive_2 := fun _ => Bool) py h k else false
theorem onIfS_inv {py : Stmt} {k : Expr → List Stmt → List Stmt → Pos → Bool} (h : onIfS py k = true) : ∃ x a b p, py = .If x a b p ∧ k x a b p = true := by
  by_cases q : py.ctorIdx = 12
  · exact Stmt.If.elim (motive_2 := fun py => onIfS py k = true → ∃ x a b p, py = .If x a b p ∧ k x a b p = true) py q (fun x a b p hk => ⟨x, a, b, p, rfl, hk⟩) h
  · unfold onIfS at h
    rw [dif_neg q] at h
    cases h
noncomputable def onFor (py : Stmt) (k : Expr → Expr → List Stmt → List Stmt → Pos → Bool) : Bool := if h : py.ctorIdx = 9 then Stmt.For.elim (motive_2 := fun _ => Bool) py h k else false
theorem onFor_inv {py : Stmt} {k : Expr → Expr → List Stmt → List Stmt → Pos → Bool} (h : onFor py k = true) : ∃ t it b o p, py = .For t it b o p ∧ k t it b o p = true := by
  by_cases q : py.ctorIdx = 9
  · exact Stmt.For.elim (motive_2 := fun py => onFor py k = true → ∃ t it b o p, py = .For t it b o p ∧ k t it b o p = true) py q (fun t it b o p hk => ⟨t, it, b, o, p, rfl, hk⟩) h
  · unfold onFor at h
    rw [dif_neg q] at h
    cases h
noncomputable def onWhile (py : Stmt) (k : Expr → List Stmt → List Stmt → Pos → Bool) : Bool := if h : py.ctorIdx = 11 then Stmt.While.elim (motive_2 := fun _ => Bool) py h k else false
theorem onWhile_inv {py : Stmt} {k : Expr → List Stmt → List Stmt → Pos → Bool} (h : onWhile py k = true) : ∃ x b o p, py = .While x b o p ∧ k x b o p = true := by
  by_cases q : py.ctorIdx = 11
  · exact Stmt.While.elim (motive_2 := fun py => onWhile py k = true → ∃ x b o p, py = .While x b o p ∧ k x b o p = true) py q (fun x b o p hk => ⟨x, b, o, p, rfl, hk⟩) h
  · unfold onWhile at h
    rw [dif_neg q] at h
    cases h
noncomputable def onBreak (py : Stmt) (k : Pos → Bool) : Bool := if h : py.ctorIdx = 26 then Stmt.Break.elim (motive_2 := fun _ => Bool) py h k else false
theorem onBreak_inv {py : Stmt} {k : Pos → Bool} (h : onBreak py k = true) : ∃ p, py = .Break p ∧ k p = true := by
  by_cases q : py.ctorIdx = 26
  · exact Stmt.Break.elim (motive_2 := fun py => onBreak py k = true → ∃ p, py = .Break p ∧ k p = true) py q (fun p hk => ⟨p, rfl, hk⟩) h
  · unfold onBreak at h
    rw [dif_neg q] at h
    cases h
mutual
noncomputable def mE (g : Gm) : Ex → Expr → Bool
  | .none, py => onConst py fun c _ _ => (match c with | .none => true | _ => false)
  | .bool b, py => onConst py fun c _ _ => (match c with | .bool b' => b == b' | _ => false)
  | .int i, py => onConst py fun c _ _ => (match c with | .int j => i == j | _ => false)
  | .str x, py => onConst py fun c _ _ => (match c with | .str y => x == y && PyData.strOk x && decide (x.length ≤ sizeLine) | _ => false)
  | .loc i, py => onName py fun x _ => g.lv x i
  | .fz i, py => onName py fun x _ => g.lv x i
  | .bin op a b, py => onBin py fun l o r _ => decide (o = opM op) && mE g a l && mE g b r
  | .cmp op a b, py => onCmp py fun l os rs _ => (match os, rs with | [o], [r] => decide (o = cmM op) && notSet r && mE g a l && mE g b r | _, _ => false)
  | .chain a o1 b o2 c, py => onCmp py fun l os rs _ => (match os, rs with | [p1, p2], [m, r] => decide (p1 = cmM o1) && decide (p2 = cmM o2) && notSet r && mE g a l && mE g b m && mE g c r | _, _ => false)
  | .band a b, py => onBoolOp py fun o vs p => (match o, vs with
    | .And, [x, y] => mE g a x && mE g b y
    | .And, (x :: y :: z :: r) => mE g a x && mE g b (.BoolOp .And (y :: z :: r) p)
    | _, _ => false)
  | .bor a b, py => onBoolOp py fun o vs p => (match o, vs with
    | .Or, [x, y] => mE g a x && mE g b y
    | .Or, (x :: y :: z :: r) => mE g a x && mE g b (.BoolOp .Or (y :: z :: r) p)
    | _, _ => false)
  | .not a, py => onUn py fun o x _ => (match o with | .Not => mE g a x | _ => false)
  | .neg i, py => onUn py fun o x _ => (match o with | .USub => onConst x fun c _ _ => (match c with | .int j => i == j | _ => false) | _ => false)
  | .ite c a b, py => onIfE py fun t x y _ => mE g c t && mE g a x && mE g b y
  | .tup es, py => onTup py fun xs _ _ => mEs g es xs
  | .list es, py => onList py fun xs _ => mEs g es xs
  | .listM es, py => onList py fun xs _ => mEs g es xs
  | .sub a i, py => onSub py fun v s _ => notSlice s && mE g a v && mE g i s
  | .slice a lo hi, py => onSub py fun v s _ => onSlice s fun l u st _ => (match st with | none => mE g a v && mO g lo l && mO g hi u | _ => false)
  | .isin a t, py => onCall py fun f as ks _ => onName f fun f _ => (match as, ks with | [x, y], [] => onName y fun tn _ => f == ("isinstance" : Str) && g.gl f && tn == Str.ofString (tyN t) && g.gl tn && mE g a x | _, _ => false)
  | .bi f a, py => onCall py fun h as ks _ => onName h fun n _ => (match as, ks with | [x], [] => n == Str.ofString (biName f) && g.gl n && mE g a x | _, _ => false)
  | .me m a b, py => onCall py fun h as ks pos => onAttr h fun o n apos => (match as, ks with | [x], [] => n == Str.ofString (meName m) && apos.endLine == pos.line && plainRecv o && mE g a o && mE g b x | _, _ => false)
  | .call f es, py => onCall py fun h xs ks _ => onName h fun n _ => (match ks with | [] => n == f && plainF n && g.gl n && mEs g es xs && decide (xs.length < 10) | _ => false)
  | .callB f es, py => onCall py fun h xs ks _ => onName h fun n _ => (match ks with | [] => n == f && plainF n && g.gl n && mEs g es xs && decide (xs.length < 10) | _ => false)
  | .dictM, py => onDict py fun ks vs _ => ks.isEmpty && vs.isEmpty
  | .attr a k, py => onAttr py fun o n _ => decide (attrNames[k]? = some n) && plainRecv o && mE g a o
  | .newI, py => onCall py fun h as ks _ => onName h fun n _ => (match as, ks with | [], [] => n == clsName && g.gl n | _, _ => false)
  | .lenSet a, py => onCall py fun h as ks _ => onName h fun n _ => (match as, ks with | [x], [] => onCall x fun h' as' ks' _ => onName h' fun n' _ => (match as', ks' with | [y], [] => n == ("len" : Str) && g.gl n && n' == ("set" : Str) && g.gl n' && mE g a y | _, _ => false) | _, _ => false)
  | .minD a, py => onCall py fun h as ks _ => onName h fun n _ => (match as, ks with | [x], [⟨some d, v, _⟩] => onConst v fun c _ _ => (match c with | .none => n == ("min" : Str) && g.gl n && d == ("default" : Str) && mE g a x | _ => false) | _, _ => false)
  | .min2 a b, py => onCall py fun h as ks _ => onName h fun n _ => (match as, ks with | [x, y], [] => n == ("min" : Str) && g.gl n && mE g a x && mE g b y | _, _ => false)
  | .glob x i, py => onName py fun y _ => y == x && g.gl y && decide (g.gs.lookup y = some i)
  | .callZ f es, py => onCall py fun h xs ks _ => onName h fun n _ => (match ks with | [] => n == f && plainF n && g.gl n && mEs g es xs && decide (xs.length < 10) | _ => false)
  | .comp elt k it ifs, py => onLC py fun e gs scope _ => (match gs with | [⟨t, iter, fs, as⟩] => onName t fun x _ => decide (as = 0) && compOk g scope x k && mI g it iter && mE (g.comp scope x k) elt e && mEs (g.comp scope x k) ifs fs | _ => false)
noncomputable def mEs (g : Gm) : Exs → List Expr → Bool
  | .nil, py => py.isEmpty
  | .cons e es, py => (match py with | x :: xs => mE g e x && mEs g es xs | [] => false)
noncomputable def mO (g : Gm) : Exo → Option Expr → Bool
  | .none, py => py.isNone
  | .some e, py => (match py with | some x => mE g e x | none => false)
noncomputable def mI (g : Gm) : It → Expr → Bool
  | .val e, x => mE g e x
  | .range1 a, py => onCall py fun h as ks _ => onName h fun n _ => (match as, ks with | [x], [] => n == ("range" : Str) && g.gl n && mE g a x | _, _ => false)
  | .range2 a b, py => onCall py fun h as ks _ => onName h fun n _ => (match as, ks with | [x, y], [] => n == ("range" : Str) && g.gl n && mE g a x && mE g b y | _, _ => false)
  | .enum a, _ => false
  | .zip _ _, _ => false
end

noncomputable def mT (g : Gm) : List Nat → List Expr → Bool
  | [], py => py.isEmpty
  | i :: is, py => (match py with | t :: xs => onName t fun x _ => g.lv x i && mT g is xs | [] => false)
noncomputable def mZ (g : Gm) (it : It) (py : Expr) : Bool := match it with
  | .enum a => onCall py fun h as ks _ => onName h fun n _ => (match as, ks with | [x], [] => n == ("enumerate" : Str) && g.gl n && mE g a x | _, _ => false)
  | .zip a b => onCall py fun h as ks _ => onName h fun n _ => (match as, ks with | [x, y], [] => n == ("zip" : Str) && g.gl n && mE g a x && mE g b y | _, _ => false)
  | _ => false
noncomputable def isComp : Expr → Bool
  | .ListComp .. | .SetComp .. | .DictComp .. => true
  | _ => false
/-- a value that may be unpacked: a call, a name, an item -/
noncomputable def tupVal (v : Expr) : Bool := v.ctorIdx == 16 || v.ctorIdx == 23 || v.ctorIdx == 21
mutual
noncomputable def mS (g : Gm) : Sm → Stmt → Bool
  | .asg i e, py => onAssign py fun ts v _ => (match ts with | [t] => onName t fun x _ => g.lv x i && mE g e v && (!isComp v || v.ctorIdx == 8) | _ => false)
  | .asgT is e, py => onAssign py fun ts v _ => (match ts with | [t] => onTup t fun ts _ _ => mT g is ts && mE g e v && tupVal v | _ => false)
  | .expr e, py => onExprS py fun v _ => mE g e v && !isComp v
  | .ret e, py => onRet py fun v _ => (match v with | some v => mE g e v | none => false)
  | .ifte c t f, py => onIfS py fun x a b _ => mE g c x && mSs g t a && mSs g f b
  | .for1 i it body, py => onFor py fun t iter b o _ => onName t fun x _ => (match o with | [] => g.lv x i && mI g it iter && mSs g body b | _ => false)
  | .forT is it body, py => onFor py fun t iter b o _ => onTup t fun ts _ _ => (match o with | [] => mT g is ts && mZ g it iter && mSs g body b | _ => false)
  | .while c body, py => onWhile py fun x b o _ => (match o with | [] => mE g c x && mSs g body b | _ => false)
  | .brk, py => onBreak py fun _ => true
  | .stk, _ => true
  | .asgI a i e, py => onAssign py fun ts v _ => (match ts with | [t] => onSub t fun o j _ => mE g a o && mE g i j && mE g e v && !isComp v | _ => false)
  | .asgA a k e, py => onAssign py fun ts v _ => (match ts with | [t] => onAttr t fun o n _ => decide (attrNames[k]? = some n) && mE g a o && mE g e v && !isComp v | _ => false)
  | .forD i e body, py => onFor py fun t iter b o _ => onName t fun x _ => (match o with | [] => g.lv x i && mE g e iter && mSs g body b | _ => false)
noncomputable def mSs (g : Gm) : Sms → List Stmt → Bool
  | .nil, py => py.isEmpty
  | .cons s ss, py => (match py with | x :: xs => mS g s x && mSs g ss xs | [] => false)
end
end Mine
namespace Mine
open PySem
theorem m_bool (g b b' k p) : mE g (.bool b) (.Constant (.bool b') k p) = (b == b') := Eq.trans rfl rfl
theorem m_int (g i j k p) : mE g (.int i) (.Constant (.int j) k p) = (i == j) := Eq.trans rfl rfl
theorem m_str (g x y k p) : mE g (.str x) (.Constant (.str y) k p) = (x == y && PyData.strOk x && decide (x.length ≤ sizeLine)) := Eq.trans rfl rfl
theorem m_loc (g i x p) : mE g (.loc i) (.Name x p) = g.lv x i := Eq.trans rfl rfl
theorem m_fz (g i x p) : mE g (.fz i) (.Name x p) = g.lv x i := Eq.trans rfl rfl
theorem m_glob (g x i y p) : mE g (.glob x i) (.Name y p) = (y == x && g.gl y && decide (g.gs.lookup y = some i)) := Eq.trans rfl rfl
theorem m_bin (g op a b l o r p) : mE g (.bin op a b) (.BinOp l o r p) = (decide (o = opM op) && mE g a l && mE g b r) := Eq.trans rfl rfl
theorem m_cmp (g op a b l o r p) : mE g (.cmp op a b) (.Compare l [o] [r] p) = (decide (o = cmM op) && notSet r && mE g a l && mE g b r) := Eq.trans rfl rfl
theorem m_chain (g a o1 b o2 c l p1 p2 m r p) : mE g (.chain a o1 b o2 c) (.Compare l [p1, p2] [m, r] p) = (decide (p1 = cmM o1) && decide (p2 = cmM o2) && notSet r && mE g a l && mE g b m && mE g c r) := Eq.trans rfl rfl
theorem m_band2 (g a b x y p) : mE g (.band a b) (.BoolOp .And [x, y] p) = (mE g a x && mE g b y) := Eq.trans rfl rfl
theorem m_band3 (g a b x y z r p) : mE g (.band a b) (.BoolOp .And (x :: y :: z :: r) p) = (mE g a x && mE g b (.BoolOp .And (y :: z :: r) p)) := Eq.trans rfl rfl
theorem m_bor2 (g a b x y p) : mE g (.bor a b) (.BoolOp .Or [x, y] p) = (mE g a x && mE g b y) := Eq.trans rfl rfl
theorem m_bor3 (g a b x y z r p) : mE g (.bor a b) (.BoolOp .Or (x :: y :: z :: r) p) = (mE g a x && mE g b (.BoolOp .Or (y :: z :: r) p)) := Eq.trans rfl rfl
theorem m_not (g a x p) : mE g (.not a) (.UnaryOp .Not x p) = mE g a x := Eq.trans rfl rfl
theorem m_neg (g i j k p q) : mE g (.neg i) (.UnaryOp .USub (.Constant (.int j) k p) q) = (i == j) := Eq.trans rfl rfl
theorem m_ite (g c a b t x y p) : mE g (.ite c a b) (.IfExp t x y p) = (mE g c t && mE g a x && mE g b y) := Eq.trans rfl rfl
theorem m_tup (g es xs k p) : mE g (.tup es) (.Tuple xs k p) = mEs g es xs := Eq.trans rfl rfl
theorem m_list (g es xs p) : mE g (.list es) (.List xs p) = mEs g es xs := Eq.trans rfl rfl
theorem m_listM (g es xs p) : mE g (.listM es) (.List xs p) = mEs g es xs := Eq.trans rfl rfl
theorem m_sub (g a i v s p) : mE g (.sub a i) (.Subscript v s p) = (notSlice s && mE g a v && mE g i s) := Eq.trans rfl rfl
theorem m_slice (g a lo hi v l u q p) : mE g (.slice a lo hi) (.Subscript v (.Slice l u none q) p) = (mE g a v && mO g lo l && mO g hi u) := Eq.trans rfl rfl
theorem m_isin (g a t f q x tn q' p) : mE g (.isin a t) (.Call (.Name f q) [x, .Name tn q'] [] p) = (f == ("isinstance" : Str) && g.gl f && tn == Str.ofString (tyN t) && g.gl tn && mE g a x) := Eq.trans rfl rfl
theorem m_bi (g f a n q x p) : mE g (.bi f a) (.Call (.Name n q) [x] [] p) = (n == Str.ofString (biName f) && g.gl n && mE g a x) := Eq.trans rfl rfl
theorem m_me (g m a b o n q x p) : mE g (.me m a b) (.Call (.Attribute o n q) [x] [] p) = (n == Str.ofString (meName m) && q.endLine == p.line && plainRecv o && mE g a o && mE g b x) := Eq.trans rfl rfl
theorem m_call (g f es n q xs p) : mE g (.call f es) (.Call (.Name n q) xs [] p) = (n == f && plainF n && g.gl n && mEs g es xs && decide (xs.length < 10)) := Eq.trans rfl rfl
theorem m_comp (g elt k it ifs e x q iter fs as scope p) : mE g (.comp elt k it ifs) (.ListComp e [⟨.Name x q, iter, fs, as⟩] scope p) = (decide (as = 0) && compOk g scope x k && mI g it iter && mE (g.comp scope x k) elt e && mEs (g.comp scope x k) ifs fs) := Eq.trans rfl rfl
theorem m_attr (g a k o n p) : mE g (.attr a k) (.Attribute o n p) = (decide (attrNames[k]? = some n) && plainRecv o && mE g a o) := Eq.trans rfl rfl
theorem m_newI (g n q p) : mE g .newI (.Call (.Name n q) [] [] p) = (n == clsName && g.gl n) := Eq.trans rfl rfl
theorem m_lenSet (g a n q n' q' y p p') : mE g (.lenSet a) (.Call (.Name n q) [.Call (.Name n' q') [y] [] p'] [] p) = (n == ("len" : Str) && g.gl n && n' == ("set" : Str) && g.gl n' && mE g a y) := Eq.trans rfl rfl
theorem m_minD (g a n q x d k r r' p) : mE g (.minD a) (.Call (.Name n q) [x] [⟨some d, .Constant .none k r, r'⟩] p) = (n == ("min" : Str) && g.gl n && d == ("default" : Str) && mE g a x) := Eq.trans rfl rfl
theorem m_min2 (g a b n q x y p) : mE g (.min2 a b) (.Call (.Name n q) [x, y] [] p) = (n == ("min" : Str) && g.gl n && mE g a x && mE g b y) := Eq.trans rfl rfl
theorem m_asgA (g a k e o n q v p) : mS g (.asgA a k e) (.Assign [.Attribute o n q] v p) = (decide (attrNames[k]? = some n) && mE g a o && mE g e v && !isComp v) := Eq.trans rfl rfl
theorem m_forD (g i e body x q iter b p) : mS g (.forD i e body) (.For (.Name x q) iter b [] p) = (g.lv x i && mE g e iter && mSs g body b) := Eq.trans rfl rfl
theorem m_nil (g py) : mEs g .nil py = py.isEmpty := Eq.trans rfl rfl
theorem m_cons (g e es x xs) : mEs g (.cons e es) (x :: xs) = (mE g e x && mEs g es xs) := Eq.trans rfl rfl
theorem m_onone (g py) : mO g .none py = py.isNone := Eq.trans rfl rfl
theorem m_osome (g e x) : mO g (.some e) (some x) = mE g e x := Eq.trans rfl rfl
theorem m_val (g e x) : mI g (.val e) x = mE g e x := Eq.trans rfl rfl
theorem m_range1 (g a n q x p) : mI g (.range1 a) (.Call (.Name n q) [x] [] p) = (n == ("range" : Str) && g.gl n && mE g a x) := Eq.trans rfl rfl
theorem m_range2 (g a b n q x y p) : mI g (.range2 a b) (.Call (.Name n q) [x, y] [] p) = (n == ("range" : Str) && g.gl n && mE g a x && mE g b y) := Eq.trans rfl rfl
theorem m_enum (g a n q x p) : mZ g (.enum a) (.Call (.Name n q) [x] [] p) = (n == ("enumerate" : Str) && g.gl n && mE g a x) := Eq.trans rfl rfl
theorem m_zip (g a b n q x y p) : mZ g (.zip a b) (.Call (.Name n q) [x, y] [] p) = (n == ("zip" : Str) && g.gl n && mE g a x && mE g b y) := Eq.trans rfl rfl
theorem m_asg (g i e x p v q) : mS g (.asg i e) (.Assign [.Name x p] v q) = (g.lv x i && mE g e v && (!isComp v || v.ctorIdx == 8)) := Eq.trans rfl rfl
theorem m_asgT (g is e ts k q v p) : mS g (.asgT is e) (.Assign [.Tuple ts k q] v p) = (mT g is ts && mE g e v && tupVal v) := Eq.trans rfl rfl
theorem m_asgI (g a i e o j q v p) : mS g (.asgI a i e) (.Assign [.Subscript o j q] v p) = (mE g a o && mE g i j && mE g e v && !isComp v) := Eq.trans rfl rfl
theorem m_expr (g e v p) : mS g (.expr e) (.Expr v p) = (mE g e v && !isComp v) := Eq.trans rfl rfl
theorem m_ret (g e v p) : mS g (.ret e) (.Return (some v) p) = mE g e v := Eq.trans rfl rfl
theorem m_ifte (g c t f x a b p) : mS g (.ifte c t f) (.If x a b p) = (mE g c x && mSs g t a && mSs g f b) := Eq.trans rfl rfl
theorem m_for1 (g i it body x q iter b p) : mS g (.for1 i it body) (.For (.Name x q) iter b [] p) = (g.lv x i && mI g it iter && mSs g body b) := Eq.trans rfl rfl
theorem m_forT (g is it body ts k q iter b p) : mS g (.forT is it body) (.For (.Tuple ts k q) iter b [] p) = (mT g is ts && mZ g it iter && mSs g body b) := Eq.trans rfl rfl
theorem m_while (g c body x b p) : mS g (.while c body) (.While x b [] p) = (mE g c x && mSs g body b) := Eq.trans rfl rfl
theorem m_snil (g py) : mSs g .nil py = py.isEmpty := Eq.trans rfl rfl
theorem m_scons (g s ss x xs) : mSs g (.cons s ss) (x :: xs) = (mS g s x && mSs g ss xs) := Eq.trans rfl rfl
theorem m_tcons (g i is x q xs) : mT g (i :: is) (.Name x q :: xs) = (g.lv x i && mT g is xs) := Eq.trans rfl rfl
end Mine
namespace Mine
open PySem PySem.Calls PyProof.Rows

/-- the globals as the top left them -/
structure Gd (base : Heap) (mg mb : Str → Option Value) : Prop where
  g : base.Ns mainGlobals mg
  b : base.Ns builtinsNs mb
  blt : ∀ x : Str, x ≠ "__name__" → mb x = bootBuiltins x
  free : ∀ x ∈ (["isinstance", "len", "int", "bool", "list", "tuple", "str", "range", "enumerate", "zip", "set", "sorted", "min"] : List String), mg (Str.ofString x) = none

/-- the environment of a frame agrees with the names of the text -/
structure Nm (c : Cx) (g : Gm) : Prop where
  sc : c.env.scope = g.sc
  kind : g.sc.kind = .function
  glob : c.env.globals = mainGlobals
  blt : c.env.builtins = builtinsNs
  var : ∀ x i, g.vm.lookup x = some i → (g.sc.names.lookup x = some .local ∧ c.sl i = some (.d c.env.locals x)) ∨ (g.sc.names.lookup x = some .cell ∧ ∃ a, c.env.cells.lookup x = some a ∧ c.sl i = some (.c a))
  apart : ∀ i j s, c.sl i = some s → c.sl j = some s → i = j
  dom : ∀ i s, c.sl i = some s → i ∈ g.used
  cells : ∀ x, g.sc.names.lookup x = some .cell → ∃ a, c.env.cells.lookup x = some a

noncomputable def Cx.bare (c : Cx) : Cx := { c with sl := fun _ => none }
structure AOk (n : Nat) (A : Around) : Prop where
  hh : A.handled = none
  depth : A.depth + n + 110 ≤ recursionLimit
  units : A.units + 4 * n + 200 ≤ cLine
  frames : ∃ l, A.frames = some l

/-- calls do what F says -/
noncomputable def CallOk (n : Nat) (prog : Program) (w : World) (base : Heap) (mg : Str → Option Value) (F : Fn) : Prop :=
  ∀ f args σ r st', F f args σ = .ok r st' → plainF f = true → ∃ a o fd, mg f = some (.ref a) ∧ base.get? a = some o ∧ o.data = .func fd ∧
    ∀ (c : Cx) μ (s : Shared) vs, c.prog = prog → c.w = w → c.base = base → AOk n c.A → Inv c.bare ⟨[], σ⟩ μ s.heap → RepVs (Tr σ μ) μ s.heap vs args →
      wpAny (model c.prog c.w) c.A (call (.ref a) vs) (fun v s' => ∃ μ', RepV (Tr st'.σ μ') μ' s'.heap v r ∧ Inv c.bare ⟨[], st'.σ⟩ μ' s'.heap ∧ Stp c.bare σ μ s.heap st'.σ μ' s'.heap ∧ Same s s') (fun _ _ => False) s

/-- the class of the instances -/
noncomputable def ClsOk (base : Heap) (C : Addr) : Prop := ∃ N mN, ClsAt base C N mN ∧ mN "__getattribute__" = none ∧ mN "__setattr__" = none ∧ ∀ y ∈ attrNames, mN y = none
structure FnOk (n : Nat) (prog : Program) (w : World) (base : Heap) (mg : Str → Option Value) (F : Fn) : Prop where
  fn : CallOk n prog w base mg F
  cls : ∀ C : Nat, clsF F = some (C : Int) → ClsOk base C
  new : ∀ σ r st', F clsName [] σ = .ok r st' → ∃ C, mg clsName = some (.ref C) ∧ ClsOk base C ∧ ∀ (c : Cx) μ (s : Shared), c.prog = prog → c.w = w → c.base = base → AOk n c.A → Inv c.bare ⟨[], σ⟩ μ s.heap →
      wpAny (model c.prog c.w) c.A (call (.ref C) []) (fun v s' => ∃ μ', RepV (Tr st'.σ μ') μ' s'.heap v r ∧ Inv c.bare ⟨[], st'.σ⟩ μ' s'.heap ∧ Stp c.bare σ μ s.heap st'.σ μ' s'.heap ∧ Same s s') (fun _ _ => False) s

structure Good (n : Nat) (mg mb : Str → Option Value) (c : Cx) (g : Gm) : Prop where
  ok : CxOk c
  gd : Gd c.base mg mb
  nm : Nm c g
  a : AOk n c.A
  gs : ∀ x i, g.gs.lookup x = some i → ∃ t, mg x = some (.int i t)

theorem Own_bare {c : Cx} {b : Addr} : ¬ Own c.bare b := fun ⟨_, _, h, _⟩ => by cases h
theorem Inv.bare {c : Cx} {st : St} {μ : List Addr} {h : Heap} (I : Inv c st μ h) : Inv c.bare ⟨[], st.σ⟩ μ h where
  vars := fun i x q => by simp at q
  slots := fun i s q => by cases q
  objs := I.objs
  len := I.len
  nd := I.nd
  lt := I.lt
  base := I.base
  baseS := fun b q => (Own_bare q).elim
  baseM := I.baseM
  sep := fun b q => (Own_bare q).elim
theorem Own_get {c : Cx} {st : St} {μ : List Addr} {h : Heap} (I : Inv c st μ h) {b : Addr} (q : Own c b) : ∃ o, h.get? b = some o := by
  obtain ⟨i, s, hs, rfl⟩ := q
  obtain ⟨o, ho, _⟩ := (I.slots i s hs).get
  exact ⟨o, ho⟩
/-- back from a call -/
theorem Inv.back {c : Cx} {st : St} {μ μ' : List Addr} {σ' : List O} {h h' : Heap} (I : Inv c st μ h) (I' : Inv c.bare ⟨[], σ'⟩ μ' h') (S : Stp c.bare st.σ μ h σ' μ' h') :
    Inv c ⟨st.ρ, σ'⟩ μ' h' ∧ Stp c st.σ μ h σ' μ' h' := by
  have S' : Stp c st.σ μ h σ' μ' h' := ⟨S.size, fun b o e _ hT => S.keep b o e Own_bare hT, S.pre, S.tr, S.new, S.pv, S.pk⟩
  have kp : ∀ b, Own c b → ∀ o, h.get? b = some o → h'.get? b = some o := fun b q o e => S.keep b o e Own_bare fun t => I.sep b q t.mem
  refine ⟨⟨fun i x q => ?_, fun i s q => (I.slots i s q).keeps (kp _ ⟨i, s, q, rfl⟩), I'.objs, I'.len, I'.nd, I'.lt, I'.base, I.baseS, I'.baseM, fun b q m => ?_⟩, S'⟩
  · obtain ⟨s, v, h1, h2, h3⟩ := I.vars i x q
    exact ⟨s, v, h1, h2.keeps (kp _ ⟨i, s, h1, rfl⟩), h3.step (st' := ⟨st.ρ, σ'⟩) I S'⟩
  · rcases S.new b m with k | k
    · exact I.sep b q k
    · obtain ⟨o, ho⟩ := Own_get I q
      exact Nat.lt_irrefl _ (Nat.lt_of_lt_of_le (Heap.lt_size ho) k)

noncomputable def EOk (n : Nat) (mg mb : Str → Option Value) (prog : Program) (w : World) (base : Heap) (F : Fn) (e : Ex) : Prop :=
  ∀ (g : Gm) (py : Expr) (c : Cx) (st : St) (μ : List Addr) (s : Shared), c.prog = prog → c.w = w → c.base = base → mE g e py = true → Good n mg mb c g → Inv c st μ s.heap → Sim c (eval py c.env) (evE F e st) rV st.σ μ s
noncomputable def EsOk (n : Nat) (mg mb : Str → Option Value) (prog : Program) (w : World) (base : Heap) (F : Fn) (es : Exs) : Prop :=
  ∀ (g : Gm) (py : List Expr) (c : Cx) (st : St) (μ : List Addr) (s : Shared) (pos : Pos), c.prog = prog → c.w = w → c.base = base → mEs g es py = true → Good n mg mb c g → Inv c st μ s.heap →
    Sim c (spliced (backTo pos (starEach py c.env))) (evEs F es st) rVs st.σ μ s

section
variable {n : Nat} {mg mb : Str → Option Value} {prog : Program} {w : World} {base : Heap} {F : Fn}

theorem mE_notStar {g : Gm} {e : Ex} {py : Expr} (h : mE g e py = true) : ∀ (rest : List Expr) (env : Env), starEach (py :: rest) env = (false, eval py env) :: starEach rest env := by
  intro rest env
  cases py <;> first | rfl | (cases e <;> exact absurd h Bool.false_ne_true)

theorem snd_none : EOk n mg mb prog w base F .none := by
  intro g py c st μ s _ _ _ hm hg I
  obtain ⟨k, _, _, rfl, _⟩ := onConst_inv hm
  cases k <;> try (exact absurd hm Bool.false_ne_true)
  exact Sim.leaf I (fun _ _ _ => ⟨.refl, .refl, .none⟩)
theorem snd_bool {b : Bool} : EOk n mg mb prog w base F (.bool b) := by
  intro g py c st μ s _ _ _ hm hg I
  obtain ⟨k, _, _, rfl, _⟩ := onConst_inv hm
  cases k <;> try (exact absurd hm Bool.false_ne_true)
  simp [m_bool, m_int, m_str, m_loc, m_fz, m_bin, m_cmp, m_chain, m_band2, m_band3, m_bor2, m_bor3, m_not, m_neg, m_ite, m_tup, m_list, m_listM, m_sub, m_slice, m_isin, m_bi, m_me, m_call, m_comp, m_nil, m_cons, m_onone, m_osome, m_val, m_range1, m_range2, m_zip, m_asg, m_expr, m_ret, m_ifte, m_for1, m_forT, m_while, m_snil, m_scons, m_tcons] at hm
  subst hm
  exact Sim.leaf I (fun _ _ _ => ⟨.refl, .refl, .bool _⟩)
theorem snd_int {i : Int} : EOk n mg mb prog w base F (.int i) := by
  intro g py c st μ s _ _ _ hm hg I
  obtain ⟨k, _, _, rfl, _⟩ := onConst_inv hm
  cases k <;> try (exact absurd hm Bool.false_ne_true)
  simp [m_bool, m_int, m_str, m_loc, m_fz, m_bin, m_cmp, m_chain, m_band2, m_band3, m_bor2, m_bor3, m_not, m_neg, m_ite, m_tup, m_list, m_listM, m_sub, m_slice, m_isin, m_bi, m_me, m_call, m_comp, m_nil, m_cons, m_onone, m_osome, m_val, m_range1, m_range2, m_zip, m_asg, m_expr, m_ret, m_ifte, m_for1, m_forT, m_while, m_snil, m_scons, m_tcons] at hm
  subst hm
  exact leaf_int I fun Q hq => wpAny_Constant_int (hq _ _)
theorem snd_str {x : Str} : EOk n mg mb prog w base F (.str x) := by
  intro g py c st μ s _ _ _ hm hg I
  obtain ⟨k, _, _, rfl, _⟩ := onConst_inv hm
  cases k <;> try (exact absurd hm Bool.false_ne_true)
  simp [m_bool, m_int, m_str, m_loc, m_fz, m_bin, m_cmp, m_chain, m_band2, m_band3, m_bor2, m_bor3, m_not, m_neg, m_ite, m_tup, m_list, m_listM, m_sub, m_slice, m_isin, m_bi, m_me, m_call, m_comp, m_nil, m_cons, m_onone, m_osome, m_val, m_range1, m_range2, m_zip, m_asg, m_expr, m_ret, m_ifte, m_for1, m_forT, m_while, m_snil, m_scons, m_tcons] at hm
  obtain ⟨⟨rfl, h1⟩, h2⟩ := hm
  exact leaf_str I h1 h2 rfl fun Q hq => wpAny_Constant_str (hq _ _)

theorem lv_spec {g : Gm} {x : Str} {i : Nat} (h : g.lv x i = true) : g.vm.lookup x = some i ∧ (x == ("__debug__" : Str)) = false := by
  simpa [Gm.lv, plainNm] using h
theorem gl_spec {g : Gm} {x : Str} (h : g.gl x = true) : g.sc.names.lookup x = some .globalImplicit ∧ (x == ("__debug__" : Str)) = false := by
  simpa [Gm.gl, plainNm] using h

/-- a local is read -/
theorem load_var {c : Cx} {g : Gm} {st : St} {μ : List Addr} {s : Shared} {x : Str} {i : Nat} {pos : Pos} {y : V} (N : Nm c g) (hl : g.lv x i = true) (I : Inv c st μ s.heap) (hv : st.ρ[i]? = some (some y)) :
    ∃ v, RepV (Tr st.σ μ) μ s.heap v y ∧ ∀ (Q : Value → Shared → Prop) (E : Value → Shared → Prop), Q v s → wpAny (model c.prog c.w) c.A (eval (.Name x pos) c.env) Q E s := by
  obtain ⟨h1, h2⟩ := lv_spec hl
  obtain ⟨sl, v, g1, g2, g3⟩ := I.vars i y hv
  refine ⟨v, g3, fun Q E hq => wpAny_Name ?_ h2⟩
  have hk : c.env.scope.kind = .function := by rw [N.sc]; exact N.kind
  rcases N.var x i h1 with ⟨k1, k2⟩ | ⟨k1, a, k2, k3⟩
  · obtain rfl := Option.some.inj (k2.symm.trans g1)
    obtain ⟨m, hm, e⟩ := g2
    exact wpAny_loadName_local hk (by unfold Env.kindOf; rw [N.sc]; exact k1) hm e hq
  · obtain rfl := Option.some.inj (k3.symm.trans g1)
    exact wpAny_loadName_cell hk (by unfold Env.kindOf; rw [N.sc]; exact k1) k2 g2 hq

theorem snd_loc {i : Nat} : EOk n mg mb prog w base F (.loc i) := by
  intro g py c st μ s _ _ _ hm hg I
  obtain ⟨_, _, rfl, _⟩ := onName_inv hm
  simp [m_bool, m_int, m_str, m_loc, m_fz, m_bin, m_cmp, m_chain, m_band2, m_band3, m_bor2, m_bor3, m_not, m_neg, m_ite, m_tup, m_list, m_listM, m_sub, m_slice, m_isin, m_bi, m_me, m_call, m_comp, m_nil, m_cons, m_onone, m_osome, m_val, m_range1, m_range2, m_zip, m_asg, m_expr, m_ret, m_ifte, m_for1, m_forT, m_while, m_snil, m_scons, m_tcons] at hm
  simp only [qvE_none, qvE_bool, qvE_int, qvE_str, qvE_loc, qvE_fz, qvE_bin, qvE_cmp, qvE_chain, qvE_band, qvE_bor, qvE_not, qvE_neg, qvE_ite, qvE_tup, qvE_list, qvE_listM, qvE_sub, qvE_slice, qvE_isin, qvE_bi, qvE_me, qvE_call, qvE_callB, qvE_callZ, qvE_comp]
  split
  · rename_i y hv
    obtain ⟨v, r, h⟩ := load_var hg.nm hm I hv
    exact leaf_val I r fun Q hq => h _ _ (hq _)
  · trivial

/-- a tracked list is taken as frozen from here on -/
theorem Inv.freeze {c : Cx} {st : St} {μ : List Addr} {h : Heap} (I : Inv c st μ h) {i n : Nat} {xs : List V} (hv : st.ρ[i]? = some (some (.ref n))) (hn : st.σ[n]? = some (.lst xs)) :
    Inv c ⟨st.ρ.set i (some (.lst xs)), st.σ.set n .dead⟩ μ h ∧ Stp c st.σ μ h (st.σ.set n .dead) μ h ∧
      ∀ v, RepV (Tr st.σ μ) μ h v (.ref n) → RepV (Tr (st.σ.set n .dead) μ) μ h v (.lst xs) := by
  have sub : ∀ b, Tr (st.σ.set n .dead) μ b → Tr st.σ μ b := by
    rintro b ⟨k, o, e1, e2, e3⟩
    by_cases hk : n = k
    · subst hk
      have : n < st.σ.length := (List.getElem?_eq_some_iff.mp hn).1
      have e4 : O.dead = o := by simpa [this] using e1
      subst e4; cases e2
    · rw [List.getElem?_set_ne hk] at e1; exact ⟨k, o, e1, e2, e3⟩
  have S : Stp c st.σ μ h (st.σ.set n .dead) μ h := ⟨Nat.le_refl _, fun _ _ e _ _ => e, fun _ _ e => e, fun b q => .inl (sub b q), fun _ q => .inl q, pv_set hn (by simp), fun _ _ _ _ _ e => e⟩
  have mv : ∀ {v : Value} {x : V}, RepV (Tr st.σ μ) μ h v x → RepV (Tr (st.σ.set n .dead) μ) μ h v x := fun r => r.move (fun a o e _ hT => ⟨e, fun q => hT (sub a q)⟩) fun _ _ q => q
  have mvs : ∀ {v : List Value} {x : List V}, RepVs (Tr st.σ μ) μ h v x → RepVs (Tr (st.σ.set n .dead) μ) μ h v x := fun r => r.move (fun a o e _ hT => ⟨e, fun q => hT (sub a q)⟩) fun _ _ q => q
  have fr : ∀ v, RepV (Tr st.σ μ) μ h v (.ref n) → RepV (Tr (st.σ.set n .dead) μ) μ h v (.lst xs) := by
    intro v r
    cases r with
    | ref ha =>
      obtain ⟨a', ha', ro⟩ := I.objs n _ hn
      obtain rfl := Option.some.inj (ha.symm.trans ha')
      obtain ⟨vs, nn, ho, hz, r⟩ := ro.lst_inv
      refine .lst ho rfl rfl hz ?_ (mvs r)
      rintro ⟨k, o, e1, e2, e3⟩
      have : n = k := (List.getElem?_inj (List.getElem?_eq_some_iff.mp ha).1 I.nd).mp (ha.trans e3.symm)
      subst this
      have hlt : n < st.σ.length := (List.getElem?_eq_some_iff.mp hn).1
      have e4 : O.dead = o := by simpa [hlt] using e1
      subst e4; cases e2
  refine ⟨⟨fun j x q => ?_, I.slots, fun k o q => ?_, by simpa using I.len, I.nd, I.lt, I.base, I.baseS, I.baseM, I.sep⟩, S, fr⟩
  · dsimp only at q ⊢
    by_cases hj : i = j
    · subst hj
      have hlt : i < st.ρ.length := (List.getElem?_eq_some_iff.mp hv).1
      have e4 : V.lst xs = x := by simpa [hlt] using q
      subst e4
      obtain ⟨s, v, g1, g2, g3⟩ := I.vars i _ hv
      exact ⟨s, v, g1, g2, fr v g3⟩
    · rw [List.getElem?_set_ne hj] at q
      obtain ⟨s, v, g1, g2, g3⟩ := I.vars j x q
      exact ⟨s, v, g1, g2, mv g3⟩
  · dsimp only at q ⊢
    by_cases hk : n = k
    · subst hk
      have hlt : n < st.σ.length := (List.getElem?_eq_some_iff.mp hn).1
      have e4 : O.dead = o := by simpa [hlt] using q
      subst e4
      obtain ⟨a, ha, _⟩ := I.objs n _ hn
      exact ⟨a, ha, .dead⟩
    · rw [List.getElem?_set_ne hk] at q
      obtain ⟨a, ha, r⟩ := I.objs k o q
      refine ⟨a, ha, ?_⟩
      cases r with
      | dead => exact .dead
      | priv => exact .priv
      | live ho L r => exact .live ho L (mvs r)

theorem snd_fz {i : Nat} : EOk n mg mb prog w base F (.fz i) := by
  intro g py c st μ s _ _ _ hm hg I
  obtain ⟨_, _, rfl, _⟩ := onName_inv hm
  simp [m_bool, m_int, m_str, m_loc, m_fz, m_bin, m_cmp, m_chain, m_band2, m_band3, m_bor2, m_bor3, m_not, m_neg, m_ite, m_tup, m_list, m_listM, m_sub, m_slice, m_isin, m_bi, m_me, m_call, m_comp, m_nil, m_cons, m_onone, m_osome, m_val, m_range1, m_range2, m_zip, m_asg, m_expr, m_ret, m_ifte, m_for1, m_forT, m_while, m_snil, m_scons, m_tcons] at hm
  simp only [qvE_none, qvE_bool, qvE_int, qvE_str, qvE_loc, qvE_fz, qvE_bin, qvE_cmp, qvE_chain, qvE_band, qvE_bor, qvE_not, qvE_neg, qvE_ite, qvE_tup, qvE_list, qvE_listM, qvE_sub, qvE_slice, qvE_isin, qvE_bi, qvE_me, qvE_call, qvE_callB, qvE_callZ, qvE_comp]
  split
  · rename_i k hv
    split
    · rename_i xs hn
      obtain ⟨v, r, h⟩ := load_var hg.nm hm I hv
      obtain ⟨I', S, fr⟩ := I.freeze hv hn
      exact h _ _ ⟨μ, fr v r, I', S, .refl⟩
    · trivial
  · trivial

theorem snd_bin {op : Op} {a b : Ex} (ha : EOk n mg mb prog w base F a) (hb : EOk n mg mb prog w base F b) : EOk n mg mb prog w base F (.bin op a b) := by
  intro g py c st μ s e1 e2 e3 hm hg I
  obtain ⟨_, _, _, _, rfl, _⟩ := onBin_inv hm
  simp [m_bool, m_int, m_str, m_loc, m_fz, m_bin, m_cmp, m_chain, m_band2, m_band3, m_bor2, m_bor3, m_not, m_neg, m_ite, m_tup, m_list, m_listM, m_sub, m_slice, m_isin, m_bi, m_me, m_call, m_comp, m_nil, m_cons, m_onone, m_osome, m_val, m_range1, m_range2, m_zip, m_asg, m_expr, m_ret, m_ifte, m_for1, m_forT, m_while, m_snil, m_scons, m_tcons] at hm
  obtain ⟨⟨rfl, h1⟩, h2⟩ := hm
  rw [eval_BinOp]
  simp only [qvE_none, qvE_bool, qvE_int, qvE_str, qvE_loc, qvE_fz, qvE_bin, qvE_cmp, qvE_chain, qvE_band, qvE_bor, qvE_not, qvE_neg, qvE_ite, qvE_tup, qvE_list, qvE_listM, qvE_sub, qvE_slice, qvE_isin, qvE_bi, qvE_me, qvE_call, qvE_callB, qvE_callZ, qvE_comp]
  refine Sim.bind (ha _ _ c st μ s e1 e2 e3 h1 hg I) fun x st₁ u μ₁ s₁ _ rx I₁ S₁ => ?_
  refine Sim.bind (Sim.holding (hb _ _ c st₁ μ₁ s₁ e1 e2 e3 h2 hg I₁)) fun y st₂ v μ₂ s₂ _ ry I₂ S₂ => ?_
  exact Sim.at (Sim.operate (sim_bin hg.ok I₂ (RepV.step I₁ S₂ rx) ry op))

theorem notSet_marks {op : CmpOp} {r : Expr} (h : notSet r = true) : behindInMarks op r = false := by
  cases r <;> first | rfl | (exact absurd h Bool.false_ne_true)

theorem snd_cmp {op : Cm} {a b : Ex} (ha : EOk n mg mb prog w base F a) (hb : EOk n mg mb prog w base F b) : EOk n mg mb prog w base F (.cmp op a b) := by
  intro g py c st μ s e1 e2 e3 hm hg I
  obtain ⟨l, ops, cs, pos, rfl, _⟩ := onCmp_inv hm
  match ops, cs, hm with
  | [o], [r], hm =>
    simp [m_bool, m_int, m_str, m_loc, m_fz, m_bin, m_cmp, m_chain, m_band2, m_band3, m_bor2, m_bor3, m_not, m_neg, m_ite, m_tup, m_list, m_listM, m_sub, m_slice, m_isin, m_bi, m_me, m_call, m_comp, m_nil, m_cons, m_onone, m_osome, m_val, m_range1, m_range2, m_zip, m_asg, m_expr, m_ret, m_ifte, m_for1, m_forT, m_while, m_snil, m_scons, m_tcons] at hm
    obtain ⟨⟨⟨rfl, h0⟩, h1⟩, h2⟩ := hm
    rw [eval_Compare1, markedBehindIn_of_false (notSet_marks h0)]
    simp only [qvE_none, qvE_bool, qvE_int, qvE_str, qvE_loc, qvE_fz, qvE_bin, qvE_cmp, qvE_chain, qvE_band, qvE_bor, qvE_not, qvE_neg, qvE_ite, qvE_tup, qvE_list, qvE_listM, qvE_sub, qvE_slice, qvE_isin, qvE_bi, qvE_me, qvE_call, qvE_callB, qvE_callZ, qvE_comp]
    refine Sim.bind (ha _ _ c st μ s e1 e2 e3 h1 hg I) fun x st₁ u μ₁ s₁ _ rx I₁ S₁ => ?_
    refine Sim.bind (Sim.holding (hb _ _ c st₁ μ₁ s₁ e1 e2 e3 h2 hg I₁)) fun y st₂ v μ₂ s₂ _ ry I₂ S₂ => ?_
    exact Sim.at (Sim.operate (sim_cmp hg.ok I₂ (RepV.step I₁ S₂ rx) ry op))
  | [], _, hm => exact absurd hm Bool.false_ne_true
  | [_], [], hm => exact absurd hm Bool.false_ne_true
  | [_], _ :: _ :: _, hm => exact absurd hm Bool.false_ne_true
  | _ :: _ :: _, _, hm => exact absurd hm Bool.false_ne_true
end
end Mine
namespace Mine
open PySem PySem.Calls PyProof.Rows

theorem boot_isinstance : bootBuiltins (Str.ofString "isinstance") = some (.builtin "isinstance") := by decide +kernel
theorem boot_len : bootBuiltins (Str.ofString "len") = some (.builtin "len") := by decide +kernel
theorem boot_int : bootBuiltins (Str.ofString "int") = some (.type "int") := by decide +kernel
theorem boot_bool : bootBuiltins (Str.ofString "bool") = some (.type "bool") := by decide +kernel
theorem boot_list : bootBuiltins (Str.ofString "list") = some (.type "list") := by decide +kernel
theorem boot_tuple : bootBuiltins (Str.ofString "tuple") = some (.type "tuple") := by decide +kernel
theorem boot_str : bootBuiltins (Str.ofString "str") = some (.type "str") := by decide +kernel
theorem boot_range : bootBuiltins (Str.ofString "range") = some (.type "range") := by decide +kernel
theorem boot_enumerate : bootBuiltins (Str.ofString "enumerate") = some (.type "enumerate") := by decide +kernel
theorem boot_zip : bootBuiltins (Str.ofString "zip") = some (.type "zip") := by decide +kernel

noncomputable def TOk (n : Nat) (mg mb : Str → Option Value) (prog : Program) (w : World) (base : Heap) (F : Fn) (e : Ex) : Prop :=
  ∀ (g : Gm) (py : Expr) (c : Cx) (st : St) (μ : List Addr) (s : Shared), c.prog = prog → c.w = w → c.base = base → mE g e py = true → Good n mg mb c g → Inv c st μ s.heap →
    Sim c (isTrue py c.env (eval py c.env)) (truthR (evE F e st)) rEq st.σ μ s
noncomputable def IOk (n : Nat) (mg mb : Str → Option Value) (prog : Program) (w : World) (base : Heap) (F : Fn) (e : Ex) : Prop := EOk n mg mb prog w base F e ∧ TOk n mg mb prog w base F e

noncomputable def plainTest (py : Expr) : Prop := ∀ env whole, isTrue py env whole = (do let v ← whole; standAt py.pos; holding [v] (truthy v))

section
variable {n : Nat} {mg mb : Str → Option Value} {prog : Program} {w : World} {base : Heap} {F : Fn}

theorem TOk.plain {e : Ex} (h : EOk n mg mb prog w base F e) (hp : ∀ g py, mE g e py = true → plainTest py) : IOk n mg mb prog w base F e := by
  refine ⟨h, fun g py c st μ s e1 e2 e3 hm hg I => ?_⟩
  rw [hp g py hm]
  exact Sim.bind (h g py c st μ s e1 e2 e3 hm hg I) fun x st₁ u μ₁ s₁ _ rx I₁ S₁ => Sim.at (Sim.holding (sim_truthy I₁ rx))

theorem plain_of {e : Ex} (h : ∀ g py, mE g e py = true → (match py with | .UnaryOp .Not .. | .BoolOp .. | .IfExp .. | .Compare .. => false | _ => true) = true) : ∀ g py, mE g e py = true → plainTest py := by
  intro g py hm
  have := h g py hm
  intro env whole
  cases py <;> first | rfl | (simp at this; done) | (rename_i op _ _; cases op <;> first | rfl | (simp at this; done))

theorem truth_bool (b : Bool) (st : St) : R.lift ((V.bool b).truthy st.σ) st = .ok b st := rfl

theorem snd_chain {a b d : Ex} {o1 o2 : Cm} (ha : EOk n mg mb prog w base F a) (hb : EOk n mg mb prog w base F b) (hd : EOk n mg mb prog w base F d) : IOk n mg mb prog w base F (.chain a o1 b o2 d) := by
  have both : ∀ (g : Gm) (py : Expr) (c : Cx) (st : St) (μ : List Addr) (s : Shared), c.prog = prog → c.w = w → c.base = base → mE g (.chain a o1 b o2 d) py = true → Good n mg mb c g → Inv c st μ s.heap →
      Sim c (eval py c.env) (evE F (.chain a o1 b o2 d) st) rV st.σ μ s ∧ Sim c (isTrue py c.env (eval py c.env)) (truthR (evE F (.chain a o1 b o2 d) st)) rEq st.σ μ s := by
    intro g py c st μ s e1 e2 e3 hm hg I
    obtain ⟨l, ops, cs, pos, rfl, _⟩ := onCmp_inv hm
    match ops, cs, hm with
    | [p1, p2], [m, r], hm =>
      simp [m_bool, m_int, m_str, m_loc, m_fz, m_bin, m_cmp, m_chain, m_band2, m_band3, m_bor2, m_bor3, m_not, m_neg, m_ite, m_tup, m_list, m_listM, m_sub, m_slice, m_isin, m_bi, m_me, m_call, m_comp, m_nil, m_cons, m_onone, m_osome, m_val, m_range1, m_range2, m_zip, m_asg, m_expr, m_ret, m_ifte, m_for1, m_forT, m_while, m_snil, m_scons, m_tcons] at hm
      obtain ⟨⟨⟨⟨⟨rfl, rfl⟩, h0⟩, h1⟩, h2⟩, h3⟩ := hm
      have em : markedEach [cmM o1, cmM o2] [m, r] (evalEach [m, r] c.env) = [eval m c.env, eval r c.env] := by
        show [eval m c.env, markedBehindIn (cmM o2) r (eval r c.env)] = _
        rw [markedBehindIn_of_false (notSet_marks h0)]
      constructor
      · rw [arm_eval_Compare, em]
        simp only [qvE_none, qvE_bool, qvE_int, qvE_str, qvE_loc, qvE_fz, qvE_bin, qvE_cmp, qvE_chain, qvE_band, qvE_bor, qvE_not, qvE_neg, qvE_ite, qvE_tup, qvE_list, qvE_listM, qvE_sub, qvE_slice, qvE_isin, qvE_bi, qvE_me, qvE_call, qvE_callB, qvE_callZ, qvE_comp]
        refine Sim.bind (ha _ _ c st μ s e1 e2 e3 h1 hg I) fun x st₁ u μ₁ s₁ _ rx I₁ S₁ => ?_
        show Sim c (do
          let rv ← holding [u] (eval m c.env)
          standAt pos
          let t ← holding [u, rv] (compareOp (cmM o1) u rv)
          release [u, rv] [t]
          if ← holding [t, rv] (truthy t) then (do
            let rv₂ ← holding [rv] (eval r c.env)
            standAt pos
            operate [rv, rv₂] (compareOp (cmM o2) rv rv₂)) else pure t) _ _ _ _ _
        refine Sim.bind (Sim.holding (hb _ _ c st₁ μ₁ s₁ e1 e2 e3 h2 hg I₁)) fun y st₂ v μ₂ s₂ _ ry I₂ S₂ => ?_
        refine Sim.at ?_
        have hc := sim_cmp hg.ok I₂ (RepV.step I₁ S₂ rx) ry o1
        cases hq : cmpSem st₂.σ o1 x y with
        | none => simp; trivial
        | some t =>
          rw [hq] at hc
          simp only [R.lift_some, R.bind_ok]
          refine Sim.bind (g := fun (z : V) st => (if t then (evE F d st).bind fun z st => R.lift ((cmpSem st.σ o2 y z).map V.bool) st else .ok (.bool false) st)) (Sim.holding (vs := [u, v]) hc) fun z st₃ tv μ₃ s₃ he rz I₃ S₃ => ?_
          simp only [Option.map_some, R.lift_some] at he
          cases he
          obtain rfl := RepV.bool_inv rz
          refine Sim.release (Sim.bind (m := .ok t st₂) (g := fun t st => if t then (evE F d st).bind fun z st => R.lift ((cmpSem st.σ o2 y z).map V.bool) st else .ok (.bool false) st) (Sim.holding (sim_truthy I₃ (.bool t))) fun t' st₄ b' μ₄ s₄ he rb I₄ S₄ => ?_)
          cases he
          cases rb
          cases t with
          | false => exact Sim.pure I₄ (.bool false)
          | true =>
            refine Sim.bind (Sim.holding (hd _ _ c st₂ μ₄ s₄ e1 e2 e3 h3 hg I₄)) fun z st₅ v₂ μ₅ s₅ _ rz' I₅ S₅ => ?_
            exact Sim.at (Sim.operate (sim_cmp hg.ok I₅ (RepV.step I₄ S₅ (RepV.step I₃ S₄ (RepV.step I₂ S₃ ry))) rz' o2))
      · rw [arm_isTrue_Compare, em]
        simp only [qvE_none, qvE_bool, qvE_int, qvE_str, qvE_loc, qvE_fz, qvE_bin, qvE_cmp, qvE_chain, qvE_band, qvE_bor, qvE_not, qvE_neg, qvE_ite, qvE_tup, qvE_list, qvE_listM, qvE_sub, qvE_slice, qvE_isin, qvE_bi, qvE_me, qvE_call, qvE_callB, qvE_callZ, qvE_comp, truthR]
        have key : ∀ st, ((evE F a st).bind fun x st => (evE F b st).bind fun y st => (R.lift (cmpSem st.σ o1 x y) st).bind fun t st =>
            if t then (evE F d st).bind fun z st => R.lift ((cmpSem st.σ o2 y z).map V.bool) st else R.ok (.bool false) st).bind (fun v st => R.lift (v.truthy st.σ) st) =
            (evE F a st).bind fun x st => (evE F b st).bind fun y st => (R.lift (cmpSem st.σ o1 x y) st).bind fun t st =>
            if t then (evE F d st).bind fun z st => (R.lift ((cmpSem st.σ o2 y z).map V.bool) st).bind (fun v st => R.lift (v.truthy st.σ) st) else R.ok false st := by
          intro st
          cases evE F a st with
          | stuck => rfl
          | exc _ _ => rfl
          | ok x st =>
            simp only [R.bind_ok]
            cases evE F b st with
            | stuck => rfl
            | exc _ _ => rfl
            | ok y st =>
              simp only [R.bind_ok]
              cases cmpSem st.σ o1 x y with
              | none => rfl
              | some t =>
                simp only [R.lift_some, R.bind_ok]
                cases t with
                | false => rfl
                | true =>
                  simp only [if_true]
                  cases evE F d st <;> rfl
        rw [key]
        refine Sim.bind (ha _ _ c st μ s e1 e2 e3 h1 hg I) fun x st₁ u μ₁ s₁ _ rx I₁ S₁ => ?_
        show Sim c (do
          let rv ← holding [u] (eval m c.env)
          standAt pos
          let t ← holding [u, rv] (compareOp (cmM o1) u rv)
          release [u, rv] [t]
          if ← holding [t, rv] (truthy t) then (do
            let rv₂ ← holding [rv] (eval r c.env)
            standAt pos
            let c₂ ← operate [rv, rv₂] (compareOp (cmM o2) rv rv₂)
            holding [c₂] (truthy c₂)) else pure false) _ _ _ _ _
        refine Sim.bind (Sim.holding (hb _ _ c st₁ μ₁ s₁ e1 e2 e3 h2 hg I₁)) fun y st₂ v μ₂ s₂ _ ry I₂ S₂ => ?_
        refine Sim.at ?_
        have hc := sim_cmp hg.ok I₂ (RepV.step I₁ S₂ rx) ry o1
        cases hq : cmpSem st₂.σ o1 x y with
        | none => simp; trivial
        | some t =>
          rw [hq] at hc
          simp only [R.lift_some, R.bind_ok]
          refine Sim.bind (g := fun (z : V) st => (if t then (evE F d st).bind fun z st => (R.lift ((cmpSem st.σ o2 y z).map V.bool) st).bind (fun v st => R.lift (v.truthy st.σ) st) else .ok false st)) (Sim.holding (vs := [u, v]) hc) fun z st₃ tv μ₃ s₃ he rz I₃ S₃ => ?_
          simp only [Option.map_some, R.lift_some] at he
          cases he
          obtain rfl := RepV.bool_inv rz
          refine Sim.release (Sim.bind (m := .ok t st₂) (g := fun t st => if t then (evE F d st).bind fun z st => (R.lift ((cmpSem st.σ o2 y z).map V.bool) st).bind (fun v st => R.lift (v.truthy st.σ) st) else .ok false st) (Sim.holding (sim_truthy I₃ (.bool t))) fun t' st₄ b' μ₄ s₄ he rb I₄ S₄ => ?_)
          cases he
          cases rb
          cases t with
          | false => exact Sim.pure I₄ rfl
          | true =>
            refine Sim.bind (Sim.holding (hd _ _ c st₂ μ₄ s₄ e1 e2 e3 h3 hg I₄)) fun z st₅ v₂ μ₅ s₅ _ rz' I₅ S₅ => ?_
            refine Sim.at (Sim.bind (Sim.operate (sim_cmp hg.ok I₅ (RepV.step I₄ S₅ (RepV.step I₃ S₄ (RepV.step I₂ S₃ ry))) rz' o2)) fun q st₆ v₃ μ₆ s₆ _ rq I₆ S₆ => ?_)
            exact Sim.holding (sim_truthy I₆ rq)
    | [], _, hm => exact absurd hm Bool.false_ne_true
    | [_], _, hm => exact absurd hm Bool.false_ne_true
    | [_, _], [], hm => exact absurd hm Bool.false_ne_true
    | [_, _], [_], hm => exact absurd hm Bool.false_ne_true
    | [_, _], _ :: _ :: _ :: _, hm => exact absurd hm Bool.false_ne_true
    | _ :: _ :: _ :: _, _, hm => exact absurd hm Bool.false_ne_true
  exact ⟨fun g py c st μ s e1 e2 e3 hm hg I => (both g py c st μ s e1 e2 e3 hm hg I).1, fun g py c st μ s e1 e2 e3 hm hg I => (both g py c st μ s e1 e2 e3 hm hg I).2⟩
end
end Mine
namespace Mine
open PySem PySem.Calls PyProof.Rows

section
variable {n : Nat} {mg mb : Str → Option Value} {prog : Program} {w : World} {base : Heap} {F : Fn}

theorem snd_cmpT {op : Cm} {a b : Ex} (ha : EOk n mg mb prog w base F a) (hb : EOk n mg mb prog w base F b) : IOk n mg mb prog w base F (.cmp op a b) := by
  refine ⟨snd_cmp ha hb, ?_⟩
  intro g py c st μ s e1 e2 e3 hm hg I
  obtain ⟨l, ops, cs, pos, rfl, _⟩ := onCmp_inv hm
  match ops, cs, hm with
  | [o], [r], hm =>
    simp [m_bool, m_int, m_str, m_loc, m_fz, m_bin, m_cmp, m_chain, m_band2, m_band3, m_bor2, m_bor3, m_not, m_neg, m_ite, m_tup, m_list, m_listM, m_sub, m_slice, m_isin, m_bi, m_me, m_call, m_comp, m_nil, m_cons, m_onone, m_osome, m_val, m_range1, m_range2, m_zip, m_asg, m_expr, m_ret, m_ifte, m_for1, m_forT, m_while, m_snil, m_scons, m_tcons] at hm
    obtain ⟨⟨⟨rfl, h0⟩, h1⟩, h2⟩ := hm
    rw [isTrue_Compare1, markedBehindIn_of_false (notSet_marks h0)]
    have key : truthR (evE F (.cmp op a b) st) = (evE F a st).bind fun x st => (evE F b st).bind fun y st => (R.lift ((cmpSem st.σ op x y).map V.bool) st).bind fun v st => R.lift (v.truthy st.σ) st := by
      simp only [qvE_none, qvE_bool, qvE_int, qvE_str, qvE_loc, qvE_fz, qvE_bin, qvE_cmp, qvE_chain, qvE_band, qvE_bor, qvE_not, qvE_neg, qvE_ite, qvE_tup, qvE_list, qvE_listM, qvE_sub, qvE_slice, qvE_isin, qvE_bi, qvE_me, qvE_call, qvE_callB, qvE_callZ, qvE_comp, truthR]
      cases evE F a st with
      | stuck => rfl
      | exc _ _ => rfl
      | ok x st => simp only [R.bind_ok]; cases evE F b st <;> rfl
    rw [key]
    refine Sim.bind (ha _ _ c st μ s e1 e2 e3 h1 hg I) fun x st₁ u μ₁ s₁ _ rx I₁ S₁ => ?_
    refine Sim.bind (Sim.holding (hb _ _ c st₁ μ₁ s₁ e1 e2 e3 h2 hg I₁)) fun y st₂ v μ₂ s₂ _ ry I₂ S₂ => ?_
    refine Sim.at (Sim.bind (Sim.operate (sim_cmp hg.ok I₂ (RepV.step I₁ S₂ rx) ry op)) fun q st₃ v₃ μ₃ s₃ _ rq I₃ S₃ => ?_)
    exact Sim.holding (sim_truthy I₃ rq)
  | [], _, hm => exact absurd hm Bool.false_ne_true
  | [_], [], hm => exact absurd hm Bool.false_ne_true
  | [_], _ :: _ :: _, hm => exact absurd hm Bool.false_ne_true
  | _ :: _ :: _, _, hm => exact absurd hm Bool.false_ne_true

theorem truth_again {x : V} {st : St} {t : Bool} (h : x.truthy st.σ = some t) : truthR (.ok x st) = .ok t st := by
  unfold truthR; rw [R.bind_ok, h]; rfl

theorem truthR_band {a b : Ex} {st : St} : truthR (evE F (.band a b) st) = (truthR (evE F a st)).bind fun t st => if t then truthR (evE F b st) else .ok false st := by
  simp only [qvE_none, qvE_bool, qvE_int, qvE_str, qvE_loc, qvE_fz, qvE_bin, qvE_cmp, qvE_chain, qvE_band, qvE_bor, qvE_not, qvE_neg, qvE_ite, qvE_tup, qvE_list, qvE_listM, qvE_sub, qvE_slice, qvE_isin, qvE_bi, qvE_me, qvE_call, qvE_callB, qvE_callZ, qvE_comp]
  cases evE F a st with
  | stuck => rfl
  | exc _ _ => rfl
  | ok x st =>
    simp only [R.bind_ok]
    unfold truthR
    simp only [R.bind_ok]
    cases h : x.truthy st.σ with
    | none => rfl
    | some t =>
      simp only [R.lift_some, R.bind_ok]
      cases t with
      | false => exact truth_again h
      | true => rfl
theorem truthR_bor {a b : Ex} {st : St} : truthR (evE F (.bor a b) st) = (truthR (evE F a st)).bind fun t st => if t then .ok true st else truthR (evE F b st) := by
  simp only [qvE_none, qvE_bool, qvE_int, qvE_str, qvE_loc, qvE_fz, qvE_bin, qvE_cmp, qvE_chain, qvE_band, qvE_bor, qvE_not, qvE_neg, qvE_ite, qvE_tup, qvE_list, qvE_listM, qvE_sub, qvE_slice, qvE_isin, qvE_bi, qvE_me, qvE_call, qvE_callB, qvE_callZ, qvE_comp]
  cases evE F a st with
  | stuck => rfl
  | exc _ _ => rfl
  | ok x st =>
    simp only [R.bind_ok]
    unfold truthR
    simp only [R.bind_ok]
    cases h : x.truthy st.σ with
    | none => rfl
    | some t =>
      simp only [R.lift_some, R.bind_ok]
      cases t with
      | false => rfl
      | true => exact truth_again h

theorem Sim.cond {α β : Type} {c : Cx} {t : Bool} {T1 T2 : Sem α} {m1 m2 : R β} {rel : St → List Addr → Heap → α → β → Prop} {σ : List O} {μ : List Addr} {s : Shared} (h1 : t = true → Sim c T1 m1 rel σ μ s) (h2 : t = false → Sim c T2 m2 rel σ μ s) :
    Sim c (if t = true then T1 else T2) (if t = true then m1 else m2) rel σ μ s := by
  cases t with
  | true => simpa using h1 rfl
  | false => simpa using h2 rfl

theorem snd_band {a b : Ex} (ha : IOk n mg mb prog w base F a) (hb : IOk n mg mb prog w base F b) : IOk n mg mb prog w base F (.band a b) := by
  have key : ∀ (g : Gm) (py : Expr) (c : Cx) (st : St) (μ : List Addr) (s : Shared), c.prog = prog → c.w = w → c.base = base → mE g (.band a b) py = true → Good n mg mb c g → Inv c st μ s.heap →
      ∃ x y pos, mE g a x = true ∧ mE g b y = true ∧ eval py c.env = (do
        let v ← eval x c.env
        standAt pos
        let t ← holding [v] (truthy v)
        if t = true then eval y c.env else pure v) ∧
      ∀ whole, isTrue py c.env whole = (do
        let t ← isTrue x c.env (eval x c.env)
        if t = true then isTrue y c.env (eval y c.env) else pure false) := by
    intro g py c st μ s e1 e2 e3 hm hg I
    obtain ⟨op, vs, pos, rfl, _⟩ := onBoolOp_inv hm
    cases op with
    | Or => exact absurd hm Bool.false_ne_true
    | And =>
      match vs, hm with
      | [x, y], hm =>
        simp [m_bool, m_int, m_str, m_loc, m_fz, m_bin, m_cmp, m_chain, m_band2, m_band3, m_bor2, m_bor3, m_not, m_neg, m_ite, m_tup, m_list, m_listM, m_sub, m_slice, m_isin, m_bi, m_me, m_call, m_comp, m_nil, m_cons, m_onone, m_osome, m_val, m_range1, m_range2, m_zip, m_asg, m_expr, m_ret, m_ifte, m_for1, m_forT, m_while, m_snil, m_scons, m_tcons] at hm
        refine ⟨x, y, pos, hm.1, hm.2, ?_, fun whole => ?_⟩
        · show boolOp pos .And [eval x c.env, eval y c.env] = _
          simp only [boolOp]
          congr 1; funext v; congr 1; funext _; congr 1; funext t
          cases t <;> rfl
        · show allTrue .And [x, y] c.env = _
          simp only [arm_allTrue_cons, arm_allTrue_nil]
          congr 1; funext t
          cases t with
          | false => rfl
          | true =>
            simp only [if_true]
            conv => rhs; rw [← bind_pure (isTrue y c.env (eval y c.env))]
            congr 1; funext t; cases t <;> rfl
      | x :: y :: z :: r, hm =>
        simp [m_bool, m_int, m_str, m_loc, m_fz, m_bin, m_cmp, m_chain, m_band2, m_band3, m_bor2, m_bor3, m_not, m_neg, m_ite, m_tup, m_list, m_listM, m_sub, m_slice, m_isin, m_bi, m_me, m_call, m_comp, m_nil, m_cons, m_onone, m_osome, m_val, m_range1, m_range2, m_zip, m_asg, m_expr, m_ret, m_ifte, m_for1, m_forT, m_while, m_snil, m_scons, m_tcons] at hm
        refine ⟨x, .BoolOp .And (y :: z :: r) pos, pos, hm.1, hm.2, ?_, fun whole => ?_⟩
        · show boolOp pos .And (eval x c.env :: eval y c.env :: evalEach (z :: r) c.env) = _
          rw [boolOp]
          · congr 1; funext v; congr 1; funext _; congr 1; funext t
            cases t <;> rfl
          · intro q; cases q
        · show allTrue .And (x :: y :: z :: r) c.env = _
          rw [arm_allTrue_cons]
          congr 1; funext t
          cases t <;> rfl
      | [], hm => exact absurd hm Bool.false_ne_true
      | [_], hm => exact absurd hm Bool.false_ne_true
  constructor
  · intro g py c st μ s e1 e2 e3 hm hg I
    obtain ⟨x, y, pos, h1, h2, he, _⟩ := key g py c st μ s e1 e2 e3 hm hg I
    rw [he]
    simp only [qvE_none, qvE_bool, qvE_int, qvE_str, qvE_loc, qvE_fz, qvE_bin, qvE_cmp, qvE_chain, qvE_band, qvE_bor, qvE_not, qvE_neg, qvE_ite, qvE_tup, qvE_list, qvE_listM, qvE_sub, qvE_slice, qvE_isin, qvE_bi, qvE_me, qvE_call, qvE_callB, qvE_callZ, qvE_comp]
    refine Sim.bind (ha.1 _ _ c st μ s e1 e2 e3 h1 hg I) fun x st₁ u μ₁ s₁ _ rx I₁ S₁ => Sim.at ?_
    refine Sim.bind (Sim.holding (sim_truthy I₁ rx)) fun t st₂ t' μ₂ s₂ he rt I₂ S₂ => ?_
    cases rt
    have : st₂ = st₁ := by
      cases hx : x.truthy st₁.σ with
      | none => rw [hx] at he; cases he
      | some q => rw [hx] at he; cases he; rfl
    subst this
    exact Sim.cond (fun _ => hb.1 _ _ c st₂ μ₂ s₂ e1 e2 e3 h2 hg I₂) fun _ => Sim.pure I₂ (RepV.step I₁ S₂ rx)
  · intro g py c st μ s e1 e2 e3 hm hg I
    obtain ⟨x, y, pos, h1, h2, _, he⟩ := key g py c st μ s e1 e2 e3 hm hg I
    rw [he, truthR_band]
    refine Sim.bind (ha.2 _ _ c st μ s e1 e2 e3 h1 hg I) fun t st₁ t' μ₁ s₁ _ rt I₁ S₁ => ?_
    cases rt
    exact Sim.cond (fun _ => hb.2 _ _ c st₁ μ₁ s₁ e1 e2 e3 h2 hg I₁) fun _ => Sim.pure I₁ rfl

theorem snd_bor {a b : Ex} (ha : IOk n mg mb prog w base F a) (hb : IOk n mg mb prog w base F b) : IOk n mg mb prog w base F (.bor a b) := by
  have key : ∀ (g : Gm) (py : Expr) (c : Cx) (st : St) (μ : List Addr) (s : Shared), c.prog = prog → c.w = w → c.base = base → mE g (.bor a b) py = true → Good n mg mb c g → Inv c st μ s.heap →
      ∃ x y pos, mE g a x = true ∧ mE g b y = true ∧ eval py c.env = (do
        let v ← eval x c.env
        standAt pos
        let t ← holding [v] (truthy v)
        if t = true then pure v else eval y c.env) ∧
      ∀ whole, isTrue py c.env whole = (do
        let t ← isTrue x c.env (eval x c.env)
        if t = true then pure true else isTrue y c.env (eval y c.env)) := by
    intro g py c st μ s e1 e2 e3 hm hg I
    obtain ⟨op, vs, pos, rfl, _⟩ := onBoolOp_inv hm
    cases op with
    | And => exact absurd hm Bool.false_ne_true
    | Or =>
      match vs, hm with
      | [x, y], hm =>
        simp [m_bool, m_int, m_str, m_loc, m_fz, m_bin, m_cmp, m_chain, m_band2, m_band3, m_bor2, m_bor3, m_not, m_neg, m_ite, m_tup, m_list, m_listM, m_sub, m_slice, m_isin, m_bi, m_me, m_call, m_comp, m_nil, m_cons, m_onone, m_osome, m_val, m_range1, m_range2, m_zip, m_asg, m_expr, m_ret, m_ifte, m_for1, m_forT, m_while, m_snil, m_scons, m_tcons] at hm
        refine ⟨x, y, pos, hm.1, hm.2, ?_, fun whole => ?_⟩
        · show boolOp pos .Or [eval x c.env, eval y c.env] = _
          simp only [boolOp]
          congr 1; funext v; congr 1; funext _; congr 1; funext t
          cases t <;> rfl
        · show allTrue .Or [x, y] c.env = _
          simp only [arm_allTrue_cons, arm_allTrue_nil]
          congr 1; funext t
          cases t with
          | true => rfl
          | false =>
            simp only [Bool.false_eq_true, if_false]
            conv => rhs; rw [← bind_pure (isTrue y c.env (eval y c.env))]
            congr 1; funext t; cases t <;> rfl
      | x :: y :: z :: r, hm =>
        simp [m_bool, m_int, m_str, m_loc, m_fz, m_bin, m_cmp, m_chain, m_band2, m_band3, m_bor2, m_bor3, m_not, m_neg, m_ite, m_tup, m_list, m_listM, m_sub, m_slice, m_isin, m_bi, m_me, m_call, m_comp, m_nil, m_cons, m_onone, m_osome, m_val, m_range1, m_range2, m_zip, m_asg, m_expr, m_ret, m_ifte, m_for1, m_forT, m_while, m_snil, m_scons, m_tcons] at hm
        refine ⟨x, .BoolOp .Or (y :: z :: r) pos, pos, hm.1, hm.2, ?_, fun whole => ?_⟩
        · show boolOp pos .Or (eval x c.env :: eval y c.env :: evalEach (z :: r) c.env) = _
          rw [boolOp]
          · congr 1; funext v; congr 1; funext _; congr 1; funext t
            cases t <;> rfl
          · intro q; cases q
        · show allTrue .Or (x :: y :: z :: r) c.env = _
          rw [arm_allTrue_cons]
          congr 1; funext t
          cases t <;> rfl
      | [], hm => exact absurd hm Bool.false_ne_true
      | [_], hm => exact absurd hm Bool.false_ne_true
  constructor
  · intro g py c st μ s e1 e2 e3 hm hg I
    obtain ⟨x, y, pos, h1, h2, he, _⟩ := key g py c st μ s e1 e2 e3 hm hg I
    rw [he]
    simp only [qvE_none, qvE_bool, qvE_int, qvE_str, qvE_loc, qvE_fz, qvE_bin, qvE_cmp, qvE_chain, qvE_band, qvE_bor, qvE_not, qvE_neg, qvE_ite, qvE_tup, qvE_list, qvE_listM, qvE_sub, qvE_slice, qvE_isin, qvE_bi, qvE_me, qvE_call, qvE_callB, qvE_callZ, qvE_comp]
    refine Sim.bind (ha.1 _ _ c st μ s e1 e2 e3 h1 hg I) fun x st₁ u μ₁ s₁ _ rx I₁ S₁ => Sim.at ?_
    refine Sim.bind (Sim.holding (sim_truthy I₁ rx)) fun t st₂ t' μ₂ s₂ he rt I₂ S₂ => ?_
    cases rt
    have : st₂ = st₁ := by
      cases hx : x.truthy st₁.σ with
      | none => rw [hx] at he; cases he
      | some q => rw [hx] at he; cases he; rfl
    subst this
    exact Sim.cond (fun _ => Sim.pure I₂ (RepV.step I₁ S₂ rx)) fun _ => hb.1 _ _ c st₂ μ₂ s₂ e1 e2 e3 h2 hg I₂
  · intro g py c st μ s e1 e2 e3 hm hg I
    obtain ⟨x, y, pos, h1, h2, _, he⟩ := key g py c st μ s e1 e2 e3 hm hg I
    rw [he, truthR_bor]
    refine Sim.bind (ha.2 _ _ c st μ s e1 e2 e3 h1 hg I) fun t st₁ t' μ₁ s₁ _ rt I₁ S₁ => ?_
    cases rt
    exact Sim.cond (fun _ => Sim.pure I₁ rfl) fun _ => hb.2 _ _ c st₁ μ₁ s₁ e1 e2 e3 h2 hg I₁

theorem snd_not {a : Ex} (ha : IOk n mg mb prog w base F a) : IOk n mg mb prog w base F (.not a) := by
  constructor
  · intro g py c st μ s e1 e2 e3 hm hg I
    obtain ⟨op, x, pos, rfl, hk⟩ := onUn_inv hm
    cases op <;> try (exact absurd hm Bool.false_ne_true)
    simp [m_bool, m_int, m_str, m_loc, m_fz, m_bin, m_cmp, m_chain, m_band2, m_band3, m_bor2, m_bor3, m_not, m_neg, m_ite, m_tup, m_list, m_listM, m_sub, m_slice, m_isin, m_bi, m_me, m_call, m_comp, m_nil, m_cons, m_onone, m_osome, m_val, m_range1, m_range2, m_zip, m_asg, m_expr, m_ret, m_ifte, m_for1, m_forT, m_while, m_snil, m_scons, m_tcons] at hm
    rw [arm_eval_UnaryOp]
    have key : evE F (.not a) st = (evE F a st).bind fun x st => (R.lift (x.truthy st.σ) st).bind fun t st => .ok (.bool (!t)) st := by
      simp only [qvE_none, qvE_bool, qvE_int, qvE_str, qvE_loc, qvE_fz, qvE_bin, qvE_cmp, qvE_chain, qvE_band, qvE_bor, qvE_not, qvE_neg, qvE_ite, qvE_tup, qvE_list, qvE_listM, qvE_sub, qvE_slice, qvE_isin, qvE_bi, qvE_me, qvE_call, qvE_callB, qvE_callZ, qvE_comp, truthR]; cases evE F a st <;> rfl
    rw [key]
    refine Sim.bind (ha.1 _ _ c st μ s e1 e2 e3 hm hg I) fun x st₁ u μ₁ s₁ _ rx I₁ S₁ => Sim.at (Sim.holding ?_)
    refine Sim.imp (T := truthy u >>= fun b => pure (.bool (!b))) (fun Q h => by unfold unaryOp; exact wpAny_holding h) ?_
    refine Sim.bind (sim_truthy I₁ rx) fun t st₂ t' μ₂ s₂ _ rt I₂ S₂ => ?_
    cases rt
    exact Sim.pure I₂ (.bool _)
  · intro g py c st μ s e1 e2 e3 hm hg I
    obtain ⟨op, x, pos, rfl, hk⟩ := onUn_inv hm
    cases op <;> try (exact absurd hm Bool.false_ne_true)
    simp [m_bool, m_int, m_str, m_loc, m_fz, m_bin, m_cmp, m_chain, m_band2, m_band3, m_bor2, m_bor3, m_not, m_neg, m_ite, m_tup, m_list, m_listM, m_sub, m_slice, m_isin, m_bi, m_me, m_call, m_comp, m_nil, m_cons, m_onone, m_osome, m_val, m_range1, m_range2, m_zip, m_asg, m_expr, m_ret, m_ifte, m_for1, m_forT, m_while, m_snil, m_scons, m_tcons] at hm
    rw [arm_isTrue_UnaryOp]
    have key : truthR (evE F (.not a) st) = (truthR (evE F a st)).bind fun t st => .ok (!t) st := by
      simp only [qvE_none, qvE_bool, qvE_int, qvE_str, qvE_loc, qvE_fz, qvE_bin, qvE_cmp, qvE_chain, qvE_band, qvE_bor, qvE_not, qvE_neg, qvE_ite, qvE_tup, qvE_list, qvE_listM, qvE_sub, qvE_slice, qvE_isin, qvE_bi, qvE_me, qvE_call, qvE_callB, qvE_callZ, qvE_comp]; cases truthR (evE F a st) <;> rfl
    rw [key]
    refine Sim.bind (ha.2 _ _ c st μ s e1 e2 e3 hm hg I) fun t st₁ t' μ₁ s₁ _ rt I₁ S₁ => ?_
    cases rt
    exact Sim.pure I₁ rfl

theorem snd_neg {i : Int} : EOk n mg mb prog w base F (.neg i) := by
  intro g py c st μ s e1 e2 e3 hm hg I
  obtain ⟨op, x, pos, rfl, hk⟩ := onUn_inv hm
  cases op <;> try (exact absurd hm Bool.false_ne_true)
  obtain ⟨k, _, _, rfl, _⟩ := onConst_inv hk
  cases k <;> try (exact absurd hm Bool.false_ne_true)
  simp [m_bool, m_int, m_str, m_loc, m_fz, m_bin, m_cmp, m_chain, m_band2, m_band3, m_bor2, m_bor3, m_not, m_neg, m_ite, m_tup, m_list, m_listM, m_sub, m_slice, m_isin, m_bi, m_me, m_call, m_comp, m_nil, m_cons, m_onone, m_osome, m_val, m_range1, m_range2, m_zip, m_asg, m_expr, m_ret, m_ifte, m_for1, m_forT, m_while, m_snil, m_scons, m_tcons] at hm
  subst hm
  rw [arm_eval_UnaryOp]
  simp only [qvE_none, qvE_bool, qvE_int, qvE_str, qvE_loc, qvE_fz, qvE_bin, qvE_cmp, qvE_chain, qvE_band, qvE_bor, qvE_not, qvE_neg, qvE_ite, qvE_tup, qvE_list, qvE_listM, qvE_sub, qvE_slice, qvE_isin, qvE_bi, qvE_me, qvE_call, qvE_callB, qvE_callZ, qvE_comp]
  exact leaf_int I fun Q hq => wpAny_bind (wpAny_Constant_int (wpAny_bind (wpAny_standAt (wpAny_holding (P.neg_int (hq _ _))))))

theorem snd_ite {d a b : Ex} (hd : IOk n mg mb prog w base F d) (ha : IOk n mg mb prog w base F a) (hb : IOk n mg mb prog w base F b) : IOk n mg mb prog w base F (.ite d a b) := by
  constructor
  · intro g py c st μ s e1 e2 e3 hm hg I
    obtain ⟨_, _, _, _, rfl, _⟩ := onIfE_inv hm
    simp [m_bool, m_int, m_str, m_loc, m_fz, m_bin, m_cmp, m_chain, m_band2, m_band3, m_bor2, m_bor3, m_not, m_neg, m_ite, m_tup, m_list, m_listM, m_sub, m_slice, m_isin, m_bi, m_me, m_call, m_comp, m_nil, m_cons, m_onone, m_osome, m_val, m_range1, m_range2, m_zip, m_asg, m_expr, m_ret, m_ifte, m_for1, m_forT, m_while, m_snil, m_scons, m_tcons] at hm
    obtain ⟨⟨h1, h2⟩, h3⟩ := hm
    rw [arm_eval_IfExp]
    simp only [qvE_none, qvE_bool, qvE_int, qvE_str, qvE_loc, qvE_fz, qvE_bin, qvE_cmp, qvE_chain, qvE_band, qvE_bor, qvE_not, qvE_neg, qvE_ite, qvE_tup, qvE_list, qvE_listM, qvE_sub, qvE_slice, qvE_isin, qvE_bi, qvE_me, qvE_call, qvE_callB, qvE_callZ, qvE_comp]
    refine Sim.bind (hd.2 _ _ c st μ s e1 e2 e3 h1 hg I) fun t st₁ t' μ₁ s₁ _ rt I₁ S₁ => ?_
    cases rt
    exact Sim.cond (fun _ => ha.1 _ _ c st₁ μ₁ s₁ e1 e2 e3 h2 hg I₁) fun _ => hb.1 _ _ c st₁ μ₁ s₁ e1 e2 e3 h3 hg I₁
  · intro g py c st μ s e1 e2 e3 hm hg I
    obtain ⟨_, _, _, _, rfl, _⟩ := onIfE_inv hm
    simp [m_bool, m_int, m_str, m_loc, m_fz, m_bin, m_cmp, m_chain, m_band2, m_band3, m_bor2, m_bor3, m_not, m_neg, m_ite, m_tup, m_list, m_listM, m_sub, m_slice, m_isin, m_bi, m_me, m_call, m_comp, m_nil, m_cons, m_onone, m_osome, m_val, m_range1, m_range2, m_zip, m_asg, m_expr, m_ret, m_ifte, m_for1, m_forT, m_while, m_snil, m_scons, m_tcons] at hm
    obtain ⟨⟨h1, h2⟩, h3⟩ := hm
    rw [arm_isTrue_IfExp]
    have key : truthR (evE F (.ite d a b) st) = (truthR (evE F d st)).bind fun t st => if t then truthR (evE F a st) else truthR (evE F b st) := by
      simp only [qvE_none, qvE_bool, qvE_int, qvE_str, qvE_loc, qvE_fz, qvE_bin, qvE_cmp, qvE_chain, qvE_band, qvE_bor, qvE_not, qvE_neg, qvE_ite, qvE_tup, qvE_list, qvE_listM, qvE_sub, qvE_slice, qvE_isin, qvE_bi, qvE_me, qvE_call, qvE_callB, qvE_callZ, qvE_comp]
      cases truthR (evE F d st) with
      | stuck => rfl
      | exc _ _ => rfl
      | ok t st => simp only [R.bind_ok]; cases t <;> rfl
    rw [key]
    refine Sim.bind (hd.2 _ _ c st μ s e1 e2 e3 h1 hg I) fun t st₁ t' μ₁ s₁ _ rt I₁ S₁ => ?_
    cases rt
    exact Sim.cond (fun _ => ha.2 _ _ c st₁ μ₁ s₁ e1 e2 e3 h2 hg I₁) fun _ => hb.2 _ _ c st₁ μ₁ s₁ e1 e2 e3 h3 hg I₁

/-! lists of expressions -/
theorem snd_nil : EsOk n mg mb prog w base F .nil := by
  intro g py c st μ s pos e1 e2 e3 hm hg I
  cases py <;> try (exact absurd hm Bool.false_ne_true)
  exact Sim.leaf I (wpAny_items_nil ⟨.refl, .refl, .nil⟩)
theorem snd_cons {e : Ex} {es : Exs} (he : EOk n mg mb prog w base F e) (hes : EsOk n mg mb prog w base F es) : EsOk n mg mb prog w base F (.cons e es) := by
  intro g py c st μ s pos e1 e2 e3 hm hg I
  cases py <;> try (exact absurd hm Bool.false_ne_true)
  rename_i x xs
  simp [m_bool, m_int, m_str, m_loc, m_fz, m_bin, m_cmp, m_chain, m_band2, m_band3, m_bor2, m_bor3, m_not, m_neg, m_ite, m_tup, m_list, m_listM, m_sub, m_slice, m_isin, m_bi, m_me, m_call, m_comp, m_nil, m_cons, m_onone, m_osome, m_val, m_range1, m_range2, m_zip, m_asg, m_expr, m_ret, m_ifte, m_for1, m_forT, m_while, m_snil, m_scons, m_tcons] at hm
  simp only [qvEs_nil, qvEs_cons]
  rw [mE_notStar hm.1]
  show Sim c (do
    let v ← eval x c.env
    let here ← (pure [v] : Sem (List Value))
    return here ++ (← holding here (spliced (backTo pos (starEach xs c.env))))) _ _ _ _ _
  refine Sim.bind (he _ _ c st μ s e1 e2 e3 hm.1 hg I) fun y st₁ v μ₁ s₁ _ rx I₁ S₁ => ?_
  show Sim c (holding [v] (spliced (backTo pos (starEach xs c.env))) >>= fun vs => pure ([v] ++ vs)) _ _ _ _ _
  refine Sim.bind (Sim.holding (hes _ _ c st₁ μ₁ s₁ pos e1 e2 e3 hm.2 hg I₁)) fun ys st₂ vs μ₂ s₂ _ rxs I₂ S₂ => ?_
  exact Sim.pure I₂ (.cons (RepV.step I₁ S₂ rx) rxs)

theorem snd_tup {es : Exs} (h : EsOk n mg mb prog w base F es) : EOk n mg mb prog w base F (.tup es) := by
  intro g py c st μ s e1 e2 e3 hm hg I
  obtain ⟨_, _, _, rfl, _⟩ := onTup_inv hm
  simp [m_bool, m_int, m_str, m_loc, m_fz, m_bin, m_cmp, m_chain, m_band2, m_band3, m_bor2, m_bor3, m_not, m_neg, m_ite, m_tup, m_list, m_listM, m_sub, m_slice, m_isin, m_bi, m_me, m_call, m_comp, m_nil, m_cons, m_onone, m_osome, m_val, m_range1, m_range2, m_zip, m_asg, m_expr, m_ret, m_ifte, m_for1, m_forT, m_while, m_snil, m_scons, m_tcons] at hm
  rw [arm_eval_Tuple]
  simp only [qvE_none, qvE_bool, qvE_int, qvE_str, qvE_loc, qvE_fz, qvE_bin, qvE_cmp, qvE_chain, qvE_band, qvE_bor, qvE_not, qvE_neg, qvE_ite, qvE_tup, qvE_list, qvE_listM, qvE_sub, qvE_slice, qvE_isin, qvE_bi, qvE_me, qvE_call, qvE_callB, qvE_callZ, qvE_comp]
  refine Sim.at (Sim.bind (h _ _ c st μ s _ e1 e2 e3 hm hg I) fun xs st₁ vs μ₁ s₁ _ rx I₁ S₁ => ?_)
  split
  · rename_i hz
    have hl := RepVs.length rx
    exact Sim.leaf I₁ (wpAny_newObj_type ⟨.push _, .refl, rep_newTuple I₁ rx (by omega)⟩ (by show vs.toArray.size ≤ sizeLine; rw [List.size_toArray]; omega))
  · trivial
theorem snd_list {es : Exs} (h : EsOk n mg mb prog w base F es) : EOk n mg mb prog w base F (.list es) := by
  intro g py c st μ s e1 e2 e3 hm hg I
  obtain ⟨_, _, rfl, _⟩ := onList_inv hm
  simp [m_bool, m_int, m_str, m_loc, m_fz, m_bin, m_cmp, m_chain, m_band2, m_band3, m_bor2, m_bor3, m_not, m_neg, m_ite, m_tup, m_list, m_listM, m_sub, m_slice, m_isin, m_bi, m_me, m_call, m_comp, m_nil, m_cons, m_onone, m_osome, m_val, m_range1, m_range2, m_zip, m_asg, m_expr, m_ret, m_ifte, m_for1, m_forT, m_while, m_snil, m_scons, m_tcons] at hm
  rw [arm_eval_List]
  simp only [qvE_none, qvE_bool, qvE_int, qvE_str, qvE_loc, qvE_fz, qvE_bin, qvE_cmp, qvE_chain, qvE_band, qvE_bor, qvE_not, qvE_neg, qvE_ite, qvE_tup, qvE_list, qvE_listM, qvE_sub, qvE_slice, qvE_isin, qvE_bi, qvE_me, qvE_call, qvE_callB, qvE_callZ, qvE_comp]
  refine Sim.at (Sim.bind (h _ _ c st μ s _ e1 e2 e3 hm hg I) fun xs st₁ vs μ₁ s₁ _ rx I₁ S₁ => ?_)
  split
  · rename_i hz
    have hl := RepVs.length rx
    exact Sim.leaf I₁ (wpAny_newObj_type ⟨.push _, .refl, rep_newList I₁ rx (by omega)⟩ (by show vs.toArray.size ≤ sizeLine; rw [List.size_toArray]; omega))
  · trivial

/-- a new tracked object -/
theorem Inv.track {c : Cx} {st : St} {μ : List Addr} {h : Heap} (I : Inv c st μ h) {o : Obj} {ob : O} (hf : o.isFreed = false) (hl : ob.live = true)
    (hr : ∀ T, (∀ b, T b → Tr st.σ μ b ∨ b = h.objs.size) → RepO T (μ ++ [h.objs.size]) (h.push o) h.objs.size ob) :
    Inv c ⟨st.ρ, st.σ ++ [ob]⟩ (μ ++ [h.objs.size]) (h.push o) ∧ Stp c st.σ μ h (st.σ ++ [ob]) (μ ++ [h.objs.size]) (h.push o) := by
  have hnm : h.objs.size ∉ μ := fun q => Nat.lt_irrefl _ (I.lt _ q)
  have tr : ∀ b, Tr (st.σ ++ [ob]) (μ ++ [h.objs.size]) b → Tr st.σ μ b ∨ b = h.objs.size := by
    rintro b ⟨k, o', e1, e2, e3⟩
    by_cases hk : k < st.σ.length
    · rw [List.getElem?_append_left hk] at e1
      rw [List.getElem?_append_left (by rw [I.len]; exact hk)] at e3
      exact .inl ⟨k, o', e1, e2, e3⟩
    · rw [List.getElem?_append_right (by rw [I.len]; omega)] at e3
      have hlt : k < (st.σ ++ [ob]).length := (List.getElem?_eq_some_iff.mp e1).1
      simp only [List.length_append, List.length_singleton] at hlt
      have : k - μ.length = 0 := by rw [I.len]; omega
      rw [this] at e3
      exact .inr (by simpa using e3.symm)
  have S : Stp c st.σ μ h (st.σ ++ [ob]) (μ ++ [h.objs.size]) (h.push o) :=
    ⟨(Ext.push o).1, fun b o' e _ _ => (Ext.push o).2 b o' e, fun k a e => by rw [List.getElem?_append_left (List.getElem?_eq_some_iff.mp e).1]; exact e,
      fun b q => (tr b q).imp id fun e => Nat.le_of_eq e.symm, fun a q => (List.mem_append.mp q).imp id fun e => Nat.le_of_eq (List.mem_singleton.mp e).symm, fun k e => by rw [List.getElem?_append_left (List.getElem?_eq_some_iff.mp e).1]; exact e, fun _ a o' _ _ q => (Ext.push o).2 a o' q⟩
  have I' := I.ext (Ext.push o)
  refine ⟨⟨fun i x q => ?_, I'.slots, fun k o' q => ?_, by simp [I.len], ?_, fun a q => ?_, I'.base, I.baseS, fun a q => ?_, fun b q m => ?_⟩, S⟩
  · obtain ⟨sl, v, g1, g2, g3⟩ := I.vars i x q
    exact ⟨sl, v, g1, g2.keeps fun o' e => (Ext.push o).2 _ o' e, g3.step (st' := ⟨st.ρ, st.σ ++ [ob]⟩) I S⟩
  · dsimp only at q ⊢
    by_cases hk : k < st.σ.length
    · rw [List.getElem?_append_left hk] at q
      obtain ⟨a, ha, r⟩ := I.objs k o' q
      refine ⟨a, by rw [List.getElem?_append_left (by rw [I.len]; exact hk)]; exact ha, ?_⟩
      cases r with
      | dead => exact .dead
      | priv => exact .priv
      | live ho L r => exact .live ((Ext.push o).2 _ _ ho) L (RepVs.step (st' := ⟨st.ρ, st.σ ++ [ob]⟩) I S r)
    · have hlt : k < (st.σ ++ [ob]).length := (List.getElem?_eq_some_iff.mp q).1
      simp only [List.length_append, List.length_singleton] at hlt
      have e0 : k = st.σ.length := by omega
      subst e0
      have e4 : ob = o' := by simpa using q
      subst e4
      exact ⟨h.objs.size, by rw [← I.len]; simp, hr _ tr⟩
  · refine List.nodup_append.mpr ⟨I.nd, by simp, ?_⟩
    intro a ha b hb
    rw [List.mem_singleton.mp hb]
    exact fun e => hnm (e ▸ ha)
  · rw [Heap.size_push]
    rcases List.mem_append.mp q with q | q
    · exact Nat.lt_succ_of_lt (I.lt a q)
    · rw [List.mem_singleton.mp q]; exact Nat.lt_succ_self _
  · rcases List.mem_append.mp q with q | q
    · exact I.baseM a q
    · rw [List.mem_singleton.mp q]
      cases hb : c.base.get? h.objs.size with
      | none => rfl
      | some o' => exact absurd (Heap.lt_size (I.base _ _ hb)) (Nat.lt_irrefl _)
  · rcases List.mem_append.mp m with m | m
    · exact I.sep b q m
    · obtain ⟨o', ho'⟩ := Own_get I q
      rw [List.mem_singleton.mp m] at ho'
      exact Nat.lt_irrefl _ (Heap.lt_size ho')

theorem snd_listM {es : Exs} (h : EsOk n mg mb prog w base F es) : EOk n mg mb prog w base F (.listM es) := by
  intro g py c st μ s e1 e2 e3 hm hg I
  obtain ⟨_, _, rfl, _⟩ := onList_inv hm
  simp [m_bool, m_int, m_str, m_loc, m_fz, m_bin, m_cmp, m_chain, m_band2, m_band3, m_bor2, m_bor3, m_not, m_neg, m_ite, m_tup, m_list, m_listM, m_sub, m_slice, m_isin, m_bi, m_me, m_call, m_comp, m_nil, m_cons, m_onone, m_osome, m_val, m_range1, m_range2, m_zip, m_asg, m_expr, m_ret, m_ifte, m_for1, m_forT, m_while, m_snil, m_scons, m_tcons] at hm
  rw [arm_eval_List]
  simp only [qvE_none, qvE_bool, qvE_int, qvE_str, qvE_loc, qvE_fz, qvE_bin, qvE_cmp, qvE_chain, qvE_band, qvE_bor, qvE_not, qvE_neg, qvE_ite, qvE_tup, qvE_list, qvE_listM, qvE_sub, qvE_slice, qvE_isin, qvE_bi, qvE_me, qvE_call, qvE_callB, qvE_callZ, qvE_comp]
  refine Sim.at (Sim.bind (h _ _ c st μ s _ e1 e2 e3 hm hg I) fun xs st₁ vs μ₁ s₁ _ rx I₁ S₁ => ?_)
  split
  · rename_i hz
    have hl := RepVs.length rx
    have hz' : vs.toArray.size ≤ sizeLine := by rw [List.size_toArray]; omega
    have hnm : s₁.heap.objs.size ∉ μ₁ := fun q => Nat.lt_irrefl _ (I₁.lt _ q)
    obtain ⟨I₂, S₂⟩ := I₁.track (o := { cls := .type "list", data := .seq vs.toArray }) (ob := .lst xs) rfl rfl fun T hT => .lst (Heap.get?_push_size _ rfl) hz' (by
      refine RepVs.move (fun a o e _ hn => ⟨(Ext.push _).2 a o e, fun q => (hT a q).elim hn fun e' => Nat.lt_irrefl _ (e' ▸ Heap.lt_size e)⟩)
        (fun k a e => by rw [List.getElem?_append_left (List.getElem?_eq_some_iff.mp e).1]; exact e) rx)
    exact wpAny_newObj_type ⟨_, .ref (by rw [← I₁.len]; simp), I₂, S₂, .refl⟩ hz'
  · trivial

theorem snd_sub {a i : Ex} (ha : EOk n mg mb prog w base F a) (hi : EOk n mg mb prog w base F i) : EOk n mg mb prog w base F (.sub a i) := by
  intro g py c st μ s e1 e2 e3 hm hg I
  obtain ⟨v, sl, pos, rfl, _⟩ := onSub_inv hm
  have hm' : notSlice sl = true ∧ mE g a v = true ∧ mE g i sl = true := by
    rw [m_sub] at hm
    simpa [and_assoc] using hm
  obtain ⟨h0, h1, h2⟩ := hm'
  rw [eval_Subscript]
  simp only [qvE_none, qvE_bool, qvE_int, qvE_str, qvE_loc, qvE_fz, qvE_bin, qvE_cmp, qvE_chain, qvE_band, qvE_bor, qvE_not, qvE_neg, qvE_ite, qvE_tup, qvE_list, qvE_listM, qvE_sub, qvE_slice, qvE_isin, qvE_bi, qvE_me, qvE_call, qvE_callB, qvE_callZ, qvE_comp]
  refine Sim.bind (ha _ _ c st μ s e1 e2 e3 h1 hg I) fun x st₁ u μ₁ s₁ _ rx I₁ S₁ => ?_
  refine Sim.bind (Sim.holding (hi _ _ c st₁ μ₁ s₁ e1 e2 e3 h2 hg I₁)) fun y st₂ v μ₂ s₂ _ ry I₂ S₂ => ?_
  exact Sim.at (sim_sub I₂ (RepV.step I₁ S₂ rx) ry h0)
end
end Mine
namespace Mine
open PySem PySem.Calls PyProof.Rows

noncomputable def OOk (n : Nat) (mg mb : Str → Option Value) (prog : Program) (w : World) (base : Heap) (F : Fn) (e : Exo) : Prop :=
  ∀ (g : Gm) (py : Option Expr) (c : Cx) (st : St) (μ : List Addr) (s : Shared), c.prog = prog → c.w = w → c.base = base → mO g e py = true → Good n mg mb c g → Inv c st μ s.heap → Sim c (valueOrNone (evalOpt py c.env)) (evO F e st) rV st.σ μ s

section
variable {n : Nat} {mg mb : Str → Option Value} {prog : Program} {w : World} {base : Heap} {F : Fn}
theorem snd_onone : OOk n mg mb prog w base F .none := by
  intro g py c st μ s e1 e2 e3 hm hg I
  cases py <;> try (exact absurd hm Bool.false_ne_true)
  exact Sim.pure I .none
theorem snd_osome {e : Ex} (h : EOk n mg mb prog w base F e) : OOk n mg mb prog w base F (.some e) := by
  intro g py c st μ s e1 e2 e3 hm hg I
  cases py <;> try (exact absurd hm Bool.false_ne_true)
  simp [m_bool, m_int, m_str, m_loc, m_fz, m_bin, m_cmp, m_chain, m_band2, m_band3, m_bor2, m_bor3, m_not, m_neg, m_ite, m_tup, m_list, m_listM, m_sub, m_slice, m_isin, m_bi, m_me, m_call, m_comp, m_nil, m_cons, m_onone, m_osome, m_val, m_range1, m_range2, m_zip, m_asg, m_expr, m_ret, m_ifte, m_for1, m_forT, m_while, m_snil, m_scons, m_tcons] at hm
  exact h _ _ c st μ s e1 e2 e3 hm hg I

theorem snd_slice {a : Ex} {lo hi : Exo} (ha : EOk n mg mb prog w base F a) (hlo : OOk n mg mb prog w base F lo) (hhi : OOk n mg mb prog w base F hi) : EOk n mg mb prog w base F (.slice a lo hi) := by
  intro g py c st μ s e1 e2 e3 hm hg I
  obtain ⟨v, sl, pos, rfl, hk⟩ := onSub_inv hm
  obtain ⟨l, u, stp, p, rfl, _⟩ := onSlice_inv hk
  cases stp <;> try (exact absurd hm Bool.false_ne_true)
  simp [m_bool, m_int, m_str, m_loc, m_fz, m_bin, m_cmp, m_chain, m_band2, m_band3, m_bor2, m_bor3, m_not, m_neg, m_ite, m_tup, m_list, m_listM, m_sub, m_slice, m_isin, m_bi, m_me, m_call, m_comp, m_nil, m_cons, m_onone, m_osome, m_val, m_range1, m_range2, m_zip, m_asg, m_expr, m_ret, m_ifte, m_for1, m_forT, m_while, m_snil, m_scons, m_tcons] at hm
  obtain ⟨⟨h1, h2⟩, h3⟩ := hm
  rw [eval_Subscript]
  simp only [qvE_none, qvE_bool, qvE_int, qvE_str, qvE_loc, qvE_fz, qvE_bin, qvE_cmp, qvE_chain, qvE_band, qvE_bor, qvE_not, qvE_neg, qvE_ite, qvE_tup, qvE_list, qvE_listM, qvE_sub, qvE_slice, qvE_isin, qvE_bi, qvE_me, qvE_call, qvE_callB, qvE_callZ, qvE_comp]
  refine Sim.bind (ha _ _ c st μ s e1 e2 e3 h1 hg I) fun x st₁ ov μ₁ s₁ _ rx I₁ S₁ => ?_
  have hs : Sim c (eval (.Slice l u none p) c.env) ((evO F lo st₁).bind fun yl st => (evO F hi st).bind fun yu st => .ok (yl, yu) st)
      (fun st μ h i q => ∃ vl vu sa, i = .ref sa ∧ h.IsSliceOf sa vl vu .none ∧ RepV (Tr st.σ μ) μ h vl q.1 ∧ RepV (Tr st.σ μ) μ h vu q.2) st₁.σ μ₁ s₁ := by
    rw [arm_eval_Slice]
    refine Sim.bind (hlo _ _ c st₁ μ₁ s₁ e1 e2 e3 h2 hg I₁) fun yl st₂ vl μ₂ s₂ _ rl I₂ S₂ => ?_
    refine Sim.bind (Sim.holding (hhi _ _ c st₂ μ₂ s₂ e1 e2 e3 h3 hg I₂)) fun yu st₃ vu μ₃ s₃ _ ru I₃ S₃ => ?_
    refine Sim.leaf I₃ (wpAny_bind (wpAny_holding (wpAny_pure (wpAny_newObj_type ⟨.push _, .refl, vl, vu, _, rfl, Heap.IsSliceOf.new .., ?_, ?_⟩))))
    · exact (RepV.step I₂ S₃ rl).ext (.push _)
    · exact ru.ext (.push _)
  have key : ((evO F lo st₁).bind fun yl st => (evO F hi st).bind fun yu st => R.lift (sliceSem st.σ x yl yu) st) =
      ((evO F lo st₁).bind fun yl st => (evO F hi st).bind fun yu st => R.ok (yl, yu) st).bind fun q st => R.lift (sliceSem st.σ x q.1 q.2) st := by
    cases evO F lo st₁ with
    | stuck => rfl
    | exc _ _ => rfl
    | ok yl st => simp only [R.bind_ok]; cases evO F hi st <;> rfl
  rw [key]
  refine Sim.bind (Sim.holding hs) fun q st₂ i μ₂ s₂ _ rq I₂ S₂ => Sim.at ?_
  obtain ⟨vl, vu, sa, rfl, hsl, rl, ru⟩ := rq
  exact sim_slice I₂ (RepV.step I₁ S₂ rx) rl ru hsl

/-! names of the top -/
theorem load_builtin {c : Cx} {g : Gm} {st : St} {μ : List Addr} {s : Shared} {x : String} {pos : Pos} {v : Value} (hg : Good n mg mb c g) (I : Inv c st μ s.heap) (hx : g.gl (Str.ofString x) = true)
    (hm : x ∈ (["isinstance", "len", "int", "bool", "list", "tuple", "str", "range", "enumerate", "zip", "set", "sorted", "min"] : List String)) (hv : bootBuiltins (Str.ofString x) = some v)
    {Q : Value → Shared → Prop} {E : Value → Shared → Prop} (h : Q v s) : wpAny (model c.prog c.w) c.A (eval (.Name (Str.ofString x) pos) c.env) Q E s := by
  obtain ⟨h1, h2⟩ := gl_spec hx
  have hk : c.env.scope.kind = .function := by rw [hg.nm.sc]; exact hg.nm.kind
  refine Name_function_global hk (by unfold Env.kindOf; rw [hg.nm.sc]; exact h1) (loadGlobal_builtin (mg := mg) (mb := mb) ?_ (hg.gd.free x hm) ?_ ?_ h) h2
  · rw [hg.nm.glob]; exact hg.gd.g.keeps I.base
  · rw [hg.nm.blt]; exact hg.gd.b.keeps I.base
  · rw [hg.gd.blt _ ?_]; exact hv
    simp only [List.mem_cons, List.not_mem_nil, or_false] at hm
    rcases hm with rfl | rfl | rfl | rfl | rfl | rfl | rfl | rfl | rfl | rfl | rfl | rfl | rfl <;> decide
theorem load_global {c : Cx} {g : Gm} {st : St} {μ : List Addr} {s : Shared} {x : Str} {pos : Pos} {v : Value} (hg : Good n mg mb c g) (I : Inv c st μ s.heap) (hx : g.gl x = true) (hv : mg x = some v)
    {Q : Value → Shared → Prop} {E : Value → Shared → Prop} (h : Q v s) : wpAny (model c.prog c.w) c.A (eval (.Name x pos) c.env) Q E s := by
  obtain ⟨h1, h2⟩ := gl_spec hx
  have hk : c.env.scope.kind = .function := by rw [hg.nm.sc]; exact hg.nm.kind
  exact Name_function_global hk (by unfold Env.kindOf; rw [hg.nm.sc]; exact h1) (loadGlobal_global (mg := mg) (by rw [hg.nm.glob]; exact hg.gd.g.keeps I.base) hv h) h2

theorem backTo_one (pos : Pos) (x : Expr) (env : Env) (h : ∀ rest, starEach (x :: rest) env = (false, eval x env) :: starEach rest env) : backTo pos (starEach [x] env) = [(false, eval x env)] := by
  rw [h]; rfl

noncomputable def noStar (x : Expr) : Prop := ∀ (rest : List Expr) (env : Env), starEach (x :: rest) env = (false, eval x env) :: starEach rest env
theorem noStar_name (x : Str) (p : Pos) : noStar (.Name x p) := fun _ _ => rfl
theorem any_star {pos : Pos} {env : Env} : ∀ {xs : List Expr}, (∀ x ∈ xs, noStar x) → (backTo pos (starEach xs env)).any (·.1) = false
  | [], _ => rfl
  | x :: xs, h => by
    rw [h x (List.mem_cons_self ..)]
    show (false || (backTo pos (starEach xs env)).any (·.1)) = false
    rw [any_star fun y hy => h y (List.mem_cons_of_mem _ hy)]; rfl
theorem args_plain {M : Model} {A : Around} {E : Value → Shared → Prop} {s : Shared} {pos : Pos} {env : Env} {f : Value} {x : Expr} {xs : List Expr} (hx : noStar x) {Q : Args → Shared → Prop}
    (h : wpAny M A (spliced (backTo pos (starEach (x :: xs) env))) (fun vs s' => Q ⟨vs, []⟩ s') E s) : wpAny M A (evalArgs f true (backTo pos (starEach (x :: xs) env)) []) Q E s := by
  rw [hx] at h ⊢
  exact evalArgs_plain h
theorem callB {M : Model} {A : Around} {E : Value → Shared → Prop} {s : Shared} {pos : Pos} {env : Env} {id : String} {first : List Value} {x : Expr} {xs : List Expr} (hx : ∀ y ∈ x :: xs, noStar y) {Q : Value → Shared → Prop}
    (h : wpAny M A (spliced (backTo pos (starEach (x :: xs) env))) (fun vs s₁ => wpAny M A (call (.builtin id) (first ++ vs)) Q E s₁) E s) :
    wpAny M A (callWith pos (.builtin id) first (backTo pos (starEach (x :: xs) env)) []) Q E s :=
  callWith_builtin (any_star hx) (args_plain (hx x (List.mem_cons_self ..)) h)
theorem callT {M : Model} {A : Around} {E : Value → Shared → Prop} {s : Shared} {pos : Pos} {env : Env} {T : String} {x : Expr} {xs : List Expr} (hx : ∀ y ∈ x :: xs, noStar y) {Q : Value → Shared → Prop}
    (h : wpAny M A (spliced (backTo pos (starEach (x :: xs) env))) (fun vs s₁ => wpAny M A (call (.type T) vs) Q E s₁) E s) :
    wpAny M A (callWith pos (.type T) [] (backTo pos (starEach (x :: xs) env)) []) Q E s :=
  PyProof.Rows.callWith_type (first := []) (any_star hx) (args_plain (hx x (List.mem_cons_self ..)) h)

/-- one more argument -/
theorem spliced_sim {α β : Type} {c : Cx} {σ : List O} {μ : List Addr} {s : Shared} {pos : Pos} {x : Expr} {xs : List Expr} {m : R α} {k : α → St → R β} {rel : St → List Addr → Heap → Value → α → Prop} {rel' : St → List Addr → Heap → List Value → β → Prop}
    (hx : noStar x) (h : Sim c (eval x c.env) m rel σ μ s)
    (hk : ∀ b st₁ v μ₁ s₁, m = .ok b st₁ → rel st₁ μ₁ s₁.heap v b → Inv c st₁ μ₁ s₁.heap → Stp c σ μ s.heap st₁.σ μ₁ s₁.heap → Sim c (spliced (backTo pos (starEach xs c.env)) >>= fun vs => pure (v :: vs)) (k b st₁) rel' st₁.σ μ₁ s₁) :
    Sim c (spliced (backTo pos (starEach (x :: xs) c.env))) (m.bind k) rel' σ μ s := by
  rw [hx]
  show Sim c (do
    let v ← eval x c.env
    let here ← (pure [v] : Sem (List Value))
    return here ++ (← holding here (spliced (backTo pos (starEach xs c.env))))) _ _ _ _ _
  refine Sim.bind h fun b st₁ v μ₁ s₁ e r I₁ S₁ => ?_
  have := hk b st₁ v μ₁ s₁ e r I₁ S₁
  refine Sim.imp (fun Q q => ?_) this
  show wpAny _ _ (holding [v] (spliced (backTo pos (starEach xs c.env))) >>= fun vs => pure ([v] ++ vs)) Q _ _
  exact fun Γ p hΓ => by
    have := q Γ p hΓ
    rw [Sem.wp_bind'] at this ⊢
    rw [Sem.wp_holding]
    exact this

theorem bind_unit {α : Type} (m : St → R α) (st : St) : m st = (R.ok () st).bind fun _ st => m st := rfl

theorem snd_isin {a : Ex} {t : Ty} (ha : EOk n mg mb prog w base F a) : EOk n mg mb prog w base F (.isin a t) := by
  intro g py c st μ s e1 e2 e3 hm hg I
  obtain ⟨f, as, ks, pos, rfl, hk⟩ := onCall_inv hm
  obtain ⟨f, p, rfl, hk2⟩ := onName_inv hk
  rcases as with _ | ⟨x, _ | ⟨y, _ | ⟨z, r⟩⟩⟩ <;> try (exact absurd hm Bool.false_ne_true)
  cases ks <;> try (exact absurd hm Bool.false_ne_true)
  obtain ⟨tn, q, rfl, _⟩ := onName_inv (py := y) hk2
  simp [m_bool, m_int, m_str, m_loc, m_fz, m_bin, m_cmp, m_chain, m_band2, m_band3, m_bor2, m_bor3, m_not, m_neg, m_ite, m_tup, m_list, m_listM, m_sub, m_slice, m_isin, m_bi, m_me, m_call, m_comp, m_nil, m_cons, m_onone, m_osome, m_val, m_range1, m_range2, m_zip, m_asg, m_expr, m_ret, m_ifte, m_for1, m_forT, m_while, m_snil, m_scons, m_tcons] at hm
  obtain ⟨⟨⟨⟨rfl, h1⟩, rfl⟩, h2⟩, h3⟩ := hm
  rw [arm_eval_Call_Name']
  simp only [qvE_none, qvE_bool, qvE_int, qvE_str, qvE_loc, qvE_fz, qvE_bin, qvE_cmp, qvE_chain, qvE_band, qvE_bor, qvE_not, qvE_neg, qvE_ite, qvE_tup, qvE_list, qvE_listM, qvE_sub, qvE_slice, qvE_isin, qvE_bi, qvE_me, qvE_call, qvE_callB, qvE_callZ, qvE_comp]
  rw [bind_unit (fun st => (evE F a st).bind _)]
  refine Sim.bind (rel := fun _ _ _ v (_ : Unit) => v = Value.builtin "isinstance") (Sim.leaf I (load_builtin hg I h1 (by simp) boot_isinstance ⟨.refl, .refl, rfl⟩)) fun _ st₁ v μ₁ s₁ he rv I₁ S₁ => ?_
  cases he
  cases rv
  have hx : noStar x := fun rest env => mE_notStar h3 rest env
  have hty : bootBuiltins (Str.ofString (tyN t)) = some (.type (tyN t)) ∧ tyN t ∈ (["isinstance", "len", "int", "bool", "list", "tuple", "str", "range", "enumerate", "zip", "set", "sorted", "min"] : List String) := by
    cases t
    · exact ⟨boot_int, by simp [tyN]⟩
    · exact ⟨boot_bool, by simp [tyN]⟩
    · exact ⟨boot_list, by simp [tyN]⟩
    · exact ⟨boot_tuple, by simp [tyN]⟩
    · exact ⟨boot_str, by simp [tyN]⟩
  have hs : Sim c (spliced (backTo pos (starEach [x, .Name (Str.ofString (tyN t)) q] c.env))) ((evE F a st).bind fun y st => .ok y st) (fun st μ h vs y => ∃ u, vs = [u, .type (tyN t)] ∧ RepV (Tr st.σ μ) μ h u y) st.σ μ₁ s₁ := by
    refine spliced_sim hx (ha _ _ c st μ₁ s₁ e1 e2 e3 h3 hg I₁) fun y st₂ u μ₂ s₂ _ ry I₂ S₂ => ?_
    refine Sim.leaf I₂ (wpAny_bind (wpAny_items_cons (load_builtin hg I₂ h2 hty.2 hty.1 (wpAny_items_nil (wpAny_pure ⟨.refl, .refl, u, rfl, ry⟩)))))
  have e5 : (evE F a st).bind (fun x st => R.lift ((isSem st.σ t x).map V.bool) st) = ((evE F a st).bind fun y st => R.ok y st).bind (fun x st => R.lift ((isSem st.σ t x).map V.bool) st) := by cases evE F a st <;> rfl
  rw [e5]
  refine Sim.via (f := fun vs => call (.builtin "isinstance") vs) (fun Q h => callB (first := []) (fun y hy => ?_) h) hs fun y st₂ vs μ₂ s₂ _ ⟨u, hu, ry⟩ I₂ S₂ => ?_
  · rcases List.mem_cons.mp hy with rfl | hy
    · exact hx
    · rw [List.mem_singleton.mp hy]; exact noStar_name _ _
  · subst hu; exact sim_isin I₂ ry t

/-- a call of a built-in with one argument -/
theorem sim_call1 {β δ : Type} {c : Cx} {g : Gm} {st : St} {μ : List Addr} {s : Shared} {x : Expr} {p pos : Pos} {fn : String} {fv : Value} {rel : St → List Addr → Heap → Value → β → Prop} {rel' : St → List Addr → Heap → Value → δ → Prop} {m : R β} {k : β → St → R δ}
    (hfv : (∃ b, fv = .builtin b) ∨ ∃ T, fv = .type T) (hb : bootBuiltins (Str.ofString fn) = some fv) (hm : fn ∈ (["isinstance", "len", "int", "bool", "list", "tuple", "str", "range", "enumerate", "zip", "set", "sorted", "min"] : List String))
    (hg : Good n mg mb c g) (I : Inv c st μ s.heap) (h1 : g.gl (Str.ofString fn) = true) (hx : noStar x) (ha : ∀ μ₁ s₁, Inv c st μ₁ s₁.heap → Sim c (eval x c.env) m rel st.σ μ₁ s₁)
    (hk : ∀ b st₁ u μ₁ s₁, rel st₁ μ₁ s₁.heap u b → Inv c st₁ μ₁ s₁.heap → Sim c (call fv [u]) (k b st₁) rel' st₁.σ μ₁ s₁) :
    Sim c (eval (.Call (.Name (Str.ofString fn) p) [x] [] pos) c.env) (m.bind k) rel' st.σ μ s := by
  rw [arm_eval_Call_Name']
  have hx' : ∀ y ∈ [x], noStar y := fun y hy => by rw [List.mem_singleton.mp hy]; exact hx
  have e0 : m.bind k = (R.ok () st).bind fun _ _ => m.bind k := by rw [R.bind_ok]
  rw [e0]
  refine Sim.bind (rel := fun _ _ _ v (_ : Unit) => v = fv) (Sim.leaf I (load_builtin hg I h1 hm hb ⟨.refl, .refl, rfl⟩)) fun _ st₁ v μ₁ s₁ he rv I₁ S₁ => ?_
  cases he
  cases rv
  have hs : Sim c (spliced (backTo pos (starEach [x] c.env))) (m.bind fun y st => .ok y st) (fun st μ h vs y => ∃ u, vs = [u] ∧ rel st μ h u y) st.σ μ₁ s₁ :=
    spliced_sim hx (ha μ₁ s₁ I₁) fun y st₂ u μ₂ s₂ _ ry I₂ S₂ => Sim.leaf I₂ (wpAny_bind (wpAny_items_nil (wpAny_pure ⟨.refl, .refl, u, rfl, ry⟩)))
  have e5 : m.bind k = (m.bind fun y st => R.ok y st).bind k := by cases m <;> rfl
  rw [e5]
  refine Sim.via (f := fun vs => call fv vs) (fun Q h => ?_) hs fun y st₂ vs μ₂ s₂ _ hu I₂ S₂ => ?_
  · rcases hfv with ⟨b, rfl⟩ | ⟨T, rfl⟩
    · exact callB (first := []) hx' h
    · exact callT hx' h
  · obtain ⟨u, rfl, ry⟩ := hu
    exact hk y st₂ u μ₂ s₂ ry I₂
theorem boot_set : bootBuiltins (Str.ofString "set") = some (.type "set") := by decide +kernel
theorem boot_sorted : bootBuiltins (Str.ofString "sorted") = some (.builtin "sorted") := by decide +kernel
theorem boot_min : bootBuiltins (Str.ofString "min") = some (.builtin "min") := by decide +kernel
theorem biV_boot (f : Bi) : bootBuiltins (Str.ofString (biName f)) = some (biV f) := by
  cases f
  · exact boot_len
  · exact boot_int
  · exact boot_list
  · exact boot_tuple
  · exact boot_sorted
theorem snd_bi {a : Ex} {f : Bi} (ha : EOk n mg mb prog w base F a) : EOk n mg mb prog w base F (.bi f a) := by
  intro g py c st μ s e1 e2 e3 hm hg I
  obtain ⟨f', as, ks, pos, rfl, hk⟩ := onCall_inv hm
  obtain ⟨f', p, rfl, _⟩ := onName_inv hk
  rcases as with _ | ⟨x, _ | ⟨y, r⟩⟩ <;> try (exact absurd hm Bool.false_ne_true)
  cases ks <;> try (exact absurd hm Bool.false_ne_true)
  rw [m_bi, Bool.and_eq_true, Bool.and_eq_true, beq_iff_eq] at hm
  obtain ⟨⟨rfl, h1⟩, h3⟩ := hm
  rw [qvE_bi]
  exact sim_call1 (by cases f <;> first | exact .inl ⟨_, rfl⟩ | exact .inr ⟨_, rfl⟩) (biV_boot f) (by cases f <;> simp [biName]) hg I h1 (fun rest env => mE_notStar h3 rest env) (fun μ₁ s₁ I₁ => ha _ _ c st μ₁ s₁ e1 e2 e3 h3 hg I₁)
    fun x st₁ u μ₁ s₁ rx I₁ => sim_bi hg.ok I₁ rx f

theorem base_plain {o : Expr} (h : plainRecv o = true) (name : Str) (env : Env) (whole : Sem Value) : attributeBase o name env whole = whole := by
  cases o <;> first | rfl | (exact absurd h Bool.false_ne_true)

theorem snd_me {m : Me} {a b : Ex} (ha : EOk n mg mb prog w base F a) (hb : EOk n mg mb prog w base F b) : EOk n mg mb prog w base F (.me m a b) := by
  intro g py c st μ s e1 e2 e3 hm hg I
  obtain ⟨f', as, ks, pos, rfl, hk⟩ := onCall_inv hm
  obtain ⟨o, nm, apos, rfl, _⟩ := onAttr_inv hk
  rcases as with _ | ⟨x, _ | ⟨y, r⟩⟩ <;> try (exact absurd hm Bool.false_ne_true)
  cases ks <;> try (exact absurd hm Bool.false_ne_true)
  simp [m_bool, m_int, m_str, m_loc, m_fz, m_bin, m_cmp, m_chain, m_band2, m_band3, m_bor2, m_bor3, m_not, m_neg, m_ite, m_tup, m_list, m_listM, m_sub, m_slice, m_isin, m_bi, m_me, m_call, m_comp, m_nil, m_cons, m_onone, m_osome, m_val, m_range1, m_range2, m_zip, m_asg, m_expr, m_ret, m_ifte, m_for1, m_forT, m_while, m_snil, m_scons, m_tcons] at hm
  obtain ⟨⟨⟨⟨rfl, h1⟩, h2⟩, h3⟩, h4⟩ := hm
  rw [arm_eval_Call, base_plain h2]
  simp only [qvE_none, qvE_bool, qvE_int, qvE_str, qvE_loc, qvE_fz, qvE_bin, qvE_cmp, qvE_chain, qvE_band, qvE_bor, qvE_not, qvE_neg, qvE_ite, qvE_tup, qvE_list, qvE_listM, qvE_sub, qvE_slice, qvE_isin, qvE_bi, qvE_me, qvE_call, qvE_callB, qvE_callZ, qvE_comp]
  have hx : noStar x := fun rest env => mE_notStar h4 rest env
  have hx' : ∀ y ∈ [x], noStar y := fun y hy => by rw [List.mem_singleton.mp hy]; exact hx
  refine Sim.bind (ha _ _ c st μ s e1 e2 e3 h3 hg I) fun x' st₁ u μ₁ s₁ _ rx I₁ S₁ => Sim.at ?_
  -- the method
  have meth : ∀ {T id : String}, PlainAttrs T → PySem.Slot T (Str.ofString (meName m)) id → typeOf (.builtin id) = pure (.type "method_descriptor") → s₁.TypeIs u T → (∀ a, u = .ref a → ∃ ob, s₁.heap.get? a = some ob ∧ ob.dict = none) → id = meN m →
      Sim c (methodCall o (Str.ofString (meName m)) apos pos c.env u ([x].length + ([] : List Keyword).length) (backTo pos (starEach [x] c.env)) (backToKw pos (keywordEach [] c.env))) ((evE F b st₁).bind fun y st => meSem m x' y st) rV st₁.σ μ₁ s₁ := by
    rintro T id pa slot hty hT hd rfl
    have hform : methodCallForm ([x].length + ([] : List Keyword).length) (backTo pos (starEach [x] c.env)) (backToKw pos (keywordEach [] c.env)) = true := by rw [hx]; rfl
    have hpos : methodCallPos true o c.env apos pos = pure pos := by unfold methodCallPos; simp [h1]
    have hs : Sim c (spliced (backTo pos (starEach [x] c.env))) ((evE F b st₁).bind fun y st => .ok y st) (fun st μ h vs y => ∃ v, vs = [v] ∧ RepV (Tr st.σ μ) μ h v y) st₁.σ μ₁ s₁ :=
      spliced_sim hx (hb _ _ c st₁ μ₁ s₁ e1 e2 e3 h4 hg I₁) fun y st₂ u μ₂ s₂ _ ry I₂ S₂ => Sim.leaf I₂ (wpAny_bind (wpAny_items_nil (wpAny_pure ⟨.refl, .refl, u, rfl, ry⟩)))
    have e5 : (evE F b st₁).bind (fun y st => meSem m x' y st) = ((evE F b st₁).bind fun y st => R.ok y st).bind (fun y st => meSem m x' y st) := by cases evE F b st₁ <;> rfl
    rw [e5]
    refine Sim.via (f := fun vs => call (.builtin (meN m)) ([u] ++ vs)) (fun Q h => ?_) hs fun y st₂ vs μ₂ s₂ _ ⟨v, hv, ry⟩ I₂ S₂ => ?_
    · unfold methodCall
      rw [hform]
      refine wpAny_bind (wpAny_holding (getMethod_builtin hT pa slot hty hd ?_))
      exact wpAny_bind (wpAny_of_eq hpos (callB (first := [u]) hx' h))
    · subst hv; exact sim_me I₂ (RepV.step I₁ S₂ rx) ry m
  cases hr : recvOk st₁.σ m x' with
  | false => trivial
  | true =>
    simp only [if_true]
    cases m with
    | append =>
      cases x' with
      | ref k =>
        simp only [recvOk] at hr
        split at hr
        · rename_i xs hn
          obtain ⟨a', vs, rfl, ⟨k', ho⟩, hz, r⟩ := I₁.ref_inv rx hn
          exact meth PySem.F.plainAttrs_list PySem.F.slot_list_append PySem.F.type_list_append ⟨_, ho, rfl⟩ (fun a h => by cases h; exact ⟨_, ho, rfl⟩) rfl
        · cases hr
      | _ => simp [recvOk] at hr
    | find =>
      cases x' with
      | str l => obtain ⟨z, t, rfl, _, _, _⟩ := RepV.str_inv rx; exact meth PySem.F.plainAttrs_str PySem.F.slot_str_find PySem.F.type_str_find (typeIs_str _ _ _) (fun a h => nomatch h) rfl
      | _ => simp [recvOk] at hr
    | index =>
      cases x' with
      | str l => obtain ⟨z, t, rfl, _, _, _⟩ := RepV.str_inv rx; exact meth PySem.F.plainAttrs_str PySem.F.slot_str_index PySem.F.type_str_index (typeIs_str _ _ _) (fun a h => nomatch h) rfl
      | _ => simp [recvOk] at hr
    | join =>
      cases x' with
      | str l => obtain ⟨z, t, rfl, _, _, _⟩ := RepV.str_inv rx; exact meth PySem.F.plainAttrs_str PySem.F.slot_str_join PySem.F.type_str_join (typeIs_str _ _ _) (fun a h => nomatch h) rfl
      | _ => simp [recvOk] at hr

/-- a call of a def of the text -/
theorem snd_callG {G : Fn} {f : Str} {es : Exs} (hF : CallOk n prog w base mg G) (he : EsOk n mg mb prog w base F es) (g : Gm) (py : Expr) (c : Cx) (st : St) (μ : List Addr) (s : Shared) (e1 : c.prog = prog) (e2 : c.w = w) (e3 : c.base = base)
    (hm : mE g (.call f es) py = true) (hg : Good n mg mb c g) (I : Inv c st μ s.heap) : Sim c (eval py c.env) ((evEs F es st).bind fun xs st => callR (G f xs st.σ) st.ρ) rV st.σ μ s := by
  obtain ⟨f', as, ks, pos, rfl, hk⟩ := onCall_inv hm
  obtain ⟨f', p, rfl, _⟩ := onName_inv hk
  cases ks <;> try (exact absurd hm Bool.false_ne_true)
  simp [m_bool, m_int, m_str, m_loc, m_fz, m_bin, m_cmp, m_chain, m_band2, m_band3, m_bor2, m_bor3, m_not, m_neg, m_ite, m_tup, m_list, m_listM, m_sub, m_slice, m_isin, m_bi, m_me, m_call, m_comp, m_nil, m_cons, m_onone, m_osome, m_val, m_range1, m_range2, m_zip, m_asg, m_expr, m_ret, m_ifte, m_for1, m_forT, m_while, m_snil, m_scons, m_tcons] at hm
  obtain ⟨⟨⟨⟨rfl, h0⟩, h1⟩, h2⟩, h3⟩ := hm
  rw [arm_eval_Call_Name']
  -- what G says
  cases hE : evEs F es st with
  | stuck => trivial
  | exc _ _ => trivial
  | ok xs st₁ =>
    simp only [R.bind_ok]
    cases hC : G f' xs st₁.σ with
    | stuck => trivial
    | exc _ _ => trivial
    | ok r st₂ =>
      obtain ⟨fa, fo, fd, k1, k2, k3, hcall⟩ := hF f' xs st₁.σ r st₂ hC h0
      show Sim c _ ((R.ok () st).bind fun _ _ => R.ok r ⟨st₁.ρ, st₂.σ⟩) rV st.σ μ s
      refine Sim.bind (rel := fun _ _ _ v (_ : Unit) => v = Value.ref fa) (Sim.leaf I (load_global hg I h1 k1 ⟨.refl, .refl, rfl⟩)) fun _ st₀ v μ₀ s₀ he₀ rv I₀ S₀ => ?_
      cases he₀
      cases rv
      have hargs : Sim c (evalArgs (.ref fa) true (backTo pos (starEach as c.env)) []) (evEs F es st) (fun st μ h (x : Args) ys => x.kw = [] ∧ RepVs (Tr st.σ μ) μ h x.pos ys) st.σ μ₀ s₀ := by
        cases as with
        | nil =>
          cases es with
          | cons _ _ => exact absurd h2 Bool.false_ne_true
          | nil => exact Sim.leaf I₀ (PySem.evalArgs_none ⟨.refl, .refl, rfl, .nil⟩)
        | cons x xs' =>
          have hx : noStar x := by
            cases es with
            | nil => exact absurd h2 Bool.false_ne_true
            | cons e es' => simp [m_cons] at h2; exact fun rest env => mE_notStar h2.1 rest env
          have := he _ _ c st μ₀ s₀ pos e1 e2 e3 h2 hg I₀
          rw [hE] at this ⊢
          exact wpAny_mono (args_plain (f := .ref fa) (Q := fun x s' => ∃ μ', RepVs (Tr st₁.σ μ') μ' s'.heap x.pos xs ∧ x.kw = [] ∧ Inv c st₁ μ' s'.heap ∧ Stp c st.σ μ₀ s₀.heap st₁.σ μ' s'.heap ∧ Same s₀ s') hx
            (wpAny_mono this (fun vs s' ⟨μ', g1, g2, g3, g4⟩ => ⟨μ', g1, rfl, g2, g3, g4⟩) fun _ _ e => e)) (fun x s' ⟨μ', g1, g2, g3, g4, g5⟩ => ⟨μ', ⟨g2, g1⟩, g3, g4, g5⟩) fun _ _ e => e
      rw [hE] at hargs
      refine callWith_function_kw (o := fo) (fd := fd) (wpAny_mono hargs (fun x s₁ ⟨μ₁, ⟨g1, g2⟩, g3, g4, g5⟩ => ⟨⟨g3.base _ _ (e3 ▸ k2), k3⟩, ?_⟩) fun _ _ e => e.elim)
      rw [g1, List.nil_append]
      refine wpAny_mono (hcall c μ₁ s₁ x.pos e1 e2 e3 hg.a g3.bare g2) (fun v s₂ ⟨μ₂, q1, q2, q3, q4⟩ => ?_) fun _ _ e => e
      obtain ⟨I₂, S₂⟩ := g3.back q2 q3
      exact ⟨μ₂, q1, I₂, g4.trans S₂, g5.trans q4⟩
theorem snd_call {f : Str} {es : Exs} (hF : FnOk n prog w base mg F) (he : EsOk n mg mb prog w base F es) : EOk n mg mb prog w base F (.call f es) := by
  intro g py c st μ s e1 e2 e3 hm hg I
  have := snd_callG hF.fn he g py c st μ s e1 e2 e3 hm hg I
  simpa only [qvE_none, qvE_bool, qvE_int, qvE_str, qvE_loc, qvE_fz, qvE_bin, qvE_cmp, qvE_chain, qvE_band, qvE_bor, qvE_not, qvE_neg, qvE_ite, qvE_tup, qvE_list, qvE_listM, qvE_sub, qvE_slice, qvE_isin, qvE_bi, qvE_me, qvE_call, qvE_callB, qvE_callZ, qvE_comp] using this
theorem snd_glob {x : Str} {i : Int} : EOk n mg mb prog w base F (.glob x i) := by
  intro g py c st μ s e1 e2 e3 hm hg I
  obtain ⟨y, p, rfl, _⟩ := onName_inv hm
  simp [m_glob] at hm
  obtain ⟨⟨rfl, h1⟩, h2⟩ := hm
  obtain ⟨t, ht⟩ := hg.gs _ _ h2
  rw [qvE_glob]
  exact Sim.leaf I (load_global hg I h1 ht ⟨.refl, .refl, .int i t⟩)
end
end Mine
namespace Mine
open PySem PySem.Calls PyProof.Rows

noncomputable def rFl (st : St) (μ : List Addr) (h : Heap) (f : Flow) (x : Fl) : Prop :=
  match f, x with
  | .next, .next => True
  | .brk, .brk => True
  | .cont, .cont => True
  | .ret v, .ret y => RepV (Tr st.σ μ) μ h v y
  | _, _ => False
noncomputable def rU {α : Type} (_ : St) (_ : List Addr) (_ : Heap) (_ : α) (_ : Unit) : Prop := True

/-- a slot is written -/
theorem Inv.store {c : Cx} {st : St} {μ : List Addr} {h h' : Heap} (I : Inv c st μ h) {i : Nat} {s : Slot} {v : Value} {y : V} (ap : ∀ i j s, c.sl i = some s → c.sl j = some s → i = j) (hs : c.sl i = some s)
    (hb : Heap.SameBut s.own h h') (hv : s.Holds h' v) (ho : ∀ t : Slot, t ≠ s → t.own = s.own → (t.Ok h → t.Ok h') ∧ ∀ u, t.Holds h u → t.Holds h' u) (r : RepV (Tr st.σ μ) μ h v y) :
    Inv c (setV st i y) μ h' ∧ Stp c st.σ μ h st.σ μ h' := by
  have own : Own c s.own := ⟨i, s, hs, rfl⟩
  have S : Stp c st.σ μ h st.σ μ h' := ⟨Nat.le_of_eq hb.1.symm, fun b o e hO _ => (hb.2 b fun (k : b = s.own) => hO (k ▸ own)).trans e, fun _ _ q => q, fun _ q => .inl q, fun _ q => .inl q, fun _ q => q, fun n a o _ e2 e3 => (hb.2 a fun (k : a = s.own) => I.sep _ own (k ▸ List.mem_of_getElem? e2)).trans e3⟩
  have mv : ∀ {v : Value} {x : V}, RepV (Tr st.σ μ) μ h v x → RepV (Tr st.σ μ) μ h' v x := fun r => r.step (st' := st) I S
  have mvs : ∀ {v : List Value} {x : List V}, RepVs (Tr st.σ μ) μ h v x → RepVs (Tr st.σ μ) μ h' v x := fun r => r.step (st' := st) I S
  have okS : s.Ok h' := by
    cases s with
    | d D n => obtain ⟨m, hm, _⟩ := hv; exact ⟨m, hm⟩
    | c a => exact ⟨_, hv⟩
  refine ⟨⟨fun j x q => ?_, fun j t q => ?_, fun k o q => ?_, I.len, I.nd, fun a q => by rw [hb.1]; exact I.lt a q, fun b o q => ?_, I.baseS, I.baseM, I.sep⟩, S⟩
  · simp only [setV] at q ⊢
    by_cases hj : i = j
    · subst hj
      have hlt : i < st.ρ.length := by have := (List.getElem?_eq_some_iff.mp q).1; simpa using this
      have e4 : y = x := by simpa [hlt] using q
      subst e4
      exact ⟨s, v, hs, hv, mv r⟩
    · rw [List.getElem?_set_ne hj] at q
      obtain ⟨t, u, g1, g2, g3⟩ := I.vars j x q
      have hts : t ≠ s := fun e => hj (ap i j s hs (e ▸ g1))
      refine ⟨t, u, g1, ?_, mv g3⟩
      by_cases ho' : t.own = s.own
      · exact (ho t hts ho').2 u g2
      · exact g2.keeps fun o e => (hb.2 _ ho').trans e
  · by_cases hts : t = s
    · subst hts; exact okS
    · by_cases ho' : t.own = s.own
      · exact (ho t hts ho').1 (I.slots j t q)
      · exact (I.slots j t q).keeps fun o e => (hb.2 _ ho').trans e
  · obtain ⟨a, ha, ro⟩ := I.objs k o q
    have hne : a ≠ s.own := fun e => I.sep _ own (e ▸ List.mem_of_getElem? ha)
    refine ⟨a, ha, ?_⟩
    cases ro with
    | dead => exact .dead
    | priv => exact .priv
    | live ho L r => exact .live ((hb.2 a hne).trans ho) L (mvs r)
  · refine (hb.2 b fun k => ?_).trans (I.base b o q)
    have := I.baseS s.own own
    rw [k, this] at q; cases q

theorem store_var {c : Cx} {g : Gm} {st : St} {μ : List Addr} {s : Shared} {x : Str} {i : Nat} {v : Value} {y : V} (N : Nm c g) (hl : g.lv x i = true) (I : Inv c st μ s.heap) (r : RepV (Tr st.σ μ) μ s.heap v y) :
    Sim c (storeName c.env x v) (.ok () (setV st i y)) rU st.σ μ s := by
  obtain ⟨h1, h2⟩ := lv_spec hl
  have hk : c.env.scope.kind = .function := by rw [N.sc]; exact N.kind
  rcases N.var x i h1 with ⟨k1, k2⟩ | ⟨k1, a, k2, k3⟩
  · obtain ⟨m, hm⟩ := I.slots i _ k2
    refine wpAny_storeName_local (by unfold Env.kindOf; rw [N.sc]; exact k1) hm (fun h' hn hs => ?_) (by rw [hk]; rfl)
    have side : ∀ t : Slot, t ≠ .d c.env.locals x → t.own = (Slot.d c.env.locals x).own → (t.Ok s.heap → t.Ok h') ∧ ∀ u, t.Holds s.heap u → t.Holds h' u := by
      intro t ht ho
      cases t with
      | c b =>
        constructor
        · rintro ⟨u, o, ho', hd⟩
          obtain ⟨o2, es, ep, ho2, hd2, _⟩ := hm
          have e : b = c.env.locals := ho
          subst e
          obtain rfl := Option.some.inj (ho'.symm.trans ho2)
          rw [hd] at hd2; cases hd2
        · rintro u ⟨o, ho', hd⟩
          obtain ⟨o2, es, ep, ho2, hd2, _⟩ := hm
          have e : b = c.env.locals := ho
          subst e
          obtain rfl := Option.some.inj (ho'.symm.trans ho2)
          rw [hd] at hd2; cases hd2
      | d D n =>
        have e : D = c.env.locals := ho
        subst e
        have hne : n ≠ x := fun e => ht (by rw [e])
        refine ⟨fun _ => ⟨_, hn⟩, ?_⟩
        rintro u ⟨m', hm', e'⟩
        refine ⟨_, hn, ?_⟩
        rw [if_neg hne]
        obtain ⟨o2, es, ep, ho2, hd2, _, q2⟩ := hm
        obtain ⟨o3, es3, ep3, ho3, hd3, _, q3⟩ := hm'
        obtain rfl := Option.some.inj (ho2.symm.trans ho3)
        rw [hd2] at hd3
        cases hd3
        rw [← q2, q3, e']
    obtain ⟨I', S⟩ := I.store N.apart k2 hs (v := v) (y := y) ⟨_, hn, by simp⟩ side r
    exact ⟨μ, trivial, I', S, .refl⟩
  · obtain ⟨u, hu⟩ := I.slots i _ k3
    refine wpAny_storeName_cell hk (by unfold Env.kindOf; rw [N.sc]; exact k1) k2 hu fun h' hc hs => ?_
    have side : ∀ t : Slot, t ≠ .c a → t.own = (Slot.c a).own → (t.Ok s.heap → t.Ok h') ∧ ∀ u, t.Holds s.heap u → t.Holds h' u := by
      intro t ht ho
      cases t with
      | c b => exact (ht (by rw [show b = a from ho])).elim
      | d D n =>
        have e : D = a := ho
        subst e
        constructor
        · rintro ⟨m, o2, es, ep, ho2, hd2, _⟩
          obtain ⟨o, ho', hd⟩ := hu
          obtain rfl := Option.some.inj (ho'.symm.trans ho2)
          rw [hd] at hd2; cases hd2
        · rintro w ⟨m, ⟨o2, es, ep, ho2, hd2, _⟩, _⟩
          obtain ⟨o, ho', hd⟩ := hu
          obtain rfl := Option.some.inj (ho'.symm.trans ho2)
          rw [hd] at hd2; cases hd2
    obtain ⟨I', S⟩ := I.store N.apart k3 hs (v := v) (y := y) hc side r
    exact ⟨μ, trivial, I', S, .refl⟩

noncomputable def SOk (n : Nat) (mg mb : Str → Option Value) (prog : Program) (w : World) (base : Heap) (F : Fn) (K : Nat) (e : Sm) : Prop :=
  ∀ (g : Gm) (py : Stmt) (c : Cx) (st : St) (μ : List Addr) (s : Shared), c.prog = prog → c.w = w → c.base = base → mS g e py = true → Good n mg mb c g → Inv c st μ s.heap → Sim c (exec py c.env) (evS F K e st) rFl st.σ μ s
noncomputable def SsOk (n : Nat) (mg mb : Str → Option Value) (prog : Program) (w : World) (base : Heap) (F : Fn) (K : Nat) (e : Sms) : Prop :=
  ∀ (g : Gm) (py : List Stmt) (c : Cx) (st : St) (μ : List Addr) (s : Shared), c.prog = prog → c.w = w → c.base = base → mSs g e py = true → Good n mg mb c g → Inv c st μ s.heap → Sim c (execs py c.env) (evSs F K e st) rFl st.σ μ s

section
variable {n : Nat} {mg mb : Str → Option Value} {prog : Program} {w : World} {base : Heap} {F : Fn} {K : Nat}

theorem snd_snil : SsOk n mg mb prog w base F K .nil := by
  intro g py c st μ s e1 e2 e3 hm hg I
  cases py <;> try (exact absurd hm Bool.false_ne_true)
  exact Sim.pure I trivial
theorem snd_scons {x : Sm} {xs : Sms} (hx : SOk n mg mb prog w base F K x) (hxs : SsOk n mg mb prog w base F K xs) : SsOk n mg mb prog w base F K (.cons x xs) := by
  intro g py c st μ s e1 e2 e3 hm hg I
  cases py <;> try (exact absurd hm Bool.false_ne_true)
  simp [m_bool, m_int, m_str, m_loc, m_fz, m_bin, m_cmp, m_chain, m_band2, m_band3, m_bor2, m_bor3, m_not, m_neg, m_ite, m_tup, m_list, m_listM, m_sub, m_slice, m_isin, m_bi, m_me, m_call, m_comp, m_nil, m_cons, m_onone, m_osome, m_val, m_range1, m_range2, m_zip, m_asg, m_expr, m_ret, m_ifte, m_for1, m_forT, m_while, m_snil, m_scons, m_tcons] at hm
  rw [execs_cons]
  simp only [qvSs_nil, qvSs_cons]
  refine Sim.bind (hx _ _ c st μ s e1 e2 e3 hm.1 hg I) fun fl st₁ f μ₁ s₁ _ rf I₁ S₁ => ?_
  cases f <;> cases fl <;> try (exact rf.elim)
  · exact hxs _ _ c st₁ μ₁ s₁ e1 e2 e3 hm.2 hg I₁
  · exact Sim.pure I₁ trivial
  · exact Sim.pure I₁ trivial
  · exact Sim.pure I₁ rf

theorem snd_brk : SOk n mg mb prog w base F K .brk := by
  intro g py c st μ s e1 e2 e3 hm hg I
  obtain ⟨_, rfl, _⟩ := onBreak_inv hm
  exact Sim.leaf I (wpAny_Break ⟨.refl, .refl, trivial⟩)
theorem snd_ret {e : Ex} (he : EOk n mg mb prog w base F e) : SOk n mg mb prog w base F K (.ret e) := by
  intro g py c st μ s e1 e2 e3 hm hg I
  obtain ⟨v, p, rfl, _⟩ := onRet_inv hm
  cases v <;> try (exact absurd hm Bool.false_ne_true)
  simp [m_bool, m_int, m_str, m_loc, m_fz, m_bin, m_cmp, m_chain, m_band2, m_band3, m_bor2, m_bor3, m_not, m_neg, m_ite, m_tup, m_list, m_listM, m_sub, m_slice, m_isin, m_bi, m_me, m_call, m_comp, m_nil, m_cons, m_onone, m_osome, m_val, m_range1, m_range2, m_zip, m_asg, m_expr, m_ret, m_ifte, m_for1, m_forT, m_while, m_snil, m_scons, m_tcons] at hm
  rw [exec_Return_some]
  simp only [qvS_asg, qvS_asgT, qvS_expr, qvS_ret, qvS_ifte, qvS_for1, qvS_forT, qvS_while, qvS_brk]
  refine Sim.at (Sim.bind (he _ _ c st μ s e1 e2 e3 hm hg I) fun x st₁ v μ₁ s₁ _ rx I₁ S₁ => Sim.pure I₁ rx)
theorem snd_ifte {d : Ex} {a b : Sms} (hd : IOk n mg mb prog w base F d) (ha : SsOk n mg mb prog w base F K a) (hb : SsOk n mg mb prog w base F K b) : SOk n mg mb prog w base F K (.ifte d a b) := by
  intro g py c st μ s e1 e2 e3 hm hg I
  obtain ⟨_, _, _, _, rfl, _⟩ := onIfS_inv hm
  simp [m_bool, m_int, m_str, m_loc, m_fz, m_bin, m_cmp, m_chain, m_band2, m_band3, m_bor2, m_bor3, m_not, m_neg, m_ite, m_tup, m_list, m_listM, m_sub, m_slice, m_isin, m_bi, m_me, m_call, m_comp, m_nil, m_cons, m_onone, m_osome, m_val, m_range1, m_range2, m_zip, m_asg, m_expr, m_ret, m_ifte, m_for1, m_forT, m_while, m_snil, m_scons, m_tcons] at hm
  obtain ⟨⟨h1, h2⟩, h3⟩ := hm
  rw [exec_If]
  simp only [qvS_asg, qvS_asgT, qvS_expr, qvS_ret, qvS_ifte, qvS_for1, qvS_forT, qvS_while, qvS_brk]
  refine Sim.at (Sim.bind (hd.2 _ _ c st μ s e1 e2 e3 h1 hg I) fun t st₁ t' μ₁ s₁ _ rt I₁ S₁ => ?_)
  cases rt
  exact Sim.cond (fun _ => ha _ _ c st₁ μ₁ s₁ e1 e2 e3 h2 hg I₁) fun _ => hb _ _ c st₁ μ₁ s₁ e1 e2 e3 h3 hg I₁

theorem interactive_no {c : Cx} {g : Gm} (N : Nm c g) : interactive c.env = false := by
  unfold interactive
  rw [N.sc, N.kind]; rfl
theorem swaps_no {env : Env} {v : Expr} {t : Option Expr} {l : Nat} (h : isComp v = false) : swapsWith v t l env = pure false := by
  cases v <;> first | rfl | (exact nomatch (h : true = false))
theorem snd_expr {e : Ex} (he : EOk n mg mb prog w base F e) : SOk n mg mb prog w base F K (.expr e) := by
  intro g py c st μ s e1 e2 e3 hm hg I
  obtain ⟨v, p, rfl, _⟩ := onExprS_inv hm
  simp [m_bool, m_int, m_str, m_loc, m_fz, m_bin, m_cmp, m_chain, m_band2, m_band3, m_bor2, m_bor3, m_not, m_neg, m_ite, m_tup, m_list, m_listM, m_sub, m_slice, m_isin, m_bi, m_me, m_call, m_comp, m_nil, m_cons, m_onone, m_osome, m_val, m_range1, m_range2, m_zip, m_asg, m_expr, m_ret, m_ifte, m_for1, m_forT, m_while, m_snil, m_scons, m_tcons] at hm
  rw [exec_Expr _ _ _ (interactive_no hg.nm) (swaps_no hm.2)]
  simp only [qvS_asg, qvS_asgT, qvS_expr, qvS_ret, qvS_ifte, qvS_for1, qvS_forT, qvS_while, qvS_brk]
  refine Sim.at (Sim.bind (he _ _ c st μ s e1 e2 e3 hm.1 hg I) fun x st₁ u μ₁ s₁ _ rx I₁ S₁ => ?_)
  exact Sim.leaf I₁ (wpAny_dropValue ⟨.refl, .refl, trivial⟩)

theorem snd_asg0 {i : Nat} {e : Ex} (he : EOk n mg mb prog w base F e) (g : Gm) (x : Str) (p : Pos) (v : Expr) (p' : Pos) (c : Cx) (st : St) (μ : List Addr) (s : Shared) (e1 : c.prog = prog) (e2 : c.w = w) (e3 : c.base = base)
    (h1 : g.lv x i = true) (h2 : mE g e v = true) (hs : swapsWith v (some (.Name x p)) p'.line c.env = pure false) (hg : Good n mg mb c g) (I : Inv c st μ s.heap) :
    Sim c (exec (.Assign [.Name x p] v p') c.env) (evS F K (.asg i e) st) rFl st.σ μ s := by
  rw [exec_Assign_Name _ _ _ _ _ hs]
  simp only [qvS_asg, qvS_asgT, qvS_expr, qvS_ret, qvS_ifte, qvS_for1, qvS_forT, qvS_while, qvS_brk]
  refine Sim.at (Sim.bind (he _ _ c st μ s e1 e2 e3 h2 hg I) fun y st₁ u μ₁ s₁ _ rx I₁ S₁ => Sim.at ?_)
  show Sim c _ ((R.ok () (setV st₁ i y)).bind fun _ st => R.ok .next st) rFl st₁.σ μ₁ s₁
  refine Sim.bind (Sim.imp (fun Q h => wpAny_bindName h) (store_var hg.nm h1 I₁ rx)) fun _ st₂ _ μ₂ s₂ he _ I₂ S₂ => ?_
  cases he
  exact Sim.pure I₂ trivial

theorem rFl_of {st : St} {μ : List Addr} {h : Heap} {f : Flow} {x : Fl} (r : rFl st μ h f x) : (f = .next ∧ x = .next) ∨ (f = .brk ∧ x = .brk) ∨ (f = .cont ∧ x = .cont) ∨ ∃ v y, f = .ret v ∧ x = .ret y ∧ RepV (Tr st.σ μ) μ h v y := by
  cases f <;> cases x <;> simp_all [rFl]

/-- while -/
theorem snd_while {d : Ex} {body : Sms} (hd : IOk n mg mb prog w base F d) (hb : SsOk n mg mb prog w base F K body) : SOk n mg mb prog w base F K (.while d body) := by
  intro g py c st μ s e1 e2 e3 hm hg I
  obtain ⟨test, bd, orelse, p, rfl, _⟩ := onWhile_inv hm
  cases orelse <;> try (exact absurd hm Bool.false_ne_true)
  simp [m_bool, m_int, m_str, m_loc, m_fz, m_bin, m_cmp, m_chain, m_band2, m_band3, m_bor2, m_bor3, m_not, m_neg, m_ite, m_tup, m_list, m_listM, m_sub, m_slice, m_isin, m_bi, m_me, m_call, m_comp, m_nil, m_cons, m_onone, m_osome, m_val, m_range1, m_range2, m_zip, m_asg, m_expr, m_ret, m_ifte, m_for1, m_forT, m_while, m_snil, m_scons, m_tcons] at hm
  obtain ⟨h1, h2⟩ := hm
  simp only [qvS_asg, qvS_asgT, qvS_expr, qvS_ret, qvS_ifte, qvS_for1, qvS_forT, qvS_while, qvS_brk]
  cases hr : whileR (fun st => truthR (evE F d st)) (fun st => evSs F K body st) K st with
  | stuck => trivial
  | exc _ _ => trivial
  | ok fl stF =>
    suffices h : ∀ Qp : Flow → Shared → Prop, (∀ f (s' : Shared), (∃ μ', rFl stF μ' s'.heap f fl ∧ Inv c stF μ' s'.heap ∧ Stp c st.σ μ s.heap stF.σ μ' s'.heap ∧ Same s s') → Qp f s') → wpAny (model c.prog c.w) c.A (exec (.While test bd [] p) c.env) Qp (fun _ _ => False) s from h _ fun _ _ h => h
    intro Qp hQ
    obtain ⟨J, hJ⟩ : ∃ J : Nat → Shared → Prop, ∀ k s', J k s' ↔ ∃ st' μ', whileR (fun st => truthR (evE F d st)) (fun st => evSs F K body st) k st' = .ok fl stF ∧ Inv c st' μ' s'.heap ∧ Stp c st.σ μ s.heap st'.σ μ' s'.heap ∧ Same s s' := ⟨_, fun _ _ => Iff.rfl⟩
    refine wpAny_While (codeAny_whileLoop J (fun k s' hJk => ?_) K ((hJ _ _).mpr ⟨st, μ, hr, I, .refl, .refl⟩))
    obtain ⟨st', μ', hk, I', S', Q'⟩ := (hJ k s').mp hJk
    cases k with
    | zero => simp [whileR] at hk
    | succ k =>
      simp only [whileR] at hk
      have ht := hd.2 _ _ c st' μ' s' e1 e2 e3 h1 hg I'
      obtain ⟨t, st₁, hT, hk⟩ := R.bind_inv hk
      rw [hT] at ht
      refine wpAny_mono ht (fun t' s₁ ⟨μ₁, rt, I₁, S₁, Q₁⟩ => ?_) fun _ _ e => e.elim
      cases rt
      cases t with
      | false =>
        simp only [Bool.false_eq_true, if_false] at hk ⊢
        cases hk
        exact wpAny_execs_nil (hQ _ _ ⟨μ₁, trivial, I₁, S'.trans S₁, Q'.trans Q₁⟩)
      | true =>
        simp only [if_true] at hk ⊢
        have hbd := hb _ _ c st₁ μ₁ s₁ e1 e2 e3 h2 hg I₁
        obtain ⟨f, st₂, hB, hk⟩ := R.bind_inv hk
        rw [hB] at hbd
        refine wpAny_mono hbd (fun f' s₂ ⟨μ₂, rf, I₂, S₂, Q₂⟩ => ?_) fun _ _ e => e.elim
        have S3 := (S'.trans S₁).trans S₂
        have Q3 := (Q'.trans Q₁).trans Q₂
        rcases rFl_of rf with ⟨rfl, rfl⟩ | ⟨rfl, rfl⟩ | ⟨rfl, rfl⟩ | ⟨v, y, rfl, rfl, rv⟩
        · exact ⟨k, Nat.lt_succ_self _, (hJ _ _).mpr ⟨st₂, μ₂, hk, I₂, S3, Q3⟩⟩
        · cases hk; exact hQ _ _ ⟨μ₂, trivial, I₂, S3, Q3⟩
        · exact ⟨k, Nat.lt_succ_self _, (hJ _ _).mpr ⟨st₂, μ₂, hk, I₂, S3, Q3⟩⟩
        · cases hk; exact hQ _ _ ⟨μ₂, rv, I₂, S3, Q3⟩
end
end Mine
namespace Mine
open PySem PySem.Calls PyProof.Rows

/-- later states keep what values reach -/
structure Kp (σ₀ : List O) (μ₀ : List Addr) (h₀ : Heap) (σ : List O) (μ : List Addr) (h : Heap) : Prop where
  size : h₀.objs.size ≤ h.objs.size
  keep : ∀ b o, h₀.get? b = some o → Still o → ¬ Tr σ₀ μ₀ b → h.get? b = some o
  pre : ∀ (n : Nat) (a : Addr), μ₀[n]? = some a → μ[n]? = some a
  tr : ∀ b, Tr σ μ b → Tr σ₀ μ₀ b ∨ h₀.objs.size ≤ b
  pv : ∀ (n : Nat), σ₀[n]? = some O.priv → σ[n]? = some O.priv
theorem Kp.trans {σ₀ σ₁ σ₂ : List O} {μ₀ μ₁ μ₂ : List Addr} {h₀ h₁ h₂ : Heap} (x : Kp σ₀ μ₀ h₀ σ₁ μ₁ h₁) (y : Kp σ₁ μ₁ h₁ σ₂ μ₂ h₂) : Kp σ₀ μ₀ h₀ σ₂ μ₂ h₂ where
  size := Nat.le_trans x.size y.size
  keep := fun b o e hd hT => y.keep b o (x.keep b o e hd hT) hd fun q => (x.tr b q).elim hT fun q => Nat.lt_irrefl _ (Nat.lt_of_lt_of_le (Heap.lt_size e) q)
  pre := fun n a e => y.pre n a (x.pre n a e)
  tr := fun b q => (y.tr b q).elim (fun q => x.tr b q) fun q => .inr (Nat.le_trans x.size q)
  pv := fun n e => y.pv n (x.pv n e)
theorem Stp.kp {c : Cx} {st : St} {μ μ' : List Addr} {σ' : List O} {h h' : Heap} (I : Inv c st μ h) (S : Stp c st.σ μ h σ' μ' h') : Kp st.σ μ h σ' μ' h' where
  size := S.size
  keep := fun b o e hd hT => S.keep b o e (fun q => I.own_data q e hd) hT
  pre := S.pre
  tr := S.tr
  pv := S.pv
theorem Kp.ext {σ : List O} {μ : List Addr} {h h' : Heap} (e : Ext h h') : Kp σ μ h σ μ h' := ⟨e.1, fun b o q _ _ => e.2 b o q, fun _ _ q => q, fun _ q => .inl q, fun _ q => q⟩

section
variable {σ₀ σ : List O} {μ₀ μ : List Addr} {h₀ h : Heap}
theorem RepV.kp (K : Kp σ₀ μ₀ h₀ σ μ h) {v : Value} {x : V} (r : RepV (Tr σ₀ μ₀) μ₀ h₀ v x) : RepV (Tr σ μ) μ h v x :=
  r.move (fun a o e hd hq => ⟨K.keep a o e hd hq, fun q => (K.tr a q).elim hq fun q => Nat.lt_irrefl _ (Nat.lt_of_lt_of_le (Heap.lt_size e) q)⟩) K.pre
theorem RepVs.kp (K : Kp σ₀ μ₀ h₀ σ μ h) {v : List Value} {x : List V} (r : RepVs (Tr σ₀ μ₀) μ₀ h₀ v x) : RepVs (Tr σ μ) μ h v x :=
  r.move (fun a o e hd hq => ⟨K.keep a o e hd hq, fun q => (K.tr a q).elim hq fun q => Nat.lt_irrefl _ (Nat.lt_of_lt_of_le (Heap.lt_size e) q)⟩) K.pre
end

/-- no sequence lies at the addresses wr -/
noncomputable def Odd (wr : List Addr) (h : Heap) : Prop := ∀ b ∈ wr, ∃ o, h.get? b = some o ∧ ¬ Still o
noncomputable def But (wr : List Addr) (h h' : Heap) : Prop := ∀ b o, b ∉ wr → h.get? b = some o → h'.get? b = some o
theorem RepV.but {T : Addr → Prop} {μ wr : List Addr} {h h' : Heap} (k : But wr h h') (od : Odd wr h) {v : Value} {x : V} (r : RepV T μ h v x) : RepV T μ h' v x := by
  have nseq : ∀ a o, h.get? a = some o → Still o → a ∉ wr := fun a o e hd q => by
    obtain ⟨o', e', hd'⟩ := od a q
    obtain rfl := Option.some.inj (e.symm.trans e')
    exact hd' hd
  exact r.move (fun a o e hd hT => ⟨k a o (nseq a o e hd) e, hT⟩) fun _ _ q => q
theorem RepVs.but {T : Addr → Prop} {μ wr : List Addr} {h h' : Heap} (k : But wr h h') (od : Odd wr h) {v : List Value} {x : List V} (r : RepVs T μ h v x) : RepVs T μ h' v x := by
  have nseq : ∀ a o, h.get? a = some o → Still o → a ∉ wr := fun a o e hd q => by
    obtain ⟨o', e', hd'⟩ := od a q
    obtain rfl := Option.some.inj (e.symm.trans e')
    exact hd' hd
  exact r.move (fun a o e hd hT => ⟨k a o (nseq a o e hd) e, hT⟩) fun _ _ q => q

/-- what changes is nothing of ours -/
theorem Inv.but {c : Cx} {wr : List Addr} {st : St} {μ : List Addr} {h h' : Heap} (I : Inv c st μ h) (k : But wr h h') (hsz : h.objs.size ≤ h'.objs.size)
    (od : Odd wr h) (own : ∀ b ∈ wr, ¬ Own c b) (mem : ∀ b ∈ wr, b ∉ μ) (bs : ∀ b ∈ wr, c.base.get? b = none) : Inv c st μ h' := by
  refine ⟨fun i x q => ?_, fun i s q => (I.slots i s q).keeps fun o e => k _ o (fun m => own _ m ⟨i, s, q, rfl⟩) e, fun n o q => ?_, I.len, I.nd, fun a q => Nat.lt_of_lt_of_le (I.lt a q) hsz,
    fun b o q => k b o (fun m => by rw [bs b m] at q; cases q) (I.base b o q), I.baseS, I.baseM, I.sep⟩
  · obtain ⟨s, v, g1, g2, g3⟩ := I.vars i x q
    exact ⟨s, v, g1, g2.keeps fun o e => k _ o (fun m => own _ m ⟨i, s, g1, rfl⟩) e, g3.but k od⟩
  · obtain ⟨a, ha, r⟩ := I.objs n o q
    refine ⟨a, ha, ?_⟩
    cases r with
    | dead => exact .dead
    | priv => exact .priv
    | live ho L r => exact .live (k a _ (fun m => mem a m (List.mem_of_getElem? ha)) ho) L (r.but k od)

/-- an iterator at `it` that hands out xs; (σ₀, μ₀, h₀): the state ahead of its making -/
structure Itr (prog : Program) (w : World) (A : Around) (it : Addr) (fp wr : List Addr) (xs : List V) (σ₀ : List O) (μ₀ : List Addr) (h₀ : Heap) (Sp : Nat → Heap → Prop) : Prop where
  sub : ∀ b ∈ wr, b ∈ fp
  frame : ∀ i h h', Sp i h → (∀ b ∈ fp, ∀ o, h.get? b = some o → h'.get? b = some o) → Sp i h'
  odd : ∀ i h, Sp i h → Odd wr h
  wrn : ∀ b ∈ wr, h₀.objs.size ≤ b
  fpo : ∀ b ∈ fp, b ∈ wr ∨ (∃ o vs n, h₀.get? b = some o ∧ o.data = .seq vs n ∧ ¬ Tr σ₀ μ₀ b) ∨ ∃ k : Nat, σ₀[k]? = some O.priv ∧ μ₀[k]? = some b
  item : ∀ i x (s : Shared) (σ : List O) (μ : List Addr) (Q : Option Value → Shared → Prop), xs[i]? = some x → Sp i s.heap → Kp σ₀ μ₀ h₀ σ μ s.heap →
    (∀ v h' tk, But wr s.heap h' → s.heap.objs.size ≤ h'.objs.size → Sp (i + 1) h' → RepV (Tr σ μ) μ h' v x → Q (some v) { s with heap := h', toks := tk }) →
    wpAny (model prog w) A (pyNext (.ref it)) Q (fun _ _ => False) s
  done : ∀ (s : Shared) (Q : Option Value → Shared → Prop), Sp xs.length s.heap →
    (∀ h' tk, But wr s.heap h' → s.heap.objs.size ≤ h'.objs.size → Q none { s with heap := h', toks := tk }) → wpAny (model prog w) A (pyNext (.ref it)) Q (fun _ _ => False) s
  again : ∀ i (s : Shared) (Q : Value → Shared → Prop) (E : Value → Shared → Prop), Sp i s.heap → Q (.ref it) s → wpAny (model prog w) A (pyIter (.ref it)) Q E s

section
variable {c : Cx} {it : Addr} {fp wr : List Addr} {xs : List V} {σ₀ : List O} {μ₀ : List Addr} {h₀ : Heap} {Sp : Nat → Heap → Prop}

/-- the turns keep the iterator -/
theorem Itr.keep (W : Itr c.prog c.w c.A it fp wr xs σ₀ μ₀ h₀ Sp) {i : Nat} {st : St} {σ' : List O} {μ μ' : List Addr} {h h' : Heap} (own : ∀ b ∈ wr, ¬ Own c b) (mem : ∀ b ∈ wr, b ∉ μ) (I : Inv c st μ h)
    (K : Kp σ₀ μ₀ h₀ st.σ μ h) (S' : Stp c st.σ μ h σ' μ' h') (sp : Sp i h) : Sp i h' ∧ ∀ b ∈ wr, b ∉ μ' := by
  refine ⟨W.frame i h h' sp fun b q o e => ?_, fun b q m => (S'.new b m).elim (mem b q) fun k => ?_⟩
  · rcases W.fpo b q with q | ⟨o', vs, n, q1, q2, q3⟩ | ⟨k, q1, q2⟩
    rotate_left 2
    · exact S'.pk k b o (K.pv k q1) (K.pre k b q2) e
    · exact S'.keep b o e (own b q) fun t => mem b q t.mem
    · have e' := K.keep b o' q1 (.inl ⟨vs, n, q2⟩) q3
      obtain rfl := Option.some.inj (e.symm.trans e')
      exact S'.keep b o e (fun q => I.own_data q e (.inl ⟨vs, n, q2⟩)) fun t => (K.tr b t).elim q3 fun k => Nat.lt_irrefl _ (Nat.lt_of_lt_of_le (Heap.lt_size q1) k)
  · obtain ⟨o, e, _⟩ := W.odd i h sp b q
    exact Nat.lt_irrefl _ (Nat.lt_of_lt_of_le (Heap.lt_size e) k)
theorem Stp.but {σ : List O} {μ : List Addr} {h h' : Heap} (wrn : ∀ b ∈ wr, h₀.objs.size ≤ b) (k : But wr h h') (hsz : h.objs.size ≤ h'.objs.size) (S : Stp c σ₀ μ₀ h₀ σ μ h) : Stp c σ₀ μ₀ h₀ σ μ h' where
  size := Nat.le_trans S.size hsz
  keep := fun b o e h1 h2 => k b o (fun q => Nat.lt_irrefl _ (Nat.lt_of_lt_of_le (Heap.lt_size e) (wrn b q))) (S.keep b o e h1 h2)
  pre := S.pre
  tr := S.tr
  new := S.new
  pv := S.pv
  pk := fun n a o e e' e'' => k a o (fun q => Nat.lt_irrefl _ (Nat.lt_of_lt_of_le (Heap.lt_size e'') (wrn a q))) (S.pk n a o e e' e'')
theorem Kp.but {σ : List O} {μ : List Addr} {h h' : Heap} (wrn : ∀ b ∈ wr, h₀.objs.size ≤ b) (k : But wr h h') (hsz : h.objs.size ≤ h'.objs.size) (S : Kp σ₀ μ₀ h₀ σ μ h) : Kp σ₀ μ₀ h₀ σ μ h' where
  size := Nat.le_trans S.size hsz
  keep := fun b o e h1 h2 => k b o (fun q => Nat.lt_irrefl _ (Nat.lt_of_lt_of_le (Heap.lt_size e) (wrn b q))) (S.keep b o e h1 h2)
  pre := S.pre
  tr := S.tr
  pv := S.pv

theorem wr_apart {st₀ : St} (I₀ : Inv c st₀ μ₀ h₀) (wrn : ∀ b ∈ wr, h₀.objs.size ≤ b) : ∀ b ∈ wr, c.base.get? b = none ∧ ¬ Own c b ∧ b ∉ μ₀ := fun b q => by
  refine ⟨?_, fun o => ?_, fun m => Nat.lt_irrefl _ (Nat.lt_of_lt_of_le (I₀.lt b m) (wrn b q))⟩
  · cases h : c.base.get? b with
    | none => rfl
    | some o => exact absurd (Nat.lt_of_lt_of_le (Heap.lt_size (I₀.base b o h)) (wrn b q)) (Nat.lt_irrefl _)
  · obtain ⟨ob, ho⟩ := Own_get I₀ o
    exact Nat.lt_irrefl _ (Nat.lt_of_lt_of_le (Heap.lt_size ho) (wrn b q))

/-- the turns of a for loop -/
theorem loop_engine {c : Cx} {target : Expr} {it : Addr} {body : List Stmt} {xs : List V} {as : V → St → R Unit} {bd : St → R Fl} {fl : Fl} {stF : St} {Rs : Result → Shared → Prop} (P : Nat → St → List Addr → Shared → Prop) (D : St → List Addr → Shared → Prop)
    (inv : ∀ i st μ s, P i st μ s → Inv c st μ s.heap) (toD : ∀ i st μ s, P i st μ s → D st μ s)
    (keep : ∀ i st μ (s : Shared) st' μ' (s' : Shared), P i st μ s → Inv c st' μ' s'.heap → Stp c st.σ μ s.heap st'.σ μ' s'.heap → Same s s' → P i st' μ' s')
    (item : ∀ i x st μ (s : Shared) (Q : Value → Shared → Prop), xs[i]? = some x → P i st μ s → (∀ v s₂, RepV (Tr st.σ μ) μ s₂.heap v x → P (i + 1) st μ s₂ → Q v s₂) →
      wpAny (model c.prog c.w) c.A (pyNext (.ref it)) (fun r s₁ => match r with
        | none => False
        | some v => wpAny (model c.prog c.w) c.A (letOwnedTupleGo target (.ref it) v) (fun _ s₂ => Q v s₂) (fun _ _ => False) s₁) (fun _ _ => False) s)
    (done : ∀ st μ (s : Shared) (Q : Option Value → Shared → Prop), P xs.length st μ s → (∀ s₂, D st μ s₂ → Q none s₂) → wpAny (model c.prog c.w) c.A (pyNext (.ref it)) Q (fun _ _ => False) s)
    (hA : ∀ x v st μ (s : Shared), RepV (Tr st.σ μ) μ s.heap v x → Inv c st μ s.heap → Sim c (assign target c.env v) (as x st) rU st.σ μ s)
    (hB : ∀ st μ (s : Shared), Inv c st μ s.heap → Sim c (execs body c.env) (bd st) rFl st.σ μ s)
    (hR : ∀ μ (s : Shared) f, D stF μ s → rFl stF μ s.heap f fl → Rs (.ok f) s)
    {st₁ : St} {μ₁ : List Addr} {s₁ : Shared} (h1 : P 0 st₁ μ₁ s₁) (hr : forR (fun x st => (as x st).bind fun _ st => bd st) xs st₁ = .ok fl stF) :
    codeAny (model c.prog c.w) c.A (.forLoop target (.ref it) body [] c.env) Rs s₁ := by
  obtain ⟨J, hJ⟩ : ∃ J : Nat → Shared → Prop, ∀ k s', J k s' ↔ ∃ i st μ, k = xs.length + 1 - i ∧ i ≤ xs.length ∧ forR (fun x st => (as x st).bind fun _ st => bd st) (xs.drop i) st = .ok fl stF ∧ P i st μ s' := ⟨_, fun _ _ => Iff.rfl⟩
  have fin : ∀ k i st μ (s : Shared) f g, i < xs.length → k = xs.length + 1 - i → P (i + 1) st μ s → rFl st μ s.heap g f →
      (match f with | .next => forR (fun x st => (as x st).bind fun _ st => bd st) (xs.drop (i + 1)) st | .cont => forR (fun x st => (as x st).bind fun _ st => bd st) (xs.drop (i + 1)) st | .brk => .ok .next st | .ret v => .ok (.ret v) st) = .ok fl stF →
      (match g with | .next | .cont => ∃ m, m < k ∧ J m s | .brk => Rs (.ok .next) s | .ret v => Rs (.ok (.ret v)) s) := by
    intro k i st μ s f g hlt hk hP rf hf
    rcases rFl_of rf with ⟨rfl, rfl⟩ | ⟨rfl, rfl⟩ | ⟨rfl, rfl⟩ | ⟨w, y, rfl, rfl, rw'⟩
    · exact ⟨xs.length + 1 - (i + 1), by omega, (hJ _ _).mpr ⟨i + 1, st, μ, rfl, hlt, hf, hP⟩⟩
    · cases hf; exact hR μ s _ (toD _ _ _ _ hP) trivial
    · exact ⟨xs.length + 1 - (i + 1), by omega, (hJ _ _).mpr ⟨i + 1, st, μ, rfl, hlt, hf, hP⟩⟩
    · cases hf; exact hR μ s _ (toD _ _ _ _ hP) rw'
  refine codeAny_forLoop_any J (fun k s' hk => ?_) (xs.length + 1) ((hJ _ _).mpr ⟨0, st₁, μ₁, rfl, Nat.zero_le _, hr, h1⟩)
  obtain ⟨i, st, μ, hki, hi, hf, hP⟩ := (hJ k s').mp hk
  have fin' := fin k i
  clear fin hJ hk
  by_cases hlt : i < xs.length
  · obtain ⟨x, hx⟩ : ∃ x, xs[i]? = some x := ⟨xs[i], by simp [hlt]⟩
    have hd : xs.drop i = x :: xs.drop (i + 1) := by
      rw [List.drop_eq_getElem_cons hlt]
      congr 1
      exact Option.some.inj ((List.getElem?_eq_getElem hlt).symm.trans hx)
    rw [hd] at hf
    obtain ⟨f, st₃, hAB, hf⟩ := R.bind_inv hf
    obtain ⟨_, st₂, hA', hB'⟩ := R.bind_inv hAB
    refine wpAny_mono (item i x st μ s' (fun v s₂ => RepV (Tr st.σ μ) μ s₂.heap v x ∧ P (i + 1) st μ s₂) hx hP fun v s₂ rv hP₂ => ⟨rv, hP₂⟩) (fun r s₂ hr₂ => ?_) fun _ _ e => (e : False).elim
    cases r with
    | none => exact (hr₂ : False).elim
    | some v =>
      refine wpAny_mono hr₂ (fun _ s₂ h₂ => ?_) fun _ _ e => (e : False).elim
      have ha := hA x v st μ s₂ h₂.1 (inv _ _ _ _ h₂.2)
      rw [hA'] at ha
      refine wpAny_mono ha (fun _ s₃ h₃ => ?_) fun _ _ e => (e : False).elim
      obtain ⟨μ₂, hP₃⟩ : ∃ μ₂, P (i + 1) st₂ μ₂ s₃ := h₃.elim fun μ₂ h₃ => ⟨μ₂, keep _ _ _ _ _ _ _ h₂.2 h₃.2.1 h₃.2.2.1 h₃.2.2.2⟩
      have hb := hB st₂ μ₂ s₃ (inv _ _ _ _ hP₃)
      rw [show bd st₂ = .ok f st₃ from hB'] at hb
      exact wpAny_mono hb (fun g s₄ h₄ => h₄.elim fun μ₃ h₄ => fin' st₃ μ₃ s₄ f g hlt hki (keep _ _ _ _ _ _ _ hP₃ h₄.2.1 h₄.2.2.1 h₄.2.2.2) h₄.1 hf) fun _ _ e => (e : False).elim
  · have hi' : i = xs.length := by omega
    subst hi'
    rw [List.drop_length] at hf
    cases hf
    exact wpAny_mono (done stF μ s' (fun r s₂ => r = none ∧ D stF μ s₂) hP fun s₂ hD => ⟨rfl, hD⟩) (fun r s₂ h₂ => by
      rw [h₂.1]
      exact wpAny_execs_nil (hR μ s₂ _ h₂.2 trivial)) fun _ _ e => (e : False).elim

/-- a for loop whose target needs no word of the iterator -/
theorem sim_forLoop {target : Expr} {body : List Stmt} {as : V → St → R Unit} {bd : St → R Fl} {s₀ s₁ : Shared} {st₀ : St} (W : Itr c.prog c.w c.A it fp wr xs st₀.σ μ₀ s₀.heap Sp) (start : Sp 0 s₁.heap)
    (hA : ∀ x v st μ (s : Shared), RepV (Tr st.σ μ) μ s.heap v x → Inv c st μ s.heap → Sim c (assign target c.env v) (as x st) rU st.σ μ s)
    (hB : ∀ st μ (s : Shared), Inv c st μ s.heap → Sim c (execs body c.env) (bd st) rFl st.σ μ s)
    (I₀ : Inv c st₀ μ₀ s₀.heap) (X₀ : Ext s₀.heap s₁.heap) (Q₀ : Same s₀ s₁)
    {fl : Fl} {stF : St} (hr : forR (fun x st => (as x st).bind fun _ st => bd st) xs st₀ = .ok fl stF) (ht : ∀ v, letOwnedTupleGo target (.ref it) v = pure ()) :
    codeAny (model c.prog c.w) c.A (.forLoop target (.ref it) body [] c.env) (fun r s' => match r with
      | .ok f => ∃ μ', rFl stF μ' s'.heap f fl ∧ Inv c stF μ' s'.heap ∧ Stp c st₀.σ μ₀ s₀.heap stF.σ μ' s'.heap ∧ Same s₀ s'
      | .error _ => False) s₁ := by
  have wall := wr_apart I₀ W.wrn
  have wapart : ∀ b ∈ wr, ¬ Own c b := fun b q => (wall b q).2.1
  have wbase : ∀ b ∈ wr, c.base.get? b = none := fun b q => (wall b q).1
  refine loop_engine (as := as) (bd := bd) (fl := fl) (stF := stF)
    (P := fun i st μ s => Sp i s.heap ∧ Inv c st μ s.heap ∧ (∀ b ∈ wr, b ∉ μ) ∧ Stp c st₀.σ μ₀ s₀.heap st.σ μ s.heap ∧ Same s₀ s) (D := fun st μ s => Inv c st μ s.heap ∧ Stp c st₀.σ μ₀ s₀.heap st.σ μ s.heap ∧ Same s₀ s)
    (fun i st μ s h => h.2.1) (fun i st μ s h => ⟨h.2.1, h.2.2.2⟩) (fun i st μ s st' μ' s' h I' S' Q' => ?_) (fun i x st μ s Q hx h hQ => ?_) (fun st μ s Q h hQ => ?_) hA hB (fun μ s f h rf => ⟨μ, rf, h⟩)
    (st₁ := st₀) (μ₁ := μ₀) ⟨start, I₀.ext X₀, fun b q => (wall b q).2.2, .ext X₀, Q₀⟩ hr
  · obtain ⟨hst₂, mem₂⟩ := W.keep wapart h.2.2.1 h.2.1 (h.2.2.2.1.kp I₀) S' h.1
    exact ⟨hst₂, I', mem₂, h.2.2.2.1.trans S', h.2.2.2.2.trans Q'⟩
  · refine W.item i x s st.σ μ _ hx h.1 (h.2.2.2.1.kp I₀) fun v h' tk hk hsz hst' rv => ?_
    dsimp only
    rw [ht v]
    exact wpAny_pure (hQ v _ rv ⟨hst', h.2.1.but hk hsz (W.odd i _ h.1) wapart h.2.2.1 wbase, h.2.2.1, h.2.2.2.1.but W.wrn hk hsz, h.2.2.2.2⟩)
  · exact W.done s _ h.1 fun h' tk hk hsz => hQ _ ⟨h.2.1.but hk hsz (W.odd _ _ h.1) wapart h.2.2.1 wbase, h.2.2.2.1.but W.wrn hk hsz, h.2.2.2.2⟩
end

/-- out of the library's walks -/
theorem Itr.of_walks {prog : Program} {w : World} {A : Around} {it : Addr} {fp wr : List Addr} {xs : List V} {σ₀ : List O} {μ₀ : List Addr} {h₀ : Heap} {Sp : Nat → Heap → Prop} {P : Nat → Value → Prop}
    (W : Walks prog w A it fp wr xs.length P Sp) (odd : ∀ i h, Sp i h → Odd wr h) (wrn : ∀ b ∈ wr, h₀.objs.size ≤ b)
    (fpo : ∀ b ∈ fp, b ∈ wr ∨ (∃ o vs n, h₀.get? b = some o ∧ o.data = .seq vs n ∧ ¬ Tr σ₀ μ₀ b) ∨ ∃ k : Nat, σ₀[k]? = some O.priv ∧ μ₀[k]? = some b)
    (hP : ∀ i x v σ (μ : List Addr) (h : Heap), xs[i]? = some x → P i v → Kp σ₀ μ₀ h₀ σ μ h → RepV (Tr σ μ) μ h v x) :
    Itr prog w A it fp wr xs σ₀ μ₀ h₀ Sp where
  sub := W.sub
  frame := W.frame
  odd := odd
  wrn := wrn
  fpo := fpo
  item := fun i x s σ μ Q hx hst K hQ => wpAny_with_size (W.item i s _ _ (List.getElem?_eq_some_iff.mp hx).1 hst fun v h' tk hp hst' hk hsz => hQ v h' tk hk hsz hst' (hP i x v σ μ h' hx hp (K.but wrn hk hsz)))
  done := fun s Q hst hQ => wpAny_with_size (W.done s _ _ hst fun h' tk hk hsz => hQ h' tk hk hsz)
  again := fun i s Q E hst hQ => W.self i s Q E hst hQ

/-- what may be walked -/
noncomputable def rSrc (prog : Program) (w : World) (A : Around) (st : St) (μ : List Addr) (h : Heap) (v : Value) (xs : List V) : Prop :=
  ∀ (s : Shared) (Q : Value → Shared → Prop), s.heap = h →
    (∀ I fp wr Sp s', Ext h s'.heap → Same s s' → Itr prog w A I fp wr xs st.σ μ h Sp → Sp 0 s'.heap → Q (.ref I) s') → wpAny (model prog w) A (pyIter v) Q (fun _ _ => False) s

theorem not_still {o : Obj} {fs : Array Value} (hd : o.data = .fields fs) : ¬ Still o := fun q => by rcases q with ⟨vs, n, q⟩ | q <;> rw [hd] at q <;> cases q
theorem odd_one {I : Addr} {h : Heap} {o : Obj} {fs : Array Value} (e : h.get? I = some o) (hd : o.data = .fields fs) : Odd [I] h := fun b q => by
  obtain rfl := List.mem_singleton.mp q
  exact ⟨o, e, not_still hd⟩

section
variable {c : Cx} {st : St} {μ : List Addr} {h : Heap} {v : Value}

theorem src_list (I : Inv c st μ h) (hh : c.A.handled = none) {xs : List V} (r : RepV (Tr st.σ μ) μ h v (.lst xs)) : rSrc c.prog c.w c.A st μ h v xs := by
  rintro s Q rfl hQ
  cases r with
  | @lst a o vs n _ ho hc hd hz hT r =>
    have hlt := Heap.lt_size ho
    refine wpAny_pyIter_list ⟨o, ho, hc, n, hd⟩ (hQ s.heap.objs.size [s.heap.objs.size, a] [s.heap.objs.size] (fun i h => h.IsListIter s.heap.objs.size a i ∧ h.IsList a vs) _ (.push _) .refl (Itr.of_walks (P := fun i v => vs[i]? = some v) ?_ (fun i h hst => ?_) (fun b q => ?_) (fun b q => ?_) fun i x v σ' μ' h' hx hp K => ?_)
      ⟨⟨_, Heap.get?_push_size _ rfl, rfl, rfl⟩, ⟨o, Heap.get?_push_of_some _ ho, hc, n, hd⟩⟩)
    · have e : xs.length = vs.size := by have := r.length; simpa using this.symm
      rw [e]
      exact Walks.list hh _ a (Nat.ne_of_lt hlt) vs
    · obtain ⟨⟨o', ho', _, hd'⟩, _⟩ := hst
      exact odd_one ho' hd'
    · rw [List.mem_singleton.mp q]; exact Nat.le_refl _
    · rcases List.mem_cons.mp q with rfl | q
      · exact .inl (by simp)
      · rw [List.mem_singleton.mp q]; exact .inr (.inl ⟨o, vs, n, ho, hd, hT⟩)
    · obtain ⟨u, hu, ru⟩ := r.get hx
      have : u = v := by simpa [hp] using hu.symm
      subst this
      exact ru.kp K
theorem src_tuple (I : Inv c st μ h) (hh : c.A.handled = none) {xs : List V} (r : RepV (Tr st.σ μ) μ h v (.tup xs)) : rSrc c.prog c.w c.A st μ h v xs := by
  rintro s Q rfl hQ
  cases r with
  | @tup a o vs n _ ho hc hd hz hT r =>
    have hlt := Heap.lt_size ho
    refine wpAny_pyIter_tuple ⟨o, ho, hc, n, hd⟩ (hQ s.heap.objs.size [s.heap.objs.size, a] [s.heap.objs.size] (fun i h => h.IsTupleIter s.heap.objs.size a i ∧ h.IsTuple a vs) _ (.push _) .refl (Itr.of_walks (P := fun i v => vs[i]? = some v) ?_ (fun i h hst => ?_) (fun b q => ?_) (fun b q => ?_) fun i x v σ' μ' h' hx hp K => ?_)
      ⟨⟨_, Heap.get?_push_size _ rfl, rfl, rfl⟩, ⟨o, Heap.get?_push_of_some _ ho, hc, n, hd⟩⟩)
    · have e : xs.length = vs.size := by have := r.length; simpa using this.symm
      rw [e]
      exact Walks.tuple hh _ a (Nat.ne_of_lt hlt) vs
    · obtain ⟨⟨o', ho', _, hd'⟩, _⟩ := hst
      exact odd_one ho' hd'
    · rw [List.mem_singleton.mp q]; exact Nat.le_refl _
    · rcases List.mem_cons.mp q with rfl | q
      · exact .inl (by simp)
      · rw [List.mem_singleton.mp q]; exact .inr (.inl ⟨o, vs, n, ho, hd, hT⟩)
    · obtain ⟨u, hu, ru⟩ := r.get hx
      have : u = v := by simpa [hp] using hu.symm
      subst this
      exact ru.kp K

theorem strOk_get {x : Str} (h : PyData.strOk x = true) {i d : Nat} (e : x.cps[i]? = some d) : PyData.strOk ⟨#[d]⟩ = true := by
  unfold PyData.strOk at h ⊢
  have := Array.all_eq_true.mp h
  obtain ⟨hi, rfl⟩ := Array.getElem?_eq_some_iff.mp e
  simpa using this i hi
theorem src_str (hh : c.A.handled = none) {l : List Nat} (r : RepV (Tr st.σ μ) μ h v (.str l)) : rSrc c.prog c.w c.A st μ h v (l.map fun d => .str [d]) := by
  rintro s Q rfl hQ
  obtain ⟨x, t, rfl, rfl, h1, h2⟩ := r.str_inv
  have hP : ∀ i y v σ' (μ' : List Addr) (h' : Heap), (x.cps.toList.map fun d => V.str [d])[i]? = some y → SignAt x i v → Kp st.σ μ s.heap σ' μ' h' → RepV (Tr σ' μ') μ' h' v y := by
    rintro i y v σ' μ' h' hx ⟨d, u, hd, rfl⟩ K
    have e : y = .str [d] := by simpa [hd] using hx.symm
    subst e
    exact .str ⟨#[d]⟩ u (strOk_get h1 hd) (by show 1 ≤ sizeLine; decide)
  have hw : ∀ b ∈ [s.heap.objs.size], s.heap.objs.size ≤ b := fun b q => by rw [List.mem_singleton.mp q]; exact Nat.le_refl _
  cases ha : x.cps.all (· < 128)
  · refine wpAny_pyIter_wide ha (hQ s.heap.objs.size [s.heap.objs.size] [s.heap.objs.size] (fun i h => h.IsStrIter s.heap.objs.size "str_iterator" x t i) _ (.push _) .refl (Itr.of_walks (P := SignAt x) (by simpa using Walks.strWide hh _ x t) (fun i h ⟨o', ho', _, hd'⟩ => odd_one ho' hd') hw (fun b q => .inl q) hP)
      ⟨_, Heap.get?_push_size _ rfl, rfl, rfl⟩)
  · refine wpAny_pyIter_ascii ha (hQ s.heap.objs.size [s.heap.objs.size] [s.heap.objs.size] (fun i h => h.IsStrIter s.heap.objs.size "str_ascii_iterator" x t i) _ (.push _) .refl (Itr.of_walks (P := SignAt x) (by simpa using Walks.strAscii hh _ x t) (fun i h ⟨o', ho', _, hd'⟩ => odd_one ho' hd') hw (fun b q => .inl q) hP)
      ⟨_, Heap.get?_push_size _ rfl, rfl, rfl⟩)
theorem src_items (I : Inv c st μ h) (hh : c.A.handled = none) {x : V} (r : RepV (Tr st.σ μ) μ h v x) {xs : List V} (e : itemsSem st.σ x = some xs) : rSrc c.prog c.w c.A st μ h v xs := by
  unfold itemsSem at e
  split at e
  · cases e; exact src_str hh r
  · cases e; exact src_list I hh r
  · cases e; exact src_tuple I hh r
  · cases e
theorem src_range (hh : c.A.handled = none) {a : Addr} {lo hi : Int} {t u w : Tok} (hr : IsRange h a lo hi 1 t u w) (h1 : smallR lo = true) (h2 : smallR hi = true) : rSrc c.prog c.w c.A st μ h (.ref a) (upTo lo hi) := by
  rintro s Q rfl hQ
  simp [smallR] at h1 h2
  refine wpAny_pyIter_range hr (small_one (by omega) (by omega) (by omega) (by omega)) (hQ s.heap.objs.size [s.heap.objs.size] [s.heap.objs.size] _ _ (.push _) .refl
    (Itr.of_walks (P := fun i v => ∃ t, v = .int (lo + (i : Nat) * 1) t) (by simpa [upTo] using Walks.range hh s.heap.objs.size lo 1 (hi - lo).toNat) (fun i h hst => odd_one (h := h) hst rfl) (fun b q => by rw [List.mem_singleton.mp q]; exact Nat.le_refl _) (fun b q => .inl q)
      fun i y v σ' μ' h' hx hp K => ?_) ?_)
  · obtain ⟨t, rfl⟩ := hp
    unfold upTo at hx
    rw [List.getElem?_map] at hx
    obtain ⟨k, hk, rfl⟩ := Option.map_eq_some_iff.mp hx
    obtain ⟨hk1, rfl⟩ := List.getElem?_eq_some_iff.mp hk
    simp only [List.getElem_range, Int.mul_one]
    exact .int _ _
  · show IsRangeIter _ _ _ _ _
    rw [rangeSize_nat]
    simpa using Heap.get?_push_size _ rfl
end
end Mine
namespace Mine
open PySem PySem.Calls PyProof.Rows

noncomputable def ItOk (n : Nat) (mg mb : Str → Option Value) (prog : Program) (w : World) (base : Heap) (F : Fn) (it : It) : Prop :=
  ∀ (g : Gm) (py : Expr) (c : Cx) (st : St) (μ : List Addr) (s : Shared), c.prog = prog → c.w = w → c.base = base → mI g it py = true → Good n mg mb c g → Inv c st μ s.heap → Sim c (eval py c.env) (evIt F it st) (rSrc c.prog c.w c.A) st.σ μ s

section
variable {n : Nat} {mg mb : Str → Option Value} {prog : Program} {w : World} {base : Heap} {F : Fn} {K : Nat}

theorem Sim.conseq {α β δ : Type} {c : Cx} {σ : List O} {μ : List Addr} {s : Shared} {rel : St → List Addr → Heap → α → β → Prop} {rel' : St → List Addr → Heap → α → δ → Prop} {t : Sem α} {m : R β} {g : β → St → R δ}
    (h : Sim c t m rel σ μ s) (hr : ∀ b st a μ (s : Shared) d st', Inv c st μ s.heap → rel st μ s.heap a b → g b st = .ok d st' → st' = st ∧ rel' st μ s.heap a d) : Sim c t (m.bind g) rel' σ μ s := by
  cases m with
  | stuck => trivial
  | exc x st => trivial
  | ok b st =>
    simp only [R.bind_ok]
    cases hg : g b st with
    | stuck => trivial
    | exc x st => trivial
    | ok d st' =>
      refine wpAny_mono h (fun a s' ⟨μ', h1, h2, h3, h4⟩ => ?_) fun _ _ e => e
      obtain ⟨rfl, q⟩ := hr b st a μ' s' d st' h2 h1 hg
      exact ⟨μ', q, h2, h3, h4⟩

theorem Good.hh {c : Cx} {g : Gm} (hg : Good n mg mb c g) : c.A.handled = none := hg.a.hh

theorem it_val {e : Ex} (he : EOk n mg mb prog w base F e) : ItOk n mg mb prog w base F (.val e) := by
  intro g py c st μ s e1 e2 e3 hm hg I
  rw [m_val] at hm
  simp only [qvIt_val, qvIt_range1, qvIt_range2, qvIt_enum, qvIt_zip]
  refine Sim.conseq (he _ _ c st μ s e1 e2 e3 hm hg I) fun x st₁ v μ₁ s₁ d st' I₁ rx hq => ?_
  cases hx : itemsSem st₁.σ x with
  | none => rw [hx] at hq; cases hq
  | some xs => rw [hx] at hq; cases hq; exact ⟨rfl, src_items I₁ hg.hh rx hx⟩

theorem mE_notSet {g : Gm} {e : Ex} {py : Expr} (h : mE g e py = true) (env : Env) (x : Value) : foldedSetIterable py env x = pure x := by
  cases py <;> first | rfl | (cases e <;> exact absurd h Bool.false_ne_true)
theorem mI_notSet {g : Gm} {it : It} {py : Expr} (h : mI g it py = true) (env : Env) (x : Value) : foldedSetIterable py env x = pure x := by
  cases it with
  | val e => exact mE_notSet (by rw [m_val] at h; exact h) env x
  | _ => cases py <;> first | rfl | (exact absurd h Bool.false_ne_true)

theorem it_range1 {a : Ex} (ha : EOk n mg mb prog w base F a) : ItOk n mg mb prog w base F (.range1 a) := by
  intro g py c st μ s e1 e2 e3 hm hg I
  obtain ⟨f', as, ks, pos, rfl, hk⟩ := onCall_inv hm
  obtain ⟨f', p, rfl, _⟩ := onName_inv hk
  rcases as with _ | ⟨x, _ | ⟨y, r⟩⟩ <;> try (exact absurd hm Bool.false_ne_true)
  cases ks <;> try (exact absurd hm Bool.false_ne_true)
  simp [m_bool, m_int, m_str, m_loc, m_fz, m_bin, m_cmp, m_chain, m_band2, m_band3, m_bor2, m_bor3, m_not, m_neg, m_ite, m_tup, m_list, m_listM, m_sub, m_slice, m_isin, m_bi, m_me, m_call, m_comp, m_nil, m_cons, m_onone, m_osome, m_val, m_range1, m_range2, m_zip, m_asg, m_expr, m_ret, m_ifte, m_for1, m_forT, m_while, m_snil, m_scons, m_tcons] at hm
  obtain ⟨⟨rfl, h1⟩, h3⟩ := hm
  rw [arm_eval_Call_Name']
  simp only [qvIt_val, qvIt_range1, qvIt_range2, qvIt_enum, qvIt_zip]
  rw [bind_unit (fun st => (evE F a st).bind _)]
  have hx : noStar x := fun rest env => mE_notStar h3 rest env
  have hx' : ∀ y ∈ [x], noStar y := fun y hy => by rw [List.mem_singleton.mp hy]; exact hx
  refine Sim.bind (rel := fun _ _ _ v (_ : Unit) => v = Value.type "range") (Sim.leaf I (load_builtin hg I h1 (by simp) boot_range ⟨.refl, .refl, rfl⟩)) fun _ st₁ v μ₁ s₁ he rv I₁ S₁ => ?_
  cases he
  cases rv
  have e5 : ∀ k : V → St → R (List V), (evE F a st).bind k = (evEs F (.cons a .nil) st).bind fun xs st => match xs with | [x] => k x st | _ => .stuck := by
    intro k; simp only [qvEs_nil, qvEs_cons]; cases evE F a st <;> rfl
  rw [e5]
  refine Sim.via (f := fun vs => call (.type "range") vs) (fun Q h => callT hx' h) (snd_cons ha snd_nil g [x] c st μ₁ s₁ pos e1 e2 e3 (by simp [m_cons, m_nil, h3]) hg I₁) fun xs st₂ vs μ₂ s₂ _ rx I₂ S₂ => ?_
  cases rx with
  | nil => trivial
  | cons r0 rr =>
    cases rr with
    | cons _ _ => trivial
    | nil =>
      simp only
      split
      · rename_i m
        split
        · rename_i hs
          obtain ⟨t, rfl⟩ := r0.int_inv
          exact Sim.leaf I₂ (call_range_1 ⟨.push _, ⟨rfl, rfl, rfl⟩, src_range hg.hh (IsRange.new ..) (by decide) hs⟩)
        · trivial
      · trivial
theorem it_range2 {a b : Ex} (ha : EOk n mg mb prog w base F a) (hb : EOk n mg mb prog w base F b) : ItOk n mg mb prog w base F (.range2 a b) := by
  intro g py c st μ s e1 e2 e3 hm hg I
  obtain ⟨f', as, ks, pos, rfl, hk⟩ := onCall_inv hm
  obtain ⟨f', p, rfl, _⟩ := onName_inv hk
  rcases as with _ | ⟨x, _ | ⟨y, _ | ⟨z, r⟩⟩⟩ <;> try (exact absurd hm Bool.false_ne_true)
  cases ks <;> try (exact absurd hm Bool.false_ne_true)
  simp [m_bool, m_int, m_str, m_loc, m_fz, m_bin, m_cmp, m_chain, m_band2, m_band3, m_bor2, m_bor3, m_not, m_neg, m_ite, m_tup, m_list, m_listM, m_sub, m_slice, m_isin, m_bi, m_me, m_call, m_comp, m_nil, m_cons, m_onone, m_osome, m_val, m_range1, m_range2, m_zip, m_asg, m_expr, m_ret, m_ifte, m_for1, m_forT, m_while, m_snil, m_scons, m_tcons] at hm
  obtain ⟨⟨⟨rfl, h1⟩, h3⟩, h4⟩ := hm
  rw [arm_eval_Call_Name']
  simp only [qvIt_val, qvIt_range1, qvIt_range2, qvIt_enum, qvIt_zip]
  rw [bind_unit (fun st => (evE F a st).bind _)]
  have hx : noStar x := fun rest env => mE_notStar h3 rest env
  have hy : noStar y := fun rest env => mE_notStar h4 rest env
  have hx' : ∀ z ∈ [x, y], noStar z := fun z hz => by
    rcases List.mem_cons.mp hz with rfl | hz
    · exact hx
    · rw [List.mem_singleton.mp hz]; exact hy
  refine Sim.bind (rel := fun _ _ _ v (_ : Unit) => v = Value.type "range") (Sim.leaf I (load_builtin hg I h1 (by simp) boot_range ⟨.refl, .refl, rfl⟩)) fun _ st₁ v μ₁ s₁ he rv I₁ S₁ => ?_
  cases he
  cases rv
  have e5 : ∀ k : V → V → St → R (List V), ((evE F a st).bind fun x st => (evE F b st).bind fun y st => k x y st) = (evEs F (.cons a (.cons b .nil)) st).bind fun xs st => match xs with | [x, y] => k x y st | _ => .stuck := by
    intro k; simp only [qvEs_nil, qvEs_cons]
    cases evE F a st with
    | stuck => rfl
    | exc _ _ => rfl
    | ok x st =>
      simp only [R.bind_ok]
      cases evE F b st <;> rfl
  rw [e5]
  refine Sim.via (f := fun vs => call (.type "range") vs) (fun Q h => callT hx' h) (snd_cons ha (snd_cons hb snd_nil) g [x, y] c st μ₁ s₁ pos e1 e2 e3 (by simp [m_cons, m_nil, h3, h4]) hg I₁) fun xs st₂ vs μ₂ s₂ _ rx I₂ S₂ => ?_
  cases rx with
  | nil => trivial
  | cons r0 rr =>
    cases rr with
    | nil => trivial
    | cons r1 rr =>
      cases rr with
      | cons _ _ => trivial
      | nil =>
        simp only
        split
        · rename_i m k
          split
          · rename_i hs
            simp at hs
            obtain ⟨t, rfl⟩ := r0.int_inv
            obtain ⟨t, rfl⟩ := r1.int_inv
            exact Sim.leaf I₂ (call_range_2 ⟨.push _, ⟨rfl, rfl, rfl⟩, src_range hg.hh (IsRange.new ..) hs.1 hs.2⟩)
          · trivial
        · trivial

theorem snd_for1 {i : Nat} {it : It} {body : Sms} (hi : ItOk n mg mb prog w base F it) (hb : SsOk n mg mb prog w base F K body) : SOk n mg mb prog w base F K (.for1 i it body) := by
  intro g py c st μ s e1 e2 e3 hm hg I
  obtain ⟨tgt, iter, bd, orelse, p, rfl, hk⟩ := onFor_inv hm
  obtain ⟨x, px, rfl, _⟩ := onName_inv hk
  cases orelse <;> try (exact absurd hm Bool.false_ne_true)
  simp [m_bool, m_int, m_str, m_loc, m_fz, m_bin, m_cmp, m_chain, m_band2, m_band3, m_bor2, m_bor3, m_not, m_neg, m_ite, m_tup, m_list, m_listM, m_sub, m_slice, m_isin, m_bi, m_me, m_call, m_comp, m_nil, m_cons, m_onone, m_osome, m_val, m_range1, m_range2, m_zip, m_asg, m_expr, m_ret, m_ifte, m_for1, m_forT, m_while, m_snil, m_scons, m_tcons] at hm
  obtain ⟨⟨h1, h2⟩, h3⟩ := hm
  simp only [qvS_asg, qvS_asgT, qvS_expr, qvS_ret, qvS_ifte, qvS_for1, qvS_forT, qvS_while, qvS_brk]
  have hI := hi _ _ c st μ s e1 e2 e3 h2 hg I
  cases hR : evIt F it st with
  | stuck => trivial
  | exc _ _ => trivial
  | ok xs st₁ =>
    rw [hR] at hI
    simp only [R.bind_ok]
    cases hr : forR (fun x st => evSs F K body (setV st i x)) xs st₁ with
    | stuck => trivial
    | exc _ _ => trivial
    | ok fl stF =>
      refine wpAny_For (wpAny_mono hI (fun v s₁ ⟨μ₁, rs, I₁, S₁, Q₁⟩ => ?_) fun _ _ e => e) (mI_notSet h2 _)
      refine rs s₁ _ rfl fun it fp wr Sp s₂ X₂ Q₂ W hst => ?_
      refine codeAny_mono (sim_forLoop (target := .Name x px) (body := bd) (as := fun y st => .ok () (setV st i y)) (bd := fun st => evSs F K body st) (st₀ := st₁) (s₀ := s₁) (s₁ := s₂) W hst
        (fun y v st μ s r I => ?_) (fun st μ s I => hb _ _ c st μ s e1 e2 e3 h3 hg I) I₁ X₂ Q₂ (fl := fl) (stF := stF) hr (fun _ => rfl)) ?_
      · exact Sim.imp (fun Q h => wpAny_assign_Name h) (store_var hg.nm h1 I r)
      · rintro r s' hr'
        cases r with
        | ok f =>
          obtain ⟨μ', g1, g2, g3, g4⟩ := hr'
          exact ⟨μ', g1, g2, S₁.trans g3, Q₁.trans g4⟩
        | error e => exact hr'.elim
end
end Mine
namespace Mine
open PySem PySem.Calls PyProof.Rows

theorem Inv.frozen {c : Cx} {st : St} {μ : List Addr} {h : Heap} (I : Inv c st μ h) {n : Nat} {xs : List V} (hn : st.σ[n]? = some (.lst xs)) :
    Inv c ⟨st.ρ, st.σ.set n .dead⟩ μ h ∧ Stp c st.σ μ h (st.σ.set n .dead) μ h ∧ ∀ v, RepV (Tr st.σ μ) μ h v (.ref n) → RepV (Tr (st.σ.set n .dead) μ) μ h v (.lst xs) := by
  have hlt : n < st.σ.length := (List.getElem?_eq_some_iff.mp hn).1
  have sub : ∀ b, Tr (st.σ.set n .dead) μ b → Tr st.σ μ b := by
    rintro b ⟨k, o, e1, e2, e3⟩
    by_cases hk : n = k
    · subst hk
      have e4 : O.dead = o := by simpa [hlt] using e1
      subst e4; cases e2
    · rw [List.getElem?_set_ne hk] at e1; exact ⟨k, o, e1, e2, e3⟩
  have S : Stp c st.σ μ h (st.σ.set n .dead) μ h := ⟨Nat.le_refl _, fun _ _ e _ _ => e, fun _ _ e => e, fun b q => .inl (sub b q), fun _ q => .inl q, pv_set hn (by simp), fun _ _ _ _ _ e => e⟩
  have mv : ∀ {v : Value} {x : V}, RepV (Tr st.σ μ) μ h v x → RepV (Tr (st.σ.set n .dead) μ) μ h v x := fun r => r.move (fun a o e _ hT => ⟨e, fun q => hT (sub a q)⟩) fun _ _ q => q
  have mvs : ∀ {v : List Value} {x : List V}, RepVs (Tr st.σ μ) μ h v x → RepVs (Tr (st.σ.set n .dead) μ) μ h v x := fun r => r.move (fun a o e _ hT => ⟨e, fun q => hT (sub a q)⟩) fun _ _ q => q
  refine ⟨⟨fun j x q => ?_, I.slots, fun k o q => ?_, by simpa using I.len, I.nd, I.lt, I.base, I.baseS, I.baseM, I.sep⟩, S, ?_⟩
  · obtain ⟨s, v, g1, g2, g3⟩ := I.vars j x q
    exact ⟨s, v, g1, g2, mv g3⟩
  · dsimp only at q ⊢
    by_cases hk : n = k
    · subst hk
      have e4 : O.dead = o := by simpa [hlt] using q
      subst e4
      obtain ⟨a, ha, _⟩ := I.objs n _ hn
      exact ⟨a, ha, .dead⟩
    · rw [List.getElem?_set_ne hk] at q
      obtain ⟨a, ha, r⟩ := I.objs k o q
      refine ⟨a, ha, ?_⟩
      cases r with
      | dead => exact .dead
      | priv => exact .priv
      | live ho L r => exact .live ho L (mvs r)
  · intro v r
    cases r with
    | ref ha =>
      obtain ⟨a', ha', ro⟩ := I.objs n _ hn
      obtain rfl := Option.some.inj (ha.symm.trans ha')
      obtain ⟨vs, nn, ho, hz, r⟩ := ro.lst_inv
      refine .lst ho rfl rfl hz ?_ (mvs r)
      rintro ⟨k, o, e1, e2, e3⟩
      have : n = k := (List.getElem?_inj (List.getElem?_eq_some_iff.mp ha).1 I.nd).mp (ha.trans e3.symm)
      subst this
      have e4 : O.dead = o := by simpa [hlt] using e1
      subst e4; cases e2

/-! closures -/
theorem lookup_fun {f : Str → Addr} : ∀ {l : List (Str × Addr)} {y : Str}, (∀ p ∈ l, p.2 = f p.1) → (∃ p ∈ l, p.1 = y) → l.lookup y = some (f y)
  | [], _, _, ⟨p, hp, _⟩ => by simp at hp
  | (n, a) :: r, y, h, ⟨p, hp, e⟩ => by
    rw [List.lookup_cons]
    by_cases hy : y = n
    · subst hy
      simp only [beq_self_eq_true]
      rw [show a = f y from h (y, a) (by simp)]
    · have hb : (y == n) = false := by simp [hy]
      simp only [hb]
      refine lookup_fun (fun q hq => h q (by simp [hq])) ?_
      rcases List.mem_cons.mp hp with rfl | hp
      · exact (hy e.symm).elim
      · exact ⟨p, hp, e⟩
noncomputable def closF (env : Env) (n : Str) : Addr := (env.cells.lookup n).getD 0
noncomputable def closL (env : Env) : List (Str × NameKind) → List (Str × Addr) → List (Str × Addr)
  | [], cs => cs
  | (n, k) :: r, cs => closL env r (if k == .free then (n, closF env n) :: cs else cs)
theorem closL_val (env : Env) : ∀ (names : List (Str × NameKind)) (cs : List (Str × Addr)), (∀ p ∈ cs, p.2 = closF env p.1) → ∀ p ∈ closL env names cs, p.2 = closF env p.1
  | [], _, h => h
  | (n, k) :: r, cs, h => closL_val env r _ (by
      split
      · intro p hp
        rcases List.mem_cons.mp hp with rfl | hp
        · rfl
        · exact h p hp
      · exact h)
theorem closL_mem (env : Env) {y : Str} : ∀ (names : List (Str × NameKind)) (cs : List (Str × Addr)), ((∃ p ∈ cs, p.1 = y) ∨ (y, NameKind.free) ∈ names) → ∃ p ∈ closL env names cs, p.1 = y
  | [], _, h => h.elim id fun h => by simp at h
  | (n, k) :: r, cs, h => closL_mem env r _ (by
      rcases h with ⟨p, hp, e⟩ | h
      · refine .inl ⟨p, ?_, e⟩
        split
        · exact List.mem_cons_of_mem _ hp
        · exact hp
      · rcases List.mem_cons.mp h with h | h
        · cases h
          exact .inl ⟨(y, closF env y), by simp, rfl⟩
        · exact .inr h)
theorem lookup_mem {α : Type} : ∀ {l : List (Str × α)} {y : Str} {k : α}, l.lookup y = some k → (y, k) ∈ l
  | [], _, _, h => by simp at h
  | (n, a) :: r, y, k, h => by
    rw [List.lookup_cons] at h
    by_cases hy : y = n
    · subst hy
      simp at h; subst h; simp
    · have hb : (y == n) = false := by simp [hy]
      simp only [hb] at h
      exact List.mem_cons_of_mem _ (lookup_mem h)
theorem closure_pure {env : Env} {scope : Scope} (h : ∀ p ∈ scope.names, p.2 = .free → ∃ a, env.cells.lookup p.1 = some a) : closureFor scope env = pure (closL env scope.names []) := by
  have go : ∀ (names : List (Str × NameKind)) (cs : List (Str × Addr)), (∀ p ∈ names, p.2 = .free → ∃ a, env.cells.lookup p.1 = some a) →
      (forIn names cs fun (x : Str × NameKind) cs => (if x.2 == NameKind.free then do let a ← cellOf env x.1; pure (ForInStep.yield ((x.1, a) :: cs)) else pure (ForInStep.yield cs) : Sem (ForInStep (List (Str × Addr))))) = pure (closL env names cs) := by
    intro names
    induction names with
    | nil => intro cs _; rfl
    | cons p r ih =>
      intro cs h
      obtain ⟨n, k⟩ := p
      rw [List.forIn_cons]
      by_cases hk : k = .free
      · subst hk
        obtain ⟨a, ha⟩ := h (n, .free) (by simp) rfl
        have hc : cellOf env n = pure a := by unfold cellOf; simp only [ha]
        have hf : closF env n = a := by unfold closF; rw [ha]; rfl
        simp only [beq_self_eq_true, if_true, hc, closL, hf]
        exact ih _ fun p hp => h p (by simp [hp])
      · have hb : (k == NameKind.free) = false := by simp [hk]
        simp only [hb, Bool.false_eq_true, if_false, closL]
        exact ih _ fun p hp => h p (by simp [hp])
  unfold closureFor
  have := go scope.names [] h
  exact congrArg (fun t : Sem (List (Str × Addr)) => t >>= fun cs => pure cs) this

noncomputable def Cx.comp (c : Cx) (scope : Scope) (C : Addr) (x : Str) (k : Nat) : Cx :=
  { c with env := compEnvC scope (closL c.env scope.names []) C c.env, sl := fun i => if i = k then some (.d C x) else c.sl i }

section
variable {c : Cx} {scope : Scope} {C : Addr} {x : Str} {k : Nat} {st : St} {μ : List Addr} {h h' : Heap}

theorem own_comp {b : Addr} (q : Own (c.comp scope C x k) b) : b = C ∨ Own c b := by
  obtain ⟨i, s, h1, h2⟩ := q
  by_cases hi : i = k
  · have e : some (Slot.d C x) = some s := by simpa [Cx.comp, hi] using h1
    cases e; exact .inl h2.symm
  · exact .inr ⟨i, s, by simpa [Cx.comp, hi] using h1, h2⟩

theorem Inv.enter (I : Inv c st μ h) (hC : h.objs.size ≤ C) (X : Ext h h') (hn : ∃ m, h'.Ns C m) : Inv (c.comp scope C x k) ⟨st.ρ.set k none, st.σ⟩ μ h' := by
  have I' := I.ext X
  refine ⟨fun i y q => ?_, fun i s q => ?_, I'.objs, I.len, I.nd, I'.lt, I'.base, fun b q => ?_, I.baseM, fun b q m => ?_⟩
  · dsimp only at q
    by_cases hi : k = i
    · subst hi
      rw [List.getElem?_set] at q
      simp only [if_true] at q
      split at q <;> cases q
    · rw [List.getElem?_set_ne hi] at q
      obtain ⟨s, v, g1, g2, g3⟩ := I'.vars i y q
      exact ⟨s, v, by simpa [Cx.comp, Ne.symm hi] using g1, g2, g3⟩
  · by_cases hi : i = k
    · have e : some (Slot.d C x) = some s := by simpa [Cx.comp, hi] using q
      cases e; exact hn
    · exact I'.slots i s (by simpa [Cx.comp, hi] using q)
  · rcases own_comp q with rfl | q
    · show c.base.get? b = none
      cases hb : c.base.get? b with
      | none => rfl
      | some o => exact absurd (Nat.lt_of_lt_of_le (Heap.lt_size (I.base _ _ hb)) hC) (Nat.lt_irrefl _)
    · exact I.baseS b q
  · rcases own_comp q with rfl | q
    · exact Nat.lt_irrefl _ (Nat.lt_of_lt_of_le (I.lt b m) hC)
    · exact I.sep b q m

theorem Inv.leave (I : Inv (c.comp scope C x k) st μ h) (hk : c.sl k = none) (hCo : ¬ Own c C) (hs : Heap.SameBut C h h') : Inv c ⟨st.ρ.set k none, st.σ⟩ μ h' := by
  have oc : Own (c.comp scope C x k) C := ⟨k, .d C x, by simp [Cx.comp], rfl⟩
  have I₁ : Inv c ⟨st.ρ.set k none, st.σ⟩ μ h := by
    refine ⟨fun i y q => ?_, fun i s q => ?_, I.objs, I.len, I.nd, I.lt, I.base, fun b q => ?_, I.baseM, fun b q => ?_⟩
    · dsimp only at q
      by_cases hi : k = i
      · subst hi
        rw [List.getElem?_set] at q
        simp only [if_true] at q
        split at q <;> cases q
      · rw [List.getElem?_set_ne hi] at q
        obtain ⟨s, v, g1, g2, g3⟩ := I.vars i y q
        exact ⟨s, v, by simpa [Cx.comp, Ne.symm hi] using g1, g2, g3⟩
    · have hi : i ≠ k := fun e => by rw [e, hk] at q; cases q
      exact I.slots i s (by simpa [Cx.comp, hi] using q)
    · obtain ⟨i, s, h1, h2⟩ := q
      have hi : i ≠ k := fun e => by rw [e, hk] at h1; cases h1
      exact I.baseS b ⟨i, s, by simpa [Cx.comp, hi] using h1, h2⟩
    · obtain ⟨i, s, h1, h2⟩ := q
      have hi : i ≠ k := fun e => by rw [e, hk] at h1; cases h1
      exact I.sep b ⟨i, s, by simpa [Cx.comp, hi] using h1, h2⟩
  refine I₁.but (wr := [C]) (fun b o hb e => (hs.2 b (fun q => hb (by simp [q]))).trans e) (Nat.le_of_eq hs.1.symm) (fun b q => ?_) (fun b q => ?_) (fun b q => ?_) (fun b q => ?_)
  · rw [List.mem_singleton.mp q]
    obtain ⟨o, ho⟩ := Own_get I oc
    exact ⟨o, ho, I.own_data oc ho⟩
  · rw [List.mem_singleton.mp q]; exact hCo
  · rw [List.mem_singleton.mp q]; exact I.sep C oc
  · rw [List.mem_singleton.mp q]; exact I.baseS C oc

theorem Stp.inner {c' : Cx} {σ₀ σ₁ σ₂ : List O} {μ₀ μ₁ μ₂ : List Addr} {h₀ h₁ h₂ : Heap} (S : Stp c σ₀ μ₀ h₀ σ₁ μ₁ h₁) (S' : Stp c' σ₁ μ₁ h₁ σ₂ μ₂ h₂) (ho : ∀ b, Own c' b → Own c b ∨ h₀.objs.size ≤ b) : Stp c σ₀ μ₀ h₀ σ₂ μ₂ h₂ where
  size := Nat.le_trans S.size S'.size
  keep := fun b o e h1 h2 => S'.keep b o (S.keep b o e h1 h2) (fun q => (ho b q).elim h1 fun q => Nat.lt_irrefl _ (Nat.lt_of_lt_of_le (Heap.lt_size e) q))
    fun q => (S.tr b q).elim h2 fun q => Nat.lt_irrefl _ (Nat.lt_of_lt_of_le (Heap.lt_size e) q)
  pre := fun n a e => S'.pre n a (S.pre n a e)
  tr := fun b q => (S'.tr b q).elim (fun q => S.tr b q) fun q => .inr (Nat.le_trans S.size q)
  new := fun a q => (S'.new a q).elim (fun q => S.new a q) fun q => .inr (Nat.le_trans S.size q)
  pv := fun n e => S'.pv n (S.pv n e)
  pk := fun n a o e e' e'' => S'.pk n a o (S.pv n e) (S.pre n a e') (S.pk n a o e e' e'')
end

theorem lookup_filter {y : Str} {i : Nat} {p : Str × Nat → Bool} : ∀ {l : List (Str × Nat)}, (∀ a b : Str × Nat, a.1 = b.1 → p a = p b) → (l.filter p).lookup y = some i → l.lookup y = some i ∧ p (y, i) = true
  | [], _, h => by simp at h
  | (n, a) :: r, hp, h => by
    rw [List.filter_cons] at h
    by_cases hq : p (n, a) = true
    · rw [if_pos hq, List.lookup_cons] at h
      rw [List.lookup_cons]
      by_cases hy : y = n
      · subst hy
        simp at h ⊢
        subst h
        exact ⟨rfl, hq⟩
      · have hb : (y == n) = false := by simp [hy]
        simp only [hb] at h ⊢
        exact lookup_filter hp h
    · rw [if_neg hq] at h
      obtain ⟨h1, h2⟩ := lookup_filter hp h
      rw [List.lookup_cons]
      have hy : y ≠ n := fun e => hq ((hp (n, a) (y, i) e.symm).trans h2)
      have hb : (y == n) = false := by simp [hy]
      simp only [hb]
      exact ⟨h1, h2⟩
theorem lookup_relabel_free {g : Gm} : ∀ {names : List (Str × NameKind)} {y : Str}, names.lookup y = some .free → g.sc.kind = .function → g.sc.names.lookup y = some .cell →
    (names.map fun p => if ownFree g p.1 p.2 then (p.1, NameKind.cell) else (p.1, p.2)).lookup y = some .cell
  | [], _, h, _, _ => by simp at h
  | (n, k) :: r, y, h, h1, h2 => by
    rw [List.map_cons]
    by_cases hy : y = n
    · subst hy
      simp at h
      subst h
      have : ownFree g y .free = true := by simp [ownFree, h1, h2]
      simp [this]
    · have hb : (y == n) = false := by simp [hy]
      rw [List.lookup_cons] at h
      simp only [hb] at h
      have ih := lookup_relabel_free h h1 h2
      dsimp only
      split
      · rw [List.lookup_cons]; simp only [hb]; exact ih
      · rw [List.lookup_cons]; simp only [hb]; exact ih

theorem lookup_relabel_cell {g : Gm} : ∀ {names : List (Str × NameKind)} {y : Str}, (∀ p ∈ names, p.2 ≠ .cell) → (names.map fun p => if ownFree g p.1 p.2 then (p.1, NameKind.cell) else (p.1, p.2)).lookup y = some .cell → names.lookup y = some .free
  | [], _, _, h => by simp at h
  | (n, k) :: r, y, hc, h => by
    rw [List.map_cons] at h
    rw [List.lookup_cons]
    by_cases hy : y = n
    · subst hy
      simp only [beq_self_eq_true]
      by_cases ho : ownFree g y k = true
      · unfold ownFree at ho
        simp at ho
        rw [ho.1.1]
      · rw [if_neg ho, List.lookup_cons] at h
        simp at h
        exact (hc (y, k) (by simp) h).elim
    · have hb : (y == n) = false := by simp [hy]
      simp only [hb]
      refine lookup_relabel_cell (g := g) (fun p hp => hc p (by simp [hp])) ?_
      dsimp only at h
      split at h
      · rw [List.lookup_cons] at h; simpa only [hb] using h
      · rw [List.lookup_cons] at h; simpa only [hb] using h

theorem scope_eq {c : Cx} {g : Gm} (N : Nm c g) (scope : Scope) : relabel scope c.env = inScope g scope := by
  unfold relabel inScope ownFree Env.kindOf
  rw [N.sc]

structure CompOk (g : Gm) (scope : Scope) (x : Str) (k : Nat) : Prop where
  kind : scope.kind = .function
  loc : scope.names.lookup x = some .local
  nocell : ∀ p ∈ scope.names, p.2 ≠ .cell
  plain : plainNm x = true
  fresh : k ∉ g.used
  free : ∀ p ∈ scope.names, p.2 = .free → g.sc.names.lookup p.1 = some .cell
  lname : ∀ p ∈ scope.names, p.2 = .local → scope.names.lookup p.1 = some .local
theorem lookup_nodup {α : Type} : ∀ {l : List (Str × α)} {y : Str} {k : α}, (l.map (·.1)).Nodup → (y, k) ∈ l → l.lookup y = some k
  | [], _, _, _, h => by simp at h
  | (n, a) :: r, y, k, hn, h => by
    rw [List.lookup_cons]
    rw [List.map_cons, List.nodup_cons] at hn
    rcases List.mem_cons.mp h with h | h
    · cases h; simp
    · have hy : y ≠ n := fun e => hn.1 (List.mem_map.mpr ⟨(y, k), h, e⟩)
      have hb : (y == n) = false := by simp [hy]
      simp only [hb]
      exact lookup_nodup hn.2 h
theorem compOk_spec {g : Gm} {scope : Scope} {x : Str} {k : Nat} (h : compOk g scope x k = true) : CompOk g scope x k := by
  unfold compOk at h
  simp only [Bool.and_eq_true, decide_eq_true_eq, List.all_eq_true] at h
  obtain ⟨⟨⟨⟨⟨⟨⟨⟨⟨h1, h2⟩, h3⟩, h4⟩, h5⟩, h6⟩, h7⟩, h8⟩, h9⟩, h10⟩ := h
  refine ⟨h1, h2, fun p hp e => ?_, h4, ?_, fun p hp e => ?_, fun p hp e => lookup_nodup h10 (by rw [← e]; exact hp)⟩
  · have := h3 p hp; simp [e] at this
  · simpa using h5
  · have := h8 p hp; simpa [e] using this

theorem Nm.enter {c : Cx} {g : Gm} {scope : Scope} {x : Str} {k : Nat} {C : Addr} (N : Nm c g) (O : CompOk g scope x k) (hC : ¬ Own c C) : Nm (c.comp scope C x k) (g.comp scope x k) where
  sc := scope_eq N scope
  kind := O.kind
  glob := N.glob
  blt := N.blt
  var := by
    intro y i hl
    unfold Gm.comp at hl ⊢
    dsimp only at hl ⊢
    rw [List.lookup_cons] at hl
    by_cases hy : y = x
    · subst hy
      simp at hl
      subst hl
      refine .inl ⟨?_, by simp [Cx.comp, compEnvC]⟩
      have := lookup_relabel_local (env := c.env) O.loc
      have e := scope_eq N scope
      unfold relabel at e
      rw [← e]
      exact this
    · have hb : (y == x) = false := by simp [hy]
      simp only [hb] at hl
      obtain ⟨h1, h2⟩ := lookup_filter (by rintro ⟨a1, a2⟩ ⟨b1, b2⟩ e; dsimp only at e; subst e; rfl) hl
      simp at h2
      obtain ⟨⟨_, h3⟩, h4⟩ := h2
      rcases N.var y i h1 with ⟨k1, _⟩ | ⟨k1, a, k2, k3⟩
      · rw [h4] at k1; cases k1
      · refine .inr ⟨lookup_relabel_free h3 N.kind h4, a, ?_, ?_⟩
        · show (closL c.env scope.names []).lookup y = some a
          rw [lookup_fun (f := closF c.env) (closL_val _ _ _ (by simp)) (closL_mem _ _ _ (.inr (lookup_mem h3)))]
          unfold closF; rw [k2]; rfl
        · have hi : i ≠ k := fun e => O.fresh (e ▸ N.dom i _ k3)
          simpa [Cx.comp, hi] using k3
  apart := by
    intro i j s h1 h2
    by_cases hi : i = k
    · by_cases hj : j = k
      · rw [hi, hj]
      · have e : some (Slot.d C x) = some s := by simpa [Cx.comp, hi] using h1
        cases e
        exact (hC ⟨j, .d C x, by simpa [Cx.comp, hj] using h2, rfl⟩).elim
    · by_cases hj : j = k
      · have e : some (Slot.d C x) = some s := by simpa [Cx.comp, hj] using h2
        cases e
        exact (hC ⟨i, .d C x, by simpa [Cx.comp, hi] using h1, rfl⟩).elim
      · exact N.apart i j s (by simpa [Cx.comp, hi] using h1) (by simpa [Cx.comp, hj] using h2)
  dom := by
    intro i s h1
    by_cases hi : i = k
    · subst hi; exact List.mem_cons_self
    · exact List.mem_cons_of_mem _ (N.dom i s (by simpa [Cx.comp, hi] using h1))
  cells := fun y hy => ⟨_, lookup_fun (f := closF c.env) (closL_val _ _ _ (by simp)) (closL_mem _ _ _ (.inr (lookup_mem (lookup_relabel_cell O.nocell hy))))⟩
theorem Good.enter {n : Nat} {mg mb : Str → Option Value} {c : Cx} {g : Gm} {scope : Scope} {x : Str} {k : Nat} {C : Addr} (hg : Good n mg mb c g) (O : CompOk g scope x k) (hC : ¬ Own c C) : Good n mg mb (c.comp scope C x k) (g.comp scope x k) :=
  ⟨⟨hg.ok.pyl, hg.ok.hh, hg.ok.units, hg.ok.sys⟩, hg.gd, hg.nm.enter O hC, hg.a, hg.gs⟩
end Mine
namespace Mine
open PySem PySem.Calls PyProof.Rows

noncomputable def testsOf (env : Env) (py : List Expr) (b : Bool) : Sem Bool := forIn py b fun q r => if r = true then do let ok ← isTrue q env (eval q env); pure (ForInStep.yield ok) else pure (ForInStep.yield r)
noncomputable def TsOk (n : Nat) (mg mb : Str → Option Value) (prog : Program) (w : World) (base : Heap) (F : Fn) (es : Exs) : Prop :=
  ∀ (g : Gm) (py : List Expr) (c : Cx) (st : St) (μ : List Addr) (s : Shared), c.prog = prog → c.w = w → c.base = base → mEs g es py = true → Good n mg mb c g → Inv c st μ s.heap →
    Sim c (testsOf c.env py true) (evTs F es st) rEq st.σ μ s

section
variable {n : Nat} {mg mb : Str → Option Value} {prog : Program} {w : World} {base : Heap} {F : Fn}

theorem tests_false (env : Env) : ∀ py : List Expr, testsOf env py false = pure false
  | [] => rfl
  | x :: xs => by
    unfold testsOf
    rw [List.forIn_cons]
    simp only [Bool.false_eq_true, if_false]
    exact tests_false env xs
theorem snd_tnil : TsOk n mg mb prog w base F .nil := by
  intro g py c st μ s e1 e2 e3 hm hg I
  cases py <;> try (exact absurd hm Bool.false_ne_true)
  exact Sim.pure I rfl
theorem snd_tcons {e : Ex} {es : Exs} (he : TOk n mg mb prog w base F e) (hes : TsOk n mg mb prog w base F es) : TsOk n mg mb prog w base F (.cons e es) := by
  intro g py c st μ s e1 e2 e3 hm hg I
  cases py <;> try (exact absurd hm Bool.false_ne_true)
  rename_i q qs
  simp [m_bool, m_int, m_str, m_loc, m_fz, m_bin, m_cmp, m_chain, m_band2, m_band3, m_bor2, m_bor3, m_not, m_neg, m_ite, m_tup, m_list, m_listM, m_sub, m_slice, m_isin, m_bi, m_me, m_call, m_comp, m_nil, m_cons, m_onone, m_osome, m_val, m_range1, m_range2, m_zip, m_asg, m_expr, m_ret, m_ifte, m_for1, m_forT, m_while, m_snil, m_scons, m_tcons] at hm
  unfold testsOf
  rw [List.forIn_cons]
  simp only [if_true, qvTs_nil, qvTs_cons]
  have hb := he _ _ c st μ s e1 e2 e3 hm.1 hg I
  have e5 : ((truthR (evE F e st)).bind fun b st => if b = true then evTs F es st else .ok false st) =
      ((truthR (evE F e st)).bind fun b st => R.ok b st).bind fun b st => if b = true then evTs F es st else .ok false st := by cases truthR (evE F e st) <;> rfl
  rw [e5]
  refine Sim.bind (Sim.map (f := ForInStep.yield) (g := fun b => b) (rel' := fun _ _ _ a b => a = ForInStep.yield b) hb fun st μ h a b q => by cases q; rfl) fun b st₁ b' μ₁ s₁ _ rb I₁ S₁ => ?_
  cases rb
  cases b with
  | true =>
    simp only [if_true]
    exact hes _ _ c st₁ μ₁ s₁ e1 e2 e3 hm.2 hg I₁
  | false =>
    simp only [Bool.false_eq_true, if_false]
    exact Sim.of_eq (tests_false c.env qs) (Sim.pure I₁ rfl)

/-- the turns of a comprehension; c is the context within -/
theorem sim_compLoop {c : Cx} {g : Gm} {elt iter : Expr} {x : Str} {px : Pos} {fs : List Expr} {scope : Scope} {pos : Pos} {k m : Nat} {xs : List V} {tests : St → R Bool} {ev : St → R V} {it D : Addr} {fp wr : List Addr} {Sp : Nat → Heap → Prop}
    {σ₀ : List O} {μ₀ : List Addr} {h₀ : Heap} {s₁ : Shared} {st₁ : St} {μ₁ : List Addr} (W : Itr c.prog c.w c.A it fp wr xs σ₀ μ₀ h₀ Sp) (start : Sp 0 s₁.heap) (K₁ : Kp σ₀ μ₀ h₀ st₁.σ μ₁ s₁.heap)
    (N : Nm c g) (hx : g.lv x k = true) (hD : μ₁[m]? = some D) (I₁ : Inv c st₁ μ₁ s₁.heap) (own : ∀ b ∈ wr, ¬ Own c b) (mem₁ : ∀ b ∈ wr, b ∉ μ₁) (bs : ∀ b ∈ wr, c.base.get? b = none)
    (hT : ∀ st μ (s : Shared), Inv c st μ s.heap → Sim c (testsOf c.env fs true) (tests st) rEq st.σ μ s)
    (hE : ∀ st μ (s : Shared), Inv c st μ s.heap → Sim c (eval elt c.env) (ev st) rV st.σ μ s)
    {stF : St} (hr : compR k m tests ev xs st₁ = .ok () stF) {Rs : Result → Shared → Prop}
    (hR : ∀ s' μ', Inv c stF μ' s'.heap → Kp σ₀ μ₀ h₀ stF.σ μ' s'.heap → Stp c st₁.σ μ₁ h₀ stF.σ μ' s'.heap → Same s₁ s' → μ'[m]? = some D → Rs (.ok .next) s') (S₁ : Stp c st₁.σ μ₁ h₀ st₁.σ μ₁ s₁.heap) :
    codeAny (model c.prog c.w) c.A (.compLoop (.ListComp elt [⟨.Name x px, iter, fs, 0⟩] scope pos) 0 (.ref it) (.ref D) c.env) Rs s₁ := by
  obtain ⟨J, hJ⟩ : ∃ J : Nat → Shared → Prop, ∀ j s', J j s' ↔ ∃ i st μ, j = xs.length + 1 - i ∧ i ≤ xs.length ∧ compR k m tests ev (xs.drop i) st = .ok () stF ∧ Sp i s'.heap ∧ Inv c st μ s'.heap ∧
      (∀ b ∈ wr, b ∉ μ) ∧ Kp σ₀ μ₀ h₀ st.σ μ s'.heap ∧ Stp c st₁.σ μ₁ h₀ st.σ μ s'.heap ∧ Same s₁ s' ∧ μ[m]? = some D := ⟨_, fun _ _ => Iff.rfl⟩
  refine codeAny_compLoop_tests J (fun j s' hJj => ?_) (xs.length + 1) ((hJ _ _).mpr ⟨0, st₁, μ₁, by omega, Nat.zero_le _, by simpa using hr, start, I₁, mem₁, K₁, S₁, .refl, hD⟩)
  obtain ⟨i, st, μ, rfl, hi, hf, hst, I', mem, K', T', Q', hD'⟩ := (hJ j s').mp hJj
  by_cases hlt : i < xs.length
  · obtain ⟨y, hy⟩ : ∃ y, xs[i]? = some y := ⟨xs[i], by simp [hlt]⟩
    have hd : xs.drop i = y :: xs.drop (i + 1) := by
      rw [List.drop_eq_getElem_cons hlt]
      congr 1
      exact Option.some.inj ((List.getElem?_eq_getElem hlt).symm.trans hy)
    rw [hd] at hf
    simp only [compR] at hf
    refine wpAny_mono (W.item i y s' st.σ μ _ hy hst K' fun v h' tk hk hsz hst' rv => ?_) (fun _ _ q => q) fun _ _ e => (e : False).elim
    have I'' := I'.but hk hsz (W.odd i _ hst) own mem bs
    have T'' := T'.but W.wrn hk hsz
    have K'' := K'.but W.wrn hk hsz
    have ha : Sim c (assign (.Name x px) c.env v) (.ok () (setV st k y)) rU st.σ μ { s' with heap := h', toks := tk } := Sim.imp (fun Q h => wpAny_assign_Name h) (store_var N hx I'' rv)
    refine wpAny_mono ha (fun _ s₂ ⟨μ₂, _, I₂, S₂, Q₂⟩ => ?_) fun _ _ e => e.elim
    obtain ⟨hst₂, mem₂⟩ := W.keep own mem I'' K'' S₂ hst'
    have K₂ := K''.trans (S₂.kp I'')
    have D₂ := S₂.pre _ _ hD'
    have ht := hT (setV st k y) μ₂ s₂ I₂
    obtain ⟨b, st₃, hT', hf⟩ := R.bind_inv hf
    rw [hT'] at ht
    refine wpAny_mono ht (fun b' s₃ ⟨μ₃, rb, I₃, S₃, Q₃⟩ => ?_) fun _ _ e => e.elim
    cases rb
    obtain ⟨hst₃, mem₃⟩ := W.keep own mem₂ I₂ K₂ S₃ hst₂
    have K₃ := K₂.trans (S₃.kp I₂)
    have D₃ := S₃.pre _ _ D₂
    cases b with
    | false =>
      simp only [Bool.false_eq_true, if_false] at hf ⊢
      exact ⟨xs.length + 1 - (i + 1), by omega, (hJ _ _).mpr ⟨i + 1, st₃, μ₃, rfl, hlt, hf, hst₃, I₃, mem₃, K₃, (T''.trans S₂).trans S₃, (Q'.trans Q₂).trans Q₃, D₃⟩⟩
    | true =>
      simp only [if_true] at hf ⊢
      have he := hE st₃ μ₃ s₃ I₃
      obtain ⟨z, st₄, hE', hf⟩ := R.bind_inv hf
      rw [hE'] at he
      refine wpAny_mono he (fun u s₄ ⟨μ₄, ru, I₄, S₄, Q₄⟩ => ?_) fun _ _ e => e.elim
      obtain ⟨hst₄, mem₄⟩ := W.keep own mem₃ I₃ K₃ S₄ hst₃
      have K₄ := K₃.trans (S₄.kp I₃)
      have D₄ := S₄.pre _ _ D₃
      split at hf
      · rename_i acc hacc
        split at hf
        · rename_i hz
          have hap := sim_me (c := c) (s := s₄) I₄ (.ref D₄ : RepV (Tr st₄.σ μ₄) μ₄ s₄.heap (.ref D) (.ref m)) ru .append
          rw [show meSem .append (.ref m) z st₄ = .ok .none ⟨st₄.ρ, st₄.σ.set m (.lst (acc ++ [z]))⟩ from qm_append st₄.ρ st₄.σ m acc z hacc hz] at hap
          refine wpAny_mono hap (fun _ s₅ ⟨μ₅, _, I₅, S₅, Q₅⟩ => ?_) fun _ _ e => e.elim
          obtain ⟨hst₅, mem₅⟩ := W.keep own mem₄ I₄ K₄ S₅ hst₄
          exact ⟨xs.length + 1 - (i + 1), by omega, (hJ _ _).mpr ⟨i + 1, _, μ₅, rfl, hlt, hf, hst₅, I₅, mem₅, K₄.trans (S₅.kp I₄), (((T''.trans S₂).trans S₃).trans S₄).trans S₅, ((((Q'.trans Q₂).trans Q₃).trans Q₄).trans Q₅), S₅.pre _ _ D₄⟩⟩
        · cases hf
      · cases hf
  · have hi' : i = xs.length := by omega
    subst hi'
    rw [List.drop_length] at hf
    cases hf
    refine wpAny_mono (W.done s' _ hst fun h' tk hk hsz => ?_) (fun _ _ q => q) fun _ _ e => (e : False).elim
    exact hR _ μ (I'.but hk hsz (W.odd _ _ hst) own mem bs) (K'.but W.wrn hk hsz) (T'.but W.wrn hk hsz) Q' hD'
end
end Mine
namespace Mine
open PySem PySem.Calls PyProof.Rows

section
variable {n : Nat} {mg mb : Str → Option Value} {prog : Program} {w : World} {base : Heap} {F : Fn} {K : Nat}

theorem Stp.inner0 {c c' : Cx} {σ₀ σ₁ σ₂ : List O} {μ₀ μ₁ μ₂ : List Addr} {h₀ h₂ : Heap} (tr : ∀ b, Tr σ₁ μ₁ b → Tr σ₀ μ₀ b ∨ h₀.objs.size ≤ b) (pre : ∀ (n : Nat) (a : Addr), μ₀[n]? = some a → μ₁[n]? = some a)
    (new : ∀ a ∈ μ₁, a ∈ μ₀ ∨ h₀.objs.size ≤ a) (pv : ∀ (n : Nat), σ₀[n]? = some O.priv → σ₁[n]? = some O.priv) (S' : Stp c' σ₁ μ₁ h₀ σ₂ μ₂ h₂) (ho : ∀ b, Own c' b → Own c b ∨ h₀.objs.size ≤ b) : Stp c σ₀ μ₀ h₀ σ₂ μ₂ h₂ where
  size := S'.size
  keep := fun b o e h1 h2 => S'.keep b o e (fun q => (ho b q).elim h1 fun q => Nat.lt_irrefl _ (Nat.lt_of_lt_of_le (Heap.lt_size e) q))
    fun q => (tr b q).elim h2 fun q => Nat.lt_irrefl _ (Nat.lt_of_lt_of_le (Heap.lt_size e) q)
  pre := fun n a e => S'.pre n a (pre n a e)
  tr := fun b q => (S'.tr b q).elim (fun q => tr b q) fun q => .inr q
  new := fun a q => (S'.new a q).elim (fun q => new a q) fun q => .inr q
  pv := fun n e => S'.pv n (pv n e)
  pk := fun n a o e e' e'' => S'.pk n a o (pv n e) (pre n a e') e''

theorem comp_core {elt : Ex} {k : Nat} {it : It} {ifs : Exs} (he : EOk n mg mb prog w base F elt) (ht : TsOk n mg mb prog w base F ifs) (hi : ItOk n mg mb prog w base F it) {g : Gm} {pe iter : Expr} {x : Str} {px pos pos' : Pos} {fs : List Expr} {scope : Scope}
    {c : Cx} {st : St} {μ : List Addr} {s : Shared} (e1 : c.prog = prog) (e2 : c.w = w) (e3 : c.base = base) (h1 : compOk g scope x k = true) (h2 : mI g it iter = true) (h3 : mE (g.comp scope x k) elt pe = true) (h4 : mEs (g.comp scope x k) ifs fs = true)
    (hg : Good n mg mb c g) (I : Inv c st μ s.heap) {y : V} {stE : St} (hv : evE F (.comp elt k it ifs) st = .ok y stE) {use : Option (Value → Sem Unit)} {Q : Value → Shared → Prop}
    (hU : ∀ (D C : Addr) (μ' : List Addr) (s' : Shared), RepV (Tr stE.σ μ') μ' s'.heap (.ref D) y → Inv c stE μ' s'.heap → Stp c st.σ μ s.heap stE.σ μ' s'.heap → Same s s' → s.heap.objs.size ≤ C → ¬ Own c C → C ∉ μ' → c.base.get? C = none → Odd [C] s'.heap →
      (∃ m, s'.heap.Ns C m) → compPost (model c.prog c.w) c.A (fun _ _ => False) use Q (.ref D) C (.ok .next) s') :
    wpAny (model c.prog c.w) c.A (comprehension (.ListComp pe [⟨.Name x px, iter, fs, 0⟩] scope pos) scope c.env pos' (newList []) false (eval iter c.env) use) Q (fun _ _ => False) s := by
  have O := compOk_spec h1
  rw [qvE_comp] at hv
  have hI := hi _ _ c st μ s e1 e2 e3 h2 hg I
  obtain ⟨xs, st₁, hR, hv⟩ := R.bind_inv hv
  obtain ⟨u, stF, hr, hv⟩ := R.bind_inv hv
  rw [hR] at hI
  split at hv
  · rename_i ys hys
    cases hv
    have hclos : closureFor scope c.env = pure (closL c.env scope.names []) := closure_pure fun p hp e => by
      have hc := O.free p hp e
      exact hg.nm.cells p.1 hc
    have hk0 : c.sl k = none := by
      cases hq : c.sl k with
      | none => rfl
      | some s' => exact (O.fresh (hg.nm.dom k s' hq)).elim
    refine wpAny_comprehension_free (use := use) rfl (mI_notSet h2 _) hclos O.kind O.lname (wpAny_mono hI (fun v s₁ ⟨μ₁, rs, I₁, S₁, Q₁⟩ => ?_) fun _ _ e => e)
    refine rs s₁ _ rfl fun it fp wr Sp s₂ X₂ Q₂ W hst => ?_
    refine wpAny_newObj_type (wpAny_newFunctionEnv O.nocell (by intro y hy; simp at hy) (fun h₁ hns₁ hsb₁ => ?_) O.kind)
    dsimp only at hns₁ hsb₁ ⊢
    have I₂ := I₁.ext X₂
    obtain ⟨I₃, S₃⟩ := I₂.track (o := { cls := .type "list", data := .seq ([] : List Value).toArray }) (ob := .lst []) rfl rfl fun T hT => .lst (Heap.get?_push_size _ rfl) (by simp) .nil
    generalize hH2 : s₂.heap.push { cls := .type "list", dict := none, data := .seq ([] : List Value).toArray } = H2 at hns₁ hsb₁ I₃ S₃ ⊢
    have hC : H2.objs.size = s₂.heap.objs.size + 1 := by rw [← hH2, Heap.size_push]
    have X₃ : Ext H2 h₁ := ⟨by rw [hsb₁.1, Heap.size_push]; exact Nat.le_succ _, fun b o e => (hsb₁.2 b (Nat.ne_of_lt (Heap.lt_size e))).trans (Heap.get?_push_of_some _ e)⟩
    have X₂₃ : Ext s₂.heap h₁ := ⟨Nat.le_trans (by rw [hC]; exact Nat.le_succ _) X₃.1, fun b o e => X₃.2 b o (by rw [← hH2]; exact Heap.get?_push_of_some _ e)⟩
    have I₄ := I₃.enter (scope := scope) (x := x) (k := k) (C := H2.objs.size) (Nat.le_refl _) X₃ ⟨_, hns₁⟩
    have hnC : ¬ Own c H2.objs.size := fun q => by obtain ⟨o, ho⟩ := Own_get I₃ q; exact Nat.lt_irrefl _ (Heap.lt_size ho)
    have hg' := hg.enter O hnC
    have wall := wr_apart I₁ W.wrn
    have wlt : ∀ b ∈ wr, b < s₂.heap.objs.size := fun b q => by obtain ⟨o, ho, _⟩ := W.odd 0 _ hst b q; exact Heap.lt_size ho
    have st0 : Sp 0 h₁ := W.frame 0 _ _ hst fun b _ o e => X₂₃.2 b o e
    have X₁₃ := X₂.trans X₂₃
    have hz : s₁.heap.objs.size ≤ s₂.heap.objs.size := X₂.1
    have trr : ∀ b, Tr (st₁.σ ++ [.lst []]) (μ₁ ++ [s₂.heap.objs.size]) b → Tr st₁.σ μ₁ b ∨ s₁.heap.objs.size ≤ b := fun b q => (S₃.tr b q).imp id fun q => Nat.le_trans hz q
    have prr : ∀ (n : Nat) (a : Addr), μ₁[n]? = some a → (μ₁ ++ [s₂.heap.objs.size])[n]? = some a := S₃.pre
    have nww : ∀ a ∈ μ₁ ++ [s₂.heap.objs.size], a ∈ μ₁ ∨ s₁.heap.objs.size ≤ a := fun a q => (S₃.new a q).imp id fun q => Nat.le_trans hz q
    have loop : ∀ s₃ : Shared, s₃ = { s₂ with heap := h₁, toks := s₂.toks + ([] : List (Str × Value)).length } →
        codeAny (model c.prog c.w) c.A (.compLoop (.ListComp pe [⟨.Name x px, iter, fs, 0⟩] scope pos) 0 (.ref it) (.ref s₂.heap.objs.size) (compEnvC scope (closL c.env scope.names []) H2.objs.size c.env))
          (compPost (model c.prog c.w) c.A (fun _ _ => False) use Q (.ref s₂.heap.objs.size) H2.objs.size) s₃ := by
      rintro s₃ rfl
      refine sim_compLoop (c := c.comp scope H2.objs.size x k) (g := g.comp scope x k) (k := k) (m := st₁.σ.length) (tests := evTs F ifs) (ev := evE F elt) (σ₀ := st₁.σ) (μ₀ := μ₁) (h₀ := s₁.heap) W st0 ?_ hg'.nm ?_ ?_ I₄ (fun b q o => ?_) (fun b q m => ?_) (fun b q => (wall b q).1)
        (fun st μ s I => ht _ _ _ st μ s e1 e2 e3 h4 hg' I) (fun st μ s I => he _ _ _ st μ s e1 e2 e3 h3 hg' I) hr (fun s' μ' I' K' S' Q' hD' => ?_) (.ext X₁₃)
      · exact ⟨X₁₃.1, fun b o e _ _ => X₁₃.2 b o e, prr, trr, fun k e => by rw [List.getElem?_append_left (List.getElem?_eq_some_iff.mp e).1]; exact e⟩
      · have := O.plain
        simp [Gm.lv, Gm.comp, this]
      · rw [← I₁.len]; simp
      · rcases own_comp o with rfl | o
        · have q' := wlt _ q; rw [hC] at q'; exact Nat.lt_irrefl _ (Nat.lt_of_succ_lt q')
        · exact (wall b q).2.1 o
      · rcases List.mem_append.mp m with m | m
        · exact (wall b q).2.2 m
        · rw [List.mem_singleton.mp m] at q; exact Nat.lt_irrefl _ (wlt _ q)
      · have oc : Own (c.comp scope H2.objs.size x k) H2.objs.size := ⟨k, .d H2.objs.size x, by simp [Cx.comp], rfl⟩
        obtain ⟨m, hm⟩ : ∃ m, s'.heap.Ns H2.objs.size m := by
          have := I'.slots k (.d H2.objs.size x) (by simp [Cx.comp])
          exact this
        have sC : s₁.heap.objs.size ≤ H2.objs.size := by rw [hC]; exact Nat.le_succ_of_le hz
        have I₅ := I'.leave hk0 hnC (Heap.SameBut.refl _ _)
        obtain ⟨I₆, S₆, fr⟩ := I₅.frozen (n := st₁.σ.length) (xs := ys) hys
        have S₅ : Stp c st₁.σ μ₁ s₁.heap stF.σ μ' s'.heap := S'.inner0 trr prr nww (fun k e => by rw [List.getElem?_append_left (List.getElem?_eq_some_iff.mp e).1]; exact e) fun b q => (own_comp q).elim (fun e => .inr (e ▸ sC)) .inl
        have Q₇ : Same s s' := Q₁.trans (Q₂.trans (Same.trans (s' := { s₂ with heap := h₁, toks := s₂.toks + ([] : List (Str × Value)).length }) ⟨rfl, rfl, rfl⟩ Q'))
        exact hU _ _ μ' s' (fr _ (.ref hD')) I₆ (S₁.trans (S₅.trans S₆)) Q₇ (Nat.le_trans S₁.size sC) hnC (I'.sep _ oc) (I'.baseS _ oc) (fun b q => by
          rw [List.mem_singleton.mp q]
          obtain ⟨o, ho⟩ := Own_get I' oc
          exact ⟨o, ho, I'.own_data oc ho⟩) ⟨m, hm⟩
    exact codeAny_compStart_list (loop _ rfl) (W.again 0 _ _ _ st0 (loop _ rfl))
  · cases hv

theorem snd_comp {elt : Ex} {k : Nat} {it : It} {ifs : Exs} (he : EOk n mg mb prog w base F elt) (ht : TsOk n mg mb prog w base F ifs) (hi : ItOk n mg mb prog w base F it) : EOk n mg mb prog w base F (.comp elt k it ifs) := by
  intro g py c st μ s e1 e2 e3 hm hg I
  obtain ⟨pe, gens, scope, pos, rfl, hk⟩ := onLC_inv hm
  rcases gens with _ | ⟨⟨tgt, iter, fs, asy⟩, rr⟩ <;> try (exact absurd hm Bool.false_ne_true)
  cases rr <;> try (exact absurd hm Bool.false_ne_true)
  obtain ⟨x, px, rfl, _⟩ := onName_inv (py := tgt) hk
  simp [m_comp] at hm
  obtain ⟨⟨⟨⟨rfl, h1⟩, h2⟩, h3⟩, h4⟩ := hm
  cases hv : evE F (.comp elt k it ifs) st with
  | stuck => trivial
  | exc _ _ => trivial
  | ok y stE =>
    rw [eval_ListComp]
    refine comp_core he ht hi e1 e2 e3 h1 h2 h3 h4 hg I hv (use := none) fun D C μ' s' r I' S' Q' sz ow nm bs od ⟨m, hm⟩ => ?_
    refine ⟨m, hm, fun h'' hs => ?_⟩
    have bt : But [C] s'.heap h'' := fun b o hb e => (hs.2 b (fun q => hb (by simp [q]))).trans e
    have one : ∀ {P : Addr → Prop}, P C → ∀ b ∈ [C], P b := fun p b q => by rw [List.mem_singleton.mp q]; exact p
    exact ⟨μ', r.but bt od, I'.but bt (Nat.le_of_eq hs.1.symm) od (one ow) (one nm) (one bs), S'.but (one sz) bt (Nat.le_of_eq hs.1.symm), Q'⟩

theorem snd_asgC {elt : Ex} {i k : Nat} {it : It} {ifs : Exs} (he : EOk n mg mb prog w base F elt) (ht : TsOk n mg mb prog w base F ifs) (hi : ItOk n mg mb prog w base F it) (g : Gm) (z : Str) (p : Pos) (v : Expr) (p' : Pos) (c : Cx) (st : St) (μ : List Addr) (s : Shared)
    (e1 : c.prog = prog) (e2 : c.w = w) (e3 : c.base = base) (hz : g.lv z i = true) (hm : mE g (.comp elt k it ifs) v = true) (hs : swapsWith v (some (.Name z p)) p'.line c.env = pure true) (hg : Good n mg mb c g) (I : Inv c st μ s.heap) :
    Sim c (exec (.Assign [.Name z p] v p') c.env) (evS F K (.asg i (.comp elt k it ifs)) st) rFl st.σ μ s := by
  obtain ⟨pe, gens, scope, pos, rfl, hk⟩ := onLC_inv hm
  rcases gens with _ | ⟨⟨tgt, iter, fs, asy⟩, rr⟩ <;> try (exact absurd hm Bool.false_ne_true)
  cases rr <;> try (exact absurd hm Bool.false_ne_true)
  obtain ⟨x, px, rfl, _⟩ := onName_inv (py := tgt) hk
  simp [m_comp] at hm
  obtain ⟨⟨⟨⟨rfl, h1⟩, h2⟩, h3⟩, h4⟩ := hm
  rw [qvS_asg]
  cases hv : evE F (.comp elt k it ifs) st with
  | stuck => trivial
  | exc _ _ => trivial
  | ok y stE =>
    rw [exec_Assign_Name_used _ _ _ _ hs]
    refine wpAny_bind (wpAny_standAt (wpAny_bind ?_))
    show wpAny _ c.A (do let _ ← comprehension (.ListComp pe [⟨.Name x px, iter, fs, 0⟩] scope pos) scope c.env _ (newList []) false (eval iter c.env) (some (assign (.Name z p) c.env))) _ _ s
    refine wpAny_bind (wpAny_mono (comp_core he ht hi e1 e2 e3 h1 h2 h3 h4 hg I hv (use := some (assign (.Name z p) c.env)) (Q := fun _ s' => ∃ μ', rFl (setV stE i y) μ' s'.heap .next .next ∧ Inv c (setV stE i y) μ' s'.heap ∧ Stp c st.σ μ s.heap (setV stE i y).σ μ' s'.heap ∧ Same s s')
      fun D C μ' s' r I' S' Q' sz ow nm bs od ⟨m, hm⟩ => ?_) (fun _ s' hq => wpAny_pure (wpAny_pure hq)) fun _ _ e => e)
    refine wpAny_assign_Name (wpAny_mono (store_var hg.nm hz I' r) (fun _ s'' hq => ?_) fun _ _ e => e)
    obtain ⟨μ₂, _, I₂, S₂, Q₂⟩ := hq
    obtain ⟨o, ho, hd⟩ := od C (by simp)
    have ho₂ := S₂.keep C o ho ow fun t => nm t.mem
    refine ⟨m, hm.at' fun o' e => ?_, fun h'' hs => ?_⟩
    · obtain rfl := Option.some.inj (ho.symm.trans e); exact ho₂
    · have bt : But [C] s''.heap h'' := fun b o hb e => (hs.2 b (fun q => hb (by simp [q]))).trans e
      have one : ∀ {P : Addr → Prop}, P C → ∀ b ∈ [C], P b := fun p b q => by rw [List.mem_singleton.mp q]; exact p
      exact ⟨μ₂, trivial, I₂.but bt (Nat.le_of_eq hs.1.symm) (one ⟨o, ho₂, hd⟩) (one ow) (one fun q => (S₂.new C q).elim nm fun q => Nat.lt_irrefl _ (Nat.lt_of_lt_of_le (Heap.lt_size ho) q)) (one bs), (S'.trans S₂).but (one sz) bt (Nat.le_of_eq hs.1.symm), Q'.trans Q₂⟩
end
end Mine
namespace Mine
open PySem PySem.Calls PyProof.Rows

/-! a tracked list is lent out -/
theorem Inv.thaw {c : Cx} {σ σ₂ : List O} {μ μ₂ : List Addr} {h h₂ : Heap} {n : Nat} {xs : List V} (I : Inv c.bare ⟨[], σ⟩ μ h) (hn : σ[n]? = some (.lst xs)) (I₂ : Inv c.bare ⟨[], σ₂⟩ μ₂ h₂)
    (S : Stp c.bare (σ.set n .dead) μ h σ₂ μ₂ h₂) (hd : σ₂.all O.isDead = true) (hlt : n < σ₂.length) : Inv c.bare ⟨[], σ₂.set n (.lst xs)⟩ μ₂ h₂ ∧ Stp c.bare σ μ h (σ₂.set n (.lst xs)) μ₂ h₂ := by
  have dead : ∀ (k : Nat) (o : O), σ₂[k]? = some o → o = .dead := fun k o e => by
    have := List.all_eq_true.mp hd o (List.mem_of_getElem? e)
    cases o <;> first | rfl | (simp [O.isDead] at this)
  obtain ⟨a, ha, ro⟩ := I.objs n _ hn
  have ha₂ := S.pre n a ha
  have tr1 : ∀ b, Tr (σ₂.set n (.lst xs)) μ₂ b → b = a := by
    rintro b ⟨k, o, e1, e2, e3⟩
    by_cases hk : n = k
    · subst hk
      exact Option.some.inj (e3.symm.trans ha₂)
    · rw [List.getElem?_set_ne hk] at e1
      rw [dead k o e1] at e2; cases e2
  have sub : ∀ b, Tr (σ.set n .dead) μ b → Tr σ μ b ∧ b ≠ a := by
    rintro b ⟨k, o, e1, e2, e3⟩
    by_cases hk : n = k
    · subst hk
      have hl : n < σ.length := (List.getElem?_eq_some_iff.mp hn).1
      have e4 : O.dead = o := by simpa [hl] using e1
      subst e4; cases e2
    · rw [List.getElem?_set_ne hk] at e1
      exact ⟨⟨k, o, e1, e2, e3⟩, fun e => hk ((List.getElem?_inj (List.getElem?_eq_some_iff.mp ha).1 I.nd).mp (ha.trans (e ▸ e3.symm)))⟩
  have ta : Tr σ μ a := ⟨n, _, hn, rfl, ha⟩
  have S' : Stp c.bare σ μ h (σ₂.set n (.lst xs)) μ₂ h₂ := ⟨S.size, fun b o e h1 h2 => S.keep b o e h1 fun q => h2 (sub b q).1, S.pre, fun b q => .inl (tr1 b q ▸ ta), S.new, fun k e => by
    have hk : n ≠ k := fun x => by subst x; rw [hn] at e; cases e
    have := S.pv k (by rw [List.getElem?_set_ne hk]; exact e)
    rw [List.getElem?_set_ne hk]; exact this, fun k b o e1 e2 e3 => S.pk k b o (by
      have hk : n ≠ k := fun x => by subst x; rw [hn] at e1; cases e1
      rw [List.getElem?_set_ne hk]; exact e1) e2 e3⟩
  refine ⟨⟨fun i x q => (by simp at q), fun i s q => (by cases q), fun k o q => ?_, by simpa using I₂.len, I₂.nd, I₂.lt, I₂.base, fun b q => (Own_bare q).elim, I₂.baseM, fun b q => (Own_bare q).elim⟩, S'⟩
  dsimp only at q ⊢
  by_cases hk : n = k
  · subst hk
    have e4 : O.lst xs = o := by simpa [hlt] using q
    subst e4
    refine ⟨a, ha₂, ?_⟩
    obtain ⟨vs, nn, ho, hz, r⟩ := ro.lst_inv
    exact .lst (S.keep a _ ho Own_bare fun q => (sub a q).2 rfl) hz (RepVs.step (st := ⟨[], σ⟩) (st' := ⟨[], σ₂.set n (.lst xs)⟩) I S' r)
  · rw [List.getElem?_set_ne hk] at q
    obtain rfl := dead k o q
    obtain ⟨b, hb, _⟩ := I₂.objs k _ q
    exact ⟨b, hb, .dead⟩

section
variable {n : Nat} {mg mb : Str → Option Value} {prog : Program} {w : World} {base : Heap} {F : Fn} {K : Nat}

theorem fnOk_borrow (hF : CallOk n prog w base mg F) : CallOk n prog w base mg (borrow F) := by
  intro f args σ r st' h hpl
  unfold borrow at h
  split at h
  · rename_i k ys
    split at h
    · rename_i xs hk
      unfold lent at h
      split at h
      · rename_i b st hr
        split at h
        · rename_i hd
          simp only [Bool.and_eq_true, decide_eq_true_eq] at hd
          cases h
          obtain ⟨a, o, fd, k1, k2, k3, hc⟩ := hF f _ _ _ _ hr hpl
          refine ⟨a, o, fd, k1, k2, k3, fun c μ s vs e1 e2 e3 ha I rv => ?_⟩
          cases rv with
          | @cons v vs _ _ r0 rr =>
            obtain ⟨I', S', fr⟩ := Inv.frozen (st := ⟨[], σ⟩) I hk
            have rr' := RepVs.step (st := ⟨[], σ⟩) (st' := ⟨[], σ.set k .dead⟩) I S' rr
            refine wpAny_mono (hc c μ s (v :: vs) e1 e2 e3 ha I' (.cons (fr v r0) rr')) (fun u s' ⟨μ', q1, q2, q3, q4⟩ => ?_) fun _ _ e => e
            obtain ⟨I₂, S₂⟩ := Inv.thaw I hk q2 q3 hd.1 hd.2
            rw [q1.bool_inv]
            exact ⟨μ', .bool _, I₂, S₂, q4⟩
        · cases h
      · cases h
    · cases h
  · cases h

theorem snd_callB {f : Str} {es : Exs} (hF : FnOk n prog w base mg F) (he : EsOk n mg mb prog w base F es) : EOk n mg mb prog w base F (.callB f es) := by
  intro g py c st μ s e1 e2 e3 hm hg I
  have hm' : mE g (.call f es) py = true := hm
  have := snd_callG (G := borrow F) (fnOk_borrow hF.fn) he g py c st μ s e1 e2 e3 hm' hg I
  simpa only [qvE_none, qvE_bool, qvE_int, qvE_str, qvE_loc, qvE_fz, qvE_bin, qvE_cmp, qvE_chain, qvE_band, qvE_bor, qvE_not, qvE_neg, qvE_ite, qvE_tup, qvE_list, qvE_listM, qvE_sub, qvE_slice, qvE_isin, qvE_bi, qvE_me, qvE_call, qvE_callB, qvE_callZ, qvE_comp] using this
theorem snd_callZ {f : Str} {es : Exs} (hF : FnOk n prog w base mg F) (he : EsOk n mg mb prog w base F es) : EOk n mg mb prog w base F (.callZ f es) := by
  intro g py c st μ s e1 e2 e3 hm hg I
  have hm' : mE g (.call f es) py = true := hm
  have h := snd_callG (G := F) hF.fn he g py c st μ s e1 e2 e3 hm' hg I
  simp only [qvE_none, qvE_bool, qvE_int, qvE_str, qvE_loc, qvE_fz, qvE_bin, qvE_cmp, qvE_chain, qvE_band, qvE_bor, qvE_not, qvE_neg, qvE_ite, qvE_tup, qvE_list, qvE_listM, qvE_sub, qvE_slice, qvE_isin, qvE_bi, qvE_me, qvE_call, qvE_callB, qvE_callZ, qvE_comp]
  cases hE : evEs F es st with
  | stuck => trivial
  | exc _ _ => trivial
  | ok xs st₁ =>
    rw [hE] at h
    simp only [R.bind_ok] at h ⊢
    cases hC : callR (F f xs st₁.σ) st₁.ρ with
    | stuck => trivial
    | exc _ _ => trivial
    | ok x st₂ =>
      rw [hC] at h
      simp only [R.bind_ok]
      unfold freezeR
      split
      · rename_i k
        split
        · rename_i ys hk
          refine wpAny_mono h (fun v s' ⟨μ', h1, h2, h3, h4⟩ => ?_) fun _ _ e => e
          obtain ⟨I', S', fr⟩ := h2.frozen hk
          exact ⟨μ', fr v h1, I', h3.trans S', h4⟩
        · trivial
      · trivial
end
end Mine
namespace Mine
open PySem PySem.Calls PyProof.Rows

/-- what changes is nothing of ours, but a private tuple -/
theorem Inv.butP {c : Cx} {wr : List Addr} {st : St} {μ : List Addr} {h h' : Heap} {TO : Addr} {m : Nat} (I : Inv c st μ h) (hm : st.σ[m]? = some .priv) (ha : μ[m]? = some TO) (k : But (TO :: wr) h h')
    (hsz : h.objs.size ≤ h'.objs.size) (od : Odd wr h) (own : ∀ b ∈ wr, ¬ Own c b) (mem : ∀ b ∈ wr, b ∉ μ) (bs : ∀ b ∈ wr, c.base.get? b = none) : Inv c st μ h' := by
  have tT : Tr st.σ μ TO := ⟨m, _, hm, rfl, ha⟩
  have mT : TO ∈ μ := List.mem_of_getElem? ha
  have nseq : ∀ a o, h.get? a = some o → Still o → ¬ Tr st.σ μ a → a ∉ TO :: wr := fun a o e hd hT q => by
    rcases List.mem_cons.mp q with rfl | q
    · exact hT tT
    · obtain ⟨o', e', hd'⟩ := od a q
      obtain rfl := Option.some.inj (e.symm.trans e')
      exact hd' hd
  have mv : ∀ {v : Value} {x : V}, RepV (Tr st.σ μ) μ h v x → RepV (Tr st.σ μ) μ h' v x := fun r => r.move (fun a o e hd hT => ⟨k a o (nseq a o e hd hT) e, hT⟩) fun _ _ q => q
  have mvs : ∀ {v : List Value} {x : List V}, RepVs (Tr st.σ μ) μ h v x → RepVs (Tr st.σ μ) μ h' v x := fun r => r.move (fun a o e hd hT => ⟨k a o (nseq a o e hd hT) e, hT⟩) fun _ _ q => q
  have own' : ∀ b ∈ TO :: wr, ¬ Own c b := fun b q o => by
    rcases List.mem_cons.mp q with rfl | q
    · exact I.sep _ o mT
    · exact own b q o
  have bs' : ∀ b ∈ TO :: wr, c.base.get? b = none := fun b q => by
    rcases List.mem_cons.mp q with rfl | q
    · exact I.baseM _ mT
    · exact bs b q
  refine ⟨fun i x q => ?_, fun i s q => (I.slots i s q).keeps fun o e => k _ o (fun m => own' _ m ⟨i, s, q, rfl⟩) e, fun n o q => ?_, I.len, I.nd, fun a q => Nat.lt_of_lt_of_le (I.lt a q) hsz,
    fun b o q => k b o (fun m => by rw [bs' b m] at q; cases q) (I.base b o q), I.baseS, I.baseM, I.sep⟩
  · obtain ⟨s, v, g1, g2, g3⟩ := I.vars i x q
    exact ⟨s, v, g1, g2.keeps fun o e => k _ o (fun m => own' _ m ⟨i, s, g1, rfl⟩) e, mv g3⟩
  · obtain ⟨a, hna, r⟩ := I.objs n o q
    refine ⟨a, hna, ?_⟩
    cases r with
    | dead => exact .dead
    | priv => exact .priv
    | live ho L r =>
      refine .live (k a _ (fun q' => ?_) ho) L (mvs r)
      rcases List.mem_cons.mp q' with rfl | q'
      · have : n = m := (List.getElem?_inj (List.getElem?_eq_some_iff.mp hna).1 I.nd).mp (hna.trans ha.symm)
        subst this
        rw [hm] at q; cases q; cases L
      · exact mem a q' (List.mem_of_getElem? hna)

/-- an iterator that hands out pairs of its own -/
structure ItrT (prog : Program) (w : World) (A : Around) (it TO : Addr) (fp wr nw : List Addr) (xs : List V) (σ₀ : List O) (μ₀ : List Addr) (h₀ : Heap) (Sp : Nat → Heap → Prop) : Prop where
  frame : ∀ i h h', Sp i h → (∀ b ∈ fp, ∀ o, h.get? b = some o → h'.get? b = some o) → Sp i h'
  odd : ∀ i h, Sp i h → Odd wr h
  there : ∀ i h, Sp i h → ∀ b ∈ wr ++ nw, ∃ o, h.get? b = some o
  new : ∀ b ∈ TO :: (wr ++ nw), h₀.objs.size ≤ b
  fpo : ∀ b ∈ fp, b = TO ∨ b ∈ wr ++ nw ∨ (∃ o vs n, h₀.get? b = some o ∧ o.data = .seq vs n ∧ ¬ Tr σ₀ μ₀ b)
  item : ∀ elts k pos i x (s : Shared) (σ : List O) (μ : List Addr) (Q : Value → Shared → Prop), xs[i]? = some x → Sp i s.heap → Kp σ₀ μ₀ h₀ σ μ s.heap → (∀ a ∈ μ, a < s.heap.objs.size) →
    (∀ v h' tk, But (TO :: wr) s.heap h' → s.heap.objs.size ≤ h'.objs.size → Sp (i + 1) h' → RepV (Tr σ μ) μ h' v x → Q v { s with heap := h', toks := tk }) →
    wpAny (model prog w) A (pyNext (.ref it)) (fun r s₁ => match r with
      | none => False
      | some v => wpAny (model prog w) A (letOwnedTupleGo (.Tuple elts k pos) (.ref it) v) (fun _ s₂ => Q v s₂) (fun _ _ => False) s₁) (fun _ _ => False) s
  done : ∀ (s : Shared) (Q : Option Value → Shared → Prop), Sp xs.length s.heap →
    (∀ h' tk, But (TO :: wr) s.heap h' → s.heap.objs.size ≤ h'.objs.size → Q none { s with heap := h', toks := tk }) → wpAny (model prog w) A (pyNext (.ref it)) Q (fun _ _ => False) s
  again : ∀ i (s : Shared) (Q : Value → Shared → Prop) (E : Value → Shared → Prop), Sp i s.heap → Q (.ref it) s → wpAny (model prog w) A (pyIter (.ref it)) Q E s

section
variable {c : Cx} {it TO : Addr} {fp wr nw : List Addr} {xs : List V} {σ₀ : List O} {μ₀ : List Addr} {h₀ : Heap} {Sp : Nat → Heap → Prop}

theorem ItrT.keep (W : ItrT c.prog c.w c.A it TO fp wr nw xs σ₀ μ₀ h₀ Sp) {i m : Nat} {st : St} {σ' : List O} {μ μ' : List Addr} {h h' : Heap} (own : ∀ b ∈ wr ++ nw, ¬ Own c b) (mem : ∀ b ∈ wr ++ nw, b ∉ μ) (I : Inv c st μ h)
    (hm : st.σ[m]? = some .priv) (ha : μ[m]? = some TO)
    (K : Kp σ₀ μ₀ h₀ st.σ μ h) (S' : Stp c st.σ μ h σ' μ' h') (sp : Sp i h) : Sp i h' ∧ ∀ b ∈ wr ++ nw, b ∉ μ' := by
  refine ⟨W.frame i h h' sp fun b q o e => ?_, fun b q m => (S'.new b m).elim (mem b q) fun k => ?_⟩
  · rcases W.fpo b q with rfl | q | ⟨o', vs, n, q1, q2, q3⟩
    · exact S'.pk m _ o hm ha e
    · exact S'.keep b o e (own b q) fun t => mem b q t.mem
    · have e' := K.keep b o' q1 (.inl ⟨vs, n, q2⟩) q3
      obtain rfl := Option.some.inj (e.symm.trans e')
      exact S'.keep b o e (fun q => I.own_data q e (.inl ⟨vs, n, q2⟩)) fun t => (K.tr b t).elim q3 fun k => Nat.lt_irrefl _ (Nat.lt_of_lt_of_le (Heap.lt_size q1) k)
  · obtain ⟨o, e⟩ := W.there i h sp b q
    exact Nat.lt_irrefl _ (Nat.lt_of_lt_of_le (Heap.lt_size e) k)
end
end Mine
namespace Mine
open PySem PySem.Calls PyProof.Rows

section
variable {c : Cx} {it TO : Addr} {fp wr nw : List Addr} {xs : List V} {σ₀ : List O} {μ₀ : List Addr} {h₀ : Heap} {Sp : Nat → Heap → Prop}

/-- a for loop over pairs -/
theorem sim_forLoopT {elts : List Expr} {kk : Nat} {tp : Pos} {body : List Stmt} {as : V → St → R Unit} {bd : St → R Fl} {s₁ : Shared} {st₁ : St} {μ₁ : List Addr} {m : Nat} (W : ItrT c.prog c.w c.A it TO fp wr nw xs σ₀ μ₀ h₀ Sp) (start : Sp 0 s₁.heap)
    (hA : ∀ x v st μ (s : Shared), RepV (Tr st.σ μ) μ s.heap v x → Inv c st μ s.heap → Sim c (assign (.Tuple elts kk tp) c.env v) (as x st) rU st.σ μ s)
    (hB : ∀ st μ (s : Shared), Inv c st μ s.heap → Sim c (execs body c.env) (bd st) rFl st.σ μ s)
    (I₁ : Inv c st₁ μ₁ s₁.heap) (hm : st₁.σ[m]? = some .priv) (ha : μ₁[m]? = some TO) (K₁ : Kp σ₀ μ₀ h₀ st₁.σ μ₁ s₁.heap) (mem₁ : ∀ b ∈ wr ++ nw, b ∉ μ₁) (own : ∀ b ∈ wr ++ nw, ¬ Own c b) (bs : ∀ b ∈ wr, c.base.get? b = none)
    {σ' : List O} {μ' : List Addr} {h' : Heap} (S₁ : Stp c σ' μ' h' st₁.σ μ₁ s₁.heap) (nw' : ∀ b ∈ TO :: wr, h'.objs.size ≤ b)
    {fl : Fl} {stF : St} (hr : forR (fun x st => (as x st).bind fun _ st => bd st) xs st₁ = .ok fl stF) :
    codeAny (model c.prog c.w) c.A (.forLoop (.Tuple elts kk tp) (.ref it) body [] c.env) (fun r s' => match r with
      | .ok f => ∃ μF, rFl stF μF s'.heap f fl ∧ Inv c stF μF s'.heap ∧ Stp c σ' μ' h' stF.σ μF s'.heap ∧ Same s₁ s'
      | .error _ => False) s₁ := by
  have memw : ∀ {μ : List Addr}, (∀ b ∈ wr ++ nw, b ∉ μ) → ∀ b ∈ wr, b ∉ μ := fun h b q => h b (List.mem_append_left _ q)
  have ownw : ∀ b ∈ wr, ¬ Own c b := fun b q => own b (List.mem_append_left _ q)
  have wn : ∀ b ∈ TO :: wr, h₀.objs.size ≤ b := fun b q => W.new b (by
    rcases List.mem_cons.mp q with rfl | q
    · simp
    · simp [q])
  refine loop_engine (as := as) (bd := bd) (fl := fl) (stF := stF)
    (P := fun i st μ s => Sp i s.heap ∧ Inv c st μ s.heap ∧ (∀ b ∈ wr ++ nw, b ∉ μ) ∧ (st.σ[m]? = some .priv ∧ μ[m]? = some TO) ∧ Kp σ₀ μ₀ h₀ st.σ μ s.heap ∧ Stp c σ' μ' h' st.σ μ s.heap ∧ Same s₁ s) (D := fun st μ s => Inv c st μ s.heap ∧ Stp c σ' μ' h' st.σ μ s.heap ∧ Same s₁ s)
    (fun i st μ s h => h.2.1) (fun i st μ s h => ⟨h.2.1, h.2.2.2.2.2⟩) (fun i st μ s st' μ'' s' h I' S' Q' => ?_) (fun i x st μ s Q hx h hQ => ?_) (fun st μ s Q h hQ => ?_) hA hB (fun μ s f h rf => ⟨μ, rf, h⟩)
    (st₁ := st₁) (μ₁ := μ₁) ⟨start, I₁, mem₁, ⟨hm, ha⟩, K₁, S₁, .refl⟩ hr
  · obtain ⟨hst₂, mem₂⟩ := W.keep own h.2.2.1 h.2.1 h.2.2.2.1.1 h.2.2.2.1.2 h.2.2.2.2.1 S' h.1
    exact ⟨hst₂, I', mem₂, ⟨S'.pv m h.2.2.2.1.1, S'.pre m _ h.2.2.2.1.2⟩, h.2.2.2.2.1.trans (S'.kp h.2.1), h.2.2.2.2.2.1.trans S', h.2.2.2.2.2.2.trans Q'⟩
  · exact W.item elts kk tp i x s st.σ μ _ hx h.1 h.2.2.2.2.1 h.2.1.lt fun v h'' tk hk hsz hst' rv =>
      hQ v _ rv ⟨hst', h.2.1.butP h.2.2.2.1.1 h.2.2.2.1.2 hk hsz (W.odd i _ h.1) ownw (memw h.2.2.1) bs, h.2.2.1, h.2.2.2.1, h.2.2.2.2.1.but wn hk hsz, h.2.2.2.2.2.1.but nw' hk hsz, h.2.2.2.2.2.2⟩
  · exact W.done s _ h.1 fun h'' tk hk hsz => hQ _ ⟨h.2.1.butP h.2.2.2.1.1 h.2.2.2.1.2 hk hsz (W.odd _ _ h.1) ownw (memw h.2.2.1) bs, h.2.2.2.2.2.1.but nw' hk hsz, h.2.2.2.2.2.2⟩
end

/-! tuple targets -/
theorem mT_each {g : Gm} {env : Env} : ∀ {is : List Nat} {ts : List Expr}, mT g is ts = true → (assignEach ts env).length = is.length ∧ (assignEach ts env).findIdx? (·.1) = none
  | [], [], _ => ⟨rfl, rfl⟩
  | [], _ :: _, h => absurd h Bool.false_ne_true
  | _ :: _, [], h => absurd h Bool.false_ne_true
  | i :: is, t :: ts, h => by
    obtain ⟨_, _, rfl, _⟩ := onName_inv (py := t) h
    simp [m_bool, m_int, m_str, m_loc, m_fz, m_bin, m_cmp, m_chain, m_band2, m_band3, m_bor2, m_bor3, m_not, m_neg, m_ite, m_tup, m_list, m_listM, m_sub, m_slice, m_isin, m_bi, m_me, m_call, m_comp, m_nil, m_cons, m_onone, m_osome, m_val, m_range1, m_range2, m_zip, m_asg, m_expr, m_ret, m_ifte, m_for1, m_forT, m_while, m_snil, m_scons, m_tcons] at h
    obtain ⟨h1, h2⟩ := mT_each (env := env) h.2
    exact ⟨by simp [assignEach, h1], by simp [assignEach, List.findIdx?_cons, h2]⟩
theorem sim_inOrder {n : Nat} {mg mb : Str → Option Value} {c : Cx} {g : Gm} (hg : Good n mg mb c g) : ∀ (is : List Nat) (ts : List Expr) (vs : List Value) (ys : List V) (st st' : St) (μ : List Addr) (s : Shared), mT g is ts = true → RepVs (Tr st.σ μ) μ s.heap vs ys → Inv c st μ s.heap →
    setAll st is ys = some st' → wpAny (model c.prog c.w) c.A (assignInOrder ((assignEach ts c.env).map (·.2)) vs) (fun _ s' => ∃ μ', Inv c st' μ' s'.heap ∧ Stp c st.σ μ s.heap st'.σ μ' s'.heap ∧ Same s s') (fun _ _ => False) s
  | [], [], vs, ys, st, st', μ, s, _, r, I, h => by
    cases ys with
    | cons _ _ => simp [setAll] at h
    | nil =>
      simp [setAll] at h
      subst h
      cases r
      exact wpAny_pure ⟨μ, I, .refl, .refl⟩
  | [], _ :: _, _, _, _, _, _, _, h, _, _, _ => absurd h Bool.false_ne_true
  | _ :: _, [], _, _, _, _, _, _, h, _, _, _ => absurd h Bool.false_ne_true
  | i :: is, t :: ts, vs, ys, st, st', μ, s, hm, r, I, h => by
    cases ys with
    | nil => simp [setAll] at h
    | cons y ys =>
      obtain ⟨x, p, rfl, _⟩ := onName_inv (py := t) hm
      simp [m_bool, m_int, m_str, m_loc, m_fz, m_bin, m_cmp, m_chain, m_band2, m_band3, m_bor2, m_bor3, m_not, m_neg, m_ite, m_tup, m_list, m_listM, m_sub, m_slice, m_isin, m_bi, m_me, m_call, m_comp, m_nil, m_cons, m_onone, m_osome, m_val, m_range1, m_range2, m_zip, m_asg, m_expr, m_ret, m_ifte, m_for1, m_forT, m_while, m_snil, m_scons, m_tcons] at hm
      cases r with
      | @cons v vs _ _ r0 rr =>
        simp only [setAll] at h
        show wpAny _ _ (holding vs (assign (.Name x p) c.env v) >>= _) _ _ s
        refine wpAny_bind (wpAny_holding (wpAny_mono (Sim.imp (fun Q h => wpAny_assign_Name h) (store_var hg.nm hm.1 I r0)) (fun _ s₁ ⟨μ₁, _, I₁, S₁, Q₁⟩ => ?_) fun _ _ e => e))
        refine wpAny_mono (sim_inOrder hg is ts vs ys (setV st i y) st' μ₁ s₁ hm.2 (rr.step (st' := setV st i y) I S₁) I₁ h) (fun _ s₂ ⟨μ₂, I₂, S₂, Q₂⟩ => ?_) fun _ _ e => e
        exact ⟨μ₂, I₂, S₁.trans S₂, Q₁.trans Q₂⟩
theorem sim_assignT {n : Nat} {mg mb : Str → Option Value} {c : Cx} {g : Gm} (hg : Good n mg mb c g) {is : List Nat} {ts : List Expr} {kk : Nat} {tp : Pos} (hm : mT g is ts = true) {st : St} {μ : List Addr} {s : Shared} {v : Value} {x : V} (r : RepV (Tr st.σ μ) μ s.heap v x) (I : Inv c st μ s.heap) :
    Sim c (assign (.Tuple ts kk tp) c.env v) (asT is x st) rU st.σ μ s := by
  unfold asT
  split
  · rename_i xs
    split
    · rename_i st' hs
      obtain ⟨a, vs, rfl, ht, hz, rr⟩ := r.tup_inv
      have hl := rr.length
      obtain ⟨k1, k2⟩ := mT_each (env := c.env) hm
      have hlen : ∀ (is : List Nat) (xs : List V) (st : St), setAll st is xs = some st' → is.length = xs.length := by
        intro is
        induction is with
        | nil => intro xs st h; cases xs <;> simp [setAll] at h ⊢
        | cons i is ih => intro xs st h; cases xs with
          | nil => simp [setAll] at h
          | cons x xs => simp only [setAll] at h; simp [ih xs _ h]
      have hn : (assignEach ts c.env).length = vs.size := by rw [k1, hlen is xs st hs, ← hl]; simp
      rw [arm_assign_Tuple]
      refine wpAny_bind (wpAny_standAt ?_)
      unfold unpack
      rw [hn, k2]
      refine wpAny_bind (wpAny_holding (wpAny_with_size (wpAny_unpackItems_tuple hg.hh ht fun h' he hsz => ?_)))
      have X : Ext s.heap h' := ⟨hsz, fun b o e => he b o (Nat.ne_of_lt (Heap.lt_size e)) e⟩
      refine wpAny_mono (sim_inOrder hg is ts vs.toList xs st st' μ { s with heap := h' } hm (rr.ext X) (I.ext X) hs) (fun _ s' ⟨μ', I', S', Q'⟩ => ⟨μ', trivial, I', (Stp.ext X).trans S', Q'⟩) fun _ _ e => e
    · trivial
  · trivial
section
variable {n : Nat} {mg mb : Str → Option Value} {prog : Program} {w : World} {base : Heap} {F : Fn} {K : Nat}
theorem tup_no {v : Expr} (h : tupVal v = true) (ts : List Expr) (k : Nat) (tp : Pos) (l : Nat) (env : Env) : swapsWithSole [.Tuple ts k tp] v l env = pure false ∧ swappedStores [.Tuple ts k tp] v env = pure none := by
  cases v <;> first | exact ⟨rfl, rfl⟩ | exact absurd h Bool.false_ne_true
theorem snd_asgT {is : List Nat} {e : Ex} (he : EOk n mg mb prog w base F e) : SOk n mg mb prog w base F K (.asgT is e) := by
  intro g py c st μ s e1 e2 e3 hm hg I
  obtain ⟨ts, v, p, rfl, hk⟩ := onAssign_inv hm
  rcases ts with _ | ⟨t, r⟩ <;> try (exact absurd hm Bool.false_ne_true)
  cases r <;> try (exact absurd hm Bool.false_ne_true)
  obtain ⟨ts, k, q, rfl, _⟩ := onTup_inv (py := t) hk
  rw [m_asgT, Bool.and_eq_true, Bool.and_eq_true] at hm
  obtain ⟨⟨h1, h2⟩, h3⟩ := hm
  obtain ⟨q1, q2⟩ := tup_no h3 ts k q p.line c.env
  rw [qvS_asgT]
  have h := he _ _ c st μ s e1 e2 e3 h2 hg I
  cases hE : evE F e st with
  | stuck => trivial
  | exc _ _ => trivial
  | ok x st₁ =>
    rw [hE] at h
    rw [R.bind_ok]
    cases hA : asT is x st₁ with
    | stuck => trivial
    | exc _ _ => trivial
    | ok u st₂ =>
      refine Assign_Tuple (wpAny_mono h (fun a s₁ ⟨μ₁, rx, I₁, S₁, Q₁⟩ => ?_) fun _ _ e => e) q1 q2
      have ha := sim_assignT hg h1 (kk := k) (tp := q) rx I₁
      rw [hA] at ha
      exact wpAny_mono ha (fun _ s₂ ⟨μ₂, _, I₂, S₂, Q₂⟩ => ⟨μ₂, trivial, I₂, S₁.trans S₂, Q₁.trans Q₂⟩) fun _ _ e => e
end
end Mine
namespace Mine
open PySem PySem.Calls PyProof.Rows

/-- a private object is tracked -/
theorem Inv.trackP {c : Cx} {st : St} {μ : List Addr} {h h' : Heap} {TO : Addr} (I : Inv c st μ h) (X : Ext h h') (h1 : h.objs.size ≤ TO) (h2 : TO < h'.objs.size) :
    Inv c ⟨st.ρ, st.σ ++ [.priv]⟩ (μ ++ [TO]) h' ∧ Stp c st.σ μ h (st.σ ++ [.priv]) (μ ++ [TO]) h' := by
  have hnm : TO ∉ μ := fun q => Nat.lt_irrefl _ (Nat.lt_of_lt_of_le (I.lt _ q) h1)
  have tr : ∀ b, Tr (st.σ ++ [.priv]) (μ ++ [TO]) b → Tr st.σ μ b ∨ h.objs.size ≤ b := by
    rintro b ⟨k, o', e1, e2, e3⟩
    by_cases hk : k < st.σ.length
    · rw [List.getElem?_append_left hk] at e1
      rw [List.getElem?_append_left (by rw [I.len]; exact hk)] at e3
      exact .inl ⟨k, o', e1, e2, e3⟩
    · rw [List.getElem?_append_right (by rw [I.len]; omega)] at e3
      have hlt : k < (st.σ ++ [O.priv]).length := (List.getElem?_eq_some_iff.mp e1).1
      simp only [List.length_append, List.length_singleton] at hlt
      have : k - μ.length = 0 := by rw [I.len]; omega
      rw [this] at e3
      have e4 : TO = b := by simpa using e3
      exact .inr (e4 ▸ h1)
  have S : Stp c st.σ μ h (st.σ ++ [.priv]) (μ ++ [TO]) h' :=
    ⟨X.1, fun b o' e _ _ => X.2 b o' e, fun k a e => by rw [List.getElem?_append_left (List.getElem?_eq_some_iff.mp e).1]; exact e,
      tr, fun a q => (List.mem_append.mp q).imp id fun e => by rw [List.mem_singleton.mp e]; exact h1, fun k e => by rw [List.getElem?_append_left (List.getElem?_eq_some_iff.mp e).1]; exact e, fun _ a o' _ _ q => X.2 a o' q⟩
  have I' := I.ext X
  have nog : ∀ o, h.get? TO ≠ some o := fun o e => Nat.lt_irrefl _ (Nat.lt_of_lt_of_le (Heap.lt_size e) h1)
  refine ⟨⟨fun i x q => ?_, I'.slots, fun k o' q => ?_, by simp [I.len], ?_, fun a q => ?_, I'.base, I.baseS, fun a q => ?_, fun b q m => ?_⟩, S⟩
  · obtain ⟨sl, v, g1, g2, g3⟩ := I.vars i x q
    exact ⟨sl, v, g1, g2.keeps fun o' e => X.2 _ o' e, g3.step (st' := ⟨st.ρ, st.σ ++ [.priv]⟩) I S⟩
  · dsimp only at q ⊢
    by_cases hk : k < st.σ.length
    · rw [List.getElem?_append_left hk] at q
      obtain ⟨a, ha, r⟩ := I.objs k o' q
      refine ⟨a, by rw [List.getElem?_append_left (by rw [I.len]; exact hk)]; exact ha, ?_⟩
      cases r with
      | dead => exact .dead
      | priv => exact .priv
      | live ho L r => exact .live (X.2 _ _ ho) L (RepVs.step (st' := ⟨st.ρ, st.σ ++ [.priv]⟩) I S r)
    · have hlt : k < (st.σ ++ [O.priv]).length := (List.getElem?_eq_some_iff.mp q).1
      simp only [List.length_append, List.length_singleton] at hlt
      have e0 : k = st.σ.length := by omega
      subst e0
      have e4 : O.priv = o' := by simpa using q
      subst e4
      exact ⟨TO, by rw [← I.len]; simp, .priv⟩
  · refine List.nodup_append.mpr ⟨I.nd, by simp, ?_⟩
    intro a ha b hb
    rw [List.mem_singleton.mp hb]
    exact fun e => hnm (e ▸ ha)
  · rcases List.mem_append.mp q with q | q
    · exact Nat.lt_of_lt_of_le (I.lt a q) X.1
    · rw [List.mem_singleton.mp q]; exact h2
  · rcases List.mem_append.mp q with q | q
    · exact I.baseM a q
    · rw [List.mem_singleton.mp q]
      cases hb : c.base.get? TO with
      | none => rfl
      | some o => exact absurd (I.base _ _ hb) (nog o)
  · rcases List.mem_append.mp m with m | m
    · exact I.sep b q m
    · obtain ⟨o, ho⟩ := Own_get I q
      rw [List.mem_singleton.mp m] at ho
      exact nog o ho

/-- what may be walked by pairs -/
noncomputable def rZ (c : Cx) (z₀ : Nat) (st : St) (μ : List Addr) (h : Heap) (v : Value) (xs : List V) : Prop :=
  ∃ it TO fp wr nw σ₀ μ₀ h₀ Sp, v = .ref it ∧ ItrT c.prog c.w c.A it TO fp wr nw xs σ₀ μ₀ h₀ Sp ∧ Sp 0 h ∧ Kp σ₀ μ₀ h₀ st.σ μ h ∧ (∀ b ∈ wr ++ nw, b ∉ μ ∧ ¬ Own c b ∧ c.base.get? b = none) ∧
    (∃ m : Nat, st.σ[m]? = some .priv ∧ μ[m]? = some TO) ∧ (∀ b ∈ wr, h₀.objs.size ≤ b) ∧ h₀.objs.size ≤ TO ∧ z₀ ≤ h₀.objs.size
theorem zip_get {a b : List V} {i : Nat} {p : V} (h : ((a.zip b).map fun p => V.tup [p.1, p.2])[i]? = some p) : ∃ x y, a[i]? = some x ∧ b[i]? = some y ∧ p = .tup [x, y] := by
  rw [List.getElem?_map] at h
  obtain ⟨⟨x, y⟩, h1, rfl⟩ := Option.map_eq_some_iff.mp h
  obtain ⟨h2, h3⟩ := List.getElem?_zip_eq_some.mp h1
  exact ⟨x, y, h2, h3, rfl⟩

/-- out of the library's walks by tuples -/
theorem ItrT.of_walks {prog : Program} {w : World} {A : Around} {it TO : Addr} {fp wr wrW nw : List Addr} {xs : List V} {σ₀ : List O} {μ₀ : List Addr} {h₀ : Heap} {Sp : Nat → Heap → Prop} {Pt : Nat → Array Value → Prop} {Mid : Nat → Addr → Heap → Prop}
    (W : WalksT prog w A it fp wrW xs.length Pt Sp Mid) (hwr : ∀ b, b ∉ TO :: wr → b ∉ wrW) (odd : ∀ i h, Sp i h → Odd wr h) (there : ∀ i h, Sp i h → ∀ b ∈ wr ++ nw, ∃ o, h.get? b = some o) (new : ∀ b ∈ TO :: (wr ++ nw), h₀.objs.size ≤ b)
    (fpo : ∀ b ∈ fp, b = TO ∨ b ∈ wr ++ nw ∨ (∃ o vs n, h₀.get? b = some o ∧ o.data = .seq vs n ∧ ¬ Tr σ₀ μ₀ b))
    (hP : ∀ i x vals σ (μ : List Addr) (h : Heap), xs[i]? = some x → Pt i vals → Kp σ₀ μ₀ h₀ σ μ h → ∃ ys, x = .tup ys ∧ vals.size ≤ sizeLine ∧ RepVs (Tr σ μ) μ h vals.toList ys) :
    ItrT prog w A it TO fp wr nw xs σ₀ μ₀ h₀ Sp where
  frame := W.frame
  odd := odd
  there := there
  new := new
  fpo := fpo
  item := by
    intro elts k pos i x s σ μ Q hx hst K lt hQ
    have wn : ∀ b ∈ TO :: wr, h₀.objs.size ≤ b := fun b q => new b (by
      rcases List.mem_cons.mp q with rfl | q
      · simp
      · simp [q])
    refine wpAny_with_size (W.item i s _ _ (List.getElem?_eq_some_iff.mp hx).1 hst fun T vals g tk hp hT hIs hMid hk hsz => ?_)
    refine wpAny_with_size (W.go elts k pos i T _ _ _ hMid fun g' hst' hk' hsz' => ?_)
    have hk2 : But (TO :: wr) s.heap g' := fun b o hb e => hk' b o (hwr b hb) (hk b o (hwr b hb) e)
    have hsz2 : s.heap.objs.size ≤ g'.objs.size := Nat.le_trans hsz hsz'
    obtain ⟨ys, rfl, hz, r⟩ := hP i x vals σ μ g' hx hp (K.but wn hk2 hsz2)
    obtain ⟨oT, hoT, hcT, nT, hdT⟩ := hIs
    exact hQ (.ref T) g' tk hk2 hsz2 hst' (.tup (hk' T oT (W.apart i T _ hMid) hoT) hcT hdT hz (fun t => Nat.lt_irrefl _ (Nat.lt_of_lt_of_le (lt T t.mem) hT)) r)
  done := fun s Q hst hQ => wpAny_with_size (W.done s _ _ hst fun g tk hk hsz => hQ g tk (fun b o hb e => hk b o (hwr b hb) e) hsz)
  again := W.self
theorem fresh_apart {c : Cx} {st : St} {μ : List Addr} {h : Heap} (I : Inv c st μ h) {b : Addr} (hb : h.objs.size ≤ b) : b ∉ μ ∧ ¬ Own c b ∧ c.base.get? b = none := by
  refine ⟨fun m => Nat.lt_irrefl _ (Nat.lt_of_lt_of_le (I.lt b m) hb), fun o => ?_, ?_⟩
  · obtain ⟨ob, hob⟩ := Own_get I o
    exact Nat.lt_irrefl _ (Nat.lt_of_lt_of_le (Heap.lt_size hob) hb)
  · cases hb' : c.base.get? b with
    | none => rfl
    | some o => exact absurd (Nat.lt_of_lt_of_le (Heap.lt_size (I.base b o hb')) hb) (Nat.lt_irrefl _)

theorem zapart (z l1 l2 : Nat) (h1 : l1 < z) (h2 : l2 < z) : ZipApart (z + 4) (z + 2) (z + 3) z (z + 1) l1 l2 := by
  constructor <;> (intro e; have e' : @Eq Nat _ _ := e; omega)
theorem znot (z b : Nat) (h : b ∉ [z + 3, z + 4, z, z + 1]) : b ∉ [z + 4, z + 3, z, z + 1] := by
  simp only [List.mem_cons, List.not_mem_nil, or_false] at h ⊢; omega
theorem zge (z b : Nat) (h : b ∈ [z + 3, z + 4, z, z + 1]) : z ≤ b := by
  simp only [List.mem_cons, List.not_mem_nil, or_false] at h; omega
theorem zge' (z b : Nat) (h : b ∈ [z + 4, z, z + 1] ++ [z + 2]) : z ≤ b ∧ b ≠ z + 3 := by
  simp only [List.cons_append, List.nil_append, List.mem_cons, List.not_mem_nil, or_false] at h; omega
theorem make_zip {c : Cx} {z₀ : Nat} {st : St} {μ : List Addr} {s : Shared} {v u : Value} {xs ys : List V} (hh : c.A.handled = none) (I : Inv c st μ s.heap) (hz₀ : z₀ ≤ s.heap.objs.size) (rx : RepV (Tr st.σ μ) μ s.heap v (.lst xs)) (ry : RepV (Tr st.σ μ) μ s.heap u (.lst ys)) :
    wpAny (model c.prog c.w) c.A (call (.type "zip") [v, u]) (fun w s' => ∃ μ', rZ c z₀ ⟨st.ρ, st.σ ++ [.priv]⟩ μ' s'.heap w ((xs.zip ys).map fun p => .tup [p.1, p.2]) ∧ Inv c ⟨st.ρ, st.σ ++ [.priv]⟩ μ' s'.heap ∧ Stp c st.σ μ s.heap (st.σ ++ [.priv]) μ' s'.heap ∧ Same s s') (fun _ _ => False) s := by
  cases rx with
  | @lst l1 o1 vs1 n1 _ ho1 hc1 hd1 hz1 hT1 r1 =>
  cases ry with
  | @lst l2 o2 vs2 n2 _ ho2 hc2 hd2 hz2 hT2 r2 =>
    have hl1 : s.heap.IsList l1 vs1 := ⟨o1, ho1, hc1, n1, hd1⟩
    have hl2 : s.heap.IsList l2 vs2 := ⟨o2, ho2, hc2, n2, hd2⟩
    have b1 : (l1 : Nat) < s.heap.objs.size := Heap.lt_size ho1
    have b2 : (l2 : Nat) < s.heap.objs.size := Heap.lt_size ho2
    refine call_zip_2 hl1 hl2 fun h' a1 a2 a3 a4 a5 a6 a7 => ?_
    have X : Ext s.heap h' := ⟨by omega, a7⟩
    obtain ⟨I', S'⟩ := I.trackP (TO := s.heap.objs.size + 3) X (Nat.le_add_right _ _) (show s.heap.objs.size + 3 < h'.objs.size by omega)
    refine ⟨μ ++ [s.heap.objs.size + 3], ?_, I', S', ⟨rfl, rfl, rfl⟩⟩
    have e1 : vs1.size = xs.length := by have := r1.length; simpa using this
    have e2 : vs2.size = ys.length := by have := r2.length; simpa using this
    have hlen : min vs1.size vs2.size = ((xs.zip ys).map fun p => V.tup [p.1, p.2]).length := by simp [e1, e2]
    have W := WalksT.zip2 (prog := c.prog) (w := c.w) (A := c.A) hh _ _ _ _ _ _ _ (zapart _ _ _ b1 b2) vs1 vs2
    rw [hlen] at W
    have sp0 : (fun i h => IsZip h (s.heap.objs.size + 4) (s.heap.objs.size + 2) (s.heap.objs.size + 3) .none ∧ IsPair h (s.heap.objs.size + 2) (.ref s.heap.objs.size) (.ref (s.heap.objs.size + 1)) ∧ (∃ a b, IsPair h (s.heap.objs.size + 3) a b) ∧ h.IsListIter s.heap.objs.size l1 i ∧ h.IsListIter (s.heap.objs.size + 1) l2 i ∧ h.IsList l1 vs1 ∧ h.IsList l2 vs2) 0 h' :=
      ⟨a1, a2, ⟨_, _, a3⟩, a4, a5, hl1.at fun o e => a7 _ o e, hl2.at fun o e => a7 _ o e⟩
    have od : ∀ i h, (fun i h => IsZip h (s.heap.objs.size + 4) (s.heap.objs.size + 2) (s.heap.objs.size + 3) .none ∧ IsPair h (s.heap.objs.size + 2) (.ref s.heap.objs.size) (.ref (s.heap.objs.size + 1)) ∧ (∃ a b, IsPair h (s.heap.objs.size + 3) a b) ∧ h.IsListIter s.heap.objs.size l1 i ∧ h.IsListIter (s.heap.objs.size + 1) l2 i ∧ h.IsList l1 vs1 ∧ h.IsList l2 vs2) i h →
        Odd [s.heap.objs.size + 4, s.heap.objs.size, s.heap.objs.size + 1] h ∧ ∃ o, h.get? (s.heap.objs.size + 2) = some o := by
      rintro i h ⟨g1, g2, _, ⟨o4, q4, _, d4⟩, ⟨o5, q5, _, d5⟩, _⟩
      refine ⟨fun b q => ?_, _, g2⟩
      simp only [List.mem_cons, List.not_mem_nil, or_false] at q
      rcases q with rfl | rfl | rfl
      · exact ⟨_, g1, not_still rfl⟩
      · exact ⟨_, q4, not_still d4⟩
      · exact ⟨_, q5, not_still d5⟩
    have wf : ∀ b ∈ [s.heap.objs.size + 4, s.heap.objs.size, s.heap.objs.size + 1, s.heap.objs.size + 2, l1, l2], b ∈ [s.heap.objs.size + 4, s.heap.objs.size, s.heap.objs.size + 1] ++ [s.heap.objs.size + 2] ∨ (∃ o vs n, s.heap.get? b = some o ∧ o.data = .seq vs n ∧ ¬ Tr st.σ μ b) := by
      intro b q
      simp only [List.mem_cons, List.not_mem_nil, or_false] at q
      rcases q with rfl | rfl | rfl | rfl | rfl | rfl
      · exact .inl (by simp)
      · exact .inl (by simp)
      · exact .inl (by simp)
      · exact .inl (by simp)
      · exact .inr ⟨o1, vs1, n1, ho1, hd1, hT1⟩
      · exact .inr ⟨o2, vs2, n2, ho2, hd2, hT2⟩
    generalize hSp : (fun i h => IsZip h (s.heap.objs.size + 4) (s.heap.objs.size + 2) (s.heap.objs.size + 3) .none ∧ IsPair h (s.heap.objs.size + 2) (.ref s.heap.objs.size) (.ref (s.heap.objs.size + 1)) ∧ (∃ a b, IsPair h (s.heap.objs.size + 3) a b) ∧ h.IsListIter s.heap.objs.size l1 i ∧ h.IsListIter (s.heap.objs.size + 1) l2 i ∧ h.IsList l1 vs1 ∧ h.IsList l2 vs2) = Sp at W od
    have sp1 : Sp 0 h' := by rw [← hSp]; exact sp0
    have Z : ItrT c.prog c.w c.A (s.heap.objs.size + 4) (s.heap.objs.size + 3) _ [s.heap.objs.size + 4, s.heap.objs.size, s.heap.objs.size + 1] [s.heap.objs.size + 2] ((xs.zip ys).map fun p => .tup [p.1, p.2]) st.σ μ s.heap Sp :=
      ItrT.of_walks W (fun b hb => znot _ _ hb) (fun i h q => (od i h q).1) (fun i h q b hb => by
          rcases List.mem_append.mp hb with hb | hb
          · obtain ⟨o, e, _⟩ := (od i h q).1 b hb; exact ⟨o, e⟩
          · rw [List.mem_singleton.mp hb]; exact (od i h q).2)
        (fun b hb => by
          rcases List.mem_cons.mp hb with rfl | hb
          · exact Nat.le_add_right _ _
          · exact (zge' _ _ hb).1)
        (fun b q => by
          by_cases hb : b = s.heap.objs.size + 3
          · exact .inl hb
          · exact .inr (wf b (by simp only [List.mem_cons, List.not_mem_nil, or_false] at q ⊢; rcases q with q | q | q | q | q | q | q <;> simp_all)))
        (fun i x vals σ' μ' h hx ⟨p, q, hp, hq, e⟩ K => by
          obtain ⟨x', y', hx', hy', rfl⟩ := zip_get hx
          obtain ⟨u1, hu1, ru1⟩ := r1.get hx'
          obtain ⟨u2, hu2, ru2⟩ := r2.get hy'
          have eq1 : u1 = p := by simpa [hp] using hu1.symm
          have eq2 : u2 = q := by simpa [hq] using hu2.symm
          subst eq1 eq2 e
          exact ⟨_, rfl, show 2 ≤ sizeLine by decide, .cons (ru1.kp K) (.cons (ru2.kp K) .nil)⟩)
    refine ⟨_, _, _, _, _, _, _, _, _, rfl, Z, sp1, S'.kp I, fun b q => ?_, ⟨st.σ.length, by simp, by rw [← I.len]; simp⟩, fun b q => (zge' _ _ (List.mem_append_left _ q)).1, Nat.le_add_right _ _, hz₀⟩
    have hb := zge' _ _ q
    have fa := fresh_apart I hb.1
    refine ⟨fun m => ?_, fa.2⟩
    rcases List.mem_append.mp m with m | m
    · exact fa.1 m
    · exact hb.2 (List.mem_singleton.mp m)
theorem enum_get : ∀ {xs : List V} {k i : Nat} {p : V}, (enumL k xs)[i]? = some p → ∃ x, xs[i]? = some x ∧ p = .tup [.int (k + i : Nat), x]
  | [], k, i, p, h => by simp [enumL] at h
  | x :: xs, k, 0, p, h => by cases h; exact ⟨x, rfl, rfl⟩
  | x :: xs, k, i + 1, p, h => by
    obtain ⟨y, h1, h2⟩ := enum_get (xs := xs) (k := k + 1) (i := i) h
    exact ⟨y, h1, by rw [h2, show k + 1 + i = k + (i + 1) by omega]⟩
theorem enum_len : ∀ (xs : List V) (k : Nat), (enumL k xs).length = xs.length
  | [], _ => rfl
  | _ :: xs, k => congrArg (· + 1) (enum_len xs (k + 1))
theorem eapart (z l : Nat) (h : l < z) : z + 1 ≠ z ∧ l ≠ z + 1 ∧ l ≠ z := by omega
theorem enot (z b : Nat) (h : b ∉ [z + 1, z]) : b ∉ [z + 1, z] := h
theorem make_enum {c : Cx} {z₀ : Nat} {st : St} {μ : List Addr} {s : Shared} {v : Value} {xs : List V} (hh : c.A.handled = none) (I : Inv c st μ s.heap) (hz₀ : z₀ ≤ s.heap.objs.size) (rx : RepV (Tr st.σ μ) μ s.heap v (.lst xs)) :
    wpAny (model c.prog c.w) c.A (call (.type "enumerate") [v]) (fun w s' => ∃ μ', rZ c z₀ ⟨st.ρ, st.σ ++ [.priv]⟩ μ' s'.heap w (enumL 0 xs) ∧ Inv c ⟨st.ρ, st.σ ++ [.priv]⟩ μ' s'.heap ∧ Stp c st.σ μ s.heap (st.σ ++ [.priv]) μ' s'.heap ∧ Same s s') (fun _ _ => False) s := by
  cases rx with
  | @lst l o vs n _ ho hc hd hz hT r =>
    have hl : s.heap.IsList l vs := ⟨o, ho, hc, n, hd⟩
    have b1 : (l : Nat) < s.heap.objs.size := Heap.lt_size ho
    refine call_enumerate_list hl fun h' a1 a4 a6 a7 => ?_
    have X : Ext s.heap h' := ⟨by omega, a7⟩
    obtain ⟨I', S'⟩ := I.trackP (TO := s.heap.objs.size + 1) X (Nat.le_add_right _ _) (show s.heap.objs.size + 1 < h'.objs.size by omega)
    refine ⟨μ ++ [s.heap.objs.size + 1], ?_, I', S', ⟨rfl, rfl, rfl⟩⟩
    have e1 : vs.size = (enumL 0 xs).length := by have := r.length; rw [enum_len]; simpa using this
    obtain ⟨n1, n2, n3⟩ := eapart _ _ b1
    have W := WalksT.enumerate (prog := c.prog) (w := c.w) (A := c.A) hh (s.heap.objs.size + 1) s.heap.objs.size l n1 n2 n3 vs
    rw [e1] at W
    have Z := ItrT.of_walks (TO := s.heap.objs.size + 1) (wr := [s.heap.objs.size]) (nw := []) (σ₀ := st.σ) (μ₀ := μ) (h₀ := s.heap) W (fun b hb => hb)
      (fun i h q b hb => by
        obtain ⟨_, ⟨o4, q4, _, d4⟩, _⟩ := q
        rw [List.mem_singleton.mp hb]
        exact ⟨_, q4, not_still d4⟩)
      (fun i h q b hb => by
        obtain ⟨_, ⟨o4, q4, _, d4⟩, _⟩ := q
        rw [List.mem_singleton.mp hb]
        exact ⟨_, q4⟩)
      (fun b hb => by
        rcases List.mem_cons.mp hb with rfl | hb
        · exact Nat.le_add_right _ _
        · rw [List.mem_singleton.mp hb]; exact Nat.le_refl _)
      (fun b q => by
        simp only [List.mem_cons, List.not_mem_nil, or_false] at q
        rcases q with rfl | rfl | rfl
        · exact .inl rfl
        · exact .inr (.inl (by simp))
        · exact .inr (.inr ⟨o, vs, n, ho, hd, hT⟩))
      (fun i x vals σ' μ' h hx ⟨t, p, hp, e⟩ K => by
        obtain ⟨x', hx', rfl⟩ := enum_get hx
        obtain ⟨u1, hu1, ru1⟩ := r.get hx'
        have eq1 : u1 = p := by simpa [hp] using hu1.symm
        subst eq1 e
        refine ⟨_, rfl, show 2 ≤ sizeLine by decide, .cons ?_ (.cons (ru1.kp K) .nil)⟩
        rw [Nat.zero_add]
        exact .int _ _)
    refine ⟨_, _, _, _, _, _, _, _, _, rfl, Z, ⟨⟨_, a1⟩, a4, hl.at fun o e => a7 _ o e⟩, S'.kp I, fun b q => ?_, ⟨st.σ.length, by simp, by rw [← I.len]; simp⟩, fun b q => by rw [List.mem_singleton.mp q]; exact Nat.le_refl _, Nat.le_add_right _ _, hz₀⟩
    have hb : b = s.heap.objs.size := by simpa using q
    have fa := fresh_apart I (b := b) (by rw [hb]; exact Nat.le_refl _)
    refine ⟨fun m => ?_, fa.2⟩
    rcases List.mem_append.mp m with m | m
    · exact fa.1 m
    · exact n1 ((List.mem_singleton.mp m).symm.trans hb)
end Mine
namespace Mine
open PySem PySem.Calls PyProof.Rows
section
variable {n : Nat} {mg mb : Str → Option Value} {prog : Program} {w : World} {base : Heap} {F : Fn} {K : Nat}

theorem sim_zip {a b : Ex} (ha : EOk n mg mb prog w base F a) (hb : EOk n mg mb prog w base F b) (g : Gm) (py : Expr) (c : Cx) (st : St) (μ : List Addr) (s : Shared) (e1 : c.prog = prog) (e2 : c.w = w) (e3 : c.base = base)
    (hm : mZ g (.zip a b) py = true) (hg : Good n mg mb c g) (I : Inv c st μ s.heap) : Sim c (eval py c.env) (evIt F (.zip a b) st) (rZ c s.heap.objs.size) st.σ μ s := by
  obtain ⟨f', as, ks, pos, rfl, hk⟩ := onCall_inv hm
  obtain ⟨f', p, rfl, _⟩ := onName_inv hk
  rcases as with _ | ⟨x, _ | ⟨y, _ | ⟨z, r⟩⟩⟩ <;> try (exact absurd hm Bool.false_ne_true)
  cases ks <;> try (exact absurd hm Bool.false_ne_true)
  simp [m_bool, m_int, m_str, m_loc, m_fz, m_bin, m_cmp, m_chain, m_band2, m_band3, m_bor2, m_bor3, m_not, m_neg, m_ite, m_tup, m_list, m_listM, m_sub, m_slice, m_isin, m_bi, m_me, m_call, m_comp, m_nil, m_cons, m_onone, m_osome, m_val, m_range1, m_range2, m_zip, m_asg, m_expr, m_ret, m_ifte, m_for1, m_forT, m_while, m_snil, m_scons, m_tcons] at hm
  obtain ⟨⟨⟨rfl, h1⟩, h3⟩, h4⟩ := hm
  rw [arm_eval_Call_Name']
  simp only [qvIt_val, qvIt_range1, qvIt_range2, qvIt_enum, qvIt_zip]
  rw [bind_unit (fun st => (evE F a st).bind _)]
  have hx : noStar x := fun rest env => mE_notStar h3 rest env
  have hy : noStar y := fun rest env => mE_notStar h4 rest env
  have hx' : ∀ z ∈ [x, y], noStar z := fun z hz => by
    rcases List.mem_cons.mp hz with rfl | hz
    · exact hx
    · rw [List.mem_singleton.mp hz]; exact hy
  refine Sim.bind (rel := fun _ _ _ v (_ : Unit) => v = Value.type "zip") (Sim.leaf I (load_builtin hg I h1 (by simp) boot_zip ⟨.refl, .refl, rfl⟩)) fun _ st₁ v μ₁ s₁ he rv I₁ S₁ => ?_
  cases he
  cases rv
  have e5 : ∀ k : V → V → St → R (List V), ((evE F a st).bind fun x st => (evE F b st).bind fun y st => k x y st) = (evEs F (.cons a (.cons b .nil)) st).bind fun xs st => match xs with | [x, y] => k x y st | _ => .stuck := by
    intro k; simp only [qvEs_nil, qvEs_cons]
    cases evE F a st with
    | stuck => rfl
    | exc _ _ => rfl
    | ok x st =>
      simp only [R.bind_ok]
      cases evE F b st <;> rfl
  rw [e5]
  refine Sim.via (f := fun vs => call (.type "zip") vs) (fun Q h => callT hx' h) (snd_cons ha (snd_cons hb snd_nil) g [x, y] c st μ₁ s₁ pos e1 e2 e3 (by simp [m_cons, m_nil, h3, h4]) hg I₁) fun xs st₂ vs μ₂ s₂ _ rx I₂ S₂ => ?_
  cases rx with
  | nil => trivial
  | cons r0 rr =>
    cases rr with
    | nil => trivial
    | cons r1 rr =>
      cases rr with
      | cons _ _ => trivial
      | nil =>
        simp only
        unfold zipR
        split
        · exact make_zip hg.hh I₂ (Nat.le_trans S₁.size S₂.size) r0 r1
        · trivial
theorem sim_enum {a : Ex} (ha : EOk n mg mb prog w base F a) (g : Gm) (py : Expr) (c : Cx) (st : St) (μ : List Addr) (s : Shared) (e1 : c.prog = prog) (e2 : c.w = w) (e3 : c.base = base)
    (hm : mZ g (.enum a) py = true) (hg : Good n mg mb c g) (I : Inv c st μ s.heap) : Sim c (eval py c.env) (evIt F (.enum a) st) (rZ c s.heap.objs.size) st.σ μ s := by
  obtain ⟨f', as, ks, pos, rfl, hk⟩ := onCall_inv hm
  obtain ⟨f', p, rfl, _⟩ := onName_inv hk
  rcases as with _ | ⟨x, _ | ⟨y, r⟩⟩ <;> try (exact absurd hm Bool.false_ne_true)
  cases ks <;> try (exact absurd hm Bool.false_ne_true)
  simp [m_enum] at hm
  obtain ⟨⟨rfl, h1⟩, h3⟩ := hm
  rw [arm_eval_Call_Name', qvIt_enum]
  rw [bind_unit (fun st => (evE F a st).bind _)]
  have hx : noStar x := fun rest env => mE_notStar h3 rest env
  have hx' : ∀ y ∈ [x], noStar y := fun y hy => by rw [List.mem_singleton.mp hy]; exact hx
  refine Sim.bind (rel := fun _ _ _ v (_ : Unit) => v = Value.type "enumerate") (Sim.leaf I (load_builtin hg I h1 (by simp) boot_enumerate ⟨.refl, .refl, rfl⟩)) fun _ st₁ v μ₁ s₁ he rv I₁ S₁ => ?_
  cases he
  cases rv
  have e5 : ∀ k : V → St → R (List V), (evE F a st).bind k = (evEs F (.cons a .nil) st).bind fun xs st => match xs with | [x] => k x st | _ => .stuck := by
    intro k; simp only [qvEs_nil, qvEs_cons]; cases evE F a st <;> rfl
  rw [e5]
  refine Sim.via (f := fun vs => call (.type "enumerate") vs) (fun Q h => callT hx' h) (snd_cons ha snd_nil g [x] c st μ₁ s₁ pos e1 e2 e3 (by simp [m_cons, m_nil, h3]) hg I₁) fun xs st₂ vs μ₂ s₂ _ rx I₂ S₂ => ?_
  cases rx with
  | nil => trivial
  | cons r0 rr =>
    cases rr with
    | cons _ _ => trivial
    | nil =>
      simp only
      unfold enumR
      split
      · exact make_enum hg.hh I₂ (Nat.le_trans S₁.size S₂.size) r0
      · trivial
noncomputable def ZOk (n : Nat) (mg mb : Str → Option Value) (prog : Program) (w : World) (base : Heap) (F : Fn) (it : It) : Prop :=
  ∀ (g : Gm) (py : Expr) (c : Cx) (st : St) (μ : List Addr) (s : Shared), c.prog = prog → c.w = w → c.base = base → mZ g it py = true → Good n mg mb c g → Inv c st μ s.heap → Sim c (eval py c.env) (evIt F it st) (rZ c s.heap.objs.size) st.σ μ s
theorem mZ_notSet {g : Gm} {it : It} {py : Expr} (h : mZ g it py = true) (env : Env) (x : Value) : foldedSetIterable py env x = pure x := by
  cases it with
  | zip a b => cases py <;> first | rfl | (exact absurd h Bool.false_ne_true)
  | enum a => cases py <;> first | rfl | (exact absurd h Bool.false_ne_true)
  | _ => exact absurd h Bool.false_ne_true
theorem snd_forT {is : List Nat} {it : It} {body : Sms} (hZ : ZOk n mg mb prog w base F it) (hb : SsOk n mg mb prog w base F K body) : SOk n mg mb prog w base F K (.forT is it body) := by
  intro g py c st μ s e1 e2 e3 hm hg I
  obtain ⟨tgt, iter, bd, orelse, p, rfl, hk⟩ := onFor_inv hm
  obtain ⟨ts, kk, tp, rfl, _⟩ := onTup_inv hk
  cases orelse <;> try (exact absurd hm Bool.false_ne_true)
  simp [m_bool, m_int, m_str, m_loc, m_fz, m_bin, m_cmp, m_chain, m_band2, m_band3, m_bor2, m_bor3, m_not, m_neg, m_ite, m_tup, m_list, m_listM, m_sub, m_slice, m_isin, m_bi, m_me, m_call, m_comp, m_nil, m_cons, m_onone, m_osome, m_val, m_range1, m_range2, m_zip, m_asg, m_expr, m_ret, m_ifte, m_for1, m_forT, m_while, m_snil, m_scons, m_tcons] at hm
  obtain ⟨⟨h1, h2⟩, h3⟩ := hm
  simp only [qvS_asg, qvS_asgT, qvS_expr, qvS_ret, qvS_ifte, qvS_for1, qvS_forT, qvS_while, qvS_brk]
  have hI := hZ g iter c st μ s e1 e2 e3 h2 hg I
  cases hR : evIt F it st with
  | stuck => trivial
  | exc _ _ => trivial
  | ok xs st₁ =>
    rw [hR] at hI
    simp only [R.bind_ok]
    cases hr : forR (fun x st => (asT is x st).bind fun _ st => evSs F K body st) xs st₁ with
    | stuck => trivial
    | exc _ _ => trivial
    | ok fl stF =>
      refine wpAny_For (wpAny_mono hI (fun v s₁ ⟨μ₁, rs, I₁, S₁, Q₁⟩ => ?_) fun _ _ e => e) (mZ_notSet h2 _)
      obtain ⟨I0, TO, fp, wr, nw, σ₀, μ₀, h₀, Sp, rfl, W, sp, Kp₀, hw, ⟨m, hm1, hm2⟩, wn, wt, hz⟩ := rs
      refine W.again 0 s₁ _ _ sp ?_
      refine codeAny_mono (sim_forLoopT (elts := ts) (kk := kk) (tp := tp) (body := bd) (as := asT is) (bd := fun st => evSs F K body st) W sp (fun y v st μ s r I => sim_assignT hg h1 r I)
        (fun st μ s I => hb _ _ c st μ s e1 e2 e3 h3 hg I) I₁ hm1 hm2 Kp₀ (fun b q => (hw b q).1) (fun b q => (hw b q).2.1) (fun b q => (hw b (List.mem_append_left _ q)).2.2) S₁
        (fun b q => Nat.le_trans hz (by
          rcases List.mem_cons.mp q with rfl | q
          · exact wt
          · exact wn b q)) (fl := fl) (stF := stF) hr) ?_
      rintro r s' hr'
      cases r with
      | ok f =>
        obtain ⟨μ', g1, g2, g3, g4⟩ := hr'
        exact ⟨μ', g1, g2, g3, Q₁.trans g4⟩
      | error e => exact hr'.elim
end
end Mine
namespace Mine
open PySem PySem.Calls PyProof.Rows
theorem pairs_conv {p p' : Program} {w w' : World} {es : List DictEntry} {kvs : List (Int × Value)} (h : Pairs (intKind p w) es kvs) : Pairs (intKind p' w') es kvs := by
  induction h with
  | nil => exact .nil
  | cons a b _ ih => exact .cons a b ih
theorem isDict_conv {p : Program} {w : World} {o : Obj} {kvs : List (Int × Value)} (h : o.IsDictOf (intKind p w) kvs) : ∀ (p' : Program) (w' : World), o.IsDictOf (intKind p' w') kvs := fun p' w' =>
  let ⟨es, ep, h1, h2, h3, h4, h5⟩ := h
  ⟨es, ep, h1, h2, h3, pairs_conv h4, h5⟩
theorem stored_keys {kvs : List (Int × Value)} {ys : List (Int × V)} (h : kvs.map (·.1) = ys.map (·.1)) (k : Int) (u : Value) (v : V) : (stored kvs k u).map (·.1) = (storedV ys k v).map (·.1) := by
  have ha : (kvs.any fun p => p.1 = k) = (ys.any fun p => p.1 = k) := by
    have := congrArg (fun l : List Int => l.any fun x => x = k) h
    simpa [List.any_map, Function.comp_def] using this
  unfold stored storedV
  rw [ha]
  split
  · rw [List.map_map, List.map_map]
    have e1 : (fun kv : Int × Value => kv.1) ∘ (fun kv => if kv.1 = k then (kv.1, u) else kv) = fun kv => kv.1 := by funext kv; simp only [Function.comp]; split <;> rfl
    have e2 : (fun kv : Int × V => kv.1) ∘ (fun kv => if kv.1 = k then (kv.1, v) else kv) = fun kv => kv.1 := by funext kv; simp only [Function.comp]; split <;> rfl
    rw [e1, e2]; exact h
  · rw [List.map_append, List.map_append, h]; rfl
theorem stored_reps {T : Addr → Prop} {μ : List Addr} {h : Heap} {k : Int} {u : Value} {v : V} (ru : RepV T μ h u v) : ∀ {kvs : List (Int × Value)} {ys : List (Int × V)}, kvs.map (·.1) = ys.map (·.1) → RepVs T μ h (kvs.map (·.2)) (ys.map (·.2)) → RepVs T μ h ((kvs.map fun p => if p.1 = k then (p.1, u) else p).map (·.2)) ((ys.map fun p => if p.1 = k then (p.1, v) else p).map (·.2))
  | [], [], _, _ => .nil
  | [], _ :: _, e, _ => by cases e
  | _ :: _, [], e, _ => by cases e
  | p :: kvs, q :: ys, e, r => by
    have e1 : p.1 = q.1 := (List.cons.inj e).1
    have e2 := (List.cons.inj e).2
    cases r with
    | cons a r =>
      refine .cons ?_ (stored_reps ru e2 r)
      dsimp only
      by_cases hk : p.1 = k
      · rw [if_pos hk, if_pos (e1 ▸ hk)]; exact ru
      · rw [if_neg hk, if_neg (e1 ▸ hk)]; exact a
theorem stored_all {T : Addr → Prop} {μ : List Addr} {h : Heap} {k : Int} {u : Value} {v : V} (ru : RepV T μ h u v) {kvs : List (Int × Value)} {ys : List (Int × V)} (e : kvs.map (·.1) = ys.map (·.1)) (r : RepVs T μ h (kvs.map (·.2)) (ys.map (·.2))) : RepVs T μ h ((stored kvs k u).map (·.2)) ((storedV ys k v).map (·.2)) := by
  have ha : (kvs.any fun p => p.1 = k) = (ys.any fun p => p.1 = k) := by
    have := congrArg (fun l : List Int => l.any fun x => x = k) e
    simpa [List.any_map, Function.comp_def] using this
  unfold stored storedV
  rw [ha]
  split
  · exact stored_reps ru e r
  · rw [List.map_append, List.map_append]
    exact r.append (.cons ru .nil)
section
variable {n : Nat} {mg mb : Str → Option Value} {prog : Program} {w : World} {base : Heap} {F : Fn} {K : Nat}
theorem snd_dictM : EOk n mg mb prog w base F .dictM := by
  intro g py c st μ s e1 e2 e3 hm hg I
  obtain ⟨ks, vs, p, rfl, hk⟩ := onDict_inv hm
  cases ks <;> try (exact absurd hm Bool.false_ne_true)
  cases vs <;> try (exact absurd hm Bool.false_ne_true)
  rw [qvE_dictM]
  obtain ⟨I₂, S₂⟩ := I.track (o := { cls := .type "dict", data := .dict #[] }) (ob := .idict []) rfl rfl fun T hT => .live (Heap.get?_push_size _ rfl) (.idict (kvs := []) (fun p w => ⟨#[], 0, ⟨rfl, rfl, rfl⟩, rfl, fun _ he => by simp at he, .nil, List.nodup_nil⟩) (Nat.zero_le _) rfl) .nil
  exact wpAny_Dict_empty ⟨_, .ref (by rw [← I.len]; simp), I₂, S₂, .refl⟩
theorem setI_inv {x y v : V} {st stF : St} {fl : Fl} (h : setI x y v st = .ok fl stF) : ∃ (m : Nat) (k : Int) (es : List (Int × V)), x = .ref m ∧ y = .int k ∧ st.σ[m]? = some (.idict es) ∧ es.length < sizeLine ∧ fl = .next ∧ stF = ⟨st.ρ, st.σ.set m (.idict (storedV es k v))⟩ := by
  cases x <;> try (cases h; done)
  cases y <;> try (cases h; done)
  rename_i m k
  cases hm : st.σ[m]? with
  | none => simp [setI, hm] at h
  | some o =>
    cases o <;> try (simp [setI, hm] at h; done)
    rename_i es
    simp only [setI, hm] at h
    split at h
    · rename_i hz
      cases h
      exact ⟨m, k, es, rfl, rfl, hm, hz, rfl, rfl⟩
    · cases h
theorem snd_asgI {a i e : Ex} (ha : EOk n mg mb prog w base F a) (hi : EOk n mg mb prog w base F i) (he : EOk n mg mb prog w base F e) : SOk n mg mb prog w base F K (.asgI a i e) := by
  intro g py c st μ s e1 e2 e3 hm hg I
  obtain ⟨ts, v, p, rfl, hk⟩ := onAssign_inv hm
  rcases ts with _ | ⟨t, r⟩ <;> try (exact absurd hm Bool.false_ne_true)
  cases r <;> try (exact absurd hm Bool.false_ne_true)
  obtain ⟨o, j, q, rfl, _⟩ := onSub_inv (py := t) hk
  rw [m_asgI, Bool.and_eq_true, Bool.and_eq_true, Bool.and_eq_true] at hm
  obtain ⟨⟨⟨h1, h2⟩, h3⟩, h4⟩ := hm
  rw [qvS_asgI]
  cases hR : (evE F e st).bind fun v st => (evE F a st).bind fun x st => (evE F i st).bind fun y st => setI x y v st with
  | stuck => trivial
  | exc _ _ => trivial
  | ok fl stF =>
    obtain ⟨v', st₁, hE, hR⟩ := R.bind_inv hR
    obtain ⟨x, st₂, hA, hR⟩ := R.bind_inv hR
    obtain ⟨y, st₃, hI, hR⟩ := R.bind_inv hR
    obtain ⟨m, k, es, rfl, rfl, hσ, hz, rfl, rfl⟩ := setI_inv hR
    have b1 := he _ _ c st μ s e1 e2 e3 h3 hg I
    rw [hE] at b1
    refine wpAny_Assign_Subscript (wpAny_mono b1 (fun u s₁ ⟨μ₁, rv, I₁, S₁, Q₁⟩ => ?_) fun _ _ e => e) (swaps_no (by simpa using h4))
    have b2 := ha _ _ c st₁ μ₁ s₁ e1 e2 e3 h1 hg I₁
    rw [hA] at b2
    refine wpAny_mono b2 (fun ov s₂ ⟨μ₂, rx, I₂, S₂, Q₂⟩ => ?_) fun _ _ e => e
    have b3 := hi _ _ c st₂ μ₂ s₂ e1 e2 e3 h2 hg I₂
    rw [hI] at b3
    refine wpAny_mono b3 (fun iv s₃ ⟨μ₃, ry, I₃, S₃, Q₃⟩ => ?_) fun _ _ e => e
    have rv₃ := RepV.step I₂ S₃ (RepV.step I₁ S₂ rv)
    have rx₃ := RepV.step I₂ S₃ rx
    obtain ⟨tk, rfl⟩ := RepV.int_inv ry
    cases rx₃ with
    | @ref _ d hd =>
      obtain ⟨d', hd', ro⟩ := I₃.objs m _ hσ
      obtain rfl := Option.some.inj (hd.symm.trans hd')
      cases ro with
      | live ho L r =>
        cases L with
        | @idict ob kvs _ hD hzk hkk =>
          have hlen : kvs.length = es.length := by have := congrArg List.length hkk; simpa using this
          refine wpAny_setItem_pairs (knd := intKind c.prog c.w) (k := k) (by simp [intKind, Value.isInt]) (Heap.dictOf_iff.mpr ⟨_, ho, hD c.prog c.w⟩) (fun h' hm' hs' => ?_) (by omega)
          obtain ⟨o', ho', hD'⟩ := Heap.dictOf_iff.mp hm'
          have tE : Tr (st₃.σ.set m (.idict es)) μ₃ = Tr st₃.σ μ₃ := funext fun b => propext (Tr_set hσ rfl rfl)
          have S : Stp c st₃.σ μ₃ s₃.heap (st₃.σ.set m (.idict es)) μ₃ h' :=
            ⟨Nat.le_of_eq hs'.1.symm, fun b ob q _ hT => (hs'.2 b (fun (k : b = d) => hT (k ▸ ⟨m, _, hσ, rfl, hd⟩))).trans q, fun _ _ q => q, fun b q => .inl (by rwa [tE] at q), fun _ q => .inl q, pv_set hσ (by simp), fun k b ob e1 e2 e3 => (hs'.2 b fun x => by
              have : m = k := (List.getElem?_inj (List.getElem?_eq_some_iff.mp hd).1 I₃.nd).mp (hd.trans (x ▸ e2.symm))
              subst this; rw [hσ] at e1; cases e1).trans e3⟩
          have r1 := r.step (st' := ⟨st₃.ρ, st₃.σ.set m (.idict es)⟩) I₃ S
          have r2 := rv₃.step (st' := ⟨st₃.ρ, st₃.σ.set m (.idict es)⟩) I₃ S
          dsimp only at r1 r2
          rw [tE] at r1 r2
          have hst : (stored kvs k u).length ≤ sizeLine := by
            unfold stored; split
            · rw [List.length_map]; omega
            · rw [List.length_append, List.length_singleton]; omega
          have S0 : RepO (Tr st₃.σ μ₃) μ₃ h' d (.idict (storedV es k v')) := .live ho' (.idict (isDict_conv hD') hst (stored_keys hkk k u v')) (stored_all r2 hkk r1)
          obtain ⟨I', S'⟩ := I₃.upd hσ hd rfl rfl (.of hs') S0 (by simp)
          exact ⟨μ₃, trivial, I', ((S₁.trans S₂).trans S₃).trans S', ((Q₁.trans Q₂).trans Q₃).trans ⟨rfl, rfl, rfl⟩⟩
end
end Mine
namespace Mine
open PySem PySem.Calls PyProof.Rows

theorem attr_nd : attrNames.Nodup := by decide +kernel
theorem attr_obj {y : Str} (h : y ∈ attrNames) : typeLookup (.type "object") y = pure none := by
  simp only [attrNames, List.mem_cons, List.not_mem_nil, or_false] at h
  rcases h with rfl | rfl | rfl | rfl | rfl <;> (rw [typeLookup_type, builtinLookup_eq_fast]; kernel_rfl)
theorem zip_lk {y : Str} {v : Value} : ∀ {ns : List Str} {vs : List Value} {k : Nat}, ns.Nodup → ns[k]? = some y → vs[k]? = some v → (ns.zip vs).lookup y = some v
  | [], _, _, _, h, _ => by simp at h
  | n :: ns, [], _, _, _, h => by simp at h
  | n :: ns, u :: vs, 0, _, h, h' => by
    obtain rfl : n = y := by simpa using h
    obtain rfl : u = v := by simpa using h'
    simp [List.zip_cons_cons, List.lookup_cons]
  | n :: ns, u :: vs, k + 1, hn, h, h' => by
    rw [List.nodup_cons] at hn
    rw [List.getElem?_cons_succ] at h h'
    have hne : (y == n) = false := by rw [beq_eq_false_iff_ne]; rintro rfl; exact hn.1 (List.mem_of_getElem? h)
    rw [List.zip_cons_cons, List.lookup_cons, hne]
    exact zip_lk hn.2 h h'
theorem zip_set {y : Str} {v : Value} : ∀ {ns : List Str} {vs : List Value} {k : Nat}, ns.Nodup → ns[k]? = some y → k ≤ vs.length → ∀ z, (if z = y then some v else (ns.zip vs).lookup z) = (ns.zip (if k < vs.length then vs.set k v else vs ++ [v])).lookup z
  | [], _, _, _, h, _, _ => by simp at h
  | n :: ns, [], 0, _, h, _, z => by
    obtain rfl : n = y := by simpa using h
    by_cases hz : z = n
    · subst hz; simp [List.zip_cons_cons, List.lookup_cons]
    · have : (z == n) = false := by rw [beq_eq_false_iff_ne]; exact hz
      simp [List.zip_cons_cons, List.lookup_cons, hz, this]
  | n :: ns, [], k + 1, _, _, h, _ => by simp at h
  | n :: ns, u :: vs, 0, _, h, _, z => by
    obtain rfl : n = y := by simpa using h
    by_cases hz : z = n
    · subst hz; simp [List.zip_cons_cons, List.lookup_cons]
    · have : (z == n) = false := by rw [beq_eq_false_iff_ne]; exact hz
      simp [List.zip_cons_cons, List.lookup_cons, hz, this]
  | n :: ns, u :: vs, k + 1, hn, h, hk, z => by
    rw [List.nodup_cons] at hn
    rw [List.getElem?_cons_succ] at h
    have ih := zip_set (v := v) (vs := vs) hn.2 h (by simpa using hk) z
    have e : (if k + 1 < (u :: vs).length then (u :: vs).set (k + 1) v else u :: vs ++ [v]) = u :: (if k < vs.length then vs.set k v else vs ++ [v]) := by
      by_cases hl : k < vs.length
      · rw [if_pos hl, if_pos (by simpa using hl)]; rfl
      · rw [if_neg hl, if_neg (by simpa using hl)]; rfl
    rw [e, List.zip_cons_cons, List.zip_cons_cons, List.lookup_cons, List.lookup_cons, ← ih]
    by_cases hz : z = n
    · subst hz
      have : z ≠ y := by rintro rfl; exact hn.1 (List.mem_of_getElem? h)
      rw [if_neg this]; simp
    · have : (z == n) = false := by rw [beq_eq_false_iff_ne]; exact hz
      rw [this]
theorem RepVs.set {T : Addr → Prop} {μ : List Addr} {h : Heap} {v : Value} {x : V} (r : RepV T μ h v x) : ∀ {vs : List Value} {xs : List V} (k : Nat), RepVs T μ h vs xs → RepVs T μ h (vs.set k v) (xs.set k x)
  | _, _, _, .nil => .nil
  | _, _, 0, .cons _ b => .cons r b
  | _, _, k + 1, .cons a b => .cons a (RepVs.set r k b)

section
variable {c : Cx} {st : St} {μ : List Addr} {s : Shared} {u v : Value}
/-- an instance and its attributes -/
theorem inst_at (I : Inv c st μ s.heap) {C n : Nat} {xs : List V} (r : RepV (Tr st.σ μ) μ s.heap u (.inst C n)) (h : st.σ[n]? = some (.attrs xs)) :
    ∃ x dx vs, u = .ref x ∧ s.heap.get? x = some { cls := .ref C, dict := some dx, data := .plain } ∧ μ[n]? = some dx ∧ dx ≠ x ∧ s.heap.Inst x C (fun y => (attrNames.zip vs).lookup y) ∧ vs.length ≤ attrNames.length ∧ RepVs (Tr st.σ μ) μ s.heap vs xs := by
  cases r with
  | @inst x dx _ _ hx hT hd =>
    obtain ⟨d', hd', ro⟩ := I.objs n _ h
    obtain rfl := Option.some.inj (hd.symm.trans hd')
    cases ro with
    | live ho L r =>
      cases L with
      | attrs hN hl =>
        obtain ⟨es, ep, d1, d2, d3, d4⟩ := hN
        have hne : dx ≠ x := fun e => hT (e ▸ ⟨n, _, h, rfl, hd⟩)
        exact ⟨x, dx, _, rfl, hx, hd, hne, ⟨_, hx, rfl, fun _ q => (by cases q), .inr ⟨dx, rfl, hne, ⟨_, es, ep, ho, d1, d2, d3, d4⟩⟩⟩, hl, r⟩
theorem cls_at {C : Addr} (I : Inv c st μ s.heap) (hC : ClsOk c.base C) : ∃ N mN, ClsAt s.heap C N mN ∧ mN "__getattribute__" = none ∧ mN "__setattr__" = none ∧ ∀ y ∈ attrNames, mN y = none :=
  let ⟨N, mN, h1, h2, h3, h4⟩ := hC
  ⟨N, mN, h1.keeps I.base, h2, h3, h4⟩
theorem rep_handed {T : Addr → Prop} {h : Heap} {x : V} (r : RepV T μ h v x) : handedOut v = pure v := by cases r <;> rfl
theorem sim_attr (I : Inv c st μ s.heap) {q : Option Int} {k : Nat} {name : Str} (hq : ∀ C : Nat, q = some (C : Int) → ClsOk c.base C) (hk : attrNames[k]? = some name) {x : V} (rx : RepV (Tr st.σ μ) μ s.heap u x) :
    Sim c (getAttr u name true) (R.lift (attrSem q st.σ x k) st) rV st.σ μ s := by
  cases x <;> try trivial
  rename_i C n
  show Sim c _ (R.lift (if q = some (C : Int) then (match st.σ[n]? with | some (.attrs xs) => xs[k]? | _ => none) else none) st) _ _ _ _
  split
  · rename_i hC
    cases hn : st.σ[n]? with
    | none => trivial
    | some o =>
      cases o <;> try trivial
      rename_i xs
      dsimp only
      cases hy : xs[k]? with
      | none => trivial
      | some y =>
        obtain ⟨x, dx, vs, rfl, hx, _, _, hI, _, r⟩ := inst_at I rx hn
        obtain ⟨N, mN, X, h1, _, h3⟩ := cls_at I (hq C hC)
        obtain ⟨nm, qq, bs, sn, sub, col, dd, k0, k1, k2, k3, k5, hCo⟩ := X.obj
        obtain ⟨w, hw, rw'⟩ := r.get hy
        obtain ⟨hp, gg, d, t, os⟩ := s
        exact leaf_val I rw' fun Q hQ => load_attr hCo X.ns h1 (h3 _ (List.mem_of_getElem? hk)) (attr_obj (List.mem_of_getElem? hk)) hI (zip_lk attr_nd hk hw) (rep_handed rw') (hQ _)
  · trivial
end
section
variable {n : Nat} {mg mb : Str → Option Value} {prog : Program} {w : World} {base : Heap} {F : Fn} {K : Nat}
theorem snd_attr {a : Ex} {k : Nat} (hF : FnOk n prog w base mg F) (ha : EOk n mg mb prog w base F a) : EOk n mg mb prog w base F (.attr a k) := by
  intro g py c st μ s e1 e2 e3 hm hg I
  obtain ⟨o, nm, p, rfl, _⟩ := onAttr_inv hm
  rw [m_attr, Bool.and_eq_true, Bool.and_eq_true, decide_eq_true_eq] at hm
  rw [qvE_attr, arm_eval_Attribute, base_plain hm.1.2]
  refine Sim.bind (ha _ _ c st μ s e1 e2 e3 hm.2 hg I) fun x st₁ u μ₁ s₁ _ rx I₁ S₁ => Sim.at ?_
  have hs := sim_attr (q := clsF F) I₁ (fun C hC => e3 ▸ hF.cls C hC) hm.1.1 rx
  cases hA : R.lift (attrSem (clsF F) st₁.σ x k) st₁ with
  | stuck => trivial
  | exc _ _ => trivial
  | ok y st₂ =>
    rw [hA] at hs
    exact wpAny_bind (wpAny_holding (wpAny_mono hs (fun v s₂ h₂ => wpAny_bind (wpAny_letTemporaryGo (wpAny_pure h₂))) fun _ _ e => e))
/-- an attribute is set -/
theorem sim_setattr {c : Cx} {st stF : St} {μ : List Addr} {s : Shared} {u v : Value} {x y : V} {q : Option Int} {k : Nat} {name : Str} {fl : Fl} (I : Inv c st μ s.heap) (hq : ∀ C : Nat, q = some (C : Int) → ClsOk c.base C) (hk : attrNames[k]? = some name)
    (rx : RepV (Tr st.σ μ) μ s.heap u x) (ry : RepV (Tr st.σ μ) μ s.heap v y) (h : setA q x y k st = .ok fl stF) :
    fl = .next ∧ wpAny (model c.prog c.w) c.A (setAttr u name v) (fun _ s' => ∃ μ', Inv c stF μ' s'.heap ∧ Stp c st.σ μ s.heap stF.σ μ' s'.heap ∧ Same s s') (fun _ _ => False) s := by
  cases x <;> try (cases h; done)
  rename_i C m
  have h : (if q = some (C : Int) then (match st.σ[m]? with | some (.attrs xs) => (match setAt xs k y with | some ys => if ys.length ≤ attrNames.length then .ok .next ⟨st.ρ, st.σ.set m (.attrs ys)⟩ else .stuck | none => .stuck) | _ => .stuck) else .stuck : R Fl) = .ok fl stF := h
  split at h
  case isFalse => cases h
  rename_i hC
  cases hn : st.σ[m]? with
  | none => rw [hn] at h; cases h
  | some o =>
    rw [hn] at h
    cases o <;> try (cases h; done)
    rename_i xs
    dsimp only at h
    cases hs : setAt xs k y with
    | none => rw [hs] at h; cases h
    | some ys =>
      rw [hs] at h
      dsimp only at h
      split at h
      case isFalse => cases h
      rename_i hz
      cases h
      refine ⟨rfl, ?_⟩
      obtain ⟨x, dx, vs, rfl, hx, hd, hne, hI, hl, r⟩ := inst_at I rx hn
      obtain ⟨N, mN, X, _, h2, h3⟩ := cls_at I (hq C hC)
      obtain ⟨nm, qq, bs, sn, sub, col, dd, k0, k1, k2, k3, k5, hCo⟩ := X.obj
      have hxC : x ≠ C := by
        rintro rfl
        have := Option.some.inj (hx.symm.trans hCo)
        exact absurd (congrArg Obj.cls this) (by simp [excClassObj])
      have hkl : k ≤ vs.length ∧ ys = (if k < vs.length then xs.set k y else xs ++ [y]) := by
        have e := r.length
        unfold setAt at hs
        rw [← e] at hs
        split at hs
        · rename_i h1; cases hs; exact ⟨Nat.le_of_lt h1, by rw [if_pos h1]⟩
        · rename_i h1
          split at hs
          · rename_i h4; cases hs; exact ⟨Nat.le_of_eq h4, by rw [if_neg h1]⟩
          · cases hs
      obtain ⟨hp, gg, d, t, os⟩ := s
      refine wpAny_with_size (store_attr (ns := attrNames) PySem.F.store_object hCo X.ns h2 (h3 _ (List.mem_of_getElem? hk)) (attr_obj (List.mem_of_getElem? hk)) hxC hI (fun h' tk' I' hkp hsame hsz => ?_) (fun y hy => ?_) (by decide))
      · obtain ⟨o₁, e₁, c₁, dt₁, sl₁, dk₁⟩ := hsame _ hx
        have eo : o₁ = { cls := .ref C, dict := some dx, data := .plain } := by
          obtain ⟨a1, a2, a3, a4⟩ := o₁
          have b2 := dk₁ dx rfl
          dsimp only at c₁ dt₁ sl₁ b2
          subst c₁ dt₁ sl₁ b2; rfl
        subst eo
        obtain ⟨o', e', _, _, hd'⟩ := I'
        obtain rfl := Option.some.inj (e₁.symm.trans e')
        rcases hd' with ⟨hn0, _⟩ | ⟨d', hd', _, es', hns'⟩
        · cases hn0
        obtain rfl : dx = d' := by cases hd'; rfl
        obtain ⟨es, ep, ho', f1, f2, f3, f4⟩ := hns'
        have hup : UpdAt dx hp h' := ⟨hsz, fun b o hb e => by
          by_cases hbx : b = x
          · subst hbx
            obtain rfl := Option.some.inj (hx.symm.trans e)
            exact e₁
          · exact hkp b o hbx (fun o₀ d₀ h₀ hd₀ => by obtain rfl := Option.some.inj (hx.symm.trans h₀); cases hd₀; exact hb) e⟩
        have tE : Tr (st.σ.set m (.attrs xs)) μ = Tr st.σ μ := funext fun b => propext (Tr_set hn rfl rfl)
        have S : Stp c st.σ μ hp (st.σ.set m (.attrs xs)) μ h' :=
          ⟨hsz, fun b ob q _ hT => hup.2 b ob (fun (k : b = dx) => hT (k ▸ ⟨m, _, hn, rfl, hd⟩)) q, fun _ _ q => q, fun b q => .inl (by rwa [tE] at q), fun _ q => .inl q, pv_set hn (by simp), fun k b ob e1 e2 e3 => hup.2 b ob (fun x => by
            have : m = k := (List.getElem?_inj (List.getElem?_eq_some_iff.mp hd).1 I.nd).mp (hd.trans (x ▸ e2.symm))
            subst this; rw [hn] at e1; cases e1) e3⟩
        have r1 := r.step (st' := ⟨st.ρ, st.σ.set m (.attrs xs)⟩) I S
        have r2 := ry.step (st' := ⟨st.ρ, st.σ.set m (.attrs xs)⟩) I S
        dsimp only at r1 r2
        rw [tE] at r1 r2
        have r3 : RepVs (Tr st.σ μ) μ h' (if k < vs.length then vs.set k v else vs ++ [v]) ys := by
          rw [hkl.2]
          split
          · exact RepVs.set r2 k r1
          · exact r1.append (.cons r2 .nil)
        have hN : ObNs es' (fun y => (attrNames.zip (if k < vs.length then vs.set k v else vs ++ [v])).lookup y) := ⟨es, ep, f1, f2, f3, fun z => (f4 z).trans (zip_set attr_nd hk hkl.1 z)⟩
        obtain ⟨I₂, S₂⟩ := I.upd hn hd rfl rfl hup (.live ho' (.attrs hN (by rw [r3.length]; exact hz)) r3) (by simp)
        exact ⟨μ, I₂, S₂, ⟨rfl, rfl, rfl⟩⟩
      · cases hl' : (attrNames.zip vs).lookup y with
        | none => exact absurd hl' hy
        | some v' => exact (List.of_mem_zip (mem_of_lookup hl')).1
theorem snd_asgA {a e : Ex} {k : Nat} (hF : FnOk n prog w base mg F) (ha : EOk n mg mb prog w base F a) (he : EOk n mg mb prog w base F e) : SOk n mg mb prog w base F K (.asgA a k e) := by
  intro g py c st μ s e1 e2 e3 hm hg I
  obtain ⟨ts, v, p, rfl, hk⟩ := onAssign_inv hm
  rcases ts with _ | ⟨t, r⟩ <;> try (exact absurd hm Bool.false_ne_true)
  cases r <;> try (exact absurd hm Bool.false_ne_true)
  obtain ⟨o, nm, q, rfl, _⟩ := onAttr_inv (py := t) hk
  rw [m_asgA, Bool.and_eq_true, Bool.and_eq_true, Bool.and_eq_true, decide_eq_true_eq] at hm
  obtain ⟨⟨⟨h1, h2⟩, h3⟩, h4⟩ := hm
  rw [qvS_asgA]
  cases hR : (evE F e st).bind fun v st => (evE F a st).bind fun x st => setA (clsF F) x v k st with
  | stuck => trivial
  | exc _ _ => trivial
  | ok fl stF =>
    obtain ⟨v', st₁, hE, hR⟩ := R.bind_inv hR
    obtain ⟨x, st₂, hA, hR⟩ := R.bind_inv hR
    have b1 := he _ _ c st μ s e1 e2 e3 h3 hg I
    rw [hE] at b1
    refine plainObj_wpAny_Assign_Attribute (wpAny_mono b1 (fun u s₁ ⟨μ₁, rv, I₁, S₁, Q₁⟩ => ?_) fun _ _ e => e) (swaps_no (by simpa using h4))
    have b2 := ha _ _ c st₁ μ₁ s₁ e1 e2 e3 h2 hg I₁
    rw [hA] at b2
    refine wpAny_mono b2 (fun ov s₂ ⟨μ₂, rx, I₂, S₂, Q₂⟩ => ?_) fun _ _ e => e
    obtain ⟨rfl, hw⟩ := sim_setattr I₂ (fun C hC => e3 ▸ hF.cls C hC) h1 rx (RepV.step I₁ S₂ rv) hR
    exact wpAny_mono hw (fun _ s₃ ⟨μ₃, I₃, S₃, Q₃⟩ => ⟨μ₃, trivial, I₃, (S₁.trans S₂).trans S₃, (Q₁.trans Q₂).trans Q₃⟩) fun _ _ e => e
theorem snd_newI (hF : FnOk n prog w base mg F) : EOk n mg mb prog w base F .newI := by
  intro g py c st μ s e1 e2 e3 hm hg I
  obtain ⟨f', as, ks, pos, rfl, hk⟩ := onCall_inv hm
  obtain ⟨f', p, rfl, _⟩ := onName_inv hk
  cases as <;> try (exact absurd hm Bool.false_ne_true)
  cases ks <;> try (exact absurd hm Bool.false_ne_true)
  rw [m_newI, Bool.and_eq_true, beq_iff_eq] at hm
  obtain ⟨rfl, h1⟩ := hm
  rw [qvE_newI, arm_eval_Call_Name']
  cases hC : F clsName [] st.σ with
  | stuck => trivial
  | exc _ _ => trivial
  | ok r st₂ =>
    obtain ⟨C, k1, ⟨N, mN, X, _⟩, hcall⟩ := hF.new st.σ r st₂ hC
    show Sim c _ ((R.ok () st).bind fun _ _ => R.ok r ⟨st.ρ, st₂.σ⟩) rV st.σ μ s
    refine Sim.bind (rel := fun _ _ _ v (_ : Unit) => v = Value.ref C) (Sim.leaf I (load_global hg I h1 k1 ⟨.refl, .refl, rfl⟩)) fun _ st₀ v μ₀ s₀ he₀ rv I₀ S₀ => ?_
    cases he₀
    cases rv
    refine callWith_cls0 (h₀ := base) X (fun b o q => I₀.base b o (e3 ▸ q)) (wpAny_mono (hcall c μ₀ s₀ e1 e2 e3 hg.a I₀.bare) (fun v s₂ ⟨μ₂, q1, q2, q3, q4⟩ => ?_) fun _ _ e => e)
    obtain ⟨I₂, S₂⟩ := I₀.back q2 q3
    exact ⟨μ₂, q1, I₂, S₂, q4⟩
end
end Mine
namespace Mine
open PySem PySem.Calls PyProof.Rows

/-- one tracked object is taken for another -/
theorem Inv.swap {c : Cx} {st : St} {μ : List Addr} {h : Heap} (I : Inv c st μ h) {n : Nat} {o o' : O} {a : Addr} (e : st.σ[n]? = some o) (ha : μ[n]? = some a) (h1 : o.live = true) (h2 : o'.live = true) (hr : RepO (Tr st.σ μ) μ h a o') :
    Inv c ⟨st.ρ, st.σ.set n o'⟩ μ h := by
  have trE : Tr (st.σ.set n o') μ = Tr st.σ μ := funext fun b => propext (Tr_set e h1 h2)
  refine ⟨fun i x q => ?_, I.slots, fun k ob q => ?_, by simpa using I.len, I.nd, I.lt, I.base, I.baseS, I.baseM, I.sep⟩
  · dsimp only; rw [trE]; exact I.vars i x q
  · dsimp only at q ⊢
    rw [trE]
    have hlt : n < st.σ.length := (List.getElem?_eq_some_iff.mp e).1
    by_cases hk : n = k
    · subst hk
      have : o' = ob := by simpa [hlt] using q
      subst this
      exact ⟨a, ha, hr⟩
    · rw [List.getElem?_set_ne hk] at q
      exact I.objs k ob q
/-- the held dict is let go -/
theorem Stp.letgo {c : Cx} {σ σ' : List O} {μ μ' : List Addr} {h h' : Heap} {m : Nat} {es : List (Int × V)} (hm : σ[m]? = some (.idict es)) (S : Stp c (σ.set m .priv) μ h σ' μ' h') (hm' : σ'[m]? = some .priv) : Stp c σ μ h (σ'.set m (.idict es)) μ' h' := by
  have t1 : Tr (σ.set m .priv) μ = Tr σ μ := funext fun b => propext (Tr_set hm rfl rfl)
  have t2 : Tr (σ'.set m (.idict es)) μ' = Tr σ' μ' := funext fun b => propext (Tr_set hm' rfl rfl)
  have p : ∀ k : Nat, σ[k]? = some O.priv → (σ.set m .priv)[k]? = some O.priv := fun k q => by
    have : m ≠ k := by rintro rfl; rw [hm] at q; cases q
    rw [List.getElem?_set_ne this]; exact q
  refine ⟨S.size, fun b o e h1 h2 => S.keep b o e h1 (by rw [t1]; exact h2), S.pre, fun b q => ?_, S.new, fun k q => ?_, fun k a o e1 e2 e3 => S.pk k a o (p k e1) e2 e3⟩
  · rw [t2] at q; have := S.tr b q; rwa [t1] at this
  · have : m ≠ k := by rintro rfl; rw [hm] at q; cases q
    rw [List.getElem?_set_ne this]; exact S.pv k (p k q)
section
variable {n : Nat} {mg mb : Str → Option Value} {prog : Program} {w : World} {base : Heap} {F : Fn} {K : Nat}
theorem forDR_inv {step : V → St → R Fl} {x : V} {st stF : St} {fl : Fl} (h : forDR step x st = .ok fl stF) : ∃ m es stB, x = .ref m ∧ st.σ[m]? = some (.idict es) ∧ forR step (es.map fun p => .int p.1) ⟨st.ρ, st.σ.set m .priv⟩ = .ok fl stB ∧ stF = ⟨stB.ρ, stB.σ.set m (.idict es)⟩ := by
  cases x <;> try (cases h; done)
  rename_i m
  cases hm : st.σ[m]? with
  | none => simp [forDR, hm] at h
  | some o =>
    cases o <;> try (simp [forDR, hm] at h; done)
    rename_i es
    simp only [forDR, hm] at h
    obtain ⟨fl', stB, h1, h2⟩ := R.bind_inv h
    cases h2
    exact ⟨m, es, stB, rfl, hm, h1, rfl⟩
theorem snd_forD {i : Nat} {e : Ex} {body : Sms} (he : EOk n mg mb prog w base F e) (hb : SsOk n mg mb prog w base F K body) : SOk n mg mb prog w base F K (.forD i e body) := by
  intro g py c st μ s e1 e2 e3 hm hg I
  obtain ⟨tgt, iter, bd, orelse, p, rfl, hk⟩ := onFor_inv hm
  obtain ⟨x, px, rfl, _⟩ := onName_inv hk
  cases orelse <;> try (exact absurd hm Bool.false_ne_true)
  rw [m_forD, Bool.and_eq_true, Bool.and_eq_true] at hm
  obtain ⟨⟨h1, h2⟩, h3⟩ := hm
  rw [qvS_forD]
  have hI := he _ _ c st μ s e1 e2 e3 h2 hg I
  cases hR : (evE F e st).bind fun x st => forDR (fun x st => evSs F K body (setV st i x)) x st with
  | stuck => trivial
  | exc _ _ => trivial
  | ok fl stF =>
    obtain ⟨y, st₁, hE, hR⟩ := R.bind_inv hR
    obtain ⟨m, es, stB, rfl, hσ, hr, rfl⟩ := forDR_inv hR
    rw [hE] at hI
    refine wpAny_For (wpAny_mono hI (fun v s₁ ⟨μ₁, rx, I₁, S₁, Q₁⟩ => ?_) fun _ _ e => e) (mE_notSet h2 _)
    obtain ⟨d, kvs, rfl, hd, lo, hD, hkk, hz, rs⟩ := dict_at hg.ok I₁ rx hσ
    obtain ⟨ep, hat⟩ := hD.dictAt
    have hlen : (es.map fun p => V.int p.1).length = kvs.length := by have := congrArg List.length hkk; simpa using this.symm
    have hdl := hat.lt_size
    have t1 : Tr (st₁.σ.set m .priv) μ₁ = Tr st₁.σ μ₁ := funext fun b => propext (Tr_set hσ rfl rfl)
    have hlt : m < st₁.σ.length := (List.getElem?_eq_some_iff.mp hσ).1
    have hp0 : (st₁.σ.set m .priv)[m]? = some O.priv := by simp [hlt]
    have I₀ : Inv c ⟨st₁.ρ, st₁.σ.set m .priv⟩ μ₁ s₁.heap := I₁.swap hσ hd rfl rfl .priv
    have W : Itr c.prog c.w c.A s₁.heap.objs.size [s₁.heap.objs.size, d] [s₁.heap.objs.size] (es.map fun p => V.int p.1) (st₁.σ.set m .priv) μ₁ s₁.heap (fun i h => h.IsKeyIter s₁.heap.objs.size d i kvs.length ep ∧ h.DictAt (intKind c.prog c.w) d kvs ep) := by
      refine Itr.of_walks (by rw [hlen]; exact Walks.dictKeys hg.hh _ d (Nat.ne_of_lt hdl) kvs ep) (fun i h hst => ?_) (fun b q => by rw [List.mem_singleton.mp q]; exact Nat.le_refl _) (fun b q => ?_) fun j y v σ' μ' h' hx hp K => ?_
      · obtain ⟨⟨o', ho', _, hd'⟩, _⟩ := hst
        exact odd_one ho' hd'
      · rcases List.mem_cons.mp q with rfl | q
        · exact .inl (by simp)
        · rw [List.mem_singleton.mp q]; exact .inr (.inr ⟨m, hp0, hd⟩)
      · obtain ⟨k, x', hkx, hik⟩ := hp
        obtain ⟨t, rfl⟩ := Value.isInt_shape hik
        have : y = .int k := by
          have h1 : (kvs.map (·.1))[j]? = some k := by rw [List.getElem?_map, hkx]; rfl
          rw [hkk, List.getElem?_map] at h1
          obtain ⟨q, hq, rfl⟩ := Option.map_eq_some_iff.mp h1
          rw [List.getElem?_map, hq] at hx
          exact (Option.some.inj hx).symm
        subst this
        exact .int _ _
    refine wpAny_pyIter_dict lo hat ?_
    refine codeAny_mono (sim_forLoop (target := .Name x px) (body := bd) (as := fun y st => .ok () (setV st i y)) (bd := fun st => evSs F K body st) (st₀ := ⟨st₁.ρ, st₁.σ.set m .priv⟩) (s₀ := s₁) (s₁ := { s₁ with heap := s₁.heap.push { cls := .type "dict_keyiterator", data := .fields #[.ref d, .int 0 0, .int kvs.length 0, .int ep 0] } }) W ⟨⟨_, Heap.get?_push_size _ rfl, rfl, rfl⟩, hat.push _⟩
      (fun y v st μ s r I => ?_) (fun st μ s I => hb _ _ c st μ s e1 e2 e3 h3 hg I) I₀ (.push _) ⟨rfl, rfl, rfl⟩ (fl := fl) (stF := stB) hr (fun _ => rfl)) ?_
    · exact Sim.imp (fun Q h => wpAny_assign_Name h) (store_var hg.nm h1 I r)
    · rintro r s' hr'
      cases r with
      | error e => exact hr'.elim
      | ok f =>
        obtain ⟨μ', g1, g2, g3, g4⟩ := hr'
        have hpB := g3.pv m hp0
        have hdB := g3.pre m d hd
        have t2 : Tr (stB.σ.set m (.idict es)) μ' = Tr stB.σ μ' := funext fun b => propext (Tr_set hpB rfl rfl)
        obtain ⟨o, ho, hDo⟩ := Heap.dictOf_iff.mp hD
        have rs' := RepVs.step (st := ⟨st₁.ρ, st₁.σ.set m .priv⟩) (st' := stB) I₀ g3 (by dsimp only; rw [t1]; exact rs)
        have I₂ := g2.swap hpB hdB rfl rfl (o' := .idict es) (.live (g3.pk m d o hp0 hd ho) (.idict (isDict_conv hDo) hz hkk) rs')
        refine ⟨μ', ?_, I₂, S₁.trans (Stp.letgo hσ g3 hpB), Q₁.trans g4⟩
        rcases rFl_of g1 with ⟨rfl, rfl⟩ | ⟨rfl, rfl⟩ | ⟨rfl, rfl⟩ | ⟨w, y, rfl, rfl, rw'⟩
        · exact trivial
        · exact trivial
        · exact trivial
        · show RepV (Tr (stB.σ.set m (.idict es)) μ') μ' _ _ _
          rw [t2]; exact rw'
end
end Mine
namespace Mine
open PySem PySem.Calls PyProof.Rows PySem.W

theorem args_minD (a v : Value) : argsOk "min" ⟨[a], [(Str.ofString "default", v)]⟩ := by unfold argsOk; kernel_rfl
section
variable {prog : Program} {w : World} {A : Around} {E : Value → Shared → Prop} {s : Shared}
theorem call_minD {l : Addr} {vs : Array Value} {Q : Value → Shared → Prop} (hh : A.handled = none) (hl : s.heap.IsList l vs) (hle : vs.size ≤ 1)
    (h : ∀ h' tk, (∀ b o, s.heap.get? b = some o → h'.get? b = some o) → Q ((vs[0]?).getD .none) { s with heap := h', toks := tk }) :
    wpAny (model prog w) A (call (.builtin "min") [.ref l] [(Str.ofString "default", .none)]) Q E s := by
  have hname : (toString "min" ++ toString ".loop" : String) = "min.loop" := by decide
  obtain ⟨ol, hol, _⟩ := id hl
  have hll : l < s.heap.objs.size := Heap.lt_size hol
  refine kmk_tree PySem.F.kind_min PySem.F.plain_min PySem.F.entry_min (args_minD _ _) ?_
  show wpAny _ A.in1 (Builtin.Builtins.bindParams "min" ["key", "default"] 0 ⟨[], [(Str.ofString "default", .none)]⟩ >>= _) _ _ s
  refine wpAny_bind (wpAny_of_eq (show Builtin.Builtins.bindParams "min" ["key", "default"] 0 ⟨[], [(Str.ofString "default", .none)]⟩ = pure [none, some .none] from rfl) ?_)
  refine wpAny_bind (wpAny_pure ?_)
  refine wpAny_bind (wpAny_pyIter_list hl ?_)
  refine wpAny_bind (wpAny_newObj_type ?_)
  rw [hname]
  refine wpAny_pure ⟨plainId_quiet PySem.F.plain_min_loop _, codeAny_builtin PySem.F.entry_min_loop ?_⟩
  rw [Around.under_plainId PySem.F.plain_min_loop _]
  have hne : l ≠ s.heap.objs.size := Nat.ne_of_lt hll
  have W := Walks.list (prog := prog) (w := w) (A := A.in1) hh s.heap.objs.size l hne vs
  generalize hH : (s.heap.push { cls := .type "list_iterator", data := .fields #[.ref l, .int 0 0] }) = H
  have hHs : H.objs.size = s.heap.objs.size + 1 := by rw [← hH, Heap.size_push]
  have st0 : H.IsListIter s.heap.objs.size l 0 ∧ H.IsList l vs := by rw [← hH]; exact ⟨⟨_, Heap.get?_push_size _ rfl, rfl, rfl⟩, hl.push _⟩
  have hk0 : ∀ b o, s.heap.get? b = some o → H.get? b = some o := fun b o e => by rw [← hH]; exact Heap.get?_push_of_some _ e
  have hS : (H.push { cls := .type "list", data := .seq ([] : List Value).toArray }).get? H.objs.size = some { cls := .type "list", data := .seq #[] } := Heap.get?_push_size _ rfl
  have hSf : H.objs.size ∉ [s.heap.objs.size, l] := by
    rw [hHs]; simp only [List.mem_cons, List.not_mem_nil, or_false, not_or]
    exact ⟨Nat.ne_of_gt (Nat.lt_succ_self _), Nat.ne_of_gt (Nat.lt_succ_of_lt hll)⟩
  have hSw : H.objs.size ∉ [s.heap.objs.size] := fun q => hSf (List.mem_cons_of_mem _ (by simp at q; rw [hHs] at q; omega))
  have st1 : (H.push { cls := .type "list", data := .seq ([] : List Value).toArray }).IsListIter s.heap.objs.size l 0 ∧ (H.push { cls := .type "list", data := .seq ([] : List Value).toArray }).IsList l vs :=
    W.frame _ _ _ st0 fun b _ o e => Heap.get?_push_of_some _ e
  show wpAny _ A.in1 (seqItems? (.ref H.objs.size) >>= _) _ _ _
  refine wpAny_bind (wpAny_seqItems hS rfl ?_)
  show wpAny _ A.in1 (tryCatch (pyNext (.ref s.heap.objs.size)) _ >>= _) _ _ _
  have keep : ∀ (h' : Heap) {b : Addr} {o : Obj}, (∀ b o, b ∉ [s.heap.objs.size] → b ≠ H.objs.size → (H.push { cls := .type "list", data := .seq ([] : List Value).toArray }).get? b = some o → h'.get? b = some o) → s.heap.get? b = some o → h'.get? b = some o := fun h' b o hk e => by
    have hlt := Heap.lt_size e
    exact hk b o (fun q => by rw [List.mem_singleton.mp q] at hlt; exact Nat.lt_irrefl _ hlt) (by rw [hHs]; exact Nat.ne_of_lt (Nat.lt_succ_of_lt hlt)) (Heap.get?_push_of_some _ (hk0 b o e))
  by_cases hz : vs.size = 0
  · refine wpAny_bind (wpAny_tryCatch (W.done _ _ _ (by rw [hz]; exact st1) fun h' tk hk => ?_))
    have e0 : vs[0]? = none := by simp [hz]
    rw [e0] at h
    refine wpAny_bind (wpAny_rule ?_)
    exact wpAny_pure (h h' tk fun b o e => keep h' (fun b o h1 _ e => hk b o h1 e) e)
  · have h1 : vs.size = 1 := by omega
    refine wpAny_bind (wpAny_tryCatch (W.item 0 _ _ _ (by omega) st1 fun v h' tk hP hst' hk => ?_))
    have hS' := hk _ _ hSw hS
    show wpAny _ A.in1 (updateSeq H.objs.size (fun _ => #[v, v]) >>= _) _ _ _
    refine wpAny_bind (wpAny_updateSeq hS' rfl ?_)
    rw [hname]
    refine wpAny_pure ⟨plainId_quiet PySem.F.plain_min_loop _, codeAny_builtin PySem.F.entry_min_loop ?_⟩
    rw [Around.under_plainId PySem.F.plain_min_loop _]
    have hS2 := Heap.get?_update_self (Obj.mapSeq fun _ => #[v, v]) hS' rfl
    show wpAny _ A.in1 (seqItems? (.ref H.objs.size) >>= _) _ _ _
    refine wpAny_bind (wpAny_seqItems hS2 rfl ?_)
    show wpAny _ A.in1 (tryCatch (pyNext (.ref s.heap.objs.size)) _ >>= _) _ _ _
    have st2 := W.frame _ _ (h'.update H.objs.size (Obj.mapSeq fun _ => #[v, v])) hst' fun b hb o e => (Heap.get?_update_other _ _ (fun x : H.objs.size = b => hSf (by rw [x]; exact hb))).trans e
    refine wpAny_bind (wpAny_tryCatch (W.done _ _ _ (by rw [h1]; exact st2) fun h'' tk' hk' => ?_))
    have hS3 := hk' _ _ hSw hS2
    show wpAny _ A.in1 (updateSeq H.objs.size (fun _ => #[]) >>= _) _ _ _
    refine wpAny_bind (wpAny_updateSeq hS3 rfl (wpAny_bind (wpAny_letGo (wpAny_pure ?_))))
    rw [hP] at h
    exact h _ tk' fun b o e => keep _ (fun b o h1 h2 e => (Heap.get?_update_other _ _ (Ne.symm h2)).trans (hk' b o h1 ((Heap.get?_update_other _ _ (Ne.symm h2)).trans (hk b o h1 e)))) e
end
section
variable {n : Nat} {mg mb : Str → Option Value} {prog : Program} {w : World} {base : Heap} {F : Fn} {K : Nat}
theorem minD_inv {x y : V} (h : minDSem x = some y) : (x = .lst [] ∧ y = .none) ∨ ∃ i, x = .lst [.int i] ∧ y = .int i := by
  unfold minDSem at h
  split at h
  · cases h; exact .inl ⟨rfl, rfl⟩
  · cases h; exact .inr ⟨_, rfl, rfl⟩
  · cases h
theorem sim_minD {c : Cx} {st : St} {μ : List Addr} {s : Shared} {u : Value} (hh : c.A.handled = none) (I : Inv c st μ s.heap) {x : V} (rx : RepV (Tr st.σ μ) μ s.heap u x) : Sim c (call (.builtin "min") [u] [(Str.ofString "default", .none)]) (R.lift (minDSem x) st) rV st.σ μ s := by
  cases hm : minDSem x with
  | none => trivial
  | some y =>
    rcases minD_inv hm with ⟨rfl, rfl⟩ | ⟨i, rfl, rfl⟩
    · obtain ⟨a, vs, rfl, hl, hz, r⟩ := rx.lst_inv
      have e := r.length
      rw [Array.length_toList] at e
      have e0 : vs[0]? = none := by simp only [List.length_nil] at e; simp [e]
      exact Sim.leaf I (wpAny_with_size (call_minD hh hl (by simp only [List.length_nil] at e; omega) fun h' tk hk hs => ⟨⟨hs, hk⟩, ⟨rfl, rfl, rfl⟩, by rw [e0]; exact .none⟩))
    · obtain ⟨a, vs, rfl, hl, hz, r⟩ := rx.lst_inv
      have e := r.length
      rw [Array.length_toList] at e
      obtain ⟨v, hv, rv⟩ := r.get (i := 0) (x := .int i) rfl
      obtain ⟨t, rfl⟩ := rv.int_inv
      have e0 : vs[0]? = some (.int i t) := by rw [← Array.getElem?_toList]; exact hv
      exact Sim.leaf I (wpAny_with_size (call_minD hh hl (by simp only [List.length_singleton] at e; omega) fun h' tk hk hs => ⟨⟨hs, hk⟩, ⟨rfl, rfl, rfl⟩, by rw [e0]; exact .int i t⟩))
end
end Mine
namespace Mine
open PySem PySem.Calls PyProof.Rows

theorem sub_str_set : isSubtype (.type "str") (.type "set") = pure false := by rw [isSubtype_type]; kernel_rfl
theorem sub_str_frozenset : isSubtype (.type "str") (.type "frozenset") = pure false := by rw [isSubtype_type]; kernel_rfl
noncomputable def one (c : Nat) : Str := ⟨#[c]⟩
noncomputable def metS (l : List Nat) (k : Str) : Bool := l.any fun c => one c == k
theorem one_inj {a b : Nat} (h : one a = one b) : a = b := by
  have := congrArg (fun x : Str => x.cps.toList) h
  simpa [one] using this
theorem met_mem (l : List Nat) (c : Nat) : metS l (one c) = l.contains c := by
  unfold metS
  rw [Bool.eq_iff_iff, List.any_eq_true, List.contains_iff_mem]
  exact ⟨fun ⟨a, ha, h⟩ => one_inj (beq_iff_eq.mp h) ▸ ha, fun h => ⟨c, h, beq_self_eq_true _⟩⟩
theorem met_snoc (l : List Nat) (c : Nat) (k : Str) : metS (l ++ [c]) k = (metS l k || decide (k = one c)) := by
  unfold metS
  rw [List.any_append]
  congr 1
  rw [List.any_cons, List.any_nil, Bool.or_false, Bool.eq_iff_iff, beq_iff_eq, decide_eq_true_eq]
  exact eq_comm
theorem dups_snoc (l : List Nat) (c : Nat) : (l ++ [c]).eraseDups.length = if metS l (one c) then l.eraseDups.length else l.eraseDups.length + 1 := by
  rw [met_mem, List.eraseDups_append, List.length_append]
  have e : [c].removeAll l = if l.contains c then [] else [c] := by
    show [c].filter (fun a => !(l.elem a)) = _
    rw [List.filter_cons, List.filter_nil, show l.elem c = l.contains c from rfl]
    cases l.contains c <;> rfl
  rw [e]
  split
  · rfl
  · rfl
theorem dups_le : ∀ (n : Nat) (l : List Nat), l.length = n → l.eraseDups.length ≤ n
  | 0, l, h => by rw [List.length_eq_zero_iff.mp h]; exact Nat.le_refl _
  | n + 1, l, h => by
    have hne : l ≠ [] := by rintro rfl; cases h
    have e := List.dropLast_concat_getLast hne
    have ih := dups_le n l.dropLast (by rw [List.length_dropLast, h]; rfl)
    have := dups_snoc l.dropLast (l.getLast hne)
    rw [e] at this
    rw [this]
    split <;> omega
section
variable {prog : Program} {w : World} {A : Around} {R : Result → Shared → Prop}
theorem set_loop {x : Str} {t : Tok} {I S : Addr} (hh : A.handled = none) (hSI : S ≠ I) (hb : x.cps.size + 1 < scanBound) :
    ∀ (k i : Nat) (s : Shared), x.cps.size - i = k → i ≤ x.cps.size → s.heap.IsStrIter I "str_ascii_iterator" x t i → s.heap.SetOf (strKind prog w) S (metS (x.cps.toList.take i)) (x.cps.toList.take i).eraseDups.length →
      (∀ h' tk, (∀ b o, b ≠ I → b ≠ S → s.heap.get? b = some o → h'.get? b = some o) → h'.SetOf (strKind prog w) S (metS x.cps.toList) x.cps.toList.eraseDups.length → R (.ok (.ret .none)) { s with heap := h', toks := tk }) →
      codeAny (model prog w) A (.builtin "set.update.loop" ⟨[.ref S, .ref I], []⟩) R s := by
  have W := Walks.strAscii (prog := prog) (w := w) (A := A.in1) hh I x t
  have hset : ∀ {h h' : Heap} {S' : Str → Bool} {n : Nat}, (∀ b o, b ≠ I → h.get? b = some o → h'.get? b = some o) → h.SetOf (strKind prog w) S S' n → h'.SetOf (strKind prog w) S S' n := fun hk hS =>
    let ⟨o, es, ep, tb, ho, rest⟩ := hS
    ⟨o, es, ep, tb, hk S o hSI ho, rest⟩
  intro k
  induction k with
  | zero =>
    intro i s hk hi hst hS hR
    have hin : i = x.cps.size := by omega
    subst hin
    refine codeAny_builtin PyProof.Rows.F.entry_set_update_loop ?_
    rw [Around.under_plainId PyProof.Rows.F.plain_set_update_loop _]
    show wpAny _ A.in1 (pyNext (.ref I) >>= _) _ _ s
    refine wpAny_bind (W.done s _ _ hst fun h' tk hk' => ?_)
    have hk2 : ∀ b o, b ≠ I → s.heap.get? b = some o → h'.get? b = some o := fun b o hb e => hk' b o (fun q => hb (List.mem_singleton.mp q)) e
    have hS' := hset hk2 hS
    rw [List.take_of_length_le (by simp)] at hS'
    show wpAny _ A.in1 (ret Value.none) _ _ _
    exact wpAny_pure (hR h' tk (fun b o h1 _ e => hk2 b o h1 e) hS')
  | succ k ih =>
    intro i s hk hi hst hS hR
    have hlt : i < x.cps.size := by omega
    refine codeAny_builtin PyProof.Rows.F.entry_set_update_loop ?_
    rw [Around.under_plainId PyProof.Rows.F.plain_set_update_loop _]
    show wpAny _ A.in1 (pyNext (.ref I) >>= _) _ _ s
    refine wpAny_bind (W.item i s _ _ hlt hst fun v h' tk hP hst' hk' => ?_)
    obtain ⟨c, u, hc, rfl⟩ := hP
    have hk2 : ∀ b o, b ≠ I → s.heap.get? b = some o → h'.get? b = some o := fun b o hb e => hk' b o (fun q => hb (List.mem_singleton.mp q)) e
    have hS' := hset hk2 hS
    have hn : (x.cps.toList.take i).eraseDups.length + 1 < scanBound := by
      have h1 : (x.cps.toList.take i).eraseDups.length ≤ (x.cps.toList.take i).length := dups_le _ _ rfl
      rw [List.length_take] at h1
      omega
    show wpAny _ A.in1 (holding [Value.str (one c) u] (setAdd S (.str (one c) u)) >>= _) _ _ _
    refine wpAny_bind (wpAny_holding ?_)
    unfold setAdd
    refine wpAny_holding ?_
    refine wpAny_bind ((strKind prog w).pyHash (k := one c) (strKind_is _ _ _ _) ?_)
    refine wpAny_setAddHashed_of (knd := strKind prog w) (strKind_is _ _ _ _) rfl hS' hn fun h'' hsb hS2 => ?_
    have ht : x.cps.toList.take (i + 1) = x.cps.toList.take i ++ [c] := by
      rw [List.take_add_one, Array.getElem?_toList, hc]; rfl
    have hSi : h''.SetOf (strKind prog w) S (metS (x.cps.toList.take (i + 1))) (x.cps.toList.take (i + 1)).eraseDups.length :=
      PyProof.Rows.SetOf_congr hS2 (fun k' => by rw [ht, met_snoc]) (by rw [ht, dups_snoc])
    refine wpAny_pure ⟨plainId_quiet PyProof.Rows.F.plain_set_update_loop _, ih (i + 1) _ (by omega) hlt ?_ hSi fun h3 tk3 hk3 hS3 => ?_⟩
    · obtain ⟨o, ho, r⟩ := hst'
      exact ⟨o, (hsb.2 I (Ne.symm hSI)).trans ho, r⟩
    · exact hR h3 tk3 (fun b o h1 h2 e => hk3 b o h1 h2 ((hsb.2 b h2).trans (hk2 b o h1 e))) hS3
end
section
variable {prog : Program} {w : World} {A : Around} {E : Value → Shared → Prop} {s : Shared}
theorem call_set_str {x : Str} {t : Tok} {Q : Value → Shared → Prop} (hh : A.handled = none) (ha : x.cps.all (· < 128) = true) (hb : x.cps.size + 1 < scanBound)
    (h : ∀ (h' : Heap) (tk : Nat), h'.SetOf (strKind prog w) s.heap.objs.size (metS x.cps.toList) x.cps.toList.eraseDups.length → (∀ b o, s.heap.get? b = some o → h'.get? b = some o) → Q (.ref s.heap.objs.size) { s with heap := h', toks := tk }) :
    wpAny (model prog w) A (call (.type "set") [.str x t]) Q E s := by
  obtain ⟨c, tl, hmro⟩ := PySem.F.called_set.mro
  have hmade := PySem.F.called_set.made
  have hsub := PySem.F.called_set.sub
  refine wpAny_call (codeAny_of_tree ?_)
  show wpAny _ _ (callAny (.type "set") _) _ _ _
  refine wpAny_pure ⟨Code.quiet_builtin _ (by decide +kernel), codeAny_builtin PySem.F.entry_type_call ?_⟩
  rw [Around.under_plain (weight_type_call_type "set" [.str x t] []) rfl]
  have h1 := PySem.F.called_set.notType
  have h2 := PySem.F.called_set.canCreate
  have hct := PySem.F.typeCall_set_1 (.str x t)
  repeat (any_goals (first | assumption | wp_step))
  refine codeAny_mono (code_set_new_1 (.str x t) (E := E) (Q₁ := fun obj s₁ => ∃ led : Bool, obj = .ref s.heap.objs.size ∧ s₁ = { s with heap := s.heap.push { cls := .type "set", dict := none, data := .set #[] 0 (.fresh 0 0 led) } }) fun led => ⟨led, rfl, rfl⟩) fun r s₁ hr => ?_
  cases r with
  | error e => exact hr
  | ok fl =>
    cases fl with
    | ret obj =>
      obtain ⟨led, rfl, rfl⟩ := hr
      have hS : (s.heap.push { cls := .type "set", dict := none, data := .set #[] 0 (.fresh 0 0 led) }).get? s.heap.objs.size = some { cls := .type "set", dict := none, data := .set #[] 0 (.fresh 0 0 led) } := Heap.get?_push_size _ rfl
      have hT : Shared.TypeIs { s with heap := s.heap.push { cls := .type "set", dict := none, data := .set #[] 0 (.fresh 0 0 led) } } (.ref s.heap.objs.size) "set" := ⟨_, hS, rfl⟩
      have hli := PySem.F.called_set.init.lookup
      have hbi := PySem.F.called_set.init.bind (.ref s.heap.objs.size)
      repeat (any_goals (first | assumption | wp_step))
      refine codeAny_mono (codeAny_call_builtin (R := wants (fun r s₂ => r = .none ∧ ∃ h' tk, s₂ = { s with heap := h', toks := tk } ∧ h'.SetOf (strKind prog w) s.heap.objs.size (metS x.cps.toList) x.cps.toList.eraseDups.length ∧ (∀ b o, s.heap.get? b = some o → h'.get? b = some o)) E)
        PySem.F.called_set.init.plain PySem.F.entry_set_init (check_set_init_1 hT ?_)) fun r₂ s₂ hr₂ => ?_
      · have hs1 := sub_str_set
        have hs2 := sub_str_frozenset
        have hne : (Value.type "str" == Value.type "dict") = false := by decide
        unfold Builtin.«set.__init__» noKeywords Builtin.Frozenset.updateFrom
        generalize hPI : pyIter = PI
        wp_walk
        subst hPI
        refine wpAny_pyIter_ascii ha ?_
        refine wpAny_bind (wpAny_runValue ?_)
        have hh3 : A.in1.in1.handled = none := by simp [hh]
        refine set_loop (t := t) (S := s.heap.objs.size) (I := (s.heap.push { cls := .type "set", dict := none, data := .set #[] 0 (.fresh 0 0 led) }).objs.size) hh3 (by rw [Heap.size_push]; exact Nat.ne_of_lt (Nat.lt_succ_self _)) hb x.cps.size 0 _ rfl (Nat.zero_le _) ?_ ?_ fun h' tk hk hS' => ?_
        · exact ⟨_, Heap.get?_push_size _ rfl, rfl, rfl⟩
        · exact PyProof.Rows.SetOf_congr ((PyProof.Rows.setObjOf_fresh (knd := strKind prog w) led).setOf (Heap.get?_push_of_some _ hS) (by unfold scanBound; omega)) (fun _ => rfl) rfl
        · show wpAny _ _ _ _ _ _
          refine wpAny_pure ?_
          show wpAny _ _ (ret Value.none) _ _ _
          refine wpAny_pure ⟨rfl, h', tk, rfl, hS', fun b o e => ?_⟩
          have hlt := Heap.lt_size e
          exact hk b o (by rw [Heap.size_push]; exact Nat.ne_of_lt (Nat.lt_succ_of_lt hlt)) (Nat.ne_of_lt hlt) (Heap.get?_push_of_some _ (Heap.get?_push_of_some _ e))
      · cases r₂ with
        | error e => exact hr₂
        | ok fl₂ =>
          cases fl₂ with
          | ret r =>
            obtain ⟨rfl, h', tk, rfl, hS', hk'⟩ := hr₂
            repeat (any_goals (first | assumption | wp_step))
            exact h _ _ hS' hk'
          | _ => exact hr₂.elim
    | _ => exact hr.elim
end
end Mine
namespace Mine
open PySem PySem.Calls PyProof.Rows

/-- a set that nobody else holds: how many it has -/
noncomputable def rSet (_ : St) (_ : List Addr) (h : Heap) (v : Value) (k : Nat) : Prop := ∃ a o es ep t, v = .ref a ∧ h.get? a = some o ∧ o.ExactSet ∧ o.data = .set es ep t ∧ t.fits es.size = true ∧ es.size = k ∧ k < 4096
section
variable {n : Nat} {mg mb : Str → Option Value} {prog : Program} {w : World} {base : Heap} {F : Fn} {K : Nat}
theorem lenSet_inv {x y : V} (h : lenSetSem x = some y) : ∃ l, x = .str l ∧ l.length < 4000 ∧ l.all (· < 128) = true ∧ y = .int l.eraseDups.length := by
  unfold lenSetSem at h
  split at h
  · split at h
    · rename_i hl; cases h; exact ⟨_, rfl, hl.1, hl.2, rfl⟩
    · cases h
  · cases h
theorem snd_lenSet {a : Ex} (ha : EOk n mg mb prog w base F a) : EOk n mg mb prog w base F (.lenSet a) := by
  intro g py c st μ s e1 e2 e3 hm hg I
  obtain ⟨f', as, ks, pos, rfl, hk⟩ := onCall_inv hm
  obtain ⟨f', p, rfl, hk1⟩ := onName_inv hk
  rcases as with _ | ⟨x, _ | ⟨y, r⟩⟩ <;> try (exact absurd hm Bool.false_ne_true)
  cases ks <;> try (exact absurd hm Bool.false_ne_true)
  obtain ⟨f2, as, ks, pos2, rfl, hk2⟩ := onCall_inv (py := x) hk1
  obtain ⟨f2, p2, rfl, _⟩ := onName_inv (py := f2) hk2
  rcases as with _ | ⟨x, _ | ⟨y, r⟩⟩ <;> try (exact absurd hm Bool.false_ne_true)
  cases ks <;> try (exact absurd hm Bool.false_ne_true)
  rw [m_lenSet, Bool.and_eq_true, Bool.and_eq_true, Bool.and_eq_true, Bool.and_eq_true, beq_iff_eq, beq_iff_eq] at hm
  obtain ⟨⟨⟨⟨rfl, h1⟩, rfl⟩, h2⟩, h3⟩ := hm
  rw [qvE_lenSet]
  have e0 : ((evE F a st).bind fun x st => R.lift (lenSetSem x) st) = ((evE F a st).bind fun x st => R.lift ((lenSetSem x).map fun y => match y with | .int i => i.toNat | _ => 0) st).bind fun (k : Nat) st => .ok (.int (k : Int)) st := by
    cases evE F a st with
    | stuck => rfl
    | exc _ _ => rfl
    | ok x st =>
      simp only [R.bind_ok]
      cases hx : lenSetSem x with
      | none => rfl
      | some y =>
        obtain ⟨l, rfl, _, _, rfl⟩ := lenSet_inv hx
        simp
  rw [e0]
  have hns : noStar (.Call (.Name (Str.ofString "set") p2) [x] [] pos2) := fun _ _ => rfl
  refine sim_call1 (fn := "len") (fv := .builtin "len") (rel := rSet) (.inl ⟨_, rfl⟩) boot_len (by decide) hg I h1 hns (fun μ₁ s₁ I₁ => ?_) fun k st₁ u μ₁ s₁ rk I₁ => ?_
  · refine sim_call1 (fn := "set") (fv := .type "set") (.inr ⟨_, rfl⟩) boot_set (by decide) hg I₁ h2 (fun rest env => mE_notStar h3 rest env) (fun μ₁ s₁ I₁ => ha _ _ c st μ₁ s₁ e1 e2 e3 h3 hg I₁) fun x st₁ u μ₁ s₁ rx I₁ => ?_
    cases hx : lenSetSem x with
    | none => trivial
    | some y =>
      obtain ⟨l, rfl, hl, hasc, rfl⟩ := lenSet_inv hx
      obtain ⟨z, t, rfl, rfl, _, _⟩ := rx.str_inv
      have hz : z.cps.size < 4000 := by simpa using hl
      refine Sim.leaf I₁ (wpAny_with_size (call_set_str hg.hh (by rw [Array.all_toList] at hasc; exact hasc) (by unfold scanBound; omega) fun h' tk hS hk hs => ⟨⟨hs, hk⟩, ⟨rfl, rfl, rfl⟩, ?_⟩))
      obtain ⟨o, es, ep, tb, ho, hex, hd, _, _, hb, hf, hn⟩ := hS
      exact ⟨_, o, es, ep, tb, rfl, ho, hex, hd, hf, by simpa using hn, by have := dups_le _ z.cps.toList rfl; simp at this ⊢; omega⟩
  · obtain ⟨b, o, es, ep, t, rfl, ho, hex, hd, hf, hn, hb⟩ := rk
    subst hn
    exact leaf_int I₁ fun Q hq => call_len_set ho hex hd hf (by omega) (hq _ _)
theorem snd_minD {a : Ex} (ha : EOk n mg mb prog w base F a) : EOk n mg mb prog w base F (.minD a) := by
  intro g py c st μ s e1 e2 e3 hm hg I
  obtain ⟨f', as, ks, pos, rfl, hk⟩ := onCall_inv hm
  obtain ⟨f', p, rfl, hk1⟩ := onName_inv hk
  rcases as with _ | ⟨x, _ | ⟨y, r⟩⟩ <;> try (exact absurd hm Bool.false_ne_true)
  rcases ks with _ | ⟨⟨d, v, kp⟩, r⟩ <;> try (exact absurd hm Bool.false_ne_true)
  cases d <;> cases r <;> try (exact absurd hm Bool.false_ne_true)
  obtain ⟨cc, kk, cp, rfl, _⟩ := onConst_inv (py := v) hk1
  cases cc <;> try (exact absurd hm Bool.false_ne_true)
  rw [m_minD, Bool.and_eq_true, Bool.and_eq_true, Bool.and_eq_true, beq_iff_eq, beq_iff_eq] at hm
  obtain ⟨⟨⟨rfl, h1⟩, rfl⟩, h3⟩ := hm
  rw [qvE_minD, arm_eval_Call_Name']
  have hx : noStar x := fun rest env => mE_notStar h3 rest env
  have e0 : ((evE F a st).bind fun x st => R.lift (minDSem x) st) = (R.ok () st).bind fun _ _ => (evE F a st).bind fun x st => R.lift (minDSem x) st := by rw [R.bind_ok]
  rw [e0]
  refine Sim.bind (rel := fun _ _ _ v (_ : Unit) => v = Value.builtin "min") (Sim.leaf I (load_builtin hg I h1 (by decide) boot_min ⟨.refl, .refl, rfl⟩)) fun _ st₁ v μ₁ s₁ he rv I₁ S₁ => ?_
  cases he
  cases rv
  have hs : Sim c (spliced (backTo pos (starEach [x] c.env))) ((evE F a st).bind fun y st => .ok y st) (fun st μ h vs y => ∃ u, vs = [u] ∧ RepV (Tr st.σ μ) μ h u y) st.σ μ₁ s₁ :=
    spliced_sim hx (ha _ _ c st μ₁ s₁ e1 e2 e3 h3 hg I₁) fun y st₂ u μ₂ s₂ _ ry I₂ S₂ => Sim.leaf I₂ (wpAny_bind (wpAny_items_nil (wpAny_pure ⟨.refl, .refl, u, rfl, ry⟩)))
  have e5 : (evE F a st).bind (fun x st => R.lift (minDSem x) st) = ((evE F a st).bind fun y st => R.ok y st).bind (fun x st => R.lift (minDSem x) st) := by cases evE F a st <;> rfl
  rw [e5]
  have hbt : backTo pos (starEach [x] c.env) = (false, eval x c.env) :: backTo pos (starEach [] c.env) := by rw [hx]; rfl
  refine Sim.via (f := fun vs => call (.builtin "min") vs [(Str.ofString "default", .none)]) (fun Q h => ?_) hs fun y st₂ vs μ₂ s₂ _ hu I₂ S₂ => ?_
  · exact callWith_kw (wpAny_mono h (fun vs s₁ h₁ => kwAll_cons (fun _ _ _ => kwAll_nil h₁)) fun _ _ e => e) hbt (by rw [hbt]; rfl)
  · obtain ⟨u, rfl, ry⟩ := hu
    exact sim_minD hg.hh I₂ ry
theorem snd_min2 {a b : Ex} (ha : EOk n mg mb prog w base F a) (hb : EOk n mg mb prog w base F b) : EOk n mg mb prog w base F (.min2 a b) := by
  intro g py c st μ s e1 e2 e3 hm hg I
  obtain ⟨f', as, ks, pos, rfl, hk⟩ := onCall_inv hm
  obtain ⟨f', p, rfl, _⟩ := onName_inv hk
  rcases as with _ | ⟨x, _ | ⟨y, _ | ⟨z, r⟩⟩⟩ <;> try (exact absurd hm Bool.false_ne_true)
  cases ks <;> try (exact absurd hm Bool.false_ne_true)
  rw [m_min2, Bool.and_eq_true, Bool.and_eq_true, Bool.and_eq_true, beq_iff_eq] at hm
  obtain ⟨⟨⟨rfl, h1⟩, h3⟩, h4⟩ := hm
  rw [qvE_min2, arm_eval_Call_Name']
  have hx' : ∀ z ∈ [x, y], noStar z := fun z hz => by
    rcases List.mem_cons.mp hz with rfl | hz
    · exact fun rest env => mE_notStar h3 rest env
    · rw [List.mem_singleton.mp hz]; exact fun rest env => mE_notStar h4 rest env
  rw [bind_unit (fun st => (evE F a st).bind _)]
  refine Sim.bind (rel := fun _ _ _ v (_ : Unit) => v = Value.builtin "min") (Sim.leaf I (load_builtin hg I h1 (by decide) boot_min ⟨.refl, .refl, rfl⟩)) fun _ st₁ v μ₁ s₁ he rv I₁ S₁ => ?_
  cases he
  cases rv
  have e5 : ((evE F a st).bind fun x st => (evE F b st).bind fun y st => R.lift (onI x y fun a b => some (V.int (if b < a then b else a))) st) = (evEs F (.cons a (.cons b .nil)) st).bind fun xs st => match xs with | [x, y] => R.lift (onI x y fun a b => some (V.int (if b < a then b else a))) st | _ => .stuck := by
    simp only [qvEs_nil, qvEs_cons]
    cases evE F a st with
    | stuck => rfl
    | exc _ _ => rfl
    | ok x st =>
      simp only [R.bind_ok]
      cases evE F b st <;> rfl
  rw [e5]
  refine Sim.via (f := fun vs => call (.builtin "min") vs) (fun Q h => callB (first := []) hx' h) (snd_cons ha (snd_cons hb snd_nil) g [x, y] c st μ₁ s₁ pos e1 e2 e3 (by simp [m_cons, m_nil, h3, h4]) hg I₁) fun xs st₂ vs μ₂ s₂ _ rx I₂ S₂ => ?_
  cases rx with
  | nil => trivial
  | cons r0 rr =>
    cases rr with
    | nil => trivial
    | cons r1 rr =>
      cases rr with
      | cons _ _ => trivial
      | nil =>
        dsimp only
        refine sim_onI0 fun i j ex ey => ?_
        subst ex ey
        obtain ⟨t, rfl⟩ := r0.int_inv
        obtain ⟨t', rfl⟩ := r1.int_inv
        refine Sim.leaf I₂ (wpAny_with_size (min_two_ints hg.hh fun h' tk hk hs => ⟨⟨hs, hk⟩, ⟨rfl, rfl, rfl⟩, ?_⟩))
        show RepV _ _ _ _ (V.int (if j < i then j else i))
        by_cases hij : j < i
        · rw [if_pos hij, if_pos hij]; exact .int _ _
        · rw [if_neg hij, if_neg hij]; exact .int _ _
end
end Mine
namespace Mine
open PySem PySem.Calls PyProof.Rows

section
variable {n : Nat} {mg mb : Str → Option Value} {prog : Program} {w : World} {base : Heap} {F : Fn} {K : Nat}

theorem plain_simple {e : Ex} (h : (match e with | .not .. | .band .. | .bor .. | .ite .. | .cmp .. | .chain .. => false | _ => true) = true) : ∀ g py, mE g e py = true → plainTest py := by
  refine plain_of fun g py hm => ?_
  cases py <;> first | rfl | (cases e <;> first | (exact absurd hm Bool.false_ne_true) | (exact absurd h Bool.false_ne_true)) | (rename_i o _ _; cases o <;> first | rfl | (cases e <;> first | (exact absurd hm Bool.false_ne_true) | (exact absurd h Bool.false_ne_true)))
mutual
theorem allE (hF : FnOk n prog w base mg F) : ∀ e : Ex, IOk n mg mb prog w base F e
  | .none => TOk.plain snd_none (plain_simple rfl)
  | .bool _ => TOk.plain snd_bool (plain_simple rfl)
  | .int _ => TOk.plain snd_int (plain_simple rfl)
  | .str _ => TOk.plain snd_str (plain_simple rfl)
  | .loc _ => TOk.plain snd_loc (plain_simple rfl)
  | .fz _ => TOk.plain snd_fz (plain_simple rfl)
  | .bin _ a b => TOk.plain (snd_bin (allE hF a).1 (allE hF b).1) (plain_simple rfl)
  | .cmp _ a b => snd_cmpT (allE hF a).1 (allE hF b).1
  | .chain a _ b _ c => snd_chain (allE hF a).1 (allE hF b).1 (allE hF c).1
  | .band a b => snd_band (allE hF a) (allE hF b)
  | .bor a b => snd_bor (allE hF a) (allE hF b)
  | .not a => snd_not (allE hF a)
  | .neg _ => TOk.plain snd_neg (plain_simple rfl)
  | .ite c a b => snd_ite (allE hF c) (allE hF a) (allE hF b)
  | .tup es => TOk.plain (snd_tup (allEs hF es).1) (plain_simple rfl)
  | .list es => TOk.plain (snd_list (allEs hF es).1) (plain_simple rfl)
  | .listM es => TOk.plain (snd_listM (allEs hF es).1) (plain_simple rfl)
  | .sub a i => TOk.plain (snd_sub (allE hF a).1 (allE hF i).1) (plain_simple rfl)
  | .slice a lo hi => TOk.plain (snd_slice (allE hF a).1 (allO hF lo) (allO hF hi)) (plain_simple rfl)
  | .isin a _ => TOk.plain (snd_isin (allE hF a).1) (plain_simple rfl)
  | .bi _ a => TOk.plain (snd_bi (allE hF a).1) (plain_simple rfl)
  | .me _ a b => TOk.plain (snd_me (allE hF a).1 (allE hF b).1) (plain_simple rfl)
  | .call _ es => TOk.plain (snd_call hF (allEs hF es).1) (plain_simple rfl)
  | .dictM => TOk.plain snd_dictM (plain_simple rfl)
  | .glob _ _ => TOk.plain snd_glob (plain_simple rfl)
  | .attr a _ => TOk.plain (snd_attr hF (allE hF a).1) (plain_simple rfl)
  | .newI => TOk.plain (snd_newI hF) (plain_simple rfl)
  | .lenSet a => TOk.plain (snd_lenSet (allE hF a).1) (plain_simple rfl)
  | .minD a => TOk.plain (snd_minD (allE hF a).1) (plain_simple rfl)
  | .min2 a b => TOk.plain (snd_min2 (allE hF a).1 (allE hF b).1) (plain_simple rfl)
  | .callB _ es => TOk.plain (snd_callB hF (allEs hF es).1) (plain_simple rfl)
  | .callZ _ es => TOk.plain (snd_callZ hF (allEs hF es).1) (plain_simple rfl)
  | .comp elt _ it ifs => TOk.plain (snd_comp (allE hF elt).1 (allEs hF ifs).2 (allI hF it)) (plain_simple rfl)
theorem allEs (hF : FnOk n prog w base mg F) : ∀ es : Exs, EsOk n mg mb prog w base F es ∧ TsOk n mg mb prog w base F es
  | .nil => ⟨snd_nil, snd_tnil⟩
  | .cons e es => ⟨snd_cons (allE hF e).1 (allEs hF es).1, snd_tcons (allE hF e).2 (allEs hF es).2⟩
theorem allO (hF : FnOk n prog w base mg F) : ∀ o : Exo, OOk n mg mb prog w base F o
  | .none => snd_onone
  | .some e => snd_osome (allE hF e).1
theorem allI (hF : FnOk n prog w base mg F) : ∀ it : It, ItOk n mg mb prog w base F it
  | .val e => it_val (allE hF e).1
  | .range1 a => it_range1 (allE hF a).1
  | .range2 a b => it_range2 (allE hF a).1 (allE hF b).1
  | .enum a => fun g py c st μ s e1 e2 e3 hm => by cases py <;> exact absurd hm Bool.false_ne_true
  | .zip a b => fun g py c st μ s e1 e2 e3 hm => by cases py <;> exact absurd hm Bool.false_ne_true
end
theorem allZ (hF : FnOk n prog w base mg F) (it : It) : ZOk n mg mb prog w base F it := by
  cases it with
  | zip a b => exact sim_zip (allE hF a).1 (allE hF b).1
  | enum a => exact sim_enum (allE hF a).1
  | val e => exact fun g py c st μ s _ _ _ hm => absurd hm Bool.false_ne_true
  | range1 e => exact fun g py c st μ s _ _ _ hm => absurd hm Bool.false_ne_true
  | range2 e f => exact fun g py c st μ s _ _ _ hm => absurd hm Bool.false_ne_true
theorem snd_asg (hF : FnOk n prog w base mg F) {i : Nat} (e : Ex) : SOk n mg mb prog w base F K (.asg i e) := by
  intro g py c st μ s e1 e2 e3 hm hg I
  obtain ⟨ts, v, p, rfl, hk⟩ := onAssign_inv hm
  rcases ts with _ | ⟨t, r⟩ <;> try (exact absurd hm Bool.false_ne_true)
  cases r <;> try (exact absurd hm Bool.false_ne_true)
  obtain ⟨x, q, rfl, _⟩ := onName_inv (py := t) hk
  simp only [m_asg, Bool.and_eq_true, Bool.or_eq_true, Bool.not_eq_true'] at hm
  obtain ⟨⟨h1, h2⟩, h3⟩ := hm
  rcases h3 with h3 | h3
  · exact snd_asg0 (allE hF e).1 g _ _ v p c st μ s e1 e2 e3 h1 h2 (swaps_no h3) hg I
  · obtain ⟨pe, gs, sc, ps, rfl⟩ : ∃ pe gs sc ps, v = .ListComp pe gs sc ps := by cases v <;> first | exact ⟨_, _, _, _, rfl⟩ | (exact absurd h3 Bool.false_ne_true)
    obtain ⟨b, hb⟩ : ∃ b : Bool, swapsWith (.ListComp pe gs sc ps) (some (.Name x q)) p.line c.env = pure b := ⟨_, rfl⟩
    cases b with
    | false => exact snd_asg0 (allE hF e).1 g _ _ _ p c st μ s e1 e2 e3 h1 h2 hb hg I
    | true =>
      cases e <;> first
        | exact absurd h2 Bool.false_ne_true
        | exact snd_asgC (allE hF _).1 (allEs hF _).2 (allI hF _) g _ _ _ p c st μ s e1 e2 e3 h1 h2 hb hg I
mutual
theorem allS (hF : FnOk n prog w base mg F) : ∀ s : Sm, SOk n mg mb prog w base F K s
  | .asg _ e => snd_asg hF e
  | .asgT _ e => snd_asgT (allE hF e).1
  | .expr e => snd_expr (allE hF e).1
  | .ret e => snd_ret (allE hF e).1
  | .ifte c t f => snd_ifte (allE hF c) (allSs hF t) (allSs hF f)
  | .for1 _ it b => snd_for1 (allI hF it) (allSs hF b)
  | .forT _ it d => snd_forT (allZ hF it) (allSs hF d)
  | .while c b => snd_while (allE hF c) (allSs hF b)
  | .brk => snd_brk
  | .asgI a i e => snd_asgI (allE hF a).1 (allE hF i).1 (allE hF e).1
  | .asgA a _ e => snd_asgA hF (allE hF a).1 (allE hF e).1
  | .forD _ e b => snd_forD (allE hF e).1 (allSs hF b)
  | .stk => fun g py c st μ s e1 e2 e3 hm hg I => by rw [qvS_stk]; trivial
theorem allSs (hF : FnOk n prog w base mg F) : ∀ s : Sms, SsOk n mg mb prog w base F K s
  | .nil => snd_snil
  | .cons s ss => snd_scons (allS hF s) (allSs hF ss)
end
end
end Mine
namespace Mine
open PySem PySem.Calls PyProof.Rows
section
variable {prog : Program} {w : World} {A : Around} {E : Value → Shared → Prop} {h : Heap} {g : Array GenState} {d : Drawn} {t : Nat} {os : OsState} {C N fI : Addr} {oI : Obj} {mN : Str → Option Value}
/-- the heap with a new instance -/
noncomputable def newH (h : Heap) (C : Addr) : Heap := (h.push { cls := .type "dict", data := .dict #[] }).push { cls := .ref C, dict := some h.objs.size, data := .plain }
theorem type_call {Q : PySem.Fin → Shared → Prop} (X : ClsAt h C N mN) (hi : mN "__init__" = some (.ref fI)) (hfI : h.get? fI = some oI) (hfc : oI.cls = .type "function")
    (hq : wpAny (model prog w) A (call (.ref fI) [.ref (h.objs.size + 1)]) (fun r s' => r = .none ∧ Q (.done (.ret (.ref (h.objs.size + 1)))) s') E ⟨newH h C, g, d, t, os⟩) :
    wpAny (model prog w) A (Builtin.«type.__call__» ⟨[.ref C], []⟩) Q E ⟨h, g, d, t, os⟩ := by
  obtain ⟨nm, q, bs, sn, sub, col, dd, k0, k1, k2, k3, k5, hC⟩ := X.obj
  have hmro : mroOf (.type "object") = pure [.type "object"] := by kernel_rfl
  have hlk : typeLookup (.type "object") "__init__" = pure (some (.builtin "object.__init__")) := by rw [typeLookup_type, builtinLookup_eq_fast]; kernel_rfl
  have F := PySem.F.objNew
  repeat (first | with_reducible refine wpAny_loadPart_at hC ?_ | with_reducible refine wpAny_madeBy_exc hC ?_ | wp_step)
  refine codeAny_call_builtin_code (Code.quiet_builtin _ F.quiet) (wpAny_check_obj_new F hC ?_)
  refine codeAny_obj_new F hC X.ns hi ?_
  show wpAny _ _ _ _ _ ⟨newH h C, g, d, t, os⟩
  have X₁ : ClsAt (newH h C) C N mN := X.keeps fun b o e => Heap.get?_push_of_some _ (Heap.get?_push_of_some _ e)
  have hC₁ : (newH h C).get? C = _ := Heap.get?_push_of_some _ (Heap.get?_push_of_some _ hC)
  have hfI₁ : (newH h C).get? fI = some oI := Heap.get?_push_of_some _ (Heap.get?_push_of_some _ hfI)
  have hget : (newH h C).get? (h.objs.size + 1) = some { cls := .ref C, dict := some h.objs.size, data := .plain } := by
    have := Heap.get?_push_size (h.push { cls := .type "dict", data := .dict #[] }) (o := { cls := .ref C, dict := some h.objs.size, data := .plain }) rfl
    rwa [Heap.size_push] at this
  have hcC : (Value.ref C :: [Value.type "object"]).contains (.ref C) = true := by simp
  generalize newH h C = H at *
  unfold isInstance
  repeat (first | with_reducible refine wpAny_loadPart_at hget ?_ | (with_reducible refine wpAny_isSubtype_exc hC₁ ?_; rw [hcC]) | wp_step)
  show wpAny _ _ (typeLookup (.ref C) _) _ _ _
  refine wpAny_typeLookup_exc hC₁ X₁.ns hmro hlk ?_
  rw [hi]
  refine wpAny_holding (wpAny_bind ?_)
  unfold bindSpecial
  refine wpAny_bind (wpAny_typeOf (T := "function") ⟨_, hfI₁, hfc⟩ ?_)
  rw [if_pos (by decide)]
  refine wpAny_pure (wpAny_bind (wpAny_mono hq (fun r s' hr => ?_) fun _ _ x => x))
  obtain ⟨rfl, hQ⟩ := hr
  wp_walk
  exact hQ
theorem call_new {Q : Value → Shared → Prop} (X : ClsAt h C N mN) (hi : mN "__init__" = some (.ref fI)) (hfI : h.get? fI = some oI) (hfc : oI.cls = .type "function")
    (hq : wpAny (model prog w) (A.under (.builtin "type.__call__" ⟨[.ref C], []⟩)) (call (.ref fI) [.ref (h.objs.size + 1)]) (fun r s' => r = .none ∧ Q (.ref (h.objs.size + 1)) s') E ⟨newH h C, g, d, t, os⟩) :
    wpAny (model prog w) A (call (.ref C) []) Q E ⟨h, g, d, t, os⟩ := by
  obtain ⟨nm, q, bs, sn, sub, col, dd, k0, k1, k2, k3, k5, hC⟩ := X.obj
  have f1 := tc_lookup
  have f2 := tc_bind (.ref C)
  have hT : (⟨h, g, d, t, os⟩ : Shared).TypeIs (.ref C) "type" := ⟨_, hC, rfl⟩
  refine wpAny_call (codeAny_of_tree ?_)
  show wpAny _ _ (callAny (.ref C) _) _ _ _
  repeat (any_goals (first | assumption | with_reducible refine wpAny_loadPart_at hC ?_ | wp_step))
  refine ⟨rfl, ?_⟩
  exact codeAny_call_builtin_at (Code.quiet_builtin _ (by decide +kernel)) entry_typeCall (wpAny_check_type_call_sub hC (type_call X hi hfI hfc hq))
end
end Mine
namespace Mine
open PySem PySem.Calls PyProof.Rows

structure Wd (prog : Program) (w : World) (base : Heap) (mg mb : Str → Option Value) : Prop where
  gd : Gd base mg mb
  seer : base.NoSeer
  nolimit : base.NoLimit
  tree : prog.given.tree = none

/-! positional arguments -/
theorem lookup_zip {y : Str} {v : Value} : ∀ {ns : List Str} {vs : List Value}, ns.Nodup → (y, v) ∈ ns.zip vs → (ns.zip vs).lookup y = some v
  | [], _, _, h => by simp at h
  | _ :: _, [], _, h => by simp at h
  | n :: ns, u :: vs, hn, h => by
    rw [List.zip_cons_cons] at h ⊢
    rw [List.nodup_cons] at hn
    rw [List.lookup_cons]
    rcases List.mem_cons.mp h with h | h
    · cases h; simp
    · have hy : y ≠ n := fun e => hn.1 (e ▸ (List.of_mem_zip h).1)
      have hb : (y == n) = false := by simp [hy]
      simp only [hb]
      exact lookup_zip hn.2 h
theorem zip_mem : ∀ {ns : List Str} {vs : List Value}, vs.length = ns.length → ∀ y ∈ ns, ∃ v, (y, v) ∈ ns.zip vs
  | [], _, _, y, h => by simp at h
  | n :: ns, [], e, y, h => by simp at e
  | n :: ns, u :: vs, e, y, h => by
    rcases List.mem_cons.mp h with rfl | h
    · exact ⟨u, by simp⟩
    · obtain ⟨v, hv⟩ := zip_mem (by simpa using e) y h
      exact ⟨v, by rw [List.zip_cons_cons]; exact List.mem_cons_of_mem _ hv⟩
theorem filterMap_zip {l : List (Str × Value)} : ∀ {ns : List Str} {vs : List Value}, vs.length = ns.length → (∀ p ∈ ns.zip vs, l.lookup p.1 = some p.2) → (ns.filterMap fun n => (l.lookup n).map (n, ·)) = ns.zip vs
  | [], _, _, _ => by simp
  | n :: ns, [], e, _ => by simp at e
  | n :: ns, u :: vs, e, h => by
    have h0 := h (n, u) (by simp)
    dsimp only at h0
    rw [List.filterMap_cons, h0, List.zip_cons_cons]
    dsimp only [Option.map_some]
    rw [filterMap_zip (by simpa using e) fun p hp => h p (by rw [List.zip_cons_cons]; exact List.mem_cons_of_mem _ hp)]
theorem bind_plain {fd : FuncData} {vals : List Value} {names : List Str} (h1 : fd.params.posonlyargs = []) (h2 : fd.params.kwonlyargs = []) (h3 : fd.params.vararg = none) (h4 : fd.params.kwarg = none) (h5 : fd.params.args.map (·.arg) = names)
    (h6 : fd.defaults = .none) (nd : names.Nodup) (hl : vals.length = names.length) : bindArgs fd ⟨vals, []⟩ = pure (names.zip vals) := by
  have hz : ∀ p ∈ names.zip vals, (names.zip vals).lookup p.1 = some p.2 := fun p hp => lookup_zip nd hp
  have hmiss : (names.filter fun n => ((names.zip vals).lookup n).isNone) = [] := by
    rw [List.filter_eq_nil_iff]
    intro n hn
    obtain ⟨v, hv⟩ := zip_mem hl n hn
    rw [lookup_zip nd hv]; simp
  have hf := filterMap_zip hl hz
  have hs : seqItems? Value.none = pure none := rfl
  unfold bindArgs
  simp only [h1, h2, h3, h4, h5, h6, hs, List.map_nil, List.nil_append, List.forIn_nil, List.append_nil]
  have hgt : ¬ (vals.length > names.length) := by omega
  simp only [pure_bind, Option.getD_none, List.drop_nil, List.length_nil, Nat.sub_zero, List.zip_nil_right, List.forIn_nil, List.take_length, hmiss, hf, List.isEmpty_nil, Bool.not_true, decide_eq_false hgt, Bool.false_and]
  rfl
end Mine
namespace Mine
open PySem PySem.Calls PyProof.Rows

noncomputable def Def.gm (d : Def) (sc : Scope) : Gm := ⟨sc, d.locals.zipIdx, List.range d.locals.length, d.globs⟩
noncomputable def mDef (d : Def) (r : DefRec) : Bool :=
  (d.name == r.name) && r.params.posonlyargs.isEmpty && r.params.kwonlyargs.isEmpty && r.params.vararg.isNone && r.params.kwarg.isNone && (r.params.args.map (·.arg) == d.params) &&
  (r.scope.kind == .function) && !r.scope.isCoroutine && !r.scope.isGenerator && (d.locals.take d.params.length == d.params) && decide d.locals.Nodup &&
  (d.locals.all fun x => r.scope.names.lookup x == some .local || r.scope.names.lookup x == some .cell) && mSs (d.gm r.scope) d.body r.body

structure MDef (d : Def) (r : DefRec) : Prop where
  name : d.name = r.name
  p1 : r.params.posonlyargs = []
  p2 : r.params.kwonlyargs = []
  p3 : r.params.vararg = none
  p4 : r.params.kwarg = none
  args : r.params.args.map (·.arg) = d.params
  kind : r.scope.kind = .function
  co : r.scope.isCoroutine = false
  gen : r.scope.isGenerator = false
  pre : d.locals.take d.params.length = d.params
  nd : d.locals.Nodup
  kinds : ∀ x ∈ d.locals, r.scope.names.lookup x = some .local ∨ r.scope.names.lookup x = some .cell
  body : mSs (d.gm r.scope) d.body r.body = true
theorem mDef_spec {d : Def} {r : DefRec} (h : mDef d r = true) : MDef d r := by
  unfold mDef at h
  simp only [Bool.and_eq_true] at h
  obtain ⟨⟨⟨⟨⟨⟨⟨⟨⟨⟨⟨⟨a1, a2⟩, a3⟩, a4⟩, a5⟩, a6⟩, a7⟩, a8⟩, a9⟩, a10⟩, a11⟩, a12⟩, a13⟩ := h
  refine ⟨eq_of_beq a1, List.isEmpty_iff.mp a2, List.isEmpty_iff.mp a3, Option.isNone_iff_eq_none.mp a4, Option.isNone_iff_eq_none.mp a5, eq_of_beq a6, eq_of_beq a7, by simpa using a8, by simpa using a9, eq_of_beq a10, by simpa using a11, fun x hx => ?_, a13⟩
  have := List.all_eq_true.mp a12 x hx
  rcases Bool.or_eq_true_iff.mp this with q | q
  · exact .inl (by simpa using q)
  · exact .inr (by simpa using q)

noncomputable def DefsOk (C : Nat) (defs : List Def) (base : Heap) (mg : Str → Option Value) : Prop :=
  ∀ d ∈ defs, ∃ (r : DefRec) (a : Addr) (o : Obj) (nm qual : Str) (pm code doc : Value), mDef d r = true ∧ (plainF d.name = true → mg d.name = some (.ref a)) ∧ (d.name = initName → o.cls = .type "function" ∧ ∃ N mN, ClsAt base C N mN ∧ mN "__init__" = some (.ref a)) ∧ base.get? a = some o ∧
    o.data = .func (methDef nm qual r.params r.body r.scope pm code doc) ∧ base.CodeRec code qual ∧ ∀ x i, d.globs.lookup x = some i → ∃ t, mg x = some (.int i t)

/-! the bound parameters -/
theorem bindL_skip {kindOf : Str → Option NameKind} {y : Str} : ∀ {b : List (Str × Value)} {m : Str → Option Value}, (∀ p ∈ b, p.1 ≠ y) → bindL kindOf b m y = m y
  | [], _, _ => rfl
  | (n, v) :: r, m, h => by
    unfold bindL
    rw [bindL_skip fun p hp => h p (by simp [hp])]
    split
    · have : y ≠ n := fun e => h (n, v) (by simp) e.symm
      simp [this]
    · rfl
theorem bindL_get {kindOf : Str → Option NameKind} {y : Str} {v : Value} : ∀ {ns : List Str} {vs : List Value} {m : Str → Option Value}, ns.Nodup → (y, v) ∈ ns.zip vs → kindOf y = some .local → bindL kindOf (ns.zip vs) m y = some v
  | [], _, _, _, h, _ => by simp at h
  | _ :: _, [], _, _, h, _ => by simp at h
  | n :: ns, u :: vs, m, hn, h, hk => by
    rw [List.zip_cons_cons] at h ⊢
    rw [List.nodup_cons] at hn
    unfold bindL
    rcases List.mem_cons.mp h with h | h
    · cases h
      rw [bindL_skip fun p hp e => hn.1 (by have q := (List.of_mem_zip (show (p.1, p.2) ∈ ns.zip vs from hp)).1; rw [e] at q; exact q), if_pos hk]
      simp
    · exact bindL_get hn.2 h hk
theorem bindC_skip {kindOf : Str → Option NameKind} {y : Str} : ∀ {b : List (Str × Value)} {m : Str → Option Value}, (∀ p ∈ b, p.1 ≠ y) → bindC kindOf b m y = m y
  | [], _, _ => rfl
  | (n, v) :: r, m, h => by
    unfold bindC
    rw [bindC_skip fun p hp => h p (by simp [hp])]
    split
    · rfl
    · have : y ≠ n := fun e => h (n, v) (by simp) e.symm
      simp [this]
theorem bindC_get {kindOf : Str → Option NameKind} {y : Str} {v : Value} : ∀ {ns : List Str} {vs : List Value} {m : Str → Option Value}, ns.Nodup → (y, v) ∈ ns.zip vs → kindOf y = some .cell → bindC kindOf (ns.zip vs) m y = some v
  | [], _, _, _, h, _ => by simp at h
  | _ :: _, [], _, _, h, _ => by simp at h
  | n :: ns, u :: vs, m, hn, h, hk => by
    rw [List.zip_cons_cons] at h ⊢
    rw [List.nodup_cons] at hn
    unfold bindC
    rcases List.mem_cons.mp h with h | h
    · cases h
      rw [bindC_skip fun p hp e => hn.1 (by have q := (List.of_mem_zip (show (p.1, p.2) ∈ ns.zip vs from hp)).1; rw [e] at q; exact q), if_neg (by rw [hk]; decide)]
      simp
    · exact bindC_get hn.2 h hk
theorem lookup_zipIdx {y : Str} {i : Nat} : ∀ {l : List Str} {k : Nat}, (l.zipIdx k).lookup y = some i → k ≤ i ∧ l[i - k]? = some y
  | [], _, h => by simp at h
  | n :: r, k, h => by
    rw [List.zipIdx_cons, List.lookup_cons] at h
    by_cases hy : y = n
    · subst hy
      simp at h
      subst h
      exact ⟨Nat.le_refl _, by simp⟩
    · have hb : (y == n) = false := by simp [hy]
      simp only [hb] at h
      obtain ⟨h1, h2⟩ := lookup_zipIdx h
      refine ⟨by omega, ?_⟩
      have : i - k = (i - (k + 1)) + 1 := by omega
      rw [this, List.getElem?_cons_succ]
      exact h2

theorem get_take {n k : Nat} {μ : List Addr} {a : Addr} (e : μ[k]? = some a) (h : decide (k < n) = true) : (μ.take n)[k]? = some a := by
  rw [List.getElem?_take, if_pos (of_decide_eq_true h)]; exact e
theorem rep_lo {T T' : Addr → Prop} {μ : List Addr} {n : Nat} {h : Heap} (hT : ∀ b, T' b → T b) {v : Value} {x : V} (r : RepV T μ h v x) : x.lo n = true → RepV T' (μ.take n) h v x :=
  RepV.rec (motive_1 := fun v x _ => x.lo n = true → RepV T' (μ.take n) h v x) (motive_2 := fun vs xs _ => V.los n xs = true → RepVs T' (μ.take n) h vs xs) (fun _ => .none) (fun b _ => .bool b) (fun i t _ => .int i t) (fun x t h1 h2 _ => .str x t h1 h2)
    (fun ho hc hd hz hq _ ih f => .tup ho hc hd hz (fun q => hq (hT _ q)) (ih ((qfree_tup _).symm.trans f))) (fun ho hc hd hz hq _ ih f => .lst ho hc hd hz (fun q => hq (hT _ q)) (ih ((qfree_lst _).symm.trans f)))
    (fun e f => .ref (get_take e ((qfree_ref _).symm.trans f))) (fun ho hq e f => .inst ho (fun q => hq (hT _ q)) (get_take e ((qfree_inst _ _).symm.trans f))) (fun _ => .nil)
    (fun {v vs x xs} _ _ a b f => by
      rw [qfrees_cons, Bool.and_eq_true] at f
      exact .cons (a f.1) (b f.2)) r
theorem reps_lo {T T' : Addr → Prop} {μ : List Addr} {n : Nat} {h : Heap} (hT : ∀ b, T' b → T b) {v : List Value} {x : List V} (f : V.los n x = true) (r : RepVs T μ h v x) : RepVs T' (μ.take n) h v x :=
  RepVs.ind (M := fun vs xs => V.los n xs = true → RepVs T' (μ.take n) h vs xs) (fun _ => .nil) (fun {v vs x xs} a _ b f => by
      rw [qfrees_cons, Bool.and_eq_true] at f
      exact .cons (rep_lo hT a f.1) (b f.2)) r f

noncomputable def flV (f : Flow) : Value := match f with | .ret v => v | _ => .none
theorem rFl_val {st : St} {μ : List Addr} {h : Heap} {f : Flow} {x : Fl} (r : rFl st μ h f x) : RepV (Tr st.σ μ) μ h (flV f) x.val := by
  cases f <;> cases x <;> first | exact .none | exact r | exact r.elim

theorem Inv.trunc {c : Cx} {σ₀ σ : List O} {μ₀ μ : List Addr} {h₀ h : Heap} (I : Inv c.bare ⟨[], σ⟩ μ h) (S : Stp c.bare σ₀ μ₀ h₀ σ μ h) (hl : μ₀.length = σ₀.length) (hf : (σ.take σ₀.length).all (O.lo σ₀.length) = true) {v : Value} {r : V} (hr : r.lo σ₀.length = true) (rv : RepV (Tr σ μ) μ h v r) :
    Inv c.bare ⟨[], σ.take σ₀.length⟩ (μ.take σ₀.length) h ∧ Stp c.bare σ₀ μ₀ h₀ (σ.take σ₀.length) (μ.take σ₀.length) h ∧ RepV (Tr (σ.take σ₀.length) (μ.take σ₀.length)) (μ.take σ₀.length) h v r := by
  have sub : ∀ b, Tr (σ.take σ₀.length) (μ.take σ₀.length) b → Tr σ μ b := by
    rintro b ⟨k, o, e1, e2, e3⟩
    rw [List.getElem?_take] at e1 e3
    split at e1
    · rename_i hk
      rw [if_pos hk] at e3
      exact ⟨k, o, e1, e2, e3⟩
    · cases e1
  refine ⟨⟨fun i x q => by simp at q, fun i s q => (by cases q), fun n o q => ?_, ?_, I.nd.sublist (List.take_sublist _ _), fun a q => I.lt a (List.mem_of_mem_take q), I.base, fun b q => (Own_bare q).elim, fun a q => I.baseM a (List.mem_of_mem_take q), fun b q => (Own_bare q).elim⟩,
    ⟨S.size, S.keep, fun n a e => ?_, fun b q => S.tr b (sub b q), fun a q => S.new a (List.mem_of_mem_take q), fun n e => ?_, S.pk⟩, rep_lo sub rv hr⟩
  · dsimp only at q ⊢
    have hof : o.lo σ₀.length = true := List.all_eq_true.mp hf o (List.mem_of_getElem? q)
    rw [List.getElem?_take] at q
    split at q
    · rename_i hk
      obtain ⟨a, ha, ro⟩ := I.objs n o q
      refine ⟨a, by rw [List.getElem?_take, if_pos hk]; exact ha, ?_⟩
      cases ro with
      | dead => exact .dead
      | priv => exact .priv
      | live ho L r => exact .live ho L (reps_lo sub (by cases L <;> exact hof) r)
    · cases q
  · have := I.len
    simp at this ⊢
    omega
  · have hk : n < σ₀.length := by rw [← hl]; exact (List.getElem?_eq_some_iff.mp e).1
    rw [List.getElem?_take, if_pos hk]
    exact S.pre n a e
  · have hk : n < σ₀.length := (List.getElem?_eq_some_iff.mp e).1
    rw [List.getElem?_take, if_pos hk]
    exact S.pv n e

section
variable {prog : Program} {w : World} {base : Heap} {mg mb : Str → Option Value} {defs : List Def} {K : Nat}

noncomputable def slOf (d : Def) (sc : Scope) (L : Addr) (cells : List (Str × Addr)) (i : Nat) : Option Slot :=
  match d.locals[i]? with
  | some x => if sc.names.lookup x = some .local then some (.d L x) else (cells.lookup x).map Slot.c
  | none => none

variable {C : Nat}
/-- a def does what its run says -/
theorem def_ok (W : Wd prog w base mg mb) {n : Nat} (ih : FnOk n prog w base mg (callN C defs K n)) {d : Def} {rc : DefRec} {a : Addr} {o : Obj} {nm qual : Str} {pm code doc : Value} (hm : mDef d rc = true) (g2 : base.get? a = some o)
    (g3 : o.data = .func (methDef nm qual rc.params rc.body rc.scope pm code doc)) (g4 : base.CodeRec code qual) (g5 : ∀ x i, d.globs.lookup x = some i → ∃ t, mg x = some (.int i t)) {args : List V} {σ : List O} {r : V} {st' : St} (h : runDef (callN C defs K n) K d args σ = .ok r st') :
    ∀ (c : Cx) μ (s : Shared) vs, c.prog = prog → c.w = w → c.base = base → AOk (n + 1) c.A → Inv c.bare ⟨[], σ⟩ μ s.heap → RepVs (Tr σ μ) μ s.heap vs args →
      wpAny (model c.prog c.w) c.A (call (.ref a) vs) (fun v s' => ∃ μ', RepV (Tr st'.σ μ') μ' s'.heap v r ∧ Inv c.bare ⟨[], st'.σ⟩ μ' s'.heap ∧ Stp c.bare σ μ s.heap st'.σ μ' s'.heap ∧ Same s s') (fun _ _ => False) s := by
  have M := mDef_spec hm
  intro c μ s vs e1 e2 e3 hA I rvs
  unfold runDef at h
  split at h
  case isFalse => cases h
  rename_i hlen
  have hvl : vs.length = d.params.length := by rw [rvs.length]; exact hlen
  have hpn : d.params.Nodup := by rw [← M.pre]; exact M.nd.sublist (List.take_sublist _ _)
  cases hB : evSs (callN C defs K n) K d.body ⟨args.map some ++ List.replicate (d.slots - args.length) none, σ⟩ with
  | stuck => rw [hB] at h; cases h
  | exc _ _ => rw [hB] at h; cases h
  | ok fl stF =>
    rw [hB] at h
    simp only [R.bind_ok] at h
    subst e1 e2 e3
    have hbk : ∀ b o, c.base.get? b = some o → s.heap.get? b = some o := I.base
    refine wpAny_call (codeAny_call_cells (fd := methDef nm qual rc.params rc.body rc.scope pm code doc) (body := rc.body) (binds := d.params.zip vs) (by have := hA.depth; omega) (hbk _ _ g2) g3 (W.nolimit.keeps hbk) (g4.keeps hbk) rfl
      (bind_plain M.p1 M.p2 M.p3 M.p4 M.args rfl hpn hvl) rfl (fun x hx => ?_) (fun s₁ X => ?_) M.co M.gen M.kind)
    · have hx' : x.1 ∈ d.locals := by
        have := (List.of_mem_zip (show (x.1, x.2) ∈ _ from hx)).1
        rw [← M.pre] at this
        exact List.mem_of_mem_take this
      rcases M.kinds _ hx' with q | q
      · exact .inl q
      · exact .inr ⟨q, PySem.W.cellsFrom_some _ _ _ (.inl q)⟩
    · generalize henv : callEnvC (methDef nm qual rc.params rc.body rc.scope pm code doc) s.heap.objs.size a = env' at X ⊢
      have hL : env'.locals = s.heap.objs.size := by rw [← henv]; rfl
      have hsc : env'.scope = rc.scope := by rw [← henv]; rfl
      have hcl : env'.cells = cellsFrom (s.heap.objs.size + 1) rc.scope.names [] := by rw [← henv]; rfl
      have hgl : env'.globals = mainGlobals := by rw [← henv]; rfl
      have hbl : env'.builtins = builtinsNs := by rw [← henv]; rfl
      have hko : ∀ x, env'.kindOf x = rc.scope.names.lookup x := fun x => by unfold Env.kindOf; rw [hsc]
      have hns := X.toInCall.ns
      have hLlt : s.heap.objs.size < s₁.heap.objs.size := by obtain ⟨o, _, _, ho, _⟩ := hns; rw [← hL]; exact Heap.lt_size ho
      have XE : Ext s.heap s₁.heap := ⟨Nat.le_of_lt hLlt, X.toInCall.keep⟩
      let c' : Cx := { prog := c.prog, w := c.w, base := c.base, A := c.A.deeper env', env := env', sl := slOf d rc.scope env'.locals env'.cells }
      have slv : ∀ i sl, c'.sl i = some sl → ∃ x, d.locals[i]? = some x ∧ ((rc.scope.names.lookup x = some .local ∧ sl = .d env'.locals x) ∨ (rc.scope.names.lookup x = some .cell ∧ ∃ b, env'.cells.lookup x = some b ∧ sl = .c b)) := by
        intro i sl q
        have q' : slOf d rc.scope env'.locals env'.cells i = some sl := q
        unfold slOf at q'
        split at q'
        · rename_i x hx
          refine ⟨x, hx, ?_⟩
          split at q'
          · rename_i hk; cases q'; exact .inl ⟨hk, rfl⟩
          · rename_i hk
            obtain ⟨b, hb, rfl⟩ := Option.map_eq_some_iff.mp q'
            exact .inr ⟨(M.kinds x (List.mem_of_getElem? hx)).resolve_left hk, b, hb, rfl⟩
        · cases q'
      have ownGe : ∀ b, Own c' b → s.heap.objs.size ≤ b := by
        rintro b ⟨i, sl, q, rfl⟩
        obtain ⟨x, _, ⟨_, rfl⟩ | ⟨_, b, hb, rfl⟩⟩ := slv i sl q
        · exact Nat.le_of_eq hL.symm
        · have := X.above x b (mem_of_lookup hb)
          rw [hL] at this
          exact Nat.le_of_lt this
      have cellOk : ∀ x b, env'.cells.lookup x = some b → s₁.heap.IsCell b (bindC env'.kindOf (d.params.zip vs) (fun _ => none) x) := fun x b hb => X.cell x b hb
      have I₁ : Inv c' ⟨args.map some ++ List.replicate (d.slots - args.length) none, σ⟩ μ s₁.heap := by
        refine ⟨fun i x q => ?_, fun i sl q => ?_, (I.ext XE).objs, I.len, I.nd, (I.ext XE).lt, (I.ext XE).base, fun b q => ?_, I.baseM, fun b q m => ?_⟩
        · dsimp only at q ⊢
          have hi : i < args.length := by
            by_cases hi : i < args.length
            · exact hi
            · rw [List.getElem?_append_right (by simpa using Nat.le_of_not_lt hi)] at q
              rw [List.getElem?_replicate] at q
              split at q <;> simp at q
          rw [List.getElem?_append_left (by simpa using hi)] at q
          have hax : args[i]? = some x := by simpa [hi] using q
          obtain ⟨v, hv, rv⟩ := rvs.get hax
          have hip : i < d.params.length := by rw [← hlen]; exact hi
          obtain ⟨p, hp⟩ : ∃ p, d.params[i]? = some p := ⟨d.params[i], by simp [hip]⟩
          have hlp : d.locals[i]? = some p := by
            have : (d.locals.take d.params.length)[i]? = some p := by rw [M.pre]; exact hp
            rw [List.getElem?_take, if_pos hip] at this
            exact this
          have hz : (p, v) ∈ d.params.zip vs := List.mem_of_getElem? (i := i) (by rw [List.getElem?_zip_eq_some]; exact ⟨hp, hv⟩)
          rcases M.kinds p (List.mem_of_getElem? hlp) with k | k
          · refine ⟨.d env'.locals p, v, ?_, ⟨_, hns, bindL_get hpn hz (by rw [hko]; exact k)⟩, rv.ext XE⟩
            show slOf _ _ _ _ _ = _
            unfold slOf; simp [hlp, k]
          · obtain ⟨b, hb⟩ := Option.isSome_iff_exists.mp (PySem.W.cellsFrom_some (x := p) rc.scope.names (s.heap.objs.size + 1) [] (.inl k))
            rw [← hcl] at hb
            refine ⟨.c b, v, ?_, ?_, rv.ext XE⟩
            · show slOf _ _ _ _ _ = _
              unfold slOf; simp [hlp, k, hb]
            · have := cellOk p b hb
              rw [bindC_get hpn hz (by rw [hko]; exact k)] at this
              exact this
        · obtain ⟨x, _, ⟨_, rfl⟩ | ⟨_, b, hb, rfl⟩⟩ := slv i sl q
          · exact ⟨_, hns⟩
          · exact ⟨_, cellOk x b hb⟩
        · show c.base.get? b = none
          cases hq : c.base.get? b with
          | none => rfl
          | some ob => exact absurd (Nat.lt_of_lt_of_le (Heap.lt_size (hbk b ob hq)) (ownGe b q)) (Nat.lt_irrefl _)
        · exact Nat.lt_irrefl _ (Nat.lt_of_lt_of_le (I.lt b m) (ownGe b q))
      obtain ⟨lf, hlf⟩ := hA.frames
      have hfr : (c.A.deeper env').frames = some (env' :: lf) := Around.frames_deeper hlf
      have hdp : (c.A.deeper env').depth = c.A.depth + 1 := rfl
      have hun : (c.A.deeper env').units = c.A.units + 3 := rfl
      have hA' : AOk n c'.A := ⟨hA.hh, by show c.A.depth + 1 + n + 110 ≤ _; have := hA.depth; omega, by show c.A.units + 3 + 4 * n + 200 ≤ _; have := hA.units; omega, _, hfr⟩
      have hG : Good n mg mb c' (d.gm rc.scope) := by
        refine ⟨⟨fun t ht => ?_, hA.hh, by show c.A.units + 3 + 100 < _; have := hA.units; omega, let ⟨mm, ⟨o, _, _, ho, _⟩, _⟩ := W.seer.mods; ⟨o, ho⟩⟩, W.gd, ⟨hsc, M.kind, hgl, hbl, fun x i hx => ?_, fun i j sl q1 q2 => ?_, fun i sl q => ?_, fun x hx => ?_⟩, hA', g5⟩
        · refine PylongRoom.of (W.nolimit.keeps ht) (by show c.A.depth + 1 + 100 < _; have := hA.depth; omega) (SeerAt.of (W.seer.keeps ht) W.tree hfr ?_ ?_ hbl hgl)
          · rw [hsc]; exact M.gen
          · rw [hsc]; exact M.co
        · obtain ⟨_, hi⟩ := lookup_zipIdx hx
          rw [Nat.sub_zero] at hi
          rcases M.kinds x (List.mem_of_getElem? hi) with k | k
          · refine .inl ⟨k, ?_⟩
            show slOf _ _ _ _ _ = _
            unfold slOf; simp [hi, k]; rfl
          · obtain ⟨b, hb⟩ := Option.isSome_iff_exists.mp (PySem.W.cellsFrom_some (x := x) rc.scope.names (s.heap.objs.size + 1) [] (.inl k))
            rw [← hcl] at hb
            refine .inr ⟨k, b, hb, ?_⟩
            show slOf _ _ _ _ _ = _
            unfold slOf; simp [hi, k, hb]
        · obtain ⟨x, hx, h1⟩ := slv i sl q1
          obtain ⟨y, hy, h2⟩ := slv j sl q2
          have hxy : x = y := by
            rcases h1 with ⟨_, rfl⟩ | ⟨_, b, hb, rfl⟩ <;> rcases h2 with ⟨_, e⟩ | ⟨_, b', hb', e⟩
            · cases e; rfl
            · cases e
            · cases e
            · cases e; exact name_of_addr X.apart (mem_of_lookup hb) (mem_of_lookup hb')
          subst hxy
          exact (List.getElem?_inj (List.getElem?_eq_some_iff.mp hx).1 M.nd).mp (hx.trans hy.symm)
        · obtain ⟨x, hx, _⟩ := slv i sl q
          exact List.mem_range.mpr (List.getElem?_eq_some_iff.mp hx).1
        · obtain ⟨b, hb⟩ := Option.isSome_iff_exists.mp (PySem.W.cellsFrom_some (x := x) rc.scope.names (s.heap.objs.size + 1) [] (.inl hx))
          rw [← hcl] at hb
          exact ⟨b, hb⟩
      have hS := allSs (K := K) ih d.body (d.gm rc.scope) rc.body c' _ μ s₁ rfl rfl rfl M.body hG I₁
      rw [hB] at hS
      refine wpAny_mono hS (fun fw s' ⟨μ', rf, I', S', Q'⟩ => ?_) fun _ _ e => e.elim
      have Ib : Inv c.bare ⟨[], stF.σ⟩ μ' s'.heap := ⟨fun i x q => by simp at q, fun i sl q => (by cases q), I'.objs, I'.len, I'.nd, I'.lt, I'.base, fun b q => (Own_bare q).elim, I'.baseM, fun b q => (Own_bare q).elim⟩
      have Sb : Stp c.bare σ μ s.heap stF.σ μ' s'.heap := Stp.inner (Stp.ext XE) S' fun b q => .inr (ownGe b q)
      obtain ⟨hh₁, tk₁, e₁, _⟩ := X.toInCall.done
      have Qb : Same s s' := Same.trans (s' := s₁) (by rw [e₁]; exact ⟨rfl, rfl, rfl⟩) Q'
      have rv := rFl_val rf
      change ∃ μ', RepV _ _ _ (flV fw) _ ∧ _
      split at h
      · rename_i hfree
        simp only [Bool.and_eq_true] at hfree
        cases h
        obtain ⟨I₂, S₂, r₂⟩ := Ib.trunc Sb I.len hfree.2 hfree.1 rv
        exact ⟨_, r₂, I₂, S₂, Qb⟩
      · cases h
        exact ⟨_, rv, Ib, Sb, Qb⟩
end
end Mine
namespace Mine
open PySem PySem.Calls PyProof.Rows

theorem clsF_at (C : Nat) (defs : List Def) (K n : Nat) : clsF (callN C defs K (n + 1)) = some (C : Int) := by
  unfold clsF
  rw [callN]
  rfl
theorem AOk.make {n : Nat} {A : Around} (h : AOk (n + 1) A) (C : Addr) : AOk n (A.under (.builtin "type.__call__" ⟨[.ref C], []⟩)) := by
  have hu : (Code.builtin "type.__call__" ⟨[.ref C], []⟩).cUnits = 1 := rfl
  obtain ⟨l, hl⟩ := h.frames
  refine ⟨h.hh, ?_, ?_, ⟨l, by unfold Around.under; dsimp only; rw [hl]; rfl⟩⟩
  · show A.depth + 1 + n + 110 ≤ _
    have := h.depth; omega
  · have := h.units
    show A.units + (Code.builtin "type.__call__" ⟨[.ref C], []⟩).cUnits + 4 * n + 200 ≤ _
    rw [hu]; omega
section
variable {prog : Program} {w : World} {base : Heap} {mg mb : Str → Option Value} {defs : List Def} {K : Nat} {C : Nat}
/-- the store with a new instance -/
theorem Inv.make {c : Cx} {σ : List O} {μ : List Addr} {h : Heap} (I : Inv c ⟨[], σ⟩ μ h) : Inv c ⟨[], σ ++ [.attrs []]⟩ (μ ++ [h.objs.size]) (newH h C) ∧ Stp c σ μ h (σ ++ [.attrs []]) (μ ++ [h.objs.size]) (newH h C) ∧
    RepV (Tr (σ ++ [.attrs []]) (μ ++ [h.objs.size])) (μ ++ [h.objs.size]) (newH h C) (.ref (h.objs.size + 1)) (.inst C σ.length) := by
  obtain ⟨I₁, S₁⟩ := I.track (o := { cls := .type "dict", data := .dict #[] }) (ob := .attrs []) rfl rfl fun T hT => .live (Heap.get?_push_size _ rfl) (.attrs (vs := []) ⟨#[], 0, rfl, fun _ he => absurd he (by simp), .nil, fun _ => by rw [List.zip_nil_right]; rfl⟩ (Nat.zero_le _)) .nil
  have X : Ext (h.push { cls := .type "dict", data := .dict #[] }) (newH h C) := .push _
  have hget : (newH h C).get? (h.objs.size + 1) = some { cls := .ref C, dict := some h.objs.size, data := .plain } := by
    have := Heap.get?_push_size (h.push { cls := .type "dict", data := .dict #[] }) (o := { cls := .ref C, dict := some h.objs.size, data := .plain }) rfl
    rwa [Heap.size_push] at this
  refine ⟨I₁.ext X, S₁.trans (.ext X), .inst hget (fun q => ?_) (by rw [← I.len]; simp)⟩
  have := I₁.lt _ q.mem
  rw [Heap.size_push] at this
  exact Nat.lt_irrefl _ this
theorem fn_ok (W : Wd prog w base mg mb) (hD : DefsOk C defs base mg) (hC : mg clsName = some (.ref C) ∧ ClsOk base C) : ∀ n, FnOk n prog w base mg (callN C defs K n) ∧
    (∀ args σ r st', callN C defs K n initName args σ = .ok r st' → ∃ a o, base.get? a = some o ∧ o.cls = .type "function" ∧ (∃ N mN, ClsAt base C N mN ∧ mN "__init__" = some (.ref a)) ∧
      ∀ (c : Cx) μ (s : Shared) vs, c.prog = prog → c.w = w → c.base = base → AOk n c.A → Inv c.bare ⟨[], σ⟩ μ s.heap → RepVs (Tr σ μ) μ s.heap vs args →
      wpAny (model c.prog c.w) c.A (call (.ref a) vs) (fun v s' => ∃ μ', RepV (Tr st'.σ μ') μ' s'.heap v r ∧ Inv c.bare ⟨[], st'.σ⟩ μ' s'.heap ∧ Stp c.bare σ μ s.heap st'.σ μ' s'.heap ∧ Same s s') (fun _ _ => False) s) := by
  intro n
  induction n with
  | zero => exact ⟨⟨fun f args σ r st' h => (by cases h), fun C h => (by cases h), fun σ r st' h => (by cases h)⟩, fun args σ r st' h => (by cases h)⟩
  | succ n ih =>
    refine ⟨⟨fun f args σ r st' h hpl => ?_, fun C' h => ?_, fun σ r st' h => ?_⟩, fun args σ r st' h => ?_⟩
    · have hpl' := hpl
      unfold plainF at hpl'
      rw [Bool.and_eq_true, Bool.not_eq_true', Bool.not_eq_true', beq_eq_false_iff_ne, beq_eq_false_iff_ne] at hpl'
      rw [callN] at h
      simp only [if_neg hpl'.1] at h
      split at h
      case h_2 => cases h
      rename_i d hfd
      have hmem := List.mem_of_find?_eq_some hfd
      have hname : d.name = f := by have := List.find?_some hfd; simpa using this
      obtain ⟨rc, a, o, nm, qual, pm, code, doc, hm, g1, _, g2, g3, g4, g5⟩ := hD d hmem
      exact ⟨a, o, _, by rw [← hname]; exact g1 (by rw [hname]; exact hpl), g2, g3, def_ok W ih.1 hm g2 g3 g4 g5 h⟩
    · rw [clsF_at] at h
      have : C = C' := by have := Option.some.inj h; omega
      exact this ▸ hC.2
    · refine ⟨C, hC.1, hC.2, fun c μ s e1 e2 e3 hA I => ?_⟩
      rw [callN] at h
      simp only [if_true, List.isEmpty_nil] at h
      unfold newR at h
      obtain ⟨r0, st₀, h1, h2⟩ := R.bind_inv h
      cases r0 <;> try (cases h2; done)
      cases h2
      obtain ⟨a, o, k1, k2, ⟨N, mN, X, k3⟩, hcall⟩ := ih.2 _ _ _ _ h1
      subst e1 e2 e3
      obtain ⟨I₁, S₁, r₁⟩ := I.make (C := C)
      have := hcall { c with A := c.A.under (.builtin "type.__call__" ⟨[.ref C], []⟩) } (μ ++ [s.heap.objs.size]) { s with heap := newH s.heap C } [.ref (s.heap.objs.size + 1)] rfl rfl rfl (hA.make C) ⟨I₁.vars, I₁.slots, I₁.objs, I₁.len, I₁.nd, I₁.lt, I₁.base, I₁.baseS, I₁.baseM, I₁.sep⟩ (.cons r₁ .nil)
      obtain ⟨hp, gg, dd, tt, os⟩ := s
      refine call_new (X.keeps I.base) k3 (I.base _ _ k1) k2 (wpAny_mono this (fun v s' ⟨μ', q1, q2, q3, q4⟩ => ?_) fun _ _ e => e.elim)
      obtain rfl := q1.none_inv
      have S₂ : Stp c.bare (σ ++ [.attrs []]) (μ ++ [hp.objs.size]) (newH hp C) st'.σ μ' s'.heap := ⟨q3.size, fun b o e _ h2 => q3.keep b o e Own_bare h2, q3.pre, q3.tr, q3.new, q3.pv, q3.pk⟩
      have I₂ : Inv c.bare ⟨[], st'.σ⟩ μ' s'.heap := ⟨q2.vars, q2.slots, q2.objs, q2.len, q2.nd, q2.lt, q2.base, q2.baseS, q2.baseM, q2.sep⟩
      exact ⟨rfl, μ', RepV.step (st := ⟨[], σ ++ [.attrs []]⟩) (st' := ⟨[], st'.σ⟩) I₁ S₂ r₁, I₂, S₁.trans S₂, q4⟩
    · have hne : initName ≠ clsName := by decide
      rw [callN] at h
      simp only [if_neg hne] at h
      split at h
      case h_2 => cases h
      rename_i d hfd
      have hmem := List.mem_of_find?_eq_some hfd
      have hname : d.name = initName := by have := List.find?_some hfd; simpa using this
      obtain ⟨rc, a, o, nm, qual, pm, code, doc, hm, _, g1, g2, g3, g4, g5⟩ := hD d hmem
      exact ⟨a, o, g2, (g1 hname).1, (g1 hname).2, def_ok W ih.1 hm g2 g3 g4 g5 h⟩
end
end Mine
namespace Mine
open PySem PySem.Calls PyProof.Rows PySem.W

noncomputable def freeOk (q : Program) (loose : List Str) (x : Str) : Bool :=
  !startupNames.contains x && !(looseW q loose).contains x && !((recsOf q).map (·.name)).contains x && !((litsOf q).map (·.1)).contains x && !((clssOf q (looseW q loose)).map (·.name)).contains x
noncomputable def bltNames : List String := ["isinstance", "len", "int", "bool", "list", "tuple", "str", "range", "enumerate", "zip", "set", "sorted", "min"]
noncomputable def globOk (q : Program) (d : Def) : Bool := d.globs.all fun p => match valOf q p.1 with | some (.int j) => decide (j = p.2) | _ => false
noncomputable def initOk (q : Program) (d : Def) : Bool := (plainsOf q (looseW q [])).any fun c => c.name == clsName && (attrNames.all fun y => decide (y ∈ c.quiet)) && c.meths.any fun m => m.name == ("__init__" : Str) && mDef d ⟨initName, m.params, m.body, m.scope, ⟨0, 0, 0, 0⟩⟩
noncomputable def defOk (q : Program) (d : Def) : Bool := (if d.name == initName then initOk q d else (recsOf q).any fun r => mDef d r) && globOk q d
noncomputable def topOk (q : Program) (defs : List Def) : Bool :=
  (defs.all fun d => defOk q d) && (defs.any fun d => d.name == initName) && (bltNames.all fun x => freeOk q [] (Str.ofString x)) && importsNone q

theorem init_of {q : Program} {w : World} {R : WRecords} {XP : (Str → Option Value) → Heap → Prop} {s₀ : Shared} {mg mb : Str → Option Value} {h : Heap} {d : Def} (G : Ground q [] R XP w s₀ mg mb h) (ok : initOk q d = true) :
    ∃ C, mg clsName = some (.ref C) ∧ ClsOk h C ∧ ∃ (r : DefRec) (a : Addr) (o : Obj) (nm qual : Str) (pm code doc : Value), mDef d r = true ∧ (o.cls = .type "function" ∧ ∃ N mN, ClsAt h C N mN ∧ mN "__init__" = some (.ref a)) ∧ h.get? a = some o ∧ o.data = .func (methDef nm qual r.params r.body r.scope pm code doc) ∧ h.CodeRec code qual := by
  unfold initOk at ok
  obtain ⟨c, hc, ok⟩ := List.any_eq_true.mp ok
  rw [Bool.and_eq_true, Bool.and_eq_true, beq_iff_eq] at ok
  obtain ⟨⟨hn, hq⟩, hm⟩ := ok
  obtain ⟨m, hm1, hm2⟩ := List.any_eq_true.mp hm
  rw [Bool.and_eq_true, beq_iff_eq] at hm2
  obtain ⟨C, N, mN, k1, P⟩ := G.TE c hc
  have P := P.ofCmp
  obtain ⟨f, o, pm, cd, doc, g1, g2, g3, g4, g5⟩ := P.meths m hm1
  rw [hn] at k1
  refine ⟨C, k1, ⟨N, mN, P.cls, P.quiet _ ?_, P.quiet _ ?_, fun y hy => P.quiet _ (of_decide_eq_true (List.all_eq_true.mp hq y hy))⟩, ⟨initName, m.params, m.body, m.scope, ⟨0, 0, 0, 0⟩⟩, f, o, _, _, pm, cd, doc, hm2.2, ⟨g3, N, mN, P.cls, by rw [← hm2.1]; exact g1⟩, g2, g4, g5⟩
  · exact List.mem_append_left _ (by simp)
  · exact List.mem_append_left _ (by simp)
theorem wd_of {q prog : Program} {w : World} {R : WRecords} {XP : (Str → Option Value) → Heap → Prop} {s₀ : Shared} {mg mb : Str → Option Value} {h : Heap} {defs : List Def} (G : Ground q [] R XP w s₀ mg mb h) (ok : topOk q defs = true) (ht : prog.given.tree = none) :
    Wd prog w h mg mb ∧ ∃ C, DefsOk C defs h mg ∧ mg clsName = some (.ref C) ∧ ClsOk h C := by
  unfold topOk at ok
  rw [Bool.and_eq_true, Bool.and_eq_true, Bool.and_eq_true] at ok
  obtain ⟨⟨⟨h1, h0⟩, h2⟩, h3⟩ := ok
  have T := G.T
  refine ⟨⟨⟨T.g, T.b, T.builtins, fun x hx => ?_⟩, T.seer h3, T.nolimit, ht⟩, ?_⟩
  · have := List.all_eq_true.mp h2 x hx
    unfold freeOk at this
    simp only [Bool.and_eq_true, Bool.not_eq_true', List.contains_eq_mem, decide_eq_false_iff_not] at this
    obtain ⟨⟨⟨⟨a1, a2⟩, a3⟩, a4⟩, a5⟩ := this
    exact T.free _ a1 a2 a3 a4 a5
  · obtain ⟨d0, hd0, hn0⟩ := List.any_eq_true.mp h0
    have hd0' := List.all_eq_true.mp h1 d0 hd0
    unfold defOk at hd0'
    rw [Bool.and_eq_true, if_pos hn0] at hd0'
    obtain ⟨C, k1, k2, _⟩ := init_of G hd0'.1
    refine ⟨C, fun d hd => ?_, k1, k2⟩
    have hdo := List.all_eq_true.mp h1 d hd
    unfold defOk at hdo
    rw [Bool.and_eq_true] at hdo
    have hglob : ∀ x i, d.globs.lookup x = some i → ∃ t, mg x = some (.int i t) := fun x i hx => by
      have := List.all_eq_true.mp hdo.2 (x, i) (mem_of_lookup hx)
      dsimp only at this
      cases hv : valOf q x with
      | none => rw [hv] at this; cases this
      | some dd =>
        rw [hv] at this
        cases dd <;> try (cases this; done)
        obtain rfl := of_decide_eq_true this
        obtain ⟨v, h1, h2⟩ := T.const x _ hv
        cases h2 h with
        | int i t => exact ⟨t, h1⟩
    by_cases hi : d.name = initName
    · have hi' : (d.name == initName) = true := beq_iff_eq.mpr hi
      rw [if_pos hi'] at hdo
      obtain ⟨C', k1', _, r, a, o, nm, qual, pm, code, doc, hm, g1, g2, g3, g4⟩ := init_of G hdo.1
      obtain rfl : C = C' := by rw [k1] at k1'; cases k1'; rfl
      exact ⟨r, a, o, nm, qual, pm, code, doc, hm, fun hp => by rw [hi] at hp; exact absurd hp (by decide), fun _ => g1, g2, g3, g4, hglob⟩
    · have hi' : ¬ (d.name == initName) = true := fun e => hi (beq_iff_eq.mp e)
      rw [if_neg hi'] at hdo
      obtain ⟨r, hr, hm⟩ := List.any_eq_true.mp hdo.1
      obtain ⟨a, o, pm, code, doc, g1, g2, g3, g4⟩ := T.fn r hr
      exact ⟨r, a, o, r.name, r.name, pm, code, doc, hm, fun _ => by rw [(mDef_spec hm).name]; exact g1, fun e => absurd e hi, g2, g3, g4, hglob⟩

theorem hasItems_int {R : WRecords} : ∀ {xs : List WData}, WShape.hasItems R xs .int = true → ∃ is : List Int, xs = is.map .int
  | [], _ => ⟨[], rfl⟩
  | x :: xs, h => by
    have h : (WShape.has R x .int && WShape.hasItems R xs .int) = true := h
    rw [Bool.and_eq_true] at h
    obtain ⟨is, rfl⟩ := hasItems_int h.2
    have hx := h.1
    cases x <;> try (exact absurd hx Bool.false_ne_true)
    exact ⟨_ :: is, rfl⟩
theorem pre_law {l : OpenLaw} {args : List WData} (hm : l.most = some 63) (h : l.row.toRowW.claim.pre args = true) : ∃ is : List Int, args = [.list (is.map .int)] ∧ is.length ≤ 63 := by
  unfold RowW.claim at h
  simp only [Bool.and_eq_true] at h
  obtain ⟨h1, h2⟩ := h
  have ha : l.row.toRowW.args = [.list .int] := rfl
  rw [ha] at h1
  rcases args with _ | ⟨x, _ | ⟨y, r⟩⟩
  · exact absurd h1 Bool.false_ne_true
  · have h1 : (WShape.has _ x (.list .int) && true) = true := h1
    rw [Bool.and_eq_true] at h1
    have hx := h1.1
    cases x <;> try (exact absurd hx Bool.false_ne_true)
    rename_i xs _
    have hx : (WShape.hasItems _ xs .int || false) = true := hx
    rw [Bool.or_false] at hx
    obtain ⟨is, rfl⟩ := hasItems_int hx
    refine ⟨is, rfl, ?_⟩
    have hp : l.row.toRowW.pre = l.pre := rfl
    rw [hp] at h2
    unfold OpenLaw.pre WTm.holds at h2
    simp only [hm] at h2
    by_cases hle : is.length ≤ 63
    · exact hle
    · exfalso
      have : (63 : Int) < (is.length : Int) := by omega
      simp [WTm.value, less?, Num.less?, this] at h2
  · have h1 : (WShape.has _ x (.list .int) && false) = true := h1
    rw [Bool.and_false] at h1
    exact absurd h1 Bool.false_ne_true

theorem rep_ints {R : WRecords} {cl : Str → Option Addr} {h : Heap} {T : Addr → Prop} {μ : List Addr} : ∀ {vs : List Value} {is : List Int} {as : List Addr}, ReadsAllW R cl h vs (is.map .int) as → RepVs T μ h vs (is.map .int)
  | _, [], _, r => by cases r; exact .nil
  | _, i :: is, _, r => by
    cases r with
    | cons a b =>
      cases a with
      | int _ t => exact .cons (.int i t) (rep_ints b)

/-- the walk out of the pure law -/
theorem law_walk {l : OpenLaw} {q : Program} {XP : (Str → Option Value) → Heap → Prop} {YP : World → Heap → Prop} {d : DefRec} {kwd : List (Str × PySem.Expr)} (defs : List Def) (ok : topOk q defs = true) (hm : l.most = some 63) (ht : l.prog.given.tree = none)
    (hpure : ∀ (C : Nat) (is : List Int), is.length ≤ 63 → ∃ K n st, n ≤ 500 ∧ callN C defs K n d.name [.lst (is.map .int)] [] = .ok (.bool true) st) (hnm : plainF d.name = true) :
    WalkO q [] XP YP l.row.toRowW d kwd (fun f vs => PySem.call f vs) := by
  intro w s₀ s₁ mg mb G Y fa o pm cd doc dV kV ho hd hcd hD hmg hg args vals as hpre hlay hrd hwl hlo
  obtain ⟨is, rfl, hlen⟩ := pre_law hm hpre
  obtain ⟨W, C, D, hC⟩ := wd_of (prog := l.row.toRowW.prog) G ok ht
  obtain ⟨K, n, st, hn, hc⟩ := hpure C is hlen
  obtain ⟨a, o', fd, h1, h2, h3, hw⟩ := (fn_ok (K := K) W D hC n).1.fn _ _ _ _ _ hc hnm
  obtain rfl : fa = a := by
    rw [hmg] at h1
    cases h1; rfl
  let c : Cx := { prog := l.row.toRowW.prog, w := w, base := s₁.heap, A := callerA, env := default, sl := fun _ => none }
  have noT : ∀ b, ¬ Tr [] [] b := fun b ⟨k, o, e, _⟩ => by simp at e
  have I : Inv c.bare ⟨[], []⟩ [] s₁.heap := ⟨fun i x q => by simp at q, fun i s q => (by cases q), fun n o q => by simp at q, rfl, by simp, fun a q => by simp at q, fun b o e => e, fun b q => (Own_bare q).elim, fun a q => by simp at q, fun b q => (Own_bare q).elim⟩
  have rv : RepVs (Tr [] []) [] s₁.heap vals [.lst (is.map .int)] := by
    cases hrd with
    | cons x y =>
      cases y
      cases x with
      | @list a o vs n _ as ho hc hd r =>
        have hz := rep_ints (T := Tr [] []) (μ := []) r
        have hsz : vs.size = is.length := by have := hz.length; simpa using this
        exact .cons (.lst ho hc hd (by rw [hsz]; exact Nat.le_trans hlen (by decide)) (noT _) hz) .nil
  have hA : AOk n callerA := ⟨rfl, by show 1 + 300 + n + 110 ≤ 1000; omega, by show 4 + 4 * n + 200 ≤ 9900; omega, [], rfl⟩
  refine wpAny_mono (hw c [] s₁ vals rfl rfl rfl hA I rv) (fun v s' ⟨μ', r1, I', S', Q'⟩ => ?_) fun _ _ e => e.elim
  obtain rfl := r1.bool_inv
  refine ⟨.inl ⟨.bool true, .bool true, [], rfl, fun _ => rfl, .bool true, ?_, fun _ => ⟨List.nodup_nil, fun a q => by cases q⟩⟩, .of_keep I'.base, Q'.2.2, .of_eq (by rw [Q'.1, hg])⟩
  have hp : l.row.toRowW.post = .eq .res (.lit (.bool true)) := rfl
  have hr : l.row.toRowW.returns = .bool := rfl
  unfold RowW.claim
  dsimp only
  rw [hp, hr, show WShape.has l.row.toRowW.records (.bool true) .bool = true from rfl]
  simp [WTm.holds, WTm.value, same]
end Mine
namespace Mine
open PySem PySem.W PyProof.Rows
/-! the head: the run of the text's top over a tree, with the kit's quick forms of step, denote and stepOk -/
noncomputable def bootTree : List Obj → Nat → BT → BT
  | [], _, t => t
  | o :: r, i, t => bootTree r (i + 1) (t.ins i o)
noncomputable def topRunG (ok : Thread → Bool) (sp : SharedT → Thread → Option (SharedT × Thread)) : Nat → SharedT → Thread → Option SharedT
  | 0, _, _ => none
  | n + 1, s, t => match through t with
    | true => some s
    | false => match ok t with
      | false => none
      | true => match sp s t with
        | some (s', t') => topRunG ok sp n s' t'
        | none => none
theorem topRunG_spec {tb : String → Option Builtin} {p : Program} {w : World} {n₀ : Nat} {ann : Option Value} : ∀ {n : Nat} {s s' : SharedT} {t : Thread}, topRunG (stepOk n₀ ann) (stepT (denote tb) p w) n s t = some s' → topRun tb p w n₀ ann n s.abs t = some s'.abs
  | 0, _, _, _, h => by cases h
  | n + 1, s, s', t, h => by
    unfold topRunG at h
    unfold topRun
    cases ht : through t with
    | true => rw [ht] at h; cases h; rfl
    | false =>
      rw [ht] at h
      cases hk : stepOk n₀ ann t with
      | false => rw [hk] at h; cases h
      | true =>
        rw [hk] at h
        cases hs : stepT (denote tb) p w s t with
        | none => rw [hs] at h; cases h
        | some r => obtain ⟨s₂, t₂⟩ := r; rw [hs] at h; rw [stepT_spec hs]; exact topRunG_spec h
noncomputable def bootS (P : Params) (os : OsState) : SharedT := ⟨bootTree (boot_heap P).objs.toList 0 .nil, (boot_heap P).objs.size, (boot_heap P).life, Array.mk [], boot_drawn, boot_toks, os⟩
theorem bootS_heap (P : Params) : absHeap (bootTree (boot_heap P).objs.toList 0 .nil) (boot_heap P).objs.size (boot_heap P).life = boot_heap P := by kernel_rfl
theorem bootS_ns (P : Params) : (boot_heap P).isNs mainGlobals = true := by kernel_rfl
theorem left_tree {p q : Program} {loose : List Str} {Xt : Shared → Bool} {α : Type} {Yf : Shared → α} {Ya : World → α} {N : Nat} {g0 : Bool} (e : opening p = plainProg p.main.scope.names) (hN : Nat.ble 600 N = true) (f : ∀ s, fenceModules? p s = some s)
    (run : ∀ (w : World) (os : OsState), (topRunG (stepOk (boot_heap w.params).objs.size ((boot_heap w.params).nsMap mainGlobals "__annotations__")) (stepT (denote treeTable) p w) N (bootS w.params os) (topStub p)).map (fun s =>
      (staticsOk (importedModules p.main.body) (boot_heap w.params) s.abs.heap && namesBound p s.abs.heap && gensDone s.abs && laidKept (boot_heap w.params) s.abs.heap, openSeen q loose (importedModules p.main.body) Xt g0 s.abs, Yf s.abs)) = some (true, openGood q loose, Ya w)) : LeftO p q loose Xt Yf Ya N g0 := fun w => by
  obtain ⟨⟨h, gs, d, k, os⟩, e0, e'⟩ := Option.map_eq_some_iff.mp (boot_open e hN f w)
  obtain ⟨rfl, rfl, rfl, rfl⟩ : h = boot_heap w.params ∧ gs = Array.mk [] ∧ d = boot_drawn ∧ k = boot_toks := by simpa using e'
  obtain ⟨s, hs, hv⟩ := Option.map_eq_some_iff.mp (run w os)
  have r := topRunG_spec hs
  have hab : (bootS w.params os).abs = ⟨boot_heap w.params, Array.mk [], boot_drawn, boot_toks, os⟩ := by
    unfold SharedT.abs bootS
    dsimp only
    rw [bootS_heap]
  rw [hab] at r
  obtain ⟨l1, l2⟩ := Prod.mk.inj hv
  obtain ⟨l2, l3⟩ := Prod.mk.inj l2
  have t : topFrom treeTable p w N ⟨boot_heap w.params, Array.mk [], boot_drawn, boot_toks, os⟩ = some s.abs := by
    unfold topFrom
    dsimp only
    rw [bootS_ns, r]
    show (match staticsOk (importedModules p.main.body) (boot_heap w.params) s.abs.heap && namesBound p s.abs.heap && gensDone s.abs && laidKept (boot_heap w.params) s.abs.heap with | true => _ | false => _) = _
    rw [l1]
  unfold openEnds
  rw [e0]
  show (topFrom treeTable p w N _).map _ = _
  rw [t]
  exact congrArg some (Prod.ext l2 l3)
theorem quick_run {n₀ : Nat} {ann : Option Value} {p : Program} {w : World} : topRunG (stepOk n₀ ann) (stepT (denote treeTable) p w) = topRunG (PySem.W.Fast.tw6613529449190102663 n₀ ann) (PySem.W.Fast.tw10156331382660048174 (PySem.W.Fast.tw11892475500146522536 treeTable) p w) := by
  rw [PySem.W.Fast.te6613529449190102663, PySem.W.Fast.te10156331382660048174, PySem.W.Fast.te11892475500146522536]
end Mine
namespace Mine
open PySem
noncomputable def d_initB : Sms := (.cons (.asgA (.loc 0) 0 (.listM .nil))
  (.cons (.asgA (.loc 0) 1 (.listM .nil))
  (.cons (.asgA (.loc 0) 2 (.list .nil))
  (.cons (.asgA (.loc 0) 3 .dictM)
  (.cons (.asgA (.loc 0) 4 .none)
  .nil)))))
noncomputable def d_init : Def := ⟨"Leaves.__init__", ["self"], ["self"], 1, d_initB, []⟩
noncomputable def d_linkL0 : Sms := (.cons (.asgI (.sub (.attr (.loc 0) 1) (.loc 3)) (.loc 4) (.bool true))
  .nil)
noncomputable def d_linkL1 : Sms := (.cons (.for1 4 (.val (.loc 2)) d_linkL0)
  .nil)
noncomputable def d_linkB : Sms := (.cons (.for1 3 (.val (.loc 1)) d_linkL1)
  .nil)
noncomputable def d_link : Def := ⟨"link", ["leaves", "lasts", "firsts"], ["leaves", "lasts", "firsts", "one", "other"], 5, d_linkB, []⟩
noncomputable def d_leaf_ofB : Sms := (.cons (.ifte (.bor (.cmp .eq (.loc 1) (.str "")) (.cmp .lt (.lenSet (.loc 1)) (.bi .len (.loc 1)))) (.cons .stk
  .nil) .nil)
  (.cons (.asg 2 (.bi .len (.attr (.loc 0) 0)))
  (.cons (.ifte (.cmp .eq (.loc 2) (.glob "MOST_LEAVES" 60)) (.cons .stk
  .nil) .nil)
  (.cons (.expr (.me .append (.attr (.loc 0) 0) (.loc 1)))
  (.cons (.expr (.me .append (.attr (.loc 0) 1) .dictM))
  (.cons (.ret (.tup (.cons (.bool false) (.cons (.list (.cons (.loc 2) .nil)) (.cons (.list (.cons (.loc 2) .nil)) .nil)))))
  .nil))))))
noncomputable def d_leaf_of : Def := ⟨"leaf_of", ["leaves", "signs"], ["leaves", "signs", "number"], 3, d_leaf_ofB, [("MOST_LEAVES", 60)]⟩
noncomputable def d_row_ofL0 : Sms := (.cons (.asgT [6, 7, 8] (.call "looked_at" (.cons (.loc 0) (.cons (.loc 5) .nil))))
  (.cons (.expr (.call "link" (.cons (.loc 0) (.cons (.loc 4) (.cons (.loc 7) .nil)))))
  (.cons (.ifte (.loc 2) (.cons (.asg 3 (.bin .add (.loc 3) (.loc 7)))
  .nil) .nil)
  (.cons (.ifte (.loc 6) (.cons (.asg 4 (.bin .add (.loc 4) (.loc 8)))
  .nil) (.cons (.asg 4 (.loc 8))
  .nil))
  (.cons (.asg 2 (.band (.loc 2) (.loc 6)))
  .nil)))))
noncomputable def d_row_ofB : Sms := (.cons (.asg 2 (.bool true))
  (.cons (.asg 3 (.list .nil))
  (.cons (.asg 4 (.list .nil))
  (.cons (.for1 5 (.val (.loc 1)) d_row_ofL0)
  (.cons (.ret (.tup (.cons (.loc 2) (.cons (.loc 3) (.cons (.loc 4) .nil)))))
  .nil)))))
noncomputable def d_row_of : Def := ⟨"row_of", ["leaves", "parts"], ["leaves", "parts", "empty", "firsts", "lasts", "part", "bare", "begins", "closes"], 9, d_row_ofB, []⟩
noncomputable def d_choice_ofL0 : Sms := (.cons (.asgT [6, 7, 8] (.call "looked_at" (.cons (.loc 0) (.cons (.loc 5) .nil))))
  (.cons (.asg 2 (.bor (.loc 2) (.loc 6)))
  (.cons (.asg 3 (.bin .add (.loc 3) (.loc 7)))
  (.cons (.asg 4 (.bin .add (.loc 4) (.loc 8)))
  .nil))))
noncomputable def d_choice_ofB : Sms := (.cons (.ifte (.not (.loc 1)) (.cons .stk
  .nil) .nil)
  (.cons (.asg 2 (.bool false))
  (.cons (.asg 3 (.list .nil))
  (.cons (.asg 4 (.list .nil))
  (.cons (.for1 5 (.val (.loc 1)) d_choice_ofL0)
  (.cons (.ret (.tup (.cons (.loc 2) (.cons (.loc 3) (.cons (.loc 4) .nil)))))
  .nil))))))
noncomputable def d_choice_of : Def := ⟨"choice_of", ["leaves", "parts"], ["leaves", "parts", "empty", "firsts", "lasts", "part", "bare", "begins", "closes"], 9, d_choice_ofB, []⟩
noncomputable def d_looked_atB : Sms := (.cons (.ifte (.cmp .eq (.sub (.loc 1) (.int 0)) (.str "one")) (.cons (.ret (.call "leaf_of" (.cons (.loc 0) (.cons (.sub (.loc 1) (.int 1)) .nil))))
  .nil) .nil)
  (.cons (.ifte (.cmp .eq (.sub (.loc 1) (.int 0)) (.str "row")) (.cons (.ret (.call "row_of" (.cons (.loc 0) (.cons (.sub (.loc 1) (.int 1)) .nil))))
  .nil) .nil)
  (.cons (.ifte (.cmp .eq (.sub (.loc 1) (.int 0)) (.str "or")) (.cons (.ret (.call "choice_of" (.cons (.loc 0) (.cons (.sub (.loc 1) (.int 1)) .nil))))
  .nil) .nil)
  (.cons (.asgT [2, 3, 4] (.call "looked_at" (.cons (.loc 0) (.cons (.sub (.loc 1) (.int 1)) .nil))))
  (.cons (.ifte (.cmp .eq (.sub (.loc 1) (.int 0)) (.str "many")) (.cons (.expr (.call "link" (.cons (.loc 0) (.cons (.loc 4) (.cons (.loc 3) .nil)))))
  .nil) .nil)
  (.cons (.ret (.tup (.cons (.bool true) (.cons (.loc 3) (.cons (.loc 4) .nil)))))
  .nil))))))
noncomputable def d_looked_at : Def := ⟨"looked_at", ["leaves", "pattern"], ["leaves", "pattern", "bare", "firsts", "lasts"], 5, d_looked_atB, []⟩
noncomputable def d_leaves_ofL0 : Sms := (.cons (.asgI (.attr (.loc 1) 3) (.loc 7) (.loc 2))
  .nil)
noncomputable def d_leaves_ofL1 : Sms := (.cons (.asgT [4, 5, 6] (.call "looked_at" (.cons (.loc 1) (.cons (.loc 3) .nil))))
  (.cons (.asgA (.loc 1) 2 (.bin .add (.attr (.loc 1) 2) (.loc 5)))
  (.cons (.for1 7 (.val (.loc 6)) d_leaves_ofL0)
  (.cons (.ifte (.band (.loc 4) (.cmp .is (.attr (.loc 1) 4) .none)) (.cons (.asgA (.loc 1) 4 (.loc 2))
  .nil) .nil)
  .nil))))
noncomputable def d_leaves_ofB : Sms := (.cons (.ifte (.bor (.not (.loc 0)) (.cmp .gt (.bi .len (.loc 0)) (.glob "MOST_PATTERNS" 8))) (.cons .stk
  .nil) .nil)
  (.cons (.asg 1 .newI)
  (.cons (.forT [2, 3] (.enum (.loc 0)) d_leaves_ofL1)
  (.cons (.ret (.loc 1))
  .nil))))
noncomputable def d_leaves_of : Def := ⟨"leaves_of", ["patterns"], ["patterns", "leaves", "number", "pattern", "bare", "firsts", "lasts", "leaf"], 8, d_leaves_ofB, [("MOST_PATTERNS", 8)]⟩
noncomputable def d_stepL0 : Sms := (.cons (.ifte (.cmp .isin (.loc 2) (.sub (.attr (.loc 0) 0) (.loc 4))) (.cons (.asgI (.loc 3) (.loc 4) (.bool true))
  .nil) .nil)
  .nil)
noncomputable def d_stepL1 : Sms := (.cons (.ifte (.cmp .isin (.loc 2) (.sub (.attr (.loc 0) 0) (.loc 4))) (.cons (.asgI (.loc 3) (.loc 4) (.bool true))
  .nil) .nil)
  .nil)
noncomputable def d_stepL2 : Sms := (.cons (.forD 4 (.sub (.attr (.loc 0) 1) (.loc 5)) d_stepL1)
  .nil)
noncomputable def d_stepB : Sms := (.cons (.asg 3 .dictM)
  (.cons (.ifte (.cmp .is (.loc 1) .none) (.cons (.for1 4 (.val (.attr (.loc 0) 2)) d_stepL0)
  (.cons (.ret (.bi .tuple (.bi .sorted (.loc 3))))
  .nil)) .nil)
  (.cons (.for1 5 (.val (.loc 1)) d_stepL2)
  (.cons (.ret (.bi .tuple (.bi .sorted (.loc 3))))
  .nil))))
noncomputable def d_step : Def := ⟨"step", ["leaves", "some", "sign"], ["leaves", "some", "sign", "found", "leaf", "one"], 6, d_stepB, []⟩
noncomputable def d_told_atC2 : Ex := (.sub (.attr (.loc 0) 3) (.loc 2))
noncomputable def d_told_atB : Sms := (.cons (.ifte (.cmp .is (.loc 1) .none) (.cons (.ret (.attr (.loc 0) 4))
  .nil) .nil)
  (.cons (.ret (.minD (.comp d_told_atC2 2 (.val (.loc 1)) (.cons (.cmp .isin (.loc 2) (.attr (.loc 0) 3)) .nil))))
  .nil))
noncomputable def d_told_at : Def := ⟨"told_at", ["leaves", "some"], ["leaves", "some"], 3, d_told_atB, []⟩
noncomputable def d_told_ofL0 : Sms := (.cons (.asg 3 (.call "step" (.cons (.loc 2) (.cons (.loc 3) (.cons (.loc 4) .nil)))))
  (.cons (.ifte (.cmp .eq (.loc 3) (.tup .nil)) (.cons (.ret .none)
  .nil) .nil)
  .nil))
noncomputable def d_told_ofB : Sms := (.cons (.asg 2 (.call "leaves_of" (.cons (.loc 0) .nil)))
  (.cons (.asg 3 .none)
  (.cons (.for1 4 (.val (.loc 1)) d_told_ofL0)
  (.cons (.ret (.call "told_at" (.cons (.loc 2) (.cons (.loc 3) .nil))))
  .nil))))
noncomputable def d_told_of : Def := ⟨"told_of", ["patterns", "text"], ["patterns", "text", "leaves", "some", "sign"], 5, d_told_ofB, []⟩
noncomputable def d_tellsB : Sms := (.cons (.ret (.cmp .isnot (.call "told_of" (.cons (.list (.cons (.loc 0) .nil)) (.cons (.loc 1) .nil))) .none))
  .nil)
noncomputable def d_tells : Def := ⟨"tells", ["pattern", "text"], ["pattern", "text"], 2, d_tellsB, []⟩
noncomputable def d_cell_atB : Sms := (.cons (.ifte (.cmp .lt (.loc 1) (.bi .len (.loc 0))) (.cons (.ret (.sub (.loc 0) (.loc 1)))
  .nil) .nil)
  (.cons (.ret (.int 0))
  .nil))
noncomputable def d_cell_at : Def := ⟨"_law_cell_at", ["_law_script", "_law_k"], ["_law_script", "_law_k"], 2, d_cell_atB, []⟩
noncomputable def d_sign_byB : Sms := (.cons (.asg 1 (.str " !\"#$&'()*+,-./0123456789:;<=>?@ABCDEFGHIJKLMNOPQRSTUVWXYZ[\\]^_`"))
  (.cons (.asg 1 (.bin .add (.loc 1) (.str "abcdefghijklmnopqrstuvwxyz{|}~\n\t")))
  (.cons (.ret (.sub (.loc 1) (.bin .mod (.loc 0) (.int 96))))
  .nil)))
noncomputable def d_sign_by : Def := ⟨"_law_sign_by", ["_law_cell"], ["_law_cell", "_law_some"], 2, d_sign_byB, []⟩
noncomputable def d_lettersC4 : Ex := (.call "_law_sign_by" (.cons (.bin .add (.loc 0) (.bin .mul (.loc 4) (.loc 1))) .nil))
noncomputable def d_lettersC5 : Ex := (.me .join (.str "") (.slice (.loc 3) (.some (.bin .mul (.loc 5) (.loc 2))) (.some (.bin .add (.bin .mul (.loc 5) (.loc 2)) (.loc 2)))))
noncomputable def d_lettersB : Sms := (.cons (.asg 1 (.sub (.list (.cons (.int 1) (.cons (.int 5) (.cons (.int 7) (.cons (.int 11) (.cons (.int 13) (.cons (.int 17) (.cons (.int 19) (.cons (.int 23) .nil))))))))) (.bin .mod (.bin .fdiv (.loc 0) (.int 96)) (.int 8))))
  (.cons (.asg 2 (.int 1))
  (.cons (.ifte (.cmp .eq (.bin .mod (.bin .fdiv (.loc 0) (.int 768)) (.int 4)) (.int 1)) (.cons (.asg 2 (.bin .add (.bin .add (.int 2) (.bin .mod (.bin .fdiv (.loc 0) (.int 3072)) (.int 8))) (.bin .mul (.int 10) (.bin .mod (.bin .fdiv (.loc 0) (.int 24576)) (.int 2)))))
  .nil) .nil)
  (.cons (.asg 3 (.comp d_lettersC4 4 (.range1 (.bin .mul (.int 5) (.loc 2))) .nil))
  (.cons (.ret (.comp d_lettersC5 5 (.range1 (.int 5)) .nil))
  .nil)))))
noncomputable def d_letters : Def := ⟨"_law_letters", ["_law_cell"], ["_law_cell", "_law_gap", "_law_size", "_law_signs"], 6, d_lettersB, []⟩
noncomputable def d_some_ofL0 : Sms := (.cons (.ifte (.cmp .eq (.bin .mod (.loc 1) (.int 2)) (.int 1)) (.cons (.asg 2 (.bin .add (.sub (.loc 0) (.loc 3)) (.loc 2)))
  .nil) .nil)
  (.cons (.asg 1 (.bin .fdiv (.loc 1) (.int 2)))
  .nil))
noncomputable def d_some_ofB : Sms := (.cons (.asg 2 (.str ""))
  (.cons (.for1 3 (.range1 (.int 4)) d_some_ofL0)
  (.cons (.ret (.loc 2))
  .nil)))
noncomputable def d_some_of : Def := ⟨"_law_some_of", ["_law_letters_here", "_law_mask"], ["_law_letters_here", "_law_mask", "_law_signs", "_law_k"], 4, d_some_ofB, []⟩
noncomputable def d_lawL0 : Sms := (.cons (.asg 5 (.bin .mod (.bin .add (.bin .mul (.loc 5) (.int 48271)) (.int 11)) (.int 2147483647)))
  (.cons (.expr (.me .append (.loc 3) (.bin .add (.int 1) (.bin .mod (.bin .fdiv (.loc 5) (.int 7)) (.int 15)))))
  (.cons (.asg 7 (.call "_law_some_of" (.cons (.loc 1) (.cons (.sub (.loc 3) (.loc 6)) .nil))))
  (.cons (.asg 4 (.bin .add (.loc 4) (.sub (.loc 7) (.bin .mod (.bin .fdiv (.loc 5) (.int 105)) (.bi .len (.loc 7))))))
  .nil))))
noncomputable def d_lawC13 : Ex := (.tup (.cons (.str "one") (.cons (.call "_law_some_of" (.cons (.loc 1) (.cons (.loc 13) .nil))) .nil)))
noncomputable def d_lawL2 : Sms := (.cons (.ifte (.cmp .notin (.sub (.loc 4) (.loc 6)) (.sub (.sub (.loc 9) (.loc 6)) (.int 1))) (.cons (.asg 10 (.bool false))
  .nil) .nil)
  .nil)
noncomputable def d_lawB : Sms := (.cons (.asg 1 (.call "_law_letters" (.cons (.call "_law_cell_at" (.cons (.loc 0) (.cons (.int 0) .nil))) .nil)))
  (.cons (.asg 2 (.bin .mod (.call "_law_cell_at" (.cons (.loc 0) (.cons (.int 1) .nil))) (.int 7)))
  (.cons (.ifte (.cmp .eq (.bin .mod (.bin .fdiv (.call "_law_cell_at" (.cons (.loc 0) (.cons (.int 1) .nil))) (.int 7)) (.int 3)) (.int 1)) (.cons (.asg 2 (.bin .add (.int 40) (.bin .mod (.bin .fdiv (.call "_law_cell_at" (.cons (.loc 0) (.cons (.int 1) .nil))) (.int 21)) (.int 21))))
  .nil) .nil)
  (.cons (.ifte (.cmp .eq (.bin .mod (.bin .fdiv (.call "_law_cell_at" (.cons (.loc 0) (.cons (.int 1) .nil))) (.int 7)) (.int 3)) (.int 2)) (.cons (.asg 2 (.bin .mod (.bin .fdiv (.call "_law_cell_at" (.cons (.loc 0) (.cons (.int 1) .nil))) (.int 21)) (.int 61)))
  .nil) .nil)
  (.cons (.asg 3 (.listM .nil))
  (.cons (.asg 4 (.str ""))
  (.cons (.asg 5 (.bin .mod (.call "_law_cell_at" (.cons (.loc 0) (.cons (.int 2) .nil))) (.int 2147483647)))
  (.cons (.for1 6 (.range1 (.bin .add (.loc 2) (.int 1))) d_lawL0)
  (.cons (.asg 4 (.ite (.cmp .gt (.loc 2) (.int 0)) (.slice (.loc 4) .none (.some (.bin .sub (.bin .add (.loc 2) (.bin .mod (.call "_law_cell_at" (.cons (.loc 0) (.cons (.int 3) .nil))) (.int 3))) (.int 1)))) (.slice (.loc 4) .none (.some (.bin .mod (.call "_law_cell_at" (.cons (.loc 0) (.cons (.int 3) .nil))) (.int 2))))))
  (.cons (.asg 8 (.bin .mod (.call "_law_cell_at" (.cons (.loc 0) (.cons (.int 4) .nil))) (.bin .add (.bin .mul (.int 3) (.loc 2)) (.int 3))))
  (.cons (.ifte (.cmp .lt (.loc 8) (.bi .len (.loc 4))) (.cons (.asg 4 (.bin .add (.bin .add (.slice (.loc 4) .none (.some (.loc 8))) (.sub (.sub (.loc 1) (.bin .mod (.call "_law_cell_at" (.cons (.loc 0) (.cons (.int 5) .nil))) (.int 5))) (.int 0))) (.slice (.loc 4) (.some (.bin .add (.loc 8) (.int 1))) .none)))
  .nil) .nil)
  (.cons (.asg 9 (.comp d_lawC13 13 (.val (.slice (.loc 3) .none (.some (.loc 2)))) .nil))
  (.cons (.asg 10 (.cmp .eq (.bi .len (.loc 4)) (.loc 2)))
  (.cons (.for1 6 (.range1 (.min2 (.loc 2) (.bi .len (.loc 4)))) d_lawL2)
  (.cons (.asg 11 (.tup (.cons (.str "row") (.cons (.bi .list (.loc 9)) .nil))))
  (.cons (.asg 12 (.call "tells" (.cons (.loc 11) (.cons (.loc 4) .nil))))
  (.cons (.ret (.band (.isin (.loc 12) .bool) (.band (.cmp .eq (.loc 12) (.loc 10)) (.cmp .eq (.loc 11) (.tup (.cons (.str "row") (.cons (.loc 9) .nil)))))))
  .nil)))))))))))))))))
noncomputable def d_law : Def := ⟨"law", ["_law_script"], ["_law_script", "_law_letters_here", "_law_many", "_law_masks", "_law_text", "_law_number", "_law_k", "_law_own", "_law_odd", "_law_leaves", "_law_due", "_law_handed", "_law_found"], 14, d_lawB, []⟩
noncomputable def defs : List Def := [d_init, d_link, d_leaf_of, d_row_of, d_choice_of, d_looked_at, d_leaves_of, d_step, d_told_at, d_told_of, d_tells, d_cell_at, d_sign_by, d_letters, d_some_of, d_law]
/-! runs whose store is not cut -/
theorem run_keep {F : Fn} {K : Nat} {d : Def} {args : List V} {σ τ : List O} {fl : Fl} {ρ : List (Option V)} (hl : args.length = d.params.length)
    (h : evSs F K d.body ⟨args.map some ++ List.replicate (d.slots - args.length) none, σ⟩ = .ok fl ⟨ρ, τ⟩)
    (hb : τ.length = σ.length ∨ fl.val.lo σ.length = false ∨ ∃ o ∈ τ.take σ.length, O.lo σ.length o = false) : runDef F K d args σ = .ok fl.val ⟨[], τ⟩ := by
  unfold runDef
  rw [if_pos hl, h]
  simp only [R.bind_ok]
  rcases hb with hb | hb | ⟨o, ho, hb⟩
  · rw [← hb, List.take_length]
    split <;> rfl
  · rw [hb]; rfl
  · have : (τ.take σ.length).all (O.lo σ.length) = false := by
      rw [List.all_eq_false]; exact ⟨o, ho, by rw [hb]; exact Bool.false_ne_true⟩
    rw [this, Bool.and_false]; rfl
theorem get_off {α : Type} (σ L : List α) (i : Nat) : (σ ++ L)[σ.length + i]? = L[i]? := by rw [List.getElem?_append_right (Nat.le_add_right _ _), Nat.add_sub_cancel_left]
theorem set_off {α : Type} (σ L : List α) (i : Nat) (x : α) : (σ ++ L).set (σ.length + i) x = σ ++ L.set i x := by rw [List.set_append_right _ _ (Nat.le_add_right _ _), Nat.add_sub_cancel_left]
theorem los_of {n : Nat} {xs : List V} (h : ∀ x ∈ xs, x.lo n = true) : V.los n xs = true := by
  induction xs with
  | nil => exact qfrees_nil
  | cons x xs ih => rw [qfrees_cons, h x (by simp), ih fun y hy => h y (by simp [hy])]; rfl
theorem los_false {n : Nat} {xs : List V} {x : V} (hx : x ∈ xs) (h : x.lo n = false) : V.los n xs = false := by
  induction xs with
  | nil => cases hx
  | cons y xs ih =>
    rw [qfrees_cons]
    rcases List.mem_cons.mp hx with rfl | hx
    · rw [h]; rfl
    · rw [ih hx, Bool.and_false]

/-- the store of one Leaves: the attributes at N, then signs, behind, ends, the enumeration's own, the dicts -/
noncomputable def Lv (N : Nat) (ss bs : List V) (fi em : V) (es : List (Int × V)) (D : List O) : List O :=
  .attrs [.ref (N + 1), .ref (N + 2), fi, .ref (N + 3), em] :: .lst ss :: .lst bs :: .idict es :: .priv :: D
section
variable (σ : List O) (ss bs : List V) (fi em : V) (es : List (Int × V)) (D : List O)
theorem lv0 : (σ ++ Lv σ.length ss bs fi em es D)[σ.length]? = some (.attrs [.ref (σ.length + 1), .ref (σ.length + 2), fi, .ref (σ.length + 3), em]) := get_off σ _ 0
theorem lv1 : (σ ++ Lv σ.length ss bs fi em es D)[σ.length + 1]? = some (.lst ss) := get_off σ _ 1
theorem lv2 : (σ ++ Lv σ.length ss bs fi em es D)[σ.length + 2]? = some (.lst bs) := get_off σ _ 2
theorem lv3 : (σ ++ Lv σ.length ss bs fi em es D)[σ.length + 3]? = some (.idict es) := get_off σ _ 3
theorem lvD (i : Nat) : (σ ++ Lv σ.length ss bs fi em es D)[σ.length + 5 + i]? = D[i]? := by rw [Nat.add_assoc, get_off, Nat.add_comm 5 i]; rfl
theorem lvs1 (x : List V) : (σ ++ Lv σ.length ss bs fi em es D).set (σ.length + 1) (.lst x) = σ ++ Lv σ.length x bs fi em es D := set_off σ _ 1 _
theorem lvs2 (x : List V) : (σ ++ Lv σ.length ss bs fi em es D).set (σ.length + 2) (.lst x) = σ ++ Lv σ.length ss x fi em es D := set_off σ _ 2 _
theorem lvs3 (x : List (Int × V)) : (σ ++ Lv σ.length ss bs fi em es D).set (σ.length + 3) (.idict x) = σ ++ Lv σ.length ss bs fi em x D := set_off σ _ 3 _
theorem lvsD (i : Nat) (x : O) : (σ ++ Lv σ.length ss bs fi em es D).set (σ.length + 5 + i) x = σ ++ Lv σ.length ss bs fi em es (D.set i x) := by rw [Nat.add_assoc, set_off, Nat.add_comm 5 i]; rfl
theorem lvsF (x : V) : (σ ++ Lv σ.length ss bs fi em es D).set σ.length (.attrs [.ref (σ.length + 1), .ref (σ.length + 2), x, .ref (σ.length + 3), em]) = σ ++ Lv σ.length ss bs x em es D := set_off σ _ 0 _
theorem lvsE (x : V) : (σ ++ Lv σ.length ss bs fi em es D).set σ.length (.attrs [.ref (σ.length + 1), .ref (σ.length + 2), fi, .ref (σ.length + 3), x]) = σ ++ Lv σ.length ss bs fi x es D := set_off σ _ 0 _
theorem lvlen : (σ ++ Lv σ.length ss bs fi em es D).length = σ.length + 5 + D.length := by rw [List.length_append]; simp only [Lv, List.length_cons]; omega
theorem lvapp (x : O) : σ ++ Lv σ.length ss bs fi em es D ++ [x] = σ ++ Lv σ.length ss bs fi em es (D ++ [x]) := by rw [List.append_assoc]; rfl
end
theorem empty_cps : (Str.ofString "").cps.toList = [] := by decide +kernel
theorem flat_str (l : List Nat) : (V.str l).flat64 = true := by unfold V.flat64; rw [qdep_str]; rfl
theorem qc_eqs (σ : List O) (a b : List Nat) : cmpSem σ .eq (.str a) (.str b) = some (a == b) := by rw [qc_eq _ _ _ (flat_str _) (flat_str _), V.eqb]
theorem sz3 : (3 : Nat) ≤ sizeLine := by decide
theorem sz1 : (1 : Nat) ≤ sizeLine := by decide
theorem sz0 : (0 : Nat) ≤ sizeLine := by decide

theorem leaf_of_run (F : Fn) (K C : Nat) (hC : clsF F = some (C : Int)) (σ : List O) (ss bs : List V) (fi em : V) (es : List (Int × V)) (D : List O) (s : List Nat) (h0 : s ≠ []) (hd : s.eraseDups.length = s.length) (hl : s.length < 4000 ∧ s.all (· < 128) = true) (h60 : ss.length < 60) (hb : bs.length < 60) :
    runDef F K d_leaf_of [.inst C σ.length, .str s] (σ ++ Lv σ.length ss bs fi em es D) = .ok (.tup [.bool false, .lst [.int ss.length], .lst [.int ss.length]]) ⟨[], σ ++ Lv σ.length (ss ++ [.str s]) (bs ++ [.ref (σ.length + 5 + D.length)]) fi em es (D ++ [.idict []])⟩ := by
  have a0 := q_attr (C := C) (k := 0) hC (lv0 σ ss bs fi em es D) rfl
  have a1 := q_attr (C := C) (k := 0) hC (lv0 σ (ss ++ [.str s]) bs fi em es D) rfl
  have a2 := q_attr (C := C) (k := 1) hC (lv0 σ (ss ++ [.str s]) bs fi em es D) rfl
  have l0 := ql_ref _ _ _ (lv1 σ ss bs fi em es D)
  have r0 := qr_append _ _ _ (lv1 σ ss bs fi em es D)
  have r1 := qr_append _ _ _ (lv2 σ (ss ++ [.str s]) bs fi em es D)
  have hsl : sizeLine = 16777216 := by decide
  have p0 : ∀ ρ, meSem .append (.ref (σ.length + 1)) (.str s) ⟨ρ, σ ++ Lv σ.length ss bs fi em es D⟩ = .ok .none ⟨ρ, σ ++ Lv σ.length (ss ++ [.str s]) bs fi em es D⟩ := fun ρ => by rw [qm_append _ _ _ _ _ (lv1 σ ss bs fi em es D) (by omega), lvs1]
  have p1 : ∀ ρ v, meSem .append (.ref (σ.length + 2)) v ⟨ρ, σ ++ Lv σ.length (ss ++ [.str s]) bs fi em es (D ++ [.idict []])⟩ = .ok .none ⟨ρ, σ ++ Lv σ.length (ss ++ [.str s]) (bs ++ [v]) fi em es (D ++ [.idict []])⟩ := fun ρ v => by rw [qm_append _ _ _ _ _ (lv2 σ (ss ++ [V.str s]) bs fi em es (D ++ [O.idict []])) (by omega), lvs2]
  have c0 : (s == ([] : List Nat)) = false := by cases s with | nil => exact absurd rfl h0 | cons a b => rfl
  have ls : lenSetSem (.str s) = some (.int s.length) := by
    show (if s.length < 4000 ∧ s.all (· < 128) = true then some (V.int s.eraseDups.length) else none) = _
    rw [if_pos hl, hd]
  have c1 : decide ((s.length : Int) < (s.length : Int)) = false := decide_eq_false (Int.lt_irrefl _)
  have c2 : ((ss.length : Int) == 60) = false := by rw [beq_eq_false_iff_ne]; omega
  have e : evSs F K d_leaf_ofB ⟨[some (.inst C σ.length), some (.str s), none], σ ++ Lv σ.length ss bs fi em es D⟩ = .ok (.ret (.tup [.bool false, .lst [.int ss.length], .lst [.int ss.length]])) ⟨[some (.inst C σ.length), some (.str s), some (.int ss.length)], σ ++ Lv σ.length (ss ++ [.str s]) (bs ++ [.ref (σ.length + 5 + D.length)]) fi em es (D ++ [.idict []])⟩ := by
    simp only [d_leaf_ofB, qvE_none, qvE_bool, qvE_int, qvE_str, wk_loc, qvE_fz, qvE_neg, qvEs_nil, qvTs_nil, qvO_none, qvO_some, qvS_brk, qvSs_nil, wvE_bin, wvE_cmp, wvE_sub, wvE_slice, wvE_chain, wvE_band, wvE_bor, wvE_not, wvE_ite, wvE_tup, wvE_list, wvE_listM, wvE_isin, wvE_bi, wvE_me, wvE_call, wvE_callB, wvE_callZ, wvEs_cons, wvTs_cons, wvS_asg, wvS_expr, wvS_ret, wvS_ifte, wvSs_cons, wvIt_val, wvIt_range1, wvIt_range2, wvIt_zip, k_bin2, k_bin1, k_cmp2, k_cmp1, k_sub2, k_sub1, k_sl2, k_sl1, k_sl0, k_ch0, k_ch1, k_ch2t, k_ch2f, k_ch3, k_band2, k_band1t, k_band1f, k_bor2, k_bor1t, k_bor1f, k_not, k_truth, k_ite_t, k_ite_f, k_tup, k_list, k_listM, k_isin, k_bi, k_me2, k_me1, k_call, k_callR, k_frz, k_cons2, k_cons1, k_test_t, k_test_f, k_asg, k_expr, k_ret, k_if_t, k_if_f, k_seq, k_seqr, k_seqb, k_items, k_rng1, k_rng2, k_rngB, k_zip2, k_zipB, qc_lt, qc_le, qc_gt, qc_ge, qc_is, qc_isnot, qc_in, qc_notin, qc_eqi, qc_nei, qb_add, qb_sub, qb_fdiv, qb_mod, qb_pow, qt_bool, qs_tup, qs_lst, qs_str, qset, qn_none, qn_int, qn_str, qn_tup, qr_find, qr_index, qr_join, wvE_attr, wvE_lenSet, wvE_minD, wvE_min2, wvE_newI, wvE_dictM, qvE_glob, wvS_asgI, wvS_asgA, wvS_asgT, wvIt_enum, k_attr, k_lenSet, k_minD, k_min2, k_min1, k_setI1, k_setI2, k_setI3, k_setA1, k_setA2, k_enum, k_asT3, List.set_cons_succ, List.set_cons_zero, List.getElem?_cons_zero, List.getElem?_cons_succ, R.bind_ok, R.lift_some, empty_cps, qc_eqs, c0, ls, ql_str, c1, c2, a0, a1, a2, l0, r0, r1, p0, p1, Option.map_some, if_true, lvlen, lvapp, List.length_cons, List.length_nil, Nat.zero_add, Nat.reduceAdd, sz1, sz3]
  have := run_keep (d := d_leaf_of) (args := [.inst C σ.length, .str s]) (F := F) (K := K) rfl e (.inr (.inr ⟨.lst (bs ++ [.ref (σ.length + 5 + D.length)]), ?_, ?_⟩))
  · exact this
  · refine List.mem_of_getElem? (i := σ.length + 2) ?_
    rw [List.getElem?_take, if_pos (by rw [lvlen]; omega), lv2]
  · rw [lvlen]
    exact los_false (x := .ref (σ.length + 5 + D.length)) (by simp) (by rw [qfree_ref]; exact decide_eq_false (Nat.lt_irrefl _))

end Mine
namespace Mine
open PySem
theorem idx0 {α : Type} (xs : List α) : idxOf xs 0 = xs[0]? := idx_nat xs (j := 0) (by omega)
theorem idx1 {α : Type} (xs : List α) : idxOf xs 1 = xs[1]? := idx_nat xs (j := 1) (by omega)

theorem link_none (F : Fn) (K : Nat) (x : V) (fs : List V) (σ : List O) : runDef F K d_link [x, .lst [], .lst fs] σ = .ok .none ⟨[], σ⟩ := by
  have e : evSs F K d_linkB ⟨[some x, some (.lst []), some (.lst fs), none, none], σ⟩ = .ok .next ⟨[some x, some (.lst []), some (.lst fs), none, none], σ⟩ := by
    simp only [d_linkB, qvE_none, qvE_bool, qvE_int, qvE_str, wk_loc, qvE_fz, qvE_neg, qvEs_nil, qvTs_nil, qvO_none, qvO_some, qvS_brk, qvSs_nil, wvE_bin, wvE_cmp, wvE_sub, wvE_slice, wvE_chain, wvE_band, wvE_bor, wvE_not, wvE_ite, wvE_tup, wvE_list, wvE_listM, wvE_isin, wvE_bi, wvE_me, wvE_call, wvE_callB, wvE_callZ, wvEs_cons, wvTs_cons, wvS_asg, wvS_expr, wvS_ret, wvS_ifte, wvSs_cons, wvIt_val, wvIt_range1, wvIt_range2, wvIt_zip, k_bin2, k_bin1, k_cmp2, k_cmp1, k_sub2, k_sub1, k_sl2, k_sl1, k_sl0, k_ch0, k_ch1, k_ch2t, k_ch2f, k_ch3, k_band2, k_band1t, k_band1f, k_bor2, k_bor1t, k_bor1f, k_not, k_truth, k_ite_t, k_ite_f, k_tup, k_list, k_listM, k_isin, k_bi, k_me2, k_me1, k_call, k_callR, k_frz, k_cons2, k_cons1, k_test_t, k_test_f, k_asg, k_expr, k_ret, k_if_t, k_if_f, k_seq, k_seqr, k_seqb, k_items, k_rng1, k_rng2, k_rngB, k_zip2, k_zipB, qc_lt, qc_le, qc_gt, qc_ge, qc_is, qc_isnot, qc_in, qc_notin, qc_eqi, qc_nei, qb_add, qb_sub, qb_fdiv, qb_mod, qb_pow, qt_bool, qs_tup, qs_lst, qs_str, qset, qn_none, qn_int, qn_str, qn_tup, qr_find, qr_index, qr_join, wvE_attr, wvE_lenSet, wvE_minD, wvE_min2, wvE_newI, wvE_dictM, qvE_glob, wvS_asgI, wvS_asgA, wvS_asgT, wvIt_enum, k_attr, k_lenSet, k_minD, k_min2, k_min1, k_setI1, k_setI2, k_setI3, k_setA1, k_setA2, k_enum, k_asT3, wvS_for1, k_for, qi_lst, forR, List.getElem?_cons_zero, List.getElem?_cons_succ, R.lift_some]
  exact run_keep (d := d_link) (args := [x, .lst [], .lst fs]) (F := F) (K := K) rfl e (.inl rfl)
theorem link_one (F : Fn) (K C : Nat) (hC : clsF F = some (C : Int)) (σ : List O) (ss bs : List V) (fi em : V) (es ds : List (Int × V)) (D : List O) (j k : Nat) (hj : j < 2 ^ 31) (hb : bs[j]? = some (.ref (σ.length + 5 + j))) (hD : D[j]? = some (.idict ds)) (hl : ds.length < 1000) :
    runDef F K d_link [.inst C σ.length, .lst [.int j], .lst [.int k]] (σ ++ Lv σ.length ss bs fi em es D) = .ok .none ⟨[], σ ++ Lv σ.length ss bs fi em es (D.set j (.idict (storedV ds k (.bool true))))⟩ := by
  have a1 := q_attr (C := C) (k := 1) hC (lv0 σ ss bs fi em es D) rfl
  have s1 : subSem (σ ++ Lv σ.length ss bs fi em es D) (.ref (σ.length + 2)) (.int j) = some (.ref (σ.length + 5 + j)) := by rw [q_subR (lv2 σ ss bs fi em es D), idx_nat _ hj, hb]
  have s2 : ∀ ρ, setI (.ref (σ.length + 5 + j)) (.int k) (.bool true) ⟨ρ, σ ++ Lv σ.length ss bs fi em es D⟩ = .ok .next ⟨ρ, σ ++ Lv σ.length ss bs fi em es (D.set j (.idict (storedV ds k (.bool true))))⟩ := fun ρ => by
    have hsl : sizeLine = 16777216 := by decide
    rw [q_setI (es := ds) (by rw [lvD, hD]) (by omega), lvsD]
  have e : evSs F K d_linkB ⟨[some (.inst C σ.length), some (.lst [.int j]), some (.lst [.int k]), none, none], σ ++ Lv σ.length ss bs fi em es D⟩ = .ok .next ⟨[some (.inst C σ.length), some (.lst [.int j]), some (.lst [.int k]), some (.int j), some (.int k)], σ ++ Lv σ.length ss bs fi em es (D.set j (.idict (storedV ds k (.bool true))))⟩ := by
    simp only [d_linkB, d_linkL1, d_linkL0, qvE_none, qvE_bool, qvE_int, qvE_str, wk_loc, qvE_fz, qvE_neg, qvEs_nil, qvTs_nil, qvO_none, qvO_some, qvS_brk, qvSs_nil, wvE_bin, wvE_cmp, wvE_sub, wvE_slice, wvE_chain, wvE_band, wvE_bor, wvE_not, wvE_ite, wvE_tup, wvE_list, wvE_listM, wvE_isin, wvE_bi, wvE_me, wvE_call, wvE_callB, wvE_callZ, wvEs_cons, wvTs_cons, wvS_asg, wvS_expr, wvS_ret, wvS_ifte, wvSs_cons, wvIt_val, wvIt_range1, wvIt_range2, wvIt_zip, k_bin2, k_bin1, k_cmp2, k_cmp1, k_sub2, k_sub1, k_sl2, k_sl1, k_sl0, k_ch0, k_ch1, k_ch2t, k_ch2f, k_ch3, k_band2, k_band1t, k_band1f, k_bor2, k_bor1t, k_bor1f, k_not, k_truth, k_ite_t, k_ite_f, k_tup, k_list, k_listM, k_isin, k_bi, k_me2, k_me1, k_call, k_callR, k_frz, k_cons2, k_cons1, k_test_t, k_test_f, k_asg, k_expr, k_ret, k_if_t, k_if_f, k_seq, k_seqr, k_seqb, k_items, k_rng1, k_rng2, k_rngB, k_zip2, k_zipB, qc_lt, qc_le, qc_gt, qc_ge, qc_is, qc_isnot, qc_in, qc_notin, qc_eqi, qc_nei, qb_add, qb_sub, qb_fdiv, qb_mod, qb_pow, qt_bool, qs_tup, qs_lst, qs_str, qset, qn_none, qn_int, qn_str, qn_tup, qr_find, qr_index, qr_join, wvE_attr, wvE_lenSet, wvE_minD, wvE_min2, wvE_newI, wvE_dictM, qvE_glob, wvS_asgI, wvS_asgA, wvS_asgT, wvIt_enum, k_attr, k_lenSet, k_minD, k_min2, k_min1, k_setI1, k_setI2, k_setI3, k_setA1, k_setA2, k_enum, k_asT3, wvS_for1, k_for, qi_lst, forR, List.getElem?_cons_zero, List.getElem?_cons_succ, List.set_cons_succ, List.set_cons_zero, R.lift_some, R.bind_ok, a1, s1, s2]
  have := run_keep (d := d_link) (args := [.inst C σ.length, .lst [.int j], .lst [.int k]]) (F := F) (K := K) rfl e (.inl (by rw [lvlen, lvlen, List.length_set]))
  exact this
theorem s_one : ((Str.ofString "one").cps.toList == (Str.ofString "one").cps.toList) = true := beq_self_eq_true _
theorem s_row_one : ((Str.ofString "row").cps.toList == (Str.ofString "one").cps.toList) = false := by decide +kernel
theorem s_row : ((Str.ofString "row").cps.toList == (Str.ofString "row").cps.toList) = true := beq_self_eq_true _
noncomputable def oneV (s : List Nat) : V := .tup [.str (Str.ofString "one").cps.toList, .str s]
noncomputable def rowV (ps : List V) : V := .tup [.str (Str.ofString "row").cps.toList, .lst ps]
theorem look_one (F : Fn) (K : Nat) (x : V) (s : List Nat) (σ τ : List O) (r : V) (ρ' : List (Option V)) (h : F "leaf_of" [x, .str s] σ = .ok r ⟨ρ', τ⟩) (hb : τ.length = σ.length ∨ r.lo σ.length = false ∨ ∃ o ∈ τ.take σ.length, O.lo σ.length o = false) :
    runDef F K d_looked_at [x, oneV s] σ = .ok r ⟨[], τ⟩ := by
  have e : evSs F K d_looked_atB ⟨[some x, some (oneV s), none, none, none], σ⟩ = .ok (.ret r) ⟨[some x, some (oneV s), none, none, none], τ⟩ := by
    simp only [d_looked_atB, oneV, qvE_none, qvE_bool, qvE_int, qvE_str, wk_loc, qvE_fz, qvE_neg, qvEs_nil, qvTs_nil, qvO_none, qvO_some, qvS_brk, qvSs_nil, wvE_bin, wvE_cmp, wvE_sub, wvE_slice, wvE_chain, wvE_band, wvE_bor, wvE_not, wvE_ite, wvE_tup, wvE_list, wvE_listM, wvE_isin, wvE_bi, wvE_me, wvE_call, wvE_callB, wvE_callZ, wvEs_cons, wvTs_cons, wvS_asg, wvS_expr, wvS_ret, wvS_ifte, wvSs_cons, wvIt_val, wvIt_range1, wvIt_range2, wvIt_zip, k_bin2, k_bin1, k_cmp2, k_cmp1, k_sub2, k_sub1, k_sl2, k_sl1, k_sl0, k_ch0, k_ch1, k_ch2t, k_ch2f, k_ch3, k_band2, k_band1t, k_band1f, k_bor2, k_bor1t, k_bor1f, k_not, k_truth, k_ite_t, k_ite_f, k_tup, k_list, k_listM, k_isin, k_bi, k_me2, k_me1, k_call, k_callR, k_frz, k_cons2, k_cons1, k_test_t, k_test_f, k_asg, k_expr, k_ret, k_if_t, k_if_f, k_seq, k_seqr, k_seqb, k_items, k_rng1, k_rng2, k_rngB, k_zip2, k_zipB, qc_lt, qc_le, qc_gt, qc_ge, qc_is, qc_isnot, qc_in, qc_notin, qc_eqi, qc_nei, qb_add, qb_sub, qb_fdiv, qb_mod, qb_pow, qt_bool, qs_tup, qs_lst, qs_str, qset, qn_none, qn_int, qn_str, qn_tup, qr_find, qr_index, qr_join, wvE_attr, wvE_lenSet, wvE_minD, wvE_min2, wvE_newI, wvE_dictM, qvE_glob, wvS_asgI, wvS_asgA, wvS_asgT, wvIt_enum, k_attr, k_lenSet, k_minD, k_min2, k_min1, k_setI1, k_setI2, k_setI3, k_setA1, k_setA2, k_enum, k_asT3, List.getElem?_cons_zero, List.getElem?_cons_succ, List.set_cons_succ, List.set_cons_zero, R.lift_some, R.bind_ok, idx0, idx1, qc_eqs, s_one, h, Option.map_some]
  exact run_keep (d := d_looked_at) (args := [x, oneV s]) (F := F) (K := K) rfl e hb
theorem look_row (F : Fn) (K : Nat) (x : V) (ps : List V) (σ τ : List O) (r : V) (ρ' : List (Option V)) (h : F "row_of" [x, .lst ps] σ = .ok r ⟨ρ', τ⟩) (hb : τ.length = σ.length ∨ r.lo σ.length = false ∨ ∃ o ∈ τ.take σ.length, O.lo σ.length o = false) :
    runDef F K d_looked_at [x, rowV ps] σ = .ok r ⟨[], τ⟩ := by
  have e : evSs F K d_looked_atB ⟨[some x, some (rowV ps), none, none, none], σ⟩ = .ok (.ret r) ⟨[some x, some (rowV ps), none, none, none], τ⟩ := by
    simp only [d_looked_atB, rowV, qvE_none, qvE_bool, qvE_int, qvE_str, wk_loc, qvE_fz, qvE_neg, qvEs_nil, qvTs_nil, qvO_none, qvO_some, qvS_brk, qvSs_nil, wvE_bin, wvE_cmp, wvE_sub, wvE_slice, wvE_chain, wvE_band, wvE_bor, wvE_not, wvE_ite, wvE_tup, wvE_list, wvE_listM, wvE_isin, wvE_bi, wvE_me, wvE_call, wvE_callB, wvE_callZ, wvEs_cons, wvTs_cons, wvS_asg, wvS_expr, wvS_ret, wvS_ifte, wvSs_cons, wvIt_val, wvIt_range1, wvIt_range2, wvIt_zip, k_bin2, k_bin1, k_cmp2, k_cmp1, k_sub2, k_sub1, k_sl2, k_sl1, k_sl0, k_ch0, k_ch1, k_ch2t, k_ch2f, k_ch3, k_band2, k_band1t, k_band1f, k_bor2, k_bor1t, k_bor1f, k_not, k_truth, k_ite_t, k_ite_f, k_tup, k_list, k_listM, k_isin, k_bi, k_me2, k_me1, k_call, k_callR, k_frz, k_cons2, k_cons1, k_test_t, k_test_f, k_asg, k_expr, k_ret, k_if_t, k_if_f, k_seq, k_seqr, k_seqb, k_items, k_rng1, k_rng2, k_rngB, k_zip2, k_zipB, qc_lt, qc_le, qc_gt, qc_ge, qc_is, qc_isnot, qc_in, qc_notin, qc_eqi, qc_nei, qb_add, qb_sub, qb_fdiv, qb_mod, qb_pow, qt_bool, qs_tup, qs_lst, qs_str, qset, qn_none, qn_int, qn_str, qn_tup, qr_find, qr_index, qr_join, wvE_attr, wvE_lenSet, wvE_minD, wvE_min2, wvE_newI, wvE_dictM, qvE_glob, wvS_asgI, wvS_asgA, wvS_asgT, wvIt_enum, k_attr, k_lenSet, k_minD, k_min2, k_min1, k_setI1, k_setI2, k_setI3, k_setA1, k_setA2, k_enum, k_asT3, List.getElem?_cons_zero, List.getElem?_cons_succ, List.set_cons_succ, List.set_cons_zero, R.lift_some, R.bind_ok, idx0, idx1, qc_eqs, s_row_one, s_row, h, Option.map_some]
  exact run_keep (d := d_looked_at) (args := [x, rowV ps]) (F := F) (K := K) rfl e hb

/-! a row of leaves -/
noncomputable def lastD (n j : Nat) : O := .idict (if j + 1 < n then [((j + 1 : Nat), .bool true)] else [])
noncomputable def rowD (n : Nat) : List O := (List.range n).map (lastD n)
noncomputable def rowB (N n : Nat) : List V := (List.range n).map fun j => .ref (N + 5 + j)
noncomputable def firstsV (n : Nat) : List V := if n = 0 then [] else [.int 0]
noncomputable def lastsV (n : Nat) : List V := if n = 0 then [] else [.int (n - 1 : Nat)]
theorem rowD_len (n : Nat) : (rowD n).length = n := by simp [rowD]
theorem rowB_len (N n : Nat) : (rowB N n).length = n := by simp [rowB]
theorem rowB_succ (N n : Nat) : rowB N (n + 1) = rowB N n ++ [.ref (N + 5 + n)] := by simp [rowB, List.range_succ]
theorem rowD_one : rowD 0 ++ [O.idict []] = rowD 1 := rfl
theorem rowD_succ (n : Nat) : (rowD (n + 1) ++ [O.idict []]).set n (.idict [((n + 1 : Nat), .bool true)]) = rowD (n + 2) := by
  apply List.ext_getElem?
  intro i
  rw [List.getElem?_set, List.length_append, rowD_len, List.length_singleton]
  by_cases h : n = i
  · subst h
    rw [if_pos rfl, if_pos (by omega)]
    simp [rowD, lastD]
  · rw [if_neg h]
    by_cases h2 : i < n + 1
    · rw [List.getElem?_append_left (by rw [rowD_len]; exact h2)]
      simp only [rowD, List.getElem?_map]
      rw [List.getElem?_range h2, List.getElem?_range (show i < n + 2 by omega)]
      simp only [Option.map_some, lastD]
      rw [if_pos (by omega), if_pos (by omega)]
    · by_cases h3 : i = n + 1
      · subst h3
        rw [List.getElem?_append_right (by rw [rowD_len]; omega), rowD_len, Nat.sub_self]
        simp only [rowD, List.getElem?_map]
        rw [List.getElem?_range (show n + 1 < n + 2 by omega)]
        simp [lastD]
      · rw [List.getElem?_eq_none (by rw [List.length_append, rowD_len, List.length_singleton]; omega), List.getElem?_eq_none (by rw [rowD_len]; omega)]
theorem rowD_last (n : Nat) : (rowD (n + 1) ++ [O.idict []])[n]? = some (.idict []) := by
  rw [List.getElem?_append_left (by rw [rowD_len]; omega)]
  simp only [rowD, List.getElem?_map]
  rw [List.getElem?_range (show n < n + 1 by omega)]
  simp [lastD]
theorem rowB_last (N n : Nat) : (rowB N (n + 1) ++ [V.ref (N + 5 + (n + 1))])[n]? = some (.ref (N + 5 + n)) := by
  rw [List.getElem?_append_left (by rw [rowB_len]; omega)]
  simp only [rowB, List.getElem?_map]
  rw [List.getElem?_range (show n < n + 1 by omega)]
  rfl
theorem qb_addl (x y : List V) (h : x.length + y.length ≤ sizeLine) : binSem .add (.lst x) (.lst y) = some (.lst (x ++ y)) := if_pos h
theorem row_turn (F : Fn) (K C : Nat) (σ : List O) (fi em : V) (es : List (Int × V)) (ps : List V) (ss : List V) (n : Nat) (s : List Nat) (hn : ss.length = n) (h60 : n < 60)
    (hlook : F "looked_at" [.inst C σ.length, oneV s] (σ ++ Lv σ.length ss (rowB σ.length n) fi em es (rowD n)) = .ok (.tup [.bool false, .lst [.int n], .lst [.int n]]) ⟨[], σ ++ Lv σ.length (ss ++ [.str s]) (rowB σ.length (n + 1)) fi em es (rowD n ++ [.idict []])⟩)
    (hlink : F "link" [.inst C σ.length, .lst (lastsV n), .lst [.int n]] (σ ++ Lv σ.length (ss ++ [.str s]) (rowB σ.length (n + 1)) fi em es (rowD n ++ [.idict []])) = .ok .none ⟨[], σ ++ Lv σ.length (ss ++ [.str s]) (rowB σ.length (n + 1)) fi em es (rowD (n + 1))⟩) (x5 x6 x7 x8 : Option V) :
    evSs F K d_row_ofL0 (setV ⟨[some (.inst C σ.length), some (.lst ps), some (.bool (n == 0)), some (.lst (firstsV n)), some (.lst (lastsV n)), x5, x6, x7, x8], σ ++ Lv σ.length ss (rowB σ.length n) fi em es (rowD n)⟩ 5 (oneV s)) =
      .ok .next ⟨[some (.inst C σ.length), some (.lst ps), some (.bool (n + 1 == 0)), some (.lst (firstsV (n + 1))), some (.lst (lastsV (n + 1))), some (oneV s), some (.bool false), some (.lst [.int n]), some (.lst [.int n])], σ ++ Lv σ.length (ss ++ [.str s]) (rowB σ.length (n + 1)) fi em es (rowD (n + 1))⟩ := by
  have hb : (n + 1 == 0) = false := rfl
  have hl : lastsV (n + 1) = [.int n] := rfl
  have hf : firstsV (n + 1) = [.int 0] := rfl
  rw [hb, hl, hf]
  cases n with
  | zero =>
    have h0 : ((0 : Nat) == 0) = true := rfl
    have ha := qb_addl [] [.int ((0 : Nat) : Int)] (by decide)
    rw [List.nil_append] at ha
    rw [h0] at *
    simp only [d_row_ofL0, qvE_none, qvE_bool, qvE_int, qvE_str, wk_loc, qvE_fz, qvE_neg, qvEs_nil, qvTs_nil, qvO_none, qvO_some, qvS_brk, qvSs_nil, wvE_bin, wvE_cmp, wvE_sub, wvE_slice, wvE_chain, wvE_band, wvE_bor, wvE_not, wvE_ite, wvE_tup, wvE_list, wvE_listM, wvE_isin, wvE_bi, wvE_me, wvE_call, wvE_callB, wvE_callZ, wvEs_cons, wvTs_cons, wvS_asg, wvS_expr, wvS_ret, wvS_ifte, wvSs_cons, wvIt_val, wvIt_range1, wvIt_range2, wvIt_zip, k_bin2, k_bin1, k_cmp2, k_cmp1, k_sub2, k_sub1, k_sl2, k_sl1, k_sl0, k_ch0, k_ch1, k_ch2t, k_ch2f, k_ch3, k_band2, k_band1t, k_band1f, k_bor2, k_bor1t, k_bor1f, k_not, k_truth, k_ite_t, k_ite_f, k_tup, k_list, k_listM, k_isin, k_bi, k_me2, k_me1, k_call, k_callR, k_frz, k_cons2, k_cons1, k_test_t, k_test_f, k_asg, k_expr, k_ret, k_if_t, k_if_f, k_seq, k_seqr, k_seqb, k_items, k_rng1, k_rng2, k_rngB, k_zip2, k_zipB, qc_lt, qc_le, qc_gt, qc_ge, qc_is, qc_isnot, qc_in, qc_notin, qc_eqi, qc_nei, qb_add, qb_sub, qb_fdiv, qb_mod, qb_pow, qt_bool, qs_tup, qs_lst, qs_str, qset, qn_none, qn_int, qn_str, qn_tup, qr_find, qr_index, qr_join, wvE_attr, wvE_lenSet, wvE_minD, wvE_min2, wvE_newI, wvE_dictM, qvE_glob, wvS_asgI, wvS_asgA, wvS_asgT, wvIt_enum, k_attr, k_lenSet, k_minD, k_min2, k_min1, k_setI1, k_setI2, k_setI3, k_setA1, k_setA2, k_enum, k_asT3, List.getElem?_cons_zero, List.getElem?_cons_succ, List.set_cons_succ, List.set_cons_zero, R.lift_some, R.bind_ok, hlook, hlink, firstsV, if_true, ha]
    rfl
  | succ n =>
    have h0 : (n + 1 == 0) = false := rfl
    rw [h0] at *
    have hf : firstsV (n + 1) = [.int 0] := rfl
    simp only [d_row_ofL0, qvE_none, qvE_bool, qvE_int, qvE_str, wk_loc, qvE_fz, qvE_neg, qvEs_nil, qvTs_nil, qvO_none, qvO_some, qvS_brk, qvSs_nil, wvE_bin, wvE_cmp, wvE_sub, wvE_slice, wvE_chain, wvE_band, wvE_bor, wvE_not, wvE_ite, wvE_tup, wvE_list, wvE_listM, wvE_isin, wvE_bi, wvE_me, wvE_call, wvE_callB, wvE_callZ, wvEs_cons, wvTs_cons, wvS_asg, wvS_expr, wvS_ret, wvS_ifte, wvSs_cons, wvIt_val, wvIt_range1, wvIt_range2, wvIt_zip, k_bin2, k_bin1, k_cmp2, k_cmp1, k_sub2, k_sub1, k_sl2, k_sl1, k_sl0, k_ch0, k_ch1, k_ch2t, k_ch2f, k_ch3, k_band2, k_band1t, k_band1f, k_bor2, k_bor1t, k_bor1f, k_not, k_truth, k_ite_t, k_ite_f, k_tup, k_list, k_listM, k_isin, k_bi, k_me2, k_me1, k_call, k_callR, k_frz, k_cons2, k_cons1, k_test_t, k_test_f, k_asg, k_expr, k_ret, k_if_t, k_if_f, k_seq, k_seqr, k_seqb, k_items, k_rng1, k_rng2, k_rngB, k_zip2, k_zipB, qc_lt, qc_le, qc_gt, qc_ge, qc_is, qc_isnot, qc_in, qc_notin, qc_eqi, qc_nei, qb_add, qb_sub, qb_fdiv, qb_mod, qb_pow, qt_bool, qs_tup, qs_lst, qs_str, qset, qn_none, qn_int, qn_str, qn_tup, qr_find, qr_index, qr_join, wvE_attr, wvE_lenSet, wvE_minD, wvE_min2, wvE_newI, wvE_dictM, qvE_glob, wvS_asgI, wvS_asgA, wvS_asgT, wvIt_enum, k_attr, k_lenSet, k_minD, k_min2, k_min1, k_setI1, k_setI2, k_setI3, k_setA1, k_setA2, k_enum, k_asT3, List.getElem?_cons_zero, List.getElem?_cons_succ, List.set_cons_succ, List.set_cons_zero, R.lift_some, R.bind_ok, hlook, hlink, hf]
theorem row_of_run (F : Fn) (K C : Nat) (σ : List O) (fi em : V) (es : List (Int × V)) (ts : List (List Nat)) (h60 : ts.length ≤ 60)
    (hlook : ∀ (ss : List V) (n : Nat) (s : List Nat), ss.length = n → n < 60 → s ∈ ts → F "looked_at" [.inst C σ.length, oneV s] (σ ++ Lv σ.length ss (rowB σ.length n) fi em es (rowD n)) = .ok (.tup [.bool false, .lst [.int n], .lst [.int n]]) ⟨[], σ ++ Lv σ.length (ss ++ [.str s]) (rowB σ.length (n + 1)) fi em es (rowD n ++ [.idict []])⟩)
    (hlink : ∀ (ss : List V) (n : Nat), n < 60 → F "link" [.inst C σ.length, .lst (lastsV n), .lst [.int n]] (σ ++ Lv σ.length ss (rowB σ.length (n + 1)) fi em es (rowD n ++ [.idict []])) = .ok .none ⟨[], σ ++ Lv σ.length ss (rowB σ.length (n + 1)) fi em es (rowD (n + 1))⟩) :
    runDef F K d_row_of [.inst C σ.length, .lst (ts.map oneV)] (σ ++ Lv σ.length [] [] fi em es []) = .ok (.tup [.bool (ts.length == 0), .lst (firstsV ts.length), .lst (lastsV ts.length)]) ⟨[], σ ++ Lv σ.length (ts.map .str) (rowB σ.length ts.length) fi em es (rowD ts.length)⟩ := by
  obtain ⟨st, e, x5, x6, x7, x8, rfl⟩ := forR_all (step := fun x st => evSs F K d_row_ofL0 (setV st 5 x))
    (fun i st => ∃ x5 x6 x7 x8, st = ⟨[some (.inst C σ.length), some (.lst (ts.map oneV)), some (.bool (i == 0)), some (.lst (firstsV i)), some (.lst (lastsV i)), x5, x6, x7, x8], σ ++ Lv σ.length ((ts.take i).map .str) (rowB σ.length i) fi em es (rowD i)⟩)
    (ts.map oneV) 0 ⟨[some (.inst C σ.length), some (.lst (ts.map oneV)), some (.bool true), some (.lst []), some (.lst []), none, none, none, none], σ ++ Lv σ.length [] [] fi em es []⟩ (by
      rintro i x st hx ⟨x5, x6, x7, x8, rfl⟩
      rw [Nat.zero_add] at *
      rw [List.getElem?_map] at hx
      obtain ⟨s, hs, rfl⟩ := Option.map_eq_some_iff.mp hx
      have hi : i < ts.length := (List.getElem?_eq_some_iff.mp hs).1
      have hsl : ((ts.take i).map V.str).length = i := by rw [List.length_map, List.length_take]; omega
      have hsn : (ts.take i).map V.str ++ [.str s] = (ts.take (i + 1)).map .str := by
        rw [List.take_succ, hs]; simp
      have ht := row_turn F K C σ fi em es (ts.map oneV) _ i s hsl (by omega) (hlook _ i s hsl (by omega) (List.mem_of_getElem? hs)) (hlink _ i (by omega)) x5 x6 x7 x8
      rw [hsn] at ht
      exact ⟨_, ht, _, _, _, _, rfl⟩)
    ⟨none, none, none, none, rfl⟩
  rw [Nat.zero_add, List.length_map, List.take_length] at e
  have e' : evSs F K d_row_ofB ⟨[some (.inst C σ.length), some (.lst (ts.map oneV)), none, none, none, none, none, none, none], σ ++ Lv σ.length [] [] fi em es []⟩ = .ok (.ret (.tup [.bool (ts.length == 0), .lst (firstsV ts.length), .lst (lastsV ts.length)]))
      ⟨[some (.inst C σ.length), some (.lst (ts.map oneV)), some (.bool (ts.length == 0)), some (.lst (firstsV ts.length)), some (.lst (lastsV ts.length)), x5, x6, x7, x8], σ ++ Lv σ.length (ts.map .str) (rowB σ.length ts.length) fi em es (rowD ts.length)⟩ := by
    simp only [d_row_ofB, qvE_none, qvE_bool, qvE_int, qvE_str, wk_loc, qvE_fz, qvE_neg, qvEs_nil, qvTs_nil, qvO_none, qvO_some, qvS_brk, qvSs_nil, wvE_bin, wvE_cmp, wvE_sub, wvE_slice, wvE_chain, wvE_band, wvE_bor, wvE_not, wvE_ite, wvE_tup, wvE_list, wvE_listM, wvE_isin, wvE_bi, wvE_me, wvE_call, wvE_callB, wvE_callZ, wvEs_cons, wvTs_cons, wvS_asg, wvS_expr, wvS_ret, wvS_ifte, wvSs_cons, wvIt_val, wvIt_range1, wvIt_range2, wvIt_zip, k_bin2, k_bin1, k_cmp2, k_cmp1, k_sub2, k_sub1, k_sl2, k_sl1, k_sl0, k_ch0, k_ch1, k_ch2t, k_ch2f, k_ch3, k_band2, k_band1t, k_band1f, k_bor2, k_bor1t, k_bor1f, k_not, k_truth, k_ite_t, k_ite_f, k_tup, k_list, k_listM, k_isin, k_bi, k_me2, k_me1, k_call, k_callR, k_frz, k_cons2, k_cons1, k_test_t, k_test_f, k_asg, k_expr, k_ret, k_if_t, k_if_f, k_seq, k_seqr, k_seqb, k_items, k_rng1, k_rng2, k_rngB, k_zip2, k_zipB, qc_lt, qc_le, qc_gt, qc_ge, qc_is, qc_isnot, qc_in, qc_notin, qc_eqi, qc_nei, qb_add, qb_sub, qb_fdiv, qb_mod, qb_pow, qt_bool, qs_tup, qs_lst, qs_str, qset, qn_none, qn_int, qn_str, qn_tup, qr_find, qr_index, qr_join, wvE_attr, wvE_lenSet, wvE_minD, wvE_min2, wvE_newI, wvE_dictM, qvE_glob, wvS_asgI, wvS_asgA, wvS_asgT, wvIt_enum, k_attr, k_lenSet, k_minD, k_min2, k_min1, k_setI1, k_setI2, k_setI3, k_setA1, k_setA2, k_enum, k_asT3, wvS_for1, k_for, qi_lst, List.getElem?_cons_zero, List.getElem?_cons_succ, List.set_cons_succ, List.set_cons_zero, R.lift_some, R.bind_ok, e, if_true, List.length_cons, List.length_nil, Nat.zero_add, Nat.reduceAdd, sz0, sz3]
  refine run_keep (d := d_row_of) (args := [.inst C σ.length, .lst (ts.map oneV)]) (F := F) (K := K) rfl e' ?_
  by_cases h0 : ts.length = 0
  · exact .inl (by rw [lvlen, lvlen, rowD_len, h0]; rfl)
  · refine .inr (.inr ⟨.lst (rowB σ.length ts.length), List.mem_of_getElem? (i := σ.length + 2) ?_, ?_⟩)
    · rw [List.getElem?_take, if_pos (by rw [lvlen]; omega), lv2]
    · rw [lvlen]
      exact los_false (x := .ref (σ.length + 5 + 0)) (List.mem_of_getElem? (i := 0) (by simp only [rowB, List.getElem?_map]; rw [List.getElem?_range (by omega)]; rfl)) (by rw [qfree_ref]; exact decide_eq_false (by simp))

end Mine
namespace Mine
open PySem
theorem an5 : attrNames.length = 5 := rfl
theorem setA_mid {q : Option Int} {C k : Nat} {σ L : List O} {xs ys : List V} {v : V} (hq : q = some (C : Int)) (hs : setAt xs k v = some ys) (hl : ys.length ≤ 5) (ρ : List (Option V)) : setA q (.inst C σ.length) v k ⟨ρ, σ ++ .attrs xs :: L⟩ = .ok .next ⟨ρ, σ ++ .attrs ys :: L⟩ := by
  rw [q_setA (n := σ.length) hq (by simp) hs hl, List.set_append_right _ _ (Nat.le_refl _), Nat.sub_self]; rfl
theorem init_run (F : Fn) (K C : Nat) (hC : clsF F = some (C : Int)) (σ : List O) :
    runDef F K d_init [.inst C σ.length] (σ ++ [.attrs []]) = .ok .none ⟨[], σ ++ [.attrs [.ref (σ.length + 1), .ref (σ.length + 2), .lst [], .ref (σ.length + 3), .none], .lst [], .lst [], .idict []]⟩ := by
  have h0 : ∀ ρ, setA (clsF F) (.inst C σ.length) (.ref (σ.length + 1)) 0 ⟨ρ, σ ++ [.attrs [], .lst []]⟩ = .ok .next ⟨ρ, σ ++ [.attrs [.ref (σ.length + 1)], .lst []]⟩ := fun ρ => setA_mid hC rfl (by simp) ρ
  have h1 : ∀ ρ, setA (clsF F) (.inst C σ.length) (.ref (σ.length + 2)) 1 ⟨ρ, σ ++ [.attrs [.ref (σ.length + 1)], .lst [], .lst []]⟩ = .ok .next ⟨ρ, σ ++ [.attrs [.ref (σ.length + 1), .ref (σ.length + 2)], .lst [], .lst []]⟩ := fun ρ => setA_mid hC rfl (by simp) ρ
  have h2 : ∀ ρ, setA (clsF F) (.inst C σ.length) (.lst []) 2 ⟨ρ, σ ++ [.attrs [.ref (σ.length + 1), .ref (σ.length + 2)], .lst [], .lst []]⟩ = .ok .next ⟨ρ, σ ++ [.attrs [.ref (σ.length + 1), .ref (σ.length + 2), .lst []], .lst [], .lst []]⟩ := fun ρ => setA_mid hC rfl (by simp) ρ
  have h3 : ∀ ρ, setA (clsF F) (.inst C σ.length) (.ref (σ.length + 3)) 3 ⟨ρ, σ ++ [.attrs [.ref (σ.length + 1), .ref (σ.length + 2), .lst []], .lst [], .lst [], .idict []]⟩ = .ok .next ⟨ρ, σ ++ [.attrs [.ref (σ.length + 1), .ref (σ.length + 2), .lst [], .ref (σ.length + 3)], .lst [], .lst [], .idict []]⟩ := fun ρ => setA_mid hC rfl (by simp) ρ
  have h4 : ∀ ρ, setA (clsF F) (.inst C σ.length) .none 4 ⟨ρ, σ ++ [.attrs [.ref (σ.length + 1), .ref (σ.length + 2), .lst [], .ref (σ.length + 3)], .lst [], .lst [], .idict []]⟩ = .ok .next ⟨ρ, σ ++ [.attrs [.ref (σ.length + 1), .ref (σ.length + 2), .lst [], .ref (σ.length + 3), .none], .lst [], .lst [], .idict []]⟩ := fun ρ => setA_mid hC rfl (by simp) ρ
  have e : evSs F K d_initB ⟨[some (.inst C σ.length)], σ ++ [.attrs []]⟩ = .ok .next ⟨[some (.inst C σ.length)], σ ++ [.attrs [.ref (σ.length + 1), .ref (σ.length + 2), .lst [], .ref (σ.length + 3), .none], .lst [], .lst [], .idict []]⟩ := by
    simp only [d_initB, qvE_none, qvE_bool, qvE_int, qvE_str, wk_loc, qvE_fz, qvE_neg, qvEs_nil, qvTs_nil, qvO_none, qvO_some, qvS_brk, qvSs_nil, wvE_bin, wvE_cmp, wvE_sub, wvE_slice, wvE_chain, wvE_band, wvE_bor, wvE_not, wvE_ite, wvE_tup, wvE_list, wvE_listM, wvE_isin, wvE_bi, wvE_me, wvE_call, wvE_callB, wvE_callZ, wvEs_cons, wvTs_cons, wvS_asg, wvS_expr, wvS_ret, wvS_ifte, wvSs_cons, wvIt_val, wvIt_range1, wvIt_range2, wvIt_zip, k_bin2, k_bin1, k_cmp2, k_cmp1, k_sub2, k_sub1, k_sl2, k_sl1, k_sl0, k_ch0, k_ch1, k_ch2t, k_ch2f, k_ch3, k_band2, k_band1t, k_band1f, k_bor2, k_bor1t, k_bor1f, k_not, k_truth, k_ite_t, k_ite_f, k_tup, k_list, k_listM, k_isin, k_bi, k_me2, k_me1, k_call, k_callR, k_frz, k_cons2, k_cons1, k_test_t, k_test_f, k_asg, k_expr, k_ret, k_if_t, k_if_f, k_seq, k_seqr, k_seqb, k_items, k_rng1, k_rng2, k_rngB, k_zip2, k_zipB, qc_lt, qc_le, qc_gt, qc_ge, qc_is, qc_isnot, qc_in, qc_notin, qc_eqi, qc_nei, qb_add, qb_sub, qb_fdiv, qb_mod, qb_pow, qt_bool, qs_tup, qs_lst, qs_str, qset, qn_none, qn_int, qn_str, qn_tup, qr_find, qr_index, qr_join, wvE_attr, wvE_lenSet, wvE_minD, wvE_min2, wvE_newI, wvE_dictM, qvE_glob, wvS_asgI, wvS_asgA, wvS_asgT, wvIt_enum, k_attr, k_lenSet, k_minD, k_min2, k_min1, k_setI1, k_setI2, k_setI3, k_setA1, k_setA2, k_enum, k_asT3, List.getElem?_cons_zero, R.lift_some, R.bind_ok, List.append_assoc, List.cons_append, List.nil_append, List.length_append, List.length_cons, List.length_nil, Nat.zero_add, Nat.reduceAdd, sz0, if_true, h0, h1, h2, h3, h4]
  refine run_keep (d := d_init) (args := [.inst C σ.length]) (F := F) (K := K) rfl e (.inr (.inr ⟨.attrs [.ref (σ.length + 1), .ref (σ.length + 2), .lst [], .ref (σ.length + 3), .none], List.mem_of_getElem? (i := σ.length) ?_, ?_⟩))
  · rw [List.getElem?_take, if_pos (by simp)]
    exact get_off σ [O.attrs [.ref (σ.length + 1), .ref (σ.length + 2), .lst [], .ref (σ.length + 3), .none], .lst [], .lst [], .idict []] 0
  · refine los_false (x := .ref (σ.length + 1)) (by simp) ?_
    rw [qfree_ref]; exact decide_eq_false (by simp)
noncomputable def endsV (n : Nat) : List (Int × V) := if n = 0 then [] else [((n - 1 : Nat), .int 0)]
noncomputable def emptyV (n : Nat) : V := if n = 0 then .int 0 else .none
theorem leaves_of_run (F : Fn) (K C : Nat) (hC : clsF F = some (C : Int)) (σ : List O) (p : V) (n : Nat) (ss bs : List V) (D : List O)
    (hnew : F clsName [] σ = .ok (.inst C σ.length) ⟨[], σ ++ [.attrs [.ref (σ.length + 1), .ref (σ.length + 2), .lst [], .ref (σ.length + 3), .none], .lst [], .lst [], .idict []]⟩)
    (hlook : F "looked_at" [.inst C σ.length, p] (σ ++ Lv σ.length [] [] (.lst []) .none [] []) = .ok (.tup [.bool (n == 0), .lst (firstsV n), .lst (lastsV n)]) ⟨[], σ ++ Lv σ.length ss bs (.lst []) .none [] D⟩) :
    runDef F K d_leaves_of [.lst [p]] σ = .ok (.inst C σ.length) ⟨[], σ ++ Lv σ.length ss bs (.lst (firstsV n)) (emptyV n) (endsV n) D⟩ := by
  have hp : σ ++ [O.attrs [.ref (σ.length + 1), .ref (σ.length + 2), .lst [], .ref (σ.length + 3), .none], .lst [], .lst [], .idict []] ++ [.priv] = σ ++ Lv σ.length [] [] (.lst []) .none [] [] := by rw [List.append_assoc]; rfl
  have ht : V.truthy σ (.lst [p]) = some true := rfl
  have a2 := q_attr (C := C) (k := 2) hC (lv0 σ ss bs (.lst []) .none [] D) rfl
  have ha : binSem .add (.lst []) (.lst (firstsV n)) = some (.lst (firstsV n)) := by
    rw [qb_addl _ _ (by unfold firstsV sizeLine; split <;> simp), List.nil_append]
  have s2 : ∀ ρ, setA (clsF F) (.inst C σ.length) (.lst (firstsV n)) 2 ⟨ρ, σ ++ Lv σ.length ss bs (.lst []) .none [] D⟩ = .ok .next ⟨ρ, σ ++ Lv σ.length ss bs (.lst (firstsV n)) .none [] D⟩ := fun ρ => by
    rw [q_setA hC (lv0 σ ss bs (.lst []) .none [] D) rfl (by rw [an5]; simp)]
    exact congrArg (fun l => R.ok Fl.next ⟨ρ, l⟩) (lvsF σ ss bs (.lst []) .none [] D _)
  have hl1 : (([p] : List V).length : Int) = 1 := rfl
  have c8 : decide ((1 : Int) > 8) = false := by decide
  cases n with
  | zero =>
    have a4 := q_attr (C := C) (k := 4) hC (lv0 σ ss bs (.lst (firstsV 0)) .none [] D) rfl
    have s4 : ∀ ρ, setA (clsF F) (.inst C σ.length) (.int 0) 4 ⟨ρ, σ ++ Lv σ.length ss bs (.lst (firstsV 0)) .none [] D⟩ = .ok .next ⟨ρ, σ ++ Lv σ.length ss bs (.lst (firstsV 0)) (.int 0) [] D⟩ := fun ρ => by
      rw [q_setA hC (lv0 σ ss bs (.lst (firstsV 0)) .none [] D) rfl (by rw [an5]; simp)]
      exact congrArg (fun l => R.ok Fl.next ⟨ρ, l⟩) (lvsE σ ss bs (.lst (firstsV 0)) .none [] D _)
    have hb : ((0 : Nat) == 0) = true := rfl
    have hla : lastsV 0 = [] := rfl
    have e : evSs F K d_leaves_ofB ⟨[some (.lst [p]), none, none, none, none, none, none, none], σ⟩ = .ok (.ret (.inst C σ.length)) ⟨[some (.lst [p]), some (.inst C σ.length), some (.int 0), some p, some (.bool true), some (.lst (firstsV 0)), some (.lst []), none], σ ++ Lv σ.length ss bs (.lst (firstsV 0)) (.int 0) [] D⟩ := by
      rw [hb, hla] at hlook
      simp only [d_leaves_ofB, d_leaves_ofL1, d_leaves_ofL0, qvE_none, qvE_bool, qvE_int, qvE_str, wk_loc, qvE_fz, qvE_neg, qvEs_nil, qvTs_nil, qvO_none, qvO_some, qvS_brk, qvSs_nil, wvE_bin, wvE_cmp, wvE_sub, wvE_slice, wvE_chain, wvE_band, wvE_bor, wvE_not, wvE_ite, wvE_tup, wvE_list, wvE_listM, wvE_isin, wvE_bi, wvE_me, wvE_call, wvE_callB, wvE_callZ, wvEs_cons, wvTs_cons, wvS_asg, wvS_expr, wvS_ret, wvS_ifte, wvSs_cons, wvIt_val, wvIt_range1, wvIt_range2, wvIt_zip, k_bin2, k_bin1, k_cmp2, k_cmp1, k_sub2, k_sub1, k_sl2, k_sl1, k_sl0, k_ch0, k_ch1, k_ch2t, k_ch2f, k_ch3, k_band2, k_band1t, k_band1f, k_bor2, k_bor1t, k_bor1f, k_not, k_truth, k_ite_t, k_ite_f, k_tup, k_list, k_listM, k_isin, k_bi, k_me2, k_me1, k_call, k_callR, k_frz, k_cons2, k_cons1, k_test_t, k_test_f, k_asg, k_expr, k_ret, k_if_t, k_if_f, k_seq, k_seqr, k_seqb, k_items, k_rng1, k_rng2, k_rngB, k_zip2, k_zipB, qc_lt, qc_le, qc_gt, qc_ge, qc_is, qc_isnot, qc_in, qc_notin, qc_eqi, qc_nei, qb_add, qb_sub, qb_fdiv, qb_mod, qb_pow, qt_bool, qs_tup, qs_lst, qs_str, qset, qn_none, qn_int, qn_str, qn_tup, qr_find, qr_index, qr_join, wvE_attr, wvE_lenSet, wvE_minD, wvE_min2, wvE_newI, wvE_dictM, qvE_glob, wvS_asgI, wvS_asgA, wvS_asgT, wvIt_enum, k_attr, k_lenSet, k_minD, k_min2, k_min1, k_setI1, k_setI2, k_setI3, k_setA1, k_setA2, k_enum, k_asT3, wvS_for1, wvS_forT, k_for, qi_lst, forR, enumL, asT, setAll, qset, List.getElem?_cons_zero, List.getElem?_cons_succ, List.set_cons_succ, List.set_cons_zero, R.lift_some, R.bind_ok, ht, Bool.not_true, ql_lst, hl1, c8, Option.map_some, hnew, hp, Int.natCast_zero, hlook, a2, a4, ha, s2, s4]
    exact run_keep (d := d_leaves_of) (args := [.lst [p]]) (F := F) (K := K) rfl e (.inr (.inl (by show V.lo _ (.inst C σ.length) = false; rw [qfree_inst]; exact decide_eq_false (Nat.lt_irrefl _))))
  | succ n =>
    have hb : (n + 1 == 0) = false := rfl
    have hla : lastsV (n + 1) = [.int n] := rfl
    have a3 := q_attr (C := C) (k := 3) hC (lv0 σ ss bs (.lst (firstsV (n + 1))) .none [] D) rfl
    have s3 : ∀ ρ, setI (.ref (σ.length + 3)) (.int n) (.int 0) ⟨ρ, σ ++ Lv σ.length ss bs (.lst (firstsV (n + 1))) .none [] D⟩ = .ok .next ⟨ρ, σ ++ Lv σ.length ss bs (.lst (firstsV (n + 1))) .none [((n : Nat), .int 0)] D⟩ := fun ρ => by
      rw [q_setI (lv3 σ ss bs (.lst (firstsV (n + 1))) .none [] D) (by decide), lvs3]; rfl
    have e : evSs F K d_leaves_ofB ⟨[some (.lst [p]), none, none, none, none, none, none, none], σ⟩ = .ok (.ret (.inst C σ.length)) ⟨[some (.lst [p]), some (.inst C σ.length), some (.int 0), some p, some (.bool false), some (.lst (firstsV (n + 1))), some (.lst [.int n]), some (.int n)], σ ++ Lv σ.length ss bs (.lst (firstsV (n + 1))) .none [((n : Nat), .int 0)] D⟩ := by
      rw [hb, hla] at hlook
      simp only [d_leaves_ofB, d_leaves_ofL1, d_leaves_ofL0, qvE_none, qvE_bool, qvE_int, qvE_str, wk_loc, qvE_fz, qvE_neg, qvEs_nil, qvTs_nil, qvO_none, qvO_some, qvS_brk, qvSs_nil, wvE_bin, wvE_cmp, wvE_sub, wvE_slice, wvE_chain, wvE_band, wvE_bor, wvE_not, wvE_ite, wvE_tup, wvE_list, wvE_listM, wvE_isin, wvE_bi, wvE_me, wvE_call, wvE_callB, wvE_callZ, wvEs_cons, wvTs_cons, wvS_asg, wvS_expr, wvS_ret, wvS_ifte, wvSs_cons, wvIt_val, wvIt_range1, wvIt_range2, wvIt_zip, k_bin2, k_bin1, k_cmp2, k_cmp1, k_sub2, k_sub1, k_sl2, k_sl1, k_sl0, k_ch0, k_ch1, k_ch2t, k_ch2f, k_ch3, k_band2, k_band1t, k_band1f, k_bor2, k_bor1t, k_bor1f, k_not, k_truth, k_ite_t, k_ite_f, k_tup, k_list, k_listM, k_isin, k_bi, k_me2, k_me1, k_call, k_callR, k_frz, k_cons2, k_cons1, k_test_t, k_test_f, k_asg, k_expr, k_ret, k_if_t, k_if_f, k_seq, k_seqr, k_seqb, k_items, k_rng1, k_rng2, k_rngB, k_zip2, k_zipB, qc_lt, qc_le, qc_gt, qc_ge, qc_is, qc_isnot, qc_in, qc_notin, qc_eqi, qc_nei, qb_add, qb_sub, qb_fdiv, qb_mod, qb_pow, qt_bool, qs_tup, qs_lst, qs_str, qset, qn_none, qn_int, qn_str, qn_tup, qr_find, qr_index, qr_join, wvE_attr, wvE_lenSet, wvE_minD, wvE_min2, wvE_newI, wvE_dictM, qvE_glob, wvS_asgI, wvS_asgA, wvS_asgT, wvIt_enum, k_attr, k_lenSet, k_minD, k_min2, k_min1, k_setI1, k_setI2, k_setI3, k_setA1, k_setA2, k_enum, k_asT3, wvS_for1, wvS_forT, k_for, qi_lst, forR, enumL, asT, setAll, qset, List.getElem?_cons_zero, List.getElem?_cons_succ, List.set_cons_succ, List.set_cons_zero, R.lift_some, R.bind_ok, ht, Bool.not_true, ql_lst, hl1, c8, Option.map_some, hnew, hp, Int.natCast_zero, hlook, a2, a3, ha, s2, s3]
    exact run_keep (d := d_leaves_of) (args := [.lst [p]]) (F := F) (K := K) rfl e (.inr (.inl (by show V.lo _ (.inst C σ.length) = false; rw [qfree_inst]; exact decide_eq_false (Nat.lt_irrefl _))))

end Mine
namespace Mine
open PySem
theorem get_last {α : Type} (l : List α) (x : α) : (l ++ [x])[l.length]? = some x := by simp
theorem set_last {α : Type} (l : List α) (x y : α) : (l ++ [x]).set l.length y = l ++ [y] := by simp
theorem get_mid {α : Type} (l r : List α) (x : α) : (l ++ x :: r)[l.length]? = some x := by simp
theorem set_mid {α : Type} (l r : List α) (x y : α) : (l ++ x :: r).set l.length y = l ++ y :: r := by simp

theorem qi_tup (σ : List O) (x : List V) : itemsSem σ (.tup x) = some x := Eq.trans rfl rfl

noncomputable def hit (ts : List (List Nat)) (k c : Nat) : Bool := match ts[k]? with
  | some t => t.contains c
  | none => false
noncomputable def nextV (ts : List (List Nat)) (k c : Nat) : V := .tup (if hit ts k c then [.int k] else [])
/-- the store of a row of leaves -/
noncomputable def rowS (σ : List O) (ts : List (List Nat)) : List O := σ ++ Lv σ.length (ts.map .str) (rowB σ.length ts.length) (.lst (firstsV ts.length)) (emptyV ts.length) (endsV ts.length) (rowD ts.length)
theorem rowS_len (σ : List O) (ts : List (List Nat)) : (rowS σ ts).length = σ.length + 5 + ts.length := by unfold rowS; rw [lvlen, rowD_len]
theorem rowS_closed {σ : List O} (hσ : σ.all (O.lo σ.length) = true) (ts : List (List Nat)) : (rowS σ ts).all (O.lo (rowS σ ts).length) = true := by
  rw [rowS_len]
  have h1 : ∀ k : Nat, k < σ.length + 5 + ts.length → V.lo (σ.length + 5 + ts.length) (.ref k) = true := fun k hk => by rw [qfree_ref]; exact decide_eq_true hk
  have hf : V.lo (σ.length + 5 + ts.length) (.lst (firstsV ts.length)) = true := by
    unfold firstsV; rw [qfree_lst]; split
    · exact qfrees_nil
    · rw [qfrees_cons, qfree_int, qfrees_nil]; rfl
  have he : V.lo (σ.length + 5 + ts.length) (emptyV ts.length) = true := by
    unfold emptyV; split
    · exact qfree_int _
    · exact qfree_none
  unfold rowS Lv
  rw [List.all_append, List.all_cons, List.all_cons, List.all_cons, List.all_cons, List.all_cons]
  simp only [Bool.and_eq_true]
  refine ⟨List.all_eq_true.mpr fun o ho => O.lo_mono (by omega) (List.all_eq_true.mp hσ o ho), ?_, ?_, ?_, ?_, rfl, ?_⟩
  · exact los_of fun x hx => by
      simp only [List.mem_cons, List.not_mem_nil, or_false] at hx
      rcases hx with rfl | rfl | rfl | rfl | rfl
      · exact h1 _ (by omega)
      · exact h1 _ (by omega)
      · exact hf
      · exact h1 _ (by omega)
      · exact he
  · exact los_of fun x hx => by obtain ⟨s, _, rfl⟩ := List.mem_map.mp hx; exact qfree_str _
  · exact los_of fun x hx => by
      unfold rowB at hx
      obtain ⟨j, hj, rfl⟩ := List.mem_map.mp hx
      exact h1 _ (by have := List.mem_range.mp hj; omega)
  · exact los_of fun x hx => by
      unfold endsV at hx
      split at hx
      · simp at hx
      · simp only [List.map_cons, List.map_nil, List.mem_singleton] at hx; subst hx; exact qfree_int _
  · refine List.all_eq_true.mpr fun o ho => ?_
    unfold rowD at ho
    obtain ⟨j, _, rfl⟩ := List.mem_map.mp ho
    exact los_of fun x hx => by
      split at hx
      · simp only [List.map_cons, List.map_nil, List.mem_singleton] at hx; subst hx; exact qfree_bool _
      · simp at hx
theorem rowS_app (σ : List O) (ts : List (List Nat)) (x : O) : rowS σ ts ++ [x] = σ ++ Lv σ.length (ts.map .str) (rowB σ.length ts.length) (.lst (firstsV ts.length)) (emptyV ts.length) (endsV ts.length) (rowD ts.length ++ [x]) := lvapp ..
/-- the dict of what was found lies last -/
theorem found_get (σ : List O) (ts : List (List Nat)) (D : List O) (hD : D.length = ts.length) (x : O) (a b : List V) (f e : V) (es : List (Int × V)) : (σ ++ Lv σ.length a b f e es (D ++ [x]))[σ.length + 5 + ts.length]? = some x := by rw [lvD, ← hD, get_last]
theorem found_set (σ : List O) (ts : List (List Nat)) (D : List O) (hD : D.length = ts.length) (x y : O) (a b : List V) (f e : V) (es : List (Int × V)) : (σ ++ Lv σ.length a b f e es (D ++ [x])).set (σ.length + 5 + ts.length) y = σ ++ Lv σ.length a b f e es (D ++ [y]) := by rw [lvsD, ← hD, set_last]

/-- one turn: is the sign one of leaf k's? -/
theorem step_turn (F : Fn) (K C : Nat) (hC : clsF F = some (C : Int)) (σ : List O) (ts : List (List Nat)) (D : List O) (hD : D.length = ts.length) (f e : V) (es : List (Int × V)) (b : List V) (k c : Nat) (t : List Nat) (ht : ts[k]? = some t) (h60 : ts.length ≤ 60) (x1 x4 x5 : Option V) :
    evSs F K d_stepL1 (setV ⟨[some (.inst C σ.length), x1, some (.str [c]), some (.ref (σ.length + 5 + ts.length)), x4, x5], σ ++ Lv σ.length (ts.map .str) b f e es (D ++ [.idict []])⟩ 4 (.int k)) =
      .ok .next ⟨[some (.inst C σ.length), x1, some (.str [c]), some (.ref (σ.length + 5 + ts.length)), some (.int k), x5], σ ++ Lv σ.length (ts.map .str) b f e es (D ++ [.idict (if t.contains c then [((k : Nat), .bool true)] else [])])⟩ := by
  have hk : k < ts.length := (List.getElem?_eq_some_iff.mp ht).1
  have a0 := q_attr (C := C) (k := 0) hC (lv0 σ (ts.map .str) b f e es (D ++ [.idict []])) rfl
  have s0 : subSem (σ ++ Lv σ.length (ts.map .str) b f e es (D ++ [.idict []])) (.ref (σ.length + 1)) (.int k) = some (.str t) := by
    rw [q_subR (lv1 ..), idx_nat _ (by omega), List.getElem?_map, ht]; rfl
  have sI : ∀ ρ, setI (.ref (σ.length + 5 + ts.length)) (.int k) (.bool true) ⟨ρ, σ ++ Lv σ.length (ts.map .str) b f e es (D ++ [.idict []])⟩ = .ok .next ⟨ρ, σ ++ Lv σ.length (ts.map .str) b f e es (D ++ [.idict [((k : Nat), .bool true)]])⟩ := fun ρ => by
    rw [q_setI (found_get σ ts D hD _ _ _ _ _ _) (by decide), found_set σ ts D hD]; rfl
  cases h : t.contains c
  · simp only [d_stepL1, qvE_none, qvE_bool, qvE_int, qvE_str, wk_loc, qvE_fz, qvE_neg, qvEs_nil, qvTs_nil, qvO_none, qvO_some, qvS_brk, qvSs_nil, wvE_bin, wvE_cmp, wvE_sub, wvE_slice, wvE_chain, wvE_band, wvE_bor, wvE_not, wvE_ite, wvE_tup, wvE_list, wvE_listM, wvE_isin, wvE_bi, wvE_me, wvE_call, wvE_callB, wvE_callZ, wvEs_cons, wvTs_cons, wvS_asg, wvS_expr, wvS_ret, wvS_ifte, wvSs_cons, wvIt_val, wvIt_range1, wvIt_range2, wvIt_zip, k_bin2, k_bin1, k_cmp2, k_cmp1, k_sub2, k_sub1, k_sl2, k_sl1, k_sl0, k_ch0, k_ch1, k_ch2t, k_ch2f, k_ch3, k_band2, k_band1t, k_band1f, k_bor2, k_bor1t, k_bor1f, k_not, k_truth, k_ite_t, k_ite_f, k_tup, k_list, k_listM, k_isin, k_bi, k_me2, k_me1, k_call, k_callR, k_frz, k_cons2, k_cons1, k_test_t, k_test_f, k_asg, k_expr, k_ret, k_if_t, k_if_f, k_seq, k_seqr, k_seqb, k_items, k_rng1, k_rng2, k_rngB, k_zip2, k_zipB, qc_lt, qc_le, qc_gt, qc_ge, qc_is, qc_isnot, qc_in, qc_notin, qc_eqi, qc_nei, qb_add, qb_sub, qb_fdiv, qb_mod, qb_pow, qt_bool, qs_tup, qs_lst, qs_str, qset, qn_none, qn_int, qn_str, qn_tup, qr_find, qr_index, qr_join, wvE_attr, wvE_lenSet, wvE_minD, wvE_min2, wvE_newI, wvE_dictM, qvE_glob, wvS_asgI, wvS_asgA, wvS_asgT, wvIt_enum, k_attr, k_lenSet, k_minD, k_min2, k_min1, k_setI1, k_setI2, k_setI3, k_setA1, k_setA2, k_enum, k_asT3, List.getElem?_cons_zero, List.getElem?_cons_succ, List.set_cons_succ, List.set_cons_zero, R.lift_some, R.bind_ok, a0, s0, h, Option.map_some, Bool.false_eq_true, if_false]
  · simp only [d_stepL1, qvE_none, qvE_bool, qvE_int, qvE_str, wk_loc, qvE_fz, qvE_neg, qvEs_nil, qvTs_nil, qvO_none, qvO_some, qvS_brk, qvSs_nil, wvE_bin, wvE_cmp, wvE_sub, wvE_slice, wvE_chain, wvE_band, wvE_bor, wvE_not, wvE_ite, wvE_tup, wvE_list, wvE_listM, wvE_isin, wvE_bi, wvE_me, wvE_call, wvE_callB, wvE_callZ, wvEs_cons, wvTs_cons, wvS_asg, wvS_expr, wvS_ret, wvS_ifte, wvSs_cons, wvIt_val, wvIt_range1, wvIt_range2, wvIt_zip, k_bin2, k_bin1, k_cmp2, k_cmp1, k_sub2, k_sub1, k_sl2, k_sl1, k_sl0, k_ch0, k_ch1, k_ch2t, k_ch2f, k_ch3, k_band2, k_band1t, k_band1f, k_bor2, k_bor1t, k_bor1f, k_not, k_truth, k_ite_t, k_ite_f, k_tup, k_list, k_listM, k_isin, k_bi, k_me2, k_me1, k_call, k_callR, k_frz, k_cons2, k_cons1, k_test_t, k_test_f, k_asg, k_expr, k_ret, k_if_t, k_if_f, k_seq, k_seqr, k_seqb, k_items, k_rng1, k_rng2, k_rngB, k_zip2, k_zipB, qc_lt, qc_le, qc_gt, qc_ge, qc_is, qc_isnot, qc_in, qc_notin, qc_eqi, qc_nei, qb_add, qb_sub, qb_fdiv, qb_mod, qb_pow, qt_bool, qs_tup, qs_lst, qs_str, qset, qn_none, qn_int, qn_str, qn_tup, qr_find, qr_index, qr_join, wvE_attr, wvE_lenSet, wvE_minD, wvE_min2, wvE_newI, wvE_dictM, qvE_glob, wvS_asgI, wvS_asgA, wvS_asgT, wvIt_enum, k_attr, k_lenSet, k_minD, k_min2, k_min1, k_setI1, k_setI2, k_setI3, k_setA1, k_setA2, k_enum, k_asT3, List.getElem?_cons_zero, List.getElem?_cons_succ, List.set_cons_succ, List.set_cons_zero, R.lift_some, R.bind_ok, a0, s0, sI, h, Option.map_some, if_true]
theorem L01 : d_stepL0 = d_stepL1 := rfl
theorem ts_one (σ : List O) (n k : Nat) (b : Bool) (h : σ[n]? = some (.idict (if b then [((k : Nat), .bool true)] else []))) : biSem σ .sorted (.ref n) = some (.lst (if b then [.int k] else [])) := by
  rw [q_sorted h (by cases b <;> simp)]
  cases b <;> rfl
theorem nextV_lo (n : Nat) (ts : List (List Nat)) (k c : Nat) : (nextV ts k c).lo n = true := by
  unfold nextV; rw [qfree_tup]; split
  · rw [qfrees_cons, qfree_int, qfrees_nil]; rfl
  · exact qfrees_nil
theorem step_none (F : Fn) (K C : Nat) (hC : clsF F = some (C : Int)) (σ : List O) (hσ : σ.all (O.lo σ.length) = true) (ts : List (List Nat)) (h60 : ts.length ≤ 60) (c : Nat) :
    runDef F K d_step [.inst C σ.length, .none, .str [c]] (rowS σ ts) = .ok (nextV ts 0 c) ⟨[], rowS σ ts⟩ := by
  refine run_ok rfl ?_ (nextV_lo _ _ _ _) (rowS_closed hσ ts)
  show Ret (evSs F K d_stepB ⟨[some (.inst C σ.length), some .none, some (.str [c]), none, none, none], rowS σ ts⟩) _ _
  have a2 := q_attr (C := C) (k := 2) hC (lv0 σ (ts.map .str) (rowB σ.length ts.length) (.lst (firstsV ts.length)) (emptyV ts.length) (endsV ts.length) (rowD ts.length ++ [.idict []])) rfl
  have t1 := ts_one _ _ 0 (hit ts 0 c) (found_get σ ts (rowD ts.length) (rowD_len _) (.idict (if hit ts 0 c then [((0 : Nat), .bool true)] else [])) (ts.map V.str) (rowB σ.length ts.length) (.lst (firstsV ts.length)) (emptyV ts.length) (endsV ts.length))
  obtain ⟨x4, lp⟩ : ∃ x4, forR (fun x st => evSs F K d_stepL0 (setV st 4 x)) (firstsV ts.length) ⟨[some (.inst C σ.length), some .none, some (.str [c]), some (.ref (σ.length + 5 + ts.length)), none, none], σ ++ Lv σ.length (ts.map .str) (rowB σ.length ts.length) (.lst (firstsV ts.length)) (emptyV ts.length) (endsV ts.length) (rowD ts.length ++ [.idict []])⟩ =
      .ok .next ⟨[some (.inst C σ.length), some .none, some (.str [c]), some (.ref (σ.length + 5 + ts.length)), x4, none], σ ++ Lv σ.length (ts.map .str) (rowB σ.length ts.length) (.lst (firstsV ts.length)) (emptyV ts.length) (endsV ts.length) (rowD ts.length ++ [.idict (if hit ts 0 c then [((0 : Nat), .bool true)] else [])])⟩ := by
    cases ts with
    | nil => exact ⟨none, rfl⟩
    | cons t r =>
      refine ⟨some (.int (0 : Nat)), ?_⟩
      have tn := step_turn F K C hC σ (t :: r) (rowD (t :: r).length) (rowD_len _) (.lst (firstsV (t :: r).length)) (emptyV (t :: r).length) (endsV (t :: r).length) (rowB σ.length (t :: r).length) 0 c t rfl h60 (some .none) none none
      have hf : firstsV (t :: r).length = [.int (0 : Nat)] := rfl
      have hh : hit (t :: r) 0 c = t.contains c := rfl
      rw [hh, hf, forR, L01]
      rw [hf] at tn
      rw [tn, R.bind_ok]
      simp only [forR]
  refine Ret.mk (ρ := [some (.inst C σ.length), some .none, some (.str [c]), some (.ref (σ.length + 5 + ts.length)), x4, none]) (τ := [.idict (if hit ts 0 c then [((0 : Nat), .bool true)] else [])]) ?_
  rw [rowS_app]
  simp only [d_stepB, qvE_none, qvE_bool, qvE_int, qvE_str, wk_loc, qvE_fz, qvE_neg, qvEs_nil, qvTs_nil, qvO_none, qvO_some, qvS_brk, qvSs_nil, wvE_bin, wvE_cmp, wvE_sub, wvE_slice, wvE_chain, wvE_band, wvE_bor, wvE_not, wvE_ite, wvE_tup, wvE_list, wvE_listM, wvE_isin, wvE_bi, wvE_me, wvE_call, wvE_callB, wvE_callZ, wvEs_cons, wvTs_cons, wvS_asg, wvS_expr, wvS_ret, wvS_ifte, wvSs_cons, wvIt_val, wvIt_range1, wvIt_range2, wvIt_zip, k_bin2, k_bin1, k_cmp2, k_cmp1, k_sub2, k_sub1, k_sl2, k_sl1, k_sl0, k_ch0, k_ch1, k_ch2t, k_ch2f, k_ch3, k_band2, k_band1t, k_band1f, k_bor2, k_bor1t, k_bor1f, k_not, k_truth, k_ite_t, k_ite_f, k_tup, k_list, k_listM, k_isin, k_bi, k_me2, k_me1, k_call, k_callR, k_frz, k_cons2, k_cons1, k_test_t, k_test_f, k_asg, k_expr, k_ret, k_if_t, k_if_f, k_seq, k_seqr, k_seqb, k_items, k_rng1, k_rng2, k_rngB, k_zip2, k_zipB, qc_lt, qc_le, qc_gt, qc_ge, qc_is, qc_isnot, qc_in, qc_notin, qc_eqi, qc_nei, qb_add, qb_sub, qb_fdiv, qb_mod, qb_pow, qt_bool, qs_tup, qs_lst, qs_str, qset, qn_none, qn_int, qn_str, qn_tup, qr_find, qr_index, qr_join, wvE_attr, wvE_lenSet, wvE_minD, wvE_min2, wvE_newI, wvE_dictM, qvE_glob, wvS_asgI, wvS_asgA, wvS_asgT, wvIt_enum, k_attr, k_lenSet, k_minD, k_min2, k_min1, k_setI1, k_setI2, k_setI3, k_setA1, k_setA2, k_enum, k_asT3, wvS_for1, k_for, qi_lst, List.getElem?_cons_zero, List.getElem?_cons_succ, List.set_cons_succ, List.set_cons_zero, R.lift_some, R.bind_ok, Option.map_some, rowS_len, rowS_app, a2, lp, t1, q_tuple]
  rfl
theorem set_app {D : List O} {j : Nat} (hj : j < D.length) (x p : O) : (D ++ [x]).set j p = D.set j p ++ [x] := List.set_append_left _ _ hj
theorem set_back {D : List O} {j : Nat} {o p : O} (h : D[j]? = some o) : (D.set j p).set j o = D := by
  rw [List.set_set]
  apply List.ext_getElem?
  intro i
  rw [List.getElem?_set]
  by_cases e : j = i
  · subst e; rw [if_pos rfl, if_pos (List.getElem?_eq_some_iff.mp h).1, h]
  · rw [if_neg e]
theorem rowD_get {n j : Nat} (h : j < n) : (rowD n)[j]? = some (lastD n j) := by
  simp only [rowD, List.getElem?_map]; rw [List.getElem?_range h]; rfl
theorem step_some (F : Fn) (K C : Nat) (hC : clsF F = some (C : Int)) (σ : List O) (hσ : σ.all (O.lo σ.length) = true) (ts : List (List Nat)) (h60 : ts.length ≤ 60) (c j : Nat) (hj : j < ts.length) :
    runDef F K d_step [.inst C σ.length, .tup [.int j], .str [c]] (rowS σ ts) = .ok (nextV ts (j + 1) c) ⟨[], rowS σ ts⟩ := by
  refine run_ok rfl ?_ (nextV_lo _ _ _ _) (rowS_closed hσ ts)
  show Ret (evSs F K d_stepB ⟨[some (.inst C σ.length), some (.tup [.int j]), some (.str [c]), none, none, none], rowS σ ts⟩) _ _
  have a1 := q_attr (C := C) (k := 1) hC (lv0 σ (ts.map .str) (rowB σ.length ts.length) (.lst (firstsV ts.length)) (emptyV ts.length) (endsV ts.length) (rowD ts.length ++ [.idict []])) rfl
  have s1 : subSem (σ ++ Lv σ.length (ts.map .str) (rowB σ.length ts.length) (.lst (firstsV ts.length)) (emptyV ts.length) (endsV ts.length) (rowD ts.length ++ [.idict []])) (.ref (σ.length + 2)) (.int j) = some (.ref (σ.length + 5 + j)) := by
    rw [q_subR (lv2 ..), idx_nat _ (by omega)]
    simp only [rowB, List.getElem?_map]; rw [List.getElem?_range hj]; rfl
  have t1 := ts_one _ _ (j + 1) (hit ts (j + 1) c) (found_get σ ts (rowD ts.length) (rowD_len _) (.idict (if hit ts (j + 1) c then [((j + 1 : Nat), .bool true)] else [])) (ts.map V.str) (rowB σ.length ts.length) (.lst (firstsV ts.length)) (emptyV ts.length) (endsV ts.length))
  have hjD : j < (rowD ts.length).length := by rw [rowD_len]; exact hj
  have gj : (σ ++ Lv σ.length (ts.map .str) (rowB σ.length ts.length) (.lst (firstsV ts.length)) (emptyV ts.length) (endsV ts.length) (rowD ts.length ++ [.idict []]))[σ.length + 5 + j]? = some (.idict (if j + 1 < ts.length then [((j + 1 : Nat), .bool true)] else [])) := by
    rw [lvD, List.getElem?_append_left hjD, rowD_get hj]; rfl
  obtain ⟨x4, lp⟩ : ∃ x4, forR (fun x st => evSs F K d_stepL1 (setV st 4 x)) ((if j + 1 < ts.length then [((j + 1 : Nat), V.bool true)] else [] : List (Int × V)).map fun p => .int p.1) ⟨[some (.inst C σ.length), some (.tup [.int j]), some (.str [c]), some (.ref (σ.length + 5 + ts.length)), none, some (.int j)], (σ ++ Lv σ.length (ts.map .str) (rowB σ.length ts.length) (.lst (firstsV ts.length)) (emptyV ts.length) (endsV ts.length) (rowD ts.length ++ [.idict []])).set (σ.length + 5 + j) .priv⟩ =
      .ok .next ⟨[some (.inst C σ.length), some (.tup [.int j]), some (.str [c]), some (.ref (σ.length + 5 + ts.length)), x4, some (.int j)], σ ++ Lv σ.length (ts.map .str) (rowB σ.length ts.length) (.lst (firstsV ts.length)) (emptyV ts.length) (endsV ts.length) ((rowD ts.length).set j .priv ++ [.idict (if hit ts (j + 1) c then [((j + 1 : Nat), .bool true)] else [])])⟩ := by
    rw [lvsD, set_app hjD]
    by_cases h1 : j + 1 < ts.length
    · refine ⟨some (.int ((j + 1 : Nat) : Int)), ?_⟩
      obtain ⟨t, ht⟩ : ∃ t, ts[j + 1]? = some t := ⟨ts[j + 1], by simp [h1]⟩
      have tn := step_turn F K C hC σ ts ((rowD ts.length).set j .priv) (by rw [List.length_set, rowD_len]) (.lst (firstsV ts.length)) (emptyV ts.length) (endsV ts.length) (rowB σ.length ts.length) (j + 1) c t ht h60 (some (.tup [.int j])) none (some (.int j))
      have hh : hit ts (j + 1) c = t.contains c := by unfold hit; rw [ht]
      rw [if_pos h1, hh, List.map_cons, List.map_nil, forR, tn, R.bind_ok]
      simp only [forR]
    · refine ⟨none, ?_⟩
      have hh : hit ts (j + 1) c = false := by unfold hit; rw [List.getElem?_eq_none (by omega)]
      rw [if_neg h1, hh, List.map_nil, forR]
      rfl
  have fd := q_forD gj lp
  rw [lvsD, set_app (by rw [List.length_set]; exact hjD), set_back (by rw [rowD_get hj]; rfl)] at fd
  refine Ret.mk (ρ := [some (.inst C σ.length), some (.tup [.int j]), some (.str [c]), some (.ref (σ.length + 5 + ts.length)), x4, some (.int j)]) (τ := [.idict (if hit ts (j + 1) c then [((j + 1 : Nat), .bool true)] else [])]) ?_
  rw [rowS_app]
  simp only [d_stepB, d_stepL2, qvE_none, qvE_bool, qvE_int, qvE_str, wk_loc, qvE_fz, qvE_neg, qvEs_nil, qvTs_nil, qvO_none, qvO_some, qvS_brk, qvSs_nil, wvE_bin, wvE_cmp, wvE_sub, wvE_slice, wvE_chain, wvE_band, wvE_bor, wvE_not, wvE_ite, wvE_tup, wvE_list, wvE_listM, wvE_isin, wvE_bi, wvE_me, wvE_call, wvE_callB, wvE_callZ, wvEs_cons, wvTs_cons, wvS_asg, wvS_expr, wvS_ret, wvS_ifte, wvSs_cons, wvIt_val, wvIt_range1, wvIt_range2, wvIt_zip, k_bin2, k_bin1, k_cmp2, k_cmp1, k_sub2, k_sub1, k_sl2, k_sl1, k_sl0, k_ch0, k_ch1, k_ch2t, k_ch2f, k_ch3, k_band2, k_band1t, k_band1f, k_bor2, k_bor1t, k_bor1f, k_not, k_truth, k_ite_t, k_ite_f, k_tup, k_list, k_listM, k_isin, k_bi, k_me2, k_me1, k_call, k_callR, k_frz, k_cons2, k_cons1, k_test_t, k_test_f, k_asg, k_expr, k_ret, k_if_t, k_if_f, k_seq, k_seqr, k_seqb, k_items, k_rng1, k_rng2, k_rngB, k_zip2, k_zipB, qc_lt, qc_le, qc_gt, qc_ge, qc_is, qc_isnot, qc_in, qc_notin, qc_eqi, qc_nei, qb_add, qb_sub, qb_fdiv, qb_mod, qb_pow, qt_bool, qs_tup, qs_lst, qs_str, qset, qn_none, qn_int, qn_str, qn_tup, qr_find, qr_index, qr_join, wvE_attr, wvE_lenSet, wvE_minD, wvE_min2, wvE_newI, wvE_dictM, qvE_glob, wvS_asgI, wvS_asgA, wvS_asgT, wvIt_enum, k_attr, k_lenSet, k_minD, k_min2, k_min1, k_setI1, k_setI2, k_setI3, k_setA1, k_setA2, k_enum, k_asT3, wvS_for1, wvS_forD, k_for, k_forD, forR, qi_tup, List.getElem?_cons_zero, List.getElem?_cons_succ, List.set_cons_succ, List.set_cons_zero, R.lift_some, R.bind_ok, Option.map_some, rowS_len, rowS_app, a1, s1, fd, t1, q_tuple]
  rfl

end Mine
namespace Mine
open PySem
theorem told_none (F : Fn) (K C : Nat) (hC : clsF F = some (C : Int)) (σ : List O) (hσ : σ.all (O.lo σ.length) = true) (ts : List (List Nat)) :
    runDef F K d_told_at [.inst C σ.length, .none] (rowS σ ts) = .ok (emptyV ts.length) ⟨[], rowS σ ts⟩ := by
  refine run_ok rfl ?_ (by unfold emptyV; split; exact qfree_int _; exact qfree_none) (rowS_closed hσ ts)
  show Ret (evSs F K d_told_atB ⟨[some (.inst C σ.length), some .none, none], rowS σ ts⟩) _ _
  have a4 : attrSem (clsF F) (rowS σ ts) (.inst C σ.length) 4 = some (emptyV ts.length) := q_attr hC (lv0 σ (ts.map .str) (rowB σ.length ts.length) (.lst (firstsV ts.length)) (emptyV ts.length) (endsV ts.length) (rowD ts.length)) rfl
  refine Ret.mk0 (ρ := [some (.inst C σ.length), some .none, none]) ?_
  simp only [d_told_atB, qvE_none, qvE_bool, qvE_int, qvE_str, wk_loc, qvE_fz, qvE_neg, qvEs_nil, qvTs_nil, qvO_none, qvO_some, qvS_brk, qvSs_nil, wvE_bin, wvE_cmp, wvE_sub, wvE_slice, wvE_chain, wvE_band, wvE_bor, wvE_not, wvE_ite, wvE_tup, wvE_list, wvE_listM, wvE_isin, wvE_bi, wvE_me, wvE_call, wvE_callB, wvE_callZ, wvEs_cons, wvTs_cons, wvS_asg, wvS_expr, wvS_ret, wvS_ifte, wvSs_cons, wvIt_val, wvIt_range1, wvIt_range2, wvIt_zip, k_bin2, k_bin1, k_cmp2, k_cmp1, k_sub2, k_sub1, k_sl2, k_sl1, k_sl0, k_ch0, k_ch1, k_ch2t, k_ch2f, k_ch3, k_band2, k_band1t, k_band1f, k_bor2, k_bor1t, k_bor1f, k_not, k_truth, k_ite_t, k_ite_f, k_tup, k_list, k_listM, k_isin, k_bi, k_me2, k_me1, k_call, k_callR, k_frz, k_cons2, k_cons1, k_test_t, k_test_f, k_asg, k_expr, k_ret, k_if_t, k_if_f, k_seq, k_seqr, k_seqb, k_items, k_rng1, k_rng2, k_rngB, k_zip2, k_zipB, qc_lt, qc_le, qc_gt, qc_ge, qc_is, qc_isnot, qc_in, qc_notin, qc_eqi, qc_nei, qb_add, qb_sub, qb_fdiv, qb_mod, qb_pow, qt_bool, qs_tup, qs_lst, qs_str, qset, qn_none, qn_int, qn_str, qn_tup, qr_find, qr_index, qr_join, wvE_attr, wvE_lenSet, wvE_minD, wvE_min2, wvE_newI, wvE_dictM, qvE_glob, wvS_asgI, wvS_asgA, wvS_asgT, wvIt_enum, k_attr, k_lenSet, k_minD, k_min2, k_min1, k_setI1, k_setI2, k_setI3, k_setA1, k_setA2, k_enum, k_asT3, List.getElem?_cons_zero, List.getElem?_cons_succ, R.lift_some, R.bind_ok, Option.map_some, a4]
noncomputable def toldV (n j : Nat) : V := if j + 1 = n then .int 0 else .none
theorem told_some (F : Fn) (K C : Nat) (hC : clsF F = some (C : Int)) (σ : List O) (hσ : σ.all (O.lo σ.length) = true) (ts : List (List Nat)) (j : Nat) (hj : j < ts.length) :
    runDef F K d_told_at [.inst C σ.length, .tup [.int j]] (rowS σ ts) = .ok (toldV ts.length j) ⟨[], rowS σ ts⟩ := by
  refine run_ok rfl ?_ (by unfold toldV; split; exact qfree_int _; exact qfree_none) (rowS_closed hσ ts)
  show Ret (evSs F K d_told_atB ⟨[some (.inst C σ.length), some (.tup [.int j]), none], rowS σ ts⟩) _ _
  have hE : endsV ts.length = [(((ts.length - 1 : Nat) : Int), V.int 0)] := by unfold endsV; rw [if_neg (by omega)]
  have g3 : ∀ x : O, (rowS σ ts ++ [x])[σ.length + 3]? = some (.idict [(((ts.length - 1 : Nat) : Int), V.int 0)]) := fun x => by rw [rowS_app, lv3, hE]
  have a3 : ∀ x : O, attrSem (clsF F) (rowS σ ts ++ [x]) (.inst C σ.length) 3 = some (.ref (σ.length + 3)) := fun x => by rw [rowS_app]; exact q_attr hC (lv0 ..) rfl
  have gl : ∀ x : O, (rowS σ ts ++ [x])[(rowS σ ts).length]? = some x := fun x => get_last _ _
  have sl : ∀ x y : O, (rowS σ ts ++ [x]).set (rowS σ ts).length y = rowS σ ts ++ [y] := fun x y => set_last _ _ _
  have i3 : ∀ x : O, cmpSem (rowS σ ts ++ [x]) .isin (.int j) (.ref (σ.length + 3)) = some (decide (((ts.length - 1 : Nat) : Int) = (j : Int))) := fun x => by rw [q_inD (g3 x)]; simp
  have d3 : ∀ x : O, ((ts.length - 1 : Nat) : Int) = (j : Int) → subSem (rowS σ ts ++ [x]) (.ref (σ.length + 3)) (.int j) = some (.int 0) := fun x h => by rw [q_subD (g3 x), ← h]; simp [dGet]
  have hsl : sizeLine = 16777216 := by decide
  by_cases h : j + 1 = ts.length
  · have h' : ((ts.length - 1 : Nat) : Int) = (j : Int) := by omega
    have ht : toldV ts.length j = .int 0 := if_pos h
    rw [ht]
    refine Ret.mk (ρ := [some (.inst C σ.length), some (.tup [.int j]), none]) (τ := [.dead]) ?_
    have hm : minDSem (.lst [.int 0]) = some (.int 0) := rfl
    simp only [d_told_atB, d_told_atC2, qvE_none, qvE_bool, qvE_int, qvE_str, wk_loc, qvE_fz, qvE_neg, qvEs_nil, qvTs_nil, qvO_none, qvO_some, qvS_brk, qvSs_nil, wvE_bin, wvE_cmp, wvE_sub, wvE_slice, wvE_chain, wvE_band, wvE_bor, wvE_not, wvE_ite, wvE_tup, wvE_list, wvE_listM, wvE_isin, wvE_bi, wvE_me, wvE_call, wvE_callB, wvE_callZ, wvEs_cons, wvTs_cons, wvS_asg, wvS_expr, wvS_ret, wvS_ifte, wvSs_cons, wvIt_val, wvIt_range1, wvIt_range2, wvIt_zip, k_bin2, k_bin1, k_cmp2, k_cmp1, k_sub2, k_sub1, k_sl2, k_sl1, k_sl0, k_ch0, k_ch1, k_ch2t, k_ch2f, k_ch3, k_band2, k_band1t, k_band1f, k_bor2, k_bor1t, k_bor1f, k_not, k_truth, k_ite_t, k_ite_f, k_tup, k_list, k_listM, k_isin, k_bi, k_me2, k_me1, k_call, k_callR, k_frz, k_cons2, k_cons1, k_test_t, k_test_f, k_asg, k_expr, k_ret, k_if_t, k_if_f, k_seq, k_seqr, k_seqb, k_items, k_rng1, k_rng2, k_rngB, k_zip2, k_zipB, qc_lt, qc_le, qc_gt, qc_ge, qc_is, qc_isnot, qc_in, qc_notin, qc_eqi, qc_nei, qb_add, qb_sub, qb_fdiv, qb_mod, qb_pow, qt_bool, qs_tup, qs_lst, qs_str, qset, qn_none, qn_int, qn_str, qn_tup, qr_find, qr_index, qr_join, wvE_attr, wvE_lenSet, wvE_minD, wvE_min2, wvE_newI, wvE_dictM, qvE_glob, wvS_asgI, wvS_asgA, wvS_asgT, wvIt_enum, k_attr, k_lenSet, k_minD, k_min2, k_min1, k_setI1, k_setI2, k_setI3, k_setA1, k_setA2, k_enum, k_asT3, qvE_comp, qi_tup, compR, qset, List.getElem?_cons_zero, List.getElem?_cons_succ, List.set_cons_succ, List.set_cons_zero, R.lift_some, R.bind_ok, Option.map_some, a3, i3, decide_eq_true h', d3 _ h', gl, sl, if_true, List.length_nil, hsl, List.nil_append, hm, Nat.reduceLT, Nat.zero_lt_succ]
  · have h' : ¬ ((ts.length - 1 : Nat) : Int) = (j : Int) := by omega
    have ht : toldV ts.length j = .none := if_neg h
    rw [ht]
    refine Ret.mk (ρ := [some (.inst C σ.length), some (.tup [.int j]), none]) (τ := [.dead]) ?_
    have hm : minDSem (.lst []) = some .none := rfl
    simp only [d_told_atB, d_told_atC2, qvE_none, qvE_bool, qvE_int, qvE_str, wk_loc, qvE_fz, qvE_neg, qvEs_nil, qvTs_nil, qvO_none, qvO_some, qvS_brk, qvSs_nil, wvE_bin, wvE_cmp, wvE_sub, wvE_slice, wvE_chain, wvE_band, wvE_bor, wvE_not, wvE_ite, wvE_tup, wvE_list, wvE_listM, wvE_isin, wvE_bi, wvE_me, wvE_call, wvE_callB, wvE_callZ, wvEs_cons, wvTs_cons, wvS_asg, wvS_expr, wvS_ret, wvS_ifte, wvSs_cons, wvIt_val, wvIt_range1, wvIt_range2, wvIt_zip, k_bin2, k_bin1, k_cmp2, k_cmp1, k_sub2, k_sub1, k_sl2, k_sl1, k_sl0, k_ch0, k_ch1, k_ch2t, k_ch2f, k_ch3, k_band2, k_band1t, k_band1f, k_bor2, k_bor1t, k_bor1f, k_not, k_truth, k_ite_t, k_ite_f, k_tup, k_list, k_listM, k_isin, k_bi, k_me2, k_me1, k_call, k_callR, k_frz, k_cons2, k_cons1, k_test_t, k_test_f, k_asg, k_expr, k_ret, k_if_t, k_if_f, k_seq, k_seqr, k_seqb, k_items, k_rng1, k_rng2, k_rngB, k_zip2, k_zipB, qc_lt, qc_le, qc_gt, qc_ge, qc_is, qc_isnot, qc_in, qc_notin, qc_eqi, qc_nei, qb_add, qb_sub, qb_fdiv, qb_mod, qb_pow, qt_bool, qs_tup, qs_lst, qs_str, qset, qn_none, qn_int, qn_str, qn_tup, qr_find, qr_index, qr_join, wvE_attr, wvE_lenSet, wvE_minD, wvE_min2, wvE_newI, wvE_dictM, qvE_glob, wvS_asgI, wvS_asgA, wvS_asgT, wvIt_enum, k_attr, k_lenSet, k_minD, k_min2, k_min1, k_setI1, k_setI2, k_setI3, k_setA1, k_setA2, k_enum, k_asT3, qvE_comp, qi_tup, compR, qset, List.getElem?_cons_zero, List.getElem?_cons_succ, List.set_cons_succ, List.set_cons_zero, R.lift_some, R.bind_ok, Option.map_some, a3, i3, decide_eq_false h', gl, sl, Bool.false_eq_true, if_false, hm]
noncomputable def someV (i : Nat) : V := if i = 0 then .none else .tup [.int (i - 1 : Nat)]
noncomputable def allHit (ts : List (List Nat)) : Nat → List Nat → Bool
  | _, [] => true
  | k, c :: cs => hit ts k c && allHit ts (k + 1) cs
theorem allHit_len {ts : List (List Nat)} : ∀ {cs : List Nat} {k : Nat}, k ≤ ts.length → allHit ts k cs = true → k + cs.length ≤ ts.length
  | [], k, hk, _ => hk
  | c :: cs, k, hk, h => by
    rw [allHit, Bool.and_eq_true] at h
    have : k < ts.length := by
      have h1 := h.1
      unfold hit at h1
      cases e : ts[k]? with
      | none => rw [e] at h1; cases h1
      | some t => exact (List.getElem?_eq_some_iff.mp e).1
    have := allHit_len (cs := cs) (k := k + 1) this h.2
    rw [List.length_cons]; omega
theorem flat_unit : (V.tup []).flat64 = true := by unfold V.flat64; rw [qdep_tup, qdeps_nil]; rfl
theorem eq_unit0 (σ : List O) : cmpSem σ .eq (.tup []) (.tup []) = some true := by rw [qc_eq _ _ _ flat_unit flat_unit]; rfl
theorem eq_unit1 (σ : List O) (k : Int) : cmpSem σ .eq (.tup [.int k]) (.tup []) = some false := by
  have h1 : (V.tup [.int k]).flat64 = true := by unfold V.flat64; rw [qdep_tup, qdeps_cons, qdep_int, qdeps_nil]; rfl
  rw [qc_eq _ _ _ h1 flat_unit]; rfl
theorem told_loop (F : Fn) (K C : Nat) (σ S : List O) (ts : List (List Nat)) (p tx : V)
    (h0 : ∀ c, F "step" [.inst C σ.length, .none, .str [c]] S = .ok (nextV ts 0 c) ⟨[], S⟩) (h1 : ∀ c j, j < ts.length → F "step" [.inst C σ.length, .tup [.int j], .str [c]] S = .ok (nextV ts (j + 1) c) ⟨[], S⟩) :
    ∀ (cs : List Nat) (i : Nat) (x4 : Option V), i ≤ ts.length →
      (allHit ts i cs = false ∧ ∃ ρ, forR (fun x st => evSs F K d_told_ofL0 (setV st 4 x)) (cs.map fun c => .str [c]) ⟨[some p, some tx, some (.inst C σ.length), some (someV i), x4], S⟩ = .ok (.ret .none) ⟨ρ, S⟩) ∨
      (allHit ts i cs = true ∧ ∃ x4', forR (fun x st => evSs F K d_told_ofL0 (setV st 4 x)) (cs.map fun c => .str [c]) ⟨[some p, some tx, some (.inst C σ.length), some (someV i), x4], S⟩ = .ok .next ⟨[some p, some tx, some (.inst C σ.length), some (someV (i + cs.length)), x4'], S⟩)
  | [], i, x4, hi => .inr ⟨rfl, x4, by rw [List.map_nil, forR]; rfl⟩
  | c :: cs, i, x4, hi => by
    have hs : F "step" [.inst C σ.length, someV i, .str [c]] S = .ok (nextV ts i c) ⟨[], S⟩ := by
      cases i with
      | zero => exact h0 c
      | succ j => exact h1 c j hi
    cases hh : hit ts i c with
    | false =>
      refine .inl ⟨by rw [allHit, hh]; rfl, [some p, some tx, some (.inst C σ.length), some (.tup []), some (.str [c])], ?_⟩
      have hn : nextV ts i c = .tup [] := by unfold nextV; rw [hh]; rfl
      rw [hn] at hs
      have tu : (0 : Nat) ≤ sizeLine := by decide
      simp only [List.map_cons, forR, d_told_ofL0, qvE_none, qvE_bool, qvE_int, qvE_str, wk_loc, qvE_fz, qvE_neg, qvEs_nil, qvTs_nil, qvO_none, qvO_some, qvS_brk, qvSs_nil, wvE_bin, wvE_cmp, wvE_sub, wvE_slice, wvE_chain, wvE_band, wvE_bor, wvE_not, wvE_ite, wvE_tup, wvE_list, wvE_listM, wvE_isin, wvE_bi, wvE_me, wvE_call, wvE_callB, wvE_callZ, wvEs_cons, wvTs_cons, wvS_asg, wvS_expr, wvS_ret, wvS_ifte, wvSs_cons, wvIt_val, wvIt_range1, wvIt_range2, wvIt_zip, k_bin2, k_bin1, k_cmp2, k_cmp1, k_sub2, k_sub1, k_sl2, k_sl1, k_sl0, k_ch0, k_ch1, k_ch2t, k_ch2f, k_ch3, k_band2, k_band1t, k_band1f, k_bor2, k_bor1t, k_bor1f, k_not, k_truth, k_ite_t, k_ite_f, k_tup, k_list, k_listM, k_isin, k_bi, k_me2, k_me1, k_call, k_callR, k_frz, k_cons2, k_cons1, k_test_t, k_test_f, k_asg, k_expr, k_ret, k_if_t, k_if_f, k_seq, k_seqr, k_seqb, k_items, k_rng1, k_rng2, k_rngB, k_zip2, k_zipB, qc_lt, qc_le, qc_gt, qc_ge, qc_is, qc_isnot, qc_in, qc_notin, qc_eqi, qc_nei, qb_add, qb_sub, qb_fdiv, qb_mod, qb_pow, qt_bool, qs_tup, qs_lst, qs_str, qset, qn_none, qn_int, qn_str, qn_tup, qr_find, qr_index, qr_join, wvE_attr, wvE_lenSet, wvE_minD, wvE_min2, wvE_newI, wvE_dictM, qvE_glob, wvS_asgI, wvS_asgA, wvS_asgT, wvIt_enum, k_attr, k_lenSet, k_minD, k_min2, k_min1, k_setI1, k_setI2, k_setI3, k_setA1, k_setA2, k_enum, k_asT3, qset, List.getElem?_cons_zero, List.getElem?_cons_succ, List.set_cons_succ, List.set_cons_zero, R.lift_some, R.bind_ok, Option.map_some, hs, eq_unit0, List.length_nil, tu, if_true]
    | true =>
      have hn : nextV ts i c = .tup [.int i] := by unfold nextV; rw [hh]; rfl
      have hi' : i < ts.length := by
        unfold hit at hh
        cases e : ts[i]? with
        | none => rw [e] at hh; cases hh
        | some t => exact (List.getElem?_eq_some_iff.mp e).1
      have hsv : someV (i + 1) = .tup [.int i] := rfl
      rw [hn] at hs
      have tu : (0 : Nat) ≤ sizeLine := by decide
      have hb : evSs F K d_told_ofL0 (setV ⟨[some p, some tx, some (.inst C σ.length), some (someV i), x4], S⟩ 4 (.str [c])) = .ok .next ⟨[some p, some tx, some (.inst C σ.length), some (someV (i + 1)), some (.str [c])], S⟩ := by
        simp only [d_told_ofL0, qvE_none, qvE_bool, qvE_int, qvE_str, wk_loc, qvE_fz, qvE_neg, qvEs_nil, qvTs_nil, qvO_none, qvO_some, qvS_brk, qvSs_nil, wvE_bin, wvE_cmp, wvE_sub, wvE_slice, wvE_chain, wvE_band, wvE_bor, wvE_not, wvE_ite, wvE_tup, wvE_list, wvE_listM, wvE_isin, wvE_bi, wvE_me, wvE_call, wvE_callB, wvE_callZ, wvEs_cons, wvTs_cons, wvS_asg, wvS_expr, wvS_ret, wvS_ifte, wvSs_cons, wvIt_val, wvIt_range1, wvIt_range2, wvIt_zip, k_bin2, k_bin1, k_cmp2, k_cmp1, k_sub2, k_sub1, k_sl2, k_sl1, k_sl0, k_ch0, k_ch1, k_ch2t, k_ch2f, k_ch3, k_band2, k_band1t, k_band1f, k_bor2, k_bor1t, k_bor1f, k_not, k_truth, k_ite_t, k_ite_f, k_tup, k_list, k_listM, k_isin, k_bi, k_me2, k_me1, k_call, k_callR, k_frz, k_cons2, k_cons1, k_test_t, k_test_f, k_asg, k_expr, k_ret, k_if_t, k_if_f, k_seq, k_seqr, k_seqb, k_items, k_rng1, k_rng2, k_rngB, k_zip2, k_zipB, qc_lt, qc_le, qc_gt, qc_ge, qc_is, qc_isnot, qc_in, qc_notin, qc_eqi, qc_nei, qb_add, qb_sub, qb_fdiv, qb_mod, qb_pow, qt_bool, qs_tup, qs_lst, qs_str, qset, qn_none, qn_int, qn_str, qn_tup, qr_find, qr_index, qr_join, wvE_attr, wvE_lenSet, wvE_minD, wvE_min2, wvE_newI, wvE_dictM, qvE_glob, wvS_asgI, wvS_asgA, wvS_asgT, wvIt_enum, k_attr, k_lenSet, k_minD, k_min2, k_min1, k_setI1, k_setI2, k_setI3, k_setA1, k_setA2, k_enum, k_asT3, qset, List.getElem?_cons_zero, List.getElem?_cons_succ, List.set_cons_succ, List.set_cons_zero, R.lift_some, R.bind_ok, Option.map_some, hs, eq_unit1, List.length_nil, tu, if_true, hsv]
      have hc : allHit ts i (c :: cs) = allHit ts (i + 1) cs := by rw [allHit, hh, Bool.true_and]
      rw [hc, List.map_cons, forR, hb, R.bind_ok]
      have ih := told_loop F K C σ S ts p tx h0 h1 cs (i + 1) (some (.str [c])) hi'
      rw [List.length_cons, show i + (cs.length + 1) = i + 1 + cs.length by omega]
      exact ih
noncomputable def tellsB (ts : List (List Nat)) (cs : List Nat) : Bool := allHit ts 0 cs && (cs.length == ts.length)
theorem told_of_run (F : Fn) (K C : Nat) (σ : List O) (hσ : σ.all (O.lo σ.length) = true) (ts : List (List Nat)) (p : V) (cs : List Nat)
    (hl : F "leaves_of" [p] σ = .ok (.inst C σ.length) ⟨[], rowS σ ts⟩)
    (h0 : ∀ c, F "step" [.inst C σ.length, .none, .str [c]] (rowS σ ts) = .ok (nextV ts 0 c) ⟨[], rowS σ ts⟩) (h1 : ∀ c j, j < ts.length → F "step" [.inst C σ.length, .tup [.int j], .str [c]] (rowS σ ts) = .ok (nextV ts (j + 1) c) ⟨[], rowS σ ts⟩)
    (g0 : F "told_at" [.inst C σ.length, .none] (rowS σ ts) = .ok (emptyV ts.length) ⟨[], rowS σ ts⟩) (g1 : ∀ j, j < ts.length → F "told_at" [.inst C σ.length, .tup [.int j]] (rowS σ ts) = .ok (toldV ts.length j) ⟨[], rowS σ ts⟩) :
    runDef F K d_told_of [p, .str cs] σ = .ok (if tellsB ts cs then V.int 0 else V.none) ⟨[], σ⟩ := by
  refine run_ok rfl ?_ (by split; exact qfree_int _; exact qfree_none) hσ
  show Ret (evSs F K d_told_ofB ⟨[some p, some (.str cs), none, none, none], σ⟩) _ _
  have hS : rowS σ ts = σ ++ Lv σ.length (ts.map .str) (rowB σ.length ts.length) (.lst (firstsV ts.length)) (emptyV ts.length) (endsV ts.length) (rowD ts.length) := rfl
  have hsv : someV 0 = .none := rfl
  rcases told_loop F K C σ (rowS σ ts) ts p (.str cs) h0 h1 cs 0 none (Nat.zero_le _) with ⟨ha, ρ, e⟩ | ⟨ha, x4', e⟩
  · have hb : tellsB ts cs = false := by unfold tellsB; rw [ha]; rfl
    rw [hb]
    refine Ret.mk (ρ := ρ) (τ := Lv σ.length (ts.map .str) (rowB σ.length ts.length) (.lst (firstsV ts.length)) (emptyV ts.length) (endsV ts.length) (rowD ts.length)) ?_
    rw [← hS]
    rw [hsv] at e
    simp only [d_told_ofB, qvE_none, qvE_bool, qvE_int, qvE_str, wk_loc, qvE_fz, qvE_neg, qvEs_nil, qvTs_nil, qvO_none, qvO_some, qvS_brk, qvSs_nil, wvE_bin, wvE_cmp, wvE_sub, wvE_slice, wvE_chain, wvE_band, wvE_bor, wvE_not, wvE_ite, wvE_tup, wvE_list, wvE_listM, wvE_isin, wvE_bi, wvE_me, wvE_call, wvE_callB, wvE_callZ, wvEs_cons, wvTs_cons, wvS_asg, wvS_expr, wvS_ret, wvS_ifte, wvSs_cons, wvIt_val, wvIt_range1, wvIt_range2, wvIt_zip, k_bin2, k_bin1, k_cmp2, k_cmp1, k_sub2, k_sub1, k_sl2, k_sl1, k_sl0, k_ch0, k_ch1, k_ch2t, k_ch2f, k_ch3, k_band2, k_band1t, k_band1f, k_bor2, k_bor1t, k_bor1f, k_not, k_truth, k_ite_t, k_ite_f, k_tup, k_list, k_listM, k_isin, k_bi, k_me2, k_me1, k_call, k_callR, k_frz, k_cons2, k_cons1, k_test_t, k_test_f, k_asg, k_expr, k_ret, k_if_t, k_if_f, k_seq, k_seqr, k_seqb, k_items, k_rng1, k_rng2, k_rngB, k_zip2, k_zipB, qc_lt, qc_le, qc_gt, qc_ge, qc_is, qc_isnot, qc_in, qc_notin, qc_eqi, qc_nei, qb_add, qb_sub, qb_fdiv, qb_mod, qb_pow, qt_bool, qs_tup, qs_lst, qs_str, qset, qn_none, qn_int, qn_str, qn_tup, qr_find, qr_index, qr_join, wvE_attr, wvE_lenSet, wvE_minD, wvE_min2, wvE_newI, wvE_dictM, qvE_glob, wvS_asgI, wvS_asgA, wvS_asgT, wvIt_enum, k_attr, k_lenSet, k_minD, k_min2, k_min1, k_setI1, k_setI2, k_setI3, k_setA1, k_setA2, k_enum, k_asT3, wvS_for1, k_for, qi_str, List.getElem?_cons_zero, List.getElem?_cons_succ, List.set_cons_succ, List.set_cons_zero, R.lift_some, R.bind_ok, hl, e, Bool.false_eq_true, if_false]
  · have hle := allHit_len (Nat.zero_le _) ha
    rw [Nat.zero_add] at hle e
    have hb : tellsB ts cs = (cs.length == ts.length) := by unfold tellsB; rw [ha]; rfl
    have gg : F "told_at" [.inst C σ.length, someV cs.length] (rowS σ ts) = .ok (if tellsB ts cs then V.int 0 else V.none) ⟨[], rowS σ ts⟩ := by
      rw [hb]
      cases hc : cs.length with
      | zero =>
        rw [hsv, g0]
        unfold emptyV
        cases hn : ts.length with
        | zero => rfl
        | succ n => rfl
      | succ j =>
        have hsj : someV (j + 1) = .tup [.int j] := rfl
        rw [hsj, g1 j (by omega)]
        unfold toldV
        by_cases h : j + 1 = ts.length
        · rw [if_pos h, h]; simp
        · rw [if_neg h]
          have : (j + 1 == ts.length) = false := by rw [beq_eq_false_iff_ne]; exact h
          rw [this]; rfl
    refine Ret.mk (ρ := [some p, some (.str cs), some (.inst C σ.length), some (someV cs.length), x4']) (τ := Lv σ.length (ts.map .str) (rowB σ.length ts.length) (.lst (firstsV ts.length)) (emptyV ts.length) (endsV ts.length) (rowD ts.length)) ?_
    rw [← hS]
    rw [hsv] at e
    simp only [d_told_ofB, qvE_none, qvE_bool, qvE_int, qvE_str, wk_loc, qvE_fz, qvE_neg, qvEs_nil, qvTs_nil, qvO_none, qvO_some, qvS_brk, qvSs_nil, wvE_bin, wvE_cmp, wvE_sub, wvE_slice, wvE_chain, wvE_band, wvE_bor, wvE_not, wvE_ite, wvE_tup, wvE_list, wvE_listM, wvE_isin, wvE_bi, wvE_me, wvE_call, wvE_callB, wvE_callZ, wvEs_cons, wvTs_cons, wvS_asg, wvS_expr, wvS_ret, wvS_ifte, wvSs_cons, wvIt_val, wvIt_range1, wvIt_range2, wvIt_zip, k_bin2, k_bin1, k_cmp2, k_cmp1, k_sub2, k_sub1, k_sl2, k_sl1, k_sl0, k_ch0, k_ch1, k_ch2t, k_ch2f, k_ch3, k_band2, k_band1t, k_band1f, k_bor2, k_bor1t, k_bor1f, k_not, k_truth, k_ite_t, k_ite_f, k_tup, k_list, k_listM, k_isin, k_bi, k_me2, k_me1, k_call, k_callR, k_frz, k_cons2, k_cons1, k_test_t, k_test_f, k_asg, k_expr, k_ret, k_if_t, k_if_f, k_seq, k_seqr, k_seqb, k_items, k_rng1, k_rng2, k_rngB, k_zip2, k_zipB, qc_lt, qc_le, qc_gt, qc_ge, qc_is, qc_isnot, qc_in, qc_notin, qc_eqi, qc_nei, qb_add, qb_sub, qb_fdiv, qb_mod, qb_pow, qt_bool, qs_tup, qs_lst, qs_str, qset, qn_none, qn_int, qn_str, qn_tup, qr_find, qr_index, qr_join, wvE_attr, wvE_lenSet, wvE_minD, wvE_min2, wvE_newI, wvE_dictM, qvE_glob, wvS_asgI, wvS_asgA, wvS_asgT, wvIt_enum, k_attr, k_lenSet, k_minD, k_min2, k_min1, k_setI1, k_setI2, k_setI3, k_setA1, k_setA2, k_enum, k_asT3, wvS_for1, k_for, qi_str, List.getElem?_cons_zero, List.getElem?_cons_succ, List.set_cons_succ, List.set_cons_zero, R.lift_some, R.bind_ok, hl, e, gg]
theorem tells_run (F : Fn) (K : Nat) (σ : List O) (hσ : σ.all (O.lo σ.length) = true) (ts : List (List Nat)) (p : V) (cs : List Nat) (h : F "told_of" [.lst [p], .str cs] σ = .ok (if tellsB ts cs then V.int 0 else V.none) ⟨[], σ⟩) :
    runDef F K d_tells [p, .str cs] σ = .ok (.bool (tellsB ts cs)) ⟨[], σ⟩ := by
  refine run_ok rfl ?_ (qfree_bool _) hσ
  show Ret (evSs F K d_tellsB ⟨[some p, some (.str cs)], σ⟩) _ _
  refine Ret.mk0 (ρ := [some p, some (.str cs)]) ?_
  have hn : (!V.isNone (if tellsB ts cs then V.int 0 else V.none)) = tellsB ts cs := by cases tellsB ts cs <;> rfl
  simp only [d_tellsB, qvE_none, qvE_bool, qvE_int, qvE_str, wk_loc, qvE_fz, qvE_neg, qvEs_nil, qvTs_nil, qvO_none, qvO_some, qvS_brk, qvSs_nil, wvE_bin, wvE_cmp, wvE_sub, wvE_slice, wvE_chain, wvE_band, wvE_bor, wvE_not, wvE_ite, wvE_tup, wvE_list, wvE_listM, wvE_isin, wvE_bi, wvE_me, wvE_call, wvE_callB, wvE_callZ, wvEs_cons, wvTs_cons, wvS_asg, wvS_expr, wvS_ret, wvS_ifte, wvSs_cons, wvIt_val, wvIt_range1, wvIt_range2, wvIt_zip, k_bin2, k_bin1, k_cmp2, k_cmp1, k_sub2, k_sub1, k_sl2, k_sl1, k_sl0, k_ch0, k_ch1, k_ch2t, k_ch2f, k_ch3, k_band2, k_band1t, k_band1f, k_bor2, k_bor1t, k_bor1f, k_not, k_truth, k_ite_t, k_ite_f, k_tup, k_list, k_listM, k_isin, k_bi, k_me2, k_me1, k_call, k_callR, k_frz, k_cons2, k_cons1, k_test_t, k_test_f, k_asg, k_expr, k_ret, k_if_t, k_if_f, k_seq, k_seqr, k_seqb, k_items, k_rng1, k_rng2, k_rngB, k_zip2, k_zipB, qc_lt, qc_le, qc_gt, qc_ge, qc_is, qc_isnot, qc_in, qc_notin, qc_eqi, qc_nei, qb_add, qb_sub, qb_fdiv, qb_mod, qb_pow, qt_bool, qs_tup, qs_lst, qs_str, qset, qn_none, qn_int, qn_str, qn_tup, qr_find, qr_index, qr_join, wvE_attr, wvE_lenSet, wvE_minD, wvE_min2, wvE_newI, wvE_dictM, qvE_glob, wvS_asgI, wvS_asgA, wvS_asgT, wvIt_enum, k_attr, k_lenSet, k_minD, k_min2, k_min1, k_setI1, k_setI2, k_setI3, k_setA1, k_setA2, k_enum, k_asT3, List.getElem?_cons_zero, List.getElem?_cons_succ, R.lift_some, R.bind_ok, Option.map_some, List.length_cons, List.length_nil, Nat.zero_add, sz1, if_true, h, hn]

end Mine
namespace Mine
open PySem
/-! the letters -/
noncomputable def s1 : Str := Str.ofString " !\"#$&'()*+,-./0123456789:;<=>?@ABCDEFGHIJKLMNOPQRSTUVWXYZ[\\]^_`"
noncomputable def s2 : Str := Str.ofString "abcdefghijklmnopqrstuvwxyz{|}~\n\t"
noncomputable def signs : List Nat := s1.cps.toList ++ s2.cps.toList
theorem signs_len : signs.length = 96 := by decide +kernel
theorem signs_nd : signs.Nodup := by decide +kernel
theorem signs_lt : signs.all (· < 128) = true := by decide +kernel
noncomputable def signAt (i : Int) : Nat := signs.getD (i.emod 96).toNat 0
theorem emod_lt (i : Int) : (i.emod 96).toNat < 96 ∧ ((i.emod 96).toNat : Int) = i.emod 96 := by
  have h1 := Int.emod_nonneg i (show (96 : Int) ≠ 0 by decide)
  have h2 := Int.emod_lt_of_pos i (show (0 : Int) < 96 by decide)
  change 0 ≤ i.emod 96 at h1
  change i.emod 96 < 96 at h2
  omega
theorem signAt_get (i : Int) : signs[(i.emod 96).toNat]? = some (signAt i) := by
  have h := (emod_lt i).1
  unfold signAt
  rw [List.getD_eq_getElem?_getD, List.getElem?_eq_getElem (by rw [signs_len]; exact h)]; rfl
theorem signAt_lt (i : Int) : signAt i < 128 := by
  have := List.all_eq_true.mp signs_lt (signAt i) (List.mem_of_getElem? (signAt_get i))
  exact of_decide_eq_true this
theorem signAt_inj {i j : Int} (h : signAt i = signAt j) : i.emod 96 = j.emod 96 := by
  have h1 := signAt_get i
  have h2 := signAt_get j
  rw [← h] at h2
  have h3 := (List.getElem?_inj (by rw [signs_len]; exact (emod_lt i).1) signs_nd).mp (h1.trans h2.symm)
  have h4 := (emod_lt i).2
  have h5 := (emod_lt j).2
  rw [← h4, ← h5, h3]
noncomputable def Cl (σ : List O) : Prop := σ.all (O.lo σ.length) = true
theorem Cl.snoc {σ : List O} (h : Cl σ) {xs : List V} (hx : V.los 0 xs = true) : Cl (σ ++ [.lst xs]) := by
  unfold Cl
  rw [List.all_append, List.length_append, Bool.and_eq_true]
  refine ⟨List.all_eq_true.mpr fun o ho => O.lo_mono (Nat.le_add_right _ _) (List.all_eq_true.mp h o ho), ?_⟩
  simp only [List.all_cons, List.all_nil, Bool.and_true]
  exact V.los_mono (Nat.zero_le _) _ hx
theorem Cl.dead {σ : List O} (h : Cl σ) : Cl (σ ++ [.dead]) := by
  unfold Cl
  rw [List.all_append, List.length_append, Bool.and_eq_true]
  exact ⟨List.all_eq_true.mpr fun o ho => O.lo_mono (Nat.le_add_right _ _) (List.all_eq_true.mp h o ho), rfl⟩
theorem sign_by_run (F : Fn) (K : Nat) (i : Int) (σ : List O) (hσ : Cl σ) : runDef F K d_sign_by [.int i] σ = .ok (.str [signAt i]) ⟨[], σ⟩ := by
  have hl1 : s1.cps.toList.length = 64 := by decide +kernel
  have hl2 : s2.cps.toList.length = 32 := by decide +kernel
  have hb : d_sign_byB = .cons (.asg 1 (.str s1)) (.cons (.asg 1 (.bin .add (.loc 1) (.str s2))) (.cons (.ret (.sub (.loc 1) (.bin .mod (.loc 0) (.int 96)))) .nil)) := rfl
  have hg := signAt_get i
  have hlt := (emod_lt i).1
  have hm : Int.fmod i 96 = (((i.emod 96).toNat : Nat) : Int) := by rw [(emod_lt i).2, Int.fmod_eq_emod_of_nonneg _ (by decide)]; rfl
  have hc' : idxOf (s1.cps.toList ++ s2.cps.toList) (i.fmod 96) = some (signAt i) := by rw [hm, idx_nat _ (by omega)]; exact hg
  have hsz : s1.cps.toList.length + s2.cps.toList.length ≤ sizeLine := by rw [hl1, hl2]; decide
  refine run_ok rfl ?_ (qfree_str _) hσ
  show Ret (evSs F K d_sign_byB ⟨[some (.int i), none], σ⟩) _ _
  refine Ret.mk0 (ρ := [some (.int i), some (.str (s1.cps.toList ++ s2.cps.toList))]) ?_
  rw [hb]
  simp only [qvE_none, qvE_bool, qvE_int, qvE_str, wk_loc, qvE_fz, qvE_neg, qvEs_nil, qvTs_nil, qvO_none, qvO_some, qvS_brk, qvSs_nil, wvE_bin, wvE_cmp, wvE_sub, wvE_slice, wvE_chain, wvE_band, wvE_bor, wvE_not, wvE_ite, wvE_tup, wvE_list, wvE_listM, wvE_isin, wvE_bi, wvE_me, wvE_call, wvE_callB, wvE_callZ, wvEs_cons, wvTs_cons, wvS_asg, wvS_expr, wvS_ret, wvS_ifte, wvSs_cons, wvIt_val, wvIt_range1, wvIt_range2, wvIt_zip, k_bin2, k_bin1, k_cmp2, k_cmp1, k_sub2, k_sub1, k_sl2, k_sl1, k_sl0, k_ch0, k_ch1, k_ch2t, k_ch2f, k_ch3, k_band2, k_band1t, k_band1f, k_bor2, k_bor1t, k_bor1f, k_not, k_truth, k_ite_t, k_ite_f, k_tup, k_list, k_listM, k_isin, k_bi, k_me2, k_me1, k_call, k_callR, k_frz, k_cons2, k_cons1, k_test_t, k_test_f, k_asg, k_expr, k_ret, k_if_t, k_if_f, k_seq, k_seqr, k_seqb, k_items, k_rng1, k_rng2, k_rngB, k_zip2, k_zipB, qc_lt, qc_le, qc_gt, qc_ge, qc_is, qc_isnot, qc_in, qc_notin, qc_eqi, qc_nei, qb_add, qb_sub, qb_fdiv, qb_mod, qb_pow, qt_bool, qs_tup, qs_lst, qs_str, qset, qn_none, qn_int, qn_str, qn_tup, qr_find, qr_index, qr_join, wvE_attr, wvE_lenSet, wvE_minD, wvE_min2, wvE_newI, wvE_dictM, qvE_glob, wvS_asgI, wvS_asgA, wvS_asgT, wvIt_enum, k_attr, k_lenSet, k_minD, k_min2, k_min1, k_setI1, k_setI2, k_setI3, k_setA1, k_setA2, k_enum, k_asT3, List.getElem?_cons_zero, List.getElem?_cons_succ, List.set_cons_zero, List.set_cons_succ, R.bind_ok, R.lift_some, qb_adds _ _ hsz, hc', Option.map_some, ne_eq, Int.reduceEq, not_false_eq_true]
theorem compR_map {F : Fn} {elt : Ex} {ρ₀ : List (Option V)} {σ : List O} {k : Nat} (f : V → V) : ∀ (xs : List V), (∀ x ∈ xs, (f x).lo 0 = true) →
    (∀ x ∈ xs, ∀ acc, V.los 0 acc = true → evE F elt ⟨ρ₀.set k (some x), σ ++ [.lst acc]⟩ = .ok (f x) ⟨ρ₀.set k (some x), σ ++ [.lst acc]⟩) → ∀ (acc : List V) (v : Option V), V.los 0 acc = true → acc.length + xs.length ≤ sizeLine →
    ∃ v', compR k σ.length (evTs F .nil) (evE F elt) xs ⟨ρ₀.set k v, σ ++ [.lst acc]⟩ = .ok () ⟨ρ₀.set k v', σ ++ [.lst (acc ++ xs.map f)]⟩
  | [], _, _, acc, v, _, _ => ⟨v, by rw [compR, List.map_nil, List.append_nil]⟩
  | x :: xs, hf, h, acc, v, ha, hl => by
    have he := h x (by simp) acc ha
    have hl' : acc.length + (xs.length + 1) ≤ sizeLine := hl
    have ha' : V.los 0 (acc ++ [f x]) = true := los_of fun y hy => by
      rcases List.mem_append.mp hy with hy | hy
      · have : ∀ (l : List V), V.los 0 l = true → y ∈ l → y.lo 0 = true := by
          intro l
          induction l with
          | nil => intro _ h; cases h
          | cons z l ih =>
            intro hz hm
            rw [qfrees_cons, Bool.and_eq_true] at hz
            rcases List.mem_cons.mp hm with rfl | hm
            · exact hz.1
            · exact ih hz.2 hm
        exact this acc ha hy
      · rw [List.mem_singleton.mp hy]; exact hf x (by simp)
    obtain ⟨v', h1⟩ := compR_map f xs (fun y hy => hf y (by simp [hy])) (fun z hz => h z (by simp [hz])) (acc ++ [f x]) (some x) ha' (by rw [List.length_append, List.length_singleton]; omega)
    refine ⟨v', ?_⟩
    have hset : setV ⟨ρ₀.set k v, σ ++ [.lst acc]⟩ k x = ⟨ρ₀.set k (some x), σ ++ [.lst acc]⟩ := by rw [qset, List.set_set]
    rw [compR, hset, qvTs_nil, R.bind_ok]
    simp only [if_true]
    rw [he, R.bind_ok]
    have hg : (σ ++ [O.lst acc])[σ.length]? = some (.lst acc) := by simp
    have hs : (σ ++ [O.lst acc]).set σ.length (.lst (acc ++ [f x])) = σ ++ [.lst (acc ++ [f x])] := by simp
    simp only [hg, hs]
    rw [if_pos (by omega), h1]
    simp
theorem comp_map {F : Fn} {elt : Ex} {ρ₀ : List (Option V)} {σ : List O} {k : Nat} {it : It} {xs : List V} (f : V → V) (hf : ∀ x ∈ xs, (f x).lo 0 = true) (hit : evIt F it ⟨ρ₀, σ⟩ = .ok xs ⟨ρ₀, σ⟩) (hl : xs.length ≤ sizeLine)
    (h : ∀ x ∈ xs, ∀ acc, V.los 0 acc = true → evE F elt ⟨ρ₀.set k (some x), σ ++ [.lst acc]⟩ = .ok (f x) ⟨ρ₀.set k (some x), σ ++ [.lst acc]⟩) :
    evE F (.comp elt k it .nil) ⟨ρ₀, σ⟩ = .ok (.lst (xs.map f)) ⟨ρ₀.set k none, σ ++ [.dead]⟩ := by
  obtain ⟨v', h1⟩ := compR_map f xs hf h [] none qfrees_nil (by simpa using hl)
  rw [qvE_comp, hit, R.bind_ok]
  dsimp only
  rw [h1, R.bind_ok]
  simp
theorem mem_upTo {n : Nat} {x : V} (h : x ∈ upTo 0 n) : ∃ k : Nat, k < n ∧ x = .int k := by
  unfold upTo at h
  obtain ⟨k, hk, rfl⟩ := List.mem_map.mp h
  have := List.mem_range.mp hk
  exact ⟨k, by omega, by simp⟩
theorem upTo_map (n : Nat) (f : V → V) : (upTo 0 n).map f = (List.range n).map fun k : Nat => f (.int (k : Int)) := by
  unfold upTo
  rw [List.map_map]
  have : ((n : Int) - 0).toNat = n := by omega
  rw [this]
  exact List.map_congr_left fun k _ => by simp
theorem len_upTo (n : Nat) : (upTo 0 n).length = n := by simp [upTo]
theorem smallR_nat {n : Nat} (h : n < 2 ^ 31) : smallR (n : Int) = true := by
  have h1 : (-(2 ^ 62) : Int) ≤ (n : Int) := by omega
  have h2 : ((n : Int) : Int) < 2 ^ 62 := by omega
  unfold smallR
  rw [decide_eq_true h1, decide_eq_true h2]; rfl
theorem strs_ones : ∀ (l : List Nat), strsOf (l.map fun c => V.str [c]) = some (l.map fun c => [c])
  | [] => by rw [List.map_nil, strsOf]; rfl
  | c :: l => by rw [List.map_cons, strsOf, strs_ones l]; rfl
theorem flat_ones : ∀ (l : List Nat), (l.map fun c => [c]).flatten = l
  | [] => rfl
  | c :: l => by rw [List.map_cons, List.flatten_cons, flat_ones l]; rfl
theorem clip_nat (n i : Nat) : clipAt n (i : Int) = min i n := by
  unfold clipAt
  rw [if_neg (by omega)]
  omega
theorem cut_nat {α : Type} (xs : List α) (a b : Nat) (hab : a ≤ b) (hb : b ≤ xs.length) : cutL xs (some (a : Int)) (some (b : Int)) = (xs.drop a).take (b - a) := by
  unfold cutL
  simp only [Option.elim_some, clip_nat]
  rw [Nat.min_eq_left hb, Nat.min_eq_left (Nat.le_trans hab hb)]
theorem small_lit {i : Int} (h1 : -1000000 ≤ i) (h2 : i ≤ 1000000) : smallI i = true := by
  unfold smallI
  rw [decide_eq_true (by omega), decide_eq_true (by omega)]; rfl
theorem fmod_nat (a : Int) (n : Nat) (hn : 0 < n) : ∃ k : Nat, Int.fmod a n = k ∧ k < n := by
  have h1 : 0 ≤ Int.fmod a n := by rw [Int.fmod_eq_emod_of_nonneg _ (by omega)]; exact Int.emod_nonneg _ (by omega)
  have h2 : Int.fmod a n < n := by rw [Int.fmod_eq_emod_of_nonneg _ (by omega)]; exact Int.emod_lt_of_pos _ (by omega)
  obtain ⟨k, hk⟩ := Int.eq_ofNat_of_zero_le h1
  exact ⟨k, hk, by rw [hk] at h2; omega⟩

noncomputable def chars (cell g : Int) (z : Nat) : List Nat := (List.range (5 * z)).map fun j : Nat => signAt (cell + (j : Int) * g)
theorem chars_len (cell g : Int) (z : Nat) : (chars cell g z).length = 5 * z := by simp [chars]
theorem chars_lt {cell g : Int} {z c : Nat} (h : c ∈ chars cell g z) : c < 128 := by
  obtain ⟨j, _, rfl⟩ := List.mem_map.mp h; exact signAt_lt _
theorem gap_inj {g cell : Int} (hg : g ∈ ([1, 5, 7, 11, 13, 17, 19, 23] : List Int)) {i j : Nat} (hi : i < 96) (hj : j < 96) (h : (cell + (i : Int) * g) % 96 = (cell + (j : Int) * g) % 96) : i = j := by
  simp only [List.mem_cons, List.not_mem_nil, or_false] at hg
  rcases hg with rfl | rfl | rfl | rfl | rfl | rfl | rfl | rfl <;> omega
theorem chars_nd {cell g : Int} {z : Nat} (hz : z ≤ 19) (hg : g ∈ ([1, 5, 7, 11, 13, 17, 19, 23] : List Int)) : (chars cell g z).Nodup := by
  unfold chars
  rw [List.nodup_iff_pairwise_ne, List.pairwise_map]
  refine List.Pairwise.imp_of_mem (fun {i j} hi hj hne e => hne ?_) List.nodup_range
  have h1 := List.mem_range.mp hi
  have h2 := List.mem_range.mp hj
  exact gap_inj hg (by omega) (by omega) (signAt_inj e)
/-- the k-th word -/
noncomputable def word (L : List Nat) (z k : Nat) : List Nat := (L.drop (k * z)).take z
noncomputable def wordsV (L : List Nat) (z : Nat) : List V := (List.range 5).map fun k => .str (word L z k)

end Mine
namespace Mine
open PySem
theorem word_len {L : List Nat} {z k : Nat} (hk : k < 5) (hL : L.length = 5 * z) : (word L z k).length = z := by
  unfold word
  rw [List.length_take, List.length_drop, hL]
  have : (k + 1) * z ≤ 5 * z := Nat.mul_le_mul_right z (by omega)
  rw [Nat.add_mul] at this; omega
theorem word_sub {L : List Nat} {z k : Nat} : ∀ c ∈ word L z k, c ∈ L := fun c h => List.mem_of_mem_drop (List.mem_of_mem_take h)
theorem word_nd {L : List Nat} {z k : Nat} (h : L.Nodup) : (word L z k).Nodup := (h.sublist (List.drop_sublist _ _)).sublist (List.take_sublist _ _)
theorem word_get {L : List Nat} {z k : Nat} {c : Nat} (h : c ∈ word L z k) : ∃ i, i < z ∧ L[k * z + i]? = some c := by
  obtain ⟨i, hi⟩ := List.mem_iff_getElem?.mp h
  unfold word at hi
  rw [List.getElem?_take] at hi
  split at hi
  · rename_i hz
    rw [List.getElem?_drop] at hi
    exact ⟨i, hz, hi⟩
  · cases hi
theorem word_disj {L : List Nat} {z j k c : Nat} (h : L.Nodup) (hjk : j < k) (hj : c ∈ word L z j) (hk : c ∈ word L z k) : False := by
  obtain ⟨i, hi, e1⟩ := word_get hj
  obtain ⟨i', hi', e2⟩ := word_get hk
  have := (List.getElem?_inj (List.getElem?_eq_some_iff.mp e1).1 h).mp (e1.trans e2.symm)
  have h1 : (j + 1) * z ≤ k * z := Nat.mul_le_mul_right z hjk
  rw [Nat.add_mul] at h1
  omega
theorem letters_tail (F : Fn) (K : Nat) (cell g : Int) (z : Nat) (h1 : 1 ≤ z) (h2 : z ≤ 19) (σ : List O) (hσ : Cl σ) (hF : ∀ i τ, Cl τ → F "_law_sign_by" [.int i] τ = .ok (.str [signAt i]) ⟨[], τ⟩) :
    Ret (evSs F K (.cons (.asg 3 (.comp d_lettersC4 4 (.range1 (.bin .mul (.int 5) (.loc 2))) .nil)) (.cons (.ret (.comp d_lettersC5 5 (.range1 (.int 5)) .nil)) .nil)) ⟨[some (.int cell), some (.int g), some (.int z), none, none, none], σ⟩) (.lst (wordsV (chars cell g z) z)) σ := by
  have hz5 : (5 : Int) * (z : Int) = ((5 * z : Nat) : Int) := by omega
  have s5 : smallI 5 = true := small_lit (by omega) (by omega)
  have r5 : smallR 5 = true := smallR_nat (n := 5) (by omega)
  have e1 := comp_map (F := F) (elt := d_lettersC4) (k := 4) (ρ₀ := [some (.int cell), some (.int g), some (.int z), none, none, none]) (σ := σ) (it := .range1 (.bin .mul (.int 5) (.loc 2))) (xs := upTo 0 (5 * z : Nat))
    (fun x => match x with | .int k => .str [signAt (cell + k * g)] | _ => .none) (fun x hx => by obtain ⟨k, _, rfl⟩ := mem_upTo hx; exact qfree_str _)
    (by
      rw [qvIt_range1, qvE_bin, qvE_int, R.bind_ok, qvE_loc]
      simp only [List.getElem?_cons_zero, List.getElem?_cons_succ, R.bind_ok]
      rw [qb_mul _ _ (by rw [s5]; rfl), R.lift_some, R.bind_ok, hz5]
      simp only [smallR_nat (show 5 * z < 2 ^ 31 by omega), if_true])
    (by rw [len_upTo]; unfold sizeLine; omega)
    (fun x hx acc ha => by
      obtain ⟨k, hk, rfl⟩ := mem_upTo hx
      have sk : smallI (k : Int) = true := small_nat (by omega)
      have hc := hF (cell + (k : Int) * g) (σ ++ [.lst acc]) (hσ.snoc ha)
      have hm := qb_mul (k : Int) g (by rw [sk]; rfl)
      simp [d_lettersC4, qvE_none, qvE_bool, qvE_int, qvE_str, wk_loc, qvE_fz, qvE_neg, qvEs_nil, qvTs_nil, qvO_none, qvO_some, qvS_brk, qvSs_nil, wvE_bin, wvE_cmp, wvE_sub, wvE_slice, wvE_chain, wvE_band, wvE_bor, wvE_not, wvE_ite, wvE_tup, wvE_list, wvE_listM, wvE_isin, wvE_bi, wvE_me, wvE_call, wvE_callB, wvE_callZ, wvEs_cons, wvTs_cons, wvS_asg, wvS_expr, wvS_ret, wvS_ifte, wvSs_cons, wvIt_val, wvIt_range1, wvIt_range2, wvIt_zip, k_bin2, k_bin1, k_cmp2, k_cmp1, k_sub2, k_sub1, k_sl2, k_sl1, k_sl0, k_ch0, k_ch1, k_ch2t, k_ch2f, k_ch3, k_band2, k_band1t, k_band1f, k_bor2, k_bor1t, k_bor1f, k_not, k_truth, k_ite_t, k_ite_f, k_tup, k_list, k_listM, k_isin, k_bi, k_me2, k_me1, k_call, k_callR, k_frz, k_cons2, k_cons1, k_test_t, k_test_f, k_asg, k_expr, k_ret, k_if_t, k_if_f, k_seq, k_seqr, k_seqb, k_items, k_rng1, k_rng2, k_rngB, k_zip2, k_zipB, qc_lt, qc_le, qc_gt, qc_ge, qc_is, qc_isnot, qc_in, qc_notin, qc_eqi, qc_nei, qb_add, qb_sub, qb_fdiv, qb_mod, qb_pow, qt_bool, qs_tup, qs_lst, qs_str, qset, qn_none, qn_int, qn_str, qn_tup, qr_find, qr_index, qr_join, wvE_attr, wvE_lenSet, wvE_minD, wvE_min2, wvE_newI, wvE_dictM, qvE_glob, wvS_asgI, wvS_asgA, wvS_asgT, wvIt_enum, k_attr, k_lenSet, k_minD, k_min2, k_min1, k_setI1, k_setI2, k_setI3, k_setA1, k_setA2, k_enum, k_asT3, hm, hc])
  have ey : (upTo 0 (5 * z : Nat)).map (fun x => match x with | .int k => V.str [signAt (cell + k * g)] | _ => .none) = (chars cell g z).map fun c => V.str [c] := by
    rw [upTo_map]
    unfold chars
    rw [List.map_map]
    rfl
  rw [ey] at e1
  have hL := chars_len cell g z
  generalize chars cell g z = L at e1 hL
  have e2 := comp_map (F := F) (elt := d_lettersC5) (k := 5) (ρ₀ := [some (.int cell), some (.int g), some (.int z), some (.lst (L.map fun c => V.str [c])), none, none]) (σ := σ ++ [.dead]) (it := .range1 (.int 5)) (xs := upTo 0 (5 : Nat))
    (fun x => match x with | .int k => .str (word L z k.toNat) | _ => .none) (fun x hx => by obtain ⟨k, _, rfl⟩ := mem_upTo hx; exact qfree_str _)
    (by
      rw [qvIt_range1, qvE_int, R.bind_ok]
      simp only [r5, if_true]
      rfl)
    (by rw [len_upTo]; unfold sizeLine; omega)
    (fun x hx acc ha => by
      obtain ⟨k, hk, rfl⟩ := mem_upTo hx
      have sk : smallI (k : Int) = true := small_nat (by omega)
      have hkz : (k : Int) * (z : Int) = ((k * z : Nat) : Int) := by simp
      have hkz2 : ((k * z : Nat) : Int) + (z : Int) = ((k * z + z : Nat) : Int) := by simp
      have hle : k * z + z ≤ 5 * z := by
        have : (k + 1) * z ≤ 5 * z := Nat.mul_le_mul_right z (by omega)
        rw [Nat.add_mul] at this; omega
      have hcut : cutL (L.map fun c => V.str [c]) (some ((k * z : Nat) : Int)) (some ((k * z + z : Nat) : Int)) = (word L z k).map fun c => V.str [c] := by
        rw [cut_nat _ _ _ (by omega) (by rw [List.length_map, hL]; exact hle), Nat.add_sub_cancel_left]
        unfold word
        rw [List.map_take, List.map_drop]
      have hm := qb_mul (k : Int) z (by rw [sk]; rfl)
      rw [hkz] at hm
      have hsl : sliceSem (σ ++ [O.dead] ++ [O.lst acc]) (.lst (L.map fun c => V.str [c])) (.int ((k * z : Nat) : Int)) (.int ((k * z + z : Nat) : Int)) = some (.lst ((word L z k).map fun c => V.str [c])) := by
        rw [qsl_lst, hcut]
      have hj : ∀ st, meSem .join (.str []) (.lst ((word L z k).map fun c => V.str [c])) st = .ok (.str (word L z k)) st := fun st => by
        have := qm_join (strs_ones (word L z k)) (by rw [flat_ones, word_len hk hL]; unfold sizeLine; omega) st
        rwa [flat_ones] at this
      simp only [d_lettersC5, qvE_none, qvE_bool, qvE_int, qvE_str, wk_loc, qvE_fz, qvE_neg, qvEs_nil, qvTs_nil, qvO_none, qvO_some, qvS_brk, qvSs_nil, wvE_bin, wvE_cmp, wvE_sub, wvE_slice, wvE_chain, wvE_band, wvE_bor, wvE_not, wvE_ite, wvE_tup, wvE_list, wvE_listM, wvE_isin, wvE_bi, wvE_me, wvE_call, wvE_callB, wvE_callZ, wvEs_cons, wvTs_cons, wvS_asg, wvS_expr, wvS_ret, wvS_ifte, wvSs_cons, wvIt_val, wvIt_range1, wvIt_range2, wvIt_zip, k_bin2, k_bin1, k_cmp2, k_cmp1, k_sub2, k_sub1, k_sl2, k_sl1, k_sl0, k_ch0, k_ch1, k_ch2t, k_ch2f, k_ch3, k_band2, k_band1t, k_band1f, k_bor2, k_bor1t, k_bor1f, k_not, k_truth, k_ite_t, k_ite_f, k_tup, k_list, k_listM, k_isin, k_bi, k_me2, k_me1, k_call, k_callR, k_frz, k_cons2, k_cons1, k_test_t, k_test_f, k_asg, k_expr, k_ret, k_if_t, k_if_f, k_seq, k_seqr, k_seqb, k_items, k_rng1, k_rng2, k_rngB, k_zip2, k_zipB, qc_lt, qc_le, qc_gt, qc_ge, qc_is, qc_isnot, qc_in, qc_notin, qc_eqi, qc_nei, qb_add, qb_sub, qb_fdiv, qb_mod, qb_pow, qt_bool, qs_tup, qs_lst, qs_str, qset, qn_none, qn_int, qn_str, qn_tup, qr_find, qr_index, qr_join, wvE_attr, wvE_lenSet, wvE_minD, wvE_min2, wvE_newI, wvE_dictM, qvE_glob, wvS_asgI, wvS_asgA, wvS_asgT, wvIt_enum, k_attr, k_lenSet, k_minD, k_min2, k_min1, k_setI1, k_setI2, k_setI3, k_setA1, k_setA2, k_enum, k_asT3, List.set_cons_succ, List.set_cons_zero, List.getElem?_cons_zero, List.getElem?_cons_succ, R.bind_ok, R.lift_some, empty_cps, if_true, hm, hkz2, hsl, hj, Int.toNat_natCast])
  have ew : (upTo 0 (5 : Nat)).map (fun x => match x with | .int k => V.str (word L z k.toNat) | _ => .none) = wordsV L z := by
    rw [upTo_map]; rfl
  rw [ew] at e2
  refine ⟨[some (.int cell), some (.int g), some (.int z), some (.lst (L.map fun c => V.str [c])), none, none], [.dead, .dead], ?_⟩
  rw [qvSs_cons, qvS_asg, e1, R.bind_ok, qset, R.bind_ok]
  simp only [List.set_cons_succ, List.set_cons_zero]
  rw [qvSs_cons, qvS_ret, e2, R.bind_ok, R.bind_ok]
  simp only [List.append_assoc, List.cons_append, List.nil_append]
  rfl
/-- what the words are -/
structure Lets (L : List Nat) (z : Nat) : Prop where
  len : L.length = 5 * z
  z1 : 1 ≤ z
  z19 : z ≤ 19
  nd : L.Nodup
  lt : ∀ c ∈ L, c < 128
theorem words_lo (L : List Nat) (z n : Nat) : (V.lst (wordsV L z)).lo n = true := by
  rw [qfree_lst]; exact los_of fun y hy => by unfold wordsV at hy; obtain ⟨k, _, rfl⟩ := List.mem_map.mp hy; exact qfree_str _
theorem letters_run (F : Fn) (K : Nat) (cell : Int) : ∃ L z, Lets L z ∧ ∀ (σ : List O), Cl σ → (∀ i τ, Cl τ → F "_law_sign_by" [.int i] τ = .ok (.str [signAt i]) ⟨[], τ⟩) →
    runDef F K d_letters [.int cell] σ = .ok (.lst (wordsV L z)) ⟨[], σ⟩ := by
  obtain ⟨x, hx, hm⟩ := idx_mod (([1, 5, 7, 11, 13, 17, 19, 23] : List Int).map V.int) (i := Int.fdiv cell 96) (n := 8) (by omega) (by omega) (by decide)
  obtain ⟨g, hgm, rfl⟩ := List.mem_map.mp hm
  have hx' : idxOf [V.int 1, V.int 5, V.int 7, V.int 11, V.int 13, V.int 17, V.int 19, V.int 23] ((cell.fdiv 96).fmod 8) = some (.int g) := hx
  have hs : ∀ σ, evSs F K d_lettersB ⟨[some (.int cell), none, none, none, none, none], σ⟩ =
      evSs F K (.cons (.ifte (.cmp .eq (.bin .mod (.bin .fdiv (.loc 0) (.int 768)) (.int 4)) (.int 1)) (.cons (.asg 2 (.bin .add (.bin .add (.int 2) (.bin .mod (.bin .fdiv (.loc 0) (.int 3072)) (.int 8))) (.bin .mul (.int 10) (.bin .mod (.bin .fdiv (.loc 0) (.int 24576)) (.int 2))))) .nil) .nil)
        (.cons (.asg 3 (.comp d_lettersC4 4 (.range1 (.bin .mul (.int 5) (.loc 2))) .nil)) (.cons (.ret (.comp d_lettersC5 5 (.range1 (.int 5)) .nil)) .nil))) ⟨[some (.int cell), some (.int g), some (.int 1), none, none, none], σ⟩ := by
    intro σ
    have h8 : (8 : Nat) ≤ sizeLine := by decide
    unfold d_lettersB
    rw [qvSs_cons, qvS_asg, qvE_sub, qvE_list]
    simp only [qvEs_cons, qvEs_nil, qvE_int, R.bind_ok, List.length_cons, List.length_nil, Nat.zero_add, Nat.reduceAdd, if_pos h8, qvE_bin, qvE_loc, List.getElem?_cons_zero, R.lift_some, qb_fdiv _ _ (show (96 : Int) ≠ 0 by decide), qb_mod _ _ (show (8 : Int) ≠ 0 by decide), qs_lst, hx', qset, List.set_cons_succ, List.set_cons_zero]
    rw [qvSs_cons, qvS_asg, qvE_int, R.bind_ok, qset, R.bind_ok]
    rfl
  have fin : ∀ (z : Nat), 1 ≤ z → z ≤ 19 → (∀ σ, evSs F K d_lettersB ⟨[some (.int cell), none, none, none, none, none], σ⟩ =
      evSs F K (.cons (.asg 3 (.comp d_lettersC4 4 (.range1 (.bin .mul (.int 5) (.loc 2))) .nil)) (.cons (.ret (.comp d_lettersC5 5 (.range1 (.int 5)) .nil)) .nil)) ⟨[some (.int cell), some (.int g), some (.int z), none, none, none], σ⟩) →
      ∃ L z, Lets L z ∧ ∀ (σ : List O), Cl σ → (∀ i τ, Cl τ → F "_law_sign_by" [.int i] τ = .ok (.str [signAt i]) ⟨[], τ⟩) → runDef F K d_letters [.int cell] σ = .ok (.lst (wordsV L z)) ⟨[], σ⟩ := by
    intro z h1 h2 he
    refine ⟨chars cell g z, z, ⟨chars_len _ _ _, h1, h2, chars_nd h2 hgm, fun c h => chars_lt h⟩, fun σ hσ hF => run_ok rfl ?_ (words_lo _ _ _) hσ⟩
    show Ret (evSs F K d_lettersB ⟨[some (.int cell), none, none, none, none, none], σ⟩) _ _
    rw [he]; exact letters_tail F K cell g z h1 h2 σ hσ hF
  by_cases hc : (cell.fdiv 768).fmod 4 = 1
  · obtain ⟨a, ha, ha8⟩ := fmod_nat (cell.fdiv 3072) 8 (by omega)
    obtain ⟨b, hb, hb2⟩ := fmod_nat (cell.fdiv 24576) 2 (by omega)
    have ha' : (cell.fdiv 3072).fmod 8 = a := ha
    have hb' : (cell.fdiv 24576).fmod 2 = b := hb
    refine fin (2 + a + 10 * b) (by omega) (by omega) fun σ => ?_
    rw [hs, qvSs_cons]
    have hm := qb_mul 10 b (by rw [small_lit (i := 10) (by omega) (by omega)]; rfl)
    have e : (2 : Int) + (a : Int) + 10 * (b : Int) = ((2 + a + 10 * b : Nat) : Int) := by omega
    have hst : evS F K (.ifte (.cmp .eq (.bin .mod (.bin .fdiv (.loc 0) (.int 768)) (.int 4)) (.int 1)) (.cons (.asg 2 (.bin .add (.bin .add (.int 2) (.bin .mod (.bin .fdiv (.loc 0) (.int 3072)) (.int 8))) (.bin .mul (.int 10) (.bin .mod (.bin .fdiv (.loc 0) (.int 24576)) (.int 2))))) .nil) .nil) ⟨[some (.int cell), some (.int g), some (.int 1), none, none, none], σ⟩ =
        .ok .next ⟨[some (.int cell), some (.int g), some (.int ((2 + a + 10 * b : Nat) : Int)), none, none, none], σ⟩ := by
      rw [← e]
      simp [qvE_none, qvE_bool, qvE_int, qvE_str, wk_loc, qvE_fz, qvE_neg, qvEs_nil, qvTs_nil, qvO_none, qvO_some, qvS_brk, qvSs_nil, wvE_bin, wvE_cmp, wvE_sub, wvE_slice, wvE_chain, wvE_band, wvE_bor, wvE_not, wvE_ite, wvE_tup, wvE_list, wvE_listM, wvE_isin, wvE_bi, wvE_me, wvE_call, wvE_callB, wvE_callZ, wvEs_cons, wvTs_cons, wvS_asg, wvS_expr, wvS_ret, wvS_ifte, wvSs_cons, wvIt_val, wvIt_range1, wvIt_range2, wvIt_zip, k_bin2, k_bin1, k_cmp2, k_cmp1, k_sub2, k_sub1, k_sl2, k_sl1, k_sl0, k_ch0, k_ch1, k_ch2t, k_ch2f, k_ch3, k_band2, k_band1t, k_band1f, k_bor2, k_bor1t, k_bor1f, k_not, k_truth, k_ite_t, k_ite_f, k_tup, k_list, k_listM, k_isin, k_bi, k_me2, k_me1, k_call, k_callR, k_frz, k_cons2, k_cons1, k_test_t, k_test_f, k_asg, k_expr, k_ret, k_if_t, k_if_f, k_seq, k_seqr, k_seqb, k_items, k_rng1, k_rng2, k_rngB, k_zip2, k_zipB, qc_lt, qc_le, qc_gt, qc_ge, qc_is, qc_isnot, qc_in, qc_notin, qc_eqi, qc_nei, qb_add, qb_sub, qb_fdiv, qb_mod, qb_pow, qt_bool, qs_tup, qs_lst, qs_str, qset, qn_none, qn_int, qn_str, qn_tup, qr_find, qr_index, qr_join, wvE_attr, wvE_lenSet, wvE_minD, wvE_min2, wvE_newI, wvE_dictM, qvE_glob, wvS_asgI, wvS_asgA, wvS_asgT, wvIt_enum, k_attr, k_lenSet, k_minD, k_min2, k_min1, k_setI1, k_setI2, k_setI3, k_setA1, k_setA2, k_enum, k_asT3, hc, ha', hb', hm]
    rw [hst, R.bind_ok]
  · refine fin 1 (by omega) (by omega) fun σ => ?_
    rw [hs, qvSs_cons]
    have hst : evS F K (.ifte (.cmp .eq (.bin .mod (.bin .fdiv (.loc 0) (.int 768)) (.int 4)) (.int 1)) (.cons (.asg 2 (.bin .add (.bin .add (.int 2) (.bin .mod (.bin .fdiv (.loc 0) (.int 3072)) (.int 8))) (.bin .mul (.int 10) (.bin .mod (.bin .fdiv (.loc 0) (.int 24576)) (.int 2))))) .nil) .nil) ⟨[some (.int cell), some (.int g), some (.int 1), none, none, none], σ⟩ =
        .ok .next ⟨[some (.int cell), some (.int g), some (.int 1), none, none, none], σ⟩ := by
      have d1 : ((cell.fdiv 768).fmod 4 == 1) = false := by rw [beq_eq_false_iff_ne]; exact hc
      simp [qvE_none, qvE_bool, qvE_int, qvE_str, wk_loc, qvE_fz, qvE_neg, qvEs_nil, qvTs_nil, qvO_none, qvO_some, qvS_brk, qvSs_nil, wvE_bin, wvE_cmp, wvE_sub, wvE_slice, wvE_chain, wvE_band, wvE_bor, wvE_not, wvE_ite, wvE_tup, wvE_list, wvE_listM, wvE_isin, wvE_bi, wvE_me, wvE_call, wvE_callB, wvE_callZ, wvEs_cons, wvTs_cons, wvS_asg, wvS_expr, wvS_ret, wvS_ifte, wvSs_cons, wvIt_val, wvIt_range1, wvIt_range2, wvIt_zip, k_bin2, k_bin1, k_cmp2, k_cmp1, k_sub2, k_sub1, k_sl2, k_sl1, k_sl0, k_ch0, k_ch1, k_ch2t, k_ch2f, k_ch3, k_band2, k_band1t, k_band1f, k_bor2, k_bor1t, k_bor1f, k_not, k_truth, k_ite_t, k_ite_f, k_tup, k_list, k_listM, k_isin, k_bi, k_me2, k_me1, k_call, k_callR, k_frz, k_cons2, k_cons1, k_test_t, k_test_f, k_asg, k_expr, k_ret, k_if_t, k_if_f, k_seq, k_seqr, k_seqb, k_items, k_rng1, k_rng2, k_rngB, k_zip2, k_zipB, qc_lt, qc_le, qc_gt, qc_ge, qc_is, qc_isnot, qc_in, qc_notin, qc_eqi, qc_nei, qb_add, qb_sub, qb_fdiv, qb_mod, qb_pow, qt_bool, qs_tup, qs_lst, qs_str, qset, qn_none, qn_int, qn_str, qn_tup, qr_find, qr_index, qr_join, wvE_attr, wvE_lenSet, wvE_minD, wvE_min2, wvE_newI, wvE_dictM, qvE_glob, wvS_asgI, wvS_asgA, wvS_asgT, wvIt_enum, k_attr, k_lenSet, k_minD, k_min2, k_min1, k_setI1, k_setI2, k_setI3, k_setA1, k_setA2, k_enum, k_asT3, d1]
    rw [hst, R.bind_ok]
    rfl

end Mine
namespace Mine
open PySem
/-! some of the words -/
noncomputable def someStep (W : Nat → List Nat) (i : Nat) (p : Nat × List Nat) : Nat × List Nat := (p.1 / 2, if p.1 % 2 = 1 then W i ++ p.2 else p.2)
noncomputable def someI (W : Nat → List Nat) (m : Nat) : Nat → Nat × List Nat
  | 0 => (m, [])
  | i + 1 => someStep W i (someI W m i)
noncomputable def someOf (W : Nat → List Nat) (m : Nat) : List Nat := (someI W m 4).2
structure SomeOk (L : List Nat) (z m i : Nat) (p : Nat × List Nat) : Prop where
  mm : p.1 = m / 2 ^ i
  nd : p.2.Nodup
  sub : ∀ c ∈ p.2, ∃ k, k < i ∧ c ∈ word L z k
  ne : p.2 = [] → m % 2 ^ i = 0
  len : p.2.length ≤ 19 * i
theorem some_ok {L : List Nat} {z : Nat} (h : Lets L z) (m : Nat) : ∀ i, i ≤ 4 → SomeOk L z m i (someI (word L z) m i)
  | 0, _ => ⟨by simp [someI], by simp [someI], by simp [someI], fun _ => by simp [Nat.mod_one], by simp [someI]⟩
  | i + 1, hi => by
    have ih := some_ok h m i (by omega)
    have hp : (2 : Nat) ^ (i + 1) = 2 ^ i * 2 := Nat.pow_succ ..
    have hmod : m % 2 ^ (i + 1) = m % 2 ^ i + 2 ^ i * (m / 2 ^ i % 2) := by rw [hp, Nat.mod_mul]
    have hwl := word_len (k := i) (by omega) h.len
    rw [someI]
    generalize someI (word L z) m i = p at ih
    unfold someStep
    refine ⟨?_, ?_, ?_, ?_, ?_⟩
    · show p.1 / 2 = _
      rw [ih.mm, Nat.div_div_eq_div_mul, hp]
    · show (if p.1 % 2 = 1 then word L z i ++ p.2 else p.2).Nodup
      split
      · rw [List.nodup_append]
        refine ⟨word_nd h.nd, ih.nd, fun a ha b hb e => ?_⟩
        subst e
        obtain ⟨k, hk, hc⟩ := ih.sub a hb
        exact word_disj h.nd hk hc ha
      · exact ih.nd
    · show ∀ c ∈ (if p.1 % 2 = 1 then word L z i ++ p.2 else p.2), _
      intro c hc
      split at hc
      · rcases List.mem_append.mp hc with hc | hc
        · exact ⟨i, by omega, hc⟩
        · obtain ⟨k, hk, hc⟩ := ih.sub c hc; exact ⟨k, by omega, hc⟩
      · obtain ⟨k, hk, hc⟩ := ih.sub c hc; exact ⟨k, by omega, hc⟩
    · show (if p.1 % 2 = 1 then word L z i ++ p.2 else p.2) = [] → _
      intro hc
      split at hc
      · have := congrArg List.length hc
        rw [List.length_append, hwl, List.length_nil] at this
        have := h.z1
        omega
      · rename_i hb
        have h0 := ih.ne hc
        rw [ih.mm] at hb
        rw [hmod, h0]
        have : m / 2 ^ i % 2 = 0 := by omega
        rw [this]
        rfl
    · show (if p.1 % 2 = 1 then word L z i ++ p.2 else p.2).length ≤ _
      have := ih.len
      have := h.z19
      split
      · rw [List.length_append, hwl]; omega
      · omega
/-- a leaf's signs -/
structure LeafOk (s : List Nat) : Prop where
  ne : s ≠ []
  nd : s.Nodup
  lt : s.all (· < 128) = true
  len : s.length ≤ 76
theorem leaf_ok {L : List Nat} {z : Nat} (h : Lets L z) {m : Nat} (h1 : 1 ≤ m) (h2 : m ≤ 15) : LeafOk (someOf (word L z) m) := by
  have o := some_ok h m 4 (Nat.le_refl _)
  refine ⟨fun e => ?_, o.nd, List.all_eq_true.mpr fun c hc => ?_, o.len⟩
  · have := o.ne e
    have h16 : m % 2 ^ 4 = m := Nat.mod_eq_of_lt (by omega)
    omega
  · obtain ⟨k, _, hk⟩ := o.sub c hc
    exact decide_eq_true (h.lt c (word_sub c hk))
theorem nodup_dups : ∀ {l : List Nat}, l.Nodup → l.eraseDups = l
  | [], _ => rfl
  | a :: l, h => by
    rw [List.nodup_cons] at h
    rw [List.eraseDups_cons]
    have : l.filter (fun b => !b == a) = l := by
      rw [List.filter_eq_self]
      intro b hb
      have : b ≠ a := fun e => h.1 (e ▸ hb)
      simp [this]
    rw [this, nodup_dups h.2]
theorem fdiv_nat (m n : Nat) : Int.fdiv (m : Int) (n : Int) = ((m / n : Nat) : Int) := by
  rw [Int.fdiv_eq_ediv_of_nonneg _ (by omega)]; rfl
theorem fmod_natn (m n : Nat) : Int.fmod (m : Int) (n : Int) = ((m % n : Nat) : Int) := by
  rw [Int.fmod_eq_emod_of_nonneg _ (by omega)]; rfl
theorem words_get {L : List Nat} {z k : Nat} (hk : k < 5) : (wordsV L z)[k]? = some (.str (word L z k)) := by
  unfold wordsV
  rw [List.getElem?_map, List.getElem?_range hk]; rfl
theorem some_of_run (F : Fn) (K : Nat) {L : List Nat} {z : Nat} (h : Lets L z) (m : Nat) (σ : List O) (hσ : Cl σ) : runDef F K d_some_of [.lst (wordsV L z), .int m] σ = .ok (.str (someOf (word L z) m)) ⟨[], σ⟩ := by
  obtain ⟨st, e, x3, rfl⟩ := forR_all (step := fun x st => evSs F K d_some_ofL0 (setV st 3 x))
    (fun i st => ∃ x3, st = ⟨[some (.lst (wordsV L z)), some (.int ((someI (word L z) m i).1 : Nat)), some (.str (someI (word L z) m i).2), x3], σ⟩)
    (upTo 0 (4 : Nat)) 0 ⟨[some (.lst (wordsV L z)), some (.int m), some (.str []), none], σ⟩ (by
      rintro i x st hx ⟨x3, rfl⟩
      rw [Nat.zero_add] at *
      have hi : i < 4 := by have := (List.getElem?_eq_some_iff.mp hx).1; rwa [len_upTo] at this
      have hxi : x = .int (i : Int) := by
        unfold upTo at hx
        rw [List.getElem?_map] at hx
        obtain ⟨k, hk, rfl⟩ := Option.map_eq_some_iff.mp hx
        obtain ⟨hk1, rfl⟩ := List.getElem?_eq_some_iff.mp hk
        simp
      subst hxi
      have o := some_ok h m i (by omega)
      have hwl := word_len (k := i) (by omega) h.len
      refine ⟨⟨[some (.lst (wordsV L z)), some (.int ((someI (word L z) m (i + 1)).1 : Nat)), some (.str (someI (word L z) m (i + 1)).2), some (.int i)], σ⟩, ?_, _, rfl⟩
      rw [someI]
      generalize someI (word L z) m i = p at o
      have hd := fdiv_nat p.1 2
      have hm := fmod_natn p.1 2
      have hd' : Int.fdiv (p.1 : Int) 2 = ((p.1 / 2 : Nat) : Int) := hd
      have hm' : Int.fmod (p.1 : Int) 2 = ((p.1 % 2 : Nat) : Int) := hm
      have hi5 : idxOf (wordsV L z) (i : Int) = some (.str (word L z i)) := by rw [idx_nat _ (by omega), words_get (by omega)]
      have hz := h.z19
      have hol := o.len
      have ha := qb_adds (word L z i) p.2 (by unfold sizeLine; omega)
      unfold someStep
      by_cases hb : p.1 % 2 = 1
      · have hc : (((p.1 % 2 : Nat) : Int) == 1) = true := by rw [hb]; rfl
        simp only [d_some_ofL0, qvE_none, qvE_bool, qvE_int, qvE_str, wk_loc, qvE_fz, qvE_neg, qvEs_nil, qvTs_nil, qvO_none, qvO_some, qvS_brk, qvSs_nil, wvE_bin, wvE_cmp, wvE_sub, wvE_slice, wvE_chain, wvE_band, wvE_bor, wvE_not, wvE_ite, wvE_tup, wvE_list, wvE_listM, wvE_isin, wvE_bi, wvE_me, wvE_call, wvE_callB, wvE_callZ, wvEs_cons, wvTs_cons, wvS_asg, wvS_expr, wvS_ret, wvS_ifte, wvSs_cons, wvIt_val, wvIt_range1, wvIt_range2, wvIt_zip, k_bin2, k_bin1, k_cmp2, k_cmp1, k_sub2, k_sub1, k_sl2, k_sl1, k_sl0, k_ch0, k_ch1, k_ch2t, k_ch2f, k_ch3, k_band2, k_band1t, k_band1f, k_bor2, k_bor1t, k_bor1f, k_not, k_truth, k_ite_t, k_ite_f, k_tup, k_list, k_listM, k_isin, k_bi, k_me2, k_me1, k_call, k_callR, k_frz, k_cons2, k_cons1, k_test_t, k_test_f, k_asg, k_expr, k_ret, k_if_t, k_if_f, k_seq, k_seqr, k_seqb, k_items, k_rng1, k_rng2, k_rngB, k_zip2, k_zipB, qc_lt, qc_le, qc_gt, qc_ge, qc_is, qc_isnot, qc_in, qc_notin, qc_eqi, qc_nei, qb_add, qb_sub, qb_fdiv, qb_mod, qb_pow, qt_bool, qs_tup, qs_lst, qs_str, qset, qn_none, qn_int, qn_str, qn_tup, qr_find, qr_index, qr_join, wvE_attr, wvE_lenSet, wvE_minD, wvE_min2, wvE_newI, wvE_dictM, qvE_glob, wvS_asgI, wvS_asgA, wvS_asgT, wvIt_enum, k_attr, k_lenSet, k_minD, k_min2, k_min1, k_setI1, k_setI2, k_setI3, k_setA1, k_setA2, k_enum, k_asT3, qset, List.set_cons_succ, List.set_cons_zero, List.getElem?_cons_zero, List.getElem?_cons_succ, R.bind_ok, R.lift_some, hm', hd', hc, hi5, ha, Option.map_some, if_pos hb, ne_eq, Int.reduceEq, not_false_eq_true]
      · have hc : (((p.1 % 2 : Nat) : Int) == 1) = false := by rw [beq_eq_false_iff_ne]; omega
        simp only [d_some_ofL0, qvE_none, qvE_bool, qvE_int, qvE_str, wk_loc, qvE_fz, qvE_neg, qvEs_nil, qvTs_nil, qvO_none, qvO_some, qvS_brk, qvSs_nil, wvE_bin, wvE_cmp, wvE_sub, wvE_slice, wvE_chain, wvE_band, wvE_bor, wvE_not, wvE_ite, wvE_tup, wvE_list, wvE_listM, wvE_isin, wvE_bi, wvE_me, wvE_call, wvE_callB, wvE_callZ, wvEs_cons, wvTs_cons, wvS_asg, wvS_expr, wvS_ret, wvS_ifte, wvSs_cons, wvIt_val, wvIt_range1, wvIt_range2, wvIt_zip, k_bin2, k_bin1, k_cmp2, k_cmp1, k_sub2, k_sub1, k_sl2, k_sl1, k_sl0, k_ch0, k_ch1, k_ch2t, k_ch2f, k_ch3, k_band2, k_band1t, k_band1f, k_bor2, k_bor1t, k_bor1f, k_not, k_truth, k_ite_t, k_ite_f, k_tup, k_list, k_listM, k_isin, k_bi, k_me2, k_me1, k_call, k_callR, k_frz, k_cons2, k_cons1, k_test_t, k_test_f, k_asg, k_expr, k_ret, k_if_t, k_if_f, k_seq, k_seqr, k_seqb, k_items, k_rng1, k_rng2, k_rngB, k_zip2, k_zipB, qc_lt, qc_le, qc_gt, qc_ge, qc_is, qc_isnot, qc_in, qc_notin, qc_eqi, qc_nei, qb_add, qb_sub, qb_fdiv, qb_mod, qb_pow, qt_bool, qs_tup, qs_lst, qs_str, qset, qn_none, qn_int, qn_str, qn_tup, qr_find, qr_index, qr_join, wvE_attr, wvE_lenSet, wvE_minD, wvE_min2, wvE_newI, wvE_dictM, qvE_glob, wvS_asgI, wvS_asgA, wvS_asgT, wvIt_enum, k_attr, k_lenSet, k_minD, k_min2, k_min1, k_setI1, k_setI2, k_setI3, k_setA1, k_setA2, k_enum, k_asT3, qset, List.set_cons_succ, List.set_cons_zero, List.getElem?_cons_zero, List.getElem?_cons_succ, R.bind_ok, R.lift_some, hm', hd', hc, Option.map_some, if_neg hb, ne_eq, Int.reduceEq, not_false_eq_true])
    ⟨none, rfl⟩
  rw [len_upTo] at e
  refine run_ok rfl ?_ (qfree_str _) hσ
  show Ret (evSs F K d_some_ofB ⟨[some (.lst (wordsV L z)), some (.int m), none, none], σ⟩) _ _
  refine Ret.mk0 (ρ := [some (.lst (wordsV L z)), some (.int ((someI (word L z) m 4).1 : Nat)), some (.str (someOf (word L z) m)), x3]) ?_
  have e' : forR (fun x st => evSs F K d_some_ofL0 (setV st 3 x)) (upTo 0 4) ⟨[some (.lst (wordsV L z)), some (.int m), some (.str []), none], σ⟩ = .ok .next ⟨[some (.lst (wordsV L z)), some (.int ((someI (word L z) m 4).1 : Nat)), some (.str (someOf (word L z) m)), x3], σ⟩ := e
  have r4 : smallR 4 = true := smallR_nat (n := 4) (by omega)
  simp only [d_some_ofB, qvE_none, qvE_bool, qvE_int, qvE_str, wk_loc, qvE_fz, qvE_neg, qvEs_nil, qvTs_nil, qvO_none, qvO_some, qvS_brk, qvSs_nil, wvE_bin, wvE_cmp, wvE_sub, wvE_slice, wvE_chain, wvE_band, wvE_bor, wvE_not, wvE_ite, wvE_tup, wvE_list, wvE_listM, wvE_isin, wvE_bi, wvE_me, wvE_call, wvE_callB, wvE_callZ, wvEs_cons, wvTs_cons, wvS_asg, wvS_expr, wvS_ret, wvS_ifte, wvSs_cons, wvIt_val, wvIt_range1, wvIt_range2, wvIt_zip, k_bin2, k_bin1, k_cmp2, k_cmp1, k_sub2, k_sub1, k_sl2, k_sl1, k_sl0, k_ch0, k_ch1, k_ch2t, k_ch2f, k_ch3, k_band2, k_band1t, k_band1f, k_bor2, k_bor1t, k_bor1f, k_not, k_truth, k_ite_t, k_ite_f, k_tup, k_list, k_listM, k_isin, k_bi, k_me2, k_me1, k_call, k_callR, k_frz, k_cons2, k_cons1, k_test_t, k_test_f, k_asg, k_expr, k_ret, k_if_t, k_if_f, k_seq, k_seqr, k_seqb, k_items, k_rng1, k_rng2, k_rngB, k_zip2, k_zipB, qc_lt, qc_le, qc_gt, qc_ge, qc_is, qc_isnot, qc_in, qc_notin, qc_eqi, qc_nei, qb_add, qb_sub, qb_fdiv, qb_mod, qb_pow, qt_bool, qs_tup, qs_lst, qs_str, qset, qn_none, qn_int, qn_str, qn_tup, qr_find, qr_index, qr_join, wvE_attr, wvE_lenSet, wvE_minD, wvE_min2, wvE_newI, wvE_dictM, qvE_glob, wvS_asgI, wvS_asgA, wvS_asgT, wvIt_enum, k_attr, k_lenSet, k_minD, k_min2, k_min1, k_setI1, k_setI2, k_setI3, k_setA1, k_setA2, k_enum, k_asT3, wvS_for1, k_for, empty_cps, r4, if_true, List.set_cons_succ, List.set_cons_zero, List.getElem?_cons_zero, List.getElem?_cons_succ, R.bind_ok, R.lift_some, e']

end Mine
namespace Mine
open PySem
/-! the law -/
noncomputable def Txt (v : V) : Prop := ∃ s : List Nat, v = .str s ∧ s.length ≤ 100
theorem law_turn (F : Fn) (K : Nat) {L : List Nat} {z : Nat} (hL : Lets L z) (sc : V) (many k : Nat) (hk : k ≤ 60) (ms : List Nat) (hml : ms.length = k) (tx : List Nat) (htl : tx.length = k) (num : Int) (x6 x7 : Option V) (r : List (Option V))
    (hF : ∀ (m : Nat) (τ : List O), Cl τ → F "_law_some_of" [.lst (wordsV L z), .int m] τ = .ok (.str (someOf (word L z) m)) ⟨[], τ⟩) :
    ∃ (m c : Nat) (num' : Int) (x7' : Option V), 1 ≤ m ∧ m ≤ 15 ∧ evSs F K d_lawL0 (setV ⟨[some sc, some (.lst (wordsV L z)), some (.int many), some (.ref 0), some (.str tx), some (.int num), x6, x7] ++ r, [.lst (ms.map fun m => .int (m : Nat))]⟩ 6 (.int k)) =
      .ok .next ⟨[some sc, some (.lst (wordsV L z)), some (.int many), some (.ref 0), some (.str (tx ++ [c])), some (.int num'), some (.int k), x7'] ++ r, [.lst ((ms ++ [m]).map fun m => .int (m : Nat))]⟩ := by
  have s7 : smallI 48271 = true := small_lit (by omega) (by omega)
  have hmu := qb_mul num 48271 (by rw [s7]; simp)
  obtain ⟨b, hb, hb15⟩ := fmod_nat (Int.fdiv ((num * 48271 + 11).fmod 2147483647) 7) 15 (by omega)
  have hb' : (((num * 48271 + 11).fmod 2147483647).fdiv 7).fmod 15 = b := hb
  have e1 : (1 : Int) + (b : Int) = ((1 + b : Nat) : Int) := by omega
  have hms : (ms ++ [1 + b]).map (fun m : Nat => V.int (m : Int)) = ms.map (fun m : Nat => V.int (m : Int)) ++ [.int ((1 + b : Nat) : Int)] := by simp
  have hrc := qr_append [O.lst (ms.map fun m : Nat => V.int (m : Int))] 0 _ rfl
  have hap : ∀ ρ, meSem .append (.ref 0) (.int ((1 + b : Nat) : Int)) ⟨ρ, [O.lst (ms.map fun m : Nat => V.int (m : Int))]⟩ = .ok .none ⟨ρ, [O.lst ((ms ++ [1 + b]).map fun m : Nat => V.int (m : Int))]⟩ := fun ρ => by
    rw [qm_append ρ _ 0 _ _ rfl (by rw [List.length_map, hml]; unfold sizeLine; omega), hms]; rfl
  have hsub : subSem [O.lst ((ms ++ [1 + b]).map fun m : Nat => V.int (m : Int))] (.ref 0) (.int (k : Int)) = some (.int ((1 + b : Nat) : Int)) := by
    rw [q_subR rfl, idx_nat _ (by omega), hms, ← hml, List.getElem?_append_right (by simp), List.length_map, Nat.sub_self]; rfl
  have hcl : Cl [O.lst ((ms ++ [1 + b]).map fun m : Nat => V.int (m : Int))] := by
    unfold Cl
    simp only [List.all_cons, List.all_nil, Bool.and_true]
    exact los_of fun y hy => by obtain ⟨m, _, rfl⟩ := List.mem_map.mp hy; exact qfree_int _
  have hs := hF (1 + b) _ hcl
  have ok := leaf_ok hL (m := 1 + b) (by omega) (by omega)
  generalize someOf (word L z) (1 + b) = s at hs ok
  have hsl : 0 < s.length := by cases s with | nil => exact absurd rfl ok.ne | cons _ _ => simp
  have hs76 := ok.len
  obtain ⟨c, hc, _⟩ := idx_mod s (i := Int.fdiv ((num * 48271 + 11).fmod 2147483647) 105) (n := s.length) hsl (by omega) (Nat.le_refl _)
  have hmd := qb_mod (Int.fdiv ((num * 48271 + 11).fmod 2147483647) 105) (s.length : Int) (by omega)
  have bl : ∀ σ, biSem σ .len (.str s) = some (.int s.length) := fun σ => ql_str _ _
  have ha := qb_adds tx [c] (by unfold sizeLine; simp only [List.length_singleton]; omega)
  refine ⟨1 + b, c, (num * 48271 + 11).fmod 2147483647, some (.str s), by omega, by omega, ?_⟩
  simp only [d_lawL0, qvE_none, qvE_bool, qvE_int, qvE_str, wk_loc, qvE_fz, qvE_neg, qvEs_nil, qvTs_nil, qvO_none, qvO_some, qvS_brk, qvSs_nil, wvE_bin, wvE_cmp, wvE_sub, wvE_slice, wvE_chain, wvE_band, wvE_bor, wvE_not, wvE_ite, wvE_tup, wvE_list, wvE_listM, wvE_isin, wvE_bi, wvE_me, wvE_call, wvE_callB, wvE_callZ, wvEs_cons, wvTs_cons, wvS_asg, wvS_expr, wvS_ret, wvS_ifte, wvSs_cons, wvIt_val, wvIt_range1, wvIt_range2, wvIt_zip, k_bin2, k_bin1, k_cmp2, k_cmp1, k_sub2, k_sub1, k_sl2, k_sl1, k_sl0, k_ch0, k_ch1, k_ch2t, k_ch2f, k_ch3, k_band2, k_band1t, k_band1f, k_bor2, k_bor1t, k_bor1f, k_not, k_truth, k_ite_t, k_ite_f, k_tup, k_list, k_listM, k_isin, k_bi, k_me2, k_me1, k_call, k_callR, k_frz, k_cons2, k_cons1, k_test_t, k_test_f, k_asg, k_expr, k_ret, k_if_t, k_if_f, k_seq, k_seqr, k_seqb, k_items, k_rng1, k_rng2, k_rngB, k_zip2, k_zipB, qc_lt, qc_le, qc_gt, qc_ge, qc_is, qc_isnot, qc_in, qc_notin, qc_eqi, qc_nei, qb_add, qb_sub, qb_fdiv, qb_mod, qb_pow, qt_bool, qs_tup, qs_lst, qs_str, qset, qn_none, qn_int, qn_str, qn_tup, qr_find, qr_index, qr_join, wvE_attr, wvE_lenSet, wvE_minD, wvE_min2, wvE_newI, wvE_dictM, qvE_glob, wvS_asgI, wvS_asgA, wvS_asgT, wvIt_enum, k_attr, k_lenSet, k_minD, k_min2, k_min1, k_setI1, k_setI2, k_setI3, k_setA1, k_setA2, k_enum, k_asT3, qset, List.cons_append, List.nil_append, List.set_cons_succ, List.set_cons_zero, List.getElem?_cons_zero, List.getElem?_cons_succ, R.bind_ok, R.lift_some, hmu, hb', e1, hrc, if_true, hap, hsub, hs, bl, hmd, hc, ha, Option.map_some, ne_eq, Int.reduceEq, not_false_eq_true, qb_mod _ _ (show (2147483647 : Int) ≠ 0 by decide), qb_fdiv _ _ (show (7 : Int) ≠ 0 by decide), qb_fdiv _ _ (show (105 : Int) ≠ 0 by decide)]
noncomputable def dueB (ts : List (List Nat)) (tx : List Nat) : Nat → Bool
  | 0 => true
  | k + 1 => dueB ts tx k && (match tx[k]? with | some c => hit ts k c | none => false)
theorem law_due_turn (F : Fn) (K : Nat) (ts : List (List Nat)) (tx : List Nat) (k : Nat) (hk : k < ts.length) (hk2 : k < tx.length) (h60 : k < 1000) (a b c d e f g h : Option V) (due : Bool) (x11 x12 x13 : Option V) (σ : List O) (x6 : Option V) :
    evSs F K d_lawL2 (setV ⟨[a, b, c, d, some (.str tx), e, x6, f, g, some (.lst (ts.map oneV)), some (.bool due), x11, x12, x13], σ⟩ 6 (.int k)) =
      .ok .next ⟨[a, b, c, d, some (.str tx), e, some (.int k), f, g, some (.lst (ts.map oneV)), some (.bool (due && (match tx[k]? with | some c => hit ts k c | none => false))), x11, x12, x13], σ⟩ := by
  obtain ⟨ch, hch⟩ : ∃ ch, tx[k]? = some ch := ⟨tx[k], by simp [hk2]⟩
  obtain ⟨t, ht⟩ : ∃ t, ts[k]? = some t := ⟨ts[k], by simp [hk]⟩
  have i1 : idxOf tx (k : Int) = some ch := by rw [idx_nat _ (by omega), hch]
  have i2 : idxOf (ts.map oneV) (k : Int) = some (oneV t) := by rw [idx_nat _ (by omega), List.getElem?_map, ht]; rfl
  have hh : hit ts k ch = t.contains ch := by unfold hit; rw [ht]
  have st : subSem σ (oneV t) (.int 1) = some (.str t) := by unfold oneV; rw [qs_tup, idx1]; rfl
  rw [hch]
  dsimp only
  rw [hh]
  cases hc : t.contains ch
  · simp only [d_lawL2, qvE_none, qvE_bool, qvE_int, qvE_str, wk_loc, qvE_fz, qvE_neg, qvEs_nil, qvTs_nil, qvO_none, qvO_some, qvS_brk, qvSs_nil, wvE_bin, wvE_cmp, wvE_sub, wvE_slice, wvE_chain, wvE_band, wvE_bor, wvE_not, wvE_ite, wvE_tup, wvE_list, wvE_listM, wvE_isin, wvE_bi, wvE_me, wvE_call, wvE_callB, wvE_callZ, wvEs_cons, wvTs_cons, wvS_asg, wvS_expr, wvS_ret, wvS_ifte, wvSs_cons, wvIt_val, wvIt_range1, wvIt_range2, wvIt_zip, k_bin2, k_bin1, k_cmp2, k_cmp1, k_sub2, k_sub1, k_sl2, k_sl1, k_sl0, k_ch0, k_ch1, k_ch2t, k_ch2f, k_ch3, k_band2, k_band1t, k_band1f, k_bor2, k_bor1t, k_bor1f, k_not, k_truth, k_ite_t, k_ite_f, k_tup, k_list, k_listM, k_isin, k_bi, k_me2, k_me1, k_call, k_callR, k_frz, k_cons2, k_cons1, k_test_t, k_test_f, k_asg, k_expr, k_ret, k_if_t, k_if_f, k_seq, k_seqr, k_seqb, k_items, k_rng1, k_rng2, k_rngB, k_zip2, k_zipB, qc_lt, qc_le, qc_gt, qc_ge, qc_is, qc_isnot, qc_in, qc_notin, qc_eqi, qc_nei, qb_add, qb_sub, qb_fdiv, qb_mod, qb_pow, qt_bool, qs_tup, qs_lst, qs_str, qset, qn_none, qn_int, qn_str, qn_tup, qr_find, qr_index, qr_join, wvE_attr, wvE_lenSet, wvE_minD, wvE_min2, wvE_newI, wvE_dictM, qvE_glob, wvS_asgI, wvS_asgA, wvS_asgT, wvIt_enum, k_attr, k_lenSet, k_minD, k_min2, k_min1, k_setI1, k_setI2, k_setI3, k_setA1, k_setA2, k_enum, k_asT3, qset, List.set_cons_succ, List.set_cons_zero, List.getElem?_cons_zero, List.getElem?_cons_succ, R.bind_ok, R.lift_some, i1, i2, st, hc, Option.map_some, Bool.not_false, Bool.and_false]
  · simp only [d_lawL2, qvE_none, qvE_bool, qvE_int, qvE_str, wk_loc, qvE_fz, qvE_neg, qvEs_nil, qvTs_nil, qvO_none, qvO_some, qvS_brk, qvSs_nil, wvE_bin, wvE_cmp, wvE_sub, wvE_slice, wvE_chain, wvE_band, wvE_bor, wvE_not, wvE_ite, wvE_tup, wvE_list, wvE_listM, wvE_isin, wvE_bi, wvE_me, wvE_call, wvE_callB, wvE_callZ, wvEs_cons, wvTs_cons, wvS_asg, wvS_expr, wvS_ret, wvS_ifte, wvSs_cons, wvIt_val, wvIt_range1, wvIt_range2, wvIt_zip, k_bin2, k_bin1, k_cmp2, k_cmp1, k_sub2, k_sub1, k_sl2, k_sl1, k_sl0, k_ch0, k_ch1, k_ch2t, k_ch2f, k_ch3, k_band2, k_band1t, k_band1f, k_bor2, k_bor1t, k_bor1f, k_not, k_truth, k_ite_t, k_ite_f, k_tup, k_list, k_listM, k_isin, k_bi, k_me2, k_me1, k_call, k_callR, k_frz, k_cons2, k_cons1, k_test_t, k_test_f, k_asg, k_expr, k_ret, k_if_t, k_if_f, k_seq, k_seqr, k_seqb, k_items, k_rng1, k_rng2, k_rngB, k_zip2, k_zipB, qc_lt, qc_le, qc_gt, qc_ge, qc_is, qc_isnot, qc_in, qc_notin, qc_eqi, qc_nei, qb_add, qb_sub, qb_fdiv, qb_mod, qb_pow, qt_bool, qs_tup, qs_lst, qs_str, qset, qn_none, qn_int, qn_str, qn_tup, qr_find, qr_index, qr_join, wvE_attr, wvE_lenSet, wvE_minD, wvE_min2, wvE_newI, wvE_dictM, qvE_glob, wvS_asgI, wvS_asgA, wvS_asgT, wvIt_enum, k_attr, k_lenSet, k_minD, k_min2, k_min1, k_setI1, k_setI2, k_setI3, k_setA1, k_setA2, k_enum, k_asT3, qset, List.set_cons_succ, List.set_cons_zero, List.getElem?_cons_zero, List.getElem?_cons_succ, R.bind_ok, R.lift_some, i1, i2, st, hc, Option.map_some, Bool.not_true, Bool.and_true]
theorem due_hit (ts : List (List Nat)) : ∀ (tx pre : List Nat), allHit ts pre.length tx = true ∧ dueB ts (pre ++ tx) pre.length = true ↔ dueB ts (pre ++ tx) (pre.length + tx.length) = true
  | [], pre => by rw [List.append_nil, List.length_nil, Nat.add_zero]; exact ⟨fun h => h.2, fun h => ⟨rfl, h⟩⟩
  | c :: tx, pre => by
    have ih := due_hit ts tx (pre ++ [c])
    rw [List.length_append, List.length_singleton, List.append_assoc, List.singleton_append] at ih
    rw [List.length_cons, show pre.length + (tx.length + 1) = pre.length + 1 + tx.length by omega, ← ih, allHit, dueB]
    have : (pre ++ c :: tx)[pre.length]? = some c := by simp
    rw [this]
    dsimp only
    rw [Bool.and_eq_true, Bool.and_eq_true]
    exact ⟨fun h => ⟨h.1.2, h.2, h.1.1⟩, fun h => ⟨⟨h.2.2, h.1⟩, h.2.1⟩⟩
theorem due_tells {ts : List (List Nat)} {tx : List Nat} (h : tx.length = ts.length) : dueB ts tx (min ts.length tx.length) = allHit ts 0 tx := by
  have := due_hit ts tx []
  rw [List.nil_append, List.length_nil, Nat.zero_add] at this
  rw [← h, Nat.min_self, Bool.eq_iff_iff, ← this, dueB]
  exact ⟨fun h => h.1, fun h => ⟨h, rfl⟩⟩

end Mine
namespace Mine
open PySem
noncomputable def Sms.drop : Nat → Sms → Sms
  | 0, s => s
  | n + 1, .cons _ s => Sms.drop n s
  | _, .nil => .nil
noncomputable def Sms.nth : Nat → Sms → Sm
  | 0, .cons s _ => s
  | n + 1, .cons _ s => Sms.nth n s
  | _, .nil => .brk
theorem seq_step {F : Fn} {K : Nat} {s : Sm} {ss : Sms} {st st' : St} (h : evS F K s st = .ok .next st') : evSs F K (.cons s ss) st = evSs F K ss st' := by rw [wvSs_cons, h, k_seq]

theorem deps_of {k : Nat} : ∀ {xs : List V}, (∀ x ∈ xs, ∃ d, x.depth? = some d ∧ d ≤ k) → ∃ d, V.depths? xs = some d ∧ d ≤ k
  | [], _ => ⟨0, qdeps_nil, Nat.zero_le _⟩
  | x :: xs, h => by
    obtain ⟨d, h1, h2⟩ := h x (by simp)
    obtain ⟨e, h3, h4⟩ := deps_of (xs := xs) fun y hy => h y (List.mem_cons_of_mem _ hy)
    exact ⟨max d e, by rw [qdeps_cons, h1, h3], by omega⟩
theorem dep_lst {k : Nat} {xs : List V} (h : ∀ x ∈ xs, ∃ d, x.depth? = some d ∧ d ≤ k) : ∃ d, (V.lst xs).depth? = some d ∧ d ≤ k + 1 := by
  obtain ⟨d, h1, h2⟩ := deps_of h
  exact ⟨d + 1, by rw [qdep_lst, h1]; rfl, by omega⟩
theorem dep_tup {k : Nat} {xs : List V} (h : ∀ x ∈ xs, ∃ d, x.depth? = some d ∧ d ≤ k) : ∃ d, (V.tup xs).depth? = some d ∧ d ≤ k + 1 := by
  obtain ⟨d, h1, h2⟩ := deps_of h
  exact ⟨d + 1, by rw [qdep_tup, h1]; rfl, by omega⟩

theorem cut_le {α : Type} (xs : List α) (a b : Option Int) : (cutL xs a b).length ≤ xs.length := by
  unfold cutL
  rw [List.length_take, List.length_drop]; omega
theorem qsl_str1 (σ : List O) (x : List Nat) (l) : sliceSem σ (.str x) (.int l) .none = some (.str (cutL x (some l) none)) := Eq.trans rfl rfl
theorem qsl_ref0 {σ : List O} {n : Nat} {xs : List V} (h : σ[n]? = some (.lst xs)) (e : Int) : sliceSem σ (.ref n) .none (.int e) = some (.lst (cutL xs none (some e))) := by
  show (match σ[n]? with | some (.lst xs) => some (V.lst (cutL xs none (some e))) | _ => none) = _
  rw [h]
theorem cut_take {α : Type} (xs : List α) (n : Nat) (h : n ≤ xs.length) : cutL xs none (some (n : Int)) = xs.take n := by
  unfold cutL
  simp only [Option.elim_some, Option.elim_none, clip_nat]
  rw [Nat.min_eq_left h, Nat.sub_zero, List.drop_zero]
theorem one_lo (s : List Nat) (n : Nat) : (oneV s).lo n = true := by unfold oneV; rw [qfree_tup, qfrees_cons, qfree_str, qfrees_cons, qfree_str, qfrees_nil]; rfl
theorem row_lo (ts : List (List Nat)) (n : Nat) : (rowV (ts.map oneV)).lo n = true := by
  unfold rowV
  rw [qfree_tup, qfrees_cons, qfree_str, qfrees_cons, qfree_lst, qfrees_nil, los_of fun x hx => by obtain ⟨s, _, rfl⟩ := List.mem_map.mp hx; exact one_lo s n]
  rfl
theorem row_flat (ts : List (List Nat)) : (rowV (ts.map oneV)).flat64 = true := by
  obtain ⟨d, h1, h2⟩ : ∃ d, (rowV (ts.map oneV)).depth? = some d ∧ d ≤ 3 := by
    unfold rowV
    refine dep_tup (k := 2) fun y hy => ?_
    rcases List.mem_cons.mp hy with rfl | hy
    · exact ⟨0, qdep_str _, by omega⟩
    · rw [List.mem_singleton.mp hy]
      refine dep_lst (k := 1) fun x hx => ?_
      obtain ⟨s, _, rfl⟩ := List.mem_map.mp hx
      unfold oneV
      refine dep_tup (k := 0) fun y hy => ?_
      rcases List.mem_cons.mp hy with rfl | hy
      · exact ⟨0, qdep_str _, Nat.le_refl _⟩
      · rw [List.mem_singleton.mp hy]; exact ⟨0, qdep_str _, Nat.le_refl _⟩
  unfold V.flat64
  rw [h1]
  exact decide_eq_true (show d ≤ 64 by omega)
theorem row_eq (σ : List O) (ts : List (List Nat)) : cmpSem σ .eq (rowV (ts.map oneV)) (rowV (ts.map oneV)) = some true := by rw [qc_eq _ _ _ (row_flat ts) (row_flat ts), V.eqb_refl _ (row_lo ts 0)]
theorem qc_eqb (σ : List O) (a b : Bool) : cmpSem σ .eq (.bool a) (.bool b) = some (a == b) := by
  rw [qc_eq _ _ _ (by unfold V.flat64; rw [qdep_bool]; rfl) (by unfold V.flat64; rw [qdep_bool]; rfl), V.eqb]
theorem qi_bb (σ : List O) (b : Bool) : isSem σ .bool (.bool b) = some true := Eq.trans rfl rfl
theorem law_many (F : Fn) (K : Nat) (sc : V) (le : V) (c1 : Int) (hc : F "_law_cell_at" [sc, .int 1] [] = .ok (.int c1) ⟨[], []⟩) : ∃ many : Nat, many ≤ 60 ∧
    evSs F K (d_lawB.drop 1) ⟨[some sc, some le, none, none, none, none, none, none, none, none, none, none, none, none], []⟩ = evSs F K (d_lawB.drop 4) ⟨[some sc, some le, some (.int many), none, none, none, none, none, none, none, none, none, none, none], []⟩ := by
  obtain ⟨a, ha, ha7⟩ := fmod_nat c1 7 (by omega)
  have ha' : c1.fmod 7 = a := ha
  obtain ⟨b, hb, hb21⟩ := fmod_nat (c1.fdiv 21) 21 (by omega)
  have hb' : (c1.fdiv 21).fmod 21 = b := hb
  obtain ⟨d, hd, hd61⟩ := fmod_nat (c1.fdiv 21) 61 (by omega)
  have hd' : (c1.fdiv 21).fmod 61 = d := hd
  have g1 : evS F K (d_lawB.nth 1) ⟨[some sc, some le, none, none, none, none, none, none, none, none, none, none, none, none], []⟩ = .ok .next ⟨[some sc, some le, some (.int a), none, none, none, none, none, none, none, none, none, none, none], []⟩ := by
    simp only [d_lawB, Sms.nth, qvE_none, qvE_bool, qvE_int, qvE_str, wk_loc, qvE_fz, qvE_neg, qvEs_nil, qvTs_nil, qvO_none, qvO_some, qvS_brk, qvSs_nil, wvE_bin, wvE_cmp, wvE_sub, wvE_slice, wvE_chain, wvE_band, wvE_bor, wvE_not, wvE_ite, wvE_tup, wvE_list, wvE_listM, wvE_isin, wvE_bi, wvE_me, wvE_call, wvE_callB, wvE_callZ, wvEs_cons, wvTs_cons, wvS_asg, wvS_expr, wvS_ret, wvS_ifte, wvSs_cons, wvIt_val, wvIt_range1, wvIt_range2, wvIt_zip, k_bin2, k_bin1, k_cmp2, k_cmp1, k_sub2, k_sub1, k_sl2, k_sl1, k_sl0, k_ch0, k_ch1, k_ch2t, k_ch2f, k_ch3, k_band2, k_band1t, k_band1f, k_bor2, k_bor1t, k_bor1f, k_not, k_truth, k_ite_t, k_ite_f, k_tup, k_list, k_listM, k_isin, k_bi, k_me2, k_me1, k_call, k_callR, k_frz, k_cons2, k_cons1, k_test_t, k_test_f, k_asg, k_expr, k_ret, k_if_t, k_if_f, k_seq, k_seqr, k_seqb, k_items, k_rng1, k_rng2, k_rngB, k_zip2, k_zipB, qc_lt, qc_le, qc_gt, qc_ge, qc_is, qc_isnot, qc_in, qc_notin, qc_eqi, qc_nei, qb_add, qb_sub, qb_fdiv, qb_mod, qb_pow, qt_bool, qs_tup, qs_lst, qs_str, qset, qn_none, qn_int, qn_str, qn_tup, qr_find, qr_index, qr_join, wvE_attr, wvE_lenSet, wvE_minD, wvE_min2, wvE_newI, wvE_dictM, qvE_glob, wvS_asgI, wvS_asgA, wvS_asgT, wvIt_enum, k_attr, k_lenSet, k_minD, k_min2, k_min1, k_setI1, k_setI2, k_setI3, k_setA1, k_setA2, k_enum, k_asT3, List.set_cons_succ, List.set_cons_zero, List.getElem?_cons_zero, List.getElem?_cons_succ, R.bind_ok, R.lift_some, hc, ha', ne_eq, Int.reduceEq, not_false_eq_true]
  have e40 : (40 : Int) + (b : Int) = ((40 + b : Nat) : Int) := by omega
  by_cases h1 : (c1.fdiv 7).fmod 3 = 1
  · refine ⟨40 + b, by omega, ?_⟩
    have d1 : ((c1.fdiv 7).fmod 3 == 1) = true := by rw [h1]; rfl
    have d2 : ((c1.fdiv 7).fmod 3 == 2) = false := by rw [h1]; rfl
    have g2 : evS F K (d_lawB.nth 2) ⟨[some sc, some le, some (.int a), none, none, none, none, none, none, none, none, none, none, none], []⟩ = .ok .next ⟨[some sc, some le, some (.int (40 + b : Nat)), none, none, none, none, none, none, none, none, none, none, none], []⟩ := by
      simp only [d_lawB, Sms.nth, qvE_none, qvE_bool, qvE_int, qvE_str, wk_loc, qvE_fz, qvE_neg, qvEs_nil, qvTs_nil, qvO_none, qvO_some, qvS_brk, qvSs_nil, wvE_bin, wvE_cmp, wvE_sub, wvE_slice, wvE_chain, wvE_band, wvE_bor, wvE_not, wvE_ite, wvE_tup, wvE_list, wvE_listM, wvE_isin, wvE_bi, wvE_me, wvE_call, wvE_callB, wvE_callZ, wvEs_cons, wvTs_cons, wvS_asg, wvS_expr, wvS_ret, wvS_ifte, wvSs_cons, wvIt_val, wvIt_range1, wvIt_range2, wvIt_zip, k_bin2, k_bin1, k_cmp2, k_cmp1, k_sub2, k_sub1, k_sl2, k_sl1, k_sl0, k_ch0, k_ch1, k_ch2t, k_ch2f, k_ch3, k_band2, k_band1t, k_band1f, k_bor2, k_bor1t, k_bor1f, k_not, k_truth, k_ite_t, k_ite_f, k_tup, k_list, k_listM, k_isin, k_bi, k_me2, k_me1, k_call, k_callR, k_frz, k_cons2, k_cons1, k_test_t, k_test_f, k_asg, k_expr, k_ret, k_if_t, k_if_f, k_seq, k_seqr, k_seqb, k_items, k_rng1, k_rng2, k_rngB, k_zip2, k_zipB, qc_lt, qc_le, qc_gt, qc_ge, qc_is, qc_isnot, qc_in, qc_notin, qc_eqi, qc_nei, qb_add, qb_sub, qb_fdiv, qb_mod, qb_pow, qt_bool, qs_tup, qs_lst, qs_str, qset, qn_none, qn_int, qn_str, qn_tup, qr_find, qr_index, qr_join, wvE_attr, wvE_lenSet, wvE_minD, wvE_min2, wvE_newI, wvE_dictM, qvE_glob, wvS_asgI, wvS_asgA, wvS_asgT, wvIt_enum, k_attr, k_lenSet, k_minD, k_min2, k_min1, k_setI1, k_setI2, k_setI3, k_setA1, k_setA2, k_enum, k_asT3, List.set_cons_succ, List.set_cons_zero, List.getElem?_cons_zero, List.getElem?_cons_succ, R.bind_ok, R.lift_some, hc, d1, hb', e40, Option.map_some, ne_eq, Int.reduceEq, not_false_eq_true]
    have g3 : evS F K (d_lawB.nth 3) ⟨[some sc, some le, some (.int (40 + b : Nat)), none, none, none, none, none, none, none, none, none, none, none], []⟩ = .ok .next ⟨[some sc, some le, some (.int (40 + b : Nat)), none, none, none, none, none, none, none, none, none, none, none], []⟩ := by
      simp only [d_lawB, Sms.nth, qvE_none, qvE_bool, qvE_int, qvE_str, wk_loc, qvE_fz, qvE_neg, qvEs_nil, qvTs_nil, qvO_none, qvO_some, qvS_brk, qvSs_nil, wvE_bin, wvE_cmp, wvE_sub, wvE_slice, wvE_chain, wvE_band, wvE_bor, wvE_not, wvE_ite, wvE_tup, wvE_list, wvE_listM, wvE_isin, wvE_bi, wvE_me, wvE_call, wvE_callB, wvE_callZ, wvEs_cons, wvTs_cons, wvS_asg, wvS_expr, wvS_ret, wvS_ifte, wvSs_cons, wvIt_val, wvIt_range1, wvIt_range2, wvIt_zip, k_bin2, k_bin1, k_cmp2, k_cmp1, k_sub2, k_sub1, k_sl2, k_sl1, k_sl0, k_ch0, k_ch1, k_ch2t, k_ch2f, k_ch3, k_band2, k_band1t, k_band1f, k_bor2, k_bor1t, k_bor1f, k_not, k_truth, k_ite_t, k_ite_f, k_tup, k_list, k_listM, k_isin, k_bi, k_me2, k_me1, k_call, k_callR, k_frz, k_cons2, k_cons1, k_test_t, k_test_f, k_asg, k_expr, k_ret, k_if_t, k_if_f, k_seq, k_seqr, k_seqb, k_items, k_rng1, k_rng2, k_rngB, k_zip2, k_zipB, qc_lt, qc_le, qc_gt, qc_ge, qc_is, qc_isnot, qc_in, qc_notin, qc_eqi, qc_nei, qb_add, qb_sub, qb_fdiv, qb_mod, qb_pow, qt_bool, qs_tup, qs_lst, qs_str, qset, qn_none, qn_int, qn_str, qn_tup, qr_find, qr_index, qr_join, wvE_attr, wvE_lenSet, wvE_minD, wvE_min2, wvE_newI, wvE_dictM, qvE_glob, wvS_asgI, wvS_asgA, wvS_asgT, wvIt_enum, k_attr, k_lenSet, k_minD, k_min2, k_min1, k_setI1, k_setI2, k_setI3, k_setA1, k_setA2, k_enum, k_asT3, List.set_cons_succ, List.set_cons_zero, List.getElem?_cons_zero, List.getElem?_cons_succ, R.bind_ok, R.lift_some, hc, d2, Option.map_some, ne_eq, Int.reduceEq, not_false_eq_true]
    exact (seq_step g1).trans ((seq_step g2).trans (seq_step g3))
  · have d1 : ((c1.fdiv 7).fmod 3 == 1) = false := by rw [beq_eq_false_iff_ne]; exact h1
    have g2 : evS F K (d_lawB.nth 2) ⟨[some sc, some le, some (.int a), none, none, none, none, none, none, none, none, none, none, none], []⟩ = .ok .next ⟨[some sc, some le, some (.int a), none, none, none, none, none, none, none, none, none, none, none], []⟩ := by
      simp only [d_lawB, Sms.nth, qvE_none, qvE_bool, qvE_int, qvE_str, wk_loc, qvE_fz, qvE_neg, qvEs_nil, qvTs_nil, qvO_none, qvO_some, qvS_brk, qvSs_nil, wvE_bin, wvE_cmp, wvE_sub, wvE_slice, wvE_chain, wvE_band, wvE_bor, wvE_not, wvE_ite, wvE_tup, wvE_list, wvE_listM, wvE_isin, wvE_bi, wvE_me, wvE_call, wvE_callB, wvE_callZ, wvEs_cons, wvTs_cons, wvS_asg, wvS_expr, wvS_ret, wvS_ifte, wvSs_cons, wvIt_val, wvIt_range1, wvIt_range2, wvIt_zip, k_bin2, k_bin1, k_cmp2, k_cmp1, k_sub2, k_sub1, k_sl2, k_sl1, k_sl0, k_ch0, k_ch1, k_ch2t, k_ch2f, k_ch3, k_band2, k_band1t, k_band1f, k_bor2, k_bor1t, k_bor1f, k_not, k_truth, k_ite_t, k_ite_f, k_tup, k_list, k_listM, k_isin, k_bi, k_me2, k_me1, k_call, k_callR, k_frz, k_cons2, k_cons1, k_test_t, k_test_f, k_asg, k_expr, k_ret, k_if_t, k_if_f, k_seq, k_seqr, k_seqb, k_items, k_rng1, k_rng2, k_rngB, k_zip2, k_zipB, qc_lt, qc_le, qc_gt, qc_ge, qc_is, qc_isnot, qc_in, qc_notin, qc_eqi, qc_nei, qb_add, qb_sub, qb_fdiv, qb_mod, qb_pow, qt_bool, qs_tup, qs_lst, qs_str, qset, qn_none, qn_int, qn_str, qn_tup, qr_find, qr_index, qr_join, wvE_attr, wvE_lenSet, wvE_minD, wvE_min2, wvE_newI, wvE_dictM, qvE_glob, wvS_asgI, wvS_asgA, wvS_asgT, wvIt_enum, k_attr, k_lenSet, k_minD, k_min2, k_min1, k_setI1, k_setI2, k_setI3, k_setA1, k_setA2, k_enum, k_asT3, List.set_cons_succ, List.set_cons_zero, List.getElem?_cons_zero, List.getElem?_cons_succ, R.bind_ok, R.lift_some, hc, d1, Option.map_some, ne_eq, Int.reduceEq, not_false_eq_true]
    by_cases h2 : (c1.fdiv 7).fmod 3 = 2
    · refine ⟨d, by omega, ?_⟩
      have d2 : ((c1.fdiv 7).fmod 3 == 2) = true := by rw [h2]; rfl
      have g3 : evS F K (d_lawB.nth 3) ⟨[some sc, some le, some (.int a), none, none, none, none, none, none, none, none, none, none, none], []⟩ = .ok .next ⟨[some sc, some le, some (.int d), none, none, none, none, none, none, none, none, none, none, none], []⟩ := by
        simp only [d_lawB, Sms.nth, qvE_none, qvE_bool, qvE_int, qvE_str, wk_loc, qvE_fz, qvE_neg, qvEs_nil, qvTs_nil, qvO_none, qvO_some, qvS_brk, qvSs_nil, wvE_bin, wvE_cmp, wvE_sub, wvE_slice, wvE_chain, wvE_band, wvE_bor, wvE_not, wvE_ite, wvE_tup, wvE_list, wvE_listM, wvE_isin, wvE_bi, wvE_me, wvE_call, wvE_callB, wvE_callZ, wvEs_cons, wvTs_cons, wvS_asg, wvS_expr, wvS_ret, wvS_ifte, wvSs_cons, wvIt_val, wvIt_range1, wvIt_range2, wvIt_zip, k_bin2, k_bin1, k_cmp2, k_cmp1, k_sub2, k_sub1, k_sl2, k_sl1, k_sl0, k_ch0, k_ch1, k_ch2t, k_ch2f, k_ch3, k_band2, k_band1t, k_band1f, k_bor2, k_bor1t, k_bor1f, k_not, k_truth, k_ite_t, k_ite_f, k_tup, k_list, k_listM, k_isin, k_bi, k_me2, k_me1, k_call, k_callR, k_frz, k_cons2, k_cons1, k_test_t, k_test_f, k_asg, k_expr, k_ret, k_if_t, k_if_f, k_seq, k_seqr, k_seqb, k_items, k_rng1, k_rng2, k_rngB, k_zip2, k_zipB, qc_lt, qc_le, qc_gt, qc_ge, qc_is, qc_isnot, qc_in, qc_notin, qc_eqi, qc_nei, qb_add, qb_sub, qb_fdiv, qb_mod, qb_pow, qt_bool, qs_tup, qs_lst, qs_str, qset, qn_none, qn_int, qn_str, qn_tup, qr_find, qr_index, qr_join, wvE_attr, wvE_lenSet, wvE_minD, wvE_min2, wvE_newI, wvE_dictM, qvE_glob, wvS_asgI, wvS_asgA, wvS_asgT, wvIt_enum, k_attr, k_lenSet, k_minD, k_min2, k_min1, k_setI1, k_setI2, k_setI3, k_setA1, k_setA2, k_enum, k_asT3, List.set_cons_succ, List.set_cons_zero, List.getElem?_cons_zero, List.getElem?_cons_succ, R.bind_ok, R.lift_some, hc, d2, hd', Option.map_some, ne_eq, Int.reduceEq, not_false_eq_true]
      exact (seq_step g1).trans ((seq_step g2).trans (seq_step g3))
    · refine ⟨a, by omega, ?_⟩
      have d2 : ((c1.fdiv 7).fmod 3 == 2) = false := by rw [beq_eq_false_iff_ne]; exact h2
      have g3 : evS F K (d_lawB.nth 3) ⟨[some sc, some le, some (.int a), none, none, none, none, none, none, none, none, none, none, none], []⟩ = .ok .next ⟨[some sc, some le, some (.int a), none, none, none, none, none, none, none, none, none, none, none], []⟩ := by
        simp only [d_lawB, Sms.nth, qvE_none, qvE_bool, qvE_int, qvE_str, wk_loc, qvE_fz, qvE_neg, qvEs_nil, qvTs_nil, qvO_none, qvO_some, qvS_brk, qvSs_nil, wvE_bin, wvE_cmp, wvE_sub, wvE_slice, wvE_chain, wvE_band, wvE_bor, wvE_not, wvE_ite, wvE_tup, wvE_list, wvE_listM, wvE_isin, wvE_bi, wvE_me, wvE_call, wvE_callB, wvE_callZ, wvEs_cons, wvTs_cons, wvS_asg, wvS_expr, wvS_ret, wvS_ifte, wvSs_cons, wvIt_val, wvIt_range1, wvIt_range2, wvIt_zip, k_bin2, k_bin1, k_cmp2, k_cmp1, k_sub2, k_sub1, k_sl2, k_sl1, k_sl0, k_ch0, k_ch1, k_ch2t, k_ch2f, k_ch3, k_band2, k_band1t, k_band1f, k_bor2, k_bor1t, k_bor1f, k_not, k_truth, k_ite_t, k_ite_f, k_tup, k_list, k_listM, k_isin, k_bi, k_me2, k_me1, k_call, k_callR, k_frz, k_cons2, k_cons1, k_test_t, k_test_f, k_asg, k_expr, k_ret, k_if_t, k_if_f, k_seq, k_seqr, k_seqb, k_items, k_rng1, k_rng2, k_rngB, k_zip2, k_zipB, qc_lt, qc_le, qc_gt, qc_ge, qc_is, qc_isnot, qc_in, qc_notin, qc_eqi, qc_nei, qb_add, qb_sub, qb_fdiv, qb_mod, qb_pow, qt_bool, qs_tup, qs_lst, qs_str, qset, qn_none, qn_int, qn_str, qn_tup, qr_find, qr_index, qr_join, wvE_attr, wvE_lenSet, wvE_minD, wvE_min2, wvE_newI, wvE_dictM, qvE_glob, wvS_asgI, wvS_asgA, wvS_asgT, wvIt_enum, k_attr, k_lenSet, k_minD, k_min2, k_min1, k_setI1, k_setI2, k_setI3, k_setA1, k_setA2, k_enum, k_asT3, List.set_cons_succ, List.set_cons_zero, List.getElem?_cons_zero, List.getElem?_cons_succ, R.bind_ok, R.lift_some, hc, d2, Option.map_some, ne_eq, Int.reduceEq, not_false_eq_true]
      exact (seq_step g1).trans ((seq_step g2).trans (seq_step g3))
theorem ints_lo (ms : List Nat) (n : Nat) : V.los n (ms.map fun m : Nat => V.int (m : Int)) = true := los_of fun y hy => by obtain ⟨m, _, rfl⟩ := List.mem_map.mp hy; exact qfree_int _
/-- the masks and the text -/
theorem law_drawn (F : Fn) (K : Nat) {L : List Nat} {z : Nat} (hL : Lets L z) (sc : V) (many : Nat) (hmany : many ≤ 60) (c2 : Int)
    (hc : F "_law_cell_at" [sc, .int 2] [.lst []] = .ok (.int c2) ⟨[], [.lst []]⟩)
    (hF : ∀ (m : Nat) (τ : List O), Cl τ → F "_law_some_of" [.lst (wordsV L z), .int m] τ = .ok (.str (someOf (word L z) m)) ⟨[], τ⟩) :
    ∃ (ms tx : List Nat) (num : Int) (x6 x7 : Option V), ms.length = many + 1 ∧ (∀ m ∈ ms, 1 ≤ m ∧ m ≤ 15) ∧ tx.length = many + 1 ∧
      evSs F K (d_lawB.drop 4) ⟨[some sc, some (.lst (wordsV L z)), some (.int many), none, none, none, none, none, none, none, none, none, none, none], []⟩ =
      evSs F K (d_lawB.drop 8) ⟨[some sc, some (.lst (wordsV L z)), some (.int many), some (.ref 0), some (.str tx), some (.int num), x6, x7, none, none, none, none, none, none], [.lst (ms.map fun m => .int (m : Nat))]⟩ := by
  obtain ⟨st, e, ms, tx, num, x6, x7, rfl, h1, h2, h3⟩ := forR_all (step := fun x st => evSs F K d_lawL0 (setV st 6 x))
    (fun i st => ∃ ms tx num x6 x7, st = ⟨[some sc, some (.lst (wordsV L z)), some (.int many), some (.ref 0), some (.str tx), some (.int num), x6, x7, none, none, none, none, none, none], [.lst (ms.map fun m : Nat => .int (m : Nat))]⟩ ∧ ms.length = i ∧ tx.length = i ∧ ∀ m ∈ ms, 1 ≤ m ∧ m ≤ 15)
    (upTo 0 (many + 1 : Nat)) 0 ⟨[some sc, some (.lst (wordsV L z)), some (.int many), some (.ref 0), some (.str []), some (.int (c2.fmod 2147483647)), none, none, none, none, none, none, none, none], [.lst []]⟩ (by
      rintro i x st hx ⟨ms, tx, num, x6, x7, rfl, h1, h2, h3⟩
      rw [Nat.zero_add] at *
      have hi : i < many + 1 := by have := (List.getElem?_eq_some_iff.mp hx).1; rwa [len_upTo] at this
      have hxi : x = .int (i : Int) := by
        unfold upTo at hx
        rw [List.getElem?_map] at hx
        obtain ⟨k, hk, rfl⟩ := Option.map_eq_some_iff.mp hx
        obtain ⟨hk1, rfl⟩ := List.getElem?_eq_some_iff.mp hk
        simp
      subst hxi
      obtain ⟨m, c, num', x7', hm1, hm2, he⟩ := law_turn F K hL sc many i (by omega) ms h1 tx h2 num x6 x7 [none, none, none, none, none, none] hF
      refine ⟨_, he, ms ++ [m], tx ++ [c], num', some (.int i), x7', rfl, by simp [h1], by simp [h2], fun y hy => ?_⟩
      rcases List.mem_append.mp hy with hy | hy
      · exact h3 y hy
      · rw [List.mem_singleton.mp hy]; exact ⟨hm1, hm2⟩)
    ⟨[], [], _, none, none, rfl, rfl, rfl, by simp⟩
  rw [len_upTo, Nat.zero_add] at h1 h2
  refine ⟨ms, tx, num, x6, x7, h1, h3, h2, ?_⟩
  have e1 : (many : Int) + 1 = ((many + 1 : Nat) : Int) := by omega
  have g4 : evS F K (d_lawB.nth 4) ⟨[some sc, some (.lst (wordsV L z)), some (.int many), none, none, none, none, none, none, none, none, none, none, none], []⟩ = .ok .next ⟨[some sc, some (.lst (wordsV L z)), some (.int many), some (.ref 0), none, none, none, none, none, none, none, none, none, none], [.lst []]⟩ := by
    simp only [d_lawB, Sms.nth, qvE_none, qvE_bool, qvE_int, qvE_str, wk_loc, qvE_fz, qvE_neg, qvEs_nil, qvTs_nil, qvO_none, qvO_some, qvS_brk, qvSs_nil, wvE_bin, wvE_cmp, wvE_sub, wvE_slice, wvE_chain, wvE_band, wvE_bor, wvE_not, wvE_ite, wvE_tup, wvE_list, wvE_listM, wvE_isin, wvE_bi, wvE_me, wvE_call, wvE_callB, wvE_callZ, wvEs_cons, wvTs_cons, wvS_asg, wvS_expr, wvS_ret, wvS_ifte, wvSs_cons, wvIt_val, wvIt_range1, wvIt_range2, wvIt_zip, k_bin2, k_bin1, k_cmp2, k_cmp1, k_sub2, k_sub1, k_sl2, k_sl1, k_sl0, k_ch0, k_ch1, k_ch2t, k_ch2f, k_ch3, k_band2, k_band1t, k_band1f, k_bor2, k_bor1t, k_bor1f, k_not, k_truth, k_ite_t, k_ite_f, k_tup, k_list, k_listM, k_isin, k_bi, k_me2, k_me1, k_call, k_callR, k_frz, k_cons2, k_cons1, k_test_t, k_test_f, k_asg, k_expr, k_ret, k_if_t, k_if_f, k_seq, k_seqr, k_seqb, k_items, k_rng1, k_rng2, k_rngB, k_zip2, k_zipB, qc_lt, qc_le, qc_gt, qc_ge, qc_is, qc_isnot, qc_in, qc_notin, qc_eqi, qc_nei, qb_add, qb_sub, qb_fdiv, qb_mod, qb_pow, qt_bool, qs_tup, qs_lst, qs_str, qset, qn_none, qn_int, qn_str, qn_tup, qr_find, qr_index, qr_join, wvE_attr, wvE_lenSet, wvE_minD, wvE_min2, wvE_newI, wvE_dictM, qvE_glob, wvS_asgI, wvS_asgA, wvS_asgT, wvIt_enum, k_attr, k_lenSet, k_minD, k_min2, k_min1, k_setI1, k_setI2, k_setI3, k_setA1, k_setA2, k_enum, k_asT3, List.set_cons_succ, List.set_cons_zero, List.getElem?_cons_zero, List.getElem?_cons_succ, R.bind_ok, R.lift_some, List.length_nil, sz0, if_true, List.nil_append]
  have g5 : evS F K (d_lawB.nth 5) ⟨[some sc, some (.lst (wordsV L z)), some (.int many), some (.ref 0), none, none, none, none, none, none, none, none, none, none], [.lst []]⟩ = .ok .next ⟨[some sc, some (.lst (wordsV L z)), some (.int many), some (.ref 0), some (.str []), none, none, none, none, none, none, none, none, none], [.lst []]⟩ := by
    simp only [d_lawB, Sms.nth, qvE_none, qvE_bool, qvE_int, qvE_str, wk_loc, qvE_fz, qvE_neg, qvEs_nil, qvTs_nil, qvO_none, qvO_some, qvS_brk, qvSs_nil, wvE_bin, wvE_cmp, wvE_sub, wvE_slice, wvE_chain, wvE_band, wvE_bor, wvE_not, wvE_ite, wvE_tup, wvE_list, wvE_listM, wvE_isin, wvE_bi, wvE_me, wvE_call, wvE_callB, wvE_callZ, wvEs_cons, wvTs_cons, wvS_asg, wvS_expr, wvS_ret, wvS_ifte, wvSs_cons, wvIt_val, wvIt_range1, wvIt_range2, wvIt_zip, k_bin2, k_bin1, k_cmp2, k_cmp1, k_sub2, k_sub1, k_sl2, k_sl1, k_sl0, k_ch0, k_ch1, k_ch2t, k_ch2f, k_ch3, k_band2, k_band1t, k_band1f, k_bor2, k_bor1t, k_bor1f, k_not, k_truth, k_ite_t, k_ite_f, k_tup, k_list, k_listM, k_isin, k_bi, k_me2, k_me1, k_call, k_callR, k_frz, k_cons2, k_cons1, k_test_t, k_test_f, k_asg, k_expr, k_ret, k_if_t, k_if_f, k_seq, k_seqr, k_seqb, k_items, k_rng1, k_rng2, k_rngB, k_zip2, k_zipB, qc_lt, qc_le, qc_gt, qc_ge, qc_is, qc_isnot, qc_in, qc_notin, qc_eqi, qc_nei, qb_add, qb_sub, qb_fdiv, qb_mod, qb_pow, qt_bool, qs_tup, qs_lst, qs_str, qset, qn_none, qn_int, qn_str, qn_tup, qr_find, qr_index, qr_join, wvE_attr, wvE_lenSet, wvE_minD, wvE_min2, wvE_newI, wvE_dictM, qvE_glob, wvS_asgI, wvS_asgA, wvS_asgT, wvIt_enum, k_attr, k_lenSet, k_minD, k_min2, k_min1, k_setI1, k_setI2, k_setI3, k_setA1, k_setA2, k_enum, k_asT3, List.set_cons_succ, List.set_cons_zero, empty_cps]
  have g6 : evS F K (d_lawB.nth 6) ⟨[some sc, some (.lst (wordsV L z)), some (.int many), some (.ref 0), some (.str []), none, none, none, none, none, none, none, none, none], [.lst []]⟩ = .ok .next ⟨[some sc, some (.lst (wordsV L z)), some (.int many), some (.ref 0), some (.str []), some (.int (c2.fmod 2147483647)), none, none, none, none, none, none, none, none], [.lst []]⟩ := by
    simp only [d_lawB, Sms.nth, qvE_none, qvE_bool, qvE_int, qvE_str, wk_loc, qvE_fz, qvE_neg, qvEs_nil, qvTs_nil, qvO_none, qvO_some, qvS_brk, qvSs_nil, wvE_bin, wvE_cmp, wvE_sub, wvE_slice, wvE_chain, wvE_band, wvE_bor, wvE_not, wvE_ite, wvE_tup, wvE_list, wvE_listM, wvE_isin, wvE_bi, wvE_me, wvE_call, wvE_callB, wvE_callZ, wvEs_cons, wvTs_cons, wvS_asg, wvS_expr, wvS_ret, wvS_ifte, wvSs_cons, wvIt_val, wvIt_range1, wvIt_range2, wvIt_zip, k_bin2, k_bin1, k_cmp2, k_cmp1, k_sub2, k_sub1, k_sl2, k_sl1, k_sl0, k_ch0, k_ch1, k_ch2t, k_ch2f, k_ch3, k_band2, k_band1t, k_band1f, k_bor2, k_bor1t, k_bor1f, k_not, k_truth, k_ite_t, k_ite_f, k_tup, k_list, k_listM, k_isin, k_bi, k_me2, k_me1, k_call, k_callR, k_frz, k_cons2, k_cons1, k_test_t, k_test_f, k_asg, k_expr, k_ret, k_if_t, k_if_f, k_seq, k_seqr, k_seqb, k_items, k_rng1, k_rng2, k_rngB, k_zip2, k_zipB, qc_lt, qc_le, qc_gt, qc_ge, qc_is, qc_isnot, qc_in, qc_notin, qc_eqi, qc_nei, qb_add, qb_sub, qb_fdiv, qb_mod, qb_pow, qt_bool, qs_tup, qs_lst, qs_str, qset, qn_none, qn_int, qn_str, qn_tup, qr_find, qr_index, qr_join, wvE_attr, wvE_lenSet, wvE_minD, wvE_min2, wvE_newI, wvE_dictM, qvE_glob, wvS_asgI, wvS_asgA, wvS_asgT, wvIt_enum, k_attr, k_lenSet, k_minD, k_min2, k_min1, k_setI1, k_setI2, k_setI3, k_setA1, k_setA2, k_enum, k_asT3, List.set_cons_succ, List.set_cons_zero, List.getElem?_cons_zero, List.getElem?_cons_succ, R.bind_ok, R.lift_some, hc, qb_mod _ _ (show (2147483647 : Int) ≠ 0 by decide), ne_eq, Int.reduceEq, not_false_eq_true]
  have g7 : evS F K (d_lawB.nth 7) ⟨[some sc, some (.lst (wordsV L z)), some (.int many), some (.ref 0), some (.str []), some (.int (c2.fmod 2147483647)), none, none, none, none, none, none, none, none], [.lst []]⟩ = .ok .next ⟨[some sc, some (.lst (wordsV L z)), some (.int many), some (.ref 0), some (.str tx), some (.int num), x6, x7, none, none, none, none, none, none], [.lst (ms.map fun m => .int (m : Nat))]⟩ := by
    simp only [d_lawB, Sms.nth, qvE_none, qvE_bool, qvE_int, qvE_str, wk_loc, qvE_fz, qvE_neg, qvEs_nil, qvTs_nil, qvO_none, qvO_some, qvS_brk, qvSs_nil, wvE_bin, wvE_cmp, wvE_sub, wvE_slice, wvE_chain, wvE_band, wvE_bor, wvE_not, wvE_ite, wvE_tup, wvE_list, wvE_listM, wvE_isin, wvE_bi, wvE_me, wvE_call, wvE_callB, wvE_callZ, wvEs_cons, wvTs_cons, wvS_asg, wvS_expr, wvS_ret, wvS_ifte, wvSs_cons, wvIt_val, wvIt_range1, wvIt_range2, wvIt_zip, k_bin2, k_bin1, k_cmp2, k_cmp1, k_sub2, k_sub1, k_sl2, k_sl1, k_sl0, k_ch0, k_ch1, k_ch2t, k_ch2f, k_ch3, k_band2, k_band1t, k_band1f, k_bor2, k_bor1t, k_bor1f, k_not, k_truth, k_ite_t, k_ite_f, k_tup, k_list, k_listM, k_isin, k_bi, k_me2, k_me1, k_call, k_callR, k_frz, k_cons2, k_cons1, k_test_t, k_test_f, k_asg, k_expr, k_ret, k_if_t, k_if_f, k_seq, k_seqr, k_seqb, k_items, k_rng1, k_rng2, k_rngB, k_zip2, k_zipB, qc_lt, qc_le, qc_gt, qc_ge, qc_is, qc_isnot, qc_in, qc_notin, qc_eqi, qc_nei, qb_add, qb_sub, qb_fdiv, qb_mod, qb_pow, qt_bool, qs_tup, qs_lst, qs_str, qset, qn_none, qn_int, qn_str, qn_tup, qr_find, qr_index, qr_join, wvE_attr, wvE_lenSet, wvE_minD, wvE_min2, wvE_newI, wvE_dictM, qvE_glob, wvS_asgI, wvS_asgA, wvS_asgT, wvIt_enum, k_attr, k_lenSet, k_minD, k_min2, k_min1, k_setI1, k_setI2, k_setI3, k_setA1, k_setA2, k_enum, k_asT3, wvS_for1, k_for, List.set_cons_succ, List.set_cons_zero, List.getElem?_cons_zero, List.getElem?_cons_succ, R.bind_ok, R.lift_some, e1, smallR_nat (show many + 1 < 2 ^ 31 by omega), if_true, e]
  exact (seq_step g4).trans ((seq_step g5).trans ((seq_step g6).trans (seq_step g7)))

end Mine
namespace Mine
open PySem
/-- the text, cut and changed -/
theorem law_text (F : Fn) (K : Nat) {L : List Nat} {z : Nat} (hL : Lets L z) (sc : V) (many : Nat) (hmany : many ≤ 60) (c3 c4 c5 : Int) (S : List O)
    (h3 : F "_law_cell_at" [sc, .int 3] S = .ok (.int c3) ⟨[], S⟩) (h4 : F "_law_cell_at" [sc, .int 4] S = .ok (.int c4) ⟨[], S⟩) (h5 : F "_law_cell_at" [sc, .int 5] S = .ok (.int c5) ⟨[], S⟩)
    (tx : List Nat) (htx : tx.length ≤ 61) (x5 x6 x7 : Option V) : ∃ (ty : List Nat) (odd : Option V), ty.length ≤ 130 ∧
      evSs F K (d_lawB.drop 8) ⟨[some sc, some (.lst (wordsV L z)), some (.int many), some (.ref 0), some (.str tx), x5, x6, x7, none, none, none, none, none, none], S⟩ =
      evSs F K (d_lawB.drop 11) ⟨[some sc, some (.lst (wordsV L z)), some (.int many), some (.ref 0), some (.str ty), x5, x6, x7, odd, none, none, none, none, none], S⟩ := by
  obtain ⟨t1, ht1, g8⟩ : ∃ t1 : List Nat, t1.length ≤ 61 ∧ evS F K (d_lawB.nth 8) ⟨[some sc, some (.lst (wordsV L z)), some (.int many), some (.ref 0), some (.str tx), x5, x6, x7, none, none, none, none, none, none], S⟩ = .ok .next ⟨[some sc, some (.lst (wordsV L z)), some (.int many), some (.ref 0), some (.str t1), x5, x6, x7, none, none, none, none, none, none], S⟩ := by
    by_cases h : (many : Int) > 0
    · refine ⟨cutL tx none (some ((many : Int) + c3.fmod 3 - 1)), Nat.le_trans (cut_le _ _ _) htx, ?_⟩
      simp only [d_lawB, Sms.nth, qvE_none, qvE_bool, qvE_int, qvE_str, wk_loc, qvE_fz, qvE_neg, qvEs_nil, qvTs_nil, qvO_none, qvO_some, qvS_brk, qvSs_nil, wvE_bin, wvE_cmp, wvE_sub, wvE_slice, wvE_chain, wvE_band, wvE_bor, wvE_not, wvE_ite, wvE_tup, wvE_list, wvE_listM, wvE_isin, wvE_bi, wvE_me, wvE_call, wvE_callB, wvE_callZ, wvEs_cons, wvTs_cons, wvS_asg, wvS_expr, wvS_ret, wvS_ifte, wvSs_cons, wvIt_val, wvIt_range1, wvIt_range2, wvIt_zip, k_bin2, k_bin1, k_cmp2, k_cmp1, k_sub2, k_sub1, k_sl2, k_sl1, k_sl0, k_ch0, k_ch1, k_ch2t, k_ch2f, k_ch3, k_band2, k_band1t, k_band1f, k_bor2, k_bor1t, k_bor1f, k_not, k_truth, k_ite_t, k_ite_f, k_tup, k_list, k_listM, k_isin, k_bi, k_me2, k_me1, k_call, k_callR, k_frz, k_cons2, k_cons1, k_test_t, k_test_f, k_asg, k_expr, k_ret, k_if_t, k_if_f, k_seq, k_seqr, k_seqb, k_items, k_rng1, k_rng2, k_rngB, k_zip2, k_zipB, qc_lt, qc_le, qc_gt, qc_ge, qc_is, qc_isnot, qc_in, qc_notin, qc_eqi, qc_nei, qb_add, qb_sub, qb_fdiv, qb_mod, qb_pow, qt_bool, qs_tup, qs_lst, qs_str, qset, qn_none, qn_int, qn_str, qn_tup, qr_find, qr_index, qr_join, wvE_attr, wvE_lenSet, wvE_minD, wvE_min2, wvE_newI, wvE_dictM, qvE_glob, wvS_asgI, wvS_asgA, wvS_asgT, wvIt_enum, k_attr, k_lenSet, k_minD, k_min2, k_min1, k_setI1, k_setI2, k_setI3, k_setA1, k_setA2, k_enum, k_asT3, List.set_cons_succ, List.set_cons_zero, List.getElem?_cons_zero, List.getElem?_cons_succ, R.bind_ok, R.lift_some, h3, decide_eq_true h, qsl_str0, Option.map_some, qb_mod _ _ (show (3 : Int) ≠ 0 by decide), ne_eq, Int.reduceEq, not_false_eq_true]
    · refine ⟨cutL tx none (some (c3.fmod 2)), Nat.le_trans (cut_le _ _ _) htx, ?_⟩
      simp only [d_lawB, Sms.nth, qvE_none, qvE_bool, qvE_int, qvE_str, wk_loc, qvE_fz, qvE_neg, qvEs_nil, qvTs_nil, qvO_none, qvO_some, qvS_brk, qvSs_nil, wvE_bin, wvE_cmp, wvE_sub, wvE_slice, wvE_chain, wvE_band, wvE_bor, wvE_not, wvE_ite, wvE_tup, wvE_list, wvE_listM, wvE_isin, wvE_bi, wvE_me, wvE_call, wvE_callB, wvE_callZ, wvEs_cons, wvTs_cons, wvS_asg, wvS_expr, wvS_ret, wvS_ifte, wvSs_cons, wvIt_val, wvIt_range1, wvIt_range2, wvIt_zip, k_bin2, k_bin1, k_cmp2, k_cmp1, k_sub2, k_sub1, k_sl2, k_sl1, k_sl0, k_ch0, k_ch1, k_ch2t, k_ch2f, k_ch3, k_band2, k_band1t, k_band1f, k_bor2, k_bor1t, k_bor1f, k_not, k_truth, k_ite_t, k_ite_f, k_tup, k_list, k_listM, k_isin, k_bi, k_me2, k_me1, k_call, k_callR, k_frz, k_cons2, k_cons1, k_test_t, k_test_f, k_asg, k_expr, k_ret, k_if_t, k_if_f, k_seq, k_seqr, k_seqb, k_items, k_rng1, k_rng2, k_rngB, k_zip2, k_zipB, qc_lt, qc_le, qc_gt, qc_ge, qc_is, qc_isnot, qc_in, qc_notin, qc_eqi, qc_nei, qb_add, qb_sub, qb_fdiv, qb_mod, qb_pow, qt_bool, qs_tup, qs_lst, qs_str, qset, qn_none, qn_int, qn_str, qn_tup, qr_find, qr_index, qr_join, wvE_attr, wvE_lenSet, wvE_minD, wvE_min2, wvE_newI, wvE_dictM, qvE_glob, wvS_asgI, wvS_asgA, wvS_asgT, wvIt_enum, k_attr, k_lenSet, k_minD, k_min2, k_min1, k_setI1, k_setI2, k_setI3, k_setA1, k_setA2, k_enum, k_asT3, List.set_cons_succ, List.set_cons_zero, List.getElem?_cons_zero, List.getElem?_cons_succ, R.bind_ok, R.lift_some, h3, decide_eq_false h, qsl_str0, Option.map_some, qb_mod _ _ (show (2 : Int) ≠ 0 by decide), ne_eq, Int.reduceEq, not_false_eq_true]
  have s3 : smallI 3 = true := small_lit (by omega) (by omega)
  have hmu := qb_mul 3 (many : Int) (by rw [s3]; rfl)
  have e3 : (3 : Int) * (many : Int) + 3 = ((3 * many + 3 : Nat) : Int) := by omega
  obtain ⟨odd, hodd, _⟩ := fmod_nat c4 (3 * many + 3) (by omega)
  have hmd := qb_mod c4 ((3 * many + 3 : Nat) : Int) (by omega)
  rw [hodd] at hmd
  have g9 : evS F K (d_lawB.nth 9) ⟨[some sc, some (.lst (wordsV L z)), some (.int many), some (.ref 0), some (.str t1), x5, x6, x7, none, none, none, none, none, none], S⟩ = .ok .next ⟨[some sc, some (.lst (wordsV L z)), some (.int many), some (.ref 0), some (.str t1), x5, x6, x7, some (.int odd), none, none, none, none, none], S⟩ := by
    simp only [d_lawB, Sms.nth, qvE_none, qvE_bool, qvE_int, qvE_str, wk_loc, qvE_fz, qvE_neg, qvEs_nil, qvTs_nil, qvO_none, qvO_some, qvS_brk, qvSs_nil, wvE_bin, wvE_cmp, wvE_sub, wvE_slice, wvE_chain, wvE_band, wvE_bor, wvE_not, wvE_ite, wvE_tup, wvE_list, wvE_listM, wvE_isin, wvE_bi, wvE_me, wvE_call, wvE_callB, wvE_callZ, wvEs_cons, wvTs_cons, wvS_asg, wvS_expr, wvS_ret, wvS_ifte, wvSs_cons, wvIt_val, wvIt_range1, wvIt_range2, wvIt_zip, k_bin2, k_bin1, k_cmp2, k_cmp1, k_sub2, k_sub1, k_sl2, k_sl1, k_sl0, k_ch0, k_ch1, k_ch2t, k_ch2f, k_ch3, k_band2, k_band1t, k_band1f, k_bor2, k_bor1t, k_bor1f, k_not, k_truth, k_ite_t, k_ite_f, k_tup, k_list, k_listM, k_isin, k_bi, k_me2, k_me1, k_call, k_callR, k_frz, k_cons2, k_cons1, k_test_t, k_test_f, k_asg, k_expr, k_ret, k_if_t, k_if_f, k_seq, k_seqr, k_seqb, k_items, k_rng1, k_rng2, k_rngB, k_zip2, k_zipB, qc_lt, qc_le, qc_gt, qc_ge, qc_is, qc_isnot, qc_in, qc_notin, qc_eqi, qc_nei, qb_add, qb_sub, qb_fdiv, qb_mod, qb_pow, qt_bool, qs_tup, qs_lst, qs_str, qset, qn_none, qn_int, qn_str, qn_tup, qr_find, qr_index, qr_join, wvE_attr, wvE_lenSet, wvE_minD, wvE_min2, wvE_newI, wvE_dictM, qvE_glob, wvS_asgI, wvS_asgA, wvS_asgT, wvIt_enum, k_attr, k_lenSet, k_minD, k_min2, k_min1, k_setI1, k_setI2, k_setI3, k_setA1, k_setA2, k_enum, k_asT3, List.set_cons_succ, List.set_cons_zero, List.getElem?_cons_zero, List.getElem?_cons_succ, R.bind_ok, R.lift_some, h4, hmu, e3, hmd]
  obtain ⟨y, hy, hym⟩ := idx_mod (wordsV L z) (i := c5) (n := 5) (by omega) (by omega) (by simp [wordsV])
  have hy' : idxOf (wordsV L z) (c5.fmod 5) = some y := hy
  unfold wordsV at hym
  obtain ⟨k, hk, rfl⟩ := List.mem_map.mp hym
  have hwl := word_len (List.mem_range.mp hk) hL.len
  have hz1 := hL.z1
  obtain ⟨ch, hch⟩ : ∃ ch, (word L z k)[0]? = some ch := ⟨(word L z k)[0], by simp⟩
  have hi0 : idxOf (word L z k) 0 = some ch := by rw [idx0, hch]
  have bl : biSem S .len (.str t1) = some (.int t1.length) := ql_str _ _
  obtain ⟨ty, hty, g10⟩ : ∃ ty : List Nat, ty.length ≤ 130 ∧ evS F K (d_lawB.nth 10) ⟨[some sc, some (.lst (wordsV L z)), some (.int many), some (.ref 0), some (.str t1), x5, x6, x7, some (.int odd), none, none, none, none, none], S⟩ = .ok .next ⟨[some sc, some (.lst (wordsV L z)), some (.int many), some (.ref 0), some (.str ty), x5, x6, x7, some (.int odd), none, none, none, none, none], S⟩ := by
    by_cases h : (odd : Int) < (t1.length : Int)
    · have l1 := cut_le t1 none (some (odd : Int))
      have l2 := cut_le t1 (some ((odd : Int) + 1)) none
      have ha1 := qb_adds (cutL t1 none (some (odd : Int))) [ch] (by unfold sizeLine; rw [List.length_singleton]; omega)
      have ha2 := qb_adds (cutL t1 none (some (odd : Int)) ++ [ch]) (cutL t1 (some ((odd : Int) + 1)) none) (by unfold sizeLine; rw [List.length_append, List.length_singleton]; omega)
      refine ⟨cutL t1 none (some (odd : Int)) ++ [ch] ++ cutL t1 (some ((odd : Int) + 1)) none, ?_, ?_⟩
      rotate_left
      · simp only [d_lawB, Sms.nth, qvE_none, qvE_bool, qvE_int, qvE_str, wk_loc, qvE_fz, qvE_neg, qvEs_nil, qvTs_nil, qvO_none, qvO_some, qvS_brk, qvSs_nil, wvE_bin, wvE_cmp, wvE_sub, wvE_slice, wvE_chain, wvE_band, wvE_bor, wvE_not, wvE_ite, wvE_tup, wvE_list, wvE_listM, wvE_isin, wvE_bi, wvE_me, wvE_call, wvE_callB, wvE_callZ, wvEs_cons, wvTs_cons, wvS_asg, wvS_expr, wvS_ret, wvS_ifte, wvSs_cons, wvIt_val, wvIt_range1, wvIt_range2, wvIt_zip, k_bin2, k_bin1, k_cmp2, k_cmp1, k_sub2, k_sub1, k_sl2, k_sl1, k_sl0, k_ch0, k_ch1, k_ch2t, k_ch2f, k_ch3, k_band2, k_band1t, k_band1f, k_bor2, k_bor1t, k_bor1f, k_not, k_truth, k_ite_t, k_ite_f, k_tup, k_list, k_listM, k_isin, k_bi, k_me2, k_me1, k_call, k_callR, k_frz, k_cons2, k_cons1, k_test_t, k_test_f, k_asg, k_expr, k_ret, k_if_t, k_if_f, k_seq, k_seqr, k_seqb, k_items, k_rng1, k_rng2, k_rngB, k_zip2, k_zipB, qc_lt, qc_le, qc_gt, qc_ge, qc_is, qc_isnot, qc_in, qc_notin, qc_eqi, qc_nei, qb_add, qb_sub, qb_fdiv, qb_mod, qb_pow, qt_bool, qs_tup, qs_lst, qs_str, qset, qn_none, qn_int, qn_str, qn_tup, qr_find, qr_index, qr_join, wvE_attr, wvE_lenSet, wvE_minD, wvE_min2, wvE_newI, wvE_dictM, qvE_glob, wvS_asgI, wvS_asgA, wvS_asgT, wvIt_enum, k_attr, k_lenSet, k_minD, k_min2, k_min1, k_setI1, k_setI2, k_setI3, k_setA1, k_setA2, k_enum, k_asT3, List.set_cons_succ, List.set_cons_zero, List.getElem?_cons_zero, List.getElem?_cons_succ, R.bind_ok, R.lift_some, bl, decide_eq_true h, Option.map_some, qsl_str0, qsl_str1, h5, hy', hi0, ha1, ha2, qb_mod _ _ (show (5 : Int) ≠ 0 by decide), ne_eq, Int.reduceEq, not_false_eq_true]
      · rw [List.length_append, List.length_append, List.length_singleton]; omega
    · refine ⟨t1, by omega, ?_⟩
      simp only [d_lawB, Sms.nth, qvE_none, qvE_bool, qvE_int, qvE_str, wk_loc, qvE_fz, qvE_neg, qvEs_nil, qvTs_nil, qvO_none, qvO_some, qvS_brk, qvSs_nil, wvE_bin, wvE_cmp, wvE_sub, wvE_slice, wvE_chain, wvE_band, wvE_bor, wvE_not, wvE_ite, wvE_tup, wvE_list, wvE_listM, wvE_isin, wvE_bi, wvE_me, wvE_call, wvE_callB, wvE_callZ, wvEs_cons, wvTs_cons, wvS_asg, wvS_expr, wvS_ret, wvS_ifte, wvSs_cons, wvIt_val, wvIt_range1, wvIt_range2, wvIt_zip, k_bin2, k_bin1, k_cmp2, k_cmp1, k_sub2, k_sub1, k_sl2, k_sl1, k_sl0, k_ch0, k_ch1, k_ch2t, k_ch2f, k_ch3, k_band2, k_band1t, k_band1f, k_bor2, k_bor1t, k_bor1f, k_not, k_truth, k_ite_t, k_ite_f, k_tup, k_list, k_listM, k_isin, k_bi, k_me2, k_me1, k_call, k_callR, k_frz, k_cons2, k_cons1, k_test_t, k_test_f, k_asg, k_expr, k_ret, k_if_t, k_if_f, k_seq, k_seqr, k_seqb, k_items, k_rng1, k_rng2, k_rngB, k_zip2, k_zipB, qc_lt, qc_le, qc_gt, qc_ge, qc_is, qc_isnot, qc_in, qc_notin, qc_eqi, qc_nei, qb_add, qb_sub, qb_fdiv, qb_mod, qb_pow, qt_bool, qs_tup, qs_lst, qs_str, qset, qn_none, qn_int, qn_str, qn_tup, qr_find, qr_index, qr_join, wvE_attr, wvE_lenSet, wvE_minD, wvE_min2, wvE_newI, wvE_dictM, qvE_glob, wvS_asgI, wvS_asgA, wvS_asgT, wvIt_enum, k_attr, k_lenSet, k_minD, k_min2, k_min1, k_setI1, k_setI2, k_setI3, k_setA1, k_setA2, k_enum, k_asT3, List.set_cons_succ, List.set_cons_zero, List.getElem?_cons_zero, List.getElem?_cons_succ, R.bind_ok, R.lift_some, bl, decide_eq_false h, Option.map_some]
  exact ⟨ty, some (.int odd), hty, (seq_step g8).trans ((seq_step g9).trans (seq_step g10))⟩
theorem dueB_self (ts : List (List Nat)) (tx : List Nat) : dueB ts tx 0 = true := rfl
/-- the end of the law -/
theorem law_end (F : Fn) (K : Nat) {L : List Nat} {z : Nat} (hL : Lets L z) (sc : V) (many : Nat) (hmany : many ≤ 60) (ms : List Nat) (hms : ms.length = many + 1) (hm : ∀ m ∈ ms, 1 ≤ m ∧ m ≤ 15) (tx : List Nat) (htx : tx.length ≤ 130) (x5 x6 x7 x8 : Option V)
    (hF : ∀ (m : Nat) (τ : List O), Cl τ → F "_law_some_of" [.lst (wordsV L z), .int m] τ = .ok (.str (someOf (word L z) m)) ⟨[], τ⟩)
    (hT : ∀ (ts : List (List Nat)) (τ : List O), Cl τ → ts.length ≤ 60 → (∀ s ∈ ts, LeafOk s) → F "tells" [rowV (ts.map oneV), .str tx] τ = .ok (.bool (tellsB ts tx)) ⟨[], τ⟩) :
    ∃ ρ, evSs F K (d_lawB.drop 11) ⟨[some sc, some (.lst (wordsV L z)), some (.int many), some (.ref 0), some (.str tx), x5, x6, x7, x8, none, none, none, none, none], [.lst (ms.map fun m : Nat => .int (m : Nat))]⟩ = .ok (.ret (.bool true)) ⟨ρ, [.lst (ms.map fun m : Nat => .int (m : Nat)), .dead]⟩ := by
  have hsl : sliceSem [O.lst (ms.map fun m : Nat => V.int (m : Int))] (.ref 0) .none (.int (many : Int)) = some (.lst ((ms.take many).map fun m : Nat => V.int (m : Int))) := by
    rw [qsl_ref0 rfl, cut_take _ _ (by rw [List.length_map, hms]; omega), List.map_take]
  have cl0 : Cl [O.lst (ms.map fun m : Nat => V.int (m : Int))] := by
    unfold Cl
    simp only [List.all_cons, List.all_nil, Bool.and_true]
    exact ints_lo _ _
  have e1 := comp_map (F := F) (elt := d_lawC13) (k := 13) (ρ₀ := [some sc, some (.lst (wordsV L z)), some (.int many), some (.ref 0), some (.str tx), x5, x6, x7, x8, none, none, none, none, none]) (σ := [.lst (ms.map fun m : Nat => .int (m : Nat))]) (it := .val (.slice (.loc 3) .none (.some (.loc 2)))) (xs := (ms.take many).map fun m : Nat => V.int (m : Int))
    (fun x => match x with | .int k => oneV (someOf (word L z) k.toNat) | _ => .none) (fun x hx => by obtain ⟨m, _, rfl⟩ := List.mem_map.mp hx; exact one_lo _ _)
    (by simp only [qvE_none, qvE_bool, qvE_int, qvE_str, wk_loc, qvE_fz, qvE_neg, qvEs_nil, qvTs_nil, qvO_none, qvO_some, qvS_brk, qvSs_nil, wvE_bin, wvE_cmp, wvE_sub, wvE_slice, wvE_chain, wvE_band, wvE_bor, wvE_not, wvE_ite, wvE_tup, wvE_list, wvE_listM, wvE_isin, wvE_bi, wvE_me, wvE_call, wvE_callB, wvE_callZ, wvEs_cons, wvTs_cons, wvS_asg, wvS_expr, wvS_ret, wvS_ifte, wvSs_cons, wvIt_val, wvIt_range1, wvIt_range2, wvIt_zip, k_bin2, k_bin1, k_cmp2, k_cmp1, k_sub2, k_sub1, k_sl2, k_sl1, k_sl0, k_ch0, k_ch1, k_ch2t, k_ch2f, k_ch3, k_band2, k_band1t, k_band1f, k_bor2, k_bor1t, k_bor1f, k_not, k_truth, k_ite_t, k_ite_f, k_tup, k_list, k_listM, k_isin, k_bi, k_me2, k_me1, k_call, k_callR, k_frz, k_cons2, k_cons1, k_test_t, k_test_f, k_asg, k_expr, k_ret, k_if_t, k_if_f, k_seq, k_seqr, k_seqb, k_items, k_rng1, k_rng2, k_rngB, k_zip2, k_zipB, qc_lt, qc_le, qc_gt, qc_ge, qc_is, qc_isnot, qc_in, qc_notin, qc_eqi, qc_nei, qb_add, qb_sub, qb_fdiv, qb_mod, qb_pow, qt_bool, qs_tup, qs_lst, qs_str, qset, qn_none, qn_int, qn_str, qn_tup, qr_find, qr_index, qr_join, wvE_attr, wvE_lenSet, wvE_minD, wvE_min2, wvE_newI, wvE_dictM, qvE_glob, wvS_asgI, wvS_asgA, wvS_asgT, wvIt_enum, k_attr, k_lenSet, k_minD, k_min2, k_min1, k_setI1, k_setI2, k_setI3, k_setA1, k_setA2, k_enum, k_asT3, List.getElem?_cons_zero, List.getElem?_cons_succ, R.bind_ok, R.lift_some, hsl, qi_lst])
    (by rw [List.length_map, List.length_take]; unfold sizeLine; omega)
    (fun x hx acc ha => by
      obtain ⟨m, _, rfl⟩ := List.mem_map.mp hx
      have hs := hF m ([.lst (ms.map fun m : Nat => .int (m : Nat))] ++ [.lst acc]) (cl0.snoc ha)
      have h2 : (2 : Nat) ≤ sizeLine := by decide
      simp only [d_lawC13, qvE_none, qvE_bool, qvE_int, qvE_str, wk_loc, qvE_fz, qvE_neg, qvEs_nil, qvTs_nil, qvO_none, qvO_some, qvS_brk, qvSs_nil, wvE_bin, wvE_cmp, wvE_sub, wvE_slice, wvE_chain, wvE_band, wvE_bor, wvE_not, wvE_ite, wvE_tup, wvE_list, wvE_listM, wvE_isin, wvE_bi, wvE_me, wvE_call, wvE_callB, wvE_callZ, wvEs_cons, wvTs_cons, wvS_asg, wvS_expr, wvS_ret, wvS_ifte, wvSs_cons, wvIt_val, wvIt_range1, wvIt_range2, wvIt_zip, k_bin2, k_bin1, k_cmp2, k_cmp1, k_sub2, k_sub1, k_sl2, k_sl1, k_sl0, k_ch0, k_ch1, k_ch2t, k_ch2f, k_ch3, k_band2, k_band1t, k_band1f, k_bor2, k_bor1t, k_bor1f, k_not, k_truth, k_ite_t, k_ite_f, k_tup, k_list, k_listM, k_isin, k_bi, k_me2, k_me1, k_call, k_callR, k_frz, k_cons2, k_cons1, k_test_t, k_test_f, k_asg, k_expr, k_ret, k_if_t, k_if_f, k_seq, k_seqr, k_seqb, k_items, k_rng1, k_rng2, k_rngB, k_zip2, k_zipB, qc_lt, qc_le, qc_gt, qc_ge, qc_is, qc_isnot, qc_in, qc_notin, qc_eqi, qc_nei, qb_add, qb_sub, qb_fdiv, qb_mod, qb_pow, qt_bool, qs_tup, qs_lst, qs_str, qset, qn_none, qn_int, qn_str, qn_tup, qr_find, qr_index, qr_join, wvE_attr, wvE_lenSet, wvE_minD, wvE_min2, wvE_newI, wvE_dictM, qvE_glob, wvS_asgI, wvS_asgA, wvS_asgT, wvIt_enum, k_attr, k_lenSet, k_minD, k_min2, k_min1, k_setI1, k_setI2, k_setI3, k_setA1, k_setA2, k_enum, k_asT3, List.set_cons_succ, List.set_cons_zero, List.getElem?_cons_zero, List.getElem?_cons_succ, R.bind_ok, R.lift_some, hs, List.length_cons, List.length_nil, Nat.zero_add, Nat.reduceAdd, h2, if_true, Int.toNat_natCast]
      rfl)
  have ets : ((ms.take many).map fun m : Nat => V.int (m : Int)).map (fun x => match x with | .int k => oneV (someOf (word L z) k.toNat) | _ => .none) = ((ms.take many).map (someOf (word L z))).map oneV := by
    rw [List.map_map, List.map_map]; rfl
  rw [ets] at e1
  have hts : ((ms.take many).map (someOf (word L z))).length = many := by rw [List.length_map, List.length_take, hms]; omega
  have hlf : ∀ s ∈ (ms.take many).map (someOf (word L z)), LeafOk s := fun s hs => by
    obtain ⟨m, hm', rfl⟩ := List.mem_map.mp hs
    have := hm m (List.mem_of_mem_take hm')
    exact leaf_ok hL this.1 this.2
  generalize (ms.take many).map (someOf (word L z)) = ts at e1 hts hlf
  have hS : [O.lst (ms.map fun m : Nat => V.int (m : Int))] ++ [.dead] = [O.lst (ms.map fun m : Nat => V.int (m : Int)), .dead] := rfl
  rw [hS] at e1
  have cl1 : Cl [O.lst (ms.map fun m : Nat => V.int (m : Int)), .dead] := cl0.dead
  have ht := hT ts _ cl1 (by omega) hlf
  generalize [O.lst (ms.map fun m : Nat => V.int (m : Int)), .dead] = S at e1 cl1 ht
  have bl : biSem S .len (.str tx) = some (.int tx.length) := ql_str _ _
  have g11 : evS F K (d_lawB.nth 11) ⟨[some sc, some (.lst (wordsV L z)), some (.int many), some (.ref 0), some (.str tx), x5, x6, x7, x8, none, none, none, none, none], [.lst (ms.map fun m : Nat => .int (m : Nat))]⟩ = .ok .next ⟨[some sc, some (.lst (wordsV L z)), some (.int many), some (.ref 0), some (.str tx), x5, x6, x7, x8, some (.lst (ts.map oneV)), none, none, none, none], S⟩ := by
    simp only [d_lawB, Sms.nth, wvS_asg]
    rw [e1, k_asg]
    rfl
  have g12 : evS F K (d_lawB.nth 12) ⟨[some sc, some (.lst (wordsV L z)), some (.int many), some (.ref 0), some (.str tx), x5, x6, x7, x8, some (.lst (ts.map oneV)), none, none, none, none], S⟩ = .ok .next ⟨[some sc, some (.lst (wordsV L z)), some (.int many), some (.ref 0), some (.str tx), x5, x6, x7, x8, some (.lst (ts.map oneV)), some (.bool ((tx.length : Int) == (many : Int))), none, none, none], S⟩ := by
    simp only [d_lawB, Sms.nth, qvE_none, qvE_bool, qvE_int, qvE_str, wk_loc, qvE_fz, qvE_neg, qvEs_nil, qvTs_nil, qvO_none, qvO_some, qvS_brk, qvSs_nil, wvE_bin, wvE_cmp, wvE_sub, wvE_slice, wvE_chain, wvE_band, wvE_bor, wvE_not, wvE_ite, wvE_tup, wvE_list, wvE_listM, wvE_isin, wvE_bi, wvE_me, wvE_call, wvE_callB, wvE_callZ, wvEs_cons, wvTs_cons, wvS_asg, wvS_expr, wvS_ret, wvS_ifte, wvSs_cons, wvIt_val, wvIt_range1, wvIt_range2, wvIt_zip, k_bin2, k_bin1, k_cmp2, k_cmp1, k_sub2, k_sub1, k_sl2, k_sl1, k_sl0, k_ch0, k_ch1, k_ch2t, k_ch2f, k_ch3, k_band2, k_band1t, k_band1f, k_bor2, k_bor1t, k_bor1f, k_not, k_truth, k_ite_t, k_ite_f, k_tup, k_list, k_listM, k_isin, k_bi, k_me2, k_me1, k_call, k_callR, k_frz, k_cons2, k_cons1, k_test_t, k_test_f, k_asg, k_expr, k_ret, k_if_t, k_if_f, k_seq, k_seqr, k_seqb, k_items, k_rng1, k_rng2, k_rngB, k_zip2, k_zipB, qc_lt, qc_le, qc_gt, qc_ge, qc_is, qc_isnot, qc_in, qc_notin, qc_eqi, qc_nei, qb_add, qb_sub, qb_fdiv, qb_mod, qb_pow, qt_bool, qs_tup, qs_lst, qs_str, qset, qn_none, qn_int, qn_str, qn_tup, qr_find, qr_index, qr_join, wvE_attr, wvE_lenSet, wvE_minD, wvE_min2, wvE_newI, wvE_dictM, qvE_glob, wvS_asgI, wvS_asgA, wvS_asgT, wvIt_enum, k_attr, k_lenSet, k_minD, k_min2, k_min1, k_setI1, k_setI2, k_setI3, k_setA1, k_setA2, k_enum, k_asT3, List.set_cons_succ, List.set_cons_zero, List.getElem?_cons_zero, List.getElem?_cons_succ, R.bind_ok, R.lift_some, bl, Option.map_some]
  have emin : (if (tx.length : Int) < (many : Int) then (tx.length : Int) else (many : Int)) = ((min ts.length tx.length : Nat) : Int) := by split <;> omega
  obtain ⟨st, e, x6', rfl⟩ := forR_all (step := fun x st => evSs F K d_lawL2 (setV st 6 x))
    (fun i st => ∃ x6', st = ⟨[some sc, some (.lst (wordsV L z)), some (.int many), some (.ref 0), some (.str tx), x5, x6', x7, x8, some (.lst (ts.map oneV)), some (.bool (((tx.length : Int) == (many : Int)) && dueB ts tx i)), none, none, none], S⟩)
    (upTo 0 (min ts.length tx.length : Nat)) 0 ⟨[some sc, some (.lst (wordsV L z)), some (.int many), some (.ref 0), some (.str tx), x5, x6, x7, x8, some (.lst (ts.map oneV)), some (.bool ((tx.length : Int) == (many : Int))), none, none, none], S⟩ (by
      rintro i x st hx ⟨x6', rfl⟩
      rw [Nat.zero_add] at *
      have hi : i < min ts.length tx.length := by have := (List.getElem?_eq_some_iff.mp hx).1; rwa [len_upTo] at this
      have hxi : x = .int (i : Int) := by
        unfold upTo at hx
        rw [List.getElem?_map] at hx
        obtain ⟨k, hk, rfl⟩ := Option.map_eq_some_iff.mp hx
        obtain ⟨hk1, rfl⟩ := List.getElem?_eq_some_iff.mp hk
        simp
      subst hxi
      refine ⟨_, law_due_turn F K ts tx i (by omega) (by omega) (by omega) _ _ _ _ _ _ _ (some sc) _ _ _ _ S x6', some (.int i), ?_⟩
      rw [dueB, Bool.and_assoc])
    ⟨x6, by rw [dueB, Bool.and_true]⟩
  rw [len_upTo, Nat.zero_add] at e
  have hdue : (((tx.length : Int) == (many : Int)) && dueB ts tx (min ts.length tx.length)) = tellsB ts tx := by
    unfold tellsB
    by_cases h : tx.length = ts.length
    · rw [due_tells h, Bool.and_comm]
      have h1 : ((tx.length : Int) == (many : Int)) = true := by rw [beq_iff_eq]; omega
      have h2 : (tx.length == ts.length) = true := by rw [beq_iff_eq]; exact h
      rw [h1, h2]
    · have h1 : ((tx.length : Int) == (many : Int)) = false := by rw [beq_eq_false_iff_ne]; omega
      have h2 : (tx.length == ts.length) = false := by rw [beq_eq_false_iff_ne]; exact h
      rw [h1, h2, Bool.and_false]; rfl
  rw [hdue] at e
  have g13 : evS F K (d_lawB.nth 13) ⟨[some sc, some (.lst (wordsV L z)), some (.int many), some (.ref 0), some (.str tx), x5, x6, x7, x8, some (.lst (ts.map oneV)), some (.bool ((tx.length : Int) == (many : Int))), none, none, none], S⟩ = .ok .next ⟨[some sc, some (.lst (wordsV L z)), some (.int many), some (.ref 0), some (.str tx), x5, x6', x7, x8, some (.lst (ts.map oneV)), some (.bool (tellsB ts tx)), none, none, none], S⟩ := by
    simp only [d_lawB, Sms.nth, qvE_none, qvE_bool, qvE_int, qvE_str, wk_loc, qvE_fz, qvE_neg, qvEs_nil, qvTs_nil, qvO_none, qvO_some, qvS_brk, qvSs_nil, wvE_bin, wvE_cmp, wvE_sub, wvE_slice, wvE_chain, wvE_band, wvE_bor, wvE_not, wvE_ite, wvE_tup, wvE_list, wvE_listM, wvE_isin, wvE_bi, wvE_me, wvE_call, wvE_callB, wvE_callZ, wvEs_cons, wvTs_cons, wvS_asg, wvS_expr, wvS_ret, wvS_ifte, wvSs_cons, wvIt_val, wvIt_range1, wvIt_range2, wvIt_zip, k_bin2, k_bin1, k_cmp2, k_cmp1, k_sub2, k_sub1, k_sl2, k_sl1, k_sl0, k_ch0, k_ch1, k_ch2t, k_ch2f, k_ch3, k_band2, k_band1t, k_band1f, k_bor2, k_bor1t, k_bor1f, k_not, k_truth, k_ite_t, k_ite_f, k_tup, k_list, k_listM, k_isin, k_bi, k_me2, k_me1, k_call, k_callR, k_frz, k_cons2, k_cons1, k_test_t, k_test_f, k_asg, k_expr, k_ret, k_if_t, k_if_f, k_seq, k_seqr, k_seqb, k_items, k_rng1, k_rng2, k_rngB, k_zip2, k_zipB, qc_lt, qc_le, qc_gt, qc_ge, qc_is, qc_isnot, qc_in, qc_notin, qc_eqi, qc_nei, qb_add, qb_sub, qb_fdiv, qb_mod, qb_pow, qt_bool, qs_tup, qs_lst, qs_str, qset, qn_none, qn_int, qn_str, qn_tup, qr_find, qr_index, qr_join, wvE_attr, wvE_lenSet, wvE_minD, wvE_min2, wvE_newI, wvE_dictM, qvE_glob, wvS_asgI, wvS_asgA, wvS_asgT, wvIt_enum, k_attr, k_lenSet, k_minD, k_min2, k_min1, k_setI1, k_setI2, k_setI3, k_setA1, k_setA2, k_enum, k_asT3, wvS_for1, k_for, List.set_cons_succ, List.set_cons_zero, List.getElem?_cons_zero, List.getElem?_cons_succ, R.bind_ok, R.lift_some, bl, emin, smallR_nat (show min ts.length tx.length < 2 ^ 31 by omega), if_true, e]
  have h2 : (2 : Nat) ≤ sizeLine := by decide
  have hrow : V.tup [.str (Str.ofString "row").cps.toList, .lst (ts.map oneV)] = rowV (ts.map oneV) := rfl
  have hr := (seq_step g11).trans ((seq_step (ss := d_lawB.drop 13) g12).trans (seq_step (ss := d_lawB.drop 14) g13))
  refine ⟨[some sc, some (.lst (wordsV L z)), some (.int many), some (.ref 0), some (.str tx), x5, x6', x7, x8, some (.lst (ts.map oneV)), some (.bool (tellsB ts tx)), some (rowV (ts.map oneV)), some (.bool (tellsB ts tx)), none], hr.trans ?_⟩
  simp only [d_lawB, Sms.drop, qvE_none, qvE_bool, qvE_int, qvE_str, wk_loc, qvE_fz, qvE_neg, qvEs_nil, qvTs_nil, qvO_none, qvO_some, qvS_brk, qvSs_nil, wvE_bin, wvE_cmp, wvE_sub, wvE_slice, wvE_chain, wvE_band, wvE_bor, wvE_not, wvE_ite, wvE_tup, wvE_list, wvE_listM, wvE_isin, wvE_bi, wvE_me, wvE_call, wvE_callB, wvE_callZ, wvEs_cons, wvTs_cons, wvS_asg, wvS_expr, wvS_ret, wvS_ifte, wvSs_cons, wvIt_val, wvIt_range1, wvIt_range2, wvIt_zip, k_bin2, k_bin1, k_cmp2, k_cmp1, k_sub2, k_sub1, k_sl2, k_sl1, k_sl0, k_ch0, k_ch1, k_ch2t, k_ch2f, k_ch3, k_band2, k_band1t, k_band1f, k_bor2, k_bor1t, k_bor1f, k_not, k_truth, k_ite_t, k_ite_f, k_tup, k_list, k_listM, k_isin, k_bi, k_me2, k_me1, k_call, k_callR, k_frz, k_cons2, k_cons1, k_test_t, k_test_f, k_asg, k_expr, k_ret, k_if_t, k_if_f, k_seq, k_seqr, k_seqb, k_items, k_rng1, k_rng2, k_rngB, k_zip2, k_zipB, qc_lt, qc_le, qc_gt, qc_ge, qc_is, qc_isnot, qc_in, qc_notin, qc_eqi, qc_nei, qb_add, qb_sub, qb_fdiv, qb_mod, qb_pow, qt_bool, qs_tup, qs_lst, qs_str, qset, qn_none, qn_int, qn_str, qn_tup, qr_find, qr_index, qr_join, wvE_attr, wvE_lenSet, wvE_minD, wvE_min2, wvE_newI, wvE_dictM, qvE_glob, wvS_asgI, wvS_asgA, wvS_asgT, wvIt_enum, k_attr, k_lenSet, k_minD, k_min2, k_min1, k_setI1, k_setI2, k_setI3, k_setA1, k_setA2, k_enum, k_asT3, List.set_cons_succ, List.set_cons_zero, List.getElem?_cons_zero, List.getElem?_cons_succ, R.bind_ok, R.lift_some, q_list, List.length_cons, List.length_nil, Nat.zero_add, Nat.reduceAdd, h2, if_true, hrow, ht, qi_bb, qc_eqb, beq_self_eq_true, row_eq, Option.map_some]

end Mine
namespace Mine
open PySem
/-! the calls -/
theorem callN_at {C : Nat} {defs : List Def} {K n : Nat} {f : Str} {d : Def} (hc : f ≠ clsName) (h : defs.find? (fun d => d.name == f) = some d) (args : List V) (σ : List O) : callN C defs K (n + 1) f args σ = runDef (callN C defs K n) K d args σ := by
  rw [callN]
  simp only [if_neg hc, h]
theorem f_init : defs.find? (fun d => d.name == initName) = some d_init := by kernel_rfl
theorem f_link : defs.find? (fun d => d.name == Str.ofString "link") = some d_link := by kernel_rfl
theorem f_leaf_of : defs.find? (fun d => d.name == Str.ofString "leaf_of") = some d_leaf_of := by kernel_rfl
theorem f_row_of : defs.find? (fun d => d.name == Str.ofString "row_of") = some d_row_of := by kernel_rfl
theorem f_looked_at : defs.find? (fun d => d.name == Str.ofString "looked_at") = some d_looked_at := by kernel_rfl
theorem f_leaves_of : defs.find? (fun d => d.name == Str.ofString "leaves_of") = some d_leaves_of := by kernel_rfl
theorem f_step : defs.find? (fun d => d.name == Str.ofString "step") = some d_step := by kernel_rfl
theorem f_told_at : defs.find? (fun d => d.name == Str.ofString "told_at") = some d_told_at := by kernel_rfl
theorem f_told_of : defs.find? (fun d => d.name == Str.ofString "told_of") = some d_told_of := by kernel_rfl
theorem f_tells : defs.find? (fun d => d.name == Str.ofString "tells") = some d_tells := by kernel_rfl
theorem f_cell_at : defs.find? (fun d => d.name == Str.ofString "_law_cell_at") = some d_cell_at := by kernel_rfl
theorem f_sign_by : defs.find? (fun d => d.name == Str.ofString "_law_sign_by") = some d_sign_by := by kernel_rfl
theorem f_letters : defs.find? (fun d => d.name == Str.ofString "_law_letters") = some d_letters := by kernel_rfl
theorem f_some_of : defs.find? (fun d => d.name == Str.ofString "_law_some_of") = some d_some_of := by kernel_rfl
theorem f_law : defs.find? (fun d => d.name == Str.ofString "law") = some d_law := by kernel_rfl
theorem cell_at_run (F : Fn) (K : Nat) (is : List Int) (k : Nat) (hk : k < 100) (σ : List O) (hσ : Cl σ) : runDef F K d_cell_at [.lst (is.map .int), .int k] σ = .ok (.int (is.getD k 0)) ⟨[], σ⟩ := by
  refine run_ok (r := .int (is.getD k 0)) rfl ?_ (qfree_int _) hσ
  show Ret (evSs F K d_cell_atB ⟨[some (.lst (is.map .int)), some (.int k)], σ⟩) _ _
  refine Ret.mk0 (ρ := [some (.lst (is.map .int)), some (.int k)]) ?_
  by_cases h : k < is.length
  · simp [d_cell_atB, qvE_none, qvE_bool, qvE_int, qvE_str, wk_loc, qvE_fz, qvE_neg, qvEs_nil, qvTs_nil, qvO_none, qvO_some, qvS_brk, qvSs_nil, wvE_bin, wvE_cmp, wvE_sub, wvE_slice, wvE_chain, wvE_band, wvE_bor, wvE_not, wvE_ite, wvE_tup, wvE_list, wvE_listM, wvE_isin, wvE_bi, wvE_me, wvE_call, wvE_callB, wvE_callZ, wvEs_cons, wvTs_cons, wvS_asg, wvS_expr, wvS_ret, wvS_ifte, wvSs_cons, wvIt_val, wvIt_range1, wvIt_range2, wvIt_zip, k_bin2, k_bin1, k_cmp2, k_cmp1, k_sub2, k_sub1, k_sl2, k_sl1, k_sl0, k_ch0, k_ch1, k_ch2t, k_ch2f, k_ch3, k_band2, k_band1t, k_band1f, k_bor2, k_bor1t, k_bor1f, k_not, k_truth, k_ite_t, k_ite_f, k_tup, k_list, k_listM, k_isin, k_bi, k_me2, k_me1, k_call, k_callR, k_frz, k_cons2, k_cons1, k_test_t, k_test_f, k_asg, k_expr, k_ret, k_if_t, k_if_f, k_seq, k_seqr, k_seqb, k_items, k_rng1, k_rng2, k_rngB, k_zip2, k_zipB, qc_lt, qc_le, qc_gt, qc_ge, qc_is, qc_isnot, qc_in, qc_notin, qc_eqi, qc_nei, qb_add, qb_sub, qb_fdiv, qb_mod, qb_pow, qt_bool, qs_tup, qs_lst, qs_str, qset, qn_none, qn_int, qn_str, qn_tup, qr_find, qr_index, qr_join, wvE_attr, wvE_lenSet, wvE_minD, wvE_min2, wvE_newI, wvE_dictM, qvE_glob, wvS_asgI, wvS_asgA, wvS_asgT, wvIt_enum, k_attr, k_lenSet, k_minD, k_min2, k_min1, k_setI1, k_setI2, k_setI3, k_setA1, k_setA2, k_enum, k_asT3, ql_lst, idx_nat _ (show k < 2 ^ 31 by omega), h]
  · simp [d_cell_atB, qvE_none, qvE_bool, qvE_int, qvE_str, wk_loc, qvE_fz, qvE_neg, qvEs_nil, qvTs_nil, qvO_none, qvO_some, qvS_brk, qvSs_nil, wvE_bin, wvE_cmp, wvE_sub, wvE_slice, wvE_chain, wvE_band, wvE_bor, wvE_not, wvE_ite, wvE_tup, wvE_list, wvE_listM, wvE_isin, wvE_bi, wvE_me, wvE_call, wvE_callB, wvE_callZ, wvEs_cons, wvTs_cons, wvS_asg, wvS_expr, wvS_ret, wvS_ifte, wvSs_cons, wvIt_val, wvIt_range1, wvIt_range2, wvIt_zip, k_bin2, k_bin1, k_cmp2, k_cmp1, k_sub2, k_sub1, k_sl2, k_sl1, k_sl0, k_ch0, k_ch1, k_ch2t, k_ch2f, k_ch3, k_band2, k_band1t, k_band1f, k_bor2, k_bor1t, k_bor1f, k_not, k_truth, k_ite_t, k_ite_f, k_tup, k_list, k_listM, k_isin, k_bi, k_me2, k_me1, k_call, k_callR, k_frz, k_cons2, k_cons1, k_test_t, k_test_f, k_asg, k_expr, k_ret, k_if_t, k_if_f, k_seq, k_seqr, k_seqb, k_items, k_rng1, k_rng2, k_rngB, k_zip2, k_zipB, qc_lt, qc_le, qc_gt, qc_ge, qc_is, qc_isnot, qc_in, qc_notin, qc_eqi, qc_nei, qb_add, qb_sub, qb_fdiv, qb_mod, qb_pow, qt_bool, qs_tup, qs_lst, qs_str, qset, qn_none, qn_int, qn_str, qn_tup, qr_find, qr_index, qr_join, wvE_attr, wvE_lenSet, wvE_minD, wvE_min2, wvE_newI, wvE_dictM, qvE_glob, wvS_asgI, wvS_asgA, wvS_asgT, wvIt_enum, k_attr, k_lenSet, k_minD, k_min2, k_min1, k_setI1, k_setI2, k_setI3, k_setA1, k_setA2, k_enum, k_asT3, ql_lst, idx_nat _ (show k < 2 ^ 31 by omega), h]
section
variable (C K n : Nat)
theorem c_new (σ : List O) : callN C defs K (n + 3) clsName [] σ = .ok (.inst C σ.length) ⟨[], σ ++ [.attrs [.ref (σ.length + 1), .ref (σ.length + 2), .lst [], .ref (σ.length + 3), .none], .lst [], .lst [], .idict []]⟩ := by
  have h : callN C defs K (n + 2) initName [.inst C σ.length] (σ ++ [.attrs []]) = .ok .none ⟨[], σ ++ [.attrs [.ref (σ.length + 1), .ref (σ.length + 2), .lst [], .ref (σ.length + 3), .none], .lst [], .lst [], .idict []]⟩ := by
    rw [callN_at (by decide) f_init]
    exact init_run _ _ _ (clsF_at ..) _
  rw [callN]
  simp only [if_true, List.isEmpty_nil]
  unfold newR
  rw [h, R.bind_ok]
theorem c_leaf (σ : List O) (ss bs : List V) (fi em : V) (es : List (Int × V)) (D : List O) (s : List Nat) (ok : LeafOk s) (h60 : ss.length < 60) (hb : bs.length < 60) :
    callN C defs K (n + 2) "leaf_of" [.inst C σ.length, .str s] (σ ++ Lv σ.length ss bs fi em es D) = .ok (.tup [.bool false, .lst [.int ss.length], .lst [.int ss.length]]) ⟨[], σ ++ Lv σ.length (ss ++ [.str s]) (bs ++ [.ref (σ.length + 5 + D.length)]) fi em es (D ++ [.idict []])⟩ := by
  rw [callN_at (by decide) f_leaf_of]
  exact leaf_of_run _ _ _ (clsF_at ..) _ _ _ _ _ _ _ _ ok.ne (by rw [nodup_dups ok.nd]) ⟨by have := ok.len; omega, ok.lt⟩ h60 hb
theorem c_look1 (σ : List O) (ss : List V) (k : Nat) (fi em : V) (es : List (Int × V)) (s : List Nat) (ok : LeafOk s) (h1 : ss.length = k) (h60 : k < 60) :
    callN C defs K (n + 3) "looked_at" [.inst C σ.length, oneV s] (σ ++ Lv σ.length ss (rowB σ.length k) fi em es (rowD k)) = .ok (.tup [.bool false, .lst [.int k], .lst [.int k]]) ⟨[], σ ++ Lv σ.length (ss ++ [.str s]) (rowB σ.length (k + 1)) fi em es (rowD k ++ [.idict []])⟩ := by
  have h := c_leaf C K n σ ss (rowB σ.length k) fi em es (rowD k) s ok (by omega) (by rw [rowB_len]; exact h60)
  rw [h1, rowD_len, ← rowB_succ] at h
  rw [callN_at (by decide) f_looked_at]
  refine look_one _ _ _ _ _ _ _ _ h (.inr (.inr ⟨.lst (rowB σ.length (k + 1)), List.mem_of_getElem? (i := σ.length + 2) ?_, ?_⟩))
  · rw [List.getElem?_take, if_pos (by rw [lvlen]; omega), lv2]
  · rw [lvlen, rowD_len]
    exact los_false (x := .ref (σ.length + 5 + k)) (by rw [rowB_succ]; simp) (by rw [qfree_ref]; exact decide_eq_false (Nat.lt_irrefl _))
theorem c_link (σ : List O) (ss : List V) (k : Nat) (fi em : V) (es : List (Int × V)) (h60 : k < 60) :
    callN C defs K (n + 2) "link" [.inst C σ.length, .lst (lastsV k), .lst [.int k]] (σ ++ Lv σ.length ss (rowB σ.length (k + 1)) fi em es (rowD k ++ [.idict []])) = .ok .none ⟨[], σ ++ Lv σ.length ss (rowB σ.length (k + 1)) fi em es (rowD (k + 1))⟩ := by
  rw [callN_at (by decide) f_link]
  cases k with
  | zero => exact link_none _ _ _ _ _
  | succ j =>
    have hl : lastsV (j + 1) = [.int (j : Nat)] := rfl
    rw [hl, link_one _ _ _ (clsF_at ..) σ ss (rowB σ.length (j + 1 + 1)) fi em es [] (rowD (j + 1) ++ [O.idict []]) j (j + 1) (by omega) (by rw [rowB_succ]; exact rowB_last _ _) (rowD_last _) (by decide)]
    have : storedV [] ((j + 1 : Nat) : Int) (.bool true) = [(((j + 1 : Nat) : Int), .bool true)] := rfl
    rw [this, rowD_succ]
theorem c_row (σ : List O) (fi em : V) (es : List (Int × V)) (ts : List (List Nat)) (h60 : ts.length ≤ 60) (ok : ∀ s ∈ ts, LeafOk s) :
    callN C defs K (n + 5) "looked_at" [.inst C σ.length, rowV (ts.map oneV)] (σ ++ Lv σ.length [] [] fi em es []) = .ok (.tup [.bool (ts.length == 0), .lst (firstsV ts.length), .lst (lastsV ts.length)]) ⟨[], σ ++ Lv σ.length (ts.map .str) (rowB σ.length ts.length) fi em es (rowD ts.length)⟩ := by
  have h : callN C defs K (n + 4) "row_of" [.inst C σ.length, .lst (ts.map oneV)] (σ ++ Lv σ.length [] [] fi em es []) = .ok (.tup [.bool (ts.length == 0), .lst (firstsV ts.length), .lst (lastsV ts.length)]) ⟨[], σ ++ Lv σ.length (ts.map .str) (rowB σ.length ts.length) fi em es (rowD ts.length)⟩ := by
    rw [callN_at (by decide) f_row_of]
    exact row_of_run _ _ _ _ _ _ _ _ h60 (fun ss k s h1 h2 hs => c_look1 C K n σ ss k fi em es s (ok s hs) h1 h2) fun ss k hk => c_link C K (n + 1) σ ss k fi em es hk
  rw [callN_at (by decide) f_looked_at]
  refine look_row _ _ _ _ _ _ _ _ h ?_
  by_cases h0 : ts.length = 0
  · exact .inl (by rw [lvlen, lvlen, rowD_len, h0]; rfl)
  · refine .inr (.inr ⟨.lst (rowB σ.length ts.length), List.mem_of_getElem? (i := σ.length + 2) ?_, ?_⟩)
    · rw [List.getElem?_take, if_pos (by rw [lvlen]; omega), lv2]
    · rw [lvlen]
      exact los_false (x := .ref (σ.length + 5 + 0)) (List.mem_of_getElem? (i := 0) (by simp only [rowB, List.getElem?_map]; rw [List.getElem?_range (by omega)]; rfl)) (by rw [qfree_ref]; exact decide_eq_false (by simp))
theorem c_leaves (σ : List O) (ts : List (List Nat)) (h60 : ts.length ≤ 60) (ok : ∀ s ∈ ts, LeafOk s) :
    callN C defs K (n + 6) "leaves_of" [.lst [rowV (ts.map oneV)]] σ = .ok (.inst C σ.length) ⟨[], rowS σ ts⟩ := by
  rw [callN_at (by decide) f_leaves_of]
  exact leaves_of_run _ _ _ (clsF_at ..) _ _ _ _ _ _ (c_new C K (n + 2) σ) (c_row C K n σ _ _ _ ts h60 ok)
theorem c_tells (σ : List O) (hσ : Cl σ) (ts : List (List Nat)) (h60 : ts.length ≤ 60) (ok : ∀ s ∈ ts, LeafOk s) (cs : List Nat) :
    callN C defs K (n + 8) "tells" [rowV (ts.map oneV), .str cs] σ = .ok (.bool (tellsB ts cs)) ⟨[], σ⟩ := by
  rw [callN_at (by decide) f_tells]
  refine tells_run _ _ _ hσ _ _ _ ?_
  rw [callN_at (by decide) f_told_of]
  refine told_of_run _ _ C _ hσ ts _ _ (c_leaves C K n σ ts h60 ok) (fun c => ?_) (fun c j hj => ?_) ?_ fun j hj => ?_
  · rw [callN_at (by decide) f_step]; exact step_none _ _ _ (clsF_at ..) _ hσ _ h60 _
  · rw [callN_at (by decide) f_step]; exact step_some _ _ _ (clsF_at ..) _ hσ _ h60 _ _ hj
  · rw [callN_at (by decide) f_told_at]; exact told_none _ _ _ (clsF_at ..) _ hσ _
  · rw [callN_at (by decide) f_told_at]; exact told_some _ _ _ (clsF_at ..) _ hσ _ _ hj
theorem c_cell (is : List Int) (k : Nat) (hk : k < 100) (σ : List O) (hσ : Cl σ) : callN C defs K (n + 1) "_law_cell_at" [.lst (is.map .int), .int k] σ = .ok (.int (is.getD k 0)) ⟨[], σ⟩ := by
  rw [callN_at (by decide) f_cell_at]
  exact cell_at_run _ _ is k hk σ hσ
end
theorem law_pure (C : Nat) (is : List Int) (hl : is.length ≤ 63) : ∃ K n st, n ≤ 500 ∧ callN C defs K n "law" [.lst (is.map .int)] [] = .ok (.bool true) st := by
  refine ⟨0, 8 + 1, ⟨[], []⟩, by omega, ?_⟩
  have cl0 : Cl [] := rfl
  have cl1 : Cl [O.lst []] := by unfold Cl; simp only [List.all_cons, List.all_nil, Bool.and_true]; exact qfrees_nil (n := 1)
  obtain ⟨L, z, hL, hlet⟩ := letters_run (callN C defs 0 7) 0 (is.getD 0 0)
  have hlet' : callN C defs 0 8 "_law_letters" [.int (is.getD 0 0)] [] = .ok (.lst (wordsV L z)) ⟨[], []⟩ := by
    rw [callN_at (by decide) f_letters]
    exact hlet [] cl0 fun i τ hτ => by rw [callN_at (by decide) f_sign_by]; exact sign_by_run _ _ i τ hτ
  have hsome : ∀ (m : Nat) (τ : List O), Cl τ → callN C defs 0 8 "_law_some_of" [.lst (wordsV L z), .int m] τ = .ok (.str (someOf (word L z) m)) ⟨[], τ⟩ := fun m τ hτ => by
    rw [callN_at (by decide) f_some_of]; exact some_of_run _ _ hL m τ hτ
  rw [callN_at (by decide) f_law]
  have c0 := c_cell C 0 7 is 0 (by omega) [] cl0
  have g0 : evS (callN C defs 0 8) 0 (d_lawB.nth 0) ⟨[some (.lst (is.map .int)), none, none, none, none, none, none, none, none, none, none, none, none, none], []⟩ = .ok .next ⟨[some (.lst (is.map .int)), some (.lst (wordsV L z)), none, none, none, none, none, none, none, none, none, none, none, none], []⟩ := by
    have c0' : callN C defs 0 8 "_law_cell_at" [.lst (is.map .int), .int 0] [] = .ok (.int (is.getD 0 0)) ⟨[], []⟩ := c0
    simp only [d_lawB, Sms.nth, qvE_none, qvE_bool, qvE_int, qvE_str, wk_loc, qvE_fz, qvE_neg, qvEs_nil, qvTs_nil, qvO_none, qvO_some, qvS_brk, qvSs_nil, wvE_bin, wvE_cmp, wvE_sub, wvE_slice, wvE_chain, wvE_band, wvE_bor, wvE_not, wvE_ite, wvE_tup, wvE_list, wvE_listM, wvE_isin, wvE_bi, wvE_me, wvE_call, wvE_callB, wvE_callZ, wvEs_cons, wvTs_cons, wvS_asg, wvS_expr, wvS_ret, wvS_ifte, wvSs_cons, wvIt_val, wvIt_range1, wvIt_range2, wvIt_zip, k_bin2, k_bin1, k_cmp2, k_cmp1, k_sub2, k_sub1, k_sl2, k_sl1, k_sl0, k_ch0, k_ch1, k_ch2t, k_ch2f, k_ch3, k_band2, k_band1t, k_band1f, k_bor2, k_bor1t, k_bor1f, k_not, k_truth, k_ite_t, k_ite_f, k_tup, k_list, k_listM, k_isin, k_bi, k_me2, k_me1, k_call, k_callR, k_frz, k_cons2, k_cons1, k_test_t, k_test_f, k_asg, k_expr, k_ret, k_if_t, k_if_f, k_seq, k_seqr, k_seqb, k_items, k_rng1, k_rng2, k_rngB, k_zip2, k_zipB, qc_lt, qc_le, qc_gt, qc_ge, qc_is, qc_isnot, qc_in, qc_notin, qc_eqi, qc_nei, qb_add, qb_sub, qb_fdiv, qb_mod, qb_pow, qt_bool, qs_tup, qs_lst, qs_str, qset, qn_none, qn_int, qn_str, qn_tup, qr_find, qr_index, qr_join, wvE_attr, wvE_lenSet, wvE_minD, wvE_min2, wvE_newI, wvE_dictM, qvE_glob, wvS_asgI, wvS_asgA, wvS_asgT, wvIt_enum, k_attr, k_lenSet, k_minD, k_min2, k_min1, k_setI1, k_setI2, k_setI3, k_setA1, k_setA2, k_enum, k_asT3, List.set_cons_succ, List.set_cons_zero, List.getElem?_cons_zero, List.getElem?_cons_succ, R.bind_ok, R.lift_some, c0', hlet']
  obtain ⟨many, hmany, g1⟩ := law_many (callN C defs 0 8) 0 (.lst (is.map .int)) (.lst (wordsV L z)) _ (c_cell C 0 7 is 1 (by omega) [] cl0)
  obtain ⟨ms, tx, num, x6, x7, h1, h2, h3, g2⟩ := law_drawn (callN C defs 0 8) 0 hL (.lst (is.map .int)) many hmany _ (c_cell C 0 7 is 2 (by omega) _ cl1) hsome
  have cl2 : Cl [O.lst (ms.map fun m : Nat => V.int (m : Int))] := by unfold Cl; simp only [List.all_cons, List.all_nil, Bool.and_true]; exact ints_lo _ _
  obtain ⟨ty, odd, h4, g3⟩ := law_text (callN C defs 0 8) 0 hL (.lst (is.map .int)) many hmany _ _ _ _ (c_cell C 0 7 is 3 (by omega) _ cl2) (c_cell C 0 7 is 4 (by omega) _ cl2) (c_cell C 0 7 is 5 (by omega) _ cl2) tx (by omega) (some (.int num)) x6 x7
  obtain ⟨ρ, g4⟩ := law_end (callN C defs 0 8) 0 hL (.lst (is.map .int)) many hmany ms h1 h2 ty h4 (some (.int num)) x6 x7 odd hsome fun ts τ hτ h60 ok => c_tells C 0 0 τ hτ ts h60 ok ty
  refine run_ok rfl ?_ (qfree_bool _) cl0
  show Ret (evSs _ 0 d_lawB ⟨[some (.lst (is.map .int)), none, none, none, none, none, none, none, none, none, none, none, none, none], []⟩) _ _
  refine Ret.mk (ρ := ρ) (τ := [.lst (ms.map fun m : Nat => .int (m : Nat)), .dead]) ?_
  exact (seq_step g0).trans (g1.trans (g2.trans (g3.trans g4)))

end Mine
open PySem PySem.W PyProof.Rows
namespace Mine
noncomputable def qv : Program := view PySem.Challenge.pw_uf030006_02 [1,2,3,5,6,7,8,9,10,11,12,13,14,15,17,18,20,21,22,23,24]
theorem left_run (w : World) (os : OsState) : (topRunG (PySem.W.Fast.tw6613529449190102663 (boot_heap w.params).objs.size ((boot_heap w.params).nsMap mainGlobals "__annotations__")) (PySem.W.Fast.tw10156331382660048174 (PySem.W.Fast.tw11892475500146522536 treeTable) PySem.Challenge.pw_uf030006_02 w) 2856 (bootS w.params os) (topStub PySem.Challenge.pw_uf030006_02)).map (fun s =>
      (staticsOk (importedModules PySem.Challenge.pw_uf030006_02.main.body) (boot_heap w.params) s.abs.heap && namesBound PySem.Challenge.pw_uf030006_02 s.abs.heap && gensDone s.abs && laidKept (boot_heap w.params) s.abs.heap, openSeen qv [] (importedModules PySem.Challenge.pw_uf030006_02.main.body) (fun s => xlAt qv [] s && recOk (RowW.records PySem.Challenge.rw_uf030006_02.row.toRowW) s) true s.abs, Hook.obs Hook.none s.abs)) = some (true, openGood qv [], Hook.val Hook.none w) := by kernel_rfl
theorem left_qv : LeftO PySem.Challenge.pw_uf030006_02 qv [] (fun s => xlAt qv [] s && recOk (RowW.records PySem.Challenge.rw_uf030006_02.row.toRowW) s) (Hook.obs Hook.none) (Hook.val Hook.none) 2856 :=
  left_tree (by rfl) (by rfl) (fun _ => rfl) fun w os => by rw [quick_run]; exact left_run w os
theorem ok_qv : topOk qv defs = true := by decide +kernel
end Mine
theorem PySem.Challenge.cw_uf030006_02_holds : PySem.Challenge.rw_uf030006_02.Holds := by
  w_on
  refine holds_law (by decide +kernel) fun said => ?_
  refine holds_open (q := Mine.qv) (loose := []) (Xt := fun s => xlAt Mine.qv [] s && recOk (RowW.records PySem.Challenge.rw_uf030006_02.row.toRowW) s) (XP := XL Mine.qv []) (Yf := Hook.obs Hook.none) (Ya := Hook.val Hook.none) (YP := Hook.says Hook.none) (N := 2856) Mine.left_qv (Hook.of Hook.none) (Hook.keeps Hook.none) (fun s e => xl_of s (Bool.and_eq_true_iff.mp e).1) XL.keeps (by rfl) (by rfl) (by rfl) (fun s e => recFacts_of (Bool.and_eq_true_iff.mp e).2) (by rfl) (by first | assumption | decide +kernel) (by decide +kernel) ⟨rfl, rfl, rfl, rfl, rfl, by decide +kernel⟩ ?hw ?hc
  (case hw => w_witness2)
  exact Mine.law_walk Mine.defs Mine.ok_qv rfl rfl Mine.law_pure rfl
