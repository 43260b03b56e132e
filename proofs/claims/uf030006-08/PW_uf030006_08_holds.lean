import PyProof.Rows.All
import PyProof.DictRoadsH
import PyProof.TupleKey
import PyProof.P3Eq
import PyProof.FactsAll.NoneType
import PyProof.Rows.TupTab
import PyProof.Rows.Many
import PyProof.Walks
import PyProof.WalksMore
import PyProof.Cells
import PyProof.Claim2
import PyProof.SliceMore
import PyProof.DictStraight
import PyProof.NsCount
import PyProof.CodeObj
import PyProof.ToksMono
import PyProof.PureInt
import PyProof.Rows.RuleB_floordiv
import PyProof.Rows.RuleB_pow
import PyProof.Rows.IntRules
import PyProof.Rows.StrRules
import PyProof.StrOps
import PyProof.Rows.Tup
import PyProof.ListIndexNeg
import PyProof.IsiPairs
import PyProof.IsiHeapPairs
import PyProof.IsiNone
import PyProof.Conv_int_bool
import PyProof.Truth
import PyProof.ListTruth
import PyProof.Rows.TupMore
import PyProof.Rows.StrFirst
import PyProof.StrCalls
import PyProof.StrCalls2
import PyProof.StrCalls3
import PyProof.Rows.StrJoin2
import PyProof.SliceStr2
import PyProof.SliceList
import PyProof.Rows.StrTemp
import PyProof.Rows.RuleC_int
import PyProof.NeData
import PyProof.Rows.SeqIn
import PyProof.Rows.StrInSeq3
import PyProof.Rows.TupSub
import PyProof.StrLawsFirst
import PyProof.DictRoads
import PyProof.TupleOfSeq
import PyProof.WalkInts
import PyProof.SeqI3
import PyProof.StrOps2
import PyProof.ListCopy
import PyProof.Rows.SeqMore
import PyProof.Conv_int
import PyProof.IsInstanceH
import PyProof.ListStr
import PyProof.ListMulAny
import PyProof.Rows.ListMulArg
import PyProof.DefCall
import PyProof.StrBlock
import PyProof.PvWalk
import PyProof.Rows.Exc
import PyProof.Boot
import PyProof.Rows.Nodes
import PyProof.Rows.PlainObj
import PyProof.StrWalks
import PyProof.RangeFor
import PyProof.Rows.GenSrcRange
import PyProof.ForAny
import PyProof.CompFree
import PyProof.Rows.TupAssign
import PyProof.WalksEnum
import PyProof.EnumMake
import PyProof.ZipIter
import PyProof.Draws
import PyProof.ListIndex
import PyProof.Rows.TupDisplay
import OpenK.KLine
import KE.KLam
import KE.KIsAll
import PyProof.ExcArgsOwn
import PyProof.StationsW
import OpenK.KCall
import PyProof.ExcClass2
import PyProof.ExcBaseAll.ValueError
import PyProof.Rows.Catch
import PyProof.RulesAs
import PyProof.TableCode
import Wide.All
import OpenK.AllK
import Wide.FinOn
import PySem.Challenge.RW_uf030006_08
set_option Elab.async false
set_option linter.all false
set_option autoImplicit false
set_option genSizeOfSpec false
set_option genSizeOf false
set_option genInjectivity false
set_option bootstrap.genMatcherCode false
set_option maxRecDepth 100000
set_option maxHeartbeats 8000000
namespace El
universe u1 u2 u3 u4 u5 u6 u7 u8 u9 u10
theorem x0_2  {P1 P2:Prop} {G:Prop} (h:P1∧P2) (k:P1→P2→G):G:=k h.1 h.2
theorem x0_3  {P1 P2 P3:Prop} {G:Prop} (h:P1∧P2∧P3) (k:P1→P2→P3→G):G:=k h.1 h.2.1 h.2.2
theorem x1_1 {α1:Sort u1} {P1:α1→Prop} {G:Prop} (h:∃ a1,P1 a1) (k:∀ a1,P1 a1→G):G:=h.elim fun a1 h=>k a1 h
theorem x1_2 {α1:Sort u1} {P1 P2:α1→Prop} {G:Prop} (h:∃ a1,P1 a1∧P2 a1) (k:∀ a1,P1 a1→P2 a1→G):G:=h.elim fun a1 h=>k a1 h.1 h.2
theorem x1_3 {α1:Sort u1} {P1 P2 P3:α1→Prop} {G:Prop} (h:∃ a1,P1 a1∧P2 a1∧P3 a1) (k:∀ a1,P1 a1→P2 a1→P3 a1→G):G:=h.elim fun a1 h=>k a1 h.1 h.2.1 h.2.2
theorem x1_4 {α1:Sort u1} {P1 P2 P3 P4:α1→Prop} {G:Prop} (h:∃ a1,P1 a1∧P2 a1∧P3 a1∧P4 a1) (k:∀ a1,P1 a1→P2 a1→P3 a1→P4 a1→G):G:=h.elim fun a1 h=>k a1 h.1 h.2.1 h.2.2.1 h.2.2.2
theorem x1_5 {α1:Sort u1} {P1 P2 P3 P4 P5:α1→Prop} {G:Prop} (h:∃ a1,P1 a1∧P2 a1∧P3 a1∧P4 a1∧P5 a1) (k:∀ a1,P1 a1→P2 a1→P3 a1→P4 a1→P5 a1→G):G:=h.elim fun a1 h=>k a1 h.1 h.2.1 h.2.2.1 h.2.2.2.1 h.2.2.2.2
theorem x2_1 {α1:Sort u1} {α2:Sort u2} {P1:α1→α2→Prop} {G:Prop} (h:∃ a1 a2,P1 a1 a2) (k:∀ a1 a2,P1 a1 a2→G):G:=h.elim fun a1 h=>h.elim fun a2 h=>k a1 a2 h
theorem x2_2 {α1:Sort u1} {α2:Sort u2} {P1 P2:α1→α2→Prop} {G:Prop} (h:∃ a1 a2,P1 a1 a2∧P2 a1 a2) (k:∀ a1 a2,P1 a1 a2→P2 a1 a2→G):G:=h.elim fun a1 h=>h.elim fun a2 h=>k a1 a2 h.1 h.2
theorem x2_3 {α1:Sort u1} {α2:Sort u2} {P1 P2 P3:α1→α2→Prop} {G:Prop} (h:∃ a1 a2,P1 a1 a2∧P2 a1 a2∧P3 a1 a2) (k:∀ a1 a2,P1 a1 a2→P2 a1 a2→P3 a1 a2→G):G:=h.elim fun a1 h=>h.elim fun a2 h=>k a1 a2 h.1 h.2.1 h.2.2
theorem x2_4 {α1:Sort u1} {α2:Sort u2} {P1 P2 P3 P4:α1→α2→Prop} {G:Prop} (h:∃ a1 a2,P1 a1 a2∧P2 a1 a2∧P3 a1 a2∧P4 a1 a2) (k:∀ a1 a2,P1 a1 a2→P2 a1 a2→P3 a1 a2→P4 a1 a2→G):G:=h.elim fun a1 h=>h.elim fun a2 h=>k a1 a2 h.1 h.2.1 h.2.2.1 h.2.2.2
theorem x2_5 {α1:Sort u1} {α2:Sort u2} {P1 P2 P3 P4 P5:α1→α2→Prop} {G:Prop} (h:∃ a1 a2,P1 a1 a2∧P2 a1 a2∧P3 a1 a2∧P4 a1 a2∧P5 a1 a2) (k:∀ a1 a2,P1 a1 a2→P2 a1 a2→P3 a1 a2→P4 a1 a2→P5 a1 a2→G):G:=h.elim fun a1 h=>h.elim fun a2 h=>k a1 a2 h.1 h.2.1 h.2.2.1 h.2.2.2.1 h.2.2.2.2
theorem x2_7 {α1:Sort u1} {α2:Sort u2} {P1 P2 P3 P4 P5 P6 P7:α1→α2→Prop} {G:Prop} (h:∃ a1 a2,P1 a1 a2∧P2 a1 a2∧P3 a1 a2∧P4 a1 a2∧P5 a1 a2∧P6 a1 a2∧P7 a1 a2) (k:∀ a1 a2,P1 a1 a2→P2 a1 a2→P3 a1 a2→P4 a1 a2→P5 a1 a2→P6 a1 a2→P7 a1 a2→G):G:=h.elim fun a1 h=>h.elim fun a2 h=>k a1 a2 h.1 h.2.1 h.2.2.1 h.2.2.2.1 h.2.2.2.2.1 h.2.2.2.2.2.1 h.2.2.2.2.2.2
theorem x3_3 {α1:Sort u1} {α2:Sort u2} {α3:Sort u3} {P1 P2 P3:α1→α2→α3→Prop} {G:Prop} (h:∃ a1 a2 a3,P1 a1 a2 a3∧P2 a1 a2 a3∧P3 a1 a2 a3) (k:∀ a1 a2 a3,P1 a1 a2 a3→P2 a1 a2 a3→P3 a1 a2 a3→G):G:=h.elim fun a1 h=>h.elim fun a2 h=>h.elim fun a3 h=>k a1 a2 a3 h.1 h.2.1 h.2.2
theorem x3_4 {α1:Sort u1} {α2:Sort u2} {α3:Sort u3} {P1 P2 P3 P4:α1→α2→α3→Prop} {G:Prop} (h:∃ a1 a2 a3,P1 a1 a2 a3∧P2 a1 a2 a3∧P3 a1 a2 a3∧P4 a1 a2 a3) (k:∀ a1 a2 a3,P1 a1 a2 a3→P2 a1 a2 a3→P3 a1 a2 a3→P4 a1 a2 a3→G):G:=h.elim fun a1 h=>h.elim fun a2 h=>h.elim fun a3 h=>k a1 a2 a3 h.1 h.2.1 h.2.2.1 h.2.2.2
theorem x3_5 {α1:Sort u1} {α2:Sort u2} {α3:Sort u3} {P1 P2 P3 P4 P5:α1→α2→α3→Prop} {G:Prop} (h:∃ a1 a2 a3,P1 a1 a2 a3∧P2 a1 a2 a3∧P3 a1 a2 a3∧P4 a1 a2 a3∧P5 a1 a2 a3) (k:∀ a1 a2 a3,P1 a1 a2 a3→P2 a1 a2 a3→P3 a1 a2 a3→P4 a1 a2 a3→P5 a1 a2 a3→G):G:=h.elim fun a1 h=>h.elim fun a2 h=>h.elim fun a3 h=>k a1 a2 a3 h.1 h.2.1 h.2.2.1 h.2.2.2.1 h.2.2.2.2
theorem x4_3 {α1:Sort u1} {α2:Sort u2} {α3:Sort u3} {α4:Sort u4} {P1 P2 P3:α1→α2→α3→α4→Prop} {G:Prop} (h:∃ a1 a2 a3 a4,P1 a1 a2 a3 a4∧P2 a1 a2 a3 a4∧P3 a1 a2 a3 a4) (k:∀ a1 a2 a3 a4,P1 a1 a2 a3 a4→P2 a1 a2 a3 a4→P3 a1 a2 a3 a4→G):G:=h.elim fun a1 h=>h.elim fun a2 h=>h.elim fun a3 h=>h.elim fun a4 h=>k a1 a2 a3 a4 h.1 h.2.1 h.2.2
theorem x4_7 {α1:Sort u1} {α2:Sort u2} {α3:Sort u3} {α4:Sort u4} {P1 P2 P3 P4 P5 P6 P7:α1→α2→α3→α4→Prop} {G:Prop} (h:∃ a1 a2 a3 a4,P1 a1 a2 a3 a4∧P2 a1 a2 a3 a4∧P3 a1 a2 a3 a4∧P4 a1 a2 a3 a4∧P5 a1 a2 a3 a4∧P6 a1 a2 a3 a4∧P7 a1 a2 a3 a4) (k:∀ a1 a2 a3 a4,P1 a1 a2 a3 a4→P2 a1 a2 a3 a4→P3 a1 a2 a3 a4→P4 a1 a2 a3 a4→P5 a1 a2 a3 a4→P6 a1 a2 a3 a4→P7 a1 a2 a3 a4→G):G:=h.elim fun a1 h=>h.elim fun a2 h=>h.elim fun a3 h=>h.elim fun a4 h=>k a1 a2 a3 a4 h.1 h.2.1 h.2.2.1 h.2.2.2.1 h.2.2.2.2.1 h.2.2.2.2.2.1 h.2.2.2.2.2.2
theorem x9_9 {α1:Sort u1} {α2:Sort u2} {α3:Sort u3} {α4:Sort u4} {α5:Sort u5} {α6:Sort u6} {α7:Sort u7} {α8:Sort u8} {α9:Sort u9} {P1 P2 P3 P4 P5 P6 P7 P8 P9:α1→α2→α3→α4→α5→α6→α7→α8→α9→Prop} {G:Prop} (h:∃ a1 a2 a3 a4 a5 a6 a7 a8 a9,P1 a1 a2 a3 a4 a5 a6 a7 a8 a9∧P2 a1 a2 a3 a4 a5 a6 a7 a8 a9∧P3 a1 a2 a3 a4 a5 a6 a7 a8 a9∧P4 a1 a2 a3 a4 a5 a6 a7 a8 a9∧P5 a1 a2 a3 a4 a5 a6 a7 a8 a9∧P6 a1 a2 a3 a4 a5 a6 a7 a8 a9∧P7 a1 a2 a3 a4 a5 a6 a7 a8 a9∧P8 a1 a2 a3 a4 a5 a6 a7 a8 a9∧P9 a1 a2 a3 a4 a5 a6 a7 a8 a9) (k:∀ a1 a2 a3 a4 a5 a6 a7 a8 a9,P1 a1 a2 a3 a4 a5 a6 a7 a8 a9→P2 a1 a2 a3 a4 a5 a6 a7 a8 a9→P3 a1 a2 a3 a4 a5 a6 a7 a8 a9→P4 a1 a2 a3 a4 a5 a6 a7 a8 a9→P5 a1 a2 a3 a4 a5 a6 a7 a8 a9→P6 a1 a2 a3 a4 a5 a6 a7 a8 a9→P7 a1 a2 a3 a4 a5 a6 a7 a8 a9→P8 a1 a2 a3 a4 a5 a6 a7 a8 a9→P9 a1 a2 a3 a4 a5 a6 a7 a8 a9→G):G:=h.elim fun a1 h=>h.elim fun a2 h=>h.elim fun a3 h=>h.elim fun a4 h=>h.elim fun a5 h=>h.elim fun a6 h=>h.elim fun a7 h=>h.elim fun a8 h=>h.elim fun a9 h=>k a1 a2 a3 a4 a5 a6 a7 a8 a9 h.1 h.2.1 h.2.2.1 h.2.2.2.1 h.2.2.2.2.1 h.2.2.2.2.2.1 h.2.2.2.2.2.2.1 h.2.2.2.2.2.2.2.1 h.2.2.2.2.2.2.2.2
end El
namespace Mine
open PySem
noncomputable def oIs:Option Int→Value→Bool
 | none,.none=>true
 | some i,v=>v.isInt i
 | _,_=>false
noncomputable def oH:Option Int→Int
 | none=>0xFCA86420
 | some i=>hashInt i
section
variable {prog:Program} {w:World} {A:Around} {E:Value→Shared→Prop} {s:Shared}
theorem Z0N {k:Option Int} {v:Value} (h:oIs k v = true):(k = none∧v = .none) ∨ ∃ i t,k = some i∧v = .int i t:=by
 cases k with
 | none=>cases v <;> first | exact .inl ⟨rfl,rfl⟩ | cases h
 | some i=>
  obtain ⟨t,rfl⟩:=Value.isInt_shape (v:=v) (k:=i) (by cases v <;> exact h)
  exact .inr ⟨i,t,rfl,rfl⟩
theorem Z81 {Q:Int→Shared→Prop} (h:Q 0xFCA86420 { s with toks:=s.toks + 1 }):wpAny (model prog w) A (pyHash .none) Q E s:=by
 have hT:s.TypeIs .none "NoneType":=rfl
 unfold pyHash pyHashByItsType
 have hv:[Value.none].any Value.onHeap = false:=rfl
 refine wpAny_bind ?_
 rw [cRoomFor,if_neg (by rw [hv]; exact Bool.false_ne_true)]; refine wpAny_pure ?_
 refine wpAny_bind (wpAny_specialOf hT F.slot_NoneType_hash.lookup ?_)
 show wpAny _ _ (if (some (Value.builtin "NoneType.__hash__") == some Value.none) = true then _ else _) Q E s
 rw [if_neg (by rw [beq_builtin_none]; exact Bool.false_ne_true)]
 refine wpAny_bind (wpAny_specialOf hT F.slot_NoneType_hash.lookup ?_)
 show wpAny _ _ (callSpecialIfBoundUnlessNone? .none "__hash__" _ >>= _) Q E s
 refine wpAny_bind (wpAny_callSpecialIfBoundUnlessNone?_slot hT F.slot_NoneType_hash (wpAny_call_entry F.slot_NoneType_hash hT F.entry_NoneType_hash ?_ (F.args_NoneType_hash_1 _)))
 show wpAny _ _ (retInt 0xFCA86420) _ _ s
 exact wpAny_ret_mkInt (wpAny_pure h)
theorem Zbs {prog:Program} {w:World} {A:Around} {i j:Int} {t u:Tok} {Q:Bool→Shared→Prop} {E:Value→Shared→Prop} {s:Shared} (h:Q (decide (some i = some j)) s):wpAny (model prog w) A (eqBool (.int i t) (.int j u)) Q E s:=by
 have e:decide (some i = some j) = decide (i = j):=by simp
 rw [e] at h
 exact wpAny_eqBool_int h
noncomputable def Z2j (prog:Program) (w:World):KeyKind prog w (Option Int) where
 is:=oIs
 hash:=oH
 inj:=fun v a b ha hb=>by
  rcases Z0N ha with ⟨rfl,rfl⟩ | ⟨i,t,rfl,rfl⟩ <;> rcases Z0N hb with ⟨rfl,h⟩ | ⟨j,u,rfl,h⟩
  ·rfl
  ·cases h
  ·cases h
  ·cases h; rfl
 byValue:=fun k v h=>by rcases Z0N h with ⟨rfl,rfl⟩ | ⟨i,t,rfl,rfl⟩ <;> rfl
 pyHash:=fun hv h=>by
  rcases Z0N hv with ⟨rfl,rfl⟩ | ⟨i,t,rfl,rfl⟩
  ·exact Z81 h
  ·exact wpAny_pyHash_int h
 eqBool:=fun hu hv h=>by
  rcases Z0N hu with ⟨rfl,rfl⟩ | ⟨i,t,rfl,rfl⟩ <;> rcases Z0N hv with ⟨rfl,rfl⟩ | ⟨j,u,rfl,rfl⟩
  ·exact SeqAt.EqAt.same _ prog w _ _ h
  ·exact SeqAt.EqAt.none_int j u prog w _ _ h
  ·exact SeqAt.EqAt.int_none i t prog w _ _ h
  ·exact Zbs h
 «strs»:=fun k x t v h=>by rcases Z0N h with ⟨_,h⟩ | ⟨i,t,_,h⟩ <;> cases h
noncomputable def Z1I (prog:Program) (w:World):HeapKind prog w (List (Option Int)):=tupleKind (Z2j prog w)
end
end Mine
namespace Mine
open PySem PySem.Calls PyProof.Rows
theorem dec1 {n i:Nat} (h:i < n):n + 1 - (i + 1) < n + 1 - i:=by omega
theorem eqle {n i:Nat} (h:i ≤ n) (h':¬ i < n):i = n:=Nat.le_antisymm h (Nat.le_of_not_lt h')
inductive V where
 | none
 | bool (b:Bool)
 | int (i:Int)
 | str (s:List Nat)
 | tup (xs:List V)
 | lst (xs:List V)
 | ref (n:Nat)
 | inst (C n:Nat)
 | raw (a:Addr)
@[simp] theorem V.ref.injEq (a b:Nat):(V.ref a = V.ref b) = (a = b):=propext ⟨fun h=>by cases h; rfl,fun h=>h ▸ rfl⟩
inductive O where
 | lst (xs:List V)
 | idict (es:List (Int × V))
 | kdict (es:List (List (Option Int) × V))
 | tab (us:List (Nat × Nat))
 | dead
 | priv
noncomputable def O.live:O→Bool
 | .dead=>false
 | _=>true
structure St where
 ρ:List (Option V)
 σ:List O
inductive R (α:Type) where
 | ok (a:α) (st:St)
 | exc (x:Str) (st:St)
 | stuck
theorem R.ok.inj {α:Type} {a b:α} {s t:St} (h:R.ok a s = .ok b t):a = b∧s = t:=by cases h; exact ⟨rfl,rfl⟩
noncomputable def R.bind {α β:Type}:R α→(α→St→R β)→R β
 | .ok a st,f=>f a st
 | .exc x st,_=>.exc x st
 | .stuck,_=>.stuck
@[simp] theorem R.bind_ok {α β:Type} (a:α) (st:St) (f:α→St→R β):(R.ok a st).bind f = f a st:=by rw [R.bind]
@[simp] theorem R.bind_exc {α β:Type} (a:Str) (st:St) (f:α→St→R β):(R.exc a st).bind f = .exc a st:=by rw [R.bind]
@[simp] theorem R.bind_stuck {α β:Type} (f:α→St→R β):(R.stuck:R α).bind f = .stuck:=by rw [R.bind]
theorem R.bind_inv {α β:Type} {m:R α} {f:α→St→R β} {b:β} {st':St} (h:m.bind f = .ok b st'):∃ a st,m = .ok a st∧f a st = .ok b st':=by
 cases m with
 | ok a st=>exact ⟨a,st,rfl,h⟩
 | exc x st=>cases h
 | stuck=>cases h
noncomputable def R.lift {α:Type} (o:Option α) (st:St):R α:=match o with | some a=>.ok a st | none=>.stuck
@[simp] theorem R.lift_some {α:Type} (a:α) (st:St):R.lift (some a) st = .ok a st:=by rw [R.lift]
@[simp] theorem R.lift_none {α:Type} (st:St):R.lift (none:Option α) st = .stuck:=by rw [R.lift]
noncomputable def Z2k (o:Obj):Prop:=(∃ vs n,o.data = .seq vs n) ∨ o.data = .plain
noncomputable def Tr (σ:List O) (μ:List Addr) (b:Addr):Prop:=∃ (n:Nat) (o:O),σ[n]? = some o∧o.live = true∧μ[n]? = some b
mutual
inductive RepV (T:Addr→Prop) (μ:List Addr) (h:Heap):Value→V→Prop
 | none:RepV T μ h .none .none
 | bool (b):RepV T μ h (.bool b) (.bool b)
 | int (i t):RepV T μ h (.int i t) (.int i)
 | str (x t):PyData.strOk x = true→x.length ≤ sizeLine→RepV T μ h (.str x t) (.str x.cps.toList)
 | tup {a o vs n xs}:h.get? a = some o→o.cls = .type "tuple"→o.data = .seq vs n→vs.size ≤ sizeLine→¬ T a→RepVs T μ h vs.toList xs→RepV T μ h (.ref a) (.tup xs)
 | lst {a o vs n xs}:h.get? a = some o→o.cls = .type "list"→o.data = .seq vs n→vs.size ≤ sizeLine→¬ T a→RepVs T μ h vs.toList xs→RepV T μ h (.ref a) (.lst xs)
 | ref {n a}:μ[n]? = some a→RepV T μ h (.ref a) (.ref n)
 | inst {x dx C n}:h.get? x = some { cls:=.ref C,dict:=some dx,data:=.plain }→¬ T x→μ[n]? = some dx→RepV T μ h (.ref x) (.inst C n)
 | raw (a):RepV T μ h (.ref a) (.raw a)
inductive RepVs (T:Addr→Prop) (μ:List Addr) (h:Heap):List Value→List V→Prop
 | nil:RepVs T μ h [] []
 | cons {v vs x xs}:RepV T μ h v x→RepVs T μ h vs xs→RepVs T μ h (v :: vs) (x :: xs)
end
noncomputable def OutV (T:Addr→Prop) (μ:List Addr) (h:Heap) (v:Value):V→Prop
 | .none=>v = .none
 | .bool b=>v = .bool b
 | .int i=>∃ t,v = .int i t
 | .str l=>∃ x t,v = .str x t∧x.cps.toList = l∧PyData.strOk x = true∧x.length ≤ sizeLine
 | .tup xs=>∃ a o vs n,v = .ref a∧h.get? a = some o∧o.cls = .type "tuple"∧o.data = .seq vs n∧vs.size ≤ sizeLine∧¬ T a∧RepVs T μ h vs.toList xs
 | .lst xs=>∃ a o vs n,v = .ref a∧h.get? a = some o∧o.cls = .type "list"∧o.data = .seq vs n∧vs.size ≤ sizeLine∧¬ T a∧RepVs T μ h vs.toList xs
 | .ref n=>∃ a,v = .ref a∧μ[n]? = some a
 | .inst C n=>∃ x dx,v = .ref x∧h.get? x = some { cls:=.ref C,dict:=some dx,data:=.plain }∧¬ T x∧μ[n]? = some dx
 | .raw u=>v = .ref u
noncomputable def ZcP (T:Addr→Prop) (μ:List Addr) (h:Heap) (vs:List Value):List V→Prop
 | []=>vs = []
 | x :: xs=>∃ v us,vs = v :: us∧RepV T μ h v x∧RepVs T μ h us xs
section
variable {T:Addr→Prop} {μ:List Addr} {h:Heap} {v:Value} {x:V}
theorem RepV.out (r:RepV T μ h v x):OutV T μ h v x :=
 RepV.casesOn (motive_1:=fun v x _=>OutV T μ h v x) r rfl (fun _=>rfl) (fun _ t=>⟨t,rfl⟩) (fun x t a b=>⟨x,t,rfl,rfl,a,b⟩) (fun a b c d e f=>⟨_,_,_,_,rfl,a,b,c,d,e,f⟩) (fun a b c d e f=>⟨_,_,_,_,rfl,a,b,c,d,e,f⟩) (fun e=>⟨_,rfl,e⟩) (fun a b c=>⟨_,_,rfl,a,b,c⟩) (fun _=>rfl)
theorem RepVs.out {vs:List Value} {xs:List V} (r:RepVs T μ h vs xs):ZcP T μ h vs xs :=
 RepVs.casesOn (motive_2:=fun vs xs _=>ZcP T μ h vs xs) r rfl (fun a b=>⟨_,_,rfl,a,b⟩)
theorem RepV.refI {n:Nat} (r:RepV T μ h v (.ref n)):∃ a,v = .ref a∧μ[n]? = some a:=r.out
theorem RepV.refA {a:Addr} {n:Nat} (r:RepV T μ h (.ref a) (.ref n)):μ[n]? = some a:=let ⟨_,e,k⟩:=r.refI; Value.ref.inj e ▸ k
theorem RepV.tupI {xs:List V} (r:RepV T μ h v (.tup xs)):∃ a o vs n,v = .ref a∧h.get? a = some o∧o.cls = .type "tuple"∧o.data = .seq vs n∧vs.size ≤ sizeLine∧¬ T a∧RepVs T μ h vs.toList xs:=r.out
theorem RepV.lstI {xs:List V} (r:RepV T μ h v (.lst xs)):∃ a o vs n,v = .ref a∧h.get? a = some o∧o.cls = .type "list"∧o.data = .seq vs n∧vs.size ≤ sizeLine∧¬ T a∧RepVs T μ h vs.toList xs:=r.out
theorem RepVs.consI {vs:List Value} {xs:List V} (r:RepVs T μ h vs (x :: xs)):∃ v us,vs = v :: us∧RepV T μ h v x∧RepVs T μ h us xs:=r.out
end
section
variable {T T':Addr→Prop} {μ μ':List Addr} {h h':Heap}
theorem RepVs.ind {M:List Value→List V→Prop} (hn:M [] []) (hc:∀ {v vs x xs},RepV T μ h v x→RepVs T μ h vs xs→M vs xs→M (v :: vs) (x :: xs)) {vs:List Value} {xs:List V} (r:RepVs T μ h vs xs):M vs xs :=
 RepVs.rec (motive_1:=fun _ _ _=>True) (motive_2:=fun vs xs _=>M vs xs) trivial (fun _=>trivial) (fun _ _=>trivial) (fun _ _ _ _=>trivial) (fun _ _ _ _ _ _ _=>trivial) (fun _ _ _ _ _ _ _=>trivial) (fun _=>trivial) (fun _ _ _=>trivial) (fun _=>trivial) hn (fun a r _ ih=>hc a r ih) r
theorem RepVs.length {vs:List Value} {xs:List V} (r:RepVs T μ h vs xs):vs.length = xs.length :=
 RepVs.ind (M:=fun vs xs=>vs.length = xs.length) rfl (fun _ _ ih=>congrArg (· + 1) ih) r
theorem RepVs.get {vs:List Value} {xs:List V} (r:RepVs T μ h vs xs):∀ {i:Nat} {x:V},xs[i]? = some x→∃ v,vs[i]? = some v∧RepV T μ h v x :=
 RepVs.ind (M:=fun vs xs=>∀ {i:Nat} {x:V},xs[i]? = some x→∃ v,vs[i]? = some v∧RepV T μ h v x) (fun e=>by simp at e) (fun {v vs y ys} a _ ih {i x} e=>by
  cases i with
  | zero=>cases e; exact ⟨v,rfl,a⟩
  | succ i=>exact ih (i:=i) e) r
theorem RepVs.of_get:∀ {vs:List Value} {xs:List V},vs.length = xs.length→(∀ (i:Nat) (v:Value) (y:V),vs[i]? = some v→xs[i]? = some y→RepV T μ h v y)→RepVs T μ h vs xs
 | [],[],_,_=>.nil
 | [],_ :: _,e,_=>by cases e
 | _ :: _,[],e,_=>by cases e
 | v :: vs,x :: xs,e,k=>.cons (k 0 v x rfl rfl) (RepVs.of_get (Nat.succ.inj e) fun i v y a b=>k (i + 1) v y a b)
theorem RepVs.append {vs:List Value} {xs:List V} {us:List Value} {ys:List V} (r:RepVs T μ h vs xs) (y:RepVs T μ h us ys):RepVs T μ h (vs++us) (xs++ys) :=
 RepVs.ind (M:=fun vs xs=>RepVs T μ h (vs++us) (xs++ys)) y (fun a _ ih=>.cons a ih) r
theorem RepVs.take (k:Nat) {vs:List Value} {xs:List V} (r:RepVs T μ h vs xs):RepVs T μ h (vs.take k) (xs.take k) :=
 RepVs.ind (M:=fun vs xs=>∀ k,RepVs T μ h (vs.take k) (xs.take k)) (fun k=>by rw [List.take_nil,List.take_nil]; exact .nil) (fun a _ ih k=>by
  cases k with
  | zero=>exact .nil
  | succ k=>exact .cons a (ih k)) r k
theorem RepVs.drop (k:Nat) {vs:List Value} {xs:List V} (r:RepVs T μ h vs xs):RepVs T μ h (vs.drop k) (xs.drop k) :=
 RepVs.ind (M:=fun vs xs=>∀ k,RepVs T μ h (vs.drop k) (xs.drop k)) (fun k=>by rw [List.drop_nil,List.drop_nil]; exact .nil) (fun a r ih k=>by
  cases k with
  | zero=>exact .cons a r
  | succ k=>exact ih k) r k
theorem RepV.move (hl:∀ a o,h.get? a = some o→Z2k o→¬ T a→h'.get? a = some o∧¬ T' a) (hr:∀ (n:Nat) (a:Addr),μ[n]? = some a→μ'[n]? = some a) {v:Value} {x:V} (r:RepV T μ h v x):RepV T' μ' h' v x :=
 RepV.rec (motive_1:=fun v x _=>RepV T' μ' h' v x) (motive_2:=fun vs xs _=>RepVs T' μ' h' vs xs) .none .bool .int .str
  (fun ho hc hd hz hT _ ih=>.tup (hl _ _ ho (.inl ⟨_,_,hd⟩) hT).1 hc hd hz (hl _ _ ho (.inl ⟨_,_,hd⟩) hT).2 ih) (fun ho hc hd hz hT _ ih=>.lst (hl _ _ ho (.inl ⟨_,_,hd⟩) hT).1 hc hd hz (hl _ _ ho (.inl ⟨_,_,hd⟩) hT).2 ih) (fun e=>.ref (hr _ _ e))
  (fun ho hT e=>.inst (hl _ _ ho (.inr rfl) hT).1 (hl _ _ ho (.inr rfl) hT).2 (hr _ _ e)) .raw .nil (fun _ _ a b=>.cons a b) r
theorem RepVs.move (hl:∀ a o,h.get? a = some o→Z2k o→¬ T a→h'.get? a = some o∧¬ T' a) (hr:∀ (n:Nat) (a:Addr),μ[n]? = some a→μ'[n]? = some a) {vs:List Value} {xs:List V} (r:RepVs T μ h vs xs):RepVs T' μ' h' vs xs :=
 RepVs.ind (M:=fun vs xs=>RepVs T' μ' h' vs xs) .nil (fun a _ ih=>.cons (a.move hl hr) ih) r
end
inductive Slot where
 | d (D:Addr) (n:Str)
 | c (a:Addr)
noncomputable def Slot.own:Slot→Addr
 | .d D _=>D
 | .c a=>a
noncomputable def Slot.Holds (h:Heap) (v:Value):Slot→Prop
 | .d D n=>∃ m,h.Ns D m∧m n = some v
 | .c a=>h.IsCell a (some v)
noncomputable def Slot.Ok (h:Heap):Slot→Prop
 | .d D _=>∃ m,h.Ns D m
 | .c a=>∃ v,h.IsCell a v
theorem Slot.Ok.get {h:Heap} {s:Slot} (x:s.Ok h):∃ o,h.get? s.own = some o∧((∃ es n,o.data = .dict es n) ∨ ∃ v,o.data = .cell v):=by
 cases s with
 | d D n=>obtain ⟨m,o,es,ep,ho,hd,_⟩:=x; exact ⟨o,ho,.inl ⟨es,ep,hd⟩⟩
 | c a=>obtain ⟨v,o,ho,hd⟩:=x; exact ⟨o,ho,.inr ⟨v,hd⟩⟩
theorem Slot.Ok.keeps {h h':Heap} {s:Slot} (x:s.Ok h) (hk:∀ o,h.get? s.own = some o→h'.get? s.own = some o):s.Ok h':=by
 cases s with
 | d D n=>obtain ⟨m,hm⟩:=x; exact ⟨m,hm.at' hk⟩
 | c a=>obtain ⟨v,o,ho,hd⟩:=x; exact ⟨v,o,hk o ho,hd⟩
theorem Slot.Holds.keeps {h h':Heap} {v:Value} {s:Slot} (x:s.Holds h v) (hk:∀ o,h.get? s.own = some o→h'.get? s.own = some o):s.Holds h' v:=by
 cases s with
 | d D n=>obtain ⟨m,hm,e⟩:=x; exact ⟨m,hm.at' hk,e⟩
 | c a=>obtain ⟨o,ho,hd⟩:=x; exact ⟨o,hk o ho,hd⟩
noncomputable def TabOk (ps:Array Value) (us:List (Nat × Nat)):Prop:=TriplesOk ps.toList∧∀ q:Pos,(q.line,q.col) ∉ us→codeAmong q ps.toList = none
noncomputable def oV:Option Int→V
 | none=>.none
 | some i=>.int i
noncomputable def kV (k:List (Option Int)):V:=.tup (k.map oV)
noncomputable def kH (k:List (Option Int)):Int:=reduceHash (Builtin.Tuple.tupleHashOf (k.map oH))
noncomputable def keyE (x:List (Option Int) × Addr × Value):DictEntry:=⟨kH x.1,.ref x.2.1,x.2.2⟩
structure KLay (o:Obj) (xs:List (List (Option Int) × Addr × Value)) (ys:List (List (Option Int) × V)):Prop where
 dict:o.ExactDict
 data:∃ es ep,o.data = .dict es ep∧es.toList = xs.map keyE
 nd:(xs.map (·.1)).Nodup
 len:xs.length ≤ sizeLine
 keys:xs.map (·.1) = ys.map (·.1)
inductive Lay:Obj→List Value→List V→O→Prop
 | lst {vs:Array Value} {n:Nat} {xs:List V}:vs.size ≤ sizeLine→Lay { cls:=.type "list",data:=.seq vs n } vs.toList xs (.lst xs)
 | idict {o:Obj} {kvs:List (Int × Value)} {ys:List (Int × V)}:(∀ (prog:Program) (w:World),o.IsDictOf (intKind prog w) kvs)→kvs.length ≤ sizeLine→kvs.map (·.1) = ys.map (·.1)→Lay o (kvs.map (·.2)) (ys.map (·.2)) (.idict ys)
 | kdict {o:Obj} {xs ys}:KLay o xs ys→Lay o (xs.map (fun x=>.ref x.2.1)++xs.map (·.2.2)) (ys.map (fun y=>kV y.1)++ys.map (·.2)) (.kdict ys)
 | tab {ps:Array Value} {us:List (Nat × Nat)}:TabOk ps us→Lay { cls:=.none,data:=.fields ps } [] [] (.tab us)
inductive RepO (T:Addr→Prop) (μ:List Addr) (h:Heap) (a:Addr):O→Prop
 | dead:RepO T μ h a .dead
 | priv:RepO T μ h a .priv
 | live {o vs xs ob}:h.get? a = some o→Lay o vs xs ob→RepVs T μ h vs xs→RepO T μ h a ob
theorem RepO.lst {T:Addr→Prop} {μ:List Addr} {h:Heap} {a:Addr} {vs:Array Value} {n:Nat} {xs:List V} (ho:h.get? a = some { cls:=.type "list",data:=.seq vs n }) (hz:vs.size ≤ sizeLine) (r:RepVs T μ h vs.toList xs):RepO T μ h a (.lst xs):=.live ho (.lst hz) r
noncomputable def OutO (T:Addr→Prop) (μ:List Addr) (h:Heap) (a:Addr):O→Prop
 | .lst xs=>∃ (vs:Array Value) (n:Nat),h.get? a = some { cls:=.type "list",data:=.seq vs n }∧vs.size ≤ sizeLine∧RepVs T μ h vs.toList xs
 | .idict ys=>∃ o kvs,h.get? a = some o∧(∀ (prog:Program) (w:World),o.IsDictOf (intKind prog w) kvs)∧kvs.length ≤ sizeLine∧kvs.map (·.1) = ys.map (·.1)∧RepVs T μ h (kvs.map (·.2)) (ys.map (·.2))
 | .kdict ys=>∃ o xs,h.get? a = some o∧KLay o xs ys∧RepVs T μ h (xs.map (fun x=>.ref x.2.1)++xs.map (·.2.2)) (ys.map (fun y=>kV y.1)++ys.map (·.2))
 | .tab us=>∃ ps,h.get? a = some { cls:=.none,data:=.fields ps }∧TabOk ps us
 | .dead=>True
 | .priv=>True
section
variable {T T':Addr→Prop} {μ μ':List Addr} {h h':Heap} {a:Addr} {ob:O}
theorem Lay.out {o:Obj} {vs:List Value} {xs:List V} (L:Lay o vs xs ob):h.get? a = some o→RepVs T μ h vs xs→OutO T μ h a ob :=
 Lay.casesOn (motive:=fun o vs xs ob _=>h.get? a = some o→RepVs T μ h vs xs→OutO T μ h a ob) L (fun hz ho r=>⟨_,_,ho,hz,r⟩) (fun hD hz hk ho r=>⟨_,_,ho,hD,hz,hk,r⟩) (fun hK ho r=>⟨_,_,ho,hK,r⟩) (fun hN ho _=>⟨_,ho,hN⟩)
theorem RepO.out (r:RepO T μ h a ob):OutO T μ h a ob :=
 RepO.casesOn (motive:=fun ob _=>OutO T μ h a ob) r trivial trivial fun ho L r=>L.out ho r
theorem RepO.lst_inv {xs:List V} (x:RepO T μ h a (.lst xs)):∃ (vs:Array Value) (n:Nat),h.get? a = some { cls:=.type "list",data:=.seq vs n }∧vs.size ≤ sizeLine∧RepVs T μ h vs.toList xs:=x.out
theorem RepO.idictI {ys:List (Int × V)} (x:RepO T μ h a (.idict ys)):∃ o kvs,h.get? a = some o∧(∀ (prog:Program) (w:World),o.IsDictOf (intKind prog w) kvs)∧kvs.length ≤ sizeLine∧kvs.map (·.1) = ys.map (·.1)∧RepVs T μ h (kvs.map (·.2)) (ys.map (·.2)):=x.out
theorem RepO.tabI {us:List (Nat × Nat)} (x:RepO T μ h a (.tab us)):∃ ps,h.get? a = some { cls:=.none,data:=.fields ps }∧TabOk ps us:=x.out
theorem RepO.map (r:RepO T μ h a ob) (f:∀ o,h.get? a = some o→h'.get? a = some o) (g:∀ vs xs,RepVs T μ h vs xs→RepVs T' μ' h' vs xs):RepO T' μ' h' a ob :=
 RepO.casesOn (motive:=fun ob _=>RepO T' μ' h' a ob) r .dead .priv fun ho L r=>.live (f _ ho) L (g _ _ r)
end
structure Cx where
 prog:Program
 w:World
 base:Heap
 A:Around
 env:Env
 sl:Nat→Option Slot
noncomputable def Own (c:Cx) (b:Addr):Prop:=∃ i s,c.sl i = some s∧s.own = b
noncomputable def Hk (_:World) (_:O):Prop:=True
theorem Z6B {w:World} {σ:List O} {n:Nat} {o':O} (h:∀ o ∈ σ,Hk w o) (ho:Hk w o'):∀ o ∈ σ.set n o',Hk w o:=fun o q=>(List.mem_or_eq_of_mem_set q).elim (h o) fun e=>e ▸ ho
theorem ZaY {w:World} {σ:List O} {o':O} (h:∀ o ∈ σ,Hk w o) (ho:Hk w o'):∀ o ∈ σ++[o'],Hk w o:=fun o q=>(List.mem_append.mp q).elim (h o) fun e=>List.mem_singleton.mp e ▸ ho
structure Inv (c:Cx) (st:St) (μ:List Addr) (h:Heap):Prop where
 vars:∀ (i:Nat) (x:V),st.ρ[i]? = some (some x)→∃ s v,c.sl i = some s∧s.Holds h v∧RepV (Tr st.σ μ) μ h v x
 slots:∀ i s,c.sl i = some s→s.Ok h
 objs:∀ (n:Nat) (o:O),st.σ[n]? = some o→∃ a,μ[n]? = some a∧RepO (Tr st.σ μ) μ h a o
 len:μ.length = st.σ.length
 nd:μ.Nodup
 lt:∀ a ∈ μ,a < h.objs.size
 base:∀ b o,c.base.get? b = some o→h.get? b = some o
 baseS:∀ b,Own c b→c.base.get? b = none
 baseM:∀ a ∈ μ,c.base.get? a = none
 sep:∀ b,Own c b→b ∉ μ
 kd:∀ o ∈ st.σ,Hk c.w o
structure Stp (c:Cx) (σ:List O) (μ:List Addr) (h:Heap) (σ':List O) (μ':List Addr) (h':Heap):Prop where
 size:h.objs.size ≤ h'.objs.size
 keep:∀ b o,h.get? b = some o→¬ Own c b→¬ Tr σ μ b→h'.get? b = some o
 pre:∀ (n:Nat) (a:Addr),μ[n]? = some a→μ'[n]? = some a
 tr:∀ b,Tr σ' μ' b→Tr σ μ b ∨ h.objs.size ≤ b
 new:∀ a ∈ μ',a ∈ μ ∨ h.objs.size ≤ a
 pv:∀ (n:Nat),σ[n]? = some O.priv→σ'[n]? = some O.priv
 pk:∀ (n:Nat) (a:Addr) (o:Obj),σ[n]? = some O.priv→μ[n]? = some a→h.get? a = some o→h'.get? a = some o
theorem Z45 {σ:List O} {n:Nat} {o o':O} (e:σ[n]? = some o) (h:o ≠ .priv):∀ (k:Nat),σ[k]? = some O.priv→(σ.set n o')[k]? = some O.priv:=fun k q=>by
 have:n ≠ k:=fun x=>by subst x; rw [e] at q; exact h (Option.some.inj q)
 rw [List.getElem?_set_ne this]; exact q
theorem Tr.mem {σ:List O} {μ:List Addr} {b:Addr} (x:Tr σ μ b):b ∈ μ:=let ⟨_,_,_,_,e⟩:=x; List.mem_of_getElem? e
theorem Stp.refl {c:Cx} {σ:List O} {μ:List Addr} {h:Heap}:Stp c σ μ h σ μ h:=⟨Nat.le_refl _,fun _ _ e _ _=>e,fun _ _ e=>e,fun _ e=>.inl e,fun _ e=>.inl e,fun _ e=>e,fun _ _ _ _ _ e=>e⟩
theorem Stp.trans {c:Cx} {σ σ' σ'':List O} {μ μ' μ'':List Addr} {h h' h'':Heap} (x:Stp c σ μ h σ' μ' h') (y:Stp c σ' μ' h' σ'' μ'' h''):Stp c σ μ h σ'' μ'' h'' where
 size:=Nat.le_trans x.size y.size
 keep:=fun b o e h1 h2=>y.keep b o (x.keep b o e h1 h2) h1 fun q=>(x.tr b q).elim h2 fun q=>Nat.lt_irrefl _ (Nat.lt_of_lt_of_le (Heap.lt_size e) q)
 pre:=fun n a e=>y.pre n a (x.pre n a e)
 tr:=fun b q=>(y.tr b q).elim (fun q=>x.tr b q) fun q=>.inr (Nat.le_trans x.size q)
 new:=fun a q=>(y.new a q).elim (fun q=>x.new a q) fun q=>.inr (Nat.le_trans x.size q)
 pv:=fun n e=>y.pv n (x.pv n e)
 pk:=fun n a o e e' e''=>y.pk n a o (x.pv n e) (x.pre n a e') (x.pk n a o e e' e'')
section
variable {c:Cx} {st st':St} {μ μ':List Addr} {h h':Heap}
theorem Inv.own_data (I:Inv c st μ h) {b:Addr} (q:Own c b) {o:Obj} (e:h.get? b = some o):¬ Z2k o:=by
 refine El.x2_2 q fun i s hs q0z=>?_
 obtain rfl:=q0z
 refine El.x1_2 ((I.slots i s hs).get) fun o' ho hd=>?_
 obtain rfl:=Option.some.inj (e.symm.trans ho)
 rintro (⟨vs,n,hq⟩ | hq) <;> rcases hd with ⟨es,n',hd⟩ | ⟨v,hd⟩ <;> rw [hd] at hq <;> cases hq
theorem RepV.step (I:Inv c st μ h) (S:Stp c st.σ μ h st'.σ μ' h') {v:Value} {x:V} (r:RepV (Tr st.σ μ) μ h v x):RepV (Tr st'.σ μ') μ' h' v x :=
 r.move (fun a o e hd hT=>⟨S.keep a o e (fun q=>I.own_data q e hd) hT,fun q=>(S.tr a q).elim hT fun q=>Nat.lt_irrefl _ (Nat.lt_of_lt_of_le (Heap.lt_size e) q)⟩) S.pre
theorem RepVs.step (I:Inv c st μ h) (S:Stp c st.σ μ h st'.σ μ' h') {v:List Value} {x:List V} (r:RepVs (Tr st.σ μ) μ h v x):RepVs (Tr st'.σ μ') μ' h' v x :=
 r.move (fun a o e hd hT=>⟨S.keep a o e (fun q=>I.own_data q e hd) hT,fun q=>(S.tr a q).elim hT fun q=>Nat.lt_irrefl _ (Nat.lt_of_lt_of_le (Heap.lt_size e) q)⟩) S.pre
noncomputable def Ext (h h':Heap):Prop:=h.objs.size ≤ h'.objs.size∧∀ b o,h.get? b = some o→h'.get? b = some o
theorem Ext.refl:Ext h h:=⟨Nat.le_refl _,fun _ _ e=>e⟩
theorem Ext.trans {h'':Heap} (x:Ext h h') (y:Ext h' h''):Ext h h'':=⟨Nat.le_trans x.1 y.1,fun b o e=>y.2 b o (x.2 b o e)⟩
theorem Ext.push (o:Obj):Ext h (h.push o):=⟨by simp,fun _ _ e=>Heap.get?_push_of_some _ e⟩
theorem RepV.ext {T:Addr→Prop} (e:Ext h h') {v:Value} {x:V} (r:RepV T μ h v x):RepV T μ h' v x :=
 r.move (fun a o q _ hT=>⟨e.2 a o q,hT⟩) fun _ _ q=>q
theorem RepVs.ext {T:Addr→Prop} (e:Ext h h') {v:List Value} {x:List V} (r:RepVs T μ h v x):RepVs T μ h' v x :=
 r.move (fun a o q _ hT=>⟨e.2 a o q,hT⟩) fun _ _ q=>q
theorem RepO.ext {T:Addr→Prop} (e:Ext h h') {a:Addr} {o:O} (r:RepO T μ h a o):RepO T μ h' a o:=r.map (fun _ ho=>e.2 _ _ ho) fun _ _ r=>r.ext e
theorem Inv.ext (I:Inv c st μ h) (e:Ext h h'):Inv c st μ h' where
 vars:=fun i x q=>let ⟨s,v,h1,h2,h3⟩:=I.vars i x q; ⟨s,v,h1,h2.keeps fun o q=>e.2 _ o q,h3.ext e⟩
 slots:=fun i s q=>(I.slots i s q).keeps fun o q=>e.2 _ o q
 objs:=fun n o q=>let ⟨a,h1,h2⟩:=I.objs n o q; ⟨a,h1,h2.ext e⟩
 len:=I.len
 nd:=I.nd
 lt:=fun a q=>Nat.lt_of_lt_of_le (I.lt a q) e.1
 base:=fun b o q=>e.2 b o (I.base b o q)
 baseS:=I.baseS
 baseM:=I.baseM
 sep:=I.sep
 kd:=I.kd
theorem Stp.ext (e:Ext h h') {σ:List O}:Stp c σ μ h σ μ h':=⟨e.1,fun b o q _ _=>e.2 b o q,fun _ _ q=>q,fun _ q=>.inl q,fun _ q=>.inl q,fun _ q=>q,fun _ a o _ _ q=>e.2 a o q⟩
end
noncomputable def Same (s s':Shared):Prop:=s'.gens = s.gens∧s'.drawn = s.drawn∧s'.os = s.os
theorem Same.refl {s:Shared}:Same s s:=⟨rfl,rfl,rfl⟩
theorem Same.trans {s s' s'':Shared} (x:Same s s') (y:Same s' s''):Same s s'':=⟨y.1.trans x.1,y.2.1.trans x.2.1,y.2.2.trans x.2.2⟩
noncomputable def Sim {α β:Type} (c:Cx) (t:Sem α) (m:R β) (rel:St→List Addr→Heap→α→β→Prop) (σ:List O) (μ:List Addr) (s:Shared):Prop :=
 match m with
 | .stuck=>True
 | .exc _ _=>True
 | .ok b st'=>wpAny (model c.prog c.w) c.A t (fun a s'=>∃ μ',rel st' μ' s'.heap a b∧Inv c st' μ' s'.heap∧Stp c σ μ s.heap st'.σ μ' s'.heap∧Same s s') (fun _ _=>False) s
noncomputable def rV (st:St) (μ:List Addr) (h:Heap) (v:Value) (x:V):Prop:=RepV (Tr st.σ μ) μ h v x
noncomputable def rVs (st:St) (μ:List Addr) (h:Heap) (v:List Value) (x:List V):Prop:=RepVs (Tr st.σ μ) μ h v x
noncomputable def rEq {α:Type} (_:St) (_:List Addr) (_:Heap) (v:α) (x:α):Prop:=v = x
section
variable {α β γ δ:Type} {c:Cx} {σ:List O} {μ:List Addr} {s:Shared} {rel:St→List Addr→Heap→α→β→Prop} {rel':St→List Addr→Heap→γ→δ→Prop}
theorem Sim.bind {t:Sem α} {f:α→Sem γ} {m:R β} {g:β→St→R δ} (h:Sim c t m rel σ μ s)
  (hf:∀ b st₁ a μ₁ s₁,m = .ok b st₁→rel st₁ μ₁ s₁.heap a b→Inv c st₁ μ₁ s₁.heap→Stp c σ μ s.heap st₁.σ μ₁ s₁.heap→Sim c (f a) (g b st₁) rel' st₁.σ μ₁ s₁) :
  Sim c (t >>= f) (m.bind g) rel' σ μ s:=by
 cases m with
 | stuck=>trivial
 | exc x st=>trivial
 | ok b st₁=>
  simp only [R.bind_ok]
  cases hg:g b st₁ with
  | stuck=>trivial
  | exc x st=>trivial
  | ok d st₂=>
   refine wpAny_bind (wpAny_mono h (fun a s₁ q8=>El.x1_4 q8 fun μ₁ h1 h2 h3 h4=>?_) fun _ _ e=>e.elim)
   have q:=hf b st₁ a μ₁ s₁ rfl h1 h2 h3
   rw [hg] at q
   exact wpAny_mono q (fun a₂ s₂ q8=>El.x1_4 q8 fun μ₂ k1 k2 k3 k4=>⟨μ₂,k1,k2,h3.trans k3,h4.trans k4⟩) fun _ _ e=>e
theorem Sim.pure {a:α} {b:β} {st:St} (I:Inv c st μ s.heap) (h:rel st μ s.heap a b):Sim c (pure a) (.ok b st) rel st.σ μ s :=
 wpAny_pure ⟨μ,h,I,.refl,.refl⟩
theorem Sim.stuck {t:Sem α}:Sim (β:=β) c t .stuck rel σ μ s:=trivial
theorem Sim.exc {t:Sem α} {x:Str} {st:St}:Sim (β:=β) c t (.exc x st) rel σ μ s:=trivial
theorem Sim.leaf {t:Sem α} {b:β} {st:St} (I:Inv c st μ s.heap)
  (h:wpAny (model c.prog c.w) c.A t (fun a s'=>Ext s.heap s'.heap∧Same s s'∧rel st μ s'.heap a b) (fun _ _=>False) s):Sim c t (.ok b st) rel st.σ μ s :=
 wpAny_mono h (fun _ _ ⟨e,q,r⟩=>⟨μ,r,I.ext e,.ext e,q⟩) fun _ _ e=>e
theorem Sim.holding {vs:List Value} {t:Sem α} {m:R β} (h:Sim c t m rel σ μ s):Sim c (holding vs t) m rel σ μ s:=by
 cases m with
 | stuck=>trivial
 | exc x st=>trivial
 | ok b st=>exact wpAny_holding h
theorem Sim.at {p:Pos} {f:Unit→Sem α} {m:R β} (h:Sim c (f ()) m rel σ μ s):Sim c (standAt p >>= f) m rel σ μ s:=by
 cases m with
 | stuck=>trivial
 | exc x st=>trivial
 | ok b st=>exact wpAny_bind (wpAny_standAt h)
theorem Sim.operate {vs:List Value} {t:Sem Value} {m:R β} {rel:St→List Addr→Heap→Value→β→Prop} (h:Sim c t m rel σ μ s):Sim c (operate vs t) m rel σ μ s:=by
 cases m with
 | stuck=>trivial
 | exc x st=>trivial
 | ok b st=>exact fun Γ p hΓ=>by rw [Sem.wp_operate]; exact h Γ p hΓ
theorem Sim.release {vs keep:List Value} {f:Unit→Sem α} {m:R β} (h:Sim c (f ()) m rel σ μ s):Sim c (release vs keep >>= f) m rel σ μ s:=by
 cases m with
 | stuck=>trivial
 | exc x st=>trivial
 | ok b st=>exact wpAny_bind (fun Γ p _=>by rw [Sem.wp_release]; exact h)
theorem Sim.via {t:Sem α} {T:Sem γ} {f:α→Sem γ} {m:R β} {g:β→St→R δ}
  (hT:∀ Q:γ→Shared→Prop,wpAny (model c.prog c.w) c.A t (fun a s₁=>wpAny (model c.prog c.w) c.A (f a) Q (fun _ _=>False) s₁) (fun _ _=>False) s→wpAny (model c.prog c.w) c.A T Q (fun _ _=>False) s)
  (h:Sim c t m rel σ μ s)
  (hf:∀ b st₁ a μ₁ s₁,m = .ok b st₁→rel st₁ μ₁ s₁.heap a b→Inv c st₁ μ₁ s₁.heap→Stp c σ μ s.heap st₁.σ μ₁ s₁.heap→Sim c (f a) (g b st₁) rel' st₁.σ μ₁ s₁) :
  Sim c T (m.bind g) rel' σ μ s:=by
 cases m with
 | stuck=>trivial
 | exc x st=>trivial
 | ok b st₁=>
  simp only [R.bind_ok]
  cases hg:g b st₁ with
  | stuck=>trivial
  | exc x st=>trivial
  | ok d st₂=>
   refine hT _ (wpAny_mono h (fun a s₁ q8=>El.x1_4 q8 fun μ₁ h1 h2 h3 h4=>?_) fun _ _ e=>e.elim)
   have q:=hf b st₁ a μ₁ s₁ rfl h1 h2 h3
   rw [hg] at q
   exact wpAny_mono q (fun a₂ s₂ q8=>El.x1_4 q8 fun μ₂ k1 k2 k3 k4=>⟨μ₂,k1,k2,h3.trans k3,h4.trans k4⟩) fun _ _ e=>e
theorem Sim.imp {T T':Sem α} {m:R β} (hT:∀ Q:α→Shared→Prop,wpAny (model c.prog c.w) c.A T Q (fun _ _=>False) s→wpAny (model c.prog c.w) c.A T' Q (fun _ _=>False) s) (h:Sim c T m rel σ μ s):Sim c T' m rel σ μ s:=by
 cases m with
 | stuck=>trivial
 | exc x st=>trivial
 | ok b st=>exact hT _ h
theorem Sim.of_eq {t t':Sem α} {m:R β} (e:t = t') (h:Sim c t' m rel σ μ s):Sim c t m rel σ μ s:=e ▸ h
theorem Sim.map {t:Sem α} {m:R β} {f:α→γ} {g:β→δ} (h:Sim c t m rel σ μ s) (hr:∀ st μ h a b,rel st μ h a b→rel' st μ h (f a) (g b)) :
  Sim c (t >>= fun a=>Pure.pure (f a)) (m.bind fun b st=>.ok (g b) st) rel' σ μ s :=
 Sim.bind h fun b st₁ a μ₁ s₁ _ r I _=>Sim.pure I (hr _ _ _ _ _ r)
end
end Mine
namespace Mine
open PySem
inductive Op | add | sub | mul | fdiv | mod | pow
inductive Cm | lt | le | gt | ge | eq | ne | is | isnot | isin | notin
inductive Ty | int | bool | list | tuple | str
inductive Bi | len | int | list | tuple
inductive Me | join | append | index
mutual
inductive Ex
 | none
 | bool (b:Bool)
 | int (i:Int)
 | str (s:Str)
 | loc (i:Nat)
 | fz (i:Nat)
 | bin (op:Op) (a b:Ex)
 | cmp (op:Cm) (a b:Ex)
 | band (a b:Ex)
 | bor (a b:Ex)
 | not (a:Ex)
 | neg (i:Int)
 | ite (c a b:Ex)
 | tup (es:Exs)
 | list (es:Exs)
 | listM (es:Exs)
 | sub (a i:Ex)
 | slice (a:Ex) (lo hi:Exo)
 | isin (a:Ex) (t:Ty)
 | bi (f:Bi) (a:Ex)
 | me (m:Me) (a b:Ex)
 | call (f:Str) (es:Exs)
 | dictM
 | comp (elt:Ex) (k:Nat) (it:It) (ifs:Exs)
 | dictK
 | chain (a:Ex) (o1:Cm) (b:Ex) (o2:Cm) (c:Ex)
 | dict1 (a b:Ex)
 | callP (i:Nat) (a:Ex)
 | cap (i:Nat)
inductive Exs
 | nil
 | cons (e:Ex) (es:Exs)
inductive Exo
 | none
 | some (e:Ex)
inductive It
 | val (e:Ex)
 | range1 (a:Ex)
 | enum (a:Ex)
 | range2 (a b:Ex)
 | zip (a b:Ex)
end
mutual
inductive Sm
 | asg (i:Nat) (e:Ex)
 | asgT (is:List Nat) (e:Ex)
 | expr (e:Ex)
 | ret (e:Ex)
 | ifte (c:Ex) (t f:Sms)
 | for1 (i:Nat) (it:It) (body:Sms)
 | forT (is:List Nat) (it:It) (body:Sms)
 | while (c:Ex) (body:Sms)
 | brk
 | stk
 | asgI (a i e:Ex)
inductive Sms
 | nil
 | cons (s:Sm) (ss:Sms)
end
inductive Fl
 | next
 | brk
 | cont
 | ret (v:V)
mutual
noncomputable def V.eqb:V→V→Bool
 | .none,y=>(match y with | .none=>true | _=>false)
 | .bool a,y=>(match y with | .bool b=>a == b | .int j=>(if a then 1 else 0) == j | _=>false)
 | .int i,y=>(match y with | .bool b=>i == (if b then 1 else 0) | .int j=>i == j | _=>false)
 | .str x,y=>(match y with | .str z=>x == z | _=>false)
 | .lst xs,y=>(match y with | .lst ys=>V.eqbs xs ys | _=>false)
 | .tup xs,y=>(match y with | .tup ys=>V.eqbs xs ys | _=>false)
 | .ref _,_=>false
 | .inst _ _,_=>false
 | .raw _,_=>false
noncomputable def V.eqbs:List V→List V→Bool
 | [],ys=>ys.isEmpty
 | x :: xs,ys=>(match ys with | y :: ys=>V.eqb x y && V.eqbs xs ys | []=>false)
end
mutual
noncomputable def V.depth?:V→Option Nat
 | .tup xs=>(V.depths? xs).map (· + 1)
 | .lst xs=>(V.depths? xs).map (· + 1)
 | .ref _=>Option.none
 | .inst _ _=>Option.none
 | .raw _=>Option.none
 | .none=>some 0
 | .bool _=>some 0
 | .int _=>some 0
 | .str _=>some 0
noncomputable def V.depths?:List V→Option Nat
 | []=>some 0
 | x :: xs=>(V.depth? x).bind fun a=>(V.depths? xs).bind fun b=>some (max a b)
end
noncomputable def V.flat64 (x:V):Bool:=x.depth?.any fun d=>decide (d ≤ 64)
noncomputable def lstO:Option O→Option (List V)
 | some (.lst xs)=>some xs
 | _=>none
noncomputable def V.truthy (σ:List O):V→Option Bool
 | .none=>some false
 | .bool b=>some b
 | .int i=>some (i != 0)
 | .str s=>some (!s.isEmpty)
 | .tup xs=>some (!xs.isEmpty)
 | .lst xs=>some (!xs.isEmpty)
 | .ref n=>(lstO σ[n]?).bind fun xs=>some (!xs.isEmpty)
 | .inst _ _=>Option.none
 | .raw _=>Option.none
noncomputable def V.isNone:V→Bool
 | .none=>true
 | _=>false
noncomputable def Z0A (i:Int):Bool:=decide (-(2 ^ 63) ≤ i) && decide (i < 2 ^ 63)
noncomputable def Z0G (i:Int):Bool:=decide (-(2 ^ 62) ≤ i) && decide (i < 2 ^ 62)
noncomputable def V.int?:V→Option Int
 | .int i=>some i
 | _=>Option.none
noncomputable def V.str?:V→Option (List Nat)
 | .str l=>some l
 | _=>Option.none
noncomputable def V.tup?:V→Option (List V)
 | .tup l=>some l
 | _=>Option.none
noncomputable def V.lst?:V→Option (List V)
 | .lst l=>some l
 | _=>Option.none
noncomputable def V.ref?:V→Option Nat
 | .ref n=>some n
 | _=>Option.none
noncomputable def V.inst?:V→Option (Nat × Nat)
 | .inst C n=>some (C,n)
 | _=>Option.none
noncomputable def Z1V:Option O→Option (List (Int × V))
 | some (.idict xs)=>some xs
 | _=>none
noncomputable def tabO:Option O→Option (List (Nat × Nat))
 | some (.tab us)=>some us
 | _=>none
noncomputable def Z57:Option O→Option (List (List (Option Int) × V))
 | some (.kdict es)=>some es
 | _=>none
noncomputable def V.raw?:V→Option Addr
 | .raw v=>some v
 | _=>Option.none
noncomputable def R.need {α β:Type} (o:Option α) (f:α→R β):R β:=match o with
 | some a=>f a
 | none=>.stuck
noncomputable def V.none?:V→Option Unit
 | .none=>some ()
 | _=>Option.none
noncomputable def pick {α β:Type} (o:Option α) (f:α→Option β) (e:Option β):Option β:=match o with
 | some a=>f a
 | none=>e
noncomputable def onI {α:Type} (x y:V) (k:Int→Int→Option α):Option α:=x.int?.bind fun a=>y.int?.bind fun b=>k a b
noncomputable def Z6C (x y:V):Option V:=pick x.int? (fun a=>y.int?.bind fun b=>some (.int (a + b))) <| pick x.str? (fun a=>y.str?.bind fun b=>if a.length + b.length ≤ sizeLine then some (.str (a++b)) else none) <| x.lst?.bind fun a=>y.lst?.bind fun b=>if a.length + b.length ≤ sizeLine then some (.lst (a++b)) else none
noncomputable def Z6D (x y:V):Option V:=y.int?.bind fun b=>pick x.int? (fun a=>if Z0A a || Z0A b then some (.int (a * b)) else none) <| pick x.str? (fun a=>if 2 ≤ b∧b < 128∧a.length * b.toNat ≤ sizeLine then some (.str (List.replicate b.toNat a).flatten) else none) <| x.lst?.bind fun a=>if 0 ≤ b∧b < 64∧a.length * b.toNat ≤ sizeLine then some (.lst (List.replicate b.toNat a).flatten) else none
noncomputable def Z1D (op:Op) (x y:V):Option V:=match op with
 | .add=>Z6C x y
 | .sub=>onI x y fun a b=>some (.int (a - b))
 | .mul=>Z6D x y
 | .fdiv=>onI x y fun a b=>if b = 0 then none else some (.int (Int.fdiv a b))
 | .mod=>onI x y fun a b=>if b = 0 then none else some (.int (Int.fmod a b))
 | .pow=>onI x y fun a b=>if a = 10∧b = 9 then some (.int (10 ^ 9)) else none
noncomputable def onS {α:Type} (y:V) (k:List Nat→Option α):Option α:=y.str?.bind k
noncomputable def ZcQ (x y:V):Option Bool:=onS x fun l=>onS y fun z=>match l with
 | [d]=>some (z.contains d)
 | _=>none
noncomputable def Z2Y:List V→Option (List Int)
 | []=>some []
 | .int i :: r=>(Z2Y r).map (i :: ·)
 | _=>none
noncomputable def Z12:List V→Option (List (List Nat))
 | []=>some []
 | .str x :: r=>(Z12 r).map (x :: ·)
 | _=>none
noncomputable def inL (x:V) (ys:List V):Option Bool:=match x with
 | .int k=>(Z2Y ys).map fun l=>l.any (· == k)
 | .str k=>(Z12 ys).map fun l=>l.any (· == k)
 | _=>none
noncomputable def Zbt:V→Option (Option Int)
 | .none=>some none
 | .int i=>some (some i)
 | _=>none
noncomputable def Z58:List V→Option (List (Option Int))
 | []=>some []
 | x :: r=>(Zbt x).bind fun k=>(Z58 r).bind fun l=>some (k :: l)
noncomputable def Z7z (x:V):Option (List (Option Int)):=x.tup?.bind Z58
noncomputable def Z3Y (σ:List O) (n:Nat) (x:V):Option (Option V):=(Z7z x).bind fun k=>(Z57 σ[n]?).map fun es=>(es.find? fun q=>q.1 = k).map (·.2)
noncomputable def inD (σ:List O) (x y:V):Option Bool:=pick y.lst? (fun ys=>inL x ys) <| pick y.ref? (fun n=>pick x.int? (fun k=>(Z1V σ[n]?).map fun es=>es.any fun p=>p.1 = k) ((Z3Y σ n x).map Option.isSome)) (ZcQ x y)
noncomputable def Z0n (σ:List O) (op:Cm) (x y:V):Option Bool:=match op with
 | .lt=>onI x y fun a b=>some (decide (a < b))
 | .le=>onI x y fun a b=>some (decide (a ≤ b))
 | .gt=>onI x y fun a b=>some (decide (a > b))
 | .ge=>onI x y fun a b=>some (decide (a ≥ b))
 | .eq=>if x.flat64 && y.flat64 then some (V.eqb x y) else none
 | .ne=>if x.flat64 && y.flat64 then some (!V.eqb x y) else none
 | .is=>(match y with | .none=>some x.isNone | _=>none)
 | .isnot=>(match y with | .none=>some (!x.isNone) | _=>none)
 | .isin=>inD σ x y
 | .notin=>(inD σ x y).map not
noncomputable def idxOf {α:Type} (xs:List α) (i:Int):Option α :=
 if Z0A i then (if 0 ≤ i then xs[i.toNat]? else if -(xs.length:Int) ≤ i then xs[(i + xs.length).toNat]? else none) else none
noncomputable def dGet (es:List (Int × V)) (k:Int):Option V:=(es.find? fun p=>p.1 = k).map (·.2)
noncomputable def Z0b (σ:List O) (x y:V):Option V:=pick x.tup? (fun xs=>y.int?.bind fun i=>idxOf xs i) <| pick x.lst? (fun xs=>y.int?.bind fun i=>idxOf xs i) <| pick x.str? (fun l=>y.int?.bind fun i=>(idxOf l i).map fun c=>.str [c]) <| x.ref?.bind fun n=>pick (lstO σ[n]?) (fun xs=>y.int?.bind fun i=>idxOf xs i) <| pick (Z1V σ[n]?) (fun es=>y.int?.bind fun i=>dGet es i) ((Z3Y σ n y).bind id)
noncomputable def cutL {α:Type} (xs:List α) (lo hi:Option Int):List α :=
 (xs.drop (lo.elim 0 (clipAt xs.length))).take (hi.elim xs.length (clipAt xs.length) - lo.elim 0 (clipAt xs.length))
noncomputable def Z82 (x:V):Option (Option Int):=pick x.int? (fun i=>some (some i)) (x.none?.bind fun _=>some none)
noncomputable def Z0o (σ:List O) (x lo hi:V):Option V:=(Z82 lo).bind fun l=>(Z82 hi).bind fun h=>pick x.str? (fun x=>some (.str (cutL x l h))) <| pick x.lst? (fun xs=>some (.lst (cutL xs l h))) <| x.ref?.bind fun n=>(lstO σ[n]?).bind fun xs=>some (.lst (cutL xs l h))
noncomputable def Z9K (σ:List O) (t:Ty) (x:V):Option Bool:=match x with
 | .none=>some false
 | .bool _=>(match t with | .int=>some true | .bool=>some true | _=>none)
 | .int _=>(match t with | .int=>some true | .bool=>some false | _=>none)
 | .str _=>(match t with | .int=>some false | .bool=>some false | .str=>some true | _=>none)
 | .tup _=>(match t with | .int=>some false | .bool=>some false | .list=>some false | .tuple=>some true | _=>none)
 | .lst _=>(match t with | .int=>some false | .bool=>some false | .list=>some true | .tuple=>some false | _=>none)
 | .ref n=>(match t with | .list=>(match σ[n]? with | some (.lst _)=>some true | _=>none) | _=>none)
 | .inst _ _=>none
 | .raw _=>none
noncomputable def Z0O (σ:List O) (f:Bi) (x:V):Option V:=match f with
 | .len=>pick x.str? (fun x=>some (.int x.length)) <| pick x.tup? (fun xs=>some (.int xs.length)) <| pick x.lst? (fun xs=>some (.int xs.length)) <| x.ref?.bind fun n=>(lstO σ[n]?).bind fun xs=>some (.int xs.length)
 | .int=>(match x with
  | .bool b=>some (.int (if b then 1 else 0))
  | .int i=>some (.int i)
  | _=>none)
 | .list=>pick x.lst? (fun xs=>some (.lst xs)) <| x.str?.bind fun x=>some (.lst (x.map fun c=>.str [c]))
 | .tuple=>x.lst?.bind fun xs=>some (.tup xs)
noncomputable def Z0F:Str:=("()":Str)
noncomputable def Z1a:Str:=("[]":Str)
noncomputable def Zbu (x y:V) (st:St):R V:=match x with
 | .str []=>(match y with
  | .lst xs=>(match Z12 xs with | some l=>if l.flatten.length ≤ sizeLine then .ok (.str l.flatten) st else .stuck | none=>.stuck)
  | _=>.stuck)
 | _=>.stuck
noncomputable def ZcR (x y:V) (st:St):R V:=match x with
 | .ref n=>(match st.σ[n]? with
  | some (.lst xs)=>if xs.length < sizeLine then .ok .none ⟨st.ρ,st.σ.set n (.lst (xs++[y]))⟩ else .stuck
  | _=>.stuck)
 | _=>.stuck
noncomputable def Z9L (x y:V) (st:St):R V:=R.need x.str? fun l=>R.need y.str? fun m=>match m with
 | [d]=>if l.contains d then .ok (.int (l.idxOf d)) st else .stuck
 | _=>.stuck
noncomputable def Z1C (m:Me) (x y:V) (st:St):R V:=match m with
 | .join=>Zbu x y st
 | .append=>ZcR x y st
 | .index=>Z9L x y st
noncomputable def Z1W (σ:List O):Me→V→Bool
 | .append,.ref n=>(match σ[n]? with | some (.lst _)=>true | _=>false)
 | .append,_=>false
 | _,.str _=>true
 | _,_=>false
noncomputable def upTo (a b:Int):List V:=(List.range (b - a).toNat).map fun (k:Nat)=>.int (a + (k:Int))
noncomputable def Z1X (σ:List O):V→Option (List V)
 | .str x=>some (x.map fun c=>.str [c])
 | .lst xs=>some xs
 | .tup xs=>some xs
 | _=>none
noncomputable def Z2l (n:Nat):List V→List V
 | []=>[]
 | x :: xs=>.tup [.int n,x] :: Z2l (n + 1) xs
theorem Z83 (n:Nat):Z2l n [] = []:=rfl
theorem Z7A (n:Nat) (x:V) (xs:List V):Z2l n (x :: xs) = .tup [.int n,x] :: Z2l (n + 1) xs:=rfl
noncomputable def Zbv (x:V):Option (List V):=pick x.lst? some (x.str?.map fun l=>l.map fun c=>.str [c])
noncomputable def Zbw (x:V) (st:St):R (List V):=R.need (Zbv x) fun xs=>.ok (Z2l 0 xs) ⟨st.ρ,st.σ++[.priv]⟩
noncomputable def zipR (x y:V) (st:St):R (List V):=R.need x.str? fun l=>R.need y.lst? fun ys=>.ok (((l.map fun c=>V.str [c]).zip ys).map fun p=>.tup [p.1,p.2]) ⟨st.ρ,st.σ++[.priv]⟩
noncomputable def R.or {α:Type} (m n:R α):R α:=match m with
 | .ok a st=>.ok a st
 | .exc x st=>.exc x st
 | .stuck=>n
noncomputable def Z2Z (n:Nat) (x y:V) (st:St):R V:=R.or (R.need x.int? fun k=>.ok (.ref n) ⟨st.ρ,st.σ.set n (.idict [(k,y)])⟩) (R.need (Z7z x) fun k=>.ok (.ref n) ⟨st.ρ,st.σ.set n (.kdict [(k,y)])⟩)
noncomputable def Z10 (es:List (Int × V)) (k:Int) (v:V):List (Int × V):=if es.any (fun p=>p.1 = k) then es.map (fun p=>if p.1 = k then (p.1,v) else p) else es++[(k,v)]
noncomputable def Z59 (n:Nat) (y v:V) (st:St):R Fl:=R.need (Z7z y) fun k=>R.need (Z57 st.σ[n]?) fun es=>if es.length < sizeLine && (es.find? fun q=>q.1 = k).isNone then .ok .next ⟨st.ρ,st.σ.set n (.kdict (es++[(k,v)]))⟩ else .stuck
noncomputable def setD (n:Nat) (k:Int) (v:V) (st:St):R Fl:=R.need (Z1V st.σ[n]?) fun es=>if es.length < sizeLine then .ok .next ⟨st.ρ,st.σ.set n (.idict (Z10 es k v))⟩ else .stuck
noncomputable def setL (n:Nat) (k:Int) (v:V) (st:St):R Fl:=R.need (lstO st.σ[n]?) fun xs=>if 0 ≤ k∧k < xs.length then .ok .next ⟨st.ρ,st.σ.set n (.lst (xs.set k.toNat v))⟩ else .stuck
noncomputable def setI (x y v:V) (st:St):R Fl:=R.need x.ref? fun n=>R.or (Z59 n y v st) (R.need y.int? fun k=>R.or (setD n k v st) (setL n k v st))
noncomputable def setV (st:St) (i:Nat) (x:V):St:=⟨st.ρ.set i (some x),st.σ⟩
abbrev Fn:=Str→List V→List O→R V
noncomputable def Z5a (st:St):List Nat→List V→Option St
 | [],[]=>some st
 | i :: is,x :: xs=>Z5a (setV st i x) is xs
 | _,_=>none
noncomputable def asT (is:List Nat) (x:V) (st:St):R Unit:=R.need x.tup? fun xs=>R.need (Z5a st is xs) fun st'=>.ok () st'
noncomputable def forR (step:V→St→R Fl):List V→St→R Fl
 | [],st=>.ok .next st
 | x :: xs,st=>(step x st).bind fun fl st=>match fl with
  | .next=>forR step xs st
  | .cont=>forR step xs st
  | .brk=>.ok .next st
  | .ret v=>.ok (.ret v) st
noncomputable def rng2 (x y:V) (st:St):R (List V):=R.need x.int? fun a=>R.need y.int? fun b=>if Z0G a && Z0G b then .ok (upTo a b) st else .stuck
noncomputable def Z0x (test:St→R Bool) (body:St→R Fl):Nat→St→R Fl
 | 0,_=>.stuck
 | k + 1,st=>(test st).bind fun b st=>if b then (body st).bind fun fl st=>(match fl with
   | .next=>Z0x test body k st
   | .cont=>Z0x test body k st
   | .brk=>.ok .next st
   | .ret v=>.ok (.ret v) st)
  else .ok .next st
noncomputable def Z2M (k n:Nat) (tests:St→R Bool) (elt:St→R V):List V→St→R Unit
 | [],st=>.ok () st
 | x :: xs,st=>(tests (setV st k x)).bind fun b st=>if b then (elt st).bind fun y st=>(match st.σ[n]? with
   | some (.lst acc)=>if acc.length < sizeLine then Z2M k n tests elt xs ⟨st.ρ,st.σ.set n (.lst (acc++[y]))⟩ else .stuck
   | _=>.stuck) else Z2M k n tests elt xs st
noncomputable def Z03 (m:R V):R Bool:=m.bind fun v st=>R.lift (v.truthy st.σ) st
noncomputable def Z0q (r:R V) (ρ:List (Option V)):R V:=match r with
 | .ok v st=>.ok v ⟨ρ,st.σ⟩
 | .exc x st=>.exc x ⟨ρ,st.σ⟩
 | .stuck=>.stuck
mutual
noncomputable def evE (F:Fn):Ex→St→R V
 | .none,st=>.ok .none st
 | .bool b,st=>.ok (.bool b) st
 | .int i,st=>.ok (.int i) st
 | .str s,st=>.ok (.str s.cps.toList) st
 | .loc i,st=>match st.ρ[i]? with
  | some (some v)=>.ok v st
  | _=>.stuck
 | .fz i,st=>match st.ρ[i]? with
  | some (some (.ref n))=>(match st.σ[n]? with
   | some (.lst xs)=>.ok (.lst xs) ⟨st.ρ.set i (some (.lst xs)),st.σ.set n .dead⟩
   | _=>.stuck)
  | some (some (.lst xs))=>.ok (.lst xs) st
  | _=>.stuck
 | .bin op a b,st=>(evE F a st).bind fun x st=>(evE F b st).bind fun y st=>R.lift (Z1D op x y) st
 | .cmp op a b,st=>(evE F a st).bind fun x st=>(evE F b st).bind fun y st=>R.lift ((Z0n st.σ op x y).map .bool) st
 | .band a b,st=>(evE F a st).bind fun x st=>(R.lift (x.truthy st.σ) st).bind fun t st=>if t then evE F b st else .ok x st
 | .bor a b,st=>(evE F a st).bind fun x st=>(R.lift (x.truthy st.σ) st).bind fun t st=>if t then .ok x st else evE F b st
 | .not a,st=>(Z03 (evE F a st)).bind fun t st=>.ok (.bool (!t)) st
 | .neg i,st=>.ok (.int (-i)) st
 | .ite c a b,st=>(Z03 (evE F c st)).bind fun t st=>if t then evE F a st else evE F b st
 | .tup es,st=>(evEs F es st).bind fun xs st=>if xs.length ≤ sizeLine then .ok (.tup xs) st else .stuck
 | .list es,st=>(evEs F es st).bind fun xs st=>if xs.length ≤ sizeLine then .ok (.lst xs) st else .stuck
 | .listM es,st=>(evEs F es st).bind fun xs st=>if xs.length ≤ sizeLine then .ok (.ref st.σ.length) ⟨st.ρ,st.σ++[.lst xs]⟩ else .stuck
 | .sub a i,st=>(evE F a st).bind fun x st=>(evE F i st).bind fun y st=>R.lift (Z0b st.σ x y) st
 | .slice a lo hi,st=>(evE F a st).bind fun x st=>(evO F lo st).bind fun l st=>(evO F hi st).bind fun h st=>R.lift (Z0o st.σ x l h) st
 | .isin a t,st=>(evE F a st).bind fun x st=>R.lift ((Z9K st.σ t x).map .bool) st
 | .bi f a,st=>(evE F a st).bind fun x st=>R.lift (Z0O st.σ f x) st
 | .me m a b,st=>(evE F a st).bind fun x st=>if Z1W st.σ m x then (evE F b st).bind fun y st=>Z1C m x y st else .stuck
 | .call f es,st=>(evEs F es st).bind fun xs st=>Z0q (F f xs st.σ) st.ρ
 | .dictM,st=>.ok (.ref st.σ.length) ⟨st.ρ,st.σ++[.idict []]⟩
 | .dictK,st=>.ok (.ref st.σ.length) ⟨st.ρ,st.σ++[.kdict []]⟩
 | .chain a o1 b o2 c,st=>(evE F a st).bind fun x st=>(evE F b st).bind fun y st=>(R.lift (Z0n st.σ o1 x y) st).bind fun t st=>if t then (evE F c st).bind fun z st=>R.lift ((Z0n st.σ o2 y z).map .bool) st else .ok (.bool false) st
 | .dict1 a b,st=>(evE F a ⟨st.ρ,st.σ++[.priv]⟩).bind fun x st₁=>(evE F b st₁).bind fun y st₂=>Z2Z st.σ.length x y st₂
 | .callP i a,st=>R.need (st.ρ[i]?.bind id) fun v=>R.need v.raw? fun u=>(evE F a st).bind fun x st=>Z0q (F Z0F [.raw u,x] st.σ) st.ρ
 | .cap i,st=>Z0q (F Z1a [.int i] st.σ) st.ρ
 | .comp elt k it ifs,st=>(evIt F it st).bind fun items st=>(Z2M k st.σ.length (evTs F ifs) (evE F elt) items ⟨st.ρ.set k none,st.σ++[.lst []]⟩).bind fun _ st'=>
   match st'.σ[st.σ.length]? with
   | some (.lst ys)=>.ok (.lst ys) ⟨st'.ρ.set k none,st'.σ.set st.σ.length .dead⟩
   | _=>.stuck
noncomputable def evEs (F:Fn):Exs→St→R (List V)
 | .nil,st=>.ok [] st
 | .cons e es,st=>(evE F e st).bind fun x st=>(evEs F es st).bind fun xs st=>.ok (x :: xs) st
noncomputable def evTs (F:Fn):Exs→St→R Bool
 | .nil,st=>.ok true st
 | .cons e es,st=>(Z03 (evE F e st)).bind fun b st=>if b then evTs F es st else .ok false st
noncomputable def evO (F:Fn):Exo→St→R V
 | .none,st=>.ok .none st
 | .some e,st=>evE F e st
noncomputable def evIt (F:Fn):It→St→R (List V)
 | .val e,st=>(evE F e st).bind fun x st=>R.lift (Z1X st.σ x) st
 | .range1 a,st=>(evE F a st).bind fun x st=>(match x with
  | .int n=>if Z0G n then .ok (upTo 0 n) st else .stuck
  | _=>.stuck)
 | .enum a,st=>(evE F a st).bind fun x st=>Zbw x st
 | .range2 a b,st=>(evE F a st).bind fun x st=>(evE F b st).bind fun y st=>rng2 x y st
 | .zip a b,st=>(evE F a st).bind fun x st=>(evE F b st).bind fun y st=>zipR x y st
end
mutual
noncomputable def evS (F:Fn) (K:Nat):Sm→St→R Fl
 | .asg i e,st=>(evE F e st).bind fun x st=>.ok .next (setV st i x)
 | .asgT is e,st=>(evE F e st).bind fun x st=>(asT is x st).bind fun _ st=>.ok .next st
 | .expr e,st=>(evE F e st).bind fun _ st=>.ok .next st
 | .ret e,st=>(evE F e st).bind fun x st=>.ok (.ret x) st
 | .ifte c t f,st=>(Z03 (evE F c st)).bind fun b st=>if b then evSs F K t st else evSs F K f st
 | .for1 i it body,st=>(evIt F it st).bind fun items st=>forR (fun x st=>evSs F K body (setV st i x)) items st
 | .forT is it body,st=>(evIt F it st).bind fun items st=>forR (fun x st=>(asT is x st).bind fun _ st=>evSs F K body st) items st
 | .while c body,st=>Z0x (fun st=>Z03 (evE F c st)) (fun st=>evSs F K body st) K st
 | .brk,st=>.ok .brk st
 | .stk,_=>.stuck
 | .asgI a i e,st=>(evE F e st).bind fun v st=>(evE F a st).bind fun x st=>(evE F i st).bind fun y st=>setI x y v st
noncomputable def evSs (F:Fn) (K:Nat):Sms→St→R Fl
 | .nil,st=>.ok .next st
 | .cons s ss,st=>(evS F K s st).bind fun fl st=>match fl with
  | .next=>evSs F K ss st
  | f=>.ok f st
end
structure Def where
 name:Str
 params:List Str
 locals:List Str
 slots:Nat
 body:Sms
 globs:List (Str × Int)
mutual
noncomputable def V.lo (n:Nat):V→Bool
 | .ref k=>decide (k < n)
 | .inst _ k=>decide (k < n)
 | .tup xs=>V.los n xs
 | .lst xs=>V.los n xs
 | .none=>true
 | .bool _=>true
 | .int _=>true
 | .str _=>true
 | .raw _=>false
noncomputable def V.los (n:Nat):List V→Bool
 | []=>true
 | x :: xs=>V.lo n x && V.los n xs
end
noncomputable def Fl.val:Fl→V
 | .ret v=>v
 | _=>.none
noncomputable def O.lo (n:Nat):O→Bool
 | .lst xs=>V.los n xs
 | .idict es=>V.los n (es.map (·.2))
 | .kdict es=>V.los n (es.map (fun y=>kV y.1)++es.map (·.2))
 | .tab _=>V.los n []
 | .dead=>true
 | .priv=>true
noncomputable def Z0m (F:Fn) (K:Nat) (d:Def) (args:List V) (σ:List O):R V :=
 if args.length = d.params.length then
  (evSs F K d.body ⟨args.map some++List.replicate (d.slots - args.length) none,σ⟩).bind fun fl st=>
   if fl.val.lo σ.length && (st.σ.take σ.length).all (O.lo σ.length) then .ok fl.val ⟨[],st.σ.take σ.length⟩ else .ok fl.val ⟨[],st.σ⟩
 else .stuck
noncomputable def Z05 (defs:List Def) (K:Nat):Nat→Fn
 | 0=>fun _ _ _=>.stuck
 | n + 1=>fun f args σ=>R.need (defs.find? fun d=>d.name == f) fun d=>Z0m (Z05 defs K n) K d args σ
theorem Z6E (defs:List Def) (K n:Nat) (f:Str) (args:List V) (σ:List O):Z05 defs K (n + 1) f args σ = (R.need (defs.find? fun d=>d.name == f) fun d=>Z0m (Z05 defs K n) K d args σ):=Eq.trans rfl rfl
theorem Zbx {x:V} {i:Unit} (h:x.none? = some i):x = .none:=by cases x <;> cases h; rfl
theorem Z0r {x:V} {i:Int} (h:x.int? = some i):x = .int i:=by cases x <;> cases h; rfl
theorem Z13 {x:V} {i:List Nat} (h:x.str? = some i):x = .str i:=by cases x <;> cases h; rfl
theorem Z6F {x:V} {i:List V} (h:x.tup? = some i):x = .tup i:=by cases x <;> cases h; rfl
theorem Z1j {x:V} {i:List V} (h:x.lst? = some i):x = .lst i:=by cases x <;> cases h; rfl
theorem Z46 {x:V} {i:Nat} (h:x.ref? = some i):x = .ref i:=by cases x <;> cases h; rfl
theorem ZcS {x:V} {i:Addr} (h:x.raw? = some i):x = .raw i:=by cases x <;> cases h; rfl
theorem Z2m {o:Option O} {i:List V} (h:lstO o = some i):o = some (.lst i):=by
 cases o with
 | none=>cases h
 | some o=>cases o <;> cases h; rfl
theorem Z30 {o:Option O} {i:List (Int × V)} (h:Z1V o = some i):o = some (.idict i):=by
 cases o with
 | none=>cases h
 | some o=>cases o <;> cases h; rfl
theorem Zby {o:Option O} {i:List (Nat × Nat)} (h:tabO o = some i):o = some (.tab i):=by
 cases o with
 | none=>cases h
 | some o=>cases o <;> cases h; rfl
theorem Z5b {o:Option O} {i:List (List (Option Int) × V)} (h:Z57 o = some i):o = some (.kdict i):=by
 cases o with
 | none=>cases h
 | some o=>cases o <;> cases h; rfl
section
variable {α β:Type} {b:α} {st st':St} {G:Prop}
theorem Z06 {o:Option β} {f:β→R α} (h:R.need o f = .ok b st') (k:∀ a,o = some a→f a = .ok b st'→G):G:=by
 cases o with
 | none=>cases h
 | some a=>exact k a rfl h
theorem Zbz {o:Option β} {a:β} {f:β→R α} (h:o = some a):R.need o f = f a:=by subst h; rfl
theorem Z84 {m n:R α} (h:R.or m n = .ok b st') (k1:m = .ok b st'→G) (k2:n = .ok b st'→G):G:=by
 cases m with
 | ok a s=>exact k1 h
 | exc x s=>cases h
 | stuck=>exact k2 h
theorem Z7B {c:Prop} [Decidable c] {m:R α} (h:(if c then m else .stuck) = .ok b st') (k:c→m = .ok b st'→G):G:=by
 by_cases hc:c
 ·rw [if_pos hc] at h; exact k hc h
 ·rw [if_neg hc] at h; cases h
theorem Z08 {γ:Type} {d:γ} {o:Option β} {f:β→Option γ} {e:Option γ} (h:pick o f e = some d) (k1:∀ a,o = some a→f a = some d→G) (k2:e = some d→G):G:=by
 cases o with
 | none=>exact k2 h
 | some a=>exact k1 a rfl h
theorem bnd {γ:Type} {d:γ} {o:Option β} {f:β→Option γ} (h:o.bind f = some d) (k:∀ a,o = some a→f a = some d→G):G:=by
 cases o with
 | none=>cases h
 | some a=>exact k a rfl h
theorem Z1k {γ:Type} {d:γ} {c:Prop} [Decidable c] {m:Option γ} (h:(if c then m else none) = some d) (k:c→m = some d→G):G:=by
 by_cases hc:c
 ·rw [if_pos hc] at h; exact k hc h
 ·rw [if_neg hc] at h; cases h
theorem ok1 {c:α} (h:R.ok b st = .ok c st'):c = b:=(R.ok.inj h).1.symm
theorem ok2 {c:α} (h:R.ok b st = .ok c st'):st' = st:=(R.ok.inj h).2.symm
end
theorem Sim.lift {α β:Type} {c:Cx} {t:Sem α} {o:Option β} {st:St} {rel:St→List Addr→Heap→α→β→Prop} {σ:List O} {μ:List Addr} {s:Shared} (h:∀ b,o = some b→Sim c t (.ok b st) rel σ μ s):Sim c t (R.lift o st) rel σ μ s:=by
 cases o with
 | none=>trivial
 | some b=>exact h b rfl
theorem Sim.ok {α β:Type} {c:Cx} {t:Sem α} {m:R β} {rel:St→List Addr→Heap→α→β→Prop} {σ:List O} {μ:List Addr} {s:Shared} (h:∀ b st',m = .ok b st'→Sim c t (.ok b st') rel σ μ s):Sim c t m rel σ μ s:=by
 cases m with
 | stuck=>trivial
 | exc x st=>trivial
 | ok b st'=>exact h b st' rfl
theorem Z9M {x y:V} {st st':St} {xs:List V} (h:rng2 x y st = .ok xs st'):∃ a b,x = .int a∧y = .int b∧(Z0G a && Z0G b) = true∧xs = upTo a b∧st' = st :=
 Z06 h fun a ea h=>Z06 h fun b eb h=>Z7B h fun hs h=>⟨a,b,Z0r ea,Z0r eb,hs,ok1 h,ok2 h⟩
theorem ZbA {is:List Nat} {x:V} {st st':St} (h:asT is x st = .ok () st'):∃ xs,x = .tup xs∧Z5a st is xs = some st' :=
 Z06 h fun xs ex h=>Z06 h fun s e h=>⟨xs,Z6F ex,e.trans (congrArg some (ok2 h).symm)⟩
theorem Z9N {x:V} {k:Option Int} (h:Zbt x = some k):x = oV k:=by cases x <;> cases h <;> rfl
theorem Z5c:∀ {l:List V} {k:List (Option Int)},Z58 l = some k→l = k.map oV
 | [],k,h=>by cases h; rfl
 | x :: r,k,h=>bnd h fun a ha h=>bnd h fun b hb h=>by cases h; rw [Z9N ha,Z5c hb]; rfl
theorem Z4s {x:V} {k:List (Option Int)} (h:Z7z x = some k):x = kV k:=bnd h fun l hl h=>by rw [Z6F hl,Z5c h]; rfl
theorem Z85 {x:V} {xs:List V} {G:Prop} (h:Zbv x = some xs) (k1:x = .lst xs→G) (k2:∀ l,x = .str l→xs = l.map (fun c=>.str [c])→G):G :=
 Z08 h (fun a ha h=>k1 (by cases h; exact Z1j ha)) fun h=>El.x1_2 (Option.map_eq_some_iff.mp h) fun l hl e=>k2 l (Z13 hl) e.symm
theorem Z4t (F:Fn) (i:Int) (st:St):evE F (.int i) st = (.ok (.int i) st):=Eq.trans rfl rfl
theorem Z4u (F:Fn) (i:Nat) (st:St):evE F (.loc i) st = (match st.ρ[i]? with
  | some (some v)=>.ok v st
  | _=>.stuck):=Eq.trans rfl rfl
theorem Z86 (F:Fn) (i:Nat) (st:St):evE F (.fz i) st = (match st.ρ[i]? with
  | some (some (.ref n))=>(match st.σ[n]? with
   | some (.lst xs)=>.ok (.lst xs) ⟨st.ρ.set i (some (.lst xs)),st.σ.set n .dead⟩
   | _=>.stuck)
  | some (some (.lst xs))=>.ok (.lst xs) st
  | _=>.stuck):=Eq.trans rfl rfl
theorem Z87 (F:Fn) (op:Op) (a b:Ex) (st:St):evE F (.bin op a b) st = ((evE F a st).bind fun x st=>(evE F b st).bind fun y st=>R.lift (Z1D op x y) st):=Eq.trans rfl rfl
theorem Z9O (F:Fn) (es:Exs) (st:St):evE F (.list es) st = ((evEs F es st).bind fun xs st=>if xs.length ≤ sizeLine then .ok (.lst xs) st else .stuck):=Eq.trans rfl rfl
theorem ZbB (F:Fn) (a i:Ex) (st:St):evE F (.sub a i) st = ((evE F a st).bind fun x st=>(evE F i st).bind fun y st=>R.lift (Z0b st.σ x y) st):=Eq.trans rfl rfl
theorem Z88 (F:Fn) (st:St):evE F .dictK st = (.ok (.ref st.σ.length) ⟨st.ρ,st.σ++[.kdict []]⟩):=Eq.trans rfl rfl
theorem Z89 (F:Fn) (a:Ex) (o1:Cm) (b:Ex) (o2:Cm) (c:Ex) (st:St):evE F (.chain a o1 b o2 c) st = ((evE F a st).bind fun x st=>(evE F b st).bind fun y st=>(R.lift (Z0n st.σ o1 x y) st).bind fun t st=>if t then (evE F c st).bind fun z st=>R.lift ((Z0n st.σ o2 y z).map .bool) st else .ok (.bool false) st):=Eq.trans rfl rfl
theorem Z8a (F:Fn) (a b:Ex) (st:St):evE F (.dict1 a b) st = ((evE F a ⟨st.ρ,st.σ++[.priv]⟩).bind fun x st₁=>(evE F b st₁).bind fun y st₂=>Z2Z st.σ.length x y st₂):=Eq.trans rfl rfl
theorem Z5d (F:Fn) (i:Nat) (a:Ex) (st:St):evE F (.callP i a) st = (R.need (st.ρ[i]?.bind id) fun v=>R.need v.raw? fun u=>(evE F a st).bind fun x st=>Z0q (F Z0F [.raw u,x] st.σ) st.ρ):=Eq.trans rfl rfl
theorem ZbC (F:Fn) (i:Nat) (st:St):evE F (.cap i) st = Z0q (F Z1a [.int i] st.σ) st.ρ:=Eq.trans rfl rfl
theorem Z6G (F:Fn) (elt:Ex) (k:Nat) (it:It) (ifs:Exs) (st:St):evE F (.comp elt k it ifs) st = ((evIt F it st).bind fun items st=>(Z2M k st.σ.length (evTs F ifs) (evE F elt) items ⟨st.ρ.set k none,st.σ++[.lst []]⟩).bind fun _ st'=>
   match st'.σ[st.σ.length]? with
   | some (.lst ys)=>.ok (.lst ys) ⟨st'.ρ.set k none,st'.σ.set st.σ.length .dead⟩
   | _=>.stuck):=Eq.trans rfl rfl
theorem Z9P (F:Fn)  (st:St):evEs F (.nil) st = (.ok [] st):=Eq.trans rfl rfl
theorem Z5e (F:Fn) (e:Ex) (es:Exs) (st:St):evEs F (.cons e es) st = ((evE F e st).bind fun x st=>(evEs F es st).bind fun xs st=>.ok (x :: xs) st):=Eq.trans rfl rfl
theorem Z9Q (F:Fn)  (st:St):evTs F (.nil) st = (.ok true st):=Eq.trans rfl rfl
theorem Z31 (F:Fn) (a:Ex) (st:St):evIt F (.range1 a) st = ((evE F a st).bind fun x st=>(match x with
  | .int n=>if Z0G n then .ok (upTo 0 n) st else .stuck
  | _=>.stuck)):=Eq.trans rfl rfl
theorem Z5Q (F:Fn) (K:Nat) (i:Nat) (e:Ex) (st:St):evS F K (.asg i e) st = ((evE F e st).bind fun x st=>.ok .next (setV st i x)):=Eq.trans rfl rfl
theorem ZbD (F:Fn) (K:Nat) (e:Ex) (st:St):evS F K (.ret e) st = ((evE F e st).bind fun x st=>.ok (.ret x) st):=Eq.trans rfl rfl
theorem Z14 (F:Fn) (K:Nat) (s:Sm) (ss:Sms) (st:St):evSs F K (.cons s ss) st = ((evS F K s st).bind fun fl st=>match fl with
  | .next=>evSs F K ss st
  | f=>.ok f st):=Eq.trans rfl rfl
theorem Z8b (k n:Nat) (t:St→R Bool) (e:St→R V) (st:St):Z2M k n t e [] st = .ok () st:=Eq.trans rfl rfl
theorem Z47 (k n:Nat) (t:St→R Bool) (e:St→R V) (x:V) (xs:List V) (st:St):Z2M k n t e (x :: xs) st = (t (setV st k x)).bind fun b st=>if b then (e st).bind fun y st=>(match st.σ[n]? with
   | some (.lst acc)=>if acc.length < sizeLine then Z2M k n t e xs ⟨st.ρ,st.σ.set n (.lst (acc++[y]))⟩ else .stuck
   | _=>.stuck) else Z2M k n t e xs st:=Eq.trans rfl rfl
theorem Z5R (t:St→R Bool) (b:St→R Fl) (k:Nat) (st:St):Z0x t b (k + 1) st = (t st).bind fun c st=>if c then (b st).bind fun fl st=>(match fl with
   | .next=>Z0x t b k st
   | .cont=>Z0x t b k st
   | .brk=>.ok .next st
   | .ret v=>.ok (.ret v) st)
  else .ok .next st:=Eq.trans rfl rfl
theorem Z1Y (step:V→St→R Fl) (st:St):forR step [] st = .ok .next st:=Eq.trans rfl rfl
theorem Z0P (step:V→St→R Fl) (x:V) (xs:List V) (st:St):forR step (x :: xs) st = (step x st).bind fun fl st=>match fl with
  | .next=>forR step xs st
  | .cont=>forR step xs st
  | .brk=>.ok .next st
  | .ret v=>.ok (.ret v) st:=Eq.trans rfl rfl
noncomputable def sl0 (x l:V):R V→R V
 | .ok h st=>R.lift (Z0o st.σ x l h) st
 | .exc e st=>.exc e st
 | .stuck=>.stuck
noncomputable def sl1 (x:V) (m:R V) (k:St→R V):R V:=m.bind fun l st=>sl0 x l (k st)
noncomputable def sl2 (m:R V) (k k':St→R V):R V:=m.bind fun x st=>sl1 x (k st) k'
noncomputable def min1 (x:V):R V→R V
 | .ok y st=>R.lift (onI x y fun a b=>some (.int (if b < a then b else a))) st
 | .exc e st=>.exc e st
 | .stuck=>.stuck
theorem Z0H {α β:Type} (m:R α) {f g:α→St→R β} (h:∀ a st,f a st = g a st):m.bind f = m.bind g:=congrArg m.bind (funext fun a=>funext fun st=>h a st)
theorem ZcT {ρ:List (Option V)} {σ:List O} {n:Nat} {k:Int} {v:V} {es:List (Int × V)} (h:σ[n]? = some (.idict es)) (hl:es.length < sizeLine):setI (.ref n) (.int k) v ⟨ρ,σ⟩ = .ok .next ⟨ρ,σ.set n (.idict (Z10 es k v))⟩:=by
 show R.or (R.need (Z1V σ[n]?) _) _ = _
 rw [Zbz (congrArg Z1V h),if_pos hl]; rfl
theorem ZcU {σ:List O} {n:Nat} {i:Int} {xs:List V} (h:σ[n]? = some (.lst xs)):Z0b σ (.ref n) (.int i) = idxOf xs i:=by
 show pick (lstO σ[n]?) _ _ = _
 rw [h]; rfl
theorem ZaZ {σ:List O} {n:Nat} {i:Int} {es:List (Int × V)} (h:σ[n]? = some (.idict es)):Z0b σ (.ref n) (.int i) = dGet es i:=by
 show pick (lstO σ[n]?) _ (pick (Z1V σ[n]?) _ _) = _
 rw [h]; rfl
theorem ZbE (σ:List O) (xs:List V):Z0O σ .tuple (.lst xs) = some (.tup xs):=Eq.trans rfl rfl
theorem Z8c (σ:List O) (x:List V):Z0O σ .len (.lst x) = some (.int x.length):=Eq.trans rfl rfl
theorem Z8d {xs:List V} {l:List (List Nat)} (h:Z12 xs = some l) (hz:l.flatten.length ≤ sizeLine) (st:St):Z1C .join (.str []) (.lst xs) st = .ok (.str l.flatten) st:=by
 show (match Z12 xs with | some l=>if l.flatten.length ≤ sizeLine then .ok (.str l.flatten) st else .stuck | none=>.stuck:R V) = _
 rw [h]; exact if_pos hz
theorem Z0B (ρ:List (Option V)) (σ:List O) (n:Nat) (xs:List V) (y:V) (h:σ[n]? = some (.lst xs)) (hl:xs.length < sizeLine):Z1C .append (.ref n) y ⟨ρ,σ⟩ = .ok .none ⟨ρ,σ.set n (.lst (xs++[y]))⟩:=by
 show (match σ[n]? with | some (.lst xs)=>if xs.length < sizeLine then .ok .none ⟨ρ,σ.set n (.lst (xs++[y]))⟩ else .stuck | _=>.stuck:R V) = _
 rw [h]; exact if_pos hl
theorem Z15 (σ:List O) (n:Nat) (xs:List V) (h:σ[n]? = some (.lst xs)):Z1W σ .append (.ref n) = true:=by
 show (match σ[n]? with | some (.lst _)=>true | _=>false) = _
 rw [h]
theorem Z32 (σ:List O) (n:Nat) (xs:List V) (h:σ[n]? = some (.lst xs)):Z0O σ .len (.ref n) = some (.int xs.length):=by
 show (lstO σ[n]?).bind _ = _
 rw [h]; rfl
theorem Z9R (σ:List O) (x:List Nat) (h):Z0o σ (.str x) .none (.int h) = some (.str (cutL x none (some h))):=Eq.trans rfl rfl
theorem ZbF (σ:List O) (x:List V) (l h):Z0o σ (.lst x) (.int l) (.int h) = some (.lst (cutL x (some l) (some h))):=Eq.trans rfl rfl
theorem Z9S (σ:List O) (x:List V) (h):Z0o σ (.lst x) .none (.int h) = some (.lst (cutL x none (some h))):=Eq.trans rfl rfl
mutual
theorem V.eqb_refl:∀ x:V,x.lo 0 = true→V.eqb x x = true
 | .none,_=>Eq.trans rfl rfl
 | .bool b,_=>beq_self_eq_true b
 | .int i,_=>beq_self_eq_true i
 | .str s,_=>beq_self_eq_true s
 | .tup xs,h=>V.eqbs_refl xs h
 | .lst xs,h=>V.eqbs_refl xs h
 | .ref n,h=>absurd (of_decide_eq_true (show decide (n < 0) = true from h)) (Nat.not_lt_zero _)
 | .inst _ n,h=>absurd (of_decide_eq_true (show decide (n < 0) = true from h)) (Nat.not_lt_zero _)
 | .raw _,h=>absurd (show false = true from h) Bool.false_ne_true
theorem V.eqbs_refl:∀ xs:List V,V.los 0 xs = true→V.eqbs xs xs = true
 | [],_=>Eq.trans rfl rfl
 | x :: xs,h=>Bool.and_eq_true_iff.mpr ⟨V.eqb_refl x (Bool.and_eq_true_iff.mp h).1,V.eqbs_refl xs (Bool.and_eq_true_iff.mp h).2⟩
end
theorem Z0y {n:Nat}:V.lo n .none = true:=Eq.trans rfl rfl
theorem Z1Z {n:Nat} (i:Int):V.lo n (.int i) = true:=Eq.trans rfl rfl
theorem Z0z {n:Nat} (i:Bool):V.lo n (.bool i) = true:=Eq.trans rfl rfl
theorem Z0j {n:Nat} (i:List Nat):V.lo n (.str i) = true:=Eq.trans rfl rfl
theorem Z0s {n:Nat} (xs:List V):V.lo n (.tup xs) = V.los n xs:=Eq.trans rfl rfl
theorem Z16 {n:Nat} (xs:List V):V.lo n (.lst xs) = V.los n xs:=Eq.trans rfl rfl
theorem Z5f {n:Nat} (k:Nat):V.lo n (.ref k) = decide (k < n):=Eq.trans rfl rfl
theorem Z48 {n:Nat} (C k:Nat):V.lo n (.inst C k) = decide (k < n):=Eq.trans rfl rfl
theorem Z09 {n:Nat}:V.los n [] = true:=Eq.trans rfl rfl
theorem Z01 {n:Nat} (x:V) (xs:List V):V.los n (x :: xs) = (V.lo n x && V.los n xs):=Eq.trans rfl rfl
mutual
theorem V.lo_mono {m n:Nat} (h:m ≤ n):∀ x:V,x.lo m = true→x.lo n = true
 | .none,_=>Z0y
 | .bool b,_=>Z0z b
 | .int i,_=>Z1Z i
 | .str s,_=>Z0j s
 | .tup xs,q=>by rw [Z0s] at q ⊢; exact V.los_mono h xs q
 | .lst xs,q=>by rw [Z16] at q ⊢; exact V.los_mono h xs q
 | .ref k,q=>by rw [Z5f] at q ⊢; exact decide_eq_true (Nat.lt_of_lt_of_le (of_decide_eq_true q) h)
 | .inst C k,q=>by rw [Z48] at q ⊢; exact decide_eq_true (Nat.lt_of_lt_of_le (of_decide_eq_true q) h)
 | .raw _,q=>absurd (show false = true from q) Bool.false_ne_true
theorem V.los_mono {m n:Nat} (h:m ≤ n):∀ xs:List V,V.los m xs = true→V.los n xs = true
 | [],_=>Z09
 | x :: xs,q=>by
  rw [Z01,Bool.and_eq_true] at q ⊢
  exact ⟨V.lo_mono h x q.1,V.los_mono h xs q.2⟩
end
theorem O.lo_mono {m n:Nat} (h:m ≤ n) {o:O} (q:o.lo m = true):o.lo n = true:=by
 cases o with
 | lst xs=>exact V.los_mono h _ q
 | idict es=>exact V.los_mono h _ q
 | kdict es=>exact V.los_mono h _ q
 | tab us=>exact q
 | dead=>rfl
 | priv=>rfl
theorem Z9T (i:List Nat):V.depth? (.str i) = some 0:=Eq.trans rfl rfl
theorem Z6H (xs:List V):V.depth? (.tup xs) = (V.depths? xs).map (· + 1):=Eq.trans rfl rfl
theorem Z6I (xs:List V):V.depth? (.lst xs) = (V.depths? xs).map (· + 1):=Eq.trans rfl rfl
theorem Z5g:V.depths? [] = some 0:=Eq.trans rfl rfl
theorem Z0K (x:V) (xs:List V):V.depths? (x :: xs) = (V.depth? x).bind fun a=>(V.depths? xs).bind fun b=>some (max a b):=Eq.trans rfl rfl
theorem Zdz (σ:List O) (x y:V) (hx:x.flat64 = true) (hy:y.flat64 = true):Z0n σ .eq x y = some (V.eqb x y):=by show (if x.flat64 && y.flat64 then _ else none) = _; rw [hx,hy]; rfl
theorem Z33 (a b:Int) (h:(Z0A a || Z0A b) = true):Z6D (.int a) (.int b) = some (.int (a * b)):=if_pos h
theorem ZbG (a b:Int) (h:b ≠ 0):Z1D .fdiv (.int a) (.int b) = some (.int (Int.fdiv a b)):=if_neg h
theorem ZcV (a b:Int) (h:b ≠ 0):Z1D .mod (.int a) (.int b) = some (.int (Int.fmod a b)):=if_neg h
theorem Z4v (x y:List Nat) (h:x.length + y.length ≤ sizeLine):Z6C (.str x) (.str y) = some (.str (x++y)):=if_pos h
theorem Z20 (σ:List O) (xs:List V) (i:Int):Z0b σ (.lst xs) (.int i) = idxOf xs i:=Eq.trans rfl rfl
theorem Z21 {j:Nat} (h:j < 2 ^ 31):Z0A (j:Int) = true:=by
 have h1:(-(2 ^ 63):Int) ≤ (j:Int):=by lia
 have h2:((j:Int):Int) < 2 ^ 63:=by lia
 unfold Z0A
 rw [decide_eq_true h1,decide_eq_true h2]; rfl
theorem Z2n {α:Type} (xs:List α) {j:Nat} (h:j < 2 ^ 31):idxOf xs (j:Int) = xs[j]?:=by
 unfold idxOf; rw [if_pos (Z21 h),if_pos (Int.natCast_nonneg j),Int.toNat_natCast]
theorem Z4w {α:Type} (xs:List α) {i:Int} {n:Nat} (hn:0 < n) (hs:n < 2 ^ 31) (hx:n ≤ xs.length):∃ x,idxOf xs (Int.fmod i n) = some x∧x ∈ xs:=by
 have h1:0 ≤ Int.fmod i n:=by rw [Int.fmod_eq_emod_of_nonneg _ (by lia)]; exact Int.emod_nonneg _ (by lia)
 have h2:Int.fmod i n < n:=by rw [Int.fmod_eq_emod_of_nonneg _ (by lia)]; exact Int.emod_lt_of_pos _ (by lia)
 refine El.x1_1 (Int.eq_ofNat_of_zero_le h1) fun k hk=>?_
 have hk':Int.fmod i n = (k:Int):=hk
 have hlt:k < xs.length:=by rw [hk'] at h2; lia
 rw [hk',Z2n xs (by rw [hk'] at h2; lia)]
 exact ⟨xs[k],by simp [hlt],List.getElem_mem hlt⟩
theorem qset (ρ:List (Option V)) (σ:List O) (i:Nat) (x:V):setV ⟨ρ,σ⟩ i x = ⟨ρ.set i (some x),σ⟩:=Eq.trans rfl rfl
noncomputable def Ret (m:R Fl) (r:V) (σ:List O):Prop:=∃ ρ τ,m = .ok (.ret r) ⟨ρ,σ++τ⟩
theorem Z1E {F:Fn} {K:Nat} {d:Def} {args:List V} {σ:List O} {r:V} (hl:args.length = d.params.length)
  (h:Ret (evSs F K d.body ⟨args.map some++List.replicate (d.slots - args.length) none,σ⟩) r σ) (hr:r.lo σ.length = true) (hσ:σ.all (O.lo σ.length) = true):Z0m F K d args σ = .ok r ⟨[],σ⟩:=by
 refine El.x2_1 h fun ρ τ h=>?_
 unfold Z0m
 rw [if_pos hl,h]
 simp only [R.bind_ok,Fl.val,List.take_left',hr,hσ,Bool.and_self,if_true]
theorem Ret.mk {m:R Fl} {r:V} {σ τ:List O} {ρ:List (Option V)} (h:m = .ok (.ret r) ⟨ρ,σ++τ⟩):Ret m r σ:=⟨ρ,τ,h⟩
theorem Ret.mk0 {m:R Fl} {r:V} {σ:List O} {ρ:List (Option V)} (h:m = .ok (.ret r) ⟨ρ,σ⟩):Ret m r σ:=⟨ρ,[],by rw [h,List.append_nil]⟩
theorem Z6J {step:V→St→R Fl} (P:Nat→St→Prop):∀ (xs:List V) (k:Nat) (st:St),(∀ i x st,xs[i]? = some x→P (k + i) st→∃ st',step x st = .ok .next st'∧P (k + i + 1) st')→P k st→∃ st',forR step xs st = .ok .next st'∧P (k + xs.length) st'
 | [],k,st,_,h=>⟨st,Z1Y ..,h⟩
 | x :: xs,k,st,hs,h=>by
  refine El.x1_2 (hs 0 x st rfl h) fun st₁ h1 h2=>?_
  obtain ⟨st₂,h3,h4⟩:=Z6J P xs (k + 1) st₁ (fun i y st' hy hP=>by
   have:=hs (i + 1) y st' (by simpa using hy) (by rw [show k + (i + 1) = k + 1 + i from by lia]; exact hP)
   rw [show k + (i + 1) + 1 = k + 1 + i + 1 from by lia] at this
   exact this) h2
  refine ⟨st₂,?_,by rw [List.length_cons,show k + (xs.length + 1) = k + 1 + xs.length from by lia]; exact h4⟩
  rw [Z0P,h1,R.bind_ok]
  exact h3
end Mine
namespace Mine
open PySem PySem.Sem
theorem Z1l {M:Model} {Γ:Ctx} {p:Pos} {t:Sem PySem.Fin} {fs:List Frame} {s s':Shared} {e:End} (h:Runs M Γ p t fs s e s'):s.heap.objs.size ≤ s'.heap.objs.size:=by
 induction h <;> (try simp only [Shared.setGen,Heap.size_push,Heap.size_after_update] at *) <;> lia
theorem Z34 {M:Model} {Γ:Ctx} {p:Pos} {s s':Shared} {r:Result} (h:Returns M Γ p s r s'):s.heap.objs.size ≤ s'.heap.objs.size:=Z1l h
theorem Z4x {M:Model} {Γ:Ctx} {p:Pos} {g:Nat} {r:Resume} {s s':Shared} {res:GenResult} (h:Wakes M Γ p g r s res s'):s.heap.objs.size ≤ s'.heap.objs.size:=by
 unfold Wakes at h
 split at h
 ·exact h.elim
 ·split at h
  ·obtain ⟨e₁,s₁,hr,_,_,rfl⟩:=h; exact (Z1l hr:(s.setGen g .running).heap.objs.size ≤ s₁.heap.objs.size)
  ·rw [h.2]; exact Nat.le_refl _
  ·rw [h.2]; exact Nat.le_refl _
 ·obtain ⟨e₁,s₁,hr,_,_,rfl⟩:=h; exact (Z1l hr:(s.setGen g .running).heap.objs.size ≤ s₁.heap.objs.size)
 ·rw [h.2]; exact Nat.le_refl _
 ·rw [h.2]; exact Nat.le_refl _
theorem ZbH {α:Type} (M:Model) (Γ:Ctx) (n:Nat) (t:Sem α):∀ (Q:α→Pos→Shared→Prop) (E:Value→Pos→Shared→Prop) (p:Pos) (s:Shared),n ≤ s.heap.objs.size→wp M Γ t Q E p s →
  wp M Γ t (fun a p' s'=>n ≤ s'.heap.objs.size∧Q a p' s') (fun e p' s'=>n ≤ s'.heap.objs.size∧E e p' s') p s:=by
 induction t with
 | pure a=>intro Q E p s hn h; exact ⟨hn,h⟩
 | raise e=>intro Q E p s hn h; exact ⟨hn,h⟩
 | unsupported _=>intro Q E p s _ h; exact h
 | finish _=>intro Q E p s _ h; exact h
 | rule _ k ih=>intro Q E p s hn h; exact ih () Q E p s hn h
 | «at» p' k ih=>intro Q E p s hn h; exact ih () Q E p' s hn h
 | load a _ k ih=>intro Q E p s hn h; obtain ⟨o,ho,h⟩:=h; exact ⟨o,ho,ih o Q E p s hn h⟩
 | update a _ f k ih=>intro Q E p s hn h; exact ⟨h.1,ih () Q E p _ (by simpa using hn) h.2⟩
 | loadIfAlive a k ih=>intro Q E p s hn h; exact ih _ Q E p s hn h
 | point _ k ih=>intro Q E p s hn h; exact ih () Q E p s hn h
 | register _ _=>intro Q E p s _ h; exact h
 | alloc o k ih=>intro Q E p s hn h; exact ih _ Q E p _ (by simp; lia) h
 | fresh k ih=>intro Q E p s hn h; exact ih _ Q E p _ hn h
 | ask k ih=>intro Q E p s hn h; exact ih _ Q E p s hn h
 | choose src m k ih=>intro Q E p s hn h; exact ⟨h.1,ih _ Q E p _ hn h.2⟩
 | os q _ k ih=>intro Q E p s hn h; exact ih _ Q E p _ hn h
 | call c hd _ _ k ih=>intro Q E p s hn h; obtain ⟨r,s',hr,h⟩:=h; exact ⟨r,s',hr,ih r Q E p s' (Nat.le_trans hn (Z34 hr)) h⟩
 | handled own k ih=>intro Q E p s hn h; exact ih _ Q E p s hn h
 | genState g k ih=>intro Q E p s hn h; obtain ⟨st,hs,h⟩:=h; exact ⟨st,hs,ih _ Q E p s hn h⟩
 | newGen c k ih=>intro Q E p s hn h; exact ih _ Q E p _ hn h
 | resume g r _ k ih=>intro Q E p s hn h; obtain ⟨res,s',hw,h⟩:=h; exact ⟨res,s',hw,ih res Q E p s' (Nat.le_trans hn (Z4x hw)) h⟩
 | yield _ _ _ _=>intro Q E p s _ h; exact h
 | stack k ih=>intro Q E p s hn h; exact ih _ Q E p s hn h
 | fork _ _=>intro Q E p s _ h; exact h
 | thread k ih=>intro Q E p s hn h; exact ih _ Q E p s hn h
 | await _ _ _ _ _=>intro Q E p s _ h; exact h
theorem Z04 {α:Type} {M:Model} {A:Around} {s:Shared} {t:Sem α} {Q:α→Shared→Prop} {E:Value→Shared→Prop}
  (h:wpAny M A t (fun a s'=>s.heap.objs.size ≤ s'.heap.objs.size→Q a s') (fun e s'=>s.heap.objs.size ≤ s'.heap.objs.size→E e s') s):wpAny M A t Q E s :=
 fun Γ p hΓ=>Sem.wp_mono M Γ t (fun _ _ _ x=>x.2 x.1) (fun _ _ _ x=>x.2 x.1) p s (ZbH M Γ s.heap.objs.size t _ _ p s (Nat.le_refl _) (h Γ p hΓ))
end Mine
namespace Mine
open PySem PySem.Calls PyProof.Rows
structure CxOk (c:Cx):Prop where
 pyl:∀ s:Shared,(∀ b o,c.base.get? b = some o→s.heap.get? b = some o)→PylongRoom (model c.prog c.w) c.A s
 hh:c.A.handled = none
 units:c.A.units + 100 < cLine
 sys:∃ o,c.base.get? sysModules = some o
section
variable {c:Cx} {st:St} {μ:List Addr} {s:Shared} {T:Addr→Prop} {h:Heap} {u v:Value}
theorem RepV.int_inv {i:Int} (r:RepV T μ h v (.int i)):∃ t,v = .int i t:=r.out
theorem RepV.bool_inv {b:Bool} (r:RepV T μ h v (.bool b)):v = .bool b:=r.out
theorem RepV.none_inv (r:RepV T μ h v .none):v = .none:=r.out
theorem RepV.str_inv {l:List Nat} (r:RepV T μ h v (.str l)):∃ x t,v = .str x t∧x.cps.toList = l∧PyData.strOk x = true∧x.length ≤ sizeLine:=r.out
theorem RepV.tup_inv {xs:List V} (r:RepV T μ h v (.tup xs)):∃ a vs,v = .ref a∧IsTup h a vs∧vs.size ≤ sizeLine∧RepVs T μ h vs.toList xs :=
 El.x4_7 r.tupI fun a o vs n e ho hc hd hz _ r=>⟨a,vs,e,⟨o,ho,hc,n,hd⟩,hz,r⟩
theorem RepV.lst_inv {xs:List V} (r:RepV T μ h v (.lst xs)):∃ a vs,v = .ref a∧h.IsList a vs∧vs.size ≤ sizeLine∧RepVs T μ h vs.toList xs :=
 El.x4_7 r.lstI fun a o vs n e ho hc hd hz _ r=>⟨a,vs,e,⟨o,ho,hc,n,hd⟩,hz,r⟩
theorem Inv.ref_inv (I:Inv c st μ h) {n:Nat} {xs:List V} (r:RepV T μ h v (.ref n)) (e:st.σ[n]? = some (.lst xs)) :
  ∃ a vs,v = .ref a∧h.PlainList a vs∧vs.size ≤ sizeLine∧RepVs (Tr st.σ μ) μ h vs.toList xs:=by
 refine El.x1_2 r.refI fun a9 e9 q=>?_
 try clear a9
 subst e9
 refine El.x1_2 (I.objs n _ e) fun a ha ro=>?_
 try clear a; try clear e9
 obtain rfl:=Option.some.inj (q.symm.trans ha)
 refine El.x2_3 ro.lst_inv fun vs nn ho hz r=>?_
 exact ⟨_,_,rfl,⟨_,ho⟩,hz,r⟩
end
section
variable {c:Cx} {st:St} {μ:List Addr} {s:Shared} {u v:Value} {t:Sem Value}
theorem Z0i (I:Inv c st μ s.heap) {i:Int} (h:∀ Q:Value→Shared→Prop,(∀ tk n,Q (.int i tk) { s with toks:=n })→wpAny (model c.prog c.w) c.A t Q (fun _ _=>False) s):Sim c t (.ok (.int i) st) rV st.σ μ s :=
 Sim.leaf I (h _ fun tk n=>⟨.refl,.refl,.int i tk⟩)
theorem Z02 (I:Inv c st μ s.heap) {b:Bool} (h:∀ Q:Value→Shared→Prop,(∀ n,Q (.bool b) { s with toks:=n })→wpAny (model c.prog c.w) c.A t Q (fun _ _=>False) s):Sim c t (.ok (.bool b) st) rV st.σ μ s :=
 Sim.leaf I (h _ fun n=>⟨.refl,.refl,.bool b⟩)
theorem Z22 (I:Inv c st μ s.heap) {x:Str} (h1:PyData.strOk x = true) (h2:x.length ≤ sizeLine) {l:List Nat} (e:x.cps.toList = l)
  (h:∀ Q:Value→Shared→Prop,(∀ tk n,Q (.str x tk) { s with toks:=n })→wpAny (model c.prog c.w) c.A t Q (fun _ _=>False) s):Sim c t (.ok (.str l) st) rV st.σ μ s:=by
 subst e
 exact Sim.leaf I (h _ fun tk n=>⟨.refl,.refl,.str x tk h1 h2⟩)
theorem Z1v (I:Inv c st μ s.heap) {x:V} (r:RepV (Tr st.σ μ) μ s.heap v x) (h:∀ Q:Value→Shared→Prop,(∀ n,Q v { s with toks:=n })→wpAny (model c.prog c.w) c.A t Q (fun _ _=>False) s):Sim c t (.ok x st) rV st.σ μ s :=
 Sim.leaf I (h _ fun n=>⟨.refl,.refl,r⟩)
theorem Z2D (I:Inv c st μ s.heap):¬ Tr st.σ μ s.heap.objs.size:=fun q=>Nat.lt_irrefl _ (I.lt _ q.mem)
theorem Z1b (I:Inv c st μ s.heap) {vs:List Value} {xs:List V} (r:RepVs (Tr st.σ μ) μ s.heap vs xs) (hz:vs.length ≤ sizeLine) :
  RepV (Tr st.σ μ) μ (s.heap.push { cls:=.type "list",data:=.seq vs.toArray }) (.ref s.heap.objs.size) (.lst xs) :=
 .lst (Heap.get?_push_size _ rfl) rfl rfl (by simpa using hz) (Z2D I) (by simpa using r.ext (.push _))
theorem Z2E (I:Inv c st μ s.heap) {vs:List Value} {xs:List V} (r:RepVs (Tr st.σ μ) μ s.heap vs xs) (hz:vs.length ≤ sizeLine) :
  RepV (Tr st.σ μ) μ (s.heap.push { cls:=.type "tuple",data:=.seq vs.toArray }) (.ref s.heap.objs.size) (.tup xs) :=
 .tup (Heap.get?_push_size _ rfl) rfl rfl (by simpa using hz) (Z2D I) (by simpa using r.ext (.push _))
end
noncomputable def opM:Op→Operator
 | .add=>.Add
 | .sub=>.Sub
 | .mul=>.Mult
 | .fdiv=>.FloorDiv
 | .mod=>.Mod
 | .pow=>.Pow
theorem ZbI (x y:Str):(x++y).cps.toList = x.cps.toList++y.cps.toList:=by
 show (x.cps++y.cps).toList = _
 simp
theorem ZbJ (x y:Str):(x++y).length = x.length + y.length:=by
 show (x.cps++y.cps).size = x.cps.size + y.cps.size
 simp
theorem Z5h {x y:Str} (hx:PyData.strOk x = true) (hy:PyData.strOk y = true):PyData.strOk (x++y) = true:=by
 unfold PyData.strOk at *
 rw [Array.all_eq_true_iff_forall_mem] at *
 intro a ha
 rcases Array.mem_append.mp (show a ∈ x.cps++y.cps from ha) with h | h
 ·exact hx a h
 ·exact hy a h
theorem Z35 {i:Int} (h:Z0A i = true):Builtin.Int.intBits i ≤ 64:=by
 simp only [Z0A,Bool.and_eq_true,decide_eq_true_eq] at h
 exact intBits_le_64 (by lia) (by lia)
theorem Z0V {n:Nat} (h:n ≤ sizeLine):(n:Int) < 2 ^ 63:=by
 have e:sizeLine = 16777216:=by decide
 lia
section
variable {c:Cx} {st:St} {μ:List Addr} {s:Shared} {u v:Value}
theorem ZbK {α β} {a:List α} {b:List β} (h:a.length = b.length):a.isEmpty = b.isEmpty:=by
 cases a <;> cases b <;> first | rfl | cases h
theorem Z8e {T:Addr→Prop} {h:Heap} {vs:Array Value} {xs:List V} (r:RepVs T μ h vs.toList xs):(!vs.isEmpty) = !xs.isEmpty:=by
 rw [← ZbK r.length,Array.isEmpty_toList]
theorem ZcW (x:Str):((x.length:Int) != 0) = !x.cps.toList.isEmpty:=by
 show ((x.cps.size:Int) != 0) = _
 rw [← Array.length_toList]
 cases x.cps.toList with
 | nil=>rfl
 | cons a l=>rw [List.length_cons]; exact (bne_iff_ne).mpr (Int.ofNat_ne_zero.mpr (Nat.succ_ne_zero _))
theorem Z0L (I:Inv c st μ s.heap) {x:V} (rx:RepV (Tr st.σ μ) μ s.heap u x):Sim c (truthy u) (R.lift (x.truthy st.σ) st) rEq st.σ μ s:=by
 have leaf:∀ b:Bool,(∀ Q:Bool→Shared→Prop,(∀ n,Q b { s with toks:=n })→wpAny (model c.prog c.w) c.A (truthy u) Q (fun _ _=>False) s)→Sim c (truthy u) (.ok b st) rEq st.σ μ s :=
  fun b h=>Sim.leaf I (h _ fun n=>⟨.refl,.refl,rfl⟩)
 cases x with
 | none=>obtain rfl:=rx.none_inv; exact leaf _ fun Q hq=>(fun _ _ _=>hq _)
 | bool b=>obtain rfl:=rx.bool_inv; exact leaf _ fun Q hq=>wpAny_truthy_bool (hq _)
 | int i=>obtain ⟨t,rfl⟩:=rx.int_inv; exact leaf _ fun Q hq=>P.truthy_int (hq _)
 | str l=>
  refine El.x2_4 rx.str_inv fun x t q0 q1 h1 h2=>?_
  subst q0 q1
  exact leaf (!x.cps.toList.isEmpty) fun Q hq=>P.truthy_str (Int.not_le.mpr (Z0V h2)) (by rw [ZcW]; exact hq _)
 | tup xs=>
  refine El.x2_4 rx.tup_inv fun a vs q hl hz r=>?_
  subst q
  exact leaf (!xs.isEmpty) fun Q hq=>PyProof.Rows.truthy_tuple hl (Z0V hz) (by rw [Z8e r]; exact hq _)
 | lst xs=>
  refine El.x2_4 rx.lst_inv fun a vs q hl hz r=>?_
  subst q
  exact leaf (!xs.isEmpty) fun Q hq=>wpAny_truthy_list hl (Z0V hz) (by rw [Z8e r]; exact hq _)
 | ref n=>
  refine Sim.lift fun b hb=>bnd (o:=lstO st.σ[n]?) (f:=fun xs=>some (!xs.isEmpty)) hb fun xs hx hb=>El.x2_4 (I.ref_inv rx (Z2m hx)) fun a vs q hl hz r=>?_
  subst q
  rw [← Option.some.inj hb]
  exact leaf (!xs.isEmpty) fun Q hq=>wpAny_truthy_list hl.isList (Z0V hz) (by rw [Z8e r]; exact hq _)
 | inst C n=>trivial
 | raw a=>trivial
end
mutual
noncomputable def V.toD:V→PyData
 | .none=>.none
 | .bool b=>.bool b
 | .int i=>.int i
 | .str l=>.str ⟨l.toArray⟩
 | .tup xs=>.tuple (V.toDs xs)
 | .lst xs=>.list (V.toDs xs)
 | .ref _=>.none
 | .inst _ _=>.none
 | .raw _=>.none
noncomputable def V.toDs:List V→List PyData
 | []=>[]
 | x :: xs=>V.toD x :: V.toDs xs
end
mutual
theorem Z36:∀ (x:V) (n:Nat),x.depth? = some n→x.toD.depth = n
 | .none,n,h=>Option.some.inj h
 | .bool b,n,h=>Option.some.inj h
 | .int i,n,h=>Option.some.inj h
 | .str l,n,h=>Option.some.inj h
 | .tup xs,n,h=>El.x1_2 (Option.map_eq_some_iff.mp (show (V.depths? xs).map (· + 1) = some n from h)) fun m hm q=>(congrArg (· + 1) (Z2o xs m hm)).trans q
 | .lst xs,n,h=>El.x1_2 (Option.map_eq_some_iff.mp (show (V.depths? xs).map (· + 1) = some n from h)) fun m hm q=>(congrArg (· + 1) (Z2o xs m hm)).trans q
 | .ref k,n,h=>by cases h
 | .inst _ k,n,h=>by cases h
 | .raw _,n,h=>by cases h
theorem Z2o:∀ (xs:List V) (n:Nat),V.depths? xs = some n→PyData.depthAll (V.toDs xs) = n
 | [],n,h=>Option.some.inj h
 | x :: xs,n,h=>bnd (o:=x.depth?) h fun a ha h=>bnd (o:=V.depths? xs) h fun b hb h=>by
  show max (PyData.depth x.toD) (PyData.depthAll (V.toDs xs)) = n
  rw [Z36 x a ha,Z2o xs b hb]; exact Option.some.inj h
end
mutual
theorem Z8f:∀ (x y:V),(∃ n,x.depth? = some n)→(∃ n,y.depth? = some n)→V.eqb x y = PyData.eqv x.toD y.toD
 | .ref k,y,h,_=>by obtain ⟨_,h⟩:=h; cases h
 | x,.ref k,_,h=>by obtain ⟨_,h⟩:=h; cases h
 | .inst _ k,y,h,_=>by obtain ⟨_,h⟩:=h; cases h
 | x,.inst _ k,_,h=>by obtain ⟨_,h⟩:=h; cases h
 | .raw _,y,h,_=>by obtain ⟨_,h⟩:=h; cases h
 | x,.raw _,_,h=>by obtain ⟨_,h⟩:=h; cases h
 | .tup xs,.tup ys,h,h'=>by
  obtain ⟨n,h⟩:=h; obtain ⟨n',h'⟩:=h'
  refine El.x1_2 (Option.map_eq_some_iff.mp (show (V.depths? xs).map (· + 1) = some n from h)) fun m h _=>?_
  refine El.x1_2 (Option.map_eq_some_iff.mp (show (V.depths? ys).map (· + 1) = some n' from h')) fun m' h' _=>?_
  exact Z4y xs ys ⟨m,h⟩ ⟨m',h'⟩
 | .lst xs,.lst ys,h,h'=>by
  obtain ⟨n,h⟩:=h; obtain ⟨n',h'⟩:=h'
  refine El.x1_2 (Option.map_eq_some_iff.mp (show (V.depths? xs).map (· + 1) = some n from h)) fun m h _=>?_
  refine El.x1_2 (Option.map_eq_some_iff.mp (show (V.depths? ys).map (· + 1) = some n' from h')) fun m' h' _=>?_
  exact Z4y xs ys ⟨m,h⟩ ⟨m',h'⟩
 | .str a,.str b,_,_=>by
  show (a == b) = ((⟨a.toArray⟩:Str) == ⟨b.toArray⟩)
  rw [Bool.eq_iff_iff,beq_iff_eq,beq_iff_eq]
  constructor
  ·rintro rfl; rfl
  ·intro h; have:=congrArg (fun x:Str=>x.cps.toList) h; simpa using this
 | .none,.none,_,_ | .none,.bool _,_,_ | .none,.int _,_,_ | .none,.str _,_,_ | .none,.tup _,_,_ | .none,.lst _,_,_=>by rfl
 | .bool _,.none,_,_ | .bool _,.bool _,_,_ | .bool _,.int _,_,_ | .bool _,.str _,_,_ | .bool _,.tup _,_,_ | .bool _,.lst _,_,_=>by rfl
 | .int _,.none,_,_ | .int _,.bool _,_,_ | .int _,.int _,_,_ | .int _,.str _,_,_ | .int _,.tup _,_,_ | .int _,.lst _,_,_=>by rfl
 | .str _,.none,_,_ | .str _,.bool _,_,_ | .str _,.int _,_,_ | .str _,.tup _,_,_ | .str _,.lst _,_,_=>by rfl
 | .tup _,.none,_,_ | .tup _,.bool _,_,_ | .tup _,.int _,_,_ | .tup _,.str _,_,_ | .tup _,.lst _,_,_=>by rfl
 | .lst _,.none,_,_ | .lst _,.bool _,_,_ | .lst _,.int _,_,_ | .lst _,.str _,_,_ | .lst _,.tup _,_,_=>by rfl
theorem Z4y:∀ (xs ys:List V),(∃ n,V.depths? xs = some n)→(∃ n,V.depths? ys = some n)→V.eqbs xs ys = PyData.eqvAll (V.toDs xs) (V.toDs ys)
 | [],[],_,_=>rfl
 | [],_ :: _,_,_=>rfl
 | _ :: _,[],_,_=>rfl
 | x :: xs,y :: ys,h,h'=>by
  obtain ⟨n,h⟩:=h; obtain ⟨n',h'⟩:=h'
  refine bnd (o:=x.depth?) h fun a ha h=>bnd (o:=V.depths? xs) h fun b hb _=>bnd (o:=y.depth?) h' fun a' ha' h'=>bnd (o:=V.depths? ys) h' fun b' hb' _=>?_
  show (V.eqb x y && V.eqbs xs ys) = (PyData.eqv x.toD y.toD && PyData.eqvAll (V.toDs xs) (V.toDs ys))
  rw [Z8f x y ⟨_,ha⟩ ⟨_,ha'⟩,Z4y xs ys ⟨_,hb⟩ ⟨_,hb'⟩]
end
theorem RepV.reads {T:Addr→Prop} {μ:List Addr} {h:Heap} {v:Value} {x:V} (r:RepV T μ h v x):(∃ n,x.depth? = some n)→∃ as,Reads h v x.toD as∧x.toD.canLay0 = true :=
 RepV.rec (motive_1:=fun v x _=>(∃ n,x.depth? = some n)→∃ as,Reads h v x.toD as∧x.toD.canLay0 = true) (motive_2:=fun vs xs _=>(∃ n,V.depths? xs = some n)→∃ as,ReadsAll h vs (V.toDs xs) as∧PyData.canLayAll0 (V.toDs xs) = true)
  (fun _=>⟨[],.none,rfl⟩) (fun b _=>⟨[],.bool b,rfl⟩) (fun i t _=>⟨[],.int i t,rfl⟩) (fun x t h1 h2 _=>⟨[],Reads.str x t,h1⟩)
  (fun {a o vs n xs} ho hc hd hz hT _ ih hn=>by
   refine El.x1_1 hn fun m hm=>?_
   have hm:(V.depths? xs).map (· + 1) = some m:=hm
   refine El.x1_2 (Option.map_eq_some_iff.mp hm) fun k hk _=>?_
   refine El.x1_2 (ih ⟨k,hk⟩) fun as ra rc=>?_
   exact ⟨_,.tuple ho hc hd ra,rc⟩)
  (fun {a o vs n xs} ho hc hd hz hT _ ih hn=>by
   refine El.x1_1 hn fun m hm=>?_
   have hm:(V.depths? xs).map (· + 1) = some m:=hm
   refine El.x1_2 (Option.map_eq_some_iff.mp hm) fun k hk _=>?_
   refine El.x1_2 (ih ⟨k,hk⟩) fun as ra rc=>?_
   exact ⟨_,.list ho hc hd ra,rc⟩)
  (fun _ hn=>by obtain ⟨m,hm⟩:=hn; cases hm) (fun _ _ _ hn=>by obtain ⟨m,hm⟩:=hn; cases hm) (fun _ hn=>by obtain ⟨m,hm⟩:=hn; cases hm) (fun _=>⟨[],.nil,rfl⟩)
  (fun {v vs x xs} _ _ a b hn=>by
   refine El.x1_1 hn fun m hm=>bnd (o:=x.depth?) hm fun p hp hm=>bnd (o:=V.depths? xs) hm fun q hq _=>?_
   refine El.x1_2 (a ⟨_,hp⟩) fun as ra rc=>?_
   refine El.x1_2 (b ⟨_,hq⟩) fun bs rb rd=>?_
   refine ⟨_,.cons ra rb,?_⟩
   show (x.toD.canLay0 && PyData.canLayAll0 (V.toDs xs)) = true
   rw [rc,rd]; rfl) r
theorem Z2F {x:V} (h:x.flat64 = true):∃ n,x.depth? = some n∧n ≤ 64:=by
 unfold V.flat64 at h
 cases hd:x.depth? with
 | none=>rw [hd] at h; cases h
 | some d=>rw [hd] at h; exact ⟨d,rfl,of_decide_eq_true h⟩
noncomputable def cmM:Cm→CmpOp
 | .lt=>.Lt
 | .le=>.LtE
 | .gt=>.Gt
 | .ge=>.GtE
 | .eq=>.Eq
 | .ne=>.NotEq
 | .is=>.Is
 | .isnot=>.IsNot
 | .isin=>.In
 | .notin=>.NotIn
section
variable {c:Cx} {st:St} {μ:List Addr} {s:Shared} {u v:Value}
theorem Z4z {x:Str} {d:Nat} (h:x.cps.toList = [d]):x = ⟨#[d]⟩:=by
 obtain ⟨⟨l⟩⟩:=x
 simp at h
 subst h; rfl
theorem Z49 {T:Addr→Prop} {h:Heap} {x:V} (r:RepV T μ h v x):(v == Value.none) = x.isNone:=by
 cases r <;> rfl
theorem ZbL {β:Type} {α:Type} {rel:St→List Addr→Heap→α→V→Prop} {t:Sem α} {x y:V} {k:Int→Int→Option β} {f:β→V} (h:∀ a b,x = .int a→y = .int b→Sim c t (R.lift ((k a b).map f) st) rel st.σ μ s):Sim c t (R.lift ((onI x y k).map f) st) rel st.σ μ s :=
 Sim.lift fun b hb=>El.x1_2 (Option.map_eq_some_iff.mp hb) fun z hz e=>bnd hz fun i hi hz=>bnd hz fun j hj hz=>by
  have q:=h i j (Z0r hi) (Z0r hj)
  rw [hz,Option.map_some,e] at q; exact q
theorem ZbM {α:Type} {rel:St→List Addr→Heap→α→V→Prop} {t:Sem α} {x y:V} {f:Bool→V} (h:∀ d z,x = .str [d]→y = .str z→Sim c t (R.lift (some (f (z.contains d))) st) rel st.σ μ s):Sim c t (R.lift ((ZcQ x y).map f) st) rel st.σ μ s :=
 Sim.lift fun b hb=>El.x1_2 (Option.map_eq_some_iff.mp hb) fun z hz e=>bnd hz fun l hl hz=>bnd hz fun w hw hz=>by
  cases l with
  | nil=>cases hz
  | cons d l=>cases l with
   | nil=>rw [← e,← Option.some.inj hz]; exact h d w (Z13 hl) (Z13 hw)
   | cons _ _=>cases hz
theorem Z4a {T:Addr→Prop} {h:Heap} {vs:List Value} {xs:List V} {l:List (List Nat)} (r:RepVs T μ h vs xs) (e:Z12 xs = some l) :
  ∃ ys:List Str,StrsAre vs ys∧ys.map (fun y=>y.cps.toList) = l∧∀ y ∈ ys,PyData.strOk y = true :=
 RepVs.ind (M:=fun vs xs=>∀ l,Z12 xs = some l→∃ ys:List Str,StrsAre vs ys∧ys.map (fun y=>y.cps.toList) = l∧∀ y ∈ ys,PyData.strOk y = true)
  (fun l e=>⟨[],.nil,Option.some.inj e,fun _ q=>nomatch q⟩)
  (fun {v vs x xs} a _ ih l e=>by
   cases x <;> try (cases e; done)
   rename_i z
   refine El.x1_2 (Option.map_eq_some_iff.mp (show (Z12 xs).map (z :: ·) = some l from e)) fun l' hl' q=>?_
   subst q
   refine El.x2_4 a.str_inv fun y t q8z q9z h1 h2=>?_
   subst q8z q9z
   refine El.x1_3 (ih l' hl') fun ys g1 g2 g3=>?_
   exact ⟨y :: ys,.cons y t g1,congrArg (y.cps.toList :: ·) g2,fun k hk=>(List.mem_cons.mp hk).elim (fun q=>q ▸ h1) (g3 k)⟩) r l e
theorem Z7C {T:Addr→Prop} {h:Heap} {vs:List Value} {xs:List V} {l:List Int} (r:RepVs T μ h vs xs) (e:Z2Y xs = some l):IntsAre vs l :=
 RepVs.ind (M:=fun vs xs=>∀ l,Z2Y xs = some l→IntsAre vs l) (fun l e=>Option.some.inj e ▸ .nil)
  (fun {v vs x xs} a _ ih l e=>by
   cases x <;> try (cases e; done)
   rename_i z
   refine El.x1_2 (Option.map_eq_some_iff.mp (show (Z2Y xs).map (z :: ·) = some l from e)) fun l' hl' q=>?_
   subst q
   refine El.x1_1 a.int_inv fun t q=>?_
   subst q
   exact .cons _ _ (ih l' hl')) r l e
theorem Z6K (k:Str):∀ ys:List Str,(ys.any (· == k)) = (ys.map fun y=>y.cps.toList).any (· == k.cps.toList)
 | []=>rfl
 | y :: ys=>by
  rw [List.map_cons,List.any_cons,List.any_cons,Z6K k ys]
  congr 1
  rw [Bool.eq_iff_iff,beq_iff_eq,beq_iff_eq]
  constructor
  ·rintro rfl; rfl
  ·intro h
   obtain ⟨⟨a⟩⟩:=y
   obtain ⟨⟨b⟩⟩:=k
   simp at h
   rw [h]
theorem Z8g {op:CmpOp} {f:Bool→V} (I:Inv c st μ s.heap) {x:V} {ys:List V} (rx:RepV (Tr st.σ μ) μ s.heap u x) (ry:RepV (Tr st.σ μ) μ s.heap v (.lst ys)) (g:Bool→Bool) (hf:∀ b,f b = .bool (g b))
  (hi:∀ {l:Addr} {vs:List Value} {ns:List Int} {k:Int} {t:Tok} {Q:Value→Shared→Prop},s.heap.IsList l vs.toArray→IntsAre vs ns→Q (.bool (g (ns.any (· == k)))) s→wpAny (model c.prog c.w) c.A (compareOp op (.int k t) (.ref l)) Q (fun _ _=>False) s)
  (hs:∀ {l:Addr} {vs:List Value} {ys:List Str} {k:Str} {t:Tok} {Q:Value→Shared→Prop},s.heap.IsList l vs.toArray→StrsAre vs ys→Q (.bool (g (ys.any (· == k)))) s→wpAny (model c.prog c.w) c.A (compareOp op (.str k t) (.ref l)) Q (fun _ _=>False) s) :
  Sim c (compareOp op u v) (R.lift ((inL x ys).map f) st) rV st.σ μ s:=by
 refine El.x2_4 ry.lst_inv fun a vs q12z hl hz r=>?_
 try clear hz; try clear a
 obtain rfl:=q12z
 cases x <;> try trivial
 ·rename_i k
  refine El.x1_1 rx.int_inv fun t q13z=>?_
  try clear q12z
  obtain rfl:=q13z
  show Sim c _ (R.lift (((Z2Y ys).map fun l=>l.any (· == k)).map f) st) _ _ _ _
  cases e:Z2Y ys with
  | none=>trivial
  | some l=>
   rw [Option.map_some,Option.map_some,hf]
   exact Z02 I fun Q hq=>hi (vs:=vs.toList) (by simpa using hl) (Z7C r e) (hq _)
 ·rename_i k
  refine El.x2_4 rx.str_inv fun z t q14z q15z _ _=>?_
  try clear q13z; try clear t
  obtain rfl:=q14z
  try clear q14z
  obtain rfl:=q15z
  show Sim c _ (R.lift (((Z12 ys).map fun l=>l.any (· == z.cps.toList)).map f) st) _ _ _ _
  cases e:Z12 ys with
  | none=>trivial
  | some l=>
   refine El.x1_3 (Z4a r e) fun zs g1 g2 _=>?_
   rw [Option.map_some,Option.map_some,hf]
   refine Z02 I fun Q hq=>hs (vs:=vs.toList) (by simpa using hl) g1 ?_
   rw [Z6K,g2]; exact hq _
theorem Z6L {h:Heap} {T:Addr→Prop} (prog:Program) (w:World):∀ {k:List (Option Int)} {vs:List Value},RepVs T μ h vs (k.map oV)→ItemsAre (Z2j prog w) k vs
 | [],_,r=>by rw [show _ = [] from r.out]; exact .nil
 | x :: k,_,r=>El.x2_3 r.consI fun v us e1 r1 rs=>by
  rw [e1]
  refine .cons ?_ (Z6L prog w rs)
  cases x with
  | none=>rw [show v = .none from r1.out]; rfl
  | some i=>obtain ⟨t,rfl⟩:=r1.out; exact beq_self_eq_true i
theorem Z6M {h:Heap} {T:Addr→Prop} {k:List (Option Int)} (r:RepV T μ h u (kV k)):∃ a,u = .ref a∧∀ prog w,IsTupleKey (Z2j prog w) h k a :=
 El.x4_7 r.tupI fun a o vs n e ho hc hd hz hT rs=>⟨a,e,fun prog w=>⟨o,vs,n,ho,hc,hd,Z6L prog w rs⟩⟩
theorem Z8h (ok:CxOk c) (I:Inv c st μ s.heap) {n:Nat} {d:Addr} (hd:μ[n]? = some d):(d == sysModules) = false:=by
 refine El.x1_1 ok.sys fun o hs=>?_
 rw [beq_eq_false_iff_ne]
 intro e
 rw [← e,I.baseM _ (List.mem_of_getElem? hd)] at hs
 cases hs
theorem RepVs.halves {T:Addr→Prop} {h:Heap} {vs us:List Value} {xs ys:List V} (r:RepVs T μ h (vs++us) (xs++ys)) (e:vs.length = xs.length):RepVs T μ h vs xs∧RepVs T μ h us ys:=by
 have r1:=r.take vs.length
 have r2:=r.drop vs.length
 rw [List.take_left,List.take_left' e.symm] at r1
 rw [List.drop_left,List.drop_left' e.symm] at r2
 exact ⟨r1,r2⟩
theorem ZcX {T:Addr→Prop} {h:Heap} {xs:List (List (Option Int) × Addr × Value)} {es:List (List (Option Int) × V)} (hk:xs.map (·.1) = es.map (·.1)) (r:RepVs T μ h (xs.map fun x=>.ref x.2.1) (es.map fun y=>kV y.1)) {x:List (Option Int) × Addr × Value} (hx:x ∈ xs) (prog:Program) (w:World):IsTupleKey (Z2j prog w) h x.1 x.2.1:=by
 have e:(es.map fun y=>kV y.1) = xs.map fun x=>kV x.1:=by
  have:=congrArg (List.map kV) hk
  rw [List.map_map,List.map_map] at this
  exact this.symm
 rw [e] at r
 refine El.x1_1 (List.getElem?_of_mem hx) fun i hi=>El.x1_2 (r.get (i:=i) (x:=kV x.1) (by rw [List.getElem?_map,hi]; rfl)) fun v hv rv=>El.x1_2 (Z6M rv) fun a ea hq=>?_
 rw [List.getElem?_map,hi] at hv
 have:Value.ref x.2.1 = .ref a:=(Option.some.inj hv).trans ea
 rw [Value.ref.inj this]; exact hq _ _
theorem Z4A (ok:CxOk c) (I:Inv c st μ s.heap) {n:Nat} {es:List (List (Option Int) × V)} (r:RepV (Tr st.σ μ) μ s.heap v (.ref n)) (h:st.σ[n]? = some (.kdict es)) :
  ∃ d o xs,v = .ref d∧μ[n]? = some d∧(d == sysModules) = false∧True∧s.heap.get? d = some o∧KLay o xs es∧s.heap.DictOfH (Z1I c.prog c.w) d xs∧RepVs (Tr st.σ μ) μ s.heap (xs.map fun x=>.ref x.2.1) (es.map fun y=>kV y.1)∧RepVs (Tr st.σ μ) μ s.heap (xs.map (·.2.2)) (es.map (·.2)):=by
 refine El.x1_2 r.refI fun d ed hd=>El.x1_2 (I.objs n _ h) fun d' hd' ro=>?_
 obtain rfl:=Option.some.inj (hd.symm.trans hd')
 refine El.x2_3 ro.out fun o xs ho L rs=>El.x2_2 L.data fun ds ep h1 h2=>El.x0_2 (rs.halves (by rw [List.length_map,List.length_map,← List.length_map (f:=(·.1)),L.keys,List.length_map])) fun r1 r2=>?_
 exact ⟨d,o,xs,ed,hd,Z8h ok I hd,trivial,ho,L,⟨o,ds,ep,ho,L.dict,h1,by rw [h2]; rfl,fun x hx=>ZcX L.keys r1 hx _ _,L.nd⟩,r1,r2⟩
theorem Z9U {T:Addr→Prop} {h:Heap} {k:List (Option Int)}:∀ {xs:List (List (Option Int) × Addr × Value)} {es:List (List (Option Int) × V)},xs.map (·.1) = es.map (·.1)→RepVs T μ h (xs.map (·.2.2)) (es.map (·.2)) →
  (atKey xs k = none∧(es.find? fun p=>p.1 = k) = none) ∨ ∃ p z,atKey xs k = some p∧((es.find? fun p=>p.1 = k).map (·.2)) = some z∧RepV T μ h p.2 z
 | [],[],_,_=>.inl ⟨rfl,rfl⟩
 | [],_ :: _,e,_=>by cases e
 | _ :: _,[],e,_=>by cases e
 | x :: xs,y :: es,e,r=>by
  have e1:x.1 = y.1:=(List.cons.inj e).1
  have e2:=(List.cons.inj e).2
  obtain ⟨v,us,q,r1,r2⟩:=r.consI
  have q1:x.2.2 = v:=(List.cons.inj q).1
  have q2:=(List.cons.inj q).2
  unfold atKey
  by_cases hk:x.1 = k
  ·exact .inr ⟨x.2,y.2,by rw [List.find?_cons_of_pos (by simpa using hk)]; rfl,by rw [List.find?_cons_of_pos (by simpa using e1.symm.trans hk)]; rfl,by rw [q1]; exact r1⟩
  ·rw [List.find?_cons_of_neg (by simpa using hk),List.find?_cons_of_neg (by simpa using fun w=>hk (e1.trans w))]
   exact Z9U e2 (q2 ▸ r2)
theorem Z4b {σ:List O} {n:Nat} {x:V} {o:Option V} (h:Z3Y σ n x = some o):∃ k es,x = kV k∧σ[n]? = some (.kdict es)∧o = (es.find? fun p=>p.1 = k).map (·.2) :=
 El.x1_2 (Option.bind_eq_some_iff.mp h) fun k hk h=>El.x1_2 (Option.map_eq_some_iff.mp h) fun p hp h=>⟨k,p,Z4s hk,Z5b hp,h.symm⟩
theorem Z8i {f:Bool→V} {t:Sem Value} {x y:V} (hs:∀ d z,x = .str [d]→y = .str z→Sim c t (.ok (f (z.contains d)) st) rV st.σ μ s)
  (hd:∀ n k es,y = .ref n→x = .int k→st.σ[n]? = some (.idict es)→Sim c t (.ok (f (es.any fun p=>p.1 = k)) st) rV st.σ μ s) (hq:∀ n k es,y = .ref n→x = kV k→st.σ[n]? = some (.kdict es)→Sim c t (.ok (f ((es.find? fun p=>p.1 = k).map (·.2)).isSome) st) rV st.σ μ s) (hl:∀ ys,y = .lst ys→Sim c t (R.lift ((inL x ys).map f) st) rV st.σ μ s):Sim c t (R.lift ((inD st.σ x y).map f) st) rV st.σ μ s:=by
 refine Sim.lift fun b hb=>El.x1_2 (Option.map_eq_some_iff.mp hb) fun z hz e=>?_
 rw [← e]
 refine Z08 hz (fun ys ey hz=>?_) fun hz=>Z08 hz (fun n en hz=>Z08 hz (fun k ek hz=>?_) fun hz=>?_) fun hz=>?_
 ·have q:=hl ys (Z1j ey)
  rw [hz] at q; exact q
 ·refine El.x1_2 (Option.map_eq_some_iff.mp hz) fun es e1 e2=>?_
  rw [← e2]; exact hd n k es (Z46 en) (Z0r ek) (Z30 e1)
 ·refine El.x1_2 (Option.map_eq_some_iff.mp hz) fun o e1 e2=>El.x2_3 (Z4b e1) fun k es g1 g2 g3=>?_
  rw [← e2,g3]; exact hq n k es (Z46 en) g1 g2
 ·have q:=ZbM (x:=x) (y:=y) (f:=f) (t:=t) (rel:=rV) hs
  rw [hz] at q; exact q
theorem Z8j {f:Bool→V} {op:CmpOp} {b:Bool→Value} (ok:CxOk c) (I:Inv c st μ s.heap) {n:Nat} {k:List (Option Int)} {es:List (List (Option Int) × V)} (rx:RepV (Tr st.σ μ) μ s.heap u (kV k)) (ry:RepV (Tr st.σ μ) μ s.heap v (.ref n)) (h:st.σ[n]? = some (.kdict es))
  (hw:∀ {a d:Addr} {xs} {Q:Value→Shared→Prop},(Z1I c.prog c.w).room c.A.in1→IsTupleKey (Z2j c.prog c.w) s.heap k a→(d == sysModules) = false→s.heap.DictOfH (Z1I c.prog c.w) d xs→Q (b (atKey xs k).isSome) { s with toks:=s.toks + (Z1I c.prog c.w).draws k }→wpAny (model c.prog c.w) c.A (compareOp op (.ref a) (.ref d)) Q (fun _ _=>False) s)
  (hb:∀ x,∃ y:Bool,b x = .bool y∧f x = .bool y) :
  Sim c (compareOp op u v) (.ok (f ((es.find? fun p=>p.1 = k).map (·.2)).isSome) st) rV st.σ μ s:=by
 obtain ⟨d,o,xs,rfl,_,hs,_,_,L,hm,_,r⟩:=Z4A ok I ry h
 obtain ⟨a,rfl,hi⟩:=Z6M rx
 have e:(atKey xs k).isSome = ((es.find? fun p=>p.1 = k).map (·.2)).isSome:=by
  rcases Z9U (k:=k) L.keys r with ⟨h1,h2⟩ | ⟨p,z,h1,h2,_⟩
  ·rw [h1,h2]; rfl
  ·rw [h1,h2]; rfl
 obtain ⟨y,h1,h2⟩:=hb ((es.find? fun p=>p.1 = k).map (·.2)).isSome
 rw [h2]
 refine Z02 I fun Q hq=>hw (have:=ok.units; by show c.A.units + 1 < cLine; lia) (hi _ _) hs hm ?_
 rw [e,h1]; exact hq _
theorem Z6N {kvs:List (Int × Value)} {ys:List (Int × V)} (k:Int) (h:kvs.map (·.1) = ys.map (·.1)):(valueAt kvs k).isSome = ys.any fun p=>p.1 = k:=by
 have h1:(valueAt kvs k).isSome = (kvs.map (·.1)).any fun x=>x = k:=by
  unfold valueAt
  rw [Option.isSome_map,List.any_map,Bool.eq_iff_iff,List.find?_isSome,List.any_eq_true]; rfl
 rw [h1,h,List.any_map]; rfl
theorem Z5S (ok:CxOk c) (I:Inv c st μ s.heap) {n:Nat} {es:List (Int × V)} (r:RepV (Tr st.σ μ) μ s.heap v (.ref n)) (h:st.σ[n]? = some (.idict es)) :
  ∃ d kvs,v = .ref d∧μ[n]? = some d∧(d == sysModules) = false∧s.heap.DictOf (intKind c.prog c.w) d kvs∧kvs.map (·.1) = es.map (·.1)∧kvs.length ≤ sizeLine∧RepVs (Tr st.σ μ) μ s.heap (kvs.map (·.2)) (es.map (·.2)):=by
 refine El.x1_2 r.refI fun d ed hd=>El.x1_2 (I.objs n _ h) fun d' hd' ro=>?_
 obtain rfl:=Option.some.inj (hd.symm.trans hd')
 exact El.x2_5 ro.idictI fun ob kvs ho hD hzk hkk r=>⟨d,_,ed,hd,Z8h ok I hd,Heap.dictOf_iff.mpr ⟨_,ho,hD c.prog c.w⟩,hkk,hzk,r⟩
theorem Z4B {t:Value→Value→Sem Value} {x y:V} {k:Int→Int→Bool} (I:Inv c st μ s.heap) (rx:RepV (Tr st.σ μ) μ s.heap u x) (ry:RepV (Tr st.σ μ) μ s.heap v y) (h:∀ a b t1 t2 (Q:Value→Shared→Prop),Q (.bool (k a b)) s→wpAny (model c.prog c.w) c.A (t (.int a t1) (.int b t2)) Q (fun _ _=>False) s):Sim c (t u v) (R.lift ((onI x y fun a b=>some (k a b)).map V.bool) st) rV st.σ μ s :=
 ZbL fun a b ex ey=>El.x1_1 (RepV.int_inv (ex ▸ rx)) fun t1 q1=>El.x1_1 (RepV.int_inv (ey ▸ ry)) fun t2 q2=>by
  rw [q1,q2]; exact Z02 I fun Q hq=>h a b t1 t2 Q (hq _)
theorem Zb0 {G:Prop} {x y:V} (ok:CxOk c) (rx:RepV (Tr st.σ μ) μ s.heap u x) (ry:RepV (Tr st.σ μ) μ s.heap v y) (h:(x.flat64 && y.flat64) = true) (k:∀ as bs,Reads s.heap u x.toD as→Reads s.heap v y.toD bs→x.toD.canLay0 = true→y.toD.canLay0 = true→c.A.units + min x.toD.depth y.toD.depth < cLine→PyData.eqv x.toD y.toD = V.eqb x y→G):G :=
 El.x0_2 (Bool.and_eq_true_iff.mp h) fun h1 h2=>El.x1_2 (Z2F h1) fun n hn hn'=>El.x1_2 (Z2F h2) fun m hm hm'=>El.x1_2 (rx.reads ⟨_,hn⟩) fun as ra la=>El.x1_2 (ry.reads ⟨_,hm⟩) fun bs rb lb=>k as bs ra rb la lb (by
  rw [Z36 _ _ hn,Z36 _ _ hm]; have:=ok.units; lia) (Z8f _ _ ⟨_,hn⟩ ⟨_,hm⟩).symm
theorem Z37 (ok:CxOk c) (I:Inv c st μ s.heap) {x y:V} (rx:RepV (Tr st.σ μ) μ s.heap u x) (ry:RepV (Tr st.σ μ) μ s.heap v y) (op:Cm) :
  Sim c (compareOp (cmM op) u v) (R.lift ((Z0n st.σ op x y).map V.bool) st) rV st.σ μ s:=by
 cases op
 ·exact Z4B (t:=compareOp (cmM .lt)) I rx ry fun a b t1 t2 Q hq=>P.lt_int hq
 ·exact Z4B (t:=compareOp (cmM .le)) I rx ry fun a b t1 t2 Q hq=>P.le_int hq
 ·exact Z4B (t:=compareOp (cmM .gt)) I rx ry fun a b t1 t2 Q hq=>P.gt_int hq
 ·exact Z4B (t:=compareOp (cmM .ge)) I rx ry fun a b t1 t2 Q hq=>P.ge_int hq
 ·exact Sim.lift fun z h=>El.x1_2 (Option.map_eq_some_iff.mp h) fun b hb e=>Z1k hb fun hf hb=>Zb0 ok rx ry hf fun as bs ra rb la lb hu he=>by
   rw [← e,← Option.some.inj hb,← he]
   exact Z02 I fun Q hq=>SeqAt.compareEq_reads ra rb la lb hu (hq _)
 ·exact Sim.lift fun z h=>El.x1_2 (Option.map_eq_some_iff.mp h) fun b hb e=>Z1k hb fun hf hb=>Zb0 ok rx ry hf fun as bs ra rb la lb hu he=>by
   rw [← e,← Option.some.inj hb,← he]
   exact Z02 I fun Q hq=>SeqAt.compareNe_reads ra rb la lb hu (hq _)
 ·cases y <;> try trivial
  try clear lb; try clear rb; try clear bs; try clear la; try clear ra; try clear as; try clear hm'; try clear hm; try clear m; try clear hn'; try clear hn
  obtain rfl:=ry.none_inv
  refine Z02 I fun Q hq=>is_none ?_
  rw [Z49 rx]; exact hq _
 ·cases y <;> try trivial
  obtain rfl:=ry.none_inv
  refine Z02 I fun Q hq=>isNot_none ?_
  rw [Z49 rx]; exact hq _
 ·refine Z8i (fun d z ex ey=>?_) (fun n k es ey ex h=>?_) (fun n k es ey ex h=>Z8j (f:=fun b=>V.bool b) (op:=.In) ok I (ex ▸ rx) (ey ▸ ry) h (fun hu hi hs hm hq=>wpAny_in_heap hu hi hs hm hq) fun x=>⟨_,rfl,rfl⟩) fun ys ey=>?_
  ·subst ex ey
   refine El.x2_4 rx.str_inv fun a t q16z e h1 h2=>?_
   obtain rfl:=q16z
   refine El.x2_4 ry.str_inv fun b t' q17z q18z h1' h2'=>?_
   try clear q16z
   obtain rfl:=q17z
   try clear q17z
   obtain rfl:=q18z
   try clear q18z
   obtain rfl:=Z4z e
   refine Z02 I fun Q hq=>P.in_str ?_
   rw [StrLaws.found_one]
   rw [show decide (_ ∈ b.cps.toList) = b.cps.toList.contains _ from (List.contains_eq_mem ..).symm]
   exact hq _
  ·subst ex ey
   refine El.x1_1 rx.int_inv fun t q19z=>?_
   obtain rfl:=q19z
   refine El.x2_7 (Z5S ok I ry h) fun d kvs q20z _ hds hD hk _ _=>?_
   try clear q19z
   obtain rfl:=q20z
   refine Z02 I fun Q hq=>wpAny_in_of (knd:=intKind c.prog c.w) (intKind_is _ _ _ _) hds hD.mapOf ?_
   rw [Z6N k hk]; exact hq _
  ·try clear q20z
   subst ey
   exact Z8g I rx ry id (fun _=>rfl) in_list_ints in_list_strs
 ·have e0:((Z0n st.σ .notin x y).map V.bool) = (inD st.σ x y).map (fun b=>V.bool (!b)):=by
   show ((inD st.σ x y).map not).map V.bool = _
   rw [Option.map_map]; rfl
  rw [e0]
  refine Z8i (fun d z ex ey=>?_) (fun n k es ey ex h=>?_) (fun n k es ey ex h=>Z8j (f:=fun b=>V.bool (!b)) (op:=.NotIn) ok I (ex ▸ rx) (ey ▸ ry) h (fun hu hi hs hm hq=>wpAny_notIn_heap hu hi hs hm hq) fun x=>⟨_,rfl,rfl⟩) fun ys ey=>?_
  ·try clear e0; try clear ys; try clear es; try clear z; try clear n
   subst ex ey
   refine El.x2_4 rx.str_inv fun a t q21z e h1 h2=>?_
   try clear h2; try clear h1; try clear a
   obtain rfl:=q21z
   refine El.x2_4 ry.str_inv fun b t' q22z q23z h1' h2'=>?_
   try clear q21z; try clear h2'; try clear h1'; try clear t'
   obtain rfl:=q22z
   try clear q22z
   obtain rfl:=q23z
   try clear q23z
   obtain rfl:=Z4z e
   refine Z02 I fun Q hq=>P.notIn_str ?_
   rw [StrLaws.found_one]
   rw [show decide (_ ∈ b.cps.toList) = b.cps.toList.contains _ from (List.contains_eq_mem ..).symm]
   exact hq _
  ·try clear e; try clear b
   subst ex ey
   refine El.x1_1 rx.int_inv fun t q24z=>?_
   try clear t; try clear ex
   obtain rfl:=q24z
   refine El.x2_7 (Z5S ok I ry h) fun d kvs q25z _ hds hD hk _ _=>?_
   try clear q24z; try clear kvs; try clear h; try clear d
   obtain rfl:=q25z
   refine Z02 I fun Q hq=>wpAny_notIn_of (knd:=intKind c.prog c.w) (intKind_is _ _ _ _) hds hD.mapOf ?_
   rw [Z6N k hk]; exact hq _
  ·try clear q25z; try clear hk; try clear hD; try clear hds; try clear k
   subst ey
   exact Z8g I rx ry not (fun _=>rfl) notin_list_ints notin_list_strs
end
noncomputable def Z0W:Expr→Bool
 | .Slice ..=>false
 | _=>true
theorem Z0e {slice:Expr} (h:Z0W slice = true) (o i:Value):subscripted slice false o i = operate [o,i] (getItem o i):=by
 cases slice <;> first | rfl | exact absurd h Bool.false_ne_true
theorem Z5i {α:Type} {xs:List α} {i:Int} {x:α} (h:idxOf xs i = some x):(-(2 ^ 63) ≤ i∧i < 2 ^ 63)∧∃ j,seqIndex? i xs.length = some j∧xs[j]? = some x:=by
 unfold idxOf at h
 split at h
 ·rename_i hs
  simp only [Z0A,Bool.and_eq_true,decide_eq_true_eq] at hs
  refine ⟨hs,?_⟩
  unfold seqIndex?
  split at h
  ·rename_i h0
   have hlt:i.toNat < xs.length:=(List.getElem?_eq_some_iff.mp h).1
   refine ⟨i.toNat,?_,h⟩
   simp only [show ¬ i < 0 from by lia,if_false]
   rw [if_pos (by simp only [Bool.and_eq_true,decide_eq_true_eq]; lia)]
  ·split at h
   ·rename_i h0 h1
    have hlt:(i + xs.length).toNat < xs.length:=(List.getElem?_eq_some_iff.mp h).1
    refine ⟨(i + xs.length).toNat,?_,h⟩
    simp only [show i < 0 from by lia,if_true]
    rw [if_pos (by simp only [Bool.and_eq_true,decide_eq_true_eq]; lia)]
   ·try clear hlt
    cases h
 ·cases h
theorem Z3Z {i:Int} {n j:Nat} (h:seqIndex? i n = some j):(0 ≤ i∧i.toNat = j∧i < n) ∨ (i < 0∧-(n:Int) ≤ i∧(i + n).toNat = j):=by
 unfold seqIndex? at h
 by_cases h0:i < 0
 ·simp only [h0,if_true] at h
  by_cases hc:(decide (0 ≤ i + (n:Int)) && decide (i + (n:Int) < n)) = true
  ·rw [if_pos hc] at h
   simp only [Bool.and_eq_true,decide_eq_true_eq] at hc
   exact .inr ⟨h0,by lia,Option.some.inj h⟩
  ·rw [if_neg hc] at h; cases h
 ·simp only [h0,if_false] at h
  by_cases hc:(decide (0 ≤ i) && decide (i < (n:Int))) = true
  ·rw [if_pos hc] at h
   simp only [Bool.and_eq_true,decide_eq_true_eq] at hc
   exact .inl ⟨by lia,Option.some.inj h,by lia⟩
  ·rw [if_neg hc] at h; cases h
section
variable {c:Cx} {st:St} {μ:List Addr} {s:Shared} {u v:Value}
theorem ZbN {M:Model} {prog:Program} {w:World} {A:Around} {E:Value→Shared→Prop} {l:Addr} {items:Array Value} {i:Int} {t:Tok} {j:Nat} {x:Value} {Q:Value→Shared→Prop} (hl:s.heap.IsList l items)
  (hb:-(2 ^ 63) ≤ i∧i < 2 ^ 63) (hj:seqIndex? i items.size = some j) (hx:items[j]? = some x) (h:Q x s):wpAny (model prog w) A (getItem (.ref l) (.int i t)) Q E s:=by
 rcases Z3Z hj with ⟨h0,rfl,_⟩ | ⟨h0,h1,rfl⟩
 ·exact wpAny_getItem_list hl h0 hb.2 hx h
 ·exact wpAny_getItem_list_neg hl h0 h1 hb.1 hx h
theorem Z6O {T:Addr→Prop} {h:Heap} {k:Int} {z:V}:∀ {kvs:List (Int × Value)} {ys:List (Int × V)},kvs.map (·.1) = ys.map (·.1)→RepVs T μ h (kvs.map (·.2)) (ys.map (·.2))→dGet ys k = some z→∃ w,valueAt kvs k = some w∧RepV T μ h w z
 | [],[],_,_,e=>by cases e
 | [],_ :: _,e,_,_=>by cases e
 | _ :: _,[],e,_,_=>by cases e
 | p :: kvs,q :: ys,e,r,hz=>by
  have e1:p.1 = q.1:=(List.cons.inj e).1
  have e2:=(List.cons.inj e).2
  refine El.x2_3 r.consI fun v9 vs9 e9 a r=>?_
  try clear vs9; try clear v9
  cases e9
  unfold dGet at hz
  unfold valueAt
  rw [List.find?_cons] at hz ⊢
  by_cases hk:q.1 = k
  ·rw [decide_eq_true hk] at hz
   rw [decide_eq_true (e1.trans hk)]
   try clear e9
   cases hz
   exact ⟨_,rfl,a⟩
  ·rw [decide_eq_false hk] at hz
   rw [decide_eq_false (fun x=>hk (e1.symm.trans x))]
   exact Z6O e2 r hz
section
variable {value slice:Expr}
theorem Z8k {a:Addr} {vs:Array Value} {xs:List V} {i:Int} {z:V} (r:RepVs (Tr st.σ μ) μ s.heap vs.toList xs) (e:idxOf xs i = some z) :
  ∃ j w,(-(2 ^ 63) ≤ i∧i < 2 ^ 63)∧seqIndex? i vs.size = some j∧vs[j]? = some w∧RepV (Tr st.σ μ) μ s.heap w z :=
 El.x0_2 (Z5i e) fun hb hj=>El.x1_2 hj fun j hj hx=>El.x1_2 (r.get hx) fun w hw rw'=>⟨j,w,hb,by rw [← Array.length_toList,r.length]; exact hj,by rw [← Array.getElem?_toList]; exact hw,rw'⟩
theorem Z6P (hs:Z0W slice = true) (I:Inv c st μ s.heap) {a:Addr} {vs:Array Value} {xs:List V} {i:Int} {z:V} (hl:s.heap.IsList a vs) (r:RepVs (Tr st.σ μ) μ s.heap vs.toList xs) (ry:RepV (Tr st.σ μ) μ s.heap v (.int i)) (e:idxOf xs i = some z) :
  Sim c (subscriptTail value slice (.ref a) v) (.ok z st) rV st.σ μ s :=
 El.x2_4 (Z8k (a:=a) r e) fun j w hb hj hw rw'=>El.x1_1 ry.int_inv fun t q=>by
  rw [q]; exact Z1v I rw' fun Q hq=>tail_any hl.typeIs slot_list_getitem.lookup (ZbN (M:=model c.prog c.w) hl hb hj hw (hq _)) (Z0e hs _ _)
theorem Z8l (hs:Z0W slice = true) (I:Inv c st μ s.heap) {xs:List V} {i:Int} {z:V} (rx:RepV (Tr st.σ μ) μ s.heap u (.tup xs)) (ry:RepV (Tr st.σ μ) μ s.heap v (.int i)) (e:idxOf xs i = some z) :
  Sim c (subscriptTail value slice u v) (.ok z st) rV st.σ μ s :=
 El.x2_4 rx.tup_inv fun a vs q hl hz r=>El.x2_4 (Z8k (a:=a) r e) fun j w hb hj hw rw'=>El.x1_1 ry.int_inv fun t q'=>by
  rw [q,q']; exact Z1v I rw' fun Q hq=>tail_any hl.typeIs slot_tuple_getitem.lookup (getItem_tuple hl hb.1 hb.2 hj hw (hq _)) (Z0e hs _ _)
theorem ZcY {x:Str} {d:Nat} (h1:PyData.strOk x = true) (hd:d ∈ x.cps.toList):PyData.strOk ⟨#[d]⟩ = true:=by
 unfold PyData.strOk at h1 ⊢
 rw [Array.all_eq_true_iff_forall_mem] at h1 ⊢
 intro a ha
 obtain rfl:a = d:=by simpa using ha
 exact h1 a (Array.mem_toList_iff.mp hd)
theorem ZbO (hs:Z0W slice = true) (I:Inv c st μ s.heap) {l:List Nat} {i:Int} {d:Nat} (rx:RepV (Tr st.σ μ) μ s.heap u (.str l)) (ry:RepV (Tr st.σ μ) μ s.heap v (.int i)) (e:idxOf l i = some d) :
  Sim c (subscriptTail value slice u v) (.ok (.str [d]) st) rV st.σ μ s :=
 El.x2_4 rx.str_inv fun x t q q2 h1 h2=>El.x0_2 (Z5i e) fun hb hj=>El.x1_2 hj fun j hj hx=>El.x1_1 ry.int_inv fun t' q'=>by
  rw [q,q']
  rw [← q2] at hj hx
  refine Z22 (x:=⟨#[d]⟩) I (ZcY h1 (List.mem_of_getElem? hx)) (by show 1 ≤ sizeLine; decide) (by rfl) fun Q hq=>tail_any (typeIs_str s x t) F.slot_str_getitem.lookup (P.getItem_str (c:=d) ?_ ?_ (hq _ _)) (Z0e hs _ _)
  ·simp only [Bool.or_eq_false_iff,decide_eq_false_iff_not]; lia
  ·rw [show x.length = x.cps.toList.length from (Array.length_toList).symm,hj]
   exact (Array.getElem?_toList).symm.trans hx
theorem Z9V (hs:Z0W slice = true) (ok:CxOk c) (I:Inv c st μ s.heap) {n:Nat} {es:List (Int × V)} {i:Int} {z:V} (rx:RepV (Tr st.σ μ) μ s.heap u (.ref n)) (hn:st.σ[n]? = some (.idict es)) (ry:RepV (Tr st.σ μ) μ s.heap v (.int i)) (e:dGet es i = some z) :
  Sim c (subscriptTail value slice u v) (.ok z st) rV st.σ μ s :=
 El.x2_7 (Z5S ok I rx hn) fun d kvs q _ _ hD hk _ r=>El.x1_2 (Z6O hk r e) fun w hw rw'=>El.x1_1 ry.int_inv fun t q'=>by
  rw [q,q']
  exact Sim.leaf I (tail_any hD.mapOf.typeIs slot_dict_getitem.lookup (wpAny_getItem_of (knd:=intKind c.prog c.w) (k:=i) (by simp [intKind,Value.isInt]) hD.mapOf hw ⟨.refl,⟨rfl,rfl,rfl⟩,rw'⟩) (Z0e hs _ _))
theorem ZbP (hs:Z0W slice = true) (ok:CxOk c) (I:Inv c st μ s.heap) {n:Nat} {y z:V} (rx:RepV (Tr st.σ μ) μ s.heap u (.ref n)) (ry:RepV (Tr st.σ μ) μ s.heap v y) (h:Z3Y st.σ n y = some (some z)) :
  Sim c (subscriptTail value slice u v) (.ok z st) rV st.σ μ s:=by
 refine El.x2_3 (Z4b h) fun k es e1 e2 e3=>?_
 rw [e1] at ry
 obtain ⟨d,o,xs,e4,_,_,_,_,L,hm,_,r⟩:=Z4A ok I rx e2
 obtain ⟨a,e5,hi⟩:=Z6M ry
 rcases Z9U (k:=k) L.keys r with ⟨h1,h2⟩ | ⟨p,z',h1,h2,rz⟩
 ·rw [h2] at e3; cases e3
 ·rw [h2] at e3
  obtain rfl:=Option.some.inj e3
  rw [e4,e5]
  exact Sim.leaf I (tail_any hm.typeIs slot_dict_getitem.lookup (wpAny_getItem_heap (have:=ok.units; by show c.A.units + 1 < cLine; lia) (hi _ _) hm h1 ⟨.refl,⟨rfl,rfl,rfl⟩,rz⟩) (Z0e hs _ _))
end
theorem ZbQ (ok:CxOk c) (I:Inv c st μ s.heap) {x y:V} (rx:RepV (Tr st.σ μ) μ s.heap u x) (ry:RepV (Tr st.σ μ) μ s.heap v y) {value slice:Expr} (hs:Z0W slice = true) :
  Sim c (subscriptTail value slice u v) (R.lift (Z0b st.σ x y) st) rV st.σ μ s :=
 Sim.lift fun z h=>Z08 h (fun xs ex h=>bnd h fun i hi h=>Z8l hs I (Z6F ex ▸ rx) (Z0r hi ▸ ry) h) fun h=>Z08 h (fun xs ex h=>bnd h fun i hi h=>El.x2_4 (RepV.lst_inv (Z1j ex ▸ rx)) fun a vs q hl hz r=>by rw [q]; exact Z6P hs I hl r (Z0r hi ▸ ry) h)
  fun h=>Z08 h (fun l el h=>bnd h fun i hi h=>El.x1_2 (Option.map_eq_some_iff.mp h) fun d hd e=>e ▸ ZbO hs I (Z13 el ▸ rx) (Z0r hi ▸ ry) hd) fun h=>bnd h fun n hn h=>by
  have rx:=Z46 hn ▸ rx
  exact Z08 h (fun xs ex h=>bnd h fun i hi h=>El.x2_4 (I.ref_inv rx (Z2m ex)) fun a vs q hl hz r=>by rw [q]; exact Z6P hs I hl.isList r (Z0r hi ▸ ry) h) fun h=>Z08 h (fun es ee h=>bnd h fun i hi h=>Z9V hs ok I rx (Z30 ee) (Z0r hi ▸ ry) h)
   fun h=>bnd h fun o ho h=>ZbP hs ok I rx ry (ho.trans (congrArg some h))
theorem Z6Q {T:Addr→Prop} {h:Heap} {x:V} {p:Option Int} (r:RepV T μ h v x) (e:Z82 x = some p):IsPart v p∧∃ q:Option (Int × Tok),v = partValue q∧q.map (·.1) = p:=by
 refine Z08 e (fun a ha h=>?_) fun h=>bnd h fun a ha h=>?_
 ·rw [Z0r ha] at r
  rw [← Option.some.inj h]
  refine El.x1_1 r.int_inv fun t q=>?_
  rw [q]; exact ⟨.int _ _,some (_,t),rfl,rfl⟩
 ·rw [Zbx ha] at r
  rw [← Option.some.inj h,r.none_inv]
  exact ⟨.none,none,rfl,rfl⟩
theorem Z8m (items:Array Value) (lo hi:Option Int):(slicePick items lo hi none).toList = cutL items.toList lo hi:=by
 rw [slicePick_plain]
 unfold cutL
 simp
theorem RepVs.cutL {T:Addr→Prop} {h:Heap} {vs:List Value} {xs:List V} (r:RepVs T μ h vs xs) (lo hi:Option Int):RepVs T μ h (Mine.cutL vs lo hi) (Mine.cutL xs lo hi):=by
 unfold Mine.cutL
 rw [r.length]
 exact (r.drop _).take _
noncomputable def loC (n:Nat) (lo:Option Int):Nat:=lo.elim 0 (clipAt n)
noncomputable def hiC (n:Nat) (hi:Option Int):Nat:=hi.elim n (clipAt n)
theorem Z8n (n:Nat) (lo hi:Option Int):Builtin.Str.strSliceIndices lo hi 1 n = (List.range (hiC n hi - loC n lo)).map (loC n lo + ·):=by
 rw [← sliceRange_one]
 unfold Builtin.Str.strSliceIndices loC hiC
 simp only [show (1:Int) > 0 from by decide,if_true]
 cases lo <;> cases hi <;> simp only [Option.elim_none,Option.elim_some,clipAt_cast] <;> rfl
theorem Z9W (x:Str) (lo hi:Option Int):(Builtin.Str.strSliceIndices lo hi 1 x.length).filterMap (x.cps[·]?) = cutL x.cps.toList lo hi:=by
 rw [Z8n,pick_run]
 unfold cutL loC hiC
 simp [Str.length]
theorem Z9X {α:Type} {xs:List α} {lo hi:Option Int} {x:α} (h:x ∈ cutL xs lo hi):x ∈ xs:=List.mem_of_mem_drop (List.mem_of_mem_take h)
theorem Z8o (n:Nat) (i:Int):clipAt n i ≤ n:=Int.toNat_le.mpr (Int.max_le.mpr ⟨Int.natCast_nonneg n,Int.min_le_right _ _⟩)
theorem Z38 {α:Type} (xs:List α) (lo hi:Option Int):(cutL xs lo hi).length ≤ xs.length:=by
 unfold cutL; rw [List.length_take,List.length_drop]; exact Nat.le_trans (Nat.min_le_right _ _) (Nat.sub_le _ _)
theorem ZcZ (n:Nat) (hi:Option Int):hiC n hi ≤ n:=by
 cases hi with
 | none=>exact Nat.le_refl _
 | some i=>exact Z8o _ _
theorem Z9Y {α:Type} (xs:List α) (lo hi:Option Int):(cutL xs lo hi).length = hiC xs.length hi - loC xs.length lo:=by
 show ((xs.drop (loC xs.length lo)).take (hiC xs.length hi - loC xs.length lo)).length = _
 rw [List.length_take,List.length_drop]
 exact Nat.min_eq_left (Nat.sub_le_sub_right (ZcZ _ _) _)
section
variable {value:Expr} {l' u':Option Expr} {p:Pos} {sa:Addr} {vl vu:Value} {pl pu:Option Int}
theorem Z4c (I:Inv c st μ s.heap) (hsl:s.heap.IsSliceOf sa vl vu .none) (il:IsPart vl pl) (iu:IsPart vu pu) {a:Addr} {vs:Array Value} {xs:List V} (hL:s.heap.IsList a vs) (hz:vs.size ≤ sizeLine) (r:RepVs (Tr st.σ μ) μ s.heap vs.toList xs) :
  Sim c (subscriptTail value (.Slice l' u' none p) (.ref a) (.ref sa)) (.ok (.lst (cutL xs pl pu)) st) rV st.σ μ s:=by
 refine Sim.leaf I (tail_any hL.typeIs slot_list_getitem.lookup (wpAny_getItem_list_slice hL hsl il iu .none (by simp) ?_ hz) rfl)
 refine ⟨.push _,.refl,?_⟩
 rw [show slicePick vs pl pu none = (cutL vs.toList pl pu).toArray by rw [← Z8m]]
 exact Z1b I (r.cutL pl pu) (Nat.le_trans (Z38 vs.toList pl pu) hz)
theorem Zd0 {x:Str} (h:PyData.strOk x = true) (lo hi:Option Int):PyData.strOk ⟨(cutL x.cps.toList lo hi).toArray⟩ = true:=by
 unfold PyData.strOk at h ⊢
 rw [Array.all_eq_true_iff_forall_mem] at h ⊢
 intro a ha
 exact h a (by rw [← Array.mem_toList_iff]; exact Z9X (by simpa using ha))
theorem Z8p (I:Inv c st μ s.heap) {ql qu:Option (Int × Tok)} (hsl:s.heap.IsSliceOf sa (partValue ql) (partValue qu) .none) (el:ql.map (·.1) = pl) (eu:qu.map (·.1) = pu) {l:List Nat} (rx:RepV (Tr st.σ μ) μ s.heap u (.str l)) :
  Sim c (subscriptTail value (.Slice l' u' none p) u (.ref sa)) (.ok (.str (cutL l pl pu)) st) rV st.σ μ s:=by
 refine El.x2_4 rx.str_inv fun y t q9 q10 h1 h2=>?_
 rw [q9,← q10]
 have e2:slicePicked y ql qu none = Builtin.Str.strSliceIndices pl pu 1 y.length:=by
  unfold slicePicked
  rw [el,eu]; rfl
 have e3:(slicePicked y ql qu none).filterMap (y.cps[·]?) = cutL y.cps.toList pl pu:=by rw [e2]; exact Z9W y pl pu
 have hlen:(cutL y.cps.toList pl pu).length ≤ sizeLine:=Nat.le_trans (Z38 y.cps.toList pl pu) (by rw [Array.length_toList]; exact h2)
 refine Sim.leaf I (tail_any (typeIs_str _ y t) F.slot_str_getitem.lookup (wpAny_getItem_str_slice (l:=ql) (u:=qu) (st:=none) hsl rfl ?_) rfl)
 unfold sliceMade
 split
 ·rename_i hc
  refine ⟨.refl,.refl,?_⟩
  rw [show cutL y.cps.toList pl pu = y.cps.toList from ?_]
  ·exact .str y t h1 h2
  ·simp only [Option.map_none,Option.getD_none,Bool.and_eq_true,beq_iff_eq] at hc
   refine ((List.take_sublist _ _).trans (List.drop_sublist _ _)).eq_of_length ?_
   have hc:=hc.2
   rw [e2,Z8n,List.length_map,List.length_range] at hc
   refine (Z9Y _ _ _).trans ?_
   rw [Array.length_toList]; exact hc
 ·refine ⟨by show (List.toArray _).size ≤ sizeLine; rw [List.size_toArray,e3]; exact hlen,.refl,.refl,?_⟩
  rw [e3]
  exact .str ⟨(cutL y.cps.toList pl pu).toArray⟩ _ (Zd0 h1 pl pu) (by show (List.toArray _).size ≤ sizeLine; rw [List.size_toArray]; exact hlen)
end
theorem Z8q (I:Inv c st μ s.heap) {x lo hi:V} {vl vu:Value} (rx:RepV (Tr st.σ μ) μ s.heap u x) (rl:RepV (Tr st.σ μ) μ s.heap vl lo) (ru:RepV (Tr st.σ μ) μ s.heap vu hi)
  {value:Expr} {l' u':Option Expr} {p:Pos} {sa:Addr} (hsl:s.heap.IsSliceOf sa vl vu .none) :
  Sim c (subscriptTail value (.Slice l' u' none p) u (.ref sa)) (R.lift (Z0o st.σ x lo hi) st) rV st.σ μ s :=
 Sim.lift fun z h=>bnd h fun pl hl h=>bnd h fun pu hu h=>El.x0_2 (Z6Q rl hl) fun il ql=>El.x0_2 (Z6Q ru hu) fun iu qu=>Z08 h (fun y ey h=>by
  refine El.x1_2 ql fun ql el el'=>El.x1_2 qu fun qu eu eu'=>?_
  rw [← Option.some.inj h]
  exact Z8p I (el ▸ eu ▸ hsl) el' eu' (Z13 ey ▸ rx)) fun h=>Z08 h (fun xs ex h=>El.x2_4 (RepV.lst_inv (Z1j ex ▸ rx)) fun a vs q hL hz r=>by
  rw [q,← Option.some.inj h]; exact Z4c I hsl il iu hL hz r) fun h=>bnd h fun n hn h=>bnd h fun xs ex h=>El.x2_4 (I.ref_inv (Z46 hn ▸ rx) (Z2m ex)) fun a vs q hL hz r=>by
  rw [q,← Option.some.inj h]; exact Z4c I hsl il iu hL.isList hz r
end
end Mine
namespace Mine
open PySem PySem.Calls PyProof.Rows
open AutoSeq1 (wpAny_loadPart')
section
variable {prog:Program} {w:World} {A:Around} {s:Shared}
theorem Z7D {E:Value→Shared→Prop} {Q:List Value→Shared→Prop} {l:Addr} {items:Array Value} {o:Obj} {n:Nat} (ho:s.heap.get? l = some o) (hc:o.cls = .type "list") (hd:o.data = .seq items n) (hsz:items.size ≤ sizeLine)
  (hQ:∀ h',Ext s.heap h'→Q items.toList { s with heap:=h' }):wpAny (model prog w) A (collect (.ref l)) Q E s :=
 wpAny_mono (Z04 (E:=fun _ _=>False) (wpAny_collect_seq l (.inl rfl) ho hc hd (fun h' hk hs=>hQ h' ⟨hs,hk⟩) hsz)) (fun _ _ h=>h) fun _ _ h=>h.elim
end
theorem Z8r (l:Addr) (o:Obj) (items:Array Value) (n:Nat) (hc:o.cls = .type "list") (hd:o.data = .seq items n) (hsz:items.size ≤ sizeLine) :
  Meets (Builtin.«tuple.__new__» ⟨[.type "tuple",.ref l],[]⟩)
   (fun _ R s=>s.heap.get? l = some o∧∀ h':Heap,Ext s.heap h'→R (.ok (.ret (.ref h'.objs.size))) { s with heap:=h'.push { cls:=.type "tuple",data:=.seq items } }) :=
 .of_wp fun prog w A R s h=>by
  obtain ⟨hp,g,d,tk,os⟩:=s; obtain ⟨ht,h⟩:=h
  have hsub:=sub_tuple_self
  have hinit:=init_tuple_lookup
  have hmh:=madeHere_tuple
  have hT:Shared.TypeIs ⟨hp,g,d,tk,os⟩ (.ref l) "list":=⟨o,ht,hc⟩
  wp_walk using wpAny_loadPart' ht,wpAny_typeOf hT,Z7D (l:=l) ht hc hd hsz
  intro h' X
  show wpAny _ _ (Builtin.Tuple.tupleExact items.toList.toArray >>= fun v=>ret v) _ _ _
  unfold Builtin.Tuple.tupleExact
  refine wpAny_bind (wpAny_newObj_type ?_ (by show items.toList.toArray.size ≤ sizeLine; simpa using hsz))
  refine wpAny_pure ⟨_,rfl,?_⟩
  have e:items.toList.toArray = items:=by simp
  rw [e]
  exact h h' X
section
variable {prog:Program} {w:World} {A:Around} {E:Value→Shared→Prop} {s:Shared}
theorem Z4C {l:Addr} {o:Obj} {items:Array Value} {n:Nat} {Q:Value→Shared→Prop} (ho:s.heap.get? l = some o) (hc:o.cls = .type "list") (hd:o.data = .seq items n) (hsz:items.size ≤ sizeLine)
  (h:∀ h':Heap,Ext s.heap h'→Q (.ref h'.objs.size) { s with heap:=h'.push { cls:=.type "tuple",data:=.seq items } }) :
  wpAny (model prog w) A (call (.type "tuple") [.ref l]) Q E s :=
 callType_new PySem.F.called_tuple (by decide) (PySem.F.typeCall_tuple_1 _) (PySem.F.newCall_tuple_1 _) (fun obj=>PySem.F.args_object_init_2 obj _) PySem.F.entry_tuple_new
  (Z8r l o items n hc hd hsz) ⟨ho,fun h' hk=>⟨⟨_,Heap.get?_push_size _ rfl,rfl⟩,h h' hk⟩⟩
end
end Mine
namespace Mine
open PySem PySem.Calls PyProof.Rows
section
variable {c:Cx} {st:St} {μ:List Addr} {s:Shared} {u v:Value}
theorem Z5T (I:Inv c st μ s.heap) {a b:Addr} {vs ws:Array Value} {xs ys:List V} (hl:s.heap.IsList a vs) (r:RepVs (Tr st.σ μ) μ s.heap vs.toList xs) (hl':s.heap.IsList b ws)
  (r':RepVs (Tr st.σ μ) μ s.heap ws.toList ys) (hz:xs.length + ys.length ≤ sizeLine):Sim c (binaryOp .Add (.ref a) (.ref b)) (.ok (.lst (xs++ys)) st) rV st.σ μ s:=by
 obtain ⟨⟨cls,dd,data,sl⟩,ho,hc,n,hd⟩:=id hl
 obtain ⟨⟨cls2,dd2,data2,sl2⟩,ho2,hc2,n2,hd2⟩:=id hl'
 simp only at hc hd hc2 hd2
 try clear data2; try clear data
 subst hc hd hc2 hd2
 have e1:=r.length
 have e2:=r'.length
 have hz':vs.size + ws.size ≤ sizeLine:=by simp at e1 e2; lia
 refine Sim.leaf I (concat_meets ⟨_,ho,rfl⟩ ⟨_,ho2,rfl⟩ noFill_list_add seq_list_add PySem.F.slot_list_add PySem.F.entry_list_add (PySem.F.args_list_add_2 _ _) (list_addW a b vs ws n n2 dd dd2 sl sl2 hz') ⟨ho,ho2,?_⟩)
 refine ⟨.push _,.refl,?_⟩
 have e3:vs++ws = (vs.toList++ws.toList).toArray:=by simp
 rw [e3]
 exact Z1b I (r.append r') (by simpa using hz')
theorem RepVs.times {T:Addr→Prop} {h:Heap} {vs:List Value} {xs:List V} (r:RepVs T μ h vs xs):∀ k:Nat,RepVs T μ h (List.replicate k vs).flatten (List.replicate k xs).flatten
 | 0=>.nil
 | k + 1=>by rw [List.replicate_succ,List.replicate_succ,List.flatten_cons,List.flatten_cons]; exact r.append (r.times k)
theorem Z5U (I:Inv c st μ s.heap) {a:Addr} {vs:Array Value} {xs:List V} {k:Int} {t:Tok} (hl:s.heap.IsList a vs) (r:RepVs (Tr st.σ μ) μ s.heap vs.toList xs) (h0:0 ≤ k) (h1:k < 64) (hz:xs.length * k.toNat ≤ sizeLine) :
  Sim c (binaryOp .Mult (.ref a) (.int k t)) (.ok (.lst (List.replicate k.toNat xs).flatten) st) rV st.σ μ s:=by
 obtain ⟨⟨cls,dd,data,sl⟩,ho,hc,n,hd⟩:=id hl
 simp only at hc hd
 try clear data
 subst hc hd
 have e1:=r.length
 have hz':vs.size * k.toNat ≤ 2 ^ 24:=by rw [Array.length_toList] at e1; rw [e1]; exact hz
 refine Sim.leaf I (wpAny_binaryOp_repeat_ref (T:="list") (U:="int") (by decide) ⟨_,ho,rfl⟩ (fun s'=>typeIs_int s' k t) noFill_list_mul PySem.F.fills_int_mul PySem.F.slot_int_rmul repeat_list PySem.F.slot_int_index.lookup
  (call_meets PySem.F.slot_int_rmul (typeIs_int s k t) PySem.F.entry_int_rmul (PySem.F.args_int_rmul_2 _ _) (lm_int_rmul_list_any k t a vs n dd sl)
   ⟨ho,rfl,⟨_,ho,rfl⟩,call_meets PySem.F.slot_list_mul ⟨_,ho,rfl⟩ PySem.F.entry_list_mul (PySem.F.args_list_mul_2 _ _)
    (lm_list_mul_any a vs n dd sl k t (by simp [Builtin.List.listFitsIndex]; omega) (by omega) (by simp [Builtin.List.listTooLong,sizeLine]; omega)) ⟨ho,?_⟩⟩))
 refine ⟨.push _,.refl,?_⟩
 rw [listMul_foldl_if]
 refine Z1b I (r.times _) ?_
 rw [(r.times k.toNat).length,List.length_flatten,List.map_replicate,List.sum_replicate_nat,Nat.mul_comm]
 exact hz
theorem Z5j (a:Array Nat):∀ (n:Nat) (b:Array Nat),((List.replicate n a).foldl (·++·) b).toList = b.toList++(List.replicate n a.toList).flatten
 | 0,b=>by rw [List.replicate_zero,List.replicate_zero,List.foldl_nil,List.flatten_nil,List.append_nil]
 | n + 1,b=>by rw [List.replicate_succ,List.replicate_succ,List.foldl_cons,Z5j a n,Array.toList_append,List.flatten_cons,List.append_assoc]
theorem Z7E (I:Inv c st μ s.heap) {x:Str} {t t':Tok} {k:Int} (h1:PyData.strOk x = true) (h2:x.length ≤ sizeLine) (hk:2 ≤ k) (hk2:k < 128) (hz:x.cps.toList.length * k.toNat ≤ sizeLine) :
  Sim c (binaryOp .Mult (.str x t) (.int k t')) (.ok (.str (List.replicate k.toNat x.cps.toList).flatten) st) rV st.σ μ s:=by
 have hl:x.cps.toList.length = x.length:=by simp [Str.length]
 have hsz:sizeLine ≤ 2 ^ 24:=by decide
 have hr:(decide (k < -(2 ^ 63:Int)) || decide (k ≥ 2 ^ 63)) = false:=by simp; lia
 have e2:¬ k < 1:=by lia
 by_cases h0:x.length = 0
 ·have he:(List.replicate k.toNat x.cps.toList).flatten = x.cps.toList:=by
   rw [List.eq_nil_of_length_eq_zero (hl.trans h0)]
   simp
  rw [he]
  refine Z1v I (.str x t h1 h2) fun Q hq=>P.mul_str hr (fun _ e=>?_) (fun _ e=>?_) ?_
  ·simp [h0] at e
  ·simp [h0] at e
  ·rw [if_neg e2,if_pos (by simp [h0])]
   exact hq _
 ·have hc:(⟨(List.replicate k.toNat x.cps).foldl (·++·) #[]⟩:Str).cps.toList = (List.replicate k.toNat x.cps.toList).flatten:=Z5j x.cps k.toNat #[]
  have hlen:(⟨(List.replicate k.toNat x.cps).foldl (·++·) #[]⟩:Str).length ≤ sizeLine:=by
   have:(⟨(List.replicate k.toNat x.cps).foldl (·++·) #[]⟩:Str).length = (List.replicate k.toNat x.cps.toList).flatten.length:=by rw [← hc]; simp [Str.length]
   rw [this,List.length_flatten,List.map_replicate,List.sum_replicate_nat,Nat.mul_comm]
   exact hz
  refine Z22 (x:=⟨(List.replicate k.toNat x.cps).foldl (·++·) #[]⟩) I ?_ hlen hc fun Q hq=>P.mul_str hr (fun _ e=>?_) (fun _ e=>?_) ?_
  ·unfold PyData.strOk at h1 ⊢
   rw [Array.all_eq_true_iff_forall_mem] at h1 ⊢
   intro a ha
   rw [← Array.mem_toList_iff,show ((List.replicate k.toNat x.cps).foldl (·++·) #[]).toList = _ from hc,List.mem_flatten] at ha
   obtain ⟨l,hl,ha⟩:=ha
   rw [List.eq_of_mem_replicate hl] at ha
   exact h1 a (Array.mem_toList_iff.mp ha)
  ·have h3:x.length * k.toNat ≤ sizeLine:=hl ▸ hz
   have h4:(x.length:Int) * k = ((x.length * k.toNat:Nat):Int):=by rw [Int.natCast_mul,Int.toNat_of_nonneg (by lia)]
   exact Int.not_lt.mpr (Int.le_ediv_of_mul_le (by lia) (by rw [h4]; have:=Nat.le_trans h3 hsz; lia))
  ·exact decide_eq_false (Nat.not_lt.mpr (hl ▸ hz))
  ·rw [if_neg e2,if_neg (by simp; lia)]
   exact ⟨hlen,hq _ _⟩
noncomputable def tyN:Ty→String
 | .int=>"int"
 | .bool=>"bool"
 | .list=>"list"
 | .tuple=>"tuple"
 | .str=>"str"
theorem Z9Z (I:Inv c st μ s.heap) {x:V} (rx:RepV (Tr st.σ μ) μ s.heap u x) (ty:Ty) :
  Sim c (call (.builtin "isinstance") [u,.type (tyN ty)]) (R.lift ((Z9K st.σ ty x).map V.bool) st) rV st.σ μ s:=by
 have none_no:∀ T:String,(Value.type "NoneType" == Value.type T) = false→typeOf (.type T) = pure (.type "type")→isSubtype (.type "NoneType") (.type T) = pure false→u = .none →
   Sim c (call (.builtin "isinstance") [u,.type T]) (.ok (.bool false) st) rV st.σ μ s:=by
  rintro T h1 h2 h3 rfl
  exact Z02 I fun Q hq=>call_isinstance (isinstance_false_none h1 h2 h3) (hq _)
 try clear h3; try clear T; try clear none_no
 cases x
 ·cases ty
  ·obtain rfl:=rx.none_inv; exact Z02 I fun Q hq=>IsiPair.NoneType_int (hq _)
  ·obtain rfl:=rx.none_inv; exact Z02 I fun Q hq=>IsiPair.NoneType_bool (hq _)
  ·obtain rfl:=rx.none_inv; exact Z02 I fun Q hq=>IsiPair.NoneType_list (hq _)
  ·obtain rfl:=rx.none_inv; exact Z02 I fun Q hq=>IsiPair.NoneType_tuple (hq _)
  ·obtain rfl:=rx.none_inv; exact Z02 I fun Q hq=>IsiPair.NoneType_str (hq _)
 ·obtain rfl:=rx.bool_inv
  cases ty <;> try trivial
  ·exact Z02 I fun Q hq=>IsiPair.bool_int (hq _)
  ·exact Z02 I fun Q hq=>IsiPair.bool_bool (hq _)
 ·refine El.x1_1 rx.int_inv fun t q3z=>?_
  obtain rfl:=q3z
  cases ty <;> try trivial
  ·exact Z02 I fun Q hq=>IsiPair.int_int (hq _)
  ·exact Z02 I fun Q hq=>IsiPair.int_bool (hq _)
 ·refine El.x2_4 rx.str_inv fun x t q4z q5z h1 h2=>?_
  try clear x; try clear q3z; try clear t; try clear h2; try clear h1
  obtain rfl:=q4z
  try clear q4z
  obtain rfl:=q5z
  cases ty <;> try trivial
  ·exact Z02 I fun Q hq=>IsiPair.str_int (hq _)
  ·exact Z02 I fun Q hq=>IsiPair.str_bool (hq _)
  ·exact Z02 I fun Q hq=>IsiPair.str_str (hq _)
 ·refine El.x2_4 rx.tup_inv fun a vs q6z q7z hz r=>?_
  try clear q5z
  obtain rfl:=q6z
  refine El.x1_3 q7z fun o ho hc _=>?_
  cases ty <;> try trivial
  ·exact Z02 I fun Q hq=>IsiPair.tuple_int ho hc (hq _)
  ·exact Z02 I fun Q hq=>IsiPair.tuple_bool ho hc (hq _)
  ·exact Z02 I fun Q hq=>IsiPair.tuple_list ho hc (hq _)
  ·exact Z02 I fun Q hq=>IsiPair.tuple_tuple ho hc (hq _)
 ·refine El.x2_4 rx.lst_inv fun a vs q8z q9z hz r=>?_
  try clear q7z; try clear q6z
  obtain rfl:=q8z
  refine El.x1_3 q9z fun o ho hc _=>?_
  cases ty <;> try trivial
  ·exact Z02 I fun Q hq=>IsiPair.list_int ho hc (hq _)
  ·exact Z02 I fun Q hq=>IsiPair.list_bool ho hc (hq _)
  ·exact Z02 I fun Q hq=>IsiPair.list_list ho hc (hq _)
  ·exact Z02 I fun Q hq=>IsiPair.list_tuple ho hc (hq _)
 ·rename_i n
  cases ty <;> try trivial
  show Sim c _ (R.lift ((match st.σ[n]? with | some (.lst _)=>some true | _=>none:Option Bool).map V.bool) st) _ _ _ _
  split
  ·rename_i hn
   refine El.x2_4 (I.ref_inv rx hn) fun a vs q10z hl hz r=>?_
   try clear q9z; try clear q8z; try clear r; try clear hz; try clear vs; try clear a
   obtain rfl:=q10z
   refine El.x1_3 hl.isList fun o ho hc _=>?_
   exact Z02 I fun Q hq=>IsiPair.list_list ho hc (hq _)
  ·trivial
 ·trivial
 ·trivial
noncomputable def biV:Bi→Value
 | .len=>.builtin "len"
 | .int=>.type "int"
 | .list=>.type "list"
 | .tuple=>.type "tuple"
theorem Z8s {T:Addr→Prop} {h:Heap} {x:Str} (hx:PyData.strOk x = true) {acc:Array Value} (hi:ItemsOf (SignAt x) acc x.cps.size):RepVs T μ h acc.toList (x.cps.toList.map fun c=>V.str [c]):=by
 refine RepVs.of_get (by rw [Array.length_toList,hi.1,List.length_map,Array.length_toList]) fun i v y hv hy=>?_
 rw [Array.getElem?_toList] at hv
 refine El.x2_2 (hi.2 i v hv) fun d u hd q11z=>?_
 try clear hv; try clear y; try clear v; try clear i
 obtain rfl:=q11z
 rw [List.getElem?_map,Array.getElem?_toList,hd] at hy
 try clear q11z
 cases hy
 refine .str ⟨#[d]⟩ u ?_ (by show (1:Nat) ≤ sizeLine; decide)
 unfold PyData.strOk at hx ⊢
 rw [Array.all_eq_true_iff_forall_mem] at hx ⊢
 intro b hb
 have:b = d:=by simpa using hb
 exact this ▸ hx d (Array.mem_of_getElem? hd)
theorem Z6R (I:Inv c st μ s.heap) {a:Addr} {vs:Array Value} {xs:List V} (hl:s.heap.IsList a vs) (hz:vs.size ≤ sizeLine) (r:RepVs (Tr st.σ μ) μ s.heap vs.toList xs):Sim c (call (.builtin "len") [.ref a]) (.ok (.int xs.length) st) rV st.σ μ s:=by
 refine Z0i I fun Q hq=>call_len_list hl (Z0V hz) ?_
 rw [← Array.length_toList,r.length]; exact hq _ _
theorem ZbR (I:Inv c st μ s.heap) {x:V} (rx:RepV (Tr st.σ μ) μ s.heap u x):Sim c (call (.builtin "len") [u]) (R.lift (Z0O st.σ .len x) st) rV st.σ μ s :=
 Sim.lift fun z h=>Z08 h (fun l el h=>El.x2_4 (RepV.str_inv (Z13 el ▸ rx)) fun y t q q2 h1 h2=>by
  rw [q,← Option.some.inj h,← q2,Array.length_toList]
  exact Z0i I fun Q hq=>P.len_str (by have:=Z0V h2; lia) (hq _ _)) fun h=>Z08 h (fun l el h=>El.x2_4 (RepV.tup_inv (Z6F el ▸ rx)) fun a vs q hl hz r=>by
  rw [q,← Option.some.inj h,← r.length,Array.length_toList]
  exact Z0i I fun Q hq=>PyProof.Rows.len_tuple hl (Z0V hz) (hq _ _)) fun h=>Z08 h (fun l el h=>El.x2_4 (RepV.lst_inv (Z1j el ▸ rx)) fun a vs q hl hz r=>by
  rw [q,← Option.some.inj h]; exact Z6R I hl hz r) fun h=>bnd h fun n hn h=>bnd h fun l el h=>El.x2_4 (I.ref_inv (Z46 hn ▸ rx) (Z2m el)) fun a vs q hl hz r=>by
  rw [q,← Option.some.inj h]; exact Z6R I hl.isList hz r
theorem Za0 (ok:CxOk c) (I:Inv c st μ s.heap) {x:V} (rx:RepV (Tr st.σ μ) μ s.heap u x):Sim c (call (biV .list) [u]) (R.lift (Z0O st.σ .list x) st) rV st.σ μ s :=
 Sim.lift fun z h=>Z08 h (fun l el h=>El.x4_7 (RepV.lstI (Z1j el ▸ rx)) fun a o vs n e9 ho hc hd hz hT r=>by
  rw [e9,← Option.some.inj h]
  exact Sim.leaf I (Z04 (call_list_seq a (.inl rfl) ho hc hd (fun h' c' hk hn hs=>⟨⟨hs,hk⟩,⟨rfl,rfl,rfl⟩,.lst hn rfl rfl hz (fun q=>Nat.lt_irrefl _ (I.lt _ q.mem)) (r.ext ⟨hs,hk⟩)⟩) hz))) fun h=>bnd h fun l el h=>El.x2_4 (RepV.str_inv (Z13 el ▸ rx)) fun y t q q2 h1 h2=>by
  rw [q,← Option.some.inj h,← q2]
  exact Sim.leaf I (Z04 (call_list_str ok.hh y t (fun h' tk acc c' hk hn hit hs=>⟨⟨hs,hk⟩,⟨rfl,rfl,rfl⟩,.lst hn rfl rfl (by rw [hit.1]; exact h2) (fun q=>Nat.lt_irrefl _ (I.lt _ q.mem)) (Z8s h1 hit)⟩) h2))
theorem Z8t (I:Inv c st μ s.heap) {x:V} (rx:RepV (Tr st.σ μ) μ s.heap u x):Sim c (call (biV .tuple) [u]) (R.lift (Z0O st.σ .tuple x) st) rV st.σ μ s :=
 Sim.lift fun z h=>bnd h fun l el h=>El.x4_7 (RepV.lstI (Z1j el ▸ rx)) fun a o vs n e9 ho hc hd hz hT r=>by
  rw [e9,← Option.some.inj h]
  exact Sim.leaf I (Z4C ho hc hd hz fun h' X=>⟨X.trans (.push _),⟨rfl,rfl,rfl⟩,.tup (Heap.get?_push_size _ rfl) rfl rfl hz (fun q=>Nat.lt_irrefl _ (Nat.lt_of_lt_of_le (I.lt _ q.mem) X.1)) (r.ext (X.trans (.push _)))⟩)
theorem Zd1 (ok:CxOk c) (I:Inv c st μ s.heap) {x:V} (rx:RepV (Tr st.σ μ) μ s.heap u x) (f:Bi):Sim c (call (biV f) [u]) (R.lift (Z0O st.σ f x) st) rV st.σ μ s:=by
 cases f
 ·exact ZbR I rx
 ·cases x <;> try trivial
  ·obtain rfl:=rx.bool_inv; exact Z0i I fun Q hq=>call_int_bool (hq _ _)
  ·obtain ⟨t,rfl⟩:=rx.int_inv; exact Z0i I fun Q hq=>call_int_int (hq _ _)
 ·exact Za0 ok I rx
 ·exact Z8t I rx
theorem Z6S:∀ (l:List Str) (i:Array Nat),(l.foldl (fun acc p=>acc++(#[]:Array Nat)++p.cps) i).toList = i.toList++(l.map (fun y=>y.cps.toList)).flatten
 | [],i=>by simp
 | y :: l,i=>by simp only [List.foldl_cons]; rw [Z6S l]; simp
theorem Za1 (ys:List Str):(Txt.join ⟨#[]⟩ ys).cps.toList = (ys.map (fun y=>y.cps.toList)).flatten:=by
 show ((ys.drop 1).foldl (fun acc p=>acc++(#[]:Array Nat)++p.cps) (ys.headD Str.empty).cps).toList = _
 rw [Z6S]
 cases ys with
 | nil=>rfl
 | cons y r=>simp
noncomputable def meN:Me→String
 | .join=>"str.join"
 | .append=>"list.append"
 | .index=>"str.index"
section
open Builtin Builtin.Str StrLaws
theorem Z8u (s sub:Str) (hi:Nat):∀ (l:List Nat) (st:Array Nat × Nat),¬ st.1.size < 1→(forIn l st (occBody s sub hi 1)).run.1 = st.1
 | [],st,_=>rfl
 | a :: l,st,h=>by
  rw [List.forIn_cons]
  unfold occBody
  rw [if_neg fun q=>h q.1.1.1]
  exact Z8u s sub hi l _ h
theorem Z5k (s sub:Str) (hi:Nat):∀ (l:List Nat) (free:Nat),(∀ i ∈ l,free ≤ i)→(forIn l ((#[]:Array Nat),free) (occBody s sub hi 1)).run.1.toList = (l.find? fun i=>decide (i + sub.length ≤ hi) && subAt s sub i).toList
 | [],free,_=>rfl
 | a :: l,free,hf=>by
  rw [List.forIn_cons]
  unfold occBody
  by_cases hc:(decide (a + sub.length ≤ hi) && subAt s sub a) = true
  ·rw [List.find?_cons_of_pos (p:=fun i=>decide (i + sub.length ≤ hi) && subAt s sub i) hc]
   rw [Bool.and_eq_true,decide_eq_true_eq] at hc
   rw [if_pos ⟨⟨⟨Nat.zero_lt_one,hf a List.mem_cons_self⟩,hc.1⟩,hc.2⟩]
   exact congrArg Array.toList (Z8u s sub hi l _ (by simp))
  ·rw [List.find?_cons_of_neg (p:=fun i=>decide (i + sub.length ≤ hi) && subAt s sub i) hc]
   rw [Bool.and_eq_true,decide_eq_true_eq] at hc
   rw [if_neg fun q=>hc ⟨q.1.2,q.2⟩]
   exact Z5k s sub hi l free fun i h=>hf i (List.mem_cons_of_mem _ h)
theorem Zb1 {d:Nat}:∀ {l:List Nat} {j:Nat} (h:j < l.idxOf d) {hj:j < l.length},l[j] ≠ d
 | [],_,_,hj=>absurd hj (Nat.not_lt_zero _)
 | a :: l,j,h,hj=>by
  rw [List.idxOf_cons] at h
  by_cases ha:(a == d) = true
  ·rw [ha] at h; exact absurd h (Nat.not_lt_zero _)
  ·rw [Bool.not_eq_true] at ha
   rw [ha] at h
   cases j with
   | zero=>intro e; rw [show a = d from e] at ha; simp at ha
   | succ j=>exact Zb1 (l:=l) (Nat.lt_of_succ_lt_succ h)
theorem ZbS (x:Str) (d:Nat) (h:d ∈ x.cps.toList):occurrences x ⟨#[d]⟩ 0 x.length 1 = [x.cps.toList.idxOf d]:=by
 rw [occ_eq,Z5k _ _ _ _ _ fun _ _=>Nat.zero_le _,Nat.sub_zero,← List.range_eq_range']
 have hp:∀ i,(decide (i + (⟨#[d]⟩:Str).length ≤ x.length) && subAt x ⟨#[d]⟩ i) = true↔x.cps.toList[i]? = some d:=fun i=>by
  rw [Bool.and_eq_true,decide_eq_true_eq]; exact subAt_one x d i
 have hlt:=List.idxOf_lt_length_of_mem h
 have:=(List.find?_range_eq_some (n:=x.length + 1) (i:=x.cps.toList.idxOf d) (p:=fun i=>decide (i + (⟨#[d]⟩:Str).length ≤ x.length) && subAt x ⟨#[d]⟩ i)).mpr
  ⟨(hp _).mpr (by rw [List.getElem?_eq_getElem hlt]; exact congrArg some (List.getElem_idxOf hlt)),List.mem_range.mpr (Nat.lt_succ_of_lt (by rw [Array.length_toList] at hlt; exact hlt)),fun j hj=>by
   rw [Bool.not_eq_true',Bool.eq_false_iff]
   intro q
   have:=(hp j).mp q
   have hjl:j < x.cps.toList.length:=Nat.lt_trans hj hlt
   rw [List.getElem?_eq_getElem hjl] at this
   exact Zb1 hj (Option.some.inj this)⟩
 rw [this]; rfl
end
theorem Z39 {σ:List O} {n:Nat} {o o':O} {b:Addr} (e:σ[n]? = some o) (h1:o.live = true) (h2:o'.live = true):Tr (σ.set n o') μ b↔Tr σ μ b:=by
 have hlt:n < σ.length:=(List.getElem?_eq_some_iff.mp e).1
 constructor
 ·intro q21z
  refine El.x2_3 q21z fun k q e1 e2 e3=>?_
  by_cases hk:n = k
  ·try clear q21z
   subst hk; exact ⟨n,o,e,h1,e3⟩
  ·rw [List.getElem?_set_ne hk] at e1; exact ⟨k,q,e1,e2,e3⟩
 ·intro q22z
  refine El.x2_3 q22z fun k q e1 e2 e3=>?_
  by_cases hk:n = k
  ·try clear q22z
   subst hk; exact ⟨n,o',by simp [hlt],h2,e3⟩
  ·exact ⟨k,q,by rw [List.getElem?_set_ne hk]; exact e1,e2,e3⟩
noncomputable def UpdAt (a:Addr) (h h':Heap):Prop:=h.objs.size ≤ h'.objs.size∧∀ b o,b ≠ a→h.get? b = some o→h'.get? b = some o
theorem UpdAt.of {a:Addr} {h h':Heap} (hs:Heap.SameBut a h h'):UpdAt a h h':=⟨Nat.le_of_eq hs.1.symm,fun b o hb e=>(hs.2 b hb).trans e⟩
theorem Inv.upd {h h':Heap} (I:Inv c st μ h) {n:Nat} {o o':O} {a:Addr} (e:st.σ[n]? = some o) (ha:μ[n]? = some a) (h1:o.live = true) (h2:o'.live = true) (hs:UpdAt a h h')
  (hr:RepO (Tr st.σ μ) μ h' a o') (hnp:o ≠ .priv) (hk:Hk c.w o'):Inv c ⟨st.ρ,st.σ.set n o'⟩ μ h'∧Stp c st.σ μ h (st.σ.set n o') μ h':=by
 have tr:∀ b,Tr (st.σ.set n o') μ b↔Tr st.σ μ b:=fun b=>Z39 e h1 h2
 have trE:Tr (st.σ.set n o') μ = Tr st.σ μ:=funext fun b=>propext (tr b)
 have ta:Tr st.σ μ a:=⟨n,o,e,h1,ha⟩
 have S:Stp c st.σ μ h (st.σ.set n o') μ h':=⟨hs.1,fun b ob q _ hT=>hs.2 b ob (fun (k:b = a)=>hT (k ▸ ta)) q,fun _ _ q=>q,fun b q=>.inl ((tr b).mp q),fun _ q=>.inl q,Z45 e hnp,fun k b ob e1 e2 e3=>hs.2 b ob (fun x=>by
  have:n = k:=(List.getElem?_inj (List.getElem?_eq_some_iff.mp ha).1 I.nd).mp (ha.trans (x ▸ e2.symm))
  try clear ta; try clear tr
  subst this; rw [e] at e1; exact hnp (Option.some.inj e1)) e3⟩
 have mv:∀ {v:Value} {x:V},RepV (Tr st.σ μ) μ h v x→RepV (Tr st.σ μ) μ h' v x:=fun r=>by
  have:=r.step (st':=⟨st.ρ,st.σ.set n o'⟩) I S
  dsimp only at this
  rwa [trE] at this
 have mvs:∀ {v:List Value} {x:List V},RepVs (Tr st.σ μ) μ h v x→RepVs (Tr st.σ μ) μ h' v x:=fun r=>by
  have:=r.step (st':=⟨st.ρ,st.σ.set n o'⟩) I S
  dsimp only at this
  rwa [trE] at this
 have own:∀ b,Own c b→b ≠ a:=fun b q k=>I.sep b q (k ▸ List.mem_of_getElem? ha)
 refine ⟨⟨fun i x q=>?_,fun i sl q=>?_,fun k ob q=>?_,by simpa using I.len,I.nd,fun b q=>Nat.lt_of_lt_of_le (I.lt b q) hs.1,fun b ob q=>?_,I.baseS,I.baseM,I.sep,Z6B I.kd hk⟩,S⟩
 ·refine El.x2_3 (I.vars i x q) fun sl v g1 g2 g3=>?_
  dsimp only
  rw [trE]
  exact ⟨sl,v,g1,g2.keeps fun ob k=>hs.2 _ _ (own _ ⟨i,sl,g1,rfl⟩) k,mv g3⟩
 ·exact (I.slots i sl q).keeps fun ob k=>hs.2 _ _ (own _ ⟨i,sl,q,rfl⟩) k
 ·dsimp only at q ⊢
  rw [trE]
  have hlt:n < st.σ.length:=(List.getElem?_eq_some_iff.mp e).1
  by_cases hk:n = k
  ·try clear g3; try clear g2; try clear g1; try clear v; try clear sl; try clear x; try clear i; try clear own; try clear mv; try clear S; try clear trE
   subst hk
   have:o' = ob:=by simpa [hlt] using q
   try clear hlt
   subst this
   exact ⟨a,ha,hr⟩
  ·rw [List.getElem?_set_ne hk] at q
   refine El.x1_2 (I.objs k ob q) fun b hb rb=>?_
   have hne:b ≠ a:=fun h=>hk ((List.getElem?_inj (List.getElem?_eq_some_iff.mp ha).1 I.nd).mp (ha.trans (h ▸ hb.symm)))
   refine ⟨b,hb,?_⟩
   exact rb.map (fun _ ho=>(hs.2 b _ hne ho)) fun _ _ r=>(mvs r)
 ·refine hs.2 b ob (fun k=>?_) (I.base b ob q)
  have:=I.baseM a (List.mem_of_getElem? ha)
  rw [k,this] at q; cases q
theorem Inv.updL {h h':Heap} (I:Inv c st μ h) {n:Nat} {xs xs':List V} {a:Addr} {vs:Array Value} {k:Nat} (hn:st.σ[n]? = some (.lst xs)) (ha:μ[n]? = some a) (hs:Heap.SameBut a h h')
  (ho:h'.get? a = some { cls:=.type "list",data:=.seq vs k }) (hz:vs.size ≤ sizeLine) (r:RepVs (Tr st.σ μ) μ h vs.toList xs'):Inv c ⟨st.ρ,st.σ.set n (.lst xs')⟩ μ h'∧Stp c st.σ μ h (st.σ.set n (.lst xs')) μ h':=by
 have tE:Tr (st.σ.set n (.lst xs)) μ = Tr st.σ μ:=funext fun b=>propext (Z39 hn rfl rfl)
 have S:Stp c st.σ μ h (st.σ.set n (.lst xs)) μ h' :=
  ⟨Nat.le_of_eq hs.1.symm,fun b ob q _ hT=>(hs.2 b (fun (k:b = a)=>hT (k ▸ ⟨n,_,hn,rfl,ha⟩))).trans q,fun _ _ q=>q,fun b q=>.inl (by rwa [tE] at q),fun _ q=>.inl q,Z45 hn (by simp),fun k b ob e1 e2 e3=>(hs.2 b fun x=>by
   have:n = k:=(List.getElem?_inj (List.getElem?_eq_some_iff.mp ha).1 I.nd).mp (ha.trans (x ▸ e2.symm))
   subst this; rw [hn] at e1; cases e1).trans e3⟩
 have r1:=r.step (st':=⟨st.ρ,st.σ.set n (.lst xs)⟩) I S
 dsimp only at r1
 rw [tE] at r1
 exact I.upd hn ha rfl rfl (.of hs) (.lst ho hz r1) (by simp) trivial
theorem Zb2 (I:Inv c st μ s.heap) {x y:V} (rx:RepV (Tr st.σ μ) μ s.heap u x) (ry:RepV (Tr st.σ μ) μ s.heap v y) (m:Me) :
  Sim c (call (.builtin (meN m)) [u,v]) (Z1C m x y st) rV st.σ μ s:=by
 cases m
 ·cases x <;> try trivial
  rename_i l0
  cases l0 <;> try trivial
  cases y <;> try trivial
  rename_i ys0
  obtain ⟨a,t,rfl,e,h1,h2⟩:=rx.str_inv; obtain ⟨b,vs,rfl,hl,hz,r⟩:=ry.lst_inv
  show Sim c _ (match Z12 ys0 with | some l=>if l.flatten.length ≤ sizeLine then .ok (V.str l.flatten) st else .stuck | none=>.stuck:R V) _ _ _ _
  have ea:a = ⟨#[]⟩:=by obtain ⟨⟨l⟩⟩:=a; simp at e; subst e; rfl
  try clear h2; try clear h1; try clear e; try clear t
  subst ea
  split
  ·rename_i l hl'
   split
   ·rename_i hlen
    refine El.x1_3 (Z4a r hl') fun ys g1 g2 g3=>?_
    have hj:=Za1 ys
    refine Z22 (x:=Txt.join ⟨#[]⟩ ys) I ?_ ?_ (by rw [hj,g2]) fun Q hq=>join_list hl g1 ?_ hq
    ·unfold PyData.strOk
     rw [Array.all_eq_true_iff_forall_mem]
     intro b hb
     rw [← Array.mem_toList_iff,hj] at hb
     refine El.x1_2 (List.mem_flatten.mp hb) fun w hw hb'=>?_
     refine El.x1_2 (List.mem_map.mp hw) fun y hy q23z=>?_
     try clear hw; try clear w; try clear hb; try clear g1; try clear ea
     obtain rfl:=q23z
     have:=g3 y hy
     unfold PyData.strOk at this
     rw [Array.all_eq_true_iff_forall_mem] at this
     exact this b (by rw [← Array.mem_toList_iff]; exact hb')
    ·show (Txt.join ⟨#[]⟩ ys).cps.size ≤ sizeLine
     rw [← Array.length_toList,hj,g2]; exact hlen
    ·have e1:(ys.map (·.length)).sum = l.flatten.length:=by
      rw [← g2,List.length_flatten,List.map_map]
      rfl
     rw [e1]
     show _ + ys.length * 0 ≤ 16777216
     rw [Nat.mul_zero,Nat.add_zero]
     exact hlen
   ·trivial
  ·trivial
 ·cases x <;> try trivial
  rename_i n
  show Sim c _ (match st.σ[n]? with | some (.lst xs)=>if xs.length < sizeLine then .ok V.none ⟨st.ρ,st.σ.set n (.lst (xs++[y]))⟩ else .stuck | _=>.stuck:R V) _ _ _ _
  split
  ·rename_i xs hn
   split
   ·rename_i hlen
    refine El.x2_4 (I.ref_inv rx hn) fun a vs q24z hl hz r=>?_
    try clear q23z; try clear hy; try clear hb'; try clear hj; try clear g3; try clear g2; try clear ys; try clear vs; try clear b; try clear a
    obtain rfl:=q24z
    have ha:=rx.refA
    have e1:=r.length
    simp at e1
    refine wpAny_list_append_plain hl (fun h' hl' hs=>?_) hz
    refine El.x1_1 hl' fun k ho=>?_
    obtain ⟨I',S⟩:=I.updL (xs':=xs++[y]) hn ha hs ho (by simp; lia) (by simpa using r.append (.cons ry .nil))
    exact ⟨μ,.none,I',S,.refl⟩
   ·trivial
  ·trivial
 ·exact Sim.ok fun z stF h=>Z06 h fun l hl h=>Z06 h fun m hm h=>by
   rcases m with _ | ⟨d,_ | ⟨e,r⟩⟩
   ·cases h
   ·refine Z7B h fun hc h=>?_
    obtain ⟨a,t,rfl,e1,h1,h2⟩:=RepV.str_inv (Z13 hl ▸ rx)
    obtain ⟨b,t',rfl,e2,h3,h4⟩:=RepV.str_inv (Z13 hm ▸ ry)
    obtain rfl:=Z4z e2
    subst e1
    rw [ok1 h,ok2 h]
    exact Z0i I fun Q hq=>SC.index (ZbS a d (List.contains_iff_mem.mp hc)) (hq _ _)
   ·cases h
end
section
variable {c:Cx} {st:St} {μ:List Addr} {s:Shared} {u v:Value}
theorem Z6T {t:Value→Value→Sem Value} {x y z:V} {k:Int→Int→Option V} (rx:RepV (Tr st.σ μ) μ s.heap u x) (ry:RepV (Tr st.σ μ) μ s.heap v y) (hz:onI x y k = some z) (h:∀ a b t1 t2,k a b = some z→Sim c (t (.int a t1) (.int b t2)) (.ok z st) rV st.σ μ s):Sim c (t u v) (.ok z st) rV st.σ μ s :=
 bnd hz fun i hi hz=>bnd hz fun j hj hz=>El.x1_1 (RepV.int_inv (Z0r hi ▸ rx)) fun t1 q1=>El.x1_1 (RepV.int_inv (Z0r hj ▸ ry)) fun t2 q2=>by
  rw [q1,q2]; exact h i j t1 t2 hz
theorem ZbT (I:Inv c st μ s.heap) {x y:V} (rx:RepV (Tr st.σ μ) μ s.heap u x) (ry:RepV (Tr st.σ μ) μ s.heap v y):Sim c (binaryOp (opM .add) u v) (R.lift (Z6C x y) st) rV st.σ μ s :=
 Sim.lift fun z h=>Z08 h (fun a ha h=>bnd h fun b hb h=>El.x1_1 (RepV.int_inv (Z0r ha ▸ rx)) fun t1 q1=>El.x1_1 (RepV.int_inv (Z0r hb ▸ ry)) fun t2 q2=>by
  rw [q1,q2,← Option.some.inj h]; exact Z0i I fun Q hq=>PyProof.Rows.add_int (hq _ _)) fun h=>Z08 h (fun a ha h=>bnd h fun b hb h=>Z1k h fun hz h=>El.x2_4 (RepV.str_inv (Z13 ha ▸ rx)) fun x' t q1 q2 h1 h2=>El.x2_4 (RepV.str_inv (Z13 hb ▸ ry)) fun y' t' q3 q4 h1' h2'=>by
  rw [q1,q3,← Option.some.inj h]
  subst q2 q4
  exact Z22 (x:=x'++y') I (Z5h h1 h1') (by rw [ZbJ]; exact hz) (ZbI _ _) fun Q hq=>PyProof.Rows.add_str hq hz) fun h=>bnd h fun a ha h=>bnd h fun b hb h=>Z1k h fun hz h=>El.x2_4 (RepV.lst_inv (Z1j ha ▸ rx)) fun a vs q1 hl _ r=>El.x2_4 (RepV.lst_inv (Z1j hb ▸ ry)) fun b ws q2 hl' _ r'=>by
  rw [q1,q2,← Option.some.inj h]; exact Z5T I hl r hl' r' hz
theorem ZbU (I:Inv c st μ s.heap) {x y:V} (rx:RepV (Tr st.σ μ) μ s.heap u x) (ry:RepV (Tr st.σ μ) μ s.heap v y):Sim c (binaryOp (opM .mul) u v) (R.lift (Z6D x y) st) rV st.σ μ s :=
 Sim.lift fun z h=>bnd h fun b hb h=>El.x1_1 (RepV.int_inv (Z0r hb ▸ ry)) fun t2 q2=>by
  rw [q2]
  exact Z08 h (fun a ha h=>Z1k h fun hz h=>El.x1_1 (RepV.int_inv (Z0r ha ▸ rx)) fun t1 q1=>by
   rw [q1,← Option.some.inj h]
   exact Z0i I fun Q hq=>P.mul_int (hq _ _) ((Bool.or_eq_true_iff.mp hz).elim (fun h=>.of_left (Z35 h)) fun h=>.of_right (Z35 h))) fun h=>Z08 h (fun a ha h=>Z1k h fun hz h=>El.x2_4 (RepV.str_inv (Z13 ha ▸ rx)) fun x' t q1 q3 h1 h2=>by
   rw [q1,← Option.some.inj h]
   subst q3
   exact Z7E I h1 h2 hz.1 hz.2.1 hz.2.2) fun h=>bnd h fun a ha h=>Z1k h fun hz h=>El.x2_4 (RepV.lst_inv (Z1j ha ▸ rx)) fun a vs q1 hl _ r=>by
   rw [q1,← Option.some.inj h]; exact Z5U I hl r hz.1 hz.2.1 hz.2.2
theorem Z8v {γ:Type} {G:Prop} {d:γ} {c:Prop} [Decidable c] {m:Option γ} (h:(if c then none else m) = some d) (k:¬ c→m = some d→G):G:=by
 by_cases hc:c
 ·rw [if_pos hc] at h; cases h
 ·rw [if_neg hc] at h; exact k hc h
theorem ZbV (ok:CxOk c) (I:Inv c st μ s.heap) {x y:V} (rx:RepV (Tr st.σ μ) μ s.heap u x) (ry:RepV (Tr st.σ μ) μ s.heap v y) (op:Op) :
  Sim c (binaryOp (opM op) u v) (R.lift (Z1D op x y) st) rV st.σ μ s:=by
 cases op
 ·exact ZbT I rx ry
 ·exact Sim.lift fun z h=>Z6T (t:=binaryOp (opM .sub)) rx ry h fun a b t1 t2 h=>Option.some.inj h ▸ Z0i I fun Q hq=>PyProof.Rows.sub_int (hq _ _)
 ·exact ZbU I rx ry
 ·exact Sim.lift fun z h=>Z6T (t:=binaryOp (opM .fdiv)) rx ry h fun a b t1 t2 h=>Z8v h fun hn h=>Option.some.inj h ▸ Z0i I fun Q hq=>PyProof.Rows.floordiv_int hn (hq _ _) (.inr (ok.pyl s I.base))
 ·exact Sim.lift fun z h=>Z6T (t:=binaryOp (opM .mod)) rx ry h fun a b t1 t2 h=>Z8v h fun hn h=>Option.some.inj h ▸ Z0i I fun Q hq=>PyProof.Rows.mod_int hn (hq _ _)
 ·exact Sim.lift fun z h=>Z6T (t:=binaryOp (opM .pow)) rx ry h fun a b t1 t2 h=>Z1k h fun hn h=>by
   obtain ⟨rfl,rfl⟩:=hn
   exact Option.some.inj h ▸ Z0i I fun Q hq=>PyProof.Rows.pow_int (by decide) (by decide +kernel) (hq _ _)
end
end Mine
namespace Mine
open PySem
structure Gm where
 sc:Scope
 vm:List (Str × Nat)
 used:List Nat
 gs:List (Str × Int)
 cps:List (Str × Nat):=[]
noncomputable def Z11 (x:Str):Bool:=!(x == ("__debug__":Str))
noncomputable def Gm.gl (g:Gm) (x:Str):Bool:=decide (g.sc.names.lookup x = some .globalImplicit) && Z11 x
noncomputable def Gm.lv (g:Gm) (x:Str) (i:Nat):Bool:=decide (g.vm.lookup x = some i) && Z11 x
noncomputable def Z1m (g:Gm) (n:Str) (k:NameKind):Bool:=k == .free && g.sc.kind == .function && g.sc.names.lookup n == some .cell
noncomputable def Z5V (g:Gm) (scope:Scope):Scope:={ scope with names:=scope.names.map fun (n,k)=>if Z1m g n k then (n,.cell) else (n,k) }
noncomputable def Gm.comp (g:Gm) (scope:Scope) (x:Str) (k:Nat):Gm :=
 ⟨Z5V g scope,(x,k) :: g.vm.filter fun p=>!(p.1 == x) && decide (scope.names.lookup p.1 = some .free) && decide (g.sc.names.lookup p.1 = some .cell),k :: g.used,g.gs,[]⟩
noncomputable def Z8w (g:Gm) (scope:Scope) (x:Str) (k:Nat):Bool :=
 decide (scope.kind = .function) && decide (scope.names.lookup x = some .local) && (scope.names.all fun p=>!(p.2 == .cell)) && Z11 x &&
 !(g.used.contains k) && !(x == (".0":Str)) &&
 (scope.names.all fun p=>p.2 == .local || p.2 == .free || p.2 == .globalImplicit) && (scope.names.all fun p=>!(p.2 == .free) || g.sc.names.lookup p.1 == some .cell) &&
 ((scope.names.filter fun p=>(p.2 == .local || p.2 == .cell) && p.1 != (".0":Str)).map (·.1) == [x]) && decide ((scope.names.map (·.1)).Nodup)
noncomputable def Z8x:Me→String
 | .join=>"join"
 | .append=>"append"
 | .index=>"index"
noncomputable def Z8y:Bi→String
 | .len=>"len"
 | .int=>"int"
 | .list=>"list"
 | .tuple=>"tuple"
noncomputable def Z23 (f:Str):Bool:=!(f == Z0F) && !(f == Z1a)
structure Info where
 kids:List Expr
 nm:Str:=default
 k:Nat:=0
 sc:Scope:=default
 kp:Pos:=default
noncomputable def info (p:Expr):Info:=Expr.casesOn (motive_1:=fun _=>Info) p (fun _ vs _=>⟨vs,default,0,default,default⟩) (fun _ _ _=>⟨[],default,0,default,default⟩) (fun l _ r _=>⟨[l,r],default,0,default,default⟩) (fun _ x _=>⟨[x],default,0,default,default⟩)
 (fun _ _ _ _=>⟨[],default,0,default,default⟩) (fun t x y _=>⟨[t,x,y],default,0,default,default⟩) (fun ks vs _=>⟨(ks.map fun k=>k.getD default)++vs,default,0,default,default⟩) (fun _ _ _=>⟨[],default,0,default,default⟩) (fun e gs sc _=>⟨e :: (gs.map fun c=>c.target :: c.iter :: c.ifs).flatten,default,0,sc,default⟩) (fun _ _ _ _=>⟨[],default,0,default,default⟩) (fun _ _ _ _ _=>⟨[],default,0,default,default⟩)
 (fun _ _ _ _=>⟨[],default,0,default,default⟩) (fun _ _=>⟨[],default,0,default,default⟩) (fun _ _=>⟨[],default,0,default,default⟩) (fun _ _=>⟨[],default,0,default,default⟩) (fun l _ rs _=>⟨l :: rs,default,0,default,default⟩) (fun f as ks _=>⟨f :: (as++ks.map (·.value)),default,0,default,(ks.map (·.pos)).headD default⟩) (fun _ _ _ _=>⟨[],default,0,default,default⟩)
 (fun _ _=>⟨[],default,0,default,default⟩) (fun _ k _=>⟨[],default,k,default,default⟩) (fun o _ _=>⟨[o],default,0,default,default⟩) (fun v s _=>⟨[v,s],default,0,default,default⟩) (fun _ _=>⟨[],default,0,default,default⟩) (fun x _=>⟨[],x,0,default,default⟩) (fun xs _=>⟨xs,default,0,default,default⟩) (fun xs k _=>⟨xs,default,k,default,default⟩) (fun l u _ _=>⟨[l.getD default,u.getD default],default,0,default,default⟩)
noncomputable def kids (p:Expr):List Expr:=(info p).kids
noncomputable def kid (p:Expr) (i:Nat):Expr:=(kids p)[i]?.getD default
noncomputable def nmOf (p:Expr):Str:=(info p).nm
noncomputable def kOf (p:Expr):Nat:=(info p).k
noncomputable def scOf (p:Expr):Scope:=(info p).sc
noncomputable def ZdM (p:Expr):Pos:=(info p).kp
noncomputable def flat (p:Expr):Bool:=decide (2 < (kids p).length)
noncomputable def Z5l (op:BoolOp) (p:Expr):Expr:=.BoolOp op (kids p).tail p.pos
noncomputable def bop (op:BoolOp) (f:Bool) (a b b':Expr) (q:Pos):Expr:=.BoolOp op (a :: (if f then kids b else [b'])) q
mutual
noncomputable def pE:Ex→Expr→Expr
 | .none,p=>.Constant .none (kOf p) p.pos
 | .bool b,p=>.Constant (.bool b) (kOf p) p.pos
 | .int i,p=>.Constant (.int i) (kOf p) p.pos
 | .str x,p=>.Constant (.str x) (kOf p) p.pos
 | .loc _,p=>.Name (nmOf p) p.pos
 | .fz _,p=>.Name (nmOf p) p.pos
 | .bin op a b,p=>.BinOp (pE a (kid p 0)) (opM op) (pE b (kid p 1)) p.pos
 | .cmp op a b,p=>.Compare (pE a (kid p 0)) [cmM op] [pE b (kid p 1)] p.pos
 | .band a b,p=>bop .And (flat p) (pE a (kid p 0)) (pE b (Z5l .And p)) (pE b (kid p 1)) p.pos
 | .bor a b,p=>bop .Or (flat p) (pE a (kid p 0)) (pE b (Z5l .Or p)) (pE b (kid p 1)) p.pos
 | .not a,p=>.UnaryOp .Not (pE a (kid p 0)) p.pos
 | .neg i,p=>.UnaryOp .USub (.Constant (.int i) (kOf (kid p 0)) (kid p 0).pos) p.pos
 | .ite c a b,p=>.IfExp (pE c (kid p 0)) (pE a (kid p 1)) (pE b (kid p 2)) p.pos
 | .tup es,p=>.Tuple (pEs es (kids p)) (kOf p) p.pos
 | .list es,p=>.List (pEs es (kids p)) p.pos
 | .listM es,p=>.List (pEs es (kids p)) p.pos
 | .sub a i,p=>.Subscript (pE a (kid p 0)) (pE i (kid p 1)) p.pos
 | .slice a lo hi,p=>.Subscript (pE a (kid p 0)) (.Slice (pO lo (kid (kid p 1) 0)) (pO hi (kid (kid p 1) 1)) none (kid p 1).pos) p.pos
 | .isin a t,p=>.Call (.Name (Str.ofString "isinstance") (kid p 0).pos) [pE a (kid p 1),.Name (Str.ofString (tyN t)) (kid p 2).pos] [] p.pos
 | .bi f a,p=>.Call (.Name (Str.ofString (Z8y f)) (kid p 0).pos) [pE a (kid p 1)] [] p.pos
 | .me m a b,p=>.Call (.Attribute (pE a (kid (kid p 0) 0)) (Str.ofString (Z8x m)) (kid p 0).pos) [pE b (kid p 1)] [] p.pos
 | .call f es,p=>.Call (.Name f (kid p 0).pos) (pEs es (kids p).tail) [] p.pos
 | .dictM,p=>.Dict [] [] p.pos
 | .dictK,p=>.Dict [] [] p.pos
 | .chain a o1 b o2 d,p=>.Compare (pE a (kid p 0)) [cmM o1,cmM o2] [pE b (kid p 1),pE d (kid p 2)] p.pos
 | .dict1 a b,p=>.Dict [some (pE a (kid p 0))] [pE b (kid p 1)] p.pos
 | .callP _ a,p=>.Call (.Name (nmOf (kid p 0)) (kid p 0).pos) [pE a (kid p 1)] [] p.pos
 | .cap _,p=>.Name (nmOf p) p.pos
 | .comp elt _ it ifs,p=>.ListComp (pE elt (kid p 0)) [⟨.Name (nmOf (kid p 1)) (kid p 1).pos,pI it (kid p 2),pEs ifs ((kids p).drop 3),0⟩] (scOf p) p.pos
noncomputable def pEs:Exs→List Expr→List Expr
 | .nil,_=>[]
 | .cons e es,ps=>pE e (ps.headD default) :: pEs es ps.tail
noncomputable def pO:Exo→Expr→Option Expr
 | .none,_=>none
 | .some e,p=>some (pE e p)
noncomputable def pI:It→Expr→Expr
 | .val e,p=>pE e p
 | .range1 a,p=>.Call (.Name (Str.ofString "range") (kid p 0).pos) [pE a (kid p 1)] [] p.pos
 | .enum a,p=>.Call (.Name (Str.ofString "enumerate") (kid p 0).pos) [pE a (kid p 1)] [] p.pos
 | .range2 a b,p=>.Call (.Name (Str.ofString "range") (kid p 0).pos) [pE a (kid p 1),pE b (kid p 2)] [] p.pos
 | .zip a b,p=>.Call (.Name (Str.ofString "zip") (kid p 0).pos) [pE a (kid p 1),pE b (kid p 2)] [] p.pos
end
noncomputable def Zd2 (e:Ex):Bool:=e.ctorIdx == 8
noncomputable def ZdA (e:Ex):Bool:=e.ctorIdx == 9
noncomputable def isC (e:Ex):Bool:=e.ctorIdx == 23
noncomputable def Zd3 (p:Expr):Bool:=!(p.ctorIdx == 16)
mutual
noncomputable def okE:Gm→Ex→Expr→Bool
 | _,.none,_=>true
 | _,.bool _,_=>true
 | _,.int _,_=>true
 | _,.str x,_=>PyData.strOk x && decide (x.length ≤ sizeLine)
 | g,.loc i,p=>g.lv (nmOf p) i
 | g,.fz i,p=>g.lv (nmOf p) i
 | g,.bin _ a b,p=>okE g a (kid p 0) && okE g b (kid p 1)
 | g,.cmp _ a b,p=>okE g a (kid p 0) && okE g b (kid p 1)
 | g,.band a b,p=>okE g a (kid p 0) && (if flat p then Zd2 b && okE g b (Z5l .And p) else okE g b (kid p 1))
 | g,.bor a b,p=>okE g a (kid p 0) && (if flat p then ZdA b && okE g b (Z5l .Or p) else okE g b (kid p 1))
 | g,.not a,p=>okE g a (kid p 0)
 | _,.neg _,_=>true
 | g,.ite c a b,p=>okE g c (kid p 0) && (okE g a (kid p 1) && okE g b (kid p 2))
 | g,.tup es,p=>okEs g es (kids p)
 | g,.list es,p=>okEs g es (kids p)
 | g,.listM es,p=>okEs g es (kids p)
 | g,.sub a i,p=>okE g a (kid p 0) && okE g i (kid p 1)
 | g,.slice a lo hi,p=>okE g a (kid p 0) && (okO g lo (kid (kid p 1) 0) && okO g hi (kid (kid p 1) 1))
 | g,.isin a t,p=>(g.gl (Str.ofString "isinstance") && g.gl (Str.ofString (tyN t))) && okE g a (kid p 1)
 | g,.bi f a,p=>g.gl (Str.ofString (Z8y f)) && okE g a (kid p 1)
 | g,.me _ a b,p=>((kid p 0).pos.endLine == p.pos.line && Zd3 (pE a (kid (kid p 0) 0))) && (okE g a (kid (kid p 0) 0) && okE g b (kid p 1))
 | g,.call f es,p=>(Z23 f && g.gl f) && okEs g es (kids p).tail
 | _,.dictM,_=>true
 | _,.dictK,_=>true
 | g,.chain a _ b _ d,p=>okE g a (kid p 0) && (okE g b (kid p 1) && okE g d (kid p 2))
 | g,.dict1 a b,p=>okE g a (kid p 0) && okE g b (kid p 1)
 | g,.callP i a,p=>g.lv (nmOf (kid p 0)) i && okE g a (kid p 1)
 | g,.cap i,p=>decide (g.cps.lookup (nmOf p) = some i) && Z11 (nmOf p) && !(nmOf p == ("__classdict__":Str))
 | g,.comp elt k it ifs,p=>(Z8w g (scOf p) (nmOf (kid p 1)) k && okI g it (kid p 2)) && (okE (g.comp (scOf p) (nmOf (kid p 1)) k) elt (kid p 0) && okEs (g.comp (scOf p) (nmOf (kid p 1)) k) ifs ((kids p).drop 3))
noncomputable def okEs:Gm→Exs→List Expr→Bool
 | _,.nil,_=>true
 | g,.cons e es,ps=>okE g e (ps.headD default) && okEs g es ps.tail
noncomputable def okO:Gm→Exo→Expr→Bool
 | _,.none,_=>true
 | g,.some e,p=>okE g e p
noncomputable def okI:Gm→It→Expr→Bool
 | g,.val e,p=>okE g e p
 | g,.range1 a,p=>g.gl (Str.ofString "range") && okE g a (kid p 1)
 | _,.enum _,_=>false
 | _,.zip _ _,_=>false
 | g,.range2 a b,p=>g.gl (Str.ofString "range") && (okE g a (kid p 1) && okE g b (kid p 2))
end
noncomputable def okZ (g:Gm) (it:It) (p:Expr):Bool:=match it with
 | .enum a=>g.gl (Str.ofString "enumerate") && okE g a (kid p 1)
 | .zip a b=>g.gl (Str.ofString "zip") && (okE g a (kid p 1) && okE g b (kid p 2))
 | _=>false
noncomputable def pT:List Nat→List Expr→List Expr
 | [],_=>[]
 | _ :: is,ps=>.Name (nmOf (ps.headD default)) (ps.headD default).pos :: pT is ps.tail
noncomputable def okT' (g:Gm):List Nat→List Expr→Bool
 | [],_=>true
 | i :: is,ps=>g.lv (nmOf (ps.headD default)) i && okT' g is ps.tail
structure SInfo where
 kids:List Expr
 blk:List Stmt
 els:List Stmt
noncomputable def ZbW (p:Stmt):SInfo:=Stmt.casesOn (motive_2:=fun _=>SInfo) p (fun _ _ _ _ _ _ _ _ _ _=>⟨[],[],[]⟩) (fun _ _ _ _ _ _ _ _ _ _=>⟨[],[],[]⟩) (fun _ _ _ _ _ _ _ _ _ _ _=>⟨[],[],[]⟩) (fun v _=>⟨[v.getD default],[],[]⟩) (fun _ _=>⟨[],[],[]⟩) (fun ts v _=>⟨v :: ts,[],[]⟩) (fun _ _ _ _ _ _ _=>⟨[],[],[]⟩) (fun _ _ _ _=>⟨[],[],[]⟩) (fun _ _ _ _ _=>⟨[],[],[]⟩) (fun t it b _ _=>⟨[t,it],b,[]⟩)
 (fun _ _ _ _ _=>⟨[],[],[]⟩) (fun t b _ _=>⟨[t],b,[]⟩) (fun t a b _=>⟨[t],a,b⟩) (fun _ _ _=>⟨[],[],[]⟩) (fun _ _ _=>⟨[],[],[]⟩) (fun _ _ _=>⟨[],[],[]⟩) (fun _ _ _=>⟨[],[],[]⟩) (fun _ _ _ _ _=>⟨[],[],[]⟩) (fun _ _ _ _ _=>⟨[],[],[]⟩) (fun _ _ _=>⟨[],[],[]⟩) (fun _ _=>⟨[],[],[]⟩) (fun _ _ _ _=>⟨[],[],[]⟩) (fun _ _=>⟨[],[],[]⟩) (fun _ _=>⟨[],[],[]⟩) (fun v _=>⟨[v],[],[]⟩) (fun _=>⟨[],[],[]⟩) (fun _=>⟨[],[],[]⟩) (fun _=>⟨[],[],[]⟩)
noncomputable def skid (p:Stmt) (i:Nat):Expr:=((ZbW p).kids)[i]?.getD default
noncomputable def blk (p:Stmt):List Stmt:=(ZbW p).blk
noncomputable def els (p:Stmt):List Stmt:=(ZbW p).els
mutual
noncomputable def pS:Sm→Stmt→Stmt
 | .asg _ e,p=>.Assign [.Name (nmOf (skid p 1)) (skid p 1).pos] (pE e (skid p 0)) p.pos
 | .asgT is e,p=>.Assign [.Tuple (pT is (kids (skid p 1))) (kOf (skid p 1)) (skid p 1).pos] (pE e (skid p 0)) p.pos
 | .expr e,p=>.Expr (pE e (skid p 0)) p.pos
 | .ret e,p=>.Return (some (pE e (skid p 0))) p.pos
 | .ifte c t f,p=>.If (pE c (skid p 0)) (pSs t (blk p)) (pSs f (els p)) p.pos
 | .for1 _ it b,p=>.For (.Name (nmOf (skid p 0)) (skid p 0).pos) (pI it (skid p 1)) (pSs b (blk p)) [] p.pos
 | .forT is it b,p=>.For (.Tuple (pT is (kids (skid p 0))) (kOf (skid p 0)) (skid p 0).pos) (pI it (skid p 1)) (pSs b (blk p)) [] p.pos
 | .while c b,p=>.While (pE c (skid p 0)) (pSs b (blk p)) [] p.pos
 | .brk,p=>.Break p.pos
 | .stk,p=>p
 | .asgI a i e,p=>.Assign [.Subscript (pE a (kid (skid p 1) 0)) (pE i (kid (skid p 1) 1)) (skid p 1).pos] (pE e (skid p 0)) p.pos
noncomputable def pSs:Sms→List Stmt→List Stmt
 | .nil,_=>[]
 | .cons s ss,ps=>pS s (ps.headD default) :: pSs ss ps.tail
end
mutual
noncomputable def okS (g:Gm):Sm→Stmt→Bool
 | .asg i e,p=>g.lv (nmOf (skid p 1)) i && okE g e (skid p 0)
 | .asgT is e,p=>okT' g is (kids (skid p 1)) && ((pE e (skid p 0)).ctorIdx == 16 || (pE e (skid p 0)).ctorIdx == 23 || (pE e (skid p 0)).ctorIdx == 21) && okE g e (skid p 0)
 | .expr e,p=>!isC e && okE g e (skid p 0)
 | .ret e,p=>okE g e (skid p 0)
 | .ifte c t f,p=>okE g c (skid p 0) && (okSs g t (blk p) && okSs g f (els p))
 | .for1 i it b,p=>g.lv (nmOf (skid p 0)) i && (okI g it (skid p 1) && okSs g b (blk p))
 | .forT is it b,p=>okT' g is (kids (skid p 0)) && (okZ g it (skid p 1) && okSs g b (blk p))
 | .while c b,p=>okE g c (skid p 0) && okSs g b (blk p)
 | .brk,_=>true
 | .stk,_=>true
 | .asgI a i e,p=>(!isC e && okE g e (skid p 0)) && (okE g a (kid (skid p 1) 0) && okE g i (kid (skid p 1) 1))
noncomputable def okSs (g:Gm):Sms→List Stmt→Bool
 | .nil,_=>true
 | .cons s ss,ps=>okS g s (ps.headD default) && okSs g ss ps.tail
end
noncomputable def Z2G (n:Nat):Bool:=!(n == 22 || n == 7 || n == 26 || n == 9 || n == 10)
theorem Z1J (e:Ex):∀ p,Z2G (pE e p).ctorIdx = true :=
 Ex.casesOn (motive_1:=fun e=>∀ p,Z2G (pE e p).ctorIdx = true) e (fun _=>rfl) (fun _ _=>rfl) (fun _ _=>rfl) (fun _ _=>rfl) (fun _ _=>rfl) (fun _ _=>rfl) (fun _ _ _ _=>rfl) (fun _ _ _ _=>rfl) (fun _ _ _=>rfl) (fun _ _ _=>rfl) (fun _ _=>rfl) (fun _ _=>rfl) (fun _ _ _ _=>rfl) (fun _ _=>rfl) (fun _ _=>rfl) (fun _ _=>rfl) (fun _ _ _=>rfl) (fun _ _ _ _=>rfl) (fun _ _ _=>rfl) (fun _ _ _=>rfl) (fun _ _ _ _=>rfl) (fun _ _ _=>rfl) (fun _=>rfl) (fun _ _ _ _ _=>rfl) (fun _=>rfl) (fun _ _ _ _ _ _=>rfl) (fun _ _ _=>rfl) (fun _ _ _=>rfl) (fun _ _=>rfl)
theorem Zd4 (e:Ex):∀ p,(isC e || !((pE e p).ctorIdx == 8)) = true :=
 Ex.casesOn (motive_1:=fun e=>∀ p,(isC e || !((pE e p).ctorIdx == 8)) = true) e (fun _=>rfl) (fun _ _=>rfl) (fun _ _=>rfl) (fun _ _=>rfl) (fun _ _=>rfl) (fun _ _=>rfl) (fun _ _ _ _=>rfl) (fun _ _ _ _=>rfl) (fun _ _ _=>rfl) (fun _ _ _=>rfl) (fun _ _=>rfl) (fun _ _=>rfl) (fun _ _ _ _=>rfl) (fun _ _=>rfl) (fun _ _=>rfl) (fun _ _=>rfl) (fun _ _ _=>rfl) (fun _ _ _ _=>rfl) (fun _ _ _=>rfl) (fun _ _ _=>rfl) (fun _ _ _ _=>rfl) (fun _ _ _=>rfl) (fun _=>rfl) (fun _ _ _ _ _=>rfl) (fun _=>rfl) (fun _ _ _ _ _ _=>rfl) (fun _ _ _=>rfl) (fun _ _ _=>rfl) (fun _ _=>rfl)
theorem and2 {a b:Bool} (h:(a && b) = true):a = true∧b = true:=Bool.and_eq_true_iff.mp h
end Mine
namespace Mine
open PySem PySem.Calls PyProof.Rows
structure Gd (base:Heap) (mg mb:Str→Option Value):Prop where
 g:base.Ns mainGlobals mg
 b:base.Ns builtinsNs mb
 blt:∀ x:Str,x ≠ "__name__"→mb x = bootBuiltins x
 free:∀ x ∈ (["isinstance","len","int","bool","list","tuple","str","range","enumerate","zip","set","sorted","min","max"]:List String),mg (Str.ofString x) = none
structure Nm (c:Cx) (g:Gm):Prop where
 sc:c.env.scope = g.sc
 kind:g.sc.kind = .function
 glob:c.env.globals = mainGlobals
 blt:c.env.builtins = builtinsNs
 var:∀ x i,g.vm.lookup x = some i→(g.sc.names.lookup x = some .local∧c.sl i = some (.d c.env.locals x)) ∨ (g.sc.names.lookup x = some .cell∧∃ a,c.env.cells.lookup x = some a∧c.sl i = some (.c a))
 apart:∀ i j s,c.sl i = some s→c.sl j = some s→i = j
 dom:∀ i s,c.sl i = some s→i ∈ g.used
 cells:∀ x,g.sc.names.lookup x = some .cell→∃ a,c.env.cells.lookup x = some a
noncomputable def Cx.bare (c:Cx):Cx:={ c with sl:=fun _=>none }
structure AOk (n:Nat) (A:Around):Prop where
 hh:A.handled = none
 depth:A.depth + n + 110 ≤ recursionLimit
 units:A.units + 4 * n + 200 ≤ cLine
 frames:∃ l,A.frames = some l
noncomputable def Does (n:Nat) (prog:Program) (w:World) (base:Heap) (f:Value) (args:List V) (σ:List O) (r:V) (st':St):Prop :=
 ∀ (c:Cx) μ (s:Shared) vs,c.prog = prog→c.w = w→c.base = base→AOk n c.A→Inv c.bare ⟨[],σ⟩ μ s.heap→RepVs (Tr σ μ) μ s.heap vs args →
  wpAny (model c.prog c.w) c.A (call f vs) (fun v s'=>∃ μ',RepV (Tr st'.σ μ') μ' s'.heap v r∧Inv c.bare ⟨[],st'.σ⟩ μ' s'.heap∧Stp c.bare σ μ s.heap st'.σ μ' s'.heap∧Same s s') (fun _ _=>False) s
noncomputable def Zd5 (n:Nat) (prog:Program) (w:World) (base:Heap) (mg:Str→Option Value) (F:Fn):Prop :=
 ∀ f args σ r st',F f args σ = .ok r st'→Z23 f = true→∃ a o fd,mg f = some (.ref a)∧base.get? a = some o∧o.data = .func fd∧Does n prog w base (.ref a) args σ r st'
structure FnOk (n:Nat) (prog:Program) (w:World) (base:Heap) (mg:Str→Option Value) (F:Fn):Prop where
 fn:Zd5 n prog w base mg F
 lam:∀ a x σ r st',F Z0F [.raw a,x] σ = .ok r st'→∃ o fd,base.get? a = some o∧o.data = .func fd∧Does n prog w base (.ref a) [x] σ r st'
structure Wo where
 n:Nat
 mg:Str→Option Value
 mb:Str→Option Value
 F:Fn
noncomputable def ZdB (F:Fn) (c:Cx) (x:Str) (k:Nat):Prop:=∃ a v y,c.env.kindOf x = some .free∧c.env.cells.lookup x = some a∧c.base.IsCell a (some v)∧RepV (fun _=>False) [] c.base v y∧∀ σ,F Z1a [.int k] σ = .ok y ⟨[],σ⟩
structure Good (W:Wo) (c:Cx) (g:Gm):Prop where
 ok:CxOk c
 gd:Gd c.base W.mg W.mb
 nm:Nm c g
 a:AOk W.n c.A
 gs:∀ x i,g.gs.lookup x = some i→∃ t,W.mg x = some (.int i t)
 fn:FnOk W.n c.prog c.w c.base W.mg W.F
 cap:∀ x k,g.cps.lookup x = some k→ZdB W.F c x k
theorem Z07 {c:Cx} {b:Addr}:¬ Own c.bare b:=fun ⟨_,_,h,_⟩=>by cases h
theorem Inv.bare {c:Cx} {st:St} {μ:List Addr} {h:Heap} (I:Inv c st μ h):Inv c.bare ⟨[],st.σ⟩ μ h where
 vars:=fun i x q=>by simp at q
 slots:=fun i s q=>by cases q
 objs:=I.objs
 len:=I.len
 nd:=I.nd
 lt:=I.lt
 base:=I.base
 baseS:=fun b q=>(Z07 q).elim
 baseM:=I.baseM
 sep:=fun b q=>(Z07 q).elim
 kd:=I.kd
theorem Z1c {c:Cx} {st:St} {μ:List Addr} {h:Heap} (I:Inv c st μ h) {b:Addr} (q:Own c b):∃ o,h.get? b = some o:=by
 refine El.x2_2 q fun i s hs q0z=>?_
 obtain rfl:=q0z
 refine El.x1_2 ((I.slots i s hs).get) fun o ho _=>?_
 exact ⟨o,ho⟩
theorem Inv.back {c:Cx} {st:St} {μ μ':List Addr} {σ':List O} {h h':Heap} (I:Inv c st μ h) (I':Inv c.bare ⟨[],σ'⟩ μ' h') (S:Stp c.bare st.σ μ h σ' μ' h') :
  Inv c ⟨st.ρ,σ'⟩ μ' h'∧Stp c st.σ μ h σ' μ' h':=by
 have S':Stp c st.σ μ h σ' μ' h':=⟨S.size,fun b o e _ hT=>S.keep b o e Z07 hT,S.pre,S.tr,S.new,S.pv,S.pk⟩
 have kp:∀ b,Own c b→∀ o,h.get? b = some o→h'.get? b = some o:=fun b q o e=>S.keep b o e Z07 fun t=>I.sep b q t.mem
 refine ⟨⟨fun i x q=>?_,fun i s q=>(I.slots i s q).keeps (kp _ ⟨i,s,q,rfl⟩),I'.objs,I'.len,I'.nd,I'.lt,I'.base,I.baseS,I'.baseM,fun b q m=>?_,I'.kd⟩,S'⟩
 ·refine El.x2_3 (I.vars i x q) fun s v h1 h2 h3=>?_
  exact ⟨s,v,h1,h2.keeps (kp _ ⟨i,s,h1,rfl⟩),h3.step (st':=⟨st.ρ,σ'⟩) I S'⟩
 ·rcases S.new b m with k | k
  ·exact I.sep b q k
  ·refine El.x1_1 (Z1c I q) fun o ho=>?_
   exact Nat.lt_irrefl _ (Nat.lt_of_lt_of_le (Heap.lt_size ho) k)
noncomputable def EOk (W:Wo) (e:Ex):Prop:=∀ (g:Gm) (p:Expr) (c:Cx) (st:St) (μ:List Addr) (s:Shared),okE g e p = true→Good W c g→Inv c st μ s.heap→Sim c (eval (pE e p) c.env) (evE W.F e st) rV st.σ μ s
noncomputable def EsOk (W:Wo) (es:Exs):Prop:=∀ (g:Gm) (ps:List Expr) (c:Cx) (st:St) (μ:List Addr) (s:Shared) (pos:Pos),okEs g es ps = true→Good W c g→Inv c st μ s.heap→Sim c (spliced (backTo pos (starEach (pEs es ps) c.env))) (evEs W.F es st) rVs st.σ μ s
noncomputable def Z17 (x:Expr):Prop:=∀ (rest:List Expr) (env:Env),starEach (x :: rest) env = (false,eval x env) :: starEach rest env
theorem ZbX {x:Expr}:Z2G x.ctorIdx = true→Z17 x :=
 Expr.casesOn (motive_1:=fun x=>Z2G x.ctorIdx = true→Z17 x) x (fun _ _ _ _ _ _=>rfl) (fun _ _ _ _ _ _=>rfl) (fun _ _ _ _ _ _ _=>rfl) (fun _ _ _ _ _ _=>rfl) (fun _ _ _ _ _ _ _=>rfl) (fun _ _ _ _ _ _ _=>rfl) (fun _ _ _ _ _ _=>rfl) (fun _ _ _ _ _ _=>rfl) (fun _ _ _ _ _ _ _=>rfl) (fun _ _ _ _ _ _ _=>rfl) (fun _ _ _ _ _ _ _ _=>rfl) (fun _ _ _ _ _ _ _=>rfl) (fun _ _ _ _ _=>rfl) (fun _ _ _ _ _=>rfl) (fun _ _ _ _ _=>rfl) (fun _ _ _ _ _ _ _=>rfl) (fun _ _ _ _ _ _ _=>rfl) (fun _ _ _ _ _ _ _=>rfl) (fun _ _ _ _ _=>rfl) (fun _ _ _ _ _ _=>rfl) (fun _ _ _ _ _ _=>rfl) (fun _ _ _ _ _ _=>rfl) (fun _ _ h=>absurd h Bool.false_ne_true) (fun _ _ _ _ _=>rfl) (fun _ _ _ _ _=>rfl) (fun _ _ _ _ _ _=>rfl) (fun _ _ _ _ _ _ _=>rfl)
theorem Zd6 {x:Expr}:Z2G x.ctorIdx = true→∀ (env:Env) (y:Value),foldedSetIterable x env y = pure y:=by
 cases x <;> first | exact fun _ _ _=>rfl | exact fun h=>absurd h Bool.false_ne_true
theorem Z4D {x:Expr} {op:CmpOp}:Z2G x.ctorIdx = true→behindInMarks op x = false:=by
 cases x <;> first | exact fun _=>rfl | exact fun h=>absurd h Bool.false_ne_true
theorem Za2 {x:Expr}:Z2G x.ctorIdx = true→Z0W x = true:=by
 cases x <;> first | exact fun _=>rfl | exact fun h=>absurd h Bool.false_ne_true
theorem Z0c (e:Ex) (p:Expr):Z17 (pE e p):=ZbX (Z1J e p)
section
variable {W:Wo}
theorem Sim.two {δ γ:Type} {a b:Ex} {c:Cx} {g:Gm} {p q:Expr} {st:St} {μ:List Addr} {s:Shared} {f:Value→Value→Sem γ} {k:V→V→St→R δ} {rel:St→List Addr→Heap→γ→δ→Prop} (ha:EOk W a) (hb:EOk W b) (h1:okE g a p = true) (h2:okE g b q = true) (hg:Good W c g) (I:Inv c st μ s.heap)
  (h:∀ x y u v st μ (s:Shared),RepV (Tr st.σ μ) μ s.heap u x→RepV (Tr st.σ μ) μ s.heap v y→Inv c st μ s.heap→Sim c (f u v) (k x y st) rel st.σ μ s) :
  Sim c (eval (pE a p) c.env >>= fun u=>PySem.holding [u] (eval (pE b q) c.env) >>= fun v=>f u v) ((evE W.F a st).bind fun x st=>(evE W.F b st).bind fun y st=>k x y st) rel st.σ μ s :=
 Sim.bind (ha g p c st μ s h1 hg I) fun x st₁ u μ₁ s₁ _ rx I₁ _=>Sim.bind (Sim.holding (hb g q c st₁ μ₁ s₁ h2 hg I₁)) fun y st₂ v μ₂ s₂ _ ry I₂ S₂=>h x y u v st₂ μ₂ s₂ (RepV.step I₁ S₂ rx) ry I₂
theorem Sim.one {δ γ:Type} {a:Ex} {c:Cx} {g:Gm} {p:Expr} {st:St} {μ:List Addr} {s:Shared} {f:Value→Sem γ} {k:V→St→R δ} {rel:St→List Addr→Heap→γ→δ→Prop} (ha:EOk W a) (h1:okE g a p = true) (hg:Good W c g) (I:Inv c st μ s.heap)
  (h:∀ x u st μ (s:Shared),RepV (Tr st.σ μ) μ s.heap u x→Inv c st μ s.heap→Sim c (f u) (k x st) rel st.σ μ s) :
  Sim c (eval (pE a p) c.env >>= f) ((evE W.F a st).bind k) rel st.σ μ s :=
 Sim.bind (ha g p c st μ s h1 hg I) fun x st₁ u μ₁ s₁ _ rx I₁ _=>h x u st₁ μ₁ s₁ rx I₁
theorem Z4E:EOk W .none:=fun _ _ _ _ _ _ _ _ I=>Sim.leaf I (fun _ _ _=>⟨.refl,.refl,.none⟩)
theorem Z4F {b:Bool}:EOk W (.bool b):=fun _ _ _ _ _ _ _ _ I=>Sim.leaf I (fun _ _ _=>⟨.refl,.refl,.bool _⟩)
theorem Z5W {i:Int}:EOk W (.int i):=fun _ _ _ _ _ _ _ _ I=>Z0i I fun Q hq=>wpAny_Constant_int (hq _ _)
theorem Z5X {x:Str}:EOk W (.str x):=fun _ _ _ _ _ _ hk _ I=>Z22 I (and2 hk).1 (of_decide_eq_true (and2 hk).2) rfl fun Q hq=>wpAny_Constant_str (hq _ _)
theorem Z5Y {g:Gm} {x:Str} {i:Nat} (h:g.lv x i = true):g.vm.lookup x = some i∧(x == ("__debug__":Str)) = false:=by
 simpa [Gm.lv,Z11] using h
theorem Z4G {g:Gm} {x:Str} (h:g.gl x = true):g.sc.names.lookup x = some .globalImplicit∧(x == ("__debug__":Str)) = false:=by
 simpa [Gm.gl,Z11] using h
theorem Z2O {c:Cx} {g:Gm} {st:St} {μ:List Addr} {s:Shared} {x:Str} {i:Nat} {pos:Pos} {y:V} (N:Nm c g) (hl:g.lv x i = true) (I:Inv c st μ s.heap) (hv:st.ρ[i]? = some (some y)) :
  ∃ v,RepV (Tr st.σ μ) μ s.heap v y∧∀ (Q:Value→Shared→Prop) (E:Value→Shared→Prop),Q v s→wpAny (model c.prog c.w) c.A (eval (.Name x pos) c.env) Q E s:=by
 refine El.x0_2 (Z5Y hl) fun h1 h2=>?_
 refine El.x2_3 (I.vars i y hv) fun sl v g1 g2 g3=>?_
 refine ⟨v,g3,fun Q E hq=>wpAny_Name ?_ h2⟩
 have hk:c.env.scope.kind = .function:=by rw [N.sc]; exact N.kind
 rcases N.var x i h1 with ⟨k1,k2⟩ | ⟨k1,a,k2,k3⟩
 ·try clear g3; try clear v; try clear sl; try clear h2; try clear h1
  obtain rfl:=Option.some.inj (k2.symm.trans g1)
  refine El.x1_2 g2 fun m hm e=>?_
  exact wpAny_loadName_local hk (by unfold Env.kindOf; rw [N.sc]; exact k1) hm e hq
 ·try clear e; try clear hm; try clear m
  obtain rfl:=Option.some.inj (k3.symm.trans g1)
  exact wpAny_loadName_cell hk (by unfold Env.kindOf; rw [N.sc]; exact k1) k2 g2 hq
theorem Z5Z {i:Nat}:EOk W (.loc i):=fun g p c st μ s hk hg I=>by
 rw [Z4u]
 split
 ·rename_i y hv
  exact El.x1_2 (Z2O hg.nm hk I hv) fun v r h=>Z1v I r fun Q hq=>h _ _ (hq _)
 ·trivial
theorem Inv.freeze {c:Cx} {st:St} {μ:List Addr} {h:Heap} (I:Inv c st μ h) {i n:Nat} {xs:List V} (hv:st.ρ[i]? = some (some (.ref n))) (hn:st.σ[n]? = some (.lst xs)) :
  Inv c ⟨st.ρ.set i (some (.lst xs)),st.σ.set n .dead⟩ μ h∧Stp c st.σ μ h (st.σ.set n .dead) μ h ∧
   ∀ v,RepV (Tr st.σ μ) μ h v (.ref n)→RepV (Tr (st.σ.set n .dead) μ) μ h v (.lst xs):=by
 have sub:∀ b,Tr (st.σ.set n .dead) μ b→Tr st.σ μ b:=by
  intro b q8z
  refine El.x2_3 q8z fun k o e1 e2 e3=>?_
  by_cases hk:n = k
  ·try clear q8z
   subst hk
   have:n < st.σ.length:=(List.getElem?_eq_some_iff.mp hn).1
   have e4:O.dead = o:=by simpa [this] using e1
   subst e4; cases e2
  ·rw [List.getElem?_set_ne hk] at e1; exact ⟨k,o,e1,e2,e3⟩
 have S:Stp c st.σ μ h (st.σ.set n .dead) μ h:=⟨Nat.le_refl _,fun _ _ e _ _=>e,fun _ _ e=>e,fun b q=>.inl (sub b q),fun _ q=>.inl q,Z45 hn (by simp),fun _ _ _ _ _ e=>e⟩
 have mv:∀ {v:Value} {x:V},RepV (Tr st.σ μ) μ h v x→RepV (Tr (st.σ.set n .dead) μ) μ h v x:=fun r=>r.move (fun a o e _ hT=>⟨e,fun q=>hT (sub a q)⟩) fun _ _ q=>q
 have mvs:∀ {v:List Value} {x:List V},RepVs (Tr st.σ μ) μ h v x→RepVs (Tr (st.σ.set n .dead) μ) μ h v x:=fun r=>r.move (fun a o e _ hT=>⟨e,fun q=>hT (sub a q)⟩) fun _ _ q=>q
 have fr:∀ v,RepV (Tr st.σ μ) μ h v (.ref n)→RepV (Tr (st.σ.set n .dead) μ) μ h v (.lst xs):=by
  intro v r
  refine El.x1_2 r.refI fun a9 e9 ha=>?_
  try clear a9; try clear b; try clear sub
  subst e9
  refine El.x1_2 (I.objs n _ hn) fun a' ha' ro=>?_
  try clear a'; try clear e9
  obtain rfl:=Option.some.inj (ha.symm.trans ha')
  refine El.x2_3 ro.lst_inv fun vs nn ho hz r=>?_
  refine .lst ho rfl rfl hz ?_ (mvs r)
  intro q9z
  refine El.x2_3 q9z fun k o e1 e2 e3=>?_
  have:n = k:=(List.getElem?_inj (List.getElem?_eq_some_iff.mp ha).1 I.nd).mp (ha.trans e3.symm)
  try clear q9z; try clear hz; try clear nn; try clear vs; try clear ro; try clear ha'; try clear e3
  subst this
  have hlt:n < st.σ.length:=(List.getElem?_eq_some_iff.mp hn).1
  have e4:O.dead = o:=by simpa [hlt] using e1
  try clear e1
  subst e4; cases e2
 refine ⟨⟨fun j x q=>?_,I.slots,fun k o q=>?_,by simpa using I.len,I.nd,I.lt,I.base,I.baseS,I.baseM,I.sep,Z6B I.kd trivial⟩,S,fr⟩
 ·dsimp only at q ⊢
  by_cases hj:i = j
  ·try clear S; try clear e2
   subst hj
   have hlt:i < st.ρ.length:=(List.getElem?_eq_some_iff.mp hv).1
   have e4:V.lst xs = x:=by simpa [hlt] using q
   subst e4
   refine El.x2_3 (I.vars i _ hv) fun s v g1 g2 g3=>?_
   exact ⟨s,v,g1,g2,fr v g3⟩
  ·rw [List.getElem?_set_ne hj] at q
   refine El.x2_3 (I.vars j x q) fun s v g1 g2 g3=>?_
   exact ⟨s,v,g1,g2,mv g3⟩
 ·dsimp only at q ⊢
  by_cases hk:n = k
  ·try clear g3; try clear g2; try clear g1; try clear s; try clear x; try clear j; try clear v; try clear fr; try clear mv
   subst hk
   have hlt:n < st.σ.length:=(List.getElem?_eq_some_iff.mp hn).1
   have e4:O.dead = o:=by simpa [hlt] using q
   try clear hlt
   subst e4
   refine El.x1_2 (I.objs n _ hn) fun a ha _=>?_
   exact ⟨a,ha,.dead⟩
  ·rw [List.getElem?_set_ne hk] at q
   refine El.x1_2 (I.objs k o q) fun a ha r=>?_
   refine ⟨a,ha,?_⟩
   exact r.map (fun _ ho=>ho) fun _ _ r=>(mvs r)
theorem Z8z {i:Nat}:EOk W (.fz i):=fun g p c st μ s hk hg I=>by
 rw [Z86]
 split
 ·rename_i k hv
  split
  ·rename_i xs hn
   exact El.x1_2 (Z2O hg.nm hk I hv) fun v r h=>El.x0_3 (I.freeze hv hn) fun I' S fr=>h _ _ ⟨μ,fr v r,I',S,.refl⟩
  ·trivial
 ·rename_i xs hv
  exact El.x1_2 (Z2O hg.nm hk I hv) fun v r h=>Z1v I r fun Q hq=>h _ _ (hq _)
 ·trivial
theorem Z60 {op:Op} {a b:Ex} (ha:EOk W a) (hb:EOk W b):EOk W (.bin op a b):=fun g p c st μ s hk hg I=>
 Sim.of_eq (eval_BinOp ..) (Sim.two ha hb (and2 hk).1 (and2 hk).2 hg I fun x y u v st μ s rx ry I=>Sim.at (Sim.operate (ZbV hg.ok I rx ry op)))
theorem ZbY {op:Cm} {a b:Ex} (ha:EOk W a) (hb:EOk W b):EOk W (.cmp op a b):=fun g p c st μ s hk hg I=>
 Sim.of_eq ((eval_Compare1 ..).trans (by rw [markedBehindIn_of_false (Z4D (Z1J b _))])) (Sim.two ha hb (and2 hk).1 (and2 hk).2 hg I fun x y u v st μ s rx ry I=>Sim.at (Sim.operate (Z37 hg.ok I rx ry op)))
end
theorem Z1n:bootBuiltins (Str.ofString "isinstance") = some (.builtin "isinstance"):=by decide +kernel
theorem Za3:bootBuiltins (Str.ofString "len") = some (.builtin "len"):=by decide +kernel
theorem Z6U:bootBuiltins (Str.ofString "int") = some (.type "int"):=by decide +kernel
theorem Z8A:bootBuiltins (Str.ofString "bool") = some (.type "bool"):=by decide +kernel
theorem Z5m:bootBuiltins (Str.ofString "list") = some (.type "list"):=by decide +kernel
theorem Z4d:bootBuiltins (Str.ofString "tuple") = some (.type "tuple"):=by decide +kernel
theorem Za4:bootBuiltins (Str.ofString "str") = some (.type "str"):=by decide +kernel
theorem Z4e:bootBuiltins (Str.ofString "range") = some (.type "range"):=by decide +kernel
theorem Z40:bootBuiltins (Str.ofString "enumerate") = some (.type "enumerate"):=by decide +kernel
theorem Za5:bootBuiltins (Str.ofString "zip") = some (.type "zip"):=by decide +kernel
noncomputable def TOk (W:Wo) (e:Ex):Prop:=∀ (g:Gm) (p:Expr) (c:Cx) (st:St) (μ:List Addr) (s:Shared),okE g e p = true→Good W c g→Inv c st μ s.heap→Sim c (isTrue (pE e p) c.env (eval (pE e p) c.env)) (Z03 (evE W.F e st)) rEq st.σ μ s
noncomputable def IOk (W:Wo) (e:Ex):Prop:=EOk W e∧TOk W e
noncomputable def Z5n (py:Expr):Prop:=∀ env whole,isTrue py env whole = (do let v ← whole; standAt py.pos; holding [v] (truthy v))
noncomputable def ZbZ (n:Nat):Bool:=!(n == 3 || n == 0 || n == 5 || n == 15)
theorem Z00 {x:Expr}:ZbZ x.ctorIdx = true→Z5n x:=by
 cases x <;> first | exact fun _ _ _=>rfl | exact fun h=>absurd h Bool.false_ne_true
theorem R.bind_assoc {α β γ:Type} (m:R α) (f:α→St→R β) (g:β→St→R γ):(m.bind f).bind g = m.bind fun a st=>(f a st).bind g:=by cases m <;> rfl
theorem Sim.of_m {α β:Type} {c:Cx} {t:Sem α} {m m':R β} {rel:St→List Addr→Heap→α→β→Prop} {σ:List O} {μ:List Addr} {s:Shared} (e:m = m') (h:Sim c t m' rel σ μ s):Sim c t m rel σ μ s:=e ▸ h
theorem Sim.eq {α β γ:Type} {c:Cx} {t:Sem α} {f:α→Sem β} {m:R α} {g:α→St→R γ} {rel':St→List Addr→Heap→β→γ→Prop} {σ:List O} {μ:List Addr} {s:Shared} (h:Sim c t m rEq σ μ s)
  (hf:∀ b st₁ μ₁ (s₁:Shared),m = .ok b st₁→Inv c st₁ μ₁ s₁.heap→Stp c σ μ s.heap st₁.σ μ₁ s₁.heap→Sim c (f b) (g b st₁) rel' st₁.σ μ₁ s₁):Sim c (t >>= f) (m.bind g) rel' σ μ s :=
 Sim.bind h fun b st₁ a μ₁ s₁ e (r:a = b) I S=>r ▸ hf b st₁ μ₁ s₁ e I S
section
variable {W:Wo}
theorem TOk.plain {e:Ex} (h:EOk W e) (hp:∀ p,Z5n (pE e p)):IOk W e :=
 ⟨h,fun g p c st μ s hk hg I=>Sim.of_eq (hp p ..) (Sim.one h hk hg I fun _ _ _ _ _ rx I=>Sim.at (Sim.holding (Z0L I rx)))⟩
theorem Z4H {op:Cm} {a b:Ex} (ha:EOk W a) (hb:EOk W b):IOk W (.cmp op a b) :=
 ⟨ZbY ha hb,fun g p c st μ s hk hg I=>Sim.of_eq ((isTrue_Compare1 ..).trans (by rw [markedBehindIn_of_false (Z4D (Z1J b _))]))
  (Sim.of_m ((R.bind_assoc ..).trans (Z0H _ fun _ _=>R.bind_assoc ..)) (Sim.two ha hb (and2 hk).1 (and2 hk).2 hg I fun x y u v st μ s rx ry I=>
   Sim.at (Sim.bind (Sim.operate (Z37 hg.ok I rx ry op)) fun _ _ _ _ _ _ rq I _=>Sim.holding (Z0L I rq))))⟩
theorem Z3a {x:V} {st:St} {t:Bool} (h:x.truthy st.σ = some t):Z03 (.ok x st) = .ok t st:=by
 unfold Z03; rw [R.bind_ok,h]; rfl
theorem Sim.cond {α β:Type} {c:Cx} {t:Bool} {T1 T2:Sem α} {m1 m2:R β} {rel:St→List Addr→Heap→α→β→Prop} {σ:List O} {μ:List Addr} {s:Shared} (h1:t = true→Sim c T1 m1 rel σ μ s) (h2:t = false→Sim c T2 m2 rel σ μ s) :
  Sim c (if t = true then T1 else T2) (if t = true then m1 else m2) rel σ μ s:=by
 cases t with
 | true=>simpa using h1 rfl
 | false=>simpa using h2 rfl
theorem Z6V (op:BoolOp) {f:Bool} {A B B':Expr} {q:Pos} (hB:f = true→∃ y zs,B = .BoolOp op (y :: zs) q):∃ y zs,bop op f A B B' q = .BoolOp op (A :: y :: zs) q∧(∀ env,eval (.BoolOp op (y :: zs) q) env = eval (bif f then B else B') env)∧∀ env,allTrue op (y :: zs) env = isTrue (bif f then B else B') env (eval (bif f then B else B') env):=by
 cases f with
 | true=>
  refine El.x2_1 (hB rfl) fun y zs e=>?_
  subst e
  exact ⟨y,zs,rfl,fun _=>rfl,fun _=>rfl⟩
 | false=>
  refine ⟨B',[],rfl,fun _=>rfl,fun env=>?_⟩
  refine Eq.trans ?_ (bind_pure (isTrue B' env (eval B' env)))
  rw [arm_allTrue_cons]
  refine congrArg (fun k=>isTrue B' env (eval B' env) >>= k) (funext fun t=>?_)
  cases op <;> cases t <;> rfl
theorem Zb3 {g:Gm} {b:Ex} {f x:Bool} {r r':Expr} (h:(if f = true then x && okE g b r else okE g b r') = true):okE g b (bif f then r else r') = true∧(f = true→x = true):=by
 cases f with
 | true=>exact ⟨(and2 h).2,fun _=>(and2 h).1⟩
 | false=>exact ⟨h,fun e=>by cases e⟩
theorem Zb4 {b:Ex} {f:Bool} {r r':Expr}:(bif f then pE b r else pE b r') = pE b (bif f then r else r'):=by cases f <;> rfl
theorem Z61 {F:Fn} {a b:Ex} {st:St}:Z03 (evE F (.band a b) st) = (Z03 (evE F a st)).bind fun t st=>if t then Z03 (evE F b st) else .ok false st:=by
 refine Eq.trans (R.bind_assoc (evE F a st) _ _) (Eq.trans ?_ (R.bind_assoc (evE F a st) _ _).symm)
 refine Z0H _ fun x st=>?_
 cases h:x.truthy st.σ with
 | none=>rfl
 | some t=>
  cases t with
  | false=>exact Z3a h
  | true=>rfl
theorem Z7F {F:Fn} {a b:Ex} {st:St}:Z03 (evE F (.bor a b) st) = (Z03 (evE F a st)).bind fun t st=>if t then .ok true st else Z03 (evE F b st):=by
 refine Eq.trans (R.bind_assoc (evE F a st) _ _) (Eq.trans ?_ (R.bind_assoc (evE F a st) _ _).symm)
 refine Z0H _ fun x st=>?_
 cases h:x.truthy st.σ with
 | none=>rfl
 | some t=>
  cases t with
  | false=>rfl
  | true=>exact Z3a h
theorem Zc0 {α:Type} {o:Option α} {st st':St} {t:α} (h:R.lift o st = .ok t st'):st' = st:=by
 cases o <;> cases h; rfl
theorem Sim.tru {β γ:Type} {c:Cx} {st:St} {μ:List Addr} {s:Shared} {x:V} {u:Value} {f:Bool→Sem β} {g:Bool→St→R γ} {rel:St→List Addr→Heap→β→γ→Prop} (I:Inv c st μ s.heap) (rx:RepV (Tr st.σ μ) μ s.heap u x)
  (h:∀ t μ₁ (s₁:Shared),Inv c st μ₁ s₁.heap→RepV (Tr st.σ μ₁) μ₁ s₁.heap u x→Sim c (f t) (g t st) rel st.σ μ₁ s₁):Sim c (PySem.holding [u] (truthy u) >>= f) ((R.lift (x.truthy st.σ) st).bind g) rel st.σ μ s :=
 Sim.eq (Sim.holding (Z0L I rx)) fun t st₁ μ₁ s₁ e I₁ S₁=>by
  cases Zc0 e
  exact h t μ₁ s₁ I₁ (RepV.step I S₁ rx)
theorem Z4I {a b:Ex} (ha:IOk W a) (hb:IOk W b):IOk W (.band a b):=by
 have key:∀ {g p},okE g (.band a b) p = true→∃ r y zs,okE g a (kid p 0) = true∧okE g b r = true∧pE (.band a b) p = .BoolOp .And (pE a (kid p 0) :: y :: zs) p.pos∧(∀ env,eval (.BoolOp .And (y :: zs) p.pos) env = eval (pE b r) env)∧∀ env,allTrue .And (y :: zs) env = isTrue (pE b r) env (eval (pE b r) env):=fun {g p} hk=>by
  refine El.x0_2 (Zb3 (and2 hk).2) fun h2 h3=>?_
  refine El.x2_3 (Z6V .And (f:=flat p) (A:=pE a (kid p 0)) (B:=pE b (Z5l .And p)) (B':=pE b (kid p 1)) (q:=p.pos) fun e=>Ex.band.elim (motive_1:=fun b=>∃ y zs,pE b (Z5l .And p) = .BoolOp .And (y :: zs) p.pos) b (eq_of_beq (h3 e)) fun x y=>⟨_,_,rfl⟩) fun y zs e1 e2 e3=>?_
  rw [Zb4] at e2 e3
  exact ⟨_,y,zs,(and2 hk).1,h2,e1,e2,e3⟩
 refine ⟨fun g p c st μ s hk hg I=>El.x3_5 (key hk) fun r y zs h1 h2 e1 e2 _=>?_,fun g p c st μ s hk hg I=>El.x3_5 (key hk) fun r y zs h1 h2 e1 _ e3=>?_⟩
 ·refine Sim.of_eq (congrArg (fun x=>eval x c.env) e1) (Sim.one ha.1 h1 hg I fun x u st μ s rx I=>Sim.at (Sim.tru I rx fun t μ s I rx=>?_))
  cases t with
  | true=>exact Sim.of_eq (e2 c.env) (hb.1 g r c st μ s h2 hg I)
  | false=>exact Sim.pure I rx
 ·rw [e1]
  refine Sim.of_m Z61 (Sim.eq (ha.2 g _ c st μ s h1 hg I) fun t st₁ μ₁ s₁ _ I₁ S₁=>?_)
  cases t with
  | true=>exact Sim.of_eq (e3 c.env) (hb.2 g r c st₁ μ₁ s₁ h2 hg I₁)
  | false=>exact Sim.pure I₁ rfl
theorem Z62 {a b:Ex} (ha:IOk W a) (hb:IOk W b):IOk W (.bor a b):=by
 have key:∀ {g p},okE g (.bor a b) p = true→∃ r y zs,okE g a (kid p 0) = true∧okE g b r = true∧pE (.bor a b) p = .BoolOp .Or (pE a (kid p 0) :: y :: zs) p.pos∧(∀ env,eval (.BoolOp .Or (y :: zs) p.pos) env = eval (pE b r) env)∧∀ env,allTrue .Or (y :: zs) env = isTrue (pE b r) env (eval (pE b r) env):=fun {g p} hk=>by
  refine El.x0_2 (Zb3 (and2 hk).2) fun h2 h3=>?_
  refine El.x2_3 (Z6V .Or (f:=flat p) (A:=pE a (kid p 0)) (B:=pE b (Z5l .Or p)) (B':=pE b (kid p 1)) (q:=p.pos) fun e=>Ex.bor.elim (motive_1:=fun b=>∃ y zs,pE b (Z5l .Or p) = .BoolOp .Or (y :: zs) p.pos) b (eq_of_beq (h3 e)) fun x y=>⟨_,_,rfl⟩) fun y zs e1 e2 e3=>?_
  rw [Zb4] at e2 e3
  exact ⟨_,y,zs,(and2 hk).1,h2,e1,e2,e3⟩
 refine ⟨fun g p c st μ s hk hg I=>El.x3_5 (key hk) fun r y zs h1 h2 e1 e2 _=>?_,fun g p c st μ s hk hg I=>El.x3_5 (key hk) fun r y zs h1 h2 e1 _ e3=>?_⟩
 ·refine Sim.of_eq (congrArg (fun x=>eval x c.env) e1) (Sim.one ha.1 h1 hg I fun x u st μ s rx I=>Sim.at (Sim.tru I rx fun t μ s I rx=>?_))
  cases t with
  | true=>exact Sim.pure I rx
  | false=>exact Sim.of_eq (e2 c.env) (hb.1 g r c st μ s h2 hg I)
 ·rw [e1]
  refine Sim.of_m Z7F (Sim.eq (ha.2 g _ c st μ s h1 hg I) fun t st₁ μ₁ s₁ _ I₁ S₁=>?_)
  cases t with
  | true=>exact Sim.pure I₁ rfl
  | false=>exact Sim.of_eq (e3 c.env) (hb.2 g r c st₁ μ₁ s₁ h2 hg I₁)
theorem Z63 {a:Ex} (ha:IOk W a):IOk W (.not a) :=
 ⟨fun g p c st μ s hk hg I=>Sim.of_eq (arm_eval_UnaryOp ..) (Sim.of_m (R.bind_assoc (evE W.F a st) _ _) (Sim.one ha.1 hk hg I fun x u st μ s rx I=>Sim.at (Sim.holding
   (Sim.imp (T:=truthy u >>= fun b=>pure (Value.bool (!b))) (fun Q h=>by unfold unaryOp; exact wpAny_holding h) (Sim.eq (Z0L I rx) fun t st₁ μ₁ s₁ _ I₁ _=>Sim.pure I₁ (.bool _)))))),
  fun g p c st μ s hk hg I=>Sim.of_eq (arm_isTrue_UnaryOp ..) (Sim.of_m (R.bind_assoc (Z03 (evE W.F a st)) _ _) (Sim.eq (ha.2 g _ c st μ s hk hg I) fun t st₁ μ₁ s₁ _ I₁ _=>Sim.pure I₁ rfl))⟩
theorem Z64 {i:Int}:EOk W (.neg i):=fun g p c st μ s hk hg I=>
 Sim.of_eq (arm_eval_UnaryOp ..) (Z0i I fun Q hq=>wpAny_bind (wpAny_Constant_int (wpAny_bind (wpAny_standAt (wpAny_holding (P.neg_int (hq _ _)))))))
theorem Z65 {d a b:Ex} (hd:IOk W d) (ha:IOk W a) (hb:IOk W b):IOk W (.ite d a b) :=
 ⟨fun g p c st μ s hk hg I=>Sim.of_eq (arm_eval_IfExp ..) (Sim.eq (hd.2 g _ c st μ s (and2 hk).1 hg I) fun t st₁ μ₁ s₁ _ I₁ _=>
   Sim.cond (fun _=>ha.1 g _ c st₁ μ₁ s₁ (and2 (and2 hk).2).1 hg I₁) fun _=>hb.1 g _ c st₁ μ₁ s₁ (and2 (and2 hk).2).2 hg I₁),
  fun g p c st μ s hk hg I=>Sim.of_eq (arm_isTrue_IfExp ..) (Sim.of_m ((R.bind_assoc (Z03 (evE W.F d st)) _ _).trans (Z0H _ fun t st=>by cases t <;> rfl)) (Sim.eq (g:=fun t st=>if t = true then Z03 (evE W.F a st) else Z03 (evE W.F b st)) (hd.2 g _ c st μ s (and2 hk).1 hg I) fun t st₁ μ₁ s₁ _ I₁ _=>
   Sim.cond (fun _=>ha.2 g _ c st₁ μ₁ s₁ (and2 (and2 hk).2).1 hg I₁) fun _=>hb.2 g _ c st₁ μ₁ s₁ (and2 (and2 hk).2).2 hg I₁))⟩
theorem Z4J:EsOk W .nil:=fun _ _ _ _ _ _ _ _ _ I=>Sim.leaf I (wpAny_items_nil ⟨.refl,.refl,.nil⟩)
theorem Z2P {e:Ex} {es:Exs} (he:EOk W e) (hes:EsOk W es):EsOk W (.cons e es):=fun g ps c st μ s pos hk hg I=>by
 show Sim c (spliced (backTo pos (starEach (pE e (ps.headD default) :: pEs es ps.tail) c.env))) _ _ _ _ _
 rw [Z0c]
 exact Sim.bind (he g _ c st μ s (and2 hk).1 hg I) fun y st₁ v μ₁ s₁ _ rx I₁ S₁=>
  Sim.bind (t:=PySem.holding [v] (spliced (backTo pos (starEach (pEs es ps.tail) c.env)))) (f:=fun vs=>pure ([v]++vs)) (Sim.holding (hes g _ c st₁ μ₁ s₁ pos (and2 hk).2 hg I₁)) fun ys st₂ vs μ₂ s₂ _ rxs I₂ S₂=>Sim.pure I₂ (.cons (RepV.step I₁ S₂ rx) rxs)
theorem Sim.ite {α β:Type} {p:Prop} [Decidable p] {c:Cx} {t:Sem α} {m:R β} {rel:St→List Addr→Heap→α→β→Prop} {σ:List O} {μ:List Addr} {s:Shared} (h:p→Sim c t m rel σ μ s):Sim c t (if p then m else .stuck) rel σ μ s:=by
 by_cases q:p
 ·rw [if_pos q]; exact h q
 ·rw [if_neg q]; trivial
theorem Z66 {es:Exs} (h:EsOk W es):EOk W (.tup es):=fun g p c st μ s hk hg I=>
 Sim.of_eq (arm_eval_Tuple ..) (Sim.at (Sim.bind (h g _ c st μ s _ hk hg I) fun xs st₁ vs μ₁ s₁ _ rx I₁ S₁=>Sim.ite fun hz=>by
  have hz:vs.length ≤ sizeLine:=by rw [RepVs.length rx]; exact hz
  have hz':vs.toArray.size ≤ sizeLine:=by rw [List.size_toArray]; exact hz
  exact Sim.leaf I₁ (wpAny_newObj_type ⟨.push _,.refl,Z2E I₁ rx hz⟩ hz')))
theorem Z4K {es:Exs} (h:EsOk W es):EOk W (.list es):=fun g p c st μ s hk hg I=>
 Sim.of_eq (arm_eval_List ..) (Sim.at (Sim.bind (h g _ c st μ s _ hk hg I) fun xs st₁ vs μ₁ s₁ _ rx I₁ S₁=>Sim.ite fun hz=>by
  have hz:vs.length ≤ sizeLine:=by rw [RepVs.length rx]; exact hz
  have hz':vs.toArray.size ≤ sizeLine:=by rw [List.size_toArray]; exact hz
  exact Sim.leaf I₁ (wpAny_newObj_type ⟨.push _,.refl,Z1b I₁ rx hz⟩ hz')))
theorem Inv.track {c:Cx} {st:St} {μ:List Addr} {h:Heap} (I:Inv c st μ h) {o:Obj} {ob:O} (hf:o.isFreed = false) (hl:ob.live = true) (hk:Hk c.w ob) (hr:∀ T,(∀ b,T b→Tr st.σ μ b ∨ b = h.objs.size)→RepO T (μ++[h.objs.size]) (h.push o) h.objs.size ob) :
  Inv c ⟨st.ρ,st.σ++[ob]⟩ (μ++[h.objs.size]) (h.push o)∧Stp c st.σ μ h (st.σ++[ob]) (μ++[h.objs.size]) (h.push o):=by
 have hnm:h.objs.size ∉ μ:=fun q=>Nat.lt_irrefl _ (I.lt _ q)
 have tr:∀ b,Tr (st.σ++[ob]) (μ++[h.objs.size]) b→Tr st.σ μ b ∨ b = h.objs.size:=by
  intro b q16z
  refine El.x2_3 q16z fun k o' e1 e2 e3=>?_
  by_cases hk:k < st.σ.length
  ·rw [List.getElem?_append_left hk] at e1
   rw [List.getElem?_append_left (by rw [I.len]; exact hk)] at e3
   exact .inl ⟨k,o',e1,e2,e3⟩
  ·rw [List.getElem?_append_right (by rw [I.len]; lia)] at e3
   have hlt:k < (st.σ++[ob]).length:=(List.getElem?_eq_some_iff.mp e1).1
   simp only [List.length_append,List.length_singleton] at hlt
   have:k - μ.length = 0:=by rw [I.len]; lia
   rw [this] at e3
   exact .inr (by simpa using e3.symm)
 have S:Stp c st.σ μ h (st.σ++[ob]) (μ++[h.objs.size]) (h.push o) :=
  ⟨(Ext.push o).1,fun b o' e _ _=>(Ext.push o).2 b o' e,fun k a e=>by rw [List.getElem?_append_left (List.getElem?_eq_some_iff.mp e).1]; exact e,
   fun b q=>(tr b q).imp id fun e=>Nat.le_of_eq e.symm,fun a q=>(List.mem_append.mp q).imp id fun e=>Nat.le_of_eq (List.mem_singleton.mp e).symm,fun k e=>by rw [List.getElem?_append_left (List.getElem?_eq_some_iff.mp e).1]; exact e,fun _ a o' _ _ q=>(Ext.push o).2 a o' q⟩
 have I':=I.ext (Ext.push o)
 refine ⟨⟨fun i x q=>?_,I'.slots,fun k o' q=>?_,by simp [I.len],?_,fun a q=>?_,I'.base,I.baseS,fun a q=>?_,fun b q m=>?_,ZaY I.kd hk⟩,S⟩
 ·refine El.x2_3 (I.vars i x q) fun sl v g1 g2 g3=>?_
  exact ⟨sl,v,g1,g2.keeps fun o' e=>(Ext.push o).2 _ o' e,g3.step (st':=⟨st.ρ,st.σ++[ob]⟩) I S⟩
 ·dsimp only at q ⊢
  by_cases hk:k < st.σ.length
  ·rw [List.getElem?_append_left hk] at q
   refine El.x1_2 (I.objs k o' q) fun a ha r=>?_
   refine ⟨a,by rw [List.getElem?_append_left (by rw [I.len]; exact hk)]; exact ha,?_⟩
   exact r.map (fun _ ho=>((Ext.push o).2 _ _ ho)) fun _ _ r=>(RepVs.step (st':=⟨st.ρ,st.σ++[ob]⟩) I S r)
  ·have hlt:k < (st.σ++[ob]).length:=(List.getElem?_eq_some_iff.mp q).1
   simp only [List.length_append,List.length_singleton] at hlt
   have e0:k = st.σ.length:=by lia
   try clear r; try clear g3; try clear g2; try clear g1; try clear v; try clear sl; try clear x; try clear i; try clear S; try clear hlt; try clear e3; try clear e2
   subst e0
   have e4:ob = o':=by simpa using q
   try clear e0; try clear e1; try clear k; try clear q16z
   subst e4
   exact ⟨h.objs.size,by rw [← I.len]; simp,hr _ tr⟩
 ·refine List.nodup_append.mpr ⟨I.nd,by simp,?_⟩
  intro a ha b hb
  rw [List.mem_singleton.mp hb]
  exact fun e=>hnm (e ▸ ha)
 ·rw [Heap.size_push]
  rcases List.mem_append.mp q with q | q
  ·exact Nat.lt_succ_of_lt (I.lt a q)
  ·rw [List.mem_singleton.mp q]; exact Nat.lt_succ_self _
 ·rcases List.mem_append.mp q with q | q
  ·exact I.baseM a q
  ·rw [List.mem_singleton.mp q]
   cases hb:c.base.get? h.objs.size with
   | none=>rfl
   | some o'=>exact absurd (Heap.lt_size (I.base _ _ hb)) (Nat.lt_irrefl _)
 ·rcases List.mem_append.mp m with m | m
  ·exact I.sep b q m
  ·refine El.x1_1 (Z1c I q) fun o' ho'=>?_
   rw [List.mem_singleton.mp m] at ho'
   exact Nat.lt_irrefl _ (Heap.lt_size ho')
theorem Z3b {es:Exs} (h:EsOk W es):EOk W (.listM es):=fun g p c st μ s hk hg I=>
 Sim.of_eq (arm_eval_List ..) (Sim.at (Sim.bind (h g _ c st μ s _ hk hg I) fun xs st₁ vs μ₁ s₁ _ rx I₁ S₁=>Sim.ite fun hz=>by
  have hz':vs.toArray.size ≤ sizeLine:=by rw [List.size_toArray,RepVs.length rx]; exact hz
  refine El.x0_2 (I₁.track (o:={ cls:=.type "list",data:=.seq vs.toArray }) (ob:=.lst xs) rfl rfl trivial fun T hT=>.lst (Heap.get?_push_size _ rfl) hz' ?_) fun I₂ S₂=>?_
  ·exact RepVs.move (fun a o e _ hn=>⟨(Ext.push _).2 a o e,fun q=>(hT a q).elim hn fun e'=>Nat.lt_irrefl _ (e' ▸ Heap.lt_size e)⟩)
    (fun k a e=>by rw [List.getElem?_append_left (List.getElem?_eq_some_iff.mp e).1]; exact e) rx
  ·exact wpAny_newObj_type ⟨_,.ref (by rw [← I₁.len]; simp),I₂,S₂,.refl⟩ hz'))
theorem Z67 {a i:Ex} (ha:EOk W a) (hi:EOk W i):EOk W (.sub a i):=fun g p c st μ s hk hg I=>
 Sim.of_eq (eval_Subscript ..) (Sim.two ha hi (and2 hk).1 (and2 hk).2 hg I fun x y u v st μ s rx ry I=>Sim.at (ZbQ hg.ok (value:=pE a (kid p 0)) I rx ry (Za2 (Z1J i _))))
end
noncomputable def OOk (W:Wo) (e:Exo):Prop:=∀ (g:Gm) (p:Expr) (c:Cx) (st:St) (μ:List Addr) (s:Shared),okO g e p = true→Good W c g→Inv c st μ s.heap→Sim c (valueOrNone (evalOpt (pO e p) c.env)) (evO W.F e st) rV st.σ μ s
section
variable {W:Wo}
theorem Z3c:OOk W .none:=fun _ _ _ _ _ _ _ _ I=>Sim.pure I .none
theorem Z3d {e:Ex} (h:EOk W e):OOk W (.some e):=h
theorem Z3e {a:Ex} {lo hi:Exo} (ha:EOk W a) (hlo:OOk W lo) (hhi:OOk W hi):EOk W (.slice a lo hi):=fun g p c st μ s hk hg I=>by
 refine Sim.of_eq (eval_Subscript ..) (Sim.bind (ha g _ c st μ s (and2 hk).1 hg I) fun x st₁ ov μ₁ s₁ _ rx I₁ S₁=>?_)
 have hs:Sim c (eval (.Slice (pO lo (kid (kid p 1) 0)) (pO hi (kid (kid p 1) 1)) none (kid p 1).pos) c.env) ((evO W.F lo st₁).bind fun yl st=>(evO W.F hi st).bind fun yu st=>.ok (yl,yu) st)
   (fun st μ h i q=>∃ vl vu sa,i = .ref sa∧h.IsSliceOf sa vl vu .none∧RepV (Tr st.σ μ) μ h vl q.1∧RepV (Tr st.σ μ) μ h vu q.2) st₁.σ μ₁ s₁ :=
  Sim.of_eq (arm_eval_Slice ..) (Sim.bind (hlo g _ c st₁ μ₁ s₁ (and2 (and2 hk).2).1 hg I₁) fun yl st₂ vl μ₂ s₂ _ rl I₂ S₂=>Sim.bind (Sim.holding (hhi g _ c st₂ μ₂ s₂ (and2 (and2 hk).2).2 hg I₂)) fun yu st₃ vu μ₃ s₃ _ ru I₃ S₃=>
   Sim.leaf I₃ (wpAny_bind (wpAny_holding (wpAny_pure (wpAny_newObj_type ⟨.push _,.refl,vl,vu,_,rfl,Heap.IsSliceOf.new ..,(RepV.step I₂ S₃ rl).ext (.push _),ru.ext (.push _)⟩)))))
 refine Sim.of_m (m':=((evO W.F lo st₁).bind fun yl st=>(evO W.F hi st).bind fun yu st=>R.ok (yl,yu) st).bind fun q st=>R.lift (Z0o st.σ x q.1 q.2) st) ((R.bind_assoc (evO W.F lo st₁) _ _).trans (Z0H _ fun yl st=>R.bind_assoc (evO W.F hi st) (fun yu st=>R.ok (yl,yu) st) (fun q st=>R.lift (Z0o st.σ x q.1 q.2) st))).symm ?_
 refine Sim.bind (Sim.holding hs) fun q st₂ i μ₂ s₂ _ rq I₂ S₂=>Sim.at ?_
 refine El.x3_4 rq fun vl vu sa e hsl rl ru=>?_
 subst e
 exact Z8q I₂ (RepV.step I₁ S₂ rx) rl ru hsl
theorem Z2H {c:Cx} {g:Gm} {st:St} {μ:List Addr} {s:Shared} {x:String} {pos:Pos} {v:Value} (hg:Good W c g) (I:Inv c st μ s.heap) (hx:g.gl (Str.ofString x) = true)
  (hm:x ∈ (["isinstance","len","int","bool","list","tuple","str","range","enumerate","zip","set","sorted","min","max"]:List String)) (hv:bootBuiltins (Str.ofString x) = some v)
  {Q:Value→Shared→Prop} {E:Value→Shared→Prop} (h:Q v s):wpAny (model c.prog c.w) c.A (eval (.Name (Str.ofString x) pos) c.env) Q E s:=by
 refine El.x0_2 (Z4G hx) fun h1 h2=>?_
 have hk:c.env.scope.kind = .function:=by rw [hg.nm.sc]; exact hg.nm.kind
 refine Name_function_global hk (by unfold Env.kindOf; rw [hg.nm.sc]; exact h1) (loadGlobal_builtin (mg:=W.mg) (mb:=W.mb) ?_ (hg.gd.free x hm) ?_ ?_ h) h2
 ·rw [hg.nm.glob]; exact hg.gd.g.keeps I.base
 ·rw [hg.nm.blt]; exact hg.gd.b.keeps I.base
 ·rw [hg.gd.blt _ ?_]; exact hv
  simp only [List.mem_cons,List.not_mem_nil,or_false] at hm
  try clear hk; try clear h2; try clear h1
  rcases hm with rfl | rfl | rfl | rfl | rfl | rfl | rfl | rfl | rfl | rfl | rfl | rfl | rfl | rfl <;> decide
theorem Z1d {c:Cx} {g:Gm} {st:St} {μ:List Addr} {s:Shared} {x:Str} {pos:Pos} {v:Value} (hg:Good W c g) (I:Inv c st μ s.heap) (hx:g.gl x = true) (hv:W.mg x = some v)
  {Q:Value→Shared→Prop} {E:Value→Shared→Prop} (h:Q v s):wpAny (model c.prog c.w) c.A (eval (.Name x pos) c.env) Q E s:=by
 refine El.x0_2 (Z4G hx) fun h1 h2=>?_
 have hk:c.env.scope.kind = .function:=by rw [hg.nm.sc]; exact hg.nm.kind
 exact Name_function_global hk (by unfold Env.kindOf; rw [hg.nm.sc]; exact h1) (loadGlobal_global (mg:=W.mg) (by rw [hg.nm.glob]; exact hg.gd.g.keeps I.base) hv h) h2
theorem Z1e (x:Str) (p:Pos):Z17 (.Name x p):=fun _ _=>rfl
theorem Z4L {pos:Pos} {env:Env}:∀ {xs:List Expr},(∀ x ∈ xs,Z17 x)→(backTo pos (starEach xs env)).any (·.1) = false
 | [],_=>rfl
 | x :: xs,h=>by
  rw [h x (List.mem_cons_self ..)]
  show (false || (backTo pos (starEach xs env)).any (·.1)) = false
  rw [Z4L fun y hy=>h y (List.mem_cons_of_mem _ hy)]; rfl
theorem Z18 {M:Model} {A:Around} {E:Value→Shared→Prop} {s:Shared} {pos:Pos} {env:Env} {f:Value} {x:Expr} {xs:List Expr} (hx:Z17 x) {Q:Args→Shared→Prop}
  (h:wpAny M A (spliced (backTo pos (starEach (x :: xs) env))) (fun vs s'=>Q ⟨vs,[]⟩ s') E s):wpAny M A (evalArgs f true (backTo pos (starEach (x :: xs) env)) []) Q E s:=by
 rw [hx] at h ⊢
 exact evalArgs_plain h
theorem Z8B {M:Model} {A:Around} {E:Value→Shared→Prop} {s:Shared} {pos:Pos} {env:Env} {id:String} {first:List Value} {x:Expr} {xs:List Expr} (hx:∀ y ∈ x :: xs,Z17 y) {Q:Value→Shared→Prop}
  (h:wpAny M A (spliced (backTo pos (starEach (x :: xs) env))) (fun vs s₁=>wpAny M A (call (.builtin id) (first++vs)) Q E s₁) E s) :
  wpAny M A (callWith pos (.builtin id) first (backTo pos (starEach (x :: xs) env)) []) Q E s :=
 callWith_builtin (Z4L hx) (Z18 (hx x (List.mem_cons_self ..)) h)
theorem Zc1 {M:Model} {A:Around} {E:Value→Shared→Prop} {s:Shared} {pos:Pos} {env:Env} {T:String} {x:Expr} {xs:List Expr} (hx:∀ y ∈ x :: xs,Z17 y) {Q:Value→Shared→Prop}
  (h:wpAny M A (spliced (backTo pos (starEach (x :: xs) env))) (fun vs s₁=>wpAny M A (call (.type T) vs) Q E s₁) E s) :
  wpAny M A (callWith pos (.type T) [] (backTo pos (starEach (x :: xs) env)) []) Q E s :=
 PyProof.Rows.callWith_type (first:=[]) (Z4L hx) (Z18 (hx x (List.mem_cons_self ..)) h)
theorem Z1K {α β:Type} {c:Cx} {σ:List O} {μ:List Addr} {s:Shared} {pos:Pos} {x:Expr} {xs:List Expr} {m:R α} {k:α→St→R β} {rel:St→List Addr→Heap→Value→α→Prop} {rel':St→List Addr→Heap→List Value→β→Prop}
  (hx:Z17 x) (h:Sim c (eval x c.env) m rel σ μ s)
  (hk:∀ b st₁ v μ₁ s₁,m = .ok b st₁→rel st₁ μ₁ s₁.heap v b→Inv c st₁ μ₁ s₁.heap→Stp c σ μ s.heap st₁.σ μ₁ s₁.heap→Sim c (spliced (backTo pos (starEach xs c.env)) >>= fun vs=>pure (v :: vs)) (k b st₁) rel' st₁.σ μ₁ s₁) :
  Sim c (spliced (backTo pos (starEach (x :: xs) c.env))) (m.bind k) rel' σ μ s:=by
 rw [hx]
 show Sim c (do
  let v ← eval x c.env
  let here ← (pure [v]:Sem (List Value))
  return here++(← holding here (spliced (backTo pos (starEach xs c.env))))) _ _ _ _ _
 refine Sim.bind h fun b st₁ v μ₁ s₁ e r I₁ S₁=>?_
 have:=hk b st₁ v μ₁ s₁ e r I₁ S₁
 refine Sim.imp (fun Q q=>?_) this
 show wpAny _ _ (holding [v] (spliced (backTo pos (starEach xs c.env))) >>= fun vs=>pure ([v]++vs)) Q _ _
 exact fun Γ p hΓ=>by
  have:=q Γ p hΓ
  rw [Sem.wp_bind'] at this ⊢
  rw [Sem.wp_holding]
  exact this
theorem Z1o {y:Expr} {x:Expr} (h:Z17 x) (hy:y ∈ [x]):Z17 y:=List.mem_singleton.mp hy ▸ h
theorem Z6W {α:Type} (m:R α):m = m.bind fun y st=>.ok y st:=by cases m <;> rfl
theorem Z2Q {α β:Type} (m:R α) (k:α→St→R β):m.bind k = (m.bind fun y st=>.ok y st).bind k:=congrArg (fun m=>R.bind m k) (Z6W m)
theorem Z4M {β:Type} {c:Cx} {σ:List O} {μ:List Addr} {s:Shared} {pos:Pos} {x:Expr} {m:R β} {rel:St→List Addr→Heap→Value→β→Prop} (hx:Z17 x) (h:Sim c (eval x c.env) m rel σ μ s) :
  Sim c (spliced (backTo pos (starEach [x] c.env))) (m.bind fun y st=>.ok y st) (fun st μ h vs y=>∃ u,vs = [u]∧rel st μ h u y) σ μ s :=
 Z1K hx h fun y st₂ u μ₂ s₂ _ ry I₂ S₂=>Sim.leaf I₂ (wpAny_bind (wpAny_items_nil (wpAny_pure ⟨.refl,.refl,u,rfl,ry⟩)))
theorem Sim.name {β:Type} {c:Cx} {g:Gm} {st:St} {μ:List Addr} {s:Shared} {x:String} {pos:Pos} {v:Value} {f:Value→Sem Value} {m:R β} {rel:St→List Addr→Heap→Value→β→Prop} (hg:Good W c g) (I:Inv c st μ s.heap) (hx:g.gl (Str.ofString x) = true)
  (hm:x ∈ (["isinstance","len","int","bool","list","tuple","str","range","enumerate","zip","set","sorted","min","max"]:List String)) (hv:bootBuiltins (Str.ofString x) = some v) (h:Sim c (f v) m rel st.σ μ s):Sim c (eval (.Name (Str.ofString x) pos) c.env >>= f) m rel st.σ μ s :=
 Sim.imp (fun Q h=>wpAny_bind (Z2H hg I hx hm hv h)) h
theorem Z4N {a:Ex} {t:Ty} (ha:EOk W a):EOk W (.isin a t):=fun g p c st μ s hk hg I=>by
 have hty:bootBuiltins (Str.ofString (tyN t)) = some (.type (tyN t))∧tyN t ∈ (["isinstance","len","int","bool","list","tuple","str","range","enumerate","zip","set","sorted","min","max"]:List String):=by
  cases t
  ·exact ⟨Z6U,by decide⟩
  ·exact ⟨Z8A,by decide⟩
  ·exact ⟨Z5m,by decide⟩
  ·exact ⟨Z4d,by decide⟩
  ·exact ⟨Za4,by decide⟩
 refine Sim.of_eq (arm_eval_Call_Name' ..) (Sim.name hg I (and2 (and2 hk).1).1 (by decide) Z1n (Sim.of_m (Z2Q ..) ?_))
 refine Sim.via (rel:=fun st μ h vs y=>∃ u,vs = [u,.type (tyN t)]∧RepV (Tr st.σ μ) μ h u y) (f:=fun vs=>call (.builtin "isinstance") vs) (fun Q h=>Z8B (first:=[]) (fun y hy=>?_) h)
  (Z1K (Z0c a _) (ha g _ c st μ s (and2 hk).2 hg I) fun y st₂ u μ₂ s₂ _ ry I₂ S₂=>Sim.leaf I₂ (wpAny_bind (wpAny_items_cons (Z2H hg I₂ (and2 (and2 hk).1).2 hty.2 hty.1 (wpAny_items_nil (wpAny_pure ⟨.refl,.refl,u,rfl,ry⟩))))))
  fun y st₂ vs μ₂ s₂ _ hu I₂ S₂=>El.x1_2 hu fun u e ry=>e ▸ Z9Z I₂ ry t
 exact (List.mem_cons.mp hy).elim (fun e=>e ▸ Z0c a _) fun hy=>Z1o (Z1e _ _) hy
theorem Z5o {β δ:Type} {c:Cx} {g:Gm} {st:St} {μ:List Addr} {s:Shared} {x:Expr} {p pos:Pos} {fn:String} {fv:Value} {rel:St→List Addr→Heap→Value→β→Prop} {rel':St→List Addr→Heap→Value→δ→Prop} {m:R β} {k:β→St→R δ}
  (hfv:(∃ b,fv = .builtin b) ∨ ∃ T,fv = .type T) (hb:bootBuiltins (Str.ofString fn) = some fv) (hm:fn ∈ (["isinstance","len","int","bool","list","tuple","str","range","enumerate","zip","set","sorted","min","max"]:List String))
  (hg:Good W c g) (I:Inv c st μ s.heap) (h1:g.gl (Str.ofString fn) = true) (hx:Z17 x) (ha:Sim c (eval x c.env) m rel st.σ μ s)
  (hk:∀ b st₁ u μ₁ s₁,rel st₁ μ₁ s₁.heap u b→Inv c st₁ μ₁ s₁.heap→Sim c (call fv [u]) (k b st₁) rel' st₁.σ μ₁ s₁) :
  Sim c (eval (.Call (.Name (Str.ofString fn) p) [x] [] pos) c.env) (m.bind k) rel' st.σ μ s:=by
 refine Sim.of_eq (arm_eval_Call_Name' ..) (Sim.name hg I h1 hm hb (Sim.of_m (Z2Q ..) (Sim.via (f:=fun vs=>call fv vs) (fun Q h=>?_) (Z4M (pos:=pos) hx ha) fun y st₂ vs μ₂ s₂ _ hu I₂ S₂=>El.x1_2 hu fun u e ry=>e ▸ hk y st₂ u μ₂ s₂ ry I₂)))
 rcases hfv with ⟨b,rfl⟩ | ⟨T,rfl⟩
 ·exact Z8B (first:=[]) (fun y=>Z1o hx) h
 ·exact Zc1 (fun y=>Z1o hx) h
theorem Z5p {δ:Type} {a b:Ex} {c:Cx} {g:Gm} {st:St} {μ:List Addr} {s:Shared} {p pos:Pos} {q1 q2:Expr} {fn:String} {fv:Value} {rel':St→List Addr→Heap→Value→δ→Prop} {k:V→V→St→R δ}
  (hfv:(∃ b,fv = .builtin b) ∨ ∃ T,fv = .type T) (hb:bootBuiltins (Str.ofString fn) = some fv) (hm:fn ∈ (["isinstance","len","int","bool","list","tuple","str","range","enumerate","zip","set","sorted","min","max"]:List String))
  (hg:Good W c g) (I:Inv c st μ s.heap) (h1:g.gl (Str.ofString fn) = true) (ha:EOk W a) (hb':EOk W b) (k1:okE g a q1 = true) (k2:okE g b q2 = true)
  (hk:∀ x y st₁ u v μ₁ s₁,RepV (Tr st₁.σ μ₁) μ₁ s₁.heap u x→RepV (Tr st₁.σ μ₁) μ₁ s₁.heap v y→Inv c st₁ μ₁ s₁.heap→Stp c st.σ μ s.heap st₁.σ μ₁ s₁.heap→Sim c (call fv [u,v]) (k x y st₁) rel' st₁.σ μ₁ s₁) :
  Sim c (eval (.Call (.Name (Str.ofString fn) p) [pE a q1,pE b q2] [] pos) c.env) ((evE W.F a st).bind fun x st=>(evE W.F b st).bind fun y st=>k x y st) rel' st.σ μ s:=by
 refine Sim.of_eq (arm_eval_Call_Name' ..) (Sim.name hg I h1 hm hb ?_)
 refine Sim.of_m (m':=((evE W.F a st).bind fun x st=>(evE W.F b st).bind fun y st=>.ok (x,y) st).bind fun q st=>k q.1 q.2 st) ((R.bind_assoc (evE W.F a st) _ _).trans (Z0H _ fun x st=>R.bind_assoc (evE W.F b st) (fun y st=>R.ok (x,y) st) (fun q st=>k q.1 q.2 st))).symm ?_
 refine Sim.via (rel:=fun st μ h vs q=>∃ u v,vs = [u,v]∧RepV (Tr st.σ μ) μ h u q.1∧RepV (Tr st.σ μ) μ h v q.2) (f:=fun vs=>call fv vs) (fun Q h=>?_)
  (Z1K (pos:=pos) (xs:=[pE b q2]) (Z0c a _) (ha g _ c st μ s k1 hg I) fun x st₁ u μ₁ s₁ _ rx I₁ S₁=>?_) fun q st₂ vs μ₂ s₂ _ hu I₂ S₂=>El.x2_3 hu fun u v e ru rv=>e ▸ hk _ _ st₂ u v μ₂ s₂ ru rv I₂ S₂
 ·rcases hfv with ⟨b',rfl⟩ | ⟨T,rfl⟩
  ·exact Z8B (first:=[]) (fun z hz=>(List.mem_cons.mp hz).elim (fun e=>e ▸ Z0c a _) fun hz=>Z1o (Z0c b _) hz) h
  ·exact Zc1 (fun z hz=>(List.mem_cons.mp hz).elim (fun e=>e ▸ Z0c a _) fun hz=>Z1o (Z0c b _) hz) h
 ·refine Sim.of_m (m':=((evE W.F b st₁).bind fun y st=>.ok y st).bind fun y st=>.ok (x,y) st) (congrArg (fun m=>R.bind m _) (Z6W (evE W.F b st₁))) ?_
  exact Sim.bind (Z4M (pos:=pos) (Z0c b _) (hb' g _ c st₁ μ₁ s₁ k2 hg I₁)) fun y st₂ vs μ₂ s₂ _ hu I₂ S₂=>El.x1_2 hu fun v e ry=>Sim.pure I₂ ⟨u,v,by rw [e],RepV.step I₁ S₂ rx,ry⟩
theorem Za6 (f:Bi):bootBuiltins (Str.ofString (Z8y f)) = some (biV f):=by
 cases f
 ·exact Za3
 ·exact Z6U
 ·exact Z5m
 ·exact Z4d
theorem Z8C {a:Ex} {f:Bi} (ha:EOk W a):EOk W (.bi f a):=fun g p c st μ s hk hg I=>
 Z5o (by cases f <;> first | exact .inl ⟨_,rfl⟩ | exact .inr ⟨_,rfl⟩) (Za6 f) (by cases f <;> decide) hg I (and2 hk).1 (Z0c a _) (ha g _ c st μ s (and2 hk).2 hg I) fun x st₁ u μ₁ s₁ rx I₁=>Zd1 hg.ok I₁ rx f
theorem Z7G {o:Expr}:Zd3 o = true→∀ (name:Str) (env:Env) (whole:Sem Value),attributeBase o name env whole = whole:=by
 cases o <;> first | exact fun _ _ _ _=>rfl | exact fun h=>absurd h Bool.false_ne_true
theorem Za7 {b:Bool} {o:Expr} {env:Env} {apos pos:Pos} (h:(apos.endLine == pos.line) = true):methodCallPos true o env apos pos = pure pos:=by
 have h:=eq_of_beq h
 unfold methodCallPos; simp [h]
theorem Za8 {σ:List O} {k:Nat} (h:Z1W σ .append (.ref k) = true):∃ xs,σ[k]? = some (.lst xs):=by
 have h:(match σ[k]? with | some (.lst _)=>true | _=>false) = true:=h
 cases hk:σ[k]? with
 | none=>rw [hk] at h; cases h
 | some o=>rw [hk] at h; cases o <;> first | exact ⟨_,rfl⟩ | cases h
theorem Z8D {m:Me} {a b:Ex} (ha:EOk W a) (hb:EOk W b):EOk W (.me m a b):=fun g p c st μ s hk hg I=>by
 refine Sim.of_eq (arm_eval_Call ..) (Sim.of_eq (congrArg (fun t=>t >>= _) (Z7G (and2 (and2 hk).1).2 ..)) (Sim.one ha (and2 (and2 hk).2).1 hg I fun x u st₁ μ₁ s₁ rx I₁=>Sim.at (Sim.ite fun hr=>?_)))
 have meth:∀ {T id:String},PlainAttrs T→PySem.Slot T (Str.ofString (Z8x m)) id→typeOf (.builtin id) = pure (.type "method_descriptor")→s₁.TypeIs u T→(∀ a,u = .ref a→∃ ob,s₁.heap.get? a = some ob∧ob.dict = none)→id = meN m →
   Sim c (methodCall (pE a (kid (kid p 0) 0)) (Str.ofString (Z8x m)) (kid p 0).pos p.pos c.env u ([pE b (kid p 1)].length + ([]:List Keyword).length) (backTo p.pos (starEach [pE b (kid p 1)] c.env)) (backToKw p.pos (keywordEach [] c.env))) ((evE W.F b st₁).bind fun y st=>Z1C m x y st) rV st₁.σ μ₁ s₁:=by
  rintro T id pa slot hty hT hd rfl
  refine Sim.of_m (Z2Q ..) (Sim.via (f:=fun vs=>call (.builtin (meN m)) ([u]++vs)) (fun Q h=>?_) (Z4M (pos:=p.pos) (Z0c b _) (hb g _ c st₁ μ₁ s₁ (and2 (and2 hk).2).2 hg I₁)) fun y st₂ vs μ₂ s₂ _ hu I₂ S₂=>El.x1_2 hu fun v e ry=>e ▸ Zb2 I₂ (RepV.step I₁ S₂ rx) ry m)
  have hform:methodCallForm ([pE b (kid p 1)].length + ([]:List Keyword).length) (backTo p.pos (starEach [pE b (kid p 1)] c.env)) (backToKw p.pos (keywordEach [] c.env)) = true:=by rw [Z0c]; rfl
  unfold methodCall
  rw [hform]
  exact wpAny_bind (wpAny_holding (getMethod_builtin hT pa slot hty hd (wpAny_bind (wpAny_of_eq (Za7 (b:=true) (and2 (and2 hk).1).1) (Z8B (first:=[u]) (fun y=>Z1o (Z0c b _)) h)))))
 cases m with
 | append=>
  cases x with
  | ref k=>
   refine El.x1_1 (Za8 hr) fun xs hn=>?_
   refine El.x2_4 (I₁.ref_inv rx hn) fun a' vs e q hz r=>?_
   subst e
   refine El.x1_1 q fun k' ho=>?_
   exact meth PySem.F.plainAttrs_list PySem.F.slot_list_append PySem.F.type_list_append ⟨_,ho,rfl⟩ (fun a h=>by cases h; exact ⟨_,ho,rfl⟩) rfl
  | _=>exact absurd hr Bool.false_ne_true
 | join=>
  cases x with
  | str l=>exact El.x2_4 (RepV.str_inv rx) fun z t e _ _ _=>by subst e; exact meth PySem.F.plainAttrs_str PySem.F.slot_str_join PySem.F.type_str_join (typeIs_str _ _ _) (fun a h=>nomatch h) rfl
  | _=>exact absurd hr Bool.false_ne_true
 | index=>
  cases x with
  | str l=>exact El.x2_4 (RepV.str_inv rx) fun z t e _ _ _=>by subst e; exact meth PySem.F.plainAttrs_str PySem.F.slot_str_index PySem.F.type_str_index (typeIs_str _ _ _) (fun a h=>nomatch h) rfl
  | _=>exact absurd hr Bool.false_ne_true
theorem Z4O {es:Exs} (he:EsOk W es) {g:Gm} {ps:List Expr} {c:Cx} {st:St} {μ:List Addr} {s:Shared} {pos:Pos} {f:Value} (hk:okEs g es ps = true) (hg:Good W c g) (I:Inv c st μ s.heap) :
  Sim c (evalArgs f true (backTo pos (starEach (pEs es ps) c.env)) []) (evEs W.F es st) (fun st μ h (x:Args) ys=>x.kw = []∧RepVs (Tr st.σ μ) μ h x.pos ys) st.σ μ s:=by
 cases es with
 | nil=>exact Sim.leaf I (PySem.evalArgs_none ⟨.refl,.refl,rfl,.nil⟩)
 | cons e es=>
  have:=he g ps c st μ s pos hk hg I
  refine Sim.ok fun xs st₁ hE=>?_
  rw [hE] at this
  exact wpAny_mono (Z18 (f:=f) (Q:=fun x s'=>∃ μ',RepVs (Tr st₁.σ μ') μ' s'.heap x.pos xs∧x.kw = []∧Inv c st₁ μ' s'.heap∧Stp c st.σ μ s.heap st₁.σ μ' s'.heap∧Same s s') (Z0c e _)
   (wpAny_mono this (fun vs s' q8=>El.x1_4 q8 fun μ' g1 g2 g3 g4=>⟨μ',g1,rfl,g2,g3,g4⟩) fun _ _ e=>e)) (fun x s' q8=>El.x1_5 q8 fun μ' g1 g2 g3 g4 g5=>⟨μ',⟨g2,g1⟩,g3,g4,g5⟩) fun _ _ e=>e
theorem Z4P {f:Str} {es:Exs} (he:EsOk W es):EOk W (.call f es):=fun g p c st μ s hk hg I=>by
 refine Sim.of_eq (arm_eval_Call_Name' ..) (Sim.ok fun r stF h=>?_)
 refine El.x2_2 (R.bind_inv h) fun xs st₁ hE h=>?_
 have h:Z0q (W.F f xs st₁.σ) st₁.ρ = .ok r stF:=h
 cases hC:W.F f xs st₁.σ with
 | stuck=>rw [hC] at h; cases h
 | exc _ _=>rw [hC] at h; cases h
 | ok r' st₂=>
  rw [hC] at h
  cases h
  refine El.x3_4 (hg.fn.fn f xs st₁.σ r st₂ hC (and2 (and2 hk).1).1) fun fa fo fd k1 k2 k3 hcall=>?_
  refine wpAny_bind (Z1d hg I (and2 (and2 hk).1).2 k1 ?_)
  have hargs:=Z4O (f:=.ref fa) (pos:=p.pos) he (and2 hk).2 hg I
  rw [hE] at hargs
  refine callWith_function_kw (o:=fo) (fd:=fd) (wpAny_mono hargs (fun x s₁ ⟨μ₁,⟨g1,g2⟩,g3,g4,g5⟩=>⟨⟨g3.base _ _ k2,k3⟩,?_⟩) fun _ _ e=>e.elim)
  rw [g1,List.nil_append]
  refine wpAny_mono (hcall c μ₁ s₁ x.pos rfl rfl rfl hg.a g3.bare g2) (fun v s₂ q8=>El.x1_4 q8 fun μ₂ q1 q2 q3 q4=>?_) fun _ _ e=>e
  exact El.x0_2 (g3.back q2 q3) fun I₂ S₂=>⟨μ₂,q1,I₂,g4.trans S₂,g5.trans q4⟩
end
section
variable {W:Wo}
theorem Zd7 {o1 o2:Cm} {a d:Ex} {p q:Expr} {env:Env}:markedEach [cmM o1,cmM o2] [pE a p,pE d q] (evalEach [pE a p,pE d q] env) = [eval (pE a p) env,eval (pE d q) env]:=by
 show [eval (pE a p) env,markedBehindIn (cmM o2) (pE d q) (eval (pE d q) env)] = _
 rw [markedBehindIn_of_false (Z4D (Z1J d _))]
theorem Z5q {γ δ:Type} {c:Cx} {g:Gm} {b d:Ex} {o1:Cm} {p q:Expr} {pos:Pos} {x:V} {u:Value} {st₁:St} {μ₁:List Addr} {s₁:Shared} {T:Value→Value→Sem γ} {T0:Value→Sem γ} {k:V→V→St→R δ} {k0:δ} {rel:St→List Addr→Heap→γ→δ→Prop} (hb:EOk W b) (hd:EOk W d) (h2:okE g b p = true) (h3:okE g d q = true) (hg:Good W c g) (rx:RepV (Tr st₁.σ μ₁) μ₁ s₁.heap u x) (I₁:Inv c st₁ μ₁ s₁.heap)
  (hT:∀ y z v w st μ (s:Shared),RepV (Tr st.σ μ) μ s.heap v y→RepV (Tr st.σ μ) μ s.heap w z→Inv c st μ s.heap→Sim c (T v w) (k y z st) rel st.σ μ s) (h0:∀ st μ (s:Shared),Inv c st μ s.heap→Sim c (T0 (.bool false)) (.ok k0 st) rel st.σ μ s) :
  Sim c (do
   let rv ← holding [u] (eval (pE b p) c.env)
   standAt pos
   let t ← holding [u,rv] (compareOp (cmM o1) u rv)
   release [u,rv] [t]
   if ← holding [t,rv] (truthy t) then (do
    let rv₂ ← holding [rv] (eval (pE d q) c.env)
    T rv rv₂) else T0 t) ((evE W.F b st₁).bind fun y st=>(R.lift (Z0n st.σ o1 x y) st).bind fun t st=>if t then (evE W.F d st).bind fun z st=>k y z st else .ok k0 st) rel st₁.σ μ₁ s₁:=by
 refine Sim.bind (Sim.holding (hb _ _ c st₁ μ₁ s₁ h2 hg I₁)) fun y st₂ v μ₂ s₂ _ ry I₂ S₂=>?_
 refine Sim.at ?_
 have hc:=Z37 hg.ok I₂ (RepV.step I₁ S₂ rx) ry o1
 cases hq:Z0n st₂.σ o1 x y with
 | none=>trivial
 | some t=>
  rw [hq] at hc
  refine Sim.bind (m:=.ok (V.bool t) st₂) (g:=fun (z:V) st=>(if t then (evE W.F d st).bind fun z st=>k y z st else .ok k0 st)) (Sim.holding (vs:=[u,v]) hc) fun z st₃ tv μ₃ s₃ he rz I₃ S₃=>?_
  cases he
  obtain rfl:=RepV.bool_inv rz
  refine Sim.release (Sim.bind (m:=.ok t st₂) (g:=fun t st=>if t then (evE W.F d st).bind fun z st=>k y z st else .ok k0 st) (Sim.holding (Z0L I₃ (.bool t))) fun t' st₄ b' μ₄ s₄ he rb I₄ S₄=>?_)
  cases he
  cases rb
  cases t with
  | false=>exact h0 _ _ _ I₄
  | true=>
   refine Sim.bind (Sim.holding (hd _ _ c st₂ μ₄ s₄ h3 hg I₄)) fun z st₅ v₂ μ₅ s₅ _ rz' I₅ S₅=>?_
   exact hT _ _ _ _ _ _ _ (RepV.step I₄ S₅ (RepV.step I₃ S₄ (RepV.step I₂ S₃ ry))) rz' I₅
theorem Z68 {F:Fn} {a b d:Ex} {o1 o2:Cm} (st:St):Z03 (evE F (.chain a o1 b o2 d) st) = (evE F a st).bind fun x st=>(evE F b st).bind fun y st=>(R.lift (Z0n st.σ o1 x y) st).bind fun t st=>
  if t then (evE F d st).bind fun z st=>(R.lift ((Z0n st.σ o2 y z).map V.bool) st).bind (fun v st=>R.lift (v.truthy st.σ) st) else R.ok false st:=by
 rw [Z89]
 unfold Z03
 rw [R.bind_assoc]
 refine Z0H _ fun x st=>?_
 rw [R.bind_assoc]
 refine Z0H _ fun y st=>?_
 rw [R.bind_assoc]
 refine Z0H _ fun t st=>?_
 cases t with
 | false=>rfl
 | true=>exact R.bind_assoc ..
theorem Z3f {a b d:Ex} {o1 o2:Cm} (ha:EOk W a) (hb:EOk W b) (hd:EOk W d):IOk W (.chain a o1 b o2 d):=by
 refine ⟨fun g p c st μ s hk hg I=>?_,fun g p c st μ s hk hg I=>?_⟩
 ·refine Sim.of_eq (arm_eval_Compare ..) ?_
  rw [Zd7]
  refine Sim.bind (ha _ _ c st μ s (and2 hk).1 hg I) fun x st₁ u μ₁ s₁ _ rx I₁ S₁=>?_
  exact Z5q (pos:=p.pos) (T:=fun v w=>do standAt p.pos; operate [v,w] (compareOp (cmM o2) v w)) (T0:=fun t=>pure t) (k:=fun y z st=>R.lift ((Z0n st.σ o2 y z).map V.bool) st) hb hd (and2 (and2 hk).2).1 (and2 (and2 hk).2).2 hg rx I₁
   (fun y z v w st μ s ry rz I=>Sim.at (Sim.operate (Z37 hg.ok I ry rz o2))) fun st μ s I=>Sim.pure I (.bool false)
 ·refine Sim.of_m (Z68 st) (Sim.of_eq (arm_isTrue_Compare ..) ?_)
  rw [Zd7]
  refine Sim.bind (ha _ _ c st μ s (and2 hk).1 hg I) fun x st₁ u μ₁ s₁ _ rx I₁ S₁=>?_
  exact Z5q (pos:=p.pos) (T:=fun v w=>do standAt p.pos; let c₂ ← operate [v,w] (compareOp (cmM o2) v w); holding [c₂] (truthy c₂)) (T0:=fun _=>pure false) (k:=fun y z st=>(R.lift ((Z0n st.σ o2 y z).map V.bool) st).bind (fun v st=>R.lift (v.truthy st.σ) st)) hb hd (and2 (and2 hk).2).1 (and2 (and2 hk).2).2 hg rx I₁
   (fun y z v w st μ s ry rz I=>Sim.at (Sim.bind (Sim.operate (Z37 hg.ok I ry rz o2)) fun q st₆ v₃ μ₆ s₆ _ rq I₆ S₆=>Sim.holding (Z0L I₆ rq))) fun st μ s I=>Sim.pure I rfl
theorem Z69 {i:Nat}:EOk W (.cap i):=fun g p c st μ s hk hg I=>by
 obtain ⟨hk,h3⟩:=and2 hk
 obtain ⟨h1,h2⟩:=and2 hk
 obtain ⟨a,v,y,e1,e2,⟨o,ho,hd⟩,r,hF⟩:=hg.cap (nmOf p) i (of_decide_eq_true h1)
 have hs:evE W.F (.cap i) st = .ok y st:=by rw [ZbC,hF]; rfl
 rw [hs]
 have hr:RepV (Tr st.σ μ) μ s.heap v y:=r.move (fun b ob e _ _=>⟨I.base b ob e,fun t=>by rw [I.baseM b t.mem] at e; cases e⟩) fun n a e=>by cases e
 exact Z1v I hr fun Q hq=>wpAny_Name (wpAny_loadName_free (by rw [hg.nm.sc]; exact hg.nm.kind) e1 e2 ⟨o,I.base _ _ ho,hd⟩ (hq _) (by simpa using h3)) (by simpa [Z11] using h2)
theorem Z3g {i:Nat} {a:Ex} (ha:EOk W a):EOk W (.callP i a):=fun g p c st μ s hk hg I=>by
 refine Sim.of_eq (arm_eval_Call_Name' ..) (Sim.ok fun r stF h=>?_)
 rw [Z5d] at h
 refine Z06 h fun v hv h=>Z06 h fun u hu h=>El.x2_2 (R.bind_inv h) fun x st₁ hE h5=>?_
 have h4:Z0q (W.F Z0F [.raw u,x] st₁.σ) st₁.ρ = .ok r stF:=h5
 obtain rfl:=ZcS hu
 have hv':st.ρ[i]? = some (some (.raw u)):=by
  cases q:st.ρ[i]? with
  | none=>rw [q] at hv; cases hv
  | some w=>rw [q] at hv; rw [show w = some (V.raw u) from hv]
 cases hC:W.F Z0F [.raw u,x] st₁.σ with
 | stuck=>rw [hC] at h4; cases h4
 | exc _ _=>rw [hC] at h4; cases h4
 | ok r' st₂=>
  rw [hC] at h4
  cases h4
  obtain ⟨fo,fd,k2,k3,hcall⟩:=hg.fn.lam u x st₁.σ r st₂ hC
  obtain ⟨fv,rf,hl⟩:=Z2O (pos:=(kid p 0).pos) hg.nm (and2 hk).1 I hv'
  have ef:fv = .ref u:=rf.out
  subst ef
  refine wpAny_bind (hl _ _ ?_)
  have hargs:=Z4O (es:=.cons a .nil) (ps:=[kid p 1]) (f:=.ref u) (pos:=p.pos) (Z2P ha Z4J) (show (okE g a (kid p 1) && true) = true by rw [(and2 hk).2]; rfl) hg I
  have hEs:evEs W.F (.cons a .nil) st = .ok [x] st₁:=by rw [Z5e,hE]; rfl
  rw [hEs] at hargs
  refine callWith_function_kw (o:=fo) (fd:=fd) (wpAny_mono hargs (fun x s₁ ⟨μ₁,⟨g1,g2⟩,g3,g4,g5⟩=>⟨⟨g3.base _ _ k2,k3⟩,?_⟩) fun _ _ e=>e.elim)
  rw [g1,List.nil_append]
  refine wpAny_mono (hcall c μ₁ s₁ x.pos rfl rfl rfl hg.a g3.bare g2) (fun v s₂ q8=>El.x1_4 q8 fun μ₂ q1 q2 q3 q4=>?_) fun _ _ e=>e
  exact El.x0_2 (g3.back q2 q3) fun I₂ S₂=>⟨μ₂,q1,I₂,g4.trans S₂,g5.trans q4⟩
end
noncomputable def rFl (st:St) (μ:List Addr) (h:Heap) (f:Flow) (x:Fl):Prop :=
 match f,x with
 | .next,.next=>True
 | .brk,.brk=>True
 | .cont,.cont=>True
 | .ret v,.ret y=>RepV (Tr st.σ μ) μ h v y
 | _,_=>False
noncomputable def rU {α:Type} (_:St) (_:List Addr) (_:Heap) (_:α) (_:Unit):Prop:=True
theorem Inv.store {c:Cx} {st:St} {μ:List Addr} {h h':Heap} (I:Inv c st μ h) {i:Nat} {s:Slot} {v:Value} {y:V} (ap:∀ i j s,c.sl i = some s→c.sl j = some s→i = j) (hs:c.sl i = some s)
  (hb:Heap.SameBut s.own h h') (hv:s.Holds h' v) (ho:∀ t:Slot,t ≠ s→t.own = s.own→(t.Ok h→t.Ok h')∧∀ u,t.Holds h u→t.Holds h' u) (r:RepV (Tr st.σ μ) μ h v y) :
  Inv c (setV st i y) μ h'∧Stp c st.σ μ h st.σ μ h':=by
 have own:Own c s.own:=⟨i,s,hs,rfl⟩
 have S:Stp c st.σ μ h st.σ μ h':=⟨Nat.le_of_eq hb.1.symm,fun b o e hO _=>(hb.2 b fun (k:b = s.own)=>hO (k ▸ own)).trans e,fun _ _ q=>q,fun _ q=>.inl q,fun _ q=>.inl q,fun _ q=>q,fun n a o _ e2 e3=>(hb.2 a fun (k:a = s.own)=>I.sep _ own (k ▸ List.mem_of_getElem? e2)).trans e3⟩
 have mv:∀ {v:Value} {x:V},RepV (Tr st.σ μ) μ h v x→RepV (Tr st.σ μ) μ h' v x:=fun r=>r.step (st':=st) I S
 have mvs:∀ {v:List Value} {x:List V},RepVs (Tr st.σ μ) μ h v x→RepVs (Tr st.σ μ) μ h' v x:=fun r=>r.step (st':=st) I S
 have okS:s.Ok h':=by
  cases s with
  | d D n=>obtain ⟨m,hm,_⟩:=hv; exact ⟨m,hm⟩
  | c a=>exact ⟨_,hv⟩
 refine ⟨⟨fun j x q=>?_,fun j t q=>?_,fun k o q=>?_,I.len,I.nd,fun a q=>by rw [hb.1]; exact I.lt a q,fun b o q=>?_,I.baseS,I.baseM,I.sep,I.kd⟩,S⟩
 ·simp only [setV] at q ⊢
  by_cases hj:i = j
  ·try clear hm; try clear m; try clear S
   subst hj
   have hlt:i < st.ρ.length:=by have:=(List.getElem?_eq_some_iff.mp q).1; simpa using this
   have e4:y = x:=by simpa [hlt] using q
   try clear hlt
   subst e4
   exact ⟨s,v,hs,hv,mv r⟩
  ·rw [List.getElem?_set_ne hj] at q
   refine El.x2_3 (I.vars j x q) fun t u g1 g2 g3=>?_
   have hts:t ≠ s:=fun e=>hj (ap i j s hs (e ▸ g1))
   refine ⟨t,u,g1,?_,mv g3⟩
   by_cases ho':t.own = s.own
   ·exact (ho t hts ho').2 u g2
   ·exact g2.keeps fun o e=>(hb.2 _ ho').trans e
 ·by_cases hts:t = s
  ·try clear g3; try clear g2; try clear g1; try clear u; try clear e4; try clear x; try clear mv
   subst hts; exact okS
  ·by_cases ho':t.own = s.own
   ·exact (ho t hts ho').1 (I.slots j t q)
   ·exact (I.slots j t q).keeps fun o e=>(hb.2 _ ho').trans e
 ·refine El.x1_2 (I.objs k o q) fun a ha ro=>?_
  have hne:a ≠ s.own:=fun e=>I.sep _ own (e ▸ List.mem_of_getElem? ha)
  refine ⟨a,ha,?_⟩
  exact ro.map (fun _ ho=>((hb.2 a hne).trans ho)) fun _ _ r=>(mvs r)
 ·refine (hb.2 b fun k=>?_).trans (I.base b o q)
  have:=I.baseS s.own own
  rw [k,this] at q; cases q
theorem Z0Q {c:Cx} {g:Gm} {st:St} {μ:List Addr} {s:Shared} {x:Str} {i:Nat} {v:Value} {y:V} (N:Nm c g) (hl:g.lv x i = true) (I:Inv c st μ s.heap) (r:RepV (Tr st.σ μ) μ s.heap v y) :
  Sim c (storeName c.env x v) (.ok () (setV st i y)) rU st.σ μ s:=by
 refine El.x0_2 (Z5Y hl) fun h1 h2=>?_
 have hk:c.env.scope.kind = .function:=by rw [N.sc]; exact N.kind
 rcases N.var x i h1 with ⟨k1,k2⟩ | ⟨k1,a,k2,k3⟩
 ·refine El.x1_1 (I.slots i _ k2) fun m hm=>?_
  refine wpAny_storeName_local (by unfold Env.kindOf; rw [N.sc]; exact k1) hm (fun h' hn hs=>?_) (by rw [hk]; rfl)
  have side:∀ t:Slot,t ≠ .d c.env.locals x→t.own = (Slot.d c.env.locals x).own→(t.Ok s.heap→t.Ok h')∧∀ u,t.Holds s.heap u→t.Holds h' u:=by
   intro t ht ho
   try clear h2; try clear h1
   cases t with
   | c b=>
    constructor
    ·intro q0z
     refine El.x2_2 q0z fun u o ho' hd=>?_
     refine El.x3_3 hm fun o2 es ep ho2 hd2 _=>?_
     have e:b = c.env.locals:=ho
     try clear q0z
     subst e
     obtain rfl:=Option.some.inj (ho'.symm.trans ho2)
     rw [hd] at hd2; cases hd2
    ·intro u q1z
     refine El.x1_2 q1z fun o ho' hd=>?_
     refine El.x3_3 hm fun o2 es ep ho2 hd2 _=>?_
     have e:b = c.env.locals:=ho
     try clear q1z
     subst e
     obtain rfl:=Option.some.inj (ho'.symm.trans ho2)
     rw [hd] at hd2; cases hd2
   | d D n=>
    have e:D = c.env.locals:=ho
    subst e
    have hne:n ≠ x:=fun e=>ht (by rw [e])
    refine ⟨fun _=>⟨_,hn⟩,?_⟩
    intro u q2z
    refine El.x1_2 q2z fun m' hm' e'=>?_
    refine ⟨_,hn,?_⟩
    rw [if_neg hne]
    refine El.x3_4 hm fun o2 es ep ho2 hd2 _ q2=>?_
    refine El.x3_4 hm' fun o3 es3 ep3 ho3 hd3 _ q3=>?_
    try clear ep3; try clear es3; try clear o3; try clear hm'; try clear m'; try clear q2z; try clear hne; try clear hm
    obtain rfl:=Option.some.inj (ho2.symm.trans ho3)
    rw [hd2] at hd3
    try clear ho3
    cases hd3
    rw [← q2,q3,e']
  refine El.x0_2 (I.store N.apart k2 hs (v:=v) (y:=y) ⟨_,hn,by simp⟩ side r) fun I' S=>?_
  exact ⟨μ,trivial,I',S,.refl⟩
 ·refine El.x1_1 (I.slots i _ k3) fun u hu=>?_
  refine wpAny_storeName_cell hk (by unfold Env.kindOf; rw [N.sc]; exact k1) k2 hu fun h' hc hs=>?_
  have side:∀ t:Slot,t ≠ .c a→t.own = (Slot.c a).own→(t.Ok s.heap→t.Ok h')∧∀ u,t.Holds s.heap u→t.Holds h' u:=by
   intro t ht ho
   try clear q3; try clear hd3; try clear q2; try clear e'; try clear u; try clear hn; try clear h'; try clear hk
   cases t with
   | c b=>exact (ht (by rw [show b = a from ho])).elim
   | d D n=>
    have e:D = a:=ho
    try clear ho; try clear ht; try clear t
    subst e
    constructor
    ·intro q3z
     refine El.x4_3 q3z fun m o2 es ep ho2 hd2 _=>?_
     refine El.x1_2 hu fun o ho' hd=>?_
     try clear q3z; try clear e
     obtain rfl:=Option.some.inj (ho'.symm.trans ho2)
     rw [hd] at hd2; cases hd2
    ·intro w q4z
     refine El.x1_2 q4z fun m q5z _=>?_
     refine El.x3_3 q5z fun o2 es ep ho2 hd2 _=>?_
     refine El.x1_2 hu fun o ho' hd=>?_
     try clear q5z; try clear q4z; try clear w; try clear hu; try clear ep; try clear es; try clear o2; try clear o; try clear m
     obtain rfl:=Option.some.inj (ho'.symm.trans ho2)
     rw [hd] at hd2; cases hd2
  refine El.x0_2 (I.store N.apart k3 hs (v:=v) (y:=y) hc side r) fun I' S=>?_
  exact ⟨μ,trivial,I',S,.refl⟩
noncomputable def SOk (W:Wo) (K:Nat) (e:Sm):Prop:=∀ (g:Gm) (p:Stmt) (c:Cx) (st:St) (μ:List Addr) (s:Shared),okS g e p = true→Good W c g→Inv c st μ s.heap→Sim c (exec (pS e p) c.env) (evS W.F K e st) rFl st.σ μ s
noncomputable def SsOk (W:Wo) (K:Nat) (e:Sms):Prop:=∀ (g:Gm) (p:List Stmt) (c:Cx) (st:St) (μ:List Addr) (s:Shared),okSs g e p = true→Good W c g→Inv c st μ s.heap→Sim c (execs (pSs e p) c.env) (evSs W.F K e st) rFl st.σ μ s
@[elab_as_elim] theorem rFl_elim {P:Flow→Fl→Prop} {st:St} {μ:List Addr} {h:Heap} {f:Flow} {x:Fl} (r:rFl st μ h f x) (h1:P .next .next) (h2:P .brk .brk) (h3:P .cont .cont) (h4:∀ v y,RepV (Tr st.σ μ) μ h v y→P (.ret v) (.ret y)):P f x:=by
 cases f <;> cases x <;> first | exact h1 | exact h2 | exact h3 | exact h4 _ _ r | exact False.elim r
section
variable {W:Wo} {K:Nat}
theorem Za9:SsOk W K .nil:=fun _ _ _ _ _ _ _ _ I=>Sim.pure I trivial
theorem Z8E {x:Sm} {xs:Sms} (hx:SOk W K x) (hxs:SsOk W K xs):SsOk W K (.cons x xs):=fun g p c st μ s hk hg I=>
 Sim.of_eq (execs_cons ..) (Sim.bind (hx g _ c st μ s (and2 hk).1 hg I) fun fl st₁ f μ₁ s₁ _ rf I₁ S₁=>
  rFl_elim (P:=fun f fl=>Sim c (match f with | .next=>execs (pSs xs p.tail) c.env | f=>pure f) (match fl with | .next=>evSs W.F K xs st₁ | f=>.ok f st₁) rFl st₁.σ μ₁ s₁) rf (hxs g _ c st₁ μ₁ s₁ (and2 hk).2 hg I₁) (Sim.pure I₁ trivial) (Sim.pure I₁ trivial) fun v y r=>Sim.pure I₁ r)
theorem Z8F:SOk W K .brk:=fun _ _ _ _ _ _ _ _ I=>Sim.leaf I (wpAny_Break ⟨.refl,.refl,trivial⟩)
theorem Z8G {e:Ex} (he:EOk W e):SOk W K (.ret e):=fun g p c st μ s hk hg I=>Sim.of_eq (exec_Return_some ..) (Sim.at (Sim.one he hk hg I fun x u st μ s rx I=>Sim.pure I rx))
theorem Z6X {d:Ex} {a b:Sms} (hd:IOk W d) (ha:SsOk W K a) (hb:SsOk W K b):SOk W K (.ifte d a b):=fun g p c st μ s hk hg I=>
 Sim.of_eq (exec_If ..) (Sim.at (Sim.eq (hd.2 g _ c st μ s (and2 hk).1 hg I) fun t st₁ μ₁ s₁ _ I₁ _=>Sim.cond (fun _=>ha g _ c st₁ μ₁ s₁ (and2 (and2 hk).2).1 hg I₁) fun _=>hb g _ c st₁ μ₁ s₁ (and2 (and2 hk).2).2 hg I₁))
theorem Z1F {c:Cx} {g:Gm} (N:Nm c g):interactive c.env = false:=by
 unfold interactive
 rw [N.sc,N.kind]; rfl
theorem Zaa {x:Expr}:Z2G x.ctorIdx = true→(!(x.ctorIdx == 8)) = true→∀ {env:Env} {t:Option Expr} {l:Nat},swapsWith x t l env = pure false:=by
 cases x <;> first | exact fun _ _ _ _ _=>rfl | exact fun h=>absurd h Bool.false_ne_true | exact fun _ h=>absurd h Bool.false_ne_true
theorem Z1w {e:Ex} (h:(!isC e) = true) {p:Expr} {env:Env} {t:Option Expr} {l:Nat}:swapsWith (pE e p) t l env = pure false:=by
 have q:=Zd4 e p
 rw [Bool.not_eq_true'] at h
 rw [h] at q
 exact Zaa (Z1J e p) q
theorem Z6Y {e:Ex} (he:EOk W e):SOk W K (.expr e):=fun g p c st μ s hk hg I=>
 Sim.of_eq (exec_Expr _ _ _ (Z1F hg.nm) (Z1w (and2 hk).1)) (Sim.at (Sim.one he (and2 hk).2 hg I fun x u st μ s rx I=>Sim.leaf I (wpAny_dropValue ⟨.refl,.refl,trivial⟩)))
theorem Z6Z {i:Nat} {e:Ex} (he:EOk W e) (g:Gm) (p:Stmt) (c:Cx) (st:St) (μ:List Addr) (s:Shared) (hk:okS g (.asg i e) p = true) (hs:swapsWith (pE e (skid p 0)) (some (.Name (nmOf (skid p 1)) (skid p 1).pos)) p.pos.line c.env = pure false) (hg:Good W c g) (I:Inv c st μ s.heap) :
  Sim c (exec (pS (.asg i e) p) c.env) (evS W.F K (.asg i e) st) rFl st.σ μ s :=
 Sim.of_eq (exec_Assign_Name _ _ _ _ _ hs) (Sim.at (Sim.one he (and2 hk).2 hg I fun y u st₁ μ₁ s₁ rx I₁=>Sim.at (Sim.of_m (m':=(R.ok () (setV st₁ i y)).bind fun _ st=>R.ok .next st) rfl
  (Sim.bind (Sim.imp (fun Q h=>wpAny_bindName h) (Z0Q hg.nm (and2 hk).1 I₁ rx)) fun _ st₂ _ μ₂ s₂ he _ I₂ S₂=>by cases he; exact Sim.pure I₂ trivial))))
theorem Zc2 {F:Fn} {d:Ex} {body:Sms} {k:Nat} {st stF:St} {fl:Fl} (h:Z0x (fun st=>Z03 (evE F d st)) (fun st=>evSs F K body st) (k + 1) st = .ok fl stF) :
  ∃ t st₁,Z03 (evE F d st) = .ok t st₁∧(t = false→fl = .next∧stF = st₁)∧(t = true→∃ f st₂,evSs F K body st₁ = .ok f st₂∧(match f with | .next=>Z0x (fun st=>Z03 (evE F d st)) (fun st=>evSs F K body st) k st₂ | .cont=>Z0x (fun st=>Z03 (evE F d st)) (fun st=>evSs F K body st) k st₂ | .brk=>.ok .next st₂ | .ret v=>.ok (.ret v) st₂) = .ok fl stF):=by
 rw [Z5R] at h
 refine El.x2_2 (R.bind_inv h) fun t st₁ h1 h=>?_
 refine ⟨t,st₁,h1,fun e=>?_,fun e=>?_⟩
 ·subst e; cases h; exact ⟨rfl,rfl⟩
 ·subst e; exact R.bind_inv h
theorem Zc3 {d:Ex} {body:Sms} {g:Gm} {p q:Expr} {bd:List Stmt} {pos:Pos} {c:Cx} {fl:Fl} {stF:St} {Q:Flow→Shared→Prop} {X:St→List Addr→Shared→Prop} (hd:∀ st μ (s:Shared),Inv c st μ s.heap→Sim c (isTrue q c.env (eval q c.env)) (Z03 (evE W.F d st)) rEq st.σ μ s)
  (hb:∀ st μ (s:Shared),Inv c st μ s.heap→Sim c (execs bd c.env) (evSs W.F K body st) rFl st.σ μ s) (hX:∀ st μ (s:Shared),X st μ s→Inv c st μ s.heap) (hS:∀ st μ (s:Shared) st' μ' s',X st μ s→Inv c st' μ' s'.heap→Stp c st.σ μ s.heap st'.σ μ' s'.heap→Same s s'→X st' μ' s')
  (hQ:∀ f (s:Shared) μ,rFl stF μ s.heap f fl→X stF μ s→Q f s) {st:St} {μ:List Addr} {s:Shared} (x:X st μ s) (hr:Z0x (fun st=>Z03 (evE W.F d st)) (fun st=>evSs W.F K body st) K st = .ok fl stF) :
  wpAny (model c.prog c.w) c.A (exec (.While q bd [] pos) c.env) Q (fun _ _=>False) s:=by
 obtain ⟨J,hJ⟩:∃ J:Nat→Shared→Prop,∀ k s',J k s'↔∃ st' μ',Z0x (fun st=>Z03 (evE W.F d st)) (fun st=>evSs W.F K body st) k st' = .ok fl stF∧X st' μ' s':=⟨_,fun _ _=>Iff.rfl⟩
 refine wpAny_While (codeAny_whileLoop J (fun k s' hJk=>?_) K ((hJ _ _).mpr ⟨st,μ,hr,x⟩))
 refine El.x2_2 ((hJ k s').mp hJk) fun st' μ' hw x'=>?_
 clear hJk hr x
 cases k with
 | zero=>cases hw
 | succ k=>
  refine El.x2_3 (Zc2 hw) fun t st₁ hT hf ht=>?_
  have h1:=hd st' μ' s' (hX _ _ _ x')
  rw [hT] at h1
  refine wpAny_mono h1 (fun t' s₁ q8=>El.x1_4 q8 fun μ₁ (rt:t' = t) I₁ S₁ Q₁=>?_) fun _ _ e=>e.elim
  have x₁:=hS _ _ _ _ _ _ x' I₁ S₁ Q₁
  rw [rt]
  clear hT h1 S₁ Q₁ x' rt q8 hw
  cases t with
  | false=>exact wpAny_execs_nil (hQ _ _ μ₁ ((hf rfl).1 ▸ trivial) ((hf rfl).2 ▸ x₁))
  | true=>
   refine El.x2_2 (ht rfl) fun f st₂ hB hw=>?_
   have h2:=hb st₁ μ₁ s₁ I₁
   rw [hB] at h2
   refine wpAny_mono h2 (fun f' s₂ q8=>El.x1_4 q8 fun μ₂ rf I₂ S₂ Q₂=>?_) fun _ _ e=>e.elim
   have x₂:=hS _ _ _ _ _ _ x₁ I₂ S₂ Q₂
   clear hf ht hB h2 S₂ Q₂ x₁ I₁ I₂ q8
   revert hw
   refine rFl_elim rf (fun hw=>⟨k,Nat.lt_succ_self _,(hJ _ _).mpr ⟨st₂,μ₂,hw,x₂⟩⟩) (fun hw=>?_) (fun hw=>⟨k,Nat.lt_succ_self _,(hJ _ _).mpr ⟨st₂,μ₂,hw,x₂⟩⟩) (fun v y rv hw=>?_)
   ·exact hQ _ _ μ₂ ((R.ok.inj hw).1 ▸ trivial) ((R.ok.inj hw).2 ▸ x₂)
   ·exact hQ _ _ μ₂ (by rw [← (R.ok.inj hw).1,← (R.ok.inj hw).2]; exact rv) ((R.ok.inj hw).2 ▸ x₂)
theorem Z5r {d:Ex} {body:Sms} (hd:IOk W d) (hb:SsOk W K body):SOk W K (.while d body):=fun g p c st μ s hk hg I=>Sim.ok fun fl stF hr=>
 Zc3 (g:=g) (p:=skid p 0) (X:=fun st' μ' s'=>Inv c st' μ' s'.heap∧Stp c st.σ μ s.heap st'.σ μ' s'.heap∧Same s s') (fun st μ s I=>hd.2 g _ c st μ s (and2 hk).1 hg I) (fun st μ s I=>hb g _ c st μ s (and2 hk).2 hg I) (fun _ _ _ x=>x.1) (fun _ _ _ _ _ _ x I S Q=>⟨I,x.2.1.trans S,x.2.2.trans Q⟩) (fun f s' μ' r x=>⟨μ',r,x⟩) ⟨I,.refl,.refl⟩ hr
end
structure Kp (σ₀:List O) (μ₀:List Addr) (h₀:Heap) (σ:List O) (μ:List Addr) (h:Heap):Prop where
 size:h₀.objs.size ≤ h.objs.size
 keep:∀ b o,h₀.get? b = some o→Z2k o→¬ Tr σ₀ μ₀ b→h.get? b = some o
 pre:∀ (n:Nat) (a:Addr),μ₀[n]? = some a→μ[n]? = some a
 tr:∀ b,Tr σ μ b→Tr σ₀ μ₀ b ∨ h₀.objs.size ≤ b
 pv:∀ (n:Nat),σ₀[n]? = some O.priv→σ[n]? = some O.priv
theorem Kp.trans {σ₀ σ₁ σ₂:List O} {μ₀ μ₁ μ₂:List Addr} {h₀ h₁ h₂:Heap} (x:Kp σ₀ μ₀ h₀ σ₁ μ₁ h₁) (y:Kp σ₁ μ₁ h₁ σ₂ μ₂ h₂):Kp σ₀ μ₀ h₀ σ₂ μ₂ h₂ where
 size:=Nat.le_trans x.size y.size
 keep:=fun b o e hd hT=>y.keep b o (x.keep b o e hd hT) hd fun q=>(x.tr b q).elim hT fun q=>Nat.lt_irrefl _ (Nat.lt_of_lt_of_le (Heap.lt_size e) q)
 pre:=fun n a e=>y.pre n a (x.pre n a e)
 tr:=fun b q=>(y.tr b q).elim (fun q=>x.tr b q) fun q=>.inr (Nat.le_trans x.size q)
 pv:=fun n e=>y.pv n (x.pv n e)
theorem Stp.kp {c:Cx} {st:St} {μ μ':List Addr} {σ':List O} {h h':Heap} (I:Inv c st μ h) (S:Stp c st.σ μ h σ' μ' h'):Kp st.σ μ h σ' μ' h' where
 size:=S.size
 keep:=fun b o e hd hT=>S.keep b o e (fun q=>I.own_data q e hd) hT
 pre:=S.pre
 tr:=S.tr
 pv:=S.pv
theorem Kp.ext {σ:List O} {μ:List Addr} {h h':Heap} (e:Ext h h'):Kp σ μ h σ μ h':=⟨e.1,fun b o q _ _=>e.2 b o q,fun _ _ q=>q,fun _ q=>.inl q,fun _ q=>q⟩
section
variable {σ₀ σ:List O} {μ₀ μ:List Addr} {h₀ h:Heap}
theorem RepV.kp (K:Kp σ₀ μ₀ h₀ σ μ h) {v:Value} {x:V} (r:RepV (Tr σ₀ μ₀) μ₀ h₀ v x):RepV (Tr σ μ) μ h v x :=
 r.move (fun a o e hd hq=>⟨K.keep a o e hd hq,fun q=>(K.tr a q).elim hq fun q=>Nat.lt_irrefl _ (Nat.lt_of_lt_of_le (Heap.lt_size e) q)⟩) K.pre
theorem RepVs.kp (K:Kp σ₀ μ₀ h₀ σ μ h) {v:List Value} {x:List V} (r:RepVs (Tr σ₀ μ₀) μ₀ h₀ v x):RepVs (Tr σ μ) μ h v x :=
 r.move (fun a o e hd hq=>⟨K.keep a o e hd hq,fun q=>(K.tr a q).elim hq fun q=>Nat.lt_irrefl _ (Nat.lt_of_lt_of_le (Heap.lt_size e) q)⟩) K.pre
end
noncomputable def Odd (wr:List Addr) (h:Heap):Prop:=∀ b ∈ wr,∃ o,h.get? b = some o∧¬ Z2k o
noncomputable def But (wr:List Addr) (h h':Heap):Prop:=∀ b o,b ∉ wr→h.get? b = some o→h'.get? b = some o
theorem RepV.but {T:Addr→Prop} {μ wr:List Addr} {h h':Heap} (k:But wr h h') (od:Odd wr h) {v:Value} {x:V} (r:RepV T μ h v x):RepV T μ h' v x:=by
 have nseq:∀ a o,h.get? a = some o→Z2k o→a ∉ wr:=fun a o e hd q=>by
  refine El.x1_2 (od a q) fun o' e' hd'=>?_
  obtain rfl:=Option.some.inj (e.symm.trans e')
  exact hd' hd
 exact r.move (fun a o e hd hT=>⟨k a o (nseq a o e hd) e,hT⟩) fun _ _ q=>q
theorem RepVs.but {T:Addr→Prop} {μ wr:List Addr} {h h':Heap} (k:But wr h h') (od:Odd wr h) {v:List Value} {x:List V} (r:RepVs T μ h v x):RepVs T μ h' v x:=by
 have nseq:∀ a o,h.get? a = some o→Z2k o→a ∉ wr:=fun a o e hd q=>by
  refine El.x1_2 (od a q) fun o' e' hd'=>?_
  obtain rfl:=Option.some.inj (e.symm.trans e')
  exact hd' hd
 exact r.move (fun a o e hd hT=>⟨k a o (nseq a o e hd) e,hT⟩) fun _ _ q=>q
theorem Inv.but {c:Cx} {wr:List Addr} {st:St} {μ:List Addr} {h h':Heap} (I:Inv c st μ h) (k:But wr h h') (hsz:h.objs.size ≤ h'.objs.size)
  (od:Odd wr h) (own:∀ b ∈ wr,¬ Own c b) (mem:∀ b ∈ wr,b ∉ μ) (bs:∀ b ∈ wr,c.base.get? b = none):Inv c st μ h':=by
 refine ⟨fun i x q=>?_,fun i s q=>(I.slots i s q).keeps fun o e=>k _ o (fun m=>own _ m ⟨i,s,q,rfl⟩) e,fun n o q=>?_,I.len,I.nd,fun a q=>Nat.lt_of_lt_of_le (I.lt a q) hsz,
  fun b o q=>k b o (fun m=>by rw [bs b m] at q; cases q) (I.base b o q),I.baseS,I.baseM,I.sep,I.kd⟩
 ·refine El.x2_3 (I.vars i x q) fun s v g1 g2 g3=>?_
  exact ⟨s,v,g1,g2.keeps fun o e=>k _ o (fun m=>own _ m ⟨i,s,g1,rfl⟩) e,g3.but k od⟩
 ·refine El.x1_2 (I.objs n o q) fun a ha r=>?_
  refine ⟨a,ha,?_⟩
  exact r.map (fun _ ho=>(k a _ (fun m=>mem a m (List.mem_of_getElem? ha)) ho)) fun _ _ r=>(r.but k od)
structure Itr (prog:Program) (w:World) (A:Around) (it:Addr) (fp wr:List Addr) (xs:List V) (σ₀:List O) (μ₀:List Addr) (h₀:Heap) (Sp:Nat→Heap→Prop):Prop where
 sub:∀ b ∈ wr,b ∈ fp
 frame:∀ i h h',Sp i h→(∀ b ∈ fp,∀ o,h.get? b = some o→h'.get? b = some o)→Sp i h'
 odd:∀ i h,Sp i h→Odd wr h
 wrn:∀ b ∈ wr,h₀.objs.size ≤ b
 fpo:∀ b ∈ fp,b ∈ wr ∨ (∃ o vs n,h₀.get? b = some o∧o.data = .seq vs n∧¬ Tr σ₀ μ₀ b) ∨ ∃ k:Nat,σ₀[k]? = some O.priv∧μ₀[k]? = some b
 item:∀ i x (s:Shared) (σ:List O) (μ:List Addr) (Q:Option Value→Shared→Prop),xs[i]? = some x→Sp i s.heap→Kp σ₀ μ₀ h₀ σ μ s.heap →
  (∀ v h' tk,But wr s.heap h'→s.heap.objs.size ≤ h'.objs.size→Sp (i + 1) h'→RepV (Tr σ μ) μ h' v x→Q (some v) { s with heap:=h',toks:=tk }) →
  wpAny (model prog w) A (pyNext (.ref it)) Q (fun _ _=>False) s
 done:∀ (s:Shared) (Q:Option Value→Shared→Prop),Sp xs.length s.heap →
  (∀ h' tk,But wr s.heap h'→s.heap.objs.size ≤ h'.objs.size→Q none { s with heap:=h',toks:=tk })→wpAny (model prog w) A (pyNext (.ref it)) Q (fun _ _=>False) s
 again:∀ i (s:Shared) (Q:Value→Shared→Prop) (E:Value→Shared→Prop),Sp i s.heap→Q (.ref it) s→wpAny (model prog w) A (pyIter (.ref it)) Q E s
section
variable {c:Cx} {it:Addr} {fp wr:List Addr} {xs:List V} {σ₀:List O} {μ₀:List Addr} {h₀:Heap} {Sp:Nat→Heap→Prop}
theorem Itr.keep (W:Itr c.prog c.w c.A it fp wr xs σ₀ μ₀ h₀ Sp) {i:Nat} {st:St} {σ':List O} {μ μ':List Addr} {h h':Heap} (own:∀ b ∈ wr,¬ Own c b) (mem:∀ b ∈ wr,b ∉ μ) (I:Inv c st μ h)
  (K:Kp σ₀ μ₀ h₀ st.σ μ h) (S':Stp c st.σ μ h σ' μ' h') (sp:Sp i h):Sp i h'∧∀ b ∈ wr,b ∉ μ':=by
 refine ⟨W.frame i h h' sp fun b q o e=>?_,fun b q m=>(S'.new b m).elim (mem b q) fun k=>?_⟩
 ·rcases W.fpo b q with q | ⟨o',vs,n,q1,q2,q3⟩ | ⟨k,q1,q2⟩
  rotate_left 2
  ·exact S'.pk k b o (K.pv k q1) (K.pre k b q2) e
  ·exact S'.keep b o e (own b q) fun t=>mem b q t.mem
  ·have e':=K.keep b o' q1 (.inl ⟨vs,n,q2⟩) q3
   obtain rfl:=Option.some.inj (e.symm.trans e')
   exact S'.keep b o e (fun q=>I.own_data q e (.inl ⟨vs,n,q2⟩)) fun t=>(K.tr b t).elim q3 fun k=>Nat.lt_irrefl _ (Nat.lt_of_lt_of_le (Heap.lt_size q1) k)
 ·refine El.x1_2 (W.odd i h sp b q) fun o e _=>?_
  exact Nat.lt_irrefl _ (Nat.lt_of_lt_of_le (Heap.lt_size e) k)
theorem Stp.but {σ:List O} {μ:List Addr} {h h':Heap} (wrn:∀ b ∈ wr,h₀.objs.size ≤ b) (k:But wr h h') (hsz:h.objs.size ≤ h'.objs.size) (S:Stp c σ₀ μ₀ h₀ σ μ h):Stp c σ₀ μ₀ h₀ σ μ h' where
 size:=Nat.le_trans S.size hsz
 keep:=fun b o e h1 h2=>k b o (fun q=>Nat.lt_irrefl _ (Nat.lt_of_lt_of_le (Heap.lt_size e) (wrn b q))) (S.keep b o e h1 h2)
 pre:=S.pre
 tr:=S.tr
 new:=S.new
 pv:=S.pv
 pk:=fun n a o e e' e''=>k a o (fun q=>Nat.lt_irrefl _ (Nat.lt_of_lt_of_le (Heap.lt_size e'') (wrn a q))) (S.pk n a o e e' e'')
theorem Kp.but {σ:List O} {μ:List Addr} {h h':Heap} (wrn:∀ b ∈ wr,h₀.objs.size ≤ b) (k:But wr h h') (hsz:h.objs.size ≤ h'.objs.size) (S:Kp σ₀ μ₀ h₀ σ μ h):Kp σ₀ μ₀ h₀ σ μ h' where
 size:=Nat.le_trans S.size hsz
 keep:=fun b o e h1 h2=>k b o (fun q=>Nat.lt_irrefl _ (Nat.lt_of_lt_of_le (Heap.lt_size e) (wrn b q))) (S.keep b o e h1 h2)
 pre:=S.pre
 tr:=S.tr
 pv:=S.pv
theorem Z70 {st₀:St} (I₀:Inv c st₀ μ₀ h₀) (wrn:∀ b ∈ wr,h₀.objs.size ≤ b):∀ b ∈ wr,c.base.get? b = none∧¬ Own c b∧b ∉ μ₀:=fun b q=>by
 refine ⟨?_,fun o=>?_,fun m=>Nat.lt_irrefl _ (Nat.lt_of_lt_of_le (I₀.lt b m) (wrn b q))⟩
 ·cases h:c.base.get? b with
  | none=>rfl
  | some o=>exact absurd (Nat.lt_of_lt_of_le (Heap.lt_size (I₀.base b o h)) (wrn b q)) (Nat.lt_irrefl _)
 ·refine El.x1_1 (Z1c I₀ o) fun ob ho=>?_
  exact Nat.lt_irrefl _ (Nat.lt_of_lt_of_le (Heap.lt_size ho) (wrn b q))
theorem Z3h {c:Cx} {target:Expr} {it:Addr} {body:List Stmt} {xs:List V} {as:V→St→R Unit} {bd:St→R Fl} {fl:Fl} {stF:St} {Rs:Result→Shared→Prop} (P:Nat→St→List Addr→Shared→Prop) (D:St→List Addr→Shared→Prop)
  (inv:∀ i st μ s,P i st μ s→Inv c st μ s.heap) (toD:∀ i st μ s,P i st μ s→D st μ s)
  (keep:∀ i st μ (s:Shared) st' μ' (s':Shared),P i st μ s→Inv c st' μ' s'.heap→Stp c st.σ μ s.heap st'.σ μ' s'.heap→Same s s'→P i st' μ' s')
  (item:∀ i x st μ (s:Shared) (Q:Value→Shared→Prop),xs[i]? = some x→P i st μ s→(∀ v s₂,RepV (Tr st.σ μ) μ s₂.heap v x→P (i + 1) st μ s₂→Q v s₂) →
   wpAny (model c.prog c.w) c.A (pyNext (.ref it)) (fun r s₁=>match r with
    | none=>False
    | some v=>wpAny (model c.prog c.w) c.A (letOwnedTupleGo target (.ref it) v) (fun _ s₂=>Q v s₂) (fun _ _=>False) s₁) (fun _ _=>False) s)
  (done:∀ st μ (s:Shared) (Q:Option Value→Shared→Prop),P xs.length st μ s→(∀ s₂,D st μ s₂→Q none s₂)→wpAny (model c.prog c.w) c.A (pyNext (.ref it)) Q (fun _ _=>False) s)
  (hA:∀ x v st μ (s:Shared),RepV (Tr st.σ μ) μ s.heap v x→Inv c st μ s.heap→Sim c (assign target c.env v) (as x st) rU st.σ μ s)
  (hB:∀ st μ (s:Shared),Inv c st μ s.heap→Sim c (execs body c.env) (bd st) rFl st.σ μ s)
  (hR:∀ μ (s:Shared) f,D stF μ s→rFl stF μ s.heap f fl→Rs (.ok f) s)
  {st₁:St} {μ₁:List Addr} {s₁:Shared} (h1:P 0 st₁ μ₁ s₁) (hr:forR (fun x st=>(as x st).bind fun _ st=>bd st) xs st₁ = .ok fl stF) :
  codeAny (model c.prog c.w) c.A (.forLoop target (.ref it) body [] c.env) Rs s₁:=by
 obtain ⟨J,hJ⟩:∃ J:Nat→Shared→Prop,∀ k s',J k s'↔∃ i st μ,k = xs.length + 1 - i∧i ≤ xs.length∧forR (fun x st=>(as x st).bind fun _ st=>bd st) (xs.drop i) st = .ok fl stF∧P i st μ s':=⟨_,fun _ _=>Iff.rfl⟩
 have fin:∀ k i st μ (s:Shared) f g,i < xs.length→k = xs.length + 1 - i→P (i + 1) st μ s→rFl st μ s.heap g f →
   (match f with | .next=>forR (fun x st=>(as x st).bind fun _ st=>bd st) (xs.drop (i + 1)) st | .cont=>forR (fun x st=>(as x st).bind fun _ st=>bd st) (xs.drop (i + 1)) st | .brk=>.ok .next st | .ret v=>.ok (.ret v) st) = .ok fl stF →
   (match g with | .next | .cont=>∃ m,m < k∧J m s | .brk=>Rs (.ok .next) s | .ret v=>Rs (.ok (.ret v)) s):=by
  intro k i st μ s f g hlt hk hP rf
  refine rFl_elim rf (fun hf=>⟨xs.length + 1 - (i + 1),Nat.lt_of_lt_of_eq (dec1 hlt) hk.symm,(hJ _ _).mpr ⟨i + 1,st,μ,rfl,hlt,hf,hP⟩⟩) (fun hf=>hR μ s _ ((R.ok.inj hf).2 ▸ toD _ _ _ _ hP) ((R.ok.inj hf).1 ▸ trivial)) (fun hf=>⟨xs.length + 1 - (i + 1),Nat.lt_of_lt_of_eq (dec1 hlt) hk.symm,(hJ _ _).mpr ⟨i + 1,st,μ,rfl,hlt,hf,hP⟩⟩) (fun w y rw' hf=>?_)
  exact hR μ s _ ((R.ok.inj hf).2 ▸ toD _ _ _ _ hP) (by rw [← (R.ok.inj hf).1,← (R.ok.inj hf).2]; exact rw')
 refine codeAny_forLoop_any J (fun k s' hk=>?_) (xs.length + 1) ((hJ _ _).mpr ⟨0,st₁,μ₁,rfl,Nat.zero_le _,hr,h1⟩)
 refine El.x3_4 ((hJ k s').mp hk) fun i st μ hki hi hf hP=>?_
 have fin':=fin k i
 clear fin hJ hk
 by_cases hlt:i < xs.length
 ·obtain ⟨x,hx⟩:∃ x,xs[i]? = some x:=⟨xs[i],by simp [hlt]⟩
  have hd:xs.drop i = x :: xs.drop (i + 1):=by
   rw [List.drop_eq_getElem_cons hlt]
   congr 1
   exact Option.some.inj ((List.getElem?_eq_getElem hlt).symm.trans hx)
  rw [hd] at hf
  refine El.x2_2 (R.bind_inv hf) fun f st₃ hAB hf=>?_
  refine El.x2_2 (R.bind_inv hAB) fun _ st₂ hA' hB'=>?_
  refine wpAny_mono (item i x st μ s' (fun v s₂=>RepV (Tr st.σ μ) μ s₂.heap v x∧P (i + 1) st μ s₂) hx hP fun v s₂ rv hP₂=>⟨rv,hP₂⟩) (fun r s₂ hr₂=>?_) fun _ _ e=>(e:False).elim
  try clear hAB; try clear hd; try clear hx; try clear rf; try clear hk; try clear s; try clear k; try clear fin; try clear hJ; try clear J
  cases r with
  | none=>exact (hr₂:False).elim
  | some v=>
   refine wpAny_mono hr₂ (fun _ s₂ h₂=>?_) fun _ _ e=>(e:False).elim
   have ha:=hA x v st μ s₂ h₂.1 (inv _ _ _ _ h₂.2)
   rw [hA'] at ha
   refine wpAny_mono ha (fun _ s₃ h₃=>?_) fun _ _ e=>(e:False).elim
   obtain ⟨μ₂,hP₃⟩:∃ μ₂,P (i + 1) st₂ μ₂ s₃:=h₃.elim fun μ₂ h₃=>⟨μ₂,keep _ _ _ _ _ _ _ h₂.2 h₃.2.1 h₃.2.2.1 h₃.2.2.2⟩
   have hb:=hB st₂ μ₂ s₃ (inv _ _ _ _ hP₃)
   rw [show bd st₂ = .ok f st₃ from hB'] at hb
   exact wpAny_mono hb (fun g s₄ h₄=>h₄.elim fun μ₃ h₄=>fin' st₃ μ₃ s₄ f g hlt hki (keep _ _ _ _ _ _ _ hP₃ h₄.2.1 h₄.2.2.1 h₄.2.2.2) h₄.1 hf) fun _ _ e=>(e:False).elim
 ·have hi':i = xs.length:=eqle hi hlt
  try clear hb; try clear hP₃; try clear μ₂; try clear h₃; try clear s₃; try clear ha; try clear hr₂; try clear hB'; try clear hA'; try clear st₂; try clear st₃; try clear x
  subst hi'
  rw [List.drop_length] at hf
  try clear hi; try clear hki; try clear hlt; try clear g; try clear f; try clear st; try clear i
  cases hf
  exact wpAny_mono (done stF μ s' (fun r s₂=>r = none∧D stF μ s₂) hP fun s₂ hD=>⟨rfl,hD⟩) (fun r s₂ h₂=>by
   rw [h₂.1]
   exact wpAny_execs_nil (hR μ s₂ _ h₂.2 trivial)) fun _ _ e=>(e:False).elim
theorem Z6a {target:Expr} {body:List Stmt} {as:V→St→R Unit} {bd:St→R Fl} {s₀ s₁:Shared} {st₀:St} (W:Itr c.prog c.w c.A it fp wr xs st₀.σ μ₀ s₀.heap Sp) (start:Sp 0 s₁.heap)
  (hA:∀ x v st μ (s:Shared),RepV (Tr st.σ μ) μ s.heap v x→Inv c st μ s.heap→Sim c (assign target c.env v) (as x st) rU st.σ μ s)
  (hB:∀ st μ (s:Shared),Inv c st μ s.heap→Sim c (execs body c.env) (bd st) rFl st.σ μ s)
  (I₀:Inv c st₀ μ₀ s₀.heap) (X₀:Ext s₀.heap s₁.heap) (Q₀:Same s₀ s₁)
  {fl:Fl} {stF:St} (hr:forR (fun x st=>(as x st).bind fun _ st=>bd st) xs st₀ = .ok fl stF) (ht:∀ v,letOwnedTupleGo target (.ref it) v = pure ()) :
  codeAny (model c.prog c.w) c.A (.forLoop target (.ref it) body [] c.env) (fun r s'=>match r with
   | .ok f=>∃ μ',rFl stF μ' s'.heap f fl∧Inv c stF μ' s'.heap∧Stp c st₀.σ μ₀ s₀.heap stF.σ μ' s'.heap∧Same s₀ s'
   | .error _=>False) s₁:=by
 have wall:=Z70 I₀ W.wrn
 have wapart:∀ b ∈ wr,¬ Own c b:=fun b q=>(wall b q).2.1
 have wbase:∀ b ∈ wr,c.base.get? b = none:=fun b q=>(wall b q).1
 refine Z3h (as:=as) (bd:=bd) (fl:=fl) (stF:=stF)
  (P:=fun i st μ s=>Sp i s.heap∧Inv c st μ s.heap∧(∀ b ∈ wr,b ∉ μ)∧Stp c st₀.σ μ₀ s₀.heap st.σ μ s.heap∧Same s₀ s) (D:=fun st μ s=>Inv c st μ s.heap∧Stp c st₀.σ μ₀ s₀.heap st.σ μ s.heap∧Same s₀ s)
  (fun i st μ s h=>h.2.1) (fun i st μ s h=>⟨h.2.1,h.2.2.2⟩) (fun i st μ s st' μ' s' h I' S' Q'=>?_) (fun i x st μ s Q hx h hQ=>?_) (fun st μ s Q h hQ=>?_) hA hB (fun μ s f h rf=>⟨μ,rf,h⟩)
  (st₁:=st₀) (μ₁:=μ₀) ⟨start,I₀.ext X₀,fun b q=>(wall b q).2.2,.ext X₀,Q₀⟩ hr
 ·refine El.x0_2 (W.keep wapart h.2.2.1 h.2.1 (h.2.2.2.1.kp I₀) S' h.1) fun hst₂ mem₂=>?_
  exact ⟨hst₂,I',mem₂,h.2.2.2.1.trans S',h.2.2.2.2.trans Q'⟩
 ·refine W.item i x s st.σ μ _ hx h.1 (h.2.2.2.1.kp I₀) fun v h' tk hk hsz hst' rv=>?_
  dsimp only
  rw [ht v]
  exact wpAny_pure (hQ v _ rv ⟨hst',h.2.1.but hk hsz (W.odd i _ h.1) wapart h.2.2.1 wbase,h.2.2.1,h.2.2.2.1.but W.wrn hk hsz,h.2.2.2.2⟩)
 ·exact W.done s _ h.1 fun h' tk hk hsz=>hQ _ ⟨h.2.1.but hk hsz (W.odd _ _ h.1) wapart h.2.2.1 wbase,h.2.2.2.1.but W.wrn hk hsz,h.2.2.2.2⟩
end
theorem Itr.of_walks {prog:Program} {w:World} {A:Around} {it:Addr} {fp wr:List Addr} {xs:List V} {σ₀:List O} {μ₀:List Addr} {h₀:Heap} {Sp:Nat→Heap→Prop} {P:Nat→Value→Prop}
  (W:Walks prog w A it fp wr xs.length P Sp) (odd:∀ i h,Sp i h→Odd wr h) (wrn:∀ b ∈ wr,h₀.objs.size ≤ b)
  (fpo:∀ b ∈ fp,b ∈ wr ∨ (∃ o vs n,h₀.get? b = some o∧o.data = .seq vs n∧¬ Tr σ₀ μ₀ b) ∨ ∃ k:Nat,σ₀[k]? = some O.priv∧μ₀[k]? = some b)
  (hP:∀ i x v σ (μ:List Addr) (h:Heap),xs[i]? = some x→P i v→Kp σ₀ μ₀ h₀ σ μ h→RepV (Tr σ μ) μ h v x) :
  Itr prog w A it fp wr xs σ₀ μ₀ h₀ Sp where
 sub:=W.sub
 frame:=W.frame
 odd:=odd
 wrn:=wrn
 fpo:=fpo
 item:=fun i x s σ μ Q hx hst K hQ=>Z04 (W.item i s _ _ (List.getElem?_eq_some_iff.mp hx).1 hst fun v h' tk hp hst' hk hsz=>hQ v h' tk hk hsz hst' (hP i x v σ μ h' hx hp (K.but wrn hk hsz)))
 done:=fun s Q hst hQ=>Z04 (W.done s _ _ hst fun h' tk hk hsz=>hQ h' tk hk hsz)
 again:=fun i s Q E hst hQ=>W.self i s Q E hst hQ
noncomputable def rSrc (prog:Program) (w:World) (A:Around) (st:St) (μ:List Addr) (h:Heap) (v:Value) (xs:List V):Prop :=
 ∀ (s:Shared) (Q:Value→Shared→Prop),s.heap = h →
  (∀ I fp wr Sp s',Ext h s'.heap→Same s s'→Itr prog w A I fp wr xs st.σ μ h Sp→Sp 0 s'.heap→Q (.ref I) s')→wpAny (model prog w) A (pyIter v) Q (fun _ _=>False) s
theorem not_still {o:Obj} {fs:Array Value} (hd:o.data = .fields fs):¬ Z2k o:=fun q=>by rcases q with ⟨vs,n,q⟩ | q <;> rw [hd] at q <;> cases q
theorem Z3i {I:Addr} {h:Heap} {o:Obj} {fs:Array Value} (e:h.get? I = some o) (hd:o.data = .fields fs):Odd [I] h:=fun b q=>by
 obtain rfl:=List.mem_singleton.mp q
 exact ⟨o,e,not_still hd⟩
section
variable {c:Cx} {st:St} {μ:List Addr} {h:Heap} {v:Value}
theorem Zab (I:Inv c st μ h) (hh:c.A.handled = none) {xs:List V} (r:RepV (Tr st.σ μ) μ h v (.lst xs)):rSrc c.prog c.w c.A st μ h v xs:=by
 rintro s Q rfl hQ
 refine El.x4_7 r.lstI fun a o vs n e9 ho hc hd hz hT r8=>?_
 try clear hz; try clear Q
 subst e9
 have hlt:=Heap.lt_size ho
 refine wpAny_pyIter_list ⟨o,ho,hc,n,hd⟩ (hQ s.heap.objs.size [s.heap.objs.size,a] [s.heap.objs.size] (fun i h=>h.IsListIter s.heap.objs.size a i∧h.IsList a vs) _ (.push _) .refl (Itr.of_walks (P:=fun i v=>vs[i]? = some v) ?_ (fun i h hst=>?_) (fun b q=>?_) (fun b q=>?_) fun i x v σ' μ' h' hx hp K=>?_)
  ⟨⟨_,Heap.get?_push_size _ rfl,rfl,rfl⟩,⟨o,Heap.get?_push_of_some _ ho,hc,n,hd⟩⟩)
 ·have e:xs.length = vs.size:=by have:=r8.length; simpa using this.symm
  rw [e]
  exact Walks.list hh _ a (Nat.ne_of_lt hlt) vs
 ·refine El.x0_2 hst fun q0z _=>?_
  refine El.x1_3 q0z fun o' ho' _ hd'=>?_
  exact Z3i ho' hd'
 ·rw [List.mem_singleton.mp q]; exact Nat.le_refl _
 ·try clear hd'; try clear ho'; try clear o'; try clear q0z; try clear e; try clear h'; try clear μ'; try clear σ'; try clear x; try clear b; try clear hst; try clear h
  rcases List.mem_cons.mp q with rfl | q
  ·exact .inl (by simp)
  ·rw [List.mem_singleton.mp q]; exact .inr (.inl ⟨o,vs,n,ho,hd,hT⟩)
 ·refine El.x1_2 (r8.get hx) fun u hu ru=>?_
  have:u = v:=by simpa [hp] using hu.symm
  try clear hu; try clear u; try clear hp; try clear hx; try clear v; try clear q; try clear i; try clear hlt; try clear r8; try clear hT; try clear hd; try clear hc
  subst this
  exact ru.kp K
theorem Z8H (I:Inv c st μ h) (hh:c.A.handled = none) {xs:List V} (r:RepV (Tr st.σ μ) μ h v (.tup xs)):rSrc c.prog c.w c.A st μ h v xs:=by
 rintro s Q rfl hQ
 refine El.x4_7 r.tupI fun a o vs n e9 ho hc hd hz hT r8=>?_
 try clear hz; try clear Q
 subst e9
 have hlt:=Heap.lt_size ho
 refine wpAny_pyIter_tuple ⟨o,ho,hc,n,hd⟩ (hQ s.heap.objs.size [s.heap.objs.size,a] [s.heap.objs.size] (fun i h=>h.IsTupleIter s.heap.objs.size a i∧h.IsTuple a vs) _ (.push _) .refl (Itr.of_walks (P:=fun i v=>vs[i]? = some v) ?_ (fun i h hst=>?_) (fun b q=>?_) (fun b q=>?_) fun i x v σ' μ' h' hx hp K=>?_)
  ⟨⟨_,Heap.get?_push_size _ rfl,rfl,rfl⟩,⟨o,Heap.get?_push_of_some _ ho,hc,n,hd⟩⟩)
 ·have e:xs.length = vs.size:=by have:=r8.length; simpa using this.symm
  rw [e]
  exact Walks.tuple hh _ a (Nat.ne_of_lt hlt) vs
 ·refine El.x0_2 hst fun q1z _=>?_
  refine El.x1_3 q1z fun o' ho' _ hd'=>?_
  exact Z3i ho' hd'
 ·rw [List.mem_singleton.mp q]; exact Nat.le_refl _
 ·try clear hd'; try clear ho'; try clear o'; try clear q1z; try clear e; try clear h'; try clear μ'; try clear σ'; try clear x; try clear b; try clear hst; try clear h
  rcases List.mem_cons.mp q with rfl | q
  ·exact .inl (by simp)
  ·rw [List.mem_singleton.mp q]; exact .inr (.inl ⟨o,vs,n,ho,hd,hT⟩)
 ·refine El.x1_2 (r8.get hx) fun u hu ru=>?_
  have:u = v:=by simpa [hp] using hu.symm
  try clear hu; try clear u; try clear hp; try clear hx; try clear v; try clear q; try clear i; try clear hlt; try clear r8; try clear hT; try clear hd; try clear hc
  subst this
  exact ru.kp K
theorem Z5s {x:Str} (h:PyData.strOk x = true) {i d:Nat} (e:x.cps[i]? = some d):PyData.strOk ⟨#[d]⟩ = true:=by
 unfold PyData.strOk at h ⊢
 have:=Array.all_eq_true.mp h
 refine El.x1_1 (Array.getElem?_eq_some_iff.mp e) fun hi q2z=>?_
 obtain rfl:=q2z
 simpa using this i hi
theorem Zc4 (hh:c.A.handled = none) {l:List Nat} (r:RepV (Tr st.σ μ) μ h v (.str l)):rSrc c.prog c.w c.A st μ h v (l.map fun d=>.str [d]):=by
 rintro s Q rfl hQ
 refine El.x2_4 r.str_inv fun x t q3z q4z h1 h2=>?_
 try clear h2; try clear Q
 obtain rfl:=q3z
 try clear q3z
 obtain rfl:=q4z
 have hP:∀ i y v σ' (μ':List Addr) (h':Heap),(x.cps.toList.map fun d=>V.str [d])[i]? = some y→SignAt x i v→Kp st.σ μ s.heap σ' μ' h'→RepV (Tr σ' μ') μ' h' v y:=by
  intro i y v σ' μ' h' hx q5z K
  refine El.x2_2 q5z fun d u hd q6z=>?_
  try clear K; try clear q5z; try clear h'; try clear μ'; try clear σ'; try clear v; try clear q4z
  obtain rfl:=q6z
  have e:y = .str [d]:=by simpa [hd] using hx.symm
  try clear q6z; try clear hx; try clear y
  subst e
  exact .str ⟨#[d]⟩ u (Z5s h1 hd) (by show 1 ≤ sizeLine; decide)
 have hw:∀ b ∈ [s.heap.objs.size],s.heap.objs.size ≤ b:=fun b q=>by rw [List.mem_singleton.mp q]; exact Nat.le_refl _
 cases ha:x.cps.all (· < 128)
 ·refine wpAny_pyIter_wide ha (hQ s.heap.objs.size [s.heap.objs.size] [s.heap.objs.size] (fun i h=>h.IsStrIter s.heap.objs.size "str_iterator" x t i) _ (.push _) .refl (Itr.of_walks (P:=SignAt x) (by simpa using Walks.strWide hh _ x t) (fun i h ⟨o',ho',_,hd'⟩=>Z3i ho' hd') hw (fun b q=>.inl q) hP)
   ⟨_,Heap.get?_push_size _ rfl,rfl,rfl⟩)
 ·refine wpAny_pyIter_ascii ha (hQ s.heap.objs.size [s.heap.objs.size] [s.heap.objs.size] (fun i h=>h.IsStrIter s.heap.objs.size "str_ascii_iterator" x t i) _ (.push _) .refl (Itr.of_walks (P:=SignAt x) (by simpa using Walks.strAscii hh _ x t) (fun i h ⟨o',ho',_,hd'⟩=>Z3i ho' hd') hw (fun b q=>.inl q) hP)
   ⟨_,Heap.get?_push_size _ rfl,rfl,rfl⟩)
theorem Z8I (I:Inv c st μ h) (hh:c.A.handled = none) {x:V} (r:RepV (Tr st.σ μ) μ h v x) {xs:List V} (e:Z1X st.σ x = some xs):rSrc c.prog c.w c.A st μ h v xs:=by
 unfold Z1X at e
 split at e
 ·cases e; exact Zc4 hh r
 ·cases e; exact Zab I hh r
 ·cases e; exact Z8H I hh r
 ·cases e
theorem Z5t (hh:c.A.handled = none) {a:Addr} {lo hi:Int} {t u w:Tok} (hr:IsRange h a lo hi 1 t u w) (h1:Z0G lo = true) (h2:Z0G hi = true):rSrc c.prog c.w c.A st μ h (.ref a) (upTo lo hi):=by
 rintro s Q rfl hQ
 simp [Z0G] at h1 h2
 refine wpAny_pyIter_range hr (small_one (by lia) (by lia) (by lia) (by lia)) (hQ s.heap.objs.size [s.heap.objs.size] [s.heap.objs.size] _ _ (.push _) .refl
  (Itr.of_walks (P:=fun i v=>∃ t,v = .int (lo + (i:Nat) * 1) t) (by simpa [upTo] using Walks.range hh s.heap.objs.size lo 1 (hi - lo).toNat) (fun i h hst=>Z3i (h:=h) hst rfl) (fun b q=>by rw [List.mem_singleton.mp q]; exact Nat.le_refl _) (fun b q=>.inl q)
   fun i y v σ' μ' h' hx hp K=>?_) ?_)
 ·refine El.x1_1 hp fun t q7z=>?_
  try clear t; try clear K; try clear hp; try clear h'; try clear μ'; try clear σ'; try clear v; try clear y; try clear i; try clear hQ; try clear Q; try clear s
  obtain rfl:=q7z
  unfold upTo at hx
  rw [List.getElem?_map] at hx
  refine El.x1_2 (Option.map_eq_some_iff.mp hx) fun k hk q8z=>?_
  try clear k; try clear q7z; try clear hx
  obtain rfl:=q8z
  refine El.x1_1 (List.getElem?_eq_some_iff.mp hk) fun hk1 q9z=>?_
  try clear hk1; try clear q8z; try clear hk
  obtain rfl:=q9z
  simp only [List.getElem_range,Int.mul_one]
  exact .int _ _
 ·show IsRangeIter _ _ _ _ _
  rw [rangeSize_nat]
  simpa using Heap.get?_push_size _ rfl
end
noncomputable def ItOk (W:Wo) (it:It):Prop:=∀ (g:Gm) (p:Expr) (c:Cx) (st:St) (μ:List Addr) (s:Shared),okI g it p = true→Good W c g→Inv c st μ s.heap→Sim c (eval (pI it p) c.env) (evIt W.F it st) (rSrc c.prog c.w c.A) st.σ μ s
section
variable {W:Wo} {K:Nat}
theorem Sim.conseq {α β δ:Type} {c:Cx} {σ:List O} {μ:List Addr} {s:Shared} {rel:St→List Addr→Heap→α→β→Prop} {rel':St→List Addr→Heap→α→δ→Prop} {t:Sem α} {m:R β} {g:β→St→R δ}
  (h:Sim c t m rel σ μ s) (hr:∀ b st a μ (s:Shared) d st',Inv c st μ s.heap→rel st μ s.heap a b→g b st = .ok d st'→st' = st∧rel' st μ s.heap a d):Sim c t (m.bind g) rel' σ μ s:=by
 cases m with
 | stuck=>trivial
 | exc x st=>trivial
 | ok b st=>
  simp only [R.bind_ok]
  cases hg:g b st with
  | stuck=>trivial
  | exc x st=>trivial
  | ok d st'=>
   refine wpAny_mono h (fun a s' q8=>El.x1_4 q8 fun μ' h1 h2 h3 h4=>?_) fun _ _ e=>e
   refine El.x0_2 (hr b st a μ' s' d st' h2 h1 hg) fun q0z q=>?_
   try clear h1
   obtain rfl:=q0z
   exact ⟨μ',q,h2,h3,h4⟩
theorem Good.hh {c:Cx} {g:Gm} (hg:Good W c g):c.A.handled = none:=hg.a.hh
theorem Z8J {α:Type} {o:Option α} {st st':St} {t:α} (h:R.lift o st = .ok t st'):o = some t∧st' = st:=by
 cases o with
 | none=>cases h
 | some a=>cases h; exact ⟨rfl,rfl⟩
theorem Z8K {e:Ex} (he:EOk W e):ItOk W (.val e):=fun g p c st μ s hk hg I=>
 Sim.conseq (he g _ c st μ s hk hg I) fun x st₁ v μ₁ s₁ d st' I₁ rx hq=>⟨(Z8J hq).2,Z8I I₁ hg.hh rx (Z8J hq).1⟩
theorem Z24 (it:It) (p:Expr) (env:Env) (x:Value):foldedSetIterable (pI it p) env x = pure x:=by
 cases it with
 | val e=>exact Zd6 (Z1J e p) env x
 | range1 a=>rfl
 | enum a=>rfl
 | range2 a b=>rfl
 | zip a b=>rfl
theorem Zc5 {x:V} {st st':St} {xs:List V} (h:(match x with | .int n=>if Z0G n then .ok (upTo 0 n) st else .stuck | _=>.stuck:R (List V)) = .ok xs st'):∃ n,x = .int n∧Z0G n = true∧xs = upTo 0 n∧st' = st:=by
 cases x <;> try (cases h; done)
 rename_i n
 dsimp only at h
 by_cases hs:Z0G n = true
 ·rw [if_pos hs] at h; cases h; exact ⟨n,rfl,hs,rfl,rfl⟩
 ·rw [if_neg hs] at h; cases h
theorem Z3j {a:Ex} (ha:EOk W a):ItOk W (.range1 a):=fun g p c st μ s hk hg I=>
 Z5o (.inr ⟨_,rfl⟩) Z4e (by decide) hg I (and2 hk).1 (Z0c a _) (ha g _ c st μ s (and2 hk).2 hg I) fun x st₁ u μ₁ s₁ rx I₁=>Sim.ok fun xs st' h=>by
  refine El.x1_4 (Zc5 h) fun m e1 hs e2 e3=>?_
  subst e1; subst e2; subst e3
  refine El.x1_1 (RepV.int_inv rx) fun t e=>?_
  subst e
  exact Sim.leaf I₁ (call_range_1 ⟨.push _,⟨rfl,rfl,rfl⟩,Z5t hg.hh (IsRange.new ..) (by decide) hs⟩)
theorem Z3k {a b:Ex} (ha:EOk W a) (hb:EOk W b):ItOk W (.range2 a b):=fun g p c st μ s hk hg I=>
 Z5p (.inr ⟨_,rfl⟩) Z4e (by decide) hg I (and2 hk).1 ha hb (and2 (and2 hk).2).1 (and2 (and2 hk).2).2 fun x y st₁ u v μ₁ s₁ rx ry I₁ _=>Sim.ok fun xs st' h=>by
  obtain ⟨lo,hi,rfl,rfl,hs,rfl,rfl⟩:=Z9M h
  obtain ⟨t,rfl⟩:=RepV.int_inv rx
  obtain ⟨t',rfl⟩:=RepV.int_inv ry
  exact Sim.leaf I₁ (call_range_2 ⟨.push _,⟨rfl,rfl,rfl⟩,Z5t hg.hh (IsRange.new ..) (and2 hs).1 (and2 hs).2⟩)
theorem Z71 {i:Nat} {it:It} {body:Sms} (hi:ItOk W it) (hb:SsOk W K body):SOk W K (.for1 i it body):=fun g p c st μ s hk hg I=>Sim.ok fun fl stF hr=>by
 refine El.x2_2 (R.bind_inv hr) fun xs st₁ hR hr=>?_
 have hI:=hi g _ c st μ s (and2 (and2 hk).2).1 hg I
 rw [hR] at hI
 refine wpAny_For (wpAny_mono hI (fun v s₁ q8=>El.x1_4 q8 fun μ₁ rs I₁ S₁ Q₁=>?_) fun _ _ e=>e) (Z24 it _ _)
 refine rs s₁ _ rfl fun it fp wr Sp s₂ X₂ Q₂ W' hst=>?_
 refine codeAny_mono (Z6a (target:=.Name (nmOf (skid p 0)) (skid p 0).pos) (body:=pSs body (blk p)) (as:=fun y st=>.ok () (setV st i y)) (bd:=fun st=>evSs W.F K body st) (st₀:=st₁) (s₀:=s₁) (s₁:=s₂) W' hst
  (fun y v st μ s r I=>Sim.imp (fun Q h=>wpAny_assign_Name h) (Z0Q hg.nm (and2 hk).1 I r)) (fun st μ s I=>hb g _ c st μ s (and2 (and2 hk).2).2 hg I) I₁ X₂ Q₂ (fl:=fl) (stF:=stF) hr (fun _=>rfl)) fun r s' hr'=>?_
 cases r with
 | ok f=>exact El.x1_4 hr' fun μ' g1 g2 g3 g4=>⟨μ',g1,g2,S₁.trans g3,Q₁.trans g4⟩
 | error e=>exact hr'.elim
end
theorem Inv.frozen {c:Cx} {st:St} {μ:List Addr} {h:Heap} (I:Inv c st μ h) {n:Nat} {xs:List V} (hn:st.σ[n]? = some (.lst xs)) :
  Inv c ⟨st.ρ,st.σ.set n .dead⟩ μ h∧Stp c st.σ μ h (st.σ.set n .dead) μ h∧∀ v,RepV (Tr st.σ μ) μ h v (.ref n)→RepV (Tr (st.σ.set n .dead) μ) μ h v (.lst xs):=by
 have hlt:n < st.σ.length:=(List.getElem?_eq_some_iff.mp hn).1
 have sub:∀ b,Tr (st.σ.set n .dead) μ b→Tr st.σ μ b:=by
  intro b q0z
  refine El.x2_3 q0z fun k o e1 e2 e3=>?_
  by_cases hk:n = k
  ·try clear q0z
   subst hk
   have e4:O.dead = o:=by simpa [hlt] using e1
   subst e4; cases e2
  ·rw [List.getElem?_set_ne hk] at e1; exact ⟨k,o,e1,e2,e3⟩
 have S:Stp c st.σ μ h (st.σ.set n .dead) μ h:=⟨Nat.le_refl _,fun _ _ e _ _=>e,fun _ _ e=>e,fun b q=>.inl (sub b q),fun _ q=>.inl q,Z45 hn (by simp),fun _ _ _ _ _ e=>e⟩
 have mv:∀ {v:Value} {x:V},RepV (Tr st.σ μ) μ h v x→RepV (Tr (st.σ.set n .dead) μ) μ h v x:=fun r=>r.move (fun a o e _ hT=>⟨e,fun q=>hT (sub a q)⟩) fun _ _ q=>q
 have mvs:∀ {v:List Value} {x:List V},RepVs (Tr st.σ μ) μ h v x→RepVs (Tr (st.σ.set n .dead) μ) μ h v x:=fun r=>r.move (fun a o e _ hT=>⟨e,fun q=>hT (sub a q)⟩) fun _ _ q=>q
 refine ⟨⟨fun j x q=>?_,I.slots,fun k o q=>?_,by simpa using I.len,I.nd,I.lt,I.base,I.baseS,I.baseM,I.sep,Z6B I.kd trivial⟩,S,?_⟩
 ·refine El.x2_3 (I.vars j x q) fun s v g1 g2 g3=>?_
  exact ⟨s,v,g1,g2,mv g3⟩
 ·dsimp only at q ⊢
  by_cases hk:n = k
  ·try clear g3; try clear g2; try clear g1; try clear s; try clear x; try clear j; try clear mv; try clear S; try clear b; try clear sub
   subst hk
   have e4:O.dead = o:=by simpa [hlt] using q
   subst e4
   refine El.x1_2 (I.objs n _ hn) fun a ha _=>?_
   exact ⟨a,ha,.dead⟩
  ·rw [List.getElem?_set_ne hk] at q
   refine El.x1_2 (I.objs k o q) fun a ha r=>?_
   refine ⟨a,ha,?_⟩
   exact r.map (fun _ ho=>ho) fun _ _ r=>(mvs r)
 ·intro v r
  refine El.x1_2 r.refI fun a9 e9 ha=>?_
  try clear a9; try clear a; try clear v; try clear q
  subst e9
  refine El.x1_2 (I.objs n _ hn) fun a' ha' ro=>?_
  try clear a'; try clear e9
  obtain rfl:=Option.some.inj (ha.symm.trans ha')
  refine El.x2_3 ro.lst_inv fun vs nn ho hz r=>?_
  refine .lst ho rfl rfl hz ?_ (mvs r)
  intro q1z
  refine El.x2_3 q1z fun k o e1 e2 e3=>?_
  have:n = k:=(List.getElem?_inj (List.getElem?_eq_some_iff.mp ha).1 I.nd).mp (ha.trans e3.symm)
  try clear q1z; try clear hz; try clear ho; try clear nn; try clear vs; try clear ro; try clear ha'; try clear r; try clear ha; try clear mvs; try clear e3; try clear k
  subst this
  have e4:O.dead = o:=by simpa [hlt] using e1
  try clear e1; try clear o; try clear hlt
  subst e4; cases e2
theorem Z2p {f:Str→Addr}:∀ {l:List (Str × Addr)} {y:Str},(∀ p ∈ l,p.2 = f p.1)→(∃ p ∈ l,p.1 = y)→l.lookup y = some (f y)
 | [],_,_,⟨p,hp,_⟩=>by simp at hp
 | (n,a) :: r,y,h,⟨p,hp,e⟩=>by
  rw [List.lookup_cons]
  by_cases hy:y = n
  ·subst hy
   simp only [beq_self_eq_true]
   rw [show a = f y from h (y,a) (by simp)]
  ·have hb:(y == n) = false:=by simp [hy]
   simp only [hb]
   refine Z2p (fun q hq=>h q (by simp [hq])) ?_
   try clear hb
   rcases List.mem_cons.mp hp with rfl | hp
   ·exact (hy e.symm).elim
   ·exact ⟨p,hp,e⟩
noncomputable def Z41 (env:Env) (n:Str):Addr:=(env.cells.lookup n).getD 0
noncomputable def Z3l (env:Env):List (Str × NameKind)→List (Str × Addr)→List (Str × Addr)
 | [],cs=>cs
 | (n,k) :: r,cs=>Z3l env r (if k == .free then (n,Z41 env n) :: cs else cs)
theorem Z4f (env:Env) (n:Str) (k:NameKind) (r:List (Str × NameKind)) (cs:List (Str × Addr)):Z3l env ((n,k) :: r) cs = Z3l env r (if k == .free then (n,Z41 env n) :: cs else cs):=rfl
theorem Z3m (env:Env):∀ (names:List (Str × NameKind)) (cs:List (Str × Addr)),(∀ p ∈ cs,p.2 = Z41 env p.1)→∀ p ∈ Z3l env names cs,p.2 = Z41 env p.1
 | [],_,h=>h
 | (n,k) :: r,cs,h=>Z3m env r _ (by
   split
   ·intro p hp
    rcases List.mem_cons.mp hp with rfl | hp
    ·rfl
    ·exact h p hp
   ·exact h)
theorem Z3n (env:Env) {y:Str}:∀ (names:List (Str × NameKind)) (cs:List (Str × Addr)),((∃ p ∈ cs,p.1 = y) ∨ (y,NameKind.free) ∈ names)→∃ p ∈ Z3l env names cs,p.1 = y
 | [],_,h=>h.elim id fun h=>by simp at h
 | (n,k) :: r,cs,h=>Z3n env r _ (by
   rcases h with ⟨p,hp,e⟩ | h
   ·refine .inl ⟨p,?_,e⟩
    split
    ·exact List.mem_cons_of_mem _ hp
    ·exact hp
   ·rcases List.mem_cons.mp h with h | h
    ·cases h
     exact .inl ⟨(y,Z41 env y),by simp,rfl⟩
    ·exact .inr h)
theorem Z2q {α:Type}:∀ {l:List (Str × α)} {y:Str} {k:α},l.lookup y = some k→(y,k) ∈ l
 | [],_,_,h=>by simp at h
 | (n,a) :: r,y,k,h=>by
  rw [List.lookup_cons] at h
  by_cases hy:y = n
  ·subst hy
   simp at h; subst h; simp
  ·have hb:(y == n) = false:=by simp [hy]
   simp only [hb] at h
   exact List.mem_cons_of_mem _ (Z2q h)
theorem Z5u {env:Env} {scope:Scope} (h:∀ p ∈ scope.names,p.2 = .free→∃ a,env.cells.lookup p.1 = some a):closureFor scope env = pure (Z3l env scope.names []):=by
 have go:∀ (names:List (Str × NameKind)) (cs:List (Str × Addr)),(∀ p ∈ names,p.2 = .free→∃ a,env.cells.lookup p.1 = some a) →
   (forIn names cs fun (x:Str × NameKind) cs=>(if x.2 == NameKind.free then do let a ← cellOf env x.1; pure (ForInStep.yield ((x.1,a) :: cs)) else pure (ForInStep.yield cs):Sem (ForInStep (List (Str × Addr))))) = pure (Z3l env names cs):=by
  intro names
  induction names with
  | nil=>intro cs _; rfl
  | cons p r ih=>
   intro cs h
   obtain ⟨n,k⟩:=p
   rw [List.forIn_cons]
   by_cases hk:k = .free
   ·try clear names
    subst hk
    refine El.x1_1 (h (n,.free) (by simp) rfl) fun a ha=>?_
    have hc:cellOf env n = pure a:=by unfold cellOf; simp only [ha]
    have hf:Z41 env n = a:=by unfold Z41; rw [ha]; rfl
    simp only [beq_self_eq_true,if_true,hc,Z4f,hf]
    exact ih _ fun p hp=>h p (by simp [hp])
   ·have hb:(k == NameKind.free) = false:=by simp [hk]
    simp only [hb,Bool.false_eq_true,if_false,Z4f]
    exact ih _ fun p hp=>h p (by simp [hp])
 unfold closureFor
 have:=go scope.names [] h
 exact congrArg (fun t:Sem (List (Str × Addr))=>t >>= fun cs=>pure cs) this
noncomputable def Cx.comp (c:Cx) (scope:Scope) (C:Addr) (x:Str) (k:Nat):Cx :=
 { c with env:=compEnvC scope (Z3l c.env scope.names []) C c.env,sl:=fun i=>if i = k then some (.d C x) else c.sl i }
section
variable {c:Cx} {scope:Scope} {C:Addr} {x:Str} {k:Nat} {st:St} {μ:List Addr} {h h':Heap}
theorem Z2R {b:Addr} (q:Own (c.comp scope C x k) b):b = C ∨ Own c b:=by
 refine El.x2_2 q fun i s h1 h2=>?_
 by_cases hi:i = k
 ·have e:some (Slot.d C x) = some s:=by simpa [Cx.comp,hi] using h1
  cases e; exact .inl h2.symm
 ·exact .inr ⟨i,s,by simpa [Cx.comp,hi] using h1,h2⟩
theorem Inv.enter (I:Inv c st μ h) (hC:h.objs.size ≤ C) (X:Ext h h') (hn:∃ m,h'.Ns C m):Inv (c.comp scope C x k) ⟨st.ρ.set k none,st.σ⟩ μ h':=by
 have I':=I.ext X
 refine ⟨fun i y q=>?_,fun i s q=>?_,I'.objs,I.len,I.nd,I'.lt,I'.base,fun b q=>?_,I.baseM,fun b q m=>?_,I.kd⟩
 ·dsimp only at q
  by_cases hi:k = i
  ·subst hi
   rw [List.getElem?_set] at q
   simp only [if_true] at q
   split at q <;> cases q
  ·rw [List.getElem?_set_ne hi] at q
   refine El.x2_3 (I'.vars i y q) fun s v g1 g2 g3=>?_
   exact ⟨s,v,by simpa [Cx.comp,Ne.symm hi] using g1,g2,g3⟩
 ·by_cases hi:i = k
  ·have e:some (Slot.d C x) = some s:=by simpa [Cx.comp,hi] using q
   cases e; exact hn
  ·exact I'.slots i s (by simpa [Cx.comp,hi] using q)
 ·try clear e; try clear g3; try clear g2; try clear g1; try clear v; try clear s; try clear y; try clear i
  rcases Z2R q with rfl | q
  ·show c.base.get? b = none
   cases hb:c.base.get? b with
   | none=>rfl
   | some o=>exact absurd (Nat.lt_of_lt_of_le (Heap.lt_size (I.base _ _ hb)) hC) (Nat.lt_irrefl _)
  ·exact I.baseS b q
 ·rcases Z2R q with rfl | q
  ·exact Nat.lt_irrefl _ (Nat.lt_of_lt_of_le (I.lt b m) hC)
  ·exact I.sep b q m
theorem Inv.leave (I:Inv (c.comp scope C x k) st μ h) (hk:c.sl k = none) (hCo:¬ Own c C) (hs:Heap.SameBut C h h'):Inv c ⟨st.ρ.set k none,st.σ⟩ μ h':=by
 have oc:Own (c.comp scope C x k) C:=⟨k,.d C x,by simp [Cx.comp],rfl⟩
 have I₁:Inv c ⟨st.ρ.set k none,st.σ⟩ μ h:=by
  refine ⟨fun i y q=>?_,fun i s q=>?_,I.objs,I.len,I.nd,I.lt,I.base,fun b q=>?_,I.baseM,fun b q=>?_,I.kd⟩
  ·dsimp only at q
   by_cases hi:k = i
   ·subst hi
    rw [List.getElem?_set] at q
    simp only [if_true] at q
    split at q <;> cases q
   ·rw [List.getElem?_set_ne hi] at q
    refine El.x2_3 (I.vars i y q) fun s v g1 g2 g3=>?_
    exact ⟨s,v,by simpa [Cx.comp,Ne.symm hi] using g1,g2,g3⟩
  ·have hi:i ≠ k:=fun e=>by rw [e,hk] at q; cases q
   exact I.slots i s (by simpa [Cx.comp,hi] using q)
  ·refine El.x2_2 q fun i s h1 h2=>?_
   have hi:i ≠ k:=fun e=>by rw [e,hk] at h1; cases h1
   exact I.baseS b ⟨i,s,by simpa [Cx.comp,hi] using h1,h2⟩
  ·refine El.x2_2 q fun i s h1 h2=>?_
   have hi:i ≠ k:=fun e=>by rw [e,hk] at h1; cases h1
   exact I.sep b ⟨i,s,by simpa [Cx.comp,hi] using h1,h2⟩
 refine I₁.but (wr:=[C]) (fun b o hb e=>(hs.2 b (fun q=>hb (by simp [q]))).trans e) (Nat.le_of_eq hs.1.symm) (fun b q=>?_) (fun b q=>?_) (fun b q=>?_) (fun b q=>?_)
 ·rw [List.mem_singleton.mp q]
  refine El.x1_1 (Z1c I oc) fun o ho=>?_
  exact ⟨o,ho,I.own_data oc ho⟩
 ·rw [List.mem_singleton.mp q]; exact hCo
 ·rw [List.mem_singleton.mp q]; exact I.sep C oc
 ·rw [List.mem_singleton.mp q]; exact I.baseS C oc
theorem Stp.inner {c':Cx} {σ₀ σ₁ σ₂:List O} {μ₀ μ₁ μ₂:List Addr} {h₀ h₁ h₂:Heap} (S:Stp c σ₀ μ₀ h₀ σ₁ μ₁ h₁) (S':Stp c' σ₁ μ₁ h₁ σ₂ μ₂ h₂) (ho:∀ b,Own c' b→Own c b ∨ h₀.objs.size ≤ b):Stp c σ₀ μ₀ h₀ σ₂ μ₂ h₂ where
 size:=Nat.le_trans S.size S'.size
 keep:=fun b o e h1 h2=>S'.keep b o (S.keep b o e h1 h2) (fun q=>(ho b q).elim h1 fun q=>Nat.lt_irrefl _ (Nat.lt_of_lt_of_le (Heap.lt_size e) q))
  fun q=>(S.tr b q).elim h2 fun q=>Nat.lt_irrefl _ (Nat.lt_of_lt_of_le (Heap.lt_size e) q)
 pre:=fun n a e=>S'.pre n a (S.pre n a e)
 tr:=fun b q=>(S'.tr b q).elim (fun q=>S.tr b q) fun q=>.inr (Nat.le_trans S.size q)
 new:=fun a q=>(S'.new a q).elim (fun q=>S.new a q) fun q=>.inr (Nat.le_trans S.size q)
 pv:=fun n e=>S'.pv n (S.pv n e)
 pk:=fun n a o e e' e''=>S'.pk n a o (S.pv n e) (S.pre n a e') (S.pk n a o e e' e'')
end
theorem Z1f {y:Str} {i:Nat} {p:Str × Nat→Bool}:∀ {l:List (Str × Nat)},(∀ a b:Str × Nat,a.1 = b.1→p a = p b)→(l.filter p).lookup y = some i→l.lookup y = some i∧p (y,i) = true
 | [],_,h=>by simp at h
 | (n,a) :: r,hp,h=>by
  rw [List.filter_cons] at h
  by_cases hq:p (n,a) = true
  ·rw [if_pos hq,List.lookup_cons] at h
   rw [List.lookup_cons]
   by_cases hy:y = n
   ·subst hy
    simp at h ⊢
    subst h
    exact ⟨rfl,hq⟩
   ·have hb:(y == n) = false:=by simp [hy]
    simp only [hb] at h ⊢
    exact Z1f hp h
  ·rw [if_neg hq] at h
   refine El.x0_2 (Z1f hp h) fun h1 h2=>?_
   rw [List.lookup_cons]
   have hy:y ≠ n:=fun e=>hq ((hp (n,a) (y,i) e.symm).trans h2)
   have hb:(y == n) = false:=by simp [hy]
   simp only [hb]
   exact ⟨h1,h2⟩
theorem Z0R {g:Gm}:∀ {names:List (Str × NameKind)} {y:Str},names.lookup y = some .free→g.sc.kind = .function→g.sc.names.lookup y = some .cell →
  (names.map fun p=>if Z1m g p.1 p.2 then (p.1,NameKind.cell) else (p.1,p.2)).lookup y = some .cell
 | [],_,h,_,_=>by simp at h
 | (n,k) :: r,y,h,h1,h2=>by
  rw [List.map_cons]
  by_cases hy:y = n
  ·subst hy
   simp at h
   subst h
   have:Z1m g y .free = true:=by simp [Z1m,h1,h2]
   simp [this]
  ·have hb:(y == n) = false:=by simp [hy]
   rw [List.lookup_cons] at h
   simp only [hb] at h
   have ih:=Z0R h h1 h2
   dsimp only
   split
   ·rw [List.lookup_cons]; simp only [hb]; exact ih
   ·rw [List.lookup_cons]; simp only [hb]; exact ih
theorem Z0S {g:Gm}:∀ {names:List (Str × NameKind)} {y:Str},(∀ p ∈ names,p.2 ≠ .cell)→(names.map fun p=>if Z1m g p.1 p.2 then (p.1,NameKind.cell) else (p.1,p.2)).lookup y = some .cell→names.lookup y = some .free
 | [],_,_,h=>by simp at h
 | (n,k) :: r,y,hc,h=>by
  rw [List.map_cons] at h
  rw [List.lookup_cons]
  by_cases hy:y = n
  ·subst hy
   simp only [beq_self_eq_true]
   by_cases ho:Z1m g y k = true
   ·unfold Z1m at ho
    simp at ho
    rw [ho.1.1]
   ·rw [if_neg ho,List.lookup_cons] at h
    simp at h
    exact (hc (y,k) (by simp) h).elim
  ·have hb:(y == n) = false:=by simp [hy]
   simp only [hb]
   refine Z0S (g:=g) (fun p hp=>hc p (by simp [hp])) ?_
   dsimp only at h
   split at h
   ·rw [List.lookup_cons] at h; simpa only [hb] using h
   ·rw [List.lookup_cons] at h; simpa only [hb] using h
theorem Z72 {c:Cx} {g:Gm} (N:Nm c g) (scope:Scope):relabel scope c.env = Z5V g scope:=by
 unfold relabel Z5V Z1m Env.kindOf
 rw [N.sc]
structure CompOk (g:Gm) (scope:Scope) (x:Str) (k:Nat):Prop where
 kind:scope.kind = .function
 loc:scope.names.lookup x = some .local
 nocell:∀ p ∈ scope.names,p.2 ≠ .cell
 plain:Z11 x = true
 fresh:k ∉ g.used
 free:∀ p ∈ scope.names,p.2 = .free→g.sc.names.lookup p.1 = some .cell
 lname:∀ p ∈ scope.names,p.2 = .local→scope.names.lookup p.1 = some .local
theorem Z2I {α:Type}:∀ {l:List (Str × α)} {y:Str} {k:α},(l.map (·.1)).Nodup→(y,k) ∈ l→l.lookup y = some k
 | [],_,_,_,h=>by simp at h
 | (n,a) :: r,y,k,hn,h=>by
  rw [List.lookup_cons]
  rw [List.map_cons,List.nodup_cons] at hn
  rcases List.mem_cons.mp h with h | h
  ·cases h; simp
  ·have hy:y ≠ n:=fun e=>hn.1 (List.mem_map.mpr ⟨(y,k),h,e⟩)
   have hb:(y == n) = false:=by simp [hy]
   simp only [hb]
   exact Z2I hn.2 h
theorem Z3o {g:Gm} {scope:Scope} {x:Str} {k:Nat} (h:Z8w g scope x k = true):CompOk g scope x k:=by
 unfold Z8w at h
 simp only [Bool.and_eq_true,decide_eq_true_eq,List.all_eq_true] at h
 obtain ⟨⟨⟨⟨⟨⟨⟨⟨⟨h1,h2⟩,h3⟩,h4⟩,h5⟩,h6⟩,h7⟩,h8⟩,h9⟩,h10⟩:=h
 refine ⟨h1,h2,fun p hp e=>?_,h4,?_,fun p hp e=>?_,fun p hp e=>Z2I h10 (by rw [← e]; exact hp)⟩
 ·have:=h3 p hp; simp [e] at this
 ·simpa using h5
 ·have:=h8 p hp; simpa [e] using this
theorem Nm.enter {c:Cx} {g:Gm} {scope:Scope} {x:Str} {k:Nat} {C:Addr} (N:Nm c g) (O:CompOk g scope x k) (hC:¬ Own c C):Nm (c.comp scope C x k) (g.comp scope x k) where
 sc:=Z72 N scope
 kind:=O.kind
 glob:=N.glob
 blt:=N.blt
 var:=by
  intro y i hl
  unfold Gm.comp at hl ⊢
  dsimp only at hl ⊢
  rw [List.lookup_cons] at hl
  by_cases hy:y = x
  ·subst hy
   simp at hl
   subst hl
   refine .inl ⟨?_,by simp [Cx.comp,compEnvC]⟩
   have:=lookup_relabel_local (env:=c.env) O.loc
   have e:=Z72 N scope
   unfold relabel at e
   rw [← e]
   exact this
  ·have hb:(y == x) = false:=by simp [hy]
   simp only [hb] at hl
   obtain ⟨h1,h2⟩:=Z1f (by rintro ⟨a1,a2⟩ ⟨b1,b2⟩ e; dsimp only at e; subst e; rfl) hl
   simp at h2
   refine El.x0_2 h2 fun q10z h4=>?_
   refine El.x0_2 q10z fun _ h3=>?_
   rcases N.var y i h1 with ⟨k1,_⟩ | ⟨k1,a,k2,k3⟩
   ·rw [h4] at k1; cases k1
   ·refine .inr ⟨Z0R h3 N.kind h4,a,?_,?_⟩
    ·show (Z3l c.env scope.names []).lookup y = some a
     rw [Z2p (f:=Z41 c.env) (Z3m _ _ _ (by simp)) (Z3n _ _ _ (.inr (Z2q h3)))]
     unfold Z41; rw [k2]; rfl
    ·have hi:i ≠ k:=fun e=>O.fresh (e ▸ N.dom i _ k3)
     simpa [Cx.comp,hi] using k3
 apart:=by
  intro i j s h1 h2
  by_cases hi:i = k
  ·by_cases hj:j = k
   ·rw [hi,hj]
   ·have e:some (Slot.d C x) = some s:=by simpa [Cx.comp,hi] using h1
    try clear h3; try clear h4; try clear q10z; try clear hb; try clear hl
    cases e
    exact (hC ⟨j,.d C x,by simpa [Cx.comp,hj] using h2,rfl⟩).elim
  ·by_cases hj:j = k
   ·have e:some (Slot.d C x) = some s:=by simpa [Cx.comp,hj] using h2
    cases e
    exact (hC ⟨i,.d C x,by simpa [Cx.comp,hi] using h1,rfl⟩).elim
   ·exact N.apart i j s (by simpa [Cx.comp,hi] using h1) (by simpa [Cx.comp,hj] using h2)
 dom:=by
  intro i s h1
  by_cases hi:i = k
  ·try clear j; try clear h2; try clear e
   subst hi; exact List.mem_cons_self
  ·exact List.mem_cons_of_mem _ (N.dom i s (by simpa [Cx.comp,hi] using h1))
 cells:=fun y hy=>⟨_,Z2p (f:=Z41 c.env) (Z3m _ _ _ (by simp)) (Z3n _ _ _ (.inr (Z2q (Z0S O.nocell hy))))⟩
theorem Good.enter {W:Wo} {c:Cx} {g:Gm} {scope:Scope} {x:Str} {k:Nat} {C:Addr} (hg:Good W c g) (O:CompOk g scope x k) (hC:¬ Own c C):Good W (c.comp scope C x k) (g.comp scope x k) :=
 ⟨⟨hg.ok.pyl,hg.ok.hh,hg.ok.units,hg.ok.sys⟩,hg.gd,hg.nm.enter O hC,hg.a,hg.gs,hg.fn,fun x k e=>by cases e⟩
noncomputable def Z1p (env:Env) (py:List Expr) (b:Bool):Sem Bool:=forIn py b fun q r=>if r = true then do let ok ← isTrue q env (eval q env); pure (ForInStep.yield ok) else pure (ForInStep.yield r)
noncomputable def TsOk (W:Wo) (es:Exs):Prop:=∀ (g:Gm) (ps:List Expr) (c:Cx) (st:St) (μ:List Addr) (s:Shared),okEs g es ps = true→Good W c g→Inv c st μ s.heap→Sim c (Z1p c.env (pEs es ps) true) (evTs W.F es st) rEq st.σ μ s
section
variable {W:Wo}
theorem Z3p (env:Env):∀ py:List Expr,Z1p env py false = pure false
 | []=>rfl
 | x :: xs=>by
  unfold Z1p
  rw [List.forIn_cons]
  simp only [Bool.false_eq_true,if_false]
  exact Z3p env xs
theorem Z4Q:TsOk W .nil:=fun _ _ _ _ _ _ _ _ I=>Sim.pure I rfl
theorem Z7H (env:Env) (q:Expr) (qs:List Expr):Z1p env (q :: qs) true = (isTrue q env (eval q env) >>= fun b=>Z1p env qs b):=by
 unfold Z1p
 rw [List.forIn_cons,if_pos rfl,bind_assoc]
 rfl
theorem Z3q {e:Ex} {es:Exs} (he:TOk W e) (hes:TsOk W es):TsOk W (.cons e es):=fun g ps c st μ s hk hg I=>
 Sim.of_eq (Z7H ..) (Sim.eq (he g _ c st μ s (and2 hk).1 hg I) fun b st₁ μ₁ s₁ _ I₁ _=>by
  cases b with
  | true=>exact hes g _ c st₁ μ₁ s₁ (and2 hk).2 hg I₁
  | false=>exact Sim.of_eq (Z3p c.env _) (Sim.pure I₁ rfl))
structure CLi (c:Cx) (wr:List Addr) (Sp:Nat→Heap→Prop) (σ₀:List O) (μ₀:List Addr) (h₀:Heap) (st₁:St) (μ₁:List Addr) (s₁:Shared) (m:Nat) (D:Addr) (i:Nat) (st:St) (μ:List Addr) (s:Shared):Prop where
 sp:Sp i s.heap
 inv:Inv c st μ s.heap
 mem:∀ b ∈ wr,b ∉ μ
 kp:Kp σ₀ μ₀ h₀ st.σ μ s.heap
 stp:Stp c st₁.σ μ₁ h₀ st.σ μ s.heap
 same:Same s₁ s
 at':μ[m]? = some D
section
variable {c:Cx} {k m:Nat} {xs:List V} {it D:Addr} {fp wr:List Addr} {Sp:Nat→Heap→Prop} {σ₀:List O} {μ₀:List Addr} {h₀:Heap} {s₁:Shared} {st₁:St} {μ₁:List Addr}
theorem CLi.step (W:Itr c.prog c.w c.A it fp wr xs σ₀ μ₀ h₀ Sp) (own:∀ b ∈ wr,¬ Own c b) {i:Nat} {st st':St} {μ μ':List Addr} {s s':Shared} (X:CLi c wr Sp σ₀ μ₀ h₀ st₁ μ₁ s₁ m D i st μ s) (I:Inv c st' μ' s'.heap) (S:Stp c st.σ μ s.heap st'.σ μ' s'.heap) (Q:Same s s'):CLi c wr Sp σ₀ μ₀ h₀ st₁ μ₁ s₁ m D i st' μ' s' :=
 El.x0_2 (W.keep own X.mem X.inv X.kp S X.sp) fun h1 h2=>⟨h1,I,h2,X.kp.trans (S.kp X.inv),X.stp.trans S,X.same.trans Q,S.pre _ _ X.at'⟩
theorem CLi.sim (W:Itr c.prog c.w c.A it fp wr xs σ₀ μ₀ h₀ Sp) (own:∀ b ∈ wr,¬ Own c b) {i:Nat} {st st':St} {μ:List Addr} {s:Shared} (X:CLi c wr Sp σ₀ μ₀ h₀ st₁ μ₁ s₁ m D i st μ s) {α β:Type} {t:Sem α} {b:β} {rel:St→List Addr→Heap→α→β→Prop} {mm:R β} (hs:Sim c t mm rel st.σ μ s) (e:mm = .ok b st') {Q:α→Shared→Prop} {E:Value→Shared→Prop} (h:∀ a μ' s',rel st' μ' s'.heap a b→CLi c wr Sp σ₀ μ₀ h₀ st₁ μ₁ s₁ m D i st' μ' s'→Q a s'):wpAny (model c.prog c.w) c.A t Q E s:=by
 rw [e] at hs
 exact wpAny_mono hs (fun a s' q=>El.x1_4 q fun μ' r I S Q=>h a μ' s' r (X.step W own I S Q)) fun _ _ e=>e.elim
end
theorem Z5v {c:Cx} {g:Gm} {elt iter:Expr} {x:Str} {px:Pos} {fs:List Expr} {scope:Scope} {pos:Pos} {k m:Nat} {xs:List V} {tests:St→R Bool} {ev:St→R V} {it D:Addr} {fp wr:List Addr} {Sp:Nat→Heap→Prop}
  {σ₀:List O} {μ₀:List Addr} {h₀:Heap} {s₁:Shared} {st₁:St} {μ₁:List Addr} (W:Itr c.prog c.w c.A it fp wr xs σ₀ μ₀ h₀ Sp) (start:Sp 0 s₁.heap) (K₁:Kp σ₀ μ₀ h₀ st₁.σ μ₁ s₁.heap)
  (N:Nm c g) (hx:g.lv x k = true) (hD:μ₁[m]? = some D) (I₁:Inv c st₁ μ₁ s₁.heap) (own:∀ b ∈ wr,¬ Own c b) (mem₁:∀ b ∈ wr,b ∉ μ₁) (bs:∀ b ∈ wr,c.base.get? b = none)
  (hT:∀ st μ (s:Shared),Inv c st μ s.heap→Sim c (Z1p c.env fs true) (tests st) rEq st.σ μ s)
  (hE:∀ st μ (s:Shared),Inv c st μ s.heap→Sim c (eval elt c.env) (ev st) rV st.σ μ s)
  {stF:St} (hr:Z2M k m tests ev xs st₁ = .ok () stF) {Rs:Result→Shared→Prop}
  (hR:∀ s' μ',Inv c stF μ' s'.heap→Kp σ₀ μ₀ h₀ stF.σ μ' s'.heap→Stp c st₁.σ μ₁ h₀ stF.σ μ' s'.heap→Same s₁ s'→μ'[m]? = some D→Rs (.ok .next) s') (S₁:Stp c st₁.σ μ₁ h₀ st₁.σ μ₁ s₁.heap) :
  codeAny (model c.prog c.w) c.A (.compLoop (.ListComp elt [⟨.Name x px,iter,fs,0⟩] scope pos) 0 (.ref it) (.ref D) c.env) Rs s₁:=by
 obtain ⟨J,hJ⟩:∃ J:Nat→Shared→Prop,∀ j s',J j s'↔∃ i st μ,j = xs.length + 1 - i∧i ≤ xs.length∧Z2M k m tests ev (xs.drop i) st = .ok () stF∧CLi c wr Sp σ₀ μ₀ h₀ st₁ μ₁ s₁ m D i st μ s':=⟨_,fun _ _=>Iff.rfl⟩
 refine codeAny_compLoop_tests J (fun j s' hJj=>El.x3_4 ((hJ j s').mp hJj) fun i st μ ej hi hf X=>?_) (xs.length + 1) ((hJ _ _).mpr ⟨0,st₁,μ₁,rfl,Nat.zero_le _,hr,start,I₁,mem₁,K₁,S₁,.refl,hD⟩)
 rw [ej]
 clear hJj ej
 by_cases hlt:i < xs.length
 ·rw [List.drop_eq_getElem_cons hlt,Z47] at hf
  refine wpAny_mono (W.item i xs[i] s' st.σ μ _ (List.getElem?_eq_getElem hlt) X.sp X.kp fun v h' tk hk hsz hst' rv=>?_) (fun _ _ q=>q) fun _ _ e=>(e:False).elim
  have X:CLi c wr Sp σ₀ μ₀ h₀ st₁ μ₁ s₁ m D (i + 1) st μ { s' with heap:=h',toks:=tk }:=⟨hst',X.inv.but hk hsz (W.odd i _ X.sp) own X.mem bs,X.mem,X.kp.but W.wrn hk hsz,X.stp.but W.wrn hk hsz,X.same,X.at'⟩
  refine X.sim W own (Sim.imp (fun Q h=>wpAny_assign_Name h) (Z0Q N hx X.inv rv)) rfl fun _ μ₂ s₂ _ X=>?_
  refine El.x2_2 (R.bind_inv hf) fun b st₃ hT' hf=>X.sim W own (hT _ μ₂ s₂ X.inv) hT' fun b' μ₃ s₃ rb X=>?_
  cases rb
  cases b with
  | false=>exact ⟨xs.length + 1 - (i + 1),dec1 hlt,(hJ _ _).mpr ⟨i + 1,st₃,μ₃,rfl,hlt,hf,X⟩⟩
  | true=>
   refine El.x2_2 (R.bind_inv hf) fun z st₄ hE' hf=>X.sim W own (hE st₃ μ₃ s₃ X.inv) hE' fun u μ₄ s₄ ru X=>?_
   have hf:(match st₄.σ[m]? with | some (.lst acc)=>if acc.length < sizeLine then Z2M k m tests ev (xs.drop (i + 1)) ⟨st₄.ρ,st₄.σ.set m (.lst (acc++[z]))⟩ else .stuck | _=>.stuck:R Unit) = .ok () stF:=hf
   cases ha:lstO st₄.σ[m]? with
   | none=>
    exfalso
    cases hm:st₄.σ[m]? with
    | none=>rw [hm] at hf; cases hf
    | some o=>rw [hm] at hf ha; cases o <;> first | cases hf | cases ha
   | some acc=>
    have hacc:=Z2m ha
    rw [hacc] at hf
    refine Z7B hf fun hz hf=>X.sim W own (Zb2 (c:=c) (s:=s₄) X.inv (.ref X.at':RepV (Tr st₄.σ μ₄) μ₄ s₄.heap (.ref D) (.ref m)) ru .append) (Z0B st₄.ρ st₄.σ m acc z hacc hz) fun _ μ₅ s₅ _ X=>?_
    exact ⟨xs.length + 1 - (i + 1),dec1 hlt,(hJ _ _).mpr ⟨i + 1,_,μ₅,rfl,hlt,hf,X⟩⟩
 ·obtain rfl:i = xs.length:=eqle hi hlt
  rw [List.drop_length] at hf
  cases hf
  refine wpAny_mono (W.done s' _ X.sp fun h' tk hk hsz=>?_) (fun _ _ q=>q) fun _ _ e=>(e:False).elim
  exact hR _ μ (X.inv.but hk hsz (W.odd _ _ X.sp) own X.mem bs) (X.kp.but W.wrn hk hsz) (X.stp.but W.wrn hk hsz) X.same X.at'
end
section
variable {W:Wo} {K:Nat}
theorem Stp.inner0 {c c':Cx} {σ₀ σ₁ σ₂:List O} {μ₀ μ₁ μ₂:List Addr} {h₀ h₂:Heap} (tr:∀ b,Tr σ₁ μ₁ b→Tr σ₀ μ₀ b ∨ h₀.objs.size ≤ b) (pre:∀ (n:Nat) (a:Addr),μ₀[n]? = some a→μ₁[n]? = some a)
  (new:∀ a ∈ μ₁,a ∈ μ₀ ∨ h₀.objs.size ≤ a) (pv:∀ (n:Nat),σ₀[n]? = some O.priv→σ₁[n]? = some O.priv) (S':Stp c' σ₁ μ₁ h₀ σ₂ μ₂ h₂) (ho:∀ b,Own c' b→Own c b ∨ h₀.objs.size ≤ b):Stp c σ₀ μ₀ h₀ σ₂ μ₂ h₂ where
 size:=S'.size
 keep:=fun b o e h1 h2=>S'.keep b o e (fun q=>(ho b q).elim h1 fun q=>Nat.lt_irrefl _ (Nat.lt_of_lt_of_le (Heap.lt_size e) q))
  fun q=>(tr b q).elim h2 fun q=>Nat.lt_irrefl _ (Nat.lt_of_lt_of_le (Heap.lt_size e) q)
 pre:=fun n a e=>S'.pre n a (pre n a e)
 tr:=fun b q=>(S'.tr b q).elim (fun q=>tr b q) fun q=>.inr q
 new:=fun a q=>(S'.new a q).elim (fun q=>new a q) fun q=>.inr q
 pv:=fun n e=>S'.pv n (pv n e)
 pk:=fun n a o e e' e''=>S'.pk n a o (pv n e) (pre n a e') e''
theorem Z5w {elt:Ex} {k:Nat} {it:It} {ifs:Exs} {g:Gm} {pe iter:Expr} {x:Str} {px pos pos':Pos} {fs:List Expr} {scope:Scope} {c:Cx} {st:St} {μ:List Addr} {s:Shared} (O:CompOk g scope x k) (hg:Good W c g) (I:Inv c st μ s.heap)
  (hI:Sim c (eval iter c.env) (evIt W.F it st) (rSrc c.prog c.w c.A) st.σ μ s) (hn:∀ x,foldedSetIterable iter c.env x = pure x) (ht:∀ c,Good W c (g.comp scope x k)→∀ st μ (s:Shared),Inv c st μ s.heap→Sim c (Z1p c.env fs true) (evTs W.F ifs st) rEq st.σ μ s)
  (he:∀ c,Good W c (g.comp scope x k)→∀ st μ (s:Shared),Inv c st μ s.heap→Sim c (eval pe c.env) (evE W.F elt st) rV st.σ μ s) {y:V} {stE:St} (hv:evE W.F (.comp elt k it ifs) st = .ok y stE) {use:Option (Value→Sem Unit)} {Q:Value→Shared→Prop}
  (hU:∀ (D C:Addr) (μ':List Addr) (s':Shared),RepV (Tr stE.σ μ') μ' s'.heap (.ref D) y→Inv c stE μ' s'.heap→Stp c st.σ μ s.heap stE.σ μ' s'.heap→Same s s'→s.heap.objs.size ≤ C→¬ Own c C→C ∉ μ'→c.base.get? C = none→Odd [C] s'.heap →
   (∃ m,s'.heap.Ns C m)→compPost (model c.prog c.w) c.A (fun _ _=>False) use Q (.ref D) C (.ok .next) s') :
  wpAny (model c.prog c.w) c.A (comprehension (.ListComp pe [⟨.Name x px,iter,fs,0⟩] scope pos) scope c.env pos' (newList []) false (eval iter c.env) use) Q (fun _ _=>False) s:=by
 rw [Z6G] at hv
 refine El.x2_2 (R.bind_inv hv) fun xs st₁ hR hv=>?_
 refine El.x2_2 (R.bind_inv hv) fun u stF hr hv=>?_
 rw [hR] at hI
 split at hv
 ·rename_i ys hys
  try clear u; try clear hR
  cases hv
  have hclos:closureFor scope c.env = pure (Z3l c.env scope.names []):=Z5u fun p hp e=>by
   have hc:=O.free p hp e
   exact hg.nm.cells p.1 hc
  have hk0:c.sl k = none:=by
   cases hq:c.sl k with
   | none=>rfl
   | some s'=>exact (O.fresh (hg.nm.dom k s' hq)).elim
  refine wpAny_comprehension_free (use:=use) rfl hn hclos O.kind O.lname (wpAny_mono hI (fun v s₁ q8=>El.x1_4 q8 fun μ₁ rs I₁ S₁ Q₁=>?_) fun _ _ e=>e)
  refine rs s₁ _ rfl fun it fp wr Sp s₂ X₂ Q₂ W' hst=>?_
  refine wpAny_newObj_type (wpAny_newFunctionEnv O.nocell (by intro y hy; simp at hy) (fun h₁ hns₁ hsb₁=>?_) O.kind)
  dsimp only at hns₁ hsb₁ ⊢
  have I₂:=I₁.ext X₂
  refine El.x0_2 (I₂.track (o:={ cls:=.type "list",data:=.seq ([]:List Value).toArray }) (ob:=.lst []) rfl rfl trivial fun T hT=>.lst (Heap.get?_push_size _ rfl) (by simp) .nil) fun I₃ S₃=>?_
  generalize hH2:s₂.heap.push { cls:=.type "list",dict:=none,data:=.seq ([]:List Value).toArray } = H2 at hns₁ hsb₁ I₃ S₃ ⊢
  have hC:H2.objs.size = s₂.heap.objs.size + 1:=by rw [← hH2,Heap.size_push]
  have X₃:Ext H2 h₁:=⟨by rw [hsb₁.1,Heap.size_push]; exact Nat.le_succ _,fun b o e=>(hsb₁.2 b (Nat.ne_of_lt (Heap.lt_size e))).trans (Heap.get?_push_of_some _ e)⟩
  have X₂₃:Ext s₂.heap h₁:=⟨Nat.le_trans (by rw [hC]; exact Nat.le_succ _) X₃.1,fun b o e=>X₃.2 b o (by rw [← hH2]; exact Heap.get?_push_of_some _ e)⟩
  have I₄:=I₃.enter (scope:=scope) (x:=x) (k:=k) (C:=H2.objs.size) (Nat.le_refl _) X₃ ⟨_,hns₁⟩
  have hnC:¬ Own c H2.objs.size:=fun q=>by obtain ⟨o,ho⟩:=Z1c I₃ q; exact Nat.lt_irrefl _ (Heap.lt_size ho)
  have hg':=hg.enter O hnC
  have wall:=Z70 I₁ W'.wrn
  have wlt:∀ b ∈ wr,b < s₂.heap.objs.size:=fun b q=>by obtain ⟨o,ho,_⟩:=W'.odd 0 _ hst b q; exact Heap.lt_size ho
  have st0:Sp 0 h₁:=W'.frame 0 _ _ hst fun b _ o e=>X₂₃.2 b o e
  have X₁₃:=X₂.trans X₂₃
  have hz:s₁.heap.objs.size ≤ s₂.heap.objs.size:=X₂.1
  have trr:∀ b,Tr (st₁.σ++[.lst []]) (μ₁++[s₂.heap.objs.size]) b→Tr st₁.σ μ₁ b ∨ s₁.heap.objs.size ≤ b:=fun b q=>(S₃.tr b q).imp id fun q=>Nat.le_trans hz q
  have prr:∀ (n:Nat) (a:Addr),μ₁[n]? = some a→(μ₁++[s₂.heap.objs.size])[n]? = some a:=S₃.pre
  have nww:∀ a ∈ μ₁++[s₂.heap.objs.size],a ∈ μ₁ ∨ s₁.heap.objs.size ≤ a:=fun a q=>(S₃.new a q).imp id fun q=>Nat.le_trans hz q
  have loop:∀ s₃:Shared,s₃ = { s₂ with heap:=h₁,toks:=s₂.toks + ([]:List (Str × Value)).length } →
    codeAny (model c.prog c.w) c.A (.compLoop (.ListComp pe [⟨.Name x px,iter,fs,0⟩] scope pos) 0 (.ref it) (.ref s₂.heap.objs.size) (compEnvC scope (Z3l c.env scope.names []) H2.objs.size c.env))
     (compPost (model c.prog c.w) c.A (fun _ _=>False) use Q (.ref s₂.heap.objs.size) H2.objs.size) s₃:=by
   rintro s₃ rfl
   refine Z5v (c:=c.comp scope H2.objs.size x k) (g:=g.comp scope x k) (k:=k) (m:=st₁.σ.length) (tests:=evTs W.F ifs) (ev:=evE W.F elt) (σ₀:=st₁.σ) (μ₀:=μ₁) (h₀:=s₁.heap) W' st0 ?_ hg'.nm ?_ ?_ I₄ (fun b q o=>?_) (fun b q m=>?_) (fun b q=>(wall b q).1)
    (ht _ hg') (he _ hg') hr (fun s' μ' I' K' S' Q' hD'=>?_) (.ext X₁₃)
   ·exact ⟨X₁₃.1,fun b o e _ _=>X₁₃.2 b o e,prr,trr,fun k e=>by rw [List.getElem?_append_left (List.getElem?_eq_some_iff.mp e).1]; exact e⟩
   ·have:=O.plain
    simp [Gm.lv,Gm.comp,this]
   ·rw [← I₁.len]; simp
   ·try clear K'; try clear s₃; try clear X₁₃; try clear hg; try clear I₄; try clear X₂₃; try clear X₃; try clear S₃; try clear I₃; try clear I₂; try clear hsb₁; try clear hns₁
    rcases Z2R o with rfl | o
    ·have q':=wlt _ q; rw [hC] at q'; exact Nat.lt_irrefl _ (Nat.lt_of_succ_lt q')
    ·exact (wall b q).2.1 o
   ·rcases List.mem_append.mp m with m | m
    ·exact (wall b q).2.2 m
    ·rw [List.mem_singleton.mp m] at q; exact Nat.lt_irrefl _ (wlt _ q)
   ·have oc:Own (c.comp scope H2.objs.size x k) H2.objs.size:=⟨k,.d H2.objs.size x,by simp [Cx.comp],rfl⟩
    obtain ⟨m,hm⟩:∃ m,s'.heap.Ns H2.objs.size m:=by
     have:=I'.slots k (.d H2.objs.size x) (by simp [Cx.comp])
     exact this
    have sC:s₁.heap.objs.size ≤ H2.objs.size:=by rw [hC]; exact Nat.le_succ_of_le hz
    have I₅:=I'.leave hk0 hnC (Heap.SameBut.refl _ _)
    refine El.x0_3 (I₅.frozen (n:=st₁.σ.length) (xs:=ys) hys) fun I₆ S₆ fr=>?_
    have S₅:Stp c st₁.σ μ₁ s₁.heap stF.σ μ' s'.heap:=S'.inner0 trr prr nww (fun k e=>by rw [List.getElem?_append_left (List.getElem?_eq_some_iff.mp e).1]; exact e) fun b q=>(Z2R q).elim (fun e=>.inr (e ▸ sC)) .inl
    have Q₇:Same s s':=Q₁.trans (Q₂.trans (Same.trans (s':={ s₂ with heap:=h₁,toks:=s₂.toks + ([]:List (Str × Value)).length }) ⟨rfl,rfl,rfl⟩ Q'))
    exact hU _ _ μ' s' (fr _ (.ref hD')) I₆ (S₁.trans (S₅.trans S₆)) Q₇ (Nat.le_trans S₁.size sC) hnC (I'.sep _ oc) (I'.baseS _ oc) (fun b q=>by
     rw [List.mem_singleton.mp q]
     refine El.x1_1 (Z1c I' oc) fun o ho=>?_
     exact ⟨o,ho,I'.own_data oc ho⟩) ⟨m,hm⟩
  exact codeAny_compStart_list (loop _ rfl) (W'.again 0 _ _ _ st0 (loop _ rfl))
 ·try clear Q₇; try clear S₅; try clear fr; try clear S₆; try clear I₆; try clear I₅; try clear sC; try clear hm; try clear oc; try clear hD'; try clear Q'; try clear S'
  cases hv
theorem Z4R {elt:Ex} {k:Nat} {it:It} {ifs:Exs} (he:EOk W elt) (ht:TsOk W ifs) (hi:ItOk W it):EOk W (.comp elt k it ifs):=fun g p c st μ s hk hg I=>Sim.of_eq (eval_ListComp ..) (Sim.ok fun y stE hv=>by
 have h1:=and2 (and2 hk).1
 have h2:=and2 (and2 hk).2
 refine Z5w (Z3o h1.1) hg I (hi g _ c st μ s h1.2 hg I) (Z24 it _ _) (fun c hg st μ s I=>ht _ _ c st μ s h2.2 hg I) (fun c hg st μ s I=>he _ _ c st μ s h2.1 hg I) hv (use:=none) fun D C μ' s' r I' S' Q' sz ow nm bs od hm=>?_
 refine El.x1_1 hm fun m hm=>?_
 refine ⟨m,hm,fun h'' hs=>?_⟩
 have bt:But [C] s'.heap h'':=fun b o hb e=>(hs.2 b (fun q=>hb (by simp [q]))).trans e
 have one:∀ {P:Addr→Prop},P C→∀ b ∈ [C],P b:=fun p b q=>by rw [List.mem_singleton.mp q]; exact p
 exact ⟨μ',r.but bt od,I'.but bt (Nat.le_of_eq hs.1.symm) od (one ow) (one nm) (one bs),S'.but (one sz) bt (Nat.le_of_eq hs.1.symm),Q'⟩)
theorem Zac {elt:Ex} {i k:Nat} {it:It} {ifs:Exs} (he:EOk W elt) (ht:TsOk W ifs) (hi:ItOk W it) (g:Gm) (p:Stmt) (c:Cx) (st:St) (μ:List Addr) (s:Shared) (hk:okS g (.asg i (.comp elt k it ifs)) p = true)
  (hs:swapsWith (pE (.comp elt k it ifs) (skid p 0)) (some (.Name (nmOf (skid p 1)) (skid p 1).pos)) p.pos.line c.env = pure true) (hg:Good W c g) (I:Inv c st μ s.heap) :
  Sim c (exec (pS (.asg i (.comp elt k it ifs)) p) c.env) (evS W.F K (.asg i (.comp elt k it ifs)) st) rFl st.σ μ s:=Sim.of_eq (exec_Assign_Name_used _ _ _ _ hs) (Sim.ok fun fl stF h=>by
 refine El.x2_2 (R.bind_inv h) fun y stE hv h=>?_
 cases h
 have h1:=and2 (and2 (and2 hk).2).1
 have h2:=and2 (and2 (and2 hk).2).2
 refine wpAny_bind (wpAny_standAt (wpAny_bind ?_))
 show wpAny _ c.A (do let _ ← comprehension (pE (.comp elt k it ifs) (skid p 0)) (scOf (skid p 0)) c.env _ (newList []) false (eval (pI it (kid (skid p 0) 2)) c.env) (some (assign (.Name (nmOf (skid p 1)) (skid p 1).pos) c.env))) _ _ s
 refine wpAny_bind (wpAny_mono (Z5w (Z3o h1.1) hg I (hi g _ c st μ s h1.2 hg I) (Z24 it _ _) (fun c hg st μ s I=>ht _ _ c st μ s h2.2 hg I) (fun c hg st μ s I=>he _ _ c st μ s h2.1 hg I) hv
  (use:=some (assign (.Name (nmOf (skid p 1)) (skid p 1).pos) c.env)) (Q:=fun _ s'=>∃ μ',rFl (setV stE i y) μ' s'.heap .next .next∧Inv c (setV stE i y) μ' s'.heap∧Stp c st.σ μ s.heap (setV stE i y).σ μ' s'.heap∧Same s s')
   fun D C μ' s' r I' S' Q' sz ow nm bs od hm=>?_) (fun _ s' hq=>wpAny_pure (wpAny_pure hq)) fun _ _ e=>e)
 refine El.x1_1 hm fun m hm=>?_
 refine wpAny_assign_Name (wpAny_mono (Z0Q hg.nm (and2 hk).1 I' r) (fun _ s'' hq=>?_) fun _ _ e=>e)
 refine El.x1_4 hq fun μ₂ _ I₂ S₂ Q₂=>?_
 refine El.x1_2 (od C (by simp)) fun o ho hd=>?_
 have ho₂:=S₂.keep C o ho ow fun t=>nm t.mem
 refine ⟨m,hm.at' fun o' e=>(Option.some.inj (ho.symm.trans e)) ▸ ho₂,fun h'' hs=>?_⟩
 have bt:But [C] s''.heap h'':=fun b o hb e=>(hs.2 b (fun q=>hb (by simp [q]))).trans e
 have one:∀ {P:Addr→Prop},P C→∀ b ∈ [C],P b:=fun p b q=>by rw [List.mem_singleton.mp q]; exact p
 exact ⟨μ₂,trivial,I₂.but bt (Nat.le_of_eq hs.1.symm) (one ⟨o,ho₂,hd⟩) (one ow) (one fun q=>(S₂.new C q).elim nm fun q=>Nat.lt_irrefl _ (Nat.lt_of_lt_of_le (Heap.lt_size ho) q)) (one bs),(S'.trans S₂).but (one sz) bt (Nat.le_of_eq hs.1.symm),Q'.trans Q₂⟩)
end
theorem Inv.butP {c:Cx} {wr:List Addr} {st:St} {μ:List Addr} {h h':Heap} {TO:Addr} {m:Nat} (I:Inv c st μ h) (hm:st.σ[m]? = some .priv) (ha:μ[m]? = some TO) (k:But (TO :: wr) h h')
  (hsz:h.objs.size ≤ h'.objs.size) (od:Odd wr h) (own:∀ b ∈ wr,¬ Own c b) (mem:∀ b ∈ wr,b ∉ μ) (bs:∀ b ∈ wr,c.base.get? b = none):Inv c st μ h':=by
 have tT:Tr st.σ μ TO:=⟨m,_,hm,rfl,ha⟩
 have mT:TO ∈ μ:=List.mem_of_getElem? ha
 have nseq:∀ a o,h.get? a = some o→Z2k o→¬ Tr st.σ μ a→a ∉ TO :: wr:=fun a o e hd hT q=>by
  rcases List.mem_cons.mp q with rfl | q
  ·exact hT tT
  ·refine El.x1_2 (od a q) fun o' e' hd'=>?_
   try clear o'; try clear tT
   obtain rfl:=Option.some.inj (e.symm.trans e')
   exact hd' hd
 have mv:∀ {v:Value} {x:V},RepV (Tr st.σ μ) μ h v x→RepV (Tr st.σ μ) μ h' v x:=fun r=>r.move (fun a o e hd hT=>⟨k a o (nseq a o e hd hT) e,hT⟩) fun _ _ q=>q
 have mvs:∀ {v:List Value} {x:List V},RepVs (Tr st.σ μ) μ h v x→RepVs (Tr st.σ μ) μ h' v x:=fun r=>r.move (fun a o e hd hT=>⟨k a o (nseq a o e hd hT) e,hT⟩) fun _ _ q=>q
 have own':∀ b ∈ TO :: wr,¬ Own c b:=fun b q o=>by
  try clear hd'; try clear e'; try clear nseq
  rcases List.mem_cons.mp q with rfl | q
  ·exact I.sep _ o mT
  ·exact own b q o
 have bs':∀ b ∈ TO :: wr,c.base.get? b = none:=fun b q=>by
  try clear own
  rcases List.mem_cons.mp q with rfl | q
  ·exact I.baseM _ mT
  ·exact bs b q
 refine ⟨fun i x q=>?_,fun i s q=>(I.slots i s q).keeps fun o e=>k _ o (fun m=>own' _ m ⟨i,s,q,rfl⟩) e,fun n o q=>?_,I.len,I.nd,fun a q=>Nat.lt_of_lt_of_le (I.lt a q) hsz,
  fun b o q=>k b o (fun m=>by rw [bs' b m] at q; cases q) (I.base b o q),I.baseS,I.baseM,I.sep,I.kd⟩
 ·refine El.x2_3 (I.vars i x q) fun s v g1 g2 g3=>?_
  exact ⟨s,v,g1,g2.keeps fun o e=>k _ o (fun m=>own' _ m ⟨i,s,g1,rfl⟩) e,mv g3⟩
 ·refine El.x1_2 (I.objs n o q) fun a hna r=>?_
  refine ⟨a,hna,?_⟩
  try clear g3; try clear g2; try clear g1; try clear v; try clear s; try clear o; try clear x; try clear i; try clear bs; try clear mv; try clear mT
  cases r with
  | dead=>exact .dead
  | priv=>exact .priv
  | live ho L r=>
   refine .live (k a _ (fun q'=>?_) ho) L (mvs r)
   try clear r; try clear mvs
   rcases List.mem_cons.mp q' with rfl | q'
   ·have:n = m:=(List.getElem?_inj (List.getElem?_eq_some_iff.mp hna).1 I.nd).mp (hna.trans ha.symm)
    try clear n
    subst this
    rw [hm] at q; cases q; cases L
   ·exact mem a q' (List.mem_of_getElem? hna)
structure ItrT (prog:Program) (w:World) (A:Around) (it TO:Addr) (fp wr nw:List Addr) (xs:List V) (σ₀:List O) (μ₀:List Addr) (h₀:Heap) (Sp:Nat→Heap→Prop):Prop where
 frame:∀ i h h',Sp i h→(∀ b ∈ fp,∀ o,h.get? b = some o→h'.get? b = some o)→Sp i h'
 odd:∀ i h,Sp i h→Odd wr h
 there:∀ i h,Sp i h→∀ b ∈ wr++nw,∃ o,h.get? b = some o
 new:∀ b ∈ TO :: (wr++nw),h₀.objs.size ≤ b
 fpo:∀ b ∈ fp,b = TO ∨ b ∈ wr++nw ∨ (∃ o vs n,h₀.get? b = some o∧o.data = .seq vs n∧¬ Tr σ₀ μ₀ b) ∨ ∃ k:Nat,σ₀[k]? = some O.priv∧μ₀[k]? = some b
 item:∀ elts k pos i x (s:Shared) (σ:List O) (μ:List Addr) (Q:Value→Shared→Prop),xs[i]? = some x→Sp i s.heap→Kp σ₀ μ₀ h₀ σ μ s.heap→(∀ a ∈ μ,a < s.heap.objs.size) →
  (∀ v h' tk,But (TO :: wr) s.heap h'→s.heap.objs.size ≤ h'.objs.size→Sp (i + 1) h'→RepV (Tr σ μ) μ h' v x→Q v { s with heap:=h',toks:=tk }) →
  wpAny (model prog w) A (pyNext (.ref it)) (fun r s₁=>match r with
   | none=>False
   | some v=>wpAny (model prog w) A (letOwnedTupleGo (.Tuple elts k pos) (.ref it) v) (fun _ s₂=>Q v s₂) (fun _ _=>False) s₁) (fun _ _=>False) s
 done:∀ (s:Shared) (Q:Option Value→Shared→Prop),Sp xs.length s.heap →
  (∀ h' tk,But (TO :: wr) s.heap h'→s.heap.objs.size ≤ h'.objs.size→Q none { s with heap:=h',toks:=tk })→wpAny (model prog w) A (pyNext (.ref it)) Q (fun _ _=>False) s
 again:∀ i (s:Shared) (Q:Value→Shared→Prop) (E:Value→Shared→Prop),Sp i s.heap→Q (.ref it) s→wpAny (model prog w) A (pyIter (.ref it)) Q E s
section
variable {c:Cx} {it TO:Addr} {fp wr nw:List Addr} {xs:List V} {σ₀:List O} {μ₀:List Addr} {h₀:Heap} {Sp:Nat→Heap→Prop}
theorem ItrT.keep (W:ItrT c.prog c.w c.A it TO fp wr nw xs σ₀ μ₀ h₀ Sp) {i m:Nat} {st:St} {σ':List O} {μ μ':List Addr} {h h':Heap} (own:∀ b ∈ wr++nw,¬ Own c b) (mem:∀ b ∈ wr++nw,b ∉ μ) (I:Inv c st μ h)
  (hm:st.σ[m]? = some .priv) (ha:μ[m]? = some TO)
  (K:Kp σ₀ μ₀ h₀ st.σ μ h) (S':Stp c st.σ μ h σ' μ' h') (sp:Sp i h):Sp i h'∧∀ b ∈ wr++nw,b ∉ μ':=by
 refine ⟨W.frame i h h' sp fun b q o e=>?_,fun b q m=>(S'.new b m).elim (mem b q) fun k=>?_⟩
 ·rcases W.fpo b q with rfl | q | ⟨o',vs,n,q1,q2,q3⟩ | ⟨k,q1,q2⟩
  rotate_left 3
  ·exact S'.pk k b o (K.pv k q1) (K.pre k b q2) e
  ·exact S'.pk m _ o hm ha e
  ·exact S'.keep b o e (own b q) fun t=>mem b q t.mem
  ·have e':=K.keep b o' q1 (.inl ⟨vs,n,q2⟩) q3
   obtain rfl:=Option.some.inj (e.symm.trans e')
   exact S'.keep b o e (fun q=>I.own_data q e (.inl ⟨vs,n,q2⟩)) fun t=>(K.tr b t).elim q3 fun k=>Nat.lt_irrefl _ (Nat.lt_of_lt_of_le (Heap.lt_size q1) k)
 ·refine El.x1_1 (W.there i h sp b q) fun o e=>?_
  exact Nat.lt_irrefl _ (Nat.lt_of_lt_of_le (Heap.lt_size e) k)
end
section
variable {c:Cx} {it TO:Addr} {fp wr nw:List Addr} {xs:List V} {σ₀:List O} {μ₀:List Addr} {h₀:Heap} {Sp:Nat→Heap→Prop}
theorem Z5x {elts:List Expr} {kk:Nat} {tp:Pos} {body:List Stmt} {as:V→St→R Unit} {bd:St→R Fl} {s₁:Shared} {st₁:St} {μ₁:List Addr} {m:Nat} (W:ItrT c.prog c.w c.A it TO fp wr nw xs σ₀ μ₀ h₀ Sp) (start:Sp 0 s₁.heap)
  (hA:∀ x v st μ (s:Shared),RepV (Tr st.σ μ) μ s.heap v x→Inv c st μ s.heap→Sim c (assign (.Tuple elts kk tp) c.env v) (as x st) rU st.σ μ s)
  (hB:∀ st μ (s:Shared),Inv c st μ s.heap→Sim c (execs body c.env) (bd st) rFl st.σ μ s)
  (I₁:Inv c st₁ μ₁ s₁.heap) (hm:st₁.σ[m]? = some .priv) (ha:μ₁[m]? = some TO) (K₁:Kp σ₀ μ₀ h₀ st₁.σ μ₁ s₁.heap) (mem₁:∀ b ∈ wr++nw,b ∉ μ₁) (own:∀ b ∈ wr++nw,¬ Own c b) (bs:∀ b ∈ wr,c.base.get? b = none)
  {σ':List O} {μ':List Addr} {h':Heap} (S₁:Stp c σ' μ' h' st₁.σ μ₁ s₁.heap) (nw':∀ b ∈ TO :: wr,h'.objs.size ≤ b)
  {fl:Fl} {stF:St} (hr:forR (fun x st=>(as x st).bind fun _ st=>bd st) xs st₁ = .ok fl stF) :
  codeAny (model c.prog c.w) c.A (.forLoop (.Tuple elts kk tp) (.ref it) body [] c.env) (fun r s'=>match r with
   | .ok f=>∃ μF,rFl stF μF s'.heap f fl∧Inv c stF μF s'.heap∧Stp c σ' μ' h' stF.σ μF s'.heap∧Same s₁ s'
   | .error _=>False) s₁:=by
 have memw:∀ {μ:List Addr},(∀ b ∈ wr++nw,b ∉ μ)→∀ b ∈ wr,b ∉ μ:=fun h b q=>h b (List.mem_append_left _ q)
 have ownw:∀ b ∈ wr,¬ Own c b:=fun b q=>own b (List.mem_append_left _ q)
 have wn:∀ b ∈ TO :: wr,h₀.objs.size ≤ b:=fun b q=>W.new b (by
  rcases List.mem_cons.mp q with rfl | q
  ·simp
  ·simp [q])
 refine Z3h (as:=as) (bd:=bd) (fl:=fl) (stF:=stF)
  (P:=fun i st μ s=>Sp i s.heap∧Inv c st μ s.heap∧(∀ b ∈ wr++nw,b ∉ μ)∧(st.σ[m]? = some .priv∧μ[m]? = some TO)∧Kp σ₀ μ₀ h₀ st.σ μ s.heap∧Stp c σ' μ' h' st.σ μ s.heap∧Same s₁ s) (D:=fun st μ s=>Inv c st μ s.heap∧Stp c σ' μ' h' st.σ μ s.heap∧Same s₁ s)
  (fun i st μ s h=>h.2.1) (fun i st μ s h=>⟨h.2.1,h.2.2.2.2.2⟩) (fun i st μ s st' μ'' s' h I' S' Q'=>?_) (fun i x st μ s Q hx h hQ=>?_) (fun st μ s Q h hQ=>?_) hA hB (fun μ s f h rf=>⟨μ,rf,h⟩)
  (st₁:=st₁) (μ₁:=μ₁) ⟨start,I₁,mem₁,⟨hm,ha⟩,K₁,S₁,.refl⟩ hr
 ·refine El.x0_2 (W.keep own h.2.2.1 h.2.1 h.2.2.2.1.1 h.2.2.2.1.2 h.2.2.2.2.1 S' h.1) fun hst₂ mem₂=>?_
  exact ⟨hst₂,I',mem₂,⟨S'.pv m h.2.2.2.1.1,S'.pre m _ h.2.2.2.1.2⟩,h.2.2.2.2.1.trans (S'.kp h.2.1),h.2.2.2.2.2.1.trans S',h.2.2.2.2.2.2.trans Q'⟩
 ·exact W.item elts kk tp i x s st.σ μ _ hx h.1 h.2.2.2.2.1 h.2.1.lt fun v h'' tk hk hsz hst' rv=>
   hQ v _ rv ⟨hst',h.2.1.butP h.2.2.2.1.1 h.2.2.2.1.2 hk hsz (W.odd i _ h.1) ownw (memw h.2.2.1) bs,h.2.2.1,h.2.2.2.1,h.2.2.2.2.1.but wn hk hsz,h.2.2.2.2.2.1.but nw' hk hsz,h.2.2.2.2.2.2⟩
 ·exact W.done s _ h.1 fun h'' tk hk hsz=>hQ _ ⟨h.2.1.butP h.2.2.2.1.1 h.2.2.2.1.2 hk hsz (W.odd _ _ h.1) ownw (memw h.2.2.1) bs,h.2.2.2.2.2.1.but nw' hk hsz,h.2.2.2.2.2.2⟩
end
theorem Z4g:∀ {is:List Nat} {xs:List V} {st st':St},Z5a st is xs = some st'→is.length = xs.length
 | [],[],_,_,_=>rfl
 | [],_ :: _,_,_,h=>by cases h
 | _ :: _,[],_,_,h=>by cases h
 | _ :: _,_ :: _,_,_,h=>congrArg (· + 1) (Z4g (is:=_) h)
theorem Z4S {env:Env}:∀ (is:List Nat) (ps:List Expr),(assignEach (pT is ps) env).length = is.length∧(assignEach (pT is ps) env).findIdx? (·.1) = none
 | [],_=>⟨rfl,rfl⟩
 | _ :: is,ps=>⟨congrArg (· + 1) (Z4S is ps.tail).1,(List.findIdx?_cons ..).trans (congrArg (Option.map (· + 1)) (Z4S is ps.tail).2)⟩
section
variable {W:Wo} {K:Nat}
theorem Z3r {c:Cx} {g:Gm} (hg:Good W c g):∀ (is:List Nat) (ps:List Expr) (vs:List Value) (ys:List V) (st st':St) (μ:List Addr) (s:Shared),okT' g is ps = true→RepVs (Tr st.σ μ) μ s.heap vs ys→Inv c st μ s.heap →
  Z5a st is ys = some st'→wpAny (model c.prog c.w) c.A (assignInOrder ((assignEach (pT is ps) c.env).map (·.2)) vs) (fun _ s'=>∃ μ',Inv c st' μ' s'.heap∧Stp c st.σ μ s.heap st'.σ μ' s'.heap∧Same s s') (fun _ _=>False) s
 | [],ps,vs,[],st,st',μ,s,_,r,I,h=>by
  cases h
  have e:vs = []:=r.out
  subst e
  exact wpAny_pure ⟨μ,I,.refl,.refl⟩
 | [],_,_,_ :: _,_,_,_,_,_,_,_,h=>by cases h
 | _ :: _,_,_,[],_,_,_,_,_,_,_,h=>by cases h
 | i :: is,ps,vs,y :: ys,st,st',μ,s,hk,r,I,h=>by
  refine El.x2_3 r.consI fun v vs e9 r0 rr=>?_
  subst e9
  refine wpAny_bind (wpAny_holding (wpAny_mono (Sim.imp (fun Q h=>wpAny_assign_Name h) (Z0Q hg.nm (and2 hk).1 I r0)) (fun _ s₁ q8=>El.x1_4 q8 fun μ₁ _ I₁ S₁ Q₁=>?_) fun _ _ e=>e))
  exact wpAny_mono (Z3r hg is ps.tail vs ys (setV st i y) st' μ₁ s₁ (and2 hk).2 (rr.step (st':=setV st i y) I S₁) I₁ h) (fun _ s₂ q8=>El.x1_3 q8 fun μ₂ I₂ S₂ Q₂=>⟨μ₂,I₂,S₁.trans S₂,Q₁.trans Q₂⟩) fun _ _ e=>e
theorem Z1L {c:Cx} {g:Gm} (hg:Good W c g) {is:List Nat} {ps:List Expr} {kk:Nat} {tp:Pos} (hk:okT' g is ps = true) {st:St} {μ:List Addr} {s:Shared} {v:Value} {x:V} (r:RepV (Tr st.σ μ) μ s.heap v x) (I:Inv c st μ s.heap) :
  Sim c (assign (.Tuple (pT is ps) kk tp) c.env v) (asT is x st) rU st.σ μ s:=Sim.of_eq (arm_assign_Tuple ..) (Sim.ok fun _ st' h=>by
 refine El.x1_2 (ZbA h) fun xs e hs=>?_
 subst e
 refine El.x2_4 r.tup_inv fun a vs e ht hz rr=>?_
 subst e
 have hn:(assignEach (pT is ps) c.env).length = vs.size:=by rw [(Z4S is ps).1,Z4g hs,← rr.length,Array.length_toList]
 refine wpAny_bind (wpAny_standAt ?_)
 unfold unpack
 rw [hn,(Z4S is ps).2]
 refine wpAny_bind (wpAny_holding (Z04 (wpAny_unpackItems_tuple hg.hh ht fun h' he hsz=>?_)))
 have X:Ext s.heap h':=⟨hsz,fun b o e=>he b o (Nat.ne_of_lt (Heap.lt_size e)) e⟩
 exact wpAny_mono (Z3r hg is ps vs.toList xs st st' μ { s with heap:=h' } hk (rr.ext X) (I.ext X) hs) (fun _ s' q8=>El.x1_3 q8 fun μ' I' S' Q'=>⟨μ',trivial,I',(Stp.ext X).trans S',Q'⟩) fun _ _ e=>e)
theorem Zb5 {v:Expr}:(v.ctorIdx == 16 || v.ctorIdx == 23 || v.ctorIdx == 21) = true→∀ (ts:List Expr) (k:Nat) (tp:Pos) (l:Nat) (env:Env),swapsWithSole [.Tuple ts k tp] v l env = pure false∧swappedStores [.Tuple ts k tp] v env = pure none:=by
 cases v <;> first | exact fun _ _ _ _ _ _=>⟨rfl,rfl⟩ | exact fun h=>absurd h Bool.false_ne_true
theorem Z73 {is:List Nat} {e:Ex} (he:EOk W e):SOk W K (.asgT is e):=fun g p c st μ s hk hg I=>Sim.ok fun fl stF h=>by
 refine El.x2_2 (R.bind_inv h) fun x st₁ hE h=>?_
 refine El.x2_2 (R.bind_inv h) fun _ st₂ hA h=>?_
 cases h
 have h1:=he g _ c st μ s (and2 hk).2 hg I
 rw [hE] at h1
 have q:=Zb5 (and2 (and2 hk).1).2 (pT is (kids (skid p 1))) (kOf (skid p 1)) (skid p 1).pos p.pos.line c.env
 refine Assign_Tuple (wpAny_mono h1 (fun a s₁ q8=>El.x1_4 q8 fun μ₁ rx I₁ S₁ Q₁=>?_) fun _ _ e=>e) q.1 q.2
 have ha:=Z1L hg (and2 (and2 hk).1).1 (kk:=kOf (skid p 1)) (tp:=(skid p 1).pos) rx I₁
 rw [hA] at ha
 exact wpAny_mono ha (fun _ s₂ q8=>El.x1_4 q8 fun μ₂ _ I₂ S₂ Q₂=>⟨μ₂,trivial,I₂,S₁.trans S₂,Q₁.trans Q₂⟩) fun _ _ e=>e
end
theorem Inv.trackP {c:Cx} {st:St} {μ:List Addr} {h h':Heap} {TO:Addr} (I:Inv c st μ h) (X:Ext h h') (h1:h.objs.size ≤ TO) (h2:TO < h'.objs.size) :
  Inv c ⟨st.ρ,st.σ++[.priv]⟩ (μ++[TO]) h'∧Stp c st.σ μ h (st.σ++[.priv]) (μ++[TO]) h':=by
 have hnm:TO ∉ μ:=fun q=>Nat.lt_irrefl _ (Nat.lt_of_lt_of_le (I.lt _ q) h1)
 have tr:∀ b,Tr (st.σ++[.priv]) (μ++[TO]) b→Tr st.σ μ b ∨ h.objs.size ≤ b:=by
  intro b q0z
  refine El.x2_3 q0z fun k o' e1 e2 e3=>?_
  by_cases hk:k < st.σ.length
  ·rw [List.getElem?_append_left hk] at e1
   rw [List.getElem?_append_left (by rw [I.len]; exact hk)] at e3
   exact .inl ⟨k,o',e1,e2,e3⟩
  ·rw [List.getElem?_append_right (by rw [I.len]; lia)] at e3
   have hlt:k < (st.σ++[O.priv]).length:=(List.getElem?_eq_some_iff.mp e1).1
   simp only [List.length_append,List.length_singleton] at hlt
   have:k - μ.length = 0:=by rw [I.len]; lia
   rw [this] at e3
   have e4:TO = b:=by simpa using e3
   exact .inr (e4 ▸ h1)
 have S:Stp c st.σ μ h (st.σ++[.priv]) (μ++[TO]) h' :=
  ⟨X.1,fun b o' e _ _=>X.2 b o' e,fun k a e=>by rw [List.getElem?_append_left (List.getElem?_eq_some_iff.mp e).1]; exact e,
   tr,fun a q=>(List.mem_append.mp q).imp id fun e=>by rw [List.mem_singleton.mp e]; exact h1,fun k e=>by rw [List.getElem?_append_left (List.getElem?_eq_some_iff.mp e).1]; exact e,fun _ a o' _ _ q=>X.2 a o' q⟩
 have I':=I.ext X
 have nog:∀ o,h.get? TO ≠ some o:=fun o e=>Nat.lt_irrefl _ (Nat.lt_of_lt_of_le (Heap.lt_size e) h1)
 refine ⟨⟨fun i x q=>?_,I'.slots,fun k o' q=>?_,by simp [I.len],?_,fun a q=>?_,I'.base,I.baseS,fun a q=>?_,fun b q m=>?_,ZaY I.kd trivial⟩,S⟩
 ·refine El.x2_3 (I.vars i x q) fun sl v g1 g2 g3=>?_
  exact ⟨sl,v,g1,g2.keeps fun o' e=>X.2 _ o' e,g3.step (st':=⟨st.ρ,st.σ++[.priv]⟩) I S⟩
 ·dsimp only at q ⊢
  by_cases hk:k < st.σ.length
  ·rw [List.getElem?_append_left hk] at q
   refine El.x1_2 (I.objs k o' q) fun a ha r=>?_
   refine ⟨a,by rw [List.getElem?_append_left (by rw [I.len]; exact hk)]; exact ha,?_⟩
   exact r.map (fun _ ho=>(X.2 _ _ ho)) fun _ _ r=>(RepVs.step (st':=⟨st.ρ,st.σ++[.priv]⟩) I S r)
  ·have hlt:k < (st.σ++[O.priv]).length:=(List.getElem?_eq_some_iff.mp q).1
   simp only [List.length_append,List.length_singleton] at hlt
   have e0:k = st.σ.length:=by lia
   try clear r; try clear g3; try clear g2; try clear g1; try clear v; try clear sl; try clear x; try clear i; try clear S; try clear hlt; try clear e3; try clear e2
   subst e0
   have e4:O.priv = o':=by simpa using q
   try clear e0; try clear e1; try clear o'; try clear k; try clear q0z; try clear tr
   subst e4
   exact ⟨TO,by rw [← I.len]; simp,.priv⟩
 ·refine List.nodup_append.mpr ⟨I.nd,by simp,?_⟩
  intro a ha b hb
  rw [List.mem_singleton.mp hb]
  exact fun e=>hnm (e ▸ ha)
 ·rcases List.mem_append.mp q with q | q
  ·exact Nat.lt_of_lt_of_le (I.lt a q) X.1
  ·rw [List.mem_singleton.mp q]; exact h2
 ·rcases List.mem_append.mp q with q | q
  ·exact I.baseM a q
  ·rw [List.mem_singleton.mp q]
   cases hb:c.base.get? TO with
   | none=>rfl
   | some o=>exact absurd (I.base _ _ hb) (nog o)
 ·rcases List.mem_append.mp m with m | m
  ·exact I.sep b q m
  ·refine El.x1_1 (Z1c I q) fun o ho=>?_
   rw [List.mem_singleton.mp m] at ho
   exact nog o ho
noncomputable def rZ (c:Cx) (z₀:Nat) (st:St) (μ:List Addr) (h:Heap) (v:Value) (xs:List V):Prop :=
 ∃ it TO fp wr nw σ₀ μ₀ h₀ Sp,v = .ref it∧ItrT c.prog c.w c.A it TO fp wr nw xs σ₀ μ₀ h₀ Sp∧Sp 0 h∧Kp σ₀ μ₀ h₀ st.σ μ h∧(∀ b ∈ wr++nw,b ∉ μ∧¬ Own c b∧c.base.get? b = none) ∧
  (∃ m:Nat,st.σ[m]? = some .priv∧μ[m]? = some TO)∧(∀ b ∈ wr,h₀.objs.size ≤ b)∧h₀.objs.size ≤ TO∧z₀ ≤ h₀.objs.size
theorem ItrT.of_walks {prog:Program} {w:World} {A:Around} {it TO:Addr} {fp wr wrW nw:List Addr} {xs:List V} {σ₀:List O} {μ₀:List Addr} {h₀:Heap} {Sp:Nat→Heap→Prop} {Pt:Nat→Array Value→Prop} {Mid:Nat→Addr→Heap→Prop}
  (W:WalksT prog w A it fp wrW xs.length Pt Sp Mid) (hwr:∀ b,b ∉ TO :: wr→b ∉ wrW) (odd:∀ i h,Sp i h→Odd wr h) (there:∀ i h,Sp i h→∀ b ∈ wr++nw,∃ o,h.get? b = some o) (new:∀ b ∈ TO :: (wr++nw),h₀.objs.size ≤ b)
  (fpo:∀ b ∈ fp,b = TO ∨ b ∈ wr++nw ∨ (∃ o vs n,h₀.get? b = some o∧o.data = .seq vs n∧¬ Tr σ₀ μ₀ b) ∨ ∃ k:Nat,σ₀[k]? = some O.priv∧μ₀[k]? = some b)
  (hP:∀ i x vals σ (μ:List Addr) (h:Heap),xs[i]? = some x→Pt i vals→Kp σ₀ μ₀ h₀ σ μ h→∃ ys,x = .tup ys∧vals.size ≤ sizeLine∧RepVs (Tr σ μ) μ h vals.toList ys) :
  ItrT prog w A it TO fp wr nw xs σ₀ μ₀ h₀ Sp where
 frame:=W.frame
 odd:=odd
 there:=there
 new:=new
 fpo:=fpo
 item:=by
  intro elts k pos i x s σ μ Q hx hst K lt hQ
  have wn:∀ b ∈ TO :: wr,h₀.objs.size ≤ b:=fun b q=>new b (by
   rcases List.mem_cons.mp q with rfl | q
   ·simp
   ·simp [q])
  refine Z04 (W.item i s _ _ (List.getElem?_eq_some_iff.mp hx).1 hst fun T vals g tk hp hT hIs hMid hk hsz=>?_)
  refine Z04 (W.go elts k pos i T _ _ _ hMid fun g' hst' hk' hsz'=>?_)
  have hk2:But (TO :: wr) s.heap g':=fun b o hb e=>hk' b o (hwr b hb) (hk b o (hwr b hb) e)
  have hsz2:s.heap.objs.size ≤ g'.objs.size:=Nat.le_trans hsz hsz'
  refine El.x1_3 (hP i x vals σ μ g' hx hp (K.but wn hk2 hsz2)) fun ys q1z hz r=>?_
  try clear ys; try clear hsz'; try clear hp; try clear vals; try clear wn; try clear K; try clear hx; try clear μ; try clear σ; try clear x; try clear pos; try clear k
  obtain rfl:=q1z
  obtain ⟨oT,hoT,hcT,nT,hdT⟩:=hIs
  exact hQ (.ref T) g' tk hk2 hsz2 hst' (.tup (hk' T oT (W.apart i T _ hMid) hoT) hcT hdT hz (fun t=>Nat.lt_irrefl _ (Nat.lt_of_lt_of_le (lt T t.mem) hT)) r)
 done:=fun s Q hst hQ=>Z04 (W.done s _ _ hst fun g tk hk hsz=>hQ g tk (fun b o hb e=>hk b o (hwr b hb) e) hsz)
 again:=W.self
theorem Z3s {c:Cx} {st:St} {μ:List Addr} {h:Heap} (I:Inv c st μ h) {b:Addr} (hb:h.objs.size ≤ b):b ∉ μ∧¬ Own c b∧c.base.get? b = none:=by
 refine ⟨fun m=>Nat.lt_irrefl _ (Nat.lt_of_lt_of_le (I.lt b m) hb),fun o=>?_,?_⟩
 ·refine El.x1_1 (Z1c I o) fun ob hob=>?_
  exact Nat.lt_irrefl _ (Nat.lt_of_lt_of_le (Heap.lt_size hob) hb)
 ·cases hb':c.base.get? b with
  | none=>rfl
  | some o=>exact absurd (Nat.lt_of_lt_of_le (Heap.lt_size (I.base b o hb')) hb) (Nat.lt_irrefl _)
theorem Z74:∀ {xs:List V} {k i:Nat} {p:V},(Z2l k xs)[i]? = some p→∃ x,xs[i]? = some x∧p = .tup [.int (k + i:Nat),x]
 | [],k,i,p,h=>by rw [Z83] at h; cases h
 | x :: xs,k,0,p,h=>by cases h; exact ⟨x,rfl,rfl⟩
 | x :: xs,k,i + 1,p,h=>by
  refine El.x1_2 (Z74 (xs:=xs) (k:=k + 1) (i:=i) h) fun y h1 h2=>?_
  exact ⟨y,h1,by rw [h2,show k + 1 + i = k + (i + 1) by lia]⟩
theorem Z75:∀ (xs:List V) (k:Nat),(Z2l k xs).length = xs.length
 | [],_=>rfl
 | _ :: xs,k=>congrArg (· + 1) (Z75 xs (k + 1))
structure ZA (z TI TO i1 i2:Addr) (fp1 fp2:List Addr):Prop where
 TIz:TI ≠ z
 TOz:TO ≠ z
 TITO:TI ≠ TO
 TIi1:TI ≠ i1
 TIi2:TI ≠ i2
 zf1:z ∉ fp1
 zf2:z ∉ fp2
 TOf1:TO ∉ fp1
 TOf2:TO ∉ fp2
 i1f2:i1 ∉ fp2
 i2f1:i2 ∉ fp1
 i1m:i1 ∈ fp1
 i2m:i2 ∈ fp2
theorem Z0g {l:List Addr} {a b:Addr} (h:b ∈ l) (h':a ∉ l):b ≠ a:=fun e=>h' (e ▸ h)
section
variable {prog:Program} {w:World} {A:Around} {E:Value→Shared→Prop} {s:Shared} {z TI TO i1 i2:Addr} {fp1 fp2:List Addr} {n1 n2 k:Nat} {P1 P2:Nat→Value→Prop} {S1 S2:Nat→Heap→Prop} {a b:Value}
theorem St.but {it:Addr} {fp:List Addr} {n:Nat} {P:Nat→Value→Prop} {S:Nat→Heap→Prop} (D:Draws prog w A it fp n P S) {i:Nat} {h h':Heap} {c:Addr} (x:S i h) (hs:Heap.SameBut c h h') (hc:c ∉ fp):S i h' :=
 D.frame _ _ _ x fun b hb o e=>(hs.2 b (Z0g hb hc)).trans e
theorem Zad {Q:Value→Shared→Prop} (D1:Draws prog w A i1 fp1 n1 P1 S1) (D2:Draws prog w A i2 fp2 n2 P2 S2) (X:ZA z TI TO i1 i2 fp1 fp2)
  (hz:IsZip s.heap z TI TO .none) (hTI:IsPair s.heap TI (.ref i1) (.ref i2)) (hTO:IsPair s.heap TO a b) (s1:S1 k s.heap) (s2:S2 k s.heap) (h1:k < n1) (h2:k < n2)
  (hQ:∀ x y h' tk,P1 k x→P2 k y→IsZip h' z TI TO (rawInt s.heap.objs.size)→IsPair h' TO x y→S1 (k + 1) h'→S2 (k + 1) h'→IsPair h' s.heap.objs.size x y→h'.objs.size = s.heap.objs.size + 1 →
   (∀ c o,c ≠ z→c ≠ TO→c ≠ i1→c ≠ i2→s.heap.get? c = some o→h'.get? c = some o)→Q (.ref s.heap.objs.size) { s with heap:=h',toks:=tk }) :
  wpAny (model prog w) A (Builtin.«zip.__next__» ⟨[.ref z],[]⟩) (fun fin s'=>∃ v,fin = .done (.ret v)∧Q v s') E s:=by
 have zi1:=Z0g X.i1m X.zf1
 have zi2:=Z0g X.i2m X.zf2
 have Ti1:=Z0g X.i1m X.TOf1
 have Ti2:=Z0g X.i2m X.TOf2
 show wpAny _ _ (field (.ref z) 2 >>= _) _ _ _
 refine wpAny_bind (wpAny_field hz rfl (x:=.bool false) rfl ?_)
 show wpAny _ _ (field (.ref z) 3 >>= _) _ _ _
 refine wpAny_bind (wpAny_field hz rfl (x:=.ref TI) rfl ?_)
 refine wpAny_bind (wpAny_seqItems hTI rfl ?_)
 show wpAny _ _ (Builtin.SmallTypes.ownedTupleIsFree (.ref z) >>= _) _ _ _
 refine wpAny_bind ?_
 unfold Builtin.SmallTypes.ownedTupleIsFree
 refine wpAny_bind (wpAny_field hz rfl (x:=.none) rfl (wpAny_pure ?_))
 simp only [if_true]
 refine wpAny_bind (wpAny_rule ?_)
 refine wpAny_bind (wpAny_field hz rfl (x:=.ref TO) rfl ?_)
 refine wpAny_bind (wpAny_setField_rec hz (by simp) fun g₁ hz₁ hs₁=>?_)
 replace hz₁:IsZip g₁ z TI TO .ellipsis:=hz₁
 refine wpAny_bind ?_
 simp only [List.zipIdx_cons,List.zipIdx_nil,List.forIn_cons,List.forIn_nil]
 refine wpAny_bind (wpAny_bind (wpAny_onRaise ?_))
 show wpAny _ _ (Builtin.SmallTypes.nextOf (.ref i1) >>= _) _ _ _
 refine wpAny_bind (D1.item k _ _ _ h1 (St.but D1 s1 hs₁ X.zf1) fun x g₂ tk₂ p1 s1₂ hs₂=>wpAny_pure ?_)
 have hTO₂:IsPair g₂ TO a b:=hs₂.extBut _ _ Ti1.symm (hs₁.extBut _ _ X.TOz hTO)
 refine wpAny_bind (wpAny_seqItems hTO₂ rfl ?_)
 refine wpAny_bind (wpAny_updateSeq_pair hTO₂ fun g₃ hTO₃ hs₃=>?_)
 replace hTO₃:IsPair g₃ TO x b:=hTO₃
 refine wpAny_bind (wpAny_letGo (wpAny_pure ?_))
 refine wpAny_bind (wpAny_bind (wpAny_onRaise ?_))
 show wpAny _ _ (Builtin.SmallTypes.nextOf (.ref i2) >>= _) _ _ _
 refine wpAny_bind (D2.item k _ _ _ h2 (St.but D2 (St.but D2 (St.but D2 s2 hs₁ X.zf2) hs₂ X.i1f2) hs₃ X.TOf2) fun y g₄ tk₄ p2 s2₄ hs₄=>wpAny_pure ?_)
 have hTO₄:IsPair g₄ TO x b:=hs₄.extBut _ _ Ti2.symm hTO₃
 refine wpAny_bind (wpAny_seqItems hTO₄ rfl ?_)
 refine wpAny_bind (wpAny_updateSeq_pair hTO₄ fun g₅ hTO₅ hs₅=>?_)
 replace hTO₅:IsPair g₅ TO x y:=hTO₅
 refine wpAny_bind (wpAny_letGo (wpAny_pure (wpAny_pure ?_)))
 refine wpAny_bind (wpAny_seqItems hTO₅ rfl ?_)
 refine wpAny_bind (wpAny_newTuple ?_)
 have hsz:g₅.objs.size = s.heap.objs.size:=by rw [hs₅.1,hs₄.1,hs₃.1,hs₂.1,hs₁.1]
 have hz₅:IsZip g₅ z TI TO .ellipsis:=hs₅.extBut _ _ X.TOz.symm (hs₄.extBut _ _ zi2.symm (hs₃.extBut _ _ X.TOz.symm (hs₂.extBut _ _ zi1.symm hz₁)))
 have hk₅:∀ c o,c ≠ z→c ≠ TO→c ≠ i1→c ≠ i2→s.heap.get? c = some o→g₅.get? c = some o:=fun c o c1 c2 c3 c4 e=>
  hs₅.extBut _ _ c2 (hs₄.extBut _ _ c4 (hs₃.extBut _ _ c2 (hs₂.extBut _ _ c3 (hs₁.extBut _ _ c1 e))))
 have s1₅:S1 (k + 1) g₅:=St.but D1 (St.but D1 (St.but D1 s1₂ hs₃ X.TOf1) hs₄ X.i2f1) hs₅ X.TOf1
 have s2₅:S2 (k + 1) g₅:=St.but D2 s2₄ hs₅ X.TOf2
 have hzlt:z < g₅.objs.size:=Heap.lt_size hz₅
 show wpAny _ _ (Builtin.SmallTypes.ownedTupleHandOut (.ref z) (.ref g₅.objs.size) >>= _) _ _ _
 refine wpAny_bind ?_
 unfold Builtin.SmallTypes.ownedTupleHandOut
 have hz₆:IsZip (g₅.push { cls:=.type "tuple",data:=.seq #[x,y] }) z TI TO .ellipsis:=Heap.get?_push_of_some _ hz₅
 refine wpAny_bind (wpAny_setField_rec hz₆ (by simp) fun g₇ hz₇ hs₇=>?_)
 replace hz₇:IsZip g₇ z TI TO (rawInt g₅.objs.size):=hz₇
 refine wpAny_setField_rec hz₇ (by simp) fun g₈ hz₈ hs₈=>?_
 replace hz₈:IsZip g₈ z TI TO (rawInt g₅.objs.size):=hz₈
 have up:∀ c o,c ≠ z→g₅.get? c = some o→g₈.get? c = some o:=fun c o c1 e=>hs₈.extBut _ _ c1 (hs₇.extBut _ _ c1 (Heap.get?_push_of_some _ e))
 have hT₈:IsPair g₈ g₅.objs.size x y:=hs₈.extBut _ _ (Nat.ne_of_gt hzlt) (hs₇.extBut _ _ (Nat.ne_of_gt hzlt) (Heap.get?_push_size _ rfl))
 have hz8:g₈.objs.size = g₅.objs.size + 1:=by rw [hs₈.1,hs₇.1,Heap.size_push]
 rw [hsz] at hz₈ hT₈ hz8
 refine wpAny_pure ⟨_,rfl,?_⟩
 show Q (.ref g₅.objs.size) _
 rw [hsz]
 exact hQ x y g₈ tk₄ p1 p2 hz₈ (up _ _ X.TOz hTO₅) (D1.frame _ _ _ s1₅ fun b hb o e=>up b o (Z0g hb X.zf1) e) (D2.frame _ _ _ s2₅ fun b hb o e=>up b o (Z0g hb X.zf2) e) hT₈ hz8 fun c o c1 c2 c3 c4 e=>up c o c1 (hk₅ c o c1 c2 c3 c4 e)
theorem Zc6 {Q:PySem.Fin→Shared→Prop} (D1:Draws prog w A i1 fp1 n1 P1 S1) (D2:Draws prog w A i2 fp2 n2 P2 S2) (X:ZA z TI TO i1 i2 fp1 fp2)
  (hz:IsZip s.heap z TI TO .none) (hTI:IsPair s.heap TI (.ref i1) (.ref i2)) (hTO:IsPair s.heap TO a b) (s1:S1 k s.heap) (s2:S2 k s.heap) (hend:k = n1 ∨ (k < n1∧k = n2))
  (hE:∀ h' tk e,(∀ c o,c ≠ z→c ≠ TO→c ≠ i1→c ≠ i2→s.heap.get? c = some o→h'.get? c = some o)→(∃ o,h'.get? e = some o∧o.cls = .type "StopIteration")→E (.ref e) { s with heap:=h',toks:=tk }) :
  wpAny (model prog w) A (Builtin.«zip.__next__» ⟨[.ref z],[]⟩) Q E s:=by
 have zi1:=Z0g X.i1m X.zf1
 have zi2:=Z0g X.i2m X.zf2
 have Ti1:=Z0g X.i1m X.TOf1
 show wpAny _ _ (field (.ref z) 2 >>= _) _ _ _
 refine wpAny_bind (wpAny_field hz rfl (x:=.bool false) rfl ?_)
 show wpAny _ _ (field (.ref z) 3 >>= _) _ _ _
 refine wpAny_bind (wpAny_field hz rfl (x:=.ref TI) rfl ?_)
 refine wpAny_bind (wpAny_seqItems hTI rfl ?_)
 show wpAny _ _ (Builtin.SmallTypes.ownedTupleIsFree (.ref z) >>= _) _ _ _
 refine wpAny_bind ?_
 unfold Builtin.SmallTypes.ownedTupleIsFree
 refine wpAny_bind (wpAny_field hz rfl (x:=.none) rfl (wpAny_pure ?_))
 simp only [if_true]
 refine wpAny_bind (wpAny_rule ?_)
 refine wpAny_bind (wpAny_field hz rfl (x:=.ref TO) rfl ?_)
 refine wpAny_bind (wpAny_setField_rec hz (by simp) fun g₁ hz₁ hs₁=>?_)
 replace hz₁:IsZip g₁ z TI TO .ellipsis:=hz₁
 refine wpAny_bind ?_
 simp only [List.zipIdx_cons,List.zipIdx_nil,List.forIn_cons,List.forIn_nil]
 refine wpAny_bind (wpAny_bind (wpAny_onRaise ?_))
 show wpAny _ _ (Builtin.SmallTypes.nextOf (.ref i1) >>= _) _ _ _
 have s1₁:=St.but D1 s1 hs₁ X.zf1
 rcases hend with rfl | ⟨h1,rfl⟩
 ·refine wpAny_bind (D1.done _ _ _ s1₁ fun g₂ e hs₂ he=>?_)
  obtain ⟨oe,hoe,hce⟩:=he
  have hz₂:IsZip g₂ z TI TO .ellipsis:=hs₂ _ _ zi1.symm hz₁
  have hez:e ≠ z:=fun x=>by subst x; rw [hz₂] at hoe; cases hoe; simp at hce
  refine wpAny_setField_rec hz₂ (by simp) fun g₃ _ hs₃=>hE g₃ _ e (fun c o c1 _ c3 _ x=>hs₃.extBut _ _ c1 (hs₂ _ _ c3 (hs₁.extBut _ _ c1 x))) ⟨oe,hs₃.extBut _ _ hez hoe,hce⟩
 ·refine wpAny_bind (D1.item k _ _ _ h1 s1₁ fun x g₂ tk₂ p1 s1₂ hs₂=>wpAny_pure ?_)
  have hTO₂:IsPair g₂ TO a b:=hs₂.extBut _ _ Ti1.symm (hs₁.extBut _ _ X.TOz hTO)
  refine wpAny_bind (wpAny_seqItems hTO₂ rfl ?_)
  refine wpAny_bind (wpAny_updateSeq_pair hTO₂ fun g₃ hTO₃ hs₃=>?_)
  refine wpAny_bind (wpAny_letGo (wpAny_pure ?_))
  refine wpAny_bind (wpAny_bind (wpAny_onRaise ?_))
  show wpAny _ _ (Builtin.SmallTypes.nextOf (.ref i2) >>= _) _ _ _
  refine wpAny_bind (D2.done _ _ _ (St.but D2 (St.but D2 (St.but D2 s2 hs₁ X.zf2) hs₂ X.i1f2) hs₃ X.TOf2) fun g₄ e hs₄ he=>?_)
  obtain ⟨oe,hoe,hce⟩:=he
  have hz₄:IsZip g₄ z TI TO .ellipsis:=hs₄ _ _ zi2.symm (hs₃.extBut _ _ X.TOz.symm (hs₂.extBut _ _ zi1.symm hz₁))
  have hez:e ≠ z:=fun x=>by subst x; rw [hz₄] at hoe; cases hoe; simp at hce
  refine wpAny_setField_rec hz₄ (by simp) fun g₅ _ hs₅=>hE g₅ _ e (fun c o c1 c2 c3 c4 x=>hs₅.extBut _ _ c1 (hs₄ _ _ c4 (hs₃.extBut _ _ c2 (hs₂.extBut _ _ c3 (hs₁.extBut _ _ c1 x))))) ⟨oe,hs₅.extBut _ _ hez hoe,hce⟩
end
theorem WalksT.zipD {prog:Program} {w:World} {A:Around} {z TI TO i1 i2:Addr} {fp1 fp2:List Addr} {n1 n2:Nat} {P1 P2:Nat→Value→Prop} {S1 S2:Nat→Heap→Prop}
  (D1:Draws prog w A.in1 i1 fp1 n1 P1 S1) (D2:Draws prog w A.in1 i2 fp2 n2 P2 S2) (X:ZA z TI TO i1 i2 fp1 fp2) :
  WalksT prog w A z (z :: TI :: TO :: (fp1++fp2)) [z,TO,i1,i2] (min n1 n2)
   (fun i vals=>∃ x y,P1 i x∧P2 i y∧vals = #[x,y])
   (fun i h=>IsZip h z TI TO .none∧IsPair h TI (.ref i1) (.ref i2)∧(∃ a b,IsPair h TO a b)∧S1 i h∧S2 i h)
   (fun i T h=>IsZip h z TI TO (rawInt T)∧IsPair h TI (.ref i1) (.ref i2)∧(∃ a b,IsPair h TO a b)∧S1 (i + 1) h∧S2 (i + 1) h∧T ≠ z∧T ≠ TO∧T ≠ i1∧T ≠ i2) where
 sub:=fun c hc=>by
  simp only [List.mem_cons,List.not_mem_nil,or_false,List.mem_append] at hc ⊢
  rcases hc with rfl | rfl | rfl | rfl
  ·exact .inl rfl
  ·exact .inr (.inr (.inl rfl))
  ·exact .inr (.inr (.inr (.inl X.i1m)))
  ·exact .inr (.inr (.inr (.inr X.i2m)))
 frame:=fun i h h' hst hk=>by
  obtain ⟨hz,hTI,⟨a,b,hTO⟩,s1,s2⟩:=hst
  exact ⟨hk z (by simp) _ hz,hk TI (by simp) _ hTI,⟨a,b,hk TO (by simp) _ hTO⟩,D1.frame _ _ _ s1 fun b hb o e=>hk b (by simp [hb]) o e,D2.frame _ _ _ s2 fun b hb o e=>hk b (by simp [hb]) o e⟩
 item:=fun i s Q E hi hst hQ=>by
  obtain ⟨hz,hTI,⟨a,b,hTO⟩,s1,s2⟩:=hst
  have hT:s.TypeIs (.ref z) "zip":=⟨_,hz,rfl⟩
  unfold pyNext
  refine wpAny_bind (wpAny_attempt (wpAny_callSpecial?_slot (name:=Str.ofString "__next__") hT F.slot_zip_next
   (wpAny_call_entry F.slot_zip_next hT F.entry_zip_next (Zad D1 D2 X hz hTI hTO s1 s2 (Nat.lt_of_lt_of_le hi (Nat.min_le_left ..)) (Nat.lt_of_lt_of_le hi (Nat.min_le_right ..)) fun x y h' tk p1 p2 a1 a2 a3 a4 a5 a6 hk=>wpAny_pure ?_) (F.args_zip_next_1 _))))
  have lt:∀ {c o},s.heap.get? c = some o→s.heap.objs.size ≠ c:=fun e=>Nat.ne_of_gt (Heap.lt_size e)
  exact hQ s.heap.objs.size #[x,y] h' tk ⟨_,_,p1,p2,rfl⟩ (Nat.le_refl _) ⟨_,a5,rfl,_,rfl⟩
   ⟨a1,hk _ _ X.TIz X.TITO X.TIi1 X.TIi2 hTI,⟨_,_,a2⟩,a3,a4,lt hz,lt hTO,(by obtain ⟨_,e⟩:=D1.live _ _ s1; exact lt e),(by obtain ⟨_,e⟩:=D2.live _ _ s2; exact lt e)⟩
   fun c o hc e=>hk c o (fun x=>hc (by simp [x])) (fun x=>hc (by simp [x])) (fun x=>hc (by simp [x])) (fun x=>hc (by simp [x])) e
 go:=fun elts k pos i T s Q E hm hQ=>by
  obtain ⟨hz,hTI,⟨a,b,hTO⟩,s1,s2,_⟩:=hm
  exact wpAny_letOwnedTupleGo_zip hz fun h' hz' hs'=>hQ h' ⟨hz',hs'.extBut _ _ X.TIz hTI,⟨a,b,hs'.extBut _ _ X.TOz hTO⟩,D1.frame _ _ _ s1 fun b hb o e=>hs'.extBut _ _ (Z0g hb X.zf1) e,D2.frame _ _ _ s2 fun b hb o e=>hs'.extBut _ _ (Z0g hb X.zf2) e⟩ fun c o hc e=>hs'.extBut _ _ (fun x=>hc (by simp [x])) e
 apart:=fun i T h hm hT=>by
  obtain ⟨_,_,_,_,_,t1,t2,t3,t4⟩:=hm
  simp only [List.mem_cons,List.not_mem_nil,or_false] at hT
  rcases hT with rfl | rfl | rfl | rfl
  ·exact t1 rfl
  ·exact t2 rfl
  ·exact t3 rfl
  ·exact t4 rfl
 done:=fun s Q E hst hQ=>by
  obtain ⟨hz,hTI,⟨a,b,hTO⟩,s1,s2⟩:=hst
  have hT:s.TypeIs (.ref z) "zip":=⟨_,hz,rfl⟩
  unfold pyNext
  refine wpAny_bind (wpAny_attempt (wpAny_callSpecial?_slot (name:=Str.ofString "__next__") hT F.slot_zip_next
   (wpAny_call_entry F.slot_zip_next hT F.entry_zip_next (Zc6 D1 D2 X hz hTI hTO s1 s2 (by omega) fun h' tk e hk he=>?_) (F.args_zip_next_1 _))))
  obtain ⟨o,ho,hc⟩:=he
  refine wpAny_bind (wpAny_isInstance (T:="StopIteration") (b:=true) ⟨o,ho,hc⟩ isSubtype_stop ?_)
  exact wpAny_pure (hQ h' tk fun c o hc e=>hk c o (fun x=>hc (by simp [x])) (fun x=>hc (by simp [x])) (fun x=>hc (by simp [x])) (fun x=>hc (by simp [x])) e)
 self:=fun i s Q E hst hQ=>wpAny_pyIter_zip hst.1 hQ
structure Src (prog:Program) (w:World) (A:Around) (z:Addr) (ex:List Addr) (xs:List V) (σ:List O) (μ:List Addr) (h:Heap) (P:Nat→Value→Prop) (St:Nat→Heap→Prop):Prop where
 dr:Draws prog w A.in1 z (z :: ex) xs.length P St
 rep:∀ i x v σ' (μ':List Addr) (h':Heap),xs[i]? = some x→P i v→Kp σ μ h σ' μ' h'→RepV (Tr σ' μ') μ' h' v x
 odd:∀ i h',St i h'→∃ o,h'.get? z = some o∧¬ Z2k o
 old:∀ b ∈ ex,∃ o vs n,h.get? b = some o∧o.data = .seq vs n∧¬ Tr σ μ b
section
variable {prog:Program} {w:World} {A:Around} {σ:List O} {μ:List Addr} {h:Heap} {z:Addr}
theorem Z8L {l:Addr} {o:Obj} {vs:Array Value} {n:Nat} {xs:List V} (hh:A.handled = none) (hz:l ≠ z) (ho:h.get? l = some o) (hd:o.data = .seq vs n) (hT:¬ Tr σ μ l) (r:RepVs (Tr σ μ) μ h vs.toList xs) :
  Src prog w A z [l] xs σ μ h (fun i v=>vs[i]? = some v) (fun i h'=>h'.IsListIter z l i∧h'.IsList l vs) where
 dr:=by
  have e:xs.length = vs.size:=by rw [← r.length,Array.length_toList]
  rw [e]; exact Draws.list (A:=A.in1) hh z l hz vs
 rep:=fun i x v σ' μ' h' hx hp K=>El.x1_2 (r.get hx) fun u hu ru=>by
  obtain rfl:=Option.some.inj (hp.symm.trans ((Array.getElem?_toList).symm.trans hu))
  exact ru.kp K
 odd:=fun i h' q=>El.x1_3 q.1 fun o e _ d=>⟨o,e,not_still d⟩
 old:=fun b hb=>by rw [List.mem_singleton.mp hb]; exact ⟨o,vs,n,ho,hd,hT⟩
theorem Z8M {x:Str} {t:Tok} (hh:A.handled = none) (h1:PyData.strOk x = true) :
  Src prog w A z [] (x.cps.toList.map fun c=>V.str [c]) σ μ h (fun i v=>∃ c u,x.cps[i]? = some c∧v = .str ⟨#[c]⟩ u) (fun i h'=>h'.IsStrIter z (strIterType x) x t i) where
 dr:=by
  have e:(x.cps.toList.map fun c=>V.str [c]).length = x.cps.size:=by rw [List.length_map,Array.length_toList]
  rw [e]
  unfold strIterType
  by_cases ha:x.cps.all (· < 128) = true
  ·rw [if_pos ha]; exact Draws.strAscii (A:=A.in1) hh z x t
  ·rw [if_neg ha]; exact Draws.strWide (A:=A.in1) hh z x t
 rep:=fun i y v σ' μ' h' hx hp K=>by
  obtain ⟨c,u,hc,rfl⟩:=hp
  have e:y = .str [c]:=by simpa [hc] using hx.symm
  subst e
  exact .str ⟨#[c]⟩ u (Z5s h1 hc) (by show 1 ≤ sizeLine; decide)
 odd:=fun i h' q=>El.x1_3 q fun o e _ d=>⟨o,e,not_still d⟩
 old:=fun b hb=>by cases hb
noncomputable def ESp (z:Addr) (St:Nat→Heap→Prop) (i:Nat) (h:Heap):Prop:=(∃ old,IsEnum h (z + 1) z i old)∧St i h
theorem Zae {ex:List Addr} {xs:List V} {P:Nat→Value→Prop} {St:Nat→Heap→Prop} (S:Src prog w A h.objs.size ex xs σ μ h P St) :
  ItrT prog w A (h.objs.size + 1) (h.objs.size + 1) ((h.objs.size + 1) :: h.objs.size :: ex) [h.objs.size] [] (Z2l 0 xs) σ μ h (ESp h.objs.size St):=by
 have exn:∀ b ∈ ex,b < h.objs.size:=fun b hb=>by obtain ⟨o,_,_,e,_⟩:=S.old b hb; exact Heap.lt_size e
 have W:=WalksT.enumerateD S.dr (h.objs.size + 1) (Nat.succ_ne_self _) (fun q=>by
  rcases List.mem_cons.mp q with q | q
  ·exact Nat.succ_ne_self _ q
  ·exact Nat.lt_irrefl _ (Nat.lt_trans (exn _ q) (Nat.lt_succ_self _))) List.mem_cons_self
 rw [← Z75 xs 0] at W
 refine ItrT.of_walks (TO:=h.objs.size + 1) W (fun b hb=>hb) (fun i g q b hb=>?_) (fun i g q b hb=>?_) (fun b hb=>(List.mem_cons.mp hb).elim (fun e=>e ▸ Nat.le_add_right _ _) fun e=>Nat.le_of_eq (List.mem_singleton.mp e).symm)
  (fun b q=>(List.mem_cons.mp q).imp id fun q=>(List.mem_cons.mp q).elim (fun e:b = h.objs.size=>.inl (by rw [e]; exact List.mem_cons_self ..)) fun e=>.inr (.inl (S.old b e)))
  fun i x vals σ' μ' h' hx hv K=>El.x2_2 hv fun t p hp e=>El.x1_2 (Z74 hx) fun y hy e'=>⟨[.int (i:Nat),y],by rw [e',Nat.zero_add],by rw [e]; exact (by decide:2 ≤ sizeLine),by rw [e]; exact .cons (.int _ _) (.cons (S.rep i y p σ' μ' h' hy hp K) .nil)⟩
 ·rw [List.mem_singleton.mp hb]; exact S.odd i _ q.2
 ·have hb':b ∈ [h.objs.size]:=by rwa [List.append_nil] at hb
  rw [List.mem_singleton.mp hb']; exact El.x1_2 (S.odd i _ q.2) fun o e _=>⟨o,e⟩
noncomputable def ZSp (z:Addr) (S1 S2:Nat→Heap→Prop) (i:Nat) (h:Heap):Prop:=IsZip h (z + 4) (z + 2) (z + 3) .none∧IsPair h (z + 2) (.ref z) (.ref (z + 1))∧(∃ a b,IsPair h (z + 3) a b)∧S1 i h∧S2 i h
theorem zin {z b:Nat} (h:b ∈ [z + 4,z,z + 1]++[z + 2]) {P:Nat→Prop} (h1:P (z + 4)) (h2:P z) (h3:P (z + 1)) (h4:P (z + 2)):P b:=by
 rcases List.mem_cons.mp h with rfl | h
 ·exact h1
 rcases List.mem_cons.mp h with rfl | h
 ·exact h2
 rcases List.mem_cons.mp h with rfl | h
 ·exact h3
 ·exact List.mem_singleton.mp h ▸ h4
theorem zge {z b:Nat} (h:b ∈ [z + 4,z,z + 1]++[z + 2]):z ≤ b:=zin (P:=fun b=>z ≤ b) h (Nat.le_add_right _ _) (Nat.le_refl _) (Nat.le_add_right _ _) (Nat.le_add_right _ _)
theorem zne {z b:Nat} (h:b ∈ [z + 4,z,z + 1]++[z + 2]):b ≠ z + 3:=zin (P:=fun b=>b ≠ z + 3) h (by lia) (by lia) (by lia) (by lia)
theorem znot (z b:Nat) (h:b ∉ [z + 3,z + 4,z,z + 1]):b ∉ [z + 4,z + 3,z,z + 1]:=by
 simp only [List.mem_cons,List.not_mem_nil,or_false] at h ⊢; lia
theorem Zc7 {a b:List V} {i:Nat} {p:V} (h:((a.zip b).map fun p=>V.tup [p.1,p.2])[i]? = some p):∃ x y,a[i]? = some x∧b[i]? = some y∧p = .tup [x,y]:=by
 rw [List.getElem?_map] at h
 obtain ⟨⟨x,y⟩,h1,rfl⟩:=Option.map_eq_some_iff.mp h
 obtain ⟨h2,h3⟩:=List.getElem?_zip_eq_some.mp h1
 exact ⟨x,y,h2,h3,rfl⟩
theorem Zc8 {ex1 ex2:List Addr} {xs ys:List V} {P1 P2:Nat→Value→Prop} {S1 S2:Nat→Heap→Prop} (X1:Src prog w A h.objs.size ex1 xs σ μ h P1 S1) (X2:Src prog w A (h.objs.size + 1) ex2 ys σ μ h P2 S2) :
  ItrT prog w A (h.objs.size + 4) (h.objs.size + 3) ((h.objs.size + 4) :: (h.objs.size + 2) :: (h.objs.size + 3) :: ((h.objs.size :: ex1)++((h.objs.size + 1) :: ex2))) [h.objs.size + 4,h.objs.size,h.objs.size + 1] [h.objs.size + 2] ((xs.zip ys).map fun p=>.tup [p.1,p.2]) σ μ h (ZSp h.objs.size S1 S2):=by
 have e1:∀ b ∈ ex1,b < h.objs.size:=fun b hb=>by obtain ⟨o,_,_,e,_⟩:=X1.old b hb; exact Heap.lt_size e
 have e2:∀ b ∈ ex2,b < h.objs.size:=fun b hb=>by obtain ⟨o,_,_,e,_⟩:=X2.old b hb; exact Heap.lt_size e
 have nm:∀ (ex:List Addr) (hx:∀ b ∈ ex,b < h.objs.size) (a c:Nat),h.objs.size ≤ a→a ≠ c→a ∉ (c :: ex:List Addr):=fun ex hx a c hc hk q=>by
  rcases List.mem_cons.mp q with q | q
  ·exact hk q
  ·exact Nat.lt_irrefl _ (Nat.lt_of_lt_of_le (hx _ q) hc)
 have hlen:min xs.length ys.length = ((xs.zip ys).map fun p=>V.tup [p.1,p.2]).length:=by rw [List.length_map,List.length_zip]
 have W:=WalksT.zipD (z:=h.objs.size + 4) (TI:=h.objs.size + 2) (TO:=h.objs.size + 3) X1.dr X2.dr
  ⟨by intro e; have e':@Eq Nat _ _:=e; lia,by intro e; have e':@Eq Nat _ _:=e; lia,by intro e; have e':@Eq Nat _ _:=e; lia,by intro e; have e':@Eq Nat _ _:=e; lia,by intro e; have e':@Eq Nat _ _:=e; lia,
   nm _ e1 _ _ (by lia) (by lia),nm _ e2 _ _ (by lia) (by lia),nm _ e1 _ _ (by lia) (by lia),nm _ e2 _ _ (by lia) (by lia),nm _ e2 _ _ (by lia) (by lia),nm _ e1 _ _ (by lia) (by lia),List.mem_cons_self,List.mem_cons_self⟩
 rw [hlen] at W
 refine ItrT.of_walks W (fun b hb=>znot _ _ hb) (fun i g q b hb=>?_) (fun i g q b hb=>?_) (fun b hb=>(List.mem_cons.mp hb).elim (fun e=>e ▸ Nat.le_add_right _ _) zge)
  (fun b q=>?_) fun i x vals σ' μ' h' hx hv K=>?_
 ·rcases List.mem_cons.mp hb with rfl | hb
  ·exact ⟨_,q.1,not_still rfl⟩
  rcases List.mem_cons.mp hb with rfl | hb
  ·exact X1.odd i _ q.2.2.2.1
  ·exact List.mem_singleton.mp hb ▸ X2.odd i _ q.2.2.2.2
 ·exact zin (P:=fun b=>∃ o,g.get? b = some o) hb ⟨_,q.1⟩ (El.x1_2 (X1.odd i _ q.2.2.2.1) fun o e _=>⟨o,e⟩) (El.x1_2 (X2.odd i _ q.2.2.2.2) fun o e _=>⟨o,e⟩) ⟨_,q.2.1⟩
 ·simp only [List.mem_cons,List.mem_append] at q
  rcases q with rfl | rfl | rfl | (rfl | q) | rfl | q
  ·exact .inr (.inl (by simp))
  ·exact .inr (.inl (by simp))
  ·exact .inl rfl
  ·exact .inr (.inl (by simp))
  ·exact .inr (.inr (.inl (X1.old b q)))
  ·exact .inr (.inl (by simp))
  ·exact .inr (.inr (.inl (X2.old b q)))
 ·obtain ⟨p,q,hp,hq,rfl⟩:=hv
  obtain ⟨x',y',hx',hy',rfl⟩:=Zc7 hx
  exact ⟨_,rfl,(by decide:2 ≤ sizeLine),.cons (X1.rep i x' p σ' μ' h' hx' hp K) (.cons (X2.rep i y' q σ' μ' h' hy' hq K) .nil)⟩
end
abbrev zs1 (h:Heap) (x:Str) (t:Tok):Heap:=h.push { cls:=.type (strIterType x),data:=.fields #[.str x t,.int 0 0] }
abbrev zs2 (h:Heap) (x:Str) (t:Tok) (l2:Addr):Heap:=(zs1 h x t).push { cls:=.type "list_iterator",data:=.fields #[.ref l2,.int 0 0] }
abbrev zs3 (h:Heap) (x:Str) (t:Tok) (l2:Addr):Heap:=(zs2 h x t l2).push { cls:=.type "tuple",data:=.seq #[.ref h.objs.size,.ref (zs1 h x t).objs.size] }
abbrev zs4 (h:Heap) (x:Str) (t:Tok) (l2:Addr):Heap:=(zs3 h x t l2).push { cls:=.type "tuple",data:=.seq #[.none,.none] }
abbrev zs5 (h:Heap) (x:Str) (t:Tok) (l2:Addr):Heap:=(zs4 h x t l2).push { cls:=.type "zip",data:=.fields #[.none,.bool false,.bool false,.ref (zs2 h x t l2).objs.size,.ref (zs3 h x t l2).objs.size] }
theorem Zaf (x:Str) (t:Tok) (l2:Addr) (ys:Array Value) :
  Meets (Builtin.«zip.__new__» ⟨[.type "zip",.str x t,.ref l2],[]⟩) (fun _ R s=>s.heap.IsList l2 ys∧R (.ok (.ret (.ref (zs4 s.heap x t l2).objs.size))) { s with heap:=zs5 s.heap x t l2 }) :=
 .of_wp fun prog w A R s h=>by
  obtain ⟨hp,g,d,tk,os⟩:=s; obtain ⟨hl2,h⟩:=h
  have hsub:=sub_zip
  have hL2:Heap.IsList (Shared.heap ⟨hp.push { cls:=.type (strIterType x),data:=.fields #[.str x t,.int 0 0] },g,d,tk,os⟩) l2 ys:=Heap.IsList.push hl2 _
  wp_walk using wpAny_pyIter_strU,wpAny_pyIter_list hL2
  exact ⟨_,rfl,h⟩
section
variable {prog:Program} {w:World} {A:Around} {E:Value→Shared→Prop} {s:Shared}
theorem Z8N {x:Str} {t:Tok} {l2:Addr} {ys:Array Value} {Q:Value→Shared→Prop} (hl2:s.heap.IsList l2 ys)
  (h:∀ h',IsZip h' (s.heap.objs.size + 4) (s.heap.objs.size + 2) (s.heap.objs.size + 3) .none→IsPair h' (s.heap.objs.size + 2) (.ref s.heap.objs.size) (.ref (s.heap.objs.size + 1)) →
   IsPair h' (s.heap.objs.size + 3) .none .none→h'.IsStrIter s.heap.objs.size (strIterType x) x t 0→h'.IsListIter (s.heap.objs.size + 1) l2 0→h'.objs.size = s.heap.objs.size + 5 →
   (∀ c o,s.heap.get? c = some o→h'.get? c = some o)→Q (.ref (s.heap.objs.size + 4)) { s with heap:=h' }) :
  wpAny (model prog w) A (call (.type "zip") [.str x t,.ref l2]) Q E s:=by
 refine callType_new F.called_zip (by decide) (F.typeCall_zip_2 _ _) (F.newCall_zip_2 _ _) (fun obj=>F.args_object_init_3 obj _ _) F.entry_zip_new
  (Zaf x t l2 ys) ⟨hl2,?_⟩
 have z1:(zs1 s.heap x t).objs.size = s.heap.objs.size + 1:=Heap.size_push ..
 have z2:(zs2 s.heap x t l2).objs.size = s.heap.objs.size + 2:=by rw [Heap.size_push,z1]
 have z3:(zs3 s.heap x t l2).objs.size = s.heap.objs.size + 3:=by rw [Heap.size_push,z2]
 have z4:(zs4 s.heap x t l2).objs.size = s.heap.objs.size + 4:=by rw [Heap.size_push,z3]
 have z5:(zs5 s.heap x t l2).objs.size = s.heap.objs.size + 5:=by rw [Heap.size_push,z4]
 have g5:(zs5 s.heap x t l2).get? (zs4 s.heap x t l2).objs.size = some _:=Heap.get?_push_size _ rfl
 have g4:(zs5 s.heap x t l2).get? (zs3 s.heap x t l2).objs.size = some _:=Heap.get?_push_of_some _ (Heap.get?_push_size _ rfl)
 have g3:(zs5 s.heap x t l2).get? (zs2 s.heap x t l2).objs.size = some _:=Heap.get?_push_of_some _ (Heap.get?_push_of_some _ (Heap.get?_push_size _ rfl))
 have g2:(zs5 s.heap x t l2).get? (zs1 s.heap x t).objs.size = some _:=Heap.get?_push_of_some _ (Heap.get?_push_of_some _ (Heap.get?_push_of_some _ (Heap.get?_push_size _ rfl)))
 have g1:(zs5 s.heap x t l2).get? s.heap.objs.size = some _:=Heap.get?_push_of_some _ (Heap.get?_push_of_some _ (Heap.get?_push_of_some _ (Heap.get?_push_of_some _ (Heap.get?_push_size _ rfl))))
 show _∧_
 rw [z2,z3,z4] at g5
 rw [z1,z2] at g3
 rw [z3] at g4
 rw [z1] at g2
 rw [z4]
 exact ⟨⟨_,g5,rfl⟩,h _ g5 g3 g4 ⟨_,g1,rfl,rfl⟩ ⟨_,g2,rfl,rfl⟩ z5 fun c o x=>
  Heap.get?_push_of_some _ (Heap.get?_push_of_some _ (Heap.get?_push_of_some _ (Heap.get?_push_of_some _ (Heap.get?_push_of_some _ x))))⟩
end
section
variable {W:Wo} {K:Nat}
noncomputable def ZOk (W:Wo) (it:It):Prop:=∀ (g:Gm) (p:Expr) (c:Cx) (st:St) (μ:List Addr) (s:Shared),okZ g it p = true→Good W c g→Inv c st μ s.heap→Sim c (eval (pI it p) c.env) (evIt W.F it st) (rZ c s.heap.objs.size) st.σ μ s
theorem Z8O {c:Cx} {z₀:Nat} {st:St} {μ:List Addr} {s:Shared} {v:Value} {x:V} {xs:List V} (hh:c.A.handled = none) (I:Inv c st μ s.heap) (hz₀:z₀ ≤ s.heap.objs.size) (rx:RepV (Tr st.σ μ) μ s.heap v x) (hw:Zbv x = some xs) :
  wpAny (model c.prog c.w) c.A (call (.type "enumerate") [v]) (fun w s'=>∃ μ',rZ c z₀ ⟨st.ρ,st.σ++[.priv]⟩ μ' s'.heap w (Z2l 0 xs)∧Inv c ⟨st.ρ,st.σ++[.priv]⟩ μ' s'.heap∧Stp c st.σ μ s.heap (st.σ++[.priv]) μ' s'.heap∧Same s s') (fun _ _=>False) s:=by
 have fin:∀ {ex:List Addr} {P:Nat→Value→Prop} {St:Nat→Heap→Prop} (S:Src c.prog c.w c.A s.heap.objs.size ex xs st.σ μ s.heap P St) (h':Heap),IsEnum h' (s.heap.objs.size + 1) s.heap.objs.size 0 .none→St 0 h'→h'.objs.size = s.heap.objs.size + 2→(∀ b o,s.heap.get? b = some o→h'.get? b = some o) →
   ∃ μ',rZ c z₀ ⟨st.ρ,st.σ++[.priv]⟩ μ' h' (.ref (s.heap.objs.size + 1)) (Z2l 0 xs)∧Inv c ⟨st.ρ,st.σ++[.priv]⟩ μ' h'∧Stp c st.σ μ s.heap (st.σ++[.priv]) μ' h':=by
  intro ex P St S h' a1 a4 a6 a7
  refine El.x0_2 (I.trackP (TO:=s.heap.objs.size + 1) ⟨by lia,a7⟩ (Nat.le_add_right _ _) (show s.heap.objs.size + 1 < h'.objs.size by lia)) fun I' S'=>?_
  refine ⟨μ++[s.heap.objs.size + 1],⟨_,_,_,_,_,_,_,_,_,rfl,Zae S,⟨⟨_,a1⟩,a4⟩,S'.kp I,fun b q=>?_,⟨st.σ.length,List.getElem?_concat_length,by rw [← I.len]; exact List.getElem?_concat_length⟩,fun b q=>Nat.le_of_eq (List.mem_singleton.mp q).symm,Nat.le_add_right _ _,hz₀⟩,I',S'⟩
  have hb:b = s.heap.objs.size:=List.mem_singleton.mp (by rwa [List.append_nil] at q)
  have fa:=Z3s I (b:=b) (Nat.le_of_eq hb.symm)
  exact ⟨fun m=>(List.mem_append.mp m).elim fa.1 fun m=>Nat.succ_ne_self _ ((List.mem_singleton.mp m).symm.trans hb),fa.2⟩
 refine Z85 hw (fun e=>?_) fun l e e2=>?_
 ·subst e
  refine El.x4_7 rx.lstI fun l o vs n e9 ho hc hd hz hT r=>?_
  rw [e9]
  have hl:s.heap.IsList l vs:=⟨o,ho,hc,n,hd⟩
  refine call_enumerate_list hl fun h' a1 a4 a6 a7=>El.x1_3 (fin (Z8L hh (Nat.ne_of_lt (Heap.lt_size ho)) ho hd hT r) h' a1 ⟨a4,hl.at fun o e=>a7 _ o e⟩ a6 a7) fun μ' g1 g2 g3=>⟨μ',g1,g2,g3,⟨rfl,rfl,rfl⟩⟩
 ·subst e e2
  obtain ⟨x,t,rfl,rfl,h1,h2⟩:=rx.str_inv
  exact call_enumerate_str fun h' a1 a4 a6 a7=>El.x1_3 (fin (Z8M hh h1) h' a1 a4 a6 a7) fun μ' g1 g2 g3=>⟨μ',g1,g2,g3,⟨rfl,rfl,rfl⟩⟩
theorem Zag {c:Cx} {z₀:Nat} {st:St} {μ:List Addr} {s:Shared} {u v:Value} {l:List Nat} {ys:List V} (hh:c.A.handled = none) (I:Inv c st μ s.heap) (hz₀:z₀ ≤ s.heap.objs.size) (rx:RepV (Tr st.σ μ) μ s.heap u (.str l)) (ry:RepV (Tr st.σ μ) μ s.heap v (.lst ys)) :
  wpAny (model c.prog c.w) c.A (call (.type "zip") [u,v]) (fun w s'=>∃ μ',rZ c z₀ ⟨st.ρ,st.σ++[.priv]⟩ μ' s'.heap w (((l.map fun c=>V.str [c]).zip ys).map fun p=>.tup [p.1,p.2])∧Inv c ⟨st.ρ,st.σ++[.priv]⟩ μ' s'.heap∧Stp c st.σ μ s.heap (st.σ++[.priv]) μ' s'.heap∧Same s s') (fun _ _=>False) s:=by
 obtain ⟨x,t,rfl,rfl,h1,h2⟩:=rx.str_inv
 refine El.x4_7 ry.lstI fun l2 o2 vs2 n2 e ho2 hc2 hd2 hz2 hT2 r2=>?_
 rw [e]
 have hl2:s.heap.IsList l2 vs2:=⟨o2,ho2,hc2,n2,hd2⟩
 have b2:=Heap.lt_size ho2
 refine Z8N hl2 fun h' a1 a2 a3 a4 a5 a6 a7=>?_
 refine El.x0_2 (I.trackP (TO:=s.heap.objs.size + 3) ⟨by lia,a7⟩ (Nat.le_add_right _ _) (show s.heap.objs.size + 3 < h'.objs.size by lia)) fun I' S'=>?_
 refine ⟨μ++[s.heap.objs.size + 3],⟨_,_,_,_,_,_,_,_,_,rfl,Zc8 (Z8M (t:=t) hh h1) (Z8L hh (Nat.ne_of_lt (Nat.lt_succ_of_lt b2)) ho2 hd2 hT2 r2),⟨a1,a2,⟨_,_,a3⟩,a4,a5,hl2.at fun o e=>a7 _ o e⟩,S'.kp I,fun b q=>?_,⟨st.σ.length,List.getElem?_concat_length,by rw [← I.len]; exact List.getElem?_concat_length⟩,fun b q=>zge (List.mem_append_left _ q),Nat.le_add_right _ _,hz₀⟩,I',S',⟨rfl,rfl,rfl⟩⟩
 have fa:=Z3s I (zge q)
 exact ⟨fun m=>(List.mem_append.mp m).elim fa.1 fun m=>zne q (List.mem_singleton.mp m),fa.2⟩
theorem Zah {a:Ex} (ha:EOk W a):ZOk W (.enum a):=fun g p c st μ s hk hg I=>
 Sim.of_eq (arm_eval_Call_Name' ..) (Sim.name hg I (and2 hk).1 (by decide) Z40 (Sim.of_m (Z2Q ..) (Sim.via (f:=fun vs=>call (.type "enumerate") vs) (fun Q h=>Zc1 (fun y=>Z1o (Z0c a _)) h) (Z4M (pos:=p.pos) (Z0c a _) (ha g _ c st μ s (and2 hk).2 hg I)) fun y st₂ vs μ₂ s₂ _ hu I₂ S₂=>El.x1_2 hu fun u e ry=>Sim.ok fun xs st' h=>Z06 h fun ys hw h=>by
  rw [e,ok1 h,ok2 h]; exact Z8O hg.hh I₂ S₂.size ry hw)))
theorem Zc9 {a b:Ex} (ha:EOk W a) (hb:EOk W b):ZOk W (.zip a b):=fun g p c st μ s hk hg I=>
 Z5p (.inr ⟨_,rfl⟩) Za5 (by decide) hg I (and2 hk).1 ha hb (and2 (and2 hk).2).1 (and2 (and2 hk).2).2 fun x y st₁ u v μ₁ s₁ rx ry I₁ S₁=>Sim.ok fun q st' h=>Z06 h fun l el h=>Z06 h fun ys ey h=>by
  rw [ok1 h,ok2 h]
  exact Zag hg.hh I₁ S₁.size (Z13 el ▸ rx) (Z1j ey ▸ ry)
theorem Z76 {is:List Nat} {it:It} {body:Sms} (hZ:ZOk W it) (hb:SsOk W K body):SOk W K (.forT is it body):=fun g p c st μ s hk hg I=>Sim.ok fun fl stF hr=>by
 refine El.x2_2 (R.bind_inv hr) fun xs st₁ hR hr=>?_
 have hI:=hZ g _ c st μ s (and2 (and2 hk).2).1 hg I
 rw [hR] at hI
 refine wpAny_For (wpAny_mono hI (fun v s₁ q8=>El.x1_4 q8 fun μ₁ rs I₁ S₁ Q₁=>?_) fun _ _ e=>e) (Z24 it _ _)
 refine El.x9_9 rs fun I0 TO fp wr nw σ₀ μ₀ h₀ Sp q7z W' sp Kp₀ hw q8z wn wt hz=>?_
 try clear Sp; try clear h₀; try clear μ₀; try clear σ₀; try clear nw; try clear wr; try clear fp; try clear TO; try clear I0; try clear rs; try clear μ₁; try clear hI
 obtain rfl:=q7z
 refine El.x1_2 q8z fun m hm1 hm2=>?_
 refine W'.again 0 s₁ _ _ sp ?_
 refine codeAny_mono (Z5x (elts:=pT is (kids (skid p 0))) (kk:=kOf (skid p 0)) (tp:=(skid p 0).pos) (body:=pSs body (blk p)) (as:=asT is) (bd:=fun st=>evSs W.F K body st) W' sp (fun y v st μ s r I=>Z1L hg (and2 hk).1 r I)
  (fun st μ s I=>hb g _ c st μ s (and2 (and2 hk).2).2 hg I) I₁ hm1 hm2 Kp₀ (fun b q=>(hw b q).1) (fun b q=>(hw b q).2.1) (fun b q=>(hw b (List.mem_append_left _ q)).2.2) S₁
  (fun b q=>Nat.le_trans hz (by
   try clear hm2; try clear hm1; try clear m; try clear hz; try clear q8z; try clear hw; try clear Kp₀; try clear sp; try clear W; try clear q7z; try clear S₁; try clear I₁
   rcases List.mem_cons.mp q with rfl | q
   ·exact wt
   ·exact wn b q)) (fl:=fl) (stF:=stF) hr) ?_
 rintro r s' hr'
 try clear s'; try clear wt; try clear wn; try clear I; try clear hg; try clear e3; try clear e2; try clear e1; try clear s; try clear μ; try clear st; try clear c
 cases r with
 | ok f=>
  refine El.x1_4 hr' fun μ' g1 g2 g3 g4=>?_
  exact ⟨μ',g1,g2,g3,Q₁.trans g4⟩
 | error e=>exact hr'.elim
end
theorem Z7I {p p':Program} {w w':World} {es:List DictEntry} {kvs:List (Int × Value)} (h:Pairs (intKind p w) es kvs):Pairs (intKind p' w') es kvs:=by
 induction h with
 | nil=>exact .nil
 | cons a b _ ih=>exact .cons a b ih
theorem Z6b {p:Program} {w:World} {o:Obj} {kvs:List (Int × Value)} (h:o.IsDictOf (intKind p w) kvs):∀ (p':Program) (w':World),o.IsDictOf (intKind p' w') kvs:=fun p' w'=>
 let ⟨es,ep,h1,h2,h3,h4,h5⟩:=h
 ⟨es,ep,h1,h2,h3,Z7I h4,h5⟩
theorem Z6c {kvs:List (Int × Value)} {ys:List (Int × V)} (h:kvs.map (·.1) = ys.map (·.1)) (k:Int) (u:Value) (v:V):(stored kvs k u).map (·.1) = (Z10 ys k v).map (·.1):=by
 have ha:(kvs.any fun p=>p.1 = k) = (ys.any fun p=>p.1 = k):=by
  have:=congrArg (fun l:List Int=>l.any fun x=>x = k) h
  simpa [List.any_map,Function.comp_def] using this
 unfold stored Z10
 rw [ha]
 split
 ·rw [List.map_map,List.map_map]
  have e1:(fun kv:Int × Value=>kv.1) ∘ (fun kv=>if kv.1 = k then (kv.1,u) else kv) = fun kv=>kv.1:=by funext kv; simp only [Function.comp]; split <;> rfl
  have e2:(fun kv:Int × V=>kv.1) ∘ (fun kv=>if kv.1 = k then (kv.1,v) else kv) = fun kv=>kv.1:=by funext kv; simp only [Function.comp]; split <;> rfl
  rw [e1,e2]; exact h
 ·rw [List.map_append,List.map_append,h]; rfl
theorem Z3t {T:Addr→Prop} {μ:List Addr} {h:Heap} {k:Int} {u:Value} {v:V} (ru:RepV T μ h u v):∀ {kvs:List (Int × Value)} {ys:List (Int × V)},kvs.map (·.1) = ys.map (·.1)→RepVs T μ h (kvs.map (·.2)) (ys.map (·.2))→RepVs T μ h ((kvs.map fun p=>if p.1 = k then (p.1,u) else p).map (·.2)) ((ys.map fun p=>if p.1 = k then (p.1,v) else p).map (·.2))
 | [],[],_,_=>.nil
 | [],_ :: _,e,_=>by cases e
 | _ :: _,[],e,_=>by cases e
 | p :: kvs,q :: ys,e,r=>by
  have e1:p.1 = q.1:=(List.cons.inj e).1
  have e2:=(List.cons.inj e).2
  refine El.x2_3 r.consI fun v9 vs9 e9 a r=>?_
  try clear vs9; try clear v9
  cases e9
  refine .cons ?_ (Z3t ru e2 r)
  dsimp only
  by_cases hk:p.1 = k
  ·rw [if_pos hk,if_pos (e1 ▸ hk)]; exact ru
  ·rw [if_neg hk,if_neg (e1 ▸ hk)]; exact a
theorem Z7J {T:Addr→Prop} {μ:List Addr} {h:Heap} {k:Int} {u:Value} {v:V} (ru:RepV T μ h u v) {kvs:List (Int × Value)} {ys:List (Int × V)} (e:kvs.map (·.1) = ys.map (·.1)) (r:RepVs T μ h (kvs.map (·.2)) (ys.map (·.2))):RepVs T μ h ((stored kvs k u).map (·.2)) ((Z10 ys k v).map (·.2)):=by
 have ha:(kvs.any fun p=>p.1 = k) = (ys.any fun p=>p.1 = k):=by
  have:=congrArg (fun l:List Int=>l.any fun x=>x = k) e
  simpa [List.any_map,Function.comp_def] using this
 unfold stored Z10
 rw [ha]
 split
 ·exact Z3t ru e r
 ·rw [List.map_append,List.map_append]
  exact r.append (.cons ru .nil)
section
variable {W:Wo} {K:Nat}
theorem Z3u:EOk W .dictM:=fun g p c st μ s hk hg I=>by
 refine El.x0_2 (I.track (o:={ cls:=.type "dict",data:=.dict #[] }) (ob:=.idict []) rfl rfl trivial fun T hT=>.live (Heap.get?_push_size _ rfl) (.idict (kvs:=[]) (fun p w=>⟨#[],0,⟨rfl,rfl,rfl⟩,rfl,fun _ he=>by simp at he,.nil,List.nodup_nil⟩) (Nat.zero_le _) rfl) .nil) fun I₂ S₂=>?_
 exact wpAny_Dict_empty ⟨_,.ref (by rw [← I.len]; simp),I₂,S₂,.refl⟩
theorem RepVs.setAt {T:Addr→Prop} {μ:List Addr} {h:Heap} {vs:List Value} {xs:List V} {u:Value} {v:V} (r:RepVs T μ h vs xs) (ru:RepV T μ h u v) (k:Nat):RepVs T μ h (vs.set k u) (xs.set k v):=by
 refine RepVs.of_get (by rw [List.length_set,List.length_set,r.length]) fun i a b ha hb=>?_
 by_cases hk:k = i
 ·try clear b; try clear a; try clear i
  subst hk
  rw [List.getElem?_set_self'] at ha hb
  cases e1:vs[k]? with
  | none=>rw [e1] at ha; cases ha
  | some _=>
   cases e2:xs[k]? with
   | none=>rw [e2] at hb; cases hb
   | some _=>rw [e1] at ha; rw [e2] at hb; cases ha; cases hb; exact ru
 ·rw [List.getElem?_set_ne hk] at ha hb
  refine El.x1_2 (r.get hb) fun w hw rw'=>?_
  rw [hw] at ha; cases ha; exact rw'
section
variable {prog:Program} {w:World} {A:Around} {E:Value→Shared→Prop} {s:Shared}
theorem Z4T {l:Addr} {items:Array Value} {n j:Nat} {k:Int} {t:Tok} {v:Value} {Q:Unit→Shared→Prop} (ho:s.heap.get? l = some { cls:=.type "list",data:=.seq items n }) (hk:k = (j:Int)) (hj:j < items.size) (hz:items.size ≤ sizeLine)
  (hQ:Q () { s with heap:=s.heap.update l (Obj.mapSeq (·.setIfInBounds j v)) }):wpAny (model prog w) A (setItem (.ref l) (.int k t) v) Q E s:=by
 have hl:s.heap.IsList l items:=⟨_,ho,rfl,n,rfl⟩
 have hfit:k < 2 ^ 63:=by have:=Z0V hz; lia
 unfold setItem
 try with_reducible refine wpAny_holding ?_
 first | refine wpAny_bind (wpAny_pure ?_) | skip
 refine wpAny_bind (wpAny_sequenceKey hl.typeIs (by decide) ?_)
 refine wpAny_bind (wpAny_callSpecial?_slot (name:=Str.ofString "__setitem__") hl.typeIs slot_list_setitem (wpAny_call_entry slot_list_setitem hl.typeIs entry_list_setitem ?_ (args_list_setitem _ _ _)))
 show wpAny _ _ (Builtin.List.listSubscript? (.int k t) >>= _) _ _ s
 refine wpAny_bind (wpAny_listSubscript_int (fitsIndex_of (by lia) hfit) ?_)
 clear hfit
 try clear hfit; try clear hl
 subst hk
 have hx:items[j]? = some items[j]:=Array.getElem?_eq_getElem hj
 show wpAny _ _ ((seqItemAt l j >>= fun r=>pure (r.map (j,·))) >>= _) _ _ s
 refine wpAny_bind (wpAny_bind (wpAny_seqItemAt ho rfl (wpAny_pure ?_)))
 rw [hx]
 show wpAny _ _ (setSeqItemAt l j v >>= _) _ _ s
 refine wpAny_bind (wpAny_setSeqItemAt ho rfl ?_)
 first
  | exact wpAny_bind (wpAny_pure (wpAny_pure ⟨.none,rfl,wpAny_pure hQ⟩))
  | exact wpAny_pure ⟨.none,rfl,wpAny_pure hQ⟩
end
section
variable {c:Cx} {st:St} {μ:List Addr} {s:Shared} {u w:Value} {v:V} {m:Nat} {tk:Tok}
theorem Zai {k:Nat} {xs:List V} (I:Inv c st μ s.heap) (rx:RepV (Tr st.σ μ) μ s.heap u (.ref m)) (rv:RepV (Tr st.σ μ) μ s.heap w v) (hσ:st.σ[m]? = some (.lst xs)) (hlt:k < xs.length) :
  wpAny (model c.prog c.w) c.A (setItem u (.int k tk) w) (fun _ s'=>∃ μ',Inv c ⟨st.ρ,st.σ.set m (.lst (xs.set k v))⟩ μ' s'.heap∧Stp c st.σ μ s.heap (st.σ.set m (.lst (xs.set k v))) μ' s'.heap∧Same s s') (fun _ _=>False) s:=by
 refine El.x2_4 (I.ref_inv rx hσ) fun d vs e q hz r=>?_
 subst e
 refine El.x1_1 q fun k' ho=>?_
 have el:=r.length
 rw [Array.length_toList] at el
 have hob:(s.heap.update d (Obj.mapSeq (·.setIfInBounds k w))).get? d = some { cls:=.type "list",data:=.seq (vs.setIfInBounds k w) _ }:=IsL.update ho _
 refine El.x0_2 (I.updL (xs':=xs.set k v) hσ rx.refA (Heap.SameBut.update ..) hob (by rw [Array.size_setIfInBounds]; exact hz) (by rw [Array.toList_setIfInBounds]; exact r.setAt rv k)) fun I' S'=>?_
 exact Z4T ho rfl (by rw [el]; exact hlt) hz ⟨μ,I',S',⟨rfl,rfl,rfl⟩⟩
theorem Z8P {k:List (Option Int)} {es:List (List (Option Int) × V)} {ku:Value} {t:Sem Unit} (ht:∀ (d a:Addr) xs (Q:Unit→Shared→Prop),u = .ref d→ku = .ref a→IsTupleKey (Z2j c.prog c.w) s.heap k a→s.heap.DictOfH (Z1I c.prog c.w) d xs→(∀ h',h'.DictOfH (Z1I c.prog c.w) d (storedH xs k a w)→Heap.SameBut d s.heap h'→Q () { s with heap:=h',toks:=s.toks + (Z1I c.prog c.w).draws k })→xs.length ≤ sizeLine→wpAny (model c.prog c.w) c.A t Q (fun _ _=>False) s) (ok:CxOk c) (I:Inv c st μ s.heap) (rx:RepV (Tr st.σ μ) μ s.heap u (.ref m)) (rk:RepV (Tr st.σ μ) μ s.heap ku (kV k)) (rv:RepV (Tr st.σ μ) μ s.heap w v) (hσ:st.σ[m]? = some (.kdict es)) (hz:es.length < sizeLine) (hf:(es.find? fun p=>p.1 = k) = none) :
  wpAny (model c.prog c.w) c.A t (fun _ s'=>∃ μ',Inv c ⟨st.ρ,st.σ.set m (.kdict (es++[(k,v)]))⟩ μ' s'.heap∧Stp c st.σ μ s.heap (st.σ.set m (.kdict (es++[(k,v)]))) μ' s'.heap∧Same s s') (fun _ _=>False) s:=by
 obtain ⟨d,o,xs,rfl,hd,_,hH,ho,L,hm,r1,r2⟩:=Z4A ok I rx hσ
 obtain ⟨a,rfl,hi⟩:=Z6M rk
 have hlen:xs.length = es.length:=by have:=congrArg List.length L.keys; simpa using this
 have hn:atKey xs k = none:=by
  rcases Z9U (k:=k) L.keys r2 with ⟨h1,_⟩ | ⟨p,z,_,h2,_⟩
  ·exact h1
  ·rw [hf] at h2; cases h2
 refine ht d a xs _ rfl rfl (hi _ _) hm (fun h' hm' hs'=>?_) (by rw [hlen]; exact Nat.le_of_lt hz)
 rw [storedH_new hn] at hm'
 obtain ⟨o',ds,ep,ho',hE,hd',he,_,hnd⟩:=hm'
 have tE:Tr (st.σ.set m (.kdict es)) μ = Tr st.σ μ:=funext fun b=>propext (Z39 hσ rfl rfl)
 have S:Stp c st.σ μ s.heap (st.σ.set m (.kdict es)) μ h' :=
  ⟨Nat.le_of_eq hs'.1.symm,fun b ob q _ hT=>(hs'.2 b (fun (k:b = d)=>hT (k ▸ ⟨m,_,hσ,rfl,hd⟩))).trans q,fun _ _ q=>q,fun b q=>.inl (by rwa [tE] at q),fun _ q=>.inl q,Z45 hσ (by simp),fun k b ob e1 e2 e3=>(hs'.2 b fun x=>by
   have:m = k:=(List.getElem?_inj (List.getElem?_eq_some_iff.mp hd).1 I.nd).mp (hd.trans (x ▸ e2.symm))
   subst this; rw [hσ] at e1; cases e1).trans e3⟩
 have r:=(r1.append (.cons rk .nil)).append (r2.append (.cons rv .nil))
 have r:=r.step (st':=⟨st.ρ,st.σ.set m (.kdict es)⟩) I S
 dsimp only at r
 rw [tE] at r
 have K:KLay o' (xs++[(k,a,w)]) (es++[(k,v)]):=⟨hE,⟨ds,ep,hd',by rw [he]; rfl⟩,hnd,by rw [List.length_append,hlen]; exact hz,by rw [List.map_append,List.map_append,L.keys]; rfl⟩
 have R:RepO (Tr st.σ μ) μ h' d (.kdict (es++[(k,v)])):=.live ho' (.kdict K) (by rw [List.map_append,List.map_append,List.map_append,List.map_append]; exact r)
 refine El.x0_2 (I.upd hσ hd rfl rfl (.of hs') R (by simp) trivial) fun I' S'=>?_
 exact ⟨μ,I',S',⟨rfl,rfl,rfl⟩⟩
theorem Z77 {k:Int} {es:List (Int × V)} {t:Sem Unit} (ht:∀ (d:Addr) kvs (Q:Unit→Shared→Prop),u = .ref d→s.heap.DictOf (intKind c.prog c.w) d kvs→(∀ h',h'.DictOf (intKind c.prog c.w) d (stored kvs k w)→Heap.SameBut d s.heap h'→Q () { s with heap:=h',toks:=s.toks + 1 })→kvs.length ≤ sizeLine→wpAny (model c.prog c.w) c.A t Q (fun _ _=>False) s) (I:Inv c st μ s.heap) (rx:RepV (Tr st.σ μ) μ s.heap u (.ref m)) (rv:RepV (Tr st.σ μ) μ s.heap w v) (hσ:st.σ[m]? = some (.idict es)) (hz:es.length < sizeLine) :
  wpAny (model c.prog c.w) c.A t (fun _ s'=>∃ μ',Inv c ⟨st.ρ,st.σ.set m (.idict (Z10 es k v))⟩ μ' s'.heap∧Stp c st.σ μ s.heap (st.σ.set m (.idict (Z10 es k v))) μ' s'.heap∧Same s s') (fun _ _=>False) s:=by
 refine El.x1_2 rx.refI fun d e9 hd=>?_
 subst e9
 refine El.x1_2 (I.objs m _ hσ) fun d' hd' ro=>?_
 have ed:d = d':=Option.some.inj (hd.symm.trans hd')
 subst ed
 refine El.x2_5 ro.idictI fun ob kvs ho hD hzk hkk r=>?_
 have hlen:kvs.length = es.length:=by have:=congrArg List.length hkk; simpa using this
 refine ht d kvs _ rfl (Heap.dictOf_iff.mpr ⟨_,ho,hD c.prog c.w⟩) (fun h' hm' hs'=>?_) (by rw [hlen]; exact Nat.le_of_lt hz)
 refine El.x1_2 (Heap.dictOf_iff.mp hm') fun o' ho' hD'=>?_
 have tE:Tr (st.σ.set m (.idict es)) μ = Tr st.σ μ:=funext fun b=>propext (Z39 hσ rfl rfl)
 have S:Stp c st.σ μ s.heap (st.σ.set m (.idict es)) μ h' :=
  ⟨Nat.le_of_eq hs'.1.symm,fun b ob q _ hT=>(hs'.2 b (fun (k:b = d)=>hT (k ▸ ⟨m,_,hσ,rfl,hd⟩))).trans q,fun _ _ q=>q,fun b q=>.inl (by rwa [tE] at q),fun _ q=>.inl q,Z45 hσ (by simp),fun k b ob e1 e2 e3=>(hs'.2 b fun x=>by
   have:m = k:=(List.getElem?_inj (List.getElem?_eq_some_iff.mp hd).1 I.nd).mp (hd.trans (x ▸ e2.symm))
   subst this; rw [hσ] at e1; cases e1).trans e3⟩
 have r1:=r.step (st':=⟨st.ρ,st.σ.set m (.idict es)⟩) I S
 have r2:=rv.step (st':=⟨st.ρ,st.σ.set m (.idict es)⟩) I S
 dsimp only at r1 r2
 rw [tE] at r1 r2
 have hst:(stored kvs k w).length ≤ sizeLine:=by
  unfold stored; split
  ·rw [List.length_map,hlen]; exact Nat.le_of_lt hz
  ·rw [List.length_append,hlen]; exact hz
 refine El.x0_2 (I.upd hσ hd rfl rfl (.of hs') (.live ho' (.idict (Z6b hD') hst (Z6c hkk k w v)) (Z7J r2 hkk r1)) (by simp) trivial) fun I' S'=>?_
 exact ⟨μ,I',S',⟨rfl,rfl,rfl⟩⟩
end
theorem Zaj {c:Cx} {st stF:St} {μ:List Addr} {s:Shared} {u iv w:Value} {x y v:V} {fl:Fl} (ok:CxOk c) (I:Inv c st μ s.heap) (rx:RepV (Tr st.σ μ) μ s.heap u x) (ry:RepV (Tr st.σ μ) μ s.heap iv y) (rv:RepV (Tr st.σ μ) μ s.heap w v) (h:setI x y v st = .ok fl stF) :
  fl = .next∧wpAny (model c.prog c.w) c.A (setItem u iv w) (fun _ s'=>∃ μ',Inv c stF μ' s'.heap∧Stp c st.σ μ s.heap stF.σ μ' s'.heap∧Same s s') (fun _ _=>False) s:=by
 refine Z06 h fun m em h=>?_
 have rx:=Z46 em ▸ rx
 refine Z84 h (fun h=>Z06 h fun k ek h=>Z06 h fun p hp h=>Z7B h fun hz h=>?_) fun h=>Z06 h fun k ek h=>?_
 ·have hz:=Bool.and_eq_true_iff.mp hz
  rw [ok1 h,ok2 h]
  exact ⟨rfl,Z8P (fun d a xs Q e1 e2 h1 h2 h3 h4=>by rw [e1,e2]; exact wpAny_setItem_heap (have:=ok.units; by show c.A.units + 1 < cLine; lia) h1 h2 h3 h4) ok I rx (Z4s ek ▸ ry) rv (Z5b hp) (of_decide_eq_true hz.1) (Option.isNone_iff_eq_none.mp hz.2)⟩
 refine El.x1_1 (RepV.int_inv (Z0r ek ▸ ry)) fun tk e=>Z84 h (fun h=>Z06 h fun es e1 h=>Z7B h fun hz h=>?_) fun h=>Z06 h fun xs e1 h=>Z7B h fun hz h=>?_
 ·rw [ok1 h,ok2 h]
  exact ⟨rfl,e ▸ Z77 (fun d kvs Q e1 h1 h2 h3=>by rw [e1]; exact wpAny_setItem_pairs (knd:=intKind c.prog c.w) (k:=k) (by simp [intKind,Value.isInt]) h1 h2 h3) I rx rv (Z30 e1) hz⟩
 ·refine El.x1_1 (Int.eq_ofNat_of_zero_le hz.1) fun j ej=>?_
  rw [ok1 h,ok2 h,e]
  subst ej
  exact ⟨rfl,Zai I rx rv (Z2m e1) (Int.ofNat_lt.mp hz.2)⟩
theorem Z78 {a i e:Ex} (ha:EOk W a) (hi:EOk W i) (he:EOk W e):SOk W K (.asgI a i e):=fun g p c st μ s hk hg I=>Sim.ok fun fl stF hR=>by
 refine El.x2_2 (R.bind_inv hR) fun v' st₁ hE hR=>?_
 refine El.x2_2 (R.bind_inv hR) fun x st₂ hA hR=>?_
 refine El.x2_2 (R.bind_inv hR) fun y st₃ hI hR=>?_
 have b1:=he g _ c st μ s (and2 (and2 hk).1).2 hg I
 rw [hE] at b1
 refine wpAny_Assign_Subscript (wpAny_mono b1 (fun u s₁ q8=>El.x1_4 q8 fun μ₁ rv I₁ S₁ Q₁=>?_) fun _ _ e=>e) (Z1w (and2 (and2 hk).1).1)
 have b2:=ha g _ c st₁ μ₁ s₁ (and2 (and2 hk).2).1 hg I₁
 rw [hA] at b2
 refine wpAny_mono b2 (fun ov s₂ q8=>El.x1_4 q8 fun μ₂ rx I₂ S₂ Q₂=>?_) fun _ _ e=>e
 have b3:=hi g _ c st₂ μ₂ s₂ (and2 (and2 hk).2).2 hg I₂
 rw [hI] at b3
 refine wpAny_mono b3 (fun iv s₃ q8=>El.x1_4 q8 fun μ₃ ry I₃ S₃ Q₃=>?_) fun _ _ e=>e
 refine El.x0_2 (Zaj hg.ok I₃ (RepV.step I₂ S₃ rx) ry (RepV.step I₂ S₃ (RepV.step I₁ S₂ rv)) hR) fun e hw=>?_
 subst e
 exact wpAny_mono hw (fun _ s₄ q8=>El.x1_3 q8 fun μ₄ I₄ S₄ Q₄=>⟨μ₄,trivial,I₄,((S₁.trans S₂).trans S₃).trans S₄,((Q₁.trans Q₂).trans Q₃).trans Q₄⟩) fun _ _ e=>e
end
section
variable {W:Wo} {K:Nat}
theorem Z8Q {T:Addr→Prop} {μ:List Addr} {h:Heap} {d:Addr} (e:h.get? d = some { cls:=.type "dict",data:=.dict #[] }):RepO T μ h d (.kdict []) :=
 .live (vs:=[]) (xs:=[]) e (.kdict (xs:=[]) (ys:=[]) ⟨⟨rfl,rfl,rfl⟩,⟨#[],0,rfl,rfl⟩,.nil,Nat.zero_le _,rfl⟩) .nil
theorem Z3v:EOk W .dictK:=fun g p c st μ s hk hg I=>by
 rw [Z88]
 refine El.x0_2 (I.track (o:={ cls:=.type "dict",data:=.dict #[] }) (ob:=.kdict []) rfl rfl trivial (fun T hT=>Z8Q (Heap.get?_push_size _ rfl))) fun I₂ S₂=>?_
 exact wpAny_Dict_empty ⟨_,.ref (by rw [← I.len]; simp),I₂,S₂,.refl⟩
end
theorem Inv.swap {c:Cx} {st:St} {μ:List Addr} {h:Heap} (I:Inv c st μ h) {n:Nat} {o o':O} {a:Addr} (e:st.σ[n]? = some o) (ha:μ[n]? = some a) (h1:o.live = true) (h2:o'.live = true) (hk:Hk c.w o') (hr:RepO (Tr st.σ μ) μ h a o') :
  Inv c ⟨st.ρ,st.σ.set n o'⟩ μ h:=by
 have trE:Tr (st.σ.set n o') μ = Tr st.σ μ:=funext fun b=>propext (Z39 e h1 h2)
 refine ⟨fun i x q=>?_,I.slots,fun k ob q=>?_,by simpa using I.len,I.nd,I.lt,I.base,I.baseS,I.baseM,I.sep,Z6B I.kd hk⟩
 ·dsimp only; rw [trE]; exact I.vars i x q
 ·dsimp only at q ⊢
  rw [trE]
  have hlt:n < st.σ.length:=(List.getElem?_eq_some_iff.mp e).1
  by_cases hk:n = k
  ·try clear x; try clear i; try clear trE
   subst hk
   have:o' = ob:=by simpa [hlt] using q
   try clear hlt
   subst this
   exact ⟨a,ha,hr⟩
  ·rw [List.getElem?_set_ne hk] at q
   exact I.objs k ob q
theorem Stp.revive {c:Cx} {σ₀ σ:List O} {μ₀ μ:List Addr} {h₀ h:Heap} (S:Stp c σ₀ μ₀ h₀ σ μ h) {n:Nat} {o:O} (hl:σ₀.length ≤ n) (hn:σ[n]? = some O.priv) (ho:o.live = true):Stp c σ₀ μ₀ h₀ (σ.set n o) μ h :=
 ⟨S.size,S.keep,S.pre,fun b q=>S.tr b ((Z39 hn rfl ho).mp q),S.new,fun k e=>by
  have:n ≠ k:=fun e'=>Nat.lt_irrefl _ (Nat.lt_of_lt_of_le (List.getElem?_eq_some_iff.mp e).1 (e' ▸ hl))
  rw [List.getElem?_set_ne this]; exact S.pv k e,S.pk⟩
section
variable {c:Cx} {st:St} {μ:List Addr} {s:Shared} {kv vv:Value} {x y:V} {n:Nat} {d:Addr}
theorem Zd8 (ok:CxOk c) (I:Inv c st μ s.heap) (hn:st.σ[n]? = some O.priv) (hd:μ[n]? = some d) (ho:s.heap.get? d = some { cls:=.type "dict",data:=.dict #[] }) (rk:RepV (Tr st.σ μ) μ s.heap kv x) (rv:RepV (Tr st.σ μ) μ s.heap vv y) {r:V} {st':St} (h:Z2Z n x y st = .ok r st') :
  r = .ref n∧∃ o:O,o.live = true∧wpAny (model c.prog c.w) c.A (dictSet d kv vv) (fun _ s'=>∃ μ',Inv c st' μ' s'.heap∧Stp c (st.σ.set n o) μ s.heap st'.σ μ' s'.heap∧Same s s') (fun _ _=>False) s:=by
 have lt:n < st.σ.length:=(List.getElem?_eq_some_iff.mp hn).1
 have tE:∀ o:O,o.live = true→Tr (st.σ.set n o) μ = Tr st.σ μ:=fun o hl=>funext fun b=>propext (Z39 hn rfl hl)
 refine Z84 h (fun h=>Z06 h fun k ek h=>?_) fun h=>Z06 h fun k ek h=>?_
 ·rw [ok1 h,ok2 h]
  refine ⟨rfl,.idict [],rfl,?_⟩
  obtain ⟨t,rfl⟩:=RepV.int_inv (Z0r ek ▸ rk)
  have I0:Inv c ⟨st.ρ,st.σ.set n (.idict [])⟩ μ s.heap:=I.swap hn hd rfl rfl trivial (.live ho (.idict (kvs:=[]) (fun p w=>⟨#[],0,⟨rfl,rfl,rfl⟩,rfl,fun _ he=>by simp at he,.nil,List.nodup_nil⟩) (Nat.zero_le _) rfl) .nil)
  have:=Z77 (k:=k) (es:=[]) (u:=.ref d) (w:=vv) (v:=y) (m:=n) (t:=dictSet d (.int k t) vv) (fun d' kvs Q e1 h1 h2 h3=>by cases e1; exact wpAny_dictSet_pairs (knd:=intKind c.prog c.w) (k:=k) (by simp [intKind,Value.isInt]) h1 h2 h3) I0 (.ref hd) (by dsimp only; rw [tE _ rfl]; exact rv) (List.getElem?_set_self lt) (by decide)
  have e2:(st.σ.set n (.idict [])).set n (.idict (Z10 [] k y)) = st.σ.set n (.idict [(k,y)]):=List.set_set ..
  dsimp only at this
  rw [e2] at this
  exact this
 ·rw [ok1 h,ok2 h]
  refine ⟨rfl,.kdict [],rfl,?_⟩
  have rk:=Z4s ek ▸ rk
  have I0:Inv c ⟨st.ρ,st.σ.set n (.kdict [])⟩ μ s.heap:=I.swap hn hd rfl rfl trivial (Z8Q ho)
  have:=Z8P (k:=k) (es:=[]) (u:=.ref d) (ku:=kv) (w:=vv) (v:=y) (m:=n) (t:=dictSet d kv vv) (fun d' a xs Q e1 e2 h1 h2 h3 h4=>by cases e1; rw [e2]; exact wpAny_dictSet_heap (have:=ok.units; by show c.A.units < cLine; lia) h1 h2 h3 h4) ok I0 (.ref hd) (by dsimp only; rw [tE _ rfl]; exact rk) (by dsimp only; rw [tE _ rfl]; exact rv) (List.getElem?_set_self lt) (by decide) rfl
  have e2:(st.σ.set n (.kdict [])).set n (.kdict ([]++[(k,y)])) = st.σ.set n (.kdict [(k,y)]):=List.set_set ..
  dsimp only at this
  rw [e2] at this
  exact this
end
section
variable {W:Wo}
theorem Z3w {a b:Ex} (ha:EOk W a) (hb:EOk W b):EOk W (.dict1 a b):=fun g p c st μ s hk hg I=>Sim.ok fun r stF h=>by
 rw [Z8a] at h
 obtain ⟨x,st₁,hA,h⟩:=R.bind_inv h
 obtain ⟨y,st₂,hB,h⟩:=R.bind_inv h
 obtain ⟨I0,S0⟩:=I.trackP (TO:=s.heap.objs.size) (Ext.push { cls:=.type "dict",data:=.dict #[] }) (Nat.le_refl _) (by rw [Heap.size_push]; exact Nat.lt_succ_self _)
 have p0:(st.σ++[O.priv])[st.σ.length]? = some O.priv:=List.getElem?_concat_length
 have m0:(μ++[s.heap.objs.size])[st.σ.length]? = some s.heap.objs.size:=by rw [← I.len]; exact List.getElem?_concat_length
 have a1:=ha g _ c ⟨st.ρ,st.σ++[.priv]⟩ (μ++[s.heap.objs.size]) { s with heap:=s.heap.push { cls:=.type "dict",data:=.dict #[] } } (and2 hk).1 hg I0
 rw [hA] at a1
 refine wpAny_Dict_any rfl rfl (List.cons_ne_nil _ _) (by show 1 ≤ 15; decide) ?_
 show wpAny _ _ (do
  let kv ← eval (pE a (kid p 0)) c.env
  let vv ← holding [kv] (do let x ← eval (pE b (kid p 1)) c.env; standAt p.pos; pure x)
  return (kv,vv) :: (← holding [kv,vv] (evalPairs []))) _ _ _
 refine wpAny_bind (wpAny_mono a1 (fun kv s₁ q8=>El.x1_4 q8 fun μ₁ rk I₁ S₁ Q₁=>?_) fun _ _ e=>e.elim)
 have b1:=hb g _ c st₁ μ₁ s₁ (and2 hk).2 hg I₁
 rw [hB] at b1
 refine wpAny_bind (wpAny_holding (wpAny_bind (wpAny_mono b1 (fun vv s₂ q8=>El.x1_4 q8 fun μ₂ rv I₂ S₂ Q₂=>wpAny_bind (wpAny_standAt (wpAny_pure ?_))) fun _ _ e=>e.elim)))
 refine wpAny_bind (wpAny_holding (wpAny_pure (wpAny_pure ?_)))
 have p2:=S₂.pv _ (S₁.pv _ p0)
 have m2:=S₂.pre _ _ (S₁.pre _ _ m0)
 have o2:=S₂.pk _ _ _ (S₁.pv _ p0) (S₁.pre _ _ m0) (S₁.pk _ _ _ p0 m0 (Heap.get?_push_size _ rfl))
 obtain ⟨er,o,hl,hs⟩:=Zd8 hg.ok I₂ p2 m2 o2 (RepV.step I₁ S₂ rk) rv h
 have S:Stp c st.σ μ s.heap (st₂.σ.set st.σ.length o) μ₂ s₂.heap:=(S0.trans (S₁.trans S₂)).revive (Nat.le_refl _) p2 hl
 show wpAny _ _ (forIn [(kv,vv)] PUnit.unit fun (x:Value × Value) (_:PUnit)=>(do dictSet s.heap.objs.size x.1 x.2; pure (ForInStep.yield PUnit.unit):Sem (ForInStep PUnit))) _ _ _
 rw [List.forIn_cons]
 refine wpAny_bind (wpAny_bind (wpAny_mono hs (fun _ s₃ q8=>El.x1_3 q8 fun μ₃ I₃ S₃ Q₃=>wpAny_pure ?_) fun _ _ e=>e.elim))
 rw [er]
 exact wpAny_pure ⟨μ₃,.ref (S₃.pre _ _ m2),I₃,S.trans S₃,(Q₁.trans Q₂).trans Q₃⟩
end
section
variable {W:Wo} {K:Nat}
theorem Z3x {a:Ex}:ItOk W (.enum a):=fun g p c st μ s hk=>absurd hk Bool.false_ne_true
theorem Z4U {a b:Ex}:ItOk W (.zip a b):=fun g p c st μ s hk=>absurd hk Bool.false_ne_true
theorem allX:(∀ e:Ex,IOk W e)∧(∀ es:Exs,EsOk W es∧TsOk W es)∧∀ i:It,ItOk W i :=
 ⟨fun e=>Ex.rec (motive_1:=fun e=>IOk W e) (motive_2:=fun es=>EsOk W es∧TsOk W es) (motive_3:=fun o=>OOk W o) (motive_4:=fun i=>ItOk W i)
  (TOk.plain Z4E (fun _=>Z00 rfl)) (fun _=>TOk.plain Z4F (fun _=>Z00 rfl)) (fun _=>TOk.plain Z5W (fun _=>Z00 rfl)) (fun _=>TOk.plain Z5X (fun _=>Z00 rfl)) (fun _=>TOk.plain Z5Z (fun _=>Z00 rfl)) (fun _=>TOk.plain Z8z (fun _=>Z00 rfl)) (fun _ _ _ a b=>TOk.plain (Z60 a.1 b.1) (fun _=>Z00 rfl)) (fun _ _ _ a b=>Z4H a.1 b.1) (fun _ _ a b=>Z4I a b) (fun _ _ a b=>Z62 a b) (fun _ a=>Z63 a) (fun _=>TOk.plain Z64 (fun _ _ _=>rfl)) (fun _ _ _ c a b=>Z65 c a b) (fun _ h=>TOk.plain (Z66 h.1) (fun _=>Z00 rfl)) (fun _ h=>TOk.plain (Z4K h.1) (fun _=>Z00 rfl)) (fun _ h=>TOk.plain (Z3b h.1) (fun _=>Z00 rfl)) (fun _ _ a b=>TOk.plain (Z67 a.1 b.1) (fun _=>Z00 rfl)) (fun _ _ _ a lo hi=>TOk.plain (Z3e a.1 lo hi) (fun _=>Z00 rfl)) (fun _ _ a=>TOk.plain (Z4N a.1) (fun _=>Z00 rfl)) (fun _ _ a=>TOk.plain (Z8C a.1) (fun _=>Z00 rfl)) (fun _ _ _ a b=>TOk.plain (Z8D a.1 b.1) (fun _=>Z00 rfl)) (fun _ _ h=>TOk.plain (Z4P h.1) (fun _=>Z00 rfl)) (TOk.plain Z3u (fun _=>Z00 rfl)) (fun _ _ _ _ e i t=>TOk.plain (Z4R e.1 t.2 i) (fun _=>Z00 rfl)) (TOk.plain Z3v (fun _=>Z00 rfl)) (fun _ _ _ _ _ a b d=>Z3f a.1 b.1 d.1) (fun _ _ a b=>TOk.plain (Z3w a.1 b.1) (fun _=>Z00 rfl)) (fun _ _ a=>TOk.plain (Z3g a.1) (fun _=>Z00 rfl)) (fun _=>TOk.plain Z69 (fun _=>Z00 rfl)) (⟨Z4J,Z4Q⟩) (fun _ _ e es=>⟨Z2P e.1 es.1,Z3q e.2 es.2⟩) (Z3c) (fun _ e=>Z3d e.1) (fun _ e=>Z8K e.1) (fun _ a=>Z3j a.1) (fun _ _=>Z3x) (fun _ _ a b=>Z3k a.1 b.1) (fun _ _ _ _=>Z4U) e,fun e=>Exs.rec (motive_1:=fun e=>IOk W e) (motive_2:=fun es=>EsOk W es∧TsOk W es) (motive_3:=fun o=>OOk W o) (motive_4:=fun i=>ItOk W i)
  (TOk.plain Z4E (fun _=>Z00 rfl)) (fun _=>TOk.plain Z4F (fun _=>Z00 rfl)) (fun _=>TOk.plain Z5W (fun _=>Z00 rfl)) (fun _=>TOk.plain Z5X (fun _=>Z00 rfl)) (fun _=>TOk.plain Z5Z (fun _=>Z00 rfl)) (fun _=>TOk.plain Z8z (fun _=>Z00 rfl)) (fun _ _ _ a b=>TOk.plain (Z60 a.1 b.1) (fun _=>Z00 rfl)) (fun _ _ _ a b=>Z4H a.1 b.1) (fun _ _ a b=>Z4I a b) (fun _ _ a b=>Z62 a b) (fun _ a=>Z63 a) (fun _=>TOk.plain Z64 (fun _ _ _=>rfl)) (fun _ _ _ c a b=>Z65 c a b) (fun _ h=>TOk.plain (Z66 h.1) (fun _=>Z00 rfl)) (fun _ h=>TOk.plain (Z4K h.1) (fun _=>Z00 rfl)) (fun _ h=>TOk.plain (Z3b h.1) (fun _=>Z00 rfl)) (fun _ _ a b=>TOk.plain (Z67 a.1 b.1) (fun _=>Z00 rfl)) (fun _ _ _ a lo hi=>TOk.plain (Z3e a.1 lo hi) (fun _=>Z00 rfl)) (fun _ _ a=>TOk.plain (Z4N a.1) (fun _=>Z00 rfl)) (fun _ _ a=>TOk.plain (Z8C a.1) (fun _=>Z00 rfl)) (fun _ _ _ a b=>TOk.plain (Z8D a.1 b.1) (fun _=>Z00 rfl)) (fun _ _ h=>TOk.plain (Z4P h.1) (fun _=>Z00 rfl)) (TOk.plain Z3u (fun _=>Z00 rfl)) (fun _ _ _ _ e i t=>TOk.plain (Z4R e.1 t.2 i) (fun _=>Z00 rfl)) (TOk.plain Z3v (fun _=>Z00 rfl)) (fun _ _ _ _ _ a b d=>Z3f a.1 b.1 d.1) (fun _ _ a b=>TOk.plain (Z3w a.1 b.1) (fun _=>Z00 rfl)) (fun _ _ a=>TOk.plain (Z3g a.1) (fun _=>Z00 rfl)) (fun _=>TOk.plain Z69 (fun _=>Z00 rfl)) (⟨Z4J,Z4Q⟩) (fun _ _ e es=>⟨Z2P e.1 es.1,Z3q e.2 es.2⟩) (Z3c) (fun _ e=>Z3d e.1) (fun _ e=>Z8K e.1) (fun _ a=>Z3j a.1) (fun _ _=>Z3x) (fun _ _ a b=>Z3k a.1 b.1) (fun _ _ _ _=>Z4U) e,fun e=>It.rec (motive_1:=fun e=>IOk W e) (motive_2:=fun es=>EsOk W es∧TsOk W es) (motive_3:=fun o=>OOk W o) (motive_4:=fun i=>ItOk W i)
  (TOk.plain Z4E (fun _=>Z00 rfl)) (fun _=>TOk.plain Z4F (fun _=>Z00 rfl)) (fun _=>TOk.plain Z5W (fun _=>Z00 rfl)) (fun _=>TOk.plain Z5X (fun _=>Z00 rfl)) (fun _=>TOk.plain Z5Z (fun _=>Z00 rfl)) (fun _=>TOk.plain Z8z (fun _=>Z00 rfl)) (fun _ _ _ a b=>TOk.plain (Z60 a.1 b.1) (fun _=>Z00 rfl)) (fun _ _ _ a b=>Z4H a.1 b.1) (fun _ _ a b=>Z4I a b) (fun _ _ a b=>Z62 a b) (fun _ a=>Z63 a) (fun _=>TOk.plain Z64 (fun _ _ _=>rfl)) (fun _ _ _ c a b=>Z65 c a b) (fun _ h=>TOk.plain (Z66 h.1) (fun _=>Z00 rfl)) (fun _ h=>TOk.plain (Z4K h.1) (fun _=>Z00 rfl)) (fun _ h=>TOk.plain (Z3b h.1) (fun _=>Z00 rfl)) (fun _ _ a b=>TOk.plain (Z67 a.1 b.1) (fun _=>Z00 rfl)) (fun _ _ _ a lo hi=>TOk.plain (Z3e a.1 lo hi) (fun _=>Z00 rfl)) (fun _ _ a=>TOk.plain (Z4N a.1) (fun _=>Z00 rfl)) (fun _ _ a=>TOk.plain (Z8C a.1) (fun _=>Z00 rfl)) (fun _ _ _ a b=>TOk.plain (Z8D a.1 b.1) (fun _=>Z00 rfl)) (fun _ _ h=>TOk.plain (Z4P h.1) (fun _=>Z00 rfl)) (TOk.plain Z3u (fun _=>Z00 rfl)) (fun _ _ _ _ e i t=>TOk.plain (Z4R e.1 t.2 i) (fun _=>Z00 rfl)) (TOk.plain Z3v (fun _=>Z00 rfl)) (fun _ _ _ _ _ a b d=>Z3f a.1 b.1 d.1) (fun _ _ a b=>TOk.plain (Z3w a.1 b.1) (fun _=>Z00 rfl)) (fun _ _ a=>TOk.plain (Z3g a.1) (fun _=>Z00 rfl)) (fun _=>TOk.plain Z69 (fun _=>Z00 rfl)) (⟨Z4J,Z4Q⟩) (fun _ _ e es=>⟨Z2P e.1 es.1,Z3q e.2 es.2⟩) (Z3c) (fun _ e=>Z3d e.1) (fun _ e=>Z8K e.1) (fun _ a=>Z3j a.1) (fun _ _=>Z3x) (fun _ _ a b=>Z3k a.1 b.1) (fun _ _ _ _=>Z4U) e⟩
theorem allE (e:Ex):IOk W e:=allX.1 e
theorem allI (i:It):ItOk W i:=allX.2.2 i
theorem allZ (it:It):ZOk W it :=
 It.casesOn (motive_4:=fun it=>ZOk W it) it (fun e g p c st μ s hk=>absurd hk Bool.false_ne_true) (fun e g p c st μ s hk=>absurd hk Bool.false_ne_true) (fun a=>Zah (allE a).1) (fun a b g p c st μ s hk=>absurd hk Bool.false_ne_true) fun a b=>Zc9 (allE a).1 (allE b).1
theorem Z8R {i:Nat} (e:Ex):SOk W K (.asg i e):=by
 by_cases hC:isC e = true
 ·refine Ex.comp.elim (motive_1:=fun e=>SOk W K (.asg i e)) e (eq_of_beq hC) fun elt k it ifs=>?_
  intro g p c st μ s hk hg I
  obtain ⟨b,hb⟩:∃ b:Bool,swapsWith (pE (.comp elt k it ifs) (skid p 0)) (some (.Name (nmOf (skid p 1)) (skid p 1).pos)) p.pos.line c.env = pure b:=⟨_,rfl⟩
  cases b with
  | false=>exact Z6Z (allE _).1 g p c st μ s hk hb hg I
  | true=>exact Zac (allE _).1 (allX.2.1 _).2 (allI _) g p c st μ s hk hb hg I
 ·exact fun g p c st μ s hk hg I=>Z6Z (allE e).1 g p c st μ s hk (Z1w (by rw [Bool.not_eq_true] at hC; rw [hC]; rfl)) hg I
theorem Z7K (s:Sms):SsOk W K s :=
 Sms.rec (motive_1:=fun s=>SOk W K s) (motive_2:=fun s=>SsOk W K s) (fun _ e=>Z8R e) (fun _ e=>Z73 (allE e).1) (fun e=>Z6Y (allE e).1) (fun e=>Z8G (allE e).1) (fun c _ _ t f=>Z6X (allE c) t f) (fun _ it _ b=>Z71 (allI it) b) (fun _ it _ b=>Z76 (allZ it) b) (fun c _ b=>Z5r (allE c) b) Z8F (fun _ _ _ _ _ _ _ _ _=>trivial)
  (fun a i e=>Z78 (allE a).1 (allE i).1 (allE e).1) Za9 (fun _ _ s ss=>Z8E s ss) s
end
structure Wd (prog:Program) (w:World) (base:Heap) (mg mb:Str→Option Value):Prop where
 gd:Gd base mg mb
 seer:base.NoSeer
 nolimit:base.NoLimit
 tree:prog.given.tree = none
theorem Z2r {y:Str} {v:Value}:∀ {ns:List Str} {vs:List Value},ns.Nodup→(y,v) ∈ ns.zip vs→(ns.zip vs).lookup y = some v
 | [],_,_,h=>by simp at h
 | _ :: _,[],_,h=>by simp at h
 | n :: ns,u :: vs,hn,h=>by
  rw [List.zip_cons_cons] at h ⊢
  rw [List.nodup_cons] at hn
  rw [List.lookup_cons]
  rcases List.mem_cons.mp h with h | h
  ·cases h; simp
  ·have hy:y ≠ n:=fun e=>hn.1 (e ▸ (List.of_mem_zip h).1)
   have hb:(y == n) = false:=by simp [hy]
   simp only [hb]
   exact Z2r hn.2 h
theorem Z8S:∀ {ns:List Str} {vs:List Value},vs.length = ns.length→∀ y ∈ ns,∃ v,(y,v) ∈ ns.zip vs
 | [],_,_,y,h=>by simp at h
 | n :: ns,[],e,y,h=>by simp at e
 | n :: ns,u :: vs,e,y,h=>by
  rcases List.mem_cons.mp h with rfl | h
  ·exact ⟨u,by simp⟩
  ·refine El.x1_1 (Z8S (by simpa using e) y h) fun v hv=>?_
   exact ⟨v,by rw [List.zip_cons_cons]; exact List.mem_cons_of_mem _ hv⟩
theorem Z25 {l:List (Str × Value)}:∀ {ns:List Str} {vs:List Value},vs.length = ns.length→(∀ p ∈ ns.zip vs,l.lookup p.1 = some p.2)→(ns.filterMap fun n=>(l.lookup n).map (n,·)) = ns.zip vs
 | [],_,_,_=>by simp
 | n :: ns,[],e,_=>by simp at e
 | n :: ns,u :: vs,e,h=>by
  have h0:=h (n,u) (by simp)
  dsimp only at h0
  rw [List.filterMap_cons,h0,List.zip_cons_cons]
  dsimp only [Option.map_some]
  rw [Z25 (by simpa using e) fun p hp=>h p (by rw [List.zip_cons_cons]; exact List.mem_cons_of_mem _ hp)]
theorem Z4h {fd:FuncData} {vals:List Value} {names:List Str} (h1:fd.params.posonlyargs = []) (h2:fd.params.kwonlyargs = []) (h3:fd.params.vararg = none) (h4:fd.params.kwarg = none) (h5:fd.params.args.map (·.arg) = names)
  (h6:fd.defaults = .none) (nd:names.Nodup) (hl:vals.length = names.length):bindArgs fd ⟨vals,[]⟩ = pure (names.zip vals):=by
 have hz:∀ p ∈ names.zip vals,(names.zip vals).lookup p.1 = some p.2:=fun p hp=>Z2r nd hp
 have hmiss:(names.filter fun n=>((names.zip vals).lookup n).isNone) = []:=by
  rw [List.filter_eq_nil_iff]
  intro n hn
  refine El.x1_1 (Z8S hl n hn) fun v hv=>?_
  rw [Z2r nd hv]; simp
 have hf:=Z25 hl hz
 have hs:seqItems? Value.none = pure none:=rfl
 have hgt:¬ (vals.length > names.length):=hl ▸ Nat.lt_irrefl _
 simp only [bindArgs,h1,h2,h3,h4,h5,h6,hs,List.map_nil,List.nil_append,List.forIn_nil,List.append_nil,pure_bind,Option.getD_none,List.drop_nil,List.length_nil,Nat.sub_zero,List.zip_nil_right,List.take_length,hmiss,hf,List.isEmpty_nil,Bool.not_true,decide_eq_false hgt,Bool.false_and,Bool.false_eq_true,↓reduceIte]
noncomputable def hdOk (name:Str) (params locals:List Str) (r:DefRec):Bool :=
 (name == r.name) && r.params.posonlyargs.isEmpty && r.params.kwonlyargs.isEmpty && r.params.vararg.isNone && r.params.kwarg.isNone && (r.params.args.map (·.arg) == params) &&
 (r.scope.kind == .function) && !r.scope.isCoroutine && !r.scope.isGenerator && (locals.take params.length == params) && decide locals.Nodup &&
 (locals.all fun x=>r.scope.names.lookup x == some .local || r.scope.names.lookup x == some .cell)
structure MHd (name:Str) (params locals:List Str) (r:DefRec):Prop where
 name:name = r.name
 p1:r.params.posonlyargs = []
 p2:r.params.kwonlyargs = []
 p3:r.params.vararg = none
 p4:r.params.kwarg = none
 args:r.params.args.map (·.arg) = params
 kind:r.scope.kind = .function
 co:r.scope.isCoroutine = false
 gen:r.scope.isGenerator = false
 pre:locals.take params.length = params
 nd:locals.Nodup
 kinds:∀ x ∈ locals,r.scope.names.lookup x = some .local ∨ r.scope.names.lookup x = some .cell
theorem Z8T {name:Str} {params locals:List Str} {r:DefRec} (h:hdOk name params locals r = true):MHd name params locals r:=by
 unfold hdOk at h
 simp only [Bool.and_eq_true] at h
 obtain ⟨⟨⟨⟨⟨⟨⟨⟨⟨⟨⟨a1,a2⟩,a3⟩,a4⟩,a5⟩,a6⟩,a7⟩,a8⟩,a9⟩,a10⟩,a11⟩,a12⟩:=h
 refine ⟨eq_of_beq a1,List.isEmpty_iff.mp a2,List.isEmpty_iff.mp a3,Option.isNone_iff_eq_none.mp a4,Option.isNone_iff_eq_none.mp a5,eq_of_beq a6,eq_of_beq a7,by simpa using a8,by simpa using a9,eq_of_beq a10,by simpa using a11,fun x hx=>?_⟩
 have:=List.all_eq_true.mp a12 x hx
 rcases Bool.or_eq_true_iff.mp this with q | q
 ·exact .inl (by simpa using q)
 ·exact .inr (by simpa using q)
noncomputable def gmOf (locals:List Str) (sc:Scope):Gm:=⟨sc,locals.zipIdx,List.range locals.length,[],[]⟩
noncomputable def mDef (d:Def) (r:DefRec):Bool:=hdOk d.name d.params d.locals r && okSs (gmOf d.locals r.scope) d.body r.body
noncomputable def FnAt (base:Heap) (mg:Str→Option Value) (name:Str) (r:DefRec) (a:Addr) (code:Value):Prop :=
 ∃ (o:Obj) (nm qual:Str) (pm doc:Value),mg name = some (.ref a)∧base.get? a = some o∧o.data = .func (methDef nm qual r.params r.body r.scope pm code doc)∧base.CodeRec code qual
noncomputable def DefsOk (defs:List Def) (base:Heap) (mg:Str→Option Value):Prop :=
 ∀ d ∈ defs,∃ r a code,(mDef d r = true∧pSs d.body r.body = r.body)∧FnAt base mg d.name r a code
theorem Z4i {kindOf:Str→Option NameKind} {y:Str}:∀ {b:List (Str × Value)} {m:Str→Option Value},(∀ p ∈ b,p.1 ≠ y)→bindL kindOf b m y = m y
 | [],_,_=>rfl
 | (n,v) :: r,m,h=>by
  unfold bindL
  rw [Z4i fun p hp=>h p (by simp [hp])]
  split
  ·have:y ≠ n:=fun e=>h (n,v) (by simp) e.symm
   simp [this]
  ·rfl
theorem Z5y {kindOf:Str→Option NameKind} {y:Str} {v:Value}:∀ {ns:List Str} {vs:List Value} {m:Str→Option Value},ns.Nodup→(y,v) ∈ ns.zip vs→kindOf y = some .local→bindL kindOf (ns.zip vs) m y = some v
 | [],_,_,_,h,_=>by simp at h
 | _ :: _,[],_,_,h,_=>by simp at h
 | n :: ns,u :: vs,m,hn,h,hk=>by
  rw [List.zip_cons_cons] at h ⊢
  rw [List.nodup_cons] at hn
  unfold bindL
  rcases List.mem_cons.mp h with h | h
  ·cases h
   rw [Z4i fun p hp e=>hn.1 (by have q:=(List.of_mem_zip (show (p.1,p.2) ∈ ns.zip vs from hp)).1; rw [e] at q; exact q),if_pos hk]
   simp
  ·exact Z5y hn.2 h hk
theorem Z4j {kindOf:Str→Option NameKind} {y:Str}:∀ {b:List (Str × Value)} {m:Str→Option Value},(∀ p ∈ b,p.1 ≠ y)→bindC kindOf b m y = m y
 | [],_,_=>rfl
 | (n,v) :: r,m,h=>by
  unfold bindC
  rw [Z4j fun p hp=>h p (by simp [hp])]
  split
  ·rfl
  ·have:y ≠ n:=fun e=>h (n,v) (by simp) e.symm
   simp [this]
theorem Z5z {kindOf:Str→Option NameKind} {y:Str} {v:Value}:∀ {ns:List Str} {vs:List Value} {m:Str→Option Value},ns.Nodup→(y,v) ∈ ns.zip vs→kindOf y = some .cell→bindC kindOf (ns.zip vs) m y = some v
 | [],_,_,_,h,_=>by simp at h
 | _ :: _,[],_,_,h,_=>by simp at h
 | n :: ns,u :: vs,m,hn,h,hk=>by
  rw [List.zip_cons_cons] at h ⊢
  rw [List.nodup_cons] at hn
  unfold bindC
  rcases List.mem_cons.mp h with h | h
  ·cases h
   rw [Z4j fun p hp e=>hn.1 (by have q:=(List.of_mem_zip (show (p.1,p.2) ∈ ns.zip vs from hp)).1; rw [e] at q; exact q),if_neg (by rw [hk]; decide)]
   simp
  ·exact Z5z hn.2 h hk
theorem Z26 {y:Str} {i:Nat}:∀ {l:List Str} {k:Nat},(l.zipIdx k).lookup y = some i→k ≤ i∧l[i - k]? = some y
 | [],_,h=>by simp at h
 | n :: r,k,h=>by
  rw [List.zipIdx_cons,List.lookup_cons] at h
  by_cases hy:y = n
  ·subst hy
   simp at h
   subst h
   exact ⟨Nat.le_refl _,by simp⟩
  ·have hb:(y == n) = false:=by simp [hy]
   simp only [hb] at h
   refine El.x0_2 (Z26 h) fun h1 h2=>?_
   refine ⟨by lia,?_⟩
   have:i - k = (i - (k + 1)) + 1:=by lia
   rw [this,List.getElem?_cons_succ]
   exact h2
theorem Z79 {n k:Nat} {μ:List Addr} {a:Addr} (e:μ[k]? = some a) (h:decide (k < n) = true):(μ.take n)[k]? = some a:=by
 rw [List.getElem?_take,if_pos (of_decide_eq_true h)]; exact e
theorem Z7a {T T':Addr→Prop} {μ:List Addr} {n:Nat} {h:Heap} (hT:∀ b,T' b→T b) {v:Value} {x:V} (r:RepV T μ h v x):x.lo n = true→RepV T' (μ.take n) h v x :=
 RepV.rec (motive_1:=fun v x _=>x.lo n = true→RepV T' (μ.take n) h v x) (motive_2:=fun vs xs _=>V.los n xs = true→RepVs T' (μ.take n) h vs xs) (fun _=>.none) (fun b _=>.bool b) (fun i t _=>.int i t) (fun x t h1 h2 _=>.str x t h1 h2)
  (fun ho hc hd hz hq _ ih f=>.tup ho hc hd hz (fun q=>hq (hT _ q)) (ih ((Z0s _).symm.trans f))) (fun ho hc hd hz hq _ ih f=>.lst ho hc hd hz (fun q=>hq (hT _ q)) (ih ((Z16 _).symm.trans f)))
  (fun e f=>.ref (Z79 e ((Z5f _).symm.trans f))) (fun ho hq e f=>.inst ho (fun q=>hq (hT _ q)) (Z79 e ((Z48 _ _).symm.trans f))) (fun _ f=>absurd (show false = true from f) Bool.false_ne_true) (fun _=>.nil)
  (fun {v vs x xs} _ _ a b f=>by
   rw [Z01,Bool.and_eq_true] at f
   exact .cons (a f.1) (b f.2)) r
theorem Z6d {T T':Addr→Prop} {μ:List Addr} {n:Nat} {h:Heap} (hT:∀ b,T' b→T b) {v:List Value} {x:List V} (f:V.los n x = true) (r:RepVs T μ h v x):RepVs T' (μ.take n) h v x :=
 RepVs.ind (M:=fun vs xs=>V.los n xs = true→RepVs T' (μ.take n) h vs xs) (fun _=>.nil) (fun {v vs x xs} a _ b f=>by
   rw [Z01,Bool.and_eq_true] at f
   exact .cons (Z7a hT a f.1) (b f.2)) r f
noncomputable def flV (f:Flow):Value:=match f with | .ret v=>v | _=>.none
theorem Z8U {st:St} {μ:List Addr} {h:Heap} {f:Flow} {x:Fl} (r:rFl st μ h f x):RepV (Tr st.σ μ) μ h (flV f) x.val:=by
 cases f <;> cases x <;> first | exact .none | exact r | exact r.elim
theorem Inv.trunc {c:Cx} {σ₀ σ:List O} {μ₀ μ:List Addr} {h₀ h:Heap} (I:Inv c.bare ⟨[],σ⟩ μ h) (S:Stp c.bare σ₀ μ₀ h₀ σ μ h) (hl:μ₀.length = σ₀.length) (hf:(σ.take σ₀.length).all (O.lo σ₀.length) = true) {v:Value} {r:V} (hr:r.lo σ₀.length = true) (rv:RepV (Tr σ μ) μ h v r) :
  Inv c.bare ⟨[],σ.take σ₀.length⟩ (μ.take σ₀.length) h∧Stp c.bare σ₀ μ₀ h₀ (σ.take σ₀.length) (μ.take σ₀.length) h∧RepV (Tr (σ.take σ₀.length) (μ.take σ₀.length)) (μ.take σ₀.length) h v r:=by
 have sub:∀ b,Tr (σ.take σ₀.length) (μ.take σ₀.length) b→Tr σ μ b:=by
  intro b q11z
  refine El.x2_3 q11z fun k o e1 e2 e3=>?_
  rw [List.getElem?_take] at e1 e3
  split at e1
  ·rename_i hk
   rw [if_pos hk] at e3
   exact ⟨k,o,e1,e2,e3⟩
  ·try clear e3; try clear e2; try clear k; try clear q11z
   cases e1
 refine ⟨⟨fun i x q=>by simp at q,fun i s q=>(by cases q),fun n o q=>?_,?_,I.nd.sublist (List.take_sublist _ _),fun a q=>I.lt a (List.mem_of_mem_take q),I.base,fun b q=>(Z07 q).elim,fun a q=>I.baseM a (List.mem_of_mem_take q),fun b q=>(Z07 q).elim,fun o q=>I.kd o (List.mem_of_mem_take q)⟩,
  ⟨S.size,S.keep,fun n a e=>?_,fun b q=>S.tr b (sub b q),fun a q=>S.new a (List.mem_of_mem_take q),fun n e=>?_,S.pk⟩,Z7a sub rv hr⟩
 ·dsimp only at q ⊢
  have hof:o.lo σ₀.length = true:=List.all_eq_true.mp hf o (List.mem_of_getElem? q)
  rw [List.getElem?_take] at q
  split at q
  ·rename_i hk
   refine El.x1_2 (I.objs n o q) fun a ha ro=>?_
   refine ⟨a,by rw [List.getElem?_take,if_pos hk]; exact ha,?_⟩
   try clear ha; try clear e1; try clear o; try clear b
   cases ro with
   | dead=>exact .dead
   | priv=>exact .priv
   | live ho L r=>exact .live ho L (Z6d sub (by cases L <;> exact hof) r)
  ·try clear ro; try clear hof; try clear sub
   cases q
 ·have:=I.len
  simp at this ⊢
  lia
 ·have hk:n < σ₀.length:=by rw [← hl]; exact (List.getElem?_eq_some_iff.mp e).1
  rw [List.getElem?_take,if_pos hk]
  exact S.pre n a e
 ·have hk:n < σ₀.length:=(List.getElem?_eq_some_iff.mp e).1
  rw [List.getElem?_take,if_pos hk]
  exact S.pv n e
section
variable {prog:Program} {w:World} {base:Heap} {mg mb:Str→Option Value} {K:Nat}
noncomputable def slOf (ls:List Str) (sc:Scope) (L:Addr) (cells:List (Str × Addr)) (i:Nat):Option Slot :=
 match ls[i]? with
 | some x=>if sc.names.lookup x = some .local then some (.d L x) else (cells.lookup x).map Slot.c
 | none=>none
theorem Zb6 {ls:List Str} {sc:Scope} {L:Addr} {cells:List (Str × Addr)} {i:Nat} {x:Str} (hi:ls[i]? = some x) (k:sc.names.lookup x = some .local):slOf ls sc L cells i = some (.d L x):=by
 unfold slOf
 rw [hi]; exact if_pos k
theorem Zb7 {ls:List Str} {sc:Scope} {L b:Addr} {cells:List (Str × Addr)} {i:Nat} {x:Str} (hi:ls[i]? = some x) (k:sc.names.lookup x = some .cell) (hb:cells.lookup x = some b):slOf ls sc L cells i = some (.c b):=by
 unfold slOf
 rw [hi]; dsimp only; rw [if_neg (by rw [k]; intro e; cases e),hb]; rfl
theorem Zak {ls:List Str} {sc:Scope} {L:Addr} {cells:List (Str × Addr)} {i:Nat} {sl:Slot} (hk:∀ x ∈ ls,sc.names.lookup x = some .local ∨ sc.names.lookup x = some .cell) (q:slOf ls sc L cells i = some sl) :
  ∃ x,ls[i]? = some x∧((sc.names.lookup x = some .local∧sl = .d L x) ∨ (sc.names.lookup x = some .cell∧∃ b,cells.lookup x = some b∧sl = .c b)):=by
 unfold slOf at q
 cases hx:ls[i]? with
 | none=>rw [hx] at q; cases q
 | some x=>
  rw [hx] at q
  refine ⟨x,rfl,(hk x (List.mem_of_getElem? hx)).imp (fun k=>⟨k,?_⟩) fun k=>⟨k,?_⟩⟩
  ·dsimp only at q; rw [if_pos k] at q; exact (Option.some.inj q).symm
  ·dsimp only at q; rw [if_neg (by rw [k]; intro e; cases e)] at q
   exact El.x1_2 (Option.map_eq_some_iff.mp q) fun b hb e=>⟨b,hb,e.symm⟩
theorem Z5A {F:Fn} (W:Wd prog w base mg mb) {n:Nat} (ih:FnOk n prog w base mg F) {name:Str} {params locals:List Str} {slots:Nat} {rc:DefRec} (M:MHd name params locals rc) {a:Addr} {code:Value} (hf:FnAt base mg name rc a code) {args:List V} {σ:List O} (hlen:args.length = params.length)
  {c:Cx} {μ:List Addr} {s:Shared} {vs:List Value} {Q E:Value→Shared→Prop} (e1:c.prog = prog) (e2:c.w = w) (e3:c.base = base) (hA:AOk (n + 1) c.A) (I:Inv c.bare ⟨[],σ⟩ μ s.heap) (rvs:RepVs (Tr σ μ) μ s.heap vs args)
  (hbody:∀ (c':Cx) (s₁:Shared),c'.prog = c.prog→c'.w = c.w→c'.base = c.base→c'.A = c.A.deeper c'.env→c'.env.frame = some c'.env.locals→c'.env.code = code→Good ⟨n,mg,mb,F⟩ c' (gmOf locals rc.scope)→Inv c' ⟨args.map some++List.replicate (slots - args.length) none,σ⟩ μ s₁.heap→Ext s.heap s₁.heap→(∀ b,Own c' b→s.heap.objs.size ≤ b)→(s.heap.objs.size ≤ c'.env.locals∧∃ m,s₁.heap.Ns c'.env.locals m)→Same s s₁ →
   wpAny (model c.prog c.w) c'.A (execs rc.body c'.env) (fun fl s'=>Q (flV fl) s') (fun e s'=>wpAny (model c.prog c.w) c'.A (leaving c'.env e) (fun _ s''=>E e s'') (fun e' s''=>E e' s'') s') s₁) :
  wpAny (model c.prog c.w) c.A (call (.ref a) vs) Q E s:=by
 obtain ⟨o,nm,qual,pm,doc,_,g2,g3,g4⟩:=hf
 have hvl:vs.length = params.length:=by rw [rvs.length]; exact hlen
 have hpn:params.Nodup:=by rw [← M.pre]; exact M.nd.sublist (List.take_sublist _ _)
 subst e1 e2 e3
 have hbk:∀ b o,c.base.get? b = some o→s.heap.get? b = some o:=I.base
 refine wpAny_call (codeAny_call_cells (fd:=methDef nm qual rc.params rc.body rc.scope pm code doc) (body:=rc.body) (binds:=params.zip vs) (by have:=hA.depth; lia) (hbk _ _ g2) g3 (W.nolimit.keeps hbk) (g4.keeps hbk) rfl
  (Z4h M.p1 M.p2 M.p3 M.p4 M.args rfl hpn hvl) rfl (fun x hx=>?_) (fun s₁ X=>?_) M.co M.gen M.kind)
 ·have hx':x.1 ∈ locals:=by
   have:=(List.of_mem_zip (show (x.1,x.2) ∈ _ from hx)).1
   rw [← M.pre] at this
   exact List.mem_of_mem_take this
  rcases M.kinds _ hx' with q | q
  ·exact .inl q
  ·exact .inr ⟨q,PySem.W.cellsFrom_some _ _ _ (.inl q)⟩
 ·generalize henv:callEnvC (methDef nm qual rc.params rc.body rc.scope pm code doc) s.heap.objs.size a = env' at X ⊢
  have hL:env'.locals = s.heap.objs.size:=by rw [← henv]; rfl
  have hsc:env'.scope = rc.scope:=by rw [← henv]; rfl
  have hcl:env'.cells = cellsFrom (s.heap.objs.size + 1) rc.scope.names []:=by rw [← henv]; rfl
  have hgl:env'.globals = mainGlobals:=by rw [← henv]; rfl
  have hbl:env'.builtins = builtinsNs:=by rw [← henv]; rfl
  have hko:∀ x,env'.kindOf x = rc.scope.names.lookup x:=fun x=>by unfold Env.kindOf; rw [hsc]
  have hns:=X.toInCall.ns
  have hLlt:s.heap.objs.size < s₁.heap.objs.size:=by obtain ⟨o,_,_,ho,_⟩:=hns; rw [← hL]; exact Heap.lt_size ho
  have XE:Ext s.heap s₁.heap:=⟨Nat.le_of_lt hLlt,X.toInCall.keep⟩
  let c':Cx:={ prog:=c.prog,w:=c.w,base:=c.base,A:=c.A.deeper env',env:=env',sl:=slOf locals rc.scope env'.locals env'.cells }
  have slv:∀ i sl,c'.sl i = some sl→∃ x,locals[i]? = some x∧((rc.scope.names.lookup x = some .local∧sl = .d env'.locals x) ∨ (rc.scope.names.lookup x = some .cell∧∃ b,env'.cells.lookup x = some b∧sl = .c b)):=fun i sl q=>Zak M.kinds q
  have ownGe:∀ b,Own c' b→s.heap.objs.size ≤ b:=by
   intro b q13z
   refine El.x2_2 q13z fun i sl q q14z=>?_
   try clear q13z
   obtain rfl:=q14z
   obtain ⟨x,_,⟨_,rfl⟩ | ⟨_,b,hb,rfl⟩⟩:=slv i sl q
   ·exact Nat.le_of_eq hL.symm
   ·have:=X.above x b (mem_of_lookup hb)
    rw [hL] at this
    exact Nat.le_of_lt this
  have cellOk:∀ x b,env'.cells.lookup x = some b→s₁.heap.IsCell b (bindC env'.kindOf (params.zip vs) (fun _=>none) x):=fun x b hb=>X.cell x b hb
  have I₁:Inv c' ⟨args.map some++List.replicate (slots - args.length) none,σ⟩ μ s₁.heap:=by
   refine ⟨fun i x q=>?_,fun i sl q=>?_,(I.ext XE).objs,I.len,I.nd,(I.ext XE).lt,(I.ext XE).base,fun b q=>?_,I.baseM,fun b q m=>?_,I.kd⟩
   ·dsimp only at q ⊢
    have hi:i < args.length:=by
     by_cases hi:i < args.length
     ·exact hi
     ·rw [List.getElem?_append_right (by simpa using Nat.le_of_not_lt hi)] at q
      rw [List.getElem?_replicate] at q
      split at q <;> simp at q
    rw [List.getElem?_append_left (by simpa using hi)] at q
    have hax:args[i]? = some x:=by simpa [hi] using q
    refine El.x1_2 (rvs.get hax) fun v hv rv=>?_
    have hip:i < params.length:=by rw [← hlen]; exact hi
    obtain ⟨p,hp⟩:∃ p,params[i]? = some p:=⟨params[i],by simp [hip]⟩
    have hlp:locals[i]? = some p:=by
     have:(locals.take params.length)[i]? = some p:=by rw [M.pre]; exact hp
     rw [List.getElem?_take,if_pos hip] at this
     exact this
    have hz:(p,v) ∈ params.zip vs:=List.mem_of_getElem? (i:=i) (by rw [List.getElem?_zip_eq_some]; exact ⟨hp,hv⟩)
    rcases M.kinds p (List.mem_of_getElem? hlp) with k | k
    ·refine ⟨.d env'.locals p,v,?_,⟨_,hns,Z5y hpn hz (by rw [hko]; exact k)⟩,rv.ext XE⟩
     exact Zb6 hlp k
    ·refine El.x1_1 (Option.isSome_iff_exists.mp (PySem.W.cellsFrom_some (x:=p) rc.scope.names (s.heap.objs.size + 1) [] (.inl k))) fun b hb=>?_
     rw [← hcl] at hb
     refine ⟨.c b,v,?_,?_,rv.ext XE⟩
     ·exact Zb7 hlp k hb
     ·have:=cellOk p b hb
      rw [Z5z hpn hz (by rw [hko]; exact k)] at this
      exact this
   ·obtain ⟨x,_,⟨_,rfl⟩ | ⟨_,b,hb,rfl⟩⟩:=slv i sl q
    ·exact ⟨_,hns⟩
    ·exact ⟨_,cellOk x b hb⟩
   ·show c.base.get? b = none
    cases hq:c.base.get? b with
    | none=>rfl
    | some ob=>exact absurd (Nat.lt_of_lt_of_le (Heap.lt_size (hbk b ob hq)) (ownGe b q)) (Nat.lt_irrefl _)
   ·exact Nat.lt_irrefl _ (Nat.lt_of_lt_of_le (I.lt b m) (ownGe b q))
  refine El.x1_1 hA.frames fun lf hlf=>?_
  have hfr:(c.A.deeper env').frames = some (env' :: lf):=Around.frames_deeper hlf
  have hdp:(c.A.deeper env').depth = c.A.depth + 1:=rfl
  have hun:(c.A.deeper env').units = c.A.units + 3:=rfl
  have hA':AOk n c'.A:=⟨hA.hh,by show c.A.depth + 1 + n + 110 ≤ _; have:=hA.depth; lia,by show c.A.units + 3 + 4 * n + 200 ≤ _; have:=hA.units; lia,_,hfr⟩
  have hG:Good ⟨n,mg,mb,F⟩ c' (gmOf locals rc.scope):=by
   refine ⟨⟨fun t ht=>?_,hA.hh,by show c.A.units + 3 + 100 < _; have:=hA.units; lia,let ⟨mm,⟨o,_,_,ho,_⟩,_⟩:=W.seer.mods; ⟨o,ho⟩⟩,W.gd,⟨hsc,M.kind,hgl,hbl,fun x i hx=>?_,fun i j sl q1 q2=>?_,fun i sl q=>?_,fun x hx=>?_⟩,hA',fun x i e=>(by cases e),ih,fun x k e=>(by cases e)⟩
   ·refine PylongRoom.of (W.nolimit.keeps ht) (by show c.A.depth + 1 + 100 < _; have:=hA.depth; lia) (SeerAt.of (W.seer.keeps ht) W.tree hfr ?_ ?_ hbl hgl)
    ·rw [hsc]; exact M.gen
    ·rw [hsc]; exact M.co
   ·refine El.x0_2 (Z26 hx) fun _ hi=>?_
    rw [Nat.sub_zero] at hi
    rcases M.kinds x (List.mem_of_getElem? hi) with k | k
    ·exact .inl ⟨k,Zb6 hi k⟩
    ·refine El.x1_1 (Option.isSome_iff_exists.mp (PySem.W.cellsFrom_some (x:=x) rc.scope.names (s.heap.objs.size + 1) [] (.inl k))) fun b hb=>?_
     rw [← hcl] at hb
     exact .inr ⟨k,b,hb,Zb7 hi k hb⟩
   ·refine El.x1_2 (slv i sl q1) fun x hx h1=>?_
    refine El.x1_2 (slv j sl q2) fun y hy h2=>?_
    have hxy:x = y:=by
     try clear y; try clear q2; try clear q1; try clear j; try clear ht; try clear t; try clear hun; try clear hdp; try clear hfr; try clear hlf; try clear lf; try clear hz
     rcases h1 with ⟨_,rfl⟩ | ⟨_,b,hb,rfl⟩ <;> rcases h2 with ⟨_,e⟩ | ⟨_,b',hb',e⟩
     ·cases e; rfl
     ·try clear h2; try clear h1; try clear hlp; try clear hp; try clear p; try clear hip; try clear hv; try clear v; try clear hax; try clear hi; try clear m; try clear cellOk
      cases e
     ·try clear q14z; try clear ho; try clear o; try clear hns; try clear hko; try clear hbl; try clear hgl; try clear hsc; try clear hL; try clear hbk; try clear hpn; try clear rvs
      cases e
     ·cases e; exact name_of_addr X.apart (mem_of_lookup hb) (mem_of_lookup hb')
    try clear hA; try clear vs
    subst hxy
    exact (List.getElem?_inj (List.getElem?_eq_some_iff.mp hx).1 M.nd).mp (hx.trans hy.symm)
   ·refine El.x1_2 (slv i sl q) fun x hx _=>?_
    exact List.mem_range.mpr (List.getElem?_eq_some_iff.mp hx).1
   ·refine El.x1_1 (Option.isSome_iff_exists.mp (PySem.W.cellsFrom_some (x:=x) rc.scope.names (s.heap.objs.size + 1) [] (.inl hx))) fun b hb=>?_
    rw [← hcl] at hb
    exact ⟨b,hb⟩
  refine El.x2_2 X.toInCall.done fun hh₁ tk₁ e₁ _=>?_
  have Q₁:Same s s₁:=by rw [e₁]; exact ⟨rfl,rfl,rfl⟩
  exact hbody c' s₁ rfl rfl rfl rfl (by show env'.frame = some env'.locals; rw [← henv]; rfl) (by show env'.code = code; rw [← henv]; rfl) hG I₁ XE ownGe ⟨Nat.le_of_eq hL.symm,_,hns⟩ Q₁
theorem Zb8 {F:Fn} (W:Wd prog w base mg mb) {n:Nat} (ih:FnOk n prog w base mg F) {d:Def} {rc:DefRec} {a:Addr} {code:Value} (hm:mDef d rc = true∧pSs d.body rc.body = rc.body) (hf:FnAt base mg d.name rc a code) {args:List V} {σ:List O} {r:V} {st':St} (h:Z0m F K d args σ = .ok r st') :
  Does (n + 1) prog w base (.ref a) args σ r st':=by
 unfold Does
 intro c μ s vs e1 e2 e3 hA I rvs
 unfold Z0m at h
 split at h
 case isFalse=>cases h
 rename_i hlen
 cases hB:evSs F K d.body ⟨args.map some++List.replicate (d.slots - args.length) none,σ⟩ with
 | stuck=>rw [hB] at h; cases h
 | exc _ _=>rw [hB] at h; cases h
 | ok fl stF=>
  rw [hB] at h
  simp only [R.bind_ok] at h
  refine Z5A (slots:=d.slots) W ih (Z8T (and2 hm.1).1) hf hlen e1 e2 e3 hA I rvs fun c' s₁ q1 q2 q3 q4 _ _ hG I₁ XE ownGe _ Q₁=>?_
  have hS:=Z7K (K:=K) d.body (gmOf d.locals rc.scope) rc.body c' _ μ s₁ (and2 hm.1).2 hG I₁
  dsimp only at hS
  rw [hm.2,hB,Sim,q1,q2] at hS
  refine wpAny_mono hS (fun fw s' q8=>El.x1_4 q8 fun μ' rf I' S' Q'=>?_) fun _ _ e=>e.elim
  have Ib:Inv c.bare ⟨[],stF.σ⟩ μ' s'.heap:=⟨fun i x q=>by simp at q,fun i sl q=>(by cases q),I'.objs,I'.len,I'.nd,I'.lt,fun b o e=>I'.base b o (by rw [q3]; exact e),fun b q=>(Z07 q).elim,fun a e=>(by have:=I'.baseM a e; rw [q3] at this; exact this),fun b q=>(Z07 q).elim,fun _ _=>trivial⟩
  have Sb:Stp c.bare σ μ s.heap stF.σ μ' s'.heap:=Stp.inner (Stp.ext XE) S' fun b q=>.inr (ownGe b q)
  have Qb:Same s s':=Q₁.trans Q'
  have rv:=Z8U rf
  split at h
  ·rename_i hfree
   simp only [Bool.and_eq_true] at hfree
   cases h
   refine El.x0_3 (Ib.trunc Sb I.len hfree.2 hfree.1 rv) fun I₂ S₂ r₂=>?_
   exact ⟨_,r₂,I₂,S₂,Qb⟩
  ·cases h
   exact ⟨_,rv,Ib,Sb,Qb⟩
end
section
variable {prog:Program} {w:World} {base:Heap} {mg mb:Str→Option Value} {defs:List Def} {K:Nat}
theorem Z5B {n:Nat} {f:Str} {args:List V} {σ:List O} {r:V} {st':St} (h:Z05 defs K (n + 1) f args σ = .ok r st'):∃ d,d ∈ defs∧d.name = f∧Z0m (Z05 defs K n) K d args σ = .ok r st':=by
 rw [Z6E] at h
 exact Z06 h fun d hd h=>⟨d,List.mem_of_find?_eq_some hd,by have q:=List.find?_some hd; exact eq_of_beq q,h⟩
theorem Z7L:Z23 Z0F = false:=by decide
theorem Zal (W:Wd prog w base mg mb) (hD:DefsOk defs base mg) (hp:∀ d ∈ defs,Z23 d.name = true):∀ n,FnOk n prog w base mg (Z05 defs K n):=by
 intro n
 induction n with
 | zero=>exact ⟨fun f args σ r st' h=>(by cases h),fun a x σ r st' h=>(by cases h)⟩
 | succ n ih=>
  refine ⟨fun f args σ r st' h hpl=>?_,fun a x σ r st' h=>?_⟩
  ·obtain ⟨d,hmem,hname,h⟩:=Z5B h
   obtain ⟨rc,a,code,hm,hf⟩:=hD d hmem
   have hf':=hf
   obtain ⟨o,nm,qual,pm,doc,g1,g2,g3,g4⟩:=hf'
   exact ⟨a,o,_,hname ▸ g1,g2,g3,Zb8 W ih hm hf h⟩
  ·obtain ⟨d,hmem,hname,h⟩:=Z5B h
   have:=hp d hmem
   rw [hname,Z7L] at this
   cases this
end
end Mine
namespace Mine
open PySem PySem.Calls PyProof.Rows PySem.W
structure LInfo where
 args:Arguments
 body:Expr:=default
 sc:Scope:=default
noncomputable def Z3y (p:Expr):LInfo:=match p with
 | .Lambda a b s _=>⟨a,b,s⟩
 | _=>{ args:=default }
noncomputable def LInfo.par (L:LInfo):Str:=(L.args.args.map (·.arg)).headD default
noncomputable def Z6e (L:LInfo):Gm:=⟨L.sc,[(L.par,0)],[0],[],(L.sc.names.filter fun q=>q.2 == .free).zipIdx.map fun q=>(q.1.1,q.2)⟩
noncomputable def ZdC (g:Gm) (caps:List Nat) (cps:List (Str × Nat)):Bool:=cps.all fun q=>caps[q.2]?.any fun i=>decide (g.vm.lookup q.1 = some i) && decide (g.sc.names.lookup q.1 = some .cell)
noncomputable def Zb9 (L:LInfo):Bool :=
 (L.args.posonlyargs.isEmpty && L.args.kwonlyargs.isEmpty) && ((L.args.vararg.isNone && L.args.kwarg.isNone) && ((L.args.defaults.isEmpty && L.args.kw_defaults.isEmpty) && (L.args.args.map (·.arg) == [L.par])))
noncomputable def okSc (L:LInfo):Bool :=
 ((L.sc.kind == .function) && (!L.sc.isCoroutine && !L.sc.isGenerator)) && (decide (L.sc.names.lookup L.par = some .local) && (L.sc.names.all fun q=>!(q.2 == .cell)))
noncomputable def Zam (g:Gm) (caps:List Nat) (lam:Ex) (L:LInfo):Bool:=(Zb9 L && okSc L) && ((ZdC g caps (Z6e L).cps && decide ((L.sc.names.map (·.1)).Nodup)) && okE (Z6e L) lam L.body)
noncomputable def capF (F:Fn) (cs:List V):Fn:=fun f xs σ=>if f = Z1a then (match xs with | [.int k]=>R.need (cs[k.toNat]?) fun y=>.ok y ⟨[],σ⟩ | _=>.stuck) else F f xs σ
structure LamAt (base:Heap) (b:Addr) (lam:Ex) (cs:List V):Prop where
 out:∃ name qual L clos pm c' ctv,base.get? b = some (kla_obj name qual L.args (pE lam L.body) L.sc clos pm c' ctv)∧base.CodeRec (.ref c') qual∧(Zb9 L && okSc L) = true∧okE (Z6e L) lam L.body = true ∧
  ∀ x k,(Z6e L).cps.lookup x = some k→L.sc.names.lookup x = some .free∧∃ a v y,clos.lookup x = some a∧base.IsCell a (some v)∧cs[k]? = some y∧RepV (fun _=>False) [] base v y
section
variable {prog:Program} {w:World} {base:Heap} {mg mb:Str→Option Value} {K:Nat}
theorem Z4V {F:Fn} {cs:List V} {k:Nat} {y:V} {σ:List O} (h:cs[k]? = some y):capF F cs Z1a [.int k] σ = .ok y ⟨[],σ⟩:=by
 unfold capF
 rw [if_pos rfl]
 show R.need (cs[(k:Int).toNat]?) _ = _
 rw [Int.toNat_natCast,h]; rfl
theorem Zca {n:Nat} {F:Fn} {cs:List V} (ih:FnOk n prog w base mg F):FnOk n prog w base mg (capF F cs):=by
 refine ⟨fun f args σ r st' h hp=>ih.fn f args σ r st' ?_ hp,fun a x σ r st' h=>ih.lam a x σ r st' ?_⟩
 ·unfold capF at h
  rw [if_neg (fun e=>by rw [e] at hp; exact absurd hp (by decide))] at h
  exact h
 ·unfold capF at h
  rw [if_neg (by decide)] at h
  exact h
theorem Zan {F:Fn} (W:Wd prog w base mg mb) {n:Nat} (ih:FnOk n prog w base mg F) {b:Addr} {lam:Ex} {cs:List V} (hL:LamAt base b lam cs) {x:V} {σ:List O} {r:V} {st':St} (h:evE (capF F cs) lam ⟨[some x],σ⟩ = .ok r st') :
  Does (n + 1) prog w base (.ref b) [x] σ r ⟨[],st'.σ⟩:=by
 intro c μ s vs e1 e2 e3 hA I rvs
 subst e1 e2 e3
 obtain ⟨name,qual,L,clos,pm,c',ctv,ho,hcd,hok,hE,hcl⟩:=hL.out
 obtain ⟨hka,hks⟩:=and2 hok
 obtain ⟨a1,a2⟩:=and2 hka
 obtain ⟨a2,a3⟩:=and2 a2
 obtain ⟨a3,a4⟩:=and2 a3
 obtain ⟨s1,s2⟩:=and2 hks
 obtain ⟨v,hv,rx⟩:∃ v,vs = [v]∧RepV (Tr σ μ) μ s.heap v x:=by
  cases rvs with
  | cons a b=>cases b; exact ⟨_,rfl,a⟩
 subst hv
 have hkind:L.sc.kind = .function:=eq_of_beq (and2 s1).1
 have hco:L.sc.isCoroutine = false:=by have:=(and2 (and2 s1).2).1; simpa using this
 have hge:L.sc.isGenerator = false:=by have:=(and2 (and2 s1).2).2; simpa using this
 have hpar:L.sc.names.lookup L.par = some .local:=of_decide_eq_true (and2 s2).1
 have hcell:∀ q ∈ L.sc.names,q.2 ≠ .cell:=fun q hq e=>by
  have:=List.all_eq_true.mp (and2 s2).2 q hq
  rw [e] at this; cases this
 have hbk:∀ b o,c.base.get? b = some o→s.heap.get? b = some o:=I.base
 refine wpAny_call (kla_callFunE (by have:=hA.depth; lia) (hbk _ _ ho) rfl hco hge rfl (hcd.keeps hbk) ?_)
 rw [Z4h (names:=[L.par]) (List.isEmpty_iff.mp (and2 a1).1) (List.isEmpty_iff.mp (and2 a1).2) (Option.isNone_iff_eq_none.mp (and2 a2).1) (Option.isNone_iff_eq_none.mp (and2 a2).2) (eq_of_beq a4) rfl (List.nodup_cons.mpr ⟨List.not_mem_nil,List.nodup_nil⟩) rfl]
 refine wpAny_pure (wpAny_newFunctionEnv hcell (fun y hy=>?_) (fun h₁ hns hsb=>⟨((W.nolimit).keeps hbk).fresh _ hsb,?_⟩) hkind)
 ·cases List.mem_singleton.mp hy; exact hpar
 generalize henv:newEnv L.sc s.heap.objs.size mainGlobals clos (qual++".<locals>.") (some b) (.ref c') none builtinsNs = env'
 have hL:env'.locals = s.heap.objs.size:=by rw [← henv]; rfl
 have hsc:env'.scope = L.sc:=by rw [← henv]; rfl
 have hcs:env'.cells = clos:=by rw [← henv]; rfl
 have hgl:env'.globals = mainGlobals:=by rw [← henv]; rfl
 have hbl:env'.builtins = builtinsNs:=by rw [← henv]; rfl
 have hko:∀ x,env'.kindOf x = L.sc.names.lookup x:=fun x=>by unfold Env.kindOf; rw [hsc]
 have hk₁:∀ b o,s.heap.get? b = some o→h₁.get? b = some o:=fun b o e=>hsb.extBut b o (Nat.ne_of_lt (Heap.lt_size e)) (Heap.get?_push_of_some _ e)
 have hlt:s.heap.objs.size < h₁.objs.size:=by obtain ⟨o,_,_,ho,_⟩:=hns; exact Heap.lt_size ho
 have XE:Ext s.heap h₁:=⟨Nat.le_of_lt hlt,hk₁⟩
 refine kla_codeExpr ?_
 show wpAny (model c.prog c.w) (c.A.deeper env') (eval (pE lam L.body) env') _ _ ⟨h₁,s.gens,s.drawn,s.toks + 1,s.os⟩
 let c₁:Cx:={ prog:=c.prog,w:=c.w,base:=c.base,A:=c.A.deeper env',env:=env',sl:=fun i=>match i with | 0=>some (.d env'.locals L.par) | _=>none }
 have slv:∀ i sl,c₁.sl i = some sl→i = 0∧sl = .d env'.locals L.par:=fun i sl q=>by
  cases i with
  | zero=>exact ⟨rfl,(Option.some.inj q).symm⟩
  | succ i=>cases q
 have ownEq:∀ b,Own c₁ b→b = s.heap.objs.size:=by
  rintro b ⟨i,sl,q,rfl⟩
  obtain ⟨rfl,rfl⟩:=slv i sl q
  exact hL
 have I₁:Inv c₁ ⟨[some x],σ⟩ μ h₁:=by
  refine ⟨fun i y q=>?_,fun i sl q=>?_,(I.ext XE).objs,I.len,I.nd,(I.ext XE).lt,(I.ext XE).base,fun b q=>?_,I.baseM,fun b q m=>?_,I.kd⟩
  ·cases i with
   | zero=>
    cases q
    exact ⟨.d env'.locals L.par,v,rfl,⟨_,(by rw [hL]; exact hns),(by simp)⟩,rx.ext XE⟩
   | succ i=>simp at q
  ·obtain ⟨rfl,rfl⟩:=slv i sl q
   exact ⟨_,by rw [hL]; exact hns⟩
  ·show c.base.get? b = none
   cases hq:c.base.get? b with
   | none=>rfl
   | some ob=>exact absurd (ownEq b q ▸ Heap.lt_size (hbk b ob hq)) (Nat.lt_irrefl _)
  ·exact Nat.lt_irrefl _ (ownEq b q ▸ I.lt b m)
 obtain ⟨lf,hlf⟩:=hA.frames
 have hfr:(c.A.deeper env').frames = some (env' :: lf):=Around.frames_deeper hlf
 have hA':AOk n c₁.A:=⟨hA.hh,by show c.A.depth + 1 + n + 110 ≤ _; have:=hA.depth; lia,by show c.A.units + 3 + 4 * n + 200 ≤ _; have:=hA.units; lia,_,hfr⟩
 have hG:Good ⟨n,mg,mb,capF F cs⟩ c₁ (Z6e L):=by
  refine ⟨⟨fun t ht=>?_,hA.hh,by show c.A.units + 3 + 100 < _; have:=hA.units; lia,let ⟨mm,⟨o,_,_,ho,_⟩,_⟩:=W.seer.mods; ⟨o,ho⟩⟩,W.gd,⟨hsc,hkind,hgl,hbl,fun y i hx=>?_,fun i j sl q1 q2=>?_,fun i sl q=>?_,fun y hx=>?_⟩,hA',fun x i e=>(by cases e),Zca ih,fun y k e=>?_⟩
  ·refine PylongRoom.of (W.nolimit.keeps ht) (by show c.A.depth + 1 + 100 < _; have:=hA.depth; lia) (SeerAt.of (W.seer.keeps ht) W.tree hfr ?_ ?_ hbl hgl)
   ·rw [hsc]; exact hge
   ·rw [hsc]; exact hco
  ·have hx:([(L.par,0)]:List (Str × Nat)).lookup y = some i:=hx
   rw [List.lookup_cons] at hx
   by_cases hy:y = L.par
   ·subst hy
    rw [beq_self_eq_true] at hx
    cases hx
    exact .inl ⟨hpar,rfl⟩
   ·rw [beq_eq_false_iff_ne.mpr hy] at hx
    cases hx
  ·rw [(slv i sl q1).1,(slv j sl q2).1]
  ·rw [(slv i sl q).1]; exact List.mem_singleton.mpr rfl
  ·exact absurd rfl (hcell _ (mem_of_lookup hx))
  ·obtain ⟨k1,a,v,yv,k2,k3,k4,k5⟩:=hcl y k e
   exact ⟨a,v,yv,(hko y).trans k1,(by show env'.cells.lookup y = _; rw [hcs]; exact k2),k3,k5,fun σ=>Z4V (F:=F) k4⟩
 have hS:=(allE lam).1 (Z6e L) L.body c₁ ⟨[some x],σ⟩ μ ⟨h₁,s.gens,s.drawn,s.toks + 1,s.os⟩ hE hG I₁
 rw [h,Sim] at hS
 refine wpAny_mono hS (fun fw s' q8=>El.x1_4 q8 fun μ' rf I' S' Q'=>?_) fun _ _ e=>e.elim
 exact ⟨μ',rf,⟨fun i x q=>by simp at q,fun i sl q=>(by cases q),I'.objs,I'.len,I'.nd,I'.lt,I'.base,fun b q=>(Z07 q).elim,I'.baseM,fun b q=>(Z07 q).elim,fun _ _=>trivial⟩,Stp.inner (Stp.ext XE) S' fun b q=>.inr (Nat.le_of_eq (ownEq b q).symm),Same.trans (s':=⟨h₁,s.gens,s.drawn,s.toks + 1,s.os⟩) ⟨rfl,rfl,rfl⟩ Q'⟩
end
abbrev Lf:=Str→List V→Ex→List V→List O→R V
noncomputable def allR (m:Addr→R V):R V:=open Classical in if h:∃ p:V × St,∀ a,m a = .ok p.1 p.2 then .ok h.choose.1 h.choose.2 else .stuck
theorem Zao {m:Addr→R V} {r:V} {st:St} (h:allR m = .ok r st) (a:Addr):m a = .ok r st:=by
 unfold allR at h
 split at h
 ·rename_i q
  cases h
  exact q.choose_spec a
 ·cases h
theorem Zcb {m:Addr→R V} {r:V} {st:St} (h:∀ a,m a = .ok r st):allR m = .ok r st:=by
 have q:∃ p:V × St,∀ a,m a = .ok p.1 p.2:=⟨(r,st),h⟩
 unfold allR
 rw [dif_pos q]
 exact (q.choose_spec 0).symm.trans (h 0)
noncomputable def rawF (F F':Fn) (b:Addr) (lam:Ex) (cs:List V):Fn:=fun f xs σ=>if f = Z0F then (match xs with
  | [.raw u,x]=>if u = b then (evE (capF F' cs) lam ⟨[some x],σ⟩).bind fun v st=>.ok v ⟨[],st.σ⟩ else .stuck
  | _=>.stuck) else F f xs σ
noncomputable def Z1M (defs:List Def) (K:Nat):Nat→Lf
 | n + 2=>fun f xs lam cs σ=>R.need (defs.find? fun d=>d.name == f) fun d=>allR fun a=>Z0m (rawF (Z05 defs K (n + 1)) (Z05 defs K n) a lam cs) K d (xs++[.raw a]) σ
 | _=>fun _ _ _ _ _=>.stuck
noncomputable def Zap (base:Heap) (mg:Str→Option Value) (code:Value):Prop:=∃ ca P,code = .ref ca∧CodeHd base ca P∧base.get? P = none∧base.BuiltinsAt mg P
noncomputable def Zaq (n:Nat) (prog:Program) (w:World) (base:Heap) (mg:Str→Option Value) (code:Value) (L:Lf):Prop :=
 ∀ f xs lam cs σ r st',L f xs lam cs σ = .ok r st'→Zap base mg code∧∃ fa o fd,mg f = some (.ref fa)∧base.get? fa = some o∧o.data = .func fd ∧
  ∀ base₂ b,(∀ b o,base.get? b = some o→base₂.get? b = some o)→LamAt base₂ b lam cs→Does n prog w base₂ (.ref fa) (xs++[.raw b]) σ r st'
section
variable {prog:Program} {w:World} {base base₂:Heap} {mg mb:Str→Option Value} {defs:List Def} {K:Nat}
theorem Wd.keeps (W:Wd prog w base mg mb) (k:∀ b o,base.get? b = some o→base₂.get? b = some o):Wd prog w base₂ mg mb :=
 ⟨⟨W.gd.g.keeps k,W.gd.b.keeps k,W.gd.blt,W.gd.free⟩,W.seer.keeps k,W.nolimit.keeps k,W.tree⟩
theorem FnAt.keeps {name:Str} {r:DefRec} {a:Addr} {code:Value} (x:FnAt base mg name r a code) (k:∀ b o,base.get? b = some o→base₂.get? b = some o):FnAt base₂ mg name r a code :=
 let ⟨o,nm,qual,pm,doc,h1,h2,h3,h4⟩:=x; ⟨o,nm,qual,pm,doc,h1,k _ _ h2,h3,h4.keeps k⟩
theorem DefsOk.keeps (x:DefsOk defs base mg) (k:∀ b o,base.get? b = some o→base₂.get? b = some o):DefsOk defs base₂ mg:=fun d hd=>
 let ⟨r,a,code,h1,h2⟩:=x d hd; ⟨r,a,code,h1,h2.keeps k⟩
theorem Zcc {n:Nat} {F F':Fn} {b:Addr} {lam:Ex} {cs:List V} (W:Wd prog w base mg mb) (hF:FnOk (n + 1) prog w base mg F) (hF':FnOk n prog w base mg F') (hL:LamAt base b lam cs):FnOk (n + 1) prog w base mg (rawF F F' b lam cs):=by
 refine ⟨fun f args σ r st' h hp=>hF.fn f args σ r st' ?_ hp,fun a x σ r st' h=>?_⟩
 ·unfold rawF at h
  rw [if_neg (fun e=>by rw [e] at hp; exact absurd hp (by decide))] at h
  exact h
 ·unfold rawF at h
  rw [if_pos rfl] at h
  dsimp only at h
  split at h
  ·rename_i e
   subst e
   obtain ⟨v,st,h1,h2⟩:=R.bind_inv h
   cases h2
   obtain ⟨name,qual,L,clos,pm,c',ctv,ho,_⟩:=hL.out
   exact ⟨_,_,ho,rfl,Zan W hF' hL h1⟩
  ·cases h
theorem Zd9 (W:Wd prog w base mg mb) (hD:DefsOk defs base mg) (hp:∀ d ∈ defs,Z23 d.name = true) {code:Value} (hc:Zap base mg code):∀ n,Zaq n prog w base mg code (Z1M defs K n)
 | 0=>fun _ _ _ _ _ _ _ h=>(by cases h)
 | 1=>fun _ _ _ _ _ _ _ h=>(by cases h)
 | n + 2=>fun f xs lam cs σ r st' h=>by
  refine ⟨hc,?_⟩
  have h:(R.need (defs.find? fun d=>d.name == f) fun d=>allR fun a=>Z0m (rawF (Z05 defs K (n + 1)) (Z05 defs K n) a lam cs) K d (xs++[.raw a]) σ) = .ok r st':=h
  refine Z06 h fun d hd h=>?_
  have hmem:=List.mem_of_find?_eq_some hd
  have hname:d.name = f:=by have q:=List.find?_some hd; exact eq_of_beq q
  obtain ⟨rc,a,cd,hm,hf⟩:=hD d hmem
  have hf':=hf
  obtain ⟨o,nm,qual,pm,doc,g1,g2,g3,g4⟩:=hf'
  refine ⟨a,o,_,hname ▸ g1,g2,g3,fun base₂ b k hL=>?_⟩
  have W₂:=W.keeps k
  have D₂:=hD.keeps k
  exact Zb8 W₂ (Zcc W₂ (Zal W₂ D₂ hp (n + 1)) (Zal W₂ D₂ hp n) hL) hm (hf.keeps k) (Zao h b)
theorem Z2s {env:Env}:∀ (l:List (Str × NameKind)) (acc:List (Str × Addr)),(∀ q ∈ l,q.2 = .free→∃ a,env.cells.lookup q.1 = some a)→(∀ q ∈ acc,env.cells.lookup q.1 = some q.2) →
  ∃ cl,(forIn l acc fun q cs=>(if q.2 == .free then (do let a ← cellOf env q.1; pure (ForInStep.yield ((q.1,a) :: cs))) else pure (ForInStep.yield cs):Sem _)) = pure cl∧(∀ q ∈ cl,env.cells.lookup q.1 = some q.2)∧(∀ q ∈ acc,q ∈ cl)∧∀ q ∈ l,q.2 = .free→∃ a,(q.1,a) ∈ cl
 | [],acc,_,h2=>⟨acc,rfl,h2,fun _ q=>q,fun _ q=>by cases q⟩
 | q :: l,acc,h1,h2=>by
  rw [List.forIn_cons]
  by_cases hq:q.2 = .free
  ·obtain ⟨a,ha⟩:=h1 q List.mem_cons_self hq
   obtain ⟨cl,e1,e2,e3,e4⟩:=Z2s l ((q.1,a) :: acc) (fun r hr=>h1 r (List.mem_cons_of_mem _ hr)) fun r hr=>by
    rcases List.mem_cons.mp hr with rfl | hr
    ·exact ha
    ·exact h2 r hr
   refine ⟨cl,?_,e2,fun r hr=>e3 r (List.mem_cons_of_mem _ hr),fun r hr hf=>?_⟩
   ·rw [← e1,hq,if_pos (by decide)]
    unfold cellOf
    rw [ha]; rfl
   ·rcases List.mem_cons.mp hr with rfl | hr
    ·exact ⟨a,e3 _ List.mem_cons_self⟩
    ·exact e4 r hr hf
  ·obtain ⟨cl,e1,e2,e3,e4⟩:=Z2s l acc (fun r hr=>h1 r (List.mem_cons_of_mem _ hr)) h2
   refine ⟨cl,?_,e2,e3,fun r hr hf=>?_⟩
   ·rw [← e1,if_neg (fun e=>hq (eq_of_beq e))]; rfl
   ·rcases List.mem_cons.mp hr with rfl | hr
    ·exact absurd hf hq
    ·exact e4 r hr hf
theorem Z3z {env:Env} {x:Str} {a:Addr}:∀ {cl:List (Str × Addr)},(x,a) ∈ cl→(∀ q ∈ cl,env.cells.lookup q.1 = some q.2)→cl.lookup x = env.cells.lookup x
 | [],h,_=>by cases h
 | q :: cl,h,h2=>by
  obtain ⟨y,b⟩:=q
  rw [List.lookup_cons]
  by_cases hy:x = y
  ·subst hy
   rw [beq_self_eq_true]
   exact (h2 _ List.mem_cons_self).symm
  ·rw [beq_eq_false_iff_ne.mpr hy]
   rcases List.mem_cons.mp h with e | h
   ·cases e; exact absurd rfl hy
   ·exact Z3z h fun q hq=>h2 q (List.mem_cons_of_mem _ hq)
theorem Z7M {env:Env} {sc:Scope} (h:∀ q ∈ sc.names,q.2 = .free→∃ a,env.cells.lookup q.1 = some a):∃ cl,closureFor sc env = pure cl∧∀ x,(x,NameKind.free) ∈ sc.names→cl.lookup x = env.cells.lookup x:=by
 obtain ⟨cl,e1,e2,e3,e4⟩:=Z2s sc.names [] h (fun _ q=>by cases q)
 refine ⟨cl,?_,fun x hx=>?_⟩
 ·have e0:closureFor sc env = (forIn sc.names [] fun q cs=>(if q.2 == .free then (do let a ← cellOf env q.1; pure (ForInStep.yield ((q.1,a) :: cs))) else pure (ForInStep.yield cs):Sem _)) >>= fun cs=>pure cs:=rfl
  rw [e0,e1]; rfl
 ·obtain ⟨a,ha⟩:=e4 (x,.free) hx rfl
  exact Z3z ha e2
theorem Z42 {pos q:Pos} {c:Value} (l:List Value) (h:TriplesOk l) (hn:codeAmong q l = none) (hq:(q.line,q.col) ≠ (pos.line,pos.col)):codeAmong q (l++[rawInt pos.line,rawInt pos.col,c]) = none:=by
 fun_induction TriplesOk l with
 | case1=>
  show (if ((pos.line:Int) == (q.line:Int) && (pos.col:Int) == (q.col:Int)) = true then some c else none) = none
  rw [if_neg]
  intro e
  rw [Bool.and_eq_true,beq_iff_eq,beq_iff_eq] at e
  exact hq (by rw [Prod.mk.injEq]; omega)
 | case2 x _ y _ d rest ih=>
  unfold codeAmong at hn
  split at hn
  ·cases hn
  ·rename_i e
   show (if _ then some d else codeAmong q (rest++_)) = none
   rw [if_neg e]
   exact ih h hn
 | case3=>exact h.elim
theorem TabOk.more {ps:Array Value} {us:List (Nat × Nat)} (h:TabOk ps us) (pos:Pos) (c:Value):TabOk (ps++#[rawInt pos.line,rawInt pos.col,c]) ((pos.line,pos.col) :: us):=by
 refine ⟨?_,fun q hq=>?_⟩
 ·rw [Array.toList_append]; exact TriplesOk_snoc _ _ _ _ h.1
 ·rw [Array.toList_append]
  rw [List.mem_cons,not_or] at hq
  exact Z42 _ h.1 (h.2 q hq.2) hq.1
end
end Mine
namespace Mine
open PySem PySem.Spec PySem.Calls PyProof.Rows PySem.W Builtin Builtin.ObjectAttr Builtin.Getset_descriptor
structure KOk (K:Frag) (D:Addr):Prop where
 gb:findIn K (.ref D) "__getattribute__" = some (some (.builtin "BaseException.__getattribute__"))
 gt:findIn K (.ref D) "__getattr__" = some none
 cl:findIn K (.ref D) "__class__" = some (some (.builtin "object.__class__"))
 sp:specialIn K (.builtin "object.__class__") "__get__" = some (some (.builtin "getset_descriptor.__get__"))
 tk:takesIn K (.builtin "object.__class__") = some true
 ob:mroIn K D (.type "object") = some true
 be:mroIn K D (.type "BaseException") = some true
section
variable {prog:Program} {w:World} {A:Around} {E:Value→Shared→Prop} {s:Shared} {K:Frag} {x D:Addr}
noncomputable def IsA (x D:Addr) (h:Heap):Prop:=∃ o,h.get? x = some o∧o.cls = .ref D
theorem IsA.ty {M:Model} {h:Heap} (I:IsA x D h):Looks M h (typeOf (.ref x)) (.ref D):=let ⟨_,h1,h2⟩:=I; h2 ▸ (Looks.ld h1).andThen .now
theorem KOk.cls (k:KOk K D):∃ c d cd sl,K.lookup D = some ⟨c,d,.cls cd,sl⟩:=by
 obtain ⟨cd,h1,_⟩:=Option.bind_eq_some_iff.mp k.ob
 unfold clsIn at h1
 split at h1
 ·rename_i h; exact ⟨_,_,_,_,h⟩
 ·cases h1
theorem KOk.isT (k:KOk K D) {M:Model} {h:Heap} (X:K.In h):Looks M h (isType (.ref D)) true:=by
 obtain ⟨c,d,cd,sl,ho⟩:=k.cls
 intro A' Q' E' s' kk q
 unfold isType loadHead
 exact wpAny_bind (wpAny_loadPart (kk _ _ (X _ _ ho)) (wpAny_pure q))
theorem KOk.find (k:KOk K D) {M:Model} {h:Heap} (X:K.In h):Looks M h (Builtin.ObjectAttr.find (Value.ref x) (Value.ref D) "__class__") (Found.bind (Value.builtin "getset_descriptor.__get__") (Value.builtin "object.__class__")) :=
 (looks_findIn X k.cl).andThen ((show Looks M h (getOf (some (.builtin "object.__class__"))) _ from looks_specialIn X k.sp).andThen
  ((show Looks M h (dataDescriptor? (some (.builtin "object.__class__")) (some (.builtin "getset_descriptor.__get__"))) (some (.builtin "getset_descriptor.__get__",.builtin "object.__class__")) from (looks_takesIn X k.tk).andThen .now).andThen (Looks.tag .now)))
theorem KOk.got (k:KOk K D) {R:Result→Shared→Prop} {tp:Value} (X:K.In s.heap) (I:IsA x D s.heap) (h:R (.ok (.ret (.ref D))) s):codeAny (model prog w) A (.call (.builtin "getset_descriptor.__get__") ⟨[.builtin "object.__class__",.ref x,tp],[]⟩) R s:=by
 have t1:=I.ty (M:=model prog w)
 have t2:=looks_mroIn (M:=model prog w) X k.ob
 obtain ⟨hp,gg,dr,tt,os⟩:=s
 refine codeAny_call_builtin KF.slot_gs.plain KF.entry_gs (KF.slot_gs.check _ _ _ _ _ _ _ _ KF.type_class (KF.args_gs _ _ _) ?_)
 unfold Builtin.«getset_descriptor.__get__» descrGet
 rw [dga_obj]
 refine wpAny_bind (wpAny_pure ?_)
 unfold descrGetter descrCheckInstance descrNameAndClass isInstance
 simp only [KF.owner_class]
 repeat lk
 refine ⟨Code.quiet_builtin _ (by decide +kernel),codeAny_builtin KF.entry_class ?_⟩
 unfold Builtin.«object.__class__» shownTypeOf
 repeat lk
 exact h
theorem KOk.check (k:KOk K D) {M:Model} {v:Value} {Q:Unit→Shared→Prop} (X:K.In s.heap) (I:IsA x D s.heap) (h:Q () s):wpAny M A (checkBuiltinCall "BaseException.__getattribute__" ⟨[.ref x,v],[]⟩) Q E s:=by
 have t1:=I.ty (M:=M)
 have t2:=looks_mroIn (M:=M) X k.be
 have k1:builtinKind "BaseException.__getattribute__" = some .slot:=by decide +kernel
 have k2:splitId "BaseException.__getattribute__" = some ("BaseException","__getattribute__"):=by decide +kernel
 have k3:=F.args_bexc_ga (.ref x) v
 obtain ⟨hp,gg,dr,tt,os⟩:=s
 simp only [checkBuiltinCall,k1,k2]
 refine wpAny_bind ?_
 obtain ⟨o,ho,hc⟩:=I
 unfold isInstance
 repeat (first | (with_reducible refine wpAny_loadPart_at ho ?_; rw [hc]) | with_reducible refine t2.at ?_ | wp_step)
 exact h
theorem KOk.attr (k:KOk K D) {Q:Option Value→Shared→Prop} (X:K.In s.heap) (I:IsA x D s.heap) (h:Q (some (.ref D)) { s with toks:=s.toks + 1 }):wpAny (model prog w) A (getAttr? (.ref x) "__class__") Q E s:=by
 have t1:=I.ty (M:=model prog w)
 have t2:=looks_findIn (M:=model prog w) X k.gb
 have t3:=k.find (x:=x) (M:=model prog w) X
 have t4:=looks_findIn (M:=model prog w) X k.gt
 have f3:=F.excAttr_ValueError.ga.bind (.ref x)
 unfold getAttr? getAttrBy? getAttrBy
 refine wpAny_bind (wpAny_mkText (wpAny_bind (wpAny_attempt (wpAny_holding (wpAny_bind (t1.at (wpAny_bind (t2.at ?_))))))))
 show wpAny _ _ (getAttrByItsOwn (.ref x) (.str "__class__" s.toks) (.ref D) (.builtin "BaseException.__getattribute__") false false) _ _ _
 unfold getAttrByItsOwn
 refine wpAny_bind (t4.at (wpAny_bind (wpAny_attempt (wpAny_holding ?_))))
 show wpAny _ _ (boundAndCalled (.builtin "BaseException.__getattribute__") (.ref x) (.str "__class__" s.toks)) _ _ _
 unfold boundAndCalled
 rw [f3]
 refine wpAny_bind (wpAny_pure (wpAny_call (codeAny_call_builtin F.excAttr_ValueError.ga.plain F.entry_bexc_ga (k.check (s:={ s with toks:=s.toks + 1 }) X I ?_))))
 unfold Builtin.«object.__getattribute__»
 refine wpAny_bind (wpAny_pure (wpAny_bind (wpAny_pure (wpAny_bind (t1.at (wpAny_bind (t3.at ?_)))))))
 refine wpAny_bind (wpAny_holding (wpAny_call (k.got (s:={ s with toks:=s.toks + 1 }) X I (wpAny_pure ?_))))
 exact handed_on rfl (wpAny_pure h)
theorem KOk.kit (k:KOk K D):KitX K (.ref x) (.ref D) (IsA x D) where
 ty:=fun _ _ _ I=>I.ty
 it:=fun _ _ X _=>k.isT X
 ne:=fun h tp dd its n sl X htp=>by
  obtain ⟨c,d,cd,sl',ho⟩:=k.cls
  refine Bool.eq_false_iff.mpr fun q=>?_
  cases Value.ref.inj (beq_iff_eq.mp q)
  cases (X _ _ ho).symm.trans htp
 ca:=fun X I h=>k.attr X I h
end
end Mine
namespace Mine
open PySem PySem.Calls PyProof.Rows PySem.W
noncomputable def FrA (A:Around) (b:Addr):Prop:=∃ l,A.frames = some l∧∃ env ∈ l,env.frame = some b
noncomputable def DC (o:Obj):Prop:=(∃ es n,o.data = .dict es n) ∨ ∃ v,o.data = .cell v
theorem DC.not_still {o:Obj} (h:DC o):¬ Z2k o:=by
 rintro (⟨vs,n,q⟩ | q) <;> rcases h with ⟨es,m,h⟩ | ⟨v,h⟩ <;> rw [h] at q <;> cases q
theorem DC.not_fields {o:Obj} (h:DC o) (vs:Array Value):o.data ≠ .fields vs:=fun q=>by
 rcases h with ⟨es,m,h⟩ | ⟨v,h⟩ <;> rw [h] at q <;> cases q
structure StpC (c:Cx) (σ:List O) (μ:List Addr) (h:Heap) (σ':List O) (μ':List Addr) (h':Heap):Prop where
 size:h.objs.size ≤ h'.objs.size
 keep:∀ b o,h.get? b = some o→¬ Own c b→¬ Tr σ μ b→¬ FrA c.A b→h'.get? b = some o
 fr:∀ b o,h.get? b = some o→¬ Own c b→¬ Tr σ μ b→∃ sl,h'.get? b = some { o with slots:=sl }
 pre:∀ (n:Nat) (a:Addr),μ[n]? = some a→μ'[n]? = some a
 tr:∀ b,Tr σ' μ' b→Tr σ μ b ∨ h.objs.size ≤ b
 new:∀ a ∈ μ',a ∈ μ ∨ h.objs.size ≤ a
section
variable {c:Cx} {σ σ' σ'':List O} {μ μ' μ'':List Addr} {h h' h'':Heap} {st st':St}
theorem Stp.toC (S:Stp c σ μ h σ' μ' h'):StpC c σ μ h σ' μ' h':=⟨S.size,fun b o e h1 h2 _=>S.keep b o e h1 h2,fun b o e h1 h2=>⟨o.slots,S.keep b o e h1 h2⟩,S.pre,S.tr,S.new⟩
theorem StpC.refl:StpC c σ μ h σ μ h:=Stp.refl.toC
theorem StpC.trans (x:StpC c σ μ h σ' μ' h') (y:StpC c σ' μ' h' σ'' μ'' h''):StpC c σ μ h σ'' μ'' h'' where
 size:=Nat.le_trans x.size y.size
 keep:=fun b o e h1 h2 h3=>y.keep b o (x.keep b o e h1 h2 h3) h1 (fun q=>(x.tr b q).elim h2 fun q=>Nat.lt_irrefl _ (Nat.lt_of_lt_of_le (Heap.lt_size e) q)) h3
 fr:=fun b o e h1 h2=>let ⟨_,e1⟩:=x.fr b o e h1 h2; let ⟨sl,e2⟩:=y.fr b _ e1 h1 (fun q=>(x.tr b q).elim h2 fun q=>Nat.lt_irrefl _ (Nat.lt_of_lt_of_le (Heap.lt_size e) q)); ⟨sl,e2⟩
 pre:=fun n a e=>y.pre n a (x.pre n a e)
 tr:=fun b q=>(y.tr b q).elim (fun q=>x.tr b q) fun q=>.inr (Nat.le_trans x.size q)
 new:=fun a q=>(y.new a q).elim (fun q=>x.new a q) fun q=>.inr (Nat.le_trans x.size q)
noncomputable def Zcd (base:Heap) (μ:List Addr) (code:Value):Prop:=∀ ca P,code = .ref ca→CodeHd base ca P→base.get? P = none→μ[0]? = some P
noncomputable def FrOk (A:Around) (base:Heap) (σ:List O) (μ:List Addr) (h:Heap):Prop :=
 ∀ l,A.frames = some l→∀ env ∈ l,env.scope.kind ≠ .module∧∃ L o,env.frame = some L∧h.get? L = some o∧DC o∧¬ Tr σ μ L∧base.get? L = none∧Zcd base μ env.code
theorem FrOk.at (F:FrOk c.A c.base σ μ h) {b:Addr} (q:FrA c.A b):∃ o,h.get? b = some o∧DC o∧¬ Tr σ μ b∧c.base.get? b = none:=by
 obtain ⟨l,hl,env,he,hb⟩:=q
 obtain ⟨_,L,o,h1,h2,h3,h4,h5,_⟩:=F l hl env he
 cases hb.symm.trans h1
 exact ⟨o,h2,h3,h4,h5⟩
theorem FrOk.step (F:FrOk c.A c.base σ μ h) (I:Inv c st' μ' h') (S:StpC c σ μ h st'.σ μ' h'):FrOk c.A c.base st'.σ μ' h':=fun l hl env he=>by
 obtain ⟨k,L,o,h1,h2,h3,h4,h5,h6⟩:=F l hl env he
 have h6':Zcd c.base μ' env.code:=fun ca P e1 e2 e3=>S.pre 0 P (h6 ca P e1 e2 e3)
 have t':¬ Tr st'.σ μ' L:=fun q=>(S.tr L q).elim h4 fun q=>Nat.lt_irrefl _ (Nat.lt_of_lt_of_le (Heap.lt_size h2) q)
 by_cases q:Own c L
 ·obtain ⟨i,s,hs,rfl⟩:=q
  obtain ⟨o',ho',hd'⟩:=(I.slots i s hs).get
  exact ⟨k,_,o',h1,ho',hd',t',h5,h6'⟩
 ·obtain ⟨sl,e⟩:=S.fr L o h2 q h4
  exact ⟨k,L,_,h1,e,h3,t',h5,h6'⟩
theorem RepV.stepC (I:Inv c st μ h) (F:FrOk c.A c.base st.σ μ h) (S:StpC c st.σ μ h σ' μ' h') {v:Value} {x:V} (r:RepV (Tr st.σ μ) μ h v x):RepV (Tr σ' μ') μ' h' v x :=
 r.move (fun a o e hd hT=>⟨S.keep a o e (fun q=>I.own_data q e hd) hT (fun q=>by obtain ⟨o',e',d,_⟩:=F.at q; cases e.symm.trans e'; exact d.not_still hd),fun q=>(S.tr a q).elim hT fun q=>Nat.lt_irrefl _ (Nat.lt_of_lt_of_le (Heap.lt_size e) q)⟩) S.pre
theorem RepVs.stepC (I:Inv c st μ h) (F:FrOk c.A c.base st.σ μ h) (S:StpC c st.σ μ h σ' μ' h') {v:List Value} {x:List V} (r:RepVs (Tr st.σ μ) μ h v x):RepVs (Tr σ' μ') μ' h' v x :=
 RepVs.ind (M:=fun vs xs=>RepVs (Tr σ' μ') μ' h' vs xs) .nil (fun a _ ih=>.cons (a.stepC I F S) ih) r
theorem Slot.Ok.up {s:Slot} (x:s.Ok h) (hk:∀ o,h.get? s.own = some o→∃ sl,h'.get? s.own = some { o with slots:=sl }):s.Ok h':=by
 cases s with
 | d D n=>obtain ⟨m,o,es,ep,ho,r⟩:=x; obtain ⟨sl,e⟩:=hk o ho; exact ⟨m,_,es,ep,e,r⟩
 | c a=>obtain ⟨v,o,ho,hd⟩:=x; obtain ⟨sl,e⟩:=hk o ho; exact ⟨v,_,e,hd⟩
theorem Slot.Holds.up {v:Value} {s:Slot} (x:s.Holds h v) (hk:∀ o,h.get? s.own = some o→∃ sl,h'.get? s.own = some { o with slots:=sl }):s.Holds h' v:=by
 cases s with
 | d D n=>obtain ⟨m,⟨o,es,ep,ho,r⟩,em⟩:=x; obtain ⟨sl,e⟩:=hk o ho; exact ⟨m,⟨_,es,ep,e,r⟩,em⟩
 | c a=>obtain ⟨o,ho,hd⟩:=x; obtain ⟨sl,e⟩:=hk o ho; exact ⟨_,e,hd⟩
theorem Inv.backC (I:Inv c st μ h) (F:FrOk c.A c.base st.σ μ h) (I':Inv c.bare ⟨[],σ'⟩ μ' h') (S:StpC c.bare st.σ μ h σ' μ' h'):Inv c ⟨st.ρ,σ'⟩ μ' h'∧StpC c st.σ μ h σ' μ' h':=by
 have S':StpC c st.σ μ h σ' μ' h':=⟨S.size,fun b o e _ hT=>S.keep b o e Z07 hT,fun b o e _ hT=>S.fr b o e Z07 hT,S.pre,S.tr,S.new⟩
 have kp:∀ b,Own c b→∀ o,h.get? b = some o→∃ sl,h'.get? b = some { o with slots:=sl }:=fun b q o e=>S.fr b o e Z07 fun t=>I.sep b q t.mem
 refine ⟨⟨fun i x q=>?_,fun i s q=>(I.slots i s q).up (kp _ ⟨i,s,q,rfl⟩),I'.objs,I'.len,I'.nd,I'.lt,I'.base,I.baseS,I'.baseM,fun b q m=>?_,I'.kd⟩,S'⟩
 ·refine El.x2_3 (I.vars i x q) fun s v h1 h2 h3=>?_
  exact ⟨s,v,h1,h2.up (kp _ ⟨i,s,h1,rfl⟩),h3.stepC I F S'⟩
 ·rcases S.new b m with k | k
  ·exact I.sep b q k
  ·refine El.x1_1 (Z1c I q) fun o ho=>?_
   exact Nat.lt_irrefl _ (Nat.lt_of_lt_of_le (Heap.lt_size ho) k)
end
structure Flies (C:Addr) (A:Around) (base:Heap) (n₀:Nat) (σ:List O) (μ:List Addr) (h h':Heap) (e:Value):Prop where
 out:∃ (ea:Addr) (l:List Env) (B:Heap) (a0:Value) (G:Addr→Prop),e = .ref ea∧A.frames = some l∧Heap.FlyingW B l ea (.ref C) a0 h'∧h.UpToSlots h' ∧
  (∀ b,G b→n₀ ≤ b∧∃ o,h.get? b = some o∧DC o∧¬ Tr σ μ b∧base.get? b = none)∧∀ b o,h.get? b = some o→¬ FrA A b→¬ G b→B.get? b = some o
 size:h.objs.size ≤ h'.objs.size
noncomputable def Rais (C:Addr) (A:Around) (base:Heap) (n₀:Nat) (σ:List O) (μ:List Addr) (h h':Heap) (e:Value):Prop :=
 (∃ ea vs,e = .ref ea∧Heap.MadeExcOf h h' ea (.ref C) vs∧h.objs.size ≤ h'.objs.size) ∨ Flies C A base n₀ σ μ h h' e
theorem Flies.mono {C:Addr} {A:Around} {base:Heap} {n₀ n₁:Nat} {σ:List O} {μ:List Addr} {h h':Heap} {e:Value} (hn:n₁ ≤ n₀) (x:Flies C A base n₀ σ μ h h' e):Flies C A base n₁ σ μ h h' e :=
 let ⟨ea,l,B,a0,G,h1,h2,h3,h4,h5,h6⟩:=x.out; ⟨⟨ea,l,B,a0,G,h1,h2,h3,h4,fun b q=>⟨Nat.le_trans hn (h5 b q).1,(h5 b q).2⟩,h6⟩,x.size⟩
theorem Rais.mono {C:Addr} {A:Around} {base:Heap} {n₀ n₁:Nat} {σ:List O} {μ:List Addr} {h h':Heap} {e:Value} (hn:n₁ ≤ n₀) (x:Rais C A base n₀ σ μ h h' e):Rais C A base n₁ σ μ h h' e :=
 x.imp id fun y=>y.mono hn
noncomputable def SimC {α β:Type} (C:Addr) (c:Cx) (t:Sem α) (m:R β) (rel:St→List Addr→Heap→α→β→Prop) (σ:List O) (μ:List Addr) (s:Shared):Prop :=
 match m with
 | .stuck=>True
 | .exc _ st'=>wpAny (model c.prog c.w) c.A t (fun _ _=>False) (fun e s'=>∃ μ' h',Inv c st' μ' h'∧StpC c σ μ s.heap st'.σ μ' h'∧Same s s'∧Rais C c.A c.base s.heap.objs.size st'.σ μ' h' s'.heap e) s
 | .ok b st'=>wpAny (model c.prog c.w) c.A t (fun a s'=>∃ μ',rel st' μ' s'.heap a b∧Inv c st' μ' s'.heap∧StpC c σ μ s.heap st'.σ μ' s'.heap∧Same s s') (fun _ _=>False) s
noncomputable def R.cut {α:Type}:R α→R α
 | .ok a st=>.ok a st
 | .exc _ _=>.stuck
 | .stuck=>.stuck
section
variable {α β γ δ:Type} {C:Addr} {c:Cx} {σ:List O} {μ:List Addr} {s:Shared} {rel:St→List Addr→Heap→α→β→Prop} {rel':St→List Addr→Heap→γ→δ→Prop}
theorem Sim.toC {t:Sem α} {m:R β} (h:Sim c t m rel σ μ s):SimC C c t m.cut rel σ μ s:=by
 cases m with
 | stuck=>trivial
 | exc _ _=>trivial
 | ok b st=>exact wpAny_mono h (fun a s' q8=>El.x1_4 q8 fun μ' h1 h2 h3 h4=>⟨μ',h1,h2,h3.toC,h4⟩) fun _ _ e=>e
theorem SimC.bind {t:Sem α} {f:α→Sem γ} {m:R β} {g:β→St→R δ} (h:SimC C c t m rel σ μ s)
  (hf:∀ b st₁ a μ₁ s₁,m = .ok b st₁→rel st₁ μ₁ s₁.heap a b→Inv c st₁ μ₁ s₁.heap→StpC c σ μ s.heap st₁.σ μ₁ s₁.heap→SimC C c (f a) (g b st₁) rel' st₁.σ μ₁ s₁) :
  SimC C c (t >>= f) (m.bind g) rel' σ μ s:=by
 cases m with
 | stuck=>trivial
 | exc x st=>exact wpAny_bind (wpAny_mono h (fun _ _ e=>e.elim) fun _ _ e=>e)
 | ok b st₁=>
  simp only [R.bind_ok]
  have key:∀ a s₁,(∃ μ',rel st₁ μ' s₁.heap a b∧Inv c st₁ μ' s₁.heap∧StpC c σ μ s.heap st₁.σ μ' s₁.heap∧Same s s₁)→∃ μ₁,StpC c σ μ s.heap st₁.σ μ₁ s₁.heap∧Same s s₁∧SimC C c (f a) (g b st₁) rel' st₁.σ μ₁ s₁ :=
   fun a s₁ ⟨μ₁,h1,h2,h3,h4⟩=>⟨μ₁,h3,h4,hf b st₁ a μ₁ s₁ rfl h1 h2 h3⟩
  cases hg:g b st₁ with
  | stuck=>trivial
  | exc x st₂=>
   refine wpAny_bind (wpAny_mono h (fun a s₁ q8=>El.x1_3 (key a s₁ q8) fun μ₁ h3 h4 q=>?_) fun _ _ e=>e.elim)
   rw [hg] at q
   exact wpAny_mono q (fun _ _ e=>e) fun e s₂ ⟨μ₂,h',k1,k2,k3,k4⟩=>⟨μ₂,h',k1,h3.trans k2,h4.trans k3,k4.mono h3.size⟩
  | ok d st₂=>
   refine wpAny_bind (wpAny_mono h (fun a s₁ q8=>El.x1_3 (key a s₁ q8) fun μ₁ h3 h4 q=>?_) fun _ _ e=>e.elim)
   rw [hg] at q
   exact wpAny_mono q (fun a₂ s₂ q8=>El.x1_4 q8 fun μ₂ k1 k2 k3 k4=>⟨μ₂,k1,k2,h3.trans k3,h4.trans k4⟩) fun _ _ e=>e
theorem SimC.pure {a:α} {b:β} {st:St} (I:Inv c st μ s.heap) (h:rel st μ s.heap a b):SimC C c (pure a) (.ok b st) rel st.σ μ s :=
 wpAny_pure ⟨μ,h,I,.refl,.refl⟩
theorem SimC.at {p:Pos} {f:Unit→Sem α} {m:R β} (h:SimC C c (f ()) m rel σ μ s):SimC C c (standAt p >>= f) m rel σ μ s:=by
 cases m with
 | stuck=>trivial
 | exc x st=>exact wpAny_bind (wpAny_standAt h)
 | ok b st=>exact wpAny_bind (wpAny_standAt h)
theorem SimC.of_eq {t t':Sem α} {m:R β} (e:t = t') (h:SimC C c t' m rel σ μ s):SimC C c t m rel σ μ s:=e ▸ h
theorem SimC.of_m {t:Sem α} {m m':R β} (e:m = m') (h:SimC C c t m' rel σ μ s):SimC C c t m rel σ μ s:=e ▸ h
end
mutual
inductive Xm
 | pl (s:Sm)
 | ifte (c:Ex) (t f:Xms)
 | raise (m:Str)
 | call (f:Str) (es:Exs)
 | asgT (is:List Nat) (f:Str) (es:Exs)
 | try1 (i:Nat) (f:Str) (es:Exs)
 | try2 (i:Nat) (f:Str) (es:Exs)
 | asgL (i:Nat) (f:Str) (a b lam:Ex) (caps:List Nat) (pl:Nat × Nat)
inductive Xms
 | nil
 | cons (s:Xm) (ss:Xms)
end
noncomputable def V.flat:V→Bool
 | .none=>true
 | .str _=>true
 | _=>false
noncomputable def capV (ρ:List (Option V)):List Nat→Option (List V)
 | []=>some []
 | i :: is=>(ρ[i]?.bind id).bind fun x=>(capV ρ is).bind fun xs=>some (x :: xs)
noncomputable def Z7N (L:Lf) (i:Nat) (f:Str) (xs:List V) (lam:Ex) (cs:List V) (pl:Nat × Nat) (st:St):R Fl :=
 R.need (tabO st.σ[0]?) fun us=>if pl ∈ us then .stuck else if (V.los 1 xs && V.los 0 cs) = true then (match L f xs lam cs [.tab (pl :: us)] with
  | .ok r ⟨_,[.tab us']⟩=>if r.flat = true then .ok .next (setV ⟨st.ρ,st.σ.set 0 (.tab us')⟩ i r) else .stuck
  | _=>.stuck) else .stuck
noncomputable def Z5C:V:=.tup [.bool true,.none]
noncomputable def tryR (m:R V) (i:Nat):R Fl:=match m with
 | .ok v st=>.ok .next (setV st i v)
 | .exc _ st=>.ok (.ret Z5C) ⟨[],st.σ⟩
 | .stuck=>.stuck
mutual
noncomputable def evX (F G:Fn) (L:Lf) (K:Nat):Xm→St→R Fl
 | .pl s,st=>(evS F K s st).cut
 | .ifte c t f,st=>(Z03 (evE F c st)).cut.bind fun b st=>if b then evXs F G L K t st else evXs F G L K f st
 | .raise m,st=>.exc m st
 | .call f es,st=>((evEs F es st).cut.bind fun xs st=>Z0q (G f xs st.σ) st.ρ).bind fun _ st=>.ok .next st
 | .asgT is f es,st=>((evEs F es st).cut.bind fun xs st=>Z0q (G f xs st.σ) st.ρ).bind fun x st=>((asT is x st).bind fun _ st=>.ok .next st).cut
 | .try1 i f es,st=>tryR ((evEs F es st).cut.bind fun xs st=>Z0q (G f xs st.σ) st.ρ) i
 | .try2 i f es,st=>tryR ((evEs F es st).cut.bind fun xs st=>Z0q (G f xs st.σ) st.ρ) i
 | .asgL i f a b lam caps pl,st=>((evE F a st).bind fun x st=>(evE F b st).bind fun y st=>R.need (capV st.ρ caps) fun cs=>Z7N L i f [x,y] lam cs pl st).cut
noncomputable def evXs (F G:Fn) (L:Lf) (K:Nat):Xms→St→R Fl
 | .nil,st=>.ok .next st
 | .cons s ss,st=>(evX F G L K s st).bind fun fl st=>match fl with
  | .next=>evXs F G L K ss st
  | f=>.ok f st
end
noncomputable def Zba (C:Addr) (c:Cx) (μ:List Addr) (s:Shared) (f:Value) (vs:List Value) (σ:List O) (m:R V):Prop:=match m with
  | .stuck=>True
  | .ok r st'=>wpAny (model c.prog c.w) c.A (call f vs) (fun v s'=>∃ μ',RepV (Tr st'.σ μ') μ' s'.heap v r∧Inv c.bare ⟨[],st'.σ⟩ μ' s'.heap∧StpC c.bare σ μ s.heap st'.σ μ' s'.heap∧Same s s') (fun _ _=>False) s
  | .exc _ st'=>wpAny (model c.prog c.w) c.A (call f vs) (fun _ _=>False) (fun e s'=>∃ μ' h',Inv c.bare ⟨[],st'.σ⟩ μ' h'∧StpC c.bare σ μ s.heap st'.σ μ' h'∧Same s s'∧Flies C c.A c.base s.heap.objs.size st'.σ μ' h' s'.heap e) s
noncomputable def Zce (n:Nat) (prog:Program) (w:World) (base:Heap) (C:Addr) (f:Value) (args:List V) (σ:List O) (m:R V):Prop :=
 ∀ (c:Cx) μ (s:Shared) vs,c.prog = prog→c.w = w→c.base = base→AOk n c.A→FrOk c.A c.base σ μ s.heap→Inv c.bare ⟨[],σ⟩ μ s.heap→RepVs (Tr σ μ) μ s.heap vs args→Zba C c μ s f vs σ m
noncomputable def Z6f (n:Nat) (prog:Program) (w:World) (base:Heap) (mg:Str→Option Value) (C:Addr) (G:Fn):Prop :=
 ∀ f args σ,G f args σ ≠ .stuck→∃ a o fd,mg f = some (.ref a)∧base.get? a = some o∧o.data = .func fd∧Zce n prog w base C (.ref a) args σ (G f args σ)
section
variable {W:Wo} {C:Addr} {G:Fn} {K:Nat}
theorem Z8V {α:Type} {m:R α} {a:α} {st:St} (h:m.cut = .ok a st):m = .ok a st:=by cases m <;> first | exact h | cases h
theorem Z7b {f:Str} {es:Exs} {g:Gm} {p:Expr} {c:Cx} {st:St} {μ:List Addr} {s:Shared} (he:EsOk W es) (hG:Z6f W.n c.prog c.w c.base W.mg C G) (hk:okE g (.call f es) p = true) (hg:Good W c g) (I:Inv c st μ s.heap) {xs:List V} {st₁:St} (hE:evEs W.F es st = .ok xs st₁)
  (Q:Value→Shared→Prop) (E:Value→Shared→Prop) (hs:G f xs st₁.σ ≠ .stuck) (hq:∀ fa vs μ₁ s₁,Zce W.n c.prog c.w c.base C (.ref fa) xs st₁.σ (G f xs st₁.σ)→RepVs (Tr st₁.σ μ₁) μ₁ s₁.heap vs xs→Inv c st₁ μ₁ s₁.heap→Stp c st.σ μ s.heap st₁.σ μ₁ s₁.heap→Same s s₁→wpAny (model c.prog c.w) c.A (call (.ref fa) vs) Q E s₁) :
  wpAny (model c.prog c.w) c.A (eval (pE (.call f es) p) c.env) Q E s:=by
 have hk:((Z23 f && g.gl f) && okEs g es (kids p).tail) = true:=hk
 obtain ⟨fa,fo,fd,k1,k2,k3,hcall⟩:=hG f xs st₁.σ hs
 show wpAny _ _ (eval (.Call (.Name f (kid p 0).pos) (pEs es (kids p).tail) [] p.pos) c.env) _ _ _
 rw [arm_eval_Call_Name']
 refine wpAny_bind (Z1d hg I (and2 (and2 hk).1).2 k1 ?_)
 have hargs:=Z4O (f:=.ref fa) (pos:=p.pos) he (and2 hk).2 hg I
 rw [hE] at hargs
 refine callWith_function_kw (o:=fo) (fd:=fd) (wpAny_mono hargs (fun x s₁ ⟨μ₁,⟨g1,g2⟩,g3,g4,g5⟩=>⟨⟨g3.base _ _ k2,k3⟩,?_⟩) fun _ _ e=>e.elim)
 rw [g1,List.nil_append]
 exact hq fa x.pos μ₁ s₁ hcall g2 g3 g4 g5
theorem Z4k {f:Str} {es:Exs} {g:Gm} {p:Expr} {c:Cx} {st:St} {μ:List Addr} {s:Shared} (he:EsOk W es) (hG:Z6f W.n c.prog c.w c.base W.mg C G) (hk:okE g (.call f es) p = true) (hg:Good W c g) (I:Inv c st μ s.heap) (Fr:FrOk c.A c.base st.σ μ s.heap) {x:Str} {st':St} (h:((evEs W.F es st).cut.bind fun xs st=>Z0q (G f xs st.σ) st.ρ) = .exc x st') :
  wpAny (model c.prog c.w) c.A (eval (pE (.call f es) p) c.env) (fun _ _=>False) (fun e s'=>∃ μ' h',Inv c st' μ' h'∧StpC c st.σ μ s.heap st'.σ μ' h'∧Same s s'∧Flies C c.A c.base s.heap.objs.size st'.σ μ' h' s'.heap e) s:=by
 cases hE:(evEs W.F es st).cut with
 | stuck=>rw [hE] at h; cases h
 | exc x st9=>cases h:evEs W.F es st <;> rw [h] at hE <;> cases hE
 | ok xs st₁=>
  rw [hE,R.bind_ok] at h
  have hE:=Z8V hE
  cases hC:G f xs st₁.σ with
  | stuck=>rw [hC] at h; cases h
  | ok _ _=>rw [hC] at h; cases h
  | exc y st₂=>
   rw [hC] at h
   cases h
   refine Z7b he hG hk hg I hE _ _ (by rw [hC]; intro e; cases e) fun fa vs μ₁ s₁ hd rv I₁ S₁ Q₁=>?_
   have F₁:=Fr.step I₁ S₁.toC
   have:=hd c μ₁ s₁ vs rfl rfl rfl hg.a F₁ I₁.bare rv
   rw [hC] at this
   refine wpAny_mono this (fun _ _ e=>e) fun e s₂ ⟨μ₂,h',q1,q2,q3,q4⟩=>?_
   obtain ⟨I₂,S₂⟩:=I₁.backC F₁ q1 q2
   exact ⟨μ₂,h',I₂,S₁.toC.trans S₂,Q₁.trans q3,q4.mono S₁.size⟩
theorem Z3A {f:Str} {es:Exs} {g:Gm} {p:Expr} {c:Cx} {st:St} {μ:List Addr} {s:Shared} (he:EsOk W es) (hG:Z6f W.n c.prog c.w c.base W.mg C G) (hk:okE g (.call f es) p = true) (hg:Good W c g) (I:Inv c st μ s.heap) (Fr:FrOk c.A c.base st.σ μ s.heap) :
  SimC C c (eval (pE (.call f es) p) c.env) ((evEs W.F es st).cut.bind fun xs st=>Z0q (G f xs st.σ) st.ρ) rV st.σ μ s:=by
 cases hm:(evEs W.F es st).cut.bind fun xs st=>Z0q (G f xs st.σ) st.ρ with
 | stuck=>trivial
 | exc x st'=>exact wpAny_mono (Z4k he hG hk hg I Fr hm) (fun _ _ e=>e) fun e s' ⟨μ',h',k1,k2,k3,k4⟩=>⟨μ',h',k1,k2,k3,.inr k4⟩
 | ok r st'=>
  cases hE:(evEs W.F es st).cut with
  | stuck=>rw [hE] at hm; cases hm
  | exc x st9=>rw [hE] at hm; cases hm
  | ok xs st₁=>
   rw [hE,R.bind_ok] at hm
   have hE:=Z8V hE
   cases hC:G f xs st₁.σ with
   | stuck=>rw [hC] at hm; cases hm
   | exc _ _=>rw [hC] at hm; cases hm
   | ok r' st₂=>
    rw [hC] at hm
    cases hm
    refine Z7b he hG hk hg I hE _ _ (by rw [hC]; intro e; cases e) fun fa vs μ₁ s₁ hd rv I₁ S₁ Q₁=>?_
    have F₁:=Fr.step I₁ S₁.toC
    have:=hd c μ₁ s₁ vs rfl rfl rfl hg.a F₁ I₁.bare rv
    rw [hC] at this
    refine wpAny_mono this (fun v s₂ q8=>El.x1_4 q8 fun μ₂ q1 q2 q3 q4=>?_) fun _ _ e=>e
    obtain ⟨I₂,S₂⟩:=I₁.backC F₁ q2 q3
    exact ⟨μ₂,q1,I₂,S₁.toC.trans S₂,Q₁.trans q4⟩
theorem Zar {i:Nat} {f:Str} {es:Exs} {g:Gm} {p:Stmt} {c:Cx} {st:St} {μ:List Addr} {s:Shared} (he:EsOk W es) (hG:Z6f W.n c.prog c.w c.base W.mg C G) (hk:okS g (.asg i (.call f es)) p = true) (hg:Good W c g) (I:Inv c st μ s.heap) (Fr:FrOk c.A c.base st.σ μ s.heap) :
  SimC C c (exec (pS (.asg i (.call f es)) p) c.env) (((evEs W.F es st).cut.bind fun xs st=>Z0q (G f xs st.σ) st.ρ).bind fun v st=>.ok .next (setV st i v)) rFl st.σ μ s :=
 SimC.of_eq (exec_Assign_Name _ _ _ _ _ (Z1w rfl)) (SimC.at (SimC.bind (Z3A he hG (and2 hk).2 hg I Fr) fun y st₁ u μ₁ s₁ _ rx I₁ S₁=>SimC.at (SimC.of_m (m':=(((R.ok () (setV st₁ i y)).bind fun _ st=>R.ok Fl.next st)).cut) rfl (Sim.toC
  (Sim.bind (Sim.imp (fun Q h=>wpAny_bindName h) (Z0Q hg.nm (and2 hk).1 I₁ rx)) fun _ st₂ _ μ₂ s₂ he _ I₂ S₂=>by cases he; exact Sim.pure I₂ trivial)))))
end
noncomputable def Z1q:Str:=("NoRow":Str)
noncomputable def Z7O:Str:=("RuleError":Str)
noncomputable def vbm:List Value:=[.type "ValueError",.type "Exception",.type "BaseException",.type "object"]
noncomputable def ClsE (base:Heap) (C:Addr) (bm:List Value):Prop:=∃ nm q N bs hdct sn sub ab col dd k0 k1 k2 k3 k5 mN,base.get? C = some (excClassObj nm q C N bs bm hdct sn sub ab col dd k0 k1 k2 k3 k5 "ValueError.__new__")∧base.Ns N mN∧mN "__init__" = none
theorem ClsE.keeps {h h':Heap} {C:Addr} {bm:List Value} (x:ClsE h C bm) (k:∀ b o,h.get? b = some o→h'.get? b = some o):ClsE h' C bm :=
 let ⟨nm,q,N,bs,hdct,sn,sub,ab,col,dd,k0,k1,k2,k3,k5,mN,h1,h2,h3⟩:=x; ⟨nm,q,N,bs,hdct,sn,sub,ab,col,dd,k0,k1,k2,k3,k5,mN,k _ _ h1,h2.keeps k,h3⟩
theorem ClsE.tail {h:Heap} {R:Addr} (x:ClsE h R vbm):OwnTail h vbm (.ref R :: vbm) :=
 let ⟨_,_,_,_,_,_,_,_,_,_,_,_,_,_,_,_,h1,h2,h3⟩:=x; .own h1 h2 h3 .base
structure ExcX (base:Heap) (mg:Str→Option Value) (C:Addr):Prop where
 c:mg Z1q = some (.ref C)
 ve:mg (Str.ofString "ValueError") = none
 obj:∃ R,ClsE base C (.ref R :: vbm)∧ClsE base R vbm∧mg Z7O = some (.ref R)∧∃ K:Frag,K.In base∧KOk K C∧kitOne K (.ref C) (.type "ValueError") = some true∧∀ y ∈ ["NoPattern","TooMany","TooGreat"],∃ N',mg (Str.ofString y) = some (.ref N')∧kitOne K (.ref C) (.ref N') = some false
structure XInfo where
 exc:Expr:=default
 body:List Stmt:=[]
 hnd:List ExceptHandler:=[]
noncomputable def Zcf (p:Stmt):XInfo:=match p with
 | .Raise e _ _=>⟨e.getD default,[],[]⟩
 | .Try b h _ _ _=>⟨default,b,h⟩
 | _=>{}
noncomputable def rx (p:Stmt):Expr:=(Zcf p).exc
noncomputable def tb (p:Stmt):Stmt:=(Zcf p).body.headD default
structure HInfo where
 ty:Expr:=default
 nm:Str:=default
 body:List Stmt:=[]
 pos:Pos:=default
noncomputable def Z2N (p:Stmt):HInfo:=match (Zcf p).hnd with
 | [.ExceptHandler t n b q]=>⟨t.getD default,n.getD default,b,q⟩
 | _=>{}
noncomputable def hb (p:Stmt) (i:Nat):Stmt:=(Z2N p).body[i]?.getD default
noncomputable def pIsi (e C:Str) (q:Expr):Expr:=.Call (.Name (Str.ofString "isinstance") (kid q 0).pos) [.Name e (kid q 1).pos,.Name C (kid q 2).pos] [] q.pos
noncomputable def pH1 (e o:Str) (p:Stmt):Stmt:=.Assign [.Name o (skid p 1).pos] (.BoolOp .Or [pIsi e (Str.ofString "NoPattern") (kid (skid p 0) 0),pIsi e (Str.ofString "TooMany") (kid (skid p 0) 1),pIsi e (Str.ofString "TooGreat") (kid (skid p 0) 2)] (skid p 0).pos) p.pos
noncomputable def pH2 (e o:Str) (p:Stmt):Stmt:=.Return (some (.Tuple [.BoolOp .And [pIsi e Z1q (kid (kid (skid p 0) 0) 0),pIsi e (Str.ofString "ValueError") (kid (kid (skid p 0) 0) 1),.UnaryOp .Not (.Name o (kid (kid (kid (skid p 0) 0) 2) 0).pos) (kid (kid (skid p 0) 0) 2).pos] (kid (skid p 0) 0).pos,.Constant .none (kOf (kid (skid p 0) 1)) (kid (skid p 0) 1).pos] (kOf (skid p 0)) (skid p 0).pos)) p.pos
noncomputable def ZdD:Sm:=.ret (.tup (.cons (.bool true) (.cons .none .nil)))
noncomputable def pLam (lam:Ex) (q:Expr):Expr:=.Lambda (Z3y q).args (pE lam (Z3y q).body) (Z3y q).sc q.pos
mutual
noncomputable def pX:Xm→Stmt→Stmt
 | .pl s,p=>pS s p
 | .ifte c t f,p=>.If (pE c (skid p 0)) (pXs t (blk p)) (pXs f (els p)) p.pos
 | .raise m,p=>.Raise (some (.Call (.Name Z1q (kid (rx p) 0).pos) (pEs (.cons (.str m) .nil) [kid (rx p) 1]) [] (rx p).pos)) none p.pos
 | .call f es,p=>.Expr (pE (.call f es) (skid p 0)) p.pos
 | .asgT is f es,p=>pS (.asgT is (.call f es)) p
 | .try1 i f es,p=>.Try [pS (.asg i (.call f es)) (tb p)] [.ExceptHandler (some (.Name Z1q (Z2N p).ty.pos)) none [pS ZdD (hb p 0)] (Z2N p).pos] [] [] p.pos
 | .try2 i f es,p=>.Try [pS (.asg i (.call f es)) (tb p)] [.ExceptHandler (some (.Name Z7O (Z2N p).ty.pos)) (some (Z2N p).nm) [pH1 (Z2N p).nm (nmOf (skid (hb p 0) 1)) (hb p 0),pH2 (Z2N p).nm (nmOf (skid (hb p 0) 1)) (hb p 1)] (Z2N p).pos] [] [] p.pos
 | .asgL _ f a b lam _ _,p=>.Assign [.Name (nmOf (skid p 1)) (skid p 1).pos] (.Call (.Name f (kid (skid p 0) 0).pos) [pE a (kid (skid p 0) 1),pE b (kid (skid p 0) 2),pLam lam (kid (skid p 0) 3)] [] (skid p 0).pos) p.pos
noncomputable def pXs:Xms→List Stmt→List Stmt
 | .nil,_=>[]
 | .cons s ss,ps=>pX s (ps.headD default) :: pXs ss ps.tail
end
noncomputable def locN (g:Gm) (x:Str):Bool:=decide (g.sc.names.lookup x = some .local) && Z11 x
mutual
noncomputable def okX (g:Gm):Xm→Stmt→Bool
 | .pl s,p=>okS g s p
 | .ifte c t f,p=>okE g c (skid p 0) && (okXs g t (blk p) && okXs g f (els p))
 | .raise m,p=>g.gl Z1q && okEs g (.cons (.str m) .nil) [kid (rx p) 1]
 | .call f es,p=>okE g (.call f es) (skid p 0)
 | .asgT is f es,p=>okS g (.asgT is (.call f es)) p
 | .try1 i f es,p=>g.gl Z1q && okS g (.asg i (.call f es)) (tb p)
 | .try2 i f es,p=>((g.gl Z7O && g.gl Z1q) && ((g.gl (Str.ofString "NoPattern") && g.gl (Str.ofString "TooMany")) && (g.gl (Str.ofString "TooGreat") && (g.gl (Str.ofString "ValueError") && g.gl (Str.ofString "isinstance"))))) && (((locN g (Z2N p).nm && locN g (nmOf (skid (hb p 0) 1))) && (locN g (nmOf (skid (tb p) 1)) && !((Z2N p).nm == nmOf (skid (hb p 0) 1)))) && okS g (.asg i (.call f es)) (tb p))
 | .asgL i f a b lam caps pl,p=>((g.lv (nmOf (skid p 1)) i && g.gl f) && decide (((kid (skid p 0) 3).pos.line,(kid (skid p 0) 3).pos.col) = pl)) && ((okE g a (kid (skid p 0) 1) && okE g b (kid (skid p 0) 2)) && Zam g caps lam (Z3y (kid (skid p 0) 3)))
noncomputable def okXs (g:Gm):Xms→List Stmt→Bool
 | .nil,_=>true
 | .cons s ss,ps=>okX g s (ps.headD default) && okXs g ss ps.tail
end
structure GoodX (W:Wo) (C:Addr) (G:Fn) (L:Lf) (c:Cx) (g:Gm):Prop where
 good:Good W c g
 call:Z6f W.n c.prog c.w c.base W.mg C G
 exc:ExcX c.base W.mg C
 lam:Zaq W.n c.prog c.w c.base W.mg c.env.code L
 fr:∃ outer,c.A.frames = some (c.env :: outer)∧c.env.frame = some c.env.locals
noncomputable def XOk (W:Wo) (C:Addr) (G:Fn) (L:Lf) (K:Nat) (x:Xm):Prop:=∀ (g:Gm) (p:Stmt) (c:Cx) (st:St) (μ:List Addr) (s:Shared),okX g x p = true→GoodX W C G L c g→FrOk c.A c.base st.σ μ s.heap→Inv c st μ s.heap→SimC C c (exec (pX x p) c.env) (evX W.F G L K x st) rFl st.σ μ s
noncomputable def XsOk (W:Wo) (C:Addr) (G:Fn) (L:Lf) (K:Nat) (x:Xms):Prop:=∀ (g:Gm) (p:List Stmt) (c:Cx) (st:St) (μ:List Addr) (s:Shared),okXs g x p = true→GoodX W C G L c g→FrOk c.A c.base st.σ μ s.heap→Inv c st μ s.heap→SimC C c (execs (pXs x p) c.env) (evXs W.F G L K x st) rFl st.σ μ s
theorem allS {W:Wo} {K:Nat} (x:Sm):SOk W K x :=
 Sm.casesOn (motive_1:=fun s=>SOk W K s) x (fun _ e=>Z8R e) (fun _ e=>Z73 (allE e).1) (fun e=>Z6Y (allE e).1) (fun e=>Z8G (allE e).1) (fun c t f=>Z6X (allE c) (Z7K t) (Z7K f)) (fun _ it b=>Z71 (allI it) (Z7K b)) (fun _ it b=>Z76 (allZ it) (Z7K b)) (fun c b=>Z5r (allE c) (Z7K b)) Z8F (fun _ _ _ _ _ _ _ _ _=>trivial)
  (fun a i e=>Z78 (allE a).1 (allE i).1 (allE e).1)
section
variable {W:Wo} {C:Addr} {G:Fn} {L:Lf} {K:Nat}
theorem SimC.lift0 {α β:Type} {c:Cx} {t:Sem α} {m:R β} {rel:St→List Addr→Heap→α→β→Prop} {σ:List O} {μ:List Addr} {s:Shared} (hc:∀ x st,m ≠ .exc x st) (h:Sim c t m rel σ μ s):SimC C c t m rel σ μ s:=by
 have:=h.toC (C:=C)
 cases m with
 | stuck=>trivial
 | exc x st=>exact absurd rfl (hc x st)
 | ok b st=>exact this
theorem x_pl {s:Sm}:XOk W C G L K (.pl s):=fun g p c st μ s' hk hg Fr I=>(allS s g p c st μ s' hk hg.good I).toC
theorem ZdE:XsOk W C G L K .nil:=fun _ _ _ _ _ _ _ _ _ I=>SimC.pure I trivial
theorem Zda {x:Xm} {xs:Xms} (hx:XOk W C G L K x) (hxs:XsOk W C G L K xs):XsOk W C G L K (.cons x xs):=fun g p c st μ s hk hg Fr I=>
 SimC.of_eq (execs_cons ..) (SimC.bind (hx g _ c st μ s (and2 hk).1 hg Fr I) fun fl st₁ f μ₁ s₁ _ rf I₁ S₁=>
  rFl_elim (P:=fun f fl=>SimC C c (match f with | .next=>execs (pXs xs p.tail) c.env | f=>pure f) (match fl with | .next=>evXs W.F G L K xs st₁ | f=>.ok f st₁) rFl st₁.σ μ₁ s₁) rf (hxs g _ c st₁ μ₁ s₁ (and2 hk).2 hg (Fr.step I₁ S₁) I₁) (SimC.pure I₁ trivial) (SimC.pure I₁ trivial) fun v y r=>SimC.pure I₁ r)
theorem Zdb {d:Ex} {a b:Xms} (ha:XsOk W C G L K a) (hb:XsOk W C G L K b):XOk W C G L K (.ifte d a b):=fun g p c st μ s hk hg Fr I=>
 SimC.of_eq (exec_If ..) (SimC.at (SimC.bind (Sim.toC ((allE d).2 g _ c st μ s (and2 hk).1 hg.good I)) fun t st₁ t' μ₁ s₁ _ (rt:t' = t) I₁ S₁=>by
  rw [rt]
  cases t with
  | true=>exact ha g _ c st₁ μ₁ s₁ (and2 (and2 hk).2).1 hg (Fr.step I₁ S₁) I₁
  | false=>exact hb g _ c st₁ μ₁ s₁ (and2 (and2 hk).2).2 hg (Fr.step I₁ S₁) I₁))
theorem Zdc {f:Str} {es:Exs}:XOk W C G L K (.call f es):=fun g p c st μ s hk hg Fr I=>
 SimC.of_eq (exec_Expr _ _ _ (Z1F hg.good.nm) (Z1w rfl)) (SimC.at (SimC.bind (Z3A (allX.2.1 es).1 hg.call hk hg.good I Fr) fun y st₁ u μ₁ s₁ _ rx I₁ S₁=>
  SimC.lift0 (fun _ _ e=>by cases e) (Sim.leaf I₁ (wpAny_dropValue ⟨.refl,.refl,trivial⟩))))
theorem Zdd {is:List Nat} {f:Str} {es:Exs}:XOk W C G L K (.asgT is f es):=fun g p c st μ s hk hg Fr I=>by
 have h1:=Z3A (allX.2.1 es).1 hg.call (and2 hk).2 hg.good I Fr
 have q:=Zb5 (and2 (and2 hk).1).2 (pT is (kids (skid p 1))) (kOf (skid p 1)) (skid p 1).pos p.pos.line c.env
 show SimC C c _ (((evEs W.F es st).cut.bind fun xs st=>Z0q (G f xs st.σ) st.ρ).bind fun x st=>((asT is x st).bind fun _ st=>R.ok Fl.next st).cut) _ _ _ _
 cases hm:(evEs W.F es st).cut.bind fun xs st=>Z0q (G f xs st.σ) st.ρ with
 | stuck=>trivial
 | exc x st₁=>
  rw [hm] at h1
  exact Assign_Tuple (wpAny_mono h1 (fun _ _ e=>e.elim) fun _ _ e=>e) q.1 q.2
 | ok x st₁=>
  rw [hm] at h1
  rw [R.bind_ok]
  cases hA:asT is x st₁ with
  | stuck=>trivial
  | exc _ _=>trivial
  | ok u st₂=>
   refine Assign_Tuple (wpAny_mono h1 (fun a s₁ q8=>El.x1_4 q8 fun μ₁ rx I₁ S₁ Q₁=>?_) fun _ _ e=>e) q.1 q.2
   have ha:=Z1L hg.good (and2 (and2 hk).1).1 (kk:=kOf (skid p 1)) (tp:=(skid p 1).pos) rx I₁
   rw [hA] at ha
   exact wpAny_mono ha (fun _ s₂ q8=>El.x1_4 q8 fun μ₂ _ I₂ S₂ Q₂=>⟨μ₂,trivial,I₂,S₁.trans S₂.toC,Q₁.trans Q₂⟩) fun _ _ e=>e
theorem Zcg {m:Str}:XOk W C G L K (.raise m):=fun g p c st μ s hk hg Fr I=>by
 obtain ⟨R,hCC,hR,_⟩:=hg.exc.obj
 have hT:=hR.tail
 obtain ⟨nm,q,N,bs,hdct,sn,sub,ab,col,dd,k0,k1,k2,k3,k5,mN,hC,hN,hni⟩:=hCC
 refine Z04 (wpAny_Raise_call_subT PySem.F.excBase_ValueError (C:=C) (mN:=mN) (bm:=.ref R :: vbm) (nm:=nm) (q:=q) (N:=N) (bs:=bs) (hdct:=hdct) (sn:=sn) (sub:=sub) (ab:=ab) (col:=col) (dd:=dd) (k0:=k0) (k1:=k1) (k2:=k2) (k3:=k3) (k5:=k5) (by rw [List.contains_cons]; rfl) hg.good.hh (by rfl) hni (Z1d hg.good I (and2 hk).1 hg.exc.c ⟨rfl,?_⟩))
 refine Z18 (Z0c (.str m) _) ?_
 rw [Z0c]
 refine spliced_cons ?_
 show wpAny _ _ (eval (.Constant (.str m) (kOf (kid (rx p) 1)) (kid (rx p) 1).pos) c.env) _ _ _
 refine wpAny_Constant_str (spliced_nil ?_)
 exact ⟨rfl,(by decide:1 ≤ sizeLine),I.base _ _ hC,hN.keeps I.base,hT.keeps I.base,fun h' e hm hz=>⟨μ,s.heap,I,.refl,⟨rfl,rfl,rfl⟩,.inl ⟨e,_,rfl,hm,hz⟩⟩⟩
end
structure XDef where
 name:Str
 params:List Str
 locals:List Str
 slots:Nat
 body:Xms
noncomputable def runX (F G:Fn) (L:Lf) (K:Nat) (d:XDef) (args:List V) (σ:List O):R V :=
 if args.length = d.params.length then (match evXs F G L K d.body ⟨args.map some++List.replicate (d.slots - args.length) none,σ⟩ with
  | .ok fl st=>if fl.val.lo σ.length && (st.σ.take σ.length).all (O.lo σ.length) then .ok fl.val ⟨[],st.σ.take σ.length⟩ else .ok fl.val ⟨[],st.σ⟩
  | .exc x st=>if (st.σ.take σ.length).all (O.lo σ.length) then .exc x ⟨[],st.σ.take σ.length⟩ else .exc x ⟨[],st.σ⟩
  | .stuck=>.stuck)
 else .stuck
theorem Inv.cutAt {c:Cx} {σ:List O} {μ:List Addr} {h:Heap} {n:Nat} (I:Inv c.bare ⟨[],σ⟩ μ h) (hf:(σ.take n).all (O.lo n) = true) :
  Inv c.bare ⟨[],σ.take n⟩ (μ.take n) h∧(∀ b,Tr (σ.take n) (μ.take n) b→Tr σ μ b)∧∀ {v:Value} {r:V},r.lo n = true→RepV (Tr σ μ) μ h v r→RepV (Tr (σ.take n) (μ.take n)) (μ.take n) h v r:=by
 have sub:∀ b,Tr (σ.take n) (μ.take n) b→Tr σ μ b:=by
  intro b q11z
  refine El.x2_3 q11z fun k o e1 e2 e3=>?_
  rw [List.getElem?_take] at e1 e3
  split at e1
  ·rename_i hk
   rw [if_pos hk] at e3
   exact ⟨k,o,e1,e2,e3⟩
  ·cases e1
 refine ⟨⟨fun i x q=>by simp at q,fun i s q=>(by cases q),fun k o q=>?_,?_,I.nd.sublist (List.take_sublist _ _),fun a q=>I.lt a (List.mem_of_mem_take q),I.base,fun b q=>(Z07 q).elim,fun a q=>I.baseM a (List.mem_of_mem_take q),fun b q=>(Z07 q).elim,fun o q=>trivial⟩,sub,fun hr rv=>Z7a sub rv hr⟩
 ·dsimp only at q ⊢
  have hof:o.lo n = true:=List.all_eq_true.mp hf o (List.mem_of_getElem? q)
  rw [List.getElem?_take] at q
  split at q
  ·rename_i hk
   refine El.x1_2 (I.objs k o q) fun a ha ro=>?_
   refine ⟨a,by rw [List.getElem?_take,if_pos hk]; exact ha,?_⟩
   cases ro with
   | dead=>exact .dead
   | priv=>exact .priv
   | live ho L r=>exact .live ho L (Z6d sub (by cases L <;> exact hof) r)
  ·cases q
 ·have:=I.len
  simp at this ⊢
  lia
theorem StpC.cutAt {c:Cx} {σ₀ σ:List O} {μ₀ μ:List Addr} {h₀ h:Heap} (S:StpC c σ₀ μ₀ h₀ σ μ h) (hl:μ₀.length = σ₀.length) (sub:∀ b,Tr (σ.take σ₀.length) (μ.take σ₀.length) b→Tr σ μ b):StpC c σ₀ μ₀ h₀ (σ.take σ₀.length) (μ.take σ₀.length) h :=
 ⟨S.size,S.keep,S.fr,fun n a e=>by
  have hk:n < σ₀.length:=by rw [← hl]; exact (List.getElem?_eq_some_iff.mp e).1
  rw [List.getElem?_take,if_pos hk]
  exact S.pre n a e,fun b q=>S.tr b (sub b q),fun a q=>S.new a (List.mem_of_mem_take q)⟩
theorem Z5D {B h:Heap}:∀ {l:List Env},(∀ env ∈ l,env.scope.kind ≠ .module∧∃ L o,env.frame = some L∧h.get? L = some o∧DC o)→(∀ b ∈ l.filterMap (·.frame),B.get? b = none)→h.FunFrames B l
 | [],_,_=>trivial
 | env :: l,h1,h2=>by
  obtain ⟨k,L,o,e1,e2,e3⟩:=h1 env List.mem_cons_self
  refine ⟨k,⟨L,o,e1,h2 L (by rw [List.filterMap_cons,e1]; exact List.mem_cons_self),e2,e3.not_fields⟩,Z5D (fun e he=>h1 e (List.mem_cons_of_mem _ he)) fun b hb=>h2 b ?_⟩
  rw [List.filterMap_cons,e1]; exact List.mem_cons_of_mem _ hb
theorem Z3B {A:Around} {l:List Env} (h:A.frames = some l) {b:Addr}:FrA A b↔b ∈ l.filterMap (·.frame):=by
 constructor
 ·rintro ⟨l',h',env,he,hb⟩
  cases h.symm.trans h'
  exact List.mem_filterMap.mpr ⟨env,he,hb⟩
 ·intro q
  obtain ⟨env,he,hb⟩:=List.mem_filterMap.mp q
  exact ⟨l,h,env,he,hb⟩
section
variable {prog:Program} {w:World} {base:Heap} {mg mb:Str→Option Value} {K:Nat} {C:Addr}
theorem Zch {c c':Cx} {lf:List Env} {st:St} {μ:List Addr} {h:Heap} {s:Shared} {e:Value} {n₀ n₁:Nat} {Q:Unit→Shared→Prop} {E:Value→Shared→Prop} (hlf:c.A.frames = some lf) (q4:c'.A = c.A.deeper c'.env) (hfr:c'.env.frame = some c'.env.locals) (q3:c'.base = c.base) (F:FrOk c'.A c'.base st.σ μ h) (r:Rais C c'.A c'.base n₁ st.σ μ h s.heap e) (h1:n₀ ≤ n₁) (h2:n₀ ≤ c'.env.locals)
  (hQ:∀ h',Flies C c.A c.base n₀ st.σ μ h h' e→Q () { s with heap:=h' }):wpAny (model c.prog c.w) c'.A (leaving c'.env e) Q E s:=by
 have hf':c'.A.frames = some (c'.env :: lf):=by rw [q4]; exact Around.frames_deeper hlf
 have hG:∀ b,b = c'.env.locals→n₀ ≤ b∧∃ o,h.get? b = some o∧DC o∧¬ Tr st.σ μ b∧c.base.get? b = none:=by
  rintro b rfl
  obtain ⟨_,L,o,k1,k2,k3,k4,k5,_⟩:=F _ hf' c'.env List.mem_cons_self
  cases hfr.symm.trans k1
  exact ⟨h2,o,k2,k3,k4,q3 ▸ k5⟩
 have fr1:∀ b,¬ FrA c.A b→b ≠ c'.env.locals→¬ FrA c'.A b:=fun b n1 n2 q=>by
  rw [Z3B hf',List.filterMap_cons,hfr] at q
  rcases List.mem_cons.mp q with q | q
  ·exact n2 q
  ·exact n1 ((Z3B hlf).mpr q)
 rcases r with ⟨ea,vs,rfl,hx,hsz⟩ | ⟨⟨ea,l,B,a0,G,rfl,hl,hfl,hup,hg,hcov⟩,hsz⟩
 ·refine Z04 (wpAny_leaves_madeW (base:=hideAll h ((c'.env :: lf).filterMap (·.frame))) hf' hfr (fun b o e=>of_hideAll _ e) (Z5D (fun env he=>let ⟨k,L,o,k1,k2,k3,_⟩:=F _ hf' env he; ⟨k,L,o,k1,k2,k3⟩) fun b hb=>hideAll_none _ hb) hx fun h' t f1 f2 f3 f4 hz=>hQ h' ⟨⟨ea,lf,_,.ref t,(· = c'.env.locals),rfl,hlf,f1,(Heap.UpToSlots.of_keeps hx.keeps).trans f4,hG,fun b o e n1 n2=>hideAll_get _ e fun q=>fr1 b n1 n2 ((Z3B hf').mpr q)⟩,Nat.le_trans hsz hz⟩)
 ·cases hl.symm.trans hf'
  refine Z04 (wpAny_leaves_onW hf' hfr hfl fun h' f1 f4 hz=>hQ h' ⟨⟨ea,lf,B,a0,fun b=>b = c'.env.locals ∨ G b,rfl,hlf,f1,hup.trans f4,fun b q=>q.elim (hG b) fun q=>⟨Nat.le_trans h1 (hg b q).1,q3 ▸ (hg b q).2⟩,fun b o e n1 n2=>hcov b o e (fr1 b n1 fun q=>n2 (.inl q)) fun q=>n2 (.inr q)⟩,Nat.le_trans hsz hz⟩)
theorem Z8W {F G:Fn} {L:Lf} (W:Wd prog w base mg mb) {n:Nat} (ih:FnOk n prog w base mg F) (ihG:Z6f n prog w base mg C G) (hX:ExcX base mg C) {d:XDef} {rc:DefRec} {a:Addr} {code:Value} (hall:XsOk ⟨n,mg,mb,F⟩ C G L K d.body) (hd:hdOk d.name d.params d.locals rc = true) (ok:okXs (gmOf d.locals rc.scope) d.body rc.body = true) (eq:pXs d.body rc.body = rc.body) (hf:FnAt base mg d.name rc a code) (hL:Zaq n prog w base mg code L) {args:List V} {σ:List O} {c:Cx} {μ:List Addr} {s:Shared} {vs:List Value} (hT:Zcd base μ code) (e1:c.prog = prog) (e2:c.w = w) (e3:c.base = base) (hA:AOk (n + 1) c.A) (Fr:FrOk c.A c.base σ μ s.heap) (I:Inv c.bare ⟨[],σ⟩ μ s.heap) (rvs:RepVs (Tr σ μ) μ s.heap vs args) :
  Zba C c μ s (.ref a) vs σ (runX F G L K d args σ):=by
 unfold runX
 by_cases hlen:args.length = d.params.length
 case neg=>rw [if_neg hlen]; trivial
 rw [if_pos hlen]
 obtain ⟨lf,hlf⟩:=hA.frames
 have key:∀ {Q E:Value→Shared→Prop},(∀ (c':Cx) (s₁:Shared),c'.prog = c.prog→c'.w = c.w→c'.base = c.base→c'.A = c.A.deeper c'.env→c'.env.frame = some c'.env.locals→SimC C c' (execs rc.body c'.env) (evXs F G L K d.body ⟨args.map some++List.replicate (d.slots - args.length) none,σ⟩) rFl σ μ s₁→Ext s.heap s₁.heap→(∀ b,Own c' b→s.heap.objs.size ≤ b)→s.heap.objs.size ≤ c'.env.locals→Same s s₁→FrOk c'.A c'.base σ μ s₁.heap →
   wpAny (model c.prog c.w) c'.A (execs rc.body c'.env) (fun fl s'=>Q (flV fl) s') (fun e s'=>wpAny (model c.prog c.w) c'.A (leaving c'.env e) (fun _ s''=>E e s'') (fun e' s''=>E e' s'') s') s₁)→wpAny (model c.prog c.w) c.A (call (.ref a) vs) Q E s:=by
  intro Q E hb
  refine Z5A (slots:=d.slots) W ih (Z8T hd) hf hlen e1 e2 e3 hA I rvs fun c' s₁ q1 q2 q3 q4 q5 q6 hG I₁ XE ownGe hns Q₁=>?_
  have F₁:FrOk c'.A c'.base σ μ s₁.heap:=fun l hl env he=>by
   rw [q4,Around.frames_deeper hlf] at hl
   cases hl
   rcases List.mem_cons.mp he with rfl | he
   ·obtain ⟨m,o,es,ep,ho,hdd,_⟩:=hns.2
    refine ⟨(by rw [hG.nm.sc,hG.nm.kind]; intro e; cases e),_,o,q5,ho,.inl ⟨es,ep,hdd⟩,fun t=>Nat.lt_irrefl _ (Nat.lt_of_lt_of_le (I.lt _ t.mem) hns.1),?_,(by rw [q3,e3,q6]; exact hT)⟩
    cases hq:c'.base.get? c'.env.locals with
    | none=>rfl
    | some ob=>exact absurd (Nat.lt_of_lt_of_le (Heap.lt_size (I.base _ ob (q3 ▸ hq))) hns.1) (Nat.lt_irrefl _)
   ·obtain ⟨k,L',o,k1,k2,k3,k4,k5,k6⟩:=Fr lf hlf env he
    exact ⟨k,L',o,k1,XE.2 _ _ k2,k3,k4,q3 ▸ k5,q3 ▸ k6⟩
  have hS:=hall (gmOf d.locals rc.scope) rc.body c' _ μ s₁ ok ⟨hG,by rw [q1,q2,q3,e1,e2,e3]; exact ihG,by rw [q3,e3]; exact hX,by rw [q1,q2,q3,q6,e1,e2,e3]; exact hL,lf,by rw [q4]; exact Around.frames_deeper hlf,q5⟩ F₁ I₁
  rw [eq] at hS
  exact hb c' s₁ q1 q2 q3 q4 q5 hS XE ownGe hns.1 Q₁ F₁
 have out:∀ {c':Cx} {s₁:Shared} {st:St} {μ':List Addr} {h':Heap},c'.base = c.base→c'.A = c.A.deeper c'.env→c'.env.frame = some c'.env.locals→Ext s.heap s₁.heap→(∀ b,Own c' b→s.heap.objs.size ≤ b)→s.heap.objs.size ≤ c'.env.locals→Inv c' st μ' h'→StpC c' σ μ s₁.heap st.σ μ' h'→Inv c.bare ⟨[],st.σ⟩ μ' h'∧StpC c.bare σ μ s.heap st.σ μ' h':=by
  intro c' s₁ st μ' h' q3 q4 q5 XE ownGe hge I' S'
  have lt:∀ b o,s.heap.get? b = some o→b < s.heap.objs.size:=fun b o e=>Heap.lt_size e
  have hfr':c'.A.frames = some (c'.env :: lf):=by rw [q4]; exact Around.frames_deeper hlf
  refine ⟨⟨fun i x q=>by simp at q,fun i sl q=>(by cases q),I'.objs,I'.len,I'.nd,I'.lt,fun b o e=>I'.base b o (by rw [q3]; exact e),fun b q=>(Z07 q).elim,fun a e=>(by have:=I'.baseM a e; rw [q3] at this; exact this),fun b q=>(Z07 q).elim,fun _ _=>trivial⟩,
   ⟨Nat.le_trans XE.1 S'.size,fun b o e _ hT hF=>S'.keep b o (XE.2 b o e) (fun q=>Nat.lt_irrefl _ (Nat.lt_of_lt_of_le (lt b o e) (ownGe b q))) hT fun q=>?_,fun b o e _ hT=>S'.fr b o (XE.2 b o e) (fun q=>Nat.lt_irrefl _ (Nat.lt_of_lt_of_le (lt b o e) (ownGe b q))) hT,S'.pre,fun b q=>(S'.tr b q).imp id fun q=>Nat.le_trans XE.1 q,fun a q=>(S'.new a q).imp id fun q=>Nat.le_trans XE.1 q⟩⟩
  rw [Z3B hfr',List.filterMap_cons,q5] at q
  rcases List.mem_cons.mp q with q | q
  ·exact Nat.lt_irrefl _ (Nat.lt_of_lt_of_le (lt b o e) (q ▸ hge))
  ·exact hF ((Z3B hlf).mpr q)
 cases hB:evXs F G L K d.body ⟨args.map some++List.replicate (d.slots - args.length) none,σ⟩ with
 | stuck=>trivial
 | ok fl stF=>
  dsimp only
  have fin:∀ (r:V) (st':St),(if fl.val.lo σ.length && (stF.σ.take σ.length).all (O.lo σ.length) then R.ok fl.val ⟨[],stF.σ.take σ.length⟩ else R.ok fl.val ⟨[],stF.σ⟩) = .ok r st' →
    wpAny (model c.prog c.w) c.A (call (.ref a) vs) (fun v s'=>∃ μ',RepV (Tr st'.σ μ') μ' s'.heap v r∧Inv c.bare ⟨[],st'.σ⟩ μ' s'.heap∧StpC c.bare σ μ s.heap st'.σ μ' s'.heap∧Same s s') (fun _ _=>False) s:=by
   intro r st' h
   refine key fun c' s₁ q1 q2 q3 q4 q5 hS XE ownGe hge Q₁ F₁=>?_
   rw [hB,SimC,q1,q2] at hS
   refine wpAny_mono hS (fun fw s' q8=>El.x1_4 q8 fun μ' rf I' S' Q'=>?_) fun _ _ e=>e.elim
   obtain ⟨Ib,Sb⟩:=out q3 q4 q5 XE ownGe hge I' S'
   have rv:=Z8U rf
   split at h
   ·rename_i hfree
    simp only [Bool.and_eq_true] at hfree
    cases h
    obtain ⟨I₂,sub,rr⟩:=Ib.cutAt hfree.2
    exact ⟨_,rr hfree.1 rv,I₂,Sb.cutAt I.len sub,Q₁.trans Q'⟩
   ·cases h
    exact ⟨_,rv,Ib,Sb,Q₁.trans Q'⟩
  cases hR:(if fl.val.lo σ.length && (stF.σ.take σ.length).all (O.lo σ.length) then R.ok fl.val ⟨[],stF.σ.take σ.length⟩ else R.ok fl.val ⟨[],stF.σ⟩:R V) with
  | stuck=>trivial
  | exc x st'=>split at hR <;> cases hR
  | ok r st'=>exact fin r st' hR
 | exc x stF=>
  dsimp only
  have fin:∀ (y:Str) (st':St),(if (stF.σ.take σ.length).all (O.lo σ.length) then R.exc x ⟨[],stF.σ.take σ.length⟩ else R.exc x ⟨[],stF.σ⟩:R V) = .exc y st' →
    wpAny (model c.prog c.w) c.A (call (.ref a) vs) (fun _ _=>False) (fun e s'=>∃ μ' h',Inv c.bare ⟨[],st'.σ⟩ μ' h'∧StpC c.bare σ μ s.heap st'.σ μ' h'∧Same s s'∧Flies C c.A c.base s.heap.objs.size st'.σ μ' h' s'.heap e) s:=by
   intro y st' h
   refine key fun c' s₁ q1 q2 q3 q4 q5 hS XE ownGe hge Q₁ F₁=>?_
   rw [hB,SimC,q1,q2] at hS
   refine wpAny_mono hS (fun _ _ e=>e.elim) fun e s' ⟨μ',h',I',S',Q',r⟩=>?_
   obtain ⟨Ib,Sb⟩:=out q3 q4 q5 XE ownGe hge I' S'
   refine Zch (c:=c) (n₀:=s.heap.objs.size) hlf q4 q5 q3 (F₁.step I' S') r XE.1 hge fun h'' fl=>?_
   split at h
   ·rename_i hfree
    cases h
    obtain ⟨I₂,sub,rr⟩:=Ib.cutAt hfree
    obtain ⟨⟨ea,l,B,a0,G',h1,h2,h3,h4,h5,h6⟩,hz⟩:=fl
    exact ⟨_,h',I₂,Sb.cutAt I.len sub,Q₁.trans Q',⟨ea,l,B,a0,G',h1,h2,h3,h4,fun b q=>let ⟨k1,o,k2,k3,k4,k5⟩:=h5 b q; ⟨k1,o,k2,k3,fun t=>k4 (sub b t),k5⟩,h6⟩,hz⟩
   ·cases h
    exact ⟨_,h',Ib,Sb,Q₁.trans Q',fl⟩
  cases hR:(if (stF.σ.take σ.length).all (O.lo σ.length) then R.exc x ⟨[],stF.σ.take σ.length⟩ else R.exc x ⟨[],stF.σ⟩:R V) with
  | stuck=>trivial
  | ok r st'=>split at hR <;> cases hR
  | exc y st'=>exact fin y st' hR
end
section
variable {W:Wo} {C:Addr} {G:Fn} {L:Lf} {K:Nat}
theorem Z0X {c:Cx} {g:Gm} {A:Around} {s:Shared} {x:Str} {pos:Pos} {v:Value} (hg:Good W c g) (hb:∀ b o,c.base.get? b = some o→s.heap.get? b = some o) (hx:g.gl x = true) (hv:W.mg x = some v)
  {Q:Value→Shared→Prop} {E:Value→Shared→Prop} (h:Q v s):wpAny (model c.prog c.w) A (eval (.Name x pos) c.env) Q E s:=by
 refine El.x0_2 (Z4G hx) fun h1 h2=>?_
 have hk:c.env.scope.kind = .function:=by rw [hg.nm.sc]; exact hg.nm.kind
 exact Name_function_global hk (by unfold Env.kindOf; rw [hg.nm.sc]; exact h1) (loadGlobal_global (mg:=W.mg) (by rw [hg.nm.glob]; exact hg.gd.g.keeps hb) hv h) h2
variable {c:Cx} {st st₀:St} {μ μ₀:List Addr} {h h₀ h':Heap} {e:Value} {n₀:Nat}
theorem Flies.base (fl:Flies C c.A c.base n₀ st.σ μ h h' e) (I:Inv c st μ h) (F:FrOk c.A c.base st.σ μ h):∀ b o,c.base.get? b = some o→h'.get? b = some o:=fun b o q=>by
 obtain ⟨⟨ea,l,B,a0,G,h1,h2,h3,h4,h5,h6⟩,hz⟩:=fl
 refine h3.1 b o (h6 b o (I.base b o q) (fun f=>?_) fun g=>?_)
 ·obtain ⟨_,_,_,_,k⟩:=F.at f; rw [k] at q; cases q
 ·obtain ⟨_,_,_,_,_,k⟩:=h5 b g; rw [k] at q; cases q
theorem Flies.obj (fl:Flies C c.A c.base n₀ st.σ μ h h' e):∃ ea oe,e = .ref ea∧h'.get? ea = some oe∧oe.cls = .ref C:=by
 obtain ⟨⟨ea,l,B,a0,G,h1,h2,h3,h4,h5,h6⟩,hz⟩:=fl
 obtain ⟨oe,k1,k2⟩:=h3.there
 exact ⟨ea,oe,h1,k1,k2⟩
theorem Flies.caught (fl:Flies C c.A c.base h₀.objs.size st.σ μ h h' e) (I₀:Inv c st₀ μ₀ h₀) (S:StpC c st₀.σ μ₀ h₀ st.σ μ h) (I:Inv c st μ h) (F:FrOk c.A c.base st.σ μ h):Inv c st μ h'∧StpC c st₀.σ μ₀ h₀ st.σ μ h':=by
 have hb:=fl.base I F
 obtain ⟨⟨ea,l,B,a0,G,h1,h2,h3,h4,h5,h6⟩,hz⟩:=fl
 have kp:∀ b o,h.get? b = some o→¬ FrA c.A b→¬ G b→h'.get? b = some o:=fun b o q n1 n2=>h3.1 b o (h6 b o q n1 n2)
 have kst:∀ b o,h.get? b = some o→Z2k o→h'.get? b = some o:=fun b o q hs=>kp b o q (fun f=>by obtain ⟨o',q',d,_⟩:=F.at f; cases q.symm.trans q'; exact d.not_still hs) fun g=>by obtain ⟨_,o',q',d,_⟩:=h5 b g; cases q.symm.trans q'; exact d.not_still hs
 have up:∀ b,Own c b→∀ o,h.get? b = some o→∃ sl,h'.get? b = some { o with slots:=sl }:=fun b q o e=>h4 b o e fun vs k=>by
  obtain ⟨i,s,hs,rfl⟩:=q
  obtain ⟨o',q',d⟩:=(I.slots i s hs).get
  cases e.symm.trans q'
  rcases d with ⟨es,m,d⟩ | ⟨v,d⟩ <;> rw [d] at k <;> cases k
 have mv:∀ {v:Value} {x:V},RepV (Tr st.σ μ) μ h v x→RepV (Tr st.σ μ) μ h' v x:=fun r=>r.move (fun a o q hs hT=>⟨kst a o q hs,hT⟩) fun _ _ q=>q
 have mvs:∀ {v:List Value} {x:List V},RepVs (Tr st.σ μ) μ h v x→RepVs (Tr st.σ μ) μ h' v x:=fun r=>r.move (fun a o q hs hT=>⟨kst a o q hs,hT⟩) fun _ _ q=>q
 have ktr:∀ b o,h.get? b = some o→Tr st.σ μ b→h'.get? b = some o:=fun b o q t=>kp b o q (fun f=>by obtain ⟨_,_,_,n,_⟩:=F.at f; exact n t) fun g=>by obtain ⟨_,_,_,_,n,_⟩:=h5 b g; exact n t
 have own0:∀ b o,h₀.get? b = some o→¬ G b:=fun b o q g=>Nat.lt_irrefl _ (Nat.lt_of_lt_of_le (Heap.lt_size q) (h5 b g).1)
 refine ⟨⟨fun i x q=>?_,fun i s q=>(I.slots i s q).up (up _ ⟨i,s,q,rfl⟩),fun n o q=>?_,I.len,I.nd,fun a q=>Nat.lt_of_lt_of_le (I.lt a q) hz,hb,I.baseS,I.baseM,I.sep,I.kd⟩,
  ⟨Nat.le_trans S.size hz,fun b o q n1 n2 n3=>kp b o (S.keep b o q n1 n2 n3) n3 (own0 b o q),fun b o q n1 n2=>?_,S.pre,S.tr,S.new⟩⟩
 ·obtain ⟨s,v,k1,k2,k3⟩:=I.vars i x q
  exact ⟨s,v,k1,k2.up (up _ ⟨i,s,k1,rfl⟩),mv k3⟩
 ·obtain ⟨a,ha,ro⟩:=I.objs n o q
  refine ⟨a,ha,?_⟩
  by_cases hl:o.live = true
  ·exact ro.map (fun ob ho=>ktr a ob ho ⟨n,o,q,hl,ha⟩) fun _ _ r=>mvs r
  ·cases o <;> first | exact .dead | exact absurd rfl hl
 ·obtain ⟨sl,k⟩:=S.fr b o q n1 n2
  by_cases hf:FrA c.A b
  ·obtain ⟨o',q',d,_⟩:=F.at hf
   cases k.symm.trans q'
   obtain ⟨sl',k'⟩:=h4 b _ k d.not_fields
   exact ⟨sl',k'⟩
  ·exact ⟨sl,kp b _ k hf (own0 b o q)⟩
theorem Zas {g:Gm} (hg:GoodX W C G L c g) {s:Shared} {hs:List ExceptHandler} {Q:Flow→Shared→Prop} {E:Value→Shared→Prop} (fl:Flies C c.A c.base n₀ st.σ μ h s.heap e)
  (k:∀ h₃,Flies C c.A c.base n₀ st.σ μ h h₃ e→wpAny (model c.prog c.w) c.A (handleBy e c.env hs) Q E { s with heap:=h₃ }) :
  wpAny (model c.prog c.w) c.A (noteFrame e c.env) (fun _ s₂=>wpAny (model c.prog c.w) c.A (setFlight e none) (fun _ s₃=>wpAny (model c.prog c.w) c.A (handleBy e c.env hs) Q E s₃) E s₂) E s:=by
 obtain ⟨⟨ea,l,B,a0,G',rfl,h2,h3,h4,h5,h6⟩,hz⟩:=fl
 obtain ⟨outer,hf,hl⟩:=hg.fr
 cases h2.symm.trans hf
 exact Z04 (wpAny_looks_onW hf hl h3 fun g₂ held up2 hz2=>Z04 (wpAny_landsW held fun g₃ fl3 up3 hz3=>k g₃ ⟨⟨ea,_,B,a0,G',rfl,h2,fl3,(h4.trans up2).trans up3,h5,h6⟩,Nat.le_trans hz (Nat.le_trans hz2 hz3)⟩))
theorem Z4l {A:Around} {s:Shared} {Q:Unit→Shared→Prop} {E:Value→Shared→Prop} (fl:Flies C c.A c.base n₀ st.σ μ h s.heap e) (k:∀ h₃,Flies C c.A c.base n₀ st.σ μ h h₃ e→Q () { s with heap:=h₃ }):wpAny (model c.prog c.w) A (setFlight e none) Q E s:=by
 obtain ⟨⟨ea,l,B,a0,G',rfl,h2,h3,h4,h5,h6⟩,hz⟩:=fl
 exact Z04 (lands_againW h3 fun g₃ fl3 up3 hz3=>k g₃ ⟨⟨ea,_,B,a0,G',rfl,h2,fl3,h4.trans up3,h5,h6⟩,Nat.le_trans hz hz3⟩)
theorem Z7P {A:Around} {s:Shared} {ea:Addr} {oe:Obj} {bm:List Value} {Q:Bool→Shared→Prop} {E:Value→Shared→Prop} (hC:ClsE s.heap C bm) (hbm:bm.contains (.type "BaseException") = true) (he:s.heap.get? ea = some oe) (hc:oe.cls = .ref C) (hq:Q true s):wpAny (model c.prog c.w) A (excMatches (.ref ea) (.ref C)) Q E s:=by
 obtain ⟨nm,q,N,bs,hdct,sn,sub,ab,col,dd,k0,k1,k2,k3,k5,mN,h1,h2,h3⟩:=hC
 obtain ⟨hp,gg,dd',tt,os⟩:=s
 exact wpAny_excMatches_sub_self h1 he hc hbm hq
end
section
variable {W:Wo} {C:Addr} {G:Fn} {L:Lf} {K:Nat}
theorem Zbb {i:Nat} {f:Str} {es:Exs} {g:Gm} {p:Stmt} {c:Cx} {st:St} {μ:List Addr} {s:Shared} {hnd:ExceptHandler} {pos:Pos} (hk:okS g (.asg i (.call f es)) p = true) (hg:GoodX W C G L c g) (Fr:FrOk c.A c.base st.σ μ s.heap) (I:Inv c st μ s.heap)
  (hh:∀ st' μ' h' (s':Shared) e,Inv c st' μ' h'→StpC c st.σ μ s.heap st'.σ μ' h'→Same s s'→Flies C c.A c.base s.heap.objs.size st'.σ μ' h' s'.heap e →
   wpAny (model c.prog c.w) c.A (handleBy e c.env [hnd]) (fun f s''=>∃ μ'',rFl ⟨[],st'.σ⟩ μ'' s''.heap f (.ret Z5C)∧Inv c ⟨[],st'.σ⟩ μ'' s''.heap∧StpC c st.σ μ s.heap st'.σ μ'' s''.heap∧Same s s'') (fun _ _=>False) s') :
  SimC C c (exec (.Try [pS (.asg i (.call f es)) p] [hnd] [] [] pos) c.env) (tryR ((evEs W.F es st).cut.bind fun xs st=>Z0q (G f xs st.σ) st.ρ) i) rFl st.σ μ s:=by
 cases hm:(evEs W.F es st).cut.bind fun xs st=>Z0q (G f xs st.σ) st.ρ with
 | stuck=>trivial
 | ok v st₁=>
  have hA:=Zar (allX.2.1 es).1 hg.call hk hg.good I Fr
  rw [hm,R.bind_ok] at hA
  refine wpAny_Try_except ?_
  rw [execs_cons]
  refine wpAny_bind (wpAny_mono hA (fun f s₁ ⟨μ₁,rf,I₁,S₁,Q₁⟩=>?_) fun _ _ e=>e.elim)
  cases f <;> first | exact rf.elim | skip
  exact wpAny_execs_nil (wpAny_execs_nil ⟨μ₁,trivial,I₁,S₁,Q₁⟩)
 | exc x st₁=>
  have hF:=Z4k (allX.2.1 es).1 hg.call (and2 hk).2 hg.good I Fr hm
  refine wpAny_Try_except ?_
  rw [execs_cons]
  show wpAny _ _ (exec (.Assign [.Name (nmOf (skid p 1)) (skid p 1).pos] (pE (.call f es) (skid p 0)) p.pos) c.env >>= _) _ _ _
  rw [exec_Assign_Name _ _ _ _ _ (Z1w (e:=.call f es) rfl)]
  refine wpAny_bind (wpAny_bind (wpAny_standAt (wpAny_bind (wpAny_mono hF (fun _ _ e=>e.elim) fun e s' ⟨μ',h',I',S',Q',fl⟩=>?_))))
  exact Zas hg fl fun g₃ fl3=>hh st₁ μ' h' { s' with heap:=g₃ } e I' S' (Q'.trans ⟨rfl,rfl,rfl⟩) fl3
theorem Z7Q {M:Model} {A:Around} {b:Bool} {k:Nat} {q:Pos} {env:Env} {Q:Value→Shared→Prop} {E:Value→Shared→Prop} {s:Shared} (h:Q (.bool b) s):wpAny M A (eval (.Constant (.bool b) k q) env) Q E s:=fun _ _ _=>h
theorem Z4m {M:Model} {A:Around} {k:Nat} {q:Pos} {env:Env} {Q:Value→Shared→Prop} {E:Value→Shared→Prop} {s:Shared} (h:Q .none s):wpAny M A (eval (.Constant .none k q) env) Q E s:=fun _ _ _=>h
theorem Zat {prog:Program} {w:World} {A:Around} {k k1 k2:Nat} {q q1 q2:Pos} {env:Env} {Q:Value→Shared→Prop} {E:Value→Shared→Prop} {s:Shared} (h:Q (.ref s.heap.objs.size) { s with heap:=s.heap.push { cls:=.type "tuple",data:=.seq #[.bool true,.none] } }):wpAny (model prog w) A (eval (.Tuple [.Constant (.bool true) k1 q1,.Constant .none k2 q2] k q) env) Q E s:=by
 refine wpAny_Tuple_spliced ?_
 show wpAny _ _ (spliced [(false,eval (.Constant (.bool true) k1 q1) env),(false,eval (.Constant .none k2 q2) env)]) _ _ _
 refine spliced_cons ?_
 refine Z7Q (k:=k1) (q:=q1) ?_
 refine spliced_cons ?_
 refine Z4m (k:=k2) (q:=q2) ?_
 exact spliced_nil ⟨(by decide:2 ≤ sizeLine),h⟩
theorem Inv.novars {c:Cx} {st:St} {μ:List Addr} {h:Heap} (I:Inv c st μ h):Inv c ⟨[],st.σ⟩ μ h:=⟨fun i x q=>by simp at q,I.slots,I.objs,I.len,I.nd,I.lt,I.base,I.baseS,I.baseM,I.sep,I.kd⟩
theorem Zbc {c:Cx} {st st':St} {μ μ':List Addr} {g₄:Heap} {s s':Shared} {tk:Tok} (I₄:Inv c ⟨[],st'.σ⟩ μ' g₄) (S₄:StpC c st.σ μ s.heap st'.σ μ' g₄) (Q':Same s s') :
  ∃ μ'',rFl ⟨[],st'.σ⟩ μ'' (g₄.push { cls:=.type "tuple",data:=.seq #[.bool true,.none] }) (.ret (.ref g₄.objs.size)) (.ret Z5C)∧Inv c ⟨[],st'.σ⟩ μ'' (g₄.push { cls:=.type "tuple",data:=.seq #[.bool true,.none] })∧StpC c st.σ μ s.heap st'.σ μ'' (g₄.push { cls:=.type "tuple",data:=.seq #[.bool true,.none] })∧Same s { s' with heap:=g₄.push { cls:=.type "tuple",data:=.seq #[.bool true,.none] },toks:=tk } :=
 ⟨μ',Z2E (s:={ s' with heap:=g₄ }) I₄ (vs:=[.bool true,.none]) (.cons (.bool true) (.cons .none .nil)) (by decide),I₄.ext (.push _),S₄.trans (Stp.ext (.push _)).toC,Q'.trans ⟨rfl,rfl,rfl⟩⟩
theorem Zde {i:Nat} {f:Str} {es:Exs}:XOk W C G L K (.try1 i f es):=fun g p c st μ s hk hg Fr I=>Zbb (and2 hk).2 hg Fr I fun st' μ' h' s' e I' S' Q' fl=>by
 have F':=Fr.step I' S'
 obtain ⟨ea,oe,rfl,ho,hc⟩:=fl.obj
 obtain ⟨R,hC,hR,_⟩:=hg.exc.obj
 refine wpAny_handleBy_cons (codeAny_handlers_test (Z0X hg.good (fl.base I' F') (and2 hk).1 hg.exc.c (Z7P (hC.keeps (fl.base I' F')) (by rw [List.contains_cons]; rfl) ho hc ?_))) (by intro q; cases q)
 refine codeAny_handlers_suite (Z4l fl fun g₄ fl4=>?_)
 show wpAny _ _ (execs [.Return (some (.Tuple [.Constant (.bool true) (kOf ((kids (skid (hb p 0) 0)).headD default)) ((kids (skid (hb p 0) 0)).headD default).pos,.Constant .none (kOf ((kids (skid (hb p 0) 0)).tail.headD default)) ((kids (skid (hb p 0) 0)).tail.headD default).pos] (kOf (skid (hb p 0) 0)) (skid (hb p 0) 0).pos)) (hb p 0).pos] c.env) _ _ _
 rw [execs_cons]
 obtain ⟨I₄,S₄⟩:=fl4.caught I S' I' F'
 exact wpAny_bind (wpAny_Return_some (Zat (wpAny_pure (Zbc (tk:=s'.toks) I₄.novars S₄ Q'))))
end
theorem Zci:bootBuiltins (Str.ofString "ValueError") = some (.type "ValueError"):=by decide +kernel
section
variable {W:Wo} {C:Addr} {G:Fn} {L:Lf} {K:Nat}
theorem Z27 {c:Cx} {g:Gm} {A:Around} {s:Shared} {x:String} {pos:Pos} {v:Value} (hg:Good W c g) (hb:∀ b o,c.base.get? b = some o→s.heap.get? b = some o) (hx:g.gl (Str.ofString x) = true) (hf:W.mg (Str.ofString x) = none) (hn:Str.ofString x ≠ "__name__") (hv:bootBuiltins (Str.ofString x) = some v)
  {Q:Value→Shared→Prop} {E:Value→Shared→Prop} (h:Q v s):wpAny (model c.prog c.w) A (eval (.Name (Str.ofString x) pos) c.env) Q E s:=by
 refine El.x0_2 (Z4G hx) fun h1 h2=>?_
 have hk:c.env.scope.kind = .function:=by rw [hg.nm.sc]; exact hg.nm.kind
 refine Name_function_global hk (by unfold Env.kindOf; rw [hg.nm.sc]; exact h1) (loadGlobal_builtin (mg:=W.mg) (mb:=W.mb) ?_ hf ?_ ?_ h) h2
 ·rw [hg.nm.glob]; exact hg.gd.g.keeps hb
 ·rw [hg.nm.blt]; exact hg.gd.b.keeps hb
 ·rw [hg.gd.blt _ hn]; exact hv
theorem Z4W {g:Gm} {x:Str} (h:locN g x = true):g.sc.names.lookup x = some .local∧(x == ("__debug__":Str)) = false:=by
 simpa [locN,Z11] using h
theorem Z2S {c:Cx} {g:Gm} (hg:Good W c g) {x:Str} (h:locN g x = true):c.env.kindOf x = some .local:=by unfold Env.kindOf; rw [hg.nm.sc]; exact (Z4W h).1
theorem Z7c {c:Cx} {g:Gm} {A:Around} {s:Shared} {x:Str} {pos:Pos} {v:Value} {m:Str→Option Value} (hg:Good W c g) (hx:locN g x = true) (hn:s.heap.Ns c.env.locals m) (hm:m x = some v)
  {Q:Value→Shared→Prop} {E:Value→Shared→Prop} (h:Q v s):wpAny (model c.prog c.w) A (eval (.Name x pos) c.env) Q E s :=
 wpAny_Name (wpAny_loadName_local (by rw [hg.nm.sc]; exact hg.nm.kind) (Z2S hg hx) hn hm h) (Z4W hx).2
theorem Z4X {c:Cx} {g:Gm} {A:Around} {s:Shared} {en y:Str} {q:Expr} {ea:Addr} {m:Str→Option Value} {F:Frag} {cv:Value} {b:Bool} (hg:Good W c g) (hb:∀ b o,c.base.get? b = some o→s.heap.get? b = some o) (hi:g.gl (Str.ofString "isinstance") = true) (he:locN g en = true) (hn:s.heap.Ns c.env.locals m) (hm:m en = some (.ref ea))
  (k:KOk F C) (X:F.In c.base) (I:IsA ea C s.heap) (hcv:∀ (pos:Pos) (Q:Value→Shared→Prop) (E:Value→Shared→Prop),Q cv s→wpAny (model c.prog c.w) A (eval (.Name y pos) c.env) Q E s) (e:kitOne F (.ref C) cv = some b)
  {Q:Value→Shared→Prop} {E:Value→Shared→Prop} (h:∀ tk,Q (.bool b) { s with toks:=tk }):wpAny (model c.prog c.w) A (eval (pIsi en y q) c.env) Q E s:=by
 unfold pIsi
 rw [arm_eval_Call_Name']
 refine wpAny_bind (Z27 hg hb hi (hg.gd.free _ (by decide)) (by decide) Z1n (Z8B (first:=[]) (fun z hz=>?_) ?_))
 ·rcases List.mem_cons.mp hz with rfl | hz
  ·exact Z1e _ _
  ·exact Z1o (Z1e _ _) hz
 rw [Z1e]
 refine spliced_cons (Z7c hg he hn hm ?_)
 refine spliced_cons (hcv _ _ _ ?_)
 exact spliced_nil (kia_one k.kit (fun a o ho=>hb a o (X a o ho)) I e (by intro q; cases q) h)
theorem Z8X {M:Model} {A:Around} {s:Shared} {Q:Value→Shared→Prop} {E:Value→Shared→Prop} (h:Q (.bool true) s):wpAny M A (unaryOp .Not (.bool false)) Q E s:=fun _ _ _=>h
theorem Z1g {M:Model} {A:Around} {s:Shared} {b:Bool} {Q:Bool→Shared→Prop} {E:Value→Shared→Prop} (h:Q b s):wpAny M A (truthy (.bool b)) Q E s:=fun _ _ _=>h
theorem Z7R {c:Cx} {A:Around} {s:Shared} {ea R:Addr} {oe:Obj} {Q:Bool→Shared→Prop} {E:Value→Shared→Prop} (hC:ClsE s.heap C (.ref R :: vbm)) (hR:ClsE s.heap R vbm) (he:s.heap.get? ea = some oe) (hc:oe.cls = .ref C) (hq:Q true s):wpAny (model c.prog c.w) A (excMatches (.ref ea) (.ref R)) Q E s:=by
 obtain ⟨nm,q,N,bs,hdct,sn,sub,ab,col,dd,k0,k1,k2,k3,k5,mN,h1,h2,h3⟩:=hC
 obtain ⟨nm',q',N',bs',hdct',sn',sub',ab',col',dd'',l0,l1,l2,l3,l5,mN',g1,g2,g3⟩:=hR
 obtain ⟨hp,gg,dd',tt,os⟩:=s
 have cB:(Value.ref R :: vbm).contains (.type "BaseException") = true:=by rw [List.contains_cons]; rfl
 have cR:(Value.ref C :: Value.ref R :: vbm).contains (.ref R) = true:=by simp
 have f:=tc_notTuple
 unfold excMatches
 repeat (first | (with_reducible refine wpAny_loadPart_at he ?_; rw [hc]) | with_reducible refine wpAny_loadPart_at g1 ?_ | (with_reducible refine wpAny_isSubtype_exc g1 ?_; rw [cB]) | (with_reducible refine wpAny_isSubtype_exc h1 ?_; rw [cR]) | wp_step)
 exact hq
variable {c:Cx} {st st₀:St} {μ μ₀:List Addr} {h h₀ h':Heap} {e:Value} {n₀:Nat}
theorem Flies.data (fl:Flies C c.A c.base n₀ st.σ μ h h' e):∃ ea oe vs,e = .ref ea∧h'.get? ea = some oe∧oe.cls = .ref C∧oe.data = .fields vs:=by
 obtain ⟨⟨ea,l,B,a0,G,h1,h2,⟨_,_,_,oe,vs,T,oT,ts,k1,k2,k3,_⟩,h4,h5,h6⟩,hz⟩:=fl
 exact ⟨ea,oe,vs,h1,k1,k2.1,k3⟩
theorem Inv.loc {σ:List O} (I:Inv c ⟨[],σ⟩ μ h) {D:Addr} (own:Own c D) {m m':Str→Option Value} (h1:h.Ns D m) (h2:h'.Ns D m') (hb:Heap.SameBut D h h'):Inv c ⟨[],σ⟩ μ h'∧Stp c σ μ h σ μ h':=by
 have S:Stp c σ μ h σ μ h':=⟨Nat.le_of_eq hb.1.symm,fun b o e hO _=>(hb.2 b fun (k:b = D)=>hO (k ▸ own)).trans e,fun _ _ q=>q,fun _ q=>.inl q,fun _ q=>.inl q,fun _ q=>q,fun n a o _ e2 e3=>(hb.2 a fun (k:a = D)=>I.sep _ own (k ▸ List.mem_of_getElem? e2)).trans e3⟩
 refine ⟨⟨fun j x q=>by simp at q,fun j t q=>?_,fun k o q=>?_,I.len,I.nd,fun a q=>by rw [hb.1]; exact I.lt a q,fun b o q=>?_,I.baseS,I.baseM,I.sep,I.kd⟩,S⟩
 ·by_cases ho:t.own = D
  ·have:=I.slots j t q
   cases t with
   | d D' n=>cases ho; exact ⟨m',h2⟩
   | c a=>
    cases ho
    obtain ⟨v,o,e1,e2⟩:=this
    obtain ⟨o',es,ep,e3,e4,_⟩:=h1
    cases e1.symm.trans e3
    rw [e2] at e4; cases e4
  ·exact (I.slots j t q).keeps fun o e=>(hb.2 _ ho).trans e
 ·obtain ⟨a,ha,ro⟩:=I.objs k o q
  have hne:a ≠ D:=fun e=>I.sep _ own (e ▸ List.mem_of_getElem? ha)
  exact ⟨a,ha,ro.map (fun _ ho=>((hb.2 a hne).trans ho)) fun _ _ r=>r.step (st':=⟨[],σ⟩) I S⟩
 ·refine (hb.2 b fun k=>?_).trans (I.base b o q)
  have:=I.baseS D own
  rw [k,this] at q; cases q
end
section
variable {W:Wo} {C:Addr} {G:Fn} {L:Lf} {K:Nat}
theorem Z7d {D ea:Addr} {h h':Heap} {m:Str→Option Value} {oe:Obj} {vs:Array Value} (hb:Heap.SameBut D h h') (hn:h.Ns D m) (ho:h.get? ea = some oe) (hd:oe.data = .fields vs):h'.get? ea = some oe :=
 (hb.2 ea fun k=>by
  obtain ⟨o',es,ep,e3,e4,_⟩:=hn
  cases k
  cases ho.symm.trans e3
  rw [hd] at e4; cases e4).trans ho
theorem Zdf {c:Cx} {g:Gm} {A:Around} {s:Shared} {en on:Str} {ea:Addr} {oe:Obj} {vs:Array Value} {σ:List O} {μ:List Addr} {m:Str→Option Value} {p1 p2:Stmt} (hg:GoodX W C G L c g) (own:Own c c.env.locals)
  (g1:g.gl Z1q = true) (g2:g.gl (Str.ofString "NoPattern") = true) (g3:g.gl (Str.ofString "TooMany") = true) (g4:g.gl (Str.ofString "TooGreat") = true) (g5:g.gl (Str.ofString "ValueError") = true) (hi:g.gl (Str.ofString "isinstance") = true) (he:locN g en = true) (hon:locN g on = true) (hne:en ≠ on)
  (hn:s.heap.Ns c.env.locals m) (hm:m en = some (.ref ea)) (ho:s.heap.get? ea = some oe) (hc:oe.cls = .ref C) (hd:oe.data = .fields vs) (I:Inv c ⟨[],σ⟩ μ s.heap) {Q:Flow→Shared→Prop} {E:Value→Shared→Prop}
  (hq:∀ h₁ m₁ tk,Inv c ⟨[],σ⟩ μ h₁→Stp c σ μ s.heap σ μ h₁→h₁.Ns c.env.locals m₁→Q (.ret (.ref h₁.objs.size)) { s with heap:=h₁.push { cls:=.type "tuple",data:=.seq #[.bool true,.none] },toks:=tk }) :
  wpAny (model c.prog c.w) A (execs [pH1 en on p1,pH2 en on p2] c.env) Q E s:=by
 obtain ⟨R,hC,hR,mR,F,XF,kk,kV,kN⟩:=hg.exc.obj
 obtain ⟨hp,gg,dr,tt,os⟩:=s
 have hkd:(c.env.scope.kind == .class || (c.env.scope.kind == .module && c.env.locals != c.env.globals)) = false:=by rw [hg.good.nm.sc,hg.good.nm.kind]; rfl
 have step:∀ (tt:Tok) (y:String) (q:Expr) (Q:Value→Shared→Prop),g.gl (Str.ofString y) = true→y ∈ ["NoPattern","TooMany","TooGreat"]→(∀ tk,Q (.bool false) ⟨hp,gg,dr,tk,os⟩)→wpAny (model c.prog c.w) A (eval (pIsi en (Str.ofString y) q) c.env) Q E ⟨hp,gg,dr,tt,os⟩:=fun tt y q Q gy my h=>by
  obtain ⟨N',e1,e2⟩:=kN y my
  exact Z4X (s:=⟨hp,gg,dr,tt,os⟩) hg.good I.base hi he hn hm kk XF ⟨oe,ho,hc⟩ (fun pos Q E q=>Z0X (s:=⟨hp,gg,dr,tt,os⟩) hg.good I.base gy e1 q) e2 h
 rw [execs_cons]
 unfold pH1
 rw [exec_Assign_Name _ _ _ _ _ rfl]
 refine wpAny_bind (wpAny_bind (wpAny_standAt (wpAny_bind ?_)))
 refine BoolOp_or (step _ "NoPattern" _ _ g2 (by decide) fun tk=>Z1g ?_)
 rw [if_neg Bool.false_ne_true]
 refine BoolOp_or (step _ "TooMany" _ _ g3 (by decide) fun tk=>Z1g ?_)
 rw [if_neg Bool.false_ne_true]
 refine BoolOp_one (step _ "TooGreat" _ _ g4 (by decide) fun tk=>?_)
 refine wpAny_bind (wpAny_standAt (wpAny_bind (wpAny_bindName (wpAny_storeName_local (Z2S hg.good hon) hn (fun h₁ hn₁ hs₁=>?_) hkd))))
 obtain ⟨I₁,S₁⟩:=I.loc own hn hn₁ hs₁
 have ho₁:=Z7d hs₁ hn ho hd
 refine wpAny_pure ?_
 show wpAny _ _ (execs [pH2 en on p2] c.env) Q E ⟨h₁,gg,dr,tk + 1,os⟩
 rw [execs_cons]
 unfold pH2
 refine wpAny_bind (wpAny_Return_some (wpAny_Tuple_spliced ?_))
 have e1:kitOne F (.ref C) (.ref C) = some true:=by unfold kitOne; rw [if_pos (beq_self_eq_true _)]
 have hm₁:(fun x=>if x = on then some (Value.bool false) else m x) en = some (.ref ea):=by rw [← hm]; exact if_neg hne
 refine spliced_cons ?_
 refine BoolOp_and (Z4X (s:=⟨h₁,gg,dr,tk + 1,os⟩) hg.good I₁.base hi he hn₁ hm₁ kk XF ⟨oe,ho₁,hc⟩ (fun pos Q E q=>Z0X hg.good I₁.base g1 hg.exc.c q) e1 fun tk=>Z1g ?_)
 rw [if_pos rfl]
 refine BoolOp_and (Z4X (s:=⟨h₁,gg,dr,tk,os⟩) hg.good I₁.base hi he hn₁ hm₁ kk XF ⟨oe,ho₁,hc⟩ (fun pos Q E q=>Z27 hg.good I₁.base g5 hg.exc.ve (by decide) Zci q) kV fun tk=>Z1g ?_)
 rw [if_pos rfl]
 refine BoolOp_one (UnaryOp_ (Z7c (s:=⟨h₁,gg,dr,tk,os⟩) hg.good hon hn₁ (if_pos rfl) (Z8X ?_)))
 refine spliced_cons (Z4m (k:=kOf (kid (skid p2 0) 1)) (q:=(kid (skid p2 0) 1).pos) ?_)
 exact spliced_nil ⟨(by decide:2 ≤ sizeLine),wpAny_pure (hq h₁ _ _ I₁ S₁ hn₁)⟩
theorem Zdg {i:Nat} {f:Str} {es:Exs}:XOk W C G L K (.try2 i f es):=fun g p c st μ s hk hg Fr I=>by
 have hk:(((g.gl Z7O && g.gl Z1q) && ((g.gl (Str.ofString "NoPattern") && g.gl (Str.ofString "TooMany")) && (g.gl (Str.ofString "TooGreat") && (g.gl (Str.ofString "ValueError") && g.gl (Str.ofString "isinstance"))))) && (((locN g (Z2N p).nm && locN g (nmOf (skid (hb p 0) 1))) && (locN g (nmOf (skid (tb p) 1)) && !((Z2N p).nm == nmOf (skid (hb p 0) 1)))) && okS g (.asg i (.call f es)) (tb p))) = true:=hk
 refine El.x0_2 (and2 hk) fun k1 k2=>?_
 refine El.x0_2 (and2 k2) fun k2 kS=>?_
 refine Zbb kS hg Fr I fun st' μ' h' s' e I' S' Q' fl=>?_
 have F':=Fr.step I' S'
 obtain ⟨ea,oe,rfl,ho,hc⟩:=fl.obj
 obtain ⟨R,hC,hR,mR,_⟩:=hg.exc.obj
 have hb:=fl.base I' F'
 refine wpAny_handleBy_cons (codeAny_handlers_test (Z0X hg.good hb (and2 (and2 k1).1).1 mR (Z7R (hC.keeps hb) (hR.keeps hb) ho hc ?_))) (by intro q; cases q)
 refine codeAny_handlers_suite_as (Z4l fl fun g₄ fl4=>?_)
 obtain ⟨I₄,S₄⟩:=fl4.caught I S' I' F'
 obtain ⟨ea',oe',vs,e0,ho4,hc4,hd4⟩:=fl4.data
 cases e0
 have kl:locN g (nmOf (skid (tb p) 1)) = true:=(and2 (and2 k2).2).1
 have sl:c.sl i = some (.d c.env.locals (nmOf (skid (tb p) 1))):=by
  rcases hg.good.nm.var _ i (Z5Y (and2 kS).1).1 with ⟨_,k⟩ | ⟨k,_⟩
  ·exact k
  ·rw [(Z4W kl).1] at k; cases k
 have own:Own c c.env.locals:=⟨i,_,sl,rfl⟩
 obtain ⟨m,hn⟩:=I₄.slots i _ sl
 have hkd:(c.env.scope.kind == .class || (c.env.scope.kind == .module && c.env.locals != c.env.globals)) = false:=by rw [hg.good.nm.sc,hg.good.nm.kind]; rfl
 have hen:=(and2 (and2 k2).1).1
 refine wpAny_storeName_local (Z2S hg.good hen) hn (fun h₁ hn₁ hs₁=>?_) hkd
 obtain ⟨I₁,S₁⟩:=I₄.novars.loc own hn hn₁ hs₁
 refine Zdf (s:=⟨h₁,s'.gens,s'.drawn,s'.toks + 1,s'.os⟩) hg own (and2 (and2 k1).1).2 (and2 (and2 (and2 k1).2).1).1 (and2 (and2 (and2 k1).2).1).2 (and2 (and2 (and2 k1).2).2).1 (and2 (and2 (and2 (and2 k1).2).2).2).1 (and2 (and2 (and2 (and2 k1).2).2).2).2 hen (and2 (and2 k2).1).2 (fun e=>?_) hn₁ (if_pos rfl) (Z7d hs₁ hn ho4 hd4) hc4 hd4 I₁ fun h₂ m₂ tk I₂ S₂ hn₂=>?_
 ·have:=(and2 (and2 k2).2).2
  rw [e,beq_self_eq_true] at this
  cases this
 ·obtain ⟨μ'',q1,q2,q3,q4⟩:=Zbc (tk:=tk) I₂ ((S₄.trans S₁.toC).trans S₂.toC) Q'
  refine wpAny_nameGoes (Z2S hg.good hen) (hn₂.push _) hkd fun h₃ m₃ hn₃ hs₃=>?_
  obtain ⟨I₃,S₃⟩:=q2.loc own (hn₂.push _) hn₃ hs₃
  exact ⟨μ'',RepV.step q2 S₃ q1,I₃,q3.trans S₃.toC,Q'.trans ⟨rfl,rfl,rfl⟩⟩
end
section
variable {W:Wo} {C:Addr} {G:Fn} {L:Lf} {K:Nat}
theorem Zcj {m:R Fl} {c:Cx} {t:Sem Flow} {σ:List O} {μ:List Addr} {s:Shared} (h:∀ fl st,m = .ok fl st→SimC C c t (.ok fl st) rFl σ μ s):SimC C c t m.cut rFl σ μ s:=by
 cases m with
 | stuck=>trivial
 | exc _ _=>trivial
 | ok fl st=>exact h fl st rfl
theorem Z8Y {ρ:List (Option V)}:∀ {caps:List Nat} {cs:List V} {k i:Nat},capV ρ caps = some cs→caps[k]? = some i→∃ y,cs[k]? = some y∧ρ[i]? = some (some y)
 | [],_,k,i,_,h=>by simp at h
 | j :: caps,cs,k,i,h,hk=>by
  obtain ⟨x,h1,h⟩:=Option.bind_eq_some_iff.mp (show ((ρ[j]?.bind id).bind fun x=>(capV ρ caps).bind fun xs=>some (x :: xs)) = some cs from h)
  obtain ⟨xs,h2,h⟩:=Option.bind_eq_some_iff.mp h
  cases h
  cases k with
  | zero=>
   cases hk
   obtain ⟨y,e1,e2⟩:=Option.bind_eq_some_iff.mp h1
   exact ⟨x,rfl,by rw [e1]; exact congrArg some e2⟩
  | succ k=>
   obtain ⟨y,e1,e2⟩:=Z8Y h2 (show caps[k]? = some i from hk)
   exact ⟨y,e1,e2⟩
theorem Z8Z {n:Nat} {y:V}:∀ {cs:List V},V.los n cs = true→y ∈ cs→y.lo n = true
 | [],_,h=>by cases h
 | x :: xs,f,h=>by
  rw [Z01,Bool.and_eq_true] at f
  rcases List.mem_cons.mp h with rfl | h
  ·exact f.1
  ·exact Z8Z f.2 h
theorem Z90 {c:Cx} {st:St} {μ:List Addr} {h:Heap} {P:Addr} {us:List (Nat × Nat)} {o:Obj} (I:Inv c st μ h) (hμ:μ[0]? = some P) (hσ:st.σ[0]? = some (.tab us)) (e:h.get? P = some o):¬ Z2k o:=by
 obtain ⟨a,ha,ro⟩:=I.objs 0 _ hσ
 cases hμ.symm.trans ha
 obtain ⟨ps,e1,_⟩:=ro.tabI
 cases e.symm.trans e1
 rintro (⟨vs,n,q⟩ | q) <;> cases q
theorem Z5E {y:Str} {v:NameKind}:∀ {l:List (Str × NameKind)},(l.map (·.1)).Nodup→(y,v) ∈ l→l.lookup y = some v
 | [],_,h=>by cases h
 | (n,u) :: l,hn,h=>by
  rw [List.map_cons,List.nodup_cons] at hn
  rw [List.lookup_cons]
  rcases List.mem_cons.mp h with e | h
  ·cases e; rw [beq_self_eq_true]
  ·rw [beq_eq_false_iff_ne.mpr (show y ≠ n from fun e=>hn.1 (List.mem_map.mpr ⟨_,h,e⟩))]
   exact Z5E hn.2 h
theorem Zau {c:Cx} {g:Gm} {st:St} {μ:List Addr} {h':Heap} {lam:Ex} {caps:List Nat} {cs:List V} {J:LInfo} {P c':Addr} {name qual:Str} {clos:List (Str × Addr)} {pm ctv:Value} {us:List (Nat × Nat)} (N:Nm c g)
  (I:Inv c st μ (h'.push (kla_obj name qual J.args (pE lam J.body) J.sc clos pm c' ctv))) (hμ:μ[0]? = some P) (hσ:st.σ[0]? = some (.tab us)) (hok:Zam g caps lam J = true) (hcs:capV st.ρ caps = some cs) (hlo:V.los 0 cs = true) (hcl:∀ x,(x,NameKind.free) ∈ J.sc.names→clos.lookup x = c.env.cells.lookup x)
  (hc':h'.CodeRec (.ref c') qual) (hne:c' ≠ P) (hP:P < h'.objs.size):LamAt (hideAll (h'.push (kla_obj name qual J.args (pE lam J.body) J.sc clos pm c' ctv)) [P]) h'.objs.size lam cs:=by
 obtain ⟨o1,o2⟩:=and2 hok
 obtain ⟨o2,o3⟩:=and2 o2
 obtain ⟨o2,o4⟩:=and2 o2
 have hide:∀ b o,b ≠ P→(h'.push (kla_obj name qual J.args (pE lam J.body) J.sc clos pm c' ctv)).get? b = some o→(hideAll (h'.push (kla_obj name qual J.args (pE lam J.body) J.sc clos pm c' ctv)) [P]).get? b = some o:=fun b o n e=>hideAll_get _ e fun q=>n (List.mem_singleton.mp q)
 refine ⟨name,qual,J,clos,pm,c',ctv,hide _ _ (Nat.ne_of_gt hP) (Heap.get?_push_size _ rfl),?_,o1,o3,fun x k hx=>?_⟩
 ·obtain ⟨a,oc,vs,t,e1,e2,e3,e4⟩:=hc'
  cases e1
  exact ⟨_,oc,vs,t,rfl,hide _ _ hne (Heap.get?_push_of_some _ e2),e3,e4⟩
 ·have hmem:=mem_of_lookup hx
  have hq:=List.all_eq_true.mp o2 (x,k) hmem
  obtain ⟨q,hq1,hq2⟩:=List.mem_map.mp (show (x,k) ∈ ((J.sc.names.filter fun q=>q.2 == .free).zipIdx.map fun q=>(q.1.1,q.2)) from hmem)
  have hf:=List.mem_filter.mp (List.fst_mem_of_mem_zipIdx hq1)
  obtain ⟨⟨y,kd⟩,j⟩:=q
  cases hq2
  have hkd:kd = .free:=eq_of_beq hf.2
  subst hkd
  have hfree:(y,NameKind.free) ∈ J.sc.names:=hf.1
  refine ⟨Z5E (of_decide_eq_true o4) hfree,?_⟩
  have hq:(caps[j]?.any fun i=>decide (g.vm.lookup y = some i) && decide (g.sc.names.lookup y = some .cell)) = true:=hq
  cases hi:caps[j]? with
  | none=>rw [hi] at hq; cases hq
  | some i=>
   rw [hi] at hq
   have h1:g.vm.lookup y = some i:=of_decide_eq_true (and2 hq).1
   have h2:g.sc.names.lookup y = some .cell:=of_decide_eq_true (and2 hq).2
   rcases N.var y i h1 with ⟨k1,_⟩ | ⟨_,a,k2,k3⟩
   ·rw [h2] at k1; cases k1
   ·obtain ⟨yv,e1,e2⟩:=Z8Y hcs hi
    obtain ⟨s,v,g1,g2,g3⟩:=I.vars i yv e2
    cases k3.symm.trans g1
    obtain ⟨oc,ho,hd⟩:=g2
    refine ⟨a,v,yv,(hcl y hfree).trans k2,⟨oc,hide a oc (fun q=>I.sep a ⟨i,_,k3,rfl⟩ (q ▸ List.mem_of_getElem? hμ)) ho,hd⟩,e1,?_⟩
    have r:=Z7a (T':=fun _=>False) (n:=0) (fun _ f=>f.elim) g3 (Z8Z hlo (List.mem_of_getElem? e1))
    exact r.move (fun b o e hs _=>⟨hide b o (fun q=>Z90 I hμ hσ (q ▸ e) hs) e,id⟩) (fun n a e=>by simp at e)
theorem Zav {c:Cx} {g:Gm} {st:St} {μ:List Addr} {s:Shared} {lam:Ex} {caps:List Nat} {cs:List V} {q:Expr} {us:List (Nat × Nat)} (hg:GoodX W C G L c g) (Fr:FrOk c.A c.base st.σ μ s.heap) (I:Inv c st μ s.heap) (hok:Zam g caps lam (Z3y q) = true) (hX:Zap c.base W.mg c.env.code) (hσ:st.σ[0]? = some (.tab us))
  (hpl:(q.pos.line,q.pos.col) ∉ us) (hcs:capV st.ρ caps = some cs) (hlo:V.los 0 cs = true) {Q:Value→Shared→Prop} {E:Value→Shared→Prop}
  (hq:∀ P b h₂ tk,μ[0]? = some P→Inv c ⟨st.ρ,st.σ.set 0 (.tab ((q.pos.line,q.pos.col) :: us))⟩ μ h₂→Stp c st.σ μ s.heap (st.σ.set 0 (.tab ((q.pos.line,q.pos.col) :: us))) μ h₂→LamAt (hideAll h₂ [P]) b lam cs→Q (.ref b) { s with heap:=h₂,toks:=tk }) :
  wpAny (model c.prog c.w) c.A (eval (pLam lam q) c.env) Q E s:=by
 obtain ⟨ca,P,e1,e2,e3,e4⟩:=hX
 obtain ⟨outer,hfr,_⟩:=hg.fr
 obtain ⟨_,_,_,_,_,_,_,_,ht⟩:=Fr _ hfr c.env List.mem_cons_self
 have hμ:=ht ca P e1 e2 e3
 obtain ⟨a,ha,ro⟩:=I.objs 0 _ hσ
 cases hμ.symm.trans ha
 obtain ⟨ps,hP,tok⟩:=ro.tabI
 have hok':=hok
 obtain ⟨o1,o2⟩:=and2 hok
 have od:=and2 (and2 (and2 (and2 (and2 o1).1).2).2).1
 obtain ⟨cl,hcl,hcl2⟩:=Z7M (env:=c.env) (sc:=(Z3y q).sc) fun r hr hf=>by
  obtain ⟨k,hk⟩:=List.getElem?_of_mem (List.mem_filter (p:=fun q:Str × NameKind=>q.2 == .free) |>.mpr ⟨hr,show (r.2 == NameKind.free) = true by rw [hf]; decide⟩)
  have hm:(r.1,k) ∈ (Z6e (Z3y q)).cps:=List.mem_map.mpr ⟨(r,k),List.mem_zipIdx_iff_getElem?.mpr hk,rfl⟩
  have:=List.all_eq_true.mp (and2 (and2 o2).1).1 _ hm
  have this:(caps[k]?.any fun i=>decide (g.vm.lookup r.1 = some i) && decide (g.sc.names.lookup r.1 = some .cell)) = true:=this
  cases hi:caps[k]? with
  | none=>rw [hi] at this; cases this
  | some i=>rw [hi] at this; exact hg.good.nm.cells r.1 (of_decide_eq_true (and2 this).2)
 have hgP:mainGlobals ≠ P:=fun e=>by
  obtain ⟨o,_,_,ho,_⟩:=hg.good.gd.g
  rw [e,e3] at ho; cases ho
 obtain ⟨bm,ob,b1,b2,b3,b4,b5,b6⟩:=e4
 unfold pLam
 refine kla_eval (by rw [defaultsOf_eq,List.isEmpty_iff.mp od.1,List.isEmpty_iff.mp od.2]; rfl) ?_
 refine kla_makeFunction (mg:=W.mg) hcl hg.good.nm.glob (hg.good.gd.g.keeps I.base) e1 (e2.keeps I.base) hP tok.1 (tok.2 _ hpl) hgP ⟨bm,ob,b1,b2,b3,b4,I.base _ _ b5,b6⟩ fun c' ctv h' tk hx hge hlt hrec htb=>?_
 have hPs:=I.lt P (List.mem_of_getElem? hμ)
 have hsz:s.heap.objs.size < h'.objs.size:=Nat.lt_of_le_of_lt hge hlt
 obtain ⟨I₂,S₂⟩:=I.upd (n:=0) (o':=.tab ((q.pos.line,q.pos.col) :: us)) (h':=h'.push (kla_obj "<lambda>" (c.env.qual++"<lambda>") (Z3y q).args (pE lam (Z3y q).body) (Z3y q).sc cl ((W.mg "__name__").getD .none) c' ctv)) hσ hμ rfl rfl ⟨by rw [Heap.size_push]; lia,fun b o n e=>Heap.get?_push_of_some _ (hx b o n e)⟩ (.live (Heap.get?_push_of_some _ htb) (.tab (tok.more q.pos _)) .nil) (by intro e; cases e) trivial
 exact hq P _ _ tk hμ I₂ S₂ (Zau hg.good.nm I₂ hμ (by rw [List.getElem?_set_self (List.getElem?_eq_some_iff.mp hσ).1]) hok' hcs hlo hcl2 hrec (fun e=>Nat.lt_irrefl _ (Nat.lt_of_lt_of_le hPs (e ▸ hge))) (Nat.lt_trans hPs hsz))
end
section
variable {W:Wo} {C:Addr} {G:Fn} {L:Lf} {K:Nat}
theorem Z91 {i:Nat} {f:Str} {xs:List V} {lam:Ex} {cs:List V} {pl:Nat × Nat} {st stF:St} {fl:Fl} (h:Z7N L i f xs lam cs pl st = .ok fl stF) :
  ∃ us us' r ρ',st.σ[0]? = some (.tab us)∧pl ∉ us∧V.los 1 xs = true∧V.los 0 cs = true∧L f xs lam cs [.tab (pl :: us)] = .ok r ⟨ρ',[.tab us']⟩∧r.flat = true∧fl = .next∧stF = setV ⟨st.ρ,st.σ.set 0 (.tab us')⟩ i r:=by
 unfold Z7N at h
 refine Z06 h fun us hus h=>?_
 split at h
 ·cases h
 ·rename_i hp
  split at h
  ·rename_i hl
   split at h
   ·rename_i r ρ' us' hL
    split at h
    ·rename_i hf
     cases h
     exact ⟨us,us',r,ρ',Zby hus,hp,(and2 hl).1,(and2 hl).2,hL,hf,rfl,rfl⟩
    ·cases h
   ·cases h
  ·cases h
theorem Zaw {T T':Addr→Prop} {μ μ':List Addr} {h:Heap} {v:Value} {r:V} (hf:r.flat = true) (q:RepV T μ h v r):RepV T' μ' h v r:=by
 cases q <;> first | exact .none | exact .str _ _ (by assumption) (by assumption) | cases hf
theorem Zdh {i:Nat} {f:Str} {a b lam:Ex} {caps:List Nat} {pl:Nat × Nat}:XOk W C G L K (.asgL i f a b lam caps pl):=fun g p c st μ s hk hg Fr I=>by
 have hk:(((g.lv (nmOf (skid p 1)) i && g.gl f) && decide (((kid (skid p 0) 3).pos.line,(kid (skid p 0) 3).pos.col) = pl)) && ((okE g a (kid (skid p 0) 1) && okE g b (kid (skid p 0) 2)) && Zam g caps lam (Z3y (kid (skid p 0) 3)))) = true:=hk
 obtain ⟨k1,k2⟩:=and2 hk
 obtain ⟨k0,kp⟩:=and2 k1
 obtain ⟨k3,kl⟩:=and2 k2
 clear hk k1 k2
 refine Zcj fun fl stF h=>?_
 obtain ⟨x,st₁,hE₁,h⟩:=R.bind_inv h
 obtain ⟨y,st₂,hE₂,h⟩:=R.bind_inv h
 refine Z06 h fun cs hcs h=>?_
 obtain ⟨us,us',r,ρ',hσ,hpl,l1,l2,hL,hf,rfl,rfl⟩:=Z91 h
 obtain ⟨hX,fa,fo,fd,m1,m2,m3,hD⟩:=hg.lam f [x,y] lam cs _ r _ hL
 have hpq:=of_decide_eq_true kp
 subst hpq
 show wpAny (model c.prog c.w) c.A (exec (.Assign [.Name (nmOf (skid p 1)) (skid p 1).pos] (.Call (.Name f (kid (skid p 0) 0).pos) [pE a (kid (skid p 0) 1),pE b (kid (skid p 0) 2),pLam lam (kid (skid p 0) 3)] [] (skid p 0).pos) p.pos) c.env) _ _ _
 rw [exec_Assign_Name _ _ _ _ _ rfl]
 refine wpAny_bind (wpAny_standAt (wpAny_bind ?_))
 rw [arm_eval_Call_Name']
 refine wpAny_bind (Z1d hg.good I (and2 k0).2 m1 ?_)
 refine callWith_function_kw (o:=fo) (fd:=fd) (Z18 (Z0c a _) ?_)
 rw [Z0c a]
 have sa:=(allE a).1 g _ c st μ s (and2 k3).1 hg.good I
 rw [hE₁] at sa
 refine spliced_cons (wpAny_mono sa (fun u s₁ q8=>El.x1_4 q8 fun μ₁ ru I₁ S₁ Q₁=>?_) fun _ _ e=>e.elim)
 have sb:=(allE b).1 g _ c st₁ μ₁ s₁ (and2 k3).2 hg.good I₁
 rw [hE₂] at sb
 rw [Z0c b]
 refine spliced_cons (wpAny_mono sb (fun v s₂ q8=>El.x1_4 q8 fun μ₂ rv I₂ S₂ Q₂=>?_) fun _ _ e=>e.elim)
 have S12:=S₁.trans S₂
 refine spliced_cons (Zav hg (Fr.step I₂ S12.toC) I₂ kl hX hσ hpl hcs l2 fun P fb h₂ tk hμ I₃ S₃ hLam=>?_)
 refine spliced_nil ⟨⟨I₃.base _ _ m2,m3⟩,?_⟩
 have ru₂:RepV (Tr st₂.σ μ₂) μ₂ s₂.heap u x:=RepV.step I₁ S₂ ru
 have r2:RepVs (Tr (st₂.σ.set 0 (.tab (((kid (skid p 0) 3).pos.line,(kid (skid p 0) 3).pos.col) :: us))) μ₂) μ₂ h₂ [u,v] [x,y]:=RepVs.step (st':=⟨st₂.ρ,st₂.σ.set 0 (.tab (((kid (skid p 0) 3).pos.line,(kid (skid p 0) 3).pos.col) :: us))⟩) I₂ S₃ (.cons ru₂ (.cons rv .nil))
 have hlt:0 < st₂.σ.length:=(List.getElem?_eq_some_iff.mp hσ).1
 have hσ₃:(st₂.σ.set 0 (.tab (((kid (skid p 0) 3).pos.line,(kid (skid p 0) 3).pos.col) :: us)))[0]? = some (.tab (((kid (skid p 0) 3).pos.line,(kid (skid p 0) 3).pos.col) :: us)):=List.getElem?_set_self hlt
 generalize hu:((kid (skid p 0) 3).pos.line,(kid (skid p 0) 3).pos.col) :: us = us₃ at *
 have hmu:μ₂.take 1 = [P]:=by
  cases μ₂ with
  | nil=>cases hμ
  | cons z zs=>cases hμ; rfl
 have hkb:∀ b o,b ≠ P→h₂.get? b = some o→(hideAll h₂ [P]).get? b = some o:=fun b o n e=>hideAll_get _ e fun q=>n (List.mem_singleton.mp q)
 have hbb:∀ b o,c.base.get? b = some o→(hideAll h₂ [P]).get? b = some o:=fun b o e=>hkb b o (fun q=>by rw [q,I₂.baseM P (List.mem_of_getElem? hμ)] at e; cases e) (I₃.base b o e)
 have sub:∀ b,Tr [.tab us₃] [P] b→Tr (st₂.σ.set 0 (.tab us₃)) μ₂ b:=fun b ⟨n,o,q1,q2,q3⟩=>by
  cases n with
  | zero=>cases q1; cases q3; exact ⟨0,_,hσ₃,rfl,hμ⟩
  | succ n=>cases q1
 have hro:∀ {T:Addr→Prop} {μ:List Addr},RepO T μ h₂ P (.tab us₃):=by
  obtain ⟨a,ha,ro⟩:=I₃.objs 0 _ hσ₃
  cases hμ.symm.trans ha
  obtain ⟨ps,e1,e2⟩:=ro.tabI
  exact .live e1 (.tab e2) .nil
 let c₂:Cx:={ c with base:=hideAll h₂ [P] }
 have obj:∀ (n:Nat) (o:O),[O.tab us₃][n]? = some o→∃ a,[P][n]? = some a∧RepO (Tr [.tab us₃] [P]) [P] h₂ a o:=fun n o q=>by
  cases n with
  | zero=>cases q; exact ⟨P,rfl,hro⟩
  | succ n=>cases q
 have Ic:Inv c₂.bare ⟨[],[.tab us₃]⟩ [P] h₂:=⟨fun i x q=>by simp at q,fun i s q=>(by cases q),obj,rfl,List.nodup_cons.mpr ⟨List.not_mem_nil,List.nodup_nil⟩,fun a q=>by cases List.mem_singleton.mp q; exact I₃.lt P (List.mem_of_getElem? hμ),fun b o e=>of_hideAll _ e,fun b q=>(Z07 q).elim,fun a q=>hideAll_none _ q,fun b q=>(Z07 q).elim,fun _ _=>trivial⟩
 have rc:=Z6d (n:=1) sub l1 r2
 rw [hmu] at rc
 refine wpAny_mono (hD _ fb hbb hLam c₂ [P] { s₂ with heap:=h₂,toks:=tk } [u,v,.ref fb] rfl rfl rfl hg.good.a Ic (rc.append (.cons (.raw fb) .nil))) (fun w s₄ q8=>El.x1_4 q8 fun μ₄ rw₄ I₄ S₄ Q₄=>?_) fun _ _ e=>e
 have hP4:μ₄[0]? = some P:=S₄.pre 0 P rfl
 obtain ⟨a',ha',ro'⟩:=I₄.objs 0 (.tab us') rfl
 cases hP4.symm.trans ha'
 obtain ⟨ps',e1',e2'⟩:=ro'.tabI
 obtain ⟨I₅,S₅⟩:=I₃.upd (n:=0) (o':=.tab us') (h':=s₄.heap) hσ₃ hμ rfl rfl ⟨S₄.size,fun b o n e=>I₄.base b o (hkb b o n e)⟩ (.live e1' (.tab e2') .nil) (by intro e; cases e) trivial
 dsimp only at I₅ S₅
 rw [List.set_set] at I₅ S₅
 refine wpAny_bind (wpAny_standAt (wpAny_bind (wpAny_bindName ?_)))
 refine wpAny_mono (Z0Q hg.good.nm (and2 k0).1 I₅ (Zaw hf rw₄)) (fun _ s₅ q8=>El.x1_4 q8 fun μ₅ _ I₆ S₆ Q₆=>wpAny_pure ⟨μ₅,trivial,I₆,(((S12.trans S₃).trans S₅).trans S₆).toC,?_⟩) fun _ _ e=>e
 exact ((Q₁.trans Q₂).trans (Same.trans (s':={ s₂ with heap:=h₂,toks:=tk }) ⟨rfl,rfl,rfl⟩ Q₄)).trans Q₆
end
theorem Zdi {W:Wo} {C:Addr} {G:Fn} {L:Lf} {K:Nat} (xs:Xms):XsOk W C G L K xs :=
 Xms.rec (motive_1:=fun x=>XOk W C G L K x) (motive_2:=fun xs=>XsOk W C G L K xs) (fun _=>x_pl) (fun _ _ _ a b=>Zdb a b) (fun _=>Zcg) (fun _ _=>Zdc) (fun _ _ _=>Zdd) (fun _ _ _=>Zde) (fun _ _ _=>Zdg) (fun _ _ _ _ _ _ _=>Zdh) ZdE (fun _ _ a b=>Zda a b) xs
noncomputable def noL:Lf:=fun _ _ _ _ _=>.stuck
noncomputable def Z0t (xdefs:List XDef) (defs:List Def) (K:Nat):Nat→Fn
 | 0=>fun _ _ _=>.stuck
 | n + 1=>fun f args σ=>R.need (xdefs.find? fun d=>d.name == f) fun d=>runX (Z05 defs K n) (Z0t xdefs defs K n) noL K d args σ
noncomputable def xDef (d:XDef) (r:DefRec):Bool:=hdOk d.name d.params d.locals r && okXs (gmOf d.locals r.scope) d.body r.body
noncomputable def Z92 (xdefs:List XDef) (base:Heap) (mg:Str→Option Value):Prop :=
 ∀ d ∈ xdefs,∃ r a code,(xDef d r = true∧pXs d.body r.body = r.body)∧FnAt base mg d.name r a code∧∀ ca P,code = .ref ca→CodeHd base ca P→base.get? P ≠ none
section
variable {prog:Program} {w:World} {base:Heap} {mg mb:Str→Option Value} {xdefs:List XDef} {defs:List Def} {K:Nat} {C:Addr}
theorem Zdj {n:Nat} {code:Value}:Zaq n prog w base mg code noL:=fun _ _ _ _ _ _ _ h=>(by cases h)
theorem Zbd (W:Wd prog w base mg mb) (hD:DefsOk defs base mg) (hp:∀ d ∈ defs,Z23 d.name = true) (hX:ExcX base mg C) (hXD:Z92 xdefs base mg):∀ n,Z6f n prog w base mg C (Z0t xdefs defs K n)
 | 0=>fun f args σ h=>(h rfl).elim
 | n + 1=>fun f args σ h=>by
  have ih:=Zbd W hD hp hX hXD n
  show ∃ a o fd,_∧_∧_∧Zce (n + 1) prog w base C (.ref a) args σ (R.need (xdefs.find? fun d=>d.name == f) fun d=>runX (Z05 defs K n) (Z0t xdefs defs K n) noL K d args σ)
  have h:(R.need (xdefs.find? fun d=>d.name == f) fun d=>runX (Z05 defs K n) (Z0t xdefs defs K n) noL K d args σ) ≠ .stuck:=h
  cases hd:xdefs.find? fun d=>d.name == f with
  | none=>rw [hd] at h; exact absurd rfl h
  | some d=>
   have hmem:=List.mem_of_find?_eq_some hd
   have hname:d.name = f:=by have q:=List.find?_some hd; exact eq_of_beq q
   obtain ⟨rc,a,code,hm,hf,ht⟩:=hXD d hmem
   have hf':=hf
   obtain ⟨o,nm,qual,pm,doc,g1,g2,g3,g4⟩:=hf'
   refine ⟨a,o,_,hname ▸ g1,g2,g3,fun c μ s vs e1 e2 e3 hA Fr I rvs=>?_⟩
   exact Z8W W (Zal W hD hp n) ih hX (Zdi _) (and2 hm.1).1 (and2 hm.1).2 hm.2 hf Zdj (fun ca P q1 q2 q3=>absurd q3 (ht ca P q1 q2)) e1 e2 e3 hA Fr I rvs
end
theorem Z3C {α:Type} {o:Option α} {k:α→Bool} (h:o.any k = true):∃ a,o = some a∧k a = true:=by
 cases o with
 | none=>cases h
 | some a=>exact ⟨a,rfl,h⟩
noncomputable def HasTab (mg:Str→Option Value) (h:Heap) (x:Str) (P:Addr):Prop:=∃ f o fd c oc vs,mg x = some (.ref f)∧h.get? f = some o∧o.data = .func fd∧fd.code = .ref c∧h.get? c = some oc∧oc.data = .fields vs∧vs[11]? = some (.ref P)
noncomputable def Zbe:List String:=["NoPattern","TooMany","TooGreat"]
noncomputable def XE (mg:Str→Option Value) (h:Heap):Prop:=∃ C R K,mg Z1q = some (.ref C)∧ClsE h C (.ref R :: vbm)∧ClsE h R vbm∧mg Z7O = some (.ref R)∧Frag.In K h∧noTabs K = true∧KOk K C∧kitOne K (.ref C) (.type "ValueError") = some true∧∀ y ∈ Zbe,∃ N',mg (Str.ofString y) = some (.ref N')∧kitOne K (.ref C) (.ref N') = some false
noncomputable def XC (xs:List Str) (law:Str) (mg:Str→Option Value) (h:Heap):Prop:=XE mg h∧∃ P,HasTab mg h law P∧∀ x ∈ xs,∃ P',HasTab mg h x P'∧P' ≠ P
theorem HasTab.keeps {mg:Str→Option Value} {h h':Heap} {x:Str} {P:Addr} (t:HasTab mg h x P) (k:∀ b o,h.get? b = some o→h'.get? b = some o):HasTab mg h' x P :=
 let ⟨f,o,fd,c,oc,vs,h1,h2,h3,h4,h5,h6⟩:=t; ⟨f,o,fd,c,oc,vs,h1,k _ _ h2,h3,h4,k _ _ h5,h6⟩
theorem HasTab.uniq {mg:Str→Option Value} {h:Heap} {x:Str} {P P':Addr} (t:HasTab mg h x P) (t':HasTab mg h x P'):P = P':=by
 obtain ⟨f,o,fd,c,oc,vs,h1,h2,h3,h4,h5,h6,h7⟩:=t
 obtain ⟨f',o',fd',c',oc',vs',g1,g2,g3,g4,g5,g6,g7⟩:=t'
 cases h1.symm.trans g1; cases h2.symm.trans g2; cases h3.symm.trans g3; cases h4.symm.trans g4; cases h5.symm.trans g5; cases h6.symm.trans g6; cases h7.symm.trans g7
 rfl
theorem XC.keeps {xs:List Str} {law:Str} (mg:Str→Option Value) (h h':Heap) (x:XC xs law mg h) (k:∀ b o,h.get? b = some o→h'.get? b = some o):XC xs law mg h' :=
 let ⟨⟨C,R,K,h1,h2,h3,h4,h5,h6⟩,P,t,u⟩:=x
 ⟨⟨C,R,K,h1,h2.keeps k,h3.keeps k,h4,fun a o e=>k _ _ (h5 a o e),h6⟩,P,t.keeps k,fun y hy=>let ⟨P',t',n⟩:=u y hy; ⟨P',t'.keeps k,n⟩⟩
noncomputable def tabP (h:Heap) (x:Str):Option Addr:=match h.nsMap mainGlobals x with
 | some (.ref f)=>(match (h.get? f).map Obj.data with
  | some (.func fd)=>(match fd.code with
   | .ref c=>(match (h.get? c).map Obj.data with
    | some (.fields vs)=>(match (vs[11]?:Option Value) with
     | some (.ref P)=>some P
     | _=>none)
    | _=>none)
   | _=>none)
  | _=>none)
 | _=>none
theorem Z93 {h:Heap} {x:Str} {P:Addr} (e:tabP h x = some P):HasTab (h.nsMap mainGlobals) h x P:=by
 unfold tabP at e
 split at e
 ·rename_i f e1
  split at e
  ·rename_i fd e2
   split at e
   ·rename_i c e3
    split at e
    ·rename_i vs e4
     split at e
     ·rename_i P' e5
      cases e
      obtain ⟨o,h2,h3⟩:=Option.map_eq_some_iff.mp e2
      obtain ⟨oc,h5,h6⟩:=Option.map_eq_some_iff.mp e4
      exact ⟨f,o,fd,c,oc,vs,e1,h2,h3,e3,h5,h6,e5⟩
     ·cases e
    ·cases e
   ·cases e
  ·cases e
 ·cases e
noncomputable def Z3D (h:Heap) (x:Str):Option (Addr × Obj):=match h.nsMap mainGlobals x with
 | some (.ref C)=>(h.get? C).map fun o=>(C,o)
 | _=>none
theorem Z1r {h:Heap} {x:Str} {C:Addr} {o:Obj} (e:Z3D h x = some (C,o)):h.nsMap mainGlobals x = some (.ref C)∧h.get? C = some o:=by
 unfold Z3D at e
 split at e
 ·rename_i C' e1
  obtain ⟨o',e2,e3⟩:=Option.map_eq_some_iff.mp e
  cases e3
  exact ⟨e1,e2⟩
 ·cases e
noncomputable def Zax (C:Addr) (bm:List Value) (o:Obj):Option Addr:=match o with
 | ⟨.type t,_,.cls cd,sl⟩=>(match sl.toList with
  | [_,_,_,_,some (.builtin n),_]=>if (t == "type" && cd.mro == .ref C :: bm && !cd.hasDel && n == "ValueError.__new__") = true then some cd.ns else none
  | _=>none)
 | _=>none
theorem Z7e {h:Heap} {C N:Addr} {bm:List Value} {o:Obj} (ho:h.get? C = some o) (e:Zax C bm o = some N) (hn:h.isNs N = true) (hi:(h.nsMap N "__init__").isNone = true):ClsE h C bm:=by
 unfold Zax at e
 split at e
 ·rename_i t dd cd sl
  split at e
  ·rename_i k0 k1 k2 k3 n k5 e1
   split at e
   ·rename_i q
    cases e
    simp only [Bool.and_eq_true,Bool.not_eq_true',beq_iff_eq] at q
    obtain ⟨⟨⟨rfl,q2⟩,q3⟩,rfl⟩:=q
    obtain ⟨c1,c2,c3,c4,c5,c6,c7,c8,c9,c10,c11⟩:=cd
    dsimp only at q2 q3 hn hi
    subst q2 q3
    refine ⟨c1,c5,c4,c2,c6,c7,c8,c9,c10,dd,k0,k1,k2,k3,k5,_,?_,.of_isNs hn,Option.isNone_iff_eq_none.mp hi⟩
    rw [ho]
    congr 2
    exact Array.ext' e1
   ·cases e
  ·cases e
 ·cases e
noncomputable def xeK (K:Frag) (C N1 N2 N3:Addr):Bool :=
 (noTabs K && (findIn K (.ref C) "__getattribute__" == some (some (.builtin "BaseException.__getattribute__")) && findIn K (.ref C) "__getattr__" == some none)) &&
 ((findIn K (.ref C) "__class__" == some (some (.builtin "object.__class__")) && specialIn K (.builtin "object.__class__") "__get__" == some (some (.builtin "getset_descriptor.__get__"))) &&
  ((takesIn K (.builtin "object.__class__") == some true && (mroIn K C (.type "object") == some true && mroIn K C (.type "BaseException") == some true)) &&
  ((kitOne K (.ref C) (.type "ValueError") == some true && kitOne K (.ref C) (.ref N1) == some false) && (kitOne K (.ref C) (.ref N2) == some false && kitOne K (.ref C) (.ref N3) == some false))))
noncomputable def xeOk (h:Heap):Bool:=match Z3D h Z1q,Z3D h Z7O,Z3D h (Str.ofString "NoPattern"),Z3D h (Str.ofString "TooMany"),Z3D h (Str.ofString "TooGreat") with
 | some (C,oC),some (R,oR),some (N1,o1),some (N2,o2),some (N3,o3)=>(match Zax C (.ref R :: vbm) oC,Zax R vbm oR with
  | some nC,some nR=>(match h.get? nC,h.get? nR with
   | some dC,some dR=>((h.isNs nC && h.isNs nR) && ((h.nsMap nC "__init__").isNone && (h.nsMap nR "__init__").isNone)) && xeK [(C,oC),(R,oR),(N1,o1),(N2,o2),(N3,o3),(nC,dC),(nR,dR)] C N1 N2 N3
   | _,_=>false)
  | _,_=>false)
 | _,_,_,_,_=>false
theorem ZdF {h:Heap} {K:Frag} (hK:∀ p ∈ K,h.get? p.1 = some p.2):K.In h:=fun a o e=>hK (a,o) (mem_of_lookupK e)
theorem ZdG {h:Heap} (e:xeOk h = true):XE (h.nsMap mainGlobals) h:=by
 unfold xeOk at e
 split at e
 ·rename_i C oC R oR N1 o1 N2 o2 N3 o3 e1 e2 e3 e4 e5
  split at e
  ·rename_i nC nR e6 e7
   split at e
   ·rename_i dC dR e8 e9
    obtain ⟨a,b⟩:=and2 e
    obtain ⟨a1,a2⟩:=and2 a
    obtain ⟨b1,b2⟩:=and2 b
    obtain ⟨b2,b3⟩:=and2 b2
    obtain ⟨b3,b4⟩:=and2 b3
    have c1:=Z1r e1
    have c2:=Z1r e2
    have c3:=Z1r e3
    have c4:=Z1r e4
    have c5:=Z1r e5
    refine ⟨C,R,_,c1.1,Z7e c1.2 e6 (and2 a1).1 (and2 a2).1,Z7e c2.2 e7 (and2 a1).2 (and2 a2).2,c2.1,ZdF (K:=[(C,oC),(R,oR),(N1,o1),(N2,o2),(N3,o3),(nC,dC),(nR,dR)]) ?_,(and2 b1).1,⟨eq_of_beq (and2 (and2 b1).2).1,eq_of_beq (and2 (and2 b1).2).2,eq_of_beq (and2 b2).1,eq_of_beq (and2 b2).2,eq_of_beq (and2 b3).1,eq_of_beq (and2 (and2 b3).2).1,eq_of_beq (and2 (and2 b3).2).2⟩,eq_of_beq (and2 (and2 b4).1).1,?_⟩
    ·intro p hp
     simp only [List.mem_cons,List.not_mem_nil,or_false] at hp
     rcases hp with rfl | rfl | rfl | rfl | rfl | rfl | rfl
     ·exact c1.2
     ·exact c2.2
     ·exact c3.2
     ·exact c4.2
     ·exact c5.2
     ·exact e8
     ·exact e9
    ·intro y hy
     unfold Zbe at hy
     simp only [List.mem_cons,List.not_mem_nil,or_false] at hy
     rcases hy with rfl | rfl | rfl
     ·exact ⟨N1,c3.1,eq_of_beq (and2 (and2 b4).1).2⟩
     ·exact ⟨N2,c4.1,eq_of_beq (and2 (and2 b4).2).1⟩
     ·exact ⟨N3,c5.1,eq_of_beq (and2 (and2 b4).2).2⟩
   ·cases e
  ·cases e
 ·cases e
noncomputable def xcOk (xs:List Str) (law:Str) (h:Heap):Bool:=xeOk h && (tabP h law).any fun P=>xs.all fun x=>(tabP h x).any fun P'=>!(P' == P)
theorem xc_of {xs:List Str} {law:Str} {h:Heap} (e:xcOk xs law h = true):XC xs law (h.nsMap mainGlobals) h:=by
 refine ⟨ZdG (and2 e).1,?_⟩
 obtain ⟨P,h1,h2⟩:=Z3C (and2 e).2
 refine ⟨P,Z93 h1,fun x hx=>?_⟩
 obtain ⟨P',h3,h4⟩:=Z3C (List.all_eq_true.mp h2 x hx)
 exact ⟨P',Z93 h3,fun q=>by rw [q,beq_self_eq_true] at h4; cases h4⟩
noncomputable def Z7f (q:Program) (x:Str):Bool :=
 !startupNames.contains x && !(looseW q []).contains x && !((recsOf q).map (·.name)).contains x && !((litsOf q).map (·.1)).contains x && !((clssOf q (looseW q [])).map (·.name)).contains x
noncomputable def bltNames:List String:=["isinstance","len","int","bool","list","tuple","str","range","enumerate","zip","set","sorted","min","max"]
noncomputable def Z28 (q:Program) (x:Str):Option DefRec:=(recsOf q).find? fun r=>r.name == x
noncomputable def Zck (q:Program) (defs:List Def) (xdefs:List XDef) (law:XDef):Bool :=
 ((defs.all fun d=>(Z28 q d.name).any fun r=>mDef d r) && ((xdefs.all fun d=>(Z28 q d.name).any fun r=>xDef d r) && (Z28 q law.name).any fun r=>xDef law r)) && (((bltNames.all fun x=>Z7f q (Str.ofString x)) && Z7f q (Str.ofString "ValueError")) && (importsNone q && defs.all fun d=>Z23 d.name))
noncomputable def eqOk (q:Program) (defs:List Def) (xdefs:List XDef):Prop:=(defs.map fun d=>(Z28 q d.name).map fun r=>pSs d.body r.body) = (defs.map fun d=>(Z28 q d.name).map fun r=>r.body)∧(xdefs.map fun d=>(Z28 q d.name).map fun r=>pXs d.body r.body) = xdefs.map fun d=>(Z28 q d.name).map fun r=>r.body
section
variable {q prog:Program} {w:World} {R:WRecords} {s₀:Shared} {mg mb:Str→Option Value} {h:Heap} {defs:List Def} {xdefs:List XDef} {law:XDef} {c P:Addr}
theorem Z6g {code:Value} {qual:Str} (hT:TabsAt [(c,P)] h) (x:h.CodeRec code qual):(ghostOf h [(c,P)]).CodeRec code qual:=by
 obtain ⟨a,oc,vs,t,e,h1,h2,h3⟩:=x
 exact ⟨a,oc,vs,t,e,ghost_get hT h1 (fun q=>by rw [q] at h2; cases h2; simp at h3),h2,h3⟩
theorem Z5F {C:Addr} {bm:List Value} (hT:TabsAt [(c,P)] h) (x:ClsE h C bm):ClsE (ghostOf h [(c,P)]) C bm :=
 let ⟨nm,q,N,bs,hdct,sn,sub,ab,col,dd,k0,k1,k2,k3,k5,mN,h1,h2,h3⟩:=x; ⟨nm,q,N,bs,hdct,sn,sub,ab,col,dd,k0,k1,k2,k3,k5,mN,ghost_get hT h1 (fun q=>by cases q),ghost_ns hT h2,h3⟩
theorem Zay {c' P':Addr} (hT:TabsAt [(c,P)] h) (x:CodeHd h c' P'):CodeHd (ghostOf h [(c,P)]) c' P' :=
 let ⟨o,vs,file,tf,flags,tg,inF,text,tt,e,r1,r⟩:=x; ⟨o,vs,file,tf,flags,tg,inF,text,tt,ghost_get hT e (fun q=>by rw [q] at r1; cases r1),r1,r⟩
theorem Z7S (hT:TabsAt [(c,P)] h) (x:h.NoSeer):(ghostOf h [(c,P)]).NoSeer :=
 let ⟨⟨mc,a,r⟩,⟨mm,b,r2⟩,⟨mb,d,r3⟩,⟨mg,bm,ob,e,f,g,i,r4⟩⟩:=x
 ⟨⟨mc,ghost_ns hT a,r⟩,⟨mm,ghost_ns hT b,r2⟩,⟨mb,ghost_ns hT d,r3⟩,⟨mg,bm,ob,ghost_ns hT e,f,ghost_get hT g (fun q=>by rw [q] at i; cases i),i,r4⟩⟩
theorem Z6h {c' P' P'':Addr} (x:CodeHd h c' P') (y:CodeHd h c' P''):P' = P'':=by
 obtain ⟨o,vs,file,tf,flags,tg,inF,text,tt,e,r1,r2,r3,r⟩:=x
 obtain ⟨o',vs',file',tf',flags',tg',inF',text',tt',e',r1',r2',r3',r'⟩:=y
 cases e.symm.trans e'; cases r2.symm.trans r2'; cases r3.symm.trans r3'; rfl
theorem Zdk {c' P':Addr} (x:CodeHd (ghostOf h [(c,P)]) c' P'):CodeHd h c' P':=x.keeps fun _ _ e=>of_hideAll _ e
theorem Zcl {XP:(Str→Option Value)→Heap→Prop} {x:Str} {r:DefRec} (G:Ground q [] R XP w s₀ mg mb h) (hT:TabsAt [(c,P)] h) (hr:Z28 q x = some r):∃ a code,FnAt (ghostOf h [(c,P)]) mg x r a code∧∃ ca P',code = .ref ca∧CodeHd h ca P'∧HasTab mg h x P'∧h.get? P' = some (tabObj #[]):=by
 have hmem:=List.mem_of_find?_eq_some hr
 have hn:r.name = x:=eq_of_beq (List.find?_some (p:=fun e:DefRec=>e.name == x) hr)
 obtain ⟨a,o,pm,code,doc,g1,g2,g3,g4⟩:=G.T.fn r hmem
 obtain ⟨a',o',fd,c',P',h1,h2,h3,h4,h5,h6⟩:=G.T.tab r hmem
 cases g1.symm.trans h1; cases g2.symm.trans h2; cases g3.symm.trans h3
 subst hn
 refine ⟨a,code,⟨o,r.name,r.name,pm,doc,g1,ghost_get hT g2 (fun q=>by rw [q] at g3; cases g3),g3,Z6g hT g4⟩,c',P',h4,.of h5 h6,?_,h6.2⟩
 obtain ⟨⟨oc,vs,k1,k2,k3,k4⟩,k5⟩:=h6
 exact ⟨a,o,_,c',oc,vs,g1,g2,g3,h4,k1,k3,k4⟩
theorem ZdH {d:Def} {r:DefRec} (e:(defs.map fun d=>(Z28 q d.name).map fun r=>pSs d.body r.body) = (defs.map fun d=>(Z28 q d.name).map fun r=>r.body)) (hd:d ∈ defs) (hr:Z28 q d.name = some r):pSs d.body r.body = r.body:=by
 have:=List.map_inj_left.mp e d hd
 rw [hr] at this
 exact Option.some.inj this
theorem Zbf {d:XDef} {r:DefRec} (e:(xdefs.map fun d=>(Z28 q d.name).map fun r=>pXs d.body r.body) = xdefs.map fun d=>(Z28 q d.name).map fun r=>r.body) (hd:d ∈ xdefs) (hr:Z28 q d.name = some r):pXs d.body r.body = r.body:=by
 have:=List.map_inj_left.mp e d hd
 rw [hr] at this
 exact Option.some.inj this
theorem Z94 {XP:(Str→Option Value)→Heap→Prop} (G:Ground q [] R XP w s₀ mg mb h) {x:Str} (this:Z7f q x = true):mg x = none:=by
 unfold Z7f at this
 simp only [Bool.and_eq_true,Bool.not_eq_true',List.contains_eq_mem,decide_eq_false_iff_not] at this
 exact G.T.free _ this.1.1.1.1 this.1.1.1.2 this.1.1.2 this.1.2 this.2
theorem Zdl (G:Ground q [] R (XC (xdefs.map (·.name)) law.name) w s₀ mg mb h) (ok:Zck q defs xdefs law = true) (eq:eqOk q defs (law :: xdefs)) (ht:prog.given.tree = none) :
  ∃ ca P C r a,TabsAt [(ca,P)] h∧Wd prog w (ghostOf h [(ca,P)]) mg mb∧DefsOk defs (ghostOf h [(ca,P)]) mg∧Z92 xdefs (ghostOf h [(ca,P)]) mg∧ExcX (ghostOf h [(ca,P)]) mg C∧(xDef law r = true∧pXs law.body r.body = r.body)∧FnAt (ghostOf h [(ca,P)]) mg law.name r a (.ref ca)∧Zap (ghostOf h [(ca,P)]) mg (.ref ca):=by
 obtain ⟨ok1,ok2⟩:=and2 ok
 obtain ⟨ok1,ok3⟩:=and2 ok1
 obtain ⟨ok3,ok4⟩:=and2 ok3
 obtain ⟨ok5,ok6⟩:=and2 ok2
 obtain ⟨⟨C,R',K,x1,x2,x3,x4,x5,x6,x7,x8,x9⟩,PL,t1,t2⟩:=G.X
 obtain ⟨r,hr,hm⟩:=Z3C ok4
 have hmem:=List.mem_of_find?_eq_some hr
 obtain ⟨a,o,pm,code,doc,g1,g2,g3,g4⟩:=G.T.fn r hmem
 obtain ⟨a',o',fd,ca,P,h1,h2,h3,h4,h5,h6⟩:=G.T.tab r hmem
 have hT:TabsAt [(ca,P)] h:=fun q hq=>by cases List.mem_singleton.mp hq; exact ⟨.of h5 h6,h6.2⟩
 obtain ⟨a₂,code₂,f1,ca₂,P₂,f2,f3,f4,f5⟩:=Zcl G hT hr
 have hn:r.name = law.name:=eq_of_beq (List.find?_some (p:=fun e:DefRec=>e.name == law.name) hr)
 have f1':=f1
 obtain ⟨o₂,nm₂,qual₂,pm₂,doc₂,l1,l2,l3,l4⟩:=f1'
 rw [hn] at h1
 cases h1.symm.trans l1
 cases h2.symm.trans (of_hideAll _ l2)
 cases h3.symm.trans l3
 have e4:code₂ = .ref ca:=h4
 subst e4
 cases f2
 have hP:=Z6h f3 (CodeHd.of h5 h6)
 subst hP
 have hPL:=f4.uniq t1
 subst hPL
 have hide:(ghostOf h [(ca,P₂)]).get? P₂ = none:=hideAll_none _ List.mem_cons_self
 refine ⟨ca,P₂,C,r,a',hT,⟨⟨ghost_ns hT G.T.g,ghost_ns hT G.T.b,G.T.builtins,fun x hx=>Z94 G (List.all_eq_true.mp (and2 ok5).1 x hx)⟩,Z7S hT (G.T.seer (and2 ok6).1),(let ⟨mc,a,r⟩:=G.T.nolimit; ⟨mc,ghost_ns hT a,r⟩),ht⟩,fun d hd=>?_,fun d hd=>?_,⟨x1,Z94 G (and2 ok5).2,R',Z5F hT x2,Z5F hT x3,x4,K,ghost_K hT x5 x6,x7,x8,x9⟩,⟨hm,Zbf eq.2 List.mem_cons_self hr⟩,f1,ca,P₂,rfl,Zay hT f3,hide,?_⟩
 ·obtain ⟨r',hr',hm'⟩:=Z3C (List.all_eq_true.mp ok1 d hd)
  obtain ⟨a₃,code₃,f1',_⟩:=Zcl G hT hr'
  exact ⟨r',a₃,code₃,⟨hm',ZdH eq.1 hd hr'⟩,f1'⟩
 ·obtain ⟨r',hr',hm'⟩:=Z3C (List.all_eq_true.mp ok3 d hd)
  obtain ⟨a₃,code₃,f1',ca₃,P₃,e3,k1,k2,k3⟩:=Zcl G hT hr'
  refine ⟨r',a₃,code₃,⟨hm',Zbf eq.2 (List.mem_cons_of_mem _ hd) hr'⟩,f1',fun ca' P' e' k'=>?_⟩
  cases e3.symm.trans e'
  have:=Z6h k1 (Zdk k')
  subst this
  obtain ⟨P₄,t4,n4⟩:=t2 d.name (List.mem_map_of_mem hd)
  have:=t4.uniq k2
  subst this
  rw [ghost_ne (tabs:=[(ca,P₂)]) k3 (fun q=>n4 (List.mem_singleton.mp q))]
  intro e; cases e
 ·obtain ⟨bm,ob,b1,b2,b3,b4,b5,b6⟩:=G.T.bmain
  refine ⟨bm,ob,b1,b2,fun q=>?_,fun q=>?_,ghost_get hT b3 (fun q=>by rw [q] at b4; cases b4),b4,b5,b6⟩
  ·obtain ⟨o,es,ep,e,hd,_⟩:=G.T.g
   rw [q,e] at b3; cases b3; rw [hd] at b6; cases b6
  ·rw [q,f5] at b3; cases b3; cases b4
end
theorem Z2J {R:WRecords}:∀ {xs:List WData},WShape.hasItems R xs .int = true→∃ is:List Int,xs = is.map .int
 | [],_=>⟨[],rfl⟩
 | x :: xs,h=>by
  have h:(WShape.has R x .int && WShape.hasItems R xs .int) = true:=h
  rw [Bool.and_eq_true] at h
  refine El.x1_1 (Z2J h.2) fun is q6z=>?_
  obtain rfl:=q6z
  have hx:=h.1
  cases x <;> try (exact absurd hx Bool.false_ne_true)
  exact ⟨_ :: is,rfl⟩
theorem Zcm {l:OpenLaw} {args:List WData} (hm:l.most = some 63) (h:l.row.toRowW.claim.pre args = true):∃ is:List Int,args = [.list (is.map .int)]∧is.length ≤ 63:=by
 unfold RowW.claim at h
 simp only [Bool.and_eq_true] at h
 refine El.x0_2 h fun h1 h2=>?_
 have ha:l.row.toRowW.args = [.list .int]:=rfl
 rw [ha] at h1
 rcases args with _ | ⟨x,_ | ⟨y,r⟩⟩
 ·exact absurd h1 Bool.false_ne_true
 ·have h1:(WShape.has _ x (.list .int) && true) = true:=h1
  rw [Bool.and_eq_true] at h1
  have hx:=h1.1
  cases x <;> try (exact absurd hx Bool.false_ne_true)
  rename_i xs _
  have hx:(WShape.hasItems _ xs .int || false) = true:=hx
  rw [Bool.or_false] at hx
  refine El.x1_1 (Z2J hx) fun is q7z=>?_
  try clear hx; try clear ha
  obtain rfl:=q7z
  refine ⟨is,rfl,?_⟩
  have hp:l.row.toRowW.pre = l.pre:=rfl
  rw [hp] at h2
  by_cases hle:is.length ≤ 63
  ·exact hle
  ·exfalso
   have:(63:Int) < (is.length:Int):=by omega
   unfold WTm.holds at h2
   rw [show WTm.value _ l.pre _ = some (.bool false) from by unfold OpenLaw.pre; simp [hm,WTm.value,less?,Num.less?,this]] at h2
   cases h2
 ·have h1:(WShape.has _ x (.list .int) && false) = true:=h1
  rw [Bool.and_false] at h1
  exact absurd h1 Bool.false_ne_true
theorem Z7g {R:WRecords} {cl:Str→Option Addr} {h:Heap} {T:Addr→Prop} {μ:List Addr}:∀ {vs:List Value} {is:List Int} {as:List Addr},ReadsAllW R cl h vs (is.map .int) as→RepVs T μ h vs (is.map .int)
 | _,[],_,r=>by cases r; exact .nil
 | _,i :: is,_,r=>by
  cases r with
  | cons a b=>
   cases a with
   | int _ t=>exact .cons (.int i t) (Z7g b)
theorem law_walk {l:OpenLaw} {q:Program} {YP:World→Heap→Prop} {d:DefRec} {kwd:List (Str × PySem.Expr)} (defs:List Def) (xdefs:List XDef) (law:XDef) (hnm:d.name = law.name) (ok:Zck q defs xdefs law = true) (eq:eqOk q defs (law :: xdefs)) (hm:l.most = some 63) (ht:l.prog.given.tree = none)
  (hpure:∀ (is:List Int),is.length ≤ 63→∃ K n st us,n ≤ 400∧runX (Z05 defs K n) (Z0t xdefs defs K n) (Z1M defs K n) K law [.lst (is.map .int)] [.tab []] = .ok (.bool true) st∧st.σ[0]? = some (.tab us)) :
  WalkO q [] (XC (xdefs.map (·.name)) law.name) YP l.row.toRowW d kwd (fun f vs=>PySem.call f vs):=by
 intro w s₀ s₁ mg mb G Y fa o pm cd doc dV kV ho hd hcd hD hmg hg args vals as hpre hlay hrd hwl hlo
 obtain ⟨is,rfl,hlen⟩:=Zcm hm hpre
 obtain ⟨ca,P,C,r,a,hT,W,D,XD,hX,hx,hf,hc⟩:=Zdl (prog:=l.row.toRowW.prog) G ok eq ht
 obtain ⟨K,n,st,us,hn,hrun,hus⟩:=hpure is hlen
 have hpl:∀ d ∈ defs,Z23 d.name = true:=fun d hd=>List.all_eq_true.mp (and2 (and2 (and2 ok).2).2).2 d hd
 have hf':=hf
 obtain ⟨o₂,nm₂,qual₂,pm₂,doc₂,l1,l2,l3,l4⟩:=hf'
 obtain rfl:fa = a:=by
  rw [hnm] at hmg
  cases hmg.symm.trans l1; rfl
 have hP:s₁.heap.get? P = some (tabObj #[]):=(hT (ca,P) List.mem_cons_self).2
 let c:Cx:={ prog:=l.row.toRowW.prog,w:=w,base:=ghostOf s₁.heap [(ca,P)],A:=callerA,env:=default,sl:=fun _=>none }
 have obj:∀ (n:Nat) (o:O),[O.tab []][n]? = some o→∃ a,[P][n]? = some a∧RepO (Tr [.tab []] [P]) [P] s₁.heap a o:=fun n o q=>by
  cases n with
  | zero=>cases q; exact ⟨P,rfl,.live hP (.tab ⟨trivial,fun _ _=>rfl⟩) .nil⟩
  | succ n=>cases q
 have I:Inv c.bare ⟨[],[.tab []]⟩ [P] s₁.heap:=⟨fun i x q=>by simp at q,fun i s q=>(by cases q),obj,rfl,List.nodup_cons.mpr ⟨List.not_mem_nil,List.nodup_nil⟩,fun a q=>by cases List.mem_singleton.mp q; exact Heap.lt_size hP,fun b o e=>of_hideAll _ e,fun b q=>(Z07 q).elim,fun a q=>hideAll_none _ q,fun b q=>(Z07 q).elim,fun o q=>trivial⟩
 have rv:RepVs (Tr [.tab []] [P]) [P] s₁.heap vals [.lst (is.map .int)]:=by
  cases hrd with
  | cons x y=>
   cases y
   cases x with
   | @list a o vs n _ as ho hc hd r=>
    have hz:=Z7g (T:=Tr [.tab []] [P]) (μ:=[P]) r
    have hsz:vs.size = is.length:=by have:=hz.length; simpa using this
    refine .cons (.lst ho hc hd (by rw [hsz]; exact Nat.le_trans hlen (by decide)) (fun ⟨k,ob,e1,e2,e3⟩=>?_) hz) .nil
    cases k with
    | zero=>cases e3; cases hP.symm.trans ho; cases hc
    | succ k=>cases e3
 have hA:AOk (n + 1) callerA:=⟨rfl,by show 1 + 300 + (n + 1) + 110 ≤ 1000; omega,by show 4 + 4 * (n + 1) + 200 ≤ 9900; omega,[],rfl⟩
 have Fr:FrOk c.A c.base [.tab []] [P] s₁.heap:=fun l hl env he=>by cases hl; cases he
 have hw:=Z8W (K:=K) (c:=c) W (Zal (K:=K) W D hpl n) (Zbd (K:=K) W D hpl hX XD n) hX (Zdi law.body) (and2 hx.1).1 (and2 hx.1).2 hx.2 hf (Zd9 (K:=K) W D hpl hc n) (args:=[.lst (is.map .int)]) (σ:=[.tab []]) (μ:=[P]) (s:=s₁) (vs:=vals) (fun ca' P' e1 e2 e3=>by
  cases e1
  cases Z6h (Zdk e2) (hT (ca,P) List.mem_cons_self).1
  rfl) rfl rfl rfl hA Fr I rv
 rw [hrun] at hw
 refine wpAny_mono hw (fun v s' q8=>El.x1_4 q8 fun μ' r1 I' S' Q'=>?_) fun _ _ e=>e.elim
 obtain rfl:=r1.bool_inv
 obtain ⟨a',ha',ro'⟩:=I'.objs 0 _ hus
 cases (S'.pre 0 P rfl).symm.trans ha'
 obtain ⟨ps,hps,_⟩:=ro'.tabI
 have keep:∀ b o,b ≠ P→s₁.heap.get? b = some o→s'.heap.get? b = some o:=fun b o hb e=>I'.base b o (ghost_ne e fun q=>hb (List.mem_singleton.mp q))
 have old:OldK s₁.heap s'.heap:=by
  refine ⟨fun b o e=>?_,fun b o e=>?_⟩
  ·by_cases hb:b = P
   ·subst hb
    cases hP.symm.trans e
    exact .inr (.inl ⟨((hT (ca,b) List.mem_cons_self).1.tab hP).isCodeTable,rfl,#[],ps,rfl,by rw [Array.empty_append]; exact hps⟩)
   ·exact .inl (keep b o hb e)
  ·by_cases hb:b = P
   ·subst hb; exact ⟨_,hps⟩
   ·exact ⟨o,keep b o hb e⟩
 refine ⟨.inl ⟨.bool true,.bool true,[],rfl,fun _=>rfl,.bool true,?_,fun _=>⟨List.nodup_nil,fun a q=>by cases q⟩⟩,old,Q'.2.2,.of_eq (by rw [Q'.1,hg])⟩
 have hp:l.row.toRowW.post = .eq .res (.lit (.bool true)):=rfl
 have hr:l.row.toRowW.returns = .bool:=rfl
 unfold RowW.claim
 dsimp only
 rw [hp,hr,show WShape.has l.row.toRowW.records (.bool true) .bool = true from rfl]
 unfold WTm.holds
 rw [show WTm.value _ (WTm.res.eq (.lit (.bool true))) _ = some (.bool true) from by simp [WTm.value,same]]
 rfl
end Mine
namespace Mine
open PySem PySem.W PyProof.Rows
noncomputable def Z4Y:List Obj→Nat→BT→BT
 | [],_,t=>t
 | o :: r,i,t=>Z4Y r (i + 1) (t.ins i o)
noncomputable def Z1N (ok:Thread→Bool) (sp:SharedT→Thread→Option (SharedT × Thread)):Nat→SharedT→Thread→Option SharedT
 | 0,_,_=>none
 | n + 1,s,t=>match through t with
  | true=>some s
  | false=>match ok t with
   | false=>none
   | true=>match sp s t with
    | some (s',t')=>Z1N ok sp n s' t'
    | none=>none
theorem Z2K {tb:String→Option Builtin} {p:Program} {w:World} {n₀:Nat} {ann:Option Value}:∀ {n:Nat} {s s':SharedT} {t:Thread},Z1N (stepOk n₀ ann) (stepT (denote tb) p w) n s t = some s'→topRun tb p w n₀ ann n s.abs t = some s'.abs
 | 0,_,_,_,h=>by cases h
 | n + 1,s,s',t,h=>by
  unfold Z1N at h
  unfold topRun
  cases ht:through t with
  | true=>rw [ht] at h; cases h; rfl
  | false=>
   rw [ht] at h
   cases hk:stepOk n₀ ann t with
   | false=>rw [hk] at h; cases h
   | true=>
    rw [hk] at h
    cases hs:stepT (denote tb) p w s t with
    | none=>rw [hs] at h; cases h
    | some r=>obtain ⟨s₂,t₂⟩:=r; rw [hs] at h; rw [stepT_spec hs]; exact Z2K h
noncomputable def Zaz (P:Params) (os:OsState):SharedT:=⟨Z4Y (boot_heap P).objs.toList 0 .nil,(boot_heap P).objs.size,(boot_heap P).life,Array.mk [],boot_drawn,boot_toks,os⟩
theorem Z7T (P:Params):absHeap (Z4Y (boot_heap P).objs.toList 0 .nil) (boot_heap P).objs.size (boot_heap P).life = boot_heap P:=by kernel_rfl
theorem ZaA (P:Params):(boot_heap P).isNs mainGlobals = true:=by kernel_rfl
theorem Z95 {p q:Program} {loose:List Str} {Xt:Shared→Bool} {α:Type} {Yf:Shared→α} {Ya:World→α} {N:Nat} {g0:Bool} (e:opening p = plainProg p.main.scope.names) (hN:Nat.ble 600 N = true) (f:∀ s,fenceModules? p s = some s)
  (run:∀ (w:World) (os:OsState),(Z1N (stepOk (boot_heap w.params).objs.size ((boot_heap w.params).nsMap mainGlobals "__annotations__")) (stepT (denote treeTable) p w) N (Zaz w.params os) (topStub p)).map (fun s=>
   (staticsOk (importedModules p.main.body) (boot_heap w.params) s.abs.heap && namesBound p s.abs.heap && gensDone s.abs && laidKept (boot_heap w.params) s.abs.heap,openSeen q loose (importedModules p.main.body) Xt g0 s.abs,Yf s.abs)) = some (true,openGood q loose,Ya w)):LeftO p q loose Xt Yf Ya N g0:=fun w=>by
 obtain ⟨⟨h,gs,d,k,os⟩,e0,e'⟩:=Option.map_eq_some_iff.mp (boot_open e hN f w)
 obtain ⟨rfl,rfl,rfl,rfl⟩:h = boot_heap w.params∧gs = Array.mk []∧d = boot_drawn∧k = boot_toks:=by simpa using e'
 obtain ⟨s,hs,hv⟩:=Option.map_eq_some_iff.mp (run w os)
 have r:=Z2K hs
 have hab:(Zaz w.params os).abs = ⟨boot_heap w.params,Array.mk [],boot_drawn,boot_toks,os⟩:=by
  unfold SharedT.abs Zaz
  dsimp only
  rw [Z7T]
 rw [hab] at r
 obtain ⟨l1,l2⟩:=Prod.mk.inj hv
 obtain ⟨l2,l3⟩:=Prod.mk.inj l2
 have t:topFrom treeTable p w N ⟨boot_heap w.params,Array.mk [],boot_drawn,boot_toks,os⟩ = some s.abs:=by
  unfold topFrom
  dsimp only
  rw [ZaA,r]
  show (match staticsOk (importedModules p.main.body) (boot_heap w.params) s.abs.heap && namesBound p s.abs.heap && gensDone s.abs && laidKept (boot_heap w.params) s.abs.heap with | true=>_ | false=>_) = _
  rw [l1]
 unfold openEnds
 rw [e0]
 show (topFrom treeTable p w N _).map _ = _
 rw [t]
 exact congrArg some (Prod.ext l2 l3)
theorem Z96 {n₀:Nat} {ann:Option Value} {p:Program} {w:World}:Z1N (stepOk n₀ ann) (stepT (denote treeTable) p w) = Z1N (PySem.W.Fast.tw6613529449190102663 n₀ ann) (PySem.W.Fast.tw10156331382660048174 (PySem.W.Fast.tw11892475500146522536 treeTable) p w):=by
 rw [PySem.W.Fast.te6613529449190102663,PySem.W.Fast.te10156331382660048174,PySem.W.Fast.te11892475500146522536]
end Mine
namespace Mine
open PySem
noncomputable def intT (x y:V) (k:Int→Int→Prop):Prop:=match x with
 | .int a=>(match y with | .int b=>k a b | _=>True)
 | _=>True
noncomputable def Z1i {α:Type} (o:Option α) (k:α→Prop):Prop:=∀ ⦃v:α⦄,o = some v→k v
noncomputable def okT {α:Type} (m:R α) (k:α→St→Prop):Prop:=∀ ⦃v:α⦄ ⦃ρ:List (Option V)⦄ ⦃σ:List O⦄,m = .ok v ⟨ρ,σ⟩→k v ⟨ρ,σ⟩
noncomputable def nzT (b:Int) (P:Prop):Prop:=(b == 0) = false→P
noncomputable def binT (op:Op) (x y:V) (k:V→Prop):Prop:=match op with
 | .add=>(match x with
  | .int a=>(match y with | .int b=>k (.int (a + b)) | _=>True)
  | _=>Z1i (Z6C x y) k)
 | .sub=>intT x y fun a b=>k (.int (a - b))
 | .mul=>Z1i (Z6D x y) k
 | .fdiv=>intT x y fun a b=>nzT b (k (.int (Int.fdiv a b)))
 | .mod=>intT x y fun a b=>nzT b (k (.int (Int.fmod a b)))
 | .pow=>Z1i (Z1D .pow x y) k
noncomputable def cmpT (σ:List O) (op:Cm) (x y:V) (k:Bool→Prop):Prop:=match op with
 | .lt=>intT x y fun a b=>k (decide (a < b))
 | .le=>intT x y fun a b=>k (decide (a ≤ b))
 | .gt=>intT x y fun a b=>k (decide (a > b))
 | .ge=>intT x y fun a b=>k (decide (a ≥ b))
 | .eq=>(match x with
  | .int a=>(match y with | .int b=>k (a == b) | _=>True)
  | .str a=>(match y with | .str b=>k (a == b) | _=>True)
  | _=>Z1i (Z0n σ .eq x y) k)
 | .ne=>(match x with
  | .int a=>(match y with | .int b=>k (!(a == b)) | _=>True)
  | .str a=>(match y with | .str b=>k (!(a == b)) | _=>True)
  | _=>Z1i (Z0n σ .ne x y) k)
 | .is=>(match y with | .none=>k x.isNone | _=>True)
 | .isnot=>(match y with | .none=>k (!x.isNone) | _=>True)
 | .isin=>Z1i (inD σ x y) k
 | .notin=>Z1i (inD σ x y) fun b=>k (!b)
noncomputable def truT (σ:List O) (x:V) (k:Bool→Prop):Prop:=match x with
 | .bool b=>k b
 | .int i=>k (i != 0)
 | .none=>k false
 | .str s=>k (!s.isEmpty)
 | .tup xs=>k (!xs.isEmpty)
 | .lst xs=>k (!xs.isEmpty)
 | x=>Z1i (x.truthy σ) k
noncomputable def brT (t:Bool) (A B:Prop):Prop:=∀ ⦃b:Bool⦄,t = b→cond b A B
noncomputable def isT {α:Type} (x:α) (k:α→Prop):Prop:=∀ ⦃y:α⦄,x = y→k y
noncomputable def newT (σ:List O) (o:O) (k:Nat→List O→Prop):Prop:=∀ ⦃n:Nat⦄ ⦃σ':List O⦄,σ.length = n→σ++[o] = σ'→k n σ'
noncomputable def V.wb:V→Bool→V
 | .bool _,b=>.bool b
 | x,_=>x
noncomputable def locT (o:Option (Option V)) (k:V→Prop):Prop:=match o with
 | some (some v)=>k v
 | _=>True
noncomputable def fzT (i:Nat) (st:St) (k:V→St→Prop):Prop:=locT st.ρ[i]? fun v=>match v with
 | .ref n=>∀ ⦃xs:List V⦄ ⦃σ:List O⦄,st.σ[n]? = some (.lst xs)→st.σ.set n .dead = σ→k (.lst xs) ⟨st.ρ.set i (some (.lst xs)),σ⟩
 | .lst xs=>k (.lst xs) st
 | _=>True
noncomputable def nlen:Nat→Exs→Bool
 | _,.nil=>true
 | 0,.cons _ _=>false
 | n + 1,.cons _ es=>nlen n es
noncomputable def shT (b:Bool) (P:Prop):Prop:=match b with
 | true=>P
 | false=>True
noncomputable def rawT (v:V) (k:Addr→Prop):Prop:=match v with
 | .raw u=>k u
 | _=>True
mutual
noncomputable def tlE (F:Fn):Ex→St→(V→St→Prop)→Prop
 | .none,st,k=>k .none st
 | .bool b,st,k=>k (.bool b) st
 | .int i,st,k=>k (.int i) st
 | .str s,st,k=>k (.str s.cps.toList) st
 | .loc i,st,k=>locT st.ρ[i]? fun v=>k v st
 | .fz i,st,k=>fzT i st k
 | .bin op a b,st,k=>tlE F a st fun x st=>tlE F b st fun y st=>binT op x y fun v=>k v st
 | .cmp op a b,st,k=>tlE F a st fun x st=>tlE F b st fun y st=>cmpT st.σ op x y fun v=>k (.bool v) st
 | .band a b,st,k=>tlE F a st fun x st=>truT st.σ x fun t=>brT t (tlE F b st k) (k (x.wb false) st)
 | .bor a b,st,k=>tlE F a st fun x st=>truT st.σ x fun t=>brT t (k (x.wb true) st) (tlE F b st k)
 | .not a,st,k=>tlE F a st fun x st=>truT st.σ x fun t=>k (.bool (!t)) st
 | .neg i,st,k=>k (.int (-i)) st
 | .ite c a b,st,k=>tlE F c st fun x st=>truT st.σ x fun t=>brT t (tlE F a st k) (tlE F b st k)
 | .tup es,st,k=>shT (nlen 100 es) (tlEs F es st fun xs st=>k (.tup xs) st)
 | .list es,st,k=>shT (nlen 100 es) (tlEs F es st fun xs st=>k (.lst xs) st)
 | .listM es,st,k=>shT (nlen 100 es) (tlEs F es st fun xs st=>newT st.σ (.lst xs) fun n σ=>k (.ref n) ⟨st.ρ,σ⟩)
 | .sub a i,st,k=>tlE F a st fun x st=>tlE F i st fun y st=>Z1i (Z0b st.σ x y) fun v=>k v st
 | .slice a lo hi,st,k=>tlE F a st fun x st=>tlO F lo st fun l st=>tlO F hi st fun h st=>Z1i (Z0o st.σ x l h) fun v=>k v st
 | .isin a t,st,k=>tlE F a st fun x st=>Z1i (Z9K st.σ t x) fun v=>k (.bool v) st
 | .bi f a,st,k=>tlE F a st fun x st=>Z1i (Z0O st.σ f x) fun v=>k v st
 | .me m a b,st,k=>tlE F a st fun x st=>Z1W st.σ m x = true→tlE F b st fun y st=>okT (Z1C m x y st) k
 | .call f es,st,k=>tlEs F es st fun xs st=>okT (F f xs st.σ) fun v s=>k v ⟨st.ρ,s.σ⟩
 | .dictM,st,k=>newT st.σ (.idict []) fun n σ=>k (.ref n) ⟨st.ρ,σ⟩
 | .comp elt j it ifs,st,k=>okT (evE F (.comp elt j it ifs) st) k
 | .dictK,st,k=>newT st.σ (.kdict []) fun n σ=>k (.ref n) ⟨st.ρ,σ⟩
 | .chain a o1 b o2 c,st,k=>tlE F a st fun x st=>tlE F b st fun y st=>cmpT st.σ o1 x y fun t=>brT t (tlE F c st fun z st=>cmpT st.σ o2 y z fun v=>k (.bool v) st) (k (.bool false) st)
 | .dict1 a b,st,k=>newT st.σ .priv fun n σ=>tlE F a ⟨st.ρ,σ⟩ fun x st₁=>tlE F b st₁ fun y st₂=>okT (Z2Z n x y st₂) k
 | .callP i a,st,k=>locT st.ρ[i]? fun v=>rawT v fun u=>tlE F a st fun x st=>okT (F Z0F [.raw u,x] st.σ) fun v s=>k v ⟨st.ρ,s.σ⟩
 | .cap i,st,k=>okT (F Z1a [.int i] st.σ) fun v s=>k v ⟨st.ρ,s.σ⟩
noncomputable def tlEs (F:Fn):Exs→St→(List V→St→Prop)→Prop
 | .nil,st,k=>k [] st
 | .cons e es,st,k=>tlE F e st fun x st=>tlEs F es st fun xs st=>k (x :: xs) st
noncomputable def tlO (F:Fn):Exo→St→(V→St→Prop)→Prop
 | .none,st,k=>k .none st
 | .some e,st,k=>tlE F e st k
noncomputable def tlIt (F:Fn):It→St→(List V→St→Prop)→Prop
 | .val e,st,k=>tlE F e st fun x st=>Z1i (Z1X st.σ x) fun v=>k v st
 | .range1 a,st,k=>tlE F a st fun x st=>(match x with
  | .int n=>isT n fun n=>Z0G n = true→k (upTo 0 n) st
  | _=>True)
 | .enum a,st,k=>tlE F a st fun x st=>okT (Zbw x st) k
 | .range2 a b,st,k=>tlE F a st fun x st=>tlE F b st fun y st=>okT (rng2 x y st) k
 | .zip a b,st,k=>tlE F a st fun x st=>tlE F b st fun y st=>okT (zipR x y st) k
end
noncomputable def tlTs (F:Fn):Exs→St→(Bool→St→Prop)→Prop
 | .nil,st,k=>k true st
 | .cons e es,st,k=>tlE F e st fun x st=>truT st.σ x fun t=>brT t (tlTs F es st k) (k false st)
noncomputable def cdT (o:Bool) (A B:Prop):Prop:=match o with
 | false=>A
 | true=>B
noncomputable def flT (fl:Fl) (A:Prop) (B:Prop):Prop:=match fl with
 | .next=>A
 | _=>B
mutual
noncomputable def tlS (F:Fn) (K:Nat) (o:Bool):Sm→St→(Fl→St→Prop)→Prop
 | .asg i e,st,k=>tlE F e st fun x st=>isT x fun x=>k .next ⟨st.ρ.set i (some x),st.σ⟩
 | .asgT is e,st,k=>tlE F e st fun x st=>okT (asT is x st) fun _ st=>k .next st
 | .expr e,st,k=>tlE F e st fun _ st=>k .next st
 | .ret e,st,k=>tlE F e st fun x st=>isT x fun x=>k (.ret x) st
 | .ifte c t f,st,k=>cdT o (tlE F c st fun x st=>truT st.σ x fun b=>brT b (tlSs F K o t st k) (tlSs F K o f st k)) (okT (Z03 (evE F c st)) fun b st=>cond b (tlSs F K o t st k) (tlSs F K o f st k))
 | .for1 i it body,st,k=>tlIt F it st fun items st=>okT (forR (fun x st=>evSs F K body (setV st i x)) items st) k
 | .forT is it body,st,k=>tlIt F it st fun items st=>okT (forR (fun x st=>(asT is x st).bind fun _ st=>evSs F K body st) items st) k
 | .while c body,st,k=>okT (Z0x (fun st=>Z03 (evE F c st)) (fun st=>evSs F K body st) K st) k
 | .brk,st,k=>k .brk st
 | .stk,_,_=>True
 | .asgI a i e,st,k=>tlE F e st fun v st=>tlE F a st fun x st=>tlE F i st fun y st=>okT (setI x y v st) k
noncomputable def tlSs (F:Fn) (K:Nat) (o:Bool):Sms→St→(Fl→St→Prop)→Prop
 | .nil,st,k=>k .next st
 | .cons s ss,st,k=>tlS F K o s st fun fl st=>flT fl (tlSs F K o ss st k) (k fl st)
end
section
variable {F:Fn} {K:Nat} {st:St}
noncomputable def Aft {α:Type} (m:R α) (k:α→St→Prop):Prop:=∀ v st',m = .ok v st'→k v st'
theorem Aft.bind {α β:Type} {m:R α} {f:α→St→R β} {k:β→St→Prop} (h:Aft (m.bind f) k):Aft m fun a st=>Aft (f a st) k:=fun a st e b st' e'=>h b st' ((congrArg (fun m=>R.bind m f) e).trans e')
theorem Aft.at {α:Type} {a:α} {k:α→St→Prop} (h:Aft (.ok a st) k):k a st:=h a st rfl
theorem Aft.lift {α:Type} {o:Option α} {k:α→St→Prop} (h:Aft (R.lift o st) k):Z1i o fun a=>k a st:=fun v e=>h v st (congrArg (fun o=>R.lift o st) e)
theorem Aft.liftB {o:Option Bool} {k:V→St→Prop} (h:Aft (R.lift (o.map V.bool) st) k):Z1i o fun a=>k (.bool a) st:=fun v e=>h _ st (congrArg (fun o=>R.lift (o.map V.bool) st) e)
theorem Aft.ok {α:Type} {m:R α} {k:α→St→Prop} (h:Aft m k):okT m k:=fun v ρ σ e=>h v ⟨ρ,σ⟩ e
theorem Aft.int {x y:V} {g:Int→Int→Option V} {k:V→St→Prop} (h:Aft (R.lift (onI x y g) st) k):intT x y fun a b=>Z1i (g a b) fun v=>k v st:=by
 cases x <;> first | trivial | (cases y <;> first | trivial | exact h.lift)
theorem Aft.ifs {α:Type} {p:Prop} [Decidable p] {a b:R α} {k:α→St→Prop} (h:Aft (if p then a else b) k) (hp:p):Aft a k:=by rw [if_pos hp] at h; exact h
theorem Aft.br {α:Type} {t:Bool} {a b:R α} {k:α→St→Prop} (h:Aft (if t then a else b) k):brT t (Aft a k) (Aft b k):=fun u e=>by
 subst e
 cases t with
 | true=>exact h
 | false=>exact h
theorem brT.imp {t:Bool} {A B A' B':Prop} (h:brT t A B) (a:A→A') (b:B→B'):brT t A' B':=fun u e=>by
 have q:=h e
 cases u with
 | true=>exact a q
 | false=>exact b q
theorem Zdm {σ:List O} {x:V} {t:Bool} (h:x.truthy σ = some t):x = x.wb t:=by
 cases x <;> first | rfl | exact congrArg V.bool (Option.some.inj h)
theorem brT.impf {σ:List O} {x:V} {t:Bool} {A A' B:Prop} {k:V→St→Prop} {st:St} (h:brT t A B) (e:x.truthy σ = some t) (a:A→A') (b:B→k x st):brT t A' (k (x.wb false) st):=fun u q=>by
 have r:=h q
 cases u with
 | true=>exact a r
 | false=>rw [q] at e; rw [← Zdm e]; exact b r
theorem brT.impt {σ:List O} {x:V} {t:Bool} {A B B':Prop} {k:V→St→Prop} {st:St} (h:brT t A B) (e:x.truthy σ = some t) (a:A→k x st) (b:B→B'):brT t (k (x.wb true) st) B':=fun u q=>by
 have r:=h q
 cases u with
 | true=>rw [q] at e; rw [← Zdm e]; exact a r
 | false=>exact b r
theorem ZdI {op:Op} {x y:V} {k:V→St→Prop} (h:Aft (R.lift (Z1D op x y) st) k):binT op x y fun v=>k v st:=by
 have h:=h.lift
 cases op with
 | add=>cases x <;> first | exact h | (cases y <;> first | trivial | exact h rfl)
 | sub=>cases x <;> first | trivial | (cases y <;> first | trivial | exact h rfl)
 | mul=>exact h
 | fdiv=>cases x <;> first | trivial | (cases y <;> first | trivial | exact fun e=>h (if_neg (ne_of_beq_false e)))
 | mod=>cases x <;> first | trivial | (cases y <;> first | trivial | exact fun e=>h (if_neg (ne_of_beq_false e)))
 | pow=>exact h
theorem Zcn {σ:List O} {op:Cm} {x y:V} {k:Bool→Prop} (h:Z1i (Z0n σ op x y) k):cmpT σ op x y k:=by
 cases op with
 | lt=>cases x <;> first | trivial | (cases y <;> first | trivial | exact h rfl)
 | le=>cases x <;> first | trivial | (cases y <;> first | trivial | exact h rfl)
 | gt=>cases x <;> first | trivial | (cases y <;> first | trivial | exact h rfl)
 | ge=>cases x <;> first | trivial | (cases y <;> first | trivial | exact h rfl)
 | eq=>cases x <;> first | exact h | (cases y <;> first | trivial | exact h rfl)
 | ne=>cases x <;> first | exact h | (cases y <;> first | trivial | exact h rfl)
 | is=>cases y <;> first | trivial | exact h rfl
 | isnot=>cases y <;> first | trivial | exact h rfl
 | isin=>exact h
 | notin=>exact fun b e=>h (congrArg (Option.map not) e)
theorem Zco {σ:List O} {x:V} {k:Bool→Prop} (h:Z1i (x.truthy σ) k):truT σ x k:=by
 cases x <;> first | exact h | exact h rfl
theorem Zcp {o:Option (Option V)} {k:V→Prop} (h:∀ v,o = some (some v)→k v):locT o k:=by
 rcases o with _ | _ | v
 ·trivial
 ·trivial
 ·exact h v rfl
theorem fz_t {i:Nat} {k:V→St→Prop} (h:Aft (evE F (.fz i) st) k):fzT i st k:=by
 refine Zcp fun v e=>?_
 cases v <;> first | trivial | skip
 ·have h:=h
  rw [Z86,e] at h
  exact h.at
 ·intro xs σ e1 e2
  subst e2
  rw [Z86,e] at h
  dsimp only at h
  rw [e1] at h
  exact h.at
theorem Z97:∀ (es:Exs) (n:Nat),nlen n es = true→∀ (st:St),Aft (evEs F es st) fun xs _=>xs.length ≤ n :=
 Exs.rec (motive_1:=fun _=>True) (motive_3:=fun _=>True) (motive_4:=fun _=>True) (motive_2:=fun es=>∀ n,nlen n es = true→∀ st,Aft (evEs F es st) fun xs _=>xs.length ≤ n)
  (by intros; trivial) (by intros; trivial) (by intros; trivial) (by intros; trivial) (by intros; trivial) (by intros; trivial) (by intros; trivial) (by intros; trivial) (by intros; trivial) (by intros; trivial) (by intros; trivial) (by intros; trivial) (by intros; trivial) (by intros; trivial) (by intros; trivial) (by intros; trivial) (by intros; trivial) (by intros; trivial) (by intros; trivial) (by intros; trivial) (by intros; trivial) (by intros; trivial) (by intros; trivial) (by intros; trivial) (by intros; trivial) (by intros; trivial) (by intros; trivial) (by intros; trivial) (by intros; trivial)
  (fun n _ st v st' e=>by cases (e:R.ok [] st = _); exact Nat.zero_le _)
  (fun e es _ ih n q st v st' h=>by
   cases n with
   | zero=>cases q
   | succ n=>
    refine El.x2_2 (R.bind_inv (f:=fun x st=>(evEs F es st).bind fun xs st=>.ok (x :: xs) st) h) fun x st₁ _ h2=>?_
    refine El.x2_2 (R.bind_inv h2) fun ys st₂ h3 h4=>?_
    cases h4; exact Nat.succ_le_succ (ih n q st₁ ys _ h3))
  (by intros; trivial) (by intros; trivial) (by intros; trivial) (by intros; trivial) (by intros; trivial) (by intros; trivial) (by intros; trivial)
theorem sh_t {b:Bool} {P:Prop} (h:b = true→P):shT b P:=by
 cases b with
 | true=>exact h rfl
 | false=>trivial
theorem Aft.step {α β:Type} {m:R α} {f:α→St→R β} {k:β→St→Prop} {k':α→St→Prop} (h:Aft (m.bind f) k) (g:∀ a st,Aft (f a st) k→k' a st):Aft m k':=fun a st e=>g a st fun b st' e'=>h b st' ((congrArg (fun m=>R.bind m f) e).trans e')
theorem Aft.tru {m:R V} {k:Bool→St→Prop} (h:Aft (Z03 m) k):Aft m fun x st=>truT st.σ x fun t=>k t st:=Aft.step h fun _ _ h=>Zco h.lift
theorem Aft.trus {β:Type} {m:R V} {f:Bool→St→R β} {k:β→St→Prop} {k':V→St→Prop} (h:Aft ((Z03 m).bind f) k) (g:∀ x st,truT st.σ x (fun t=>Aft (f t st) k)→k' x st):Aft m k':=fun a st e=>g a st (h.bind.tru a st e)
theorem truT.imp {σ:List O} {x:V} {k k':Bool→Prop} (h:truT σ x k) (g:∀ t,k t→k' t):truT σ x k':=by
 cases x <;> first | exact g _ h | exact fun v e=>g _ (h e)
theorem Aft.size {c:List V→V} {es:Exs} {k:V→St→Prop} {f:List V→St→St} (h:Aft ((evEs F es st).bind fun xs st=>if xs.length ≤ sizeLine then .ok (c xs) (f xs st) else .stuck) k) (q:nlen 100 es = true):Aft (evEs F es st) fun xs st=>k (c xs) (f xs st):=fun xs st' e=>by
 exact (h.bind xs st' e).ifs (Nat.le_trans (Z97 es 100 q st xs st' e) (by decide)) |>.at
theorem ZaB {σ:List O} {o:O} {k:Nat→List O→Prop} (h:k σ.length (σ++[o])):newT σ o k:=fun _ _ e e'=>e ▸ e' ▸ h
theorem okc {m:R V} {ρ:List (Option V)} {k:V→St→Prop} (h:Aft (Z0q m ρ) k):okT m fun v s=>k v ⟨ρ,s.σ⟩:=fun v ρ' σ e=>h v ⟨ρ,σ⟩ (congrArg (fun m=>Z0q m ρ) e)
theorem Z0h (F:Fn) (e:Ex):∀ st k,Aft (evE F e st) k→tlE F e st k :=
 Ex.rec (motive_1:=fun e=>∀ st k,Aft (evE F e st) k→tlE F e st k) (motive_2:=fun e=>∀ st k,Aft (evEs F e st) k→tlEs F e st k) (motive_3:=fun e=>∀ st k,Aft (evO F e st) k→tlO F e st k) (motive_4:=fun _=>True)
  (fun st k h=>h.at) (fun b st k h=>h.at) (fun i st k h=>h.at) (fun x st k h=>h.at)
  (fun i st k h=>Zcp fun v e=>by rw [Z4u,e] at h; exact h.at)
  (fun i st k h=>fz_t h)
  (fun op a b iha ihb st k h=>iha st _ (Aft.step h fun x st h=>ihb st _ (Aft.step h fun y st h=>ZdI h)))
  (fun op a b iha ihb st k h=>iha st _ (Aft.step h fun x st h=>ihb st _ (Aft.step h fun y st h=>Zcn h.liftB)))
  (fun a b iha ihb st k h=>iha st _ (Aft.step h fun x st h=>Zco fun t e=>(h.bind t st (congrArg (fun o=>R.lift o st) e)).br.impf e (ihb st k) fun h=>h.at))
  (fun a b iha ihb st k h=>iha st _ (Aft.step h fun x st h=>Zco fun t e=>(h.bind t st (congrArg (fun o=>R.lift o st) e)).br.impt e (fun h=>h.at) (ihb st k)))
  (fun a iha st k h=>iha st _ (Aft.trus h fun x st h=>h.imp fun t h=>h.at))
  (fun i st k h=>h.at)
  (fun c a b ihc iha ihb st k h=>ihc st _ (Aft.trus h fun x st h=>h.imp fun t h=>h.br.imp (iha st k) (ihb st k)))
  (fun es ih st k h=>sh_t fun q=>ih st _ (Aft.size (c:=V.tup) (f:=fun _ st=>st) h q))
  (fun es ih st k h=>sh_t fun q=>ih st _ (Aft.size (c:=V.lst) (f:=fun _ st=>st) h q))
  (fun es ih st k h=>sh_t fun q=>ih st _ fun xs st' e=>(Aft.bind (β:=V) (f:=fun xs st=>if xs.length ≤ sizeLine then .ok (V.ref st.σ.length) ⟨st.ρ,st.σ++[O.lst xs]⟩ else .stuck) h xs st' e).ifs (Nat.le_trans (Z97 es 100 q st xs st' e) (by decide)) |>.at |> ZaB)
  (fun a b iha ihb st k h=>iha st _ (Aft.step h fun x st h=>ihb st _ (Aft.step h fun y st h=>h.lift)))
  (fun a lo hi iha ihl ihh st k h=>iha st _ (Aft.step h fun x st h=>ihl st _ (Aft.step h fun l st h=>ihh st _ (Aft.step h fun y st h=>h.lift))))
  (fun a t iha st k h=>iha st _ (Aft.step h fun x st h=>h.liftB))
  (fun f a iha st k h=>iha st _ (Aft.step h fun x st h=>h.lift))
  (fun m a b iha ihb st k h=>iha st _ (Aft.step h fun x st h q=>ihb st _ (Aft.step (h.ifs q) fun y st h=>h.ok)))
  (fun f es ih st k h=>ih st _ (Aft.step h fun xs st h=>okc h))
  (fun st k h=>ZaB (k:=fun n σ=>k (.ref n) ⟨st.ρ,σ⟩) h.at)
  (fun elt j it ifs _ _ _ st k h=>h.ok)
  (fun st k h=>ZaB (k:=fun n σ=>k (.ref n) ⟨st.ρ,σ⟩) h.at)
  (fun a o1 b o2 c iha ihb ihc st k h=>iha st _ (Aft.step h fun x st h=>ihb st _ (Aft.step h fun y st h=>Zcn fun t e=>(h.bind t st (congrArg (fun o=>R.lift o st) e)).br.imp (fun h=>ihc st _ (Aft.step h fun z st h=>Zcn h.liftB)) fun h=>h.at)))
  (fun a b iha ihb st k h=>ZaB (iha _ _ (Aft.step h fun x st₁ h=>ihb st₁ _ (Aft.step h fun y st₂ h=>h.ok))))
  (fun i a iha st k h=>Zcp fun v e=>by
   cases v <;> first | trivial | skip
   rename_i u
   rw [Z5d,e] at h
   exact iha st _ (Aft.step (h:Aft ((evE F a st).bind fun x st=>Z0q (F Z0F [.raw u,x] st.σ) st.ρ) k) fun x st h=>okc h))
  (fun i st k h=>okc h)
  (fun st k h=>h.at)
  (fun e es ihe ihs st k h=>ihe st _ (Aft.step h fun x st h=>ihs st _ (Aft.step h fun xs st h=>h.at)))
  (fun st k h=>h.at) (fun e ih st k h=>ih st k h)
  (fun _ _=>trivial) (fun _ _=>trivial) (fun _ _=>trivial) (fun _ _ _ _=>trivial) (fun _ _ _ _=>trivial) e
theorem Z3E (F:Fn) (it:It):∀ st k,Aft (evIt F it st) k→tlIt F it st k :=
 It.casesOn (motive_4:=fun it=>∀ st k,Aft (evIt F it st) k→tlIt F it st k) it
  (fun e st k h=>Z0h F e st _ (Aft.step h fun x st h=>h.lift))
  (fun e st k h=>Z0h F e st _ (Aft.step h fun x st h=>by cases x <;> first | trivial | exact fun m e q=>by subst e; exact (h.ifs q).at))
  (fun e st k h=>Z0h F e st _ (Aft.step h fun x st h=>h.ok))
  (fun a b st k h=>Z0h F a st _ (Aft.step h fun x st h=>Z0h F b st _ (Aft.step h fun y st h=>h.ok)))
  (fun a b st k h=>Z0h F a st _ (Aft.step h fun x st h=>Z0h F b st _ (Aft.step h fun y st h=>h.ok)))
theorem Zbg {fl:Fl} {ss:Sms} {k:Fl→St→Prop} {P:Prop} (hP:Aft (evSs F K ss st) k→P) (h:Aft (match fl with | .next=>evSs F K ss st | f=>.ok f st) k):flT fl P (k fl st):=by
 cases fl with
 | next=>exact hP h
 | brk=>exact h.at
 | cont=>exact h.at
 | ret v=>exact h.at
theorem cd_t {o:Bool} {A B:Prop} (a:A) (b:B):cdT o A B:=by cases o <;> assumption
theorem Zbh (F:Fn) (K:Nat) (o:Bool):(∀ s st k,Aft (evS F K s st) k→tlS F K o s st k)∧(∀ ss st k,Aft (evSs F K ss st) k→tlSs F K o ss st k) :=
 ⟨fun s=>Sm.rec (motive_1:=fun s=>∀ st k,Aft (evS F K s st) k→tlS F K o s st k) (motive_2:=fun ss=>∀ st k,Aft (evSs F K ss st) k→tlSs F K o ss st k)
  (fun i e st k h=>Z0h F e st _ (Aft.step h fun x st h y e=>e ▸ h.at))
  (fun is e st k h=>Z0h F e st _ (Aft.step h fun x st h=>(Aft.step h fun _ st h=>h.at).ok))
  (fun e st k h=>Z0h F e st _ (Aft.step h fun x st h=>h.at))
  (fun e st k h=>Z0h F e st _ (Aft.step h fun x st h y e=>e ▸ h.at))
  (fun c t f iht ihf st k h=>cd_t (Z0h F c st _ (Aft.trus h fun x st h=>h.imp fun t h=>h.br.imp (iht st k) (ihf st k))) (Aft.ok (Aft.step h fun b st h=>(h.br.imp (iht st k) (ihf st k)) rfl)))
  (fun i it body _ st k h=>Z3E F it st _ (Aft.step h fun xs st h=>h.ok))
  (fun is it body _ st k h=>Z3E F it st _ (Aft.step h fun xs st h=>h.ok))
  (fun c body _ st k h=>h.ok)
  (fun st k h=>h.at)
  (fun st k h=>trivial)
  (fun a i e st k h=>Z0h F e st _ (Aft.step h fun v st h=>Z0h F a st _ (Aft.step h fun x st h=>Z0h F i st _ (Aft.step h fun y st h=>h.ok))))
  (fun st k h=>h.at)
  (fun s ss ihs ihss st k h=>ihs st _ (Aft.step h fun fl st h=>Zbg (ihss st k) h))
  s,fun ss=>Sms.rec (motive_1:=fun s=>∀ st k,Aft (evS F K s st) k→tlS F K o s st k) (motive_2:=fun ss=>∀ st k,Aft (evSs F K ss st) k→tlSs F K o ss st k)
  (fun i e st k h=>Z0h F e st _ (Aft.step h fun x st h y e=>e ▸ h.at))
  (fun is e st k h=>Z0h F e st _ (Aft.step h fun x st h=>(Aft.step h fun _ st h=>h.at).ok))
  (fun e st k h=>Z0h F e st _ (Aft.step h fun x st h=>h.at))
  (fun e st k h=>Z0h F e st _ (Aft.step h fun x st h y e=>e ▸ h.at))
  (fun c t f iht ihf st k h=>cd_t (Z0h F c st _ (Aft.trus h fun x st h=>h.imp fun t h=>h.br.imp (iht st k) (ihf st k))) (Aft.ok (Aft.step h fun b st h=>(h.br.imp (iht st k) (ihf st k)) rfl)))
  (fun i it body _ st k h=>Z3E F it st _ (Aft.step h fun xs st h=>h.ok))
  (fun is it body _ st k h=>Z3E F it st _ (Aft.step h fun xs st h=>h.ok))
  (fun c body _ st k h=>h.ok)
  (fun st k h=>h.at)
  (fun st k h=>trivial)
  (fun a i e st k h=>Z0h F e st _ (Aft.step h fun v st h=>Z0h F a st _ (Aft.step h fun x st h=>Z0h F i st _ (Aft.step h fun y st h=>h.ok))))
  (fun st k h=>h.at)
  (fun s ss ihs ihss st k h=>ihs st _ (Aft.step h fun fl st h=>Zbg (ihss st k) h))
  ss⟩
theorem Zbi (F:Fn) (K:Nat) (o:Bool) (s:Sm):∀ st k,Aft (evS F K s st) k→tlS F K o s st k:=(Zbh F K o).1 s
theorem Z98 (F:Fn) (K:Nat) (o:Bool) (ss:Sms):∀ st k,Aft (evSs F K ss st) k→tlSs F K o ss st k:=(Zbh F K o).2 ss
noncomputable def tlP (F:Fn) (K:Nat) (o:Bool):Nat→Sms→St→(Sms→St→Prop)→Prop
 | 0,ss,st,k=>k ss st
 | _ + 1,.nil,_,_=>True
 | n + 1,.cons s ss,st,k=>tlS F K o s st fun fl st=>flT fl (tlP F K o n ss st k) True
theorem Zbj (F:Fn) (K:Nat) (o:Bool):∀ (n:Nat) (ss:Sms) (st:St) (k:Sms→St→Prop),(∀ ss' st',evSs F K ss st = evSs F K ss' st'→k ss' st')→tlP F K o n ss st k
 | 0,ss,st,k,h=>h ss st rfl
 | _ + 1,.nil,_,_,_=>trivial
 | n + 1,.cons s ss,st,k,h=>Zbi F K o s st _ fun fl st1 e=>by
  cases fl <;> first | trivial | exact Zbj F K o n ss st1 k fun ss' st' q=>h ss' st' ((congrArg (fun m=>R.bind m _) e).trans q)
theorem atS {ss:Sms} {r:R Fl} (t:(tlSs F K false ss st fun fl st'=>evSs F K ss st = .ok fl st')→evSs F K ss st = r):evSs F K ss st = r:=t (Z98 F K false ss st _ fun _ _ e=>e)
theorem at1 {s:Sm} {r:R Fl} (t:(tlS F K false s st fun fl st'=>evS F K s st = .ok fl st')→evS F K s st = r):evS F K s st = r:=t (Zbi F K false s st _ fun _ _ e=>e)
theorem atE {e:Ex} {r:R V} (t:(tlE F e st fun v st'=>evE F e st = .ok v st')→evE F e st = r):evE F e st = r:=t (Z0h F e st _ fun _ _ e=>e)
theorem atQ {e:Ex} {r:R Bool} (t:(tlE F e st fun v st'=>truT st'.σ v fun b=>Z03 (evE F e st) = .ok b st')→Z03 (evE F e st) = r):Z03 (evE F e st) = r:=t (Z0h F e st _ (Aft.tru (k:=fun b st'=>Z03 (evE F e st) = .ok b st') fun _ _ e=>e))
theorem atP (n:Nat) {ss:Sms} {r:R Fl} (t:(tlP F K false n ss st fun ss' st'=>evSs F K ss st = evSs F K ss' st')→evSs F K ss st = r):evSs F K ss st = r:=t (Zbj F K false n ss st _ fun _ _ e=>e)
theorem atI {e:It} {r:R (List V)} (t:(tlIt F e st fun v st'=>evIt F e st = .ok v st')→evIt F e st = r):evIt F e st = r:=t (Z3E F e st _ fun _ _ e=>e)
theorem atC {ss:Sms} {r:R Fl} (t:(tlSs F K true ss st fun fl st'=>evSs F K ss st = .ok fl st')→evSs F K ss st = r):evSs F K ss st = r:=t (Z98 F K true ss st _ fun _ _ e=>e)
theorem ZdJ {σ:List O} {x:List Nat} {i:Int} {c:Nat} (h:idxOf x i = some c):Z0b σ (.str x) (.int i) = some (.str [c]):=congrArg (Option.map fun c=>V.str [c]) h
theorem okb {m:R Bool} {b b':Bool} (h:m = .ok b st) (e:b = b'):m = .ok b' st:=e ▸ h
theorem if_t {c:Ex} {A B:Sms} {st':St} (h:Z03 (evE F c st) = .ok true st'):evS F K (.ifte c A B) st = evSs F K A st':=(congrArg (fun m=>R.bind m _) h).trans rfl
theorem if_f {c:Ex} {A B:Sms} {st':St} (h:Z03 (evE F c st) = .ok false st'):evS F K (.ifte c A B) st = evSs F K B st':=(congrArg (fun m=>R.bind m _) h).trans rfl
theorem one1 {s:Sm} {fl:Fl} {st':St} (h:evS F K s st = .ok fl st'):evSs F K (.cons s .nil) st = .ok fl st':=(congrArg (fun m=>R.bind m _) h).trans (by cases fl <;> rfl)
theorem Zdn {s:Sm} {ss:Sms} {st':St} (h:evS F K s st = .ok .next st'):evSs F K (.cons s ss) st = evSs F K ss st':=(congrArg (fun m=>R.bind m _) h).trans rfl
theorem nn {b c:Bool} (h:b = c):(!!b) = c:=(Bool.not_not b).trans h
theorem nz {i:Int} (h:i ≠ 0):(i == 0) = false:=beq_eq_false_iff_ne.mpr h
end
noncomputable def S4 (a1 a2 a3 a4:Option V) (σ:List O):St:=⟨[a1,a2,a3,a4],σ⟩
noncomputable def S5 (a1 a2 a3 a4 a5:Option V) (σ:List O):St:=⟨[a1,a2,a3,a4,a5],σ⟩
noncomputable def S6 (a1 a2 a3 a4 a5 a6:Option V) (σ:List O):St:=⟨[a1,a2,a3,a4,a5,a6],σ⟩
noncomputable def S7 (a1 a2 a3 a4 a5 a6 a7:Option V) (σ:List O):St:=⟨[a1,a2,a3,a4,a5,a6,a7],σ⟩
noncomputable def S8 (a1 a2 a3 a4 a5 a6 a7 a8:Option V) (σ:List O):St:=⟨[a1,a2,a3,a4,a5,a6,a7,a8],σ⟩
noncomputable def S9 (a1 a2 a3 a4 a5 a6 a7 a8 a9:Option V) (σ:List O):St:=⟨[a1,a2,a3,a4,a5,a6,a7,a8,a9],σ⟩
noncomputable def S11 (a1 a2 a3 a4 a5 a6 a7 a8 a9 a10 a11:Option V) (σ:List O):St:=⟨[a1,a2,a3,a4,a5,a6,a7,a8,a9,a10,a11],σ⟩
noncomputable def S12 (a1 a2 a3 a4 a5 a6 a7 a8 a9 a10 a11 a12:Option V) (σ:List O):St:=⟨[a1,a2,a3,a4,a5,a6,a7,a8,a9,a10,a11,a12],σ⟩
noncomputable def S14 (a1 a2 a3 a4 a5 a6 a7 a8 a9 a10 a11 a12 a13 a14:Option V) (σ:List O):St:=⟨[a1,a2,a3,a4,a5,a6,a7,a8,a9,a10,a11,a12,a13,a14],σ⟩
end Mine
namespace Mine
section
variable {σ τ α:Type} [DecidableEq σ] [DecidableEq α]
noncomputable def addQ (t:List τ) (q:List (σ × List τ)) (p:τ × σ):List (σ × List τ):=if p.2 ∈ q.map (·.1) then q else q++[(p.2,t++[p.1])]
noncomputable def expQ (nx:σ→List (τ × σ)) (q:List (σ × List τ)) (e:σ × List τ):List (σ × List τ):=(nx e.1).foldl (addQ e.2) q
inductive Done (nx:σ→List (τ × σ)):Nat→List (σ × List τ)→List (σ × List τ)→Prop
 | stop {k:Nat} {q:List (σ × List τ)}:k = q.length→Done nx k q q
 | step {k:Nat} {q qf:List (σ × List τ)} {e:σ × List τ}:q[k]? = some e→Done nx (k + 1) (expQ nx q e) qf→Done nx k q qf
theorem Z2t (t:List τ) (q:List (σ × List τ)) (p:τ × σ):∃ r,addQ t q p = q++r:=by
 unfold addQ
 split
 ·exact ⟨[],(List.append_nil _).symm⟩
 ·exact ⟨_,rfl⟩
theorem Z29 (t:List τ):∀ (l:List (τ × σ)) (q:List (σ × List τ)),∃ r,l.foldl (addQ t) q = q++r
 | [],q=>⟨[],(List.append_nil _).symm⟩
 | p :: l,q=>by
  obtain ⟨r,h⟩:=Z2t t q p
  obtain ⟨r',h'⟩:=Z29 t l (addQ t q p)
  exact ⟨r++r',by rw [List.foldl_cons,h',h,List.append_assoc]⟩
theorem Z3F (nx:σ→List (τ × σ)) (q:List (σ × List τ)) (e:σ × List τ):∃ r,expQ nx q e = q++r:=Z29 _ _ _
theorem Done.ext {nx:σ→List (τ × σ)} {k:Nat} {q qf:List (σ × List τ)} (h:Done nx k q qf):∃ r,qf = q++r:=by
 induction h with
 | stop _=>exact ⟨[],(List.append_nil _).symm⟩
 | @step k q qf e _ _ ih=>
  obtain ⟨r,h⟩:=ih
  obtain ⟨r',h'⟩:=Z3F nx q e
  exact ⟨r'++r,by rw [h,h',List.append_assoc]⟩
theorem Done.le {nx:σ→List (τ × σ)} {k:Nat} {q qf:List (σ × List τ)} (h:Done nx k q qf):k ≤ q.length:=by
 cases h with
 | stop e=>exact Nat.le_of_eq e
 | step e _=>exact Nat.le_of_lt (List.getElem?_eq_some_iff.mp e).1
theorem Done.len {nx:σ→List (τ × σ)} {k:Nat} {q qf:List (σ × List τ)} (h:Done nx k q qf):q.length ≤ qf.length:=by
 obtain ⟨r,e⟩:=h.ext
 rw [e,List.length_append]; exact Nat.le_add_right _ _
structure Fits (U:List σ) (q:List (σ × List τ)):Prop where
 nd:(q.map (·.1)).Nodup
 sub:∀ x ∈ q.map (·.1),x ∈ U
theorem Fits.add {U:List σ} {q:List (σ × List τ)} (h:Fits U q) (t:List τ) {p:τ × σ} (hp:p.2 ∈ U):Fits U (addQ t q p):=by
 unfold addQ
 split
 ·exact h
 ·rename_i hn
  refine ⟨?_,fun x hx=>?_⟩
  ·rw [List.map_append,List.nodup_append]
   exact ⟨h.nd,by simp,fun a ha b hb e=>hn (by simp at hb; subst hb; subst e; exact ha)⟩
  ·rw [List.map_append,List.mem_append] at hx
   rcases hx with hx | hx
   ·exact h.sub x hx
   ·simp at hx; rw [hx]; exact hp
theorem Fits.fold {U:List σ} (t:List τ):∀ (l:List (τ × σ)) {q:List (σ × List τ)},Fits U q→(∀ p ∈ l,p.2 ∈ U)→Fits U (l.foldl (addQ t) q)
 | [],_,h,_=>h
 | p :: l,_,h,hl=>Fits.fold t l (h.add t (hl p List.mem_cons_self)) fun p' hp=>hl p' (List.mem_cons_of_mem _ hp)
theorem Z7h:∀ {l U:List σ},l.Nodup→(∀ x ∈ l,x ∈ U)→l.length ≤ U.length
 | [],_,_,_=>Nat.zero_le _
 | x :: l,U,h,s=>by
  have hx:=s x List.mem_cons_self
  have:=Z7h (l:=l) (U:=U.erase x) (List.nodup_cons.mp h).2 fun y hy=>(List.mem_erase_of_ne (fun (e:y = x)=>(List.nodup_cons.mp h).1 (by rw [← e]; exact hy))).mpr (s y (List.mem_cons_of_mem _ hy))
  rw [List.length_erase_of_mem hx] at this
  have:=List.length_pos_of_mem hx
  simp only [List.length_cons]; omega
theorem Fits.le {U:List σ} {q:List (σ × List τ)} (h:Fits U q):q.length ≤ U.length:=by
 have:=Z7h h.nd h.sub
 simpa using this
theorem Z6i {nx:σ→List (τ × σ)} {U:List σ} (hU:∀ x ∈ U,∀ p ∈ nx x,p.2 ∈ U):∀ (n:Nat) {k:Nat} {q:List (σ × List τ)},Fits U q→k ≤ q.length→U.length - k ≤ n→∃ qf,Done nx k q qf∧Fits U qf
 | 0,k,q,h,hk,hn=>by
  have:=h.le
  exact ⟨q,.stop (by omega),h⟩
 | n + 1,k,q,h,hk,hn=>by
  by_cases hlt:k < q.length
  ·obtain ⟨e,he⟩:∃ e,q[k]? = some e:=⟨_,List.getElem?_eq_getElem hlt⟩
   have hm:e.1 ∈ U:=h.sub _ (List.mem_map_of_mem (List.mem_of_getElem? he))
   have h':Fits U (expQ nx q e):=Fits.fold _ _ h (hU _ hm)
   obtain ⟨r,hr⟩:=Z3F nx q e
   obtain ⟨qf,hd,hf⟩:=Z6i hU n h' (k:=k + 1) (by rw [hr,List.length_append]; omega) (by omega)
   exact ⟨qf,.step he hd,hf⟩
  ·exact ⟨q,.stop (by omega),h⟩
theorem Done.uniq {nx:σ→List (τ × σ)} {k:Nat} {q a b:List (σ × List τ)} (h:Done nx k q a) (h':Done nx k q b):a = b:=by
 induction h with
 | stop e=>
  cases h' with
  | stop _=>rfl
  | step e' _=>have:=(List.getElem?_eq_some_iff.mp e').1; omega
 | step e _ ih=>
  cases h' with
  | stop e'=>have:=(List.getElem?_eq_some_iff.mp e).1; omega
  | step e' h'=>cases e.symm.trans e'; exact ih h'
noncomputable def qpr (pr:σ→Option α) (q:List (σ × List τ)):List (α × List τ):=q.filterMap fun e=>(pr e.1).map fun u=>(u,e.2)
noncomputable def npr (pr:σ→Option α) (l:List (τ × σ)):List (τ × α):=l.filterMap fun p=>(pr p.2).map fun u=>(p.1,u)
theorem Z4Z (pr:σ→Option α) (q r:List (σ × List τ)):qpr pr (q++r) = qpr pr q++qpr pr r:=List.filterMap_append
theorem Z99 {pr:σ→Option α} (inj:∀ u v a,pr u = some a→pr v = some a→u = v) {v:σ} {a:α} (e:pr v = some a) (q:List (σ × List τ)):a ∈ (qpr pr q).map (·.1)↔v ∈ q.map (·.1):=by
 unfold qpr
 simp only [List.mem_map,List.mem_filterMap]
 constructor
 ·rintro ⟨p,⟨e',he',hp⟩,rfl⟩
  obtain ⟨u,hu,rfl⟩:=Option.map_eq_some_iff.mp hp
  exact ⟨e',he',inj _ _ _ hu e⟩
 ·rintro ⟨e',he',rfl⟩
  exact ⟨(a,e'.2),⟨e',he',by rw [e]; rfl⟩,rfl⟩
theorem Z9a {pr:σ→Option α} (inj:∀ u v a,pr u = some a→pr v = some a→u = v) (t:List τ):∀ (l:List (τ × σ)) (q:List (σ × List τ)),qpr pr (l.foldl (addQ t) q) = (npr pr l).foldl (addQ t) (qpr pr q)
 | [],q=>rfl
 | p :: l,q=>by
  rw [List.foldl_cons,Z9a inj t l]
  cases hp:pr p.2 with
  | none=>
   have h1:npr pr (p :: l) = npr pr l:=by unfold npr; rw [List.filterMap_cons,hp]; rfl
   have h2:qpr pr (addQ t q p) = qpr pr q:=by
    unfold addQ
    split
    ·rfl
    ·rw [Z4Z]
     have:qpr pr [(p.2,t++[p.1])] = []:=by unfold qpr; rw [List.filterMap_cons,hp]; rfl
     rw [this,List.append_nil]
   rw [h1,h2]
  | some a=>
   have h1:npr pr (p :: l) = (p.1,a) :: npr pr l:=by unfold npr; rw [List.filterMap_cons,hp]; rfl
   have h2:qpr pr (addQ t q p) = addQ t (qpr pr q) (p.1,a):=by
    unfold addQ
    by_cases hm:p.2 ∈ q.map (·.1)
    ·rw [if_pos hm,if_pos ((Z99 inj hp q).mpr hm)]
    ·rw [if_neg hm,if_neg fun x=>hm ((Z99 inj hp q).mp x),Z4Z]
     have:qpr pr [(p.2,t++[p.1])] = [(a,t++[p.1])]:=by unfold qpr; rw [List.filterMap_cons,hp]; rfl
     rw [this]
   rw [h1,h2,List.foldl_cons]
theorem Done.pr {pr:σ→Option α} {nx:σ→List (τ × σ)} {nx':α→List (τ × α)} (inj:∀ u v a,pr u = some a→pr v = some a→u = v)
  (good:∀ s a,pr s = some a→npr pr (nx s) = nx' a) (bad:∀ s,pr s = none→npr pr (nx s) = [])
  {k:Nat} {q qf:List (σ × List τ)} (h:Done nx k q qf):Done nx' (qpr pr (q.take k)).length (qpr pr q) (qpr pr qf):=by
 induction h with
 | @stop k q e=>subst e; rw [List.take_length]; exact .stop rfl
 | @step k q qf e he _ ih=>
  obtain ⟨r,hr⟩:=Z3F nx q e
  have hlt:=(List.getElem?_eq_some_iff.mp he).1
  have hk:(expQ nx q e).take (k + 1) = q.take k++[e]:=by
   rw [hr,List.take_append_of_le_length (by omega),List.take_succ,he]; rfl
  have hx:qpr pr (expQ nx q e) = (npr pr (nx e.1)).foldl (addQ e.2) (qpr pr q):=Z9a inj _ _ _
  rw [hk,Z4Z] at ih
  cases hp:pr e.1 with
  | none=>
   have h1:qpr pr [e] = []:=by unfold qpr; rw [List.filterMap_cons,hp]; rfl
   rw [h1,List.append_nil,hx,bad _ hp] at ih
   exact ih
  | some a=>
   have h1:qpr pr [e] = [(a,e.2)]:=by unfold qpr; rw [List.filterMap_cons,hp]; rfl
   rw [h1,List.length_append,hx,good _ _ hp] at ih
   refine .step (e:=(a,e.2)) ?_ ih
   have hq:q = q.take k++e :: q.drop (k + 1):=by
    have h3:q[k] = e:=(List.getElem?_eq_some_iff.mp he).2
    rw [← h3,← List.drop_eq_getElem_cons hlt,List.take_append_drop]
   have h2:qpr pr q = qpr pr (q.take k)++(a,e.2) :: qpr pr (q.drop (k + 1)):=by
    have h4:=congrArg (qpr pr) hq
    rw [Z4Z] at h4
    rw [h4]; congr 1; unfold qpr; rw [List.filterMap_cons,hp]; rfl
   rw [h2,List.getElem?_append_right (Nat.le_refl _),Nat.sub_self]; rfl
noncomputable def hit (w:σ→Bool) (q:List (σ × List τ)):Option (List τ):=(q.find? fun e=>w e.1).map (·.2)
theorem Z9b {w:σ→Bool} {q r:List (σ × List τ)} {k:Nat} {e:σ × List τ} (h:∀ x ∈ q.take k,w x.1 = false) (he:q[k]? = some e) (hw:w e.1 = true):hit w (q++r) = some e.2:=by
 have hlt:=(List.getElem?_eq_some_iff.mp he).1
 have hq:q = q.take k++e :: q.drop (k + 1):=by
  have h3:q[k] = e:=(List.getElem?_eq_some_iff.mp he).2
  rw [← h3,← List.drop_eq_getElem_cons hlt,List.take_append_drop]
 unfold hit
 rw [hq,List.append_assoc,List.find?_append,List.find?_eq_none.mpr (fun x hx=>by rw [h x hx]; exact Bool.false_ne_true),Option.none_or,List.cons_append,List.find?_cons_of_pos (p:=fun e:σ × List τ=>w e.1) hw]; rfl
theorem Z7i {w:σ→Bool} {q:List (σ × List τ)} (h:∀ x ∈ q,w x.1 = false):hit w q = none:=by
 unfold hit
 rw [List.find?_eq_none.mpr fun x hx=>by rw [h x hx]; exact Bool.false_ne_true]; rfl
theorem Z9c {pr:σ→Option α} {w:σ→Bool} {w':α→Bool} (h1:∀ s,w s = true→(pr s).isSome = true) (h2:∀ s a,pr s = some a→w' a = w s):∀ q:List (σ × List τ),hit w' (qpr pr q) = hit w q
 | []=>rfl
 | e :: q=>by
  have ih:=Z9c h1 h2 q
  unfold hit at ih ⊢
  cases hp:pr e.1 with
  | none=>
   have:qpr pr (e :: q) = qpr pr q:=by unfold qpr; rw [List.filterMap_cons,hp]; rfl
   have hw:w e.1 = false:=by
    cases hw:w e.1 with
    | false=>rfl
    | true=>have:=h1 _ hw; rw [hp] at this; cases this
   rw [this,ih,List.find?_cons_of_neg (by rw [hw]; exact Bool.false_ne_true)]
  | some a=>
   have:qpr pr (e :: q) = (a,e.2) :: qpr pr q:=by unfold qpr; rw [List.filterMap_cons,hp]; rfl
   rw [this]
   cases hw:w e.1 with
   | true=>rw [List.find?_cons_of_pos (by rw [h2 _ _ hp]; exact hw),List.find?_cons_of_pos (p:=fun e:σ × List τ=>w e.1) hw]; rfl
   | false=>rw [List.find?_cons_of_neg (by rw [h2 _ _ hp,hw]; exact Bool.false_ne_true),List.find?_cons_of_neg (by rw [hw]; exact Bool.false_ne_true)]; exact ih
end
end Mine
namespace Mine
open PySem
noncomputable def Z1O:Xms:=(.cons (.ifte (.bor (.cmp .lt (.loc 1) (.int 0)) (.cmp .ge (.loc 1) (.bi .len (.sub (.loc 0) (.int 1))))) (.cons (.raise "no such row")
 .nil) .nil)
 .nil)
noncomputable def Z1x:XDef:=⟨"need_row",["made","row"],["made","row"],2,Z1O⟩
noncomputable def Z2a:Sms:=(.cons (.ifte (.band (.cmp .isnot (.loc 6) .none) (.cmp .notin (.loc 6) (.loc 2))) (.cons (.asgI (.loc 2) (.loc 6) (.bin .add (.sub (.loc 2) (.sub (.loc 3) (.loc 4))) (.loc 5)))
 (.cons (.expr (.me .append (.loc 3) (.loc 6)))
 .nil)) .nil)
 .nil)
noncomputable def Z3G:Sms:=(.cons (.forT [5,6] (.zip (.sub (.loc 0) (.int 0)) (.sub (.sub (.sub (.loc 0) (.int 1)) (.sub (.loc 3) (.loc 4))) (.int 1))) Z2a)
 (.cons (.asg 4 (.bin .add (.loc 4) (.int 1)))
 .nil))
noncomputable def Z7j:Xms:=(.cons (.call "need_row" (.cons (.loc 0) (.cons (.loc 1) .nil)))
 (.cons (.pl (.asg 2 (.dict1 (.int 0) (.str ""))))
 (.cons (.pl (.asg 3 (.listM (.cons (.int 0) .nil))))
 (.cons (.pl (.asg 4 (.int 0)))
 (.cons (.pl (.while (.band (.cmp .lt (.loc 4) (.bi .len (.loc 3))) (.cmp .notin (.loc 1) (.loc 2))) Z3G))
 (.cons (.ifte (.cmp .notin (.loc 1) (.loc 2)) (.cons (.raise "no text leads to that row")
 .nil) .nil)
 (.cons (.pl (.ret (.sub (.loc 2) (.loc 1))))
 .nil)))))))
noncomputable def Z2u:XDef:=⟨"reach",["made","row"],["made","row","texts","met","at","sign","way"],7,Z7j⟩
noncomputable def Z7U:Sms:=(.cons (.ifte (.cmp .is (.loc 1) .none) (.cons (.ret .none)
 .nil) .nil)
 (.cons (.ret (.sub (.sub (.sub (.loc 0) (.int 1)) (.loc 1)) (.int 0)))
 .nil))
noncomputable def Z3H:Def:=⟨"told_in",["made","row"],["made","row"],2,Z7U,[]⟩
noncomputable def Z3I:Ex:=.none
noncomputable def Z7V:Sms:=(.cons (.ifte (.cmp .is (.loc 1) .none) (.cons (.ret (.comp Z3I 2 (.val (.sub (.loc 0) (.int 0))) .nil))
 .nil) .nil)
 (.cons (.ret (.sub (.sub (.sub (.loc 0) (.int 1)) (.loc 1)) (.int 1)))
 .nil))
noncomputable def Z3J:Def:=⟨"ways_in",["made","row"],["made","row"],3,Z7V,[]⟩
noncomputable def Z2b:Sms:=(.cons (.asg 10 (.tup (.cons (.sub (.call "ways_in" (.cons (.loc 0) (.cons (.loc 6) .nil))) (.loc 8)) (.cons (.sub (.call "ways_in" (.cons (.loc 0) (.cons (.loc 7) .nil))) (.loc 8)) .nil))))
 (.cons (.ifte (.band (.cmp .notin (.loc 10) (.loc 3)) (.cmp .ne (.sub (.loc 10) (.int 0)) (.sub (.loc 10) (.int 1)))) (.cons (.asgI (.loc 3) (.loc 10) (.bin .add (.sub (.loc 3) (.sub (.loc 4) (.loc 5))) (.loc 9)))
 (.cons (.expr (.me .append (.loc 4) (.loc 10)))
 .nil)) .nil)
 .nil))
noncomputable def Z1s:Sms:=(.cons (.asgT [6,7] (.sub (.loc 4) (.loc 5)))
 (.cons (.ifte (.cmp .ne (.call "told_in" (.cons (.loc 0) (.cons (.loc 6) .nil))) (.call "told_in" (.cons (.loc 0) (.cons (.loc 7) .nil)))) (.cons (.ret (.sub (.loc 3) (.sub (.loc 4) (.loc 5))))
 .nil) .nil)
 (.cons (.forT [8,9] (.enum (.sub (.loc 0) (.int 0))) Z2b)
 (.cons (.asg 5 (.bin .add (.loc 5) (.int 1)))
 .nil))))
noncomputable def Z7k:Xms:=(.cons (.call "need_row" (.cons (.loc 0) (.cons (.loc 1) .nil)))
 (.cons (.call "need_row" (.cons (.loc 0) (.cons (.loc 2) .nil)))
 (.cons (.pl (.asg 3 (.dict1 (.tup (.cons (.loc 1) (.cons (.loc 2) .nil))) (.str ""))))
 (.cons (.pl (.asg 4 (.listM (.cons (.tup (.cons (.loc 1) (.cons (.loc 2) .nil))) .nil))))
 (.cons (.pl (.asg 5 (.int 0)))
 (.cons (.pl (.while (.cmp .lt (.loc 5) (.bi .len (.loc 4))) Z1s))
 (.cons (.pl (.ret .none))
 .nil)))))))
noncomputable def Z3K:XDef:=⟨"apart",["made","one","other"],["made","one","other","texts","met","at","first","second","place","sign","pair"],11,Z7k⟩
noncomputable def Z3L:Sms:=(.cons (.ifte (.cmp .lt (.loc 1) (.bi .len (.loc 0))) (.cons (.ret (.sub (.loc 0) (.loc 1)))
 .nil) .nil)
 (.cons (.ret (.int 0))
 .nil))
noncomputable def Z2v:Def:=⟨"_law_cell_at",["_law_script","_law_k"],["_law_script","_law_k"],2,Z3L,[]⟩
noncomputable def Z1P:Sms:=(.cons (.asg 1 (.str " !\"#$&'()*+,-./0123456789:;<=>?@ABCDEFGHIJKLMNOPQRSTUVWXYZ[\\]^_`"))
 (.cons (.asg 1 (.bin .add (.loc 1) (.str "abcdefghijklmnopqrstuvwxyz{|}~\n\t")))
 (.cons (.ret (.sub (.loc 1) (.bin .mod (.loc 0) (.int 96))))
 .nil)))
noncomputable def Z2w:Def:=⟨"_law_sign_by",["_law_cell"],["_law_cell","_law_some"],2,Z1P,[]⟩
noncomputable def Z0C:Ex:=(.call "_law_sign_by" (.cons (.bin .add (.loc 0) (.bin .mul (.loc 4) (.loc 1))) .nil))
noncomputable def Z0D:Ex:=(.me .join (.str "") (.slice (.loc 3) (.some (.bin .mul (.loc 5) (.loc 2))) (.some (.bin .add (.bin .mul (.loc 5) (.loc 2)) (.loc 2)))))
noncomputable def Z0T:Sms:=(.cons (.asg 1 (.sub (.list (.cons (.int 1) (.cons (.int 5) (.cons (.int 7) (.cons (.int 11) (.cons (.int 13) (.cons (.int 17) (.cons (.int 19) (.cons (.int 23) .nil))))))))) (.bin .mod (.bin .fdiv (.loc 0) (.int 96)) (.int 8))))
 (.cons (.asg 2 (.int 1))
 (.cons (.ifte (.cmp .eq (.bin .mod (.bin .fdiv (.loc 0) (.int 768)) (.int 4)) (.int 1)) (.cons (.asg 2 (.bin .add (.bin .add (.int 2) (.bin .mod (.bin .fdiv (.loc 0) (.int 3072)) (.int 8))) (.bin .mul (.int 10) (.bin .mod (.bin .fdiv (.loc 0) (.int 24576)) (.int 2)))))
 .nil) .nil)
 (.cons (.asg 3 (.comp Z0C 4 (.range1 (.bin .mul (.int 5) (.loc 2))) .nil))
 (.cons (.ret (.comp Z0D 5 (.range1 (.int 5)) .nil))
 .nil)))))
noncomputable def Z1y:Def:=⟨"_law_letters",["_law_cell"],["_law_cell","_law_gap","_law_size","_law_signs"],6,Z0T,[]⟩
noncomputable def Z3M:Sms:=(.cons (.ifte (.bor (.cmp .is (.loc 1) .none) (.cmp .notin (.loc 3) (.sub (.loc 0) (.int 0)))) (.cons (.ret .none)
 .nil) .nil)
 (.cons (.asg 1 (.sub (.sub (.sub (.sub (.loc 0) (.int 1)) (.loc 1)) (.int 1)) (.me .index (.sub (.loc 0) (.int 0)) (.loc 3))))
 .nil))
noncomputable def Zbk:Sms:=(.cons (.for1 3 (.val (.loc 2)) Z3M)
 (.cons (.ret (.loc 1))
 .nil))
noncomputable def Zcq:Def:=⟨"_law_go",["_law_made","_law_row","_law_signs"],["_law_made","_law_row","_law_signs","_law_sign"],4,Zbk,[]⟩
noncomputable def Z6j:Sms:=(.cons (.ifte (.cmp .is (.loc 1) .none) (.cons (.ret .none)
 .nil) .nil)
 (.cons (.ret (.sub (.sub (.sub (.loc 0) (.int 1)) (.loc 1)) (.int 0)))
 .nil))
noncomputable def Z2x:Def:=⟨"_law_told_at",["_law_made","_law_row"],["_law_made","_law_row"],2,Z6j,[]⟩
noncomputable def Z0U:Ex:=(.call "_law_go" (.cons (.loc 0) (.cons (.loc 9) (.cons (.loc 7) .nil))))
noncomputable def Z0u:Sms:=(.cons (.asg 8 (.bi .tuple (.comp Z0U 9 (.val (.sub (.loc 4) (.loc 6))) .nil)))
 (.cons (.ifte (.cmp .notin (.loc 8) (.loc 3)) (.cons (.asgI (.loc 3) (.loc 8) (.bool true))
 (.cons (.expr (.me .append (.loc 4) (.loc 8)))
 (.cons (.expr (.me .append (.loc 5) (.bin .add (.sub (.loc 5) (.loc 6)) (.loc 7))))
 .nil))) .nil)
 .nil))
noncomputable def Z0v:Sms:=(.cons (.ifte (.callP 2 (.sub (.loc 4) (.loc 6))) (.cons (.ret (.sub (.loc 5) (.loc 6)))
 .nil) .nil)
 (.cons (.for1 7 (.val (.sub (.loc 0) (.int 0))) Z0u)
 (.cons (.asg 6 (.bin .add (.loc 6) (.int 1)))
 .nil)))
noncomputable def Z1G:Sms:=(.cons (.asg 3 (.dict1 (.loc 1) (.bool true)))
 (.cons (.asg 4 (.listM (.cons (.loc 1) .nil)))
 (.cons (.asg 5 (.listM (.cons (.str "") .nil)))
 (.cons (.asg 6 (.int 0))
 (.cons (.while (.cmp .lt (.loc 6) (.bi .len (.loc 4))) Z0v)
 (.cons (.ret .none)
 .nil))))))
noncomputable def Z1h:Def:=⟨"_law_first_text",["_law_made","_law_begin","_law_wanted"],["_law_made","_law_begin","_law_wanted","_law_known","_law_seen","_law_texts","_law_at","_law_sign","_law_there"],10,Z1G,[]⟩
noncomputable def Z0I:Sms:=(.cons (.asg 8 (.bin .mod (.bin .add (.bin .mul (.loc 8) (.int 48271)) (.int 11)) (.int 2147483647)))
 (.cons (.asg 13 (.bin .mod (.bin .fdiv (.loc 8) (.int 7)) (.loc 6)))
 (.cons (.ifte (.band (.chain (.int 0) .lt (.loc 5) .lt (.int 3)) (.cmp .eq (.bi .len (.loc 11)) (.int 0))) (.cons (.asg 13 (.bin .add (.loc 10) (.int 1)))
 .nil) .nil)
 (.cons (.expr (.me .append (.loc 11) (.sub (.list (.cons (.loc 13) (.cons .none .nil))) (.bi .int (.cmp .ge (.loc 13) (.loc 3))))))
 .nil))))
noncomputable def Z0J:Sms:=(.cons (.asg 11 (.listM .nil))
 (.cons (.for1 12 (.val (.loc 4)) Z0I)
 (.cons (.asg 8 (.bin .mod (.bin .add (.bin .mul (.loc 8) (.int 48271)) (.int 11)) (.int 2147483647)))
 (.cons (.asg 14 (.bin .mod (.bin .fdiv (.loc 8) (.int 7)) (.sub (.list (.cons (.int 6) (.cons (.int 12) (.cons (.int 30) (.cons (.int 3) .nil))))) (.loc 5))))
 (.cons (.expr (.me .append (.loc 9) (.tup (.cons (.sub (.list (.cons (.bin .mul (.loc 14) (.loc 7)) (.cons .none .nil))) (.bi .int (.cmp .gt (.loc 14) (.int 2)))) (.cons (.fz 11) .nil)))))
 .nil)))))
noncomputable def dl_table_byB:Sms:=(.cons (.asg 3 (.bin .add (.int 1) (.bin .mod (.call "_law_cell_at" (.cons (.loc 0) (.cons (.int 1) .nil))) (.int 7))))
 (.cons (.ifte (.cmp .eq (.bin .mod (.bin .fdiv (.call "_law_cell_at" (.cons (.loc 0) (.cons (.int 1) .nil))) (.int 7)) (.int 6)) (.int 1)) (.cons (.asg 3 (.bin .add (.int 1) (.bin .mod (.bin .fdiv (.call "_law_cell_at" (.cons (.loc 0) (.cons (.int 1) .nil))) (.int 42)) (.int 64))))
 .nil) .nil)
 (.cons (.asg 4 (.slice (.me .join (.str "") (.slice (.loc 1) .none (.some (.bin .mod (.call "_law_cell_at" (.cons (.loc 0) (.cons (.int 2) .nil))) (.int 5))))) .none (.some (.sub (.list (.cons (.int 40) (.cons (.loc 2) .nil))) (.bi .int (.cmp .gt (.loc 3) (.int 7)))))))
 (.cons (.asg 5 (.bin .mod (.bin .fdiv (.call "_law_cell_at" (.cons (.loc 0) (.cons (.int 2) .nil))) (.int 5)) (.int 4)))
 (.cons (.asg 6 (.bin .add (.loc 3) (.sub (.list (.cons (.int 0) (.cons (.int 1) (.cons (.bin .add (.int 1) (.bin .fdiv (.loc 3) (.int 3))) .nil)))) (.bin .mod (.bin .fdiv (.call "_law_cell_at" (.cons (.loc 0) (.cons (.int 2) .nil))) (.int 20)) (.int 3)))))
 (.cons (.asg 7 (.sub (.list (.cons (.int 0) (.cons (.int 1) (.cons (.int 7) (.cons (.bin .pow (.int 10) (.int 9)) .nil))))) (.bin .mod (.bin .fdiv (.call "_law_cell_at" (.cons (.loc 0) (.cons (.int 2) .nil))) (.int 60)) (.int 4))))
 (.cons (.asg 8 (.bin .mod (.call "_law_cell_at" (.cons (.loc 0) (.cons (.int 3) .nil))) (.int 2147483647)))
 (.cons (.asg 9 (.listM .nil))
 (.cons (.for1 10 (.range1 (.loc 3)) Z0J)
 (.cons (.ret (.tup (.cons (.loc 4) (.cons (.fz 9) .nil))))
 .nil))))))))))
noncomputable def Z1Q:Def:=⟨"_law_table_by",["_law_script","_law_letters_here","_law_most_signs"],["_law_script","_law_letters_here","_law_most_signs","_law_many","_law_signs","_law_style","_law_most","_law_alone","_law_number","_law_rows","_law_k","_law_ways","_law_sign","_law_way","_law_told"],15,dl_table_byB,[]⟩
noncomputable def Z6k:Xms:=(.cons (.try1 2 "reach" (.cons (.loc 0) (.cons (.loc 1) .nil)))
 (.cons (.pl (.ret (.tup (.cons (.bool false) (.cons (.loc 2) .nil)))))
 .nil))
noncomputable def Z0M:XDef:=⟨"_law_reached",["_law_made","_law_row"],["_law_made","_law_row","_law_found"],3,Z6k⟩
noncomputable def Z9d:Xms:=(.cons (.try2 3 "apart" (.cons (.loc 0) (.cons (.loc 1) (.cons (.loc 2) .nil))))
 (.cons (.pl (.ret (.tup (.cons (.bool false) (.cons (.loc 3) .nil)))))
 .nil))
noncomputable def Z1z:XDef:=⟨"_law_apart",["_law_made","_law_one","_law_other"],["_law_made","_law_one","_law_other","_law_found"],4,Z9d⟩
noncomputable def Z6l:Sms:=(.cons (.ifte (.cmp .is (.loc 1) .none) (.cons (.ret (.cmp .is (.loc 0) .none))
 .nil) .nil)
 (.cons (.ret (.band (.isin (.loc 0) .str) (.cmp .eq (.loc 0) (.loc 1))))
 .nil))
noncomputable def Z2y:Def:=⟨"_law_text_is",["_law_found","_law_due"],["_law_found","_law_due"],2,Z6l,[]⟩
noncomputable def Z1t:Ex:=(.cmp .eq (.sub (.loc 0) (.int 0)) (.cap 0))
noncomputable def Z2c:Ex:=(.cmp .ne (.call "_law_told_at" (.cons (.cap 0) (.cons (.sub (.loc 0) (.int 0)) .nil))) (.call "_law_told_at" (.cons (.cap 0) (.cons (.sub (.loc 0) (.int 1)) .nil))))
noncomputable def d_lawB:Xms:=(.cons (.pl (.asg 1 (.call "_law_letters" (.cons (.bin .mod (.call "_law_cell_at" (.cons (.loc 0) (.cons (.int 0) .nil))) (.int 768)) .nil))))
 (.cons (.pl (.asg 2 (.call "_law_table_by" (.cons (.loc 0) (.cons (.loc 1) (.cons (.int 2) .nil))))))
 (.cons (.pl (.asg 3 (.call "_law_table_by" (.cons (.loc 0) (.cons (.loc 1) (.cons (.int 2) .nil))))))
 (.cons (.pl (.asg 4 (.bi .len (.sub (.loc 3) (.int 1)))))
 (.cons (.pl (.asg 5 (.bin .sub (.bin .mod (.call "_law_cell_at" (.cons (.loc 0) (.cons (.int 5) .nil))) (.bin .add (.loc 4) (.int 2))) (.int 1))))
 (.cons (.pl (.asg 6 (.bin .sub (.bin .mod (.call "_law_cell_at" (.cons (.loc 0) (.cons (.int 6) .nil))) (.bin .add (.loc 4) (.int 2))) (.int 1))))
 (.cons (.pl (.ifte (.cmp .eq (.bin .mod (.call "_law_cell_at" (.cons (.loc 0) (.cons (.int 7) .nil))) (.int 5)) (.int 1)) (.cons (.asg 5 (.sub (.list (.cons (.bin .add (.loc 5) (.bin .pow (.int 10) (.int 9))) (.cons (.bin .sub (.loc 5) (.bin .pow (.int 10) (.int 9))) .nil))) (.bin .mod (.bin .fdiv (.call "_law_cell_at" (.cons (.loc 0) (.cons (.int 7) .nil))) (.int 5)) (.int 2))))
 .nil) .nil))
 (.cons (.asgT [7,8] "_law_reached" (.cons (.loc 2) (.cons (.loc 5) .nil)))
 (.cons (.pl (.asg 9 (.chain (.int 0) .le (.loc 5) .lt (.loc 4))))
 (.cons (.pl (.asg 10 .none))
 (.cons (.ifte (.loc 9) (.cons (.asgL 10 "_law_first_text" (.loc 3) (.tup (.cons (.int 0) .nil)) Z1t [5] (157,52))
 .nil) .nil)
 (.cons (.pl (.ifte (.bor (.cmp .ne (.loc 7) (.cmp .is (.loc 10) .none)) (.band (.cmp .isnot (.loc 10) .none) (.not (.call "_law_text_is" (.cons (.loc 8) (.cons (.loc 10) .nil)))))) (.cons (.ret (.bool false))
 .nil) .nil))
 (.cons (.asgT [7,8] "_law_apart" (.cons (.loc 2) (.cons (.loc 5) (.cons (.loc 6) .nil))))
 (.cons (.pl (.ifte (.bor (.not (.loc 9)) (.bor (.cmp .lt (.loc 6) (.int 0)) (.cmp .ge (.loc 6) (.loc 4)))) (.cons (.ret (.band (.loc 7) (.cmp .eq (.loc 2) (.loc 3))))
 .nil) .nil))
 (.cons (.asgL 10 "_law_first_text" (.loc 3) (.tup (.cons (.loc 5) (.cons (.loc 6) .nil))) Z2c [3] (163,66))
 (.cons (.pl (.ret (.band (.not (.loc 7)) (.band (.call "_law_text_is" (.cons (.loc 8) (.cons (.loc 10) .nil))) (.cmp .eq (.loc 2) (.loc 3))))))
 .nil))))))))))))))))
noncomputable def d_law:XDef:=⟨"law",["_law_script"],["_law_script","_law_letters_here","_law_made","_law_kept","_law_many","_law_one","_law_other","_law_refused","_law_found","_law_good","_law_due"],11,d_lawB⟩
noncomputable def defs:List Def:=[Z3H,Z3J,Z2v,Z2w,Z1y,Zcq,Z2x,Z1h,Z1Q,Z2y]
noncomputable def xdefs:List XDef:=[Z1x,Z2u,Z3K,Z0M,Z1z]
theorem Z1H {n:Nat} {xs:List V} (h:∀ x ∈ xs,x.lo n = true):V.los n xs = true:=by
 induction xs with
 | nil=>exact Z09
 | cons x xs ih=>rw [Z01,h x (by simp),ih fun y hy=>h y (by simp [hy])]; rfl
theorem Z50 {α:Type} (l:List α) (x:α):(l++[x])[l.length]? = some x:=by simp
theorem Z2T {α:Type} (l:List α) (x y:α):(l++[x]).set l.length y = l++[y]:=by simp
theorem Z9e {α:Type} (l r:List α) (x:α):(l++x :: r)[l.length]? = some x:=by simp
theorem Z9f {α:Type} (l r:List α) (x y:α):(l++x :: r).set l.length y = l++y :: r:=by simp
theorem Zdo (σ:List O) (x:List V):Z1X σ (.tup x) = some x:=Eq.trans rfl rfl
noncomputable def Cl (σ:List O):Prop:=σ.all (O.lo σ.length) = true
theorem Cl.snoc {σ:List O} (h:Cl σ) {xs:List V} (hx:V.los 0 xs = true):Cl (σ++[.lst xs]):=by
 unfold Cl
 rw [List.all_append,List.length_append,Bool.and_eq_true]
 refine ⟨List.all_eq_true.mpr fun o ho=>O.lo_mono (Nat.le_add_right _ _) (List.all_eq_true.mp h o ho),?_⟩
 simp only [List.all_cons,List.all_nil,Bool.and_true]
 exact V.los_mono (Nat.zero_le _) _ hx
theorem Cl.dead {σ:List O} (h:Cl σ):Cl (σ++[.dead]):=by
 unfold Cl
 rw [List.all_append,List.length_append,Bool.and_eq_true]
 exact ⟨List.all_eq_true.mpr fun o ho=>O.lo_mono (Nat.le_add_right _ _) (List.all_eq_true.mp h o ho),rfl⟩
theorem Z6m {n:Nat} {a b:List V} (ha:V.los n a = true) (hb:V.los n b = true):V.los n (a++b) = true:=by
 induction a with
 | nil=>exact hb
 | cons x a ih=>
  rw [Z01,Bool.and_eq_true] at ha
  rw [List.cons_append,Z01,ha.1,ih ha.2]; rfl
theorem Z7l {F:Fn} {elt:Ex} {ifs:Exs} {ρ₀:List (Option V)} {σ:List O} {k:Nat} (f:V→Option V):∀ (xs:List V),(∀ x ∈ xs,∀ y,f x = some y→y.lo 0 = true) →
  (∀ x ∈ xs,∀ acc,V.los 0 acc = true→evTs F ifs ⟨ρ₀.set k (some x),σ++[.lst acc]⟩ = .ok (f x).isSome ⟨ρ₀.set k (some x),σ++[.lst acc]⟩∧∀ y,f x = some y→evE F elt ⟨ρ₀.set k (some x),σ++[.lst acc]⟩ = .ok y ⟨ρ₀.set k (some x),σ++[.lst acc]⟩) →
  ∀ (acc:List V) (v:Option V),V.los 0 acc = true→acc.length + xs.length ≤ sizeLine →
  ∃ v',Z2M k σ.length (evTs F ifs) (evE F elt) xs ⟨ρ₀.set k v,σ++[.lst acc]⟩ = .ok () ⟨ρ₀.set k v',σ++[.lst (acc++xs.filterMap f)]⟩
 | [],_,_,acc,v,_,_=>⟨v,by rw [Z8b,List.filterMap_nil,List.append_nil]⟩
 | x :: xs,hf,h,acc,v,ha,hl=>by
  refine El.x0_2 (h x (by simp) acc ha) fun h1 h2=>?_
  have hl':acc.length + (xs.length + 1) ≤ sizeLine:=hl
  have hset:setV ⟨ρ₀.set k v,σ++[.lst acc]⟩ k x = ⟨ρ₀.set k (some x),σ++[.lst acc]⟩:=by rw [qset,List.set_set]
  have ih:=fun acc=>Z7l f xs (fun y hy=>hf y (by simp [hy])) (fun z hz=>h z (by simp [hz])) acc (some x)
  rw [Z47,hset,h1,R.bind_ok]
  cases hx:f x with
  | none=>
   refine El.x1_1 (ih acc ha (by omega)) fun v' e=>?_
   refine ⟨v',?_⟩
   rw [List.filterMap_cons_none hx]
   simp only [Option.isSome_none,Bool.false_eq_true,if_false]
   exact e
  | some y=>
   obtain ⟨v',e⟩:=ih (acc++[y]) (Z6m ha (by rw [Z01,hf x (by simp) y hx,Z09]; rfl)) (by rw [List.length_append,List.length_singleton]; omega)
   refine ⟨v',?_⟩
   rw [List.filterMap_cons_some hx]
   simp only [Option.isSome_some,if_true]
   rw [h2 y hx,R.bind_ok]
   have hg:(σ++[O.lst acc])[σ.length]? = some (.lst acc):=by simp
   have hs:(σ++[O.lst acc]).set σ.length (.lst (acc++[y])) = σ++[.lst (acc++[y])]:=by simp
   simp only [hg,hs]
   rw [if_pos (by omega),e]
   simp
theorem Zcr {F:Fn} {elt:Ex} {ifs:Exs} {ρ₀:List (Option V)} {σ:List O} {k:Nat} {it:It} {xs:List V} (f:V→Option V) (hf:∀ x ∈ xs,∀ y,f x = some y→y.lo 0 = true) (hit:evIt F it ⟨ρ₀,σ⟩ = .ok xs ⟨ρ₀,σ⟩) (hl:xs.length ≤ sizeLine)
  (h:∀ x ∈ xs,∀ acc,V.los 0 acc = true→evTs F ifs ⟨ρ₀.set k (some x),σ++[.lst acc]⟩ = .ok (f x).isSome ⟨ρ₀.set k (some x),σ++[.lst acc]⟩∧∀ y,f x = some y→evE F elt ⟨ρ₀.set k (some x),σ++[.lst acc]⟩ = .ok y ⟨ρ₀.set k (some x),σ++[.lst acc]⟩) :
  evE F (.comp elt k it ifs) ⟨ρ₀,σ⟩ = .ok (.lst (xs.filterMap f)) ⟨ρ₀.set k none,σ++[.dead]⟩:=by
 refine El.x1_1 (Z7l f xs hf h [] none Z09 (by simpa using hl)) fun v' h1=>?_
 rw [Z6G,hit,R.bind_ok]
 dsimp only
 rw [h1,R.bind_ok]
 simp
theorem Z2U {F:Fn} {elt:Ex} {ρ₀:List (Option V)} {σ:List O} {k:Nat} {it:It} {xs:List V} (f:V→V) (hf:∀ x ∈ xs,(f x).lo 0 = true) (hit:evIt F it ⟨ρ₀,σ⟩ = .ok xs ⟨ρ₀,σ⟩) (hl:xs.length ≤ sizeLine)
  (h:∀ x ∈ xs,∀ acc,V.los 0 acc = true→evE F elt ⟨ρ₀.set k (some x),σ++[.lst acc]⟩ = .ok (f x) ⟨ρ₀.set k (some x),σ++[.lst acc]⟩) :
  evE F (.comp elt k it .nil) ⟨ρ₀,σ⟩ = .ok (.lst (xs.map f)) ⟨ρ₀.set k none,σ++[.dead]⟩:=by
 have:=Zcr (F:=F) (elt:=elt) (ifs:=.nil) (ρ₀:=ρ₀) (σ:=σ) (k:=k) (it:=it) (xs:=xs) (fun x=>some (f x)) (fun x hx y e=>by cases e; exact hf x hx) hit hl fun x hx acc ha=>⟨by rw [Z9Q]; rfl,fun y e=>by cases e; exact h x hx acc ha⟩
 have e:xs.filterMap (fun x=>some (f x)) = xs.map f:=by
  have:=congrFun (List.filterMap_eq_map (f:=f)) xs
  exact this
 rw [e] at this
 exact this
noncomputable def s1:Str:=Str.ofString " !\"#$&'()*+,-./0123456789:;<=>?@ABCDEFGHIJKLMNOPQRSTUVWXYZ[\\]^_`"
noncomputable def s2:Str:=Str.ofString "abcdefghijklmnopqrstuvwxyz{|}~\n\t"
noncomputable def signs:List Nat:=s1.cps.toList++s2.cps.toList
theorem Zcs (a b:Int) (h:(Z0A a || Z0A b) = true):Z1D .mul (.int a) (.int b) = some (.int (a * b)):=Z33 a b h
theorem Z5G:signs.length = 96:=by decide +kernel
theorem ZaC:signs.Nodup:=by decide +kernel
theorem ZaD:signs.all (· < 127) = true:=by decide +kernel
noncomputable def Z0Y (i:Int):Nat:=signs.getD (i.emod 96).toNat 0
theorem Z2z (i:Int):(i.emod 96).toNat < 96∧((i.emod 96).toNat:Int) = i.emod 96:=by
 have h1:=Int.emod_nonneg i (show (96:Int) ≠ 0 by decide)
 have h2:=Int.emod_lt_of_pos i (show (0:Int) < 96 by decide)
 change 0 ≤ i.emod 96 at h1
 change i.emod 96 < 96 at h2
 lia
theorem Z1A (i:Int):signs[(i.emod 96).toNat]? = some (Z0Y i):=by
 have h:=(Z2z i).1
 unfold Z0Y
 rw [List.getD_eq_getElem?_getD,List.getElem?_eq_getElem (by rw [Z5G]; exact h)]; rfl
theorem Z9g (i:Int):Z0Y i < 127:=by
 have:=List.all_eq_true.mp ZaD (Z0Y i) (List.mem_of_getElem? (Z1A i))
 exact of_decide_eq_true this
theorem Z7W {i j:Int} (h:Z0Y i = Z0Y j):i.emod 96 = j.emod 96:=by
 have h1:=Z1A i
 have h2:=Z1A j
 rw [← h] at h2
 have h3:=(List.getElem?_inj (by rw [Z5G]; exact (Z2z i).1) ZaC).mp (h1.trans h2.symm)
 have h4:=(Z2z i).2
 have h5:=(Z2z j).2
 rw [← h4,← h5,h3]
theorem Z6n (F:Fn) (K:Nat) (i:Int) (σ:List O) (hσ:Cl σ):Z0m F K Z2w [.int i] σ = .ok (.str [Z0Y i]) ⟨[],σ⟩:=by
 have hl1:s1.cps.toList.length = 64:=by decide +kernel
 have hl2:s2.cps.toList.length = 32:=by decide +kernel
 have hb:Z1P = .cons (.asg 1 (.str s1)) (.cons (.asg 1 (.bin .add (.loc 1) (.str s2))) (.cons (.ret (.sub (.loc 1) (.bin .mod (.loc 0) (.int 96)))) .nil)):=rfl
 have hg:=Z1A i
 have hlt:=(Z2z i).1
 have hm:Int.fmod i 96 = (((i.emod 96).toNat:Nat):Int):=by rw [(Z2z i).2,Int.fmod_eq_emod_of_nonneg _ (by decide)]; rfl
 have hc':idxOf (s1.cps.toList++s2.cps.toList) (i.fmod 96) = some (Z0Y i):=by rw [hm,Z2n _ (by lia)]; exact hg
 have hsz:s1.cps.toList.length + s2.cps.toList.length ≤ sizeLine:=by rw [hl1,hl2]; decide
 refine Z1E rfl ?_ (Z0j _) hσ
 show Ret (evSs F K Z1P ⟨[some (.int i),none],σ⟩) _ _
 refine Ret.mk0 (ρ:=[some (.int i),some (.str (s1.cps.toList++s2.cps.toList))]) ?_
 rw [hb]
 exact atS fun t=>t rfl (Z4v _ _ hsz) rfl rfl (ZdJ hc') rfl
theorem Z2V {n:Nat} {x:V} (h:x ∈ upTo 0 n):∃ k:Nat,k < n∧x = .int k:=by
 unfold upTo at h
 refine El.x1_2 (List.mem_map.mp h) fun k hk q0z=>?_
 obtain rfl:=q0z
 have:=List.mem_range.mp hk
 exact ⟨k,by lia,by simp⟩
theorem Z7m (n:Nat) (f:V→V):(upTo 0 n).map f = (List.range n).map fun k:Nat=>f (.int (k:Int)):=by
 unfold upTo
 rw [List.map_map]
 have:((n:Int) - 0).toNat = n:=by lia
 rw [this]
 exact List.map_congr_left fun k _=>by simp
theorem Z2W (n:Nat):(upTo 0 n).length = n:=by simp [upTo]
theorem Z2A {n:Nat} (h:n < 2 ^ 31):Z0G (n:Int) = true:=by
 have h1:(-(2 ^ 62):Int) ≤ (n:Int):=by lia
 have h2:((n:Int):Int) < 2 ^ 62:=by lia
 unfold Z0G
 rw [decide_eq_true h1,decide_eq_true h2]; rfl
theorem Z5H:∀ (l:List Nat),Z12 (l.map fun c=>V.str [c]) = some (l.map fun c=>[c])
 | []=>rfl
 | c :: l=>(congrArg (Option.map ([c] :: ·)) (Z5H l):_)
theorem Z3N:∀ (l:List Nat),(l.map fun c=>[c]).flatten = l
 | []=>rfl
 | c :: l=>by rw [List.map_cons,List.flatten_cons,Z3N l]; rfl
theorem Z7n (n i:Nat):clipAt n (i:Int) = min i n:=by
 unfold clipAt
 rw [if_neg (Int.not_lt.mpr (Int.natCast_nonneg i))]
 rcases Nat.le_total i n with h | h
 ·rw [Int.min_eq_left (Int.ofNat_le.mpr h),Nat.min_eq_left h,Int.max_eq_right (Int.natCast_nonneg _),Int.toNat_natCast]
 ·rw [Int.min_eq_right (Int.ofNat_le.mpr h),Nat.min_eq_right h,Int.max_eq_right (Int.natCast_nonneg _),Int.toNat_natCast]
theorem Zct {α:Type} (xs:List α) (a b:Nat) (hab:a ≤ b) (hb:b ≤ xs.length):cutL xs (some (a:Int)) (some (b:Int)) = (xs.drop a).take (b - a):=by
 unfold cutL
 simp only [Option.elim_some,Z7n]
 rw [Nat.min_eq_left hb,Nat.min_eq_left (Nat.le_trans hab hb)]
theorem Z2d {i:Int} (h1:-1000000 ≤ i) (h2:i ≤ 1000000):Z0A i = true:=by
 unfold Z0A
 rw [decide_eq_true (by lia),decide_eq_true (by lia)]; rfl
theorem Z0Z (a:Int) (n:Nat) (hn:0 < n):∃ k:Nat,Int.fmod a n = k∧k < n:=by
 have h1:0 ≤ Int.fmod a n:=by rw [Int.fmod_eq_emod_of_nonneg _ (by lia)]; exact Int.emod_nonneg _ (by lia)
 have h2:Int.fmod a n < n:=by rw [Int.fmod_eq_emod_of_nonneg _ (by lia)]; exact Int.emod_lt_of_pos _ (by lia)
 refine El.x1_1 (Int.eq_ofNat_of_zero_le h1) fun k hk=>?_
 exact ⟨k,hk,by rw [hk] at h2; lia⟩
noncomputable def Z43 (cell g:Int) (z:Nat):List Nat:=(List.range (5 * z)).map fun j:Nat=>Z0Y (cell + (j:Int) * g)
theorem Z5I (cell g:Int) (z:Nat):(Z43 cell g z).length = 5 * z:=by simp [Z43]
theorem ZaE {cell g:Int} {z c:Nat} (h:c ∈ Z43 cell g z):c < 127:=by
 obtain ⟨j,_,rfl⟩:=List.mem_map.mp h; exact Z9g _
theorem gap1 {g g' q cell i j:Int} (e:g * g' = 96 * q + 1) (h:(cell + i * g) % 96 = (cell + j * g) % 96):∃ m,i - j = 96 * m:=by
 have h1:i * g - j * g = 96 * ((cell + i * g) / 96 - (cell + j * g) / 96):=by
  generalize i * g = a at h ⊢
  generalize j * g = b at h ⊢
  lia
 refine ⟨((cell + i * g) / 96 - (cell + j * g) / 96) * g' - (i - j) * q,?_⟩
 have h2:(i - j) * (g * g') = 96 * (((cell + i * g) / 96 - (cell + j * g) / 96) * g'):=by
  rw [← Int.mul_assoc,Int.sub_mul,h1,Int.mul_assoc]
 rw [e,Int.mul_add,Int.mul_one,Int.mul_left_comm] at h2
 rw [Int.mul_sub,← h2]
 rw [Int.add_comm]; exact (Int.add_sub_cancel ..).symm
theorem Zcu {g cell:Int} (hg:g ∈ ([1,5,7,11,13,17,19,23]:List Int)) {i j:Nat} (hi:i < 96) (hj:j < 96) (h:(cell + (i:Int) * g) % 96 = (cell + (j:Int) * g) % 96):i = j:=by
 have key:∀ g' q:Int,g * g' = 96 * q + 1→i = j:=fun g' q e=>El.x1_1 (gap1 e h) fun m hm=>by lia
 simp only [List.mem_cons,List.not_mem_nil,or_false] at hg
 rcases hg with rfl | rfl | rfl | rfl | rfl | rfl | rfl | rfl
 ·exact key 1 0 (by decide)
 ·exact key 77 4 (by decide)
 ·exact key 55 4 (by decide)
 ·exact key 35 4 (by decide)
 ·exact key 37 5 (by decide)
 ·exact key 17 3 (by decide)
 ·exact key 91 18 (by decide)
 ·exact key 71 17 (by decide)
theorem ZaF {cell g:Int} {z:Nat} (hz:z ≤ 19) (hg:g ∈ ([1,5,7,11,13,17,19,23]:List Int)):(Z43 cell g z).Nodup:=by
 unfold Z43
 rw [List.nodup_iff_pairwise_ne,List.pairwise_map]
 refine List.Pairwise.imp_of_mem (fun {i j} hi hj hne e=>hne ?_) List.nodup_range
 have h1:=List.mem_range.mp hi
 have h2:=List.mem_range.mp hj
 exact Zcu hg (by lia) (by lia) (Z7W e)
noncomputable def word (L:List Nat) (z k:Nat):List Nat:=(L.drop (k * z)).take z
noncomputable def Z0d (L:List Nat) (z:Nat):List V:=(List.range 5).map fun k=>.str (word L z k)
theorem ZaG {L:List Nat} {z k:Nat} (hk:k < 5) (hL:L.length = 5 * z):(word L z k).length = z:=by
 unfold word
 rw [List.length_take,List.length_drop,hL]
 have:(k + 1) * z ≤ 5 * z:=Nat.mul_le_mul_right z (by lia)
 rw [Nat.add_mul] at this; lia
theorem Z5J (F:Fn) (K:Nat) (cell g:Int) (z:Nat) (h1:1 ≤ z) (h2:z ≤ 19) (σ:List O) (hσ:Cl σ) (hF:∀ i τ,Cl τ→F "_law_sign_by" [.int i] τ = .ok (.str [Z0Y i]) ⟨[],τ⟩) :
  Ret (evSs F K (.cons (.asg 3 (.comp Z0C 4 (.range1 (.bin .mul (.int 5) (.loc 2))) .nil)) (.cons (.ret (.comp Z0D 5 (.range1 (.int 5)) .nil)) .nil)) ⟨[some (.int cell),some (.int g),some (.int z),none,none,none],σ⟩) (.lst (Z0d (Z43 cell g z) z)) σ:=by
 have hz5:(5:Int) * (z:Int) = ((5 * z:Nat):Int):=by lia
 have s5:Z0A 5 = true:=Z2d (by lia) (by lia)
 have r5:Z0G 5 = true:=Z2A (n:=5) (by lia)
 have e1:=Z2U (F:=F) (elt:=Z0C) (k:=4) (ρ₀:=[some (.int cell),some (.int g),some (.int z),none,none,none]) (σ:=σ) (it:=.range1 (.bin .mul (.int 5) (.loc 2))) (xs:=upTo 0 (5 * z:Nat))
  (fun x=>match x with | .int k=>.str [Z0Y (cell + k * g)] | _=>.none) (fun x hx=>by obtain ⟨k,_,rfl⟩:=Z2V hx; exact Z0j _)
  (by
   rw [Z31,Z87,Z4t,R.bind_ok,Z4u]
   simp only [List.getElem?_cons_zero,List.getElem?_cons_succ,R.bind_ok]
   rw [Zcs _ _ (by rw [s5]; rfl),R.lift_some,R.bind_ok,hz5]
   simp only [Z2A (show 5 * z < 2 ^ 31 by lia),if_true])
  (by rw [Z2W]; unfold sizeLine; lia)
  (fun x hx acc ha=>by
   refine El.x1_2 (Z2V hx) fun k hk q0z=>?_
   obtain rfl:=q0z
   have sk:Z0A (k:Int) = true:=Z21 (by lia)
   have hc:=hF (cell + (k:Int) * g) (σ++[.lst acc]) (hσ.snoc ha)
   have hm:=Z33 (k:Int) g (by rw [sk]; rfl)
   exact atE fun t=>t hm hc)
 have ey:(upTo 0 (5 * z:Nat)).map (fun x=>match x with | .int k=>V.str [Z0Y (cell + k * g)] | _=>.none) = (Z43 cell g z).map fun c=>V.str [c]:=by
  rw [Z7m]
  unfold Z43
  rw [List.map_map]
  rfl
 rw [ey] at e1
 have hL:=Z5I cell g z
 generalize Z43 cell g z = L at e1 hL
 have e2:=Z2U (F:=F) (elt:=Z0D) (k:=5) (ρ₀:=[some (.int cell),some (.int g),some (.int z),some (.lst (L.map fun c=>V.str [c])),none,none]) (σ:=σ++[.dead]) (it:=.range1 (.int 5)) (xs:=upTo 0 (5:Nat))
  (fun x=>match x with | .int k=>.str (word L z k.toNat) | _=>.none) (fun x hx=>by obtain ⟨k,_,rfl⟩:=Z2V hx; exact Z0j _)
  (by
   rw [Z31,Z4t,R.bind_ok]
   simp only [r5,if_true]
   rfl)
  (by rw [Z2W]; unfold sizeLine; lia)
  (fun x hx acc ha=>by
   refine El.x1_2 (Z2V hx) fun k hk q1z=>?_
   obtain rfl:=q1z
   have sk:Z0A (k:Int) = true:=Z21 (by lia)
   have hkz:(k:Int) * (z:Int) = ((k * z:Nat):Int):=by simp
   have hkz2:((k * z:Nat):Int) + (z:Int) = ((k * z + z:Nat):Int):=by simp
   have hle:k * z + z ≤ 5 * z:=by
    have:(k + 1) * z ≤ 5 * z:=Nat.mul_le_mul_right z (by lia)
    rw [Nat.add_mul] at this; lia
   have hcut:cutL (L.map fun c=>V.str [c]) (some ((k * z:Nat):Int)) (some ((k * z + z:Nat):Int)) = (word L z k).map fun c=>V.str [c]:=by
    rw [Zct _ _ _ (by lia) (by rw [List.length_map,hL]; exact hle),Nat.add_sub_cancel_left]
    unfold word
    rw [List.map_take,List.map_drop]
   have hm:=Z33 (k:Int) z (by rw [sk]; rfl)
   rw [hkz] at hm
   have hsl:Z0o (σ++[O.dead]++[O.lst acc]) (.lst (L.map fun c=>V.str [c])) (.int ((k * z:Nat):Int)) (.int (((k * z:Nat):Int) + (z:Int))) = some (.lst ((word L z k).map fun c=>V.str [c])):=by
    rw [hkz2,ZbF,hcut]
   have hj:∀ st,Z1C .join (.str []) (.lst ((word L z k).map fun c=>V.str [c])) st = .ok (.str (word L z k)) st:=fun st=>by
    have:=Z8d (Z5H (word L z k)) (by rw [Z3N,ZaG hk hL]; unfold sizeLine; lia) st
    rwa [Z3N] at this
   exact atE fun t=>t rfl hm hm hsl (hj _))
 have ew:(upTo 0 (5:Nat)).map (fun x=>match x with | .int k=>V.str (word L z k.toNat) | _=>.none) = Z0d L z:=by
  rw [Z7m]; rfl
 rw [ew] at e2
 refine ⟨[some (.int cell),some (.int g),some (.int z),some (.lst (L.map fun c=>V.str [c])),none,none],[.dead,.dead],?_⟩
 rw [Z14,Z5Q,e1,R.bind_ok,qset,R.bind_ok]
 simp only [List.set_cons_succ,List.set_cons_zero]
 rw [Z14,ZbD,e2,R.bind_ok,R.bind_ok]
 simp only [List.append_assoc,List.cons_append,List.nil_append]
 rfl
structure Lets (L:List Nat) (z:Nat):Prop where
 len:L.length = 5 * z
 z1:1 ≤ z
 z19:z ≤ 19
 nd:L.Nodup
 lt:∀ c ∈ L,c < 127
theorem ZaH (L:List Nat) (z n:Nat):(V.lst (Z0d L z)).lo n = true:=by
 rw [Z16]; exact Z1H fun y hy=>by unfold Z0d at hy; obtain ⟨k,_,rfl⟩:=List.mem_map.mp hy; exact Z0j _
theorem Z6o (F:Fn) (K:Nat) (cell:Int):∃ L z,Lets L z∧∀ (σ:List O),Cl σ→(∀ i τ,Cl τ→F "_law_sign_by" [.int i] τ = .ok (.str [Z0Y i]) ⟨[],τ⟩) →
  Z0m F K Z1y [.int cell] σ = .ok (.lst (Z0d L z)) ⟨[],σ⟩:=by
 refine El.x1_2 (Z4w (([1,5,7,11,13,17,19,23]:List Int).map V.int) (i:=Int.fdiv cell 96) (n:=8) (by lia) (by lia) (by decide)) fun x hx hm=>?_
 refine El.x1_2 (List.mem_map.mp hm) fun g hgm q2z=>?_
 obtain rfl:=q2z
 have hx':idxOf [V.int 1,V.int 5,V.int 7,V.int 11,V.int 13,V.int 17,V.int 19,V.int 23] ((cell.fdiv 96).fmod 8) = some (.int g):=hx
 have hs:∀ σ,evSs F K Z0T ⟨[some (.int cell),none,none,none,none,none],σ⟩ =
   evSs F K (.cons (.ifte (.cmp .eq (.bin .mod (.bin .fdiv (.loc 0) (.int 768)) (.int 4)) (.int 1)) (.cons (.asg 2 (.bin .add (.bin .add (.int 2) (.bin .mod (.bin .fdiv (.loc 0) (.int 3072)) (.int 8))) (.bin .mul (.int 10) (.bin .mod (.bin .fdiv (.loc 0) (.int 24576)) (.int 2))))) .nil) .nil)
    (.cons (.asg 3 (.comp Z0C 4 (.range1 (.bin .mul (.int 5) (.loc 2))) .nil)) (.cons (.ret (.comp Z0D 5 (.range1 (.int 5)) .nil)) .nil))) ⟨[some (.int cell),some (.int g),some (.int 1),none,none,none],σ⟩:=by
  intro σ
  have h8:(8:Nat) ≤ sizeLine:=by decide
  unfold Z0T
  rw [Z14,Z5Q,ZbB,Z9O]
  simp only [Z5e,Z9P,Z4t,R.bind_ok,List.length_cons,List.length_nil,Nat.zero_add,Nat.reduceAdd,if_pos h8,Z87,Z4u,List.getElem?_cons_zero,R.lift_some,ZbG _ _ (show (96:Int) ≠ 0 by decide),ZcV _ _ (show (8:Int) ≠ 0 by decide),Z20,hx',qset,List.set_cons_succ,List.set_cons_zero]
  rw [Z14,Z5Q,Z4t,R.bind_ok,qset,R.bind_ok]
  rfl
 have fin:∀ (z:Nat),1 ≤ z→z ≤ 19→(∀ σ,evSs F K Z0T ⟨[some (.int cell),none,none,none,none,none],σ⟩ =
   evSs F K (.cons (.asg 3 (.comp Z0C 4 (.range1 (.bin .mul (.int 5) (.loc 2))) .nil)) (.cons (.ret (.comp Z0D 5 (.range1 (.int 5)) .nil)) .nil)) ⟨[some (.int cell),some (.int g),some (.int z),none,none,none],σ⟩) →
   ∃ L z,Lets L z∧∀ (σ:List O),Cl σ→(∀ i τ,Cl τ→F "_law_sign_by" [.int i] τ = .ok (.str [Z0Y i]) ⟨[],τ⟩)→Z0m F K Z1y [.int cell] σ = .ok (.lst (Z0d L z)) ⟨[],σ⟩:=by
  intro z h1 h2 he
  refine ⟨Z43 cell g z,z,⟨Z5I _ _ _,h1,h2,ZaF h2 hgm,fun c h=>ZaE h⟩,fun σ hσ hF=>Z1E rfl ?_ (ZaH _ _ _) hσ⟩
  show Ret (evSs F K Z0T ⟨[some (.int cell),none,none,none,none,none],σ⟩) _ _
  rw [he]; exact Z5J F K cell g z h1 h2 σ hσ hF
 by_cases hc:(cell.fdiv 768).fmod 4 = 1
 ·refine El.x1_2 (Z0Z (cell.fdiv 3072) 8 (by lia)) fun a ha ha8=>?_
  refine El.x1_2 (Z0Z (cell.fdiv 24576) 2 (by lia)) fun b hb hb2=>?_
  have ha':(cell.fdiv 3072).fmod 8 = a:=ha
  have hb':(cell.fdiv 24576).fmod 2 = b:=hb
  refine fin (2 + a + 10 * b) (by lia) (by lia) fun σ=>?_
  rw [hs,Z14]
  have hm:=Z33 10 ((cell.fdiv 24576).fmod 2) (by rw [Z2d (i:=10) (by lia) (by lia)]; rfl)
  have e:(2:Int) + (cell.fdiv 3072).fmod 8 + 10 * (cell.fdiv 24576).fmod 2 = ((2 + a + 10 * b:Nat):Int):=by rw [ha',hb']; lia
  have hst:evS F K (.ifte (.cmp .eq (.bin .mod (.bin .fdiv (.loc 0) (.int 768)) (.int 4)) (.int 1)) (.cons (.asg 2 (.bin .add (.bin .add (.int 2) (.bin .mod (.bin .fdiv (.loc 0) (.int 3072)) (.int 8))) (.bin .mul (.int 10) (.bin .mod (.bin .fdiv (.loc 0) (.int 24576)) (.int 2))))) .nil) .nil) ⟨[some (.int cell),some (.int g),some (.int 1),none,none,none],σ⟩ =
    .ok .next ⟨[some (.int cell),some (.int g),some (.int ((2 + a + 10 * b:Nat):Int)),none,none,none],σ⟩:=by
   exact at1 fun t=>t rfl rfl (beq_iff_eq.mpr hc) rfl rfl rfl rfl hm (congrArg V.int e)
  rw [hst,R.bind_ok]
 ·refine fin 1 (by lia) (by lia) fun σ=>?_
  rw [hs,Z14]
  have hst:evS F K (.ifte (.cmp .eq (.bin .mod (.bin .fdiv (.loc 0) (.int 768)) (.int 4)) (.int 1)) (.cons (.asg 2 (.bin .add (.bin .add (.int 2) (.bin .mod (.bin .fdiv (.loc 0) (.int 3072)) (.int 8))) (.bin .mul (.int 10) (.bin .mod (.bin .fdiv (.loc 0) (.int 24576)) (.int 2))))) .nil) .nil) ⟨[some (.int cell),some (.int g),some (.int 1),none,none,none],σ⟩ =
    .ok .next ⟨[some (.int cell),some (.int g),some (.int 1),none,none,none],σ⟩:=by
   have d1:((cell.fdiv 768).fmod 4 == 1) = false:=by rw [beq_eq_false_iff_ne]; exact hc
   exact at1 fun t=>t rfl rfl d1
  rw [hst,R.bind_ok]
  rfl
noncomputable def scV (is:List Int):V:=.lst (is.map .int)
abbrev Rw:=Option Int × List (Option Nat)
noncomputable def wV (w:Option Nat):V:=oV (w.map fun k:Nat=>(k:Int))
noncomputable def rowV (r:Rw):V:=.tup [oV r.1,.lst (r.2.map wV)]
noncomputable def tbV (S:List Nat) (T:List Rw):V:=.tup [.str S,.lst (T.map rowV)]
structure TbOk (S:List Nat) (T:List Rw):Prop where
 nd:S.Nodup
 s40:S.length ≤ 40
 t1:1 ≤ T.length
 t64:T.length ≤ 64
 len:∀ r ∈ T,r.2.length = S.length
 lt:∀ r ∈ T,∀ k,some k ∈ r.2→k < T.length
theorem ZaI (n:Nat) (o:Option Int):(oV o).lo n = true:=by cases o; exact Z0y; exact Z1Z _
theorem Zcv (n:Nat) (o:Option Nat):(wV o).lo n = true:=ZaI _ _
theorem Zcw (n:Nat) (ws:List (Option Nat)):V.los n (ws.map wV) = true:=Z1H fun x hx=>by obtain ⟨o,_,rfl⟩:=List.mem_map.mp hx; exact Zcv n o
theorem Zcx (n:Nat) (r:Rw):(rowV r).lo n = true:=by unfold rowV; rw [Z0s,Z01,Z01,Z09,ZaI,Z16,Zcw]; rfl
theorem Zcy (n:Nat) (T:List Rw):V.los n (T.map rowV) = true:=Z1H fun x hx=>by obtain ⟨o,_,rfl⟩:=List.mem_map.mp hx; exact Zcx n o
theorem Z5K (n:Nat) (S:List Nat) (T:List Rw):(tbV S T).lo n = true:=by unfold tbV; rw [Z0s,Z01,Z01,Z09,Z0j,Z16,Zcy]; rfl
theorem Z3O (F:Fn) (K:Nat) (is:List Int) (k:Nat) (hk:k < 100) (σ:List O) (hσ:Cl σ):Z0m F K Z2v [scV is,.int (k:Int)] σ = .ok (.int (is.getD k 0)) ⟨[],σ⟩:=by
 refine Z1E (r:=.int (is.getD k 0)) rfl ?_ (Z1Z _) hσ
 show Ret (evSs F K Z3L ⟨[some (.lst (is.map .int)),some (.int (k:Int))],σ⟩) _ _
 refine Ret.mk0 (ρ:=[some (.lst (is.map .int)),some (.int (k:Int))]) ?_
 have hsub:k < is.length→idxOf (is.map V.int) (k:Int) = some (.int (is.getD k 0)):=fun h=>by rw [Z2n _ (by lia),List.getElem?_map,List.getElem?_eq_getElem h,List.getD_eq_getElem?_getD,List.getElem?_eq_getElem h]; rfl
 by_cases h:k < is.length
 ·exact atS fun t=>t rfl (decide_eq_true (by rw [List.length_map]; exact Int.ofNat_lt.mpr h)) ((Z20 _ _ _).trans (hsub h)) rfl
 ·exact atS fun t=>t rfl (decide_eq_false (by rw [List.length_map]; exact fun w=>h (Int.ofNat_lt.mp w))) (by rw [List.getD_eq_getElem?_getD,List.getElem?_eq_none (by lia)]; rfl)
noncomputable def S15 (a1 a2 a3 a4 a5 a6 a7 a8 a9 a10 a11 a12 a13 a14 a15:Option V) (σ:List O):St:=⟨[a1,a2,a3,a4,a5,a6,a7,a8,a9,a10,a11,a12,a13,a14,a15],σ⟩
noncomputable def wayC:Ex:=.band (.chain (.int 0) .lt (.loc 5) .lt (.int 3)) (.cmp .eq (.bi .len (.loc 11)) (.int 0))
noncomputable def wayP:Sm:=.expr (.me .append (.loc 11) (.sub (.list (.cons (.loc 13) (.cons .none .nil))) (.bi .int (.cmp .ge (.loc 13) (.loc 3)))))
section
variable (F:Fn) (K:Nat) (x0 x1 x2 x4 x7 x9 x12 x14:Option V) (many most k n:Nat) (sty:Int) (ws:List (Option Nat)) (τ:List O) (hτ:τ[n]? = some (.lst (ws.map wV))) (hw:ws.length < 100)
include hτ hw
theorem Z9h (num:Int) (m:Nat):∃ o,(∀ j,o = some j→j < many)∧evS F K wayP (S15 x0 x1 x2 (some (.int many)) x4 (some (.int sty)) (some (.int most)) x7 (some (.int num)) x9 (some (.int k)) (some (.ref n)) x12 (some (.int m)) x14 τ) =
  .ok .next (S15 x0 x1 x2 (some (.int many)) x4 (some (.int sty)) (some (.int most)) x7 (some (.int num)) x9 (some (.int k)) (some (.ref n)) x12 (some (.int m)) x14 (τ.set n (.lst ((ws++[o]).map wV)))):=by
 have hr:=Z15 τ n (ws.map wV) hτ
 have hl:(ws.map wV).length < sizeLine:=by rw [List.length_map]; unfold sizeLine; lia
 by_cases h:many ≤ m
 ·refine ⟨none,(fun j e=>by cases e),?_⟩
  have hd:decide ((m:Int) ≥ (many:Int)) = true:=decide_eq_true (by lia)
  have hb:Z0O τ .int (.bool (decide ((m:Int) ≥ (many:Int)))) = some (.int 1):=by rw [hd]; rfl
  have ha:∀ ρ,Z1C .append (.ref n) .none ⟨ρ,τ⟩ = .ok .none ⟨ρ,τ.set n (.lst ((ws++[none]).map wV))⟩:=fun ρ=>by rw [Z0B ρ τ n _ _ hτ hl,List.map_append]; rfl
  exact at1 fun t=>t hr hb rfl (ha _)
 ·refine ⟨some m,(fun j e=>by cases e; lia),?_⟩
  have hd:decide ((m:Int) ≥ (many:Int)) = false:=decide_eq_false (by lia)
  have hb:Z0O τ .int (.bool (decide ((m:Int) ≥ (many:Int)))) = some (.int 0):=by rw [hd]; rfl
  have ha:∀ ρ,Z1C .append (.ref n) (.int m) ⟨ρ,τ⟩ = .ok .none ⟨ρ,τ.set n (.lst ((ws++[some m]).map wV))⟩:=fun ρ=>by rw [Z0B ρ τ n _ _ hτ hl,List.map_append]; rfl
  exact at1 fun t=>t hr hb rfl (ha _)
theorem Zdp (num:Int) (m:Option V):∃ b,Z03 (evE F wayC (S15 x0 x1 x2 (some (.int many)) x4 (some (.int sty)) (some (.int most)) x7 (some (.int num)) x9 (some (.int k)) (some (.ref n)) x12 m x14 τ)) =
  .ok b (S15 x0 x1 x2 (some (.int many)) x4 (some (.int sty)) (some (.int most)) x7 (some (.int num)) x9 (some (.int k)) (some (.ref n)) x12 m x14 τ):=by
 have hb:=Z32 τ n _ hτ
 by_cases h1:(0:Int) < sty
 ·by_cases h2:sty < 3
  ·exact ⟨_,atQ fun t=>t (decide_eq_true h1) (decide_eq_true h2) hb⟩
  ·exact ⟨_,atQ fun t=>t (decide_eq_true h1) (decide_eq_false h2)⟩
 ·exact ⟨_,atQ fun t=>t (decide_eq_false h1) rfl⟩
theorem ZaJ (hm:0 < most) (num:Int) (x13:Option V) (c:V):∃ num' o y,(∀ j,o = some j→j < many) ∧
  evSs F K Z0I (setV (S15 x0 x1 x2 (some (.int many)) x4 (some (.int sty)) (some (.int most)) x7 (some (.int num)) x9 (some (.int k)) (some (.ref n)) x12 x13 x14 τ) 12 c) =
  .ok .next (S15 x0 x1 x2 (some (.int many)) x4 (some (.int sty)) (some (.int most)) x7 (some (.int num')) x9 (some (.int k)) (some (.ref n)) (some c) y x14 (τ.set n (.lst ((ws++[o]).map wV)))):=by
 have h1:=Z33 num 48271 (by rw [Z2d (i:=48271) (by lia) (by lia),Bool.or_true])
 obtain ⟨num',hn⟩:∃ num',Int.fmod (num * 48271 + 11) 2147483647 = num':=⟨_,rfl⟩
 obtain ⟨m,hm1,_⟩:=Z0Z (Int.fdiv num' 7) most hm
 obtain ⟨b,hb⟩:=Zdp F x0 x1 x2 x4 x7 x9 (some c) x14 many most k n sty ws τ hτ hw num' (some (.int m))
 have hmz:((most:Int) == 0) = false:=nz (by lia)
 have e0:evSs F K Z0I (setV (S15 x0 x1 x2 (some (.int many)) x4 (some (.int sty)) (some (.int most)) x7 (some (.int num)) x9 (some (.int k)) (some (.ref n)) x12 x13 x14 τ) 12 c) =
   evSs F K (.cons (.ifte wayC (.cons (.asg 13 (.bin .add (.loc 10) (.int 1))) .nil) .nil) (.cons wayP .nil)) (S15 x0 x1 x2 (some (.int many)) x4 (some (.int sty)) (some (.int most)) x7 (some (.int num')) x9 (some (.int k)) (some (.ref n)) (some c) (some (.int m)) x14 τ):=by
  exact atP 2 fun t=>t h1 rfl (congrArg V.int hn) rfl hmz (congrArg V.int hm1)
 rw [e0]
 cases b with
 | true=>
  obtain ⟨o,ho,e⟩:=Z9h F K x0 x1 x2 x4 x7 x9 (some c) x14 many most k n sty ws τ hτ hw num' (k + 1)
  refine ⟨num',o,some (.int ((k + 1:Nat):Int)),ho,?_⟩
  have e1:evS F K (.ifte wayC (.cons (.asg 13 (.bin .add (.loc 10) (.int 1))) .nil) .nil) (S15 x0 x1 x2 (some (.int many)) x4 (some (.int sty)) (some (.int most)) x7 (some (.int num')) x9 (some (.int k)) (some (.ref n)) (some c) (some (.int m)) x14 τ) = .ok .next (S15 x0 x1 x2 (some (.int many)) x4 (some (.int sty)) (some (.int most)) x7 (some (.int num')) x9 (some (.int k)) (some (.ref n)) (some c) (some (.int ((k + 1:Nat):Int))) x14 τ):=by
   rw [if_t hb]
   exact atS fun t=>t (congrArg V.int (by lia:(k:Int) + 1 = ((k + 1:Nat):Int)))
  rw [Zdn e1]
  exact one1 e
 | false=>
  obtain ⟨o,ho,e⟩:=Z9h F K x0 x1 x2 x4 x7 x9 (some c) x14 many most k n sty ws τ hτ hw num' m
  refine ⟨num',o,some (.int m),ho,?_⟩
  rw [Zdn (st':=S15 x0 x1 x2 (some (.int many)) x4 (some (.int sty)) (some (.int most)) x7 (some (.int num')) x9 (some (.int k)) (some (.ref n)) (some c) (some (.int m)) x14 τ) ((if_f hb).trans rfl)]
  exact one1 e
end
theorem Z7o (F:Fn) (K:Nat) (x0 x1 x2 x4 x7 x9 x14:Option V) (many most k n:Nat) (sty:Int) (hm:0 < most):∀ (S:List Nat) (ws:List (Option Nat)) (num:Int) (x12 x13:Option V) (τ:List O),τ[n]? = some (.lst (ws.map wV))→ws.length + S.length < 100→(∀ k,some k ∈ ws→k < many) →
  ∃ (num':Int) (ws':List (Option Nat)) (y12 y13:Option V),ws'.length = ws.length + S.length∧(∀ k,some k ∈ ws'→k < many) ∧
   forR (fun x st=>evSs F K Z0I (setV st 12 x)) (S.map fun c=>V.str [c]) (S15 x0 x1 x2 (some (.int many)) x4 (some (.int sty)) (some (.int most)) x7 (some (.int num)) x9 (some (.int k)) (some (.ref n)) x12 x13 x14 τ) =
    .ok .next (S15 x0 x1 x2 (some (.int many)) x4 (some (.int sty)) (some (.int most)) x7 (some (.int num')) x9 (some (.int k)) (some (.ref n)) y12 y13 x14 (τ.set n (.lst (ws'.map wV))))
 | [],ws,num,x12,x13,τ,hτ,hw,hk=>⟨num,ws,x12,x13,rfl,hk,by
   have hlt:=(List.getElem?_eq_some_iff.mp hτ)
   have e:τ.set n (.lst (ws.map wV)) = τ:=by
    obtain ⟨h1,h2⟩:=hlt
    rw [← h2]; exact List.set_getElem_self h1
   rw [e]; exact Z1Y ..⟩
 | c :: S,ws,num,x12,x13,τ,hτ,hw,hk=>by
  have hw':ws.length + (S.length + 1) < 100:=hw
  obtain ⟨num₁,o,y,ho,e1⟩:=ZaJ F K x0 x1 x2 x4 x7 x9 x12 x14 many most k n sty ws τ hτ (by omega) hm num x13 (.str [c])
  have hlt:=(List.getElem?_eq_some_iff.mp hτ).1
  obtain ⟨num',ws',y12,y13,h1,h2,e2⟩:=Z7o F K x0 x1 x2 x4 x7 x9 x14 many most k n sty hm S (ws++[o]) num₁ (some (.str [c])) y (τ.set n (.lst ((ws++[o]).map wV))) (List.getElem?_set_self hlt) (by rw [List.length_append,List.length_singleton]; omega) (fun j hj=>by
   rcases List.mem_append.mp hj with q | q
   ·exact hk j q
   ·exact ho j (List.mem_singleton.mp q).symm)
  refine ⟨num',ws',y12,y13,by rw [h1,List.length_append,List.length_singleton,List.length_cons]; omega,h2,?_⟩
  rw [List.set_set] at e2
  rw [List.map_cons,Z0P,e1,R.bind_ok]
  exact e2
noncomputable def TS (σ:List O) (T:List Rw) (k:Nat):List O:=σ++.lst (T.map rowV) :: List.replicate k .dead
theorem Zbl (σ:List O) (T:List Rw) (k:Nat) (r:List O):(TS σ T k++r)[σ.length]? = some (.lst (T.map rowV)):=by unfold TS; rw [List.append_assoc]; exact Z9e ..
theorem Zdq (σ:List O) (T:List Rw) (k:Nat) (o:Rw):(TS σ T k++[O.dead]).set σ.length (.lst (T.map rowV++[rowV o])) = TS σ (T++[o]) (k + 1):=by
 unfold TS
 rw [List.append_assoc,List.cons_append,Z9f,List.map_append,List.replicate_succ']; rfl
theorem Z9i (F:Fn) (K:Nat) (x0 x1 x2:Option V) (S:List Nat) (many most:Nat) (hS:S.length < 100) (hm:0 < most) (sty alone:Int) (hsty:∃ d:Nat,0 < d∧d ≤ 30∧idxOf [V.int 6,V.int 12,V.int 30,V.int 3] sty = some (.int d)) (σ:List O) (T:List Rw) (k:Nat) (hk:T.length < 100) (num:Int) (x11 x12 x13 x14:Option V) :
  ∃ (num':Int) (r:Rw) (y11 y12 y13 y14:Option V),r.2.length = S.length∧(∀ j,some j ∈ r.2→j < many) ∧
   evSs F K Z0J (S15 x0 x1 x2 (some (.int many)) (some (.str S)) (some (.int sty)) (some (.int most)) (some (.int alone)) (some (.int num)) (some (.ref σ.length)) (some (.int k)) x11 x12 x13 x14 (TS σ T k)) =
    .ok .next (S15 x0 x1 x2 (some (.int many)) (some (.str S)) (some (.int sty)) (some (.int most)) (some (.int alone)) (some (.int num')) (some (.ref σ.length)) (some (.int k)) y11 y12 y13 y14 (TS σ (T++[r]) (k + 1))):=by
 obtain ⟨num₁,ws,y12,y13,h1,h2,e1⟩:=Z7o F K x0 x1 x2 (some (.str S)) (some (.int alone)) (some (.ref σ.length)) x14 many most k (TS σ T k).length sty hm S [] num x12 x13 (TS σ T k++[.lst []]) (Z50 ..) (by simpa using hS) (fun j hj=>by cases hj)
 rw [Z2T] at e1
 obtain ⟨d,d1,d2,hd⟩:=hsty
 obtain ⟨num₂,hn⟩:∃ num₂,Int.fmod (num₁ * 48271 + 11) 2147483647 = num₂:=⟨_,rfl⟩
 obtain ⟨m,hm1,hm2⟩:=Z0Z (Int.fdiv num₂ 7) d d1
 have q1:=Z33 num₁ 48271 (by rw [Z2d (i:=48271) (by omega) (by omega),Bool.or_true])
 have q2:=Z33 (m:Int) alone (by rw [Z21 (by omega)]; rfl)
 have hr:Z1W (TS σ T k++[.lst (ws.map wV)]) .append (.ref σ.length) = true:=Z15 _ _ _ (Zbl σ T k _)
 have hl:(T.map rowV).length < sizeLine:=by rw [List.length_map]; unfold sizeLine; omega
 have ha:∀ (o:Option Int) ρ,Z1C .append (.ref σ.length) (.tup [oV o,.lst (ws.map wV)]) ⟨ρ,TS σ T k++[.dead]⟩ = .ok .none ⟨ρ,TS σ (T++[(o,ws)]) (k + 1)⟩:=fun o ρ=>by
  rw [Z0B ρ _ σ.length _ _ (Zbl σ T k _) hl,← Zdq]; rfl
 have hz:((d:Int) == 0) = false:=nz (by omega)
 have fz1:(TS σ T k++[O.lst (ws.map wV)]).set (TS σ T k).length .dead = TS σ T k++[.dead]:=Z2T ..
 by_cases h:(m:Int) > 2
 ·have hb:Z0O (TS σ T k++[.lst (ws.map wV)]) .int (.bool (decide ((m:Int) > 2))) = some (.int 1):=by rw [decide_eq_true h]; rfl
  refine ⟨num₂,(none,ws),some (.lst (ws.map wV)),y12,y13,some (.int m),by simpa using h1,h2,?_⟩
  exact atS fun t=>t rfl rfl rfl rfl e1 q1 rfl (congrArg V.int hn) rfl ((Z20 _ _ _).trans hd) hz (congrArg V.int hm1) hr q2 hb rfl (Z50 ..) fz1 (ha none _)
 ·have hb:Z0O (TS σ T k++[.lst (ws.map wV)]) .int (.bool (decide ((m:Int) > 2))) = some (.int 0):=by rw [decide_eq_false h]; rfl
  refine ⟨num₂,(some ((m:Int) * alone),ws),some (.lst (ws.map wV)),y12,y13,some (.int m),by simpa using h1,h2,?_⟩
  exact atS fun t=>t rfl rfl rfl rfl e1 q1 rfl (congrArg V.int hn) rfl ((Z20 _ _ _).trans hd) hz (congrArg V.int hm1) hr q2 hb rfl (Z50 ..) fz1 (ha (some ((m:Int) * alone)) _)
theorem ZaK {n i:Nat} {x:V} (h:(upTo 0 (n:Int))[i]? = some x):x = .int (i:Int)∧i < n:=by
 have hi:i < n:=by have:=(List.getElem?_eq_some_iff.mp h).1; rwa [Z2W] at this
 refine ⟨?_,hi⟩
 unfold upTo at h
 rw [List.getElem?_map] at h
 obtain ⟨k,hk,rfl⟩:=Option.map_eq_some_iff.mp h
 obtain ⟨hk1,rfl⟩:=List.getElem?_eq_some_iff.mp hk
 simp
theorem Z9j (F:Fn) (K:Nat) (x0 x1 x2:Option V) (S:List Nat) (many most:Nat) (hS:S.length < 100) (h64:many ≤ 64) (hm:0 < most) (sty alone num:Int) (hsty:∃ d:Nat,0 < d∧d ≤ 30∧idxOf [V.int 6,V.int 12,V.int 30,V.int 3] sty = some (.int d)) (σ:List O) :
  ∃ (T:List Rw) (num':Int) (y10 y11 y12 y13 y14:Option V),T.length = many∧(∀ r ∈ T,r.2.length = S.length)∧(∀ r ∈ T,∀ j,some j ∈ r.2→j < many) ∧
   forR (fun x st=>evSs F K Z0J (setV st 10 x)) (upTo 0 (many:Int)) (S15 x0 x1 x2 (some (.int many)) (some (.str S)) (some (.int sty)) (some (.int most)) (some (.int alone)) (some (.int num)) (some (.ref σ.length)) none none none none none (TS σ [] 0)) =
    .ok .next (S15 x0 x1 x2 (some (.int many)) (some (.str S)) (some (.int sty)) (some (.int most)) (some (.int alone)) (some (.int num')) (some (.ref σ.length)) y10 y11 y12 y13 y14 (TS σ T many)):=by
 obtain ⟨st,e,T,num',y10,y11,y12,y13,y14,h1,h2,h3,rfl⟩:=Z6J (step:=fun x st=>evSs F K Z0J (setV st 10 x))
  (fun i st=>∃ (T:List Rw) (num':Int) (y10 y11 y12 y13 y14:Option V),T.length = i∧(∀ r ∈ T,r.2.length = S.length)∧(∀ r ∈ T,∀ j,some j ∈ r.2→j < many)∧st = S15 x0 x1 x2 (some (.int many)) (some (.str S)) (some (.int sty)) (some (.int most)) (some (.int alone)) (some (.int num')) (some (.ref σ.length)) y10 y11 y12 y13 y14 (TS σ T i))
  (upTo 0 (many:Int)) 0 (S15 x0 x1 x2 (some (.int many)) (some (.str S)) (some (.int sty)) (some (.int most)) (some (.int alone)) (some (.int num)) (some (.ref σ.length)) none none none none none (TS σ [] 0)) (by
   rintro i x st hx ⟨T,num',y10,y11,y12,y13,y14,h1,h2,h3,rfl⟩
   rw [Nat.zero_add] at *
   obtain ⟨rfl,hi⟩:=ZaK hx
   obtain ⟨num₂,r,z11,z12,z13,z14,r1,r2,e⟩:=Z9i F K x0 x1 x2 S many most hS hm sty alone hsty σ T i (by omega) num' y11 y12 y13 y14
   refine ⟨_,e,T++[r],num₂,_,_,_,_,_,by rw [List.length_append,h1]; rfl,fun q hq=>?_,fun q hq=>?_,rfl⟩
   ·rcases List.mem_append.mp hq with hq | hq
    ·exact h2 q hq
    ·rw [List.mem_singleton.mp hq]; exact r1
   ·rcases List.mem_append.mp hq with hq | hq
    ·exact h3 q hq
    ·rw [List.mem_singleton.mp hq]; exact r2)
  ⟨[],num,_,_,_,_,_,rfl,fun _ h=>(by cases h),fun _ h=>(by cases h),rfl⟩
 rw [Z2W,Nat.zero_add] at h1 e
 exact ⟨T,num',y10,y11,y12,y13,y14,h1,h2,h3,e⟩
theorem Z4n (L:List Nat) (z:Nat):∀ m,((List.range m).map (word L z)).flatten = L.take (m * z)
 | 0=>by simp
 | m + 1=>by
  rw [List.range_succ,List.map_append,List.flatten_append,Z4n L z m,Nat.add_mul,Nat.one_mul,List.take_add]
  simp [word]
theorem Z4o (L:List Nat) (z:Nat):∀ (l:List Nat),Z12 (l.map fun k=>V.str (word L z k)) = some (l.map (word L z))
 | []=>rfl
 | c :: l=>(congrArg (Option.map (word L z c :: ·)) (Z4o L z l):_)
noncomputable def Sms.tl:Sms→Sms
 | .cons _ s=>s
 | .nil=>.nil
theorem Zcz (F:Fn) (K:Nat) (is:List Int) (x1 x2:Option V) (σ:List O) (hc:∀ k,k < 100→F "_law_cell_at" [scV is,.int (k:Nat)] σ = .ok (.int (is.getD k 0)) ⟨[],σ⟩) :
  ∃ many:Nat,1 ≤ many∧many ≤ 64∧evSs F K dl_table_byB (S15 (some (scV is)) x1 x2 none none none none none none none none none none none none σ) = evSs F K dl_table_byB.tl.tl (S15 (some (scV is)) x1 x2 (some (.int many)) none none none none none none none none none none none σ):=by
 obtain ⟨a,ha,ha7⟩:=Z0Z (is.getD 1 0) 7 (by omega)
 obtain ⟨b,hb,hb64⟩:=Z0Z (Int.fdiv (is.getD 1 0) 42) 64 (by omega)
 have ha':Int.fmod (is.getD 1 0) 7 = (a:Int):=ha
 have hb':Int.fmod (Int.fdiv (is.getD 1 0) 42) 64 = (b:Int):=hb
 have c1:=hc 1 (by omega)
 by_cases h:Int.fmod (Int.fdiv (is.getD 1 0) 7) 6 = 1
 ·refine ⟨1 + b,by omega,by omega,?_⟩
  exact atP 2 fun t=>t c1 rfl rfl c1 rfl rfl (beq_iff_eq.mpr h) c1 rfl rfl (congrArg V.int (by rw [hb']; omega))
 ·refine ⟨1 + a,by omega,by omega,?_⟩
  exact atP 2 fun t=>t c1 rfl (congrArg V.int (by rw [ha']; omega:(1:Int) + Int.fmod (is.getD 1 0) 7 = ((1 + a:Nat):Int))) c1 rfl rfl (beq_eq_false_iff_ne.mpr h)
theorem ZaL (m n:Nat):Int.fdiv (m:Int) (n:Int) = ((m / n:Nat):Int):=by
 rw [Int.fdiv_eq_ediv_of_nonneg _ (by omega)]; rfl
theorem cut0 {α:Type} (xs:List α) (m:Nat):cutL xs none (some (m:Int)) = xs.take m:=by
 unfold cutL
 simp only [Option.elim_none,Option.elim_some,Z7n,List.drop_zero,Nat.sub_zero]
 rcases Nat.le_total m xs.length with h | h
 ·rw [Nat.min_eq_left h]
 ·rw [Nat.min_eq_right h,List.take_length,List.take_of_length_le h]
theorem idx4 (i:Int):∃ d:Nat,0 < d∧d ≤ 30∧idxOf [V.int 6,V.int 12,V.int 30,V.int 3] (Int.fmod i 4) = some (.int d):=by
 obtain ⟨k,hk,h4⟩:=Z0Z i 4 (by omega)
 have hk':Int.fmod i 4 = (k:Int):=hk
 rw [hk']
 have:k = 0 ∨ k = 1 ∨ k = 2 ∨ k = 3:=by omega
 rcases this with rfl | rfl | rfl | rfl
 ·exact ⟨6,by omega,by omega,rfl⟩
 ·exact ⟨12,by omega,by omega,rfl⟩
 ·exact ⟨30,by omega,by omega,rfl⟩
 ·exact ⟨3,by omega,by omega,rfl⟩
theorem Z9k (F:Fn) (K:Nat) (is:List Int) {L:List Nat} {z:Nat} (hL:Lets L z) (σ:List O) (hσ:Cl σ) (hc:∀ k,k < 100→F "_law_cell_at" [scV is,.int (k:Nat)] σ = .ok (.int (is.getD k 0)) ⟨[],σ⟩) :
  ∃ S T,TbOk S T∧Z0m F K Z1Q [scV is,.lst (Z0d L z),.int 2] σ = .ok (tbV S T) ⟨[],σ⟩:=by
 obtain ⟨many,m1,m64,e0⟩:=Zcz F K is (some (.lst (Z0d L z))) (some (.int 2)) σ hc
 obtain ⟨m,hm,hm5⟩:=Z0Z (is.getD 2 0) 5 (by omega)
 have hm':Int.fmod (is.getD 2 0) 5 = (m:Int):=hm
 have c2:=hc 2 (by omega)
 have c3:=hc 3 (by omega)
 have hw:(Z0d L z).take m = (List.range m).map fun k=>V.str (word L z k):=by
  unfold Z0d
  rw [← List.map_take,List.take_range,Nat.min_eq_left (by omega)]
 have hsl:Z0o σ (.lst (Z0d L z)) .none (.int (Int.fmod (is.getD 2 0) 5)) = some (.lst ((List.range m).map fun k=>V.str (word L z k))):=by rw [hm',Z9S,cut0,hw]
 have hfl:=Z4n L z m
 have hlen:(L.take (m * z)).length ≤ 95:=by
  rw [List.length_take,hL.len]
  have:=hL.z19
  omega
 have hj:∀ st,Z1C .join (.str []) (.lst ((List.range m).map fun k=>V.str (word L z k))) st = .ok (.str (L.take (m * z))) st:=fun st=>by
  rw [Z8d (Z4o L z (List.range m)) (by rw [hfl]; exact Nat.le_trans hlen (by decide)),hfl]
 obtain ⟨n,hn40,hn⟩:∃ n:Nat,n ≤ 40∧∃ b:Int,Z0O σ .int (.bool (decide ((many:Int) > 7))) = some (.int b)∧Z0b σ (.lst [.int 40,.int 2]) (.int b) = some (.int n):=by
  by_cases h:(many:Int) > 7
  ·exact ⟨2,by omega,1,by rw [decide_eq_true h]; rfl,rfl⟩
  ·exact ⟨40,by omega,0,by rw [decide_eq_false h]; rfl,rfl⟩
 obtain ⟨b,hb,hsb⟩:=hn
 have hs2:Z0o σ (.str (L.take (m * z))) .none (.int n) = some (.str ((L.take (m * z)).take n)):=by rw [Z9R,cut0]
 have hnd:((L.take (m * z)).take n).Nodup:=(hL.nd.sublist (List.take_sublist _ _)).sublist (List.take_sublist _ _)
 have hsz:((L.take (m * z)).take n).length ≤ 40:=Nat.le_trans (List.length_take_le ..) hn40
 generalize (L.take (m * z)).take n = S at hs2 hnd hsz
 obtain ⟨a,ha,ha3⟩:∃ a:Nat,∃ v:V,idxOf [V.int 0,V.int 1,V.int (1 + Int.fdiv (many:Int) 3)] (Int.fmod (Int.fdiv (is.getD 2 0) 20) 3) = some v∧v = .int (a:Int):=by
  obtain ⟨v,h1,h2⟩:=Z4w [V.int 0,V.int 1,V.int (1 + Int.fdiv (many:Int) 3)] (i:=Int.fdiv (is.getD 2 0) 20) (n:=3) (by omega) (by omega) (by simp)
  have h1':idxOf [V.int 0,V.int 1,V.int (1 + Int.fdiv (many:Int) 3)] (Int.fmod (Int.fdiv (is.getD 2 0) 20) 3) = some v:=h1
  simp only [List.mem_cons,List.not_mem_nil,or_false] at h2
  have hd:Int.fdiv (many:Int) 3 = ((many / 3:Nat):Int):=ZaL many 3
  rcases h2 with rfl | rfl | rfl
  ·exact ⟨0,_,h1',rfl⟩
  ·exact ⟨1,_,h1',rfl⟩
  ·exact ⟨1 + many / 3,_,h1',congrArg V.int (by rw [hd]; omega)⟩
 obtain ⟨ha,rfl⟩:=ha3
 obtain ⟨al,hal⟩:∃ al:Int,idxOf [V.int 0,V.int 1,V.int 7,V.int (10 ^ 9)] (Int.fmod (Int.fdiv (is.getD 2 0) 60) 4) = some (.int al):=by
  obtain ⟨v,h1,h2⟩:=Z4w [V.int 0,V.int 1,V.int 7,V.int (10 ^ 9)] (i:=Int.fdiv (is.getD 2 0) 60) (n:=4) (by omega) (by omega) (by simp)
  have h1':idxOf [V.int 0,V.int 1,V.int 7,V.int (10 ^ 9)] (Int.fmod (Int.fdiv (is.getD 2 0) 60) 4) = some v:=h1
  simp only [List.mem_cons,List.not_mem_nil,or_false] at h2
  rcases h2 with rfl | rfl | rfl | rfl <;> exact ⟨_,h1'⟩
 obtain ⟨T,num',y10,y11,y12,y13,y14,t1,t2,t3,e⟩:=Z9j F K (some (scV is)) (some (.lst (Z0d L z))) (some (.int 2)) S many (many + a) (by omega) m64 (by omega) (Int.fmod (Int.fdiv (is.getD 2 0) 5) 4) al (Int.fmod (is.getD 3 0) 2147483647) (idx4 _) σ
 refine ⟨S,T,⟨hnd,hsz,by omega,by omega,t2,fun r hr=>by rw [t1]; exact t3 r hr⟩,Z1E rfl ?_ (Z5K _ _ _) hσ⟩
 show Ret (evSs F K dl_table_byB (S15 (some (scV is)) (some (.lst (Z0d L z))) (some (.int 2)) none none none none none none none none none none none none σ)) _ _
 rw [e0]
 have hp:Z1D .pow (.int 10) (.int 9) = some (.int (10 ^ 9)):=rfl
 have hmost:(many:Int) + (a:Int) = ((many + a:Nat):Int):=by omega
 have fz1:(TS σ T many).set σ.length .dead = σ++.dead :: List.replicate many .dead:=Z9f ..
 refine Ret.mk (τ:=.dead :: List.replicate many .dead) (ρ:=[some (scV is),some (.lst (Z0d L z)),some (.int 2),some (.int many),some (.str S),some (.int (Int.fmod (Int.fdiv (is.getD 2 0) 5) 4)),some (.int ((many + a:Nat):Int)),some (.int al),some (.int num'),some (.lst (T.map rowV)),y10,y11,y12,y13,y14]) ?_
 exact atS fun t=>t rfl c2 rfl hsl (hj _) hb hsb hs2 rfl c2 rfl rfl rfl rfl c2 rfl rfl ((Z20 _ _ _).trans ha) (congrArg V.int hmost) hp c2 rfl rfl ((Z20 _ _ _).trans hal) rfl c3 rfl rfl rfl rfl rfl rfl (Z2A (by omega)) e (Z9e ..) fz1 rfl
noncomputable def Z0f (S:List Nat) (T:List Rw):Option Nat→List (Option Nat)
 | none=>List.replicate S.length none
 | some k=>(T.getD k (none,[])).2
noncomputable def Z2e (T:List Rw):Option Nat→Option Int
 | none=>none
 | some k=>(T.getD k (none,[])).1
noncomputable def Row (T:List Rw) (r:Option Nat):Prop:=∀ k,r = some k→k < T.length
theorem Z19 (σ:List O) (S:List Nat) (T:List Rw):Z0b σ (tbV S T) (.int 0) = some (.str S):=rfl
theorem Z0E (σ:List O) (S:List Nat) (T:List Rw):Z0b σ (tbV S T) (.int 1) = some (.lst (T.map rowV)):=rfl
theorem Z3P (σ:List O) (T:List Rw) {k:Nat} (h:k < T.length) (h2:T.length ≤ 64):Z0b σ (.lst (T.map rowV)) (.int (k:Int)) = some (rowV (T.getD k (none,[]))):=by
 rw [Z20,Z2n _ (by omega),List.getElem?_map,List.getElem?_eq_getElem h,List.getD_eq_getElem?_getD,List.getElem?_eq_getElem h]; rfl
theorem Z7p (σ:List O) (r:Rw):Z0b σ (rowV r) (.int 0) = some (oV r.1):=rfl
theorem Z51 (σ:List O) (r:Rw):Z0b σ (rowV r) (.int 1) = some (.lst (r.2.map wV)):=rfl
section
variable (F:Fn) (K:Nat) {S:List Nat} {T:List Rw} (ok:TbOk S T)
include ok
theorem Z6p (r:Option Nat) (hr:Row T r) (σ:List O) (hσ:Cl σ):Z0m F K Z3H [tbV S T,wV r] σ = .ok (oV (Z2e T r)) ⟨[],σ⟩:=by
 refine Z1E (r:=oV (Z2e T r)) rfl ?_ (ZaI _ _) hσ
 cases r with
 | none=>exact Ret.mk0 (atS fun t=>t rfl rfl)
 | some k=>exact Ret.mk0 (atS fun t=>t rfl (Z0E σ S T) (Z3P σ T (hr k rfl) ok.t64) (Z7p σ _) rfl)
theorem Z6q (r:Option Nat) (hr:Row T r) (σ:List O) (hσ:Cl σ):Z0m F K Z2x [tbV S T,wV r] σ = .ok (oV (Z2e T r)) ⟨[],σ⟩:=by
 refine Z1E (r:=oV (Z2e T r)) rfl ?_ (ZaI _ _) hσ
 cases r with
 | none=>exact Ret.mk0 (atS fun t=>t rfl rfl)
 | some k=>exact Ret.mk0 (atS fun t=>t rfl (Z0E σ S T) (Z3P σ T (hr k rfl) ok.t64) (Z7p σ _) rfl)
theorem Z6r (r:Option Nat) (hr:Row T r) (σ:List O) (hσ:Cl σ):Z0m F K Z3J [tbV S T,wV r] σ = .ok (.lst ((Z0f S T r).map wV)) ⟨[],σ⟩:=by
 refine Z1E (r:=.lst ((Z0f S T r).map wV)) rfl ?_ (by rw [Z16]; exact Zcw _ _) hσ
 cases r with
 | none=>
  have e:=Z2U (F:=F) (elt:=Z3I) (k:=2) (ρ₀:=[some (tbV S T),some .none,none]) (σ:=σ) (it:=.val (.sub (.loc 0) (.int 0))) (xs:=S.map fun c=>V.str [c]) (fun _=>V.none) (fun _ _=>Z0y)
   (atI fun t=>t (Z19 σ S T) rfl) (by rw [List.length_map]; have:=ok.s40; unfold sizeLine; omega) (fun x hx acc ha=>rfl)
  have ey:(S.map fun c=>V.str [c]).map (fun _=>V.none) = (Z0f S T none).map wV:=by
   unfold Z0f
   rw [List.map_map,List.map_replicate]
   exact List.map_const' ..
  rw [ey] at e
  exact Ret.mk (τ:=[.dead]) (atS fun t=>t rfl e rfl)
 | some k=>exact Ret.mk0 (atS fun t=>t rfl (Z0E σ S T) (Z3P σ T (hr k rfl) ok.t64) (Z51 σ _) rfl)
theorem Z7q (r:Option Nat) (hr:Row T r):(Z0f S T r).length = S.length:=by
 cases r with
 | none=>exact List.length_replicate
 | some k=>
  have h:=hr k rfl
  show (T.getD k (none,[])).2.length = _
  rw [List.getD_eq_getElem?_getD,List.getElem?_eq_getElem h]
  exact ok.len _ (List.getElem_mem h)
theorem Z1B (r:Option Nat) (hr:Row T r) (j:Nat):Row T ((Z0f S T r).getD j none):=fun k hk=>by
 cases r with
 | none=>
  have:(List.replicate S.length (none:Option Nat)).getD j none = some k:=hk
  rw [List.getD_eq_getElem?_getD,List.getElem?_replicate] at this
  split at this <;> cases this
 | some q=>
  have h:=hr q rfl
  have hk:(T.getD q (none,[])).2.getD j none = some k:=hk
  have e0:T.getD q (none,[]) = T[q]:=by rw [List.getD_eq_getElem?_getD,List.getElem?_eq_getElem h]; rfl
  rw [e0,List.getD_eq_getElem?_getD] at hk
  refine ok.lt _ (List.getElem_mem h) k ?_
  cases e:T[q].2[j]? with
  | none=>rw [e] at hk; cases hk
  | some w=>rw [e] at hk; exact List.mem_of_getElem? (e.trans (congrArg some hk))
theorem Z6s (σ:List O) (r:Option Nat) (hr:Row T r) {j:Nat} (hj:j < S.length):Z0b σ (.lst ((Z0f S T r).map wV)) (.int (j:Int)) = some (wV ((Z0f S T r).getD j none)):=by
 have hl:=Z7q ok r hr
 have:=ok.s40
 rw [Z20,Z2n _ (by omega),List.getElem?_map,List.getD_eq_getElem?_getD,List.getElem?_eq_getElem (by omega)]; rfl
theorem ZaM {j:Nat} (hj:j < S.length):S.idxOf S[j] = j:=ok.nd.idxOf_getElem j hj
theorem Zdr (r:Option Nat) (hr:Row T r) {j:Nat} (hj:j < S.length) (σ:List O) (hσ:Cl σ):Z0m F K Zcq [tbV S T,wV r,.str [S[j]]] σ = .ok (wV ((Z0f S T r).getD j none)) ⟨[],σ⟩:=by
 refine Z1E (r:=wV ((Z0f S T r).getD j none)) rfl ?_ (Zcv _ _) hσ
 show Ret (evSs F K Zbk ⟨[some (tbV S T),some (wV r),some (.str [S[j]]),none],σ⟩) _ _
 cases r with
 | none=>
  have hn:(Z0f S T none).getD j none = none:=by
   show (List.replicate S.length (none:Option Nat)).getD j none = none
   rw [List.getD_eq_getElem?_getD,List.getElem?_replicate]
   split <;> rfl
  rw [hn]
  have e:forR (fun x st=>evSs F K Z3M (setV st 3 x)) [.str [S[j]]] ⟨[some (tbV S T),some .none,some (.str [S[j]]),none],σ⟩ = .ok (.ret .none) ⟨[some (tbV S T),some .none,some (.str [S[j]]),some (.str [S[j]])],σ⟩:=by
   rw [Z0P,show evSs F K Z3M (setV ⟨[some (tbV S T),some .none,some (.str [S[j]]),none],σ⟩ 3 (.str [S[j]])) = .ok (.ret .none) ⟨[some (tbV S T),some .none,some (.str [S[j]]),some (.str [S[j]])],σ⟩ from atS fun t=>t rfl rfl rfl]
   rfl
  exact Ret.mk0 (atS fun t=>t rfl e)
 | some k=>
  have hin:inD σ (.str [S[j]]) (.str S) = some true:=by
   show some (S.contains S[j]) = some true
   rw [List.contains_iff_mem.mpr (List.getElem_mem hj)]
  have hix:∀ st,Z1C .index (.str S) (.str [S[j]]) st = .ok (.int (j:Int)) st:=fun st=>by
   show (if S.contains S[j] = true then R.ok (V.int (S.idxOf S[j])) st else .stuck) = _
   rw [if_pos (List.contains_iff_mem.mpr (List.getElem_mem hj)),ZaM ok hj]
  have hs:=Z6s ok σ (some k) hr hj
  have e:forR (fun x st=>evSs F K Z3M (setV st 3 x)) [.str [S[j]]] ⟨[some (tbV S T),some (wV (some k)),some (.str [S[j]]),none],σ⟩ = .ok .next ⟨[some (tbV S T),some (wV ((Z0f S T (some k)).getD j none)),some (.str [S[j]]),some (.str [S[j]])],σ⟩:=by
   rw [Z0P,show evSs F K Z3M (setV ⟨[some (tbV S T),some (wV (some k)),some (.str [S[j]]),none],σ⟩ 3 (.str [S[j]])) = .ok .next ⟨[some (tbV S T),some (wV ((Z0f S T (some k)).getD j none)),some (.str [S[j]]),some (.str [S[j]])],σ⟩ from atS fun t=>t rfl (Z19 σ S T) hin rfl (Z0E σ S T) (Z3P σ T (hr k rfl) ok.t64) (Z51 σ _) (Z19 σ S T) rfl (hix _) hs rfl]
   rfl
  exact Ret.mk0 (atS fun t=>t rfl e rfl)
end
abbrev Ss:=List (Option Nat)
noncomputable def key (s:Ss):List (Option Int):=s.map fun r=>r.map fun k:Nat=>(k:Int)
noncomputable def stV (s:Ss):V:=.tup (s.map wV)
theorem Z6t {a b:Ss} (h:key a = key b):a = b:=by
 refine List.map_inj_right (f:=fun r:Option Nat=>r.map fun k:Nat=>(k:Int)) (fun x y e=>?_) |>.mp h
 cases x <;> cases y <;> simp at e <;> first | rfl | exact congrArg some (by omega)
theorem Z2f (s:Ss):Z7z (stV s) = some (key s):=by
 show Z58 (s.map wV) = some (key s)
 induction s with
 | nil=>rfl
 | cons r s ih=>
  show ((Zbt (wV r)).bind fun k=>(Z58 (s.map wV)).bind fun l=>some (k :: l)) = _
  rw [ih]
  cases r <;> rfl
theorem Zbm (s:Ss):kV (key s) = stV s:=by
 unfold kV key stV
 rw [List.map_map]; rfl
theorem Z4p (n:Nat) (s:Ss):(stV s).lo n = true:=by unfold stV; rw [Z0s]; exact Zcw _ _
noncomputable def stp (S:List Nat) (T:List Rw) (j:Nat) (s:Ss):Ss:=s.map fun r=>(Z0f S T r).getD j none
noncomputable def nxF (S:List Nat) (T:List Rw) (S':List Nat) (j:Nat) (s:Ss):List (Nat × Ss):=(S'.zipIdx j).map fun p=>(p.1,stp S T p.2 s)
noncomputable def nxL (S:List Nat) (T:List Rw) (s:Ss):List (Nat × Ss):=nxF S T S 0 s
abbrev Qu:=List (Ss × List Nat)
noncomputable def FS (σ:List O) (q:Qu) (m:Nat):List O:=σ++.kdict (q.map fun e=>(key e.1,.bool true)) :: .lst (q.map fun e=>stV e.1) :: .lst (q.map fun e=>.str e.2) :: List.replicate m .dead
theorem Z0k {α:Type} (σ L:List α) (i:Nat):(σ++L)[σ.length + i]? = L[i]?:=by rw [List.getElem?_append_right (Nat.le_add_right _ _),Nat.add_sub_cancel_left]
theorem Z1R {α:Type} (σ L:List α) (i:Nat) (x:α):(σ++L).set (σ.length + i) x = σ++L.set i x:=by rw [List.set_append_right _ _ (Nat.le_add_right _ _),Nat.add_sub_cancel_left]
theorem ZcA (σ:List O) (q:Qu) (m:Nat):FS σ q m++[.dead] = FS σ q (m + 1):=by
 unfold FS
 rw [List.replicate_succ',List.append_assoc]; rfl
theorem Zds {σ:List O} (h:Cl σ) (q:Qu) (m:Nat):Cl (FS σ q m):=by
 unfold Cl
 have hl:σ.length ≤ (FS σ q m).length:=by unfold FS; rw [List.length_append]; exact Nat.le_add_right _ _
 generalize (FS σ q m).length = N at hl
 unfold FS
 rw [List.all_append,Bool.and_eq_true]
 refine ⟨List.all_eq_true.mpr fun o ho=>O.lo_mono hl (List.all_eq_true.mp h o ho),List.all_eq_true.mpr fun o ho=>?_⟩
 rcases List.mem_cons.mp ho with rfl | ho
 ·refine Z6m (Z1H fun x hx=>?_) (Z1H fun x hx=>?_)
  ·rw [List.map_map] at hx
   obtain ⟨e,_,rfl⟩:=List.mem_map.mp hx
   show (kV (key e.1)).lo N = true
   rw [Zbm]; exact Z4p _ _
  ·rw [List.map_map] at hx
   obtain ⟨e,_,rfl⟩:=List.mem_map.mp hx
   exact Z0z _
 rcases List.mem_cons.mp ho with rfl | ho
 ·exact Z1H fun x hx=>by obtain ⟨e,_,rfl⟩:=List.mem_map.mp hx; exact Z4p _ _
 rcases List.mem_cons.mp ho with rfl | ho
 ·exact Z1H fun x hx=>by obtain ⟨e,_,rfl⟩:=List.mem_map.mp hx; exact Z0j _
 ·rw [List.eq_of_mem_replicate ho]; rfl
theorem Z4q (q:Qu) (s:Ss):((q.map fun e=>(key e.1,V.bool true)).find? fun p=>p.1 = key s).isSome = decide (s ∈ q.map (·.1)):=by
 rw [Bool.eq_iff_iff,List.find?_isSome,decide_eq_true_eq]
 constructor
 ·rintro ⟨p,hp,e⟩
  obtain ⟨e',he',rfl⟩:=List.mem_map.mp hp
  exact List.mem_map.mpr ⟨e',he',Z6t (of_decide_eq_true e)⟩
 ·intro h
  obtain ⟨e,he,rfl⟩:=List.mem_map.mp h
  exact ⟨_,List.mem_map.mpr ⟨e,he,rfl⟩,decide_eq_true rfl⟩
theorem ZaN (σ:List O) (q:Qu) (m:Nat) (s:Ss):inD (FS σ q m) (stV s) (.ref σ.length) = some (decide (s ∈ q.map (·.1))):=by
 show (Z3Y (FS σ q m) σ.length (stV s)).map Option.isSome = _
 have h:(FS σ q m)[σ.length]? = some (.kdict (q.map fun e=>(key e.1,.bool true))):=Z0k σ _ 0
 unfold Z3Y
 rw [Z2f,Option.bind_some,h]
 show some (((q.map fun e=>(key e.1,V.bool true)).find? fun p=>p.1 = key s).map (·.2)).isSome = _
 rw [Option.isSome_map,Z4q]
theorem Z2L {σ:List O} {n k:Nat} {xs:List V} {x:V} (h:σ[n]? = some (.lst xs)) (hx:xs[k]? = some x) (hk:k < 2 ^ 31):Z0b σ (.ref n) (.int (k:Int)) = some x:=by
 rw [ZcU h,Z2n _ hk,hx]
noncomputable def TxOk (q:Qu):Prop:=∀ e ∈ q,e.2.length ≤ q.length
theorem TxOk.add {q:Qu} (h:TxOk q) {t:List Nat} (ht:t.length ≤ q.length) (p:Nat × Ss):TxOk (addQ t q p):=by
 unfold addQ
 split
 ·exact h
 ·intro e he
  rw [List.length_append,List.length_singleton]
  rcases List.mem_append.mp he with he | he
  ·exact Nat.le_succ_of_le (h e he)
  ·rw [List.mem_singleton.mp he]
   show (t++[p.1]).length ≤ _
   rw [List.length_append]; exact Nat.succ_le_succ ht
noncomputable def S10 (a1 a2 a3 a4 a5 a6 a7 a8 a9 a10:Option V) (σ:List O):St:=⟨[a1,a2,a3,a4,a5,a6,a7,a8,a9,a10],σ⟩
noncomputable def RowS (T:List Rw) (s:Ss):Prop:=∀ r ∈ s,Row T r
theorem ZcB {S:List Nat} {T:List Rw} (ok:TbOk S T) {s:Ss} (h:RowS T s) (j:Nat):RowS T (stp S T j s):=fun r hr=>by
 obtain ⟨r',hr',rfl⟩:=List.mem_map.mp hr
 exact Z1B ok r' (h r' hr') j
theorem FS_k (σ:List O) (q:Qu) (m:Nat):(FS σ q m)[σ.length]? = some (.kdict (q.map fun e=>(key e.1,.bool true))):=Z0k σ _ 0
theorem FS_s (σ:List O) (q:Qu) (m:Nat):(FS σ q m)[σ.length + 1]? = some (.lst (q.map fun e=>stV e.1)):=Z0k σ _ 1
theorem FS_t (σ:List O) (q:Qu) (m:Nat):(FS σ q m)[σ.length + 2]? = some (.lst (q.map fun e=>.str e.2)):=Z0k σ _ 2
section
variable (F:Fn) (K:Nat) {S:List Nat} {T:List Rw} (ok:TbOk S T) (hgo:∀ (r:Option Nat) (j:Nat) (hj:j < S.length) (τ:List O),Row T r→Cl τ→F "_law_go" [tbV S T,wV r,.str [S[j]]] τ = .ok (wV ((Z0f S T r).getD j none)) ⟨[],τ⟩) (σ:List O) (hσ:Cl σ) (x1 x2:Option V)
include ok hgo hσ
theorem ZcC (q:Qu) (m k:Nat) (s:Ss) (t:List Nat) (x7 x8:Option V) (hq:q[k]? = some (s,t)) (hs:RowS T s) (h5:q.length < 6000) (ht:t.length ≤ 6000) (hsl:s.length ≤ 10) {j:Nat} (hj:j < S.length) :
  evSs F K Z0u (setV (S10 (some (tbV S T)) x1 x2 (some (.ref σ.length)) (some (.ref (σ.length + 1))) (some (.ref (σ.length + 2))) (some (.int k)) x7 x8 none (FS σ q m)) 7 (.str [S[j]])) =
   .ok .next (S10 (some (tbV S T)) x1 x2 (some (.ref σ.length)) (some (.ref (σ.length + 1))) (some (.ref (σ.length + 2))) (some (.int k)) (some (.str [S[j]])) (some (stV (stp S T j s))) none (FS σ (addQ t q (S[j],stp S T j s)) (m + 1))):=by
 have hk:k < q.length:=(List.getElem?_eq_some_iff.mp hq).1
 have g1:Z0b (FS σ q m) (.ref (σ.length + 1)) (.int (k:Int)) = some (stV s):=Z2L (FS_s σ q m) (by rw [List.getElem?_map,hq]; rfl) (by omega)
 have e1:=Z2U (F:=F) (elt:=Z0U) (k:=9) (ρ₀:=[some (tbV S T),x1,x2,some (.ref σ.length),some (.ref (σ.length + 1)),some (.ref (σ.length + 2)),some (.int k),some (.str [S[j]]),x8,none]) (σ:=FS σ q m) (it:=.val (.sub (.loc 4) (.loc 6))) (xs:=s.map wV)
  (fun x=>match x with | .int i=>wV ((Z0f S T (some i.toNat)).getD j none) | _=>wV ((Z0f S T none).getD j none)) (fun x hx=>by cases x <;> exact Zcv _ _)
  (atI fun t=>t g1 (Zdo _ _)) (by rw [List.length_map]; unfold sizeLine; omega)
  (fun x hx acc ha=>by
   obtain ⟨r,hr,rfl⟩:=List.mem_map.mp hx
   have hc:=hgo r j hj (FS σ q m++[.lst acc]) (hs r hr) ((Zds hσ q m).snoc ha)
   have he:(match wV r with | .int i=>wV ((Z0f S T (some i.toNat)).getD j none) | _=>wV ((Z0f S T none).getD j none)) = wV ((Z0f S T r).getD j none):=by cases r <;> rfl
   show evE F Z0U _ = .ok (match wV r with | .int i=>wV ((Z0f S T (some i.toNat)).getD j none) | _=>wV ((Z0f S T none).getD j none)) _
   rw [he]
   exact atE fun t=>t hc)
 have ey:(s.map wV).map (fun x=>match x with | .int i=>wV ((Z0f S T (some i.toNat)).getD j none) | _=>wV ((Z0f S T none).getD j none)) = (stp S T j s).map wV:=by
  unfold stp
  rw [List.map_map,List.map_map]
  refine List.map_congr_left fun r _=>?_
  cases r <;> rfl
 rw [ey,ZcA] at e1
 have qin:=ZaN σ q (m + 1) (stp S T j s)
 have q2:=ZbE (FS σ q (m + 1)) ((stp S T j s).map wV)
 unfold addQ
 by_cases hm:stp S T j s ∈ q.map (·.1)
 ·rw [if_pos hm]
  rw [decide_eq_true hm] at qin
  exact atS fun t=>t e1 q2 rfl qin rfl
 ·rw [if_neg hm]
  rw [decide_eq_false hm] at qin
  have hset:∀ ρ,setI (.ref σ.length) (stV (stp S T j s)) (.bool true) ⟨ρ,FS σ q (m + 1)⟩ = .ok .next ⟨ρ,σ++.kdict ((q++[(stp S T j s,t++[S[j]])]).map fun e=>(key e.1,.bool true)) :: .lst (q.map fun e=>stV e.1) :: .lst (q.map fun e=>.str e.2) :: List.replicate (m + 1) .dead⟩:=fun ρ=>by
   show R.or (Z59 σ.length (stV (stp S T j s)) (.bool true) ⟨ρ,FS σ q (m + 1)⟩) _ = _
   unfold Z59
   rw [Z2f]
   show R.or (R.need (Z57 (FS σ q (m + 1))[σ.length]?) _) _ = _
   rw [FS_k]
   have hn:((q.map fun e=>(key e.1,V.bool true)).find? fun p=>p.1 = key (stp S T j s)).isNone = true:=by
    rw [← Option.not_isSome,Z4q,decide_eq_false hm]; rfl
   show R.or (if ((q.map fun e=>(key e.1,V.bool true)).length < sizeLine && ((q.map fun e=>(key e.1,V.bool true)).find? fun p=>p.1 = key (stp S T j s)).isNone) = true then _ else _) _ = _
   rw [if_pos (by rw [hn,Bool.and_true]; exact decide_eq_true (by rw [List.length_map]; unfold sizeLine; omega))]
   show R.ok Fl.next _ = _
   unfold FS
   rw [show σ.length = σ.length + 0 from rfl,Z1R,List.map_append]; rfl
  have hl1:(q.map fun e=>stV e.1).length < sizeLine:=by rw [List.length_map]; unfold sizeLine; omega
  have hl2:(q.map fun e=>V.str e.2).length < sizeLine:=by rw [List.length_map]; unfold sizeLine; omega
  have p1:∀ (A:O) ρ,Z1C .append (.ref (σ.length + 1)) (stV (stp S T j s)) ⟨ρ,σ++A :: .lst (q.map fun e=>stV e.1) :: .lst (q.map fun e=>.str e.2) :: List.replicate (m + 1) .dead⟩ = .ok .none ⟨ρ,σ++A :: .lst ((q++[(stp S T j s,t++[S[j]])]).map fun e=>stV e.1) :: .lst (q.map fun e=>.str e.2) :: List.replicate (m + 1) .dead⟩:=fun A ρ=>by
   rw [Z0B ρ _ (σ.length + 1) _ _ (Z0k σ _ 1) hl1,Z1R,List.map_append]; rfl
  have p2:∀ (A B:O) ρ,Z1C .append (.ref (σ.length + 2)) (.str (t++[S[j]])) ⟨ρ,σ++A :: B :: .lst (q.map fun e=>.str e.2) :: List.replicate (m + 1) .dead⟩ = .ok .none ⟨ρ,σ++A :: B :: .lst ((q++[(stp S T j s,t++[S[j]])]).map fun e=>.str e.2) :: List.replicate (m + 1) .dead⟩:=fun A B ρ=>by
   rw [Z0B ρ _ (σ.length + 2) _ _ (Z0k σ _ 2) hl2,Z1R,List.map_append]; rfl
  have r1:∀ (A:O),Z1W (σ++A :: .lst (q.map fun e=>stV e.1) :: .lst (q.map fun e=>.str e.2) :: List.replicate (m + 1) .dead) .append (.ref (σ.length + 1)) = true:=fun A=>Z15 _ _ _ (Z0k σ _ 1)
  have r2:∀ (A B:O),Z1W (σ++A :: B :: .lst (q.map fun e=>.str e.2) :: List.replicate (m + 1) .dead) .append (.ref (σ.length + 2)) = true:=fun A B=>Z15 _ _ _ (Z0k σ _ 2)
  have g2:∀ (A B:O),Z0b (σ++A :: B :: .lst (q.map fun e=>.str e.2) :: List.replicate (m + 1) .dead) (.ref (σ.length + 2)) (.int (k:Int)) = some (.str t):=fun A B=>Z2L (Z0k σ _ 2) (by rw [List.getElem?_map,hq]; rfl) (by omega)
  have ad:=Z4v t [S[j]] (by rw [List.length_singleton]; unfold sizeLine; omega)
  exact atS fun t=>t e1 q2 rfl qin rfl (hset _) (r1 _) (p1 _ _) (r2 _ _) (g2 _ _) ad (p2 _ _ _)
end
noncomputable def S10f (S:List Nat) (T:List Rw) (x1 x2:Option V) (σ:List O) (k:Nat) (x7 x8:Option V) (τ:List O):St:=S10 (some (tbV S T)) x1 x2 (some (.ref σ.length)) (some (.ref (σ.length + 1))) (some (.ref (σ.length + 2))) (some (.int k)) x7 x8 none τ
theorem Z0l (test:St→R Bool) (body:St→R Fl) (k:Nat) (st:St):Z0x test body (k + 1) st = (test st).bind fun b st=>if b then (body st).bind fun fl st=>(match fl with
   | .next=>Z0x test body k st
   | .cont=>Z0x test body k st
   | .brk=>.ok .next st
   | .ret v=>.ok (.ret v) st)
  else .ok .next st:=rfl
noncomputable def FtF (F:Fn) (S:List Nat) (T:List Rw):Prop:=∀ (r:Option Nat) (j:Nat) (hj:j < S.length) (τ:List O),Row T r→Cl τ→F "_law_go" [tbV S T,wV r,.str [S[j]]] τ = .ok (wV ((Z0f S T r).getD j none)) ⟨[],τ⟩
section
variable (F:Fn) (K:Nat) {S:List Nat} {T:List Rw} (ok:TbOk S T) (hgo:FtF F S T) (σ:List O) (hσ:Cl σ) (x1:Option V)
include ok hgo hσ
theorem Z7r (x2:Option V) (k:Nat) (s:Ss) (t:List Nat) (hs:RowS T s) (ht:t.length ≤ 6000) (hsl:s.length ≤ 10):∀ (S':List Nat) (j:Nat) (q:Qu) (m:Nat) (x7 x8:Option V),S.drop j = S'→q[k]? = some (s,t)→((nxF S T S' j s).foldl (addQ t) q).length < 6000 →
  ∃ m' y7 y8,forR (fun x st=>evSs F K Z0u (setV st 7 x)) (S'.map fun c=>V.str [c]) (S10f S T x1 x2 σ k x7 x8 (FS σ q m)) = .ok .next (S10f S T x1 x2 σ k y7 y8 (FS σ ((nxF S T S' j s).foldl (addQ t) q) m'))
 | [],j,q,m,x7,x8,hd,hq,hl=>⟨m,x7,x8,Z1Y ..⟩
 | c :: S',j,q,m,x7,x8,hd,hq,hl=>by
  have hj:j < S.length:=by
   have:=congrArg List.length hd
   rw [List.length_drop,List.length_cons] at this; omega
  have hc:S[j] = c:=by
   have:=List.drop_eq_getElem_cons hj
   rw [hd] at this
   exact (List.cons.inj this).1.symm
  have hd':S.drop (j + 1) = S':=by
   have:=List.drop_eq_getElem_cons hj
   rw [hd] at this
   exact (List.cons.inj this).2.symm
  have hn:nxF S T (c :: S') j s = (c,stp S T j s) :: nxF S T S' (j + 1) s:=by unfold nxF; rw [List.zipIdx_cons]; rfl
  rw [hn,List.foldl_cons] at hl ⊢
  obtain ⟨r,hr⟩:=Z2t t q (c,stp S T j s)
  obtain ⟨r',hr'⟩:=Z29 t (nxF S T S' (j + 1) s) (addQ t q (c,stp S T j s))
  have hql:q.length < 6000:=by rw [hr',hr,List.length_append,List.length_append] at hl; omega
  have e:=ZcC F K ok hgo σ hσ x1 x2 q m k s t x7 x8 hq hs hql ht hsl hj
  rw [hc] at e
  obtain ⟨m',y7,y8,e2⟩:=Z7r x2 k s t hs ht hsl S' (j + 1) (addQ t q (c,stp S T j s)) (m + 1) (some (.str [c])) (some (stV (stp S T j s))) hd' (by rw [hr,List.getElem?_append_left (List.getElem?_eq_some_iff.mp hq).1]; exact hq) hl
  refine ⟨m',y7,y8,?_⟩
  rw [List.map_cons,Z0P,show evSs F K Z0u (setV (S10f S T x1 x2 σ k x7 x8 (FS σ q m)) 7 (.str [c])) = _ from e,R.bind_ok]
  exact e2
noncomputable def ftC:Ex:=.cmp .lt (.loc 6) (.bi .len (.loc 4))
theorem ZaO (N:Nat) (hN:N ≤ 10) (u:Addr) (w:Ss→Bool) (hw:∀ (s:Ss) (τ:List O),RowS T s→s.length = N→Cl τ→F Z0F [.raw u,stV s] τ = .ok (.bool (w s)) ⟨[],τ⟩):∀ {k:Nat} {q qf:Qu},Done (nxL S T) k q qf→∀ (fuel m:Nat) (x7 x8:Option V),qf.length - k < fuel→qf.length < 6000→(∀ x ∈ q.take k,w x.1 = false)→TxOk q→(∀ e ∈ q,RowS T e.1∧e.1.length = N) →
  ∃ ρ τ,Z0x (fun st=>Z03 (evE F ftC st)) (fun st=>evSs F K Z0v st) fuel (S10f S T x1 (some (.raw u)) σ k x7 x8 (FS σ q m)) = .ok (match hit w qf with | some t=>.ret (.str t) | none=>.next) ⟨ρ,σ++τ⟩:=by
 intro k q qf h
 induction h with
 | @stop k q e=>
  intro fuel m x7 x8 hf hl hno htx hrow
  cases fuel with
  | zero=>omega
  | succ fuel=>
   have g:Z0O (FS σ q m) .len (.ref (σ.length + 1)) = some (.int q.length):=by rw [Z32 _ _ _ (FS_s σ q m),List.length_map]
   have ht:Z03 (evE F ftC (S10f S T x1 (some (.raw u)) σ k x7 x8 (FS σ q m))) = .ok false (S10f S T x1 (some (.raw u)) σ k x7 x8 (FS σ q m)) :=
    okb (atQ fun t=>t g) (decide_eq_false (by omega))
   rw [Z0l,ht,R.bind_ok,Z7i (fun x hx=>hno x (by rw [e,List.take_length]; exact hx))]
   exact ⟨_,_,rfl⟩
 | @step k q qf e he hd ih=>
  intro fuel m x7 x8 hf hl hno htx hrow
  obtain ⟨s,t⟩:=e
  have hk:k < q.length:=(List.getElem?_eq_some_iff.mp he).1
  obtain ⟨rx,hrx⟩:=(Done.step he hd).ext
  have hqf:q.length ≤ qf.length:=by rw [hrx,List.length_append]; omega
  have hmem:=List.mem_of_getElem? he
  obtain ⟨hs,hs1⟩:=hrow _ hmem
  have htl:t.length ≤ q.length:=htx _ hmem
  cases fuel with
  | zero=>omega
  | succ fuel=>
   have g:Z0O (FS σ q m) .len (.ref (σ.length + 1)) = some (.int q.length):=by rw [Z32 _ _ _ (FS_s σ q m),List.length_map]
   have ht:Z03 (evE F ftC (S10f S T x1 (some (.raw u)) σ k x7 x8 (FS σ q m))) = .ok true (S10f S T x1 (some (.raw u)) σ k x7 x8 (FS σ q m)) :=
    okb (atQ fun t=>t g) (decide_eq_true (by omega))
   rw [Z0l,ht,R.bind_ok,if_pos rfl]
   have g1:Z0b (FS σ q m) (.ref (σ.length + 1)) (.int (k:Int)) = some (stV s):=Z2L (FS_s σ q m) (by rw [List.getElem?_map,he]; rfl) (by omega)
   have g2:Z0b (FS σ q m) (.ref (σ.length + 2)) (.int (k:Int)) = some (.str t):=Z2L (FS_t σ q m) (by rw [List.getElem?_map,he]; rfl) (by omega)
   have hc:=hw s (FS σ q m) hs hs1 (Zds hσ q m)
   cases hws:w s with
   | true=>
    rw [hws] at hc
    have hb:evSs F K Z0v (S10f S T x1 (some (.raw u)) σ k x7 x8 (FS σ q m)) = .ok (.ret (.str t)) (S10f S T x1 (some (.raw u)) σ k x7 x8 (FS σ q m)):=atS fun z=>z g1 hc rfl g2 rfl
    rw [hb,R.bind_ok,hrx,Z9b hno he hws]
    exact ⟨_,_,rfl⟩
   | false=>
    rw [hws] at hc
    obtain ⟨rq,hrq⟩:=hd.ext
    obtain ⟨m',y7,y8,e2⟩:=Z7r F K ok hgo σ hσ x1 (some (.raw u)) k s t hs (by omega) (by have:s.length = N:=hs1; omega) S 0 q m x7 x8 rfl he (by
     have h1:qf.length = (expQ (nxL S T) q (s,t)).length + rq.length:=by rw [hrq,List.length_append]
     have h2:((nxF S T S 0 s).foldl (addQ t) q).length = (expQ (nxL S T) q (s,t)).length:=rfl
     omega)
    have hb:evSs F K Z0v (S10f S T x1 (some (.raw u)) σ k x7 x8 (FS σ q m)) = .ok .next (S10f S T x1 (some (.raw u)) σ (k + 1) y7 y8 (FS σ (expQ (nxL S T) q (s,t)) m')) :=
     atS fun z=>z g1 hc rfl (Z19 (FS σ q m) S T) rfl e2 (congrArg V.int (by omega:(k:Int) + 1 = ((k + 1:Nat):Int)))
    rw [hb,R.bind_ok]
    obtain ⟨r3,hr3⟩:=Z3F (nxL S T) q (s,t)
    refine ih fuel m' y7 y8 (by omega) hl (fun x hx=>?_) ?_ ?_
    ·rw [hr3,List.take_append_of_le_length (by omega),List.take_succ,he] at hx
     rcases List.mem_append.mp hx with hx | hx
     ·exact hno x hx
     ·rw [List.mem_singleton.mp hx]; exact hws
    ·have:∀ (l:List (Nat × Ss)) (q':Qu),TxOk q'→t.length ≤ q'.length→TxOk (l.foldl (addQ t) q'):=by
      intro l
      induction l with
      | nil=>exact fun _ h _=>h
      | cons p l ih=>
       intro q' h h'
       obtain ⟨rr,hrr⟩:=Z2t t q' p
       exact ih _ (h.add h' p) (by rw [hrr,List.length_append]; omega)
     exact this _ q htx htl
    ·have:∀ (l:List (Nat × Ss)) (q':Qu),(∀ e ∈ q',RowS T e.1∧e.1.length = N)→(∀ p ∈ l,RowS T p.2∧p.2.length = N)→∀ e ∈ l.foldl (addQ t) q',RowS T e.1∧e.1.length = N:=by
      intro l
      induction l with
      | nil=>exact fun _ h _=>h
      | cons p l ih=>
       intro q' h h'
       refine ih _ (fun e he=>?_) fun p' hp=>h' p' (List.mem_cons_of_mem _ hp)
       unfold addQ at he
       split at he
       ·exact h e he
       ·rcases List.mem_append.mp he with he | he
        ·exact h e he
        ·rw [List.mem_singleton.mp he]; exact h' p List.mem_cons_self
     refine this _ q hrow fun p hp=>?_
     obtain ⟨pi,_,rfl⟩:=List.mem_map.mp hp
     refine ⟨ZcB ok hs _,?_⟩
     show (stp S T pi.2 s).length = N; unfold stp; rw [List.length_map]; exact hs1
end
noncomputable def txV (o:Option (List Nat)):V:=match o with
 | some t=>.str t
 | none=>.none
theorem Z9l (n:Nat) (o:Option (List Nat)):(txV o).lo n = true:=by cases o; exact Z0y; exact Z0j _
theorem Z3Q (ρ:List (Option V)) (σ:List O) (s:Ss) (y:V):Z2Z σ.length (stV s) y ⟨ρ,σ++[.priv]⟩ = .ok (.ref σ.length) ⟨ρ,σ++[.kdict [(key s,y)]]⟩:=by
 show R.or (R.stuck:R V) (R.need (Z7z (stV s)) fun k=>R.ok (V.ref σ.length) ⟨ρ,(σ++[O.priv]).set σ.length (.kdict [(k,y)])⟩) = _
 rw [Z2f]
 show R.ok (V.ref σ.length) ⟨ρ,(σ++[O.priv]).set σ.length (.kdict [(key s,y)])⟩ = _
 rw [Z2T]
theorem Z44 (F:Fn) (K:Nat) {S:List Nat} {T:List Rw} (ok:TbOk S T) (hgo:FtF F S T) (σ:List O) (hσ:Cl σ) (N:Nat) (hN:N ≤ 10) (u:Addr) (w:Ss→Bool) (hw:∀ (s:Ss) (τ:List O),RowS T s→s.length = N→Cl τ→F Z0F [.raw u,stV s] τ = .ok (.bool (w s)) ⟨[],τ⟩)
  (s:Ss) (hs:RowS T s) (h1:s.length = N) {qf:Qu} (hd:Done (nxL S T) 0 [(s,[])] qf) (hl:qf.length < 6000) (hK:qf.length < K) :
  Z0m F K Z1h [tbV S T,stV s,.raw u] σ = .ok (txV (hit w qf)) ⟨[],σ⟩:=by
 obtain ⟨ρ,τ,e⟩:=ZaO F K ok hgo σ hσ (some (stV s)) N hN u w hw hd K 0 none none (by omega) hl (fun x hx=>by cases hx) (fun e he=>by rw [List.mem_singleton.mp he]; exact Nat.zero_le _) (fun e he=>by rw [List.mem_singleton.mp he]; exact ⟨hs,h1⟩)
 refine Z1E (r:=txV (hit w qf)) rfl ?_ (Z9l _ _) hσ
 show Ret (evSs F K Z1G (S10 (some (tbV S T)) (some (stV s)) (some (.raw u)) none none none none none none none σ)) _ _
 have l1:(σ++[O.kdict [(key s,V.bool true)]]).length = σ.length + 1:=by rw [List.length_append]; rfl
 have l2:(σ++[O.kdict [(key s,V.bool true)],.lst [stV s]]).length = σ.length + 2:=by rw [List.length_append]; rfl
 have a1:σ++[O.kdict [(key s,V.bool true)]]++[.lst [stV s]] = σ++[O.kdict [(key s,V.bool true)],.lst [stV s]]:=by rw [List.append_assoc]; rfl
 have a2:σ++[O.kdict [(key s,V.bool true)],.lst [stV s]]++[.lst [.str []]] = FS σ [(s,[])] 0:=by rw [List.append_assoc]; rfl
 cases hh:hit w qf with
 | some t=>
  rw [hh] at e
  exact Ret.mk (τ:=τ) (atS fun z=>z rfl rfl (Z3Q _ σ s (.bool true)) rfl l1 a1 rfl l2 a2 rfl rfl e)
 | none=>
  rw [hh] at e
  exact Ret.mk (τ:=τ) (atS fun z=>z rfl rfl (Z3Q _ σ s (.bool true)) rfl l1 a1 rfl l2 a2 rfl rfl e rfl)
section
variable {F G:Fn} {L:Lf} {K:Nat} {st st' st₂:St} {ss:Xms}
theorem Z0a {s:Sm} (h:evS F K s st = .ok .next st'):evXs F G L K (.cons (.pl s) ss) st = evXs F G L K ss st':=by
 show ((evS F K s st).cut).bind _ = _
 rw [h]; rfl
theorem Z1S {s:Sm} {v:V} (h:evS F K s st = .ok (.ret v) st'):evXs F G L K (.cons (.pl s) ss) st = .ok (.ret v) st':=by
 show ((evS F K s st).cut).bind _ = _
 rw [h]; rfl
theorem ZaP {c:Ex} {a b:Xms} (h:Z03 (evE F c st) = .ok true st'):evX F G L K (.ifte c a b) st = evXs F G L K a st':=by
 show ((Z03 (evE F c st)).cut).bind _ = _
 rw [h]; rfl
theorem ZcD {c:Ex} {a b:Xms} (h:Z03 (evE F c st) = .ok false st'):evX F G L K (.ifte c a b) st = evXs F G L K b st':=by
 show ((Z03 (evE F c st)).cut).bind _ = _
 rw [h]; rfl
theorem Z2g {x:Xm} (h:evX F G L K x st = .ok .next st'):evXs F G L K (.cons x ss) st = evXs F G L K ss st':=by
 show (evX F G L K x st).bind _ = _
 rw [h]; rfl
theorem xret {x:Xm} {v:V} (h:evX F G L K x st = .ok (.ret v) st'):evXs F G L K (.cons x ss) st = .ok (.ret v) st':=by
 show (evX F G L K x st).bind _ = _
 rw [h]; rfl
theorem xexc {x:Xm} {y:Str} (h:evX F G L K x st = .exc y st'):evXs F G L K (.cons x ss) st = .exc y st':=by
 show (evX F G L K x st).bind _ = _
 rw [h]; rfl
theorem ZaQ {f:Str} {es:Exs} {xs:List V} {v:V} (h:evEs F es st = .ok xs st') (hg:G f xs st'.σ = .ok v st₂):evX F G L K (.call f es) st = .ok .next ⟨st'.ρ,st₂.σ⟩:=by
 show (((evEs F es st).cut).bind _).bind _ = _
 rw [h]
 show (Z0q (G f xs st'.σ) st'.ρ).bind _ = _
 rw [hg]; rfl
theorem Z3R {f:Str} {es:Exs} {xs:List V} {y:Str} (h:evEs F es st = .ok xs st') (hg:G f xs st'.σ = .exc y st₂):evX F G L K (.call f es) st = .exc y ⟨st'.ρ,st₂.σ⟩:=by
 show (((evEs F es st).cut).bind _).bind _ = _
 rw [h]
 show (Z0q (G f xs st'.σ) st'.ρ).bind _ = _
 rw [hg]; rfl
theorem Z2B {d:XDef} {args:List V} {σ τ:List O} {v:V} {ρ:List (Option V)} (hl:args.length = d.params.length) (h:evXs F G L K d.body ⟨args.map some++List.replicate (d.slots - args.length) none,σ⟩ = .ok (.ret v) ⟨ρ,σ++τ⟩) (hv:v.lo σ.length = true) (hσ:Cl σ):runX F G L K d args σ = .ok v ⟨[],σ⟩:=by
 unfold runX
 rw [if_pos hl,h]
 have h3:(σ++τ).take σ.length = σ:=List.take_left' rfl
 have h4:σ.all (O.lo σ.length) = true:=hσ
 show (if (v.lo σ.length && ((σ++τ).take σ.length).all (O.lo σ.length)) = true then _ else _) = _
 rw [h3,hv,h4]; rfl
theorem Z9m {d:XDef} {args:List V} {σ τ:List O} {ρ:List (Option V)} (hl:args.length = d.params.length) (h:evXs F G L K d.body ⟨args.map some++List.replicate (d.slots - args.length) none,σ⟩ = .ok .next ⟨ρ,σ++τ⟩) (hσ:Cl σ):runX F G L K d args σ = .ok .none ⟨[],σ⟩:=by
 unfold runX
 rw [if_pos hl,h]
 have h3:(σ++τ).take σ.length = σ:=List.take_left' rfl
 have h4:σ.all (O.lo σ.length) = true:=hσ
 show (if ((V.none).lo σ.length && ((σ++τ).take σ.length).all (O.lo σ.length)) = true then _ else _) = _
 rw [h3,Z0y,h4]; rfl
theorem Z2X {d:XDef} {args:List V} {σ τ:List O} {y:Str} {ρ:List (Option V)} (hl:args.length = d.params.length) (h:evXs F G L K d.body ⟨args.map some++List.replicate (d.slots - args.length) none,σ⟩ = .exc y ⟨ρ,σ++τ⟩) (hσ:Cl σ):runX F G L K d args σ = .exc y ⟨[],σ⟩:=by
 unfold runX
 rw [if_pos hl,h]
 have h3:(σ++τ).take σ.length = σ:=List.take_left' rfl
 have h4:σ.all (O.lo σ.length) = true:=hσ
 show (if ((σ++τ).take σ.length).all (O.lo σ.length) = true then _ else _) = _
 rw [h3,if_pos h4]
end
section
variable (F G:Fn) (L:Lf) (K:Nat) {S:List Nat} {T:List Rw} (ok:TbOk S T) (σ:List O) (hσ:Cl σ)
include ok hσ
noncomputable def ZcE:Ex:=.bor (.cmp .lt (.loc 1) (.int 0)) (.cmp .ge (.loc 1) (.bi .len (.sub (.loc 0) (.int 1))))
theorem Z9n (i:Int) (h0:0 ≤ i) (h1:i < T.length):runX F G L K Z1x [tbV S T,.int i] σ = .ok .none ⟨[],σ⟩:=by
 refine Z9m (τ:=[]) (ρ:=[some (tbV S T),some (.int i)]) rfl ?_ hσ
 rw [List.append_nil]
 show evXs F G L K Z1O ⟨[some (tbV S T),some (.int i)],σ⟩ = _
 have g:Z0O σ .len (.lst (T.map rowV)) = some (.int T.length):=by rw [Z8c,List.length_map]
 have ht:Z03 (evE F ZcE ⟨[some (tbV S T),some (.int i)],σ⟩) = .ok false ⟨[some (tbV S T),some (.int i)],σ⟩:=okb (atQ fun t=>t (decide_eq_false (by omega)) (Z0E σ S T) g) (decide_eq_false (by omega))
 exact Z2g ((ZcD ht).trans rfl)
theorem ZaR (i:Int) (h:¬ (0 ≤ i∧i < T.length)):∃ y,runX F G L K Z1x [tbV S T,.int i] σ = .exc y ⟨[],σ⟩:=by
 have g:Z0O σ .len (.lst (T.map rowV)) = some (.int T.length):=by rw [Z8c,List.length_map]
 refine ⟨_,Z2X (τ:=[]) (ρ:=[some (tbV S T),some (.int i)]) (y:="no such row") rfl ?_ hσ⟩
 rw [List.append_nil]
 show evXs F G L K Z1O ⟨[some (tbV S T),some (.int i)],σ⟩ = _
 by_cases h0:i < 0
 ·have ht:Z03 (evE F ZcE ⟨[some (tbV S T),some (.int i)],σ⟩) = .ok true ⟨[some (tbV S T),some (.int i)],σ⟩:=atQ fun t=>t (decide_eq_true h0)
  exact xexc ((ZaP ht).trans rfl)
 ·have ht:Z03 (evE F ZcE ⟨[some (tbV S T),some (.int i)],σ⟩) = .ok true ⟨[some (tbV S T),some (.int i)],σ⟩:=okb (atQ fun t=>t (decide_eq_false h0) (Z0E σ S T) g) (decide_eq_true (by omega))
  exact xexc ((ZaP ht).trans rfl)
end
abbrev Qr:=List (Nat × List Nat)
noncomputable def esR (q:Qr):List (Int × V):=q.map fun e=>((e.1:Int),V.str e.2)
noncomputable def RS (σ:List O) (q:Qr) (m:Nat):List O:=σ++.idict (esR q) :: .lst (q.map fun e=>.int (e.1:Int)) :: List.replicate m .priv
theorem RS_d (σ:List O) (q:Qr) (m:Nat):(RS σ q m)[σ.length]? = some (.idict (esR q)):=Z0k σ _ 0
theorem RS_l (σ:List O) (q:Qr) (m:Nat):(RS σ q m)[σ.length + 1]? = some (.lst (q.map fun e=>.int (e.1:Int))):=Z0k σ _ 1
theorem ZcF (σ:List O) (q:Qr) (m:Nat):RS σ q m++[.priv] = RS σ q (m + 1):=by
 unfold RS
 rw [List.replicate_succ',List.append_assoc]; rfl
theorem Z9o (q:Qr) (j:Nat):((esR q).any fun p=>p.1 = (j:Int)) = decide (j ∈ q.map (·.1)):=by
 rw [Bool.eq_iff_iff,List.any_eq_true,decide_eq_true_eq]
 constructor
 ·rintro ⟨p,hp,e⟩
  obtain ⟨e',he',rfl⟩:=List.mem_map.mp hp
  have:=of_decide_eq_true e
  exact List.mem_map.mpr ⟨e',he',by have:(e'.1:Int) = (j:Int):=this; omega⟩
 ·intro h
  obtain ⟨e,he,rfl⟩:=List.mem_map.mp h
  exact ⟨_,List.mem_map.mpr ⟨e,he,rfl⟩,decide_eq_true rfl⟩
theorem Z52 (σ:List O) (q:Qr) (m j:Nat):inD (RS σ q m) (.int (j:Int)) (.ref σ.length) = some (decide (j ∈ q.map (·.1))):=by
 show (Z1V (RS σ q m)[σ.length]?).map (fun es=>es.any fun p=>p.1 = (j:Int)) = _
 rw [RS_d]
 show some ((esR q).any fun p=>p.1 = (j:Int)) = _
 rw [Z9o]
theorem Z6u:∀ {q:Qr} {r:Nat} {t:List Nat},(q.map (·.1)).Nodup→(r,t) ∈ q→dGet (esR q) (r:Int) = some (.str t)
 | [],_,_,_,h=>by cases h
 | e :: q,r,t,nd,h=>by
  rw [List.map_cons,List.nodup_cons] at nd
  unfold dGet esR
  rw [List.map_cons]
  by_cases he:e.1 = r
  ·rw [List.find?_cons_of_pos (p:=fun p:Int × V=>decide (p.1 = (r:Int))) (a:=((e.1:Int),V.str e.2)) (decide_eq_true (congrArg Int.ofNat he))]
   rcases List.mem_cons.mp h with h | h
   ·rw [← h]; rfl
   ·exact absurd (List.mem_map.mpr ⟨_,h,he.symm⟩) nd.1
  ·rw [List.find?_cons_of_neg (p:=fun p:Int × V=>decide (p.1 = (r:Int))) (a:=((e.1:Int),V.str e.2)) (fun q=>he (by have:(e.1:Int) = (r:Int):=of_decide_eq_true q; omega))]
   rcases List.mem_cons.mp h with h | h
   ·exact absurd (congrArg Prod.fst h).symm he
   ·exact Z6u nd.2 h
noncomputable def nxZ (l:List (Nat × Option Nat)):List (Nat × Nat):=l.filterMap fun p=>p.2.map fun k=>(p.1,k)
noncomputable def nxR (S:List Nat) (T:List Rw) (r:Nat):List (Nat × Nat):=nxZ (S.zip (Z0f S T (some r)))
noncomputable def S7r (made:Option V) (row:Int) (σ:List O) (k:Nat) (x5 x6:Option V) (τ:List O):St:=⟨[made,some (.int row),some (.ref σ.length),some (.ref (σ.length + 1)),some (.int k),x5,x6],τ⟩
noncomputable def addW (t:List Nat) (q:Qr) (p:Nat × Option Nat):Qr:=match p.2 with
 | none=>q
 | some j=>addQ t q (p.1,j)
theorem Z2h (t:List Nat):∀ (l:List (Nat × Option Nat)) (q:Qr),l.foldl (addW t) q = (nxZ l).foldl (addQ t) q
 | [],q=>rfl
 | (c,none) :: l,q=>by
  rw [List.foldl_cons,Z2h t l]; rfl
 | (c,some j) :: l,q=>by
  rw [List.foldl_cons,Z2h t l]; rfl
section
variable (F:Fn) (K:Nat) (made:Option V) (row:Int) (σ:List O)
theorem Z7X (q:Qr) (m k r:Nat) (t:List Nat) (x5 x6:Option V) (hq:q[k]? = some (r,t)) (nd:(q.map (·.1)).Nodup) (h5:q.length < 6000) (ht:t.length ≤ 6000) (c:Nat) (w:Option Nat) :
  ((asT [5,6] (.tup [.str [c],wV w]) (S7r made row σ k x5 x6 (RS σ q m))).bind fun _ st=>evSs F K Z2a st) = .ok .next (S7r made row σ k (some (.str [c])) (some (wV w)) (RS σ (addW t q (c,w)) m)):=by
 have ha:asT [5,6] (.tup [.str [c],wV w]) (S7r made row σ k x5 x6 (RS σ q m)) = .ok () (S7r made row σ k (some (.str [c])) (some (wV w)) (RS σ q m)):=rfl
 rw [ha,R.bind_ok]
 cases w with
 | none=>exact atS fun z=>z rfl rfl
 | some j=>
  have qin:=Z52 σ q m j
  show evSs F K Z2a _ = .ok .next (S7r made row σ k (some (.str [c])) (some (wV (some j))) (RS σ (addQ t q (c,j)) m))
  unfold addQ
  by_cases hm:j ∈ q.map (·.1)
  ·rw [if_pos hm]
   rw [decide_eq_true hm] at qin
   exact atS fun z=>z rfl qin rfl
  ·rw [if_neg hm]
   rw [decide_eq_false hm] at qin
   have g1:Z0b (RS σ q m) (.ref (σ.length + 1)) (.int (k:Int)) = some (.int (r:Int)):=Z2L (RS_l σ q m) (by rw [List.getElem?_map,hq]; rfl) (by have:=(List.getElem?_eq_some_iff.mp hq).1; omega)
   have g2:Z0b (RS σ q m) (.ref σ.length) (.int (r:Int)) = some (.str t):=by rw [ZaZ (RS_d σ q m)]; exact Z6u nd (List.mem_of_getElem? hq)
   have ad:=Z4v t [c] (by rw [List.length_singleton]; unfold sizeLine; omega)
   have hset:∀ ρ,setI (.ref σ.length) (.int (j:Int)) (.str (t++[c])) ⟨ρ,RS σ q m⟩ = .ok .next ⟨ρ,σ++.idict (esR (q++[(j,t++[c])])) :: .lst (q.map fun e=>.int (e.1:Int)) :: List.replicate m .priv⟩:=fun ρ=>by
    rw [ZcT (es:=esR q) (RS_d σ q m) (by unfold esR; rw [List.length_map]; unfold sizeLine; omega)]
    unfold Z10
    rw [Z9o,decide_eq_false hm]
    show R.ok Fl.next (⟨ρ,(RS σ q m).set σ.length (.idict (esR q++[((j:Int),V.str (t++[c]))]))⟩:St) = _
    unfold RS
    rw [show σ.length = σ.length + 0 from rfl,Z1R]
    unfold esR
    rw [List.map_append]; rfl
   have p1:∀ (A:O) ρ,Z1C .append (.ref (σ.length + 1)) (.int (j:Int)) ⟨ρ,σ++A :: .lst (q.map fun e=>.int (e.1:Int)) :: List.replicate m .priv⟩ = .ok .none ⟨ρ,σ++A :: .lst ((q++[(j,t++[c])]).map fun e=>.int (e.1:Int)) :: List.replicate m .priv⟩:=fun A ρ=>by
    rw [Z0B ρ _ (σ.length + 1) _ _ (Z0k σ _ 1) (by rw [List.length_map]; unfold sizeLine; omega),Z1R,List.map_append]; rfl
   have r1:∀ (A:O),Z1W (σ++A :: .lst (q.map fun e=>.int (e.1:Int)) :: List.replicate m .priv) .append (.ref (σ.length + 1)) = true:=fun A=>Z15 _ _ _ (Z0k σ _ 1)
   exact atS fun z=>z rfl qin rfl g1 g2 ad (hset _) (r1 _) (p1 _ _)
theorem ZaS (t:List Nat) (q:Qr) (p:Nat × Option Nat):∃ r,addW t q p = q++r:=by
 obtain ⟨c,w⟩:=p
 cases w with
 | none=>exact ⟨[],(List.append_nil _).symm⟩
 | some j=>exact Z2t t q (c,j)
theorem ZcG {t:List Nat} {q:Qr} (h:(q.map (·.1)).Nodup) (p:Nat × Option Nat):((addW t q p).map (·.1)).Nodup:=by
 obtain ⟨c,w⟩:=p
 cases w with
 | none=>exact h
 | some j=>
  have f:Fits (j :: q.map (·.1)) q:=⟨h,fun x hx=>List.mem_cons_of_mem _ hx⟩
  exact (f.add t (p:=(c,j)) List.mem_cons_self).nd
theorem Z3S (k r:Nat) (t:List Nat) (ht:t.length ≤ 6000):∀ (l:List (Nat × Option Nat)) (q:Qr) (m:Nat) (x5 x6:Option V),q[k]? = some (r,t)→(q.map (·.1)).Nodup→(l.foldl (addW t) q).length < 6000 →
  ∃ y5 y6,forR (fun x st=>(asT [5,6] x st).bind fun _ st=>evSs F K Z2a st) (l.map fun p=>.tup [.str [p.1],wV p.2]) (S7r made row σ k x5 x6 (RS σ q m)) = .ok .next (S7r made row σ k y5 y6 (RS σ (l.foldl (addW t) q) m))
 | [],q,m,x5,x6,hq,nd,hl=>⟨x5,x6,Z1Y ..⟩
 | p :: l,q,m,x5,x6,hq,nd,hl=>by
  obtain ⟨rr,hr⟩:=ZaS t q p
  obtain ⟨r',hr'⟩:=Z29 t (nxZ l) (addW t q p)
  have hl':(l.foldl (addW t) (addW t q p)).length < 6000:=hl
  have hql:q.length < 6000:=by rw [Z2h,hr',hr,List.length_append,List.length_append] at hl'; omega
  have e:=Z7X F K made row σ q m k r t x5 x6 hq nd hql ht p.1 p.2
  obtain ⟨y5,y6,e2⟩:=Z3S k r t ht l (addW t q p) m _ _ (by rw [hr,List.getElem?_append_left (List.getElem?_eq_some_iff.mp hq).1]; exact hq) (ZcG nd p) hl'
  refine ⟨y5,y6,?_⟩
  rw [List.map_cons,Z0P,e,R.bind_ok]
  exact e2
end
noncomputable def TxG {α:Type} (q:List (α × List Nat)):Prop:=∀ e ∈ q,e.2.length ≤ q.length
theorem TxG.fold {α:Type} [DecidableEq α] {t:List Nat}:∀ (l:List (Nat × α)) {q:List (α × List Nat)},TxG q→t.length ≤ q.length→TxG (l.foldl (addQ t) q)
 | [],_,h,_=>h
 | p :: l,q,h,ht=>by
  obtain ⟨rr,hrr⟩:=Z2t t q p
  refine TxG.fold l (q:=addQ t q p) ?_ (by rw [hrr,List.length_append]; omega)
  unfold addQ
  split
  ·exact h
  ·intro e he
   rw [List.length_append,List.length_singleton]
   rcases List.mem_append.mp he with he | he
   ·exact Nat.le_succ_of_le (h e he)
   ·rw [List.mem_singleton.mp he]
    show (t++[p.1]).length ≤ _
    rw [List.length_append]; exact Nat.succ_le_succ ht
theorem Z53 {α:Type} [DecidableEq α] {P:α→Prop} {t:List Nat}:∀ (l:List (Nat × α)) {q:List (α × List Nat)},(∀ e ∈ q,P e.1)→(∀ p ∈ l,P p.2)→∀ e ∈ l.foldl (addQ t) q,P e.1
 | [],_,h,_=>h
 | p :: l,q,h,hp=>by
  refine Z53 l (q:=addQ t q p) (fun e he=>?_) fun p' h'=>hp p' (List.mem_cons_of_mem _ h')
  unfold addQ at he
  split at he
  ·exact h e he
  ·rcases List.mem_append.mp he with he | he
   ·exact h e he
   ·rw [List.mem_singleton.mp he]; exact hp p List.mem_cons_self
theorem Z54 {α:Type} [DecidableEq α] {t:List Nat}:∀ (l:List (Nat × α)) {q:List (α × List Nat)},(q.map (·.1)).Nodup→((l.foldl (addQ t) q).map (·.1)).Nodup
 | [],_,h=>h
 | p :: l,q,h=>Z54 l ((Fits.add (U:=p.2 :: q.map (·.1)) ⟨h,fun x hx=>List.mem_cons_of_mem _ hx⟩ t (p:=p) List.mem_cons_self).nd)
noncomputable def Z7s:Ex:=.band (.cmp .lt (.loc 4) (.bi .len (.loc 3))) (.cmp .notin (.loc 1) (.loc 2))
section
variable (F:Fn) (K:Nat) {S:List Nat} {T:List Rw} (ok:TbOk S T) (σ:List O) (R₀:Nat)
include ok
theorem Z6v:∀ {k:Nat} {q qf:Qr},Done (nxR S T) k q qf→∀ (fuel m:Nat) (x5 x6:Option V),qf.length - k < fuel→qf.length < 6000→(q.map (·.1)).Nodup→TxG q→(∀ e ∈ q,e.1 < T.length) →
  ∃ k' q' m' y5 y6,Z0x (fun st=>Z03 (evE F Z7s st)) (fun st=>evSs F K Z3G st) fuel (S7r (some (tbV S T)) R₀ σ k x5 x6 (RS σ q m)) = .ok .next (S7r (some (tbV S T)) R₀ σ k' y5 y6 (RS σ q' m'))∧(q'.map (·.1)).Nodup∧(∃ r,qf = q'++r)∧(R₀ ∈ q'.map (·.1) ∨ q' = qf):=by
 intro k q qf h
 induction h with
 | @stop k q e=>
  intro fuel m x5 x6 hf hl nd htx hrow
  cases fuel with
  | zero=>omega
  | succ fuel=>
   have g:Z0O (RS σ q m) .len (.ref (σ.length + 1)) = some (.int q.length):=by rw [Z32 _ _ _ (RS_l σ q m),List.length_map]
   have ht:Z03 (evE F Z7s (S7r (some (tbV S T)) R₀ σ k x5 x6 (RS σ q m))) = .ok false (S7r (some (tbV S T)) R₀ σ k x5 x6 (RS σ q m)) :=
    atQ fun t=>t g (decide_eq_false (by omega))
   refine ⟨k,q,m,x5,x6,?_,nd,⟨[],(List.append_nil _).symm⟩,.inr rfl⟩
   rw [Z0l,ht,R.bind_ok]; rfl
 | @step k q qf e he hd ih=>
  intro fuel m x5 x6 hf hl nd htx hrow
  obtain ⟨r,t⟩:=e
  have hk:k < q.length:=(List.getElem?_eq_some_iff.mp he).1
  obtain ⟨rx,hrx⟩:=(Done.step he hd).ext
  have hqf:q.length ≤ qf.length:=by rw [hrx,List.length_append]; omega
  have hmem:=List.mem_of_getElem? he
  have hr:=hrow _ hmem
  have htl:t.length ≤ q.length:=htx _ hmem
  have g:Z0O (RS σ q m) .len (.ref (σ.length + 1)) = some (.int q.length):=by rw [Z32 _ _ _ (RS_l σ q m),List.length_map]
  have qin:=Z52 σ q m R₀
  cases fuel with
  | zero=>omega
  | succ fuel=>
   by_cases hm:R₀ ∈ q.map (·.1)
   ·rw [decide_eq_true hm] at qin
    have ht:Z03 (evE F Z7s (S7r (some (tbV S T)) R₀ σ k x5 x6 (RS σ q m))) = .ok false (S7r (some (tbV S T)) R₀ σ k x5 x6 (RS σ q m)) :=
     atQ fun t=>t g (decide_eq_true (by omega)) qin
    refine ⟨k,q,m,x5,x6,?_,nd,⟨rx,hrx⟩,.inl hm⟩
    rw [Z0l,ht,R.bind_ok]; rfl
   ·rw [decide_eq_false hm] at qin
    have ht:Z03 (evE F Z7s (S7r (some (tbV S T)) R₀ σ k x5 x6 (RS σ q m))) = .ok true (S7r (some (tbV S T)) R₀ σ k x5 x6 (RS σ q m)) :=
     atQ fun t=>t g (decide_eq_true (by omega)) qin
    rw [Z0l,ht,R.bind_ok,if_pos rfl]
    obtain ⟨rq,hrq⟩:=hd.ext
    have hexp:(S.zip (Z0f S T (some r))).foldl (addW t) q = expQ (nxR S T) q (r,t):=Z2h t _ q
    obtain ⟨y5,y6,e2⟩:=Z3S F K (some (tbV S T)) R₀ σ k r t (by omega) (S.zip (Z0f S T (some r))) q (m + 1) x5 x6 he nd (by
     rw [hexp]
     have h1:qf.length = (expQ (nxR S T) q (r,t)).length + rq.length:=by rw [hrq,List.length_append]
     omega)
    rw [hexp] at e2
    have g1:Z0b (RS σ q m) (.ref (σ.length + 1)) (.int (k:Int)) = some (.int (r:Int)):=Z2L (RS_l σ q m) (by rw [List.getElem?_map,he]; rfl) (by omega)
    have hz:∀ ρ,zipR (.str S) (.lst ((T.getD r (none,[])).2.map wV)) ⟨ρ,RS σ q m⟩ = .ok ((S.zip (Z0f S T (some r))).map fun p=>.tup [.str [p.1],wV p.2]) ⟨ρ,RS σ q (m + 1)⟩:=fun ρ=>by
     show R.ok ((((S.map fun c=>V.str [c]).zip ((Z0f S T (some r)).map wV)).map fun p=>V.tup [p.1,p.2])) ⟨ρ,RS σ q m++[.priv]⟩ = _
     rw [ZcF,List.zip_map,List.map_map]; rfl
    have hb:evSs F K Z3G (S7r (some (tbV S T)) R₀ σ k x5 x6 (RS σ q m)) = .ok .next (S7r (some (tbV S T)) R₀ σ (k + 1) y5 y6 (RS σ (expQ (nxR S T) q (r,t)) (m + 1))) :=
     atS fun z=>z (Z19 _ S T) (Z0E _ S T) g1 (Z3P _ T hr ok.t64) (Z51 _ _) (hz _) e2 (congrArg V.int (by omega:(k:Int) + 1 = ((k + 1:Nat):Int)))
    rw [hb,R.bind_ok]
    refine ih fuel (m + 1) y5 y6 (by omega) hl (Z54 _ nd) (TxG.fold _ htx htl) (Z53 (P:=fun x=>x < T.length) _ hrow fun p hp=>?_)
    obtain ⟨pp,hpp,hpe⟩:=List.mem_filterMap.mp (show p ∈ nxZ (S.zip (Z0f S T (some r))) from hp)
    obtain ⟨j,hj,rfl⟩:=Option.map_eq_some_iff.mp hpe
    have hw:=(List.of_mem_zip (show (pp.1,pp.2) ∈ _ from hpp)).2
    have hw:pp.2 ∈ (T.getD r (none,[])).2:=hw
    rw [List.getD_eq_getElem?_getD,List.getElem?_eq_getElem hr,hj] at hw
    exact ok.lt _ (List.getElem_mem hr) j hw
end
theorem ZcH {α:Type} [DecidableEq α] {q r:List (α × List Nat)} {a:α} {t:List Nat} (nd:(q.map (·.1)).Nodup) (h:(a,t) ∈ q):hit (fun x=>decide (x = a)) (q++r) = some t:=by
 obtain ⟨k,hk⟩:=List.mem_iff_getElem?.mp h
 refine Z9b (k:=k) (e:=(a,t)) (fun x hx=>decide_eq_false fun e=>?_) hk (decide_eq_true rfl)
 obtain ⟨i,hi⟩:=List.mem_iff_getElem?.mp hx
 rw [List.getElem?_take] at hi
 split at hi
 ·rename_i hik
  have h1:(q.map (·.1))[i]? = some a:=by rw [List.getElem?_map,hi,← e]; rfl
  have h2:(q.map (·.1))[k]? = some a:=by rw [List.getElem?_map,hk]; rfl
  have:=(List.getElem?_inj (List.getElem?_eq_some_iff.mp h1).1 nd).mp (h1.trans h2.symm)
  omega
 ·cases hi
section
variable (F G:Fn) (L:Lf) (K:Nat) {S:List Nat} {T:List Rw} (ok:TbOk S T) (σ:List O) (hσ:Cl σ)
include ok hσ
noncomputable def ResX (m:R V) (o:Option (List Nat)) (σ:List O):Prop:=match o with
 | some t=>m = .ok (.str t) ⟨[],σ⟩
 | none=>∃ y,m = .exc y ⟨[],σ⟩
theorem Z9p (R₀:Nat) (hG:G "need_row" [tbV S T,.int (R₀:Int)] σ = .ok .none ⟨[],σ⟩) {qf:Qr} (hd:Done (nxR S T) 0 [(0,[])] qf) (hl:qf.length < 6000) (hK:qf.length < K) :
  ResX (runX F G L K Z2u [tbV S T,.int (R₀:Int)] σ) (hit (fun x=>decide (x = R₀)) qf) σ:=by
 obtain ⟨k',q',m',y5,y6,e,nd,⟨rr,hrr⟩,hor⟩:=Z6v F K ok σ R₀ hd K 0 none none (by omega) hl (by simp) (fun e he=>by rw [List.mem_singleton.mp he]; exact Nat.zero_le _) (fun e he=>by rw [List.mem_singleton.mp he]; have:=ok.t1; show 0 < _; omega)
 have s0:evXs F G L K Z7j ⟨[some (tbV S T),some (.int (R₀:Int)),none,none,none,none,none],σ⟩ =
   evXs F G L K (.cons (.ifte (.cmp .notin (.loc 1) (.loc 2)) (.cons (.raise "no text leads to that row") .nil) .nil) (.cons (.pl (.ret (.sub (.loc 2) (.loc 1)))) .nil)) (S7r (some (tbV S T)) R₀ σ k' y5 y6 (RS σ q' m')):=by
  have d1:∀ ρ,Z2Z σ.length (.int 0) (.str []) ⟨ρ,σ++[.priv]⟩ = .ok (.ref σ.length) ⟨ρ,σ++[.idict [(0,.str [])]]⟩:=fun ρ=>by
   show R.ok (V.ref σ.length) (⟨ρ,(σ++[O.priv]).set σ.length (.idict [(0,.str [])])⟩:St) = _
   rw [Z2T]
  have l1:(σ++[O.idict [((0:Int),V.str [])]]).length = σ.length + 1:=by rw [List.length_append]; rfl
  have a1:σ++[O.idict [((0:Int),V.str [])]]++[.lst [.int 0]] = RS σ [(0,[])] 0:=by rw [List.append_assoc]; rfl
  have e1:evS F K (.asg 2 (.dict1 (.int 0) (.str ""))) ⟨[some (tbV S T),some (.int (R₀:Int)),none,none,none,none,none],σ⟩ = .ok .next ⟨[some (tbV S T),some (.int (R₀:Int)),some (.ref σ.length),none,none,none,none],σ++[.idict [(0,.str [])]]⟩:=at1 fun z=>z rfl rfl (d1 _) rfl
  have e2:evS F K (.asg 3 (.listM (.cons (.int 0) .nil))) ⟨[some (tbV S T),some (.int (R₀:Int)),some (.ref σ.length),none,none,none,none],σ++[.idict [(0,.str [])]]⟩ = .ok .next ⟨[some (tbV S T),some (.int (R₀:Int)),some (.ref σ.length),some (.ref (σ.length + 1)),none,none,none],RS σ [(0,[])] 0⟩:=at1 fun z=>z l1 a1 rfl
  refine (Z2g (ZaQ (xs:=[tbV S T,.int (R₀:Int)]) (st':=⟨[some (tbV S T),some (.int (R₀:Int)),none,none,none,none,none],σ⟩) rfl hG)).trans ?_
  refine (Z0a e1).trans ((Z0a e2).trans ((Z0a (st':=S7r (some (tbV S T)) R₀ σ 0 none none (RS σ [(0,[])] 0)) rfl).trans ?_))
  exact Z0a e
 have qin:=Z52 σ q' m' R₀
 by_cases hm:R₀ ∈ q'.map (·.1)
 ·obtain ⟨⟨a,t⟩,hmem,rfl⟩:=List.mem_map.mp hm
  rw [decide_eq_true hm] at qin
  have hh:hit (fun x=>decide (x = a)) qf = some t:=by rw [hrr]; exact ZcH nd hmem
  rw [hh]
  have ht:Z03 (evE F (.cmp .notin (.loc 1) (.loc 2)) (S7r (some (tbV S T)) a σ k' y5 y6 (RS σ q' m'))) = .ok false (S7r (some (tbV S T)) a σ k' y5 y6 (RS σ q' m')):=atQ fun z=>z qin
  have g2:Z0b (RS σ q' m') (.ref σ.length) (.int (a:Int)) = some (.str t):=by rw [ZaZ (RS_d σ q' m')]; exact Z6u nd hmem
  have er:evS F K (.ret (.sub (.loc 2) (.loc 1))) (S7r (some (tbV S T)) a σ k' y5 y6 (RS σ q' m')) = .ok (.ret (.str t)) (S7r (some (tbV S T)) a σ k' y5 y6 (RS σ q' m')):=at1 fun z=>z g2 rfl
  exact Z2B (d:=Z2u) rfl (s0.trans ((Z2g ((ZcD ht).trans rfl)).trans (Z1S er))) (Z0j _) hσ
 ·have hq:q' = qf:=hor.resolve_left hm
  rw [decide_eq_false hm] at qin
  have hh:hit (fun x=>decide (x = R₀)) qf = none:=Z7i fun x hx=>decide_eq_false fun e=>hm (by rw [hq,← e]; exact List.mem_map_of_mem hx)
  rw [hh]
  have ht:Z03 (evE F (.cmp .notin (.loc 1) (.loc 2)) (S7r (some (tbV S T)) R₀ σ k' y5 y6 (RS σ q' m'))) = .ok true (S7r (some (tbV S T)) R₀ σ k' y5 y6 (RS σ q' m')):=atQ fun z=>z qin
  exact ⟨"no text leads to that row",Z2X (d:=Z2u) rfl (s0.trans (xexc ((ZaP ht).trans rfl))) hσ⟩
theorem Z9q (i:Int) {y:Str} (hG:G "need_row" [tbV S T,.int i] σ = .exc y ⟨[],σ⟩):runX F G L K Z2u [tbV S T,.int i] σ = .exc y ⟨[],σ⟩ :=
 Z2X (τ:=[]) (ρ:=[some (tbV S T),some (.int i),none,none,none,none,none]) rfl (by rw [List.append_nil]; exact xexc (Z3R (xs:=[tbV S T,.int i]) (st':=⟨[some (tbV S T),some (.int i),none,none,none,none,none],σ⟩) rfl hG)) hσ
end
abbrev Pp:=Option Nat × Option Nat
noncomputable def pL (p:Pp):Ss:=[p.1,p.2]
theorem Zbn {a b:Pp} (h:pL a = pL b):a = b:=by
 obtain ⟨a1,a2⟩:=a
 obtain ⟨b1,b2⟩:=b
 cases h; rfl
abbrev Qa:=List (Pp × List Nat)
noncomputable def esA (q:Qa):List (List (Option Int) × V):=q.map fun e=>(key (pL e.1),V.str e.2)
noncomputable def AS (σ:List O) (q:Qa) (m:Nat):List O:=σ++.kdict (esA q) :: .lst (q.map fun e=>stV (pL e.1)) :: List.replicate m .priv
theorem AS_d (σ:List O) (q:Qa) (m:Nat):(AS σ q m)[σ.length]? = some (.kdict (esA q)):=Z0k σ _ 0
theorem AS_l (σ:List O) (q:Qa) (m:Nat):(AS σ q m)[σ.length + 1]? = some (.lst (q.map fun e=>stV (pL e.1))):=Z0k σ _ 1
theorem ZcI (σ:List O) (q:Qa) (m:Nat):AS σ q m++[.priv] = AS σ q (m + 1):=by
 unfold AS
 rw [List.replicate_succ',List.append_assoc]; rfl
theorem Z7t (q:Qa) (p:Pp):((esA q).find? fun x=>x.1 = key (pL p)).isSome = decide (p ∈ q.map (·.1)):=by
 rw [Bool.eq_iff_iff,List.find?_isSome,decide_eq_true_eq]
 constructor
 ·rintro ⟨x,hx,e⟩
  obtain ⟨e',he',rfl⟩:=List.mem_map.mp hx
  exact List.mem_map.mpr ⟨e',he',Zbn (Z6t (of_decide_eq_true e))⟩
 ·intro h
  obtain ⟨e,he,rfl⟩:=List.mem_map.mp h
  exact ⟨_,List.mem_map.mpr ⟨e,he,rfl⟩,decide_eq_true rfl⟩
theorem Z9r (σ:List O) (q:Qa) (m:Nat) (p:Pp):Z3Y (AS σ q m) σ.length (stV (pL p)) = some (((esA q).find? fun x=>x.1 = key (pL p)).map (·.2)):=by
 unfold Z3Y
 rw [Z2f,Option.bind_some,AS_d]; rfl
theorem in_A (σ:List O) (q:Qa) (m:Nat) (p:Pp):inD (AS σ q m) (stV (pL p)) (.ref σ.length) = some (decide (p ∈ q.map (·.1))):=by
 show (Z3Y (AS σ q m) σ.length (stV (pL p))).map Option.isSome = _
 rw [Z9r,Option.map_some,Option.isSome_map,Z7t]
theorem Z9s:∀ {q:Qa} {p:Pp} {t:List Nat},(q.map (·.1)).Nodup→(p,t) ∈ q→(((esA q).find? fun x=>x.1 = key (pL p)).map (·.2)) = some (.str t)
 | [],_,_,_,h=>by cases h
 | e :: q,p,t,nd,h=>by
  rw [List.map_cons,List.nodup_cons] at nd
  unfold esA
  rw [List.map_cons]
  by_cases he:e.1 = p
  ·rw [List.find?_cons_of_pos (p:=fun x:List (Option Int) × V=>decide (x.1 = key (pL p))) (a:=(key (pL e.1),V.str e.2)) (decide_eq_true (by rw [he]))]
   rcases List.mem_cons.mp h with h | h
   ·rw [← h]; rfl
   ·exact absurd (List.mem_map.mpr ⟨_,h,he.symm⟩) nd.1
  ·rw [List.find?_cons_of_neg (p:=fun x:List (Option Int) × V=>decide (x.1 = key (pL p))) (a:=(key (pL e.1),V.str e.2)) (fun q=>he (Zbn (Z6t (of_decide_eq_true q))))]
   rcases List.mem_cons.mp h with h | h
   ·exact absurd (congrArg Prod.fst h).symm he
   ·exact Z9s nd.2 h
theorem Zdt {σ:List O} {q:Qa} {m:Nat} {p:Pp} {t:List Nat} (nd:(q.map (·.1)).Nodup) (h:(p,t) ∈ q):Z0b (AS σ q m) (.ref σ.length) (stV (pL p)) = some (.str t):=by
 show pick (lstO (AS σ q m)[σ.length]?) _ (pick (Z1V (AS σ q m)[σ.length]?) _ ((Z3Y (AS σ q m) σ.length (stV (pL p))).bind id)) = _
 rw [AS_d,Z9r,Z9s nd h]; rfl
theorem ZaT {σ:List O} (h:Cl σ) (q:Qa) (m:Nat):Cl (AS σ q m):=by
 unfold Cl
 have hl:σ.length ≤ (AS σ q m).length:=by unfold AS; rw [List.length_append]; exact Nat.le_add_right _ _
 generalize (AS σ q m).length = N at hl
 unfold AS
 rw [List.all_append,Bool.and_eq_true]
 refine ⟨List.all_eq_true.mpr fun o ho=>O.lo_mono hl (List.all_eq_true.mp h o ho),List.all_eq_true.mpr fun o ho=>?_⟩
 rcases List.mem_cons.mp ho with rfl | ho
 ·refine Z6m (Z1H fun x hx=>?_) (Z1H fun x hx=>?_)
  ·unfold esA at hx
   rw [List.map_map] at hx
   obtain ⟨e,_,rfl⟩:=List.mem_map.mp hx
   show (kV (key (pL e.1))).lo N = true
   rw [Zbm]; exact Z4p _ _
  ·unfold esA at hx
   rw [List.map_map] at hx
   obtain ⟨e,_,rfl⟩:=List.mem_map.mp hx
   exact Z0j _
 rcases List.mem_cons.mp ho with rfl | ho
 ·exact Z1H fun x hx=>by obtain ⟨e,_,rfl⟩:=List.mem_map.mp hx; exact Z4p _ _
 ·rw [List.eq_of_mem_replicate ho]; rfl
noncomputable def stA (S:List Nat) (T:List Rw) (j:Nat) (p:Pp):Pp:=((Z0f S T p.1).getD j none,(Z0f S T p.2).getD j none)
noncomputable def addA (S:List Nat) (T:List Rw) (p:Pp) (t:List Nat) (q:Qa) (x:Nat × Nat):Qa:=if (stA S T x.2 p).1 = (stA S T x.2 p).2 then q else addQ t q (x.1,stA S T x.2 p)
noncomputable def nxAF (S:List Nat) (T:List Rw) (l:List (Nat × Nat)) (p:Pp):List (Nat × Pp):=l.filterMap fun x=>if (stA S T x.2 p).1 = (stA S T x.2 p).2 then none else some (x.1,stA S T x.2 p)
noncomputable def nxA (S:List Nat) (T:List Rw) (p:Pp):List (Nat × Pp):=nxAF S T S.zipIdx p
theorem Z3T (S:List Nat) (T:List Rw) (p:Pp) (t:List Nat):∀ (l:List (Nat × Nat)) (q:Qa),l.foldl (addA S T p t) q = (nxAF S T l p).foldl (addQ t) q
 | [],q=>rfl
 | x :: l,q=>by
  rw [List.foldl_cons,Z3T S T p t l]
  unfold addA nxAF
  by_cases h:(stA S T x.2 p).1 = (stA S T x.2 p).2
  ·rw [if_pos h,List.filterMap_cons,if_pos h]
  ·rw [if_neg h,List.filterMap_cons,if_neg h]; rfl
theorem Zbo (σ:List O) (a b:Option Int):Z0n σ .ne (oV a) (oV b) = some (decide (a ≠ b)):=by
 cases a <;> cases b
 ·rfl
 ·rfl
 ·rfl
 ·rename_i i j
  show some (!(i == j)) = _
  congr 1
  by_cases h:i = j
  ·subst h; simp
  ·simp [h]
theorem Zdu {F:Fn} {st:St} {a b:Ex} {x y:Option Int} (ha:evE F a st = .ok (oV x) st) (hb:evE F b st = .ok (oV y) st):Z03 (evE F (.cmp .ne a b) st) = .ok (decide (x ≠ y)) st:=by
 show ((((evE F a st).bind fun x st=>(evE F b st).bind fun y st=>R.lift ((Z0n st.σ .ne x y).map V.bool) st)).bind fun v st=>R.lift (v.truthy st.σ) st) = _
 rw [ha,R.bind_ok,hb,R.bind_ok,Zbo]; rfl
theorem wne (a b:Option Nat):decide ((a.map fun k:Nat=>(k:Int)) ≠ b.map fun k:Nat=>(k:Int)) = decide (a ≠ b):=by
 congr 1
 refine propext (not_congr ⟨fun h=>?_,fun h=>h ▸ rfl⟩)
 cases a <;> cases b <;> simp at h <;> first | rfl | exact congrArg some (by omega)
noncomputable def S11a (made one other:Option V) (σ:List O) (k:Nat) (x6 x7 x8 x9 x10:Option V) (τ:List O):St:=⟨[made,one,other,some (.ref σ.length),some (.ref (σ.length + 1)),some (.int k),x6,x7,x8,x9,x10],τ⟩
theorem ne_e {F:Fn} {st:St} {a b:Ex} {x y:Option Int} (ha:evE F a st = .ok (oV x) st) (hb:evE F b st = .ok (oV y) st):evE F (.cmp .ne a b) st = .ok (.bool (decide (x ≠ y))) st:=by
 show ((evE F a st).bind fun x st=>(evE F b st).bind fun y st=>R.lift ((Z0n st.σ .ne x y).map V.bool) st) = _
 rw [ha,R.bind_ok,hb,R.bind_ok,Zbo]; rfl
theorem Zbp {F:Fn} {st:St} {a b:Ex} {d:Bool} (ha:evE F a st = .ok (.bool true) st) (hb:evE F b st = .ok (.bool d) st):Z03 (evE F (.band a b) st) = .ok d st:=by
 show (((evE F a st).bind fun x st=>(R.lift (x.truthy st.σ) st).bind fun t st=>if t then evE F b st else .ok x st).bind fun v st=>R.lift (v.truthy st.σ) st) = _
 rw [ha,R.bind_ok]
 show ((evE F b st).bind fun v st=>R.lift (v.truthy st.σ) st) = _
 rw [hb]; rfl
theorem Zdv {F:Fn} {st:St} {a b:Ex} (ha:evE F a st = .ok (.bool false) st):Z03 (evE F (.band a b) st) = .ok false st:=by
 show (((evE F a st).bind fun x st=>(R.lift (x.truthy st.σ) st).bind fun t st=>if t then evE F b st else .ok x st).bind fun v st=>R.lift (v.truthy st.σ) st) = _
 rw [ha]; rfl
noncomputable def ZcJ (F:Fn) (S:List Nat) (T:List Rw):Prop:=∀ (r:Option Nat) (τ:List O),Row T r→Cl τ→F "ways_in" [tbV S T,wV r] τ = .ok (.lst ((Z0f S T r).map wV)) ⟨[],τ⟩
noncomputable def Zdw (F:Fn) (S:List Nat) (T:List Rw):Prop:=∀ (r:Option Nat) (τ:List O),Row T r→Cl τ→F "told_in" [tbV S T,wV r] τ = .ok (oV (Z2e T r)) ⟨[],τ⟩
noncomputable def apC:Ex:=.band (.cmp .notin (.loc 10) (.loc 3)) (.cmp .ne (.sub (.loc 10) (.int 0)) (.sub (.loc 10) (.int 1)))
noncomputable def apB:Sms:=.cons (.asgI (.loc 3) (.loc 10) (.bin .add (.sub (.loc 3) (.sub (.loc 4) (.loc 5))) (.loc 9))) (.cons (.expr (.me .append (.loc 4) (.loc 10))) .nil)
section
variable (F:Fn) (K:Nat) {S:List Nat} {T:List Rw} (ok:TbOk S T) (hW:ZcJ F S T) (σ:List O) (hσ:Cl σ) (one other:Option V)
include ok hW hσ
theorem Z7Y (q:Qa) (m k:Nat) (p:Pp) (t:List Nat) (x8 x9 x10:Option V) (hq:q[k]? = some (p,t)) (h1:Row T p.1) (h2:Row T p.2) (nd:(q.map (·.1)).Nodup) (h5:q.length < 6000) (ht:t.length ≤ 6000) {j:Nat} (hj:j < S.length) :
  ((asT [8,9] (.tup [.int (j:Int),.str [S[j]]]) (S11a (some (tbV S T)) one other σ k (some (wV p.1)) (some (wV p.2)) x8 x9 x10 (AS σ q m))).bind fun _ st=>evSs F K Z2b st) =
   .ok .next (S11a (some (tbV S T)) one other σ k (some (wV p.1)) (some (wV p.2)) (some (.int (j:Int))) (some (.str [S[j]])) (some (stV (pL (stA S T j p)))) (AS σ (addA S T p t q (S[j],j)) m)):=by
 have ha:asT [8,9] (.tup [.int (j:Int),.str [S[j]]]) (S11a (some (tbV S T)) one other σ k (some (wV p.1)) (some (wV p.2)) x8 x9 x10 (AS σ q m)) = .ok () (S11a (some (tbV S T)) one other σ k (some (wV p.1)) (some (wV p.2)) (some (.int (j:Int))) (some (.str [S[j]])) x10 (AS σ q m)):=rfl
 rw [ha,R.bind_ok]
 have c1:=hW p.1 (AS σ q m) h1 (ZaT hσ q m)
 have c2:=hW p.2 (AS σ q m) h2 (ZaT hσ q m)
 have b1:=Z6s ok (AS σ q m) p.1 h1 hj
 have b2:=Z6s ok (AS σ q m) p.2 h2 hj
 have e0:evSs F K Z2b (S11a (some (tbV S T)) one other σ k (some (wV p.1)) (some (wV p.2)) (some (.int (j:Int))) (some (.str [S[j]])) x10 (AS σ q m)) =
   evSs F K (.cons (.ifte apC apB .nil) .nil) (S11a (some (tbV S T)) one other σ k (some (wV p.1)) (some (wV p.2)) (some (.int (j:Int))) (some (.str [S[j]])) (some (stV (pL (stA S T j p)))) (AS σ q m)) :=
  atP 1 fun z=>z c1 b1 c2 b2 rfl
 rw [e0]
 have qin:=in_A σ q m (stA S T j p)
 have en:evE F (.cmp .notin (.loc 10) (.loc 3)) (S11a (some (tbV S T)) one other σ k (some (wV p.1)) (some (wV p.2)) (some (.int (j:Int))) (some (.str [S[j]])) (some (stV (pL (stA S T j p)))) (AS σ q m)) = .ok (.bool (!decide (stA S T j p ∈ q.map (·.1)))) (S11a (some (tbV S T)) one other σ k (some (wV p.1)) (some (wV p.2)) (some (.int (j:Int))) (some (.str [S[j]])) (some (stV (pL (stA S T j p)))) (AS σ q m)) :=
  atE fun z=>z qin
 have f1:evE F (.sub (.loc 10) (.int 0)) (S11a (some (tbV S T)) one other σ k (some (wV p.1)) (some (wV p.2)) (some (.int (j:Int))) (some (.str [S[j]])) (some (stV (pL (stA S T j p)))) (AS σ q m)) = .ok (wV (stA S T j p).1) (S11a (some (tbV S T)) one other σ k (some (wV p.1)) (some (wV p.2)) (some (.int (j:Int))) (some (.str [S[j]])) (some (stV (pL (stA S T j p)))) (AS σ q m)):=atE fun z=>z rfl
 have f2:evE F (.sub (.loc 10) (.int 1)) (S11a (some (tbV S T)) one other σ k (some (wV p.1)) (some (wV p.2)) (some (.int (j:Int))) (some (.str [S[j]])) (some (stV (pL (stA S T j p)))) (AS σ q m)) = .ok (wV (stA S T j p).2) (S11a (some (tbV S T)) one other σ k (some (wV p.1)) (some (wV p.2)) (some (.int (j:Int))) (some (.str [S[j]])) (some (stV (pL (stA S T j p)))) (AS σ q m)):=atE fun z=>z rfl
 have fn:=ne_e f1 f2
 rw [wne] at fn
 have stay:∀ {r:Qa},r = q→Z03 (evE F apC (S11a (some (tbV S T)) one other σ k (some (wV p.1)) (some (wV p.2)) (some (.int (j:Int))) (some (.str [S[j]])) (some (stV (pL (stA S T j p)))) (AS σ q m))) = .ok false (S11a (some (tbV S T)) one other σ k (some (wV p.1)) (some (wV p.2)) (some (.int (j:Int))) (some (.str [S[j]])) (some (stV (pL (stA S T j p)))) (AS σ q m)) →
   evSs F K (.cons (.ifte apC apB .nil) .nil) (S11a (some (tbV S T)) one other σ k (some (wV p.1)) (some (wV p.2)) (some (.int (j:Int))) (some (.str [S[j]])) (some (stV (pL (stA S T j p)))) (AS σ q m)) = .ok .next (S11a (some (tbV S T)) one other σ k (some (wV p.1)) (some (wV p.2)) (some (.int (j:Int))) (some (.str [S[j]])) (some (stV (pL (stA S T j p)))) (AS σ r m)):=fun e h=>by
  subst e; exact one1 ((if_f h).trans rfl)
 by_cases hm:stA S T j p ∈ q.map (·.1)
 ·rw [decide_eq_true hm] at en
  refine stay ?_ (Zdv en)
  unfold addA addQ
  by_cases he:(stA S T j p).1 = (stA S T j p).2
  ·exact if_pos he
  ·rw [if_neg he]; exact if_pos hm
 ·rw [decide_eq_false hm] at en
  by_cases he:(stA S T j p).1 = (stA S T j p).2
  ·rw [decide_eq_false (by simpa using he)] at fn
   exact stay (by unfold addA; exact if_pos he) (Zbp en fn)
  ·rw [decide_eq_true he] at fn
   have e3:addA S T p t q (S[j],j) = q++[(stA S T j p,t++[S[j]])]:=by unfold addA addQ; rw [if_neg he,if_neg hm]
   rw [e3]
   refine one1 ((if_t (Zbp en fn)).trans ?_)
   have g1:Z0b (AS σ q m) (.ref (σ.length + 1)) (.int (k:Int)) = some (stV (pL p)):=Z2L (AS_l σ q m) (by rw [List.getElem?_map,hq]; rfl) (by have:=(List.getElem?_eq_some_iff.mp hq).1; omega)
   have g2:Z0b (AS σ q m) (.ref σ.length) (stV (pL p)) = some (.str t):=Zdt nd (List.mem_of_getElem? hq)
   have ad:=Z4v t [S[j]] (by rw [List.length_singleton]; unfold sizeLine; omega)
   have hset:∀ ρ,setI (.ref σ.length) (stV (pL (stA S T j p))) (.str (t++[S[j]])) ⟨ρ,AS σ q m⟩ = .ok .next ⟨ρ,σ++.kdict (esA (q++[(stA S T j p,t++[S[j]])])) :: .lst (q.map fun e=>stV (pL e.1)) :: List.replicate m .priv⟩:=fun ρ=>by
    show R.or (Z59 σ.length (stV (pL (stA S T j p))) (.str (t++[S[j]])) ⟨ρ,AS σ q m⟩) _ = _
    unfold Z59
    rw [Z2f]
    show R.or (R.need (Z57 (AS σ q m)[σ.length]?) _) _ = _
    rw [AS_d]
    have hn:((esA q).find? fun x=>x.1 = key (pL (stA S T j p))).isNone = true:=by
     rw [← Option.not_isSome,Z7t,decide_eq_false hm]; rfl
    show R.or (if ((esA q).length < sizeLine && ((esA q).find? fun x=>x.1 = key (pL (stA S T j p))).isNone) = true then _ else _) _ = _
    rw [if_pos (by rw [hn,Bool.and_true]; exact decide_eq_true (by unfold esA; rw [List.length_map]; unfold sizeLine; omega))]
    show R.ok Fl.next _ = _
    unfold AS
    rw [show σ.length = σ.length + 0 from rfl,Z1R]
    unfold esA
    rw [List.map_append]; rfl
   have p1:∀ (A:O) ρ,Z1C .append (.ref (σ.length + 1)) (stV (pL (stA S T j p))) ⟨ρ,σ++A :: .lst (q.map fun e=>stV (pL e.1)) :: List.replicate m .priv⟩ = .ok .none ⟨ρ,σ++A :: .lst ((q++[(stA S T j p,t++[S[j]])]).map fun e=>stV (pL e.1)) :: List.replicate m .priv⟩:=fun A ρ=>by
    rw [Z0B ρ _ (σ.length + 1) _ _ (Z0k σ _ 1) (by rw [List.length_map]; unfold sizeLine; omega),Z1R,List.map_append]; rfl
   have r1:∀ (A:O),Z1W (σ++A :: .lst (q.map fun e=>stV (pL e.1)) :: List.replicate m .priv) .append (.ref (σ.length + 1)) = true:=fun A=>Z15 _ _ _ (Z0k σ _ 1)
   exact atS fun z=>z g1 g2 ad (hset _) (r1 _) (p1 _ _)
theorem Z3U (k:Nat) (p:Pp) (t:List Nat) (h1:Row T p.1) (h2:Row T p.2) (ht:t.length ≤ 6000):∀ (S':List Nat) (j:Nat) (q:Qa) (m:Nat) (x8 x9 x10:Option V),S.drop j = S'→q[k]? = some (p,t)→(q.map (·.1)).Nodup→((nxAF S T (S'.zipIdx j) p).foldl (addQ t) q).length < 6000 →
  ∃ y8 y9 y10,forR (fun x st=>(asT [8,9] x st).bind fun _ st=>evSs F K Z2b st) (Z2l j (S'.map fun c=>V.str [c])) (S11a (some (tbV S T)) one other σ k (some (wV p.1)) (some (wV p.2)) x8 x9 x10 (AS σ q m)) =
   .ok .next (S11a (some (tbV S T)) one other σ k (some (wV p.1)) (some (wV p.2)) y8 y9 y10 (AS σ ((nxAF S T (S'.zipIdx j) p).foldl (addQ t) q) m))
 | [],j,q,m,x8,x9,x10,hd,hq,nd,hl=>⟨x8,x9,x10,Z1Y ..⟩
 | c :: S',j,q,m,x8,x9,x10,hd,hq,nd,hl=>by
  have hj:j < S.length:=by
   have:=congrArg List.length hd
   rw [List.length_drop,List.length_cons] at this; omega
  have hdr:=List.drop_eq_getElem_cons hj
  rw [hd] at hdr
  have hc:S[j] = c:=(List.cons.inj hdr).1.symm
  have hd':S.drop (j + 1) = S':=(List.cons.inj hdr).2.symm
  rw [List.zipIdx_cons] at hl ⊢
  have hn:(nxAF S T ((c,j) :: S'.zipIdx (j + 1)) p).foldl (addQ t) q = (nxAF S T (S'.zipIdx (j + 1)) p).foldl (addQ t) (addA S T p t q (c,j)):=by
   rw [← Z3T,← Z3T]; rfl
  rw [hn] at hl ⊢
  have hx:∃ r,addA S T p t q (c,j) = q++r:=by
   unfold addA
   split
   ·exact ⟨[],(List.append_nil _).symm⟩
   ·exact Z2t ..
  obtain ⟨r,hr⟩:=hx
  obtain ⟨r',hr'⟩:=Z29 t (nxAF S T (S'.zipIdx (j + 1)) p) (addA S T p t q (c,j))
  have hql:q.length < 6000:=by rw [hr',hr,List.length_append,List.length_append] at hl; omega
  have e:=Z7Y F K ok hW σ hσ one other q m k p t x8 x9 x10 hq h1 h2 nd hql ht hj
  rw [hc] at e
  have nd':((addA S T p t q (c,j)).map (·.1)).Nodup:=by
   unfold addA
   split
   ·exact nd
   ·exact Z54 [(c,stA S T j p)] nd
  obtain ⟨y8,y9,y10,e2⟩:=Z3U k p t h1 h2 ht S' (j + 1) (addA S T p t q (c,j)) m _ _ _ hd' (by rw [hr,List.getElem?_append_left (List.getElem?_eq_some_iff.mp hq).1]; exact hq) nd' hl
  refine ⟨y8,y9,y10,?_⟩
  rw [List.map_cons,Z7A,Z0P,e,R.bind_ok]
  exact e2
end
noncomputable def wA (T:List Rw) (p:Pp):Bool:=decide (Z2e T p.1 ≠ Z2e T p.2)
noncomputable def apW:Ex:=.cmp .lt (.loc 5) (.bi .len (.loc 4))
noncomputable def apT:Ex:=.cmp .ne (.call "told_in" (.cons (.loc 0) (.cons (.loc 6) .nil))) (.call "told_in" (.cons (.loc 0) (.cons (.loc 7) .nil)))
section
variable (F:Fn) (K:Nat) {S:List Nat} {T:List Rw} (ok:TbOk S T) (hW:ZcJ F S T) (hT:Zdw F S T) (σ:List O) (hσ:Cl σ) (one other:Option V)
include ok hW hT hσ
theorem Z6w:∀ {k:Nat} {q qf:Qa},Done (nxA S T) k q qf→∀ (fuel m:Nat) (x6 x7 x8 x9 x10:Option V),qf.length - k < fuel→qf.length < 6000→(∀ x ∈ q.take k,wA T x.1 = false)→(q.map (·.1)).Nodup→TxG q→(∀ e ∈ q,Row T e.1.1∧Row T e.1.2) →
  ∃ ρ τ,Z0x (fun st=>Z03 (evE F apW st)) (fun st=>evSs F K Z1s st) fuel (S11a (some (tbV S T)) one other σ k x6 x7 x8 x9 x10 (AS σ q m)) = .ok (match hit (wA T) qf with | some t=>.ret (.str t) | none=>.next) ⟨ρ,σ++τ⟩:=by
 intro k q qf h
 induction h with
 | @stop k q e=>
  intro fuel m x6 x7 x8 x9 x10 hf hl hno nd htx hrow
  cases fuel with
  | zero=>omega
  | succ fuel=>
   have g:Z0O (AS σ q m) .len (.ref (σ.length + 1)) = some (.int q.length):=by rw [Z32 _ _ _ (AS_l σ q m),List.length_map]
   have ht:Z03 (evE F apW (S11a (some (tbV S T)) one other σ k x6 x7 x8 x9 x10 (AS σ q m))) = .ok false (S11a (some (tbV S T)) one other σ k x6 x7 x8 x9 x10 (AS σ q m)) :=
    okb (atQ fun t=>t g) (decide_eq_false (by omega))
   rw [Z0l,ht,R.bind_ok,Z7i (fun x hx=>hno x (by rw [e,List.take_length]; exact hx))]
   exact ⟨_,_,rfl⟩
 | @step k q qf e he hd ih=>
  intro fuel m x6 x7 x8 x9 x10 hf hl hno nd htx hrow
  obtain ⟨p,t⟩:=e
  have hk:k < q.length:=(List.getElem?_eq_some_iff.mp he).1
  obtain ⟨rx,hrx⟩:=(Done.step he hd).ext
  have hqf:q.length ≤ qf.length:=by rw [hrx,List.length_append]; omega
  have hmem:=List.mem_of_getElem? he
  obtain ⟨h1,h2⟩:=hrow _ hmem
  have htl:t.length ≤ q.length:=htx _ hmem
  cases fuel with
  | zero=>omega
  | succ fuel=>
   have g:Z0O (AS σ q m) .len (.ref (σ.length + 1)) = some (.int q.length):=by rw [Z32 _ _ _ (AS_l σ q m),List.length_map]
   have ht:Z03 (evE F apW (S11a (some (tbV S T)) one other σ k x6 x7 x8 x9 x10 (AS σ q m))) = .ok true (S11a (some (tbV S T)) one other σ k x6 x7 x8 x9 x10 (AS σ q m)) :=
    okb (atQ fun t=>t g) (decide_eq_true (by omega))
   rw [Z0l,ht,R.bind_ok,if_pos rfl]
   have g1:Z0b (AS σ q m) (.ref (σ.length + 1)) (.int (k:Int)) = some (stV (pL p)):=Z2L (AS_l σ q m) (by rw [List.getElem?_map,he]; rfl) (by omega)
   have g2:Z0b (AS σ q m) (.ref σ.length) (stV (pL p)) = some (.str t):=Zdt nd hmem
   have c1:=hT p.1 (AS σ q m) h1 (ZaT hσ q m)
   have c2:=hT p.2 (AS σ q m) h2 (ZaT hσ q m)
   have f1:evE F (.call "told_in" (.cons (.loc 0) (.cons (.loc 6) .nil))) (S11a (some (tbV S T)) one other σ k (some (wV p.1)) (some (wV p.2)) x8 x9 x10 (AS σ q m)) = .ok (oV (Z2e T p.1)) (S11a (some (tbV S T)) one other σ k (some (wV p.1)) (some (wV p.2)) x8 x9 x10 (AS σ q m)):=atE fun z=>z c1
   have f2:evE F (.call "told_in" (.cons (.loc 0) (.cons (.loc 7) .nil))) (S11a (some (tbV S T)) one other σ k (some (wV p.1)) (some (wV p.2)) x8 x9 x10 (AS σ q m)) = .ok (oV (Z2e T p.2)) (S11a (some (tbV S T)) one other σ k (some (wV p.1)) (some (wV p.2)) x8 x9 x10 (AS σ q m)):=atE fun z=>z c2
   have ct:Z03 (evE F apT (S11a (some (tbV S T)) one other σ k (some (wV p.1)) (some (wV p.2)) x8 x9 x10 (AS σ q m))) = .ok (wA T p) (S11a (some (tbV S T)) one other σ k (some (wV p.1)) (some (wV p.2)) x8 x9 x10 (AS σ q m)):=Zdu f1 f2
   have as1:asT [6,7] (stV (pL p)) (S11a (some (tbV S T)) one other σ k x6 x7 x8 x9 x10 (AS σ q m)) = .ok () (S11a (some (tbV S T)) one other σ k (some (wV p.1)) (some (wV p.2)) x8 x9 x10 (AS σ q m)):=rfl
   cases hws:wA T p with
   | true=>
    rw [hws] at ct
    have hb:evSs F K Z1s (S11a (some (tbV S T)) one other σ k x6 x7 x8 x9 x10 (AS σ q m)) = .ok (.ret (.str t)) (S11a (some (tbV S T)) one other σ k (some (wV p.1)) (some (wV p.2)) x8 x9 x10 (AS σ q m)):=atC fun z=>z g1 as1 ct g1 g2 rfl
    rw [hb,R.bind_ok,hrx,Z9b hno he hws]
    exact ⟨_,_,rfl⟩
   | false=>
    rw [hws] at ct
    obtain ⟨rq,hrq⟩:=hd.ext
    obtain ⟨y8,y9,y10,e2⟩:=Z3U F K ok hW σ hσ one other k p t h1 h2 (by omega) S 0 q (m + 1) x8 x9 x10 rfl he nd (by
     have h1:qf.length = (expQ (nxA S T) q (p,t)).length + rq.length:=by rw [hrq,List.length_append]
     have h2:((nxAF S T S.zipIdx p).foldl (addQ t) q).length = (expQ (nxA S T) q (p,t)).length:=rfl
     show ((nxAF S T S.zipIdx p).foldl (addQ t) q).length < 6000
     omega)
    have en:∀ ρ,Zbw (.str S) ⟨ρ,AS σ q m⟩ = .ok (Z2l 0 (S.map fun c=>V.str [c])) ⟨ρ,AS σ q (m + 1)⟩:=fun ρ=>by
     show R.ok (Z2l 0 (S.map fun c=>V.str [c])) ⟨ρ,AS σ q m++[.priv]⟩ = _
     rw [ZcI]
    have hb:evSs F K Z1s (S11a (some (tbV S T)) one other σ k x6 x7 x8 x9 x10 (AS σ q m)) = .ok .next (S11a (some (tbV S T)) one other σ (k + 1) (some (wV p.1)) (some (wV p.2)) y8 y9 y10 (AS σ (expQ (nxA S T) q (p,t)) (m + 1))) :=
     atC fun z=>z g1 as1 ct (Z19 (AS σ q m) S T) (en _) e2 (congrArg V.int (by omega:(k:Int) + 1 = ((k + 1:Nat):Int)))
    rw [hb,R.bind_ok]
    obtain ⟨r3,hr3⟩:=Z3F (nxA S T) q (p,t)
    refine ih fuel (m + 1) _ _ y8 y9 y10 (by omega) hl (fun x hx=>?_) (Z54 _ nd) (TxG.fold _ htx htl) (Z53 (P:=fun x:Pp=>Row T x.1∧Row T x.2) _ hrow fun x hx=>?_)
    ·rw [hr3,List.take_append_of_le_length (by omega),List.take_succ,he] at hx
     rcases List.mem_append.mp hx with hx | hx
     ·exact hno x hx
     ·rw [List.mem_singleton.mp hx]; exact hws
    ·obtain ⟨y,_,hy⟩:=List.mem_filterMap.mp (show x ∈ nxAF S T S.zipIdx p from hx)
     split at hy
     ·cases hy
     ·cases hy
      exact ⟨Z1B ok p.1 h1 _,Z1B ok p.2 h2 _⟩
theorem Z9t (G:Fn) (L:Lf) (a b:Nat) (ha:a < T.length) (hb:b < T.length) (hG:∀ i:Nat,i < T.length→G "need_row" [tbV S T,.int (i:Int)] σ = .ok .none ⟨[],σ⟩) {qf:Qa} (hd:Done (nxA S T) 0 [((some a,some b),[])] qf) (hl:qf.length < 6000) (hK:qf.length < K) :
  runX F G L K Z3K [tbV S T,.int (a:Int),.int (b:Int)] σ = .ok (txV (hit (wA T) qf)) ⟨[],σ⟩:=by
 obtain ⟨ρ,τ,e⟩:=Z6w F K ok hW hT σ hσ (some (.int (a:Int))) (some (.int (b:Int))) hd K 0 none none none none none (by omega) hl (fun x hx=>by cases hx) (by simp) (fun e he=>by rw [List.mem_singleton.mp he]; exact Nat.zero_le _) (fun e he=>by rw [List.mem_singleton.mp he]; exact ⟨fun k h=>by cases h; exact ha,fun k h=>by cases h; exact hb⟩)
 have key:evXs F G L K Z7k ⟨[some (tbV S T),some (.int (a:Int)),some (.int (b:Int)),none,none,none,none,none,none,none,none],σ⟩ = .ok (.ret (txV (hit (wA T) qf))) ⟨ρ,σ++τ⟩:=by
  have d1:∀ ρ,Z2Z σ.length (.tup [.int (a:Int),.int (b:Int)]) (.str []) ⟨ρ,σ++[.priv]⟩ = .ok (.ref σ.length) ⟨ρ,σ++[.kdict [(key (pL (some a,some b)),.str [])]]⟩:=fun ρ=>Z3Q ρ σ (pL (some a,some b)) (.str [])
  have l1:(σ++[O.kdict [(key (pL (some a,some b)),V.str [])]]).length = σ.length + 1:=by rw [List.length_append]; rfl
  have a1:σ++[O.kdict [(key (pL (some a,some b)),V.str [])]]++[.lst [.tup [.int (a:Int),.int (b:Int)]]] = AS σ [((some a,some b),[])] 0:=by rw [List.append_assoc]; rfl
  have e1:evS F K (.asg 3 (.dict1 (.tup (.cons (.loc 1) (.cons (.loc 2) .nil))) (.str ""))) ⟨[some (tbV S T),some (.int (a:Int)),some (.int (b:Int)),none,none,none,none,none,none,none,none],σ⟩ = .ok .next ⟨[some (tbV S T),some (.int (a:Int)),some (.int (b:Int)),some (.ref σ.length),none,none,none,none,none,none,none],σ++[.kdict [(key (pL (some a,some b)),.str [])]]⟩:=at1 fun z=>z rfl rfl (d1 _) rfl
  have e2:evS F K (.asg 4 (.listM (.cons (.tup (.cons (.loc 1) (.cons (.loc 2) .nil))) .nil))) ⟨[some (tbV S T),some (.int (a:Int)),some (.int (b:Int)),some (.ref σ.length),none,none,none,none,none,none,none],σ++[.kdict [(key (pL (some a,some b)),.str [])]]⟩ = .ok .next ⟨[some (tbV S T),some (.int (a:Int)),some (.int (b:Int)),some (.ref σ.length),some (.ref (σ.length + 1)),none,none,none,none,none,none],AS σ [((some a,some b),[])] 0⟩:=at1 fun z=>z l1 a1 rfl
  refine (Z2g (ZaQ (xs:=[tbV S T,.int (a:Int)]) (st':=⟨[some (tbV S T),some (.int (a:Int)),some (.int (b:Int)),none,none,none,none,none,none,none,none],σ⟩) rfl (hG a ha))).trans ?_
  refine (Z2g (ZaQ (xs:=[tbV S T,.int (b:Int)]) (st':=⟨[some (tbV S T),some (.int (a:Int)),some (.int (b:Int)),none,none,none,none,none,none,none,none],σ⟩) rfl (hG b hb))).trans ?_
  refine (Z0a e1).trans ((Z0a e2).trans ((Z0a (st':=S11a (some (tbV S T)) (some (.int (a:Int))) (some (.int (b:Int))) σ 0 none none none none none (AS σ [((some a,some b),[])] 0)) rfl).trans ?_))
  cases hh:hit (wA T) qf with
  | some t=>rw [hh] at e; exact Z1S e
  | none=>rw [hh] at e; exact (Z0a (s:=.while apW Z1s) (st':=⟨ρ,σ++τ⟩) e).trans (Z1S rfl)
 exact Z2B (d:=Z3K) rfl key (Z9l _ _) hσ
theorem Z5L (G:Fn) (L:Lf) (a b:Int) {y:Str} (hG:G "need_row" [tbV S T,.int a] σ = .exc y ⟨[],σ⟩ ∨ (G "need_row" [tbV S T,.int a] σ = .ok .none ⟨[],σ⟩∧G "need_row" [tbV S T,.int b] σ = .exc y ⟨[],σ⟩)):runX F G L K Z3K [tbV S T,.int a,.int b] σ = .exc y ⟨[],σ⟩:=by
 refine Z2X (τ:=[]) (ρ:=[some (tbV S T),some (.int a),some (.int b),none,none,none,none,none,none,none,none]) rfl ?_ hσ
 rw [List.append_nil]
 rcases hG with h | ⟨h1,h2⟩
 ·exact xexc (Z3R (xs:=[tbV S T,.int a]) (st':=⟨[some (tbV S T),some (.int a),some (.int b),none,none,none,none,none,none,none,none],σ⟩) rfl h)
 ·exact (Z2g (ZaQ (xs:=[tbV S T,.int a]) (st':=⟨[some (tbV S T),some (.int a),some (.int b),none,none,none,none,none,none,none,none],σ⟩) rfl h1)).trans (xexc (Z3R (xs:=[tbV S T,.int b]) (st':=⟨[some (tbV S T),some (.int a),some (.int b),none,none,none,none,none,none,none,none],σ⟩) rfl h2))
end
noncomputable def Z1T (T:List Rw):List (Option Nat):=none :: (List.range T.length).map some
theorem Z55 {T:List Rw} {r:Option Nat} (h:Row T r):r ∈ Z1T T:=by
 cases r with
 | none=>exact List.mem_cons_self
 | some k=>exact List.mem_cons_of_mem _ (List.mem_map.mpr ⟨k,List.mem_range.mpr (h k rfl),rfl⟩)
theorem Z6x {T:List Rw} {r:Option Nat} (h:r ∈ Z1T T):Row T r:=fun k e=>by
 subst e
 rcases List.mem_cons.mp h with h | h
 ·cases h
 ·obtain ⟨j,hj,e⟩:=List.mem_map.mp h
  cases e; exact List.mem_range.mp hj
theorem Z2i {S:List Nat} {T:List Rw} (ok:TbOk S T):(Z1T T).length ≤ 65:=by
 unfold Z1T
 rw [List.length_cons,List.length_map,List.length_range]
 have:=ok.t64; omega
theorem Z3V {S:List Nat} {T:List Rw} {s:Ss} {p:Nat × Ss} (h:p ∈ nxL S T s):∃ j,p.2 = stp S T j s:=by
 obtain ⟨x,_,rfl⟩:=List.mem_map.mp (show p ∈ (S.zipIdx 0).map fun p=>(p.1,stp S T p.2 s) from h)
 exact ⟨x.2,rfl⟩
theorem ZdK {S:List Nat} {T:List Rw} (ok:TbOk S T) (r:Option Nat) (hr:Row T r):∃ qf,Done (nxL S T) 0 [([r],[])] qf∧qf.length < 5000:=by
 obtain ⟨qf,h1,h2⟩:=Z6i (nx:=nxL S T) (U:=(Z1T T).map fun r=>[r]) (fun x hx p hp=>by
  obtain ⟨r,hr,rfl⟩:=List.mem_map.mp hx
  obtain ⟨j,e⟩:=Z3V hp
  rw [e]
  exact List.mem_map.mpr ⟨_,Z55 (Z1B ok r (Z6x hr) j),rfl⟩) 5000 (k:=0) (q:=[([r],[])]) ⟨by simp,fun x hx=>by simp at hx; rw [hx]; exact List.mem_map.mpr ⟨r,Z55 hr,rfl⟩⟩ (Nat.zero_le _) (by rw [List.length_map]; have:=Z2i ok; omega)
 exact ⟨qf,h1,by have:=h2.le; rw [List.length_map] at this; have:=Z2i ok; omega⟩
theorem ZdL {S:List Nat} {T:List Rw} (ok:TbOk S T) (a b:Option Nat) (ha:Row T a) (hb:Row T b):∃ qf,Done (nxL S T) 0 [([a,b],[])] qf∧qf.length < 5000:=by
 have hU:((Z1T T).flatMap fun x=>(Z1T T).map fun y=>[x,y]).length ≤ 65 * 65:=by
  rw [List.length_flatMap]
  have:((Z1T T).map fun x=>((Z1T T).map fun y=>([x,y]:Ss)).length) = (Z1T T).map fun _=>(Z1T T).length:=List.map_congr_left fun x _=>List.length_map ..
  rw [this,List.map_const',List.sum_replicate_nat]
  exact Nat.mul_le_mul (Z2i ok) (Z2i ok)
 have mem:∀ x y,Row T x→Row T y→([x,y]:Ss) ∈ (Z1T T).flatMap fun x=>(Z1T T).map fun y=>[x,y]:=fun x y hx hy=>List.mem_flatMap.mpr ⟨x,Z55 hx,List.mem_map.mpr ⟨y,Z55 hy,rfl⟩⟩
 obtain ⟨qf,h1,h2⟩:=Z6i (nx:=nxL S T) (U:=(Z1T T).flatMap fun x=>(Z1T T).map fun y=>[x,y]) (fun s hs p hp=>by
  obtain ⟨x,hx,hs⟩:=List.mem_flatMap.mp hs
  obtain ⟨y,hy,rfl⟩:=List.mem_map.mp hs
  obtain ⟨j,e⟩:=Z3V hp
  rw [e]
  exact mem _ _ (Z1B ok x (Z6x hx) j) (Z1B ok y (Z6x hy) j)) 5000 (k:=0) (q:=[([a,b],[])]) ⟨by simp,fun x hx=>by simp at hx; rw [hx]; exact mem a b ha hb⟩ (Nat.zero_le _) (by omega)
 exact ⟨qf,h1,by have:=h2.le; omega⟩
noncomputable def pr1 (s:Ss):Option Nat:=match s with
 | [some r]=>some r
 | _=>none
noncomputable def w1 (one:Nat) (s:Ss):Bool:=match s with
 | [some r]=>decide (r = one)
 | _=>false
theorem Z7u {s:Ss} {a:Nat} (h:pr1 s = some a):s = [some a]:=by
 unfold pr1 at h
 split at h
 ·cases h; rfl
 ·cases h
theorem ZcK {s:Ss} (h:s.length ≠ 1):pr1 s = none:=by
 unfold pr1
 split
 ·exact absurd rfl h
 ·rfl
theorem Z9u (W:List (Option Nat)):∀ (S':List Nat) (j:Nat),W.length = j + S'.length→(S'.zipIdx j).map (fun p=>(p.1,W.getD p.2 none)) = S'.zip (W.drop j)
 | [],j,h=>by simp
 | c :: S',j,h=>by
  rw [List.length_cons] at h
  have hj:j < W.length:=by omega
  rw [List.zipIdx_cons,List.map_cons,Z9u W S' (j + 1) (by omega),List.drop_eq_getElem_cons hj,List.zip_cons_cons,List.getD_eq_getElem?_getD,List.getElem?_eq_getElem hj]; rfl
theorem Z9v {S:List Nat} {T:List Rw} (ok:TbOk S T) (one:Nat) {qf:Qu} (hd:Done (nxL S T) 0 [([some 0],[])] qf):∃ qr,Done (nxR S T) 0 [(0,[])] qr∧qr.length ≤ qf.length∧hit (fun x=>decide (x = one)) qr = hit (w1 one) qf:=by
 refine ⟨qpr pr1 qf,hd.pr (pr:=pr1) (nx':=nxR S T) (fun u v a h1 h2=>(Z7u h1).trans (Z7u h2).symm) (fun s a h=>?_) (fun s h=>?_),List.length_filterMap_le ..,Z9c (fun s h=>?_) (fun s a h=>?_) qf⟩
 ·obtain rfl:=Z7u h
  by_cases ha:a < T.length
  ·have hr:Row T (some a):=fun k e=>by cases e; exact ha
   have e:nxL S T [some a] = (S.zip (Z0f S T (some a))).map fun p=>(p.1,[p.2]):=by
    have:=Z9u (Z0f S T (some a)) S 0 (by rw [Z7q ok _ hr,Nat.zero_add])
    rw [List.drop_zero] at this
    rw [← this,List.map_map]; rfl
   rw [e]
   unfold npr nxR nxZ
   rw [List.filterMap_map]
   congr 1
   funext p
   obtain ⟨c,w⟩:=p
   cases w <;> rfl
  ·have hw:Z0f S T (some a) = []:=by show (T.getD a (none,[])).2 = []; rw [List.getD_eq_getElem?_getD,List.getElem?_eq_none (by omega)]; rfl
   unfold nxR
   rw [hw,List.zip_nil_right]
   refine List.filterMap_eq_nil_iff.mpr fun p hp=>?_
   obtain ⟨j,e⟩:=Z3V hp
   rw [e]
   show (pr1 [(Z0f S T (some a)).getD j none]).map _ = none
   rw [hw]; rfl
 ·refine List.filterMap_eq_nil_iff.mpr fun p hp=>?_
  obtain ⟨j,e⟩:=Z3V hp
  rw [e]
  by_cases hl:s.length = 1
  ·obtain ⟨r,rfl⟩:=List.length_eq_one_iff.mp hl
   cases r with
   | some k=>cases h
   | none=>
    have:(Z0f S T none).getD j none = none:=by
     show (List.replicate S.length (none:Option Nat)).getD j none = none
     rw [List.getD_eq_getElem?_getD,List.getElem?_replicate]
     split <;> rfl
    show (pr1 [(Z0f S T none).getD j none]).map _ = none
    rw [this]; rfl
  ·rw [ZcK (by unfold stp; rw [List.length_map]; exact hl)]; rfl
 ·unfold w1 at h
  split at h
  ·rfl
  ·cases h
 ·obtain rfl:=Z7u h; rfl
noncomputable def pr2 (s:Ss):Option Pp:=match s with
 | [x,y]=>if x = y then none else some (x,y)
 | _=>none
noncomputable def w2 (T:List Rw) (s:Ss):Bool:=match s with
 | [x,y]=>decide (Z2e T x ≠ Z2e T y)
 | _=>false
theorem Z7v {s:Ss} {p:Pp} (h:pr2 s = some p):s = pL p∧p.1 ≠ p.2:=by
 unfold pr2 at h
 split at h
 ·split at h
  ·cases h
  ·cases h; exact ⟨rfl,by assumption⟩
 ·cases h
theorem ZaU {α:Type} [DecidableEq α] {nx:α→List (Nat × α)} {k:Nat} {x:List (α × List Nat)} (h:Done nx k [] x):x = []:=by
 generalize hq:([]:List (α × List Nat)) = q at h
 cases h with
 | stop _=>rfl
 | step e _=>rw [← hq] at e; simp at e
theorem Z9w {S:List Nat} {T:List Rw} (ok:TbOk S T) (a b:Nat) {qf:Qu} (hd:Done (nxL S T) 0 [([some a,some b],[])] qf):∃ qr,Done (nxA S T) 0 [((some a,some b),[])] qr∧qr.length ≤ qf.length∧hit (wA T) qr = hit (w2 T) qf:=by
 have good:∀ s p,pr2 s = some p→npr pr2 (nxL S T s) = nxA S T p:=fun s p h=>by
  obtain ⟨rfl,hne⟩:=Z7v h
  have e:nxL S T (pL p) = S.zipIdx.map fun x=>(x.1,pL (stA S T x.2 p)):=rfl
  rw [e]
  unfold npr nxA nxAF
  rw [List.filterMap_map]
  congr 1
  funext x
  show (pr2 (pL (stA S T x.2 p))).map _ = _
  by_cases h2:(stA S T x.2 p).1 = (stA S T x.2 p).2
  ·rw [if_pos h2]
   have:pr2 (pL (stA S T x.2 p)) = none:=if_pos h2
   rw [this]; rfl
  ·rw [if_neg h2]
   have:pr2 (pL (stA S T x.2 p)) = some (stA S T x.2 p):=if_neg h2
   rw [this]; rfl
 have bad:∀ s,pr2 s = none→npr pr2 (nxL S T s) = []:=fun s h=>by
  refine List.filterMap_eq_nil_iff.mpr fun p hp=>?_
  obtain ⟨j,e⟩:=Z3V hp
  rw [e]
  match s,h with
  | [],_=>rfl
  | [_],_=>rfl
  | [x,y],h=>
   have hxy:x = y:=by
    by_cases hxy:x = y
    ·exact hxy
    ·have:pr2 [x,y] = some (x,y):=if_neg hxy
     rw [this] at h; cases h
   subst hxy
   have:pr2 (stp S T j [x,x]) = none:=if_pos rfl
   rw [this]; rfl
  | _ :: _ :: _ :: _,_=>rfl
 have hp:=hd.pr (pr:=pr2) (nx':=nxA S T) (fun u v p h1 h2=>(Z7v h1).1.trans (Z7v h2).1.symm) good bad
 have hw1:∀ s,w2 T s = true→(pr2 s).isSome = true:=fun s h=>by
  unfold w2 at h
  split at h
  ·rename_i x y
   have:x ≠ y:=fun e=>of_decide_eq_true h (by rw [e])
   have:pr2 [x,y] = some (x,y):=if_neg this
   rw [this]; rfl
  ·cases h
 have hh:=Z9c (τ:=Nat) (pr:=pr2) (w:=w2 T) (w':=wA T) hw1 (fun s p h=>by obtain ⟨rfl,_⟩:=Z7v h; rfl) qf
 by_cases he:a = b
 ·subst he
  have e0:qpr (τ:=Nat) pr2 [([some a,some a],[])] = []:=by
   unfold qpr
   rw [List.filterMap_cons]
   have:pr2 [some a,some a] = none:=if_pos rfl
   rw [this]; rfl
  rw [e0] at hp
  rw [ZaU hp] at hh
  have en:nxA S T (some a,some a) = []:=List.filterMap_eq_nil_iff.mpr fun x _=>if_pos rfl
  refine ⟨[((some a,some a),[])],.step (e:=((some a,some a),[])) rfl (by unfold expQ; rw [en]; exact .stop rfl),hd.len,hh ▸ ?_⟩
  refine Z7i fun x hx=>?_
  rw [List.mem_singleton.mp hx]
  exact decide_eq_false (fun h=>h rfl)
 ·have e0:qpr (τ:=Nat) pr2 [([some a,some b],[])] = [((some a,some b),[])]:=by
   unfold qpr
   rw [List.filterMap_cons]
   have:pr2 [some a,some b] = some (some a,some b):=if_neg fun h=>he (Option.some.inj h)
   rw [this]; rfl
  rw [e0] at hp
  exact ⟨_,hp,List.length_filterMap_le ..,hh⟩
theorem Z5M:defs.find? (fun d=>d.name == Str.ofString "_law_cell_at") = some Z2v:=by kernel_rfl
theorem Z9x:defs.find? (fun d=>d.name == Str.ofString "_law_sign_by") = some Z2w:=by kernel_rfl
theorem Z9y:defs.find? (fun d=>d.name == Str.ofString "_law_letters") = some Z1y:=by kernel_rfl
theorem f_go:defs.find? (fun d=>d.name == Str.ofString "_law_go") = some Zcq:=by kernel_rfl
theorem Z9z:defs.find? (fun d=>d.name == Str.ofString "_law_told_at") = some Z2x:=by kernel_rfl
theorem Z9A:defs.find? (fun d=>d.name == Str.ofString "told_in") = some Z3H:=by kernel_rfl
theorem Z9B:defs.find? (fun d=>d.name == Str.ofString "ways_in") = some Z3J:=by kernel_rfl
theorem Z5N:defs.find? (fun d=>d.name == Str.ofString "_law_first_text") = some Z1h:=by kernel_rfl
theorem Z7Z:defs.find? (fun d=>d.name == Str.ofString "_law_table_by") = some Z1Q:=by kernel_rfl
theorem Z5O:defs.find? (fun d=>d.name == Str.ofString "_law_text_is") = some Z2y:=by kernel_rfl
theorem Zbq:xdefs.find? (fun d=>d.name == Str.ofString "need_row") = some Z1x:=by kernel_rfl
theorem Z6y:xdefs.find? (fun d=>d.name == Str.ofString "reach") = some Z2u:=by kernel_rfl
theorem Z6z:xdefs.find? (fun d=>d.name == Str.ofString "apart") = some Z3K:=by kernel_rfl
theorem Z5P:xdefs.find? (fun d=>d.name == Str.ofString "_law_reached") = some Z0M:=by kernel_rfl
theorem Z7w:xdefs.find? (fun d=>d.name == Str.ofString "_law_apart") = some Z1z:=by kernel_rfl
theorem Z0w {K n:Nat} {f:Str} {d:Def} (h:defs.find? (fun d=>d.name == f) = some d) (args:List V) (σ:List O):Z05 defs K (n + 1) f args σ = Z0m (Z05 defs K n) K d args σ:=by
 rw [Z6E,h]; rfl
theorem Z0p {K n:Nat} {f:Str} {d:XDef} (h:xdefs.find? (fun d=>d.name == f) = some d) (args:List V) (σ:List O):Z0t xdefs defs K (n + 1) f args σ = runX (Z05 defs K n) (Z0t xdefs defs K n) noL K d args σ:=by
 show (R.need (xdefs.find? fun d=>d.name == f) fun d=>runX (Z05 defs K n) (Z0t xdefs defs K n) noL K d args σ) = _
 rw [h]; rfl
section
variable {F G:Fn} {L:Lf} {K:Nat} {st st' st₂:St}
theorem Z9C {i:Nat} {f:Str} {es:Exs} {xs:List V} {v:V} (h:evEs F es st = .ok xs st') (hg:G f xs st'.σ = .ok v st₂):evX F G L K (.try1 i f es) st = .ok .next (setV ⟨st'.ρ,st₂.σ⟩ i v)∧evX F G L K (.try2 i f es) st = .ok .next (setV ⟨st'.ρ,st₂.σ⟩ i v):=by
 have:((evEs F es st).cut.bind fun xs st=>Z0q (G f xs st.σ) st.ρ) = .ok v ⟨st'.ρ,st₂.σ⟩:=by
  rw [h]
  show Z0q (G f xs st'.σ) st'.ρ = _
  rw [hg]; rfl
 constructor
 ·show tryR _ i = _; rw [this]; rfl
 ·show tryR _ i = _; rw [this]; rfl
theorem Z7x {i:Nat} {f:Str} {es:Exs} {xs:List V} {y:Str} (h:evEs F es st = .ok xs st') (hg:G f xs st'.σ = .exc y st₂):evX F G L K (.try1 i f es) st = .ok (.ret Z5C) ⟨[],st₂.σ⟩∧evX F G L K (.try2 i f es) st = .ok (.ret Z5C) ⟨[],st₂.σ⟩:=by
 have:((evEs F es st).cut.bind fun xs st=>Z0q (G f xs st.σ) st.ρ) = .exc y ⟨st'.ρ,st₂.σ⟩:=by
  rw [h]
  show Z0q (G f xs st'.σ) st'.ρ = _
  rw [hg]; rfl
 constructor
 ·show tryR _ i = _; rw [this]; rfl
 ·show tryR _ i = _; rw [this]; rfl
theorem ZcL {is:List Nat} {f:Str} {es:Exs} {xs:List V} {v:V} {st₃:St} (h:evEs F es st = .ok xs st') (hg:G f xs st'.σ = .ok v st₂) (ha:asT is v ⟨st'.ρ,st₂.σ⟩ = .ok () st₃):evX F G L K (.asgT is f es) st = .ok .next st₃:=by
 show ((evEs F es st).cut.bind fun xs st=>Z0q (G f xs st.σ) st.ρ).bind _ = _
 have:((evEs F es st).cut.bind fun xs st=>Z0q (G f xs st.σ) st.ρ) = .ok v ⟨st'.ρ,st₂.σ⟩:=by
  rw [h]
  show Z0q (G f xs st'.σ) st'.ρ = _
  rw [hg]; rfl
 rw [this,R.bind_ok,ha]; rfl
theorem Zdx {i:Nat} {f:Str} {a b lam:Ex} {caps:List Nat} {pl:Nat × Nat} {x y r:V} {cs:List V} {us:List (Nat × Nat)} {ρ:List (Option V)} {τ:List O} (ha:evE F a ⟨ρ,.tab us :: τ⟩ = .ok x ⟨ρ,.tab us :: τ⟩) (hb:evE F b ⟨ρ,.tab us :: τ⟩ = .ok y ⟨ρ,.tab us :: τ⟩) (hc:capV ρ caps = some cs) (hp:pl ∉ us) (h1:V.los 1 [x,y] = true) (h2:V.los 0 cs = true) (hf:r.flat = true) (hL:L f [x,y] lam cs [.tab (pl :: us)] = .ok r ⟨[],[.tab (pl :: us)]⟩) :
  evX F G L K (.asgL i f a b lam caps pl) ⟨ρ,.tab us :: τ⟩ = .ok .next ⟨ρ.set i (some r),.tab (pl :: us) :: τ⟩:=by
 show (((evE F a ⟨ρ,.tab us :: τ⟩).bind fun x st=>(evE F b st).bind fun y st=>R.need (capV st.ρ caps) fun cs=>Z7N L i f [x,y] lam cs pl st)).cut = _
 rw [ha,R.bind_ok,hb,R.bind_ok,hc]
 show (Z7N L i f [x,y] lam cs pl ⟨ρ,.tab us :: τ⟩).cut = _
 unfold Z7N
 show (if pl ∈ us then R.stuck else if (V.los 1 [x,y] && V.los 0 cs) = true then _ else _).cut = _
 rw [if_neg hp,h1,h2]
 show (match L f [x,y] lam cs [.tab (pl :: us)] with | .ok r ⟨_,[.tab us']⟩=>_ | _=>_:R Fl).cut = _
 rw [hL]
 show (if r.flat = true then _ else _:R Fl).cut = _
 rw [if_pos hf]; rfl
end
section
variable (F G:Fn) (L:Lf) (K:Nat) {S:List Nat} {T:List Rw} (σ:List O) (hσ:Cl σ)
include hσ
theorem Z80 (i:Int) {v:V} (hv:v.lo σ.length = true) (h:G "reach" [tbV S T,.int i] σ = .ok v ⟨[],σ⟩):runX F G L K Z0M [tbV S T,.int i] σ = .ok (.tup [.bool false,v]) ⟨[],σ⟩:=by
 refine Z2B (d:=Z0M) (τ:=[]) (ρ:=[some (tbV S T),some (.int i),some v]) rfl ?_ (by rw [Z0s,Z01,Z01,Z09,Z0z,hv]; rfl) hσ
 rw [List.append_nil]
 exact (Z2g (Z9C (xs:=[tbV S T,.int i]) (st':=⟨[some (tbV S T),some (.int i),none],σ⟩) rfl h).1).trans (Z1S (at1 fun z=>z rfl))
theorem Z3W (i:Int) {y:Str} (h:G "reach" [tbV S T,.int i] σ = .exc y ⟨[],σ⟩):runX F G L K Z0M [tbV S T,.int i] σ = .ok (.tup [.bool true,.none]) ⟨[],σ⟩:=by
 refine Z2B (d:=Z0M) (τ:=[]) (ρ:=[]) rfl ?_ (by rw [Z0s,Z01,Z01,Z09,Z0z,Z0y]; rfl) hσ
 rw [List.append_nil]
 exact xret (Z7x (xs:=[tbV S T,.int i]) (st':=⟨[some (tbV S T),some (.int i),none],σ⟩) rfl h).1
theorem Z9D (i j:Int) {v:V} (hv:v.lo σ.length = true) (h:G "apart" [tbV S T,.int i,.int j] σ = .ok v ⟨[],σ⟩):runX F G L K Z1z [tbV S T,.int i,.int j] σ = .ok (.tup [.bool false,v]) ⟨[],σ⟩:=by
 refine Z2B (d:=Z1z) (τ:=[]) (ρ:=[some (tbV S T),some (.int i),some (.int j),some v]) rfl ?_ (by rw [Z0s,Z01,Z01,Z09,Z0z,hv]; rfl) hσ
 rw [List.append_nil]
 exact (Z2g (Z9C (xs:=[tbV S T,.int i,.int j]) (st':=⟨[some (tbV S T),some (.int i),some (.int j),none],σ⟩) rfl h).2).trans (Z1S (at1 fun z=>z rfl))
theorem Z4r (i j:Int) {y:Str} (h:G "apart" [tbV S T,.int i,.int j] σ = .exc y ⟨[],σ⟩):runX F G L K Z1z [tbV S T,.int i,.int j] σ = .ok (.tup [.bool true,.none]) ⟨[],σ⟩:=by
 refine Z2B (d:=Z1z) (τ:=[]) (ρ:=[]) rfl ?_ (by rw [Z0s,Z01,Z01,Z09,Z0z,Z0y]; rfl) hσ
 rw [List.append_nil]
 exact xret (Z7x (xs:=[tbV S T,.int i,.int j]) (st':=⟨[some (tbV S T),some (.int i),some (.int j),none],σ⟩) rfl h).2
end
theorem Z3X (F:Fn) (K:Nat) (o:Option (List Nat)) (σ:List O) (hσ:Cl σ):Z0m F K Z2y [txV o,txV o] σ = .ok (.bool true) ⟨[],σ⟩:=by
 refine Z1E (r:=.bool true) rfl ?_ (Z0z _) hσ
 cases o with
 | none=>exact Ret.mk0 (atS fun z=>z rfl rfl)
 | some t=>
  have hs:Z9K σ .str (.str t) = some true:=rfl
  exact Ret.mk0 (atS fun z=>z rfl hs rfl (congrArg V.bool (beq_self_eq_true t)))
theorem Zbr:∀ ws:List (Option Nat),V.depths? (ws.map wV) = some 0
 | []=>rfl
 | w :: ws=>by
  rw [List.map_cons,Z0K,Zbr ws]
  cases w <;> rfl
theorem Z7y:∀ T:List Rw,∃ d,d ≤ 2∧V.depths? (T.map rowV) = some d
 | []=>⟨0,by omega,rfl⟩
 | r :: T=>by
  obtain ⟨d,hd,e⟩:=Z7y T
  refine ⟨max 2 d,by omega,?_⟩
  rw [List.map_cons,Z0K,e]
  have:(rowV r).depth? = some 2:=by
   unfold rowV
   rw [Z6H,Z0K,Z0K,Z5g,Z6I,Zbr]
   cases r.1 <;> rfl
  rw [this]; rfl
theorem Zdy (σ:List O) (S:List Nat) (T:List Rw):Z0n σ .eq (tbV S T) (tbV S T) = some true:=by
 obtain ⟨d,hd,e⟩:=Z7y T
 have hf:(tbV S T).flat64 = true:=by
  unfold V.flat64 tbV
  rw [Z6H,Z0K,Z0K,Z5g,Z9T,Z6I,e]
  exact decide_eq_true (show max 0 (max (d + 1) 0) + 1 ≤ 64 by omega)
 rw [Zdz _ _ _ hf hf,V.eqb_refl _ (Z5K _ _ _)]
theorem Z1u (us:List (Nat × Nat)):Cl [.tab us]:=rfl
section
variable {K n:Nat} {S:List Nat} {T:List Rw} (ok:TbOk S T)
include ok
theorem Z9E {lam:Ex} {cs:List V} {us:List (Nat × Nat)} (N:Nat) (hN:N ≤ 10) (w:Ss→Bool) (hw:∀ (s:Ss) (τ:List O),RowS T s→s.length = N→Cl τ→evE (capF (Z05 defs K n) cs) lam ⟨[some (stV s)],τ⟩ = .ok (.bool (w s)) ⟨[some (stV s)],τ⟩)
  (s:Ss) (hs:RowS T s) (h1:s.length = N) {qf:Qu} (hd:Done (nxL S T) 0 [(s,[])] qf) (hl:qf.length < 5000) (hK:5000 < K) (hn:1 ≤ n) :
  Z1M defs K (n + 2) "_law_first_text" [tbV S T,stV s] lam cs [.tab us] = .ok (txV (hit w qf)) ⟨[],[.tab us]⟩:=by
 show (R.need (defs.find? fun d=>d.name == Str.ofString "_law_first_text") fun d=>allR fun a=>Z0m (rawF (Z05 defs K (n + 1)) (Z05 defs K n) a lam cs) K d ([tbV S T,stV s]++[.raw a]) [.tab us]) = _
 rw [Z5N]
 refine Zcb fun a=>?_
 refine Z44 _ K ok (fun r j hj τ hr hτ=>?_) [.tab us] (Z1u us) N hN a w (fun s τ hs h hτ=>?_) s hs h1 hd (by omega) (by omega)
 ·unfold rawF
  rw [if_neg (by decide),Z0w f_go]
  exact Zdr _ K ok r hr hj τ hτ
 ·unfold rawF
  rw [if_pos rfl]
  show (if a = a then _ else _) = _
  rw [if_pos rfl,hw s τ hs h hτ]; rfl
theorem ZaV (F:Fn) (one:Nat) (s:Ss) (τ:List O) (h:s.length = 1):evE (capF F [.int (one:Int)]) Z1t ⟨[some (stV s)],τ⟩ = .ok (.bool (w1 one s)) ⟨[some (stV s)],τ⟩:=by
 obtain ⟨r,rfl⟩:=List.length_eq_one_iff.mp h
 have hc:capF F [.int (one:Int)] Z1a [.int 0] τ = .ok (.int (one:Int)) ⟨[],τ⟩:=Z4V (k:=0) rfl
 have hs:Z0b τ (stV [r]) (.int 0) = some (wV r):=rfl
 cases r with
 | none=>exact atE fun z=>z hs hc rfl
 | some k=>
  have e:((k:Int) == (one:Int)) = decide (k = one):=by
   by_cases h:k = one
   ·subst h; simp
   ·rw [decide_eq_false h,beq_eq_false_iff_ne]; omega
  have q:evE (capF F [.int (one:Int)]) Z1t ⟨[some (stV [some k])],τ⟩ = .ok (.bool ((k:Int) == (one:Int))) ⟨[some (stV [some k])],τ⟩:=atE fun z=>z hs hc
  rw [q,e]; rfl
theorem ZaW (s:Ss) (hs:RowS T s) (τ:List O) (hτ:Cl τ) (h:s.length = 2):evE (capF (Z05 defs K (n + 1)) [tbV S T]) Z2c ⟨[some (stV s)],τ⟩ = .ok (.bool (w2 T s)) ⟨[some (stV s)],τ⟩:=by
 obtain ⟨x,y,rfl⟩:∃ x y,s = [x,y]:=by
  match s,h with
  | [x,y],_=>exact ⟨x,y,rfl⟩
 have hc:capF (Z05 defs K (n + 1)) [tbV S T] Z1a [.int 0] τ = .ok (tbV S T) ⟨[],τ⟩:=Z4V (k:=0) rfl
 have ht:∀ r,Row T r→capF (Z05 defs K (n + 1)) [tbV S T] "_law_told_at" [tbV S T,wV r] τ = .ok (oV (Z2e T r)) ⟨[],τ⟩:=fun r hr=>by
  unfold capF
  rw [if_neg (by decide),Z0w Z9z]
  exact Z6q _ K ok r hr τ hτ
 have f1:evE (capF (Z05 defs K (n + 1)) [tbV S T]) (.call "_law_told_at" (.cons (.cap 0) (.cons (.sub (.loc 0) (.int 0)) .nil))) ⟨[some (stV [x,y])],τ⟩ = .ok (oV (Z2e T x)) ⟨[some (stV [x,y])],τ⟩:=atE fun z=>z hc rfl (ht x (hs x (by simp)))
 have f2:evE (capF (Z05 defs K (n + 1)) [tbV S T]) (.call "_law_told_at" (.cons (.cap 0) (.cons (.sub (.loc 0) (.int 1)) .nil))) ⟨[some (stV [x,y])],τ⟩ = .ok (oV (Z2e T y)) ⟨[some (stV [x,y])],τ⟩:=atE fun z=>z hc rfl (ht y (hs y (by simp)))
 exact ne_e f1 f2
theorem Z1U (σ:List O) (hσ:Cl σ) (i:Int) (h0:0 ≤ i) (h1:i < T.length):Z0t xdefs defs K (n + 1) "need_row" [tbV S T,.int i] σ = .ok .none ⟨[],σ⟩:=by
 rw [Z0p Zbq]; exact Z9n _ _ _ K ok σ hσ i h0 h1
theorem Z2C (σ:List O) (hσ:Cl σ) (i:Int) (h:¬ (0 ≤ i∧i < T.length)):∃ y,Z0t xdefs defs K (n + 1) "need_row" [tbV S T,.int i] σ = .exc y ⟨[],σ⟩:=by
 rw [Z0p Zbq]; exact ZaR _ _ _ K ok σ hσ i h
theorem Z56 (σ:List O) (hσ:Cl σ) (i:Int) (h:¬ (0 ≤ i∧i < T.length)):Z0t xdefs defs K (n + 3) "_law_reached" [tbV S T,.int i] σ = .ok (.tup [.bool true,.none]) ⟨[],σ⟩:=by
 obtain ⟨y,hy⟩:=Z2C (K:=K) (n:=n) ok σ hσ i h
 rw [Z0p Z5P]
 exact Z3W _ _ _ K σ hσ i (y:=y) (by rw [Z0p Z6y]; exact Z9q _ _ _ K ok σ hσ i hy)
theorem Z9F (σ:List O) (hσ:Cl σ) (a:Nat) (ha:a < T.length) {qf:Qu} (hd:Done (nxL S T) 0 [([some 0],[])] qf) (hl:qf.length < 5000) (hK:5000 < K) :
  Z0t xdefs defs K (n + 3) "_law_reached" [tbV S T,.int (a:Int)] σ = .ok (.tup [.bool (hit (w1 a) qf).isNone,txV (hit (w1 a) qf)]) ⟨[],σ⟩:=by
 obtain ⟨qr,h1,h2,h3⟩:=Z9v ok a hd
 have h:=Z9p (Z05 defs K (n + 1)) (Z0t xdefs defs K (n + 1)) noL K ok σ hσ a (Z1U ok σ hσ a (by omega) (by omega)) h1 (by omega) (by omega)
 rw [h3] at h
 rw [Z0p Z5P]
 cases hh:hit (w1 a) qf with
 | none=>
  rw [hh] at h
  obtain ⟨y,h⟩:=h
  exact Z3W _ _ _ K σ hσ (a:Int) (y:=y) (by rw [Z0p Z6y]; exact h)
 | some t=>
  rw [hh] at h
  exact Z80 _ _ _ K σ hσ (a:Int) (v:=.str t) (Z0j _) (by rw [Z0p Z6y]; exact h)
theorem Z9G (σ:List O):ZcJ (Z05 defs K (n + 1)) S T:=fun r τ hr hτ=>by rw [Z0w Z9B]; exact Z6r _ K ok r hr τ hτ
theorem Z9H (σ:List O):Zdw (Z05 defs K (n + 1)) S T:=fun r τ hr hτ=>by rw [Z0w Z9A]; exact Z6p _ K ok r hr τ hτ
theorem Z6A (σ:List O) (hσ:Cl σ) (i j:Int) (h:¬ ((0 ≤ i∧i < T.length)∧(0 ≤ j∧j < T.length))):Z0t xdefs defs K (n + 3) "_law_apart" [tbV S T,.int i,.int j] σ = .ok (.tup [.bool true,.none]) ⟨[],σ⟩:=by
 rw [Z0p Z7w]
 by_cases hi:0 ≤ i∧i < T.length
 ·obtain ⟨y,hy⟩:=Z2C (K:=K) (n:=n) ok σ hσ j fun hj=>h ⟨hi,hj⟩
  exact Z4r _ _ _ K σ hσ i j (y:=y) (by rw [Z0p Z6z]; exact Z5L _ K ok (Z9G ok σ) (Z9H ok σ) σ hσ _ _ i j (.inr ⟨Z1U ok σ hσ i hi.1 hi.2,hy⟩))
 ·obtain ⟨y,hy⟩:=Z2C (K:=K) (n:=n) ok σ hσ i hi
  exact Z4r _ _ _ K σ hσ i j (y:=y) (by rw [Z0p Z6z]; exact Z5L _ K ok (Z9G ok σ) (Z9H ok σ) σ hσ _ _ i j (.inl hy))
theorem ZcM (σ:List O) (hσ:Cl σ) (a b:Nat) (ha:a < T.length) (hb:b < T.length) {qf:Qu} (hd:Done (nxL S T) 0 [([some a,some b],[])] qf) (hl:qf.length < 5000) (hK:5000 < K) :
  Z0t xdefs defs K (n + 3) "_law_apart" [tbV S T,.int (a:Int),.int (b:Int)] σ = .ok (.tup [.bool false,txV (hit (w2 T) qf)]) ⟨[],σ⟩:=by
 obtain ⟨qr,h1,h2,h3⟩:=Z9w ok a b hd
 have h:=Z9t (Z05 defs K (n + 1)) K ok (Z9G ok σ) (Z9H ok σ) σ hσ (Z0t xdefs defs K (n + 1)) noL a b ha hb (fun i hi=>Z1U ok σ hσ i (by omega) (by omega)) h1 (by omega) (by omega)
 rw [h3] at h
 rw [Z0p Z7w]
 exact Z9D _ _ _ K σ hσ (a:Int) (b:Int) (Z9l _ _) (by rw [Z0p Z6z]; exact h)
end
noncomputable def S11l (a0 a1 a2 a3 a4 a5 a6 a7 a8 a9 a10:Option V) (σ:List O):St:=⟨[a0,a1,a2,a3,a4,a5,a6,a7,a8,a9,a10],σ⟩
noncomputable def chkC:Ex:=.bor (.cmp .ne (.loc 7) (.cmp .is (.loc 10) .none)) (.band (.cmp .isnot (.loc 10) .none) (.not (.call "_law_text_is" (.cons (.loc 8) (.cons (.loc 10) .nil)))))
noncomputable def Xms.tl:Xms→Xms
 | .cons _ s=>s
 | .nil=>.nil
section
variable {S:List Nat} {T:List Rw} (ok:TbOk S T) (is:List Int)
include ok
theorem Z9I (σ:List O) (hσ:Cl σ) (x0 x1 x2 x3 x4 x5 x6 x9:Option V) (o:Option (List Nat)):Z03 (evE (Z05 defs 6000 10) chkC (S11l x0 x1 x2 x3 x4 x5 x6 (some (.bool o.isNone)) (some (txV o)) x9 (some (txV o)) σ)) = .ok false (S11l x0 x1 x2 x3 x4 x5 x6 (some (.bool o.isNone)) (some (txV o)) x9 (some (txV o)) σ):=by
 have ht:Z05 defs 6000 10 "_law_text_is" [txV o,txV o] σ = .ok (.bool true) ⟨[],σ⟩:=by rw [Z0w Z5O]; exact Z3X _ _ o σ hσ
 cases o with
 | none=>exact atQ fun z=>z rfl rfl rfl
 | some t=>exact atQ fun z=>z rfl rfl rfl ht
theorem ZcN (us:List (Nat × Nat)) (x0 x1:Option V) (one other:Int) (g:Bool) (hg:g = decide (0 ≤ one∧one < T.length)) (hpl:(163,66) ∉ us) (x7 x8 x10:Option V) :
  ∃ st us',evXs (Z05 defs 6000 10) (Z0t xdefs defs 6000 10) (Z1M defs 6000 10) 6000 d_lawB.tl.tl.tl.tl.tl.tl.tl.tl.tl.tl.tl.tl (S11l x0 x1 (some (tbV S T)) (some (tbV S T)) (some (.int T.length)) (some (.int one)) (some (.int other)) x7 x8 (some (.bool g)) x10 [.tab us]) = .ok (.ret (.bool true)) st∧st.σ = [.tab us']:=by
 have he:=Zdy [.tab us] S T
 by_cases hgood:(0 ≤ one∧one < T.length)∧(0 ≤ other∧other < T.length)
 ·obtain ⟨⟨o1,o2⟩,o3,o4⟩:=hgood
  obtain ⟨a,rfl⟩:=Int.eq_ofNat_of_zero_le o1
  obtain ⟨b,rfl⟩:=Int.eq_ofNat_of_zero_le o3
  have ha:a < T.length:=by omega
  have hb:b < T.length:=by omega
  rw [decide_eq_true ⟨o1,o2⟩] at hg
  subst hg
  obtain ⟨qf,hd,hl⟩:=ZdL ok (some a) (some b) (fun k e=>by cases e; exact ha) (fun k e=>by cases e; exact hb)
  have hG:=ZcM (K:=6000) (n:=7) ok [.tab us] (Z1u us) a b ha hb hd hl (by omega)
  have hL:=Z9E (K:=6000) (n:=8) ok (lam:=Z2c) (cs:=[tbV S T]) (us:=(163,66) :: us) 2 (by omega) (w2 T) (fun s τ hs h hτ=>ZaW (n:=7) ok s hs τ hτ h) [some a,some b] (fun r hr=>by
   rcases List.mem_cons.mp hr with rfl | hr
   ·intro k e; cases e; exact ha
   ·rw [List.mem_singleton.mp hr]; intro k e; cases e; exact hb) rfl hd hl (by omega) (by omega)
  generalize hit (w2 T) qf = o at hG hL
  have s1:evX (Z05 defs 6000 10) (Z0t xdefs defs 6000 10) (Z1M defs 6000 10) 6000 (.asgT [7,8] "_law_apart" (.cons (.loc 2) (.cons (.loc 5) (.cons (.loc 6) .nil)))) (S11l x0 x1 (some (tbV S T)) (some (tbV S T)) (some (.int T.length)) (some (.int a)) (some (.int b)) x7 x8 (some (.bool true)) x10 [.tab us]) = .ok .next (S11l x0 x1 (some (tbV S T)) (some (tbV S T)) (some (.int T.length)) (some (.int a)) (some (.int b)) (some (.bool false)) (some (txV o)) (some (.bool true)) x10 [.tab us]) :=
   ZcL (xs:=[tbV S T,.int a,.int b]) (st':=S11l x0 x1 (some (tbV S T)) (some (tbV S T)) (some (.int T.length)) (some (.int a)) (some (.int b)) x7 x8 (some (.bool true)) x10 [.tab us]) rfl hG rfl
  have s2:evS (Z05 defs 6000 10) 6000 (.ifte (.bor (.not (.loc 9)) (.bor (.cmp .lt (.loc 6) (.int 0)) (.cmp .ge (.loc 6) (.loc 4)))) (.cons (.ret (.band (.loc 7) (.cmp .eq (.loc 2) (.loc 3)))) .nil) .nil) (S11l x0 x1 (some (tbV S T)) (some (tbV S T)) (some (.int T.length)) (some (.int a)) (some (.int b)) (some (.bool false)) (some (txV o)) (some (.bool true)) x10 [.tab us]) = .ok .next (S11l x0 x1 (some (tbV S T)) (some (tbV S T)) (some (.int T.length)) (some (.int a)) (some (.int b)) (some (.bool false)) (some (txV o)) (some (.bool true)) x10 [.tab us]) :=
   at1 fun z=>z rfl (decide_eq_false (by omega)) (decide_eq_false (by omega))
  have s3:evX (Z05 defs 6000 10) (Z0t xdefs defs 6000 10) (Z1M defs 6000 10) 6000 (.asgL 10 "_law_first_text" (.loc 3) (.tup (.cons (.loc 5) (.cons (.loc 6) .nil))) Z2c [3] (163,66)) (S11l x0 x1 (some (tbV S T)) (some (tbV S T)) (some (.int T.length)) (some (.int a)) (some (.int b)) (some (.bool false)) (some (txV o)) (some (.bool true)) x10 [.tab us]) = .ok .next (S11l x0 x1 (some (tbV S T)) (some (tbV S T)) (some (.int T.length)) (some (.int a)) (some (.int b)) (some (.bool false)) (some (txV o)) (some (.bool true)) (some (txV o)) [.tab ((163,66) :: us)]) :=
   Zdx (x:=tbV S T) (y:=stV [some a,some b]) (cs:=[tbV S T]) rfl (atE fun z=>z) rfl hpl (by rw [Z01,Z01,Z09,Z5K,Z4p]; rfl) (by rw [Z01,Z09,Z5K]; rfl) (by cases o <;> rfl) hL
  have ht:Z05 defs 6000 10 "_law_text_is" [txV o,txV o] [.tab ((163,66) :: us)] = .ok (.bool true) ⟨[],[.tab ((163,66) :: us)]⟩:=by rw [Z0w Z5O]; exact Z3X _ _ o _ (Z1u _)
  have s4:evS (Z05 defs 6000 10) 6000 (.ret (.band (.not (.loc 7)) (.band (.call "_law_text_is" (.cons (.loc 8) (.cons (.loc 10) .nil))) (.cmp .eq (.loc 2) (.loc 3))))) (S11l x0 x1 (some (tbV S T)) (some (tbV S T)) (some (.int T.length)) (some (.int a)) (some (.int b)) (some (.bool false)) (some (txV o)) (some (.bool true)) (some (txV o)) [.tab ((163,66) :: us)]) = .ok (.ret (.bool true)) (S11l x0 x1 (some (tbV S T)) (some (tbV S T)) (some (.int T.length)) (some (.int a)) (some (.int b)) (some (.bool false)) (some (txV o)) (some (.bool true)) (some (txV o)) [.tab ((163,66) :: us)]) :=
   at1 fun z=>z rfl ht rfl (Zdy _ S T) rfl
  exact ⟨_,_,(Z2g s1).trans ((Z0a s2).trans ((Z2g s3).trans (Z1S s4))),rfl⟩
 ·have hG:=Z6A (K:=6000) (n:=7) ok [.tab us] (Z1u us) one other hgood
  have s1:evX (Z05 defs 6000 10) (Z0t xdefs defs 6000 10) (Z1M defs 6000 10) 6000 (.asgT [7,8] "_law_apart" (.cons (.loc 2) (.cons (.loc 5) (.cons (.loc 6) .nil)))) (S11l x0 x1 (some (tbV S T)) (some (tbV S T)) (some (.int T.length)) (some (.int one)) (some (.int other)) x7 x8 (some (.bool g)) x10 [.tab us]) = .ok .next (S11l x0 x1 (some (tbV S T)) (some (tbV S T)) (some (.int T.length)) (some (.int one)) (some (.int other)) (some (.bool true)) (some .none) (some (.bool g)) x10 [.tab us]) :=
   ZcL (xs:=[tbV S T,.int one,.int other]) (st':=S11l x0 x1 (some (tbV S T)) (some (tbV S T)) (some (.int T.length)) (some (.int one)) (some (.int other)) x7 x8 (some (.bool g)) x10 [.tab us]) rfl hG rfl
  have s2:evS (Z05 defs 6000 10) 6000 (.ifte (.bor (.not (.loc 9)) (.bor (.cmp .lt (.loc 6) (.int 0)) (.cmp .ge (.loc 6) (.loc 4)))) (.cons (.ret (.band (.loc 7) (.cmp .eq (.loc 2) (.loc 3)))) .nil) .nil) (S11l x0 x1 (some (tbV S T)) (some (tbV S T)) (some (.int T.length)) (some (.int one)) (some (.int other)) (some (.bool true)) (some .none) (some (.bool g)) x10 [.tab us]) = .ok (.ret (.bool true)) (S11l x0 x1 (some (tbV S T)) (some (tbV S T)) (some (.int T.length)) (some (.int one)) (some (.int other)) (some (.bool true)) (some .none) (some (.bool g)) x10 [.tab us]):=by
   cases g with
   | false=>exact at1 fun z=>z rfl rfl rfl he rfl
   | true=>
    have h1:0 ≤ one∧one < T.length:=of_decide_eq_true hg.symm
    by_cases h2:other < 0
    ·exact at1 fun z=>z rfl (decide_eq_true h2) rfl rfl he rfl
    ·have h3:other ≥ T.length:=by
      by_cases h3:other < T.length
      ·exact absurd ⟨h1,by omega,h3⟩ hgood
      ·omega
     exact at1 fun z=>z rfl (decide_eq_false h2) (decide_eq_true h3) rfl he rfl
  exact ⟨_,_,(Z2g s1).trans (Z1S s2),rfl⟩
omit ok in
theorem Z9J:∃ S T,TbOk S T∧∃ (x1:Option V) (one other:Int),evXs (Z05 defs 6000 10) (Z0t xdefs defs 6000 10) (Z1M defs 6000 10) 6000 d_lawB (S11l (some (scV is)) none none none none none none none none none none [.tab []]) =
  evXs (Z05 defs 6000 10) (Z0t xdefs defs 6000 10) (Z1M defs 6000 10) 6000 d_lawB.tl.tl.tl.tl.tl.tl.tl (S11l (some (scV is)) x1 (some (tbV S T)) (some (tbV S T)) (some (.int T.length)) (some (.int one)) (some (.int other)) none none none none [.tab []]):=by
 have c:∀ k,k < 100→Z05 defs 6000 10 "_law_cell_at" [scV is,.int (k:Nat)] [.tab []] = .ok (.int (is.getD k 0)) ⟨[],[.tab []]⟩:=fun k hk=>by rw [Z0w Z5M]; exact Z3O _ _ is k hk _ (Z1u _)
 have c9:∀ k,k < 100→Z05 defs 6000 9 "_law_cell_at" [scV is,.int (k:Nat)] [.tab []] = .ok (.int (is.getD k 0)) ⟨[],[.tab []]⟩:=fun k hk=>by rw [Z0w Z5M]; exact Z3O _ _ is k hk _ (Z1u _)
 obtain ⟨L,z,hL,hlet⟩:=Z6o (Z05 defs 6000 9) 6000 (Int.fmod (is.getD 0 0) 768)
 have hlet:=hlet [.tab []] (Z1u _) (fun i τ hτ=>by rw [Z0w Z9x]; exact Z6n _ _ i τ hτ)
 rw [← Z0w Z9y] at hlet
 obtain ⟨S,T,ok,ht⟩:=Z9k (Z05 defs 6000 9) 6000 is hL [.tab []] (Z1u _) c9
 rw [← Z0w Z7Z] at ht
 have g:Z0O [.tab []] .len (.lst (T.map rowV)) = some (.int T.length):=by rw [Z8c,List.length_map]
 have c0:=c 0 (by omega)
 have c5:=c 5 (by omega)
 have c6:=c 6 (by omega)
 have c7:=c 7 (by omega)
 have hz:((T.length:Int) + 2 == 0) = false:=nz (by omega)
 refine ⟨S,T,ok,some (.lst (Z0d L z)),?_⟩
 have s1:evS (Z05 defs 6000 10) 6000 (.asg 1 (.call "_law_letters" (.cons (.bin .mod (.call "_law_cell_at" (.cons (.loc 0) (.cons (.int 0) .nil))) (.int 768)) .nil))) (S11l (some (scV is)) none none none none none none none none none none [.tab []]) = .ok .next (S11l (some (scV is)) (some (.lst (Z0d L z))) none none none none none none none none none [.tab []]):=at1 fun q=>q c0 rfl hlet rfl
 have s2:evS (Z05 defs 6000 10) 6000 (.asg 2 (.call "_law_table_by" (.cons (.loc 0) (.cons (.loc 1) (.cons (.int 2) .nil))))) (S11l (some (scV is)) (some (.lst (Z0d L z))) none none none none none none none none none [.tab []]) = .ok .next (S11l (some (scV is)) (some (.lst (Z0d L z))) (some (tbV S T)) none none none none none none none none [.tab []]):=at1 fun q=>q ht rfl
 have s3:evS (Z05 defs 6000 10) 6000 (.asg 3 (.call "_law_table_by" (.cons (.loc 0) (.cons (.loc 1) (.cons (.int 2) .nil))))) (S11l (some (scV is)) (some (.lst (Z0d L z))) (some (tbV S T)) none none none none none none none none [.tab []]) = .ok .next (S11l (some (scV is)) (some (.lst (Z0d L z))) (some (tbV S T)) (some (tbV S T)) none none none none none none none [.tab []]):=at1 fun q=>q ht rfl
 have s4:evS (Z05 defs 6000 10) 6000 (.asg 4 (.bi .len (.sub (.loc 3) (.int 1)))) (S11l (some (scV is)) (some (.lst (Z0d L z))) (some (tbV S T)) (some (tbV S T)) none none none none none none none [.tab []]) = .ok .next (S11l (some (scV is)) (some (.lst (Z0d L z))) (some (tbV S T)) (some (tbV S T)) (some (.int T.length)) none none none none none none [.tab []]):=at1 fun q=>q (Z0E _ S T) g rfl
 obtain ⟨one,h1⟩:∃ one,Int.fmod (is.getD 5 0) ((T.length:Int) + 2) - 1 = one:=⟨_,rfl⟩
 obtain ⟨other,h2⟩:∃ other,Int.fmod (is.getD 6 0) ((T.length:Int) + 2) - 1 = other:=⟨_,rfl⟩
 have s5:evS (Z05 defs 6000 10) 6000 (.asg 5 (.bin .sub (.bin .mod (.call "_law_cell_at" (.cons (.loc 0) (.cons (.int 5) .nil))) (.bin .add (.loc 4) (.int 2))) (.int 1))) (S11l (some (scV is)) (some (.lst (Z0d L z))) (some (tbV S T)) (some (tbV S T)) (some (.int T.length)) none none none none none none [.tab []]) = .ok .next (S11l (some (scV is)) (some (.lst (Z0d L z))) (some (tbV S T)) (some (tbV S T)) (some (.int T.length)) (some (.int one)) none none none none none [.tab []]):=at1 fun q=>q c5 hz (congrArg V.int h1)
 have s6:evS (Z05 defs 6000 10) 6000 (.asg 6 (.bin .sub (.bin .mod (.call "_law_cell_at" (.cons (.loc 0) (.cons (.int 6) .nil))) (.bin .add (.loc 4) (.int 2))) (.int 1))) (S11l (some (scV is)) (some (.lst (Z0d L z))) (some (tbV S T)) (some (tbV S T)) (some (.int T.length)) (some (.int one)) none none none none none [.tab []]) = .ok .next (S11l (some (scV is)) (some (.lst (Z0d L z))) (some (tbV S T)) (some (tbV S T)) (some (.int T.length)) (some (.int one)) (some (.int other)) none none none none [.tab []]):=at1 fun q=>q c6 hz (congrArg V.int h2)
 have hp:Z1D .pow (.int 10) (.int 9) = some (.int (10 ^ 9)):=rfl
 obtain ⟨one',s7⟩:∃ one',evS (Z05 defs 6000 10) 6000 (.ifte (.cmp .eq (.bin .mod (.call "_law_cell_at" (.cons (.loc 0) (.cons (.int 7) .nil))) (.int 5)) (.int 1)) (.cons (.asg 5 (.sub (.list (.cons (.bin .add (.loc 5) (.bin .pow (.int 10) (.int 9))) (.cons (.bin .sub (.loc 5) (.bin .pow (.int 10) (.int 9))) .nil))) (.bin .mod (.bin .fdiv (.call "_law_cell_at" (.cons (.loc 0) (.cons (.int 7) .nil))) (.int 5)) (.int 2)))) .nil) .nil) (S11l (some (scV is)) (some (.lst (Z0d L z))) (some (tbV S T)) (some (tbV S T)) (some (.int T.length)) (some (.int one)) (some (.int other)) none none none none [.tab []]) = .ok .next (S11l (some (scV is)) (some (.lst (Z0d L z))) (some (tbV S T)) (some (tbV S T)) (some (.int T.length)) (some (.int one')) (some (.int other)) none none none none [.tab []]):=by
  by_cases h:Int.fmod (is.getD 7 0) 5 = 1
  ·obtain ⟨v,k1,k2⟩:=Z4w [V.int (one + 10 ^ 9),V.int (one - 10 ^ 9)] (i:=Int.fdiv (is.getD 7 0) 5) (n:=2) (by omega) (by omega) (by simp)
   have k1':idxOf [V.int (one + 10 ^ 9),V.int (one - 10 ^ 9)] (Int.fmod (Int.fdiv (is.getD 7 0) 5) 2) = some v:=k1
   obtain ⟨one',rfl⟩:∃ i,v = .int i:=by
    simp only [List.mem_cons,List.not_mem_nil,or_false] at k2
    rcases k2 with rfl | rfl <;> exact ⟨_,rfl⟩
   exact ⟨one',at1 fun q=>q c7 rfl (beq_iff_eq.mpr h) hp hp c7 rfl rfl ((Z20 _ _ _).trans k1') rfl⟩
  ·exact ⟨one,at1 fun q=>q c7 rfl (beq_eq_false_iff_ne.mpr h)⟩
 exact ⟨one',other,(Z0a s1).trans ((Z0a s2).trans ((Z0a s3).trans ((Z0a s4).trans ((Z0a s5).trans ((Z0a s6).trans (Z0a s7))))))⟩
theorem ZcO (x0 x1:Option V) (one other:Int) :
  ∃ st us',evXs (Z05 defs 6000 10) (Z0t xdefs defs 6000 10) (Z1M defs 6000 10) 6000 d_lawB.tl.tl.tl.tl.tl.tl.tl (S11l x0 x1 (some (tbV S T)) (some (tbV S T)) (some (.int T.length)) (some (.int one)) (some (.int other)) none none none none [.tab []]) = .ok (.ret (.bool true)) st∧st.σ = [.tab us']:=by
 have key:∀ (o:Option (List Nat)) (g:Bool) (us:List (Nat × Nat)) (hg:g = decide (0 ≤ one∧one < T.length)) (hpl:(163,66) ∉ us),Z0t xdefs defs 6000 10 "_law_reached" [tbV S T,.int one] [.tab []] = .ok (.tup [.bool o.isNone,txV o]) ⟨[],[.tab []]⟩ →
   evX (Z05 defs 6000 10) (Z0t xdefs defs 6000 10) (Z1M defs 6000 10) 6000 (.ifte (.loc 9) (.cons (.asgL 10 "_law_first_text" (.loc 3) (.tup (.cons (.int 0) .nil)) Z1t [5] (157,52)) .nil) .nil) (S11l x0 x1 (some (tbV S T)) (some (tbV S T)) (some (.int T.length)) (some (.int one)) (some (.int other)) (some (.bool o.isNone)) (some (txV o)) (some (.bool g)) (some .none) [.tab []]) = .ok .next (S11l x0 x1 (some (tbV S T)) (some (tbV S T)) (some (.int T.length)) (some (.int one)) (some (.int other)) (some (.bool o.isNone)) (some (txV o)) (some (.bool g)) (some (txV o)) [.tab us]) →
   ∃ st us',evXs (Z05 defs 6000 10) (Z0t xdefs defs 6000 10) (Z1M defs 6000 10) 6000 d_lawB.tl.tl.tl.tl.tl.tl.tl (S11l x0 x1 (some (tbV S T)) (some (tbV S T)) (some (.int T.length)) (some (.int one)) (some (.int other)) none none none none [.tab []]) = .ok (.ret (.bool true)) st∧st.σ = [.tab us']:=fun o g us hg hpl hG hL=>by
  have s1:evX (Z05 defs 6000 10) (Z0t xdefs defs 6000 10) (Z1M defs 6000 10) 6000 (.asgT [7,8] "_law_reached" (.cons (.loc 2) (.cons (.loc 5) .nil))) (S11l x0 x1 (some (tbV S T)) (some (tbV S T)) (some (.int T.length)) (some (.int one)) (some (.int other)) none none none none [.tab []]) = .ok .next (S11l x0 x1 (some (tbV S T)) (some (tbV S T)) (some (.int T.length)) (some (.int one)) (some (.int other)) (some (.bool o.isNone)) (some (txV o)) none none [.tab []]) :=
   ZcL (xs:=[tbV S T,.int one]) (st':=S11l x0 x1 (some (tbV S T)) (some (tbV S T)) (some (.int T.length)) (some (.int one)) (some (.int other)) none none none none [.tab []]) rfl hG rfl
  have s2:evS (Z05 defs 6000 10) 6000 (.asg 9 (.chain (.int 0) .le (.loc 5) .lt (.loc 4))) (S11l x0 x1 (some (tbV S T)) (some (tbV S T)) (some (.int T.length)) (some (.int one)) (some (.int other)) (some (.bool o.isNone)) (some (txV o)) none none [.tab []]) = .ok .next (S11l x0 x1 (some (tbV S T)) (some (tbV S T)) (some (.int T.length)) (some (.int one)) (some (.int other)) (some (.bool o.isNone)) (some (txV o)) (some (.bool g)) none [.tab []]):=by
   by_cases h0:0 ≤ one
   ·exact at1 fun q=>q (decide_eq_true h0) (congrArg V.bool (by rw [hg]; congr 1; exact propext ⟨fun h=>⟨h0,h⟩,fun h=>h.2⟩))
   ·exact at1 fun q=>q (decide_eq_false h0) (congrArg V.bool (by rw [hg]; exact (decide_eq_false fun h=>h0 h.1).symm))
  have s5:evS (Z05 defs 6000 10) 6000 (.ifte chkC (.cons (.ret (.bool false)) .nil) .nil) (S11l x0 x1 (some (tbV S T)) (some (tbV S T)) (some (.int T.length)) (some (.int one)) (some (.int other)) (some (.bool o.isNone)) (some (txV o)) (some (.bool g)) (some (txV o)) [.tab us]) = .ok .next (S11l x0 x1 (some (tbV S T)) (some (tbV S T)) (some (.int T.length)) (some (.int one)) (some (.int other)) (some (.bool o.isNone)) (some (txV o)) (some (.bool g)) (some (txV o)) [.tab us]) :=
   (if_f (Z9I ok [.tab us] (Z1u us) x0 x1 (some (tbV S T)) (some (tbV S T)) (some (.int T.length)) (some (.int one)) (some (.int other)) (some (.bool g)) o)).trans rfl
  obtain ⟨st,us',e,h⟩:=ZcN ok us x0 x1 one other g hg hpl (some (.bool o.isNone)) (some (txV o)) (some (txV o))
  exact ⟨st,us',(Z2g s1).trans ((Z0a s2).trans ((Z0a (st':=S11l x0 x1 (some (tbV S T)) (some (tbV S T)) (some (.int T.length)) (some (.int one)) (some (.int other)) (some (.bool o.isNone)) (some (txV o)) (some (.bool g)) (some .none) [.tab []]) rfl).trans ((Z2g hL).trans ((Z0a s5).trans e)))),h⟩
 by_cases hgood:0 ≤ one∧one < T.length
 ·obtain ⟨a,rfl⟩:=Int.eq_ofNat_of_zero_le hgood.1
  have ha:a < T.length:=by omega
  obtain ⟨qf,hd,hl⟩:=ZdK ok (some 0) (fun k e=>by cases e; have:=ok.t1; omega)
  have hG:=Z9F (K:=6000) (n:=7) ok [.tab []] (Z1u _) a ha hd hl (by omega)
  have hL:=Z9E (K:=6000) (n:=8) ok (lam:=Z1t) (cs:=[.int (a:Int)]) (us:=[(157,52)]) 1 (by omega) (w1 a) (fun s τ hs h hτ=>ZaV ok _ a s τ h) [some 0] (fun r hr=>by rw [List.mem_singleton.mp hr]; intro k e; cases e; have:=ok.t1; omega) rfl hd hl (by omega) (by omega)
  refine key (hit (w1 a) qf) true [(157,52)] (decide_eq_true hgood).symm (by decide) hG ((ZaP rfl).trans ?_)
  exact (Z2g (Zdx (x:=tbV S T) (y:=stV [some 0]) (cs:=[.int (a:Int)]) rfl rfl rfl (by decide) (by rw [Z01,Z01,Z09,Z5K,Z4p]; rfl) (by rw [Z01,Z09,Z1Z]; rfl) (by cases hit (w1 a) qf <;> rfl) hL)).trans rfl
 ·exact key none false [] (decide_eq_false hgood).symm (by decide) (Z56 (K:=6000) (n:=7) ok [.tab []] (Z1u _) one hgood) ((ZcD rfl).trans rfl)
end
theorem law_pure (is:List Int) (hl:is.length ≤ 63):∃ K n st us,n ≤ 400∧runX (Z05 defs K n) (Z0t xdefs defs K n) (Z1M defs K n) K d_law [.lst (is.map .int)] [.tab []] = .ok (.bool true) st∧st.σ[0]? = some (.tab us):=by
 obtain ⟨S,T,ok,x1,one,other,e⟩:=Z9J is
 obtain ⟨st,us',e2,h⟩:=ZcO ok (some (scV is)) x1 one other
 refine ⟨6000,10,⟨[],[.tab us']⟩,us',by omega,?_,rfl⟩
 have e3:evXs (Z05 defs 6000 10) (Z0t xdefs defs 6000 10) (Z1M defs 6000 10) 6000 d_law.body ⟨[V.lst (is.map .int)].map some++List.replicate (d_law.slots - [V.lst (is.map .int)].length) none,[.tab []]⟩ = .ok (.ret (.bool true)) st:=e.trans e2
 unfold runX
 rw [if_pos (show [V.lst (is.map .int)].length = d_law.params.length from rfl),e3]
 show (if ((V.bool true).lo 1 && (st.σ.take 1).all (O.lo 1)) = true then R.ok (V.bool true) ⟨[],st.σ.take 1⟩ else _) = _
 rw [h]; rfl
end Mine
open PySem PySem.W PyProof.Rows
namespace Mine
noncomputable def qv:Program:=view PySem.Challenge.pw_uf030006_08 [1,2,3,4,5,7,8,9,10,11,13,14,15,16,17,18,19,20,21,22,23,24]
noncomputable def Xt (s:Shared):Bool:=xcOk (xdefs.map (·.name)) d_law.name s.heap && recOk (RowW.records PySem.Challenge.rw_uf030006_08.row.toRowW) s
theorem ZaX (w:World) (os:OsState):(Z1N (PySem.W.Fast.tw6613529449190102663 (boot_heap w.params).objs.size ((boot_heap w.params).nsMap mainGlobals "__annotations__")) (PySem.W.Fast.tw10156331382660048174 (PySem.W.Fast.tw11892475500146522536 treeTable) PySem.Challenge.pw_uf030006_08 w) 3348 (Zaz w.params os) (topStub PySem.Challenge.pw_uf030006_08)).map (fun s=>
   (staticsOk (importedModules PySem.Challenge.pw_uf030006_08.main.body) (boot_heap w.params) s.abs.heap && namesBound PySem.Challenge.pw_uf030006_08 s.abs.heap && gensDone s.abs && laidKept (boot_heap w.params) s.abs.heap,openSeen qv [] (importedModules PySem.Challenge.pw_uf030006_08.main.body) Xt true s.abs,Hook.obs Hook.none s.abs)) = some (true,openGood qv [],Hook.val Hook.none w):=by kernel_rfl
theorem left_qv:LeftO PySem.Challenge.pw_uf030006_08 qv [] Xt (Hook.obs Hook.none) (Hook.val Hook.none) 3348 :=
 Z95 (by rfl) (by rfl) (fun _=>rfl) fun w os=>by rw [Z96]; exact ZaX w os
theorem ok_qv:Zck qv defs xdefs d_law = true:=by decide +kernel
theorem eq_qv:eqOk qv defs (d_law :: xdefs):=by unfold eqOk; exact ⟨by kernel_rfl,by kernel_rfl⟩
end Mine
theorem PySem.Challenge.cw_uf030006_08_holds : PySem.Challenge.rw_uf030006_08.Holds := by
  w_on
  refine holds_law (by decide +kernel) fun said => ?_
  refine holds_open (q := Mine.qv) (loose := []) (Xt := Mine.Xt) (XP := Mine.XC (Mine.xdefs.map (·.name)) Mine.d_law.name) (Yf := Hook.obs Hook.none) (Ya := Hook.val Hook.none) (YP := Hook.says Hook.none) (N := 3348) Mine.left_qv (Hook.of Hook.none) (Hook.keeps Hook.none) (fun s e => Mine.xc_of (Bool.and_eq_true_iff.mp e).1) Mine.XC.keeps (by rfl) (by rfl) (by rfl) (fun s e => recFacts_of (Bool.and_eq_true_iff.mp e).2) (by rfl) (by first | assumption | decide +kernel) (by decide +kernel) ⟨rfl, rfl, rfl, rfl, rfl, by decide +kernel⟩ ?hw ?hc
  (case hw => w_witness2)
  exact Mine.law_walk Mine.defs Mine.xdefs Mine.d_law rfl Mine.ok_qv Mine.eq_qv rfl rfl Mine.law_pure
