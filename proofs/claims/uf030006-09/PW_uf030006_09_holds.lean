import PyProof.Rows.All
import PyProof.DictRoadsH
import PyProof.TupleKey
import PyProof.P3Eq
import PyProof.FactsAll.NoneType
import PyProof.Rows.TupTab
import PyProof.Rows.Many
import PyProof.Walks
import PyProof.WalksMore
import PyProof.Cells
import PyProof.Claim2
import PyProof.SliceMore
import PyProof.DictStraight
import PyProof.NsCount
import PyProof.CodeObj
import PyProof.ToksMono
import PyProof.PureInt
import PyProof.Rows.RuleB_floordiv
import PyProof.Rows.RuleB_pow
import PyProof.Rows.IntRules
import PyProof.Rows.StrRules
import PyProof.StrOps
import PyProof.Rows.Tup
import PyProof.ListIndexNeg
import PyProof.IsiPairs
import PyProof.IsiHeapPairs
import PyProof.IsiNone
import PyProof.Conv_int_bool
import PyProof.Truth
import PyProof.ListTruth
import PyProof.Rows.TupMore
import PyProof.Rows.StrFirst
import PyProof.StrCalls
import PyProof.StrCalls2
import PyProof.StrCalls3
import PyProof.Rows.StrJoin2
import PyProof.SliceStr2
import PyProof.SliceList
import PyProof.Rows.StrTemp
import PyProof.Rows.RuleC_int
import PyProof.NeData
import PyProof.P3In
import PyProof.Rows.SeqRoads
import PyProof.DictRoads
import PyProof.DictTruth
import PyProof.MeetsDict
import KE.KDictLaws
import PyProof.Rows.TupSub
import PyProof.StrLawsFirst
import PyProof.TupleOfSeq
import PyProof.WalkInts
import PyProof.SeqI3
import PyProof.ListCopy
import PyProof.Rows.SeqMore
import PyProof.Conv_int
import PyProof.IsInstanceH
import PyProof.ListStr
import PyProof.Rows.SetFrom
import PyProof.Rows.MinMaxN
import PyProof.ListRange
import PyProof.DefCall
import PyProof.StrBlock
import PyProof.PvWalk
import PyProof.Rows.Exc
import PyProof.Boot
import PyProof.Rows.Nodes
import PyProof.Rows.PlainObj
import PyProof.StrWalks
import PyProof.RangeFor
import PyProof.Rows.GenSrcRange
import PyProof.ForAny
import PyProof.CompFree
import PyProof.Rows.TupAssign
import PyProof.WalksEnum
import PyProof.EnumMake
import PyProof.ZipIter
import PyProof.ListIndex
import PyProof.Rows.TupDisplay
import OpenK.KLine
import PyProof.TableCode
import Wide.All
import OpenK.AllK
import Wide.FinOn
import PySem.Challenge.RW_uf030006_09
set_option Elab.async false
set_option linter.all false
set_option autoImplicit false
set_option genSizeOfSpec false
set_option genSizeOf false
set_option genInjectivity false
set_option bootstrap.genMatcherCode false
set_option maxRecDepth 100000
set_option maxHeartbeats 8000000
namespace El
universe u1 u2 u3 u4 u5 u6 u7 u8 u9 u10
theorem x0_2  {P1 P2:Prop} {G:Prop} (h:P1∧P2) (k:P1→P2→G):G:=k h.1 h.2
theorem x0_3  {P1 P2 P3:Prop} {G:Prop} (h:P1∧P2∧P3) (k:P1→P2→P3→G):G:=k h.1 h.2.1 h.2.2
theorem x0_4  {P1 P2 P3 P4:Prop} {G:Prop} (h:P1∧P2∧P3∧P4) (k:P1→P2→P3→P4→G):G:=k h.1 h.2.1 h.2.2.1 h.2.2.2
theorem x1_1 {α1:Sort u1} {P1:α1→Prop} {G:Prop} (h:∃ a1,P1 a1) (k:∀ a1,P1 a1→G):G:=h.elim fun a1 h=>k a1 h
theorem x1_2 {α1:Sort u1} {P1 P2:α1→Prop} {G:Prop} (h:∃ a1,P1 a1∧P2 a1) (k:∀ a1,P1 a1→P2 a1→G):G:=h.elim fun a1 h=>k a1 h.1 h.2
theorem x1_3 {α1:Sort u1} {P1 P2 P3:α1→Prop} {G:Prop} (h:∃ a1,P1 a1∧P2 a1∧P3 a1) (k:∀ a1,P1 a1→P2 a1→P3 a1→G):G:=h.elim fun a1 h=>k a1 h.1 h.2.1 h.2.2
theorem x1_4 {α1:Sort u1} {P1 P2 P3 P4:α1→Prop} {G:Prop} (h:∃ a1,P1 a1∧P2 a1∧P3 a1∧P4 a1) (k:∀ a1,P1 a1→P2 a1→P3 a1→P4 a1→G):G:=h.elim fun a1 h=>k a1 h.1 h.2.1 h.2.2.1 h.2.2.2
theorem x1_5 {α1:Sort u1} {P1 P2 P3 P4 P5:α1→Prop} {G:Prop} (h:∃ a1,P1 a1∧P2 a1∧P3 a1∧P4 a1∧P5 a1) (k:∀ a1,P1 a1→P2 a1→P3 a1→P4 a1→P5 a1→G):G:=h.elim fun a1 h=>k a1 h.1 h.2.1 h.2.2.1 h.2.2.2.1 h.2.2.2.2
theorem x2_1 {α1:Sort u1} {α2:Sort u2} {P1:α1→α2→Prop} {G:Prop} (h:∃ a1 a2,P1 a1 a2) (k:∀ a1 a2,P1 a1 a2→G):G:=h.elim fun a1 h=>h.elim fun a2 h=>k a1 a2 h
theorem x2_2 {α1:Sort u1} {α2:Sort u2} {P1 P2:α1→α2→Prop} {G:Prop} (h:∃ a1 a2,P1 a1 a2∧P2 a1 a2) (k:∀ a1 a2,P1 a1 a2→P2 a1 a2→G):G:=h.elim fun a1 h=>h.elim fun a2 h=>k a1 a2 h.1 h.2
theorem x2_3 {α1:Sort u1} {α2:Sort u2} {P1 P2 P3:α1→α2→Prop} {G:Prop} (h:∃ a1 a2,P1 a1 a2∧P2 a1 a2∧P3 a1 a2) (k:∀ a1 a2,P1 a1 a2→P2 a1 a2→P3 a1 a2→G):G:=h.elim fun a1 h=>h.elim fun a2 h=>k a1 a2 h.1 h.2.1 h.2.2
theorem x2_4 {α1:Sort u1} {α2:Sort u2} {P1 P2 P3 P4:α1→α2→Prop} {G:Prop} (h:∃ a1 a2,P1 a1 a2∧P2 a1 a2∧P3 a1 a2∧P4 a1 a2) (k:∀ a1 a2,P1 a1 a2→P2 a1 a2→P3 a1 a2→P4 a1 a2→G):G:=h.elim fun a1 h=>h.elim fun a2 h=>k a1 a2 h.1 h.2.1 h.2.2.1 h.2.2.2
theorem x3_2 {α1:Sort u1} {α2:Sort u2} {α3:Sort u3} {P1 P2:α1→α2→α3→Prop} {G:Prop} (h:∃ a1 a2 a3,P1 a1 a2 a3∧P2 a1 a2 a3) (k:∀ a1 a2 a3,P1 a1 a2 a3→P2 a1 a2 a3→G):G:=h.elim fun a1 h=>h.elim fun a2 h=>h.elim fun a3 h=>k a1 a2 a3 h.1 h.2
theorem x3_3 {α1:Sort u1} {α2:Sort u2} {α3:Sort u3} {P1 P2 P3:α1→α2→α3→Prop} {G:Prop} (h:∃ a1 a2 a3,P1 a1 a2 a3∧P2 a1 a2 a3∧P3 a1 a2 a3) (k:∀ a1 a2 a3,P1 a1 a2 a3→P2 a1 a2 a3→P3 a1 a2 a3→G):G:=h.elim fun a1 h=>h.elim fun a2 h=>h.elim fun a3 h=>k a1 a2 a3 h.1 h.2.1 h.2.2
theorem x3_4 {α1:Sort u1} {α2:Sort u2} {α3:Sort u3} {P1 P2 P3 P4:α1→α2→α3→Prop} {G:Prop} (h:∃ a1 a2 a3,P1 a1 a2 a3∧P2 a1 a2 a3∧P3 a1 a2 a3∧P4 a1 a2 a3) (k:∀ a1 a2 a3,P1 a1 a2 a3→P2 a1 a2 a3→P3 a1 a2 a3→P4 a1 a2 a3→G):G:=h.elim fun a1 h=>h.elim fun a2 h=>h.elim fun a3 h=>k a1 a2 a3 h.1 h.2.1 h.2.2.1 h.2.2.2
theorem x3_5 {α1:Sort u1} {α2:Sort u2} {α3:Sort u3} {P1 P2 P3 P4 P5:α1→α2→α3→Prop} {G:Prop} (h:∃ a1 a2 a3,P1 a1 a2 a3∧P2 a1 a2 a3∧P3 a1 a2 a3∧P4 a1 a2 a3∧P5 a1 a2 a3) (k:∀ a1 a2 a3,P1 a1 a2 a3→P2 a1 a2 a3→P3 a1 a2 a3→P4 a1 a2 a3→P5 a1 a2 a3→G):G:=h.elim fun a1 h=>h.elim fun a2 h=>h.elim fun a3 h=>k a1 a2 a3 h.1 h.2.1 h.2.2.1 h.2.2.2.1 h.2.2.2.2
theorem x4_3 {α1:Sort u1} {α2:Sort u2} {α3:Sort u3} {α4:Sort u4} {P1 P2 P3:α1→α2→α3→α4→Prop} {G:Prop} (h:∃ a1 a2 a3 a4,P1 a1 a2 a3 a4∧P2 a1 a2 a3 a4∧P3 a1 a2 a3 a4) (k:∀ a1 a2 a3 a4,P1 a1 a2 a3 a4→P2 a1 a2 a3 a4→P3 a1 a2 a3 a4→G):G:=h.elim fun a1 h=>h.elim fun a2 h=>h.elim fun a3 h=>h.elim fun a4 h=>k a1 a2 a3 a4 h.1 h.2.1 h.2.2
theorem x4_7 {α1:Sort u1} {α2:Sort u2} {α3:Sort u3} {α4:Sort u4} {P1 P2 P3 P4 P5 P6 P7:α1→α2→α3→α4→Prop} {G:Prop} (h:∃ a1 a2 a3 a4,P1 a1 a2 a3 a4∧P2 a1 a2 a3 a4∧P3 a1 a2 a3 a4∧P4 a1 a2 a3 a4∧P5 a1 a2 a3 a4∧P6 a1 a2 a3 a4∧P7 a1 a2 a3 a4) (k:∀ a1 a2 a3 a4,P1 a1 a2 a3 a4→P2 a1 a2 a3 a4→P3 a1 a2 a3 a4→P4 a1 a2 a3 a4→P5 a1 a2 a3 a4→P6 a1 a2 a3 a4→P7 a1 a2 a3 a4→G):G:=h.elim fun a1 h=>h.elim fun a2 h=>h.elim fun a3 h=>h.elim fun a4 h=>k a1 a2 a3 a4 h.1 h.2.1 h.2.2.1 h.2.2.2.1 h.2.2.2.2.1 h.2.2.2.2.2.1 h.2.2.2.2.2.2
theorem x4_8 {α1:Sort u1} {α2:Sort u2} {α3:Sort u3} {α4:Sort u4} {P1 P2 P3 P4 P5 P6 P7 P8:α1→α2→α3→α4→Prop} {G:Prop} (h:∃ a1 a2 a3 a4,P1 a1 a2 a3 a4∧P2 a1 a2 a3 a4∧P3 a1 a2 a3 a4∧P4 a1 a2 a3 a4∧P5 a1 a2 a3 a4∧P6 a1 a2 a3 a4∧P7 a1 a2 a3 a4∧P8 a1 a2 a3 a4) (k:∀ a1 a2 a3 a4,P1 a1 a2 a3 a4→P2 a1 a2 a3 a4→P3 a1 a2 a3 a4→P4 a1 a2 a3 a4→P5 a1 a2 a3 a4→P6 a1 a2 a3 a4→P7 a1 a2 a3 a4→P8 a1 a2 a3 a4→G):G:=h.elim fun a1 h=>h.elim fun a2 h=>h.elim fun a3 h=>h.elim fun a4 h=>k a1 a2 a3 a4 h.1 h.2.1 h.2.2.1 h.2.2.2.1 h.2.2.2.2.1 h.2.2.2.2.2.1 h.2.2.2.2.2.2.1 h.2.2.2.2.2.2.2
theorem x5_4 {α1:Sort u1} {α2:Sort u2} {α3:Sort u3} {α4:Sort u4} {α5:Sort u5} {P1 P2 P3 P4:α1→α2→α3→α4→α5→Prop} {G:Prop} (h:∃ a1 a2 a3 a4 a5,P1 a1 a2 a3 a4 a5∧P2 a1 a2 a3 a4 a5∧P3 a1 a2 a3 a4 a5∧P4 a1 a2 a3 a4 a5) (k:∀ a1 a2 a3 a4 a5,P1 a1 a2 a3 a4 a5→P2 a1 a2 a3 a4 a5→P3 a1 a2 a3 a4 a5→P4 a1 a2 a3 a4 a5→G):G:=h.elim fun a1 h=>h.elim fun a2 h=>h.elim fun a3 h=>h.elim fun a4 h=>h.elim fun a5 h=>k a1 a2 a3 a4 a5 h.1 h.2.1 h.2.2.1 h.2.2.2
theorem x5_7 {α1:Sort u1} {α2:Sort u2} {α3:Sort u3} {α4:Sort u4} {α5:Sort u5} {P1 P2 P3 P4 P5 P6 P7:α1→α2→α3→α4→α5→Prop} {G:Prop} (h:∃ a1 a2 a3 a4 a5,P1 a1 a2 a3 a4 a5∧P2 a1 a2 a3 a4 a5∧P3 a1 a2 a3 a4 a5∧P4 a1 a2 a3 a4 a5∧P5 a1 a2 a3 a4 a5∧P6 a1 a2 a3 a4 a5∧P7 a1 a2 a3 a4 a5) (k:∀ a1 a2 a3 a4 a5,P1 a1 a2 a3 a4 a5→P2 a1 a2 a3 a4 a5→P3 a1 a2 a3 a4 a5→P4 a1 a2 a3 a4 a5→P5 a1 a2 a3 a4 a5→P6 a1 a2 a3 a4 a5→P7 a1 a2 a3 a4 a5→G):G:=h.elim fun a1 h=>h.elim fun a2 h=>h.elim fun a3 h=>h.elim fun a4 h=>h.elim fun a5 h=>k a1 a2 a3 a4 a5 h.1 h.2.1 h.2.2.1 h.2.2.2.1 h.2.2.2.2.1 h.2.2.2.2.2.1 h.2.2.2.2.2.2
theorem x9_9 {α1:Sort u1} {α2:Sort u2} {α3:Sort u3} {α4:Sort u4} {α5:Sort u5} {α6:Sort u6} {α7:Sort u7} {α8:Sort u8} {α9:Sort u9} {P1 P2 P3 P4 P5 P6 P7 P8 P9:α1→α2→α3→α4→α5→α6→α7→α8→α9→Prop} {G:Prop} (h:∃ a1 a2 a3 a4 a5 a6 a7 a8 a9,P1 a1 a2 a3 a4 a5 a6 a7 a8 a9∧P2 a1 a2 a3 a4 a5 a6 a7 a8 a9∧P3 a1 a2 a3 a4 a5 a6 a7 a8 a9∧P4 a1 a2 a3 a4 a5 a6 a7 a8 a9∧P5 a1 a2 a3 a4 a5 a6 a7 a8 a9∧P6 a1 a2 a3 a4 a5 a6 a7 a8 a9∧P7 a1 a2 a3 a4 a5 a6 a7 a8 a9∧P8 a1 a2 a3 a4 a5 a6 a7 a8 a9∧P9 a1 a2 a3 a4 a5 a6 a7 a8 a9) (k:∀ a1 a2 a3 a4 a5 a6 a7 a8 a9,P1 a1 a2 a3 a4 a5 a6 a7 a8 a9→P2 a1 a2 a3 a4 a5 a6 a7 a8 a9→P3 a1 a2 a3 a4 a5 a6 a7 a8 a9→P4 a1 a2 a3 a4 a5 a6 a7 a8 a9→P5 a1 a2 a3 a4 a5 a6 a7 a8 a9→P6 a1 a2 a3 a4 a5 a6 a7 a8 a9→P7 a1 a2 a3 a4 a5 a6 a7 a8 a9→P8 a1 a2 a3 a4 a5 a6 a7 a8 a9→P9 a1 a2 a3 a4 a5 a6 a7 a8 a9→G):G:=h.elim fun a1 h=>h.elim fun a2 h=>h.elim fun a3 h=>h.elim fun a4 h=>h.elim fun a5 h=>h.elim fun a6 h=>h.elim fun a7 h=>h.elim fun a8 h=>h.elim fun a9 h=>k a1 a2 a3 a4 a5 a6 a7 a8 a9 h.1 h.2.1 h.2.2.1 h.2.2.2.1 h.2.2.2.2.1 h.2.2.2.2.2.1 h.2.2.2.2.2.2.1 h.2.2.2.2.2.2.2.1 h.2.2.2.2.2.2.2.2
end El
namespace Mine
open PySem
noncomputable def oIs:Option Int→Value→Bool
 | none,.none=>true
 | some i,v=>v.isInt i
 | _,_=>false
noncomputable def oH:Option Int→Int
 | none=>0xFCA86420
 | some i=>hashInt i
abbrev KI:=Int ⊕ List Int
abbrev Ky:=Option Int ⊕ List KI
noncomputable def iH:KI→Int
 | .inl i=>hashInt i
 | .inr l=>reduceHash (Builtin.Tuple.tupleHashOf (l.map hashInt))
noncomputable def iN:KI→Nat
 | .inl _=>1
 | .inr l=>l.length + 1
noncomputable def iD:KI→PyData
 | .inl i=>.int i
 | .inr l=>.tuple (l.map .int)
noncomputable def kD (k:List KI):PyData:=.tuple (k.map iD)
noncomputable def lH (k:List KI):Int:=reduceHash (Builtin.Tuple.tupleHashOf (k.map iH))
noncomputable def kH:Ky→Int
 | .inl o=>oH o
 | .inr l=>lH l
noncomputable def lN (k:List KI):Nat:=(k.map iN).sum
section
variable {prog:Program} {w:World} {A:Around} {E:Value→Shared→Prop} {s:Shared} {h:Heap} {a:Addr}
theorem Z0Z {k:Option Int} {v:Value} (h:oIs k v = true):(k = none∧v = .none) ∨ ∃ i t,k = some i∧v = .int i t:=by
 cases k with
 | none=>cases v <;> first | exact .inl ⟨rfl,rfl⟩ | cases h
 | some i=>
  obtain ⟨t,rfl⟩:=Value.isInt_shape (v:=v) (k:=i) (by cases v <;> exact h)
  exact .inr ⟨i,t,rfl,rfl⟩
theorem Z7F {Q:Int→Shared→Prop} (h:Q 0xFCA86420 { s with toks:=s.toks + 1 }):wpAny (model prog w) A (pyHash .none) Q E s:=by
 have hT:s.TypeIs .none "NoneType":=rfl
 unfold pyHash pyHashByItsType
 have hv:[Value.none].any Value.onHeap = false:=rfl
 refine wpAny_bind ?_
 rw [cRoomFor,if_neg (by rw [hv]; exact Bool.false_ne_true)]; refine wpAny_pure ?_
 refine wpAny_bind (wpAny_specialOf hT F.slot_NoneType_hash.lookup ?_)
 show wpAny _ _ (if (some (Value.builtin "NoneType.__hash__") == some Value.none) = true then _ else _) Q E s
 rw [if_neg (by rw [beq_builtin_none]; exact Bool.false_ne_true)]
 refine wpAny_bind (wpAny_specialOf hT F.slot_NoneType_hash.lookup ?_)
 show wpAny _ _ (callSpecialIfBoundUnlessNone? .none "__hash__" _ >>= _) Q E s
 refine wpAny_bind (wpAny_callSpecialIfBoundUnlessNone?_slot hT F.slot_NoneType_hash (wpAny_call_entry F.slot_NoneType_hash hT F.entry_NoneType_hash ?_ (F.args_NoneType_hash_1 _)))
 show wpAny _ _ (retInt 0xFCA86420) _ _ s
 exact wpAny_ret_mkInt (wpAny_pure h)
theorem ZbS {prog:Program} {w:World} {A:Around} {i j:Int} {t u:Tok} {Q:Bool→Shared→Prop} {E:Value→Shared→Prop} {s:Shared} (h:Q (decide (some i = some j)) s):wpAny (model prog w) A (eqBool (.int i t) (.int j u)) Q E s:=by
 have e:decide (some i = some j) = decide (i = j):=by simp
 rw [e] at h
 exact wpAny_eqBool_int h
noncomputable def Z2s (prog:Program) (w:World):KeyKind prog w (Option Int) where
 is:=oIs
 hash:=oH
 inj:=fun v a b ha hb=>by
  rcases Z0Z ha with ⟨rfl,rfl⟩ | ⟨i,t,rfl,rfl⟩ <;> rcases Z0Z hb with ⟨rfl,h⟩ | ⟨j,u,rfl,h⟩
  ·rfl
  ·cases h
  ·cases h
  ·cases h; rfl
 byValue:=fun k v h=>by rcases Z0Z h with ⟨rfl,rfl⟩ | ⟨i,t,rfl,rfl⟩ <;> rfl
 pyHash:=fun hv h=>by
  rcases Z0Z hv with ⟨rfl,rfl⟩ | ⟨i,t,rfl,rfl⟩
  ·exact Z7F h
  ·exact wpAny_pyHash_int h
 eqBool:=fun hu hv h=>by
  rcases Z0Z hu with ⟨rfl,rfl⟩ | ⟨i,t,rfl,rfl⟩ <;> rcases Z0Z hv with ⟨rfl,rfl⟩ | ⟨j,u,rfl,rfl⟩
  ·exact SeqAt.EqAt.same _ prog w _ _ h
  ·exact SeqAt.EqAt.none_int j u prog w _ _ h
  ·exact SeqAt.EqAt.int_none i t prog w _ _ h
  ·exact ZbS h
 «strs»:=fun k x t v h=>by rcases Z0Z h with ⟨_,h⟩ | ⟨i,t,_,h⟩ <;> cases h
noncomputable def iIs (prog:Program) (w:World) (h:Heap) (v:Value):KI→Prop
 | .inl i=>v.isInt i = true
 | .inr l=>∃ b,v = .ref b∧IsTupleKey (intKind prog w) h l b
noncomputable def isL (prog:Program) (w:World) (h:Heap):List KI→List Value→Prop
 | [],vs=>vs = []
 | k :: ks,vs=>∃ v us,vs = v :: us∧iIs prog w h v k∧isL prog w h ks us
noncomputable def kIs (prog:Program) (w:World) (h:Heap) (k:List KI) (a:Addr):Prop :=
 ∃ o vs n,h.get? a = some o∧o.cls = .type "tuple"∧o.data = .seq vs n∧isL prog w h k vs.toList
theorem Z62 {l:List Int} {vs:List Value} (x:ItemsAre (intKind prog w) l vs):ReadsAll h vs (l.map .int) []:=by
 induction x with
 | nil=>exact .nil
 | @cons i v l vs hi _ ih=>
  obtain ⟨t,rfl⟩:=Value.isInt_shape hi
  exact .cons (as:=[]) (.int i t) ih
theorem iIs.reads {v:Value} {k:KI} (x:iIs prog w h v k):Reads h v (iD k) []:=by
 cases k with
 | inl i=>obtain ⟨t,rfl⟩:=Value.isInt_shape (show v.isInt i = true from x); exact .int i t
 | inr l=>
  obtain ⟨b,rfl,o,vs,n,ho,hc,hd,hi⟩:=x
  exact .tuple ho hc hd (Z62 hi)
theorem isL.reads:∀ {k:List KI} {vs:List Value},isL prog w h k vs→ReadsAll h vs (k.map iD) []
 | [],_,x=>by rw [show _ = [] from x]; exact .nil
 | k :: ks,_,x=>by
  obtain ⟨v,us,rfl,h1,h2⟩:=x
  exact .cons (as:=[]) h1.reads (isL.reads h2)
theorem kIs.reads {k:List KI} (x:kIs prog w h k a):Reads h (.ref a) (kD k) []:=by
 obtain ⟨o,vs,n,ho,hc,hd,hi⟩:=x
 exact .tuple ho hc hd hi.reads
theorem Z9G {l m:List Int} (e:l.map PyData.int = m.map PyData.int):l = m:=List.map_inj_right (fun a b e=>PyData.int.inj e) |>.mp e
theorem ZdG {k l:KI} (e:iD k = iD l):k = l:=by
 cases k <;> cases l
 ·rw [PyData.int.inj e]
 ·cases e
 ·cases e
 ·rw [Z9G (PyData.tuple.inj e)]
theorem ZdH {k l:List KI} (e:kD k = kD l):k = l:=List.map_inj_right (fun a b e=>ZdG e) |>.mp (PyData.tuple.inj e)
theorem Z6v:∀ l:List Int,PyData.canLayAll0 (l.map .int) = true
 | []=>rfl
 | _ :: l=>Z6v l
theorem ZdI (k:KI):(iD k).canLay0 = true:=by
 cases k with
 | inl i=>rfl
 | inr l=>exact Z6v l
theorem Z6w:∀ k:List KI,(kD k).canLay0 = true
 | []=>rfl
 | x :: k=>by
  show ((iD x).canLay0 && (kD k).canLay0) = true
  rw [ZdI,Z6w k]; rfl
theorem Z6x:∀ l m:List Int,PyData.eqvAll (l.map .int) (m.map .int) = decide (l = m)
 | [],[]=>rfl
 | [],_ :: _=>rfl
 | _ :: _,[]=>rfl
 | a :: l,b :: m=>by
  show (PyData.eqv (.int a) (.int b) && PyData.eqvAll (l.map .int) (m.map .int)) = _
  rw [Z6x l m]
  show (a == b && decide (l = m)) = _
  exact Bool.eq_iff_iff.mpr (by simp)
theorem ZdJ (k l:KI):PyData.eqv (iD k) (iD l) = decide (k = l):=by
 cases k <;> cases l
 ·rename_i a b
  show (a == b) = _
  exact Bool.eq_iff_iff.mpr (by simp)
 ·rfl
 ·rfl
 ·rename_i l m
  show PyData.eqvAll (l.map .int) (m.map .int) = _
  rw [Z6x]
  exact Bool.eq_iff_iff.mpr (by simp)
theorem Zbj:∀ k l:List KI,PyData.eqv (kD k) (kD l) = decide (k = l)
 | [],[]=>rfl
 | [],_ :: _=>rfl
 | _ :: _,[]=>rfl
 | x :: k,y :: l=>by
  show (PyData.eqv (iD x) (iD y) && PyData.eqv (kD k) (kD l)) = _
  rw [ZdJ,Zbj k l]
  exact Bool.eq_iff_iff.mpr (by simp)
theorem Z4b:∀ l:List Int,PyData.depthAll (l.map .int) ≤ 0
 | []=>Nat.le_refl _
 | a :: l=>Nat.max_le.mpr ⟨Nat.le_refl _,Z4b l⟩
theorem Z9H (k:KI):(iD k).depth ≤ 1:=by
 cases k with
 | inl i=>exact Nat.zero_le _
 | inr l=>exact Nat.succ_le_succ (Z4b l)
theorem Z9I (k:List KI):(kD k).depth ≤ 2:=by
 have:∀ k:List KI,PyData.depthAll (k.map iD) ≤ 1:=fun k=>by
  induction k with
  | nil=>exact Nat.zero_le _
  | cons x k ih=>exact Nat.max_le.mpr ⟨Z9H x,ih⟩
 exact Nat.succ_le_succ (this k)
theorem Z7G {v:Value} {k:KI} {Q:Int→Shared→Prop} (hu:A.units < cLine) (x:iIs prog w s.heap v k) (h:Q (iH k) { s with toks:=s.toks + iN k }):wpAny (model prog w) A (pyHash v) Q E s:=by
 cases k with
 | inl i=>obtain ⟨t,rfl⟩:=Value.isInt_shape (show v.isInt i = true from x); exact wpAny_pyHash_int h
 | inr l=>
  obtain ⟨b,rfl,hb⟩:=x
  exact wpAny_pyHash_tuple hu hb h
theorem Z4w {i:Int} {Q:Int→Shared→Prop} (h:Q (reduceHash i) s):wpAny (model prog w) A (pyHashByItsType.reduced i) Q E s:=by
 show wpAny _ _ (if (decide (-(2:Int) ^ 63 ≤ i) && decide (i < 2 ^ 63)) = true then _ else _) Q E _
 unfold reduceHash at h
 by_cases hr:(decide (-(2:Int) ^ 63 ≤ i) && decide (i < 2 ^ 63)) = true
 ·rw [if_pos hr]
  rw [if_pos hr] at h
  exact wpAny_pure h
 ·rw [if_neg hr]
  rw [if_neg hr] at h
  exact wpAny_bind (wpAny_rule (wpAny_pure h))
theorem Z9J {k:List KI} {Q:Int→Shared→Prop} (hu:A.units + 1 < cLine) (hk:kIs prog w s.heap k a) (h:Q (lH k) { s with toks:=s.toks + (lN k + 1) }):wpAny (model prog w) A (pyHash (.ref a)) Q E s:=by
 obtain ⟨o,vs,n,ho,hc,hd,hi⟩:=hk
 have hT:s.TypeIs (.ref a) "tuple":=⟨o,ho,hc⟩
 unfold pyHash pyHashByItsType
 refine wpAny_bind (wpAny_cRoomFor_or (.inr (Nat.lt_of_succ_lt hu)) ?_)
 refine wpAny_bind (wpAny_specialOf hT F.slot_tuple_hash.lookup ?_)
 show wpAny _ _ (if (some (Value.builtin "tuple.__hash__") == some Value.none) = true then _ else _) Q E s
 rw [if_neg (by rw [beq_builtin_none]; exact Bool.false_ne_true)]
 refine wpAny_bind (wpAny_specialOf hT F.slot_tuple_hash.lookup ?_)
 show wpAny _ _ (callSpecialIfBoundUnlessNone? (.ref a) "__hash__" _ >>= _) Q E s
 refine wpAny_bind (wpAny_callSpecialIfBoundUnlessNone?_slot hT F.slot_tuple_hash (wpAny_call_entry F.slot_tuple_hash hT F.entry_tuple_hash ?_ (F.args_tuple_hash_1 _)))
 show wpAny _ _ (Builtin.Tuple.tupleItemsOf (.ref a) >>= _) _ _ s
 refine wpAny_bind (wpAny_tupleItemsOf ho hd ?_)
 refine wpAny_bind ?_
 rw [← Array.forIn_toList]
 refine wpAny_forIn_list _
  (fun rest (b:Array Int) s'=>∃ done left,k = done++left∧isL prog w s.heap left rest∧b.toList = done.map iH∧s' = { s with toks:=s.toks + lN done })
  _ ?_ ?_ _ _ ⟨[],k,rfl,hi,rfl,rfl⟩
 ·rintro x rest b s' ⟨done,left,rfl,hl,hb,rfl⟩
  cases left with
  | nil=>cases hl
  | cons i left=>
   obtain ⟨v,us,e,h1,h2⟩:=hl
   cases e
   refine wpAny_bind (Z7G (s:={ s with toks:=s.toks + lN done }) hu h1 ?_)
   exact wpAny_pure ⟨done++[i],left,by simp,h2,by simp [hb],by simp [lN,Nat.add_assoc]⟩
 ·rintro b s' ⟨done,left,rfl,hl,hb,rfl⟩
  cases left with
  | cons i left=>obtain ⟨v,us,e,h1,h2⟩:=hl; cases e
  | nil=>
  rw [List.append_nil] at h
  show wpAny _ _ (retInt (Builtin.Tuple.tupleHashOf b.toList)) _ _ _
  rw [hb]
  refine wpAny_ret_mkInt ?_
  refine Z4w ?_
  rw [← Nat.add_assoc] at h
  exact h
theorem Z56 {n:Nat} {o:Obj} {vs:Array Value} {m:Nat} {Q:Bool→Shared→Prop} (ho:s.heap.get? a = some o) (hc:o.cls = .type "tuple") (hd:o.data = .seq vs m)
  (hall:∀ v ∈ vs.toList,∀ Q:Bool→Shared→Prop,Q true s→wpAny (model prog w) A (eqIsQuiet n v) Q E s) (h:Q true s):wpAny (model prog w) A (eqIsQuiet (n + 1) (.ref a)) Q E s:=by
 have hT:s.TypeIs (.ref a) "tuple":=⟨o,ho,hc⟩
 unfold eqIsQuiet
 refine wpAny_bind (wpAny_specialOf hT F.slot_tuple_eq.lookup ?_)
 show wpAny _ _ (isInstance (.ref a) (.type "tuple") >>= _) _ _ s
 refine wpAny_bind (wpAny_isInstance hT isSubtype_tuple_tuple ?_)
 simp only [Bool.not_true,Bool.false_eq_true,if_false]
 refine wpAny_bind (wpAny_seqItems ho hd ?_)
 refine wpAny_bind ?_
 show wpAny _ _ (forIn vs _ _) _ _ s
 rw [← Array.forIn_toList]
 refine wpAny_forIn_list _ (fun rest r s'=>r.1 = none∧s' = s∧∀ v ∈ rest,v ∈ vs.toList) _ ?_ ?_ _ _ ⟨rfl,rfl,fun _ q=>q⟩
 ·rintro v rest r s' ⟨hr,rfl,hq⟩
  refine wpAny_bind (hall v (hq v List.mem_cons_self) _ ?_)
  simp only [Bool.not_true,Bool.false_eq_true,if_false]
  exact wpAny_pure ⟨rfl,rfl,fun u q=>hq u (List.mem_cons_of_mem _ q)⟩
 ·rintro ⟨r1,r2⟩ s' ⟨hr,rfl,_⟩
  simp only at hr
  subst hr
  exact wpAny_pure h
theorem Z57 {n:Nat} {v:Value} (hv:carriedByValue v = true) (Q:Bool→Shared→Prop) (h:Q true s):wpAny (model prog w) A (eqIsQuiet n v) Q E s:=by
 rw [eqIsQuiet_byValue _ hv]; exact wpAny_pure h
theorem Z7l {n:Nat} {v:Value} {k:KI} (x:iIs prog w s.heap v k) (Q:Bool→Shared→Prop) (h:Q true s):wpAny (model prog w) A (eqIsQuiet (n + 1) v) Q E s:=by
 cases k with
 | inl i=>obtain ⟨t,rfl⟩:=Value.isInt_shape (show v.isInt i = true from x); exact Z57 rfl Q h
 | inr l=>
  obtain ⟨b,rfl,o,vs,m,ho,hc,hd,hi⟩:=x
  exact Z56 ho hc hd (fun v hv Q=>Z57 (hi.byValue v hv) Q) h
theorem isL.mem:∀ {k:List KI} {vs:List Value} {v:Value},isL prog w h k vs→v ∈ vs→∃ i,iIs prog w h v i
 | [],_,_,x,hv=>by rw [show _ = [] from x] at hv; cases hv
 | k :: ks,_,_,x,hv=>by
  obtain ⟨u,us,rfl,h1,h2⟩:=x
  rcases List.mem_cons.mp hv with rfl | hv
  ·exact ⟨_,h1⟩
  ·exact isL.mem h2 hv
theorem Z7H {k:List KI} {Q:Bool→Shared→Prop} (hk:kIs prog w s.heap k a) (h:Q true s):wpAny (model prog w) A (eqIsQuiet 8 (.ref a)) Q E s:=by
 obtain ⟨o,vs,n,ho,hc,hd,hi⟩:=hk
 refine Z56 ho hc hd (fun u hu=>?_) h
 obtain ⟨i,x⟩:=hi.mem hu
 exact Z7l x
theorem isL.keeps {h':Heap} {d:Addr} {o:Obj} {es:Array DictEntry} {ep:Nat} (ho:h.get? d = some o) (hd:o.data = .dict es ep) (hs:Heap.SameBut d h h'):∀ {k:List KI} {vs:List Value},isL prog w h k vs→isL prog w h' k vs
 | [],_,x=>x
 | k :: ks,_,x=>by
  obtain ⟨v,us,e,h1,h2⟩:=x
  refine ⟨v,us,e,?_,isL.keeps ho hd hs h2⟩
  cases k with
  | inl i=>exact h1
  | inr l=>obtain ⟨b,hb,hq⟩:=h1; exact ⟨b,hb,hq.keeps ho hd hs⟩
theorem Z7I {k:List KI} {h':Heap} {d:Addr} {o:Obj} {es:Array DictEntry} {ep:Nat} (hk:kIs prog w h k a) (ho:h.get? d = some o) (hd:o.data = .dict es ep) (hs:Heap.SameBut d h h'):kIs prog w h' k a:=by
 obtain ⟨o',vs,n,ho',hc',hd',hi⟩:=hk
 have hne:a ≠ d:=by
  rintro rfl
  obtain rfl:o' = o:=Option.some.inj (ho'.symm.trans ho)
  rw [hd] at hd'; exact nomatch hd'
 exact ⟨o',vs,n,(hs.2 a hne).trans ho',hc',hd',hi.keeps ho hd hs⟩
noncomputable def Z4x (prog:Program) (w:World):HeapKind prog w (List KI) where
 is:=kIs prog w
 hash:=lH
 draws:=fun k=>lN k + 1
 room:=fun A=>A.units + 2 < cLine
 inj:=fun hx hy=>ZdH (SeqAt.Reads.unique _ _ _ _ _ (Z6w _) hx.reads hy.reads)
 keeps:=fun x ho hd hs=>Z7I x ho hd hs
 pyHash:=fun hu hk h=>Z9J (Nat.lt_of_succ_lt hu) hk h
 eqBool:=fun {A E s x y a b Q} hu hx hy h=>SeqAt.eqAt_reads (kD x) (kD y) A s _ _ _ _ hx.reads hy.reads (Z6w _) (Z6w _) (Nat.lt_of_le_of_lt (Nat.add_le_add_left (Nat.le_trans (Nat.min_le_left _ _) (Z9I x)) _) hu) prog w E Q (by rw [Zbj]; exact h)
 quiet:=fun hk h=>Z7H hk h
end
end Mine
namespace Mine
open PySem PySem.Calls PyProof.Rows
theorem dec1 {n i:Nat} (h:i < n):n + 1 - (i + 1) < n + 1 - i:=by omega
theorem eqle {n i:Nat} (h:i ≤ n) (h':¬ i < n):i = n:=Nat.le_antisymm h (Nat.le_of_not_lt h')
inductive V where
 | none
 | bool (b:Bool)
 | int (i:Int)
 | str (s:List Nat)
 | tup (xs:List V)
 | lst (xs:List V)
 | ref (n:Nat)
@[simp] theorem V.ref.injEq (a b:Nat):(V.ref a = V.ref b) = (a = b):=propext ⟨fun h=>by cases h; rfl,fun h=>h ▸ rfl⟩
inductive O where
 | lst (xs:List V)
 | kdict (es:List (Ky × V))
 | dead
 | priv
noncomputable def O.live:O→Bool
 | .dead=>false
 | _=>true
structure St where
 ρ:List (Option V)
 σ:List O
inductive R (α:Type) where
 | ok (a:α) (st:St)
 | exc (x:Str) (st:St)
 | stuck
theorem R.ok.inj {α:Type} {a b:α} {s t:St} (h:R.ok a s = .ok b t):a = b∧s = t:=by cases h; exact ⟨rfl,rfl⟩
noncomputable def R.bind {α β:Type}:R α→(α→St→R β)→R β
 | .ok a st,f=>f a st
 | .exc x st,_=>.exc x st
 | .stuck,_=>.stuck
@[simp] theorem R.bind_ok {α β:Type} (a:α) (st:St) (f:α→St→R β):(R.ok a st).bind f = f a st:=by rw [R.bind]
@[simp] theorem R.bind_exc {α β:Type} (a:Str) (st:St) (f:α→St→R β):(R.exc a st).bind f = .exc a st:=by rw [R.bind]
@[simp] theorem R.bind_stuck {α β:Type} (f:α→St→R β):(R.stuck:R α).bind f = .stuck:=by rw [R.bind]
theorem R.bind_inv {α β:Type} {m:R α} {f:α→St→R β} {b:β} {st':St} (h:m.bind f = .ok b st'):∃ a st,m = .ok a st∧f a st = .ok b st':=by
 cases m with
 | ok a st=>exact ⟨a,st,rfl,h⟩
 | exc x st=>cases h
 | stuck=>cases h
noncomputable def R.lift {α:Type} (o:Option α) (st:St):R α:=match o with | some a=>.ok a st | none=>.stuck
@[simp] theorem R.lift_some {α:Type} (a:α) (st:St):R.lift (some a) st = .ok a st:=by rw [R.lift]
@[simp] theorem R.lift_none {α:Type} (st:St):R.lift (none:Option α) st = .stuck:=by rw [R.lift]
noncomputable def Z4y (o:Obj):Prop:=∃ vs n,o.data = .seq vs n
noncomputable def Tr (σ:List O) (μ:List Addr) (b:Addr):Prop:=∃ (n:Nat) (o:O),σ[n]? = some o∧o.live = true∧μ[n]? = some b
mutual
inductive RepV (T:Addr→Prop) (μ:List Addr) (h:Heap):Value→V→Prop
 | none:RepV T μ h .none .none
 | bool (b):RepV T μ h (.bool b) (.bool b)
 | int (i t):RepV T μ h (.int i t) (.int i)
 | str (x t):PyData.strOk x = true→x.length ≤ sizeLine→RepV T μ h (.str x t) (.str x.cps.toList)
 | tup {a o vs n xs}:h.get? a = some o→o.cls = .type "tuple"→o.data = .seq vs n→vs.size ≤ sizeLine→¬ T a→RepVs T μ h vs.toList xs→RepV T μ h (.ref a) (.tup xs)
 | lst {a o vs n xs}:h.get? a = some o→o.cls = .type "list"→o.data = .seq vs n→vs.size ≤ sizeLine→¬ T a→RepVs T μ h vs.toList xs→RepV T μ h (.ref a) (.lst xs)
 | ref {n a}:μ[n]? = some a→RepV T μ h (.ref a) (.ref n)
inductive RepVs (T:Addr→Prop) (μ:List Addr) (h:Heap):List Value→List V→Prop
 | nil:RepVs T μ h [] []
 | cons {v vs x xs}:RepV T μ h v x→RepVs T μ h vs xs→RepVs T μ h (v :: vs) (x :: xs)
end
noncomputable def OutV (T:Addr→Prop) (μ:List Addr) (h:Heap) (v:Value):V→Prop
 | .none=>v = .none
 | .bool b=>v = .bool b
 | .int i=>∃ t,v = .int i t
 | .str l=>∃ x t,v = .str x t∧x.cps.toList = l∧PyData.strOk x = true∧x.length ≤ sizeLine
 | .tup xs=>∃ a o vs n,v = .ref a∧h.get? a = some o∧o.cls = .type "tuple"∧o.data = .seq vs n∧vs.size ≤ sizeLine∧¬ T a∧RepVs T μ h vs.toList xs
 | .lst xs=>∃ a o vs n,v = .ref a∧h.get? a = some o∧o.cls = .type "list"∧o.data = .seq vs n∧vs.size ≤ sizeLine∧¬ T a∧RepVs T μ h vs.toList xs
 | .ref n=>∃ a,v = .ref a∧μ[n]? = some a
noncomputable def ZdK (T:Addr→Prop) (μ:List Addr) (h:Heap) (vs:List Value):List V→Prop
 | []=>vs = []
 | x :: xs=>∃ v us,vs = v :: us∧RepV T μ h v x∧RepVs T μ h us xs
section
variable {T:Addr→Prop} {μ:List Addr} {h:Heap} {v:Value} {x:V}
theorem RepV.out (r:RepV T μ h v x):OutV T μ h v x :=
 RepV.casesOn (motive_1:=fun v x _=>OutV T μ h v x) r rfl (fun _=>rfl) (fun _ t=>⟨t,rfl⟩) (fun x t a b=>⟨x,t,rfl,rfl,a,b⟩) (fun a b c d e f=>⟨_,_,_,_,rfl,a,b,c,d,e,f⟩) (fun a b c d e f=>⟨_,_,_,_,rfl,a,b,c,d,e,f⟩) (fun e=>⟨_,rfl,e⟩)
theorem RepVs.out {vs:List Value} {xs:List V} (r:RepVs T μ h vs xs):ZdK T μ h vs xs :=
 RepVs.casesOn (motive_2:=fun vs xs _=>ZdK T μ h vs xs) r rfl (fun a b=>⟨_,_,rfl,a,b⟩)
theorem RepV.refI {n:Nat} (r:RepV T μ h v (.ref n)):∃ a,v = .ref a∧μ[n]? = some a:=r.out
theorem RepV.refA {a:Addr} {n:Nat} (r:RepV T μ h (.ref a) (.ref n)):μ[n]? = some a:=let ⟨_,e,k⟩:=r.refI; Value.ref.inj e ▸ k
theorem RepV.tupI {xs:List V} (r:RepV T μ h v (.tup xs)):∃ a o vs n,v = .ref a∧h.get? a = some o∧o.cls = .type "tuple"∧o.data = .seq vs n∧vs.size ≤ sizeLine∧¬ T a∧RepVs T μ h vs.toList xs:=r.out
theorem RepV.lstI {xs:List V} (r:RepV T μ h v (.lst xs)):∃ a o vs n,v = .ref a∧h.get? a = some o∧o.cls = .type "list"∧o.data = .seq vs n∧vs.size ≤ sizeLine∧¬ T a∧RepVs T μ h vs.toList xs:=r.out
theorem RepVs.consI {vs:List Value} {xs:List V} (r:RepVs T μ h vs (x :: xs)):∃ v us,vs = v :: us∧RepV T μ h v x∧RepVs T μ h us xs:=r.out
end
section
variable {T T':Addr→Prop} {μ μ':List Addr} {h h':Heap}
theorem RepVs.ind {M:List Value→List V→Prop} (hn:M [] []) (hc:∀ {v vs x xs},RepV T μ h v x→RepVs T μ h vs xs→M vs xs→M (v :: vs) (x :: xs)) {vs:List Value} {xs:List V} (r:RepVs T μ h vs xs):M vs xs :=
 RepVs.rec (motive_1:=fun _ _ _=>True) (motive_2:=fun vs xs _=>M vs xs) trivial (fun _=>trivial) (fun _ _=>trivial) (fun _ _ _ _=>trivial) (fun _ _ _ _ _ _ _=>trivial) (fun _ _ _ _ _ _ _=>trivial) (fun _=>trivial) hn (fun a r _ ih=>hc a r ih) r
theorem RepVs.length {vs:List Value} {xs:List V} (r:RepVs T μ h vs xs):vs.length = xs.length :=
 RepVs.ind (M:=fun vs xs=>vs.length = xs.length) rfl (fun _ _ ih=>congrArg (· + 1) ih) r
theorem RepVs.get {vs:List Value} {xs:List V} (r:RepVs T μ h vs xs):∀ {i:Nat} {x:V},xs[i]? = some x→∃ v,vs[i]? = some v∧RepV T μ h v x :=
 RepVs.ind (M:=fun vs xs=>∀ {i:Nat} {x:V},xs[i]? = some x→∃ v,vs[i]? = some v∧RepV T μ h v x) (fun e=>by simp at e) (fun {v vs y ys} a _ ih {i x} e=>by
  cases i with
  | zero=>cases e; exact ⟨v,rfl,a⟩
  | succ i=>exact ih (i:=i) e) r
theorem RepVs.of_get:∀ {vs:List Value} {xs:List V},vs.length = xs.length→(∀ (i:Nat) (v:Value) (y:V),vs[i]? = some v→xs[i]? = some y→RepV T μ h v y)→RepVs T μ h vs xs
 | [],[],_,_=>.nil
 | [],_ :: _,e,_=>by cases e
 | _ :: _,[],e,_=>by cases e
 | v :: vs,x :: xs,e,k=>.cons (k 0 v x rfl rfl) (RepVs.of_get (Nat.succ.inj e) fun i v y a b=>k (i + 1) v y a b)
theorem RepVs.append {vs:List Value} {xs:List V} {us:List Value} {ys:List V} (r:RepVs T μ h vs xs) (y:RepVs T μ h us ys):RepVs T μ h (vs++us) (xs++ys) :=
 RepVs.ind (M:=fun vs xs=>RepVs T μ h (vs++us) (xs++ys)) y (fun a _ ih=>.cons a ih) r
theorem RepVs.take (k:Nat) {vs:List Value} {xs:List V} (r:RepVs T μ h vs xs):RepVs T μ h (vs.take k) (xs.take k) :=
 RepVs.ind (M:=fun vs xs=>∀ k,RepVs T μ h (vs.take k) (xs.take k)) (fun k=>by rw [List.take_nil,List.take_nil]; exact .nil) (fun a _ ih k=>by
  cases k with
  | zero=>exact .nil
  | succ k=>exact .cons a (ih k)) r k
theorem RepVs.drop (k:Nat) {vs:List Value} {xs:List V} (r:RepVs T μ h vs xs):RepVs T μ h (vs.drop k) (xs.drop k) :=
 RepVs.ind (M:=fun vs xs=>∀ k,RepVs T μ h (vs.drop k) (xs.drop k)) (fun k=>by rw [List.drop_nil,List.drop_nil]; exact .nil) (fun a r ih k=>by
  cases k with
  | zero=>exact .cons a r
  | succ k=>exact ih k) r k
theorem RepV.move (hl:∀ a o,h.get? a = some o→Z4y o→¬ T a→h'.get? a = some o∧¬ T' a) (hr:∀ (n:Nat) (a:Addr),μ[n]? = some a→μ'[n]? = some a) {v:Value} {x:V} (r:RepV T μ h v x):RepV T' μ' h' v x :=
 RepV.rec (motive_1:=fun v x _=>RepV T' μ' h' v x) (motive_2:=fun vs xs _=>RepVs T' μ' h' vs xs) .none .bool .int .str
  (fun ho hc hd hz hT _ ih=>.tup (hl _ _ ho ⟨_,_,hd⟩ hT).1 hc hd hz (hl _ _ ho ⟨_,_,hd⟩ hT).2 ih) (fun ho hc hd hz hT _ ih=>.lst (hl _ _ ho ⟨_,_,hd⟩ hT).1 hc hd hz (hl _ _ ho ⟨_,_,hd⟩ hT).2 ih) (fun e=>.ref (hr _ _ e)) .nil (fun _ _ a b=>.cons a b) r
theorem RepVs.move (hl:∀ a o,h.get? a = some o→Z4y o→¬ T a→h'.get? a = some o∧¬ T' a) (hr:∀ (n:Nat) (a:Addr),μ[n]? = some a→μ'[n]? = some a) {vs:List Value} {xs:List V} (r:RepVs T μ h vs xs):RepVs T' μ' h' vs xs :=
 RepVs.ind (M:=fun vs xs=>RepVs T' μ' h' vs xs) .nil (fun a _ ih=>.cons (a.move hl hr) ih) r
end
inductive Slot where
 | d (D:Addr) (n:Str)
 | c (a:Addr)
noncomputable def Slot.own:Slot→Addr
 | .d D _=>D
 | .c a=>a
noncomputable def Slot.Holds (h:Heap) (v:Value):Slot→Prop
 | .d D n=>∃ m,h.Ns D m∧m n = some v
 | .c a=>h.IsCell a (some v)
noncomputable def Slot.Ok (h:Heap):Slot→Prop
 | .d D _=>∃ m,h.Ns D m
 | .c a=>∃ v,h.IsCell a v
theorem Slot.Ok.get {h:Heap} {s:Slot} (x:s.Ok h):∃ o,h.get? s.own = some o∧((∃ es n,o.data = .dict es n) ∨ ∃ v,o.data = .cell v):=by
 cases s with
 | d D n=>obtain ⟨m,o,es,ep,ho,hd,_⟩:=x; exact ⟨o,ho,.inl ⟨es,ep,hd⟩⟩
 | c a=>obtain ⟨v,o,ho,hd⟩:=x; exact ⟨o,ho,.inr ⟨v,hd⟩⟩
theorem Slot.Ok.keeps {h h':Heap} {s:Slot} (x:s.Ok h) (hk:∀ o,h.get? s.own = some o→h'.get? s.own = some o):s.Ok h':=by
 cases s with
 | d D n=>obtain ⟨m,hm⟩:=x; exact ⟨m,hm.at' hk⟩
 | c a=>obtain ⟨v,o,ho,hd⟩:=x; exact ⟨v,o,hk o ho,hd⟩
theorem Slot.Holds.keeps {h h':Heap} {v:Value} {s:Slot} (x:s.Holds h v) (hk:∀ o,h.get? s.own = some o→h'.get? s.own = some o):s.Holds h' v:=by
 cases s with
 | d D n=>obtain ⟨m,hm,e⟩:=x; exact ⟨m,hm.at' hk,e⟩
 | c a=>obtain ⟨o,ho,hd⟩:=x; exact ⟨o,hk o ho,hd⟩
noncomputable def oV:Option Int→V
 | none=>.none
 | some i=>.int i
noncomputable def iV:KI→V
 | .inl i=>.int i
 | .inr l=>.tup (l.map .int)
noncomputable def kV:Ky→V
 | .inl o=>oV o
 | .inr l=>.tup (l.map iV)
noncomputable def keyE (x:Ky × Value × Value):DictEntry:=⟨kH x.1,x.2.1,x.2.2⟩
structure KLay (o:Obj) (xs:List (Ky × Value × Value)) (ys:List (Ky × V)):Prop where
 dict:o.ExactDict
 data:∃ es ep,o.data = .dict es ep∧es.toList = xs.map keyE
 nd:(xs.map (·.1)).Nodup
 len:xs.length ≤ sizeLine
 keys:xs.map (·.1) = ys.map (·.1)
inductive Lay:Obj→List Value→List V→O→Prop
 | lst {vs:Array Value} {n:Nat} {xs:List V}:vs.size ≤ sizeLine→Lay { cls:=.type "list",data:=.seq vs n } vs.toList xs (.lst xs)
 | kdict {o:Obj} {xs ys}:KLay o xs ys→Lay o (xs.map (·.2.1)++xs.map (·.2.2)) (ys.map (fun y=>kV y.1)++ys.map (·.2)) (.kdict ys)
inductive RepO (T:Addr→Prop) (μ:List Addr) (h:Heap) (a:Addr):O→Prop
 | dead:RepO T μ h a .dead
 | priv:RepO T μ h a .priv
 | live {o vs xs ob}:h.get? a = some o→Lay o vs xs ob→RepVs T μ h vs xs→RepO T μ h a ob
theorem RepO.lst {T:Addr→Prop} {μ:List Addr} {h:Heap} {a:Addr} {vs:Array Value} {n:Nat} {xs:List V} (ho:h.get? a = some { cls:=.type "list",data:=.seq vs n }) (hz:vs.size ≤ sizeLine) (r:RepVs T μ h vs.toList xs):RepO T μ h a (.lst xs):=.live ho (.lst hz) r
noncomputable def OutO (T:Addr→Prop) (μ:List Addr) (h:Heap) (a:Addr):O→Prop
 | .lst xs=>∃ (vs:Array Value) (n:Nat),h.get? a = some { cls:=.type "list",data:=.seq vs n }∧vs.size ≤ sizeLine∧RepVs T μ h vs.toList xs
 | .kdict ys=>∃ o xs,h.get? a = some o∧KLay o xs ys∧RepVs T μ h (xs.map (·.2.1)++xs.map (·.2.2)) (ys.map (fun y=>kV y.1)++ys.map (·.2))
 | .dead=>True
 | .priv=>True
section
variable {T T':Addr→Prop} {μ μ':List Addr} {h h':Heap} {a:Addr} {ob:O}
theorem Lay.out {o:Obj} {vs:List Value} {xs:List V} (L:Lay o vs xs ob):h.get? a = some o→RepVs T μ h vs xs→OutO T μ h a ob :=
 Lay.casesOn (motive:=fun o vs xs ob _=>h.get? a = some o→RepVs T μ h vs xs→OutO T μ h a ob) L (fun hz ho r=>⟨_,_,ho,hz,r⟩) (fun hK ho r=>⟨_,_,ho,hK,r⟩)
theorem RepO.out (r:RepO T μ h a ob):OutO T μ h a ob :=
 RepO.casesOn (motive:=fun ob _=>OutO T μ h a ob) r trivial trivial fun ho L r=>L.out ho r
theorem RepO.lst_inv {xs:List V} (x:RepO T μ h a (.lst xs)):∃ (vs:Array Value) (n:Nat),h.get? a = some { cls:=.type "list",data:=.seq vs n }∧vs.size ≤ sizeLine∧RepVs T μ h vs.toList xs:=x.out
theorem RepO.map (r:RepO T μ h a ob) (f:∀ o,h.get? a = some o→h'.get? a = some o) (g:∀ vs xs,RepVs T μ h vs xs→RepVs T' μ' h' vs xs):RepO T' μ' h' a ob :=
 RepO.casesOn (motive:=fun ob _=>RepO T' μ' h' a ob) r .dead .priv fun ho L r=>.live (f _ ho) L (g _ _ r)
end
structure Cx where
 prog:Program
 w:World
 base:Heap
 A:Around
 env:Env
 sl:Nat→Option Slot
noncomputable def Own (c:Cx) (b:Addr):Prop:=∃ i s,c.sl i = some s∧s.own = b
structure Inv (c:Cx) (st:St) (μ:List Addr) (h:Heap):Prop where
 vars:∀ (i:Nat) (x:V),st.ρ[i]? = some (some x)→∃ s v,c.sl i = some s∧s.Holds h v∧RepV (Tr st.σ μ) μ h v x
 slots:∀ i s,c.sl i = some s→s.Ok h
 objs:∀ (n:Nat) (o:O),st.σ[n]? = some o→∃ a,μ[n]? = some a∧RepO (Tr st.σ μ) μ h a o
 len:μ.length = st.σ.length
 nd:μ.Nodup
 lt:∀ a ∈ μ,a < h.objs.size
 base:∀ b o,c.base.get? b = some o→h.get? b = some o
 baseS:∀ b,Own c b→c.base.get? b = none
 baseM:∀ a ∈ μ,c.base.get? a = none
 sep:∀ b,Own c b→b ∉ μ
structure Stp (c:Cx) (σ:List O) (μ:List Addr) (h:Heap) (σ':List O) (μ':List Addr) (h':Heap):Prop where
 size:h.objs.size ≤ h'.objs.size
 keep:∀ b o,h.get? b = some o→¬ Own c b→¬ Tr σ μ b→h'.get? b = some o
 pre:∀ (n:Nat) (a:Addr),μ[n]? = some a→μ'[n]? = some a
 tr:∀ b,Tr σ' μ' b→Tr σ μ b ∨ h.objs.size ≤ b
 new:∀ a ∈ μ',a ∈ μ ∨ h.objs.size ≤ a
 pv:∀ (n:Nat),σ[n]? = some O.priv→σ'[n]? = some O.priv
 pk:∀ (n:Nat) (a:Addr) (o:Obj),σ[n]? = some O.priv→μ[n]? = some a→h.get? a = some o→h'.get? a = some o
theorem Z4c {σ:List O} {n:Nat} {o o':O} (e:σ[n]? = some o) (h:o ≠ .priv):∀ (k:Nat),σ[k]? = some O.priv→(σ.set n o')[k]? = some O.priv:=fun k q=>by
 have:n ≠ k:=fun x=>by subst x; rw [e] at q; exact h (Option.some.inj q)
 rw [List.getElem?_set_ne this]; exact q
theorem Tr.mem {σ:List O} {μ:List Addr} {b:Addr} (x:Tr σ μ b):b ∈ μ:=let ⟨_,_,_,_,e⟩:=x; List.mem_of_getElem? e
theorem Stp.refl {c:Cx} {σ:List O} {μ:List Addr} {h:Heap}:Stp c σ μ h σ μ h:=⟨Nat.le_refl _,fun _ _ e _ _=>e,fun _ _ e=>e,fun _ e=>.inl e,fun _ e=>.inl e,fun _ e=>e,fun _ _ _ _ _ e=>e⟩
theorem Stp.trans {c:Cx} {σ σ' σ'':List O} {μ μ' μ'':List Addr} {h h' h'':Heap} (x:Stp c σ μ h σ' μ' h') (y:Stp c σ' μ' h' σ'' μ'' h''):Stp c σ μ h σ'' μ'' h'' where
 size:=Nat.le_trans x.size y.size
 keep:=fun b o e h1 h2=>y.keep b o (x.keep b o e h1 h2) h1 fun q=>(x.tr b q).elim h2 fun q=>Nat.lt_irrefl _ (Nat.lt_of_lt_of_le (Heap.lt_size e) q)
 pre:=fun n a e=>y.pre n a (x.pre n a e)
 tr:=fun b q=>(y.tr b q).elim (fun q=>x.tr b q) fun q=>.inr (Nat.le_trans x.size q)
 new:=fun a q=>(y.new a q).elim (fun q=>x.new a q) fun q=>.inr (Nat.le_trans x.size q)
 pv:=fun n e=>y.pv n (x.pv n e)
 pk:=fun n a o e e' e''=>y.pk n a o (x.pv n e) (x.pre n a e') (x.pk n a o e e' e'')
section
variable {c:Cx} {st st':St} {μ μ':List Addr} {h h':Heap}
theorem Inv.own_data (I:Inv c st μ h) {b:Addr} (q:Own c b) {o:Obj} (e:h.get? b = some o):¬ Z4y o:=by
 refine El.x2_2 q fun i s hs q0z=>?_
 obtain rfl:=q0z
 refine El.x1_2 ((I.slots i s hs).get) fun o' ho hd=>?_
 obtain rfl:=Option.some.inj (e.symm.trans ho)
 rintro ⟨vs,n,hq⟩; rcases hd with ⟨es,n',hd⟩ | ⟨v,hd⟩ <;> rw [hd] at hq <;> cases hq
theorem RepV.step (I:Inv c st μ h) (S:Stp c st.σ μ h st'.σ μ' h') {v:Value} {x:V} (r:RepV (Tr st.σ μ) μ h v x):RepV (Tr st'.σ μ') μ' h' v x :=
 r.move (fun a o e hd hT=>⟨S.keep a o e (fun q=>I.own_data q e hd) hT,fun q=>(S.tr a q).elim hT fun q=>Nat.lt_irrefl _ (Nat.lt_of_lt_of_le (Heap.lt_size e) q)⟩) S.pre
theorem RepVs.step (I:Inv c st μ h) (S:Stp c st.σ μ h st'.σ μ' h') {v:List Value} {x:List V} (r:RepVs (Tr st.σ μ) μ h v x):RepVs (Tr st'.σ μ') μ' h' v x :=
 r.move (fun a o e hd hT=>⟨S.keep a o e (fun q=>I.own_data q e hd) hT,fun q=>(S.tr a q).elim hT fun q=>Nat.lt_irrefl _ (Nat.lt_of_lt_of_le (Heap.lt_size e) q)⟩) S.pre
noncomputable def Ext (h h':Heap):Prop:=h.objs.size ≤ h'.objs.size∧∀ b o,h.get? b = some o→h'.get? b = some o
theorem Ext.refl:Ext h h:=⟨Nat.le_refl _,fun _ _ e=>e⟩
theorem Ext.trans {h'':Heap} (x:Ext h h') (y:Ext h' h''):Ext h h'':=⟨Nat.le_trans x.1 y.1,fun b o e=>y.2 b o (x.2 b o e)⟩
theorem Ext.push (o:Obj):Ext h (h.push o):=⟨by simp,fun _ _ e=>Heap.get?_push_of_some _ e⟩
theorem RepV.ext {T:Addr→Prop} (e:Ext h h') {v:Value} {x:V} (r:RepV T μ h v x):RepV T μ h' v x :=
 r.move (fun a o q _ hT=>⟨e.2 a o q,hT⟩) fun _ _ q=>q
theorem RepVs.ext {T:Addr→Prop} (e:Ext h h') {v:List Value} {x:List V} (r:RepVs T μ h v x):RepVs T μ h' v x :=
 r.move (fun a o q _ hT=>⟨e.2 a o q,hT⟩) fun _ _ q=>q
theorem RepO.ext {T:Addr→Prop} (e:Ext h h') {a:Addr} {o:O} (r:RepO T μ h a o):RepO T μ h' a o:=r.map (fun _ ho=>e.2 _ _ ho) fun _ _ r=>r.ext e
theorem Inv.ext (I:Inv c st μ h) (e:Ext h h'):Inv c st μ h' where
 vars:=fun i x q=>let ⟨s,v,h1,h2,h3⟩:=I.vars i x q; ⟨s,v,h1,h2.keeps fun o q=>e.2 _ o q,h3.ext e⟩
 slots:=fun i s q=>(I.slots i s q).keeps fun o q=>e.2 _ o q
 objs:=fun n o q=>let ⟨a,h1,h2⟩:=I.objs n o q; ⟨a,h1,h2.ext e⟩
 len:=I.len
 nd:=I.nd
 lt:=fun a q=>Nat.lt_of_lt_of_le (I.lt a q) e.1
 base:=fun b o q=>e.2 b o (I.base b o q)
 baseS:=I.baseS
 baseM:=I.baseM
 sep:=I.sep
theorem Stp.ext (e:Ext h h') {σ:List O}:Stp c σ μ h σ μ h':=⟨e.1,fun b o q _ _=>e.2 b o q,fun _ _ q=>q,fun _ q=>.inl q,fun _ q=>.inl q,fun _ q=>q,fun _ a o _ _ q=>e.2 a o q⟩
end
noncomputable def Same (s s':Shared):Prop:=s'.gens = s.gens∧s'.drawn = s.drawn∧s'.os = s.os
theorem Same.refl {s:Shared}:Same s s:=⟨rfl,rfl,rfl⟩
theorem Same.trans {s s' s'':Shared} (x:Same s s') (y:Same s' s''):Same s s'':=⟨y.1.trans x.1,y.2.1.trans x.2.1,y.2.2.trans x.2.2⟩
noncomputable def Sim {α β:Type} (c:Cx) (t:Sem α) (m:R β) (rel:St→List Addr→Heap→α→β→Prop) (σ:List O) (μ:List Addr) (s:Shared):Prop :=
 match m with
 | .stuck=>True
 | .exc _ _=>True
 | .ok b st'=>wpAny (model c.prog c.w) c.A t (fun a s'=>∃ μ',rel st' μ' s'.heap a b∧Inv c st' μ' s'.heap∧Stp c σ μ s.heap st'.σ μ' s'.heap∧Same s s') (fun _ _=>False) s
noncomputable def rV (st:St) (μ:List Addr) (h:Heap) (v:Value) (x:V):Prop:=RepV (Tr st.σ μ) μ h v x
noncomputable def rVs (st:St) (μ:List Addr) (h:Heap) (v:List Value) (x:List V):Prop:=RepVs (Tr st.σ μ) μ h v x
noncomputable def rEq {α:Type} (_:St) (_:List Addr) (_:Heap) (v:α) (x:α):Prop:=v = x
section
variable {α β γ δ:Type} {c:Cx} {σ:List O} {μ:List Addr} {s:Shared} {rel:St→List Addr→Heap→α→β→Prop} {rel':St→List Addr→Heap→γ→δ→Prop}
theorem Sim.bind {t:Sem α} {f:α→Sem γ} {m:R β} {g:β→St→R δ} (h:Sim c t m rel σ μ s)
  (hf:∀ b st₁ a μ₁ s₁,m = .ok b st₁→rel st₁ μ₁ s₁.heap a b→Inv c st₁ μ₁ s₁.heap→Stp c σ μ s.heap st₁.σ μ₁ s₁.heap→Sim c (f a) (g b st₁) rel' st₁.σ μ₁ s₁) :
  Sim c (t >>= f) (m.bind g) rel' σ μ s:=by
 cases m with
 | stuck=>trivial
 | exc x st=>trivial
 | ok b st₁=>
  simp only [R.bind_ok]
  cases hg:g b st₁ with
  | stuck=>trivial
  | exc x st=>trivial
  | ok d st₂=>
   refine wpAny_bind (wpAny_mono h (fun a s₁ q8=>El.x1_4 q8 fun μ₁ h1 h2 h3 h4=>?_) fun _ _ e=>e.elim)
   have q:=hf b st₁ a μ₁ s₁ rfl h1 h2 h3
   rw [hg] at q
   exact wpAny_mono q (fun a₂ s₂ q8=>El.x1_4 q8 fun μ₂ k1 k2 k3 k4=>⟨μ₂,k1,k2,h3.trans k3,h4.trans k4⟩) fun _ _ e=>e
theorem Sim.pure {a:α} {b:β} {st:St} (I:Inv c st μ s.heap) (h:rel st μ s.heap a b):Sim c (pure a) (.ok b st) rel st.σ μ s :=
 wpAny_pure ⟨μ,h,I,.refl,.refl⟩
theorem Sim.stuck {t:Sem α}:Sim (β:=β) c t .stuck rel σ μ s:=trivial
theorem Sim.exc {t:Sem α} {x:Str} {st:St}:Sim (β:=β) c t (.exc x st) rel σ μ s:=trivial
theorem Sim.leaf {t:Sem α} {b:β} {st:St} (I:Inv c st μ s.heap)
  (h:wpAny (model c.prog c.w) c.A t (fun a s'=>Ext s.heap s'.heap∧Same s s'∧rel st μ s'.heap a b) (fun _ _=>False) s):Sim c t (.ok b st) rel st.σ μ s :=
 wpAny_mono h (fun _ _ ⟨e,q,r⟩=>⟨μ,r,I.ext e,.ext e,q⟩) fun _ _ e=>e
theorem Sim.holding {vs:List Value} {t:Sem α} {m:R β} (h:Sim c t m rel σ μ s):Sim c (holding vs t) m rel σ μ s:=by
 cases m with
 | stuck=>trivial
 | exc x st=>trivial
 | ok b st=>exact wpAny_holding h
theorem Sim.at {p:Pos} {f:Unit→Sem α} {m:R β} (h:Sim c (f ()) m rel σ μ s):Sim c (standAt p >>= f) m rel σ μ s:=by
 cases m with
 | stuck=>trivial
 | exc x st=>trivial
 | ok b st=>exact wpAny_bind (wpAny_standAt h)
theorem Sim.operate {vs:List Value} {t:Sem Value} {m:R β} {rel:St→List Addr→Heap→Value→β→Prop} (h:Sim c t m rel σ μ s):Sim c (operate vs t) m rel σ μ s:=by
 cases m with
 | stuck=>trivial
 | exc x st=>trivial
 | ok b st=>exact fun Γ p hΓ=>by rw [Sem.wp_operate]; exact h Γ p hΓ
theorem Sim.release {vs keep:List Value} {f:Unit→Sem α} {m:R β} (h:Sim c (f ()) m rel σ μ s):Sim c (release vs keep >>= f) m rel σ μ s:=by
 cases m with
 | stuck=>trivial
 | exc x st=>trivial
 | ok b st=>exact wpAny_bind (fun Γ p _=>by rw [Sem.wp_release]; exact h)
theorem Sim.via {t:Sem α} {T:Sem γ} {f:α→Sem γ} {m:R β} {g:β→St→R δ}
  (hT:∀ Q:γ→Shared→Prop,wpAny (model c.prog c.w) c.A t (fun a s₁=>wpAny (model c.prog c.w) c.A (f a) Q (fun _ _=>False) s₁) (fun _ _=>False) s→wpAny (model c.prog c.w) c.A T Q (fun _ _=>False) s)
  (h:Sim c t m rel σ μ s)
  (hf:∀ b st₁ a μ₁ s₁,m = .ok b st₁→rel st₁ μ₁ s₁.heap a b→Inv c st₁ μ₁ s₁.heap→Stp c σ μ s.heap st₁.σ μ₁ s₁.heap→Sim c (f a) (g b st₁) rel' st₁.σ μ₁ s₁) :
  Sim c T (m.bind g) rel' σ μ s:=by
 cases m with
 | stuck=>trivial
 | exc x st=>trivial
 | ok b st₁=>
  simp only [R.bind_ok]
  cases hg:g b st₁ with
  | stuck=>trivial
  | exc x st=>trivial
  | ok d st₂=>
   refine hT _ (wpAny_mono h (fun a s₁ q8=>El.x1_4 q8 fun μ₁ h1 h2 h3 h4=>?_) fun _ _ e=>e.elim)
   have q:=hf b st₁ a μ₁ s₁ rfl h1 h2 h3
   rw [hg] at q
   exact wpAny_mono q (fun a₂ s₂ q8=>El.x1_4 q8 fun μ₂ k1 k2 k3 k4=>⟨μ₂,k1,k2,h3.trans k3,h4.trans k4⟩) fun _ _ e=>e
theorem Sim.imp {T T':Sem α} {m:R β} (hT:∀ Q:α→Shared→Prop,wpAny (model c.prog c.w) c.A T Q (fun _ _=>False) s→wpAny (model c.prog c.w) c.A T' Q (fun _ _=>False) s) (h:Sim c T m rel σ μ s):Sim c T' m rel σ μ s:=by
 cases m with
 | stuck=>trivial
 | exc x st=>trivial
 | ok b st=>exact hT _ h
theorem Sim.of_eq {t t':Sem α} {m:R β} (e:t = t') (h:Sim c t' m rel σ μ s):Sim c t m rel σ μ s:=e ▸ h
theorem Sim.map {t:Sem α} {m:R β} {f:α→γ} {g:β→δ} (h:Sim c t m rel σ μ s) (hr:∀ st μ h a b,rel st μ h a b→rel' st μ h (f a) (g b)) :
  Sim c (t >>= fun a=>Pure.pure (f a)) (m.bind fun b st=>.ok (g b) st) rel' σ μ s :=
 Sim.bind h fun b st₁ a μ₁ s₁ _ r I _=>Sim.pure I (hr _ _ _ _ _ r)
end
end Mine
namespace Mine
open PySem
inductive Op | add | mul | fdiv | mod | pow
inductive Cm | lt | gt | ge | eq | ne | is | isnot | isin | notin
inductive Ty | int | bool | list | tuple | str
inductive Bi | len | int | list | tuple | max
inductive Me | join | append
mutual
inductive Ex
 | none
 | bool (b:Bool)
 | int (i:Int)
 | str (s:Str)
 | loc (i:Nat)
 | fz (i:Nat)
 | bin (op:Op) (a b:Ex)
 | cmp (op:Cm) (a b:Ex)
 | band (a b:Ex)
 | bor (a b:Ex)
 | not (a:Ex)
 | neg (i:Int)
 | ite (c a b:Ex)
 | tup (es:Exs)
 | list (es:Exs)
 | listM (es:Exs)
 | sub (a i:Ex)
 | slice (a:Ex) (lo hi:Exo)
 | isin (a:Ex) (t:Ty)
 | bi (f:Bi) (a:Ex)
 | me (m:Me) (a b:Ex)
 | call (f:Str) (es:Exs)
 | callD (f:Str) (es:Exs)
 | comp (m:Bool) (elt:Ex) (k:Nat) (it:It)
 | dictK
 | chain (a:Ex) (o1:Cm) (b:Ex) (o2:Cm) (c:Ex)
 | dict1 (a b:Ex)
 | lenSet (a:Ex)
 | listR (a:Ex)
 | setd (a b c:Ex)
 | compH (elt:Ex) (k:Nat) (a:Ex)
inductive Exs
 | nil
 | cons (e:Ex) (es:Exs)
inductive Exo
 | none
 | some (e:Ex)
inductive It
 | val (e:Ex)
 | range1 (a:Ex)
 | enum (a:Ex)
 | zip (a b:Ex)
end
mutual
inductive Sm
 | asg (i:Nat) (e:Ex)
 | asgT (is:List Nat) (e:Ex)
 | expr (e:Ex)
 | ret (e:Ex)
 | ifte (c:Ex) (t f:Sms)
 | for1 (i:Nat) (it:It) (body:Sms)
 | forT (is:List Nat) (it:It) (body:Sms)
 | while (c:Ex) (body:Sms)
 | asgI (a i e:Ex)
inductive Sms
 | nil
 | cons (s:Sm) (ss:Sms)
end
inductive Fl
 | next
 | brk
 | cont
 | ret (v:V)
mutual
noncomputable def V.eqb:V→V→Bool
 | .none,y=>(match y with | .none=>true | _=>false)
 | .bool a,y=>(match y with | .bool b=>a == b | .int j=>(if a then 1 else 0) == j | _=>false)
 | .int i,y=>(match y with | .bool b=>i == (if b then 1 else 0) | .int j=>i == j | _=>false)
 | .str x,y=>(match y with | .str z=>x == z | _=>false)
 | .lst xs,y=>(match y with | .lst ys=>V.eqbs xs ys | _=>false)
 | .tup xs,y=>(match y with | .tup ys=>V.eqbs xs ys | _=>false)
 | .ref _,_=>false
noncomputable def V.eqbs:List V→List V→Bool
 | [],ys=>ys.isEmpty
 | x :: xs,ys=>(match ys with | y :: ys=>V.eqb x y && V.eqbs xs ys | []=>false)
end
mutual
noncomputable def V.depth?:V→Option Nat
 | .tup xs=>(V.depths? xs).map (· + 1)
 | .lst xs=>(V.depths? xs).map (· + 1)
 | .ref _=>Option.none
 | .none=>some 0
 | .bool _=>some 0
 | .int _=>some 0
 | .str _=>some 0
noncomputable def V.depths?:List V→Option Nat
 | []=>some 0
 | x :: xs=>(V.depth? x).bind fun a=>(V.depths? xs).bind fun b=>some (max a b)
end
noncomputable def V.flat64 (x:V):Bool:=x.depth?.any fun d=>decide (d ≤ 64)
noncomputable def lstO:Option O→Option (List V)
 | some (.lst xs)=>some xs
 | _=>none
noncomputable def V.truthy (σ:List O):V→Option Bool
 | .none=>some false
 | .bool b=>some b
 | .int i=>some (i != 0)
 | .str s=>some (!s.isEmpty)
 | .tup xs=>some (!xs.isEmpty)
 | .lst xs=>some (!xs.isEmpty)
 | .ref n=>(lstO σ[n]?).bind fun xs=>some (!xs.isEmpty)
noncomputable def V.isNone:V→Bool
 | .none=>true
 | _=>false
noncomputable def Z10 (i:Int):Bool:=decide (-(2 ^ 63) ≤ i) && decide (i < 2 ^ 63)
noncomputable def Z19 (i:Int):Bool:=decide (-(2 ^ 62) ≤ i) && decide (i < 2 ^ 62)
noncomputable def V.int?:V→Option Int
 | .int i=>some i
 | _=>Option.none
noncomputable def V.str?:V→Option (List Nat)
 | .str l=>some l
 | _=>Option.none
noncomputable def V.tup?:V→Option (List V)
 | .tup l=>some l
 | _=>Option.none
noncomputable def V.lst?:V→Option (List V)
 | .lst l=>some l
 | _=>Option.none
noncomputable def V.ref?:V→Option Nat
 | .ref n=>some n
 | _=>Option.none
noncomputable def Z0p:Option O→Option (List (Ky × V))
 | some (.kdict es)=>some es
 | _=>none
noncomputable def R.need {α β:Type} (o:Option α) (f:α→R β):R β:=match o with
 | some a=>f a
 | none=>.stuck
noncomputable def V.none?:V→Option Unit
 | .none=>some ()
 | _=>Option.none
noncomputable def pick {α β:Type} (o:Option α) (f:α→Option β) (e:Option β):Option β:=match o with
 | some a=>f a
 | none=>e
noncomputable def onI {α:Type} (x y:V) (k:Int→Int→Option α):Option α:=x.int?.bind fun a=>y.int?.bind fun b=>k a b
noncomputable def Z4d (x y:V):Option V:=pick x.int? (fun a=>y.int?.bind fun b=>some (.int (a + b))) <| pick x.str? (fun a=>y.str?.bind fun b=>if a.length + b.length ≤ sizeLine then some (.str (a++b)) else none) <| x.lst?.bind fun a=>y.lst?.bind fun b=>if a.length + b.length ≤ sizeLine then some (.lst (a++b)) else none
noncomputable def Z6y (x y:V):Option V:=onI x y fun a b=>if Z10 a || Z10 b then some (.int (a * b)) else none
noncomputable def Z2R (op:Op) (x y:V):Option V:=match op with
 | .add=>Z4d x y
 | .mul=>Z6y x y
 | .fdiv=>onI x y fun a b=>if b = 0 then none else some (.int (Int.fdiv a b))
 | .mod=>onI x y fun a b=>if b = 0 then none else some (.int (Int.fmod a b))
 | .pow=>onI x y fun a b=>if a = 10∧b = 9 then some (.int (10 ^ 9)) else none
noncomputable def Z11:List V→Option (List Int)
 | []=>some []
 | .int i :: r=>(Z11 r).map (i :: ·)
 | _=>none
noncomputable def Z25:List V→Option (List (List Nat))
 | []=>some []
 | .str x :: r=>(Z25 r).map (x :: ·)
 | _=>none
noncomputable def kiOf (x:V):Option KI:=pick x.int? (fun i=>some (.inl i)) (x.tup?.bind fun l=>(Z11 l).map .inr)
noncomputable def Z7m:List V→Option (List KI)
 | []=>some []
 | x :: r=>(kiOf x).bind fun k=>(Z7m r).bind fun l=>some (k :: l)
noncomputable def Z4z (x:V):Option Ky:=pick x.none? (fun _=>some (.inl none)) <| pick x.int? (fun i=>some (.inl (some i))) (x.tup?.bind fun l=>(Z7m l).map .inr)
noncomputable def Z1f (es:List (Ky × V)) (x:V):Option (Option V):=(Z4z x).bind fun k=>if (es.all fun e=>e.1.isLeft == k.isLeft) = true then some ((es.find? fun q=>q.1 = k).map (·.2)) else none
mutual
noncomputable def V.mapR (d:Nat→Option V):V→Option V
 | .tup xs=>(V.mapRs d xs).map .tup
 | .lst xs=>(V.mapRs d xs).map .lst
 | .ref n=>d n
 | .none=>some .none
 | .bool b=>some (.bool b)
 | .int i=>some (.int i)
 | .str l=>some (.str l)
noncomputable def V.mapRs (d:Nat→Option V):List V→Option (List V)
 | []=>some []
 | x :: xs=>(V.mapR d x).bind fun y=>(V.mapRs d xs).bind fun ys=>some (y :: ys)
end
noncomputable def dz (σ:List O):Nat→V→Option V
 | 0=>V.mapR fun _=>none
 | k + 1=>V.mapR fun n=>(lstO σ[n]?).bind fun xs=>dz σ k (.lst xs)
noncomputable def Z2t (σ:List O) (x y:V):Option Bool:=(dz σ 2 x).bind fun x'=>(dz σ 2 y).bind fun y'=>if (x'.flat64 && y'.flat64) = true then some (V.eqb x' y') else none
noncomputable def inLs (σ:List O) (x y:V):Option Bool:=(dz σ 2 x).bind fun x'=>(dz σ 2 y).bind fun y'=>if (x'.flat64 && y'.flat64) = true then y'.lst?.bind fun ys=>some (ys.any fun z=>V.eqb z x') else none
noncomputable def inD (σ:List O) (x y:V):Option Bool:=pick (y.ref?.bind fun n=>Z0p σ[n]?) (fun es=>(Z1f es x).map Option.isSome) (inLs σ x y)
noncomputable def Z0r (σ:List O) (op:Cm) (x y:V):Option Bool:=match op with
 | .lt=>onI x y fun a b=>some (decide (a < b))
 | .gt=>onI x y fun a b=>some (decide (a > b))
 | .ge=>onI x y fun a b=>some (decide (a ≥ b))
 | .eq=>Z2t σ x y
 | .ne=>(Z2t σ x y).map not
 | .is=>(match y with | .none=>some x.isNone | _=>none)
 | .isnot=>(match y with | .none=>some (!x.isNone) | _=>none)
 | .isin=>inD σ x y
 | .notin=>(inD σ x y).map not
noncomputable def idxOf {α:Type} (xs:List α) (i:Int):Option α :=
 if Z10 i then (if 0 ≤ i then xs[i.toNat]? else if -(xs.length:Int) ≤ i then xs[(i + xs.length).toNat]? else none) else none
noncomputable def Z0h (σ:List O) (x y:V):Option V:=pick x.tup? (fun xs=>y.int?.bind fun i=>idxOf xs i) <| pick x.lst? (fun xs=>y.int?.bind fun i=>idxOf xs i) <| pick x.str? (fun l=>y.int?.bind fun i=>(idxOf l i).map fun c=>.str [c]) <| x.ref?.bind fun n=>pick (lstO σ[n]?) (fun xs=>y.int?.bind fun i=>idxOf xs i) ((Z0p σ[n]?).bind fun es=>(Z1f es y).bind id)
noncomputable def cutL {α:Type} (xs:List α) (lo hi:Option Int):List α :=
 (xs.drop (lo.elim 0 (clipAt xs.length))).take (hi.elim xs.length (clipAt xs.length) - lo.elim 0 (clipAt xs.length))
noncomputable def Z7J (x:V):Option (Option Int):=pick x.int? (fun i=>some (some i)) (x.none?.bind fun _=>some none)
noncomputable def Z0k (σ:List O) (x lo hi:V):Option V:=(Z7J lo).bind fun l=>(Z7J hi).bind fun h=>pick x.str? (fun x=>some (.str (cutL x l h))) <| pick x.lst? (fun xs=>some (.lst (cutL xs l h))) <| x.ref?.bind fun n=>(lstO σ[n]?).bind fun xs=>some (.lst (cutL xs l h))
noncomputable def ZbT (σ:List O) (t:Ty) (x:V):Option Bool:=match x with
 | .none=>some false
 | .bool _=>(match t with | .int=>some true | .bool=>some true | _=>none)
 | .int _=>(match t with | .int=>some true | .bool=>some false | _=>none)
 | .str _=>(match t with | .int=>some false | .bool=>some false | .str=>some true | _=>none)
 | .tup _=>(match t with | .int=>some false | .bool=>some false | .list=>some false | .tuple=>some true | _=>none)
 | .lst _=>(match t with | .int=>some false | .bool=>some false | .list=>some true | .tuple=>some false | _=>none)
 | .ref n=>(match t with | .list=>(match σ[n]? with | some (.lst _)=>some true | _=>none) | _=>none)
noncomputable def maxL:List Int→Option Int
 | []=>none
 | i :: r=>some (r.foldl max i)
noncomputable def Z0x (σ:List O) (f:Bi) (x:V):Option V:=match f with
 | .len=>pick x.str? (fun x=>some (.int x.length)) <| pick x.tup? (fun xs=>some (.int xs.length)) <| pick x.lst? (fun xs=>some (.int xs.length)) <| x.ref?.bind fun n=>pick (lstO σ[n]?) (fun xs=>some (.int xs.length)) ((Z0p σ[n]?).bind fun es=>some (.int es.length))
 | .int=>(match x with
  | .bool b=>some (.int (if b then 1 else 0))
  | .int i=>some (.int i)
  | _=>none)
 | .list=>pick x.lst? (fun xs=>some (.lst xs)) <| x.ref?.bind fun n=>(lstO σ[n]?).bind fun xs=>some (.lst xs)
 | .tuple=>x.lst?.bind fun xs=>some (.tup xs)
 | .max=>x.lst?.bind fun xs=>(Z11 xs).bind fun l=>(maxL l).bind fun m=>some (.int m)
noncomputable def addF {α:Type} [DecidableEq α] (u:List α) (x:α):List α:=if x ∈ u then u else u++[x]
noncomputable def anyL (σ:List O) (x:V):Option (List V):=pick x.lst? some (x.ref?.bind fun n=>lstO σ[n]?)
noncomputable def Z2i (σ:List O) (x:V):Option Nat:=(anyL σ x).bind fun xs=>(Z11 xs).bind fun l=>if l.length + 1 < scanBound then some (l.foldl addF []).length else none
noncomputable def ZbU (x y:V) (st:St):R V:=match x with
 | .str []=>(match y with
  | .lst xs=>(match Z25 xs with | some l=>if l.flatten.length ≤ sizeLine then .ok (.str l.flatten) st else .stuck | none=>.stuck)
  | _=>.stuck)
 | _=>.stuck
noncomputable def ZdL (x y:V) (st:St):R V:=match x with
 | .ref n=>(match st.σ[n]? with
  | some (.lst xs)=>if xs.length < sizeLine then .ok .none ⟨st.ρ,st.σ.set n (.lst (xs++[y]))⟩ else .stuck
  | _=>.stuck)
 | _=>.stuck
noncomputable def Z0S (m:Me) (x y:V) (st:St):R V:=match m with
 | .join=>ZbU x y st
 | .append=>ZdL x y st
noncomputable def Z58 (σ:List O):Me→V→Bool
 | .append,.ref n=>(match σ[n]? with | some (.lst _)=>true | _=>false)
 | .append,_=>false
 | _,.str _=>true
 | _,_=>false
noncomputable def upTo (a b:Int):List V:=(List.range (b - a).toNat).map fun (k:Nat)=>.int (a + (k:Int))
noncomputable def Z39 (σ:List O):V→Option (List V)
 | .str x=>some (x.map fun c=>.str [c])
 | .lst xs=>some xs
 | .tup xs=>some xs
 | _=>none
noncomputable def Z35 (n:Nat):List V→List V
 | []=>[]
 | x :: xs=>.tup [.int n,x] :: Z35 (n + 1) xs
theorem Z7K (n:Nat):Z35 n [] = []:=rfl
noncomputable def ZbV (x:V) (st:St):R (List V):=R.need x.lst? fun xs=>.ok (Z35 0 xs) ⟨st.ρ,st.σ++[.priv]⟩
noncomputable def zipR (x y:V) (st:St):R (List V):=R.need x.lst? fun xs=>R.need y.lst? fun ys=>.ok ((xs.zip ys).map fun p=>.tup [p.1,p.2]) ⟨st.ρ,st.σ++[.priv]⟩
noncomputable def R.or {α:Type} (m n:R α):R α:=match m with
 | .ok a st=>.ok a st
 | .exc x st=>.exc x st
 | .stuck=>n
noncomputable def Z4e (n:Nat) (x y:V) (st:St):R V:=R.need (Z4z x) fun k=>.ok (.ref n) ⟨st.ρ,st.σ.set n (.kdict [(k,y)])⟩
noncomputable def Z7L (n:Nat) (y v:V) (st:St):R Fl:=R.need (Z0p st.σ[n]?) fun es=>R.need (Z4z y) fun k=>R.need (Z1f es y) fun o=>if (decide (es.length < sizeLine) && o.isNone) = true then .ok .next ⟨st.ρ,st.σ.set n (.kdict (es++[(k,v)]))⟩ else .stuck
noncomputable def Z4A (x y z:V) (st:St):R V:=R.need x.ref? fun n=>R.need (Z0p st.σ[n]?) fun es=>R.need (Z4z y) fun k=>R.need (Z1f es y) fun o=>match o with
 | some w=>.ok w st
 | none=>if es.length < sizeLine then .ok z ⟨st.ρ,st.σ.set n (.kdict (es++[(k,z)]))⟩ else .stuck
noncomputable def setL (n:Nat) (k:Int) (v:V) (st:St):R Fl:=R.need (lstO st.σ[n]?) fun xs=>if 0 ≤ k∧k < xs.length then .ok .next ⟨st.ρ,st.σ.set n (.lst (xs.set k.toNat v))⟩ else .stuck
noncomputable def setI (x y v:V) (st:St):R Fl:=R.need x.ref? fun n=>R.or (Z7L n y v st) (R.need y.int? fun k=>setL n k v st)
noncomputable def setV (st:St) (i:Nat) (x:V):St:=⟨st.ρ.set i (some x),st.σ⟩
abbrev Fn:=Str→List V→List O→R V
noncomputable def Z59 (st:St):List Nat→List V→Option St
 | [],[]=>some st
 | i :: is,x :: xs=>Z59 (setV st i x) is xs
 | _,_=>none
noncomputable def asT (is:List Nat) (x:V) (st:St):R Unit:=R.need x.tup? fun xs=>R.need (Z59 st is xs) fun st'=>.ok () st'
noncomputable def forR (step:V→St→R Fl):List V→St→R Fl
 | [],st=>.ok .next st
 | x :: xs,st=>(step x st).bind fun fl st=>match fl with
  | .next=>forR step xs st
  | .cont=>forR step xs st
  | .brk=>.ok .next st
  | .ret v=>.ok (.ret v) st
noncomputable def rng0 (x:V) (st:St):R (List V):=R.need x.int? fun n=>if Z19 n then .ok (upTo 0 n) st else .stuck
noncomputable def Z3p (x:V):Option V:=x.int?.bind fun n=>if Z19 n∧n.toNat ≤ sizeLine then some (.lst (upTo 0 n)) else none
noncomputable def Z0y (test:St→R Bool) (body:St→R Fl):Nat→St→R Fl
 | 0,_=>.stuck
 | k + 1,st=>(test st).bind fun b st=>if b then (body st).bind fun fl st=>(match fl with
   | .next=>Z0y test body k st
   | .cont=>Z0y test body k st
   | .brk=>.ok .next st
   | .ret v=>.ok (.ret v) st)
  else .ok .next st
noncomputable def Z1x (k n:Nat) (elt:St→R V):List V→St→R Unit
 | [],st=>.ok () st
 | x :: xs,st=>(elt (setV st k x)).bind fun y st=>R.need (lstO st.σ[n]?) fun acc=>if acc.length < sizeLine then Z1x k n elt xs ⟨st.ρ,st.σ.set n (.lst (acc++[y]))⟩ else .stuck
noncomputable def Z44 (m:Bool) (k n:Nat) (st:St):R V:=R.need (lstO st.σ[n]?) fun ys=>if m then .ok (.ref n) ⟨st.ρ.set k none,st.σ⟩ else .ok (.lst ys) ⟨st.ρ.set k none,st.σ.set n .dead⟩
noncomputable def Z7M (x:V) (st:St):R (Nat × List V):=R.need x.ref? fun n=>R.need (lstO st.σ[n]?) fun xs=>.ok (n,xs) ⟨st.ρ,st.σ.set n .priv⟩
noncomputable def Z63 (n:Nat) (xs:List V) (st:St):St:=⟨st.ρ,st.σ.set n (.lst xs)⟩
mutual
noncomputable def V.nol:V→Bool
 | .tup xs=>V.nols xs
 | .lst _=>false
 | .ref _=>true
 | .none=>true
 | .bool _=>true
 | .int _=>true
 | .str _=>true
noncomputable def V.nols:List V→Bool
 | []=>true
 | x :: xs=>V.nol x && V.nols xs
end
noncomputable def O.kill:O→O
 | .priv=>.priv
 | _=>.dead
noncomputable def O.back:O→O
 | .lst xs=>if V.nols xs then .lst xs else .dead
 | _=>.dead
noncomputable def O.gone:O→Bool
 | .priv=>true
 | .dead=>true
 | _=>false
noncomputable def Z36 (F:Str→List V→List O→R V) (f:Str) (args:List V) (σ:List O):R V:=R.need (V.mapRs (fun n=>(lstO σ[n]?).bind fun xs=>dz σ 2 (.lst xs)) args) fun as=>(F f as (σ.map O.kill)).bind fun r st=>
 if (r.nol && (decide (σ.length ≤ st.σ.length) && (st.σ.take σ.length).all O.gone)) = true then .ok r ⟨[],σ++(st.σ.drop σ.length).map O.back⟩ else .stuck
noncomputable def Z04 (m:R V):R Bool:=m.bind fun v st=>R.lift (v.truthy st.σ) st
noncomputable def Z7n (r:R V) (ρ:List (Option V)):R V:=match r with
 | .ok v st=>.ok v ⟨ρ,st.σ⟩
 | .exc x st=>.exc x ⟨ρ,st.σ⟩
 | .stuck=>.stuck
mutual
noncomputable def evE (F:Fn):Ex→St→R V
 | .none,st=>.ok .none st
 | .bool b,st=>.ok (.bool b) st
 | .int i,st=>.ok (.int i) st
 | .str s,st=>.ok (.str s.cps.toList) st
 | .loc i,st=>match st.ρ[i]? with
  | some (some v)=>.ok v st
  | _=>.stuck
 | .fz i,st=>match st.ρ[i]? with
  | some (some (.ref n))=>(match st.σ[n]? with
   | some (.lst xs)=>.ok (.lst xs) ⟨st.ρ.set i (some (.lst xs)),st.σ.set n .dead⟩
   | _=>.stuck)
  | some (some (.lst xs))=>.ok (.lst xs) st
  | _=>.stuck
 | .bin op a b,st=>(evE F a st).bind fun x st=>(evE F b st).bind fun y st=>R.lift (Z2R op x y) st
 | .cmp op a b,st=>(evE F a st).bind fun x st=>(evE F b st).bind fun y st=>R.lift ((Z0r st.σ op x y).map .bool) st
 | .band a b,st=>(evE F a st).bind fun x st=>(R.lift (x.truthy st.σ) st).bind fun t st=>if t then evE F b st else .ok x st
 | .bor a b,st=>(evE F a st).bind fun x st=>(R.lift (x.truthy st.σ) st).bind fun t st=>if t then .ok x st else evE F b st
 | .not a,st=>(Z04 (evE F a st)).bind fun t st=>.ok (.bool (!t)) st
 | .neg i,st=>.ok (.int (-i)) st
 | .ite c a b,st=>(Z04 (evE F c st)).bind fun t st=>if t then evE F a st else evE F b st
 | .tup es,st=>(evEs F es st).bind fun xs st=>if xs.length ≤ sizeLine then .ok (.tup xs) st else .stuck
 | .list es,st=>(evEs F es st).bind fun xs st=>if xs.length ≤ sizeLine then .ok (.lst xs) st else .stuck
 | .listM es,st=>(evEs F es st).bind fun xs st=>if xs.length ≤ sizeLine then .ok (.ref st.σ.length) ⟨st.ρ,st.σ++[.lst xs]⟩ else .stuck
 | .sub a i,st=>(evE F a st).bind fun x st=>(evE F i st).bind fun y st=>R.lift (Z0h st.σ x y) st
 | .slice a lo hi,st=>(evE F a st).bind fun x st=>(evO F lo st).bind fun l st=>(evO F hi st).bind fun h st=>R.lift (Z0k st.σ x l h) st
 | .isin a t,st=>(evE F a st).bind fun x st=>R.lift ((ZbT st.σ t x).map .bool) st
 | .bi f a,st=>(evE F a st).bind fun x st=>R.lift (Z0x st.σ f x) st
 | .me m a b,st=>(evE F a st).bind fun x st=>if Z58 st.σ m x then (evE F b st).bind fun y st=>Z0S m x y st else .stuck
 | .call f es,st=>(evEs F es st).bind fun xs st=>Z7n (F f xs st.σ) st.ρ
 | .callD f es,st=>(evEs F es st).bind fun xs st=>Z7n (Z36 F f xs st.σ) st.ρ
 | .dictK,st=>.ok (.ref st.σ.length) ⟨st.ρ,st.σ++[.kdict []]⟩
 | .chain a o1 b o2 c,st=>(evE F a st).bind fun x st=>(evE F b st).bind fun y st=>(R.lift (Z0r st.σ o1 x y) st).bind fun t st=>if t then (evE F c st).bind fun z st=>R.lift ((Z0r st.σ o2 y z).map .bool) st else .ok (.bool false) st
 | .dict1 a b,st=>(evE F a ⟨st.ρ,st.σ++[.priv]⟩).bind fun x st₁=>(evE F b st₁).bind fun y st₂=>Z4e st.σ.length x y st₂
 | .lenSet a,st=>(evE F a st).bind fun x st=>(R.lift (Z2i st.σ x) st).bind fun (k:Nat) st=>.ok (.int (k:Int)) st
 | .listR a,st=>(evE F a st).bind fun x st=>R.lift (Z3p x) st
 | .setd a b c,st=>(evE F a st).bind fun x st=>R.need (x.ref?.bind fun n=>Z0p st.σ[n]?) fun _=>(evE F b st).bind fun y st=>(evE F c st).bind fun z st=>Z4A x y z st
 | .comp m elt k it,st=>(evIt F it st).bind fun items st=>(Z1x k st.σ.length (evE F elt) items ⟨st.ρ.set k none,st.σ++[.lst []]⟩).bind fun _ st'=>Z44 m k st.σ.length st'
 | .compH elt k a,st=>((evE F a st).bind fun x st=>Z7M x st).bind fun q st=>(Z1x k st.σ.length (evE F elt) q.2 ⟨st.ρ.set k none,st.σ++[.lst []]⟩).bind fun _ st'=>(Z44 false k st.σ.length st').bind fun y st'=>.ok y (Z63 q.1 q.2 st')
noncomputable def evEs (F:Fn):Exs→St→R (List V)
 | .nil,st=>.ok [] st
 | .cons e es,st=>(evE F e st).bind fun x st=>(evEs F es st).bind fun xs st=>.ok (x :: xs) st
noncomputable def evO (F:Fn):Exo→St→R V
 | .none,st=>.ok .none st
 | .some e,st=>evE F e st
noncomputable def evIt (F:Fn):It→St→R (List V)
 | .val e,st=>(evE F e st).bind fun x st=>R.lift (Z39 st.σ x) st
 | .range1 a,st=>(evE F a st).bind fun x st=>rng0 x st
 | .enum a,st=>(evE F a st).bind fun x st=>ZbV x st
 | .zip a b,st=>(evE F a st).bind fun x st=>(evE F b st).bind fun y st=>zipR x y st
end
mutual
noncomputable def evS (F:Fn) (K:Nat):Sm→St→R Fl
 | .asg i e,st=>(evE F e st).bind fun x st=>.ok .next (setV st i x)
 | .asgT is e,st=>(evE F e st).bind fun x st=>(asT is x st).bind fun _ st=>.ok .next st
 | .expr e,st=>(evE F e st).bind fun _ st=>.ok .next st
 | .ret e,st=>(evE F e st).bind fun x st=>.ok (.ret x) st
 | .ifte c t f,st=>(Z04 (evE F c st)).bind fun b st=>if b then evSs F K t st else evSs F K f st
 | .for1 i it body,st=>(evIt F it st).bind fun items st=>forR (fun x st=>evSs F K body (setV st i x)) items st
 | .forT is it body,st=>(evIt F it st).bind fun items st=>forR (fun x st=>(asT is x st).bind fun _ st=>evSs F K body st) items st
 | .while c body,st=>Z0y (fun st=>Z04 (evE F c st)) (fun st=>evSs F K body st) K st
 | .asgI a i e,st=>(evE F e st).bind fun v st=>(evE F a st).bind fun x st=>(evE F i st).bind fun y st=>setI x y v st
noncomputable def evSs (F:Fn) (K:Nat):Sms→St→R Fl
 | .nil,st=>.ok .next st
 | .cons s ss,st=>(evS F K s st).bind fun fl st=>match fl with
  | .next=>evSs F K ss st
  | f=>.ok f st
end
structure Def where
 name:Str
 params:List Str
 locals:List Str
 slots:Nat
 body:Sms
 globs:List (Str × Int)
mutual
noncomputable def V.lo (n:Nat):V→Bool
 | .ref k=>decide (k < n)
 | .tup xs=>V.los n xs
 | .lst xs=>V.los n xs
 | .none=>true
 | .bool _=>true
 | .int _=>true
 | .str _=>true
noncomputable def V.los (n:Nat):List V→Bool
 | []=>true
 | x :: xs=>V.lo n x && V.los n xs
end
noncomputable def Fl.val:Fl→V
 | .ret v=>v
 | _=>.none
noncomputable def O.lo (n:Nat):O→Bool
 | .lst xs=>V.los n xs
 | .kdict es=>V.los n (es.map (fun y=>kV y.1)++es.map (·.2))
 | .dead=>true
 | .priv=>true
noncomputable def Z0m (F:Fn) (K:Nat) (d:Def) (args:List V) (σ:List O):R V :=
 if args.length = d.params.length then
  (evSs F K d.body ⟨args.map some++List.replicate (d.slots - args.length) none,σ⟩).bind fun fl st=>
   if fl.val.lo σ.length && (st.σ.take σ.length).all (O.lo σ.length) then .ok fl.val ⟨[],st.σ.take σ.length⟩ else .ok fl.val ⟨[],st.σ⟩
 else .stuck
noncomputable def Z1w (defs:List Def) (K:Nat):Nat→Fn
 | 0=>fun _ _ _=>.stuck
 | n + 1=>fun f args σ=>R.need (defs.find? fun d=>d.name == f) fun d=>Z0m (Z1w defs K n) K d args σ
theorem Z6z (defs:List Def) (K n:Nat) (f:Str) (args:List V) (σ:List O):Z1w defs K (n + 1) f args σ = (R.need (defs.find? fun d=>d.name == f) fun d=>Z0m (Z1w defs K n) K d args σ):=Eq.trans rfl rfl
theorem Z7N {x:V} {i:Unit} (h:x.none? = some i):x = .none:=by cases x <;> cases h; rfl
theorem Z0Q {x:V} {i:Int} (h:x.int? = some i):x = .int i:=by cases x <;> cases h; rfl
theorem Z5a {x:V} {i:List Nat} (h:x.str? = some i):x = .str i:=by cases x <;> cases h; rfl
theorem Z5b {x:V} {i:List V} (h:x.tup? = some i):x = .tup i:=by cases x <;> cases h; rfl
theorem Z1v {x:V} {i:List V} (h:x.lst? = some i):x = .lst i:=by cases x <;> cases h; rfl
theorem Z1y {x:V} {i:Nat} (h:x.ref? = some i):x = .ref i:=by cases x <;> cases h; rfl
theorem Z12 {o:Option O} {i:List V} (h:lstO o = some i):o = some (.lst i):=by
 cases o with
 | none=>cases h
 | some o=>cases o <;> cases h; rfl
theorem Z1h {o:Option O} {i:List (Ky × V)} (h:Z0p o = some i):o = some (.kdict i):=by
 cases o with
 | none=>cases h
 | some o=>cases o <;> cases h; rfl
section
variable {α β:Type} {b:α} {st st':St} {G:Prop}
theorem Z07 {o:Option β} {f:β→R α} (h:R.need o f = .ok b st') (k:∀ a,o = some a→f a = .ok b st'→G):G:=by
 cases o with
 | none=>cases h
 | some a=>exact k a rfl h
theorem Z0j {o:Option β} {a:β} {f:β→R α} (h:o = some a):R.need o f = f a:=by subst h; rfl
theorem ZdM {m n:R α} (h:R.or m n = .ok b st') (k1:m = .ok b st'→G) (k2:n = .ok b st'→G):G:=by
 cases m with
 | ok a s=>exact k1 h
 | exc x s=>cases h
 | stuck=>exact k2 h
theorem Z7o {c:Prop} [Decidable c] {m:R α} (h:(if c then m else .stuck) = .ok b st') (k:c→m = .ok b st'→G):G:=by
 by_cases hc:c
 ·rw [if_pos hc] at h; exact k hc h
 ·rw [if_neg hc] at h; cases h
theorem Z0c {γ:Type} {d:γ} {o:Option β} {f:β→Option γ} {e:Option γ} (h:pick o f e = some d) (k1:∀ a,o = some a→f a = some d→G) (k2:e = some d→G):G:=by
 cases o with
 | none=>exact k2 h
 | some a=>exact k1 a rfl h
theorem bnd {γ:Type} {d:γ} {o:Option β} {f:β→Option γ} (h:o.bind f = some d) (k:∀ a,o = some a→f a = some d→G):G:=by
 cases o with
 | none=>cases h
 | some a=>exact k a rfl h
theorem Z1n {γ:Type} {d:γ} {c:Prop} [Decidable c] {m:Option γ} (h:(if c then m else none) = some d) (k:c→m = some d→G):G:=by
 by_cases hc:c
 ·rw [if_pos hc] at h; exact k hc h
 ·rw [if_neg hc] at h; cases h
theorem ok1 {c:α} (h:R.ok b st = .ok c st'):c = b:=(R.ok.inj h).1.symm
theorem ok2 {c:α} (h:R.ok b st = .ok c st'):st' = st:=(R.ok.inj h).2.symm
end
theorem Sim.lift {α β:Type} {c:Cx} {t:Sem α} {o:Option β} {st:St} {rel:St→List Addr→Heap→α→β→Prop} {σ:List O} {μ:List Addr} {s:Shared} (h:∀ b,o = some b→Sim c t (.ok b st) rel σ μ s):Sim c t (R.lift o st) rel σ μ s:=by
 cases o with
 | none=>trivial
 | some b=>exact h b rfl
theorem Sim.ok {α β:Type} {c:Cx} {t:Sem α} {m:R β} {rel:St→List Addr→Heap→α→β→Prop} {σ:List O} {μ:List Addr} {s:Shared} (h:∀ b st',m = .ok b st'→Sim c t (.ok b st') rel σ μ s):Sim c t m rel σ μ s:=by
 cases m with
 | stuck=>trivial
 | exc x st=>trivial
 | ok b st'=>exact h b st' rfl
theorem Z9K {x:V} {st st':St} {xs:List V} (h:rng0 x st = .ok xs st'):∃ n,x = .int n∧Z19 n = true∧xs = upTo 0 n∧st' = st :=
 Z07 h fun n en h=>Z7o h fun hs h=>⟨n,Z0Q en,hs,ok1 h,ok2 h⟩
theorem ZbW {is:List Nat} {x:V} {st st':St} (h:asT is x st = .ok () st'):∃ xs,x = .tup xs∧Z59 st is xs = some st' :=
 Z07 h fun xs ex h=>Z07 h fun s e h=>⟨xs,Z5b ex,e.trans (congrArg some (ok2 h).symm)⟩
theorem Z5c:∀ {xs:List V} {l:List Int},Z11 xs = some l→xs = l.map .int
 | [],l,e=>by cases e; rfl
 | x :: xs,l,e=>by
  cases x <;> try (cases e; done)
  obtain ⟨l',h1,h2⟩:=Option.map_eq_some_iff.mp e
  rw [← h2,Z5c h1]; rfl
theorem ZbX {x:V} {k:KI} (h:kiOf x = some k):x = iV k:=Z0c h (fun i hi h=>by cases h; exact Z0Q hi) fun h=>bnd h fun l hl h=>El.x1_2 (Option.map_eq_some_iff.mp h) fun m hm e=>by rw [Z5b hl,Z5c hm,← e]; rfl
theorem Z6A:∀ {l:List V} {k:List KI},Z7m l = some k→l = k.map iV
 | [],k,h=>by cases h; rfl
 | x :: r,k,h=>bnd h fun a ha h=>bnd h fun b hb h=>by cases h; rw [ZbX ha,Z6A hb]; rfl
theorem Z9L {x:V} {k:Ky} (h:Z4z x = some k):x = kV k:=Z0c h (fun u hu h=>by cases h; exact Z7N hu) fun h=>Z0c h (fun i hi h=>by cases h; exact Z0Q hi) fun h=>bnd h fun l hl h=>El.x1_2 (Option.map_eq_some_iff.mp h) fun m hm e=>by rw [Z5b hl,Z6A hm,← e]; rfl
theorem Z3a {es:List (Ky × V)} {x:V} {o:Option V} (h:Z1f es x = some o):∃ k,Z4z x = some k∧x = kV k∧(∀ e ∈ es,e.1.isLeft = k.isLeft)∧o = (es.find? fun q=>q.1 = k).map (·.2) :=
 bnd h fun k hk h=>Z1n h fun ha h=>⟨k,hk,Z9L hk,fun e he=>eq_of_beq (List.all_eq_true.mp ha e he),(Option.some.inj h).symm⟩
theorem Z7O (F:Fn) (i:Int) (st:St):evE F (.int i) st = (.ok (.int i) st):=Eq.trans rfl rfl
theorem Z64 (F:Fn) (i:Nat) (st:St):evE F (.loc i) st = (match st.ρ[i]? with
  | some (some v)=>.ok v st
  | _=>.stuck):=Eq.trans rfl rfl
theorem Z7P (F:Fn) (i:Nat) (st:St):evE F (.fz i) st = (match st.ρ[i]? with
  | some (some (.ref n))=>(match st.σ[n]? with
   | some (.lst xs)=>.ok (.lst xs) ⟨st.ρ.set i (some (.lst xs)),st.σ.set n .dead⟩
   | _=>.stuck)
  | some (some (.lst xs))=>.ok (.lst xs) st
  | _=>.stuck):=Eq.trans rfl rfl
theorem ZbY (F:Fn) (op:Op) (a b:Ex) (st:St):evE F (.bin op a b) st = ((evE F a st).bind fun x st=>(evE F b st).bind fun y st=>R.lift (Z2R op x y) st):=Eq.trans rfl rfl
theorem Z9M (F:Fn) (es:Exs) (st:St):evE F (.list es) st = ((evEs F es st).bind fun xs st=>if xs.length ≤ sizeLine then .ok (.lst xs) st else .stuck):=Eq.trans rfl rfl
theorem ZbZ (F:Fn) (a i:Ex) (st:St):evE F (.sub a i) st = ((evE F a st).bind fun x st=>(evE F i st).bind fun y st=>R.lift (Z0h st.σ x y) st):=Eq.trans rfl rfl
theorem Z7Q (F:Fn) (st:St):evE F .dictK st = (.ok (.ref st.σ.length) ⟨st.ρ,st.σ++[.kdict []]⟩):=Eq.trans rfl rfl
theorem Z7R (F:Fn) (a:Ex) (o1:Cm) (b:Ex) (o2:Cm) (c:Ex) (st:St):evE F (.chain a o1 b o2 c) st = ((evE F a st).bind fun x st=>(evE F b st).bind fun y st=>(R.lift (Z0r st.σ o1 x y) st).bind fun t st=>if t then (evE F c st).bind fun z st=>R.lift ((Z0r st.σ o2 y z).map .bool) st else .ok (.bool false) st):=Eq.trans rfl rfl
theorem Z7S (F:Fn) (a b:Ex) (st:St):evE F (.dict1 a b) st = ((evE F a ⟨st.ρ,st.σ++[.priv]⟩).bind fun x st₁=>(evE F b st₁).bind fun y st₂=>Z4e st.σ.length x y st₂):=Eq.trans rfl rfl
theorem Z3b (F:Fn) (m:Bool) (elt:Ex) (k:Nat) (it:It) (st:St):evE F (.comp m elt k it) st = ((evIt F it st).bind fun items st=>(Z1x k st.σ.length (evE F elt) items ⟨st.ρ.set k none,st.σ++[.lst []]⟩).bind fun _ st'=>Z44 m k st.σ.length st'):=Eq.trans rfl rfl
theorem Z5d (F:Fn) (elt:Ex) (k:Nat) (a:Ex) (st:St):evE F (.compH elt k a) st = (((evE F a st).bind fun x st=>Z7M x st).bind fun q st=>(Z1x k st.σ.length (evE F elt) q.2 ⟨st.ρ.set k none,st.σ++[.lst []]⟩).bind fun _ st'=>(Z44 false k st.σ.length st').bind fun y st'=>.ok y (Z63 q.1 q.2 st')):=Eq.trans rfl rfl
theorem Z9N (F:Fn)  (st:St):evEs F (.nil) st = (.ok [] st):=Eq.trans rfl rfl
theorem Z7T (F:Fn) (e:Ex) (es:Exs) (st:St):evEs F (.cons e es) st = ((evE F e st).bind fun x st=>(evEs F es st).bind fun xs st=>.ok (x :: xs) st):=Eq.trans rfl rfl
theorem Z65 (F:Fn) (K:Nat) (i:Nat) (e:Ex) (st:St):evS F K (.asg i e) st = ((evE F e st).bind fun x st=>.ok .next (setV st i x)):=Eq.trans rfl rfl
theorem Zc0 (F:Fn) (K:Nat) (e:Ex) (st:St):evS F K (.ret e) st = ((evE F e st).bind fun x st=>.ok (.ret x) st):=Eq.trans rfl rfl
theorem Z1i (F:Fn) (K:Nat) (s:Sm) (ss:Sms) (st:St):evSs F K (.cons s ss) st = ((evS F K s st).bind fun fl st=>match fl with
  | .next=>evSs F K ss st
  | f=>.ok f st):=Eq.trans rfl rfl
theorem Z5e (k n:Nat) (e:St→R V) (st:St):Z1x k n e [] st = .ok () st:=Eq.trans rfl rfl
theorem Z2u (k n:Nat) (e:St→R V) (x:V) (xs:List V) (st:St):Z1x k n e (x :: xs) st = (e (setV st k x)).bind fun y st=>R.need (lstO st.σ[n]?) fun acc=>if acc.length < sizeLine then Z1x k n e xs ⟨st.ρ,st.σ.set n (.lst (acc++[y]))⟩ else .stuck:=Eq.trans rfl rfl
theorem Z05 (t:St→R Bool) (b:St→R Fl) (k:Nat) (st:St):Z0y t b (k + 1) st = (t st).bind fun c st=>if c then (b st).bind fun fl st=>(match fl with
   | .next=>Z0y t b k st
   | .cont=>Z0y t b k st
   | .brk=>.ok .next st
   | .ret v=>.ok (.ret v) st)
  else .ok .next st:=Eq.trans rfl rfl
theorem Z0C (step:V→St→R Fl) (st:St):forR step [] st = .ok .next st:=Eq.trans rfl rfl
theorem Z0i (step:V→St→R Fl) (x:V) (xs:List V) (st:St):forR step (x :: xs) st = (step x st).bind fun fl st=>match fl with
  | .next=>forR step xs st
  | .cont=>forR step xs st
  | .brk=>.ok .next st
  | .ret v=>.ok (.ret v) st:=Eq.trans rfl rfl
theorem Z0D {α β:Type} (m:R α) {f g:α→St→R β} (h:∀ a st,f a st = g a st):m.bind f = m.bind g:=congrArg m.bind (funext fun a=>funext fun st=>h a st)
theorem Z2S {σ:List O} {n:Nat} {i:Int} {xs:List V} (h:σ[n]? = some (.lst xs)):Z0h σ (.ref n) (.int i) = idxOf xs i:=by
 show pick (lstO σ[n]?) _ _ = _
 rw [h]; rfl
theorem Z5f (σ:List O) (x:List V):Z0x σ .len (.lst x) = some (.int x.length):=Eq.trans rfl rfl
theorem Z7U {xs:List V} {l:List (List Nat)} (h:Z25 xs = some l) (hz:l.flatten.length ≤ sizeLine) (st:St):Z0S .join (.str []) (.lst xs) st = .ok (.str l.flatten) st:=by
 show (match Z25 xs with | some l=>if l.flatten.length ≤ sizeLine then .ok (.str l.flatten) st else .stuck | none=>.stuck:R V) = _
 rw [h]; exact if_pos hz
theorem Z09 (ρ:List (Option V)) (σ:List O) (n:Nat) (xs:List V) (y:V) (h:σ[n]? = some (.lst xs)) (hl:xs.length < sizeLine):Z0S .append (.ref n) y ⟨ρ,σ⟩ = .ok .none ⟨ρ,σ.set n (.lst (xs++[y]))⟩:=by
 show (match σ[n]? with | some (.lst xs)=>if xs.length < sizeLine then .ok .none ⟨ρ,σ.set n (.lst (xs++[y]))⟩ else .stuck | _=>.stuck:R V) = _
 rw [h]; exact if_pos hl
theorem Z0b (σ:List O) (n:Nat) (xs:List V) (h:σ[n]? = some (.lst xs)):Z58 σ .append (.ref n) = true:=by
 show (match σ[n]? with | some (.lst _)=>true | _=>false) = _
 rw [h]
theorem Z2T (σ:List O) (n:Nat) (xs:List V) (h:σ[n]? = some (.lst xs)):Z0x σ .len (.ref n) = some (.int xs.length):=by
 show pick (lstO σ[n]?) _ _ = _
 rw [h]; rfl
theorem Z7V (σ:List O) (n:Nat) (es:List (Ky × V)) (h:σ[n]? = some (.kdict es)):Z0x σ .len (.ref n) = some (.int es.length):=by
 show pick (lstO σ[n]?) _ ((Z0p σ[n]?).bind _) = _
 rw [h]; rfl
theorem ZdN {ρ:List (Option V)} {σ:List O} {n:Nat} {k:Int} {v:V} {xs:List V} (h:σ[n]? = some (.lst xs)) (hk:0 ≤ k∧k < xs.length):setI (.ref n) (.int k) v ⟨ρ,σ⟩ = .ok .next ⟨ρ,σ.set n (.lst (xs.set k.toNat v))⟩:=by
 show R.or (R.need (Z0p σ[n]?) _) (R.need (lstO σ[n]?) _) = _
 rw [Z0j (o:=lstO σ[n]?) (congrArg lstO h),show Z0p σ[n]? = none from congrArg Z0p h]; exact if_pos hk
theorem Z9O (σ:List O) (x:List Nat) (h):Z0k σ (.str x) .none (.int h) = some (.str (cutL x none (some h))):=Eq.trans rfl rfl
theorem Zc1 (σ:List O) (x:List V) (l h):Z0k σ (.lst x) (.int l) (.int h) = some (.lst (cutL x (some l) (some h))):=Eq.trans rfl rfl
theorem Z9P (σ:List O) (x:List V) (h):Z0k σ (.lst x) .none (.int h) = some (.lst (cutL x none (some h))):=Eq.trans rfl rfl
mutual
theorem V.eqb_refl:∀ x:V,x.lo 0 = true→V.eqb x x = true
 | .none,_=>Eq.trans rfl rfl
 | .bool b,_=>beq_self_eq_true b
 | .int i,_=>beq_self_eq_true i
 | .str s,_=>beq_self_eq_true s
 | .tup xs,h=>V.eqbs_refl xs h
 | .lst xs,h=>V.eqbs_refl xs h
 | .ref n,h=>absurd (of_decide_eq_true (show decide (n < 0) = true from h)) (Nat.not_lt_zero _)
theorem V.eqbs_refl:∀ xs:List V,V.los 0 xs = true→V.eqbs xs xs = true
 | [],_=>Eq.trans rfl rfl
 | x :: xs,h=>Bool.and_eq_true_iff.mpr ⟨V.eqb_refl x (Bool.and_eq_true_iff.mp h).1,V.eqbs_refl xs (Bool.and_eq_true_iff.mp h).2⟩
end
theorem Z4f {n:Nat}:V.lo n .none = true:=Eq.trans rfl rfl
theorem Z0z {n:Nat} (i:Int):V.lo n (.int i) = true:=Eq.trans rfl rfl
theorem Z0v {n:Nat} (i:Bool):V.lo n (.bool i) = true:=Eq.trans rfl rfl
theorem Z1j {n:Nat} (i:List Nat):V.lo n (.str i) = true:=Eq.trans rfl rfl
theorem Z1z {n:Nat} (xs:List V):V.lo n (.tup xs) = V.los n xs:=Eq.trans rfl rfl
theorem Z0d {n:Nat} (xs:List V):V.lo n (.lst xs) = V.los n xs:=Eq.trans rfl rfl
theorem Z13 {n:Nat} (k:Nat):V.lo n (.ref k) = decide (k < n):=Eq.trans rfl rfl
theorem Z0f {n:Nat}:V.los n [] = true:=Eq.trans rfl rfl
theorem Z02 {n:Nat} (x:V) (xs:List V):V.los n (x :: xs) = (V.lo n x && V.los n xs):=Eq.trans rfl rfl
mutual
theorem V.lo_mono {m n:Nat} (h:m ≤ n):∀ x:V,x.lo m = true→x.lo n = true
 | .none,_=>Z4f
 | .bool b,_=>Z0v b
 | .int i,_=>Z0z i
 | .str s,_=>Z1j s
 | .tup xs,q=>by rw [Z1z] at q ⊢; exact V.los_mono h xs q
 | .lst xs,q=>by rw [Z0d] at q ⊢; exact V.los_mono h xs q
 | .ref k,q=>by rw [Z13] at q ⊢; exact decide_eq_true (Nat.lt_of_lt_of_le (of_decide_eq_true q) h)
theorem V.los_mono {m n:Nat} (h:m ≤ n):∀ xs:List V,V.los m xs = true→V.los n xs = true
 | [],_=>Z0f
 | x :: xs,q=>by
  rw [Z02,Bool.and_eq_true] at q ⊢
  exact ⟨V.lo_mono h x q.1,V.los_mono h xs q.2⟩
end
theorem O.lo_mono {m n:Nat} (h:m ≤ n) {o:O} (q:o.lo m = true):o.lo n = true:=by
 cases o with
 | lst xs=>exact V.los_mono h _ q
 | kdict es=>exact V.los_mono h _ q
 | dead=>rfl
 | priv=>rfl
theorem Z9Q (xs:List V):V.depth? (.tup xs) = (V.depths? xs).map (· + 1):=Eq.trans rfl rfl
theorem Z9R (xs:List V):V.depth? (.lst xs) = (V.depths? xs).map (· + 1):=Eq.trans rfl rfl
theorem Z7W:V.depths? [] = some 0:=Eq.trans rfl rfl
theorem Z7p (x:V) (xs:List V):V.depths? (x :: xs) = (V.depth? x).bind fun a=>(V.depths? xs).bind fun b=>some (max a b):=Eq.trans rfl rfl
mutual
theorem Z28 (d:Nat→Option V):∀ x:V,x.lo 0 = true→V.mapR d x = some x
 | .none,_=>Eq.trans rfl rfl
 | .bool b,_=>Eq.trans rfl rfl
 | .int i,_=>Eq.trans rfl rfl
 | .str s,_=>Eq.trans rfl rfl
 | .tup xs,h=>congrArg (Option.map V.tup) (Z4B d xs h)
 | .lst xs,h=>congrArg (Option.map V.lst) (Z4B d xs h)
 | .ref n,h=>absurd (of_decide_eq_true (show decide (n < 0) = true from h)) (Nat.not_lt_zero _)
theorem Z4B (d:Nat→Option V):∀ xs:List V,V.los 0 xs = true→V.mapRs d xs = some xs
 | [],_=>Eq.trans rfl rfl
 | x :: xs,h=>by
  show (V.mapR d x).bind (fun y=>(V.mapRs d xs).bind fun ys=>some (y :: ys)) = _
  rw [Z28 d x (Bool.and_eq_true_iff.mp h).1,Option.bind_some,Z4B d xs (Bool.and_eq_true_iff.mp h).2]; rfl
end
theorem Z37 {σ:List O} {k:Nat} {x:V} (h:x.lo 0 = true):dz σ k x = some x:=by cases k <;> exact Z28 _ x h
theorem eqS {σ:List O} {x y x' y':V} (h1:dz σ 2 x = some x') (h2:dz σ 2 y = some y') (h3:x'.flat64 = true) (h4:y'.flat64 = true):Z2t σ x y = some (V.eqb x' y'):=by
 unfold Z2t
 rw [h1,Option.bind_some,h2,Option.bind_some,h3,h4]; rfl
theorem Z3q (a b:Int) (h:(Z10 a || Z10 b) = true):Z6y (.int a) (.int b) = some (.int (a * b)):=if_pos h
theorem Zc2 (a b:Int) (h:b ≠ 0):Z2R .fdiv (.int a) (.int b) = some (.int (Int.fdiv a b)):=if_neg h
theorem ZdO (a b:Int) (h:b ≠ 0):Z2R .mod (.int a) (.int b) = some (.int (Int.fmod a b)):=if_neg h
theorem Zc3 (x y:List Nat) (h:x.length + y.length ≤ sizeLine):Z4d (.str x) (.str y) = some (.str (x++y)):=if_pos h
theorem Z0I (σ:List O) (xs:List V) (i:Int):Z0h σ (.lst xs) (.int i) = idxOf xs i:=Eq.trans rfl rfl
theorem Z2j {j:Nat} (h:j < 2 ^ 31):Z10 (j:Int) = true:=by
 have h1:(-(2 ^ 63):Int) ≤ (j:Int):=by lia
 have h2:((j:Int):Int) < 2 ^ 63:=by lia
 unfold Z10
 rw [decide_eq_true h1,decide_eq_true h2]; rfl
theorem Z0J {α:Type} (xs:List α) {j:Nat} (h:j < 2 ^ 31):idxOf xs (j:Int) = xs[j]?:=by
 unfold idxOf; rw [if_pos (Z2j h),if_pos (Int.natCast_nonneg j),Int.toNat_natCast]
theorem Z66 {α:Type} (xs:List α) {i:Int} {n:Nat} (hn:0 < n) (hs:n < 2 ^ 31) (hx:n ≤ xs.length):∃ x,idxOf xs (Int.fmod i n) = some x∧x ∈ xs:=by
 have h1:0 ≤ Int.fmod i n:=by rw [Int.fmod_eq_emod_of_nonneg _ (by lia)]; exact Int.emod_nonneg _ (by lia)
 have h2:Int.fmod i n < n:=by rw [Int.fmod_eq_emod_of_nonneg _ (by lia)]; exact Int.emod_lt_of_pos _ (by lia)
 refine El.x1_1 (Int.eq_ofNat_of_zero_le h1) fun k hk=>?_
 have hk':Int.fmod i n = (k:Int):=hk
 have hlt:k < xs.length:=by rw [hk'] at h2; lia
 rw [hk',Z0J xs (by rw [hk'] at h2; lia)]
 exact ⟨xs[k],by simp [hlt],List.getElem_mem hlt⟩
theorem qset (ρ:List (Option V)) (σ:List O) (i:Nat) (x:V):setV ⟨ρ,σ⟩ i x = ⟨ρ.set i (some x),σ⟩:=Eq.trans rfl rfl
noncomputable def Ret (m:R Fl) (r:V) (σ:List O):Prop:=∃ ρ τ,m = .ok (.ret r) ⟨ρ,σ++τ⟩
theorem Z1A {F:Fn} {K:Nat} {d:Def} {args:List V} {σ:List O} {r:V} (hl:args.length = d.params.length)
  (h:Ret (evSs F K d.body ⟨args.map some++List.replicate (d.slots - args.length) none,σ⟩) r σ) (hr:r.lo σ.length = true) (hσ:σ.all (O.lo σ.length) = true):Z0m F K d args σ = .ok r ⟨[],σ⟩:=by
 refine El.x2_1 h fun ρ τ h=>?_
 unfold Z0m
 rw [if_pos hl,h]
 simp only [R.bind_ok,Fl.val,List.take_left',hr,hσ,Bool.and_self,if_true]
theorem Ret.mk {m:R Fl} {r:V} {σ τ:List O} {ρ:List (Option V)} (h:m = .ok (.ret r) ⟨ρ,σ++τ⟩):Ret m r σ:=⟨ρ,τ,h⟩
theorem Ret.mk0 {m:R Fl} {r:V} {σ:List O} {ρ:List (Option V)} (h:m = .ok (.ret r) ⟨ρ,σ⟩):Ret m r σ:=⟨ρ,[],by rw [h,List.append_nil]⟩
theorem Z2k {step:V→St→R Fl} (P:Nat→St→Prop):∀ (xs:List V) (k:Nat) (st:St),(∀ i x st,xs[i]? = some x→P (k + i) st→∃ st',step x st = .ok .next st'∧P (k + i + 1) st')→P k st→∃ st',forR step xs st = .ok .next st'∧P (k + xs.length) st'
 | [],k,st,_,h=>⟨st,Z0C ..,h⟩
 | x :: xs,k,st,hs,h=>by
  refine El.x1_2 (hs 0 x st rfl h) fun st₁ h1 h2=>?_
  obtain ⟨st₂,h3,h4⟩:=Z2k P xs (k + 1) st₁ (fun i y st' hy hP=>by
   have:=hs (i + 1) y st' (by simpa using hy) (by rw [show k + (i + 1) = k + 1 + i from by lia]; exact hP)
   rw [show k + (i + 1) + 1 = k + 1 + i + 1 from by lia] at this
   exact this) h2
  refine ⟨st₂,?_,by rw [List.length_cons,show k + (xs.length + 1) = k + 1 + xs.length from by lia]; exact h4⟩
  rw [Z0i,h1,R.bind_ok]
  exact h3
theorem Z4C:∀ l:List Nat,Z11 (l.map fun n:Nat=>V.int (n:Int)) = some (l.map fun n:Nat=>(n:Int))
 | []=>rfl
 | n :: l=>congrArg (Option.map ((n:Int) :: ·)) (Z4C l)
end Mine
namespace Mine
open PySem PySem.Sem
theorem Z1B {M:Model} {Γ:Ctx} {p:Pos} {t:Sem PySem.Fin} {fs:List Frame} {s s':Shared} {e:End} (h:Runs M Γ p t fs s e s'):s.heap.objs.size ≤ s'.heap.objs.size:=by
 induction h <;> (try simp only [Shared.setGen,Heap.size_push,Heap.size_after_update] at *) <;> lia
theorem Z3r {M:Model} {Γ:Ctx} {p:Pos} {s s':Shared} {r:Result} (h:Returns M Γ p s r s'):s.heap.objs.size ≤ s'.heap.objs.size:=Z1B h
theorem Z4D {M:Model} {Γ:Ctx} {p:Pos} {g:Nat} {r:Resume} {s s':Shared} {res:GenResult} (h:Wakes M Γ p g r s res s'):s.heap.objs.size ≤ s'.heap.objs.size:=by
 unfold Wakes at h
 split at h
 ·exact h.elim
 ·split at h
  ·obtain ⟨e₁,s₁,hr,_,_,rfl⟩:=h; exact (Z1B hr:(s.setGen g .running).heap.objs.size ≤ s₁.heap.objs.size)
  ·rw [h.2]; exact Nat.le_refl _
  ·rw [h.2]; exact Nat.le_refl _
 ·obtain ⟨e₁,s₁,hr,_,_,rfl⟩:=h; exact (Z1B hr:(s.setGen g .running).heap.objs.size ≤ s₁.heap.objs.size)
 ·rw [h.2]; exact Nat.le_refl _
 ·rw [h.2]; exact Nat.le_refl _
theorem Zc4 {α:Type} (M:Model) (Γ:Ctx) (n:Nat) (t:Sem α):∀ (Q:α→Pos→Shared→Prop) (E:Value→Pos→Shared→Prop) (p:Pos) (s:Shared),n ≤ s.heap.objs.size→wp M Γ t Q E p s →
  wp M Γ t (fun a p' s'=>n ≤ s'.heap.objs.size∧Q a p' s') (fun e p' s'=>n ≤ s'.heap.objs.size∧E e p' s') p s:=by
 induction t with
 | pure a=>intro Q E p s hn h; exact ⟨hn,h⟩
 | raise e=>intro Q E p s hn h; exact ⟨hn,h⟩
 | unsupported _=>intro Q E p s _ h; exact h
 | finish _=>intro Q E p s _ h; exact h
 | rule _ k ih=>intro Q E p s hn h; exact ih () Q E p s hn h
 | «at» p' k ih=>intro Q E p s hn h; exact ih () Q E p' s hn h
 | load a _ k ih=>intro Q E p s hn h; obtain ⟨o,ho,h⟩:=h; exact ⟨o,ho,ih o Q E p s hn h⟩
 | update a _ f k ih=>intro Q E p s hn h; exact ⟨h.1,ih () Q E p _ (by simpa using hn) h.2⟩
 | loadIfAlive a k ih=>intro Q E p s hn h; exact ih _ Q E p s hn h
 | point _ k ih=>intro Q E p s hn h; exact ih () Q E p s hn h
 | register _ _=>intro Q E p s _ h; exact h
 | alloc o k ih=>intro Q E p s hn h; exact ih _ Q E p _ (by simp; lia) h
 | fresh k ih=>intro Q E p s hn h; exact ih _ Q E p _ hn h
 | ask k ih=>intro Q E p s hn h; exact ih _ Q E p s hn h
 | choose src m k ih=>intro Q E p s hn h; exact ⟨h.1,ih _ Q E p _ hn h.2⟩
 | os q _ k ih=>intro Q E p s hn h; exact ih _ Q E p _ hn h
 | call c hd _ _ k ih=>intro Q E p s hn h; obtain ⟨r,s',hr,h⟩:=h; exact ⟨r,s',hr,ih r Q E p s' (Nat.le_trans hn (Z3r hr)) h⟩
 | handled own k ih=>intro Q E p s hn h; exact ih _ Q E p s hn h
 | genState g k ih=>intro Q E p s hn h; obtain ⟨st,hs,h⟩:=h; exact ⟨st,hs,ih _ Q E p s hn h⟩
 | newGen c k ih=>intro Q E p s hn h; exact ih _ Q E p _ hn h
 | resume g r _ k ih=>intro Q E p s hn h; obtain ⟨res,s',hw,h⟩:=h; exact ⟨res,s',hw,ih res Q E p s' (Nat.le_trans hn (Z4D hw)) h⟩
 | yield _ _ _ _=>intro Q E p s _ h; exact h
 | stack k ih=>intro Q E p s hn h; exact ih _ Q E p s hn h
 | fork _ _=>intro Q E p s _ h; exact h
 | thread k ih=>intro Q E p s hn h; exact ih _ Q E p s hn h
 | await _ _ _ _ _=>intro Q E p s _ h; exact h
theorem Z03 {α:Type} {M:Model} {A:Around} {s:Shared} {t:Sem α} {Q:α→Shared→Prop} {E:Value→Shared→Prop}
  (h:wpAny M A t (fun a s'=>s.heap.objs.size ≤ s'.heap.objs.size→Q a s') (fun e s'=>s.heap.objs.size ≤ s'.heap.objs.size→E e s') s):wpAny M A t Q E s :=
 fun Γ p hΓ=>Sem.wp_mono M Γ t (fun _ _ _ x=>x.2 x.1) (fun _ _ _ x=>x.2 x.1) p s (Zc4 M Γ s.heap.objs.size t _ _ p s (Nat.le_refl _) (h Γ p hΓ))
end Mine
namespace Mine
open PySem PySem.Calls PyProof.Rows
structure CxOk (c:Cx):Prop where
 pyl:∀ s:Shared,(∀ b o,c.base.get? b = some o→s.heap.get? b = some o)→PylongRoom (model c.prog c.w) c.A s
 hh:c.A.handled = none
 units:c.A.units + 100 < cLine
 sys:∃ o,c.base.get? sysModules = some o
section
variable {c:Cx} {st:St} {μ:List Addr} {s:Shared} {T:Addr→Prop} {h:Heap} {u v:Value}
theorem RepV.int_inv {i:Int} (r:RepV T μ h v (.int i)):∃ t,v = .int i t:=r.out
theorem RepV.bool_inv {b:Bool} (r:RepV T μ h v (.bool b)):v = .bool b:=r.out
theorem RepV.none_inv (r:RepV T μ h v .none):v = .none:=r.out
theorem RepV.str_inv {l:List Nat} (r:RepV T μ h v (.str l)):∃ x t,v = .str x t∧x.cps.toList = l∧PyData.strOk x = true∧x.length ≤ sizeLine:=r.out
theorem RepV.tup_inv {xs:List V} (r:RepV T μ h v (.tup xs)):∃ a vs,v = .ref a∧IsTup h a vs∧vs.size ≤ sizeLine∧RepVs T μ h vs.toList xs :=
 El.x4_7 r.tupI fun a o vs n e ho hc hd hz _ r=>⟨a,vs,e,⟨o,ho,hc,n,hd⟩,hz,r⟩
theorem RepV.lst_inv {xs:List V} (r:RepV T μ h v (.lst xs)):∃ a vs,v = .ref a∧h.IsList a vs∧vs.size ≤ sizeLine∧RepVs T μ h vs.toList xs :=
 El.x4_7 r.lstI fun a o vs n e ho hc hd hz _ r=>⟨a,vs,e,⟨o,ho,hc,n,hd⟩,hz,r⟩
theorem Inv.ref_inv (I:Inv c st μ h) {n:Nat} {xs:List V} (r:RepV T μ h v (.ref n)) (e:st.σ[n]? = some (.lst xs)) :
  ∃ a vs,v = .ref a∧h.PlainList a vs∧vs.size ≤ sizeLine∧RepVs (Tr st.σ μ) μ h vs.toList xs:=by
 refine El.x1_2 r.refI fun a9 e9 q=>?_
 try clear a9
 subst e9
 refine El.x1_2 (I.objs n _ e) fun a ha ro=>?_
 try clear a; try clear e9
 obtain rfl:=Option.some.inj (q.symm.trans ha)
 refine El.x2_3 ro.lst_inv fun vs nn ho hz r=>?_
 exact ⟨_,_,rfl,⟨_,ho⟩,hz,r⟩
end
section
variable {c:Cx} {st:St} {μ:List Addr} {s:Shared} {u v:Value} {t:Sem Value}
theorem Z0q (I:Inv c st μ s.heap) {i:Int} (h:∀ Q:Value→Shared→Prop,(∀ tk n,Q (.int i tk) { s with toks:=n })→wpAny (model c.prog c.w) c.A t Q (fun _ _=>False) s):Sim c t (.ok (.int i) st) rV st.σ μ s :=
 Sim.leaf I (h _ fun tk n=>⟨.refl,.refl,.int i tk⟩)
theorem Z01 (I:Inv c st μ s.heap) {b:Bool} (h:∀ Q:Value→Shared→Prop,(∀ n,Q (.bool b) { s with toks:=n })→wpAny (model c.prog c.w) c.A t Q (fun _ _=>False) s):Sim c t (.ok (.bool b) st) rV st.σ μ s :=
 Sim.leaf I (h _ fun n=>⟨.refl,.refl,.bool b⟩)
theorem Z3c (I:Inv c st μ s.heap) {x:Str} (h1:PyData.strOk x = true) (h2:x.length ≤ sizeLine) {l:List Nat} (e:x.cps.toList = l)
  (h:∀ Q:Value→Shared→Prop,(∀ tk n,Q (.str x tk) { s with toks:=n })→wpAny (model c.prog c.w) c.A t Q (fun _ _=>False) s):Sim c t (.ok (.str l) st) rV st.σ μ s:=by
 subst e
 exact Sim.leaf I (h _ fun tk n=>⟨.refl,.refl,.str x tk h1 h2⟩)
theorem Z3d (I:Inv c st μ s.heap) {x:V} (r:RepV (Tr st.σ μ) μ s.heap v x) (h:∀ Q:Value→Shared→Prop,(∀ n,Q v { s with toks:=n })→wpAny (model c.prog c.w) c.A t Q (fun _ _=>False) s):Sim c t (.ok x st) rV st.σ μ s :=
 Sim.leaf I (h _ fun n=>⟨.refl,.refl,r⟩)
theorem Z2U (I:Inv c st μ s.heap):¬ Tr st.σ μ s.heap.objs.size:=fun q=>Nat.lt_irrefl _ (I.lt _ q.mem)
theorem Z29 (I:Inv c st μ s.heap) {vs:List Value} {xs:List V} (r:RepVs (Tr st.σ μ) μ s.heap vs xs) (hz:vs.length ≤ sizeLine) :
  RepV (Tr st.σ μ) μ (s.heap.push { cls:=.type "list",data:=.seq vs.toArray }) (.ref s.heap.objs.size) (.lst xs) :=
 .lst (Heap.get?_push_size _ rfl) rfl rfl (by simpa using hz) (Z2U I) (by simpa using r.ext (.push _))
theorem Z5g (I:Inv c st μ s.heap) {vs:List Value} {xs:List V} (r:RepVs (Tr st.σ μ) μ s.heap vs xs) (hz:vs.length ≤ sizeLine) :
  RepV (Tr st.σ μ) μ (s.heap.push { cls:=.type "tuple",data:=.seq vs.toArray }) (.ref s.heap.objs.size) (.tup xs) :=
 .tup (Heap.get?_push_size _ rfl) rfl rfl (by simpa using hz) (Z2U I) (by simpa using r.ext (.push _))
end
noncomputable def opM:Op→Operator
 | .add=>.Add
 | .mul=>.Mult
 | .fdiv=>.FloorDiv
 | .mod=>.Mod
 | .pow=>.Pow
theorem Zc5 (x y:Str):(x++y).cps.toList = x.cps.toList++y.cps.toList:=by
 show (x.cps++y.cps).toList = _
 simp
theorem Zc6 (x y:Str):(x++y).length = x.length + y.length:=by
 show (x.cps++y.cps).size = x.cps.size + y.cps.size
 simp
theorem Z5h {x y:Str} (hx:PyData.strOk x = true) (hy:PyData.strOk y = true):PyData.strOk (x++y) = true:=by
 unfold PyData.strOk at *
 rw [Array.all_eq_true_iff_forall_mem] at *
 intro a ha
 rcases Array.mem_append.mp (show a ∈ x.cps++y.cps from ha) with h | h
 ·exact hx a h
 ·exact hy a h
theorem Z3s {i:Int} (h:Z10 i = true):Builtin.Int.intBits i ≤ 64:=by
 simp only [Z10,Bool.and_eq_true,decide_eq_true_eq] at h
 exact intBits_le_64 (by lia) (by lia)
theorem Z0T {n:Nat} (h:n ≤ sizeLine):(n:Int) < 2 ^ 63:=by
 have e:sizeLine = 16777216:=by decide
 lia
section
variable {c:Cx} {st:St} {μ:List Addr} {s:Shared} {u v:Value}
theorem Zc7 {α β} {a:List α} {b:List β} (h:a.length = b.length):a.isEmpty = b.isEmpty:=by
 cases a <;> cases b <;> first | rfl | cases h
theorem Z7X {T:Addr→Prop} {h:Heap} {vs:Array Value} {xs:List V} (r:RepVs T μ h vs.toList xs):(!vs.isEmpty) = !xs.isEmpty:=by
 rw [← Zc7 r.length,Array.isEmpty_toList]
theorem ZdP (x:Str):((x.length:Int) != 0) = !x.cps.toList.isEmpty:=by
 show ((x.cps.size:Int) != 0) = _
 rw [← Array.length_toList]
 cases x.cps.toList with
 | nil=>rfl
 | cons a l=>rw [List.length_cons]; exact (bne_iff_ne).mpr (Int.ofNat_ne_zero.mpr (Nat.succ_ne_zero _))
theorem Z0Y (I:Inv c st μ s.heap) {x:V} (rx:RepV (Tr st.σ μ) μ s.heap u x):Sim c (truthy u) (R.lift (x.truthy st.σ) st) rEq st.σ μ s:=by
 have leaf:∀ b:Bool,(∀ Q:Bool→Shared→Prop,(∀ n,Q b { s with toks:=n })→wpAny (model c.prog c.w) c.A (truthy u) Q (fun _ _=>False) s)→Sim c (truthy u) (.ok b st) rEq st.σ μ s :=
  fun b h=>Sim.leaf I (h _ fun n=>⟨.refl,.refl,rfl⟩)
 cases x with
 | none=>obtain rfl:=rx.none_inv; exact leaf _ fun Q hq=>(fun _ _ _=>hq _)
 | bool b=>obtain rfl:=rx.bool_inv; exact leaf _ fun Q hq=>wpAny_truthy_bool (hq _)
 | int i=>obtain ⟨t,rfl⟩:=rx.int_inv; exact leaf _ fun Q hq=>P.truthy_int (hq _)
 | str l=>
  refine El.x2_4 rx.str_inv fun x t q0 q1 h1 h2=>?_
  subst q0 q1
  exact leaf (!x.cps.toList.isEmpty) fun Q hq=>P.truthy_str (Int.not_le.mpr (Z0T h2)) (by rw [ZdP]; exact hq _)
 | tup xs=>
  refine El.x2_4 rx.tup_inv fun a vs q hl hz r=>?_
  subst q
  exact leaf (!xs.isEmpty) fun Q hq=>PyProof.Rows.truthy_tuple hl (Z0T hz) (by rw [Z7X r]; exact hq _)
 | lst xs=>
  refine El.x2_4 rx.lst_inv fun a vs q hl hz r=>?_
  subst q
  exact leaf (!xs.isEmpty) fun Q hq=>wpAny_truthy_list hl (Z0T hz) (by rw [Z7X r]; exact hq _)
 | ref n=>
  refine Sim.lift fun b hb=>bnd (o:=lstO st.σ[n]?) (f:=fun xs=>some (!xs.isEmpty)) hb fun xs hx hb=>El.x2_4 (I.ref_inv rx (Z12 hx)) fun a vs q hl hz r=>?_
  subst q
  rw [← Option.some.inj hb]
  exact leaf (!xs.isEmpty) fun Q hq=>wpAny_truthy_list hl.isList (Z0T hz) (by rw [Z7X r]; exact hq _)
end
mutual
noncomputable def V.toD:V→PyData
 | .none=>.none
 | .bool b=>.bool b
 | .int i=>.int i
 | .str l=>.str ⟨l.toArray⟩
 | .tup xs=>.tuple (V.toDs xs)
 | .lst xs=>.list (V.toDs xs)
 | .ref _=>.none
noncomputable def V.toDs:List V→List PyData
 | []=>[]
 | x :: xs=>V.toD x :: V.toDs xs
end
mutual
theorem Z3t:∀ (x:V) (n:Nat),x.depth? = some n→x.toD.depth = n
 | .none,n,h=>Option.some.inj h
 | .bool b,n,h=>Option.some.inj h
 | .int i,n,h=>Option.some.inj h
 | .str l,n,h=>Option.some.inj h
 | .tup xs,n,h=>El.x1_2 (Option.map_eq_some_iff.mp (show (V.depths? xs).map (· + 1) = some n from h)) fun m hm q=>(congrArg (· + 1) (Z2v xs m hm)).trans q
 | .lst xs,n,h=>El.x1_2 (Option.map_eq_some_iff.mp (show (V.depths? xs).map (· + 1) = some n from h)) fun m hm q=>(congrArg (· + 1) (Z2v xs m hm)).trans q
 | .ref k,n,h=>by cases h
theorem Z2v:∀ (xs:List V) (n:Nat),V.depths? xs = some n→PyData.depthAll (V.toDs xs) = n
 | [],n,h=>Option.some.inj h
 | x :: xs,n,h=>bnd (o:=x.depth?) h fun a ha h=>bnd (o:=V.depths? xs) h fun b hb h=>by
  show max (PyData.depth x.toD) (PyData.depthAll (V.toDs xs)) = n
  rw [Z3t x a ha,Z2v xs b hb]; exact Option.some.inj h
end
mutual
theorem Z67:∀ (x y:V),(∃ n,x.depth? = some n)→(∃ n,y.depth? = some n)→V.eqb x y = PyData.eqv x.toD y.toD
 | .ref k,y,h,_=>by obtain ⟨_,h⟩:=h; cases h
 | x,.ref k,_,h=>by obtain ⟨_,h⟩:=h; cases h
 | .tup xs,.tup ys,h,h'=>by
  obtain ⟨n,h⟩:=h; obtain ⟨n',h'⟩:=h'
  refine El.x1_2 (Option.map_eq_some_iff.mp (show (V.depths? xs).map (· + 1) = some n from h)) fun m h _=>?_
  refine El.x1_2 (Option.map_eq_some_iff.mp (show (V.depths? ys).map (· + 1) = some n' from h')) fun m' h' _=>?_
  exact Z4E xs ys ⟨m,h⟩ ⟨m',h'⟩
 | .lst xs,.lst ys,h,h'=>by
  obtain ⟨n,h⟩:=h; obtain ⟨n',h'⟩:=h'
  refine El.x1_2 (Option.map_eq_some_iff.mp (show (V.depths? xs).map (· + 1) = some n from h)) fun m h _=>?_
  refine El.x1_2 (Option.map_eq_some_iff.mp (show (V.depths? ys).map (· + 1) = some n' from h')) fun m' h' _=>?_
  exact Z4E xs ys ⟨m,h⟩ ⟨m',h'⟩
 | .str a,.str b,_,_=>by
  show (a == b) = ((⟨a.toArray⟩:Str) == ⟨b.toArray⟩)
  rw [Bool.eq_iff_iff,beq_iff_eq,beq_iff_eq]
  constructor
  ·rintro rfl; rfl
  ·intro h; have:=congrArg (fun x:Str=>x.cps.toList) h; simpa using this
 | .none,.none,_,_ | .none,.bool _,_,_ | .none,.int _,_,_ | .none,.str _,_,_ | .none,.tup _,_,_ | .none,.lst _,_,_=>by rfl
 | .bool _,.none,_,_ | .bool _,.bool _,_,_ | .bool _,.int _,_,_ | .bool _,.str _,_,_ | .bool _,.tup _,_,_ | .bool _,.lst _,_,_=>by rfl
 | .int _,.none,_,_ | .int _,.bool _,_,_ | .int _,.int _,_,_ | .int _,.str _,_,_ | .int _,.tup _,_,_ | .int _,.lst _,_,_=>by rfl
 | .str _,.none,_,_ | .str _,.bool _,_,_ | .str _,.int _,_,_ | .str _,.tup _,_,_ | .str _,.lst _,_,_=>by rfl
 | .tup _,.none,_,_ | .tup _,.bool _,_,_ | .tup _,.int _,_,_ | .tup _,.str _,_,_ | .tup _,.lst _,_,_=>by rfl
 | .lst _,.none,_,_ | .lst _,.bool _,_,_ | .lst _,.int _,_,_ | .lst _,.str _,_,_ | .lst _,.tup _,_,_=>by rfl
theorem Z4E:∀ (xs ys:List V),(∃ n,V.depths? xs = some n)→(∃ n,V.depths? ys = some n)→V.eqbs xs ys = PyData.eqvAll (V.toDs xs) (V.toDs ys)
 | [],[],_,_=>rfl
 | [],_ :: _,_,_=>rfl
 | _ :: _,[],_,_=>rfl
 | x :: xs,y :: ys,h,h'=>by
  obtain ⟨n,h⟩:=h; obtain ⟨n',h'⟩:=h'
  refine bnd (o:=x.depth?) h fun a ha h=>bnd (o:=V.depths? xs) h fun b hb _=>bnd (o:=y.depth?) h' fun a' ha' h'=>bnd (o:=V.depths? ys) h' fun b' hb' _=>?_
  show (V.eqb x y && V.eqbs xs ys) = (PyData.eqv x.toD y.toD && PyData.eqvAll (V.toDs xs) (V.toDs ys))
  rw [Z67 x y ⟨_,ha⟩ ⟨_,ha'⟩,Z4E xs ys ⟨_,hb⟩ ⟨_,hb'⟩]
end
theorem RepV.reads {T:Addr→Prop} {μ:List Addr} {h:Heap} {v:Value} {x:V} (r:RepV T μ h v x):(∃ n,x.depth? = some n)→∃ as,Reads h v x.toD as∧x.toD.canLay0 = true :=
 RepV.rec (motive_1:=fun v x _=>(∃ n,x.depth? = some n)→∃ as,Reads h v x.toD as∧x.toD.canLay0 = true) (motive_2:=fun vs xs _=>(∃ n,V.depths? xs = some n)→∃ as,ReadsAll h vs (V.toDs xs) as∧PyData.canLayAll0 (V.toDs xs) = true)
  (fun _=>⟨[],.none,rfl⟩) (fun b _=>⟨[],.bool b,rfl⟩) (fun i t _=>⟨[],.int i t,rfl⟩) (fun x t h1 h2 _=>⟨[],Reads.str x t,h1⟩)
  (fun {a o vs n xs} ho hc hd hz hT _ ih hn=>by
   refine El.x1_1 hn fun m hm=>?_
   have hm:(V.depths? xs).map (· + 1) = some m:=hm
   refine El.x1_2 (Option.map_eq_some_iff.mp hm) fun k hk _=>?_
   refine El.x1_2 (ih ⟨k,hk⟩) fun as ra rc=>?_
   exact ⟨_,.tuple ho hc hd ra,rc⟩)
  (fun {a o vs n xs} ho hc hd hz hT _ ih hn=>by
   refine El.x1_1 hn fun m hm=>?_
   have hm:(V.depths? xs).map (· + 1) = some m:=hm
   refine El.x1_2 (Option.map_eq_some_iff.mp hm) fun k hk _=>?_
   refine El.x1_2 (ih ⟨k,hk⟩) fun as ra rc=>?_
   exact ⟨_,.list ho hc hd ra,rc⟩)
  (fun _ hn=>by obtain ⟨m,hm⟩:=hn; cases hm) (fun _=>⟨[],.nil,rfl⟩)
  (fun {v vs x xs} _ _ a b hn=>by
   refine El.x1_1 hn fun m hm=>bnd (o:=x.depth?) hm fun p hp hm=>bnd (o:=V.depths? xs) hm fun q hq _=>?_
   refine El.x1_2 (a ⟨_,hp⟩) fun as ra rc=>?_
   refine El.x1_2 (b ⟨_,hq⟩) fun bs rb rd=>?_
   refine ⟨_,.cons ra rb,?_⟩
   show (x.toD.canLay0 && PyData.canLayAll0 (V.toDs xs)) = true
   rw [rc,rd]; rfl) r
theorem Z1a {x:V} (h:x.flat64 = true):∃ n,x.depth? = some n∧n ≤ 64:=by
 unfold V.flat64 at h
 cases hd:x.depth? with
 | none=>rw [hd] at h; cases h
 | some d=>rw [hd] at h; exact ⟨d,rfl,of_decide_eq_true h⟩
noncomputable def cmM:Cm→CmpOp
 | .lt=>.Lt
 | .gt=>.Gt
 | .ge=>.GtE
 | .eq=>.Eq
 | .ne=>.NotEq
 | .is=>.Is
 | .isnot=>.IsNot
 | .isin=>.In
 | .notin=>.NotIn
section
variable {c:Cx} {st:St} {μ:List Addr} {s:Shared} {u v:Value}
theorem Z4g {T:Addr→Prop} {h:Heap} {x:V} (r:RepV T μ h v x):(v == Value.none) = x.isNone:=by
 cases r <;> rfl
theorem Zc8 {β:Type} {α:Type} {rel:St→List Addr→Heap→α→V→Prop} {t:Sem α} {x y:V} {k:Int→Int→Option β} {f:β→V} (h:∀ a b,x = .int a→y = .int b→Sim c t (R.lift ((k a b).map f) st) rel st.σ μ s):Sim c t (R.lift ((onI x y k).map f) st) rel st.σ μ s :=
 Sim.lift fun b hb=>El.x1_2 (Option.map_eq_some_iff.mp hb) fun z hz e=>bnd hz fun i hi hz=>bnd hz fun j hj hz=>by
  have q:=h i j (Z0Q hi) (Z0Q hj)
  rw [hz,Option.map_some,e] at q; exact q
theorem Z7q {T:Addr→Prop} {h:Heap} {vs:List Value} {xs:List V} {l:List (List Nat)} (r:RepVs T μ h vs xs) (e:Z25 xs = some l) :
  ∃ ys:List Str,StrsAre vs ys∧ys.map (fun y=>y.cps.toList) = l∧∀ y ∈ ys,PyData.strOk y = true :=
 RepVs.ind (M:=fun vs xs=>∀ l,Z25 xs = some l→∃ ys:List Str,StrsAre vs ys∧ys.map (fun y=>y.cps.toList) = l∧∀ y ∈ ys,PyData.strOk y = true)
  (fun l e=>⟨[],.nil,Option.some.inj e,fun _ q=>nomatch q⟩)
  (fun {v vs x xs} a _ ih l e=>by
   cases x <;> try (cases e; done)
   rename_i z
   refine El.x1_2 (Option.map_eq_some_iff.mp (show (Z25 xs).map (z :: ·) = some l from e)) fun l' hl' q=>?_
   subst q
   refine El.x2_4 a.str_inv fun y t q8z q9z h1 h2=>?_
   subst q8z q9z
   refine El.x1_3 (ih l' hl') fun ys g1 g2 g3=>?_
   exact ⟨y :: ys,.cons y t g1,congrArg (y.cps.toList :: ·) g2,fun k hk=>(List.mem_cons.mp hk).elim (fun q=>q ▸ h1) (g3 k)⟩) r l e
theorem Z2w {T:Addr→Prop} {h:Heap} {vs:List Value} {xs:List V} {l:List Int} (r:RepVs T μ h vs xs) (e:Z11 xs = some l):IntsAre vs l :=
 RepVs.ind (M:=fun vs xs=>∀ l,Z11 xs = some l→IntsAre vs l) (fun l e=>Option.some.inj e ▸ .nil)
  (fun {v vs x xs} a _ ih l e=>by
   cases x <;> try (cases e; done)
   rename_i z
   refine El.x1_2 (Option.map_eq_some_iff.mp (show (Z11 xs).map (z :: ·) = some l from e)) fun l' hl' q=>?_
   subst q
   refine El.x1_1 a.int_inv fun t q=>?_
   subst q
   exact .cons _ _ (ih l' hl')) r l e
theorem Z9S {prog:Program} {w:World} {vs:List Value} {l:List Int} (r:IntsAre vs l):ItemsAre (intKind prog w) l vs :=
 IntsAre.rec (motive:=fun vs l _=>ItemsAre (intKind prog w) l vs) .nil (fun _ _ _ _ _ ih=>.cons (by simp [intKind,Value.isInt]) ih) r
theorem Z2x:∀ l:List Int,Z11 (l.map .int) = some l
 | []=>rfl
 | i :: l=>by show (Z11 (l.map .int)).map (i :: ·) = _; rw [Z2x l]; rfl
theorem Zc9 (ok:CxOk c) (I:Inv c st μ s.heap) {n:Nat} {d:Addr} (hd:μ[n]? = some d):(d == sysModules) = false:=by
 refine El.x1_1 ok.sys fun o hs=>?_
 rw [beq_eq_false_iff_ne]
 intro e
 rw [← e,I.baseM _ (List.mem_of_getElem? hd)] at hs
 cases hs
theorem RepVs.halves {T:Addr→Prop} {h:Heap} {vs us:List Value} {xs ys:List V} (r:RepVs T μ h (vs++us) (xs++ys)) (e:vs.length = xs.length):RepVs T μ h vs xs∧RepVs T μ h us ys:=by
 have r1:=r.take vs.length
 have r2:=r.drop vs.length
 rw [List.take_left,List.take_left' e.symm] at r1
 rw [List.drop_left,List.drop_left' e.symm] at r2
 exact ⟨r1,r2⟩
theorem Z68 {t:Value→Value→Sem Value} {x y:V} {k:Int→Int→Bool} (I:Inv c st μ s.heap) (rx:RepV (Tr st.σ μ) μ s.heap u x) (ry:RepV (Tr st.σ μ) μ s.heap v y) (h:∀ a b t1 t2 (Q:Value→Shared→Prop),Q (.bool (k a b)) s→wpAny (model c.prog c.w) c.A (t (.int a t1) (.int b t2)) Q (fun _ _=>False) s):Sim c (t u v) (R.lift ((onI x y fun a b=>some (k a b)).map V.bool) st) rV st.σ μ s :=
 Zc8 fun a b ex ey=>El.x1_1 (RepV.int_inv (ex ▸ rx)) fun t1 q1=>El.x1_1 (RepV.int_inv (ey ▸ ry)) fun t2 q2=>by
  rw [q1,q2]; exact Z01 I fun Q hq=>h a b t1 t2 Q (hq _)
theorem RepV.mapR {T T':Addr→Prop} {h:Heap} {d:Nat→Option V} (hT:∀ a,T' a→T a) (hd:∀ n a x,μ[n]? = some a→d n = some x→RepV T' μ h (.ref a) x) {v:Value} {x:V} (r:RepV T μ h v x):∀ y,V.mapR d x = some y→RepV T' μ h v y :=
 RepV.rec (motive_1:=fun v x _=>∀ y,V.mapR d x = some y→RepV T' μ h v y) (motive_2:=fun vs xs _=>∀ ys,V.mapRs d xs = some ys→RepVs T' μ h vs ys)
  (fun y e=>Option.some.inj e ▸ .none) (fun b y e=>Option.some.inj e ▸ .bool b) (fun i t y e=>Option.some.inj e ▸ .int i t) (fun x t h1 h2 y e=>Option.some.inj e ▸ .str x t h1 h2)
  (fun ho hc hd hz hn _ ih y e=>El.x1_2 (Option.map_eq_some_iff.mp e) fun l hl e=>e ▸ .tup ho hc hd hz (fun q=>hn (hT _ q)) (ih l hl))
  (fun ho hc hd hz hn _ ih y e=>El.x1_2 (Option.map_eq_some_iff.mp e) fun l hl e=>e ▸ .lst ho hc hd hz (fun q=>hn (hT _ q)) (ih l hl))
  (fun e y e'=>hd _ _ y e e') (fun y e=>Option.some.inj e ▸ .nil)
  (fun {v vs x xs} _ _ a b y e=>bnd (o:=V.mapR d x) e fun y1 h1 e=>bnd (o:=V.mapRs d xs) e fun ys h2 e=>Option.some.inj e ▸ .cons (a y1 h1) (b ys h2)) r
theorem RepVs.mapR {T T':Addr→Prop} {h:Heap} {d:Nat→Option V} (hT:∀ a,T' a→T a) (hd:∀ n a x,μ[n]? = some a→d n = some x→RepV T' μ h (.ref a) x) {vs:List Value} {xs:List V} (r:RepVs T μ h vs xs):∀ ys,V.mapRs d xs = some ys→RepVs T' μ h vs ys :=
 RepVs.ind (M:=fun vs xs=>∀ ys,V.mapRs d xs = some ys→RepVs T' μ h vs ys) (fun y e=>Option.some.inj e ▸ .nil) (fun {v vs x xs} a _ ih y e=>bnd (o:=V.mapR d x) e fun y1 h1 e=>bnd (o:=V.mapRs d xs) e fun ys h2 e=>Option.some.inj e ▸ .cons (a.mapR hT hd y1 h1) (ih ys h2)) r
theorem Inv.deep {T':Addr→Prop} {h:Heap} (I:Inv c st μ h) (hT:∀ a,T' a→Tr st.σ μ a) (hl:∀ (n:Nat) (a:Addr) (xs:List V),μ[n]? = some a→st.σ[n]? = some (.lst xs)→¬ T' a):∀ (k:Nat) {v:Value} {x y:V},RepV (Tr st.σ μ) μ h v x→dz st.σ k x = some y→RepV T' μ h v y
 | 0,_,_,_,r,e=>r.mapR hT (fun n a x _ e=>by cases e) _ e
 | k + 1,_,_,_,r,e=>r.mapR hT (fun n a x ha e=>bnd e fun xs hx e=>by
   have hσ:=Z12 hx
   refine El.x1_2 (I.objs n _ hσ) fun a' ha' ro=>?_
   obtain rfl:=Option.some.inj (ha.symm.trans ha')
   refine El.x2_3 ro.lst_inv fun vs nn ho hz r=>?_
   have q:dz st.σ k (.lst xs) = some x:=e
   have:∃ d,dz st.σ k = V.mapR d:=by cases k <;> exact ⟨_,rfl⟩
   refine El.x1_1 this fun d hd=>?_
   rw [hd] at q
   refine El.x1_2 (Option.map_eq_some_iff.mp (show (V.mapRs d xs).map V.lst = some x from q)) fun ys hy e=>?_
   have hlen:(V.mapRs d xs).map V.tup = some (.tup ys):=congrArg (Option.map V.tup) hy
   refine e ▸ .lst ho rfl rfl hz (hl n a xs ha hσ) ?_
   have go:∀ {vs:List Value} {xs:List V},RepVs (Tr st.σ μ) μ h vs xs→∀ ys,V.mapRs d xs = some ys→RepVs T' μ h vs ys:=fun r=>RepVs.ind (M:=fun vs xs=>∀ ys,V.mapRs d xs = some ys→RepVs T' μ h vs ys) (fun y e=>Option.some.inj e ▸ .nil)
    (fun {v vs x xs} a _ ih y e=>bnd (o:=V.mapR d x) e fun y1 h1 e=>bnd (o:=V.mapRs d xs) e fun ys h2 e=>Option.some.inj e ▸ .cons (I.deep hT hl k a (by rw [hd]; exact h1)) (ih ys h2)) r
   exact go r ys hy) _ e
theorem Inv.now {h:Heap} (I:Inv c st μ h) {k:Nat} {v:Value} {x y:V} (r:RepV (Tr st.σ μ) μ h v x) (e:dz st.σ k x = some y):RepV (fun _=>False) μ h v y:=I.deep (fun _ q=>q.elim) (fun _ _ _ _ _ q=>q) k r e
theorem Zbk {G:Prop} {T:Addr→Prop} {x y:V} (ok:CxOk c) (rx:RepV T μ s.heap u x) (ry:RepV T μ s.heap v y) (h:(x.flat64 && y.flat64) = true) (k:∀ as bs,Reads s.heap u x.toD as→Reads s.heap v y.toD bs→x.toD.canLay0 = true→y.toD.canLay0 = true→c.A.units + 1 + min x.toD.depth y.toD.depth < cLine→(∀ z,z.flat64 = true→PyData.eqv z.toD x.toD = V.eqb z x)→PyData.eqv x.toD y.toD = V.eqb x y→G):G :=
 El.x0_2 (Bool.and_eq_true_iff.mp h) fun h1 h2=>El.x1_2 (Z1a h1) fun n hn hn'=>El.x1_2 (Z1a h2) fun m hm hm'=>El.x1_2 (rx.reads ⟨_,hn⟩) fun as ra la=>El.x1_2 (ry.reads ⟨_,hm⟩) fun bs rb lb=>k as bs ra rb la lb (by
  rw [Z3t _ _ hn,Z3t _ _ hm]; have:=ok.units; omega) (fun z hz=>El.x1_2 (Z1a hz) fun p hp _=>(Z67 _ _ ⟨_,hp⟩ ⟨_,hn⟩).symm) (Z67 _ _ ⟨_,hn⟩ ⟨_,hm⟩).symm
theorem Zbl {op:CmpOp} {f:Bool→Bool} (ok:CxOk c) (I:Inv c st μ s.heap) {x y:V} (rx:RepV (Tr st.σ μ) μ s.heap u x) (ry:RepV (Tr st.σ μ) μ s.heap v y)
  (hw:∀ {d e:PyData} {as bs:List Addr} {Q:Value→Shared→Prop},Reads s.heap u d as→Reads s.heap v e bs→d.canLay0 = true→e.canLay0 = true→c.A.units + min d.depth e.depth < cLine→Q (.bool (f (PyData.eqv d e))) s→wpAny (model c.prog c.w) c.A (compareOp op u v) Q (fun _ _=>False) s) :
  Sim c (compareOp op u v) (R.lift ((Z2t st.σ x y).map fun b=>V.bool (f b)) st) rV st.σ μ s :=
 Sim.lift fun z h=>El.x1_2 (Option.map_eq_some_iff.mp h) fun b hb e=>bnd hb fun x' hx hb=>bnd hb fun y' hy hb=>Z1n hb fun hf hb=>Zbk ok (I.now rx hx) (I.now ry hy) hf fun as bs ra rb la lb hu _ he=>by
  rw [← e,← Option.some.inj hb,← he]
  exact Z01 I fun Q hq=>hw ra rb la lb (Nat.lt_of_le_of_lt (by omega) hu) (hq _)
theorem Z7Y (x:V):∀ ys:List V,(∀ z ∈ ys,PyData.eqv z.toD x.toD = V.eqb z x)→((V.toDs ys).any fun z=>PyData.eqv z x.toD) = ys.any fun z=>V.eqb z x
 | [],_=>rfl
 | y :: ys,h=>by
  show (PyData.eqv y.toD x.toD || (V.toDs ys).any fun z=>PyData.eqv z x.toD) = (V.eqb y x || ys.any fun z=>V.eqb z x)
  rw [h y List.mem_cons_self,Z7Y x ys fun z hz=>h z (List.mem_cons_of_mem _ hz)]
theorem Z4h:∀ {ys:List V} {n:Nat},V.depths? ys = some n→∀ z ∈ ys,∃ m,z.depth? = some m∧m ≤ n
 | y :: ys,n,h,z,hz=>bnd (o:=y.depth?) h fun a ha h=>bnd (o:=V.depths? ys) h fun b hb h=>by
  have e:=Option.some.inj h
  rcases List.mem_cons.mp hz with rfl | hz
  ·exact ⟨a,ha,by omega⟩
  ·obtain ⟨m,h1,h2⟩:=Z4h hb z hz
   exact ⟨m,h1,by omega⟩
theorem Zca {op:CmpOp} {f:Bool→Bool} (ok:CxOk c) (I:Inv c st μ s.heap) {x y:V} (rx:RepV (Tr st.σ μ) μ s.heap u x) (ry:RepV (Tr st.σ μ) μ s.heap v y)
  (hw:∀ {xs:List PyData} {d:PyData} {as bs:List Addr} {Q:Value→Shared→Prop},Reads s.heap v (.list xs) as→Reads s.heap u d bs→PyData.canLayAll0 xs = true→d.canLay0 = true→c.A.units + 1 + min (PyData.depthAll xs) d.depth < cLine→Q (.bool (f (xs.any fun y=>PyData.eqv y d))) s→wpAny (model c.prog c.w) c.A (compareOp op u v) Q (fun _ _=>False) s) :
  ∀ b,inLs st.σ x y = some b→Sim c (compareOp op u v) (.ok (.bool (f b)) st) rV st.σ μ s:=fun b hb=>bnd hb fun x' hx hb=>bnd hb fun y' hy hb=>Z1n hb fun hf hb=>bnd hb fun ys hl hb=>by
 obtain rfl:=Z1v hl
 refine Zbk ok (I.now rx hx) (I.now ry hy) hf fun as bs ra rb la lb hu hq _=>?_
 have hy2:=(Bool.and_eq_true_iff.mp hf).2
 obtain ⟨n,hn,hn'⟩:=Z1a hy2
 obtain ⟨m,hm,em⟩:=Option.map_eq_some_iff.mp (show (V.depths? ys).map (· + 1) = some n from hn)
 have e:=Z7Y x' ys fun z hz=>hq z (by
  obtain ⟨p,hp,hp'⟩:=Z4h hm z hz
  unfold V.flat64; rw [hp]; exact decide_eq_true (by omega))
 rw [← Option.some.inj hb]
 refine Z01 I fun Q hQ=>hw (xs:=V.toDs ys) rb ra lb la (Nat.lt_of_le_of_lt ?_ hu) ?_
 ·have:(V.lst ys).toD.depth = PyData.depthAll (V.toDs ys) + 1:=rfl
  rw [this]; omega
 ·rw [e]; exact hQ _
end
end Mine
namespace Mine
open PySem PySem.Calls
noncomputable def Z24 (prog:Program) (w:World) (h:Heap) (v:Value):Ky→Prop
 | .inl o=>oIs o v = true
 | .inr l=>∃ a,v = .ref a∧kIs prog w h l a
structure KD (prog:Program) (w:World) (h:Heap) (d:Addr) (xs:List (Ky × Value × Value)) (o:Obj) (es:Array DictEntry) (ep:Nat):Prop where
 ob:h.get? d = some o
 ex:o.ExactDict
 da:o.data = .dict es ep
 en:es.toList = xs.map keyE
 ks:∀ x ∈ xs,Z24 prog w h x.2.1 x.1
 nd:(xs.map (·.1)).Nodup
 sz:xs.length ≤ sizeLine
section
variable {prog:Program} {w:World} {A:Around} {E:Value→Shared→Prop} {s:Shared} {d:Addr} {k:Ky} {v:Value} {xs:List (Ky × Value × Value)} {o:Obj} {es:Array DictEntry} {ep:Nat}
theorem Z2y {Q:Int→Shared→Prop} (hu:A.units + 2 < cLine) (hk:Z24 prog w s.heap v k) (h:∀ n,Q (kH k) { s with toks:=n }):wpAny (model prog w) A (pyHash v) Q E s:=by
 cases k with
 | inl o=>exact (Z2s prog w).pyHash (k:=o) hk (h _)
 | inr l=>obtain ⟨a,rfl,hk⟩:=hk; exact (Z4x prog w).pyHash hu hk (h _)
theorem KD.at (D:KD prog w s.heap d xs o es ep) (j:Nat):es[j]? = (xs[j]?).map keyE:=by rw [← Array.getElem?_toList,D.en,List.getElem?_map]
theorem KD.typeIs (D:KD prog w s.heap d xs o es ep):s.TypeIs (.ref d) "dict":=⟨o,D.ob,D.ex.1⟩
theorem KD.toks (D:KD prog w s.heap d xs o es ep) (n:Nat):KD prog w ({ s with toks:=n }:Shared).heap d xs o es ep:=D
noncomputable def rKy:Ky→List KI
 | .inr l=>l
 | .inl _=>[]
noncomputable def rAd:Value→Addr
 | .ref a=>a
 | _=>0
noncomputable def rX (x:Ky × Value × Value):List KI × Addr × Value:=(rKy x.1,rAd x.2.1,x.2.2)
theorem Z3u {Q:Option Nat→Shared→Prop} (hu:A.units + 2 < cLine) (hk:Z24 prog w s.heap v k) (D:KD prog w s.heap d xs o es ep) (hom:∀ x ∈ xs,x.1.isLeft = k.isLeft)
  (h0:(∀ x ∈ xs,x.1 ≠ k)→Q none s) (h1:∀ (j:Nat) x,xs[j]? = some x→x.1 = k→Q (some j) s):wpAny (model prog w) A (dictFind d v (kH k)) Q E s:=by
 cases k with
 | inl i=>
  have lf:∀ {j:Nat} {x:Ky × Value × Value},xs[j]? = some x→∃ i',x.1 = .inl i'∧oIs i' x.2.1 = true:=fun {j x} hx=>by
   have hm:=List.mem_of_getElem? hx
   have h2:=hom x hm
   have h3:=D.ks x hm
   rcases hx1:x.1 with i' | l
   ·rw [hx1] at h3; exact ⟨i',rfl,h3⟩
   ·rw [hx1] at h2; cases h2
  have ko:KeysOf (Z2s prog w) es:=fun e he=>by
   obtain ⟨j,hj⟩:=Array.mem_iff_getElem?.mp he
   rw [D.at] at hj
   obtain ⟨x,hx,rfl⟩:=Option.map_eq_some_iff.mp hj
   obtain ⟨i',h2,h3⟩:=lf hx
   exact ⟨i',h3,by show kH x.1 = _; rw [h2]; rfl⟩
  refine wpAny_dictFind_of (knd:=Z2s prog w) (k:=i) hk D.ob D.da ko ?_
  have his:∀ (j:Nat) x,xs[j]? = some x→(oIs i x.2.1 = true↔x.1 = .inl i):=fun j x hx=>by
   obtain ⟨i',h2,h3⟩:=lf hx
   rw [h2]
   exact ⟨fun q=>by rw [(Z2s prog w).inj _ _ _ q h3],fun q=>by cases q; exact h3⟩
  cases hi:es.findIdx? fun e=>(Z2s prog w).is i e.key with
  | none=>
   refine h0 fun x hx e=>?_
   obtain ⟨j,hj⟩:=List.mem_iff_getElem?.mp hx
   have h4:es[j]? = some (keyE x):=by rw [D.at,hj]; rfl
   have h5:=(Array.findIdx?_eq_none_iff.mp hi) (keyE x) (Array.mem_of_getElem? h4)
   have h6:oIs i x.2.1 = true:=(his j x hj).mpr e
   have h7:(Z2s prog w).is i (keyE x).key = oIs i x.2.1:=rfl
   rw [h7,h6] at h5; cases h5
  | some j=>
   obtain ⟨hj,h4,_⟩:=Array.findIdx?_eq_some_iff_getElem.mp hi
   have h5:es[j]? = some es[j]:=Array.getElem?_eq_getElem hj
   rw [D.at] at h5
   obtain ⟨x,hx,e⟩:=Option.map_eq_some_iff.mp h5
   rw [← e] at h4
   exact h1 j x hx ((his j x hx).mp h4)
 | inr l=>
  obtain ⟨a,rfl,hk⟩:=hk
  have rt:∀ {x:Ky × Value × Value},x ∈ xs→∃ l' a',x.1 = .inr l'∧x.2.1 = .ref a'∧kIs prog w s.heap l' a':=fun {x} hm=>by
   have h2:=hom x hm
   have h3:=D.ks x hm
   rcases hx1:x.1 with i' | l'
   ·rw [hx1] at h2; cases h2
   ·rw [hx1] at h3; obtain ⟨a',h4,h5⟩:=h3; exact ⟨l',a',rfl,h4,h5⟩
  have he:es.toList = (xs.map rX).map (entryOfKey (Z4x prog w)):=by
   rw [D.en,List.map_map]
   refine List.map_congr_left fun x hx=>?_
   obtain ⟨l',a',h2,h3,_⟩:=rt hx
   obtain ⟨x1,x2,x3⟩:=x
   simp only at h2 h3
   subst h2 h3
   rfl
  have hks:∀ y ∈ xs.map rX,(Z4x prog w).is s.heap y.1 y.2.1:=fun y hy=>by
   obtain ⟨x,hx,rfl⟩:=List.mem_map.mp hy
   obtain ⟨l',a',h2,h3,h4⟩:=rt hx
   show kIs prog w s.heap (rKy x.1) (rAd x.2.1)
   rw [h2,h3]; exact h4
  have hnd:((xs.map rX).map (·.1)).Nodup:=by
   rw [List.map_map]
   have h5:=D.nd
   rw [List.nodup_iff_pairwise_ne,List.pairwise_map] at h5 ⊢
   refine List.Pairwise.imp_of_mem (fun {x y} hx hy hne e=>hne ?_) h5
   obtain ⟨l1,_,h2,_,_⟩:=rt hx
   obtain ⟨l2,_,h3,_,_⟩:=rt hy
   have e:rKy x.1 = rKy y.1:=e
   rw [h2,h3] at e ⊢
   rw [show l1 = l2 from e]
  refine wpAny_dictFind_heap (knd:=Z4x prog w) (k:=l) hu hk D.ob D.da he hks hnd (fun hno=>h0 fun x hx e=>?_) fun j p hj=>?_
  ·obtain ⟨j,hj⟩:=List.mem_iff_getElem?.mp hx
   refine hno j (rAd x.2.1,x.2.2) ?_
   rw [List.getElem?_map,hj]
   show some (rKy x.1,rAd x.2.1,x.2.2) = _
   rw [e]; rfl
  ·rw [List.getElem?_map] at hj
   obtain ⟨x,hx,e⟩:=Option.map_eq_some_iff.mp hj
   refine h1 j x hx ?_
   obtain ⟨l',a',h2,_,_⟩:=rt (List.mem_of_getElem? hx)
   have e:rKy x.1 = l:=congrArg Prod.fst e
   rw [h2] at e ⊢
   rw [show l' = l from e]
noncomputable def atK (xs:List (Ky × Value × Value)) (k:Ky):Option Value:=(xs.find? fun x=>x.1 = k).map (·.2.2)
theorem Z6B (h:∀ x ∈ xs,x.1 ≠ k):atK xs k = none:=by
 unfold atK
 rw [List.find?_eq_none.mpr fun x hx=>by simpa using h x hx]; rfl
theorem Z6C {x:Ky × Value × Value} (nd:(xs.map (·.1)).Nodup) (hx:x ∈ xs) (e:x.1 = k):atK xs k = some x.2.2:=by
 unfold atK
 induction xs with
 | nil=>cases hx
 | cons y xs ih=>
  have nd:=List.nodup_cons.mp nd
  by_cases h:y.1 = k
  ·rw [List.find?_cons_of_pos (by simpa using h)]
   rcases List.mem_cons.mp hx with rfl | hx
   ·rfl
   ·exact absurd (List.mem_map.mpr ⟨x,hx,e.trans h.symm⟩) nd.1
  ·rw [List.find?_cons_of_neg (by simpa using h)]
   rcases List.mem_cons.mp hx with rfl | hx
   ·exact absurd e h
   ·exact ih nd.2 hx
theorem ZdQ {Q:Option Value→Shared→Prop} (hu:A.units + 2 < cLine) (hk:Z24 prog w s.heap v k) (D:KD prog w s.heap d xs o es ep) (hom:∀ x ∈ xs,x.1.isLeft = k.isLeft) (h:∀ n,Q (atK xs k) { s with toks:=n }):wpAny (model prog w) A (dictGet d v) Q E s:=by
 unfold dictGet
 try with_reducible refine wpAny_holding ?_
 refine wpAny_bind (Z2y hu hk fun n=>wpAny_bind (Z3u (s:={ s with toks:=n }) hu hk D hom (fun h0=>?_) fun j x hx e=>?_))
 ·rw [Z6B h0] at h; exact wpAny_pure (h n)
 ·rw [Z6C D.nd (List.mem_of_getElem? hx) e] at h
  refine wpAny_bind (wpAny_dictEntries (s:={ s with toks:=n }) D.ob D.da ?_)
  rw [D.at,hx]
  exact wpAny_pure (h n)
theorem ZdR {Q:Bool→Shared→Prop} (hu:A.units + 3 < cLine) (hk:Z24 prog w s.heap v k) (hd:(d == sysModules) = false) (D:KD prog w s.heap d xs o es ep) (hom:∀ x ∈ xs,x.1.isLeft = k.isLeft)
  (h:∀ n,Q (atK xs k).isSome { s with toks:=n }):wpAny (model prog w) A (contains (.ref d) v) Q E s:=by
 unfold contains
 try with_reducible refine wpAny_holding ?_
 refine wpAny_bind (wpAny_specialOf D.typeIs slot_dict_contains.lookup ?_)
 show wpAny _ _ (if (some (Value.builtin "dict.__contains__") == some Value.none) = true then _ else _) _ E s
 rw [if_neg (by rw [beq_builtin_none]; exact Bool.false_ne_true)]
 refine wpAny_bind (wpAny_callSpecialUnlessNone?_slot (name:=Str.ofString "__contains__") D.typeIs slot_dict_contains
  (wpAny_call_entry slot_dict_contains D.typeIs entry_dict_contains ?_ (args_dict_contains _ _)))
 show wpAny _ _ (dictGet d v >>= _) _ _ s
 refine wpAny_bind (ZdQ (by show A.units + 1 + 2 < cLine; omega) hk D hom fun n=>?_)
 have h:=h n
 cases hf:atK xs k with
 | some p=>
  rw [hf] at h
  show wpAny _ _ (ret (.bool true)) _ _ _
  exact wpAny_pure ⟨_,rfl,wpAny_truthy_bool h⟩
 | none=>
  rw [hf] at h
  show wpAny _ _ (Builtin.Dict.pendingKey? d v >>= _) _ _ _
  exact wpAny_bind (wpAny_pendingKey_other hd (wpAny_pure ⟨_,rfl,wpAny_truthy_bool h⟩))
theorem in_k {Q:Value→Shared→Prop} (hu:A.units + 3 < cLine) (hk:Z24 prog w s.heap v k) (hd:(d == sysModules) = false) (D:KD prog w s.heap d xs o es ep) (hom:∀ x ∈ xs,x.1.isLeft = k.isLeft)
  (h:∀ n,Q (.bool (id (atK xs k).isSome)) { s with toks:=n }):wpAny (model prog w) A (compareOp .In v (.ref d)) Q E s :=
 wpAny_bind (m:=contains (.ref d) v) (ZdR hu hk hd D hom fun n=>wpAny_pure (h n))
theorem Zcb {Q:Value→Shared→Prop} (hu:A.units + 3 < cLine) (hk:Z24 prog w s.heap v k) (hd:(d == sysModules) = false) (D:KD prog w s.heap d xs o es ep) (hom:∀ x ∈ xs,x.1.isLeft = k.isLeft)
  (h:∀ n,Q (.bool (!(atK xs k).isSome)) { s with toks:=n }):wpAny (model prog w) A (compareOp .NotIn v (.ref d)) Q E s :=
 wpAny_bind (m:=contains (.ref d) v) (ZdR hu hk hd D hom fun n=>wpAny_pure (h n))
theorem Z7Z {y:Value} {Q:Value→Shared→Prop} (hu:A.units + 3 < cLine) (hk:Z24 prog w s.heap v k) (D:KD prog w s.heap d xs o es ep) (hom:∀ x ∈ xs,x.1.isLeft = k.isLeft) (hy:atK xs k = some y)
  (h:∀ n,Q y { s with toks:=n }):wpAny (model prog w) A (getItem (.ref d) v) Q E s:=by
 unfold getItem
 try with_reducible refine wpAny_holding ?_
 refine wpAny_bind (wpAny_sequenceKey D.typeIs (by decide) ?_)
 refine wpAny_bind (wpAny_callSpecial?_slot (name:=Str.ofString "__getitem__") D.typeIs slot_dict_getitem
  (wpAny_call_entry slot_dict_getitem D.typeIs entry_dict_getitem ?_ (args_dict_getitem _ _)))
 show wpAny _ _ (dictGet d v >>= _) _ _ s
 refine wpAny_bind (ZdQ (by show A.units + 1 + 2 < cLine; omega) hk D hom fun n=>?_)
 rw [hy]
 exact wpAny_pure ⟨y,rfl,wpAny_pure (h n)⟩
noncomputable def More (h h':Heap) (d:Addr) (xs:List (Ky × Value × Value)):Prop:=(∃ o es ep,h'.get? d = some o∧o.ExactDict∧o.data = .dict es ep∧es.toList = xs.map keyE)∧Heap.SameBut d h h'
theorem Zbm {y:Value} {part:Option Value} {Q:Unit→Shared→Prop} (D:KD prog w s.heap d xs o es ep)
  (hQ:∀ h',More s.heap h' d (xs++[(k,v,y)])→Q () { s with heap:=h' }):wpAny (model prog w) A (updateDictKeys d (·.push ⟨kH k,v,y⟩) part) Q E s:=by
 refine wpAny_updateDictKeys (hz:=by have e:=congrArg List.length D.en; rw [List.length_map,Array.length_toList] at e; rw [e]; exact D.sz) D.ob D.da (hQ _ ⟨⟨_,_,ep + 1,Heap.get?_update_self _ D.ob (Obj.isFreed_of_dict (Obj.data_mapDictKeys D.da _)),D.ex.mapDictKeys _,Obj.data_mapDictKeys D.da _,?_⟩,Heap.SameBut.update ..⟩)
 rw [Array.toList_push,D.en,List.map_append]; rfl
theorem Z5i {y:Value} {Q:Unit→Shared→Prop} (hu:A.units + 2 < cLine) (hk:Z24 prog w s.heap v k) (D:KD prog w s.heap d xs o es ep) (hom:∀ x ∈ xs,x.1.isLeft = k.isLeft) (hn:∀ x ∈ xs,x.1 ≠ k)
  (hQ:∀ h' n,More s.heap h' d (xs++[(k,v,y)])→Q () { s with heap:=h',toks:=n }):wpAny (model prog w) A (dictSet d v y) Q E s:=by
 unfold dictSet
 try with_reducible refine wpAny_holding ?_
 refine wpAny_bind (Z2y hu hk fun n=>?_)
 unfold dictSetHashed
 try with_reducible refine wpAny_holding ?_
 refine wpAny_bind (Z3u (s:={ s with toks:=n }) hu hk D hom (fun _=>?_) fun j x hx e=>absurd e (hn x (List.mem_of_getElem? hx)))
 exact wpAny_bind (wpAny_rule (Zbm (s:={ s with toks:=n }) D fun h' M=>hQ h' n M))
theorem Z80 {y:Value} {Q:Unit→Shared→Prop} (hu:A.units + 3 < cLine) (hk:Z24 prog w s.heap v k) (D:KD prog w s.heap d xs o es ep) (hom:∀ x ∈ xs,x.1.isLeft = k.isLeft) (hn:∀ x ∈ xs,x.1 ≠ k)
  (hQ:∀ h' n,More s.heap h' d (xs++[(k,v,y)])→Q () { s with heap:=h',toks:=n }):wpAny (model prog w) A (setItem (.ref d) v y) Q E s:=by
 unfold setItem
 try with_reducible refine wpAny_holding ?_
 refine wpAny_bind (wpAny_sequenceKey D.typeIs (by decide) ?_)
 refine wpAny_bind (wpAny_callSpecial?_slot (name:=Str.ofString "__setitem__") D.typeIs slot_dict_setitem
  (wpAny_call_entry slot_dict_setitem D.typeIs entry_dict_setitem ?_ (args_dict_setitem _ _ _)))
 show wpAny _ _ (Builtin.Dict.notOrdered "__setitem__" ⟨[.ref d,v,y],[]⟩ >>= _) _ _ s
 refine wpAny_bind (wpAny_notOrdered_dict D.typeIs ?_)
 show wpAny _ _ (dictSet d v y >>= _) _ _ s
 exact wpAny_bind (Z5i (by show A.units + 1 + 2 < cLine; omega) hk D hom hn fun h' n M=>wpAny_pure ⟨.none,rfl,wpAny_pure (hQ h' n M)⟩)
theorem Z6D {y:Value} {Q:Value→Shared→Prop} (hu:A.units + 3 < cLine) (hk:Z24 prog w s.heap v k) (hd:(d == sysModules) = false) (D:KD prog w s.heap d xs o es ep) (hom:∀ x ∈ xs,x.1.isLeft = k.isLeft)
  (h1:∀ z n,atK xs k = some z→Q z { s with toks:=n }) (h2:∀ h' n,(∀ x ∈ xs,x.1 ≠ k)→More s.heap h' d (xs++[(k,v,y)])→Q y { s with heap:=h',toks:=n }) :
  wpAny (model prog w) A (call (.builtin "dict.setdefault") [.ref d,v,y]) Q E s:=by
 refine wpAny_call_entry F.slot_dict_setdefault D.typeIs F.entry_dict_setdefault ?_ (F.args_dict_setdefault_3 _ _ _)
 unfold Builtin.«dict.setdefault»
 refine wpAny_bind ?_
 unfold Builtin.Dict.keyAndDefault
 refine wpAny_bind (wpAny_notOrdered_dict D.typeIs ?_)
 show wpAny _ _ (pure (d,v,some y)) _ _ s
 refine wpAny_pure ?_
 show wpAny _ _ (if (d == sysModules) = true then _ else (dictSetDefault d v y >>= _)) _ _ s
 rw [if_neg (by rw [hd]; exact Bool.false_ne_true)]
 refine wpAny_bind ?_
 unfold dictSetDefault
 try with_reducible refine wpAny_holding ?_
 refine wpAny_bind (Z2y (by show A.units + 1 + 2 < cLine; omega) hk fun n=>wpAny_bind (Z3u (s:={ s with toks:=n }) (by show A.units + 1 + 2 < cLine; omega) hk D hom (fun h0=>?_) fun j x hx e=>?_))
 ·exact wpAny_bind (wpAny_rule (wpAny_bind (Zbm (s:={ s with toks:=n }) D fun h' M=>wpAny_pure (wpAny_pure ⟨y,rfl,h2 h' n h0 M⟩))))
 ·refine wpAny_bind (wpAny_dictEntries (s:={ s with toks:=n }) D.ob D.da ?_)
  rw [D.at,hx]
  exact wpAny_bind (wpAny_rule (wpAny_pure (wpAny_pure ⟨x.2.2,rfl,h1 _ n (Z6C D.nd (List.mem_of_getElem? hx) e)⟩)))
end
end Mine
namespace Mine
open PySem PySem.Calls PyProof.Rows
section
variable {c:Cx} {st:St} {μ:List Addr} {s:Shared} {u v:Value}
theorem Zcc {T:Addr→Prop} {h:Heap} {prog:Program} {w:World} {l:List Int} {vs:List Value} (r:RepVs T μ h vs (l.map .int)):ItemsAre (intKind prog w) l vs:=Z9S (Z2w r (Z2x l))
theorem Z6E {T:Addr→Prop} {h:Heap} {prog:Program} {w:World}:∀ {l:List KI} {vs:List Value},RepVs T μ h vs (l.map iV)→isL prog w h l vs
 | [],_,r=>r.out
 | x :: l,_,r=>El.x2_3 r.consI fun v us e r1 rs=>⟨v,us,e,by
   cases x with
   | inl i=>obtain ⟨t,rfl⟩:=RepV.int_inv r1; exact beq_self_eq_true i
   | inr m=>exact El.x4_7 (RepV.tupI r1) fun a o vs n e ho hc hd hz hT rs=>⟨a,e,o,vs,n,ho,hc,hd,Zcc rs⟩,Z6E rs⟩
theorem Z4i {T:Addr→Prop} {h:Heap} (prog:Program) (w:World) {k:Ky} (r:RepV T μ h u (kV k)):Z24 prog w h u k:=by
 cases k with
 | inl o=>
  cases o with
  | none=>rw [RepV.none_inv r]; rfl
  | some i=>obtain ⟨t,rfl⟩:=RepV.int_inv r; exact beq_self_eq_true i
 | inr l=>exact El.x4_7 (RepV.tupI r) fun a o vs n e ho hc hd hz hT rs=>⟨a,e,o,vs,n,ho,hc,hd,Z6E rs⟩
theorem Zcd {T:Addr→Prop} {h:Heap} {xs:List (Ky × Value × Value)} {es:List (Ky × V)} (hk:xs.map (·.1) = es.map (·.1)) (r:RepVs T μ h (xs.map (·.2.1)) (es.map fun y=>kV y.1)) (prog:Program) (w:World):∀ x ∈ xs,Z24 prog w h x.2.1 x.1:=fun x hx=>by
 have e:(es.map fun y=>kV y.1) = xs.map fun x=>kV x.1:=by
  have:=congrArg (List.map kV) hk
  rw [List.map_map,List.map_map] at this
  exact this.symm
 rw [e] at r
 refine El.x1_1 (List.getElem?_of_mem hx) fun i hi=>El.x1_2 (r.get (i:=i) (x:=kV x.1) (by rw [List.getElem?_map,hi]; rfl)) fun v hv rv=>?_
 rw [List.getElem?_map,hi] at hv
 rw [show x.2.1 = v from Option.some.inj hv]
 exact Z4i prog w rv
theorem Z1X (ok:CxOk c) (I:Inv c st μ s.heap) {n:Nat} {es:List (Ky × V)} (r:RepV (Tr st.σ μ) μ s.heap v (.ref n)) (h:st.σ[n]? = some (.kdict es)) :
  ∃ d o xs ds ep,v = .ref d∧μ[n]? = some d∧(d == sysModules) = false∧KLay o xs es∧KD c.prog c.w s.heap d xs o ds ep∧RepVs (Tr st.σ μ) μ s.heap (xs.map (·.2.1)) (es.map fun y=>kV y.1)∧RepVs (Tr st.σ μ) μ s.heap (xs.map (·.2.2)) (es.map (·.2)):=by
 refine El.x1_2 r.refI fun d ed hd=>El.x1_2 (I.objs n _ h) fun d' hd' ro=>?_
 obtain rfl:=Option.some.inj (hd.symm.trans hd')
 refine El.x2_3 ro.out fun o xs ho L rs=>El.x2_2 L.data fun ds ep h1 h2=>El.x0_2 (rs.halves (by rw [List.length_map,List.length_map,← List.length_map (f:=(·.1)),L.keys,List.length_map])) fun r1 r2=>?_
 exact ⟨d,o,xs,ds,ep,ed,hd,Zc9 ok I hd,L,⟨ho,L.dict,h1,h2,Zcd L.keys r1 _ _,L.nd,L.len⟩,r1,r2⟩
theorem Zce {T:Addr→Prop} {h:Heap} {k:Ky} {xs:List (Ky × Value × Value)}:∀ {es:List (Ky × V)},xs.map (·.1) = es.map (·.1)→RepVs T μ h (xs.map (·.2.2)) (es.map (·.2)) →
  (atK xs k = none∧(es.find? fun p=>p.1 = k) = none) ∨ ∃ p z,atK xs k = some p∧((es.find? fun p=>p.1 = k).map (·.2)) = some z∧RepV T μ h p z:=by
 unfold atK
 induction xs with
 | nil=>
  intro es e _
  cases es with
  | nil=>exact .inl ⟨rfl,rfl⟩
  | cons _ _=>cases e
 | cons x xs ih=>
  intro es e r
  cases es with
  | nil=>cases e
  | cons y es=>
   have e1:x.1 = y.1:=(List.cons.inj e).1
   have e2:=(List.cons.inj e).2
   obtain ⟨v,us,q,r1,r2⟩:=r.consI
   have q1:x.2.2 = v:=(List.cons.inj q).1
   have q2:=(List.cons.inj q).2
   by_cases hk:x.1 = k
   ·exact .inr ⟨x.2.2,y.2,by rw [List.find?_cons_of_pos (by simpa using hk)]; rfl,by rw [List.find?_cons_of_pos (by simpa using e1.symm.trans hk)]; rfl,by rw [q1]; exact r1⟩
   ·rw [List.find?_cons_of_neg (by simpa using hk),List.find?_cons_of_neg (by simpa using fun w=>hk (e1.trans w))]
    exact ih e2 (q2 ▸ r2)
theorem Z5j {xs:List (Ky × Value × Value)} {es:List (Ky × V)} {k:Ky} (hk:xs.map (·.1) = es.map (·.1)) (h:∀ e ∈ es,e.1.isLeft = k.isLeft):∀ x ∈ xs,x.1.isLeft = k.isLeft:=fun x hx=>by
 have:x.1 ∈ es.map (·.1):=hk ▸ List.mem_map_of_mem hx
 obtain ⟨e,he,q⟩:=List.mem_map.mp this
 rw [← q]; exact h e he
theorem un3 (ok:CxOk c):c.A.units + 3 < cLine:=by have:=ok.units; omega
theorem Zcf {op:CmpOp} {f:Bool→Bool} (ok:CxOk c) (I:Inv c st μ s.heap) {x:V} {n:Nat} {es:List (Ky × V)} {o:Option V} (rx:RepV (Tr st.σ μ) μ s.heap u x) (ry:RepV (Tr st.σ μ) μ s.heap v (.ref n)) (h:st.σ[n]? = some (.kdict es)) (hi:Z1f es x = some o)
  (hw:∀ {d:Addr} {k:Ky} {xs ob ds ep} {Q:Value→Shared→Prop},c.A.units + 3 < cLine→Z24 c.prog c.w s.heap u k→(d == sysModules) = false→KD c.prog c.w s.heap d xs ob ds ep→(∀ x ∈ xs,x.1.isLeft = k.isLeft)→(∀ n,Q (.bool (f (atK xs k).isSome)) { s with toks:=n })→wpAny (model c.prog c.w) c.A (compareOp op u (.ref d)) Q (fun _ _=>False) s) :
  Sim c (compareOp op u v) (.ok (.bool (f o.isSome)) st) rV st.σ μ s:=by
 obtain ⟨d,ob,xs,ds,ep,rfl,_,hs,L,D,_,r⟩:=Z1X ok I ry h
 obtain ⟨k,_,rfl,hm,rfl⟩:=Z3a hi
 have e:(atK xs k).isSome = ((es.find? fun p=>p.1 = k).map (·.2)).isSome:=by
  rcases Zce (k:=k) L.keys r with ⟨h1,h2⟩ | ⟨p,z,h1,h2,_⟩
  ·rw [h1,h2]; rfl
  ·rw [h1,h2]; rfl
 rw [← e]
 exact Z01 I fun Q hq=>hw (un3 ok) (Z4i _ _ rx) hs D (Z5j L.keys hm) fun n=>hq n
theorem Z81 {op:CmpOp} {f:Bool→Bool} (ok:CxOk c) (I:Inv c st μ s.heap) {x y:V} (rx:RepV (Tr st.σ μ) μ s.heap u x) (ry:RepV (Tr st.σ μ) μ s.heap v y)
  (hk:∀ {d:Addr} {k:Ky} {xs ob ds ep} {Q:Value→Shared→Prop},c.A.units + 3 < cLine→Z24 c.prog c.w s.heap u k→(d == sysModules) = false→KD c.prog c.w s.heap d xs ob ds ep→(∀ x ∈ xs,x.1.isLeft = k.isLeft)→(∀ n,Q (.bool (f (atK xs k).isSome)) { s with toks:=n })→wpAny (model c.prog c.w) c.A (compareOp op u (.ref d)) Q (fun _ _=>False) s)
  (hw:∀ {xs:List PyData} {d:PyData} {as bs:List Addr} {Q:Value→Shared→Prop},Reads s.heap v (.list xs) as→Reads s.heap u d bs→PyData.canLayAll0 xs = true→d.canLay0 = true→c.A.units + 1 + min (PyData.depthAll xs) d.depth < cLine→Q (.bool (f (xs.any fun y=>PyData.eqv y d))) s→wpAny (model c.prog c.w) c.A (compareOp op u v) Q (fun _ _=>False) s) :
  Sim c (compareOp op u v) (R.lift ((inD st.σ x y).map fun b=>V.bool (f b)) st) rV st.σ μ s :=
 Sim.lift fun z h=>El.x1_2 (Option.map_eq_some_iff.mp h) fun b hb e=>e ▸ Z0c hb (fun es he hb=>bnd he fun n hn he=>El.x1_2 (Option.map_eq_some_iff.mp hb) fun o ho e=>e ▸ Zcf ok I rx (Z1y hn ▸ ry) (Z1h he) ho hk) fun hb=>Zca ok I rx ry hw b hb
theorem Z3v (ok:CxOk c) (I:Inv c st μ s.heap) {x y:V} (rx:RepV (Tr st.σ μ) μ s.heap u x) (ry:RepV (Tr st.σ μ) μ s.heap v y) (op:Cm) :
  Sim c (compareOp (cmM op) u v) (R.lift ((Z0r st.σ op x y).map V.bool) st) rV st.σ μ s:=by
 have mm:∀ o:Option Bool,(o.map not).map V.bool = o.map fun b=>V.bool (!b):=fun o=>by cases o <;> rfl
 cases op
 ·exact Z68 (t:=compareOp (cmM .lt)) I rx ry fun a b t1 t2 Q hq=>P.lt_int hq
 ·exact Z68 (t:=compareOp (cmM .gt)) I rx ry fun a b t1 t2 Q hq=>P.gt_int hq
 ·exact Z68 (t:=compareOp (cmM .ge)) I rx ry fun a b t1 t2 Q hq=>P.ge_int hq
 ·exact Zbl (f:=id) ok I rx ry fun ra rb la lb hu hq=>SeqAt.compareEq_reads ra rb la lb hu hq
 ·show Sim c _ (R.lift (((Z2t st.σ x y).map not).map V.bool) st) _ _ _ _
  rw [mm]
  exact Zbl (f:=not) ok I rx ry fun ra rb la lb hu hq=>SeqAt.compareNe_reads ra rb la lb hu hq
 ·cases y <;> try trivial
  obtain rfl:=ry.none_inv
  refine Z01 I fun Q hq=>is_none ?_
  rw [Z4g rx]; exact hq _
 ·cases y <;> try trivial
  obtain rfl:=ry.none_inv
  refine Z01 I fun Q hq=>isNot_none ?_
  rw [Z4g rx]; exact hq _
 ·exact Z81 (f:=id) ok I rx ry (fun hu hk hs D hom hq=>in_k hu hk hs D hom hq) fun rc rd h1 h2 hu hq=>SeqAt.in_list_reads rc rd h1 h2 hu hq
 ·show Sim c _ (R.lift (((inD st.σ x y).map not).map V.bool) st) _ _ _ _
  rw [mm]
  exact Z81 (f:=not) ok I rx ry (fun hu hk hs D hom hq=>Zcb hu hk hs D hom hq) fun rc rd h1 h2 hu hq=>SeqAt.notIn_list_reads rc rd h1 h2 hu hq
end
noncomputable def Z1o:Expr→Bool
 | .Slice ..=>false
 | _=>true
theorem Z0w {slice:Expr} (h:Z1o slice = true) (o i:Value):subscripted slice false o i = operate [o,i] (getItem o i):=by
 cases slice <;> first | rfl | exact absurd h Bool.false_ne_true
theorem Z5k {α:Type} {xs:List α} {i:Int} {x:α} (h:idxOf xs i = some x):(-(2 ^ 63) ≤ i∧i < 2 ^ 63)∧∃ j,seqIndex? i xs.length = some j∧xs[j]? = some x:=by
 unfold idxOf at h
 split at h
 ·rename_i hs
  simp only [Z10,Bool.and_eq_true,decide_eq_true_eq] at hs
  refine ⟨hs,?_⟩
  unfold seqIndex?
  split at h
  ·rename_i h0
   have hlt:i.toNat < xs.length:=(List.getElem?_eq_some_iff.mp h).1
   refine ⟨i.toNat,?_,h⟩
   simp only [show ¬ i < 0 from by lia,if_false]
   rw [if_pos (by simp only [Bool.and_eq_true,decide_eq_true_eq]; lia)]
  ·split at h
   ·rename_i h0 h1
    have hlt:(i + xs.length).toNat < xs.length:=(List.getElem?_eq_some_iff.mp h).1
    refine ⟨(i + xs.length).toNat,?_,h⟩
    simp only [show i < 0 from by lia,if_true]
    rw [if_pos (by simp only [Bool.and_eq_true,decide_eq_true_eq]; lia)]
   ·try clear hlt
    cases h
 ·cases h
theorem Z45 {i:Int} {n j:Nat} (h:seqIndex? i n = some j):(0 ≤ i∧i.toNat = j∧i < n) ∨ (i < 0∧-(n:Int) ≤ i∧(i + n).toNat = j):=by
 unfold seqIndex? at h
 by_cases h0:i < 0
 ·simp only [h0,if_true] at h
  by_cases hc:(decide (0 ≤ i + (n:Int)) && decide (i + (n:Int) < n)) = true
  ·rw [if_pos hc] at h
   simp only [Bool.and_eq_true,decide_eq_true_eq] at hc
   exact .inr ⟨h0,by lia,Option.some.inj h⟩
  ·rw [if_neg hc] at h; cases h
 ·simp only [h0,if_false] at h
  by_cases hc:(decide (0 ≤ i) && decide (i < (n:Int))) = true
  ·rw [if_pos hc] at h
   simp only [Bool.and_eq_true,decide_eq_true_eq] at hc
   exact .inl ⟨by lia,Option.some.inj h,by lia⟩
  ·rw [if_neg hc] at h; cases h
section
variable {c:Cx} {st:St} {μ:List Addr} {s:Shared} {u v:Value}
theorem Zcg {M:Model} {prog:Program} {w:World} {A:Around} {E:Value→Shared→Prop} {l:Addr} {items:Array Value} {i:Int} {t:Tok} {j:Nat} {x:Value} {Q:Value→Shared→Prop} (hl:s.heap.IsList l items)
  (hb:-(2 ^ 63) ≤ i∧i < 2 ^ 63) (hj:seqIndex? i items.size = some j) (hx:items[j]? = some x) (h:Q x s):wpAny (model prog w) A (getItem (.ref l) (.int i t)) Q E s:=by
 rcases Z45 hj with ⟨h0,rfl,_⟩ | ⟨h0,h1,rfl⟩
 ·exact wpAny_getItem_list hl h0 hb.2 hx h
 ·exact wpAny_getItem_list_neg hl h0 h1 hb.1 hx h
section
variable {value slice:Expr}
theorem Z82 {a:Addr} {vs:Array Value} {xs:List V} {i:Int} {z:V} (r:RepVs (Tr st.σ μ) μ s.heap vs.toList xs) (e:idxOf xs i = some z) :
  ∃ j w,(-(2 ^ 63) ≤ i∧i < 2 ^ 63)∧seqIndex? i vs.size = some j∧vs[j]? = some w∧RepV (Tr st.σ μ) μ s.heap w z :=
 El.x0_2 (Z5k e) fun hb hj=>El.x1_2 hj fun j hj hx=>El.x1_2 (r.get hx) fun w hw rw'=>⟨j,w,hb,by rw [← Array.length_toList,r.length]; exact hj,by rw [← Array.getElem?_toList]; exact hw,rw'⟩
theorem Z6F (hs:Z1o slice = true) (I:Inv c st μ s.heap) {a:Addr} {vs:Array Value} {xs:List V} {i:Int} {z:V} (hl:s.heap.IsList a vs) (r:RepVs (Tr st.σ μ) μ s.heap vs.toList xs) (ry:RepV (Tr st.σ μ) μ s.heap v (.int i)) (e:idxOf xs i = some z) :
  Sim c (subscriptTail value slice (.ref a) v) (.ok z st) rV st.σ μ s :=
 El.x2_4 (Z82 (a:=a) r e) fun j w hb hj hw rw'=>El.x1_1 ry.int_inv fun t q=>by
  rw [q]; exact Z3d I rw' fun Q hq=>tail_any hl.typeIs slot_list_getitem.lookup (Zcg (M:=model c.prog c.w) hl hb hj hw (hq _)) (Z0w hs _ _)
theorem Z83 (hs:Z1o slice = true) (I:Inv c st μ s.heap) {xs:List V} {i:Int} {z:V} (rx:RepV (Tr st.σ μ) μ s.heap u (.tup xs)) (ry:RepV (Tr st.σ μ) μ s.heap v (.int i)) (e:idxOf xs i = some z) :
  Sim c (subscriptTail value slice u v) (.ok z st) rV st.σ μ s :=
 El.x2_4 rx.tup_inv fun a vs q hl hz r=>El.x2_4 (Z82 (a:=a) r e) fun j w hb hj hw rw'=>El.x1_1 ry.int_inv fun t q'=>by
  rw [q,q']; exact Z3d I rw' fun Q hq=>tail_any hl.typeIs slot_tuple_getitem.lookup (getItem_tuple hl hb.1 hb.2 hj hw (hq _)) (Z0w hs _ _)
theorem ZdS {x:Str} {d:Nat} (h1:PyData.strOk x = true) (hd:d ∈ x.cps.toList):PyData.strOk ⟨#[d]⟩ = true:=by
 unfold PyData.strOk at h1 ⊢
 rw [Array.all_eq_true_iff_forall_mem] at h1 ⊢
 intro a ha
 obtain rfl:a = d:=by simpa using ha
 exact h1 a (Array.mem_toList_iff.mp hd)
theorem Zch (hs:Z1o slice = true) (I:Inv c st μ s.heap) {l:List Nat} {i:Int} {d:Nat} (rx:RepV (Tr st.σ μ) μ s.heap u (.str l)) (ry:RepV (Tr st.σ μ) μ s.heap v (.int i)) (e:idxOf l i = some d) :
  Sim c (subscriptTail value slice u v) (.ok (.str [d]) st) rV st.σ μ s :=
 El.x2_4 rx.str_inv fun x t q q2 h1 h2=>El.x0_2 (Z5k e) fun hb hj=>El.x1_2 hj fun j hj hx=>El.x1_1 ry.int_inv fun t' q'=>by
  rw [q,q']
  rw [← q2] at hj hx
  refine Z3c (x:=⟨#[d]⟩) I (ZdS h1 (List.mem_of_getElem? hx)) (by show 1 ≤ sizeLine; decide) (by rfl) fun Q hq=>tail_any (typeIs_str s x t) F.slot_str_getitem.lookup (P.getItem_str (c:=d) ?_ ?_ (hq _ _)) (Z0w hs _ _)
  ·simp only [Bool.or_eq_false_iff,decide_eq_false_iff_not]; lia
  ·rw [show x.length = x.cps.toList.length from (Array.length_toList).symm,hj]
   exact (Array.getElem?_toList).symm.trans hx
theorem Zci (hs:Z1o slice = true) (ok:CxOk c) (I:Inv c st μ s.heap) {n:Nat} {y z:V} {es:List (Ky × V)} (rx:RepV (Tr st.σ μ) μ s.heap u (.ref n)) (hn:st.σ[n]? = some (.kdict es)) (ry:RepV (Tr st.σ μ) μ s.heap v y) (h:Z1f es y = some (some z)) :
  Sim c (subscriptTail value slice u v) (.ok z st) rV st.σ μ s:=by
 obtain ⟨d,o,xs,ds,ep,rfl,_,_,L,D,_,r⟩:=Z1X ok I rx hn
 obtain ⟨k,_,rfl,hm,e3⟩:=Z3a h
 rcases Zce (k:=k) L.keys r with ⟨h1,h2⟩ | ⟨p,z',h1,h2,rz⟩
 ·rw [h2] at e3; cases e3
 ·rw [h2] at e3
  obtain rfl:=Option.some.inj e3
  exact Sim.leaf I (tail_any D.typeIs slot_dict_getitem.lookup (Z7Z (un3 ok) (Z4i _ _ ry) D (Z5j L.keys hm) h1 fun n=>⟨.refl,⟨rfl,rfl,rfl⟩,rz⟩) (Z0w hs _ _))
end
theorem Zcj (ok:CxOk c) (I:Inv c st μ s.heap) {x y:V} (rx:RepV (Tr st.σ μ) μ s.heap u x) (ry:RepV (Tr st.σ μ) μ s.heap v y) {value slice:Expr} (hs:Z1o slice = true) :
  Sim c (subscriptTail value slice u v) (R.lift (Z0h st.σ x y) st) rV st.σ μ s :=
 Sim.lift fun z h=>Z0c h (fun xs ex h=>bnd h fun i hi h=>Z83 hs I (Z5b ex ▸ rx) (Z0Q hi ▸ ry) h) fun h=>Z0c h (fun xs ex h=>bnd h fun i hi h=>El.x2_4 (RepV.lst_inv (Z1v ex ▸ rx)) fun a vs q hl hz r=>by rw [q]; exact Z6F hs I hl r (Z0Q hi ▸ ry) h)
  fun h=>Z0c h (fun l el h=>bnd h fun i hi h=>El.x1_2 (Option.map_eq_some_iff.mp h) fun d hd e=>e ▸ Zch hs I (Z5a el ▸ rx) (Z0Q hi ▸ ry) hd) fun h=>bnd h fun n hn h=>by
  have rx:=Z1y hn ▸ rx
  exact Z0c h (fun xs ex h=>bnd h fun i hi h=>El.x2_4 (I.ref_inv rx (Z12 ex)) fun a vs q hl hz r=>by rw [q]; exact Z6F hs I hl.isList r (Z0Q hi ▸ ry) h) fun h=>bnd h fun es ee h=>bnd h fun o ho h=>Zci hs ok I rx (Z1h ee) ry (ho.trans (congrArg some h))
theorem Z6G {T:Addr→Prop} {h:Heap} {x:V} {p:Option Int} (r:RepV T μ h v x) (e:Z7J x = some p):IsPart v p∧∃ q:Option (Int × Tok),v = partValue q∧q.map (·.1) = p:=by
 refine Z0c e (fun a ha h=>?_) fun h=>bnd h fun a ha h=>?_
 ·rw [Z0Q ha] at r
  rw [← Option.some.inj h]
  refine El.x1_1 r.int_inv fun t q=>?_
  rw [q]; exact ⟨.int _ _,some (_,t),rfl,rfl⟩
 ·rw [Z7N ha] at r
  rw [← Option.some.inj h,r.none_inv]
  exact ⟨.none,none,rfl,rfl⟩
theorem Z84 (items:Array Value) (lo hi:Option Int):(slicePick items lo hi none).toList = cutL items.toList lo hi:=by
 rw [slicePick_plain]
 unfold cutL
 simp
theorem RepVs.cutL {T:Addr→Prop} {h:Heap} {vs:List Value} {xs:List V} (r:RepVs T μ h vs xs) (lo hi:Option Int):RepVs T μ h (Mine.cutL vs lo hi) (Mine.cutL xs lo hi):=by
 unfold Mine.cutL
 rw [r.length]
 exact (r.drop _).take _
noncomputable def loC (n:Nat) (lo:Option Int):Nat:=lo.elim 0 (clipAt n)
noncomputable def hiC (n:Nat) (hi:Option Int):Nat:=hi.elim n (clipAt n)
theorem Z85 (n:Nat) (lo hi:Option Int):Builtin.Str.strSliceIndices lo hi 1 n = (List.range (hiC n hi - loC n lo)).map (loC n lo + ·):=by
 rw [← sliceRange_one]
 unfold Builtin.Str.strSliceIndices loC hiC
 simp only [show (1:Int) > 0 from by decide,if_true]
 cases lo <;> cases hi <;> simp only [Option.elim_none,Option.elim_some,clipAt_cast] <;> rfl
theorem Z9T (x:Str) (lo hi:Option Int):(Builtin.Str.strSliceIndices lo hi 1 x.length).filterMap (x.cps[·]?) = cutL x.cps.toList lo hi:=by
 rw [Z85,pick_run]
 unfold cutL loC hiC
 simp [Str.length]
theorem Z9U {α:Type} {xs:List α} {lo hi:Option Int} {x:α} (h:x ∈ cutL xs lo hi):x ∈ xs:=List.mem_of_mem_drop (List.mem_of_mem_take h)
theorem Z86 (n:Nat) (i:Int):clipAt n i ≤ n:=Int.toNat_le.mpr (Int.max_le.mpr ⟨Int.natCast_nonneg n,Int.min_le_right _ _⟩)
theorem Z3w {α:Type} (xs:List α) (lo hi:Option Int):(cutL xs lo hi).length ≤ xs.length:=by
 unfold cutL; rw [List.length_take,List.length_drop]; exact Nat.le_trans (Nat.min_le_right _ _) (Nat.sub_le _ _)
theorem ZdT (n:Nat) (hi:Option Int):hiC n hi ≤ n:=by
 cases hi with
 | none=>exact Nat.le_refl _
 | some i=>exact Z86 _ _
theorem Z9V {α:Type} (xs:List α) (lo hi:Option Int):(cutL xs lo hi).length = hiC xs.length hi - loC xs.length lo:=by
 show ((xs.drop (loC xs.length lo)).take (hiC xs.length hi - loC xs.length lo)).length = _
 rw [List.length_take,List.length_drop]
 exact Nat.min_eq_left (Nat.sub_le_sub_right (ZdT _ _) _)
section
variable {value:Expr} {l' u':Option Expr} {p:Pos} {sa:Addr} {vl vu:Value} {pl pu:Option Int}
theorem Z4j (I:Inv c st μ s.heap) (hsl:s.heap.IsSliceOf sa vl vu .none) (il:IsPart vl pl) (iu:IsPart vu pu) {a:Addr} {vs:Array Value} {xs:List V} (hL:s.heap.IsList a vs) (hz:vs.size ≤ sizeLine) (r:RepVs (Tr st.σ μ) μ s.heap vs.toList xs) :
  Sim c (subscriptTail value (.Slice l' u' none p) (.ref a) (.ref sa)) (.ok (.lst (cutL xs pl pu)) st) rV st.σ μ s:=by
 refine Sim.leaf I (tail_any hL.typeIs slot_list_getitem.lookup (wpAny_getItem_list_slice hL hsl il iu .none (by simp) ?_ hz) rfl)
 refine ⟨.push _,.refl,?_⟩
 rw [show slicePick vs pl pu none = (cutL vs.toList pl pu).toArray by rw [← Z84]]
 exact Z29 I (r.cutL pl pu) (Nat.le_trans (Z3w vs.toList pl pu) hz)
theorem ZdU {x:Str} (h:PyData.strOk x = true) (lo hi:Option Int):PyData.strOk ⟨(cutL x.cps.toList lo hi).toArray⟩ = true:=by
 unfold PyData.strOk at h ⊢
 rw [Array.all_eq_true_iff_forall_mem] at h ⊢
 intro a ha
 exact h a (by rw [← Array.mem_toList_iff]; exact Z9U (by simpa using ha))
theorem Z87 (I:Inv c st μ s.heap) {ql qu:Option (Int × Tok)} (hsl:s.heap.IsSliceOf sa (partValue ql) (partValue qu) .none) (el:ql.map (·.1) = pl) (eu:qu.map (·.1) = pu) {l:List Nat} (rx:RepV (Tr st.σ μ) μ s.heap u (.str l)) :
  Sim c (subscriptTail value (.Slice l' u' none p) u (.ref sa)) (.ok (.str (cutL l pl pu)) st) rV st.σ μ s:=by
 refine El.x2_4 rx.str_inv fun y t q9 q10 h1 h2=>?_
 rw [q9,← q10]
 have e2:slicePicked y ql qu none = Builtin.Str.strSliceIndices pl pu 1 y.length:=by
  unfold slicePicked
  rw [el,eu]; rfl
 have e3:(slicePicked y ql qu none).filterMap (y.cps[·]?) = cutL y.cps.toList pl pu:=by rw [e2]; exact Z9T y pl pu
 have hlen:(cutL y.cps.toList pl pu).length ≤ sizeLine:=Nat.le_trans (Z3w y.cps.toList pl pu) (by rw [Array.length_toList]; exact h2)
 refine Sim.leaf I (tail_any (typeIs_str _ y t) F.slot_str_getitem.lookup (wpAny_getItem_str_slice (l:=ql) (u:=qu) (st:=none) hsl rfl ?_) rfl)
 unfold sliceMade
 split
 ·rename_i hc
  refine ⟨.refl,.refl,?_⟩
  rw [show cutL y.cps.toList pl pu = y.cps.toList from ?_]
  ·exact .str y t h1 h2
  ·simp only [Option.map_none,Option.getD_none,Bool.and_eq_true,beq_iff_eq] at hc
   refine ((List.take_sublist _ _).trans (List.drop_sublist _ _)).eq_of_length ?_
   have hc:=hc.2
   rw [e2,Z85,List.length_map,List.length_range] at hc
   refine (Z9V _ _ _).trans ?_
   rw [Array.length_toList]; exact hc
 ·refine ⟨by show (List.toArray _).size ≤ sizeLine; rw [List.size_toArray,e3]; exact hlen,.refl,.refl,?_⟩
  rw [e3]
  exact .str ⟨(cutL y.cps.toList pl pu).toArray⟩ _ (ZdU h1 pl pu) (by show (List.toArray _).size ≤ sizeLine; rw [List.size_toArray]; exact hlen)
end
theorem Z88 (I:Inv c st μ s.heap) {x lo hi:V} {vl vu:Value} (rx:RepV (Tr st.σ μ) μ s.heap u x) (rl:RepV (Tr st.σ μ) μ s.heap vl lo) (ru:RepV (Tr st.σ μ) μ s.heap vu hi)
  {value:Expr} {l' u':Option Expr} {p:Pos} {sa:Addr} (hsl:s.heap.IsSliceOf sa vl vu .none) :
  Sim c (subscriptTail value (.Slice l' u' none p) u (.ref sa)) (R.lift (Z0k st.σ x lo hi) st) rV st.σ μ s :=
 Sim.lift fun z h=>bnd h fun pl hl h=>bnd h fun pu hu h=>El.x0_2 (Z6G rl hl) fun il ql=>El.x0_2 (Z6G ru hu) fun iu qu=>Z0c h (fun y ey h=>by
  refine El.x1_2 ql fun ql el el'=>El.x1_2 qu fun qu eu eu'=>?_
  rw [← Option.some.inj h]
  exact Z87 I (el ▸ eu ▸ hsl) el' eu' (Z5a ey ▸ rx)) fun h=>Z0c h (fun xs ex h=>El.x2_4 (RepV.lst_inv (Z1v ex ▸ rx)) fun a vs q hL hz r=>by
  rw [q,← Option.some.inj h]; exact Z4j I hsl il iu hL hz r) fun h=>bnd h fun n hn h=>bnd h fun xs ex h=>El.x2_4 (I.ref_inv (Z1y hn ▸ rx) (Z12 ex)) fun a vs q hL hz r=>by
  rw [q,← Option.some.inj h]; exact Z4j I hsl il iu hL.isList hz r
end
end Mine
namespace Mine
open PySem PySem.Calls PyProof.Rows
open AutoSeq1 (wpAny_loadPart')
section
variable {prog:Program} {w:World} {A:Around} {s:Shared}
theorem Z7r {E:Value→Shared→Prop} {Q:List Value→Shared→Prop} {l:Addr} {items:Array Value} {o:Obj} {n:Nat} (ho:s.heap.get? l = some o) (hc:o.cls = .type "list") (hd:o.data = .seq items n) (hsz:items.size ≤ sizeLine)
  (hQ:∀ h',Ext s.heap h'→Q items.toList { s with heap:=h' }):wpAny (model prog w) A (collect (.ref l)) Q E s :=
 wpAny_mono (Z03 (E:=fun _ _=>False) (wpAny_collect_seq l (.inl rfl) ho hc hd (fun h' hk hs=>hQ h' ⟨hs,hk⟩) hsz)) (fun _ _ h=>h) fun _ _ h=>h.elim
end
theorem Z89 (l:Addr) (o:Obj) (items:Array Value) (n:Nat) (hc:o.cls = .type "list") (hd:o.data = .seq items n) (hsz:items.size ≤ sizeLine) :
  Meets (Builtin.«tuple.__new__» ⟨[.type "tuple",.ref l],[]⟩)
   (fun _ R s=>s.heap.get? l = some o∧∀ h':Heap,Ext s.heap h'→R (.ok (.ret (.ref h'.objs.size))) { s with heap:=h'.push { cls:=.type "tuple",data:=.seq items } }) :=
 .of_wp fun prog w A R s h=>by
  obtain ⟨hp,g,d,tk,os⟩:=s; obtain ⟨ht,h⟩:=h
  have hsub:=sub_tuple_self
  have hinit:=init_tuple_lookup
  have hmh:=madeHere_tuple
  have hT:Shared.TypeIs ⟨hp,g,d,tk,os⟩ (.ref l) "list":=⟨o,ht,hc⟩
  wp_walk using wpAny_loadPart' ht,wpAny_typeOf hT,Z7r (l:=l) ht hc hd hsz
  intro h' X
  show wpAny _ _ (Builtin.Tuple.tupleExact items.toList.toArray >>= fun v=>ret v) _ _ _
  unfold Builtin.Tuple.tupleExact
  refine wpAny_bind (wpAny_newObj_type ?_ (by show items.toList.toArray.size ≤ sizeLine; simpa using hsz))
  refine wpAny_pure ⟨_,rfl,?_⟩
  have e:items.toList.toArray = items:=by simp
  rw [e]
  exact h h' X
section
variable {prog:Program} {w:World} {A:Around} {E:Value→Shared→Prop} {s:Shared}
theorem Z4F {l:Addr} {o:Obj} {items:Array Value} {n:Nat} {Q:Value→Shared→Prop} (ho:s.heap.get? l = some o) (hc:o.cls = .type "list") (hd:o.data = .seq items n) (hsz:items.size ≤ sizeLine)
  (h:∀ h':Heap,Ext s.heap h'→Q (.ref h'.objs.size) { s with heap:=h'.push { cls:=.type "tuple",data:=.seq items } }) :
  wpAny (model prog w) A (call (.type "tuple") [.ref l]) Q E s :=
 callType_new PySem.F.called_tuple (by decide) (PySem.F.typeCall_tuple_1 _) (PySem.F.newCall_tuple_1 _) (fun obj=>PySem.F.args_object_init_2 obj _) PySem.F.entry_tuple_new
  (Z89 l o items n hc hd hsz) ⟨ho,fun h' hk=>⟨⟨_,Heap.get?_push_size _ rfl,rfl⟩,h h' hk⟩⟩
end
end Mine
namespace Mine
open PySem PySem.Calls PyProof.Rows
section
variable {c:Cx} {st:St} {μ:List Addr} {s:Shared} {u v:Value}
theorem Z69 (I:Inv c st μ s.heap) {a b:Addr} {vs ws:Array Value} {xs ys:List V} (hl:s.heap.IsList a vs) (r:RepVs (Tr st.σ μ) μ s.heap vs.toList xs) (hl':s.heap.IsList b ws)
  (r':RepVs (Tr st.σ μ) μ s.heap ws.toList ys) (hz:xs.length + ys.length ≤ sizeLine):Sim c (binaryOp .Add (.ref a) (.ref b)) (.ok (.lst (xs++ys)) st) rV st.σ μ s:=by
 obtain ⟨⟨cls,dd,data,sl⟩,ho,hc,n,hd⟩:=id hl
 obtain ⟨⟨cls2,dd2,data2,sl2⟩,ho2,hc2,n2,hd2⟩:=id hl'
 simp only at hc hd hc2 hd2
 try clear data2; try clear data
 subst hc hd hc2 hd2
 have e1:=r.length
 have e2:=r'.length
 have hz':vs.size + ws.size ≤ sizeLine:=by simp at e1 e2; lia
 refine Sim.leaf I (concat_meets ⟨_,ho,rfl⟩ ⟨_,ho2,rfl⟩ noFill_list_add seq_list_add PySem.F.slot_list_add PySem.F.entry_list_add (PySem.F.args_list_add_2 _ _) (list_addW a b vs ws n n2 dd dd2 sl sl2 hz') ⟨ho,ho2,?_⟩)
 refine ⟨.push _,.refl,?_⟩
 have e3:vs++ws = (vs.toList++ws.toList).toArray:=by simp
 rw [e3]
 exact Z29 I (r.append r') (by simpa using hz')
noncomputable def tyN:Ty→String
 | .int=>"int"
 | .bool=>"bool"
 | .list=>"list"
 | .tuple=>"tuple"
 | .str=>"str"
theorem Z9W (I:Inv c st μ s.heap) {x:V} (rx:RepV (Tr st.σ μ) μ s.heap u x) (ty:Ty) :
  Sim c (call (.builtin "isinstance") [u,.type (tyN ty)]) (R.lift ((ZbT st.σ ty x).map V.bool) st) rV st.σ μ s:=by
 have none_no:∀ T:String,(Value.type "NoneType" == Value.type T) = false→typeOf (.type T) = pure (.type "type")→isSubtype (.type "NoneType") (.type T) = pure false→u = .none →
   Sim c (call (.builtin "isinstance") [u,.type T]) (.ok (.bool false) st) rV st.σ μ s:=by
  rintro T h1 h2 h3 rfl
  exact Z01 I fun Q hq=>call_isinstance (isinstance_false_none h1 h2 h3) (hq _)
 try clear h3; try clear T; try clear none_no
 cases x
 ·cases ty
  ·obtain rfl:=rx.none_inv; exact Z01 I fun Q hq=>IsiPair.NoneType_int (hq _)
  ·obtain rfl:=rx.none_inv; exact Z01 I fun Q hq=>IsiPair.NoneType_bool (hq _)
  ·obtain rfl:=rx.none_inv; exact Z01 I fun Q hq=>IsiPair.NoneType_list (hq _)
  ·obtain rfl:=rx.none_inv; exact Z01 I fun Q hq=>IsiPair.NoneType_tuple (hq _)
  ·obtain rfl:=rx.none_inv; exact Z01 I fun Q hq=>IsiPair.NoneType_str (hq _)
 ·obtain rfl:=rx.bool_inv
  cases ty <;> try trivial
  ·exact Z01 I fun Q hq=>IsiPair.bool_int (hq _)
  ·exact Z01 I fun Q hq=>IsiPair.bool_bool (hq _)
 ·refine El.x1_1 rx.int_inv fun t q3z=>?_
  obtain rfl:=q3z
  cases ty <;> try trivial
  ·exact Z01 I fun Q hq=>IsiPair.int_int (hq _)
  ·exact Z01 I fun Q hq=>IsiPair.int_bool (hq _)
 ·refine El.x2_4 rx.str_inv fun x t q4z q5z h1 h2=>?_
  try clear x; try clear q3z; try clear t; try clear h2; try clear h1
  obtain rfl:=q4z
  try clear q4z
  obtain rfl:=q5z
  cases ty <;> try trivial
  ·exact Z01 I fun Q hq=>IsiPair.str_int (hq _)
  ·exact Z01 I fun Q hq=>IsiPair.str_bool (hq _)
  ·exact Z01 I fun Q hq=>IsiPair.str_str (hq _)
 ·refine El.x2_4 rx.tup_inv fun a vs q6z q7z hz r=>?_
  try clear q5z
  obtain rfl:=q6z
  refine El.x1_3 q7z fun o ho hc _=>?_
  cases ty <;> try trivial
  ·exact Z01 I fun Q hq=>IsiPair.tuple_int ho hc (hq _)
  ·exact Z01 I fun Q hq=>IsiPair.tuple_bool ho hc (hq _)
  ·exact Z01 I fun Q hq=>IsiPair.tuple_list ho hc (hq _)
  ·exact Z01 I fun Q hq=>IsiPair.tuple_tuple ho hc (hq _)
 ·refine El.x2_4 rx.lst_inv fun a vs q8z q9z hz r=>?_
  try clear q7z; try clear q6z
  obtain rfl:=q8z
  refine El.x1_3 q9z fun o ho hc _=>?_
  cases ty <;> try trivial
  ·exact Z01 I fun Q hq=>IsiPair.list_int ho hc (hq _)
  ·exact Z01 I fun Q hq=>IsiPair.list_bool ho hc (hq _)
  ·exact Z01 I fun Q hq=>IsiPair.list_list ho hc (hq _)
  ·exact Z01 I fun Q hq=>IsiPair.list_tuple ho hc (hq _)
 ·rename_i n
  cases ty <;> try trivial
  show Sim c _ (R.lift ((match st.σ[n]? with | some (.lst _)=>some true | _=>none:Option Bool).map V.bool) st) _ _ _ _
  split
  ·rename_i hn
   refine El.x2_4 (I.ref_inv rx hn) fun a vs q10z hl hz r=>?_
   try clear q9z; try clear q8z; try clear r; try clear hz; try clear vs; try clear a
   obtain rfl:=q10z
   refine El.x1_3 hl.isList fun o ho hc _=>?_
   exact Z01 I fun Q hq=>IsiPair.list_list ho hc (hq _)
  ·trivial
noncomputable def biV:Bi→Value
 | .len=>.builtin "len"
 | .int=>.type "int"
 | .list=>.type "list"
 | .tuple=>.type "tuple"
 | .max=>.builtin "max"
theorem Z6H (I:Inv c st μ s.heap) {a:Addr} {vs:Array Value} {xs:List V} (hl:s.heap.IsList a vs) (hz:vs.size ≤ sizeLine) (r:RepVs (Tr st.σ μ) μ s.heap vs.toList xs):Sim c (call (.builtin "len") [.ref a]) (.ok (.int xs.length) st) rV st.σ μ s:=by
 refine Z0q I fun Q hq=>call_len_list hl (Z0T hz) ?_
 rw [← Array.length_toList,r.length]; exact hq _ _
theorem Z8a (I:Inv c st μ s.heap) {d:Addr} {o:Obj} {xs:List (Ky × Value × Value)} {es:List (Ky × V)} {ds:Array DictEntry} {ep:Nat} (L:KLay o xs es) (D:KD c.prog c.w s.heap d xs o ds ep) (hs:(d == sysModules) = false):Sim c (call (.builtin "len") [.ref d]) (.ok (.int es.length) st) rV st.σ μ s:=by
 have e:ds.size = es.length:=by
  have h1:=congrArg List.length D.en
  have h2:=congrArg List.length L.keys
  rw [List.length_map,Array.length_toList] at h1
  rw [List.length_map,List.length_map] at h2
  omega
 have hfit:(ds.size:Int) < 2 ^ 63:=by rw [e,← show xs.length = es.length from by have:=congrArg List.length L.keys; rwa [List.length_map,List.length_map] at this]; exact Z0T L.len
 refine Z0q I fun Q hq=>call_function_entry kind_len plain_len entry_len (args_len1 _) ?_
 unfold Builtin.«len»
 refine wpAny_bind (m:=oneArg "len" _) (wpAny_pure ?_)
 refine wpAny_bind (m:=callSpecial? (.ref d) (Str.ofString "__len__")) (wpAny_callSpecial?_slot (name:=Str.ofString "__len__") D.typeIs PySem.F.slot_dict_len (wpAny_call_entry PySem.F.slot_dict_len D.typeIs PySem.F.entry_dict_len ?_ (PySem.F.args_dict_len_1 _)))
 show wpAny _ _ (dictSize d >>= _) _ _ s
 unfold dictSize
 refine wpAny_bind (wpAny_bind (wpAny_dictEntries D.ob D.da (wpAny_pure ?_)))
 show wpAny _ _ (Builtin.Dict.pendingCount d >>= _) _ _ s
 refine wpAny_bind (wpAny_pendingCount_other hs ?_)
 refine wpAny_ret_mkInt ?_
 rw [Nat.add_zero]
 show wpAny _ _ _ _ _ { s with toks:=s.toks + 1 }
 refine wpAny_bind (wpAny_holding (wpAny_pure ?_))
 refine wpAny_bind (wpAny_letGo ?_)
 show wpAny _ _ (if ((ds.size:Nat):Int) < 0 then _ else _) _ _ _
 rw [if_neg (by omega)]
 show wpAny _ _ (if ((ds.size:Nat):Int) ≥ 2 ^ 63 then _ else _) _ _ _
 rw [if_neg (by omega),e]
 exact wpAny_bind (wpAny_mkInt (wpAny_pure ⟨_,rfl,hq _ _⟩))
theorem Zck (ok:CxOk c) (I:Inv c st μ s.heap) {x:V} (rx:RepV (Tr st.σ μ) μ s.heap u x):Sim c (call (.builtin "len") [u]) (R.lift (Z0x st.σ .len x) st) rV st.σ μ s :=
 Sim.lift fun z h=>Z0c h (fun l el h=>El.x2_4 (RepV.str_inv (Z5a el ▸ rx)) fun y t q q2 h1 h2=>by
  rw [q,← Option.some.inj h,← q2,Array.length_toList]
  exact Z0q I fun Q hq=>P.len_str (by have:=Z0T h2; lia) (hq _ _)) fun h=>Z0c h (fun l el h=>El.x2_4 (RepV.tup_inv (Z5b el ▸ rx)) fun a vs q hl hz r=>by
  rw [q,← Option.some.inj h,← r.length,Array.length_toList]
  exact Z0q I fun Q hq=>PyProof.Rows.len_tuple hl (Z0T hz) (hq _ _)) fun h=>Z0c h (fun l el h=>El.x2_4 (RepV.lst_inv (Z1v el ▸ rx)) fun a vs q hl hz r=>by
  rw [q,← Option.some.inj h]; exact Z6H I hl hz r) fun h=>bnd h fun n hn h=>Z0c h (fun l el h=>El.x2_4 (I.ref_inv (Z1y hn ▸ rx) (Z12 el)) fun a vs q hl hz r=>by
  rw [q,← Option.some.inj h]; exact Z6H I hl.isList hz r) fun h=>bnd h fun es ee h=>by
  obtain ⟨d,o,xs,ds,ep,rfl,_,hs,L,D,_,_⟩:=Z1X ok I (Z1y hn ▸ rx) (Z1h ee)
  rw [← Option.some.inj h]
  exact Z8a I L D hs
theorem Z9X (ok:CxOk c) (I:Inv c st μ s.heap) {x:V} (rx:RepV (Tr st.σ μ) μ s.heap u x):Sim c (call (biV .list) [u]) (R.lift (Z0x st.σ .list x) st) rV st.σ μ s :=
 Sim.lift fun z h=>Z0c h (fun l el h=>El.x4_7 (RepV.lstI (Z1v el ▸ rx)) fun a o vs n e9 ho hc hd hz hT r=>by
  rw [e9,← Option.some.inj h]
  exact Sim.leaf I (Z03 (call_list_seq a (.inl rfl) ho hc hd (fun h' c' hk hn hs=>⟨⟨hs,hk⟩,⟨rfl,rfl,rfl⟩,.lst hn rfl rfl hz (fun q=>Nat.lt_irrefl _ (I.lt _ q.mem)) (r.ext ⟨hs,hk⟩)⟩) hz))) fun h=>bnd h fun m hm h=>bnd h fun xs ex h=>El.x1_2 (RepV.refI (Z1y hm ▸ rx)) fun a e9 ha=>El.x1_2 (I.objs m _ (Z12 ex)) fun a' ha' ro=>by
  obtain rfl:=Option.some.inj (ha.symm.trans ha')
  obtain ⟨vs,n,ho,hz,r⟩:=ro.lst_inv
  rw [e9,← Option.some.inj h]
  exact Sim.leaf I (Z03 (call_list_seq a (.inl rfl) ho rfl rfl (fun h' c' hk hn hs=>⟨⟨hs,hk⟩,⟨rfl,rfl,rfl⟩,.lst hn rfl rfl hz (fun q=>Nat.lt_irrefl _ (I.lt _ q.mem)) (r.ext ⟨hs,hk⟩)⟩) hz))
theorem Z8b (I:Inv c st μ s.heap) {x:V} (rx:RepV (Tr st.σ μ) μ s.heap u x):Sim c (call (biV .tuple) [u]) (R.lift (Z0x st.σ .tuple x) st) rV st.σ μ s :=
 Sim.lift fun z h=>bnd h fun l el h=>El.x4_7 (RepV.lstI (Z1v el ▸ rx)) fun a o vs n e9 ho hc hd hz hT r=>by
  rw [e9,← Option.some.inj h]
  exact Sim.leaf I (Z4F ho hc hd hz fun h' X=>⟨X.trans (.push _),⟨rfl,rfl,rfl⟩,.tup (Heap.get?_push_size _ rfl) rfl rfl hz (fun q=>Nat.lt_irrefl _ (Nat.lt_of_lt_of_le (I.lt _ q.mem) X.1)) (r.ext (X.trans (.push _)))⟩)
theorem Zcl {l:List Int} {m M:Int} (h:maxL l = some m) (h1:M ∈ l) (h2:∀ a ∈ l,a ≤ M):M = m:=by
 have key:∀ (r:List Int) (i:Int),(r.foldl max i = i ∨ r.foldl max i ∈ r)∧i ≤ r.foldl max i∧∀ a ∈ r,a ≤ r.foldl max i:=by
  intro r
  induction r with
  | nil=>intro i; exact ⟨.inl rfl,Int.le_refl _,fun a ha=>by cases ha⟩
  | cons x r ih=>
   intro i
   obtain ⟨g1,g2,g3⟩:=ih (max i x)
   rw [List.foldl_cons]
   refine ⟨?_,by omega,fun a ha=>?_⟩
   ·rcases g1 with g1 | g1
    ·rw [g1]
     rcases Int.le_total i x with q | q
     ·rw [Int.max_eq_right q]; exact .inr List.mem_cons_self
     ·rw [Int.max_eq_left q]; exact .inl rfl
    ·exact .inr (List.mem_cons_of_mem _ g1)
   ·rcases List.mem_cons.mp ha with rfl | ha
    ·omega
    ·exact g3 a ha
 cases l with
 | nil=>cases h
 | cons i r=>
  have e:r.foldl max i = m:=Option.some.inj h
  obtain ⟨g1,g2,g3⟩:=key r i
  rw [e] at g1 g2 g3
  have a1:M ≤ m:=by
   rcases List.mem_cons.mp h1 with rfl | h1
   ·exact g2
   ·exact g3 M h1
  have a2:m ≤ M:=by
   rcases g1 with g1 | g1
   ·rw [g1]; exact h2 i List.mem_cons_self
   ·exact h2 m (List.mem_cons_of_mem _ g1)
  omega
theorem Zcm (ok:CxOk c) (I:Inv c st μ s.heap) {x:V} (rx:RepV (Tr st.σ μ) μ s.heap u x):Sim c (call (biV .max) [u]) (R.lift (Z0x st.σ .max x) st) rV st.σ μ s :=
 Sim.lift fun z h=>bnd h fun l el h=>bnd h fun is hi h=>bnd h fun m hm h=>El.x2_4 (RepV.lst_inv (Z1v el ▸ rx)) fun a vs q hl hz r=>by
  rw [q,← Option.some.inj h]
  have ia:=Z2w r hi
  obtain ⟨xs,e⟩:=ia.allInts.items
  have hns:is = xs.toList.map (·.1):=by rw [← ia.numsOf,← nums_intItems,← e]
  have hne:0 < is.length:=by cases is with | nil=>cases hm | cons _ _=>exact Nat.succ_pos _
  have hsz:0 < xs.size:=by rw [hns,List.length_map,Array.length_toList] at hne; exact hne
  have e':vs = intItems xs:=by rw [← e]
  rw [e'] at hl
  refine Sim.leaf I (Z03 (max_intList ok.hh hl hsz fun v h' tk hv hk hs=>?_))
  obtain ⟨t,rfl⟩:=intItems_at hv
  obtain ⟨h1,h2⟩:=argBest_gt (numAt xs) (xs.size - 1)
  refine ⟨⟨hs,hk⟩,⟨rfl,rfl,rfl⟩,?_⟩
  have q:=Zcl hm (M:=numAt xs (argBest (fun i j=>decide (numAt xs i > numAt xs j)) (xs.size - 1))) (by rw [hns,numAt_eq]; exact getD_mem (by rw [List.length_map,Array.length_toList]; omega)) fun a ha=>by
   rw [hns] at ha
   obtain ⟨j,hj,rfl⟩:=mem_getD ha
   rw [List.length_map,Array.length_toList] at hj
   rw [← numAt_eq]; exact h2 j (by omega)
  rw [q]
  exact .int m t
theorem ZdV (ok:CxOk c) (I:Inv c st μ s.heap) {x:V} (rx:RepV (Tr st.σ μ) μ s.heap u x) (f:Bi):Sim c (call (biV f) [u]) (R.lift (Z0x st.σ f x) st) rV st.σ μ s:=by
 cases f
 ·exact Zck ok I rx
 ·cases x <;> try trivial
  ·obtain rfl:=rx.bool_inv; exact Z0q I fun Q hq=>call_int_bool (hq _ _)
  ·obtain ⟨t,rfl⟩:=rx.int_inv; exact Z0q I fun Q hq=>call_int_int (hq _ _)
 ·exact Z9X ok I rx
 ·exact Z8b I rx
 ·exact Zcm ok I rx
theorem Z6I:∀ (l:List Str) (i:Array Nat),(l.foldl (fun acc p=>acc++(#[]:Array Nat)++p.cps) i).toList = i.toList++(l.map (fun y=>y.cps.toList)).flatten
 | [],i=>by simp
 | y :: l,i=>by simp only [List.foldl_cons]; rw [Z6I l]; simp
theorem Z9Y (ys:List Str):(Txt.join ⟨#[]⟩ ys).cps.toList = (ys.map (fun y=>y.cps.toList)).flatten:=by
 show ((ys.drop 1).foldl (fun acc p=>acc++(#[]:Array Nat)++p.cps) (ys.headD Str.empty).cps).toList = _
 rw [Z6I]
 cases ys with
 | nil=>rfl
 | cons y r=>simp
noncomputable def meN:Me→String
 | .join=>"str.join"
 | .append=>"list.append"
theorem Z1C {σ:List O} {n:Nat} {o o':O} {b:Addr} (e:σ[n]? = some o) (h1:o.live = true) (h2:o'.live = true):Tr (σ.set n o') μ b↔Tr σ μ b:=by
 have hlt:n < σ.length:=(List.getElem?_eq_some_iff.mp e).1
 constructor
 ·intro q21z
  refine El.x2_3 q21z fun k q e1 e2 e3=>?_
  by_cases hk:n = k
  ·try clear q21z
   subst hk; exact ⟨n,o,e,h1,e3⟩
  ·rw [List.getElem?_set_ne hk] at e1; exact ⟨k,q,e1,e2,e3⟩
 ·intro q22z
  refine El.x2_3 q22z fun k q e1 e2 e3=>?_
  by_cases hk:n = k
  ·try clear q22z
   subst hk; exact ⟨n,o',by simp [hlt],h2,e3⟩
  ·exact ⟨k,q,by rw [List.getElem?_set_ne hk]; exact e1,e2,e3⟩
noncomputable def UpdAt (a:Addr) (h h':Heap):Prop:=h.objs.size ≤ h'.objs.size∧∀ b o,b ≠ a→h.get? b = some o→h'.get? b = some o
theorem UpdAt.of {a:Addr} {h h':Heap} (hs:Heap.SameBut a h h'):UpdAt a h h':=⟨Nat.le_of_eq hs.1.symm,fun b o hb e=>(hs.2 b hb).trans e⟩
theorem Inv.upd {h h':Heap} (I:Inv c st μ h) {n:Nat} {o o':O} {a:Addr} (e:st.σ[n]? = some o) (ha:μ[n]? = some a) (h1:o.live = true) (h2:o'.live = true) (hs:UpdAt a h h')
  (hr:RepO (Tr st.σ μ) μ h' a o') (hnp:o ≠ .priv):Inv c ⟨st.ρ,st.σ.set n o'⟩ μ h'∧Stp c st.σ μ h (st.σ.set n o') μ h':=by
 have tr:∀ b,Tr (st.σ.set n o') μ b↔Tr st.σ μ b:=fun b=>Z1C e h1 h2
 have trE:Tr (st.σ.set n o') μ = Tr st.σ μ:=funext fun b=>propext (tr b)
 have ta:Tr st.σ μ a:=⟨n,o,e,h1,ha⟩
 have S:Stp c st.σ μ h (st.σ.set n o') μ h':=⟨hs.1,fun b ob q _ hT=>hs.2 b ob (fun (k:b = a)=>hT (k ▸ ta)) q,fun _ _ q=>q,fun b q=>.inl ((tr b).mp q),fun _ q=>.inl q,Z4c e hnp,fun k b ob e1 e2 e3=>hs.2 b ob (fun x=>by
  have:n = k:=(List.getElem?_inj (List.getElem?_eq_some_iff.mp ha).1 I.nd).mp (ha.trans (x ▸ e2.symm))
  try clear ta; try clear tr
  subst this; rw [e] at e1; exact hnp (Option.some.inj e1)) e3⟩
 have mv:∀ {v:Value} {x:V},RepV (Tr st.σ μ) μ h v x→RepV (Tr st.σ μ) μ h' v x:=fun r=>by
  have:=r.step (st':=⟨st.ρ,st.σ.set n o'⟩) I S
  dsimp only at this
  rwa [trE] at this
 have mvs:∀ {v:List Value} {x:List V},RepVs (Tr st.σ μ) μ h v x→RepVs (Tr st.σ μ) μ h' v x:=fun r=>by
  have:=r.step (st':=⟨st.ρ,st.σ.set n o'⟩) I S
  dsimp only at this
  rwa [trE] at this
 have own:∀ b,Own c b→b ≠ a:=fun b q k=>I.sep b q (k ▸ List.mem_of_getElem? ha)
 refine ⟨⟨fun i x q=>?_,fun i sl q=>?_,fun k ob q=>?_,by simpa using I.len,I.nd,fun b q=>Nat.lt_of_lt_of_le (I.lt b q) hs.1,fun b ob q=>?_,I.baseS,I.baseM,I.sep⟩,S⟩
 ·refine El.x2_3 (I.vars i x q) fun sl v g1 g2 g3=>?_
  dsimp only
  rw [trE]
  exact ⟨sl,v,g1,g2.keeps fun ob k=>hs.2 _ _ (own _ ⟨i,sl,g1,rfl⟩) k,mv g3⟩
 ·exact (I.slots i sl q).keeps fun ob k=>hs.2 _ _ (own _ ⟨i,sl,q,rfl⟩) k
 ·dsimp only at q ⊢
  rw [trE]
  have hlt:n < st.σ.length:=(List.getElem?_eq_some_iff.mp e).1
  by_cases hk:n = k
  ·try clear g3; try clear g2; try clear g1; try clear v; try clear sl; try clear x; try clear i; try clear own; try clear mv; try clear S; try clear trE
   subst hk
   have:o' = ob:=by simpa [hlt] using q
   try clear hlt
   subst this
   exact ⟨a,ha,hr⟩
  ·rw [List.getElem?_set_ne hk] at q
   refine El.x1_2 (I.objs k ob q) fun b hb rb=>?_
   have hne:b ≠ a:=fun h=>hk ((List.getElem?_inj (List.getElem?_eq_some_iff.mp ha).1 I.nd).mp (ha.trans (h ▸ hb.symm)))
   refine ⟨b,hb,?_⟩
   exact rb.map (fun _ ho=>(hs.2 b _ hne ho)) fun _ _ r=>(mvs r)
 ·refine hs.2 b ob (fun k=>?_) (I.base b ob q)
  have:=I.baseM a (List.mem_of_getElem? ha)
  rw [k,this] at q; cases q
theorem Inv.updL {h h':Heap} (I:Inv c st μ h) {n:Nat} {xs xs':List V} {a:Addr} {vs:Array Value} {k:Nat} (hn:st.σ[n]? = some (.lst xs)) (ha:μ[n]? = some a) (hs:Heap.SameBut a h h')
  (ho:h'.get? a = some { cls:=.type "list",data:=.seq vs k }) (hz:vs.size ≤ sizeLine) (r:RepVs (Tr st.σ μ) μ h vs.toList xs'):Inv c ⟨st.ρ,st.σ.set n (.lst xs')⟩ μ h'∧Stp c st.σ μ h (st.σ.set n (.lst xs')) μ h':=by
 have tE:Tr (st.σ.set n (.lst xs)) μ = Tr st.σ μ:=funext fun b=>propext (Z1C hn rfl rfl)
 have S:Stp c st.σ μ h (st.σ.set n (.lst xs)) μ h' :=
  ⟨Nat.le_of_eq hs.1.symm,fun b ob q _ hT=>(hs.2 b (fun (k:b = a)=>hT (k ▸ ⟨n,_,hn,rfl,ha⟩))).trans q,fun _ _ q=>q,fun b q=>.inl (by rwa [tE] at q),fun _ q=>.inl q,Z4c hn (by simp),fun k b ob e1 e2 e3=>(hs.2 b fun x=>by
   have:n = k:=(List.getElem?_inj (List.getElem?_eq_some_iff.mp ha).1 I.nd).mp (ha.trans (x ▸ e2.symm))
   subst this; rw [hn] at e1; cases e1).trans e3⟩
 have r1:=r.step (st':=⟨st.ρ,st.σ.set n (.lst xs)⟩) I S
 dsimp only at r1
 rw [tE] at r1
 exact I.upd hn ha rfl rfl (.of hs) (.lst ho hz r1) (by simp)
theorem Zbn (I:Inv c st μ s.heap) {x y:V} (rx:RepV (Tr st.σ μ) μ s.heap u x) (ry:RepV (Tr st.σ μ) μ s.heap v y) (m:Me) :
  Sim c (call (.builtin (meN m)) [u,v]) (Z0S m x y st) rV st.σ μ s:=by
 cases m
 ·cases x <;> try trivial
  rename_i l0
  cases l0 <;> try trivial
  cases y <;> try trivial
  rename_i ys0
  obtain ⟨a,t,rfl,e,h1,h2⟩:=rx.str_inv; obtain ⟨b,vs,rfl,hl,hz,r⟩:=ry.lst_inv
  show Sim c _ (match Z25 ys0 with | some l=>if l.flatten.length ≤ sizeLine then .ok (V.str l.flatten) st else .stuck | none=>.stuck:R V) _ _ _ _
  have ea:a = ⟨#[]⟩:=by obtain ⟨⟨l⟩⟩:=a; simp at e; subst e; rfl
  try clear h2; try clear h1; try clear e; try clear t
  subst ea
  split
  ·rename_i l hl'
   split
   ·rename_i hlen
    refine El.x1_3 (Z7q r hl') fun ys g1 g2 g3=>?_
    have hj:=Z9Y ys
    refine Z3c (x:=Txt.join ⟨#[]⟩ ys) I ?_ ?_ (by rw [hj,g2]) fun Q hq=>join_list hl g1 ?_ hq
    ·unfold PyData.strOk
     rw [Array.all_eq_true_iff_forall_mem]
     intro b hb
     rw [← Array.mem_toList_iff,hj] at hb
     refine El.x1_2 (List.mem_flatten.mp hb) fun w hw hb'=>?_
     refine El.x1_2 (List.mem_map.mp hw) fun y hy q23z=>?_
     try clear hw; try clear w; try clear hb; try clear g1; try clear ea
     obtain rfl:=q23z
     have:=g3 y hy
     unfold PyData.strOk at this
     rw [Array.all_eq_true_iff_forall_mem] at this
     exact this b (by rw [← Array.mem_toList_iff]; exact hb')
    ·show (Txt.join ⟨#[]⟩ ys).cps.size ≤ sizeLine
     rw [← Array.length_toList,hj,g2]; exact hlen
    ·have e1:(ys.map (·.length)).sum = l.flatten.length:=by
      rw [← g2,List.length_flatten,List.map_map]
      rfl
     rw [e1]
     show _ + ys.length * 0 ≤ 16777216
     rw [Nat.mul_zero,Nat.add_zero]
     exact hlen
   ·trivial
  ·trivial
 ·cases x <;> try trivial
  rename_i n
  show Sim c _ (match st.σ[n]? with | some (.lst xs)=>if xs.length < sizeLine then .ok V.none ⟨st.ρ,st.σ.set n (.lst (xs++[y]))⟩ else .stuck | _=>.stuck:R V) _ _ _ _
  split
  ·rename_i xs hn
   split
   ·rename_i hlen
    refine El.x2_4 (I.ref_inv rx hn) fun a vs q24z hl hz r=>?_
    try clear q23z; try clear hy; try clear hb'; try clear hj; try clear g3; try clear g2; try clear ys; try clear vs; try clear b; try clear a
    obtain rfl:=q24z
    have ha:=rx.refA
    have e1:=r.length
    simp at e1
    refine wpAny_list_append_plain hl (fun h' hl' hs=>?_) hz
    refine El.x1_1 hl' fun k ho=>?_
    obtain ⟨I',S⟩:=I.updL (xs':=xs++[y]) hn ha hs ho (by simp; lia) (by simpa using r.append (.cons ry .nil))
    exact ⟨μ,.none,I',S,.refl⟩
   ·trivial
  ·trivial
end
section
variable {c:Cx} {st:St} {μ:List Addr} {s:Shared} {u v:Value}
theorem Z6J {t:Value→Value→Sem Value} {x y z:V} {k:Int→Int→Option V} (rx:RepV (Tr st.σ μ) μ s.heap u x) (ry:RepV (Tr st.σ μ) μ s.heap v y) (hz:onI x y k = some z) (h:∀ a b t1 t2,k a b = some z→Sim c (t (.int a t1) (.int b t2)) (.ok z st) rV st.σ μ s):Sim c (t u v) (.ok z st) rV st.σ μ s :=
 bnd hz fun i hi hz=>bnd hz fun j hj hz=>El.x1_1 (RepV.int_inv (Z0Q hi ▸ rx)) fun t1 q1=>El.x1_1 (RepV.int_inv (Z0Q hj ▸ ry)) fun t2 q2=>by
  rw [q1,q2]; exact h i j t1 t2 hz
theorem Zcn (I:Inv c st μ s.heap) {x y:V} (rx:RepV (Tr st.σ μ) μ s.heap u x) (ry:RepV (Tr st.σ μ) μ s.heap v y):Sim c (binaryOp (opM .add) u v) (R.lift (Z4d x y) st) rV st.σ μ s :=
 Sim.lift fun z h=>Z0c h (fun a ha h=>bnd h fun b hb h=>El.x1_1 (RepV.int_inv (Z0Q ha ▸ rx)) fun t1 q1=>El.x1_1 (RepV.int_inv (Z0Q hb ▸ ry)) fun t2 q2=>by
  rw [q1,q2,← Option.some.inj h]; exact Z0q I fun Q hq=>PyProof.Rows.add_int (hq _ _)) fun h=>Z0c h (fun a ha h=>bnd h fun b hb h=>Z1n h fun hz h=>El.x2_4 (RepV.str_inv (Z5a ha ▸ rx)) fun x' t q1 q2 h1 h2=>El.x2_4 (RepV.str_inv (Z5a hb ▸ ry)) fun y' t' q3 q4 h1' h2'=>by
  rw [q1,q3,← Option.some.inj h]
  subst q2 q4
  exact Z3c (x:=x'++y') I (Z5h h1 h1') (by rw [Zc6]; exact hz) (Zc5 _ _) fun Q hq=>PyProof.Rows.add_str hq hz) fun h=>bnd h fun a ha h=>bnd h fun b hb h=>Z1n h fun hz h=>El.x2_4 (RepV.lst_inv (Z1v ha ▸ rx)) fun a vs q1 hl _ r=>El.x2_4 (RepV.lst_inv (Z1v hb ▸ ry)) fun b ws q2 hl' _ r'=>by
  rw [q1,q2,← Option.some.inj h]; exact Z69 I hl r hl' r' hz
theorem Zco (I:Inv c st μ s.heap) {x y:V} (rx:RepV (Tr st.σ μ) μ s.heap u x) (ry:RepV (Tr st.σ μ) μ s.heap v y):Sim c (binaryOp (opM .mul) u v) (R.lift (Z6y x y) st) rV st.σ μ s :=
 Sim.lift fun z h=>Z6J (t:=binaryOp (opM .mul)) rx ry h fun a b t1 t2 h=>Z1n h fun hz h=>Option.some.inj h ▸ Z0q I fun Q hq=>P.mul_int (hq _ _) ((Bool.or_eq_true_iff.mp hz).elim (fun h=>.of_left (Z3s h)) fun h=>.of_right (Z3s h))
theorem Z8c {γ:Type} {G:Prop} {d:γ} {c:Prop} [Decidable c] {m:Option γ} (h:(if c then none else m) = some d) (k:¬ c→m = some d→G):G:=by
 by_cases hc:c
 ·rw [if_pos hc] at h; cases h
 ·rw [if_neg hc] at h; exact k hc h
theorem Zcp (ok:CxOk c) (I:Inv c st μ s.heap) {x y:V} (rx:RepV (Tr st.σ μ) μ s.heap u x) (ry:RepV (Tr st.σ μ) μ s.heap v y) (op:Op) :
  Sim c (binaryOp (opM op) u v) (R.lift (Z2R op x y) st) rV st.σ μ s:=by
 cases op
 ·exact Zcn I rx ry
 ·exact Zco I rx ry
 ·exact Sim.lift fun z h=>Z6J (t:=binaryOp (opM .fdiv)) rx ry h fun a b t1 t2 h=>Z8c h fun hn h=>Option.some.inj h ▸ Z0q I fun Q hq=>PyProof.Rows.floordiv_int hn (hq _ _) (.inr (ok.pyl s I.base))
 ·exact Sim.lift fun z h=>Z6J (t:=binaryOp (opM .mod)) rx ry h fun a b t1 t2 h=>Z8c h fun hn h=>Option.some.inj h ▸ Z0q I fun Q hq=>PyProof.Rows.mod_int hn (hq _ _)
 ·exact Sim.lift fun z h=>Z6J (t:=binaryOp (opM .pow)) rx ry h fun a b t1 t2 h=>Z1n h fun hn h=>by
   obtain ⟨rfl,rfl⟩:=hn
   exact Option.some.inj h ▸ Z0q I fun Q hq=>PyProof.Rows.pow_int (by decide) (by decide +kernel) (hq _ _)
end
end Mine
namespace Mine
open PySem
structure Gm where
 sc:Scope
 vm:List (Str × Nat)
 used:List Nat
 gs:List (Str × Int)
noncomputable def Z2z (x:Str):Bool:=!(x == ("__debug__":Str))
noncomputable def Gm.gl (g:Gm) (x:Str):Bool:=decide (g.sc.names.lookup x = some .globalImplicit) && Z2z x
noncomputable def Gm.lv (g:Gm) (x:Str) (i:Nat):Bool:=decide (g.vm.lookup x = some i) && Z2z x
noncomputable def Z1D (g:Gm) (n:Str) (k:NameKind):Bool:=k == .free && g.sc.kind == .function && g.sc.names.lookup n == some .cell
noncomputable def Z6a (g:Gm) (scope:Scope):Scope:={ scope with names:=scope.names.map fun (n,k)=>if Z1D g n k then (n,.cell) else (n,k) }
noncomputable def Gm.comp (g:Gm) (scope:Scope) (x:Str) (k:Nat):Gm :=
 ⟨Z6a g scope,(x,k) :: g.vm.filter fun p=>!(p.1 == x) && decide (scope.names.lookup p.1 = some .free) && decide (g.sc.names.lookup p.1 = some .cell),k :: g.used,g.gs⟩
noncomputable def Z6K (g:Gm) (scope:Scope) (x:Str) (k:Nat):Bool :=
 decide (scope.kind = .function) && decide (scope.names.lookup x = some .local) && (scope.names.all fun p=>!(p.2 == .cell)) && Z2z x &&
 !(g.used.contains k) && !(x == (".0":Str)) &&
 (scope.names.all fun p=>p.2 == .local || p.2 == .free || p.2 == .globalImplicit) && (scope.names.all fun p=>!(p.2 == .free) || g.sc.names.lookup p.1 == some .cell) &&
 ((scope.names.filter fun p=>(p.2 == .local || p.2 == .cell) && p.1 != (".0":Str)).map (·.1) == [x]) && decide ((scope.names.map (·.1)).Nodup)
noncomputable def Z8d:Me→String
 | .join=>"join"
 | .append=>"append"
noncomputable def Z8e:Bi→String
 | .len=>"len"
 | .int=>"int"
 | .list=>"list"
 | .tuple=>"tuple"
 | .max=>"max"
structure Info where
 kids:List Expr
 nm:Str:=default
 k:Nat:=0
 sc:Scope:=default
 kp:Pos:=default
noncomputable def info (p:Expr):Info:=Expr.casesOn (motive_1:=fun _=>Info) p (fun _ vs _=>⟨vs,default,0,default,default⟩) (fun _ _ _=>⟨[],default,0,default,default⟩) (fun l _ r _=>⟨[l,r],default,0,default,default⟩) (fun _ x _=>⟨[x],default,0,default,default⟩)
 (fun _ _ _ _=>⟨[],default,0,default,default⟩) (fun t x y _=>⟨[t,x,y],default,0,default,default⟩) (fun ks vs _=>⟨(ks.map fun k=>k.getD default)++vs,default,0,default,default⟩) (fun _ _ _=>⟨[],default,0,default,default⟩) (fun e gs sc _=>⟨e :: (gs.map fun c=>c.target :: c.iter :: c.ifs).flatten,default,0,sc,default⟩) (fun _ _ _ _=>⟨[],default,0,default,default⟩) (fun _ _ _ _ _=>⟨[],default,0,default,default⟩)
 (fun _ _ _ _=>⟨[],default,0,default,default⟩) (fun _ _=>⟨[],default,0,default,default⟩) (fun _ _=>⟨[],default,0,default,default⟩) (fun _ _=>⟨[],default,0,default,default⟩) (fun l _ rs _=>⟨l :: rs,default,0,default,default⟩) (fun f as ks _=>⟨f :: (as++ks.map (·.value)),default,0,default,(ks.map (·.pos)).headD default⟩) (fun _ _ _ _=>⟨[],default,0,default,default⟩)
 (fun _ _=>⟨[],default,0,default,default⟩) (fun _ k _=>⟨[],default,k,default,default⟩) (fun o _ _=>⟨[o],default,0,default,default⟩) (fun v s _=>⟨[v,s],default,0,default,default⟩) (fun _ _=>⟨[],default,0,default,default⟩) (fun x _=>⟨[],x,0,default,default⟩) (fun xs _=>⟨xs,default,0,default,default⟩) (fun xs k _=>⟨xs,default,k,default,default⟩) (fun l u _ _=>⟨[l.getD default,u.getD default],default,0,default,default⟩)
noncomputable def kids (p:Expr):List Expr:=(info p).kids
noncomputable def kid (p:Expr) (i:Nat):Expr:=(kids p)[i]?.getD default
noncomputable def nmOf (p:Expr):Str:=(info p).nm
noncomputable def kOf (p:Expr):Nat:=(info p).k
noncomputable def scOf (p:Expr):Scope:=(info p).sc
noncomputable def ZeT (p:Expr):Pos:=(info p).kp
noncomputable def flat (p:Expr):Bool:=decide (2 < (kids p).length)
noncomputable def Z5l (op:BoolOp) (p:Expr):Expr:=.BoolOp op (kids p).tail p.pos
noncomputable def bop (op:BoolOp) (f:Bool) (a b b':Expr) (q:Pos):Expr:=.BoolOp op (a :: (if f then kids b else [b'])) q
mutual
noncomputable def pE:Ex→Expr→Expr
 | .none,p=>.Constant .none (kOf p) p.pos
 | .bool b,p=>.Constant (.bool b) (kOf p) p.pos
 | .int i,p=>.Constant (.int i) (kOf p) p.pos
 | .str x,p=>.Constant (.str x) (kOf p) p.pos
 | .loc _,p=>.Name (nmOf p) p.pos
 | .fz _,p=>.Name (nmOf p) p.pos
 | .bin op a b,p=>.BinOp (pE a (kid p 0)) (opM op) (pE b (kid p 1)) p.pos
 | .cmp op a b,p=>.Compare (pE a (kid p 0)) [cmM op] [pE b (kid p 1)] p.pos
 | .band a b,p=>bop .And (flat p) (pE a (kid p 0)) (pE b (Z5l .And p)) (pE b (kid p 1)) p.pos
 | .bor a b,p=>bop .Or (flat p) (pE a (kid p 0)) (pE b (Z5l .Or p)) (pE b (kid p 1)) p.pos
 | .not a,p=>.UnaryOp .Not (pE a (kid p 0)) p.pos
 | .neg i,p=>.UnaryOp .USub (.Constant (.int i) (kOf (kid p 0)) (kid p 0).pos) p.pos
 | .ite c a b,p=>.IfExp (pE c (kid p 0)) (pE a (kid p 1)) (pE b (kid p 2)) p.pos
 | .tup es,p=>.Tuple (pEs es (kids p)) (kOf p) p.pos
 | .list es,p=>.List (pEs es (kids p)) p.pos
 | .listM es,p=>.List (pEs es (kids p)) p.pos
 | .sub a i,p=>.Subscript (pE a (kid p 0)) (pE i (kid p 1)) p.pos
 | .slice a lo hi,p=>.Subscript (pE a (kid p 0)) (.Slice (pO lo (kid (kid p 1) 0)) (pO hi (kid (kid p 1) 1)) none (kid p 1).pos) p.pos
 | .isin a t,p=>.Call (.Name (Str.ofString "isinstance") (kid p 0).pos) [pE a (kid p 1),.Name (Str.ofString (tyN t)) (kid p 2).pos] [] p.pos
 | .bi f a,p=>.Call (.Name (Str.ofString (Z8e f)) (kid p 0).pos) [pE a (kid p 1)] [] p.pos
 | .me m a b,p=>.Call (.Attribute (pE a (kid (kid p 0) 0)) (Str.ofString (Z8d m)) (kid p 0).pos) [pE b (kid p 1)] [] p.pos
 | .call f es,p=>.Call (.Name f (kid p 0).pos) (pEs es (kids p).tail) [] p.pos
 | .callD f es,p=>.Call (.Name f (kid p 0).pos) (pEs es (kids p).tail) [] p.pos
 | .dictK,p=>.Dict [] [] p.pos
 | .chain a o1 b o2 d,p=>.Compare (pE a (kid p 0)) [cmM o1,cmM o2] [pE b (kid p 1),pE d (kid p 2)] p.pos
 | .dict1 a b,p=>.Dict [some (pE a (kid p 0))] [pE b (kid p 1)] p.pos
 | .lenSet a,p=>.Call (.Name (Str.ofString "len") (kid p 0).pos) [.Call (.Name (Str.ofString "set") (kid (kid p 1) 0).pos) [pE a (kid (kid p 1) 1)] [] (kid p 1).pos] [] p.pos
 | .listR a,p=>.Call (.Name (Str.ofString "list") (kid p 0).pos) [.Call (.Name (Str.ofString "range") (kid (kid p 1) 0).pos) [pE a (kid (kid p 1) 1)] [] (kid p 1).pos] [] p.pos
 | .setd a b d,p=>.Call (.Attribute (pE a (kid (kid p 0) 0)) (Str.ofString "setdefault") (kid p 0).pos) [pE b (kid p 1),pE d (kid p 2)] [] p.pos
 | .comp _ elt _ it,p=>.ListComp (pE elt (kid p 0)) [⟨.Name (nmOf (kid p 1)) (kid p 1).pos,pI it (kid p 2),[],0⟩] (scOf p) p.pos
 | .compH elt _ a,p=>.ListComp (pE elt (kid p 0)) [⟨.Name (nmOf (kid p 1)) (kid p 1).pos,pE a (kid p 2),[],0⟩] (scOf p) p.pos
noncomputable def pEs:Exs→List Expr→List Expr
 | .nil,_=>[]
 | .cons e es,ps=>pE e (ps.headD default) :: pEs es ps.tail
noncomputable def pO:Exo→Expr→Option Expr
 | .none,_=>none
 | .some e,p=>some (pE e p)
noncomputable def pI:It→Expr→Expr
 | .val e,p=>pE e p
 | .range1 a,p=>.Call (.Name (Str.ofString "range") (kid p 0).pos) [pE a (kid p 1)] [] p.pos
 | .enum a,p=>.Call (.Name (Str.ofString "enumerate") (kid p 0).pos) [pE a (kid p 1)] [] p.pos
 | .zip a b,p=>.Call (.Name (Str.ofString "zip") (kid p 0).pos) [pE a (kid p 1),pE b (kid p 2)] [] p.pos
end
noncomputable def ZdW (e:Ex):Bool:=e.ctorIdx == 8
noncomputable def ZeE (e:Ex):Bool:=e.ctorIdx == 9
noncomputable def isH (e:Ex):Bool:=e.ctorIdx == 30
noncomputable def isC (e:Ex):Bool:=e.ctorIdx == 23 || isH e
noncomputable def Zcq (p:Expr):Bool:=!(p.ctorIdx == 16)
mutual
noncomputable def okE:Gm→Ex→Expr→Bool
 | _,.none,_=>true
 | _,.bool _,_=>true
 | _,.int _,_=>true
 | _,.str x,_=>PyData.strOk x && decide (x.length ≤ sizeLine)
 | g,.loc i,p=>g.lv (nmOf p) i
 | g,.fz i,p=>g.lv (nmOf p) i
 | g,.bin _ a b,p=>okE g a (kid p 0) && okE g b (kid p 1)
 | g,.cmp _ a b,p=>okE g a (kid p 0) && okE g b (kid p 1)
 | g,.band a b,p=>okE g a (kid p 0) && (if flat p then ZdW b && okE g b (Z5l .And p) else okE g b (kid p 1))
 | g,.bor a b,p=>okE g a (kid p 0) && (if flat p then ZeE b && okE g b (Z5l .Or p) else okE g b (kid p 1))
 | g,.not a,p=>okE g a (kid p 0)
 | _,.neg _,_=>true
 | g,.ite c a b,p=>okE g c (kid p 0) && (okE g a (kid p 1) && okE g b (kid p 2))
 | g,.tup es,p=>okEs g es (kids p)
 | g,.list es,p=>okEs g es (kids p)
 | g,.listM es,p=>okEs g es (kids p)
 | g,.sub a i,p=>okE g a (kid p 0) && okE g i (kid p 1)
 | g,.slice a lo hi,p=>okE g a (kid p 0) && (okO g lo (kid (kid p 1) 0) && okO g hi (kid (kid p 1) 1))
 | g,.isin a t,p=>(g.gl (Str.ofString "isinstance") && g.gl (Str.ofString (tyN t))) && okE g a (kid p 1)
 | g,.bi f a,p=>g.gl (Str.ofString (Z8e f)) && okE g a (kid p 1)
 | g,.me _ a b,p=>((kid p 0).pos.endLine == p.pos.line && Zcq (pE a (kid (kid p 0) 0))) && (okE g a (kid (kid p 0) 0) && okE g b (kid p 1))
 | g,.call f es,p=>g.gl f && okEs g es (kids p).tail
 | g,.callD f es,p=>g.gl f && okEs g es (kids p).tail
 | _,.dictK,_=>true
 | g,.chain a _ b _ d,p=>okE g a (kid p 0) && (okE g b (kid p 1) && okE g d (kid p 2))
 | g,.dict1 a b,p=>okE g a (kid p 0) && okE g b (kid p 1)
 | g,.lenSet a,p=>(g.gl (Str.ofString "len") && g.gl (Str.ofString "set")) && okE g a (kid (kid p 1) 1)
 | g,.listR a,p=>(g.gl (Str.ofString "list") && g.gl (Str.ofString "range")) && okE g a (kid (kid p 1) 1)
 | g,.setd a b d,p=>((kid p 0).pos.endLine == p.pos.line && Zcq (pE a (kid (kid p 0) 0))) && (okE g a (kid (kid p 0) 0) && (okE g b (kid p 1) && okE g d (kid p 2)))
 | g,.comp _ elt k it,p=>(Z6K g (scOf p) (nmOf (kid p 1)) k && okI g it (kid p 2)) && okE (g.comp (scOf p) (nmOf (kid p 1)) k) elt (kid p 0)
 | g,.compH elt k a,p=>(Z6K g (scOf p) (nmOf (kid p 1)) k && okE g a (kid p 2)) && okE (g.comp (scOf p) (nmOf (kid p 1)) k) elt (kid p 0)
noncomputable def okEs:Gm→Exs→List Expr→Bool
 | _,.nil,_=>true
 | g,.cons e es,ps=>okE g e (ps.headD default) && okEs g es ps.tail
noncomputable def okO:Gm→Exo→Expr→Bool
 | _,.none,_=>true
 | g,.some e,p=>okE g e p
noncomputable def okI:Gm→It→Expr→Bool
 | g,.val e,p=>okE g e p
 | g,.range1 a,p=>g.gl (Str.ofString "range") && okE g a (kid p 1)
 | _,.enum _,_=>false
 | _,.zip _ _,_=>false
end
noncomputable def okZ (g:Gm) (it:It) (p:Expr):Bool:=match it with
 | .enum a=>g.gl (Str.ofString "enumerate") && okE g a (kid p 1)
 | .zip a b=>g.gl (Str.ofString "zip") && (okE g a (kid p 1) && okE g b (kid p 2))
 | _=>false
noncomputable def pT:List Nat→List Expr→List Expr
 | [],_=>[]
 | _ :: is,ps=>.Name (nmOf (ps.headD default)) (ps.headD default).pos :: pT is ps.tail
noncomputable def okT' (g:Gm):List Nat→List Expr→Bool
 | [],_=>true
 | i :: is,ps=>g.lv (nmOf (ps.headD default)) i && okT' g is ps.tail
structure SInfo where
 kids:List Expr
 blk:List Stmt
 els:List Stmt
noncomputable def Zcr (p:Stmt):SInfo:=Stmt.casesOn (motive_2:=fun _=>SInfo) p (fun _ _ _ _ _ _ _ _ _ _=>⟨[],[],[]⟩) (fun _ _ _ _ _ _ _ _ _ _=>⟨[],[],[]⟩) (fun _ _ _ _ _ _ _ _ _ _ _=>⟨[],[],[]⟩) (fun v _=>⟨[v.getD default],[],[]⟩) (fun _ _=>⟨[],[],[]⟩) (fun ts v _=>⟨v :: ts,[],[]⟩) (fun _ _ _ _ _ _ _=>⟨[],[],[]⟩) (fun _ _ _ _=>⟨[],[],[]⟩) (fun _ _ _ _ _=>⟨[],[],[]⟩) (fun t it b _ _=>⟨[t,it],b,[]⟩)
 (fun _ _ _ _ _=>⟨[],[],[]⟩) (fun t b _ _=>⟨[t],b,[]⟩) (fun t a b _=>⟨[t],a,b⟩) (fun _ _ _=>⟨[],[],[]⟩) (fun _ _ _=>⟨[],[],[]⟩) (fun _ _ _=>⟨[],[],[]⟩) (fun _ _ _=>⟨[],[],[]⟩) (fun _ _ _ _ _=>⟨[],[],[]⟩) (fun _ _ _ _ _=>⟨[],[],[]⟩) (fun _ _ _=>⟨[],[],[]⟩) (fun _ _=>⟨[],[],[]⟩) (fun _ _ _ _=>⟨[],[],[]⟩) (fun _ _=>⟨[],[],[]⟩) (fun _ _=>⟨[],[],[]⟩) (fun v _=>⟨[v],[],[]⟩) (fun _=>⟨[],[],[]⟩) (fun _=>⟨[],[],[]⟩) (fun _=>⟨[],[],[]⟩)
noncomputable def skid (p:Stmt) (i:Nat):Expr:=((Zcr p).kids)[i]?.getD default
noncomputable def blk (p:Stmt):List Stmt:=(Zcr p).blk
noncomputable def els (p:Stmt):List Stmt:=(Zcr p).els
mutual
noncomputable def pS:Sm→Stmt→Stmt
 | .asg _ e,p=>.Assign [.Name (nmOf (skid p 1)) (skid p 1).pos] (pE e (skid p 0)) p.pos
 | .asgT is e,p=>.Assign [.Tuple (pT is (kids (skid p 1))) (kOf (skid p 1)) (skid p 1).pos] (pE e (skid p 0)) p.pos
 | .expr e,p=>.Expr (pE e (skid p 0)) p.pos
 | .ret e,p=>.Return (some (pE e (skid p 0))) p.pos
 | .ifte c t f,p=>.If (pE c (skid p 0)) (pSs t (blk p)) (pSs f (els p)) p.pos
 | .for1 _ it b,p=>.For (.Name (nmOf (skid p 0)) (skid p 0).pos) (pI it (skid p 1)) (pSs b (blk p)) [] p.pos
 | .forT is it b,p=>.For (.Tuple (pT is (kids (skid p 0))) (kOf (skid p 0)) (skid p 0).pos) (pI it (skid p 1)) (pSs b (blk p)) [] p.pos
 | .while c b,p=>.While (pE c (skid p 0)) (pSs b (blk p)) [] p.pos
 | .asgI a i e,p=>.Assign [.Subscript (pE a (kid (skid p 1) 0)) (pE i (kid (skid p 1) 1)) (skid p 1).pos] (pE e (skid p 0)) p.pos
noncomputable def pSs:Sms→List Stmt→List Stmt
 | .nil,_=>[]
 | .cons s ss,ps=>pS s (ps.headD default) :: pSs ss ps.tail
end
mutual
noncomputable def okS (g:Gm):Sm→Stmt→Bool
 | .asg i e,p=>(!isH e && g.lv (nmOf (skid p 1)) i) && okE g e (skid p 0)
 | .asgT is e,p=>okT' g is (kids (skid p 1)) && ((pE e (skid p 0)).ctorIdx == 16 || (pE e (skid p 0)).ctorIdx == 23 || (pE e (skid p 0)).ctorIdx == 21) && okE g e (skid p 0)
 | .expr e,p=>!isC e && okE g e (skid p 0)
 | .ret e,p=>okE g e (skid p 0)
 | .ifte c t f,p=>okE g c (skid p 0) && (okSs g t (blk p) && okSs g f (els p))
 | .for1 i it b,p=>g.lv (nmOf (skid p 0)) i && (okI g it (skid p 1) && okSs g b (blk p))
 | .forT is it b,p=>okT' g is (kids (skid p 0)) && (okZ g it (skid p 1) && okSs g b (blk p))
 | .while c b,p=>okE g c (skid p 0) && okSs g b (blk p)
 | .asgI a i e,p=>(!isC e && okE g e (skid p 0)) && (okE g a (kid (skid p 1) 0) && okE g i (kid (skid p 1) 1))
noncomputable def okSs (g:Gm):Sms→List Stmt→Bool
 | .nil,_=>true
 | .cons s ss,ps=>okS g s (ps.headD default) && okSs g ss ps.tail
end
noncomputable def Z2V (n:Nat):Bool:=!(n == 22 || n == 7 || n == 26 || n == 9 || n == 10)
theorem Z1E (e:Ex):∀ p,Z2V (pE e p).ctorIdx = true :=
 Ex.casesOn (motive_1:=fun e=>∀ p,Z2V (pE e p).ctorIdx = true) e (fun _=>rfl) (fun _ _=>rfl) (fun _ _=>rfl) (fun _ _=>rfl) (fun _ _=>rfl) (fun _ _=>rfl) (fun _ _ _ _=>rfl) (fun _ _ _ _=>rfl) (fun _ _ _=>rfl) (fun _ _ _=>rfl) (fun _ _=>rfl) (fun _ _=>rfl) (fun _ _ _ _=>rfl) (fun _ _=>rfl) (fun _ _=>rfl) (fun _ _=>rfl) (fun _ _ _=>rfl) (fun _ _ _ _=>rfl) (fun _ _ _=>rfl) (fun _ _ _=>rfl) (fun _ _ _ _=>rfl) (fun _ _ _=>rfl) (fun _ _ _=>rfl) (fun _ _ _ _ _=>rfl) (fun _=>rfl) (fun _ _ _ _ _ _=>rfl) (fun _ _ _=>rfl) (fun _ _=>rfl) (fun _ _=>rfl) (fun _ _ _ _=>rfl) (fun _ _ _ _=>rfl)
theorem ZdX (e:Ex):∀ p,(isC e || !((pE e p).ctorIdx == 8)) = true :=
 Ex.casesOn (motive_1:=fun e=>∀ p,(isC e || !((pE e p).ctorIdx == 8)) = true) e (fun _=>rfl) (fun _ _=>rfl) (fun _ _=>rfl) (fun _ _=>rfl) (fun _ _=>rfl) (fun _ _=>rfl) (fun _ _ _ _=>rfl) (fun _ _ _ _=>rfl) (fun _ _ _=>rfl) (fun _ _ _=>rfl) (fun _ _=>rfl) (fun _ _=>rfl) (fun _ _ _ _=>rfl) (fun _ _=>rfl) (fun _ _=>rfl) (fun _ _=>rfl) (fun _ _ _=>rfl) (fun _ _ _ _=>rfl) (fun _ _ _=>rfl) (fun _ _ _=>rfl) (fun _ _ _ _=>rfl) (fun _ _ _=>rfl) (fun _ _ _=>rfl) (fun _ _ _ _ _=>rfl) (fun _=>rfl) (fun _ _ _ _ _ _=>rfl) (fun _ _ _=>rfl) (fun _ _=>rfl) (fun _ _=>rfl) (fun _ _ _ _=>rfl) (fun _ _ _ _=>rfl)
theorem and2 {a b:Bool} (h:(a && b) = true):a = true∧b = true:=Bool.and_eq_true_iff.mp h
end Mine
namespace Mine
open PySem PySem.Calls PyProof.Rows
structure Gd (base:Heap) (mg mb:Str→Option Value):Prop where
 g:base.Ns mainGlobals mg
 b:base.Ns builtinsNs mb
 blt:∀ x:Str,x ≠ "__name__"→mb x = bootBuiltins x
 free:∀ x ∈ (["isinstance","len","int","bool","list","tuple","str","range","enumerate","zip","set","sorted","min","max"]:List String),mg (Str.ofString x) = none
structure Nm (c:Cx) (g:Gm):Prop where
 sc:c.env.scope = g.sc
 kind:g.sc.kind = .function
 glob:c.env.globals = mainGlobals
 blt:c.env.builtins = builtinsNs
 var:∀ x i,g.vm.lookup x = some i→(g.sc.names.lookup x = some .local∧c.sl i = some (.d c.env.locals x)) ∨ (g.sc.names.lookup x = some .cell∧∃ a,c.env.cells.lookup x = some a∧c.sl i = some (.c a))
 apart:∀ i j s,c.sl i = some s→c.sl j = some s→i = j
 dom:∀ i s,c.sl i = some s→i ∈ g.used
 cells:∀ x,g.sc.names.lookup x = some .cell→∃ a,c.env.cells.lookup x = some a
noncomputable def Cx.bare (c:Cx):Cx:={ c with sl:=fun _=>none }
structure AOk (n:Nat) (A:Around):Prop where
 hh:A.handled = none
 depth:A.depth + n + 110 ≤ recursionLimit
 units:A.units + 4 * n + 200 ≤ cLine
 frames:∃ l,A.frames = some l
noncomputable def Does (n:Nat) (prog:Program) (w:World) (base:Heap) (f:Value) (args:List V) (σ:List O) (r:V) (st':St):Prop :=
 ∀ (c:Cx) μ (s:Shared) vs,c.prog = prog→c.w = w→c.base = base→AOk n c.A→Inv c.bare ⟨[],σ⟩ μ s.heap→RepVs (Tr σ μ) μ s.heap vs args →
  wpAny (model c.prog c.w) c.A (call f vs) (fun v s'=>∃ μ',RepV (Tr st'.σ μ') μ' s'.heap v r∧Inv c.bare ⟨[],st'.σ⟩ μ' s'.heap∧Stp c.bare σ μ s.heap st'.σ μ' s'.heap∧Same s s') (fun _ _=>False) s
noncomputable def FnOk (n:Nat) (prog:Program) (w:World) (base:Heap) (mg:Str→Option Value) (F:Fn):Prop :=
 ∀ f args σ r st',F f args σ = .ok r st'→∃ a o fd,mg f = some (.ref a)∧base.get? a = some o∧o.data = .func fd∧Does n prog w base (.ref a) args σ r st'
structure Wo where
 n:Nat
 mg:Str→Option Value
 mb:Str→Option Value
 F:Fn
structure Good (W:Wo) (c:Cx) (g:Gm):Prop where
 ok:CxOk c
 gd:Gd c.base W.mg W.mb
 nm:Nm c g
 a:AOk W.n c.A
 gs:∀ x i,g.gs.lookup x = some i→∃ t,W.mg x = some (.int i t)
 fn:FnOk W.n c.prog c.w c.base W.mg W.F
theorem Z0n {c:Cx} {b:Addr}:¬ Own c.bare b:=fun ⟨_,_,h,_⟩=>by cases h
theorem Inv.bare {c:Cx} {st:St} {μ:List Addr} {h:Heap} (I:Inv c st μ h):Inv c.bare ⟨[],st.σ⟩ μ h where
 vars:=fun i x q=>by simp at q
 slots:=fun i s q=>by cases q
 objs:=I.objs
 len:=I.len
 nd:=I.nd
 lt:=I.lt
 base:=I.base
 baseS:=fun b q=>(Z0n q).elim
 baseM:=I.baseM
 sep:=fun b q=>(Z0n q).elim
theorem Z1F {c:Cx} {st:St} {μ:List Addr} {h:Heap} (I:Inv c st μ h) {b:Addr} (q:Own c b):∃ o,h.get? b = some o:=by
 refine El.x2_2 q fun i s hs q0z=>?_
 obtain rfl:=q0z
 refine El.x1_2 ((I.slots i s hs).get) fun o ho _=>?_
 exact ⟨o,ho⟩
theorem Inv.back {c:Cx} {st:St} {μ μ':List Addr} {σ':List O} {h h':Heap} (I:Inv c st μ h) (I':Inv c.bare ⟨[],σ'⟩ μ' h') (S:Stp c.bare st.σ μ h σ' μ' h') :
  Inv c ⟨st.ρ,σ'⟩ μ' h'∧Stp c st.σ μ h σ' μ' h':=by
 have S':Stp c st.σ μ h σ' μ' h':=⟨S.size,fun b o e _ hT=>S.keep b o e Z0n hT,S.pre,S.tr,S.new,S.pv,S.pk⟩
 have kp:∀ b,Own c b→∀ o,h.get? b = some o→h'.get? b = some o:=fun b q o e=>S.keep b o e Z0n fun t=>I.sep b q t.mem
 refine ⟨⟨fun i x q=>?_,fun i s q=>(I.slots i s q).keeps (kp _ ⟨i,s,q,rfl⟩),I'.objs,I'.len,I'.nd,I'.lt,I'.base,I.baseS,I'.baseM,fun b q m=>?_⟩,S'⟩
 ·refine El.x2_3 (I.vars i x q) fun s v h1 h2 h3=>?_
  exact ⟨s,v,h1,h2.keeps (kp _ ⟨i,s,h1,rfl⟩),h3.step (st':=⟨st.ρ,σ'⟩) I S'⟩
 ·rcases S.new b m with k | k
  ·exact I.sep b q k
  ·refine El.x1_1 (Z1F I q) fun o ho=>?_
   exact Nat.lt_irrefl _ (Nat.lt_of_lt_of_le (Heap.lt_size ho) k)
noncomputable def EOk (W:Wo) (e:Ex):Prop:=∀ (g:Gm) (p:Expr) (c:Cx) (st:St) (μ:List Addr) (s:Shared),okE g e p = true→Good W c g→Inv c st μ s.heap→Sim c (eval (pE e p) c.env) (evE W.F e st) rV st.σ μ s
noncomputable def EsOk (W:Wo) (es:Exs):Prop:=∀ (g:Gm) (ps:List Expr) (c:Cx) (st:St) (μ:List Addr) (s:Shared) (pos:Pos),okEs g es ps = true→Good W c g→Inv c st μ s.heap→Sim c (spliced (backTo pos (starEach (pEs es ps) c.env))) (evEs W.F es st) rVs st.σ μ s
noncomputable def Z1k (x:Expr):Prop:=∀ (rest:List Expr) (env:Env),starEach (x :: rest) env = (false,eval x env) :: starEach rest env
theorem Zcs {x:Expr}:Z2V x.ctorIdx = true→Z1k x :=
 Expr.casesOn (motive_1:=fun x=>Z2V x.ctorIdx = true→Z1k x) x (fun _ _ _ _ _ _=>rfl) (fun _ _ _ _ _ _=>rfl) (fun _ _ _ _ _ _ _=>rfl) (fun _ _ _ _ _ _=>rfl) (fun _ _ _ _ _ _ _=>rfl) (fun _ _ _ _ _ _ _=>rfl) (fun _ _ _ _ _ _=>rfl) (fun _ _ _ _ _ _=>rfl) (fun _ _ _ _ _ _ _=>rfl) (fun _ _ _ _ _ _ _=>rfl) (fun _ _ _ _ _ _ _ _=>rfl) (fun _ _ _ _ _ _ _=>rfl) (fun _ _ _ _ _=>rfl) (fun _ _ _ _ _=>rfl) (fun _ _ _ _ _=>rfl) (fun _ _ _ _ _ _ _=>rfl) (fun _ _ _ _ _ _ _=>rfl) (fun _ _ _ _ _ _ _=>rfl) (fun _ _ _ _ _=>rfl) (fun _ _ _ _ _ _=>rfl) (fun _ _ _ _ _ _=>rfl) (fun _ _ _ _ _ _=>rfl) (fun _ _ h=>absurd h Bool.false_ne_true) (fun _ _ _ _ _=>rfl) (fun _ _ _ _ _=>rfl) (fun _ _ _ _ _ _=>rfl) (fun _ _ _ _ _ _ _=>rfl)
theorem Zbo {x:Expr}:Z2V x.ctorIdx = true→∀ (env:Env) (y:Value),foldedSetIterable x env y = pure y:=by
 cases x <;> first | exact fun _ _ _=>rfl | exact fun h=>absurd h Bool.false_ne_true
theorem Z4G {x:Expr} {op:CmpOp}:Z2V x.ctorIdx = true→behindInMarks op x = false:=by
 cases x <;> first | exact fun _=>rfl | exact fun h=>absurd h Bool.false_ne_true
theorem Z9Z {x:Expr}:Z2V x.ctorIdx = true→Z1o x = true:=by
 cases x <;> first | exact fun _=>rfl | exact fun h=>absurd h Bool.false_ne_true
theorem Z0a (e:Ex) (p:Expr):Z1k (pE e p):=Zcs (Z1E e p)
section
variable {W:Wo}
theorem Sim.two {δ γ:Type} {a b:Ex} {c:Cx} {g:Gm} {p q:Expr} {st:St} {μ:List Addr} {s:Shared} {f:Value→Value→Sem γ} {k:V→V→St→R δ} {rel:St→List Addr→Heap→γ→δ→Prop} (ha:EOk W a) (hb:EOk W b) (h1:okE g a p = true) (h2:okE g b q = true) (hg:Good W c g) (I:Inv c st μ s.heap)
  (h:∀ x y u v st μ (s:Shared),RepV (Tr st.σ μ) μ s.heap u x→RepV (Tr st.σ μ) μ s.heap v y→Inv c st μ s.heap→Sim c (f u v) (k x y st) rel st.σ μ s) :
  Sim c (eval (pE a p) c.env >>= fun u=>PySem.holding [u] (eval (pE b q) c.env) >>= fun v=>f u v) ((evE W.F a st).bind fun x st=>(evE W.F b st).bind fun y st=>k x y st) rel st.σ μ s :=
 Sim.bind (ha g p c st μ s h1 hg I) fun x st₁ u μ₁ s₁ _ rx I₁ _=>Sim.bind (Sim.holding (hb g q c st₁ μ₁ s₁ h2 hg I₁)) fun y st₂ v μ₂ s₂ _ ry I₂ S₂=>h x y u v st₂ μ₂ s₂ (RepV.step I₁ S₂ rx) ry I₂
theorem Sim.one {δ γ:Type} {a:Ex} {c:Cx} {g:Gm} {p:Expr} {st:St} {μ:List Addr} {s:Shared} {f:Value→Sem γ} {k:V→St→R δ} {rel:St→List Addr→Heap→γ→δ→Prop} (ha:EOk W a) (h1:okE g a p = true) (hg:Good W c g) (I:Inv c st μ s.heap)
  (h:∀ x u st μ (s:Shared),RepV (Tr st.σ μ) μ s.heap u x→Inv c st μ s.heap→Sim c (f u) (k x st) rel st.σ μ s) :
  Sim c (eval (pE a p) c.env >>= f) ((evE W.F a st).bind k) rel st.σ μ s :=
 Sim.bind (ha g p c st μ s h1 hg I) fun x st₁ u μ₁ s₁ _ rx I₁ _=>h x u st₁ μ₁ s₁ rx I₁
theorem Za0:EOk W .none:=fun _ _ _ _ _ _ _ _ I=>Sim.leaf I (fun _ _ _=>⟨.refl,.refl,.none⟩)
theorem Za1 {b:Bool}:EOk W (.bool b):=fun _ _ _ _ _ _ _ _ I=>Sim.leaf I (fun _ _ _=>⟨.refl,.refl,.bool _⟩)
theorem Zct {i:Int}:EOk W (.int i):=fun _ _ _ _ _ _ _ _ I=>Z0q I fun Q hq=>wpAny_Constant_int (hq _ _)
theorem Zcu {x:Str}:EOk W (.str x):=fun _ _ _ _ _ _ hk _ I=>Z3c I (and2 hk).1 (of_decide_eq_true (and2 hk).2) rfl fun Q hq=>wpAny_Constant_str (hq _ _)
theorem Z8f {g:Gm} {x:Str} {i:Nat} (h:g.lv x i = true):g.vm.lookup x = some i∧(x == ("__debug__":Str)) = false:=by
 simpa [Gm.lv,Z2z] using h
theorem Z8g {g:Gm} {x:Str} (h:g.gl x = true):g.sc.names.lookup x = some .globalImplicit∧(x == ("__debug__":Str)) = false:=by
 simpa [Gm.gl,Z2z] using h
theorem Z4H {c:Cx} {g:Gm} {st:St} {μ:List Addr} {s:Shared} {x:Str} {i:Nat} {pos:Pos} {y:V} (N:Nm c g) (hl:g.lv x i = true) (I:Inv c st μ s.heap) (hv:st.ρ[i]? = some (some y)) :
  ∃ v,RepV (Tr st.σ μ) μ s.heap v y∧∀ (Q:Value→Shared→Prop) (E:Value→Shared→Prop),Q v s→wpAny (model c.prog c.w) c.A (eval (.Name x pos) c.env) Q E s:=by
 refine El.x0_2 (Z8f hl) fun h1 h2=>?_
 refine El.x2_3 (I.vars i y hv) fun sl v g1 g2 g3=>?_
 refine ⟨v,g3,fun Q E hq=>wpAny_Name ?_ h2⟩
 have hk:c.env.scope.kind = .function:=by rw [N.sc]; exact N.kind
 rcases N.var x i h1 with ⟨k1,k2⟩ | ⟨k1,a,k2,k3⟩
 ·try clear g3; try clear v; try clear sl; try clear h2; try clear h1
  obtain rfl:=Option.some.inj (k2.symm.trans g1)
  refine El.x1_2 g2 fun m hm e=>?_
  exact wpAny_loadName_local hk (by unfold Env.kindOf; rw [N.sc]; exact k1) hm e hq
 ·try clear e; try clear hm; try clear m
  obtain rfl:=Option.some.inj (k3.symm.trans g1)
  exact wpAny_loadName_cell hk (by unfold Env.kindOf; rw [N.sc]; exact k1) k2 g2 hq
theorem Zcv {i:Nat}:EOk W (.loc i):=fun g p c st μ s hk hg I=>by
 rw [Z64]
 split
 ·rename_i y hv
  exact El.x1_2 (Z4H hg.nm hk I hv) fun v r h=>Z3d I r fun Q hq=>h _ _ (hq _)
 ·trivial
theorem Inv.freeze {c:Cx} {st:St} {μ:List Addr} {h:Heap} (I:Inv c st μ h) {i n:Nat} {xs:List V} (hv:st.ρ[i]? = some (some (.ref n))) (hn:st.σ[n]? = some (.lst xs)) :
  Inv c ⟨st.ρ.set i (some (.lst xs)),st.σ.set n .dead⟩ μ h∧Stp c st.σ μ h (st.σ.set n .dead) μ h ∧
   ∀ v,RepV (Tr st.σ μ) μ h v (.ref n)→RepV (Tr (st.σ.set n .dead) μ) μ h v (.lst xs):=by
 have sub:∀ b,Tr (st.σ.set n .dead) μ b→Tr st.σ μ b:=by
  intro b q8z
  refine El.x2_3 q8z fun k o e1 e2 e3=>?_
  by_cases hk:n = k
  ·try clear q8z
   subst hk
   have:n < st.σ.length:=(List.getElem?_eq_some_iff.mp hn).1
   have e4:O.dead = o:=by simpa [this] using e1
   subst e4; cases e2
  ·rw [List.getElem?_set_ne hk] at e1; exact ⟨k,o,e1,e2,e3⟩
 have S:Stp c st.σ μ h (st.σ.set n .dead) μ h:=⟨Nat.le_refl _,fun _ _ e _ _=>e,fun _ _ e=>e,fun b q=>.inl (sub b q),fun _ q=>.inl q,Z4c hn (by simp),fun _ _ _ _ _ e=>e⟩
 have mv:∀ {v:Value} {x:V},RepV (Tr st.σ μ) μ h v x→RepV (Tr (st.σ.set n .dead) μ) μ h v x:=fun r=>r.move (fun a o e _ hT=>⟨e,fun q=>hT (sub a q)⟩) fun _ _ q=>q
 have mvs:∀ {v:List Value} {x:List V},RepVs (Tr st.σ μ) μ h v x→RepVs (Tr (st.σ.set n .dead) μ) μ h v x:=fun r=>r.move (fun a o e _ hT=>⟨e,fun q=>hT (sub a q)⟩) fun _ _ q=>q
 have fr:∀ v,RepV (Tr st.σ μ) μ h v (.ref n)→RepV (Tr (st.σ.set n .dead) μ) μ h v (.lst xs):=by
  intro v r
  refine El.x1_2 r.refI fun a9 e9 ha=>?_
  try clear a9; try clear b; try clear sub
  subst e9
  refine El.x1_2 (I.objs n _ hn) fun a' ha' ro=>?_
  try clear a'; try clear e9
  obtain rfl:=Option.some.inj (ha.symm.trans ha')
  refine El.x2_3 ro.lst_inv fun vs nn ho hz r=>?_
  refine .lst ho rfl rfl hz ?_ (mvs r)
  intro q9z
  refine El.x2_3 q9z fun k o e1 e2 e3=>?_
  have:n = k:=(List.getElem?_inj (List.getElem?_eq_some_iff.mp ha).1 I.nd).mp (ha.trans e3.symm)
  try clear q9z; try clear hz; try clear nn; try clear vs; try clear ro; try clear ha'; try clear e3
  subst this
  have hlt:n < st.σ.length:=(List.getElem?_eq_some_iff.mp hn).1
  have e4:O.dead = o:=by simpa [hlt] using e1
  try clear e1
  subst e4; cases e2
 refine ⟨⟨fun j x q=>?_,I.slots,fun k o q=>?_,by simpa using I.len,I.nd,I.lt,I.base,I.baseS,I.baseM,I.sep⟩,S,fr⟩
 ·dsimp only at q ⊢
  by_cases hj:i = j
  ·try clear S; try clear e2
   subst hj
   have hlt:i < st.ρ.length:=(List.getElem?_eq_some_iff.mp hv).1
   have e4:V.lst xs = x:=by simpa [hlt] using q
   subst e4
   refine El.x2_3 (I.vars i _ hv) fun s v g1 g2 g3=>?_
   exact ⟨s,v,g1,g2,fr v g3⟩
  ·rw [List.getElem?_set_ne hj] at q
   refine El.x2_3 (I.vars j x q) fun s v g1 g2 g3=>?_
   exact ⟨s,v,g1,g2,mv g3⟩
 ·dsimp only at q ⊢
  by_cases hk:n = k
  ·try clear g3; try clear g2; try clear g1; try clear s; try clear x; try clear j; try clear v; try clear fr; try clear mv
   subst hk
   have hlt:n < st.σ.length:=(List.getElem?_eq_some_iff.mp hn).1
   have e4:O.dead = o:=by simpa [hlt] using q
   try clear hlt
   subst e4
   refine El.x1_2 (I.objs n _ hn) fun a ha _=>?_
   exact ⟨a,ha,.dead⟩
  ·rw [List.getElem?_set_ne hk] at q
   refine El.x1_2 (I.objs k o q) fun a ha r=>?_
   refine ⟨a,ha,?_⟩
   exact r.map (fun _ ho=>ho) fun _ _ r=>(mvs r)
theorem ZdY {i:Nat}:EOk W (.fz i):=fun g p c st μ s hk hg I=>by
 rw [Z7P]
 split
 ·rename_i k hv
  split
  ·rename_i xs hn
   exact El.x1_2 (Z4H hg.nm hk I hv) fun v r h=>El.x0_3 (I.freeze hv hn) fun I' S fr=>h _ _ ⟨μ,fr v r,I',S,.refl⟩
  ·trivial
 ·rename_i xs hv
  exact El.x1_2 (Z4H hg.nm hk I hv) fun v r h=>Z3d I r fun Q hq=>h _ _ (hq _)
 ·trivial
theorem Zcw {op:Op} {a b:Ex} (ha:EOk W a) (hb:EOk W b):EOk W (.bin op a b):=fun g p c st μ s hk hg I=>
 Sim.of_eq (eval_BinOp ..) (Sim.two ha hb (and2 hk).1 (and2 hk).2 hg I fun x y u v st μ s rx ry I=>Sim.at (Sim.operate (Zcp hg.ok I rx ry op)))
theorem Zcx {op:Cm} {a b:Ex} (ha:EOk W a) (hb:EOk W b):EOk W (.cmp op a b):=fun g p c st μ s hk hg I=>
 Sim.of_eq ((eval_Compare1 ..).trans (by rw [markedBehindIn_of_false (Z4G (Z1E b _))])) (Sim.two ha hb (and2 hk).1 (and2 hk).2 hg I fun x y u v st μ s rx ry I=>Sim.at (Sim.operate (Z3v hg.ok I rx ry op)))
end
theorem Z3x:bootBuiltins (Str.ofString "isinstance") = some (.builtin "isinstance"):=by decide +kernel
theorem Z6L:bootBuiltins (Str.ofString "len") = some (.builtin "len"):=by decide +kernel
theorem Z6M:bootBuiltins (Str.ofString "int") = some (.type "int"):=by decide +kernel
theorem Z8h:bootBuiltins (Str.ofString "bool") = some (.type "bool"):=by decide +kernel
theorem Z3y:bootBuiltins (Str.ofString "list") = some (.type "list"):=by decide +kernel
theorem Z4k:bootBuiltins (Str.ofString "tuple") = some (.type "tuple"):=by decide +kernel
theorem Za2:bootBuiltins (Str.ofString "str") = some (.type "str"):=by decide +kernel
theorem Z4l:bootBuiltins (Str.ofString "range") = some (.type "range"):=by decide +kernel
theorem Z46:bootBuiltins (Str.ofString "enumerate") = some (.type "enumerate"):=by decide +kernel
theorem Za3:bootBuiltins (Str.ofString "zip") = some (.type "zip"):=by decide +kernel
noncomputable def TOk (W:Wo) (e:Ex):Prop:=∀ (g:Gm) (p:Expr) (c:Cx) (st:St) (μ:List Addr) (s:Shared),okE g e p = true→Good W c g→Inv c st μ s.heap→Sim c (isTrue (pE e p) c.env (eval (pE e p) c.env)) (Z04 (evE W.F e st)) rEq st.σ μ s
noncomputable def IOk (W:Wo) (e:Ex):Prop:=EOk W e∧TOk W e
noncomputable def Z5m (py:Expr):Prop:=∀ env whole,isTrue py env whole = (do let v ← whole; standAt py.pos; holding [v] (truthy v))
noncomputable def Zcy (n:Nat):Bool:=!(n == 3 || n == 0 || n == 5 || n == 15)
theorem Z06 {x:Expr}:Zcy x.ctorIdx = true→Z5m x:=by
 cases x <;> first | exact fun _ _ _=>rfl | exact fun h=>absurd h Bool.false_ne_true
theorem R.bind_assoc {α β γ:Type} (m:R α) (f:α→St→R β) (g:β→St→R γ):(m.bind f).bind g = m.bind fun a st=>(f a st).bind g:=by cases m <;> rfl
theorem Sim.of_m {α β:Type} {c:Cx} {t:Sem α} {m m':R β} {rel:St→List Addr→Heap→α→β→Prop} {σ:List O} {μ:List Addr} {s:Shared} (e:m = m') (h:Sim c t m' rel σ μ s):Sim c t m rel σ μ s:=e ▸ h
theorem Sim.eq {α β γ:Type} {c:Cx} {t:Sem α} {f:α→Sem β} {m:R α} {g:α→St→R γ} {rel':St→List Addr→Heap→β→γ→Prop} {σ:List O} {μ:List Addr} {s:Shared} (h:Sim c t m rEq σ μ s)
  (hf:∀ b st₁ μ₁ (s₁:Shared),m = .ok b st₁→Inv c st₁ μ₁ s₁.heap→Stp c σ μ s.heap st₁.σ μ₁ s₁.heap→Sim c (f b) (g b st₁) rel' st₁.σ μ₁ s₁):Sim c (t >>= f) (m.bind g) rel' σ μ s :=
 Sim.bind h fun b st₁ a μ₁ s₁ e (r:a = b) I S=>r ▸ hf b st₁ μ₁ s₁ e I S
section
variable {W:Wo}
theorem TOk.plain {e:Ex} (h:EOk W e) (hp:∀ p,Z5m (pE e p)):IOk W e :=
 ⟨h,fun g p c st μ s hk hg I=>Sim.of_eq (hp p ..) (Sim.one h hk hg I fun _ _ _ _ _ rx I=>Sim.at (Sim.holding (Z0Y I rx)))⟩
theorem Za4 {op:Cm} {a b:Ex} (ha:EOk W a) (hb:EOk W b):IOk W (.cmp op a b) :=
 ⟨Zcx ha hb,fun g p c st μ s hk hg I=>Sim.of_eq ((isTrue_Compare1 ..).trans (by rw [markedBehindIn_of_false (Z4G (Z1E b _))]))
  (Sim.of_m ((R.bind_assoc ..).trans (Z0D _ fun _ _=>R.bind_assoc ..)) (Sim.two ha hb (and2 hk).1 (and2 hk).2 hg I fun x y u v st μ s rx ry I=>
   Sim.at (Sim.bind (Sim.operate (Z3v hg.ok I rx ry op)) fun _ _ _ _ _ _ rq I _=>Sim.holding (Z0Y I rq))))⟩
theorem Z3z {x:V} {st:St} {t:Bool} (h:x.truthy st.σ = some t):Z04 (.ok x st) = .ok t st:=by
 unfold Z04; rw [R.bind_ok,h]; rfl
theorem Sim.cond {α β:Type} {c:Cx} {t:Bool} {T1 T2:Sem α} {m1 m2:R β} {rel:St→List Addr→Heap→α→β→Prop} {σ:List O} {μ:List Addr} {s:Shared} (h1:t = true→Sim c T1 m1 rel σ μ s) (h2:t = false→Sim c T2 m2 rel σ μ s) :
  Sim c (if t = true then T1 else T2) (if t = true then m1 else m2) rel σ μ s:=by
 cases t with
 | true=>simpa using h1 rfl
 | false=>simpa using h2 rfl
theorem Z6N (op:BoolOp) {f:Bool} {A B B':Expr} {q:Pos} (hB:f = true→∃ y zs,B = .BoolOp op (y :: zs) q):∃ y zs,bop op f A B B' q = .BoolOp op (A :: y :: zs) q∧(∀ env,eval (.BoolOp op (y :: zs) q) env = eval (bif f then B else B') env)∧∀ env,allTrue op (y :: zs) env = isTrue (bif f then B else B') env (eval (bif f then B else B') env):=by
 cases f with
 | true=>
  refine El.x2_1 (hB rfl) fun y zs e=>?_
  subst e
  exact ⟨y,zs,rfl,fun _=>rfl,fun _=>rfl⟩
 | false=>
  refine ⟨B',[],rfl,fun _=>rfl,fun env=>?_⟩
  refine Eq.trans ?_ (bind_pure (isTrue B' env (eval B' env)))
  rw [arm_allTrue_cons]
  refine congrArg (fun k=>isTrue B' env (eval B' env) >>= k) (funext fun t=>?_)
  cases op <;> cases t <;> rfl
theorem Zbp {g:Gm} {b:Ex} {f x:Bool} {r r':Expr} (h:(if f = true then x && okE g b r else okE g b r') = true):okE g b (bif f then r else r') = true∧(f = true→x = true):=by
 cases f with
 | true=>exact ⟨(and2 h).2,fun _=>(and2 h).1⟩
 | false=>exact ⟨h,fun e=>by cases e⟩
theorem Zbq {b:Ex} {f:Bool} {r r':Expr}:(bif f then pE b r else pE b r') = pE b (bif f then r else r'):=by cases f <;> rfl
theorem Z6b {F:Fn} {a b:Ex} {st:St}:Z04 (evE F (.band a b) st) = (Z04 (evE F a st)).bind fun t st=>if t then Z04 (evE F b st) else .ok false st:=by
 refine Eq.trans (R.bind_assoc (evE F a st) _ _) (Eq.trans ?_ (R.bind_assoc (evE F a st) _ _).symm)
 refine Z0D _ fun x st=>?_
 cases h:x.truthy st.σ with
 | none=>rfl
 | some t=>
  cases t with
  | false=>exact Z3z h
  | true=>rfl
theorem Z7s {F:Fn} {a b:Ex} {st:St}:Z04 (evE F (.bor a b) st) = (Z04 (evE F a st)).bind fun t st=>if t then .ok true st else Z04 (evE F b st):=by
 refine Eq.trans (R.bind_assoc (evE F a st) _ _) (Eq.trans ?_ (R.bind_assoc (evE F a st) _ _).symm)
 refine Z0D _ fun x st=>?_
 cases h:x.truthy st.σ with
 | none=>rfl
 | some t=>
  cases t with
  | false=>rfl
  | true=>exact Z3z h
theorem Zcz {α:Type} {o:Option α} {st st':St} {t:α} (h:R.lift o st = .ok t st'):st' = st:=by
 cases o <;> cases h; rfl
theorem Sim.tru {β γ:Type} {c:Cx} {st:St} {μ:List Addr} {s:Shared} {x:V} {u:Value} {f:Bool→Sem β} {g:Bool→St→R γ} {rel:St→List Addr→Heap→β→γ→Prop} (I:Inv c st μ s.heap) (rx:RepV (Tr st.σ μ) μ s.heap u x)
  (h:∀ t μ₁ (s₁:Shared),Inv c st μ₁ s₁.heap→RepV (Tr st.σ μ₁) μ₁ s₁.heap u x→Sim c (f t) (g t st) rel st.σ μ₁ s₁):Sim c (PySem.holding [u] (truthy u) >>= f) ((R.lift (x.truthy st.σ) st).bind g) rel st.σ μ s :=
 Sim.eq (Sim.holding (Z0Y I rx)) fun t st₁ μ₁ s₁ e I₁ S₁=>by
  cases Zcz e
  exact h t μ₁ s₁ I₁ (RepV.step I S₁ rx)
theorem Za5 {a b:Ex} (ha:IOk W a) (hb:IOk W b):IOk W (.band a b):=by
 have key:∀ {g p},okE g (.band a b) p = true→∃ r y zs,okE g a (kid p 0) = true∧okE g b r = true∧pE (.band a b) p = .BoolOp .And (pE a (kid p 0) :: y :: zs) p.pos∧(∀ env,eval (.BoolOp .And (y :: zs) p.pos) env = eval (pE b r) env)∧∀ env,allTrue .And (y :: zs) env = isTrue (pE b r) env (eval (pE b r) env):=fun {g p} hk=>by
  refine El.x0_2 (Zbp (and2 hk).2) fun h2 h3=>?_
  refine El.x2_3 (Z6N .And (f:=flat p) (A:=pE a (kid p 0)) (B:=pE b (Z5l .And p)) (B':=pE b (kid p 1)) (q:=p.pos) fun e=>Ex.band.elim (motive_1:=fun b=>∃ y zs,pE b (Z5l .And p) = .BoolOp .And (y :: zs) p.pos) b (eq_of_beq (h3 e)) fun x y=>⟨_,_,rfl⟩) fun y zs e1 e2 e3=>?_
  rw [Zbq] at e2 e3
  exact ⟨_,y,zs,(and2 hk).1,h2,e1,e2,e3⟩
 refine ⟨fun g p c st μ s hk hg I=>El.x3_5 (key hk) fun r y zs h1 h2 e1 e2 _=>?_,fun g p c st μ s hk hg I=>El.x3_5 (key hk) fun r y zs h1 h2 e1 _ e3=>?_⟩
 ·refine Sim.of_eq (congrArg (fun x=>eval x c.env) e1) (Sim.one ha.1 h1 hg I fun x u st μ s rx I=>Sim.at (Sim.tru I rx fun t μ s I rx=>?_))
  cases t with
  | true=>exact Sim.of_eq (e2 c.env) (hb.1 g r c st μ s h2 hg I)
  | false=>exact Sim.pure I rx
 ·rw [e1]
  refine Sim.of_m Z6b (Sim.eq (ha.2 g _ c st μ s h1 hg I) fun t st₁ μ₁ s₁ _ I₁ S₁=>?_)
  cases t with
  | true=>exact Sim.of_eq (e3 c.env) (hb.2 g r c st₁ μ₁ s₁ h2 hg I₁)
  | false=>exact Sim.pure I₁ rfl
theorem ZcA {a b:Ex} (ha:IOk W a) (hb:IOk W b):IOk W (.bor a b):=by
 have key:∀ {g p},okE g (.bor a b) p = true→∃ r y zs,okE g a (kid p 0) = true∧okE g b r = true∧pE (.bor a b) p = .BoolOp .Or (pE a (kid p 0) :: y :: zs) p.pos∧(∀ env,eval (.BoolOp .Or (y :: zs) p.pos) env = eval (pE b r) env)∧∀ env,allTrue .Or (y :: zs) env = isTrue (pE b r) env (eval (pE b r) env):=fun {g p} hk=>by
  refine El.x0_2 (Zbp (and2 hk).2) fun h2 h3=>?_
  refine El.x2_3 (Z6N .Or (f:=flat p) (A:=pE a (kid p 0)) (B:=pE b (Z5l .Or p)) (B':=pE b (kid p 1)) (q:=p.pos) fun e=>Ex.bor.elim (motive_1:=fun b=>∃ y zs,pE b (Z5l .Or p) = .BoolOp .Or (y :: zs) p.pos) b (eq_of_beq (h3 e)) fun x y=>⟨_,_,rfl⟩) fun y zs e1 e2 e3=>?_
  rw [Zbq] at e2 e3
  exact ⟨_,y,zs,(and2 hk).1,h2,e1,e2,e3⟩
 refine ⟨fun g p c st μ s hk hg I=>El.x3_5 (key hk) fun r y zs h1 h2 e1 e2 _=>?_,fun g p c st μ s hk hg I=>El.x3_5 (key hk) fun r y zs h1 h2 e1 _ e3=>?_⟩
 ·refine Sim.of_eq (congrArg (fun x=>eval x c.env) e1) (Sim.one ha.1 h1 hg I fun x u st μ s rx I=>Sim.at (Sim.tru I rx fun t μ s I rx=>?_))
  cases t with
  | true=>exact Sim.pure I rx
  | false=>exact Sim.of_eq (e2 c.env) (hb.1 g r c st μ s h2 hg I)
 ·rw [e1]
  refine Sim.of_m Z7s (Sim.eq (ha.2 g _ c st μ s h1 hg I) fun t st₁ μ₁ s₁ _ I₁ S₁=>?_)
  cases t with
  | true=>exact Sim.pure I₁ rfl
  | false=>exact Sim.of_eq (e3 c.env) (hb.2 g r c st₁ μ₁ s₁ h2 hg I₁)
theorem ZcB {a:Ex} (ha:IOk W a):IOk W (.not a) :=
 ⟨fun g p c st μ s hk hg I=>Sim.of_eq (arm_eval_UnaryOp ..) (Sim.of_m (R.bind_assoc (evE W.F a st) _ _) (Sim.one ha.1 hk hg I fun x u st μ s rx I=>Sim.at (Sim.holding
   (Sim.imp (T:=truthy u >>= fun b=>pure (Value.bool (!b))) (fun Q h=>by unfold unaryOp; exact wpAny_holding h) (Sim.eq (Z0Y I rx) fun t st₁ μ₁ s₁ _ I₁ _=>Sim.pure I₁ (.bool _)))))),
  fun g p c st μ s hk hg I=>Sim.of_eq (arm_isTrue_UnaryOp ..) (Sim.of_m (R.bind_assoc (Z04 (evE W.F a st)) _ _) (Sim.eq (ha.2 g _ c st μ s hk hg I) fun t st₁ μ₁ s₁ _ I₁ _=>Sim.pure I₁ rfl))⟩
theorem ZcC {i:Int}:EOk W (.neg i):=fun g p c st μ s hk hg I=>
 Sim.of_eq (arm_eval_UnaryOp ..) (Z0q I fun Q hq=>wpAny_bind (wpAny_Constant_int (wpAny_bind (wpAny_standAt (wpAny_holding (P.neg_int (hq _ _)))))))
theorem ZcD {d a b:Ex} (hd:IOk W d) (ha:IOk W a) (hb:IOk W b):IOk W (.ite d a b) :=
 ⟨fun g p c st μ s hk hg I=>Sim.of_eq (arm_eval_IfExp ..) (Sim.eq (hd.2 g _ c st μ s (and2 hk).1 hg I) fun t st₁ μ₁ s₁ _ I₁ _=>
   Sim.cond (fun _=>ha.1 g _ c st₁ μ₁ s₁ (and2 (and2 hk).2).1 hg I₁) fun _=>hb.1 g _ c st₁ μ₁ s₁ (and2 (and2 hk).2).2 hg I₁),
  fun g p c st μ s hk hg I=>Sim.of_eq (arm_isTrue_IfExp ..) (Sim.of_m ((R.bind_assoc (Z04 (evE W.F d st)) _ _).trans (Z0D _ fun t st=>by cases t <;> rfl)) (Sim.eq (g:=fun t st=>if t = true then Z04 (evE W.F a st) else Z04 (evE W.F b st)) (hd.2 g _ c st μ s (and2 hk).1 hg I) fun t st₁ μ₁ s₁ _ I₁ _=>
   Sim.cond (fun _=>ha.2 g _ c st₁ μ₁ s₁ (and2 (and2 hk).2).1 hg I₁) fun _=>hb.2 g _ c st₁ μ₁ s₁ (and2 (and2 hk).2).2 hg I₁))⟩
theorem ZcE:EsOk W .nil:=fun _ _ _ _ _ _ _ _ _ I=>Sim.leaf I (wpAny_items_nil ⟨.refl,.refl,.nil⟩)
theorem Za6 {e:Ex} {es:Exs} (he:EOk W e) (hes:EsOk W es):EsOk W (.cons e es):=fun g ps c st μ s pos hk hg I=>by
 show Sim c (spliced (backTo pos (starEach (pE e (ps.headD default) :: pEs es ps.tail) c.env))) _ _ _ _ _
 rw [Z0a]
 exact Sim.bind (he g _ c st μ s (and2 hk).1 hg I) fun y st₁ v μ₁ s₁ _ rx I₁ S₁=>
  Sim.bind (t:=PySem.holding [v] (spliced (backTo pos (starEach (pEs es ps.tail) c.env)))) (f:=fun vs=>pure ([v]++vs)) (Sim.holding (hes g _ c st₁ μ₁ s₁ pos (and2 hk).2 hg I₁)) fun ys st₂ vs μ₂ s₂ _ rxs I₂ S₂=>Sim.pure I₂ (.cons (RepV.step I₁ S₂ rx) rxs)
theorem Sim.ite {α β:Type} {p:Prop} [Decidable p] {c:Cx} {t:Sem α} {m:R β} {rel:St→List Addr→Heap→α→β→Prop} {σ:List O} {μ:List Addr} {s:Shared} (h:p→Sim c t m rel σ μ s):Sim c t (if p then m else .stuck) rel σ μ s:=by
 by_cases q:p
 ·rw [if_pos q]; exact h q
 ·rw [if_neg q]; trivial
theorem ZcF {es:Exs} (h:EsOk W es):EOk W (.tup es):=fun g p c st μ s hk hg I=>
 Sim.of_eq (arm_eval_Tuple ..) (Sim.at (Sim.bind (h g _ c st μ s _ hk hg I) fun xs st₁ vs μ₁ s₁ _ rx I₁ S₁=>Sim.ite fun hz=>by
  have hz:vs.length ≤ sizeLine:=by rw [RepVs.length rx]; exact hz
  have hz':vs.toArray.size ≤ sizeLine:=by rw [List.size_toArray]; exact hz
  exact Sim.leaf I₁ (wpAny_newObj_type ⟨.push _,.refl,Z5g I₁ rx hz⟩ hz')))
theorem Za7 {es:Exs} (h:EsOk W es):EOk W (.list es):=fun g p c st μ s hk hg I=>
 Sim.of_eq (arm_eval_List ..) (Sim.at (Sim.bind (h g _ c st μ s _ hk hg I) fun xs st₁ vs μ₁ s₁ _ rx I₁ S₁=>Sim.ite fun hz=>by
  have hz:vs.length ≤ sizeLine:=by rw [RepVs.length rx]; exact hz
  have hz':vs.toArray.size ≤ sizeLine:=by rw [List.size_toArray]; exact hz
  exact Sim.leaf I₁ (wpAny_newObj_type ⟨.push _,.refl,Z29 I₁ rx hz⟩ hz')))
theorem Inv.track {c:Cx} {st:St} {μ:List Addr} {h:Heap} (I:Inv c st μ h) {o:Obj} {ob:O} (hf:o.isFreed = false) (hl:ob.live = true) (hr:∀ T,(∀ b,T b→Tr st.σ μ b ∨ b = h.objs.size)→RepO T (μ++[h.objs.size]) (h.push o) h.objs.size ob) :
  Inv c ⟨st.ρ,st.σ++[ob]⟩ (μ++[h.objs.size]) (h.push o)∧Stp c st.σ μ h (st.σ++[ob]) (μ++[h.objs.size]) (h.push o):=by
 have hnm:h.objs.size ∉ μ:=fun q=>Nat.lt_irrefl _ (I.lt _ q)
 have tr:∀ b,Tr (st.σ++[ob]) (μ++[h.objs.size]) b→Tr st.σ μ b ∨ b = h.objs.size:=by
  intro b q16z
  refine El.x2_3 q16z fun k o' e1 e2 e3=>?_
  by_cases hk:k < st.σ.length
  ·rw [List.getElem?_append_left hk] at e1
   rw [List.getElem?_append_left (by rw [I.len]; exact hk)] at e3
   exact .inl ⟨k,o',e1,e2,e3⟩
  ·rw [List.getElem?_append_right (by rw [I.len]; lia)] at e3
   have hlt:k < (st.σ++[ob]).length:=(List.getElem?_eq_some_iff.mp e1).1
   simp only [List.length_append,List.length_singleton] at hlt
   have:k - μ.length = 0:=by rw [I.len]; lia
   rw [this] at e3
   exact .inr (by simpa using e3.symm)
 have S:Stp c st.σ μ h (st.σ++[ob]) (μ++[h.objs.size]) (h.push o) :=
  ⟨(Ext.push o).1,fun b o' e _ _=>(Ext.push o).2 b o' e,fun k a e=>by rw [List.getElem?_append_left (List.getElem?_eq_some_iff.mp e).1]; exact e,
   fun b q=>(tr b q).imp id fun e=>Nat.le_of_eq e.symm,fun a q=>(List.mem_append.mp q).imp id fun e=>Nat.le_of_eq (List.mem_singleton.mp e).symm,fun k e=>by rw [List.getElem?_append_left (List.getElem?_eq_some_iff.mp e).1]; exact e,fun _ a o' _ _ q=>(Ext.push o).2 a o' q⟩
 have I':=I.ext (Ext.push o)
 refine ⟨⟨fun i x q=>?_,I'.slots,fun k o' q=>?_,by simp [I.len],?_,fun a q=>?_,I'.base,I.baseS,fun a q=>?_,fun b q m=>?_⟩,S⟩
 ·refine El.x2_3 (I.vars i x q) fun sl v g1 g2 g3=>?_
  exact ⟨sl,v,g1,g2.keeps fun o' e=>(Ext.push o).2 _ o' e,g3.step (st':=⟨st.ρ,st.σ++[ob]⟩) I S⟩
 ·dsimp only at q ⊢
  by_cases hk:k < st.σ.length
  ·rw [List.getElem?_append_left hk] at q
   refine El.x1_2 (I.objs k o' q) fun a ha r=>?_
   refine ⟨a,by rw [List.getElem?_append_left (by rw [I.len]; exact hk)]; exact ha,?_⟩
   exact r.map (fun _ ho=>((Ext.push o).2 _ _ ho)) fun _ _ r=>(RepVs.step (st':=⟨st.ρ,st.σ++[ob]⟩) I S r)
  ·have hlt:k < (st.σ++[ob]).length:=(List.getElem?_eq_some_iff.mp q).1
   simp only [List.length_append,List.length_singleton] at hlt
   have e0:k = st.σ.length:=by lia
   try clear r; try clear g3; try clear g2; try clear g1; try clear v; try clear sl; try clear x; try clear i; try clear S; try clear hlt; try clear e3; try clear e2
   subst e0
   have e4:ob = o':=by simpa using q
   try clear e0; try clear e1; try clear k; try clear q16z
   subst e4
   exact ⟨h.objs.size,by rw [← I.len]; simp,hr _ tr⟩
 ·refine List.nodup_append.mpr ⟨I.nd,by simp,?_⟩
  intro a ha b hb
  rw [List.mem_singleton.mp hb]
  exact fun e=>hnm (e ▸ ha)
 ·rw [Heap.size_push]
  rcases List.mem_append.mp q with q | q
  ·exact Nat.lt_succ_of_lt (I.lt a q)
  ·rw [List.mem_singleton.mp q]; exact Nat.lt_succ_self _
 ·rcases List.mem_append.mp q with q | q
  ·exact I.baseM a q
  ·rw [List.mem_singleton.mp q]
   cases hb:c.base.get? h.objs.size with
   | none=>rfl
   | some o'=>exact absurd (Heap.lt_size (I.base _ _ hb)) (Nat.lt_irrefl _)
 ·rcases List.mem_append.mp m with m | m
  ·exact I.sep b q m
  ·refine El.x1_1 (Z1F I q) fun o' ho'=>?_
   rw [List.mem_singleton.mp m] at ho'
   exact Nat.lt_irrefl _ (Heap.lt_size ho')
theorem Z8i {es:Exs} (h:EsOk W es):EOk W (.listM es):=fun g p c st μ s hk hg I=>
 Sim.of_eq (arm_eval_List ..) (Sim.at (Sim.bind (h g _ c st μ s _ hk hg I) fun xs st₁ vs μ₁ s₁ _ rx I₁ S₁=>Sim.ite fun hz=>by
  have hz':vs.toArray.size ≤ sizeLine:=by rw [List.size_toArray,RepVs.length rx]; exact hz
  refine El.x0_2 (I₁.track (o:={ cls:=.type "list",data:=.seq vs.toArray }) (ob:=.lst xs) rfl rfl fun T hT=>.lst (Heap.get?_push_size _ rfl) hz' ?_) fun I₂ S₂=>?_
  ·exact RepVs.move (fun a o e _ hn=>⟨(Ext.push _).2 a o e,fun q=>(hT a q).elim hn fun e'=>Nat.lt_irrefl _ (e' ▸ Heap.lt_size e)⟩)
    (fun k a e=>by rw [List.getElem?_append_left (List.getElem?_eq_some_iff.mp e).1]; exact e) rx
  ·exact wpAny_newObj_type ⟨_,.ref (by rw [← I₁.len]; simp),I₂,S₂,.refl⟩ hz'))
theorem ZcG {a i:Ex} (ha:EOk W a) (hi:EOk W i):EOk W (.sub a i):=fun g p c st μ s hk hg I=>
 Sim.of_eq (eval_Subscript ..) (Sim.two ha hi (and2 hk).1 (and2 hk).2 hg I fun x y u v st μ s rx ry I=>Sim.at (Zcj hg.ok (value:=pE a (kid p 0)) I rx ry (Z9Z (Z1E i _))))
end
noncomputable def OOk (W:Wo) (e:Exo):Prop:=∀ (g:Gm) (p:Expr) (c:Cx) (st:St) (μ:List Addr) (s:Shared),okO g e p = true→Good W c g→Inv c st μ s.heap→Sim c (valueOrNone (evalOpt (pO e p) c.env)) (evO W.F e st) rV st.σ μ s
section
variable {W:Wo}
theorem Z8j:OOk W .none:=fun _ _ _ _ _ _ _ _ I=>Sim.pure I .none
theorem Z8k {e:Ex} (h:EOk W e):OOk W (.some e):=h
theorem Z8l {a:Ex} {lo hi:Exo} (ha:EOk W a) (hlo:OOk W lo) (hhi:OOk W hi):EOk W (.slice a lo hi):=fun g p c st μ s hk hg I=>by
 refine Sim.of_eq (eval_Subscript ..) (Sim.bind (ha g _ c st μ s (and2 hk).1 hg I) fun x st₁ ov μ₁ s₁ _ rx I₁ S₁=>?_)
 have hs:Sim c (eval (.Slice (pO lo (kid (kid p 1) 0)) (pO hi (kid (kid p 1) 1)) none (kid p 1).pos) c.env) ((evO W.F lo st₁).bind fun yl st=>(evO W.F hi st).bind fun yu st=>.ok (yl,yu) st)
   (fun st μ h i q=>∃ vl vu sa,i = .ref sa∧h.IsSliceOf sa vl vu .none∧RepV (Tr st.σ μ) μ h vl q.1∧RepV (Tr st.σ μ) μ h vu q.2) st₁.σ μ₁ s₁ :=
  Sim.of_eq (arm_eval_Slice ..) (Sim.bind (hlo g _ c st₁ μ₁ s₁ (and2 (and2 hk).2).1 hg I₁) fun yl st₂ vl μ₂ s₂ _ rl I₂ S₂=>Sim.bind (Sim.holding (hhi g _ c st₂ μ₂ s₂ (and2 (and2 hk).2).2 hg I₂)) fun yu st₃ vu μ₃ s₃ _ ru I₃ S₃=>
   Sim.leaf I₃ (wpAny_bind (wpAny_holding (wpAny_pure (wpAny_newObj_type ⟨.push _,.refl,vl,vu,_,rfl,Heap.IsSliceOf.new ..,(RepV.step I₂ S₃ rl).ext (.push _),ru.ext (.push _)⟩)))))
 refine Sim.of_m (m':=((evO W.F lo st₁).bind fun yl st=>(evO W.F hi st).bind fun yu st=>R.ok (yl,yu) st).bind fun q st=>R.lift (Z0k st.σ x q.1 q.2) st) ((R.bind_assoc (evO W.F lo st₁) _ _).trans (Z0D _ fun yl st=>R.bind_assoc (evO W.F hi st) (fun yu st=>R.ok (yl,yu) st) (fun q st=>R.lift (Z0k st.σ x q.1 q.2) st))).symm ?_
 refine Sim.bind (Sim.holding hs) fun q st₂ i μ₂ s₂ _ rq I₂ S₂=>Sim.at ?_
 refine El.x3_4 rq fun vl vu sa e hsl rl ru=>?_
 subst e
 exact Z88 I₂ (RepV.step I₁ S₂ rx) rl ru hsl
theorem Z2W {c:Cx} {g:Gm} {st:St} {μ:List Addr} {s:Shared} {x:String} {pos:Pos} {v:Value} (hg:Good W c g) (I:Inv c st μ s.heap) (hx:g.gl (Str.ofString x) = true)
  (hm:x ∈ (["isinstance","len","int","bool","list","tuple","str","range","enumerate","zip","set","sorted","min","max"]:List String)) (hv:bootBuiltins (Str.ofString x) = some v)
  {Q:Value→Shared→Prop} {E:Value→Shared→Prop} (h:Q v s):wpAny (model c.prog c.w) c.A (eval (.Name (Str.ofString x) pos) c.env) Q E s:=by
 refine El.x0_2 (Z8g hx) fun h1 h2=>?_
 have hk:c.env.scope.kind = .function:=by rw [hg.nm.sc]; exact hg.nm.kind
 refine Name_function_global hk (by unfold Env.kindOf; rw [hg.nm.sc]; exact h1) (loadGlobal_builtin (mg:=W.mg) (mb:=W.mb) ?_ (hg.gd.free x hm) ?_ ?_ h) h2
 ·rw [hg.nm.glob]; exact hg.gd.g.keeps I.base
 ·rw [hg.nm.blt]; exact hg.gd.b.keeps I.base
 ·rw [hg.gd.blt _ ?_]; exact hv
  simp only [List.mem_cons,List.not_mem_nil,or_false] at hm
  try clear hk; try clear h2; try clear h1
  rcases hm with rfl | rfl | rfl | rfl | rfl | rfl | rfl | rfl | rfl | rfl | rfl | rfl | rfl | rfl <;> decide
theorem Z6c {c:Cx} {g:Gm} {st:St} {μ:List Addr} {s:Shared} {x:Str} {pos:Pos} {v:Value} (hg:Good W c g) (I:Inv c st μ s.heap) (hx:g.gl x = true) (hv:W.mg x = some v)
  {Q:Value→Shared→Prop} {E:Value→Shared→Prop} (h:Q v s):wpAny (model c.prog c.w) c.A (eval (.Name x pos) c.env) Q E s:=by
 refine El.x0_2 (Z8g hx) fun h1 h2=>?_
 have hk:c.env.scope.kind = .function:=by rw [hg.nm.sc]; exact hg.nm.kind
 exact Name_function_global hk (by unfold Env.kindOf; rw [hg.nm.sc]; exact h1) (loadGlobal_global (mg:=W.mg) (by rw [hg.nm.glob]; exact hg.gd.g.keeps I.base) hv h) h2
theorem Z6d (x:Str) (p:Pos):Z1k (.Name x p):=fun _ _=>rfl
theorem Z4I {pos:Pos} {env:Env}:∀ {xs:List Expr},(∀ x ∈ xs,Z1k x)→(backTo pos (starEach xs env)).any (·.1) = false
 | [],_=>rfl
 | x :: xs,h=>by
  rw [h x (List.mem_cons_self ..)]
  show (false || (backTo pos (starEach xs env)).any (·.1)) = false
  rw [Z4I fun y hy=>h y (List.mem_cons_of_mem _ hy)]; rfl
theorem Z2A {M:Model} {A:Around} {E:Value→Shared→Prop} {s:Shared} {pos:Pos} {env:Env} {f:Value} {x:Expr} {xs:List Expr} (hx:Z1k x) {Q:Args→Shared→Prop}
  (h:wpAny M A (spliced (backTo pos (starEach (x :: xs) env))) (fun vs s'=>Q ⟨vs,[]⟩ s') E s):wpAny M A (evalArgs f true (backTo pos (starEach (x :: xs) env)) []) Q E s:=by
 rw [hx] at h ⊢
 exact evalArgs_plain h
theorem Z8m {M:Model} {A:Around} {E:Value→Shared→Prop} {s:Shared} {pos:Pos} {env:Env} {id:String} {first:List Value} {x:Expr} {xs:List Expr} (hx:∀ y ∈ x :: xs,Z1k y) {Q:Value→Shared→Prop}
  (h:wpAny M A (spliced (backTo pos (starEach (x :: xs) env))) (fun vs s₁=>wpAny M A (call (.builtin id) (first++vs)) Q E s₁) E s) :
  wpAny M A (callWith pos (.builtin id) first (backTo pos (starEach (x :: xs) env)) []) Q E s :=
 callWith_builtin (Z4I hx) (Z2A (hx x (List.mem_cons_self ..)) h)
theorem ZcH {M:Model} {A:Around} {E:Value→Shared→Prop} {s:Shared} {pos:Pos} {env:Env} {T:String} {x:Expr} {xs:List Expr} (hx:∀ y ∈ x :: xs,Z1k y) {Q:Value→Shared→Prop}
  (h:wpAny M A (spliced (backTo pos (starEach (x :: xs) env))) (fun vs s₁=>wpAny M A (call (.type T) vs) Q E s₁) E s) :
  wpAny M A (callWith pos (.type T) [] (backTo pos (starEach (x :: xs) env)) []) Q E s :=
 PyProof.Rows.callWith_type (first:=[]) (Z4I hx) (Z2A (hx x (List.mem_cons_self ..)) h)
theorem Z1p {α β:Type} {c:Cx} {σ:List O} {μ:List Addr} {s:Shared} {pos:Pos} {x:Expr} {xs:List Expr} {m:R α} {k:α→St→R β} {rel:St→List Addr→Heap→Value→α→Prop} {rel':St→List Addr→Heap→List Value→β→Prop}
  (hx:Z1k x) (h:Sim c (eval x c.env) m rel σ μ s)
  (hk:∀ b st₁ v μ₁ s₁,m = .ok b st₁→rel st₁ μ₁ s₁.heap v b→Inv c st₁ μ₁ s₁.heap→Stp c σ μ s.heap st₁.σ μ₁ s₁.heap→Sim c (spliced (backTo pos (starEach xs c.env)) >>= fun vs=>pure (v :: vs)) (k b st₁) rel' st₁.σ μ₁ s₁) :
  Sim c (spliced (backTo pos (starEach (x :: xs) c.env))) (m.bind k) rel' σ μ s:=by
 rw [hx]
 show Sim c (do
  let v ← eval x c.env
  let here ← (pure [v]:Sem (List Value))
  return here++(← holding here (spliced (backTo pos (starEach xs c.env))))) _ _ _ _ _
 refine Sim.bind h fun b st₁ v μ₁ s₁ e r I₁ S₁=>?_
 have:=hk b st₁ v μ₁ s₁ e r I₁ S₁
 refine Sim.imp (fun Q q=>?_) this
 show wpAny _ _ (holding [v] (spliced (backTo pos (starEach xs c.env))) >>= fun vs=>pure ([v]++vs)) Q _ _
 exact fun Γ p hΓ=>by
  have:=q Γ p hΓ
  rw [Sem.wp_bind'] at this ⊢
  rw [Sem.wp_holding]
  exact this
theorem Z1G {y:Expr} {x:Expr} (h:Z1k x) (hy:y ∈ [x]):Z1k y:=List.mem_singleton.mp hy ▸ h
theorem Z4J {α:Type} (m:R α):m = m.bind fun y st=>.ok y st:=by cases m <;> rfl
theorem Z3e {α β:Type} (m:R α) (k:α→St→R β):m.bind k = (m.bind fun y st=>.ok y st).bind k:=congrArg (fun m=>R.bind m k) (Z4J m)
theorem Z3A {β:Type} {c:Cx} {σ:List O} {μ:List Addr} {s:Shared} {pos:Pos} {x:Expr} {m:R β} {rel:St→List Addr→Heap→Value→β→Prop} (hx:Z1k x) (h:Sim c (eval x c.env) m rel σ μ s) :
  Sim c (spliced (backTo pos (starEach [x] c.env))) (m.bind fun y st=>.ok y st) (fun st μ h vs y=>∃ u,vs = [u]∧rel st μ h u y) σ μ s :=
 Z1p hx h fun y st₂ u μ₂ s₂ _ ry I₂ S₂=>Sim.leaf I₂ (wpAny_bind (wpAny_items_nil (wpAny_pure ⟨.refl,.refl,u,rfl,ry⟩)))
theorem Sim.name {β:Type} {c:Cx} {g:Gm} {st:St} {μ:List Addr} {s:Shared} {x:String} {pos:Pos} {v:Value} {f:Value→Sem Value} {m:R β} {rel:St→List Addr→Heap→Value→β→Prop} (hg:Good W c g) (I:Inv c st μ s.heap) (hx:g.gl (Str.ofString x) = true)
  (hm:x ∈ (["isinstance","len","int","bool","list","tuple","str","range","enumerate","zip","set","sorted","min","max"]:List String)) (hv:bootBuiltins (Str.ofString x) = some v) (h:Sim c (f v) m rel st.σ μ s):Sim c (eval (.Name (Str.ofString x) pos) c.env >>= f) m rel st.σ μ s :=
 Sim.imp (fun Q h=>wpAny_bind (Z2W hg I hx hm hv h)) h
theorem Za8 {a:Ex} {t:Ty} (ha:EOk W a):EOk W (.isin a t):=fun g p c st μ s hk hg I=>by
 have hty:bootBuiltins (Str.ofString (tyN t)) = some (.type (tyN t))∧tyN t ∈ (["isinstance","len","int","bool","list","tuple","str","range","enumerate","zip","set","sorted","min","max"]:List String):=by
  cases t
  ·exact ⟨Z6M,by decide⟩
  ·exact ⟨Z8h,by decide⟩
  ·exact ⟨Z3y,by decide⟩
  ·exact ⟨Z4k,by decide⟩
  ·exact ⟨Za2,by decide⟩
 refine Sim.of_eq (arm_eval_Call_Name' ..) (Sim.name hg I (and2 (and2 hk).1).1 (by decide) Z3x (Sim.of_m (Z3e ..) ?_))
 refine Sim.via (rel:=fun st μ h vs y=>∃ u,vs = [u,.type (tyN t)]∧RepV (Tr st.σ μ) μ h u y) (f:=fun vs=>call (.builtin "isinstance") vs) (fun Q h=>Z8m (first:=[]) (fun y hy=>?_) h)
  (Z1p (Z0a a _) (ha g _ c st μ s (and2 hk).2 hg I) fun y st₂ u μ₂ s₂ _ ry I₂ S₂=>Sim.leaf I₂ (wpAny_bind (wpAny_items_cons (Z2W hg I₂ (and2 (and2 hk).1).2 hty.2 hty.1 (wpAny_items_nil (wpAny_pure ⟨.refl,.refl,u,rfl,ry⟩))))))
  fun y st₂ vs μ₂ s₂ _ hu I₂ S₂=>El.x1_2 hu fun u e ry=>e ▸ Z9W I₂ ry t
 exact (List.mem_cons.mp hy).elim (fun e=>e ▸ Z0a a _) fun hy=>Z1G (Z6d _ _) hy
theorem Z1l {β δ:Type} {c:Cx} {g:Gm} {st:St} {μ:List Addr} {s:Shared} {x:Expr} {p pos:Pos} {fn:String} {fv:Value} {rel:St→List Addr→Heap→Value→β→Prop} {rel':St→List Addr→Heap→Value→δ→Prop} {m:R β} {k:β→St→R δ}
  (hfv:(∃ b,fv = .builtin b) ∨ ∃ T,fv = .type T) (hb:bootBuiltins (Str.ofString fn) = some fv) (hm:fn ∈ (["isinstance","len","int","bool","list","tuple","str","range","enumerate","zip","set","sorted","min","max"]:List String))
  (hg:Good W c g) (I:Inv c st μ s.heap) (h1:g.gl (Str.ofString fn) = true) (hx:Z1k x) (ha:Sim c (eval x c.env) m rel st.σ μ s)
  (hk:∀ b st₁ u μ₁ s₁,rel st₁ μ₁ s₁.heap u b→Inv c st₁ μ₁ s₁.heap→Sim c (call fv [u]) (k b st₁) rel' st₁.σ μ₁ s₁) :
  Sim c (eval (.Call (.Name (Str.ofString fn) p) [x] [] pos) c.env) (m.bind k) rel' st.σ μ s:=by
 refine Sim.of_eq (arm_eval_Call_Name' ..) (Sim.name hg I h1 hm hb (Sim.of_m (Z3e ..) (Sim.via (f:=fun vs=>call fv vs) (fun Q h=>?_) (Z3A (pos:=pos) hx ha) fun y st₂ vs μ₂ s₂ _ hu I₂ S₂=>El.x1_2 hu fun u e ry=>e ▸ hk y st₂ u μ₂ s₂ ry I₂)))
 rcases hfv with ⟨b,rfl⟩ | ⟨T,rfl⟩
 ·exact Z8m (first:=[]) (fun y=>Z1G hx) h
 ·exact ZcH (fun y=>Z1G hx) h
theorem Z8n {δ:Type} {a b:Ex} {c:Cx} {g:Gm} {st:St} {μ:List Addr} {s:Shared} {p pos:Pos} {q1 q2:Expr} {fn:String} {fv:Value} {rel':St→List Addr→Heap→Value→δ→Prop} {k:V→V→St→R δ}
  (hfv:(∃ b,fv = .builtin b) ∨ ∃ T,fv = .type T) (hb:bootBuiltins (Str.ofString fn) = some fv) (hm:fn ∈ (["isinstance","len","int","bool","list","tuple","str","range","enumerate","zip","set","sorted","min","max"]:List String))
  (hg:Good W c g) (I:Inv c st μ s.heap) (h1:g.gl (Str.ofString fn) = true) (ha:EOk W a) (hb':EOk W b) (k1:okE g a q1 = true) (k2:okE g b q2 = true)
  (hk:∀ x y st₁ u v μ₁ s₁,RepV (Tr st₁.σ μ₁) μ₁ s₁.heap u x→RepV (Tr st₁.σ μ₁) μ₁ s₁.heap v y→Inv c st₁ μ₁ s₁.heap→Stp c st.σ μ s.heap st₁.σ μ₁ s₁.heap→Sim c (call fv [u,v]) (k x y st₁) rel' st₁.σ μ₁ s₁) :
  Sim c (eval (.Call (.Name (Str.ofString fn) p) [pE a q1,pE b q2] [] pos) c.env) ((evE W.F a st).bind fun x st=>(evE W.F b st).bind fun y st=>k x y st) rel' st.σ μ s:=by
 refine Sim.of_eq (arm_eval_Call_Name' ..) (Sim.name hg I h1 hm hb ?_)
 refine Sim.of_m (m':=((evE W.F a st).bind fun x st=>(evE W.F b st).bind fun y st=>.ok (x,y) st).bind fun q st=>k q.1 q.2 st) ((R.bind_assoc (evE W.F a st) _ _).trans (Z0D _ fun x st=>R.bind_assoc (evE W.F b st) (fun y st=>R.ok (x,y) st) (fun q st=>k q.1 q.2 st))).symm ?_
 refine Sim.via (rel:=fun st μ h vs q=>∃ u v,vs = [u,v]∧RepV (Tr st.σ μ) μ h u q.1∧RepV (Tr st.σ μ) μ h v q.2) (f:=fun vs=>call fv vs) (fun Q h=>?_)
  (Z1p (pos:=pos) (xs:=[pE b q2]) (Z0a a _) (ha g _ c st μ s k1 hg I) fun x st₁ u μ₁ s₁ _ rx I₁ S₁=>?_) fun q st₂ vs μ₂ s₂ _ hu I₂ S₂=>El.x2_3 hu fun u v e ru rv=>e ▸ hk _ _ st₂ u v μ₂ s₂ ru rv I₂ S₂
 ·rcases hfv with ⟨b',rfl⟩ | ⟨T,rfl⟩
  ·exact Z8m (first:=[]) (fun z hz=>(List.mem_cons.mp hz).elim (fun e=>e ▸ Z0a a _) fun hz=>Z1G (Z0a b _) hz) h
  ·exact ZcH (fun z hz=>(List.mem_cons.mp hz).elim (fun e=>e ▸ Z0a a _) fun hz=>Z1G (Z0a b _) hz) h
 ·refine Sim.of_m (m':=((evE W.F b st₁).bind fun y st=>.ok y st).bind fun y st=>.ok (x,y) st) (congrArg (fun m=>R.bind m _) (Z4J (evE W.F b st₁))) ?_
  exact Sim.bind (Z3A (pos:=pos) (Z0a b _) (hb' g _ c st₁ μ₁ s₁ k2 hg I₁)) fun y st₂ vs μ₂ s₂ _ hu I₂ S₂=>El.x1_2 hu fun v e ry=>Sim.pure I₂ ⟨u,v,by rw [e],RepV.step I₁ S₂ rx,ry⟩
theorem Za9:bootBuiltins (Str.ofString "set") = some (.type "set"):=by decide +kernel
theorem Zaa:bootBuiltins (Str.ofString "max") = some (.builtin "max"):=by decide +kernel
theorem Zab (f:Bi):bootBuiltins (Str.ofString (Z8e f)) = some (biV f):=by
 cases f
 ·exact Z6L
 ·exact Z6M
 ·exact Z3y
 ·exact Z4k
 ·exact Zaa
theorem ZdZ {a:Ex} {f:Bi} (ha:EOk W a):EOk W (.bi f a):=fun g p c st μ s hk hg I=>
 Z1l (by cases f <;> first | exact .inl ⟨_,rfl⟩ | exact .inr ⟨_,rfl⟩) (Zab f) (by cases f <;> decide) hg I (and2 hk).1 (Z0a a _) (ha g _ c st μ s (and2 hk).2 hg I) fun x st₁ u μ₁ s₁ rx I₁=>ZdV hg.ok I₁ rx f
theorem Z4m {o:Expr}:Zcq o = true→∀ (name:Str) (env:Env) (whole:Sem Value),attributeBase o name env whole = whole:=by
 cases o <;> first | exact fun _ _ _ _=>rfl | exact fun h=>absurd h Bool.false_ne_true
theorem Z6O {b:Bool} {o:Expr} {env:Env} {apos pos:Pos} (h:(apos.endLine == pos.line) = true):methodCallPos true o env apos pos = pure pos:=by
 have h:=eq_of_beq h
 unfold methodCallPos; simp [h]
theorem Zac {σ:List O} {k:Nat} (h:Z58 σ .append (.ref k) = true):∃ xs,σ[k]? = some (.lst xs):=by
 have h:(match σ[k]? with | some (.lst _)=>true | _=>false) = true:=h
 cases hk:σ[k]? with
 | none=>rw [hk] at h; cases h
 | some o=>rw [hk] at h; cases o <;> first | exact ⟨_,rfl⟩ | cases h
theorem Ze0 {m:Me} {a b:Ex} (ha:EOk W a) (hb:EOk W b):EOk W (.me m a b):=fun g p c st μ s hk hg I=>by
 refine Sim.of_eq (arm_eval_Call ..) (Sim.of_eq (congrArg (fun t=>t >>= _) (Z4m (and2 (and2 hk).1).2 ..)) (Sim.one ha (and2 (and2 hk).2).1 hg I fun x u st₁ μ₁ s₁ rx I₁=>Sim.at (Sim.ite fun hr=>?_)))
 have meth:∀ {T id:String},PlainAttrs T→PySem.Slot T (Str.ofString (Z8d m)) id→typeOf (.builtin id) = pure (.type "method_descriptor")→s₁.TypeIs u T→(∀ a,u = .ref a→∃ ob,s₁.heap.get? a = some ob∧ob.dict = none)→id = meN m →
   Sim c (methodCall (pE a (kid (kid p 0) 0)) (Str.ofString (Z8d m)) (kid p 0).pos p.pos c.env u ([pE b (kid p 1)].length + ([]:List Keyword).length) (backTo p.pos (starEach [pE b (kid p 1)] c.env)) (backToKw p.pos (keywordEach [] c.env))) ((evE W.F b st₁).bind fun y st=>Z0S m x y st) rV st₁.σ μ₁ s₁:=by
  rintro T id pa slot hty hT hd rfl
  refine Sim.of_m (Z3e ..) (Sim.via (f:=fun vs=>call (.builtin (meN m)) ([u]++vs)) (fun Q h=>?_) (Z3A (pos:=p.pos) (Z0a b _) (hb g _ c st₁ μ₁ s₁ (and2 (and2 hk).2).2 hg I₁)) fun y st₂ vs μ₂ s₂ _ hu I₂ S₂=>El.x1_2 hu fun v e ry=>e ▸ Zbn I₂ (RepV.step I₁ S₂ rx) ry m)
  have hform:methodCallForm ([pE b (kid p 1)].length + ([]:List Keyword).length) (backTo p.pos (starEach [pE b (kid p 1)] c.env)) (backToKw p.pos (keywordEach [] c.env)) = true:=by rw [Z0a]; rfl
  unfold methodCall
  rw [hform]
  exact wpAny_bind (wpAny_holding (getMethod_builtin hT pa slot hty hd (wpAny_bind (wpAny_of_eq (Z6O (b:=true) (and2 (and2 hk).1).1) (Z8m (first:=[u]) (fun y=>Z1G (Z0a b _)) h)))))
 cases m with
 | append=>
  cases x with
  | ref k=>
   refine El.x1_1 (Zac hr) fun xs hn=>?_
   refine El.x2_4 (I₁.ref_inv rx hn) fun a' vs e q hz r=>?_
   subst e
   refine El.x1_1 q fun k' ho=>?_
   exact meth PySem.F.plainAttrs_list PySem.F.slot_list_append PySem.F.type_list_append ⟨_,ho,rfl⟩ (fun a h=>by cases h; exact ⟨_,ho,rfl⟩) rfl
  | _=>exact absurd hr Bool.false_ne_true
 | join=>
  cases x with
  | str l=>exact El.x2_4 (RepV.str_inv rx) fun z t e _ _ _=>by subst e; exact meth PySem.F.plainAttrs_str PySem.F.slot_str_join PySem.F.type_str_join (typeIs_str _ _ _) (fun a h=>nomatch h) rfl
  | _=>exact absurd hr Bool.false_ne_true
theorem Zad {es:Exs} (he:EsOk W es) {g:Gm} {ps:List Expr} {c:Cx} {st:St} {μ:List Addr} {s:Shared} {pos:Pos} {f:Value} (hk:okEs g es ps = true) (hg:Good W c g) (I:Inv c st μ s.heap) :
  Sim c (evalArgs f true (backTo pos (starEach (pEs es ps) c.env)) []) (evEs W.F es st) (fun st μ h (x:Args) ys=>x.kw = []∧RepVs (Tr st.σ μ) μ h x.pos ys) st.σ μ s:=by
 cases es with
 | nil=>exact Sim.leaf I (PySem.evalArgs_none ⟨.refl,.refl,rfl,.nil⟩)
 | cons e es=>
  have:=he g ps c st μ s pos hk hg I
  refine Sim.ok fun xs st₁ hE=>?_
  rw [hE] at this
  exact wpAny_mono (Z2A (f:=f) (Q:=fun x s'=>∃ μ',RepVs (Tr st₁.σ μ') μ' s'.heap x.pos xs∧x.kw = []∧Inv c st₁ μ' s'.heap∧Stp c st.σ μ s.heap st₁.σ μ' s'.heap∧Same s s') (Z0a e _)
   (wpAny_mono this (fun vs s' q8=>El.x1_4 q8 fun μ' g1 g2 g3 g4=>⟨μ',g1,rfl,g2,g3,g4⟩) fun _ _ e=>e)) (fun x s' q8=>El.x1_5 q8 fun μ' g1 g2 g3 g4 g5=>⟨μ',⟨g2,g1⟩,g3,g4,g5⟩) fun _ _ e=>e
theorem Z5n {F:Fn} {f:Str} {es:Exs} (he:EsOk W es) {g:Gm} {ps:List Expr} {pos pos':Pos} {c:Cx} {st:St} {μ:List Addr} {s:Shared} (hF:FnOk W.n c.prog c.w c.base W.mg F) (h1:g.gl f = true) (h2:okEs g es ps = true) (hg:Good W c g) (I:Inv c st μ s.heap) :
  Sim c (eval (.Call (.Name f pos') (pEs es ps) [] pos) c.env) ((evEs W.F es st).bind fun xs st=>Z7n (F f xs st.σ) st.ρ) rV st.σ μ s:=by
 refine Sim.of_eq (arm_eval_Call_Name' ..) (Sim.ok fun r stF h=>?_)
 refine El.x2_2 (R.bind_inv h) fun xs st₁ hE h=>?_
 have h:Z7n (F f xs st₁.σ) st₁.ρ = .ok r stF:=h
 cases hC:F f xs st₁.σ with
 | stuck=>rw [hC] at h; cases h
 | exc _ _=>rw [hC] at h; cases h
 | ok r' st₂=>
  rw [hC] at h
  cases h
  refine El.x3_4 (hF f xs st₁.σ r st₂ hC) fun fa fo fd k1 k2 k3 hcall=>?_
  refine wpAny_bind (Z6c hg I h1 k1 ?_)
  have hargs:=Zad (f:=.ref fa) (pos:=pos) he h2 hg I
  rw [hE] at hargs
  refine callWith_function_kw (o:=fo) (fd:=fd) (wpAny_mono hargs (fun x s₁ ⟨μ₁,⟨g1,g2⟩,g3,g4,g5⟩=>⟨⟨g3.base _ _ k2,k3⟩,?_⟩) fun _ _ e=>e.elim)
  rw [g1,List.nil_append]
  refine wpAny_mono (hcall c μ₁ s₁ x.pos rfl rfl rfl hg.a g3.bare g2) (fun v s₂ q8=>El.x1_4 q8 fun μ₂ q1 q2 q3 q4=>?_) fun _ _ e=>e
  exact El.x0_2 (g3.back q2 q3) fun I₂ S₂=>⟨μ₂,q1,I₂,g4.trans S₂,g5.trans q4⟩
theorem Zae {f:Str} {es:Exs} (he:EsOk W es):EOk W (.call f es):=fun g p c st μ s hk hg I=>Z5n he hg.fn (and2 hk).1 (and2 hk).2 hg I
end
section
variable {W:Wo}
theorem Ze1 {o1 o2:Cm} {a d:Ex} {p q:Expr} {env:Env}:markedEach [cmM o1,cmM o2] [pE a p,pE d q] (evalEach [pE a p,pE d q] env) = [eval (pE a p) env,eval (pE d q) env]:=by
 show [eval (pE a p) env,markedBehindIn (cmM o2) (pE d q) (eval (pE d q) env)] = _
 rw [markedBehindIn_of_false (Z4G (Z1E d _))]
theorem Z5o {γ δ:Type} {c:Cx} {g:Gm} {b d:Ex} {o1:Cm} {p q:Expr} {pos:Pos} {x:V} {u:Value} {st₁:St} {μ₁:List Addr} {s₁:Shared} {T:Value→Value→Sem γ} {T0:Value→Sem γ} {k:V→V→St→R δ} {k0:δ} {rel:St→List Addr→Heap→γ→δ→Prop} (hb:EOk W b) (hd:EOk W d) (h2:okE g b p = true) (h3:okE g d q = true) (hg:Good W c g) (rx:RepV (Tr st₁.σ μ₁) μ₁ s₁.heap u x) (I₁:Inv c st₁ μ₁ s₁.heap)
  (hT:∀ y z v w st μ (s:Shared),RepV (Tr st.σ μ) μ s.heap v y→RepV (Tr st.σ μ) μ s.heap w z→Inv c st μ s.heap→Sim c (T v w) (k y z st) rel st.σ μ s) (h0:∀ st μ (s:Shared),Inv c st μ s.heap→Sim c (T0 (.bool false)) (.ok k0 st) rel st.σ μ s) :
  Sim c (do
   let rv ← holding [u] (eval (pE b p) c.env)
   standAt pos
   let t ← holding [u,rv] (compareOp (cmM o1) u rv)
   release [u,rv] [t]
   if ← holding [t,rv] (truthy t) then (do
    let rv₂ ← holding [rv] (eval (pE d q) c.env)
    T rv rv₂) else T0 t) ((evE W.F b st₁).bind fun y st=>(R.lift (Z0r st.σ o1 x y) st).bind fun t st=>if t then (evE W.F d st).bind fun z st=>k y z st else .ok k0 st) rel st₁.σ μ₁ s₁:=by
 refine Sim.bind (Sim.holding (hb _ _ c st₁ μ₁ s₁ h2 hg I₁)) fun y st₂ v μ₂ s₂ _ ry I₂ S₂=>?_
 refine Sim.at ?_
 have hc:=Z3v hg.ok I₂ (RepV.step I₁ S₂ rx) ry o1
 cases hq:Z0r st₂.σ o1 x y with
 | none=>trivial
 | some t=>
  rw [hq] at hc
  refine Sim.bind (m:=.ok (V.bool t) st₂) (g:=fun (z:V) st=>(if t then (evE W.F d st).bind fun z st=>k y z st else .ok k0 st)) (Sim.holding (vs:=[u,v]) hc) fun z st₃ tv μ₃ s₃ he rz I₃ S₃=>?_
  cases he
  obtain rfl:=RepV.bool_inv rz
  refine Sim.release (Sim.bind (m:=.ok t st₂) (g:=fun t st=>if t then (evE W.F d st).bind fun z st=>k y z st else .ok k0 st) (Sim.holding (Z0Y I₃ (.bool t))) fun t' st₄ b' μ₄ s₄ he rb I₄ S₄=>?_)
  cases he
  cases rb
  cases t with
  | false=>exact h0 _ _ _ I₄
  | true=>
   refine Sim.bind (Sim.holding (hd _ _ c st₂ μ₄ s₄ h3 hg I₄)) fun z st₅ v₂ μ₅ s₅ _ rz' I₅ S₅=>?_
   exact hT _ _ _ _ _ _ _ (RepV.step I₄ S₅ (RepV.step I₃ S₄ (RepV.step I₂ S₃ ry))) rz' I₅
theorem Z6e {F:Fn} {a b d:Ex} {o1 o2:Cm} (st:St):Z04 (evE F (.chain a o1 b o2 d) st) = (evE F a st).bind fun x st=>(evE F b st).bind fun y st=>(R.lift (Z0r st.σ o1 x y) st).bind fun t st=>
  if t then (evE F d st).bind fun z st=>(R.lift ((Z0r st.σ o2 y z).map V.bool) st).bind (fun v st=>R.lift (v.truthy st.σ) st) else R.ok false st:=by
 rw [Z7R]
 unfold Z04
 rw [R.bind_assoc]
 refine Z0D _ fun x st=>?_
 rw [R.bind_assoc]
 refine Z0D _ fun y st=>?_
 rw [R.bind_assoc]
 refine Z0D _ fun t st=>?_
 cases t with
 | false=>rfl
 | true=>exact R.bind_assoc ..
theorem Z8o {a b d:Ex} {o1 o2:Cm} (ha:EOk W a) (hb:EOk W b) (hd:EOk W d):IOk W (.chain a o1 b o2 d):=by
 refine ⟨fun g p c st μ s hk hg I=>?_,fun g p c st μ s hk hg I=>?_⟩
 ·refine Sim.of_eq (arm_eval_Compare ..) ?_
  rw [Ze1]
  refine Sim.bind (ha _ _ c st μ s (and2 hk).1 hg I) fun x st₁ u μ₁ s₁ _ rx I₁ S₁=>?_
  exact Z5o (pos:=p.pos) (T:=fun v w=>do standAt p.pos; operate [v,w] (compareOp (cmM o2) v w)) (T0:=fun t=>pure t) (k:=fun y z st=>R.lift ((Z0r st.σ o2 y z).map V.bool) st) hb hd (and2 (and2 hk).2).1 (and2 (and2 hk).2).2 hg rx I₁
   (fun y z v w st μ s ry rz I=>Sim.at (Sim.operate (Z3v hg.ok I ry rz o2))) fun st μ s I=>Sim.pure I (.bool false)
 ·refine Sim.of_m (Z6e st) (Sim.of_eq (arm_isTrue_Compare ..) ?_)
  rw [Ze1]
  refine Sim.bind (ha _ _ c st μ s (and2 hk).1 hg I) fun x st₁ u μ₁ s₁ _ rx I₁ S₁=>?_
  exact Z5o (pos:=p.pos) (T:=fun v w=>do standAt p.pos; let c₂ ← operate [v,w] (compareOp (cmM o2) v w); holding [c₂] (truthy c₂)) (T0:=fun _=>pure false) (k:=fun y z st=>(R.lift ((Z0r st.σ o2 y z).map V.bool) st).bind (fun v st=>R.lift (v.truthy st.σ) st)) hb hd (and2 (and2 hk).2).1 (and2 (and2 hk).2).2 hg rx I₁
   (fun y z v w st μ s ry rz I=>Sim.at (Sim.bind (Sim.operate (Z3v hg.ok I ry rz o2)) fun q st₆ v₃ μ₆ s₆ _ rq I₆ S₆=>Sim.holding (Z0Y I₆ rq))) fun st μ s I=>Sim.pure I rfl
end
noncomputable def rFl (st:St) (μ:List Addr) (h:Heap) (f:Flow) (x:Fl):Prop :=
 match f,x with
 | .next,.next=>True
 | .brk,.brk=>True
 | .cont,.cont=>True
 | .ret v,.ret y=>RepV (Tr st.σ μ) μ h v y
 | _,_=>False
noncomputable def rU {α:Type} (_:St) (_:List Addr) (_:Heap) (_:α) (_:Unit):Prop:=True
theorem Inv.store {c:Cx} {st:St} {μ:List Addr} {h h':Heap} (I:Inv c st μ h) {i:Nat} {s:Slot} {v:Value} {y:V} (ap:∀ i j s,c.sl i = some s→c.sl j = some s→i = j) (hs:c.sl i = some s)
  (hb:Heap.SameBut s.own h h') (hv:s.Holds h' v) (ho:∀ t:Slot,t ≠ s→t.own = s.own→(t.Ok h→t.Ok h')∧∀ u,t.Holds h u→t.Holds h' u) (r:RepV (Tr st.σ μ) μ h v y) :
  Inv c (setV st i y) μ h'∧Stp c st.σ μ h st.σ μ h':=by
 have own:Own c s.own:=⟨i,s,hs,rfl⟩
 have S:Stp c st.σ μ h st.σ μ h':=⟨Nat.le_of_eq hb.1.symm,fun b o e hO _=>(hb.2 b fun (k:b = s.own)=>hO (k ▸ own)).trans e,fun _ _ q=>q,fun _ q=>.inl q,fun _ q=>.inl q,fun _ q=>q,fun n a o _ e2 e3=>(hb.2 a fun (k:a = s.own)=>I.sep _ own (k ▸ List.mem_of_getElem? e2)).trans e3⟩
 have mv:∀ {v:Value} {x:V},RepV (Tr st.σ μ) μ h v x→RepV (Tr st.σ μ) μ h' v x:=fun r=>r.step (st':=st) I S
 have mvs:∀ {v:List Value} {x:List V},RepVs (Tr st.σ μ) μ h v x→RepVs (Tr st.σ μ) μ h' v x:=fun r=>r.step (st':=st) I S
 have okS:s.Ok h':=by
  cases s with
  | d D n=>obtain ⟨m,hm,_⟩:=hv; exact ⟨m,hm⟩
  | c a=>exact ⟨_,hv⟩
 refine ⟨⟨fun j x q=>?_,fun j t q=>?_,fun k o q=>?_,I.len,I.nd,fun a q=>by rw [hb.1]; exact I.lt a q,fun b o q=>?_,I.baseS,I.baseM,I.sep⟩,S⟩
 ·simp only [setV] at q ⊢
  by_cases hj:i = j
  ·try clear hm; try clear m; try clear S
   subst hj
   have hlt:i < st.ρ.length:=by have:=(List.getElem?_eq_some_iff.mp q).1; simpa using this
   have e4:y = x:=by simpa [hlt] using q
   try clear hlt
   subst e4
   exact ⟨s,v,hs,hv,mv r⟩
  ·rw [List.getElem?_set_ne hj] at q
   refine El.x2_3 (I.vars j x q) fun t u g1 g2 g3=>?_
   have hts:t ≠ s:=fun e=>hj (ap i j s hs (e ▸ g1))
   refine ⟨t,u,g1,?_,mv g3⟩
   by_cases ho':t.own = s.own
   ·exact (ho t hts ho').2 u g2
   ·exact g2.keeps fun o e=>(hb.2 _ ho').trans e
 ·by_cases hts:t = s
  ·try clear g3; try clear g2; try clear g1; try clear u; try clear e4; try clear x; try clear mv
   subst hts; exact okS
  ·by_cases ho':t.own = s.own
   ·exact (ho t hts ho').1 (I.slots j t q)
   ·exact (I.slots j t q).keeps fun o e=>(hb.2 _ ho').trans e
 ·refine El.x1_2 (I.objs k o q) fun a ha ro=>?_
  have hne:a ≠ s.own:=fun e=>I.sep _ own (e ▸ List.mem_of_getElem? ha)
  refine ⟨a,ha,?_⟩
  exact ro.map (fun _ ho=>((hb.2 a hne).trans ho)) fun _ _ r=>(mvs r)
 ·refine (hb.2 b fun k=>?_).trans (I.base b o q)
  have:=I.baseS s.own own
  rw [k,this] at q; cases q
theorem Z1H {c:Cx} {g:Gm} {st:St} {μ:List Addr} {s:Shared} {x:Str} {i:Nat} {v:Value} {y:V} (N:Nm c g) (hl:g.lv x i = true) (I:Inv c st μ s.heap) (r:RepV (Tr st.σ μ) μ s.heap v y) :
  Sim c (storeName c.env x v) (.ok () (setV st i y)) rU st.σ μ s:=by
 refine El.x0_2 (Z8f hl) fun h1 h2=>?_
 have hk:c.env.scope.kind = .function:=by rw [N.sc]; exact N.kind
 rcases N.var x i h1 with ⟨k1,k2⟩ | ⟨k1,a,k2,k3⟩
 ·refine El.x1_1 (I.slots i _ k2) fun m hm=>?_
  refine wpAny_storeName_local (by unfold Env.kindOf; rw [N.sc]; exact k1) hm (fun h' hn hs=>?_) (by rw [hk]; rfl)
  have side:∀ t:Slot,t ≠ .d c.env.locals x→t.own = (Slot.d c.env.locals x).own→(t.Ok s.heap→t.Ok h')∧∀ u,t.Holds s.heap u→t.Holds h' u:=by
   intro t ht ho
   try clear h2; try clear h1
   cases t with
   | c b=>
    constructor
    ·intro q0z
     refine El.x2_2 q0z fun u o ho' hd=>?_
     refine El.x3_3 hm fun o2 es ep ho2 hd2 _=>?_
     have e:b = c.env.locals:=ho
     try clear q0z
     subst e
     obtain rfl:=Option.some.inj (ho'.symm.trans ho2)
     rw [hd] at hd2; cases hd2
    ·intro u q1z
     refine El.x1_2 q1z fun o ho' hd=>?_
     refine El.x3_3 hm fun o2 es ep ho2 hd2 _=>?_
     have e:b = c.env.locals:=ho
     try clear q1z
     subst e
     obtain rfl:=Option.some.inj (ho'.symm.trans ho2)
     rw [hd] at hd2; cases hd2
   | d D n=>
    have e:D = c.env.locals:=ho
    subst e
    have hne:n ≠ x:=fun e=>ht (by rw [e])
    refine ⟨fun _=>⟨_,hn⟩,?_⟩
    intro u q2z
    refine El.x1_2 q2z fun m' hm' e'=>?_
    refine ⟨_,hn,?_⟩
    rw [if_neg hne]
    refine El.x3_4 hm fun o2 es ep ho2 hd2 _ q2=>?_
    refine El.x3_4 hm' fun o3 es3 ep3 ho3 hd3 _ q3=>?_
    try clear ep3; try clear es3; try clear o3; try clear hm'; try clear m'; try clear q2z; try clear hne; try clear hm
    obtain rfl:=Option.some.inj (ho2.symm.trans ho3)
    rw [hd2] at hd3
    try clear ho3
    cases hd3
    rw [← q2,q3,e']
  refine El.x0_2 (I.store N.apart k2 hs (v:=v) (y:=y) ⟨_,hn,by simp⟩ side r) fun I' S=>?_
  exact ⟨μ,trivial,I',S,.refl⟩
 ·refine El.x1_1 (I.slots i _ k3) fun u hu=>?_
  refine wpAny_storeName_cell hk (by unfold Env.kindOf; rw [N.sc]; exact k1) k2 hu fun h' hc hs=>?_
  have side:∀ t:Slot,t ≠ .c a→t.own = (Slot.c a).own→(t.Ok s.heap→t.Ok h')∧∀ u,t.Holds s.heap u→t.Holds h' u:=by
   intro t ht ho
   try clear q3; try clear hd3; try clear q2; try clear e'; try clear u; try clear hn; try clear h'; try clear hk
   cases t with
   | c b=>exact (ht (by rw [show b = a from ho])).elim
   | d D n=>
    have e:D = a:=ho
    try clear ho; try clear ht; try clear t
    subst e
    constructor
    ·intro q3z
     refine El.x4_3 q3z fun m o2 es ep ho2 hd2 _=>?_
     refine El.x1_2 hu fun o ho' hd=>?_
     try clear q3z; try clear e
     obtain rfl:=Option.some.inj (ho'.symm.trans ho2)
     rw [hd] at hd2; cases hd2
    ·intro w q4z
     refine El.x1_2 q4z fun m q5z _=>?_
     refine El.x3_3 q5z fun o2 es ep ho2 hd2 _=>?_
     refine El.x1_2 hu fun o ho' hd=>?_
     try clear q5z; try clear q4z; try clear w; try clear hu; try clear ep; try clear es; try clear o2; try clear o; try clear m
     obtain rfl:=Option.some.inj (ho'.symm.trans ho2)
     rw [hd] at hd2; cases hd2
  refine El.x0_2 (I.store N.apart k3 hs (v:=v) (y:=y) hc side r) fun I' S=>?_
  exact ⟨μ,trivial,I',S,.refl⟩
noncomputable def SOk (W:Wo) (K:Nat) (e:Sm):Prop:=∀ (g:Gm) (p:Stmt) (c:Cx) (st:St) (μ:List Addr) (s:Shared),okS g e p = true→Good W c g→Inv c st μ s.heap→Sim c (exec (pS e p) c.env) (evS W.F K e st) rFl st.σ μ s
noncomputable def SsOk (W:Wo) (K:Nat) (e:Sms):Prop:=∀ (g:Gm) (p:List Stmt) (c:Cx) (st:St) (μ:List Addr) (s:Shared),okSs g e p = true→Good W c g→Inv c st μ s.heap→Sim c (execs (pSs e p) c.env) (evSs W.F K e st) rFl st.σ μ s
@[elab_as_elim] theorem rFl_elim {P:Flow→Fl→Prop} {st:St} {μ:List Addr} {h:Heap} {f:Flow} {x:Fl} (r:rFl st μ h f x) (h1:P .next .next) (h2:P .brk .brk) (h3:P .cont .cont) (h4:∀ v y,RepV (Tr st.σ μ) μ h v y→P (.ret v) (.ret y)):P f x:=by
 cases f <;> cases x <;> first | exact h1 | exact h2 | exact h3 | exact h4 _ _ r | exact False.elim r
section
variable {W:Wo} {K:Nat}
theorem Zaf:SsOk W K .nil:=fun _ _ _ _ _ _ _ _ I=>Sim.pure I trivial
theorem Z8p {x:Sm} {xs:Sms} (hx:SOk W K x) (hxs:SsOk W K xs):SsOk W K (.cons x xs):=fun g p c st μ s hk hg I=>
 Sim.of_eq (execs_cons ..) (Sim.bind (hx g _ c st μ s (and2 hk).1 hg I) fun fl st₁ f μ₁ s₁ _ rf I₁ S₁=>
  rFl_elim (P:=fun f fl=>Sim c (match f with | .next=>execs (pSs xs p.tail) c.env | f=>pure f) (match fl with | .next=>evSs W.F K xs st₁ | f=>.ok f st₁) rFl st₁.σ μ₁ s₁) rf (hxs g _ c st₁ μ₁ s₁ (and2 hk).2 hg I₁) (Sim.pure I₁ trivial) (Sim.pure I₁ trivial) fun v y r=>Sim.pure I₁ r)
theorem ZcI {e:Ex} (he:EOk W e):SOk W K (.ret e):=fun g p c st μ s hk hg I=>Sim.of_eq (exec_Return_some ..) (Sim.at (Sim.one he hk hg I fun x u st μ s rx I=>Sim.pure I rx))
theorem Zag {d:Ex} {a b:Sms} (hd:IOk W d) (ha:SsOk W K a) (hb:SsOk W K b):SOk W K (.ifte d a b):=fun g p c st μ s hk hg I=>
 Sim.of_eq (exec_If ..) (Sim.at (Sim.eq (hd.2 g _ c st μ s (and2 hk).1 hg I) fun t st₁ μ₁ s₁ _ I₁ _=>Sim.cond (fun _=>ha g _ c st₁ μ₁ s₁ (and2 (and2 hk).2).1 hg I₁) fun _=>hb g _ c st₁ μ₁ s₁ (and2 (and2 hk).2).2 hg I₁))
theorem Z47 {c:Cx} {g:Gm} (N:Nm c g):interactive c.env = false:=by
 unfold interactive
 rw [N.sc,N.kind]; rfl
theorem Zah {x:Expr}:Z2V x.ctorIdx = true→(!(x.ctorIdx == 8)) = true→∀ {env:Env} {t:Option Expr} {l:Nat},swapsWith x t l env = pure false:=by
 cases x <;> first | exact fun _ _ _ _ _=>rfl | exact fun h=>absurd h Bool.false_ne_true | exact fun _ h=>absurd h Bool.false_ne_true
theorem Z4K {e:Ex} (h:(!isC e) = true) {p:Expr} {env:Env} {t:Option Expr} {l:Nat}:swapsWith (pE e p) t l env = pure false:=by
 have q:=ZdX e p
 rw [Bool.not_eq_true'] at h
 rw [h] at q
 exact Zah (Z1E e p) q
theorem Zai {e:Ex} (he:EOk W e):SOk W K (.expr e):=fun g p c st μ s hk hg I=>
 Sim.of_eq (exec_Expr _ _ _ (Z47 hg.nm) (Z4K (and2 hk).1)) (Sim.at (Sim.one he (and2 hk).2 hg I fun x u st μ s rx I=>Sim.leaf I (wpAny_dropValue ⟨.refl,.refl,trivial⟩)))
theorem Z6P {i:Nat} {e:Ex} (he:EOk W e) (g:Gm) (p:Stmt) (c:Cx) (st:St) (μ:List Addr) (s:Shared) (hk:okS g (.asg i e) p = true) (hs:swapsWith (pE e (skid p 0)) (some (.Name (nmOf (skid p 1)) (skid p 1).pos)) p.pos.line c.env = pure false) (hg:Good W c g) (I:Inv c st μ s.heap) :
  Sim c (exec (pS (.asg i e) p) c.env) (evS W.F K (.asg i e) st) rFl st.σ μ s :=
 Sim.of_eq (exec_Assign_Name _ _ _ _ _ hs) (Sim.at (Sim.one he (and2 hk).2 hg I fun y u st₁ μ₁ s₁ rx I₁=>Sim.at (Sim.of_m (m':=(R.ok () (setV st₁ i y)).bind fun _ st=>R.ok .next st) rfl
  (Sim.bind (Sim.imp (fun Q h=>wpAny_bindName h) (Z1H hg.nm (and2 (and2 hk).1).2 I₁ rx)) fun _ st₂ _ μ₂ s₂ he _ I₂ S₂=>by cases he; exact Sim.pure I₂ trivial))))
theorem ZcJ {F:Fn} {d:Ex} {body:Sms} {k:Nat} {st stF:St} {fl:Fl} (h:Z0y (fun st=>Z04 (evE F d st)) (fun st=>evSs F K body st) (k + 1) st = .ok fl stF) :
  ∃ t st₁,Z04 (evE F d st) = .ok t st₁∧(t = false→fl = .next∧stF = st₁)∧(t = true→∃ f st₂,evSs F K body st₁ = .ok f st₂∧(match f with | .next=>Z0y (fun st=>Z04 (evE F d st)) (fun st=>evSs F K body st) k st₂ | .cont=>Z0y (fun st=>Z04 (evE F d st)) (fun st=>evSs F K body st) k st₂ | .brk=>.ok .next st₂ | .ret v=>.ok (.ret v) st₂) = .ok fl stF):=by
 rw [Z05] at h
 refine El.x2_2 (R.bind_inv h) fun t st₁ h1 h=>?_
 refine ⟨t,st₁,h1,fun e=>?_,fun e=>?_⟩
 ·subst e; cases h; exact ⟨rfl,rfl⟩
 ·subst e; exact R.bind_inv h
theorem ZcK {d:Ex} {body:Sms} {g:Gm} {p q:Expr} {bd:List Stmt} {pos:Pos} {c:Cx} {fl:Fl} {stF:St} {Q:Flow→Shared→Prop} {X:St→List Addr→Shared→Prop} (hd:∀ st μ (s:Shared),Inv c st μ s.heap→Sim c (isTrue q c.env (eval q c.env)) (Z04 (evE W.F d st)) rEq st.σ μ s)
  (hb:∀ st μ (s:Shared),Inv c st μ s.heap→Sim c (execs bd c.env) (evSs W.F K body st) rFl st.σ μ s) (hX:∀ st μ (s:Shared),X st μ s→Inv c st μ s.heap) (hS:∀ st μ (s:Shared) st' μ' s',X st μ s→Inv c st' μ' s'.heap→Stp c st.σ μ s.heap st'.σ μ' s'.heap→Same s s'→X st' μ' s')
  (hQ:∀ f (s:Shared) μ,rFl stF μ s.heap f fl→X stF μ s→Q f s) {st:St} {μ:List Addr} {s:Shared} (x:X st μ s) (hr:Z0y (fun st=>Z04 (evE W.F d st)) (fun st=>evSs W.F K body st) K st = .ok fl stF) :
  wpAny (model c.prog c.w) c.A (exec (.While q bd [] pos) c.env) Q (fun _ _=>False) s:=by
 obtain ⟨J,hJ⟩:∃ J:Nat→Shared→Prop,∀ k s',J k s'↔∃ st' μ',Z0y (fun st=>Z04 (evE W.F d st)) (fun st=>evSs W.F K body st) k st' = .ok fl stF∧X st' μ' s':=⟨_,fun _ _=>Iff.rfl⟩
 refine wpAny_While (codeAny_whileLoop J (fun k s' hJk=>?_) K ((hJ _ _).mpr ⟨st,μ,hr,x⟩))
 refine El.x2_2 ((hJ k s').mp hJk) fun st' μ' hw x'=>?_
 clear hJk hr x
 cases k with
 | zero=>cases hw
 | succ k=>
  refine El.x2_3 (ZcJ hw) fun t st₁ hT hf ht=>?_
  have h1:=hd st' μ' s' (hX _ _ _ x')
  rw [hT] at h1
  refine wpAny_mono h1 (fun t' s₁ q8=>El.x1_4 q8 fun μ₁ (rt:t' = t) I₁ S₁ Q₁=>?_) fun _ _ e=>e.elim
  have x₁:=hS _ _ _ _ _ _ x' I₁ S₁ Q₁
  rw [rt]
  clear hT h1 S₁ Q₁ x' rt q8 hw
  cases t with
  | false=>exact wpAny_execs_nil (hQ _ _ μ₁ ((hf rfl).1 ▸ trivial) ((hf rfl).2 ▸ x₁))
  | true=>
   refine El.x2_2 (ht rfl) fun f st₂ hB hw=>?_
   have h2:=hb st₁ μ₁ s₁ I₁
   rw [hB] at h2
   refine wpAny_mono h2 (fun f' s₂ q8=>El.x1_4 q8 fun μ₂ rf I₂ S₂ Q₂=>?_) fun _ _ e=>e.elim
   have x₂:=hS _ _ _ _ _ _ x₁ I₂ S₂ Q₂
   clear hf ht hB h2 S₂ Q₂ x₁ I₁ I₂ q8
   revert hw
   refine rFl_elim rf (fun hw=>⟨k,Nat.lt_succ_self _,(hJ _ _).mpr ⟨st₂,μ₂,hw,x₂⟩⟩) (fun hw=>?_) (fun hw=>⟨k,Nat.lt_succ_self _,(hJ _ _).mpr ⟨st₂,μ₂,hw,x₂⟩⟩) (fun v y rv hw=>?_)
   ·exact hQ _ _ μ₂ ((R.ok.inj hw).1 ▸ trivial) ((R.ok.inj hw).2 ▸ x₂)
   ·exact hQ _ _ μ₂ (by rw [← (R.ok.inj hw).1,← (R.ok.inj hw).2]; exact rv) ((R.ok.inj hw).2 ▸ x₂)
theorem Z8q {d:Ex} {body:Sms} (hd:IOk W d) (hb:SsOk W K body):SOk W K (.while d body):=fun g p c st μ s hk hg I=>Sim.ok fun fl stF hr=>
 ZcK (g:=g) (p:=skid p 0) (X:=fun st' μ' s'=>Inv c st' μ' s'.heap∧Stp c st.σ μ s.heap st'.σ μ' s'.heap∧Same s s') (fun st μ s I=>hd.2 g _ c st μ s (and2 hk).1 hg I) (fun st μ s I=>hb g _ c st μ s (and2 hk).2 hg I) (fun _ _ _ x=>x.1) (fun _ _ _ _ _ _ x I S Q=>⟨I,x.2.1.trans S,x.2.2.trans Q⟩) (fun f s' μ' r x=>⟨μ',r,x⟩) ⟨I,.refl,.refl⟩ hr
end
structure Kp (σ₀:List O) (μ₀:List Addr) (h₀:Heap) (σ:List O) (μ:List Addr) (h:Heap):Prop where
 size:h₀.objs.size ≤ h.objs.size
 keep:∀ b o,h₀.get? b = some o→Z4y o→¬ Tr σ₀ μ₀ b→h.get? b = some o
 pre:∀ (n:Nat) (a:Addr),μ₀[n]? = some a→μ[n]? = some a
 tr:∀ b,Tr σ μ b→Tr σ₀ μ₀ b ∨ h₀.objs.size ≤ b
 pv:∀ (n:Nat),σ₀[n]? = some O.priv→σ[n]? = some O.priv
theorem Kp.trans {σ₀ σ₁ σ₂:List O} {μ₀ μ₁ μ₂:List Addr} {h₀ h₁ h₂:Heap} (x:Kp σ₀ μ₀ h₀ σ₁ μ₁ h₁) (y:Kp σ₁ μ₁ h₁ σ₂ μ₂ h₂):Kp σ₀ μ₀ h₀ σ₂ μ₂ h₂ where
 size:=Nat.le_trans x.size y.size
 keep:=fun b o e hd hT=>y.keep b o (x.keep b o e hd hT) hd fun q=>(x.tr b q).elim hT fun q=>Nat.lt_irrefl _ (Nat.lt_of_lt_of_le (Heap.lt_size e) q)
 pre:=fun n a e=>y.pre n a (x.pre n a e)
 tr:=fun b q=>(y.tr b q).elim (fun q=>x.tr b q) fun q=>.inr (Nat.le_trans x.size q)
 pv:=fun n e=>y.pv n (x.pv n e)
theorem Stp.kp {c:Cx} {st:St} {μ μ':List Addr} {σ':List O} {h h':Heap} (I:Inv c st μ h) (S:Stp c st.σ μ h σ' μ' h'):Kp st.σ μ h σ' μ' h' where
 size:=S.size
 keep:=fun b o e hd hT=>S.keep b o e (fun q=>I.own_data q e hd) hT
 pre:=S.pre
 tr:=S.tr
 pv:=S.pv
theorem Kp.ext {σ:List O} {μ:List Addr} {h h':Heap} (e:Ext h h'):Kp σ μ h σ μ h':=⟨e.1,fun b o q _ _=>e.2 b o q,fun _ _ q=>q,fun _ q=>.inl q,fun _ q=>q⟩
section
variable {σ₀ σ:List O} {μ₀ μ:List Addr} {h₀ h:Heap}
theorem RepV.kp (K:Kp σ₀ μ₀ h₀ σ μ h) {v:Value} {x:V} (r:RepV (Tr σ₀ μ₀) μ₀ h₀ v x):RepV (Tr σ μ) μ h v x :=
 r.move (fun a o e hd hq=>⟨K.keep a o e hd hq,fun q=>(K.tr a q).elim hq fun q=>Nat.lt_irrefl _ (Nat.lt_of_lt_of_le (Heap.lt_size e) q)⟩) K.pre
theorem RepVs.kp (K:Kp σ₀ μ₀ h₀ σ μ h) {v:List Value} {x:List V} (r:RepVs (Tr σ₀ μ₀) μ₀ h₀ v x):RepVs (Tr σ μ) μ h v x :=
 r.move (fun a o e hd hq=>⟨K.keep a o e hd hq,fun q=>(K.tr a q).elim hq fun q=>Nat.lt_irrefl _ (Nat.lt_of_lt_of_le (Heap.lt_size e) q)⟩) K.pre
end
noncomputable def Odd (wr:List Addr) (h:Heap):Prop:=∀ b ∈ wr,∃ o,h.get? b = some o∧¬ Z4y o
noncomputable def But (wr:List Addr) (h h':Heap):Prop:=∀ b o,b ∉ wr→h.get? b = some o→h'.get? b = some o
theorem RepV.but {T:Addr→Prop} {μ wr:List Addr} {h h':Heap} (k:But wr h h') (od:Odd wr h) {v:Value} {x:V} (r:RepV T μ h v x):RepV T μ h' v x:=by
 have nseq:∀ a o,h.get? a = some o→Z4y o→a ∉ wr:=fun a o e hd q=>by
  refine El.x1_2 (od a q) fun o' e' hd'=>?_
  obtain rfl:=Option.some.inj (e.symm.trans e')
  exact hd' hd
 exact r.move (fun a o e hd hT=>⟨k a o (nseq a o e hd) e,hT⟩) fun _ _ q=>q
theorem RepVs.but {T:Addr→Prop} {μ wr:List Addr} {h h':Heap} (k:But wr h h') (od:Odd wr h) {v:List Value} {x:List V} (r:RepVs T μ h v x):RepVs T μ h' v x:=by
 have nseq:∀ a o,h.get? a = some o→Z4y o→a ∉ wr:=fun a o e hd q=>by
  refine El.x1_2 (od a q) fun o' e' hd'=>?_
  obtain rfl:=Option.some.inj (e.symm.trans e')
  exact hd' hd
 exact r.move (fun a o e hd hT=>⟨k a o (nseq a o e hd) e,hT⟩) fun _ _ q=>q
theorem Inv.but {c:Cx} {wr:List Addr} {st:St} {μ:List Addr} {h h':Heap} (I:Inv c st μ h) (k:But wr h h') (hsz:h.objs.size ≤ h'.objs.size)
  (od:Odd wr h) (own:∀ b ∈ wr,¬ Own c b) (mem:∀ b ∈ wr,b ∉ μ) (bs:∀ b ∈ wr,c.base.get? b = none):Inv c st μ h':=by
 refine ⟨fun i x q=>?_,fun i s q=>(I.slots i s q).keeps fun o e=>k _ o (fun m=>own _ m ⟨i,s,q,rfl⟩) e,fun n o q=>?_,I.len,I.nd,fun a q=>Nat.lt_of_lt_of_le (I.lt a q) hsz,
  fun b o q=>k b o (fun m=>by rw [bs b m] at q; cases q) (I.base b o q),I.baseS,I.baseM,I.sep⟩
 ·refine El.x2_3 (I.vars i x q) fun s v g1 g2 g3=>?_
  exact ⟨s,v,g1,g2.keeps fun o e=>k _ o (fun m=>own _ m ⟨i,s,g1,rfl⟩) e,g3.but k od⟩
 ·refine El.x1_2 (I.objs n o q) fun a ha r=>?_
  refine ⟨a,ha,?_⟩
  exact r.map (fun _ ho=>(k a _ (fun m=>mem a m (List.mem_of_getElem? ha)) ho)) fun _ _ r=>(r.but k od)
structure Itr (prog:Program) (w:World) (A:Around) (it:Addr) (fp wr:List Addr) (xs:List V) (σ₀:List O) (μ₀:List Addr) (h₀:Heap) (Sp:Nat→Heap→Prop):Prop where
 sub:∀ b ∈ wr,b ∈ fp
 frame:∀ i h h',Sp i h→(∀ b ∈ fp,∀ o,h.get? b = some o→h'.get? b = some o)→Sp i h'
 odd:∀ i h,Sp i h→Odd wr h
 wrn:∀ b ∈ wr,h₀.objs.size ≤ b
 fpo:∀ b ∈ fp,b ∈ wr ∨ (∃ o vs n,h₀.get? b = some o∧o.data = .seq vs n∧¬ Tr σ₀ μ₀ b) ∨ ∃ k:Nat,σ₀[k]? = some O.priv∧μ₀[k]? = some b
 item:∀ i x (s:Shared) (σ:List O) (μ:List Addr) (Q:Option Value→Shared→Prop),xs[i]? = some x→Sp i s.heap→Kp σ₀ μ₀ h₀ σ μ s.heap →
  (∀ v h' tk,But wr s.heap h'→s.heap.objs.size ≤ h'.objs.size→Sp (i + 1) h'→RepV (Tr σ μ) μ h' v x→Q (some v) { s with heap:=h',toks:=tk }) →
  wpAny (model prog w) A (pyNext (.ref it)) Q (fun _ _=>False) s
 done:∀ (s:Shared) (Q:Option Value→Shared→Prop),Sp xs.length s.heap →
  (∀ h' tk,But wr s.heap h'→s.heap.objs.size ≤ h'.objs.size→Q none { s with heap:=h',toks:=tk })→wpAny (model prog w) A (pyNext (.ref it)) Q (fun _ _=>False) s
 again:∀ i (s:Shared) (Q:Value→Shared→Prop) (E:Value→Shared→Prop),Sp i s.heap→Q (.ref it) s→wpAny (model prog w) A (pyIter (.ref it)) Q E s
section
variable {c:Cx} {it:Addr} {fp wr:List Addr} {xs:List V} {σ₀:List O} {μ₀:List Addr} {h₀:Heap} {Sp:Nat→Heap→Prop}
theorem Itr.keep (W:Itr c.prog c.w c.A it fp wr xs σ₀ μ₀ h₀ Sp) {i:Nat} {st:St} {σ':List O} {μ μ':List Addr} {h h':Heap} (own:∀ b ∈ wr,¬ Own c b) (mem:∀ b ∈ wr,b ∉ μ) (I:Inv c st μ h)
  (K:Kp σ₀ μ₀ h₀ st.σ μ h) (S':Stp c st.σ μ h σ' μ' h') (sp:Sp i h):Sp i h'∧∀ b ∈ wr,b ∉ μ':=by
 refine ⟨W.frame i h h' sp fun b q o e=>?_,fun b q m=>(S'.new b m).elim (mem b q) fun k=>?_⟩
 ·rcases W.fpo b q with q | ⟨o',vs,n,q1,q2,q3⟩ | ⟨k,q1,q2⟩
  rotate_left 2
  ·exact S'.pk k b o (K.pv k q1) (K.pre k b q2) e
  ·exact S'.keep b o e (own b q) fun t=>mem b q t.mem
  ·have e':=K.keep b o' q1 ⟨vs,n,q2⟩ q3
   obtain rfl:=Option.some.inj (e.symm.trans e')
   exact S'.keep b o e (fun q=>I.own_data q e ⟨vs,n,q2⟩) fun t=>(K.tr b t).elim q3 fun k=>Nat.lt_irrefl _ (Nat.lt_of_lt_of_le (Heap.lt_size q1) k)
 ·refine El.x1_2 (W.odd i h sp b q) fun o e _=>?_
  exact Nat.lt_irrefl _ (Nat.lt_of_lt_of_le (Heap.lt_size e) k)
theorem Stp.but {σ:List O} {μ:List Addr} {h h':Heap} (wrn:∀ b ∈ wr,h₀.objs.size ≤ b) (k:But wr h h') (hsz:h.objs.size ≤ h'.objs.size) (S:Stp c σ₀ μ₀ h₀ σ μ h):Stp c σ₀ μ₀ h₀ σ μ h' where
 size:=Nat.le_trans S.size hsz
 keep:=fun b o e h1 h2=>k b o (fun q=>Nat.lt_irrefl _ (Nat.lt_of_lt_of_le (Heap.lt_size e) (wrn b q))) (S.keep b o e h1 h2)
 pre:=S.pre
 tr:=S.tr
 new:=S.new
 pv:=S.pv
 pk:=fun n a o e e' e''=>k a o (fun q=>Nat.lt_irrefl _ (Nat.lt_of_lt_of_le (Heap.lt_size e'') (wrn a q))) (S.pk n a o e e' e'')
theorem Kp.but {σ:List O} {μ:List Addr} {h h':Heap} (wrn:∀ b ∈ wr,h₀.objs.size ≤ b) (k:But wr h h') (hsz:h.objs.size ≤ h'.objs.size) (S:Kp σ₀ μ₀ h₀ σ μ h):Kp σ₀ μ₀ h₀ σ μ h' where
 size:=Nat.le_trans S.size hsz
 keep:=fun b o e h1 h2=>k b o (fun q=>Nat.lt_irrefl _ (Nat.lt_of_lt_of_le (Heap.lt_size e) (wrn b q))) (S.keep b o e h1 h2)
 pre:=S.pre
 tr:=S.tr
 pv:=S.pv
theorem Z6Q {st₀:St} (I₀:Inv c st₀ μ₀ h₀) (wrn:∀ b ∈ wr,h₀.objs.size ≤ b):∀ b ∈ wr,c.base.get? b = none∧¬ Own c b∧b ∉ μ₀:=fun b q=>by
 refine ⟨?_,fun o=>?_,fun m=>Nat.lt_irrefl _ (Nat.lt_of_lt_of_le (I₀.lt b m) (wrn b q))⟩
 ·cases h:c.base.get? b with
  | none=>rfl
  | some o=>exact absurd (Nat.lt_of_lt_of_le (Heap.lt_size (I₀.base b o h)) (wrn b q)) (Nat.lt_irrefl _)
 ·refine El.x1_1 (Z1F I₀ o) fun ob ho=>?_
  exact Nat.lt_irrefl _ (Nat.lt_of_lt_of_le (Heap.lt_size ho) (wrn b q))
theorem Z3B {c:Cx} {target:Expr} {it:Addr} {body:List Stmt} {xs:List V} {as:V→St→R Unit} {bd:St→R Fl} {fl:Fl} {stF:St} {Rs:Result→Shared→Prop} (P:Nat→St→List Addr→Shared→Prop) (D:St→List Addr→Shared→Prop)
  (inv:∀ i st μ s,P i st μ s→Inv c st μ s.heap) (toD:∀ i st μ s,P i st μ s→D st μ s)
  (keep:∀ i st μ (s:Shared) st' μ' (s':Shared),P i st μ s→Inv c st' μ' s'.heap→Stp c st.σ μ s.heap st'.σ μ' s'.heap→Same s s'→P i st' μ' s')
  (item:∀ i x st μ (s:Shared) (Q:Value→Shared→Prop),xs[i]? = some x→P i st μ s→(∀ v s₂,RepV (Tr st.σ μ) μ s₂.heap v x→P (i + 1) st μ s₂→Q v s₂) →
   wpAny (model c.prog c.w) c.A (pyNext (.ref it)) (fun r s₁=>match r with
    | none=>False
    | some v=>wpAny (model c.prog c.w) c.A (letOwnedTupleGo target (.ref it) v) (fun _ s₂=>Q v s₂) (fun _ _=>False) s₁) (fun _ _=>False) s)
  (done:∀ st μ (s:Shared) (Q:Option Value→Shared→Prop),P xs.length st μ s→(∀ s₂,D st μ s₂→Q none s₂)→wpAny (model c.prog c.w) c.A (pyNext (.ref it)) Q (fun _ _=>False) s)
  (hA:∀ x v st μ (s:Shared),RepV (Tr st.σ μ) μ s.heap v x→Inv c st μ s.heap→Sim c (assign target c.env v) (as x st) rU st.σ μ s)
  (hB:∀ st μ (s:Shared),Inv c st μ s.heap→Sim c (execs body c.env) (bd st) rFl st.σ μ s)
  (hR:∀ μ (s:Shared) f,D stF μ s→rFl stF μ s.heap f fl→Rs (.ok f) s)
  {st₁:St} {μ₁:List Addr} {s₁:Shared} (h1:P 0 st₁ μ₁ s₁) (hr:forR (fun x st=>(as x st).bind fun _ st=>bd st) xs st₁ = .ok fl stF) :
  codeAny (model c.prog c.w) c.A (.forLoop target (.ref it) body [] c.env) Rs s₁:=by
 obtain ⟨J,hJ⟩:∃ J:Nat→Shared→Prop,∀ k s',J k s'↔∃ i st μ,k = xs.length + 1 - i∧i ≤ xs.length∧forR (fun x st=>(as x st).bind fun _ st=>bd st) (xs.drop i) st = .ok fl stF∧P i st μ s':=⟨_,fun _ _=>Iff.rfl⟩
 have fin:∀ k i st μ (s:Shared) f g,i < xs.length→k = xs.length + 1 - i→P (i + 1) st μ s→rFl st μ s.heap g f →
   (match f with | .next=>forR (fun x st=>(as x st).bind fun _ st=>bd st) (xs.drop (i + 1)) st | .cont=>forR (fun x st=>(as x st).bind fun _ st=>bd st) (xs.drop (i + 1)) st | .brk=>.ok .next st | .ret v=>.ok (.ret v) st) = .ok fl stF →
   (match g with | .next | .cont=>∃ m,m < k∧J m s | .brk=>Rs (.ok .next) s | .ret v=>Rs (.ok (.ret v)) s):=by
  intro k i st μ s f g hlt hk hP rf
  refine rFl_elim rf (fun hf=>⟨xs.length + 1 - (i + 1),Nat.lt_of_lt_of_eq (dec1 hlt) hk.symm,(hJ _ _).mpr ⟨i + 1,st,μ,rfl,hlt,hf,hP⟩⟩) (fun hf=>hR μ s _ ((R.ok.inj hf).2 ▸ toD _ _ _ _ hP) ((R.ok.inj hf).1 ▸ trivial)) (fun hf=>⟨xs.length + 1 - (i + 1),Nat.lt_of_lt_of_eq (dec1 hlt) hk.symm,(hJ _ _).mpr ⟨i + 1,st,μ,rfl,hlt,hf,hP⟩⟩) (fun w y rw' hf=>?_)
  exact hR μ s _ ((R.ok.inj hf).2 ▸ toD _ _ _ _ hP) (by rw [← (R.ok.inj hf).1,← (R.ok.inj hf).2]; exact rw')
 refine codeAny_forLoop_any J (fun k s' hk=>?_) (xs.length + 1) ((hJ _ _).mpr ⟨0,st₁,μ₁,rfl,Nat.zero_le _,hr,h1⟩)
 refine El.x3_4 ((hJ k s').mp hk) fun i st μ hki hi hf hP=>?_
 have fin':=fin k i
 clear fin hJ hk
 by_cases hlt:i < xs.length
 ·obtain ⟨x,hx⟩:∃ x,xs[i]? = some x:=⟨xs[i],by simp [hlt]⟩
  have hd:xs.drop i = x :: xs.drop (i + 1):=by
   rw [List.drop_eq_getElem_cons hlt]
   congr 1
   exact Option.some.inj ((List.getElem?_eq_getElem hlt).symm.trans hx)
  rw [hd] at hf
  refine El.x2_2 (R.bind_inv hf) fun f st₃ hAB hf=>?_
  refine El.x2_2 (R.bind_inv hAB) fun _ st₂ hA' hB'=>?_
  refine wpAny_mono (item i x st μ s' (fun v s₂=>RepV (Tr st.σ μ) μ s₂.heap v x∧P (i + 1) st μ s₂) hx hP fun v s₂ rv hP₂=>⟨rv,hP₂⟩) (fun r s₂ hr₂=>?_) fun _ _ e=>(e:False).elim
  try clear hAB; try clear hd; try clear hx; try clear rf; try clear hk; try clear s; try clear k; try clear fin; try clear hJ; try clear J
  cases r with
  | none=>exact (hr₂:False).elim
  | some v=>
   refine wpAny_mono hr₂ (fun _ s₂ h₂=>?_) fun _ _ e=>(e:False).elim
   have ha:=hA x v st μ s₂ h₂.1 (inv _ _ _ _ h₂.2)
   rw [hA'] at ha
   refine wpAny_mono ha (fun _ s₃ h₃=>?_) fun _ _ e=>(e:False).elim
   obtain ⟨μ₂,hP₃⟩:∃ μ₂,P (i + 1) st₂ μ₂ s₃:=h₃.elim fun μ₂ h₃=>⟨μ₂,keep _ _ _ _ _ _ _ h₂.2 h₃.2.1 h₃.2.2.1 h₃.2.2.2⟩
   have hb:=hB st₂ μ₂ s₃ (inv _ _ _ _ hP₃)
   rw [show bd st₂ = .ok f st₃ from hB'] at hb
   exact wpAny_mono hb (fun g s₄ h₄=>h₄.elim fun μ₃ h₄=>fin' st₃ μ₃ s₄ f g hlt hki (keep _ _ _ _ _ _ _ hP₃ h₄.2.1 h₄.2.2.1 h₄.2.2.2) h₄.1 hf) fun _ _ e=>(e:False).elim
 ·have hi':i = xs.length:=eqle hi hlt
  try clear hb; try clear hP₃; try clear μ₂; try clear h₃; try clear s₃; try clear ha; try clear hr₂; try clear hB'; try clear hA'; try clear st₂; try clear st₃; try clear x
  subst hi'
  rw [List.drop_length] at hf
  try clear hi; try clear hki; try clear hlt; try clear g; try clear f; try clear st; try clear i
  cases hf
  exact wpAny_mono (done stF μ s' (fun r s₂=>r = none∧D stF μ s₂) hP fun s₂ hD=>⟨rfl,hD⟩) (fun r s₂ h₂=>by
   rw [h₂.1]
   exact wpAny_execs_nil (hR μ s₂ _ h₂.2 trivial)) fun _ _ e=>(e:False).elim
theorem Z6f {target:Expr} {body:List Stmt} {as:V→St→R Unit} {bd:St→R Fl} {s₀ s₁:Shared} {st₀:St} (W:Itr c.prog c.w c.A it fp wr xs st₀.σ μ₀ s₀.heap Sp) (start:Sp 0 s₁.heap)
  (hA:∀ x v st μ (s:Shared),RepV (Tr st.σ μ) μ s.heap v x→Inv c st μ s.heap→Sim c (assign target c.env v) (as x st) rU st.σ μ s)
  (hB:∀ st μ (s:Shared),Inv c st μ s.heap→Sim c (execs body c.env) (bd st) rFl st.σ μ s)
  (I₀:Inv c st₀ μ₀ s₀.heap) (X₀:Ext s₀.heap s₁.heap) (Q₀:Same s₀ s₁)
  {fl:Fl} {stF:St} (hr:forR (fun x st=>(as x st).bind fun _ st=>bd st) xs st₀ = .ok fl stF) (ht:∀ v,letOwnedTupleGo target (.ref it) v = pure ()) :
  codeAny (model c.prog c.w) c.A (.forLoop target (.ref it) body [] c.env) (fun r s'=>match r with
   | .ok f=>∃ μ',rFl stF μ' s'.heap f fl∧Inv c stF μ' s'.heap∧Stp c st₀.σ μ₀ s₀.heap stF.σ μ' s'.heap∧Same s₀ s'
   | .error _=>False) s₁:=by
 have wall:=Z6Q I₀ W.wrn
 have wapart:∀ b ∈ wr,¬ Own c b:=fun b q=>(wall b q).2.1
 have wbase:∀ b ∈ wr,c.base.get? b = none:=fun b q=>(wall b q).1
 refine Z3B (as:=as) (bd:=bd) (fl:=fl) (stF:=stF)
  (P:=fun i st μ s=>Sp i s.heap∧Inv c st μ s.heap∧(∀ b ∈ wr,b ∉ μ)∧Stp c st₀.σ μ₀ s₀.heap st.σ μ s.heap∧Same s₀ s) (D:=fun st μ s=>Inv c st μ s.heap∧Stp c st₀.σ μ₀ s₀.heap st.σ μ s.heap∧Same s₀ s)
  (fun i st μ s h=>h.2.1) (fun i st μ s h=>⟨h.2.1,h.2.2.2⟩) (fun i st μ s st' μ' s' h I' S' Q'=>?_) (fun i x st μ s Q hx h hQ=>?_) (fun st μ s Q h hQ=>?_) hA hB (fun μ s f h rf=>⟨μ,rf,h⟩)
  (st₁:=st₀) (μ₁:=μ₀) ⟨start,I₀.ext X₀,fun b q=>(wall b q).2.2,.ext X₀,Q₀⟩ hr
 ·refine El.x0_2 (W.keep wapart h.2.2.1 h.2.1 (h.2.2.2.1.kp I₀) S' h.1) fun hst₂ mem₂=>?_
  exact ⟨hst₂,I',mem₂,h.2.2.2.1.trans S',h.2.2.2.2.trans Q'⟩
 ·refine W.item i x s st.σ μ _ hx h.1 (h.2.2.2.1.kp I₀) fun v h' tk hk hsz hst' rv=>?_
  dsimp only
  rw [ht v]
  exact wpAny_pure (hQ v _ rv ⟨hst',h.2.1.but hk hsz (W.odd i _ h.1) wapart h.2.2.1 wbase,h.2.2.1,h.2.2.2.1.but W.wrn hk hsz,h.2.2.2.2⟩)
 ·exact W.done s _ h.1 fun h' tk hk hsz=>hQ _ ⟨h.2.1.but hk hsz (W.odd _ _ h.1) wapart h.2.2.1 wbase,h.2.2.2.1.but W.wrn hk hsz,h.2.2.2.2⟩
end
theorem Itr.of_walks {prog:Program} {w:World} {A:Around} {it:Addr} {fp wr:List Addr} {xs:List V} {σ₀:List O} {μ₀:List Addr} {h₀:Heap} {Sp:Nat→Heap→Prop} {P:Nat→Value→Prop}
  (W:Walks prog w A it fp wr xs.length P Sp) (odd:∀ i h,Sp i h→Odd wr h) (wrn:∀ b ∈ wr,h₀.objs.size ≤ b)
  (fpo:∀ b ∈ fp,b ∈ wr ∨ (∃ o vs n,h₀.get? b = some o∧o.data = .seq vs n∧¬ Tr σ₀ μ₀ b) ∨ ∃ k:Nat,σ₀[k]? = some O.priv∧μ₀[k]? = some b)
  (hP:∀ i x v σ (μ:List Addr) (h:Heap),xs[i]? = some x→P i v→Kp σ₀ μ₀ h₀ σ μ h→RepV (Tr σ μ) μ h v x) :
  Itr prog w A it fp wr xs σ₀ μ₀ h₀ Sp where
 sub:=W.sub
 frame:=W.frame
 odd:=odd
 wrn:=wrn
 fpo:=fpo
 item:=fun i x s σ μ Q hx hst K hQ=>Z03 (W.item i s _ _ (List.getElem?_eq_some_iff.mp hx).1 hst fun v h' tk hp hst' hk hsz=>hQ v h' tk hk hsz hst' (hP i x v σ μ h' hx hp (K.but wrn hk hsz)))
 done:=fun s Q hst hQ=>Z03 (W.done s _ _ hst fun h' tk hk hsz=>hQ h' tk hk hsz)
 again:=fun i s Q E hst hQ=>W.self i s Q E hst hQ
noncomputable def rSrc (prog:Program) (w:World) (A:Around) (st:St) (μ:List Addr) (h:Heap) (v:Value) (xs:List V):Prop :=
 ∀ (s:Shared) (Q:Value→Shared→Prop),s.heap = h →
  (∀ I fp wr Sp s',Ext h s'.heap→Same s s'→Itr prog w A I fp wr xs st.σ μ h Sp→Sp 0 s'.heap→Q (.ref I) s')→wpAny (model prog w) A (pyIter v) Q (fun _ _=>False) s
theorem Z1I {o:Obj} {fs:Array Value} (hd:o.data = .fields fs):¬ Z4y o:=fun q=>by obtain ⟨vs,n,q⟩:=q; rw [hd] at q; cases q
theorem Z3C {I:Addr} {h:Heap} {o:Obj} {fs:Array Value} (e:h.get? I = some o) (hd:o.data = .fields fs):Odd [I] h:=fun b q=>by
 obtain rfl:=List.mem_singleton.mp q
 exact ⟨o,e,Z1I hd⟩
section
variable {c:Cx} {st:St} {μ:List Addr} {h:Heap} {v:Value}
theorem Z5p (hh:c.A.handled = none) {xs:List V} {a:Addr} {o:Obj} {vs:Array Value} {n:Nat} (ho:h.get? a = some o) (hc:o.cls = .type "list") (hd:o.data = .seq vs n) (r8:RepVs (Tr st.σ μ) μ h vs.toList xs) (hp:(∃ o vs n,h.get? a = some o∧o.data = .seq vs n∧¬ Tr st.σ μ a) ∨ ∃ k:Nat,st.σ[k]? = some O.priv∧μ[k]? = some a):rSrc c.prog c.w c.A st μ h (.ref a) xs:=by
 rintro s Q rfl hQ
 have hlt:=Heap.lt_size ho
 refine wpAny_pyIter_list ⟨o,ho,hc,n,hd⟩ (hQ s.heap.objs.size [s.heap.objs.size,a] [s.heap.objs.size] (fun i h=>h.IsListIter s.heap.objs.size a i∧h.IsList a vs) _ (.push _) .refl (Itr.of_walks (P:=fun i v=>vs[i]? = some v) ?_ (fun i h hst=>?_) (fun b q=>?_) (fun b q=>?_) fun i x v σ' μ' h' hx hp K=>?_)
  ⟨⟨_,Heap.get?_push_size _ rfl,rfl,rfl⟩,⟨o,Heap.get?_push_of_some _ ho,hc,n,hd⟩⟩)
 ·have e:xs.length = vs.size:=by have:=r8.length; simpa using this.symm
  rw [e]
  exact Walks.list hh _ a (Nat.ne_of_lt hlt) vs
 ·refine El.x0_2 hst fun q0z _=>?_
  refine El.x1_3 q0z fun o' ho' _ hd'=>?_
  exact Z3C ho' hd'
 ·rw [List.mem_singleton.mp q]; exact Nat.le_refl _
 ·rcases List.mem_cons.mp q with rfl | q
  ·exact .inl (by simp)
  ·rw [List.mem_singleton.mp q]; exact .inr hp
 ·refine El.x1_2 (r8.get hx) fun u hu ru=>?_
  have:u = v:=by simpa [hp] using hu.symm
  subst this
  exact ru.kp K
theorem Zaj (I:Inv c st μ h) (hh:c.A.handled = none) {xs:List V} (r:RepV (Tr st.σ μ) μ h v (.lst xs)):rSrc c.prog c.w c.A st μ h v xs :=
 El.x4_7 r.lstI fun a o vs n e9 ho hc hd hz hT r8=>by rw [e9]; exact Z5p hh ho hc hd r8 (.inl ⟨o,vs,n,ho,hd,hT⟩)
theorem Z8r (I:Inv c st μ h) (hh:c.A.handled = none) {xs:List V} (r:RepV (Tr st.σ μ) μ h v (.tup xs)):rSrc c.prog c.w c.A st μ h v xs:=by
 rintro s Q rfl hQ
 refine El.x4_7 r.tupI fun a o vs n e9 ho hc hd hz hT r8=>?_
 try clear hz; try clear Q
 subst e9
 have hlt:=Heap.lt_size ho
 refine wpAny_pyIter_tuple ⟨o,ho,hc,n,hd⟩ (hQ s.heap.objs.size [s.heap.objs.size,a] [s.heap.objs.size] (fun i h=>h.IsTupleIter s.heap.objs.size a i∧h.IsTuple a vs) _ (.push _) .refl (Itr.of_walks (P:=fun i v=>vs[i]? = some v) ?_ (fun i h hst=>?_) (fun b q=>?_) (fun b q=>?_) fun i x v σ' μ' h' hx hp K=>?_)
  ⟨⟨_,Heap.get?_push_size _ rfl,rfl,rfl⟩,⟨o,Heap.get?_push_of_some _ ho,hc,n,hd⟩⟩)
 ·have e:xs.length = vs.size:=by have:=r8.length; simpa using this.symm
  rw [e]
  exact Walks.tuple hh _ a (Nat.ne_of_lt hlt) vs
 ·refine El.x0_2 hst fun q1z _=>?_
  refine El.x1_3 q1z fun o' ho' _ hd'=>?_
  exact Z3C ho' hd'
 ·rw [List.mem_singleton.mp q]; exact Nat.le_refl _
 ·try clear hd'; try clear ho'; try clear o'; try clear q1z; try clear e; try clear h'; try clear μ'; try clear σ'; try clear x; try clear b; try clear hst; try clear h
  rcases List.mem_cons.mp q with rfl | q
  ·exact .inl (by simp)
  ·rw [List.mem_singleton.mp q]; exact .inr (.inl ⟨o,vs,n,ho,hd,hT⟩)
 ·refine El.x1_2 (r8.get hx) fun u hu ru=>?_
  have:u = v:=by simpa [hp] using hu.symm
  try clear hu; try clear u; try clear hp; try clear hx; try clear v; try clear q; try clear i; try clear hlt; try clear r8; try clear hT; try clear hd; try clear hc
  subst this
  exact ru.kp K
theorem Z8s {x:Str} (h:PyData.strOk x = true) {i d:Nat} (e:x.cps[i]? = some d):PyData.strOk ⟨#[d]⟩ = true:=by
 unfold PyData.strOk at h ⊢
 have:=Array.all_eq_true.mp h
 refine El.x1_1 (Array.getElem?_eq_some_iff.mp e) fun hi q2z=>?_
 obtain rfl:=q2z
 simpa using this i hi
theorem ZcL (hh:c.A.handled = none) {l:List Nat} (r:RepV (Tr st.σ μ) μ h v (.str l)):rSrc c.prog c.w c.A st μ h v (l.map fun d=>.str [d]):=by
 rintro s Q rfl hQ
 refine El.x2_4 r.str_inv fun x t q3z q4z h1 h2=>?_
 try clear h2; try clear Q
 obtain rfl:=q3z
 try clear q3z
 obtain rfl:=q4z
 have hP:∀ i y v σ' (μ':List Addr) (h':Heap),(x.cps.toList.map fun d=>V.str [d])[i]? = some y→SignAt x i v→Kp st.σ μ s.heap σ' μ' h'→RepV (Tr σ' μ') μ' h' v y:=by
  intro i y v σ' μ' h' hx q5z K
  refine El.x2_2 q5z fun d u hd q6z=>?_
  try clear K; try clear q5z; try clear h'; try clear μ'; try clear σ'; try clear v; try clear q4z
  obtain rfl:=q6z
  have e:y = .str [d]:=by simpa [hd] using hx.symm
  try clear q6z; try clear hx; try clear y
  subst e
  exact .str ⟨#[d]⟩ u (Z8s h1 hd) (by show 1 ≤ sizeLine; decide)
 have hw:∀ b ∈ [s.heap.objs.size],s.heap.objs.size ≤ b:=fun b q=>by rw [List.mem_singleton.mp q]; exact Nat.le_refl _
 cases ha:x.cps.all (· < 128)
 ·refine wpAny_pyIter_wide ha (hQ s.heap.objs.size [s.heap.objs.size] [s.heap.objs.size] (fun i h=>h.IsStrIter s.heap.objs.size "str_iterator" x t i) _ (.push _) .refl (Itr.of_walks (P:=SignAt x) (by simpa using Walks.strWide hh _ x t) (fun i h ⟨o',ho',_,hd'⟩=>Z3C ho' hd') hw (fun b q=>.inl q) hP)
   ⟨_,Heap.get?_push_size _ rfl,rfl,rfl⟩)
 ·refine wpAny_pyIter_ascii ha (hQ s.heap.objs.size [s.heap.objs.size] [s.heap.objs.size] (fun i h=>h.IsStrIter s.heap.objs.size "str_ascii_iterator" x t i) _ (.push _) .refl (Itr.of_walks (P:=SignAt x) (by simpa using Walks.strAscii hh _ x t) (fun i h ⟨o',ho',_,hd'⟩=>Z3C ho' hd') hw (fun b q=>.inl q) hP)
   ⟨_,Heap.get?_push_size _ rfl,rfl,rfl⟩)
theorem Z8t (I:Inv c st μ h) (hh:c.A.handled = none) {x:V} (r:RepV (Tr st.σ μ) μ h v x) {xs:List V} (e:Z39 st.σ x = some xs):rSrc c.prog c.w c.A st μ h v xs:=by
 unfold Z39 at e
 split at e
 ·cases e; exact ZcL hh r
 ·cases e; exact Zaj I hh r
 ·cases e; exact Z8r I hh r
 ·cases e
theorem Z8u (hh:c.A.handled = none) {a:Addr} {lo hi:Int} {t u w:Tok} (hr:IsRange h a lo hi 1 t u w) (h1:Z19 lo = true) (h2:Z19 hi = true):rSrc c.prog c.w c.A st μ h (.ref a) (upTo lo hi):=by
 rintro s Q rfl hQ
 simp [Z19] at h1 h2
 refine wpAny_pyIter_range hr (small_one (by lia) (by lia) (by lia) (by lia)) (hQ s.heap.objs.size [s.heap.objs.size] [s.heap.objs.size] _ _ (.push _) .refl
  (Itr.of_walks (P:=fun i v=>∃ t,v = .int (lo + (i:Nat) * 1) t) (by simpa [upTo] using Walks.range hh s.heap.objs.size lo 1 (hi - lo).toNat) (fun i h hst=>Z3C (h:=h) hst rfl) (fun b q=>by rw [List.mem_singleton.mp q]; exact Nat.le_refl _) (fun b q=>.inl q)
   fun i y v σ' μ' h' hx hp K=>?_) ?_)
 ·refine El.x1_1 hp fun t q7z=>?_
  try clear t; try clear K; try clear hp; try clear h'; try clear μ'; try clear σ'; try clear v; try clear y; try clear i; try clear hQ; try clear Q; try clear s
  obtain rfl:=q7z
  unfold upTo at hx
  rw [List.getElem?_map] at hx
  refine El.x1_2 (Option.map_eq_some_iff.mp hx) fun k hk q8z=>?_
  try clear k; try clear q7z; try clear hx
  obtain rfl:=q8z
  refine El.x1_1 (List.getElem?_eq_some_iff.mp hk) fun hk1 q9z=>?_
  try clear hk1; try clear q8z; try clear hk
  obtain rfl:=q9z
  simp only [List.getElem_range,Int.mul_one]
  exact .int _ _
 ·show IsRangeIter _ _ _ _ _
  rw [rangeSize_nat]
  simpa using Heap.get?_push_size _ rfl
end
noncomputable def ItOk (W:Wo) (it:It):Prop:=∀ (g:Gm) (p:Expr) (c:Cx) (st:St) (μ:List Addr) (s:Shared),okI g it p = true→Good W c g→Inv c st μ s.heap→Sim c (eval (pI it p) c.env) (evIt W.F it st) (rSrc c.prog c.w c.A) st.σ μ s
section
variable {W:Wo} {K:Nat}
theorem Sim.conseq {α β δ:Type} {c:Cx} {σ:List O} {μ:List Addr} {s:Shared} {rel:St→List Addr→Heap→α→β→Prop} {rel':St→List Addr→Heap→α→δ→Prop} {t:Sem α} {m:R β} {g:β→St→R δ}
  (h:Sim c t m rel σ μ s) (hr:∀ b st a μ (s:Shared) d st',Inv c st μ s.heap→rel st μ s.heap a b→g b st = .ok d st'→st' = st∧rel' st μ s.heap a d):Sim c t (m.bind g) rel' σ μ s:=by
 cases m with
 | stuck=>trivial
 | exc x st=>trivial
 | ok b st=>
  simp only [R.bind_ok]
  cases hg:g b st with
  | stuck=>trivial
  | exc x st=>trivial
  | ok d st'=>
   refine wpAny_mono h (fun a s' q8=>El.x1_4 q8 fun μ' h1 h2 h3 h4=>?_) fun _ _ e=>e
   refine El.x0_2 (hr b st a μ' s' d st' h2 h1 hg) fun q0z q=>?_
   try clear h1
   obtain rfl:=q0z
   exact ⟨μ',q,h2,h3,h4⟩
theorem Good.hh {c:Cx} {g:Gm} (hg:Good W c g):c.A.handled = none:=hg.a.hh
theorem Z8v {α:Type} {o:Option α} {st st':St} {t:α} (h:R.lift o st = .ok t st'):o = some t∧st' = st:=by
 cases o with
 | none=>cases h
 | some a=>cases h; exact ⟨rfl,rfl⟩
theorem Zbr {e:Ex} (he:EOk W e):ItOk W (.val e):=fun g p c st μ s hk hg I=>
 Sim.conseq (he g _ c st μ s hk hg I) fun x st₁ v μ₁ s₁ d st' I₁ rx hq=>⟨(Z8v hq).2,Z8t I₁ hg.hh rx (Z8v hq).1⟩
theorem Z2l (it:It) (p:Expr) (env:Env) (x:Value):foldedSetIterable (pI it p) env x = pure x:=by
 cases it with
 | val e=>exact Zbo (Z1E e p) env x
 | range1 a=>rfl
 | enum a=>rfl
 | zip a b=>rfl
theorem Z5q {a:Ex} (ha:EOk W a):ItOk W (.range1 a):=fun g p c st μ s hk hg I=>
 Z1l (.inr ⟨_,rfl⟩) Z4l (by decide) hg I (and2 hk).1 (Z0a a _) (ha g _ c st μ s (and2 hk).2 hg I) fun x st₁ u μ₁ s₁ rx I₁=>Sim.ok fun xs st' h=>by
  refine El.x1_4 (Z9K h) fun m e1 hs e2 e3=>?_
  subst e1; subst e2; subst e3
  refine El.x1_1 (RepV.int_inv rx) fun t e=>?_
  subst e
  exact Sim.leaf I₁ (call_range_1 ⟨.push _,⟨rfl,rfl,rfl⟩,Z8u hg.hh (IsRange.new ..) (by decide) hs⟩)
theorem Zak {i:Nat} {it:It} {body:Sms} (hi:ItOk W it) (hb:SsOk W K body):SOk W K (.for1 i it body):=fun g p c st μ s hk hg I=>Sim.ok fun fl stF hr=>by
 refine El.x2_2 (R.bind_inv hr) fun xs st₁ hR hr=>?_
 have hI:=hi g _ c st μ s (and2 (and2 hk).2).1 hg I
 rw [hR] at hI
 refine wpAny_For (wpAny_mono hI (fun v s₁ q8=>El.x1_4 q8 fun μ₁ rs I₁ S₁ Q₁=>?_) fun _ _ e=>e) (Z2l it _ _)
 refine rs s₁ _ rfl fun it fp wr Sp s₂ X₂ Q₂ W' hst=>?_
 refine codeAny_mono (Z6f (target:=.Name (nmOf (skid p 0)) (skid p 0).pos) (body:=pSs body (blk p)) (as:=fun y st=>.ok () (setV st i y)) (bd:=fun st=>evSs W.F K body st) (st₀:=st₁) (s₀:=s₁) (s₁:=s₂) W' hst
  (fun y v st μ s r I=>Sim.imp (fun Q h=>wpAny_assign_Name h) (Z1H hg.nm (and2 hk).1 I r)) (fun st μ s I=>hb g _ c st μ s (and2 (and2 hk).2).2 hg I) I₁ X₂ Q₂ (fl:=fl) (stF:=stF) hr (fun _=>rfl)) fun r s' hr'=>?_
 cases r with
 | ok f=>exact El.x1_4 hr' fun μ' g1 g2 g3 g4=>⟨μ',g1,g2,S₁.trans g3,Q₁.trans g4⟩
 | error e=>exact hr'.elim
end
theorem Inv.frozen {c:Cx} {st:St} {μ:List Addr} {h:Heap} (I:Inv c st μ h) {n:Nat} {xs:List V} (hn:st.σ[n]? = some (.lst xs)) :
  Inv c ⟨st.ρ,st.σ.set n .dead⟩ μ h∧Stp c st.σ μ h (st.σ.set n .dead) μ h∧∀ v,RepV (Tr st.σ μ) μ h v (.ref n)→RepV (Tr (st.σ.set n .dead) μ) μ h v (.lst xs):=by
 have hlt:n < st.σ.length:=(List.getElem?_eq_some_iff.mp hn).1
 have sub:∀ b,Tr (st.σ.set n .dead) μ b→Tr st.σ μ b:=by
  intro b q0z
  refine El.x2_3 q0z fun k o e1 e2 e3=>?_
  by_cases hk:n = k
  ·try clear q0z
   subst hk
   have e4:O.dead = o:=by simpa [hlt] using e1
   subst e4; cases e2
  ·rw [List.getElem?_set_ne hk] at e1; exact ⟨k,o,e1,e2,e3⟩
 have S:Stp c st.σ μ h (st.σ.set n .dead) μ h:=⟨Nat.le_refl _,fun _ _ e _ _=>e,fun _ _ e=>e,fun b q=>.inl (sub b q),fun _ q=>.inl q,Z4c hn (by simp),fun _ _ _ _ _ e=>e⟩
 have mv:∀ {v:Value} {x:V},RepV (Tr st.σ μ) μ h v x→RepV (Tr (st.σ.set n .dead) μ) μ h v x:=fun r=>r.move (fun a o e _ hT=>⟨e,fun q=>hT (sub a q)⟩) fun _ _ q=>q
 have mvs:∀ {v:List Value} {x:List V},RepVs (Tr st.σ μ) μ h v x→RepVs (Tr (st.σ.set n .dead) μ) μ h v x:=fun r=>r.move (fun a o e _ hT=>⟨e,fun q=>hT (sub a q)⟩) fun _ _ q=>q
 refine ⟨⟨fun j x q=>?_,I.slots,fun k o q=>?_,by simpa using I.len,I.nd,I.lt,I.base,I.baseS,I.baseM,I.sep⟩,S,?_⟩
 ·refine El.x2_3 (I.vars j x q) fun s v g1 g2 g3=>?_
  exact ⟨s,v,g1,g2,mv g3⟩
 ·dsimp only at q ⊢
  by_cases hk:n = k
  ·try clear g3; try clear g2; try clear g1; try clear s; try clear x; try clear j; try clear mv; try clear S; try clear b; try clear sub
   subst hk
   have e4:O.dead = o:=by simpa [hlt] using q
   subst e4
   refine El.x1_2 (I.objs n _ hn) fun a ha _=>?_
   exact ⟨a,ha,.dead⟩
  ·rw [List.getElem?_set_ne hk] at q
   refine El.x1_2 (I.objs k o q) fun a ha r=>?_
   refine ⟨a,ha,?_⟩
   exact r.map (fun _ ho=>ho) fun _ _ r=>(mvs r)
 ·intro v r
  refine El.x1_2 r.refI fun a9 e9 ha=>?_
  try clear a9; try clear a; try clear v; try clear q
  subst e9
  refine El.x1_2 (I.objs n _ hn) fun a' ha' ro=>?_
  try clear a'; try clear e9
  obtain rfl:=Option.some.inj (ha.symm.trans ha')
  refine El.x2_3 ro.lst_inv fun vs nn ho hz r=>?_
  refine .lst ho rfl rfl hz ?_ (mvs r)
  intro q1z
  refine El.x2_3 q1z fun k o e1 e2 e3=>?_
  have:n = k:=(List.getElem?_inj (List.getElem?_eq_some_iff.mp ha).1 I.nd).mp (ha.trans e3.symm)
  try clear q1z; try clear hz; try clear ho; try clear nn; try clear vs; try clear ro; try clear ha'; try clear r; try clear ha; try clear mvs; try clear e3; try clear k
  subst this
  have e4:O.dead = o:=by simpa [hlt] using e1
  try clear e1; try clear o; try clear hlt
  subst e4; cases e2
theorem Z2B {f:Str→Addr}:∀ {l:List (Str × Addr)} {y:Str},(∀ p ∈ l,p.2 = f p.1)→(∃ p ∈ l,p.1 = y)→l.lookup y = some (f y)
 | [],_,_,⟨p,hp,_⟩=>by simp at hp
 | (n,a) :: r,y,h,⟨p,hp,e⟩=>by
  rw [List.lookup_cons]
  by_cases hy:y = n
  ·subst hy
   simp only [beq_self_eq_true]
   rw [show a = f y from h (y,a) (by simp)]
  ·have hb:(y == n) = false:=by simp [hy]
   simp only [hb]
   refine Z2B (fun q hq=>h q (by simp [hq])) ?_
   try clear hb
   rcases List.mem_cons.mp hp with rfl | hp
   ·exact (hy e.symm).elim
   ·exact ⟨p,hp,e⟩
noncomputable def Z48 (env:Env) (n:Str):Addr:=(env.cells.lookup n).getD 0
noncomputable def Z3D (env:Env):List (Str × NameKind)→List (Str × Addr)→List (Str × Addr)
 | [],cs=>cs
 | (n,k) :: r,cs=>Z3D env r (if k == .free then (n,Z48 env n) :: cs else cs)
theorem Z4n (env:Env) (n:Str) (k:NameKind) (r:List (Str × NameKind)) (cs:List (Str × Addr)):Z3D env ((n,k) :: r) cs = Z3D env r (if k == .free then (n,Z48 env n) :: cs else cs):=rfl
theorem Z3E (env:Env):∀ (names:List (Str × NameKind)) (cs:List (Str × Addr)),(∀ p ∈ cs,p.2 = Z48 env p.1)→∀ p ∈ Z3D env names cs,p.2 = Z48 env p.1
 | [],_,h=>h
 | (n,k) :: r,cs,h=>Z3E env r _ (by
   split
   ·intro p hp
    rcases List.mem_cons.mp hp with rfl | hp
    ·rfl
    ·exact h p hp
   ·exact h)
theorem Z3F (env:Env) {y:Str}:∀ (names:List (Str × NameKind)) (cs:List (Str × Addr)),((∃ p ∈ cs,p.1 = y) ∨ (y,NameKind.free) ∈ names)→∃ p ∈ Z3D env names cs,p.1 = y
 | [],_,h=>h.elim id fun h=>by simp at h
 | (n,k) :: r,cs,h=>Z3F env r _ (by
   rcases h with ⟨p,hp,e⟩ | h
   ·refine .inl ⟨p,?_,e⟩
    split
    ·exact List.mem_cons_of_mem _ hp
    ·exact hp
   ·rcases List.mem_cons.mp h with h | h
    ·cases h
     exact .inl ⟨(y,Z48 env y),by simp,rfl⟩
    ·exact .inr h)
theorem Z2C {α:Type}:∀ {l:List (Str × α)} {y:Str} {k:α},l.lookup y = some k→(y,k) ∈ l
 | [],_,_,h=>by simp at h
 | (n,a) :: r,y,k,h=>by
  rw [List.lookup_cons] at h
  by_cases hy:y = n
  ·subst hy
   simp at h; subst h; simp
  ·have hb:(y == n) = false:=by simp [hy]
   simp only [hb] at h
   exact List.mem_cons_of_mem _ (Z2C h)
theorem Z5r {env:Env} {scope:Scope} (h:∀ p ∈ scope.names,p.2 = .free→∃ a,env.cells.lookup p.1 = some a):closureFor scope env = pure (Z3D env scope.names []):=by
 have go:∀ (names:List (Str × NameKind)) (cs:List (Str × Addr)),(∀ p ∈ names,p.2 = .free→∃ a,env.cells.lookup p.1 = some a) →
   (forIn names cs fun (x:Str × NameKind) cs=>(if x.2 == NameKind.free then do let a ← cellOf env x.1; pure (ForInStep.yield ((x.1,a) :: cs)) else pure (ForInStep.yield cs):Sem (ForInStep (List (Str × Addr))))) = pure (Z3D env names cs):=by
  intro names
  induction names with
  | nil=>intro cs _; rfl
  | cons p r ih=>
   intro cs h
   obtain ⟨n,k⟩:=p
   rw [List.forIn_cons]
   by_cases hk:k = .free
   ·try clear names
    subst hk
    refine El.x1_1 (h (n,.free) (by simp) rfl) fun a ha=>?_
    have hc:cellOf env n = pure a:=by unfold cellOf; simp only [ha]
    have hf:Z48 env n = a:=by unfold Z48; rw [ha]; rfl
    simp only [beq_self_eq_true,if_true,hc,Z4n,hf]
    exact ih _ fun p hp=>h p (by simp [hp])
   ·have hb:(k == NameKind.free) = false:=by simp [hk]
    simp only [hb,Bool.false_eq_true,if_false,Z4n]
    exact ih _ fun p hp=>h p (by simp [hp])
 unfold closureFor
 have:=go scope.names [] h
 exact congrArg (fun t:Sem (List (Str × Addr))=>t >>= fun cs=>pure cs) this
noncomputable def Cx.comp (c:Cx) (scope:Scope) (C:Addr) (x:Str) (k:Nat):Cx :=
 { c with env:=compEnvC scope (Z3D c.env scope.names []) C c.env,sl:=fun i=>if i = k then some (.d C x) else c.sl i }
section
variable {c:Cx} {scope:Scope} {C:Addr} {x:Str} {k:Nat} {st:St} {μ:List Addr} {h h':Heap}
theorem Z3f {b:Addr} (q:Own (c.comp scope C x k) b):b = C ∨ Own c b:=by
 refine El.x2_2 q fun i s h1 h2=>?_
 by_cases hi:i = k
 ·have e:some (Slot.d C x) = some s:=by simpa [Cx.comp,hi] using h1
  cases e; exact .inl h2.symm
 ·exact .inr ⟨i,s,by simpa [Cx.comp,hi] using h1,h2⟩
theorem Inv.enter (I:Inv c st μ h) (hC:h.objs.size ≤ C) (X:Ext h h') (hn:∃ m,h'.Ns C m):Inv (c.comp scope C x k) ⟨st.ρ.set k none,st.σ⟩ μ h':=by
 have I':=I.ext X
 refine ⟨fun i y q=>?_,fun i s q=>?_,I'.objs,I.len,I.nd,I'.lt,I'.base,fun b q=>?_,I.baseM,fun b q m=>?_⟩
 ·dsimp only at q
  by_cases hi:k = i
  ·subst hi
   rw [List.getElem?_set] at q
   simp only [if_true] at q
   split at q <;> cases q
  ·rw [List.getElem?_set_ne hi] at q
   refine El.x2_3 (I'.vars i y q) fun s v g1 g2 g3=>?_
   exact ⟨s,v,by simpa [Cx.comp,Ne.symm hi] using g1,g2,g3⟩
 ·by_cases hi:i = k
  ·have e:some (Slot.d C x) = some s:=by simpa [Cx.comp,hi] using q
   cases e; exact hn
  ·exact I'.slots i s (by simpa [Cx.comp,hi] using q)
 ·try clear e; try clear g3; try clear g2; try clear g1; try clear v; try clear s; try clear y; try clear i
  rcases Z3f q with rfl | q
  ·show c.base.get? b = none
   cases hb:c.base.get? b with
   | none=>rfl
   | some o=>exact absurd (Nat.lt_of_lt_of_le (Heap.lt_size (I.base _ _ hb)) hC) (Nat.lt_irrefl _)
  ·exact I.baseS b q
 ·rcases Z3f q with rfl | q
  ·exact Nat.lt_irrefl _ (Nat.lt_of_lt_of_le (I.lt b m) hC)
  ·exact I.sep b q m
theorem Inv.leave (I:Inv (c.comp scope C x k) st μ h) (hk:c.sl k = none) (hCo:¬ Own c C) (hs:Heap.SameBut C h h'):Inv c ⟨st.ρ.set k none,st.σ⟩ μ h':=by
 have oc:Own (c.comp scope C x k) C:=⟨k,.d C x,by simp [Cx.comp],rfl⟩
 have I₁:Inv c ⟨st.ρ.set k none,st.σ⟩ μ h:=by
  refine ⟨fun i y q=>?_,fun i s q=>?_,I.objs,I.len,I.nd,I.lt,I.base,fun b q=>?_,I.baseM,fun b q=>?_⟩
  ·dsimp only at q
   by_cases hi:k = i
   ·subst hi
    rw [List.getElem?_set] at q
    simp only [if_true] at q
    split at q <;> cases q
   ·rw [List.getElem?_set_ne hi] at q
    refine El.x2_3 (I.vars i y q) fun s v g1 g2 g3=>?_
    exact ⟨s,v,by simpa [Cx.comp,Ne.symm hi] using g1,g2,g3⟩
  ·have hi:i ≠ k:=fun e=>by rw [e,hk] at q; cases q
   exact I.slots i s (by simpa [Cx.comp,hi] using q)
  ·refine El.x2_2 q fun i s h1 h2=>?_
   have hi:i ≠ k:=fun e=>by rw [e,hk] at h1; cases h1
   exact I.baseS b ⟨i,s,by simpa [Cx.comp,hi] using h1,h2⟩
  ·refine El.x2_2 q fun i s h1 h2=>?_
   have hi:i ≠ k:=fun e=>by rw [e,hk] at h1; cases h1
   exact I.sep b ⟨i,s,by simpa [Cx.comp,hi] using h1,h2⟩
 refine I₁.but (wr:=[C]) (fun b o hb e=>(hs.2 b (fun q=>hb (by simp [q]))).trans e) (Nat.le_of_eq hs.1.symm) (fun b q=>?_) (fun b q=>?_) (fun b q=>?_) (fun b q=>?_)
 ·rw [List.mem_singleton.mp q]
  refine El.x1_1 (Z1F I oc) fun o ho=>?_
  exact ⟨o,ho,I.own_data oc ho⟩
 ·rw [List.mem_singleton.mp q]; exact hCo
 ·rw [List.mem_singleton.mp q]; exact I.sep C oc
 ·rw [List.mem_singleton.mp q]; exact I.baseS C oc
theorem Stp.inner {c':Cx} {σ₀ σ₁ σ₂:List O} {μ₀ μ₁ μ₂:List Addr} {h₀ h₁ h₂:Heap} (S:Stp c σ₀ μ₀ h₀ σ₁ μ₁ h₁) (S':Stp c' σ₁ μ₁ h₁ σ₂ μ₂ h₂) (ho:∀ b,Own c' b→Own c b ∨ h₀.objs.size ≤ b):Stp c σ₀ μ₀ h₀ σ₂ μ₂ h₂ where
 size:=Nat.le_trans S.size S'.size
 keep:=fun b o e h1 h2=>S'.keep b o (S.keep b o e h1 h2) (fun q=>(ho b q).elim h1 fun q=>Nat.lt_irrefl _ (Nat.lt_of_lt_of_le (Heap.lt_size e) q))
  fun q=>(S.tr b q).elim h2 fun q=>Nat.lt_irrefl _ (Nat.lt_of_lt_of_le (Heap.lt_size e) q)
 pre:=fun n a e=>S'.pre n a (S.pre n a e)
 tr:=fun b q=>(S'.tr b q).elim (fun q=>S.tr b q) fun q=>.inr (Nat.le_trans S.size q)
 new:=fun a q=>(S'.new a q).elim (fun q=>S.new a q) fun q=>.inr (Nat.le_trans S.size q)
 pv:=fun n e=>S'.pv n (S.pv n e)
 pk:=fun n a o e e' e''=>S'.pk n a o (S.pv n e) (S.pre n a e') (S.pk n a o e e' e'')
end
theorem Z1q {y:Str} {i:Nat} {p:Str × Nat→Bool}:∀ {l:List (Str × Nat)},(∀ a b:Str × Nat,a.1 = b.1→p a = p b)→(l.filter p).lookup y = some i→l.lookup y = some i∧p (y,i) = true
 | [],_,h=>by simp at h
 | (n,a) :: r,hp,h=>by
  rw [List.filter_cons] at h
  by_cases hq:p (n,a) = true
  ·rw [if_pos hq,List.lookup_cons] at h
   rw [List.lookup_cons]
   by_cases hy:y = n
   ·subst hy
    simp at h ⊢
    subst h
    exact ⟨rfl,hq⟩
   ·have hb:(y == n) = false:=by simp [hy]
    simp only [hb] at h ⊢
    exact Z1q hp h
  ·rw [if_neg hq] at h
   refine El.x0_2 (Z1q hp h) fun h1 h2=>?_
   rw [List.lookup_cons]
   have hy:y ≠ n:=fun e=>hq ((hp (n,a) (y,i) e.symm).trans h2)
   have hb:(y == n) = false:=by simp [hy]
   simp only [hb]
   exact ⟨h1,h2⟩
theorem Z14 {g:Gm}:∀ {names:List (Str × NameKind)} {y:Str},names.lookup y = some .free→g.sc.kind = .function→g.sc.names.lookup y = some .cell →
  (names.map fun p=>if Z1D g p.1 p.2 then (p.1,NameKind.cell) else (p.1,p.2)).lookup y = some .cell
 | [],_,h,_,_=>by simp at h
 | (n,k) :: r,y,h,h1,h2=>by
  rw [List.map_cons]
  by_cases hy:y = n
  ·subst hy
   simp at h
   subst h
   have:Z1D g y .free = true:=by simp [Z1D,h1,h2]
   simp [this]
  ·have hb:(y == n) = false:=by simp [hy]
   rw [List.lookup_cons] at h
   simp only [hb] at h
   have ih:=Z14 h h1 h2
   dsimp only
   split
   ·rw [List.lookup_cons]; simp only [hb]; exact ih
   ·rw [List.lookup_cons]; simp only [hb]; exact ih
theorem Z15 {g:Gm}:∀ {names:List (Str × NameKind)} {y:Str},(∀ p ∈ names,p.2 ≠ .cell)→(names.map fun p=>if Z1D g p.1 p.2 then (p.1,NameKind.cell) else (p.1,p.2)).lookup y = some .cell→names.lookup y = some .free
 | [],_,_,h=>by simp at h
 | (n,k) :: r,y,hc,h=>by
  rw [List.map_cons] at h
  rw [List.lookup_cons]
  by_cases hy:y = n
  ·subst hy
   simp only [beq_self_eq_true]
   by_cases ho:Z1D g y k = true
   ·unfold Z1D at ho
    simp at ho
    rw [ho.1.1]
   ·rw [if_neg ho,List.lookup_cons] at h
    simp at h
    exact (hc (y,k) (by simp) h).elim
  ·have hb:(y == n) = false:=by simp [hy]
   simp only [hb]
   refine Z15 (g:=g) (fun p hp=>hc p (by simp [hp])) ?_
   dsimp only at h
   split at h
   ·rw [List.lookup_cons] at h; simpa only [hb] using h
   ·rw [List.lookup_cons] at h; simpa only [hb] using h
theorem Z6R {c:Cx} {g:Gm} (N:Nm c g) (scope:Scope):relabel scope c.env = Z6a g scope:=by
 unfold relabel Z6a Z1D Env.kindOf
 rw [N.sc]
structure CompOk (g:Gm) (scope:Scope) (x:Str) (k:Nat):Prop where
 kind:scope.kind = .function
 loc:scope.names.lookup x = some .local
 nocell:∀ p ∈ scope.names,p.2 ≠ .cell
 plain:Z2z x = true
 fresh:k ∉ g.used
 free:∀ p ∈ scope.names,p.2 = .free→g.sc.names.lookup p.1 = some .cell
 lname:∀ p ∈ scope.names,p.2 = .local→scope.names.lookup p.1 = some .local
theorem Z2X {α:Type}:∀ {l:List (Str × α)} {y:Str} {k:α},(l.map (·.1)).Nodup→(y,k) ∈ l→l.lookup y = some k
 | [],_,_,_,h=>by simp at h
 | (n,a) :: r,y,k,hn,h=>by
  rw [List.lookup_cons]
  rw [List.map_cons,List.nodup_cons] at hn
  rcases List.mem_cons.mp h with h | h
  ·cases h; simp
  ·have hy:y ≠ n:=fun e=>hn.1 (List.mem_map.mpr ⟨(y,k),h,e⟩)
   have hb:(y == n) = false:=by simp [hy]
   simp only [hb]
   exact Z2X hn.2 h
theorem Z2a {g:Gm} {scope:Scope} {x:Str} {k:Nat} (h:Z6K g scope x k = true):CompOk g scope x k:=by
 unfold Z6K at h
 simp only [Bool.and_eq_true,decide_eq_true_eq,List.all_eq_true] at h
 obtain ⟨⟨⟨⟨⟨⟨⟨⟨⟨h1,h2⟩,h3⟩,h4⟩,h5⟩,h6⟩,h7⟩,h8⟩,h9⟩,h10⟩:=h
 refine ⟨h1,h2,fun p hp e=>?_,h4,?_,fun p hp e=>?_,fun p hp e=>Z2X h10 (by rw [← e]; exact hp)⟩
 ·have:=h3 p hp; simp [e] at this
 ·simpa using h5
 ·have:=h8 p hp; simpa [e] using this
theorem Nm.enter {c:Cx} {g:Gm} {scope:Scope} {x:Str} {k:Nat} {C:Addr} (N:Nm c g) (O:CompOk g scope x k) (hC:¬ Own c C):Nm (c.comp scope C x k) (g.comp scope x k) where
 sc:=Z6R N scope
 kind:=O.kind
 glob:=N.glob
 blt:=N.blt
 var:=by
  intro y i hl
  unfold Gm.comp at hl ⊢
  dsimp only at hl ⊢
  rw [List.lookup_cons] at hl
  by_cases hy:y = x
  ·subst hy
   simp at hl
   subst hl
   refine .inl ⟨?_,by simp [Cx.comp,compEnvC]⟩
   have:=lookup_relabel_local (env:=c.env) O.loc
   have e:=Z6R N scope
   unfold relabel at e
   rw [← e]
   exact this
  ·have hb:(y == x) = false:=by simp [hy]
   simp only [hb] at hl
   obtain ⟨h1,h2⟩:=Z1q (by rintro ⟨a1,a2⟩ ⟨b1,b2⟩ e; dsimp only at e; subst e; rfl) hl
   simp at h2
   refine El.x0_2 h2 fun q10z h4=>?_
   refine El.x0_2 q10z fun _ h3=>?_
   rcases N.var y i h1 with ⟨k1,_⟩ | ⟨k1,a,k2,k3⟩
   ·rw [h4] at k1; cases k1
   ·refine .inr ⟨Z14 h3 N.kind h4,a,?_,?_⟩
    ·show (Z3D c.env scope.names []).lookup y = some a
     rw [Z2B (f:=Z48 c.env) (Z3E _ _ _ (by simp)) (Z3F _ _ _ (.inr (Z2C h3)))]
     unfold Z48; rw [k2]; rfl
    ·have hi:i ≠ k:=fun e=>O.fresh (e ▸ N.dom i _ k3)
     simpa [Cx.comp,hi] using k3
 apart:=by
  intro i j s h1 h2
  by_cases hi:i = k
  ·by_cases hj:j = k
   ·rw [hi,hj]
   ·have e:some (Slot.d C x) = some s:=by simpa [Cx.comp,hi] using h1
    try clear h3; try clear h4; try clear q10z; try clear hb; try clear hl
    cases e
    exact (hC ⟨j,.d C x,by simpa [Cx.comp,hj] using h2,rfl⟩).elim
  ·by_cases hj:j = k
   ·have e:some (Slot.d C x) = some s:=by simpa [Cx.comp,hj] using h2
    cases e
    exact (hC ⟨i,.d C x,by simpa [Cx.comp,hi] using h1,rfl⟩).elim
   ·exact N.apart i j s (by simpa [Cx.comp,hi] using h1) (by simpa [Cx.comp,hj] using h2)
 dom:=by
  intro i s h1
  by_cases hi:i = k
  ·try clear j; try clear h2; try clear e
   subst hi; exact List.mem_cons_self
  ·exact List.mem_cons_of_mem _ (N.dom i s (by simpa [Cx.comp,hi] using h1))
 cells:=fun y hy=>⟨_,Z2B (f:=Z48 c.env) (Z3E _ _ _ (by simp)) (Z3F _ _ _ (.inr (Z2C (Z15 O.nocell hy))))⟩
theorem Good.enter {W:Wo} {c:Cx} {g:Gm} {scope:Scope} {x:Str} {k:Nat} {C:Addr} (hg:Good W c g) (O:CompOk g scope x k) (hC:¬ Own c C):Good W (c.comp scope C x k) (g.comp scope x k) :=
 ⟨⟨hg.ok.pyl,hg.ok.hh,hg.ok.units,hg.ok.sys⟩,hg.gd,hg.nm.enter O hC,hg.a,hg.gs,hg.fn⟩
section
variable {W:Wo}
structure CLi (c:Cx) (wr:List Addr) (Sp:Nat→Heap→Prop) (σ₀:List O) (μ₀:List Addr) (h₀:Heap) (st₁:St) (μ₁:List Addr) (s₁:Shared) (m:Nat) (D:Addr) (i:Nat) (st:St) (μ:List Addr) (s:Shared):Prop where
 sp:Sp i s.heap
 inv:Inv c st μ s.heap
 mem:∀ b ∈ wr,b ∉ μ
 kp:Kp σ₀ μ₀ h₀ st.σ μ s.heap
 stp:Stp c st₁.σ μ₁ h₀ st.σ μ s.heap
 same:Same s₁ s
 at':μ[m]? = some D
section
variable {c:Cx} {k m:Nat} {xs:List V} {it D:Addr} {fp wr:List Addr} {Sp:Nat→Heap→Prop} {σ₀:List O} {μ₀:List Addr} {h₀:Heap} {s₁:Shared} {st₁:St} {μ₁:List Addr}
theorem CLi.step (W:Itr c.prog c.w c.A it fp wr xs σ₀ μ₀ h₀ Sp) (own:∀ b ∈ wr,¬ Own c b) {i:Nat} {st st':St} {μ μ':List Addr} {s s':Shared} (X:CLi c wr Sp σ₀ μ₀ h₀ st₁ μ₁ s₁ m D i st μ s) (I:Inv c st' μ' s'.heap) (S:Stp c st.σ μ s.heap st'.σ μ' s'.heap) (Q:Same s s'):CLi c wr Sp σ₀ μ₀ h₀ st₁ μ₁ s₁ m D i st' μ' s' :=
 El.x0_2 (W.keep own X.mem X.inv X.kp S X.sp) fun h1 h2=>⟨h1,I,h2,X.kp.trans (S.kp X.inv),X.stp.trans S,X.same.trans Q,S.pre _ _ X.at'⟩
theorem CLi.sim (W:Itr c.prog c.w c.A it fp wr xs σ₀ μ₀ h₀ Sp) (own:∀ b ∈ wr,¬ Own c b) {i:Nat} {st st':St} {μ:List Addr} {s:Shared} (X:CLi c wr Sp σ₀ μ₀ h₀ st₁ μ₁ s₁ m D i st μ s) {α β:Type} {t:Sem α} {b:β} {rel:St→List Addr→Heap→α→β→Prop} {mm:R β} (hs:Sim c t mm rel st.σ μ s) (e:mm = .ok b st') {Q:α→Shared→Prop} {E:Value→Shared→Prop} (h:∀ a μ' s',rel st' μ' s'.heap a b→CLi c wr Sp σ₀ μ₀ h₀ st₁ μ₁ s₁ m D i st' μ' s'→Q a s'):wpAny (model c.prog c.w) c.A t Q E s:=by
 rw [e] at hs
 exact wpAny_mono hs (fun a s' q=>El.x1_4 q fun μ' r I S Q=>h a μ' s' r (X.step W own I S Q)) fun _ _ e=>e.elim
end
theorem Z5s {c:Cx} {g:Gm} {elt iter:Expr} {x:Str} {px:Pos} {scope:Scope} {pos:Pos} {k m:Nat} {xs:List V} {ev:St→R V} {it D:Addr} {fp wr:List Addr} {Sp:Nat→Heap→Prop}
  {σ₀:List O} {μ₀:List Addr} {h₀:Heap} {s₁:Shared} {st₁:St} {μ₁:List Addr} (W:Itr c.prog c.w c.A it fp wr xs σ₀ μ₀ h₀ Sp) (start:Sp 0 s₁.heap) (K₁:Kp σ₀ μ₀ h₀ st₁.σ μ₁ s₁.heap)
  (N:Nm c g) (hx:g.lv x k = true) (hD:μ₁[m]? = some D) (I₁:Inv c st₁ μ₁ s₁.heap) (own:∀ b ∈ wr,¬ Own c b) (mem₁:∀ b ∈ wr,b ∉ μ₁) (bs:∀ b ∈ wr,c.base.get? b = none)
  (hE:∀ st μ (s:Shared),Inv c st μ s.heap→Sim c (eval elt c.env) (ev st) rV st.σ μ s)
  {stF:St} (hr:Z1x k m ev xs st₁ = .ok () stF) {Rs:Result→Shared→Prop}
  (hR:∀ s' μ',Inv c stF μ' s'.heap→Kp σ₀ μ₀ h₀ stF.σ μ' s'.heap→Stp c st₁.σ μ₁ h₀ stF.σ μ' s'.heap→Same s₁ s'→μ'[m]? = some D→Rs (.ok .next) s') (S₁:Stp c st₁.σ μ₁ h₀ st₁.σ μ₁ s₁.heap) :
  codeAny (model c.prog c.w) c.A (.compLoop (.ListComp elt [⟨.Name x px,iter,[],0⟩] scope pos) 0 (.ref it) (.ref D) c.env) Rs s₁:=by
 obtain ⟨J,hJ⟩:∃ J:Nat→Shared→Prop,∀ j s',J j s'↔∃ i st μ,j = xs.length + 1 - i∧i ≤ xs.length∧Z1x k m ev (xs.drop i) st = .ok () stF∧CLi c wr Sp σ₀ μ₀ h₀ st₁ μ₁ s₁ m D i st μ s':=⟨_,fun _ _=>Iff.rfl⟩
 refine codeAny_compLoop_tests J (fun j s' hJj=>El.x3_4 ((hJ j s').mp hJj) fun i st μ ej hi hf X=>?_) (xs.length + 1) ((hJ _ _).mpr ⟨0,st₁,μ₁,rfl,Nat.zero_le _,hr,start,I₁,mem₁,K₁,S₁,.refl,hD⟩)
 rw [ej]
 clear hJj ej
 by_cases hlt:i < xs.length
 ·rw [List.drop_eq_getElem_cons hlt,Z2u] at hf
  refine wpAny_mono (W.item i xs[i] s' st.σ μ _ (List.getElem?_eq_getElem hlt) X.sp X.kp fun v h' tk hk hsz hst' rv=>?_) (fun _ _ q=>q) fun _ _ e=>(e:False).elim
  have X:CLi c wr Sp σ₀ μ₀ h₀ st₁ μ₁ s₁ m D (i + 1) st μ { s' with heap:=h',toks:=tk }:=⟨hst',X.inv.but hk hsz (W.odd i _ X.sp) own X.mem bs,X.mem,X.kp.but W.wrn hk hsz,X.stp.but W.wrn hk hsz,X.same,X.at'⟩
  refine X.sim W own (Sim.imp (fun Q h=>wpAny_assign_Name h) (Z1H N hx X.inv rv)) rfl fun _ μ₂ s₂ _ X=>?_
  refine wpAny_pure ?_
  rw [if_pos rfl]
  refine El.x2_2 (R.bind_inv hf) fun z st₄ hE' hf=>X.sim W own (hE _ μ₂ s₂ X.inv) hE' fun u μ₄ s₄ ru X=>?_
  refine Z07 hf fun acc ha hf=>?_
  have hacc:=Z12 ha
  refine Z7o hf fun hz hf=>X.sim W own (Zbn (c:=c) (s:=s₄) X.inv (.ref X.at':RepV (Tr st₄.σ μ₄) μ₄ s₄.heap (.ref D) (.ref m)) ru .append) (Z09 st₄.ρ st₄.σ m acc z hacc hz) fun _ μ₅ s₅ _ X=>?_
  exact ⟨xs.length + 1 - (i + 1),dec1 hlt,(hJ _ _).mpr ⟨i + 1,_,μ₅,rfl,hlt,hf,X⟩⟩
 ·obtain rfl:i = xs.length:=eqle hi hlt
  rw [List.drop_length] at hf
  cases hf
  refine wpAny_mono (W.done s' _ X.sp fun h' tk hk hsz=>?_) (fun _ _ q=>q) fun _ _ e=>(e:False).elim
  exact hR _ μ (X.inv.but hk hsz (W.odd _ _ X.sp) own X.mem bs) (X.kp.but W.wrn hk hsz) (X.stp.but W.wrn hk hsz) X.same X.at'
end
section
variable {W:Wo} {K:Nat}
theorem Stp.inner0 {c c':Cx} {σ₀ σ₁ σ₂:List O} {μ₀ μ₁ μ₂:List Addr} {h₀ h₂:Heap} (tr:∀ b,Tr σ₁ μ₁ b→Tr σ₀ μ₀ b ∨ h₀.objs.size ≤ b) (pre:∀ (n:Nat) (a:Addr),μ₀[n]? = some a→μ₁[n]? = some a)
  (new:∀ a ∈ μ₁,a ∈ μ₀ ∨ h₀.objs.size ≤ a) (pv:∀ (n:Nat),σ₀[n]? = some O.priv→σ₁[n]? = some O.priv) (S':Stp c' σ₁ μ₁ h₀ σ₂ μ₂ h₂) (ho:∀ b,Own c' b→Own c b ∨ h₀.objs.size ≤ b):Stp c σ₀ μ₀ h₀ σ₂ μ₂ h₂ where
 size:=S'.size
 keep:=fun b o e h1 h2=>S'.keep b o e (fun q=>(ho b q).elim h1 fun q=>Nat.lt_irrefl _ (Nat.lt_of_lt_of_le (Heap.lt_size e) q))
  fun q=>(tr b q).elim h2 fun q=>Nat.lt_irrefl _ (Nat.lt_of_lt_of_le (Heap.lt_size e) q)
 pre:=fun n a e=>S'.pre n a (pre n a e)
 tr:=fun b q=>(S'.tr b q).elim (fun q=>tr b q) fun q=>.inr q
 new:=fun a q=>(S'.new a q).elim (fun q=>new a q) fun q=>.inr q
 pv:=fun n e=>S'.pv n (pv n e)
 pk:=fun n a o e e' e''=>S'.pk n a o (pv n e) (pre n a e') e''
theorem Z3G {elt:Ex} {k:Nat} {g:Gm} {pe iter:Expr} {x:Str} {px pos pos':Pos} {scope:Scope} {c:Cx} {st st₁ stF:St} {μ:List Addr} {s:Shared} {xs:List V} {P:List Addr→Heap→Prop} (O:CompOk g scope x k) (hg:Good W c g) (I:Inv c st μ s.heap)
  (hI:Sim c (eval iter c.env) (.ok xs st₁) (fun st μ h v xs=>rSrc c.prog c.w c.A st μ h v xs∧P μ h) st.σ μ s) (hn:∀ x,foldedSetIterable iter c.env x = pure x)
  (he:∀ c,Good W c (g.comp scope x k)→∀ st μ (s:Shared),Inv c st μ s.heap→Sim c (eval pe c.env) (evE W.F elt st) rV st.σ μ s) (hr:Z1x k st₁.σ.length (evE W.F elt) xs ⟨st₁.ρ.set k none,st₁.σ++[.lst []]⟩ = .ok () stF) {use:Option (Value→Sem Unit)} {Q:Value→Shared→Prop}
  (hU:∀ (D C:Addr) (μ₁:List Addr) (h₁:Heap) (μ':List Addr) (s':Shared),P μ₁ h₁→Stp c st₁.σ μ₁ h₁ stF.σ μ' s'.heap→μ'[st₁.σ.length]? = some D→Inv c ⟨stF.ρ.set k none,stF.σ⟩ μ' s'.heap→Stp c st.σ μ s.heap stF.σ μ' s'.heap→Same s s'→s.heap.objs.size ≤ C→¬ Own c C→C ∉ μ'→c.base.get? C = none→Odd [C] s'.heap →
   (∃ m,s'.heap.Ns C m)→h₁.objs.size ≤ C→compPost (model c.prog c.w) c.A (fun _ _=>False) use Q (.ref D) C (.ok .next) s') :
  wpAny (model c.prog c.w) c.A (comprehension (.ListComp pe [⟨.Name x px,iter,[],0⟩] scope pos) scope c.env pos' (newList []) false (eval iter c.env) use) Q (fun _ _=>False) s:=by
 have hclos:closureFor scope c.env = pure (Z3D c.env scope.names []):=Z5r fun p hp e=>by
  have hc:=O.free p hp e
  exact hg.nm.cells p.1 hc
 have hk0:c.sl k = none:=by
  cases hq:c.sl k with
  | none=>rfl
  | some s'=>exact (O.fresh (hg.nm.dom k s' hq)).elim
 refine wpAny_comprehension_free (use:=use) rfl hn hclos O.kind O.lname (wpAny_mono hI (fun v s₁ q8=>El.x1_4 q8 fun μ₁ rs0 I₁ S₁ Q₁=>?_) fun _ _ e=>e)
 refine El.x0_2 rs0 fun rs hP=>?_
 refine rs s₁ _ rfl fun it fp wr Sp s₂ X₂ Q₂ W' hst=>?_
 refine wpAny_newObj_type (wpAny_newFunctionEnv O.nocell (by intro y hy; simp at hy) (fun h₁ hns₁ hsb₁=>?_) O.kind)
 dsimp only at hns₁ hsb₁ ⊢
 have I₂:=I₁.ext X₂
 refine El.x0_2 (I₂.track (o:={ cls:=.type "list",data:=.seq ([]:List Value).toArray }) (ob:=.lst []) rfl rfl fun T hT=>.lst (Heap.get?_push_size _ rfl) (by simp) .nil) fun I₃ S₃=>?_
 generalize hH2:s₂.heap.push { cls:=.type "list",dict:=none,data:=.seq ([]:List Value).toArray } = H2 at hns₁ hsb₁ I₃ S₃ ⊢
 have hC:H2.objs.size = s₂.heap.objs.size + 1:=by rw [← hH2,Heap.size_push]
 have X₃:Ext H2 h₁:=⟨by rw [hsb₁.1,Heap.size_push]; exact Nat.le_succ _,fun b o e=>(hsb₁.2 b (Nat.ne_of_lt (Heap.lt_size e))).trans (Heap.get?_push_of_some _ e)⟩
 have X₂₃:Ext s₂.heap h₁:=⟨Nat.le_trans (by rw [hC]; exact Nat.le_succ _) X₃.1,fun b o e=>X₃.2 b o (by rw [← hH2]; exact Heap.get?_push_of_some _ e)⟩
 have I₄:=I₃.enter (scope:=scope) (x:=x) (k:=k) (C:=H2.objs.size) (Nat.le_refl _) X₃ ⟨_,hns₁⟩
 have hnC:¬ Own c H2.objs.size:=fun q=>by obtain ⟨o,ho⟩:=Z1F I₃ q; exact Nat.lt_irrefl _ (Heap.lt_size ho)
 have hg':=hg.enter O hnC
 have wall:=Z6Q I₁ W'.wrn
 have wlt:∀ b ∈ wr,b < s₂.heap.objs.size:=fun b q=>by obtain ⟨o,ho,_⟩:=W'.odd 0 _ hst b q; exact Heap.lt_size ho
 have st0:Sp 0 h₁:=W'.frame 0 _ _ hst fun b _ o e=>X₂₃.2 b o e
 have X₁₃:=X₂.trans X₂₃
 have hz:s₁.heap.objs.size ≤ s₂.heap.objs.size:=X₂.1
 have trr:∀ b,Tr (st₁.σ++[.lst []]) (μ₁++[s₂.heap.objs.size]) b→Tr st₁.σ μ₁ b ∨ s₁.heap.objs.size ≤ b:=fun b q=>(S₃.tr b q).imp id fun q=>Nat.le_trans hz q
 have prr:∀ (n:Nat) (a:Addr),μ₁[n]? = some a→(μ₁++[s₂.heap.objs.size])[n]? = some a:=S₃.pre
 have nww:∀ a ∈ μ₁++[s₂.heap.objs.size],a ∈ μ₁ ∨ s₁.heap.objs.size ≤ a:=fun a q=>(S₃.new a q).imp id fun q=>Nat.le_trans hz q
 have loop:∀ s₃:Shared,s₃ = { s₂ with heap:=h₁,toks:=s₂.toks + ([]:List (Str × Value)).length } →
   codeAny (model c.prog c.w) c.A (.compLoop (.ListComp pe [⟨.Name x px,iter,[],0⟩] scope pos) 0 (.ref it) (.ref s₂.heap.objs.size) (compEnvC scope (Z3D c.env scope.names []) H2.objs.size c.env))
    (compPost (model c.prog c.w) c.A (fun _ _=>False) use Q (.ref s₂.heap.objs.size) H2.objs.size) s₃:=by
  rintro s₃ rfl
  refine Z5s (c:=c.comp scope H2.objs.size x k) (g:=g.comp scope x k) (k:=k) (m:=st₁.σ.length) (ev:=evE W.F elt) (σ₀:=st₁.σ) (μ₀:=μ₁) (h₀:=s₁.heap) W' st0 ?_ hg'.nm ?_ ?_ I₄ (fun b q o=>?_) (fun b q m=>?_) (fun b q=>(wall b q).1)
   (he _ hg') hr (fun s' μ' I' K' S' Q' hD'=>?_) (.ext X₁₃)
  ·exact ⟨X₁₃.1,fun b o e _ _=>X₁₃.2 b o e,prr,trr,fun k e=>by rw [List.getElem?_append_left (List.getElem?_eq_some_iff.mp e).1]; exact e⟩
  ·have:=O.plain
   simp [Gm.lv,Gm.comp,this]
  ·rw [← I₁.len]; simp
  ·try clear K'; try clear s₃; try clear X₁₃; try clear hg; try clear I₄; try clear X₂₃; try clear X₃; try clear S₃; try clear I₃; try clear I₂; try clear hsb₁; try clear hns₁
   rcases Z3f o with rfl | o
   ·have q':=wlt _ q; rw [hC] at q'; exact Nat.lt_irrefl _ (Nat.lt_of_succ_lt q')
   ·exact (wall b q).2.1 o
  ·rcases List.mem_append.mp m with m | m
   ·exact (wall b q).2.2 m
   ·rw [List.mem_singleton.mp m] at q; exact Nat.lt_irrefl _ (wlt _ q)
  ·have oc:Own (c.comp scope H2.objs.size x k) H2.objs.size:=⟨k,.d H2.objs.size x,by simp [Cx.comp],rfl⟩
   obtain ⟨m,hm⟩:∃ m,s'.heap.Ns H2.objs.size m:=by
    have:=I'.slots k (.d H2.objs.size x) (by simp [Cx.comp])
    exact this
   have sC:s₁.heap.objs.size ≤ H2.objs.size:=by rw [hC]; exact Nat.le_succ_of_le hz
   have I₅:=I'.leave hk0 hnC (Heap.SameBut.refl _ _)
   have S₅:Stp c st₁.σ μ₁ s₁.heap stF.σ μ' s'.heap:=S'.inner0 trr prr nww (fun k e=>by rw [List.getElem?_append_left (List.getElem?_eq_some_iff.mp e).1]; exact e) fun b q=>(Z3f q).elim (fun e=>.inr (e ▸ sC)) .inl
   have Q₇:Same s s':=Q₁.trans (Q₂.trans (Same.trans (s':={ s₂ with heap:=h₁,toks:=s₂.toks + ([]:List (Str × Value)).length }) ⟨rfl,rfl,rfl⟩ Q'))
   exact hU _ _ μ₁ s₁.heap μ' s' hP S₅ hD' I₅ (S₁.trans S₅) Q₇ (Nat.le_trans S₁.size sC) hnC (I'.sep _ oc) (I'.baseS _ oc) (fun b q=>by
    rw [List.mem_singleton.mp q]
    refine El.x1_1 (Z1F I' oc) fun o ho=>?_
    exact ⟨o,ho,I'.own_data oc ho⟩) ⟨m,hm⟩ sC
 exact codeAny_compStart_list (loop _ rfl) (W'.again 0 _ _ _ st0 (loop _ rfl))
theorem Z3H {m:Bool} {k n:Nat} {c:Cx} {st stE:St} {μ:List Addr} {h:Heap} {D:Addr} {y:V} (hv:Z44 m k n st = .ok y stE) (I:Inv c ⟨st.ρ.set k none,st.σ⟩ μ h) (hD:μ[n]? = some D):Inv c stE μ h∧Stp c st.σ μ h stE.σ μ h∧RepV (Tr stE.σ μ) μ h (.ref D) y∧∃ ys,st.σ[n]? = some (.lst ys) :=
 Z07 hv fun ys hy h=>by
  have hy:=Z12 hy
  cases m with
  | true=>cases h; exact ⟨I,.refl,.ref hD,ys,hy⟩
  | false=>cases h; exact El.x0_3 (I.frozen (n:=n) (xs:=ys) hy) fun I₆ S₆ fr=>⟨I₆,S₆,fr _ (.ref hD),ys,hy⟩
theorem noP {c:Cx} {v:St × List Addr} {t:Sem Value} {m:R (List V)} {σ:List O} {μ:List Addr} {s:Shared} (h:Sim c t m (rSrc c.prog c.w c.A) σ μ s):Sim c t m (fun st μ h v xs=>rSrc c.prog c.w c.A st μ h v xs∧True) σ μ s:=by
 cases m with
 | stuck=>trivial
 | exc x st=>trivial
 | ok b st=>exact wpAny_mono h (fun _ _ q8=>El.x1_4 q8 fun μ' r I S Q=>⟨μ',⟨r,trivial⟩,I,S,Q⟩) fun _ _ e=>e
theorem Zal {m:Bool} {elt:Ex} {k:Nat} {it:It} (he:EOk W elt) (hi:ItOk W it):EOk W (.comp m elt k it):=fun g p c st μ s hk hg I=>Sim.of_eq (eval_ListComp ..) (Sim.ok fun y stE hv=>by
 have h1:=and2 (and2 hk).1
 rw [Z3b] at hv
 refine El.x2_2 (R.bind_inv hv) fun xs st₁ hR hv=>El.x2_2 (R.bind_inv hv) fun _ stF hr hv=>?_
 have hI:=noP (v:=(st,μ)) (hi g _ c st μ s h1.2 hg I)
 rw [hR] at hI
 refine Z3G (Z2a h1.1) hg I hI (Z2l it _ _) (fun c hg st μ s I=>he _ _ c st μ s (and2 hk).2 hg I) hr (use:=none) fun D C μ₁ h₁ μ' s' _ _ hD I' S' Q' sz ow nm bs od hm _=>?_
 refine El.x1_1 hm fun m hm=>El.x0_4 (Z3H hv I' hD) fun I₂ S₂ r _=>?_
 refine ⟨m,hm,fun h'' hs=>?_⟩
 have bt:But [C] s'.heap h'':=fun b o hb e=>(hs.2 b (fun q=>hb (by simp [q]))).trans e
 have one:∀ {P:Addr→Prop},P C→∀ b ∈ [C],P b:=fun p b q=>by rw [List.mem_singleton.mp q]; exact p
 exact ⟨μ',r.but bt od,I₂.but bt (Nat.le_of_eq hs.1.symm) od (one ow) (one nm) (one bs),(S'.trans S₂).but (one sz) bt (Nat.le_of_eq hs.1.symm),Q'⟩)
theorem Zam {m:Bool} {elt:Ex} {i k:Nat} {it:It} (he:EOk W elt) (hi:ItOk W it) (g:Gm) (p:Stmt) (c:Cx) (st:St) (μ:List Addr) (s:Shared) (hk:okS g (.asg i (.comp m elt k it)) p = true)
  (hs:swapsWith (pE (.comp m elt k it) (skid p 0)) (some (.Name (nmOf (skid p 1)) (skid p 1).pos)) p.pos.line c.env = pure true) (hg:Good W c g) (I:Inv c st μ s.heap) :
  Sim c (exec (pS (.asg i (.comp m elt k it)) p) c.env) (evS W.F K (.asg i (.comp m elt k it)) st) rFl st.σ μ s:=Sim.of_eq (exec_Assign_Name_used _ _ _ _ hs) (Sim.ok fun fl stF h=>by
 refine El.x2_2 (R.bind_inv h) fun y stE hv h=>?_
 cases h
 have h1:=and2 (and2 (and2 hk).2).1
 rw [Z3b] at hv
 refine El.x2_2 (R.bind_inv hv) fun xs st₁ hR hv=>El.x2_2 (R.bind_inv hv) fun _ stF hr hv=>?_
 have hI:=noP (v:=(st,μ)) (hi g _ c st μ s h1.2 hg I)
 rw [hR] at hI
 refine wpAny_bind (wpAny_standAt (wpAny_bind ?_))
 show wpAny _ c.A (do let _ ← comprehension (pE (.comp m elt k it) (skid p 0)) (scOf (skid p 0)) c.env _ (newList []) false (eval (pI it (kid (skid p 0) 2)) c.env) (some (assign (.Name (nmOf (skid p 1)) (skid p 1).pos) c.env))) _ _ s
 refine wpAny_bind (wpAny_mono (Z3G (Z2a h1.1) hg I hI (Z2l it _ _) (fun c hg st μ s I=>he _ _ c st μ s (and2 (and2 hk).2).2 hg I) hr
  (use:=some (assign (.Name (nmOf (skid p 1)) (skid p 1).pos) c.env)) (Q:=fun _ s'=>∃ μ',rFl (setV stE i y) μ' s'.heap .next .next∧Inv c (setV stE i y) μ' s'.heap∧Stp c st.σ μ s.heap (setV stE i y).σ μ' s'.heap∧Same s s')
   fun D C μ₁ h₁ μ' s' _ _ hD I' S' Q' sz ow nm bs od hm _=>?_) (fun _ s' hq=>wpAny_pure (wpAny_pure hq)) fun _ _ e=>e)
 refine El.x1_1 hm fun m hm=>El.x0_4 (Z3H hv I' hD) fun I₃ S₃ r _=>?_
 refine wpAny_assign_Name (wpAny_mono (Z1H hg.nm (and2 (and2 hk).1).2 I₃ r) (fun _ s'' hq=>?_) fun _ _ e=>e)
 refine El.x1_4 hq fun μ₂ _ I₂ S₂ Q₂=>?_
 refine El.x1_2 (od C (by simp)) fun o ho hd=>?_
 have ho₂:=S₂.keep C o ho ow fun t=>nm t.mem
 refine ⟨m,hm.at' fun o' e=>(Option.some.inj (ho.symm.trans e)) ▸ ho₂,fun h'' hs=>?_⟩
 have bt:But [C] s''.heap h'':=fun b o hb e=>(hs.2 b (fun q=>hb (by simp [q]))).trans e
 have one:∀ {P:Addr→Prop},P C→∀ b ∈ [C],P b:=fun p b q=>by rw [List.mem_singleton.mp q]; exact p
 exact ⟨μ₂,trivial,I₂.but bt (Nat.le_of_eq hs.1.symm) (one ⟨o,ho₂,hd⟩) (one ow) (one fun q=>(S₂.new C q).elim nm fun q=>Nat.lt_irrefl _ (Nat.lt_of_lt_of_le (Heap.lt_size ho) q)) (one bs),((S'.trans S₃).trans S₂).but (one sz) bt (Nat.le_of_eq hs.1.symm),Q'.trans Q₂⟩)
end
theorem Inv.butP {c:Cx} {wr:List Addr} {st:St} {μ:List Addr} {h h':Heap} {TO:Addr} {m:Nat} (I:Inv c st μ h) (hm:st.σ[m]? = some .priv) (ha:μ[m]? = some TO) (k:But (TO :: wr) h h')
  (hsz:h.objs.size ≤ h'.objs.size) (od:Odd wr h) (own:∀ b ∈ wr,¬ Own c b) (mem:∀ b ∈ wr,b ∉ μ) (bs:∀ b ∈ wr,c.base.get? b = none):Inv c st μ h':=by
 have tT:Tr st.σ μ TO:=⟨m,_,hm,rfl,ha⟩
 have mT:TO ∈ μ:=List.mem_of_getElem? ha
 have nseq:∀ a o,h.get? a = some o→Z4y o→¬ Tr st.σ μ a→a ∉ TO :: wr:=fun a o e hd hT q=>by
  rcases List.mem_cons.mp q with rfl | q
  ·exact hT tT
  ·refine El.x1_2 (od a q) fun o' e' hd'=>?_
   try clear o'; try clear tT
   obtain rfl:=Option.some.inj (e.symm.trans e')
   exact hd' hd
 have mv:∀ {v:Value} {x:V},RepV (Tr st.σ μ) μ h v x→RepV (Tr st.σ μ) μ h' v x:=fun r=>r.move (fun a o e hd hT=>⟨k a o (nseq a o e hd hT) e,hT⟩) fun _ _ q=>q
 have mvs:∀ {v:List Value} {x:List V},RepVs (Tr st.σ μ) μ h v x→RepVs (Tr st.σ μ) μ h' v x:=fun r=>r.move (fun a o e hd hT=>⟨k a o (nseq a o e hd hT) e,hT⟩) fun _ _ q=>q
 have own':∀ b ∈ TO :: wr,¬ Own c b:=fun b q o=>by
  try clear hd'; try clear e'; try clear nseq
  rcases List.mem_cons.mp q with rfl | q
  ·exact I.sep _ o mT
  ·exact own b q o
 have bs':∀ b ∈ TO :: wr,c.base.get? b = none:=fun b q=>by
  try clear own
  rcases List.mem_cons.mp q with rfl | q
  ·exact I.baseM _ mT
  ·exact bs b q
 refine ⟨fun i x q=>?_,fun i s q=>(I.slots i s q).keeps fun o e=>k _ o (fun m=>own' _ m ⟨i,s,q,rfl⟩) e,fun n o q=>?_,I.len,I.nd,fun a q=>Nat.lt_of_lt_of_le (I.lt a q) hsz,
  fun b o q=>k b o (fun m=>by rw [bs' b m] at q; cases q) (I.base b o q),I.baseS,I.baseM,I.sep⟩
 ·refine El.x2_3 (I.vars i x q) fun s v g1 g2 g3=>?_
  exact ⟨s,v,g1,g2.keeps fun o e=>k _ o (fun m=>own' _ m ⟨i,s,g1,rfl⟩) e,mv g3⟩
 ·refine El.x1_2 (I.objs n o q) fun a hna r=>?_
  refine ⟨a,hna,?_⟩
  try clear g3; try clear g2; try clear g1; try clear v; try clear s; try clear o; try clear x; try clear i; try clear bs; try clear mv; try clear mT
  cases r with
  | dead=>exact .dead
  | priv=>exact .priv
  | live ho L r=>
   refine .live (k a _ (fun q'=>?_) ho) L (mvs r)
   try clear r; try clear mvs
   rcases List.mem_cons.mp q' with rfl | q'
   ·have:n = m:=(List.getElem?_inj (List.getElem?_eq_some_iff.mp hna).1 I.nd).mp (hna.trans ha.symm)
    try clear n
    subst this
    rw [hm] at q; cases q; cases L
   ·exact mem a q' (List.mem_of_getElem? hna)
structure ItrT (prog:Program) (w:World) (A:Around) (it TO:Addr) (fp wr nw:List Addr) (xs:List V) (σ₀:List O) (μ₀:List Addr) (h₀:Heap) (Sp:Nat→Heap→Prop):Prop where
 frame:∀ i h h',Sp i h→(∀ b ∈ fp,∀ o,h.get? b = some o→h'.get? b = some o)→Sp i h'
 odd:∀ i h,Sp i h→Odd wr h
 there:∀ i h,Sp i h→∀ b ∈ wr++nw,∃ o,h.get? b = some o
 new:∀ b ∈ TO :: (wr++nw),h₀.objs.size ≤ b
 fpo:∀ b ∈ fp,b = TO ∨ b ∈ wr++nw ∨ (∃ o vs n,h₀.get? b = some o∧o.data = .seq vs n∧¬ Tr σ₀ μ₀ b) ∨ ∃ k:Nat,σ₀[k]? = some O.priv∧μ₀[k]? = some b
 item:∀ elts k pos i x (s:Shared) (σ:List O) (μ:List Addr) (Q:Value→Shared→Prop),xs[i]? = some x→Sp i s.heap→Kp σ₀ μ₀ h₀ σ μ s.heap→(∀ a ∈ μ,a < s.heap.objs.size) →
  (∀ v h' tk,But (TO :: wr) s.heap h'→s.heap.objs.size ≤ h'.objs.size→Sp (i + 1) h'→RepV (Tr σ μ) μ h' v x→Q v { s with heap:=h',toks:=tk }) →
  wpAny (model prog w) A (pyNext (.ref it)) (fun r s₁=>match r with
   | none=>False
   | some v=>wpAny (model prog w) A (letOwnedTupleGo (.Tuple elts k pos) (.ref it) v) (fun _ s₂=>Q v s₂) (fun _ _=>False) s₁) (fun _ _=>False) s
 done:∀ (s:Shared) (Q:Option Value→Shared→Prop),Sp xs.length s.heap →
  (∀ h' tk,But (TO :: wr) s.heap h'→s.heap.objs.size ≤ h'.objs.size→Q none { s with heap:=h',toks:=tk })→wpAny (model prog w) A (pyNext (.ref it)) Q (fun _ _=>False) s
 again:∀ i (s:Shared) (Q:Value→Shared→Prop) (E:Value→Shared→Prop),Sp i s.heap→Q (.ref it) s→wpAny (model prog w) A (pyIter (.ref it)) Q E s
section
variable {c:Cx} {it TO:Addr} {fp wr nw:List Addr} {xs:List V} {σ₀:List O} {μ₀:List Addr} {h₀:Heap} {Sp:Nat→Heap→Prop}
theorem ItrT.keep (W:ItrT c.prog c.w c.A it TO fp wr nw xs σ₀ μ₀ h₀ Sp) {i m:Nat} {st:St} {σ':List O} {μ μ':List Addr} {h h':Heap} (own:∀ b ∈ wr++nw,¬ Own c b) (mem:∀ b ∈ wr++nw,b ∉ μ) (I:Inv c st μ h)
  (hm:st.σ[m]? = some .priv) (ha:μ[m]? = some TO)
  (K:Kp σ₀ μ₀ h₀ st.σ μ h) (S':Stp c st.σ μ h σ' μ' h') (sp:Sp i h):Sp i h'∧∀ b ∈ wr++nw,b ∉ μ':=by
 refine ⟨W.frame i h h' sp fun b q o e=>?_,fun b q m=>(S'.new b m).elim (mem b q) fun k=>?_⟩
 ·rcases W.fpo b q with rfl | q | ⟨o',vs,n,q1,q2,q3⟩ | ⟨k,q1,q2⟩
  rotate_left 3
  ·exact S'.pk k b o (K.pv k q1) (K.pre k b q2) e
  ·exact S'.pk m _ o hm ha e
  ·exact S'.keep b o e (own b q) fun t=>mem b q t.mem
  ·have e':=K.keep b o' q1 ⟨vs,n,q2⟩ q3
   obtain rfl:=Option.some.inj (e.symm.trans e')
   exact S'.keep b o e (fun q=>I.own_data q e ⟨vs,n,q2⟩) fun t=>(K.tr b t).elim q3 fun k=>Nat.lt_irrefl _ (Nat.lt_of_lt_of_le (Heap.lt_size q1) k)
 ·refine El.x1_1 (W.there i h sp b q) fun o e=>?_
  exact Nat.lt_irrefl _ (Nat.lt_of_lt_of_le (Heap.lt_size e) k)
end
section
variable {c:Cx} {it TO:Addr} {fp wr nw:List Addr} {xs:List V} {σ₀:List O} {μ₀:List Addr} {h₀:Heap} {Sp:Nat→Heap→Prop}
theorem Z5t {elts:List Expr} {kk:Nat} {tp:Pos} {body:List Stmt} {as:V→St→R Unit} {bd:St→R Fl} {s₁:Shared} {st₁:St} {μ₁:List Addr} {m:Nat} (W:ItrT c.prog c.w c.A it TO fp wr nw xs σ₀ μ₀ h₀ Sp) (start:Sp 0 s₁.heap)
  (hA:∀ x v st μ (s:Shared),RepV (Tr st.σ μ) μ s.heap v x→Inv c st μ s.heap→Sim c (assign (.Tuple elts kk tp) c.env v) (as x st) rU st.σ μ s)
  (hB:∀ st μ (s:Shared),Inv c st μ s.heap→Sim c (execs body c.env) (bd st) rFl st.σ μ s)
  (I₁:Inv c st₁ μ₁ s₁.heap) (hm:st₁.σ[m]? = some .priv) (ha:μ₁[m]? = some TO) (K₁:Kp σ₀ μ₀ h₀ st₁.σ μ₁ s₁.heap) (mem₁:∀ b ∈ wr++nw,b ∉ μ₁) (own:∀ b ∈ wr++nw,¬ Own c b) (bs:∀ b ∈ wr,c.base.get? b = none)
  {σ':List O} {μ':List Addr} {h':Heap} (S₁:Stp c σ' μ' h' st₁.σ μ₁ s₁.heap) (nw':∀ b ∈ TO :: wr,h'.objs.size ≤ b)
  {fl:Fl} {stF:St} (hr:forR (fun x st=>(as x st).bind fun _ st=>bd st) xs st₁ = .ok fl stF) :
  codeAny (model c.prog c.w) c.A (.forLoop (.Tuple elts kk tp) (.ref it) body [] c.env) (fun r s'=>match r with
   | .ok f=>∃ μF,rFl stF μF s'.heap f fl∧Inv c stF μF s'.heap∧Stp c σ' μ' h' stF.σ μF s'.heap∧Same s₁ s'
   | .error _=>False) s₁:=by
 have memw:∀ {μ:List Addr},(∀ b ∈ wr++nw,b ∉ μ)→∀ b ∈ wr,b ∉ μ:=fun h b q=>h b (List.mem_append_left _ q)
 have ownw:∀ b ∈ wr,¬ Own c b:=fun b q=>own b (List.mem_append_left _ q)
 have wn:∀ b ∈ TO :: wr,h₀.objs.size ≤ b:=fun b q=>W.new b (by
  rcases List.mem_cons.mp q with rfl | q
  ·simp
  ·simp [q])
 refine Z3B (as:=as) (bd:=bd) (fl:=fl) (stF:=stF)
  (P:=fun i st μ s=>Sp i s.heap∧Inv c st μ s.heap∧(∀ b ∈ wr++nw,b ∉ μ)∧(st.σ[m]? = some .priv∧μ[m]? = some TO)∧Kp σ₀ μ₀ h₀ st.σ μ s.heap∧Stp c σ' μ' h' st.σ μ s.heap∧Same s₁ s) (D:=fun st μ s=>Inv c st μ s.heap∧Stp c σ' μ' h' st.σ μ s.heap∧Same s₁ s)
  (fun i st μ s h=>h.2.1) (fun i st μ s h=>⟨h.2.1,h.2.2.2.2.2⟩) (fun i st μ s st' μ'' s' h I' S' Q'=>?_) (fun i x st μ s Q hx h hQ=>?_) (fun st μ s Q h hQ=>?_) hA hB (fun μ s f h rf=>⟨μ,rf,h⟩)
  (st₁:=st₁) (μ₁:=μ₁) ⟨start,I₁,mem₁,⟨hm,ha⟩,K₁,S₁,.refl⟩ hr
 ·refine El.x0_2 (W.keep own h.2.2.1 h.2.1 h.2.2.2.1.1 h.2.2.2.1.2 h.2.2.2.2.1 S' h.1) fun hst₂ mem₂=>?_
  exact ⟨hst₂,I',mem₂,⟨S'.pv m h.2.2.2.1.1,S'.pre m _ h.2.2.2.1.2⟩,h.2.2.2.2.1.trans (S'.kp h.2.1),h.2.2.2.2.2.1.trans S',h.2.2.2.2.2.2.trans Q'⟩
 ·exact W.item elts kk tp i x s st.σ μ _ hx h.1 h.2.2.2.2.1 h.2.1.lt fun v h'' tk hk hsz hst' rv=>
   hQ v _ rv ⟨hst',h.2.1.butP h.2.2.2.1.1 h.2.2.2.1.2 hk hsz (W.odd i _ h.1) ownw (memw h.2.2.1) bs,h.2.2.1,h.2.2.2.1,h.2.2.2.2.1.but wn hk hsz,h.2.2.2.2.2.1.but nw' hk hsz,h.2.2.2.2.2.2⟩
 ·exact W.done s _ h.1 fun h'' tk hk hsz=>hQ _ ⟨h.2.1.butP h.2.2.2.1.1 h.2.2.2.1.2 hk hsz (W.odd _ _ h.1) ownw (memw h.2.2.1) bs,h.2.2.2.2.2.1.but nw' hk hsz,h.2.2.2.2.2.2⟩
end
theorem Z4o:∀ {is:List Nat} {xs:List V} {st st':St},Z59 st is xs = some st'→is.length = xs.length
 | [],[],_,_,_=>rfl
 | [],_ :: _,_,_,h=>by cases h
 | _ :: _,[],_,_,h=>by cases h
 | _ :: _,_ :: _,_,_,h=>congrArg (· + 1) (Z4o (is:=_) h)
theorem Z4L {env:Env}:∀ (is:List Nat) (ps:List Expr),(assignEach (pT is ps) env).length = is.length∧(assignEach (pT is ps) env).findIdx? (·.1) = none
 | [],_=>⟨rfl,rfl⟩
 | _ :: is,ps=>⟨congrArg (· + 1) (Z4L is ps.tail).1,(List.findIdx?_cons ..).trans (congrArg (Option.map (· + 1)) (Z4L is ps.tail).2)⟩
section
variable {W:Wo} {K:Nat}
theorem Z3I {c:Cx} {g:Gm} (hg:Good W c g):∀ (is:List Nat) (ps:List Expr) (vs:List Value) (ys:List V) (st st':St) (μ:List Addr) (s:Shared),okT' g is ps = true→RepVs (Tr st.σ μ) μ s.heap vs ys→Inv c st μ s.heap →
  Z59 st is ys = some st'→wpAny (model c.prog c.w) c.A (assignInOrder ((assignEach (pT is ps) c.env).map (·.2)) vs) (fun _ s'=>∃ μ',Inv c st' μ' s'.heap∧Stp c st.σ μ s.heap st'.σ μ' s'.heap∧Same s s') (fun _ _=>False) s
 | [],ps,vs,[],st,st',μ,s,_,r,I,h=>by
  cases h
  have e:vs = []:=r.out
  subst e
  exact wpAny_pure ⟨μ,I,.refl,.refl⟩
 | [],_,_,_ :: _,_,_,_,_,_,_,_,h=>by cases h
 | _ :: _,_,_,[],_,_,_,_,_,_,_,h=>by cases h
 | i :: is,ps,vs,y :: ys,st,st',μ,s,hk,r,I,h=>by
  refine El.x2_3 r.consI fun v vs e9 r0 rr=>?_
  subst e9
  refine wpAny_bind (wpAny_holding (wpAny_mono (Sim.imp (fun Q h=>wpAny_assign_Name h) (Z1H hg.nm (and2 hk).1 I r0)) (fun _ s₁ q8=>El.x1_4 q8 fun μ₁ _ I₁ S₁ Q₁=>?_) fun _ _ e=>e))
  exact wpAny_mono (Z3I hg is ps.tail vs ys (setV st i y) st' μ₁ s₁ (and2 hk).2 (rr.step (st':=setV st i y) I S₁) I₁ h) (fun _ s₂ q8=>El.x1_3 q8 fun μ₂ I₂ S₂ Q₂=>⟨μ₂,I₂,S₁.trans S₂,Q₁.trans Q₂⟩) fun _ _ e=>e
theorem Z3J {c:Cx} {g:Gm} (hg:Good W c g) {is:List Nat} {ps:List Expr} {kk:Nat} {tp:Pos} (hk:okT' g is ps = true) {st:St} {μ:List Addr} {s:Shared} {v:Value} {x:V} (r:RepV (Tr st.σ μ) μ s.heap v x) (I:Inv c st μ s.heap) :
  Sim c (assign (.Tuple (pT is ps) kk tp) c.env v) (asT is x st) rU st.σ μ s:=Sim.of_eq (arm_assign_Tuple ..) (Sim.ok fun _ st' h=>by
 refine El.x1_2 (ZbW h) fun xs e hs=>?_
 subst e
 refine El.x2_4 r.tup_inv fun a vs e ht hz rr=>?_
 subst e
 have hn:(assignEach (pT is ps) c.env).length = vs.size:=by rw [(Z4L is ps).1,Z4o hs,← rr.length,Array.length_toList]
 refine wpAny_bind (wpAny_standAt ?_)
 unfold unpack
 rw [hn,(Z4L is ps).2]
 refine wpAny_bind (wpAny_holding (Z03 (wpAny_unpackItems_tuple hg.hh ht fun h' he hsz=>?_)))
 have X:Ext s.heap h':=⟨hsz,fun b o e=>he b o (Nat.ne_of_lt (Heap.lt_size e)) e⟩
 exact wpAny_mono (Z3I hg is ps vs.toList xs st st' μ { s with heap:=h' } hk (rr.ext X) (I.ext X) hs) (fun _ s' q8=>El.x1_3 q8 fun μ' I' S' Q'=>⟨μ',trivial,I',(Stp.ext X).trans S',Q'⟩) fun _ _ e=>e)
theorem Ze2 {v:Expr}:(v.ctorIdx == 16 || v.ctorIdx == 23 || v.ctorIdx == 21) = true→∀ (ts:List Expr) (k:Nat) (tp:Pos) (l:Nat) (env:Env),swapsWithSole [.Tuple ts k tp] v l env = pure false∧swappedStores [.Tuple ts k tp] v env = pure none:=by
 cases v <;> first | exact fun _ _ _ _ _ _=>⟨rfl,rfl⟩ | exact fun h=>absurd h Bool.false_ne_true
theorem Zan {is:List Nat} {e:Ex} (he:EOk W e):SOk W K (.asgT is e):=fun g p c st μ s hk hg I=>Sim.ok fun fl stF h=>by
 refine El.x2_2 (R.bind_inv h) fun x st₁ hE h=>?_
 refine El.x2_2 (R.bind_inv h) fun _ st₂ hA h=>?_
 cases h
 have h1:=he g _ c st μ s (and2 hk).2 hg I
 rw [hE] at h1
 have q:=Ze2 (and2 (and2 hk).1).2 (pT is (kids (skid p 1))) (kOf (skid p 1)) (skid p 1).pos p.pos.line c.env
 refine Assign_Tuple (wpAny_mono h1 (fun a s₁ q8=>El.x1_4 q8 fun μ₁ rx I₁ S₁ Q₁=>?_) fun _ _ e=>e) q.1 q.2
 have ha:=Z3J hg (and2 (and2 hk).1).1 (kk:=kOf (skid p 1)) (tp:=(skid p 1).pos) rx I₁
 rw [hA] at ha
 exact wpAny_mono ha (fun _ s₂ q8=>El.x1_4 q8 fun μ₂ _ I₂ S₂ Q₂=>⟨μ₂,trivial,I₂,S₁.trans S₂,Q₁.trans Q₂⟩) fun _ _ e=>e
end
theorem Inv.trackP {c:Cx} {st:St} {μ:List Addr} {h h':Heap} {TO:Addr} (I:Inv c st μ h) (X:Ext h h') (h1:h.objs.size ≤ TO) (h2:TO < h'.objs.size) :
  Inv c ⟨st.ρ,st.σ++[.priv]⟩ (μ++[TO]) h'∧Stp c st.σ μ h (st.σ++[.priv]) (μ++[TO]) h':=by
 have hnm:TO ∉ μ:=fun q=>Nat.lt_irrefl _ (Nat.lt_of_lt_of_le (I.lt _ q) h1)
 have tr:∀ b,Tr (st.σ++[.priv]) (μ++[TO]) b→Tr st.σ μ b ∨ h.objs.size ≤ b:=by
  intro b q0z
  refine El.x2_3 q0z fun k o' e1 e2 e3=>?_
  by_cases hk:k < st.σ.length
  ·rw [List.getElem?_append_left hk] at e1
   rw [List.getElem?_append_left (by rw [I.len]; exact hk)] at e3
   exact .inl ⟨k,o',e1,e2,e3⟩
  ·rw [List.getElem?_append_right (by rw [I.len]; lia)] at e3
   have hlt:k < (st.σ++[O.priv]).length:=(List.getElem?_eq_some_iff.mp e1).1
   simp only [List.length_append,List.length_singleton] at hlt
   have:k - μ.length = 0:=by rw [I.len]; lia
   rw [this] at e3
   have e4:TO = b:=by simpa using e3
   exact .inr (e4 ▸ h1)
 have S:Stp c st.σ μ h (st.σ++[.priv]) (μ++[TO]) h' :=
  ⟨X.1,fun b o' e _ _=>X.2 b o' e,fun k a e=>by rw [List.getElem?_append_left (List.getElem?_eq_some_iff.mp e).1]; exact e,
   tr,fun a q=>(List.mem_append.mp q).imp id fun e=>by rw [List.mem_singleton.mp e]; exact h1,fun k e=>by rw [List.getElem?_append_left (List.getElem?_eq_some_iff.mp e).1]; exact e,fun _ a o' _ _ q=>X.2 a o' q⟩
 have I':=I.ext X
 have nog:∀ o,h.get? TO ≠ some o:=fun o e=>Nat.lt_irrefl _ (Nat.lt_of_lt_of_le (Heap.lt_size e) h1)
 refine ⟨⟨fun i x q=>?_,I'.slots,fun k o' q=>?_,by simp [I.len],?_,fun a q=>?_,I'.base,I.baseS,fun a q=>?_,fun b q m=>?_⟩,S⟩
 ·refine El.x2_3 (I.vars i x q) fun sl v g1 g2 g3=>?_
  exact ⟨sl,v,g1,g2.keeps fun o' e=>X.2 _ o' e,g3.step (st':=⟨st.ρ,st.σ++[.priv]⟩) I S⟩
 ·dsimp only at q ⊢
  by_cases hk:k < st.σ.length
  ·rw [List.getElem?_append_left hk] at q
   refine El.x1_2 (I.objs k o' q) fun a ha r=>?_
   refine ⟨a,by rw [List.getElem?_append_left (by rw [I.len]; exact hk)]; exact ha,?_⟩
   exact r.map (fun _ ho=>(X.2 _ _ ho)) fun _ _ r=>(RepVs.step (st':=⟨st.ρ,st.σ++[.priv]⟩) I S r)
  ·have hlt:k < (st.σ++[O.priv]).length:=(List.getElem?_eq_some_iff.mp q).1
   simp only [List.length_append,List.length_singleton] at hlt
   have e0:k = st.σ.length:=by lia
   try clear r; try clear g3; try clear g2; try clear g1; try clear v; try clear sl; try clear x; try clear i; try clear S; try clear hlt; try clear e3; try clear e2
   subst e0
   have e4:O.priv = o':=by simpa using q
   try clear e0; try clear e1; try clear o'; try clear k; try clear q0z; try clear tr
   subst e4
   exact ⟨TO,by rw [← I.len]; simp,.priv⟩
 ·refine List.nodup_append.mpr ⟨I.nd,by simp,?_⟩
  intro a ha b hb
  rw [List.mem_singleton.mp hb]
  exact fun e=>hnm (e ▸ ha)
 ·rcases List.mem_append.mp q with q | q
  ·exact Nat.lt_of_lt_of_le (I.lt a q) X.1
  ·rw [List.mem_singleton.mp q]; exact h2
 ·rcases List.mem_append.mp q with q | q
  ·exact I.baseM a q
  ·rw [List.mem_singleton.mp q]
   cases hb:c.base.get? TO with
   | none=>rfl
   | some o=>exact absurd (I.base _ _ hb) (nog o)
 ·rcases List.mem_append.mp m with m | m
  ·exact I.sep b q m
  ·refine El.x1_1 (Z1F I q) fun o ho=>?_
   rw [List.mem_singleton.mp m] at ho
   exact nog o ho
noncomputable def rZ (c:Cx) (z₀:Nat) (st:St) (μ:List Addr) (h:Heap) (v:Value) (xs:List V):Prop :=
 ∃ it TO fp wr nw σ₀ μ₀ h₀ Sp,v = .ref it∧ItrT c.prog c.w c.A it TO fp wr nw xs σ₀ μ₀ h₀ Sp∧Sp 0 h∧Kp σ₀ μ₀ h₀ st.σ μ h∧(∀ b ∈ wr++nw,b ∉ μ∧¬ Own c b∧c.base.get? b = none) ∧
  (∃ m:Nat,st.σ[m]? = some .priv∧μ[m]? = some TO)∧(∀ b ∈ wr,h₀.objs.size ≤ b)∧h₀.objs.size ≤ TO∧z₀ ≤ h₀.objs.size
theorem ItrT.of_walks {prog:Program} {w:World} {A:Around} {it TO:Addr} {fp wr wrW nw:List Addr} {xs:List V} {σ₀:List O} {μ₀:List Addr} {h₀:Heap} {Sp:Nat→Heap→Prop} {Pt:Nat→Array Value→Prop} {Mid:Nat→Addr→Heap→Prop}
  (W:WalksT prog w A it fp wrW xs.length Pt Sp Mid) (hwr:∀ b,b ∉ TO :: wr→b ∉ wrW) (odd:∀ i h,Sp i h→Odd wr h) (there:∀ i h,Sp i h→∀ b ∈ wr++nw,∃ o,h.get? b = some o) (new:∀ b ∈ TO :: (wr++nw),h₀.objs.size ≤ b)
  (fpo:∀ b ∈ fp,b = TO ∨ b ∈ wr++nw ∨ (∃ o vs n,h₀.get? b = some o∧o.data = .seq vs n∧¬ Tr σ₀ μ₀ b) ∨ ∃ k:Nat,σ₀[k]? = some O.priv∧μ₀[k]? = some b)
  (hP:∀ i x vals σ (μ:List Addr) (h:Heap),xs[i]? = some x→Pt i vals→Kp σ₀ μ₀ h₀ σ μ h→∃ ys,x = .tup ys∧vals.size ≤ sizeLine∧RepVs (Tr σ μ) μ h vals.toList ys) :
  ItrT prog w A it TO fp wr nw xs σ₀ μ₀ h₀ Sp where
 frame:=W.frame
 odd:=odd
 there:=there
 new:=new
 fpo:=fpo
 item:=by
  intro elts k pos i x s σ μ Q hx hst K lt hQ
  have wn:∀ b ∈ TO :: wr,h₀.objs.size ≤ b:=fun b q=>new b (by
   rcases List.mem_cons.mp q with rfl | q
   ·simp
   ·simp [q])
  refine Z03 (W.item i s _ _ (List.getElem?_eq_some_iff.mp hx).1 hst fun T vals g tk hp hT hIs hMid hk hsz=>?_)
  refine Z03 (W.go elts k pos i T _ _ _ hMid fun g' hst' hk' hsz'=>?_)
  have hk2:But (TO :: wr) s.heap g':=fun b o hb e=>hk' b o (hwr b hb) (hk b o (hwr b hb) e)
  have hsz2:s.heap.objs.size ≤ g'.objs.size:=Nat.le_trans hsz hsz'
  refine El.x1_3 (hP i x vals σ μ g' hx hp (K.but wn hk2 hsz2)) fun ys q1z hz r=>?_
  try clear ys; try clear hsz'; try clear hp; try clear vals; try clear wn; try clear K; try clear hx; try clear μ; try clear σ; try clear x; try clear pos; try clear k
  obtain rfl:=q1z
  obtain ⟨oT,hoT,hcT,nT,hdT⟩:=hIs
  exact hQ (.ref T) g' tk hk2 hsz2 hst' (.tup (hk' T oT (W.apart i T _ hMid) hoT) hcT hdT hz (fun t=>Nat.lt_irrefl _ (Nat.lt_of_lt_of_le (lt T t.mem) hT)) r)
 done:=fun s Q hst hQ=>Z03 (W.done s _ _ hst fun g tk hk hsz=>hQ g tk (fun b o hb e=>hk b o (hwr b hb) e) hsz)
 again:=W.self
theorem Z3K {c:Cx} {st:St} {μ:List Addr} {h:Heap} (I:Inv c st μ h) {b:Addr} (hb:h.objs.size ≤ b):b ∉ μ∧¬ Own c b∧c.base.get? b = none:=by
 refine ⟨fun m=>Nat.lt_irrefl _ (Nat.lt_of_lt_of_le (I.lt b m) hb),fun o=>?_,?_⟩
 ·refine El.x1_1 (Z1F I o) fun ob hob=>?_
  exact Nat.lt_irrefl _ (Nat.lt_of_lt_of_le (Heap.lt_size hob) hb)
 ·cases hb':c.base.get? b with
  | none=>rfl
  | some o=>exact absurd (Nat.lt_of_lt_of_le (Heap.lt_size (I.base b o hb')) hb) (Nat.lt_irrefl _)
theorem Z4M:∀ {xs:List V} {k i:Nat} {p:V},(Z35 k xs)[i]? = some p→∃ x,xs[i]? = some x∧p = .tup [.int (k + i:Nat),x]
 | [],k,i,p,h=>by rw [Z7K] at h; cases h
 | x :: xs,k,0,p,h=>by cases h; exact ⟨x,rfl,rfl⟩
 | x :: xs,k,i + 1,p,h=>by
  refine El.x1_2 (Z4M (xs:=xs) (k:=k + 1) (i:=i) h) fun y h1 h2=>?_
  exact ⟨y,h1,by rw [h2,show k + 1 + i = k + (i + 1) by lia]⟩
theorem Z4N:∀ (xs:List V) (k:Nat),(Z35 k xs).length = xs.length
 | [],_=>rfl
 | _ :: xs,k=>congrArg (· + 1) (Z4N xs (k + 1))
theorem Ze3 (z l:Nat) (h:l < z):z + 1 ≠ z∧l ≠ z + 1∧l ≠ z:=by lia
noncomputable def ESp (z l:Addr) (vs:Array Value) (i:Nat) (h:Heap):Prop:=(∃ old,IsEnum h (z + 1) z i old)∧h.IsListIter z l i∧h.IsList l vs
theorem Z8w {T:Addr→Prop} {μ:List Addr} {h:Heap} {vs:Array Value} {xs:List V} (r:RepVs T μ h vs.toList xs) {i:Nat} {x:V} {p:Value} (t:Tok) (hx:(Z35 0 xs)[i]? = some x) (hp:vs[i]? = some p):∃ zs,x = .tup zs∧RepVs T μ h [.int (i:Int) t,p] zs:=by
 refine El.x1_2 (Z4M hx) fun x' hx' e=>El.x1_2 (r.get hx') fun u1 hu1 ru1=>⟨_,e,?_⟩
 obtain rfl:=Option.some.inj (hp.symm.trans ((Array.getElem?_toList).symm.trans hu1))
 rw [Nat.zero_add]
 exact .cons (.int _ _) (.cons ru1 .nil)
theorem Zao {prog:Program} {w:World} {A:Around} {σ:List O} {μ:List Addr} {h:Heap} {l:Addr} {vs:Array Value} {xs:List V} (hh:A.handled = none) (b1:(l:Nat) < h.objs.size) (h2:∃ o vs n,h.get? l = some o∧o.data = .seq vs n∧¬ Tr σ μ l) (r:RepVs (Tr σ μ) μ h vs.toList xs) :
  ItrT prog w A (h.objs.size + 1) (h.objs.size + 1) [h.objs.size + 1,h.objs.size,l] [h.objs.size] [] (Z35 0 xs) σ μ h (ESp h.objs.size l vs):=by
 have e1:vs.size = (Z35 0 xs).length:=by rw [Z4N,← r.length,Array.length_toList]
 refine El.x0_3 (Ze3 _ _ b1) fun n1 n2 n3=>?_
 have W:=WalksT.enumerate (prog:=prog) (w:=w) (A:=A) hh (h.objs.size + 1) h.objs.size l n1 n2 n3 vs
 rw [e1] at W
 refine ItrT.of_walks (TO:=h.objs.size + 1) W (fun b hb=>hb) (fun i h q b hb=>?_) (fun i h q b hb=>?_) (fun b hb=>(List.mem_cons.mp hb).elim (fun e=>e ▸ Nat.le_add_right _ _) fun e=>Nat.le_of_eq (List.mem_singleton.mp e).symm)
  (fun b q=>(List.mem_cons.mp q).imp id fun q=>(List.mem_cons.mp q).elim (fun e:b = h.objs.size=>.inl (by rw [e]; exact List.mem_cons_self ..)) fun e=>.inr (.inl (by rw [List.mem_singleton.mp e]; exact h2)))
  fun i x vals σ' μ' h' hx hv K=>El.x2_2 hv fun t p hp e=>El.x1_2 (Z8w r t hx hp) fun zs e' r=>⟨zs,e',by rw [e]; exact (by decide:2 ≤ sizeLine),by rw [e]; exact r.kp K⟩
 ·rw [List.mem_singleton.mp hb]; exact El.x1_3 q.2.1 fun o e _ d=>⟨o,e,Z1I d⟩
 ·rw [List.mem_singleton.mp hb]; exact El.x1_2 q.2.1 fun o e _=>⟨o,e⟩
theorem Z8x {c:Cx} {z₀:Nat} {st:St} {μ:List Addr} {s:Shared} {v:Value} {xs:List V} (hh:c.A.handled = none) (I:Inv c st μ s.heap) (hz₀:z₀ ≤ s.heap.objs.size) (rx:RepV (Tr st.σ μ) μ s.heap v (.lst xs)) :
  wpAny (model c.prog c.w) c.A (call (.type "enumerate") [v]) (fun w s'=>∃ μ',rZ c z₀ ⟨st.ρ,st.σ++[.priv]⟩ μ' s'.heap w (Z35 0 xs)∧Inv c ⟨st.ρ,st.σ++[.priv]⟩ μ' s'.heap∧Stp c st.σ μ s.heap (st.σ++[.priv]) μ' s'.heap∧Same s s') (fun _ _=>False) s:=by
 refine El.x4_7 rx.lstI fun l o vs n e9 ho hc hd hz hT r=>?_
 rw [e9]
 have hl:s.heap.IsList l vs:=⟨o,ho,hc,n,hd⟩
 refine call_enumerate_list hl fun h' a1 a4 a6 a7=>?_
 refine El.x0_2 (I.trackP (TO:=s.heap.objs.size + 1) ⟨by lia,a7⟩ (Nat.le_add_right _ _) (show s.heap.objs.size + 1 < h'.objs.size by lia)) fun I' S'=>?_
 refine ⟨μ++[s.heap.objs.size + 1],⟨_,_,_,_,_,_,_,_,_,rfl,Zao hh (Heap.lt_size ho) ⟨o,vs,n,ho,hd,hT⟩ r,⟨⟨_,a1⟩,a4,hl.at fun o e=>a7 _ o e⟩,S'.kp I,fun b q=>?_,⟨st.σ.length,List.getElem?_concat_length,by rw [← I.len]; exact List.getElem?_concat_length⟩,fun b q=>Nat.le_of_eq (List.mem_singleton.mp q).symm,Nat.le_add_right _ _,hz₀⟩,I',S',⟨rfl,rfl,rfl⟩⟩
 have hb:b = s.heap.objs.size:=List.mem_singleton.mp (by rwa [List.append_nil] at q)
 have fa:=Z3K I (b:=b) (Nat.le_of_eq hb.symm)
 exact ⟨fun m=>(List.mem_append.mp m).elim fa.1 fun m=>Nat.succ_ne_self _ ((List.mem_singleton.mp m).symm.trans hb),fa.2⟩
section
variable {W:Wo} {K:Nat}
noncomputable def ZOk (W:Wo) (it:It):Prop:=∀ (g:Gm) (p:Expr) (c:Cx) (st:St) (μ:List Addr) (s:Shared),okZ g it p = true→Good W c g→Inv c st μ s.heap→Sim c (eval (pI it p) c.env) (evIt W.F it st) (rZ c s.heap.objs.size) st.σ μ s
theorem Zap {a:Ex} (ha:EOk W a):ZOk W (.enum a):=fun g p c st μ s hk hg I=>by
 have h:=ha g _ c st μ s (and2 hk).2 hg I
 refine Sim.of_eq (arm_eval_Call_Name' ..) (Sim.name hg I (and2 hk).1 (by decide) Z46 (Sim.of_m (Z3e ..) (Sim.via (f:=fun vs=>call (.type "enumerate") vs) (fun Q h=>ZcH (fun y=>Z1G (Z0a a _)) h) (Z3A (pos:=p.pos) (Z0a a _) h) fun y st₂ vs μ₂ s₂ _ hu I₂ S₂=>El.x1_2 hu fun u e ry=>?_)))
 subst e
 cases y <;> try trivial
 exact Z8x hg.hh I₂ S₂.size ry
theorem Zaq {is:List Nat} {it:It} {body:Sms} (hZ:ZOk W it) (hb:SsOk W K body):SOk W K (.forT is it body):=fun g p c st μ s hk hg I=>Sim.ok fun fl stF hr=>by
 refine El.x2_2 (R.bind_inv hr) fun xs st₁ hR hr=>?_
 have hI:=hZ g _ c st μ s (and2 (and2 hk).2).1 hg I
 rw [hR] at hI
 refine wpAny_For (wpAny_mono hI (fun v s₁ q8=>El.x1_4 q8 fun μ₁ rs I₁ S₁ Q₁=>?_) fun _ _ e=>e) (Z2l it _ _)
 refine El.x9_9 rs fun I0 TO fp wr nw σ₀ μ₀ h₀ Sp q7z W' sp Kp₀ hw q8z wn wt hz=>?_
 try clear Sp; try clear h₀; try clear μ₀; try clear σ₀; try clear nw; try clear wr; try clear fp; try clear TO; try clear I0; try clear rs; try clear μ₁; try clear hI
 obtain rfl:=q7z
 refine El.x1_2 q8z fun m hm1 hm2=>?_
 refine W'.again 0 s₁ _ _ sp ?_
 refine codeAny_mono (Z5t (elts:=pT is (kids (skid p 0))) (kk:=kOf (skid p 0)) (tp:=(skid p 0).pos) (body:=pSs body (blk p)) (as:=asT is) (bd:=fun st=>evSs W.F K body st) W' sp (fun y v st μ s r I=>Z3J hg (and2 hk).1 r I)
  (fun st μ s I=>hb g _ c st μ s (and2 (and2 hk).2).2 hg I) I₁ hm1 hm2 Kp₀ (fun b q=>(hw b q).1) (fun b q=>(hw b q).2.1) (fun b q=>(hw b (List.mem_append_left _ q)).2.2) S₁
  (fun b q=>Nat.le_trans hz (by
   try clear hm2; try clear hm1; try clear m; try clear hz; try clear q8z; try clear hw; try clear Kp₀; try clear sp; try clear W; try clear q7z; try clear S₁; try clear I₁
   rcases List.mem_cons.mp q with rfl | q
   ·exact wt
   ·exact wn b q)) (fl:=fl) (stF:=stF) hr) ?_
 rintro r s' hr'
 try clear s'; try clear wt; try clear wn; try clear I; try clear hg; try clear e3; try clear e2; try clear e1; try clear s; try clear μ; try clear st; try clear c
 cases r with
 | ok f=>
  refine El.x1_4 hr' fun μ' g1 g2 g3 g4=>?_
  exact ⟨μ',g1,g2,g3,Q₁.trans g4⟩
 | error e=>exact hr'.elim
end
theorem ZcM {a b:List V} {i:Nat} {p:V} (h:((a.zip b).map fun p=>V.tup [p.1,p.2])[i]? = some p):∃ x y,a[i]? = some x∧b[i]? = some y∧p = .tup [x,y]:=by
 rw [List.getElem?_map] at h
 obtain ⟨⟨x,y⟩,h1,rfl⟩:=Option.map_eq_some_iff.mp h
 obtain ⟨h2,h3⟩:=List.getElem?_zip_eq_some.mp h1
 exact ⟨x,y,h2,h3,rfl⟩
theorem Ze4 (z l1 l2:Nat) (h1:l1 < z) (h2:l2 < z):ZipApart (z + 4) (z + 2) (z + 3) z (z + 1) l1 l2:=by
 constructor <;> (intro e; have e':@Eq Nat _ _:=e; lia)
theorem znot (z b:Nat) (h:b ∉ [z + 3,z + 4,z,z + 1]):b ∉ [z + 4,z + 3,z,z + 1]:=by
 simp only [List.mem_cons,List.not_mem_nil,or_false] at h ⊢; lia
noncomputable def ZSp (z l1 l2:Addr) (vs1 vs2:Array Value) (i:Nat) (h:Heap):Prop :=
 IsZip h (z + 4) (z + 2) (z + 3) .none∧IsPair h (z + 2) (.ref z) (.ref (z + 1))∧(∃ a b,IsPair h (z + 3) a b)∧h.IsListIter z l1 i∧h.IsListIter (z + 1) l2 i∧h.IsList l1 vs1∧h.IsList l2 vs2
theorem zin {z b:Nat} (h:b ∈ [z + 4,z,z + 1]++[z + 2]) {P:Nat→Prop} (h1:P (z + 4)) (h2:P z) (h3:P (z + 1)) (h4:P (z + 2)):P b:=by
 rcases List.mem_cons.mp h with rfl | h
 ·exact h1
 rcases List.mem_cons.mp h with rfl | h
 ·exact h2
 rcases List.mem_cons.mp h with rfl | h
 ·exact h3
 ·exact List.mem_singleton.mp h ▸ h4
theorem zfp {z b l1 l2:Nat} (h:b ∈ [z + 4,z + 2,z + 3,z,z + 1,l1,l2]):b = z + 3 ∨ b ∈ [z + 4,z,z + 1]++[z + 2] ∨ b = l2 ∨ b = l1:=by
 simp only [List.cons_append,List.nil_append,List.mem_cons,List.not_mem_nil,or_false] at h ⊢; lia
theorem ZSp.at {z l1 l2:Addr} {vs1 vs2:Array Value} {i:Nat} {h:Heap} (q:ZSp z l1 l2 vs1 vs2 i h) {b:Addr} (hb:b ∈ [z + 4,z,z + 1]++[z + 2]):∃ o,h.get? b = some o :=
 zin (P:=fun b=>∃ o,h.get? b = some o) hb ⟨_,q.1⟩ (El.x1_2 q.2.2.2.1 fun o e _=>⟨o,e⟩) (El.x1_2 q.2.2.2.2.1 fun o e _=>⟨o,e⟩) ⟨_,q.2.1⟩
theorem ZSp.odd {z l1 l2:Addr} {vs1 vs2:Array Value} {i:Nat} {h:Heap} (q:ZSp z l1 l2 vs1 vs2 i h):Odd [z + 4,z,z + 1] h:=fun b hb=>by
 rcases List.mem_cons.mp hb with rfl | hb
 ·exact ⟨_,q.1,Z1I rfl⟩
 rcases List.mem_cons.mp hb with rfl | hb
 ·exact El.x1_3 q.2.2.2.1 fun o e _ d=>⟨o,e,Z1I d⟩
 ·exact List.mem_singleton.mp hb ▸ El.x1_3 q.2.2.2.2.1 fun o e _ d=>⟨o,e,Z1I d⟩
theorem zge {z b:Nat} (h:b ∈ [z + 4,z,z + 1]++[z + 2]):z ≤ b:=zin (P:=fun b=>z ≤ b) h (Nat.le_add_right _ _) (Nat.le_refl _) (Nat.le_add_right _ _) (Nat.le_add_right _ _)
theorem zne {z b:Nat} (h:b ∈ [z + 4,z,z + 1]++[z + 2]):b ≠ z + 3:=zin (P:=fun b=>b ≠ z + 3) h (by lia) (by lia) (by lia) (by lia)
theorem Zar {T:Addr→Prop} {μ:List Addr} {h:Heap} {vs1 vs2:Array Value} {xs ys:List V} (r1:RepVs T μ h vs1.toList xs) (r2:RepVs T μ h vs2.toList ys) {i:Nat} {x:V} {p q:Value} (hx:((xs.zip ys).map fun p=>V.tup [p.1,p.2])[i]? = some x) (hp:vs1[i]? = some p) (hq:vs2[i]? = some q) :
  ∃ zs,x = .tup zs∧RepVs T μ h [p,q] zs:=by
 refine El.x2_3 (ZcM hx) fun x' y' hx' hy' e=>El.x1_2 (r1.get hx') fun u1 hu1 ru1=>El.x1_2 (r2.get hy') fun u2 hu2 ru2=>⟨_,e,?_⟩
 obtain rfl:=Option.some.inj (hp.symm.trans ((Array.getElem?_toList).symm.trans hu1))
 obtain rfl:=Option.some.inj (hq.symm.trans ((Array.getElem?_toList).symm.trans hu2))
 exact .cons ru1 (.cons ru2 .nil)
theorem ZcN {prog:Program} {w:World} {A:Around} {σ:List O} {μ:List Addr} {h:Heap} {l1 l2:Addr} {vs1 vs2:Array Value} {xs ys:List V} (hh:A.handled = none) (b1:l1 < h.objs.size) (b2:l2 < h.objs.size) (h1:∃ o vs n,h.get? l1 = some o∧o.data = .seq vs n∧¬ Tr σ μ l1) (h2:∃ o vs n,h.get? l2 = some o∧o.data = .seq vs n∧¬ Tr σ μ l2)
  (r1:RepVs (Tr σ μ) μ h vs1.toList xs) (r2:RepVs (Tr σ μ) μ h vs2.toList ys) :
  ItrT prog w A (h.objs.size + 4) (h.objs.size + 3) [h.objs.size + 4,h.objs.size + 2,h.objs.size + 3,h.objs.size,h.objs.size + 1,l1,l2] [h.objs.size + 4,h.objs.size,h.objs.size + 1] [h.objs.size + 2] ((xs.zip ys).map fun p=>.tup [p.1,p.2]) σ μ h (ZSp h.objs.size l1 l2 vs1 vs2):=by
 have hlen:min vs1.size vs2.size = ((xs.zip ys).map fun p=>V.tup [p.1,p.2]).length:=by
  rw [List.length_map,List.length_zip,← r1.length,← r2.length,Array.length_toList,Array.length_toList]
 have W:=WalksT.zip2 (prog:=prog) (w:=w) (A:=A) hh _ _ _ _ _ _ _ (Ze4 _ _ _ b1 b2) vs1 vs2
 rw [hlen] at W
 exact ItrT.of_walks W (fun b hb=>znot _ _ hb) (fun i h q=>ZSp.odd q) (fun i h q b hb=>ZSp.at q hb) (fun b hb=>(List.mem_cons.mp hb).elim (fun e=>e ▸ Nat.le_add_right _ _) zge)
  (fun b q=>(zfp q).imp id (Or.imp id fun q=>.inl (q.elim (fun e:b = l2=>by rw [e]; exact h2) fun e:b = l1=>by rw [e]; exact h1)))
  fun i x vals σ' μ' h' hx hv K=>El.x2_3 hv fun p q hp hq e=>El.x1_2 (Zar r1 r2 hx hp hq) fun zs e' r=>⟨zs,e',by rw [e]; exact (by decide:2 ≤ sizeLine),by rw [e]; exact r.kp K⟩
theorem Zas {c:Cx} {z₀:Nat} {st:St} {μ:List Addr} {s:Shared} {u v:Value} {xs ys:List V} (hh:c.A.handled = none) (I:Inv c st μ s.heap) (hz₀:z₀ ≤ s.heap.objs.size) (rx:RepV (Tr st.σ μ) μ s.heap v (.lst xs)) (ry:RepV (Tr st.σ μ) μ s.heap u (.lst ys)) :
  wpAny (model c.prog c.w) c.A (call (.type "zip") [v,u]) (fun w s'=>∃ μ',rZ c z₀ ⟨st.ρ,st.σ++[.priv]⟩ μ' s'.heap w ((xs.zip ys).map fun p=>.tup [p.1,p.2])∧Inv c ⟨st.ρ,st.σ++[.priv]⟩ μ' s'.heap∧Stp c st.σ μ s.heap (st.σ++[.priv]) μ' s'.heap∧Same s s') (fun _ _=>False) s:=by
 refine El.x4_7 rx.lstI fun l1 o1 vs1 n1 e1 ho1 hc1 hd1 hz1 hT1 r1=>El.x4_7 ry.lstI fun l2 o2 vs2 n2 e ho2 hc2 hd2 hz2 hT2 r2=>?_
 rw [e1,e]
 have hl1:s.heap.IsList l1 vs1:=⟨o1,ho1,hc1,n1,hd1⟩
 have hl2:s.heap.IsList l2 vs2:=⟨o2,ho2,hc2,n2,hd2⟩
 refine call_zip_2 hl1 hl2 fun h' a1 a2 a3 a4 a5 a6 a7=>?_
 refine El.x0_2 (I.trackP (TO:=s.heap.objs.size + 3) ⟨by omega,a7⟩ (Nat.le_add_right _ _) (show s.heap.objs.size + 3 < h'.objs.size by omega)) fun I' S'=>?_
 refine ⟨μ++[s.heap.objs.size + 3],⟨_,_,_,_,_,_,_,_,_,rfl,ZcN hh (Heap.lt_size ho1) (Heap.lt_size ho2) ⟨o1,vs1,n1,ho1,hd1,hT1⟩ ⟨o2,vs2,n2,ho2,hd2,hT2⟩ r1 r2,⟨a1,a2,⟨_,_,a3⟩,a4,a5,hl1.at fun o e=>a7 _ o e,hl2.at fun o e=>a7 _ o e⟩,S'.kp I,fun b q=>?_,⟨st.σ.length,List.getElem?_concat_length,by rw [← I.len]; exact List.getElem?_concat_length⟩,fun b q=>zge (List.mem_append_left _ q),Nat.le_add_right _ _,hz₀⟩,I',S',⟨rfl,rfl,rfl⟩⟩
 have fa:=Z3K I (zge q)
 exact ⟨fun m=>(List.mem_append.mp m).elim fa.1 fun m=>zne q (List.mem_singleton.mp m),fa.2⟩
section
variable {W:Wo} {K:Nat}
theorem ZcO {a b:Ex} (ha:EOk W a) (hb:EOk W b):ZOk W (.zip a b):=fun g p c st μ s hk hg I=>
 Z8n (.inr ⟨_,rfl⟩) Za3 (by decide) hg I (and2 hk).1 ha hb (and2 (and2 hk).2).1 (and2 (and2 hk).2).2 fun x y st₁ u v μ₁ s₁ rx ry I₁ S₁=>Sim.ok fun q st' h=>by
  refine Z07 h fun xs ex h=>Z07 h fun ys ey h=>?_
  rw [ok1 h,ok2 h]
  exact Zas hg.hh I₁ S₁.size (Z1v ex ▸ rx) (Z1v ey ▸ ry)
end
theorem Stp.letgo {c:Cx} {σ σ':List O} {μ μ':List Addr} {h h':Heap} {m:Nat} {ob:O} (hm:σ[m]? = some ob) (hl:ob.live = true) (hnp:ob ≠ .priv) (S:Stp c (σ.set m .priv) μ h σ' μ' h') (hm':σ'[m]? = some .priv):Stp c σ μ h (σ'.set m ob) μ' h':=by
 have t1:Tr (σ.set m .priv) μ = Tr σ μ:=funext fun b=>propext (Z1C hm hl rfl)
 have t2:Tr (σ'.set m ob) μ' = Tr σ' μ':=funext fun b=>propext (Z1C hm' rfl hl)
 have p:∀ k:Nat,σ[k]? = some O.priv→(σ.set m .priv)[k]? = some O.priv:=fun k q=>by
  have:m ≠ k:=by rintro rfl; rw [hm] at q; exact hnp (Option.some.inj q)
  rw [List.getElem?_set_ne this]; exact q
 refine ⟨S.size,fun b o e h1 h2=>S.keep b o e h1 (by rw [t1]; exact h2),S.pre,fun b q=>?_,S.new,fun k q=>?_,fun k a o e1 e2 e3=>S.pk k a o (p k e1) e2 e3⟩
 ·rw [t2] at q; have:=S.tr b q; rwa [t1] at this
 ·have:m ≠ k:=by rintro rfl; rw [hm] at q; exact hnp (Option.some.inj q)
  rw [List.getElem?_set_ne this]; exact S.pv k (p k q)
section
variable {W:Wo} {K:Nat}
theorem RepVs.setAt {T:Addr→Prop} {μ:List Addr} {h:Heap} {vs:List Value} {xs:List V} {u:Value} {v:V} (r:RepVs T μ h vs xs) (ru:RepV T μ h u v) (k:Nat):RepVs T μ h (vs.set k u) (xs.set k v):=by
 refine RepVs.of_get (by rw [List.length_set,List.length_set,r.length]) fun i a b ha hb=>?_
 by_cases hk:k = i
 ·try clear b; try clear a; try clear i
  subst hk
  rw [List.getElem?_set_self'] at ha hb
  cases e1:vs[k]? with
  | none=>rw [e1] at ha; cases ha
  | some _=>
   cases e2:xs[k]? with
   | none=>rw [e2] at hb; cases hb
   | some _=>rw [e1] at ha; rw [e2] at hb; cases ha; cases hb; exact ru
 ·rw [List.getElem?_set_ne hk] at ha hb
  refine El.x1_2 (r.get hb) fun w hw rw'=>?_
  rw [hw] at ha; cases ha; exact rw'
section
variable {prog:Program} {w:World} {A:Around} {E:Value→Shared→Prop} {s:Shared}
theorem Z4O {l:Addr} {items:Array Value} {n j:Nat} {k:Int} {t:Tok} {v:Value} {Q:Unit→Shared→Prop} (ho:s.heap.get? l = some { cls:=.type "list",data:=.seq items n }) (hk:k = (j:Int)) (hj:j < items.size) (hz:items.size ≤ sizeLine)
  (hQ:Q () { s with heap:=s.heap.update l (Obj.mapSeq (·.setIfInBounds j v)) }):wpAny (model prog w) A (setItem (.ref l) (.int k t) v) Q E s:=by
 have hl:s.heap.IsList l items:=⟨_,ho,rfl,n,rfl⟩
 have hfit:k < 2 ^ 63:=by have:=Z0T hz; lia
 unfold setItem
 try with_reducible refine wpAny_holding ?_
 first | refine wpAny_bind (wpAny_pure ?_) | skip
 refine wpAny_bind (wpAny_sequenceKey hl.typeIs (by decide) ?_)
 refine wpAny_bind (wpAny_callSpecial?_slot (name:=Str.ofString "__setitem__") hl.typeIs slot_list_setitem (wpAny_call_entry slot_list_setitem hl.typeIs entry_list_setitem ?_ (args_list_setitem _ _ _)))
 show wpAny _ _ (Builtin.List.listSubscript? (.int k t) >>= _) _ _ s
 refine wpAny_bind (wpAny_listSubscript_int (fitsIndex_of (by lia) hfit) ?_)
 clear hfit
 try clear hfit; try clear hl
 subst hk
 have hx:items[j]? = some items[j]:=Array.getElem?_eq_getElem hj
 show wpAny _ _ ((seqItemAt l j >>= fun r=>pure (r.map (j,·))) >>= _) _ _ s
 refine wpAny_bind (wpAny_bind (wpAny_seqItemAt ho rfl (wpAny_pure ?_)))
 rw [hx]
 show wpAny _ _ (setSeqItemAt l j v >>= _) _ _ s
 refine wpAny_bind (wpAny_setSeqItemAt ho rfl ?_)
 first
  | exact wpAny_bind (wpAny_pure (wpAny_pure ⟨.none,rfl,wpAny_pure hQ⟩))
  | exact wpAny_pure ⟨.none,rfl,wpAny_pure hQ⟩
end
section
variable {c:Cx} {st:St} {μ:List Addr} {s:Shared} {u w:Value} {v:V} {m:Nat} {tk:Tok}
theorem Zat {k:Nat} {xs:List V} (I:Inv c st μ s.heap) (rx:RepV (Tr st.σ μ) μ s.heap u (.ref m)) (rv:RepV (Tr st.σ μ) μ s.heap w v) (hσ:st.σ[m]? = some (.lst xs)) (hlt:k < xs.length) :
  wpAny (model c.prog c.w) c.A (setItem u (.int k tk) w) (fun _ s'=>∃ μ',Inv c ⟨st.ρ,st.σ.set m (.lst (xs.set k v))⟩ μ' s'.heap∧Stp c st.σ μ s.heap (st.σ.set m (.lst (xs.set k v))) μ' s'.heap∧Same s s') (fun _ _=>False) s:=by
 refine El.x2_4 (I.ref_inv rx hσ) fun d vs e q hz r=>?_
 subst e
 refine El.x1_1 q fun k' ho=>?_
 have el:=r.length
 rw [Array.length_toList] at el
 have hob:(s.heap.update d (Obj.mapSeq (·.setIfInBounds k w))).get? d = some { cls:=.type "list",data:=.seq (vs.setIfInBounds k w) _ }:=IsL.update ho _
 refine El.x0_2 (I.updL (xs':=xs.set k v) hσ rx.refA (Heap.SameBut.update ..) hob (by rw [Array.size_setIfInBounds]; exact hz) (by rw [Array.toList_setIfInBounds]; exact r.setAt rv k)) fun I' S'=>?_
 exact Z4O ho rfl (by rw [el]; exact hlt) hz ⟨μ,I',S',⟨rfl,rfl,rfl⟩⟩
theorem Z5u {k:Ky} {es:List (Ky × V)} {ku:Value} {d:Addr} {xs:List (Ky × Value × Value)} {o:Obj} {h':Heap} (I:Inv c st μ s.heap) (hd:μ[m]? = some d) (hσ:st.σ[m]? = some (.kdict es)) (L:KLay o xs es) (r1:RepVs (Tr st.σ μ) μ s.heap (xs.map (·.2.1)) (es.map fun y=>kV y.1)) (r2:RepVs (Tr st.σ μ) μ s.heap (xs.map (·.2.2)) (es.map (·.2))) (rk:RepV (Tr st.σ μ) μ s.heap ku (kV k)) (rv:RepV (Tr st.σ μ) μ s.heap w v) (hz:es.length < sizeLine) (hn:∀ x ∈ xs,x.1 ≠ k) (M:More s.heap h' d (xs++[(k,ku,w)])) :
  Inv c ⟨st.ρ,st.σ.set m (.kdict (es++[(k,v)]))⟩ μ h'∧Stp c st.σ μ s.heap (st.σ.set m (.kdict (es++[(k,v)]))) μ h':=by
 obtain ⟨⟨o',ds,ep,ho',hE,hd',he⟩,hs'⟩:=M
 have hlen:xs.length = es.length:=by have:=congrArg List.length L.keys; simpa using this
 have tE:Tr (st.σ.set m (.kdict es)) μ = Tr st.σ μ:=funext fun b=>propext (Z1C hσ rfl rfl)
 have S:Stp c st.σ μ s.heap (st.σ.set m (.kdict es)) μ h' :=
  ⟨Nat.le_of_eq hs'.1.symm,fun b ob q _ hT=>(hs'.2 b (fun (k:b = d)=>hT (k ▸ ⟨m,_,hσ,rfl,hd⟩))).trans q,fun _ _ q=>q,fun b q=>.inl (by rwa [tE] at q),fun _ q=>.inl q,Z4c hσ (by simp),fun k b ob e1 e2 e3=>(hs'.2 b fun x=>by
   have:m = k:=(List.getElem?_inj (List.getElem?_eq_some_iff.mp hd).1 I.nd).mp (hd.trans (x ▸ e2.symm))
   subst this; rw [hσ] at e1; cases e1).trans e3⟩
 have r:=(r1.append (.cons rk .nil)).append (r2.append (.cons rv .nil))
 have r:=r.step (st':=⟨st.ρ,st.σ.set m (.kdict es)⟩) I S
 dsimp only at r
 rw [tE] at r
 have K:KLay o' (xs++[(k,ku,w)]) (es++[(k,v)]):=⟨hE,⟨ds,ep,hd',he⟩,by
  rw [List.map_append,List.nodup_append]
  exact ⟨L.nd,by simp,fun a ha b hb e=>by
   obtain ⟨x,hx,rfl⟩:=List.mem_map.mp ha
   exact hn x hx (e.trans (List.mem_singleton.mp hb))⟩,by rw [List.length_append,hlen]; exact hz,by rw [List.map_append,List.map_append,L.keys]; rfl⟩
 have R:RepO (Tr st.σ μ) μ h' d (.kdict (es++[(k,v)])):=.live ho' (.kdict K) (by rw [List.map_append,List.map_append,List.map_append,List.map_append]; exact r)
 exact I.upd hσ hd rfl rfl (.of hs') R (by simp)
theorem Ze5 {k:Ky} {xs:List (Ky × Value × Value)} {es:List (Ky × V)} (hk:xs.map (·.1) = es.map (·.1)) (h:((es.find? fun q=>q.1 = k).map (·.2)) = none):∀ x ∈ xs,x.1 ≠ k:=fun x hx e=>by
 have:x.1 ∈ es.map (·.1):=hk ▸ List.mem_map_of_mem hx
 obtain ⟨y,hy,q⟩:=List.mem_map.mp this
 have h:=List.find?_eq_none.mp (Option.map_eq_none_iff.mp h) y hy
 exact h (decide_eq_true (q.trans e))
theorem Z8y {x:V} {k:Ky} {o:Option V} {es:List (Ky × V)} {ku:Value} {t:Sem Unit} (ok:CxOk c) (I:Inv c st μ s.heap) (rx:RepV (Tr st.σ μ) μ s.heap u (.ref m)) (rk:RepV (Tr st.σ μ) μ s.heap ku x) (rv:RepV (Tr st.σ μ) μ s.heap w v) (hσ:st.σ[m]? = some (.kdict es)) (hz:es.length < sizeLine) (hk:Z4z x = some k) (hi:Z1f es x = some o) (ho:o = none)
  (ht:∀ (d:Addr) xs ob ds ep (Q:Unit→Shared→Prop),u = .ref d→Z24 c.prog c.w s.heap ku k→KD c.prog c.w s.heap d xs ob ds ep→(∀ x ∈ xs,x.1.isLeft = k.isLeft)→(∀ x ∈ xs,x.1 ≠ k)→(∀ h' n,More s.heap h' d (xs++[(k,ku,w)])→Q () { s with heap:=h',toks:=n })→wpAny (model c.prog c.w) c.A t Q (fun _ _=>False) s) :
  wpAny (model c.prog c.w) c.A t (fun _ s'=>∃ μ',Inv c ⟨st.ρ,st.σ.set m (.kdict (es++[(k,v)]))⟩ μ' s'.heap∧Stp c st.σ μ s.heap (st.σ.set m (.kdict (es++[(k,v)]))) μ' s'.heap∧Same s s') (fun _ _=>False) s:=by
 obtain ⟨d,ob,xs,ds,ep,e1,hd,_,L,D,r1,r2⟩:=Z1X ok I rx hσ
 obtain ⟨k',hk',e2,hm,e3⟩:=Z3a hi
 obtain rfl:=Option.some.inj (hk.symm.trans hk')
 subst e2
 have hn:=Ze5 L.keys (e3.symm.trans ho)
 exact ht d xs ob ds ep _ e1 (Z4i _ _ rk) D (Z5j L.keys hm) hn fun h' n M=>El.x0_2 (Z5u I hd hσ L r1 r2 rk rv hz hn M) fun I' S'=>⟨μ,I',S',⟨rfl,rfl,rfl⟩⟩
end
theorem Zau {c:Cx} {st stF:St} {μ:List Addr} {s:Shared} {u iv w:Value} {x y v:V} {fl:Fl} (ok:CxOk c) (I:Inv c st μ s.heap) (rx:RepV (Tr st.σ μ) μ s.heap u x) (ry:RepV (Tr st.σ μ) μ s.heap iv y) (rv:RepV (Tr st.σ μ) μ s.heap w v) (h:setI x y v st = .ok fl stF) :
  fl = .next∧wpAny (model c.prog c.w) c.A (setItem u iv w) (fun _ s'=>∃ μ',Inv c stF μ' s'.heap∧Stp c st.σ μ s.heap stF.σ μ' s'.heap∧Same s s') (fun _ _=>False) s:=by
 refine Z07 h fun m em h=>?_
 have rx:=Z1y em ▸ rx
 refine ZdM h (fun h=>Z07 h fun es he h=>Z07 h fun k hk h=>Z07 h fun o ho h=>Z7o h fun hz h=>?_) fun h=>Z07 h fun k ek h=>?_
 ·have hz:=Bool.and_eq_true_iff.mp hz
  rw [ok1 h,ok2 h]
  exact ⟨rfl,Z8y ok I rx ry rv (Z1h he) (of_decide_eq_true hz.1) hk ho (Option.isNone_iff_eq_none.mp hz.2) fun d xs ob ds ep Q e1 h1 h2 h3 h4 h5=>by rw [e1]; exact Z80 (un3 ok) h1 h2 h3 h4 h5⟩
 ·refine El.x1_1 (RepV.int_inv (Z0Q ek ▸ ry)) fun tk e=>Z07 h fun xs e1 h=>Z7o h fun hz h=>?_
  refine El.x1_1 (Int.eq_ofNat_of_zero_le hz.1) fun j ej=>?_
  rw [ok1 h,ok2 h,e]
  subst ej
  exact ⟨rfl,Zat I rx rv (Z12 e1) (Int.ofNat_lt.mp hz.2)⟩
theorem Zav {a i e:Ex} (ha:EOk W a) (hi:EOk W i) (he:EOk W e):SOk W K (.asgI a i e):=fun g p c st μ s hk hg I=>Sim.ok fun fl stF hR=>by
 refine El.x2_2 (R.bind_inv hR) fun v' st₁ hE hR=>?_
 refine El.x2_2 (R.bind_inv hR) fun x st₂ hA hR=>?_
 refine El.x2_2 (R.bind_inv hR) fun y st₃ hI hR=>?_
 have b1:=he g _ c st μ s (and2 (and2 hk).1).2 hg I
 rw [hE] at b1
 refine wpAny_Assign_Subscript (wpAny_mono b1 (fun u s₁ q8=>El.x1_4 q8 fun μ₁ rv I₁ S₁ Q₁=>?_) fun _ _ e=>e) (Z4K (and2 (and2 hk).1).1)
 have b2:=ha g _ c st₁ μ₁ s₁ (and2 (and2 hk).2).1 hg I₁
 rw [hA] at b2
 refine wpAny_mono b2 (fun ov s₂ q8=>El.x1_4 q8 fun μ₂ rx I₂ S₂ Q₂=>?_) fun _ _ e=>e
 have b3:=hi g _ c st₂ μ₂ s₂ (and2 (and2 hk).2).2 hg I₂
 rw [hI] at b3
 refine wpAny_mono b3 (fun iv s₃ q8=>El.x1_4 q8 fun μ₃ ry I₃ S₃ Q₃=>?_) fun _ _ e=>e
 refine El.x0_2 (Zau hg.ok I₃ (RepV.step I₂ S₃ rx) ry (RepV.step I₂ S₃ (RepV.step I₁ S₂ rv)) hR) fun e hw=>?_
 subst e
 exact wpAny_mono hw (fun _ s₄ q8=>El.x1_3 q8 fun μ₄ I₄ S₄ Q₄=>⟨μ₄,trivial,I₄,((S₁.trans S₂).trans S₃).trans S₄,((Q₁.trans Q₂).trans Q₃).trans Q₄⟩) fun _ _ e=>e
end
section
variable {W:Wo} {K:Nat}
theorem Z8z {T:Addr→Prop} {μ:List Addr} {h:Heap} {d:Addr} (e:h.get? d = some { cls:=.type "dict",data:=.dict #[] }):RepO T μ h d (.kdict []) :=
 .live (vs:=[]) (xs:=[]) e (.kdict (xs:=[]) (ys:=[]) ⟨⟨rfl,rfl,rfl⟩,⟨#[],0,rfl,rfl⟩,.nil,Nat.zero_le _,rfl⟩) .nil
theorem Z8A:EOk W .dictK:=fun g p c st μ s hk hg I=>by
 rw [Z7Q]
 refine El.x0_2 (I.track (o:={ cls:=.type "dict",data:=.dict #[] }) (ob:=.kdict []) rfl rfl (fun T hT=>Z8z (Heap.get?_push_size _ rfl))) fun I₂ S₂=>?_
 exact wpAny_Dict_empty ⟨_,.ref (by rw [← I.len]; simp),I₂,S₂,.refl⟩
end
theorem Inv.swap {c:Cx} {st:St} {μ:List Addr} {h:Heap} (I:Inv c st μ h) {n:Nat} {o o':O} {a:Addr} (e:st.σ[n]? = some o) (ha:μ[n]? = some a) (h1:o.live = true) (h2:o'.live = true) (hr:RepO (Tr st.σ μ) μ h a o') :
  Inv c ⟨st.ρ,st.σ.set n o'⟩ μ h:=by
 have trE:Tr (st.σ.set n o') μ = Tr st.σ μ:=funext fun b=>propext (Z1C e h1 h2)
 refine ⟨fun i x q=>?_,I.slots,fun k ob q=>?_,by simpa using I.len,I.nd,I.lt,I.base,I.baseS,I.baseM,I.sep⟩
 ·dsimp only; rw [trE]; exact I.vars i x q
 ·dsimp only at q ⊢
  rw [trE]
  have hlt:n < st.σ.length:=(List.getElem?_eq_some_iff.mp e).1
  by_cases hk:n = k
  ·try clear x; try clear i; try clear trE
   subst hk
   have:o' = ob:=by simpa [hlt] using q
   try clear hlt
   subst this
   exact ⟨a,ha,hr⟩
  ·rw [List.getElem?_set_ne hk] at q
   exact I.objs k ob q
theorem Stp.revive {c:Cx} {σ₀ σ:List O} {μ₀ μ:List Addr} {h₀ h:Heap} (S:Stp c σ₀ μ₀ h₀ σ μ h) {n:Nat} {o:O} (hl:σ₀.length ≤ n) (hn:σ[n]? = some O.priv) (ho:o.live = true):Stp c σ₀ μ₀ h₀ (σ.set n o) μ h :=
 ⟨S.size,S.keep,S.pre,fun b q=>S.tr b ((Z1C hn rfl ho).mp q),S.new,fun k e=>by
  have:n ≠ k:=fun e'=>Nat.lt_irrefl _ (Nat.lt_of_lt_of_le (List.getElem?_eq_some_iff.mp e).1 (e' ▸ hl))
  rw [List.getElem?_set_ne this]; exact S.pv k e,S.pk⟩
section
variable {c:Cx} {st:St} {μ:List Addr} {s:Shared} {kv vv:Value} {x y:V} {n:Nat} {d:Addr}
theorem Ze6 (ok:CxOk c) (I:Inv c st μ s.heap) (hn:st.σ[n]? = some O.priv) (hd:μ[n]? = some d) (ho:s.heap.get? d = some { cls:=.type "dict",data:=.dict #[] }) (rk:RepV (Tr st.σ μ) μ s.heap kv x) (rv:RepV (Tr st.σ μ) μ s.heap vv y) {r:V} {st':St} (h:Z4e n x y st = .ok r st') :
  r = .ref n∧∃ o:O,o.live = true∧wpAny (model c.prog c.w) c.A (dictSet d kv vv) (fun _ s'=>∃ μ',Inv c st' μ' s'.heap∧Stp c (st.σ.set n o) μ s.heap st'.σ μ' s'.heap∧Same s s') (fun _ _=>False) s:=by
 have lt:n < st.σ.length:=(List.getElem?_eq_some_iff.mp hn).1
 have tE:∀ o:O,o.live = true→Tr (st.σ.set n o) μ = Tr st.σ μ:=fun o hl=>funext fun b=>propext (Z1C hn rfl hl)
 refine Z07 h fun k ek h=>?_
 rw [ok1 h,ok2 h]
 refine ⟨rfl,.kdict [],rfl,?_⟩
 have I0:Inv c ⟨st.ρ,st.σ.set n (.kdict [])⟩ μ s.heap:=I.swap hn hd rfl rfl (Z8z ho)
 have hi:Z1f [] x = some none:=by unfold Z1f; rw [ek]; rfl
 have:=Z8y (x:=x) (k:=k) (es:=[]) (u:=.ref d) (ku:=kv) (w:=vv) (v:=y) (m:=n) (t:=dictSet d kv vv) ok I0 (.ref hd) (by dsimp only; rw [tE _ rfl]; exact rk) (by dsimp only; rw [tE _ rfl]; exact rv) (List.getElem?_set_self lt) (by decide) ek hi rfl fun d' xs ob ds ep Q e1 h1 h2 h3 h4 h5=>by cases e1; exact Z5i (have:=ok.units; by omega) h1 h2 h3 h4 h5
 have e2:(st.σ.set n (.kdict [])).set n (.kdict ([]++[(k,y)])) = st.σ.set n (.kdict [(k,y)]):=List.set_set ..
 dsimp only at this
 rw [e2] at this
 exact this
end
section
variable {W:Wo}
theorem Z8B {a b:Ex} (ha:EOk W a) (hb:EOk W b):EOk W (.dict1 a b):=fun g p c st μ s hk hg I=>Sim.ok fun r stF h=>by
 rw [Z7S] at h
 obtain ⟨x,st₁,hA,h⟩:=R.bind_inv h
 obtain ⟨y,st₂,hB,h⟩:=R.bind_inv h
 obtain ⟨I0,S0⟩:=I.trackP (TO:=s.heap.objs.size) (Ext.push { cls:=.type "dict",data:=.dict #[] }) (Nat.le_refl _) (by rw [Heap.size_push]; exact Nat.lt_succ_self _)
 have p0:(st.σ++[O.priv])[st.σ.length]? = some O.priv:=List.getElem?_concat_length
 have m0:(μ++[s.heap.objs.size])[st.σ.length]? = some s.heap.objs.size:=by rw [← I.len]; exact List.getElem?_concat_length
 have a1:=ha g _ c ⟨st.ρ,st.σ++[.priv]⟩ (μ++[s.heap.objs.size]) { s with heap:=s.heap.push { cls:=.type "dict",data:=.dict #[] } } (and2 hk).1 hg I0
 rw [hA] at a1
 refine wpAny_Dict_any rfl rfl (List.cons_ne_nil _ _) (by show 1 ≤ 15; decide) ?_
 show wpAny _ _ (do
  let kv ← eval (pE a (kid p 0)) c.env
  let vv ← holding [kv] (do let x ← eval (pE b (kid p 1)) c.env; standAt p.pos; pure x)
  return (kv,vv) :: (← holding [kv,vv] (evalPairs []))) _ _ _
 refine wpAny_bind (wpAny_mono a1 (fun kv s₁ q8=>El.x1_4 q8 fun μ₁ rk I₁ S₁ Q₁=>?_) fun _ _ e=>e.elim)
 have b1:=hb g _ c st₁ μ₁ s₁ (and2 hk).2 hg I₁
 rw [hB] at b1
 refine wpAny_bind (wpAny_holding (wpAny_bind (wpAny_mono b1 (fun vv s₂ q8=>El.x1_4 q8 fun μ₂ rv I₂ S₂ Q₂=>wpAny_bind (wpAny_standAt (wpAny_pure ?_))) fun _ _ e=>e.elim)))
 refine wpAny_bind (wpAny_holding (wpAny_pure (wpAny_pure ?_)))
 have p2:=S₂.pv _ (S₁.pv _ p0)
 have m2:=S₂.pre _ _ (S₁.pre _ _ m0)
 have o2:=S₂.pk _ _ _ (S₁.pv _ p0) (S₁.pre _ _ m0) (S₁.pk _ _ _ p0 m0 (Heap.get?_push_size _ rfl))
 obtain ⟨er,o,hl,hs⟩:=Ze6 hg.ok I₂ p2 m2 o2 (RepV.step I₁ S₂ rk) rv h
 have S:Stp c st.σ μ s.heap (st₂.σ.set st.σ.length o) μ₂ s₂.heap:=(S0.trans (S₁.trans S₂)).revive (Nat.le_refl _) p2 hl
 show wpAny _ _ (forIn [(kv,vv)] PUnit.unit fun (x:Value × Value) (_:PUnit)=>(do dictSet s.heap.objs.size x.1 x.2; pure (ForInStep.yield PUnit.unit):Sem (ForInStep PUnit))) _ _ _
 rw [List.forIn_cons]
 refine wpAny_bind (wpAny_bind (wpAny_mono hs (fun _ s₃ q8=>El.x1_3 q8 fun μ₃ I₃ S₃ Q₃=>wpAny_pure ?_) fun _ _ e=>e.elim))
 rw [er]
 exact wpAny_pure ⟨μ₃,.ref (S₃.pre _ _ m2),I₃,S.trans S₃,(Q₁.trans Q₂).trans Q₃⟩
end
noncomputable def rSet (_:St) (_:List Addr) (h:Heap) (v:Value) (k:Nat):Prop:=∃ a o es ep t,v = .ref a∧h.get? a = some o∧o.ExactSet∧o.data = .set es ep t∧t.fits es.size = true∧es.size = k∧k < 4096
theorem Z8C (l:List Int):∀ (u:List Int),l.foldl step_dedup u = l.foldl addF u:=by
 induction l with
 | nil=>intro u; rfl
 | cons x l ih=>
  intro u
  rw [List.foldl_cons,List.foldl_cons,ih]
  congr 1
  unfold step_dedup addF
  by_cases h:x ∈ u
  ·rw [if_pos h,if_pos (by simpa using h)]
  ·rw [if_neg h,if_neg (by simpa using h)]
theorem Z7t (l:List Int):(List.range l.length).map (fun i=>l.getD i 0) = l:=by
 refine List.ext_getElem? fun i=>?_
 rw [List.getElem?_map]
 rcases Nat.lt_or_ge i l.length with h | h
 ·rw [List.getElem?_range h,List.getElem?_eq_getElem h,Option.map_some,List.getD_eq_getElem?_getD,List.getElem?_eq_getElem h]; rfl
 ·rw [List.getElem?_eq_none (by simpa using h),List.getElem?_eq_none h]; rfl
section
variable {W:Wo} {c:Cx} {st:St} {μ:List Addr} {s:Shared} {u v:Value}
theorem Zaw (I:Inv c st μ s.heap) {x:V} {xs:List V} (rx:RepV (Tr st.σ μ) μ s.heap u x) (h:anyL st.σ x = some xs):∃ a vs,u = .ref a∧s.heap.IsList a vs∧vs.size ≤ sizeLine∧RepVs (Tr st.σ μ) μ s.heap vs.toList xs :=
 Z0c h (fun l hl h=>by rw [← Option.some.inj h]; exact RepV.lst_inv (Z1v hl ▸ rx)) fun h=>bnd h fun n hn h=>El.x2_4 (I.ref_inv (Z1y hn ▸ rx) (Z12 h)) fun a vs e hl hz r=>⟨a,vs,e,hl.isList,hz,r⟩
theorem Z7u {a:Ex} (ha:EOk W a):EOk W (.lenSet a):=fun g p c st μ s hk hg I=>by
 refine Sim.of_m (R.bind_assoc ..).symm ?_
 refine Z1l (fn:="len") (fv:=.builtin "len") (rel:=rSet) (.inl ⟨_,rfl⟩) Z6L (by decide) hg I (and2 (and2 hk).1).1 (fun _ _=>rfl) (Z1l (fn:="set") (fv:=.type "set") (.inr ⟨_,rfl⟩) Za9 (by decide) hg I (and2 (and2 hk).1).2 (Z0a a _) (ha g _ c st μ s (and2 hk).2 hg I) fun x st₁ u μ₁ s₁ rx I₁=>Sim.lift fun k h=>?_) fun k st₁ u μ₁ s₁ rk I₁=>?_
 ·refine bnd h fun xs hx h=>bnd h fun l hl h=>Z1n h fun hb h=>El.x2_4 (Zaw I₁ rx hx) fun a vs e hL hz r=>?_
  rw [e]
  have ia:=Z2w r hl
  have hsz:vs.size = l.length:=by rw [← Array.length_toList,ia.length]
  have hk:=Option.some.inj h
  refine Sim.leaf I₁ (Z03 (call_set_list hg.hh hL ia (by rw [hsz]; exact hb) fun h' tk hS hk hs=>⟨⟨hs,fun b o e=>hk b o (Heap.lt_size e) e⟩,⟨rfl,rfl,rfl⟩,?_⟩))
  refine El.x4_8 hS fun o es ep tb ho hex hd _ _ hb' hf hn=>?_
  have e1:(firstMet (fun i=>l.getD i 0) vs.size).length = k:=by unfold firstMet; rw [hsz,Z7t,Z8C]; exact Option.some.inj h
  exact ⟨_,o,es,ep,tb,rfl,ho,hex,hd,hf,by rw [← e1]; exact hn,by rw [← e1]; exact Nat.lt_of_le_of_lt (firstMet_length_le _ _) (by rw [hsz]; unfold scanBound at hb; omega)⟩
 ·refine El.x5_7 rk fun b o es ep t e ho hex hd hf hn hb=>?_
  subst e; subst hn
  exact Z0q I₁ fun Q hq=>call_len_set ho hex hd hf (by omega) (hq _ _)
noncomputable def rRng (_:St) (_:List Addr) (h:Heap) (v:Value) (n:Int):Prop:=∃ r t t' t'',v = .ref r∧IsRange h r 0 n 1 t t' t''
theorem Z8D (n:Int) (i:Nat) (h:i < n.toNat):(upTo 0 n)[i]? = some (.int (i:Int)):=by
 unfold upTo
 rw [List.getElem?_map,List.getElem?_range (by omega)]
 simp
theorem Zax (n:Int):(upTo 0 n).length = n.toNat:=by unfold upTo; rw [List.length_map,List.length_range]; congr 1; omega
theorem Z8E {a:Ex} (ha:EOk W a):EOk W (.listR a):=fun g p c st μ s hk hg I=>by
 refine Sim.of_m (m':=((evE W.F a st).bind fun x st=>R.lift (x.int?.bind fun n=>if Z19 n∧n.toNat ≤ sizeLine then some n else none) st).bind fun (n:Int) st=>.ok (.lst (upTo 0 n)) st) ?_ ?_
 ·refine (Z0D _ fun x st=>?_).trans (R.bind_assoc ..).symm
  unfold Z3p
  cases x.int? with
  | none=>rfl
  | some n=>
   rw [Option.bind_some,Option.bind_some]
   by_cases h:Z19 n∧n.toNat ≤ sizeLine
   ·rw [if_pos h,if_pos h]; rfl
   ·rw [if_neg h,if_neg h]; rfl
 refine Z1l (fn:="list") (fv:=.type "list") (rel:=fun st μ h v n=>rRng st μ h v n∧Z19 n = true∧n.toNat ≤ sizeLine) (.inr ⟨_,rfl⟩) Z3y (by decide) hg I (and2 (and2 hk).1).1 (fun _ _=>rfl) (Z1l (fn:="range") (fv:=.type "range") (.inr ⟨_,rfl⟩) Z4l (by decide) hg I (and2 (and2 hk).1).2 (Z0a a _) (ha g _ c st μ s (and2 hk).2 hg I) fun x st₁ u μ₁ s₁ rx I₁=>Sim.lift fun n h=>?_) fun n st₁ u μ₁ s₁ rn I₁=>?_
 ·refine bnd h fun m hm h=>Z1n h fun hs h=>El.x1_1 (RepV.int_inv (Z0Q hm ▸ rx)) fun t e=>?_
  obtain rfl:=Option.some.inj h
  rw [e]
  exact Sim.leaf I₁ (call_range_1 ⟨.push _,⟨rfl,rfl,rfl⟩,⟨_,_,_,_,rfl,IsRange.new ..⟩,hs⟩)
 ·obtain ⟨⟨r,t,t',t'',rfl,hr⟩,hs,hl⟩:=rn
  have hsm:-(2 ^ 62) ≤ n∧n < 2 ^ 62:=by simpa [Z19] using hs
  have hsz:Builtin.Range.rangeSize 0 n 1 = n.toNat:=by unfold Builtin.Range.rangeSize; simp; omega
  refine Sim.leaf I₁ (Z03 (call_list_range hg.hh hr ?_ hsz hl fun h' tk acc c' hk hn hit hsz'=>⟨⟨hsz',hk⟩,⟨rfl,rfl,rfl⟩,.lst hn rfl rfl (by rw [hit.1]; exact hl) (fun q=>Nat.lt_irrefl _ (I₁.lt _ q.mem)) ?_⟩))
  ·exact small_one (by omega) (by omega) (by omega) (by omega)
  ·refine RepVs.of_get (by rw [Array.length_toList,hit.1,Zax]) fun i v y hv hy=>?_
   rw [Array.getElem?_toList] at hv
   have hi:i < n.toNat:=by have:=(Array.getElem?_eq_some_iff.mp hv).1; rwa [hit.1] at this
   obtain ⟨tk',e⟩:=hit.2 i v hv
   rw [Z8D n i hi] at hy
   rw [← Option.some.inj hy,e]
   have:(0:Int) + (i:Int) * 1 = (i:Int):=by omega
   rw [this]
   exact .int _ _
theorem ZcP {σ:List O} {x:V} {es:List (Ky × V)} (h:(x.ref?.bind fun n=>Z0p σ[n]?) = some es):∃ n,x = .ref n∧σ[n]? = some (.kdict es):=bnd h fun n hn h=>⟨n,Z1y hn,Z1h h⟩
theorem Zay (ok:CxOk c) (I:Inv c st μ s.heap) {x y z:V} {t w:Value} (rx:RepV (Tr st.σ μ) μ s.heap u x) (ry:RepV (Tr st.σ μ) μ s.heap t y) (rz:RepV (Tr st.σ μ) μ s.heap w z):Sim c (call (.builtin "dict.setdefault") [u,t,w]) (Z4A x y z st) rV st.σ μ s:=Sim.ok fun r stF h=>by
 refine Z07 h fun n hn h=>Z07 h fun es he h=>Z07 h fun k hk h=>Z07 h fun o ho h=>?_
 have hσ:=Z1h he
 obtain ⟨d,ob,xs,ds,ep,e1,hd,hs,L,D,r1,r2⟩:=Z1X ok I (Z1y hn ▸ rx) hσ
 obtain ⟨k',hk',e2,hm,e3⟩:=Z3a ho
 obtain rfl:=Option.some.inj (hk.symm.trans hk')
 subst e2
 rw [e1]
 rcases Zce (k:=k) L.keys r2 with ⟨h1,h2⟩ | ⟨p,z',h1,h2,rz'⟩
 ·rw [h2] at e3
  subst e3
  refine Z7o h fun hz h=>?_
  rw [ok1 h,ok2 h]
  exact Z6D (un3 ok) (Z4i _ _ ry) hs D (Z5j L.keys hm) (fun z n e=>by rw [h1] at e; cases e) fun h' n hn M=>El.x0_2 (Z5u I hd hσ L r1 r2 ry rz hz hn M) fun I' S'=>⟨μ,RepV.step I S' rz,I',S',⟨rfl,rfl,rfl⟩⟩
 ·rw [h2] at e3
  subst e3
  rw [ok1 h,ok2 h]
  refine Sim.leaf I (Z6D (un3 ok) (Z4i _ _ ry) hs D (Z5j L.keys hm) (fun z n e=>?_) fun h' n hn M=>?_)
  ·rw [h1] at e
   rw [← Option.some.inj e]
   exact ⟨.refl,⟨rfl,rfl,rfl⟩,rz'⟩
  ·rw [Z6B hn] at h1; cases h1
theorem Zaz {a b d:Ex} (ha:EOk W a) (hb:EOk W b) (hd:EOk W d):EOk W (.setd a b d):=fun g p c st μ s hk hg I=>by
 refine Sim.of_eq (arm_eval_Call ..) (Sim.of_eq (congrArg (fun t=>t >>= _) (Z4m (and2 (and2 hk).1).2 ..)) (Sim.one ha (and2 (and2 hk).2).1 hg I fun x u st₁ μ₁ s₁ rx I₁=>Sim.at (Sim.ok fun r stF h=>?_)))
 refine Z07 h fun es he h=>?_
 obtain ⟨n,rfl,hσ⟩:=ZcP he
 obtain ⟨dd,ob,xs,ds,ep,e1,_,_,L,D,_,_⟩:=Z1X hg.ok I₁ rx hσ
 have h3:=and2 (and2 (and2 hk).2).2
 have key:Sim c (methodCall (pE a (kid (kid p 0) 0)) (Str.ofString "setdefault") (kid p 0).pos p.pos c.env u ([pE b (kid p 1),pE d (kid p 2)].length + ([]:List Keyword).length) (backTo p.pos (starEach [pE b (kid p 1),pE d (kid p 2)] c.env)) (backToKw p.pos (keywordEach [] c.env)))
   ((evE W.F b st₁).bind fun y st=>(evE W.F d st).bind fun z st=>Z4A (.ref n) y z st) rV st₁.σ μ₁ s₁:=by
  refine Sim.of_m (m':=((evE W.F b st₁).bind fun x st=>(evE W.F d st).bind fun y st=>.ok (x,y) st).bind fun q st=>Z4A (.ref n) q.1 q.2 st) ((R.bind_assoc (evE W.F b st₁) _ _).trans (Z0D _ fun x st=>R.bind_assoc (evE W.F d st) (fun y st=>R.ok (x,y) st) (fun q st=>Z4A (.ref n) q.1 q.2 st))).symm ?_
  refine Sim.via (rel:=fun st μ h vs q=>∃ t w,vs = [t,w]∧RepV (Tr st.σ μ) μ h t q.1∧RepV (Tr st.σ μ) μ h w q.2) (f:=fun vs=>call (.builtin "dict.setdefault") ([u]++vs)) (fun Q h=>?_)
   (Z1p (pos:=p.pos) (xs:=[pE d (kid p 2)]) (Z0a b _) (hb g _ c st₁ μ₁ s₁ h3.1 hg I₁) fun x st₂ t μ₂ s₂ _ rt I₂ S₂=>?_) fun q st₂ vs μ₂ s₂ _ hu I₂ S₂=>El.x2_3 hu fun t w e rt rw'=>e ▸ Zay hg.ok I₂ (RepV.step I₁ S₂ rx) rt rw'
  ·have hform:methodCallForm ([pE b (kid p 1),pE d (kid p 2)].length + ([]:List Keyword).length) (backTo p.pos (starEach [pE b (kid p 1),pE d (kid p 2)] c.env)) (backToKw p.pos (keywordEach [] c.env)) = true:=by rw [Z0a,Z0a]; rfl
   unfold methodCall
   rw [hform,e1]
   rw [e1] at h
   exact wpAny_bind (wpAny_holding (getMethod_builtin (D.typeIs (s:=s₁)) PySem.F.plainAttrs_dict PySem.F.slot_dict_setdefault PySem.F.type_dict_setdefault (fun a h=>by cases h; exact ⟨ob,D.ob,D.ex.2.1⟩) (wpAny_bind (wpAny_of_eq (Z6O (b:=true) (and2 (and2 hk).1).1) (Z8m (first:=[.ref dd]) (fun z hz=>(List.mem_cons.mp hz).elim (fun e=>e ▸ Z0a b _) fun hz=>Z1G (Z0a d _) hz) h)))))
  ·refine Sim.of_m (m':=((evE W.F d st₂).bind fun y st=>.ok y st).bind fun y st=>.ok (x,y) st) (congrArg (fun m=>R.bind m _) (Z4J (evE W.F d st₂))) ?_
   exact Sim.bind (Z3A (pos:=p.pos) (Z0a d _) (hd g _ c st₂ μ₂ s₂ h3.2 hg I₂)) fun y st₃ vs μ₃ s₃ _ hu I₃ S₃=>El.x1_2 hu fun w e rw'=>Sim.pure I₃ ⟨t,w,by rw [e],RepV.step I₂ S₃ rt,rw'⟩
 rw [h] at key
 exact key
end
section
variable {W:Wo}
theorem Z8F {elt a:Ex} {k:Nat} (he:EOk W elt) (ha:EOk W a):EOk W (.compH elt k a):=fun g p c st μ s hk hg I=>Sim.of_eq (eval_ListComp ..) (Sim.ok fun y stE hv=>by
 have h1:=and2 (and2 hk).1
 rw [Z5d] at hv
 refine El.x2_2 (R.bind_inv hv) fun q st₁ hR hv=>El.x2_2 (R.bind_inv hv) fun _ stF hr hv=>El.x2_2 (R.bind_inv hv) fun y' stE' hE hV=>?_
 refine El.x2_2 (R.bind_inv hR) fun x sta hA hR=>Z07 hR fun n hn hR=>Z07 hR fun xs hx hR=>?_
 have e1:=ok1 hR
 have e2:=ok2 hR
 subst e1 e2
 rw [ok1 hV,ok2 hV]
 have hσ:=Z12 hx
 obtain rfl:=Z1y hn
 have hI:Sim c (eval (pE a (kid p 2)) c.env) (.ok xs ⟨sta.ρ,sta.σ.set n .priv⟩) (fun st' μ' h' v xs=>rSrc c.prog c.w c.A st' μ' h' v xs∧(Inv c ⟨sta.ρ,sta.σ⟩ μ' h'∧Stp c st.σ μ s.heap sta.σ μ' h')) st.σ μ s:=by
  have:=ha g _ c st μ s h1.2 hg I
  rw [hA] at this
  refine wpAny_mono this (fun v s₁ q8=>El.x1_4 q8 fun μ₁ rv I₁ S₁ Q₁=>?_) fun _ _ e=>e
  obtain ⟨d,ed,hd⟩:=RepV.refI rv
  obtain ⟨d',hd',ro⟩:=I₁.objs n _ hσ
  obtain rfl:=Option.some.inj (hd.symm.trans hd')
  obtain ⟨vs,nn,ho,hz,r⟩:=ro.lst_inv
  have t1:Tr (sta.σ.set n .priv) μ₁ = Tr sta.σ μ₁:=funext fun b=>propext (Z1C hσ rfl rfl)
  have I₀:Inv c ⟨sta.ρ,sta.σ.set n .priv⟩ μ₁ s₁.heap:=I₁.swap hσ hd rfl rfl .priv
  have hp0:(sta.σ.set n .priv)[n]? = some O.priv:=List.getElem?_set_self (List.getElem?_eq_some_iff.mp hσ).1
  have S0:Stp c sta.σ μ₁ s₁.heap (sta.σ.set n .priv) μ₁ s₁.heap:=⟨Nat.le_refl _,fun _ _ e _ _=>e,fun _ _ e=>e,fun b q=>.inl (by rwa [t1] at q),fun _ q=>.inl q,Z4c hσ (by simp),fun _ _ _ _ _ e=>e⟩
  rw [ed]
  exact ⟨μ₁,⟨Z5p (st:=⟨sta.ρ,sta.σ.set n .priv⟩) hg.hh ho rfl rfl (by dsimp only; rw [t1]; exact r) (.inr ⟨n,hp0,hd⟩),I₁,S₁⟩,I₀,S₁.trans S0,Q₁⟩
 refine Z3G (Z2a h1.1) hg I hI (Zbo (Z1E a _) c.env) (fun c hg st μ s I=>he _ _ c st μ s (and2 hk).2 hg I) hr (use:=none) fun D C μ₁ h₁ μ' s' hP SF hD I' S' Q' sz ow nm bs od hm sz₁=>?_
 obtain ⟨I₁,S₁⟩:=hP
 refine El.x1_1 hm fun m hm=>El.x0_4 (Z3H hE I' hD) fun I₂ S₂ r hys=>?_
 have hp0:(sta.σ.set n .priv)[n]? = some O.priv:=List.getElem?_set_self (List.getElem?_eq_some_iff.mp hσ).1
 have SE:=SF.trans S₂
 have hpE:=SE.pv n hp0
 obtain ⟨d,hd,ro⟩:=I₁.objs n _ hσ
 obtain ⟨vs,nn,ho,hz,rr⟩:=ro.lst_inv
 have t1:Tr (sta.σ.set n .priv) μ₁ = Tr sta.σ μ₁:=funext fun b=>propext (Z1C hσ rfl rfl)
 have t2:Tr (stE'.σ.set n (.lst xs)) μ' = Tr stE'.σ μ':=funext fun b=>propext (Z1C hpE rfl rfl)
 have I₀:Inv c ⟨sta.ρ,sta.σ.set n .priv⟩ μ₁ h₁:=I₁.swap hσ hd rfl rfl .priv
 have r':=RepVs.step (st:=⟨sta.ρ,sta.σ.set n .priv⟩) (st':=stE') I₀ SE (by dsimp only; rw [t1]; exact rr)
 have I₃:Inv c (Z63 n xs stE') μ' s'.heap:=I₂.swap hpE (SE.pre n d hd) rfl rfl (o':=.lst xs) (.lst (SE.pk n d _ hp0 hd ho) hz r')
 have S₃:Stp c st.σ μ s.heap (Z63 n xs stE').σ μ' s'.heap:=S₁.trans (Stp.letgo hσ rfl (by simp) SE hpE)
 have r3:RepV (Tr (Z63 n xs stE').σ μ') μ' s'.heap (.ref D) y':=by
  show RepV (Tr (stE'.σ.set n (.lst xs)) μ') μ' _ _ _
  rw [t2]; exact r
 refine ⟨m,hm,fun h'' hs=>?_⟩
 have bt:But [C] s'.heap h'':=fun b o hb e=>(hs.2 b (fun q=>hb (by simp [q]))).trans e
 have one:∀ {P:Addr→Prop},P C→∀ b ∈ [C],P b:=fun p b q=>by rw [List.mem_singleton.mp q]; exact p
 exact ⟨μ',r3.but bt od,I₃.but bt (Nat.le_of_eq hs.1.symm) od (one ow) (one nm) (one bs),S₃.but (one sz) bt (Nat.le_of_eq hs.1.symm),Q'⟩)
end
theorem RepV.nol {T T':Addr→Prop} {μ:List Addr} {h:Heap} (hT:∀ a o,h.get? a = some o→o.cls = .type "tuple"→¬ T a→¬ T' a) {v:Value} {x:V} (r:RepV T μ h v x):x.nol = true→RepV T' μ h v x :=
 RepV.rec (motive_1:=fun v x _=>x.nol = true→RepV T' μ h v x) (motive_2:=fun vs xs _=>V.nols xs = true→RepVs T' μ h vs xs) (fun _=>.none) (fun b _=>.bool b) (fun i t _=>.int i t) (fun x t h1 h2 _=>.str x t h1 h2)
  (fun ho hc hd hz hn _ ih q=>.tup ho hc hd hz (hT _ _ ho hc hn) (ih q)) (fun _ _ _ _ _ _ _ q=>absurd (show false = true from q) Bool.false_ne_true) (fun e _=>.ref e) (fun _=>.nil) (fun _ _ a b q=>.cons (a (and2 q).1) (b (and2 q).2)) r
theorem RepVs.nol {T T':Addr→Prop} {μ:List Addr} {h:Heap} (hT:∀ a o,h.get? a = some o→o.cls = .type "tuple"→¬ T a→¬ T' a) {vs:List Value} {xs:List V} (r:RepVs T μ h vs xs):V.nols xs = true→RepVs T' μ h vs xs :=
 RepVs.ind (M:=fun vs xs=>V.nols xs = true→RepVs T' μ h vs xs) (fun _=>.nil) (fun a _ ih q=>.cons (a.nol hT (and2 q).1) (ih (and2 q).2)) r
theorem Z5v {o:O} (h:(O.back o).live = true):∃ xs,o = .lst xs∧V.nols xs = true∧O.back o = .lst xs:=by
 cases o with
 | lst xs=>
  unfold O.back at h ⊢
  dsimp only at h ⊢
  by_cases q:V.nols xs = true
  ·exact ⟨xs,rfl,q,if_pos q⟩
  ·rw [if_neg q] at h; cases h
 | kdict es=>cases h
 | dead=>cases h
 | priv=>cases h
theorem Z8G {o:O} (h:o.kill.live = true):o = .priv:=by cases o <;> first | rfl | cases h
section
variable {σ σ₂:List O} {μ μ':List Addr} {h h':Heap} {c:Cx}
theorem Z8H {b:Addr} (q:Tr (σ.map O.kill) μ b):∃ n:Nat,σ[n]? = some .priv∧μ[n]? = some b:=by
 obtain ⟨n,o,e1,e2,e3⟩:=q
 rw [List.getElem?_map] at e1
 obtain ⟨o',e4,rfl⟩:=Option.map_eq_some_iff.mp e1
 obtain rfl:=Z8G e2
 exact ⟨n,e4,e3⟩
theorem Z8I {b:Addr} (q:Tr (σ.map O.kill) μ b):Tr σ μ b:=let ⟨n,e1,e2⟩:=Z8H q; ⟨n,.priv,e1,rfl,e2⟩
theorem Zbs (nd:μ.Nodup) {n:Nat} {a:Addr} {o:O} (ha:μ[n]? = some a) (ho:σ[n]? = some o) (hp:o ≠ .priv):¬ Tr (σ.map O.kill) μ a:=fun q=>by
 obtain ⟨k,e1,e2⟩:=Z8H q
 obtain rfl:n = k:=(List.getElem?_inj (List.getElem?_eq_some_iff.mp ha).1 nd).mp (ha.trans e2.symm)
 rw [ho] at e1
 exact hp (Option.some.inj e1)
theorem Inv.lent (I:Inv c.bare ⟨[],σ⟩ μ h):Inv c.bare ⟨[],σ.map O.kill⟩ μ h :=
 ⟨fun i x q=>by simp at q,fun i s q=>(by cases q),fun n o q=>by
  dsimp only at q ⊢
  rw [List.getElem?_map] at q
  obtain ⟨o',e,rfl⟩:=Option.map_eq_some_iff.mp q
  obtain ⟨a,ha,_⟩:=I.objs n o' e
  refine ⟨a,ha,?_⟩
  cases o' <;> first | exact .priv | exact .dead,by rw [List.length_map]; exact I.len,I.nd,I.lt,I.base,fun b q=>(Z0n q).elim,I.baseM,fun b q=>(Z0n q).elim⟩
theorem Inv.given (I:Inv c.bare ⟨[],σ⟩ μ h) (I₂:Inv c.bare ⟨[],σ₂⟩ μ' h') (S:Stp c.bare (σ.map O.kill) μ h σ₂ μ' h') (hl:σ.length ≤ σ₂.length) :
  Inv c.bare ⟨[],σ++(σ₂.drop σ.length).map O.back⟩ μ' h'∧Stp c.bare σ μ h (σ++(σ₂.drop σ.length).map O.back) μ' h'∧∀ a o,h'.get? a = some o→o.cls = .type "tuple"→¬ Tr σ₂ μ' a→¬ Tr (σ++(σ₂.drop σ.length).map O.back) μ' a:=by
 have old:∀ {k:Nat} {o:O},k < σ.length→(σ++(σ₂.drop σ.length).map O.back)[k]? = some o→σ[k]? = some o:=fun hk e=>by rwa [List.getElem?_append_left hk] at e
 have new:∀ {k:Nat} {o:O},¬ k < σ.length→(σ++(σ₂.drop σ.length).map O.back)[k]? = some o→∃ o',σ₂[k]? = some o'∧o = O.back o':=fun {k o} hk e=>by
  rw [List.getElem?_append_right (by omega),List.getElem?_map,List.getElem?_drop] at e
  obtain ⟨o',e1,e2⟩:=Option.map_eq_some_iff.mp e
  rw [show σ.length + (k - σ.length) = k by omega] at e1
  exact ⟨o',e1,e2.symm⟩
 have at0:∀ {k:Nat} {b:Addr},k < σ.length→μ'[k]? = some b→μ[k]? = some b:=fun {k b} hk e=>by
  have hk':k < μ.length:=by rw [I.len]; exact hk
  have:=S.pre k _ (List.getElem?_eq_getElem hk')
  rw [List.getElem?_eq_getElem hk',← Option.some.inj (this.symm.trans e)]
 have tr3:∀ b,Tr (σ++(σ₂.drop σ.length).map O.back) μ' b→(Tr σ μ b) ∨ (Tr σ₂ μ' b∧h.objs.size ≤ b):=by
  rintro b ⟨k,o,e1,e2,e3⟩
  by_cases hk:k < σ.length
  ·exact .inl ⟨k,o,old hk e1,e2,at0 hk e3⟩
  ·obtain ⟨o',e4,rfl⟩:=new hk e1
   obtain ⟨xs,rfl,_,_⟩:=Z5v e2
   refine .inr ⟨⟨k,_,e4,rfl,e3⟩,(S.new b (List.mem_of_getElem? e3)).elim (fun m=>?_) id⟩
   obtain ⟨j,hj⟩:=List.mem_iff_getElem?.mp m
   have hj':=S.pre j b hj
   have:j = k:=(List.getElem?_inj (List.getElem?_eq_some_iff.mp hj').1 I₂.nd).mp (hj'.trans e3.symm)
   have:=(List.getElem?_eq_some_iff.mp hj).1
   rw [I.len] at this
   dsimp only at this
   omega
 have S₃:Stp c.bare σ μ h (σ++(σ₂.drop σ.length).map O.back) μ' h':=⟨S.size,fun b o e h1 h2=>S.keep b o e h1 fun q=>h2 (Z8I q),S.pre,fun b q=>(tr3 b q).imp id fun q=>q.2,S.new,fun n e=>by rw [List.getElem?_append_left (List.getElem?_eq_some_iff.mp e).1]; exact e,
  fun n a o e1 e2 e3=>S.pk n a o (by rw [List.getElem?_map,e1]; rfl) e2 e3⟩
 have kept:∀ {k:Nat} {a:Addr} {o:O} {ob:Obj},μ[k]? = some a→σ[k]? = some o→o ≠ .priv→h.get? a = some ob→h'.get? a = some ob:=fun ha ho hp e=>S.keep _ _ e Z0n (Zbs I.nd ha ho hp)
 have tup3:∀ a o,h'.get? a = some o→o.cls = .type "tuple"→¬ Tr σ₂ μ' a→¬ Tr (σ++(σ₂.drop σ.length).map O.back) μ' a:=fun a ob e hc hn q=>by
  rcases tr3 a q with ⟨k,o,e1,e2,e3⟩ | ⟨q,_⟩
  ·obtain ⟨a',ha',ro⟩:=I.objs k o e1
   obtain rfl:=Option.some.inj (e3.symm.trans ha')
   cases o with
   | dead=>cases e2
   | priv=>exact hn ⟨k,.priv,S.pv k (by rw [List.getElem?_map,e1]; rfl),rfl,S.pre k _ e3⟩
   | lst xs=>
    obtain ⟨vs,n,ho,_⟩:=ro.lst_inv
    have:=kept e3 e1 (by simp) ho
    rw [this] at e
    rw [← Option.some.inj e] at hc
    exact absurd (Value.type.inj hc) (by decide)
   | kdict es=>
    obtain ⟨o',xs,ho,L,_⟩:=ro.out
    have:=kept e3 e1 (by simp) ho
    rw [this] at e
    rw [← Option.some.inj e,L.dict.1] at hc
    exact absurd (Value.type.inj hc) (by decide)
  ·exact hn q
 refine ⟨⟨fun i x q=>by simp at q,fun i s q=>(by cases q),fun k o q=>?_,?_,I₂.nd,I₂.lt,I₂.base,fun b q=>(Z0n q).elim,I₂.baseM,fun b q=>(Z0n q).elim⟩,S₃,tup3⟩
 ·dsimp only at q ⊢
  by_cases hk:k < σ.length
  ·have e1:=old hk q
   obtain ⟨a,ha,ro⟩:=I.objs k o e1
   refine ⟨a,S.pre k a ha,?_⟩
   by_cases hp:o = .priv
   ·subst hp; exact .priv
   ·exact ro.map (fun ob e=>kept ha e1 hp e) fun _ _ r=>RepVs.step (st:=⟨[],σ⟩) (st':=⟨[],σ++(σ₂.drop σ.length).map O.back⟩) I S₃ r
  ·obtain ⟨o',e4,rfl⟩:=new hk q
   obtain ⟨a,ha,ro⟩:=I₂.objs k o' e4
   refine ⟨a,ha,?_⟩
   by_cases hv:(O.back o').live = true
   ·obtain ⟨xs,rfl,hn,e5⟩:=Z5v hv
    rw [e5]
    obtain ⟨vs,n,ho,hz,r⟩:=ro.lst_inv
    exact .lst ho hz (r.nol tup3 hn)
   ·have:O.back o' = .dead:=by
     cases o' <;> first | rfl | skip
     unfold O.back at hv ⊢
     dsimp only at hv ⊢
     rename_i xs
     by_cases q:V.nols xs = true
     ·rw [if_pos q] at hv; exact absurd rfl hv
     ·rw [if_neg q]
    rw [this]; exact .dead
 ·have:=I₂.len
  dsimp only at this ⊢
  rw [this,List.length_append,List.length_map,List.length_drop]; omega
end
theorem ZcQ {n:Nat} {prog:Program} {w:World} {base:Heap} {mg:Str→Option Value} {F:Fn} (hF:FnOk n prog w base mg F):FnOk n prog w base mg (Z36 F):=fun f args σ r st' h=>by
 refine Z07 h fun as has h=>El.x2_2 (R.bind_inv h) fun r₂ st₂ hC h=>Z7o h fun hc h=>?_
 obtain ⟨hn,hc⟩:=and2 hc
 obtain ⟨hl,_⟩:=and2 hc
 have hl:=of_decide_eq_true hl
 rw [ok1 h,ok2 h]
 obtain ⟨a,o,fd,k1,k2,k3,hd⟩:=hF f as _ _ _ hC
 refine ⟨a,o,fd,k1,k2,k3,fun c μ s vs e1 e2 e3 ha I rv=>?_⟩
 have rv':RepVs (Tr (σ.map O.kill) μ) μ s.heap vs as:=rv.mapR (fun _ q=>Z8I q) (fun n a x ha e=>I.deep (fun _ q=>Z8I q) (fun n a xs ha hσ=>Zbs I.nd ha hσ (by simp)) 3 (.ref ha) (show dz σ 3 (.ref n) = some x from e)) as has
 refine wpAny_mono (hd c μ s vs e1 e2 e3 ha I.lent rv') (fun v s' q8=>El.x1_4 q8 fun μ' q1 q2 q3 q4=>?_) fun _ _ e=>e
 obtain ⟨I₃,S₃,tup3⟩:=I.given q2 q3 hl
 exact ⟨μ',q1.nol tup3 hn,I₃,S₃,q4⟩
theorem Z8J {W:Wo} {f:Str} {es:Exs} (he:EsOk W es):EOk W (.callD f es):=fun g p c st μ s hk hg I=>Z5n he (ZcQ hg.fn) (and2 hk).1 (and2 hk).2 hg I
section
variable {W:Wo} {K:Nat}
theorem Z5w {a:Ex}:ItOk W (.enum a):=fun g p c st μ s hk=>absurd hk Bool.false_ne_true
theorem Z6S {a b:Ex}:ItOk W (.zip a b):=fun g p c st μ s hk=>absurd hk Bool.false_ne_true
theorem allE (e:Ex):IOk W e :=
 Ex.rec (motive_1:=fun e=>IOk W e) (motive_2:=fun es=>EsOk W es) (motive_3:=fun o=>OOk W o) (motive_4:=fun i=>ItOk W i)
  (TOk.plain Za0 (fun _=>Z06 rfl)) (fun _=>TOk.plain Za1 (fun _=>Z06 rfl)) (fun _=>TOk.plain Zct (fun _=>Z06 rfl)) (fun _=>TOk.plain Zcu (fun _=>Z06 rfl)) (fun _=>TOk.plain Zcv (fun _=>Z06 rfl)) (fun _=>TOk.plain ZdY (fun _=>Z06 rfl)) (fun _ _ _ a b=>TOk.plain (Zcw a.1 b.1) (fun _=>Z06 rfl)) (fun _ _ _ a b=>Za4 a.1 b.1) (fun _ _ a b=>Za5 a b) (fun _ _ a b=>ZcA a b) (fun _ a=>ZcB a) (fun _=>TOk.plain ZcC (fun _ _ _=>rfl)) (fun _ _ _ c a b=>ZcD c a b) (fun _ h=>TOk.plain (ZcF h) (fun _=>Z06 rfl)) (fun _ h=>TOk.plain (Za7 h) (fun _=>Z06 rfl)) (fun _ h=>TOk.plain (Z8i h) (fun _=>Z06 rfl)) (fun _ _ a b=>TOk.plain (ZcG a.1 b.1) (fun _=>Z06 rfl)) (fun _ _ _ a lo hi=>TOk.plain (Z8l a.1 lo hi) (fun _=>Z06 rfl)) (fun _ _ a=>TOk.plain (Za8 a.1) (fun _=>Z06 rfl)) (fun _ _ a=>TOk.plain (ZdZ a.1) (fun _=>Z06 rfl)) (fun _ _ _ a b=>TOk.plain (Ze0 a.1 b.1) (fun _=>Z06 rfl)) (fun _ _ h=>TOk.plain (Zae h) (fun _=>Z06 rfl)) (fun _ _ h=>TOk.plain (Z8J h) (fun _=>Z06 rfl)) (fun _ _ _ _ e i=>TOk.plain (Zal e.1 i) (fun _=>Z06 rfl)) (TOk.plain Z8A (fun _=>Z06 rfl)) (fun _ _ _ _ _ a b c=>Z8o a.1 b.1 c.1) (fun _ _ a b=>TOk.plain (Z8B a.1 b.1) (fun _=>Z06 rfl)) (fun _ a=>TOk.plain (Z7u a.1) (fun _=>Z06 rfl)) (fun _ a=>TOk.plain (Z8E a.1) (fun _=>Z06 rfl)) (fun _ _ _ a b c=>TOk.plain (Zaz a.1 b.1 c.1) (fun _=>Z06 rfl)) (fun _ _ _ e a=>TOk.plain (Z8F e.1 a.1) (fun _=>Z06 rfl)) ZcE (fun _ _ e es=>Za6 e.1 es) Z8j (fun _ e=>Z8k e.1) (fun _ e=>Zbr e.1) (fun _ a=>Z5q a.1) (fun _ _=>Z5w) (fun _ _ _ _=>Z6S) e
theorem allI (i:It):ItOk W i :=
 It.casesOn (motive_4:=fun i=>ItOk W i) i (fun e=>Zbr (allE e).1) (fun a=>Z5q (allE a).1) (fun _=>Z5w) (fun _ _=>Z6S)
theorem allZ (it:It):ZOk W it :=
 It.casesOn (motive_4:=fun it=>ZOk W it) it (fun e g p c st μ s hk=>absurd hk Bool.false_ne_true) (fun e g p c st μ s hk=>absurd hk Bool.false_ne_true) (fun a=>Zap (allE a).1) fun a b=>ZcO (allE a).1 (allE b).1
theorem ZcR {i:Nat} (e:Ex):SOk W K (.asg i e):=by
 by_cases hC:isC e = true
 ·rcases Bool.or_eq_true_iff.mp hC with hC | hC
  ·refine Ex.comp.elim (motive_1:=fun e=>SOk W K (.asg i e)) e (eq_of_beq hC) fun m elt k it=>?_
   intro g p c st μ s hk hg I
   obtain ⟨b,hb⟩:∃ b:Bool,swapsWith (pE (.comp m elt k it) (skid p 0)) (some (.Name (nmOf (skid p 1)) (skid p 1).pos)) p.pos.line c.env = pure b:=⟨_,rfl⟩
   cases b with
   | false=>exact Z6P (allE _).1 g p c st μ s hk hb hg I
   | true=>exact Zam (allE _).1 (allI _) g p c st μ s hk hb hg I
  ·exact fun g p c st μ s hk hg I=>absurd (and2 (and2 hk).1).1 (by rw [hC]; exact Bool.false_ne_true)
 ·exact fun g p c st μ s hk hg I=>Z6P (allE e).1 g p c st μ s hk (Z4K (by rw [Bool.not_eq_true] at hC; rw [hC]; rfl)) hg I
theorem ZeF (s:Sms):SsOk W K s :=
 Sms.rec (motive_1:=fun s=>SOk W K s) (motive_2:=fun s=>SsOk W K s) (fun _ e=>ZcR e) (fun _ e=>Zan (allE e).1) (fun e=>Zai (allE e).1) (fun e=>ZcI (allE e).1) (fun c _ _ t f=>Zag (allE c) t f) (fun _ it _ b=>Zak (allI it) b) (fun _ it _ b=>Zaq (allZ it) b) (fun c _ b=>Z8q (allE c) b)
  (fun a i e=>Zav (allE a).1 (allE i).1 (allE e).1) Zaf (fun _ _ s ss=>Z8p s ss) s
end
structure Wd (prog:Program) (w:World) (base:Heap) (mg mb:Str→Option Value):Prop where
 gd:Gd base mg mb
 seer:base.NoSeer
 nolimit:base.NoLimit
 tree:prog.given.tree = none
theorem Z2D {y:Str} {v:Value}:∀ {ns:List Str} {vs:List Value},ns.Nodup→(y,v) ∈ ns.zip vs→(ns.zip vs).lookup y = some v
 | [],_,_,h=>by simp at h
 | _ :: _,[],_,h=>by simp at h
 | n :: ns,u :: vs,hn,h=>by
  rw [List.zip_cons_cons] at h ⊢
  rw [List.nodup_cons] at hn
  rw [List.lookup_cons]
  rcases List.mem_cons.mp h with h | h
  ·cases h; simp
  ·have hy:y ≠ n:=fun e=>hn.1 (e ▸ (List.of_mem_zip h).1)
   have hb:(y == n) = false:=by simp [hy]
   simp only [hb]
   exact Z2D hn.2 h
theorem Z8K:∀ {ns:List Str} {vs:List Value},vs.length = ns.length→∀ y ∈ ns,∃ v,(y,v) ∈ ns.zip vs
 | [],_,_,y,h=>by simp at h
 | n :: ns,[],e,y,h=>by simp at e
 | n :: ns,u :: vs,e,y,h=>by
  rcases List.mem_cons.mp h with rfl | h
  ·exact ⟨u,by simp⟩
  ·refine El.x1_1 (Z8K (by simpa using e) y h) fun v hv=>?_
   exact ⟨v,by rw [List.zip_cons_cons]; exact List.mem_cons_of_mem _ hv⟩
theorem Z2m {l:List (Str × Value)}:∀ {ns:List Str} {vs:List Value},vs.length = ns.length→(∀ p ∈ ns.zip vs,l.lookup p.1 = some p.2)→(ns.filterMap fun n=>(l.lookup n).map (n,·)) = ns.zip vs
 | [],_,_,_=>by simp
 | n :: ns,[],e,_=>by simp at e
 | n :: ns,u :: vs,e,h=>by
  have h0:=h (n,u) (by simp)
  dsimp only at h0
  rw [List.filterMap_cons,h0,List.zip_cons_cons]
  dsimp only [Option.map_some]
  rw [Z2m (by simpa using e) fun p hp=>h p (by rw [List.zip_cons_cons]; exact List.mem_cons_of_mem _ hp)]
theorem Z7v {fd:FuncData} {vals:List Value} {names:List Str} (h1:fd.params.posonlyargs = []) (h2:fd.params.kwonlyargs = []) (h3:fd.params.vararg = none) (h4:fd.params.kwarg = none) (h5:fd.params.args.map (·.arg) = names)
  (h6:fd.defaults = .none) (nd:names.Nodup) (hl:vals.length = names.length):bindArgs fd ⟨vals,[]⟩ = pure (names.zip vals):=by
 have hz:∀ p ∈ names.zip vals,(names.zip vals).lookup p.1 = some p.2:=fun p hp=>Z2D nd hp
 have hmiss:(names.filter fun n=>((names.zip vals).lookup n).isNone) = []:=by
  rw [List.filter_eq_nil_iff]
  intro n hn
  refine El.x1_1 (Z8K hl n hn) fun v hv=>?_
  rw [Z2D nd hv]; simp
 have hf:=Z2m hl hz
 have hs:seqItems? Value.none = pure none:=rfl
 have hgt:¬ (vals.length > names.length):=hl ▸ Nat.lt_irrefl _
 simp only [bindArgs,h1,h2,h3,h4,h5,h6,hs,List.map_nil,List.nil_append,List.forIn_nil,List.append_nil,pure_bind,Option.getD_none,List.drop_nil,List.length_nil,Nat.sub_zero,List.zip_nil_right,List.take_length,hmiss,hf,List.isEmpty_nil,Bool.not_true,decide_eq_false hgt,Bool.false_and,Bool.false_eq_true,↓reduceIte]
noncomputable def hdOk (name:Str) (params locals:List Str) (r:DefRec):Bool :=
 (name == r.name) && r.params.posonlyargs.isEmpty && r.params.kwonlyargs.isEmpty && r.params.vararg.isNone && r.params.kwarg.isNone && (r.params.args.map (·.arg) == params) &&
 (r.scope.kind == .function) && !r.scope.isCoroutine && !r.scope.isGenerator && (locals.take params.length == params) && decide locals.Nodup &&
 (locals.all fun x=>r.scope.names.lookup x == some .local || r.scope.names.lookup x == some .cell)
structure MHd (name:Str) (params locals:List Str) (r:DefRec):Prop where
 name:name = r.name
 p1:r.params.posonlyargs = []
 p2:r.params.kwonlyargs = []
 p3:r.params.vararg = none
 p4:r.params.kwarg = none
 args:r.params.args.map (·.arg) = params
 kind:r.scope.kind = .function
 co:r.scope.isCoroutine = false
 gen:r.scope.isGenerator = false
 pre:locals.take params.length = params
 nd:locals.Nodup
 kinds:∀ x ∈ locals,r.scope.names.lookup x = some .local ∨ r.scope.names.lookup x = some .cell
theorem ZcS {name:Str} {params locals:List Str} {r:DefRec} (h:hdOk name params locals r = true):MHd name params locals r:=by
 unfold hdOk at h
 simp only [Bool.and_eq_true] at h
 obtain ⟨⟨⟨⟨⟨⟨⟨⟨⟨⟨⟨a1,a2⟩,a3⟩,a4⟩,a5⟩,a6⟩,a7⟩,a8⟩,a9⟩,a10⟩,a11⟩,a12⟩:=h
 refine ⟨eq_of_beq a1,List.isEmpty_iff.mp a2,List.isEmpty_iff.mp a3,Option.isNone_iff_eq_none.mp a4,Option.isNone_iff_eq_none.mp a5,eq_of_beq a6,eq_of_beq a7,by simpa using a8,by simpa using a9,eq_of_beq a10,by simpa using a11,fun x hx=>?_⟩
 have:=List.all_eq_true.mp a12 x hx
 rcases Bool.or_eq_true_iff.mp this with q | q
 ·exact .inl (by simpa using q)
 ·exact .inr (by simpa using q)
noncomputable def gmOf (locals:List Str) (sc:Scope):Gm:=⟨sc,locals.zipIdx,List.range locals.length,[]⟩
noncomputable def mDef (d:Def) (r:DefRec):Bool:=hdOk d.name d.params d.locals r && okSs (gmOf d.locals r.scope) d.body r.body
noncomputable def FnAt (base:Heap) (mg:Str→Option Value) (name:Str) (r:DefRec) (a:Addr) (code:Value):Prop :=
 ∃ (o:Obj) (nm qual:Str) (pm doc:Value),mg name = some (.ref a)∧base.get? a = some o∧o.data = .func (methDef nm qual r.params r.body r.scope pm code doc)∧base.CodeRec code qual
noncomputable def Zbt (defs:List Def) (base:Heap) (mg:Str→Option Value):Prop :=
 ∀ d ∈ defs,∃ r a code,(mDef d r = true∧pSs d.body r.body = r.body)∧FnAt base mg d.name r a code
theorem Z4p {kindOf:Str→Option NameKind} {y:Str}:∀ {b:List (Str × Value)} {m:Str→Option Value},(∀ p ∈ b,p.1 ≠ y)→bindL kindOf b m y = m y
 | [],_,_=>rfl
 | (n,v) :: r,m,h=>by
  unfold bindL
  rw [Z4p fun p hp=>h p (by simp [hp])]
  split
  ·have:y ≠ n:=fun e=>h (n,v) (by simp) e.symm
   simp [this]
  ·rfl
theorem Z5x {kindOf:Str→Option NameKind} {y:Str} {v:Value}:∀ {ns:List Str} {vs:List Value} {m:Str→Option Value},ns.Nodup→(y,v) ∈ ns.zip vs→kindOf y = some .local→bindL kindOf (ns.zip vs) m y = some v
 | [],_,_,_,h,_=>by simp at h
 | _ :: _,[],_,_,h,_=>by simp at h
 | n :: ns,u :: vs,m,hn,h,hk=>by
  rw [List.zip_cons_cons] at h ⊢
  rw [List.nodup_cons] at hn
  unfold bindL
  rcases List.mem_cons.mp h with h | h
  ·cases h
   rw [Z4p fun p hp e=>hn.1 (by have q:=(List.of_mem_zip (show (p.1,p.2) ∈ ns.zip vs from hp)).1; rw [e] at q; exact q),if_pos hk]
   simp
  ·exact Z5x hn.2 h hk
theorem Z4q {kindOf:Str→Option NameKind} {y:Str}:∀ {b:List (Str × Value)} {m:Str→Option Value},(∀ p ∈ b,p.1 ≠ y)→bindC kindOf b m y = m y
 | [],_,_=>rfl
 | (n,v) :: r,m,h=>by
  unfold bindC
  rw [Z4q fun p hp=>h p (by simp [hp])]
  split
  ·rfl
  ·have:y ≠ n:=fun e=>h (n,v) (by simp) e.symm
   simp [this]
theorem Z5y {kindOf:Str→Option NameKind} {y:Str} {v:Value}:∀ {ns:List Str} {vs:List Value} {m:Str→Option Value},ns.Nodup→(y,v) ∈ ns.zip vs→kindOf y = some .cell→bindC kindOf (ns.zip vs) m y = some v
 | [],_,_,_,h,_=>by simp at h
 | _ :: _,[],_,_,h,_=>by simp at h
 | n :: ns,u :: vs,m,hn,h,hk=>by
  rw [List.zip_cons_cons] at h ⊢
  rw [List.nodup_cons] at hn
  unfold bindC
  rcases List.mem_cons.mp h with h | h
  ·cases h
   rw [Z4q fun p hp e=>hn.1 (by have q:=(List.of_mem_zip (show (p.1,p.2) ∈ ns.zip vs from hp)).1; rw [e] at q; exact q),if_neg (by rw [hk]; decide)]
   simp
  ·exact Z5y hn.2 h hk
theorem Z2n {y:Str} {i:Nat}:∀ {l:List Str} {k:Nat},(l.zipIdx k).lookup y = some i→k ≤ i∧l[i - k]? = some y
 | [],_,h=>by simp at h
 | n :: r,k,h=>by
  rw [List.zipIdx_cons,List.lookup_cons] at h
  by_cases hy:y = n
  ·subst hy
   simp at h
   subst h
   exact ⟨Nat.le_refl _,by simp⟩
  ·have hb:(y == n) = false:=by simp [hy]
   simp only [hb] at h
   refine El.x0_2 (Z2n h) fun h1 h2=>?_
   refine ⟨by lia,?_⟩
   have:i - k = (i - (k + 1)) + 1:=by lia
   rw [this,List.getElem?_cons_succ]
   exact h2
theorem ZaA {n k:Nat} {μ:List Addr} {a:Addr} (e:μ[k]? = some a) (h:decide (k < n) = true):(μ.take n)[k]? = some a:=by
 rw [List.getElem?_take,if_pos (of_decide_eq_true h)]; exact e
theorem Zbu {T T':Addr→Prop} {μ:List Addr} {n:Nat} {h:Heap} (hT:∀ b,T' b→T b) {v:Value} {x:V} (r:RepV T μ h v x):x.lo n = true→RepV T' (μ.take n) h v x :=
 RepV.rec (motive_1:=fun v x _=>x.lo n = true→RepV T' (μ.take n) h v x) (motive_2:=fun vs xs _=>V.los n xs = true→RepVs T' (μ.take n) h vs xs) (fun _=>.none) (fun b _=>.bool b) (fun i t _=>.int i t) (fun x t h1 h2 _=>.str x t h1 h2)
  (fun ho hc hd hz hq _ ih f=>.tup ho hc hd hz (fun q=>hq (hT _ q)) (ih ((Z1z _).symm.trans f))) (fun ho hc hd hz hq _ ih f=>.lst ho hc hd hz (fun q=>hq (hT _ q)) (ih ((Z0d _).symm.trans f)))
  (fun e f=>.ref (ZaA e ((Z13 _).symm.trans f))) (fun _=>.nil)
  (fun {v vs x xs} _ _ a b f=>by
   rw [Z02,Bool.and_eq_true] at f
   exact .cons (a f.1) (b f.2)) r
theorem ZcT {T T':Addr→Prop} {μ:List Addr} {n:Nat} {h:Heap} (hT:∀ b,T' b→T b) {v:List Value} {x:List V} (f:V.los n x = true) (r:RepVs T μ h v x):RepVs T' (μ.take n) h v x :=
 RepVs.ind (M:=fun vs xs=>V.los n xs = true→RepVs T' (μ.take n) h vs xs) (fun _=>.nil) (fun {v vs x xs} a _ b f=>by
   rw [Z02,Bool.and_eq_true] at f
   exact .cons (Zbu hT a f.1) (b f.2)) r f
noncomputable def flV (f:Flow):Value:=match f with | .ret v=>v | _=>.none
theorem ZcU {st:St} {μ:List Addr} {h:Heap} {f:Flow} {x:Fl} (r:rFl st μ h f x):RepV (Tr st.σ μ) μ h (flV f) x.val:=by
 cases f <;> cases x <;> first | exact .none | exact r | exact r.elim
theorem Inv.trunc {c:Cx} {σ₀ σ:List O} {μ₀ μ:List Addr} {h₀ h:Heap} (I:Inv c.bare ⟨[],σ⟩ μ h) (S:Stp c.bare σ₀ μ₀ h₀ σ μ h) (hl:μ₀.length = σ₀.length) (hf:(σ.take σ₀.length).all (O.lo σ₀.length) = true) {v:Value} {r:V} (hr:r.lo σ₀.length = true) (rv:RepV (Tr σ μ) μ h v r) :
  Inv c.bare ⟨[],σ.take σ₀.length⟩ (μ.take σ₀.length) h∧Stp c.bare σ₀ μ₀ h₀ (σ.take σ₀.length) (μ.take σ₀.length) h∧RepV (Tr (σ.take σ₀.length) (μ.take σ₀.length)) (μ.take σ₀.length) h v r:=by
 have sub:∀ b,Tr (σ.take σ₀.length) (μ.take σ₀.length) b→Tr σ μ b:=by
  intro b q11z
  refine El.x2_3 q11z fun k o e1 e2 e3=>?_
  rw [List.getElem?_take] at e1 e3
  split at e1
  ·rename_i hk
   rw [if_pos hk] at e3
   exact ⟨k,o,e1,e2,e3⟩
  ·try clear e3; try clear e2; try clear k; try clear q11z
   cases e1
 refine ⟨⟨fun i x q=>by simp at q,fun i s q=>(by cases q),fun n o q=>?_,?_,I.nd.sublist (List.take_sublist _ _),fun a q=>I.lt a (List.mem_of_mem_take q),I.base,fun b q=>(Z0n q).elim,fun a q=>I.baseM a (List.mem_of_mem_take q),fun b q=>(Z0n q).elim⟩,
  ⟨S.size,S.keep,fun n a e=>?_,fun b q=>S.tr b (sub b q),fun a q=>S.new a (List.mem_of_mem_take q),fun n e=>?_,S.pk⟩,Zbu sub rv hr⟩
 ·dsimp only at q ⊢
  have hof:o.lo σ₀.length = true:=List.all_eq_true.mp hf o (List.mem_of_getElem? q)
  rw [List.getElem?_take] at q
  split at q
  ·rename_i hk
   refine El.x1_2 (I.objs n o q) fun a ha ro=>?_
   refine ⟨a,by rw [List.getElem?_take,if_pos hk]; exact ha,?_⟩
   try clear ha; try clear e1; try clear o; try clear b
   cases ro with
   | dead=>exact .dead
   | priv=>exact .priv
   | live ho L r=>exact .live ho L (ZcT sub (by cases L <;> exact hof) r)
  ·try clear ro; try clear hof; try clear sub
   cases q
 ·have:=I.len
  simp at this ⊢
  lia
 ·have hk:n < σ₀.length:=by rw [← hl]; exact (List.getElem?_eq_some_iff.mp e).1
  rw [List.getElem?_take,if_pos hk]
  exact S.pre n a e
 ·have hk:n < σ₀.length:=(List.getElem?_eq_some_iff.mp e).1
  rw [List.getElem?_take,if_pos hk]
  exact S.pv n e
section
variable {prog:Program} {w:World} {base:Heap} {mg mb:Str→Option Value} {K:Nat}
noncomputable def slOf (ls:List Str) (sc:Scope) (L:Addr) (cells:List (Str × Addr)) (i:Nat):Option Slot :=
 match ls[i]? with
 | some x=>if sc.names.lookup x = some .local then some (.d L x) else (cells.lookup x).map Slot.c
 | none=>none
theorem Zbv {ls:List Str} {sc:Scope} {L:Addr} {cells:List (Str × Addr)} {i:Nat} {x:Str} (hi:ls[i]? = some x) (k:sc.names.lookup x = some .local):slOf ls sc L cells i = some (.d L x):=by
 unfold slOf
 rw [hi]; exact if_pos k
theorem Zbw {ls:List Str} {sc:Scope} {L b:Addr} {cells:List (Str × Addr)} {i:Nat} {x:Str} (hi:ls[i]? = some x) (k:sc.names.lookup x = some .cell) (hb:cells.lookup x = some b):slOf ls sc L cells i = some (.c b):=by
 unfold slOf
 rw [hi]; dsimp only; rw [if_neg (by rw [k]; intro e; cases e),hb]; rfl
theorem ZaB {ls:List Str} {sc:Scope} {L:Addr} {cells:List (Str × Addr)} {i:Nat} {sl:Slot} (hk:∀ x ∈ ls,sc.names.lookup x = some .local ∨ sc.names.lookup x = some .cell) (q:slOf ls sc L cells i = some sl) :
  ∃ x,ls[i]? = some x∧((sc.names.lookup x = some .local∧sl = .d L x) ∨ (sc.names.lookup x = some .cell∧∃ b,cells.lookup x = some b∧sl = .c b)):=by
 unfold slOf at q
 cases hx:ls[i]? with
 | none=>rw [hx] at q; cases q
 | some x=>
  rw [hx] at q
  refine ⟨x,rfl,(hk x (List.mem_of_getElem? hx)).imp (fun k=>⟨k,?_⟩) fun k=>⟨k,?_⟩⟩
  ·dsimp only at q; rw [if_pos k] at q; exact (Option.some.inj q).symm
  ·dsimp only at q; rw [if_neg (by rw [k]; intro e; cases e)] at q
   exact El.x1_2 (Option.map_eq_some_iff.mp q) fun b hb e=>⟨b,hb,e.symm⟩
theorem Z8L {F:Fn} (W:Wd prog w base mg mb) {n:Nat} (ih:FnOk n prog w base mg F) {name:Str} {params locals:List Str} {slots:Nat} {rc:DefRec} (M:MHd name params locals rc) {a:Addr} {code:Value} (hf:FnAt base mg name rc a code) {args:List V} {σ:List O} (hlen:args.length = params.length)
  {c:Cx} {μ:List Addr} {s:Shared} {vs:List Value} {Q E:Value→Shared→Prop} (e1:c.prog = prog) (e2:c.w = w) (e3:c.base = base) (hA:AOk (n + 1) c.A) (I:Inv c.bare ⟨[],σ⟩ μ s.heap) (rvs:RepVs (Tr σ μ) μ s.heap vs args)
  (hbody:∀ (c':Cx) (s₁:Shared),c'.prog = c.prog→c'.w = c.w→c'.base = c.base→c'.A = c.A.deeper c'.env→c'.env.frame = some c'.env.locals→c'.env.code = code→Good ⟨n,mg,mb,F⟩ c' (gmOf locals rc.scope)→Inv c' ⟨args.map some++List.replicate (slots - args.length) none,σ⟩ μ s₁.heap→Ext s.heap s₁.heap→(∀ b,Own c' b→s.heap.objs.size ≤ b)→(s.heap.objs.size ≤ c'.env.locals∧∃ m,s₁.heap.Ns c'.env.locals m)→Same s s₁ →
   wpAny (model c.prog c.w) c'.A (execs rc.body c'.env) (fun fl s'=>Q (flV fl) s') (fun e s'=>wpAny (model c.prog c.w) c'.A (leaving c'.env e) (fun _ s''=>E e s'') (fun e' s''=>E e' s'') s') s₁) :
  wpAny (model c.prog c.w) c.A (call (.ref a) vs) Q E s:=by
 obtain ⟨o,nm,qual,pm,doc,_,g2,g3,g4⟩:=hf
 have hvl:vs.length = params.length:=by rw [rvs.length]; exact hlen
 have hpn:params.Nodup:=by rw [← M.pre]; exact M.nd.sublist (List.take_sublist _ _)
 subst e1 e2 e3
 have hbk:∀ b o,c.base.get? b = some o→s.heap.get? b = some o:=I.base
 refine wpAny_call (codeAny_call_cells (fd:=methDef nm qual rc.params rc.body rc.scope pm code doc) (body:=rc.body) (binds:=params.zip vs) (by have:=hA.depth; lia) (hbk _ _ g2) g3 (W.nolimit.keeps hbk) (g4.keeps hbk) rfl
  (Z7v M.p1 M.p2 M.p3 M.p4 M.args rfl hpn hvl) rfl (fun x hx=>?_) (fun s₁ X=>?_) M.co M.gen M.kind)
 ·have hx':x.1 ∈ locals:=by
   have:=(List.of_mem_zip (show (x.1,x.2) ∈ _ from hx)).1
   rw [← M.pre] at this
   exact List.mem_of_mem_take this
  rcases M.kinds _ hx' with q | q
  ·exact .inl q
  ·exact .inr ⟨q,PySem.W.cellsFrom_some _ _ _ (.inl q)⟩
 ·generalize henv:callEnvC (methDef nm qual rc.params rc.body rc.scope pm code doc) s.heap.objs.size a = env' at X ⊢
  have hL:env'.locals = s.heap.objs.size:=by rw [← henv]; rfl
  have hsc:env'.scope = rc.scope:=by rw [← henv]; rfl
  have hcl:env'.cells = cellsFrom (s.heap.objs.size + 1) rc.scope.names []:=by rw [← henv]; rfl
  have hgl:env'.globals = mainGlobals:=by rw [← henv]; rfl
  have hbl:env'.builtins = builtinsNs:=by rw [← henv]; rfl
  have hko:∀ x,env'.kindOf x = rc.scope.names.lookup x:=fun x=>by unfold Env.kindOf; rw [hsc]
  have hns:=X.toInCall.ns
  have hLlt:s.heap.objs.size < s₁.heap.objs.size:=by obtain ⟨o,_,_,ho,_⟩:=hns; rw [← hL]; exact Heap.lt_size ho
  have XE:Ext s.heap s₁.heap:=⟨Nat.le_of_lt hLlt,X.toInCall.keep⟩
  let c':Cx:={ prog:=c.prog,w:=c.w,base:=c.base,A:=c.A.deeper env',env:=env',sl:=slOf locals rc.scope env'.locals env'.cells }
  have slv:∀ i sl,c'.sl i = some sl→∃ x,locals[i]? = some x∧((rc.scope.names.lookup x = some .local∧sl = .d env'.locals x) ∨ (rc.scope.names.lookup x = some .cell∧∃ b,env'.cells.lookup x = some b∧sl = .c b)):=fun i sl q=>ZaB M.kinds q
  have ownGe:∀ b,Own c' b→s.heap.objs.size ≤ b:=by
   intro b q13z
   refine El.x2_2 q13z fun i sl q q14z=>?_
   try clear q13z
   obtain rfl:=q14z
   obtain ⟨x,_,⟨_,rfl⟩ | ⟨_,b,hb,rfl⟩⟩:=slv i sl q
   ·exact Nat.le_of_eq hL.symm
   ·have:=X.above x b (mem_of_lookup hb)
    rw [hL] at this
    exact Nat.le_of_lt this
  have cellOk:∀ x b,env'.cells.lookup x = some b→s₁.heap.IsCell b (bindC env'.kindOf (params.zip vs) (fun _=>none) x):=fun x b hb=>X.cell x b hb
  have I₁:Inv c' ⟨args.map some++List.replicate (slots - args.length) none,σ⟩ μ s₁.heap:=by
   refine ⟨fun i x q=>?_,fun i sl q=>?_,(I.ext XE).objs,I.len,I.nd,(I.ext XE).lt,(I.ext XE).base,fun b q=>?_,I.baseM,fun b q m=>?_⟩
   ·dsimp only at q ⊢
    have hi:i < args.length:=by
     by_cases hi:i < args.length
     ·exact hi
     ·rw [List.getElem?_append_right (by simpa using Nat.le_of_not_lt hi)] at q
      rw [List.getElem?_replicate] at q
      split at q <;> simp at q
    rw [List.getElem?_append_left (by simpa using hi)] at q
    have hax:args[i]? = some x:=by simpa [hi] using q
    refine El.x1_2 (rvs.get hax) fun v hv rv=>?_
    have hip:i < params.length:=by rw [← hlen]; exact hi
    obtain ⟨p,hp⟩:∃ p,params[i]? = some p:=⟨params[i],by simp [hip]⟩
    have hlp:locals[i]? = some p:=by
     have:(locals.take params.length)[i]? = some p:=by rw [M.pre]; exact hp
     rw [List.getElem?_take,if_pos hip] at this
     exact this
    have hz:(p,v) ∈ params.zip vs:=List.mem_of_getElem? (i:=i) (by rw [List.getElem?_zip_eq_some]; exact ⟨hp,hv⟩)
    rcases M.kinds p (List.mem_of_getElem? hlp) with k | k
    ·refine ⟨.d env'.locals p,v,?_,⟨_,hns,Z5x hpn hz (by rw [hko]; exact k)⟩,rv.ext XE⟩
     exact Zbv hlp k
    ·refine El.x1_1 (Option.isSome_iff_exists.mp (PySem.W.cellsFrom_some (x:=p) rc.scope.names (s.heap.objs.size + 1) [] (.inl k))) fun b hb=>?_
     rw [← hcl] at hb
     refine ⟨.c b,v,?_,?_,rv.ext XE⟩
     ·exact Zbw hlp k hb
     ·have:=cellOk p b hb
      rw [Z5y hpn hz (by rw [hko]; exact k)] at this
      exact this
   ·obtain ⟨x,_,⟨_,rfl⟩ | ⟨_,b,hb,rfl⟩⟩:=slv i sl q
    ·exact ⟨_,hns⟩
    ·exact ⟨_,cellOk x b hb⟩
   ·show c.base.get? b = none
    cases hq:c.base.get? b with
    | none=>rfl
    | some ob=>exact absurd (Nat.lt_of_lt_of_le (Heap.lt_size (hbk b ob hq)) (ownGe b q)) (Nat.lt_irrefl _)
   ·exact Nat.lt_irrefl _ (Nat.lt_of_lt_of_le (I.lt b m) (ownGe b q))
  refine El.x1_1 hA.frames fun lf hlf=>?_
  have hfr:(c.A.deeper env').frames = some (env' :: lf):=Around.frames_deeper hlf
  have hdp:(c.A.deeper env').depth = c.A.depth + 1:=rfl
  have hun:(c.A.deeper env').units = c.A.units + 3:=rfl
  have hA':AOk n c'.A:=⟨hA.hh,by show c.A.depth + 1 + n + 110 ≤ _; have:=hA.depth; lia,by show c.A.units + 3 + 4 * n + 200 ≤ _; have:=hA.units; lia,_,hfr⟩
  have hG:Good ⟨n,mg,mb,F⟩ c' (gmOf locals rc.scope):=by
   refine ⟨⟨fun t ht=>?_,hA.hh,by show c.A.units + 3 + 100 < _; have:=hA.units; lia,let ⟨mm,⟨o,_,_,ho,_⟩,_⟩:=W.seer.mods; ⟨o,ho⟩⟩,W.gd,⟨hsc,M.kind,hgl,hbl,fun x i hx=>?_,fun i j sl q1 q2=>?_,fun i sl q=>?_,fun x hx=>?_⟩,hA',fun x i e=>(by cases e),ih⟩
   ·refine PylongRoom.of (W.nolimit.keeps ht) (by show c.A.depth + 1 + 100 < _; have:=hA.depth; lia) (SeerAt.of (W.seer.keeps ht) W.tree hfr ?_ ?_ hbl hgl)
    ·rw [hsc]; exact M.gen
    ·rw [hsc]; exact M.co
   ·refine El.x0_2 (Z2n hx) fun _ hi=>?_
    rw [Nat.sub_zero] at hi
    rcases M.kinds x (List.mem_of_getElem? hi) with k | k
    ·exact .inl ⟨k,Zbv hi k⟩
    ·refine El.x1_1 (Option.isSome_iff_exists.mp (PySem.W.cellsFrom_some (x:=x) rc.scope.names (s.heap.objs.size + 1) [] (.inl k))) fun b hb=>?_
     rw [← hcl] at hb
     exact .inr ⟨k,b,hb,Zbw hi k hb⟩
   ·refine El.x1_2 (slv i sl q1) fun x hx h1=>?_
    refine El.x1_2 (slv j sl q2) fun y hy h2=>?_
    have hxy:x = y:=by
     try clear y; try clear q2; try clear q1; try clear j; try clear ht; try clear t; try clear hun; try clear hdp; try clear hfr; try clear hlf; try clear lf; try clear hz
     rcases h1 with ⟨_,rfl⟩ | ⟨_,b,hb,rfl⟩ <;> rcases h2 with ⟨_,e⟩ | ⟨_,b',hb',e⟩
     ·cases e; rfl
     ·try clear h2; try clear h1; try clear hlp; try clear hp; try clear p; try clear hip; try clear hv; try clear v; try clear hax; try clear hi; try clear m; try clear cellOk
      cases e
     ·try clear q14z; try clear ho; try clear o; try clear hns; try clear hko; try clear hbl; try clear hgl; try clear hsc; try clear hL; try clear hbk; try clear hpn; try clear rvs
      cases e
     ·cases e; exact name_of_addr X.apart (mem_of_lookup hb) (mem_of_lookup hb')
    try clear hA; try clear vs
    subst hxy
    exact (List.getElem?_inj (List.getElem?_eq_some_iff.mp hx).1 M.nd).mp (hx.trans hy.symm)
   ·refine El.x1_2 (slv i sl q) fun x hx _=>?_
    exact List.mem_range.mpr (List.getElem?_eq_some_iff.mp hx).1
   ·refine El.x1_1 (Option.isSome_iff_exists.mp (PySem.W.cellsFrom_some (x:=x) rc.scope.names (s.heap.objs.size + 1) [] (.inl hx))) fun b hb=>?_
    rw [← hcl] at hb
    exact ⟨b,hb⟩
  refine El.x2_2 X.toInCall.done fun hh₁ tk₁ e₁ _=>?_
  have Q₁:Same s s₁:=by rw [e₁]; exact ⟨rfl,rfl,rfl⟩
  exact hbody c' s₁ rfl rfl rfl rfl (by show env'.frame = some env'.locals; rw [← henv]; rfl) (by show env'.code = code; rw [← henv]; rfl) hG I₁ XE ownGe ⟨Nat.le_of_eq hL.symm,_,hns⟩ Q₁
theorem Ze7 {F:Fn} (W:Wd prog w base mg mb) {n:Nat} (ih:FnOk n prog w base mg F) {d:Def} {rc:DefRec} {a:Addr} {code:Value} (hm:mDef d rc = true∧pSs d.body rc.body = rc.body) (hf:FnAt base mg d.name rc a code) {args:List V} {σ:List O} {r:V} {st':St} (h:Z0m F K d args σ = .ok r st') :
  Does (n + 1) prog w base (.ref a) args σ r st':=by
 unfold Does
 intro c μ s vs e1 e2 e3 hA I rvs
 unfold Z0m at h
 split at h
 case isFalse=>cases h
 rename_i hlen
 cases hB:evSs F K d.body ⟨args.map some++List.replicate (d.slots - args.length) none,σ⟩ with
 | stuck=>rw [hB] at h; cases h
 | exc _ _=>rw [hB] at h; cases h
 | ok fl stF=>
  rw [hB] at h
  simp only [R.bind_ok] at h
  refine Z8L (slots:=d.slots) W ih (ZcS (and2 hm.1).1) hf hlen e1 e2 e3 hA I rvs fun c' s₁ q1 q2 q3 q4 _ _ hG I₁ XE ownGe _ Q₁=>?_
  have hS:=ZeF (K:=K) d.body (gmOf d.locals rc.scope) rc.body c' _ μ s₁ (and2 hm.1).2 hG I₁
  dsimp only at hS
  rw [hm.2,hB,Sim,q1,q2] at hS
  refine wpAny_mono hS (fun fw s' q8=>El.x1_4 q8 fun μ' rf I' S' Q'=>?_) fun _ _ e=>e.elim
  have Ib:Inv c.bare ⟨[],stF.σ⟩ μ' s'.heap:=⟨fun i x q=>by simp at q,fun i sl q=>(by cases q),I'.objs,I'.len,I'.nd,I'.lt,fun b o e=>I'.base b o (by rw [q3]; exact e),fun b q=>(Z0n q).elim,fun a e=>(by have:=I'.baseM a e; rw [q3] at this; exact this),fun b q=>(Z0n q).elim⟩
  have Sb:Stp c.bare σ μ s.heap stF.σ μ' s'.heap:=Stp.inner (Stp.ext XE) S' fun b q=>.inr (ownGe b q)
  have Qb:Same s s':=Q₁.trans Q'
  have rv:=ZcU rf
  split at h
  ·rename_i hfree
   simp only [Bool.and_eq_true] at hfree
   cases h
   refine El.x0_3 (Ib.trunc Sb I.len hfree.2 hfree.1 rv) fun I₂ S₂ r₂=>?_
   exact ⟨_,r₂,I₂,S₂,Qb⟩
  ·cases h
   exact ⟨_,rv,Ib,Sb,Qb⟩
end
section
variable {prog:Program} {w:World} {base:Heap} {mg mb:Str→Option Value} {defs:List Def} {K:Nat}
theorem Z8M {n:Nat} {f:Str} {args:List V} {σ:List O} {r:V} {st':St} (h:Z1w defs K (n + 1) f args σ = .ok r st'):∃ d,d ∈ defs∧d.name = f∧Z0m (Z1w defs K n) K d args σ = .ok r st':=by
 rw [Z6z] at h
 exact Z07 h fun d hd h=>⟨d,List.mem_of_find?_eq_some hd,by have q:=List.find?_some hd; exact eq_of_beq q,h⟩
theorem ZeG (W:Wd prog w base mg mb) (hD:Zbt defs base mg):∀ n,FnOk n prog w base mg (Z1w defs K n):=by
 intro n
 induction n with
 | zero=>exact fun f args σ r st' h=>(by cases h)
 | succ n ih=>
  intro f args σ r st' h
  obtain ⟨d,hmem,hname,h⟩:=Z8M h
  obtain ⟨rc,a,code,hm,hf⟩:=hD d hmem
  have hf':=hf
  obtain ⟨o,nm,qual,pm,doc,g1,g2,g3,g4⟩:=hf'
  exact ⟨a,o,_,hname ▸ g1,g2,g3,Ze7 W ih hm hf h⟩
end
end Mine
namespace Mine
open PySem PySem.Calls PyProof.Rows PySem.W
noncomputable def Zbx (q:Program) (x:Str):Bool :=
 !startupNames.contains x && !(looseW q []).contains x && !((recsOf q).map (·.name)).contains x && !((litsOf q).map (·.1)).contains x && !((clssOf q (looseW q [])).map (·.name)).contains x
noncomputable def bltNames:List String:=["isinstance","len","int","bool","list","tuple","str","range","enumerate","zip","set","sorted","min","max"]
noncomputable def ZaC (q:Program) (x:Str):Option DefRec:=(recsOf q).find? fun r=>r.name == x
noncomputable def ZcV (q:Program) (defs:List Def):Bool:=(defs.all fun d=>(ZaC q d.name).any fun r=>mDef d r) && ((bltNames.all fun x=>Zbx q (Str.ofString x)) && importsNone q)
noncomputable def eqOk (q:Program) (defs:List Def):Prop:=(defs.map fun d=>(ZaC q d.name).map fun r=>pSs d.body r.body) = defs.map fun d=>(ZaC q d.name).map fun r=>r.body
theorem ZeH {q:Program} {defs:List Def} (h:eqOk q defs) {d:Def} (hd:d ∈ defs) {r:DefRec} (e:ZaC q d.name = some r):pSs d.body r.body = r.body:=by
 have:=List.map_inj_left.mp h d hd
 rw [e] at this
 exact Option.some.inj this
theorem ZcW {α:Type} {o:Option α} {k:α→Bool} (h:o.any k = true):∃ a,o = some a∧k a = true:=by
 cases o with
 | none=>cases h
 | some a=>exact ⟨a,rfl,h⟩
theorem ZeI {q prog:Program} {w:World} {R:WRecords} {XP:(Str→Option Value)→Heap→Prop} {s₀:Shared} {mg mb:Str→Option Value} {h:Heap} {defs:List Def} (G:Ground q [] R XP w s₀ mg mb h) (ok:ZcV q defs = true) (eq:eqOk q defs) (ht:prog.given.tree = none) :
  Wd prog w h mg mb∧Zbt defs h mg:=by
 refine El.x0_2 (and2 ok) fun h1 h23=>?_
 have T:=G.T
 refine ⟨⟨⟨T.g,T.b,T.builtins,fun x hx=>?_⟩,T.seer (and2 h23).2,T.nolimit,ht⟩,fun d hd=>?_⟩
 ·have:=List.all_eq_true.mp (and2 h23).1 x hx
  unfold Zbx at this
  simp only [Bool.and_eq_true,Bool.not_eq_true',List.contains_eq_mem,decide_eq_false_iff_not] at this
  exact T.free _ this.1.1.1.1 this.1.1.1.2 this.1.1.2 this.1.2 this.2
 ·refine El.x1_2 (ZcW (List.all_eq_true.mp h1 d hd)) fun r hr hm=>?_
  have he:=ZeH eq hd hr
  have hn:r.name = d.name:=eq_of_beq (List.find?_some (p:=fun e:DefRec=>e.name == d.name) hr)
  refine El.x5_4 (T.fn r (List.mem_of_find?_eq_some hr)) fun a o pm code doc g1 g2 g3 g4=>?_
  exact ⟨r,a,code,⟨hm,he⟩,o,r.name,r.name,pm,doc,hn ▸ g1,g2,g3,g4⟩
theorem Z2Y {R:WRecords}:∀ {xs:List WData},WShape.hasItems R xs .int = true→∃ is:List Int,xs = is.map .int
 | [],_=>⟨[],rfl⟩
 | x :: xs,h=>by
  have h:(WShape.has R x .int && WShape.hasItems R xs .int) = true:=h
  rw [Bool.and_eq_true] at h
  refine El.x1_1 (Z2Y h.2) fun is q6z=>?_
  obtain rfl:=q6z
  have hx:=h.1
  cases x <;> try (exact absurd hx Bool.false_ne_true)
  exact ⟨_ :: is,rfl⟩
theorem ZcX {l:OpenLaw} {args:List WData} (hm:l.most = some 63) (h:l.row.toRowW.claim.pre args = true):∃ is:List Int,args = [.list (is.map .int)]∧is.length ≤ 63:=by
 unfold RowW.claim at h
 simp only [Bool.and_eq_true] at h
 refine El.x0_2 h fun h1 h2=>?_
 have ha:l.row.toRowW.args = [.list .int]:=rfl
 rw [ha] at h1
 rcases args with _ | ⟨x,_ | ⟨y,r⟩⟩
 ·exact absurd h1 Bool.false_ne_true
 ·have h1:(WShape.has _ x (.list .int) && true) = true:=h1
  rw [Bool.and_eq_true] at h1
  have hx:=h1.1
  cases x <;> try (exact absurd hx Bool.false_ne_true)
  rename_i xs _
  have hx:(WShape.hasItems _ xs .int || false) = true:=hx
  rw [Bool.or_false] at hx
  refine El.x1_1 (Z2Y hx) fun is q7z=>?_
  try clear hx; try clear ha
  obtain rfl:=q7z
  refine ⟨is,rfl,?_⟩
  have hp:l.row.toRowW.pre = l.pre:=rfl
  rw [hp] at h2
  by_cases hle:is.length ≤ 63
  ·exact hle
  ·exfalso
   have:(63:Int) < (is.length:Int):=by omega
   unfold WTm.holds at h2
   rw [show WTm.value _ l.pre _ = some (.bool false) from by unfold OpenLaw.pre; simp [hm,WTm.value,less?,Num.less?,this]] at h2
   cases h2
 ·have h1:(WShape.has _ x (.list .int) && false) = true:=h1
  rw [Bool.and_false] at h1
  exact absurd h1 Bool.false_ne_true
theorem Z6T {R:WRecords} {cl:Str→Option Addr} {h:Heap} {T:Addr→Prop} {μ:List Addr}:∀ {vs:List Value} {is:List Int} {as:List Addr},ReadsAllW R cl h vs (is.map .int) as→RepVs T μ h vs (is.map .int)
 | _,[],_,r=>by cases r; exact .nil
 | _,i :: is,_,r=>by
  cases r with
  | cons a b=>
   cases a with
   | int _ t=>exact .cons (.int i t) (Z6T b)
theorem law_walk {l:OpenLaw} {q:Program} {XP:(Str→Option Value)→Heap→Prop} {YP:World→Heap→Prop} {d:DefRec} {kwd:List (Str × PySem.Expr)} (defs:List Def) (ok:ZcV q defs = true) (eq:eqOk q defs) (hm:l.most = some 63) (ht:l.prog.given.tree = none)
  (hpure:∀ (is:List Int),is.length ≤ 63→∃ K n st,n ≤ 400∧Z1w defs K n d.name [.lst (is.map .int)] [] = .ok (.bool true) st) :
  WalkO q [] XP YP l.row.toRowW d kwd (fun f vs=>PySem.call f vs):=by
 intro w s₀ s₁ mg mb G Y fa o pm cd doc dV kV ho hd hcd hD hmg hg args vals as hpre hlay hrd hwl hlo
 refine El.x1_2 (ZcX hm hpre) fun is q8z hlen=>?_
 try clear hlo; try clear hwl; try clear hlay; try clear hpre; try clear args; try clear hD; try clear hcd; try clear kV; try clear dV; try clear doc; try clear cd; try clear pm
 obtain rfl:=q8z
 obtain ⟨W,D⟩:=ZeI (prog:=l.row.toRowW.prog) G ok eq ht
 refine El.x3_2 (hpure is hlen) fun K n st hn hc=>?_
 refine El.x3_4 (ZeG (K:=K) W D n _ _ _ _ _ hc) fun a o' fd h1 h2 h3 hw=>?_
 obtain rfl:fa = a:=by
  rw [hmg] at h1
  cases h1; rfl
 let c:Cx:={ prog:=l.row.toRowW.prog,w:=w,base:=s₁.heap,A:=callerA,env:=default,sl:=fun _=>none }
 have noT:∀ b,¬ Tr [] [] b:=fun b ⟨k,o,e,_⟩=>by simp at e
 have I:Inv c.bare ⟨[],[]⟩ [] s₁.heap:=⟨fun i x q=>by simp at q,fun i s q=>(by cases q),fun n o q=>by simp at q,rfl,by simp,fun a q=>by simp at q,fun b o e=>e,fun b q=>(Z0n q).elim,fun a q=>by simp at q,fun b q=>(Z0n q).elim⟩
 have rv:RepVs (Tr [] []) [] s₁.heap vals [.lst (is.map .int)]:=by
  try clear h3; try clear h2; try clear h1; try clear fd; try clear o'; try clear hn; try clear st; try clear K; try clear hC; try clear D; try clear C; try clear W
  cases hrd with
  | cons x y=>
   try clear q8z; try clear hrd; try clear hmg; try clear fa; try clear Y; try clear G; try clear mb; try clear mg; try clear s₀; try clear w
   cases y
   cases x with
   | @list a o vs n _ as ho hc hd r=>
    have hz:=Z6T (T:=Tr [] []) (μ:=[]) r
    have hsz:vs.size = is.length:=by have:=hz.length; simpa using this
    exact .cons (.lst ho hc hd (by rw [hsz]; exact Nat.le_trans hlen (by decide)) (noT _) hz) .nil
 have hA:AOk n callerA:=⟨rfl,by show 1 + 300 + n + 110 ≤ 1000; omega,by show 4 + 4 * n + 200 ≤ 9900; omega,[],rfl⟩
 refine wpAny_mono (hw c [] s₁ vals rfl rfl rfl hA I rv) (fun v s' q8=>El.x1_4 q8 fun μ' r1 I' S' Q'=>?_) fun _ _ e=>e.elim
 try clear S'; try clear μ'; try clear hA; try clear hsz; try clear hz; try clear rv; try clear I; try clear noT; try clear hw; try clear hc; try clear n; try clear hlen
 obtain rfl:=r1.bool_inv
 refine ⟨.inl ⟨.bool true,.bool true,[],rfl,fun _=>rfl,.bool true,?_,fun _=>⟨List.nodup_nil,fun a q=>by cases q⟩⟩,.of_keep I'.base,Q'.2.2,.of_eq (by rw [Q'.1,hg])⟩
 have hp:l.row.toRowW.post = .eq .res (.lit (.bool true)):=rfl
 have hr:l.row.toRowW.returns = .bool:=rfl
 unfold RowW.claim
 dsimp only
 rw [hp,hr,show WShape.has l.row.toRowW.records (.bool true) .bool = true from rfl]
 unfold WTm.holds
 rw [show WTm.value _ (WTm.res.eq (.lit (.bool true))) _ = some (.bool true) from by simp [WTm.value,same]]
 rfl
end Mine
namespace Mine
open PySem PySem.W PyProof.Rows
noncomputable def Z4P:List Obj→Nat→BT→BT
 | [],_,t=>t
 | o :: r,i,t=>Z4P r (i + 1) (t.ins i o)
noncomputable def Z2b (ok:Thread→Bool) (sp:SharedT→Thread→Option (SharedT × Thread)):Nat→SharedT→Thread→Option SharedT
 | 0,_,_=>none
 | n + 1,s,t=>match through t with
  | true=>some s
  | false=>match ok t with
   | false=>none
   | true=>match sp s t with
    | some (s',t')=>Z2b ok sp n s' t'
    | none=>none
theorem Z2Z {tb:String→Option Builtin} {p:Program} {w:World} {n₀:Nat} {ann:Option Value}:∀ {n:Nat} {s s':SharedT} {t:Thread},Z2b (stepOk n₀ ann) (stepT (denote tb) p w) n s t = some s'→topRun tb p w n₀ ann n s.abs t = some s'.abs
 | 0,_,_,_,h=>by cases h
 | n + 1,s,s',t,h=>by
  unfold Z2b at h
  unfold topRun
  cases ht:through t with
  | true=>rw [ht] at h; cases h; rfl
  | false=>
   rw [ht] at h
   cases hk:stepOk n₀ ann t with
   | false=>rw [hk] at h; cases h
   | true=>
    rw [hk] at h
    cases hs:stepT (denote tb) p w s t with
    | none=>rw [hs] at h; cases h
    | some r=>obtain ⟨s₂,t₂⟩:=r; rw [hs] at h; rw [stepT_spec hs]; exact Z2Z h
noncomputable def ZaD (P:Params) (os:OsState):SharedT:=⟨Z4P (boot_heap P).objs.toList 0 .nil,(boot_heap P).objs.size,(boot_heap P).life,Array.mk [],boot_drawn,boot_toks,os⟩
theorem Z7w (P:Params):absHeap (Z4P (boot_heap P).objs.toList 0 .nil) (boot_heap P).objs.size (boot_heap P).life = boot_heap P:=by kernel_rfl
theorem ZaE (P:Params):(boot_heap P).isNs mainGlobals = true:=by kernel_rfl
theorem Z8N {p q:Program} {loose:List Str} {Xt:Shared→Bool} {α:Type} {Yf:Shared→α} {Ya:World→α} {N:Nat} {g0:Bool} (e:opening p = plainProg p.main.scope.names) (hN:Nat.ble 600 N = true) (f:∀ s,fenceModules? p s = some s)
  (run:∀ (w:World) (os:OsState),(Z2b (stepOk (boot_heap w.params).objs.size ((boot_heap w.params).nsMap mainGlobals "__annotations__")) (stepT (denote treeTable) p w) N (ZaD w.params os) (topStub p)).map (fun s=>
   (staticsOk (importedModules p.main.body) (boot_heap w.params) s.abs.heap && namesBound p s.abs.heap && gensDone s.abs && laidKept (boot_heap w.params) s.abs.heap,openSeen q loose (importedModules p.main.body) Xt g0 s.abs,Yf s.abs)) = some (true,openGood q loose,Ya w)):LeftO p q loose Xt Yf Ya N g0:=fun w=>by
 obtain ⟨⟨h,gs,d,k,os⟩,e0,e'⟩:=Option.map_eq_some_iff.mp (boot_open e hN f w)
 obtain ⟨rfl,rfl,rfl,rfl⟩:h = boot_heap w.params∧gs = Array.mk []∧d = boot_drawn∧k = boot_toks:=by simpa using e'
 obtain ⟨s,hs,hv⟩:=Option.map_eq_some_iff.mp (run w os)
 have r:=Z2Z hs
 have hab:(ZaD w.params os).abs = ⟨boot_heap w.params,Array.mk [],boot_drawn,boot_toks,os⟩:=by
  unfold SharedT.abs ZaD
  dsimp only
  rw [Z7w]
 rw [hab] at r
 obtain ⟨l1,l2⟩:=Prod.mk.inj hv
 obtain ⟨l2,l3⟩:=Prod.mk.inj l2
 have t:topFrom treeTable p w N ⟨boot_heap w.params,Array.mk [],boot_drawn,boot_toks,os⟩ = some s.abs:=by
  unfold topFrom
  dsimp only
  rw [ZaE,r]
  show (match staticsOk (importedModules p.main.body) (boot_heap w.params) s.abs.heap && namesBound p s.abs.heap && gensDone s.abs && laidKept (boot_heap w.params) s.abs.heap with | true=>_ | false=>_) = _
  rw [l1]
 unfold openEnds
 rw [e0]
 show (topFrom treeTable p w N _).map _ = _
 rw [t]
 exact congrArg some (Prod.ext l2 l3)
theorem Z8O {n₀:Nat} {ann:Option Value} {p:Program} {w:World}:Z2b (stepOk n₀ ann) (stepT (denote treeTable) p w) = Z2b (PySem.W.Fast.tw6613529449190102663 n₀ ann) (PySem.W.Fast.tw10156331382660048174 (PySem.W.Fast.tw11892475500146522536 treeTable) p w):=by
 rw [PySem.W.Fast.te6613529449190102663,PySem.W.Fast.te10156331382660048174,PySem.W.Fast.te11892475500146522536]
end Mine
namespace Mine
open PySem
noncomputable def intT (x y:V) (k:Int→Int→Prop):Prop:=match x with
 | .int a=>(match y with | .int b=>k a b | _=>True)
 | _=>True
noncomputable def Z18 {α:Type} (o:Option α) (k:α→Prop):Prop:=∀ ⦃v:α⦄,o = some v→k v
noncomputable def okT {α:Type} (m:R α) (k:α→St→Prop):Prop:=∀ ⦃v:α⦄ ⦃ρ:List (Option V)⦄ ⦃σ:List O⦄,m = .ok v ⟨ρ,σ⟩→k v ⟨ρ,σ⟩
noncomputable def nzT (b:Int) (P:Prop):Prop:=(b == 0) = false→P
noncomputable def binT (op:Op) (x y:V) (k:V→Prop):Prop:=match op with
 | .add=>(match x with
  | .int a=>(match y with | .int b=>k (.int (a + b)) | _=>True)
  | _=>Z18 (Z4d x y) k)
 | .mul=>Z18 (Z6y x y) k
 | .fdiv=>intT x y fun a b=>nzT b (k (.int (Int.fdiv a b)))
 | .mod=>intT x y fun a b=>nzT b (k (.int (Int.fmod a b)))
 | .pow=>Z18 (Z2R .pow x y) k
noncomputable def eqT (σ:List O) (op:Cm) (x y:V) (k:Bool→Prop):Prop:=Z18 (Z0r σ op x y) k
noncomputable def cmpT (σ:List O) (op:Cm) (x y:V) (k:Bool→Prop):Prop:=match op with
 | .lt=>intT x y fun a b=>k (decide (a < b))
 | .gt=>intT x y fun a b=>k (decide (a > b))
 | .ge=>intT x y fun a b=>k (decide (a ≥ b))
 | .eq=>(match x with
  | .int a=>(match y with | .int b=>k (a == b) | _=>True)
  | .str a=>(match y with | .str b=>k (a == b) | _=>True)
  | _=>Z18 (Z0r σ .eq x y) k)
 | .ne=>(match x with
  | .int a=>(match y with | .int b=>k (!(a == b)) | _=>True)
  | .str a=>(match y with | .str b=>k (!(a == b)) | _=>True)
  | _=>Z18 (Z0r σ .ne x y) k)
 | .is=>(match y with | .none=>k x.isNone | _=>True)
 | .isnot=>(match y with | .none=>k (!x.isNone) | _=>True)
 | .isin=>Z18 (inD σ x y) k
 | .notin=>Z18 (inD σ x y) fun b=>k (!b)
noncomputable def truT (σ:List O) (x:V) (k:Bool→Prop):Prop:=match x with
 | .bool b=>k b
 | .int i=>k (i != 0)
 | .none=>k false
 | .str s=>k (!s.isEmpty)
 | .tup xs=>k (!xs.isEmpty)
 | .lst xs=>k (!xs.isEmpty)
 | x=>Z18 (x.truthy σ) k
noncomputable def brT (t:Bool) (A B:Prop):Prop:=∀ ⦃b:Bool⦄,t = b→cond b A B
noncomputable def isT {α:Type} (x:α) (k:α→Prop):Prop:=∀ ⦃y:α⦄,x = y→k y
noncomputable def newT (σ:List O) (o:O) (k:Nat→List O→Prop):Prop:=∀ ⦃n:Nat⦄ ⦃σ':List O⦄,σ.length = n→σ++[o] = σ'→k n σ'
noncomputable def V.wb:V→Bool→V
 | .bool _,b=>.bool b
 | x,_=>x
noncomputable def locT (o:Option (Option V)) (k:V→Prop):Prop:=match o with
 | some (some v)=>k v
 | _=>True
noncomputable def fzT (i:Nat) (st:St) (k:V→St→Prop):Prop:=locT st.ρ[i]? fun v=>match v with
 | .ref n=>∀ ⦃xs:List V⦄ ⦃σ:List O⦄,st.σ[n]? = some (.lst xs)→st.σ.set n .dead = σ→k (.lst xs) ⟨st.ρ.set i (some (.lst xs)),σ⟩
 | .lst xs=>k (.lst xs) st
 | _=>True
noncomputable def nlen:Nat→Exs→Bool
 | _,.nil=>true
 | 0,.cons _ _=>false
 | n + 1,.cons _ es=>nlen n es
noncomputable def shT (b:Bool) (P:Prop):Prop:=match b with
 | true=>P
 | false=>True
mutual
noncomputable def tlE (F:Fn):Ex→St→(V→St→Prop)→Prop
 | .none,st,k=>k .none st
 | .bool b,st,k=>k (.bool b) st
 | .int i,st,k=>k (.int i) st
 | .str s,st,k=>k (.str s.cps.toList) st
 | .loc i,st,k=>locT st.ρ[i]? fun v=>k v st
 | .fz i,st,k=>fzT i st k
 | .bin op a b,st,k=>tlE F a st fun x st=>tlE F b st fun y st=>binT op x y fun v=>k v st
 | .cmp op a b,st,k=>tlE F a st fun x st=>tlE F b st fun y st=>cmpT st.σ op x y fun v=>k (.bool v) st
 | .band a b,st,k=>tlE F a st fun x st=>truT st.σ x fun t=>brT t (tlE F b st k) (k (x.wb false) st)
 | .bor a b,st,k=>tlE F a st fun x st=>truT st.σ x fun t=>brT t (k (x.wb true) st) (tlE F b st k)
 | .not a,st,k=>tlE F a st fun x st=>truT st.σ x fun t=>k (.bool (!t)) st
 | .neg i,st,k=>k (.int (-i)) st
 | .ite c a b,st,k=>tlE F c st fun x st=>truT st.σ x fun t=>brT t (tlE F a st k) (tlE F b st k)
 | .tup es,st,k=>shT (nlen 100 es) (tlEs F es st fun xs st=>k (.tup xs) st)
 | .list es,st,k=>shT (nlen 100 es) (tlEs F es st fun xs st=>k (.lst xs) st)
 | .listM es,st,k=>shT (nlen 100 es) (tlEs F es st fun xs st=>newT st.σ (.lst xs) fun n σ=>k (.ref n) ⟨st.ρ,σ⟩)
 | .sub a i,st,k=>tlE F a st fun x st=>tlE F i st fun y st=>Z18 (Z0h st.σ x y) fun v=>k v st
 | .slice a lo hi,st,k=>tlE F a st fun x st=>tlO F lo st fun l st=>tlO F hi st fun h st=>Z18 (Z0k st.σ x l h) fun v=>k v st
 | .isin a t,st,k=>tlE F a st fun x st=>Z18 (ZbT st.σ t x) fun v=>k (.bool v) st
 | .bi f a,st,k=>tlE F a st fun x st=>Z18 (Z0x st.σ f x) fun v=>k v st
 | .me m a b,st,k=>tlE F a st fun x st=>Z58 st.σ m x = true→tlE F b st fun y st=>okT (Z0S m x y st) k
 | .call f es,st,k=>tlEs F es st fun xs st=>okT (F f xs st.σ) fun v s=>k v ⟨st.ρ,s.σ⟩
 | .callD f es,st,k=>tlEs F es st fun xs st=>okT (Z36 F f xs st.σ) fun v s=>k v ⟨st.ρ,s.σ⟩
 | .comp m elt j it,st,k=>okT (evE F (.comp m elt j it) st) k
 | .dictK,st,k=>newT st.σ (.kdict []) fun n σ=>k (.ref n) ⟨st.ρ,σ⟩
 | .chain a o1 b o2 c,st,k=>tlE F a st fun x st=>tlE F b st fun y st=>cmpT st.σ o1 x y fun t=>brT t (tlE F c st fun z st=>cmpT st.σ o2 y z fun v=>k (.bool v) st) (k (.bool false) st)
 | .dict1 a b,st,k=>newT st.σ .priv fun n σ=>tlE F a ⟨st.ρ,σ⟩ fun x st₁=>tlE F b st₁ fun y st₂=>okT (Z4e n x y st₂) k
 | .lenSet a,st,k=>tlE F a st fun x st=>Z18 (Z2i st.σ x) fun (v:Nat)=>k (.int (v:Int)) st
 | .listR a,st,k=>tlE F a st fun x st=>Z18 (Z3p x) fun v=>k v st
 | .setd a b c,st,k=>tlE F a st fun x st=>Z18 (x.ref?.bind fun n=>Z0p st.σ[n]?) fun _=>tlE F b st fun y st=>tlE F c st fun z st=>okT (Z4A x y z st) k
 | .compH elt j a,st,k=>okT (evE F (.compH elt j a) st) k
noncomputable def tlEs (F:Fn):Exs→St→(List V→St→Prop)→Prop
 | .nil,st,k=>k [] st
 | .cons e es,st,k=>tlE F e st fun x st=>tlEs F es st fun xs st=>k (x :: xs) st
noncomputable def tlO (F:Fn):Exo→St→(V→St→Prop)→Prop
 | .none,st,k=>k .none st
 | .some e,st,k=>tlE F e st k
noncomputable def tlIt (F:Fn):It→St→(List V→St→Prop)→Prop
 | .val e,st,k=>tlE F e st fun x st=>Z18 (Z39 st.σ x) fun v=>k v st
 | .range1 a,st,k=>tlE F a st fun x st=>(match x with
  | .int n=>isT n fun n=>Z19 n = true→k (upTo 0 n) st
  | _=>True)
 | .enum a,st,k=>tlE F a st fun x st=>okT (ZbV x st) k
 | .zip a b,st,k=>tlE F a st fun x st=>tlE F b st fun y st=>okT (zipR x y st) k
end
noncomputable def cdT (o:Bool) (A B:Prop):Prop:=match o with
 | false=>A
 | true=>B
noncomputable def flT (fl:Fl) (A:Prop) (B:Prop):Prop:=match fl with
 | .next=>A
 | _=>B
mutual
noncomputable def tlS (F:Fn) (K:Nat) (o:Bool):Sm→St→(Fl→St→Prop)→Prop
 | .asg i e,st,k=>tlE F e st fun x st=>isT x fun x=>k .next ⟨st.ρ.set i (some x),st.σ⟩
 | .asgT is e,st,k=>tlE F e st fun x st=>okT (asT is x st) fun _ st=>k .next st
 | .expr e,st,k=>tlE F e st fun _ st=>k .next st
 | .ret e,st,k=>tlE F e st fun x st=>isT x fun x=>k (.ret x) st
 | .ifte c t f,st,k=>cdT o (tlE F c st fun x st=>truT st.σ x fun b=>brT b (tlSs F K o t st k) (tlSs F K o f st k)) (okT (Z04 (evE F c st)) fun b st=>cond b (tlSs F K o t st k) (tlSs F K o f st k))
 | .for1 i it body,st,k=>tlIt F it st fun items st=>okT (forR (fun x st=>evSs F K body (setV st i x)) items st) k
 | .forT is it body,st,k=>tlIt F it st fun items st=>okT (forR (fun x st=>(asT is x st).bind fun _ st=>evSs F K body st) items st) k
 | .while c body,st,k=>okT (Z0y (fun st=>Z04 (evE F c st)) (fun st=>evSs F K body st) K st) k
 | .asgI a i e,st,k=>tlE F e st fun v st=>tlE F a st fun x st=>tlE F i st fun y st=>okT (setI x y v st) k
noncomputable def tlSs (F:Fn) (K:Nat) (o:Bool):Sms→St→(Fl→St→Prop)→Prop
 | .nil,st,k=>k .next st
 | .cons s ss,st,k=>tlS F K o s st fun fl st=>flT fl (tlSs F K o ss st k) (k fl st)
end
section
variable {F:Fn} {K:Nat} {st:St}
noncomputable def Aft {α:Type} (m:R α) (k:α→St→Prop):Prop:=∀ v st',m = .ok v st'→k v st'
theorem Aft.bind {α β:Type} {m:R α} {f:α→St→R β} {k:β→St→Prop} (h:Aft (m.bind f) k):Aft m fun a st=>Aft (f a st) k:=fun a st e b st' e'=>h b st' ((congrArg (fun m=>R.bind m f) e).trans e')
theorem Aft.at {α:Type} {a:α} {k:α→St→Prop} (h:Aft (.ok a st) k):k a st:=h a st rfl
theorem Aft.lift {α:Type} {o:Option α} {k:α→St→Prop} (h:Aft (R.lift o st) k):Z18 o fun a=>k a st:=fun v e=>h v st (congrArg (fun o=>R.lift o st) e)
theorem Aft.liftB {o:Option Bool} {k:V→St→Prop} (h:Aft (R.lift (o.map V.bool) st) k):Z18 o fun a=>k (.bool a) st:=fun v e=>h _ st (congrArg (fun o=>R.lift (o.map V.bool) st) e)
theorem Aft.ok {α:Type} {m:R α} {k:α→St→Prop} (h:Aft m k):okT m k:=fun v ρ σ e=>h v ⟨ρ,σ⟩ e
theorem Aft.int {x y:V} {g:Int→Int→Option V} {k:V→St→Prop} (h:Aft (R.lift (onI x y g) st) k):intT x y fun a b=>Z18 (g a b) fun v=>k v st:=by
 cases x <;> first | trivial | (cases y <;> first | trivial | exact h.lift)
theorem Aft.ifs {α:Type} {p:Prop} [Decidable p] {a b:R α} {k:α→St→Prop} (h:Aft (if p then a else b) k) (hp:p):Aft a k:=by rw [if_pos hp] at h; exact h
theorem Aft.br {α:Type} {t:Bool} {a b:R α} {k:α→St→Prop} (h:Aft (if t then a else b) k):brT t (Aft a k) (Aft b k):=fun u e=>by
 subst e
 cases t with
 | true=>exact h
 | false=>exact h
theorem brT.imp {t:Bool} {A B A' B':Prop} (h:brT t A B) (a:A→A') (b:B→B'):brT t A' B':=fun u e=>by
 have q:=h e
 cases u with
 | true=>exact a q
 | false=>exact b q
theorem Ze8 {σ:List O} {x:V} {t:Bool} (h:x.truthy σ = some t):x = x.wb t:=by
 cases x <;> first | rfl | exact congrArg V.bool (Option.some.inj h)
theorem brT.impf {σ:List O} {x:V} {t:Bool} {A A' B:Prop} {k:V→St→Prop} {st:St} (h:brT t A B) (e:x.truthy σ = some t) (a:A→A') (b:B→k x st):brT t A' (k (x.wb false) st):=fun u q=>by
 have r:=h q
 cases u with
 | true=>exact a r
 | false=>rw [q] at e; rw [← Ze8 e]; exact b r
theorem brT.impt {σ:List O} {x:V} {t:Bool} {A B B':Prop} {k:V→St→Prop} {st:St} (h:brT t A B) (e:x.truthy σ = some t) (a:A→k x st) (b:B→B'):brT t (k (x.wb true) st) B':=fun u q=>by
 have r:=h q
 cases u with
 | true=>rw [q] at e; rw [← Ze8 e]; exact a r
 | false=>exact b r
theorem ZeJ {op:Op} {x y:V} {k:V→St→Prop} (h:Aft (R.lift (Z2R op x y) st) k):binT op x y fun v=>k v st:=by
 have h:=h.lift
 cases op with
 | add=>cases x <;> first | exact h | (cases y <;> first | trivial | exact h rfl)
 | mul=>exact h
 | fdiv=>cases x <;> first | trivial | (cases y <;> first | trivial | exact fun e=>h (if_neg (ne_of_beq_false e)))
 | mod=>cases x <;> first | trivial | (cases y <;> first | trivial | exact fun e=>h (if_neg (ne_of_beq_false e)))
 | pow=>exact h
theorem ZcY {σ:List O} {op:Cm} {x y:V} {k:Bool→Prop} (h:Z18 (Z0r σ op x y) k):cmpT σ op x y k:=by
 cases op with
 | lt=>cases x <;> first | trivial | (cases y <;> first | trivial | exact h rfl)
 | gt=>cases x <;> first | trivial | (cases y <;> first | trivial | exact h rfl)
 | ge=>cases x <;> first | trivial | (cases y <;> first | trivial | exact h rfl)
 | eq=>cases x <;> first | exact h | (cases y <;> first | trivial | exact h rfl)
 | ne=>cases x <;> first | exact h | (cases y <;> first | trivial | exact h rfl)
 | is=>cases y <;> first | trivial | exact h rfl
 | isnot=>cases y <;> first | trivial | exact h rfl
 | isin=>exact h
 | notin=>exact fun b e=>h (congrArg (Option.map not) e)
theorem ZcZ {σ:List O} {x:V} {k:Bool→Prop} (h:Z18 (x.truthy σ) k):truT σ x k:=by
 cases x <;> first | exact h | exact h rfl
theorem Ze9 {o:Option (Option V)} {k:V→Prop} (h:∀ v,o = some (some v)→k v):locT o k:=by
 rcases o with _ | _ | v
 ·trivial
 ·trivial
 ·exact h v rfl
theorem fz_t {i:Nat} {k:V→St→Prop} (h:Aft (evE F (.fz i) st) k):fzT i st k:=by
 refine Ze9 fun v e=>?_
 cases v <;> first | trivial | skip
 ·have h:=h
  rw [Z7P,e] at h
  exact h.at
 ·intro xs σ e1 e2
  subst e2
  rw [Z7P,e] at h
  dsimp only at h
  rw [e1] at h
  exact h.at
theorem Z8P:∀ (es:Exs) (n:Nat),nlen n es = true→∀ (st:St),Aft (evEs F es st) fun xs _=>xs.length ≤ n :=
 Exs.rec (motive_1:=fun _=>True) (motive_3:=fun _=>True) (motive_4:=fun _=>True) (motive_2:=fun es=>∀ n,nlen n es = true→∀ st,Aft (evEs F es st) fun xs _=>xs.length ≤ n)
  (by intros; trivial) (by intros; trivial) (by intros; trivial) (by intros; trivial) (by intros; trivial) (by intros; trivial) (by intros; trivial) (by intros; trivial) (by intros; trivial) (by intros; trivial) (by intros; trivial) (by intros; trivial) (by intros; trivial) (by intros; trivial) (by intros; trivial) (by intros; trivial) (by intros; trivial) (by intros; trivial) (by intros; trivial) (by intros; trivial) (by intros; trivial) (by intros; trivial) (by intros; trivial) (by intros; trivial) (by intros; trivial) (by intros; trivial) (by intros; trivial) (by intros; trivial) (by intros; trivial) (by intros; trivial) (by intros; trivial)
  (fun n _ st v st' e=>by cases (e:R.ok [] st = _); exact Nat.zero_le _)
  (fun e es _ ih n q st v st' h=>by
   cases n with
   | zero=>cases q
   | succ n=>
    refine El.x2_2 (R.bind_inv (f:=fun x st=>(evEs F es st).bind fun xs st=>.ok (x :: xs) st) h) fun x st₁ _ h2=>?_
    refine El.x2_2 (R.bind_inv h2) fun ys st₂ h3 h4=>?_
    cases h4; exact Nat.succ_le_succ (ih n q st₁ ys _ h3))
  (by intros; trivial) (by intros; trivial) (by intros; trivial) (by intros; trivial) (by intros; trivial) (by intros; trivial)
theorem sh_t {b:Bool} {P:Prop} (h:b = true→P):shT b P:=by
 cases b with
 | true=>exact h rfl
 | false=>trivial
theorem Aft.step {α β:Type} {m:R α} {f:α→St→R β} {k:β→St→Prop} {k':α→St→Prop} (h:Aft (m.bind f) k) (g:∀ a st,Aft (f a st) k→k' a st):Aft m k':=fun a st e=>g a st fun b st' e'=>h b st' ((congrArg (fun m=>R.bind m f) e).trans e')
theorem Aft.tru {m:R V} {k:Bool→St→Prop} (h:Aft (Z04 m) k):Aft m fun x st=>truT st.σ x fun t=>k t st:=Aft.step h fun _ _ h=>ZcZ h.lift
theorem Aft.trus {β:Type} {m:R V} {f:Bool→St→R β} {k:β→St→Prop} {k':V→St→Prop} (h:Aft ((Z04 m).bind f) k) (g:∀ x st,truT st.σ x (fun t=>Aft (f t st) k)→k' x st):Aft m k':=fun a st e=>g a st (h.bind.tru a st e)
theorem truT.imp {σ:List O} {x:V} {k k':Bool→Prop} (h:truT σ x k) (g:∀ t,k t→k' t):truT σ x k':=by
 cases x <;> first | exact g _ h | exact fun v e=>g _ (h e)
theorem Aft.size {c:List V→V} {es:Exs} {k:V→St→Prop} {f:List V→St→St} (h:Aft ((evEs F es st).bind fun xs st=>if xs.length ≤ sizeLine then .ok (c xs) (f xs st) else .stuck) k) (q:nlen 100 es = true):Aft (evEs F es st) fun xs st=>k (c xs) (f xs st):=fun xs st' e=>by
 exact (h.bind xs st' e).ifs (Nat.le_trans (Z8P es 100 q st xs st' e) (by decide)) |>.at
theorem Zd0 {σ:List O} {o:O} {k:Nat→List O→Prop} (h:k σ.length (σ++[o])):newT σ o k:=fun _ _ e e'=>e ▸ e' ▸ h
theorem okc {m:R V} {ρ:List (Option V)} {k:V→St→Prop} (h:Aft (Z7n m ρ) k):okT m fun v s=>k v ⟨ρ,s.σ⟩:=fun v ρ' σ e=>h v ⟨ρ,σ⟩ (congrArg (fun m=>Z7n m ρ) e)
theorem Z0s (F:Fn) (e:Ex):∀ st k,Aft (evE F e st) k→tlE F e st k :=
 Ex.rec (motive_1:=fun e=>∀ st k,Aft (evE F e st) k→tlE F e st k) (motive_2:=fun e=>∀ st k,Aft (evEs F e st) k→tlEs F e st k) (motive_3:=fun e=>∀ st k,Aft (evO F e st) k→tlO F e st k) (motive_4:=fun _=>True)
  (fun st k h=>h.at) (fun b st k h=>h.at) (fun i st k h=>h.at) (fun x st k h=>h.at)
  (fun i st k h=>Ze9 fun v e=>by rw [Z64,e] at h; exact h.at)
  (fun i st k h=>fz_t h)
  (fun op a b iha ihb st k h=>iha st _ (Aft.step h fun x st h=>ihb st _ (Aft.step h fun y st h=>ZeJ h)))
  (fun op a b iha ihb st k h=>iha st _ (Aft.step h fun x st h=>ihb st _ (Aft.step h fun y st h=>ZcY h.liftB)))
  (fun a b iha ihb st k h=>iha st _ (Aft.step h fun x st h=>ZcZ fun t e=>(h.bind t st (congrArg (fun o=>R.lift o st) e)).br.impf e (ihb st k) fun h=>h.at))
  (fun a b iha ihb st k h=>iha st _ (Aft.step h fun x st h=>ZcZ fun t e=>(h.bind t st (congrArg (fun o=>R.lift o st) e)).br.impt e (fun h=>h.at) (ihb st k)))
  (fun a iha st k h=>iha st _ (Aft.trus h fun x st h=>h.imp fun t h=>h.at))
  (fun i st k h=>h.at)
  (fun c a b ihc iha ihb st k h=>ihc st _ (Aft.trus h fun x st h=>h.imp fun t h=>h.br.imp (iha st k) (ihb st k)))
  (fun es ih st k h=>sh_t fun q=>ih st _ (Aft.size (c:=V.tup) (f:=fun _ st=>st) h q))
  (fun es ih st k h=>sh_t fun q=>ih st _ (Aft.size (c:=V.lst) (f:=fun _ st=>st) h q))
  (fun es ih st k h=>sh_t fun q=>ih st _ fun xs st' e=>(Aft.bind (β:=V) (f:=fun xs st=>if xs.length ≤ sizeLine then .ok (V.ref st.σ.length) ⟨st.ρ,st.σ++[O.lst xs]⟩ else .stuck) h xs st' e).ifs (Nat.le_trans (Z8P es 100 q st xs st' e) (by decide)) |>.at |> Zd0)
  (fun a b iha ihb st k h=>iha st _ (Aft.step h fun x st h=>ihb st _ (Aft.step h fun y st h=>h.lift)))
  (fun a lo hi iha ihl ihh st k h=>iha st _ (Aft.step h fun x st h=>ihl st _ (Aft.step h fun l st h=>ihh st _ (Aft.step h fun y st h=>h.lift))))
  (fun a t iha st k h=>iha st _ (Aft.step h fun x st h=>h.liftB))
  (fun f a iha st k h=>iha st _ (Aft.step h fun x st h=>h.lift))
  (fun m a b iha ihb st k h=>iha st _ (Aft.step h fun x st h q=>ihb st _ (Aft.step (h.ifs q) fun y st h=>h.ok)))
  (fun f es ih st k h=>ih st _ (Aft.step h fun xs st h=>okc h))
  (fun f es ih st k h=>ih st _ (Aft.step h fun xs st h=>okc h))
  (fun m elt j it _ _ st k h=>h.ok)
  (fun st k h=>Zd0 (k:=fun n σ=>k (.ref n) ⟨st.ρ,σ⟩) h.at)
  (fun a o1 b o2 c iha ihb ihc st k h=>iha st _ (Aft.step h fun x st h=>ihb st _ (Aft.step h fun y st h=>ZcY fun t e=>(h.bind t st (congrArg (fun o=>R.lift o st) e)).br.imp (fun h=>ihc st _ (Aft.step h fun z st h=>ZcY h.liftB)) fun h=>h.at)))
  (fun a b iha ihb st k h=>Zd0 (iha _ _ (Aft.step h fun x st₁ h=>ihb st₁ _ (Aft.step h fun y st₂ h=>h.ok))))
  (fun a iha st k h=>iha st _ (Aft.step h fun x st h v e=>(h.bind v st (congrArg (fun o=>R.lift o st) e)).at))
  (fun a iha st k h=>iha st _ (Aft.step h fun x st h=>h.lift))
  (fun a b c iha ihb ihc st k h=>iha st _ (Aft.step h fun x st h es e=>ihb st _ (Aft.step (by rw [Z0j e] at h; exact h) fun y st h=>ihc st _ (Aft.step h fun z st h=>h.ok))))
  (fun elt j a _ _ st k h=>h.ok)
  (fun st k h=>h.at)
  (fun e es ihe ihs st k h=>ihe st _ (Aft.step h fun x st h=>ihs st _ (Aft.step h fun xs st h=>h.at)))
  (fun st k h=>h.at) (fun e ih st k h=>ih st k h)
  (fun _ _=>trivial) (fun _ _=>trivial) (fun _ _=>trivial) (fun _ _ _ _=>trivial) e
theorem Z3L (F:Fn) (it:It):∀ st k,Aft (evIt F it st) k→tlIt F it st k :=
 It.casesOn (motive_4:=fun it=>∀ st k,Aft (evIt F it st) k→tlIt F it st k) it
  (fun e st k h=>Z0s F e st _ (Aft.step h fun x st h=>h.lift))
  (fun e st k h=>Z0s F e st _ (Aft.step h fun x st h=>by cases x <;> first | trivial | exact fun m e q=>by subst e; exact (h.ifs q).at))
  (fun e st k h=>Z0s F e st _ (Aft.step h fun x st h=>h.ok))
  (fun a b st k h=>Z0s F a st _ (Aft.step h fun x st h=>Z0s F b st _ (Aft.step h fun y st h=>h.ok)))
theorem Zby {fl:Fl} {ss:Sms} {k:Fl→St→Prop} {P:Prop} (hP:Aft (evSs F K ss st) k→P) (h:Aft (match fl with | .next=>evSs F K ss st | f=>.ok f st) k):flT fl P (k fl st):=by
 cases fl with
 | next=>exact hP h
 | brk=>exact h.at
 | cont=>exact h.at
 | ret v=>exact h.at
theorem cd_t {o:Bool} {A B:Prop} (a:A) (b:B):cdT o A B:=by cases o <;> assumption
theorem Zbz (F:Fn) (K:Nat) (o:Bool):(∀ s st k,Aft (evS F K s st) k→tlS F K o s st k)∧(∀ ss st k,Aft (evSs F K ss st) k→tlSs F K o ss st k) :=
 ⟨fun s=>Sm.rec (motive_1:=fun s=>∀ st k,Aft (evS F K s st) k→tlS F K o s st k) (motive_2:=fun ss=>∀ st k,Aft (evSs F K ss st) k→tlSs F K o ss st k)
  (fun i e st k h=>Z0s F e st _ (Aft.step h fun x st h y e=>e ▸ h.at))
  (fun is e st k h=>Z0s F e st _ (Aft.step h fun x st h=>(Aft.step h fun _ st h=>h.at).ok))
  (fun e st k h=>Z0s F e st _ (Aft.step h fun x st h=>h.at))
  (fun e st k h=>Z0s F e st _ (Aft.step h fun x st h y e=>e ▸ h.at))
  (fun c t f iht ihf st k h=>cd_t (Z0s F c st _ (Aft.trus h fun x st h=>h.imp fun t h=>h.br.imp (iht st k) (ihf st k))) (Aft.ok (Aft.step h fun b st h=>(h.br.imp (iht st k) (ihf st k)) rfl)))
  (fun i it body _ st k h=>Z3L F it st _ (Aft.step h fun xs st h=>h.ok))
  (fun is it body _ st k h=>Z3L F it st _ (Aft.step h fun xs st h=>h.ok))
  (fun c body _ st k h=>h.ok)
  (fun a i e st k h=>Z0s F e st _ (Aft.step h fun v st h=>Z0s F a st _ (Aft.step h fun x st h=>Z0s F i st _ (Aft.step h fun y st h=>h.ok))))
  (fun st k h=>h.at)
  (fun s ss ihs ihss st k h=>ihs st _ (Aft.step h fun fl st h=>Zby (ihss st k) h))
  s,fun ss=>Sms.rec (motive_1:=fun s=>∀ st k,Aft (evS F K s st) k→tlS F K o s st k) (motive_2:=fun ss=>∀ st k,Aft (evSs F K ss st) k→tlSs F K o ss st k)
  (fun i e st k h=>Z0s F e st _ (Aft.step h fun x st h y e=>e ▸ h.at))
  (fun is e st k h=>Z0s F e st _ (Aft.step h fun x st h=>(Aft.step h fun _ st h=>h.at).ok))
  (fun e st k h=>Z0s F e st _ (Aft.step h fun x st h=>h.at))
  (fun e st k h=>Z0s F e st _ (Aft.step h fun x st h y e=>e ▸ h.at))
  (fun c t f iht ihf st k h=>cd_t (Z0s F c st _ (Aft.trus h fun x st h=>h.imp fun t h=>h.br.imp (iht st k) (ihf st k))) (Aft.ok (Aft.step h fun b st h=>(h.br.imp (iht st k) (ihf st k)) rfl)))
  (fun i it body _ st k h=>Z3L F it st _ (Aft.step h fun xs st h=>h.ok))
  (fun is it body _ st k h=>Z3L F it st _ (Aft.step h fun xs st h=>h.ok))
  (fun c body _ st k h=>h.ok)
  (fun a i e st k h=>Z0s F e st _ (Aft.step h fun v st h=>Z0s F a st _ (Aft.step h fun x st h=>Z0s F i st _ (Aft.step h fun y st h=>h.ok))))
  (fun st k h=>h.at)
  (fun s ss ihs ihss st k h=>ihs st _ (Aft.step h fun fl st h=>Zby (ihss st k) h))
  ss⟩
theorem ZbA (F:Fn) (K:Nat) (o:Bool) (s:Sm):∀ st k,Aft (evS F K s st) k→tlS F K o s st k:=(Zbz F K o).1 s
theorem Zd1 (F:Fn) (K:Nat) (o:Bool) (ss:Sms):∀ st k,Aft (evSs F K ss st) k→tlSs F K o ss st k:=(Zbz F K o).2 ss
noncomputable def tlP (F:Fn) (K:Nat) (o:Bool):Nat→Sms→St→(Sms→St→Prop)→Prop
 | 0,ss,st,k=>k ss st
 | _ + 1,.nil,_,_=>True
 | n + 1,.cons s ss,st,k=>tlS F K o s st fun fl st=>flT fl (tlP F K o n ss st k) True
theorem ZbB (F:Fn) (K:Nat) (o:Bool):∀ (n:Nat) (ss:Sms) (st:St) (k:Sms→St→Prop),(∀ ss' st',evSs F K ss st = evSs F K ss' st'→k ss' st')→tlP F K o n ss st k
 | 0,ss,st,k,h=>h ss st rfl
 | _ + 1,.nil,_,_,_=>trivial
 | n + 1,.cons s ss,st,k,h=>ZbA F K o s st _ fun fl st1 e=>by
  cases fl <;> first | trivial | exact ZbB F K o n ss st1 k fun ss' st' q=>h ss' st' ((congrArg (fun m=>R.bind m _) e).trans q)
theorem atS {ss:Sms} {r:R Fl} (t:(tlSs F K false ss st fun fl st'=>evSs F K ss st = .ok fl st')→evSs F K ss st = r):evSs F K ss st = r:=t (Zd1 F K false ss st _ fun _ _ e=>e)
theorem at1 {s:Sm} {r:R Fl} (t:(tlS F K false s st fun fl st'=>evS F K s st = .ok fl st')→evS F K s st = r):evS F K s st = r:=t (ZbA F K false s st _ fun _ _ e=>e)
theorem atE {e:Ex} {r:R V} (t:(tlE F e st fun v st'=>evE F e st = .ok v st')→evE F e st = r):evE F e st = r:=t (Z0s F e st _ fun _ _ e=>e)
theorem atQ {e:Ex} {r:R Bool} (t:(tlE F e st fun v st'=>truT st'.σ v fun b=>Z04 (evE F e st) = .ok b st')→Z04 (evE F e st) = r):Z04 (evE F e st) = r:=t (Z0s F e st _ (Aft.tru (k:=fun b st'=>Z04 (evE F e st) = .ok b st') fun _ _ e=>e))
theorem atP (n:Nat) {ss:Sms} {r:R Fl} (t:(tlP F K false n ss st fun ss' st'=>evSs F K ss st = evSs F K ss' st')→evSs F K ss st = r):evSs F K ss st = r:=t (ZbB F K false n ss st _ fun _ _ e=>e)
theorem atI {e:It} {r:R (List V)} (t:(tlIt F e st fun v st'=>evIt F e st = .ok v st')→evIt F e st = r):evIt F e st = r:=t (Z3L F e st _ fun _ _ e=>e)
theorem ZeK {σ:List O} {x:List Nat} {i:Int} {c:Nat} (h:idxOf x i = some c):Z0h σ (.str x) (.int i) = some (.str [c]):=congrArg (Option.map fun c=>V.str [c]) h
theorem if_t {c:Ex} {A B:Sms} {st':St} (h:Z04 (evE F c st) = .ok true st'):evS F K (.ifte c A B) st = evSs F K A st':=(congrArg (fun m=>R.bind m _) h).trans rfl
theorem if_f {c:Ex} {A B:Sms} {st':St} (h:Z04 (evE F c st) = .ok false st'):evS F K (.ifte c A B) st = evSs F K B st':=(congrArg (fun m=>R.bind m _) h).trans rfl
theorem one1 {s:Sm} {fl:Fl} {st':St} (h:evS F K s st = .ok fl st'):evSs F K (.cons s .nil) st = .ok fl st':=(congrArg (fun m=>R.bind m _) h).trans (by cases fl <;> rfl)
theorem Zea {s:Sm} {ss:Sms} {st':St} (h:evS F K s st = .ok .next st'):evSs F K (.cons s ss) st = evSs F K ss st':=(congrArg (fun m=>R.bind m _) h).trans rfl
theorem nn {b c:Bool} (h:b = c):(!!b) = c:=(Bool.not_not b).trans h
theorem nz {i:Int} (h:i ≠ 0):(i == 0) = false:=beq_eq_false_iff_ne.mpr h
end
noncomputable def S4 (a1 a2 a3 a4:Option V) (σ:List O):St:=⟨[a1,a2,a3,a4],σ⟩
noncomputable def S5 (a1 a2 a3 a4 a5:Option V) (σ:List O):St:=⟨[a1,a2,a3,a4,a5],σ⟩
noncomputable def S6 (a1 a2 a3 a4 a5 a6:Option V) (σ:List O):St:=⟨[a1,a2,a3,a4,a5,a6],σ⟩
noncomputable def S7 (a1 a2 a3 a4 a5 a6 a7:Option V) (σ:List O):St:=⟨[a1,a2,a3,a4,a5,a6,a7],σ⟩
noncomputable def S8 (a1 a2 a3 a4 a5 a6 a7 a8:Option V) (σ:List O):St:=⟨[a1,a2,a3,a4,a5,a6,a7,a8],σ⟩
noncomputable def S9 (a1 a2 a3 a4 a5 a6 a7 a8 a9:Option V) (σ:List O):St:=⟨[a1,a2,a3,a4,a5,a6,a7,a8,a9],σ⟩
noncomputable def S11 (a1 a2 a3 a4 a5 a6 a7 a8 a9 a10 a11:Option V) (σ:List O):St:=⟨[a1,a2,a3,a4,a5,a6,a7,a8,a9,a10,a11],σ⟩
noncomputable def S12 (a1 a2 a3 a4 a5 a6 a7 a8 a9 a10 a11 a12:Option V) (σ:List O):St:=⟨[a1,a2,a3,a4,a5,a6,a7,a8,a9,a10,a11,a12],σ⟩
noncomputable def S14 (a1 a2 a3 a4 a5 a6 a7 a8 a9 a10 a11 a12 a13 a14:Option V) (σ:List O):St:=⟨[a1,a2,a3,a4,a5,a6,a7,a8,a9,a10,a11,a12,a13,a14],σ⟩
end Mine
namespace Mine
section
variable {κ:Type} [DecidableEq κ]
theorem Z1Y:∀ {l U:List κ},l.Nodup→(∀ x ∈ l,x ∈ U)→l.length ≤ U.length
 | [],_,_,_=>Nat.zero_le _
 | x :: l,U,h,s=>by
  have hx:=s x List.mem_cons_self
  have:=Z1Y (l:=l) (U:=U.erase x) (List.nodup_cons.mp h).2 fun y hy=>(List.mem_erase_of_ne (fun (e:y = x)=>(List.nodup_cons.mp h).1 (by rw [← e]; exact hy))).mpr (s y (List.mem_cons_of_mem _ hy))
  rw [List.length_erase_of_mem hx] at this
  have:=List.length_pos_of_mem hx
  simp only [List.length_cons]; omega
theorem pig:∀ {l r:List κ},r.Nodup→(∀ x ∈ r,x ∈ l)→l.length ≤ r.length→l.Nodup
 | [],_,_,_,_=>List.nodup_nil
 | x :: l,r,hr,hs,hl=>by
  have hx:x ∉ l:=fun hx=>by
   have:=Z1Y hr (fun y hy=>(List.mem_cons.mp (hs y hy)).elim (fun e=>e ▸ hx) id:∀ y ∈ r,y ∈ l)
   simp only [List.length_cons] at hl; omega
  refine List.nodup_cons.mpr ⟨hx,pig (r:=r.erase x) (hr.erase x) (fun y hy=>?_) ?_⟩
  ·have h1:=List.mem_of_mem_erase hy
   exact (List.mem_cons.mp (hs y h1)).elim (fun e=>absurd (e ▸ hy) hr.not_mem_erase) id
  ·have:=List.le_length_erase (a:=x) (l:=r)
   simp only [List.length_cons] at hl; omega
noncomputable def addU (u:List κ) (x:κ):List κ:=if x ∈ u then u else u++[x]
noncomputable def uqF (u l:List κ):List κ:=l.foldl addU u
theorem addU_mem {u:List κ} {x y:κ}:y ∈ addU u x↔y ∈ u ∨ y = x:=by
 unfold addU
 split
 ·rename_i h; exact ⟨.inl,fun q=>q.elim id fun e=>e ▸ h⟩
 ·simp
theorem Z8Q {u:List κ} (h:u.Nodup) (x:κ):(addU u x).Nodup:=by
 unfold addU
 split
 ·exact h
 ·rename_i hx
  rw [List.nodup_append]
  exact ⟨h,by simp,fun a ha b hb e=>hx (by simp at hb; subst hb; subst e; exact ha)⟩
theorem Z6U (u:List κ) (x:κ):∃ r,addU u x = u++r:=by
 unfold addU
 split
 ·exact ⟨[],(List.append_nil _).symm⟩
 ·exact ⟨_,rfl⟩
theorem Z8R {y:κ}:∀ {l u:List κ},y ∈ uqF u l↔y ∈ u ∨ y ∈ l
 | [],u=>by simp [uqF]
 | x :: l,u=>by
  show y ∈ uqF (addU u x) l↔_
  rw [Z8R,addU_mem,List.mem_cons,or_assoc]
theorem ZbC:∀ {l u:List κ},u.Nodup→(uqF u l).Nodup
 | [],_,h=>h
 | x :: l,_,h=>ZbC (l:=l) (Z8Q h x)
theorem Z8S:∀ (l u:List κ),∃ r,uqF u l = u++r
 | [],u=>⟨[],(List.append_nil _).symm⟩
 | x :: l,u=>by
  obtain ⟨r,h⟩:=Z6U u x
  obtain ⟨r',h'⟩:=Z8S l (addU u x)
  exact ⟨r++r',by show uqF (addU u x) l = _; rw [h',h,List.append_assoc]⟩
theorem ZaF (u l:List κ) (x:κ):uqF u (l++[x]) = addU (uqF u l) x:=by unfold uqF; rw [List.foldl_append]; rfl
noncomputable def uq (l:List κ):List κ:=uqF [] l
theorem uq_mem {y:κ} {l:List κ}:y ∈ uq l↔y ∈ l:=by unfold uq; rw [Z8R]; simp
theorem Zeb (l:List κ):(uq l).Nodup:=ZbC List.nodup_nil
theorem ZaG (l:List κ):(uq l).length ≤ l.length:=Z1Y (Zeb l) fun _ h=>uq_mem.mp h
theorem Z2c (l:List κ) (x:κ):uq (l++[x]) = addU (uq l) x:=ZaF _ _ _
theorem Z6V:∀ {l u:List κ},(u++l).Nodup→uqF u l = u++l
 | [],u,_=>(List.append_nil _).symm
 | x :: l,u,h=>by
  have hx:x ∉ u:=fun hx=>(List.nodup_append.mp h).2.2 x hx x List.mem_cons_self rfl
  show uqF (addU u x) l = _
  have e:addU u x = u++[x]:=if_neg hx
  have e':u++x :: l = (u++[x])++l:=by simp
  rw [e,e',Z6V (by rw [← e']; exact h)]
theorem Zd2 {l:List κ} (h:l.Nodup):uq l = l:=Z6V (u:=[]) h
noncomputable def nmb (l:List κ) (x:κ):Nat:=(uq l).idxOf x
noncomputable def nums (l:List κ):List Nat:=l.map (nmb l)
theorem Z4Q {u:List κ} (r:List κ) {x:κ} (h:x ∈ u):(u++r).idxOf x = u.idxOf x:=by rw [List.idxOf_append,if_pos h]
theorem Z4R {u:List κ} (r:List κ) {x:κ} (h:x ∉ u):(u++x :: r).idxOf x = u.length:=by rw [List.idxOf_append,if_neg h]; simp
theorem Zd3 {u:List κ} {x y:κ} (hx:x ∈ u) (h:u.idxOf x = u.idxOf y):x = y:=by
 have h1:=List.idxOf_lt_length_of_mem hx
 have h2:u[u.idxOf x]'h1 = x:=List.getElem_idxOf h1
 have h3:u[u.idxOf y]'(h ▸ h1) = y:=List.getElem_idxOf (h ▸ h1)
 rw [← h2,← h3]; simp only [h]
theorem Z3M {l:List κ} {x y:κ} (hx:x ∈ l) (h:nmb l x = nmb l y):x = y:=Zd3 (uq_mem.mpr hx) h
theorem ZbD {l:List κ} {x:κ} (hx:x ∈ l):nmb l x < (uq l).length:=List.idxOf_lt_length_of_mem (uq_mem.mpr hx)
theorem Z4S {l:List κ} {j:Nat} (h:j < (uq l).length):∃ x ∈ l,nmb l x = j :=
 ⟨(uq l)[j],uq_mem.mp (List.getElem_mem h),(Zeb l).idxOf_getElem j h⟩
theorem Z3N (l:List κ) (x:κ):nums (l++[x]) = nums l++[(addU (uq l) x).idxOf x]:=by
 unfold nums
 rw [List.map_append]
 congr 1
 ·refine List.map_congr_left fun y hy=>?_
  unfold nmb
  rw [Z2c]
  obtain ⟨r,hr⟩:=Z6U (uq l) x
  rw [hr,Z4Q r (uq_mem.mpr hy)]
 ·show [nmb (l++[x]) x] = _
  unfold nmb; rw [Z2c]
theorem Z6g {u:List κ} {x:κ} (h:x ∈ u):(addU u x).idxOf x = u.idxOf x:=by unfold addU; rw [if_pos h]
theorem Z2d {u:List κ} {x:κ} (h:x ∉ u):(addU u x).idxOf x = u.length:=by unfold addU; rw [if_neg h]; exact Z4R [] h
theorem Z6W (l:List κ):(nums l).length = l.length:=List.length_map _
end
theorem Z5z {n i:Nat} (h:i < n):(List.range n).idxOf i = i:=by
 have:=List.nodup_range.idxOf_getElem i (by simpa using h:i < (List.range n).length)
 rwa [List.getElem_range] at this
theorem Z4T {κ:Type} [DecidableEq κ] (l:List κ):uq (nums l) = List.range (uq l).length:=by
 have key:∀ (b a:List κ),l = a++b→uqF (List.range (uq a).length) (b.map (nmb l)) = List.range (uq l).length:=by
  intro b
  induction b with
  | nil=>intro a e; rw [e,List.append_nil]; rfl
  | cons x b ih=>
   intro a e
   have e':l = (a++[x])++b:=by rw [e]; simp
   have ih':=ih _ e'
   obtain ⟨r,hr⟩:∃ r,uq l = addU (uq a) x++r:=by
    have:uq l = uqF (addU (uq a) x) b:=by rw [← Z2c,e']; unfold uq uqF; rw [List.foldl_append]
    rw [this]; exact Z8S _ _
   have hn:nmb l x = (addU (uq a) x).idxOf x:=by unfold nmb; rw [hr,Z4Q r (addU_mem.mpr (.inr rfl))]
   rw [← ih']
   show uqF (addU (List.range (uq a).length) (nmb l x)) (b.map (nmb l)) = _
   congr 1
   rw [Z2c]
   by_cases hx:x ∈ uq a
   ·have h1:addU (uq a) x = uq a:=if_pos hx
    rw [hn,h1]
    exact if_pos (List.mem_range.mpr (List.idxOf_lt_length_of_mem hx))
   ·have h1:addU (uq a) x = uq a++[x]:=if_neg hx
    rw [hn,Z2d hx,h1,List.length_append,List.length_singleton,List.range_succ]
    exact if_neg (by simp)
 exact key l [] rfl
theorem Z1m {κ:Type} [DecidableEq κ] (l:List κ):nums (nums l) = nums l:=by
 have h:∀ j ∈ nums l,nmb (nums l) j = j:=fun j hj=>by
  unfold nmb
  rw [Z4T]
  obtain ⟨x,hx,rfl⟩:=List.mem_map.mp hj
  exact Z5z (ZbD hx)
 show (nums l).map (nmb (nums l)) = _
 rw [List.map_congr_left h,List.map_id']
theorem Z4r {l:List Nat} (h:nums l = l) (hd:l.Nodup):l = List.range l.length:=by
 have:=Z4T l
 rwa [h,Zd2 hd] at this
theorem stab {κ:Type} [DecidableEq κ] (N:Nat) (key:Nat→κ) (K:Nat→Nat) (g:κ→Nat) (hg:∀ s,s < N→g (key s) = K s) (c:Nat) (hc:∀ j,j < c→∃ s,s < N∧K s = j)
  (hl:(uq ((List.range N).map key)).length ≤ c) {s t:Nat} (hs:s < N) (ht:t < N) (h:K s = K t):key s = key t:=by
 have hm:∀ {s},s < N→key s ∈ uq ((List.range N).map key):=fun hs=>uq_mem.mpr (List.mem_map_of_mem (List.mem_range.mpr hs))
 have hn:((uq ((List.range N).map key)).map g).Nodup:=pig (r:=List.range c) List.nodup_range (fun j hj=>by
  obtain ⟨s,hs,e⟩:=hc j (List.mem_range.mp hj)
  exact List.mem_map.mpr ⟨key s,hm hs,(hg s hs).trans e⟩) (by rw [List.length_map,List.length_range]; exact hl)
 obtain ⟨i,hi,ei⟩:=List.mem_iff_getElem.mp (hm hs)
 obtain ⟨j,hj,ej⟩:=List.mem_iff_getElem.mp (hm ht)
 have:=(List.getElem?_inj (i:=i) (j:=j) (by simpa using hi) hn).mp (by rw [List.getElem?_map,List.getElem?_map,List.getElem?_eq_getElem hi,List.getElem?_eq_getElem hj,ei,ej]; show some (g (key s)) = some (g (key t)); rw [hg s hs,hg t ht,h])
 subst this
 exact ei.symm.trans ej
theorem Z8T {κ:Type} [DecidableEq κ] (N:Nat) (key:Nat→κ) (K:Nat→Nat) (g:κ→Nat) (hg:∀ s,s < N→g (key s) = K s) (c:Nat) (hc:∀ j,j < c→∃ s,s < N∧K s = j):c ≤ (uq ((List.range N).map key)).length:=by
 have:=Z1Y (l:=List.range c) (U:=(uq ((List.range N).map key)).map g) List.nodup_range fun j hj=>by
  obtain ⟨s,hs,e⟩:=hc j (List.mem_range.mp hj)
  exact List.mem_map.mpr ⟨key s,uq_mem.mpr (List.mem_map_of_mem (List.mem_range.mpr hs)),(hg s hs).trans e⟩
 simpa using this
abbrev Rw:=Option Int × List (Option Nat)
noncomputable def told (T:List Rw) (s:Nat):Option Int:=(T[s]?).bind (·.1)
noncomputable def Z00 (T:List Rw) (s:Nat):List (Option Nat):=(T[s]?).elim [] (·.2)
noncomputable def goS (T:List Rw) (s a:Nat):Nat:=((Z00 T s)[a]?).join.getD T.length
structure TbK (T:List Rw) (W:Nat):Prop where
 pos:0 < T.length
 len:∀ r ∈ T,r.2.length = W
 lt:∀ r ∈ T,∀ k,some k ∈ r.2→k < T.length
section
variable {T:List Rw} {W:Nat}
theorem ZaH (s:Nat):Z00 T s = [] ∨ ∃ r ∈ T,Z00 T s = r.2:=by
 unfold Z00
 cases h:T[s]? with
 | none=>exact .inl rfl
 | some r=>exact .inr ⟨r,List.mem_of_getElem? h,rfl⟩
theorem TbK.ways_len (h:TbK T W) {s:Nat} (hs:s < T.length):(Z00 T s).length = W:=by
 unfold Z00
 rw [List.getElem?_eq_getElem hs]
 exact h.len _ (List.getElem_mem hs)
theorem TbK.ways_lt (h:TbK T W) {s k:Nat} (hk:some k ∈ Z00 T s):k < T.length:=by
 rcases ZaH (T:=T) s with e | ⟨r,hr,e⟩
 ·rw [e] at hk; cases hk
 ·rw [e] at hk; exact h.lt r hr k hk
theorem Z0U (a:Nat):goS T T.length a = T.length:=by unfold goS Z00; rw [List.getElem?_eq_none (Nat.le_refl _)]; rfl
theorem Z1J:told T T.length = none:=by unfold told; rw [List.getElem?_eq_none (Nat.le_refl _)]; rfl
theorem TbK.go_le (h:TbK T W) (s a:Nat):goS T s a ≤ T.length:=by
 unfold goS
 cases e:((Z00 T s)[a]?).join with
 | none=>exact Nat.le_refl _
 | some k=>exact Nat.le_of_lt (h.ways_lt (s:=s) (List.mem_of_getElem? (i:=a) (Option.join_eq_some_iff.mp e)))
structure Bis (T:List Rw) (W:Nat) (R:Nat→Nat→Prop):Prop where
 told:∀ s t,R s t→told T s = told T t
 step:∀ s t,R s t→∀ a,a < W→R (goS T s a) (goS T t a)
noncomputable def kl (T:List Rw) (K:Nat→Nat):List Nat:=(List.range (T.length + 1)).map K
structure Pre (T:List Rw) (W:Nat) (K:Nat→Nat):Prop where
 told:∀ s t,s ≤ T.length→t ≤ T.length→K s = K t→told T s = told T t
 coarse:∀ R,Bis T W R→∀ s t,s ≤ T.length→t ≤ T.length→R s t→K s = K t
 num:nums (kl T K) = kl T K
structure Kin (T:List Rw) (W:Nat) (K:Nat→Nat):Prop extends Pre T W K where
 step:∀ s t,s ≤ T.length→t ≤ T.length→K s = K t→∀ a,a < W→K (goS T s a) = K (goS T t a)
noncomputable def keyK (T:List Rw) (W:Nat) (K:Nat→Nat) (s:Nat):Nat × List Nat:=(K s,(List.range W).map fun a=>K (goS T s a))
noncomputable def keys (T:List Rw) (W:Nat) (K:Nat→Nat):List (Nat × List Nat):=(List.range (T.length + 1)).map (keyK T W K)
noncomputable def Z8U (T:List Rw) (W:Nat) (K:Nat→Nat) (s:Nat):Nat:=nmb (keys T W K) (keyK T W K s)
theorem Z2o (K:Nat→Nat):kl T (Z8U T W K) = nums (keys T W K):=by unfold kl nums keys; rw [List.map_map]; rfl
theorem Zd4 {K:Nat→Nat} {s:Nat} (h:s ≤ T.length):keyK T W K s ∈ keys T W K:=List.mem_map_of_mem (List.mem_range.mpr (Nat.lt_succ_of_le h))
theorem Pre.next (h0:TbK T W) {K:Nat→Nat} (h:Pre T W K):Pre T W (Z8U T W K) where
 told:=fun s t hs ht e=>h.told s t hs ht (congrArg Prod.fst (Z3M (Zd4 hs) e))
 coarse:=fun R hR s t hs ht r=>by
  have e:keyK T W K s = keyK T W K t:=by
   unfold keyK
   rw [h.coarse R hR s t hs ht r]
   congr 1
   exact List.map_congr_left fun a ha=>h.coarse R hR _ _ (h0.go_le _ _) (h0.go_le _ _) (hR.step s t r a (List.mem_range.mp ha))
  unfold Z8U; rw [e]
 num:=by rw [Z2o]; exact Z1m _
noncomputable def Z4U (T:List Rw):List (Option Int):=(List.range (T.length + 1)).map (told T)
noncomputable def Z30 (T:List Rw) (s:Nat):Nat:=nmb (Z4U T) (told T s)
theorem Z2E:kl T (Z30 T) = nums (Z4U T):=by unfold kl nums Z4U; rw [List.map_map]; rfl
theorem Pre.start:Pre T W (Z30 T) where
 told:=fun s t hs ht e=>Z3M (List.mem_map_of_mem (List.mem_range.mpr (Nat.lt_succ_of_le hs))) e
 coarse:=fun R hR s t hs ht r=>by unfold Z30; rw [hR.told s t r]
 num:=by rw [Z2E]; exact Z1m _
theorem Z6X {l:List Nat} (h:nums l = l) {x:Nat} (hx:x ∈ l):nmb l x = x:=by
 obtain ⟨i,hi,e⟩:=List.mem_iff_getElem.mp hx
 have h1:(nums l)[i]? = l[i]?:=by rw [h]
 unfold nums at h1
 rw [List.getElem?_map,List.getElem?_eq_getElem hi,e] at h1
 exact Option.some.inj h1
theorem Z6Y {K:Nat→Nat} (h:nums (kl T K) = kl T K) {j:Nat} (hj:j < (uq (kl T K)).length):∃ s,s < T.length + 1∧K s = j:=by
 obtain ⟨x,hx,e⟩:=Z4S hj
 rw [Z6X h hx] at e
 subst e
 obtain ⟨s,hs,e⟩:=List.mem_map.mp hx
 exact ⟨s,List.mem_range.mp hs,e⟩
theorem Pre.stop {K:Nat→Nat} (h:Pre T W K) (hc:(uq (keys T W K)).length ≤ (uq (kl T K)).length):Kin T W K:=by
 refine ⟨h,fun s t hs ht e a ha=>?_⟩
 have h1:=stab (T.length + 1) (keyK T W K) K Prod.fst (fun _ _=>rfl) _ (fun j hj=>Z6Y h.num hj) hc (Nat.lt_succ_of_le hs) (Nat.lt_succ_of_le ht) e
 have h2:((List.range W).map fun a=>K (goS T s a))[a]? = ((List.range W).map fun a=>K (goS T t a))[a]?:=congrArg (fun l:List Nat=>l[a]?) (congrArg Prod.snd h1)
 rw [List.getElem?_map,List.getElem?_map,List.getElem?_range ha] at h2
 exact Option.some.inj h2
theorem Pre.grows {K:Nat→Nat} (h:Pre T W K):(uq (kl T K)).length ≤ (uq (keys T W K)).length :=
 Z8T (T.length + 1) (keyK T W K) K Prod.fst (fun _ _=>rfl) _ (fun j hj=>Z6Y h.num hj)
theorem Zd5 (K:Nat→Nat):(uq (kl T (Z8U T W K))).length = (uq (keys T W K)).length:=by rw [Z2o,Z4T,List.length_range]
inductive FinN (T:List Rw) (W:Nat):Nat→(Nat→Nat)→(Nat→Nat)→Prop
 | stop {n:Nat} {K:Nat→Nat}:(uq (keys T W K)).length = (uq (kl T K)).length→FinN T W (n + 1) K K
 | turn {n:Nat} {K K':Nat→Nat}:(uq (keys T W K)).length ≠ (uq (kl T K)).length→FinN T W n (Z8U T W K) K'→FinN T W (n + 1) K K'
theorem finN (h0:TbK T W):∀ (n:Nat) {K:Nat→Nat},Pre T W K→T.length + 1 ≤ n + (uq (kl T K)).length→∃ K',FinN T W (n + 1) K K'∧Kin T W K'
 | 0,K,h,hn=>by
  have h1:=h.grows
  have h2:=ZaG (keys T W K)
  have h3:(keys T W K).length = T.length + 1:=by unfold keys; rw [List.length_map,List.length_range]
  exact ⟨K,.stop (by omega),h.stop (by omega)⟩
 | n + 1,K,h,hn=>by
  by_cases e:(uq (keys T W K)).length = (uq (kl T K)).length
  ·exact ⟨K,.stop e,h.stop (Nat.le_of_eq e)⟩
  ·have h1:=h.grows
   obtain ⟨K',f,k⟩:=finN h0 n (h.next h0) (by rw [Zd5]; omega)
   exact ⟨K',.turn e f,k⟩
end
noncomputable def addM (K:Nat→Nat) (met:List Nat) (w:Nat):List Nat:=if K w ∈ met.map K then met else met++[w]
inductive Bf (K:Nat→Nat) (nx:Nat→List Nat):Nat→List Nat→List Nat→Prop
 | stop {k:Nat} {met:List Nat}:k = met.length→Bf K nx k met met
 | step {k s:Nat} {met mf:List Nat}:met[k]? = some s→Bf K nx (k + 1) ((nx s).foldl (addM K) met) mf→Bf K nx k met mf
section
variable {K:Nat→Nat} {nx:Nat→List Nat}
theorem Z3g (met:List Nat) (w:Nat):∃ r,addM K met w = met++r:=by
 unfold addM
 split
 ·exact ⟨[],(List.append_nil _).symm⟩
 ·exact ⟨_,rfl⟩
theorem Z0t:∀ (l:List Nat) (met:List Nat),∃ r,l.foldl (addM K) met = met++r
 | [],met=>⟨[],(List.append_nil _).symm⟩
 | w :: l,met=>by
  obtain ⟨r,h⟩:=Z3g (K:=K) met w
  obtain ⟨r',h'⟩:=Z0t l (addM K met w)
  exact ⟨r++r',by rw [List.foldl_cons,h',h,List.append_assoc]⟩
theorem Bf.ext {k:Nat} {met mf:List Nat} (h:Bf K nx k met mf):∃ r,mf = met++r:=by
 induction h with
 | stop _=>exact ⟨[],(List.append_nil _).symm⟩
 | @step k s met mf _ _ ih=>
  obtain ⟨r,h⟩:=ih
  obtain ⟨r',h'⟩:=Z0t (K:=K) (nx s) met
  exact ⟨r'++r,by rw [h,h',List.append_assoc]⟩
theorem Bf.le {k:Nat} {met mf:List Nat} (h:Bf K nx k met mf):k ≤ met.length:=by
 cases h with
 | stop e=>exact Nat.le_of_eq e
 | step e _=>exact Nat.le_of_lt (List.getElem?_eq_some_iff.mp e).1
structure MOk (n:Nat) (K:Nat→Nat) (met:List Nat):Prop where
 nd:(met.map K).Nodup
 lt:∀ s ∈ met,s < n
 hd:met[0]? = some 0
 live:∀ (i s:Nat),met[i]? = some s→i ≠ 0→K s ≠ K n
variable {n:Nat}
theorem MOk.add {met:List Nat} (h:MOk n K met) {w:Nat} (h1:w < n) (h2:K w ≠ K n):MOk n K (addM K met w):=by
 unfold addM
 split
 ·exact h
 ·rename_i hn
  have h0:0 < met.length:=(List.getElem?_eq_some_iff.mp h.hd).1
  refine ⟨?_,fun s hs=>?_,?_,fun i s e hi=>?_⟩
  ·rw [List.map_append,List.nodup_append]
   exact ⟨h.nd,by simp,fun a ha b hb e=>hn (by simp at hb; subst hb; subst e; exact ha)⟩
  ·rcases List.mem_append.mp hs with hs | hs
   ·exact h.lt s hs
   ·rw [List.mem_singleton.mp hs]; exact h1
  ·rw [List.getElem?_append_left h0]; exact h.hd
  ·rcases Nat.lt_or_ge i met.length with q | q
   ·rw [List.getElem?_append_left q] at e; exact h.live i s e hi
   ·rw [List.getElem?_append_right q] at e
    rw [List.mem_singleton.mp (List.mem_of_getElem? e)]; exact h2
theorem MOk.fold:∀ (l:List Nat) {met:List Nat},MOk n K met→(∀ w ∈ l,w < n∧K w ≠ K n)→MOk n K (l.foldl (addM K) met)
 | [],_,h,_=>h
 | w :: l,_,h,hl=>MOk.fold l (h.add (hl w List.mem_cons_self).1 (hl w List.mem_cons_self).2) fun v hv=>hl v (List.mem_cons_of_mem _ hv)
theorem MOk.le {met:List Nat} (h:MOk n K met):met.length ≤ n:=by
 have h1:met.Nodup:=(List.pairwise_map.mp h.nd).imp fun {a b} h (e:a = b)=>h (congrArg K e)
 have:=Z1Y h1 (U:=List.range n) fun s hs=>List.mem_range.mpr (h.lt s hs)
 simpa using this
theorem Zec (hnx:∀ s,s < n→∀ w ∈ nx s,w < n∧K w ≠ K n):∀ (m:Nat) {k:Nat} {met:List Nat},MOk n K met→k ≤ met.length→n - k ≤ m→∃ mf,Bf K nx k met mf∧MOk n K mf
 | 0,k,met,h,hk,hm=>by
  have:=h.le
  exact ⟨met,.stop (by omega),h⟩
 | m + 1,k,met,h,hk,hm=>by
  by_cases hlt:k < met.length
  ·obtain ⟨s,hs⟩:∃ s,met[k]? = some s:=⟨_,List.getElem?_eq_getElem hlt⟩
   have h':=MOk.fold (nx s) h (hnx s (h.lt s (List.mem_of_getElem? hs)))
   obtain ⟨r,hr⟩:=Z0t (K:=K) (nx s) met
   obtain ⟨mf,hd,hf⟩:=Zec hnx m h' (k:=k + 1) (by rw [hr,List.length_append]; omega) (by omega)
   exact ⟨mf,.step hs hd,hf⟩
  ·exact ⟨met,.stop (by omega),h⟩
theorem Z5A:∀ (l:List Nat) (met:List Nat) {w:Nat},w ∈ l→K w ∈ (l.foldl (addM K) met).map K
 | v :: l,met,w,h=>by
  rw [List.foldl_cons]
  rcases List.mem_cons.mp h with rfl | h
  ·obtain ⟨r,hr⟩:=Z0t (K:=K) l (addM K met w)
   rw [hr,List.map_append]
   refine List.mem_append_left _ ?_
   unfold addM
   split
   ·assumption
   ·simp
  ·exact Z5A l _ h
theorem Bf.closed {k:Nat} {met mf:List Nat} (h:Bf K nx k met mf):(∀ (i s:Nat),i < k→met[i]? = some s→∀ w ∈ nx s,K w ∈ met.map K)→∀ s ∈ mf,∀ w ∈ nx s,K w ∈ mf.map K:=by
 induction h with
 | stop e=>
  intro h s hs w hw
  obtain ⟨i,hi⟩:=List.mem_iff_getElem?.mp hs
  exact h i s (e ▸ (List.getElem?_eq_some_iff.mp hi).1) hi w hw
 | @step k s met mf he _ ih=>
  intro h
  obtain ⟨r,hr⟩:=Z0t (K:=K) (nx s) met
  have hk:=(List.getElem?_eq_some_iff.mp he).1
  refine ih fun i t hi e w hw=>?_
  rw [hr,List.getElem?_append_left (by omega)] at e
  rcases Nat.lt_or_eq_of_le (Nat.le_of_lt_succ hi) with q | q
  ·rw [hr,List.map_append]; exact List.mem_append_left _ (h i t q e w hw)
  ·subst q
   cases he.symm.trans e
   exact Z5A (nx s) met hw
end
noncomputable def lv (K:Nat→Nat) (n:Nat) (w:Option Nat):Option Nat:=w.bind fun w=>if K w = K n then none else some w
noncomputable def nxL (T:List Rw) (K:Nat→Nat) (s:Nat):List Nat:=(Z00 T s).filterMap (lv K T.length)
noncomputable def nuW (K:Nat→Nat) (n:Nat) (mf:List Nat) (w:Option Nat):Option Nat:=(lv K n w).map fun w=>(mf.map K).idxOf (K w)
noncomputable def Gr (T:List Rw) (K:Nat→Nat) (mf:List Nat):List Rw:=mf.map fun s=>(told T s,(Z00 T s).map (nuW K T.length mf))
theorem Z3O {K:Nat→Nat} {n:Nat} {w:Option Nat} {v:Nat} (h:lv K n w = some v):w = some v∧K v ≠ K n:=by
 obtain ⟨u,rfl,h'⟩:=Option.bind_eq_some_iff.mp h
 split at h'
 ·cases h'
 ·rename_i q; cases h'; exact ⟨rfl,q⟩
section
variable {T:List Rw} {W:Nat} {K:Nat→Nat} {mf:List Nat}
theorem Zed (h0:TbK T W) (s:Nat):∀ w ∈ nxL T K s,w < T.length∧K w ≠ K T.length:=fun w hw=>by
 obtain ⟨o,ho,e⟩:=List.mem_filterMap.mp hw
 obtain ⟨rfl,h2⟩:=Z3O e
 exact ⟨h0.ways_lt ho,h2⟩
structure Lst (T:List Rw) (K:Nat→Nat) (mf:List Nat):Prop where
 ok:MOk T.length K mf
 bf:Bf K (nxL T K) 0 [0] mf
theorem Zee (h0:TbK T W) (K:Nat→Nat):∃ mf,Lst T K mf:=by
 have hp:=h0.pos
 obtain ⟨mf,h1,h2⟩:=Zec (K:=K) (nx:=nxL T K) (n:=T.length) (fun s _=>Zed h0 s) T.length (k:=0) (met:=[0]) ⟨by simp,fun s hs=>by rw [List.mem_singleton.mp hs]; exact hp,rfl,fun i s e hi=>by
  have:=(List.getElem?_eq_some_iff.mp e).1
  simp at this; omega⟩ (Nat.zero_le _) (Nat.sub_le _ _)
 exact ⟨mf,h2,h1⟩
theorem Lst.closed (h:Lst T K mf):∀ s ∈ mf,∀ w ∈ nxL T K s,K w ∈ mf.map K:=h.bf.closed fun i s hi=>absurd hi (Nat.not_lt_zero _)
theorem Z08:(Gr T K mf).length = mf.length:=List.length_map _
theorem Z6Z {i s:Nat} (h:mf[i]? = some s):(Gr T K mf)[i]? = some (told T s,(Z00 T s).map (nuW K T.length mf)):=by unfold Gr; rw [List.getElem?_map,h]; rfl
theorem Z6h {i s:Nat} (h:mf[i]? = some s):told (Gr T K mf) i = told T s:=by show ((Gr T K mf)[i]?).bind _ = _; rw [Z6Z h]; rfl
theorem Z2e {i s:Nat} (h:mf[i]? = some s):Z00 (Gr T K mf) i = (Z00 T s).map (nuW K T.length mf):=by show ((Gr T K mf)[i]?).elim _ _ = _; rw [Z6Z h]; rfl
theorem Z70 (h:Lst T K mf) {s:Nat} (hs:s ∈ mf) {w:Option Nat} (hw:w ∈ Z00 T s) {j:Nat} (e:nuW K T.length mf w = some j):j < mf.length:=by
 obtain ⟨v,hv,rfl⟩:=Option.map_eq_some_iff.mp e
 have:=List.idxOf_lt_length_of_mem (h.closed s hs v (List.mem_filterMap.mpr ⟨w,hw,hv⟩))
 rwa [List.length_map] at this
theorem Lst.tok (h0:TbK T W) (h:Lst T K mf):TbK (Gr T K mf) W where
 pos:=by rw [Z08]; exact (List.getElem?_eq_some_iff.mp h.ok.hd).1
 len:=fun r hr=>by
  obtain ⟨s,hs,rfl⟩:=List.mem_map.mp hr
  rw [List.length_map]; exact h0.ways_len (h.ok.lt s hs)
 lt:=fun r hr k hk=>by
  obtain ⟨s,hs,rfl⟩:=List.mem_map.mp hr
  obtain ⟨w,hw,e⟩:=List.mem_map.mp hk
  rw [Z08]; exact Z70 h hs hw e
noncomputable def kG (T:List Rw) (K:Nat→Nat) (mf:List Nat) (j:Nat):Nat:=(mf.map K).getD j (K T.length)
theorem Z5B {i s:Nat} (h:mf[i]? = some s):kG T K mf i = K s:=by unfold kG; rw [List.getD_eq_getElem?_getD,List.getElem?_map,h]; rfl
theorem Z2F:kG T K mf mf.length = K T.length:=by unfold kG; rw [List.getD_eq_getElem?_getD,List.getElem?_eq_none (by rw [List.length_map]; exact Nat.le_refl _)]; rfl
theorem Zef (h:Lst T K mf) {s:Nat} (hs:s ∈ mf) {w:Option Nat} (hw:w ∈ Z00 T s):kG T K mf ((nuW K T.length mf w).getD mf.length) = K (w.getD T.length):=by
 cases hl:lv K T.length w with
 | none=>
  have e:nuW K T.length mf w = none:=by unfold nuW; rw [hl]; rfl
  rw [e]
  show kG T K mf mf.length = _
  rw [Z2F]
  cases w with
  | none=>rfl
  | some v=>
   unfold lv at hl
   rw [Option.bind_some] at hl
   split at hl
   ·rename_i q; exact q.symm
   ·cases hl
 | some v=>
  obtain ⟨rfl,h2⟩:=Z3O hl
  have hm:=h.closed s hs v (List.mem_filterMap.mpr ⟨some v,hw,hl⟩)
  have e:nuW K T.length mf (some v) = some ((mf.map K).idxOf (K v)):=by unfold nuW; rw [hl]; rfl
  rw [e]
  show (mf.map K).getD ((mf.map K).idxOf (K v)) (K T.length) = K v
  rw [List.getD_eq_getElem?_getD,List.getElem?_eq_getElem (List.idxOf_lt_length_of_mem hm),List.getElem_idxOf]; rfl
theorem ZeL (h0:TbK T W) (h:Lst T K mf) {i s a:Nat} (hi:mf[i]? = some s) (ha:a < W):kG T K mf (goS (Gr T K mf) i a) = K (goS T s a):=by
 have hs:=List.mem_of_getElem? hi
 have hlen:=h0.ways_len (h.ok.lt s hs)
 have hw:(Z00 T s)[a]? = some ((Z00 T s)[a]'(by omega)):=List.getElem?_eq_getElem _
 unfold goS
 rw [Z2e hi,List.getElem?_map,hw,Z08]
 exact Zef h hs (List.getElem_mem _)
theorem Z7x (a:Nat):kG T K mf (goS (Gr T K mf) mf.length a) = K (goS T T.length a):=by
 have e:goS (Gr T K mf) mf.length a = mf.length:=by
  have:=Z0U (T:=Gr T K mf) a
  rwa [Z08] at this
 rw [e,Z2F,Z0U]
theorem Z2G (h0:TbK T W) (k:Kin T W K) (h:Lst T K mf) {J:Nat→Nat} (kj:Kin (Gr T K mf) W J) {i j:Nat} (hi:i ≤ mf.length) (hj:j ≤ mf.length) (e:J i = J j):kG T K mf i = kG T K mf j:=by
 have rep:∀ i,i ≤ mf.length→∃ s,s ≤ T.length∧kG T K mf i = K s∧told (Gr T K mf) i = told T s∧∀ a,a < W→kG T K mf (goS (Gr T K mf) i a) = K (goS T s a):=by
  intro i hi
  rcases Nat.lt_or_eq_of_le hi with q | q
  ·have hs:=List.getElem?_eq_getElem q
   exact ⟨_,Nat.le_of_lt (h.ok.lt _ (List.mem_of_getElem? hs)),Z5B hs,Z6h hs,fun a ha=>ZeL h0 h hs ha⟩
  ·subst q
   refine ⟨T.length,Nat.le_refl _,Z2F,?_,fun a _=>Z7x a⟩
   have:=Z1J (T:=Gr T K mf)
   rw [Z08] at this
   rw [this,Z1J]
 have hG:=h.tok h0
 have bis:Bis T W fun s t=>s ≤ T.length∧t ≤ T.length∧∃ i j,i ≤ mf.length∧j ≤ mf.length∧J i = J j∧K s = kG T K mf i∧K t = kG T K mf j:=by
  constructor
  ·rintro s t ⟨hs,ht,i,j,hi,hj,e,e1,e2⟩
   obtain ⟨s',hs',r1,r2,_⟩:=rep i hi
   obtain ⟨t',ht',q1,q2,_⟩:=rep j hj
   rw [k.told s s' hs hs' (e1.trans r1),k.told t t' ht ht' (e2.trans q1),← r2,← q2]
   exact kj.told i j (by rw [Z08]; exact hi) (by rw [Z08]; exact hj) e
  ·rintro s t ⟨hs,ht,i,j,hi,hj,e,e1,e2⟩ a ha
   obtain ⟨s',hs',r1,_,r3⟩:=rep i hi
   obtain ⟨t',ht',q1,_,q3⟩:=rep j hj
   refine ⟨h0.go_le _ _,h0.go_le _ _,goS (Gr T K mf) i a,goS (Gr T K mf) j a,?_,?_,kj.step i j (by rw [Z08]; exact hi) (by rw [Z08]; exact hj) e a ha,?_,?_⟩
   ·have:=hG.go_le i a; rwa [Z08] at this
   ·have:=hG.go_le j a; rwa [Z08] at this
   ·rw [r3 a ha]; exact k.step s s' hs hs' (e1.trans r1) a ha
   ·rw [q3 a ha]; exact k.step t t' ht ht' (e2.trans q1) a ha
 obtain ⟨s,hs,r1,_⟩:=rep i hi
 obtain ⟨t,ht,q1,_⟩:=rep j hj
 rw [r1,q1]
 exact k.coarse _ bis s t hs ht ⟨hs,ht,i,j,hi,hj,e,r1.symm,q1.symm⟩
theorem Z8V (h:Lst T K mf) {i j:Nat} (hi:i < mf.length) (hj:j < mf.length) (e:kG T K mf i = kG T K mf j):i = j:=by
 rw [Z5B (List.getElem?_eq_getElem hi),Z5B (List.getElem?_eq_getElem hj)] at e
 exact (List.getElem?_inj (i:=i) (j:=j) (by rw [List.length_map]; exact hi) h.ok.nd).mp (by rw [List.getElem?_map,List.getElem?_map,List.getElem?_eq_getElem hi,List.getElem?_eq_getElem hj]; exact congrArg some e)
theorem Z8W (h:Lst T K mf) {i:Nat} (hi:i < mf.length) (h1:i ≠ 0):kG T K mf i ≠ K T.length:=by
 rw [Z5B (List.getElem?_eq_getElem hi)]; exact h.ok.live i _ (List.getElem?_eq_getElem hi) h1
theorem ZaI (h0:TbK T W) (k:Kin T W K) (h:Lst T K mf) (hd:K 0 = K T.length):mf = [0]:=by
 have hn:nxL T K 0 = []:=by
  unfold nxL
  rw [List.filterMap_eq_nil_iff]
  intro w hw
  obtain ⟨a,ha⟩:=List.mem_iff_getElem?.mp hw
  have hlt:=(List.getElem?_eq_some_iff.mp ha).1
  rw [h0.ways_len h0.pos] at hlt
  have e:=k.step 0 T.length (Nat.zero_le _) (Nat.le_refl _) hd a hlt
  rw [Z0U] at e
  unfold goS at e
  rw [ha] at e
  cases w with
  | none=>rfl
  | some v=>unfold lv; rw [Option.bind_some]; exact if_pos e
 have hb:=h.bf
 cases hb with
 | stop e=>cases e
 | step e q=>
  cases e
  rw [hn] at q
  cases q with
  | stop _=>rfl
  | step e _=>cases e
theorem ZaJ (h0:TbK T W) (k:Kin T W K) (h:Lst T K mf) (hd:K 0 ≠ K T.length) {J:Nat→Nat} (kj:Kin (Gr T K mf) W J):∀ i,i ≤ mf.length→J i = i:=by
 have inj:∀ i j,i ≤ mf.length→j ≤ mf.length→J i = J j→i = j:=by
  have one:∀ i,i < mf.length→kG T K mf i ≠ K T.length:=fun i hi=>by
   by_cases q:i = 0
   ·subst q; rw [Z5B h.ok.hd]; exact hd
   ·exact Z8W h hi q
  intro i j hi hj e
  have e':=Z2G h0 k h kj hi hj e
  rcases Nat.lt_or_eq_of_le hi with p | p <;> rcases Nat.lt_or_eq_of_le hj with q | q
  ·exact Z8V h p q e'
  ·rw [q,Z2F] at e'; exact absurd e' (one i p)
  ·rw [p,Z2F] at e'; exact absurd e'.symm (one j q)
  ·rw [p,q]
 have hn:(kl (Gr T K mf) J).Nodup:=by
  unfold kl
  rw [List.nodup_iff_pairwise_ne,List.pairwise_map]
  refine List.Pairwise.imp_of_mem (R:=fun a b=>a ≠ b) (fun ha hb hab e=>hab (inj _ _ ?_ ?_ e)) List.nodup_range
  ·have:=List.mem_range.mp ha; rw [Z08] at this; omega
  ·have:=List.mem_range.mp hb; rw [Z08] at this; omega
 have hr:=Z4r kj.num hn
 intro i hi
 have h1:(kl (Gr T K mf) J)[i]? = some (J i):=by unfold kl; rw [List.getElem?_map,List.getElem?_range (by rw [Z08]; omega)]; rfl
 rw [hr,List.getElem?_range (by unfold kl; rw [List.length_map,List.length_range,Z08]; omega)] at h1
 exact (Option.some.inj h1).symm
end
theorem Z4V {α β:Type} {f g:α→Option β}:∀ {l:List α},(∀ a ∈ l,f a = g a)→l.filterMap f = l.filterMap g
 | [],_=>rfl
 | a :: l,h=>by rw [List.filterMap_cons,List.filterMap_cons,h a List.mem_cons_self,Z4V fun b hb=>h b (List.mem_cons_of_mem _ hb)]
theorem Z4W {J:Nat→Nat} {n:Nat} (h:∀ i,i ≤ n→J i = i) {m:Nat} (hm:m ≤ n):(List.range m).map J = List.range m:=by
 have:∀ i ∈ List.range m,J i = i:=fun i hi=>h i (by have:=List.mem_range.mp hi; omega)
 rw [List.map_congr_left this,List.map_id']
theorem Z5C {K J:Nat→Nat}:∀ (l met r mf:List Nat),mf = l.foldl (addM K) met++r→(∀ i,i ≤ mf.length→J i = i) →
  (l.map fun w=>(mf.map K).idxOf (K w)).foldl (addM J) (List.range met.length) = List.range (l.foldl (addM K) met).length
 | [],_,_,_,_,_=>rfl
 | w :: l,met,r,mf,e,hJ=>by
  rw [List.foldl_cons] at e
  obtain ⟨r',hr'⟩:=Z0t (K:=K) l (addM K met w)
  have e2:mf = addM K met w++(r'++r):=by rw [e,hr',List.append_assoc]
  rw [List.map_cons,List.foldl_cons,List.foldl_cons,← Z5C l (addM K met w) r mf e hJ]
  congr 1
  have hlen:met.length ≤ mf.length:=by
   obtain ⟨r₂,h₂⟩:=Z3g (K:=K) met w
   rw [e2,h₂,List.append_assoc,List.length_append]; exact Nat.le_add_right _ _
  by_cases hw:K w ∈ met.map K
  ·have h1:addM K met w = met:=if_pos hw
   rw [h1] at e2 ⊢
   have h2:(mf.map K).idxOf (K w) = (met.map K).idxOf (K w):=by rw [e2,List.map_append]; exact Z4Q _ hw
   have h3:(met.map K).idxOf (K w) < met.length:=by have:=List.idxOf_lt_length_of_mem hw; rwa [List.length_map] at this
   unfold addM
   rw [Z4W hJ hlen,h2,hJ _ (by omega)]
   exact if_pos (List.mem_range.mpr h3)
  ·have h1:addM K met w = met++[w]:=if_neg hw
   rw [h1] at e2 ⊢
   have h2:(mf.map K).idxOf (K w) = met.length:=by
    rw [e2,List.append_assoc,List.map_append]
    show (met.map K++K w :: (r'++r).map K).idxOf (K w) = _
    rw [Z4R _ hw,List.length_map]
   unfold addM
   rw [Z4W hJ hlen,h2,hJ _ hlen,List.length_append,List.length_singleton,List.range_succ]
   exact if_neg (by simp)
theorem Bf.lock {K J:Nat→Nat} {nx nx':Nat→List Nat} {k:Nat} {met mf:List Nat} (hb:Bf K nx k met mf):(∀ i,i ≤ mf.length→J i = i)→(∀ (i s:Nat),mf[i]? = some s→nx' i = (nx s).map fun w=>(mf.map K).idxOf (K w))→Bf J nx' k (List.range met.length) (List.range mf.length):=by
 induction hb with
 | stop e=>intro _ _; exact .stop (by rw [List.length_range]; exact e)
 | @step k s met mf he hb ih=>
  intro hJ hnx
  have hk:=(List.getElem?_eq_some_iff.mp he).1
  obtain ⟨r,hr⟩:=hb.ext
  obtain ⟨r₂,h₂⟩:=Z0t (K:=K) (nx s) met
  have hms:mf[k]? = some s:=by rw [hr,h₂,List.append_assoc,List.getElem?_append_left hk]; exact he
  refine .step (s:=k) (List.getElem?_range hk) ?_
  rw [hnx k s hms,Z5C (nx s) met r mf hr hJ]
  exact ih hJ hnx
section
variable {T:List Rw} {W:Nat} {K:Nat→Nat} {mf:List Nat}
theorem Zd6 (h:Lst T K mf) {J:Nat→Nat} (hJ:∀ i,i ≤ mf.length→J i = i) {s:Nat} (hs:s ∈ mf) {w:Option Nat} (hw:w ∈ Z00 T s):lv J mf.length (nuW K T.length mf w) = nuW K T.length mf w:=by
 cases e:nuW K T.length mf w with
 | none=>rfl
 | some j=>
  have:=Z70 h hs hw e
  unfold lv
  rw [Option.bind_some,hJ j (by omega),hJ _ (Nat.le_refl _)]
  exact if_neg (by omega)
theorem Z8X (h:Lst T K mf) {J:Nat→Nat} (hJ:∀ i,i ≤ mf.length→J i = i) (i s:Nat) (hi:mf[i]? = some s):nxL (Gr T K mf) J i = (nxL T K s).map fun w=>(mf.map K).idxOf (K w):=by
 unfold nxL
 rw [Z2e hi,Z08,List.filterMap_map,List.map_filterMap]
 exact Z4V fun w hw=>Zd6 h hJ (List.mem_of_getElem? hi) hw
theorem Lst.id_lst (h0:TbK T W) (h:Lst T K mf) {J:Nat→Nat} (hJ:∀ i,i ≤ mf.length→J i = i):Lst (Gr T K mf) J (List.range mf.length):=by
 have h1:=h.bf.lock hJ (Z8X h hJ)
 refine ⟨⟨by rw [Z4W hJ (Nat.le_refl _)]; exact List.nodup_range,fun s hs=>by rw [Z08]; exact List.mem_range.mp hs,?_,fun i s e _=>?_⟩,h1⟩
 ·exact List.getElem?_range (List.getElem?_eq_some_iff.mp h.ok.hd).1
 ·have hlt:=List.mem_range.mp (List.mem_of_getElem? e)
  rw [Z08,hJ s (by omega),hJ _ (Nat.le_refl _)]; omega
theorem ZaK (h0:TbK T W) (h:Lst T K mf) {J:Nat→Nat} (hJ:∀ i,i ≤ mf.length→J i = i):Gr (Gr T K mf) J (List.range mf.length) = Gr T K mf:=by
 refine List.ext_getElem? fun i=>?_
 rcases Nat.lt_or_ge i mf.length with hi | hi
 ·have hs:=List.getElem?_eq_getElem hi
  rw [Z6Z (List.getElem?_range hi),Z6Z hs,Z6h hs,Z2e hs,List.map_map]
  congr 2
  refine List.map_congr_left fun w hw=>?_
  show nuW J (Gr T K mf).length (List.range mf.length) (nuW K T.length mf w) = _
  have e:=Zd6 h hJ (List.mem_of_getElem? hs) hw
  have e':nuW J mf.length (List.range mf.length) (nuW K T.length mf w) = (nuW K T.length mf w).map fun j=>((List.range mf.length).map J).idxOf (J j):=by
   show (lv J mf.length (nuW K T.length mf w)).map _ = _
   rw [e]
  rw [Z08,e',Z4W hJ (Nat.le_refl _)]
  cases q:nuW K T.length mf w with
  | none=>rfl
  | some j=>
   have:=Z70 h (List.mem_of_getElem? hs) hw q
   rw [Option.map_some,hJ j (by omega),Z5z this]
 ·rw [List.getElem?_eq_none (by rw [Z08,List.length_range]; exact hi),List.getElem?_eq_none (by rw [Z08]; exact hi)]
theorem Z6i (h0:TbK T W) (k:Kin T W K) (h:Lst T K mf) {J:Nat→Nat} (kj:Kin (Gr T K mf) W J):Lst (Gr T K mf) J (List.range mf.length)∧Gr (Gr T K mf) J (List.range mf.length) = Gr T K mf:=by
 by_cases hd:K 0 = K T.length
 ·have e:=ZaI h0 k h hd
  have hall:∀ w ∈ Z00 (Gr T K mf) 0,w = none:=fun w hw=>by
   rw [Z2e h.ok.hd] at hw
   obtain ⟨v,hv,rfl⟩:=List.mem_map.mp hw
   cases q:nuW K T.length mf v with
   | none=>rfl
   | some j=>
    obtain ⟨u,hu,_⟩:=Option.map_eq_some_iff.mp q
    have:=h.closed 0 (List.mem_of_getElem? h.ok.hd) u (List.mem_filterMap.mpr ⟨v,hv,hu⟩)
    rw [e] at this
    have h1:K u = K 0:=List.mem_singleton.mp this
    exact absurd (h1.trans hd) (Z3O hu).2
  have hl:mf.length = 1:=by rw [e]; rfl
  have hr:List.range mf.length = [0]:=by rw [hl]; rfl
  have hG:(Gr T K mf).length = 1:=by rw [Z08]; exact hl
  have hn:nxL (Gr T K mf) J 0 = []:=by
   unfold nxL
   rw [List.filterMap_eq_nil_iff]
   intro w hw
   rw [hall w hw]; rfl
  rw [hr]
  refine ⟨⟨⟨by simp,fun s hs=>by rw [List.mem_singleton.mp hs,hG]; exact Nat.one_pos,rfl,fun i s e hi=>?_⟩,.step (s:=0) rfl (by rw [hn]; exact .stop rfl)⟩,?_⟩
  ·have:=(List.getElem?_eq_some_iff.mp e).1
   simp at this; omega
  ·obtain ⟨g,hg⟩:∃ g,Gr T K mf = [g]:=by
    match q:Gr T K mf,hG with
    | [g],_=>exact ⟨g,rfl⟩
   show [(told (Gr T K mf) 0,(Z00 (Gr T K mf) 0).map (nuW J (Gr T K mf).length [0]))] = _
   have hm:(Z00 (Gr T K mf) 0).map (nuW J (Gr T K mf).length [0]) = Z00 (Gr T K mf) 0:=by
    have:∀ w ∈ Z00 (Gr T K mf) 0,nuW J (Gr T K mf).length [0] w = w:=fun w hw=>by rw [hall w hw]; rfl
    rw [List.map_congr_left this,List.map_id']
   rw [hm,hg]; rfl
 ·have hJ:=ZaJ h0 k h hd kj
  exact ⟨h.id_lst h0 hJ,ZaK h0 h hJ⟩
theorem ZaL (h0:TbK T W) (h:Lst T K mf):Bf id (fun i=>(Z00 (Gr T K mf) i).filterMap id) 0 [0] (List.range mf.length):=by
 refine h.bf.lock (J:=id) (fun _ _=>rfl) fun i s hi=>?_
 rw [← Z8X h (J:=id) (fun _ _=>rfl) i s hi,Z2e hi]
 unfold nxL
 rw [Z2e hi,Z08,List.filterMap_map,List.filterMap_map]
 exact Z4V fun w hw=>(Zd6 h (J:=id) (fun _ _=>rfl) (List.mem_of_getElem? hi) hw).symm
end
noncomputable def bst (k:Nat) (p:List Bool × Bool) (w:Option Nat):List Bool × Bool:=if (w.bind fun w=>p.1[w]?) = some true∧p.1[k]? = some false then (p.1.set k true,true) else p
noncomputable def Z49 (T:List Rw) (ks:List Nat) (p:List Bool × Bool):List Bool × Bool:=ks.foldl (fun p k=>(Z00 T k).foldl (bst k) p) p
structure BOk (T:List Rw) (K:Nat→Nat) (B:List Bool):Prop where
 len:B.length = T.length
 live:∀ s,B[s]? = some true→K s ≠ K T.length
 told:∀ s,(told T s).isSome = true→B[s]? = some true
theorem Z5D:∀ (B:List Bool) (k:Nat),B[k]? = some false→(B.set k true).count false + 1 = B.count false
 | b :: B,0,h=>by cases h; simp
 | b :: B,k + 1,h=>by
  have:=Z5D B k h
  rw [List.set_cons_succ,List.count_cons,List.count_cons]; omega
structure BSt (C:List Bool→Prop) (ok:List Bool→Prop) (p q:List Bool × Bool):Prop where
 ok:ok q.1
 le:q.1.count false ≤ p.1.count false
 no:q.2 = false→q = p∧C p.1
 yes:q.2 = true→p.2 = true ∨ q.1.count false < p.1.count false
theorem BSt.trans {C C':List Bool→Prop} {ok:List Bool→Prop} {p q r:List Bool × Bool} (x:BSt C ok p q) (y:BSt C' ok q r):BSt (fun B=>C B∧C' B) ok p r where
 ok:=y.ok
 le:=Nat.le_trans y.le x.le
 no:=fun e=>by
  obtain ⟨rfl,h⟩:=y.no e
  obtain ⟨rfl,h'⟩:=x.no e
  exact ⟨rfl,h',h⟩
 yes:=fun e=>by
  rcases y.yes e with h | h
  ·rcases x.yes h with h' | h'
   ·exact .inl h'
   ·exact .inr (Nat.lt_of_le_of_lt y.le h')
  ·exact .inr (Nat.lt_of_lt_of_le h x.le)
theorem BSt.imp {C C':List Bool→Prop} {ok:List Bool→Prop} {p q:List Bool × Bool} (x:BSt C ok p q) (h:C p.1→C' p.1):BSt C' ok p q:=⟨x.ok,x.le,fun e=>⟨(x.no e).1,h (x.no e).2⟩,x.yes⟩
section
variable {T:List Rw} {W:Nat} {K:Nat→Nat}
theorem Zeg (h0:TbK T W) (k0:Kin T W K) {k:Nat} (hk:k < T.length) {p:List Bool × Bool} (h:BOk T K p.1) {w:Option Nat} (hw:w ∈ Z00 T k):BSt (fun B=>∀ v,w = some v→B[v]? = some true→B[k]? = some true) (BOk T K) p (bst k p w):=by
 unfold bst
 by_cases hc:(w.bind fun w=>p.1[w]?) = some true∧p.1[k]? = some false
 ·rw [if_pos hc]
  have hcnt:=Z5D p.1 k hc.2
  have hkl:k < p.1.length:=(List.getElem?_eq_some_iff.mp hc.2).1
  obtain ⟨v,rfl,hv⟩:=Option.bind_eq_some_iff.mp hc.1
  refine ⟨⟨by rw [List.length_set]; exact h.len,fun s hs=>?_,fun s hs=>?_⟩,by show (p.1.set k true).count false ≤ _; omega,(fun e=>by cases e),fun _=>.inr (by show (p.1.set k true).count false < _; omega)⟩
  ·by_cases q:k = s
   ·subst q
    intro e
    obtain ⟨a,ha⟩:=List.mem_iff_getElem?.mp hw
    have hlt:=(List.getElem?_eq_some_iff.mp ha).1
    rw [h0.ways_len hk] at hlt
    have:=k0.step k T.length (Nat.le_of_lt hk) (Nat.le_refl _) e a hlt
    rw [Z0U] at this
    unfold goS at this
    rw [ha] at this
    exact h.live v hv this
   ·rw [List.getElem?_set_ne q] at hs; exact h.live s hs
  ·by_cases q:k = s
   ·subst q; rw [List.getElem?_set_self hkl]
   ·rw [List.getElem?_set_ne q]; exact h.told s hs
 ·rw [if_neg hc]
  refine ⟨h,Nat.le_refl _,fun _=>⟨rfl,fun v e hv=>?_⟩,fun e=>.inl e⟩
  subst e
  have hkl:k < p.1.length:=by rw [h.len]; exact hk
  cases hb:p.1[k]? with
  | none=>rw [List.getElem?_eq_getElem hkl] at hb; cases hb
  | some b=>
   cases b with
   | true=>rfl
   | false=>exact absurd ⟨hv,hb⟩ hc
theorem Z71 (h0:TbK T W) (k0:Kin T W K) {k:Nat} (hk:k < T.length):∀ (l:List (Option Nat)) {p:List Bool × Bool},BOk T K p.1→(∀ w ∈ l,w ∈ Z00 T k)→BSt (fun B=>∀ v,some v ∈ l→B[v]? = some true→B[k]? = some true) (BOk T K) p (l.foldl (bst k) p)
 | [],p,h,_=>⟨h,Nat.le_refl _,fun _=>⟨rfl,fun v e=>by cases e⟩,fun e=>.inl e⟩
 | w :: l,p,h,hl=>by
  have x:=Zeg h0 k0 hk h (hl w List.mem_cons_self)
  have y:=Z71 h0 k0 hk l x.ok fun v hv=>hl v (List.mem_cons_of_mem _ hv)
  exact (x.trans y).imp fun ⟨a,b⟩ v e=>(List.mem_cons.mp e).elim (fun e=>a v e.symm) (b v)
theorem Z4X (h0:TbK T W) (k0:Kin T W K):∀ (ks:List Nat) {p:List Bool × Bool},BOk T K p.1→(∀ k ∈ ks,k < T.length)→BSt (fun B=>∀ k ∈ ks,∀ v,some v ∈ Z00 T k→B[v]? = some true→B[k]? = some true) (BOk T K) p (Z49 T ks p)
 | [],p,h,_=>⟨h,Nat.le_refl _,fun _=>⟨rfl,fun v e=>by cases e⟩,fun e=>.inl e⟩
 | k :: ks,p,h,hl=>by
  have x:=Z71 h0 k0 (hl k List.mem_cons_self) (Z00 T k) h fun _ h=>h
  have y:=Z4X h0 k0 ks x.ok fun v hv=>hl v (List.mem_cons_of_mem _ hv)
  exact (x.trans y).imp fun ⟨a,b⟩ v e=>(List.mem_cons.mp e).elim (fun e=>e ▸ a) (b v)
noncomputable def Z0O (T:List Rw) (K:Nat→Nat):List Bool:=(List.range T.length).map fun s=>decide (K s ≠ K T.length)
theorem Z72 (h0:TbK T W) (k0:Kin T W K) {B:List Bool} (h:BOk T K B) (hc:∀ k ∈ List.range T.length,∀ v,some v ∈ Z00 T k→B[v]? = some true→B[k]? = some true):B = Z0O T K:=by
 have bis:Bis T W fun s t=>t = T.length∧s ≤ T.length∧B[s]? ≠ some true:=by
  constructor
  ·rintro s t ⟨rfl,hs,hb⟩
   rw [Z1J]
   cases q:told T s with
   | none=>rfl
   | some i=>exact absurd (h.told s (by rw [q]; rfl)) hb
  ·rintro s t ⟨rfl,hs,hb⟩ a ha
   refine ⟨Z0U a,h0.go_le s a,fun e=>?_⟩
   have hlt:=(List.getElem?_eq_some_iff.mp e).1
   rw [h.len] at hlt
   cases q:((Z00 T s)[a]?).join with
   | none=>unfold goS at hlt; rw [q] at hlt; exact Nat.lt_irrefl _ hlt
   | some v=>
    have hm:some v ∈ Z00 T s:=List.mem_of_getElem? (i:=a) (Option.join_eq_some_iff.mp q)
    have hs':s < T.length:=by
     rcases Nat.lt_or_eq_of_le hs with h | h
     ·exact h
     ·rw [h,Z0U] at hlt; exact absurd hlt (Nat.lt_irrefl _)
    have e':goS T s a = v:=by unfold goS; rw [q]; rfl
    rw [e'] at e
    exact hb (hc s (List.mem_range.mpr hs') v hm e)
 refine List.ext_getElem? fun i=>?_
 unfold Z0O
 rcases Nat.lt_or_ge i T.length with hi | hi
 ·rw [List.getElem?_map,List.getElem?_range hi]
  have hi':i < B.length:=by rw [h.len]; exact hi
  show _ = some (decide (K i ≠ K T.length))
  by_cases q:B[i]? = some true
  ·rw [q,decide_eq_true (h.live i q)]
  ·have e:=k0.coarse _ bis i T.length (Nat.le_of_lt hi) (Nat.le_refl _) ⟨rfl,Nat.le_of_lt hi,q⟩
   rw [decide_eq_false fun x=>x e]
   rw [List.getElem?_eq_getElem hi'] at q ⊢
   cases hb:B[i] with
   | false=>rfl
   | true=>rw [hb] at q; exact absurd rfl q
 ·rw [List.getElem?_eq_none (by rw [h.len]; exact hi),List.getElem?_eq_none (by simpa using hi)]
noncomputable def Z6j (T:List Rw):List Bool:=T.map fun r=>r.1.isSome
theorem ZaM (k0:Kin T W K):BOk T K (Z6j T) where
 len:=List.length_map _
 live:=fun s hs e=>by
  unfold Z6j at hs
  rw [List.getElem?_map] at hs
  obtain ⟨r,hr,h⟩:=Option.map_eq_some_iff.mp hs
  have hlt:=(List.getElem?_eq_some_iff.mp hr).1
  have:=k0.told s T.length (Nat.le_of_lt hlt) (Nat.le_refl _) e
  rw [Z1J] at this
  unfold told at this
  rw [hr,Option.bind_some] at this
  rw [this] at h; cases h
 told:=fun s hs=>by
  unfold told at hs
  unfold Z6j
  rw [List.getElem?_map]
  cases hr:T[s]? with
  | none=>rw [hr] at hs; cases hs
  | some r=>rw [hr,Option.bind_some] at hs; rw [Option.map_some,hs]
end
noncomputable def cl (G:List Rw) (C:Nat→Nat):List Nat:=(List.range G.length).map C
noncomputable def keyC (G:List Rw) (C:Nat→Nat) (k:Nat):List Int:=(C k:Int) :: (Z00 G k).map fun w=>w.elim (-1) fun w=>(C w:Int)
noncomputable def Z0V (G:List Rw) (C:Nat→Nat):List (List Int):=(List.range G.length).map (keyC G C)
noncomputable def Z38 (G:List Rw) (C:Nat→Nat) (k:Nat):Nat:=nmb (Z0V G C) (keyC G C k)
noncomputable def Z31 (G:List Rw) (k:Nat):Nat:=nmb ((List.range G.length).map (told G)) (told G k)
structure PreC (G:List Rw) (C:Nat→Nat):Prop where
 told:∀ s t,s < G.length→t < G.length→C s = C t→told G s = told G t
 num:nums (cl G C) = cl G C
section
variable {G:List Rw} {W:Nat} {C:Nat→Nat}
theorem Z2H:cl G (Z38 G C) = nums (Z0V G C):=by unfold cl nums Z0V; rw [List.map_map]; rfl
theorem Z3P:cl G (Z31 G) = nums ((List.range G.length).map (told G)):=by unfold cl nums; rw [List.map_map]; rfl
theorem Z73 {s:Nat} (h:s < G.length):keyC G C s ∈ Z0V G C:=List.mem_map_of_mem (List.mem_range.mpr h)
theorem PreC.start:PreC G (Z31 G) where
 told:=fun s t hs _ e=>Z3M (List.mem_map_of_mem (List.mem_range.mpr hs)) e
 num:=by rw [Z3P]; exact Z1m _
theorem Z8Y {s t:Nat} (e:keyC G C s = keyC G C t):C s = C t:=Int.ofNat.inj (List.cons.inj e).1
theorem PreC.next (h:PreC G C):PreC G (Z38 G C) where
 told:=fun s t hs ht e=>h.told s t hs ht (Z8Y (Z3M (Z73 hs) e))
 num:=by rw [Z2H]; exact Z1m _
theorem Z5E (h:nums (cl G C) = cl G C) {j:Nat} (hj:j < (uq (cl G C)).length):∃ s,s < G.length∧C s = j:=by
 obtain ⟨x,hx,e⟩:=Z4S hj
 rw [Z6X h hx] at e
 subst e
 obtain ⟨s,hs,e⟩:=List.mem_map.mp hx
 exact ⟨s,List.mem_range.mp hs,e⟩
theorem PreC.grows (h:PreC G C):(uq (cl G C)).length ≤ (uq (Z0V G C)).length :=
 Z8T G.length (keyC G C) C (fun l=>(l.headD 0).toNat) (fun _ _=>rfl) _ (fun j hj=>Z5E h.num hj)
theorem Z4Y:(uq (cl G (Z38 G C))).length = (uq (Z0V G C)).length:=by rw [Z2H,Z4T,List.length_range]
theorem PreC.bis (h0:TbK G W) (h:PreC G C) (hc:(uq (Z0V G C)).length ≤ (uq (cl G C)).length):Bis G W fun s t=>(s < G.length∧t < G.length∧C s = C t) ∨ (s = G.length∧t = G.length):=by
 constructor
 ·rintro s t (⟨hs,ht,e⟩ | ⟨rfl,rfl⟩)
  ·exact h.told s t hs ht e
  ·rfl
 ·rintro s t (⟨hs,ht,e⟩ | ⟨rfl,rfl⟩) a ha
  ·have h1:=stab G.length (keyC G C) C (fun l=>(l.headD 0).toNat) (fun _ _=>rfl) _ (fun j hj=>Z5E h.num hj) hc hs ht e
   have h2:=(List.cons.inj h1).2
   have ha1:a < (Z00 G s).length:=by rw [h0.ways_len hs]; exact ha
   have ha2:a < (Z00 G t).length:=by rw [h0.ways_len ht]; exact ha
   have h3:=congrArg (fun l:List Int=>l[a]?) h2
   simp only [List.getElem?_map,List.getElem?_eq_getElem ha1,List.getElem?_eq_getElem ha2,Option.map_some] at h3
   have h4:=Option.some.inj h3
   have g1:goS G s a = ((Z00 G s)[a]).getD G.length:=by unfold goS; rw [List.getElem?_eq_getElem ha1]; rfl
   have g2:goS G t a = ((Z00 G t)[a]).getD G.length:=by unfold goS; rw [List.getElem?_eq_getElem ha2]; rfl
   rw [g1,g2]
   have l1:∀ v,(Z00 G s)[a] = some v→v < G.length:=fun v e=>h0.ways_lt (s:=s) (e ▸ List.getElem_mem ha1)
   have l2:∀ v,(Z00 G t)[a] = some v→v < G.length:=fun v e=>h0.ways_lt (s:=t) (e ▸ List.getElem_mem ha2)
   generalize (Z00 G s)[a] = x at h4 l1 ⊢
   generalize (Z00 G t)[a] = y at h4 l2 ⊢
   cases x with
   | none=>
    cases y with
    | none=>exact .inr ⟨rfl,rfl⟩
    | some v=>exact absurd h4 (by show ¬ ((-1:Int) = (C v:Int)); omega)
   | some u=>
    cases y with
    | none=>exact absurd h4 (by show ¬ ((C u:Int) = -1); omega)
    | some v=>exact .inl ⟨l1 u rfl,l2 v rfl,Int.ofNat.inj h4⟩
  ·exact .inr ⟨Z0U a,Z0U a⟩
inductive ClN (G:List Rw):Nat→(Nat→Nat)→(Nat→Nat)→Prop
 | stop {n:Nat} {C:Nat→Nat}:(uq (Z0V G C)).length ≤ (uq (cl G C)).length→ClN G (n + 1) C (Z38 G C)
 | turn {n:Nat} {C C':Nat→Nat}:(uq (cl G C)).length < (uq (Z0V G C)).length→ClN G n (Z38 G C) C'→ClN G (n + 1) C C'
theorem clN (h0:TbK G W):∀ (n:Nat) {C:Nat→Nat},PreC G C→G.length ≤ n + (uq (cl G C)).length→∃ C',ClN G (n + 1) C (Z38 G C')∧PreC G C'∧(uq (Z0V G C')).length ≤ (uq (cl G C')).length
 | 0,C,h,hn=>by
  have h2:=ZaG (Z0V G C)
  have h3:(Z0V G C).length = G.length:=by unfold Z0V; rw [List.length_map,List.length_range]
  exact ⟨C,.stop (by omega),h,by omega⟩
 | n + 1,C,h,hn=>by
  by_cases e:(uq (Z0V G C)).length ≤ (uq (cl G C)).length
  ·exact ⟨C,.stop e,h,e⟩
  ·obtain ⟨C',f,k⟩:=clN h0 n h.next (by rw [Z4Y]; omega)
   exact ⟨C',.turn (by omega) f,k⟩
end
section
variable {T:List Rw} {W:Nat} {K:Nat→Nat} {mf:List Nat}
theorem Z6k (h0:TbK T W) (k:Kin T W K) (h:Lst T K mf):∃ C',ClN (Gr T K mf) (mf.length + 1) (Z31 (Gr T K mf)) C'∧cl (Gr T K mf) C' = List.range mf.length:=by
 have hG:=h.tok h0
 obtain ⟨J,_,kj⟩:=finN hG (mf.length + 1) (K:=Z30 (Gr T K mf)) Pre.start (by rw [Z08]; omega)
 obtain ⟨C,f,p,hc⟩:=clN hG mf.length (C:=Z31 (Gr T K mf)) PreC.start (by rw [Z08]; omega)
 refine ⟨Z38 (Gr T K mf) C,f,?_⟩
 have inj:∀ s t,s < mf.length→t < mf.length→Z38 (Gr T K mf) C s = Z38 (Gr T K mf) C t→s = t:=by
  intro s t hs ht e
  have e1:=Z8Y (Z3M (Z73 (by rw [Z08]; exact hs)) e)
  have e2:=kj.coarse _ (p.bis hG hc) s t (by rw [Z08]; omega) (by rw [Z08]; omega) (.inl ⟨by rw [Z08]; exact hs,by rw [Z08]; exact ht,e1⟩)
  exact Z8V h hs ht (Z2G h0 k h kj (Nat.le_of_lt hs) (Nat.le_of_lt ht) e2)
 have hn:(cl (Gr T K mf) (Z38 (Gr T K mf) C)).Nodup:=by
  unfold cl
  rw [List.nodup_iff_pairwise_ne,List.pairwise_map]
  refine List.Pairwise.imp_of_mem (R:=fun a b=>a ≠ b) (fun ha hb hab e=>hab (inj _ _ ?_ ?_ e)) List.nodup_range
  ·have:=List.mem_range.mp ha; rwa [Z08] at this
  ·have:=List.mem_range.mp hb; rwa [Z08] at this
 have:=Z4r p.next.num hn
 rw [this]
 unfold cl
 rw [List.length_map,List.length_range,Z08]
theorem ZaN (h0:TbK T W) (k:Kin T W K) (h:Lst T K mf) {J:Nat→Nat} (kj:Kin (Gr T K mf) W J):∀ i,i < mf.length→i ≠ 0→J i ≠ J (Gr T K mf).length:=by
 intro i hi h1 e
 rw [Z08] at e
 have:=Z2G h0 k h kj (Nat.le_of_lt hi) (Nat.le_refl _) e
 rw [Z2F] at this
 exact Z8W h hi h1 this
structure POk (T:List Rw) (K:Nat→Nat) (mf:List Nat) (ps:List (Nat × Nat)):Prop where
 nd:ps.Nodup
 ok:∀ p ∈ ps,p.1 < T.length∧p.2 < mf.length∧K p.1 = kG T K mf p.2
theorem POk.le (h:Lst T K mf) {ps:List (Nat × Nat)} (p:POk T K mf ps):ps.length ≤ T.length:=by
 have h1:(ps.map Prod.fst).Nodup:=by
  rw [List.nodup_iff_pairwise_ne,List.pairwise_map]
  refine List.Pairwise.imp_of_mem (R:=fun a b=>a ≠ b) (fun {a b} ha hb hab e=>hab ?_) p.nd
  obtain ⟨_,a2,a3⟩:=p.ok a ha
  obtain ⟨_,b2,b3⟩:=p.ok b hb
  exact Prod.ext e (Z8V h a2 b2 (by rw [← a3,← b3,e]))
 have:=Z1Y h1 (U:=List.range T.length) fun s hs=>by
  obtain ⟨q,hq,rfl⟩:=List.mem_map.mp hs
  exact List.mem_range.mpr (p.ok q hq).1
 simpa using this
theorem POk.add {ps:List (Nat × Nat)} (p:POk T K mf ps) {q:Nat × Nat} (hq:q.1 < T.length∧q.2 < mf.length∧K q.1 = kG T K mf q.2):POk T K mf (addU ps q) :=
 ⟨Z8Q p.nd q,fun r hr=>(addU_mem.mp hr).elim (p.ok r) fun e=>e ▸ hq⟩
theorem Z8Z (w:Option Nat) (n:Nat):(lv K n w).isSome = decide (K (w.getD n) ≠ K n):=by
 cases w with
 | none=>exact (decide_eq_false fun x=>x rfl).symm
 | some v=>
  unfold lv
  rw [Option.bind_some]
  by_cases q:K v = K n
  ·rw [if_pos q]; exact (decide_eq_false fun x=>x q).symm
  ·rw [if_neg q]; exact (decide_eq_true q).symm
theorem POk.told (k:Kin T W K) (h:Lst T K mf) {p:Nat × Nat} (hp:p.1 < T.length∧p.2 < mf.length∧K p.1 = kG T K mf p.2):Mine.told T p.1 = Mine.told (Gr T K mf) p.2:=by
 obtain ⟨h1,h2,h3⟩:=hp
 have hs:=List.getElem?_eq_getElem h2
 rw [Z5B hs] at h3
 rw [Z6h hs]
 exact k.told _ _ (Nat.le_of_lt h1) (Nat.le_of_lt (h.ok.lt _ (List.mem_of_getElem? hs))) h3
theorem POk.ways (h0:TbK T W) (k:Kin T W K) (h:Lst T K mf) {p:Nat × Nat} (hp:p.1 < T.length∧p.2 < mf.length∧K p.1 = kG T K mf p.2) {q:Option Nat × Option Nat} (hq:q ∈ (Z00 T p.1).zip (Z00 (Gr T K mf) p.2)) :
  (lv K T.length q.1).isSome = q.2.isSome∧∀ v j,lv K T.length q.1 = some v→q.2 = some j→v < T.length∧j < mf.length∧K v = kG T K mf j:=by
 obtain ⟨h1,h2,h3⟩:=hp
 have hs:=List.getElem?_eq_getElem h2
 have hsm:=List.mem_of_getElem? hs
 generalize mf[p.2] = s at hs hsm
 rw [Z5B hs] at h3
 obtain ⟨a,ha⟩:=List.mem_iff_getElem?.mp hq
 obtain ⟨x,y⟩:=q
 rw [List.getElem?_zip_eq_some] at ha
 obtain ⟨ha1,ha2⟩:=ha
 rw [Z2e hs,List.getElem?_map] at ha2
 obtain ⟨w,hw,e⟩:=Option.map_eq_some_iff.mp ha2
 have hlt:=(List.getElem?_eq_some_iff.mp ha1).1
 rw [h0.ways_len h1] at hlt
 have hg:=k.step p.1 s (Nat.le_of_lt h1) (Nat.le_of_lt (h.ok.lt _ hsm)) h3 a hlt
 unfold goS at hg
 simp only at ha1
 rw [ha1,hw] at hg
 have hg':K (x.getD T.length) = K (w.getD T.length):=hg
 have hwm:=List.mem_of_getElem? hw
 refine ⟨?_,fun v j hv hj=>?_⟩
 ·show (lv K T.length x).isSome = y.isSome
  have:y.isSome = (lv K T.length w).isSome:=by rw [← show nuW K T.length mf w = y from e]; unfold nuW; rw [Option.isSome_map]
  rw [this,Z8Z,Z8Z,hg']
 ·simp only at hv hj
  subst hj
  obtain ⟨rfl,_⟩:=Z3O hv
  refine ⟨h0.ways_lt (s:=p.1) (List.mem_of_getElem? ha1),Z70 h hsm hwm e,?_⟩
  have:=Zef h hsm hwm
  rw [e] at this
  exact (show K v = K (w.getD T.length) from hg').trans this.symm
end
end Mine
namespace Mine
open PySem
noncomputable def Z1K:Sms:=(.cons (.ifte (.cmp .notin (.loc 3) (.loc 1)) (.cons (.asgI (.loc 1) (.loc 3) (.bi .len (.loc 1)))
 .nil) .nil)
 (.cons (.expr (.me .append (.loc 2) (.sub (.loc 1) (.loc 3))))
 .nil))
noncomputable def Z3Q:Sms:=(.cons (.asg 1 .dictK)
 (.cons (.asg 2 (.listM .nil))
 (.cons (.for1 3 (.val (.loc 0)) Z1K)
 (.cons (.ret (.fz 2))
 .nil))))
noncomputable def Z2I:Def:=⟨"numbered",["things"],["things","numbers","found","thing"],4,Z3Q,[]⟩
noncomputable def Z1L:Ex:=(.sub (.loc 8) (.int 0))
noncomputable def Z1M:Ex:=(.ite (.cmp .is (.loc 9) .none) (.sub (.loc 1) (.neg 1)) (.sub (.loc 1) (.loc 9)))
noncomputable def Z0L:Sms:=(.cons (.asg 5 (.comp false Z1M 9 (.val (.sub (.loc 4) (.int 1)))))
 (.cons (.expr (.me .append (.loc 2) (.tup (.cons (.sub (.loc 1) (.loc 3)) (.cons (.bi .tuple (.loc 5)) .nil)))))
 .nil))
noncomputable def Z1r:Ex:=(.sub (.loc 1) (.neg 1))
noncomputable def Z1N:Sms:=(.cons (.asg 2 (.listM .nil))
 (.cons (.forT [3,4] (.enum (.loc 0)) Z0L)
 (.cons (.asg 6 (.comp false Z1r 10 (.val (.sub (.sub (.loc 0) (.int 0)) (.int 1)))))
 (.cons (.asg 7 (.call "numbered" (.cons (.bin .add (.fz 2) (.list (.cons (.tup (.cons (.sub (.loc 1) (.neg 1)) (.cons (.bi .tuple (.loc 6)) .nil))) .nil))) .nil)))
 (.cons (.ifte (.cmp .eq (.bi .max (.loc 7)) (.bi .max (.loc 1))) (.cons (.ret (.loc 1))
 .nil) .nil)
 (.cons (.asg 1 (.loc 7))
 .nil))))))
noncomputable def Z3R:Sms:=(.cons (.asg 1 (.call "numbered" (.cons (.bin .add (.comp false Z1L 8 (.val (.loc 0))) (.list (.cons .none .nil))) .nil)))
 (.cons (.while (.bool true) Z1N)
 .nil))
noncomputable def Z2J:Def:=⟨"kinds_of",["rows"],["rows","kinds","parted","place","row","ways","nowhere","finer"],11,Z3R,[]⟩
noncomputable def Z1O:Sms:=(.cons (.ifte (.bor (.cmp .is (.loc 9) .none) (.cmp .eq (.sub (.loc 3) (.loc 9)) (.sub (.loc 3) (.neg 1)))) (.cons (.expr (.me .append (.loc 8) .none))
 .nil) (.cons (.ifte (.cmp .notin (.sub (.loc 3) (.loc 9)) (.loc 4)) (.cons (.asgI (.loc 4) (.sub (.loc 3) (.loc 9)) (.bi .len (.loc 5)))
 (.cons (.expr (.me .append (.loc 5) (.loc 9)))
 .nil)) .nil)
 (.cons (.expr (.me .append (.loc 8) (.sub (.loc 4) (.sub (.loc 3) (.loc 9)))))
 .nil)))
 .nil)
noncomputable def Z2p:Sms:=(.cons (.asg 8 (.listM .nil))
 (.cons (.for1 9 (.val (.sub (.sub (.loc 2) (.sub (.loc 5) (.loc 7))) (.int 1))) Z1O)
 (.cons (.expr (.me .append (.loc 6) (.tup (.cons (.sub (.sub (.loc 2) (.sub (.loc 5) (.loc 7))) (.int 0)) (.cons (.loc 8) .nil)))))
 (.cons (.asg 7 (.bin .add (.loc 7) (.int 1)))
 .nil))))
noncomputable def Z74:Sms:=(.cons (.asgT [1,2] (.loc 0))
 (.cons (.asg 3 (.call "kinds_of" (.cons (.loc 2) .nil)))
 (.cons (.asg 4 (.dict1 (.sub (.loc 3) (.int 0)) (.int 0)))
 (.cons (.asg 5 (.listM (.cons (.int 0) .nil)))
 (.cons (.asg 6 (.listM .nil))
 (.cons (.asg 7 (.int 0))
 (.cons (.while (.cmp .lt (.loc 7) (.bi .len (.loc 5))) Z2p)
 (.cons (.ret (.tup (.cons (.loc 1) (.cons (.loc 6) .nil))))
 .nil))))))))
noncomputable def Z6l:Def:=⟨"least",["made"],["made","signs","rows","kinds","numbers","met","found","at","ways","way"],10,Z74,[]⟩
noncomputable def Z3S:Sms:=(.cons (.ifte (.cmp .lt (.loc 1) (.bi .len (.loc 0))) (.cons (.ret (.sub (.loc 0) (.loc 1)))
 .nil) .nil)
 (.cons (.ret (.int 0))
 .nil))
noncomputable def Z2K:Def:=⟨"_law_cell_at",["_law_script","_law_k"],["_law_script","_law_k"],2,Z3S,[]⟩
noncomputable def Z5F:Sms:=(.cons (.ret (.band (.isin (.loc 0) .int) (.not (.isin (.loc 0) .bool))))
 .nil)
noncomputable def Z4Z:Def:=⟨"_law_whole",["_law_found"],["_law_found"],1,Z5F,[]⟩
noncomputable def Z2f:Sms:=(.cons (.asg 1 (.str " !\"#$&'()*+,-./0123456789:;<=>?@ABCDEFGHIJKLMNOPQRSTUVWXYZ[\\]^_`"))
 (.cons (.asg 1 (.bin .add (.loc 1) (.str "abcdefghijklmnopqrstuvwxyz{|}~\n\t")))
 (.cons (.ret (.sub (.loc 1) (.bin .mod (.loc 0) (.int 96))))
 .nil)))
noncomputable def Z2L:Def:=⟨"_law_sign_by",["_law_cell"],["_law_cell","_law_some"],2,Z2f,[]⟩
noncomputable def Z0M:Ex:=(.call "_law_sign_by" (.cons (.bin .add (.loc 0) (.bin .mul (.loc 4) (.loc 1))) .nil))
noncomputable def Z0N:Ex:=(.me .join (.str "") (.slice (.loc 3) (.some (.bin .mul (.loc 5) (.loc 2))) (.some (.bin .add (.bin .mul (.loc 5) (.loc 2)) (.loc 2)))))
noncomputable def Z16:Sms:=(.cons (.asg 1 (.sub (.list (.cons (.int 1) (.cons (.int 5) (.cons (.int 7) (.cons (.int 11) (.cons (.int 13) (.cons (.int 17) (.cons (.int 19) (.cons (.int 23) .nil))))))))) (.bin .mod (.bin .fdiv (.loc 0) (.int 96)) (.int 8))))
 (.cons (.asg 2 (.int 1))
 (.cons (.ifte (.cmp .eq (.bin .mod (.bin .fdiv (.loc 0) (.int 768)) (.int 4)) (.int 1)) (.cons (.asg 2 (.bin .add (.bin .add (.int 2) (.bin .mod (.bin .fdiv (.loc 0) (.int 3072)) (.int 8))) (.bin .mul (.int 10) (.bin .mod (.bin .fdiv (.loc 0) (.int 24576)) (.int 2)))))
 .nil) .nil)
 (.cons (.asg 3 (.comp false Z0M 4 (.range1 (.bin .mul (.int 5) (.loc 2)))))
 (.cons (.ret (.comp false Z0N 5 (.range1 (.int 5))))
 .nil)))))
noncomputable def Z1Z:Def:=⟨"_law_letters",["_law_cell"],["_law_cell","_law_gap","_law_size","_law_signs"],6,Z16,[]⟩
noncomputable def Z0l:Sms:=(.cons (.ifte (.band (.cmp .isnot (.loc 2) .none) (.bor (.not (.call "_law_whole" (.cons (.loc 2) .nil))) (.bor (.cmp .lt (.loc 2) (.int 0)) (.cmp .ge (.loc 2) (.bi .len (.sub (.loc 0) (.int 1))))))) (.cons (.ret (.bool false))
 .nil) .nil)
 .nil)
noncomputable def Z0E:Sms:=(.cons (.ifte (.bor (.not (.isin (.loc 1) .tuple)) (.bor (.cmp .ne (.bi .len (.loc 1)) (.int 2)) (.not (.isin (.sub (.loc 1) (.int 1)) .list)))) (.cons (.ret (.bool false))
 .nil) .nil)
 (.cons (.ifte (.bor (.band (.cmp .isnot (.sub (.loc 1) (.int 0)) .none) (.bor (.not (.call "_law_whole" (.cons (.sub (.loc 1) (.int 0)) .nil))) (.cmp .lt (.sub (.loc 1) (.int 0)) (.int 0)))) (.cmp .ne (.bi .len (.sub (.loc 1) (.int 1))) (.bi .len (.sub (.loc 0) (.int 0))))) (.cons (.ret (.bool false))
 .nil) .nil)
 (.cons (.for1 2 (.val (.sub (.loc 1) (.int 1))) Z0l)
 .nil)))
noncomputable def Z26:Sms:=(.cons (.ifte (.bor (.not (.isin (.loc 0) .tuple)) (.cmp .ne (.bi .len (.loc 0)) (.int 2))) (.cons (.ret (.bool false))
 .nil) .nil)
 (.cons (.ifte (.bor (.not (.isin (.sub (.loc 0) (.int 0)) .str)) (.bor (.not (.isin (.sub (.loc 0) (.int 1)) .list)) (.cmp .eq (.bi .len (.sub (.loc 0) (.int 1))) (.int 0)))) (.cons (.ret (.bool false))
 .nil) .nil)
 (.cons (.for1 1 (.val (.sub (.loc 0) (.int 1))) Z0E)
 (.cons (.ret (.bool true))
 .nil))))
noncomputable def Z1s:Def:=⟨"_law_table_form",["_law_found"],["_law_found","_law_row","_law_way"],3,Z26,[]⟩
noncomputable def Z0W:Sms:=(.cons (.asg 8 (.bin .mod (.bin .add (.bin .mul (.loc 8) (.int 48271)) (.int 11)) (.int 2147483647)))
 (.cons (.asg 13 (.bin .mod (.bin .fdiv (.loc 8) (.int 7)) (.loc 6)))
 (.cons (.ifte (.band (.chain (.int 0) .lt (.loc 5) .lt (.int 3)) (.cmp .eq (.bi .len (.loc 11)) (.int 0))) (.cons (.asg 13 (.bin .add (.loc 10) (.int 1)))
 .nil) .nil)
 (.cons (.expr (.me .append (.loc 11) (.sub (.list (.cons (.loc 13) (.cons .none .nil))) (.bi .int (.cmp .ge (.loc 13) (.loc 3))))))
 .nil))))
noncomputable def Z0X:Sms:=(.cons (.asg 11 (.listM .nil))
 (.cons (.for1 12 (.val (.loc 4)) Z0W)
 (.cons (.asg 8 (.bin .mod (.bin .add (.bin .mul (.loc 8) (.int 48271)) (.int 11)) (.int 2147483647)))
 (.cons (.asg 14 (.bin .mod (.bin .fdiv (.loc 8) (.int 7)) (.sub (.list (.cons (.int 6) (.cons (.int 12) (.cons (.int 30) (.cons (.int 3) .nil))))) (.loc 5))))
 (.cons (.expr (.me .append (.loc 9) (.tup (.cons (.sub (.list (.cons (.bin .mul (.loc 14) (.loc 7)) (.cons .none .nil))) (.bi .int (.cmp .gt (.loc 14) (.int 2)))) (.cons (.fz 11) .nil)))))
 .nil)))))
noncomputable def dl_table_byB:Sms:=(.cons (.asg 3 (.bin .add (.int 1) (.bin .mod (.call "_law_cell_at" (.cons (.loc 0) (.cons (.int 1) .nil))) (.int 7))))
 (.cons (.ifte (.cmp .eq (.bin .mod (.bin .fdiv (.call "_law_cell_at" (.cons (.loc 0) (.cons (.int 1) .nil))) (.int 7)) (.int 6)) (.int 1)) (.cons (.asg 3 (.bin .add (.int 1) (.bin .mod (.bin .fdiv (.call "_law_cell_at" (.cons (.loc 0) (.cons (.int 1) .nil))) (.int 42)) (.int 64))))
 .nil) .nil)
 (.cons (.asg 4 (.slice (.me .join (.str "") (.slice (.loc 1) .none (.some (.bin .mod (.call "_law_cell_at" (.cons (.loc 0) (.cons (.int 2) .nil))) (.int 5))))) .none (.some (.sub (.list (.cons (.int 40) (.cons (.loc 2) .nil))) (.bi .int (.cmp .gt (.loc 3) (.int 7)))))))
 (.cons (.asg 5 (.bin .mod (.bin .fdiv (.call "_law_cell_at" (.cons (.loc 0) (.cons (.int 2) .nil))) (.int 5)) (.int 4)))
 (.cons (.asg 6 (.bin .add (.loc 3) (.sub (.list (.cons (.int 0) (.cons (.int 1) (.cons (.bin .add (.int 1) (.bin .fdiv (.loc 3) (.int 3))) .nil)))) (.bin .mod (.bin .fdiv (.call "_law_cell_at" (.cons (.loc 0) (.cons (.int 2) .nil))) (.int 20)) (.int 3)))))
 (.cons (.asg 7 (.sub (.list (.cons (.int 0) (.cons (.int 1) (.cons (.int 7) (.cons (.bin .pow (.int 10) (.int 9)) .nil))))) (.bin .mod (.bin .fdiv (.call "_law_cell_at" (.cons (.loc 0) (.cons (.int 2) .nil))) (.int 60)) (.int 4))))
 (.cons (.asg 8 (.bin .mod (.call "_law_cell_at" (.cons (.loc 0) (.cons (.int 3) .nil))) (.int 2147483647)))
 (.cons (.asg 9 (.listM .nil))
 (.cons (.for1 10 (.range1 (.loc 3)) Z0X)
 (.cons (.ret (.tup (.cons (.loc 4) (.cons (.fz 9) .nil))))
 .nil))))))))))
noncomputable def Z2g:Def:=⟨"_law_table_by",["_law_script","_law_letters_here","_law_most_signs"],["_law_script","_law_letters_here","_law_most_signs","_law_many","_law_signs","_law_style","_law_most","_law_alone","_law_number","_law_rows","_law_k","_law_ways","_law_sign","_law_way","_law_told"],15,dl_table_byB,[]⟩
noncomputable def Z3T:Ex:=(.cmp .isnot (.sub (.loc 5) (.int 0)) .none)
noncomputable def Z3U:Sms:=(.cons (.ifte (.band (.cmp .isnot (.loc 4) .none) (.band (.sub (.loc 1) (.loc 4)) (.not (.sub (.loc 1) (.loc 3))))) (.cons (.asgI (.loc 1) (.loc 3) (.bool true))
 (.cons (.asg 2 (.bool true))
 .nil)) .nil)
 .nil)
noncomputable def Z3V:Sms:=(.cons (.for1 4 (.val (.sub (.sub (.sub (.loc 0) (.int 1)) (.loc 3)) (.int 1))) Z3U)
 .nil)
noncomputable def Z3W:Sms:=(.cons (.asg 2 (.bool false))
 (.cons (.for1 3 (.range1 (.bi .len (.loc 1))) Z3V)
 .nil))
noncomputable def Z75:Sms:=(.cons (.asg 1 (.comp true Z3T 5 (.val (.sub (.loc 0) (.int 1)))))
 (.cons (.asg 2 (.bool true))
 (.cons (.while (.loc 2) Z3W)
 (.cons (.ret (.loc 1))
 .nil))))
noncomputable def Z6m:Def:=⟨"_law_busy",["_law_made"],["_law_made","_law_busy_here","_law_changed","_law_k","_law_way"],6,Z75,[]⟩
noncomputable def Z0u:Ex:=(.setd (.loc 1) (.loc 2) (.bi .len (.loc 1)))
noncomputable def Z3X:Sms:=(.cons (.asg 1 .dictK)
 (.cons (.ret (.comp true Z0u 2 (.val (.loc 0))))
 .nil))
noncomputable def Z2M:Def:=⟨"_law_numbers",["_law_keys"],["_law_keys","_law_known"],3,Z3X,[]⟩
noncomputable def Z1P:Ex:=(.sub (.loc 7) (.int 0))
noncomputable def Z1b:Sms:=(.cons (.expr (.me .append (.loc 5) (.sub (.list (.cons (.neg 1) (.cons (.sub (.loc 1) (.bor (.loc 6) (.int 0))) .nil))) (.bi .int (.cmp .isnot (.loc 6) .none)))))
 .nil)
noncomputable def Z1c:Sms:=(.cons (.asg 5 (.listM (.cons (.sub (.loc 1) (.loc 4)) .nil)))
 (.cons (.for1 6 (.val (.sub (.sub (.sub (.loc 0) (.int 1)) (.loc 4)) (.int 1))) Z1b)
 (.cons (.expr (.me .append (.loc 3) (.bi .tuple (.fz 5))))
 .nil)))
noncomputable def Z1Q:Sms:=(.cons (.asg 2 (.lenSet (.loc 1)))
 (.cons (.asg 3 (.listM .nil))
 (.cons (.for1 4 (.range1 (.bi .len (.loc 1))) Z1c)
 (.cons (.asg 1 (.call "_law_numbers" (.cons (.fz 3) .nil)))
 .nil))))
noncomputable def Z3Y:Sms:=(.cons (.asg 1 (.call "_law_numbers" (.cons (.comp false Z1P 7 (.val (.sub (.loc 0) (.int 1)))) .nil)))
 (.cons (.asg 2 (.int 0))
 (.cons (.while (.cmp .lt (.loc 2) (.lenSet (.loc 1))) Z1Q)
 (.cons (.ret (.loc 1))
 .nil))))
noncomputable def Z20:Def:=⟨"_law_classes",["_law_made"],["_law_made","_law_classes_here","_law_many","_law_keys","_law_k","_law_key","_law_way"],8,Z3Y,[]⟩
noncomputable def Z0F:Sms:=(.cons (.ifte (.band (.cmp .isnot (.loc 3) .none) (.cmp .notin (.loc 3) (.loc 1))) (.cons (.expr (.me .append (.loc 1) (.loc 3)))
 .nil) .nil)
 .nil)
noncomputable def Z1t:Sms:=(.cons (.for1 3 (.val (.sub (.sub (.sub (.loc 0) (.int 1)) (.sub (.loc 1) (.loc 2))) (.int 1))) Z0F)
 (.cons (.asg 2 (.bin .add (.loc 2) (.int 1)))
 .nil))
noncomputable def Z32:Sms:=(.cons (.asg 1 (.listM (.cons (.int 0) .nil)))
 (.cons (.asg 2 (.int 0))
 (.cons (.while (.cmp .lt (.loc 2) (.bi .len (.loc 1))) Z1t)
 (.cons (.ret (.cmp .eq (.loc 1) (.listR (.bi .len (.sub (.loc 0) (.int 1))))))
 .nil))))
noncomputable def Z2h:Def:=⟨"_law_numbered",["_law_made"],["_law_made","_law_met","_law_at","_law_way"],4,Z32,[]⟩
noncomputable def Z0A:Sms:=(.cons (.asg 9 (.band (.cmp .isnot (.loc 7) .none) (.sub (.loc 2) (.loc 7))))
 (.cons (.ifte (.cmp .ne (.loc 9) (.cmp .isnot (.loc 8) .none)) (.cons (.ret (.bool false))
 .nil) .nil)
 (.cons (.ifte (.band (.loc 9) (.cmp .notin (.tup (.cons (.loc 7) (.cons (.loc 8) .nil))) (.loc 3))) (.cons (.expr (.me .append (.loc 3) (.tup (.cons (.loc 7) (.cons (.loc 8) .nil)))))
 .nil) .nil)
 .nil)))
noncomputable def Z0P:Sms:=(.cons (.asgT [5,6] (.sub (.loc 3) (.loc 4)))
 (.cons (.ifte (.cmp .ne (.sub (.sub (.sub (.loc 0) (.int 1)) (.loc 5)) (.int 0)) (.sub (.sub (.sub (.loc 1) (.int 1)) (.loc 6)) (.int 0))) (.cons (.ret (.bool false))
 .nil) .nil)
 (.cons (.forT [7,8] (.zip (.sub (.sub (.sub (.loc 0) (.int 1)) (.loc 5)) (.int 1)) (.sub (.sub (.sub (.loc 1) (.int 1)) (.loc 6)) (.int 1))) Z0A)
 (.cons (.asg 4 (.bin .add (.loc 4) (.int 1)))
 .nil))))
noncomputable def Z1R:Sms:=(.cons (.asg 2 (.call "_law_busy" (.cons (.loc 0) .nil)))
 (.cons (.asg 3 (.listM (.cons (.tup (.cons (.int 0) (.cons (.int 0) .nil))) .nil)))
 (.cons (.asg 4 (.int 0))
 (.cons (.while (.cmp .lt (.loc 4) (.bi .len (.loc 3))) Z0P)
 (.cons (.ret (.bool true))
 .nil)))))
noncomputable def Z1g:Def:=⟨"_law_leads_alike",["_law_kept","_law_found"],["_law_kept","_law_found","_law_busy_here","_law_pairs","_law_at","_law_old","_law_new","_law_one","_law_other","_law_alive"],10,Z1R,[]⟩
noncomputable def Z2N:Ex:=(.tup (.cons (.sub (.loc 7) (.int 0)) (.cons (.bi .list (.sub (.loc 7) (.int 1))) .nil)))
noncomputable def Z50:Sms:=(.cons (.expr (.me .append (.sub (.sub (.sub (.loc 4) (.int 1)) (.loc 6)) (.int 1)) .none))
 (.cons (.ifte (.cmp .ne (.slice (.sub (.loc 4) (.int 1)) (.some (.bin .add (.loc 6) (.int 1))) .none) (.slice (.sub (.loc 5) (.int 1)) (.some (.bin .add (.loc 6) (.int 1))) .none)) (.cons (.ret (.bool false))
 .nil) .nil)
 .nil))
noncomputable def ZbE:Sms:=(.cons (.asg 1 (.call "_law_letters" (.cons (.call "_law_cell_at" (.cons (.loc 0) (.cons (.int 0) .nil))) .nil)))
 (.cons (.asg 2 (.call "_law_table_by" (.cons (.loc 0) (.cons (.loc 1) (.cons (.int 4) .nil)))))
 (.cons (.asg 3 (.call "_law_table_by" (.cons (.loc 0) (.cons (.loc 1) (.cons (.int 4) .nil)))))
 (.cons (.asg 4 (.call "least" (.cons (.loc 2) .nil)))
 (.cons (.ifte (.bor (.cmp .ne (.loc 2) (.loc 3)) (.bor (.not (.callD "_law_table_form" (.cons (.loc 4) .nil))) (.bor (.cmp .ne (.sub (.loc 4) (.int 0)) (.sub (.loc 3) (.int 0))) (.cmp .ne (.callD "least" (.cons (.loc 4) .nil)) (.loc 4))))) (.cons (.ret (.bool false))
 .nil) .nil)
 (.cons (.ifte (.bor (.not (.callD "_law_leads_alike" (.cons (.loc 3) (.cons (.loc 4) .nil)))) (.bor (.not (.callD "_law_numbered" (.cons (.loc 4) .nil))) (.cmp .isin (.bool false) (.slice (.callD "_law_busy" (.cons (.loc 4) .nil)) (.some (.int 1)) .none)))) (.cons (.ret (.bool false))
 .nil) .nil)
 (.cons (.ifte (.cmp .ne (.callD "_law_classes" (.cons (.loc 4) .nil)) (.listR (.bi .len (.sub (.loc 4) (.int 1))))) (.cons (.ret (.bool false))
 .nil) .nil)
 (.cons (.asg 5 (.tup (.cons (.sub (.loc 4) (.int 0)) (.cons (.compH Z2N 7 (.sub (.loc 4) (.int 1))) .nil))))
 (.cons (.for1 6 (.range1 (.bi .len (.sub (.loc 5) (.int 1)))) Z50)
 (.cons (.expr (.me .append (.sub (.loc 4) (.int 1)) .none))
 (.cons (.ret (.band (.cmp .eq (.call "least" (.cons (.loc 2) .nil)) (.loc 5)) (.cmp .eq (.loc 2) (.loc 3))))
 .nil)))))))))))
noncomputable def Zd7:Def:=⟨"law",["_law_script"],["_law_script","_law_letters_here","_law_made","_law_kept","_law_found","_law_due","_law_k"],8,ZbE,[]⟩
noncomputable def defs:List Def:=[Z2I,Z2J,Z6l,Z2K,Z4Z,Z2L,Z1Z,Z1s,Z2g,Z6m,Z2M,Z20,Z2h,Z1g,Zd7]
theorem Z1S {n:Nat} {xs:List V} (h:∀ x ∈ xs,x.lo n = true):V.los n xs = true:=by
 induction xs with
 | nil=>exact Z0f
 | cons x xs ih=>rw [Z02,h x (by simp),ih fun y hy=>h y (by simp [hy])]; rfl
theorem Z0o {α:Type} (l:List α) (x:α):(l++[x])[l.length]? = some x:=by simp
theorem Z0K {α:Type} (l:List α) (x y:α):(l++[x]).set l.length y = l++[y]:=by simp
theorem Z1T {α:Type} (l r:List α) (x:α):(l++x :: r)[l.length]? = some x:=by simp
theorem Z1U {α:Type} (l r:List α) (x y:α):(l++x :: r).set l.length y = l++y :: r:=by simp
noncomputable def Cl (σ:List O):Prop:=σ.all (O.lo σ.length) = true
theorem Cl.snoc {σ:List O} (h:Cl σ) {xs:List V} (hx:V.los 0 xs = true):Cl (σ++[.lst xs]):=by
 unfold Cl
 rw [List.all_append,List.length_append,Bool.and_eq_true]
 refine ⟨List.all_eq_true.mpr fun o ho=>O.lo_mono (Nat.le_add_right _ _) (List.all_eq_true.mp h o ho),?_⟩
 simp only [List.all_cons,List.all_nil,Bool.and_true]
 exact V.los_mono (Nat.zero_le _) _ hx
theorem Cl.dead {σ:List O} (h:Cl σ):Cl (σ++[.dead]):=by
 unfold Cl
 rw [List.all_append,List.length_append,Bool.and_eq_true]
 exact ⟨List.all_eq_true.mpr fun o ho=>O.lo_mono (Nat.le_add_right _ _) (List.all_eq_true.mp h o ho),rfl⟩
theorem Z51 {n:Nat} {a b:List V} (ha:V.los n a = true) (hb:V.los n b = true):V.los n (a++b) = true:=by
 induction a with
 | nil=>exact hb
 | cons x a ih=>
  rw [Z02,Bool.and_eq_true] at ha
  rw [List.cons_append,Z02,ha.1,ih ha.2]; rfl
theorem qlst {o:Option O} {xs:List V} (h:o = some (.lst xs)):lstO o = some xs:=by rw [h]; rfl
theorem Z3Z {F:Fn} {elt:Ex} {ρ₀:List (Option V)} {σ:List O} {k:Nat} (f:V→V):∀ (xs:List V),(∀ x ∈ xs,(f x).lo 0 = true) →
  (∀ x ∈ xs,∀ acc,V.los 0 acc = true→evE F elt ⟨ρ₀.set k (some x),σ++[.lst acc]⟩ = .ok (f x) ⟨ρ₀.set k (some x),σ++[.lst acc]⟩) →
  ∀ (acc:List V) (v:Option V),V.los 0 acc = true→acc.length + xs.length ≤ sizeLine →
  ∃ v',Z1x k σ.length (evE F elt) xs ⟨ρ₀.set k v,σ++[.lst acc]⟩ = .ok () ⟨ρ₀.set k v',σ++[.lst (acc++xs.map f)]⟩
 | [],_,_,acc,v,_,_=>⟨v,by rw [Z5e,List.map_nil,List.append_nil]⟩
 | x :: xs,hf,h,acc,v,ha,hl=>by
  have hl':acc.length + (xs.length + 1) ≤ sizeLine:=hl
  have hset:setV ⟨ρ₀.set k v,σ++[.lst acc]⟩ k x = ⟨ρ₀.set k (some x),σ++[.lst acc]⟩:=by rw [qset,List.set_set]
  obtain ⟨v',e⟩:=Z3Z f xs (fun y hy=>hf y (by simp [hy])) (fun z hz=>h z (by simp [hz])) (acc++[f x]) (some x) (Z51 ha (by rw [Z02,hf x (by simp),Z0f]; rfl)) (by rw [List.length_append,List.length_singleton]; omega)
  refine ⟨v',?_⟩
  rw [Z2u,hset,h x (by simp) acc ha,R.bind_ok]
  have hg:(σ++[O.lst acc])[σ.length]? = some (.lst acc):=Z0o ..
  rw [Z0j (qlst hg),if_pos (by omega),Z0K,e,List.map_cons,List.append_assoc]; rfl
theorem Z5G {F:Fn} {m:Bool} {elt:Ex} {ρ₀:List (Option V)} {σ:List O} {k:Nat} {it:It} {xs:List V} (f:V→V) (hf:∀ x ∈ xs,(f x).lo 0 = true) (hit:evIt F it ⟨ρ₀,σ⟩ = .ok xs ⟨ρ₀,σ⟩) (hl:xs.length ≤ sizeLine)
  (h:∀ x ∈ xs,∀ acc,V.los 0 acc = true→evE F elt ⟨ρ₀.set k (some x),σ++[.lst acc]⟩ = .ok (f x) ⟨ρ₀.set k (some x),σ++[.lst acc]⟩) :
  ∃ v',evE F (.comp m elt k it) ⟨ρ₀,σ⟩ = Z44 m k σ.length ⟨ρ₀.set k v',σ++[.lst (xs.map f)]⟩:=by
 obtain ⟨v',h1⟩:=Z3Z f xs hf h [] none Z0f (by simpa using hl)
 refine ⟨v',?_⟩
 rw [Z3b,hit,R.bind_ok]
 dsimp only
 rw [h1,R.bind_ok]; rfl
theorem Z21 {F:Fn} {elt:Ex} {ρ₀:List (Option V)} {σ:List O} {k:Nat} {it:It} {xs:List V} (f:V→V) (hf:∀ x ∈ xs,(f x).lo 0 = true) (hit:evIt F it ⟨ρ₀,σ⟩ = .ok xs ⟨ρ₀,σ⟩) (hl:xs.length ≤ sizeLine)
  (h:∀ x ∈ xs,∀ acc,V.los 0 acc = true→evE F elt ⟨ρ₀.set k (some x),σ++[.lst acc]⟩ = .ok (f x) ⟨ρ₀.set k (some x),σ++[.lst acc]⟩) :
  evE F (.comp false elt k it) ⟨ρ₀,σ⟩ = .ok (.lst (xs.map f)) ⟨ρ₀.set k none,σ++[.dead]⟩:=by
 obtain ⟨v',e⟩:=Z5G (m:=false) f hf hit hl h
 rw [e]
 unfold Z44
 rw [Z0j (qlst (Z0o ..)),if_neg Bool.false_ne_true,Z0K,List.set_set]
theorem Z90 {F:Fn} {elt:Ex} {ρ₀:List (Option V)} {σ:List O} {k:Nat} {it:It} {xs:List V} (f:V→V) (hf:∀ x ∈ xs,(f x).lo 0 = true) (hit:evIt F it ⟨ρ₀,σ⟩ = .ok xs ⟨ρ₀,σ⟩) (hl:xs.length ≤ sizeLine)
  (h:∀ x ∈ xs,∀ acc,V.los 0 acc = true→evE F elt ⟨ρ₀.set k (some x),σ++[.lst acc]⟩ = .ok (f x) ⟨ρ₀.set k (some x),σ++[.lst acc]⟩) :
  evE F (.comp true elt k it) ⟨ρ₀,σ⟩ = .ok (.ref σ.length) ⟨ρ₀.set k none,σ++[.lst (xs.map f)]⟩:=by
 obtain ⟨v',e⟩:=Z5G (m:=true) f hf hit hl h
 rw [e]
 unfold Z44
 rw [Z0j (qlst (Z0o ..)),if_pos rfl,List.set_set]
noncomputable def s1:Str:=Str.ofString " !\"#$&'()*+,-./0123456789:;<=>?@ABCDEFGHIJKLMNOPQRSTUVWXYZ[\\]^_`"
noncomputable def s2:Str:=Str.ofString "abcdefghijklmnopqrstuvwxyz{|}~\n\t"
noncomputable def signs:List Nat:=s1.cps.toList++s2.cps.toList
theorem Z5H:signs.length = 96:=by decide +kernel
theorem ZaO:signs.Nodup:=by decide +kernel
theorem ZaP:signs.all (· < 127) = true:=by decide +kernel
noncomputable def Z1d (i:Int):Nat:=signs.getD (i.emod 96).toNat 0
theorem Z2O (i:Int):(i.emod 96).toNat < 96∧((i.emod 96).toNat:Int) = i.emod 96:=by
 have h1:=Int.emod_nonneg i (show (96:Int) ≠ 0 by decide)
 have h2:=Int.emod_lt_of_pos i (show (0:Int) < 96 by decide)
 change 0 ≤ i.emod 96 at h1
 change i.emod 96 < 96 at h2
 lia
theorem Z22 (i:Int):signs[(i.emod 96).toNat]? = some (Z1d i):=by
 have h:=(Z2O i).1
 unfold Z1d
 rw [List.getD_eq_getElem?_getD,List.getElem?_eq_getElem (by rw [Z5H]; exact h)]; rfl
theorem Z91 (i:Int):Z1d i < 127:=by
 have:=List.all_eq_true.mp ZaP (Z1d i) (List.mem_of_getElem? (Z22 i))
 exact of_decide_eq_true this
theorem Z7y {i j:Int} (h:Z1d i = Z1d j):i.emod 96 = j.emod 96:=by
 have h1:=Z22 i
 have h2:=Z22 j
 rw [← h] at h2
 have h3:=(List.getElem?_inj (by rw [Z5H]; exact (Z2O i).1) ZaO).mp (h1.trans h2.symm)
 have h4:=(Z2O i).2
 have h5:=(Z2O j).2
 rw [← h4,← h5,h3]
theorem Z6n (F:Fn) (K:Nat) (i:Int) (σ:List O) (hσ:Cl σ):Z0m F K Z2L [.int i] σ = .ok (.str [Z1d i]) ⟨[],σ⟩:=by
 have hl1:s1.cps.toList.length = 64:=by decide +kernel
 have hl2:s2.cps.toList.length = 32:=by decide +kernel
 have hb:Z2f = .cons (.asg 1 (.str s1)) (.cons (.asg 1 (.bin .add (.loc 1) (.str s2))) (.cons (.ret (.sub (.loc 1) (.bin .mod (.loc 0) (.int 96)))) .nil)):=rfl
 have hg:=Z22 i
 have hlt:=(Z2O i).1
 have hm:Int.fmod i 96 = (((i.emod 96).toNat:Nat):Int):=by rw [(Z2O i).2,Int.fmod_eq_emod_of_nonneg _ (by decide)]; rfl
 have hc':idxOf (s1.cps.toList++s2.cps.toList) (i.fmod 96) = some (Z1d i):=by rw [hm,Z0J _ (by lia)]; exact hg
 have hsz:s1.cps.toList.length + s2.cps.toList.length ≤ sizeLine:=by rw [hl1,hl2]; decide
 refine Z1A rfl ?_ (Z1j _) hσ
 show Ret (evSs F K Z2f ⟨[some (.int i),none],σ⟩) _ _
 refine Ret.mk0 (ρ:=[some (.int i),some (.str (s1.cps.toList++s2.cps.toList))]) ?_
 rw [hb]
 exact atS fun t=>t rfl (Zc3 _ _ hsz) rfl rfl (ZeK hc') rfl
theorem Z3h {n:Nat} {x:V} (h:x ∈ upTo 0 n):∃ k:Nat,k < n∧x = .int k:=by
 unfold upTo at h
 refine El.x1_2 (List.mem_map.mp h) fun k hk q0z=>?_
 obtain rfl:=q0z
 have:=List.mem_range.mp hk
 exact ⟨k,by lia,by simp⟩
theorem Z3i (n:Nat) (f:V→V):(upTo 0 n).map f = (List.range n).map fun k:Nat=>f (.int (k:Int)):=by
 unfold upTo
 rw [List.map_map]
 have:((n:Int) - 0).toNat = n:=by lia
 rw [this]
 exact List.map_congr_left fun k _=>by simp
theorem Z2q (n:Nat):(upTo 0 n).length = n:=by simp [upTo]
theorem Z0B {n:Nat} (h:n < 2 ^ 31):Z19 (n:Int) = true:=by
 have h1:(-(2 ^ 62):Int) ≤ (n:Int):=by lia
 have h2:((n:Int):Int) < 2 ^ 62:=by lia
 unfold Z19
 rw [decide_eq_true h1,decide_eq_true h2]; rfl
theorem Z5I:∀ (l:List Nat),Z25 (l.map fun c=>V.str [c]) = some (l.map fun c=>[c])
 | []=>rfl
 | c :: l=>(congrArg (Option.map ([c] :: ·)) (Z5I l):_)
theorem Z40:∀ (l:List Nat),(l.map fun c=>[c]).flatten = l
 | []=>rfl
 | c :: l=>by rw [List.map_cons,List.flatten_cons,Z40 l]; rfl
theorem Z52 (n i:Nat):clipAt n (i:Int) = min i n:=by
 unfold clipAt
 rw [if_neg (Int.not_lt.mpr (Int.natCast_nonneg i))]
 rcases Nat.le_total i n with h | h
 ·rw [Int.min_eq_left (Int.ofNat_le.mpr h),Nat.min_eq_left h,Int.max_eq_right (Int.natCast_nonneg _),Int.toNat_natCast]
 ·rw [Int.min_eq_right (Int.ofNat_le.mpr h),Nat.min_eq_right h,Int.max_eq_right (Int.natCast_nonneg _),Int.toNat_natCast]
theorem Zd8 {α:Type} (xs:List α) (a b:Nat) (hab:a ≤ b) (hb:b ≤ xs.length):cutL xs (some (a:Int)) (some (b:Int)) = (xs.drop a).take (b - a):=by
 unfold cutL
 simp only [Option.elim_some,Z52]
 rw [Nat.min_eq_left hb,Nat.min_eq_left (Nat.le_trans hab hb)]
theorem Z1V {i:Int} (h1:-1000000 ≤ i) (h2:i ≤ 1000000):Z10 i = true:=by
 unfold Z10
 rw [decide_eq_true (by lia),decide_eq_true (by lia)]; rfl
theorem Z1e (a:Int) (n:Nat) (hn:0 < n):∃ k:Nat,Int.fmod a n = k∧k < n:=by
 have h1:0 ≤ Int.fmod a n:=by rw [Int.fmod_eq_emod_of_nonneg _ (by lia)]; exact Int.emod_nonneg _ (by lia)
 have h2:Int.fmod a n < n:=by rw [Int.fmod_eq_emod_of_nonneg _ (by lia)]; exact Int.emod_lt_of_pos _ (by lia)
 refine El.x1_1 (Int.eq_ofNat_of_zero_le h1) fun k hk=>?_
 exact ⟨k,hk,by rw [hk] at h2; lia⟩
noncomputable def Z4a (cell g:Int) (z:Nat):List Nat:=(List.range (5 * z)).map fun j:Nat=>Z1d (cell + (j:Int) * g)
theorem Z5J (cell g:Int) (z:Nat):(Z4a cell g z).length = 5 * z:=by simp [Z4a]
theorem ZaQ {cell g:Int} {z c:Nat} (h:c ∈ Z4a cell g z):c < 127:=by
 obtain ⟨j,_,rfl⟩:=List.mem_map.mp h; exact Z91 _
theorem gap1 {g g' q cell i j:Int} (e:g * g' = 96 * q + 1) (h:(cell + i * g) % 96 = (cell + j * g) % 96):∃ m,i - j = 96 * m:=by
 have h1:i * g - j * g = 96 * ((cell + i * g) / 96 - (cell + j * g) / 96):=by
  generalize i * g = a at h ⊢
  generalize j * g = b at h ⊢
  lia
 refine ⟨((cell + i * g) / 96 - (cell + j * g) / 96) * g' - (i - j) * q,?_⟩
 have h2:(i - j) * (g * g') = 96 * (((cell + i * g) / 96 - (cell + j * g) / 96) * g'):=by
  rw [← Int.mul_assoc,Int.sub_mul,h1,Int.mul_assoc]
 rw [e,Int.mul_add,Int.mul_one,Int.mul_left_comm] at h2
 rw [Int.mul_sub,← h2]
 rw [Int.add_comm]; exact (Int.add_sub_cancel ..).symm
theorem Zd9 {g cell:Int} (hg:g ∈ ([1,5,7,11,13,17,19,23]:List Int)) {i j:Nat} (hi:i < 96) (hj:j < 96) (h:(cell + (i:Int) * g) % 96 = (cell + (j:Int) * g) % 96):i = j:=by
 have key:∀ g' q:Int,g * g' = 96 * q + 1→i = j:=fun g' q e=>El.x1_1 (gap1 e h) fun m hm=>by lia
 simp only [List.mem_cons,List.not_mem_nil,or_false] at hg
 rcases hg with rfl | rfl | rfl | rfl | rfl | rfl | rfl | rfl
 ·exact key 1 0 (by decide)
 ·exact key 77 4 (by decide)
 ·exact key 55 4 (by decide)
 ·exact key 35 4 (by decide)
 ·exact key 37 5 (by decide)
 ·exact key 17 3 (by decide)
 ·exact key 91 18 (by decide)
 ·exact key 71 17 (by decide)
theorem ZaR {cell g:Int} {z:Nat} (hz:z ≤ 19) (hg:g ∈ ([1,5,7,11,13,17,19,23]:List Int)):(Z4a cell g z).Nodup:=by
 unfold Z4a
 rw [List.nodup_iff_pairwise_ne,List.pairwise_map]
 refine List.Pairwise.imp_of_mem (fun {i j} hi hj hne e=>hne ?_) List.nodup_range
 have h1:=List.mem_range.mp hi
 have h2:=List.mem_range.mp hj
 exact Zd9 hg (by lia) (by lia) (Z7y e)
noncomputable def word (L:List Nat) (z k:Nat):List Nat:=(L.drop (k * z)).take z
noncomputable def Z0G (L:List Nat) (z:Nat):List V:=(List.range 5).map fun k=>.str (word L z k)
theorem ZaS {L:List Nat} {z k:Nat} (hk:k < 5) (hL:L.length = 5 * z):(word L z k).length = z:=by
 unfold word
 rw [List.length_take,List.length_drop,hL]
 have:(k + 1) * z ≤ 5 * z:=Nat.mul_le_mul_right z (by lia)
 rw [Nat.add_mul] at this; lia
theorem Z5K (F:Fn) (K:Nat) (cell g:Int) (z:Nat) (h1:1 ≤ z) (h2:z ≤ 19) (σ:List O) (hσ:Cl σ) (hF:∀ i τ,Cl τ→F "_law_sign_by" [.int i] τ = .ok (.str [Z1d i]) ⟨[],τ⟩) :
  Ret (evSs F K (.cons (.asg 3 (.comp false Z0M 4 (.range1 (.bin .mul (.int 5) (.loc 2))))) (.cons (.ret (.comp false Z0N 5 (.range1 (.int 5)))) .nil)) ⟨[some (.int cell),some (.int g),some (.int z),none,none,none],σ⟩) (.lst (Z0G (Z4a cell g z) z)) σ:=by
 have hz5:(5:Int) * (z:Int) = ((5 * z:Nat):Int):=by lia
 have s5:Z10 5 = true:=Z1V (by lia) (by lia)
 have r5:Z19 5 = true:=Z0B (n:=5) (by lia)
 have e1:=Z21 (F:=F) (elt:=Z0M) (k:=4) (ρ₀:=[some (.int cell),some (.int g),some (.int z),none,none,none]) (σ:=σ) (it:=.range1 (.bin .mul (.int 5) (.loc 2))) (xs:=upTo 0 (5 * z:Nat))
  (fun x=>match x with | .int k=>.str [Z1d (cell + k * g)] | _=>.none) (fun x hx=>by obtain ⟨k,_,rfl⟩:=Z3h hx; exact Z1j _)
  (atI fun t=>t (Z3q 5 z (by rw [s5]; rfl)) hz5 (Z0B (by lia)))
  (by rw [Z2q]; unfold sizeLine; lia)
  (fun x hx acc ha=>by
   refine El.x1_2 (Z3h hx) fun k hk q0z=>?_
   obtain rfl:=q0z
   have sk:Z10 (k:Int) = true:=Z2j (by lia)
   have hc:=hF (cell + (k:Int) * g) (σ++[.lst acc]) (hσ.snoc ha)
   have hm:=Z3q (k:Int) g (by rw [sk]; rfl)
   exact atE fun t=>t hm hc)
 have ey:(upTo 0 (5 * z:Nat)).map (fun x=>match x with | .int k=>V.str [Z1d (cell + k * g)] | _=>.none) = (Z4a cell g z).map fun c=>V.str [c]:=by
  rw [Z3i]
  unfold Z4a
  rw [List.map_map]
  rfl
 rw [ey] at e1
 have hL:=Z5J cell g z
 generalize Z4a cell g z = L at e1 hL
 have e2:=Z21 (F:=F) (elt:=Z0N) (k:=5) (ρ₀:=[some (.int cell),some (.int g),some (.int z),some (.lst (L.map fun c=>V.str [c])),none,none]) (σ:=σ++[.dead]) (it:=.range1 (.int 5)) (xs:=upTo 0 (5:Nat))
  (fun x=>match x with | .int k=>.str (word L z k.toNat) | _=>.none) (fun x hx=>by obtain ⟨k,_,rfl⟩:=Z3h hx; exact Z1j _)
  (atI fun t=>t rfl r5)
  (by rw [Z2q]; unfold sizeLine; lia)
  (fun x hx acc ha=>by
   refine El.x1_2 (Z3h hx) fun k hk q1z=>?_
   obtain rfl:=q1z
   have sk:Z10 (k:Int) = true:=Z2j (by lia)
   have hkz:(k:Int) * (z:Int) = ((k * z:Nat):Int):=by simp
   have hkz2:((k * z:Nat):Int) + (z:Int) = ((k * z + z:Nat):Int):=by simp
   have hle:k * z + z ≤ 5 * z:=by
    have:(k + 1) * z ≤ 5 * z:=Nat.mul_le_mul_right z (by lia)
    rw [Nat.add_mul] at this; lia
   have hcut:cutL (L.map fun c=>V.str [c]) (some ((k * z:Nat):Int)) (some ((k * z + z:Nat):Int)) = (word L z k).map fun c=>V.str [c]:=by
    rw [Zd8 _ _ _ (by lia) (by rw [List.length_map,hL]; exact hle),Nat.add_sub_cancel_left]
    unfold word
    rw [List.map_take,List.map_drop]
   have hm:=Z3q (k:Int) z (by rw [sk]; rfl)
   rw [hkz] at hm
   have hsl:Z0k (σ++[O.dead]++[O.lst acc]) (.lst (L.map fun c=>V.str [c])) (.int ((k * z:Nat):Int)) (.int (((k * z:Nat):Int) + (z:Int))) = some (.lst ((word L z k).map fun c=>V.str [c])):=by
    rw [hkz2,Zc1,hcut]
   have hj:∀ st,Z0S .join (.str []) (.lst ((word L z k).map fun c=>V.str [c])) st = .ok (.str (word L z k)) st:=fun st=>by
    have:=Z7U (Z5I (word L z k)) (by rw [Z40,ZaS hk hL]; unfold sizeLine; lia) st
    rwa [Z40] at this
   exact atE fun t=>t rfl hm hm hsl (hj _))
 have ew:(upTo 0 (5:Nat)).map (fun x=>match x with | .int k=>V.str (word L z k.toNat) | _=>.none) = Z0G L z:=by
  rw [Z3i]; rfl
 rw [ew] at e2
 refine ⟨[some (.int cell),some (.int g),some (.int z),some (.lst (L.map fun c=>V.str [c])),none,none],[.dead,.dead],?_⟩
 rw [Z1i,Z65,e1,R.bind_ok,qset,R.bind_ok]
 simp only [List.set_cons_succ,List.set_cons_zero]
 rw [Z1i,Zc0,e2,R.bind_ok,R.bind_ok]
 simp only [List.append_assoc,List.cons_append,List.nil_append]
 rfl
structure Lets (L:List Nat) (z:Nat):Prop where
 len:L.length = 5 * z
 z1:1 ≤ z
 z19:z ≤ 19
 nd:L.Nodup
 lt:∀ c ∈ L,c < 127
theorem ZaT (L:List Nat) (z n:Nat):(V.lst (Z0G L z)).lo n = true:=by
 rw [Z0d]; exact Z1S fun y hy=>by unfold Z0G at hy; obtain ⟨k,_,rfl⟩:=List.mem_map.mp hy; exact Z1j _
theorem Z6o (F:Fn) (K:Nat) (cell:Int):∃ L z,Lets L z∧∀ (σ:List O),Cl σ→(∀ i τ,Cl τ→F "_law_sign_by" [.int i] τ = .ok (.str [Z1d i]) ⟨[],τ⟩) →
  Z0m F K Z1Z [.int cell] σ = .ok (.lst (Z0G L z)) ⟨[],σ⟩:=by
 refine El.x1_2 (Z66 (([1,5,7,11,13,17,19,23]:List Int).map V.int) (i:=Int.fdiv cell 96) (n:=8) (by lia) (by lia) (by decide)) fun x hx hm=>?_
 refine El.x1_2 (List.mem_map.mp hm) fun g hgm q2z=>?_
 obtain rfl:=q2z
 have hx':idxOf [V.int 1,V.int 5,V.int 7,V.int 11,V.int 13,V.int 17,V.int 19,V.int 23] ((cell.fdiv 96).fmod 8) = some (.int g):=hx
 have hs:∀ σ,evSs F K Z16 ⟨[some (.int cell),none,none,none,none,none],σ⟩ =
   evSs F K (.cons (.ifte (.cmp .eq (.bin .mod (.bin .fdiv (.loc 0) (.int 768)) (.int 4)) (.int 1)) (.cons (.asg 2 (.bin .add (.bin .add (.int 2) (.bin .mod (.bin .fdiv (.loc 0) (.int 3072)) (.int 8))) (.bin .mul (.int 10) (.bin .mod (.bin .fdiv (.loc 0) (.int 24576)) (.int 2))))) .nil) .nil)
    (.cons (.asg 3 (.comp false Z0M 4 (.range1 (.bin .mul (.int 5) (.loc 2))))) (.cons (.ret (.comp false Z0N 5 (.range1 (.int 5)))) .nil))) ⟨[some (.int cell),some (.int g),some (.int 1),none,none,none],σ⟩:=by
  intro σ
  have h8:(8:Nat) ≤ sizeLine:=by decide
  unfold Z16
  rw [Z1i,Z65,ZbZ,Z9M]
  simp only [Z7T,Z9N,Z7O,R.bind_ok,List.length_cons,List.length_nil,Nat.zero_add,Nat.reduceAdd,if_pos h8,ZbY,Z64,List.getElem?_cons_zero,R.lift_some,Zc2 _ _ (show (96:Int) ≠ 0 by decide),ZdO _ _ (show (8:Int) ≠ 0 by decide),Z0I,hx',qset,List.set_cons_succ,List.set_cons_zero]
  rw [Z1i,Z65,Z7O,R.bind_ok,qset,R.bind_ok]
  rfl
 have fin:∀ (z:Nat),1 ≤ z→z ≤ 19→(∀ σ,evSs F K Z16 ⟨[some (.int cell),none,none,none,none,none],σ⟩ =
   evSs F K (.cons (.asg 3 (.comp false Z0M 4 (.range1 (.bin .mul (.int 5) (.loc 2))))) (.cons (.ret (.comp false Z0N 5 (.range1 (.int 5)))) .nil)) ⟨[some (.int cell),some (.int g),some (.int z),none,none,none],σ⟩) →
   ∃ L z,Lets L z∧∀ (σ:List O),Cl σ→(∀ i τ,Cl τ→F "_law_sign_by" [.int i] τ = .ok (.str [Z1d i]) ⟨[],τ⟩)→Z0m F K Z1Z [.int cell] σ = .ok (.lst (Z0G L z)) ⟨[],σ⟩:=by
  intro z h1 h2 he
  refine ⟨Z4a cell g z,z,⟨Z5J _ _ _,h1,h2,ZaR h2 hgm,fun c h=>ZaQ h⟩,fun σ hσ hF=>Z1A rfl ?_ (ZaT _ _ _) hσ⟩
  show Ret (evSs F K Z16 ⟨[some (.int cell),none,none,none,none,none],σ⟩) _ _
  rw [he]; exact Z5K F K cell g z h1 h2 σ hσ hF
 by_cases hc:(cell.fdiv 768).fmod 4 = 1
 ·refine El.x1_2 (Z1e (cell.fdiv 3072) 8 (by lia)) fun a ha ha8=>?_
  refine El.x1_2 (Z1e (cell.fdiv 24576) 2 (by lia)) fun b hb hb2=>?_
  have ha':(cell.fdiv 3072).fmod 8 = a:=ha
  have hb':(cell.fdiv 24576).fmod 2 = b:=hb
  refine fin (2 + a + 10 * b) (by lia) (by lia) fun σ=>?_
  rw [hs,Z1i]
  have hm:=Z3q 10 ((cell.fdiv 24576).fmod 2) (by rw [Z1V (i:=10) (by lia) (by lia)]; rfl)
  have e:(2:Int) + (cell.fdiv 3072).fmod 8 + 10 * (cell.fdiv 24576).fmod 2 = ((2 + a + 10 * b:Nat):Int):=by rw [ha',hb']; lia
  have hst:evS F K (.ifte (.cmp .eq (.bin .mod (.bin .fdiv (.loc 0) (.int 768)) (.int 4)) (.int 1)) (.cons (.asg 2 (.bin .add (.bin .add (.int 2) (.bin .mod (.bin .fdiv (.loc 0) (.int 3072)) (.int 8))) (.bin .mul (.int 10) (.bin .mod (.bin .fdiv (.loc 0) (.int 24576)) (.int 2))))) .nil) .nil) ⟨[some (.int cell),some (.int g),some (.int 1),none,none,none],σ⟩ =
    .ok .next ⟨[some (.int cell),some (.int g),some (.int ((2 + a + 10 * b:Nat):Int)),none,none,none],σ⟩:=by
   exact at1 fun t=>t rfl rfl (beq_iff_eq.mpr hc) rfl rfl rfl rfl hm (congrArg V.int e)
  rw [hst,R.bind_ok]
 ·refine fin 1 (by lia) (by lia) fun σ=>?_
  rw [hs,Z1i]
  have hst:evS F K (.ifte (.cmp .eq (.bin .mod (.bin .fdiv (.loc 0) (.int 768)) (.int 4)) (.int 1)) (.cons (.asg 2 (.bin .add (.bin .add (.int 2) (.bin .mod (.bin .fdiv (.loc 0) (.int 3072)) (.int 8))) (.bin .mul (.int 10) (.bin .mod (.bin .fdiv (.loc 0) (.int 24576)) (.int 2))))) .nil) .nil) ⟨[some (.int cell),some (.int g),some (.int 1),none,none,none],σ⟩ =
    .ok .next ⟨[some (.int cell),some (.int g),some (.int 1),none,none,none],σ⟩:=by
   have d1:((cell.fdiv 768).fmod 4 == 1) = false:=by rw [beq_eq_false_iff_ne]; exact hc
   exact at1 fun t=>t rfl rfl d1
  rw [hst,R.bind_ok]
  rfl
noncomputable def scV (is:List Int):V:=.lst (is.map .int)
noncomputable def wV (w:Option Nat):V:=oV (w.map fun k:Nat=>(k:Int))
noncomputable def rowV (r:Rw):V:=.tup [oV r.1,.lst (r.2.map wV)]
noncomputable def tbV (S:List Nat) (T:List Rw):V:=.tup [.str S,.lst (T.map rowV)]
structure TbOk (S:List Nat) (T:List Rw):Prop where
 s40:S.length ≤ 40
 t1:1 ≤ T.length
 t64:T.length ≤ 64
 len:∀ r ∈ T,r.2.length = S.length
 lt:∀ r ∈ T,∀ k,some k ∈ r.2→k < T.length
 told:∀ r ∈ T,∀ i,r.1 = some i→0 ≤ i
theorem Z5L (n:Nat) (o:Option Int):(oV o).lo n = true:=by cases o; exact Z4f; exact Z0z _
theorem ZeM (n:Nat) (o:Option Nat):(wV o).lo n = true:=Z5L _ _
theorem Z92 (n:Nat) (ws:List (Option Nat)):V.los n (ws.map wV) = true:=Z1S fun x hx=>by obtain ⟨o,_,rfl⟩:=List.mem_map.mp hx; exact ZeM n o
theorem Z6p (n:Nat) (r:Rw):(rowV r).lo n = true:=by unfold rowV; rw [Z1z,Z02,Z02,Z0f,Z5L,Z0d,Z92]; rfl
theorem Zda (n:Nat) (T:List Rw):V.los n (T.map rowV) = true:=Z1S fun x hx=>by obtain ⟨o,_,rfl⟩:=List.mem_map.mp hx; exact Z6p n o
theorem Z76 (n:Nat) (S:List Nat) (T:List Rw):(tbV S T).lo n = true:=by unfold tbV; rw [Z1z,Z02,Z02,Z0f,Z1j,Z0d,Zda]; rfl
theorem Z41 (F:Fn) (K:Nat) (is:List Int) (k:Nat) (hk:k < 100) (σ:List O) (hσ:Cl σ):Z0m F K Z2K [scV is,.int (k:Int)] σ = .ok (.int (is.getD k 0)) ⟨[],σ⟩:=by
 refine Z1A (r:=.int (is.getD k 0)) rfl ?_ (Z0z _) hσ
 show Ret (evSs F K Z3S ⟨[some (.lst (is.map .int)),some (.int (k:Int))],σ⟩) _ _
 refine Ret.mk0 (ρ:=[some (.lst (is.map .int)),some (.int (k:Int))]) ?_
 have hsub:k < is.length→idxOf (is.map V.int) (k:Int) = some (.int (is.getD k 0)):=fun h=>by rw [Z0J _ (by lia),List.getElem?_map,List.getElem?_eq_getElem h,List.getD_eq_getElem?_getD,List.getElem?_eq_getElem h]; rfl
 by_cases h:k < is.length
 ·exact atS fun t=>t rfl (decide_eq_true (by rw [List.length_map]; exact Int.ofNat_lt.mpr h)) ((Z0I _ _ _).trans (hsub h)) rfl
 ·exact atS fun t=>t rfl (decide_eq_false (by rw [List.length_map]; exact fun w=>h (Int.ofNat_lt.mp w))) (by rw [List.getD_eq_getElem?_getD,List.getElem?_eq_none (by lia)]; rfl)
noncomputable def S15 (a1 a2 a3 a4 a5 a6 a7 a8 a9 a10 a11 a12 a13 a14 a15:Option V) (σ:List O):St:=⟨[a1,a2,a3,a4,a5,a6,a7,a8,a9,a10,a11,a12,a13,a14,a15],σ⟩
noncomputable def wayC:Ex:=.band (.chain (.int 0) .lt (.loc 5) .lt (.int 3)) (.cmp .eq (.bi .len (.loc 11)) (.int 0))
noncomputable def wayP:Sm:=.expr (.me .append (.loc 11) (.sub (.list (.cons (.loc 13) (.cons .none .nil))) (.bi .int (.cmp .ge (.loc 13) (.loc 3)))))
section
variable (F:Fn) (K:Nat) (x0 x1 x2 x4 x7 x9 x12 x14:Option V) (many most k n:Nat) (sty:Int) (ws:List (Option Nat)) (τ:List O) (hτ:τ[n]? = some (.lst (ws.map wV))) (hw:ws.length < 100)
include hτ hw
theorem Z93 (num:Int) (m:Nat):∃ o,(∀ j,o = some j→j < many)∧evS F K wayP (S15 x0 x1 x2 (some (.int many)) x4 (some (.int sty)) (some (.int most)) x7 (some (.int num)) x9 (some (.int k)) (some (.ref n)) x12 (some (.int m)) x14 τ) =
  .ok .next (S15 x0 x1 x2 (some (.int many)) x4 (some (.int sty)) (some (.int most)) x7 (some (.int num)) x9 (some (.int k)) (some (.ref n)) x12 (some (.int m)) x14 (τ.set n (.lst ((ws++[o]).map wV)))):=by
 have hr:=Z0b τ n (ws.map wV) hτ
 have hl:(ws.map wV).length < sizeLine:=by rw [List.length_map]; unfold sizeLine; lia
 by_cases h:many ≤ m
 ·refine ⟨none,(fun j e=>by cases e),?_⟩
  have hd:decide ((m:Int) ≥ (many:Int)) = true:=decide_eq_true (by lia)
  have hb:Z0x τ .int (.bool (decide ((m:Int) ≥ (many:Int)))) = some (.int 1):=by rw [hd]; rfl
  have ha:∀ ρ,Z0S .append (.ref n) .none ⟨ρ,τ⟩ = .ok .none ⟨ρ,τ.set n (.lst ((ws++[none]).map wV))⟩:=fun ρ=>by rw [Z09 ρ τ n _ _ hτ hl,List.map_append]; rfl
  exact at1 fun t=>t hr hb rfl (ha _)
 ·refine ⟨some m,(fun j e=>by cases e; lia),?_⟩
  have hd:decide ((m:Int) ≥ (many:Int)) = false:=decide_eq_false (by lia)
  have hb:Z0x τ .int (.bool (decide ((m:Int) ≥ (many:Int)))) = some (.int 0):=by rw [hd]; rfl
  have ha:∀ ρ,Z0S .append (.ref n) (.int m) ⟨ρ,τ⟩ = .ok .none ⟨ρ,τ.set n (.lst ((ws++[some m]).map wV))⟩:=fun ρ=>by rw [Z09 ρ τ n _ _ hτ hl,List.map_append]; rfl
  exact at1 fun t=>t hr hb rfl (ha _)
theorem Zeh (num:Int) (m:Option V):∃ b,Z04 (evE F wayC (S15 x0 x1 x2 (some (.int many)) x4 (some (.int sty)) (some (.int most)) x7 (some (.int num)) x9 (some (.int k)) (some (.ref n)) x12 m x14 τ)) =
  .ok b (S15 x0 x1 x2 (some (.int many)) x4 (some (.int sty)) (some (.int most)) x7 (some (.int num)) x9 (some (.int k)) (some (.ref n)) x12 m x14 τ):=by
 have hb:=Z2T τ n _ hτ
 by_cases h1:(0:Int) < sty
 ·by_cases h2:sty < 3
  ·exact ⟨_,atQ fun t=>t (decide_eq_true h1) (decide_eq_true h2) hb⟩
  ·exact ⟨_,atQ fun t=>t (decide_eq_true h1) (decide_eq_false h2)⟩
 ·exact ⟨_,atQ fun t=>t (decide_eq_false h1) rfl⟩
theorem ZaU (hm:0 < most) (num:Int) (x13:Option V) (c:V):∃ num' o y,(∀ j,o = some j→j < many) ∧
  evSs F K Z0W (setV (S15 x0 x1 x2 (some (.int many)) x4 (some (.int sty)) (some (.int most)) x7 (some (.int num)) x9 (some (.int k)) (some (.ref n)) x12 x13 x14 τ) 12 c) =
  .ok .next (S15 x0 x1 x2 (some (.int many)) x4 (some (.int sty)) (some (.int most)) x7 (some (.int num')) x9 (some (.int k)) (some (.ref n)) (some c) y x14 (τ.set n (.lst ((ws++[o]).map wV)))):=by
 have h1:=Z3q num 48271 (by rw [Z1V (i:=48271) (by lia) (by lia),Bool.or_true])
 obtain ⟨num',hn⟩:∃ num',Int.fmod (num * 48271 + 11) 2147483647 = num':=⟨_,rfl⟩
 obtain ⟨m,hm1,_⟩:=Z1e (Int.fdiv num' 7) most hm
 obtain ⟨b,hb⟩:=Zeh F x0 x1 x2 x4 x7 x9 (some c) x14 many most k n sty ws τ hτ hw num' (some (.int m))
 have hmz:((most:Int) == 0) = false:=nz (by lia)
 have e0:evSs F K Z0W (setV (S15 x0 x1 x2 (some (.int many)) x4 (some (.int sty)) (some (.int most)) x7 (some (.int num)) x9 (some (.int k)) (some (.ref n)) x12 x13 x14 τ) 12 c) =
   evSs F K (.cons (.ifte wayC (.cons (.asg 13 (.bin .add (.loc 10) (.int 1))) .nil) .nil) (.cons wayP .nil)) (S15 x0 x1 x2 (some (.int many)) x4 (some (.int sty)) (some (.int most)) x7 (some (.int num')) x9 (some (.int k)) (some (.ref n)) (some c) (some (.int m)) x14 τ):=by
  exact atP 2 fun t=>t h1 rfl (congrArg V.int hn) rfl hmz (congrArg V.int hm1)
 rw [e0]
 cases b with
 | true=>
  obtain ⟨o,ho,e⟩:=Z93 F K x0 x1 x2 x4 x7 x9 (some c) x14 many most k n sty ws τ hτ hw num' (k + 1)
  refine ⟨num',o,some (.int ((k + 1:Nat):Int)),ho,?_⟩
  have e1:evS F K (.ifte wayC (.cons (.asg 13 (.bin .add (.loc 10) (.int 1))) .nil) .nil) (S15 x0 x1 x2 (some (.int many)) x4 (some (.int sty)) (some (.int most)) x7 (some (.int num')) x9 (some (.int k)) (some (.ref n)) (some c) (some (.int m)) x14 τ) = .ok .next (S15 x0 x1 x2 (some (.int many)) x4 (some (.int sty)) (some (.int most)) x7 (some (.int num')) x9 (some (.int k)) (some (.ref n)) (some c) (some (.int ((k + 1:Nat):Int))) x14 τ):=by
   rw [if_t hb]
   exact atS fun t=>t (congrArg V.int (by lia:(k:Int) + 1 = ((k + 1:Nat):Int)))
  rw [Zea e1]
  exact one1 e
 | false=>
  obtain ⟨o,ho,e⟩:=Z93 F K x0 x1 x2 x4 x7 x9 (some c) x14 many most k n sty ws τ hτ hw num' m
  refine ⟨num',o,some (.int m),ho,?_⟩
  rw [Zea (st':=S15 x0 x1 x2 (some (.int many)) x4 (some (.int sty)) (some (.int most)) x7 (some (.int num')) x9 (some (.int k)) (some (.ref n)) (some c) (some (.int m)) x14 τ) ((if_f hb).trans rfl)]
  exact one1 e
end
theorem Z77 (F:Fn) (K:Nat) (x0 x1 x2 x4 x7 x9 x14:Option V) (many most k n:Nat) (sty:Int) (hm:0 < most):∀ (S:List Nat) (ws:List (Option Nat)) (num:Int) (x12 x13:Option V) (τ:List O),τ[n]? = some (.lst (ws.map wV))→ws.length + S.length < 100→(∀ k,some k ∈ ws→k < many) →
  ∃ (num':Int) (ws':List (Option Nat)) (y12 y13:Option V),ws'.length = ws.length + S.length∧(∀ k,some k ∈ ws'→k < many) ∧
   forR (fun x st=>evSs F K Z0W (setV st 12 x)) (S.map fun c=>V.str [c]) (S15 x0 x1 x2 (some (.int many)) x4 (some (.int sty)) (some (.int most)) x7 (some (.int num)) x9 (some (.int k)) (some (.ref n)) x12 x13 x14 τ) =
    .ok .next (S15 x0 x1 x2 (some (.int many)) x4 (some (.int sty)) (some (.int most)) x7 (some (.int num')) x9 (some (.int k)) (some (.ref n)) y12 y13 x14 (τ.set n (.lst (ws'.map wV))))
 | [],ws,num,x12,x13,τ,hτ,hw,hk=>⟨num,ws,x12,x13,rfl,hk,by
   have hlt:=(List.getElem?_eq_some_iff.mp hτ)
   have e:τ.set n (.lst (ws.map wV)) = τ:=by
    obtain ⟨h1,h2⟩:=hlt
    rw [← h2]; exact List.set_getElem_self h1
   rw [e]; exact Z0C ..⟩
 | c :: S,ws,num,x12,x13,τ,hτ,hw,hk=>by
  have hw':ws.length + (S.length + 1) < 100:=hw
  obtain ⟨num₁,o,y,ho,e1⟩:=ZaU F K x0 x1 x2 x4 x7 x9 x12 x14 many most k n sty ws τ hτ (by omega) hm num x13 (.str [c])
  have hlt:=(List.getElem?_eq_some_iff.mp hτ).1
  obtain ⟨num',ws',y12,y13,h1,h2,e2⟩:=Z77 F K x0 x1 x2 x4 x7 x9 x14 many most k n sty hm S (ws++[o]) num₁ (some (.str [c])) y (τ.set n (.lst ((ws++[o]).map wV))) (List.getElem?_set_self hlt) (by rw [List.length_append,List.length_singleton]; omega) (fun j hj=>by
   rcases List.mem_append.mp hj with q | q
   ·exact hk j q
   ·exact ho j (List.mem_singleton.mp q).symm)
  refine ⟨num',ws',y12,y13,by rw [h1,List.length_append,List.length_singleton,List.length_cons]; omega,h2,?_⟩
  rw [List.set_set] at e2
  rw [List.map_cons,Z0i,e1,R.bind_ok]
  exact e2
noncomputable def TS (σ:List O) (T:List Rw) (k:Nat):List O:=σ++.lst (T.map rowV) :: List.replicate k .dead
theorem ZbF (σ:List O) (T:List Rw) (k:Nat) (r:List O):(TS σ T k++r)[σ.length]? = some (.lst (T.map rowV)):=by unfold TS; rw [List.append_assoc]; exact Z1T ..
theorem Zei (σ:List O) (T:List Rw) (k:Nat) (o:Rw):(TS σ T k++[O.dead]).set σ.length (.lst (T.map rowV++[rowV o])) = TS σ (T++[o]) (k + 1):=by
 unfold TS
 rw [List.append_assoc,List.cons_append,Z1U,List.map_append,List.replicate_succ']; rfl
theorem Z94 (F:Fn) (K:Nat) (x0 x1 x2:Option V) (S:List Nat) (many most:Nat) (hS:S.length < 100) (hm:0 < most) (sty alone:Int) (hal:0 ≤ alone) (hsty:∃ d:Nat,0 < d∧d ≤ 30∧idxOf [V.int 6,V.int 12,V.int 30,V.int 3] sty = some (.int d)) (σ:List O) (T:List Rw) (k:Nat) (hk:T.length < 100) (num:Int) (x11 x12 x13 x14:Option V) :
  ∃ (num':Int) (r:Rw) (y11 y12 y13 y14:Option V),r.2.length = S.length∧(∀ j,some j ∈ r.2→j < many)∧(∀ i,r.1 = some i→0 ≤ i) ∧
   evSs F K Z0X (S15 x0 x1 x2 (some (.int many)) (some (.str S)) (some (.int sty)) (some (.int most)) (some (.int alone)) (some (.int num)) (some (.ref σ.length)) (some (.int k)) x11 x12 x13 x14 (TS σ T k)) =
    .ok .next (S15 x0 x1 x2 (some (.int many)) (some (.str S)) (some (.int sty)) (some (.int most)) (some (.int alone)) (some (.int num')) (some (.ref σ.length)) (some (.int k)) y11 y12 y13 y14 (TS σ (T++[r]) (k + 1))):=by
 obtain ⟨num₁,ws,y12,y13,h1,h2,e1⟩:=Z77 F K x0 x1 x2 (some (.str S)) (some (.int alone)) (some (.ref σ.length)) x14 many most k (TS σ T k).length sty hm S [] num x12 x13 (TS σ T k++[.lst []]) (Z0o ..) (by simpa using hS) (fun j hj=>by cases hj)
 rw [Z0K] at e1
 obtain ⟨d,d1,d2,hd⟩:=hsty
 obtain ⟨num₂,hn⟩:∃ num₂,Int.fmod (num₁ * 48271 + 11) 2147483647 = num₂:=⟨_,rfl⟩
 obtain ⟨m,hm1,hm2⟩:=Z1e (Int.fdiv num₂ 7) d d1
 have q1:=Z3q num₁ 48271 (by rw [Z1V (i:=48271) (by omega) (by omega),Bool.or_true])
 have q2:=Z3q (m:Int) alone (by rw [Z2j (by omega)]; rfl)
 have hr:Z58 (TS σ T k++[.lst (ws.map wV)]) .append (.ref σ.length) = true:=Z0b _ _ _ (ZbF σ T k _)
 have hl:(T.map rowV).length < sizeLine:=by rw [List.length_map]; unfold sizeLine; omega
 have ha:∀ (o:Option Int) ρ,Z0S .append (.ref σ.length) (.tup [oV o,.lst (ws.map wV)]) ⟨ρ,TS σ T k++[.dead]⟩ = .ok .none ⟨ρ,TS σ (T++[(o,ws)]) (k + 1)⟩:=fun o ρ=>by
  rw [Z09 ρ _ σ.length _ _ (ZbF σ T k _) hl,← Zei]; rfl
 have hz:((d:Int) == 0) = false:=nz (by omega)
 have fz1:(TS σ T k++[O.lst (ws.map wV)]).set (TS σ T k).length .dead = TS σ T k++[.dead]:=Z0K ..
 by_cases h:(m:Int) > 2
 ·have hb:Z0x (TS σ T k++[.lst (ws.map wV)]) .int (.bool (decide ((m:Int) > 2))) = some (.int 1):=by rw [decide_eq_true h]; rfl
  refine ⟨num₂,(none,ws),some (.lst (ws.map wV)),y12,y13,some (.int m),by simpa using h1,h2,(fun i e=>by cases e),?_⟩
  exact atS fun t=>t rfl rfl rfl rfl e1 q1 rfl (congrArg V.int hn) rfl ((Z0I _ _ _).trans hd) hz (congrArg V.int hm1) hr q2 hb rfl (Z0o ..) fz1 (ha none _)
 ·have hb:Z0x (TS σ T k++[.lst (ws.map wV)]) .int (.bool (decide ((m:Int) > 2))) = some (.int 0):=by rw [decide_eq_false h]; rfl
  refine ⟨num₂,(some ((m:Int) * alone),ws),some (.lst (ws.map wV)),y12,y13,some (.int m),by simpa using h1,h2,(fun i e=>by cases e; exact Int.mul_nonneg (Int.natCast_nonneg m) hal),?_⟩
  exact atS fun t=>t rfl rfl rfl rfl e1 q1 rfl (congrArg V.int hn) rfl ((Z0I _ _ _).trans hd) hz (congrArg V.int hm1) hr q2 hb rfl (Z0o ..) fz1 (ha (some ((m:Int) * alone)) _)
theorem Z53 {n i:Nat} {x:V} (h:(upTo 0 (n:Int))[i]? = some x):x = .int (i:Int)∧i < n:=by
 have hi:i < n:=by have:=(List.getElem?_eq_some_iff.mp h).1; rwa [Z2q] at this
 refine ⟨?_,hi⟩
 unfold upTo at h
 rw [List.getElem?_map] at h
 obtain ⟨k,hk,rfl⟩:=Option.map_eq_some_iff.mp h
 obtain ⟨hk1,rfl⟩:=List.getElem?_eq_some_iff.mp hk
 simp
theorem Z95 (F:Fn) (K:Nat) (x0 x1 x2:Option V) (S:List Nat) (many most:Nat) (hS:S.length < 100) (h64:many ≤ 64) (hm:0 < most) (sty alone num:Int) (hal:0 ≤ alone) (hsty:∃ d:Nat,0 < d∧d ≤ 30∧idxOf [V.int 6,V.int 12,V.int 30,V.int 3] sty = some (.int d)) (σ:List O) :
  ∃ (T:List Rw) (num':Int) (y10 y11 y12 y13 y14:Option V),T.length = many∧(∀ r ∈ T,r.2.length = S.length)∧(∀ r ∈ T,∀ j,some j ∈ r.2→j < many)∧(∀ r ∈ T,∀ i,r.1 = some i→0 ≤ i) ∧
   forR (fun x st=>evSs F K Z0X (setV st 10 x)) (upTo 0 (many:Int)) (S15 x0 x1 x2 (some (.int many)) (some (.str S)) (some (.int sty)) (some (.int most)) (some (.int alone)) (some (.int num)) (some (.ref σ.length)) none none none none none (TS σ [] 0)) =
    .ok .next (S15 x0 x1 x2 (some (.int many)) (some (.str S)) (some (.int sty)) (some (.int most)) (some (.int alone)) (some (.int num')) (some (.ref σ.length)) y10 y11 y12 y13 y14 (TS σ T many)):=by
 obtain ⟨st,e,T,num',y10,y11,y12,y13,y14,h1,h2,h3,h4,rfl⟩:=Z2k (step:=fun x st=>evSs F K Z0X (setV st 10 x))
  (fun i st=>∃ (T:List Rw) (num':Int) (y10 y11 y12 y13 y14:Option V),T.length = i∧(∀ r ∈ T,r.2.length = S.length)∧(∀ r ∈ T,∀ j,some j ∈ r.2→j < many)∧(∀ r ∈ T,∀ i,r.1 = some i→0 ≤ i)∧st = S15 x0 x1 x2 (some (.int many)) (some (.str S)) (some (.int sty)) (some (.int most)) (some (.int alone)) (some (.int num')) (some (.ref σ.length)) y10 y11 y12 y13 y14 (TS σ T i))
  (upTo 0 (many:Int)) 0 (S15 x0 x1 x2 (some (.int many)) (some (.str S)) (some (.int sty)) (some (.int most)) (some (.int alone)) (some (.int num)) (some (.ref σ.length)) none none none none none (TS σ [] 0)) (by
   rintro i x st hx ⟨T,num',y10,y11,y12,y13,y14,h1,h2,h3,h4,rfl⟩
   rw [Nat.zero_add] at *
   obtain ⟨rfl,hi⟩:=Z53 hx
   obtain ⟨num₂,r,z11,z12,z13,z14,r1,r2,r3,e⟩:=Z94 F K x0 x1 x2 S many most hS hm sty alone hal hsty σ T i (by omega) num' y11 y12 y13 y14
   refine ⟨_,e,T++[r],num₂,_,_,_,_,_,by rw [List.length_append,h1]; rfl,fun q hq=>?_,fun q hq=>?_,fun q hq=>?_,rfl⟩
   ·rcases List.mem_append.mp hq with hq | hq
    ·exact h2 q hq
    ·rw [List.mem_singleton.mp hq]; exact r1
   ·rcases List.mem_append.mp hq with hq | hq
    ·exact h3 q hq
    ·rw [List.mem_singleton.mp hq]; exact r2
   ·rcases List.mem_append.mp hq with hq | hq
    ·exact h4 q hq
    ·rw [List.mem_singleton.mp hq]; exact r3)
  ⟨[],num,_,_,_,_,_,rfl,fun _ h=>(by cases h),fun _ h=>(by cases h),fun _ h=>(by cases h),rfl⟩
 rw [Z2q,Nat.zero_add] at h1 e
 exact ⟨T,num',y10,y11,y12,y13,y14,h1,h2,h3,h4,e⟩
theorem Z4s (L:List Nat) (z:Nat):∀ m,((List.range m).map (word L z)).flatten = L.take (m * z)
 | 0=>by simp
 | m + 1=>by
  rw [List.range_succ,List.map_append,List.flatten_append,Z4s L z m,Nat.add_mul,Nat.one_mul,List.take_add]
  simp [word]
theorem Z4t (L:List Nat) (z:Nat):∀ (l:List Nat),Z25 (l.map fun k=>V.str (word L z k)) = some (l.map (word L z))
 | []=>rfl
 | c :: l=>(congrArg (Option.map (word L z c :: ·)) (Z4t L z l):_)
noncomputable def Sms.tl:Sms→Sms
 | .cons _ s=>s
 | .nil=>.nil
theorem Zdb (F:Fn) (K:Nat) (is:List Int) (x1 x2:Option V) (σ:List O) (hc:∀ k,k < 100→F "_law_cell_at" [scV is,.int (k:Nat)] σ = .ok (.int (is.getD k 0)) ⟨[],σ⟩) :
  ∃ many:Nat,1 ≤ many∧many ≤ 64∧evSs F K dl_table_byB (S15 (some (scV is)) x1 x2 none none none none none none none none none none none none σ) = evSs F K dl_table_byB.tl.tl (S15 (some (scV is)) x1 x2 (some (.int many)) none none none none none none none none none none none σ):=by
 obtain ⟨a,ha,ha7⟩:=Z1e (is.getD 1 0) 7 (by omega)
 obtain ⟨b,hb,hb64⟩:=Z1e (Int.fdiv (is.getD 1 0) 42) 64 (by omega)
 have ha':Int.fmod (is.getD 1 0) 7 = (a:Int):=ha
 have hb':Int.fmod (Int.fdiv (is.getD 1 0) 42) 64 = (b:Int):=hb
 have c1:=hc 1 (by omega)
 by_cases h:Int.fmod (Int.fdiv (is.getD 1 0) 7) 6 = 1
 ·refine ⟨1 + b,by omega,by omega,?_⟩
  exact atP 2 fun t=>t c1 rfl rfl c1 rfl rfl (beq_iff_eq.mpr h) c1 rfl rfl (congrArg V.int (by rw [hb']; omega))
 ·refine ⟨1 + a,by omega,by omega,?_⟩
  exact atP 2 fun t=>t c1 rfl (congrArg V.int (by rw [ha']; omega:(1:Int) + Int.fmod (is.getD 1 0) 7 = ((1 + a:Nat):Int))) c1 rfl rfl (beq_eq_false_iff_ne.mpr h)
theorem ZaV (m n:Nat):Int.fdiv (m:Int) (n:Int) = ((m / n:Nat):Int):=by
 rw [Int.fdiv_eq_ediv_of_nonneg _ (by omega)]; rfl
theorem cut0 {α:Type} (xs:List α) (m:Nat):cutL xs none (some (m:Int)) = xs.take m:=by
 unfold cutL
 simp only [Option.elim_none,Option.elim_some,Z52,List.drop_zero,Nat.sub_zero]
 rcases Nat.le_total m xs.length with h | h
 ·rw [Nat.min_eq_left h]
 ·rw [Nat.min_eq_right h,List.take_length,List.take_of_length_le h]
theorem idx4 (i:Int):∃ d:Nat,0 < d∧d ≤ 30∧idxOf [V.int 6,V.int 12,V.int 30,V.int 3] (Int.fmod i 4) = some (.int d):=by
 obtain ⟨k,hk,h4⟩:=Z1e i 4 (by omega)
 have hk':Int.fmod i 4 = (k:Int):=hk
 rw [hk']
 have:k = 0 ∨ k = 1 ∨ k = 2 ∨ k = 3:=by omega
 rcases this with rfl | rfl | rfl | rfl
 ·exact ⟨6,by omega,by omega,rfl⟩
 ·exact ⟨12,by omega,by omega,rfl⟩
 ·exact ⟨30,by omega,by omega,rfl⟩
 ·exact ⟨3,by omega,by omega,rfl⟩
theorem Z96 (F:Fn) (K:Nat) (is:List Int) {L:List Nat} {z:Nat} (hL:Lets L z) (σ:List O) (hσ:Cl σ) (hc:∀ k,k < 100→F "_law_cell_at" [scV is,.int (k:Nat)] σ = .ok (.int (is.getD k 0)) ⟨[],σ⟩) :
  ∃ S T,TbOk S T∧Z0m F K Z2g [scV is,.lst (Z0G L z),.int 4] σ = .ok (tbV S T) ⟨[],σ⟩:=by
 obtain ⟨many,m1,m64,e0⟩:=Zdb F K is (some (.lst (Z0G L z))) (some (.int 4)) σ hc
 obtain ⟨m,hm,hm5⟩:=Z1e (is.getD 2 0) 5 (by omega)
 have hm':Int.fmod (is.getD 2 0) 5 = (m:Int):=hm
 have c2:=hc 2 (by omega)
 have c3:=hc 3 (by omega)
 have hw:(Z0G L z).take m = (List.range m).map fun k=>V.str (word L z k):=by
  unfold Z0G
  rw [← List.map_take,List.take_range,Nat.min_eq_left (by omega)]
 have hsl:Z0k σ (.lst (Z0G L z)) .none (.int (Int.fmod (is.getD 2 0) 5)) = some (.lst ((List.range m).map fun k=>V.str (word L z k))):=by rw [hm',Z9P,cut0,hw]
 have hfl:=Z4s L z m
 have hlen:(L.take (m * z)).length ≤ 95:=by
  rw [List.length_take,hL.len]
  have:=hL.z19
  omega
 have hj:∀ st,Z0S .join (.str []) (.lst ((List.range m).map fun k=>V.str (word L z k))) st = .ok (.str (L.take (m * z))) st:=fun st=>by
  rw [Z7U (Z4t L z (List.range m)) (by rw [hfl]; exact Nat.le_trans hlen (by decide)),hfl]
 obtain ⟨n,hn40,hn⟩:∃ n:Nat,n ≤ 40∧∃ b:Int,Z0x σ .int (.bool (decide ((many:Int) > 7))) = some (.int b)∧Z0h σ (.lst [.int 40,.int 4]) (.int b) = some (.int n):=by
  by_cases h:(many:Int) > 7
  ·exact ⟨4,by omega,1,by rw [decide_eq_true h]; rfl,rfl⟩
  ·exact ⟨40,by omega,0,by rw [decide_eq_false h]; rfl,rfl⟩
 obtain ⟨b,hb,hsb⟩:=hn
 have hs2:Z0k σ (.str (L.take (m * z))) .none (.int n) = some (.str ((L.take (m * z)).take n)):=by rw [Z9O,cut0]
 have hsz:((L.take (m * z)).take n).length ≤ 40:=Nat.le_trans (List.length_take_le ..) hn40
 generalize (L.take (m * z)).take n = S at hs2 hsz
 obtain ⟨a,ha,ha3⟩:∃ a:Nat,∃ v:V,idxOf [V.int 0,V.int 1,V.int (1 + Int.fdiv (many:Int) 3)] (Int.fmod (Int.fdiv (is.getD 2 0) 20) 3) = some v∧v = .int (a:Int):=by
  obtain ⟨v,h1,h2⟩:=Z66 [V.int 0,V.int 1,V.int (1 + Int.fdiv (many:Int) 3)] (i:=Int.fdiv (is.getD 2 0) 20) (n:=3) (by omega) (by omega) (by simp)
  have h1':idxOf [V.int 0,V.int 1,V.int (1 + Int.fdiv (many:Int) 3)] (Int.fmod (Int.fdiv (is.getD 2 0) 20) 3) = some v:=h1
  simp only [List.mem_cons,List.not_mem_nil,or_false] at h2
  have hd:Int.fdiv (many:Int) 3 = ((many / 3:Nat):Int):=ZaV many 3
  rcases h2 with rfl | rfl | rfl
  ·exact ⟨0,_,h1',rfl⟩
  ·exact ⟨1,_,h1',rfl⟩
  ·exact ⟨1 + many / 3,_,h1',congrArg V.int (by rw [hd]; omega)⟩
 obtain ⟨ha,rfl⟩:=ha3
 obtain ⟨al,hal0,hal⟩:∃ al:Int,0 ≤ al∧idxOf [V.int 0,V.int 1,V.int 7,V.int (10 ^ 9)] (Int.fmod (Int.fdiv (is.getD 2 0) 60) 4) = some (.int al):=by
  obtain ⟨v,h1,h2⟩:=Z66 [V.int 0,V.int 1,V.int 7,V.int (10 ^ 9)] (i:=Int.fdiv (is.getD 2 0) 60) (n:=4) (by omega) (by omega) (by simp)
  have h1':idxOf [V.int 0,V.int 1,V.int 7,V.int (10 ^ 9)] (Int.fmod (Int.fdiv (is.getD 2 0) 60) 4) = some v:=h1
  simp only [List.mem_cons,List.not_mem_nil,or_false] at h2
  rcases h2 with rfl | rfl | rfl | rfl <;> exact ⟨_,by decide,h1'⟩
 obtain ⟨T,num',y10,y11,y12,y13,y14,t1,t2,t3,t4,e⟩:=Z95 F K (some (scV is)) (some (.lst (Z0G L z))) (some (.int 4)) S many (many + a) (by omega) m64 (by omega) (Int.fmod (Int.fdiv (is.getD 2 0) 5) 4) al (Int.fmod (is.getD 3 0) 2147483647) hal0 (idx4 _) σ
 refine ⟨S,T,⟨hsz,by omega,by omega,t2,(fun r hr=>by rw [t1]; exact t3 r hr),t4⟩,Z1A rfl ?_ (Z76 _ _ _) hσ⟩
 show Ret (evSs F K dl_table_byB (S15 (some (scV is)) (some (.lst (Z0G L z))) (some (.int 4)) none none none none none none none none none none none none σ)) _ _
 rw [e0]
 have hp:Z2R .pow (.int 10) (.int 9) = some (.int (10 ^ 9)):=rfl
 have hmost:(many:Int) + (a:Int) = ((many + a:Nat):Int):=by omega
 have fz1:(TS σ T many).set σ.length .dead = σ++.dead :: List.replicate many .dead:=Z1U ..
 refine Ret.mk (τ:=.dead :: List.replicate many .dead) (ρ:=[some (scV is),some (.lst (Z0G L z)),some (.int 4),some (.int many),some (.str S),some (.int (Int.fmod (Int.fdiv (is.getD 2 0) 5) 4)),some (.int ((many + a:Nat):Int)),some (.int al),some (.int num'),some (.lst (T.map rowV)),y10,y11,y12,y13,y14]) ?_
 exact atS fun t=>t rfl c2 rfl hsl (hj _) hb hsb hs2 rfl c2 rfl rfl rfl rfl c2 rfl rfl ((Z0I _ _ _).trans ha) (congrArg V.int hmost) hp c2 rfl rfl ((Z0I _ _ _).trans hal) rfl c3 rfl rfl rfl rfl rfl rfl (Z0B (by omega)) e (Z1T ..) fz1 rfl
theorem Zdc (k:KI):kiOf (iV k) = some k:=by
 cases k with
 | inl i=>rfl
 | inr l=>show (Z11 (l.map .int)).map Sum.inr = _; rw [Z2x]; rfl
theorem ZaW (l:List KI):Z7m (l.map iV) = some l:=by
 induction l with
 | nil=>rfl
 | cons k l ih=>
  show (kiOf (iV k)).bind (fun a=>(Z7m (l.map iV)).bind fun b=>some (a :: b)) = _
  rw [Zdc,Option.bind_some,ih]; rfl
theorem Z3j (k:Ky):Z4z (kV k) = some k:=by
 cases k with
 | inl o=>cases o <;> rfl
 | inr l=>show (Z7m (l.map iV)).map Sum.inr = _; rw [ZaW]; rfl
theorem ZaX {σ:List O} {d:Nat} {es:List (Ky × V)} {x:V} {o:Option V} (h:σ[d]? = some (.kdict es)) (hk:Z1f es x = some o):inD σ x (.ref d) = some o.isSome:=by
 show pick (Z0p σ[d]?) (fun es=>(Z1f es x).map Option.isSome) _ = _
 rw [h]
 show (Z1f es x).map Option.isSome = _
 rw [hk]; rfl
theorem Z78 {σ:List O} {d:Nat} {es:List (Ky × V)} {x v:V} (h:σ[d]? = some (.kdict es)) (hk:Z1f es x = some (some v)):Z0h σ (.ref d) x = some v:=by
 show pick (lstO σ[d]?) _ ((Z0p σ[d]?).bind fun es=>(Z1f es x).bind id) = _
 rw [h]
 show (Z1f es x).bind id = _
 rw [hk]; rfl
theorem ZbG {ρ:List (Option V)} {σ:List O} {d:Nat} {es:List (Ky × V)} {k:Ky} {v:V} (h:σ[d]? = some (.kdict es)) (hk:Z1f es (kV k) = some none) (hz:es.length < sizeLine):setI (.ref d) (kV k) v ⟨ρ,σ⟩ = .ok .next ⟨ρ,σ.set d (.kdict (es++[(k,v)]))⟩:=by
 have e:Z7L d (kV k) v ⟨ρ,σ⟩ = .ok .next ⟨ρ,σ.set d (.kdict (es++[(k,v)]))⟩:=by
  show R.need (Z0p σ[d]?) _ = _
  rw [Z0j (congrArg Z0p h),Z0j (Z3j k),Z0j hk,if_pos (by rw [decide_eq_true hz]; rfl)]
 show R.or (Z7L d (kV k) v ⟨ρ,σ⟩) _ = _
 rw [e]; rfl
theorem Zdd {ρ:List (Option V)} {σ:List O} {d:Nat} {es:List (Ky × V)} {k:Ky} {w v:V} (h:σ[d]? = some (.kdict es)) (hk:Z1f es (kV k) = some (some w)):Z4A (.ref d) (kV k) v ⟨ρ,σ⟩ = .ok w ⟨ρ,σ⟩:=by
 show R.need (Z0p σ[d]?) _ = _
 rw [Z0j (congrArg Z0p h),Z0j (Z3j k),Z0j hk]
theorem Zde {ρ:List (Option V)} {σ:List O} {d:Nat} {es:List (Ky × V)} {k:Ky} {v:V} (h:σ[d]? = some (.kdict es)) (hk:Z1f es (kV k) = some none) (hz:es.length < sizeLine):Z4A (.ref d) (kV k) v ⟨ρ,σ⟩ = .ok v ⟨ρ,σ.set d (.kdict (es++[(k,v)]))⟩:=by
 show R.need (Z0p σ[d]?) _ = _
 rw [Z0j (congrArg Z0p h),Z0j (Z3j k),Z0j hk]
 exact if_pos hz
section
variable {κ:Type} [DecidableEq κ]
noncomputable def dE (kf:κ→Ky):Nat→List κ→List (Ky × V)
 | _,[]=>[]
 | n,x :: u=>(kf x,.int (n:Int)) :: dE kf (n + 1) u
theorem Z2P (kf:κ→Ky) (n:Nat) (x:κ) (u:List κ):dE kf n (x :: u) = (kf x,.int (n:Int)) :: dE kf (n + 1) u:=rfl
theorem Z97 (kf:κ→Ky) (x:κ) (u:List κ):∀ n,dE kf n (u++[x]) = dE kf n u++[(kf x,.int ((n + u.length:Nat):Int))]:=by
 induction u with
 | nil=>intro n; rfl
 | cons y u ih=>
  intro n
  rw [List.cons_append,Z2P,ih,Z2P,List.cons_append,List.length_cons]
  congr 5; omega
theorem Z5M (kf:κ→Ky) (u:List κ):∀ n,(dE kf n u).length = u.length:=by
 induction u with
 | nil=>intro n; rfl
 | cons y u ih=>intro n; rw [Z2P,List.length_cons,ih,List.length_cons]
theorem Zdf {kf:κ→Ky} (inj:∀ x y,kf x = kf y→x = y) (x:κ) (u:List κ):∀ n,((dE kf n u).find? fun q=>q.1 = kf x).map (·.2) = if x ∈ u then some (.int ((n + u.idxOf x:Nat):Int)) else none:=by
 induction u with
 | nil=>intro n; rfl
 | cons y u ih=>
  intro n
  rw [Z2P]
  by_cases h:x = y
  ·subst h
   rw [List.find?_cons_of_pos (by simp),if_pos List.mem_cons_self,List.idxOf_cons_self]; rfl
  ·have h':¬ kf y = kf x:=fun e=>h (inj _ _ e.symm)
   rw [List.find?_cons_of_neg (by simpa using h'),ih]
   by_cases hm:x ∈ u
   ·rw [if_pos hm,if_pos (List.mem_cons_of_mem _ hm),List.idxOf_cons,show (y == x) = false from beq_eq_false_iff_ne.mpr fun e=>h e.symm]
    show _ = some (V.int ((n + (u.idxOf x + 1):Nat):Int))
    congr 3; omega
   ·rw [if_neg hm,if_neg (by rintro (_ | ⟨_,q⟩); exact h rfl; exact hm q)]
theorem Zdg {kf:κ→Ky} {b:Bool} (hb:∀ x,(kf x).isLeft = b) (u:List κ):∀ n,∀ e ∈ dE kf n u,e.1.isLeft = b:=by
 induction u with
 | nil=>intro n e he; cases he
 | cons y u ih=>
  intro n e he
  rw [Z2P] at he
  rcases List.mem_cons.mp he with rfl | he
  ·exact hb y
  ·exact ih _ e he
theorem Z98 {kf:κ→Ky} (inj:∀ x y,kf x = kf y→x = y) {b:Bool} (hb:∀ x,(kf x).isLeft = b) (x:κ) (u:List κ):Z1f (dE kf 0 u) (kV (kf x)) = some (if x ∈ u then some (.int (u.idxOf x:Nat)) else none):=by
 unfold Z1f
 rw [Z3j,Option.bind_some,if_pos,Zdf inj x u 0]
 ·congr 2; rw [Nat.zero_add]
 ·rw [List.all_eq_true]
  intro e he
  rw [Zdg hb u 0 e he,hb]; exact beq_self_eq_true b
end
noncomputable def nV (n:Nat):V:=.int (n:Int)
theorem Z33 (m:Nat) (l:List Nat):V.los m (l.map nV) = true:=Z1S fun x hx=>by obtain ⟨o,_,rfl⟩:=List.mem_map.mp hx; exact Z0z _
theorem ZeN (n:Nat) (k:Ky):(kV k).lo n = true:=by
 have hi:∀ l:List Int,V.los n (l.map .int) = true:=fun l=>Z1S fun x hx=>by obtain ⟨i,_,rfl⟩:=List.mem_map.mp hx; exact Z0z i
 cases k with
 | inl o=>exact Z5L n o
 | inr l=>
  refine Z1S fun x hx=>?_
  obtain ⟨k,_,rfl⟩:=List.mem_map.mp hx
  cases k with
  | inl i=>exact Z0z i
  | inr l=>exact hi l
section
variable {κ:Type} [DecidableEq κ] (kf:κ→Ky) (inj:∀ x y,kf x = kf y→x = y) (b:Bool) (hb:∀ x,(kf x).isLeft = b)
noncomputable def NS (σ:List O) (p:List κ):List O:=σ++[.kdict (dE kf 0 (uq p)),.lst ((nums p).map nV)]
theorem NS_d (σ:List O) (p:List κ):(NS kf σ p)[σ.length]? = some (.kdict (dE kf 0 (uq p))):=Z1T ..
theorem NS_f (σ:List O) (es xs):(σ++[O.kdict es,O.lst xs])[σ.length + 1]? = some (.lst xs):=by rw [List.getElem?_append_right (by omega)]; simp
theorem Z99 (σ:List O) (es es' xs):(σ++[O.kdict es,O.lst xs]).set σ.length (.kdict es') = σ++[.kdict es',.lst xs]:=Z1U ..
theorem Z6q (σ:List O) (es xs xs'):(σ++[O.kdict es,O.lst xs]).set (σ.length + 1) (.lst xs') = σ++[.kdict es,.lst xs']:=by rw [List.set_append_right _ _ (by omega)]; simp
include inj hb
theorem Z54 (F:Fn) (K:Nat) (σ:List O) (x0 x3:Option V) (p:List κ) (x:κ) (hp:p.length < 1000) :
  evSs F K Z1K (setV (S4 x0 (some (.ref σ.length)) (some (.ref (σ.length + 1))) x3 (NS kf σ p)) 3 (kV (kf x))) = .ok .next (S4 x0 (some (.ref σ.length)) (some (.ref (σ.length + 1))) (some (kV (kf x))) (NS kf σ (p++[x]))):=by
 have hk:=Z98 inj hb x (uq p)
 have hu:=ZaG p
 have hl:(nums p).length < 1000:=by rw [Z6W]; exact hp
 have hsz:∀ {n:Nat},n < 1000→n < sizeLine:=fun h=>Nat.lt_trans h (by decide)
 by_cases hx:x ∈ uq p
 ·rw [if_pos hx] at hk
  have hu':uq (p++[x]) = uq p:=by rw [Z2c]; exact if_pos hx
  have hn:nums (p++[x]) = nums p++[(uq p).idxOf x]:=by rw [Z3N,Z6g hx]
  have ha:∀ ρ,Z0S .append (.ref (σ.length + 1)) (.int ((uq p).idxOf x:Nat)) ⟨ρ,NS kf σ p⟩ = .ok .none ⟨ρ,NS kf σ (p++[x])⟩:=fun ρ=>by
   unfold NS
   rw [Z09 ρ _ _ _ _ (NS_f σ _ _) (by rw [List.length_map]; exact hsz hl),Z6q,hu',hn,List.map_append]; rfl
  exact atS fun t=>t (ZaX (NS_d kf σ p) hk) rfl (Z0b _ _ _ (NS_f σ _ _)) (Z78 (NS_d kf σ p) hk) (ha _)
 ·rw [if_neg hx] at hk
  have hu':uq (p++[x]) = uq p++[x]:=by rw [Z2c]; exact if_neg hx
  have hn:nums (p++[x]) = nums p++[(uq p).length]:=by rw [Z3N,Z2d hx]
  have hlen:Z0x (NS kf σ p) .len (.ref σ.length) = some (.int ((uq p).length:Nat)):=by rw [Z7V _ _ _ (NS_d kf σ p),Z5M]
  have hs:∀ ρ,setI (.ref σ.length) (kV (kf x)) (.int ((uq p).length:Nat)) ⟨ρ,NS kf σ p⟩ = .ok .next ⟨ρ,σ++[.kdict (dE kf 0 (uq p++[x])),.lst ((nums p).map nV)]⟩:=fun ρ=>by
   rw [ZbG (NS_d kf σ p) hk (by rw [Z5M]; exact hsz (by omega))]
   unfold NS
   rw [Z99,Z97,Nat.zero_add]
  have hk2:=Z98 inj hb x (uq p++[x])
  rw [if_pos (by simp),Z4R [] hx] at hk2
  have ha:∀ ρ,Z0S .append (.ref (σ.length + 1)) (.int ((uq p).length:Nat)) ⟨ρ,σ++[.kdict (dE kf 0 (uq p++[x])),.lst ((nums p).map nV)]⟩ = .ok .none ⟨ρ,NS kf σ (p++[x])⟩:=fun ρ=>by
   rw [Z09 ρ _ _ _ _ (NS_f σ _ _) (by rw [List.length_map]; exact hsz hl)]
   unfold NS
   rw [Z6q,hu',hn,List.map_append]; rfl
  exact atS fun t=>t (ZaX (NS_d kf σ p) hk) rfl hlen (hs _) (Z0b _ _ _ (NS_f σ _ _)) (Z78 (Z1T ..) hk2) (ha _)
theorem Z2r (F:Fn) (K:Nat) (σ:List O) (x0:Option V):∀ (l p:List κ) (x3:Option V),p.length + l.length < 1000 →
  ∃ y3,forR (fun x st=>evSs F K Z1K (setV st 3 x)) (l.map fun x=>kV (kf x)) (S4 x0 (some (.ref σ.length)) (some (.ref (σ.length + 1))) x3 (NS kf σ p)) = .ok .next (S4 x0 (some (.ref σ.length)) (some (.ref (σ.length + 1))) y3 (NS kf σ (p++l)))
 | [],p,x3,_=>⟨x3,by rw [List.append_nil]; exact Z0C ..⟩
 | x :: l,p,x3,h=>by
  have h':p.length + (l.length + 1) < 1000:=h
  obtain ⟨y3,e⟩:=Z2r F K σ x0 l (p++[x]) (some (kV (kf x))) (by rw [List.length_append,List.length_singleton]; omega)
  refine ⟨y3,?_⟩
  rw [List.map_cons,Z0i,Z54 kf inj b hb F K σ x0 x3 p x (by omega),R.bind_ok]
  rw [List.append_assoc] at e
  exact e
theorem Z34 (F:Fn) (K:Nat) (l:List κ) (hl:l.length < 1000) (σ:List O) (hσ:Cl σ):Z0m F K Z2I [.lst (l.map fun x=>kV (kf x))] σ = .ok (.lst ((nums l).map nV)) ⟨[],σ⟩:=by
 refine Z1A rfl ?_ (by rw [Z0d]; exact Z33 _ _) hσ
 show Ret (evSs F K Z3Q ⟨[some (.lst (l.map fun x=>kV (kf x))),none,none,none],σ⟩) _ _
 obtain ⟨y3,e⟩:=Z2r kf inj b hb F K σ (some (.lst (l.map fun x=>kV (kf x)))) l [] none (by simpa using hl)
 rw [List.nil_append] at e
 have h1:σ++[O.kdict []]++[O.lst []] = NS kf σ ([]:List κ):=by rw [List.append_assoc]; rfl
 have h2:(σ++[O.kdict []]).length = σ.length + 1:=by rw [List.length_append]; rfl
 have h3:(NS kf σ l).set (σ.length + 1) .dead = σ++[.kdict (dE kf 0 (uq l)),.dead]:=by unfold NS; rw [List.set_append_right _ _ (by omega)]; simp
 refine Ret.mk (τ:=[.kdict (dE kf 0 (uq l)),.dead]) (ρ:=[some (.lst (l.map fun x=>kV (kf x))),some (.ref σ.length),some (.lst ((nums l).map nV)),y3]) ?_
 exact atS fun t=>t rfl rfl rfl h2 h1 rfl rfl e (NS_f σ _ _) h3 rfl
end
noncomputable def Gb (ε:List O):Prop:=∀ o ∈ ε,o = .dead ∨ o = .priv
theorem Gb.nil:Gb []:=fun o h=>by cases h
theorem Gb.app {a b:List O} (x:Gb a) (y:Gb b):Gb (a++b):=fun o h=>(List.mem_append.mp h).elim (x o) (y o)
theorem Gb.dead:Gb [.dead]:=fun o h=>.inl (List.mem_singleton.mp h)
theorem Gb.priv:Gb [.priv]:=fun o h=>.inr (List.mem_singleton.mp h)
theorem Cl.app {σ ε:List O} (h:Cl σ) (he:∀ o ∈ ε,o.lo 0 = true):Cl (σ++ε):=by
 unfold Cl
 rw [List.all_append,List.length_append,Bool.and_eq_true]
 refine ⟨List.all_eq_true.mpr fun o ho=>O.lo_mono (Nat.le_add_right _ _) (List.all_eq_true.mp h o ho),List.all_eq_true.mpr fun o ho=>O.lo_mono (Nat.zero_le _) (he o ho)⟩
theorem Gb.lo {ε:List O} (h:Gb ε):∀ o ∈ ε,o.lo 0 = true:=fun o ho=>by rcases h o ho with rfl | rfl <;> rfl
theorem Cl.gb {σ ε:List O} (h:Cl σ) (he:Gb ε):Cl (σ++ε):=h.app he.lo
noncomputable def kf1 (o:Option Int):Ky:=.inl o
noncomputable def kf2 (p:Nat × List Nat):Ky:=.inr [.inl (p.1:Int),.inr (p.2.map fun n:Nat=>(n:Int))]
theorem Z9a (x y:Option Int) (h:kf1 x = kf1 y):x = y:=Sum.inl.inj h
theorem Zdh {l m:List Nat} (h:(l.map fun n:Nat=>(n:Int)) = m.map fun n:Nat=>(n:Int)):l = m:=List.map_inj_right (fun a b e=>Int.ofNat.inj e) |>.mp h
theorem Zdi (x y:Nat × List Nat) (h:kf2 x = kf2 y):x = y:=by
 have h:=List.cons.inj (Sum.inr.inj h)
 have h1:(x.1:Int) = y.1:=Sum.inl.inj h.1
 have h2:=Sum.inr.inj (List.cons.inj h.2).1
 exact Prod.ext (Int.ofNat.inj h1) (Zdh h2)
noncomputable def pV (p:Nat × List Nat):V:=kV (kf2 p)
theorem Zej (p:Nat × List Nat):pV p = .tup [nV p.1,.tup (p.2.map nV)]:=by
 show V.tup [.int p.1,.tup ((p.2.map fun n:Nat=>(n:Int)).map .int)] = _
 rw [List.map_map]; rfl
section
variable {T:List Rw} {W:Nat} {K:Nat→Nat}
theorem Z5N (n:Nat) (f:Nat→Nat) {i:Nat} (h:i < n):((List.range n).map f)[i]? = some (f i):=by rw [List.getElem?_map,List.getElem?_range h]; rfl
theorem ZbH:(kl T K).length = T.length + 1:=by unfold kl; rw [List.length_map,List.length_range]
theorem Zek {i:Nat} (h:i ≤ T.length):(kl T K)[i]? = some (K i):=Z5N _ _ (Nat.lt_succ_of_le h)
theorem Z9b (hT:T.length ≤ 64) {i:Nat} (h:i ≤ T.length):idxOf ((kl T K).map nV) (i:Int) = some (nV (K i)):=by rw [Z0J _ (by omega),List.getElem?_map,Zek h]; rfl
theorem Z2Q (hT:T.length ≤ 64):idxOf ((kl T K).map nV) (-1) = some (nV (K T.length)):=by
 unfold idxOf
 have hl:((kl T K).map nV).length = T.length + 1:=by rw [List.length_map,ZbH]
 rw [if_pos (Z1V (by omega) (by omega)),if_neg (by omega),if_pos (by omega),hl,show ((-1:Int) + ((T.length + 1:Nat):Int)).toNat = T.length by omega,List.getElem?_map,Zek (Nat.le_refl _)]; rfl
theorem ZaY:Z4U T = T.map (·.1)++[none]:=by
 refine List.ext_getElem? fun i=>?_
 unfold Z4U
 rw [List.getElem?_map]
 rcases Nat.lt_trichotomy i T.length with h | h | h
 ·rw [List.getElem?_range (by omega),List.getElem?_append_left (by rw [List.length_map]; exact h),List.getElem?_map]
  show some (told T i) = _
  unfold told
  rw [List.getElem?_eq_getElem h]; rfl
 ·subst h
  rw [List.getElem?_range (by omega),List.getElem?_append_right (by rw [List.length_map]; exact Nat.le_refl _),List.length_map,Nat.sub_self]
  show some (told T T.length) = _
  rw [Z1J]; rfl
 ·rw [List.getElem?_eq_none (by rw [List.length_range]; omega),List.getElem?_eq_none (by rw [List.length_append,List.length_map,List.length_singleton]; omega)]; rfl
theorem ZaZ (h0:TbK T W) {s:Nat} (hs:s < T.length):((Z00 T s).map fun w=>K (w.getD T.length)) = (List.range W).map fun a=>K (goS T s a):=by
 refine List.ext_getElem? fun a=>?_
 rw [List.getElem?_map,List.getElem?_map]
 rcases Nat.lt_or_ge a W with h | h
 ·have hl:a < (Z00 T s).length:=by rw [h0.ways_len hs]; exact h
  rw [List.getElem?_range h,List.getElem?_eq_getElem hl]
  show some _ = some (K (goS T s a))
  unfold goS
  rw [List.getElem?_eq_getElem hl]; rfl
 ·rw [List.getElem?_eq_none (by rw [h0.ways_len hs]; exact h),List.getElem?_eq_none (by rw [List.length_range]; exact h)]; rfl
theorem Zb0:keyK T W K T.length = (K T.length,List.replicate W (K T.length)):=by
 unfold keyK
 congr 1
 refine List.ext_getElem? fun a=>?_
 rw [List.getElem?_map,List.getElem?_replicate]
 rcases Nat.lt_or_ge a W with h | h
 ·rw [List.getElem?_range h,if_pos h]
  show some (K (goS T T.length a)) = _
  rw [Z0U]
 ·rw [List.getElem?_eq_none (by rw [List.length_range]; exact h),if_neg (by omega)]; rfl
theorem Zdj:keys T W K = (List.range T.length).map (keyK T W K)++[keyK T W K T.length]:=by unfold keys; rw [List.range_succ,List.map_append]; rfl
end
theorem Z9c:∀ (r:List Int) (i M:Int),(i = M ∨ M ∈ r)→i ≤ M→(∀ a ∈ r,a ≤ M)→r.foldl max i = M
 | [],i,M,h,_,_=>h.elim id fun h=>by cases h
 | x :: r,i,M,h,h1,h2=>by
  rw [List.foldl_cons]
  have hx:=h2 x List.mem_cons_self
  refine Z9c r (max i x) M ?_ (by omega) fun a ha=>h2 a (List.mem_cons_of_mem _ ha)
  rcases h with h | h
  ·left; omega
  ·rcases List.mem_cons.mp h with h | h
   ·left; omega
   ·exact .inr h
theorem Zdk {l:List Int} {M:Int} (h1:M ∈ l) (h2:∀ a ∈ l,a ≤ M):maxL l = some M:=by
 cases l with
 | nil=>cases h1
 | cons i r=>
  show some (r.foldl max i) = _
  rw [Z9c r i M ((List.mem_cons.mp h1).imp Eq.symm id) (h2 i List.mem_cons_self) fun a ha=>h2 a (List.mem_cons_of_mem _ ha)]
theorem Z79 {κ:Type} [DecidableEq κ] {σ:List O} {l:List κ} (h:0 < l.length):Z0x σ .max (.lst ((nums l).map nV)) = some (.int ((uq l).length - 1)):=by
 have hi:Z11 ((nums l).map nV) = some ((nums l).map fun n:Nat=>(n:Int)):=Z4C (nums l)
 have hpos:0 < (uq l).length:=by
  cases l with
  | nil=>cases h
  | cons x l=>exact List.length_pos_of_mem (uq_mem.mpr List.mem_cons_self)
 have hm:maxL ((nums l).map fun n:Nat=>(n:Int)) = some (((uq l).length:Int) - 1):=by
  refine Zdk ?_ fun a ha=>?_
  ·obtain ⟨x,hx,e⟩:=Z4S (l:=l) (j:=(uq l).length - 1) (by omega)
   exact List.mem_map.mpr ⟨(uq l).length - 1,List.mem_map.mpr ⟨x,hx,e⟩,by omega⟩
  ·obtain ⟨n,hn,rfl⟩:=List.mem_map.mp ha
   obtain ⟨x,hx,rfl⟩:=List.mem_map.mp hn
   have:=ZbD hx
   omega
 show ((Z11 ((nums l).map nV)).bind fun l=>(maxL l).bind fun m=>some (V.int m)) = _
 rw [hi,Option.bind_some,hm]; rfl
section
variable (F:Fn) (Kf:Nat) {T:List Rw} {W:Nat} (h0:TbK T W) (hT:T.length ≤ 64) (hW:W ≤ 40) (K:Nat→Nat)
noncomputable def PS (τ:List O) (ps:List (Nat × List Nat)) (g:Nat):List O:=τ++O.lst (ps.map pV) :: O.priv :: List.replicate g .dead
theorem Z7a (τ:List O) (ps g r):(PS τ ps g++r)[τ.length]? = some (.lst (ps.map pV)):=by unfold PS; rw [List.append_assoc]; exact Z1T ..
theorem Zel (τ:List O) (ps g) (p:Nat × List Nat):(PS τ ps g++[O.dead]).set τ.length (.lst (ps.map pV++[pV p])) = PS τ (ps++[p]) (g + 1):=by
 unfold PS
 rw [List.append_assoc,List.cons_append,Z1U,List.map_append,List.cons_append,List.replicate_succ']; rfl
noncomputable def wF (K:Nat→Nat) (n:Nat) (v:V):V:=match v with
 | .int i=>nV (K i.toNat)
 | _=>nV (K n)
theorem Zdl (n:Nat) (w:Option Nat):wF K n (wV w) = nV (K (w.getD n)):=by cases w <;> rfl
theorem Z0R (σ:List O) (r:Rw):Z0h σ (rowV r) (.int 1) = some (.lst (r.2.map wV)):=rfl
theorem Z27 (σ:List O) (r:Rw):Z0h σ (rowV r) (.int 0) = some (oV r.1):=rfl
include h0 hT hW
theorem Z9d (x0 x5 x6 x7 x8 x10:Option V) (τ:List O) (hτ:Cl τ) (i:Nat) (hi:i < T.length) (x3 x4:Option V) :
  ∃ y5,(asT [3,4] (.tup [.int (i:Int),rowV T[i]]) (S11 x0 (some (.lst ((kl T K).map nV))) (some (.ref τ.length)) x3 x4 x5 x6 x7 x8 none x10 (PS τ ((List.range i).map (keyK T W K)) i))).bind (fun _ st=>evSs F Kf Z0L st) =
   .ok .next (S11 x0 (some (.lst ((kl T K).map nV))) (some (.ref τ.length)) (some (.int (i:Int))) (some (rowV T[i])) y5 x6 x7 x8 none x10 (PS τ ((List.range (i + 1)).map (keyK T W K)) (i + 1))):=by
 have hr:Z00 T i = T[i].2:=by unfold Z00; rw [List.getElem?_eq_getElem hi]; rfl
 have hm:T[i] ∈ T:=List.getElem_mem hi
 generalize T[i] = r at hr hm
 have hlen:=h0.len r hm
 have hcomp:evE F (.comp false Z1M 9 (.val (.sub (.loc 4) (.int 1)))) (S11 x0 (some (.lst ((kl T K).map nV))) (some (.ref τ.length)) (some (.int (i:Int))) (some (rowV r)) x5 x6 x7 x8 none x10 (PS τ ((List.range i).map (keyK T W K)) i)) =
   .ok (.lst ((r.2.map wV).map (wF K T.length))) (S11 x0 (some (.lst ((kl T K).map nV))) (some (.ref τ.length)) (some (.int (i:Int))) (some (rowV r)) x5 x6 x7 x8 none x10 (PS τ ((List.range i).map (keyK T W K)) i++[.dead])):=by
  refine Z21 (F:=F) (elt:=Z1M) (k:=9) (ρ₀:=[x0,some (.lst ((kl T K).map nV)),some (.ref τ.length),some (.int (i:Int)),some (rowV r),x5,x6,x7,x8,none,x10]) (σ:=PS τ ((List.range i).map (keyK T W K)) i) (it:=.val (.sub (.loc 4) (.int 1))) (xs:=r.2.map wV) (wF K T.length)
   (fun x hx=>by obtain ⟨w,_,rfl⟩:=List.mem_map.mp hx; rw [Zdl]; exact Z0z _) (atI fun t=>t (Z0R _ r) rfl) (by rw [List.length_map,hlen]; exact Nat.le_trans hW (by decide)) fun x hx acc _=>?_
  obtain ⟨w,hw,rfl⟩:=List.mem_map.mp hx
  rw [Zdl]
  cases w with
  | none=>exact atE fun t=>t rfl ((Z0I _ _ _).trans (Z2Q hT))
  | some w=>exact atE fun t=>t rfl ((Z0I _ _ _).trans (Z9b hT (Nat.le_of_lt (h0.lt r hm w hw))))
 have hk:V.tup [nV (K i),.tup ((r.2.map wV).map (wF K T.length))] = pV (keyK T W K i):=by
  rw [Zej]
  unfold keyK
  have:(r.2.map wV).map (wF K T.length) = ((List.range W).map fun a=>K (goS T i a)).map nV:=by
   rw [← ZaZ h0 hi,hr,List.map_map,List.map_map]
   exact List.map_congr_left fun w _=>Zdl K T.length w
  rw [this]
 have ha:∀ ρ,Z0S .append (.ref τ.length) (V.tup [nV (K i),.tup ((r.2.map wV).map (wF K T.length))]) ⟨ρ,PS τ ((List.range i).map (keyK T W K)) i++[.dead]⟩ = .ok .none ⟨ρ,PS τ ((List.range (i + 1)).map (keyK T W K)) (i + 1)⟩:=fun ρ=>by
  rw [hk,Z09 ρ _ _ _ _ (Z7a τ _ _ _) (by rw [List.length_map,List.length_map,List.length_range]; exact Nat.lt_of_le_of_lt (Nat.le_of_lt hi) (Nat.lt_of_le_of_lt hT (by decide))),Zel,List.range_succ,List.map_append]; rfl
 refine ⟨some (.lst ((r.2.map wV).map (wF K T.length))),?_⟩
 show evSs F Kf Z0L (S11 x0 (some (.lst ((kl T K).map nV))) (some (.ref τ.length)) (some (.int (i:Int))) (some (rowV r)) x5 x6 x7 x8 none x10 (PS τ ((List.range i).map (keyK T W K)) i)) = _
 exact atS fun t=>t hcomp rfl (Z0b _ _ _ (Z7a τ _ _ _)) ((Z0I _ _ _).trans (Z9b hT (Nat.le_of_lt hi))) rfl (ha _)
end
theorem Z0H {T:List Rw} {σ:List O} {i:Nat} (h:i < T.length) (hT:T.length ≤ 64):Z0h σ (.lst (T.map rowV)) (.int (i:Int)) = some (rowV T[i]):=by
 rw [Z0I,Z0J _ (by omega),List.getElem?_map,List.getElem?_eq_getElem h]; rfl
section
variable (F:Fn) (Kf:Nat) {T:List Rw} {W:Nat} (h0:TbK T W) (hT:T.length ≤ 64) (hW:W ≤ 40) (K:Nat→Nat)
include h0 hT hW
theorem Z9e (x0 x3 x4 x5 x6 x7 x8 x10:Option V) (τ:List O) (hτ:Cl τ) :
  ∃ y3 y4 y5,forR (fun x st=>(asT [3,4] x st).bind fun _ st=>evSs F Kf Z0L st) (Z35 0 (T.map rowV)) (S11 x0 (some (.lst ((kl T K).map nV))) (some (.ref τ.length)) x3 x4 x5 x6 x7 x8 none x10 (PS τ [] 0)) =
   .ok .next (S11 x0 (some (.lst ((kl T K).map nV))) (some (.ref τ.length)) y3 y4 y5 x6 x7 x8 none x10 (PS τ ((List.range T.length).map (keyK T W K)) T.length)):=by
 obtain ⟨st,e,y3,y4,y5,rfl⟩:=Z2k (step:=fun x st=>(asT [3,4] x st).bind fun _ st=>evSs F Kf Z0L st)
  (fun i st=>∃ y3 y4 y5,st = S11 x0 (some (.lst ((kl T K).map nV))) (some (.ref τ.length)) y3 y4 y5 x6 x7 x8 none x10 (PS τ ((List.range i).map (keyK T W K)) i)) (Z35 0 (T.map rowV)) 0 (S11 x0 (some (.lst ((kl T K).map nV))) (some (.ref τ.length)) x3 x4 x5 x6 x7 x8 none x10 (PS τ [] 0)) (by
   rintro i x st hx ⟨y3,y4,y5,rfl⟩
   obtain ⟨y,h1,rfl⟩:=Z4M hx
   rw [Nat.zero_add] at *
   have hi:i < T.length:=by have:=(List.getElem?_eq_some_iff.mp h1).1; rwa [List.length_map] at this
   rw [List.getElem?_map,List.getElem?_eq_getElem hi] at h1
   obtain rfl:=Option.some.inj h1
   obtain ⟨z5,e⟩:=Z9d F Kf h0 hT hW K x0 y5 x6 x7 x8 x10 τ hτ i hi y3 y4
   exact ⟨_,e,_,_,z5,rfl⟩) ⟨x3,x4,x5,rfl⟩
 rw [Nat.zero_add,Z4N,List.length_map] at e
 exact ⟨y3,y4,y5,e⟩
theorem Z4u (hn:nums (kl T K) = kl T K) (hF:∀ τ,Cl τ→F "numbered" [.lst ((keys T W K).map pV)] τ = .ok (.lst ((nums (keys T W K)).map nV)) ⟨[],τ⟩) (x2 x3 x4 x5 x6 x7 x8:Option V) (τ:List O) (hτ:Cl τ) :
  ∃ y2 y3 y4 y5 y6 ε,Gb ε∧evSs F Kf Z1N (S11 (some (.lst (T.map rowV))) (some (.lst ((kl T K).map nV))) x2 x3 x4 x5 x6 x7 x8 none none τ) =
   if (uq (keys T W K)).length = (uq (kl T K)).length then .ok (.ret (.lst ((kl T K).map nV))) (S11 (some (.lst (T.map rowV))) (some (.lst ((kl T K).map nV))) y2 y3 y4 y5 y6 (some (.lst ((nums (keys T W K)).map nV))) x8 none none (τ++ε))
   else .ok .next (S11 (some (.lst (T.map rowV))) (some (.lst ((nums (keys T W K)).map nV))) y2 y3 y4 y5 y6 (some (.lst ((nums (keys T W K)).map nV))) x8 none none (τ++ε)):=by
 obtain ⟨y3,y4,y5,e⟩:=Z9e F Kf h0 hT hW K (some (.lst (T.map rowV))) x3 x4 x5 x6 x7 x8 none τ hτ
 generalize hks:(List.range T.length).map (keyK T W K) = ks at e
 have hpos:=h0.pos
 have h1:τ++[O.lst []]++[O.priv] = PS τ [] 0:=by rw [List.append_assoc]; rfl
 have hen:∀ ρ,ZbV (.lst (T.map rowV)) ⟨ρ,τ++[O.lst []]⟩ = .ok (Z35 0 (T.map rowV)) ⟨ρ,PS τ [] 0⟩:=fun ρ=>by rw [← h1]; rfl
 have hm:T[0] ∈ T:=List.getElem_mem hpos
 have hlen:=h0.len T[0] hm
 have hcomp:evE F (.comp false Z1r 10 (.val (.sub (.sub (.loc 0) (.int 0)) (.int 1)))) (S11 (some (.lst (T.map rowV))) (some (.lst ((kl T K).map nV))) (some (.ref τ.length)) y3 y4 y5 x6 x7 x8 none none (PS τ ks T.length)) =
   .ok (.lst ((T[0].2.map wV).map fun _=>nV (K T.length))) (S11 (some (.lst (T.map rowV))) (some (.lst ((kl T K).map nV))) (some (.ref τ.length)) y3 y4 y5 x6 x7 x8 none none (PS τ ks T.length++[.dead])) :=
  Z21 (F:=F) (elt:=Z1r) (k:=10) (ρ₀:=[some (.lst (T.map rowV)),some (.lst ((kl T K).map nV)),some (.ref τ.length),y3,y4,y5,x6,x7,x8,none,none]) (σ:=PS τ ks T.length) (it:=.val (.sub (.sub (.loc 0) (.int 0)) (.int 1))) (xs:=T[0].2.map wV) (fun _=>nV (K T.length))
   (fun x hx=>Z0z _) (atI fun t=>t (Z0H hpos hT) (Z0R _ _) rfl) (by rw [List.length_map,hlen]; exact Nat.le_trans hW (by decide)) fun x hx acc _=>atE fun t=>t ((Z0I _ _ _).trans (Z2Q hT))
 have hlast:V.tup [nV (K T.length),.tup ((T[0].2.map wV).map fun _=>nV (K T.length))] = pV (keyK T W K T.length):=by
  rw [Zb0,Zej]
  have:((T[0].2.map wV).map fun _=>nV (K T.length)) = (List.replicate W (K T.length)).map nV:=by
   rw [List.map_const',List.length_map,hlen,List.map_replicate]
  rw [this]
 have hfz:(PS τ ks T.length++[O.dead]).set τ.length .dead = τ++(O.dead :: O.priv :: List.replicate (T.length + 1) .dead):=by
  unfold PS
  rw [List.append_assoc,List.cons_append,Z1U,List.cons_append,List.replicate_succ']
 have hadd:Z4d (.lst (ks.map pV)) (.lst [V.tup [nV (K T.length),.tup ((T[0].2.map wV).map fun _=>nV (K T.length))]]) = some (.lst ((keys T W K).map pV)):=by
  rw [hlast]
  have e2:(keys T W K).map pV = ks.map pV++[pV (keyK T W K T.length)]:=by rw [Zdj,hks,List.map_append]; rfl
  rw [e2]
  exact if_pos (by rw [List.length_map,← hks,List.length_map,List.length_range]; exact Nat.le_trans (Nat.succ_le_succ hT) (by decide))
 have hg:Gb (O.dead :: O.priv :: List.replicate (T.length + 1) .dead):=fun o ho=>by
  rcases List.mem_cons.mp ho with rfl | ho
  ·exact .inl rfl
  ·rcases List.mem_cons.mp ho with rfl | ho
   ·exact .inr rfl
   ·exact .inl (List.eq_of_mem_replicate ho)
 have hc:=hF _ (hτ.gb hg)
 have m1:∀ σ,Z0x σ .max (.lst ((nums (keys T W K)).map nV)) = some (.int ((uq (keys T W K)).length - 1)):=fun σ=>Z79 (by unfold keys; rw [List.length_map,List.length_range]; omega)
 have m2:∀ σ,Z0x σ .max (.lst ((kl T K).map nV)) = some (.int ((uq (kl T K)).length - 1)):=fun σ=>by
  have:=Z79 (σ:=σ) (l:=kl T K) (by rw [ZbH]; omega)
  rwa [hn] at this
 refine ⟨some (.lst (ks.map pV)),y3,y4,y5,some (.lst ((T[0].2.map wV).map fun _=>nV (K T.length))),_,hg,?_⟩
 by_cases hq:(uq (keys T W K)).length = (uq (kl T K)).length
 ·rw [if_pos hq]
  exact atS fun t=>t rfl rfl rfl (hen _) e hcomp rfl (Z7a τ _ _ _) hfz ((Z0I _ _ _).trans (Z2Q hT)) rfl hadd hc rfl (m1 _) (m2 _) (beq_iff_eq.mpr (by omega)) rfl
 ·rw [if_neg hq]
  exact atS fun t=>t rfl rfl rfl (hen _) e hcomp rfl (Z7a τ _ _ _) hfz ((Z0I _ _ _).trans (Z2Q hT)) rfl hadd hc rfl (m1 _) (m2 _) (beq_eq_false_iff_ne.mpr (by omega)) rfl
end
noncomputable def fstV (v:V):V:=match v with
 | .tup (a :: _)=>a
 | _=>.none
structure NumF (F:Fn):Prop where
 one:∀ (l:List (Option Int)) τ,l.length < 1000→Cl τ→F "numbered" [.lst (l.map fun x=>kV (kf1 x))] τ = .ok (.lst ((nums l).map nV)) ⟨[],τ⟩
 two:∀ (l:List (Nat × List Nat)) τ,l.length < 1000→Cl τ→F "numbered" [.lst (l.map pV)] τ = .ok (.lst ((nums l).map nV)) ⟨[],τ⟩
theorem Zb1 (T:List Rw) (hT:T.length ≤ 64):Z4d (.lst ((T.map rowV).map fstV)) (.lst [.none]) = some (.lst ((Z4U T).map fun x=>kV (kf1 x))):=by
 have:(Z4U T).map (fun x=>kV (kf1 x)) = (T.map rowV).map fstV++[.none]:=by
  rw [ZaY,List.map_append,List.map_map,List.map_map]; rfl
 rw [this]
 exact if_pos (by rw [List.length_map,List.length_map]; exact Nat.le_trans (Nat.succ_le_succ hT) (by decide))
theorem Z7b {T:List Rw} {W:Nat} (K:Nat→Nat):(keys T W K).length = T.length + 1:=by unfold keys; rw [List.length_map,List.length_range]
section
variable (F:Fn) (Kf:Nat) {T:List Rw} {W:Nat} (h0:TbK T W) (hT:T.length ≤ 64) (hW:W ≤ 40) (hF:NumF F)
include h0 hT hW hF
theorem Z7z {n:Nat} {K K':Nat→Nat} (f:FinN T W n K K'):nums (kl T K) = kl T K→∀ (m:Nat),n ≤ m→∀ (x2 x3 x4 x5 x6 x7 x8:Option V) (τ:List O),Cl τ →
  ∃ y1 y2 y3 y4 y5 y6 y7 ε,Gb ε∧Z0y (fun st=>Z04 (evE F (.bool true) st)) (fun st=>evSs F Kf Z1N st) m (S11 (some (.lst (T.map rowV))) (some (.lst ((kl T K).map nV))) x2 x3 x4 x5 x6 x7 x8 none none τ) =
   .ok (.ret (.lst ((kl T K').map nV))) (S11 (some (.lst (T.map rowV))) y1 y2 y3 y4 y5 y6 y7 x8 none none (τ++ε)):=by
 induction f with
 | @stop n K e=>
  intro hn m hm x2 x3 x4 x5 x6 x7 x8 τ hτ
  obtain ⟨m,rfl⟩:∃ k,m = k + 1:=⟨m - 1,by omega⟩
  obtain ⟨y2,y3,y4,y5,y6,ε,hg,q⟩:=Z4u F Kf h0 hT hW K hn (fun τ hτ=>hF.two _ τ (by rw [Z7b]; omega) hτ) x2 x3 x4 x5 x6 x7 x8 τ hτ
  rw [if_pos e] at q
  refine ⟨some (.lst ((kl T K).map nV)),y2,y3,y4,y5,y6,some (.lst ((nums (keys T W K)).map nV)),ε,hg,?_⟩
  rw [Z05,show Z04 (evE F (.bool true) (S11 (some (.lst (T.map rowV))) (some (.lst ((kl T K).map nV))) x2 x3 x4 x5 x6 x7 x8 none none τ)) = .ok true _ from rfl,R.bind_ok,if_pos rfl,q]; rfl
 | @turn n K K' e f ih=>
  intro hn m hm x2 x3 x4 x5 x6 x7 x8 τ hτ
  obtain ⟨m,rfl⟩:∃ k,m = k + 1:=⟨m - 1,by omega⟩
  obtain ⟨y2,y3,y4,y5,y6,ε,hg,q⟩:=Z4u F Kf h0 hT hW K hn (fun τ hτ=>hF.two _ τ (by rw [Z7b]; omega) hτ) x2 x3 x4 x5 x6 x7 x8 τ hτ
  rw [if_neg e] at q
  obtain ⟨z1,z2,z3,z4,z5,z6,z7,ε',hg',q'⟩:=ih (by rw [Z2o]; exact Z1m _) m (by omega) y2 y3 y4 y5 y6 (some (.lst ((nums (keys T W K)).map nV))) x8 (τ++ε) (hτ.gb hg)
  rw [Z2o,List.append_assoc] at q'
  refine ⟨z1,z2,z3,z4,z5,z6,z7,ε++ε',hg.app hg',?_⟩
  rw [Z05,show Z04 (evE F (.bool true) (S11 (some (.lst (T.map rowV))) (some (.lst ((kl T K).map nV))) x2 x3 x4 x5 x6 x7 x8 none none τ)) = .ok true _ from rfl,R.bind_ok,if_pos rfl,q,R.bind_ok]
  exact q'
theorem Z9f {n:Nat} {K':Nat→Nat} (f:FinN T W n (Z30 T) K') (hn:n ≤ Kf) (σ:List O) (hσ:Cl σ):Z0m F Kf Z2J [.lst (T.map rowV)] σ = .ok (.lst ((kl T K').map nV)) ⟨[],σ⟩:=by
 refine Z1A rfl ?_ (by rw [Z0d]; exact Z33 _ _) hσ
 show Ret (evSs F Kf Z3R (S11 (some (.lst (T.map rowV))) none none none none none none none none none none σ)) _ _
 have hcomp:evE F (.comp false Z1L 8 (.val (.loc 0))) (S11 (some (.lst (T.map rowV))) none none none none none none none none none none σ) = .ok (.lst ((T.map rowV).map fstV)) (S11 (some (.lst (T.map rowV))) none none none none none none none none none none (σ++[.dead])) :=
  Z21 (F:=F) (elt:=Z1L) (k:=8) (ρ₀:=[some (.lst (T.map rowV)),none,none,none,none,none,none,none,none,none,none]) (σ:=σ) (it:=.val (.loc 0)) (xs:=T.map rowV) fstV
   (fun x hx=>by obtain ⟨r,_,rfl⟩:=List.mem_map.mp hx; exact Z5L _ _) (atI fun t=>t rfl) (by rw [List.length_map]; exact Nat.le_trans hT (by decide)) fun x hx acc _=>by
    obtain ⟨r,_,rfl⟩:=List.mem_map.mp hx
    exact atE fun t=>t (Z27 _ r)
 have hc:=hF.one (Z4U T) (σ++[.dead]) (by unfold Z4U; rw [List.length_map,List.length_range]; omega) hσ.dead
 rw [← Z2E] at hc
 obtain ⟨y1,y2,y3,y4,y5,y6,y7,ε,hg,e⟩:=Z7z F Kf h0 hT hW hF f (by rw [Z2E]; exact Z1m _) Kf hn none none none none none none none (σ++[.dead]) hσ.dead
 rw [List.append_assoc] at e
 exact Ret.mk (τ:=[O.dead]++ε) (ρ:=[some (.lst (T.map rowV)),y1,y2,y3,y4,y5,y6,y7,none,none,none]) (atS fun t=>t hcomp (Zb1 T hT) hc rfl e)
end
noncomputable def S10 (a1 a2 a3 a4 a5 a6 a7 a8 a9 a10:Option V) (σ:List O):St:=⟨[a1,a2,a3,a4,a5,a6,a7,a8,a9,a10],σ⟩
noncomputable def kfn (a:Nat):Ky:=.inl (some (a:Int))
theorem Z9g (x y:Nat) (h:kfn x = kfn y):x = y:=Int.ofNat.inj (Option.some.inj (Sum.inl.inj h))
noncomputable def LS (K:Nat→Nat) (σ:List O) (met:List Nat) (ds:List V) (wl:List O):List O:=σ++O.kdict (dE kfn 0 (met.map K)) :: O.lst (met.map nV) :: O.lst ds :: wl
section
variable (K:Nat→Nat) (σ:List O) (met:List Nat) (ds:List V) (wl:List O)
theorem Zem:(LS K σ met ds wl).length = σ.length + 3 + wl.length:=by unfold LS; rw [List.length_append,List.length_cons,List.length_cons,List.length_cons]; omega
theorem LS_d:(LS K σ met ds wl)[σ.length]? = some (.kdict (dE kfn 0 (met.map K))):=Z1T ..
theorem LS_m:(LS K σ met ds wl)[σ.length + 1]? = some (.lst (met.map nV)):=by unfold LS; rw [List.getElem?_append_right (by omega)]; simp
theorem LS_f:(LS K σ met ds wl)[σ.length + 2]? = some (.lst ds):=by unfold LS; rw [List.getElem?_append_right (by omega)]; simp
theorem LS_w (o:O):(LS K σ met ds (wl++[o]))[σ.length + 3 + wl.length]? = some o:=by
 unfold LS
 rw [List.getElem?_append_right (by omega),show σ.length + 3 + wl.length - σ.length = wl.length + 3 by omega]
 simp
theorem Zen (o:O):LS K σ met ds wl++[o] = LS K σ met ds (wl++[o]):=by unfold LS; rw [List.append_assoc]; rfl
theorem Z9h (o o':O):(LS K σ met ds (wl++[o])).set (σ.length + 3 + wl.length) o' = LS K σ met ds (wl++[o']):=by
 unfold LS
 rw [List.set_append_right _ _ (by omega),show σ.length + 3 + wl.length - σ.length = wl.length + 3 by omega]
 simp
theorem Zdm (ds':List V):(LS K σ met ds wl).set (σ.length + 2) (.lst ds') = LS K σ met ds' wl:=by
 unfold LS
 rw [List.set_append_right _ _ (by omega),show σ.length + 2 - σ.length = 2 by omega]
 rfl
theorem Zdn {w:Nat} (es:List (Ky × V)) (h:es = dE kfn 0 (met.map K)++[(kfn (K w),.int (met.length:Nat))]):((LS K σ met ds wl).set σ.length (.kdict es)).set (σ.length + 1) (.lst (met.map nV++[nV w])) = LS K σ (met++[w]) ds wl:=by
 have e:dE kfn 0 ((met++[w]).map K) = es:=by
  have h1:(met++[w]).map K = met.map K++[K w]:=List.map_append
  rw [h1,Z97,h,Nat.zero_add,List.length_map]
 unfold LS
 rw [Z1U,List.set_append_right _ _ (by omega),show σ.length + 1 - σ.length = 1 by omega,e,List.map_append]
 rfl
theorem Zeo (es:List (Ky × V)):((LS K σ met ds wl).set σ.length (.kdict es))[σ.length + 1]? = some (.lst (met.map nV)):=by
 rw [List.getElem?_set_ne (by omega)]; exact LS_m ..
end
section
variable (F:Fn) (Kf:Nat) {T:List Rw} {W:Nat} (h0:TbK T W) (hT:T.length ≤ 64) (hW:W ≤ 40) (K:Nat→Nat) (x0 x1:Option V) (σ:List O) (ds:List V) (wl:List O) (at':Nat)
noncomputable def St1 (T:List Rw) (K:Nat→Nat) (x0 x1:Option V) (σ:List O) (ds:List V) (wl:List O) (at':Nat) (met:List Nat) (out:List (Option Nat)) (x9:Option V):St :=
 S10 x0 x1 (some (.lst (T.map rowV))) (some (.lst ((kl T K).map nV))) (some (.ref σ.length)) (some (.ref (σ.length + 1))) (some (.ref (σ.length + 2))) (some (nV at')) (some (.ref (σ.length + 3 + wl.length))) x9 (LS K σ met ds (wl++[.lst (out.map wV)]))
include h0 hT hW
theorem Zep (met:List Nat) (out:List (Option Nat)) (ho:out.length < 100) (w:Option Nat) (hw:∀ k,w = some k→k < T.length) (hl:lv K T.length w = none) (x9:Option V) :
  evSs F Kf Z1O (setV (St1 T K x0 x1 σ ds wl at' met out x9) 9 (wV w)) = .ok .next (St1 T K x0 x1 σ ds wl at' met (out++[none]) (some (wV w))):=by
 have hr:=Z0b _ _ _ (LS_w K σ met ds wl (.lst (out.map wV)))
 have ha:∀ ρ,Z0S .append (.ref (σ.length + 3 + wl.length)) .none ⟨ρ,LS K σ met ds (wl++[.lst (out.map wV)])⟩ = .ok .none ⟨ρ,LS K σ met ds (wl++[.lst ((out++[none]).map wV)])⟩:=fun ρ=>by
  rw [Z09 ρ _ _ _ _ (LS_w ..) (by rw [List.length_map]; exact Nat.lt_trans ho (by decide)),Z9h,List.map_append]; rfl
 cases w with
 | none=>exact atS fun t=>t rfl rfl hr (ha _)
 | some w=>
  have hk:K w = K T.length:=by
   unfold lv at hl
   rw [Option.bind_some] at hl
   by_cases q:K w = K T.length
   ·exact q
   ·rw [if_neg q] at hl; cases hl
  exact atS fun t=>t rfl ((Z0I _ _ _).trans (Z9b hT (Nat.le_of_lt (hw w rfl)))) ((Z0I _ _ _).trans (Z2Q hT)) (beq_iff_eq.mpr (by rw [hk])) hr (ha _)
theorem Zdo (met:List Nat) (hm:met.length < 100) (out:List (Option Nat)) (ho:out.length < 100) (w:Nat) (hw:w < T.length) (hl:K w ≠ K T.length) (x9:Option V) :
  evSs F Kf Z1O (setV (St1 T K x0 x1 σ ds wl at' met out x9) 9 (wV (some w))) = .ok .next (St1 T K x0 x1 σ ds wl at' (addM K met w) (out++[some (((addM K met w).map K).idxOf (K w))]) (some (wV (some w)))):=by
 have hb:∀ x,(kfn x).isLeft = true:=fun _=>rfl
 have hk:=Z98 Z9g hb (K w) (met.map K)
 have s1:∀ σ,Z0h σ (.lst ((kl T K).map nV)) (.int (w:Int)) = some (nV (K w)):=fun σ=>(Z0I _ _ _).trans (Z9b hT (Nat.le_of_lt hw))
 have s2:∀ σ,Z0h σ (.lst ((kl T K).map nV)) (.int (-1)) = some (nV (K T.length)):=fun σ=>(Z0I _ _ _).trans (Z2Q hT)
 have hne:(((K w:Nat):Int) == ((K T.length:Nat):Int)) = false:=beq_eq_false_iff_ne.mpr (by omega)
 have hap:∀ ρ met (i:Nat),Z0S .append (.ref (σ.length + 3 + wl.length)) (.int (i:Int)) ⟨ρ,LS K σ met ds (wl++[.lst (out.map wV)])⟩ = .ok .none ⟨ρ,LS K σ met ds (wl++[.lst ((out++[some i]).map wV)])⟩:=fun ρ met i=>by
  rw [Z09 ρ _ _ _ _ (LS_w ..) (by rw [List.length_map]; exact Nat.lt_trans ho (by decide)),Z9h,List.map_append]; rfl
 by_cases hx:K w ∈ met.map K
 ·rw [if_pos hx] at hk
  have e:addM K met w = met:=if_pos hx
  rw [e]
  exact atS fun t=>t rfl (s1 _) (s2 _) hne (s1 _) (ZaX (LS_d ..) hk) rfl (Z0b _ _ _ (LS_w ..)) (s1 _) (Z78 (LS_d ..) hk) (hap _ _ _)
 ·rw [if_neg hx] at hk
  have e:addM K met w = met++[w]:=if_neg hx
  rw [e]
  have hi:(((met++[w]).map K).idxOf (K w)) = met.length:=by rw [List.map_append]; exact (Z4R [] hx).trans (List.length_map _)
  rw [hi]
  have hset:∀ ρ,setI (.ref σ.length) (nV (K w)) (.int (met.length:Int)) ⟨ρ,LS K σ met ds (wl++[.lst (out.map wV)])⟩ = .ok .next ⟨ρ,(LS K σ met ds (wl++[.lst (out.map wV)])).set σ.length (.kdict (dE kfn 0 (met.map K)++[(kfn (K w),.int (met.length:Nat))]))⟩:=fun ρ=>ZbG (k:=kfn (K w)) (LS_d ..) hk (by rw [Z5M,List.length_map]; exact Nat.lt_trans hm (by decide))
  have hlen:Z0x (LS K σ met ds (wl++[.lst (out.map wV)])) .len (.ref (σ.length + 1)) = some (.int (met.length:Int)):=by rw [Z2T _ _ _ (LS_m ..),List.length_map]
  have hme:∀ ρ,Z0S .append (.ref (σ.length + 1)) (.int (w:Int)) ⟨ρ,(LS K σ met ds (wl++[.lst (out.map wV)])).set σ.length (.kdict (dE kfn 0 (met.map K)++[(kfn (K w),.int (met.length:Nat))]))⟩ = .ok .none ⟨ρ,LS K σ (met++[w]) ds (wl++[.lst (out.map wV)])⟩:=fun ρ=>by
   rw [Z09 ρ _ _ _ _ (Zeo ..) (by rw [List.length_map]; exact Nat.lt_trans hm (by decide))]
   exact congrArg (fun s=>R.ok V.none ⟨ρ,s⟩) (Zdn K σ met ds _ _ rfl)
  have hk2:=Z98 Z9g hb (K w) ((met++[w]).map K)
  rw [if_pos (List.mem_map_of_mem (List.mem_append_right _ (List.mem_singleton.mpr rfl))),hi] at hk2
  exact atS fun t=>t rfl (s1 _) (s2 _) hne (s1 _) (ZaX (LS_d ..) hk) rfl hlen (s1 _) (hset _) (Z0b _ _ _ (Zeo ..)) (hme _) (Z0b _ _ _ (LS_w ..)) (s1 _) (Z78 (LS_d ..) hk2) (hap _ _ _)
end
theorem Z3k {F:Fn} {K:Nat} {d:Def} {args:List V} {σ:List O} {r:V} {st':St} (hl:args.length = d.params.length) (h:evSs F K d.body ⟨args.map some++List.replicate (d.slots - args.length) none,σ⟩ = .ok (.ret r) st') (hr:r.lo σ.length = false):Z0m F K d args σ = .ok r ⟨[],st'.σ⟩:=by
 unfold Z0m
 rw [if_pos hl,h,R.bind_ok]
 show (if (r.lo σ.length && _) = true then _ else _) = _
 rw [hr,Bool.false_and,if_neg Bool.false_ne_true]; rfl
section
variable (F:Fn) (Kf:Nat) {T:List Rw} {W:Nat} (h0:TbK T W) (hT:T.length ≤ 64) (hW:W ≤ 40) (K:Nat→Nat) (x0 x1:Option V) (σ:List O)
include h0 hT hW
theorem Z42 (ds:List V) (wl:List O) (at':Nat) (mf:List Nat) (hmf:mf.length < 100):∀ (ws:List (Option Nat)) (met r:List Nat) (out:List (Option Nat)) (x9:Option V),mf = (ws.filterMap (lv K T.length)).foldl (addM K) met++r→(∀ k,some k ∈ ws→k < T.length)→out.length + ws.length < 100 →
  ∃ y9,forR (fun x st=>evSs F Kf Z1O (setV st 9 x)) (ws.map wV) (St1 T K x0 x1 σ ds wl at' met out x9) = .ok .next (St1 T K x0 x1 σ ds wl at' ((ws.filterMap (lv K T.length)).foldl (addM K) met) (out++ws.map (nuW K T.length mf)) y9)
 | [],met,r,out,x9,_,_,_=>⟨x9,by rw [List.map_nil,List.map_nil,List.append_nil]; exact Z0C ..⟩
 | w :: ws,met,r,out,x9,e,hw,ho=>by
  have ho':out.length + (ws.length + 1) < 100:=ho
  cases hl:lv K T.length w with
  | none=>
   rw [List.filterMap_cons_none hl] at e ⊢
   have hnu:nuW K T.length mf w = none:=by unfold nuW; rw [hl]; rfl
   obtain ⟨y9,q⟩:=Z42 ds wl at' mf hmf ws met r (out++[none]) (some (wV w)) e (fun k hk=>hw k (List.mem_cons_of_mem _ hk)) (by rw [List.length_append,List.length_singleton]; omega)
   refine ⟨y9,?_⟩
   rw [List.map_cons,Z0i,Zep F Kf h0 hT hW K x0 x1 σ ds wl at' met out (by omega) w (fun k e=>hw k (e ▸ List.mem_cons_self)) hl x9,R.bind_ok,List.map_cons,hnu]
   rw [List.append_assoc] at q
   exact q
  | some v=>
   rw [List.filterMap_cons_some hl,List.foldl_cons] at e ⊢
   obtain ⟨rfl,h2⟩:=Z3O hl
   obtain ⟨r',hr'⟩:=Z0t (K:=K) (ws.filterMap (lv K T.length)) (addM K met v)
   have e2:mf = addM K met v++(r'++r):=by rw [e,hr',List.append_assoc]
   have hmem:K v ∈ (addM K met v).map K:=by
    unfold addM
    split
    ·assumption
    ·simp
   have hnu:nuW K T.length mf (some v) = some (((addM K met v).map K).idxOf (K v)):=by
    unfold nuW
    rw [hl,Option.map_some,e2,List.map_append,Z4Q _ hmem]
   have hlen:met.length < 100:=by
    obtain ⟨r₂,h₂⟩:=Z3g (K:=K) met v
    have:=congrArg List.length e2
    rw [h₂,List.length_append,List.length_append] at this
    omega
   obtain ⟨y9,q⟩:=Z42 ds wl at' mf hmf ws (addM K met v) r (out++[some (((addM K met v).map K).idxOf (K v))]) (some (wV (some v))) e (fun k hk=>hw k (List.mem_cons_of_mem _ hk)) (by rw [List.length_append,List.length_singleton]; omega)
   refine ⟨y9,?_⟩
   rw [List.map_cons,Z0i,Zdo F Kf h0 hT hW K x0 x1 σ ds wl at' met hlen out (by omega) v (hw v List.mem_cons_self) h2 x9,R.bind_ok,List.map_cons,hnu]
   rw [List.append_assoc] at q
   exact q
end
noncomputable def dsOf (T:List Rw) (b:Nat):Nat→List Nat→List V
 | _,[]=>[]
 | j,s :: l=>.tup [oV (told T s),.ref (b + j)] :: dsOf T b (j + 1) l
theorem Z17 (T:List Rw) (b j s:Nat) (l:List Nat):dsOf T b j (s :: l) = .tup [oV (told T s),.ref (b + j)] :: dsOf T b (j + 1) l:=rfl
theorem Z7c (T:List Rw) (b s:Nat):∀ (l:List Nat) (j:Nat),dsOf T b j (l++[s]) = dsOf T b j l++[.tup [oV (told T s),.ref (b + j + l.length)]]
 | [],j=>rfl
 | x :: l,j=>by rw [List.cons_append,Z17,Z7c T b s l,Z17,List.cons_append,List.length_cons]; congr 7; omega
theorem Z23 (T:List Rw) (b:Nat):∀ (l:List Nat) (j:Nat),(dsOf T b j l).length = l.length
 | [],_=>rfl
 | x :: l,j=>by rw [Z17,List.length_cons,Z23 T b l,List.length_cons]
noncomputable def wlOf (T:List Rw) (K:Nat→Nat) (mf l:List Nat):List O:=l.map fun s=>.lst (((Z00 T s).map (nuW K T.length mf)).map wV)
theorem Z7d (T:List Rw) (K:Nat→Nat) (mf l:List Nat):(wlOf T K mf l).length = l.length:=List.length_map _
section
variable (F:Fn) (Kf:Nat) {T:List Rw} {W:Nat} (h0:TbK T W) (hT:T.length ≤ 64) (hW:W ≤ 40) (K:Nat→Nat) (x0 x1:Option V) (σ:List O)
noncomputable def St2 (T:List Rw) (K:Nat→Nat) (x0 x1:Option V) (σ:List O) (met mf:List Nat) (k:Nat) (x8 x9:Option V):St :=
 S10 x0 x1 (some (.lst (T.map rowV))) (some (.lst ((kl T K).map nV))) (some (.ref σ.length)) (some (.ref (σ.length + 1))) (some (.ref (σ.length + 2))) (some (nV k)) x8 x9 (LS K σ met (dsOf T (σ.length + 3) 0 (mf.take k)) (wlOf T K mf (mf.take k)))
include h0 hT hW
theorem Zb2 (met mf:List Nat) (hmf:mf.length < 100) (k s:Nat) (hk:met[k]? = some s) (hkf:mf[k]? = some s) (hs:s < T.length) (r:List Nat) (e:mf = (nxL T K s).foldl (addM K) met++r) (x8 x9:Option V) :
  ∃ y8 y9,evSs F Kf Z2p (St2 T K x0 x1 σ met mf k x8 x9) = .ok .next (St2 T K x0 x1 σ ((nxL T K s).foldl (addM K) met) mf (k + 1) y8 y9):=by
 have hkl:k < mf.length:=(List.getElem?_eq_some_iff.mp hkf).1
 have htk:(mf.take k).length = k:=by rw [List.length_take]; omega
 have hwn:Z00 T s = T[s].2:=by unfold Z00; rw [List.getElem?_eq_getElem hs]; rfl
 have htd:told T s = T[s].1:=by unfold told; rw [List.getElem?_eq_getElem hs]; rfl
 have hlen:=h0.ways_len hs
 generalize hds:dsOf T (σ.length + 3) 0 (mf.take k) = ds
 generalize hwl:wlOf T K mf (mf.take k) = wl
 have hdl:ds.length = k:=by rw [← hds,Z23,htk]
 have hwll:wl.length = k:=by rw [← hwl,Z7d,htk]
 obtain ⟨y9,q⟩:=Z42 F Kf h0 hT hW K x0 x1 σ ds wl k mf hmf (Z00 T s) met r [] x9 e (fun j hj=>h0.ways_lt hj) (by rw [hlen]; show 0 + W < 100; omega)
 rw [List.nil_append] at q
 have q':forR (fun x st=>evSs F Kf Z1O (setV st 9 x)) (T[s].2.map wV) (St1 T K x0 x1 σ ds wl k met [] x9) = .ok .next (St1 T K x0 x1 σ ds wl k ((nxL T K s).foldl (addM K) met) ((Z00 T s).map (nuW K T.length mf)) y9):=by rw [← hwn]; exact q
 have sm:∀ (met':List Nat) wl',met'[k]? = some s→Z0h (LS K σ met' ds wl') (.ref (σ.length + 1)) (.int (k:Int)) = some (nV s):=fun met' wl' hm=>by
  rw [Z2S (LS_m ..),Z0J _ (by omega),List.getElem?_map,hm]; rfl
 have hk':((nxL T K s).foldl (addM K) met)[k]? = some s:=by
  obtain ⟨r',hr'⟩:=Z0t (K:=K) (nxL T K s) met
  rw [hr',List.getElem?_append_left (List.getElem?_eq_some_iff.mp hk).1]; exact hk
 have h1:(LS K σ met ds wl).length = σ.length + 3 + wl.length:=Zem ..
 have h2:LS K σ met ds wl++[O.lst []] = LS K σ met ds (wl++[.lst []]):=Zen ..
 have hap:∀ ρ,Z0S .append (.ref (σ.length + 2)) (.tup [oV T[s].1,.ref (σ.length + 3 + wl.length)]) ⟨ρ,LS K σ ((nxL T K s).foldl (addM K) met) ds (wl++[.lst (((Z00 T s).map (nuW K T.length mf)).map wV)])⟩ =
   .ok .none ⟨ρ,LS K σ ((nxL T K s).foldl (addM K) met) (dsOf T (σ.length + 3) 0 (mf.take (k + 1))) (wlOf T K mf (mf.take (k + 1)))⟩:=fun ρ=>by
  have ht:mf.take (k + 1) = mf.take k++[s]:=by rw [List.take_succ,hkf]; rfl
  have hw2:wlOf T K mf (mf.take k++[s]) = wl++[.lst (((Z00 T s).map (nuW K T.length mf)).map wV)]:=by rw [← hwl]; unfold wlOf; rw [List.map_append]; rfl
  rw [Z09 ρ _ _ _ _ (LS_f ..) (by rw [hdl]; exact Nat.lt_trans (Nat.lt_trans hkl hmf) (by decide)),Zdm,ht,Z7c,hds,hw2,htd,htk,hwll]
 refine ⟨some (.ref (σ.length + 3 + wl.length)),y9,?_⟩
 show evSs F Kf Z2p (S10 x0 x1 (some (.lst (T.map rowV))) (some (.lst ((kl T K).map nV))) (some (.ref σ.length)) (some (.ref (σ.length + 1))) (some (.ref (σ.length + 2))) (some (nV k)) x8 x9 (LS K σ met (dsOf T (σ.length + 3) 0 (mf.take k)) (wlOf T K mf (mf.take k)))) = _
 rw [hds,hwl]
 exact atS fun t=>t h1 h2 rfl (sm _ _ hk) (Z0H hs hT) (Z0R _ _) rfl q' (Z0b _ _ _ (LS_f ..)) (sm _ _ hk') (Z0H hs hT) (Z27 _ _) (hap _) (congrArg V.int (by omega:(k:Int) + 1 = ((k + 1:Nat):Int)))
theorem Z7A {k:Nat} {met mf:List Nat} (hb:Bf K (nxL T K) k met mf):mf.length < 100→(∀ s ∈ mf,s < T.length)→∀ (m:Nat),mf.length < k + m→∀ (x8 x9:Option V),
  ∃ y8 y9,Z0y (fun st=>Z04 (evE F (.cmp .lt (.loc 7) (.bi .len (.loc 5))) st)) (fun st=>evSs F Kf Z2p st) m (St2 T K x0 x1 σ met mf k x8 x9) = .ok .next (St2 T K x0 x1 σ mf mf mf.length y8 y9):=by
 have test:∀ (met mf:List Nat) (k:Nat) (x8 x9:Option V),Z04 (evE F (.cmp .lt (.loc 7) (.bi .len (.loc 5))) (St2 T K x0 x1 σ met mf k x8 x9)) = .ok (decide (k < met.length)) (St2 T K x0 x1 σ met mf k x8 x9):=fun met mf k x8 x9=>by
  have hlen:Z0x (LS K σ met (dsOf T (σ.length + 3) 0 (mf.take k)) (wlOf T K mf (mf.take k))) .len (.ref (σ.length + 1)) = some (.int (met.length:Int)):=by rw [Z2T _ _ _ (LS_m ..),List.length_map]
  have e:decide ((k:Int) < (met.length:Int)) = decide (k < met.length):=by
   by_cases h:k < met.length
   ·rw [decide_eq_true h,decide_eq_true (by omega)]
   ·rw [decide_eq_false h,decide_eq_false (by omega)]
  rw [← e]
  exact atQ fun t=>t hlen
 induction hb with
 | @stop k met e=>
  intro hm hs m hf x8 x9
  obtain ⟨m,rfl⟩:∃ j,m = j + 1:=⟨m - 1,by omega⟩
  subst e
  refine ⟨x8,x9,?_⟩
  rw [Z05,test,R.bind_ok,decide_eq_false (Nat.lt_irrefl _)]; rfl
 | @step k s met mf he hb ih=>
  intro hm hs m hf x8 x9
  have hlt:=(List.getElem?_eq_some_iff.mp he).1
  obtain ⟨r,hr⟩:=hb.ext
  obtain ⟨r',hr'⟩:=Z0t (K:=K) (nxL T K s) met
  have hkf:mf[k]? = some s:=by rw [hr,hr',List.append_assoc,List.getElem?_append_left hlt]; exact he
  have hk2:=(List.getElem?_eq_some_iff.mp hkf).1
  obtain ⟨m,rfl⟩:∃ j,m = j + 1:=⟨m - 1,by omega⟩
  obtain ⟨y8,y9,q⟩:=Zb2 F Kf h0 hT hW K x0 x1 σ met mf hm k s he hkf (hs s (List.mem_of_getElem? hkf)) r hr x8 x9
  obtain ⟨z8,z9,q'⟩:=ih hm hs m (by omega) y8 y9
  refine ⟨z8,z9,?_⟩
  rw [Z05,test,R.bind_ok,decide_eq_true hlt,if_pos rfl,q,R.bind_ok]
  exact q'
end
noncomputable def lsV (S:List Nat) (b:Nat):V:=.tup [.str S,.ref (b + 2)]
noncomputable def lsO (T:List Rw) (K:Nat→Nat) (mf:List Nat) (σ:List O):List O:=LS K σ mf (dsOf T (σ.length + 3) 0 mf) (wlOf T K mf mf)
theorem Z9i (F:Fn) (Kf:Nat) {T:List Rw} {W:Nat} (h0:TbK T W) (hT:T.length ≤ 64) (hW:W ≤ 40) {K:Nat→Nat} (S:List Nat) {mf:List Nat} (h:Lst T K mf) (hKf:100 ≤ Kf) (σ:List O) (hσ:Cl σ) (hk:F "kinds_of" [.lst (T.map rowV)] σ = .ok (.lst ((kl T K).map nV)) ⟨[],σ⟩) :
  Z0m F Kf Z6l [tbV S T] σ = .ok (lsV S σ.length) ⟨[],lsO T K mf σ⟩:=by
 have hle:=h.ok.le
 obtain ⟨y8,y9,e⟩:=Z7A F Kf h0 hT hW K (some (tbV S T)) (some (.str S)) σ h.bf (by omega) h.ok.lt Kf (by omega) none none
 have hd:Z4e σ.length (nV (K 0)) (.int 0) ⟨[some (tbV S T),some (.str S),some (.lst (T.map rowV)),some (.lst ((kl T K).map nV)),none,none,none,none,none,none],σ++[.priv]⟩ = .ok (.ref σ.length) ⟨[some (tbV S T),some (.str S),some (.lst (T.map rowV)),some (.lst ((kl T K).map nV)),none,none,none,none,none,none],σ++[.kdict (dE kfn 0 [K 0])]⟩:=by
  unfold Z4e
  rw [Z0j (show Z4z (nV (K 0)) = some (kfn (K 0)) from rfl),Z0K]; rfl
 have s0:∀ τ,Z0h τ (.lst ((kl T K).map nV)) (.int 0) = some (nV (K 0)):=fun τ=>(Z0I _ _ _).trans (Z9b (i:=0) hT (Nat.zero_le _))
 have l1:(σ++[O.kdict (dE kfn 0 [K 0])]).length = σ.length + 1:=by rw [List.length_append]; rfl
 have l2:(σ++[O.kdict (dE kfn 0 [K 0])]++[O.lst [.int 0]]).length = σ.length + 2:=by rw [List.length_append,l1]; rfl
 have l3:σ++[O.kdict (dE kfn 0 [K 0])]++[O.lst [.int 0]]++[O.lst []] = LS K σ [0] (dsOf T (σ.length + 3) 0 (mf.take 0)) (wlOf T K mf (mf.take 0)):=by
  rw [List.append_assoc,List.append_assoc]; rfl
 have body:evSs F Kf Z74 (S10 (some (tbV S T)) none none none none none none none none none σ) = .ok (.ret (lsV S σ.length)) (St2 T K (some (tbV S T)) (some (.str S)) σ mf mf mf.length y8 y9) :=
  atS fun t=>t rfl hk rfl rfl rfl (s0 _) hd rfl l1 rfl rfl l2 l3 rfl rfl e rfl
 have ht:mf.take mf.length = mf:=List.take_length
 refine (Z3k rfl body ?_).trans ?_
 ·show V.los σ.length [.str S,.ref (σ.length + 2)] = false
  rw [Z02,Z02,Z13,decide_eq_false (by omega)]; rfl
 ·show R.ok (lsV S σ.length) ⟨[],LS K σ mf (dsOf T (σ.length + 3) 0 (mf.take mf.length)) (wlOf T K mf (mf.take mf.length))⟩ = _
  rw [ht]; rfl
noncomputable def BS (σ:List O) (B:List Bool):List O:=σ++[.lst (B.map .bool)]
theorem Z9j (σ:List O) (B:List Bool):(BS σ B)[σ.length]? = some (.lst (B.map .bool)):=Z0o ..
theorem Zeq {σ:List O} {B:List Bool} {v:Nat} {b:Bool} (hv:v < 100) (h:B[v]? = some b):Z0h (BS σ B) (.ref σ.length) (.int (v:Int)) = some (.bool b):=by
 rw [Z2S (Z9j ..),Z0J _ (by omega),List.getElem?_map,h]; rfl
theorem tb_1 (σ:List O) (S:List Nat) (T:List Rw):Z0h σ (tbV S T) (.int 1) = some (.lst (T.map rowV)):=rfl
theorem tb_0 (σ:List O) (S:List Nat) (T:List Rw):Z0h σ (tbV S T) (.int 0) = some (.str S):=rfl
section
variable (F:Fn) (Kf:Nat) {T:List Rw} {W:Nat} (h0:TbK T W) (hT:T.length ≤ 64) (hW:W ≤ 40) (S:List Nat) (σ:List O)
noncomputable def St3 (S:List Nat) (T:List Rw) (σ:List O) (p:List Bool × Bool) (x3 x4:Option V):St:=S6 (some (tbV S T)) (some (.ref σ.length)) (some (.bool p.2)) x3 x4 none (BS σ p.1)
include h0 hT hW
theorem Zb3 (p:List Bool × Bool) (hp:p.1.length = T.length) (k:Nat) (hk:k < T.length) (w:Option Nat) (hw:∀ v,w = some v→v < T.length) (x4:Option V) :
  evSs F Kf Z3U (setV (St3 S T σ p (some (nV k)) x4) 4 (wV w)) = .ok .next (St3 S T σ (bst k p w) (some (nV k)) (some (wV w))):=by
 cases w with
 | none=>
  have e:bst k p none = p:=if_neg fun h=>by cases h.1
  rw [e]
  exact atS fun t=>t rfl rfl
 | some v=>
  have hv:=hw v rfl
  obtain ⟨b1,h1⟩:∃ b,p.1[v]? = some b:=⟨_,List.getElem?_eq_getElem (by omega)⟩
  obtain ⟨b2,h2⟩:∃ b,p.1[k]? = some b:=⟨_,List.getElem?_eq_getElem (by omega)⟩
  have s1:Z0h (BS σ p.1) (.ref σ.length) (.int (v:Int)) = some (.bool b1):=Zeq (by omega) h1
  have s2:Z0h (BS σ p.1) (.ref σ.length) (.int (k:Int)) = some (.bool b2):=Zeq (by omega) h2
  cases b1 with
  | false=>
   have e:bst k p (some v) = p:=if_neg fun h=>by
    have:=h.1
    rw [Option.bind_some,h1] at this; cases this
   rw [e]
   exact atS fun t=>t rfl s1 rfl rfl
  | true=>
   cases b2 with
   | true=>
    have e:bst k p (some v) = p:=if_neg fun h=>by
     have:=h.2
     rw [h2] at this; cases this
    rw [e]
    exact atS fun t=>t rfl s1 rfl s2 rfl
   | false=>
    have e:bst k p (some v) = (p.1.set k true,true):=if_pos ⟨by rw [Option.bind_some]; exact h1,h2⟩
    rw [e]
    have hs:∀ ρ,setI (.ref σ.length) (.int (k:Int)) (.bool true) ⟨ρ,BS σ p.1⟩ = .ok .next ⟨ρ,BS σ (p.1.set k true)⟩:=fun ρ=>by
     rw [ZdN (Z9j ..) ⟨by omega,by rw [List.length_map]; omega⟩,Int.toNat_natCast]
     unfold BS
     rw [Z0K,List.map_set]
    exact atS fun t=>t rfl s1 rfl s2 rfl (hs _) rfl
theorem Zdp (p:List Bool × Bool) (k:Nat) (w:Option Nat):(bst k p w).1.length = p.1.length:=by
 unfold bst
 split
 ·exact List.length_set
 ·rfl
theorem Z5O (k:Nat) (hk:k < T.length):∀ (ws:List (Option Nat)) (p:List Bool × Bool) (x4:Option V),p.1.length = T.length→(∀ v,some v ∈ ws→v < T.length) →
  ∃ y4,forR (fun x st=>evSs F Kf Z3U (setV st 4 x)) (ws.map wV) (St3 S T σ p (some (nV k)) x4) = .ok .next (St3 S T σ (ws.foldl (bst k) p) (some (nV k)) y4)∧(ws.foldl (bst k) p).1.length = T.length
 | [],p,x4,hp,_=>⟨x4,Z0C ..,hp⟩
 | w :: ws,p,x4,hp,hw=>by
  obtain ⟨y4,e,h⟩:=Z5O k hk ws (bst k p w) (some (wV w)) ((Zdp h0 hT hW p k w).trans hp) fun v hv=>hw v (List.mem_cons_of_mem _ hv)
  refine ⟨y4,?_,h⟩
  rw [List.map_cons,Z0i,Zb3 F Kf h0 hT hW S σ p hp k hk w (fun v e=>hw v (e ▸ List.mem_cons_self)) x4,R.bind_ok]
  exact e
theorem Z5P:∀ (ks:List Nat) (p:List Bool × Bool) (x3 x4:Option V),p.1.length = T.length→(∀ k ∈ ks,k < T.length) →
  ∃ y3 y4,forR (fun x st=>evSs F Kf Z3V (setV st 3 x)) (ks.map nV) (St3 S T σ p x3 x4) = .ok .next (St3 S T σ (Z49 T ks p) y3 y4)∧(Z49 T ks p).1.length = T.length
 | [],p,x3,x4,hp,_=>⟨x3,x4,Z0C ..,hp⟩
 | k :: ks,p,x3,x4,hp,hw=>by
  have hk:=hw k List.mem_cons_self
  have hwn:Z00 T k = T[k].2:=by unfold Z00; rw [List.getElem?_eq_getElem hk]; rfl
  obtain ⟨z4,e1,hl⟩:=Z5O F Kf h0 hT hW S σ k hk (Z00 T k) p x4 hp fun v hv=>h0.ways_lt hv
  rw [hwn] at e1
  obtain ⟨y3,y4,e,h⟩:=Z5P ks ((Z00 T k).foldl (bst k) p) (some (nV k)) z4 hl fun v hv=>hw v (List.mem_cons_of_mem _ hv)
  refine ⟨y3,y4,?_,h⟩
  have e2:evSs F Kf Z3V (setV (St3 S T σ p x3 x4) 3 (nV k)) = .ok .next (St3 S T σ ((Z00 T k).foldl (bst k) p) (some (nV k)) z4):=by
   rw [hwn]
   exact atS fun t=>t (tb_1 _ S T) (Z0H hk hT) (Z0R _ _) rfl e1
  rw [List.map_cons,Z0i,e2,R.bind_ok]
  exact e
theorem Z9k (n:Nat):upTo 0 (n:Int) = (List.range n).map nV:=by
 have:=Z3i n (fun v=>v)
 rw [List.map_id'] at this
 exact this
theorem Z5Q (p:List Bool) (hp:p.length = T.length) (c:Bool) (x3 x4:Option V):∃ y3 y4,evSs F Kf Z3W (St3 S T σ (p,c) x3 x4) = .ok .next (St3 S T σ (Z49 T (List.range T.length) (p,false)) y3 y4):=by
 obtain ⟨y3,y4,e,_⟩:=Z5P F Kf h0 hT hW S σ (List.range T.length) (p,false) x3 x4 hp fun k hk=>List.mem_range.mp hk
 rw [← Z9k h0 hT hW] at e
 have hlen:Z0x (BS σ p) .len (.ref σ.length) = some (.int (T.length:Int)):=by rw [Z2T _ _ _ (Z9j ..),List.length_map,hp]
 exact ⟨y3,y4,atS fun t=>t rfl hlen rfl (Z0B (by omega)) e⟩
theorem Z9l {K:Nat→Nat} (k0:Kin T W K):∀ (c:Nat) (B:List Bool),BOk T K B→B.count false ≤ c→∀ (m:Nat),c + 2 ≤ m→∀ (x3 x4:Option V),
  ∃ y3 y4,Z0y (fun st=>Z04 (evE F (.loc 2) st)) (fun st=>evSs F Kf Z3W st) m (St3 S T σ (B,true) x3 x4) = .ok .next (St3 S T σ (Z0O T K,false) y3 y4):=by
 have test:∀ p x3 x4,Z04 (evE F (.loc 2) (St3 S T σ p x3 x4)) = .ok p.2 (St3 S T σ p x3 x4):=fun p x3 x4=>rfl
 intro c
 induction c with
 | zero=>
  intro B hB hc m hm x3 x4
  obtain ⟨m,rfl⟩:∃ j,m = j + 2:=⟨m - 2,by omega⟩
  obtain ⟨y3,y4,e⟩:=Z5Q F Kf h0 hT hW S σ B hB.len true x3 x4
  have x:=Z4X h0 k0 (List.range T.length) (p:=(B,false)) hB fun k hk=>List.mem_range.mp hk
  have h2:(Z49 T (List.range T.length) (B,false)).2 = false:=by
   cases h:(Z49 T (List.range T.length) (B,false)).2 with
   | false=>rfl
   | true=>
    rcases x.yes h with q | q
    ·cases q
    ·have q:_ < B.count false:=q
     omega
  obtain ⟨q1,q2⟩:=x.no h2
  rw [q1] at e
  refine ⟨y3,y4,?_⟩
  rw [Z05,test,R.bind_ok,if_pos rfl,e,R.bind_ok]
  show Z0y _ _ (m + 1) _ = _
  rw [Z05,test,R.bind_ok,← Z72 h0 k0 hB q2]; rfl
 | succ c ih=>
  intro B hB hc m hm x3 x4
  obtain ⟨m,rfl⟩:∃ j,m = j + 2:=⟨m - 2,by omega⟩
  obtain ⟨y3,y4,e⟩:=Z5Q F Kf h0 hT hW S σ B hB.len true x3 x4
  have x:=Z4X h0 k0 (List.range T.length) (p:=(B,false)) hB fun k hk=>List.mem_range.mp hk
  cases h2:(Z49 T (List.range T.length) (B,false)).2 with
  | false=>
   obtain ⟨q1,q2⟩:=x.no h2
   rw [q1] at e
   refine ⟨y3,y4,?_⟩
   rw [Z05,test,R.bind_ok,if_pos rfl,e,R.bind_ok]
   show Z0y _ _ (m + 1) _ = _
   rw [Z05,test,R.bind_ok,← Z72 h0 k0 hB q2]; rfl
  | true=>
   have q:(Z49 T (List.range T.length) (B,false)).1.count false < B.count false:=(x.yes h2).elim (fun q=>by cases q) id
   have e3:Z49 T (List.range T.length) (B,false) = ((Z49 T (List.range T.length) (B,false)).1,true):=Prod.ext rfl h2
   rw [e3] at e
   obtain ⟨z3,z4,e'⟩:=ih _ x.ok (by omega) (m + 1) (by omega) y3 y4
   refine ⟨z3,z4,?_⟩
   rw [Z05,test,R.bind_ok,if_pos rfl,e,R.bind_ok]
   exact e'
theorem Zb4 {K:Nat→Nat} (k0:Kin T W K) (hKf:100 ≤ Kf):Z0m F Kf Z6m [tbV S T] σ = .ok (.ref σ.length) ⟨[],BS σ (Z0O T K)⟩:=by
 have hB:=ZaM k0
 obtain ⟨y3,y4,e⟩:=Z9l F Kf h0 hT hW S σ k0 T.length (Z6j T) hB (by rw [← hB.len]; exact List.count_le_length) Kf (by omega) none none
 have hcomp:evE F (.comp true Z3T 5 (.val (.sub (.loc 0) (.int 1)))) (S6 (some (tbV S T)) none none none none none σ) = .ok (.ref σ.length) (S6 (some (tbV S T)) none none none none none (BS σ (Z6j T))):=by
  have:=Z90 (F:=F) (elt:=Z3T) (k:=5) (ρ₀:=[some (tbV S T),none,none,none,none,none]) (σ:=σ) (it:=.val (.sub (.loc 0) (.int 1))) (xs:=T.map rowV) (fun v=>.bool (!(fstV v).isNone))
   (fun x hx=>Z0v _) (atI fun t=>t (tb_1 _ S T) rfl) (by rw [List.length_map]; exact Nat.le_trans hT (by decide)) fun x hx acc _=>by
    obtain ⟨r,_,rfl⟩:=List.mem_map.mp hx
    exact atE fun t=>t (Z27 _ r)
  refine this.trans ?_
  have e2:(T.map rowV).map (fun v=>V.bool (!(fstV v).isNone)) = (Z6j T).map .bool:=by
   unfold Z6j
   rw [List.map_map,List.map_map]
   refine List.map_congr_left fun r _=>?_
   show V.bool (!(oV r.1).isNone) = .bool r.1.isSome
   cases r.1 <;> rfl
  rw [e2]; rfl
 refine Z3k (st':=St3 S T σ (Z0O T K,false) y3 y4) rfl ?_ (by rw [Z13]; exact decide_eq_false (Nat.lt_irrefl _))
 show evSs F Kf Z75 (S6 (some (tbV S T)) none none none none none σ) = _
 exact atS fun t=>t hcomp rfl rfl e rfl
end
section
variable {κ:Type} [DecidableEq κ] (kf:κ→Ky) (inj:∀ x y,kf x = kf y→x = y) (b:Bool) (hb:∀ x,(kf x).isLeft = b)
include inj hb
theorem Zb5 (F:Fn) (x0:Option V) (σ:List O) (p:List κ) (x:κ) (hp:p.length < 1000) :
  evE F Z0u ⟨[x0,some (.ref σ.length),some (kV (kf x))],NS kf σ p⟩ = .ok (nV ((addU (uq p) x).idxOf x)) ⟨[x0,some (.ref σ.length),some (kV (kf x))],σ++[.kdict (dE kf 0 (addU (uq p) x)),.lst ((nums p).map nV)]⟩:=by
 have hk:=Z98 inj hb x (uq p)
 have hu:=ZaG p
 have hz:(dE kf 0 (uq p)).length < sizeLine:=by rw [Z5M]; exact Nat.lt_trans (show _ < 1000 by omega) (by decide)
 have hlen:Z0x (NS kf σ p) .len (.ref σ.length) = some (.int ((uq p).length:Nat)):=by rw [Z7V _ _ _ (NS_d kf σ p),Z5M]
 have hr:((V.ref σ.length).ref?.bind fun n=>Z0p (NS kf σ p)[n]?) = some (dE kf 0 (uq p)):=by
  show Z0p (NS kf σ p)[σ.length]? = _
  rw [NS_d]; rfl
 have hs:∀ ρ,Z4A (.ref σ.length) (kV (kf x)) (.int ((uq p).length:Nat)) ⟨ρ,NS kf σ p⟩ = .ok (nV ((addU (uq p) x).idxOf x)) ⟨ρ,σ++[.kdict (dE kf 0 (addU (uq p) x)),.lst ((nums p).map nV)]⟩:=fun ρ=>by
  by_cases hx:x ∈ uq p
  ·have e:addU (uq p) x = uq p:=if_pos hx
   rw [if_pos hx] at hk
   rw [Zdd (NS_d kf σ p) hk,e]; rfl
  ·have e:addU (uq p) x = uq p++[x]:=if_neg hx
   rw [if_neg hx] at hk
   rw [Zde (NS_d kf σ p) hk hz,Z2d hx,e,Z97,Nat.zero_add]
   unfold NS
   rw [Z99]; rfl
 exact atE fun t=>t hr hlen (hs _)
theorem Z5R (F:Fn) (x0:Option V) (σ:List O):∀ (l p:List κ) (x2:Option V),p.length + l.length < 1000 →
  ∃ y2,Z1x 2 (σ.length + 1) (evE F Z0u) (l.map fun x=>kV (kf x)) ⟨[x0,some (.ref σ.length),x2],NS kf σ p⟩ = .ok () ⟨[x0,some (.ref σ.length),y2],NS kf σ (p++l)⟩
 | [],p,x2,_=>⟨x2,by rw [List.append_nil]; exact Z5e ..⟩
 | x :: l,p,x2,h=>by
  have h':p.length + (l.length + 1) < 1000:=h
  obtain ⟨y2,e⟩:=Z5R F x0 σ l (p++[x]) (some (kV (kf x))) (by rw [List.length_append,List.length_singleton]; omega)
  refine ⟨y2,?_⟩
  rw [List.append_assoc] at e
  rw [List.map_cons,Z2u]
  show (evE F Z0u ⟨[x0,some (.ref σ.length),some (kV (kf x))],NS kf σ p⟩).bind _ = _
  rw [Zb5 kf inj b hb F x0 σ p x (by omega),R.bind_ok,Z0j (qlst (NS_f σ _ _)),if_pos (by rw [List.length_map,Z6W]; exact Nat.lt_trans (show _ < 1000 by omega) (by decide))]
  have e2:(σ++[O.kdict (dE kf 0 (addU (uq p) x)),O.lst ((nums p).map nV)]).set (σ.length + 1) (.lst ((nums p).map nV++[nV ((addU (uq p) x).idxOf x)])) = NS kf σ (p++[x]):=by
   rw [Z6q]
   unfold NS
   rw [Z2c,Z3N,List.map_append]; rfl
  show Z1x 2 (σ.length + 1) (evE F Z0u) _ ⟨_,(σ++[O.kdict (dE kf 0 (addU (uq p) x)),O.lst ((nums p).map nV)]).set (σ.length + 1) (.lst ((nums p).map nV++[nV ((addU (uq p) x).idxOf x)]))⟩ = _
  rw [e2]
  exact e
theorem Z7e (F:Fn) (K:Nat) (l:List κ) (hl:l.length < 1000) (σ:List O):Z0m F K Z2M [.lst (l.map fun x=>kV (kf x))] σ = .ok (.ref (σ.length + 1)) ⟨[],NS kf σ l⟩:=by
 obtain ⟨y2,e⟩:=Z5R kf inj b hb F (some (.lst (l.map fun x=>kV (kf x)))) σ l [] none (by simpa using hl)
 rw [List.nil_append] at e
 have l1:(σ++[O.kdict []]).length = σ.length + 1:=by rw [List.length_append]; rfl
 have hc:evE F (.comp true Z0u 2 (.val (.loc 0))) ⟨[some (.lst (l.map fun x=>kV (kf x))),some (.ref σ.length),none],σ++[O.kdict []]⟩ = .ok (.ref (σ.length + 1)) ⟨[some (.lst (l.map fun x=>kV (kf x))),some (.ref σ.length),none],NS kf σ l⟩:=by
  rw [Z3b,show evIt F (.val (.loc 0)) ⟨[some (.lst (l.map fun x=>kV (kf x))),some (.ref σ.length),none],σ++[O.kdict []]⟩ = .ok (l.map fun x=>kV (kf x)) ⟨[some (.lst (l.map fun x=>kV (kf x))),some (.ref σ.length),none],σ++[O.kdict []]⟩ from atI fun t=>t rfl,R.bind_ok]
  dsimp only
  have e3:σ++[O.kdict []]++[O.lst []] = NS kf σ ([]:List κ):=by rw [List.append_assoc]; rfl
  rw [l1,e3]
  show (Z1x 2 (σ.length + 1) (evE F Z0u) _ ⟨[some (.lst (l.map fun x=>kV (kf x))),some (.ref σ.length),none],NS kf σ []⟩).bind _ = _
  rw [e,R.bind_ok]
  exact (Z0j (qlst (NS_f σ _ _))).trans (if_pos rfl)
 refine Z3k (st':=⟨[some (.lst (l.map fun x=>kV (kf x))),some (.ref σ.length),none],NS kf σ l⟩) rfl ?_ (by rw [Z13]; exact decide_eq_false (by omega))
 show evSs F K Z3X ⟨[some (.lst (l.map fun x=>kV (kf x))),none,none],σ⟩ = _
 exact atS fun t=>t rfl rfl rfl hc rfl
end
noncomputable def kf3 (l:List Int):Ky:=.inr (l.map .inl)
theorem Zdq (x y:List Int) (h:kf3 x = kf3 y):x = y:=List.map_inj_right (fun a b e=>Sum.inl.inj e) |>.mp (Sum.inr.inj h)
theorem ZeO (l:List Int):kV (kf3 l) = .tup (l.map .int):=by
 show V.tup ((l.map Sum.inl).map iV) = _
 rw [List.map_map]; rfl
theorem Zb6 (G:List Rw):(List.range G.length).map (told G) = G.map (·.1):=by
 refine List.ext_getElem? fun i=>?_
 rw [List.getElem?_map,List.getElem?_map]
 rcases Nat.lt_or_ge i G.length with h | h
 ·rw [List.getElem?_range h,List.getElem?_eq_getElem h]
  show some (told G i) = _
  unfold told
  rw [List.getElem?_eq_getElem h]; rfl
 ·rw [List.getElem?_eq_none (by rw [List.length_range]; exact h),List.getElem?_eq_none h]; rfl
structure NumbF (F:Fn):Prop where
 one:∀ (l:List (Option Int)) τ,l.length < 1000→F "_law_numbers" [.lst (l.map fun x=>kV (kf1 x))] τ = .ok (.ref (τ.length + 1)) ⟨[],NS kf1 τ l⟩
 two:∀ (l:List (List Int)) τ,l.length < 1000→F "_law_numbers" [.lst (l.map fun x=>kV (kf3 x))] τ = .ok (.ref (τ.length + 1)) ⟨[],NS kf3 τ l⟩
theorem Z5S {σ:List O} {c:Nat} {l:List Nat} (h:σ[c]? = some (.lst (l.map nV))) (hl:l.length < 1000):Z2i σ (.ref c) = some (uq l).length:=by
 have h1:anyL σ (.ref c) = some (l.map nV):=by
  show lstO σ[c]? = _
  rw [h]; rfl
 have h2:∀ (r u:List Nat),((r.map fun n:Nat=>(n:Int)).foldl addF (u.map fun n:Nat=>(n:Int))).length = (uqF u r).length:=by
  intro r
  induction r with
  | nil=>intro u; exact List.length_map _
  | cons x r ih=>
   intro u
   rw [List.map_cons,List.foldl_cons]
   have:addF (u.map fun n:Nat=>(n:Int)) (x:Int) = (addU u x).map fun n:Nat=>(n:Int):=by
    unfold addF addU
    have hm:(x:Int) ∈ (u.map fun n:Nat=>(n:Int))↔x ∈ u:=by
     rw [List.mem_map]
     exact ⟨fun ⟨y,hy,e⟩=>Int.ofNat.inj e ▸ hy,fun h=>⟨x,h,rfl⟩⟩
    by_cases hx:x ∈ u
    ·rw [if_pos hx,if_pos (hm.mpr hx)]
    ·rw [if_neg hx,if_neg (fun q=>hx (hm.mp q)),List.map_append]; rfl
   rw [this,ih]; rfl
 unfold Z2i
 rw [h1,Option.bind_some,show Z11 (l.map nV) = some (l.map fun n:Nat=>(n:Int)) from Z4C l,Option.bind_some,if_pos (by rw [List.length_map]; unfold scanBound; omega)]
 exact congrArg some (h2 l [])
section
variable (F:Fn) (Kf:Nat) {G:List Rw} {W:Nat} (h0:TbK G W) (hG:G.length ≤ 64) (hW:W ≤ 40) (S:List Nat) (C:Nat→Nat)
theorem Z9m:(cl G C).length = G.length:=by unfold cl; rw [List.length_map,List.length_range]
theorem Zdr {i:Nat} (h:i < G.length):(cl G C)[i]? = some (C i):=Z5N _ _ h
noncomputable def CS (τ:List O) (ks:List (List Int)) (g:Nat):List O:=τ++O.lst (ks.map fun k=>kV (kf3 k)) :: List.replicate g .dead
theorem Z9n (τ:List O) (ks g r):(CS τ ks g++r)[τ.length]? = some (.lst (ks.map fun k=>kV (kf3 k))):=by unfold CS; rw [List.append_assoc]; exact Z1T ..
theorem ZbI {τ:List O} {c:Nat} {o:O} (ks g r) (h:τ[c]? = some o):(CS τ ks g++r)[c]? = some o:=by unfold CS; rw [List.append_assoc,List.getElem?_append_left (List.getElem?_eq_some_iff.mp h).1]; exact h
noncomputable def St4 (S:List Nat) (G:List Rw) (c e many:Nat) (x4 x5 x6:Option V) (τ:List O):St:=S8 (some (tbV S G)) (some (.ref c)) (some (nV many)) (some (.ref e)) x4 x5 x6 none τ
include h0 hG hW
theorem Zds (c many k:Nat) (τ:List O) (hc:τ[c]? = some (.lst ((cl G C).map nV))) (n:Nat) (acc:List Int) (hn:τ[n]? = some (.lst (acc.map .int))) (hcn:c ≠ n) (ha:acc.length < 100) (w:Option Nat) (hw:∀ v,w = some v→v < G.length) (e:Nat) (x6:Option V) :
  evSs F Kf Z1b (setV (St4 S G c e many (some (nV k)) (some (.ref n)) x6 τ) 6 (wV w)) = .ok .next (St4 S G c e many (some (nV k)) (some (.ref n)) (some (wV w)) (τ.set n (.lst ((acc++[w.elim (-1) fun v=>(C v:Int)]).map .int)))):=by
 have hap:∀ ρ (i:Int),Z0S .append (.ref n) (.int i) ⟨ρ,τ⟩ = .ok .none ⟨ρ,τ.set n (.lst ((acc++[i]).map .int))⟩:=fun ρ i=>by
  rw [Z09 ρ _ _ _ _ hn (by rw [List.length_map]; exact Nat.lt_trans ha (by decide)),List.map_append]; rfl
 have sc:∀ {v:Nat},v < G.length→Z0h τ (.ref c) (.int (v:Int)) = some (nV (C v)):=fun {v} hv=>by
  rw [Z2S hc,Z0J _ (by omega),List.getElem?_map,Zdr C hv]; rfl
 have hr:=Z0b _ _ _ hn
 have hpos:=h0.pos
 cases w with
 | none=>exact atS fun t=>t hr rfl (sc (v:=0) hpos) rfl rfl (hap _ _)
 | some v=>
  have hv:=hw v rfl
  cases v with
  | zero=>exact atS fun t=>t hr rfl (sc (v:=0) hpos) rfl rfl (hap _ _)
  | succ v=>
   have hne:(((v + 1:Nat):Int) != 0) = true:=bne_iff_ne.mpr (by omega)
   exact atS fun t=>t hr hne (sc hv) rfl rfl (hap _ _)
theorem Z7f (c many k e n:Nat) (hcn:c ≠ n):∀ (ws:List (Option Nat)) (acc:List Int) (τ:List O) (x6:Option V),τ[c]? = some (.lst ((cl G C).map nV))→τ[n]? = some (.lst (acc.map .int))→acc.length + ws.length < 100→(∀ v,some v ∈ ws→v < G.length) →
  ∃ y6,forR (fun x st=>evSs F Kf Z1b (setV st 6 x)) (ws.map wV) (St4 S G c e many (some (nV k)) (some (.ref n)) x6 τ) = .ok .next (St4 S G c e many (some (nV k)) (some (.ref n)) y6 (τ.set n (.lst ((acc++ws.map fun w=>w.elim (-1) fun v=>(C v:Int)).map .int))))
 | [],acc,τ,x6,_,hn,_,_=>⟨x6,by
   have:τ.set n (.lst ((acc++([]:List (Option Nat)).map fun w=>w.elim (-1) fun v=>(C v:Int)).map .int)) = τ:=by
    obtain ⟨h1,h2⟩:=List.getElem?_eq_some_iff.mp hn
    rw [List.map_nil,List.append_nil,← h2]; exact List.set_getElem_self h1
   rw [this]; exact Z0C ..⟩
 | w :: ws,acc,τ,x6,hc,hn,hl,hw=>by
  have hl':acc.length + (ws.length + 1) < 100:=hl
  have hlt:=(List.getElem?_eq_some_iff.mp hn).1
  obtain ⟨y6,q⟩:=Z7f c many k e n hcn ws (acc++[w.elim (-1) fun v=>(C v:Int)]) (τ.set n (.lst ((acc++[w.elim (-1) fun v=>(C v:Int)]).map .int))) (some (wV w)) (by rw [List.getElem?_set_ne (Ne.symm hcn)]; exact hc) (List.getElem?_set_self hlt) (by rw [List.length_append,List.length_singleton]; omega) fun v hv=>hw v (List.mem_cons_of_mem _ hv)
  refine ⟨y6,?_⟩
  rw [List.set_set,List.append_assoc] at q
  rw [List.map_cons,Z0i,Zds F Kf h0 hG hW S C c many k τ hc n acc hn hcn (by omega) w (fun v e=>hw v (e ▸ List.mem_cons_self)) e x6,R.bind_ok]
  exact q
theorem Zb7 (c many:Nat) (τ:List O) (hc:τ[c]? = some (.lst ((cl G C).map nV))) (k:Nat) (hk:k < G.length) (x4 x5 x6:Option V) :
  ∃ y5 y6,evSs F Kf Z1c (setV (St4 S G c τ.length many x4 x5 x6 (CS τ ((List.range k).map (keyC G C)) k)) 4 (nV k)) = .ok .next (St4 S G c τ.length many (some (nV k)) y5 y6 (CS τ ((List.range (k + 1)).map (keyC G C)) (k + 1))):=by
 have hcl:=(List.getElem?_eq_some_iff.mp hc).1
 generalize hks:(List.range k).map (keyC G C) = ks
 have hkl:ks.length = k:=by rw [← hks,List.length_map,List.length_range]
 have hwn:Z00 G k = G[k].2:=by unfold Z00; rw [List.getElem?_eq_getElem hk]; rfl
 have hlen:(CS τ ks k).length = τ.length + 1 + k:=by unfold CS; rw [List.length_append,List.length_cons,List.length_replicate]; omega
 have hcn:c ≠ (CS τ ks k).length:=by omega
 obtain ⟨y6,q⟩:=Z7f F Kf h0 hG hW S C c many k τ.length (CS τ ks k).length hcn (Z00 G k) [(C k:Int)] (CS τ ks k++[.lst [nV (C k)]]) x6 (ZbI _ _ _ hc) (Z0o ..) (by rw [h0.ways_len hk]; show 1 + W < 100; omega) fun v hv=>h0.ways_lt hv
 rw [Z0K] at q
 have q':forR (fun x st=>evSs F Kf Z1b (setV st 6 x)) (G[k].2.map wV) (St4 S G c τ.length many (some (nV k)) (some (.ref (CS τ ks k).length)) x6 (CS τ ks k++[.lst [nV (C k)]])) = .ok .next (St4 S G c τ.length many (some (nV k)) (some (.ref (CS τ ks k).length)) y6 (CS τ ks k++[.lst ((keyC G C k).map .int)])):=by rw [← hwn]; exact q
 have sc:Z0h (CS τ ks k) (.ref c) (.int (k:Int)) = some (nV (C k)):=by
  have:=ZbI ks k [] hc
  rw [List.append_nil] at this
  rw [Z2S this,Z0J _ (by omega),List.getElem?_map,Zdr C hk]; rfl
 have hfz:(CS τ ks k++[O.lst ((keyC G C k).map .int)]).set (CS τ ks k).length .dead = CS τ ks k++[.dead]:=Z0K ..
 have hap:∀ ρ,Z0S .append (.ref τ.length) (.tup ((keyC G C k).map .int)) ⟨ρ,CS τ ks k++[.dead]⟩ = .ok .none ⟨ρ,CS τ ((List.range (k + 1)).map (keyC G C)) (k + 1)⟩:=fun ρ=>by
  rw [← ZeO,Z09 ρ _ _ _ _ (Z9n ..) (by rw [List.length_map,hkl]; exact Nat.lt_trans (Nat.lt_of_lt_of_le hk hG) (by decide))]
  unfold CS
  rw [List.append_assoc,List.cons_append,Z1U,List.range_succ,List.map_append,hks,List.map_append,← List.replicate_succ']; rfl
 refine ⟨some (.lst ((keyC G C k).map .int)),y6,?_⟩
 exact atS fun t=>t sc rfl rfl rfl (tb_1 _ S G) (Z0H hk hG) (Z0R _ _) rfl q' (Z0b _ _ _ (Z9n ..)) (Z0o ..) hfz rfl (hap _)
end
noncomputable def Lw (ε:List O):Prop:=∀ o ∈ ε,(O.back o).lo 0 = true
theorem Z9o {n:Nat} {o:O} (h:o.lo n = true):(O.back o).lo n = true:=by
 cases o with
 | lst xs=>
  show O.lo n (if V.nols xs then .lst xs else .dead) = true
  split
  ·exact h
  ·rfl
 | kdict es=>rfl
 | dead=>rfl
 | priv=>rfl
theorem Lw.app {a b:List O} (ha:Lw a) (hb:Lw b):Lw (a++b):=fun o ho=>(List.mem_append.mp ho).elim (ha o) (hb o)
theorem Lw.of {r:List O} (hr:∀ o ∈ r,o = .dead) (es:List (Ky × V)) (l:List Nat):Lw (r++[.kdict es,.lst (l.map nV)]):=by
 intro o ho
 rcases List.mem_append.mp ho with h | h
 ·rw [hr o h]; rfl
 ·rcases List.mem_cons.mp h with rfl | h
  ·rfl
  ·rw [List.mem_singleton.mp h]; exact Z9o (o:=.lst (l.map nV)) (Z33 0 l)
section
variable (F:Fn) (Kf:Nat) {G:List Rw} {W:Nat} (h0:TbK G W) (hG:G.length ≤ 64) (hW:W ≤ 40) (S:List Nat) (hF:NumbF F)
include h0 hG hW
theorem Zb8 (C:Nat→Nat) (c many:Nat) (τ:List O) (hc:τ[c]? = some (.lst ((cl G C).map nV))) (x4 x5 x6:Option V) :
  ∃ y4 y5 y6,forR (fun x st=>evSs F Kf Z1c (setV st 4 x)) (upTo 0 (G.length:Int)) (St4 S G c τ.length many x4 x5 x6 (CS τ [] 0)) = .ok .next (St4 S G c τ.length many y4 y5 y6 (CS τ (Z0V G C) G.length)):=by
 obtain ⟨st,e,y4,y5,y6,rfl⟩:=Z2k (step:=fun x st=>evSs F Kf Z1c (setV st 4 x)) (fun i st=>∃ y4 y5 y6,st = St4 S G c τ.length many y4 y5 y6 (CS τ ((List.range i).map (keyC G C)) i)) (upTo 0 (G.length:Int)) 0 (St4 S G c τ.length many x4 x5 x6 (CS τ [] 0)) (by
  rintro i x st hx ⟨y4,y5,y6,rfl⟩
  rw [Nat.zero_add] at *
  obtain ⟨rfl,hi⟩:=Z53 hx
  obtain ⟨z5,z6,e⟩:=Zb7 F Kf h0 hG hW S C c many τ hc i hi y4 y5 y6
  exact ⟨_,e,_,z5,z6,rfl⟩) ⟨x4,x5,x6,rfl⟩
 rw [Z2q,Nat.zero_add] at e
 exact ⟨y4,y5,y6,e⟩
include hF
theorem Z7g (C:Nat→Nat) (c many:Nat) (τ:List O) (hc:τ[c]? = some (.lst ((cl G C).map nV))) (x3 x4 x5 x6:Option V) :
  ∃ y3 y4 y5 y6 c' ε,evSs F Kf Z1Q (S8 (some (tbV S G)) (some (.ref c)) (some (nV many)) x3 x4 x5 x6 none τ) = .ok .next (S8 (some (tbV S G)) (some (.ref c')) (some (nV (uq (cl G C)).length)) y3 y4 y5 y6 none (τ++ε))∧(τ++ε)[c']? = some (.lst ((cl G (Z38 G C)).map nV))∧τ.length ≤ c'∧Lw ε:=by
 obtain ⟨y4,y5,y6,e⟩:=Zb8 F Kf h0 hG hW S C c (uq (cl G C)).length τ hc x4 x5 x6
 have hs:=Z5S hc (by rw [Z9m]; omega)
 have hlen:Z0x (τ++[O.lst []]) .len (.ref c) = some (.int (G.length:Int)):=by
  rw [Z2T _ _ _ (by rw [List.getElem?_append_left (List.getElem?_eq_some_iff.mp hc).1]; exact hc),List.length_map,Z9m]
 have hg:(CS τ (Z0V G C) G.length)[τ.length]? = some (.lst ((Z0V G C).map fun k=>kV (kf3 k))):=by
  have:=Z9n τ (Z0V G C) G.length []
  rwa [List.append_nil] at this
 have hfz:(CS τ (Z0V G C) G.length).set τ.length .dead = τ++O.dead :: List.replicate G.length .dead:=Z1U ..
 have hcall:=hF.two (Z0V G C) (τ++O.dead :: List.replicate G.length .dead) (by unfold Z0V; rw [List.length_map,List.length_range]; omega)
 refine ⟨some (.lst ((Z0V G C).map fun k=>kV (kf3 k))),y4,y5,y6,(τ++O.dead :: List.replicate G.length .dead).length + 1,(O.dead :: List.replicate G.length .dead)++[.kdict (dE kf3 0 (uq (Z0V G C))),.lst ((nums (Z0V G C)).map nV)],?_,?_,by rw [List.length_append]; omega,Lw.of (fun o ho=>(List.mem_cons.mp ho).elim id fun h=>(List.mem_replicate.mp h).2) _ _⟩
 ·rw [← List.append_assoc]
  exact atS fun t=>t hs rfl rfl rfl rfl hlen rfl (Z0B (by omega)) e hg hfz hcall rfl
 ·rw [← List.append_assoc,Z2H]
  exact NS_f ..
theorem Zb9 {n:Nat} {C C':Nat→Nat} (f:ClN G n C C'):∀ (c many:Nat) (τ:List O),τ[c]? = some (.lst ((cl G C).map nV))→many < (uq (cl G C)).length→∀ (m:Nat),n + 1 ≤ m→∀ (x3 x4 x5 x6:Option V),
  ∃ y2 y3 y4 y5 y6 c' ε,Z0y (fun st=>Z04 (evE F (.cmp .lt (.loc 2) (.lenSet (.loc 1))) st)) (fun st=>evSs F Kf Z1Q st) m (S8 (some (tbV S G)) (some (.ref c)) (some (nV many)) x3 x4 x5 x6 none τ) = .ok .next (S8 (some (tbV S G)) (some (.ref c')) y2 y3 y4 y5 y6 none (τ++ε))∧(τ++ε)[c']? = some (.lst ((cl G C').map nV))∧τ.length ≤ c'∧Lw ε:=by
 have test:∀ (C:Nat→Nat) (c many:Nat) (τ:List O) (x3 x4 x5 x6:Option V),τ[c]? = some (.lst ((cl G C).map nV))→Z04 (evE F (.cmp .lt (.loc 2) (.lenSet (.loc 1))) (S8 (some (tbV S G)) (some (.ref c)) (some (nV many)) x3 x4 x5 x6 none τ)) = .ok (decide (many < (uq (cl G C)).length)) (S8 (some (tbV S G)) (some (.ref c)) (some (nV many)) x3 x4 x5 x6 none τ):=fun C c many τ x3 x4 x5 x6 hc=>by
  have hs:=Z5S hc (by rw [Z9m]; omega)
  have e:decide ((many:Int) < ((uq (cl G C)).length:Int)) = decide (many < (uq (cl G C)).length):=by
   by_cases h:many < (uq (cl G C)).length
   ·rw [decide_eq_true h,decide_eq_true (by omega)]
   ·rw [decide_eq_false h,decide_eq_false (by omega)]
  rw [← e]
  exact atQ fun t=>t hs
 induction f with
 | @stop n C h=>
  intro c many τ hc hm m hf x3 x4 x5 x6
  obtain ⟨m,rfl⟩:∃ j,m = j + 2:=⟨m - 2,by omega⟩
  obtain ⟨y3,y4,y5,y6,c',ε,e,hc',hle,hw⟩:=Z7g F Kf h0 hG hW S hF C c many τ hc x3 x4 x5 x6
  refine ⟨some (nV (uq (cl G C)).length),y3,y4,y5,y6,c',ε,?_,hc',hle,hw⟩
  rw [Z05,test C c many τ x3 x4 x5 x6 hc,R.bind_ok,decide_eq_true hm,if_pos rfl,e,R.bind_ok]
  show Z0y _ _ (m + 1) _ = _
  rw [Z05,test (Z38 G C) c' _ _ y3 y4 y5 y6 hc',R.bind_ok,Z4Y,decide_eq_false (by omega)]; rfl
 | @turn n C C' h f ih=>
  intro c many τ hc hm m hf x3 x4 x5 x6
  obtain ⟨m,rfl⟩:∃ j,m = j + 1:=⟨m - 1,by omega⟩
  obtain ⟨y3,y4,y5,y6,c',ε,e,hc',hle,hw⟩:=Z7g F Kf h0 hG hW S hF C c many τ hc x3 x4 x5 x6
  obtain ⟨z2,z3,z4,z5,z6,c'',ε',e',hc'',hle',hw'⟩:=ih c' (uq (cl G C)).length (τ++ε) hc' (by rw [Z4Y]; exact h) m (by omega) y3 y4 y5 y6
  rw [List.append_assoc] at e' hc''
  rw [List.length_append] at hle'
  refine ⟨z2,z3,z4,z5,z6,c'',ε++ε',?_,hc'',by omega,hw.app hw'⟩
  rw [Z05,test C c many τ x3 x4 x5 x6 hc,R.bind_ok,decide_eq_true hm,if_pos rfl,e,R.bind_ok]
  exact e'
theorem Zdt {n:Nat} {C':Nat→Nat} (f:ClN G n (Z31 G) C') (hn:n + 1 ≤ Kf) (σ:List O):∃ c ε,Z0m F Kf Z20 [tbV S G] σ = .ok (.ref c) ⟨[],σ++ε⟩∧(σ++ε)[c]? = some (.lst ((cl G C').map nV))∧σ.length ≤ c∧Lw ε:=by
 have hcomp:evE F (.comp false Z1P 7 (.val (.sub (.loc 0) (.int 1)))) (S8 (some (tbV S G)) none none none none none none none σ) = .ok (.lst ((G.map rowV).map fstV)) (S8 (some (tbV S G)) none none none none none none none (σ++[.dead])) :=
  Z21 (F:=F) (elt:=Z1P) (k:=7) (ρ₀:=[some (tbV S G),none,none,none,none,none,none,none]) (σ:=σ) (it:=.val (.sub (.loc 0) (.int 1))) (xs:=G.map rowV) fstV
   (fun x hx=>by obtain ⟨r,_,rfl⟩:=List.mem_map.mp hx; exact Z5L _ _) (atI fun t=>t (tb_1 _ S G) rfl) (by rw [List.length_map]; exact Nat.le_trans hG (by decide)) fun x hx acc _=>by
    obtain ⟨r,_,rfl⟩:=List.mem_map.mp hx
    exact atE fun t=>t (Z27 _ r)
 have hl:(G.map rowV).map fstV = ((List.range G.length).map (told G)).map fun x=>kV (kf1 x):=by
  rw [Zb6,List.map_map,List.map_map]; rfl
 rw [hl] at hcomp
 have hcall:=hF.one ((List.range G.length).map (told G)) (σ++[.dead]) (by rw [List.length_map,List.length_range]; omega)
 generalize hτ:NS kf1 (σ++[.dead]) ((List.range G.length).map (told G)) = τ at hcall
 have hc:τ[(σ++[O.dead]).length + 1]? = some (.lst ((cl G (Z31 G)).map nV)):=by rw [← hτ,Z3P]; exact NS_f ..
 have hpos:0 < (uq (cl G (Z31 G))).length:=by
  have hp:=h0.pos
  exact List.length_pos_of_mem (uq_mem.mpr (List.mem_of_getElem? (Zdr (Z31 G) hp)))
 obtain ⟨y2,y3,y4,y5,y6,c',ε,e,hc',hle,hw⟩:=Zb9 F Kf h0 hG hW S hF f _ 0 τ hc hpos Kf hn none none none none
 have hτ':τ = σ++([.dead]++[.kdict (dE kf1 0 (uq ((List.range G.length).map (told G)))),.lst ((nums ((List.range G.length).map (told G))).map nV)]):=by rw [← hτ,← List.append_assoc]; rfl
 have hlen:σ.length ≤ τ.length:=by rw [hτ',List.length_append]; omega
 have body:evSs F Kf Z3Y (S8 (some (tbV S G)) none none none none none none none σ) = .ok (.ret (.ref c')) (S8 (some (tbV S G)) (some (.ref c')) y2 y3 y4 y5 y6 none (τ++ε)):=atS fun t=>t hcomp hcall rfl rfl e rfl
 refine ⟨c',[.dead]++[.kdict (dE kf1 0 (uq ((List.range G.length).map (told G)))),.lst ((nums ((List.range G.length).map (told G))).map nV)]++ε,?_,?_,by omega,(Lw.of (r:=[.dead]) (fun o ho=>List.mem_singleton.mp ho) _ _).app hw⟩
 ·rw [← List.append_assoc σ,← hτ']
  exact Z3k (F:=F) (K:=Kf) (d:=Z20) (args:=[tbV S G]) (σ:=σ) (r:=.ref c') rfl body (by rw [Z13]; exact decide_eq_false (by omega))
 ·rw [← List.append_assoc σ,← hτ']; exact hc'
end
theorem Z6r {n:Nat}:∀ {xs:List V},(∀ x ∈ xs,∃ m,x.depth? = some m∧m ≤ n)→∃ m,V.depths? xs = some m∧m ≤ n
 | [],_=>⟨0,Z7W,Nat.zero_le _⟩
 | x :: xs,h=>by
  obtain ⟨a,ha,ha'⟩:=h x List.mem_cons_self
  obtain ⟨b,hb,hb'⟩:=Z6r (xs:=xs) fun y hy=>h y (List.mem_cons_of_mem _ hy)
  exact ⟨max a b,by rw [Z7p,ha,Option.bind_some,hb]; rfl,Nat.max_le.mpr ⟨ha',hb'⟩⟩
theorem Z1W {n:Nat} {xs:List V} (h:∀ x ∈ xs,∃ m,x.depth? = some m∧m ≤ n):∃ m,(V.lst xs).depth? = some m∧m ≤ n + 1:=by
 obtain ⟨m,h1,h2⟩:=Z6r h
 exact ⟨m + 1,by rw [Z9R,h1]; rfl,by omega⟩
theorem Z6s {n:Nat} {xs:List V} (h:∀ x ∈ xs,∃ m,x.depth? = some m∧m ≤ n):∃ m,(V.tup xs).depth? = some m∧m ≤ n + 1:=by
 obtain ⟨m,h1,h2⟩:=Z6r h
 exact ⟨m + 1,by rw [Z9Q,h1]; rfl,by omega⟩
theorem Z1u {x:V} {n:Nat} (h:∃ m,x.depth? = some m∧m ≤ n) (hn:n ≤ 64):x.flat64 = true:=by
 obtain ⟨m,h1,h2⟩:=h
 unfold V.flat64
 rw [h1]; exact decide_eq_true (by omega)
theorem ZbJ (o:Option Int):∃ m,(oV o).depth? = some m∧m ≤ 0:=by cases o <;> exact ⟨0,rfl,Nat.le_refl _⟩
theorem Zer (o:Option Nat):∃ m,(wV o).depth? = some m∧m ≤ 0:=ZbJ _
theorem Z9p (r:Rw):∃ m,(rowV r).depth? = some m∧m ≤ 2:=Z6s fun x hx=>by
 rcases List.mem_cons.mp hx with rfl | hx
 ·obtain ⟨m,h1,h2⟩:=ZbJ r.1; exact ⟨m,h1,by omega⟩
 ·rw [List.mem_singleton.mp hx]
  exact Z1W fun y hy=>by obtain ⟨w,_,rfl⟩:=List.mem_map.mp hy; exact Zer w
theorem Zba (T:List Rw):∃ m,(V.lst (T.map rowV)).depth? = some m∧m ≤ 3:=Z1W fun x hx=>by obtain ⟨r,_,rfl⟩:=List.mem_map.mp hx; exact Z9p r
theorem ZbK (S:List Nat) (T:List Rw):∃ m,(tbV S T).depth? = some m∧m ≤ 4:=Z6s fun x hx=>by
 rcases List.mem_cons.mp hx with rfl | hx
 ·exact ⟨0,rfl,by omega⟩
 ·rw [List.mem_singleton.mp hx]; exact Zba T
theorem Z9q {σ:List O} {b k:Nat} {xs:List V} (h:σ[b]? = some (.lst xs)) (hx:V.los 0 xs = true):dz σ (k + 1) (.ref b) = some (.lst xs):=by
 show (lstO σ[b]?).bind (fun xs=>dz σ k (.lst xs)) = _
 rw [h]
 show dz σ k (.lst xs) = _
 exact Z37 (by rw [Z0d]; exact hx)
theorem Zes {σ:List O} {b:Nat} {xs:List V} {x:V} (h:σ[b]? = some (.lst xs)) (hx:x.lo 0 = true) (hxs:V.los 0 xs = true) (f1:x.flat64 = true) (f2:(V.lst xs).flat64 = true):inD σ x (.ref b) = some (xs.any fun z=>V.eqb z x):=by
 show pick (Z0p σ[b]?) _ (inLs σ x (.ref b)) = _
 rw [h]
 show inLs σ x (.ref b) = _
 unfold inLs
 rw [Z37 hx,Option.bind_some,Z9q h hxs,Option.bind_some,f1,f2]; rfl
theorem Zdu (n:Nat):(nV n).flat64 = true:=rfl
theorem Z5T (n:Nat):∃ m,(nV n).depth? = some m∧m ≤ 0:=⟨0,rfl,Nat.le_refl _⟩
theorem Zet (met:List Nat) (w:Nat):((met.map nV).any fun z=>V.eqb z (nV w)) = decide (w ∈ met):=by
 rw [Bool.eq_iff_iff,List.any_eq_true,decide_eq_true_iff]
 constructor
 ·rintro ⟨z,hz,e⟩
  obtain ⟨v,hv,rfl⟩:=List.mem_map.mp hz
  have e:((v:Int) == (w:Int)) = true:=e
  have:=eq_of_beq e
  rw [← show v = w by omega]; exact hv
 ·intro h
  exact ⟨nV w,List.mem_map_of_mem h,beq_self_eq_true (w:Int)⟩
theorem Zeu {σ:List O} {b:Nat} {met:List Nat} (h:σ[b]? = some (.lst (met.map nV))) (w:Nat):inD σ (nV w) (.ref b) = some (decide (w ∈ met)):=by
 exact (Zes (x:=nV w) h (Z0z _) (Z33 _ _) (Zdu w) (Z1u (Z1W (n:=0) fun x hx=>by obtain ⟨v,_,rfl⟩:=List.mem_map.mp hx; exact Z5T v) (by omega))).trans (congrArg some (Zet met w))
theorem Z9r (met:List Nat) (w:Nat):addM id met w = if w ∈ met then met else met++[w]:=by unfold addM; rw [List.map_id]; rfl
section
variable (F:Fn) (Kf:Nat) {G:List Rw} {W:Nat} (h0:TbK G W) (hG:G.length ≤ 64) (hW:W ≤ 40) (S:List Nat) (σ:List O)
noncomputable def St5 (S:List Nat) (G:List Rw) (σ:List O) (met:List Nat) (k:Nat) (x3:Option V):St:=S4 (some (tbV S G)) (some (.ref σ.length)) (some (nV k)) x3 (σ++[.lst (met.map nV)])
include h0 hG hW
theorem Z55 (k:Nat):∀ (ws:List (Option Nat)) (met:List Nat) (x3:Option V),met.length + ws.length < 200→(∀ v,some v ∈ ws→v < G.length) →
  ∃ y3,forR (fun x st=>evSs F Kf Z0F (setV st 3 x)) (ws.map wV) (St5 S G σ met k x3) = .ok .next (St5 S G σ ((ws.filterMap id).foldl (addM id) met) k y3)
 | [],met,x3,_,_=>⟨x3,Z0C ..⟩
 | none :: ws,met,x3,hl,hw=>by
  have hl':met.length + (ws.length + 1) < 200:=hl
  obtain ⟨y3,e⟩:=Z55 k ws met (some .none) (by omega) fun v hv=>hw v (List.mem_cons_of_mem _ hv)
  refine ⟨y3,?_⟩
  have e1:evSs F Kf Z0F (setV (St5 S G σ met k x3) 3 (wV none)) = .ok .next (St5 S G σ met k (some .none)):=atS fun t=>t rfl rfl
  rw [List.map_cons,Z0i,e1,R.bind_ok]
  exact e
 | some v :: ws,met,x3,hl,hw=>by
  have hl':met.length + (ws.length + 1) < 200:=hl
  have hg:(σ++[O.lst (met.map nV)])[σ.length]? = some (.lst (met.map nV)):=Z0o ..
  have e1:evSs F Kf Z0F (setV (St5 S G σ met k x3) 3 (wV (some v))) = .ok .next (St5 S G σ (addM id met v) k (some (nV v))):=by
   rw [Z9r]
   by_cases h:v ∈ met
   ·rw [if_pos h]
    have hb:(!decide (v ∈ met)) = false:=by rw [decide_eq_true h]; rfl
    exact atS fun t=>t rfl (Zeu hg v) hb
   ·rw [if_neg h]
    have ha:∀ ρ,Z0S .append (.ref σ.length) (.int (v:Int)) ⟨ρ,σ++[O.lst (met.map nV)]⟩ = .ok .none ⟨ρ,σ++[O.lst ((met++[v]).map nV)]⟩:=fun ρ=>by
     rw [Z09 ρ _ _ _ _ hg (by rw [List.length_map]; exact Nat.lt_trans (show _ < 200 by omega) (by decide)),Z0K,List.map_append]; rfl
    have hb:(!decide (v ∈ met)) = true:=by rw [decide_eq_false h]; rfl
    exact atS fun t=>t rfl (Zeu hg v) hb (Z0b _ _ _ hg) (ha _)
  obtain ⟨r,hr⟩:=Z3g (K:=id) met v
  obtain ⟨y3,e⟩:=Z55 k ws (addM id met v) (some (nV v)) (by
   rw [Z9r]
   split
   ·omega
   ·rw [List.length_append,List.length_singleton]; omega) fun v hv=>hw v (List.mem_cons_of_mem _ hv)
  refine ⟨y3,?_⟩
  rw [List.map_cons,Z0i,e1,R.bind_ok]
  exact e
theorem Zbb {k:Nat} {met mf:List Nat} (hb:Bf id (fun i=>(Z00 G i).filterMap id) k met mf):mf.length ≤ 64→(∀ s ∈ mf,s < G.length)→∀ (m:Nat),mf.length < k + m→∀ (x3:Option V),
  ∃ y3,Z0y (fun st=>Z04 (evE F (.cmp .lt (.loc 2) (.bi .len (.loc 1))) st)) (fun st=>evSs F Kf Z1t st) m (St5 S G σ met k x3) = .ok .next (St5 S G σ mf mf.length y3):=by
 have test:∀ (met:List Nat) (k:Nat) (x3:Option V),Z04 (evE F (.cmp .lt (.loc 2) (.bi .len (.loc 1))) (St5 S G σ met k x3)) = .ok (decide (k < met.length)) (St5 S G σ met k x3):=fun met k x3=>by
  have hlen:Z0x (σ++[.lst (met.map nV)]) .len (.ref σ.length) = some (.int (met.length:Int)):=by rw [Z2T _ _ _ (Z0o ..),List.length_map]
  have e:decide ((k:Int) < (met.length:Int)) = decide (k < met.length):=by
   by_cases h:k < met.length
   ·rw [decide_eq_true h,decide_eq_true (by omega)]
   ·rw [decide_eq_false h,decide_eq_false (by omega)]
  rw [← e]
  exact atQ fun t=>t hlen
 induction hb with
 | @stop k met e=>
  intro hm hs m hf x3
  obtain ⟨m,rfl⟩:∃ j,m = j + 1:=⟨m - 1,by omega⟩
  subst e
  refine ⟨x3,?_⟩
  rw [Z05,test,R.bind_ok,decide_eq_false (Nat.lt_irrefl _)]; rfl
 | @step k s met mf he hb ih=>
  intro hm hs m hf x3
  have hlt:=(List.getElem?_eq_some_iff.mp he).1
  obtain ⟨r,hr⟩:=hb.ext
  obtain ⟨r',hr'⟩:=Z0t (K:=id) ((Z00 G s).filterMap id) met
  have hml:met.length ≤ mf.length:=by rw [hr,hr',List.append_assoc,List.length_append]; omega
  have hkf:mf[k]? = some s:=by rw [hr,hr',List.append_assoc,List.getElem?_append_left hlt]; exact he
  have hs':=hs s (List.mem_of_getElem? hkf)
  have hk2:=(List.getElem?_eq_some_iff.mp hkf).1
  have hwn:Z00 G s = G[s].2:=by unfold Z00; rw [List.getElem?_eq_getElem hs']; rfl
  obtain ⟨m,rfl⟩:∃ j,m = j + 1:=⟨m - 1,by omega⟩
  obtain ⟨y3,q⟩:=Z55 F Kf h0 hG hW S σ k (Z00 G s) met x3 (by rw [h0.ways_len hs']; omega) fun v hv=>h0.ways_lt hv
  have q':forR (fun x st=>evSs F Kf Z0F (setV st 3 x)) (G[s].2.map wV) (St5 S G σ met k x3) = .ok .next (St5 S G σ (((Z00 G s).filterMap id).foldl (addM id) met) k y3):=by rw [← hwn]; exact q
  have sm:Z0h (σ++[.lst (met.map nV)]) (.ref σ.length) (.int (k:Int)) = some (nV s):=by rw [Z2S (Z0o ..),Z0J _ (by omega),List.getElem?_map,he]; rfl
  have e1:evSs F Kf Z1t (St5 S G σ met k x3) = .ok .next (St5 S G σ (((Z00 G s).filterMap id).foldl (addM id) met) (k + 1) y3) :=
   atS fun t=>t (tb_1 _ S G) sm (Z0H hs' hG) (Z0R _ _) rfl q' (congrArg V.int (by omega:(k:Int) + 1 = ((k + 1:Nat):Int)))
  obtain ⟨z3,q2⟩:=ih hm hs m (by omega) y3
  refine ⟨z3,?_⟩
  rw [Z05,test,R.bind_ok,decide_eq_true hlt,if_pos rfl,e1,R.bind_ok]
  exact q2
theorem Zdv (hb:Bf id (fun i=>(Z00 G i).filterMap id) 0 [0] (List.range G.length)) (hKf:100 ≤ Kf) (hσ:Cl σ):Z0m F Kf Z2h [tbV S G] σ = .ok (.bool true) ⟨[],σ⟩:=by
 obtain ⟨y3,e⟩:=Zbb F Kf h0 hG hW S σ hb (by rw [List.length_range]; exact hG) (fun s hs=>List.mem_range.mp hs) Kf (by rw [List.length_range]; omega) none
 refine Z1A rfl ?_ (Z0v _) hσ
 show Ret (evSs F Kf Z32 (S4 (some (tbV S G)) none none none σ)) _ _
 have hl:Z0x (σ++[.lst ((List.range G.length).map nV)]) .len (.lst (G.map rowV)) = some (.int (G.length:Int)):=by rw [Z5f,List.length_map]
 have hlr:Z3p (.int (G.length:Int)) = some (.lst ((List.range G.length).map nV)):=by
  have hz:G.length ≤ sizeLine:=Nat.le_trans hG (by decide)
  unfold Z3p
  rw [show (V.int (G.length:Int)).int? = some (G.length:Int) from rfl,Option.bind_some,if_pos ⟨Z0B (by omega),by rw [Int.toNat_natCast]; exact hz⟩,Z9k h0 hG hW]
 have hlo:V.los 0 ((List.range G.length).map nV) = true:=Z33 _ _
 have hfl:(V.lst ((List.range G.length).map nV)).flat64 = true:=Z1u (Z1W fun x hx=>by obtain ⟨v,_,rfl⟩:=List.mem_map.mp hx; exact Z5T v) (by omega)
 have heq:Z0r (σ++[.lst ((List.range G.length).map nV)]) .eq (.ref σ.length) (.lst ((List.range G.length).map nV)) = some true:=by
  show Z2t _ _ _ = _
  rw [eqS (Z9q (Z0o ..) hlo) (Z37 (by rw [Z0d]; exact hlo)) hfl hfl,V.eqb_refl _ (by rw [Z0d]; exact hlo)]
 refine Ret.mk (τ:=[.lst ((List.range G.length).map nV)]) (ρ:=[some (tbV S G),some (.ref σ.length),some (nV (List.range G.length).length),y3]) ?_
 exact atS fun t=>t rfl rfl rfl rfl e (tb_1 _ S G) hl hlr heq rfl
end
theorem Z9s (F:Fn) (K:Nat) (i:Int) (σ:List O) (hσ:Cl σ):Z0m F K Z4Z [.int i] σ = .ok (.bool true) ⟨[],σ⟩:=by
 refine Z1A rfl ?_ (Z0v _) hσ
 show Ret (evSs F K Z5F ⟨[some (.int i)],σ⟩) _ _
 exact Ret.mk0 (ρ:=[some (.int i)]) (atS fun t=>t rfl rfl rfl rfl)
section
variable (F:Fn) (Kf:Nat) {G:List Rw} (S:List Nat) (h0:TbK G S.length) (hG:G.length ≤ 64) (hS:S.length ≤ 40) (σ:List O) (hw:∀ i,F "_law_whole" [.int i] σ = .ok (.bool true) ⟨[],σ⟩)
include h0 hG hS hw
theorem Z43 (x1:Option V):∀ (ws:List (Option Nat)) (x2:Option V),(∀ v,some v ∈ ws→v < G.length) →
  ∃ y2,forR (fun x st=>evSs F Kf Z0l (setV st 2 x)) (ws.map wV) ⟨[some (tbV S G),x1,x2],σ⟩ = .ok .next ⟨[some (tbV S G),x1,y2],σ⟩
 | [],x2,_=>⟨x2,Z0C ..⟩
 | none :: ws,x2,h=>by
  obtain ⟨y2,e⟩:=Z43 x1 ws (some .none) fun v hv=>h v (List.mem_cons_of_mem _ hv)
  refine ⟨y2,?_⟩
  have e1:evSs F Kf Z0l ⟨[some (tbV S G),x1,some .none],σ⟩ = .ok .next ⟨[some (tbV S G),x1,some .none],σ⟩:=atS fun t=>t rfl rfl
  rw [List.map_cons,Z0i]
  show (evSs F Kf Z0l ⟨[some (tbV S G),x1,some .none],σ⟩).bind _ = _
  rw [e1,R.bind_ok]
  exact e
 | some v :: ws,x2,h=>by
  obtain ⟨y2,e⟩:=Z43 x1 ws (some (nV v)) fun v hv=>h v (List.mem_cons_of_mem _ hv)
  have hv:=h v List.mem_cons_self
  refine ⟨y2,?_⟩
  have hl:Z0x σ .len (.lst (G.map rowV)) = some (.int (G.length:Int)):=by rw [Z5f,List.length_map]
  have e1:evSs F Kf Z0l ⟨[some (tbV S G),x1,some (nV v)],σ⟩ = .ok .next ⟨[some (tbV S G),x1,some (nV v)],σ⟩ :=
   atS fun t=>t rfl (hw _) rfl (decide_eq_false (by omega)) (tb_1 _ S G) hl (decide_eq_false (by omega))
  rw [List.map_cons,Z0i]
  show (evSs F Kf Z0l ⟨[some (tbV S G),x1,some (nV v)],σ⟩).bind _ = _
  rw [e1,R.bind_ok]
  exact e
theorem Zbc (r:Rw) (hr:r ∈ G) (ht:∀ i,r.1 = some i→0 ≤ i) (x1 x2:Option V):∃ y2,evSs F Kf Z0E ⟨[some (tbV S G),some (rowV r),x2],σ⟩ = .ok .next ⟨[some (tbV S G),some (rowV r),y2],σ⟩:=by
 obtain ⟨y2,e⟩:=Z43 F Kf S h0 hG hS σ hw (some (rowV r)) r.2 x2 fun v hv=>h0.lt r hr v hv
 have hl:Z0x σ .len (.lst (r.2.map wV)) = some (.int (S.length:Int)):=by rw [Z5f,List.length_map,h0.len r hr]
 have hne:(!(((S.length:Nat):Int) == ((S.length:Nat):Int))) = false:=by rw [beq_self_eq_true]; rfl
 refine ⟨y2,?_⟩
 obtain ⟨o,ws⟩:=r
 cases o with
 | none=>exact atS fun t=>t rfl rfl rfl rfl (Z0R _ _) rfl rfl (Z27 _ _) rfl rfl (Z0R _ _) hl (tb_0 _ S G) rfl hne (Z0R _ _) rfl e
 | some i=>exact atS fun t=>t rfl rfl rfl rfl (Z0R _ _) rfl rfl (Z27 _ _) rfl (Z27 _ _) (hw i) rfl (Z27 _ _) (decide_eq_false (by have:=ht i rfl; omega)) (Z0R _ _) hl (tb_0 _ S G) rfl hne (Z0R _ _) rfl e
theorem Z5U (ht:∀ r ∈ G,∀ i,r.1 = some i→0 ≤ i):∀ (l:List Rw) (x1 x2:Option V),(∀ r ∈ l,r ∈ G) →
  ∃ y1 y2,forR (fun x st=>evSs F Kf Z0E (setV st 1 x)) (l.map rowV) ⟨[some (tbV S G),x1,x2],σ⟩ = .ok .next ⟨[some (tbV S G),y1,y2],σ⟩
 | [],x1,x2,_=>⟨x1,x2,Z0C ..⟩
 | r :: l,x1,x2,h=>by
  obtain ⟨z2,e1⟩:=Zbc F Kf S h0 hG hS σ hw r (h r List.mem_cons_self) (ht r (h r List.mem_cons_self)) x1 x2
  obtain ⟨y1,y2,e⟩:=Z5U ht l (some (rowV r)) z2 fun v hv=>h v (List.mem_cons_of_mem _ hv)
  refine ⟨y1,y2,?_⟩
  rw [List.map_cons,Z0i]
  show (evSs F Kf Z0E ⟨[some (tbV S G),some (rowV r),x2],σ⟩).bind _ = _
  rw [e1,R.bind_ok]
  exact e
theorem Zbd (ht:∀ r ∈ G,∀ i,r.1 = some i→0 ≤ i) (hσ:Cl σ):Z0m F Kf Z1s [tbV S G] σ = .ok (.bool true) ⟨[],σ⟩:=by
 obtain ⟨y1,y2,e⟩:=Z5U F Kf S h0 hG hS σ hw ht G none none fun _ h=>h
 refine Z1A rfl ?_ (Z0v _) hσ
 show Ret (evSs F Kf Z26 ⟨[some (tbV S G),none,none],σ⟩) _ _
 have hl:Z0x σ .len (.lst (G.map rowV)) = some (.int (G.length:Int)):=by rw [Z5f,List.length_map]
 have hp:=h0.pos
 exact Ret.mk0 (ρ:=[some (tbV S G),y1,y2]) (atS fun t=>t rfl rfl rfl rfl (tb_0 _ S G) rfl rfl (tb_1 _ S G) rfl rfl (tb_1 _ S G) hl (nz (by omega)) (tb_1 _ S G) rfl e rfl)
end
noncomputable def ppV (p:Nat × Nat):V:=.tup [nV p.1,nV p.2]
theorem ZbL (a b:Nat × Nat):V.eqb (ppV a) (ppV b) = decide (a = b):=by
 show ((a.1:Int) == (b.1:Int) && ((a.2:Int) == (b.2:Int) && true)) = _
 rw [Bool.eq_iff_iff,Bool.and_true,Bool.and_eq_true,decide_eq_true_iff,beq_iff_eq,beq_iff_eq]
 exact ⟨fun h=>Prod.ext (by omega) (by omega),fun h=>by rw [h]; exact ⟨rfl,rfl⟩⟩
theorem Zev (ps:List (Nat × Nat)) (q:Nat × Nat):((ps.map ppV).any fun z=>V.eqb z (ppV q)) = decide (q ∈ ps):=by
 rw [Bool.eq_iff_iff,List.any_eq_true,decide_eq_true_iff]
 constructor
 ·rintro ⟨z,hz,e⟩
  obtain ⟨v,hv,rfl⟩:=List.mem_map.mp hz
  rw [ZbL,decide_eq_true_iff] at e
  rw [← e]; exact hv
 ·intro h
  exact ⟨ppV q,List.mem_map_of_mem h,by rw [ZbL]; exact decide_eq_true rfl⟩
theorem Zew (p:Nat × Nat) (n:Nat):(ppV p).lo n = true:=rfl
theorem Zex (n:Nat) (ps:List (Nat × Nat)):V.los n (ps.map ppV) = true:=Z1S fun x hx=>by obtain ⟨p,_,rfl⟩:=List.mem_map.mp hx; exact Zew p n
theorem ZbM (p:Nat × Nat):∃ m,(ppV p).depth? = some m∧m ≤ 1:=Z6s fun x hx=>by
 rcases List.mem_cons.mp hx with rfl | hx
 ·exact Z5T _
 ·rw [List.mem_singleton.mp hx]; exact Z5T _
theorem ZeP {σ:List O} {b:Nat} {ps:List (Nat × Nat)} (h:σ[b]? = some (.lst (ps.map ppV))) (q:Nat × Nat):inD σ (ppV q) (.ref b) = some (decide (q ∈ ps)) :=
 (Zes (x:=ppV q) h (Zew q 0) (Zex 0 ps) (Z1u (ZbM q) (by omega)) (Z1u (Z1W (n:=1) fun x hx=>by obtain ⟨v,_,rfl⟩:=List.mem_map.mp hx; exact ZbM v) (by omega))).trans (congrArg some (Zev ps q))
noncomputable def LA (σ:List O) (B:List Bool) (ps:List (Nat × Nat)) (g:List O):List O:=σ++O.lst (B.map .bool) :: O.lst (ps.map ppV) :: g
section
variable (σ:List O) (B:List Bool) (ps:List (Nat × Nat)) (g:List O)
theorem LA_b:(LA σ B ps g)[σ.length]? = some (.lst (B.map .bool)):=Z1T ..
theorem LA_p:(LA σ B ps g)[σ.length + 1]? = some (.lst (ps.map ppV)):=by unfold LA; rw [List.getElem?_append_right (by omega)]; simp
theorem Zey (ps':List (Nat × Nat)):(LA σ B ps g).set (σ.length + 1) (.lst (ps'.map ppV)) = LA σ B ps' g:=by
 unfold LA
 rw [List.set_append_right _ _ (by omega),show σ.length + 1 - σ.length = 1 by omega]; rfl
theorem Zez (o:O):LA σ B ps g++[o] = LA σ B ps (g++[o]):=by unfold LA; rw [List.append_assoc]; rfl
end
section
variable (F:Fn) (Kf:Nat) {T:List Rw} {W:Nat} (h0:TbK T W) (hT:T.length ≤ 64) (hW:W ≤ 40) {K:Nat→Nat} {mf:List Nat} (hL:Lst T K mf) (k0:Kin T W K) (S:List Nat) (σ:List O)
noncomputable def St6 (S:List Nat) (T:List Rw) (K:Nat→Nat) (mf:List Nat) (σ:List O) (ps:List (Nat × Nat)) (g:List O) (k:Nat) (x5 x6 x7 x8 x9:Option V):St :=
 S10 (some (tbV S T)) (some (tbV S (Gr T K mf))) (some (.ref σ.length)) (some (.ref (σ.length + 1))) (some (nV k)) x5 x6 x7 x8 x9 (LA σ (Z0O T K) ps g)
include h0 hT hW hL k0
theorem ZeA (g:List O) (k:Nat) (ps:List (Nat × Nat)) (p:POk T K mf ps) (q:Option Nat × Option Nat) (hq:∀ v,q.1 = some v→v < T.length)
  (hs:(lv K T.length q.1).isSome = q.2.isSome) (ho:∀ v j,lv K T.length q.1 = some v→q.2 = some j→v < T.length∧j < mf.length∧K v = kG T K mf j) (x5 x6 x7 x8 x9:Option V) :
  ∃ ps' y9,(evSs F Kf Z0A (St6 S T K mf σ ps g k x5 x6 (some (wV q.1)) (some (wV q.2)) x9) = .ok .next (St6 S T K mf σ ps' g k x5 x6 (some (wV q.1)) (some (wV q.2)) y9))∧POk T K mf ps'∧ps.length ≤ ps'.length∧(∃ r,ps' = ps++r):=by
 obtain ⟨a,b⟩:=q
 cases a with
 | none=>
  have hb:b = none:=by cases b with | none=>rfl | some j=>cases hs
  subst hb
  refine ⟨ps,some (.bool false),?_,p,Nat.le_refl _,[],(List.append_nil _).symm⟩
  exact atS fun t=>t rfl rfl rfl rfl rfl rfl
 | some v=>
  have hv:=hq v rfl
  have hB:Z0h (LA σ (Z0O T K) ps g) (.ref σ.length) (.int (v:Int)) = some (.bool (decide (K v ≠ K T.length))):=by
   rw [Z2S (LA_b ..),Z0J _ (by omega),List.getElem?_map]
   unfold Z0O
   rw [List.getElem?_map,List.getElem?_range hv]; rfl
  rw [Z8Z] at hs
  by_cases e:K v = K T.length
  ·have e1:decide (K v ≠ K T.length) = false:=decide_eq_false fun h=>h e
   rw [e1] at hB
   have hb:b = none:=by
    cases b with
    | none=>rfl
    | some j=>rw [show decide (K ((some v).getD T.length) ≠ K T.length) = false from e1] at hs; cases hs
   subst hb
   refine ⟨ps,some (.bool false),?_,p,Nat.le_refl _,[],(List.append_nil _).symm⟩
   exact atS fun t=>t rfl hB rfl rfl rfl rfl rfl
  ·have e1:decide (K v ≠ K T.length) = true:=decide_eq_true e
   rw [e1] at hB
   obtain ⟨j,rfl⟩:∃ j,b = some j:=by
    cases b with
    | none=>rw [show decide (K ((some v).getD T.length) ≠ K T.length) = true from e1] at hs; cases hs
    | some j=>exact ⟨j,rfl⟩
   have hlv:lv K T.length (some v) = some v:=by unfold lv; rw [Option.bind_some,if_neg e]
   have hok:=ho v j hlv rfl
   have hin:=ZeP (LA_p σ (Z0O T K) ps g) (v,j)
   by_cases h:(v,j) ∈ ps
   ·have hb:(!decide ((v,j) ∈ ps)) = false:=by rw [decide_eq_true h]; rfl
    refine ⟨ps,some (.bool true),?_,p,Nat.le_refl _,[],(List.append_nil _).symm⟩
    exact atS fun t=>t rfl hB rfl rfl rfl rfl hin hb
   ·have hb:(!decide ((v,j) ∈ ps)) = true:=by rw [decide_eq_false h]; rfl
    have hle:=p.le hL
    have ha:∀ ρ,Z0S .append (.ref (σ.length + 1)) (ppV (v,j)) ⟨ρ,LA σ (Z0O T K) ps g⟩ = .ok .none ⟨ρ,LA σ (Z0O T K) (ps++[(v,j)]) g⟩:=fun ρ=>by
     rw [Z09 ρ _ _ _ _ (LA_p ..) (by rw [List.length_map]; exact Nat.lt_of_le_of_lt (Nat.le_trans hle hT) (by decide)),show ps.map ppV++[ppV (v,j)] = (ps++[(v,j)]).map ppV by rw [List.map_append]; rfl,Zey]
    have hadd:addU ps (v,j) = ps++[(v,j)]:=if_neg h
    refine ⟨ps++[(v,j)],some (.bool true),?_,hadd ▸ p.add hok,by rw [List.length_append]; omega,_,rfl⟩
    exact atS fun t=>t rfl hB rfl rfl rfl rfl hin hb (Z0b _ _ _ (LA_p ..)) (ha _)
theorem Z9t (g:List O) (k:Nat) (x5 x6:Option V):∀ (qs:List (Option Nat × Option Nat)) (ps:List (Nat × Nat)) (x7 x8 x9:Option V),POk T K mf ps→(∀ q ∈ qs,∀ v,q.1 = some v→v < T.length) →
  (∀ q ∈ qs,(lv K T.length q.1).isSome = q.2.isSome∧∀ v j,lv K T.length q.1 = some v→q.2 = some j→v < T.length∧j < mf.length∧K v = kG T K mf j) →
  ∃ ps' y7 y8 y9,(forR (fun x st=>(asT [7,8] x st).bind fun _ st=>evSs F Kf Z0A st) (qs.map fun q=>.tup [wV q.1,wV q.2]) (St6 S T K mf σ ps g k x5 x6 x7 x8 x9) = .ok .next (St6 S T K mf σ ps' g k x5 x6 y7 y8 y9))∧POk T K mf ps'∧∃ r,ps' = ps++r
 | [],ps,x7,x8,x9,p,_,_=>⟨ps,x7,x8,x9,Z0C ..,p,[],(List.append_nil _).symm⟩
 | q :: qs,ps,x7,x8,x9,p,h1,h2=>by
  obtain ⟨hs,ho⟩:=h2 q List.mem_cons_self
  obtain ⟨ps1,z9,e1,p1,_,r1,hr1⟩:=ZeA F Kf h0 hT hW hL k0 S σ g k ps p q (h1 q List.mem_cons_self) hs ho x5 x6 x7 x8 x9
  obtain ⟨ps2,y7,y8,y9,e2,p2,r2,hr2⟩:=Z9t g k x5 x6 qs ps1 (some (wV q.1)) (some (wV q.2)) z9 p1 (fun q hq=>h1 q (List.mem_cons_of_mem _ hq)) fun q hq=>h2 q (List.mem_cons_of_mem _ hq)
  refine ⟨ps2,y7,y8,y9,?_,p2,r1++r2,by rw [hr2,hr1,List.append_assoc]⟩
  rw [List.map_cons,Z0i]
  have e3:((asT [7,8] (.tup [wV q.1,wV q.2]) (St6 S T K mf σ ps g k x5 x6 x7 x8 x9)).bind fun _ st=>evSs F Kf Z0A st) = .ok .next (St6 S T K mf σ ps1 g k x5 x6 (some (wV q.1)) (some (wV q.2)) z9):=e1
  rw [e3,R.bind_ok]
  exact e2
theorem Zdw (g:List O) (k:Nat) (ps:List (Nat × Nat)) (p:POk T K mf ps) (hk:k < ps.length) (x5 x6 x7 x8 x9:Option V) :
  ∃ ps' y5 y6 y7 y8 y9,(evSs F Kf Z0P (St6 S T K mf σ ps g k x5 x6 x7 x8 x9) = .ok .next (St6 S T K mf σ ps' (g++[.priv]) (k + 1) y5 y6 y7 y8 y9))∧POk T K mf ps'∧∃ r,ps' = ps++r:=by
 have hle:=p.le hL
 have hle2:=hL.ok.le
 have hk1:=List.getElem?_eq_getElem hk
 have hok:=p.ok ps[k] (List.getElem_mem hk)
 generalize ps[k] = q at hk1 hok
 obtain ⟨i,j⟩:=q
 obtain ⟨hi,hj,hij⟩:=hok
 have hi:i < T.length:=hi
 have hj:j < mf.length:=hj
 have hGl:(Gr T K mf).length = mf.length:=Z08 ..
 have hG:(Gr T K mf).length ≤ 64:=by omega
 have hj':j < (Gr T K mf).length:=by omega
 have hw1:Z00 T i = T[i].2:=by unfold Z00; rw [List.getElem?_eq_getElem hi]; rfl
 have hw2:Z00 (Gr T K mf) j = (Gr T K mf)[j].2:=by unfold Z00; rw [List.getElem?_eq_getElem hj']; rfl
 have ht1:told T i = T[i].1:=by unfold told; rw [List.getElem?_eq_getElem hi]; rfl
 have ht2:told (Gr T K mf) j = (Gr T K mf)[j].1:=by unfold told; rw [List.getElem?_eq_getElem hj']; rfl
 have htt:T[i].1 = (Gr T K mf)[j].1:=by rw [← ht1,← ht2]; exact POk.told k0 hL (p:=(i,j)) ⟨hi,hj,hij⟩
 obtain ⟨ps',y7,y8,y9,e,p',r,hr⟩:=Z9t F Kf h0 hT hW hL k0 S σ (g++[.priv]) k (some (nV i)) (some (nV j)) ((Z00 T i).zip (Z00 (Gr T K mf) j)) ps x7 x8 x9 p
  (fun q hq v e=>h0.ways_lt (s:=i) (e ▸ (List.of_mem_zip (b:=q.2) hq).1)) fun q hq=>POk.ways h0 k0 hL (p:=(i,j)) ⟨hi,hj,hij⟩ hq
 refine ⟨ps',some (nV i),some (nV j),y7,y8,y9,?_,p',r,hr⟩
 have sm:Z0h (LA σ (Z0O T K) ps g) (.ref (σ.length + 1)) (.int (k:Int)) = some (ppV (i,j)):=by rw [Z2S (LA_p ..),Z0J _ (by omega),List.getElem?_map,hk1]; rfl
 have hz:∀ ρ,zipR (.lst (T[i].2.map wV)) (.lst ((Gr T K mf)[j].2.map wV)) ⟨ρ,LA σ (Z0O T K) ps g⟩ = .ok (((Z00 T i).zip (Z00 (Gr T K mf) j)).map fun q=>.tup [wV q.1,wV q.2]) ⟨ρ,LA σ (Z0O T K) ps (g++[.priv])⟩:=fun ρ=>by
  show R.ok (((T[i].2.map wV).zip ((Gr T K mf)[j].2.map wV)).map fun p=>V.tup [p.1,p.2]) ⟨ρ,LA σ (Z0O T K) ps g++[.priv]⟩ = _
  rw [Zez,hw1,hw2,List.zip_map,List.map_map]; rfl
 have f1:∀ τ,Z0h τ (rowV T[i]) (.int 0) = some (oV (told T i)):=fun τ=>(Z27 τ _).trans (by rw [ht1])
 have f2:∀ τ,Z0h τ (rowV (Gr T K mf)[j]) (.int 0) = some (oV (told T i)):=fun τ=>(Z27 τ _).trans (by rw [ht1,htt])
 generalize told T i = o at f1 f2
 cases o with
 | none=>exact atS fun t=>t sm rfl (tb_1 _ S T) (Z0H hi hT) (f1 _) (tb_1 _ S _) (Z0H hj' hG) (f2 _) rfl rfl (tb_1 _ S T) (Z0H hi hT) (Z0R _ _) (tb_1 _ S _) (Z0H hj' hG) (Z0R _ _) (hz _) e (congrArg V.int (by omega:(k:Int) + 1 = ((k + 1:Nat):Int)))
 | some a=>
  have hne:(!(a == a)) = false:=by rw [beq_self_eq_true]; rfl
  exact atS fun t=>t sm rfl (tb_1 _ S T) (Z0H hi hT) (f1 _) (tb_1 _ S _) (Z0H hj' hG) (f2 _) hne (tb_1 _ S T) (Z0H hi hT) (Z0R _ _) (tb_1 _ S _) (Z0H hj' hG) (Z0R _ _) (hz _) e (congrArg V.int (by omega:(k:Int) + 1 = ((k + 1:Nat):Int)))
theorem Zdx:∀ (m k:Nat) (ps:List (Nat × Nat)) (g:List O) (x5 x6 x7 x8 x9:Option V),POk T K mf ps→k ≤ ps.length→T.length < k + m →
  ∃ ps' g' k' y5 y6 y7 y8 y9,Z0y (fun st=>Z04 (evE F (.cmp .lt (.loc 4) (.bi .len (.loc 3))) st)) (fun st=>evSs F Kf Z0P st) m (St6 S T K mf σ ps g k x5 x6 x7 x8 x9) = .ok .next (St6 S T K mf σ ps' g' k' y5 y6 y7 y8 y9):=by
 have test:∀ (ps:List (Nat × Nat)) (g:List O) (k:Nat) (x5 x6 x7 x8 x9:Option V),Z04 (evE F (.cmp .lt (.loc 4) (.bi .len (.loc 3))) (St6 S T K mf σ ps g k x5 x6 x7 x8 x9)) = .ok (decide (k < ps.length)) (St6 S T K mf σ ps g k x5 x6 x7 x8 x9):=fun ps g k x5 x6 x7 x8 x9=>by
  have hlen:Z0x (LA σ (Z0O T K) ps g) .len (.ref (σ.length + 1)) = some (.int (ps.length:Int)):=by rw [Z2T _ _ _ (LA_p ..),List.length_map]
  have e:decide ((k:Int) < (ps.length:Int)) = decide (k < ps.length):=by
   by_cases h:k < ps.length
   ·rw [decide_eq_true h,decide_eq_true (by omega)]
   ·rw [decide_eq_false h,decide_eq_false (by omega)]
  rw [← e]
  exact atQ fun t=>t hlen
 intro m
 induction m with
 | zero=>
  intro k ps g x5 x6 x7 x8 x9 p hk hm
  have:=p.le hL
  omega
 | succ m ih=>
  intro k ps g x5 x6 x7 x8 x9 p hk hm
  by_cases hlt:k < ps.length
  ·obtain ⟨ps1,y5,y6,y7,y8,y9,e,p1,r,hr⟩:=Zdw F Kf h0 hT hW hL k0 S σ g k ps p hlt x5 x6 x7 x8 x9
   obtain ⟨ps2,g2,k2,z5,z6,z7,z8,z9,e2⟩:=ih (k + 1) ps1 (g++[.priv]) y5 y6 y7 y8 y9 p1 (by rw [hr,List.length_append]; omega) (by omega)
   refine ⟨ps2,g2,k2,z5,z6,z7,z8,z9,?_⟩
   rw [Z05,test,R.bind_ok,decide_eq_true hlt,if_pos rfl,e,R.bind_ok]
   exact e2
  ·refine ⟨ps,g,k,x5,x6,x7,x8,x9,?_⟩
   rw [Z05,test,R.bind_ok,decide_eq_false hlt]; rfl
theorem Z9u (hKf:100 ≤ Kf) (hσ:Cl σ) (hb:F "_law_busy" [tbV S T] σ = .ok (.ref σ.length) ⟨[],BS σ (Z0O T K)⟩):Z0m F Kf Z1g [tbV S T,tbV S (Gr T K mf)] σ = .ok (.bool true) ⟨[],σ⟩:=by
 have hp0:POk T K mf [(0,0)]:=by
  have hd:=hL.ok.hd
  refine ⟨List.nodup_cons.mpr ⟨List.not_mem_nil,List.nodup_nil⟩,fun p hp=>?_⟩
  rw [List.mem_singleton.mp hp]
  exact ⟨h0.pos,(List.getElem?_eq_some_iff.mp hd).1,(Z5B hd).symm⟩
 obtain ⟨ps,g,k,y5,y6,y7,y8,y9,e⟩:=Zdx F Kf h0 hT hW hL k0 S σ Kf 0 [(0,0)] [] none none none none none hp0 (Nat.zero_le _) (by omega)
 refine Z1A rfl ?_ (Z0v _) hσ
 show Ret (evSs F Kf Z1R (S10 (some (tbV S T)) (some (tbV S (Gr T K mf))) none none none none none none none none σ)) _ _
 have l1:(BS σ (Z0O T K)).length = σ.length + 1:=by unfold BS; rw [List.length_append]; rfl
 have l2:BS σ (Z0O T K)++[O.lst [ppV (0,0)]] = LA σ (Z0O T K) [(0,0)] []:=by unfold BS LA; rw [List.append_assoc]; rfl
 refine Ret.mk (τ:=O.lst ((Z0O T K).map .bool) :: O.lst (ps.map ppV) :: g) (ρ:=[some (tbV S T),some (tbV S (Gr T K mf)),some (.ref σ.length),some (.ref (σ.length + 1)),some (nV k),y5,y6,y7,y8,y9]) ?_
 exact atS fun t=>t hb rfl l1 l2 rfl rfl e rfl
end
theorem Z9v (o:O):o.kill.gone = true:=by cases o <;> rfl
theorem Zdy (n:Nat) (o:O):o.kill.lo n = true:=by cases o <;> rfl
theorem Cl.kill (σ:List O):Cl (σ.map O.kill):=List.all_eq_true.mpr fun o ho=>by obtain ⟨o',_,rfl⟩:=List.mem_map.mp ho; exact Zdy _ _
noncomputable def Z7B (σ:List O) (n:Nat):Option V:=(lstO σ[n]?).bind fun xs=>dz σ 2 (.lst xs)
theorem Z3l {F:Fn} {f:Str} {args as:List V} {σ ε:List O} {r:V} (h:V.mapRs (Z7B σ) args = some as) (hF:F f as (σ.map O.kill) = .ok r ⟨[],σ.map O.kill++ε⟩) (hr:r.nol = true):Z36 F f args σ = .ok r ⟨[],σ++ε.map O.back⟩:=by
 unfold Z36
 have hl:(σ.map O.kill).length = σ.length:=List.length_map _
 have h1:(σ.map O.kill++ε).take σ.length = σ.map O.kill:=List.take_left' hl
 have h2:(σ.map O.kill++ε).drop σ.length = ε:=List.drop_left' hl
 have h3:(σ.map O.kill).all O.gone = true:=List.all_eq_true.mpr fun o ho=>by obtain ⟨o',_,rfl⟩:=List.mem_map.mp ho; exact Z9v _
 have h4:σ.length ≤ (σ.map O.kill++ε).length:=by rw [List.length_append,hl]; omega
 rw [Z0j (show V.mapRs (fun n=>(lstO σ[n]?).bind fun xs=>dz σ 2 (.lst xs)) args = some as from h),hF,R.bind_ok]
 show (if (r.nol && (decide (σ.length ≤ (σ.map O.kill++ε).length) && ((σ.map O.kill++ε).take σ.length).all O.gone)) = true then R.ok r ⟨[],σ++((σ.map O.kill++ε).drop σ.length).map O.back⟩ else R.stuck) = _
 rw [h1,h2,h3,hr,decide_eq_true h4]; rfl
theorem Z9w {F:Fn} {f:Str} {args as:List V} {σ:List O} {r:V} (h:V.mapRs (Z7B σ) args = some as) (hF:F f as (σ.map O.kill) = .ok r ⟨[],σ.map O.kill⟩) (hr:r.nol = true):Z36 F f args σ = .ok r ⟨[],σ⟩:=by
 have:=Z3l (ε:=[]) h (by rw [List.append_nil]; exact hF) hr
 rwa [List.map_nil,List.append_nil] at this
theorem Cl.back {σ ε:List O} (h:Cl σ) (he:∀ o ∈ ε,(O.back o).lo (σ.length + ε.length) = true):Cl (σ++ε.map O.back):=by
 unfold Cl
 rw [List.all_append,List.length_append,List.length_map,Bool.and_eq_true]
 exact ⟨List.all_eq_true.mpr fun o ho=>O.lo_mono (Nat.le_add_right _ _) (List.all_eq_true.mp h o ho),List.all_eq_true.mpr fun o ho=>by obtain ⟨o',ho',rfl⟩:=List.mem_map.mp ho; exact he o' ho'⟩
theorem Cl.set {σ:List O} (h:Cl σ) (n:Nat) {o:O} (ho:o.lo σ.length = true):Cl (σ.set n o):=by
 unfold Cl
 rw [List.length_set]
 exact List.all_eq_true.mpr fun x hx=>(List.mem_or_eq_of_mem_set hx).elim (List.all_eq_true.mp h x) fun e=>e ▸ ho
theorem Z0g (d:Nat→Option V) (x:V) (xs:List V):V.mapRs d (x :: xs) = (V.mapR d x).bind fun y=>(V.mapRs d xs).bind fun ys=>some (y :: ys):=rfl
theorem Z3m (d:Nat→Option V) (xs:List V):V.mapR d (.tup xs) = (V.mapRs d xs).map .tup:=rfl
theorem Z7h (d:Nat→Option V) (xs:List V):V.mapR d (.lst xs) = (V.mapRs d xs).map .lst:=rfl
theorem Z3n (d:Nat→Option V) (n:Nat):V.mapR d (.ref n) = d n:=rfl
section
variable {T:List Rw} {K:Nat→Nat} {mf:List Nat}
noncomputable def grR (T:List Rw) (K:Nat→Nat) (mf:List Nat) (s:Nat):Rw:=(told T s,(Z00 T s).map (nuW K T.length mf))
theorem ZbN:Gr T K mf = mf.map (grR T K mf):=rfl
structure LsIn (T:List Rw) (K:Nat→Nat) (mf:List Nat) (τ:List O) (b k:Nat):Prop where
 rows:τ[b]? = some (.lst (dsOf T (b + 1) 0 mf))
 ways:∀ i s,k ≤ i→mf[i]? = some s→τ[b + 1 + i]? = some (.lst ((grR T K mf s).2.map wV))
theorem LsIn.app {τ:List O} {b k:Nat} (h:LsIn T K mf τ b k) (ε:List O):LsIn T K mf (τ++ε) b k :=
 ⟨by rw [List.getElem?_append_left (List.getElem?_eq_some_iff.mp h.rows).1]; exact h.rows,fun i s hi e=>by have:=h.ways i s hi e; rw [List.getElem?_append_left (List.getElem?_eq_some_iff.mp this).1]; exact this⟩
theorem Z9x {d:Nat→Option V} {c:Nat}:∀ (l:List Nat) (j:Nat),(∀ i s,l[i]? = some s→d (c + j + i) = some (.lst ((grR T K mf s).2.map wV)))→V.mapRs d (dsOf T c j l) = some (l.map fun s=>rowV (grR T K mf s))
 | [],_,_=>rfl
 | s :: l,j,h=>by
  have h0:=h 0 s rfl
  have hd:d (c + j) = some (.lst ((grR T K mf s).2.map wV)):=h0
  have ih:=Z9x (d:=d) (c:=c) l (j + 1) fun i s e=>by have:=h (i + 1) s e; rwa [show c + j + (i + 1) = c + (j + 1) + i by omega] at this
  rw [Z17,Z0g,Z3m,Z0g,Z28 _ _ (Z5L 0 _),Option.bind_some,Z0g,Z3n,hd,ih]; rfl
theorem Z5V (c:Nat):∀ (k:Nat) (l:List Nat) (j:Nat),(dsOf T c j l).drop k = dsOf T c (j + k) (l.drop k)
 | 0,l,j=>rfl
 | k + 1,[],j=>rfl
 | k + 1,s :: l,j=>by
  rw [Z17,List.drop_succ_cons,List.drop_succ_cons,Z5V c k l (j + 1)]
  congr 1; omega
theorem LsIn.drop {τ:List O} {b k:Nat} (h:LsIn T K mf τ b k) (e:Nat):V.mapRs (fun n=>(lstO τ[n]?).bind fun xs=>dz τ e (.lst xs)) ((dsOf T (b + 1) 0 mf).drop k) = some ((((Gr T K mf).map rowV)).drop k):=by
 rw [Z5V,Z9x (mf:=mf) (K:=K) (mf.drop k) (0 + k) fun i s q=>?_,ZbN,List.map_map,← List.map_drop]
 ·rfl
 ·rw [List.getElem?_drop] at q
  have:=h.ways (k + i) s (by omega) q
  rw [show b + 1 + (0 + k) + i = b + 1 + (k + i) by omega,this]
  show dz τ e (.lst _) = _
  exact Z37 (by rw [Z0d]; exact Z92 0 _)
theorem LsIn.all {τ:List O} {b:Nat} (h:LsIn T K mf τ b 0) (e:Nat):dz τ (e + 1) (.lst (dsOf T (b + 1) 0 mf)) = some (.lst ((Gr T K mf).map rowV)):=by
 have:=h.drop e
 rw [List.drop_zero,List.drop_zero] at this
 show V.mapR _ _ = _
 rw [Z7h,this]; rfl
theorem LsIn.ref {τ:List O} {b:Nat} (h:LsIn T K mf τ b 0) (e:Nat):(lstO τ[b]?).bind (fun xs=>dz τ (e + 1) (.lst xs)) = some (.lst ((Gr T K mf).map rowV)):=by
 rw [h.rows]; exact h.all e
theorem LsIn.tab {τ:List O} {b:Nat} (h:LsIn T K mf τ (b + 2) 0) (S:List Nat):dz τ 2 (lsV S b) = some (tbV S (Gr T K mf)):=by
 have hr:=h.ref 0
 show V.mapR _ (.tup [.str S,.ref (b + 2)]) = _
 rw [Z3m,Z0g,Z28 _ _ (show (V.str S).lo 0 = true from rfl),Option.bind_some,Z0g,Z3n,hr]; rfl
theorem LsIn.deep {τ:List O} {b:Nat} (h:LsIn T K mf τ (b + 2) 0) (S:List Nat):V.mapR (Z7B τ) (lsV S b) = some (tbV S (Gr T K mf)):=by
 have hr:Z7B τ (b + 2) = _:=h.ref 1
 show V.mapR _ (.tup [.str S,.ref (b + 2)]) = _
 rw [Z3m,Z0g,Z28 _ _ (show (V.str S).lo 0 = true from rfl),Option.bind_some,Z0g,Z3n,hr]; rfl
theorem LsIn.args1 {τ:List O} {b:Nat} (h:LsIn T K mf τ (b + 2) 0) (S:List Nat):V.mapRs (Z7B τ) [lsV S b] = some [tbV S (Gr T K mf)]:=by rw [Z0g,h.deep S]; rfl
theorem LsIn.args2 {τ:List O} {b:Nat} (h:LsIn T K mf τ (b + 2) 0) (S:List Nat) (T':List Rw):V.mapRs (Z7B τ) [tbV S T',lsV S b] = some [tbV S T',tbV S (Gr T K mf)]:=by rw [Z0g,Z28 _ _ (Z76 0 S T'),Option.bind_some,h.args1 S]; rfl
theorem ZbO (σ:List O):LsIn T K mf (lsO T K mf σ) (σ.length + 2) 0:=by
 refine ⟨LS_f ..,fun i s _ e=>?_⟩
 unfold lsO LS
 rw [List.getElem?_append_right (by omega),show σ.length + 2 + 1 + i - σ.length = i + 3 by omega,List.getElem?_cons_succ,List.getElem?_cons_succ,List.getElem?_cons_succ]
 unfold wlOf
 rw [List.getElem?_map,e]; rfl
theorem Z9y (n c:Nat):∀ (l:List Nat) (j:Nat),c + j + l.length ≤ n→V.los n (dsOf T c j l) = true
 | [],_,_=>Z0f
 | s :: l,j,h=>by
  have h':c + j + (l.length + 1) ≤ n:=h
  rw [Z17,Z02,Z1z,Z02,Z02,Z0f,Z5L,Z13,decide_eq_true (by omega),Z9y n c l (j + 1) (by omega)]; rfl
theorem ZeQ {κ:Type} [DecidableEq κ] (kf:κ→Ky) (n:Nat) (j:Nat) (l:List κ):(O.kdict (dE kf j l)).lo n = true:=by
 show V.los n ((dE kf j l).map (fun y=>kV y.1)++(dE kf j l).map (·.2)) = true
 refine Z51 (Z1S fun x hx=>by obtain ⟨y,_,rfl⟩:=List.mem_map.mp hx; exact ZeN n _) ?_
 induction l generalizing j with
 | nil=>exact Z0f
 | cons x l ih=>rw [Z2P,List.map_cons,Z02,ih,Z0z]; rfl
theorem Zdz (n:Nat) (l:List Nat):∀ o ∈ wlOf T K mf l,o.lo n = true:=fun o ho=>by
 obtain ⟨s,_,rfl⟩:=List.mem_map.mp ho
 exact Z92 n _
noncomputable def lsE (T:List Rw) (K:Nat→Nat) (mf:List Nat) (n:Nat):List O:=O.kdict (dE kfn 0 (mf.map K)) :: O.lst (mf.map nV) :: O.lst (dsOf T (n + 3) 0 mf) :: wlOf T K mf mf
theorem Z9z (σ:List O):lsO T K mf σ = σ++lsE T K mf σ.length:=rfl
theorem ZdA (n:Nat):(lsE T K mf n).length = mf.length + 3:=by
 show (wlOf T K mf mf).length + 3 = _
 rw [Z7d]
theorem ZbP (n:Nat):∀ o ∈ lsE T K mf n,o.lo (n + (lsE T K mf n).length) = true:=by
 rw [ZdA]
 intro o ho
 rcases List.mem_cons.mp ho with rfl | ho
 ·exact ZeQ ..
 rcases List.mem_cons.mp ho with rfl | ho
 ·exact Z33 ..
 rcases List.mem_cons.mp ho with rfl | ho
 ·exact Z9y _ _ _ _ (by omega)
 ·exact Zdz _ _ o ho
theorem Cl.lsO {σ:List O} (h:Cl σ):Cl (lsO T K mf σ):=by
 rw [Z9z]
 unfold Cl
 rw [List.all_append,List.length_append,Bool.and_eq_true]
 exact ⟨List.all_eq_true.mpr fun o ho=>O.lo_mono (Nat.le_add_right _ _) (List.all_eq_true.mp h o ho),List.all_eq_true.mpr (ZbP _)⟩
theorem ZdB {xs:List V} (h:∀ x ∈ xs,x.nol = true):V.nols xs = true:=by
 induction xs with
 | nil=>rfl
 | cons x xs ih=>
  show (x.nol && V.nols xs) = true
  rw [h x List.mem_cons_self,ih fun y hy=>h y (List.mem_cons_of_mem _ hy)]; rfl
theorem Z3o {xs:List V} (h:∀ x ∈ xs,x.nol = true):O.back (.lst xs) = .lst xs:=if_pos (ZdB h)
theorem ZbQ (o:Option Int):(oV o).nol = true:=by cases o <;> rfl
theorem Z7i (c:Nat):∀ (l:List Nat) (j:Nat),∀ x ∈ dsOf T c j l,x.nol = true
 | [],_,x,hx=>(List.not_mem_nil hx).elim
 | s :: l,j,x,hx=>by
  rcases List.mem_cons.mp hx with rfl | hx
  ·show ((oV _).nol && true) = true
   rw [ZbQ]; rfl
  ·exact Z7i c l (j + 1) x hx
theorem ZeB (σ:List O):LsIn T K mf (σ++(lsE T K mf σ.length).map O.back) (σ.length + 2) 0:=by
 refine ⟨?_,fun i s _ e=>?_⟩
 ·rw [List.getElem?_append_right (by omega),show σ.length + 2 - σ.length = 2 by omega,List.getElem?_map]
  show some (O.back (.lst (dsOf T (σ.length + 3) 0 mf))) = _
  rw [Z3o (Z7i _ _ _)]
 ·rw [List.getElem?_append_right (by omega),show σ.length + 2 + 1 + i - σ.length = i + 3 by omega,List.getElem?_map]
  show ((wlOf T K mf mf)[i]?).map O.back = _
  unfold wlOf
  rw [List.getElem?_map,e]
  show some (O.back (.lst _)) = _
  rw [Z3o fun x hx=>by obtain ⟨w,_,rfl⟩:=List.mem_map.mp hx; exact ZbQ _]; rfl
end
theorem cut1 {α:Type} (xs:List α) (k:Nat):cutL xs (some (k:Int)) none = xs.drop k:=by
 unfold cutL
 show (xs.drop (clipAt xs.length (k:Int))).take (xs.length - clipAt xs.length (k:Int)) = _
 rw [Z52,List.take_of_length_le (by rw [List.length_drop]; omega)]
 rcases Nat.le_total k xs.length with h | h
 ·rw [Nat.min_eq_left h]
 ·rw [Nat.min_eq_right h,List.drop_length,List.drop_eq_nil_of_le h]
theorem Z5W {σ:List O} {n:Nat} {xs:List V} (h:σ[n]? = some (.lst xs)) (k:Nat):Z0k σ (.ref n) (.int (k:Int)) .none = some (.lst (xs.drop k)):=by
 rw [← cut1]
 show (lstO σ[n]?).bind _ = _
 rw [h]; rfl
theorem Z9A (σ:List O) (xs:List V) (k:Nat):Z0k σ (.lst xs) (.int (k:Int)) .none = some (.lst (xs.drop k)):=by rw [← cut1]; rfl
theorem Z5X {d:Nat→Option V}:∀ {xs ys:List V},V.mapRs d xs = some ys→xs.map (fun x=>(V.mapR d x).getD .none) = ys
 | [],ys,h=>Option.some.inj h
 | x :: xs,ys,h=>by
  rw [Z0g] at h
  obtain ⟨y,h1,h2⟩:=Option.bind_eq_some_iff.mp h
  obtain ⟨zs,h3,h4⟩:=Option.bind_eq_some_iff.mp h2
  rw [List.map_cons,h1,Z5X h3]; exact Option.some.inj h4
section
variable {T:List Rw} {K:Nat→Nat} {mf:List Nat}
theorem ZdC (c:Nat):∀ (l:List Nat) (j:Nat) {k s:Nat},l[k]? = some s→(dsOf T c j l)[k]? = some (.tup [oV (told T s),.ref (c + j + k)])
 | [],_,_,_,h=>by cases h
 | x :: l,j,0,s,h=>by cases h; rfl
 | x :: l,j,k + 1,s,h=>by
  rw [Z17,List.getElem?_cons_succ,ZdC c l (j + 1) h,show c + (j + 1) + k = c + j + (k + 1) by omega]
theorem ZeC {c:Nat} {l:List Nat} {x:V} (h:x ∈ dsOf T c 0 l):∃ i s,l[i]? = some s∧x = .tup [oV (told T s),.ref (c + i)]:=by
 obtain ⟨i,hi⟩:=List.mem_iff_getElem?.mp h
 have hl:=(List.getElem?_eq_some_iff.mp hi).1
 rw [Z23] at hl
 have e:=ZdC (T:=T) c l 0 (List.getElem?_eq_getElem hl)
 exact ⟨i,l[i],List.getElem?_eq_getElem hl,Option.some.inj (hi.symm.trans e)⟩
theorem Zbe (F:Fn) (S:List Nat) (x0 x1 x2 x3:Option V) (τ:List O) (h:LsIn T K mf τ 2 0) (hm:mf.length ≤ 64) :
  evE F (.compH Z2N 7 (.sub (.loc 4) (.int 1))) (S8 x0 x1 x2 x3 (some (lsV S 0)) none none none τ) = .ok (.lst ((Gr T K mf).map rowV)) (S8 x0 x1 x2 x3 (some (lsV S 0)) none none none (τ++[.dead])):=by
 have hlt:=(List.getElem?_eq_some_iff.mp h.rows).1
 generalize hd:(fun (n:Nat)=>(lstO τ[n]?).bind fun xs=>dz τ 0 (.lst xs)) = d
 have hmap:V.mapRs d (dsOf T 3 0 mf) = some ((Gr T K mf).map rowV):=by
  have:=h.drop 0
  rw [hd] at this
  exact this
 have hx:∀ x ∈ dsOf T 3 0 mf,∃ o n ws,x = .tup [oV o,.ref n]∧n ≠ 2∧τ[n]? = some (.lst (ws.map wV))∧(V.mapR d x).getD .none = rowV (o,ws):=fun x hx=>by
  obtain ⟨i,s,hi,rfl⟩:=ZeC hx
  have hw:=h.ways i s (Nat.zero_le _) hi
  refine ⟨told T s,3 + i,(grR T K mf s).2,rfl,by omega,hw,?_⟩
  have hdn:d (3 + i) = some (.lst ((grR T K mf s).2.map wV)):=by
   rw [← hd]
   show (lstO τ[3 + i]?).bind _ = _
   rw [hw]
   show dz τ 0 (.lst _) = _
   exact Z37 (by rw [Z0d]; exact Z92 0 _)
  rw [Z3m,Z0g,Z28 _ _ (Z5L 0 _),Option.bind_some,Z0g,Z3n,hdn]; rfl
 obtain ⟨v',e⟩:=Z3Z (F:=F) (elt:=Z2N) (ρ₀:=[x0,x1,x2,x3,some (lsV S 0),none,none,none]) (σ:=τ.set 2 .priv) (k:=7) (fun x=>(V.mapR d x).getD .none) (dsOf T 3 0 mf)
  (fun x q=>by obtain ⟨o,n,ws,_,_,_,e⟩:=hx x q; show V.lo 0 ((V.mapR d x).getD .none) = true; rw [e]; exact Z6p 0 _)
  (fun x q acc _=>by
   obtain ⟨o,n,ws,rfl,hn,hw,e⟩:=hx x q
   have hl:Z0x (τ.set 2 .priv++[O.lst acc]) .list (.ref n) = some (.lst (ws.map wV)):=by
    show (lstO (τ.set 2 .priv++[O.lst acc])[n]?).bind _ = _
    rw [List.getElem?_append_left (by rw [List.length_set]; exact (List.getElem?_eq_some_iff.mp hw).1),List.getElem?_set_ne (Ne.symm hn),hw]; rfl
   show evE F Z2N _ = .ok ((V.mapR d (.tup [oV o,.ref n])).getD .none) _
   rw [e]
   exact atE fun t=>t rfl rfl hl)
  [] none Z0f (by rw [Z23]; exact Nat.le_trans (by show 0 + mf.length ≤ 64; omega) (show 64 ≤ sizeLine by decide))
 rw [Z5X hmap,List.nil_append] at e
 have hlen:(τ.set 2 O.priv).length = τ.length:=List.length_set
 rw [Z5d]
 have h1:((evE F (.sub (.loc 4) (.int 1)) (S8 x0 x1 x2 x3 (some (lsV S 0)) none none none τ)).bind fun x st=>Z7M x st) = .ok (2,dsOf T 3 0 mf) ⟨[x0,x1,x2,x3,some (lsV S 0),none,none,none],τ.set 2 .priv⟩:=by
  show Z7M (.ref 2) ⟨[x0,x1,x2,x3,some (lsV S 0),none,none,none],τ⟩ = _
  unfold Z7M
  rw [Z0j (show (V.ref 2).ref? = some 2 from rfl),Z0j (show lstO τ[2]? = some (dsOf T 3 0 mf) from qlst h.rows)]
 rw [h1,R.bind_ok]
 show (Z1x 7 (τ.set 2 O.priv).length (evE F Z2N) (dsOf T 3 0 mf) ⟨[x0,x1,x2,x3,some (lsV S 0),none,none,none],τ.set 2 .priv++[.lst []]⟩).bind _ = _
 have e':Z1x 7 (τ.set 2 O.priv).length (evE F Z2N) (dsOf T 3 0 mf) ⟨[x0,x1,x2,x3,some (lsV S 0),none,none,none],τ.set 2 .priv++[.lst []]⟩ = .ok () ⟨[x0,x1,x2,x3,some (lsV S 0),none,none,v'],τ.set 2 .priv++[.lst ((Gr T K mf).map rowV)]⟩:=e
 rw [e',R.bind_ok]
 show (Z44 false 7 (τ.set 2 O.priv).length _).bind _ = _
 unfold Z44
 rw [Z0j (qlst (Z0o ..)),if_neg Bool.false_ne_true,Z0K,R.bind_ok]
 have hset:(τ.set 2 O.priv++[O.dead]).set 2 (.lst (dsOf T 3 0 mf)) = τ++[.dead]:=by
  rw [List.set_append_left _ _ (by rw [hlen]; exact hlt),List.set_set]
  congr 1
  obtain ⟨q1,q2⟩:=List.getElem?_eq_some_iff.mp h.rows
  rw [show dsOf T 3 0 mf = dsOf T (2 + 1) 0 mf from rfl,← q2]; exact List.set_getElem_self q1
 show R.ok (V.lst ((Gr T K mf).map rowV)) (Z63 2 (dsOf T 3 0 mf) ⟨[x0,x1,x2,x3,some (lsV S 0),none,none,none],τ.set 2 .priv++[.dead]⟩) = _
 unfold Z63
 rw [hset]; rfl
noncomputable def St7 (x0 x1 x2 x3:Option V) (S:List Nat) (G:List Rw) (x6:Option V) (τ:List O):St:=S8 x0 x1 x2 x3 (some (lsV S 0)) (some (tbV S G)) x6 none τ
theorem Z5Y (G:List Rw) (k:Nat):(V.lst ((G.map rowV).drop k)).flat64 = true:=Z1u (Z1W (n:=2) fun x hx=>by obtain ⟨r,_,rfl⟩:=List.mem_map.mp (List.mem_of_mem_drop hx); exact Z9p r) (by omega)
theorem Z7j (G:List Rw) (k:Nat):(V.lst ((G.map rowV).drop k)).lo 0 = true:=by
 rw [Z0d]
 exact Z1S fun x hx=>by obtain ⟨r,_,rfl⟩:=List.mem_map.mp (List.mem_of_mem_drop hx); exact Z6p 0 r
theorem Zbf (F:Fn) (Kf:Nat) {W:Nat} (hG:TbK (Gr T K mf) W) (hW:W ≤ 40) (hm:mf.length ≤ 64) (S:List Nat) (x0 x1 x2 x3 x6:Option V) (τ:List O) (k:Nat) (hk:k < mf.length) (h:LsIn T K mf τ 2 k) (hc:Cl τ) :
  ∃ τ',evSs F Kf Z50 (St7 x0 x1 x2 x3 S (Gr T K mf) (some (nV k)) τ) = .ok .next (St7 x0 x1 x2 x3 S (Gr T K mf) (some (nV k)) τ')∧LsIn T K mf τ' 2 (k + 1)∧Cl τ':=by
 have hks:=List.getElem?_eq_getElem hk
 generalize mf[k] = s at hks
 have hw:=h.ways k s (Nat.le_refl _) hks
 have hw':τ[3 + k]? = some (.lst ((grR T K mf s).2.map wV)):=hw
 have hlen:((grR T K mf s).2.map wV).length < sizeLine:=by
  rw [List.length_map,hG.len (grR T K mf s) (by rw [ZbN]; exact List.mem_map_of_mem (List.mem_of_getElem? hks))]
  exact Nat.lt_of_le_of_lt hW (by decide)
 generalize hτ:τ.set (3 + k) (.lst ((grR T K mf s).2.map wV++[.none])) = τ'
 have hL:LsIn T K mf τ' 2 (k + 1):=by
  rw [← hτ]
  refine ⟨by rw [List.getElem?_set_ne (by omega)]; exact h.rows,fun i s hi e=>?_⟩
  rw [List.getElem?_set_ne (by omega)]
  exact h.ways i s (by omega) e
 have hC:Cl τ':=by
  rw [← hτ]
  exact hc.set _ (Z51 (Z92 _ _) (by rw [Z02,Z0f]; rfl))
 have s1:Z0h τ (.ref 2) (.int (k:Int)) = some (.tup [oV (told T s),.ref (3 + k)]):=by
  rw [Z2S h.rows,Z0J _ (by omega),ZdC 3 mf 0 hks]
 have ha:∀ ρ,Z0S .append (.ref (3 + k)) .none ⟨ρ,τ⟩ = .ok .none ⟨ρ,τ'⟩:=fun ρ=>by rw [Z09 ρ _ _ _ _ hw' hlen,hτ]
 have p1:Z0k τ' (.ref 2) (.int ((k:Int) + 1)) .none = some (.lst ((dsOf T 3 0 mf).drop (k + 1))):=Z5W hL.rows (k + 1)
 have p2:Z0k τ' (.lst ((Gr T K mf).map rowV)) (.int ((k:Int) + 1)) .none = some (.lst (((Gr T K mf).map rowV).drop (k + 1))):=Z9A τ' _ (k + 1)
 have hne:Z0r τ' .ne (.lst ((dsOf T 3 0 mf).drop (k + 1))) (.lst (((Gr T K mf).map rowV).drop (k + 1))) = some false:=by
  have hd:dz τ' 2 (.lst ((dsOf T 3 0 mf).drop (k + 1))) = some (.lst (((Gr T K mf).map rowV).drop (k + 1))):=by
   show V.mapR _ _ = _
   rw [Z7h,show V.mapRs _ ((dsOf T 3 0 mf).drop (k + 1)) = _ from hL.drop 1]; rfl
  show (Z2t _ _ _).map not = _
  rw [eqS hd (Z37 (Z7j _ _)) (Z5Y _ _) (Z5Y _ _),V.eqb_refl _ (Z7j _ _)]; rfl
 exact ⟨τ',atS fun t=>t rfl s1 rfl (Z0b _ _ _ hw') (ha _) rfl p1 (tb_1 _ S _) p2 hne rfl,hL,hC⟩
theorem Zbg (F:Fn) (Kf:Nat) {W:Nat} (hG:TbK (Gr T K mf) W) (hW:W ≤ 40) (hm:mf.length ≤ 64) (S:List Nat) (x0 x1 x2 x3:Option V) (τ:List O) (h:LsIn T K mf τ 2 0) (hc:Cl τ) :
  ∃ x6 τ',forR (fun x st=>evSs F Kf Z50 (setV st 6 x)) (upTo 0 (mf.length:Int)) (St7 x0 x1 x2 x3 S (Gr T K mf) none τ) = .ok .next (St7 x0 x1 x2 x3 S (Gr T K mf) x6 τ')∧τ'[2]? = some (.lst (dsOf T 3 0 mf))∧Cl τ':=by
 obtain ⟨st,e,x6,τ',rfl,h1,h2⟩:=Z2k (step:=fun x st=>evSs F Kf Z50 (setV st 6 x)) (fun i st=>∃ y6 τ',st = St7 x0 x1 x2 x3 S (Gr T K mf) y6 τ'∧LsIn T K mf τ' 2 i∧Cl τ') (upTo 0 (mf.length:Int)) 0 (St7 x0 x1 x2 x3 S (Gr T K mf) none τ) (by
  rintro i x st hx ⟨y6,τ',rfl,h1,h2⟩
  rw [Nat.zero_add] at *
  obtain ⟨rfl,hi⟩:=Z53 hx
  obtain ⟨τ'',e,h3,h4⟩:=Zbf F Kf hG hW hm S x0 x1 x2 x3 y6 τ' i hi h1 h2
  exact ⟨_,e,_,τ'',rfl,h3,h4⟩) ⟨none,τ,rfl,h,hc⟩
 exact ⟨x6,τ',e,h1.rows,h2⟩
end
structure LawF (F:Fn) (is:List Int) (c:Int) (L:List Nat) (z:Nat) (S:List Nat) (T:List Rw) (K J:Nat→Nat) (mf mg:List Nat) (B:List Bool):Prop where
 cell:F "_law_cell_at" [scV is,.int 0] [] = .ok (.int c) ⟨[],[]⟩
 letters:F "_law_letters" [.int c] [] = .ok (.lst (Z0G L z)) ⟨[],[]⟩
 table:F "_law_table_by" [scV is,.lst (Z0G L z),.int 4] [] = .ok (tbV S T) ⟨[],[]⟩
 least:∀ σ,Cl σ→F "least" [tbV S T] σ = .ok (lsV S σ.length) ⟨[],lsO T K mf σ⟩
 again:∀ σ,Cl σ→F "least" [tbV S (Gr T K mf)] σ = .ok (lsV S σ.length) ⟨[],lsO (Gr T K mf) J mg σ⟩
 form:∀ σ,Cl σ→F "_law_table_form" [tbV S (Gr T K mf)] σ = .ok (.bool true) ⟨[],σ⟩
 leads:∀ σ,Cl σ→F "_law_leads_alike" [tbV S T,tbV S (Gr T K mf)] σ = .ok (.bool true) ⟨[],σ⟩
 order:∀ σ,Cl σ→F "_law_numbered" [tbV S (Gr T K mf)] σ = .ok (.bool true) ⟨[],σ⟩
 busy:∀ σ,F "_law_busy" [tbV S (Gr T K mf)] σ = .ok (.ref σ.length) ⟨[],BS σ B⟩
 classes:∀ σ,∃ c ε,F "_law_classes" [tbV S (Gr T K mf)] σ = .ok (.ref c) ⟨[],σ++ε⟩∧(σ++ε)[c]? = some (.lst ((List.range mf.length).map nV))∧σ.length ≤ c∧Lw ε
theorem Z7C {n:Nat} (h:n ≤ 64):Z3p (.int (n:Int)) = some (.lst ((List.range n).map nV)):=by
 have hz:n ≤ sizeLine:=Nat.le_trans h (by decide)
 have hu:upTo 0 (n:Int) = (List.range n).map nV:=by
  have:=Z3i n (fun v=>v)
  rw [List.map_id'] at this
  exact this
 unfold Z3p
 rw [show (V.int (n:Int)).int? = some (n:Int) from rfl,Option.bind_some,if_pos ⟨Z0B (by omega),by rw [Int.toNat_natCast]; exact hz⟩,hu]
theorem Z7k (l:List Nat):(V.lst (l.map nV)).flat64 = true:=Z1u (Z1W (n:=0) fun x hx=>by obtain ⟨v,_,rfl⟩:=List.mem_map.mp hx; exact Z5T v) (by omega)
theorem Zbh (σ:List O) (B:List Bool) (h:∀ b ∈ B,b = true):inD σ (.bool false) (.lst (B.map .bool)) = some false:=by
 have hlo:(V.lst (B.map .bool)).lo 0 = true:=by rw [Z0d]; exact Z1S fun x hx=>by obtain ⟨b,_,rfl⟩:=List.mem_map.mp hx; exact Z0v _
 have hfl:(V.lst (B.map .bool)).flat64 = true:=Z1u (Z1W (n:=0) fun x hx=>by obtain ⟨b,_,rfl⟩:=List.mem_map.mp hx; exact ⟨0,rfl,Nat.le_refl _⟩) (by omega)
 show inLs σ (.bool false) (.lst (B.map .bool)) = _
 unfold inLs
 rw [Z37 (show (V.bool false).lo 0 = true from rfl),Option.bind_some,Z37 hlo,Option.bind_some,hfl]
 show some ((B.map V.bool).any fun z=>V.eqb z (.bool false)) = _
 congr 1
 rw [List.any_eq_false]
 intro x hx
 obtain ⟨b,hb,rfl⟩:=List.mem_map.mp hx
 rw [h b hb]
 exact Bool.false_ne_true
theorem ZeD (σ:List O) (S:List Nat) (T:List Rw):Z2t σ (tbV S T) (tbV S T) = some true:=by
 have lo:=Z76 0 S T
 have fl:=Z1u (ZbK S T) (by omega)
 rw [eqS (Z37 lo) (Z37 lo) fl fl,V.eqb_refl _ lo]
section
variable {F:Fn} {is:List Int} {c:Int} {L:List Nat} {z:Nat} {S:List Nat} {T:List Rw} {K J:Nat→Nat} {mf mg:List Nat} {B:List Bool}
theorem ZdD (Kf:Nat) {W:Nat} (hF:LawF F is c L z S T K J mf mg B) (hG:TbK (Gr T K mf) W) (hW:W ≤ 40) (hm:mf.length ≤ 64) (hB:∀ b ∈ B.drop 1,b = true) (hg:Gr (Gr T K mf) J mg = Gr T K mf):Z0m F Kf Zd7 [scV is] [] = .ok (.bool true) ⟨[],[]⟩:=by
 have C0:Cl []:=rfl
 generalize hτ1:lsO T K mf [] = τ1
 have I1:LsIn T K mf τ1 2 0:=hτ1 ▸ ZbO []
 have C1:Cl τ1:=hτ1 ▸ C0.lsO
 have f4:F "least" [tbV S T] [] = .ok (lsV S 0) ⟨[],τ1⟩:=hτ1 ▸ hF.least [] C0
 have lo:=Z76 0 S (Gr T K mf)
 have fl:=Z1u (ZbK S (Gr T K mf)) (by omega)
 have ne1:Z0r τ1 .ne (tbV S T) (tbV S T) = some false:=by show (Z2t _ _ _).map not = _; rw [ZeD]; rfl
 have f_form:Z36 F "_law_table_form" [lsV S 0] τ1 = .ok (.bool true) ⟨[],τ1⟩:=Z9w (I1.args1 S) (hF.form _ (Cl.kill _)) rfl
 generalize hτ2:τ1++(lsE (Gr T K mf) J mg τ1.length).map O.back = τ2
 have Z6t:Z36 F "least" [lsV S 0] τ1 = .ok (lsV S τ1.length) ⟨[],τ2⟩:=by
  have q:=hF.again (τ1.map O.kill) (Cl.kill _)
  rw [Z9z,List.length_map] at q
  rw [← hτ2]
  exact Z3l (I1.args1 S) q rfl
 have I2:LsIn T K mf τ2 2 0:=hτ2 ▸ I1.app _
 have I2':LsIn (Gr T K mf) J mg τ2 (τ1.length + 2) 0:=hτ2 ▸ ZeB τ1
 have C2:Cl τ2:=hτ2 ▸ C1.back fun o ho=>Z9o (ZbP _ o ho)
 have ne2:Z0r τ2 .ne (lsV S τ1.length) (lsV S 0) = some false:=by
  have d1:=I2'.tab S
  rw [hg] at d1
  show (Z2t _ _ _).map not = _
  rw [eqS d1 (I2.tab (b:=0) S) fl fl,V.eqb_refl _ lo]; rfl
 have nes:(!(S == S)) = false:=by rw [beq_self_eq_true]; rfl
 have Z6u:Z36 F "_law_leads_alike" [tbV S T,lsV S 0] τ2 = .ok (.bool true) ⟨[],τ2⟩:=Z9w (I2.args2 S T) (hF.leads _ (Cl.kill _)) rfl
 have f_num:Z36 F "_law_numbered" [lsV S 0] τ2 = .ok (.bool true) ⟨[],τ2⟩:=Z9w (I2.args1 S) (hF.order _ (Cl.kill _)) rfl
 generalize hτ3:τ2++[O.lst (B.map .bool)] = τ3
 have Z9D:Z36 F "_law_busy" [lsV S 0] τ2 = .ok (.ref τ2.length) ⟨[],τ3⟩:=by
  have q:=hF.busy (τ2.map O.kill)
  rw [List.length_map] at q
  have:=Z3l (F:=F) (f:="_law_busy") (I2.args1 (b:=0) S) (ε:=[.lst (B.map .bool)]) q rfl
  rw [← hτ3]
  rw [show ([O.lst (B.map .bool)]:List O).map O.back = [O.lst (B.map .bool)] by
   rw [List.map_singleton,Z3o fun x hx=>by obtain ⟨b,_,rfl⟩:=List.mem_map.mp hx; rfl]] at this
  exact this
 have I3:LsIn T K mf τ3 2 0:=hτ3 ▸ I2.app _
 have C3:Cl τ3:=hτ3 ▸ C2.snoc (Z1S fun x hx=>by obtain ⟨b,_,rfl⟩:=List.mem_map.mp hx; exact Z0v _)
 have sl:Z0k τ3 (.ref τ2.length) (.int 1) .none = some (.lst ((B.drop 1).map .bool)):=by
  have:=Z5W (σ:=τ3) (n:=τ2.length) (xs:=B.map .bool) (by rw [← hτ3]; exact Z0o ..) 1
  rw [List.map_drop]
  exact this
 have hin:=Zbh τ3 (B.drop 1) hB
 obtain ⟨c',ε,q,hc,hle,hlw⟩:=hF.classes (τ3.map O.kill)
 rw [List.length_map] at hle
 generalize hτ4:τ3++ε.map O.back = τ4
 have f_cls:Z36 F "_law_classes" [lsV S 0] τ3 = .ok (.ref c') ⟨[],τ4⟩:=by rw [← hτ4]; exact Z3l (I3.args1 S) q rfl
 have I4:LsIn T K mf τ4 2 0:=hτ4 ▸ I3.app _
 have C4:Cl τ4:=hτ4 ▸ C3.back fun o ho=>O.lo_mono (Nat.zero_le _) (hlw o ho)
 have hc4:τ4[c']? = some (.lst ((List.range mf.length).map nV)):=by
  rw [List.getElem?_append_right (by rw [List.length_map]; exact hle),List.length_map] at hc
  rw [← hτ4,List.getElem?_append_right hle,List.getElem?_map,hc]
  exact congrArg some (Z3o fun x hx=>by obtain ⟨v,_,rfl⟩:=List.mem_map.mp hx; rfl)
 have hlen:Z0x τ4 .len (.ref 2) = some (.int (mf.length:Int)):=by rw [Z2T _ _ _ I4.rows,Z23]
 have hlr:=Z7C hm
 have nvlo:(V.lst ((List.range mf.length).map nV)).lo 0 = true:=by rw [Z0d]; exact Z33 _ _
 have ne4:Z0r τ4 .ne (.ref c') (.lst ((List.range mf.length).map nV)) = some false:=by
  show (Z2t _ _ _).map not = _
  rw [eqS (Z9q hc4 (Z33 _ _)) (Z37 nvlo) (Z7k _) (Z7k _),V.eqb_refl _ nvlo]; rfl
 have f_due:=Zbe F S (some (scV is)) (some (.lst (Z0G L z))) (some (tbV S T)) (some (tbV S T)) τ4 I4 hm
 have I5:LsIn T K mf (τ4++[.dead]) 2 0:=I4.app _
 obtain ⟨x6,τ6,e6,h6,C6⟩:=Zbg F Kf hG hW hm S (some (scV is)) (some (.lst (Z0G L z))) (some (tbV S T)) (some (tbV S T)) (τ4++[.dead]) I5 C4.dead
 have hlen5:∀ τ:List O,Z0x τ .len (.lst ((Gr T K mf).map rowV)) = some (.int (mf.length:Int)):=fun τ=>by rw [Z5f,List.length_map,Z08]
 generalize hτ7:τ6.set 2 (.lst (dsOf T 3 0 mf++[.none])) = τ7
 have ha:∀ ρ,Z0S .append (.ref 2) .none ⟨ρ,τ6⟩ = .ok .none ⟨ρ,τ7⟩:=fun ρ=>by rw [Z09 ρ _ _ _ _ h6 (by rw [Z23]; exact Nat.lt_of_le_of_lt hm (by decide)),hτ7]
 have C7:Cl τ7:=by
  rw [← hτ7]
  have:=List.all_eq_true.mp C6 _ (List.mem_of_getElem? h6)
  exact C6.set _ (Z51 this (by rw [Z02,Z0f]; rfl))
 have f_l7:=hF.least τ7 C7
 have I8:LsIn T K mf (lsO T K mf τ7) (τ7.length + 2) 0:=ZbO τ7
 have eq8:Z0r (lsO T K mf τ7) .eq (lsV S τ7.length) (tbV S (Gr T K mf)) = some true:=by
  show Z2t _ _ _ = _
  rw [eqS (I8.tab S) (Z37 lo) fl fl,V.eqb_refl _ lo]
 have eq9:Z0r (lsO T K mf τ7) .eq (tbV S T) (tbV S T) = some true:=ZeD _ S T
 refine Z1A rfl ?_ (Z0v _) C0
 show Ret (evSs F Kf ZbE (S8 (some (scV is)) none none none none none none none [])) _ _
 refine Ret.mk (σ:=[]) (τ:=lsO T K mf τ7) (ρ:=[some (scV is),some (.lst (Z0G L z)),some (tbV S T),some (tbV S T),some (lsV S 0),some (tbV S (Gr T K mf)),x6,none]) ?_
 exact atS fun t=>t hF.cell hF.letters rfl hF.table rfl hF.table rfl f4 rfl ne1 rfl f_form rfl rfl (tb_0 _ S T) nes Z6t ne2 rfl Z6u rfl f_num rfl Z9D sl hin rfl f_cls rfl hlen hlr ne4 rfl rfl f_due rfl (tb_1 _ S _) (hlen5 _) rfl (Z0B (by omega)) e6 rfl (Z0b _ _ _ h6) (ha _) f_l7 eq8 rfl eq9 rfl
end
theorem Z4v:defs.find? (fun d=>d.name == Str.ofString "numbered") = some Z2I:=by kernel_rfl
theorem Z7D:defs.find? (fun d=>d.name == Str.ofString "kinds_of") = some Z2J:=by kernel_rfl
theorem Z6t:defs.find? (fun d=>d.name == Str.ofString "least") = some Z6l:=by kernel_rfl
theorem Z5Z:defs.find? (fun d=>d.name == Str.ofString "_law_cell_at") = some Z2K:=by kernel_rfl
theorem ZdE:defs.find? (fun d=>d.name == Str.ofString "_law_whole") = some Z4Z:=by kernel_rfl
theorem Z9B:defs.find? (fun d=>d.name == Str.ofString "_law_sign_by") = some Z2L:=by kernel_rfl
theorem Z9C:defs.find? (fun d=>d.name == Str.ofString "_law_letters") = some Z1Z:=by kernel_rfl
theorem Z60:defs.find? (fun d=>d.name == Str.ofString "_law_table_form") = some Z1s:=by kernel_rfl
theorem Z7E:defs.find? (fun d=>d.name == Str.ofString "_law_table_by") = some Z2g:=by kernel_rfl
theorem Z9D:defs.find? (fun d=>d.name == Str.ofString "_law_busy") = some Z6m:=by kernel_rfl
theorem Z61:defs.find? (fun d=>d.name == Str.ofString "_law_numbers") = some Z2M:=by kernel_rfl
theorem Z9E:defs.find? (fun d=>d.name == Str.ofString "_law_classes") = some Z20:=by kernel_rfl
theorem ZdF:defs.find? (fun d=>d.name == Str.ofString "_law_numbered") = some Z2h:=by kernel_rfl
theorem Z6u:defs.find? (fun d=>d.name == Str.ofString "_law_leads_alike") = some Z1g:=by kernel_rfl
theorem ZeR:defs.find? (fun d=>d.name == Str.ofString "law") = some Zd7:=by kernel_rfl
theorem Z0e {K n:Nat} {f:Str} {d:Def} (h:defs.find? (fun d=>d.name == f) = some d) (args:List V) (σ:List O):Z1w defs K (n + 1) f args σ = Z0m (Z1w defs K n) K d args σ:=by
 rw [Z6z,h]; rfl
theorem numF (K n:Nat):NumF (Z1w defs K (n + 1)) where
 one:=fun l τ hl hτ=>by
  rw [Z0e Z4v]
  exact Z34 kf1 Z9a true (fun _=>rfl) _ K l hl τ hτ
 two:=fun l τ hl hτ=>by
  rw [Z0e Z4v]
  exact Z34 kf2 Zdi false (fun _=>rfl) _ K l hl τ hτ
theorem ZeS (K n:Nat):NumbF (Z1w defs K (n + 1)) where
 one:=fun l τ hl=>by
  rw [Z0e Z61]
  exact Z7e kf1 Z9a true (fun _=>rfl) _ K l hl τ
 two:=fun l τ hl=>by
  rw [Z0e Z61]
  exact Z7e kf3 Zdq false (fun _=>rfl) _ K l hl τ
section
variable {T:List Rw} {W:Nat} (h0:TbK T W) (hT:T.length ≤ 64) (hW:W ≤ 40)
include h0 hT hW
theorem Z9F {K:Nat→Nat} {mf:List Nat} (S:List Nat) (h:Lst T K mf) (f:FinN T W (T.length + 2) (Z30 T) K) (n:Nat) (σ:List O) (hσ:Cl σ):Z1w defs 200 (n + 3) "least" [tbV S T] σ = .ok (lsV S σ.length) ⟨[],lsO T K mf σ⟩:=by
 rw [Z0e Z6t]
 refine Z9i _ 200 h0 hT hW S h (by omega) σ hσ ?_
 rw [Z0e Z7D]
 exact Z9f _ 200 h0 hT hW (numF 200 n) f (by omega) σ hσ
theorem ZbR {K:Nat→Nat} (S:List Nat) (k0:Kin T W K) (n:Nat) (σ:List O):Z1w defs 200 (n + 1) "_law_busy" [tbV S T] σ = .ok (.ref σ.length) ⟨[],BS σ (Z0O T K)⟩:=by
 rw [Z0e Z9D]
 exact Zb4 _ 200 h0 hT hW S σ k0 (by omega)
end
theorem law_pure (is:List Int) (hlen:is.length ≤ 63):∃ K n st,n ≤ 400∧Z1w defs K n "law" [.lst (is.map .int)] [] = .ok (.bool true) st:=by
 have C0:Cl []:=rfl
 obtain ⟨L,z,hL,hlet⟩:=Z6o (Z1w defs 200 3) 200 (is.getD 0 0)
 obtain ⟨S,T,ok,htb⟩:=Z96 (Z1w defs 200 3) 200 is hL [] C0 fun k hk=>by rw [Z0e Z5Z]; exact Z41 _ _ is k hk [] C0
 have h0:TbK T S.length:=⟨ok.t1,ok.len,ok.lt⟩
 obtain ⟨K,fK,k0⟩:=finN h0 (T.length + 1) (K:=Z30 T) Pre.start (by omega)
 obtain ⟨mf,hL2⟩:=Zee h0 K
 have hG:=hL2.tok h0
 have hGl:(Gr T K mf).length = mf.length:=Z08 ..
 have hle:=hL2.ok.le
 have ht:=ok.t64
 have hs:=ok.s40
 have hm:mf.length ≤ 64:=by omega
 have hG64:(Gr T K mf).length ≤ 64:=by omega
 obtain ⟨J,fJ,kj⟩:=finN hG ((Gr T K mf).length + 1) (K:=Z30 (Gr T K mf)) Pre.start (by omega)
 obtain ⟨hA,hg⟩:=Z6i h0 k0 hL2 kj
 obtain ⟨C',fC,hC⟩:=Z6k h0 k0 hL2
 have told:∀ r ∈ Gr T K mf,∀ i,r.1 = some i→0 ≤ i:=fun r hr i e=>by
  obtain ⟨s,hs,rfl⟩:=List.mem_map.mp hr
  have hlt:=hL2.ok.lt s hs
  refine ok.told T[s] (List.getElem_mem hlt) i ?_
  rw [← e]
  show T[s].1 = Mine.told T s
  unfold Mine.told
  rw [List.getElem?_eq_getElem hlt]; rfl
 have hB:∀ b ∈ (Z0O (Gr T K mf) J).drop 1,b = true:=fun b hb=>by
  obtain ⟨i,hi⟩:=List.mem_iff_getElem?.mp hb
  rw [List.getElem?_drop] at hi
  unfold Z0O at hi
  rw [List.getElem?_map] at hi
  obtain ⟨j,hj,e⟩:=Option.map_eq_some_iff.mp hi
  have hlt:=(List.getElem?_eq_some_iff.mp hj).1
  rw [List.length_range] at hlt
  rw [List.getElem?_range hlt] at hj
  obtain rfl:=Option.some.inj hj
  rw [← e]
  exact decide_eq_true (ZaN h0 k0 hL2 kj (1 + i) (by omega) (by omega))
 refine ⟨200,5,⟨[],[]⟩,by omega,?_⟩
 rw [Z0e ZeR]
 have hF:LawF (Z1w defs 200 4) is (is.getD 0 0) L z S T K J mf (List.range mf.length) (Z0O (Gr T K mf) J):={
  cell:=by rw [Z0e Z5Z]; exact Z41 _ _ is 0 (by omega) [] C0
  letters:=by
   rw [Z0e Z9C]
   exact hlet [] C0 fun i τ hτ=>by rw [Z0e Z9B]; exact Z6n _ _ i τ hτ
  table:=by rw [Z0e Z7E]; exact htb
  least:=fun σ hσ=>Z9F h0 ht hs S hL2 fK 1 σ hσ
  again:=fun σ hσ=>Z9F hG hG64 hs S hA fJ 1 σ hσ
  form:=fun σ hσ=>by
   rw [Z0e Z60]
   exact Zbd _ _ S hG hG64 hs σ (fun i=>by rw [Z0e ZdE]; exact Z9s _ _ i σ hσ) told hσ
  leads:=fun σ hσ=>by
   rw [Z0e Z6u]
   exact Z9u _ _ h0 ht hs hL2 k0 S σ (by omega) hσ (ZbR h0 ht hs S k0 2 σ)
  order:=fun σ hσ=>by
   rw [Z0e ZdF]
   exact Zdv _ _ hG hG64 hs S σ (by rw [hGl]; exact ZaL h0 hL2) (by omega) hσ
  busy:=fun σ=>ZbR hG hG64 hs S kj 3 σ
  classes:=fun σ=>by
   obtain ⟨c,ε,e,h1,h2,h3⟩:=Zdt (Z1w defs 200 3) 200 hG hG64 hs S (ZeS 200 2) fC (by omega) σ
   rw [hC] at h1
   exact ⟨c,ε,by rw [Z0e Z9E]; exact e,h1,h2,h3⟩ }
 exact ZdD 200 hF hG hs hm hB hg
end Mine
open PySem PySem.W PyProof.Rows
namespace Mine
noncomputable def qv:Program:=view PySem.Challenge.pw_uf030006_09 [1,2,3,5,6,7,8,9,10,11,12,13,14,15,16]
theorem Zbi (w:World) (os:OsState):(Z2b (PySem.W.Fast.tw6613529449190102663 (boot_heap w.params).objs.size ((boot_heap w.params).nsMap mainGlobals "__annotations__")) (PySem.W.Fast.tw10156331382660048174 (PySem.W.Fast.tw11892475500146522536 treeTable) PySem.Challenge.pw_uf030006_09 w) 1080 (ZaD w.params os) (topStub PySem.Challenge.pw_uf030006_09)).map (fun s=>
   (staticsOk (importedModules PySem.Challenge.pw_uf030006_09.main.body) (boot_heap w.params) s.abs.heap && namesBound PySem.Challenge.pw_uf030006_09 s.abs.heap && gensDone s.abs && laidKept (boot_heap w.params) s.abs.heap,openSeen qv [] (importedModules PySem.Challenge.pw_uf030006_09.main.body) (fun s=>xlAt qv [] s && recOk (RowW.records PySem.Challenge.rw_uf030006_09.row.toRowW) s) true s.abs,Hook.obs Hook.none s.abs)) = some (true,openGood qv [],Hook.val Hook.none w):=by kernel_rfl
theorem left_qv:LeftO PySem.Challenge.pw_uf030006_09 qv [] (fun s=>xlAt qv [] s && recOk (RowW.records PySem.Challenge.rw_uf030006_09.row.toRowW) s) (Hook.obs Hook.none) (Hook.val Hook.none) 1080 :=
 Z8N (by rfl) (by rfl) (fun _=>rfl) fun w os=>by rw [Z8O]; exact Zbi w os
theorem ok_qv:ZcV qv defs = true:=by decide +kernel
theorem eq_qv:eqOk qv defs:=by unfold eqOk; kernel_rfl
end Mine
theorem PySem.Challenge.cw_uf030006_09_holds : PySem.Challenge.rw_uf030006_09.Holds := by
  w_on
  refine holds_law (by decide +kernel) fun said => ?_
  refine holds_open (q := Mine.qv) (loose := []) (Xt := fun s => xlAt Mine.qv [] s && recOk (RowW.records PySem.Challenge.rw_uf030006_09.row.toRowW) s) (XP := XL Mine.qv []) (Yf := Hook.obs Hook.none) (Ya := Hook.val Hook.none) (YP := Hook.says Hook.none) (N := 1080) Mine.left_qv (Hook.of Hook.none) (Hook.keeps Hook.none) (fun s e => xl_of s (Bool.and_eq_true_iff.mp e).1) XL.keeps (by rfl) (by rfl) (by rfl) (fun s e => recFacts_of (Bool.and_eq_true_iff.mp e).2) (by rfl) (by first | assumption | decide +kernel) (by decide +kernel) ⟨rfl, rfl, rfl, rfl, rfl, by decide +kernel⟩ ?hw ?hc
  (case hw => w_witness2)
  exact Mine.law_walk Mine.defs Mine.ok_qv Mine.eq_qv rfl rfl Mine.law_pure
