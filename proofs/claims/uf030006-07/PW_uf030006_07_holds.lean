import PyProof.Rows.All
import PyProof.DictRoadsH
import PyProof.TupleKey
import PyProof.P3Eq
import PyProof.FactsAll.NoneType
import PyProof.Rows.TupTab
import PyProof.Rows.Many
import PyProof.Walks
import PyProof.WalksMore
import PyProof.Cells
import PyProof.Claim2
import PyProof.SliceMore
import PyProof.DictStraight
import PyProof.NsCount
import PyProof.ToksMono
import PyProof.PureInt
import PyProof.Rows.RuleB_floordiv
import PyProof.Rows.RuleB_pow
import PyProof.Rows.IntRules
import PyProof.Rows.StrRules
import PyProof.StrOps
import PyProof.Rows.Tup
import PyProof.ListIndexNeg
import PyProof.IsiPairs
import PyProof.IsiHeapPairs
import PyProof.IsiNone
import PyProof.Conv_int_bool
import PyProof.Truth
import PyProof.ListTruth
import PyProof.Rows.TupMore
import PyProof.Rows.StrFirst
import PyProof.StrCalls
import PyProof.StrCalls2
import PyProof.StrCalls3
import PyProof.Rows.StrJoin2
import PyProof.SliceStr2
import PyProof.SliceList
import PyProof.Rows.StrTemp
import PyProof.Rows.RuleC_int
import PyProof.NeData
import PyProof.Rows.SeqIn
import PyProof.Rows.StrInSeq3
import PyProof.Rows.TupSub
import PyProof.StrLawsFirst
import PyProof.DictRoads
import PyProof.TupleOfSeq
import KE.KDictSum
import PyProof.WalkInts
import PyProof.SeqI3
import PyProof.StrOps2
import PyProof.ListCopy
import PyProof.Rows.SeqMore
import PyProof.Conv_int
import PyProof.IsInstanceH
import PyProof.ListStr
import PyProof.ListMulAny
import PyProof.Rows.ListMulArg
import PyProof.DefCall
import PyProof.StrBlock
import PyProof.PvWalk
import PyProof.Rows.Exc
import PyProof.Boot
import PyProof.Rows.Nodes
import PyProof.Rows.PlainObj
import PyProof.StrWalks
import PyProof.RangeFor
import PyProof.Rows.GenSrcRange
import PyProof.ForAny
import PyProof.CompFree
import PyProof.Rows.TupAssign
import PyProof.WalksEnum
import PyProof.EnumMake
import PyProof.ListIndex
import PyProof.Rows.PlainNoArg
import PyProof.Rows.AttrNodeAny
import PyProof.DictWalks
import PyProof.ZipIter
import KE.KMinKey
import PyProof.Rows.CallKw2
import PyProof.Rows.SetFrom
import OpenK.KLine
import PyProof.TableCode
import Wide.All
import OpenK.AllK
import Wide.FinOn
import PySem.Challenge.RW_uf030006_07
set_option Elab.async false
set_option linter.all false
set_option autoImplicit false
set_option genSizeOfSpec false
set_option genSizeOf false
set_option genInjectivity false
set_option bootstrap.genMatcherCode false
set_option maxRecDepth 100000
set_option maxHeartbeats 8000000
namespace El
universe u1 u2 u3 u4 u5 u6 u7 u8 u9 u10
theorem x0_2  {P1 P2:Prop} {G:Prop} (h:P1∧P2) (k:P1→P2→G):G:=k h.1 h.2
theorem x0_3  {P1 P2 P3:Prop} {G:Prop} (h:P1∧P2∧P3) (k:P1→P2→P3→G):G:=k h.1 h.2.1 h.2.2
theorem x1_1 {α1:Sort u1} {P1:α1→Prop} {G:Prop} (h:∃ a1,P1 a1) (k:∀ a1,P1 a1→G):G:=h.elim fun a1 h=>k a1 h
theorem x1_2 {α1:Sort u1} {P1 P2:α1→Prop} {G:Prop} (h:∃ a1,P1 a1∧P2 a1) (k:∀ a1,P1 a1→P2 a1→G):G:=h.elim fun a1 h=>k a1 h.1 h.2
theorem x1_3 {α1:Sort u1} {P1 P2 P3:α1→Prop} {G:Prop} (h:∃ a1,P1 a1∧P2 a1∧P3 a1) (k:∀ a1,P1 a1→P2 a1→P3 a1→G):G:=h.elim fun a1 h=>k a1 h.1 h.2.1 h.2.2
theorem x1_4 {α1:Sort u1} {P1 P2 P3 P4:α1→Prop} {G:Prop} (h:∃ a1,P1 a1∧P2 a1∧P3 a1∧P4 a1) (k:∀ a1,P1 a1→P2 a1→P3 a1→P4 a1→G):G:=h.elim fun a1 h=>k a1 h.1 h.2.1 h.2.2.1 h.2.2.2
theorem x1_5 {α1:Sort u1} {P1 P2 P3 P4 P5:α1→Prop} {G:Prop} (h:∃ a1,P1 a1∧P2 a1∧P3 a1∧P4 a1∧P5 a1) (k:∀ a1,P1 a1→P2 a1→P3 a1→P4 a1→P5 a1→G):G:=h.elim fun a1 h=>k a1 h.1 h.2.1 h.2.2.1 h.2.2.2.1 h.2.2.2.2
theorem x2_1 {α1:Sort u1} {α2:Sort u2} {P1:α1→α2→Prop} {G:Prop} (h:∃ a1 a2,P1 a1 a2) (k:∀ a1 a2,P1 a1 a2→G):G:=h.elim fun a1 h=>h.elim fun a2 h=>k a1 a2 h
theorem x2_2 {α1:Sort u1} {α2:Sort u2} {P1 P2:α1→α2→Prop} {G:Prop} (h:∃ a1 a2,P1 a1 a2∧P2 a1 a2) (k:∀ a1 a2,P1 a1 a2→P2 a1 a2→G):G:=h.elim fun a1 h=>h.elim fun a2 h=>k a1 a2 h.1 h.2
theorem x2_3 {α1:Sort u1} {α2:Sort u2} {P1 P2 P3:α1→α2→Prop} {G:Prop} (h:∃ a1 a2,P1 a1 a2∧P2 a1 a2∧P3 a1 a2) (k:∀ a1 a2,P1 a1 a2→P2 a1 a2→P3 a1 a2→G):G:=h.elim fun a1 h=>h.elim fun a2 h=>k a1 a2 h.1 h.2.1 h.2.2
theorem x2_4 {α1:Sort u1} {α2:Sort u2} {P1 P2 P3 P4:α1→α2→Prop} {G:Prop} (h:∃ a1 a2,P1 a1 a2∧P2 a1 a2∧P3 a1 a2∧P4 a1 a2) (k:∀ a1 a2,P1 a1 a2→P2 a1 a2→P3 a1 a2→P4 a1 a2→G):G:=h.elim fun a1 h=>h.elim fun a2 h=>k a1 a2 h.1 h.2.1 h.2.2.1 h.2.2.2
theorem x2_5 {α1:Sort u1} {α2:Sort u2} {P1 P2 P3 P4 P5:α1→α2→Prop} {G:Prop} (h:∃ a1 a2,P1 a1 a2∧P2 a1 a2∧P3 a1 a2∧P4 a1 a2∧P5 a1 a2) (k:∀ a1 a2,P1 a1 a2→P2 a1 a2→P3 a1 a2→P4 a1 a2→P5 a1 a2→G):G:=h.elim fun a1 h=>h.elim fun a2 h=>k a1 a2 h.1 h.2.1 h.2.2.1 h.2.2.2.1 h.2.2.2.2
theorem x2_7 {α1:Sort u1} {α2:Sort u2} {P1 P2 P3 P4 P5 P6 P7:α1→α2→Prop} {G:Prop} (h:∃ a1 a2,P1 a1 a2∧P2 a1 a2∧P3 a1 a2∧P4 a1 a2∧P5 a1 a2∧P6 a1 a2∧P7 a1 a2) (k:∀ a1 a2,P1 a1 a2→P2 a1 a2→P3 a1 a2→P4 a1 a2→P5 a1 a2→P6 a1 a2→P7 a1 a2→G):G:=h.elim fun a1 h=>h.elim fun a2 h=>k a1 a2 h.1 h.2.1 h.2.2.1 h.2.2.2.1 h.2.2.2.2.1 h.2.2.2.2.2.1 h.2.2.2.2.2.2
theorem x3_1 {α1:Sort u1} {α2:Sort u2} {α3:Sort u3} {P1:α1→α2→α3→Prop} {G:Prop} (h:∃ a1 a2 a3,P1 a1 a2 a3) (k:∀ a1 a2 a3,P1 a1 a2 a3→G):G:=h.elim fun a1 h=>h.elim fun a2 h=>h.elim fun a3 h=>k a1 a2 a3 h
theorem x3_2 {α1:Sort u1} {α2:Sort u2} {α3:Sort u3} {P1 P2:α1→α2→α3→Prop} {G:Prop} (h:∃ a1 a2 a3,P1 a1 a2 a3∧P2 a1 a2 a3) (k:∀ a1 a2 a3,P1 a1 a2 a3→P2 a1 a2 a3→G):G:=h.elim fun a1 h=>h.elim fun a2 h=>h.elim fun a3 h=>k a1 a2 a3 h.1 h.2
theorem x3_3 {α1:Sort u1} {α2:Sort u2} {α3:Sort u3} {P1 P2 P3:α1→α2→α3→Prop} {G:Prop} (h:∃ a1 a2 a3,P1 a1 a2 a3∧P2 a1 a2 a3∧P3 a1 a2 a3) (k:∀ a1 a2 a3,P1 a1 a2 a3→P2 a1 a2 a3→P3 a1 a2 a3→G):G:=h.elim fun a1 h=>h.elim fun a2 h=>h.elim fun a3 h=>k a1 a2 a3 h.1 h.2.1 h.2.2
theorem x3_4 {α1:Sort u1} {α2:Sort u2} {α3:Sort u3} {P1 P2 P3 P4:α1→α2→α3→Prop} {G:Prop} (h:∃ a1 a2 a3,P1 a1 a2 a3∧P2 a1 a2 a3∧P3 a1 a2 a3∧P4 a1 a2 a3) (k:∀ a1 a2 a3,P1 a1 a2 a3→P2 a1 a2 a3→P3 a1 a2 a3→P4 a1 a2 a3→G):G:=h.elim fun a1 h=>h.elim fun a2 h=>h.elim fun a3 h=>k a1 a2 a3 h.1 h.2.1 h.2.2.1 h.2.2.2
theorem x3_5 {α1:Sort u1} {α2:Sort u2} {α3:Sort u3} {P1 P2 P3 P4 P5:α1→α2→α3→Prop} {G:Prop} (h:∃ a1 a2 a3,P1 a1 a2 a3∧P2 a1 a2 a3∧P3 a1 a2 a3∧P4 a1 a2 a3∧P5 a1 a2 a3) (k:∀ a1 a2 a3,P1 a1 a2 a3→P2 a1 a2 a3→P3 a1 a2 a3→P4 a1 a2 a3→P5 a1 a2 a3→G):G:=h.elim fun a1 h=>h.elim fun a2 h=>h.elim fun a3 h=>k a1 a2 a3 h.1 h.2.1 h.2.2.1 h.2.2.2.1 h.2.2.2.2
theorem x3_7 {α1:Sort u1} {α2:Sort u2} {α3:Sort u3} {P1 P2 P3 P4 P5 P6 P7:α1→α2→α3→Prop} {G:Prop} (h:∃ a1 a2 a3,P1 a1 a2 a3∧P2 a1 a2 a3∧P3 a1 a2 a3∧P4 a1 a2 a3∧P5 a1 a2 a3∧P6 a1 a2 a3∧P7 a1 a2 a3) (k:∀ a1 a2 a3,P1 a1 a2 a3→P2 a1 a2 a3→P3 a1 a2 a3→P4 a1 a2 a3→P5 a1 a2 a3→P6 a1 a2 a3→P7 a1 a2 a3→G):G:=h.elim fun a1 h=>h.elim fun a2 h=>h.elim fun a3 h=>k a1 a2 a3 h.1 h.2.1 h.2.2.1 h.2.2.2.1 h.2.2.2.2.1 h.2.2.2.2.2.1 h.2.2.2.2.2.2
theorem x3_9 {α1:Sort u1} {α2:Sort u2} {α3:Sort u3} {P1 P2 P3 P4 P5 P6 P7 P8 P9:α1→α2→α3→Prop} {G:Prop} (h:∃ a1 a2 a3,P1 a1 a2 a3∧P2 a1 a2 a3∧P3 a1 a2 a3∧P4 a1 a2 a3∧P5 a1 a2 a3∧P6 a1 a2 a3∧P7 a1 a2 a3∧P8 a1 a2 a3∧P9 a1 a2 a3) (k:∀ a1 a2 a3,P1 a1 a2 a3→P2 a1 a2 a3→P3 a1 a2 a3→P4 a1 a2 a3→P5 a1 a2 a3→P6 a1 a2 a3→P7 a1 a2 a3→P8 a1 a2 a3→P9 a1 a2 a3→G):G:=h.elim fun a1 h=>h.elim fun a2 h=>h.elim fun a3 h=>k a1 a2 a3 h.1 h.2.1 h.2.2.1 h.2.2.2.1 h.2.2.2.2.1 h.2.2.2.2.2.1 h.2.2.2.2.2.2.1 h.2.2.2.2.2.2.2.1 h.2.2.2.2.2.2.2.2
theorem x4_2 {α1:Sort u1} {α2:Sort u2} {α3:Sort u3} {α4:Sort u4} {P1 P2:α1→α2→α3→α4→Prop} {G:Prop} (h:∃ a1 a2 a3 a4,P1 a1 a2 a3 a4∧P2 a1 a2 a3 a4) (k:∀ a1 a2 a3 a4,P1 a1 a2 a3 a4→P2 a1 a2 a3 a4→G):G:=h.elim fun a1 h=>h.elim fun a2 h=>h.elim fun a3 h=>h.elim fun a4 h=>k a1 a2 a3 a4 h.1 h.2
theorem x4_3 {α1:Sort u1} {α2:Sort u2} {α3:Sort u3} {α4:Sort u4} {P1 P2 P3:α1→α2→α3→α4→Prop} {G:Prop} (h:∃ a1 a2 a3 a4,P1 a1 a2 a3 a4∧P2 a1 a2 a3 a4∧P3 a1 a2 a3 a4) (k:∀ a1 a2 a3 a4,P1 a1 a2 a3 a4→P2 a1 a2 a3 a4→P3 a1 a2 a3 a4→G):G:=h.elim fun a1 h=>h.elim fun a2 h=>h.elim fun a3 h=>h.elim fun a4 h=>k a1 a2 a3 a4 h.1 h.2.1 h.2.2
theorem x4_7 {α1:Sort u1} {α2:Sort u2} {α3:Sort u3} {α4:Sort u4} {P1 P2 P3 P4 P5 P6 P7:α1→α2→α3→α4→Prop} {G:Prop} (h:∃ a1 a2 a3 a4,P1 a1 a2 a3 a4∧P2 a1 a2 a3 a4∧P3 a1 a2 a3 a4∧P4 a1 a2 a3 a4∧P5 a1 a2 a3 a4∧P6 a1 a2 a3 a4∧P7 a1 a2 a3 a4) (k:∀ a1 a2 a3 a4,P1 a1 a2 a3 a4→P2 a1 a2 a3 a4→P3 a1 a2 a3 a4→P4 a1 a2 a3 a4→P5 a1 a2 a3 a4→P6 a1 a2 a3 a4→P7 a1 a2 a3 a4→G):G:=h.elim fun a1 h=>h.elim fun a2 h=>h.elim fun a3 h=>h.elim fun a4 h=>k a1 a2 a3 a4 h.1 h.2.1 h.2.2.1 h.2.2.2.1 h.2.2.2.2.1 h.2.2.2.2.2.1 h.2.2.2.2.2.2
theorem x4_8 {α1:Sort u1} {α2:Sort u2} {α3:Sort u3} {α4:Sort u4} {P1 P2 P3 P4 P5 P6 P7 P8:α1→α2→α3→α4→Prop} {G:Prop} (h:∃ a1 a2 a3 a4,P1 a1 a2 a3 a4∧P2 a1 a2 a3 a4∧P3 a1 a2 a3 a4∧P4 a1 a2 a3 a4∧P5 a1 a2 a3 a4∧P6 a1 a2 a3 a4∧P7 a1 a2 a3 a4∧P8 a1 a2 a3 a4) (k:∀ a1 a2 a3 a4,P1 a1 a2 a3 a4→P2 a1 a2 a3 a4→P3 a1 a2 a3 a4→P4 a1 a2 a3 a4→P5 a1 a2 a3 a4→P6 a1 a2 a3 a4→P7 a1 a2 a3 a4→P8 a1 a2 a3 a4→G):G:=h.elim fun a1 h=>h.elim fun a2 h=>h.elim fun a3 h=>h.elim fun a4 h=>k a1 a2 a3 a4 h.1 h.2.1 h.2.2.1 h.2.2.2.1 h.2.2.2.2.1 h.2.2.2.2.2.1 h.2.2.2.2.2.2.1 h.2.2.2.2.2.2.2
theorem x5_2 {α1:Sort u1} {α2:Sort u2} {α3:Sort u3} {α4:Sort u4} {α5:Sort u5} {P1 P2:α1→α2→α3→α4→α5→Prop} {G:Prop} (h:∃ a1 a2 a3 a4 a5,P1 a1 a2 a3 a4 a5∧P2 a1 a2 a3 a4 a5) (k:∀ a1 a2 a3 a4 a5,P1 a1 a2 a3 a4 a5→P2 a1 a2 a3 a4 a5→G):G:=h.elim fun a1 h=>h.elim fun a2 h=>h.elim fun a3 h=>h.elim fun a4 h=>h.elim fun a5 h=>k a1 a2 a3 a4 a5 h.1 h.2
theorem x5_4 {α1:Sort u1} {α2:Sort u2} {α3:Sort u3} {α4:Sort u4} {α5:Sort u5} {P1 P2 P3 P4:α1→α2→α3→α4→α5→Prop} {G:Prop} (h:∃ a1 a2 a3 a4 a5,P1 a1 a2 a3 a4 a5∧P2 a1 a2 a3 a4 a5∧P3 a1 a2 a3 a4 a5∧P4 a1 a2 a3 a4 a5) (k:∀ a1 a2 a3 a4 a5,P1 a1 a2 a3 a4 a5→P2 a1 a2 a3 a4 a5→P3 a1 a2 a3 a4 a5→P4 a1 a2 a3 a4 a5→G):G:=h.elim fun a1 h=>h.elim fun a2 h=>h.elim fun a3 h=>h.elim fun a4 h=>h.elim fun a5 h=>k a1 a2 a3 a4 a5 h.1 h.2.1 h.2.2.1 h.2.2.2
theorem x5_5 {α1:Sort u1} {α2:Sort u2} {α3:Sort u3} {α4:Sort u4} {α5:Sort u5} {P1 P2 P3 P4 P5:α1→α2→α3→α4→α5→Prop} {G:Prop} (h:∃ a1 a2 a3 a4 a5,P1 a1 a2 a3 a4 a5∧P2 a1 a2 a3 a4 a5∧P3 a1 a2 a3 a4 a5∧P4 a1 a2 a3 a4 a5∧P5 a1 a2 a3 a4 a5) (k:∀ a1 a2 a3 a4 a5,P1 a1 a2 a3 a4 a5→P2 a1 a2 a3 a4 a5→P3 a1 a2 a3 a4 a5→P4 a1 a2 a3 a4 a5→P5 a1 a2 a3 a4 a5→G):G:=h.elim fun a1 h=>h.elim fun a2 h=>h.elim fun a3 h=>h.elim fun a4 h=>h.elim fun a5 h=>k a1 a2 a3 a4 a5 h.1 h.2.1 h.2.2.1 h.2.2.2.1 h.2.2.2.2
theorem x5_7 {α1:Sort u1} {α2:Sort u2} {α3:Sort u3} {α4:Sort u4} {α5:Sort u5} {P1 P2 P3 P4 P5 P6 P7:α1→α2→α3→α4→α5→Prop} {G:Prop} (h:∃ a1 a2 a3 a4 a5,P1 a1 a2 a3 a4 a5∧P2 a1 a2 a3 a4 a5∧P3 a1 a2 a3 a4 a5∧P4 a1 a2 a3 a4 a5∧P5 a1 a2 a3 a4 a5∧P6 a1 a2 a3 a4 a5∧P7 a1 a2 a3 a4 a5) (k:∀ a1 a2 a3 a4 a5,P1 a1 a2 a3 a4 a5→P2 a1 a2 a3 a4 a5→P3 a1 a2 a3 a4 a5→P4 a1 a2 a3 a4 a5→P5 a1 a2 a3 a4 a5→P6 a1 a2 a3 a4 a5→P7 a1 a2 a3 a4 a5→G):G:=h.elim fun a1 h=>h.elim fun a2 h=>h.elim fun a3 h=>h.elim fun a4 h=>h.elim fun a5 h=>k a1 a2 a3 a4 a5 h.1 h.2.1 h.2.2.1 h.2.2.2.1 h.2.2.2.2.1 h.2.2.2.2.2.1 h.2.2.2.2.2.2
theorem x8_2 {α1:Sort u1} {α2:Sort u2} {α3:Sort u3} {α4:Sort u4} {α5:Sort u5} {α6:Sort u6} {α7:Sort u7} {α8:Sort u8} {P1 P2:α1→α2→α3→α4→α5→α6→α7→α8→Prop} {G:Prop} (h:∃ a1 a2 a3 a4 a5 a6 a7 a8,P1 a1 a2 a3 a4 a5 a6 a7 a8∧P2 a1 a2 a3 a4 a5 a6 a7 a8) (k:∀ a1 a2 a3 a4 a5 a6 a7 a8,P1 a1 a2 a3 a4 a5 a6 a7 a8→P2 a1 a2 a3 a4 a5 a6 a7 a8→G):G:=h.elim fun a1 h=>h.elim fun a2 h=>h.elim fun a3 h=>h.elim fun a4 h=>h.elim fun a5 h=>h.elim fun a6 h=>h.elim fun a7 h=>h.elim fun a8 h=>k a1 a2 a3 a4 a5 a6 a7 a8 h.1 h.2
theorem x8_7 {α1:Sort u1} {α2:Sort u2} {α3:Sort u3} {α4:Sort u4} {α5:Sort u5} {α6:Sort u6} {α7:Sort u7} {α8:Sort u8} {P1 P2 P3 P4 P5 P6 P7:α1→α2→α3→α4→α5→α6→α7→α8→Prop} {G:Prop} (h:∃ a1 a2 a3 a4 a5 a6 a7 a8,P1 a1 a2 a3 a4 a5 a6 a7 a8∧P2 a1 a2 a3 a4 a5 a6 a7 a8∧P3 a1 a2 a3 a4 a5 a6 a7 a8∧P4 a1 a2 a3 a4 a5 a6 a7 a8∧P5 a1 a2 a3 a4 a5 a6 a7 a8∧P6 a1 a2 a3 a4 a5 a6 a7 a8∧P7 a1 a2 a3 a4 a5 a6 a7 a8) (k:∀ a1 a2 a3 a4 a5 a6 a7 a8,P1 a1 a2 a3 a4 a5 a6 a7 a8→P2 a1 a2 a3 a4 a5 a6 a7 a8→P3 a1 a2 a3 a4 a5 a6 a7 a8→P4 a1 a2 a3 a4 a5 a6 a7 a8→P5 a1 a2 a3 a4 a5 a6 a7 a8→P6 a1 a2 a3 a4 a5 a6 a7 a8→P7 a1 a2 a3 a4 a5 a6 a7 a8→G):G:=h.elim fun a1 h=>h.elim fun a2 h=>h.elim fun a3 h=>h.elim fun a4 h=>h.elim fun a5 h=>h.elim fun a6 h=>h.elim fun a7 h=>h.elim fun a8 h=>k a1 a2 a3 a4 a5 a6 a7 a8 h.1 h.2.1 h.2.2.1 h.2.2.2.1 h.2.2.2.2.1 h.2.2.2.2.2.1 h.2.2.2.2.2.2
theorem x9_9 {α1:Sort u1} {α2:Sort u2} {α3:Sort u3} {α4:Sort u4} {α5:Sort u5} {α6:Sort u6} {α7:Sort u7} {α8:Sort u8} {α9:Sort u9} {P1 P2 P3 P4 P5 P6 P7 P8 P9:α1→α2→α3→α4→α5→α6→α7→α8→α9→Prop} {G:Prop} (h:∃ a1 a2 a3 a4 a5 a6 a7 a8 a9,P1 a1 a2 a3 a4 a5 a6 a7 a8 a9∧P2 a1 a2 a3 a4 a5 a6 a7 a8 a9∧P3 a1 a2 a3 a4 a5 a6 a7 a8 a9∧P4 a1 a2 a3 a4 a5 a6 a7 a8 a9∧P5 a1 a2 a3 a4 a5 a6 a7 a8 a9∧P6 a1 a2 a3 a4 a5 a6 a7 a8 a9∧P7 a1 a2 a3 a4 a5 a6 a7 a8 a9∧P8 a1 a2 a3 a4 a5 a6 a7 a8 a9∧P9 a1 a2 a3 a4 a5 a6 a7 a8 a9) (k:∀ a1 a2 a3 a4 a5 a6 a7 a8 a9,P1 a1 a2 a3 a4 a5 a6 a7 a8 a9→P2 a1 a2 a3 a4 a5 a6 a7 a8 a9→P3 a1 a2 a3 a4 a5 a6 a7 a8 a9→P4 a1 a2 a3 a4 a5 a6 a7 a8 a9→P5 a1 a2 a3 a4 a5 a6 a7 a8 a9→P6 a1 a2 a3 a4 a5 a6 a7 a8 a9→P7 a1 a2 a3 a4 a5 a6 a7 a8 a9→P8 a1 a2 a3 a4 a5 a6 a7 a8 a9→P9 a1 a2 a3 a4 a5 a6 a7 a8 a9→G):G:=h.elim fun a1 h=>h.elim fun a2 h=>h.elim fun a3 h=>h.elim fun a4 h=>h.elim fun a5 h=>h.elim fun a6 h=>h.elim fun a7 h=>h.elim fun a8 h=>h.elim fun a9 h=>k a1 a2 a3 a4 a5 a6 a7 a8 a9 h.1 h.2.1 h.2.2.1 h.2.2.2.1 h.2.2.2.2.1 h.2.2.2.2.2.1 h.2.2.2.2.2.2.1 h.2.2.2.2.2.2.2.1 h.2.2.2.2.2.2.2.2
theorem x10_2 {α1:Sort u1} {α2:Sort u2} {α3:Sort u3} {α4:Sort u4} {α5:Sort u5} {α6:Sort u6} {α7:Sort u7} {α8:Sort u8} {α9:Sort u9} {α10:Sort u10} {P1 P2:α1→α2→α3→α4→α5→α6→α7→α8→α9→α10→Prop} {G:Prop} (h:∃ a1 a2 a3 a4 a5 a6 a7 a8 a9 a10,P1 a1 a2 a3 a4 a5 a6 a7 a8 a9 a10∧P2 a1 a2 a3 a4 a5 a6 a7 a8 a9 a10) (k:∀ a1 a2 a3 a4 a5 a6 a7 a8 a9 a10,P1 a1 a2 a3 a4 a5 a6 a7 a8 a9 a10→P2 a1 a2 a3 a4 a5 a6 a7 a8 a9 a10→G):G:=h.elim fun a1 h=>h.elim fun a2 h=>h.elim fun a3 h=>h.elim fun a4 h=>h.elim fun a5 h=>h.elim fun a6 h=>h.elim fun a7 h=>h.elim fun a8 h=>h.elim fun a9 h=>h.elim fun a10 h=>k a1 a2 a3 a4 a5 a6 a7 a8 a9 a10 h.1 h.2
theorem y3_1 {α1:Sort u1} {α2:Sort u2} {α3:Sort u3} {P1:α1→α2→α3→Prop} (a1:α1) (a2:α2) (a3:α3) (h1:P1 a1 a2 a3):∃ a1 a2 a3,P1 a1 a2 a3:=⟨a1,a2,a3,h1⟩
theorem y3_2 {α1:Sort u1} {α2:Sort u2} {α3:Sort u3} {P1 P2:α1→α2→α3→Prop} (a1:α1) (a2:α2) (a3:α3) (h1:P1 a1 a2 a3) (h2:P2 a1 a2 a3):∃ a1 a2 a3,P1 a1 a2 a3∧P2 a1 a2 a3:=⟨a1,a2,a3,h1,h2⟩
theorem y3_4 {α1:Sort u1} {α2:Sort u2} {α3:Sort u3} {P1 P2 P3 P4:α1→α2→α3→Prop} (a1:α1) (a2:α2) (a3:α3) (h1:P1 a1 a2 a3) (h2:P2 a1 a2 a3) (h3:P3 a1 a2 a3) (h4:P4 a1 a2 a3):∃ a1 a2 a3,P1 a1 a2 a3∧P2 a1 a2 a3∧P3 a1 a2 a3∧P4 a1 a2 a3:=⟨a1,a2,a3,h1,h2,h3,h4⟩
theorem y4_2 {α1:Sort u1} {α2:Sort u2} {α3:Sort u3} {α4:Sort u4} {P1 P2:α1→α2→α3→α4→Prop} (a1:α1) (a2:α2) (a3:α3) (a4:α4) (h1:P1 a1 a2 a3 a4) (h2:P2 a1 a2 a3 a4):∃ a1 a2 a3 a4,P1 a1 a2 a3 a4∧P2 a1 a2 a3 a4:=⟨a1,a2,a3,a4,h1,h2⟩
theorem y4_3 {α1:Sort u1} {α2:Sort u2} {α3:Sort u3} {α4:Sort u4} {P1 P2 P3:α1→α2→α3→α4→Prop} (a1:α1) (a2:α2) (a3:α3) (a4:α4) (h1:P1 a1 a2 a3 a4) (h2:P2 a1 a2 a3 a4) (h3:P3 a1 a2 a3 a4):∃ a1 a2 a3 a4,P1 a1 a2 a3 a4∧P2 a1 a2 a3 a4∧P3 a1 a2 a3 a4:=⟨a1,a2,a3,a4,h1,h2,h3⟩
theorem y5_2 {α1:Sort u1} {α2:Sort u2} {α3:Sort u3} {α4:Sort u4} {α5:Sort u5} {P1 P2:α1→α2→α3→α4→α5→Prop} (a1:α1) (a2:α2) (a3:α3) (a4:α4) (a5:α5) (h1:P1 a1 a2 a3 a4 a5) (h2:P2 a1 a2 a3 a4 a5):∃ a1 a2 a3 a4 a5,P1 a1 a2 a3 a4 a5∧P2 a1 a2 a3 a4 a5:=⟨a1,a2,a3,a4,a5,h1,h2⟩
theorem y8_2 {α1:Sort u1} {α2:Sort u2} {α3:Sort u3} {α4:Sort u4} {α5:Sort u5} {α6:Sort u6} {α7:Sort u7} {α8:Sort u8} {P1 P2:α1→α2→α3→α4→α5→α6→α7→α8→Prop} (a1:α1) (a2:α2) (a3:α3) (a4:α4) (a5:α5) (a6:α6) (a7:α7) (a8:α8) (h1:P1 a1 a2 a3 a4 a5 a6 a7 a8) (h2:P2 a1 a2 a3 a4 a5 a6 a7 a8):∃ a1 a2 a3 a4 a5 a6 a7 a8,P1 a1 a2 a3 a4 a5 a6 a7 a8∧P2 a1 a2 a3 a4 a5 a6 a7 a8:=⟨a1,a2,a3,a4,a5,a6,a7,a8,h1,h2⟩
end El
namespace Mine
open PySem
noncomputable def fD:Option (List Int)→PyData
 | none=>.none
 | some l=>.tuple (l.map .int)
noncomputable def kD (k:Option (List Int) × Str):PyData:=.tuple [fD k.1,.str k.2]
noncomputable def fIs (prog:Program) (w:World) (h:Heap) (v:Value):Option (List Int)→Prop
 | none=>v = .none
 | some l=>∃ b,v = .ref b∧IsTupleKey (intKind prog w) h l b
noncomputable def kIs (prog:Program) (w:World) (h:Heap) (k:Option (List Int) × Str) (a:Addr):Prop :=
 ∃ o vs n v t,h.get? a = some o∧o.cls = .type "tuple"∧o.data = .seq vs n∧vs.toList = [v,.str k.2 t]∧PyData.strOk k.2 = true∧fIs prog w h v k.1
noncomputable def fH:Option (List Int)→Int
 | none=>0xFCA86420
 | some l=>reduceHash (Builtin.Tuple.tupleHashOf (l.map hashInt))
noncomputable def kH (w:World) (k:Option (List Int) × Str):Int:=reduceHash (Builtin.Tuple.tupleHashOf [fH k.1,hashStr w k.2])
noncomputable def fN:Option (List Int)→Nat
 | none=>1
 | some l=>l.length + 1
section
variable {prog:Program} {w:World} {A:Around} {E:Value→Shared→Prop} {s:Shared} {h:Heap} {k:Option (List Int) × Str} {a:Addr}
theorem Z8g {l:List Int} {vs:List Value} (x:ItemsAre (intKind prog w) l vs):ReadsAll h vs (l.map .int) []:=by
 induction x with
 | nil=>exact .nil
 | @cons i v l vs hi _ ih=>
  obtain ⟨t,rfl⟩:=Value.isInt_shape hi
  exact .cons (as:=[]) (.int i t) ih
theorem fIs.reads {v:Value} {f:Option (List Int)} (x:fIs prog w h v f):Reads h v (fD f) []:=by
 cases f with
 | none=>rw [show v = .none from x]; exact .none
 | some l=>
  obtain ⟨b,rfl,o,vs,n,ho,hc,hd,hi⟩:=x
  exact .tuple ho hc hd (Z8g hi)
theorem kIs.reads (x:kIs prog w h k a):Reads h (.ref a) (kD k) []:=by
 obtain ⟨o,vs,n,v,t,ho,hc,hd,hi,_,hf⟩:=x
 exact .tuple ho hc hd (by rw [hi]; exact .cons (as:=[]) (bs:=[]) hf.reads (.cons (as:=[]) (bs:=[]) (.str _ _) .nil))
theorem ZgN {f g:Option (List Int)} (e:fD f = fD g):f = g:=by
 have key:∀ (l m:List Int),l.map PyData.int = m.map PyData.int→l = m:=fun l m e=>List.map_inj_right (fun a b e=>PyData.int.inj e) |>.mp e
 cases f <;> cases g
 ·rfl
 ·cases e
 ·cases e
 ·rw [key _ _ (PyData.tuple.inj e)]
theorem ZgO {k k':Option (List Int) × Str} (e:kD k = kD k'):k = k':=by
 have e':=PyData.tuple.inj e
 injection e' with e1 e2
 injection e2 with e3
 exact Prod.ext (ZgN e1) (PyData.str.inj e3)
theorem Z9d:∀ l:List Int,PyData.canLayAll0 (l.map .int) = true
 | []=>rfl
 | _ :: l=>Z9d l
theorem ZgP (f:Option (List Int)):(fD f).canLay0 = true:=by
 cases f with
 | none=>rfl
 | some l=>exact Z9d l
theorem ZaN {k:Option (List Int) × Str} (hs:PyData.strOk k.2 = true):(kD k).canLay0 = true:=by
 show PyData.canLayAll0 [fD k.1,.str k.2] = true
 simp [PyData.canLayAll0,ZgP,PyData.canLay0,hs]
theorem Z9e:∀ l m:List Int,PyData.eqvAll (l.map .int) (m.map .int) = decide (l = m)
 | [],[]=>rfl
 | [],_ :: _=>rfl
 | _ :: _,[]=>rfl
 | a :: l,b :: m=>by
  show (PyData.eqv (.int a) (.int b) && PyData.eqvAll (l.map .int) (m.map .int)) = _
  rw [Z9e l m]
  show (a == b && decide (l = m)) = _
  exact Bool.eq_iff_iff.mpr (by simp)
theorem ZgQ (f g:Option (List Int)):PyData.eqv (fD f) (fD g) = decide (f = g):=by
 cases f <;> cases g
 ·rfl
 ·rfl
 ·rfl
 ·rename_i l m
  show PyData.eqvAll (l.map .int) (m.map .int) = _
  rw [Z9e]
  exact Bool.eq_iff_iff.mpr (by simp)
theorem ZgR (k k':Option (List Int) × Str):PyData.eqv (kD k) (kD k') = decide (k = k'):=by
 show (PyData.eqv (fD k.1) (fD k'.1) && (PyData.eqv (.str k.2) (.str k'.2) && true)) = _
 rw [ZgQ,Bool.and_true]
 show (decide (k.1 = k'.1) && (k.2 == k'.2)) = _
 exact Bool.eq_iff_iff.mpr (by simp [Prod.ext_iff])
theorem Zd1 (f:Option (List Int)):(fD f).depth ≤ 1:=by
 have key:∀ l:List Int,PyData.depthAll (l.map .int) ≤ 0:=fun l=>by
  induction l with
  | nil=>exact Nat.le_refl _
  | cons a l ih=>exact Nat.max_le.mpr ⟨Nat.le_refl _,ih⟩
 cases f with
 | none=>exact Nat.zero_le _
 | some l=>exact Nat.succ_le_succ (key l)
theorem Zd2 (k:Option (List Int) × Str):(kD k).depth ≤ 2:=Nat.succ_le_succ (Nat.max_le.mpr ⟨Zd1 _,Nat.max_le.mpr ⟨Nat.zero_le _,Nat.zero_le _⟩⟩)
theorem ZaO {Q:Int→Shared→Prop} (h:Q 0xFCA86420 { s with toks:=s.toks + 1 }):wpAny (model prog w) A (pyHash .none) Q E s:=by
 have hT:s.TypeIs .none "NoneType":=rfl
 unfold pyHash pyHashByItsType
 have hv:[Value.none].any Value.onHeap = false:=rfl
 refine wpAny_bind ?_
 rw [cRoomFor,if_neg (by rw [hv]; exact Bool.false_ne_true)]; refine wpAny_pure ?_
 refine wpAny_bind (wpAny_specialOf hT F.slot_NoneType_hash.lookup ?_)
 show wpAny _ _ (if (some (Value.builtin "NoneType.__hash__") == some Value.none) = true then _ else _) Q E s
 rw [if_neg (by rw [beq_builtin_none]; exact Bool.false_ne_true)]
 refine wpAny_bind (wpAny_specialOf hT F.slot_NoneType_hash.lookup ?_)
 show wpAny _ _ (callSpecialIfBoundUnlessNone? .none "__hash__" _ >>= _) Q E s
 refine wpAny_bind (wpAny_callSpecialIfBoundUnlessNone?_slot hT F.slot_NoneType_hash (wpAny_call_entry F.slot_NoneType_hash hT F.entry_NoneType_hash ?_ (F.args_NoneType_hash_1 _)))
 show wpAny _ _ (retInt 0xFCA86420) _ _ s
 exact wpAny_ret_mkInt (wpAny_pure h)
theorem Zd3 {v:Value} {f:Option (List Int)} {Q:Int→Shared→Prop} (hu:A.units < cLine) (x:fIs prog w s.heap v f) (h:Q (fH f) { s with toks:=s.toks + fN f }):wpAny (model prog w) A (pyHash v) Q E s:=by
 cases f with
 | none=>rw [show v = .none from x]; exact ZaO h
 | some l=>
  obtain ⟨b,rfl,hb⟩:=x
  exact wpAny_pyHash_tuple hu hb h
theorem Z5W {i:Int} {Q:Int→Shared→Prop} (h:Q (reduceHash i) s):wpAny (model prog w) A (pyHashByItsType.reduced i) Q E s:=by
 show wpAny _ _ (if (decide (-(2:Int) ^ 63 ≤ i) && decide (i < 2 ^ 63)) = true then _ else _) Q E _
 unfold reduceHash at h
 by_cases hr:(decide (-(2:Int) ^ 63 ≤ i) && decide (i < 2 ^ 63)) = true
 ·rw [if_pos hr]
  rw [if_pos hr] at h
  exact wpAny_pure h
 ·rw [if_neg hr]
  rw [if_neg hr] at h
  exact wpAny_bind (wpAny_rule (wpAny_pure h))
theorem Zd4 {Q:Int→Shared→Prop} (hu:A.units + 1 < cLine) (hk:kIs prog w s.heap k a) (h:Q (kH w k) { s with toks:=s.toks + (fN k.1 + 2) }):wpAny (model prog w) A (pyHash (.ref a)) Q E s:=by
 obtain ⟨o,vs,n,v,t,ho,hc,hd,hi,hs,hf⟩:=hk
 have hT:s.TypeIs (.ref a) "tuple":=⟨o,ho,hc⟩
 unfold pyHash pyHashByItsType
 refine wpAny_bind (wpAny_cRoomFor_or (.inr (Nat.lt_of_succ_lt hu)) ?_)
 refine wpAny_bind (wpAny_specialOf hT F.slot_tuple_hash.lookup ?_)
 show wpAny _ _ (if (some (Value.builtin "tuple.__hash__") == some Value.none) = true then _ else _) Q E s
 rw [if_neg (by rw [beq_builtin_none]; exact Bool.false_ne_true)]
 refine wpAny_bind (wpAny_specialOf hT F.slot_tuple_hash.lookup ?_)
 show wpAny _ _ (callSpecialIfBoundUnlessNone? (.ref a) "__hash__" _ >>= _) Q E s
 refine wpAny_bind (wpAny_callSpecialIfBoundUnlessNone?_slot hT F.slot_tuple_hash (wpAny_call_entry F.slot_tuple_hash hT F.entry_tuple_hash ?_ (F.args_tuple_hash_1 _)))
 show wpAny _ _ (Builtin.Tuple.tupleItemsOf (.ref a) >>= _) _ _ s
 refine wpAny_bind (wpAny_tupleItemsOf ho hd ?_)
 refine wpAny_bind ?_
 rw [← Array.forIn_toList,hi,List.forIn_cons]
 refine wpAny_bind (wpAny_bind (Zd3 hu hf ?_))
 refine wpAny_pure ?_
 show wpAny _ _ (forIn [Value.str k.2 t] (#[].push (fH k.1)) _) _ _ _
 rw [List.forIn_cons]
 refine wpAny_bind (wpAny_bind (wpAny_pyHash_str (wpAny_pure ?_)))
 show wpAny _ _ (forIn [] ((#[].push (fH k.1)).push (hashStr w k.2)) _) _ _ _
 rw [List.forIn_nil]
 refine wpAny_pure ?_
 show wpAny _ _ (retInt (Builtin.Tuple.tupleHashOf [fH k.1,hashStr w k.2])) _ _ _
 refine wpAny_ret_mkInt ?_
 exact Z5W h
theorem Z79 {n:Nat} {o:Obj} {vs:Array Value} {m:Nat} {Q:Bool→Shared→Prop} (ho:s.heap.get? a = some o) (hc:o.cls = .type "tuple") (hd:o.data = .seq vs m)
  (hall:∀ v ∈ vs.toList,∀ Q:Bool→Shared→Prop,Q true s→wpAny (model prog w) A (eqIsQuiet n v) Q E s) (h:Q true s):wpAny (model prog w) A (eqIsQuiet (n + 1) (.ref a)) Q E s:=by
 have hT:s.TypeIs (.ref a) "tuple":=⟨o,ho,hc⟩
 unfold eqIsQuiet
 refine wpAny_bind (wpAny_specialOf hT F.slot_tuple_eq.lookup ?_)
 show wpAny _ _ (isInstance (.ref a) (.type "tuple") >>= _) _ _ s
 refine wpAny_bind (wpAny_isInstance hT isSubtype_tuple_tuple ?_)
 simp only [Bool.not_true,Bool.false_eq_true,if_false]
 refine wpAny_bind (wpAny_seqItems ho hd ?_)
 refine wpAny_bind ?_
 show wpAny _ _ (forIn vs _ _) _ _ s
 rw [← Array.forIn_toList]
 refine wpAny_forIn_list _ (fun rest r s'=>r.1 = none∧s' = s∧∀ v ∈ rest,v ∈ vs.toList) _ ?_ ?_ _ _ ⟨rfl,rfl,fun _ q=>q⟩
 ·rintro v rest r s' ⟨hr,rfl,hq⟩
  refine wpAny_bind (hall v (hq v List.mem_cons_self) _ ?_)
  simp only [Bool.not_true,Bool.false_eq_true,if_false]
  exact wpAny_pure ⟨rfl,rfl,fun u q=>hq u (List.mem_cons_of_mem _ q)⟩
 ·rintro ⟨r1,r2⟩ s' ⟨hr,rfl,_⟩
  simp only at hr
  subst hr
  exact wpAny_pure h
theorem Z44 {n:Nat} {v:Value} (hv:carriedByValue v = true) (Q:Bool→Shared→Prop) (h:Q true s):wpAny (model prog w) A (eqIsQuiet n v) Q E s:=by
 rw [eqIsQuiet_byValue _ hv]; exact wpAny_pure h
theorem ZaP {n:Nat} {v:Value} {f:Option (List Int)} (x:fIs prog w s.heap v f) (Q:Bool→Shared→Prop) (h:Q true s):wpAny (model prog w) A (eqIsQuiet (n + 1) v) Q E s:=by
 cases f with
 | none=>rw [show v = .none from x]; exact Z44 rfl Q h
 | some l=>
  obtain ⟨b,rfl,o,vs,m,ho,hc,hd,hi⟩:=x
  exact Z79 ho hc hd (fun v hv Q=>Z44 (hi.byValue v hv) Q) h
theorem ZaQ {Q:Bool→Shared→Prop} (hk:kIs prog w s.heap k a) (h:Q true s):wpAny (model prog w) A (eqIsQuiet 8 (.ref a)) Q E s:=by
 obtain ⟨o,vs,n,v,t,ho,hc,hd,hi,hs,hf⟩:=hk
 refine Z79 ho hc hd (fun u hu=>?_) h
 rw [hi] at hu
 rcases List.mem_cons.mp hu with rfl | hu
 ·exact ZaP hf
 ·rw [List.mem_singleton.mp hu]; exact Z44 rfl
theorem ZaR {h':Heap} {d:Addr} {o:Obj} {es:Array DictEntry} {ep:Nat} (hk:kIs prog w h k a) (ho:h.get? d = some o) (hd:o.data = .dict es ep) (hs:Heap.SameBut d h h'):kIs prog w h' k a:=by
 obtain ⟨o',vs,n,v,t,ho',hc',hd',hi,hs',hf⟩:=hk
 have hne:a ≠ d:=by
  rintro rfl
  obtain rfl:o' = o:=Option.some.inj (ho'.symm.trans ho)
  rw [hd] at hd'; exact nomatch hd'
 refine ⟨o',vs,n,v,t,(hs.2 a hne).trans ho',hc',hd',hi,hs',?_⟩
 obtain ⟨f,x⟩:=k
 cases f with
 | none=>exact hf
 | some l=>obtain ⟨b,hb,hq⟩:=hf; exact ⟨b,hb,hq.keeps ho hd hs⟩
noncomputable def Z5X (prog:Program) (w:World):HeapKind prog w (Option (List Int) × Str) where
 is:=kIs prog w
 hash:=kH w
 draws:=fun k=>fN k.1 + 2
 room:=fun A=>A.units + 2 < cLine
 inj:=fun hx hy=>ZgO (SeqAt.Reads.unique _ _ _ _ _ (ZaN (let ⟨_,_,_,_,_,_,_,_,_,q,_⟩:=hx; q)) hx.reads hy.reads)
 keeps:=fun x ho hd hs=>ZaR x ho hd hs
 pyHash:=fun hu hk h=>Zd4 (Nat.lt_of_succ_lt hu) hk h
 eqBool:=fun {A E s x y a b Q} hu hx hy h=>SeqAt.eqAt_reads (kD x) (kD y) A s _ _ _ _ hx.reads hy.reads (ZaN (let ⟨_,_,_,_,_,_,_,_,_,q,_⟩:=hx; q)) (ZaN (let ⟨_,_,_,_,_,_,_,_,_,q,_⟩:=hy; q)) (Nat.lt_of_le_of_lt (Nat.add_le_add_left (Nat.le_trans (Nat.min_le_left _ _) (Zd2 x)) _) hu) prog w E Q (by rw [ZgR]; exact h)
 quiet:=fun hk h=>ZaQ hk h
end
end Mine
namespace Mine
open PySem PySem.Calls PyProof.Rows
theorem dec1 {n i:Nat} (h:i < n):n + 1 - (i + 1) < n + 1 - i:=by omega
theorem eqle {n i:Nat} (h:i ≤ n) (h':¬ i < n):i = n:=Nat.le_antisymm h (Nat.le_of_not_lt h')
inductive V where
 | none
 | bool (b:Bool)
 | int (i:Int)
 | str (s:List Nat)
 | tup (xs:List V)
 | lst (xs:List V)
 | ref (n:Nat)
 | inst (C n:Nat)
@[simp] theorem V.ref.injEq (a b:Nat):(V.ref a = V.ref b) = (a = b):=propext ⟨fun h=>by cases h; rfl,fun h=>h ▸ rfl⟩
inductive O where
 | lst (xs:List V)
 | idict (es:List (Int × V))
 | kdict (H:Option (List Int) × Str→Int) (es:List ((Option (List Int) × Str) × V))
 | attrs (xs:List V)
 | dead
 | priv
noncomputable def O.live:O→Bool
 | .dead=>false
 | _=>true
structure St where
 ρ:List (Option V)
 σ:List O
inductive R (α:Type) where
 | ok (a:α) (st:St)
 | exc (x:Str) (st:St)
 | stuck
theorem R.ok.inj {α:Type} {a b:α} {s t:St} (h:R.ok a s = .ok b t):a = b∧s = t:=by cases h; exact ⟨rfl,rfl⟩
noncomputable def R.bind {α β:Type}:R α→(α→St→R β)→R β
 | .ok a st,f=>f a st
 | .exc x st,_=>.exc x st
 | .stuck,_=>.stuck
@[simp] theorem R.bind_ok {α β:Type} (a:α) (st:St) (f:α→St→R β):(R.ok a st).bind f = f a st:=by rw [R.bind]
@[simp] theorem R.bind_exc {α β:Type} (a:Str) (st:St) (f:α→St→R β):(R.exc a st).bind f = .exc a st:=by rw [R.bind]
@[simp] theorem R.bind_stuck {α β:Type} (f:α→St→R β):(R.stuck:R α).bind f = .stuck:=by rw [R.bind]
theorem R.bind_inv {α β:Type} {m:R α} {f:α→St→R β} {b:β} {st':St} (h:m.bind f = .ok b st'):∃ a st,m = .ok a st∧f a st = .ok b st':=by
 cases m with
 | ok a st=>exact ⟨a,st,rfl,h⟩
 | exc x st=>cases h
 | stuck=>cases h
noncomputable def R.lift {α:Type} (o:Option α) (st:St):R α:=match o with | some a=>.ok a st | none=>.stuck
@[simp] theorem R.lift_some {α:Type} (a:α) (st:St):R.lift (some a) st = .ok a st:=by rw [R.lift]
@[simp] theorem R.lift_none {α:Type} (st:St):R.lift (none:Option α) st = .stuck:=by rw [R.lift]
noncomputable def Z5Y (o:Obj):Prop:=(∃ vs n,o.data = .seq vs n) ∨ o.data = .plain
noncomputable def Tr (σ:List O) (μ:List Addr) (b:Addr):Prop:=∃ (n:Nat) (o:O),σ[n]? = some o∧o.live = true∧μ[n]? = some b
mutual
inductive RepV (T:Addr→Prop) (μ:List Addr) (h:Heap):Value→V→Prop
 | none:RepV T μ h .none .none
 | bool (b):RepV T μ h (.bool b) (.bool b)
 | int (i t):RepV T μ h (.int i t) (.int i)
 | str (x t):PyData.strOk x = true→x.length ≤ sizeLine→RepV T μ h (.str x t) (.str x.cps.toList)
 | tup {a o vs n xs}:h.get? a = some o→o.cls = .type "tuple"→o.data = .seq vs n→vs.size ≤ sizeLine→¬ T a→RepVs T μ h vs.toList xs→RepV T μ h (.ref a) (.tup xs)
 | lst {a o vs n xs}:h.get? a = some o→o.cls = .type "list"→o.data = .seq vs n→vs.size ≤ sizeLine→¬ T a→RepVs T μ h vs.toList xs→RepV T μ h (.ref a) (.lst xs)
 | ref {n a}:μ[n]? = some a→RepV T μ h (.ref a) (.ref n)
 | inst {x dx C n}:h.get? x = some { cls:=.ref C,dict:=some dx,data:=.plain }→¬ T x→μ[n]? = some dx→RepV T μ h (.ref x) (.inst C n)
inductive RepVs (T:Addr→Prop) (μ:List Addr) (h:Heap):List Value→List V→Prop
 | nil:RepVs T μ h [] []
 | cons {v vs x xs}:RepV T μ h v x→RepVs T μ h vs xs→RepVs T μ h (v :: vs) (x :: xs)
end
noncomputable def OutV (T:Addr→Prop) (μ:List Addr) (h:Heap) (v:Value):V→Prop
 | .none=>v = .none
 | .bool b=>v = .bool b
 | .int i=>∃ t,v = .int i t
 | .str l=>∃ x t,v = .str x t∧x.cps.toList = l∧PyData.strOk x = true∧x.length ≤ sizeLine
 | .tup xs=>∃ a o vs n,v = .ref a∧h.get? a = some o∧o.cls = .type "tuple"∧o.data = .seq vs n∧vs.size ≤ sizeLine∧¬ T a∧RepVs T μ h vs.toList xs
 | .lst xs=>∃ a o vs n,v = .ref a∧h.get? a = some o∧o.cls = .type "list"∧o.data = .seq vs n∧vs.size ≤ sizeLine∧¬ T a∧RepVs T μ h vs.toList xs
 | .ref n=>∃ a,v = .ref a∧μ[n]? = some a
 | .inst C n=>∃ x dx,v = .ref x∧h.get? x = some { cls:=.ref C,dict:=some dx,data:=.plain }∧¬ T x∧μ[n]? = some dx
noncomputable def ZgS (T:Addr→Prop) (μ:List Addr) (h:Heap) (vs:List Value):List V→Prop
 | []=>vs = []
 | x :: xs=>∃ v us,vs = v :: us∧RepV T μ h v x∧RepVs T μ h us xs
section
variable {T:Addr→Prop} {μ:List Addr} {h:Heap} {v:Value} {x:V}
theorem RepV.out (r:RepV T μ h v x):OutV T μ h v x :=
 RepV.casesOn (motive_1:=fun v x _=>OutV T μ h v x) r rfl (fun _=>rfl) (fun _ t=>⟨t,rfl⟩) (fun x t a b=>⟨x,t,rfl,rfl,a,b⟩) (fun a b c d e f=>⟨_,_,_,_,rfl,a,b,c,d,e,f⟩) (fun a b c d e f=>⟨_,_,_,_,rfl,a,b,c,d,e,f⟩) (fun e=>⟨_,rfl,e⟩) (fun a b c=>⟨_,_,rfl,a,b,c⟩)
theorem RepVs.out {vs:List Value} {xs:List V} (r:RepVs T μ h vs xs):ZgS T μ h vs xs :=
 RepVs.casesOn (motive_2:=fun vs xs _=>ZgS T μ h vs xs) r rfl (fun a b=>⟨_,_,rfl,a,b⟩)
theorem RepV.refI {n:Nat} (r:RepV T μ h v (.ref n)):∃ a,v = .ref a∧μ[n]? = some a:=r.out
theorem RepV.refA {a:Addr} {n:Nat} (r:RepV T μ h (.ref a) (.ref n)):μ[n]? = some a:=let ⟨_,e,k⟩:=r.refI; Value.ref.inj e ▸ k
theorem RepV.tupI {xs:List V} (r:RepV T μ h v (.tup xs)):∃ a o vs n,v = .ref a∧h.get? a = some o∧o.cls = .type "tuple"∧o.data = .seq vs n∧vs.size ≤ sizeLine∧¬ T a∧RepVs T μ h vs.toList xs:=r.out
theorem RepV.lstI {xs:List V} (r:RepV T μ h v (.lst xs)):∃ a o vs n,v = .ref a∧h.get? a = some o∧o.cls = .type "list"∧o.data = .seq vs n∧vs.size ≤ sizeLine∧¬ T a∧RepVs T μ h vs.toList xs:=r.out
theorem RepV.instI {C n:Nat} (r:RepV T μ h v (.inst C n)):∃ x dx,v = .ref x∧h.get? x = some { cls:=.ref C,dict:=some dx,data:=.plain }∧¬ T x∧μ[n]? = some dx:=r.out
theorem RepVs.consI {vs:List Value} {xs:List V} (r:RepVs T μ h vs (x :: xs)):∃ v us,vs = v :: us∧RepV T μ h v x∧RepVs T μ h us xs:=r.out
end
section
variable {T T':Addr→Prop} {μ μ':List Addr} {h h':Heap}
theorem RepVs.ind {M:List Value→List V→Prop} (hn:M [] []) (hc:∀ {v vs x xs},RepV T μ h v x→RepVs T μ h vs xs→M vs xs→M (v :: vs) (x :: xs)) {vs:List Value} {xs:List V} (r:RepVs T μ h vs xs):M vs xs :=
 RepVs.rec (motive_1:=fun _ _ _=>True) (motive_2:=fun vs xs _=>M vs xs) trivial (fun _=>trivial) (fun _ _=>trivial) (fun _ _ _ _=>trivial) (fun _ _ _ _ _ _ _=>trivial) (fun _ _ _ _ _ _ _=>trivial) (fun _=>trivial) (fun _ _ _=>trivial) hn (fun a r _ ih=>hc a r ih) r
theorem RepVs.length {vs:List Value} {xs:List V} (r:RepVs T μ h vs xs):vs.length = xs.length :=
 RepVs.ind (M:=fun vs xs=>vs.length = xs.length) rfl (fun _ _ ih=>congrArg (· + 1) ih) r
theorem RepVs.get {vs:List Value} {xs:List V} (r:RepVs T μ h vs xs):∀ {i:Nat} {x:V},xs[i]? = some x→∃ v,vs[i]? = some v∧RepV T μ h v x :=
 RepVs.ind (M:=fun vs xs=>∀ {i:Nat} {x:V},xs[i]? = some x→∃ v,vs[i]? = some v∧RepV T μ h v x) (fun e=>by simp at e) (fun {v vs y ys} a _ ih {i x} e=>by
  cases i with
  | zero=>cases e; exact ⟨v,rfl,a⟩
  | succ i=>exact ih (i:=i) e) r
theorem RepVs.of_get:∀ {vs:List Value} {xs:List V},vs.length = xs.length→(∀ (i:Nat) (v:Value) (y:V),vs[i]? = some v→xs[i]? = some y→RepV T μ h v y)→RepVs T μ h vs xs
 | [],[],_,_=>.nil
 | [],_ :: _,e,_=>by cases e
 | _ :: _,[],e,_=>by cases e
 | v :: vs,x :: xs,e,k=>.cons (k 0 v x rfl rfl) (RepVs.of_get (Nat.succ.inj e) fun i v y a b=>k (i + 1) v y a b)
theorem RepVs.append {vs:List Value} {xs:List V} {us:List Value} {ys:List V} (r:RepVs T μ h vs xs) (y:RepVs T μ h us ys):RepVs T μ h (vs++us) (xs++ys) :=
 RepVs.ind (M:=fun vs xs=>RepVs T μ h (vs++us) (xs++ys)) y (fun a _ ih=>.cons a ih) r
theorem RepVs.take (k:Nat) {vs:List Value} {xs:List V} (r:RepVs T μ h vs xs):RepVs T μ h (vs.take k) (xs.take k) :=
 RepVs.ind (M:=fun vs xs=>∀ k,RepVs T μ h (vs.take k) (xs.take k)) (fun k=>by rw [List.take_nil,List.take_nil]; exact .nil) (fun a _ ih k=>by
  cases k with
  | zero=>exact .nil
  | succ k=>exact .cons a (ih k)) r k
theorem RepVs.drop (k:Nat) {vs:List Value} {xs:List V} (r:RepVs T μ h vs xs):RepVs T μ h (vs.drop k) (xs.drop k) :=
 RepVs.ind (M:=fun vs xs=>∀ k,RepVs T μ h (vs.drop k) (xs.drop k)) (fun k=>by rw [List.drop_nil,List.drop_nil]; exact .nil) (fun a r ih k=>by
  cases k with
  | zero=>exact .cons a r
  | succ k=>exact ih k) r k
theorem RepV.move (hl:∀ a o,h.get? a = some o→Z5Y o→¬ T a→h'.get? a = some o∧¬ T' a) (hr:∀ (n:Nat) (a:Addr),μ[n]? = some a→μ'[n]? = some a) {v:Value} {x:V} (r:RepV T μ h v x):RepV T' μ' h' v x :=
 RepV.rec (motive_1:=fun v x _=>RepV T' μ' h' v x) (motive_2:=fun vs xs _=>RepVs T' μ' h' vs xs) .none .bool .int .str
  (fun ho hc hd hz hT _ ih=>.tup (hl _ _ ho (.inl ⟨_,_,hd⟩) hT).1 hc hd hz (hl _ _ ho (.inl ⟨_,_,hd⟩) hT).2 ih) (fun ho hc hd hz hT _ ih=>.lst (hl _ _ ho (.inl ⟨_,_,hd⟩) hT).1 hc hd hz (hl _ _ ho (.inl ⟨_,_,hd⟩) hT).2 ih) (fun e=>.ref (hr _ _ e))
  (fun ho hT e=>.inst (hl _ _ ho (.inr rfl) hT).1 (hl _ _ ho (.inr rfl) hT).2 (hr _ _ e)) .nil (fun _ _ a b=>.cons a b) r
theorem RepVs.move (hl:∀ a o,h.get? a = some o→Z5Y o→¬ T a→h'.get? a = some o∧¬ T' a) (hr:∀ (n:Nat) (a:Addr),μ[n]? = some a→μ'[n]? = some a) {vs:List Value} {xs:List V} (r:RepVs T μ h vs xs):RepVs T' μ' h' vs xs :=
 RepVs.ind (M:=fun vs xs=>RepVs T' μ' h' vs xs) .nil (fun a _ ih=>.cons (a.move hl hr) ih) r
end
inductive Slot where
 | d (D:Addr) (n:Str)
 | c (a:Addr)
noncomputable def Slot.own:Slot→Addr
 | .d D _=>D
 | .c a=>a
noncomputable def Slot.Holds (h:Heap) (v:Value):Slot→Prop
 | .d D n=>∃ m,h.Ns D m∧m n = some v
 | .c a=>h.IsCell a (some v)
noncomputable def Slot.Ok (h:Heap):Slot→Prop
 | .d D _=>∃ m,h.Ns D m
 | .c a=>∃ v,h.IsCell a v
theorem Slot.Ok.get {h:Heap} {s:Slot} (x:s.Ok h):∃ o,h.get? s.own = some o∧((∃ es n,o.data = .dict es n) ∨ ∃ v,o.data = .cell v):=by
 cases s with
 | d D n=>obtain ⟨m,o,es,ep,ho,hd,_⟩:=x; exact ⟨o,ho,.inl ⟨es,ep,hd⟩⟩
 | c a=>obtain ⟨v,o,ho,hd⟩:=x; exact ⟨o,ho,.inr ⟨v,hd⟩⟩
theorem Slot.Ok.keeps {h h':Heap} {s:Slot} (x:s.Ok h) (hk:∀ o,h.get? s.own = some o→h'.get? s.own = some o):s.Ok h':=by
 cases s with
 | d D n=>obtain ⟨m,hm⟩:=x; exact ⟨m,hm.at' hk⟩
 | c a=>obtain ⟨v,o,ho,hd⟩:=x; exact ⟨v,o,hk o ho,hd⟩
theorem Slot.Holds.keeps {h h':Heap} {v:Value} {s:Slot} (x:s.Holds h v) (hk:∀ o,h.get? s.own = some o→h'.get? s.own = some o):s.Holds h' v:=by
 cases s with
 | d D n=>obtain ⟨m,hm,e⟩:=x; exact ⟨m,hm.at' hk,e⟩
 | c a=>obtain ⟨o,ho,hd⟩:=x; exact ⟨o,hk o ho,hd⟩
noncomputable def attrNames:List Str:=[("signs":Str),("behind":Str),("firsts":Str),("ends":Str),("empty":Str)]
noncomputable def ObNs (o:Obj) (m:Str→Option Value):Prop:=∃ es ep,o.data = .dict es ep∧StrKeys es∧UniqKeys es∧∀ name,nsFind es name = m name
noncomputable def fV:Option (List Int)→V
 | none=>.none
 | some l=>.tup (l.map .int)
noncomputable def kV (k:Option (List Int) × Str):V:=.tup [fV k.1,.str k.2.cps.toList]
noncomputable def keyE (H:Option (List Int) × Str→Int) (x:(Option (List Int) × Str) × Addr × Value):DictEntry:=⟨H x.1,.ref x.2.1,x.2.2⟩
structure KLay (H:Option (List Int) × Str→Int) (o:Obj) (xs:List ((Option (List Int) × Str) × Addr × Value)) (ys:List ((Option (List Int) × Str) × V)):Prop where
 dict:o.ExactDict
 data:∃ es ep,o.data = .dict es ep∧es.toList = xs.map (keyE H)
 nd:(xs.map (·.1)).Nodup
 len:xs.length ≤ sizeLine
 keys:xs.map (·.1) = ys.map (·.1)
inductive Lay:Obj→List Value→List V→O→Prop
 | lst {vs:Array Value} {n:Nat} {xs:List V}:vs.size ≤ sizeLine→Lay { cls:=.type "list",data:=.seq vs n } vs.toList xs (.lst xs)
 | idict {o:Obj} {kvs:List (Int × Value)} {ys:List (Int × V)}:(∀ (prog:Program) (w:World),o.IsDictOf (intKind prog w) kvs)→kvs.length ≤ sizeLine→kvs.map (·.1) = ys.map (·.1)→Lay o (kvs.map (·.2)) (ys.map (·.2)) (.idict ys)
 | kdict {H} {o:Obj} {xs ys}:KLay H o xs ys→Lay o (xs.map (fun x=>.ref x.2.1)++xs.map (·.2.2)) (ys.map (fun y=>kV y.1)++ys.map (·.2)) (.kdict H ys)
 | attrs {o:Obj} {vs:List Value} {xs:List V}:ObNs o (fun y=>(attrNames.zip vs).lookup y)→vs.length ≤ attrNames.length→Lay o vs xs (.attrs xs)
inductive RepO (T:Addr→Prop) (μ:List Addr) (h:Heap) (a:Addr):O→Prop
 | dead:RepO T μ h a .dead
 | priv:RepO T μ h a .priv
 | live {o vs xs ob}:h.get? a = some o→Lay o vs xs ob→RepVs T μ h vs xs→RepO T μ h a ob
theorem RepO.lst {T:Addr→Prop} {μ:List Addr} {h:Heap} {a:Addr} {vs:Array Value} {n:Nat} {xs:List V} (ho:h.get? a = some { cls:=.type "list",data:=.seq vs n }) (hz:vs.size ≤ sizeLine) (r:RepVs T μ h vs.toList xs):RepO T μ h a (.lst xs):=.live ho (.lst hz) r
noncomputable def OutO (T:Addr→Prop) (μ:List Addr) (h:Heap) (a:Addr):O→Prop
 | .lst xs=>∃ (vs:Array Value) (n:Nat),h.get? a = some { cls:=.type "list",data:=.seq vs n }∧vs.size ≤ sizeLine∧RepVs T μ h vs.toList xs
 | .idict ys=>∃ o kvs,h.get? a = some o∧(∀ (prog:Program) (w:World),o.IsDictOf (intKind prog w) kvs)∧kvs.length ≤ sizeLine∧kvs.map (·.1) = ys.map (·.1)∧RepVs T μ h (kvs.map (·.2)) (ys.map (·.2))
 | .kdict H ys=>∃ o xs,h.get? a = some o∧KLay H o xs ys∧RepVs T μ h (xs.map (fun x=>.ref x.2.1)++xs.map (·.2.2)) (ys.map (fun y=>kV y.1)++ys.map (·.2))
 | .attrs xs=>∃ o vs,h.get? a = some o∧ObNs o (fun y=>(attrNames.zip vs).lookup y)∧vs.length ≤ attrNames.length∧RepVs T μ h vs xs
 | .dead=>True
 | .priv=>True
section
variable {T T':Addr→Prop} {μ μ':List Addr} {h h':Heap} {a:Addr} {ob:O}
theorem Lay.out {o:Obj} {vs:List Value} {xs:List V} (L:Lay o vs xs ob):h.get? a = some o→RepVs T μ h vs xs→OutO T μ h a ob :=
 Lay.casesOn (motive:=fun o vs xs ob _=>h.get? a = some o→RepVs T μ h vs xs→OutO T μ h a ob) L (fun hz ho r=>⟨_,_,ho,hz,r⟩) (fun hD hz hk ho r=>⟨_,_,ho,hD,hz,hk,r⟩) (fun hK ho r=>⟨_,_,ho,hK,r⟩) (fun hN hl ho r=>⟨_,_,ho,hN,hl,r⟩)
theorem RepO.out (r:RepO T μ h a ob):OutO T μ h a ob :=
 RepO.casesOn (motive:=fun ob _=>OutO T μ h a ob) r trivial trivial fun ho L r=>L.out ho r
theorem RepO.lst_inv {xs:List V} (x:RepO T μ h a (.lst xs)):∃ (vs:Array Value) (n:Nat),h.get? a = some { cls:=.type "list",data:=.seq vs n }∧vs.size ≤ sizeLine∧RepVs T μ h vs.toList xs:=x.out
theorem RepO.idictI {ys:List (Int × V)} (x:RepO T μ h a (.idict ys)):∃ o kvs,h.get? a = some o∧(∀ (prog:Program) (w:World),o.IsDictOf (intKind prog w) kvs)∧kvs.length ≤ sizeLine∧kvs.map (·.1) = ys.map (·.1)∧RepVs T μ h (kvs.map (·.2)) (ys.map (·.2)):=x.out
theorem RepO.attrsI {xs:List V} (x:RepO T μ h a (.attrs xs)):∃ o vs,h.get? a = some o∧ObNs o (fun y=>(attrNames.zip vs).lookup y)∧vs.length ≤ attrNames.length∧RepVs T μ h vs xs:=x.out
theorem RepO.map (r:RepO T μ h a ob) (f:∀ o,h.get? a = some o→h'.get? a = some o) (g:∀ vs xs,RepVs T μ h vs xs→RepVs T' μ' h' vs xs):RepO T' μ' h' a ob :=
 RepO.casesOn (motive:=fun ob _=>RepO T' μ' h' a ob) r .dead .priv fun ho L r=>.live (f _ ho) L (g _ _ r)
end
structure Cx where
 prog:Program
 w:World
 base:Heap
 A:Around
 env:Env
 sl:Nat→Option Slot
noncomputable def Own (c:Cx) (b:Addr):Prop:=∃ i s,c.sl i = some s∧s.own = b
noncomputable def Hk (w:World):O→Prop
 | .kdict H _=>H = kH w
 | _=>True
theorem Z9f {w:World} {σ:List O} {n:Nat} {o':O} (h:∀ o ∈ σ,Hk w o) (ho:Hk w o'):∀ o ∈ σ.set n o',Hk w o:=fun o q=>(List.mem_or_eq_of_mem_set q).elim (h o) fun e=>e ▸ ho
theorem ZeN {w:World} {σ:List O} {o':O} (h:∀ o ∈ σ,Hk w o) (ho:Hk w o'):∀ o ∈ σ++[o'],Hk w o:=fun o q=>(List.mem_append.mp q).elim (h o) fun e=>List.mem_singleton.mp e ▸ ho
structure Inv (c:Cx) (st:St) (μ:List Addr) (h:Heap):Prop where
 vars:∀ (i:Nat) (x:V),st.ρ[i]? = some (some x)→∃ s v,c.sl i = some s∧s.Holds h v∧RepV (Tr st.σ μ) μ h v x
 slots:∀ i s,c.sl i = some s→s.Ok h
 objs:∀ (n:Nat) (o:O),st.σ[n]? = some o→∃ a,μ[n]? = some a∧RepO (Tr st.σ μ) μ h a o
 len:μ.length = st.σ.length
 nd:μ.Nodup
 lt:∀ a ∈ μ,a < h.objs.size
 base:∀ b o,c.base.get? b = some o→h.get? b = some o
 baseS:∀ b,Own c b→c.base.get? b = none
 baseM:∀ a ∈ μ,c.base.get? a = none
 sep:∀ b,Own c b→b ∉ μ
 kd:∀ o ∈ st.σ,Hk c.w o
structure Stp (c:Cx) (σ:List O) (μ:List Addr) (h:Heap) (σ':List O) (μ':List Addr) (h':Heap):Prop where
 size:h.objs.size ≤ h'.objs.size
 keep:∀ b o,h.get? b = some o→¬ Own c b→¬ Tr σ μ b→h'.get? b = some o
 pre:∀ (n:Nat) (a:Addr),μ[n]? = some a→μ'[n]? = some a
 tr:∀ b,Tr σ' μ' b→Tr σ μ b ∨ h.objs.size ≤ b
 new:∀ a ∈ μ',a ∈ μ ∨ h.objs.size ≤ a
 pv:∀ (n:Nat),σ[n]? = some O.priv→σ'[n]? = some O.priv
 pk:∀ (n:Nat) (a:Addr) (o:Obj),σ[n]? = some O.priv→μ[n]? = some a→h.get? a = some o→h'.get? a = some o
theorem Z45 {σ:List O} {n:Nat} {o o':O} (e:σ[n]? = some o) (h:o ≠ .priv):∀ (k:Nat),σ[k]? = some O.priv→(σ.set n o')[k]? = some O.priv:=fun k q=>by
 have:n ≠ k:=fun x=>by subst x; rw [e] at q; exact h (Option.some.inj q)
 rw [List.getElem?_set_ne this]; exact q
theorem Tr.mem {σ:List O} {μ:List Addr} {b:Addr} (x:Tr σ μ b):b ∈ μ:=let ⟨_,_,_,_,e⟩:=x; List.mem_of_getElem? e
theorem Stp.refl {c:Cx} {σ:List O} {μ:List Addr} {h:Heap}:Stp c σ μ h σ μ h:=⟨Nat.le_refl _,fun _ _ e _ _=>e,fun _ _ e=>e,fun _ e=>.inl e,fun _ e=>.inl e,fun _ e=>e,fun _ _ _ _ _ e=>e⟩
theorem Stp.trans {c:Cx} {σ σ' σ'':List O} {μ μ' μ'':List Addr} {h h' h'':Heap} (x:Stp c σ μ h σ' μ' h') (y:Stp c σ' μ' h' σ'' μ'' h''):Stp c σ μ h σ'' μ'' h'' where
 size:=Nat.le_trans x.size y.size
 keep:=fun b o e h1 h2=>y.keep b o (x.keep b o e h1 h2) h1 fun q=>(x.tr b q).elim h2 fun q=>Nat.lt_irrefl _ (Nat.lt_of_lt_of_le (Heap.lt_size e) q)
 pre:=fun n a e=>y.pre n a (x.pre n a e)
 tr:=fun b q=>(y.tr b q).elim (fun q=>x.tr b q) fun q=>.inr (Nat.le_trans x.size q)
 new:=fun a q=>(y.new a q).elim (fun q=>x.new a q) fun q=>.inr (Nat.le_trans x.size q)
 pv:=fun n e=>y.pv n (x.pv n e)
 pk:=fun n a o e e' e''=>y.pk n a o (x.pv n e) (x.pre n a e') (x.pk n a o e e' e'')
section
variable {c:Cx} {st st':St} {μ μ':List Addr} {h h':Heap}
theorem Inv.own_data (I:Inv c st μ h) {b:Addr} (q:Own c b) {o:Obj} (e:h.get? b = some o):¬ Z5Y o:=by
 refine El.x2_2 q fun i s hs q0z=>?_
 obtain rfl:=q0z
 refine El.x1_2 ((I.slots i s hs).get) fun o' ho hd=>?_
 obtain rfl:=Option.some.inj (e.symm.trans ho)
 rintro (⟨vs,n,hq⟩ | hq) <;> rcases hd with ⟨es,n',hd⟩ | ⟨v,hd⟩ <;> rw [hd] at hq <;> cases hq
theorem RepV.step (I:Inv c st μ h) (S:Stp c st.σ μ h st'.σ μ' h') {v:Value} {x:V} (r:RepV (Tr st.σ μ) μ h v x):RepV (Tr st'.σ μ') μ' h' v x :=
 r.move (fun a o e hd hT=>⟨S.keep a o e (fun q=>I.own_data q e hd) hT,fun q=>(S.tr a q).elim hT fun q=>Nat.lt_irrefl _ (Nat.lt_of_lt_of_le (Heap.lt_size e) q)⟩) S.pre
theorem RepVs.step (I:Inv c st μ h) (S:Stp c st.σ μ h st'.σ μ' h') {v:List Value} {x:List V} (r:RepVs (Tr st.σ μ) μ h v x):RepVs (Tr st'.σ μ') μ' h' v x :=
 r.move (fun a o e hd hT=>⟨S.keep a o e (fun q=>I.own_data q e hd) hT,fun q=>(S.tr a q).elim hT fun q=>Nat.lt_irrefl _ (Nat.lt_of_lt_of_le (Heap.lt_size e) q)⟩) S.pre
noncomputable def Ext (h h':Heap):Prop:=h.objs.size ≤ h'.objs.size∧∀ b o,h.get? b = some o→h'.get? b = some o
theorem Ext.refl:Ext h h:=⟨Nat.le_refl _,fun _ _ e=>e⟩
theorem Ext.trans {h'':Heap} (x:Ext h h') (y:Ext h' h''):Ext h h'':=⟨Nat.le_trans x.1 y.1,fun b o e=>y.2 b o (x.2 b o e)⟩
theorem Ext.push (o:Obj):Ext h (h.push o):=⟨by simp,fun _ _ e=>Heap.get?_push_of_some _ e⟩
theorem RepV.ext {T:Addr→Prop} (e:Ext h h') {v:Value} {x:V} (r:RepV T μ h v x):RepV T μ h' v x :=
 r.move (fun a o q _ hT=>⟨e.2 a o q,hT⟩) fun _ _ q=>q
theorem RepVs.ext {T:Addr→Prop} (e:Ext h h') {v:List Value} {x:List V} (r:RepVs T μ h v x):RepVs T μ h' v x :=
 r.move (fun a o q _ hT=>⟨e.2 a o q,hT⟩) fun _ _ q=>q
theorem RepO.ext {T:Addr→Prop} (e:Ext h h') {a:Addr} {o:O} (r:RepO T μ h a o):RepO T μ h' a o:=r.map (fun _ ho=>e.2 _ _ ho) fun _ _ r=>r.ext e
theorem Inv.ext (I:Inv c st μ h) (e:Ext h h'):Inv c st μ h' where
 vars:=fun i x q=>let ⟨s,v,h1,h2,h3⟩:=I.vars i x q; ⟨s,v,h1,h2.keeps fun o q=>e.2 _ o q,h3.ext e⟩
 slots:=fun i s q=>(I.slots i s q).keeps fun o q=>e.2 _ o q
 objs:=fun n o q=>let ⟨a,h1,h2⟩:=I.objs n o q; ⟨a,h1,h2.ext e⟩
 len:=I.len
 nd:=I.nd
 lt:=fun a q=>Nat.lt_of_lt_of_le (I.lt a q) e.1
 base:=fun b o q=>e.2 b o (I.base b o q)
 baseS:=I.baseS
 baseM:=I.baseM
 sep:=I.sep
 kd:=I.kd
theorem Stp.ext (e:Ext h h') {σ:List O}:Stp c σ μ h σ μ h':=⟨e.1,fun b o q _ _=>e.2 b o q,fun _ _ q=>q,fun _ q=>.inl q,fun _ q=>.inl q,fun _ q=>q,fun _ a o _ _ q=>e.2 a o q⟩
end
noncomputable def Same (s s':Shared):Prop:=s'.gens = s.gens∧s'.drawn = s.drawn∧s'.os = s.os
theorem Same.refl {s:Shared}:Same s s:=⟨rfl,rfl,rfl⟩
theorem Same.trans {s s' s'':Shared} (x:Same s s') (y:Same s' s''):Same s s'':=⟨y.1.trans x.1,y.2.1.trans x.2.1,y.2.2.trans x.2.2⟩
noncomputable def Sim {α β:Type} (c:Cx) (t:Sem α) (m:R β) (rel:St→List Addr→Heap→α→β→Prop) (σ:List O) (μ:List Addr) (s:Shared):Prop :=
 match m with
 | .stuck=>True
 | .exc _ _=>True
 | .ok b st'=>wpAny (model c.prog c.w) c.A t (fun a s'=>∃ μ',rel st' μ' s'.heap a b∧Inv c st' μ' s'.heap∧Stp c σ μ s.heap st'.σ μ' s'.heap∧Same s s') (fun _ _=>False) s
noncomputable def rV (st:St) (μ:List Addr) (h:Heap) (v:Value) (x:V):Prop:=RepV (Tr st.σ μ) μ h v x
noncomputable def rVs (st:St) (μ:List Addr) (h:Heap) (v:List Value) (x:List V):Prop:=RepVs (Tr st.σ μ) μ h v x
noncomputable def rEq {α:Type} (_:St) (_:List Addr) (_:Heap) (v:α) (x:α):Prop:=v = x
section
variable {α β γ δ:Type} {c:Cx} {σ:List O} {μ:List Addr} {s:Shared} {rel:St→List Addr→Heap→α→β→Prop} {rel':St→List Addr→Heap→γ→δ→Prop}
theorem Sim.bind {t:Sem α} {f:α→Sem γ} {m:R β} {g:β→St→R δ} (h:Sim c t m rel σ μ s)
  (hf:∀ b st₁ a μ₁ s₁,m = .ok b st₁→rel st₁ μ₁ s₁.heap a b→Inv c st₁ μ₁ s₁.heap→Stp c σ μ s.heap st₁.σ μ₁ s₁.heap→Sim c (f a) (g b st₁) rel' st₁.σ μ₁ s₁) :
  Sim c (t >>= f) (m.bind g) rel' σ μ s:=by
 cases m with
 | stuck=>trivial
 | exc x st=>trivial
 | ok b st₁=>
  simp only [R.bind_ok]
  cases hg:g b st₁ with
  | stuck=>trivial
  | exc x st=>trivial
  | ok d st₂=>
   refine wpAny_bind (wpAny_mono h (fun a s₁ q8=>El.x1_4 q8 fun μ₁ h1 h2 h3 h4=>?_) fun _ _ e=>e.elim)
   have q:=hf b st₁ a μ₁ s₁ rfl h1 h2 h3
   rw [hg] at q
   exact wpAny_mono q (fun a₂ s₂ q8=>El.x1_4 q8 fun μ₂ k1 k2 k3 k4=>⟨μ₂,k1,k2,h3.trans k3,h4.trans k4⟩) fun _ _ e=>e
theorem Sim.pure {a:α} {b:β} {st:St} (I:Inv c st μ s.heap) (h:rel st μ s.heap a b):Sim c (pure a) (.ok b st) rel st.σ μ s :=
 wpAny_pure ⟨μ,h,I,.refl,.refl⟩
theorem Sim.stuck {t:Sem α}:Sim (β:=β) c t .stuck rel σ μ s:=trivial
theorem Sim.exc {t:Sem α} {x:Str} {st:St}:Sim (β:=β) c t (.exc x st) rel σ μ s:=trivial
theorem Sim.leaf {t:Sem α} {b:β} {st:St} (I:Inv c st μ s.heap)
  (h:wpAny (model c.prog c.w) c.A t (fun a s'=>Ext s.heap s'.heap∧Same s s'∧rel st μ s'.heap a b) (fun _ _=>False) s):Sim c t (.ok b st) rel st.σ μ s :=
 wpAny_mono h (fun _ _ ⟨e,q,r⟩=>⟨μ,r,I.ext e,.ext e,q⟩) fun _ _ e=>e
theorem Sim.holding {vs:List Value} {t:Sem α} {m:R β} (h:Sim c t m rel σ μ s):Sim c (holding vs t) m rel σ μ s:=by
 cases m with
 | stuck=>trivial
 | exc x st=>trivial
 | ok b st=>exact wpAny_holding h
theorem Sim.at {p:Pos} {f:Unit→Sem α} {m:R β} (h:Sim c (f ()) m rel σ μ s):Sim c (standAt p >>= f) m rel σ μ s:=by
 cases m with
 | stuck=>trivial
 | exc x st=>trivial
 | ok b st=>exact wpAny_bind (wpAny_standAt h)
theorem Sim.operate {vs:List Value} {t:Sem Value} {m:R β} {rel:St→List Addr→Heap→Value→β→Prop} (h:Sim c t m rel σ μ s):Sim c (operate vs t) m rel σ μ s:=by
 cases m with
 | stuck=>trivial
 | exc x st=>trivial
 | ok b st=>exact fun Γ p hΓ=>by rw [Sem.wp_operate]; exact h Γ p hΓ
theorem Sim.via {t:Sem α} {T:Sem γ} {f:α→Sem γ} {m:R β} {g:β→St→R δ}
  (hT:∀ Q:γ→Shared→Prop,wpAny (model c.prog c.w) c.A t (fun a s₁=>wpAny (model c.prog c.w) c.A (f a) Q (fun _ _=>False) s₁) (fun _ _=>False) s→wpAny (model c.prog c.w) c.A T Q (fun _ _=>False) s)
  (h:Sim c t m rel σ μ s)
  (hf:∀ b st₁ a μ₁ s₁,m = .ok b st₁→rel st₁ μ₁ s₁.heap a b→Inv c st₁ μ₁ s₁.heap→Stp c σ μ s.heap st₁.σ μ₁ s₁.heap→Sim c (f a) (g b st₁) rel' st₁.σ μ₁ s₁) :
  Sim c T (m.bind g) rel' σ μ s:=by
 cases m with
 | stuck=>trivial
 | exc x st=>trivial
 | ok b st₁=>
  simp only [R.bind_ok]
  cases hg:g b st₁ with
  | stuck=>trivial
  | exc x st=>trivial
  | ok d st₂=>
   refine hT _ (wpAny_mono h (fun a s₁ q8=>El.x1_4 q8 fun μ₁ h1 h2 h3 h4=>?_) fun _ _ e=>e.elim)
   have q:=hf b st₁ a μ₁ s₁ rfl h1 h2 h3
   rw [hg] at q
   exact wpAny_mono q (fun a₂ s₂ q8=>El.x1_4 q8 fun μ₂ k1 k2 k3 k4=>⟨μ₂,k1,k2,h3.trans k3,h4.trans k4⟩) fun _ _ e=>e
theorem Sim.imp {T T':Sem α} {m:R β} (hT:∀ Q:α→Shared→Prop,wpAny (model c.prog c.w) c.A T Q (fun _ _=>False) s→wpAny (model c.prog c.w) c.A T' Q (fun _ _=>False) s) (h:Sim c T m rel σ μ s):Sim c T' m rel σ μ s:=by
 cases m with
 | stuck=>trivial
 | exc x st=>trivial
 | ok b st=>exact hT _ h
theorem Sim.of_eq {t t':Sem α} {m:R β} (e:t = t') (h:Sim c t' m rel σ μ s):Sim c t m rel σ μ s:=e ▸ h
theorem Sim.map {t:Sem α} {m:R β} {f:α→γ} {g:β→δ} (h:Sim c t m rel σ μ s) (hr:∀ st μ h a b,rel st μ h a b→rel' st μ h (f a) (g b)) :
  Sim c (t >>= fun a=>Pure.pure (f a)) (m.bind fun b st=>.ok (g b) st) rel' σ μ s :=
 Sim.bind h fun b st₁ a μ₁ s₁ _ r I _=>Sim.pure I (hr _ _ _ _ _ r)
end
end Mine
namespace Mine
open PySem
inductive Op | add | sub | mul | fdiv | mod
inductive Cm | lt | le | gt | ge | eq | ne | is | isnot | isin | notin
inductive Ty | int | bool | list | tuple | str
inductive Bi | len | int | list | tuple | sorted | max
inductive Me | join | append
mutual
inductive Ex
 | none
 | bool (b:Bool)
 | int (i:Int)
 | str (s:Str)
 | loc (i:Nat)
 | fz (i:Nat)
 | bin (op:Op) (a b:Ex)
 | cmp (op:Cm) (a b:Ex)
 | band (a b:Ex)
 | bor (a b:Ex)
 | not (a:Ex)
 | neg (i:Int)
 | ite (c a b:Ex)
 | tup (es:Exs)
 | list (es:Exs)
 | listM (es:Exs)
 | sub (a i:Ex)
 | slice (a:Ex) (lo hi:Exo)
 | isin (a:Ex) (t:Ty)
 | bi (f:Bi) (a:Ex)
 | me (m:Me) (a b:Ex)
 | call (f:Str) (es:Exs)
 | glob (x:Str) (i:Int)
 | dictM
 | attr (a:Ex) (k:Nat)
 | newI
 | lenSet (a:Ex)
 | minD (a:Ex)
 | min2 (a b:Ex)
 | pop (a:Ex)
 | comp (elt:Ex) (k:Nat) (it:It) (ifs:Exs)
 | dictK
inductive Exs
 | nil
 | cons (e:Ex) (es:Exs)
inductive Exo
 | none
 | some (e:Ex)
inductive It
 | val (e:Ex)
 | range1 (a:Ex)
 | enum (a:Ex)
 | range2 (a b:Ex)
end
mutual
inductive Sm
 | asg (i:Nat) (e:Ex)
 | asgT (is:List Nat) (e:Ex)
 | expr (e:Ex)
 | ret (e:Ex)
 | ifte (c:Ex) (t f:Sms)
 | for1 (i:Nat) (it:It) (body:Sms)
 | forT (is:List Nat) (it:It) (body:Sms)
 | while (c:Ex) (body:Sms)
 | brk
 | stk
 | asgI (a i e:Ex)
 | asgA (a:Ex) (k:Nat) (e:Ex)
 | forD (i:Nat) (e:Ex) (body:Sms)
 | forZ (is:List Nat) (a b:Ex) (body:Sms)
inductive Sms
 | nil
 | cons (s:Sm) (ss:Sms)
end
inductive Fl
 | next
 | brk
 | cont
 | ret (v:V)
mutual
noncomputable def V.eqb:V→V→Bool
 | .none,y=>(match y with | .none=>true | _=>false)
 | .bool a,y=>(match y with | .bool b=>a == b | .int j=>(if a then 1 else 0) == j | _=>false)
 | .int i,y=>(match y with | .bool b=>i == (if b then 1 else 0) | .int j=>i == j | _=>false)
 | .str x,y=>(match y with | .str z=>x == z | _=>false)
 | .lst xs,y=>(match y with | .lst ys=>V.eqbs xs ys | _=>false)
 | .tup xs,y=>(match y with | .tup ys=>V.eqbs xs ys | _=>false)
 | .ref _,_=>false
 | .inst _ _,_=>false
noncomputable def V.eqbs:List V→List V→Bool
 | [],ys=>ys.isEmpty
 | x :: xs,ys=>(match ys with | y :: ys=>V.eqb x y && V.eqbs xs ys | []=>false)
end
mutual
noncomputable def V.depth?:V→Option Nat
 | .tup xs=>(V.depths? xs).map (· + 1)
 | .lst xs=>(V.depths? xs).map (· + 1)
 | .ref _=>Option.none
 | .inst _ _=>Option.none
 | .none=>some 0
 | .bool _=>some 0
 | .int _=>some 0
 | .str _=>some 0
noncomputable def V.depths?:List V→Option Nat
 | []=>some 0
 | x :: xs=>(V.depth? x).bind fun a=>(V.depths? xs).bind fun b=>some (max a b)
end
noncomputable def V.flat64 (x:V):Bool:=x.depth?.any fun d=>decide (d ≤ 64)
noncomputable def lstO:Option O→Option (List V)
 | some (.lst xs)=>some xs
 | _=>none
noncomputable def V.truthy (σ:List O):V→Option Bool
 | .none=>some false
 | .bool b=>some b
 | .int i=>some (i != 0)
 | .str s=>some (!s.isEmpty)
 | .tup xs=>some (!xs.isEmpty)
 | .lst xs=>some (!xs.isEmpty)
 | .ref n=>(lstO σ[n]?).bind fun xs=>some (!xs.isEmpty)
 | .inst _ _=>Option.none
noncomputable def V.isNone:V→Bool
 | .none=>true
 | _=>false
noncomputable def Z0v (i:Int):Bool:=decide (-(2 ^ 63) ≤ i) && decide (i < 2 ^ 63)
noncomputable def Z0D (i:Int):Bool:=decide (-(2 ^ 62) ≤ i) && decide (i < 2 ^ 62)
noncomputable def V.int?:V→Option Int
 | .int i=>some i
 | _=>Option.none
noncomputable def V.str?:V→Option (List Nat)
 | .str l=>some l
 | _=>Option.none
noncomputable def V.tup?:V→Option (List V)
 | .tup l=>some l
 | _=>Option.none
noncomputable def V.lst?:V→Option (List V)
 | .lst l=>some l
 | _=>Option.none
noncomputable def V.ref?:V→Option Nat
 | .ref n=>some n
 | _=>Option.none
noncomputable def V.inst?:V→Option (Nat × Nat)
 | .inst C n=>some (C,n)
 | _=>Option.none
noncomputable def Z0P:Option O→Option (List (Int × V))
 | some (.idict xs)=>some xs
 | _=>none
noncomputable def Z9g:Option O→Option (List V)
 | some (.attrs xs)=>some xs
 | _=>none
noncomputable def Z7a:Option O→Option ((Option (List Int) × Str→Int) × List ((Option (List Int) × Str) × V))
 | some (.kdict H es)=>some (H,es)
 | _=>none
noncomputable def R.need {α β:Type} (o:Option α) (f:α→R β):R β:=match o with
 | some a=>f a
 | none=>.stuck
noncomputable def V.none?:V→Option Unit
 | .none=>some ()
 | _=>Option.none
noncomputable def pick {α β:Type} (o:Option α) (f:α→Option β) (e:Option β):Option β:=match o with
 | some a=>f a
 | none=>e
noncomputable def onI {α:Type} (x y:V) (k:Int→Int→Option α):Option α:=x.int?.bind fun a=>y.int?.bind fun b=>k a b
noncomputable def Z3p (x y:V):Option V:=pick x.int? (fun a=>y.int?.bind fun b=>some (.int (a + b))) <| pick x.str? (fun a=>y.str?.bind fun b=>if a.length + b.length ≤ sizeLine then some (.str (a++b)) else none) <| x.lst?.bind fun a=>y.lst?.bind fun b=>if a.length + b.length ≤ sizeLine then some (.lst (a++b)) else none
noncomputable def Z2n (x y:V):Option V:=y.int?.bind fun b=>pick x.int? (fun a=>if Z0v a || Z0v b then some (.int (a * b)) else none) <| pick x.str? (fun a=>if 2 ≤ b∧b < 128∧a.length * b.toNat ≤ sizeLine then some (.str (List.replicate b.toNat a).flatten) else none) <| x.lst?.bind fun a=>if 0 ≤ b∧b < 64∧a.length * b.toNat ≤ sizeLine then some (.lst (List.replicate b.toNat a).flatten) else none
noncomputable def Z46 (op:Op) (x y:V):Option V:=match op with
 | .add=>Z3p x y
 | .sub=>onI x y fun a b=>some (.int (a - b))
 | .mul=>Z2n x y
 | .fdiv=>onI x y fun a b=>if b = 0 then none else some (.int (Int.fdiv a b))
 | .mod=>onI x y fun a b=>if b = 0 then none else some (.int (Int.fmod a b))
noncomputable def onS {α:Type} (y:V) (k:List Nat→Option α):Option α:=y.str?.bind k
noncomputable def ZgT (x y:V):Option Bool:=onS x fun l=>onS y fun z=>match l with
 | [d]=>some (z.contains d)
 | _=>none
noncomputable def Z0t:List V→Option (List Int)
 | []=>some []
 | .int i :: r=>(Z0t r).map (i :: ·)
 | _=>none
noncomputable def Z1h:List V→Option (List (List Nat))
 | []=>some []
 | .str x :: r=>(Z1h r).map (x :: ·)
 | _=>none
noncomputable def inL (x:V) (ys:List V):Option Bool:=match x with
 | .int k=>(Z0t ys).map fun l=>l.any (· == k)
 | .str k=>(Z1h ys).map fun l=>l.any (· == k)
 | _=>none
noncomputable def ZeO:List V→Option (V × V)
 | [a,b]=>some (a,b)
 | _=>none
noncomputable def ZgU:V→Option (Option (List Int))
 | .none=>some none
 | .tup xs=>(Z0t xs).map some
 | _=>none
noncomputable def ZaS (x:V):Option (Option (List Int) × Str):=x.tup?.bind fun l=>(ZeO l).bind fun p=>(ZgU p.1).bind fun f=>p.2.str?.map fun c=>(f,⟨c.toArray⟩)
noncomputable def Z5Z (σ:List O) (n:Nat) (x:V):Option (Option V):=(ZaS x).bind fun k=>(Z7a σ[n]?).map fun p=>(p.2.find? fun q=>q.1 = k).map (·.2)
noncomputable def inD (σ:List O) (x y:V):Option Bool:=pick y.lst? (fun ys=>inL x ys) <| pick y.ref? (fun n=>pick x.int? (fun k=>(Z0P σ[n]?).map fun es=>es.any fun p=>p.1 = k) ((Z5Z σ n x).map Option.isSome)) (ZgT x y)
noncomputable def Z10 (σ:List O) (op:Cm) (x y:V):Option Bool:=match op with
 | .lt=>onI x y fun a b=>some (decide (a < b))
 | .le=>onI x y fun a b=>some (decide (a ≤ b))
 | .gt=>onI x y fun a b=>some (decide (a > b))
 | .ge=>onI x y fun a b=>some (decide (a ≥ b))
 | .eq=>if x.flat64 && y.flat64 then some (V.eqb x y) else none
 | .ne=>if x.flat64 && y.flat64 then some (!V.eqb x y) else none
 | .is=>(match y with | .none=>some x.isNone | _=>none)
 | .isnot=>(match y with | .none=>some (!x.isNone) | _=>none)
 | .isin=>inD σ x y
 | .notin=>(inD σ x y).map not
noncomputable def Z0n {α:Type} (xs:List α) (i:Int):Option α :=
 if Z0v i then (if 0 ≤ i then xs[i.toNat]? else if -(xs.length:Int) ≤ i then xs[(i + xs.length).toNat]? else none) else none
noncomputable def dGet (es:List (Int × V)) (k:Int):Option V:=(es.find? fun p=>p.1 = k).map (·.2)
noncomputable def Z0H (σ:List O) (x y:V):Option V:=pick x.tup? (fun xs=>y.int?.bind fun i=>Z0n xs i) <| pick x.lst? (fun xs=>y.int?.bind fun i=>Z0n xs i) <| pick x.str? (fun l=>y.int?.bind fun i=>(Z0n l i).map fun c=>.str [c]) <| x.ref?.bind fun n=>pick (lstO σ[n]?) (fun xs=>y.int?.bind fun i=>Z0n xs i) <| pick (Z0P σ[n]?) (fun es=>y.int?.bind fun i=>dGet es i) ((Z5Z σ n y).bind id)
noncomputable def cutL {α:Type} (xs:List α) (lo hi:Option Int):List α :=
 (xs.drop (lo.elim 0 (clipAt xs.length))).take (hi.elim xs.length (clipAt xs.length) - lo.elim 0 (clipAt xs.length))
noncomputable def ZaT (x:V):Option (Option Int):=pick x.int? (fun i=>some (some i)) (x.none?.bind fun _=>some none)
noncomputable def Z0E (σ:List O) (x lo hi:V):Option V:=(ZaT lo).bind fun l=>(ZaT hi).bind fun h=>pick x.str? (fun x=>some (.str (cutL x l h))) <| pick x.lst? (fun xs=>some (.lst (cutL xs l h))) <| x.ref?.bind fun n=>(lstO σ[n]?).bind fun xs=>some (.lst (cutL xs l h))
noncomputable def Zd5 (σ:List O) (t:Ty) (x:V):Option Bool:=match x with
 | .none=>some false
 | .bool _=>(match t with | .int=>some true | .bool=>some true | _=>none)
 | .int _=>(match t with | .int=>some true | .bool=>some false | _=>none)
 | .str _=>(match t with | .int=>some false | .bool=>some false | .str=>some true | _=>none)
 | .tup _=>(match t with | .int=>some false | .bool=>some false | .list=>some false | .tuple=>some true | _=>none)
 | .lst _=>(match t with | .int=>some false | .bool=>some false | .list=>some true | .tuple=>some false | _=>none)
 | .ref n=>(match t with | .list=>(match σ[n]? with | some (.lst _)=>some true | _=>none) | _=>none)
 | .inst _ _=>none
noncomputable def insI (i:Int):List Int→List Int
 | []=>[i]
 | j :: r=>if i ≤ j then i :: j :: r else j :: insI i r
noncomputable def Z7b (l:List Int):List Int:=l.foldr insI []
noncomputable def Z1n (σ:List O) (f:Bi) (x:V):Option V:=match f with
 | .len=>pick x.str? (fun x=>some (.int x.length)) <| pick x.tup? (fun xs=>some (.int xs.length)) <| pick x.lst? (fun xs=>some (.int xs.length)) <| x.ref?.bind fun n=>(lstO σ[n]?).bind fun xs=>some (.int xs.length)
 | .int=>(match x with
  | .bool b=>some (.int (if b then 1 else 0))
  | .int i=>some (.int i)
  | _=>none)
 | .list=>pick x.lst? (fun xs=>some (.lst xs)) <| x.str?.bind fun x=>some (.lst (x.map fun c=>.str [c]))
 | .tuple=>x.lst?.bind fun xs=>some (.tup xs)
 | .sorted=>x.ref?.bind fun n=>(Z0P σ[n]?).bind fun es=>if es.length < 64 then some (.lst ((Z7b (es.map (·.1))).map .int)) else none
 | .max=>x.lst?.bind fun xs=>(match Z0t xs with | some (i :: l)=>some (.int (l.foldl max i)) | _=>none)
noncomputable def Z0Q (x:V):Option V:=match x with
 | .str l=>if l.length < 4000∧l.all (· < 128) = true then some (.int l.eraseDups.length) else none
 | _=>none
noncomputable def Z47 (x:V):Option V:=match x with
 | .lst xs=>(match Z0t xs with | some []=>some .none | some (i :: l)=>some (.int (l.foldl min i)) | none=>none)
 | _=>none
noncomputable def popR (x:V) (st:St):R V:=R.need x.ref? fun n=>R.need (lstO st.σ[n]?) fun xs=>R.need xs.getLast? fun y=>.ok y ⟨st.ρ,st.σ.set n (.lst xs.dropLast)⟩
noncomputable def Z1G (q:Option Int) (σ:List O) (x:V) (k:Nat):Option V:=match x with
 | .inst C n=>if q = some (C:Int) then (match σ[n]? with
  | some (.attrs xs)=>xs[k]?
  | _=>none) else none
 | _=>none
noncomputable def setAt (xs:List V) (k:Nat) (v:V):Option (List V):=if k < xs.length then some (xs.set k v) else if k = xs.length then some (xs++[v]) else none
noncomputable def Z0k:Str:=("Leaves":Str)
noncomputable def Z0z:Str:=("{}":Str)
noncomputable def Z0F:Str:=("Leaves.__init__":Str)
noncomputable def Zfj (x y:V) (st:St):R V:=match x with
 | .str []=>(match y with
  | .lst xs=>(match Z1h xs with | some l=>if l.flatten.length ≤ sizeLine then .ok (.str l.flatten) st else .stuck | none=>.stuck)
  | _=>.stuck)
 | _=>.stuck
noncomputable def ZgV (x y:V) (st:St):R V:=match x with
 | .ref n=>(match st.σ[n]? with
  | some (.lst xs)=>if xs.length < sizeLine then .ok .none ⟨st.ρ,st.σ.set n (.lst (xs++[y]))⟩ else .stuck
  | _=>.stuck)
 | _=>.stuck
noncomputable def Z1H (m:Me) (x y:V) (st:St):R V:=match m with
 | .join=>Zfj x y st
 | .append=>ZgV x y st
noncomputable def Z3q (σ:List O):Me→V→Bool
 | .append,.ref n=>(match σ[n]? with | some (.lst _)=>true | _=>false)
 | .append,_=>false
 | _,.str _=>true
 | _,_=>false
noncomputable def upTo (a b:Int):List V:=(List.range (b - a).toNat).map fun (k:Nat)=>.int (a + (k:Int))
noncomputable def Z18 (σ:List O):V→Option (List V)
 | .str x=>some (x.map fun c=>.str [c])
 | .lst xs=>some xs
 | .tup xs=>some xs
 | _=>none
noncomputable def Z2S (n:Nat):List V→List V
 | []=>[]
 | x :: xs=>.tup [.int n,x] :: Z2S (n + 1) xs
theorem Z7c (n:Nat):Z2S n [] = []:=rfl
theorem Zam (n:Nat) (x:V) (xs:List V):Z2S n (x :: xs) = .tup [.int n,x] :: Z2S (n + 1) xs:=rfl
noncomputable def ZhK (x:V) (st:St):R (List V):=match x with
 | .lst xs=>.ok (Z2S 0 xs) ⟨st.ρ,st.σ++[.priv]⟩
 | _=>.stuck
noncomputable def Z0T (es:List (Int × V)) (k:Int) (v:V):List (Int × V):=if es.any (fun p=>p.1 = k) then es.map (fun p=>if p.1 = k then (p.1,v) else p) else es++[(k,v)]
noncomputable def ZgW (n:Nat) (y v:V) (st:St):R Fl:=R.need (ZaS y) fun k=>R.need (Z7a st.σ[n]?) fun p=>if p.2.length < sizeLine && (p.2.find? fun q=>q.1 = k).isNone then .ok .next ⟨st.ρ,st.σ.set n (.kdict p.1 (p.2++[(k,v)]))⟩ else .stuck
noncomputable def setD (n:Nat) (k:Int) (v:V) (st:St):R Fl:=R.need (Z0P st.σ[n]?) fun es=>if es.length < sizeLine then .ok .next ⟨st.ρ,st.σ.set n (.idict (Z0T es k v))⟩ else .stuck
noncomputable def setL (n:Nat) (k:Int) (v:V) (st:St):R Fl:=R.need (lstO st.σ[n]?) fun xs=>if 0 ≤ k∧k < xs.length then .ok .next ⟨st.ρ,st.σ.set n (.lst (xs.set k.toNat v))⟩ else .stuck
noncomputable def R.or {α:Type} (m n:R α):R α:=match m with
 | .ok a st=>.ok a st
 | .exc x st=>.exc x st
 | .stuck=>n
noncomputable def setI (x y v:V) (st:St):R Fl:=R.need x.ref? fun n=>R.or (ZgW n y v st) (R.need y.int? fun k=>R.or (setD n k v st) (setL n k v st))
noncomputable def setA (q:Option Int) (x v:V) (k:Nat) (st:St):R Fl:=R.need x.inst? fun p=>if q = some (p.1:Int) then R.need (Z9g st.σ[p.2]?) fun xs=>R.need (setAt xs k v) fun ys=>if ys.length ≤ attrNames.length then .ok .next ⟨st.ρ,st.σ.set p.2 (.attrs ys)⟩ else .stuck else .stuck
abbrev Fn:=Str→List V→List O→R V
noncomputable def clsF (F:Fn):Option Int:=match F Z0k [.none] [] with
 | .ok (.int C) _=>some C
 | _=>none
noncomputable def setV (st:St) (i:Nat) (x:V):St:=⟨st.ρ.set i (some x),st.σ⟩
noncomputable def Z7d (st:St):List Nat→List V→Option St
 | [],[]=>some st
 | i :: is,x :: xs=>Z7d (setV st i x) is xs
 | _,_=>none
noncomputable def asT (is:List Nat) (x:V) (st:St):R Unit:=R.need x.tup? fun xs=>R.need (Z7d st is xs) fun st'=>.ok () st'
noncomputable def forR (step:V→St→R Fl):List V→St→R Fl
 | [],st=>.ok .next st
 | x :: xs,st=>(step x st).bind fun fl st=>match fl with
  | .next=>forR step xs st
  | .cont=>forR step xs st
  | .brk=>.ok .next st
  | .ret v=>.ok (.ret v) st
noncomputable def Zd6 (step:V→St→R Fl) (x y:V) (st:St):R Fl:=R.need x.ref? fun m=>R.need (lstO st.σ[m]?) fun xs=>R.need y.lst? fun ys=>(forR step ((xs.zip ys).map fun p=>.tup [p.1,p.2]) ⟨st.ρ,st.σ.set m .priv++[.priv]⟩).bind fun fl st'=>.ok fl ⟨st'.ρ,st'.σ.set m (.lst xs)⟩
noncomputable def rng2 (x y:V) (st:St):R (List V):=R.need x.int? fun a=>R.need y.int? fun b=>if Z0D a && Z0D b then .ok (upTo a b) st else .stuck
noncomputable def Zd7 (step:V→St→R Fl) (x:V) (st:St):R Fl:=R.need x.ref? fun n=>R.need (Z0P st.σ[n]?) fun es=>(forR step (es.map fun p=>.int p.1) ⟨st.ρ,st.σ.set n .priv⟩).bind fun fl st'=>.ok fl ⟨st'.ρ,st'.σ.set n (.idict es)⟩
noncomputable def Z0U (test:St→R Bool) (body:St→R Fl):Nat→St→R Fl
 | 0,_=>.stuck
 | k + 1,st=>(test st).bind fun b st=>if b then (body st).bind fun fl st=>(match fl with
   | .next=>Z0U test body k st
   | .cont=>Z0U test body k st
   | .brk=>.ok .next st
   | .ret v=>.ok (.ret v) st)
  else .ok .next st
noncomputable def Z2T (k n:Nat) (tests:St→R Bool) (elt:St→R V):List V→St→R Unit
 | [],st=>.ok () st
 | x :: xs,st=>(tests (setV st k x)).bind fun b st=>if b then (elt st).bind fun y st=>(match st.σ[n]? with
   | some (.lst acc)=>if acc.length < sizeLine then Z2T k n tests elt xs ⟨st.ρ,st.σ.set n (.lst (acc++[y]))⟩ else .stuck
   | _=>.stuck) else Z2T k n tests elt xs st
noncomputable def Z0a (m:R V):R Bool:=m.bind fun v st=>R.lift (v.truthy st.σ) st
noncomputable def Z5f (r:R V) (ρ:List (Option V)):R V:=match r with
 | .ok v st=>.ok v ⟨ρ,st.σ⟩
 | .exc x st=>.exc x ⟨ρ,st.σ⟩
 | .stuck=>.stuck
mutual
noncomputable def evE (F:Fn):Ex→St→R V
 | .none,st=>.ok .none st
 | .bool b,st=>.ok (.bool b) st
 | .int i,st=>.ok (.int i) st
 | .str s,st=>.ok (.str s.cps.toList) st
 | .loc i,st=>match st.ρ[i]? with
  | some (some v)=>.ok v st
  | _=>.stuck
 | .fz i,st=>match st.ρ[i]? with
  | some (some (.ref n))=>(match st.σ[n]? with
   | some (.lst xs)=>.ok (.lst xs) ⟨st.ρ.set i (some (.lst xs)),st.σ.set n .dead⟩
   | _=>.stuck)
  | some (some (.lst xs))=>.ok (.lst xs) st
  | _=>.stuck
 | .bin op a b,st=>(evE F a st).bind fun x st=>(evE F b st).bind fun y st=>R.lift (Z46 op x y) st
 | .cmp op a b,st=>(evE F a st).bind fun x st=>(evE F b st).bind fun y st=>R.lift ((Z10 st.σ op x y).map .bool) st
 | .band a b,st=>(evE F a st).bind fun x st=>(R.lift (x.truthy st.σ) st).bind fun t st=>if t then evE F b st else .ok x st
 | .bor a b,st=>(evE F a st).bind fun x st=>(R.lift (x.truthy st.σ) st).bind fun t st=>if t then .ok x st else evE F b st
 | .not a,st=>(Z0a (evE F a st)).bind fun t st=>.ok (.bool (!t)) st
 | .neg i,st=>.ok (.int (-i)) st
 | .ite c a b,st=>(Z0a (evE F c st)).bind fun t st=>if t then evE F a st else evE F b st
 | .tup es,st=>(evEs F es st).bind fun xs st=>if xs.length ≤ sizeLine then .ok (.tup xs) st else .stuck
 | .list es,st=>(evEs F es st).bind fun xs st=>if xs.length ≤ sizeLine then .ok (.lst xs) st else .stuck
 | .listM es,st=>(evEs F es st).bind fun xs st=>if xs.length ≤ sizeLine then .ok (.ref st.σ.length) ⟨st.ρ,st.σ++[.lst xs]⟩ else .stuck
 | .sub a i,st=>(evE F a st).bind fun x st=>(evE F i st).bind fun y st=>R.lift (Z0H st.σ x y) st
 | .slice a lo hi,st=>(evE F a st).bind fun x st=>(evO F lo st).bind fun l st=>(evO F hi st).bind fun h st=>R.lift (Z0E st.σ x l h) st
 | .isin a t,st=>(evE F a st).bind fun x st=>R.lift ((Zd5 st.σ t x).map .bool) st
 | .bi f a,st=>(evE F a st).bind fun x st=>R.lift (Z1n st.σ f x) st
 | .me m a b,st=>(evE F a st).bind fun x st=>if Z3q st.σ m x then (evE F b st).bind fun y st=>Z1H m x y st else .stuck
 | .call f es,st=>(evEs F es st).bind fun xs st=>Z5f (F f xs st.σ) st.ρ
 | .glob _ i,st=>.ok (.int i) st
 | .dictM,st=>.ok (.ref st.σ.length) ⟨st.ρ,st.σ++[.idict []]⟩
 | .attr a k,st=>(evE F a st).bind fun x st=>R.lift (Z1G (clsF F) st.σ x k) st
 | .dictK,st=>Z5f (F Z0z [] st.σ) st.ρ
 | .newI,st=>Z5f (F Z0k [] st.σ) st.ρ
 | .lenSet a,st=>(evE F a st).bind fun x st=>R.lift (Z0Q x) st
 | .minD a,st=>(evE F a st).bind fun x st=>R.lift (Z47 x) st
 | .min2 a b,st=>(evE F a st).bind fun x st=>(evE F b st).bind fun y st=>R.lift (onI x y fun a b=>some (.int (if b < a then b else a))) st
 | .pop a,st=>(evE F a st).bind fun x st=>popR x st
 | .comp elt k it ifs,st=>(evIt F it st).bind fun items st=>(Z2T k st.σ.length (evTs F ifs) (evE F elt) items ⟨st.ρ.set k none,st.σ++[.lst []]⟩).bind fun _ st'=>
   match st'.σ[st.σ.length]? with
   | some (.lst ys)=>.ok (.lst ys) ⟨st'.ρ.set k none,st'.σ.set st.σ.length .dead⟩
   | _=>.stuck
noncomputable def evEs (F:Fn):Exs→St→R (List V)
 | .nil,st=>.ok [] st
 | .cons e es,st=>(evE F e st).bind fun x st=>(evEs F es st).bind fun xs st=>.ok (x :: xs) st
noncomputable def evTs (F:Fn):Exs→St→R Bool
 | .nil,st=>.ok true st
 | .cons e es,st=>(Z0a (evE F e st)).bind fun b st=>if b then evTs F es st else .ok false st
noncomputable def evO (F:Fn):Exo→St→R V
 | .none,st=>.ok .none st
 | .some e,st=>evE F e st
noncomputable def evIt (F:Fn):It→St→R (List V)
 | .val e,st=>(evE F e st).bind fun x st=>R.lift (Z18 st.σ x) st
 | .range1 a,st=>(evE F a st).bind fun x st=>(match x with
  | .int n=>if Z0D n then .ok (upTo 0 n) st else .stuck
  | _=>.stuck)
 | .enum a,st=>(evE F a st).bind fun x st=>ZhK x st
 | .range2 a b,st=>(evE F a st).bind fun x st=>(evE F b st).bind fun y st=>rng2 x y st
end
mutual
noncomputable def evS (F:Fn) (K:Nat):Sm→St→R Fl
 | .asg i e,st=>(evE F e st).bind fun x st=>.ok .next (setV st i x)
 | .asgT is e,st=>(evE F e st).bind fun x st=>(asT is x st).bind fun _ st=>.ok .next st
 | .expr e,st=>(evE F e st).bind fun _ st=>.ok .next st
 | .ret e,st=>(evE F e st).bind fun x st=>.ok (.ret x) st
 | .ifte c t f,st=>(Z0a (evE F c st)).bind fun b st=>if b then evSs F K t st else evSs F K f st
 | .for1 i it body,st=>(evIt F it st).bind fun items st=>forR (fun x st=>evSs F K body (setV st i x)) items st
 | .forT is it body,st=>(evIt F it st).bind fun items st=>forR (fun x st=>(asT is x st).bind fun _ st=>evSs F K body st) items st
 | .while c body,st=>Z0U (fun st=>Z0a (evE F c st)) (fun st=>evSs F K body st) K st
 | .brk,st=>.ok .brk st
 | .stk,_=>.stuck
 | .asgI a i e,st=>(evE F e st).bind fun v st=>(evE F a st).bind fun x st=>(evE F i st).bind fun y st=>setI x y v st
 | .asgA a k e,st=>(evE F e st).bind fun v st=>(evE F a st).bind fun x st=>setA (clsF F) x v k st
 | .forZ is a b body,st=>(evE F a st).bind fun x st=>(evE F b st).bind fun y st=>Zd6 (fun x st=>(asT is x st).bind fun _ st=>evSs F K body st) x y st
 | .forD i e body,st=>(evE F e st).bind fun x st=>Zd7 (fun x st=>evSs F K body (setV st i x)) x st
noncomputable def evSs (F:Fn) (K:Nat):Sms→St→R Fl
 | .nil,st=>.ok .next st
 | .cons s ss,st=>(evS F K s st).bind fun fl st=>match fl with
  | .next=>evSs F K ss st
  | f=>.ok f st
end
structure Def where
 name:Str
 params:List Str
 locals:List Str
 slots:Nat
 body:Sms
 globs:List (Str × Int)
mutual
noncomputable def V.lo (n:Nat):V→Bool
 | .ref k=>decide (k < n)
 | .inst _ k=>decide (k < n)
 | .tup xs=>V.los n xs
 | .lst xs=>V.los n xs
 | .none=>true
 | .bool _=>true
 | .int _=>true
 | .str _=>true
noncomputable def V.los (n:Nat):List V→Bool
 | []=>true
 | x :: xs=>V.lo n x && V.los n xs
end
noncomputable def Fl.val:Fl→V
 | .ret v=>v
 | _=>.none
noncomputable def O.lo (n:Nat):O→Bool
 | .lst xs=>V.los n xs
 | .idict es=>V.los n (es.map (·.2))
 | .kdict _ es=>V.los n (es.map (fun y=>kV y.1)++es.map (·.2))
 | .attrs xs=>V.los n xs
 | .dead=>true
 | .priv=>true
noncomputable def Z07 (F:Fn) (K:Nat) (d:Def) (args:List V) (σ:List O):R V :=
 if args.length = d.params.length then
  (evSs F K d.body ⟨args.map some++List.replicate (d.slots - args.length) none,σ⟩).bind fun fl st=>
   if fl.val.lo σ.length && (st.σ.take σ.length).all (O.lo σ.length) then .ok fl.val ⟨[],st.σ.take σ.length⟩ else .ok fl.val ⟨[],st.σ⟩
 else .stuck
noncomputable def newR (C:Nat) (F:Fn) (σ:List O):R V:=(F Z0F [.inst C σ.length] (σ++[.attrs []])).bind fun r st=>match r with
 | .none=>.ok (.inst C σ.length) st
 | _=>.stuck
noncomputable def Z08 (C:Nat × (Option (List Int) × Str→Int)) (defs:List Def) (K:Nat):Nat→Fn
 | 0=>fun _ _ _=>.stuck
 | n + 1=>fun f args σ=>if f = Z0k then (if args.isEmpty then newR C.1 (Z08 C defs K n) σ else .ok (.int C.1) ⟨[],σ⟩) else if f = Z0z then .ok (.ref σ.length) ⟨[],σ++[.kdict C.2 []]⟩ else R.need (defs.find? fun d=>d.name == f) fun d=>Z07 (Z08 C defs K n) K d args σ
theorem Z3M (C:Nat × (Option (List Int) × Str→Int)) (defs:List Def) (K n:Nat) (f:Str) (args:List V) (σ:List O):Z08 C defs K (n + 1) f args σ = (if f = Z0k then (if args.isEmpty then newR C.1 (Z08 C defs K n) σ else .ok (.int C.1) ⟨[],σ⟩) else if f = Z0z then .ok (.ref σ.length) ⟨[],σ++[.kdict C.2 []]⟩ else R.need (defs.find? fun d=>d.name == f) fun d=>Z07 (Z08 C defs K n) K d args σ):=Eq.trans rfl rfl
theorem Zfk {x:V} {i:Unit} (h:x.none? = some i):x = .none:=by cases x <;> cases h; rfl
theorem Z0I {x:V} {i:Int} (h:x.int? = some i):x = .int i:=by cases x <;> cases h; rfl
theorem Z2b {x:V} {i:List Nat} (h:x.str? = some i):x = .str i:=by cases x <;> cases h; rfl
theorem Z9h {x:V} {i:List V} (h:x.tup? = some i):x = .tup i:=by cases x <;> cases h; rfl
theorem Z1D {x:V} {i:List V} (h:x.lst? = some i):x = .lst i:=by cases x <;> cases h; rfl
theorem Z1I {x:V} {i:Nat} (h:x.ref? = some i):x = .ref i:=by cases x <;> cases h; rfl
theorem Zfl {x:V} {i:Nat × Nat} (h:x.inst? = some i):x = .inst i.1 i.2:=by cases x <;> cases h; rfl
theorem Z1o {o:Option O} {i:List V} (h:lstO o = some i):o = some (.lst i):=by
 cases o with
 | none=>cases h
 | some o=>cases o <;> cases h; rfl
theorem Z1J {o:Option O} {i:List (Int × V)} (h:Z0P o = some i):o = some (.idict i):=by
 cases o with
 | none=>cases h
 | some o=>cases o <;> cases h; rfl
theorem ZaU {o:Option O} {i:List V} (h:Z9g o = some i):o = some (.attrs i):=by
 cases o with
 | none=>cases h
 | some o=>cases o <;> cases h; rfl
theorem Z7e {o:Option O} {i:(Option (List Int) × Str→Int) × List ((Option (List Int) × Str) × V)} (h:Z7a o = some i):o = some (.kdict i.1 i.2):=by
 cases o with
 | none=>cases h
 | some o=>cases o <;> cases h; rfl
section
variable {α β:Type} {b:α} {st st':St} {G:Prop}
theorem Z0d {o:Option β} {f:β→R α} (h:R.need o f = .ok b st') (k:∀ a,o = some a→f a = .ok b st'→G):G:=by
 cases o with
 | none=>cases h
 | some a=>exact k a rfl h
theorem Z11 {o:Option β} {a:β} {f:β→R α} (h:o = some a):R.need o f = f a:=by subst h; rfl
theorem ZeP {m n:R α} (h:R.or m n = .ok b st') (k1:m = .ok b st'→G) (k2:n = .ok b st'→G):G:=by
 cases m with
 | ok a s=>exact k1 h
 | exc x s=>cases h
 | stuck=>exact k2 h
theorem Z8h {c:Prop} [Decidable c] {m:R α} (h:(if c then m else .stuck) = .ok b st') (k:c→m = .ok b st'→G):G:=by
 by_cases hc:c
 ·rw [if_pos hc] at h; exact k hc h
 ·rw [if_neg hc] at h; cases h
theorem Z0l {γ:Type} {d:γ} {o:Option β} {f:β→Option γ} {e:Option γ} (h:pick o f e = some d) (k1:∀ a,o = some a→f a = some d→G) (k2:e = some d→G):G:=by
 cases o with
 | none=>exact k2 h
 | some a=>exact k1 a rfl h
theorem bnd {γ:Type} {d:γ} {o:Option β} {f:β→Option γ} (h:o.bind f = some d) (k:∀ a,o = some a→f a = some d→G):G:=by
 cases o with
 | none=>cases h
 | some a=>exact k a rfl h
theorem Z1p {γ:Type} {d:γ} {c:Prop} [Decidable c] {m:Option γ} (h:(if c then m else none) = some d) (k:c→m = some d→G):G:=by
 by_cases hc:c
 ·rw [if_pos hc] at h; exact k hc h
 ·rw [if_neg hc] at h; cases h
theorem ok1 {c:α} (h:R.ok b st = .ok c st'):c = b:=(R.ok.inj h).1.symm
theorem ok2 {c:α} (h:R.ok b st = .ok c st'):st' = st:=(R.ok.inj h).2.symm
end
theorem Sim.lift {α β:Type} {c:Cx} {t:Sem α} {o:Option β} {st:St} {rel:St→List Addr→Heap→α→β→Prop} {σ:List O} {μ:List Addr} {s:Shared} (h:∀ b,o = some b→Sim c t (.ok b st) rel σ μ s):Sim c t (R.lift o st) rel σ μ s:=by
 cases o with
 | none=>trivial
 | some b=>exact h b rfl
theorem Zfm {x y:V} {k:Int→Int→Option V} {z:V} (h:onI x y k = some z):∃ a b,x = .int a∧y = .int b∧k a b = some z :=
 El.x1_2 (Option.bind_eq_some_iff.mp h) fun a ea h=>El.x1_2 (Option.bind_eq_some_iff.mp h) fun b eb h=>⟨a,b,Z0I ea,Z0I eb,h⟩
theorem Zd8 {x y:V} {st st':St} {xs:List V} (h:rng2 x y st = .ok xs st'):∃ a b,x = .int a∧y = .int b∧(Z0D a && Z0D b) = true∧xs = upTo a b∧st' = st :=
 Z0d h fun a ea h=>Z0d h fun b eb h=>Z8h h fun hs h=>⟨a,b,Z0I ea,Z0I eb,hs,ok1 h,ok2 h⟩
theorem Zd9 {x y:V} {st st':St} (h:popR x st = .ok y st'):∃ k xs,x = .ref k∧st.σ[k]? = some (.lst xs)∧xs.getLast? = some y∧st' = ⟨st.ρ,st.σ.set k (.lst xs.dropLast)⟩ :=
 Z0d h fun k ek h=>Z0d h fun xs e h=>Z0d h fun z hz h=>⟨k,xs,Z1I ek,Z1o e,hz.trans (congrArg some (ok1 h).symm),ok2 h⟩
theorem Zfn {is:List Nat} {x:V} {st st':St} (h:asT is x st = .ok () st'):∃ xs,x = .tup xs∧Z7d st is xs = some st' :=
 Z0d h fun xs ex h=>Z0d h fun s e h=>⟨xs,Z9h ex,e.trans (congrArg some (ok2 h).symm)⟩
theorem Zda {st stF:St} {x y:V} {q:Option Int} {k:Nat} {fl:Fl} (h:setA q x y k st = .ok fl stF):∃ C m xs ys,x = .inst C m∧q = some ((C:Nat):Int)∧st.σ[m]? = some (.attrs xs)∧setAt xs k y = some ys∧ys.length ≤ attrNames.length∧fl = .next∧stF = ⟨st.ρ,st.σ.set m (.attrs ys)⟩ :=
 Z0d h fun p ep h=>Z8h h fun hq h=>Z0d h fun xs e h=>Z0d h fun ys es h=>Z8h h fun hz h=>⟨p.1,p.2,xs,ys,Zfl ep,hq,ZaU e,es,hz,ok1 h,ok2 h⟩
theorem ZaV {step:V→St→R Fl} {x:V} {st stF:St} {fl:Fl} (h:Zd7 step x st = .ok fl stF):∃ m es stB,x = .ref m∧st.σ[m]? = some (.idict es)∧forR step (es.map fun p=>.int p.1) ⟨st.ρ,st.σ.set m .priv⟩ = .ok fl stB∧stF = ⟨stB.ρ,stB.σ.set m (.idict es)⟩ :=
 Z0d h fun m em h=>Z0d h fun es e h=>El.x2_2 (R.bind_inv h) fun fl' stB h1 h2=>⟨m,es,stB,Z1I em,Z1J e,h1.trans (congrArg (R.ok · stB) (ok1 h2).symm),ok2 h2⟩
theorem ZaW {step:V→St→R Fl} {x y:V} {st stF:St} {fl:Fl} (h:Zd6 step x y st = .ok fl stF):∃ m xs ys stB,x = .ref m∧y = .lst ys∧st.σ[m]? = some (.lst xs)∧forR step ((xs.zip ys).map fun p=>.tup [p.1,p.2]) ⟨st.ρ,st.σ.set m .priv++[.priv]⟩ = .ok fl stB∧stF = ⟨stB.ρ,stB.σ.set m (.lst xs)⟩ :=
 Z0d h fun m em h=>Z0d h fun xs e h=>Z0d h fun ys ey h=>El.x2_2 (R.bind_inv h) fun fl' stB h1 h2=>⟨m,xs,ys,stB,Z1I em,Z1D ey,Z1o e,h1.trans (congrArg (R.ok · stB) (ok1 h2).symm),ok2 h2⟩
theorem ZaX {l:List V} {p:V × V} (h:ZeO l = some p):l = [p.1,p.2]:=by
 cases l with
 | nil=>cases h
 | cons a l=>cases l with
  | nil=>cases h
  | cons b l=>cases l with
   | nil=>cases h; rfl
   | cons c l=>cases h
theorem Z60 (F:Fn) (i:Int) (st:St):evE F (.int i) st = (.ok (.int i) st):=Eq.trans rfl rfl
theorem Zfo (F:Fn) (s:Str) (st:St):evE F (.str s) st = (.ok (.str s.cps.toList) st):=Eq.trans rfl rfl
theorem Z1K (F:Fn) (i:Nat) (st:St):evE F (.loc i) st = (match st.ρ[i]? with
  | some (some v)=>.ok v st
  | _=>.stuck):=Eq.trans rfl rfl
theorem ZaY (F:Fn) (i:Nat) (st:St):evE F (.fz i) st = (match st.ρ[i]? with
  | some (some (.ref n))=>(match st.σ[n]? with
   | some (.lst xs)=>.ok (.lst xs) ⟨st.ρ.set i (some (.lst xs)),st.σ.set n .dead⟩
   | _=>.stuck)
  | some (some (.lst xs))=>.ok (.lst xs) st
  | _=>.stuck):=Eq.trans rfl rfl
theorem ZaZ (F:Fn) (op:Op) (a b:Ex) (st:St):evE F (.bin op a b) st = ((evE F a st).bind fun x st=>(evE F b st).bind fun y st=>R.lift (Z46 op x y) st):=Eq.trans rfl rfl
theorem Zfp (F:Fn) (op:Cm) (a b:Ex) (st:St):evE F (.cmp op a b) st = ((evE F a st).bind fun x st=>(evE F b st).bind fun y st=>R.lift ((Z10 st.σ op x y).map .bool) st):=Eq.trans rfl rfl
theorem Zfq (F:Fn) (es:Exs) (st:St):evE F (.tup es) st = ((evEs F es st).bind fun xs st=>if xs.length ≤ sizeLine then .ok (.tup xs) st else .stuck):=Eq.trans rfl rfl
theorem Zdb (F:Fn) (es:Exs) (st:St):evE F (.list es) st = ((evEs F es st).bind fun xs st=>if xs.length ≤ sizeLine then .ok (.lst xs) st else .stuck):=Eq.trans rfl rfl
theorem Zfr (F:Fn) (a i:Ex) (st:St):evE F (.sub a i) st = ((evE F a st).bind fun x st=>(evE F i st).bind fun y st=>R.lift (Z0H st.σ x y) st):=Eq.trans rfl rfl
theorem Z9i (F:Fn) (f:Str) (es:Exs) (st:St):evE F (.call f es) st = ((evEs F es st).bind fun xs st=>Z5f (F f xs st.σ) st.ρ):=Eq.trans rfl rfl
theorem Z61 (F:Fn) (elt:Ex) (k:Nat) (it:It) (ifs:Exs) (st:St):evE F (.comp elt k it ifs) st = ((evIt F it st).bind fun items st=>(Z2T k st.σ.length (evTs F ifs) (evE F elt) items ⟨st.ρ.set k none,st.σ++[.lst []]⟩).bind fun _ st'=>
   match st'.σ[st.σ.length]? with
   | some (.lst ys)=>.ok (.lst ys) ⟨st'.ρ.set k none,st'.σ.set st.σ.length .dead⟩
   | _=>.stuck):=Eq.trans rfl rfl
theorem Zdc (F:Fn)  (st:St):evEs F (.nil) st = (.ok [] st):=Eq.trans rfl rfl
theorem Z1L (F:Fn) (e:Ex) (es:Exs) (st:St):evEs F (.cons e es) st = ((evE F e st).bind fun x st=>(evEs F es st).bind fun xs st=>.ok (x :: xs) st):=Eq.trans rfl rfl
theorem Z9j (F:Fn)  (st:St):evTs F (.nil) st = (.ok true st):=Eq.trans rfl rfl
theorem Zb0 (F:Fn) (e:Ex) (es:Exs) (st:St):evTs F (.cons e es) st = ((Z0a (evE F e st)).bind fun b st=>if b then evTs F es st else .ok false st):=Eq.trans rfl rfl
theorem Zdd (F:Fn) (e:Ex) (st:St):evIt F (.val e) st = ((evE F e st).bind fun x st=>R.lift (Z18 st.σ x) st):=Eq.trans rfl rfl
theorem Z48 (F:Fn) (a:Ex) (st:St):evIt F (.range1 a) st = ((evE F a st).bind fun x st=>(match x with
  | .int n=>if Z0D n then .ok (upTo 0 n) st else .stuck
  | _=>.stuck)):=Eq.trans rfl rfl
theorem Z8i (F:Fn) (K:Nat) (i:Nat) (e:Ex) (st:St):evS F K (.asg i e) st = ((evE F e st).bind fun x st=>.ok .next (setV st i x)):=Eq.trans rfl rfl
theorem Zb1 (F:Fn) (K:Nat) (e:Ex) (st:St):evS F K (.ret e) st = ((evE F e st).bind fun x st=>.ok (.ret x) st):=Eq.trans rfl rfl
theorem Z1i (F:Fn) (K:Nat) (s:Sm) (ss:Sms) (st:St):evSs F K (.cons s ss) st = ((evS F K s st).bind fun fl st=>match fl with
  | .next=>evSs F K ss st
  | f=>.ok f st):=Eq.trans rfl rfl
theorem Z7f (k n:Nat) (t:St→R Bool) (e:St→R V) (st:St):Z2T k n t e [] st = .ok () st:=Eq.trans rfl rfl
theorem Z2U (k n:Nat) (t:St→R Bool) (e:St→R V) (x:V) (xs:List V) (st:St):Z2T k n t e (x :: xs) st = (t (setV st k x)).bind fun b st=>if b then (e st).bind fun y st=>(match st.σ[n]? with
   | some (.lst acc)=>if acc.length < sizeLine then Z2T k n t e xs ⟨st.ρ,st.σ.set n (.lst (acc++[y]))⟩ else .stuck
   | _=>.stuck) else Z2T k n t e xs st:=Eq.trans rfl rfl
theorem Z0G (t:St→R Bool) (b:St→R Fl) (k:Nat) (st:St):Z0U t b (k + 1) st = (t st).bind fun c st=>if c then (b st).bind fun fl st=>(match fl with
   | .next=>Z0U t b k st
   | .cont=>Z0U t b k st
   | .brk=>.ok .next st
   | .ret v=>.ok (.ret v) st)
  else .ok .next st:=Eq.trans rfl rfl
theorem Z0r (step:V→St→R Fl) (st:St):forR step [] st = .ok .next st:=Eq.trans rfl rfl
theorem Z0e (step:V→St→R Fl) (x:V) (xs:List V) (st:St):forR step (x :: xs) st = (step x st).bind fun fl st=>match fl with
  | .next=>forR step xs st
  | .cont=>forR step xs st
  | .brk=>.ok .next st
  | .ret v=>.ok (.ret v) st:=Eq.trans rfl rfl
noncomputable def sl0 (x l:V):R V→R V
 | .ok h st=>R.lift (Z0E st.σ x l h) st
 | .exc e st=>.exc e st
 | .stuck=>.stuck
noncomputable def sl1 (x:V) (m:R V) (k:St→R V):R V:=m.bind fun l st=>sl0 x l (k st)
noncomputable def sl2 (m:R V) (k k':St→R V):R V:=m.bind fun x st=>sl1 x (k st) k'
noncomputable def min1 (x:V):R V→R V
 | .ok y st=>R.lift (onI x y fun a b=>some (.int (if b < a then b else a))) st
 | .exc e st=>.exc e st
 | .stuck=>.stuck
noncomputable def min2 (m:R V) (k:St→R V):R V:=m.bind fun x st=>min1 x (k st)
theorem Z19 {α β:Type} (m:R α) {f g:α→St→R β} (h:∀ a st,f a st = g a st):m.bind f = m.bind g:=congrArg m.bind (funext fun a=>funext fun st=>h a st)
theorem Z1M {q:Option Int} {σ:List O} {C n k:Nat} {xs:List V} {v:V} (hq:q = some (C:Int)) (h:σ[n]? = some (.attrs xs)) (hk:xs[k]? = some v):Z1G q σ (.inst C n) k = some v:=by
 show (if q = some (C:Int) then (match σ[n]? with | some (.attrs xs)=>xs[k]? | _=>none) else none) = _
 rw [if_pos hq,h]; exact hk
theorem Zb2 {ρ:List (Option V)} {σ:List O} {n:Nat} {k:Int} {v:V} {es:List (Int × V)} (h:σ[n]? = some (.idict es)) (hl:es.length < sizeLine):setI (.ref n) (.int k) v ⟨ρ,σ⟩ = .ok .next ⟨ρ,σ.set n (.idict (Z0T es k v))⟩:=by
 show R.or (R.need (Z0P σ[n]?) _) _ = _
 rw [Z11 (congrArg Z0P h),if_pos hl]; rfl
theorem Zb3 {ρ:List (Option V)} {σ:List O} {C n k:Nat} {v:V} {xs ys:List V} {q:Option Int} (hq:q = some (C:Int)) (h:σ[n]? = some (.attrs xs)) (hs:setAt xs k v = some ys) (hl:ys.length ≤ attrNames.length):setA q (.inst C n) v k ⟨ρ,σ⟩ = .ok .next ⟨ρ,σ.set n (.attrs ys)⟩:=by
 show (if q = some (C:Int) then R.need (Z9g σ[n]?) _ else R.stuck) = _
 rw [if_pos hq,Z11 (congrArg Z9g h),Z11 hs]; exact if_pos hl
theorem Z3r {σ:List O} {n:Nat} {i:Int} {xs:List V} (h:σ[n]? = some (.lst xs)):Z0H σ (.ref n) (.int i) = Z0n xs i:=by
 show pick (lstO σ[n]?) _ _ = _
 rw [h]; rfl
theorem ZgX {σ:List O} {n:Nat} {i:Int} {es:List (Int × V)} (h:σ[n]? = some (.idict es)):Z0H σ (.ref n) (.int i) = dGet es i:=by
 show pick (lstO σ[n]?) _ (pick (Z0P σ[n]?) _ _) = _
 rw [h]; rfl
theorem ZhL {σ:List O} {n:Nat} {k:Int} {es:List (Int × V)} (h:σ[n]? = some (.idict es)):Z10 σ .isin (.int k) (.ref n) = some (es.any fun p=>p.1 = k):=by
 show (Z0P σ[n]?).map _ = _
 rw [h]; rfl
theorem Zde {σ:List O} {n:Nat} {es:List (Int × V)} (h:σ[n]? = some (.idict es)) (hl:es.length < 64):Z1n σ .sorted (.ref n) = some (.lst ((Z7b (es.map fun p:Int × V=>p.1)).map .int)):=by
 show (Z0P σ[n]?).bind _ = _
 rw [h]; exact if_pos hl
theorem Zb4 (σ:List O) (xs:List V):Z1n σ .tuple (.lst xs) = some (.tup xs):=Eq.trans rfl rfl
theorem ZeQ (σ:List O) (xs:List V):Z1n σ .list (.lst xs) = some (.lst xs):=Eq.trans rfl rfl
theorem ZgY {step:V→St→R Fl} {ρ ρ':List (Option V)} {σ τ:List O} {n:Nat} {es:List (Int × V)} {fl:Fl} (h:σ[n]? = some (.idict es)) (hf:forR step (es.map fun p=>.int p.1) ⟨ρ,σ.set n .priv⟩ = .ok fl ⟨ρ',τ⟩):Zd7 step (.ref n) ⟨ρ,σ⟩ = .ok fl ⟨ρ',τ.set n (.idict es)⟩:=by
 show R.need (Z0P σ[n]?) _ = _
 rw [Z11 (congrArg Z0P h),hf,R.bind_ok]
theorem Z8j {xs:List V} {l:List (List Nat)} (h:Z1h xs = some l) (hz:l.flatten.length ≤ sizeLine) (st:St):Z1H .join (.str []) (.lst xs) st = .ok (.str l.flatten) st:=by
 show (match Z1h xs with | some l=>if l.flatten.length ≤ sizeLine then .ok (.str l.flatten) st else .stuck | none=>.stuck:R V) = _
 rw [h]; exact if_pos hz
theorem Z2o (ρ:List (Option V)) (σ:List O) (n:Nat) (xs:List V) (y:V) (h:σ[n]? = some (.lst xs)) (hl:xs.length < sizeLine):Z1H .append (.ref n) y ⟨ρ,σ⟩ = .ok .none ⟨ρ,σ.set n (.lst (xs++[y]))⟩:=by
 show (match σ[n]? with | some (.lst xs)=>if xs.length < sizeLine then .ok .none ⟨ρ,σ.set n (.lst (xs++[y]))⟩ else .stuck | _=>.stuck:R V) = _
 rw [h]; exact if_pos hl
theorem Z0x (σ:List O) (n:Nat) (xs:List V) (h:σ[n]? = some (.lst xs)):Z3q σ .append (.ref n) = true:=by
 show (match σ[n]? with | some (.lst _)=>true | _=>false) = _
 rw [h]
theorem Zb5 (σ:List O) (n:Nat) (xs:List V) (h:σ[n]? = some (.lst xs)):Z1n σ .len (.ref n) = some (.int xs.length):=by
 show (lstO σ[n]?).bind _ = _
 rw [h]; rfl
theorem ZgZ (σ:List O) (x:List V):Z18 σ (.lst x) = some x:=Eq.trans rfl rfl
theorem Zfs (σ:List O) (x:List V) (l h):Z0E σ (.lst x) (.int l) (.int h) = some (.lst (cutL x (some l) (some h))):=Eq.trans rfl rfl
mutual
theorem V.eqb_refl:∀ x:V,x.lo 0 = true→V.eqb x x = true
 | .none,_=>Eq.trans rfl rfl
 | .bool b,_=>beq_self_eq_true b
 | .int i,_=>beq_self_eq_true i
 | .str s,_=>beq_self_eq_true s
 | .tup xs,h=>V.eqbs_refl xs h
 | .lst xs,h=>V.eqbs_refl xs h
 | .ref n,h=>absurd (of_decide_eq_true (show decide (n < 0) = true from h)) (Nat.not_lt_zero _)
 | .inst _ n,h=>absurd (of_decide_eq_true (show decide (n < 0) = true from h)) (Nat.not_lt_zero _)
theorem V.eqbs_refl:∀ xs:List V,V.los 0 xs = true→V.eqbs xs xs = true
 | [],_=>Eq.trans rfl rfl
 | x :: xs,h=>Bool.and_eq_true_iff.mpr ⟨V.eqb_refl x (Bool.and_eq_true_iff.mp h).1,V.eqbs_refl xs (Bool.and_eq_true_iff.mp h).2⟩
end
theorem Z0X {n:Nat}:V.lo n .none = true:=Eq.trans rfl rfl
theorem Z0f {n:Nat} (i:Int):V.lo n (.int i) = true:=Eq.trans rfl rfl
theorem Z0Y {n:Nat} (i:Bool):V.lo n (.bool i) = true:=Eq.trans rfl rfl
theorem Z0b {n:Nat} (i:List Nat):V.lo n (.str i) = true:=Eq.trans rfl rfl
theorem Z0s {n:Nat} (xs:List V):V.lo n (.tup xs) = V.los n xs:=Eq.trans rfl rfl
theorem Z0p {n:Nat} (xs:List V):V.lo n (.lst xs) = V.los n xs:=Eq.trans rfl rfl
theorem Z0R {n:Nat} (k:Nat):V.lo n (.ref k) = decide (k < n):=Eq.trans rfl rfl
theorem Z2V {n:Nat} (C k:Nat):V.lo n (.inst C k) = decide (k < n):=Eq.trans rfl rfl
theorem Z09 {n:Nat}:V.los n [] = true:=Eq.trans rfl rfl
theorem Z02 {n:Nat} (x:V) (xs:List V):V.los n (x :: xs) = (V.lo n x && V.los n xs):=Eq.trans rfl rfl
mutual
theorem V.lo_mono {m n:Nat} (h:m ≤ n):∀ x:V,x.lo m = true→x.lo n = true
 | .none,_=>Z0X
 | .bool b,_=>Z0Y b
 | .int i,_=>Z0f i
 | .str s,_=>Z0b s
 | .tup xs,q=>by rw [Z0s] at q ⊢; exact V.los_mono h xs q
 | .lst xs,q=>by rw [Z0p] at q ⊢; exact V.los_mono h xs q
 | .ref k,q=>by rw [Z0R] at q ⊢; exact decide_eq_true (Nat.lt_of_lt_of_le (of_decide_eq_true q) h)
 | .inst C k,q=>by rw [Z2V] at q ⊢; exact decide_eq_true (Nat.lt_of_lt_of_le (of_decide_eq_true q) h)
theorem V.los_mono {m n:Nat} (h:m ≤ n):∀ xs:List V,V.los m xs = true→V.los n xs = true
 | [],_=>Z09
 | x :: xs,q=>by
  rw [Z02,Bool.and_eq_true] at q ⊢
  exact ⟨V.lo_mono h x q.1,V.los_mono h xs q.2⟩
end
theorem O.lo_mono {m n:Nat} (h:m ≤ n) {o:O} (q:o.lo m = true):o.lo n = true:=by
 cases o with
 | lst xs=>exact V.los_mono h _ q
 | idict es=>exact V.los_mono h _ q
 | kdict _ es=>exact V.los_mono h _ q
 | attrs xs=>exact V.los_mono h _ q
 | dead=>rfl
 | priv=>rfl
theorem Zdf (i:Int):V.depth? (.int i) = some 0:=Eq.trans rfl rfl
theorem Z1Y (i:List Nat):V.depth? (.str i) = some 0:=Eq.trans rfl rfl
theorem Z1q (xs:List V):V.depth? (.tup xs) = (V.depths? xs).map (· + 1):=Eq.trans rfl rfl
theorem Z62 (xs:List V):V.depth? (.lst xs) = (V.depths? xs).map (· + 1):=Eq.trans rfl rfl
theorem Z0K:V.depths? [] = some 0:=Eq.trans rfl rfl
theorem Z0o (x:V) (xs:List V):V.depths? (x :: xs) = (V.depth? x).bind fun a=>(V.depths? xs).bind fun b=>some (max a b):=Eq.trans rfl rfl
theorem Zh0 (σ:List O) (x y:V) (hx:x.flat64 = true) (hy:y.flat64 = true):Z10 σ .eq x y = some (V.eqb x y):=by show (if x.flat64 && y.flat64 then _ else none) = _; rw [hx,hy]; rfl
theorem Z1N (a b:Int) (h:(Z0v a || Z0v b) = true):Z2n (.int a) (.int b) = some (.int (a * b)):=if_pos h
theorem Zft (a b:Int) (h:b ≠ 0):Z46 .fdiv (.int a) (.int b) = some (.int (Int.fdiv a b)):=if_neg h
theorem Z7g (a b:Int) (h:b ≠ 0):Z46 .mod (.int a) (.int b) = some (.int (Int.fmod a b)):=if_neg h
theorem Z2W (x y:List Nat) (h:x.length + y.length ≤ sizeLine):Z3p (.str x) (.str y) = some (.str (x++y)):=if_pos h
theorem Z1E (σ:List O) (xs:List V) (i:Int):Z0H σ (.lst xs) (.int i) = Z0n xs i:=Eq.trans rfl rfl
theorem Z2p {j:Nat} (h:j < 2 ^ 31):Z0v (j:Int) = true:=by
 have h1:(-(2 ^ 63):Int) ≤ (j:Int):=by lia
 have h2:((j:Int):Int) < 2 ^ 63:=by lia
 unfold Z0v
 rw [decide_eq_true h1,decide_eq_true h2]; rfl
theorem Z0y {α:Type} (xs:List α) {j:Nat} (h:j < 2 ^ 31):Z0n xs (j:Int) = xs[j]?:=by
 unfold Z0n; rw [if_pos (Z2p h),if_pos (Int.natCast_nonneg j),Int.toNat_natCast]
theorem Z8k {α:Type} (xs:List α) {i:Int} {n:Nat} (hn:0 < n) (hs:n < 2 ^ 31) (hx:n ≤ xs.length):∃ x,Z0n xs (Int.fmod i n) = some x∧x ∈ xs:=by
 have h1:0 ≤ Int.fmod i n:=by rw [Int.fmod_eq_emod_of_nonneg _ (by lia)]; exact Int.emod_nonneg _ (by lia)
 have h2:Int.fmod i n < n:=by rw [Int.fmod_eq_emod_of_nonneg _ (by lia)]; exact Int.emod_lt_of_pos _ (by lia)
 refine El.x1_1 (Int.eq_ofNat_of_zero_le h1) fun k hk=>?_
 have hk':Int.fmod i n = (k:Int):=hk
 have hlt:k < xs.length:=by rw [hk'] at h2; lia
 rw [hk',Z0y xs (by rw [hk'] at h2; lia)]
 exact ⟨xs[k],by simp [hlt],List.getElem_mem hlt⟩
theorem qset (ρ:List (Option V)) (σ:List O) (i:Nat) (x:V):setV ⟨ρ,σ⟩ i x = ⟨ρ.set i (some x),σ⟩:=Eq.trans rfl rfl
noncomputable def Ret (m:R Fl) (r:V) (σ:List O):Prop:=∃ ρ τ,m = .ok (.ret r) ⟨ρ,σ++τ⟩
theorem Z0w {F:Fn} {K:Nat} {d:Def} {args:List V} {σ:List O} {r:V} (hl:args.length = d.params.length)
  (h:Ret (evSs F K d.body ⟨args.map some++List.replicate (d.slots - args.length) none,σ⟩) r σ) (hr:r.lo σ.length = true) (hσ:σ.all (O.lo σ.length) = true):Z07 F K d args σ = .ok r ⟨[],σ⟩:=by
 refine El.x2_1 h fun ρ τ h=>?_
 unfold Z07
 rw [if_pos hl,h]
 simp only [R.bind_ok,Fl.val,List.take_left',hr,hσ,Bool.and_self,if_true]
theorem Ret.mk {m:R Fl} {r:V} {σ τ:List O} {ρ:List (Option V)} (h:m = .ok (.ret r) ⟨ρ,σ++τ⟩):Ret m r σ:=⟨ρ,τ,h⟩
theorem Ret.mk0 {m:R Fl} {r:V} {σ:List O} {ρ:List (Option V)} (h:m = .ok (.ret r) ⟨ρ,σ⟩):Ret m r σ:=⟨ρ,[],by rw [h,List.append_nil]⟩
theorem Z9k {step:V→St→R Fl} (P:Nat→St→Prop):∀ (xs:List V) (k:Nat) (st:St),(∀ i x st,xs[i]? = some x→P (k + i) st→∃ st',step x st = .ok .next st'∧P (k + i + 1) st')→P k st→∃ st',forR step xs st = .ok .next st'∧P (k + xs.length) st'
 | [],k,st,_,h=>⟨st,Z0r ..,h⟩
 | x :: xs,k,st,hs,h=>by
  refine El.x1_2 (hs 0 x st rfl h) fun st₁ h1 h2=>?_
  obtain ⟨st₂,h3,h4⟩:=Z9k P xs (k + 1) st₁ (fun i y st' hy hP=>by
   have:=hs (i + 1) y st' (by simpa using hy) (by rw [show k + (i + 1) = k + 1 + i from by lia]; exact hP)
   rw [show k + (i + 1) + 1 = k + 1 + i + 1 from by lia] at this
   exact this) h2
  refine ⟨st₂,?_,by rw [List.length_cons,show k + (xs.length + 1) = k + 1 + xs.length from by lia]; exact h4⟩
  rw [Z0e,h1,R.bind_ok]
  exact h3
theorem Z3N:∀ l:List Nat,Z0t (l.map fun n:Nat=>V.int (n:Int)) = some (l.map fun n:Nat=>(n:Int))
 | []=>rfl
 | n :: l=>congrArg (Option.map ((n:Int) :: ·)) (Z3N l)
theorem Zfu (xs:List V) (k:Int) (h:0 ≤ k∧k < 64∧xs.length * k.toNat ≤ sizeLine):Z2n (.lst xs) (.int k) = some (.lst (List.replicate k.toNat xs).flatten):=if_pos h
theorem Zh1 (σ:List O) (x:V) (ys:List V):Z10 σ .isin x (.lst ys) = inL x ys:=Eq.trans rfl rfl
theorem Zfv (l:List Nat) (k:Nat):((l.map fun n:Nat=>(n:Int)).any fun i=>i == (k:Int)) = l.contains k:=by
 rw [Bool.eq_iff_iff]
 simp only [List.any_map,List.any_eq_true,List.contains_iff_mem,Function.comp_def,beq_iff_eq]
 constructor
 ·intro q0z
  refine El.x1_2 q0z fun x hx e=>?_
  have:x = k:=by lia
  exact this ▸ hx
 ·intro h; exact ⟨k,h,rfl⟩
theorem Zfw (l:List Nat) (k:Nat):inL (.int (k:Int)) (l.map fun n:Nat=>V.int (n:Int)) = some (l.contains k):=by
 show (Z0t _).map _ = _
 rw [Z3N,Option.map_some,Zfv]
theorem Zh2 {xs:List V} {i:Int} {l:List Int} (h:Z0t xs = some (i :: l)):Z47 (.lst xs) = some (.int (l.foldl min i)):=by
 show (match Z0t xs with | some []=>some V.none | some (i :: l)=>some (.int (l.foldl min i)) | none=>none) = _
 rw [h]
theorem ZhM {σ:List O} {xs:List V} {i:Int} {l:List Int} (h:Z0t xs = some (i :: l)):Z1n σ .max (.lst xs) = some (.int (l.foldl max i)):=by
 show (match Z0t xs with | some (i :: l)=>some (V.int (l.foldl max i)) | _=>none) = _
 rw [h]
theorem ZhN {ρ:List (Option V)} {σ:List O} {n:Nat} {xs:List V} {x:V} (h:σ[n]? = some (.lst (xs++[x]))):popR (.ref n) ⟨ρ,σ⟩ = .ok x ⟨ρ,σ.set n (.lst xs)⟩:=by
 show R.need (lstO σ[n]?) _ = _
 rw [Z11 (congrArg lstO h),Z11 (List.getLast?_concat)]
 rw [List.dropLast_concat]
theorem Zh3 {ρ:List (Option V)} {σ:List O} {n:Nat} {k:Int} {v:V} {xs:List V} (h:σ[n]? = some (.lst xs)) (hk:0 ≤ k∧k < xs.length):setI (.ref n) (.int k) v ⟨ρ,σ⟩ = .ok .next ⟨ρ,σ.set n (.lst (xs.set k.toNat v))⟩:=by
 show R.or (R.need (Z0P σ[n]?) _) (R.need (lstO σ[n]?) _) = _
 rw [Z11 (o:=lstO σ[n]?) (congrArg lstO h),show Z0P σ[n]? = none from congrArg Z0P h]; exact if_pos hk
end Mine
namespace Mine
open PySem PySem.Sem
theorem Z1O {M:Model} {Γ:Ctx} {p:Pos} {t:Sem PySem.Fin} {fs:List Frame} {s s':Shared} {e:End} (h:Runs M Γ p t fs s e s'):s.heap.objs.size ≤ s'.heap.objs.size:=by
 induction h <;> (try simp only [Shared.setGen,Heap.size_push,Heap.size_after_update] at *) <;> lia
theorem Z49 {M:Model} {Γ:Ctx} {p:Pos} {s s':Shared} {r:Result} (h:Returns M Γ p s r s'):s.heap.objs.size ≤ s'.heap.objs.size:=Z1O h
theorem Z63 {M:Model} {Γ:Ctx} {p:Pos} {g:Nat} {r:Resume} {s s':Shared} {res:GenResult} (h:Wakes M Γ p g r s res s'):s.heap.objs.size ≤ s'.heap.objs.size:=by
 unfold Wakes at h
 split at h
 ·exact h.elim
 ·split at h
  ·obtain ⟨e₁,s₁,hr,_,_,rfl⟩:=h; exact (Z1O hr:(s.setGen g .running).heap.objs.size ≤ s₁.heap.objs.size)
  ·rw [h.2]; exact Nat.le_refl _
  ·rw [h.2]; exact Nat.le_refl _
 ·obtain ⟨e₁,s₁,hr,_,_,rfl⟩:=h; exact (Z1O hr:(s.setGen g .running).heap.objs.size ≤ s₁.heap.objs.size)
 ·rw [h.2]; exact Nat.le_refl _
 ·rw [h.2]; exact Nat.le_refl _
theorem Zfx {α:Type} (M:Model) (Γ:Ctx) (n:Nat) (t:Sem α):∀ (Q:α→Pos→Shared→Prop) (E:Value→Pos→Shared→Prop) (p:Pos) (s:Shared),n ≤ s.heap.objs.size→wp M Γ t Q E p s →
  wp M Γ t (fun a p' s'=>n ≤ s'.heap.objs.size∧Q a p' s') (fun e p' s'=>n ≤ s'.heap.objs.size∧E e p' s') p s:=by
 induction t with
 | pure a=>intro Q E p s hn h; exact ⟨hn,h⟩
 | raise e=>intro Q E p s hn h; exact ⟨hn,h⟩
 | unsupported _=>intro Q E p s _ h; exact h
 | finish _=>intro Q E p s _ h; exact h
 | rule _ k ih=>intro Q E p s hn h; exact ih () Q E p s hn h
 | «at» p' k ih=>intro Q E p s hn h; exact ih () Q E p' s hn h
 | load a _ k ih=>intro Q E p s hn h; obtain ⟨o,ho,h⟩:=h; exact ⟨o,ho,ih o Q E p s hn h⟩
 | update a _ f k ih=>intro Q E p s hn h; exact ⟨h.1,ih () Q E p _ (by simpa using hn) h.2⟩
 | loadIfAlive a k ih=>intro Q E p s hn h; exact ih _ Q E p s hn h
 | point _ k ih=>intro Q E p s hn h; exact ih () Q E p s hn h
 | register _ _=>intro Q E p s _ h; exact h
 | alloc o k ih=>intro Q E p s hn h; exact ih _ Q E p _ (by simp; lia) h
 | fresh k ih=>intro Q E p s hn h; exact ih _ Q E p _ hn h
 | ask k ih=>intro Q E p s hn h; exact ih _ Q E p s hn h
 | choose src m k ih=>intro Q E p s hn h; exact ⟨h.1,ih _ Q E p _ hn h.2⟩
 | os q _ k ih=>intro Q E p s hn h; exact ih _ Q E p _ hn h
 | call c hd _ _ k ih=>intro Q E p s hn h; obtain ⟨r,s',hr,h⟩:=h; exact ⟨r,s',hr,ih r Q E p s' (Nat.le_trans hn (Z49 hr)) h⟩
 | handled own k ih=>intro Q E p s hn h; exact ih _ Q E p s hn h
 | genState g k ih=>intro Q E p s hn h; obtain ⟨st,hs,h⟩:=h; exact ⟨st,hs,ih _ Q E p s hn h⟩
 | newGen c k ih=>intro Q E p s hn h; exact ih _ Q E p _ hn h
 | resume g r _ k ih=>intro Q E p s hn h; obtain ⟨res,s',hw,h⟩:=h; exact ⟨res,s',hw,ih res Q E p s' (Nat.le_trans hn (Z63 hw)) h⟩
 | yield _ _ _ _=>intro Q E p s _ h; exact h
 | stack k ih=>intro Q E p s hn h; exact ih _ Q E p s hn h
 | fork _ _=>intro Q E p s _ h; exact h
 | thread k ih=>intro Q E p s hn h; exact ih _ Q E p s hn h
 | await _ _ _ _ _=>intro Q E p s _ h; exact h
theorem Z05 {α:Type} {M:Model} {A:Around} {s:Shared} {t:Sem α} {Q:α→Shared→Prop} {E:Value→Shared→Prop}
  (h:wpAny M A t (fun a s'=>s.heap.objs.size ≤ s'.heap.objs.size→Q a s') (fun e s'=>s.heap.objs.size ≤ s'.heap.objs.size→E e s') s):wpAny M A t Q E s :=
 fun Γ p hΓ=>Sem.wp_mono M Γ t (fun _ _ _ x=>x.2 x.1) (fun _ _ _ x=>x.2 x.1) p s (Zfx M Γ s.heap.objs.size t _ _ p s (Nat.le_refl _) (h Γ p hΓ))
end Mine
namespace Mine
open PySem PySem.Calls PyProof.Rows
structure CxOk (c:Cx):Prop where
 pyl:∀ s:Shared,(∀ b o,c.base.get? b = some o→s.heap.get? b = some o)→PylongRoom (model c.prog c.w) c.A s
 hh:c.A.handled = none
 units:c.A.units + 100 < cLine
 sys:∃ o,c.base.get? sysModules = some o
section
variable {c:Cx} {st:St} {μ:List Addr} {s:Shared} {T:Addr→Prop} {h:Heap} {u v:Value}
theorem RepV.int_inv {i:Int} (r:RepV T μ h v (.int i)):∃ t,v = .int i t:=r.out
theorem RepV.bool_inv {b:Bool} (r:RepV T μ h v (.bool b)):v = .bool b:=r.out
theorem RepV.none_inv (r:RepV T μ h v .none):v = .none:=r.out
theorem RepV.str_inv {l:List Nat} (r:RepV T μ h v (.str l)):∃ x t,v = .str x t∧x.cps.toList = l∧PyData.strOk x = true∧x.length ≤ sizeLine:=r.out
theorem RepV.tup_inv {xs:List V} (r:RepV T μ h v (.tup xs)):∃ a vs,v = .ref a∧IsTup h a vs∧vs.size ≤ sizeLine∧RepVs T μ h vs.toList xs :=
 El.x4_7 r.tupI fun a o vs n e ho hc hd hz _ r=>⟨a,vs,e,⟨o,ho,hc,n,hd⟩,hz,r⟩
theorem RepV.lst_inv {xs:List V} (r:RepV T μ h v (.lst xs)):∃ a vs,v = .ref a∧h.IsList a vs∧vs.size ≤ sizeLine∧RepVs T μ h vs.toList xs :=
 El.x4_7 r.lstI fun a o vs n e ho hc hd hz _ r=>⟨a,vs,e,⟨o,ho,hc,n,hd⟩,hz,r⟩
theorem Inv.ref_inv (I:Inv c st μ h) {n:Nat} {xs:List V} (r:RepV T μ h v (.ref n)) (e:st.σ[n]? = some (.lst xs)) :
  ∃ a vs,v = .ref a∧h.PlainList a vs∧vs.size ≤ sizeLine∧RepVs (Tr st.σ μ) μ h vs.toList xs:=by
 refine El.x1_2 r.refI fun a9 e9 q=>?_
 try clear a9
 subst e9
 refine El.x1_2 (I.objs n _ e) fun a ha ro=>?_
 try clear a; try clear e9
 obtain rfl:=Option.some.inj (q.symm.trans ha)
 refine El.x2_3 ro.lst_inv fun vs nn ho hz r=>?_
 exact ⟨_,_,rfl,⟨_,ho⟩,hz,r⟩
end
section
variable {c:Cx} {st:St} {μ:List Addr} {s:Shared} {u v:Value} {t:Sem Value}
theorem Z0A (I:Inv c st μ s.heap) {i:Int} (h:∀ Q:Value→Shared→Prop,(∀ tk n,Q (.int i tk) { s with toks:=n })→wpAny (model c.prog c.w) c.A t Q (fun _ _=>False) s):Sim c t (.ok (.int i) st) rV st.σ μ s :=
 Sim.leaf I (h _ fun tk n=>⟨.refl,.refl,.int i tk⟩)
theorem Z06 (I:Inv c st μ s.heap) {b:Bool} (h:∀ Q:Value→Shared→Prop,(∀ n,Q (.bool b) { s with toks:=n })→wpAny (model c.prog c.w) c.A t Q (fun _ _=>False) s):Sim c t (.ok (.bool b) st) rV st.σ μ s :=
 Sim.leaf I (h _ fun n=>⟨.refl,.refl,.bool b⟩)
theorem Z2q (I:Inv c st μ s.heap) {x:Str} (h1:PyData.strOk x = true) (h2:x.length ≤ sizeLine) {l:List Nat} (e:x.cps.toList = l)
  (h:∀ Q:Value→Shared→Prop,(∀ tk n,Q (.str x tk) { s with toks:=n })→wpAny (model c.prog c.w) c.A t Q (fun _ _=>False) s):Sim c t (.ok (.str l) st) rV st.σ μ s:=by
 subst e
 exact Sim.leaf I (h _ fun tk n=>⟨.refl,.refl,.str x tk h1 h2⟩)
theorem Z1Z (I:Inv c st μ s.heap) {x:V} (r:RepV (Tr st.σ μ) μ s.heap v x) (h:∀ Q:Value→Shared→Prop,(∀ n,Q v { s with toks:=n })→wpAny (model c.prog c.w) c.A t Q (fun _ _=>False) s):Sim c t (.ok x st) rV st.σ μ s :=
 Sim.leaf I (h _ fun n=>⟨.refl,.refl,r⟩)
theorem Z3s (I:Inv c st μ s.heap):¬ Tr st.σ μ s.heap.objs.size:=fun q=>Nat.lt_irrefl _ (I.lt _ q.mem)
theorem Z1r (I:Inv c st μ s.heap) {vs:List Value} {xs:List V} (r:RepVs (Tr st.σ μ) μ s.heap vs xs) (hz:vs.length ≤ sizeLine) :
  RepV (Tr st.σ μ) μ (s.heap.push { cls:=.type "list",data:=.seq vs.toArray }) (.ref s.heap.objs.size) (.lst xs) :=
 .lst (Heap.get?_push_size _ rfl) rfl rfl (by simpa using hz) (Z3s I) (by simpa using r.ext (.push _))
theorem Z7h (I:Inv c st μ s.heap) {vs:List Value} {xs:List V} (r:RepVs (Tr st.σ μ) μ s.heap vs xs) (hz:vs.length ≤ sizeLine) :
  RepV (Tr st.σ μ) μ (s.heap.push { cls:=.type "tuple",data:=.seq vs.toArray }) (.ref s.heap.objs.size) (.tup xs) :=
 .tup (Heap.get?_push_size _ rfl) rfl rfl (by simpa using hz) (Z3s I) (by simpa using r.ext (.push _))
end
noncomputable def opM:Op→Operator
 | .add=>.Add
 | .sub=>.Sub
 | .mul=>.Mult
 | .fdiv=>.FloorDiv
 | .mod=>.Mod
theorem Zfy (x y:Str):(x++y).cps.toList = x.cps.toList++y.cps.toList:=by
 show (x.cps++y.cps).toList = _
 simp
theorem Zfz (x y:Str):(x++y).length = x.length + y.length:=by
 show (x.cps++y.cps).size = x.cps.size + y.cps.size
 simp
theorem Z7i {x y:Str} (hx:PyData.strOk x = true) (hy:PyData.strOk y = true):PyData.strOk (x++y) = true:=by
 unfold PyData.strOk at *
 rw [Array.all_eq_true_iff_forall_mem] at *
 intro a ha
 rcases Array.mem_append.mp (show a ∈ x.cps++y.cps from ha) with h | h
 ·exact hx a h
 ·exact hy a h
theorem Z4a {i:Int} (h:Z0v i = true):Builtin.Int.intBits i ≤ 64:=by
 simp only [Z0v,Bool.and_eq_true,decide_eq_true_eq] at h
 exact intBits_le_64 (by lia) (by lia)
theorem Z1a {n:Nat} (h:n ≤ sizeLine):(n:Int) < 2 ^ 63:=by
 have e:sizeLine = 16777216:=by decide
 lia
section
variable {c:Cx} {st:St} {μ:List Addr} {s:Shared} {u v:Value}
theorem ZfA {α β} {a:List α} {b:List β} (h:a.length = b.length):a.isEmpty = b.isEmpty:=by
 cases a <;> cases b <;> first | rfl | cases h
theorem Zb6 {T:Addr→Prop} {h:Heap} {vs:Array Value} {xs:List V} (r:RepVs T μ h vs.toList xs):(!vs.isEmpty) = !xs.isEmpty:=by
 rw [← ZfA r.length,Array.isEmpty_toList]
theorem Zh4 (x:Str):((x.length:Int) != 0) = !x.cps.toList.isEmpty:=by
 show ((x.cps.size:Int) != 0) = _
 rw [← Array.length_toList]
 cases x.cps.toList with
 | nil=>rfl
 | cons a l=>rw [List.length_cons]; exact (bne_iff_ne).mpr (Int.ofNat_ne_zero.mpr (Nat.succ_ne_zero _))
theorem Z20 (I:Inv c st μ s.heap) {x:V} (rx:RepV (Tr st.σ μ) μ s.heap u x):Sim c (truthy u) (R.lift (x.truthy st.σ) st) rEq st.σ μ s:=by
 have leaf:∀ b:Bool,(∀ Q:Bool→Shared→Prop,(∀ n,Q b { s with toks:=n })→wpAny (model c.prog c.w) c.A (truthy u) Q (fun _ _=>False) s)→Sim c (truthy u) (.ok b st) rEq st.σ μ s :=
  fun b h=>Sim.leaf I (h _ fun n=>⟨.refl,.refl,rfl⟩)
 cases x with
 | none=>obtain rfl:=rx.none_inv; exact leaf _ fun Q hq=>(fun _ _ _=>hq _)
 | bool b=>obtain rfl:=rx.bool_inv; exact leaf _ fun Q hq=>wpAny_truthy_bool (hq _)
 | int i=>obtain ⟨t,rfl⟩:=rx.int_inv; exact leaf _ fun Q hq=>P.truthy_int (hq _)
 | str l=>
  refine El.x2_4 rx.str_inv fun x t q0 q1 h1 h2=>?_
  subst q0 q1
  exact leaf (!x.cps.toList.isEmpty) fun Q hq=>P.truthy_str (Int.not_le.mpr (Z1a h2)) (by rw [Zh4]; exact hq _)
 | tup xs=>
  refine El.x2_4 rx.tup_inv fun a vs q hl hz r=>?_
  subst q
  exact leaf (!xs.isEmpty) fun Q hq=>PyProof.Rows.truthy_tuple hl (Z1a hz) (by rw [Zb6 r]; exact hq _)
 | lst xs=>
  refine El.x2_4 rx.lst_inv fun a vs q hl hz r=>?_
  subst q
  exact leaf (!xs.isEmpty) fun Q hq=>wpAny_truthy_list hl (Z1a hz) (by rw [Zb6 r]; exact hq _)
 | ref n=>
  refine Sim.lift fun b hb=>bnd (o:=lstO st.σ[n]?) (f:=fun xs=>some (!xs.isEmpty)) hb fun xs hx hb=>El.x2_4 (I.ref_inv rx (Z1o hx)) fun a vs q hl hz r=>?_
  subst q
  rw [← Option.some.inj hb]
  exact leaf (!xs.isEmpty) fun Q hq=>wpAny_truthy_list hl.isList (Z1a hz) (by rw [Zb6 r]; exact hq _)
 | inst C n=>trivial
end
mutual
noncomputable def V.toD:V→PyData
 | .none=>.none
 | .bool b=>.bool b
 | .int i=>.int i
 | .str l=>.str ⟨l.toArray⟩
 | .tup xs=>.tuple (V.toDs xs)
 | .lst xs=>.list (V.toDs xs)
 | .ref _=>.none
 | .inst _ _=>.none
noncomputable def V.toDs:List V→List PyData
 | []=>[]
 | x :: xs=>V.toD x :: V.toDs xs
end
mutual
theorem Z4b:∀ (x:V) (n:Nat),x.depth? = some n→x.toD.depth = n
 | .none,n,h=>Option.some.inj h
 | .bool b,n,h=>Option.some.inj h
 | .int i,n,h=>Option.some.inj h
 | .str l,n,h=>Option.some.inj h
 | .tup xs,n,h=>El.x1_2 (Option.map_eq_some_iff.mp (show (V.depths? xs).map (· + 1) = some n from h)) fun m hm q=>(congrArg (· + 1) (Z2X xs m hm)).trans q
 | .lst xs,n,h=>El.x1_2 (Option.map_eq_some_iff.mp (show (V.depths? xs).map (· + 1) = some n from h)) fun m hm q=>(congrArg (· + 1) (Z2X xs m hm)).trans q
 | .ref k,n,h=>by cases h
 | .inst _ k,n,h=>by cases h
theorem Z2X:∀ (xs:List V) (n:Nat),V.depths? xs = some n→PyData.depthAll (V.toDs xs) = n
 | [],n,h=>Option.some.inj h
 | x :: xs,n,h=>bnd (o:=x.depth?) h fun a ha h=>bnd (o:=V.depths? xs) h fun b hb h=>by
  show max (PyData.depth x.toD) (PyData.depthAll (V.toDs xs)) = n
  rw [Z4b x a ha,Z2X xs b hb]; exact Option.some.inj h
end
mutual
theorem Zb7:∀ (x y:V),(∃ n,x.depth? = some n)→(∃ n,y.depth? = some n)→V.eqb x y = PyData.eqv x.toD y.toD
 | .ref k,y,h,_=>by obtain ⟨_,h⟩:=h; cases h
 | x,.ref k,_,h=>by obtain ⟨_,h⟩:=h; cases h
 | .inst _ k,y,h,_=>by obtain ⟨_,h⟩:=h; cases h
 | x,.inst _ k,_,h=>by obtain ⟨_,h⟩:=h; cases h
 | .tup xs,.tup ys,h,h'=>by
  obtain ⟨n,h⟩:=h; obtain ⟨n',h'⟩:=h'
  refine El.x1_2 (Option.map_eq_some_iff.mp (show (V.depths? xs).map (· + 1) = some n from h)) fun m h _=>?_
  refine El.x1_2 (Option.map_eq_some_iff.mp (show (V.depths? ys).map (· + 1) = some n' from h')) fun m' h' _=>?_
  exact Z64 xs ys ⟨m,h⟩ ⟨m',h'⟩
 | .lst xs,.lst ys,h,h'=>by
  obtain ⟨n,h⟩:=h; obtain ⟨n',h'⟩:=h'
  refine El.x1_2 (Option.map_eq_some_iff.mp (show (V.depths? xs).map (· + 1) = some n from h)) fun m h _=>?_
  refine El.x1_2 (Option.map_eq_some_iff.mp (show (V.depths? ys).map (· + 1) = some n' from h')) fun m' h' _=>?_
  exact Z64 xs ys ⟨m,h⟩ ⟨m',h'⟩
 | .str a,.str b,_,_=>by
  show (a == b) = ((⟨a.toArray⟩:Str) == ⟨b.toArray⟩)
  rw [Bool.eq_iff_iff,beq_iff_eq,beq_iff_eq]
  constructor
  ·rintro rfl; rfl
  ·intro h; have:=congrArg (fun x:Str=>x.cps.toList) h; simpa using this
 | .none,.none,_,_ | .none,.bool _,_,_ | .none,.int _,_,_ | .none,.str _,_,_ | .none,.tup _,_,_ | .none,.lst _,_,_=>by rfl
 | .bool _,.none,_,_ | .bool _,.bool _,_,_ | .bool _,.int _,_,_ | .bool _,.str _,_,_ | .bool _,.tup _,_,_ | .bool _,.lst _,_,_=>by rfl
 | .int _,.none,_,_ | .int _,.bool _,_,_ | .int _,.int _,_,_ | .int _,.str _,_,_ | .int _,.tup _,_,_ | .int _,.lst _,_,_=>by rfl
 | .str _,.none,_,_ | .str _,.bool _,_,_ | .str _,.int _,_,_ | .str _,.tup _,_,_ | .str _,.lst _,_,_=>by rfl
 | .tup _,.none,_,_ | .tup _,.bool _,_,_ | .tup _,.int _,_,_ | .tup _,.str _,_,_ | .tup _,.lst _,_,_=>by rfl
 | .lst _,.none,_,_ | .lst _,.bool _,_,_ | .lst _,.int _,_,_ | .lst _,.str _,_,_ | .lst _,.tup _,_,_=>by rfl
theorem Z64:∀ (xs ys:List V),(∃ n,V.depths? xs = some n)→(∃ n,V.depths? ys = some n)→V.eqbs xs ys = PyData.eqvAll (V.toDs xs) (V.toDs ys)
 | [],[],_,_=>rfl
 | [],_ :: _,_,_=>rfl
 | _ :: _,[],_,_=>rfl
 | x :: xs,y :: ys,h,h'=>by
  obtain ⟨n,h⟩:=h; obtain ⟨n',h'⟩:=h'
  refine bnd (o:=x.depth?) h fun a ha h=>bnd (o:=V.depths? xs) h fun b hb _=>bnd (o:=y.depth?) h' fun a' ha' h'=>bnd (o:=V.depths? ys) h' fun b' hb' _=>?_
  show (V.eqb x y && V.eqbs xs ys) = (PyData.eqv x.toD y.toD && PyData.eqvAll (V.toDs xs) (V.toDs ys))
  rw [Zb7 x y ⟨_,ha⟩ ⟨_,ha'⟩,Z64 xs ys ⟨_,hb⟩ ⟨_,hb'⟩]
end
theorem RepV.reads {T:Addr→Prop} {μ:List Addr} {h:Heap} {v:Value} {x:V} (r:RepV T μ h v x):(∃ n,x.depth? = some n)→∃ as,Reads h v x.toD as∧x.toD.canLay0 = true :=
 RepV.rec (motive_1:=fun v x _=>(∃ n,x.depth? = some n)→∃ as,Reads h v x.toD as∧x.toD.canLay0 = true) (motive_2:=fun vs xs _=>(∃ n,V.depths? xs = some n)→∃ as,ReadsAll h vs (V.toDs xs) as∧PyData.canLayAll0 (V.toDs xs) = true)
  (fun _=>⟨[],.none,rfl⟩) (fun b _=>⟨[],.bool b,rfl⟩) (fun i t _=>⟨[],.int i t,rfl⟩) (fun x t h1 h2 _=>⟨[],Reads.str x t,h1⟩)
  (fun {a o vs n xs} ho hc hd hz hT _ ih hn=>by
   refine El.x1_1 hn fun m hm=>?_
   have hm:(V.depths? xs).map (· + 1) = some m:=hm
   refine El.x1_2 (Option.map_eq_some_iff.mp hm) fun k hk _=>?_
   refine El.x1_2 (ih ⟨k,hk⟩) fun as ra rc=>?_
   exact ⟨_,.tuple ho hc hd ra,rc⟩)
  (fun {a o vs n xs} ho hc hd hz hT _ ih hn=>by
   refine El.x1_1 hn fun m hm=>?_
   have hm:(V.depths? xs).map (· + 1) = some m:=hm
   refine El.x1_2 (Option.map_eq_some_iff.mp hm) fun k hk _=>?_
   refine El.x1_2 (ih ⟨k,hk⟩) fun as ra rc=>?_
   exact ⟨_,.list ho hc hd ra,rc⟩)
  (fun _ hn=>by obtain ⟨m,hm⟩:=hn; cases hm) (fun _ _ _ hn=>by obtain ⟨m,hm⟩:=hn; cases hm) (fun _=>⟨[],.nil,rfl⟩)
  (fun {v vs x xs} _ _ a b hn=>by
   refine El.x1_1 hn fun m hm=>bnd (o:=x.depth?) hm fun p hp hm=>bnd (o:=V.depths? xs) hm fun q hq _=>?_
   refine El.x1_2 (a ⟨_,hp⟩) fun as ra rc=>?_
   refine El.x1_2 (b ⟨_,hq⟩) fun bs rb rd=>?_
   refine ⟨_,.cons ra rb,?_⟩
   show (x.toD.canLay0 && PyData.canLayAll0 (V.toDs xs)) = true
   rw [rc,rd]; rfl) r
theorem Z3t {x:V} (h:x.flat64 = true):∃ n,x.depth? = some n∧n ≤ 64:=by
 unfold V.flat64 at h
 cases hd:x.depth? with
 | none=>rw [hd] at h; cases h
 | some d=>rw [hd] at h; exact ⟨d,rfl,of_decide_eq_true h⟩
noncomputable def cmM:Cm→CmpOp
 | .lt=>.Lt
 | .le=>.LtE
 | .gt=>.Gt
 | .ge=>.GtE
 | .eq=>.Eq
 | .ne=>.NotEq
 | .is=>.Is
 | .isnot=>.IsNot
 | .isin=>.In
 | .notin=>.NotIn
section
variable {c:Cx} {st:St} {μ:List Addr} {s:Shared} {u v:Value}
theorem Z9l {x:Str} {d:Nat} (h:x.cps.toList = [d]):x = ⟨#[d]⟩:=by
 obtain ⟨⟨l⟩⟩:=x
 simp at h
 subst h; rfl
theorem Z5m {T:Addr→Prop} {h:Heap} {x:V} (r:RepV T μ h v x):(v == Value.none) = x.isNone:=by
 cases r <;> rfl
theorem ZfB {β:Type} {α:Type} {rel:St→List Addr→Heap→α→V→Prop} {t:Sem α} {x y:V} {k:Int→Int→Option β} {f:β→V} (h:∀ a b,x = .int a→y = .int b→Sim c t (R.lift ((k a b).map f) st) rel st.σ μ s):Sim c t (R.lift ((onI x y k).map f) st) rel st.σ μ s :=
 Sim.lift fun b hb=>El.x1_2 (Option.map_eq_some_iff.mp hb) fun z hz e=>bnd hz fun i hi hz=>bnd hz fun j hj hz=>by
  have q:=h i j (Z0I hi) (Z0I hj)
  rw [hz,Option.map_some,e] at q; exact q
theorem ZfC {α:Type} {rel:St→List Addr→Heap→α→V→Prop} {t:Sem α} {x y:V} {f:Bool→V} (h:∀ d z,x = .str [d]→y = .str z→Sim c t (R.lift (some (f (z.contains d))) st) rel st.σ μ s):Sim c t (R.lift ((ZgT x y).map f) st) rel st.σ μ s :=
 Sim.lift fun b hb=>El.x1_2 (Option.map_eq_some_iff.mp hb) fun z hz e=>bnd hz fun l hl hz=>bnd hz fun w hw hz=>by
  cases l with
  | nil=>cases hz
  | cons d l=>cases l with
   | nil=>rw [← e,← Option.some.inj hz]; exact h d w (Z2b hl) (Z2b hw)
   | cons _ _=>cases hz
theorem Z5n {T:Addr→Prop} {h:Heap} {vs:List Value} {xs:List V} {l:List (List Nat)} (r:RepVs T μ h vs xs) (e:Z1h xs = some l) :
  ∃ ys:List Str,StrsAre vs ys∧ys.map (fun y=>y.cps.toList) = l∧∀ y ∈ ys,PyData.strOk y = true :=
 RepVs.ind (M:=fun vs xs=>∀ l,Z1h xs = some l→∃ ys:List Str,StrsAre vs ys∧ys.map (fun y=>y.cps.toList) = l∧∀ y ∈ ys,PyData.strOk y = true)
  (fun l e=>⟨[],.nil,Option.some.inj e,fun _ q=>nomatch q⟩)
  (fun {v vs x xs} a _ ih l e=>by
   cases x <;> try (cases e; done)
   rename_i z
   refine El.x1_2 (Option.map_eq_some_iff.mp (show (Z1h xs).map (z :: ·) = some l from e)) fun l' hl' q=>?_
   subst q
   refine El.x2_4 a.str_inv fun y t q8z q9z h1 h2=>?_
   subst q8z q9z
   refine El.x1_3 (ih l' hl') fun ys g1 g2 g3=>?_
   exact ⟨y :: ys,.cons y t g1,congrArg (y.cps.toList :: ·) g2,fun k hk=>(List.mem_cons.mp hk).elim (fun q=>q ▸ h1) (g3 k)⟩) r l e
theorem Z21 {T:Addr→Prop} {h:Heap} {vs:List Value} {xs:List V} {l:List Int} (r:RepVs T μ h vs xs) (e:Z0t xs = some l):IntsAre vs l :=
 RepVs.ind (M:=fun vs xs=>∀ l,Z0t xs = some l→IntsAre vs l) (fun l e=>Option.some.inj e ▸ .nil)
  (fun {v vs x xs} a _ ih l e=>by
   cases x <;> try (cases e; done)
   rename_i z
   refine El.x1_2 (Option.map_eq_some_iff.mp (show (Z0t xs).map (z :: ·) = some l from e)) fun l' hl' q=>?_
   subst q
   refine El.x1_1 a.int_inv fun t q=>?_
   subst q
   exact .cons _ _ (ih l' hl')) r l e
theorem Z9m (k:Str):∀ ys:List Str,(ys.any (· == k)) = (ys.map fun y=>y.cps.toList).any (· == k.cps.toList)
 | []=>rfl
 | y :: ys=>by
  rw [List.map_cons,List.any_cons,List.any_cons,Z9m k ys]
  congr 1
  rw [Bool.eq_iff_iff,beq_iff_eq,beq_iff_eq]
  constructor
  ·rintro rfl; rfl
  ·intro h
   obtain ⟨⟨a⟩⟩:=y
   obtain ⟨⟨b⟩⟩:=k
   simp at h
   rw [h]
theorem Zb8 {op:CmpOp} {f:Bool→V} (I:Inv c st μ s.heap) {x:V} {ys:List V} (rx:RepV (Tr st.σ μ) μ s.heap u x) (ry:RepV (Tr st.σ μ) μ s.heap v (.lst ys)) (g:Bool→Bool) (hf:∀ b,f b = .bool (g b))
  (hi:∀ {l:Addr} {vs:List Value} {ns:List Int} {k:Int} {t:Tok} {Q:Value→Shared→Prop},s.heap.IsList l vs.toArray→IntsAre vs ns→Q (.bool (g (ns.any (· == k)))) s→wpAny (model c.prog c.w) c.A (compareOp op (.int k t) (.ref l)) Q (fun _ _=>False) s)
  (hs:∀ {l:Addr} {vs:List Value} {ys:List Str} {k:Str} {t:Tok} {Q:Value→Shared→Prop},s.heap.IsList l vs.toArray→StrsAre vs ys→Q (.bool (g (ys.any (· == k)))) s→wpAny (model c.prog c.w) c.A (compareOp op (.str k t) (.ref l)) Q (fun _ _=>False) s) :
  Sim c (compareOp op u v) (R.lift ((inL x ys).map f) st) rV st.σ μ s:=by
 refine El.x2_4 ry.lst_inv fun a vs q12z hl hz r=>?_
 try clear hz; try clear a
 obtain rfl:=q12z
 cases x <;> try trivial
 ·rename_i k
  refine El.x1_1 rx.int_inv fun t q13z=>?_
  try clear q12z
  obtain rfl:=q13z
  show Sim c _ (R.lift (((Z0t ys).map fun l=>l.any (· == k)).map f) st) _ _ _ _
  cases e:Z0t ys with
  | none=>trivial
  | some l=>
   rw [Option.map_some,Option.map_some,hf]
   exact Z06 I fun Q hq=>hi (vs:=vs.toList) (by simpa using hl) (Z21 r e) (hq _)
 ·rename_i k
  refine El.x2_4 rx.str_inv fun z t q14z q15z _ _=>?_
  try clear q13z; try clear t
  obtain rfl:=q14z
  try clear q14z
  obtain rfl:=q15z
  show Sim c _ (R.lift (((Z1h ys).map fun l=>l.any (· == z.cps.toList)).map f) st) _ _ _ _
  cases e:Z1h ys with
  | none=>trivial
  | some l=>
   refine El.x1_3 (Z5n r e) fun zs g1 g2 _=>?_
   rw [Option.map_some,Option.map_some,hf]
   refine Z06 I fun Q hq=>hs (vs:=vs.toList) (by simpa using hl) g1 ?_
   rw [Z9m,g2]; exact hq _
theorem Z7j:∀ {xs:List V} {l:List Int},Z0t xs = some l→xs = l.map .int
 | [],l,e=>by cases e; rfl
 | x :: xs,l,e=>by
  cases x <;> try (cases e; done)
  obtain ⟨l',h1,h2⟩:=Option.map_eq_some_iff.mp e
  rw [← h2,Z7j h1]; rfl
theorem Zdg {a:V} {f:Option (List Int)} (h:ZgU a = some f):a = fV f:=by
 cases a <;> try (cases h; done)
 ·cases h; rfl
 ·refine El.x1_2 (Option.map_eq_some_iff.mp h) fun l h1 h2=>?_
  rw [← h2,Z7j h1]; rfl
theorem Z9n {y:V} {k:Option (List Int) × Str} (e:ZaS y = some k):y = kV k :=
 El.x1_2 (Option.bind_eq_some_iff.mp e) fun l el e=>El.x1_2 (Option.bind_eq_some_iff.mp e) fun p ep e=>El.x1_2 (Option.bind_eq_some_iff.mp e) fun f ef e=>El.x1_2 (Option.map_eq_some_iff.mp e) fun c ec e=>by
  rw [Z9h el,ZaX ep,Zdg ef,Z2b ec,← e]; rfl
theorem Zdh {prog:Program} {w:World} {vs:List Value} {l:List Int} (r:IntsAre vs l):ItemsAre (intKind prog w) l vs :=
 IntsAre.rec (motive:=fun vs l _=>ItemsAre (intKind prog w) l vs) .nil (fun _ _ _ _ _ ih=>.cons (by simp [intKind,Value.isInt]) ih) r
theorem Z5o:∀ l:List Int,Z0t (l.map .int) = some l
 | []=>rfl
 | i :: l=>by show (Z0t (l.map .int)).map (i :: ·) = _; rw [Z5o l]; rfl
theorem ZfD {h:Heap} {T:Addr→Prop} {v:Value} {f:Option (List Int)} (prog:Program) (w:World) (r:RepV T μ h v (fV f)):fIs prog w h v f:=by
 cases f with
 | none=>exact r.out
 | some l=>exact El.x4_7 r.tupI fun b o' vs' n' e' ho' hc' hd' _ _ rs'=>⟨b,e',o',vs',n',ho',hc',hd',Zdh (Z21 rs' (Z5o l))⟩
theorem Z9o {h:Heap} {T:Addr→Prop} {k:Option (List Int) × Str} (r:RepV T μ h u (kV k)):∃ a,u = .ref a∧∀ prog w,kIs prog w h k a :=
 El.x4_7 r.tupI fun a o vs n e ho hc hd hz hT rs=>El.x2_3 rs.consI fun v us e1 r1 rs=>El.x2_3 rs.consI fun v2 us2 e2 r2 rs=>El.x2_4 r2.out fun z t e3 ez hs hl=>⟨a,e,fun prog w=>by
  have en:us2 = []:=rs.out
  obtain rfl:z = k.2:=congrArg Str.mk (Array.toList_inj.mp ez)
  exact ⟨o,vs,n,v,t,ho,hc,hd,by rw [e1,e2,en,e3],hs,ZfD prog w r1⟩⟩
theorem Zb9 (ok:CxOk c) (I:Inv c st μ s.heap) {n:Nat} {d:Addr} (hd:μ[n]? = some d):(d == sysModules) = false:=by
 refine El.x1_1 ok.sys fun o hs=>?_
 rw [beq_eq_false_iff_ne]
 intro e
 rw [← e,I.baseM _ (List.mem_of_getElem? hd)] at hs
 cases hs
theorem RepVs.halves {T:Addr→Prop} {h:Heap} {vs us:List Value} {xs ys:List V} (r:RepVs T μ h (vs++us) (xs++ys)) (e:vs.length = xs.length):RepVs T μ h vs xs∧RepVs T μ h us ys:=by
 have r1:=r.take vs.length
 have r2:=r.drop vs.length
 rw [List.take_left,List.take_left' e.symm] at r1
 rw [List.drop_left,List.drop_left' e.symm] at r2
 exact ⟨r1,r2⟩
theorem Zh5 {T:Addr→Prop} {h:Heap} {xs:List ((Option (List Int) × Str) × Addr × Value)} {es:List ((Option (List Int) × Str) × V)} (hk:xs.map (·.1) = es.map (·.1)) (r:RepVs T μ h (xs.map fun x=>.ref x.2.1) (es.map fun y=>kV y.1)) {x:(Option (List Int) × Str) × Addr × Value} (hx:x ∈ xs) (prog:Program) (w:World):kIs prog w h x.1 x.2.1:=by
 have e:(es.map fun y=>kV y.1) = xs.map fun x=>kV x.1:=by
  have:=congrArg (List.map kV) hk
  rw [List.map_map,List.map_map] at this
  exact this.symm
 rw [e] at r
 refine El.x1_1 (List.getElem?_of_mem hx) fun i hi=>El.x1_2 (r.get (i:=i) (x:=kV x.1) (by rw [List.getElem?_map,hi]; rfl)) fun v hv rv=>El.x1_2 (Z9o rv) fun a ea hq=>?_
 rw [List.getElem?_map,hi] at hv
 have:Value.ref x.2.1 = .ref a:=(Option.some.inj hv).trans ea
 rw [Value.ref.inj this]; exact hq _ _
theorem Z65 (ok:CxOk c) (I:Inv c st μ s.heap) {n:Nat} {H:Option (List Int) × Str→Int} {es:List ((Option (List Int) × Str) × V)} (r:RepV (Tr st.σ μ) μ s.heap v (.ref n)) (h:st.σ[n]? = some (.kdict H es)) :
  ∃ d o xs,v = .ref d∧μ[n]? = some d∧(d == sysModules) = false∧H = kH c.w∧s.heap.get? d = some o∧KLay H o xs es∧s.heap.DictOfH (Z5X c.prog c.w) d xs∧RepVs (Tr st.σ μ) μ s.heap (xs.map fun x=>.ref x.2.1) (es.map fun y=>kV y.1)∧RepVs (Tr st.σ μ) μ s.heap (xs.map (·.2.2)) (es.map (·.2)):=by
 refine El.x1_2 r.refI fun d ed hd=>El.x1_2 (I.objs n _ h) fun d' hd' ro=>?_
 obtain rfl:=Option.some.inj (hd.symm.trans hd')
 refine El.x2_3 ro.out fun o xs ho L rs=>El.x2_2 L.data fun ds ep h1 h2=>El.x0_2 (rs.halves (by rw [List.length_map,List.length_map,← List.length_map (f:=(·.1)),L.keys,List.length_map])) fun r1 r2=>?_
 have hH:H = kH c.w:=I.kd _ (List.mem_of_getElem? h)
 exact ⟨d,o,xs,ed,hd,Zb9 ok I hd,hH,ho,L,⟨o,ds,ep,ho,L.dict,h1,by rw [h2,hH]; rfl,fun x hx=>Zh5 L.keys r1 hx _ _,L.nd⟩,r1,r2⟩
theorem Zdi {T:Addr→Prop} {h:Heap} {k:Option (List Int) × Str}:∀ {xs:List ((Option (List Int) × Str) × Addr × Value)} {es:List ((Option (List Int) × Str) × V)},xs.map (·.1) = es.map (·.1)→RepVs T μ h (xs.map (·.2.2)) (es.map (·.2)) →
  (atKey xs k = none∧(es.find? fun p=>p.1 = k) = none) ∨ ∃ p z,atKey xs k = some p∧((es.find? fun p=>p.1 = k).map (·.2)) = some z∧RepV T μ h p.2 z
 | [],[],_,_=>.inl ⟨rfl,rfl⟩
 | [],_ :: _,e,_=>by cases e
 | _ :: _,[],e,_=>by cases e
 | x :: xs,y :: es,e,r=>by
  have e1:x.1 = y.1:=(List.cons.inj e).1
  have e2:=(List.cons.inj e).2
  obtain ⟨v,us,q,r1,r2⟩:=r.consI
  have q1:x.2.2 = v:=(List.cons.inj q).1
  have q2:=(List.cons.inj q).2
  unfold atKey
  by_cases hk:x.1 = k
  ·exact .inr ⟨x.2,y.2,by rw [List.find?_cons_of_pos (by simpa using hk)]; rfl,by rw [List.find?_cons_of_pos (by simpa using e1.symm.trans hk)]; rfl,by rw [q1]; exact r1⟩
  ·rw [List.find?_cons_of_neg (by simpa using hk),List.find?_cons_of_neg (by simpa using fun w=>hk (e1.trans w))]
   exact Zdi e2 (q2 ▸ r2)
theorem Z5p {σ:List O} {n:Nat} {x:V} {o:Option V} (h:Z5Z σ n x = some o):∃ k H es,x = kV k∧σ[n]? = some (.kdict H es)∧o = (es.find? fun p=>p.1 = k).map (·.2) :=
 El.x1_2 (Option.bind_eq_some_iff.mp h) fun k hk h=>El.x1_2 (Option.map_eq_some_iff.mp h) fun p hp h=>⟨k,p.1,p.2,Z9n hk,Z7e hp,h.symm⟩
theorem Zba {f:Bool→V} {t:Sem Value} {x y:V} (hs:∀ d z,x = .str [d]→y = .str z→Sim c t (.ok (f (z.contains d)) st) rV st.σ μ s)
  (hd:∀ n k es,y = .ref n→x = .int k→st.σ[n]? = some (.idict es)→Sim c t (.ok (f (es.any fun p=>p.1 = k)) st) rV st.σ μ s) (hq:∀ n k H es,y = .ref n→x = kV k→st.σ[n]? = some (.kdict H es)→Sim c t (.ok (f ((es.find? fun p=>p.1 = k).map (·.2)).isSome) st) rV st.σ μ s) (hl:∀ ys,y = .lst ys→Sim c t (R.lift ((inL x ys).map f) st) rV st.σ μ s):Sim c t (R.lift ((inD st.σ x y).map f) st) rV st.σ μ s:=by
 refine Sim.lift fun b hb=>El.x1_2 (Option.map_eq_some_iff.mp hb) fun z hz e=>?_
 rw [← e]
 refine Z0l hz (fun ys ey hz=>?_) fun hz=>Z0l hz (fun n en hz=>Z0l hz (fun k ek hz=>?_) fun hz=>?_) fun hz=>?_
 ·have q:=hl ys (Z1D ey)
  rw [hz] at q; exact q
 ·refine El.x1_2 (Option.map_eq_some_iff.mp hz) fun es e1 e2=>?_
  rw [← e2]; exact hd n k es (Z1I en) (Z0I ek) (Z1J e1)
 ·refine El.x1_2 (Option.map_eq_some_iff.mp hz) fun o e1 e2=>El.x3_3 (Z5p e1) fun k H es g1 g2 g3=>?_
  rw [← e2,g3]; exact hq n k H es (Z1I en) g1 g2
 ·have q:=ZfC (x:=x) (y:=y) (f:=f) (t:=t) (rel:=rV) hs
  rw [hz] at q; exact q
theorem Zbb {f:Bool→V} {op:CmpOp} {b:Bool→Value} (ok:CxOk c) (I:Inv c st μ s.heap) {n:Nat} {k:Option (List Int) × Str} {H:Option (List Int) × Str→Int} {es:List ((Option (List Int) × Str) × V)} (rx:RepV (Tr st.σ μ) μ s.heap u (kV k)) (ry:RepV (Tr st.σ μ) μ s.heap v (.ref n)) (h:st.σ[n]? = some (.kdict H es))
  (hw:∀ {a d:Addr} {xs} {Q:Value→Shared→Prop},(Z5X c.prog c.w).room c.A.in1→kIs c.prog c.w s.heap k a→(d == sysModules) = false→s.heap.DictOfH (Z5X c.prog c.w) d xs→Q (b (atKey xs k).isSome) { s with toks:=s.toks + (Z5X c.prog c.w).draws k }→wpAny (model c.prog c.w) c.A (compareOp op (.ref a) (.ref d)) Q (fun _ _=>False) s)
  (hb:∀ x,∃ y:Bool,b x = .bool y∧f x = .bool y) :
  Sim c (compareOp op u v) (.ok (f ((es.find? fun p=>p.1 = k).map (·.2)).isSome) st) rV st.σ μ s:=by
 obtain ⟨d,o,xs,rfl,_,hs,_,_,L,hm,_,r⟩:=Z65 ok I ry h
 obtain ⟨a,rfl,hi⟩:=Z9o rx
 have e:(atKey xs k).isSome = ((es.find? fun p=>p.1 = k).map (·.2)).isSome:=by
  rcases Zdi (k:=k) L.keys r with ⟨h1,h2⟩ | ⟨p,z,h1,h2,_⟩
  ·rw [h1,h2]; rfl
  ·rw [h1,h2]; rfl
 obtain ⟨y,h1,h2⟩:=hb ((es.find? fun p=>p.1 = k).map (·.2)).isSome
 rw [h2]
 refine Z06 I fun Q hq=>hw (have:=ok.units; by show c.A.units + 1 + 2 < cLine; lia) (hi _ _) hs hm ?_
 rw [e,h1]; exact hq _
theorem Z9p {kvs:List (Int × Value)} {ys:List (Int × V)} (k:Int) (h:kvs.map (·.1) = ys.map (·.1)):(valueAt kvs k).isSome = ys.any fun p=>p.1 = k:=by
 have h1:(valueAt kvs k).isSome = (kvs.map (·.1)).any fun x=>x = k:=by
  unfold valueAt
  rw [Option.isSome_map,List.any_map,Bool.eq_iff_iff,List.find?_isSome,List.any_eq_true]; rfl
 rw [h1,h,List.any_map]; rfl
theorem Z4c (ok:CxOk c) (I:Inv c st μ s.heap) {n:Nat} {es:List (Int × V)} (r:RepV (Tr st.σ μ) μ s.heap v (.ref n)) (h:st.σ[n]? = some (.idict es)) :
  ∃ d kvs,v = .ref d∧μ[n]? = some d∧(d == sysModules) = false∧s.heap.DictOf (intKind c.prog c.w) d kvs∧kvs.map (·.1) = es.map (·.1)∧kvs.length ≤ sizeLine∧RepVs (Tr st.σ μ) μ s.heap (kvs.map (·.2)) (es.map (·.2)):=by
 refine El.x1_2 r.refI fun d ed hd=>El.x1_2 (I.objs n _ h) fun d' hd' ro=>?_
 obtain rfl:=Option.some.inj (hd.symm.trans hd')
 exact El.x2_5 ro.idictI fun ob kvs ho hD hzk hkk r=>⟨d,_,ed,hd,Zb9 ok I hd,Heap.dictOf_iff.mpr ⟨_,ho,hD c.prog c.w⟩,hkk,hzk,r⟩
theorem Z66 {t:Value→Value→Sem Value} {x y:V} {k:Int→Int→Bool} (I:Inv c st μ s.heap) (rx:RepV (Tr st.σ μ) μ s.heap u x) (ry:RepV (Tr st.σ μ) μ s.heap v y) (h:∀ a b t1 t2 (Q:Value→Shared→Prop),Q (.bool (k a b)) s→wpAny (model c.prog c.w) c.A (t (.int a t1) (.int b t2)) Q (fun _ _=>False) s):Sim c (t u v) (R.lift ((onI x y fun a b=>some (k a b)).map V.bool) st) rV st.σ μ s :=
 ZfB fun a b ex ey=>El.x1_1 (RepV.int_inv (ex ▸ rx)) fun t1 q1=>El.x1_1 (RepV.int_inv (ey ▸ ry)) fun t2 q2=>by
  rw [q1,q2]; exact Z06 I fun Q hq=>h a b t1 t2 Q (hq _)
theorem ZeR {G:Prop} {x y:V} (ok:CxOk c) (rx:RepV (Tr st.σ μ) μ s.heap u x) (ry:RepV (Tr st.σ μ) μ s.heap v y) (h:(x.flat64 && y.flat64) = true) (k:∀ as bs,Reads s.heap u x.toD as→Reads s.heap v y.toD bs→x.toD.canLay0 = true→y.toD.canLay0 = true→c.A.units + min x.toD.depth y.toD.depth < cLine→PyData.eqv x.toD y.toD = V.eqb x y→G):G :=
 El.x0_2 (Bool.and_eq_true_iff.mp h) fun h1 h2=>El.x1_2 (Z3t h1) fun n hn hn'=>El.x1_2 (Z3t h2) fun m hm hm'=>El.x1_2 (rx.reads ⟨_,hn⟩) fun as ra la=>El.x1_2 (ry.reads ⟨_,hm⟩) fun bs rb lb=>k as bs ra rb la lb (by
  rw [Z4b _ _ hn,Z4b _ _ hm]; have:=ok.units; lia) (Zb7 _ _ ⟨_,hn⟩ ⟨_,hm⟩).symm
theorem Zbc (ok:CxOk c) (I:Inv c st μ s.heap) {x y:V} (rx:RepV (Tr st.σ μ) μ s.heap u x) (ry:RepV (Tr st.σ μ) μ s.heap v y) (op:Cm) :
  Sim c (compareOp (cmM op) u v) (R.lift ((Z10 st.σ op x y).map V.bool) st) rV st.σ μ s:=by
 cases op
 ·exact Z66 (t:=compareOp (cmM .lt)) I rx ry fun a b t1 t2 Q hq=>P.lt_int hq
 ·exact Z66 (t:=compareOp (cmM .le)) I rx ry fun a b t1 t2 Q hq=>P.le_int hq
 ·exact Z66 (t:=compareOp (cmM .gt)) I rx ry fun a b t1 t2 Q hq=>P.gt_int hq
 ·exact Z66 (t:=compareOp (cmM .ge)) I rx ry fun a b t1 t2 Q hq=>P.ge_int hq
 ·exact Sim.lift fun z h=>El.x1_2 (Option.map_eq_some_iff.mp h) fun b hb e=>Z1p hb fun hf hb=>ZeR ok rx ry hf fun as bs ra rb la lb hu he=>by
   rw [← e,← Option.some.inj hb,← he]
   exact Z06 I fun Q hq=>SeqAt.compareEq_reads ra rb la lb hu (hq _)
 ·exact Sim.lift fun z h=>El.x1_2 (Option.map_eq_some_iff.mp h) fun b hb e=>Z1p hb fun hf hb=>ZeR ok rx ry hf fun as bs ra rb la lb hu he=>by
   rw [← e,← Option.some.inj hb,← he]
   exact Z06 I fun Q hq=>SeqAt.compareNe_reads ra rb la lb hu (hq _)
 ·cases y <;> try trivial
  try clear lb; try clear rb; try clear bs; try clear la; try clear ra; try clear as; try clear hm'; try clear hm; try clear m; try clear hn'; try clear hn
  obtain rfl:=ry.none_inv
  refine Z06 I fun Q hq=>is_none ?_
  rw [Z5m rx]; exact hq _
 ·cases y <;> try trivial
  obtain rfl:=ry.none_inv
  refine Z06 I fun Q hq=>isNot_none ?_
  rw [Z5m rx]; exact hq _
 ·refine Zba (fun d z ex ey=>?_) (fun n k es ey ex h=>?_) (fun n k H es ey ex h=>Zbb (f:=fun b=>V.bool b) (op:=.In) ok I (ex ▸ rx) (ey ▸ ry) h (fun hu hi hs hm hq=>wpAny_in_heap hu hi hs hm hq) fun x=>⟨_,rfl,rfl⟩) fun ys ey=>?_
  ·subst ex ey
   refine El.x2_4 rx.str_inv fun a t q16z e h1 h2=>?_
   obtain rfl:=q16z
   refine El.x2_4 ry.str_inv fun b t' q17z q18z h1' h2'=>?_
   try clear q16z
   obtain rfl:=q17z
   try clear q17z
   obtain rfl:=q18z
   try clear q18z
   obtain rfl:=Z9l e
   refine Z06 I fun Q hq=>P.in_str ?_
   rw [StrLaws.found_one]
   rw [show decide (_ ∈ b.cps.toList) = b.cps.toList.contains _ from (List.contains_eq_mem ..).symm]
   exact hq _
  ·subst ex ey
   refine El.x1_1 rx.int_inv fun t q19z=>?_
   obtain rfl:=q19z
   refine El.x2_7 (Z4c ok I ry h) fun d kvs q20z _ hds hD hk _ _=>?_
   try clear q19z
   obtain rfl:=q20z
   refine Z06 I fun Q hq=>wpAny_in_of (knd:=intKind c.prog c.w) (intKind_is _ _ _ _) hds hD.mapOf ?_
   rw [Z9p k hk]; exact hq _
  ·try clear q20z
   subst ey
   exact Zb8 I rx ry id (fun _=>rfl) in_list_ints in_list_strs
 ·have e0:((Z10 st.σ .notin x y).map V.bool) = (inD st.σ x y).map (fun b=>V.bool (!b)):=by
   show ((inD st.σ x y).map not).map V.bool = _
   rw [Option.map_map]; rfl
  rw [e0]
  refine Zba (fun d z ex ey=>?_) (fun n k es ey ex h=>?_) (fun n k H es ey ex h=>Zbb (f:=fun b=>V.bool (!b)) (op:=.NotIn) ok I (ex ▸ rx) (ey ▸ ry) h (fun hu hi hs hm hq=>wpAny_notIn_heap hu hi hs hm hq) fun x=>⟨_,rfl,rfl⟩) fun ys ey=>?_
  ·try clear e0; try clear ys; try clear es; try clear z; try clear n
   subst ex ey
   refine El.x2_4 rx.str_inv fun a t q21z e h1 h2=>?_
   try clear h2; try clear h1; try clear a
   obtain rfl:=q21z
   refine El.x2_4 ry.str_inv fun b t' q22z q23z h1' h2'=>?_
   try clear q21z; try clear h2'; try clear h1'; try clear t'
   obtain rfl:=q22z
   try clear q22z
   obtain rfl:=q23z
   try clear q23z
   obtain rfl:=Z9l e
   refine Z06 I fun Q hq=>P.notIn_str ?_
   rw [StrLaws.found_one]
   rw [show decide (_ ∈ b.cps.toList) = b.cps.toList.contains _ from (List.contains_eq_mem ..).symm]
   exact hq _
  ·try clear e; try clear b
   subst ex ey
   refine El.x1_1 rx.int_inv fun t q24z=>?_
   try clear t; try clear ex
   obtain rfl:=q24z
   refine El.x2_7 (Z4c ok I ry h) fun d kvs q25z _ hds hD hk _ _=>?_
   try clear q24z; try clear kvs; try clear h; try clear d
   obtain rfl:=q25z
   refine Z06 I fun Q hq=>wpAny_notIn_of (knd:=intKind c.prog c.w) (intKind_is _ _ _ _) hds hD.mapOf ?_
   rw [Z9p k hk]; exact hq _
  ·try clear q25z; try clear hk; try clear hD; try clear hds; try clear k
   subst ey
   exact Zb8 I rx ry not (fun _=>rfl) notin_list_ints notin_list_strs
end
noncomputable def Z1b:Expr→Bool
 | .Slice ..=>false
 | _=>true
theorem Z0u {slice:Expr} (h:Z1b slice = true) (o i:Value):subscripted slice false o i = operate [o,i] (getItem o i):=by
 cases slice <;> first | rfl | exact absurd h Bool.false_ne_true
theorem Z7k {α:Type} {xs:List α} {i:Int} {x:α} (h:Z0n xs i = some x):(-(2 ^ 63) ≤ i∧i < 2 ^ 63)∧∃ j,seqIndex? i xs.length = some j∧xs[j]? = some x:=by
 unfold Z0n at h
 split at h
 ·rename_i hs
  simp only [Z0v,Bool.and_eq_true,decide_eq_true_eq] at hs
  refine ⟨hs,?_⟩
  unfold seqIndex?
  split at h
  ·rename_i h0
   have hlt:i.toNat < xs.length:=(List.getElem?_eq_some_iff.mp h).1
   refine ⟨i.toNat,?_,h⟩
   simp only [show ¬ i < 0 from by lia,if_false]
   rw [if_pos (by simp only [Bool.and_eq_true,decide_eq_true_eq]; lia)]
  ·split at h
   ·rename_i h0 h1
    have hlt:(i + xs.length).toNat < xs.length:=(List.getElem?_eq_some_iff.mp h).1
    refine ⟨(i + xs.length).toNat,?_,h⟩
    simp only [show i < 0 from by lia,if_true]
    rw [if_pos (by simp only [Bool.and_eq_true,decide_eq_true_eq]; lia)]
   ·try clear hlt
    cases h
 ·cases h
theorem Z5g {i:Int} {n j:Nat} (h:seqIndex? i n = some j):(0 ≤ i∧i.toNat = j∧i < n) ∨ (i < 0∧-(n:Int) ≤ i∧(i + n).toNat = j):=by
 unfold seqIndex? at h
 by_cases h0:i < 0
 ·simp only [h0,if_true] at h
  by_cases hc:(decide (0 ≤ i + (n:Int)) && decide (i + (n:Int) < n)) = true
  ·rw [if_pos hc] at h
   simp only [Bool.and_eq_true,decide_eq_true_eq] at hc
   exact .inr ⟨h0,by lia,Option.some.inj h⟩
  ·rw [if_neg hc] at h; cases h
 ·simp only [h0,if_false] at h
  by_cases hc:(decide (0 ≤ i) && decide (i < (n:Int))) = true
  ·rw [if_pos hc] at h
   simp only [Bool.and_eq_true,decide_eq_true_eq] at hc
   exact .inl ⟨by lia,Option.some.inj h,by lia⟩
  ·rw [if_neg hc] at h; cases h
section
variable {c:Cx} {st:St} {μ:List Addr} {s:Shared} {u v:Value}
theorem ZfE {M:Model} {prog:Program} {w:World} {A:Around} {E:Value→Shared→Prop} {l:Addr} {items:Array Value} {i:Int} {t:Tok} {j:Nat} {x:Value} {Q:Value→Shared→Prop} (hl:s.heap.IsList l items)
  (hb:-(2 ^ 63) ≤ i∧i < 2 ^ 63) (hj:seqIndex? i items.size = some j) (hx:items[j]? = some x) (h:Q x s):wpAny (model prog w) A (getItem (.ref l) (.int i t)) Q E s:=by
 rcases Z5g hj with ⟨h0,rfl,_⟩ | ⟨h0,h1,rfl⟩
 ·exact wpAny_getItem_list hl h0 hb.2 hx h
 ·exact wpAny_getItem_list_neg hl h0 h1 hb.1 hx h
theorem Z9q {T:Addr→Prop} {h:Heap} {k:Int} {z:V}:∀ {kvs:List (Int × Value)} {ys:List (Int × V)},kvs.map (·.1) = ys.map (·.1)→RepVs T μ h (kvs.map (·.2)) (ys.map (·.2))→dGet ys k = some z→∃ w,valueAt kvs k = some w∧RepV T μ h w z
 | [],[],_,_,e=>by cases e
 | [],_ :: _,e,_,_=>by cases e
 | _ :: _,[],e,_,_=>by cases e
 | p :: kvs,q :: ys,e,r,hz=>by
  have e1:p.1 = q.1:=(List.cons.inj e).1
  have e2:=(List.cons.inj e).2
  refine El.x2_3 r.consI fun v9 vs9 e9 a r=>?_
  try clear vs9; try clear v9
  cases e9
  unfold dGet at hz
  unfold valueAt
  rw [List.find?_cons] at hz ⊢
  by_cases hk:q.1 = k
  ·rw [decide_eq_true hk] at hz
   rw [decide_eq_true (e1.trans hk)]
   try clear e9
   cases hz
   exact ⟨_,rfl,a⟩
  ·rw [decide_eq_false hk] at hz
   rw [decide_eq_false (fun x=>hk (e1.symm.trans x))]
   exact Z9q e2 r hz
section
variable {value slice:Expr}
theorem Zbd {a:Addr} {vs:Array Value} {xs:List V} {i:Int} {z:V} (r:RepVs (Tr st.σ μ) μ s.heap vs.toList xs) (e:Z0n xs i = some z) :
  ∃ j w,(-(2 ^ 63) ≤ i∧i < 2 ^ 63)∧seqIndex? i vs.size = some j∧vs[j]? = some w∧RepV (Tr st.σ μ) μ s.heap w z :=
 El.x0_2 (Z7k e) fun hb hj=>El.x1_2 hj fun j hj hx=>El.x1_2 (r.get hx) fun w hw rw'=>⟨j,w,hb,by rw [← Array.length_toList,r.length]; exact hj,by rw [← Array.getElem?_toList]; exact hw,rw'⟩
theorem Z9r (hs:Z1b slice = true) (I:Inv c st μ s.heap) {a:Addr} {vs:Array Value} {xs:List V} {i:Int} {z:V} (hl:s.heap.IsList a vs) (r:RepVs (Tr st.σ μ) μ s.heap vs.toList xs) (ry:RepV (Tr st.σ μ) μ s.heap v (.int i)) (e:Z0n xs i = some z) :
  Sim c (subscriptTail value slice (.ref a) v) (.ok z st) rV st.σ μ s :=
 El.x2_4 (Zbd (a:=a) r e) fun j w hb hj hw rw'=>El.x1_1 ry.int_inv fun t q=>by
  rw [q]; exact Z1Z I rw' fun Q hq=>tail_any hl.typeIs slot_list_getitem.lookup (ZfE (M:=model c.prog c.w) hl hb hj hw (hq _)) (Z0u hs _ _)
theorem Zbe (hs:Z1b slice = true) (I:Inv c st μ s.heap) {xs:List V} {i:Int} {z:V} (rx:RepV (Tr st.σ μ) μ s.heap u (.tup xs)) (ry:RepV (Tr st.σ μ) μ s.heap v (.int i)) (e:Z0n xs i = some z) :
  Sim c (subscriptTail value slice u v) (.ok z st) rV st.σ μ s :=
 El.x2_4 rx.tup_inv fun a vs q hl hz r=>El.x2_4 (Zbd (a:=a) r e) fun j w hb hj hw rw'=>El.x1_1 ry.int_inv fun t q'=>by
  rw [q,q']; exact Z1Z I rw' fun Q hq=>tail_any hl.typeIs slot_tuple_getitem.lookup (getItem_tuple hl hb.1 hb.2 hj hw (hq _)) (Z0u hs _ _)
theorem Zh6 {x:Str} {d:Nat} (h1:PyData.strOk x = true) (hd:d ∈ x.cps.toList):PyData.strOk ⟨#[d]⟩ = true:=by
 unfold PyData.strOk at h1 ⊢
 rw [Array.all_eq_true_iff_forall_mem] at h1 ⊢
 intro a ha
 obtain rfl:a = d:=by simpa using ha
 exact h1 a (Array.mem_toList_iff.mp hd)
theorem ZfF (hs:Z1b slice = true) (I:Inv c st μ s.heap) {l:List Nat} {i:Int} {d:Nat} (rx:RepV (Tr st.σ μ) μ s.heap u (.str l)) (ry:RepV (Tr st.σ μ) μ s.heap v (.int i)) (e:Z0n l i = some d) :
  Sim c (subscriptTail value slice u v) (.ok (.str [d]) st) rV st.σ μ s :=
 El.x2_4 rx.str_inv fun x t q q2 h1 h2=>El.x0_2 (Z7k e) fun hb hj=>El.x1_2 hj fun j hj hx=>El.x1_1 ry.int_inv fun t' q'=>by
  rw [q,q']
  rw [← q2] at hj hx
  refine Z2q (x:=⟨#[d]⟩) I (Zh6 h1 (List.mem_of_getElem? hx)) (by show 1 ≤ sizeLine; decide) (by rfl) fun Q hq=>tail_any (typeIs_str s x t) F.slot_str_getitem.lookup (P.getItem_str (c:=d) ?_ ?_ (hq _ _)) (Z0u hs _ _)
  ·simp only [Bool.or_eq_false_iff,decide_eq_false_iff_not]; lia
  ·rw [show x.length = x.cps.toList.length from (Array.length_toList).symm,hj]
   exact (Array.getElem?_toList).symm.trans hx
theorem Zdj (hs:Z1b slice = true) (ok:CxOk c) (I:Inv c st μ s.heap) {n:Nat} {es:List (Int × V)} {i:Int} {z:V} (rx:RepV (Tr st.σ μ) μ s.heap u (.ref n)) (hn:st.σ[n]? = some (.idict es)) (ry:RepV (Tr st.σ μ) μ s.heap v (.int i)) (e:dGet es i = some z) :
  Sim c (subscriptTail value slice u v) (.ok z st) rV st.σ μ s :=
 El.x2_7 (Z4c ok I rx hn) fun d kvs q _ _ hD hk _ r=>El.x1_2 (Z9q hk r e) fun w hw rw'=>El.x1_1 ry.int_inv fun t q'=>by
  rw [q,q']
  exact Sim.leaf I (tail_any hD.mapOf.typeIs slot_dict_getitem.lookup (wpAny_getItem_of (knd:=intKind c.prog c.w) (k:=i) (by simp [intKind,Value.isInt]) hD.mapOf hw ⟨.refl,⟨rfl,rfl,rfl⟩,rw'⟩) (Z0u hs _ _))
theorem ZfG (hs:Z1b slice = true) (ok:CxOk c) (I:Inv c st μ s.heap) {n:Nat} {y z:V} (rx:RepV (Tr st.σ μ) μ s.heap u (.ref n)) (ry:RepV (Tr st.σ μ) μ s.heap v y) (h:Z5Z st.σ n y = some (some z)) :
  Sim c (subscriptTail value slice u v) (.ok z st) rV st.σ μ s:=by
 refine El.x3_3 (Z5p h) fun k H es e1 e2 e3=>?_
 rw [e1] at ry
 obtain ⟨d,o,xs,e4,_,_,_,_,L,hm,_,r⟩:=Z65 ok I rx e2
 obtain ⟨a,e5,hi⟩:=Z9o ry
 rcases Zdi (k:=k) L.keys r with ⟨h1,h2⟩ | ⟨p,z',h1,h2,rz⟩
 ·rw [h2] at e3; cases e3
 ·rw [h2] at e3
  obtain rfl:=Option.some.inj e3
  rw [e4,e5]
  exact Sim.leaf I (tail_any hm.typeIs slot_dict_getitem.lookup (wpAny_getItem_heap (have:=ok.units; by show c.A.units + 1 + 2 < cLine; lia) (hi _ _) hm h1 ⟨.refl,⟨rfl,rfl,rfl⟩,rz⟩) (Z0u hs _ _))
end
theorem ZfH (ok:CxOk c) (I:Inv c st μ s.heap) {x y:V} (rx:RepV (Tr st.σ μ) μ s.heap u x) (ry:RepV (Tr st.σ μ) μ s.heap v y) {value slice:Expr} (hs:Z1b slice = true) :
  Sim c (subscriptTail value slice u v) (R.lift (Z0H st.σ x y) st) rV st.σ μ s :=
 Sim.lift fun z h=>Z0l h (fun xs ex h=>bnd h fun i hi h=>Zbe hs I (Z9h ex ▸ rx) (Z0I hi ▸ ry) h) fun h=>Z0l h (fun xs ex h=>bnd h fun i hi h=>El.x2_4 (RepV.lst_inv (Z1D ex ▸ rx)) fun a vs q hl hz r=>by rw [q]; exact Z9r hs I hl r (Z0I hi ▸ ry) h)
  fun h=>Z0l h (fun l el h=>bnd h fun i hi h=>El.x1_2 (Option.map_eq_some_iff.mp h) fun d hd e=>e ▸ ZfF hs I (Z2b el ▸ rx) (Z0I hi ▸ ry) hd) fun h=>bnd h fun n hn h=>by
  have rx:=Z1I hn ▸ rx
  exact Z0l h (fun xs ex h=>bnd h fun i hi h=>El.x2_4 (I.ref_inv rx (Z1o ex)) fun a vs q hl hz r=>by rw [q]; exact Z9r hs I hl.isList r (Z0I hi ▸ ry) h) fun h=>Z0l h (fun es ee h=>bnd h fun i hi h=>Zdj hs ok I rx (Z1J ee) (Z0I hi ▸ ry) h)
   fun h=>bnd h fun o ho h=>ZfG hs ok I rx ry (ho.trans (congrArg some h))
theorem Z9s {T:Addr→Prop} {h:Heap} {x:V} {p:Option Int} (r:RepV T μ h v x) (e:ZaT x = some p):IsPart v p∧∃ q:Option (Int × Tok),v = partValue q∧q.map (·.1) = p:=by
 refine Z0l e (fun a ha h=>?_) fun h=>bnd h fun a ha h=>?_
 ·rw [Z0I ha] at r
  rw [← Option.some.inj h]
  refine El.x1_1 r.int_inv fun t q=>?_
  rw [q]; exact ⟨.int _ _,some (_,t),rfl,rfl⟩
 ·rw [Zfk ha] at r
  rw [← Option.some.inj h,r.none_inv]
  exact ⟨.none,none,rfl,rfl⟩
theorem Zbf (items:Array Value) (lo hi:Option Int):(slicePick items lo hi none).toList = cutL items.toList lo hi:=by
 rw [slicePick_plain]
 unfold cutL
 simp
theorem RepVs.cutL {T:Addr→Prop} {h:Heap} {vs:List Value} {xs:List V} (r:RepVs T μ h vs xs) (lo hi:Option Int):RepVs T μ h (Mine.cutL vs lo hi) (Mine.cutL xs lo hi):=by
 unfold Mine.cutL
 rw [r.length]
 exact (r.drop _).take _
noncomputable def loC (n:Nat) (lo:Option Int):Nat:=lo.elim 0 (clipAt n)
noncomputable def hiC (n:Nat) (hi:Option Int):Nat:=hi.elim n (clipAt n)
theorem Zbg (n:Nat) (lo hi:Option Int):Builtin.Str.strSliceIndices lo hi 1 n = (List.range (hiC n hi - loC n lo)).map (loC n lo + ·):=by
 rw [← sliceRange_one]
 unfold Builtin.Str.strSliceIndices loC hiC
 simp only [show (1:Int) > 0 from by decide,if_true]
 cases lo <;> cases hi <;> simp only [Option.elim_none,Option.elim_some,clipAt_cast] <;> rfl
theorem Zdk (x:Str) (lo hi:Option Int):(Builtin.Str.strSliceIndices lo hi 1 x.length).filterMap (x.cps[·]?) = cutL x.cps.toList lo hi:=by
 rw [Zbg,pick_run]
 unfold cutL loC hiC
 simp [Str.length]
theorem Zdl {α:Type} {xs:List α} {lo hi:Option Int} {x:α} (h:x ∈ cutL xs lo hi):x ∈ xs:=List.mem_of_mem_drop (List.mem_of_mem_take h)
theorem Zbh (n:Nat) (i:Int):clipAt n i ≤ n:=Int.toNat_le.mpr (Int.max_le.mpr ⟨Int.natCast_nonneg n,Int.min_le_right _ _⟩)
theorem Z4d {α:Type} (xs:List α) (lo hi:Option Int):(cutL xs lo hi).length ≤ xs.length:=by
 unfold cutL; rw [List.length_take,List.length_drop]; exact Nat.le_trans (Nat.min_le_right _ _) (Nat.sub_le _ _)
theorem Zh7 (n:Nat) (hi:Option Int):hiC n hi ≤ n:=by
 cases hi with
 | none=>exact Nat.le_refl _
 | some i=>exact Zbh _ _
theorem Zdm {α:Type} (xs:List α) (lo hi:Option Int):(cutL xs lo hi).length = hiC xs.length hi - loC xs.length lo:=by
 show ((xs.drop (loC xs.length lo)).take (hiC xs.length hi - loC xs.length lo)).length = _
 rw [List.length_take,List.length_drop]
 exact Nat.min_eq_left (Nat.sub_le_sub_right (Zh7 _ _) _)
section
variable {value:Expr} {l' u':Option Expr} {p:Pos} {sa:Addr} {vl vu:Value} {pl pu:Option Int}
theorem Z5q (I:Inv c st μ s.heap) (hsl:s.heap.IsSliceOf sa vl vu .none) (il:IsPart vl pl) (iu:IsPart vu pu) {a:Addr} {vs:Array Value} {xs:List V} (hL:s.heap.IsList a vs) (hz:vs.size ≤ sizeLine) (r:RepVs (Tr st.σ μ) μ s.heap vs.toList xs) :
  Sim c (subscriptTail value (.Slice l' u' none p) (.ref a) (.ref sa)) (.ok (.lst (cutL xs pl pu)) st) rV st.σ μ s:=by
 refine Sim.leaf I (tail_any hL.typeIs slot_list_getitem.lookup (wpAny_getItem_list_slice hL hsl il iu .none (by simp) ?_ hz) rfl)
 refine ⟨.push _,.refl,?_⟩
 rw [show slicePick vs pl pu none = (cutL vs.toList pl pu).toArray by rw [← Zbf]]
 exact Z1r I (r.cutL pl pu) (Nat.le_trans (Z4d vs.toList pl pu) hz)
theorem Zh8 {x:Str} (h:PyData.strOk x = true) (lo hi:Option Int):PyData.strOk ⟨(cutL x.cps.toList lo hi).toArray⟩ = true:=by
 unfold PyData.strOk at h ⊢
 rw [Array.all_eq_true_iff_forall_mem] at h ⊢
 intro a ha
 exact h a (by rw [← Array.mem_toList_iff]; exact Zdl (by simpa using ha))
theorem Zbi (I:Inv c st μ s.heap) {ql qu:Option (Int × Tok)} (hsl:s.heap.IsSliceOf sa (partValue ql) (partValue qu) .none) (el:ql.map (·.1) = pl) (eu:qu.map (·.1) = pu) {l:List Nat} (rx:RepV (Tr st.σ μ) μ s.heap u (.str l)) :
  Sim c (subscriptTail value (.Slice l' u' none p) u (.ref sa)) (.ok (.str (cutL l pl pu)) st) rV st.σ μ s:=by
 refine El.x2_4 rx.str_inv fun y t q9 q10 h1 h2=>?_
 rw [q9,← q10]
 have e2:slicePicked y ql qu none = Builtin.Str.strSliceIndices pl pu 1 y.length:=by
  unfold slicePicked
  rw [el,eu]; rfl
 have e3:(slicePicked y ql qu none).filterMap (y.cps[·]?) = cutL y.cps.toList pl pu:=by rw [e2]; exact Zdk y pl pu
 have hlen:(cutL y.cps.toList pl pu).length ≤ sizeLine:=Nat.le_trans (Z4d y.cps.toList pl pu) (by rw [Array.length_toList]; exact h2)
 refine Sim.leaf I (tail_any (typeIs_str _ y t) F.slot_str_getitem.lookup (wpAny_getItem_str_slice (l:=ql) (u:=qu) (st:=none) hsl rfl ?_) rfl)
 unfold sliceMade
 split
 ·rename_i hc
  refine ⟨.refl,.refl,?_⟩
  rw [show cutL y.cps.toList pl pu = y.cps.toList from ?_]
  ·exact .str y t h1 h2
  ·simp only [Option.map_none,Option.getD_none,Bool.and_eq_true,beq_iff_eq] at hc
   refine ((List.take_sublist _ _).trans (List.drop_sublist _ _)).eq_of_length ?_
   have hc:=hc.2
   rw [e2,Zbg,List.length_map,List.length_range] at hc
   refine (Zdm _ _ _).trans ?_
   rw [Array.length_toList]; exact hc
 ·refine ⟨by show (List.toArray _).size ≤ sizeLine; rw [List.size_toArray,e3]; exact hlen,.refl,.refl,?_⟩
  rw [e3]
  exact .str ⟨(cutL y.cps.toList pl pu).toArray⟩ _ (Zh8 h1 pl pu) (by show (List.toArray _).size ≤ sizeLine; rw [List.size_toArray]; exact hlen)
end
theorem Zbj (I:Inv c st μ s.heap) {x lo hi:V} {vl vu:Value} (rx:RepV (Tr st.σ μ) μ s.heap u x) (rl:RepV (Tr st.σ μ) μ s.heap vl lo) (ru:RepV (Tr st.σ μ) μ s.heap vu hi)
  {value:Expr} {l' u':Option Expr} {p:Pos} {sa:Addr} (hsl:s.heap.IsSliceOf sa vl vu .none) :
  Sim c (subscriptTail value (.Slice l' u' none p) u (.ref sa)) (R.lift (Z0E st.σ x lo hi) st) rV st.σ μ s :=
 Sim.lift fun z h=>bnd h fun pl hl h=>bnd h fun pu hu h=>El.x0_2 (Z9s rl hl) fun il ql=>El.x0_2 (Z9s ru hu) fun iu qu=>Z0l h (fun y ey h=>by
  refine El.x1_2 ql fun ql el el'=>El.x1_2 qu fun qu eu eu'=>?_
  rw [← Option.some.inj h]
  exact Zbi I (el ▸ eu ▸ hsl) el' eu' (Z2b ey ▸ rx)) fun h=>Z0l h (fun xs ex h=>El.x2_4 (RepV.lst_inv (Z1D ex ▸ rx)) fun a vs q hL hz r=>by
  rw [q,← Option.some.inj h]; exact Z5q I hsl il iu hL hz r) fun h=>bnd h fun n hn h=>bnd h fun xs ex h=>El.x2_4 (I.ref_inv (Z1I hn ▸ rx) (Z1o ex)) fun a vs q hL hz r=>by
  rw [q,← Option.some.inj h]; exact Z5q I hsl il iu hL.isList hz r
end
end Mine
namespace Mine
open PySem PySem.Calls PyProof.Rows PySem.W
open AutoSeq1 (wpAny_loadPart')
section
variable {prog:Program} {w:World} {A:Around} {s:Shared}
theorem Zan {E:Value→Shared→Prop} {Q:List Value→Shared→Prop} {l:Addr} {items:Array Value} {o:Obj} {n:Nat} (ho:s.heap.get? l = some o) (hc:o.cls = .type "list") (hd:o.data = .seq items n) (hsz:items.size ≤ sizeLine)
  (hQ:∀ h',Ext s.heap h'→Q items.toList { s with heap:=h' }):wpAny (model prog w) A (collect (.ref l)) Q E s :=
 wpAny_mono (Z05 (E:=fun _ _=>False) (wpAny_collect_seq l (.inl rfl) ho hc hd (fun h' hk hs=>hQ h' ⟨hs,hk⟩) hsz)) (fun _ _ h=>h) fun _ _ h=>h.elim
end
theorem Zbk (l:Addr) (o:Obj) (items:Array Value) (n:Nat) (hc:o.cls = .type "list") (hd:o.data = .seq items n) (hsz:items.size ≤ sizeLine) :
  Meets (Builtin.«tuple.__new__» ⟨[.type "tuple",.ref l],[]⟩)
   (fun _ R s=>s.heap.get? l = some o∧∀ h':Heap,Ext s.heap h'→R (.ok (.ret (.ref h'.objs.size))) { s with heap:=h'.push { cls:=.type "tuple",data:=.seq items } }) :=
 .of_wp fun prog w A R s h=>by
  obtain ⟨hp,g,d,tk,os⟩:=s; obtain ⟨ht,h⟩:=h
  have hsub:=sub_tuple_self
  have hinit:=init_tuple_lookup
  have hmh:=madeHere_tuple
  have hT:Shared.TypeIs ⟨hp,g,d,tk,os⟩ (.ref l) "list":=⟨o,ht,hc⟩
  wp_walk using wpAny_loadPart' ht,wpAny_typeOf hT,Zan (l:=l) ht hc hd hsz
  intro h' X
  show wpAny _ _ (Builtin.Tuple.tupleExact items.toList.toArray >>= fun v=>ret v) _ _ _
  unfold Builtin.Tuple.tupleExact
  refine wpAny_bind (wpAny_newObj_type ?_ (by show items.toList.toArray.size ≤ sizeLine; simpa using hsz))
  refine wpAny_pure ⟨_,rfl,?_⟩
  have e:items.toList.toArray = items:=by simp
  rw [e]
  exact h h' X
section
variable {prog:Program} {w:World} {A:Around} {E:Value→Shared→Prop} {s:Shared}
theorem Z67 {l:Addr} {o:Obj} {items:Array Value} {n:Nat} {Q:Value→Shared→Prop} (ho:s.heap.get? l = some o) (hc:o.cls = .type "list") (hd:o.data = .seq items n) (hsz:items.size ≤ sizeLine)
  (h:∀ h':Heap,Ext s.heap h'→Q (.ref h'.objs.size) { s with heap:=h'.push { cls:=.type "tuple",data:=.seq items } }) :
  wpAny (model prog w) A (call (.type "tuple") [.ref l]) Q E s :=
 callType_new PySem.F.called_tuple (by decide) (PySem.F.typeCall_tuple_1 _) (PySem.F.newCall_tuple_1 _) (fun obj=>PySem.F.args_object_init_2 obj _) PySem.F.entry_tuple_new
  (Zbk l o items n hc hd hsz) ⟨ho,fun h' hk=>⟨⟨_,Heap.get?_push_size _ rfl,rfl⟩,h h' hk⟩⟩
theorem Zbl:∀ {vs:List Value} {ns:List Int},vs.length = ns.length→(∀ (j:Nat) (v:Value),vs[j]? = some v→∃ t,v = .int (ns.getD j 0) t)→IntsAre vs ns
 | [],[],_,_=>.nil
 | [],_ :: _,e,_=>by cases e
 | _ :: _,[],e,_=>by cases e
 | v :: vs,n :: ns,e,h=>by
  refine El.x1_1 (h 0 v rfl) fun t q0z=>?_
  obtain rfl:=q0z
  exact .cons n t (Zbl (Nat.succ.inj e) fun j v hv=>h (j + 1) v hv)
theorem Z8l {vs:List Value} {ns:List Int} (r:IntsAre vs ns):∀ (i:Nat) (v:Value),vs[i]? = some v→∃ t,v = .int (ns.getD i 0) t :=
 IntsAre.rec (motive:=fun vs ns _=>∀ (i:Nat) (v:Value),vs[i]? = some v→∃ t,v = .int (ns.getD i 0) t) (fun _ _ h=>nomatch h)
  (fun n t _ _ _ ih i v h=>match i,h with
   | 0,h=>⟨t,(Option.some.inj h).symm⟩
   | i + 1,h=>ih i v h) r
theorem Z9t {vs:List Value} {ns:List Int} (r:IntsAre vs ns):vs.length = ns.length :=
 IntsAre.rec (motive:=fun vs ns _=>vs.length = ns.length) rfl (fun _ _ _ _ _ ih=>congrArg (· + 1) ih) r
theorem Z9u:∀ (l:List Int) (i m:Int),m ∈ i :: l→(∀ a ∈ i :: l,a ≤ m)→m = l.foldl max i
 | [],i,m,h,_=>by simpa using h
 | j :: l,i,m,h,hm=>by
  refine Z9u l (max i j) m ?_ fun a ha=>?_
  ·rcases List.mem_cons.mp h with rfl | h
   ·have:=hm j (by simp); exact List.mem_cons.mpr (.inl (by lia))
   ·rcases List.mem_cons.mp h with rfl | h
    ·have:=hm i (by simp); exact List.mem_cons.mpr (.inl (by lia))
    ·exact List.mem_cons_of_mem _ h
  ·rcases List.mem_cons.mp ha with rfl | ha
   ·have h1:=hm i (by simp); have h2:=hm j (by simp); lia
   ·exact hm a (by simp [ha])
theorem Z9v:∀ (l:List Int) (i m:Int),m ∈ i :: l→(∀ a ∈ i :: l,m ≤ a)→m = l.foldl min i
 | [],i,m,h,_=>by simpa using h
 | j :: l,i,m,h,hm=>by
  refine Z9v l (min i j) m ?_ fun a ha=>?_
  ·rcases List.mem_cons.mp h with rfl | h
   ·have:=hm j (by simp); exact List.mem_cons.mpr (.inl (by lia))
   ·rcases List.mem_cons.mp h with rfl | h
    ·have:=hm i (by simp); exact List.mem_cons.mpr (.inl (by lia))
    ·exact List.mem_cons_of_mem _ h
  ·rcases List.mem_cons.mp ha with rfl | ha
   ·have h1:=hm i (by simp); have h2:=hm j (by simp); lia
   ·exact hm a (by simp [ha])
theorem Zbm {l:List Int} {j:Nat} (h:j < l.length):l.getD j 0 ∈ l:=by rw [List.getD_eq_getElem?_getD,List.getElem?_eq_getElem h]; exact List.getElem_mem h
theorem Zbn {l:List Int} {a:Int} (h:a ∈ l):∃ j,j < l.length∧a = l.getD j 0:=by
 obtain ⟨j,hj,rfl⟩:=List.mem_iff_getElem.mp h
 exact ⟨j,hj,by rw [List.getD_eq_getElem?_getD,List.getElem?_eq_getElem hj]; rfl⟩
theorem Zdn {l:Addr} {vs:Array Value} {i:Int} {ns:List Int} {Q:Value→Shared→Prop} (hh:A.handled = none) (hl:s.heap.IsList l vs) (hi:IntsAre vs.toList (i :: ns))
  (h:∀ h' tk t,(∀ b o,s.heap.get? b = some o→h'.get? b = some o)→Q (.int (ns.foldl max i) t) { s with heap:=h',toks:=tk }):wpAny (model prog w) A (call (.builtin "max") [.ref l]) Q E s:=by
 have hn:vs.size = (i :: ns).length:=by rw [← Z9t hi,Array.length_toList]
 refine El.x1_2 (id hl) fun ol hol _=>?_
 have hll:l < s.heap.objs.size:=Heap.lt_size hol
 refine call_max_walk (wpAny_pyIter_list hl ?_)
 refine ⟨_,_,_,_,_,_,_,rfl,Walks.list (A:=A.in1) hh s.heap.objs.size l (Nat.ne_of_lt hll) vs,⟨⟨_,Heap.get?_push_size _ rfl,rfl,rfl⟩,hl.push _⟩,fun b hb=>?_,by rw [hn]; exact Nat.succ_pos _,CmpOf.ints_gt (fun j=>(i :: ns).getD j 0) fun j v hv=>Z8l hi j v (by rw [Array.getElem?_toList]; exact hv),fun v h' tk hP hk=>?_⟩
 ·show b < (s.heap.push _).objs.size
  rw [Heap.size_push]
  rcases List.mem_cons.mp hb with rfl | hb
  ·exact Nat.lt_succ_self _
  ·rw [List.mem_singleton.mp hb]; exact Nat.lt_succ_of_lt hll
 ·obtain ⟨t,rfl⟩:=Z8l hi _ v (by rw [Array.getElem?_toList]; exact hP)
  refine El.x0_2 (argBest_gt (fun j=>(i :: ns).getD j 0) (vs.size - 1)) fun h1 h2=>?_
  have hlt:argBest (fun a b=>decide ((i :: ns).getD a 0 > (i :: ns).getD b 0)) (vs.size - 1) < (i :: ns).length:=by
   have:0 < (i :: ns).length:=Nat.succ_pos _
   omega
  rw [Z9u ns i _ (Zbm hlt) fun a ha=>by
   refine El.x1_2 (Zbn ha) fun j hj q2z=>?_
   obtain rfl:=q2z
   exact h2 j (by omega)]
  refine h h' tk t fun b o e=>hk b o (fun q=>?_) (Heap.get?_push_of_some _ e)
  have:=Heap.lt_size e
  rw [List.mem_singleton.mp q] at this
  exact Nat.lt_irrefl _ this
theorem Z3J {d:Addr} {kvs:List (Int × Value)} {Q:Value→Shared→Prop} (hh:A.handled = none) (lo:(d == sysModules) = false) (hd:s.heap.DictOf (intKind prog w) d kvs) (h64:kvs.length < 64)
  (h:∀ (h':Heap) (tk:Nat) (a:Addr) (out:Array Value) (e:Nat) (ns':List Int),(∀ b o,s.heap.get? b = some o→h'.get? b = some o)→s.heap.objs.size ≤ a→h'.get? a = some (seqObj "list" out e)→IntsAre out.toList ns'→ns'.Perm (kvs.map (·.1))→ns'.Pairwise (· ≤ ·) →
   Q (.ref a) { s with heap:=h',toks:=tk }):wpAny (model prog w) A (call (.builtin "sorted") [.ref d]) Q E s:=by
 refine El.x1_1 hd.dictAt fun ep hat=>?_
 have hz:kvs.length ≤ sizeLine:=Nat.le_trans (Nat.le_of_lt h64) (by decide)
 refine call_function_entry kind_sorted plain_sorted entry_sorted (args_sorted1 _) ?_
 unfold Builtin.«sorted»
 refine wpAny_bind (m:=checkCount "sorted" 1 1 _) (wpAny_pure ?_)
 refine wpAny_bind (wpAny_mono (Z05 (E:=fun _ _=>False) (kdu_collect (A:=A.in1) (kdl_dict (knd:=intKind prog w) (kvs:=kvs) (ep:=ep) lo) hh hat hz
  (R:=fun l s'=>s.heap.objs.size ≤ s'.heap.objs.size→∃ (h':Heap) (tk:Nat) (acc:Array Value),l = acc.toList∧s' = { s with heap:=h',toks:=tk }∧(∀ b o,s.heap.get? b = some o→h'.get? b = some o)∧s.heap.objs.size ≤ h'.objs.size∧ItemsOf (fun i v=>∃ k x,kvs[i]? = some (k,x)∧(intKind prog w).is k v = true) acc kvs.length)
  fun h' tk acc hk hacc hs=>⟨h',tk,acc,rfl,rfl,hk,hs,hacc⟩)) (fun l s' hl=>?_) fun _ _ e=>e.elim)
 refine El.x3_5 hl fun h' tk acc q3z q4z hk hs hacc=>?_
 try clear s'; try clear l; try clear hat; try clear ep
 obtain rfl:=q3z
 try clear q3z
 obtain rfl:=q4z
 have hl:acc.toList.length = kvs.length:=by rw [Array.length_toList]; exact hacc.1
 refine wpAny_bind (wpAny_newList ?_ (by rw [hl]; exact hz))
 have ho:(h'.push { cls:=.type "list",data:=.seq acc.toList.toArray }).get? h'.objs.size = some (seqObj "list" acc.toList.toArray 0):=Heap.get?_push_size _ rfl
 have hI:IntsAre acc.toList (kvs.map (·.1)):=Zbl (by rw [hl,List.length_map]) fun j v hv=>by
  obtain ⟨k,x,hx,hkv⟩:=hacc.2 j v (by rw [← Array.getElem?_toList]; exact hv)
  refine El.x1_1 (Value.isInt_shape hkv) fun t q5z=>?_
  try clear hkv; try clear x; try clear k; try clear hacc; try clear q4z; try clear acc; try clear h'; try clear hz
  obtain rfl:=q5z
  exact ⟨t,by simp [List.getD_eq_getElem?_getD,hx]⟩
 refine wpAny_bind (wpAny_holding (wpAny_call_entry slot_list_sort ⟨_,ho,rfl⟩ entry_list_sort (list_sort_tree ho hI (by rw [hl]; exact h64) fun out ns' a1 a2 a3=>⟨_,rfl,?_⟩) (args_list_sort _)))
 refine El.x1_1 (sortedHeap_at (out:=out) ho) fun e he=>?_
 exact wpAny_pure ⟨_,rfl,h _ tk _ out e ns' (fun b o q=>by
  have hlt:=Heap.lt_size (hk b o q)
  rw [sortedHeap_old (Nat.ne_of_lt hlt) (by rw [Heap.size_push]; exact Nat.lt_succ_of_lt hlt)]
  exact Heap.get?_push_of_some _ (hk b o q)) hs he a1 a2 a3⟩
end
theorem Z4e (i:Int):∀ l:List Int,(insI i l).Perm (i :: l)
 | []=>.refl _
 | j :: r=>by
  unfold insI
  split
  ·exact .refl _
  ·exact ((Z4e i r).cons j).trans (.swap i j r)
theorem Z4f (i:Int):∀ l:List Int,l.Pairwise (· ≤ ·)→(insI i l).Pairwise (· ≤ ·)
 | [],_=>by simp [insI]
 | j :: r,h=>by
  unfold insI
  rw [List.pairwise_cons] at h
  split
  ·rename_i hij
   rw [List.pairwise_cons,List.pairwise_cons]
   refine ⟨fun a ha=>?_,h⟩
   rcases List.mem_cons.mp ha with rfl | ha
   ·exact hij
   ·exact Int.le_trans hij (h.1 a ha)
  ·rename_i hij
   rw [List.pairwise_cons]
   refine ⟨fun a ha=>?_,Z4f i r h.2⟩
   rcases List.mem_cons.mp ((Z4e i r).mem_iff.mp ha) with rfl | ha
   ·lia
   ·exact h.1 a ha
theorem Z5r:∀ l:List Int,(Z7b l).Perm l
 | []=>.refl _
 | i :: l=>(Z4e i (Z7b l)).trans ((Z5r l).cons i)
theorem Z3u:∀ l:List Int,(Z7b l).Pairwise (· ≤ ·)
 | []=>.nil
 | i :: l=>Z4f i _ (Z3u l)
theorem Zdo {l ns:List Int} (hp:ns.Perm l) (hs:ns.Pairwise (· ≤ ·)):ns = Z7b l :=
 List.Perm.eq_of_pairwise (fun a b _ _ h1 h2=>Int.le_antisymm h1 h2) hs (Z3u l) (hp.trans (Z5r l).symm)
theorem Z9w {T:Addr→Prop} {μ:List Addr} {h:Heap}:∀ {vs:List Value} {ns:List Int},IntsAre vs ns→RepVs T μ h vs (ns.map .int)
 | _,_,.nil=>.nil
 | _,_,.cons n t r=>.cons (.int n t) (Z9w r)
end Mine
namespace Mine
open PySem PySem.Calls PyProof.Rows
section
variable {c:Cx} {st:St} {μ:List Addr} {s:Shared} {u v:Value}
theorem Z8m (I:Inv c st μ s.heap) {a b:Addr} {vs ws:Array Value} {xs ys:List V} (hl:s.heap.IsList a vs) (r:RepVs (Tr st.σ μ) μ s.heap vs.toList xs) (hl':s.heap.IsList b ws)
  (r':RepVs (Tr st.σ μ) μ s.heap ws.toList ys) (hz:xs.length + ys.length ≤ sizeLine):Sim c (binaryOp .Add (.ref a) (.ref b)) (.ok (.lst (xs++ys)) st) rV st.σ μ s:=by
 obtain ⟨⟨cls,dd,data,sl⟩,ho,hc,n,hd⟩:=id hl
 obtain ⟨⟨cls2,dd2,data2,sl2⟩,ho2,hc2,n2,hd2⟩:=id hl'
 simp only at hc hd hc2 hd2
 try clear data2; try clear data
 subst hc hd hc2 hd2
 have e1:=r.length
 have e2:=r'.length
 have hz':vs.size + ws.size ≤ sizeLine:=by simp at e1 e2; lia
 refine Sim.leaf I (concat_meets ⟨_,ho,rfl⟩ ⟨_,ho2,rfl⟩ noFill_list_add seq_list_add PySem.F.slot_list_add PySem.F.entry_list_add (PySem.F.args_list_add_2 _ _) (list_addW a b vs ws n n2 dd dd2 sl sl2 hz') ⟨ho,ho2,?_⟩)
 refine ⟨.push _,.refl,?_⟩
 have e3:vs++ws = (vs.toList++ws.toList).toArray:=by simp
 rw [e3]
 exact Z1r I (r.append r') (by simpa using hz')
theorem RepVs.times {T:Addr→Prop} {h:Heap} {vs:List Value} {xs:List V} (r:RepVs T μ h vs xs):∀ k:Nat,RepVs T μ h (List.replicate k vs).flatten (List.replicate k xs).flatten
 | 0=>.nil
 | k + 1=>by rw [List.replicate_succ,List.replicate_succ,List.flatten_cons,List.flatten_cons]; exact r.append (r.times k)
theorem Z8n (I:Inv c st μ s.heap) {a:Addr} {vs:Array Value} {xs:List V} {k:Int} {t:Tok} (hl:s.heap.IsList a vs) (r:RepVs (Tr st.σ μ) μ s.heap vs.toList xs) (h0:0 ≤ k) (h1:k < 64) (hz:xs.length * k.toNat ≤ sizeLine) :
  Sim c (binaryOp .Mult (.ref a) (.int k t)) (.ok (.lst (List.replicate k.toNat xs).flatten) st) rV st.σ μ s:=by
 obtain ⟨⟨cls,dd,data,sl⟩,ho,hc,n,hd⟩:=id hl
 simp only at hc hd
 try clear data
 subst hc hd
 have e1:=r.length
 have hz':vs.size * k.toNat ≤ 2 ^ 24:=by rw [Array.length_toList] at e1; rw [e1]; exact hz
 refine Sim.leaf I (wpAny_binaryOp_repeat_ref (T:="list") (U:="int") (by decide) ⟨_,ho,rfl⟩ (fun s'=>typeIs_int s' k t) noFill_list_mul PySem.F.fills_int_mul PySem.F.slot_int_rmul repeat_list PySem.F.slot_int_index.lookup
  (call_meets PySem.F.slot_int_rmul (typeIs_int s k t) PySem.F.entry_int_rmul (PySem.F.args_int_rmul_2 _ _) (lm_int_rmul_list_any k t a vs n dd sl)
   ⟨ho,rfl,⟨_,ho,rfl⟩,call_meets PySem.F.slot_list_mul ⟨_,ho,rfl⟩ PySem.F.entry_list_mul (PySem.F.args_list_mul_2 _ _)
    (lm_list_mul_any a vs n dd sl k t (by simp [Builtin.List.listFitsIndex]; omega) (by omega) (by simp [Builtin.List.listTooLong,sizeLine]; omega)) ⟨ho,?_⟩⟩))
 refine ⟨.push _,.refl,?_⟩
 rw [listMul_foldl_if]
 refine Z1r I (r.times _) ?_
 rw [(r.times k.toNat).length,List.length_flatten,List.map_replicate,List.sum_replicate_nat,Nat.mul_comm]
 exact hz
theorem Z7l (a:Array Nat):∀ (n:Nat) (b:Array Nat),((List.replicate n a).foldl (·++·) b).toList = b.toList++(List.replicate n a.toList).flatten
 | 0,b=>by rw [List.replicate_zero,List.replicate_zero,List.foldl_nil,List.flatten_nil,List.append_nil]
 | n + 1,b=>by rw [List.replicate_succ,List.replicate_succ,List.foldl_cons,Z7l a n,Array.toList_append,List.flatten_cons,List.append_assoc]
theorem Zao (I:Inv c st μ s.heap) {x:Str} {t t':Tok} {k:Int} (h1:PyData.strOk x = true) (h2:x.length ≤ sizeLine) (hk:2 ≤ k) (hk2:k < 128) (hz:x.cps.toList.length * k.toNat ≤ sizeLine) :
  Sim c (binaryOp .Mult (.str x t) (.int k t')) (.ok (.str (List.replicate k.toNat x.cps.toList).flatten) st) rV st.σ μ s:=by
 have hl:x.cps.toList.length = x.length:=by simp [Str.length]
 have hsz:sizeLine ≤ 2 ^ 24:=by decide
 have hr:(decide (k < -(2 ^ 63:Int)) || decide (k ≥ 2 ^ 63)) = false:=by simp; lia
 have e2:¬ k < 1:=by lia
 by_cases h0:x.length = 0
 ·have he:(List.replicate k.toNat x.cps.toList).flatten = x.cps.toList:=by
   rw [List.eq_nil_of_length_eq_zero (hl.trans h0)]
   simp
  rw [he]
  refine Z1Z I (.str x t h1 h2) fun Q hq=>P.mul_str hr (fun _ e=>?_) (fun _ e=>?_) ?_
  ·simp [h0] at e
  ·simp [h0] at e
  ·rw [if_neg e2,if_pos (by simp [h0])]
   exact hq _
 ·have hc:(⟨(List.replicate k.toNat x.cps).foldl (·++·) #[]⟩:Str).cps.toList = (List.replicate k.toNat x.cps.toList).flatten:=Z7l x.cps k.toNat #[]
  have hlen:(⟨(List.replicate k.toNat x.cps).foldl (·++·) #[]⟩:Str).length ≤ sizeLine:=by
   have:(⟨(List.replicate k.toNat x.cps).foldl (·++·) #[]⟩:Str).length = (List.replicate k.toNat x.cps.toList).flatten.length:=by rw [← hc]; simp [Str.length]
   rw [this,List.length_flatten,List.map_replicate,List.sum_replicate_nat,Nat.mul_comm]
   exact hz
  refine Z2q (x:=⟨(List.replicate k.toNat x.cps).foldl (·++·) #[]⟩) I ?_ hlen hc fun Q hq=>P.mul_str hr (fun _ e=>?_) (fun _ e=>?_) ?_
  ·unfold PyData.strOk at h1 ⊢
   rw [Array.all_eq_true_iff_forall_mem] at h1 ⊢
   intro a ha
   rw [← Array.mem_toList_iff,show ((List.replicate k.toNat x.cps).foldl (·++·) #[]).toList = _ from hc,List.mem_flatten] at ha
   obtain ⟨l,hl,ha⟩:=ha
   rw [List.eq_of_mem_replicate hl] at ha
   exact h1 a (Array.mem_toList_iff.mp ha)
  ·have h3:x.length * k.toNat ≤ sizeLine:=hl ▸ hz
   have h4:(x.length:Int) * k = ((x.length * k.toNat:Nat):Int):=by rw [Int.natCast_mul,Int.toNat_of_nonneg (by lia)]
   exact Int.not_lt.mpr (Int.le_ediv_of_mul_le (by lia) (by rw [h4]; have:=Nat.le_trans h3 hsz; lia))
  ·exact decide_eq_false (Nat.not_lt.mpr (hl ▸ hz))
  ·rw [if_neg e2,if_neg (by simp; lia)]
   exact ⟨hlen,hq _ _⟩
noncomputable def tyN:Ty→String
 | .int=>"int"
 | .bool=>"bool"
 | .list=>"list"
 | .tuple=>"tuple"
 | .str=>"str"
theorem Zdp (I:Inv c st μ s.heap) {x:V} (rx:RepV (Tr st.σ μ) μ s.heap u x) (ty:Ty) :
  Sim c (call (.builtin "isinstance") [u,.type (tyN ty)]) (R.lift ((Zd5 st.σ ty x).map V.bool) st) rV st.σ μ s:=by
 have none_no:∀ T:String,(Value.type "NoneType" == Value.type T) = false→typeOf (.type T) = pure (.type "type")→isSubtype (.type "NoneType") (.type T) = pure false→u = .none →
   Sim c (call (.builtin "isinstance") [u,.type T]) (.ok (.bool false) st) rV st.σ μ s:=by
  rintro T h1 h2 h3 rfl
  exact Z06 I fun Q hq=>call_isinstance (isinstance_false_none h1 h2 h3) (hq _)
 try clear h3; try clear T; try clear none_no
 cases x
 ·cases ty
  ·obtain rfl:=rx.none_inv; exact Z06 I fun Q hq=>IsiPair.NoneType_int (hq _)
  ·obtain rfl:=rx.none_inv; exact Z06 I fun Q hq=>IsiPair.NoneType_bool (hq _)
  ·obtain rfl:=rx.none_inv; exact Z06 I fun Q hq=>IsiPair.NoneType_list (hq _)
  ·obtain rfl:=rx.none_inv; exact Z06 I fun Q hq=>IsiPair.NoneType_tuple (hq _)
  ·obtain rfl:=rx.none_inv; exact Z06 I fun Q hq=>IsiPair.NoneType_str (hq _)
 ·obtain rfl:=rx.bool_inv
  cases ty <;> try trivial
  ·exact Z06 I fun Q hq=>IsiPair.bool_int (hq _)
  ·exact Z06 I fun Q hq=>IsiPair.bool_bool (hq _)
 ·refine El.x1_1 rx.int_inv fun t q3z=>?_
  obtain rfl:=q3z
  cases ty <;> try trivial
  ·exact Z06 I fun Q hq=>IsiPair.int_int (hq _)
  ·exact Z06 I fun Q hq=>IsiPair.int_bool (hq _)
 ·refine El.x2_4 rx.str_inv fun x t q4z q5z h1 h2=>?_
  try clear x; try clear q3z; try clear t; try clear h2; try clear h1
  obtain rfl:=q4z
  try clear q4z
  obtain rfl:=q5z
  cases ty <;> try trivial
  ·exact Z06 I fun Q hq=>IsiPair.str_int (hq _)
  ·exact Z06 I fun Q hq=>IsiPair.str_bool (hq _)
  ·exact Z06 I fun Q hq=>IsiPair.str_str (hq _)
 ·refine El.x2_4 rx.tup_inv fun a vs q6z q7z hz r=>?_
  try clear q5z
  obtain rfl:=q6z
  refine El.x1_3 q7z fun o ho hc _=>?_
  cases ty <;> try trivial
  ·exact Z06 I fun Q hq=>IsiPair.tuple_int ho hc (hq _)
  ·exact Z06 I fun Q hq=>IsiPair.tuple_bool ho hc (hq _)
  ·exact Z06 I fun Q hq=>IsiPair.tuple_list ho hc (hq _)
  ·exact Z06 I fun Q hq=>IsiPair.tuple_tuple ho hc (hq _)
 ·refine El.x2_4 rx.lst_inv fun a vs q8z q9z hz r=>?_
  try clear q7z; try clear q6z
  obtain rfl:=q8z
  refine El.x1_3 q9z fun o ho hc _=>?_
  cases ty <;> try trivial
  ·exact Z06 I fun Q hq=>IsiPair.list_int ho hc (hq _)
  ·exact Z06 I fun Q hq=>IsiPair.list_bool ho hc (hq _)
  ·exact Z06 I fun Q hq=>IsiPair.list_list ho hc (hq _)
  ·exact Z06 I fun Q hq=>IsiPair.list_tuple ho hc (hq _)
 ·rename_i n
  cases ty <;> try trivial
  show Sim c _ (R.lift ((match st.σ[n]? with | some (.lst _)=>some true | _=>none:Option Bool).map V.bool) st) _ _ _ _
  split
  ·rename_i hn
   refine El.x2_4 (I.ref_inv rx hn) fun a vs q10z hl hz r=>?_
   try clear q9z; try clear q8z; try clear r; try clear hz; try clear vs; try clear a
   obtain rfl:=q10z
   refine El.x1_3 hl.isList fun o ho hc _=>?_
   exact Z06 I fun Q hq=>IsiPair.list_list ho hc (hq _)
  ·trivial
 ·trivial
noncomputable def biV:Bi→Value
 | .len=>.builtin "len"
 | .int=>.type "int"
 | .list=>.type "list"
 | .tuple=>.type "tuple"
 | .sorted=>.builtin "sorted"
 | .max=>.builtin "max"
theorem Zbo {T:Addr→Prop} {h:Heap} {x:Str} (hx:PyData.strOk x = true) {acc:Array Value} (hi:ItemsOf (SignAt x) acc x.cps.size):RepVs T μ h acc.toList (x.cps.toList.map fun c=>V.str [c]):=by
 refine RepVs.of_get (by rw [Array.length_toList,hi.1,List.length_map,Array.length_toList]) fun i v y hv hy=>?_
 rw [Array.getElem?_toList] at hv
 refine El.x2_2 (hi.2 i v hv) fun d u hd q11z=>?_
 try clear hv; try clear y; try clear v; try clear i
 obtain rfl:=q11z
 rw [List.getElem?_map,Array.getElem?_toList,hd] at hy
 try clear q11z
 cases hy
 refine .str ⟨#[d]⟩ u ?_ (by show (1:Nat) ≤ sizeLine; decide)
 unfold PyData.strOk at hx ⊢
 rw [Array.all_eq_true_iff_forall_mem] at hx ⊢
 intro b hb
 have:b = d:=by simpa using hb
 exact this ▸ hx d (Array.mem_of_getElem? hd)
theorem Z9x (I:Inv c st μ s.heap) {a:Addr} {vs:Array Value} {xs:List V} (hl:s.heap.IsList a vs) (hz:vs.size ≤ sizeLine) (r:RepVs (Tr st.σ μ) μ s.heap vs.toList xs):Sim c (call (.builtin "len") [.ref a]) (.ok (.int xs.length) st) rV st.σ μ s:=by
 refine Z0A I fun Q hq=>call_len_list hl (Z1a hz) ?_
 rw [← Array.length_toList,r.length]; exact hq _ _
theorem ZfI (I:Inv c st μ s.heap) {x:V} (rx:RepV (Tr st.σ μ) μ s.heap u x):Sim c (call (.builtin "len") [u]) (R.lift (Z1n st.σ .len x) st) rV st.σ μ s :=
 Sim.lift fun z h=>Z0l h (fun l el h=>El.x2_4 (RepV.str_inv (Z2b el ▸ rx)) fun y t q q2 h1 h2=>by
  rw [q,← Option.some.inj h,← q2,Array.length_toList]
  exact Z0A I fun Q hq=>P.len_str (by have:=Z1a h2; lia) (hq _ _)) fun h=>Z0l h (fun l el h=>El.x2_4 (RepV.tup_inv (Z9h el ▸ rx)) fun a vs q hl hz r=>by
  rw [q,← Option.some.inj h,← r.length,Array.length_toList]
  exact Z0A I fun Q hq=>PyProof.Rows.len_tuple hl (Z1a hz) (hq _ _)) fun h=>Z0l h (fun l el h=>El.x2_4 (RepV.lst_inv (Z1D el ▸ rx)) fun a vs q hl hz r=>by
  rw [q,← Option.some.inj h]; exact Z9x I hl hz r) fun h=>bnd h fun n hn h=>bnd h fun l el h=>El.x2_4 (I.ref_inv (Z1I hn ▸ rx) (Z1o el)) fun a vs q hl hz r=>by
  rw [q,← Option.some.inj h]; exact Z9x I hl.isList hz r
theorem Zdq (ok:CxOk c) (I:Inv c st μ s.heap) {x:V} (rx:RepV (Tr st.σ μ) μ s.heap u x):Sim c (call (biV .list) [u]) (R.lift (Z1n st.σ .list x) st) rV st.σ μ s :=
 Sim.lift fun z h=>Z0l h (fun l el h=>El.x4_7 (RepV.lstI (Z1D el ▸ rx)) fun a o vs n e9 ho hc hd hz hT r=>by
  rw [e9,← Option.some.inj h]
  exact Sim.leaf I (Z05 (call_list_seq a (.inl rfl) ho hc hd (fun h' c' hk hn hs=>⟨⟨hs,hk⟩,⟨rfl,rfl,rfl⟩,.lst hn rfl rfl hz (fun q=>Nat.lt_irrefl _ (I.lt _ q.mem)) (r.ext ⟨hs,hk⟩)⟩) hz))) fun h=>bnd h fun l el h=>El.x2_4 (RepV.str_inv (Z2b el ▸ rx)) fun y t q q2 h1 h2=>by
  rw [q,← Option.some.inj h,← q2]
  exact Sim.leaf I (Z05 (call_list_str ok.hh y t (fun h' tk acc c' hk hn hit hs=>⟨⟨hs,hk⟩,⟨rfl,rfl,rfl⟩,.lst hn rfl rfl (by rw [hit.1]; exact h2) (fun q=>Nat.lt_irrefl _ (I.lt _ q.mem)) (Zbo h1 hit)⟩) h2))
theorem Zbp (I:Inv c st μ s.heap) {x:V} (rx:RepV (Tr st.σ μ) μ s.heap u x):Sim c (call (biV .tuple) [u]) (R.lift (Z1n st.σ .tuple x) st) rV st.σ μ s :=
 Sim.lift fun z h=>bnd h fun l el h=>El.x4_7 (RepV.lstI (Z1D el ▸ rx)) fun a o vs n e9 ho hc hd hz hT r=>by
  rw [e9,← Option.some.inj h]
  exact Sim.leaf I (Z67 ho hc hd hz fun h' X=>⟨X.trans (.push _),⟨rfl,rfl,rfl⟩,.tup (Heap.get?_push_size _ rfl) rfl rfl hz (fun q=>Nat.lt_irrefl _ (Nat.lt_of_lt_of_le (I.lt _ q.mem) X.1)) (r.ext (X.trans (.push _)))⟩)
theorem Zap (ok:CxOk c) (I:Inv c st μ s.heap) {x:V} (rx:RepV (Tr st.σ μ) μ s.heap u x):Sim c (call (biV .sorted) [u]) (R.lift (Z1n st.σ .sorted x) st) rV st.σ μ s :=
 Sim.lift fun z h=>bnd h fun n hn h=>bnd h fun es ee h=>Z1p h fun h64 h=>El.x2_7 (Z4c ok I (Z1I hn ▸ rx) (Z1J ee)) fun d kvs q _ lo hD hk _ _=>by
  rw [q,← Option.some.inj h]
  have hl:kvs.length = es.length:=by have:=congrArg List.length hk; rwa [List.length_map,List.length_map] at this
  refine Sim.leaf I (Z05 (Z3J ok.hh lo hD (hl ▸ h64) fun h' tk a out e ns' hk' ha ho hI hp hs hz=>⟨⟨hz,hk'⟩,⟨rfl,rfl,rfl⟩,?_⟩))
  rw [← Zdo (hk ▸ hp) hs]
  have r:=Z9w (T:=Tr st.σ μ) (μ:=μ) (h:=h') hI
  refine .lst ho rfl rfl ?_ (fun q=>Nat.lt_irrefl _ (Nat.lt_of_lt_of_le (I.lt _ q.mem) ha)) r
  rw [← Array.length_toList,r.length,List.length_map,hp.length_eq,List.length_map,hl]; exact Nat.le_trans (Nat.le_of_lt h64) (by decide)
theorem ZfJ (ok:CxOk c) (I:Inv c st μ s.heap) {x:V} (rx:RepV (Tr st.σ μ) μ s.heap u x):Sim c (call (biV .max) [u]) (R.lift (Z1n st.σ .max x) st) rV st.σ μ s :=
 Sim.lift fun z h=>bnd h fun xs el h=>El.x2_4 (RepV.lst_inv (Z1D el ▸ rx)) fun a vs q hl hz r=>by
  rw [q]
  cases e:Z0t xs with
  | none=>rw [e] at h; cases h
  | some l=>
   rw [e] at h
   cases l with
   | nil=>cases h
   | cons i l=>rw [← Option.some.inj h]; exact Sim.leaf I (Z05 (Zdn ok.hh hl (Z21 r e) fun h' tk t hk hs=>⟨⟨hs,hk⟩,⟨rfl,rfl,rfl⟩,.int _ t⟩))
theorem Zh9 (ok:CxOk c) (I:Inv c st μ s.heap) {x:V} (rx:RepV (Tr st.σ μ) μ s.heap u x) (f:Bi):Sim c (call (biV f) [u]) (R.lift (Z1n st.σ f x) st) rV st.σ μ s:=by
 cases f
 ·exact ZfI I rx
 ·cases x <;> try trivial
  ·obtain rfl:=rx.bool_inv; exact Z0A I fun Q hq=>call_int_bool (hq _ _)
  ·obtain ⟨t,rfl⟩:=rx.int_inv; exact Z0A I fun Q hq=>call_int_int (hq _ _)
 ·exact Zdq ok I rx
 ·exact Zbp I rx
 ·exact Zap ok I rx
 ·exact ZfJ ok I rx
theorem Z9y:∀ (l:List Str) (i:Array Nat),(l.foldl (fun acc p=>acc++(#[]:Array Nat)++p.cps) i).toList = i.toList++(l.map (fun y=>y.cps.toList)).flatten
 | [],i=>by simp
 | y :: l,i=>by simp only [List.foldl_cons]; rw [Z9y l]; simp
theorem Zdr (ys:List Str):(Txt.join ⟨#[]⟩ ys).cps.toList = (ys.map (fun y=>y.cps.toList)).flatten:=by
 show ((ys.drop 1).foldl (fun acc p=>acc++(#[]:Array Nat)++p.cps) (ys.headD Str.empty).cps).toList = _
 rw [Z9y]
 cases ys with
 | nil=>rfl
 | cons y r=>simp
noncomputable def meN:Me→String
 | .join=>"str.join"
 | .append=>"list.append"
theorem Z1F {σ:List O} {n:Nat} {o o':O} {b:Addr} (e:σ[n]? = some o) (h1:o.live = true) (h2:o'.live = true):Tr (σ.set n o') μ b↔Tr σ μ b:=by
 have hlt:n < σ.length:=(List.getElem?_eq_some_iff.mp e).1
 constructor
 ·intro q21z
  refine El.x2_3 q21z fun k q e1 e2 e3=>?_
  by_cases hk:n = k
  ·try clear q21z
   subst hk; exact ⟨n,o,e,h1,e3⟩
  ·rw [List.getElem?_set_ne hk] at e1; exact ⟨k,q,e1,e2,e3⟩
 ·intro q22z
  refine El.x2_3 q22z fun k q e1 e2 e3=>?_
  by_cases hk:n = k
  ·try clear q22z
   subst hk; exact ⟨n,o',by simp [hlt],h2,e3⟩
  ·exact ⟨k,q,by rw [List.getElem?_set_ne hk]; exact e1,e2,e3⟩
noncomputable def UpdAt (a:Addr) (h h':Heap):Prop:=h.objs.size ≤ h'.objs.size∧∀ b o,b ≠ a→h.get? b = some o→h'.get? b = some o
theorem UpdAt.of {a:Addr} {h h':Heap} (hs:Heap.SameBut a h h'):UpdAt a h h':=⟨Nat.le_of_eq hs.1.symm,fun b o hb e=>(hs.2 b hb).trans e⟩
theorem Inv.upd {h h':Heap} (I:Inv c st μ h) {n:Nat} {o o':O} {a:Addr} (e:st.σ[n]? = some o) (ha:μ[n]? = some a) (h1:o.live = true) (h2:o'.live = true) (hs:UpdAt a h h')
  (hr:RepO (Tr st.σ μ) μ h' a o') (hnp:o ≠ .priv) (hk:Hk c.w o'):Inv c ⟨st.ρ,st.σ.set n o'⟩ μ h'∧Stp c st.σ μ h (st.σ.set n o') μ h':=by
 have tr:∀ b,Tr (st.σ.set n o') μ b↔Tr st.σ μ b:=fun b=>Z1F e h1 h2
 have trE:Tr (st.σ.set n o') μ = Tr st.σ μ:=funext fun b=>propext (tr b)
 have ta:Tr st.σ μ a:=⟨n,o,e,h1,ha⟩
 have S:Stp c st.σ μ h (st.σ.set n o') μ h':=⟨hs.1,fun b ob q _ hT=>hs.2 b ob (fun (k:b = a)=>hT (k ▸ ta)) q,fun _ _ q=>q,fun b q=>.inl ((tr b).mp q),fun _ q=>.inl q,Z45 e hnp,fun k b ob e1 e2 e3=>hs.2 b ob (fun x=>by
  have:n = k:=(List.getElem?_inj (List.getElem?_eq_some_iff.mp ha).1 I.nd).mp (ha.trans (x ▸ e2.symm))
  try clear ta; try clear tr
  subst this; rw [e] at e1; exact hnp (Option.some.inj e1)) e3⟩
 have mv:∀ {v:Value} {x:V},RepV (Tr st.σ μ) μ h v x→RepV (Tr st.σ μ) μ h' v x:=fun r=>by
  have:=r.step (st':=⟨st.ρ,st.σ.set n o'⟩) I S
  dsimp only at this
  rwa [trE] at this
 have mvs:∀ {v:List Value} {x:List V},RepVs (Tr st.σ μ) μ h v x→RepVs (Tr st.σ μ) μ h' v x:=fun r=>by
  have:=r.step (st':=⟨st.ρ,st.σ.set n o'⟩) I S
  dsimp only at this
  rwa [trE] at this
 have own:∀ b,Own c b→b ≠ a:=fun b q k=>I.sep b q (k ▸ List.mem_of_getElem? ha)
 refine ⟨⟨fun i x q=>?_,fun i sl q=>?_,fun k ob q=>?_,by simpa using I.len,I.nd,fun b q=>Nat.lt_of_lt_of_le (I.lt b q) hs.1,fun b ob q=>?_,I.baseS,I.baseM,I.sep,Z9f I.kd hk⟩,S⟩
 ·refine El.x2_3 (I.vars i x q) fun sl v g1 g2 g3=>?_
  dsimp only
  rw [trE]
  exact ⟨sl,v,g1,g2.keeps fun ob k=>hs.2 _ _ (own _ ⟨i,sl,g1,rfl⟩) k,mv g3⟩
 ·exact (I.slots i sl q).keeps fun ob k=>hs.2 _ _ (own _ ⟨i,sl,q,rfl⟩) k
 ·dsimp only at q ⊢
  rw [trE]
  have hlt:n < st.σ.length:=(List.getElem?_eq_some_iff.mp e).1
  by_cases hk:n = k
  ·try clear g3; try clear g2; try clear g1; try clear v; try clear sl; try clear x; try clear i; try clear own; try clear mv; try clear S; try clear trE
   subst hk
   have:o' = ob:=by simpa [hlt] using q
   try clear hlt
   subst this
   exact ⟨a,ha,hr⟩
  ·rw [List.getElem?_set_ne hk] at q
   refine El.x1_2 (I.objs k ob q) fun b hb rb=>?_
   have hne:b ≠ a:=fun h=>hk ((List.getElem?_inj (List.getElem?_eq_some_iff.mp ha).1 I.nd).mp (ha.trans (h ▸ hb.symm)))
   refine ⟨b,hb,?_⟩
   exact rb.map (fun _ ho=>(hs.2 b _ hne ho)) fun _ _ r=>(mvs r)
 ·refine hs.2 b ob (fun k=>?_) (I.base b ob q)
  have:=I.baseM a (List.mem_of_getElem? ha)
  rw [k,this] at q; cases q
theorem Inv.updL {h h':Heap} (I:Inv c st μ h) {n:Nat} {xs xs':List V} {a:Addr} {vs:Array Value} {k:Nat} (hn:st.σ[n]? = some (.lst xs)) (ha:μ[n]? = some a) (hs:Heap.SameBut a h h')
  (ho:h'.get? a = some { cls:=.type "list",data:=.seq vs k }) (hz:vs.size ≤ sizeLine) (r:RepVs (Tr st.σ μ) μ h vs.toList xs'):Inv c ⟨st.ρ,st.σ.set n (.lst xs')⟩ μ h'∧Stp c st.σ μ h (st.σ.set n (.lst xs')) μ h':=by
 have tE:Tr (st.σ.set n (.lst xs)) μ = Tr st.σ μ:=funext fun b=>propext (Z1F hn rfl rfl)
 have S:Stp c st.σ μ h (st.σ.set n (.lst xs)) μ h' :=
  ⟨Nat.le_of_eq hs.1.symm,fun b ob q _ hT=>(hs.2 b (fun (k:b = a)=>hT (k ▸ ⟨n,_,hn,rfl,ha⟩))).trans q,fun _ _ q=>q,fun b q=>.inl (by rwa [tE] at q),fun _ q=>.inl q,Z45 hn (by simp),fun k b ob e1 e2 e3=>(hs.2 b fun x=>by
   have:n = k:=(List.getElem?_inj (List.getElem?_eq_some_iff.mp ha).1 I.nd).mp (ha.trans (x ▸ e2.symm))
   subst this; rw [hn] at e1; cases e1).trans e3⟩
 have r1:=r.step (st':=⟨st.ρ,st.σ.set n (.lst xs)⟩) I S
 dsimp only at r1
 rw [tE] at r1
 exact I.upd hn ha rfl rfl (.of hs) (.lst ho hz r1) (by simp) trivial
theorem ZeS (I:Inv c st μ s.heap) {x y:V} (rx:RepV (Tr st.σ μ) μ s.heap u x) (ry:RepV (Tr st.σ μ) μ s.heap v y) (m:Me) :
  Sim c (call (.builtin (meN m)) [u,v]) (Z1H m x y st) rV st.σ μ s:=by
 cases m
 ·cases x <;> try trivial
  rename_i l0
  cases l0 <;> try trivial
  cases y <;> try trivial
  rename_i ys0
  obtain ⟨a,t,rfl,e,h1,h2⟩:=rx.str_inv; obtain ⟨b,vs,rfl,hl,hz,r⟩:=ry.lst_inv
  show Sim c _ (match Z1h ys0 with | some l=>if l.flatten.length ≤ sizeLine then .ok (V.str l.flatten) st else .stuck | none=>.stuck:R V) _ _ _ _
  have ea:a = ⟨#[]⟩:=by obtain ⟨⟨l⟩⟩:=a; simp at e; subst e; rfl
  try clear h2; try clear h1; try clear e; try clear t
  subst ea
  split
  ·rename_i l hl'
   split
   ·rename_i hlen
    refine El.x1_3 (Z5n r hl') fun ys g1 g2 g3=>?_
    have hj:=Zdr ys
    refine Z2q (x:=Txt.join ⟨#[]⟩ ys) I ?_ ?_ (by rw [hj,g2]) fun Q hq=>join_list hl g1 ?_ hq
    ·unfold PyData.strOk
     rw [Array.all_eq_true_iff_forall_mem]
     intro b hb
     rw [← Array.mem_toList_iff,hj] at hb
     refine El.x1_2 (List.mem_flatten.mp hb) fun w hw hb'=>?_
     refine El.x1_2 (List.mem_map.mp hw) fun y hy q23z=>?_
     try clear hw; try clear w; try clear hb; try clear g1; try clear ea
     obtain rfl:=q23z
     have:=g3 y hy
     unfold PyData.strOk at this
     rw [Array.all_eq_true_iff_forall_mem] at this
     exact this b (by rw [← Array.mem_toList_iff]; exact hb')
    ·show (Txt.join ⟨#[]⟩ ys).cps.size ≤ sizeLine
     rw [← Array.length_toList,hj,g2]; exact hlen
    ·have e1:(ys.map (·.length)).sum = l.flatten.length:=by
      rw [← g2,List.length_flatten,List.map_map]
      rfl
     rw [e1]
     show _ + ys.length * 0 ≤ 16777216
     rw [Nat.mul_zero,Nat.add_zero]
     exact hlen
   ·trivial
  ·trivial
 ·cases x <;> try trivial
  rename_i n
  show Sim c _ (match st.σ[n]? with | some (.lst xs)=>if xs.length < sizeLine then .ok V.none ⟨st.ρ,st.σ.set n (.lst (xs++[y]))⟩ else .stuck | _=>.stuck:R V) _ _ _ _
  split
  ·rename_i xs hn
   split
   ·rename_i hlen
    refine El.x2_4 (I.ref_inv rx hn) fun a vs q24z hl hz r=>?_
    try clear q23z; try clear hy; try clear hb'; try clear hj; try clear g3; try clear g2; try clear ys; try clear vs; try clear b; try clear a
    obtain rfl:=q24z
    have ha:=rx.refA
    have e1:=r.length
    simp at e1
    refine wpAny_list_append_plain hl (fun h' hl' hs=>?_) hz
    refine El.x1_1 hl' fun k ho=>?_
    obtain ⟨I',S⟩:=I.updL (xs':=xs++[y]) hn ha hs ho (by simp; lia) (by simpa using r.append (.cons ry .nil))
    exact ⟨μ,.none,I',S,.refl⟩
   ·trivial
  ·trivial
end
section
variable {c:Cx} {st:St} {μ:List Addr} {s:Shared} {u v:Value}
theorem Zbq {t:Value→Value→Sem Value} {x y z:V} {k:Int→Int→Option V} (rx:RepV (Tr st.σ μ) μ s.heap u x) (ry:RepV (Tr st.σ μ) μ s.heap v y) (hz:onI x y k = some z) (h:∀ a b t1 t2,k a b = some z→Sim c (t (.int a t1) (.int b t2)) (.ok z st) rV st.σ μ s):Sim c (t u v) (.ok z st) rV st.σ μ s :=
 bnd hz fun i hi hz=>bnd hz fun j hj hz=>El.x1_1 (RepV.int_inv (Z0I hi ▸ rx)) fun t1 q1=>El.x1_1 (RepV.int_inv (Z0I hj ▸ ry)) fun t2 q2=>by
  rw [q1,q2]; exact h i j t1 t2 hz
theorem ZfK (I:Inv c st μ s.heap) {x y:V} (rx:RepV (Tr st.σ μ) μ s.heap u x) (ry:RepV (Tr st.σ μ) μ s.heap v y):Sim c (binaryOp (opM .add) u v) (R.lift (Z3p x y) st) rV st.σ μ s :=
 Sim.lift fun z h=>Z0l h (fun a ha h=>bnd h fun b hb h=>El.x1_1 (RepV.int_inv (Z0I ha ▸ rx)) fun t1 q1=>El.x1_1 (RepV.int_inv (Z0I hb ▸ ry)) fun t2 q2=>by
  rw [q1,q2,← Option.some.inj h]; exact Z0A I fun Q hq=>PyProof.Rows.add_int (hq _ _)) fun h=>Z0l h (fun a ha h=>bnd h fun b hb h=>Z1p h fun hz h=>El.x2_4 (RepV.str_inv (Z2b ha ▸ rx)) fun x' t q1 q2 h1 h2=>El.x2_4 (RepV.str_inv (Z2b hb ▸ ry)) fun y' t' q3 q4 h1' h2'=>by
  rw [q1,q3,← Option.some.inj h]
  subst q2 q4
  exact Z2q (x:=x'++y') I (Z7i h1 h1') (by rw [Zfz]; exact hz) (Zfy _ _) fun Q hq=>PyProof.Rows.add_str hq hz) fun h=>bnd h fun a ha h=>bnd h fun b hb h=>Z1p h fun hz h=>El.x2_4 (RepV.lst_inv (Z1D ha ▸ rx)) fun a vs q1 hl _ r=>El.x2_4 (RepV.lst_inv (Z1D hb ▸ ry)) fun b ws q2 hl' _ r'=>by
  rw [q1,q2,← Option.some.inj h]; exact Z8m I hl r hl' r' hz
theorem ZfL (I:Inv c st μ s.heap) {x y:V} (rx:RepV (Tr st.σ μ) μ s.heap u x) (ry:RepV (Tr st.σ μ) μ s.heap v y):Sim c (binaryOp (opM .mul) u v) (R.lift (Z2n x y) st) rV st.σ μ s :=
 Sim.lift fun z h=>bnd h fun b hb h=>El.x1_1 (RepV.int_inv (Z0I hb ▸ ry)) fun t2 q2=>by
  rw [q2]
  exact Z0l h (fun a ha h=>Z1p h fun hz h=>El.x1_1 (RepV.int_inv (Z0I ha ▸ rx)) fun t1 q1=>by
   rw [q1,← Option.some.inj h]
   exact Z0A I fun Q hq=>P.mul_int (hq _ _) ((Bool.or_eq_true_iff.mp hz).elim (fun h=>.of_left (Z4a h)) fun h=>.of_right (Z4a h))) fun h=>Z0l h (fun a ha h=>Z1p h fun hz h=>El.x2_4 (RepV.str_inv (Z2b ha ▸ rx)) fun x' t q1 q3 h1 h2=>by
   rw [q1,← Option.some.inj h]
   subst q3
   exact Zao I h1 h2 hz.1 hz.2.1 hz.2.2) fun h=>bnd h fun a ha h=>Z1p h fun hz h=>El.x2_4 (RepV.lst_inv (Z1D ha ▸ rx)) fun a vs q1 hl _ r=>by
   rw [q1,← Option.some.inj h]; exact Z8n I hl r hz.1 hz.2.1 hz.2.2
theorem Zbr {γ:Type} {G:Prop} {d:γ} {c:Prop} [Decidable c] {m:Option γ} (h:(if c then none else m) = some d) (k:¬ c→m = some d→G):G:=by
 by_cases hc:c
 ·rw [if_pos hc] at h; cases h
 ·rw [if_neg hc] at h; exact k hc h
theorem ZfM (ok:CxOk c) (I:Inv c st μ s.heap) {x y:V} (rx:RepV (Tr st.σ μ) μ s.heap u x) (ry:RepV (Tr st.σ μ) μ s.heap v y) (op:Op) :
  Sim c (binaryOp (opM op) u v) (R.lift (Z46 op x y) st) rV st.σ μ s:=by
 cases op
 ·exact ZfK I rx ry
 ·exact Sim.lift fun z h=>Zbq (t:=binaryOp (opM .sub)) rx ry h fun a b t1 t2 h=>Option.some.inj h ▸ Z0A I fun Q hq=>PyProof.Rows.sub_int (hq _ _)
 ·exact ZfL I rx ry
 ·exact Sim.lift fun z h=>Zbq (t:=binaryOp (opM .fdiv)) rx ry h fun a b t1 t2 h=>Zbr h fun hn h=>Option.some.inj h ▸ Z0A I fun Q hq=>PyProof.Rows.floordiv_int hn (hq _ _) (.inr (ok.pyl s I.base))
 ·exact Sim.lift fun z h=>Zbq (t:=binaryOp (opM .mod)) rx ry h fun a b t1 t2 h=>Zbr h fun hn h=>Option.some.inj h ▸ Z0A I fun Q hq=>PyProof.Rows.mod_int hn (hq _ _)
end
end Mine
namespace Mine
open PySem
structure Gm where
 sc:Scope
 vm:List (Str × Nat)
 used:List Nat
 gs:List (Str × Int)
noncomputable def Z2Y (x:Str):Bool:=!(x == ("__debug__":Str))
noncomputable def Gm.gl (g:Gm) (x:Str):Bool:=decide (g.sc.names.lookup x = some .globalImplicit) && Z2Y x
noncomputable def Gm.lv (g:Gm) (x:Str) (i:Nat):Bool:=decide (g.vm.lookup x = some i) && Z2Y x
noncomputable def Z1P (g:Gm) (n:Str) (k:NameKind):Bool:=k == .free && g.sc.kind == .function && g.sc.names.lookup n == some .cell
noncomputable def Z8o (g:Gm) (scope:Scope):Scope:={ scope with names:=scope.names.map fun (n,k)=>if Z1P g n k then (n,.cell) else (n,k) }
noncomputable def Gm.comp (g:Gm) (scope:Scope) (x:Str) (k:Nat):Gm :=
 ⟨Z8o g scope,(x,k) :: g.vm.filter fun p=>!(p.1 == x) && decide (scope.names.lookup p.1 = some .free) && decide (g.sc.names.lookup p.1 = some .cell),k :: g.used,g.gs⟩
noncomputable def Zbs (g:Gm) (scope:Scope) (x:Str) (k:Nat):Bool :=
 decide (scope.kind = .function) && decide (scope.names.lookup x = some .local) && (scope.names.all fun p=>!(p.2 == .cell)) && Z2Y x &&
 !(g.used.contains k) && !(x == (".0":Str)) &&
 (scope.names.all fun p=>p.2 == .local || p.2 == .free || p.2 == .globalImplicit) && (scope.names.all fun p=>!(p.2 == .free) || g.sc.names.lookup p.1 == some .cell) &&
 ((scope.names.filter fun p=>(p.2 == .local || p.2 == .cell) && p.1 != (".0":Str)).map (·.1) == [x]) && decide ((scope.names.map (·.1)).Nodup)
noncomputable def Zbt:Me→String
 | .join=>"join"
 | .append=>"append"
noncomputable def Zbu:Bi→String
 | .len=>"len"
 | .int=>"int"
 | .list=>"list"
 | .tuple=>"tuple"
 | .sorted=>"sorted"
 | .max=>"max"
noncomputable def Z5s (f:Str):Bool:=!(f == Z0k) && !(f == Z0F) && !(f == Z0z)
structure Info where
 kids:List Expr
 nm:Str:=default
 k:Nat:=0
 sc:Scope:=default
 kp:Pos:=default
noncomputable def info (p:Expr):Info:=Expr.casesOn (motive_1:=fun _=>Info) p (fun _ vs _=>⟨vs,default,0,default,default⟩) (fun _ _ _=>⟨[],default,0,default,default⟩) (fun l _ r _=>⟨[l,r],default,0,default,default⟩) (fun _ x _=>⟨[x],default,0,default,default⟩)
 (fun _ _ _ _=>⟨[],default,0,default,default⟩) (fun t x y _=>⟨[t,x,y],default,0,default,default⟩) (fun _ _ _=>⟨[],default,0,default,default⟩) (fun _ _ _=>⟨[],default,0,default,default⟩) (fun e gs sc _=>⟨e :: (gs.map fun c=>c.target :: c.iter :: c.ifs).flatten,default,0,sc,default⟩) (fun _ _ _ _=>⟨[],default,0,default,default⟩) (fun _ _ _ _ _=>⟨[],default,0,default,default⟩)
 (fun _ _ _ _=>⟨[],default,0,default,default⟩) (fun _ _=>⟨[],default,0,default,default⟩) (fun _ _=>⟨[],default,0,default,default⟩) (fun _ _=>⟨[],default,0,default,default⟩) (fun l _ rs _=>⟨l :: rs,default,0,default,default⟩) (fun f as ks _=>⟨f :: (as++ks.map (·.value)),default,0,default,(ks.map (·.pos)).headD default⟩) (fun _ _ _ _=>⟨[],default,0,default,default⟩)
 (fun _ _=>⟨[],default,0,default,default⟩) (fun _ k _=>⟨[],default,k,default,default⟩) (fun o _ _=>⟨[o],default,0,default,default⟩) (fun v s _=>⟨[v,s],default,0,default,default⟩) (fun _ _=>⟨[],default,0,default,default⟩) (fun x _=>⟨[],x,0,default,default⟩) (fun xs _=>⟨xs,default,0,default,default⟩) (fun xs k _=>⟨xs,default,k,default,default⟩) (fun l u _ _=>⟨[l.getD default,u.getD default],default,0,default,default⟩)
noncomputable def kids (p:Expr):List Expr:=(info p).kids
noncomputable def kid (p:Expr) (i:Nat):Expr:=(kids p)[i]?.getD default
noncomputable def nmOf (p:Expr):Str:=(info p).nm
noncomputable def kOf (p:Expr):Nat:=(info p).k
noncomputable def scOf (p:Expr):Scope:=(info p).sc
noncomputable def ZhO (p:Expr):Pos:=(info p).kp
noncomputable def flat (p:Expr):Bool:=decide (2 < (kids p).length)
noncomputable def Z7m (op:BoolOp) (p:Expr):Expr:=.BoolOp op (kids p).tail p.pos
noncomputable def bop (op:BoolOp) (f:Bool) (a b b':Expr) (q:Pos):Expr:=.BoolOp op (a :: (if f then kids b else [b'])) q
mutual
noncomputable def pE:Ex→Expr→Expr
 | .none,p=>.Constant .none (kOf p) p.pos
 | .bool b,p=>.Constant (.bool b) (kOf p) p.pos
 | .int i,p=>.Constant (.int i) (kOf p) p.pos
 | .str x,p=>.Constant (.str x) (kOf p) p.pos
 | .loc _,p=>.Name (nmOf p) p.pos
 | .fz _,p=>.Name (nmOf p) p.pos
 | .bin op a b,p=>.BinOp (pE a (kid p 0)) (opM op) (pE b (kid p 1)) p.pos
 | .cmp op a b,p=>.Compare (pE a (kid p 0)) [cmM op] [pE b (kid p 1)] p.pos
 | .band a b,p=>bop .And (flat p) (pE a (kid p 0)) (pE b (Z7m .And p)) (pE b (kid p 1)) p.pos
 | .bor a b,p=>bop .Or (flat p) (pE a (kid p 0)) (pE b (Z7m .Or p)) (pE b (kid p 1)) p.pos
 | .not a,p=>.UnaryOp .Not (pE a (kid p 0)) p.pos
 | .neg i,p=>.UnaryOp .USub (.Constant (.int i) (kOf (kid p 0)) (kid p 0).pos) p.pos
 | .ite c a b,p=>.IfExp (pE c (kid p 0)) (pE a (kid p 1)) (pE b (kid p 2)) p.pos
 | .tup es,p=>.Tuple (pEs es (kids p)) (kOf p) p.pos
 | .list es,p=>.List (pEs es (kids p)) p.pos
 | .listM es,p=>.List (pEs es (kids p)) p.pos
 | .sub a i,p=>.Subscript (pE a (kid p 0)) (pE i (kid p 1)) p.pos
 | .slice a lo hi,p=>.Subscript (pE a (kid p 0)) (.Slice (pO lo (kid (kid p 1) 0)) (pO hi (kid (kid p 1) 1)) none (kid p 1).pos) p.pos
 | .isin a t,p=>.Call (.Name (Str.ofString "isinstance") (kid p 0).pos) [pE a (kid p 1),.Name (Str.ofString (tyN t)) (kid p 2).pos] [] p.pos
 | .bi f a,p=>.Call (.Name (Str.ofString (Zbu f)) (kid p 0).pos) [pE a (kid p 1)] [] p.pos
 | .me m a b,p=>.Call (.Attribute (pE a (kid (kid p 0) 0)) (Str.ofString (Zbt m)) (kid p 0).pos) [pE b (kid p 1)] [] p.pos
 | .call f es,p=>.Call (.Name f (kid p 0).pos) (pEs es (kids p).tail) [] p.pos
 | .glob x _,p=>.Name x p.pos
 | .dictM,p=>.Dict [] [] p.pos
 | .dictK,p=>.Dict [] [] p.pos
 | .attr a k,p=>.Attribute (pE a (kid p 0)) (attrNames[k]?.getD default) p.pos
 | .newI,p=>.Call (.Name Z0k (kid p 0).pos) [] [] p.pos
 | .lenSet a,p=>.Call (.Name (Str.ofString "len") (kid p 0).pos) [.Call (.Name (Str.ofString "set") (kid (kid p 1) 0).pos) [pE a (kid (kid p 1) 1)] [] (kid p 1).pos] [] p.pos
 | .minD a,p=>.Call (.Name (Str.ofString "min") (kid p 0).pos) [pE a (kid p 1)] [⟨some (Str.ofString "default"),.Constant .none (kOf (kid p 2)) (kid p 2).pos,ZhO p⟩] p.pos
 | .min2 a b,p=>.Call (.Name (Str.ofString "min") (kid p 0).pos) [pE a (kid p 1),pE b (kid p 2)] [] p.pos
 | .pop a,p=>.Call (.Attribute (pE a (kid (kid p 0) 0)) (Str.ofString "pop") (kid p 0).pos) [] [] p.pos
 | .comp elt _ it ifs,p=>.ListComp (pE elt (kid p 0)) [⟨.Name (nmOf (kid p 1)) (kid p 1).pos,pI it (kid p 2),pEs ifs ((kids p).drop 3),0⟩] (scOf p) p.pos
noncomputable def pEs:Exs→List Expr→List Expr
 | .nil,_=>[]
 | .cons e es,ps=>pE e (ps.headD default) :: pEs es ps.tail
noncomputable def pO:Exo→Expr→Option Expr
 | .none,_=>none
 | .some e,p=>some (pE e p)
noncomputable def pI:It→Expr→Expr
 | .val e,p=>pE e p
 | .range1 a,p=>.Call (.Name (Str.ofString "range") (kid p 0).pos) [pE a (kid p 1)] [] p.pos
 | .enum a,p=>.Call (.Name (Str.ofString "enumerate") (kid p 0).pos) [pE a (kid p 1)] [] p.pos
 | .range2 a b,p=>.Call (.Name (Str.ofString "range") (kid p 0).pos) [pE a (kid p 1),pE b (kid p 2)] [] p.pos
end
noncomputable def Zha (e:Ex):Bool:=e.ctorIdx == 8
noncomputable def ZhP (e:Ex):Bool:=e.ctorIdx == 9
noncomputable def isC (e:Ex):Bool:=e.ctorIdx == 30
noncomputable def Zds (p:Expr):Bool:=!(p.ctorIdx == 16)
mutual
noncomputable def okE:Gm→Ex→Expr→Bool
 | _,.none,_=>true
 | _,.bool _,_=>true
 | _,.int _,_=>true
 | _,.str x,_=>PyData.strOk x && decide (x.length ≤ sizeLine)
 | g,.loc i,p=>g.lv (nmOf p) i
 | g,.fz i,p=>g.lv (nmOf p) i
 | g,.bin _ a b,p=>okE g a (kid p 0) && okE g b (kid p 1)
 | g,.cmp _ a b,p=>okE g a (kid p 0) && okE g b (kid p 1)
 | g,.band a b,p=>okE g a (kid p 0) && (if flat p then Zha b && okE g b (Z7m .And p) else okE g b (kid p 1))
 | g,.bor a b,p=>okE g a (kid p 0) && (if flat p then ZhP b && okE g b (Z7m .Or p) else okE g b (kid p 1))
 | g,.not a,p=>okE g a (kid p 0)
 | _,.neg _,_=>true
 | g,.ite c a b,p=>okE g c (kid p 0) && (okE g a (kid p 1) && okE g b (kid p 2))
 | g,.tup es,p=>okEs g es (kids p)
 | g,.list es,p=>okEs g es (kids p)
 | g,.listM es,p=>okEs g es (kids p)
 | g,.sub a i,p=>okE g a (kid p 0) && okE g i (kid p 1)
 | g,.slice a lo hi,p=>okE g a (kid p 0) && (okO g lo (kid (kid p 1) 0) && okO g hi (kid (kid p 1) 1))
 | g,.isin a t,p=>(g.gl (Str.ofString "isinstance") && g.gl (Str.ofString (tyN t))) && okE g a (kid p 1)
 | g,.bi f a,p=>g.gl (Str.ofString (Zbu f)) && okE g a (kid p 1)
 | g,.me _ a b,p=>((kid p 0).pos.endLine == p.pos.line && Zds (pE a (kid (kid p 0) 0))) && (okE g a (kid (kid p 0) 0) && okE g b (kid p 1))
 | g,.call f es,p=>(Z5s f && g.gl f) && okEs g es (kids p).tail
 | g,.glob x i,_=>g.gl x && decide (g.gs.lookup x = some i)
 | _,.dictM,_=>true
 | _,.dictK,_=>true
 | g,.attr a k,p=>(decide (k < attrNames.length) && Zds (pE a (kid p 0))) && okE g a (kid p 0)
 | g,.newI,_=>g.gl Z0k
 | g,.lenSet a,p=>(g.gl (Str.ofString "len") && g.gl (Str.ofString "set")) && okE g a (kid (kid p 1) 1)
 | g,.minD a,p=>g.gl (Str.ofString "min") && okE g a (kid p 1)
 | g,.min2 a b,p=>g.gl (Str.ofString "min") && (okE g a (kid p 1) && okE g b (kid p 2))
 | g,.pop a,p=>((kid p 0).pos.endLine == p.pos.line && Zds (pE a (kid (kid p 0) 0))) && okE g a (kid (kid p 0) 0)
 | g,.comp elt k it ifs,p=>(Zbs g (scOf p) (nmOf (kid p 1)) k && okI g it (kid p 2)) && (okE (g.comp (scOf p) (nmOf (kid p 1)) k) elt (kid p 0) && okEs (g.comp (scOf p) (nmOf (kid p 1)) k) ifs ((kids p).drop 3))
noncomputable def okEs:Gm→Exs→List Expr→Bool
 | _,.nil,_=>true
 | g,.cons e es,ps=>okE g e (ps.headD default) && okEs g es ps.tail
noncomputable def okO:Gm→Exo→Expr→Bool
 | _,.none,_=>true
 | g,.some e,p=>okE g e p
noncomputable def okI:Gm→It→Expr→Bool
 | g,.val e,p=>okE g e p
 | g,.range1 a,p=>g.gl (Str.ofString "range") && okE g a (kid p 1)
 | _,.enum _,_=>false
 | g,.range2 a b,p=>g.gl (Str.ofString "range") && (okE g a (kid p 1) && okE g b (kid p 2))
end
noncomputable def okZ (g:Gm) (it:It) (p:Expr):Bool:=match it with
 | .enum a=>g.gl (Str.ofString "enumerate") && okE g a (kid p 1)
 | _=>false
noncomputable def pT:List Nat→List Expr→List Expr
 | [],_=>[]
 | _ :: is,ps=>.Name (nmOf (ps.headD default)) (ps.headD default).pos :: pT is ps.tail
noncomputable def okT' (g:Gm):List Nat→List Expr→Bool
 | [],_=>true
 | i :: is,ps=>g.lv (nmOf (ps.headD default)) i && okT' g is ps.tail
structure SInfo where
 kids:List Expr
 blk:List Stmt
 els:List Stmt
noncomputable def ZfN (p:Stmt):SInfo:=Stmt.casesOn (motive_2:=fun _=>SInfo) p (fun _ _ _ _ _ _ _ _ _ _=>⟨[],[],[]⟩) (fun _ _ _ _ _ _ _ _ _ _=>⟨[],[],[]⟩) (fun _ _ _ _ _ _ _ _ _ _ _=>⟨[],[],[]⟩) (fun v _=>⟨[v.getD default],[],[]⟩) (fun _ _=>⟨[],[],[]⟩) (fun ts v _=>⟨v :: ts,[],[]⟩) (fun _ _ _ _ _ _ _=>⟨[],[],[]⟩) (fun _ _ _ _=>⟨[],[],[]⟩) (fun _ _ _ _ _=>⟨[],[],[]⟩) (fun t it b _ _=>⟨[t,it],b,[]⟩)
 (fun _ _ _ _ _=>⟨[],[],[]⟩) (fun t b _ _=>⟨[t],b,[]⟩) (fun t a b _=>⟨[t],a,b⟩) (fun _ _ _=>⟨[],[],[]⟩) (fun _ _ _=>⟨[],[],[]⟩) (fun _ _ _=>⟨[],[],[]⟩) (fun _ _ _=>⟨[],[],[]⟩) (fun _ _ _ _ _=>⟨[],[],[]⟩) (fun _ _ _ _ _=>⟨[],[],[]⟩) (fun _ _ _=>⟨[],[],[]⟩) (fun _ _=>⟨[],[],[]⟩) (fun _ _ _ _=>⟨[],[],[]⟩) (fun _ _=>⟨[],[],[]⟩) (fun _ _=>⟨[],[],[]⟩) (fun v _=>⟨[v],[],[]⟩) (fun _=>⟨[],[],[]⟩) (fun _=>⟨[],[],[]⟩) (fun _=>⟨[],[],[]⟩)
noncomputable def skid (p:Stmt) (i:Nat):Expr:=((ZfN p).kids)[i]?.getD default
noncomputable def blk (p:Stmt):List Stmt:=(ZfN p).blk
noncomputable def els (p:Stmt):List Stmt:=(ZfN p).els
mutual
noncomputable def pS:Sm→Stmt→Stmt
 | .asg _ e,p=>.Assign [.Name (nmOf (skid p 1)) (skid p 1).pos] (pE e (skid p 0)) p.pos
 | .asgT is e,p=>.Assign [.Tuple (pT is (kids (skid p 1))) (kOf (skid p 1)) (skid p 1).pos] (pE e (skid p 0)) p.pos
 | .expr e,p=>.Expr (pE e (skid p 0)) p.pos
 | .ret e,p=>.Return (some (pE e (skid p 0))) p.pos
 | .ifte c t f,p=>.If (pE c (skid p 0)) (pSs t (blk p)) (pSs f (els p)) p.pos
 | .for1 _ it b,p=>.For (.Name (nmOf (skid p 0)) (skid p 0).pos) (pI it (skid p 1)) (pSs b (blk p)) [] p.pos
 | .forT is it b,p=>.For (.Tuple (pT is (kids (skid p 0))) (kOf (skid p 0)) (skid p 0).pos) (pI it (skid p 1)) (pSs b (blk p)) [] p.pos
 | .while c b,p=>.While (pE c (skid p 0)) (pSs b (blk p)) [] p.pos
 | .brk,p=>.Break p.pos
 | .stk,p=>p
 | .asgI a i e,p=>.Assign [.Subscript (pE a (kid (skid p 1) 0)) (pE i (kid (skid p 1) 1)) (skid p 1).pos] (pE e (skid p 0)) p.pos
 | .asgA a k e,p=>.Assign [.Attribute (pE a (kid (skid p 1) 0)) (attrNames[k]?.getD default) (skid p 1).pos] (pE e (skid p 0)) p.pos
 | .forZ is x y b,p=>.For (.Tuple (pT is (kids (skid p 0))) (kOf (skid p 0)) (skid p 0).pos) (.Call (.Name (Str.ofString "zip") (kid (skid p 1) 0).pos) [pE x (kid (skid p 1) 1),pE y (kid (skid p 1) 2)] [] (skid p 1).pos) (pSs b (blk p)) [] p.pos
 | .forD _ e b,p=>.For (.Name (nmOf (skid p 0)) (skid p 0).pos) (pE e (skid p 1)) (pSs b (blk p)) [] p.pos
noncomputable def pSs:Sms→List Stmt→List Stmt
 | .nil,_=>[]
 | .cons s ss,ps=>pS s (ps.headD default) :: pSs ss ps.tail
end
mutual
noncomputable def okS (g:Gm):Sm→Stmt→Bool
 | .asg i e,p=>g.lv (nmOf (skid p 1)) i && okE g e (skid p 0)
 | .asgT is e,p=>okT' g is (kids (skid p 1)) && ((pE e (skid p 0)).ctorIdx == 16 || (pE e (skid p 0)).ctorIdx == 23 || (pE e (skid p 0)).ctorIdx == 21) && okE g e (skid p 0)
 | .expr e,p=>!isC e && okE g e (skid p 0)
 | .ret e,p=>okE g e (skid p 0)
 | .ifte c t f,p=>okE g c (skid p 0) && (okSs g t (blk p) && okSs g f (els p))
 | .for1 i it b,p=>g.lv (nmOf (skid p 0)) i && (okI g it (skid p 1) && okSs g b (blk p))
 | .forT is it b,p=>okT' g is (kids (skid p 0)) && (okZ g it (skid p 1) && okSs g b (blk p))
 | .while c b,p=>okE g c (skid p 0) && okSs g b (blk p)
 | .brk,_=>true
 | .stk,_=>true
 | .asgI a i e,p=>(!isC e && okE g e (skid p 0)) && (okE g a (kid (skid p 1) 0) && okE g i (kid (skid p 1) 1))
 | .asgA a k e,p=>(!isC e && decide (k < attrNames.length)) && (okE g e (skid p 0) && okE g a (kid (skid p 1) 0))
 | .forZ is x y b,p=>okT' g is (kids (skid p 0)) && ((g.gl (Str.ofString "zip") && (okE g x (kid (skid p 1) 1) && okE g y (kid (skid p 1) 2))) && okSs g b (blk p))
 | .forD i e b,p=>g.lv (nmOf (skid p 0)) i && (okE g e (skid p 1) && okSs g b (blk p))
noncomputable def okSs (g:Gm):Sms→List Stmt→Bool
 | .nil,_=>true
 | .cons s ss,ps=>okS g s (ps.headD default) && okSs g ss ps.tail
end
noncomputable def Z3v (n:Nat):Bool:=!(n == 22 || n == 7 || n == 26 || n == 9 || n == 10)
theorem Z2d (e:Ex):∀ p,Z3v (pE e p).ctorIdx = true :=
 Ex.casesOn (motive_1:=fun e=>∀ p,Z3v (pE e p).ctorIdx = true) e (fun _=>rfl) (fun _ _=>rfl) (fun _ _=>rfl) (fun _ _=>rfl) (fun _ _=>rfl) (fun _ _=>rfl) (fun _ _ _ _=>rfl) (fun _ _ _ _=>rfl) (fun _ _ _=>rfl) (fun _ _ _=>rfl) (fun _ _=>rfl) (fun _ _=>rfl) (fun _ _ _ _=>rfl) (fun _ _=>rfl) (fun _ _=>rfl) (fun _ _=>rfl) (fun _ _ _=>rfl) (fun _ _ _ _=>rfl) (fun _ _ _=>rfl) (fun _ _ _=>rfl) (fun _ _ _ _=>rfl) (fun _ _ _=>rfl) (fun _ _ _=>rfl) (fun _=>rfl) (fun _ _ _=>rfl) (fun _=>rfl) (fun _ _=>rfl) (fun _ _=>rfl) (fun _ _ _=>rfl) (fun _ _=>rfl) (fun _ _ _ _ _=>rfl) (fun _=>rfl)
theorem Zhb (e:Ex):∀ p,(isC e || !((pE e p).ctorIdx == 8)) = true :=
 Ex.casesOn (motive_1:=fun e=>∀ p,(isC e || !((pE e p).ctorIdx == 8)) = true) e (fun _=>rfl) (fun _ _=>rfl) (fun _ _=>rfl) (fun _ _=>rfl) (fun _ _=>rfl) (fun _ _=>rfl) (fun _ _ _ _=>rfl) (fun _ _ _ _=>rfl) (fun _ _ _=>rfl) (fun _ _ _=>rfl) (fun _ _=>rfl) (fun _ _=>rfl) (fun _ _ _ _=>rfl) (fun _ _=>rfl) (fun _ _=>rfl) (fun _ _=>rfl) (fun _ _ _=>rfl) (fun _ _ _ _=>rfl) (fun _ _ _=>rfl) (fun _ _ _=>rfl) (fun _ _ _ _=>rfl) (fun _ _ _=>rfl) (fun _ _ _=>rfl) (fun _=>rfl) (fun _ _ _=>rfl) (fun _=>rfl) (fun _ _=>rfl) (fun _ _=>rfl) (fun _ _ _=>rfl) (fun _ _=>rfl) (fun _ _ _ _ _=>rfl) (fun _=>rfl)
theorem and2 {a b:Bool} (h:(a && b) = true):a = true∧b = true:=Bool.and_eq_true_iff.mp h
end Mine
namespace Mine
open PySem PySem.Calls PyProof.Rows
structure Gd (base:Heap) (mg mb:Str→Option Value):Prop where
 g:base.Ns mainGlobals mg
 b:base.Ns builtinsNs mb
 blt:∀ x:Str,x ≠ "__name__"→mb x = bootBuiltins x
 free:∀ x ∈ (["isinstance","len","int","bool","list","tuple","str","range","enumerate","zip","set","sorted","min","max"]:List String),mg (Str.ofString x) = none
structure Nm (c:Cx) (g:Gm):Prop where
 sc:c.env.scope = g.sc
 kind:g.sc.kind = .function
 glob:c.env.globals = mainGlobals
 blt:c.env.builtins = builtinsNs
 var:∀ x i,g.vm.lookup x = some i→(g.sc.names.lookup x = some .local∧c.sl i = some (.d c.env.locals x)) ∨ (g.sc.names.lookup x = some .cell∧∃ a,c.env.cells.lookup x = some a∧c.sl i = some (.c a))
 apart:∀ i j s,c.sl i = some s→c.sl j = some s→i = j
 dom:∀ i s,c.sl i = some s→i ∈ g.used
 cells:∀ x,g.sc.names.lookup x = some .cell→∃ a,c.env.cells.lookup x = some a
noncomputable def Cx.bare (c:Cx):Cx:={ c with sl:=fun _=>none }
structure AOk (n:Nat) (A:Around):Prop where
 hh:A.handled = none
 depth:A.depth + n + 110 ≤ recursionLimit
 units:A.units + 4 * n + 200 ≤ cLine
 frames:∃ l,A.frames = some l
noncomputable def Does (n:Nat) (prog:Program) (w:World) (base:Heap) (f:Value) (args:List V) (σ:List O) (r:V) (st':St):Prop :=
 ∀ (c:Cx) μ (s:Shared) vs,c.prog = prog→c.w = w→c.base = base→AOk n c.A→Inv c.bare ⟨[],σ⟩ μ s.heap→RepVs (Tr σ μ) μ s.heap vs args →
  wpAny (model c.prog c.w) c.A (call f vs) (fun v s'=>∃ μ',RepV (Tr st'.σ μ') μ' s'.heap v r∧Inv c.bare ⟨[],st'.σ⟩ μ' s'.heap∧Stp c.bare σ μ s.heap st'.σ μ' s'.heap∧Same s s') (fun _ _=>False) s
noncomputable def Zhc (n:Nat) (prog:Program) (w:World) (base:Heap) (mg:Str→Option Value) (F:Fn):Prop :=
 ∀ f args σ r st',F f args σ = .ok r st'→Z5s f = true→∃ a o fd,mg f = some (.ref a)∧base.get? a = some o∧o.data = .func fd∧Does n prog w base (.ref a) args σ r st'
noncomputable def Z7n (base:Heap) (C:Addr):Prop:=∃ N mN,ClsAt base C N mN∧mN "__getattribute__" = none∧mN "__setattr__" = none∧∀ y ∈ attrNames,mN y = none
structure FnOk (n:Nat) (prog:Program) (w:World) (base:Heap) (mg:Str→Option Value) (F:Fn):Prop where
 fn:Zhc n prog w base mg F
 cls:∀ C:Nat,clsF F = some (C:Int)→Z7n base C
 dk:∀ σ r st',F Z0z [] σ = .ok r st'→r = .ref σ.length∧st'.σ = σ++[.kdict (kH w) []]
 new:∀ σ r st',F Z0k [] σ = .ok r st'→∃ C,mg Z0k = some (.ref C)∧Z7n base C∧Does n prog w base (.ref C) [] σ r st'
structure Wo where
 n:Nat
 mg:Str→Option Value
 mb:Str→Option Value
 F:Fn
structure Good (W:Wo) (c:Cx) (g:Gm):Prop where
 ok:CxOk c
 gd:Gd c.base W.mg W.mb
 nm:Nm c g
 a:AOk W.n c.A
 gs:∀ x i,g.gs.lookup x = some i→∃ t,W.mg x = some (.int i t)
 fn:FnOk W.n c.prog c.w c.base W.mg W.F
theorem Z0L {c:Cx} {b:Addr}:¬ Own c.bare b:=fun ⟨_,_,h,_⟩=>by cases h
theorem Inv.bare {c:Cx} {st:St} {μ:List Addr} {h:Heap} (I:Inv c st μ h):Inv c.bare ⟨[],st.σ⟩ μ h where
 vars:=fun i x q=>by simp at q
 slots:=fun i s q=>by cases q
 objs:=I.objs
 len:=I.len
 nd:=I.nd
 lt:=I.lt
 base:=I.base
 baseS:=fun b q=>(Z0L q).elim
 baseM:=I.baseM
 sep:=fun b q=>(Z0L q).elim
 kd:=I.kd
theorem Z1Q {c:Cx} {st:St} {μ:List Addr} {h:Heap} (I:Inv c st μ h) {b:Addr} (q:Own c b):∃ o,h.get? b = some o:=by
 refine El.x2_2 q fun i s hs q0z=>?_
 obtain rfl:=q0z
 refine El.x1_2 ((I.slots i s hs).get) fun o ho _=>?_
 exact ⟨o,ho⟩
theorem Inv.back {c:Cx} {st:St} {μ μ':List Addr} {σ':List O} {h h':Heap} (I:Inv c st μ h) (I':Inv c.bare ⟨[],σ'⟩ μ' h') (S:Stp c.bare st.σ μ h σ' μ' h') :
  Inv c ⟨st.ρ,σ'⟩ μ' h'∧Stp c st.σ μ h σ' μ' h':=by
 have S':Stp c st.σ μ h σ' μ' h':=⟨S.size,fun b o e _ hT=>S.keep b o e Z0L hT,S.pre,S.tr,S.new,S.pv,S.pk⟩
 have kp:∀ b,Own c b→∀ o,h.get? b = some o→h'.get? b = some o:=fun b q o e=>S.keep b o e Z0L fun t=>I.sep b q t.mem
 refine ⟨⟨fun i x q=>?_,fun i s q=>(I.slots i s q).keeps (kp _ ⟨i,s,q,rfl⟩),I'.objs,I'.len,I'.nd,I'.lt,I'.base,I.baseS,I'.baseM,fun b q m=>?_,I'.kd⟩,S'⟩
 ·refine El.x2_3 (I.vars i x q) fun s v h1 h2 h3=>?_
  exact ⟨s,v,h1,h2.keeps (kp _ ⟨i,s,h1,rfl⟩),h3.step (st':=⟨st.ρ,σ'⟩) I S'⟩
 ·rcases S.new b m with k | k
  ·exact I.sep b q k
  ·refine El.x1_1 (Z1Q I q) fun o ho=>?_
   exact Nat.lt_irrefl _ (Nat.lt_of_lt_of_le (Heap.lt_size ho) k)
noncomputable def EOk (W:Wo) (e:Ex):Prop:=∀ (g:Gm) (p:Expr) (c:Cx) (st:St) (μ:List Addr) (s:Shared),okE g e p = true→Good W c g→Inv c st μ s.heap→Sim c (eval (pE e p) c.env) (evE W.F e st) rV st.σ μ s
noncomputable def EsOk (W:Wo) (es:Exs):Prop:=∀ (g:Gm) (ps:List Expr) (c:Cx) (st:St) (μ:List Addr) (s:Shared) (pos:Pos),okEs g es ps = true→Good W c g→Inv c st μ s.heap→Sim c (spliced (backTo pos (starEach (pEs es ps) c.env))) (evEs W.F es st) rVs st.σ μ s
noncomputable def Z1j (x:Expr):Prop:=∀ (rest:List Expr) (env:Env),starEach (x :: rest) env = (false,eval x env) :: starEach rest env
theorem ZfO {x:Expr}:Z3v x.ctorIdx = true→Z1j x :=
 Expr.casesOn (motive_1:=fun x=>Z3v x.ctorIdx = true→Z1j x) x (fun _ _ _ _ _ _=>rfl) (fun _ _ _ _ _ _=>rfl) (fun _ _ _ _ _ _ _=>rfl) (fun _ _ _ _ _ _=>rfl) (fun _ _ _ _ _ _ _=>rfl) (fun _ _ _ _ _ _ _=>rfl) (fun _ _ _ _ _ _=>rfl) (fun _ _ _ _ _ _=>rfl) (fun _ _ _ _ _ _ _=>rfl) (fun _ _ _ _ _ _ _=>rfl) (fun _ _ _ _ _ _ _ _=>rfl) (fun _ _ _ _ _ _ _=>rfl) (fun _ _ _ _ _=>rfl) (fun _ _ _ _ _=>rfl) (fun _ _ _ _ _=>rfl) (fun _ _ _ _ _ _ _=>rfl) (fun _ _ _ _ _ _ _=>rfl) (fun _ _ _ _ _ _ _=>rfl) (fun _ _ _ _ _=>rfl) (fun _ _ _ _ _ _=>rfl) (fun _ _ _ _ _ _=>rfl) (fun _ _ _ _ _ _=>rfl) (fun _ _ h=>absurd h Bool.false_ne_true) (fun _ _ _ _ _=>rfl) (fun _ _ _ _ _=>rfl) (fun _ _ _ _ _ _=>rfl) (fun _ _ _ _ _ _ _=>rfl)
theorem ZeT {x:Expr}:Z3v x.ctorIdx = true→∀ (env:Env) (y:Value),foldedSetIterable x env y = pure y:=by
 cases x <;> first | exact fun _ _ _=>rfl | exact fun h=>absurd h Bool.false_ne_true
theorem Z9z {x:Expr} {op:CmpOp}:Z3v x.ctorIdx = true→behindInMarks op x = false:=by
 cases x <;> first | exact fun _=>rfl | exact fun h=>absurd h Bool.false_ne_true
theorem Zdt {x:Expr}:Z3v x.ctorIdx = true→Z1b x = true:=by
 cases x <;> first | exact fun _=>rfl | exact fun h=>absurd h Bool.false_ne_true
theorem Z0m (e:Ex) (p:Expr):Z1j (pE e p):=ZfO (Z2d e p)
section
variable {W:Wo}
theorem Sim.two {δ γ:Type} {a b:Ex} {c:Cx} {g:Gm} {p q:Expr} {st:St} {μ:List Addr} {s:Shared} {f:Value→Value→Sem γ} {k:V→V→St→R δ} {rel:St→List Addr→Heap→γ→δ→Prop} (ha:EOk W a) (hb:EOk W b) (h1:okE g a p = true) (h2:okE g b q = true) (hg:Good W c g) (I:Inv c st μ s.heap)
  (h:∀ x y u v st μ (s:Shared),RepV (Tr st.σ μ) μ s.heap u x→RepV (Tr st.σ μ) μ s.heap v y→Inv c st μ s.heap→Sim c (f u v) (k x y st) rel st.σ μ s) :
  Sim c (eval (pE a p) c.env >>= fun u=>PySem.holding [u] (eval (pE b q) c.env) >>= fun v=>f u v) ((evE W.F a st).bind fun x st=>(evE W.F b st).bind fun y st=>k x y st) rel st.σ μ s :=
 Sim.bind (ha g p c st μ s h1 hg I) fun x st₁ u μ₁ s₁ _ rx I₁ _=>Sim.bind (Sim.holding (hb g q c st₁ μ₁ s₁ h2 hg I₁)) fun y st₂ v μ₂ s₂ _ ry I₂ S₂=>h x y u v st₂ μ₂ s₂ (RepV.step I₁ S₂ rx) ry I₂
theorem Sim.one {δ γ:Type} {a:Ex} {c:Cx} {g:Gm} {p:Expr} {st:St} {μ:List Addr} {s:Shared} {f:Value→Sem γ} {k:V→St→R δ} {rel:St→List Addr→Heap→γ→δ→Prop} (ha:EOk W a) (h1:okE g a p = true) (hg:Good W c g) (I:Inv c st μ s.heap)
  (h:∀ x u st μ (s:Shared),RepV (Tr st.σ μ) μ s.heap u x→Inv c st μ s.heap→Sim c (f u) (k x st) rel st.σ μ s) :
  Sim c (eval (pE a p) c.env >>= f) ((evE W.F a st).bind k) rel st.σ μ s :=
 Sim.bind (ha g p c st μ s h1 hg I) fun x st₁ u μ₁ s₁ _ rx I₁ _=>h x u st₁ μ₁ s₁ rx I₁
theorem Z68:EOk W .none:=fun _ _ _ _ _ _ _ _ I=>Sim.leaf I (fun _ _ _=>⟨.refl,.refl,.none⟩)
theorem Z69 {b:Bool}:EOk W (.bool b):=fun _ _ _ _ _ _ _ _ I=>Sim.leaf I (fun _ _ _=>⟨.refl,.refl,.bool _⟩)
theorem Z8p {i:Int}:EOk W (.int i):=fun _ _ _ _ _ _ _ _ I=>Z0A I fun Q hq=>wpAny_Constant_int (hq _ _)
theorem Z8q {x:Str}:EOk W (.str x):=fun _ _ _ _ _ _ hk _ I=>Z2q I (and2 hk).1 (of_decide_eq_true (and2 hk).2) rfl fun Q hq=>wpAny_Constant_str (hq _ _)
theorem Zbv {g:Gm} {x:Str} {i:Nat} (h:g.lv x i = true):g.vm.lookup x = some i∧(x == ("__debug__":Str)) = false:=by
 simpa [Gm.lv,Z2Y] using h
theorem Zbw {g:Gm} {x:Str} (h:g.gl x = true):g.sc.names.lookup x = some .globalImplicit∧(x == ("__debug__":Str)) = false:=by
 simpa [Gm.gl,Z2Y] using h
theorem Z6a {c:Cx} {g:Gm} {st:St} {μ:List Addr} {s:Shared} {x:Str} {i:Nat} {pos:Pos} {y:V} (N:Nm c g) (hl:g.lv x i = true) (I:Inv c st μ s.heap) (hv:st.ρ[i]? = some (some y)) :
  ∃ v,RepV (Tr st.σ μ) μ s.heap v y∧∀ (Q:Value→Shared→Prop) (E:Value→Shared→Prop),Q v s→wpAny (model c.prog c.w) c.A (eval (.Name x pos) c.env) Q E s:=by
 refine El.x0_2 (Zbv hl) fun h1 h2=>?_
 refine El.x2_3 (I.vars i y hv) fun sl v g1 g2 g3=>?_
 refine ⟨v,g3,fun Q E hq=>wpAny_Name ?_ h2⟩
 have hk:c.env.scope.kind = .function:=by rw [N.sc]; exact N.kind
 rcases N.var x i h1 with ⟨k1,k2⟩ | ⟨k1,a,k2,k3⟩
 ·try clear g3; try clear v; try clear sl; try clear h2; try clear h1
  obtain rfl:=Option.some.inj (k2.symm.trans g1)
  refine El.x1_2 g2 fun m hm e=>?_
  exact wpAny_loadName_local hk (by unfold Env.kindOf; rw [N.sc]; exact k1) hm e hq
 ·try clear e; try clear hm; try clear m
  obtain rfl:=Option.some.inj (k3.symm.trans g1)
  exact wpAny_loadName_cell hk (by unfold Env.kindOf; rw [N.sc]; exact k1) k2 g2 hq
theorem Z8r {i:Nat}:EOk W (.loc i):=fun g p c st μ s hk hg I=>by
 rw [Z1K]
 split
 ·rename_i y hv
  exact El.x1_2 (Z6a hg.nm hk I hv) fun v r h=>Z1Z I r fun Q hq=>h _ _ (hq _)
 ·trivial
theorem Inv.freeze {c:Cx} {st:St} {μ:List Addr} {h:Heap} (I:Inv c st μ h) {i n:Nat} {xs:List V} (hv:st.ρ[i]? = some (some (.ref n))) (hn:st.σ[n]? = some (.lst xs)) :
  Inv c ⟨st.ρ.set i (some (.lst xs)),st.σ.set n .dead⟩ μ h∧Stp c st.σ μ h (st.σ.set n .dead) μ h ∧
   ∀ v,RepV (Tr st.σ μ) μ h v (.ref n)→RepV (Tr (st.σ.set n .dead) μ) μ h v (.lst xs):=by
 have sub:∀ b,Tr (st.σ.set n .dead) μ b→Tr st.σ μ b:=by
  intro b q8z
  refine El.x2_3 q8z fun k o e1 e2 e3=>?_
  by_cases hk:n = k
  ·try clear q8z
   subst hk
   have:n < st.σ.length:=(List.getElem?_eq_some_iff.mp hn).1
   have e4:O.dead = o:=by simpa [this] using e1
   subst e4; cases e2
  ·rw [List.getElem?_set_ne hk] at e1; exact ⟨k,o,e1,e2,e3⟩
 have S:Stp c st.σ μ h (st.σ.set n .dead) μ h:=⟨Nat.le_refl _,fun _ _ e _ _=>e,fun _ _ e=>e,fun b q=>.inl (sub b q),fun _ q=>.inl q,Z45 hn (by simp),fun _ _ _ _ _ e=>e⟩
 have mv:∀ {v:Value} {x:V},RepV (Tr st.σ μ) μ h v x→RepV (Tr (st.σ.set n .dead) μ) μ h v x:=fun r=>r.move (fun a o e _ hT=>⟨e,fun q=>hT (sub a q)⟩) fun _ _ q=>q
 have mvs:∀ {v:List Value} {x:List V},RepVs (Tr st.σ μ) μ h v x→RepVs (Tr (st.σ.set n .dead) μ) μ h v x:=fun r=>r.move (fun a o e _ hT=>⟨e,fun q=>hT (sub a q)⟩) fun _ _ q=>q
 have fr:∀ v,RepV (Tr st.σ μ) μ h v (.ref n)→RepV (Tr (st.σ.set n .dead) μ) μ h v (.lst xs):=by
  intro v r
  refine El.x1_2 r.refI fun a9 e9 ha=>?_
  try clear a9; try clear b; try clear sub
  subst e9
  refine El.x1_2 (I.objs n _ hn) fun a' ha' ro=>?_
  try clear a'; try clear e9
  obtain rfl:=Option.some.inj (ha.symm.trans ha')
  refine El.x2_3 ro.lst_inv fun vs nn ho hz r=>?_
  refine .lst ho rfl rfl hz ?_ (mvs r)
  intro q9z
  refine El.x2_3 q9z fun k o e1 e2 e3=>?_
  have:n = k:=(List.getElem?_inj (List.getElem?_eq_some_iff.mp ha).1 I.nd).mp (ha.trans e3.symm)
  try clear q9z; try clear hz; try clear nn; try clear vs; try clear ro; try clear ha'; try clear e3
  subst this
  have hlt:n < st.σ.length:=(List.getElem?_eq_some_iff.mp hn).1
  have e4:O.dead = o:=by simpa [hlt] using e1
  try clear e1
  subst e4; cases e2
 refine ⟨⟨fun j x q=>?_,I.slots,fun k o q=>?_,by simpa using I.len,I.nd,I.lt,I.base,I.baseS,I.baseM,I.sep,Z9f I.kd trivial⟩,S,fr⟩
 ·dsimp only at q ⊢
  by_cases hj:i = j
  ·try clear S; try clear e2
   subst hj
   have hlt:i < st.ρ.length:=(List.getElem?_eq_some_iff.mp hv).1
   have e4:V.lst xs = x:=by simpa [hlt] using q
   subst e4
   refine El.x2_3 (I.vars i _ hv) fun s v g1 g2 g3=>?_
   exact ⟨s,v,g1,g2,fr v g3⟩
  ·rw [List.getElem?_set_ne hj] at q
   refine El.x2_3 (I.vars j x q) fun s v g1 g2 g3=>?_
   exact ⟨s,v,g1,g2,mv g3⟩
 ·dsimp only at q ⊢
  by_cases hk:n = k
  ·try clear g3; try clear g2; try clear g1; try clear s; try clear x; try clear j; try clear v; try clear fr; try clear mv
   subst hk
   have hlt:n < st.σ.length:=(List.getElem?_eq_some_iff.mp hn).1
   have e4:O.dead = o:=by simpa [hlt] using q
   try clear hlt
   subst e4
   refine El.x1_2 (I.objs n _ hn) fun a ha _=>?_
   exact ⟨a,ha,.dead⟩
  ·rw [List.getElem?_set_ne hk] at q
   refine El.x1_2 (I.objs k o q) fun a ha r=>?_
   refine ⟨a,ha,?_⟩
   exact r.map (fun _ ho=>ho) fun _ _ r=>(mvs r)
theorem Zbx {i:Nat}:EOk W (.fz i):=fun g p c st μ s hk hg I=>by
 rw [ZaY]
 split
 ·rename_i k hv
  split
  ·rename_i xs hn
   exact El.x1_2 (Z6a hg.nm hk I hv) fun v r h=>El.x0_3 (I.freeze hv hn) fun I' S fr=>h _ _ ⟨μ,fr v r,I',S,.refl⟩
  ·trivial
 ·rename_i xs hv
  exact El.x1_2 (Z6a hg.nm hk I hv) fun v r h=>Z1Z I r fun Q hq=>h _ _ (hq _)
 ·trivial
theorem Z8s {op:Op} {a b:Ex} (ha:EOk W a) (hb:EOk W b):EOk W (.bin op a b):=fun g p c st μ s hk hg I=>
 Sim.of_eq (eval_BinOp ..) (Sim.two ha hb (and2 hk).1 (and2 hk).2 hg I fun x y u v st μ s rx ry I=>Sim.at (Sim.operate (ZfM hg.ok I rx ry op)))
theorem ZfP {op:Cm} {a b:Ex} (ha:EOk W a) (hb:EOk W b):EOk W (.cmp op a b):=fun g p c st μ s hk hg I=>
 Sim.of_eq ((eval_Compare1 ..).trans (by rw [markedBehindIn_of_false (Z9z (Z2d b _))])) (Sim.two ha hb (and2 hk).1 (and2 hk).2 hg I fun x y u v st μ s rx ry I=>Sim.at (Sim.operate (Zbc hg.ok I rx ry op)))
end
theorem Z4g:bootBuiltins (Str.ofString "isinstance") = some (.builtin "isinstance"):=by decide +kernel
theorem Z9A:bootBuiltins (Str.ofString "len") = some (.builtin "len"):=by decide +kernel
theorem Z9B:bootBuiltins (Str.ofString "int") = some (.type "int"):=by decide +kernel
theorem Zby:bootBuiltins (Str.ofString "bool") = some (.type "bool"):=by decide +kernel
theorem Z7o:bootBuiltins (Str.ofString "list") = some (.type "list"):=by decide +kernel
theorem Z5t:bootBuiltins (Str.ofString "tuple") = some (.type "tuple"):=by decide +kernel
theorem Zdu:bootBuiltins (Str.ofString "str") = some (.type "str"):=by decide +kernel
theorem Z5u:bootBuiltins (Str.ofString "range") = some (.type "range"):=by decide +kernel
theorem Z5h:bootBuiltins (Str.ofString "enumerate") = some (.type "enumerate"):=by decide +kernel
theorem Zdv:bootBuiltins (Str.ofString "zip") = some (.type "zip"):=by decide +kernel
noncomputable def TOk (W:Wo) (e:Ex):Prop:=∀ (g:Gm) (p:Expr) (c:Cx) (st:St) (μ:List Addr) (s:Shared),okE g e p = true→Good W c g→Inv c st μ s.heap→Sim c (isTrue (pE e p) c.env (eval (pE e p) c.env)) (Z0a (evE W.F e st)) rEq st.σ μ s
noncomputable def IOk (W:Wo) (e:Ex):Prop:=EOk W e∧TOk W e
noncomputable def Z7p (py:Expr):Prop:=∀ env whole,isTrue py env whole = (do let v ← whole; standAt py.pos; holding [v] (truthy v))
noncomputable def ZfQ (n:Nat):Bool:=!(n == 3 || n == 0 || n == 5 || n == 15)
theorem Z01 {x:Expr}:ZfQ x.ctorIdx = true→Z7p x:=by
 cases x <;> first | exact fun _ _ _=>rfl | exact fun h=>absurd h Bool.false_ne_true
theorem R.bind_assoc {α β γ:Type} (m:R α) (f:α→St→R β) (g:β→St→R γ):(m.bind f).bind g = m.bind fun a st=>(f a st).bind g:=by cases m <;> rfl
theorem Sim.of_m {α β:Type} {c:Cx} {t:Sem α} {m m':R β} {rel:St→List Addr→Heap→α→β→Prop} {σ:List O} {μ:List Addr} {s:Shared} (e:m = m') (h:Sim c t m' rel σ μ s):Sim c t m rel σ μ s:=e ▸ h
theorem Sim.eq {α β γ:Type} {c:Cx} {t:Sem α} {f:α→Sem β} {m:R α} {g:α→St→R γ} {rel':St→List Addr→Heap→β→γ→Prop} {σ:List O} {μ:List Addr} {s:Shared} (h:Sim c t m rEq σ μ s)
  (hf:∀ b st₁ μ₁ (s₁:Shared),m = .ok b st₁→Inv c st₁ μ₁ s₁.heap→Stp c σ μ s.heap st₁.σ μ₁ s₁.heap→Sim c (f b) (g b st₁) rel' st₁.σ μ₁ s₁):Sim c (t >>= f) (m.bind g) rel' σ μ s :=
 Sim.bind h fun b st₁ a μ₁ s₁ e (r:a = b) I S=>r ▸ hf b st₁ μ₁ s₁ e I S
section
variable {W:Wo}
theorem TOk.plain {e:Ex} (h:EOk W e) (hp:∀ p,Z7p (pE e p)):IOk W e :=
 ⟨h,fun g p c st μ s hk hg I=>Sim.of_eq (hp p ..) (Sim.one h hk hg I fun _ _ _ _ _ rx I=>Sim.at (Sim.holding (Z20 I rx)))⟩
theorem Z6b {op:Cm} {a b:Ex} (ha:EOk W a) (hb:EOk W b):IOk W (.cmp op a b) :=
 ⟨ZfP ha hb,fun g p c st μ s hk hg I=>Sim.of_eq ((isTrue_Compare1 ..).trans (by rw [markedBehindIn_of_false (Z9z (Z2d b _))]))
  (Sim.of_m ((R.bind_assoc ..).trans (Z19 _ fun _ _=>R.bind_assoc ..)) (Sim.two ha hb (and2 hk).1 (and2 hk).2 hg I fun x y u v st μ s rx ry I=>
   Sim.at (Sim.bind (Sim.operate (Zbc hg.ok I rx ry op)) fun _ _ _ _ _ _ rq I _=>Sim.holding (Z20 I rq))))⟩
theorem Z4h {x:V} {st:St} {t:Bool} (h:x.truthy st.σ = some t):Z0a (.ok x st) = .ok t st:=by
 unfold Z0a; rw [R.bind_ok,h]; rfl
theorem Sim.cond {α β:Type} {c:Cx} {t:Bool} {T1 T2:Sem α} {m1 m2:R β} {rel:St→List Addr→Heap→α→β→Prop} {σ:List O} {μ:List Addr} {s:Shared} (h1:t = true→Sim c T1 m1 rel σ μ s) (h2:t = false→Sim c T2 m2 rel σ μ s) :
  Sim c (if t = true then T1 else T2) (if t = true then m1 else m2) rel σ μ s:=by
 cases t with
 | true=>simpa using h1 rfl
 | false=>simpa using h2 rfl
theorem Z9C (op:BoolOp) {f:Bool} {A B B':Expr} {q:Pos} (hB:f = true→∃ y zs,B = .BoolOp op (y :: zs) q):∃ y zs,bop op f A B B' q = .BoolOp op (A :: y :: zs) q∧(∀ env,eval (.BoolOp op (y :: zs) q) env = eval (bif f then B else B') env)∧∀ env,allTrue op (y :: zs) env = isTrue (bif f then B else B') env (eval (bif f then B else B') env):=by
 cases f with
 | true=>
  refine El.x2_1 (hB rfl) fun y zs e=>?_
  subst e
  exact ⟨y,zs,rfl,fun _=>rfl,fun _=>rfl⟩
 | false=>
  refine ⟨B',[],rfl,fun _=>rfl,fun env=>?_⟩
  refine Eq.trans ?_ (bind_pure (isTrue B' env (eval B' env)))
  rw [arm_allTrue_cons]
  refine congrArg (fun k=>isTrue B' env (eval B' env) >>= k) (funext fun t=>?_)
  cases op <;> cases t <;> rfl
theorem ZeU {g:Gm} {b:Ex} {f x:Bool} {r r':Expr} (h:(if f = true then x && okE g b r else okE g b r') = true):okE g b (bif f then r else r') = true∧(f = true→x = true):=by
 cases f with
 | true=>exact ⟨(and2 h).2,fun _=>(and2 h).1⟩
 | false=>exact ⟨h,fun e=>by cases e⟩
theorem ZeV {b:Ex} {f:Bool} {r r':Expr}:(bif f then pE b r else pE b r') = pE b (bif f then r else r'):=by cases f <;> rfl
theorem Z8t {F:Fn} {a b:Ex} {st:St}:Z0a (evE F (.band a b) st) = (Z0a (evE F a st)).bind fun t st=>if t then Z0a (evE F b st) else .ok false st:=by
 refine Eq.trans (R.bind_assoc (evE F a st) _ _) (Eq.trans ?_ (R.bind_assoc (evE F a st) _ _).symm)
 refine Z19 _ fun x st=>?_
 cases h:x.truthy st.σ with
 | none=>rfl
 | some t=>
  cases t with
  | false=>exact Z4h h
  | true=>rfl
theorem Zaq {F:Fn} {a b:Ex} {st:St}:Z0a (evE F (.bor a b) st) = (Z0a (evE F a st)).bind fun t st=>if t then .ok true st else Z0a (evE F b st):=by
 refine Eq.trans (R.bind_assoc (evE F a st) _ _) (Eq.trans ?_ (R.bind_assoc (evE F a st) _ _).symm)
 refine Z19 _ fun x st=>?_
 cases h:x.truthy st.σ with
 | none=>rfl
 | some t=>
  cases t with
  | false=>rfl
  | true=>exact Z4h h
theorem ZfR {α:Type} {o:Option α} {st st':St} {t:α} (h:R.lift o st = .ok t st'):st' = st:=by
 cases o <;> cases h; rfl
theorem Sim.tru {β γ:Type} {c:Cx} {st:St} {μ:List Addr} {s:Shared} {x:V} {u:Value} {f:Bool→Sem β} {g:Bool→St→R γ} {rel:St→List Addr→Heap→β→γ→Prop} (I:Inv c st μ s.heap) (rx:RepV (Tr st.σ μ) μ s.heap u x)
  (h:∀ t μ₁ (s₁:Shared),Inv c st μ₁ s₁.heap→RepV (Tr st.σ μ₁) μ₁ s₁.heap u x→Sim c (f t) (g t st) rel st.σ μ₁ s₁):Sim c (PySem.holding [u] (truthy u) >>= f) ((R.lift (x.truthy st.σ) st).bind g) rel st.σ μ s :=
 Sim.eq (Sim.holding (Z20 I rx)) fun t st₁ μ₁ s₁ e I₁ S₁=>by
  cases ZfR e
  exact h t μ₁ s₁ I₁ (RepV.step I S₁ rx)
theorem Z6c {a b:Ex} (ha:IOk W a) (hb:IOk W b):IOk W (.band a b):=by
 have key:∀ {g p},okE g (.band a b) p = true→∃ r y zs,okE g a (kid p 0) = true∧okE g b r = true∧pE (.band a b) p = .BoolOp .And (pE a (kid p 0) :: y :: zs) p.pos∧(∀ env,eval (.BoolOp .And (y :: zs) p.pos) env = eval (pE b r) env)∧∀ env,allTrue .And (y :: zs) env = isTrue (pE b r) env (eval (pE b r) env):=fun {g p} hk=>by
  refine El.x0_2 (ZeU (and2 hk).2) fun h2 h3=>?_
  refine El.x2_3 (Z9C .And (f:=flat p) (A:=pE a (kid p 0)) (B:=pE b (Z7m .And p)) (B':=pE b (kid p 1)) (q:=p.pos) fun e=>Ex.band.elim (motive_1:=fun b=>∃ y zs,pE b (Z7m .And p) = .BoolOp .And (y :: zs) p.pos) b (eq_of_beq (h3 e)) fun x y=>⟨_,_,rfl⟩) fun y zs e1 e2 e3=>?_
  rw [ZeV] at e2 e3
  exact ⟨_,y,zs,(and2 hk).1,h2,e1,e2,e3⟩
 refine ⟨fun g p c st μ s hk hg I=>El.x3_5 (key hk) fun r y zs h1 h2 e1 e2 _=>?_,fun g p c st μ s hk hg I=>El.x3_5 (key hk) fun r y zs h1 h2 e1 _ e3=>?_⟩
 ·refine Sim.of_eq (congrArg (fun x=>eval x c.env) e1) (Sim.one ha.1 h1 hg I fun x u st μ s rx I=>Sim.at (Sim.tru I rx fun t μ s I rx=>?_))
  cases t with
  | true=>exact Sim.of_eq (e2 c.env) (hb.1 g r c st μ s h2 hg I)
  | false=>exact Sim.pure I rx
 ·rw [e1]
  refine Sim.of_m Z8t (Sim.eq (ha.2 g _ c st μ s h1 hg I) fun t st₁ μ₁ s₁ _ I₁ S₁=>?_)
  cases t with
  | true=>exact Sim.of_eq (e3 c.env) (hb.2 g r c st₁ μ₁ s₁ h2 hg I₁)
  | false=>exact Sim.pure I₁ rfl
theorem Z8u {a b:Ex} (ha:IOk W a) (hb:IOk W b):IOk W (.bor a b):=by
 have key:∀ {g p},okE g (.bor a b) p = true→∃ r y zs,okE g a (kid p 0) = true∧okE g b r = true∧pE (.bor a b) p = .BoolOp .Or (pE a (kid p 0) :: y :: zs) p.pos∧(∀ env,eval (.BoolOp .Or (y :: zs) p.pos) env = eval (pE b r) env)∧∀ env,allTrue .Or (y :: zs) env = isTrue (pE b r) env (eval (pE b r) env):=fun {g p} hk=>by
  refine El.x0_2 (ZeU (and2 hk).2) fun h2 h3=>?_
  refine El.x2_3 (Z9C .Or (f:=flat p) (A:=pE a (kid p 0)) (B:=pE b (Z7m .Or p)) (B':=pE b (kid p 1)) (q:=p.pos) fun e=>Ex.bor.elim (motive_1:=fun b=>∃ y zs,pE b (Z7m .Or p) = .BoolOp .Or (y :: zs) p.pos) b (eq_of_beq (h3 e)) fun x y=>⟨_,_,rfl⟩) fun y zs e1 e2 e3=>?_
  rw [ZeV] at e2 e3
  exact ⟨_,y,zs,(and2 hk).1,h2,e1,e2,e3⟩
 refine ⟨fun g p c st μ s hk hg I=>El.x3_5 (key hk) fun r y zs h1 h2 e1 e2 _=>?_,fun g p c st μ s hk hg I=>El.x3_5 (key hk) fun r y zs h1 h2 e1 _ e3=>?_⟩
 ·refine Sim.of_eq (congrArg (fun x=>eval x c.env) e1) (Sim.one ha.1 h1 hg I fun x u st μ s rx I=>Sim.at (Sim.tru I rx fun t μ s I rx=>?_))
  cases t with
  | true=>exact Sim.pure I rx
  | false=>exact Sim.of_eq (e2 c.env) (hb.1 g r c st μ s h2 hg I)
 ·rw [e1]
  refine Sim.of_m Zaq (Sim.eq (ha.2 g _ c st μ s h1 hg I) fun t st₁ μ₁ s₁ _ I₁ S₁=>?_)
  cases t with
  | true=>exact Sim.pure I₁ rfl
  | false=>exact Sim.of_eq (e3 c.env) (hb.2 g r c st₁ μ₁ s₁ h2 hg I₁)
theorem Z8v {a:Ex} (ha:IOk W a):IOk W (.not a) :=
 ⟨fun g p c st μ s hk hg I=>Sim.of_eq (arm_eval_UnaryOp ..) (Sim.of_m (R.bind_assoc (evE W.F a st) _ _) (Sim.one ha.1 hk hg I fun x u st μ s rx I=>Sim.at (Sim.holding
   (Sim.imp (T:=truthy u >>= fun b=>pure (Value.bool (!b))) (fun Q h=>by unfold unaryOp; exact wpAny_holding h) (Sim.eq (Z20 I rx) fun t st₁ μ₁ s₁ _ I₁ _=>Sim.pure I₁ (.bool _)))))),
  fun g p c st μ s hk hg I=>Sim.of_eq (arm_isTrue_UnaryOp ..) (Sim.of_m (R.bind_assoc (Z0a (evE W.F a st)) _ _) (Sim.eq (ha.2 g _ c st μ s hk hg I) fun t st₁ μ₁ s₁ _ I₁ _=>Sim.pure I₁ rfl))⟩
theorem Z8w {i:Int}:EOk W (.neg i):=fun g p c st μ s hk hg I=>
 Sim.of_eq (arm_eval_UnaryOp ..) (Z0A I fun Q hq=>wpAny_bind (wpAny_Constant_int (wpAny_bind (wpAny_standAt (wpAny_holding (P.neg_int (hq _ _)))))))
theorem Z8x {d a b:Ex} (hd:IOk W d) (ha:IOk W a) (hb:IOk W b):IOk W (.ite d a b) :=
 ⟨fun g p c st μ s hk hg I=>Sim.of_eq (arm_eval_IfExp ..) (Sim.eq (hd.2 g _ c st μ s (and2 hk).1 hg I) fun t st₁ μ₁ s₁ _ I₁ _=>
   Sim.cond (fun _=>ha.1 g _ c st₁ μ₁ s₁ (and2 (and2 hk).2).1 hg I₁) fun _=>hb.1 g _ c st₁ μ₁ s₁ (and2 (and2 hk).2).2 hg I₁),
  fun g p c st μ s hk hg I=>Sim.of_eq (arm_isTrue_IfExp ..) (Sim.of_m ((R.bind_assoc (Z0a (evE W.F d st)) _ _).trans (Z19 _ fun t st=>by cases t <;> rfl)) (Sim.eq (g:=fun t st=>if t = true then Z0a (evE W.F a st) else Z0a (evE W.F b st)) (hd.2 g _ c st μ s (and2 hk).1 hg I) fun t st₁ μ₁ s₁ _ I₁ _=>
   Sim.cond (fun _=>ha.2 g _ c st₁ μ₁ s₁ (and2 (and2 hk).2).1 hg I₁) fun _=>hb.2 g _ c st₁ μ₁ s₁ (and2 (and2 hk).2).2 hg I₁))⟩
theorem Z8y:EsOk W .nil:=fun _ _ _ _ _ _ _ _ _ I=>Sim.leaf I (wpAny_items_nil ⟨.refl,.refl,.nil⟩)
theorem Z6d {e:Ex} {es:Exs} (he:EOk W e) (hes:EsOk W es):EsOk W (.cons e es):=fun g ps c st μ s pos hk hg I=>by
 show Sim c (spliced (backTo pos (starEach (pE e (ps.headD default) :: pEs es ps.tail) c.env))) _ _ _ _ _
 rw [Z0m]
 exact Sim.bind (he g _ c st μ s (and2 hk).1 hg I) fun y st₁ v μ₁ s₁ _ rx I₁ S₁=>
  Sim.bind (t:=PySem.holding [v] (spliced (backTo pos (starEach (pEs es ps.tail) c.env)))) (f:=fun vs=>pure ([v]++vs)) (Sim.holding (hes g _ c st₁ μ₁ s₁ pos (and2 hk).2 hg I₁)) fun ys st₂ vs μ₂ s₂ _ rxs I₂ S₂=>Sim.pure I₂ (.cons (RepV.step I₁ S₂ rx) rxs)
theorem Sim.ite {α β:Type} {p:Prop} [Decidable p] {c:Cx} {t:Sem α} {m:R β} {rel:St→List Addr→Heap→α→β→Prop} {σ:List O} {μ:List Addr} {s:Shared} (h:p→Sim c t m rel σ μ s):Sim c t (if p then m else .stuck) rel σ μ s:=by
 by_cases q:p
 ·rw [if_pos q]; exact h q
 ·rw [if_neg q]; trivial
theorem Z8z {es:Exs} (h:EsOk W es):EOk W (.tup es):=fun g p c st μ s hk hg I=>
 Sim.of_eq (arm_eval_Tuple ..) (Sim.at (Sim.bind (h g _ c st μ s _ hk hg I) fun xs st₁ vs μ₁ s₁ _ rx I₁ S₁=>Sim.ite fun hz=>by
  have hz:vs.length ≤ sizeLine:=by rw [RepVs.length rx]; exact hz
  have hz':vs.toArray.size ≤ sizeLine:=by rw [List.size_toArray]; exact hz
  exact Sim.leaf I₁ (wpAny_newObj_type ⟨.push _,.refl,Z7h I₁ rx hz⟩ hz')))
theorem Z6e {es:Exs} (h:EsOk W es):EOk W (.list es):=fun g p c st μ s hk hg I=>
 Sim.of_eq (arm_eval_List ..) (Sim.at (Sim.bind (h g _ c st μ s _ hk hg I) fun xs st₁ vs μ₁ s₁ _ rx I₁ S₁=>Sim.ite fun hz=>by
  have hz:vs.length ≤ sizeLine:=by rw [RepVs.length rx]; exact hz
  have hz':vs.toArray.size ≤ sizeLine:=by rw [List.size_toArray]; exact hz
  exact Sim.leaf I₁ (wpAny_newObj_type ⟨.push _,.refl,Z1r I₁ rx hz⟩ hz')))
theorem Inv.track {c:Cx} {st:St} {μ:List Addr} {h:Heap} (I:Inv c st μ h) {o:Obj} {ob:O} (hf:o.isFreed = false) (hl:ob.live = true) (hk:Hk c.w ob) (hr:∀ T,(∀ b,T b→Tr st.σ μ b ∨ b = h.objs.size)→RepO T (μ++[h.objs.size]) (h.push o) h.objs.size ob) :
  Inv c ⟨st.ρ,st.σ++[ob]⟩ (μ++[h.objs.size]) (h.push o)∧Stp c st.σ μ h (st.σ++[ob]) (μ++[h.objs.size]) (h.push o):=by
 have hnm:h.objs.size ∉ μ:=fun q=>Nat.lt_irrefl _ (I.lt _ q)
 have tr:∀ b,Tr (st.σ++[ob]) (μ++[h.objs.size]) b→Tr st.σ μ b ∨ b = h.objs.size:=by
  intro b q16z
  refine El.x2_3 q16z fun k o' e1 e2 e3=>?_
  by_cases hk:k < st.σ.length
  ·rw [List.getElem?_append_left hk] at e1
   rw [List.getElem?_append_left (by rw [I.len]; exact hk)] at e3
   exact .inl ⟨k,o',e1,e2,e3⟩
  ·rw [List.getElem?_append_right (by rw [I.len]; lia)] at e3
   have hlt:k < (st.σ++[ob]).length:=(List.getElem?_eq_some_iff.mp e1).1
   simp only [List.length_append,List.length_singleton] at hlt
   have:k - μ.length = 0:=by rw [I.len]; lia
   rw [this] at e3
   exact .inr (by simpa using e3.symm)
 have S:Stp c st.σ μ h (st.σ++[ob]) (μ++[h.objs.size]) (h.push o) :=
  ⟨(Ext.push o).1,fun b o' e _ _=>(Ext.push o).2 b o' e,fun k a e=>by rw [List.getElem?_append_left (List.getElem?_eq_some_iff.mp e).1]; exact e,
   fun b q=>(tr b q).imp id fun e=>Nat.le_of_eq e.symm,fun a q=>(List.mem_append.mp q).imp id fun e=>Nat.le_of_eq (List.mem_singleton.mp e).symm,fun k e=>by rw [List.getElem?_append_left (List.getElem?_eq_some_iff.mp e).1]; exact e,fun _ a o' _ _ q=>(Ext.push o).2 a o' q⟩
 have I':=I.ext (Ext.push o)
 refine ⟨⟨fun i x q=>?_,I'.slots,fun k o' q=>?_,by simp [I.len],?_,fun a q=>?_,I'.base,I.baseS,fun a q=>?_,fun b q m=>?_,ZeN I.kd hk⟩,S⟩
 ·refine El.x2_3 (I.vars i x q) fun sl v g1 g2 g3=>?_
  exact ⟨sl,v,g1,g2.keeps fun o' e=>(Ext.push o).2 _ o' e,g3.step (st':=⟨st.ρ,st.σ++[ob]⟩) I S⟩
 ·dsimp only at q ⊢
  by_cases hk:k < st.σ.length
  ·rw [List.getElem?_append_left hk] at q
   refine El.x1_2 (I.objs k o' q) fun a ha r=>?_
   refine ⟨a,by rw [List.getElem?_append_left (by rw [I.len]; exact hk)]; exact ha,?_⟩
   exact r.map (fun _ ho=>((Ext.push o).2 _ _ ho)) fun _ _ r=>(RepVs.step (st':=⟨st.ρ,st.σ++[ob]⟩) I S r)
  ·have hlt:k < (st.σ++[ob]).length:=(List.getElem?_eq_some_iff.mp q).1
   simp only [List.length_append,List.length_singleton] at hlt
   have e0:k = st.σ.length:=by lia
   try clear r; try clear g3; try clear g2; try clear g1; try clear v; try clear sl; try clear x; try clear i; try clear S; try clear hlt; try clear e3; try clear e2
   subst e0
   have e4:ob = o':=by simpa using q
   try clear e0; try clear e1; try clear k; try clear q16z
   subst e4
   exact ⟨h.objs.size,by rw [← I.len]; simp,hr _ tr⟩
 ·refine List.nodup_append.mpr ⟨I.nd,by simp,?_⟩
  intro a ha b hb
  rw [List.mem_singleton.mp hb]
  exact fun e=>hnm (e ▸ ha)
 ·rw [Heap.size_push]
  rcases List.mem_append.mp q with q | q
  ·exact Nat.lt_succ_of_lt (I.lt a q)
  ·rw [List.mem_singleton.mp q]; exact Nat.lt_succ_self _
 ·rcases List.mem_append.mp q with q | q
  ·exact I.baseM a q
  ·rw [List.mem_singleton.mp q]
   cases hb:c.base.get? h.objs.size with
   | none=>rfl
   | some o'=>exact absurd (Heap.lt_size (I.base _ _ hb)) (Nat.lt_irrefl _)
 ·rcases List.mem_append.mp m with m | m
  ·exact I.sep b q m
  ·refine El.x1_1 (Z1Q I q) fun o' ho'=>?_
   rw [List.mem_singleton.mp m] at ho'
   exact Nat.lt_irrefl _ (Heap.lt_size ho')
theorem Z4i {es:Exs} (h:EsOk W es):EOk W (.listM es):=fun g p c st μ s hk hg I=>
 Sim.of_eq (arm_eval_List ..) (Sim.at (Sim.bind (h g _ c st μ s _ hk hg I) fun xs st₁ vs μ₁ s₁ _ rx I₁ S₁=>Sim.ite fun hz=>by
  have hz':vs.toArray.size ≤ sizeLine:=by rw [List.size_toArray,RepVs.length rx]; exact hz
  refine El.x0_2 (I₁.track (o:={ cls:=.type "list",data:=.seq vs.toArray }) (ob:=.lst xs) rfl rfl trivial fun T hT=>.lst (Heap.get?_push_size _ rfl) hz' ?_) fun I₂ S₂=>?_
  ·exact RepVs.move (fun a o e _ hn=>⟨(Ext.push _).2 a o e,fun q=>(hT a q).elim hn fun e'=>Nat.lt_irrefl _ (e' ▸ Heap.lt_size e)⟩)
    (fun k a e=>by rw [List.getElem?_append_left (List.getElem?_eq_some_iff.mp e).1]; exact e) rx
  ·exact wpAny_newObj_type ⟨_,.ref (by rw [← I₁.len]; simp),I₂,S₂,.refl⟩ hz'))
theorem Z8A {a i:Ex} (ha:EOk W a) (hi:EOk W i):EOk W (.sub a i):=fun g p c st μ s hk hg I=>
 Sim.of_eq (eval_Subscript ..) (Sim.two ha hi (and2 hk).1 (and2 hk).2 hg I fun x y u v st μ s rx ry I=>Sim.at (ZfH hg.ok (value:=pE a (kid p 0)) I rx ry (Zdt (Z2d i _))))
end
noncomputable def OOk (W:Wo) (e:Exo):Prop:=∀ (g:Gm) (p:Expr) (c:Cx) (st:St) (μ:List Addr) (s:Shared),okO g e p = true→Good W c g→Inv c st μ s.heap→Sim c (valueOrNone (evalOpt (pO e p) c.env)) (evO W.F e st) rV st.σ μ s
section
variable {W:Wo}
theorem Z4j:OOk W .none:=fun _ _ _ _ _ _ _ _ I=>Sim.pure I .none
theorem Z4k {e:Ex} (h:EOk W e):OOk W (.some e):=h
theorem Z4l {a:Ex} {lo hi:Exo} (ha:EOk W a) (hlo:OOk W lo) (hhi:OOk W hi):EOk W (.slice a lo hi):=fun g p c st μ s hk hg I=>by
 refine Sim.of_eq (eval_Subscript ..) (Sim.bind (ha g _ c st μ s (and2 hk).1 hg I) fun x st₁ ov μ₁ s₁ _ rx I₁ S₁=>?_)
 have hs:Sim c (eval (.Slice (pO lo (kid (kid p 1) 0)) (pO hi (kid (kid p 1) 1)) none (kid p 1).pos) c.env) ((evO W.F lo st₁).bind fun yl st=>(evO W.F hi st).bind fun yu st=>.ok (yl,yu) st)
   (fun st μ h i q=>∃ vl vu sa,i = .ref sa∧h.IsSliceOf sa vl vu .none∧RepV (Tr st.σ μ) μ h vl q.1∧RepV (Tr st.σ μ) μ h vu q.2) st₁.σ μ₁ s₁ :=
  Sim.of_eq (arm_eval_Slice ..) (Sim.bind (hlo g _ c st₁ μ₁ s₁ (and2 (and2 hk).2).1 hg I₁) fun yl st₂ vl μ₂ s₂ _ rl I₂ S₂=>Sim.bind (Sim.holding (hhi g _ c st₂ μ₂ s₂ (and2 (and2 hk).2).2 hg I₂)) fun yu st₃ vu μ₃ s₃ _ ru I₃ S₃=>
   Sim.leaf I₃ (wpAny_bind (wpAny_holding (wpAny_pure (wpAny_newObj_type ⟨.push _,.refl,vl,vu,_,rfl,Heap.IsSliceOf.new ..,(RepV.step I₂ S₃ rl).ext (.push _),ru.ext (.push _)⟩)))))
 refine Sim.of_m (m':=((evO W.F lo st₁).bind fun yl st=>(evO W.F hi st).bind fun yu st=>R.ok (yl,yu) st).bind fun q st=>R.lift (Z0E st.σ x q.1 q.2) st) ((R.bind_assoc (evO W.F lo st₁) _ _).trans (Z19 _ fun yl st=>R.bind_assoc (evO W.F hi st) (fun yu st=>R.ok (yl,yu) st) (fun q st=>R.lift (Z0E st.σ x q.1 q.2) st))).symm ?_
 refine Sim.bind (Sim.holding hs) fun q st₂ i μ₂ s₂ _ rq I₂ S₂=>Sim.at ?_
 refine El.x3_4 rq fun vl vu sa e hsl rl ru=>?_
 subst e
 exact Zbj I₂ (RepV.step I₁ S₂ rx) rl ru hsl
theorem Z3w {c:Cx} {g:Gm} {st:St} {μ:List Addr} {s:Shared} {x:String} {pos:Pos} {v:Value} (hg:Good W c g) (I:Inv c st μ s.heap) (hx:g.gl (Str.ofString x) = true)
  (hm:x ∈ (["isinstance","len","int","bool","list","tuple","str","range","enumerate","zip","set","sorted","min","max"]:List String)) (hv:bootBuiltins (Str.ofString x) = some v)
  {Q:Value→Shared→Prop} {E:Value→Shared→Prop} (h:Q v s):wpAny (model c.prog c.w) c.A (eval (.Name (Str.ofString x) pos) c.env) Q E s:=by
 refine El.x0_2 (Zbw hx) fun h1 h2=>?_
 have hk:c.env.scope.kind = .function:=by rw [hg.nm.sc]; exact hg.nm.kind
 refine Name_function_global hk (by unfold Env.kindOf; rw [hg.nm.sc]; exact h1) (loadGlobal_builtin (mg:=W.mg) (mb:=W.mb) ?_ (hg.gd.free x hm) ?_ ?_ h) h2
 ·rw [hg.nm.glob]; exact hg.gd.g.keeps I.base
 ·rw [hg.nm.blt]; exact hg.gd.b.keeps I.base
 ·rw [hg.gd.blt _ ?_]; exact hv
  simp only [List.mem_cons,List.not_mem_nil,or_false] at hm
  try clear hk; try clear h2; try clear h1
  rcases hm with rfl | rfl | rfl | rfl | rfl | rfl | rfl | rfl | rfl | rfl | rfl | rfl | rfl | rfl <;> decide
theorem Z2e {c:Cx} {g:Gm} {st:St} {μ:List Addr} {s:Shared} {x:Str} {pos:Pos} {v:Value} (hg:Good W c g) (I:Inv c st μ s.heap) (hx:g.gl x = true) (hv:W.mg x = some v)
  {Q:Value→Shared→Prop} {E:Value→Shared→Prop} (h:Q v s):wpAny (model c.prog c.w) c.A (eval (.Name x pos) c.env) Q E s:=by
 refine El.x0_2 (Zbw hx) fun h1 h2=>?_
 have hk:c.env.scope.kind = .function:=by rw [hg.nm.sc]; exact hg.nm.kind
 exact Name_function_global hk (by unfold Env.kindOf; rw [hg.nm.sc]; exact h1) (loadGlobal_global (mg:=W.mg) (by rw [hg.nm.glob]; exact hg.gd.g.keeps I.base) hv h) h2
theorem Z8B (x:Str) (p:Pos):Z1j (.Name x p):=fun _ _=>rfl
theorem Z6f {pos:Pos} {env:Env}:∀ {xs:List Expr},(∀ x ∈ xs,Z1j x)→(backTo pos (starEach xs env)).any (·.1) = false
 | [],_=>rfl
 | x :: xs,h=>by
  rw [h x (List.mem_cons_self ..)]
  show (false || (backTo pos (starEach xs env)).any (·.1)) = false
  rw [Z6f fun y hy=>h y (List.mem_cons_of_mem _ hy)]; rfl
theorem Z2Z {M:Model} {A:Around} {E:Value→Shared→Prop} {s:Shared} {pos:Pos} {env:Env} {f:Value} {x:Expr} {xs:List Expr} (hx:Z1j x) {Q:Args→Shared→Prop}
  (h:wpAny M A (spliced (backTo pos (starEach (x :: xs) env))) (fun vs s'=>Q ⟨vs,[]⟩ s') E s):wpAny M A (evalArgs f true (backTo pos (starEach (x :: xs) env)) []) Q E s:=by
 rw [hx] at h ⊢
 exact evalArgs_plain h
theorem Zbz {M:Model} {A:Around} {E:Value→Shared→Prop} {s:Shared} {pos:Pos} {env:Env} {id:String} {first:List Value} {x:Expr} {xs:List Expr} (hx:∀ y ∈ x :: xs,Z1j y) {Q:Value→Shared→Prop}
  (h:wpAny M A (spliced (backTo pos (starEach (x :: xs) env))) (fun vs s₁=>wpAny M A (call (.builtin id) (first++vs)) Q E s₁) E s) :
  wpAny M A (callWith pos (.builtin id) first (backTo pos (starEach (x :: xs) env)) []) Q E s :=
 callWith_builtin (Z6f hx) (Z2Z (hx x (List.mem_cons_self ..)) h)
theorem ZfS {M:Model} {A:Around} {E:Value→Shared→Prop} {s:Shared} {pos:Pos} {env:Env} {T:String} {x:Expr} {xs:List Expr} (hx:∀ y ∈ x :: xs,Z1j y) {Q:Value→Shared→Prop}
  (h:wpAny M A (spliced (backTo pos (starEach (x :: xs) env))) (fun vs s₁=>wpAny M A (call (.type T) vs) Q E s₁) E s) :
  wpAny M A (callWith pos (.type T) [] (backTo pos (starEach (x :: xs) env)) []) Q E s :=
 PyProof.Rows.callWith_type (first:=[]) (Z6f hx) (Z2Z (hx x (List.mem_cons_self ..)) h)
theorem Z1s {α β:Type} {c:Cx} {σ:List O} {μ:List Addr} {s:Shared} {pos:Pos} {x:Expr} {xs:List Expr} {m:R α} {k:α→St→R β} {rel:St→List Addr→Heap→Value→α→Prop} {rel':St→List Addr→Heap→List Value→β→Prop}
  (hx:Z1j x) (h:Sim c (eval x c.env) m rel σ μ s)
  (hk:∀ b st₁ v μ₁ s₁,m = .ok b st₁→rel st₁ μ₁ s₁.heap v b→Inv c st₁ μ₁ s₁.heap→Stp c σ μ s.heap st₁.σ μ₁ s₁.heap→Sim c (spliced (backTo pos (starEach xs c.env)) >>= fun vs=>pure (v :: vs)) (k b st₁) rel' st₁.σ μ₁ s₁) :
  Sim c (spliced (backTo pos (starEach (x :: xs) c.env))) (m.bind k) rel' σ μ s:=by
 rw [hx]
 show Sim c (do
  let v ← eval x c.env
  let here ← (pure [v]:Sem (List Value))
  return here++(← holding here (spliced (backTo pos (starEach xs c.env))))) _ _ _ _ _
 refine Sim.bind h fun b st₁ v μ₁ s₁ e r I₁ S₁=>?_
 have:=hk b st₁ v μ₁ s₁ e r I₁ S₁
 refine Sim.imp (fun Q q=>?_) this
 show wpAny _ _ (holding [v] (spliced (backTo pos (starEach xs c.env))) >>= fun vs=>pure ([v]++vs)) Q _ _
 exact fun Γ p hΓ=>by
  have:=q Γ p hΓ
  rw [Sem.wp_bind'] at this ⊢
  rw [Sem.wp_holding]
  exact this
theorem Z1R {y:Expr} {x:Expr} (h:Z1j x) (hy:y ∈ [x]):Z1j y:=List.mem_singleton.mp hy ▸ h
theorem Z6g {α:Type} (m:R α):m = m.bind fun y st=>.ok y st:=by cases m <;> rfl
theorem Z2r {α β:Type} (m:R α) (k:α→St→R β):m.bind k = (m.bind fun y st=>.ok y st).bind k:=congrArg (fun m=>R.bind m k) (Z6g m)
theorem Z30 {β:Type} {c:Cx} {σ:List O} {μ:List Addr} {s:Shared} {pos:Pos} {x:Expr} {m:R β} {rel:St→List Addr→Heap→Value→β→Prop} (hx:Z1j x) (h:Sim c (eval x c.env) m rel σ μ s) :
  Sim c (spliced (backTo pos (starEach [x] c.env))) (m.bind fun y st=>.ok y st) (fun st μ h vs y=>∃ u,vs = [u]∧rel st μ h u y) σ μ s :=
 Z1s hx h fun y st₂ u μ₂ s₂ _ ry I₂ S₂=>Sim.leaf I₂ (wpAny_bind (wpAny_items_nil (wpAny_pure ⟨.refl,.refl,u,rfl,ry⟩)))
theorem Sim.name {β:Type} {c:Cx} {g:Gm} {st:St} {μ:List Addr} {s:Shared} {x:String} {pos:Pos} {v:Value} {f:Value→Sem Value} {m:R β} {rel:St→List Addr→Heap→Value→β→Prop} (hg:Good W c g) (I:Inv c st μ s.heap) (hx:g.gl (Str.ofString x) = true)
  (hm:x ∈ (["isinstance","len","int","bool","list","tuple","str","range","enumerate","zip","set","sorted","min","max"]:List String)) (hv:bootBuiltins (Str.ofString x) = some v) (h:Sim c (f v) m rel st.σ μ s):Sim c (eval (.Name (Str.ofString x) pos) c.env >>= f) m rel st.σ μ s :=
 Sim.imp (fun Q h=>wpAny_bind (Z3w hg I hx hm hv h)) h
theorem Z6h {a:Ex} {t:Ty} (ha:EOk W a):EOk W (.isin a t):=fun g p c st μ s hk hg I=>by
 have hty:bootBuiltins (Str.ofString (tyN t)) = some (.type (tyN t))∧tyN t ∈ (["isinstance","len","int","bool","list","tuple","str","range","enumerate","zip","set","sorted","min","max"]:List String):=by
  cases t
  ·exact ⟨Z9B,by decide⟩
  ·exact ⟨Zby,by decide⟩
  ·exact ⟨Z7o,by decide⟩
  ·exact ⟨Z5t,by decide⟩
  ·exact ⟨Zdu,by decide⟩
 refine Sim.of_eq (arm_eval_Call_Name' ..) (Sim.name hg I (and2 (and2 hk).1).1 (by decide) Z4g (Sim.of_m (Z2r ..) ?_))
 refine Sim.via (rel:=fun st μ h vs y=>∃ u,vs = [u,.type (tyN t)]∧RepV (Tr st.σ μ) μ h u y) (f:=fun vs=>call (.builtin "isinstance") vs) (fun Q h=>Zbz (first:=[]) (fun y hy=>?_) h)
  (Z1s (Z0m a _) (ha g _ c st μ s (and2 hk).2 hg I) fun y st₂ u μ₂ s₂ _ ry I₂ S₂=>Sim.leaf I₂ (wpAny_bind (wpAny_items_cons (Z3w hg I₂ (and2 (and2 hk).1).2 hty.2 hty.1 (wpAny_items_nil (wpAny_pure ⟨.refl,.refl,u,rfl,ry⟩))))))
  fun y st₂ vs μ₂ s₂ _ hu I₂ S₂=>El.x1_2 hu fun u e ry=>e ▸ Zdp I₂ ry t
 exact (List.mem_cons.mp hy).elim (fun e=>e ▸ Z0m a _) fun hy=>Z1R (Z8B _ _) hy
theorem Z2s {β δ:Type} {c:Cx} {g:Gm} {st:St} {μ:List Addr} {s:Shared} {x:Expr} {p pos:Pos} {fn:String} {fv:Value} {rel:St→List Addr→Heap→Value→β→Prop} {rel':St→List Addr→Heap→Value→δ→Prop} {m:R β} {k:β→St→R δ}
  (hfv:(∃ b,fv = .builtin b) ∨ ∃ T,fv = .type T) (hb:bootBuiltins (Str.ofString fn) = some fv) (hm:fn ∈ (["isinstance","len","int","bool","list","tuple","str","range","enumerate","zip","set","sorted","min","max"]:List String))
  (hg:Good W c g) (I:Inv c st μ s.heap) (h1:g.gl (Str.ofString fn) = true) (hx:Z1j x) (ha:Sim c (eval x c.env) m rel st.σ μ s)
  (hk:∀ b st₁ u μ₁ s₁,rel st₁ μ₁ s₁.heap u b→Inv c st₁ μ₁ s₁.heap→Sim c (call fv [u]) (k b st₁) rel' st₁.σ μ₁ s₁) :
  Sim c (eval (.Call (.Name (Str.ofString fn) p) [x] [] pos) c.env) (m.bind k) rel' st.σ μ s:=by
 refine Sim.of_eq (arm_eval_Call_Name' ..) (Sim.name hg I h1 hm hb (Sim.of_m (Z2r ..) (Sim.via (f:=fun vs=>call fv vs) (fun Q h=>?_) (Z30 (pos:=pos) hx ha) fun y st₂ vs μ₂ s₂ _ hu I₂ S₂=>El.x1_2 hu fun u e ry=>e ▸ hk y st₂ u μ₂ s₂ ry I₂)))
 rcases hfv with ⟨b,rfl⟩ | ⟨T,rfl⟩
 ·exact Zbz (first:=[]) (fun y=>Z1R hx) h
 ·exact ZfS (fun y=>Z1R hx) h
theorem Z7q {δ:Type} {a b:Ex} {c:Cx} {g:Gm} {st:St} {μ:List Addr} {s:Shared} {p pos:Pos} {q1 q2:Expr} {fn:String} {fv:Value} {rel':St→List Addr→Heap→Value→δ→Prop} {k:V→V→St→R δ}
  (hfv:(∃ b,fv = .builtin b) ∨ ∃ T,fv = .type T) (hb:bootBuiltins (Str.ofString fn) = some fv) (hm:fn ∈ (["isinstance","len","int","bool","list","tuple","str","range","enumerate","zip","set","sorted","min","max"]:List String))
  (hg:Good W c g) (I:Inv c st μ s.heap) (h1:g.gl (Str.ofString fn) = true) (ha:EOk W a) (hb':EOk W b) (k1:okE g a q1 = true) (k2:okE g b q2 = true)
  (hk:∀ x y st₁ u v μ₁ s₁,RepV (Tr st₁.σ μ₁) μ₁ s₁.heap u x→RepV (Tr st₁.σ μ₁) μ₁ s₁.heap v y→Inv c st₁ μ₁ s₁.heap→Stp c st.σ μ s.heap st₁.σ μ₁ s₁.heap→Sim c (call fv [u,v]) (k x y st₁) rel' st₁.σ μ₁ s₁) :
  Sim c (eval (.Call (.Name (Str.ofString fn) p) [pE a q1,pE b q2] [] pos) c.env) ((evE W.F a st).bind fun x st=>(evE W.F b st).bind fun y st=>k x y st) rel' st.σ μ s:=by
 refine Sim.of_eq (arm_eval_Call_Name' ..) (Sim.name hg I h1 hm hb ?_)
 refine Sim.of_m (m':=((evE W.F a st).bind fun x st=>(evE W.F b st).bind fun y st=>.ok (x,y) st).bind fun q st=>k q.1 q.2 st) ((R.bind_assoc (evE W.F a st) _ _).trans (Z19 _ fun x st=>R.bind_assoc (evE W.F b st) (fun y st=>R.ok (x,y) st) (fun q st=>k q.1 q.2 st))).symm ?_
 refine Sim.via (rel:=fun st μ h vs q=>∃ u v,vs = [u,v]∧RepV (Tr st.σ μ) μ h u q.1∧RepV (Tr st.σ μ) μ h v q.2) (f:=fun vs=>call fv vs) (fun Q h=>?_)
  (Z1s (pos:=pos) (xs:=[pE b q2]) (Z0m a _) (ha g _ c st μ s k1 hg I) fun x st₁ u μ₁ s₁ _ rx I₁ S₁=>?_) fun q st₂ vs μ₂ s₂ _ hu I₂ S₂=>El.x2_3 hu fun u v e ru rv=>e ▸ hk _ _ st₂ u v μ₂ s₂ ru rv I₂ S₂
 ·rcases hfv with ⟨b',rfl⟩ | ⟨T,rfl⟩
  ·exact Zbz (first:=[]) (fun z hz=>(List.mem_cons.mp hz).elim (fun e=>e ▸ Z0m a _) fun hz=>Z1R (Z0m b _) hz) h
  ·exact ZfS (fun z hz=>(List.mem_cons.mp hz).elim (fun e=>e ▸ Z0m a _) fun hz=>Z1R (Z0m b _) hz) h
 ·refine Sim.of_m (m':=((evE W.F b st₁).bind fun y st=>.ok y st).bind fun y st=>.ok (x,y) st) (congrArg (fun m=>R.bind m _) (Z6g (evE W.F b st₁))) ?_
  exact Sim.bind (Z30 (pos:=pos) (Z0m b _) (hb' g _ c st₁ μ₁ s₁ k2 hg I₁)) fun y st₂ vs μ₂ s₂ _ hu I₂ S₂=>El.x1_2 hu fun v e ry=>Sim.pure I₂ ⟨u,v,by rw [e],RepV.step I₁ S₂ rx,ry⟩
theorem Zdw:bootBuiltins (Str.ofString "set") = some (.type "set"):=by decide +kernel
theorem Z8C:bootBuiltins (Str.ofString "sorted") = some (.builtin "sorted"):=by decide +kernel
theorem Z9D:bootBuiltins (Str.ofString "min") = some (.builtin "min"):=by decide +kernel
theorem Zdx:bootBuiltins (Str.ofString "max") = some (.builtin "max"):=by decide +kernel
theorem Zdy (f:Bi):bootBuiltins (Str.ofString (Zbu f)) = some (biV f):=by
 cases f
 ·exact Z9A
 ·exact Z9B
 ·exact Z7o
 ·exact Z5t
 ·exact Z8C
 ·exact Zdx
theorem ZbA {a:Ex} {f:Bi} (ha:EOk W a):EOk W (.bi f a):=fun g p c st μ s hk hg I=>
 Z2s (by cases f <;> first | exact .inl ⟨_,rfl⟩ | exact .inr ⟨_,rfl⟩) (Zdy f) (by cases f <;> decide) hg I (and2 hk).1 (Z0m a _) (ha g _ c st μ s (and2 hk).2 hg I) fun x st₁ u μ₁ s₁ rx I₁=>Zh9 hg.ok I₁ rx f
theorem Z31 {o:Expr}:Zds o = true→∀ (name:Str) (env:Env) (whole:Sem Value),attributeBase o name env whole = whole:=by
 cases o <;> first | exact fun _ _ _ _=>rfl | exact fun h=>absurd h Bool.false_ne_true
theorem Z5v (vs:Array Value):(vs.eraseIdxIfInBounds (vs.size - 1)).toList = vs.toList.dropLast:=by
 unfold Array.eraseIdxIfInBounds
 split
 ·rw [Array.toList_eraseIdx,← Array.length_toList,List.eraseIdx_length_sub_one]
 ·have:vs.size = 0:=by omega
  have:vs = #[]:=by simpa using this
  subst this; rfl
theorem RepVs.dropLast {T:Addr→Prop} {μ:List Addr} {h:Heap} {vs:List Value} {xs:List V} (r:RepVs T μ h vs xs):RepVs T μ h vs.dropLast xs.dropLast:=by
 rw [List.dropLast_eq_take,List.dropLast_eq_take,r.length]
 exact r.take _
theorem Z9E {b:Bool} {o:Expr} {env:Env} {apos pos:Pos} (h:(apos.endLine == pos.line) = true):methodCallPos true o env apos pos = pure pos:=by
 have h:=eq_of_beq h
 unfold methodCallPos; simp [h]
theorem Sim.ok {α β:Type} {c:Cx} {t:Sem α} {m:R β} {rel:St→List Addr→Heap→α→β→Prop} {σ:List O} {μ:List Addr} {s:Shared} (h:∀ b st',m = .ok b st'→Sim c t (.ok b st') rel σ μ s):Sim c t m rel σ μ s:=by
 cases m with
 | stuck=>trivial
 | exc x st=>trivial
 | ok b st'=>exact h b st' rfl
theorem Z8D {a:Ex} (ha:EOk W a):EOk W (.pop a):=fun g p c st μ s hk hg I=>by
 refine Sim.of_eq (arm_eval_Call ..) (Sim.of_eq (congrArg (fun t=>t >>= _) (Z31 (and2 (and2 hk).1).2 ..)) (Sim.one ha (and2 hk).2 hg I fun x u st μ s rx I=>Sim.at (Sim.ok fun y st' h=>?_)))
 refine El.x2_4 (Zd9 h) fun k xs e1 hn hy e2=>?_
 subst e1; subst e2
 refine El.x2_4 (I.ref_inv rx hn) fun a' vs e3 q hz r=>?_
 subst e3
 refine El.x1_1 q fun k' ho=>?_
 have el:=r.length
 rw [Array.length_toList] at el
 rw [List.getLast?_eq_getElem?] at hy
 refine El.x1_2 (r.get hy) fun v hv ry=>?_
 rw [Array.getElem?_toList,← el] at hv
 have hob:(s.heap.update a' (Obj.mapSeq fun xs=>xs.eraseIdxIfInBounds (vs.size - 1))).get? a' = some { cls:=.type "list",data:=.seq (vs.eraseIdxIfInBounds (vs.size - 1)) _ }:=IsL.update ho _
 refine El.x0_2 (I.updL (xs':=xs.dropLast) hn rx.refA (Heap.SameBut.update ..) hob (by rw [← Array.length_toList,Z5v,List.length_dropLast,Array.length_toList]; omega) (by rw [Z5v]; exact r.dropLast)) fun I' S'=>?_
 unfold methodCall
 exact wpAny_bind (wpAny_holding (getMethod_builtin (T:="list") ⟨_,ho,rfl⟩ PySem.F.plainAttrs_list PySem.F.slot_list_pop PySem.F.type_list_pop (fun a h=>by cases h; exact ⟨_,ho,rfl⟩)
  (wpAny_bind (wpAny_of_eq (Z9E (b:=true) (and2 (and2 hk).1).1) (P.pop_list ho hv ⟨μ,ry.step (st':=⟨st.ρ,st.σ.set k (.lst xs.dropLast)⟩) I S',I',S',.refl⟩ hz)))))
theorem Zdz {σ:List O} {k:Nat} (h:Z3q σ .append (.ref k) = true):∃ xs,σ[k]? = some (.lst xs):=by
 have h:(match σ[k]? with | some (.lst _)=>true | _=>false) = true:=h
 cases hk:σ[k]? with
 | none=>rw [hk] at h; cases h
 | some o=>rw [hk] at h; cases o <;> first | exact ⟨_,rfl⟩ | cases h
theorem ZbB {m:Me} {a b:Ex} (ha:EOk W a) (hb:EOk W b):EOk W (.me m a b):=fun g p c st μ s hk hg I=>by
 refine Sim.of_eq (arm_eval_Call ..) (Sim.of_eq (congrArg (fun t=>t >>= _) (Z31 (and2 (and2 hk).1).2 ..)) (Sim.one ha (and2 (and2 hk).2).1 hg I fun x u st₁ μ₁ s₁ rx I₁=>Sim.at (Sim.ite fun hr=>?_)))
 have meth:∀ {T id:String},PlainAttrs T→PySem.Slot T (Str.ofString (Zbt m)) id→typeOf (.builtin id) = pure (.type "method_descriptor")→s₁.TypeIs u T→(∀ a,u = .ref a→∃ ob,s₁.heap.get? a = some ob∧ob.dict = none)→id = meN m →
   Sim c (methodCall (pE a (kid (kid p 0) 0)) (Str.ofString (Zbt m)) (kid p 0).pos p.pos c.env u ([pE b (kid p 1)].length + ([]:List Keyword).length) (backTo p.pos (starEach [pE b (kid p 1)] c.env)) (backToKw p.pos (keywordEach [] c.env))) ((evE W.F b st₁).bind fun y st=>Z1H m x y st) rV st₁.σ μ₁ s₁:=by
  rintro T id pa slot hty hT hd rfl
  refine Sim.of_m (Z2r ..) (Sim.via (f:=fun vs=>call (.builtin (meN m)) ([u]++vs)) (fun Q h=>?_) (Z30 (pos:=p.pos) (Z0m b _) (hb g _ c st₁ μ₁ s₁ (and2 (and2 hk).2).2 hg I₁)) fun y st₂ vs μ₂ s₂ _ hu I₂ S₂=>El.x1_2 hu fun v e ry=>e ▸ ZeS I₂ (RepV.step I₁ S₂ rx) ry m)
  have hform:methodCallForm ([pE b (kid p 1)].length + ([]:List Keyword).length) (backTo p.pos (starEach [pE b (kid p 1)] c.env)) (backToKw p.pos (keywordEach [] c.env)) = true:=by rw [Z0m]; rfl
  unfold methodCall
  rw [hform]
  exact wpAny_bind (wpAny_holding (getMethod_builtin hT pa slot hty hd (wpAny_bind (wpAny_of_eq (Z9E (b:=true) (and2 (and2 hk).1).1) (Zbz (first:=[u]) (fun y=>Z1R (Z0m b _)) h)))))
 cases m with
 | append=>
  cases x with
  | ref k=>
   refine El.x1_1 (Zdz hr) fun xs hn=>?_
   refine El.x2_4 (I₁.ref_inv rx hn) fun a' vs e q hz r=>?_
   subst e
   refine El.x1_1 q fun k' ho=>?_
   exact meth PySem.F.plainAttrs_list PySem.F.slot_list_append PySem.F.type_list_append ⟨_,ho,rfl⟩ (fun a h=>by cases h; exact ⟨_,ho,rfl⟩) rfl
  | _=>exact absurd hr Bool.false_ne_true
 | join=>
  cases x with
  | str l=>exact El.x2_4 (RepV.str_inv rx) fun z t e _ _ _=>by subst e; exact meth PySem.F.plainAttrs_str PySem.F.slot_str_join PySem.F.type_str_join (typeIs_str _ _ _) (fun a h=>nomatch h) rfl
  | _=>exact absurd hr Bool.false_ne_true
theorem ZdA {es:Exs} (he:EsOk W es) {g:Gm} {ps:List Expr} {c:Cx} {st:St} {μ:List Addr} {s:Shared} {pos:Pos} {f:Value} (hk:okEs g es ps = true) (hg:Good W c g) (I:Inv c st μ s.heap) :
  Sim c (evalArgs f true (backTo pos (starEach (pEs es ps) c.env)) []) (evEs W.F es st) (fun st μ h (x:Args) ys=>x.kw = []∧RepVs (Tr st.σ μ) μ h x.pos ys) st.σ μ s:=by
 cases es with
 | nil=>exact Sim.leaf I (PySem.evalArgs_none ⟨.refl,.refl,rfl,.nil⟩)
 | cons e es=>
  have:=he g ps c st μ s pos hk hg I
  refine Sim.ok fun xs st₁ hE=>?_
  rw [hE] at this
  exact wpAny_mono (Z2Z (f:=f) (Q:=fun x s'=>∃ μ',RepVs (Tr st₁.σ μ') μ' s'.heap x.pos xs∧x.kw = []∧Inv c st₁ μ' s'.heap∧Stp c st.σ μ s.heap st₁.σ μ' s'.heap∧Same s s') (Z0m e _)
   (wpAny_mono this (fun vs s' q8=>El.x1_4 q8 fun μ' g1 g2 g3 g4=>⟨μ',g1,rfl,g2,g3,g4⟩) fun _ _ e=>e)) (fun x s' q8=>El.x1_5 q8 fun μ' g1 g2 g3 g4 g5=>⟨μ',⟨g2,g1⟩,g3,g4,g5⟩) fun _ _ e=>e
theorem Z6i {f:Str} {es:Exs} (he:EsOk W es):EOk W (.call f es):=fun g p c st μ s hk hg I=>by
 refine Sim.of_eq (arm_eval_Call_Name' ..) (Sim.ok fun r stF h=>?_)
 refine El.x2_2 (R.bind_inv h) fun xs st₁ hE h=>?_
 have h:Z5f (W.F f xs st₁.σ) st₁.ρ = .ok r stF:=h
 cases hC:W.F f xs st₁.σ with
 | stuck=>rw [hC] at h; cases h
 | exc _ _=>rw [hC] at h; cases h
 | ok r' st₂=>
  rw [hC] at h
  cases h
  refine El.x3_4 (hg.fn.fn f xs st₁.σ r st₂ hC (and2 (and2 hk).1).1) fun fa fo fd k1 k2 k3 hcall=>?_
  refine wpAny_bind (Z2e hg I (and2 (and2 hk).1).2 k1 ?_)
  have hargs:=ZdA (f:=.ref fa) (pos:=p.pos) he (and2 hk).2 hg I
  rw [hE] at hargs
  refine callWith_function_kw (o:=fo) (fd:=fd) (wpAny_mono hargs (fun x s₁ ⟨μ₁,⟨g1,g2⟩,g3,g4,g5⟩=>⟨⟨g3.base _ _ k2,k3⟩,?_⟩) fun _ _ e=>e.elim)
  rw [g1,List.nil_append]
  refine wpAny_mono (hcall c μ₁ s₁ x.pos rfl rfl rfl hg.a g3.bare g2) (fun v s₂ q8=>El.x1_4 q8 fun μ₂ q1 q2 q3 q4=>?_) fun _ _ e=>e
  exact El.x0_2 (g3.back q2 q3) fun I₂ S₂=>⟨μ₂,q1,I₂,g4.trans S₂,g5.trans q4⟩
theorem Z6j {x:Str} {i:Int}:EOk W (.glob x i):=fun g p c st μ s hk hg I=>
 El.x1_1 (hg.gs _ _ (of_decide_eq_true (and2 hk).2)) fun t ht=>Sim.leaf I (Z2e hg I (and2 hk).1 ht ⟨.refl,.refl,.int i t⟩)
end
noncomputable def rFl (st:St) (μ:List Addr) (h:Heap) (f:Flow) (x:Fl):Prop :=
 match f,x with
 | .next,.next=>True
 | .brk,.brk=>True
 | .cont,.cont=>True
 | .ret v,.ret y=>RepV (Tr st.σ μ) μ h v y
 | _,_=>False
noncomputable def rU {α:Type} (_:St) (_:List Addr) (_:Heap) (_:α) (_:Unit):Prop:=True
theorem Inv.store {c:Cx} {st:St} {μ:List Addr} {h h':Heap} (I:Inv c st μ h) {i:Nat} {s:Slot} {v:Value} {y:V} (ap:∀ i j s,c.sl i = some s→c.sl j = some s→i = j) (hs:c.sl i = some s)
  (hb:Heap.SameBut s.own h h') (hv:s.Holds h' v) (ho:∀ t:Slot,t ≠ s→t.own = s.own→(t.Ok h→t.Ok h')∧∀ u,t.Holds h u→t.Holds h' u) (r:RepV (Tr st.σ μ) μ h v y) :
  Inv c (setV st i y) μ h'∧Stp c st.σ μ h st.σ μ h':=by
 have own:Own c s.own:=⟨i,s,hs,rfl⟩
 have S:Stp c st.σ μ h st.σ μ h':=⟨Nat.le_of_eq hb.1.symm,fun b o e hO _=>(hb.2 b fun (k:b = s.own)=>hO (k ▸ own)).trans e,fun _ _ q=>q,fun _ q=>.inl q,fun _ q=>.inl q,fun _ q=>q,fun n a o _ e2 e3=>(hb.2 a fun (k:a = s.own)=>I.sep _ own (k ▸ List.mem_of_getElem? e2)).trans e3⟩
 have mv:∀ {v:Value} {x:V},RepV (Tr st.σ μ) μ h v x→RepV (Tr st.σ μ) μ h' v x:=fun r=>r.step (st':=st) I S
 have mvs:∀ {v:List Value} {x:List V},RepVs (Tr st.σ μ) μ h v x→RepVs (Tr st.σ μ) μ h' v x:=fun r=>r.step (st':=st) I S
 have okS:s.Ok h':=by
  cases s with
  | d D n=>obtain ⟨m,hm,_⟩:=hv; exact ⟨m,hm⟩
  | c a=>exact ⟨_,hv⟩
 refine ⟨⟨fun j x q=>?_,fun j t q=>?_,fun k o q=>?_,I.len,I.nd,fun a q=>by rw [hb.1]; exact I.lt a q,fun b o q=>?_,I.baseS,I.baseM,I.sep,I.kd⟩,S⟩
 ·simp only [setV] at q ⊢
  by_cases hj:i = j
  ·try clear hm; try clear m; try clear S
   subst hj
   have hlt:i < st.ρ.length:=by have:=(List.getElem?_eq_some_iff.mp q).1; simpa using this
   have e4:y = x:=by simpa [hlt] using q
   try clear hlt
   subst e4
   exact ⟨s,v,hs,hv,mv r⟩
  ·rw [List.getElem?_set_ne hj] at q
   refine El.x2_3 (I.vars j x q) fun t u g1 g2 g3=>?_
   have hts:t ≠ s:=fun e=>hj (ap i j s hs (e ▸ g1))
   refine ⟨t,u,g1,?_,mv g3⟩
   by_cases ho':t.own = s.own
   ·exact (ho t hts ho').2 u g2
   ·exact g2.keeps fun o e=>(hb.2 _ ho').trans e
 ·by_cases hts:t = s
  ·try clear g3; try clear g2; try clear g1; try clear u; try clear e4; try clear x; try clear mv
   subst hts; exact okS
  ·by_cases ho':t.own = s.own
   ·exact (ho t hts ho').1 (I.slots j t q)
   ·exact (I.slots j t q).keeps fun o e=>(hb.2 _ ho').trans e
 ·refine El.x1_2 (I.objs k o q) fun a ha ro=>?_
  have hne:a ≠ s.own:=fun e=>I.sep _ own (e ▸ List.mem_of_getElem? ha)
  refine ⟨a,ha,?_⟩
  exact ro.map (fun _ ho=>((hb.2 a hne).trans ho)) fun _ _ r=>(mvs r)
 ·refine (hb.2 b fun k=>?_).trans (I.base b o q)
  have:=I.baseS s.own own
  rw [k,this] at q; cases q
theorem Z1k {c:Cx} {g:Gm} {st:St} {μ:List Addr} {s:Shared} {x:Str} {i:Nat} {v:Value} {y:V} (N:Nm c g) (hl:g.lv x i = true) (I:Inv c st μ s.heap) (r:RepV (Tr st.σ μ) μ s.heap v y) :
  Sim c (storeName c.env x v) (.ok () (setV st i y)) rU st.σ μ s:=by
 refine El.x0_2 (Zbv hl) fun h1 h2=>?_
 have hk:c.env.scope.kind = .function:=by rw [N.sc]; exact N.kind
 rcases N.var x i h1 with ⟨k1,k2⟩ | ⟨k1,a,k2,k3⟩
 ·refine El.x1_1 (I.slots i _ k2) fun m hm=>?_
  refine wpAny_storeName_local (by unfold Env.kindOf; rw [N.sc]; exact k1) hm (fun h' hn hs=>?_) (by rw [hk]; rfl)
  have side:∀ t:Slot,t ≠ .d c.env.locals x→t.own = (Slot.d c.env.locals x).own→(t.Ok s.heap→t.Ok h')∧∀ u,t.Holds s.heap u→t.Holds h' u:=by
   intro t ht ho
   try clear h2; try clear h1
   cases t with
   | c b=>
    constructor
    ·intro q0z
     refine El.x2_2 q0z fun u o ho' hd=>?_
     refine El.x3_3 hm fun o2 es ep ho2 hd2 _=>?_
     have e:b = c.env.locals:=ho
     try clear q0z
     subst e
     obtain rfl:=Option.some.inj (ho'.symm.trans ho2)
     rw [hd] at hd2; cases hd2
    ·intro u q1z
     refine El.x1_2 q1z fun o ho' hd=>?_
     refine El.x3_3 hm fun o2 es ep ho2 hd2 _=>?_
     have e:b = c.env.locals:=ho
     try clear q1z
     subst e
     obtain rfl:=Option.some.inj (ho'.symm.trans ho2)
     rw [hd] at hd2; cases hd2
   | d D n=>
    have e:D = c.env.locals:=ho
    subst e
    have hne:n ≠ x:=fun e=>ht (by rw [e])
    refine ⟨fun _=>⟨_,hn⟩,?_⟩
    intro u q2z
    refine El.x1_2 q2z fun m' hm' e'=>?_
    refine ⟨_,hn,?_⟩
    rw [if_neg hne]
    refine El.x3_4 hm fun o2 es ep ho2 hd2 _ q2=>?_
    refine El.x3_4 hm' fun o3 es3 ep3 ho3 hd3 _ q3=>?_
    try clear ep3; try clear es3; try clear o3; try clear hm'; try clear m'; try clear q2z; try clear hne; try clear hm
    obtain rfl:=Option.some.inj (ho2.symm.trans ho3)
    rw [hd2] at hd3
    try clear ho3
    cases hd3
    rw [← q2,q3,e']
  refine El.x0_2 (I.store N.apart k2 hs (v:=v) (y:=y) ⟨_,hn,by simp⟩ side r) fun I' S=>?_
  exact ⟨μ,trivial,I',S,.refl⟩
 ·refine El.x1_1 (I.slots i _ k3) fun u hu=>?_
  refine wpAny_storeName_cell hk (by unfold Env.kindOf; rw [N.sc]; exact k1) k2 hu fun h' hc hs=>?_
  have side:∀ t:Slot,t ≠ .c a→t.own = (Slot.c a).own→(t.Ok s.heap→t.Ok h')∧∀ u,t.Holds s.heap u→t.Holds h' u:=by
   intro t ht ho
   try clear q3; try clear hd3; try clear q2; try clear e'; try clear u; try clear hn; try clear h'; try clear hk
   cases t with
   | c b=>exact (ht (by rw [show b = a from ho])).elim
   | d D n=>
    have e:D = a:=ho
    try clear ho; try clear ht; try clear t
    subst e
    constructor
    ·intro q3z
     refine El.x4_3 q3z fun m o2 es ep ho2 hd2 _=>?_
     refine El.x1_2 hu fun o ho' hd=>?_
     try clear q3z; try clear e
     obtain rfl:=Option.some.inj (ho'.symm.trans ho2)
     rw [hd] at hd2; cases hd2
    ·intro w q4z
     refine El.x1_2 q4z fun m q5z _=>?_
     refine El.x3_3 q5z fun o2 es ep ho2 hd2 _=>?_
     refine El.x1_2 hu fun o ho' hd=>?_
     try clear q5z; try clear q4z; try clear w; try clear hu; try clear ep; try clear es; try clear o2; try clear o; try clear m
     obtain rfl:=Option.some.inj (ho'.symm.trans ho2)
     rw [hd] at hd2; cases hd2
  refine El.x0_2 (I.store N.apart k3 hs (v:=v) (y:=y) hc side r) fun I' S=>?_
  exact ⟨μ,trivial,I',S,.refl⟩
noncomputable def SOk (W:Wo) (K:Nat) (e:Sm):Prop:=∀ (g:Gm) (p:Stmt) (c:Cx) (st:St) (μ:List Addr) (s:Shared),okS g e p = true→Good W c g→Inv c st μ s.heap→Sim c (exec (pS e p) c.env) (evS W.F K e st) rFl st.σ μ s
noncomputable def SsOk (W:Wo) (K:Nat) (e:Sms):Prop:=∀ (g:Gm) (p:List Stmt) (c:Cx) (st:St) (μ:List Addr) (s:Shared),okSs g e p = true→Good W c g→Inv c st μ s.heap→Sim c (execs (pSs e p) c.env) (evSs W.F K e st) rFl st.σ μ s
@[elab_as_elim] theorem rFl_elim {P:Flow→Fl→Prop} {st:St} {μ:List Addr} {h:Heap} {f:Flow} {x:Fl} (r:rFl st μ h f x) (h1:P .next .next) (h2:P .brk .brk) (h3:P .cont .cont) (h4:∀ v y,RepV (Tr st.σ μ) μ h v y→P (.ret v) (.ret y)):P f x:=by
 cases f <;> cases x <;> first | exact h1 | exact h2 | exact h3 | exact h4 _ _ r | exact False.elim r
section
variable {W:Wo} {K:Nat}
theorem ZdB:SsOk W K .nil:=fun _ _ _ _ _ _ _ _ I=>Sim.pure I trivial
theorem ZbC {x:Sm} {xs:Sms} (hx:SOk W K x) (hxs:SsOk W K xs):SsOk W K (.cons x xs):=fun g p c st μ s hk hg I=>
 Sim.of_eq (execs_cons ..) (Sim.bind (hx g _ c st μ s (and2 hk).1 hg I) fun fl st₁ f μ₁ s₁ _ rf I₁ S₁=>
  rFl_elim (P:=fun f fl=>Sim c (match f with | .next=>execs (pSs xs p.tail) c.env | f=>pure f) (match fl with | .next=>evSs W.F K xs st₁ | f=>.ok f st₁) rFl st₁.σ μ₁ s₁) rf (hxs g _ c st₁ μ₁ s₁ (and2 hk).2 hg I₁) (Sim.pure I₁ trivial) (Sim.pure I₁ trivial) fun v y r=>Sim.pure I₁ r)
theorem ZfT:SOk W K .brk:=fun _ _ _ _ _ _ _ _ I=>Sim.leaf I (wpAny_Break ⟨.refl,.refl,trivial⟩)
theorem ZfU {e:Ex} (he:EOk W e):SOk W K (.ret e):=fun g p c st μ s hk hg I=>Sim.of_eq (exec_Return_some ..) (Sim.at (Sim.one he hk hg I fun x u st μ s rx I=>Sim.pure I rx))
theorem ZdC {d:Ex} {a b:Sms} (hd:IOk W d) (ha:SsOk W K a) (hb:SsOk W K b):SOk W K (.ifte d a b):=fun g p c st μ s hk hg I=>
 Sim.of_eq (exec_If ..) (Sim.at (Sim.eq (hd.2 g _ c st μ s (and2 hk).1 hg I) fun t st₁ μ₁ s₁ _ I₁ _=>Sim.cond (fun _=>ha g _ c st₁ μ₁ s₁ (and2 (and2 hk).2).1 hg I₁) fun _=>hb g _ c st₁ μ₁ s₁ (and2 (and2 hk).2).2 hg I₁))
theorem Z5i {c:Cx} {g:Gm} (N:Nm c g):interactive c.env = false:=by
 unfold interactive
 rw [N.sc,N.kind]; rfl
theorem ZdD {x:Expr}:Z3v x.ctorIdx = true→(!(x.ctorIdx == 8)) = true→∀ {env:Env} {t:Option Expr} {l:Nat},swapsWith x t l env = pure false:=by
 cases x <;> first | exact fun _ _ _ _ _=>rfl | exact fun h=>absurd h Bool.false_ne_true | exact fun _ h=>absurd h Bool.false_ne_true
theorem Z3O {e:Ex} (h:(!isC e) = true) {p:Expr} {env:Env} {t:Option Expr} {l:Nat}:swapsWith (pE e p) t l env = pure false:=by
 have q:=Zhb e p
 rw [Bool.not_eq_true'] at h
 rw [h] at q
 exact ZdD (Z2d e p) q
theorem ZdE {e:Ex} (he:EOk W e):SOk W K (.expr e):=fun g p c st μ s hk hg I=>
 Sim.of_eq (exec_Expr _ _ _ (Z5i hg.nm) (Z3O (and2 hk).1)) (Sim.at (Sim.one he (and2 hk).2 hg I fun x u st μ s rx I=>Sim.leaf I (wpAny_dropValue ⟨.refl,.refl,trivial⟩)))
theorem Z9F {i:Nat} {e:Ex} (he:EOk W e) (g:Gm) (p:Stmt) (c:Cx) (st:St) (μ:List Addr) (s:Shared) (hk:okS g (.asg i e) p = true) (hs:swapsWith (pE e (skid p 0)) (some (.Name (nmOf (skid p 1)) (skid p 1).pos)) p.pos.line c.env = pure false) (hg:Good W c g) (I:Inv c st μ s.heap) :
  Sim c (exec (pS (.asg i e) p) c.env) (evS W.F K (.asg i e) st) rFl st.σ μ s :=
 Sim.of_eq (exec_Assign_Name _ _ _ _ _ hs) (Sim.at (Sim.one he (and2 hk).2 hg I fun y u st₁ μ₁ s₁ rx I₁=>Sim.at (Sim.of_m (m':=(R.ok () (setV st₁ i y)).bind fun _ st=>R.ok .next st) rfl
  (Sim.bind (Sim.imp (fun Q h=>wpAny_bindName h) (Z1k hg.nm (and2 hk).1 I₁ rx)) fun _ st₂ _ μ₂ s₂ he _ I₂ S₂=>by cases he; exact Sim.pure I₂ trivial))))
theorem ZfV {F:Fn} {d:Ex} {body:Sms} {k:Nat} {st stF:St} {fl:Fl} (h:Z0U (fun st=>Z0a (evE F d st)) (fun st=>evSs F K body st) (k + 1) st = .ok fl stF) :
  ∃ t st₁,Z0a (evE F d st) = .ok t st₁∧(t = false→fl = .next∧stF = st₁)∧(t = true→∃ f st₂,evSs F K body st₁ = .ok f st₂∧(match f with | .next=>Z0U (fun st=>Z0a (evE F d st)) (fun st=>evSs F K body st) k st₂ | .cont=>Z0U (fun st=>Z0a (evE F d st)) (fun st=>evSs F K body st) k st₂ | .brk=>.ok .next st₂ | .ret v=>.ok (.ret v) st₂) = .ok fl stF):=by
 rw [Z0G] at h
 refine El.x2_2 (R.bind_inv h) fun t st₁ h1 h=>?_
 refine ⟨t,st₁,h1,fun e=>?_,fun e=>?_⟩
 ·subst e; cases h; exact ⟨rfl,rfl⟩
 ·subst e; exact R.bind_inv h
theorem ZfW {d:Ex} {body:Sms} {g:Gm} {p q:Expr} {bd:List Stmt} {pos:Pos} {c:Cx} {fl:Fl} {stF:St} {Q:Flow→Shared→Prop} {X:St→List Addr→Shared→Prop} (hd:∀ st μ (s:Shared),Inv c st μ s.heap→Sim c (isTrue q c.env (eval q c.env)) (Z0a (evE W.F d st)) rEq st.σ μ s)
  (hb:∀ st μ (s:Shared),Inv c st μ s.heap→Sim c (execs bd c.env) (evSs W.F K body st) rFl st.σ μ s) (hX:∀ st μ (s:Shared),X st μ s→Inv c st μ s.heap) (hS:∀ st μ (s:Shared) st' μ' s',X st μ s→Inv c st' μ' s'.heap→Stp c st.σ μ s.heap st'.σ μ' s'.heap→Same s s'→X st' μ' s')
  (hQ:∀ f (s:Shared) μ,rFl stF μ s.heap f fl→X stF μ s→Q f s) {st:St} {μ:List Addr} {s:Shared} (x:X st μ s) (hr:Z0U (fun st=>Z0a (evE W.F d st)) (fun st=>evSs W.F K body st) K st = .ok fl stF) :
  wpAny (model c.prog c.w) c.A (exec (.While q bd [] pos) c.env) Q (fun _ _=>False) s:=by
 obtain ⟨J,hJ⟩:∃ J:Nat→Shared→Prop,∀ k s',J k s'↔∃ st' μ',Z0U (fun st=>Z0a (evE W.F d st)) (fun st=>evSs W.F K body st) k st' = .ok fl stF∧X st' μ' s':=⟨_,fun _ _=>Iff.rfl⟩
 refine wpAny_While (codeAny_whileLoop J (fun k s' hJk=>?_) K ((hJ _ _).mpr ⟨st,μ,hr,x⟩))
 refine El.x2_2 ((hJ k s').mp hJk) fun st' μ' hw x'=>?_
 clear hJk hr x
 cases k with
 | zero=>cases hw
 | succ k=>
  refine El.x2_3 (ZfV hw) fun t st₁ hT hf ht=>?_
  have h1:=hd st' μ' s' (hX _ _ _ x')
  rw [hT] at h1
  refine wpAny_mono h1 (fun t' s₁ q8=>El.x1_4 q8 fun μ₁ (rt:t' = t) I₁ S₁ Q₁=>?_) fun _ _ e=>e.elim
  have x₁:=hS _ _ _ _ _ _ x' I₁ S₁ Q₁
  rw [rt]
  clear hT h1 S₁ Q₁ x' rt q8 hw
  cases t with
  | false=>exact wpAny_execs_nil (hQ _ _ μ₁ ((hf rfl).1 ▸ trivial) ((hf rfl).2 ▸ x₁))
  | true=>
   refine El.x2_2 (ht rfl) fun f st₂ hB hw=>?_
   have h2:=hb st₁ μ₁ s₁ I₁
   rw [hB] at h2
   refine wpAny_mono h2 (fun f' s₂ q8=>El.x1_4 q8 fun μ₂ rf I₂ S₂ Q₂=>?_) fun _ _ e=>e.elim
   have x₂:=hS _ _ _ _ _ _ x₁ I₂ S₂ Q₂
   clear hf ht hB h2 S₂ Q₂ x₁ I₁ I₂ q8
   revert hw
   refine rFl_elim rf (fun hw=>⟨k,Nat.lt_succ_self _,(hJ _ _).mpr ⟨st₂,μ₂,hw,x₂⟩⟩) (fun hw=>?_) (fun hw=>⟨k,Nat.lt_succ_self _,(hJ _ _).mpr ⟨st₂,μ₂,hw,x₂⟩⟩) (fun v y rv hw=>?_)
   ·exact hQ _ _ μ₂ ((R.ok.inj hw).1 ▸ trivial) ((R.ok.inj hw).2 ▸ x₂)
   ·exact hQ _ _ μ₂ (by rw [← (R.ok.inj hw).1,← (R.ok.inj hw).2]; exact rv) ((R.ok.inj hw).2 ▸ x₂)
theorem ZbD {d:Ex} {body:Sms} (hd:IOk W d) (hb:SsOk W K body):SOk W K (.while d body):=fun g p c st μ s hk hg I=>Sim.ok fun fl stF hr=>
 ZfW (g:=g) (p:=skid p 0) (X:=fun st' μ' s'=>Inv c st' μ' s'.heap∧Stp c st.σ μ s.heap st'.σ μ' s'.heap∧Same s s') (fun st μ s I=>hd.2 g _ c st μ s (and2 hk).1 hg I) (fun st μ s I=>hb g _ c st μ s (and2 hk).2 hg I) (fun _ _ _ x=>x.1) (fun _ _ _ _ _ _ x I S Q=>⟨I,x.2.1.trans S,x.2.2.trans Q⟩) (fun f s' μ' r x=>⟨μ',r,x⟩) ⟨I,.refl,.refl⟩ hr
end
structure Kp (σ₀:List O) (μ₀:List Addr) (h₀:Heap) (σ:List O) (μ:List Addr) (h:Heap):Prop where
 size:h₀.objs.size ≤ h.objs.size
 keep:∀ b o,h₀.get? b = some o→Z5Y o→¬ Tr σ₀ μ₀ b→h.get? b = some o
 pre:∀ (n:Nat) (a:Addr),μ₀[n]? = some a→μ[n]? = some a
 tr:∀ b,Tr σ μ b→Tr σ₀ μ₀ b ∨ h₀.objs.size ≤ b
 pv:∀ (n:Nat),σ₀[n]? = some O.priv→σ[n]? = some O.priv
theorem Kp.trans {σ₀ σ₁ σ₂:List O} {μ₀ μ₁ μ₂:List Addr} {h₀ h₁ h₂:Heap} (x:Kp σ₀ μ₀ h₀ σ₁ μ₁ h₁) (y:Kp σ₁ μ₁ h₁ σ₂ μ₂ h₂):Kp σ₀ μ₀ h₀ σ₂ μ₂ h₂ where
 size:=Nat.le_trans x.size y.size
 keep:=fun b o e hd hT=>y.keep b o (x.keep b o e hd hT) hd fun q=>(x.tr b q).elim hT fun q=>Nat.lt_irrefl _ (Nat.lt_of_lt_of_le (Heap.lt_size e) q)
 pre:=fun n a e=>y.pre n a (x.pre n a e)
 tr:=fun b q=>(y.tr b q).elim (fun q=>x.tr b q) fun q=>.inr (Nat.le_trans x.size q)
 pv:=fun n e=>y.pv n (x.pv n e)
theorem Stp.kp {c:Cx} {st:St} {μ μ':List Addr} {σ':List O} {h h':Heap} (I:Inv c st μ h) (S:Stp c st.σ μ h σ' μ' h'):Kp st.σ μ h σ' μ' h' where
 size:=S.size
 keep:=fun b o e hd hT=>S.keep b o e (fun q=>I.own_data q e hd) hT
 pre:=S.pre
 tr:=S.tr
 pv:=S.pv
theorem Kp.ext {σ:List O} {μ:List Addr} {h h':Heap} (e:Ext h h'):Kp σ μ h σ μ h':=⟨e.1,fun b o q _ _=>e.2 b o q,fun _ _ q=>q,fun _ q=>.inl q,fun _ q=>q⟩
section
variable {σ₀ σ:List O} {μ₀ μ:List Addr} {h₀ h:Heap}
theorem RepV.kp (K:Kp σ₀ μ₀ h₀ σ μ h) {v:Value} {x:V} (r:RepV (Tr σ₀ μ₀) μ₀ h₀ v x):RepV (Tr σ μ) μ h v x :=
 r.move (fun a o e hd hq=>⟨K.keep a o e hd hq,fun q=>(K.tr a q).elim hq fun q=>Nat.lt_irrefl _ (Nat.lt_of_lt_of_le (Heap.lt_size e) q)⟩) K.pre
theorem RepVs.kp (K:Kp σ₀ μ₀ h₀ σ μ h) {v:List Value} {x:List V} (r:RepVs (Tr σ₀ μ₀) μ₀ h₀ v x):RepVs (Tr σ μ) μ h v x :=
 r.move (fun a o e hd hq=>⟨K.keep a o e hd hq,fun q=>(K.tr a q).elim hq fun q=>Nat.lt_irrefl _ (Nat.lt_of_lt_of_le (Heap.lt_size e) q)⟩) K.pre
end
noncomputable def Odd (wr:List Addr) (h:Heap):Prop:=∀ b ∈ wr,∃ o,h.get? b = some o∧¬ Z5Y o
noncomputable def But (wr:List Addr) (h h':Heap):Prop:=∀ b o,b ∉ wr→h.get? b = some o→h'.get? b = some o
theorem RepV.but {T:Addr→Prop} {μ wr:List Addr} {h h':Heap} (k:But wr h h') (od:Odd wr h) {v:Value} {x:V} (r:RepV T μ h v x):RepV T μ h' v x:=by
 have nseq:∀ a o,h.get? a = some o→Z5Y o→a ∉ wr:=fun a o e hd q=>by
  refine El.x1_2 (od a q) fun o' e' hd'=>?_
  obtain rfl:=Option.some.inj (e.symm.trans e')
  exact hd' hd
 exact r.move (fun a o e hd hT=>⟨k a o (nseq a o e hd) e,hT⟩) fun _ _ q=>q
theorem RepVs.but {T:Addr→Prop} {μ wr:List Addr} {h h':Heap} (k:But wr h h') (od:Odd wr h) {v:List Value} {x:List V} (r:RepVs T μ h v x):RepVs T μ h' v x:=by
 have nseq:∀ a o,h.get? a = some o→Z5Y o→a ∉ wr:=fun a o e hd q=>by
  refine El.x1_2 (od a q) fun o' e' hd'=>?_
  obtain rfl:=Option.some.inj (e.symm.trans e')
  exact hd' hd
 exact r.move (fun a o e hd hT=>⟨k a o (nseq a o e hd) e,hT⟩) fun _ _ q=>q
theorem Inv.but {c:Cx} {wr:List Addr} {st:St} {μ:List Addr} {h h':Heap} (I:Inv c st μ h) (k:But wr h h') (hsz:h.objs.size ≤ h'.objs.size)
  (od:Odd wr h) (own:∀ b ∈ wr,¬ Own c b) (mem:∀ b ∈ wr,b ∉ μ) (bs:∀ b ∈ wr,c.base.get? b = none):Inv c st μ h':=by
 refine ⟨fun i x q=>?_,fun i s q=>(I.slots i s q).keeps fun o e=>k _ o (fun m=>own _ m ⟨i,s,q,rfl⟩) e,fun n o q=>?_,I.len,I.nd,fun a q=>Nat.lt_of_lt_of_le (I.lt a q) hsz,
  fun b o q=>k b o (fun m=>by rw [bs b m] at q; cases q) (I.base b o q),I.baseS,I.baseM,I.sep,I.kd⟩
 ·refine El.x2_3 (I.vars i x q) fun s v g1 g2 g3=>?_
  exact ⟨s,v,g1,g2.keeps fun o e=>k _ o (fun m=>own _ m ⟨i,s,g1,rfl⟩) e,g3.but k od⟩
 ·refine El.x1_2 (I.objs n o q) fun a ha r=>?_
  refine ⟨a,ha,?_⟩
  exact r.map (fun _ ho=>(k a _ (fun m=>mem a m (List.mem_of_getElem? ha)) ho)) fun _ _ r=>(r.but k od)
structure Itr (prog:Program) (w:World) (A:Around) (it:Addr) (fp wr:List Addr) (xs:List V) (σ₀:List O) (μ₀:List Addr) (h₀:Heap) (Sp:Nat→Heap→Prop):Prop where
 sub:∀ b ∈ wr,b ∈ fp
 frame:∀ i h h',Sp i h→(∀ b ∈ fp,∀ o,h.get? b = some o→h'.get? b = some o)→Sp i h'
 odd:∀ i h,Sp i h→Odd wr h
 wrn:∀ b ∈ wr,h₀.objs.size ≤ b
 fpo:∀ b ∈ fp,b ∈ wr ∨ (∃ o vs n,h₀.get? b = some o∧o.data = .seq vs n∧¬ Tr σ₀ μ₀ b) ∨ ∃ k:Nat,σ₀[k]? = some O.priv∧μ₀[k]? = some b
 item:∀ i x (s:Shared) (σ:List O) (μ:List Addr) (Q:Option Value→Shared→Prop),xs[i]? = some x→Sp i s.heap→Kp σ₀ μ₀ h₀ σ μ s.heap →
  (∀ v h' tk,But wr s.heap h'→s.heap.objs.size ≤ h'.objs.size→Sp (i + 1) h'→RepV (Tr σ μ) μ h' v x→Q (some v) { s with heap:=h',toks:=tk }) →
  wpAny (model prog w) A (pyNext (.ref it)) Q (fun _ _=>False) s
 done:∀ (s:Shared) (Q:Option Value→Shared→Prop),Sp xs.length s.heap →
  (∀ h' tk,But wr s.heap h'→s.heap.objs.size ≤ h'.objs.size→Q none { s with heap:=h',toks:=tk })→wpAny (model prog w) A (pyNext (.ref it)) Q (fun _ _=>False) s
 again:∀ i (s:Shared) (Q:Value→Shared→Prop) (E:Value→Shared→Prop),Sp i s.heap→Q (.ref it) s→wpAny (model prog w) A (pyIter (.ref it)) Q E s
section
variable {c:Cx} {it:Addr} {fp wr:List Addr} {xs:List V} {σ₀:List O} {μ₀:List Addr} {h₀:Heap} {Sp:Nat→Heap→Prop}
theorem Itr.keep (W:Itr c.prog c.w c.A it fp wr xs σ₀ μ₀ h₀ Sp) {i:Nat} {st:St} {σ':List O} {μ μ':List Addr} {h h':Heap} (own:∀ b ∈ wr,¬ Own c b) (mem:∀ b ∈ wr,b ∉ μ) (I:Inv c st μ h)
  (K:Kp σ₀ μ₀ h₀ st.σ μ h) (S':Stp c st.σ μ h σ' μ' h') (sp:Sp i h):Sp i h'∧∀ b ∈ wr,b ∉ μ':=by
 refine ⟨W.frame i h h' sp fun b q o e=>?_,fun b q m=>(S'.new b m).elim (mem b q) fun k=>?_⟩
 ·rcases W.fpo b q with q | ⟨o',vs,n,q1,q2,q3⟩ | ⟨k,q1,q2⟩
  rotate_left 2
  ·exact S'.pk k b o (K.pv k q1) (K.pre k b q2) e
  ·exact S'.keep b o e (own b q) fun t=>mem b q t.mem
  ·have e':=K.keep b o' q1 (.inl ⟨vs,n,q2⟩) q3
   obtain rfl:=Option.some.inj (e.symm.trans e')
   exact S'.keep b o e (fun q=>I.own_data q e (.inl ⟨vs,n,q2⟩)) fun t=>(K.tr b t).elim q3 fun k=>Nat.lt_irrefl _ (Nat.lt_of_lt_of_le (Heap.lt_size q1) k)
 ·refine El.x1_2 (W.odd i h sp b q) fun o e _=>?_
  exact Nat.lt_irrefl _ (Nat.lt_of_lt_of_le (Heap.lt_size e) k)
theorem Stp.but {σ:List O} {μ:List Addr} {h h':Heap} (wrn:∀ b ∈ wr,h₀.objs.size ≤ b) (k:But wr h h') (hsz:h.objs.size ≤ h'.objs.size) (S:Stp c σ₀ μ₀ h₀ σ μ h):Stp c σ₀ μ₀ h₀ σ μ h' where
 size:=Nat.le_trans S.size hsz
 keep:=fun b o e h1 h2=>k b o (fun q=>Nat.lt_irrefl _ (Nat.lt_of_lt_of_le (Heap.lt_size e) (wrn b q))) (S.keep b o e h1 h2)
 pre:=S.pre
 tr:=S.tr
 new:=S.new
 pv:=S.pv
 pk:=fun n a o e e' e''=>k a o (fun q=>Nat.lt_irrefl _ (Nat.lt_of_lt_of_le (Heap.lt_size e'') (wrn a q))) (S.pk n a o e e' e'')
theorem Kp.but {σ:List O} {μ:List Addr} {h h':Heap} (wrn:∀ b ∈ wr,h₀.objs.size ≤ b) (k:But wr h h') (hsz:h.objs.size ≤ h'.objs.size) (S:Kp σ₀ μ₀ h₀ σ μ h):Kp σ₀ μ₀ h₀ σ μ h' where
 size:=Nat.le_trans S.size hsz
 keep:=fun b o e h1 h2=>k b o (fun q=>Nat.lt_irrefl _ (Nat.lt_of_lt_of_le (Heap.lt_size e) (wrn b q))) (S.keep b o e h1 h2)
 pre:=S.pre
 tr:=S.tr
 pv:=S.pv
theorem Z9G {st₀:St} (I₀:Inv c st₀ μ₀ h₀) (wrn:∀ b ∈ wr,h₀.objs.size ≤ b):∀ b ∈ wr,c.base.get? b = none∧¬ Own c b∧b ∉ μ₀:=fun b q=>by
 refine ⟨?_,fun o=>?_,fun m=>Nat.lt_irrefl _ (Nat.lt_of_lt_of_le (I₀.lt b m) (wrn b q))⟩
 ·cases h:c.base.get? b with
  | none=>rfl
  | some o=>exact absurd (Nat.lt_of_lt_of_le (Heap.lt_size (I₀.base b o h)) (wrn b q)) (Nat.lt_irrefl _)
 ·refine El.x1_1 (Z1Q I₀ o) fun ob ho=>?_
  exact Nat.lt_irrefl _ (Nat.lt_of_lt_of_le (Heap.lt_size ho) (wrn b q))
theorem Z4m {c:Cx} {target:Expr} {it:Addr} {body:List Stmt} {xs:List V} {as:V→St→R Unit} {bd:St→R Fl} {fl:Fl} {stF:St} {Rs:Result→Shared→Prop} (P:Nat→St→List Addr→Shared→Prop) (D:St→List Addr→Shared→Prop)
  (inv:∀ i st μ s,P i st μ s→Inv c st μ s.heap) (toD:∀ i st μ s,P i st μ s→D st μ s)
  (keep:∀ i st μ (s:Shared) st' μ' (s':Shared),P i st μ s→Inv c st' μ' s'.heap→Stp c st.σ μ s.heap st'.σ μ' s'.heap→Same s s'→P i st' μ' s')
  (item:∀ i x st μ (s:Shared) (Q:Value→Shared→Prop),xs[i]? = some x→P i st μ s→(∀ v s₂,RepV (Tr st.σ μ) μ s₂.heap v x→P (i + 1) st μ s₂→Q v s₂) →
   wpAny (model c.prog c.w) c.A (pyNext (.ref it)) (fun r s₁=>match r with
    | none=>False
    | some v=>wpAny (model c.prog c.w) c.A (letOwnedTupleGo target (.ref it) v) (fun _ s₂=>Q v s₂) (fun _ _=>False) s₁) (fun _ _=>False) s)
  (done:∀ st μ (s:Shared) (Q:Option Value→Shared→Prop),P xs.length st μ s→(∀ s₂,D st μ s₂→Q none s₂)→wpAny (model c.prog c.w) c.A (pyNext (.ref it)) Q (fun _ _=>False) s)
  (hA:∀ x v st μ (s:Shared),RepV (Tr st.σ μ) μ s.heap v x→Inv c st μ s.heap→Sim c (assign target c.env v) (as x st) rU st.σ μ s)
  (hB:∀ st μ (s:Shared),Inv c st μ s.heap→Sim c (execs body c.env) (bd st) rFl st.σ μ s)
  (hR:∀ μ (s:Shared) f,D stF μ s→rFl stF μ s.heap f fl→Rs (.ok f) s)
  {st₁:St} {μ₁:List Addr} {s₁:Shared} (h1:P 0 st₁ μ₁ s₁) (hr:forR (fun x st=>(as x st).bind fun _ st=>bd st) xs st₁ = .ok fl stF) :
  codeAny (model c.prog c.w) c.A (.forLoop target (.ref it) body [] c.env) Rs s₁:=by
 obtain ⟨J,hJ⟩:∃ J:Nat→Shared→Prop,∀ k s',J k s'↔∃ i st μ,k = xs.length + 1 - i∧i ≤ xs.length∧forR (fun x st=>(as x st).bind fun _ st=>bd st) (xs.drop i) st = .ok fl stF∧P i st μ s':=⟨_,fun _ _=>Iff.rfl⟩
 have fin:∀ k i st μ (s:Shared) f g,i < xs.length→k = xs.length + 1 - i→P (i + 1) st μ s→rFl st μ s.heap g f →
   (match f with | .next=>forR (fun x st=>(as x st).bind fun _ st=>bd st) (xs.drop (i + 1)) st | .cont=>forR (fun x st=>(as x st).bind fun _ st=>bd st) (xs.drop (i + 1)) st | .brk=>.ok .next st | .ret v=>.ok (.ret v) st) = .ok fl stF →
   (match g with | .next | .cont=>∃ m,m < k∧J m s | .brk=>Rs (.ok .next) s | .ret v=>Rs (.ok (.ret v)) s):=by
  intro k i st μ s f g hlt hk hP rf
  refine rFl_elim rf (fun hf=>⟨xs.length + 1 - (i + 1),Nat.lt_of_lt_of_eq (dec1 hlt) hk.symm,(hJ _ _).mpr ⟨i + 1,st,μ,rfl,hlt,hf,hP⟩⟩) (fun hf=>hR μ s _ ((R.ok.inj hf).2 ▸ toD _ _ _ _ hP) ((R.ok.inj hf).1 ▸ trivial)) (fun hf=>⟨xs.length + 1 - (i + 1),Nat.lt_of_lt_of_eq (dec1 hlt) hk.symm,(hJ _ _).mpr ⟨i + 1,st,μ,rfl,hlt,hf,hP⟩⟩) (fun w y rw' hf=>?_)
  exact hR μ s _ ((R.ok.inj hf).2 ▸ toD _ _ _ _ hP) (by rw [← (R.ok.inj hf).1,← (R.ok.inj hf).2]; exact rw')
 refine codeAny_forLoop_any J (fun k s' hk=>?_) (xs.length + 1) ((hJ _ _).mpr ⟨0,st₁,μ₁,rfl,Nat.zero_le _,hr,h1⟩)
 refine El.x3_4 ((hJ k s').mp hk) fun i st μ hki hi hf hP=>?_
 have fin':=fin k i
 clear fin hJ hk
 by_cases hlt:i < xs.length
 ·obtain ⟨x,hx⟩:∃ x,xs[i]? = some x:=⟨xs[i],by simp [hlt]⟩
  have hd:xs.drop i = x :: xs.drop (i + 1):=by
   rw [List.drop_eq_getElem_cons hlt]
   congr 1
   exact Option.some.inj ((List.getElem?_eq_getElem hlt).symm.trans hx)
  rw [hd] at hf
  refine El.x2_2 (R.bind_inv hf) fun f st₃ hAB hf=>?_
  refine El.x2_2 (R.bind_inv hAB) fun _ st₂ hA' hB'=>?_
  refine wpAny_mono (item i x st μ s' (fun v s₂=>RepV (Tr st.σ μ) μ s₂.heap v x∧P (i + 1) st μ s₂) hx hP fun v s₂ rv hP₂=>⟨rv,hP₂⟩) (fun r s₂ hr₂=>?_) fun _ _ e=>(e:False).elim
  try clear hAB; try clear hd; try clear hx; try clear rf; try clear hk; try clear s; try clear k; try clear fin; try clear hJ; try clear J
  cases r with
  | none=>exact (hr₂:False).elim
  | some v=>
   refine wpAny_mono hr₂ (fun _ s₂ h₂=>?_) fun _ _ e=>(e:False).elim
   have ha:=hA x v st μ s₂ h₂.1 (inv _ _ _ _ h₂.2)
   rw [hA'] at ha
   refine wpAny_mono ha (fun _ s₃ h₃=>?_) fun _ _ e=>(e:False).elim
   obtain ⟨μ₂,hP₃⟩:∃ μ₂,P (i + 1) st₂ μ₂ s₃:=h₃.elim fun μ₂ h₃=>⟨μ₂,keep _ _ _ _ _ _ _ h₂.2 h₃.2.1 h₃.2.2.1 h₃.2.2.2⟩
   have hb:=hB st₂ μ₂ s₃ (inv _ _ _ _ hP₃)
   rw [show bd st₂ = .ok f st₃ from hB'] at hb
   exact wpAny_mono hb (fun g s₄ h₄=>h₄.elim fun μ₃ h₄=>fin' st₃ μ₃ s₄ f g hlt hki (keep _ _ _ _ _ _ _ hP₃ h₄.2.1 h₄.2.2.1 h₄.2.2.2) h₄.1 hf) fun _ _ e=>(e:False).elim
 ·have hi':i = xs.length:=eqle hi hlt
  try clear hb; try clear hP₃; try clear μ₂; try clear h₃; try clear s₃; try clear ha; try clear hr₂; try clear hB'; try clear hA'; try clear st₂; try clear st₃; try clear x
  subst hi'
  rw [List.drop_length] at hf
  try clear hi; try clear hki; try clear hlt; try clear g; try clear f; try clear st; try clear i
  cases hf
  exact wpAny_mono (done stF μ s' (fun r s₂=>r = none∧D stF μ s₂) hP fun s₂ hD=>⟨rfl,hD⟩) (fun r s₂ h₂=>by
   rw [h₂.1]
   exact wpAny_execs_nil (hR μ s₂ _ h₂.2 trivial)) fun _ _ e=>(e:False).elim
theorem Z4n {target:Expr} {body:List Stmt} {as:V→St→R Unit} {bd:St→R Fl} {s₀ s₁:Shared} {st₀:St} (W:Itr c.prog c.w c.A it fp wr xs st₀.σ μ₀ s₀.heap Sp) (start:Sp 0 s₁.heap)
  (hA:∀ x v st μ (s:Shared),RepV (Tr st.σ μ) μ s.heap v x→Inv c st μ s.heap→Sim c (assign target c.env v) (as x st) rU st.σ μ s)
  (hB:∀ st μ (s:Shared),Inv c st μ s.heap→Sim c (execs body c.env) (bd st) rFl st.σ μ s)
  (I₀:Inv c st₀ μ₀ s₀.heap) (X₀:Ext s₀.heap s₁.heap) (Q₀:Same s₀ s₁)
  {fl:Fl} {stF:St} (hr:forR (fun x st=>(as x st).bind fun _ st=>bd st) xs st₀ = .ok fl stF) (ht:∀ v,letOwnedTupleGo target (.ref it) v = pure ()) :
  codeAny (model c.prog c.w) c.A (.forLoop target (.ref it) body [] c.env) (fun r s'=>match r with
   | .ok f=>∃ μ',rFl stF μ' s'.heap f fl∧Inv c stF μ' s'.heap∧Stp c st₀.σ μ₀ s₀.heap stF.σ μ' s'.heap∧Same s₀ s'
   | .error _=>False) s₁:=by
 have wall:=Z9G I₀ W.wrn
 have wapart:∀ b ∈ wr,¬ Own c b:=fun b q=>(wall b q).2.1
 have wbase:∀ b ∈ wr,c.base.get? b = none:=fun b q=>(wall b q).1
 refine Z4m (as:=as) (bd:=bd) (fl:=fl) (stF:=stF)
  (P:=fun i st μ s=>Sp i s.heap∧Inv c st μ s.heap∧(∀ b ∈ wr,b ∉ μ)∧Stp c st₀.σ μ₀ s₀.heap st.σ μ s.heap∧Same s₀ s) (D:=fun st μ s=>Inv c st μ s.heap∧Stp c st₀.σ μ₀ s₀.heap st.σ μ s.heap∧Same s₀ s)
  (fun i st μ s h=>h.2.1) (fun i st μ s h=>⟨h.2.1,h.2.2.2⟩) (fun i st μ s st' μ' s' h I' S' Q'=>?_) (fun i x st μ s Q hx h hQ=>?_) (fun st μ s Q h hQ=>?_) hA hB (fun μ s f h rf=>⟨μ,rf,h⟩)
  (st₁:=st₀) (μ₁:=μ₀) ⟨start,I₀.ext X₀,fun b q=>(wall b q).2.2,.ext X₀,Q₀⟩ hr
 ·refine El.x0_2 (W.keep wapart h.2.2.1 h.2.1 (h.2.2.2.1.kp I₀) S' h.1) fun hst₂ mem₂=>?_
  exact ⟨hst₂,I',mem₂,h.2.2.2.1.trans S',h.2.2.2.2.trans Q'⟩
 ·refine W.item i x s st.σ μ _ hx h.1 (h.2.2.2.1.kp I₀) fun v h' tk hk hsz hst' rv=>?_
  dsimp only
  rw [ht v]
  exact wpAny_pure (hQ v _ rv ⟨hst',h.2.1.but hk hsz (W.odd i _ h.1) wapart h.2.2.1 wbase,h.2.2.1,h.2.2.2.1.but W.wrn hk hsz,h.2.2.2.2⟩)
 ·exact W.done s _ h.1 fun h' tk hk hsz=>hQ _ ⟨h.2.1.but hk hsz (W.odd _ _ h.1) wapart h.2.2.1 wbase,h.2.2.2.1.but W.wrn hk hsz,h.2.2.2.2⟩
end
theorem Itr.of_walks {prog:Program} {w:World} {A:Around} {it:Addr} {fp wr:List Addr} {xs:List V} {σ₀:List O} {μ₀:List Addr} {h₀:Heap} {Sp:Nat→Heap→Prop} {P:Nat→Value→Prop}
  (W:Walks prog w A it fp wr xs.length P Sp) (odd:∀ i h,Sp i h→Odd wr h) (wrn:∀ b ∈ wr,h₀.objs.size ≤ b)
  (fpo:∀ b ∈ fp,b ∈ wr ∨ (∃ o vs n,h₀.get? b = some o∧o.data = .seq vs n∧¬ Tr σ₀ μ₀ b) ∨ ∃ k:Nat,σ₀[k]? = some O.priv∧μ₀[k]? = some b)
  (hP:∀ i x v σ (μ:List Addr) (h:Heap),xs[i]? = some x→P i v→Kp σ₀ μ₀ h₀ σ μ h→RepV (Tr σ μ) μ h v x) :
  Itr prog w A it fp wr xs σ₀ μ₀ h₀ Sp where
 sub:=W.sub
 frame:=W.frame
 odd:=odd
 wrn:=wrn
 fpo:=fpo
 item:=fun i x s σ μ Q hx hst K hQ=>Z05 (W.item i s _ _ (List.getElem?_eq_some_iff.mp hx).1 hst fun v h' tk hp hst' hk hsz=>hQ v h' tk hk hsz hst' (hP i x v σ μ h' hx hp (K.but wrn hk hsz)))
 done:=fun s Q hst hQ=>Z05 (W.done s _ _ hst fun h' tk hk hsz=>hQ h' tk hk hsz)
 again:=fun i s Q E hst hQ=>W.self i s Q E hst hQ
noncomputable def rSrc (prog:Program) (w:World) (A:Around) (st:St) (μ:List Addr) (h:Heap) (v:Value) (xs:List V):Prop :=
 ∀ (s:Shared) (Q:Value→Shared→Prop),s.heap = h →
  (∀ I fp wr Sp s',Ext h s'.heap→Same s s'→Itr prog w A I fp wr xs st.σ μ h Sp→Sp 0 s'.heap→Q (.ref I) s')→wpAny (model prog w) A (pyIter v) Q (fun _ _=>False) s
theorem Z1S {o:Obj} {fs:Array Value} (hd:o.data = .fields fs):¬ Z5Y o:=fun q=>by rcases q with ⟨vs,n,q⟩ | q <;> rw [hd] at q <;> cases q
theorem Z32 {I:Addr} {h:Heap} {o:Obj} {fs:Array Value} (e:h.get? I = some o) (hd:o.data = .fields fs):Odd [I] h:=fun b q=>by
 obtain rfl:=List.mem_singleton.mp q
 exact ⟨o,e,Z1S hd⟩
section
variable {c:Cx} {st:St} {μ:List Addr} {h:Heap} {v:Value}
theorem ZdF (I:Inv c st μ h) (hh:c.A.handled = none) {xs:List V} (r:RepV (Tr st.σ μ) μ h v (.lst xs)):rSrc c.prog c.w c.A st μ h v xs:=by
 rintro s Q rfl hQ
 refine El.x4_7 r.lstI fun a o vs n e9 ho hc hd hz hT r8=>?_
 try clear hz; try clear Q
 subst e9
 have hlt:=Heap.lt_size ho
 refine wpAny_pyIter_list ⟨o,ho,hc,n,hd⟩ (hQ s.heap.objs.size [s.heap.objs.size,a] [s.heap.objs.size] (fun i h=>h.IsListIter s.heap.objs.size a i∧h.IsList a vs) _ (.push _) .refl (Itr.of_walks (P:=fun i v=>vs[i]? = some v) ?_ (fun i h hst=>?_) (fun b q=>?_) (fun b q=>?_) fun i x v σ' μ' h' hx hp K=>?_)
  ⟨⟨_,Heap.get?_push_size _ rfl,rfl,rfl⟩,⟨o,Heap.get?_push_of_some _ ho,hc,n,hd⟩⟩)
 ·have e:xs.length = vs.size:=by have:=r8.length; simpa using this.symm
  rw [e]
  exact Walks.list hh _ a (Nat.ne_of_lt hlt) vs
 ·refine El.x0_2 hst fun q0z _=>?_
  refine El.x1_3 q0z fun o' ho' _ hd'=>?_
  exact Z32 ho' hd'
 ·rw [List.mem_singleton.mp q]; exact Nat.le_refl _
 ·try clear hd'; try clear ho'; try clear o'; try clear q0z; try clear e; try clear h'; try clear μ'; try clear σ'; try clear x; try clear b; try clear hst; try clear h
  rcases List.mem_cons.mp q with rfl | q
  ·exact .inl (by simp)
  ·rw [List.mem_singleton.mp q]; exact .inr (.inl ⟨o,vs,n,ho,hd,hT⟩)
 ·refine El.x1_2 (r8.get hx) fun u hu ru=>?_
  have:u = v:=by simpa [hp] using hu.symm
  try clear hu; try clear u; try clear hp; try clear hx; try clear v; try clear q; try clear i; try clear hlt; try clear r8; try clear hT; try clear hd; try clear hc
  subst this
  exact ru.kp K
theorem ZbE (I:Inv c st μ h) (hh:c.A.handled = none) {xs:List V} (r:RepV (Tr st.σ μ) μ h v (.tup xs)):rSrc c.prog c.w c.A st μ h v xs:=by
 rintro s Q rfl hQ
 refine El.x4_7 r.tupI fun a o vs n e9 ho hc hd hz hT r8=>?_
 try clear hz; try clear Q
 subst e9
 have hlt:=Heap.lt_size ho
 refine wpAny_pyIter_tuple ⟨o,ho,hc,n,hd⟩ (hQ s.heap.objs.size [s.heap.objs.size,a] [s.heap.objs.size] (fun i h=>h.IsTupleIter s.heap.objs.size a i∧h.IsTuple a vs) _ (.push _) .refl (Itr.of_walks (P:=fun i v=>vs[i]? = some v) ?_ (fun i h hst=>?_) (fun b q=>?_) (fun b q=>?_) fun i x v σ' μ' h' hx hp K=>?_)
  ⟨⟨_,Heap.get?_push_size _ rfl,rfl,rfl⟩,⟨o,Heap.get?_push_of_some _ ho,hc,n,hd⟩⟩)
 ·have e:xs.length = vs.size:=by have:=r8.length; simpa using this.symm
  rw [e]
  exact Walks.tuple hh _ a (Nat.ne_of_lt hlt) vs
 ·refine El.x0_2 hst fun q1z _=>?_
  refine El.x1_3 q1z fun o' ho' _ hd'=>?_
  exact Z32 ho' hd'
 ·rw [List.mem_singleton.mp q]; exact Nat.le_refl _
 ·try clear hd'; try clear ho'; try clear o'; try clear q1z; try clear e; try clear h'; try clear μ'; try clear σ'; try clear x; try clear b; try clear hst; try clear h
  rcases List.mem_cons.mp q with rfl | q
  ·exact .inl (by simp)
  ·rw [List.mem_singleton.mp q]; exact .inr (.inl ⟨o,vs,n,ho,hd,hT⟩)
 ·refine El.x1_2 (r8.get hx) fun u hu ru=>?_
  have:u = v:=by simpa [hp] using hu.symm
  try clear hu; try clear u; try clear hp; try clear hx; try clear v; try clear q; try clear i; try clear hlt; try clear r8; try clear hT; try clear hd; try clear hc
  subst this
  exact ru.kp K
theorem ZbF {x:Str} (h:PyData.strOk x = true) {i d:Nat} (e:x.cps[i]? = some d):PyData.strOk ⟨#[d]⟩ = true:=by
 unfold PyData.strOk at h ⊢
 have:=Array.all_eq_true.mp h
 refine El.x1_1 (Array.getElem?_eq_some_iff.mp e) fun hi q2z=>?_
 obtain rfl:=q2z
 simpa using this i hi
theorem ZfX (hh:c.A.handled = none) {l:List Nat} (r:RepV (Tr st.σ μ) μ h v (.str l)):rSrc c.prog c.w c.A st μ h v (l.map fun d=>.str [d]):=by
 rintro s Q rfl hQ
 refine El.x2_4 r.str_inv fun x t q3z q4z h1 h2=>?_
 try clear h2; try clear Q
 obtain rfl:=q3z
 try clear q3z
 obtain rfl:=q4z
 have hP:∀ i y v σ' (μ':List Addr) (h':Heap),(x.cps.toList.map fun d=>V.str [d])[i]? = some y→SignAt x i v→Kp st.σ μ s.heap σ' μ' h'→RepV (Tr σ' μ') μ' h' v y:=by
  intro i y v σ' μ' h' hx q5z K
  refine El.x2_2 q5z fun d u hd q6z=>?_
  try clear K; try clear q5z; try clear h'; try clear μ'; try clear σ'; try clear v; try clear q4z
  obtain rfl:=q6z
  have e:y = .str [d]:=by simpa [hd] using hx.symm
  try clear q6z; try clear hx; try clear y
  subst e
  exact .str ⟨#[d]⟩ u (ZbF h1 hd) (by show 1 ≤ sizeLine; decide)
 have hw:∀ b ∈ [s.heap.objs.size],s.heap.objs.size ≤ b:=fun b q=>by rw [List.mem_singleton.mp q]; exact Nat.le_refl _
 cases ha:x.cps.all (· < 128)
 ·refine wpAny_pyIter_wide ha (hQ s.heap.objs.size [s.heap.objs.size] [s.heap.objs.size] (fun i h=>h.IsStrIter s.heap.objs.size "str_iterator" x t i) _ (.push _) .refl (Itr.of_walks (P:=SignAt x) (by simpa using Walks.strWide hh _ x t) (fun i h ⟨o',ho',_,hd'⟩=>Z32 ho' hd') hw (fun b q=>.inl q) hP)
   ⟨_,Heap.get?_push_size _ rfl,rfl,rfl⟩)
 ·refine wpAny_pyIter_ascii ha (hQ s.heap.objs.size [s.heap.objs.size] [s.heap.objs.size] (fun i h=>h.IsStrIter s.heap.objs.size "str_ascii_iterator" x t i) _ (.push _) .refl (Itr.of_walks (P:=SignAt x) (by simpa using Walks.strAscii hh _ x t) (fun i h ⟨o',ho',_,hd'⟩=>Z32 ho' hd') hw (fun b q=>.inl q) hP)
   ⟨_,Heap.get?_push_size _ rfl,rfl,rfl⟩)
theorem ZbG (I:Inv c st μ h) (hh:c.A.handled = none) {x:V} (r:RepV (Tr st.σ μ) μ h v x) {xs:List V} (e:Z18 st.σ x = some xs):rSrc c.prog c.w c.A st μ h v xs:=by
 unfold Z18 at e
 split at e
 ·cases e; exact ZfX hh r
 ·cases e; exact ZdF I hh r
 ·cases e; exact ZbE I hh r
 ·cases e
theorem Z7r (hh:c.A.handled = none) {a:Addr} {lo hi:Int} {t u w:Tok} (hr:IsRange h a lo hi 1 t u w) (h1:Z0D lo = true) (h2:Z0D hi = true):rSrc c.prog c.w c.A st μ h (.ref a) (upTo lo hi):=by
 rintro s Q rfl hQ
 simp [Z0D] at h1 h2
 refine wpAny_pyIter_range hr (small_one (by lia) (by lia) (by lia) (by lia)) (hQ s.heap.objs.size [s.heap.objs.size] [s.heap.objs.size] _ _ (.push _) .refl
  (Itr.of_walks (P:=fun i v=>∃ t,v = .int (lo + (i:Nat) * 1) t) (by simpa [upTo] using Walks.range hh s.heap.objs.size lo 1 (hi - lo).toNat) (fun i h hst=>Z32 (h:=h) hst rfl) (fun b q=>by rw [List.mem_singleton.mp q]; exact Nat.le_refl _) (fun b q=>.inl q)
   fun i y v σ' μ' h' hx hp K=>?_) ?_)
 ·refine El.x1_1 hp fun t q7z=>?_
  try clear t; try clear K; try clear hp; try clear h'; try clear μ'; try clear σ'; try clear v; try clear y; try clear i; try clear hQ; try clear Q; try clear s
  obtain rfl:=q7z
  unfold upTo at hx
  rw [List.getElem?_map] at hx
  refine El.x1_2 (Option.map_eq_some_iff.mp hx) fun k hk q8z=>?_
  try clear k; try clear q7z; try clear hx
  obtain rfl:=q8z
  refine El.x1_1 (List.getElem?_eq_some_iff.mp hk) fun hk1 q9z=>?_
  try clear hk1; try clear q8z; try clear hk
  obtain rfl:=q9z
  simp only [List.getElem_range,Int.mul_one]
  exact .int _ _
 ·show IsRangeIter _ _ _ _ _
  rw [rangeSize_nat]
  simpa using Heap.get?_push_size _ rfl
end
noncomputable def ItOk (W:Wo) (it:It):Prop:=∀ (g:Gm) (p:Expr) (c:Cx) (st:St) (μ:List Addr) (s:Shared),okI g it p = true→Good W c g→Inv c st μ s.heap→Sim c (eval (pI it p) c.env) (evIt W.F it st) (rSrc c.prog c.w c.A) st.σ μ s
section
variable {W:Wo} {K:Nat}
theorem Sim.conseq {α β δ:Type} {c:Cx} {σ:List O} {μ:List Addr} {s:Shared} {rel:St→List Addr→Heap→α→β→Prop} {rel':St→List Addr→Heap→α→δ→Prop} {t:Sem α} {m:R β} {g:β→St→R δ}
  (h:Sim c t m rel σ μ s) (hr:∀ b st a μ (s:Shared) d st',Inv c st μ s.heap→rel st μ s.heap a b→g b st = .ok d st'→st' = st∧rel' st μ s.heap a d):Sim c t (m.bind g) rel' σ μ s:=by
 cases m with
 | stuck=>trivial
 | exc x st=>trivial
 | ok b st=>
  simp only [R.bind_ok]
  cases hg:g b st with
  | stuck=>trivial
  | exc x st=>trivial
  | ok d st'=>
   refine wpAny_mono h (fun a s' q8=>El.x1_4 q8 fun μ' h1 h2 h3 h4=>?_) fun _ _ e=>e
   refine El.x0_2 (hr b st a μ' s' d st' h2 h1 hg) fun q0z q=>?_
   try clear h1
   obtain rfl:=q0z
   exact ⟨μ',q,h2,h3,h4⟩
theorem Good.hh {c:Cx} {g:Gm} (hg:Good W c g):c.A.handled = none:=hg.a.hh
theorem Z6k {α:Type} {o:Option α} {st st':St} {t:α} (h:R.lift o st = .ok t st'):o = some t∧st' = st:=by
 cases o with
 | none=>cases h
 | some a=>cases h; exact ⟨rfl,rfl⟩
theorem ZbH {e:Ex} (he:EOk W e):ItOk W (.val e):=fun g p c st μ s hk hg I=>
 Sim.conseq (he g _ c st μ s hk hg I) fun x st₁ v μ₁ s₁ d st' I₁ rx hq=>⟨(Z6k hq).2,ZbG I₁ hg.hh rx (Z6k hq).1⟩
theorem Z2t (it:It) (p:Expr) (env:Env) (x:Value):foldedSetIterable (pI it p) env x = pure x:=by
 cases it with
 | val e=>exact ZeT (Z2d e p) env x
 | range1 a=>rfl
 | enum a=>rfl
 | range2 a b=>rfl
theorem ZfY {x:V} {st st':St} {xs:List V} (h:(match x with | .int n=>if Z0D n then .ok (upTo 0 n) st else .stuck | _=>.stuck:R (List V)) = .ok xs st'):∃ n,x = .int n∧Z0D n = true∧xs = upTo 0 n∧st' = st:=by
 cases x <;> try (cases h; done)
 rename_i n
 dsimp only at h
 by_cases hs:Z0D n = true
 ·rw [if_pos hs] at h; cases h; exact ⟨n,rfl,hs,rfl,rfl⟩
 ·rw [if_neg hs] at h; cases h
theorem Z4o {a:Ex} (ha:EOk W a):ItOk W (.range1 a):=fun g p c st μ s hk hg I=>
 Z2s (.inr ⟨_,rfl⟩) Z5u (by decide) hg I (and2 hk).1 (Z0m a _) (ha g _ c st μ s (and2 hk).2 hg I) fun x st₁ u μ₁ s₁ rx I₁=>Sim.ok fun xs st' h=>by
  refine El.x1_4 (ZfY h) fun m e1 hs e2 e3=>?_
  subst e1; subst e2; subst e3
  refine El.x1_1 (RepV.int_inv rx) fun t e=>?_
  subst e
  exact Sim.leaf I₁ (call_range_1 ⟨.push _,⟨rfl,rfl,rfl⟩,Z7r hg.hh (IsRange.new ..) (by decide) hs⟩)
theorem Z4p {a b:Ex} (ha:EOk W a) (hb:EOk W b):ItOk W (.range2 a b):=fun g p c st μ s hk hg I=>
 Z7q (.inr ⟨_,rfl⟩) Z5u (by decide) hg I (and2 hk).1 ha hb (and2 (and2 hk).2).1 (and2 (and2 hk).2).2 fun x y st₁ u v μ₁ s₁ rx ry I₁ _=>Sim.ok fun xs st' h=>by
  obtain ⟨lo,hi,rfl,rfl,hs,rfl,rfl⟩:=Zd8 h
  obtain ⟨t,rfl⟩:=RepV.int_inv rx
  obtain ⟨t',rfl⟩:=RepV.int_inv ry
  exact Sim.leaf I₁ (call_range_2 ⟨.push _,⟨rfl,rfl,rfl⟩,Z7r hg.hh (IsRange.new ..) (and2 hs).1 (and2 hs).2⟩)
theorem ZdG {i:Nat} {it:It} {body:Sms} (hi:ItOk W it) (hb:SsOk W K body):SOk W K (.for1 i it body):=fun g p c st μ s hk hg I=>Sim.ok fun fl stF hr=>by
 refine El.x2_2 (R.bind_inv hr) fun xs st₁ hR hr=>?_
 have hI:=hi g _ c st μ s (and2 (and2 hk).2).1 hg I
 rw [hR] at hI
 refine wpAny_For (wpAny_mono hI (fun v s₁ q8=>El.x1_4 q8 fun μ₁ rs I₁ S₁ Q₁=>?_) fun _ _ e=>e) (Z2t it _ _)
 refine rs s₁ _ rfl fun it fp wr Sp s₂ X₂ Q₂ W' hst=>?_
 refine codeAny_mono (Z4n (target:=.Name (nmOf (skid p 0)) (skid p 0).pos) (body:=pSs body (blk p)) (as:=fun y st=>.ok () (setV st i y)) (bd:=fun st=>evSs W.F K body st) (st₀:=st₁) (s₀:=s₁) (s₁:=s₂) W' hst
  (fun y v st μ s r I=>Sim.imp (fun Q h=>wpAny_assign_Name h) (Z1k hg.nm (and2 hk).1 I r)) (fun st μ s I=>hb g _ c st μ s (and2 (and2 hk).2).2 hg I) I₁ X₂ Q₂ (fl:=fl) (stF:=stF) hr (fun _=>rfl)) fun r s' hr'=>?_
 cases r with
 | ok f=>exact El.x1_4 hr' fun μ' g1 g2 g3 g4=>⟨μ',g1,g2,S₁.trans g3,Q₁.trans g4⟩
 | error e=>exact hr'.elim
end
theorem Inv.frozen {c:Cx} {st:St} {μ:List Addr} {h:Heap} (I:Inv c st μ h) {n:Nat} {xs:List V} (hn:st.σ[n]? = some (.lst xs)) :
  Inv c ⟨st.ρ,st.σ.set n .dead⟩ μ h∧Stp c st.σ μ h (st.σ.set n .dead) μ h∧∀ v,RepV (Tr st.σ μ) μ h v (.ref n)→RepV (Tr (st.σ.set n .dead) μ) μ h v (.lst xs):=by
 have hlt:n < st.σ.length:=(List.getElem?_eq_some_iff.mp hn).1
 have sub:∀ b,Tr (st.σ.set n .dead) μ b→Tr st.σ μ b:=by
  intro b q0z
  refine El.x2_3 q0z fun k o e1 e2 e3=>?_
  by_cases hk:n = k
  ·try clear q0z
   subst hk
   have e4:O.dead = o:=by simpa [hlt] using e1
   subst e4; cases e2
  ·rw [List.getElem?_set_ne hk] at e1; exact ⟨k,o,e1,e2,e3⟩
 have S:Stp c st.σ μ h (st.σ.set n .dead) μ h:=⟨Nat.le_refl _,fun _ _ e _ _=>e,fun _ _ e=>e,fun b q=>.inl (sub b q),fun _ q=>.inl q,Z45 hn (by simp),fun _ _ _ _ _ e=>e⟩
 have mv:∀ {v:Value} {x:V},RepV (Tr st.σ μ) μ h v x→RepV (Tr (st.σ.set n .dead) μ) μ h v x:=fun r=>r.move (fun a o e _ hT=>⟨e,fun q=>hT (sub a q)⟩) fun _ _ q=>q
 have mvs:∀ {v:List Value} {x:List V},RepVs (Tr st.σ μ) μ h v x→RepVs (Tr (st.σ.set n .dead) μ) μ h v x:=fun r=>r.move (fun a o e _ hT=>⟨e,fun q=>hT (sub a q)⟩) fun _ _ q=>q
 refine ⟨⟨fun j x q=>?_,I.slots,fun k o q=>?_,by simpa using I.len,I.nd,I.lt,I.base,I.baseS,I.baseM,I.sep,Z9f I.kd trivial⟩,S,?_⟩
 ·refine El.x2_3 (I.vars j x q) fun s v g1 g2 g3=>?_
  exact ⟨s,v,g1,g2,mv g3⟩
 ·dsimp only at q ⊢
  by_cases hk:n = k
  ·try clear g3; try clear g2; try clear g1; try clear s; try clear x; try clear j; try clear mv; try clear S; try clear b; try clear sub
   subst hk
   have e4:O.dead = o:=by simpa [hlt] using q
   subst e4
   refine El.x1_2 (I.objs n _ hn) fun a ha _=>?_
   exact ⟨a,ha,.dead⟩
  ·rw [List.getElem?_set_ne hk] at q
   refine El.x1_2 (I.objs k o q) fun a ha r=>?_
   refine ⟨a,ha,?_⟩
   exact r.map (fun _ ho=>ho) fun _ _ r=>(mvs r)
 ·intro v r
  refine El.x1_2 r.refI fun a9 e9 ha=>?_
  try clear a9; try clear a; try clear v; try clear q
  subst e9
  refine El.x1_2 (I.objs n _ hn) fun a' ha' ro=>?_
  try clear a'; try clear e9
  obtain rfl:=Option.some.inj (ha.symm.trans ha')
  refine El.x2_3 ro.lst_inv fun vs nn ho hz r=>?_
  refine .lst ho rfl rfl hz ?_ (mvs r)
  intro q1z
  refine El.x2_3 q1z fun k o e1 e2 e3=>?_
  have:n = k:=(List.getElem?_inj (List.getElem?_eq_some_iff.mp ha).1 I.nd).mp (ha.trans e3.symm)
  try clear q1z; try clear hz; try clear ho; try clear nn; try clear vs; try clear ro; try clear ha'; try clear r; try clear ha; try clear mvs; try clear e3; try clear k
  subst this
  have e4:O.dead = o:=by simpa [hlt] using e1
  try clear e1; try clear o; try clear hlt
  subst e4; cases e2
theorem Z33 {f:Str→Addr}:∀ {l:List (Str × Addr)} {y:Str},(∀ p ∈ l,p.2 = f p.1)→(∃ p ∈ l,p.1 = y)→l.lookup y = some (f y)
 | [],_,_,⟨p,hp,_⟩=>by simp at hp
 | (n,a) :: r,y,h,⟨p,hp,e⟩=>by
  rw [List.lookup_cons]
  by_cases hy:y = n
  ·subst hy
   simp only [beq_self_eq_true]
   rw [show a = f y from h (y,a) (by simp)]
  ·have hb:(y == n) = false:=by simp [hy]
   simp only [hb]
   refine Z33 (fun q hq=>h q (by simp [hq])) ?_
   try clear hb
   rcases List.mem_cons.mp hp with rfl | hp
   ·exact (hy e.symm).elim
   ·exact ⟨p,hp,e⟩
noncomputable def Z5j (env:Env) (n:Str):Addr:=(env.cells.lookup n).getD 0
noncomputable def Z4q (env:Env):List (Str × NameKind)→List (Str × Addr)→List (Str × Addr)
 | [],cs=>cs
 | (n,k) :: r,cs=>Z4q env r (if k == .free then (n,Z5j env n) :: cs else cs)
theorem Z5w (env:Env) (n:Str) (k:NameKind) (r:List (Str × NameKind)) (cs:List (Str × Addr)):Z4q env ((n,k) :: r) cs = Z4q env r (if k == .free then (n,Z5j env n) :: cs else cs):=rfl
theorem Z4r (env:Env):∀ (names:List (Str × NameKind)) (cs:List (Str × Addr)),(∀ p ∈ cs,p.2 = Z5j env p.1)→∀ p ∈ Z4q env names cs,p.2 = Z5j env p.1
 | [],_,h=>h
 | (n,k) :: r,cs,h=>Z4r env r _ (by
   split
   ·intro p hp
    rcases List.mem_cons.mp hp with rfl | hp
    ·rfl
    ·exact h p hp
   ·exact h)
theorem Z4s (env:Env) {y:Str}:∀ (names:List (Str × NameKind)) (cs:List (Str × Addr)),((∃ p ∈ cs,p.1 = y) ∨ (y,NameKind.free) ∈ names)→∃ p ∈ Z4q env names cs,p.1 = y
 | [],_,h=>h.elim id fun h=>by simp at h
 | (n,k) :: r,cs,h=>Z4s env r _ (by
   rcases h with ⟨p,hp,e⟩ | h
   ·refine .inl ⟨p,?_,e⟩
    split
    ·exact List.mem_cons_of_mem _ hp
    ·exact hp
   ·rcases List.mem_cons.mp h with h | h
    ·cases h
     exact .inl ⟨(y,Z5j env y),by simp,rfl⟩
    ·exact .inr h)
theorem Z34 {α:Type}:∀ {l:List (Str × α)} {y:Str} {k:α},l.lookup y = some k→(y,k) ∈ l
 | [],_,_,h=>by simp at h
 | (n,a) :: r,y,k,h=>by
  rw [List.lookup_cons] at h
  by_cases hy:y = n
  ·subst hy
   simp at h; subst h; simp
  ·have hb:(y == n) = false:=by simp [hy]
   simp only [hb] at h
   exact List.mem_cons_of_mem _ (Z34 h)
theorem Z7s {env:Env} {scope:Scope} (h:∀ p ∈ scope.names,p.2 = .free→∃ a,env.cells.lookup p.1 = some a):closureFor scope env = pure (Z4q env scope.names []):=by
 have go:∀ (names:List (Str × NameKind)) (cs:List (Str × Addr)),(∀ p ∈ names,p.2 = .free→∃ a,env.cells.lookup p.1 = some a) →
   (forIn names cs fun (x:Str × NameKind) cs=>(if x.2 == NameKind.free then do let a ← cellOf env x.1; pure (ForInStep.yield ((x.1,a) :: cs)) else pure (ForInStep.yield cs):Sem (ForInStep (List (Str × Addr))))) = pure (Z4q env names cs):=by
  intro names
  induction names with
  | nil=>intro cs _; rfl
  | cons p r ih=>
   intro cs h
   obtain ⟨n,k⟩:=p
   rw [List.forIn_cons]
   by_cases hk:k = .free
   ·try clear names
    subst hk
    refine El.x1_1 (h (n,.free) (by simp) rfl) fun a ha=>?_
    have hc:cellOf env n = pure a:=by unfold cellOf; simp only [ha]
    have hf:Z5j env n = a:=by unfold Z5j; rw [ha]; rfl
    simp only [beq_self_eq_true,if_true,hc,Z5w,hf]
    exact ih _ fun p hp=>h p (by simp [hp])
   ·have hb:(k == NameKind.free) = false:=by simp [hk]
    simp only [hb,Bool.false_eq_true,if_false,Z5w]
    exact ih _ fun p hp=>h p (by simp [hp])
 unfold closureFor
 have:=go scope.names [] h
 exact congrArg (fun t:Sem (List (Str × Addr))=>t >>= fun cs=>pure cs) this
noncomputable def Cx.comp (c:Cx) (scope:Scope) (C:Addr) (x:Str) (k:Nat):Cx :=
 { c with env:=compEnvC scope (Z4q c.env scope.names []) C c.env,sl:=fun i=>if i = k then some (.d C x) else c.sl i }
section
variable {c:Cx} {scope:Scope} {C:Addr} {x:Str} {k:Nat} {st:St} {μ:List Addr} {h h':Heap}
theorem Z3P {b:Addr} (q:Own (c.comp scope C x k) b):b = C ∨ Own c b:=by
 refine El.x2_2 q fun i s h1 h2=>?_
 by_cases hi:i = k
 ·have e:some (Slot.d C x) = some s:=by simpa [Cx.comp,hi] using h1
  cases e; exact .inl h2.symm
 ·exact .inr ⟨i,s,by simpa [Cx.comp,hi] using h1,h2⟩
theorem Inv.enter (I:Inv c st μ h) (hC:h.objs.size ≤ C) (X:Ext h h') (hn:∃ m,h'.Ns C m):Inv (c.comp scope C x k) ⟨st.ρ.set k none,st.σ⟩ μ h':=by
 have I':=I.ext X
 refine ⟨fun i y q=>?_,fun i s q=>?_,I'.objs,I.len,I.nd,I'.lt,I'.base,fun b q=>?_,I.baseM,fun b q m=>?_,I.kd⟩
 ·dsimp only at q
  by_cases hi:k = i
  ·subst hi
   rw [List.getElem?_set] at q
   simp only [if_true] at q
   split at q <;> cases q
  ·rw [List.getElem?_set_ne hi] at q
   refine El.x2_3 (I'.vars i y q) fun s v g1 g2 g3=>?_
   exact ⟨s,v,by simpa [Cx.comp,Ne.symm hi] using g1,g2,g3⟩
 ·by_cases hi:i = k
  ·have e:some (Slot.d C x) = some s:=by simpa [Cx.comp,hi] using q
   cases e; exact hn
  ·exact I'.slots i s (by simpa [Cx.comp,hi] using q)
 ·try clear e; try clear g3; try clear g2; try clear g1; try clear v; try clear s; try clear y; try clear i
  rcases Z3P q with rfl | q
  ·show c.base.get? b = none
   cases hb:c.base.get? b with
   | none=>rfl
   | some o=>exact absurd (Nat.lt_of_lt_of_le (Heap.lt_size (I.base _ _ hb)) hC) (Nat.lt_irrefl _)
  ·exact I.baseS b q
 ·rcases Z3P q with rfl | q
  ·exact Nat.lt_irrefl _ (Nat.lt_of_lt_of_le (I.lt b m) hC)
  ·exact I.sep b q m
theorem Inv.leave (I:Inv (c.comp scope C x k) st μ h) (hk:c.sl k = none) (hCo:¬ Own c C) (hs:Heap.SameBut C h h'):Inv c ⟨st.ρ.set k none,st.σ⟩ μ h':=by
 have oc:Own (c.comp scope C x k) C:=⟨k,.d C x,by simp [Cx.comp],rfl⟩
 have I₁:Inv c ⟨st.ρ.set k none,st.σ⟩ μ h:=by
  refine ⟨fun i y q=>?_,fun i s q=>?_,I.objs,I.len,I.nd,I.lt,I.base,fun b q=>?_,I.baseM,fun b q=>?_,I.kd⟩
  ·dsimp only at q
   by_cases hi:k = i
   ·subst hi
    rw [List.getElem?_set] at q
    simp only [if_true] at q
    split at q <;> cases q
   ·rw [List.getElem?_set_ne hi] at q
    refine El.x2_3 (I.vars i y q) fun s v g1 g2 g3=>?_
    exact ⟨s,v,by simpa [Cx.comp,Ne.symm hi] using g1,g2,g3⟩
  ·have hi:i ≠ k:=fun e=>by rw [e,hk] at q; cases q
   exact I.slots i s (by simpa [Cx.comp,hi] using q)
  ·refine El.x2_2 q fun i s h1 h2=>?_
   have hi:i ≠ k:=fun e=>by rw [e,hk] at h1; cases h1
   exact I.baseS b ⟨i,s,by simpa [Cx.comp,hi] using h1,h2⟩
  ·refine El.x2_2 q fun i s h1 h2=>?_
   have hi:i ≠ k:=fun e=>by rw [e,hk] at h1; cases h1
   exact I.sep b ⟨i,s,by simpa [Cx.comp,hi] using h1,h2⟩
 refine I₁.but (wr:=[C]) (fun b o hb e=>(hs.2 b (fun q=>hb (by simp [q]))).trans e) (Nat.le_of_eq hs.1.symm) (fun b q=>?_) (fun b q=>?_) (fun b q=>?_) (fun b q=>?_)
 ·rw [List.mem_singleton.mp q]
  refine El.x1_1 (Z1Q I oc) fun o ho=>?_
  exact ⟨o,ho,I.own_data oc ho⟩
 ·rw [List.mem_singleton.mp q]; exact hCo
 ·rw [List.mem_singleton.mp q]; exact I.sep C oc
 ·rw [List.mem_singleton.mp q]; exact I.baseS C oc
theorem Stp.inner {c':Cx} {σ₀ σ₁ σ₂:List O} {μ₀ μ₁ μ₂:List Addr} {h₀ h₁ h₂:Heap} (S:Stp c σ₀ μ₀ h₀ σ₁ μ₁ h₁) (S':Stp c' σ₁ μ₁ h₁ σ₂ μ₂ h₂) (ho:∀ b,Own c' b→Own c b ∨ h₀.objs.size ≤ b):Stp c σ₀ μ₀ h₀ σ₂ μ₂ h₂ where
 size:=Nat.le_trans S.size S'.size
 keep:=fun b o e h1 h2=>S'.keep b o (S.keep b o e h1 h2) (fun q=>(ho b q).elim h1 fun q=>Nat.lt_irrefl _ (Nat.lt_of_lt_of_le (Heap.lt_size e) q))
  fun q=>(S.tr b q).elim h2 fun q=>Nat.lt_irrefl _ (Nat.lt_of_lt_of_le (Heap.lt_size e) q)
 pre:=fun n a e=>S'.pre n a (S.pre n a e)
 tr:=fun b q=>(S'.tr b q).elim (fun q=>S.tr b q) fun q=>.inr (Nat.le_trans S.size q)
 new:=fun a q=>(S'.new a q).elim (fun q=>S.new a q) fun q=>.inr (Nat.le_trans S.size q)
 pv:=fun n e=>S'.pv n (S.pv n e)
 pk:=fun n a o e e' e''=>S'.pk n a o (S.pv n e) (S.pre n a e') (S.pk n a o e e' e'')
end
theorem Z1t {y:Str} {i:Nat} {p:Str × Nat→Bool}:∀ {l:List (Str × Nat)},(∀ a b:Str × Nat,a.1 = b.1→p a = p b)→(l.filter p).lookup y = some i→l.lookup y = some i∧p (y,i) = true
 | [],_,h=>by simp at h
 | (n,a) :: r,hp,h=>by
  rw [List.filter_cons] at h
  by_cases hq:p (n,a) = true
  ·rw [if_pos hq,List.lookup_cons] at h
   rw [List.lookup_cons]
   by_cases hy:y = n
   ·subst hy
    simp at h ⊢
    subst h
    exact ⟨rfl,hq⟩
   ·have hb:(y == n) = false:=by simp [hy]
    simp only [hb] at h ⊢
    exact Z1t hp h
  ·rw [if_neg hq] at h
   refine El.x0_2 (Z1t hp h) fun h1 h2=>?_
   rw [List.lookup_cons]
   have hy:y ≠ n:=fun e=>hq ((hp (n,a) (y,i) e.symm).trans h2)
   have hb:(y == n) = false:=by simp [hy]
   simp only [hb]
   exact ⟨h1,h2⟩
theorem Z12 {g:Gm}:∀ {names:List (Str × NameKind)} {y:Str},names.lookup y = some .free→g.sc.kind = .function→g.sc.names.lookup y = some .cell →
  (names.map fun p=>if Z1P g p.1 p.2 then (p.1,NameKind.cell) else (p.1,p.2)).lookup y = some .cell
 | [],_,h,_,_=>by simp at h
 | (n,k) :: r,y,h,h1,h2=>by
  rw [List.map_cons]
  by_cases hy:y = n
  ·subst hy
   simp at h
   subst h
   have:Z1P g y .free = true:=by simp [Z1P,h1,h2]
   simp [this]
  ·have hb:(y == n) = false:=by simp [hy]
   rw [List.lookup_cons] at h
   simp only [hb] at h
   have ih:=Z12 h h1 h2
   dsimp only
   split
   ·rw [List.lookup_cons]; simp only [hb]; exact ih
   ·rw [List.lookup_cons]; simp only [hb]; exact ih
theorem Z13 {g:Gm}:∀ {names:List (Str × NameKind)} {y:Str},(∀ p ∈ names,p.2 ≠ .cell)→(names.map fun p=>if Z1P g p.1 p.2 then (p.1,NameKind.cell) else (p.1,p.2)).lookup y = some .cell→names.lookup y = some .free
 | [],_,_,h=>by simp at h
 | (n,k) :: r,y,hc,h=>by
  rw [List.map_cons] at h
  rw [List.lookup_cons]
  by_cases hy:y = n
  ·subst hy
   simp only [beq_self_eq_true]
   by_cases ho:Z1P g y k = true
   ·unfold Z1P at ho
    simp at ho
    rw [ho.1.1]
   ·rw [if_neg ho,List.lookup_cons] at h
    simp at h
    exact (hc (y,k) (by simp) h).elim
  ·have hb:(y == n) = false:=by simp [hy]
   simp only [hb]
   refine Z13 (g:=g) (fun p hp=>hc p (by simp [hp])) ?_
   dsimp only at h
   split at h
   ·rw [List.lookup_cons] at h; simpa only [hb] using h
   ·rw [List.lookup_cons] at h; simpa only [hb] using h
theorem Z9H {c:Cx} {g:Gm} (N:Nm c g) (scope:Scope):relabel scope c.env = Z8o g scope:=by
 unfold relabel Z8o Z1P Env.kindOf
 rw [N.sc]
structure CompOk (g:Gm) (scope:Scope) (x:Str) (k:Nat):Prop where
 kind:scope.kind = .function
 loc:scope.names.lookup x = some .local
 nocell:∀ p ∈ scope.names,p.2 ≠ .cell
 plain:Z2Y x = true
 fresh:k ∉ g.used
 free:∀ p ∈ scope.names,p.2 = .free→g.sc.names.lookup p.1 = some .cell
 lname:∀ p ∈ scope.names,p.2 = .local→scope.names.lookup p.1 = some .local
theorem Z3x {α:Type}:∀ {l:List (Str × α)} {y:Str} {k:α},(l.map (·.1)).Nodup→(y,k) ∈ l→l.lookup y = some k
 | [],_,_,_,h=>by simp at h
 | (n,a) :: r,y,k,hn,h=>by
  rw [List.lookup_cons]
  rw [List.map_cons,List.nodup_cons] at hn
  rcases List.mem_cons.mp h with h | h
  ·cases h; simp
  ·have hy:y ≠ n:=fun e=>hn.1 (List.mem_map.mpr ⟨(y,k),h,e⟩)
   have hb:(y == n) = false:=by simp [hy]
   simp only [hb]
   exact Z3x hn.2 h
theorem Z4t {g:Gm} {scope:Scope} {x:Str} {k:Nat} (h:Zbs g scope x k = true):CompOk g scope x k:=by
 unfold Zbs at h
 simp only [Bool.and_eq_true,decide_eq_true_eq,List.all_eq_true] at h
 obtain ⟨⟨⟨⟨⟨⟨⟨⟨⟨h1,h2⟩,h3⟩,h4⟩,h5⟩,h6⟩,h7⟩,h8⟩,h9⟩,h10⟩:=h
 refine ⟨h1,h2,fun p hp e=>?_,h4,?_,fun p hp e=>?_,fun p hp e=>Z3x h10 (by rw [← e]; exact hp)⟩
 ·have:=h3 p hp; simp [e] at this
 ·simpa using h5
 ·have:=h8 p hp; simpa [e] using this
theorem Nm.enter {c:Cx} {g:Gm} {scope:Scope} {x:Str} {k:Nat} {C:Addr} (N:Nm c g) (O:CompOk g scope x k) (hC:¬ Own c C):Nm (c.comp scope C x k) (g.comp scope x k) where
 sc:=Z9H N scope
 kind:=O.kind
 glob:=N.glob
 blt:=N.blt
 var:=by
  intro y i hl
  unfold Gm.comp at hl ⊢
  dsimp only at hl ⊢
  rw [List.lookup_cons] at hl
  by_cases hy:y = x
  ·subst hy
   simp at hl
   subst hl
   refine .inl ⟨?_,by simp [Cx.comp,compEnvC]⟩
   have:=lookup_relabel_local (env:=c.env) O.loc
   have e:=Z9H N scope
   unfold relabel at e
   rw [← e]
   exact this
  ·have hb:(y == x) = false:=by simp [hy]
   simp only [hb] at hl
   obtain ⟨h1,h2⟩:=Z1t (by rintro ⟨a1,a2⟩ ⟨b1,b2⟩ e; dsimp only at e; subst e; rfl) hl
   simp at h2
   refine El.x0_2 h2 fun q10z h4=>?_
   refine El.x0_2 q10z fun _ h3=>?_
   rcases N.var y i h1 with ⟨k1,_⟩ | ⟨k1,a,k2,k3⟩
   ·rw [h4] at k1; cases k1
   ·refine .inr ⟨Z12 h3 N.kind h4,a,?_,?_⟩
    ·show (Z4q c.env scope.names []).lookup y = some a
     rw [Z33 (f:=Z5j c.env) (Z4r _ _ _ (by simp)) (Z4s _ _ _ (.inr (Z34 h3)))]
     unfold Z5j; rw [k2]; rfl
    ·have hi:i ≠ k:=fun e=>O.fresh (e ▸ N.dom i _ k3)
     simpa [Cx.comp,hi] using k3
 apart:=by
  intro i j s h1 h2
  by_cases hi:i = k
  ·by_cases hj:j = k
   ·rw [hi,hj]
   ·have e:some (Slot.d C x) = some s:=by simpa [Cx.comp,hi] using h1
    try clear h3; try clear h4; try clear q10z; try clear hb; try clear hl
    cases e
    exact (hC ⟨j,.d C x,by simpa [Cx.comp,hj] using h2,rfl⟩).elim
  ·by_cases hj:j = k
   ·have e:some (Slot.d C x) = some s:=by simpa [Cx.comp,hj] using h2
    cases e
    exact (hC ⟨i,.d C x,by simpa [Cx.comp,hi] using h1,rfl⟩).elim
   ·exact N.apart i j s (by simpa [Cx.comp,hi] using h1) (by simpa [Cx.comp,hj] using h2)
 dom:=by
  intro i s h1
  by_cases hi:i = k
  ·try clear j; try clear h2; try clear e
   subst hi; exact List.mem_cons_self
  ·exact List.mem_cons_of_mem _ (N.dom i s (by simpa [Cx.comp,hi] using h1))
 cells:=fun y hy=>⟨_,Z33 (f:=Z5j c.env) (Z4r _ _ _ (by simp)) (Z4s _ _ _ (.inr (Z34 (Z13 O.nocell hy))))⟩
theorem Good.enter {W:Wo} {c:Cx} {g:Gm} {scope:Scope} {x:Str} {k:Nat} {C:Addr} (hg:Good W c g) (O:CompOk g scope x k) (hC:¬ Own c C):Good W (c.comp scope C x k) (g.comp scope x k) :=
 ⟨⟨hg.ok.pyl,hg.ok.hh,hg.ok.units,hg.ok.sys⟩,hg.gd,hg.nm.enter O hC,hg.a,hg.gs,hg.fn⟩
noncomputable def Z1T (env:Env) (py:List Expr) (b:Bool):Sem Bool:=forIn py b fun q r=>if r = true then do let ok ← isTrue q env (eval q env); pure (ForInStep.yield ok) else pure (ForInStep.yield r)
noncomputable def TsOk (W:Wo) (es:Exs):Prop:=∀ (g:Gm) (ps:List Expr) (c:Cx) (st:St) (μ:List Addr) (s:Shared),okEs g es ps = true→Good W c g→Inv c st μ s.heap→Sim c (Z1T c.env (pEs es ps) true) (evTs W.F es st) rEq st.σ μ s
section
variable {W:Wo}
theorem Z4u (env:Env):∀ py:List Expr,Z1T env py false = pure false
 | []=>rfl
 | x :: xs=>by
  unfold Z1T
  rw [List.forIn_cons]
  simp only [Bool.false_eq_true,if_false]
  exact Z4u env xs
theorem Z6l:TsOk W .nil:=fun _ _ _ _ _ _ _ _ I=>Sim.pure I rfl
theorem Zar (env:Env) (q:Expr) (qs:List Expr):Z1T env (q :: qs) true = (isTrue q env (eval q env) >>= fun b=>Z1T env qs b):=by
 unfold Z1T
 rw [List.forIn_cons,if_pos rfl,bind_assoc]
 rfl
theorem Z4v {e:Ex} {es:Exs} (he:TOk W e) (hes:TsOk W es):TsOk W (.cons e es):=fun g ps c st μ s hk hg I=>
 Sim.of_eq (Zar ..) (Sim.eq (he g _ c st μ s (and2 hk).1 hg I) fun b st₁ μ₁ s₁ _ I₁ _=>by
  cases b with
  | true=>exact hes g _ c st₁ μ₁ s₁ (and2 hk).2 hg I₁
  | false=>exact Sim.of_eq (Z4u c.env _) (Sim.pure I₁ rfl))
structure CLi (c:Cx) (wr:List Addr) (Sp:Nat→Heap→Prop) (σ₀:List O) (μ₀:List Addr) (h₀:Heap) (st₁:St) (μ₁:List Addr) (s₁:Shared) (m:Nat) (D:Addr) (i:Nat) (st:St) (μ:List Addr) (s:Shared):Prop where
 sp:Sp i s.heap
 inv:Inv c st μ s.heap
 mem:∀ b ∈ wr,b ∉ μ
 kp:Kp σ₀ μ₀ h₀ st.σ μ s.heap
 stp:Stp c st₁.σ μ₁ h₀ st.σ μ s.heap
 same:Same s₁ s
 at':μ[m]? = some D
section
variable {c:Cx} {k m:Nat} {xs:List V} {it D:Addr} {fp wr:List Addr} {Sp:Nat→Heap→Prop} {σ₀:List O} {μ₀:List Addr} {h₀:Heap} {s₁:Shared} {st₁:St} {μ₁:List Addr}
theorem CLi.step (W:Itr c.prog c.w c.A it fp wr xs σ₀ μ₀ h₀ Sp) (own:∀ b ∈ wr,¬ Own c b) {i:Nat} {st st':St} {μ μ':List Addr} {s s':Shared} (X:CLi c wr Sp σ₀ μ₀ h₀ st₁ μ₁ s₁ m D i st μ s) (I:Inv c st' μ' s'.heap) (S:Stp c st.σ μ s.heap st'.σ μ' s'.heap) (Q:Same s s'):CLi c wr Sp σ₀ μ₀ h₀ st₁ μ₁ s₁ m D i st' μ' s' :=
 El.x0_2 (W.keep own X.mem X.inv X.kp S X.sp) fun h1 h2=>⟨h1,I,h2,X.kp.trans (S.kp X.inv),X.stp.trans S,X.same.trans Q,S.pre _ _ X.at'⟩
theorem CLi.sim (W:Itr c.prog c.w c.A it fp wr xs σ₀ μ₀ h₀ Sp) (own:∀ b ∈ wr,¬ Own c b) {i:Nat} {st st':St} {μ:List Addr} {s:Shared} (X:CLi c wr Sp σ₀ μ₀ h₀ st₁ μ₁ s₁ m D i st μ s) {α β:Type} {t:Sem α} {b:β} {rel:St→List Addr→Heap→α→β→Prop} {mm:R β} (hs:Sim c t mm rel st.σ μ s) (e:mm = .ok b st') {Q:α→Shared→Prop} {E:Value→Shared→Prop} (h:∀ a μ' s',rel st' μ' s'.heap a b→CLi c wr Sp σ₀ μ₀ h₀ st₁ μ₁ s₁ m D i st' μ' s'→Q a s'):wpAny (model c.prog c.w) c.A t Q E s:=by
 rw [e] at hs
 exact wpAny_mono hs (fun a s' q=>El.x1_4 q fun μ' r I S Q=>h a μ' s' r (X.step W own I S Q)) fun _ _ e=>e.elim
end
theorem Z7t {c:Cx} {g:Gm} {elt iter:Expr} {x:Str} {px:Pos} {fs:List Expr} {scope:Scope} {pos:Pos} {k m:Nat} {xs:List V} {tests:St→R Bool} {ev:St→R V} {it D:Addr} {fp wr:List Addr} {Sp:Nat→Heap→Prop}
  {σ₀:List O} {μ₀:List Addr} {h₀:Heap} {s₁:Shared} {st₁:St} {μ₁:List Addr} (W:Itr c.prog c.w c.A it fp wr xs σ₀ μ₀ h₀ Sp) (start:Sp 0 s₁.heap) (K₁:Kp σ₀ μ₀ h₀ st₁.σ μ₁ s₁.heap)
  (N:Nm c g) (hx:g.lv x k = true) (hD:μ₁[m]? = some D) (I₁:Inv c st₁ μ₁ s₁.heap) (own:∀ b ∈ wr,¬ Own c b) (mem₁:∀ b ∈ wr,b ∉ μ₁) (bs:∀ b ∈ wr,c.base.get? b = none)
  (hT:∀ st μ (s:Shared),Inv c st μ s.heap→Sim c (Z1T c.env fs true) (tests st) rEq st.σ μ s)
  (hE:∀ st μ (s:Shared),Inv c st μ s.heap→Sim c (eval elt c.env) (ev st) rV st.σ μ s)
  {stF:St} (hr:Z2T k m tests ev xs st₁ = .ok () stF) {Rs:Result→Shared→Prop}
  (hR:∀ s' μ',Inv c stF μ' s'.heap→Kp σ₀ μ₀ h₀ stF.σ μ' s'.heap→Stp c st₁.σ μ₁ h₀ stF.σ μ' s'.heap→Same s₁ s'→μ'[m]? = some D→Rs (.ok .next) s') (S₁:Stp c st₁.σ μ₁ h₀ st₁.σ μ₁ s₁.heap) :
  codeAny (model c.prog c.w) c.A (.compLoop (.ListComp elt [⟨.Name x px,iter,fs,0⟩] scope pos) 0 (.ref it) (.ref D) c.env) Rs s₁:=by
 obtain ⟨J,hJ⟩:∃ J:Nat→Shared→Prop,∀ j s',J j s'↔∃ i st μ,j = xs.length + 1 - i∧i ≤ xs.length∧Z2T k m tests ev (xs.drop i) st = .ok () stF∧CLi c wr Sp σ₀ μ₀ h₀ st₁ μ₁ s₁ m D i st μ s':=⟨_,fun _ _=>Iff.rfl⟩
 refine codeAny_compLoop_tests J (fun j s' hJj=>El.x3_4 ((hJ j s').mp hJj) fun i st μ ej hi hf X=>?_) (xs.length + 1) ((hJ _ _).mpr ⟨0,st₁,μ₁,rfl,Nat.zero_le _,hr,start,I₁,mem₁,K₁,S₁,.refl,hD⟩)
 rw [ej]
 clear hJj ej
 by_cases hlt:i < xs.length
 ·rw [List.drop_eq_getElem_cons hlt,Z2U] at hf
  refine wpAny_mono (W.item i xs[i] s' st.σ μ _ (List.getElem?_eq_getElem hlt) X.sp X.kp fun v h' tk hk hsz hst' rv=>?_) (fun _ _ q=>q) fun _ _ e=>(e:False).elim
  have X:CLi c wr Sp σ₀ μ₀ h₀ st₁ μ₁ s₁ m D (i + 1) st μ { s' with heap:=h',toks:=tk }:=⟨hst',X.inv.but hk hsz (W.odd i _ X.sp) own X.mem bs,X.mem,X.kp.but W.wrn hk hsz,X.stp.but W.wrn hk hsz,X.same,X.at'⟩
  refine X.sim W own (Sim.imp (fun Q h=>wpAny_assign_Name h) (Z1k N hx X.inv rv)) rfl fun _ μ₂ s₂ _ X=>?_
  refine El.x2_2 (R.bind_inv hf) fun b st₃ hT' hf=>X.sim W own (hT _ μ₂ s₂ X.inv) hT' fun b' μ₃ s₃ rb X=>?_
  cases rb
  cases b with
  | false=>exact ⟨xs.length + 1 - (i + 1),dec1 hlt,(hJ _ _).mpr ⟨i + 1,st₃,μ₃,rfl,hlt,hf,X⟩⟩
  | true=>
   refine El.x2_2 (R.bind_inv hf) fun z st₄ hE' hf=>X.sim W own (hE st₃ μ₃ s₃ X.inv) hE' fun u μ₄ s₄ ru X=>?_
   have hf:(match st₄.σ[m]? with | some (.lst acc)=>if acc.length < sizeLine then Z2T k m tests ev (xs.drop (i + 1)) ⟨st₄.ρ,st₄.σ.set m (.lst (acc++[z]))⟩ else .stuck | _=>.stuck:R Unit) = .ok () stF:=hf
   cases ha:lstO st₄.σ[m]? with
   | none=>
    exfalso
    cases hm:st₄.σ[m]? with
    | none=>rw [hm] at hf; cases hf
    | some o=>rw [hm] at hf ha; cases o <;> first | cases hf | cases ha
   | some acc=>
    have hacc:=Z1o ha
    rw [hacc] at hf
    refine Z8h hf fun hz hf=>X.sim W own (ZeS (c:=c) (s:=s₄) X.inv (.ref X.at':RepV (Tr st₄.σ μ₄) μ₄ s₄.heap (.ref D) (.ref m)) ru .append) (Z2o st₄.ρ st₄.σ m acc z hacc hz) fun _ μ₅ s₅ _ X=>?_
    exact ⟨xs.length + 1 - (i + 1),dec1 hlt,(hJ _ _).mpr ⟨i + 1,_,μ₅,rfl,hlt,hf,X⟩⟩
 ·obtain rfl:i = xs.length:=eqle hi hlt
  rw [List.drop_length] at hf
  cases hf
  refine wpAny_mono (W.done s' _ X.sp fun h' tk hk hsz=>?_) (fun _ _ q=>q) fun _ _ e=>(e:False).elim
  exact hR _ μ (X.inv.but hk hsz (W.odd _ _ X.sp) own X.mem bs) (X.kp.but W.wrn hk hsz) (X.stp.but W.wrn hk hsz) X.same X.at'
end
section
variable {W:Wo} {K:Nat}
theorem Stp.inner0 {c c':Cx} {σ₀ σ₁ σ₂:List O} {μ₀ μ₁ μ₂:List Addr} {h₀ h₂:Heap} (tr:∀ b,Tr σ₁ μ₁ b→Tr σ₀ μ₀ b ∨ h₀.objs.size ≤ b) (pre:∀ (n:Nat) (a:Addr),μ₀[n]? = some a→μ₁[n]? = some a)
  (new:∀ a ∈ μ₁,a ∈ μ₀ ∨ h₀.objs.size ≤ a) (pv:∀ (n:Nat),σ₀[n]? = some O.priv→σ₁[n]? = some O.priv) (S':Stp c' σ₁ μ₁ h₀ σ₂ μ₂ h₂) (ho:∀ b,Own c' b→Own c b ∨ h₀.objs.size ≤ b):Stp c σ₀ μ₀ h₀ σ₂ μ₂ h₂ where
 size:=S'.size
 keep:=fun b o e h1 h2=>S'.keep b o e (fun q=>(ho b q).elim h1 fun q=>Nat.lt_irrefl _ (Nat.lt_of_lt_of_le (Heap.lt_size e) q))
  fun q=>(tr b q).elim h2 fun q=>Nat.lt_irrefl _ (Nat.lt_of_lt_of_le (Heap.lt_size e) q)
 pre:=fun n a e=>S'.pre n a (pre n a e)
 tr:=fun b q=>(S'.tr b q).elim (fun q=>tr b q) fun q=>.inr q
 new:=fun a q=>(S'.new a q).elim (fun q=>new a q) fun q=>.inr q
 pv:=fun n e=>S'.pv n (pv n e)
 pk:=fun n a o e e' e''=>S'.pk n a o (pv n e) (pre n a e') e''
theorem Z7u {elt:Ex} {k:Nat} {it:It} {ifs:Exs} {g:Gm} {pe iter:Expr} {x:Str} {px pos pos':Pos} {fs:List Expr} {scope:Scope} {c:Cx} {st:St} {μ:List Addr} {s:Shared} (O:CompOk g scope x k) (hg:Good W c g) (I:Inv c st μ s.heap)
  (hI:Sim c (eval iter c.env) (evIt W.F it st) (rSrc c.prog c.w c.A) st.σ μ s) (hn:∀ x,foldedSetIterable iter c.env x = pure x) (ht:∀ c,Good W c (g.comp scope x k)→∀ st μ (s:Shared),Inv c st μ s.heap→Sim c (Z1T c.env fs true) (evTs W.F ifs st) rEq st.σ μ s)
  (he:∀ c,Good W c (g.comp scope x k)→∀ st μ (s:Shared),Inv c st μ s.heap→Sim c (eval pe c.env) (evE W.F elt st) rV st.σ μ s) {y:V} {stE:St} (hv:evE W.F (.comp elt k it ifs) st = .ok y stE) {use:Option (Value→Sem Unit)} {Q:Value→Shared→Prop}
  (hU:∀ (D C:Addr) (μ':List Addr) (s':Shared),RepV (Tr stE.σ μ') μ' s'.heap (.ref D) y→Inv c stE μ' s'.heap→Stp c st.σ μ s.heap stE.σ μ' s'.heap→Same s s'→s.heap.objs.size ≤ C→¬ Own c C→C ∉ μ'→c.base.get? C = none→Odd [C] s'.heap →
   (∃ m,s'.heap.Ns C m)→compPost (model c.prog c.w) c.A (fun _ _=>False) use Q (.ref D) C (.ok .next) s') :
  wpAny (model c.prog c.w) c.A (comprehension (.ListComp pe [⟨.Name x px,iter,fs,0⟩] scope pos) scope c.env pos' (newList []) false (eval iter c.env) use) Q (fun _ _=>False) s:=by
 rw [Z61] at hv
 refine El.x2_2 (R.bind_inv hv) fun xs st₁ hR hv=>?_
 refine El.x2_2 (R.bind_inv hv) fun u stF hr hv=>?_
 rw [hR] at hI
 split at hv
 ·rename_i ys hys
  try clear u; try clear hR
  cases hv
  have hclos:closureFor scope c.env = pure (Z4q c.env scope.names []):=Z7s fun p hp e=>by
   have hc:=O.free p hp e
   exact hg.nm.cells p.1 hc
  have hk0:c.sl k = none:=by
   cases hq:c.sl k with
   | none=>rfl
   | some s'=>exact (O.fresh (hg.nm.dom k s' hq)).elim
  refine wpAny_comprehension_free (use:=use) rfl hn hclos O.kind O.lname (wpAny_mono hI (fun v s₁ q8=>El.x1_4 q8 fun μ₁ rs I₁ S₁ Q₁=>?_) fun _ _ e=>e)
  refine rs s₁ _ rfl fun it fp wr Sp s₂ X₂ Q₂ W' hst=>?_
  refine wpAny_newObj_type (wpAny_newFunctionEnv O.nocell (by intro y hy; simp at hy) (fun h₁ hns₁ hsb₁=>?_) O.kind)
  dsimp only at hns₁ hsb₁ ⊢
  have I₂:=I₁.ext X₂
  refine El.x0_2 (I₂.track (o:={ cls:=.type "list",data:=.seq ([]:List Value).toArray }) (ob:=.lst []) rfl rfl trivial fun T hT=>.lst (Heap.get?_push_size _ rfl) (by simp) .nil) fun I₃ S₃=>?_
  generalize hH2:s₂.heap.push { cls:=.type "list",dict:=none,data:=.seq ([]:List Value).toArray } = H2 at hns₁ hsb₁ I₃ S₃ ⊢
  have hC:H2.objs.size = s₂.heap.objs.size + 1:=by rw [← hH2,Heap.size_push]
  have X₃:Ext H2 h₁:=⟨by rw [hsb₁.1,Heap.size_push]; exact Nat.le_succ _,fun b o e=>(hsb₁.2 b (Nat.ne_of_lt (Heap.lt_size e))).trans (Heap.get?_push_of_some _ e)⟩
  have X₂₃:Ext s₂.heap h₁:=⟨Nat.le_trans (by rw [hC]; exact Nat.le_succ _) X₃.1,fun b o e=>X₃.2 b o (by rw [← hH2]; exact Heap.get?_push_of_some _ e)⟩
  have I₄:=I₃.enter (scope:=scope) (x:=x) (k:=k) (C:=H2.objs.size) (Nat.le_refl _) X₃ ⟨_,hns₁⟩
  have hnC:¬ Own c H2.objs.size:=fun q=>by obtain ⟨o,ho⟩:=Z1Q I₃ q; exact Nat.lt_irrefl _ (Heap.lt_size ho)
  have hg':=hg.enter O hnC
  have wall:=Z9G I₁ W'.wrn
  have wlt:∀ b ∈ wr,b < s₂.heap.objs.size:=fun b q=>by obtain ⟨o,ho,_⟩:=W'.odd 0 _ hst b q; exact Heap.lt_size ho
  have st0:Sp 0 h₁:=W'.frame 0 _ _ hst fun b _ o e=>X₂₃.2 b o e
  have X₁₃:=X₂.trans X₂₃
  have hz:s₁.heap.objs.size ≤ s₂.heap.objs.size:=X₂.1
  have trr:∀ b,Tr (st₁.σ++[.lst []]) (μ₁++[s₂.heap.objs.size]) b→Tr st₁.σ μ₁ b ∨ s₁.heap.objs.size ≤ b:=fun b q=>(S₃.tr b q).imp id fun q=>Nat.le_trans hz q
  have prr:∀ (n:Nat) (a:Addr),μ₁[n]? = some a→(μ₁++[s₂.heap.objs.size])[n]? = some a:=S₃.pre
  have nww:∀ a ∈ μ₁++[s₂.heap.objs.size],a ∈ μ₁ ∨ s₁.heap.objs.size ≤ a:=fun a q=>(S₃.new a q).imp id fun q=>Nat.le_trans hz q
  have loop:∀ s₃:Shared,s₃ = { s₂ with heap:=h₁,toks:=s₂.toks + ([]:List (Str × Value)).length } →
    codeAny (model c.prog c.w) c.A (.compLoop (.ListComp pe [⟨.Name x px,iter,fs,0⟩] scope pos) 0 (.ref it) (.ref s₂.heap.objs.size) (compEnvC scope (Z4q c.env scope.names []) H2.objs.size c.env))
     (compPost (model c.prog c.w) c.A (fun _ _=>False) use Q (.ref s₂.heap.objs.size) H2.objs.size) s₃:=by
   rintro s₃ rfl
   refine Z7t (c:=c.comp scope H2.objs.size x k) (g:=g.comp scope x k) (k:=k) (m:=st₁.σ.length) (tests:=evTs W.F ifs) (ev:=evE W.F elt) (σ₀:=st₁.σ) (μ₀:=μ₁) (h₀:=s₁.heap) W' st0 ?_ hg'.nm ?_ ?_ I₄ (fun b q o=>?_) (fun b q m=>?_) (fun b q=>(wall b q).1)
    (ht _ hg') (he _ hg') hr (fun s' μ' I' K' S' Q' hD'=>?_) (.ext X₁₃)
   ·exact ⟨X₁₃.1,fun b o e _ _=>X₁₃.2 b o e,prr,trr,fun k e=>by rw [List.getElem?_append_left (List.getElem?_eq_some_iff.mp e).1]; exact e⟩
   ·have:=O.plain
    simp [Gm.lv,Gm.comp,this]
   ·rw [← I₁.len]; simp
   ·try clear K'; try clear s₃; try clear X₁₃; try clear hg; try clear I₄; try clear X₂₃; try clear X₃; try clear S₃; try clear I₃; try clear I₂; try clear hsb₁; try clear hns₁
    rcases Z3P o with rfl | o
    ·have q':=wlt _ q; rw [hC] at q'; exact Nat.lt_irrefl _ (Nat.lt_of_succ_lt q')
    ·exact (wall b q).2.1 o
   ·rcases List.mem_append.mp m with m | m
    ·exact (wall b q).2.2 m
    ·rw [List.mem_singleton.mp m] at q; exact Nat.lt_irrefl _ (wlt _ q)
   ·have oc:Own (c.comp scope H2.objs.size x k) H2.objs.size:=⟨k,.d H2.objs.size x,by simp [Cx.comp],rfl⟩
    obtain ⟨m,hm⟩:∃ m,s'.heap.Ns H2.objs.size m:=by
     have:=I'.slots k (.d H2.objs.size x) (by simp [Cx.comp])
     exact this
    have sC:s₁.heap.objs.size ≤ H2.objs.size:=by rw [hC]; exact Nat.le_succ_of_le hz
    have I₅:=I'.leave hk0 hnC (Heap.SameBut.refl _ _)
    refine El.x0_3 (I₅.frozen (n:=st₁.σ.length) (xs:=ys) hys) fun I₆ S₆ fr=>?_
    have S₅:Stp c st₁.σ μ₁ s₁.heap stF.σ μ' s'.heap:=S'.inner0 trr prr nww (fun k e=>by rw [List.getElem?_append_left (List.getElem?_eq_some_iff.mp e).1]; exact e) fun b q=>(Z3P q).elim (fun e=>.inr (e ▸ sC)) .inl
    have Q₇:Same s s':=Q₁.trans (Q₂.trans (Same.trans (s':={ s₂ with heap:=h₁,toks:=s₂.toks + ([]:List (Str × Value)).length }) ⟨rfl,rfl,rfl⟩ Q'))
    exact hU _ _ μ' s' (fr _ (.ref hD')) I₆ (S₁.trans (S₅.trans S₆)) Q₇ (Nat.le_trans S₁.size sC) hnC (I'.sep _ oc) (I'.baseS _ oc) (fun b q=>by
     rw [List.mem_singleton.mp q]
     refine El.x1_1 (Z1Q I' oc) fun o ho=>?_
     exact ⟨o,ho,I'.own_data oc ho⟩) ⟨m,hm⟩
  exact codeAny_compStart_list (loop _ rfl) (W'.again 0 _ _ _ st0 (loop _ rfl))
 ·try clear Q₇; try clear S₅; try clear fr; try clear S₆; try clear I₆; try clear I₅; try clear sC; try clear hm; try clear oc; try clear hD'; try clear Q'; try clear S'
  cases hv
theorem Z6m {elt:Ex} {k:Nat} {it:It} {ifs:Exs} (he:EOk W elt) (ht:TsOk W ifs) (hi:ItOk W it):EOk W (.comp elt k it ifs):=fun g p c st μ s hk hg I=>Sim.of_eq (eval_ListComp ..) (Sim.ok fun y stE hv=>by
 have h1:=and2 (and2 hk).1
 have h2:=and2 (and2 hk).2
 refine Z7u (Z4t h1.1) hg I (hi g _ c st μ s h1.2 hg I) (Z2t it _ _) (fun c hg st μ s I=>ht _ _ c st μ s h2.2 hg I) (fun c hg st μ s I=>he _ _ c st μ s h2.1 hg I) hv (use:=none) fun D C μ' s' r I' S' Q' sz ow nm bs od hm=>?_
 refine El.x1_1 hm fun m hm=>?_
 refine ⟨m,hm,fun h'' hs=>?_⟩
 have bt:But [C] s'.heap h'':=fun b o hb e=>(hs.2 b (fun q=>hb (by simp [q]))).trans e
 have one:∀ {P:Addr→Prop},P C→∀ b ∈ [C],P b:=fun p b q=>by rw [List.mem_singleton.mp q]; exact p
 exact ⟨μ',r.but bt od,I'.but bt (Nat.le_of_eq hs.1.symm) od (one ow) (one nm) (one bs),S'.but (one sz) bt (Nat.le_of_eq hs.1.symm),Q'⟩)
theorem ZdH {elt:Ex} {i k:Nat} {it:It} {ifs:Exs} (he:EOk W elt) (ht:TsOk W ifs) (hi:ItOk W it) (g:Gm) (p:Stmt) (c:Cx) (st:St) (μ:List Addr) (s:Shared) (hk:okS g (.asg i (.comp elt k it ifs)) p = true)
  (hs:swapsWith (pE (.comp elt k it ifs) (skid p 0)) (some (.Name (nmOf (skid p 1)) (skid p 1).pos)) p.pos.line c.env = pure true) (hg:Good W c g) (I:Inv c st μ s.heap) :
  Sim c (exec (pS (.asg i (.comp elt k it ifs)) p) c.env) (evS W.F K (.asg i (.comp elt k it ifs)) st) rFl st.σ μ s:=Sim.of_eq (exec_Assign_Name_used _ _ _ _ hs) (Sim.ok fun fl stF h=>by
 refine El.x2_2 (R.bind_inv h) fun y stE hv h=>?_
 cases h
 have h1:=and2 (and2 (and2 hk).2).1
 have h2:=and2 (and2 (and2 hk).2).2
 refine wpAny_bind (wpAny_standAt (wpAny_bind ?_))
 show wpAny _ c.A (do let _ ← comprehension (pE (.comp elt k it ifs) (skid p 0)) (scOf (skid p 0)) c.env _ (newList []) false (eval (pI it (kid (skid p 0) 2)) c.env) (some (assign (.Name (nmOf (skid p 1)) (skid p 1).pos) c.env))) _ _ s
 refine wpAny_bind (wpAny_mono (Z7u (Z4t h1.1) hg I (hi g _ c st μ s h1.2 hg I) (Z2t it _ _) (fun c hg st μ s I=>ht _ _ c st μ s h2.2 hg I) (fun c hg st μ s I=>he _ _ c st μ s h2.1 hg I) hv
  (use:=some (assign (.Name (nmOf (skid p 1)) (skid p 1).pos) c.env)) (Q:=fun _ s'=>∃ μ',rFl (setV stE i y) μ' s'.heap .next .next∧Inv c (setV stE i y) μ' s'.heap∧Stp c st.σ μ s.heap (setV stE i y).σ μ' s'.heap∧Same s s')
   fun D C μ' s' r I' S' Q' sz ow nm bs od hm=>?_) (fun _ s' hq=>wpAny_pure (wpAny_pure hq)) fun _ _ e=>e)
 refine El.x1_1 hm fun m hm=>?_
 refine wpAny_assign_Name (wpAny_mono (Z1k hg.nm (and2 hk).1 I' r) (fun _ s'' hq=>?_) fun _ _ e=>e)
 refine El.x1_4 hq fun μ₂ _ I₂ S₂ Q₂=>?_
 refine El.x1_2 (od C (by simp)) fun o ho hd=>?_
 have ho₂:=S₂.keep C o ho ow fun t=>nm t.mem
 refine ⟨m,hm.at' fun o' e=>(Option.some.inj (ho.symm.trans e)) ▸ ho₂,fun h'' hs=>?_⟩
 have bt:But [C] s''.heap h'':=fun b o hb e=>(hs.2 b (fun q=>hb (by simp [q]))).trans e
 have one:∀ {P:Addr→Prop},P C→∀ b ∈ [C],P b:=fun p b q=>by rw [List.mem_singleton.mp q]; exact p
 exact ⟨μ₂,trivial,I₂.but bt (Nat.le_of_eq hs.1.symm) (one ⟨o,ho₂,hd⟩) (one ow) (one fun q=>(S₂.new C q).elim nm fun q=>Nat.lt_irrefl _ (Nat.lt_of_lt_of_le (Heap.lt_size ho) q)) (one bs),(S'.trans S₂).but (one sz) bt (Nat.le_of_eq hs.1.symm),Q'.trans Q₂⟩)
end
theorem Inv.butP {c:Cx} {wr:List Addr} {st:St} {μ:List Addr} {h h':Heap} {TO:Addr} {m:Nat} (I:Inv c st μ h) (hm:st.σ[m]? = some .priv) (ha:μ[m]? = some TO) (k:But (TO :: wr) h h')
  (hsz:h.objs.size ≤ h'.objs.size) (od:Odd wr h) (own:∀ b ∈ wr,¬ Own c b) (mem:∀ b ∈ wr,b ∉ μ) (bs:∀ b ∈ wr,c.base.get? b = none):Inv c st μ h':=by
 have tT:Tr st.σ μ TO:=⟨m,_,hm,rfl,ha⟩
 have mT:TO ∈ μ:=List.mem_of_getElem? ha
 have nseq:∀ a o,h.get? a = some o→Z5Y o→¬ Tr st.σ μ a→a ∉ TO :: wr:=fun a o e hd hT q=>by
  rcases List.mem_cons.mp q with rfl | q
  ·exact hT tT
  ·refine El.x1_2 (od a q) fun o' e' hd'=>?_
   try clear o'; try clear tT
   obtain rfl:=Option.some.inj (e.symm.trans e')
   exact hd' hd
 have mv:∀ {v:Value} {x:V},RepV (Tr st.σ μ) μ h v x→RepV (Tr st.σ μ) μ h' v x:=fun r=>r.move (fun a o e hd hT=>⟨k a o (nseq a o e hd hT) e,hT⟩) fun _ _ q=>q
 have mvs:∀ {v:List Value} {x:List V},RepVs (Tr st.σ μ) μ h v x→RepVs (Tr st.σ μ) μ h' v x:=fun r=>r.move (fun a o e hd hT=>⟨k a o (nseq a o e hd hT) e,hT⟩) fun _ _ q=>q
 have own':∀ b ∈ TO :: wr,¬ Own c b:=fun b q o=>by
  try clear hd'; try clear e'; try clear nseq
  rcases List.mem_cons.mp q with rfl | q
  ·exact I.sep _ o mT
  ·exact own b q o
 have bs':∀ b ∈ TO :: wr,c.base.get? b = none:=fun b q=>by
  try clear own
  rcases List.mem_cons.mp q with rfl | q
  ·exact I.baseM _ mT
  ·exact bs b q
 refine ⟨fun i x q=>?_,fun i s q=>(I.slots i s q).keeps fun o e=>k _ o (fun m=>own' _ m ⟨i,s,q,rfl⟩) e,fun n o q=>?_,I.len,I.nd,fun a q=>Nat.lt_of_lt_of_le (I.lt a q) hsz,
  fun b o q=>k b o (fun m=>by rw [bs' b m] at q; cases q) (I.base b o q),I.baseS,I.baseM,I.sep,I.kd⟩
 ·refine El.x2_3 (I.vars i x q) fun s v g1 g2 g3=>?_
  exact ⟨s,v,g1,g2.keeps fun o e=>k _ o (fun m=>own' _ m ⟨i,s,g1,rfl⟩) e,mv g3⟩
 ·refine El.x1_2 (I.objs n o q) fun a hna r=>?_
  refine ⟨a,hna,?_⟩
  try clear g3; try clear g2; try clear g1; try clear v; try clear s; try clear o; try clear x; try clear i; try clear bs; try clear mv; try clear mT
  cases r with
  | dead=>exact .dead
  | priv=>exact .priv
  | live ho L r=>
   refine .live (k a _ (fun q'=>?_) ho) L (mvs r)
   try clear r; try clear mvs
   rcases List.mem_cons.mp q' with rfl | q'
   ·have:n = m:=(List.getElem?_inj (List.getElem?_eq_some_iff.mp hna).1 I.nd).mp (hna.trans ha.symm)
    try clear n
    subst this
    rw [hm] at q; cases q; cases L
   ·exact mem a q' (List.mem_of_getElem? hna)
structure ItrT (prog:Program) (w:World) (A:Around) (it TO:Addr) (fp wr nw:List Addr) (xs:List V) (σ₀:List O) (μ₀:List Addr) (h₀:Heap) (Sp:Nat→Heap→Prop):Prop where
 frame:∀ i h h',Sp i h→(∀ b ∈ fp,∀ o,h.get? b = some o→h'.get? b = some o)→Sp i h'
 odd:∀ i h,Sp i h→Odd wr h
 there:∀ i h,Sp i h→∀ b ∈ wr++nw,∃ o,h.get? b = some o
 new:∀ b ∈ TO :: (wr++nw),h₀.objs.size ≤ b
 fpo:∀ b ∈ fp,b = TO ∨ b ∈ wr++nw ∨ (∃ o vs n,h₀.get? b = some o∧o.data = .seq vs n∧¬ Tr σ₀ μ₀ b) ∨ ∃ k:Nat,σ₀[k]? = some O.priv∧μ₀[k]? = some b
 item:∀ elts k pos i x (s:Shared) (σ:List O) (μ:List Addr) (Q:Value→Shared→Prop),xs[i]? = some x→Sp i s.heap→Kp σ₀ μ₀ h₀ σ μ s.heap→(∀ a ∈ μ,a < s.heap.objs.size) →
  (∀ v h' tk,But (TO :: wr) s.heap h'→s.heap.objs.size ≤ h'.objs.size→Sp (i + 1) h'→RepV (Tr σ μ) μ h' v x→Q v { s with heap:=h',toks:=tk }) →
  wpAny (model prog w) A (pyNext (.ref it)) (fun r s₁=>match r with
   | none=>False
   | some v=>wpAny (model prog w) A (letOwnedTupleGo (.Tuple elts k pos) (.ref it) v) (fun _ s₂=>Q v s₂) (fun _ _=>False) s₁) (fun _ _=>False) s
 done:∀ (s:Shared) (Q:Option Value→Shared→Prop),Sp xs.length s.heap →
  (∀ h' tk,But (TO :: wr) s.heap h'→s.heap.objs.size ≤ h'.objs.size→Q none { s with heap:=h',toks:=tk })→wpAny (model prog w) A (pyNext (.ref it)) Q (fun _ _=>False) s
 again:∀ i (s:Shared) (Q:Value→Shared→Prop) (E:Value→Shared→Prop),Sp i s.heap→Q (.ref it) s→wpAny (model prog w) A (pyIter (.ref it)) Q E s
section
variable {c:Cx} {it TO:Addr} {fp wr nw:List Addr} {xs:List V} {σ₀:List O} {μ₀:List Addr} {h₀:Heap} {Sp:Nat→Heap→Prop}
theorem ItrT.keep (W:ItrT c.prog c.w c.A it TO fp wr nw xs σ₀ μ₀ h₀ Sp) {i m:Nat} {st:St} {σ':List O} {μ μ':List Addr} {h h':Heap} (own:∀ b ∈ wr++nw,¬ Own c b) (mem:∀ b ∈ wr++nw,b ∉ μ) (I:Inv c st μ h)
  (hm:st.σ[m]? = some .priv) (ha:μ[m]? = some TO)
  (K:Kp σ₀ μ₀ h₀ st.σ μ h) (S':Stp c st.σ μ h σ' μ' h') (sp:Sp i h):Sp i h'∧∀ b ∈ wr++nw,b ∉ μ':=by
 refine ⟨W.frame i h h' sp fun b q o e=>?_,fun b q m=>(S'.new b m).elim (mem b q) fun k=>?_⟩
 ·rcases W.fpo b q with rfl | q | ⟨o',vs,n,q1,q2,q3⟩ | ⟨k,q1,q2⟩
  rotate_left 3
  ·exact S'.pk k b o (K.pv k q1) (K.pre k b q2) e
  ·exact S'.pk m _ o hm ha e
  ·exact S'.keep b o e (own b q) fun t=>mem b q t.mem
  ·have e':=K.keep b o' q1 (.inl ⟨vs,n,q2⟩) q3
   obtain rfl:=Option.some.inj (e.symm.trans e')
   exact S'.keep b o e (fun q=>I.own_data q e (.inl ⟨vs,n,q2⟩)) fun t=>(K.tr b t).elim q3 fun k=>Nat.lt_irrefl _ (Nat.lt_of_lt_of_le (Heap.lt_size q1) k)
 ·refine El.x1_1 (W.there i h sp b q) fun o e=>?_
  exact Nat.lt_irrefl _ (Nat.lt_of_lt_of_le (Heap.lt_size e) k)
end
section
variable {c:Cx} {it TO:Addr} {fp wr nw:List Addr} {xs:List V} {σ₀:List O} {μ₀:List Addr} {h₀:Heap} {Sp:Nat→Heap→Prop}
theorem Z3y {elts:List Expr} {kk:Nat} {tp:Pos} {body:List Stmt} {as:V→St→R Unit} {bd:St→R Fl} {s₁:Shared} {st₁:St} {μ₁:List Addr} {m:Nat} (W:ItrT c.prog c.w c.A it TO fp wr nw xs σ₀ μ₀ h₀ Sp) (start:Sp 0 s₁.heap)
  (hA:∀ x v st μ (s:Shared),RepV (Tr st.σ μ) μ s.heap v x→Inv c st μ s.heap→Sim c (assign (.Tuple elts kk tp) c.env v) (as x st) rU st.σ μ s)
  (hB:∀ st μ (s:Shared),Inv c st μ s.heap→Sim c (execs body c.env) (bd st) rFl st.σ μ s)
  (I₁:Inv c st₁ μ₁ s₁.heap) (hm:st₁.σ[m]? = some .priv) (ha:μ₁[m]? = some TO) (K₁:Kp σ₀ μ₀ h₀ st₁.σ μ₁ s₁.heap) (mem₁:∀ b ∈ wr++nw,b ∉ μ₁) (own:∀ b ∈ wr++nw,¬ Own c b) (bs:∀ b ∈ wr,c.base.get? b = none)
  {σ':List O} {μ':List Addr} {h':Heap} (S₁:Stp c σ' μ' h' st₁.σ μ₁ s₁.heap) (nw':∀ b ∈ TO :: wr,h'.objs.size ≤ b)
  {fl:Fl} {stF:St} (hr:forR (fun x st=>(as x st).bind fun _ st=>bd st) xs st₁ = .ok fl stF) :
  codeAny (model c.prog c.w) c.A (.forLoop (.Tuple elts kk tp) (.ref it) body [] c.env) (fun r s'=>match r with
   | .ok f=>∃ μF,rFl stF μF s'.heap f fl∧Inv c stF μF s'.heap∧Stp c σ' μ' h' stF.σ μF s'.heap∧Same s₁ s'
   | .error _=>False) s₁:=by
 have memw:∀ {μ:List Addr},(∀ b ∈ wr++nw,b ∉ μ)→∀ b ∈ wr,b ∉ μ:=fun h b q=>h b (List.mem_append_left _ q)
 have ownw:∀ b ∈ wr,¬ Own c b:=fun b q=>own b (List.mem_append_left _ q)
 have wn:∀ b ∈ TO :: wr,h₀.objs.size ≤ b:=fun b q=>W.new b (by
  rcases List.mem_cons.mp q with rfl | q
  ·simp
  ·simp [q])
 refine Z4m (as:=as) (bd:=bd) (fl:=fl) (stF:=stF)
  (P:=fun i st μ s=>Sp i s.heap∧Inv c st μ s.heap∧(∀ b ∈ wr++nw,b ∉ μ)∧(st.σ[m]? = some .priv∧μ[m]? = some TO)∧Kp σ₀ μ₀ h₀ st.σ μ s.heap∧Stp c σ' μ' h' st.σ μ s.heap∧Same s₁ s) (D:=fun st μ s=>Inv c st μ s.heap∧Stp c σ' μ' h' st.σ μ s.heap∧Same s₁ s)
  (fun i st μ s h=>h.2.1) (fun i st μ s h=>⟨h.2.1,h.2.2.2.2.2⟩) (fun i st μ s st' μ'' s' h I' S' Q'=>?_) (fun i x st μ s Q hx h hQ=>?_) (fun st μ s Q h hQ=>?_) hA hB (fun μ s f h rf=>⟨μ,rf,h⟩)
  (st₁:=st₁) (μ₁:=μ₁) ⟨start,I₁,mem₁,⟨hm,ha⟩,K₁,S₁,.refl⟩ hr
 ·refine El.x0_2 (W.keep own h.2.2.1 h.2.1 h.2.2.2.1.1 h.2.2.2.1.2 h.2.2.2.2.1 S' h.1) fun hst₂ mem₂=>?_
  exact ⟨hst₂,I',mem₂,⟨S'.pv m h.2.2.2.1.1,S'.pre m _ h.2.2.2.1.2⟩,h.2.2.2.2.1.trans (S'.kp h.2.1),h.2.2.2.2.2.1.trans S',h.2.2.2.2.2.2.trans Q'⟩
 ·exact W.item elts kk tp i x s st.σ μ _ hx h.1 h.2.2.2.2.1 h.2.1.lt fun v h'' tk hk hsz hst' rv=>
   hQ v _ rv ⟨hst',h.2.1.butP h.2.2.2.1.1 h.2.2.2.1.2 hk hsz (W.odd i _ h.1) ownw (memw h.2.2.1) bs,h.2.2.1,h.2.2.2.1,h.2.2.2.2.1.but wn hk hsz,h.2.2.2.2.2.1.but nw' hk hsz,h.2.2.2.2.2.2⟩
 ·exact W.done s _ h.1 fun h'' tk hk hsz=>hQ _ ⟨h.2.1.butP h.2.2.2.1.1 h.2.2.2.1.2 hk hsz (W.odd _ _ h.1) ownw (memw h.2.2.1) bs,h.2.2.2.2.2.1.but nw' hk hsz,h.2.2.2.2.2.2⟩
end
theorem Z5x:∀ {is:List Nat} {xs:List V} {st st':St},Z7d st is xs = some st'→is.length = xs.length
 | [],[],_,_,_=>rfl
 | [],_ :: _,_,_,h=>by cases h
 | _ :: _,[],_,_,h=>by cases h
 | _ :: _,_ :: _,_,_,h=>congrArg (· + 1) (Z5x (is:=_) h)
theorem Z6n {env:Env}:∀ (is:List Nat) (ps:List Expr),(assignEach (pT is ps) env).length = is.length∧(assignEach (pT is ps) env).findIdx? (·.1) = none
 | [],_=>⟨rfl,rfl⟩
 | _ :: is,ps=>⟨congrArg (· + 1) (Z6n is ps.tail).1,(List.findIdx?_cons ..).trans (congrArg (Option.map (· + 1)) (Z6n is ps.tail).2)⟩
section
variable {W:Wo} {K:Nat}
theorem Z4w {c:Cx} {g:Gm} (hg:Good W c g):∀ (is:List Nat) (ps:List Expr) (vs:List Value) (ys:List V) (st st':St) (μ:List Addr) (s:Shared),okT' g is ps = true→RepVs (Tr st.σ μ) μ s.heap vs ys→Inv c st μ s.heap →
  Z7d st is ys = some st'→wpAny (model c.prog c.w) c.A (assignInOrder ((assignEach (pT is ps) c.env).map (·.2)) vs) (fun _ s'=>∃ μ',Inv c st' μ' s'.heap∧Stp c st.σ μ s.heap st'.σ μ' s'.heap∧Same s s') (fun _ _=>False) s
 | [],ps,vs,[],st,st',μ,s,_,r,I,h=>by
  cases h
  have e:vs = []:=r.out
  subst e
  exact wpAny_pure ⟨μ,I,.refl,.refl⟩
 | [],_,_,_ :: _,_,_,_,_,_,_,_,h=>by cases h
 | _ :: _,_,_,[],_,_,_,_,_,_,_,h=>by cases h
 | i :: is,ps,vs,y :: ys,st,st',μ,s,hk,r,I,h=>by
  refine El.x2_3 r.consI fun v vs e9 r0 rr=>?_
  subst e9
  refine wpAny_bind (wpAny_holding (wpAny_mono (Sim.imp (fun Q h=>wpAny_assign_Name h) (Z1k hg.nm (and2 hk).1 I r0)) (fun _ s₁ q8=>El.x1_4 q8 fun μ₁ _ I₁ S₁ Q₁=>?_) fun _ _ e=>e))
  exact wpAny_mono (Z4w hg is ps.tail vs ys (setV st i y) st' μ₁ s₁ (and2 hk).2 (rr.step (st':=setV st i y) I S₁) I₁ h) (fun _ s₂ q8=>El.x1_3 q8 fun μ₂ I₂ S₂ Q₂=>⟨μ₂,I₂,S₁.trans S₂,Q₁.trans Q₂⟩) fun _ _ e=>e
theorem Z2f {c:Cx} {g:Gm} (hg:Good W c g) {is:List Nat} {ps:List Expr} {kk:Nat} {tp:Pos} (hk:okT' g is ps = true) {st:St} {μ:List Addr} {s:Shared} {v:Value} {x:V} (r:RepV (Tr st.σ μ) μ s.heap v x) (I:Inv c st μ s.heap) :
  Sim c (assign (.Tuple (pT is ps) kk tp) c.env v) (asT is x st) rU st.σ μ s:=Sim.of_eq (arm_assign_Tuple ..) (Sim.ok fun _ st' h=>by
 refine El.x1_2 (Zfn h) fun xs e hs=>?_
 subst e
 refine El.x2_4 r.tup_inv fun a vs e ht hz rr=>?_
 subst e
 have hn:(assignEach (pT is ps) c.env).length = vs.size:=by rw [(Z6n is ps).1,Z5x hs,← rr.length,Array.length_toList]
 refine wpAny_bind (wpAny_standAt ?_)
 unfold unpack
 rw [hn,(Z6n is ps).2]
 refine wpAny_bind (wpAny_holding (Z05 (wpAny_unpackItems_tuple hg.hh ht fun h' he hsz=>?_)))
 have X:Ext s.heap h':=⟨hsz,fun b o e=>he b o (Nat.ne_of_lt (Heap.lt_size e)) e⟩
 exact wpAny_mono (Z4w hg is ps vs.toList xs st st' μ { s with heap:=h' } hk (rr.ext X) (I.ext X) hs) (fun _ s' q8=>El.x1_3 q8 fun μ' I' S' Q'=>⟨μ',trivial,I',(Stp.ext X).trans S',Q'⟩) fun _ _ e=>e)
theorem Zhd {v:Expr}:(v.ctorIdx == 16 || v.ctorIdx == 23 || v.ctorIdx == 21) = true→∀ (ts:List Expr) (k:Nat) (tp:Pos) (l:Nat) (env:Env),swapsWithSole [.Tuple ts k tp] v l env = pure false∧swappedStores [.Tuple ts k tp] v env = pure none:=by
 cases v <;> first | exact fun _ _ _ _ _ _=>⟨rfl,rfl⟩ | exact fun h=>absurd h Bool.false_ne_true
theorem ZdI {is:List Nat} {e:Ex} (he:EOk W e):SOk W K (.asgT is e):=fun g p c st μ s hk hg I=>Sim.ok fun fl stF h=>by
 refine El.x2_2 (R.bind_inv h) fun x st₁ hE h=>?_
 refine El.x2_2 (R.bind_inv h) fun _ st₂ hA h=>?_
 cases h
 have h1:=he g _ c st μ s (and2 hk).2 hg I
 rw [hE] at h1
 have q:=Zhd (and2 (and2 hk).1).2 (pT is (kids (skid p 1))) (kOf (skid p 1)) (skid p 1).pos p.pos.line c.env
 refine Assign_Tuple (wpAny_mono h1 (fun a s₁ q8=>El.x1_4 q8 fun μ₁ rx I₁ S₁ Q₁=>?_) fun _ _ e=>e) q.1 q.2
 have ha:=Z2f hg (and2 (and2 hk).1).1 (kk:=kOf (skid p 1)) (tp:=(skid p 1).pos) rx I₁
 rw [hA] at ha
 exact wpAny_mono ha (fun _ s₂ q8=>El.x1_4 q8 fun μ₂ _ I₂ S₂ Q₂=>⟨μ₂,trivial,I₂,S₁.trans S₂,Q₁.trans Q₂⟩) fun _ _ e=>e
end
theorem Inv.trackP {c:Cx} {st:St} {μ:List Addr} {h h':Heap} {TO:Addr} (I:Inv c st μ h) (X:Ext h h') (h1:h.objs.size ≤ TO) (h2:TO < h'.objs.size) :
  Inv c ⟨st.ρ,st.σ++[.priv]⟩ (μ++[TO]) h'∧Stp c st.σ μ h (st.σ++[.priv]) (μ++[TO]) h':=by
 have hnm:TO ∉ μ:=fun q=>Nat.lt_irrefl _ (Nat.lt_of_lt_of_le (I.lt _ q) h1)
 have tr:∀ b,Tr (st.σ++[.priv]) (μ++[TO]) b→Tr st.σ μ b ∨ h.objs.size ≤ b:=by
  intro b q0z
  refine El.x2_3 q0z fun k o' e1 e2 e3=>?_
  by_cases hk:k < st.σ.length
  ·rw [List.getElem?_append_left hk] at e1
   rw [List.getElem?_append_left (by rw [I.len]; exact hk)] at e3
   exact .inl ⟨k,o',e1,e2,e3⟩
  ·rw [List.getElem?_append_right (by rw [I.len]; lia)] at e3
   have hlt:k < (st.σ++[O.priv]).length:=(List.getElem?_eq_some_iff.mp e1).1
   simp only [List.length_append,List.length_singleton] at hlt
   have:k - μ.length = 0:=by rw [I.len]; lia
   rw [this] at e3
   have e4:TO = b:=by simpa using e3
   exact .inr (e4 ▸ h1)
 have S:Stp c st.σ μ h (st.σ++[.priv]) (μ++[TO]) h' :=
  ⟨X.1,fun b o' e _ _=>X.2 b o' e,fun k a e=>by rw [List.getElem?_append_left (List.getElem?_eq_some_iff.mp e).1]; exact e,
   tr,fun a q=>(List.mem_append.mp q).imp id fun e=>by rw [List.mem_singleton.mp e]; exact h1,fun k e=>by rw [List.getElem?_append_left (List.getElem?_eq_some_iff.mp e).1]; exact e,fun _ a o' _ _ q=>X.2 a o' q⟩
 have I':=I.ext X
 have nog:∀ o,h.get? TO ≠ some o:=fun o e=>Nat.lt_irrefl _ (Nat.lt_of_lt_of_le (Heap.lt_size e) h1)
 refine ⟨⟨fun i x q=>?_,I'.slots,fun k o' q=>?_,by simp [I.len],?_,fun a q=>?_,I'.base,I.baseS,fun a q=>?_,fun b q m=>?_,ZeN I.kd trivial⟩,S⟩
 ·refine El.x2_3 (I.vars i x q) fun sl v g1 g2 g3=>?_
  exact ⟨sl,v,g1,g2.keeps fun o' e=>X.2 _ o' e,g3.step (st':=⟨st.ρ,st.σ++[.priv]⟩) I S⟩
 ·dsimp only at q ⊢
  by_cases hk:k < st.σ.length
  ·rw [List.getElem?_append_left hk] at q
   refine El.x1_2 (I.objs k o' q) fun a ha r=>?_
   refine ⟨a,by rw [List.getElem?_append_left (by rw [I.len]; exact hk)]; exact ha,?_⟩
   exact r.map (fun _ ho=>(X.2 _ _ ho)) fun _ _ r=>(RepVs.step (st':=⟨st.ρ,st.σ++[.priv]⟩) I S r)
  ·have hlt:k < (st.σ++[O.priv]).length:=(List.getElem?_eq_some_iff.mp q).1
   simp only [List.length_append,List.length_singleton] at hlt
   have e0:k = st.σ.length:=by lia
   try clear r; try clear g3; try clear g2; try clear g1; try clear v; try clear sl; try clear x; try clear i; try clear S; try clear hlt; try clear e3; try clear e2
   subst e0
   have e4:O.priv = o':=by simpa using q
   try clear e0; try clear e1; try clear o'; try clear k; try clear q0z; try clear tr
   subst e4
   exact ⟨TO,by rw [← I.len]; simp,.priv⟩
 ·refine List.nodup_append.mpr ⟨I.nd,by simp,?_⟩
  intro a ha b hb
  rw [List.mem_singleton.mp hb]
  exact fun e=>hnm (e ▸ ha)
 ·rcases List.mem_append.mp q with q | q
  ·exact Nat.lt_of_lt_of_le (I.lt a q) X.1
  ·rw [List.mem_singleton.mp q]; exact h2
 ·rcases List.mem_append.mp q with q | q
  ·exact I.baseM a q
  ·rw [List.mem_singleton.mp q]
   cases hb:c.base.get? TO with
   | none=>rfl
   | some o=>exact absurd (I.base _ _ hb) (nog o)
 ·rcases List.mem_append.mp m with m | m
  ·exact I.sep b q m
  ·refine El.x1_1 (Z1Q I q) fun o ho=>?_
   rw [List.mem_singleton.mp m] at ho
   exact nog o ho
noncomputable def rZ (c:Cx) (z₀:Nat) (st:St) (μ:List Addr) (h:Heap) (v:Value) (xs:List V):Prop :=
 ∃ it TO fp wr nw σ₀ μ₀ h₀ Sp,v = .ref it∧ItrT c.prog c.w c.A it TO fp wr nw xs σ₀ μ₀ h₀ Sp∧Sp 0 h∧Kp σ₀ μ₀ h₀ st.σ μ h∧(∀ b ∈ wr++nw,b ∉ μ∧¬ Own c b∧c.base.get? b = none) ∧
  (∃ m:Nat,st.σ[m]? = some .priv∧μ[m]? = some TO)∧(∀ b ∈ wr,h₀.objs.size ≤ b)∧h₀.objs.size ≤ TO∧z₀ ≤ h₀.objs.size
theorem ItrT.of_walks {prog:Program} {w:World} {A:Around} {it TO:Addr} {fp wr wrW nw:List Addr} {xs:List V} {σ₀:List O} {μ₀:List Addr} {h₀:Heap} {Sp:Nat→Heap→Prop} {Pt:Nat→Array Value→Prop} {Mid:Nat→Addr→Heap→Prop}
  (W:WalksT prog w A it fp wrW xs.length Pt Sp Mid) (hwr:∀ b,b ∉ TO :: wr→b ∉ wrW) (odd:∀ i h,Sp i h→Odd wr h) (there:∀ i h,Sp i h→∀ b ∈ wr++nw,∃ o,h.get? b = some o) (new:∀ b ∈ TO :: (wr++nw),h₀.objs.size ≤ b)
  (fpo:∀ b ∈ fp,b = TO ∨ b ∈ wr++nw ∨ (∃ o vs n,h₀.get? b = some o∧o.data = .seq vs n∧¬ Tr σ₀ μ₀ b) ∨ ∃ k:Nat,σ₀[k]? = some O.priv∧μ₀[k]? = some b)
  (hP:∀ i x vals σ (μ:List Addr) (h:Heap),xs[i]? = some x→Pt i vals→Kp σ₀ μ₀ h₀ σ μ h→∃ ys,x = .tup ys∧vals.size ≤ sizeLine∧RepVs (Tr σ μ) μ h vals.toList ys) :
  ItrT prog w A it TO fp wr nw xs σ₀ μ₀ h₀ Sp where
 frame:=W.frame
 odd:=odd
 there:=there
 new:=new
 fpo:=fpo
 item:=by
  intro elts k pos i x s σ μ Q hx hst K lt hQ
  have wn:∀ b ∈ TO :: wr,h₀.objs.size ≤ b:=fun b q=>new b (by
   rcases List.mem_cons.mp q with rfl | q
   ·simp
   ·simp [q])
  refine Z05 (W.item i s _ _ (List.getElem?_eq_some_iff.mp hx).1 hst fun T vals g tk hp hT hIs hMid hk hsz=>?_)
  refine Z05 (W.go elts k pos i T _ _ _ hMid fun g' hst' hk' hsz'=>?_)
  have hk2:But (TO :: wr) s.heap g':=fun b o hb e=>hk' b o (hwr b hb) (hk b o (hwr b hb) e)
  have hsz2:s.heap.objs.size ≤ g'.objs.size:=Nat.le_trans hsz hsz'
  refine El.x1_3 (hP i x vals σ μ g' hx hp (K.but wn hk2 hsz2)) fun ys q1z hz r=>?_
  try clear ys; try clear hsz'; try clear hp; try clear vals; try clear wn; try clear K; try clear hx; try clear μ; try clear σ; try clear x; try clear pos; try clear k
  obtain rfl:=q1z
  obtain ⟨oT,hoT,hcT,nT,hdT⟩:=hIs
  exact hQ (.ref T) g' tk hk2 hsz2 hst' (.tup (hk' T oT (W.apart i T _ hMid) hoT) hcT hdT hz (fun t=>Nat.lt_irrefl _ (Nat.lt_of_lt_of_le (lt T t.mem) hT)) r)
 done:=fun s Q hst hQ=>Z05 (W.done s _ _ hst fun g tk hk hsz=>hQ g tk (fun b o hb e=>hk b o (hwr b hb) e) hsz)
 again:=W.self
theorem Z4x {c:Cx} {st:St} {μ:List Addr} {h:Heap} (I:Inv c st μ h) {b:Addr} (hb:h.objs.size ≤ b):b ∉ μ∧¬ Own c b∧c.base.get? b = none:=by
 refine ⟨fun m=>Nat.lt_irrefl _ (Nat.lt_of_lt_of_le (I.lt b m) hb),fun o=>?_,?_⟩
 ·refine El.x1_1 (Z1Q I o) fun ob hob=>?_
  exact Nat.lt_irrefl _ (Nat.lt_of_lt_of_le (Heap.lt_size hob) hb)
 ·cases hb':c.base.get? b with
  | none=>rfl
  | some o=>exact absurd (Nat.lt_of_lt_of_le (Heap.lt_size (I.base b o hb')) hb) (Nat.lt_irrefl _)
theorem Z9I:∀ {xs:List V} {k i:Nat} {p:V},(Z2S k xs)[i]? = some p→∃ x,xs[i]? = some x∧p = .tup [.int (k + i:Nat),x]
 | [],k,i,p,h=>by rw [Z7c] at h; cases h
 | x :: xs,k,0,p,h=>by cases h; exact ⟨x,rfl,rfl⟩
 | x :: xs,k,i + 1,p,h=>by
  refine El.x1_2 (Z9I (xs:=xs) (k:=k + 1) (i:=i) h) fun y h1 h2=>?_
  exact ⟨y,h1,by rw [h2,show k + 1 + i = k + (i + 1) by lia]⟩
theorem Z9J:∀ (xs:List V) (k:Nat),(Z2S k xs).length = xs.length
 | [],_=>rfl
 | _ :: xs,k=>congrArg (· + 1) (Z9J xs (k + 1))
theorem Zhe (z l:Nat) (h:l < z):z + 1 ≠ z∧l ≠ z + 1∧l ≠ z:=by lia
noncomputable def ESp (z l:Addr) (vs:Array Value) (i:Nat) (h:Heap):Prop:=(∃ old,IsEnum h (z + 1) z i old)∧h.IsListIter z l i∧h.IsList l vs
theorem ZbI {T:Addr→Prop} {μ:List Addr} {h:Heap} {vs:Array Value} {xs:List V} (r:RepVs T μ h vs.toList xs) {i:Nat} {x:V} {p:Value} (t:Tok) (hx:(Z2S 0 xs)[i]? = some x) (hp:vs[i]? = some p):∃ zs,x = .tup zs∧RepVs T μ h [.int (i:Int) t,p] zs:=by
 refine El.x1_2 (Z9I hx) fun x' hx' e=>El.x1_2 (r.get hx') fun u1 hu1 ru1=>⟨_,e,?_⟩
 obtain rfl:=Option.some.inj (hp.symm.trans ((Array.getElem?_toList).symm.trans hu1))
 rw [Nat.zero_add]
 exact .cons (.int _ _) (.cons ru1 .nil)
theorem ZdJ {prog:Program} {w:World} {A:Around} {σ:List O} {μ:List Addr} {h:Heap} {l:Addr} {vs:Array Value} {xs:List V} (hh:A.handled = none) (b1:(l:Nat) < h.objs.size) (h2:∃ o vs n,h.get? l = some o∧o.data = .seq vs n∧¬ Tr σ μ l) (r:RepVs (Tr σ μ) μ h vs.toList xs) :
  ItrT prog w A (h.objs.size + 1) (h.objs.size + 1) [h.objs.size + 1,h.objs.size,l] [h.objs.size] [] (Z2S 0 xs) σ μ h (ESp h.objs.size l vs):=by
 have e1:vs.size = (Z2S 0 xs).length:=by rw [Z9J,← r.length,Array.length_toList]
 refine El.x0_3 (Zhe _ _ b1) fun n1 n2 n3=>?_
 have W:=WalksT.enumerate (prog:=prog) (w:=w) (A:=A) hh (h.objs.size + 1) h.objs.size l n1 n2 n3 vs
 rw [e1] at W
 refine ItrT.of_walks (TO:=h.objs.size + 1) W (fun b hb=>hb) (fun i h q b hb=>?_) (fun i h q b hb=>?_) (fun b hb=>(List.mem_cons.mp hb).elim (fun e=>e ▸ Nat.le_add_right _ _) fun e=>Nat.le_of_eq (List.mem_singleton.mp e).symm)
  (fun b q=>(List.mem_cons.mp q).imp id fun q=>(List.mem_cons.mp q).elim (fun e:b = h.objs.size=>.inl (by rw [e]; exact List.mem_cons_self ..)) fun e=>.inr (.inl (by rw [List.mem_singleton.mp e]; exact h2)))
  fun i x vals σ' μ' h' hx hv K=>El.x2_2 hv fun t p hp e=>El.x1_2 (ZbI r t hx hp) fun zs e' r=>⟨zs,e',by rw [e]; exact (by decide:2 ≤ sizeLine),by rw [e]; exact r.kp K⟩
 ·rw [List.mem_singleton.mp hb]; exact El.x1_3 q.2.1 fun o e _ d=>⟨o,e,Z1S d⟩
 ·rw [List.mem_singleton.mp hb]; exact El.x1_2 q.2.1 fun o e _=>⟨o,e⟩
theorem ZbJ {c:Cx} {z₀:Nat} {st:St} {μ:List Addr} {s:Shared} {v:Value} {xs:List V} (hh:c.A.handled = none) (I:Inv c st μ s.heap) (hz₀:z₀ ≤ s.heap.objs.size) (rx:RepV (Tr st.σ μ) μ s.heap v (.lst xs)) :
  wpAny (model c.prog c.w) c.A (call (.type "enumerate") [v]) (fun w s'=>∃ μ',rZ c z₀ ⟨st.ρ,st.σ++[.priv]⟩ μ' s'.heap w (Z2S 0 xs)∧Inv c ⟨st.ρ,st.σ++[.priv]⟩ μ' s'.heap∧Stp c st.σ μ s.heap (st.σ++[.priv]) μ' s'.heap∧Same s s') (fun _ _=>False) s:=by
 refine El.x4_7 rx.lstI fun l o vs n e9 ho hc hd hz hT r=>?_
 rw [e9]
 have hl:s.heap.IsList l vs:=⟨o,ho,hc,n,hd⟩
 refine call_enumerate_list hl fun h' a1 a4 a6 a7=>?_
 refine El.x0_2 (I.trackP (TO:=s.heap.objs.size + 1) ⟨by lia,a7⟩ (Nat.le_add_right _ _) (show s.heap.objs.size + 1 < h'.objs.size by lia)) fun I' S'=>?_
 refine ⟨μ++[s.heap.objs.size + 1],⟨_,_,_,_,_,_,_,_,_,rfl,ZdJ hh (Heap.lt_size ho) ⟨o,vs,n,ho,hd,hT⟩ r,⟨⟨_,a1⟩,a4,hl.at fun o e=>a7 _ o e⟩,S'.kp I,fun b q=>?_,⟨st.σ.length,List.getElem?_concat_length,by rw [← I.len]; exact List.getElem?_concat_length⟩,fun b q=>Nat.le_of_eq (List.mem_singleton.mp q).symm,Nat.le_add_right _ _,hz₀⟩,I',S',⟨rfl,rfl,rfl⟩⟩
 have hb:b = s.heap.objs.size:=List.mem_singleton.mp (by rwa [List.append_nil] at q)
 have fa:=Z4x I (b:=b) (Nat.le_of_eq hb.symm)
 exact ⟨fun m=>(List.mem_append.mp m).elim fa.1 fun m=>Nat.succ_ne_self _ ((List.mem_singleton.mp m).symm.trans hb),fa.2⟩
section
variable {W:Wo} {K:Nat}
noncomputable def ZOk (W:Wo) (it:It):Prop:=∀ (g:Gm) (p:Expr) (c:Cx) (st:St) (μ:List Addr) (s:Shared),okZ g it p = true→Good W c g→Inv c st μ s.heap→Sim c (eval (pI it p) c.env) (evIt W.F it st) (rZ c s.heap.objs.size) st.σ μ s
theorem ZdK {a:Ex} (ha:EOk W a):ZOk W (.enum a):=fun g p c st μ s hk hg I=>by
 have h:=ha g _ c st μ s (and2 hk).2 hg I
 refine Sim.of_eq (arm_eval_Call_Name' ..) (Sim.name hg I (and2 hk).1 (by decide) Z5h (Sim.of_m (Z2r ..) (Sim.via (f:=fun vs=>call (.type "enumerate") vs) (fun Q h=>ZfS (fun y=>Z1R (Z0m a _)) h) (Z30 (pos:=p.pos) (Z0m a _) h) fun y st₂ vs μ₂ s₂ _ hu I₂ S₂=>El.x1_2 hu fun u e ry=>?_)))
 subst e
 cases y <;> try trivial
 exact ZbJ hg.hh I₂ S₂.size ry
theorem ZdL {is:List Nat} {it:It} {body:Sms} (hZ:ZOk W it) (hb:SsOk W K body):SOk W K (.forT is it body):=fun g p c st μ s hk hg I=>Sim.ok fun fl stF hr=>by
 refine El.x2_2 (R.bind_inv hr) fun xs st₁ hR hr=>?_
 have hI:=hZ g _ c st μ s (and2 (and2 hk).2).1 hg I
 rw [hR] at hI
 refine wpAny_For (wpAny_mono hI (fun v s₁ q8=>El.x1_4 q8 fun μ₁ rs I₁ S₁ Q₁=>?_) fun _ _ e=>e) (Z2t it _ _)
 refine El.x9_9 rs fun I0 TO fp wr nw σ₀ μ₀ h₀ Sp q7z W' sp Kp₀ hw q8z wn wt hz=>?_
 try clear Sp; try clear h₀; try clear μ₀; try clear σ₀; try clear nw; try clear wr; try clear fp; try clear TO; try clear I0; try clear rs; try clear μ₁; try clear hI
 obtain rfl:=q7z
 refine El.x1_2 q8z fun m hm1 hm2=>?_
 refine W'.again 0 s₁ _ _ sp ?_
 refine codeAny_mono (Z3y (elts:=pT is (kids (skid p 0))) (kk:=kOf (skid p 0)) (tp:=(skid p 0).pos) (body:=pSs body (blk p)) (as:=asT is) (bd:=fun st=>evSs W.F K body st) W' sp (fun y v st μ s r I=>Z2f hg (and2 hk).1 r I)
  (fun st μ s I=>hb g _ c st μ s (and2 (and2 hk).2).2 hg I) I₁ hm1 hm2 Kp₀ (fun b q=>(hw b q).1) (fun b q=>(hw b q).2.1) (fun b q=>(hw b (List.mem_append_left _ q)).2.2) S₁
  (fun b q=>Nat.le_trans hz (by
   try clear hm2; try clear hm1; try clear m; try clear hz; try clear q8z; try clear hw; try clear Kp₀; try clear sp; try clear W; try clear q7z; try clear S₁; try clear I₁
   rcases List.mem_cons.mp q with rfl | q
   ·exact wt
   ·exact wn b q)) (fl:=fl) (stF:=stF) hr) ?_
 rintro r s' hr'
 try clear s'; try clear wt; try clear wn; try clear I; try clear hg; try clear e3; try clear e2; try clear e1; try clear s; try clear μ; try clear st; try clear c
 cases r with
 | ok f=>
  refine El.x1_4 hr' fun μ' g1 g2 g3 g4=>?_
  exact ⟨μ',g1,g2,g3,Q₁.trans g4⟩
 | error e=>exact hr'.elim
end
theorem Zas {p p':Program} {w w':World} {es:List DictEntry} {kvs:List (Int × Value)} (h:Pairs (intKind p w) es kvs):Pairs (intKind p' w') es kvs:=by
 induction h with
 | nil=>exact .nil
 | cons a b _ ih=>exact .cons a b ih
theorem Z4y {p:Program} {w:World} {o:Obj} {kvs:List (Int × Value)} (h:o.IsDictOf (intKind p w) kvs):∀ (p':Program) (w':World),o.IsDictOf (intKind p' w') kvs:=fun p' w'=>
 let ⟨es,ep,h1,h2,h3,h4,h5⟩:=h
 ⟨es,ep,h1,h2,h3,Zas h4,h5⟩
theorem Z8E {kvs:List (Int × Value)} {ys:List (Int × V)} (h:kvs.map (·.1) = ys.map (·.1)) (k:Int) (u:Value) (v:V):(stored kvs k u).map (·.1) = (Z0T ys k v).map (·.1):=by
 have ha:(kvs.any fun p=>p.1 = k) = (ys.any fun p=>p.1 = k):=by
  have:=congrArg (fun l:List Int=>l.any fun x=>x = k) h
  simpa [List.any_map,Function.comp_def] using this
 unfold stored Z0T
 rw [ha]
 split
 ·rw [List.map_map,List.map_map]
  have e1:(fun kv:Int × Value=>kv.1) ∘ (fun kv=>if kv.1 = k then (kv.1,u) else kv) = fun kv=>kv.1:=by funext kv; simp only [Function.comp]; split <;> rfl
  have e2:(fun kv:Int × V=>kv.1) ∘ (fun kv=>if kv.1 = k then (kv.1,v) else kv) = fun kv=>kv.1:=by funext kv; simp only [Function.comp]; split <;> rfl
  rw [e1,e2]; exact h
 ·rw [List.map_append,List.map_append,h]; rfl
theorem Z4z {T:Addr→Prop} {μ:List Addr} {h:Heap} {k:Int} {u:Value} {v:V} (ru:RepV T μ h u v):∀ {kvs:List (Int × Value)} {ys:List (Int × V)},kvs.map (·.1) = ys.map (·.1)→RepVs T μ h (kvs.map (·.2)) (ys.map (·.2))→RepVs T μ h ((kvs.map fun p=>if p.1 = k then (p.1,u) else p).map (·.2)) ((ys.map fun p=>if p.1 = k then (p.1,v) else p).map (·.2))
 | [],[],_,_=>.nil
 | [],_ :: _,e,_=>by cases e
 | _ :: _,[],e,_=>by cases e
 | p :: kvs,q :: ys,e,r=>by
  have e1:p.1 = q.1:=(List.cons.inj e).1
  have e2:=(List.cons.inj e).2
  refine El.x2_3 r.consI fun v9 vs9 e9 a r=>?_
  try clear vs9; try clear v9
  cases e9
  refine .cons ?_ (Z4z ru e2 r)
  dsimp only
  by_cases hk:p.1 = k
  ·rw [if_pos hk,if_pos (e1 ▸ hk)]; exact ru
  ·rw [if_neg hk,if_neg (e1 ▸ hk)]; exact a
theorem Zat {T:Addr→Prop} {μ:List Addr} {h:Heap} {k:Int} {u:Value} {v:V} (ru:RepV T μ h u v) {kvs:List (Int × Value)} {ys:List (Int × V)} (e:kvs.map (·.1) = ys.map (·.1)) (r:RepVs T μ h (kvs.map (·.2)) (ys.map (·.2))):RepVs T μ h ((stored kvs k u).map (·.2)) ((Z0T ys k v).map (·.2)):=by
 have ha:(kvs.any fun p=>p.1 = k) = (ys.any fun p=>p.1 = k):=by
  have:=congrArg (fun l:List Int=>l.any fun x=>x = k) e
  simpa [List.any_map,Function.comp_def] using this
 unfold stored Z0T
 rw [ha]
 split
 ·exact Z4z ru e r
 ·rw [List.map_append,List.map_append]
  exact r.append (.cons ru .nil)
section
variable {W:Wo} {K:Nat}
theorem Z4A:EOk W .dictM:=fun g p c st μ s hk hg I=>by
 refine El.x0_2 (I.track (o:={ cls:=.type "dict",data:=.dict #[] }) (ob:=.idict []) rfl rfl trivial fun T hT=>.live (Heap.get?_push_size _ rfl) (.idict (kvs:=[]) (fun p w=>⟨#[],0,⟨rfl,rfl,rfl⟩,rfl,fun _ he=>by simp at he,.nil,List.nodup_nil⟩) (Nat.zero_le _) rfl) .nil) fun I₂ S₂=>?_
 exact wpAny_Dict_empty ⟨_,.ref (by rw [← I.len]; simp),I₂,S₂,.refl⟩
theorem RepVs.setAt {T:Addr→Prop} {μ:List Addr} {h:Heap} {vs:List Value} {xs:List V} {u:Value} {v:V} (r:RepVs T μ h vs xs) (ru:RepV T μ h u v) (k:Nat):RepVs T μ h (vs.set k u) (xs.set k v):=by
 refine RepVs.of_get (by rw [List.length_set,List.length_set,r.length]) fun i a b ha hb=>?_
 by_cases hk:k = i
 ·try clear b; try clear a; try clear i
  subst hk
  rw [List.getElem?_set_self'] at ha hb
  cases e1:vs[k]? with
  | none=>rw [e1] at ha; cases ha
  | some _=>
   cases e2:xs[k]? with
   | none=>rw [e2] at hb; cases hb
   | some _=>rw [e1] at ha; rw [e2] at hb; cases ha; cases hb; exact ru
 ·rw [List.getElem?_set_ne hk] at ha hb
  refine El.x1_2 (r.get hb) fun w hw rw'=>?_
  rw [hw] at ha; cases ha; exact rw'
section
variable {prog:Program} {w:World} {A:Around} {E:Value→Shared→Prop} {s:Shared}
theorem Z6o {l:Addr} {items:Array Value} {n j:Nat} {k:Int} {t:Tok} {v:Value} {Q:Unit→Shared→Prop} (ho:s.heap.get? l = some { cls:=.type "list",data:=.seq items n }) (hk:k = (j:Int)) (hj:j < items.size) (hz:items.size ≤ sizeLine)
  (hQ:Q () { s with heap:=s.heap.update l (Obj.mapSeq (·.setIfInBounds j v)) }):wpAny (model prog w) A (setItem (.ref l) (.int k t) v) Q E s:=by
 have hl:s.heap.IsList l items:=⟨_,ho,rfl,n,rfl⟩
 have hfit:k < 2 ^ 63:=by have:=Z1a hz; lia
 unfold setItem
 try with_reducible refine wpAny_holding ?_
 first | refine wpAny_bind (wpAny_pure ?_) | skip
 refine wpAny_bind (wpAny_sequenceKey hl.typeIs (by decide) ?_)
 refine wpAny_bind (wpAny_callSpecial?_slot (name:=Str.ofString "__setitem__") hl.typeIs slot_list_setitem (wpAny_call_entry slot_list_setitem hl.typeIs entry_list_setitem ?_ (args_list_setitem _ _ _)))
 show wpAny _ _ (Builtin.List.listSubscript? (.int k t) >>= _) _ _ s
 refine wpAny_bind (wpAny_listSubscript_int (fitsIndex_of (by lia) hfit) ?_)
 clear hfit
 try clear hfit; try clear hl
 subst hk
 have hx:items[j]? = some items[j]:=Array.getElem?_eq_getElem hj
 show wpAny _ _ ((seqItemAt l j >>= fun r=>pure (r.map (j,·))) >>= _) _ _ s
 refine wpAny_bind (wpAny_bind (wpAny_seqItemAt ho rfl (wpAny_pure ?_)))
 rw [hx]
 show wpAny _ _ (setSeqItemAt l j v >>= _) _ _ s
 refine wpAny_bind (wpAny_setSeqItemAt ho rfl ?_)
 first
  | exact wpAny_bind (wpAny_pure (wpAny_pure ⟨.none,rfl,wpAny_pure hQ⟩))
  | exact wpAny_pure ⟨.none,rfl,wpAny_pure hQ⟩
end
section
variable {c:Cx} {st:St} {μ:List Addr} {s:Shared} {u w:Value} {v:V} {m:Nat} {tk:Tok}
theorem ZdM {k:Nat} {xs:List V} (I:Inv c st μ s.heap) (rx:RepV (Tr st.σ μ) μ s.heap u (.ref m)) (rv:RepV (Tr st.σ μ) μ s.heap w v) (hσ:st.σ[m]? = some (.lst xs)) (hlt:k < xs.length) :
  wpAny (model c.prog c.w) c.A (setItem u (.int k tk) w) (fun _ s'=>∃ μ',Inv c ⟨st.ρ,st.σ.set m (.lst (xs.set k v))⟩ μ' s'.heap∧Stp c st.σ μ s.heap (st.σ.set m (.lst (xs.set k v))) μ' s'.heap∧Same s s') (fun _ _=>False) s:=by
 refine El.x2_4 (I.ref_inv rx hσ) fun d vs e q hz r=>?_
 subst e
 refine El.x1_1 q fun k' ho=>?_
 have el:=r.length
 rw [Array.length_toList] at el
 have hob:(s.heap.update d (Obj.mapSeq (·.setIfInBounds k w))).get? d = some { cls:=.type "list",data:=.seq (vs.setIfInBounds k w) _ }:=IsL.update ho _
 refine El.x0_2 (I.updL (xs':=xs.set k v) hσ rx.refA (Heap.SameBut.update ..) hob (by rw [Array.size_setIfInBounds]; exact hz) (by rw [Array.toList_setIfInBounds]; exact r.setAt rv k)) fun I' S'=>?_
 exact Z6o ho rfl (by rw [el]; exact hlt) hz ⟨μ,I',S',⟨rfl,rfl,rfl⟩⟩
theorem ZfZ {k:Option (List Int) × Str} {H:Option (List Int) × Str→Int} {es:List ((Option (List Int) × Str) × V)} {ku:Value} (ok:CxOk c) (I:Inv c st μ s.heap) (rx:RepV (Tr st.σ μ) μ s.heap u (.ref m)) (rk:RepV (Tr st.σ μ) μ s.heap ku (kV k)) (rv:RepV (Tr st.σ μ) μ s.heap w v) (hσ:st.σ[m]? = some (.kdict H es)) (hz:es.length < sizeLine) (hf:(es.find? fun p=>p.1 = k) = none) :
  wpAny (model c.prog c.w) c.A (setItem u ku w) (fun _ s'=>∃ μ',Inv c ⟨st.ρ,st.σ.set m (.kdict H (es++[(k,v)]))⟩ μ' s'.heap∧Stp c st.σ μ s.heap (st.σ.set m (.kdict H (es++[(k,v)]))) μ' s'.heap∧Same s s') (fun _ _=>False) s:=by
 obtain ⟨d,o,xs,rfl,hd,_,hH,ho,L,hm,r1,r2⟩:=Z65 ok I rx hσ
 obtain ⟨a,rfl,hi⟩:=Z9o rk
 have hlen:xs.length = es.length:=by have:=congrArg List.length L.keys; simpa using this
 have hn:atKey xs k = none:=by
  rcases Zdi (k:=k) L.keys r2 with ⟨h1,_⟩ | ⟨p,z,_,h2,_⟩
  ·exact h1
  ·rw [hf] at h2; cases h2
 refine wpAny_setItem_heap (have:=ok.units; by show c.A.units + 1 + 2 < cLine; lia) (hi _ _) hm (fun h' hm' hs'=>?_) (by rw [hlen]; exact Nat.le_of_lt hz)
 rw [storedH_new hn] at hm'
 obtain ⟨o',ds,ep,ho',hE,hd',he,_,hnd⟩:=hm'
 have tE:Tr (st.σ.set m (.kdict H es)) μ = Tr st.σ μ:=funext fun b=>propext (Z1F hσ rfl rfl)
 have S:Stp c st.σ μ s.heap (st.σ.set m (.kdict H es)) μ h' :=
  ⟨Nat.le_of_eq hs'.1.symm,fun b ob q _ hT=>(hs'.2 b (fun (k:b = d)=>hT (k ▸ ⟨m,_,hσ,rfl,hd⟩))).trans q,fun _ _ q=>q,fun b q=>.inl (by rwa [tE] at q),fun _ q=>.inl q,Z45 hσ (by simp),fun k b ob e1 e2 e3=>(hs'.2 b fun x=>by
   have:m = k:=(List.getElem?_inj (List.getElem?_eq_some_iff.mp hd).1 I.nd).mp (hd.trans (x ▸ e2.symm))
   subst this; rw [hσ] at e1; cases e1).trans e3⟩
 have r:=(r1.append (.cons rk .nil)).append (r2.append (.cons rv .nil))
 have r:=r.step (st':=⟨st.ρ,st.σ.set m (.kdict H es)⟩) I S
 dsimp only at r
 rw [tE] at r
 have K:KLay H o' (xs++[(k,a,w)]) (es++[(k,v)]):=⟨hE,⟨ds,ep,hd',by rw [he,hH]; rfl⟩,hnd,by rw [List.length_append,hlen]; exact hz,by rw [List.map_append,List.map_append,L.keys]; rfl⟩
 have R:RepO (Tr st.σ μ) μ h' d (.kdict H (es++[(k,v)])):=.live ho' (.kdict K) (by rw [List.map_append,List.map_append,List.map_append,List.map_append]; exact r)
 refine El.x0_2 (I.upd hσ hd rfl rfl (.of hs') R (by simp) hH) fun I' S'=>?_
 exact ⟨μ,I',S',⟨rfl,rfl,rfl⟩⟩
theorem ZdN {k:Int} {es:List (Int × V)} (I:Inv c st μ s.heap) (rx:RepV (Tr st.σ μ) μ s.heap u (.ref m)) (rv:RepV (Tr st.σ μ) μ s.heap w v) (hσ:st.σ[m]? = some (.idict es)) (hz:es.length < sizeLine) :
  wpAny (model c.prog c.w) c.A (setItem u (.int k tk) w) (fun _ s'=>∃ μ',Inv c ⟨st.ρ,st.σ.set m (.idict (Z0T es k v))⟩ μ' s'.heap∧Stp c st.σ μ s.heap (st.σ.set m (.idict (Z0T es k v))) μ' s'.heap∧Same s s') (fun _ _=>False) s:=by
 refine El.x1_2 rx.refI fun d e9 hd=>?_
 subst e9
 refine El.x1_2 (I.objs m _ hσ) fun d' hd' ro=>?_
 have ed:d = d':=Option.some.inj (hd.symm.trans hd')
 subst ed
 refine El.x2_5 ro.idictI fun ob kvs ho hD hzk hkk r=>?_
 have hlen:kvs.length = es.length:=by have:=congrArg List.length hkk; simpa using this
 refine wpAny_setItem_pairs (knd:=intKind c.prog c.w) (k:=k) (by simp [intKind,Value.isInt]) (Heap.dictOf_iff.mpr ⟨_,ho,hD c.prog c.w⟩) (fun h' hm' hs'=>?_) (by rw [hlen]; exact Nat.le_of_lt hz)
 refine El.x1_2 (Heap.dictOf_iff.mp hm') fun o' ho' hD'=>?_
 have tE:Tr (st.σ.set m (.idict es)) μ = Tr st.σ μ:=funext fun b=>propext (Z1F hσ rfl rfl)
 have S:Stp c st.σ μ s.heap (st.σ.set m (.idict es)) μ h' :=
  ⟨Nat.le_of_eq hs'.1.symm,fun b ob q _ hT=>(hs'.2 b (fun (k:b = d)=>hT (k ▸ ⟨m,_,hσ,rfl,hd⟩))).trans q,fun _ _ q=>q,fun b q=>.inl (by rwa [tE] at q),fun _ q=>.inl q,Z45 hσ (by simp),fun k b ob e1 e2 e3=>(hs'.2 b fun x=>by
   have:m = k:=(List.getElem?_inj (List.getElem?_eq_some_iff.mp hd).1 I.nd).mp (hd.trans (x ▸ e2.symm))
   subst this; rw [hσ] at e1; cases e1).trans e3⟩
 have r1:=r.step (st':=⟨st.ρ,st.σ.set m (.idict es)⟩) I S
 have r2:=rv.step (st':=⟨st.ρ,st.σ.set m (.idict es)⟩) I S
 dsimp only at r1 r2
 rw [tE] at r1 r2
 have hst:(stored kvs k w).length ≤ sizeLine:=by
  unfold stored; split
  ·rw [List.length_map,hlen]; exact Nat.le_of_lt hz
  ·rw [List.length_append,hlen]; exact hz
 refine El.x0_2 (I.upd hσ hd rfl rfl (.of hs') (.live ho' (.idict (Z4y hD') hst (Z8E hkk k w v)) (Zat r2 hkk r1)) (by simp) trivial) fun I' S'=>?_
 exact ⟨μ,I',S',⟨rfl,rfl,rfl⟩⟩
end
theorem ZdO {c:Cx} {st stF:St} {μ:List Addr} {s:Shared} {u iv w:Value} {x y v:V} {fl:Fl} (ok:CxOk c) (I:Inv c st μ s.heap) (rx:RepV (Tr st.σ μ) μ s.heap u x) (ry:RepV (Tr st.σ μ) μ s.heap iv y) (rv:RepV (Tr st.σ μ) μ s.heap w v) (h:setI x y v st = .ok fl stF) :
  fl = .next∧wpAny (model c.prog c.w) c.A (setItem u iv w) (fun _ s'=>∃ μ',Inv c stF μ' s'.heap∧Stp c st.σ μ s.heap stF.σ μ' s'.heap∧Same s s') (fun _ _=>False) s:=by
 refine Z0d h fun m em h=>?_
 have rx:=Z1I em ▸ rx
 refine ZeP h (fun h=>Z0d h fun k ek h=>Z0d h fun p hp h=>Z8h h fun hz h=>?_) fun h=>Z0d h fun k ek h=>?_
 ·have hz:=Bool.and_eq_true_iff.mp hz
  rw [ok1 h,ok2 h]
  exact ⟨rfl,ZfZ ok I rx (Z9n ek ▸ ry) rv (Z7e hp) (of_decide_eq_true hz.1) (Option.isNone_iff_eq_none.mp hz.2)⟩
 refine El.x1_1 (RepV.int_inv (Z0I ek ▸ ry)) fun tk e=>ZeP h (fun h=>Z0d h fun es e1 h=>Z8h h fun hz h=>?_) fun h=>Z0d h fun xs e1 h=>Z8h h fun hz h=>?_
 ·rw [ok1 h,ok2 h]
  exact ⟨rfl,e ▸ ZdN I rx rv (Z1J e1) hz⟩
 ·refine El.x1_1 (Int.eq_ofNat_of_zero_le hz.1) fun j ej=>?_
  rw [ok1 h,ok2 h,e]
  subst ej
  exact ⟨rfl,ZdM I rx rv (Z1o e1) (Int.ofNat_lt.mp hz.2)⟩
theorem ZdP {a i e:Ex} (ha:EOk W a) (hi:EOk W i) (he:EOk W e):SOk W K (.asgI a i e):=fun g p c st μ s hk hg I=>Sim.ok fun fl stF hR=>by
 refine El.x2_2 (R.bind_inv hR) fun v' st₁ hE hR=>?_
 refine El.x2_2 (R.bind_inv hR) fun x st₂ hA hR=>?_
 refine El.x2_2 (R.bind_inv hR) fun y st₃ hI hR=>?_
 have b1:=he g _ c st μ s (and2 (and2 hk).1).2 hg I
 rw [hE] at b1
 refine wpAny_Assign_Subscript (wpAny_mono b1 (fun u s₁ q8=>El.x1_4 q8 fun μ₁ rv I₁ S₁ Q₁=>?_) fun _ _ e=>e) (Z3O (and2 (and2 hk).1).1)
 have b2:=ha g _ c st₁ μ₁ s₁ (and2 (and2 hk).2).1 hg I₁
 rw [hA] at b2
 refine wpAny_mono b2 (fun ov s₂ q8=>El.x1_4 q8 fun μ₂ rx I₂ S₂ Q₂=>?_) fun _ _ e=>e
 have b3:=hi g _ c st₂ μ₂ s₂ (and2 (and2 hk).2).2 hg I₂
 rw [hI] at b3
 refine wpAny_mono b3 (fun iv s₃ q8=>El.x1_4 q8 fun μ₃ ry I₃ S₃ Q₃=>?_) fun _ _ e=>e
 refine El.x0_2 (ZdO hg.ok I₃ (RepV.step I₂ S₃ rx) ry (RepV.step I₂ S₃ (RepV.step I₁ S₂ rv)) hR) fun e hw=>?_
 subst e
 exact wpAny_mono hw (fun _ s₄ q8=>El.x1_3 q8 fun μ₄ I₄ S₄ Q₄=>⟨μ₄,trivial,I₄,((S₁.trans S₂).trans S₃).trans S₄,((Q₁.trans Q₂).trans Q₃).trans Q₄⟩) fun _ _ e=>e
end
theorem ZbK:attrNames.Nodup:=by decide +kernel
theorem Z9K {y:Str} (h:y ∈ attrNames):typeLookup (.type "object") y = pure none:=by
 simp only [attrNames,List.mem_cons,List.not_mem_nil,or_false] at h
 rcases h with rfl | rfl | rfl | rfl | rfl <;> (rw [typeLookup_type,builtinLookup_eq_fast]; kernel_rfl)
theorem ZeW {y:Str} {v:Value}:∀ {ns:List Str} {vs:List Value} {k:Nat},ns.Nodup→ns[k]? = some y→vs[k]? = some v→(ns.zip vs).lookup y = some v
 | [],_,_,_,h,_=>by simp at h
 | n :: ns,[],_,_,_,h=>by simp at h
 | n :: ns,u :: vs,0,_,h,h'=>by
  obtain rfl:n = y:=by simpa using h
  obtain rfl:u = v:=by simpa using h'
  simp [List.zip_cons_cons,List.lookup_cons]
 | n :: ns,u :: vs,k + 1,hn,h,h'=>by
  rw [List.nodup_cons] at hn
  rw [List.getElem?_cons_succ] at h h'
  have hne:(y == n) = false:=by rw [beq_eq_false_iff_ne]; rintro rfl; exact hn.1 (List.mem_of_getElem? h)
  rw [List.zip_cons_cons,List.lookup_cons,hne]
  exact ZeW hn.2 h h'
theorem ZbL {y:Str} {v:Value}:∀ {ns:List Str} {vs:List Value} {k:Nat},ns.Nodup→ns[k]? = some y→k ≤ vs.length→∀ z,(if z = y then some v else (ns.zip vs).lookup z) = (ns.zip (if k < vs.length then vs.set k v else vs++[v])).lookup z
 | [],_,_,_,h,_,_=>by simp at h
 | n :: ns,[],0,_,h,_,z=>by
  obtain rfl:n = y:=by simpa using h
  by_cases hz:z = n
  ·subst hz; simp [List.zip_cons_cons,List.lookup_cons]
  ·have:(z == n) = false:=by rw [beq_eq_false_iff_ne]; exact hz
   simp [List.zip_cons_cons,List.lookup_cons,hz,this]
 | n :: ns,[],k + 1,_,_,h,_=>by simp at h
 | n :: ns,u :: vs,0,_,h,_,z=>by
  obtain rfl:n = y:=by simpa using h
  by_cases hz:z = n
  ·subst hz; simp [List.zip_cons_cons,List.lookup_cons]
  ·have:(z == n) = false:=by rw [beq_eq_false_iff_ne]; exact hz
   simp [List.zip_cons_cons,List.lookup_cons,hz,this]
 | n :: ns,u :: vs,k + 1,hn,h,hk,z=>by
  rw [List.nodup_cons] at hn
  rw [List.getElem?_cons_succ] at h
  have ih:=ZbL (v:=v) (vs:=vs) hn.2 h (by simpa using hk) z
  have e:(if k + 1 < (u :: vs).length then (u :: vs).set (k + 1) v else u :: vs++[v]) = u :: (if k < vs.length then vs.set k v else vs++[v]):=by
   by_cases hl:k < vs.length
   ·rw [if_pos hl,if_pos (by simpa using hl)]; rfl
   ·rw [if_neg hl,if_neg (by simpa using hl)]; rfl
  rw [e,List.zip_cons_cons,List.zip_cons_cons,List.lookup_cons,List.lookup_cons,← ih]
  by_cases hz:z = n
  ·try clear e; try clear ih
   subst hz
   have:z ≠ y:=by rintro rfl; exact hn.1 (List.mem_of_getElem? h)
   rw [if_neg this]; simp
  ·have:(z == n) = false:=by rw [beq_eq_false_iff_ne]; exact hz
   rw [this]
theorem RepVs.set {T:Addr→Prop} {μ:List Addr} {h:Heap} {v:Value} {x:V} (r:RepV T μ h v x):∀ {vs:List Value} {xs:List V} (k:Nat),RepVs T μ h vs xs→RepVs T μ h (vs.set k v) (xs.set k x)
 | _,_,_,.nil=>.nil
 | _,_,0,.cons _ b=>.cons r b
 | _,_,k + 1,.cons a b=>.cons a (RepVs.set r k b)
section
variable {c:Cx} {st:St} {μ:List Addr} {s:Shared} {u v:Value}
theorem ZbM (I:Inv c st μ s.heap) {C n:Nat} {xs:List V} (r:RepV (Tr st.σ μ) μ s.heap u (.inst C n)) (h:st.σ[n]? = some (.attrs xs)) :
  ∃ x dx vs,u = .ref x∧s.heap.get? x = some { cls:=.ref C,dict:=some dx,data:=.plain }∧μ[n]? = some dx∧dx ≠ x∧s.heap.Inst x C (fun y=>(attrNames.zip vs).lookup y)∧vs.length ≤ attrNames.length∧RepVs (Tr st.σ μ) μ s.heap vs xs:=by
 refine El.x2_4 r.instI fun x dx e9 hx hT hd=>?_
 subst e9
 refine El.x1_2 (I.objs n _ h) fun d' hd' ro=>?_
 try clear d'; try clear e9
 obtain rfl:=Option.some.inj (hd.symm.trans hd')
 refine El.x2_4 ro.attrsI fun o9 vs9 ho hN hl r=>?_
 refine El.x2_4 hN fun es ep d1 d2 d3 d4=>?_
 have hne:dx ≠ x:=fun e=>hT (e ▸ ⟨n,_,h,rfl,hd⟩)
 exact ⟨x,dx,_,rfl,hx,hd,hne,⟨_,hx,rfl,fun _ q=>(by cases q),.inr ⟨dx,rfl,hne,⟨_,es,ep,ho,d1,d2,d3,d4⟩⟩⟩,hl,r⟩
theorem ZeX {C:Addr} (I:Inv c st μ s.heap) (hC:Z7n c.base C):∃ N mN,ClsAt s.heap C N mN∧mN "__getattribute__" = none∧mN "__setattr__" = none∧∀ y ∈ attrNames,mN y = none :=
 let ⟨N,mN,h1,h2,h3,h4⟩:=hC
 ⟨N,mN,h1.keeps I.base,h2,h3,h4⟩
theorem Zau {T:Addr→Prop} {h:Heap} {x:V} (r:RepV T μ h v x):handedOut v = pure v:=by cases r <;> rfl
theorem ZdQ (I:Inv c st μ s.heap) {q:Option Int} {k:Nat} {name:Str} (hq:∀ C:Nat,q = some (C:Int)→Z7n c.base C) (hk:attrNames[k]? = some name) {x:V} (rx:RepV (Tr st.σ μ) μ s.heap u x) :
  Sim c (getAttr u name true) (R.lift (Z1G q st.σ x k) st) rV st.σ μ s:=by
 cases x <;> try trivial
 rename_i C n
 show Sim c _ (R.lift (if q = some (C:Int) then (match st.σ[n]? with | some (.attrs xs)=>xs[k]? | _=>none) else none) st) _ _ _ _
 split
 ·rename_i hC
  cases hn:st.σ[n]? with
  | none=>trivial
  | some o=>
   cases o <;> try trivial
   rename_i xs
   dsimp only
   cases hy:xs[k]? with
   | none=>trivial
   | some y=>
    refine El.x3_7 (ZbM I rx hn) fun x dx vs q0z hx _ _ hI _ r=>?_
    try clear hx; try clear vs; try clear dx; try clear x
    obtain rfl:=q0z
    refine El.x2_4 (ZeX I (hq C hC)) fun N mN X h1 _ h3=>?_
    obtain ⟨nm,qq,bs,sn,sub,col,dd,k0,k1,k2,k3,k5,hCo⟩:=X.obj
    refine El.x1_2 (r.get hy) fun w hw rw'=>?_
    obtain ⟨hp,gg,d,t,os⟩:=s
    exact Z1Z I rw' fun Q hQ=>load_attr hCo X.ns h1 (h3 _ (List.mem_of_getElem? hk)) (Z9K (List.mem_of_getElem? hk)) hI (ZeW ZbK hk hw) (Zau rw') (hQ _)
 ·trivial
end
section
variable {W:Wo} {K:Nat}
theorem ZbN {k:Nat} (h:decide (k < attrNames.length) = true):attrNames[k]? = some (attrNames[k]?.getD default):=by
 have h:=of_decide_eq_true h
 rw [List.getElem?_eq_getElem h]; rfl
theorem Z6p {a:Ex} {k:Nat} (ha:EOk W a):EOk W (.attr a k):=fun g p c st μ s hk hg I=>
 Sim.of_eq (arm_eval_Attribute ..) (Sim.of_eq (congrArg (fun t=>t >>= _) (Z31 (and2 (and2 hk).1).2 ..)) (Sim.one ha (and2 hk).2 hg I fun x u st₁ μ₁ s₁ rx I₁=>Sim.at (Sim.ok fun y st₂ hA=>by
  have hs:=ZdQ (q:=clsF W.F) I₁ (fun C hC=>hg.fn.cls C hC) (ZbN (and2 (and2 hk).1).1) rx
  rw [hA] at hs
  exact wpAny_bind (wpAny_holding (wpAny_mono hs (fun v s₂ h₂=>wpAny_bind (wpAny_letTemporaryGo (wpAny_pure h₂))) fun _ _ e=>e)))))
theorem ZdR {xs ys:List V} {k:Nat} {y:V} (hs:setAt xs k y = some ys):k ≤ xs.length∧ys = if k < xs.length then xs.set k y else xs++[y]:=by
 unfold setAt at hs
 by_cases h1:k < xs.length
 ·rw [if_pos h1] at hs ⊢; exact ⟨Nat.le_of_lt h1,(Option.some.inj hs).symm⟩
 ·rw [if_neg h1] at hs ⊢
  exact Z1p hs fun h hs=>⟨Nat.le_of_eq h,(Option.some.inj hs).symm⟩
theorem RepV.updA {σ:List O} {μ:List Addr} {h h':Heap} {m:Nat} {dx:Addr} {ob:O} (hn:σ[m]? = some ob) (hb:ob.live = true) (hd:μ[m]? = some dx) (hup:UpdAt dx h h') {v:Value} {x:V} (r:RepV (Tr σ μ) μ h v x):RepV (Tr σ μ) μ h' v x :=
 r.move (fun a o e _ hT=>⟨hup.2 a o (fun k:a = dx=>hT (k ▸ ⟨m,_,hn,hb,hd⟩)) e,hT⟩) fun _ _ q=>q
theorem RepVs.updA {σ:List O} {μ:List Addr} {h h':Heap} {m:Nat} {dx:Addr} {ob:O} (hn:σ[m]? = some ob) (hb:ob.live = true) (hd:μ[m]? = some dx) (hup:UpdAt dx h h') {v:List Value} {x:List V} (r:RepVs (Tr σ μ) μ h v x):RepVs (Tr σ μ) μ h' v x :=
 r.move (fun a o e _ hT=>⟨hup.2 a o (fun k:a = dx=>hT (k ▸ ⟨m,_,hn,hb,hd⟩)) e,hT⟩) fun _ _ q=>q
theorem ZdS {c:Cx} {st:St} {μ:List Addr} {h h':Heap} {v:Value} {y:V} {m k:Nat} {name:Str} {dx:Addr} {xs ys:List V} {vs:List Value} {ob:Obj} (I:Inv c st μ h) (hk:attrNames[k]? = some name) (hn:st.σ[m]? = some (.attrs xs)) (hd:μ[m]? = some dx) (hs:setAt xs k y = some ys) (hz:ys.length ≤ attrNames.length) (r:RepVs (Tr st.σ μ) μ h vs xs) (ry:RepV (Tr st.σ μ) μ h v y)
  (hup:UpdAt dx h h') (ho:h'.get? dx = some ob) (hN:ObNs ob (fun z=>if z = name then some v else (attrNames.zip vs).lookup z)):Inv c ⟨st.ρ,st.σ.set m (.attrs ys)⟩ μ h'∧Stp c st.σ μ h (st.σ.set m (.attrs ys)) μ h':=by
 have e:=ZdR hs
 rw [← r.length] at e
 have r3:RepVs (Tr st.σ μ) μ h' (if k < vs.length then vs.set k v else vs++[v]) ys:=by
  rw [e.2]
  split
  ·exact RepVs.set (ry.updA hn rfl hd hup) k (r.updA hn rfl hd hup)
  ·exact (r.updA hn rfl hd hup).append (.cons (ry.updA hn rfl hd hup) .nil)
 refine I.upd hn hd rfl rfl hup (.live ho (.attrs (vs:=if k < vs.length then vs.set k v else vs++[v]) ?_ (by rw [r3.length]; exact hz)) r3) (by simp) trivial
 exact El.x2_4 hN fun es ep f1 f2 f3 f4=>⟨es,ep,f1,f2,f3,fun z=>(f4 z).trans (ZbL ZbK hk e.1 z)⟩
theorem Z8F {c:Cx} {st stF:St} {μ:List Addr} {s:Shared} {u v:Value} {x y:V} {q:Option Int} {k:Nat} {name:Str} {fl:Fl} (I:Inv c st μ s.heap) (hq:∀ C:Nat,q = some (C:Int)→Z7n c.base C) (hk:attrNames[k]? = some name)
  (rx:RepV (Tr st.σ μ) μ s.heap u x) (ry:RepV (Tr st.σ μ) μ s.heap v y) (h:setA q x y k st = .ok fl stF) :
  fl = .next∧wpAny (model c.prog c.w) c.A (setAttr u name v) (fun _ s'=>∃ μ',Inv c stF μ' s'.heap∧Stp c st.σ μ s.heap stF.σ μ' s'.heap∧Same s s') (fun _ _=>False) s:=by
 refine El.x4_7 (Zda h) fun C m xs ys q2z hC hn hs hz q3z q4z=>?_
 rw [q3z,q4z]
 refine ⟨rfl,?_⟩
 refine El.x3_7 (ZbM I (q2z ▸ rx) hn) fun x dx vs q5z hx hd hne hI hl r=>El.x2_4 (ZeX I (hq C hC)) fun N mN X _ h2 h3=>?_
 rw [q5z]
 clear q2z q3z q4z q5z h
 obtain ⟨nm,qq,bs,sn,sub,col,dd,k0,k1,k2,k3,k5,hCo⟩:=X.obj
 have hxC:x ≠ C:=by
  rintro rfl
  have:=Option.some.inj (hx.symm.trans hCo)
  exact absurd (congrArg Obj.cls this) (by simp [excClassObj])
 obtain ⟨hp,gg,d,t,os⟩:=s
 refine Z05 (store_attr (ns:=attrNames) PySem.F.store_object hCo X.ns h2 (h3 _ (List.mem_of_getElem? hk)) (Z9K (List.mem_of_getElem? hk)) hxC hI (fun h' tk' I' hkp hsame hsz=>?_) (fun y hy=>?_) (by decide))
 ·clear hCo h2 h3 X hI k0 k1 k2 k3 k5 hxC
  refine El.x1_5 (hsame _ hx) fun o₁ e₁ c₁ dt₁ sl₁ dk₁=>El.x1_4 I' fun o' e' _ _ hd'=>?_
  have eo:o₁ = { cls:=.ref C,dict:=some dx,data:=.plain }:=by
   obtain ⟨a1,a2,a3,a4⟩:=o₁
   have b2:=dk₁ dx rfl
   dsimp only at c₁ dt₁ sl₁ b2
   subst c₁ dt₁ sl₁ b2; rfl
  subst eo
  obtain rfl:=Option.some.inj (e₁.symm.trans e')
  rcases hd' with ⟨hn0,_⟩ | ⟨d',hd',_,es',hns'⟩
  ·cases hn0
  obtain rfl:dx = d':=Option.some.inj hd'
  have hup:UpdAt dx hp h':=⟨hsz,fun b o hb e=>by
   by_cases hbx:b = x
   ·subst hbx
    obtain rfl:=Option.some.inj (hx.symm.trans e)
    exact e₁
   ·exact hkp b o hbx (fun o₀ d₀ h₀ hd₀=>by obtain rfl:=Option.some.inj (hx.symm.trans h₀); cases hd₀; exact hb) e⟩
  refine El.x2_5 hns' fun es ep ho' f1 f2 f3 f4=>?_
  exact El.x0_2 (ZdS I hk hn hd hs hz r ry hup ho' ⟨es,ep,f1,f2,f3,f4⟩) fun I₂ S₂=>⟨μ,I₂,S₂,⟨rfl,rfl,rfl⟩⟩
 ·cases hl':(attrNames.zip vs).lookup y with
  | none=>exact absurd hl' hy
  | some v'=>exact (List.of_mem_zip (mem_of_lookup hl')).1
theorem ZdT {a e:Ex} {k:Nat} (ha:EOk W a) (he:EOk W e):SOk W K (.asgA a k e):=fun g p c st μ s hk hg I=>Sim.ok fun fl stF hR=>by
 refine El.x2_2 (R.bind_inv hR) fun v' st₁ hE hR=>?_
 refine El.x2_2 (R.bind_inv hR) fun x st₂ hA hR=>?_
 have b1:=he g _ c st μ s (and2 (and2 hk).2).1 hg I
 rw [hE] at b1
 refine plainObj_wpAny_Assign_Attribute (wpAny_mono b1 (fun u s₁ q8=>El.x1_4 q8 fun μ₁ rv I₁ S₁ Q₁=>?_) fun _ _ e=>e) (Z3O (and2 (and2 hk).1).1)
 have b2:=ha g _ c st₁ μ₁ s₁ (and2 (and2 hk).2).2 hg I₁
 rw [hA] at b2
 refine wpAny_mono b2 (fun ov s₂ q8=>El.x1_4 q8 fun μ₂ rx I₂ S₂ Q₂=>?_) fun _ _ e=>e
 refine El.x0_2 (Z8F I₂ (fun C hC=>hg.fn.cls C hC) (ZbN (and2 (and2 hk).1).2) rx (RepV.step I₁ S₂ rv) hR) fun e hw=>?_
 subst e
 exact wpAny_mono hw (fun _ s₃ q8=>El.x1_3 q8 fun μ₃ I₃ S₃ Q₃=>⟨μ₃,trivial,I₃,(S₁.trans S₂).trans S₃,(Q₁.trans Q₂).trans Q₃⟩) fun _ _ e=>e
theorem Z7v {m:R V} {ρ:List (Option V)} {r:V} {st:St} (h:Z5f m ρ = .ok r st):∃ st₂,m = .ok r st₂∧st = ⟨ρ,st₂.σ⟩:=by
 cases m with
 | ok v st₂=>cases h; exact ⟨st₂,rfl,rfl⟩
 | exc _ _=>cases h
 | stuck=>cases h
theorem Z4B:EOk W .dictK:=fun g p c st μ s hk hg I=>Sim.ok fun r stF h=>by
 refine El.x1_2 (Z7v h) fun st₂ hC e=>?_
 subst e
 obtain ⟨e1,e2⟩:=hg.fn.dk _ _ _ hC
 rw [e1,e2]
 refine El.x0_2 (I.track (o:={ cls:=.type "dict",data:=.dict #[] }) (ob:=.kdict (kH c.w) []) rfl rfl (show Hk c.w (.kdict (kH c.w) []) from rfl) (fun T hT=>.live (vs:=[]) (xs:=[]) (Heap.get?_push_size _ rfl) (.kdict (xs:=[]) (ys:=[]) ⟨⟨rfl,rfl,rfl⟩,⟨#[],0,rfl,rfl⟩,List.nodup_nil,Nat.zero_le _,rfl⟩) .nil)) fun I₂ S₂=>?_
 exact wpAny_Dict_empty ⟨_,.ref (by rw [← I.len]; simp),I₂,S₂,.refl⟩
theorem Z6q:EOk W .newI:=fun g p c st μ s hk hg I=>Sim.of_eq (arm_eval_Call_Name' ..) (Sim.ok fun r stF h=>by
 refine El.x1_2 (Z7v h) fun st₂ hC e=>?_
 subst e
 refine El.x1_3 (hg.fn.new st.σ r st₂ hC) fun C k1 q hcall=>?_
 refine El.x2_2 q fun N mN X _=>?_
 refine wpAny_bind (Z2e hg I hk k1 ?_)
 exact callWith_cls0 (h₀:=c.base) X (fun b o q=>I.base b o q) (wpAny_mono (hcall c μ s [] rfl rfl rfl hg.a I.bare .nil) (fun v s₂ q8=>El.x1_4 q8 fun μ₂ q1 q2 q3 q4=>El.x0_2 (I.back q2 q3) fun I₂ S₂=>⟨μ₂,q1,I₂,S₂,q4⟩) fun _ _ e=>e))
end
theorem Inv.swap {c:Cx} {st:St} {μ:List Addr} {h:Heap} (I:Inv c st μ h) {n:Nat} {o o':O} {a:Addr} (e:st.σ[n]? = some o) (ha:μ[n]? = some a) (h1:o.live = true) (h2:o'.live = true) (hk:Hk c.w o') (hr:RepO (Tr st.σ μ) μ h a o') :
  Inv c ⟨st.ρ,st.σ.set n o'⟩ μ h:=by
 have trE:Tr (st.σ.set n o') μ = Tr st.σ μ:=funext fun b=>propext (Z1F e h1 h2)
 refine ⟨fun i x q=>?_,I.slots,fun k ob q=>?_,by simpa using I.len,I.nd,I.lt,I.base,I.baseS,I.baseM,I.sep,Z9f I.kd hk⟩
 ·dsimp only; rw [trE]; exact I.vars i x q
 ·dsimp only at q ⊢
  rw [trE]
  have hlt:n < st.σ.length:=(List.getElem?_eq_some_iff.mp e).1
  by_cases hk:n = k
  ·try clear x; try clear i; try clear trE
   subst hk
   have:o' = ob:=by simpa [hlt] using q
   try clear hlt
   subst this
   exact ⟨a,ha,hr⟩
  ·rw [List.getElem?_set_ne hk] at q
   exact I.objs k ob q
theorem Stp.letgo {c:Cx} {σ σ':List O} {μ μ':List Addr} {h h':Heap} {m:Nat} {ob:O} (hm:σ[m]? = some ob) (hl:ob.live = true) (hnp:ob ≠ .priv) (S:Stp c (σ.set m .priv) μ h σ' μ' h') (hm':σ'[m]? = some .priv):Stp c σ μ h (σ'.set m ob) μ' h':=by
 have t1:Tr (σ.set m .priv) μ = Tr σ μ:=funext fun b=>propext (Z1F hm hl rfl)
 have t2:Tr (σ'.set m ob) μ' = Tr σ' μ':=funext fun b=>propext (Z1F hm' rfl hl)
 have p:∀ k:Nat,σ[k]? = some O.priv→(σ.set m .priv)[k]? = some O.priv:=fun k q=>by
  have:m ≠ k:=by rintro rfl; rw [hm] at q; exact hnp (Option.some.inj q)
  rw [List.getElem?_set_ne this]; exact q
 refine ⟨S.size,fun b o e h1 h2=>S.keep b o e h1 (by rw [t1]; exact h2),S.pre,fun b q=>?_,S.new,fun k q=>?_,fun k a o e1 e2 e3=>S.pk k a o (p k e1) e2 e3⟩
 ·rw [t2] at q; have:=S.tr b q; rwa [t1] at this
 ·have:m ≠ k:=by rintro rfl; rw [hm] at q; exact hnp (Option.some.inj q)
  rw [List.getElem?_set_ne this]; exact S.pv k (p k q)
theorem ZdU {c:Cx} {σ:List O} {μ:List Addr} {h:Heap} {m:Nat} {d:Addr} {es:List (Int × V)} {kvs:List (Int × Value)} {ep:Nat} (hh:c.A.handled = none) (hat:h.DictAt (intKind c.prog c.w) d kvs ep) (hp0:σ[m]? = some O.priv) (hd:μ[m]? = some d) (hkk:kvs.map (·.1) = es.map (·.1)) :
  Itr c.prog c.w c.A h.objs.size [h.objs.size,d] [h.objs.size] (es.map fun p=>V.int p.1) σ μ h (fun i h'=>h'.IsKeyIter h.objs.size d i kvs.length ep∧h'.DictAt (intKind c.prog c.w) d kvs ep):=by
 have hlen:(es.map fun p=>V.int p.1).length = kvs.length:=by have:=congrArg List.length hkk; simpa using this.symm
 refine Itr.of_walks (by rw [hlen]; exact Walks.dictKeys hh _ d (Nat.ne_of_lt hat.lt_size) kvs ep) (fun i h hst=>?_) (fun b q=>by rw [List.mem_singleton.mp q]; exact Nat.le_refl _) (fun b q=>?_) fun j y v σ' μ' h' hx hp K=>?_
 ·refine El.x0_2 hst fun q _=>?_
  refine El.x1_3 q fun o' ho' _ hd'=>?_
  exact Z32 ho' hd'
 ·rcases List.mem_cons.mp q with e | q
  ·exact .inl (by simp [e])
  ·rw [List.mem_singleton.mp q]; exact .inr (.inr ⟨m,hp0,hd⟩)
 ·refine El.x2_2 hp fun k x' hkx hik=>?_
  refine El.x1_1 (Value.isInt_shape hik) fun t e=>?_
  subst e
  have:y = .int k:=by
   have h1:(kvs.map (·.1))[j]? = some k:=by rw [List.getElem?_map,hkx]; rfl
   rw [hkk,List.getElem?_map] at h1
   refine El.x1_2 (Option.map_eq_some_iff.mp h1) fun q hq e=>?_
   rw [List.getElem?_map,hq] at hx
   exact (Option.some.inj hx).symm.trans (congrArg V.int e)
  subst this
  exact .int _ _
section
variable {W:Wo} {K:Nat}
theorem ZdV {i:Nat} {e:Ex} {body:Sms} (he:EOk W e) (hb:SsOk W K body):SOk W K (.forD i e body):=fun g p c st μ s hk hg I=>Sim.ok fun fl stF hR=>by
 refine El.x2_2 (R.bind_inv hR) fun y st₁ hE hR=>?_
 refine El.x3_4 (ZaV hR) fun m es stB e1 hσ hr e2=>?_
 subst e1; subst e2
 have hI:=he g _ c st μ s (and2 (and2 hk).2).1 hg I
 rw [hE] at hI
 refine wpAny_For (wpAny_mono hI (fun v s₁ q8=>El.x1_4 q8 fun μ₁ rx I₁ S₁ Q₁=>?_) fun _ _ e=>e) (ZeT (Z2d e _) _)
 refine El.x2_7 (Z4c hg.ok I₁ rx hσ) fun d kvs e3 hd lo hD hkk hz rs=>?_
 subst e3
 refine El.x1_1 hD.dictAt fun ep hat=>?_
 have t1:Tr (st₁.σ.set m .priv) μ₁ = Tr st₁.σ μ₁:=funext fun b=>propext (Z1F hσ rfl rfl)
 have hp0:(st₁.σ.set m .priv)[m]? = some O.priv:=List.getElem?_set_self (List.getElem?_eq_some_iff.mp hσ).1
 have I₀:Inv c ⟨st₁.ρ,st₁.σ.set m .priv⟩ μ₁ s₁.heap:=I₁.swap hσ hd rfl rfl trivial .priv
 refine wpAny_pyIter_dict lo hat ?_
 refine codeAny_mono (Z4n (target:=.Name (nmOf (skid p 0)) (skid p 0).pos) (body:=pSs body (blk p)) (as:=fun y st=>.ok () (setV st i y)) (bd:=fun st=>evSs W.F K body st) (st₀:=⟨st₁.ρ,st₁.σ.set m .priv⟩) (s₀:=s₁) (s₁:={ s₁ with heap:=s₁.heap.push { cls:=.type "dict_keyiterator",data:=.fields #[.ref d,.int 0 0,.int kvs.length 0,.int ep 0] } }) (ZdU hg.hh hat hp0 hd hkk) ⟨⟨_,Heap.get?_push_size _ rfl,rfl,rfl⟩,hat.push _⟩
  (fun y v st μ s r I=>Sim.imp (fun Q h=>wpAny_assign_Name h) (Z1k hg.nm (and2 hk).1 I r)) (fun st μ s I=>hb g _ c st μ s (and2 (and2 hk).2).2 hg I) I₀ (.push _) ⟨rfl,rfl,rfl⟩ (fl:=fl) (stF:=stB) hr (fun _=>rfl)) fun r s' hr'=>?_
 cases r with
 | error e=>exact hr'.elim
 | ok f=>
  refine El.x1_4 hr' fun μ' g1 g2 g3 g4=>?_
  have hpB:=g3.pv m hp0
  have t2:Tr (stB.σ.set m (.idict es)) μ' = Tr stB.σ μ':=funext fun b=>propext (Z1F hpB rfl rfl)
  refine El.x1_2 (Heap.dictOf_iff.mp hD) fun o ho hDo=>?_
  have rs':=RepVs.step (st:=⟨st₁.ρ,st₁.σ.set m .priv⟩) (st':=stB) I₀ g3 (by dsimp only; rw [t1]; exact rs)
  refine ⟨μ',?_,g2.swap hpB (g3.pre m d hd) rfl rfl (o':=.idict es) trivial (.live (g3.pk m d o hp0 hd ho) (.idict (Z4y hDo) hz hkk) rs'),S₁.trans (Stp.letgo hσ rfl (by simp) g3 hpB),Q₁.trans g4⟩
  exact rFl_elim (P:=fun f x=>rFl ⟨stB.ρ,stB.σ.set m (.idict es)⟩ μ' s'.heap f x) g1 trivial trivial trivial fun v y r=>by
   show RepV (Tr (stB.σ.set m (.idict es)) μ') μ' _ _ _
   rw [t2]; exact r
end
theorem Zg0 {a b:List V} {i:Nat} {p:V} (h:((a.zip b).map fun p=>V.tup [p.1,p.2])[i]? = some p):∃ x y,a[i]? = some x∧b[i]? = some y∧p = .tup [x,y]:=by
 rw [List.getElem?_map] at h
 obtain ⟨⟨x,y⟩,h1,rfl⟩:=Option.map_eq_some_iff.mp h
 obtain ⟨h2,h3⟩:=List.getElem?_zip_eq_some.mp h1
 exact ⟨x,y,h2,h3,rfl⟩
theorem Zhf (z l1 l2:Nat) (h1:l1 < z) (h2:l2 < z):ZipApart (z + 4) (z + 2) (z + 3) z (z + 1) l1 l2:=by
 constructor <;> (intro e; have e':@Eq Nat _ _:=e; lia)
theorem znot (z b:Nat) (h:b ∉ [z + 3,z + 4,z,z + 1]):b ∉ [z + 4,z + 3,z,z + 1]:=by
 simp only [List.mem_cons,List.not_mem_nil,or_false] at h ⊢; lia
noncomputable def ZSp (z l1 l2:Addr) (vs1 vs2:Array Value) (i:Nat) (h:Heap):Prop :=
 IsZip h (z + 4) (z + 2) (z + 3) .none∧IsPair h (z + 2) (.ref z) (.ref (z + 1))∧(∃ a b,IsPair h (z + 3) a b)∧h.IsListIter z l1 i∧h.IsListIter (z + 1) l2 i∧h.IsList l1 vs1∧h.IsList l2 vs2
theorem zin {z b:Nat} (h:b ∈ [z + 4,z,z + 1]++[z + 2]) {P:Nat→Prop} (h1:P (z + 4)) (h2:P z) (h3:P (z + 1)) (h4:P (z + 2)):P b:=by
 rcases List.mem_cons.mp h with rfl | h
 ·exact h1
 rcases List.mem_cons.mp h with rfl | h
 ·exact h2
 rcases List.mem_cons.mp h with rfl | h
 ·exact h3
 ·exact List.mem_singleton.mp h ▸ h4
theorem zfp {z b l1 l2:Nat} (h:b ∈ [z + 4,z + 2,z + 3,z,z + 1,l1,l2]):b = z + 3 ∨ b ∈ [z + 4,z,z + 1]++[z + 2] ∨ b = l2 ∨ b = l1:=by
 simp only [List.cons_append,List.nil_append,List.mem_cons,List.not_mem_nil,or_false] at h ⊢; lia
theorem ZSp.at {z l1 l2:Addr} {vs1 vs2:Array Value} {i:Nat} {h:Heap} (q:ZSp z l1 l2 vs1 vs2 i h) {b:Addr} (hb:b ∈ [z + 4,z,z + 1]++[z + 2]):∃ o,h.get? b = some o :=
 zin (P:=fun b=>∃ o,h.get? b = some o) hb ⟨_,q.1⟩ (El.x1_2 q.2.2.2.1 fun o e _=>⟨o,e⟩) (El.x1_2 q.2.2.2.2.1 fun o e _=>⟨o,e⟩) ⟨_,q.2.1⟩
theorem ZSp.odd {z l1 l2:Addr} {vs1 vs2:Array Value} {i:Nat} {h:Heap} (q:ZSp z l1 l2 vs1 vs2 i h):Odd [z + 4,z,z + 1] h:=fun b hb=>by
 rcases List.mem_cons.mp hb with rfl | hb
 ·exact ⟨_,q.1,Z1S rfl⟩
 rcases List.mem_cons.mp hb with rfl | hb
 ·exact El.x1_3 q.2.2.2.1 fun o e _ d=>⟨o,e,Z1S d⟩
 ·exact List.mem_singleton.mp hb ▸ El.x1_3 q.2.2.2.2.1 fun o e _ d=>⟨o,e,Z1S d⟩
theorem zge {z b:Nat} (h:b ∈ [z + 4,z,z + 1]++[z + 2]):z ≤ b:=zin (P:=fun b=>z ≤ b) h (Nat.le_add_right _ _) (Nat.le_refl _) (Nat.le_add_right _ _) (Nat.le_add_right _ _)
theorem zne {z b:Nat} (h:b ∈ [z + 4,z,z + 1]++[z + 2]):b ≠ z + 3:=zin (P:=fun b=>b ≠ z + 3) h (by lia) (by lia) (by lia) (by lia)
theorem ZdW {T:Addr→Prop} {μ:List Addr} {h:Heap} {vs1 vs2:Array Value} {xs ys:List V} (r1:RepVs T μ h vs1.toList xs) (r2:RepVs T μ h vs2.toList ys) {i:Nat} {x:V} {p q:Value} (hx:((xs.zip ys).map fun p=>V.tup [p.1,p.2])[i]? = some x) (hp:vs1[i]? = some p) (hq:vs2[i]? = some q) :
  ∃ zs,x = .tup zs∧RepVs T μ h [p,q] zs:=by
 refine El.x2_3 (Zg0 hx) fun x' y' hx' hy' e=>El.x1_2 (r1.get hx') fun u1 hu1 ru1=>El.x1_2 (r2.get hy') fun u2 hu2 ru2=>⟨_,e,?_⟩
 obtain rfl:=Option.some.inj (hp.symm.trans ((Array.getElem?_toList).symm.trans hu1))
 obtain rfl:=Option.some.inj (hq.symm.trans ((Array.getElem?_toList).symm.trans hu2))
 exact .cons ru1 (.cons ru2 .nil)
theorem Zg1 {prog:Program} {w:World} {A:Around} {m:Nat} {σ:List O} {μ:List Addr} {h:Heap} {l1 l2:Addr} {vs1 vs2:Array Value} {xs ys:List V} (hh:A.handled = none) (b1:l1 < h.objs.size) (b2:l2 < h.objs.size) (hm:σ[m]? = some O.priv) (hμ:μ[m]? = some l1) (h2:∃ o vs n,h.get? l2 = some o∧o.data = .seq vs n∧¬ Tr σ μ l2)
  (r1:RepVs (Tr σ μ) μ h vs1.toList xs) (r2:RepVs (Tr σ μ) μ h vs2.toList ys) :
  ItrT prog w A (h.objs.size + 4) (h.objs.size + 3) [h.objs.size + 4,h.objs.size + 2,h.objs.size + 3,h.objs.size,h.objs.size + 1,l1,l2] [h.objs.size + 4,h.objs.size,h.objs.size + 1] [h.objs.size + 2] ((xs.zip ys).map fun p=>.tup [p.1,p.2]) σ μ h (ZSp h.objs.size l1 l2 vs1 vs2):=by
 have hlen:min vs1.size vs2.size = ((xs.zip ys).map fun p=>V.tup [p.1,p.2]).length:=by
  rw [List.length_map,List.length_zip,← r1.length,← r2.length,Array.length_toList,Array.length_toList]
 have W:=WalksT.zip2 (prog:=prog) (w:=w) (A:=A) hh _ _ _ _ _ _ _ (Zhf _ _ _ b1 b2) vs1 vs2
 rw [hlen] at W
 exact ItrT.of_walks W (fun b hb=>znot _ _ hb) (fun i h q=>ZSp.odd q) (fun i h q b hb=>ZSp.at q hb) (fun b hb=>(List.mem_cons.mp hb).elim (fun e=>e ▸ Nat.le_add_right _ _) zge)
  (fun b q=>(zfp q).imp id (Or.imp id (Or.imp (fun e:b = l2=>by rw [e]; exact h2) fun e:b = l1=>⟨m,hm,by rw [e]; exact hμ⟩)))
  fun i x vals σ' μ' h' hx hv K=>El.x2_3 hv fun p q hp hq e=>El.x1_2 (ZdW r1 r2 hx hp hq) fun zs e' r=>⟨zs,e',by rw [e]; exact (by decide:2 ≤ sizeLine),by rw [e]; exact r.kp K⟩
theorem ZdX {c:Cx} {z₀ m:Nat} {st:St} {μ:List Addr} {s:Shared} {u:Value} {l1:Addr} {vs1:Array Value} {xs ys:List V} (hh:c.A.handled = none) (I:Inv c st μ s.heap) (hz₀:z₀ ≤ s.heap.objs.size) (hm:st.σ[m]? = some O.priv) (hμ:μ[m]? = some l1) (hl1:s.heap.IsList l1 vs1) (r1:RepVs (Tr st.σ μ) μ s.heap vs1.toList xs) (ry:RepV (Tr st.σ μ) μ s.heap u (.lst ys)) :
  wpAny (model c.prog c.w) c.A (call (.type "zip") [.ref l1,u]) (fun w s'=>∃ μ',rZ c z₀ ⟨st.ρ,st.σ++[.priv]⟩ μ' s'.heap w ((xs.zip ys).map fun p=>.tup [p.1,p.2])∧Inv c ⟨st.ρ,st.σ++[.priv]⟩ μ' s'.heap∧Stp c st.σ μ s.heap (st.σ++[.priv]) μ' s'.heap∧Same s s') (fun _ _=>False) s:=by
 refine El.x4_7 ry.lstI fun l2 o2 vs2 n2 e ho2 hc2 hd2 hz2 hT2 r2=>?_
 rw [e]
 have hl2:s.heap.IsList l2 vs2:=⟨o2,ho2,hc2,n2,hd2⟩
 have b1:(l1:Nat) < s.heap.objs.size:=I.lt _ (List.mem_of_getElem? hμ)
 refine call_zip_2 hl1 hl2 fun h' a1 a2 a3 a4 a5 a6 a7=>?_
 refine El.x0_2 (I.trackP (TO:=s.heap.objs.size + 3) ⟨by lia,a7⟩ (Nat.le_add_right _ _) (show s.heap.objs.size + 3 < h'.objs.size by lia)) fun I' S'=>?_
 refine ⟨μ++[s.heap.objs.size + 3],⟨_,_,_,_,_,_,_,_,_,rfl,Zg1 hh b1 (Heap.lt_size ho2) hm hμ ⟨o2,vs2,n2,ho2,hd2,hT2⟩ r1 r2,⟨a1,a2,⟨_,_,a3⟩,a4,a5,hl1.at fun o e=>a7 _ o e,hl2.at fun o e=>a7 _ o e⟩,S'.kp I,fun b q=>?_,⟨st.σ.length,List.getElem?_concat_length,by rw [← I.len]; exact List.getElem?_concat_length⟩,fun b q=>zge (List.mem_append_left _ q),Nat.le_add_right _ _,hz₀⟩,I',S',⟨rfl,rfl,rfl⟩⟩
 have fa:=Z4x I (zge q)
 exact ⟨fun m=>(List.mem_append.mp m).elim fa.1 fun m=>zne q (List.mem_singleton.mp m),fa.2⟩
noncomputable def zipH (x y:V) (st:St):R (Nat × List V × List V):=R.need x.ref? fun m=>R.need (lstO st.σ[m]?) fun xs=>R.need y.lst? fun ys=>.ok (m,xs,ys) ⟨st.ρ,st.σ.set m .priv++[.priv]⟩
section
variable {W:Wo} {K:Nat}
noncomputable def rH (c:Cx) (σ:List O) (μ:List Addr) (h:Heap) (st':St) (μ':List Addr) (h':Heap) (v:Value) (q:Nat × List V × List V):Prop :=
 ∃ σ₂ μ₂ h₂ d,Stp c σ μ h σ₂ μ₂ h₂∧σ₂[q.1]? = some (.lst q.2.1)∧μ₂[q.1]? = some d∧RepO (Tr σ₂ μ₂) μ₂ h₂ d (.lst q.2.1)∧Inv c ⟨st'.ρ,σ₂.set q.1 .priv⟩ μ₂ h₂∧Stp c (σ₂.set q.1 .priv) μ₂ h₂ st'.σ μ' h'∧rZ c h₂.objs.size st' μ' h' v ((q.2.1.zip q.2.2).map fun p=>.tup [p.1,p.2])
theorem ZdY {a b:Ex} (ha:EOk W a) (hb:EOk W b) {g:Gm} {c:Cx} {st:St} {μ:List Addr} {s:Shared} {p pos:Pos} {q1 q2:Expr} (h1:g.gl (Str.ofString "zip") = true) (k1:okE g a q1 = true) (k2:okE g b q2 = true) (hg:Good W c g) (I:Inv c st μ s.heap) :
  Sim c (eval (.Call (.Name (Str.ofString "zip") p) [pE a q1,pE b q2] [] pos) c.env) ((evE W.F a st).bind fun x st=>(evE W.F b st).bind fun y st=>zipH x y st) (rH c st.σ μ s.heap) st.σ μ s :=
 Z7q (.inr ⟨_,rfl⟩) Zdv (by decide) hg I h1 ha hb k1 k2 fun x y st₁ u v μ₁ s₁ rx ry I₁ S₁=>Sim.ok fun q st' h=>by
  refine Z0d h fun m em h=>Z0d h fun xs exs h=>Z0d h fun ys ey h=>?_
  rw [ok1 h,ok2 h]
  have hσ:=Z1o exs
  have ry:=Z1D ey ▸ ry
  refine El.x1_2 (RepV.refI (Z1I em ▸ rx)) fun d ed hd=>El.x1_2 (I₁.objs m _ hσ) fun d' hd' ro=>?_
  rw [ed]
  obtain rfl:=Option.some.inj (hd.symm.trans hd')
  refine El.x2_3 ro.lst_inv fun vs nn ho hz r=>?_
  have t1:Tr (st₁.σ.set m .priv) μ₁ = Tr st₁.σ μ₁:=funext fun b=>propext (Z1F hσ rfl rfl)
  have I₀:Inv c ⟨st₁.ρ,st₁.σ.set m .priv⟩ μ₁ s₁.heap:=I₁.swap hσ hd rfl rfl trivial .priv
  have hp0:(st₁.σ.set m .priv)[m]? = some O.priv:=List.getElem?_set_self (List.getElem?_eq_some_iff.mp hσ).1
  have S0:Stp c st₁.σ μ₁ s₁.heap (st₁.σ.set m .priv) μ₁ s₁.heap:=⟨Nat.le_refl _,fun _ _ e _ _=>e,fun _ _ e=>e,fun b q=>.inl (by rwa [t1] at q),fun _ q=>.inl q,Z45 hσ (by simp),fun _ _ _ _ _ e=>e⟩
  refine wpAny_mono (ZdX hg.hh I₀ (Nat.le_refl _) hp0 hd ⟨_,ho,rfl,nn,rfl⟩ (by dsimp only; rw [t1]; exact r) (by dsimp only; rw [t1]; exact ry)) (fun w s' q8=>El.x1_4 q8 fun μ' z1 z2 z3 z4=>?_) fun _ _ e=>e
  exact ⟨μ',⟨_,_,_,d,S₁,hσ,hd,ro,I₀,z3,z1⟩,z2,S0.trans z3,z4⟩
theorem ZdZ {is:List Nat} {a b:Ex} {body:Sms} (ha:EOk W a) (hb:EOk W b) (hB:SsOk W K body):SOk W K (.forZ is a b body):=fun g p c st μ s hk hg I=>Sim.ok fun fl stF hR=>by
 refine El.x2_2 (R.bind_inv hR) fun x st₁ hA hR=>El.x2_2 (R.bind_inv hR) fun y st₂ hE hR=>?_
 obtain ⟨m,xs,ys,stB,rfl,rfl,hσ,hr,rfl⟩:=ZaW hR
 clear hR
 have hI:=ZdY (p:=(kid (skid p 1) 0).pos) (pos:=(skid p 1).pos) ha hb (and2 (and2 (and2 hk).2).1).1 (and2 (and2 (and2 (and2 hk).2).1).2).1 (and2 (and2 (and2 (and2 hk).2).1).2).2 hg I
 rw [hA,R.bind_ok,hE,R.bind_ok,show zipH (.ref m) (.lst ys) st₂ = .ok (m,xs,ys) ⟨st₂.ρ,st₂.σ.set m .priv++[.priv]⟩ from Z11 (congrArg lstO hσ)] at hI
 refine wpAny_For (wpAny_mono hI (fun v s₁ q8=>El.x1_4 q8 fun μ₁ rh I₁ _ Q₁=>?_) fun _ _ e=>e) fun _=>rfl
 clear hI
 refine El.x4_7 rh fun σ₂ μ₂ h₂ d S₁ hσ₂ hd ro I₀ S₂ rs=>?_
 refine El.x9_9 rs fun I0 TO fp wr nw σ₀ μ₀ h₀ Sp e W' sp Kp₀ hw hm wn wt hz=>El.x1_2 hm fun m' hm1 hm2=>?_
 clear rh rs hm
 subst e
 have hp0:(σ₂.set m .priv)[m]? = some O.priv:=List.getElem?_set_self (List.getElem?_eq_some_iff.mp hσ₂).1
 refine W'.again 0 s₁ _ _ sp ?_
 refine codeAny_mono (Z3y (elts:=pT is (kids (skid p 0))) (kk:=kOf (skid p 0)) (tp:=(skid p 0).pos) (body:=pSs body (blk p)) (as:=asT is) (bd:=fun st=>evSs W.F K body st) W' sp (fun y v st μ s r I=>Z2f hg (and2 hk).1 r I)
  (fun st μ s I=>hB g _ c st μ s (and2 (and2 hk).2).2 hg I) I₁ hm1 hm2 Kp₀ (fun b q=>(hw b q).1) (fun b q=>(hw b q).2.1) (fun b q=>(hw b (List.mem_append_left _ q)).2.2) S₂
  (fun b q=>Nat.le_trans hz ((List.mem_cons.mp q).elim (fun e=>e ▸ wt) (wn b))) (fl:=fl) (stF:=stB) hr) fun r s' hr'=>?_
 cases r with
 | error e=>exact hr'.elim
 | ok f=>
  obtain ⟨μ',g1,g2,g3,g4⟩:=hr'
  have hpB:=g3.pv m hp0
  have t1:Tr (σ₂.set m .priv) μ₂ = Tr σ₂ μ₂:=funext fun b=>propext (Z1F hσ₂ rfl rfl)
  have t2:Tr (stB.σ.set m (.lst xs)) μ' = Tr stB.σ μ':=funext fun b=>propext (Z1F hpB rfl rfl)
  obtain ⟨vs,nn,ho,hzz,r⟩:=ro.lst_inv
  have r':=RepVs.step (st:=⟨st₂.ρ,σ₂.set m .priv⟩) (st':=stB) I₀ g3 (by dsimp only; rw [t1]; exact r)
  refine ⟨μ',?_,g2.swap hpB (g3.pre m d hd) rfl rfl (o':=.lst xs) trivial (.lst (g3.pk m d _ hp0 hd ho) hzz r'),S₁.trans (Stp.letgo hσ₂ rfl (by simp) g3 hpB),Q₁.trans g4⟩
  exact rFl_elim (P:=fun f x=>rFl ⟨stB.ρ,stB.σ.set m (.lst xs)⟩ μ' s'.heap f x) g1 trivial trivial trivial fun v y r=>by
   show RepV (Tr (stB.σ.set m (.lst xs)) μ') μ' _ _ _
   rw [t2]; exact r
end
end Mine
namespace Mine
open PySem PySem.Calls PyProof.Rows PySem.W
theorem ZbO (a v:Value):argsOk "min" ⟨[a],[(Str.ofString "default",v)]⟩:=by unfold argsOk; kernel_rfl
section
variable {prog:Program} {w:World} {A:Around} {E:Value→Shared→Prop} {s:Shared}
theorem ZbP {R:Result→Shared→Prop} {I:Addr} {fp wr:List Addr} {n:Nat} {P:Nat→Value→Prop} {St:Nat→Heap→Prop} {num:Nat→Int} (W:Walks prog w A.in1 I fp wr n P St) (hP:∀ i v,P i v→∃ t,v = .int (num i) t) {S:Addr} (hSf:S ∉ fp) :
  ∀ (k j:Nat) (s:Shared) (m:Int) (t:Tok) (c:Nat),n = j + 1 + k→St (j + 1) s.heap→(∃ i,i ≤ j∧m = num i)→(∀ i,i ≤ j→m ≤ num i)→s.heap.get? S = some { cls:=.type "list",data:=.seq #[.int m t,.int m t] c } →
  (∀ (m':Int) (t':Tok) (h':Heap) (tk:Nat),(∃ i,i < n∧m' = num i)→(∀ i,i < n→m' ≤ num i)→(∀ b o,b ∉ wr→b ≠ S→s.heap.get? b = some o→h'.get? b = some o)→R (.ok (.ret (.int m' t'))) { s with heap:=h',toks:=tk }) →
  codeAny (model prog w) A (.builtin "min.loop" ⟨[.ref I,.none,.ref S],[(Str.ofString "default",.none)]⟩) R s:=by
 have hSw:S ∉ wr:=fun h=>hSf (W.sub _ h)
 have hname:(toString "min"++toString ".loop":String) = "min.loop":=by decide
 intro k
 induction k with
 | zero=>
  intro j s m t c hk hst hm hle hS hR
  refine codeAny_builtin PySem.F.entry_min_loop ?_
  rw [Around.under_plainId PySem.F.plain_min_loop _]
  show wpAny _ A.in1 (seqItems? (.ref S) >>= _) _ _ s
  refine wpAny_bind (wpAny_seqItems hS rfl ?_)
  show wpAny _ A.in1 (tryCatch (pyNext (.ref I)) _ >>= _) _ _ s
  have hst':St n s.heap:=by rw [hk]; exact hst
  refine wpAny_bind (wpAny_tryCatch (W.done s _ _ hst' fun h' tk hk'=>?_))
  have hS':=hk' S _ hSw hS
  show wpAny _ A.in1 (updateSeq S (fun _=>#[]) >>= _) _ _ _
  refine wpAny_bind (wpAny_updateSeq hS' rfl (wpAny_bind (wpAny_letGo (wpAny_pure ?_))))
  refine El.x1_2 hm fun i hi e=>?_
  exact hR m t _ tk ⟨i,by lia,e⟩ (fun i hi=>hle i (by lia)) fun b o h1 h2 e=>(Heap.get?_update_other _ _ (Ne.symm h2)).trans (hk' b o h1 e)
 | succ k ih=>
  intro j s m t c hk hst hm hle hS hR
  refine codeAny_builtin PySem.F.entry_min_loop ?_
  rw [Around.under_plainId PySem.F.plain_min_loop _]
  show wpAny _ A.in1 (seqItems? (.ref S) >>= _) _ _ s
  refine wpAny_bind (wpAny_seqItems hS rfl ?_)
  show wpAny _ A.in1 (tryCatch (pyNext (.ref I)) _ >>= _) _ _ s
  refine wpAny_bind (wpAny_tryCatch (W.item (j + 1) s _ _ (by lia) hst fun v h' tk hPv hst' hk'=>?_))
  refine El.x1_1 (hP _ v hPv) fun t₁ q0z=>?_
  try clear hPv; try clear tk; try clear h'; try clear hst; try clear hk; try clear s; try clear k
  obtain rfl:=q0z
  have hS':=hk' S _ hSw hS
  show wpAny _ A.in1 (tryCatch (holding [_,_] (richCompare .Lt (.int (num (j + 1)) t₁) (.int m t) >>= _)) _ >>= _) _ _ _
  have hcmp:=CmpOf.ints_lt (prog:=prog) (w:=w) (A:=A.in1) (P:=fun i v=>∃ t,v = .int (if i = 0 then num (j + 1) else m) t) (fun i=>if i = 0 then num (j + 1) else m) fun i v h=>h
  refine wpAny_bind (wpAny_tryCatch (wpAny_holding (wpAny_bind (hcmp 0 1 (.int (num (j + 1)) t₁) (.int m t) _ _ _ ⟨t₁,rfl⟩ ⟨t,rfl⟩ ?_))))
  refine wpAny_bind (wpAny_holding (wpAny_truthy_bool ?_))
  refine wpAny_bind (wpAny_letGo (wpAny_pure ?_))
  show wpAny _ _ (if decide (num (j + 1) < m) = true then _ else _) _ _ _
  by_cases hb:num (j + 1) < m
  ·rw [decide_eq_true hb]
   simp only [if_true]
   refine wpAny_bind (wpAny_updateSeq hS' rfl (wpAny_bind (wpAny_letGo ?_)))
   rw [hname]
   refine wpAny_pure ⟨plainId_quiet PySem.F.plain_min_loop _,ih (j + 1) _ (num (j + 1)) t₁ _ (by lia) (W.frame _ _ _ hst' fun b hbf o e=>?_) ⟨j + 1,Nat.le_refl _,rfl⟩ (fun i hi=>?_) (Heap.get?_update_self _ hS' rfl) fun m' t' h'' tk' a1 a2 hk''=>?_⟩
   ·exact (Heap.get?_update_other _ _ (fun h:S = b=>hSf (by rw [h]; exact hbf))).trans e
   ·rcases Nat.lt_or_ge i (j + 1) with q | q
    ·exact Int.le_of_lt (Int.lt_of_lt_of_le hb (hle i (by lia)))
    ·rw [Nat.le_antisymm hi q]; exact Int.le_refl _
   ·exact hR m' t' h'' tk' a1 a2 fun b o h1 h2 e=>hk'' b o h1 h2 ((Heap.get?_update_other _ _ (Ne.symm h2)).trans (hk' b o h1 e))
  ·rw [decide_eq_false hb]
   simp only [Bool.false_eq_true,if_false]
   refine wpAny_bind (wpAny_letGo ?_)
   rw [hname]
   refine El.x1_2 hm fun i₀ hi₀ e₀=>?_
   refine wpAny_pure ⟨plainId_quiet PySem.F.plain_min_loop _,ih (j + 1) _ m t c (by lia) hst' ⟨i₀,by lia,e₀⟩ (fun i hi=>?_) hS' fun m' t' h'' tk' a1 a2 hk''=>?_⟩
   ·rcases Nat.lt_or_ge i (j + 1) with q | q
    ·exact hle i (by lia)
    ·rw [Nat.le_antisymm hi q]; exact Int.not_lt.mp hb
   ·exact hR m' t' h'' tk' a1 a2 fun b o h1 h2 e=>hk'' b o h1 h2 (hk' b o h1 e)
theorem Z7w {l:Addr} {vs:Array Value} {ns:List Int} {Q:Value→Shared→Prop} (hh:A.handled = none) (hl:s.heap.IsList l vs) (hi:IntsAre vs.toList ns)
  (h0:ns = []→∀ h' tk,(∀ b o,s.heap.get? b = some o→h'.get? b = some o)→Q .none { s with heap:=h',toks:=tk })
  (h:∀ i l,ns = i :: l→∀ h' tk t,(∀ b o,s.heap.get? b = some o→h'.get? b = some o)→Q (.int (l.foldl min i) t) { s with heap:=h',toks:=tk }) :
  wpAny (model prog w) A (call (.builtin "min") [.ref l] [(Str.ofString "default",.none)]) Q E s:=by
 have hname:(toString "min"++toString ".loop":String) = "min.loop":=by decide
 have hn:vs.size = ns.length:=by rw [← Z9t hi,Array.length_toList]
 refine El.x1_2 (id hl) fun ol hol _=>?_
 have hll:l < s.heap.objs.size:=Heap.lt_size hol
 refine kmk_tree PySem.F.kind_min PySem.F.plain_min PySem.F.entry_min (ZbO _ _) ?_
 show wpAny _ A.in1 (Builtin.Builtins.bindParams "min" ["key","default"] 0 ⟨[],[(Str.ofString "default",.none)]⟩ >>= _) _ _ s
 refine wpAny_bind (wpAny_of_eq (show Builtin.Builtins.bindParams "min" ["key","default"] 0 ⟨[],[(Str.ofString "default",.none)]⟩ = pure [none,some .none] from rfl) ?_)
 refine wpAny_bind (wpAny_pure ?_)
 refine wpAny_bind (wpAny_pyIter_list hl ?_)
 refine wpAny_bind (wpAny_newObj_type ?_)
 rw [hname]
 refine wpAny_pure ⟨plainId_quiet PySem.F.plain_min_loop _,codeAny_builtin PySem.F.entry_min_loop ?_⟩
 rw [Around.under_plainId PySem.F.plain_min_loop _]
 have hne:l ≠ s.heap.objs.size:=Nat.ne_of_lt hll
 have W:=Walks.list (prog:=prog) (w:=w) (A:=A.in1) hh s.heap.objs.size l hne vs
 generalize hH:(s.heap.push { cls:=.type "list_iterator",data:=.fields #[.ref l,.int 0 0] }) = H
 have hHs:H.objs.size = s.heap.objs.size + 1:=by rw [← hH,Heap.size_push]
 have st0:H.IsListIter s.heap.objs.size l 0∧H.IsList l vs:=by rw [← hH]; exact ⟨⟨_,Heap.get?_push_size _ rfl,rfl,rfl⟩,hl.push _⟩
 have hk0:∀ b o,s.heap.get? b = some o→H.get? b = some o:=fun b o e=>by rw [← hH]; exact Heap.get?_push_of_some _ e
 have hS:(H.push { cls:=.type "list",data:=.seq ([]:List Value).toArray }).get? H.objs.size = some { cls:=.type "list",data:=.seq #[] }:=Heap.get?_push_size _ rfl
 have hSf:H.objs.size ∉ [s.heap.objs.size,l]:=by
  rw [hHs]; simp only [List.mem_cons,List.not_mem_nil,or_false,not_or]
  exact ⟨Nat.ne_of_gt (Nat.lt_succ_self _),Nat.ne_of_gt (Nat.lt_succ_of_lt hll)⟩
 have hSw:H.objs.size ∉ [s.heap.objs.size]:=fun q=>hSf (List.mem_cons_of_mem _ (by simp at q; rw [hHs] at q; lia))
 have st1:(H.push { cls:=.type "list",data:=.seq ([]:List Value).toArray }).IsListIter s.heap.objs.size l 0∧(H.push { cls:=.type "list",data:=.seq ([]:List Value).toArray }).IsList l vs :=
  W.frame _ _ _ st0 fun b _ o e=>Heap.get?_push_of_some _ e
 show wpAny _ A.in1 (seqItems? (.ref H.objs.size) >>= _) _ _ _
 refine wpAny_bind (wpAny_seqItems hS rfl ?_)
 show wpAny _ A.in1 (tryCatch (pyNext (.ref s.heap.objs.size)) _ >>= _) _ _ _
 have keep:∀ (h':Heap) {b:Addr} {o:Obj},(∀ b o,b ∉ [s.heap.objs.size]→b ≠ H.objs.size→(H.push { cls:=.type "list",data:=.seq ([]:List Value).toArray }).get? b = some o→h'.get? b = some o)→s.heap.get? b = some o→h'.get? b = some o:=fun h' b o hk e=>by
  have hlt:=Heap.lt_size e
  exact hk b o (fun q=>by rw [List.mem_singleton.mp q] at hlt; exact Nat.lt_irrefl _ hlt) (by rw [hHs]; exact Nat.ne_of_lt (Nat.lt_succ_of_lt hlt)) (Heap.get?_push_of_some _ (hk0 b o e))
 try clear hlt; try clear hk0; try clear st0; try clear hHs; try clear hne; try clear hll; try clear hol; try clear ol
 cases ns with
 | nil=>
  refine wpAny_bind (wpAny_tryCatch (W.done _ _ _ (by rw [hn]; exact st1) fun h' tk hk=>?_))
  refine wpAny_bind (wpAny_rule ?_)
  exact wpAny_pure (h0 rfl h' tk fun b o e=>keep h' (fun b o h1 _ e=>hk b o h1 e) e)
 | cons i ns=>
  have hpos:0 < vs.size:=by rw [hn]; exact Nat.succ_pos _
  have hP:∀ (j:Nat) (v:Value),vs[j]? = some v→∃ t,v = .int ((i :: ns).getD j 0) t:=fun j v hv=>Z8l hi j v (by rw [Array.getElem?_toList]; exact hv)
  refine wpAny_bind (wpAny_tryCatch (W.item 0 _ _ _ hpos st1 fun v h' tk hPv hst' hk=>?_))
  refine El.x1_1 (hP 0 v hPv) fun t q1z=>?_
  try clear hPv; try clear v; try clear hpos; try clear tk; try clear h'; try clear st1
  obtain rfl:=q1z
  have hS':=hk _ _ hSw hS
  show wpAny _ A.in1 (updateSeq H.objs.size (fun _=>#[_,_]) >>= _) _ _ _
  refine wpAny_bind (wpAny_updateSeq hS' rfl ?_)
  rw [hname]
  refine wpAny_pure ⟨plainId_quiet PySem.F.plain_min_loop _,ZbP W hP hSf ns.length 0 _ i t _ (by rw [hn,List.length_cons]; lia) (W.frame _ _ _ hst' fun b hb o e=>?_) ⟨0,Nat.le_refl _,rfl⟩ (fun j hj=>?_) (Heap.get?_update_self _ hS' rfl) fun m' t' h'' tk' a1 a2 hk'=>?_⟩
  ·exact (Heap.get?_update_other _ _ (fun x:H.objs.size = b=>hSf (by rw [x]; exact hb))).trans e
  ·rw [Nat.le_zero.mp hj]; exact Int.le_refl _
  ·have e:m' = ns.foldl min i:=by
    refine Z9v ns i m' ?_ fun a ha=>?_
    ·refine El.x1_2 a1 fun j hj q2z=>?_
     try clear a; try clear a1; try clear m'; try clear hb; try clear q1z; try clear t; try clear hst'; try clear hP; try clear hSw; try clear hSf; try clear hS; try clear W
     obtain rfl:=q2z
     exact Zbm (by rw [← hn]; exact hj)
    ·refine El.x1_2 (Zbn ha) fun j hj q3z=>?_
     try clear q2z; try clear ha; try clear hname
     obtain rfl:=q3z
     exact a2 j (by rw [hn]; exact hj)
   try clear q3z; try clear a2; try clear hj; try clear j; try clear hn
   subst e
   exact h i ns rfl h'' tk' t' fun b o e=>keep _ (fun b o h1 h2 e=>hk' b o h1 h2 ((Heap.get?_update_other _ _ (Ne.symm h2)).trans (hk b o h1 e))) e
end
section
theorem Ze0 {c:Cx} {st:St} {μ:List Addr} {s:Shared} {u:Value} (hh:c.A.handled = none) (I:Inv c st μ s.heap) {x:V} (rx:RepV (Tr st.σ μ) μ s.heap u x):Sim c (call (.builtin "min") [u] [(Str.ofString "default",.none)]) (R.lift (Z47 x) st) rV st.σ μ s:=by
 cases x <;> try trivial
 rename_i xs
 refine El.x2_4 rx.lst_inv fun a vs q4z hl hz r=>?_
 try clear hz; try clear vs; try clear a
 obtain rfl:=q4z
 show Sim c _ (R.lift (match Z0t xs with | some []=>some V.none | some (i :: l)=>some (.int (l.foldl min i)) | none=>none) st) _ _ _ _
 cases e:Z0t xs with
 | none=>trivial
 | some ns=>
  have hi:=Z21 r e
  try clear r; try clear q4z
  cases ns with
  | nil=>exact Sim.leaf I (Z05 (Z7w hh hl hi (fun _ h' tk hk hs=>⟨⟨hs,hk⟩,⟨rfl,rfl,rfl⟩,.none⟩) fun i l e=>by cases e))
  | cons i l=>exact Sim.leaf I (Z05 (Z7w hh hl hi (fun e=>by cases e) fun i l e h' tk t hk hs=>by cases e; exact ⟨⟨hs,hk⟩,⟨rfl,rfl,rfl⟩,.int _ t⟩))
end
end Mine
namespace Mine
open PySem PySem.Calls PyProof.Rows
theorem Z8G:isSubtype (.type "str") (.type "set") = pure false:=by rw [isSubtype_type]; kernel_rfl
theorem Z35:isSubtype (.type "str") (.type "frozenset") = pure false:=by rw [isSubtype_type]; kernel_rfl
noncomputable def one (c:Nat):Str:=⟨#[c]⟩
noncomputable def metS (l:List Nat) (k:Str):Bool:=l.any fun c=>one c == k
theorem Zg2 {a b:Nat} (h:one a = one b):a = b:=by
 have:=congrArg (fun x:Str=>x.cps.toList) h
 simpa [one] using this
theorem Zg3 (l:List Nat) (c:Nat):metS l (one c) = l.contains c:=by
 unfold metS
 rw [Bool.eq_iff_iff,List.any_eq_true,List.contains_iff_mem]
 exact ⟨fun ⟨a,ha,h⟩=>Zg2 (beq_iff_eq.mp h) ▸ ha,fun h=>⟨c,h,beq_self_eq_true _⟩⟩
theorem Ze1 (l:List Nat) (c:Nat) (k:Str):metS (l++[c]) k = (metS l k || decide (k = one c)):=by
 unfold metS
 rw [List.any_append]
 congr 1
 rw [List.any_cons,List.any_nil,Bool.or_false,Bool.eq_iff_iff,beq_iff_eq,decide_eq_true_eq]
 exact eq_comm
theorem Z7x (l:List Nat) (c:Nat):(l++[c]).eraseDups.length = if metS l (one c) then l.eraseDups.length else l.eraseDups.length + 1:=by
 rw [Zg3,List.eraseDups_append,List.length_append]
 have e:[c].removeAll l = if l.contains c then [] else [c]:=by
  show [c].filter (fun a=>!(l.elem a)) = _
  rw [List.filter_cons,List.filter_nil,show l.elem c = l.contains c from rfl]
  cases l.contains c <;> rfl
 rw [e]
 split
 ·rfl
 ·rfl
theorem Z8H:∀ (n:Nat) (l:List Nat),l.length = n→l.eraseDups.length ≤ n
 | 0,l,h=>by rw [List.length_eq_zero_iff.mp h]; exact Nat.le_refl _
 | n + 1,l,h=>by
  have hne:l ≠ []:=by rintro rfl; cases h
  have e:=List.dropLast_concat_getLast hne
  have ih:=Z8H n l.dropLast (by rw [List.length_dropLast,h]; rfl)
  have:=Z7x l.dropLast (l.getLast hne)
  rw [e] at this
  rw [this]
  split <;> lia
section
variable {prog:Program} {w:World} {A:Around} {R:Result→Shared→Prop}
theorem Ze2 {x:Str} {t:Tok} {I S:Addr} (hh:A.handled = none) (hSI:S ≠ I) (hb:x.cps.size + 1 < scanBound) :
  ∀ (k i:Nat) (s:Shared),x.cps.size - i = k→i ≤ x.cps.size→s.heap.IsStrIter I "str_ascii_iterator" x t i→s.heap.SetOf (strKind prog w) S (metS (x.cps.toList.take i)) (x.cps.toList.take i).eraseDups.length →
   (∀ h' tk,(∀ b o,b ≠ I→b ≠ S→s.heap.get? b = some o→h'.get? b = some o)→h'.SetOf (strKind prog w) S (metS x.cps.toList) x.cps.toList.eraseDups.length→R (.ok (.ret .none)) { s with heap:=h',toks:=tk }) →
   codeAny (model prog w) A (.builtin "set.update.loop" ⟨[.ref S,.ref I],[]⟩) R s:=by
 have W:=Walks.strAscii (prog:=prog) (w:=w) (A:=A.in1) hh I x t
 have hset:∀ {h h':Heap} {S':Str→Bool} {n:Nat},(∀ b o,b ≠ I→h.get? b = some o→h'.get? b = some o)→h.SetOf (strKind prog w) S S' n→h'.SetOf (strKind prog w) S S' n:=fun hk hS=>
  let ⟨o,es,ep,tb,ho,rest⟩:=hS
  ⟨o,es,ep,tb,hk S o hSI ho,rest⟩
 intro k
 induction k with
 | zero=>
  intro i s hk hi hst hS hR
  have hin:i = x.cps.size:=Nat.le_antisymm hi (Nat.le_of_sub_eq_zero hk)
  subst hin
  refine codeAny_builtin PyProof.Rows.F.entry_set_update_loop ?_
  rw [Around.under_plainId PyProof.Rows.F.plain_set_update_loop _]
  show wpAny _ A.in1 (pyNext (.ref I) >>= _) _ _ s
  refine wpAny_bind (W.done s _ _ hst fun h' tk hk'=>?_)
  have hk2:∀ b o,b ≠ I→s.heap.get? b = some o→h'.get? b = some o:=fun b o hb e=>hk' b o (fun q=>hb (List.mem_singleton.mp q)) e
  have hS':=hset hk2 hS
  rw [List.take_of_length_le (by simp)] at hS'
  show wpAny _ A.in1 (ret Value.none) _ _ _
  exact wpAny_pure (hR h' tk (fun b o h1 _ e=>hk2 b o h1 e) hS')
 | succ k ih=>
  intro i s hk hi hst hS hR
  have hlt:i < x.cps.size:=Nat.lt_of_sub_eq_succ hk
  refine codeAny_builtin PyProof.Rows.F.entry_set_update_loop ?_
  rw [Around.under_plainId PyProof.Rows.F.plain_set_update_loop _]
  show wpAny _ A.in1 (pyNext (.ref I) >>= _) _ _ s
  refine wpAny_bind (W.item i s _ _ hlt hst fun v h' tk hP hst' hk'=>?_)
  refine El.x2_2 hP fun c u hc q0z=>?_
  try clear hP; try clear v; try clear tk; try clear hin; try clear hst; try clear hi; try clear W
  obtain rfl:=q0z
  have hk2:∀ b o,b ≠ I→s.heap.get? b = some o→h'.get? b = some o:=fun b o hb e=>hk' b o (fun q=>hb (List.mem_singleton.mp q)) e
  have hS':=hset hk2 hS
  have hn:(x.cps.toList.take i).eraseDups.length + 1 < scanBound:=by
   have h1:(x.cps.toList.take i).eraseDups.length ≤ (x.cps.toList.take i).length:=Z8H _ _ rfl
   rw [List.length_take] at h1
   exact Nat.lt_of_le_of_lt (Nat.succ_le_succ (Nat.le_trans h1 (Nat.min_le_right _ _))) hb
  show wpAny _ A.in1 (holding [Value.str (one c) u] (setAdd S (.str (one c) u)) >>= _) _ _ _
  refine wpAny_bind (wpAny_holding ?_)
  unfold setAdd
  refine wpAny_holding ?_
  refine wpAny_bind ((strKind prog w).pyHash (k:=one c) (strKind_is _ _ _ _) ?_)
  refine wpAny_setAddHashed_of (knd:=strKind prog w) (strKind_is _ _ _ _) rfl hS' hn fun h'' hsb hS2=>?_
  have ht:x.cps.toList.take (i + 1) = x.cps.toList.take i++[c]:=by
   rw [List.take_add_one,Array.getElem?_toList,hc]; rfl
  have hSi:h''.SetOf (strKind prog w) S (metS (x.cps.toList.take (i + 1))) (x.cps.toList.take (i + 1)).eraseDups.length :=
   PyProof.Rows.SetOf_congr hS2 (fun k'=>by rw [ht,Ze1]) (by rw [ht,Z7x])
  refine wpAny_pure ⟨plainId_quiet PyProof.Rows.F.plain_set_update_loop _,ih (i + 1) _ (by rw [← Nat.sub_sub,hk]; rfl) hlt ?_ hSi fun h3 tk3 hk3 hS3=>?_⟩
  ·refine El.x1_2 hst' fun o ho r=>?_
   exact ⟨o,(hsb.2 I (Ne.symm hSI)).trans ho,r⟩
  ·exact hR h3 tk3 (fun b o h1 h2 e=>hk3 b o h1 h2 ((hsb.2 b h2).trans (hk2 b o h1 e))) hS3
end
section
variable {prog:Program} {w:World} {A:Around} {E:Value→Shared→Prop} {s:Shared}
theorem Z7y {x:Str} {t:Tok} {Q:Value→Shared→Prop} (hh:A.handled = none) (ha:x.cps.all (· < 128) = true) (hb:x.cps.size + 1 < scanBound)
  (h:∀ (h':Heap) (tk:Nat),h'.SetOf (strKind prog w) s.heap.objs.size (metS x.cps.toList) x.cps.toList.eraseDups.length→(∀ b o,s.heap.get? b = some o→h'.get? b = some o)→Q (.ref s.heap.objs.size) { s with heap:=h',toks:=tk }) :
  wpAny (model prog w) A (call (.type "set") [.str x t]) Q E s:=by
 refine El.x2_1 PySem.F.called_set.mro fun c tl hmro=>?_
 have hmade:=PySem.F.called_set.made
 have hsub:=PySem.F.called_set.sub
 refine wpAny_call (codeAny_of_tree ?_)
 show wpAny _ _ (callAny (.type "set") _) _ _ _
 refine wpAny_pure ⟨Code.quiet_builtin _ (by decide +kernel),codeAny_builtin PySem.F.entry_type_call ?_⟩
 rw [Around.under_plain (weight_type_call_type "set" [.str x t] []) rfl]
 have h1:=PySem.F.called_set.notType
 have h2:=PySem.F.called_set.canCreate
 have hct:=PySem.F.typeCall_set_1 (.str x t)
 repeat (any_goals (first | assumption | wp_step))
 refine codeAny_mono (code_set_new_1 (.str x t) (E:=E) (Q₁:=fun obj s₁=>∃ led:Bool,obj = .ref s.heap.objs.size∧s₁ = { s with heap:=s.heap.push { cls:=.type "set",dict:=none,data:=.set #[] 0 (.fresh 0 0 led) } }) fun led=>⟨led,rfl,rfl⟩) fun r s₁ hr=>?_
 try clear s₁; try clear hct; try clear h2; try clear h1; try clear hsub; try clear hmade; try clear hmro; try clear tl; try clear c
 cases r with
 | error e=>exact hr
 | ok fl=>
  cases fl with
  | ret obj=>
   refine El.x1_2 hr fun led q1z q2z=>?_
   obtain rfl:=q1z
   try clear q1z
   obtain rfl:=q2z
   have hS:(s.heap.push { cls:=.type "set",dict:=none,data:=.set #[] 0 (.fresh 0 0 led) }).get? s.heap.objs.size = some { cls:=.type "set",dict:=none,data:=.set #[] 0 (.fresh 0 0 led) }:=Heap.get?_push_size _ rfl
   have hT:Shared.TypeIs { s with heap:=s.heap.push { cls:=.type "set",dict:=none,data:=.set #[] 0 (.fresh 0 0 led) } } (.ref s.heap.objs.size) "set":=⟨_,hS,rfl⟩
   have hli:=PySem.F.called_set.init.lookup
   have hbi:=PySem.F.called_set.init.bind (.ref s.heap.objs.size)
   repeat (any_goals (first | assumption | wp_step))
   refine codeAny_mono (codeAny_call_builtin (R:=wants (fun r s₂=>r = .none∧∃ h' tk,s₂ = { s with heap:=h',toks:=tk }∧h'.SetOf (strKind prog w) s.heap.objs.size (metS x.cps.toList) x.cps.toList.eraseDups.length∧(∀ b o,s.heap.get? b = some o→h'.get? b = some o)) E)
    PySem.F.called_set.init.plain PySem.F.entry_set_init (check_set_init_1 hT ?_)) fun r₂ s₂ hr₂=>?_
   ·have hs1:=Z8G
    have hs2:=Z35
    have hne:(Value.type "str" == Value.type "dict") = false:=by decide
    unfold Builtin.«set.__init__» noKeywords Builtin.Frozenset.updateFrom
    generalize hPI:pyIter = PI
    wp_walk
    try clear hne; try clear hs2; try clear hs1; try clear s₂; try clear hbi; try clear hli; try clear hT; try clear q2z
    subst hPI
    refine wpAny_pyIter_ascii ha ?_
    refine wpAny_bind (wpAny_runValue ?_)
    have hh3:A.in1.in1.handled = none:=by simp [hh]
    refine Ze2 (t:=t) (S:=s.heap.objs.size) (I:=(s.heap.push { cls:=.type "set",dict:=none,data:=.set #[] 0 (.fresh 0 0 led) }).objs.size) hh3 (by rw [Heap.size_push]; exact Nat.ne_of_lt (Nat.lt_succ_self _)) hb x.cps.size 0 _ rfl (Nat.zero_le _) ?_ ?_ fun h' tk hk hS'=>?_
    ·exact ⟨_,Heap.get?_push_size _ rfl,rfl,rfl⟩
    ·exact PyProof.Rows.SetOf_congr ((PyProof.Rows.setObjOf_fresh (knd:=strKind prog w) led).setOf (Heap.get?_push_of_some _ hS) (by unfold scanBound; lia)) (fun _=>rfl) rfl
    ·show wpAny _ _ _ _ _ _
     refine wpAny_pure ?_
     show wpAny _ _ (ret Value.none) _ _ _
     refine wpAny_pure ⟨rfl,h',tk,rfl,hS',fun b o e=>?_⟩
     have hlt:=Heap.lt_size e
     exact hk b o (by rw [Heap.size_push]; exact Nat.ne_of_lt (Nat.lt_succ_of_lt hlt)) (Nat.ne_of_lt hlt) (Heap.get?_push_of_some _ (Heap.get?_push_of_some _ e))
   ·try clear hlt; try clear o; try clear b; try clear hk; try clear hh3; try clear hS; try clear led
    cases r₂ with
    | error e=>exact hr₂
    | ok fl₂=>
     try clear e; try clear r₂
     cases fl₂ with
     | ret r=>
      obtain ⟨rfl,h',tk,rfl,hS',hk'⟩:=hr₂
      repeat (any_goals (first | assumption | wp_step))
      exact h _ _ hS' hk'
     | _=>exact hr₂.elim
  | _=>exact hr.elim
end
noncomputable def rSet (_:St) (_:List Addr) (h:Heap) (v:Value) (k:Nat):Prop:=∃ a o es ep t,v = .ref a∧h.get? a = some o∧o.ExactSet∧o.data = .set es ep t∧t.fits es.size = true∧es.size = k∧k < 4096
section
variable {W:Wo} {K:Nat}
theorem Z5y {x y:V} (h:Z0Q x = some y):∃ l,x = .str l∧l.length < 4000∧l.all (· < 128) = true∧y = .int l.eraseDups.length:=by
 unfold Z0Q at h
 split at h
 ·split at h
  ·rename_i hl; cases h; exact ⟨_,rfl,hl.1,hl.2,rfl⟩
  ·cases h
 ·cases h
noncomputable def lenK (x:V):Option Nat:=(Z0Q x).map fun y=>match y with | .int i=>i.toNat | _=>0
theorem Zg4 (x:V) (st:St):R.lift (Z0Q x) st = (R.lift (lenK x) st).bind fun (k:Nat) st=>.ok (.int (k:Int)) st:=by
 unfold lenK
 cases hx:Z0Q x with
 | none=>rfl
 | some y=>
  refine El.x1_4 (Z5y hx) fun l _ _ _ e=>?_
  subst e; rfl
theorem Ze3 {x:V} {st st':St} {k:Nat} (h:R.lift (lenK x) st = .ok k st'):∃ l,x = .str l∧l.length < 4000∧l.all (· < 128) = true∧k = l.eraseDups.length∧st' = st:=by
 refine El.x0_2 (Z6k h) fun h e=>?_
 refine El.x1_2 (Option.map_eq_some_iff.mp h) fun y hy e2=>?_
 refine El.x1_4 (Z5y hy) fun l a b c d=>?_
 subst d
 exact ⟨l,a,b,c,e2.symm,e⟩
theorem Z36 {a:Ex} (ha:EOk W a):EOk W (.lenSet a):=fun g p c st μ s hk hg I=>by
 refine Sim.of_m (m':=((evE W.F a st).bind fun x st=>R.lift (lenK x) st).bind fun (k:Nat) st=>.ok (.int (k:Int)) st) ((Z19 _ fun x st=>Zg4 x st).trans (R.bind_assoc ..).symm) ?_
 refine Z2s (fn:="len") (fv:=.builtin "len") (rel:=rSet) (.inl ⟨_,rfl⟩) Z9A (by decide) hg I (and2 (and2 hk).1).1 (fun _ _=>rfl) (Z2s (fn:="set") (fv:=.type "set") (.inr ⟨_,rfl⟩) Zdw (by decide) hg I (and2 (and2 hk).1).2 (Z0m a _) (ha g _ c st μ s (and2 hk).2 hg I) fun x st₁ u μ₁ s₁ rx I₁=>Sim.ok fun k st' h=>?_) fun k st₁ u μ₁ s₁ rk I₁=>?_
 ·refine El.x1_5 (Ze3 h) fun l e1 hl hasc e2 e3=>?_
  subst e1; subst e2; subst e3
  refine El.x2_4 (RepV.str_inv rx) fun z t e4 e5 _ _=>?_
  subst e4; subst e5
  have hz:z.cps.size < 4000:=by simpa using hl
  refine Sim.leaf I₁ (Z05 (Z7y hg.hh (by rw [Array.all_toList] at hasc; exact hasc) (by unfold scanBound; lia) fun h' tk hS hk hs=>⟨⟨hs,hk⟩,⟨rfl,rfl,rfl⟩,?_⟩))
  refine El.x4_8 hS fun o es ep tb ho hex hd _ _ hb hf hn=>?_
  exact ⟨_,o,es,ep,tb,rfl,ho,hex,hd,hf,by simpa using hn,Nat.lt_of_le_of_lt (Z8H _ z.cps.toList rfl) (Nat.lt_trans hl (by decide))⟩
 ·refine El.x5_7 rk fun b o es ep t e ho hex hd hf hn hb=>?_
  subst e; subst hn
  exact Z0A I₁ fun Q hq=>call_len_set ho hex hd hf (by lia) (hq _ _)
theorem Z6r {a:Ex} (ha:EOk W a):EOk W (.minD a):=fun g p c st μ s hk hg I=>by
 have hbt:backTo p.pos (starEach [pE a (kid p 1)] c.env) = (false,eval (pE a (kid p 1)) c.env) :: backTo p.pos (starEach [] c.env):=by rw [Z0m]; rfl
 exact Sim.of_eq (arm_eval_Call_Name' ..) (Sim.name hg I (and2 hk).1 (by decide) Z9D (Sim.of_m (Z2r ..) (Sim.via (f:=fun vs=>call (.builtin "min") vs [(Str.ofString "default",.none)]) (fun Q h=>callWith_kw (wpAny_mono h (fun vs s₁ h₁=>kwAll_cons (fun _ _ _=>kwAll_nil h₁)) fun _ _ e=>e) hbt (by rw [hbt]; rfl))
  (Z30 (pos:=p.pos) (Z0m a _) (ha g _ c st μ s (and2 hk).2 hg I)) fun y st₂ vs μ₂ s₂ _ hu I₂ S₂=>El.x1_2 hu fun u e ry=>e ▸ Ze0 hg.hh I₂ ry)))
theorem Z6s {a b:Ex} (ha:EOk W a) (hb:EOk W b):EOk W (.min2 a b):=fun g p c st μ s hk hg I=>by
 refine Sim.of_eq (arm_eval_Call_Name' ..) (Sim.name hg I (and2 hk).1 (by decide) Z9D ?_)
 refine Sim.of_m (m':=((evE W.F a st).bind fun x st=>(evE W.F b st).bind fun y st=>.ok (x,y) st).bind fun q st=>R.lift (onI q.1 q.2 fun a b=>some (V.int (if b < a then b else a))) st) ((R.bind_assoc (evE W.F a st) _ _).trans (Z19 _ fun x st=>R.bind_assoc (evE W.F b st) (fun y st=>R.ok (x,y) st) (fun q st=>R.lift (onI q.1 q.2 fun a b=>some (V.int (if b < a then b else a))) st))).symm ?_
 refine Sim.via (rel:=fun st μ h vs q=>∃ u v,vs = [u,v]∧RepV (Tr st.σ μ) μ h u q.1∧RepV (Tr st.σ μ) μ h v q.2) (f:=fun vs=>call (.builtin "min") vs) (fun Q h=>Zbz (first:=[]) (fun z hz=>(List.mem_cons.mp hz).elim (fun e=>e ▸ Z0m a _) fun hz=>Z1R (Z0m b _) hz) h)
  (Z1s (Z0m a _) (ha g _ c st μ s (and2 (and2 hk).2).1 hg I) fun x st₁ u μ₁ s₁ _ rx I₁ S₁=>?_) fun q st₂ vs μ₂ s₂ _ hu I₂ S₂=>Sim.ok fun z st' h=>?_
 ·refine Sim.of_m (m':=((evE W.F b st₁).bind fun y st=>.ok y st).bind fun y st=>.ok (x,y) st) (congrArg (fun m=>R.bind m _) (Z6g (evE W.F b st₁))) ?_
  exact Sim.bind (Z30 (pos:=p.pos) (Z0m b _) (hb g _ c st₁ μ₁ s₁ (and2 (and2 hk).2).2 hg I₁)) fun y st₂ vs μ₂ s₂ _ hu I₂ S₂=>El.x1_2 hu fun v e ry=>Sim.pure I₂ ⟨u,v,by rw [e],RepV.step I₁ S₂ rx,ry⟩
 ·refine El.x2_3 hu fun u v e ru rv=>?_
  subst e
  refine El.x0_2 (Z6k h) fun h0 e=>?_
  subst e
  refine El.x2_3 (Zfm h0) fun i j e1 e2 e3=>?_
  rw [e1] at ru; rw [e2] at rv
  cases e3
  refine El.x1_1 (RepV.int_inv ru) fun t e=>?_
  subst e
  refine El.x1_1 (RepV.int_inv rv) fun t' e=>?_
  subst e
  refine Sim.leaf I₂ (Z05 (min_two_ints hg.hh fun h' tk hk hs=>⟨⟨hs,hk⟩,⟨rfl,rfl,rfl⟩,?_⟩))
  show RepV _ _ _ _ (V.int (if j < i then j else i))
  by_cases hij:j < i
  ·rw [if_pos hij,if_pos hij]; exact .int _ _
  ·rw [if_neg hij,if_neg hij]; exact .int _ _
end
section
variable {W:Wo} {K:Nat}
theorem Z4C {a:Ex}:ItOk W (.enum a):=fun g p c st μ s hk=>absurd hk Bool.false_ne_true
theorem allX:(∀ e:Ex,IOk W e)∧(∀ es:Exs,EsOk W es∧TsOk W es)∧∀ i:It,ItOk W i :=
 ⟨fun e=>Ex.rec (motive_1:=fun e=>IOk W e) (motive_2:=fun es=>EsOk W es∧TsOk W es) (motive_3:=fun o=>OOk W o) (motive_4:=fun i=>ItOk W i)
  (TOk.plain Z68 (fun _=>Z01 rfl)) (fun _=>TOk.plain Z69 (fun _=>Z01 rfl)) (fun _=>TOk.plain Z8p (fun _=>Z01 rfl)) (fun _=>TOk.plain Z8q (fun _=>Z01 rfl)) (fun _=>TOk.plain Z8r (fun _=>Z01 rfl)) (fun _=>TOk.plain Zbx (fun _=>Z01 rfl)) (fun _ _ _ a b=>TOk.plain (Z8s a.1 b.1) (fun _=>Z01 rfl)) (fun _ _ _ a b=>Z6b a.1 b.1) (fun _ _ a b=>Z6c a b) (fun _ _ a b=>Z8u a b) (fun _ a=>Z8v a) (fun _=>TOk.plain Z8w (fun _ _ _=>rfl)) (fun _ _ _ c a b=>Z8x c a b) (fun _ h=>TOk.plain (Z8z h.1) (fun _=>Z01 rfl)) (fun _ h=>TOk.plain (Z6e h.1) (fun _=>Z01 rfl)) (fun _ h=>TOk.plain (Z4i h.1) (fun _=>Z01 rfl)) (fun _ _ a b=>TOk.plain (Z8A a.1 b.1) (fun _=>Z01 rfl)) (fun _ _ _ a lo hi=>TOk.plain (Z4l a.1 lo hi) (fun _=>Z01 rfl)) (fun _ _ a=>TOk.plain (Z6h a.1) (fun _=>Z01 rfl)) (fun _ _ a=>TOk.plain (ZbA a.1) (fun _=>Z01 rfl)) (fun _ _ _ a b=>TOk.plain (ZbB a.1 b.1) (fun _=>Z01 rfl)) (fun _ _ h=>TOk.plain (Z6i h.1) (fun _=>Z01 rfl)) (fun _ _=>TOk.plain Z6j (fun _=>Z01 rfl)) (TOk.plain Z4A (fun _=>Z01 rfl)) (fun _ _ a=>TOk.plain (Z6p a.1) (fun _=>Z01 rfl)) (TOk.plain Z6q (fun _=>Z01 rfl)) (fun _ a=>TOk.plain (Z36 a.1) (fun _=>Z01 rfl)) (fun _ a=>TOk.plain (Z6r a.1) (fun _=>Z01 rfl)) (fun _ _ a b=>TOk.plain (Z6s a.1 b.1) (fun _=>Z01 rfl)) (fun _ a=>TOk.plain (Z8D a.1) (fun _=>Z01 rfl)) (fun _ _ _ _ e i t=>TOk.plain (Z6m e.1 t.2 i) (fun _=>Z01 rfl)) (TOk.plain Z4B (fun _=>Z01 rfl)) (⟨Z8y,Z6l⟩) (fun _ _ e es=>⟨Z6d e.1 es.1,Z4v e.2 es.2⟩) (Z4j) (fun _ e=>Z4k e.1) (fun _ e=>ZbH e.1) (fun _ a=>Z4o a.1) (fun _ _=>Z4C) (fun _ _ a b=>Z4p a.1 b.1) e,fun e=>Exs.rec (motive_1:=fun e=>IOk W e) (motive_2:=fun es=>EsOk W es∧TsOk W es) (motive_3:=fun o=>OOk W o) (motive_4:=fun i=>ItOk W i)
  (TOk.plain Z68 (fun _=>Z01 rfl)) (fun _=>TOk.plain Z69 (fun _=>Z01 rfl)) (fun _=>TOk.plain Z8p (fun _=>Z01 rfl)) (fun _=>TOk.plain Z8q (fun _=>Z01 rfl)) (fun _=>TOk.plain Z8r (fun _=>Z01 rfl)) (fun _=>TOk.plain Zbx (fun _=>Z01 rfl)) (fun _ _ _ a b=>TOk.plain (Z8s a.1 b.1) (fun _=>Z01 rfl)) (fun _ _ _ a b=>Z6b a.1 b.1) (fun _ _ a b=>Z6c a b) (fun _ _ a b=>Z8u a b) (fun _ a=>Z8v a) (fun _=>TOk.plain Z8w (fun _ _ _=>rfl)) (fun _ _ _ c a b=>Z8x c a b) (fun _ h=>TOk.plain (Z8z h.1) (fun _=>Z01 rfl)) (fun _ h=>TOk.plain (Z6e h.1) (fun _=>Z01 rfl)) (fun _ h=>TOk.plain (Z4i h.1) (fun _=>Z01 rfl)) (fun _ _ a b=>TOk.plain (Z8A a.1 b.1) (fun _=>Z01 rfl)) (fun _ _ _ a lo hi=>TOk.plain (Z4l a.1 lo hi) (fun _=>Z01 rfl)) (fun _ _ a=>TOk.plain (Z6h a.1) (fun _=>Z01 rfl)) (fun _ _ a=>TOk.plain (ZbA a.1) (fun _=>Z01 rfl)) (fun _ _ _ a b=>TOk.plain (ZbB a.1 b.1) (fun _=>Z01 rfl)) (fun _ _ h=>TOk.plain (Z6i h.1) (fun _=>Z01 rfl)) (fun _ _=>TOk.plain Z6j (fun _=>Z01 rfl)) (TOk.plain Z4A (fun _=>Z01 rfl)) (fun _ _ a=>TOk.plain (Z6p a.1) (fun _=>Z01 rfl)) (TOk.plain Z6q (fun _=>Z01 rfl)) (fun _ a=>TOk.plain (Z36 a.1) (fun _=>Z01 rfl)) (fun _ a=>TOk.plain (Z6r a.1) (fun _=>Z01 rfl)) (fun _ _ a b=>TOk.plain (Z6s a.1 b.1) (fun _=>Z01 rfl)) (fun _ a=>TOk.plain (Z8D a.1) (fun _=>Z01 rfl)) (fun _ _ _ _ e i t=>TOk.plain (Z6m e.1 t.2 i) (fun _=>Z01 rfl)) (TOk.plain Z4B (fun _=>Z01 rfl)) (⟨Z8y,Z6l⟩) (fun _ _ e es=>⟨Z6d e.1 es.1,Z4v e.2 es.2⟩) (Z4j) (fun _ e=>Z4k e.1) (fun _ e=>ZbH e.1) (fun _ a=>Z4o a.1) (fun _ _=>Z4C) (fun _ _ a b=>Z4p a.1 b.1) e,fun e=>It.rec (motive_1:=fun e=>IOk W e) (motive_2:=fun es=>EsOk W es∧TsOk W es) (motive_3:=fun o=>OOk W o) (motive_4:=fun i=>ItOk W i)
  (TOk.plain Z68 (fun _=>Z01 rfl)) (fun _=>TOk.plain Z69 (fun _=>Z01 rfl)) (fun _=>TOk.plain Z8p (fun _=>Z01 rfl)) (fun _=>TOk.plain Z8q (fun _=>Z01 rfl)) (fun _=>TOk.plain Z8r (fun _=>Z01 rfl)) (fun _=>TOk.plain Zbx (fun _=>Z01 rfl)) (fun _ _ _ a b=>TOk.plain (Z8s a.1 b.1) (fun _=>Z01 rfl)) (fun _ _ _ a b=>Z6b a.1 b.1) (fun _ _ a b=>Z6c a b) (fun _ _ a b=>Z8u a b) (fun _ a=>Z8v a) (fun _=>TOk.plain Z8w (fun _ _ _=>rfl)) (fun _ _ _ c a b=>Z8x c a b) (fun _ h=>TOk.plain (Z8z h.1) (fun _=>Z01 rfl)) (fun _ h=>TOk.plain (Z6e h.1) (fun _=>Z01 rfl)) (fun _ h=>TOk.plain (Z4i h.1) (fun _=>Z01 rfl)) (fun _ _ a b=>TOk.plain (Z8A a.1 b.1) (fun _=>Z01 rfl)) (fun _ _ _ a lo hi=>TOk.plain (Z4l a.1 lo hi) (fun _=>Z01 rfl)) (fun _ _ a=>TOk.plain (Z6h a.1) (fun _=>Z01 rfl)) (fun _ _ a=>TOk.plain (ZbA a.1) (fun _=>Z01 rfl)) (fun _ _ _ a b=>TOk.plain (ZbB a.1 b.1) (fun _=>Z01 rfl)) (fun _ _ h=>TOk.plain (Z6i h.1) (fun _=>Z01 rfl)) (fun _ _=>TOk.plain Z6j (fun _=>Z01 rfl)) (TOk.plain Z4A (fun _=>Z01 rfl)) (fun _ _ a=>TOk.plain (Z6p a.1) (fun _=>Z01 rfl)) (TOk.plain Z6q (fun _=>Z01 rfl)) (fun _ a=>TOk.plain (Z36 a.1) (fun _=>Z01 rfl)) (fun _ a=>TOk.plain (Z6r a.1) (fun _=>Z01 rfl)) (fun _ _ a b=>TOk.plain (Z6s a.1 b.1) (fun _=>Z01 rfl)) (fun _ a=>TOk.plain (Z8D a.1) (fun _=>Z01 rfl)) (fun _ _ _ _ e i t=>TOk.plain (Z6m e.1 t.2 i) (fun _=>Z01 rfl)) (TOk.plain Z4B (fun _=>Z01 rfl)) (⟨Z8y,Z6l⟩) (fun _ _ e es=>⟨Z6d e.1 es.1,Z4v e.2 es.2⟩) (Z4j) (fun _ e=>Z4k e.1) (fun _ e=>ZbH e.1) (fun _ a=>Z4o a.1) (fun _ _=>Z4C) (fun _ _ a b=>Z4p a.1 b.1) e⟩
theorem allE (e:Ex):IOk W e:=allX.1 e
theorem allI (i:It):ItOk W i:=allX.2.2 i
theorem allZ (it:It):ZOk W it :=
 It.casesOn (motive_4:=fun it=>ZOk W it) it (fun e g p c st μ s hk=>absurd hk Bool.false_ne_true) (fun e g p c st μ s hk=>absurd hk Bool.false_ne_true) (fun a=>ZdK (allE a).1) fun a b g p c st μ s hk=>absurd hk Bool.false_ne_true
theorem Zg5 {i:Nat} (e:Ex):SOk W K (.asg i e):=by
 by_cases hC:isC e = true
 ·refine Ex.comp.elim (motive_1:=fun e=>SOk W K (.asg i e)) e (eq_of_beq hC) fun elt k it ifs=>?_
  intro g p c st μ s hk hg I
  obtain ⟨b,hb⟩:∃ b:Bool,swapsWith (pE (.comp elt k it ifs) (skid p 0)) (some (.Name (nmOf (skid p 1)) (skid p 1).pos)) p.pos.line c.env = pure b:=⟨_,rfl⟩
  cases b with
  | false=>exact Z9F (allE _).1 g p c st μ s hk hb hg I
  | true=>exact ZdH (allE _).1 (allX.2.1 _).2 (allI _) g p c st μ s hk hb hg I
 ·exact fun g p c st μ s hk hg I=>Z9F (allE e).1 g p c st μ s hk (Z3O (by rw [Bool.not_eq_true] at hC; rw [hC]; rfl)) hg I
theorem ZhQ (s:Sms):SsOk W K s :=
 Sms.rec (motive_1:=fun s=>SOk W K s) (motive_2:=fun s=>SsOk W K s) (fun _ e=>Zg5 e) (fun _ e=>ZdI (allE e).1) (fun e=>ZdE (allE e).1) (fun e=>ZfU (allE e).1) (fun c _ _ t f=>ZdC (allE c) t f) (fun _ it _ b=>ZdG (allI it) b) (fun _ it _ b=>ZdL (allZ it) b) (fun c _ b=>ZbD (allE c) b) ZfT (fun _ _ _ _ _ _ _ _ _=>trivial)
  (fun a i e=>ZdP (allE a).1 (allE i).1 (allE e).1) (fun a _ e=>ZdT (allE a).1 (allE e).1) (fun _ e _ b=>ZdV (allE e).1 b) (fun _ a b _ h=>ZdZ (allE a).1 (allE b).1 h) ZdB (fun _ _ s ss=>ZbC s ss) s
end
section
variable {prog:Program} {w:World} {A:Around} {E:Value→Shared→Prop} {h:Heap} {g:Array GenState} {d:Drawn} {t:Nat} {os:OsState} {C N fI:Addr} {oI:Obj} {mN:Str→Option Value}
noncomputable def newH (h:Heap) (C:Addr):Heap:=(h.push { cls:=.type "dict",data:=.dict #[] }).push { cls:=.ref C,dict:=some h.objs.size,data:=.plain }
theorem ZbQ {Q:PySem.Fin→Shared→Prop} (X:ClsAt h C N mN) (hi:mN "__init__" = some (.ref fI)) (hfI:h.get? fI = some oI) (hfc:oI.cls = .type "function")
  (hq:wpAny (model prog w) A (call (.ref fI) [.ref (h.objs.size + 1)]) (fun r s'=>r = .none∧Q (.done (.ret (.ref (h.objs.size + 1)))) s') E ⟨newH h C,g,d,t,os⟩) :
  wpAny (model prog w) A (Builtin.«type.__call__» ⟨[.ref C],[]⟩) Q E ⟨h,g,d,t,os⟩:=by
 obtain ⟨nm,q,bs,sn,sub,col,dd,k0,k1,k2,k3,k5,hC⟩:=X.obj
 have hmro:mroOf (.type "object") = pure [.type "object"]:=by kernel_rfl
 have hlk:typeLookup (.type "object") "__init__" = pure (some (.builtin "object.__init__")):=by rw [typeLookup_type,builtinLookup_eq_fast]; kernel_rfl
 have F:=PySem.F.objNew
 repeat (first | with_reducible refine wpAny_loadPart_at hC ?_ | with_reducible refine wpAny_madeBy_exc hC ?_ | wp_step)
 refine codeAny_call_builtin_code (Code.quiet_builtin _ F.quiet) (wpAny_check_obj_new F hC ?_)
 refine codeAny_obj_new F hC X.ns hi ?_
 show wpAny _ _ _ _ _ ⟨newH h C,g,d,t,os⟩
 have X₁:ClsAt (newH h C) C N mN:=X.keeps fun b o e=>Heap.get?_push_of_some _ (Heap.get?_push_of_some _ e)
 have hC₁:(newH h C).get? C = _:=Heap.get?_push_of_some _ (Heap.get?_push_of_some _ hC)
 have hfI₁:(newH h C).get? fI = some oI:=Heap.get?_push_of_some _ (Heap.get?_push_of_some _ hfI)
 have hget:(newH h C).get? (h.objs.size + 1) = some { cls:=.ref C,dict:=some h.objs.size,data:=.plain }:=by
  have:=Heap.get?_push_size (h.push { cls:=.type "dict",data:=.dict #[] }) (o:={ cls:=.ref C,dict:=some h.objs.size,data:=.plain }) rfl
  rwa [Heap.size_push] at this
 have hcC:(Value.ref C :: [Value.type "object"]).contains (.ref C) = true:=by simp
 generalize newH h C = H at *
 unfold isInstance
 repeat (first | with_reducible refine wpAny_loadPart_at hget ?_ | (with_reducible refine wpAny_isSubtype_exc hC₁ ?_; rw [hcC]) | wp_step)
 show wpAny _ _ (typeLookup (.ref C) _) _ _ _
 refine wpAny_typeLookup_exc hC₁ X₁.ns hmro hlk ?_
 rw [hi]
 refine wpAny_holding (wpAny_bind ?_)
 unfold bindSpecial
 refine wpAny_bind (wpAny_typeOf (T:="function") ⟨_,hfI₁,hfc⟩ ?_)
 rw [if_pos (by decide)]
 refine wpAny_pure (wpAny_bind (wpAny_mono hq (fun r s' hr=>?_) fun _ _ x=>x))
 refine El.x0_2 hr fun q0z hQ=>?_
 try clear hr; try clear s'; try clear r; try clear hcC; try clear hget; try clear hfI₁; try clear hC₁; try clear X₁; try clear F; try clear hlk; try clear hmro; try clear hC
 obtain rfl:=q0z
 wp_walk
 exact hQ
theorem Ze4 {Q:Value→Shared→Prop} (X:ClsAt h C N mN) (hi:mN "__init__" = some (.ref fI)) (hfI:h.get? fI = some oI) (hfc:oI.cls = .type "function")
  (hq:wpAny (model prog w) (A.under (.builtin "type.__call__" ⟨[.ref C],[]⟩)) (call (.ref fI) [.ref (h.objs.size + 1)]) (fun r s'=>r = .none∧Q (.ref (h.objs.size + 1)) s') E ⟨newH h C,g,d,t,os⟩) :
  wpAny (model prog w) A (call (.ref C) []) Q E ⟨h,g,d,t,os⟩:=by
 obtain ⟨nm,q,bs,sn,sub,col,dd,k0,k1,k2,k3,k5,hC⟩:=X.obj
 have f1:=tc_lookup
 have f2:=tc_bind (.ref C)
 have hT:(⟨h,g,d,t,os⟩:Shared).TypeIs (.ref C) "type":=⟨_,hC,rfl⟩
 refine wpAny_call (codeAny_of_tree ?_)
 show wpAny _ _ (callAny (.ref C) _) _ _ _
 repeat (any_goals (first | assumption | with_reducible refine wpAny_loadPart_at hC ?_ | wp_step))
 refine ⟨rfl,?_⟩
 exact codeAny_call_builtin_at (Code.quiet_builtin _ (by decide +kernel)) entry_typeCall (wpAny_check_type_call_sub hC (ZbQ X hi hfI hfc hq))
end
structure Wd (prog:Program) (w:World) (base:Heap) (mg mb:Str→Option Value):Prop where
 gd:Gd base mg mb
 seer:base.NoSeer
 nolimit:base.NoLimit
 tree:prog.given.tree = none
theorem Z37 {y:Str} {v:Value}:∀ {ns:List Str} {vs:List Value},ns.Nodup→(y,v) ∈ ns.zip vs→(ns.zip vs).lookup y = some v
 | [],_,_,h=>by simp at h
 | _ :: _,[],_,h=>by simp at h
 | n :: ns,u :: vs,hn,h=>by
  rw [List.zip_cons_cons] at h ⊢
  rw [List.nodup_cons] at hn
  rw [List.lookup_cons]
  rcases List.mem_cons.mp h with h | h
  ·cases h; simp
  ·have hy:y ≠ n:=fun e=>hn.1 (e ▸ (List.of_mem_zip h).1)
   have hb:(y == n) = false:=by simp [hy]
   simp only [hb]
   exact Z37 hn.2 h
theorem ZbR:∀ {ns:List Str} {vs:List Value},vs.length = ns.length→∀ y ∈ ns,∃ v,(y,v) ∈ ns.zip vs
 | [],_,_,y,h=>by simp at h
 | n :: ns,[],e,y,h=>by simp at e
 | n :: ns,u :: vs,e,y,h=>by
  rcases List.mem_cons.mp h with rfl | h
  ·exact ⟨u,by simp⟩
  ·refine El.x1_1 (ZbR (by simpa using e) y h) fun v hv=>?_
   exact ⟨v,by rw [List.zip_cons_cons]; exact List.mem_cons_of_mem _ hv⟩
theorem Z2u {l:List (Str × Value)}:∀ {ns:List Str} {vs:List Value},vs.length = ns.length→(∀ p ∈ ns.zip vs,l.lookup p.1 = some p.2)→(ns.filterMap fun n=>(l.lookup n).map (n,·)) = ns.zip vs
 | [],_,_,_=>by simp
 | n :: ns,[],e,_=>by simp at e
 | n :: ns,u :: vs,e,h=>by
  have h0:=h (n,u) (by simp)
  dsimp only at h0
  rw [List.filterMap_cons,h0,List.zip_cons_cons]
  dsimp only [Option.map_some]
  rw [Z2u (by simpa using e) fun p hp=>h p (by rw [List.zip_cons_cons]; exact List.mem_cons_of_mem _ hp)]
theorem Zav {fd:FuncData} {vals:List Value} {names:List Str} (h1:fd.params.posonlyargs = []) (h2:fd.params.kwonlyargs = []) (h3:fd.params.vararg = none) (h4:fd.params.kwarg = none) (h5:fd.params.args.map (·.arg) = names)
  (h6:fd.defaults = .none) (nd:names.Nodup) (hl:vals.length = names.length):bindArgs fd ⟨vals,[]⟩ = pure (names.zip vals):=by
 have hz:∀ p ∈ names.zip vals,(names.zip vals).lookup p.1 = some p.2:=fun p hp=>Z37 nd hp
 have hmiss:(names.filter fun n=>((names.zip vals).lookup n).isNone) = []:=by
  rw [List.filter_eq_nil_iff]
  intro n hn
  refine El.x1_1 (ZbR hl n hn) fun v hv=>?_
  rw [Z37 nd hv]; simp
 have hf:=Z2u hl hz
 have hs:seqItems? Value.none = pure none:=rfl
 have hgt:¬ (vals.length > names.length):=hl ▸ Nat.lt_irrefl _
 simp only [bindArgs,h1,h2,h3,h4,h5,h6,hs,List.map_nil,List.nil_append,List.forIn_nil,List.append_nil,pure_bind,Option.getD_none,List.drop_nil,List.length_nil,Nat.sub_zero,List.zip_nil_right,List.take_length,hmiss,hf,List.isEmpty_nil,Bool.not_true,decide_eq_false hgt,Bool.false_and,Bool.false_eq_true,↓reduceIte]
noncomputable def Def.gm (d:Def) (sc:Scope):Gm:=⟨sc,d.locals.zipIdx,List.range d.locals.length,d.globs⟩
noncomputable def mDef (d:Def) (r:DefRec):Bool :=
 (d.name == r.name) && r.params.posonlyargs.isEmpty && r.params.kwonlyargs.isEmpty && r.params.vararg.isNone && r.params.kwarg.isNone && (r.params.args.map (·.arg) == d.params) &&
 (r.scope.kind == .function) && !r.scope.isCoroutine && !r.scope.isGenerator && (d.locals.take d.params.length == d.params) && decide d.locals.Nodup &&
 (d.locals.all fun x=>r.scope.names.lookup x == some .local || r.scope.names.lookup x == some .cell) && okSs (d.gm r.scope) d.body r.body
structure MDef (d:Def) (r:DefRec):Prop where
 name:d.name = r.name
 p1:r.params.posonlyargs = []
 p2:r.params.kwonlyargs = []
 p3:r.params.vararg = none
 p4:r.params.kwarg = none
 args:r.params.args.map (·.arg) = d.params
 kind:r.scope.kind = .function
 co:r.scope.isCoroutine = false
 gen:r.scope.isGenerator = false
 pre:d.locals.take d.params.length = d.params
 nd:d.locals.Nodup
 kinds:∀ x ∈ d.locals,r.scope.names.lookup x = some .local ∨ r.scope.names.lookup x = some .cell
 body:okSs (d.gm r.scope) d.body r.body = true
theorem Z7z {d:Def} {r:DefRec} (h:mDef d r = true):MDef d r:=by
 unfold mDef at h
 simp only [Bool.and_eq_true] at h
 obtain ⟨⟨⟨⟨⟨⟨⟨⟨⟨⟨⟨⟨a1,a2⟩,a3⟩,a4⟩,a5⟩,a6⟩,a7⟩,a8⟩,a9⟩,a10⟩,a11⟩,a12⟩,a13⟩:=h
 refine ⟨eq_of_beq a1,List.isEmpty_iff.mp a2,List.isEmpty_iff.mp a3,Option.isNone_iff_eq_none.mp a4,Option.isNone_iff_eq_none.mp a5,eq_of_beq a6,eq_of_beq a7,by simpa using a8,by simpa using a9,eq_of_beq a10,by simpa using a11,fun x hx=>?_,a13⟩
 have:=List.all_eq_true.mp a12 x hx
 rcases Bool.or_eq_true_iff.mp this with q | q
 ·exact .inl (by simpa using q)
 ·exact .inr (by simpa using q)
noncomputable def ZeY (C:Nat) (defs:List Def) (base:Heap) (mg:Str→Option Value):Prop :=
 ∀ d ∈ defs,∃ (r:DefRec) (a:Addr) (o:Obj) (nm qual:Str) (pm code doc:Value),(mDef d r = true∧pSs d.body r.body = r.body)∧(Z5s d.name = true→mg d.name = some (.ref a))∧(d.name = Z0F→o.cls = .type "function"∧∃ N mN,ClsAt base C N mN∧mN "__init__" = some (.ref a))∧base.get? a = some o ∧
  o.data = .func (methDef nm qual r.params r.body r.scope pm code doc)∧base.CodeRec code qual∧∀ x i,d.globs.lookup x = some i→∃ t,mg x = some (.int i t)
theorem Z5z {kindOf:Str→Option NameKind} {y:Str}:∀ {b:List (Str × Value)} {m:Str→Option Value},(∀ p ∈ b,p.1 ≠ y)→bindL kindOf b m y = m y
 | [],_,_=>rfl
 | (n,v) :: r,m,h=>by
  unfold bindL
  rw [Z5z fun p hp=>h p (by simp [hp])]
  split
  ·have:y ≠ n:=fun e=>h (n,v) (by simp) e.symm
   simp [this]
  ·rfl
theorem Z7A {kindOf:Str→Option NameKind} {y:Str} {v:Value}:∀ {ns:List Str} {vs:List Value} {m:Str→Option Value},ns.Nodup→(y,v) ∈ ns.zip vs→kindOf y = some .local→bindL kindOf (ns.zip vs) m y = some v
 | [],_,_,_,h,_=>by simp at h
 | _ :: _,[],_,_,h,_=>by simp at h
 | n :: ns,u :: vs,m,hn,h,hk=>by
  rw [List.zip_cons_cons] at h ⊢
  rw [List.nodup_cons] at hn
  unfold bindL
  rcases List.mem_cons.mp h with h | h
  ·cases h
   rw [Z5z fun p hp e=>hn.1 (by have q:=(List.of_mem_zip (show (p.1,p.2) ∈ ns.zip vs from hp)).1; rw [e] at q; exact q),if_pos hk]
   simp
  ·exact Z7A hn.2 h hk
theorem Z5A {kindOf:Str→Option NameKind} {y:Str}:∀ {b:List (Str × Value)} {m:Str→Option Value},(∀ p ∈ b,p.1 ≠ y)→bindC kindOf b m y = m y
 | [],_,_=>rfl
 | (n,v) :: r,m,h=>by
  unfold bindC
  rw [Z5A fun p hp=>h p (by simp [hp])]
  split
  ·rfl
  ·have:y ≠ n:=fun e=>h (n,v) (by simp) e.symm
   simp [this]
theorem Z7B {kindOf:Str→Option NameKind} {y:Str} {v:Value}:∀ {ns:List Str} {vs:List Value} {m:Str→Option Value},ns.Nodup→(y,v) ∈ ns.zip vs→kindOf y = some .cell→bindC kindOf (ns.zip vs) m y = some v
 | [],_,_,_,h,_=>by simp at h
 | _ :: _,[],_,_,h,_=>by simp at h
 | n :: ns,u :: vs,m,hn,h,hk=>by
  rw [List.zip_cons_cons] at h ⊢
  rw [List.nodup_cons] at hn
  unfold bindC
  rcases List.mem_cons.mp h with h | h
  ·cases h
   rw [Z5A fun p hp e=>hn.1 (by have q:=(List.of_mem_zip (show (p.1,p.2) ∈ ns.zip vs from hp)).1; rw [e] at q; exact q),if_neg (by rw [hk]; decide)]
   simp
  ·exact Z7B hn.2 h hk
theorem Z2v {y:Str} {i:Nat}:∀ {l:List Str} {k:Nat},(l.zipIdx k).lookup y = some i→k ≤ i∧l[i - k]? = some y
 | [],_,h=>by simp at h
 | n :: r,k,h=>by
  rw [List.zipIdx_cons,List.lookup_cons] at h
  by_cases hy:y = n
  ·subst hy
   simp at h
   subst h
   exact ⟨Nat.le_refl _,by simp⟩
  ·have hb:(y == n) = false:=by simp [hy]
   simp only [hb] at h
   refine El.x0_2 (Z2v h) fun h1 h2=>?_
   refine ⟨by lia,?_⟩
   have:i - k = (i - (k + 1)) + 1:=by lia
   rw [this,List.getElem?_cons_succ]
   exact h2
theorem Z9L {n k:Nat} {μ:List Addr} {a:Addr} (e:μ[k]? = some a) (h:decide (k < n) = true):(μ.take n)[k]? = some a:=by
 rw [List.getElem?_take,if_pos (of_decide_eq_true h)]; exact e
theorem ZeZ {T T':Addr→Prop} {μ:List Addr} {n:Nat} {h:Heap} (hT:∀ b,T' b→T b) {v:Value} {x:V} (r:RepV T μ h v x):x.lo n = true→RepV T' (μ.take n) h v x :=
 RepV.rec (motive_1:=fun v x _=>x.lo n = true→RepV T' (μ.take n) h v x) (motive_2:=fun vs xs _=>V.los n xs = true→RepVs T' (μ.take n) h vs xs) (fun _=>.none) (fun b _=>.bool b) (fun i t _=>.int i t) (fun x t h1 h2 _=>.str x t h1 h2)
  (fun ho hc hd hz hq _ ih f=>.tup ho hc hd hz (fun q=>hq (hT _ q)) (ih ((Z0s _).symm.trans f))) (fun ho hc hd hz hq _ ih f=>.lst ho hc hd hz (fun q=>hq (hT _ q)) (ih ((Z0p _).symm.trans f)))
  (fun e f=>.ref (Z9L e ((Z0R _).symm.trans f))) (fun ho hq e f=>.inst ho (fun q=>hq (hT _ q)) (Z9L e ((Z2V _ _).symm.trans f))) (fun _=>.nil)
  (fun {v vs x xs} _ _ a b f=>by
   rw [Z02,Bool.and_eq_true] at f
   exact .cons (a f.1) (b f.2)) r
theorem Zg6 {T T':Addr→Prop} {μ:List Addr} {n:Nat} {h:Heap} (hT:∀ b,T' b→T b) {v:List Value} {x:List V} (f:V.los n x = true) (r:RepVs T μ h v x):RepVs T' (μ.take n) h v x :=
 RepVs.ind (M:=fun vs xs=>V.los n xs = true→RepVs T' (μ.take n) h vs xs) (fun _=>.nil) (fun {v vs x xs} a _ b f=>by
   rw [Z02,Bool.and_eq_true] at f
   exact .cons (ZeZ hT a f.1) (b f.2)) r f
noncomputable def flV (f:Flow):Value:=match f with | .ret v=>v | _=>.none
theorem Zg7 {st:St} {μ:List Addr} {h:Heap} {f:Flow} {x:Fl} (r:rFl st μ h f x):RepV (Tr st.σ μ) μ h (flV f) x.val:=by
 cases f <;> cases x <;> first | exact .none | exact r | exact r.elim
theorem Inv.trunc {c:Cx} {σ₀ σ:List O} {μ₀ μ:List Addr} {h₀ h:Heap} (I:Inv c.bare ⟨[],σ⟩ μ h) (S:Stp c.bare σ₀ μ₀ h₀ σ μ h) (hl:μ₀.length = σ₀.length) (hf:(σ.take σ₀.length).all (O.lo σ₀.length) = true) {v:Value} {r:V} (hr:r.lo σ₀.length = true) (rv:RepV (Tr σ μ) μ h v r) :
  Inv c.bare ⟨[],σ.take σ₀.length⟩ (μ.take σ₀.length) h∧Stp c.bare σ₀ μ₀ h₀ (σ.take σ₀.length) (μ.take σ₀.length) h∧RepV (Tr (σ.take σ₀.length) (μ.take σ₀.length)) (μ.take σ₀.length) h v r:=by
 have sub:∀ b,Tr (σ.take σ₀.length) (μ.take σ₀.length) b→Tr σ μ b:=by
  intro b q11z
  refine El.x2_3 q11z fun k o e1 e2 e3=>?_
  rw [List.getElem?_take] at e1 e3
  split at e1
  ·rename_i hk
   rw [if_pos hk] at e3
   exact ⟨k,o,e1,e2,e3⟩
  ·try clear e3; try clear e2; try clear k; try clear q11z
   cases e1
 refine ⟨⟨fun i x q=>by simp at q,fun i s q=>(by cases q),fun n o q=>?_,?_,I.nd.sublist (List.take_sublist _ _),fun a q=>I.lt a (List.mem_of_mem_take q),I.base,fun b q=>(Z0L q).elim,fun a q=>I.baseM a (List.mem_of_mem_take q),fun b q=>(Z0L q).elim,fun o q=>I.kd o (List.mem_of_mem_take q)⟩,
  ⟨S.size,S.keep,fun n a e=>?_,fun b q=>S.tr b (sub b q),fun a q=>S.new a (List.mem_of_mem_take q),fun n e=>?_,S.pk⟩,ZeZ sub rv hr⟩
 ·dsimp only at q ⊢
  have hof:o.lo σ₀.length = true:=List.all_eq_true.mp hf o (List.mem_of_getElem? q)
  rw [List.getElem?_take] at q
  split at q
  ·rename_i hk
   refine El.x1_2 (I.objs n o q) fun a ha ro=>?_
   refine ⟨a,by rw [List.getElem?_take,if_pos hk]; exact ha,?_⟩
   try clear ha; try clear e1; try clear o; try clear b
   cases ro with
   | dead=>exact .dead
   | priv=>exact .priv
   | live ho L r=>exact .live ho L (Zg6 sub (by cases L <;> exact hof) r)
  ·try clear ro; try clear hof; try clear sub
   cases q
 ·have:=I.len
  simp at this ⊢
  lia
 ·have hk:n < σ₀.length:=by rw [← hl]; exact (List.getElem?_eq_some_iff.mp e).1
  rw [List.getElem?_take,if_pos hk]
  exact S.pre n a e
 ·have hk:n < σ₀.length:=(List.getElem?_eq_some_iff.mp e).1
  rw [List.getElem?_take,if_pos hk]
  exact S.pv n e
section
variable {prog:Program} {w:World} {base:Heap} {mg mb:Str→Option Value} {defs:List Def} {K:Nat}
noncomputable def slOf (d:Def) (sc:Scope) (L:Addr) (cells:List (Str × Addr)) (i:Nat):Option Slot :=
 match d.locals[i]? with
 | some x=>if sc.names.lookup x = some .local then some (.d L x) else (cells.lookup x).map Slot.c
 | none=>none
theorem Zf0 {d:Def} {sc:Scope} {L:Addr} {cells:List (Str × Addr)} {i:Nat} {x:Str} (hi:d.locals[i]? = some x) (k:sc.names.lookup x = some .local):slOf d sc L cells i = some (.d L x):=by
 unfold slOf
 rw [hi]; exact if_pos k
theorem Zf1 {d:Def} {sc:Scope} {L b:Addr} {cells:List (Str × Addr)} {i:Nat} {x:Str} (hi:d.locals[i]? = some x) (k:sc.names.lookup x = some .cell) (hb:cells.lookup x = some b):slOf d sc L cells i = some (.c b):=by
 unfold slOf
 rw [hi]; dsimp only; rw [if_neg (by rw [k]; intro e; cases e),hb]; rfl
theorem Ze5 {d:Def} {sc:Scope} {L:Addr} {cells:List (Str × Addr)} {i:Nat} {sl:Slot} (hk:∀ x ∈ d.locals,sc.names.lookup x = some .local ∨ sc.names.lookup x = some .cell) (q:slOf d sc L cells i = some sl) :
  ∃ x,d.locals[i]? = some x∧((sc.names.lookup x = some .local∧sl = .d L x) ∨ (sc.names.lookup x = some .cell∧∃ b,cells.lookup x = some b∧sl = .c b)):=by
 unfold slOf at q
 cases hx:d.locals[i]? with
 | none=>rw [hx] at q; cases q
 | some x=>
  rw [hx] at q
  refine ⟨x,rfl,(hk x (List.mem_of_getElem? hx)).imp (fun k=>⟨k,?_⟩) fun k=>⟨k,?_⟩⟩
  ·dsimp only at q; rw [if_pos k] at q; exact (Option.some.inj q).symm
  ·dsimp only at q; rw [if_neg (by rw [k]; intro e; cases e)] at q
   exact El.x1_2 (Option.map_eq_some_iff.mp q) fun b hb e=>⟨b,hb,e.symm⟩
variable {C:Nat}
theorem Zf2 {CH:Nat × (Option (List Int) × Str→Int)} (W:Wd prog w base mg mb) {n:Nat} (ih:FnOk n prog w base mg (Z08 CH defs K n)) {d:Def} {rc:DefRec} {a:Addr} {o:Obj} {nm qual:Str} {pm code doc:Value} (hm:mDef d rc = true∧pSs d.body rc.body = rc.body) (g2:base.get? a = some o)
  (g3:o.data = .func (methDef nm qual rc.params rc.body rc.scope pm code doc)) (g4:base.CodeRec code qual) (g5:∀ x i,d.globs.lookup x = some i→∃ t,mg x = some (.int i t)) {args:List V} {σ:List O} {r:V} {st':St} (h:Z07 (Z08 CH defs K n) K d args σ = .ok r st') :
  Does (n + 1) prog w base (.ref a) args σ r st':=by
 have M:=Z7z hm.1
 unfold Does
 intro c μ s vs e1 e2 e3 hA I rvs
 unfold Z07 at h
 split at h
 case isFalse=>cases h
 rename_i hlen
 have hvl:vs.length = d.params.length:=by rw [rvs.length]; exact hlen
 have hpn:d.params.Nodup:=by rw [← M.pre]; exact M.nd.sublist (List.take_sublist _ _)
 cases hB:evSs (Z08 CH defs K n) K d.body ⟨args.map some++List.replicate (d.slots - args.length) none,σ⟩ with
 | stuck=>rw [hB] at h; cases h
 | exc _ _=>rw [hB] at h; cases h
 | ok fl stF=>
  rw [hB] at h
  simp only [R.bind_ok] at h
  subst e1 e2 e3
  have hbk:∀ b o,c.base.get? b = some o→s.heap.get? b = some o:=I.base
  refine wpAny_call (codeAny_call_cells (fd:=methDef nm qual rc.params rc.body rc.scope pm code doc) (body:=rc.body) (binds:=d.params.zip vs) (by have:=hA.depth; lia) (hbk _ _ g2) g3 (W.nolimit.keeps hbk) (g4.keeps hbk) rfl
   (Zav M.p1 M.p2 M.p3 M.p4 M.args rfl hpn hvl) rfl (fun x hx=>?_) (fun s₁ X=>?_) M.co M.gen M.kind)
  ·have hx':x.1 ∈ d.locals:=by
    have:=(List.of_mem_zip (show (x.1,x.2) ∈ _ from hx)).1
    rw [← M.pre] at this
    exact List.mem_of_mem_take this
   rcases M.kinds _ hx' with q | q
   ·exact .inl q
   ·exact .inr ⟨q,PySem.W.cellsFrom_some _ _ _ (.inl q)⟩
  ·generalize henv:callEnvC (methDef nm qual rc.params rc.body rc.scope pm code doc) s.heap.objs.size a = env' at X ⊢
   have hL:env'.locals = s.heap.objs.size:=by rw [← henv]; rfl
   have hsc:env'.scope = rc.scope:=by rw [← henv]; rfl
   have hcl:env'.cells = cellsFrom (s.heap.objs.size + 1) rc.scope.names []:=by rw [← henv]; rfl
   have hgl:env'.globals = mainGlobals:=by rw [← henv]; rfl
   have hbl:env'.builtins = builtinsNs:=by rw [← henv]; rfl
   have hko:∀ x,env'.kindOf x = rc.scope.names.lookup x:=fun x=>by unfold Env.kindOf; rw [hsc]
   have hns:=X.toInCall.ns
   have hLlt:s.heap.objs.size < s₁.heap.objs.size:=by obtain ⟨o,_,_,ho,_⟩:=hns; rw [← hL]; exact Heap.lt_size ho
   have XE:Ext s.heap s₁.heap:=⟨Nat.le_of_lt hLlt,X.toInCall.keep⟩
   let c':Cx:={ prog:=c.prog,w:=c.w,base:=c.base,A:=c.A.deeper env',env:=env',sl:=slOf d rc.scope env'.locals env'.cells }
   have slv:∀ i sl,c'.sl i = some sl→∃ x,d.locals[i]? = some x∧((rc.scope.names.lookup x = some .local∧sl = .d env'.locals x) ∨ (rc.scope.names.lookup x = some .cell∧∃ b,env'.cells.lookup x = some b∧sl = .c b)):=fun i sl q=>Ze5 M.kinds q
   have ownGe:∀ b,Own c' b→s.heap.objs.size ≤ b:=by
    intro b q13z
    refine El.x2_2 q13z fun i sl q q14z=>?_
    try clear q13z
    obtain rfl:=q14z
    obtain ⟨x,_,⟨_,rfl⟩ | ⟨_,b,hb,rfl⟩⟩:=slv i sl q
    ·exact Nat.le_of_eq hL.symm
    ·have:=X.above x b (mem_of_lookup hb)
     rw [hL] at this
     exact Nat.le_of_lt this
   have cellOk:∀ x b,env'.cells.lookup x = some b→s₁.heap.IsCell b (bindC env'.kindOf (d.params.zip vs) (fun _=>none) x):=fun x b hb=>X.cell x b hb
   have I₁:Inv c' ⟨args.map some++List.replicate (d.slots - args.length) none,σ⟩ μ s₁.heap:=by
    refine ⟨fun i x q=>?_,fun i sl q=>?_,(I.ext XE).objs,I.len,I.nd,(I.ext XE).lt,(I.ext XE).base,fun b q=>?_,I.baseM,fun b q m=>?_,I.kd⟩
    ·dsimp only at q ⊢
     have hi:i < args.length:=by
      by_cases hi:i < args.length
      ·exact hi
      ·rw [List.getElem?_append_right (by simpa using Nat.le_of_not_lt hi)] at q
       rw [List.getElem?_replicate] at q
       split at q <;> simp at q
     rw [List.getElem?_append_left (by simpa using hi)] at q
     have hax:args[i]? = some x:=by simpa [hi] using q
     refine El.x1_2 (rvs.get hax) fun v hv rv=>?_
     have hip:i < d.params.length:=by rw [← hlen]; exact hi
     obtain ⟨p,hp⟩:∃ p,d.params[i]? = some p:=⟨d.params[i],by simp [hip]⟩
     have hlp:d.locals[i]? = some p:=by
      have:(d.locals.take d.params.length)[i]? = some p:=by rw [M.pre]; exact hp
      rw [List.getElem?_take,if_pos hip] at this
      exact this
     have hz:(p,v) ∈ d.params.zip vs:=List.mem_of_getElem? (i:=i) (by rw [List.getElem?_zip_eq_some]; exact ⟨hp,hv⟩)
     rcases M.kinds p (List.mem_of_getElem? hlp) with k | k
     ·refine ⟨.d env'.locals p,v,?_,⟨_,hns,Z7A hpn hz (by rw [hko]; exact k)⟩,rv.ext XE⟩
      exact Zf0 hlp k
     ·refine El.x1_1 (Option.isSome_iff_exists.mp (PySem.W.cellsFrom_some (x:=p) rc.scope.names (s.heap.objs.size + 1) [] (.inl k))) fun b hb=>?_
      rw [← hcl] at hb
      refine ⟨.c b,v,?_,?_,rv.ext XE⟩
      ·exact Zf1 hlp k hb
      ·have:=cellOk p b hb
       rw [Z7B hpn hz (by rw [hko]; exact k)] at this
       exact this
    ·obtain ⟨x,_,⟨_,rfl⟩ | ⟨_,b,hb,rfl⟩⟩:=slv i sl q
     ·exact ⟨_,hns⟩
     ·exact ⟨_,cellOk x b hb⟩
    ·show c.base.get? b = none
     cases hq:c.base.get? b with
     | none=>rfl
     | some ob=>exact absurd (Nat.lt_of_lt_of_le (Heap.lt_size (hbk b ob hq)) (ownGe b q)) (Nat.lt_irrefl _)
    ·exact Nat.lt_irrefl _ (Nat.lt_of_lt_of_le (I.lt b m) (ownGe b q))
   refine El.x1_1 hA.frames fun lf hlf=>?_
   have hfr:(c.A.deeper env').frames = some (env' :: lf):=Around.frames_deeper hlf
   have hdp:(c.A.deeper env').depth = c.A.depth + 1:=rfl
   have hun:(c.A.deeper env').units = c.A.units + 3:=rfl
   have hA':AOk n c'.A:=⟨hA.hh,by show c.A.depth + 1 + n + 110 ≤ _; have:=hA.depth; lia,by show c.A.units + 3 + 4 * n + 200 ≤ _; have:=hA.units; lia,_,hfr⟩
   have hG:Good ⟨n,mg,mb,Z08 CH defs K n⟩ c' (d.gm rc.scope):=by
    refine ⟨⟨fun t ht=>?_,hA.hh,by show c.A.units + 3 + 100 < _; have:=hA.units; lia,let ⟨mm,⟨o,_,_,ho,_⟩,_⟩:=W.seer.mods; ⟨o,ho⟩⟩,W.gd,⟨hsc,M.kind,hgl,hbl,fun x i hx=>?_,fun i j sl q1 q2=>?_,fun i sl q=>?_,fun x hx=>?_⟩,hA',g5,ih⟩
    ·refine PylongRoom.of (W.nolimit.keeps ht) (by show c.A.depth + 1 + 100 < _; have:=hA.depth; lia) (SeerAt.of (W.seer.keeps ht) W.tree hfr ?_ ?_ hbl hgl)
     ·rw [hsc]; exact M.gen
     ·rw [hsc]; exact M.co
    ·refine El.x0_2 (Z2v hx) fun _ hi=>?_
     rw [Nat.sub_zero] at hi
     rcases M.kinds x (List.mem_of_getElem? hi) with k | k
     ·exact .inl ⟨k,Zf0 hi k⟩
     ·refine El.x1_1 (Option.isSome_iff_exists.mp (PySem.W.cellsFrom_some (x:=x) rc.scope.names (s.heap.objs.size + 1) [] (.inl k))) fun b hb=>?_
      rw [← hcl] at hb
      exact .inr ⟨k,b,hb,Zf1 hi k hb⟩
    ·refine El.x1_2 (slv i sl q1) fun x hx h1=>?_
     refine El.x1_2 (slv j sl q2) fun y hy h2=>?_
     have hxy:x = y:=by
      try clear y; try clear q2; try clear q1; try clear j; try clear ht; try clear t; try clear hun; try clear hdp; try clear hfr; try clear hlf; try clear lf; try clear hz
      rcases h1 with ⟨_,rfl⟩ | ⟨_,b,hb,rfl⟩ <;> rcases h2 with ⟨_,e⟩ | ⟨_,b',hb',e⟩
      ·cases e; rfl
      ·try clear h2; try clear h1; try clear hlp; try clear hp; try clear p; try clear hip; try clear hv; try clear v; try clear hax; try clear hi; try clear m; try clear cellOk
       cases e
      ·try clear q14z; try clear ho; try clear o; try clear hns; try clear hko; try clear hbl; try clear hgl; try clear hsc; try clear hL; try clear hbk; try clear hpn; try clear rvs
       cases e
      ·cases e; exact name_of_addr X.apart (mem_of_lookup hb) (mem_of_lookup hb')
     try clear hA; try clear vs
     subst hxy
     exact (List.getElem?_inj (List.getElem?_eq_some_iff.mp hx).1 M.nd).mp (hx.trans hy.symm)
    ·refine El.x1_2 (slv i sl q) fun x hx _=>?_
     exact List.mem_range.mpr (List.getElem?_eq_some_iff.mp hx).1
    ·refine El.x1_1 (Option.isSome_iff_exists.mp (PySem.W.cellsFrom_some (x:=x) rc.scope.names (s.heap.objs.size + 1) [] (.inl hx))) fun b hb=>?_
     rw [← hcl] at hb
     exact ⟨b,hb⟩
   have hS:=ZhQ (K:=K) d.body (d.gm rc.scope) rc.body c' _ μ s₁ M.body hG I₁
   dsimp only at hS
   rw [hm.2] at hS
   rw [hB] at hS
   refine wpAny_mono hS (fun fw s' q8=>El.x1_4 q8 fun μ' rf I' S' Q'=>?_) fun _ _ e=>e.elim
   have Ib:Inv c.bare ⟨[],stF.σ⟩ μ' s'.heap:=⟨fun i x q=>by simp at q,fun i sl q=>(by cases q),I'.objs,I'.len,I'.nd,I'.lt,I'.base,fun b q=>(Z0L q).elim,I'.baseM,fun b q=>(Z0L q).elim,I'.kd⟩
   have Sb:Stp c.bare σ μ s.heap stF.σ μ' s'.heap:=Stp.inner (Stp.ext XE) S' fun b q=>.inr (ownGe b q)
   refine El.x2_2 X.toInCall.done fun hh₁ tk₁ e₁ _=>?_
   have Qb:Same s s':=Same.trans (s':=s₁) (by rw [e₁]; exact ⟨rfl,rfl,rfl⟩) Q'
   have rv:=Zg7 rf
   change ∃ μ',RepV _ _ _ (flV fw) _∧_
   split at h
   ·rename_i hfree
    simp only [Bool.and_eq_true] at hfree
    try clear e₁; try clear tk₁; try clear hh₁; try clear Q'; try clear S'; try clear I'; try clear rf; try clear μ'; try clear hS; try clear hxy; try clear hy; try clear hG
    cases h
    refine El.x0_3 (Ib.trunc Sb I.len hfree.2 hfree.1 rv) fun I₂ S₂ r₂=>?_
    exact ⟨_,r₂,I₂,S₂,Qb⟩
   ·try clear r₂; try clear S₂; try clear I₂; try clear I₁; try clear ownGe; try clear hb; try clear b; try clear q; try clear sl; try clear i; try clear slv; try clear XE
    cases h
    exact ⟨_,rv,Ib,Sb,Qb⟩
end
theorem Z1U (C:Nat) (H:Option (List Int) × Str→Int) (defs:List Def) (K n:Nat):clsF (Z08 (C,H) defs K (n + 1)) = some (C:Int):=by
 unfold clsF
 rw [Z3M]
 rfl
theorem AOk.make {n:Nat} {A:Around} (h:AOk (n + 1) A) (C:Addr):AOk n (A.under (.builtin "type.__call__" ⟨[.ref C],[]⟩)):=by
 have hu:(Code.builtin "type.__call__" ⟨[.ref C],[]⟩).cUnits = 1:=rfl
 refine El.x1_1 h.frames fun l hl=>?_
 refine ⟨h.hh,?_,?_,⟨l,by unfold Around.under; dsimp only; rw [hl]; rfl⟩⟩
 ·show A.depth + 1 + n + 110 ≤ _
  have:=h.depth; lia
 ·have:=h.units
  show A.units + (Code.builtin "type.__call__" ⟨[.ref C],[]⟩).cUnits + 4 * n + 200 ≤ _
  rw [hu]; lia
section
variable {prog:Program} {w:World} {base:Heap} {mg mb:Str→Option Value} {defs:List Def} {K:Nat} {C:Nat}
theorem Inv.make {c:Cx} {σ:List O} {μ:List Addr} {h:Heap} (I:Inv c ⟨[],σ⟩ μ h):Inv c ⟨[],σ++[.attrs []]⟩ (μ++[h.objs.size]) (newH h C)∧Stp c σ μ h (σ++[.attrs []]) (μ++[h.objs.size]) (newH h C) ∧
  RepV (Tr (σ++[.attrs []]) (μ++[h.objs.size])) (μ++[h.objs.size]) (newH h C) (.ref (h.objs.size + 1)) (.inst C σ.length):=by
 obtain ⟨I₁,S₁⟩:=I.track (o:={ cls:=.type "dict",data:=.dict #[] }) (ob:=.attrs []) rfl rfl trivial fun T hT=>.live (Heap.get?_push_size _ rfl) (.attrs (vs:=[]) ⟨#[],0,rfl,fun _ he=>absurd he (by simp),.nil,fun _=>by rw [List.zip_nil_right]; rfl⟩ (Nat.zero_le _)) .nil
 have X:Ext (h.push { cls:=.type "dict",data:=.dict #[] }) (newH h C):=.push _
 have hget:(newH h C).get? (h.objs.size + 1) = some { cls:=.ref C,dict:=some h.objs.size,data:=.plain }:=by
  have:=Heap.get?_push_size (h.push { cls:=.type "dict",data:=.dict #[] }) (o:={ cls:=.ref C,dict:=some h.objs.size,data:=.plain }) rfl
  rwa [Heap.size_push] at this
 refine ⟨I₁.ext X,S₁.trans (.ext X),.inst hget (fun q=>?_) (by rw [← I.len]; simp)⟩
 have:=I₁.lt _ q.mem
 rw [Heap.size_push] at this
 exact Nat.lt_irrefl _ this
theorem Z7C {CH:Nat × (Option (List Int) × Str→Int)} {n:Nat} {f:Str} {args:List V} {σ:List O} {r:V} {st':St} (h1:f ≠ Z0k) (h2:f ≠ Z0z) (h:Z08 CH defs K (n + 1) f args σ = .ok r st'):∃ d,d ∈ defs∧d.name = f∧Z07 (Z08 CH defs K n) K d args σ = .ok r st':=by
 have h:(if f = Z0k then _ else if f = Z0z then _ else _:R V) = .ok r st':=h
 rw [if_neg h1,if_neg h2] at h
 exact Z0d h fun d hd h=>⟨d,List.mem_of_find?_eq_some hd,by have q:=List.find?_some hd; exact eq_of_beq q,h⟩
theorem Z7D {f:Str} (h:Z5s f = true):f ≠ Z0k∧f ≠ Z0z:=by
 unfold Z5s at h
 rw [Bool.and_eq_true,Bool.and_eq_true,Bool.not_eq_true',Bool.not_eq_true',Bool.not_eq_true',beq_eq_false_iff_ne,beq_eq_false_iff_ne,beq_eq_false_iff_ne] at h
 exact ⟨h.1.1,h.2⟩
noncomputable def Zf3 (n:Nat) (prog:Program) (w:World) (base:Heap) (C:Nat) (F:Fn):Prop :=
 ∀ args σ r st',F Z0F args σ = .ok r st'→∃ a o,base.get? a = some o∧o.cls = .type "function"∧(∃ N mN,ClsAt base C N mN∧mN "__init__" = some (.ref a))∧Does n prog w base (.ref a) args σ r st'
theorem Zhg {F:Fn} {n:Nat} (ih:Zf3 n prog w base C F) {σ:List O} {r:V} {st':St} (h:newR C F σ = .ok r st'):Does (n + 1) prog w base (.ref C) [] σ r st':=by
 unfold Does
 intro c μ s vs e1 e2 e3 hA I rvs
 have ev:vs = []:=rvs.out
 refine El.x2_2 (R.bind_inv h) fun r0 st₀ h1 h2=>?_
 obtain ⟨rfl,rfl,rfl⟩:r0 = .none∧r = .inst C σ.length∧st' = st₀:=by
  cases r0 <;> first | exact ⟨rfl,ok1 h2,ok2 h2⟩ | cases h2
 refine El.x2_4 (ih _ _ _ _ h1) fun a o k1 k2 q0z hcall=>El.x2_2 q0z fun N mN X k3=>El.x0_3 (I.make (C:=C)) fun I₁ S₁ r₁=>?_
 subst e1 e2 e3 ev
 have:=hcall { c with A:=c.A.under (.builtin "type.__call__" ⟨[.ref C],[]⟩) } (μ++[s.heap.objs.size]) { s with heap:=newH s.heap C } [.ref (s.heap.objs.size + 1)] rfl rfl rfl (hA.make C) ⟨I₁.vars,I₁.slots,I₁.objs,I₁.len,I₁.nd,I₁.lt,I₁.base,I₁.baseS,I₁.baseM,I₁.sep,I₁.kd⟩ (.cons r₁ .nil)
 clear hcall h h1 h2 ih
 obtain ⟨hp,gg,dd,tt,os⟩:=s
 refine Ze4 (X.keeps I.base) k3 (I.base _ _ k1) k2 (wpAny_mono this (fun v s' q8=>El.x1_4 q8 fun μ' q1 q2 q3 q4=>?_) fun _ _ e=>e.elim)
 clear this
 have S₂:Stp c.bare (σ++[.attrs []]) (μ++[hp.objs.size]) (newH hp C) st'.σ μ' s'.heap:=⟨q3.size,fun b o e _ h2=>q3.keep b o e Z0L h2,q3.pre,q3.tr,q3.new,q3.pv,q3.pk⟩
 have I₂:Inv c.bare ⟨[],st'.σ⟩ μ' s'.heap:=⟨q2.vars,q2.slots,q2.objs,q2.len,q2.nd,q2.lt,q2.base,q2.baseS,q2.baseM,q2.sep,q2.kd⟩
 exact ⟨q1.none_inv,μ',RepV.step (st:=⟨[],σ++[.attrs []]⟩) (st':=⟨[],st'.σ⟩) I₁ S₂ r₁,I₂,S₁.trans S₂,q4⟩
theorem ZhR (W:Wd prog w base mg mb) (hD:ZeY C defs base mg) (hC:mg Z0k = some (.ref C)∧Z7n base C):∀ n,FnOk n prog w base mg (Z08 (C,kH w) defs K n)∧Zf3 n prog w base C (Z08 (C,kH w) defs K n):=by
 intro n
 induction n with
 | zero=>exact ⟨⟨fun f args σ r st' h=>(by cases h),fun C h=>(by cases h),fun σ r st' h=>(by cases h),fun σ r st' h=>(by cases h)⟩,fun args σ r st' h=>(by cases h)⟩
 | succ n ih=>
  refine ⟨⟨fun f args σ r st' h hpl=>?_,fun C' h=>?_,fun σ r st' h=>⟨ok1 h,by rw [ok2 h]⟩,fun σ r st' h=>⟨C,hC.1,hC.2,Zhg ih.2 h⟩⟩,fun args σ r st' h=>?_⟩
  ·refine El.x1_3 (Z7C (Z7D hpl).1 (Z7D hpl).2 h) fun d hmem hname h=>El.x8_7 (hD d hmem) fun rc a o nm qual pm code doc hm g1 _ g2 g3 g4 g5=>?_
   exact ⟨a,o,_,by rw [← hname]; exact g1 (by rw [hname]; exact hpl),g2,g3,Zf2 W ih.1 hm g2 g3 g4 g5 h⟩
  ·rw [Z1U] at h
   have:C = C':=Int.ofNat.inj (Option.some.inj h)
   exact this ▸ hC.2
  ·refine El.x1_3 (Z7C (show Z0F ≠ Z0k by decide) (show Z0F ≠ Z0z by decide) h) fun d hmem hname h=>El.x8_7 (hD d hmem) fun rc a o nm qual pm code doc hm _ g1 g2 g3 g4 g5=>?_
   exact ⟨a,o,g2,(g1 hname).1,(g1 hname).2,Zf2 W ih.1 hm g2 g3 g4 g5 h⟩
end
end Mine
namespace Mine
open PySem PySem.Calls PyProof.Rows PySem.W
noncomputable def Zf4 (q:Program) (loose:List Str) (x:Str):Bool :=
 !startupNames.contains x && !(looseW q loose).contains x && !((recsOf q).map (·.name)).contains x && !((litsOf q).map (·.1)).contains x && !((clssOf q (looseW q loose)).map (·.name)).contains x
noncomputable def bltNames:List String:=["isinstance","len","int","bool","list","tuple","str","range","enumerate","zip","set","sorted","min","max"]
noncomputable def Zf5 (q:Program) (d:Def):Bool:=d.globs.all fun p=>match valOf q p.1 with | some (.int j)=>decide (j = p.2) | _=>false
noncomputable def Zg8 (q:Program):=(plainsOf q (looseW q [])).find? fun c=>c.name == Z0k
noncomputable def Z8I (q:Program):Option DefRec:=(Zg8 q).bind fun c=>(c.meths.find? fun m=>m.name == ("__init__":Str)).map fun m=>⟨Z0F,m.params,m.body,m.scope,⟨0,0,0,0⟩⟩
noncomputable def ZbS (q:Program) (d:Def):Option DefRec:=if d.name == Z0F then Z8I q else (recsOf q).find? fun r=>r.name == d.name
noncomputable def ZhS (q:Program) (d:Def):Bool:=(ZbS q d).any (fun r=>mDef d r) && Zf5 q d
noncomputable def Zg9 (q:Program) (defs:List Def):Bool :=
 (defs.all fun d=>ZhS q d) && (defs.any fun d=>d.name == Z0F) && ((bltNames.all fun x=>Zf4 q [] (Str.ofString x)) && importsNone q) && (Zg8 q).any fun c=>attrNames.all fun y=>decide (y ∈ c.quiet)
noncomputable def eqOk (q:Program) (defs:List Def):Prop:=(defs.map fun d=>(ZbS q d).map fun r=>pSs d.body r.body) = defs.map fun d=>(ZbS q d).map fun r=>r.body
theorem ZhT {q:Program} {defs:List Def} (h:eqOk q defs) {d:Def} (hd:d ∈ defs) {r:DefRec} (e:ZbS q d = some r):pSs d.body r.body = r.body:=by
 have:=List.map_inj_left.mp h d hd
 rw [e] at this
 exact Option.some.inj this
theorem ZbT {α:Type} {o:Option α} {k:α→Bool} (h:o.any k = true):∃ a,o = some a∧k a = true:=by
 cases o with
 | none=>cases h
 | some a=>exact ⟨a,rfl,h⟩
theorem Zga {q:Program} {w:World} {R:WRecords} {XP:(Str→Option Value)→Heap→Prop} {s₀:Shared} {mg mb:Str→Option Value} {h:Heap} (G:Ground q [] R XP w s₀ mg mb h) (ok:((Zg8 q).any fun c=>attrNames.all fun y=>decide (y ∈ c.quiet)) = true) :
  ∃ C,mg Z0k = some (.ref C)∧Z7n h C∧∀ r,Z8I q = some r→∃ (a:Addr) (o:Obj) (nm qual:Str) (pm code doc:Value),(o.cls = .type "function"∧∃ N mN,ClsAt h C N mN∧mN "__init__" = some (.ref a))∧h.get? a = some o∧o.data = .func (methDef nm qual r.params r.body r.scope pm code doc)∧h.CodeRec code qual:=by
 refine El.x1_2 (ZbT ok) fun c hc hq=>?_
 have hn:c.name = Z0k:=eq_of_beq (List.find?_some (p:=fun c:ClsRec=>c.name == Z0k) hc)
 refine El.x3_2 (G.TE c (List.mem_of_find?_eq_some hc)) fun C N mN k1 P=>?_
 have P:=P.ofCmp
 rw [hn] at k1
 refine ⟨C,k1,⟨N,mN,P.cls,P.quiet _ (List.mem_append_left _ (by simp)),P.quiet _ (List.mem_append_left _ (by simp)),fun y hy=>P.quiet _ (of_decide_eq_true (List.all_eq_true.mp hq y hy))⟩,fun r hr=>?_⟩
 unfold Z8I at hr
 rw [hc] at hr
 refine El.x1_2 (Option.map_eq_some_iff.mp hr) fun m hm e=>?_
 subst e
 have hm2:=List.find?_some hm
 have hm2:m.name = ("__init__":Str):=eq_of_beq hm2
 refine El.x5_5 (P.meths m (List.mem_of_find?_eq_some hm)) fun f o pm cd doc g1 g2 g3 g4 g5=>?_
 exact ⟨f,o,_,_,pm,cd,doc,⟨g3,N,mN,P.cls,by rw [← hm2]; exact g1⟩,g2,g4,g5⟩
theorem ZbU {q:Program} {w:World} {R:WRecords} {XP:(Str→Option Value)→Heap→Prop} {s₀:Shared} {mg mb:Str→Option Value} {h:Heap} (G:Ground q [] R XP w s₀ mg mb h) {d:Def} (hd:Zf5 q d = true):∀ x i,d.globs.lookup x = some i→∃ t,mg x = some (.int i t):=fun x i hx=>by
 have:=List.all_eq_true.mp hd (x,i) (mem_of_lookup hx)
 dsimp only at this
 cases hv:valOf q x with
 | none=>rw [hv] at this; cases this
 | some dd=>
  rw [hv] at this
  cases dd <;> try (cases this; done)
  have e:=of_decide_eq_true this
  subst e
  refine El.x1_2 (G.T.const x _ hv) fun v h1 h2=>?_
  cases h2 h with
  | int i t=>exact ⟨t,h1⟩
theorem ZhU {q prog:Program} {w:World} {R:WRecords} {XP:(Str→Option Value)→Heap→Prop} {s₀:Shared} {mg mb:Str→Option Value} {h:Heap} {defs:List Def} (G:Ground q [] R XP w s₀ mg mb h) (ok:Zg9 q defs = true) (eq:eqOk q defs) (ht:prog.given.tree = none) :
  Wd prog w h mg mb∧∃ C,ZeY C defs h mg∧mg Z0k = some (.ref C)∧Z7n h C:=by
 refine El.x0_2 (and2 ok) fun ok h4=>?_
 refine El.x0_2 (and2 ok) fun ok h23=>?_
 refine El.x0_2 (and2 ok) fun h1 h0=>?_
 have T:=G.T
 refine ⟨⟨⟨T.g,T.b,T.builtins,fun x hx=>?_⟩,T.seer (and2 h23).2,T.nolimit,ht⟩,?_⟩
 ·have:=List.all_eq_true.mp (and2 h23).1 x hx
  unfold Zf4 at this
  simp only [Bool.and_eq_true,Bool.not_eq_true',List.contains_eq_mem,decide_eq_false_iff_not] at this
  exact T.free _ this.1.1.1.1 this.1.1.1.2 this.1.1.2 this.1.2 this.2
 ·refine El.x1_3 (Zga G h4) fun C k1 k2 hi=>?_
  refine ⟨C,fun d hd=>?_,k1,k2⟩
  refine El.x0_2 (and2 (List.all_eq_true.mp h1 d hd)) fun hr hgl=>?_
  refine El.x1_2 (ZbT hr) fun r hr hm=>?_
  have he:=ZhT eq hd hr
  unfold ZbS at hr
  by_cases hn:d.name = Z0F
  ·rw [if_pos (beq_iff_eq.mpr hn)] at hr
   obtain ⟨a,o,nm,qual,pm,code,doc,g1,g2,g3,g4⟩:=hi r hr
   exact ⟨r,a,o,nm,qual,pm,code,doc,⟨hm,he⟩,fun hp=>by rw [hn] at hp; exact absurd hp (by decide),fun _=>g1,g2,g3,g4,ZbU G hgl⟩
  ·rw [if_neg fun e=>hn (beq_iff_eq.mp e)] at hr
   refine El.x5_4 (T.fn r (List.mem_of_find?_eq_some hr)) fun a o pm code doc g1 g2 g3 g4=>?_
   exact ⟨r,a,o,r.name,r.name,pm,code,doc,⟨hm,he⟩,fun _=>by rw [(Z7z hm).name]; exact g1,fun e=>absurd e hn,g2,g3,g4,ZbU G hgl⟩
theorem Z3z {R:WRecords}:∀ {xs:List WData},WShape.hasItems R xs .int = true→∃ is:List Int,xs = is.map .int
 | [],_=>⟨[],rfl⟩
 | x :: xs,h=>by
  have h:(WShape.has R x .int && WShape.hasItems R xs .int) = true:=h
  rw [Bool.and_eq_true] at h
  refine El.x1_1 (Z3z h.2) fun is q6z=>?_
  obtain rfl:=q6z
  have hx:=h.1
  cases x <;> try (exact absurd hx Bool.false_ne_true)
  exact ⟨_ :: is,rfl⟩
theorem Zgb {l:OpenLaw} {args:List WData} (hm:l.most = some 63) (h:l.row.toRowW.claim.pre args = true):∃ is:List Int,args = [.list (is.map .int)]∧is.length ≤ 63:=by
 unfold RowW.claim at h
 simp only [Bool.and_eq_true] at h
 refine El.x0_2 h fun h1 h2=>?_
 have ha:l.row.toRowW.args = [.list .int]:=rfl
 rw [ha] at h1
 rcases args with _ | ⟨x,_ | ⟨y,r⟩⟩
 ·exact absurd h1 Bool.false_ne_true
 ·have h1:(WShape.has _ x (.list .int) && true) = true:=h1
  rw [Bool.and_eq_true] at h1
  have hx:=h1.1
  cases x <;> try (exact absurd hx Bool.false_ne_true)
  rename_i xs _
  have hx:(WShape.hasItems _ xs .int || false) = true:=hx
  rw [Bool.or_false] at hx
  refine El.x1_1 (Z3z hx) fun is q7z=>?_
  try clear hx; try clear ha
  obtain rfl:=q7z
  refine ⟨is,rfl,?_⟩
  have hp:l.row.toRowW.pre = l.pre:=rfl
  rw [hp] at h2
  by_cases hle:is.length ≤ 63
  ·exact hle
  ·exfalso
   have:(63:Int) < (is.length:Int):=by omega
   unfold WTm.holds at h2
   rw [show WTm.value _ l.pre _ = some (.bool false) from by unfold OpenLaw.pre; simp [hm,WTm.value,less?,Num.less?,this]] at h2
   cases h2
 ·have h1:(WShape.has _ x (.list .int) && false) = true:=h1
  rw [Bool.and_false] at h1
  exact absurd h1 Bool.false_ne_true
theorem Z9M {R:WRecords} {cl:Str→Option Addr} {h:Heap} {T:Addr→Prop} {μ:List Addr}:∀ {vs:List Value} {is:List Int} {as:List Addr},ReadsAllW R cl h vs (is.map .int) as→RepVs T μ h vs (is.map .int)
 | _,[],_,r=>by cases r; exact .nil
 | _,i :: is,_,r=>by
  cases r with
  | cons a b=>
   cases a with
   | int _ t=>exact .cons (.int i t) (Z9M b)
theorem law_walk {l:OpenLaw} {q:Program} {XP:(Str→Option Value)→Heap→Prop} {YP:World→Heap→Prop} {d:DefRec} {kwd:List (Str × PySem.Expr)} (defs:List Def) (ok:Zg9 q defs = true) (eq:eqOk q defs) (hm:l.most = some 63) (ht:l.prog.given.tree = none)
  (hpure:∀ (C:Nat) (H:Option (List Int) × Str→Int) (is:List Int),is.length ≤ 63→∃ K n st,n ≤ 500∧Z08 (C,H) defs K n d.name [.lst (is.map .int)] [] = .ok (.bool true) st) (hnm:Z5s d.name = true) :
  WalkO q [] XP YP l.row.toRowW d kwd (fun f vs=>PySem.call f vs):=by
 intro w s₀ s₁ mg mb G Y fa o pm cd doc dV kV ho hd hcd hD hmg hg args vals as hpre hlay hrd hwl hlo
 refine El.x1_2 (Zgb hm hpre) fun is q8z hlen=>?_
 try clear hlo; try clear hwl; try clear hlay; try clear hpre; try clear args; try clear hD; try clear hcd; try clear kV; try clear dV; try clear doc; try clear cd; try clear pm
 obtain rfl:=q8z
 obtain ⟨W,C,D,hC⟩:=ZhU (prog:=l.row.toRowW.prog) G ok eq ht
 refine El.x3_2 (hpure C (kH w) is hlen) fun K n st hn hc=>?_
 refine El.x3_4 ((ZhR (K:=K) W D hC n).1.fn _ _ _ _ _ hc hnm) fun a o' fd h1 h2 h3 hw=>?_
 obtain rfl:fa = a:=by
  rw [hmg] at h1
  cases h1; rfl
 let c:Cx:={ prog:=l.row.toRowW.prog,w:=w,base:=s₁.heap,A:=callerA,env:=default,sl:=fun _=>none }
 have noT:∀ b,¬ Tr [] [] b:=fun b ⟨k,o,e,_⟩=>by simp at e
 have I:Inv c.bare ⟨[],[]⟩ [] s₁.heap:=⟨fun i x q=>by simp at q,fun i s q=>(by cases q),fun n o q=>by simp at q,rfl,by simp,fun a q=>by simp at q,fun b o e=>e,fun b q=>(Z0L q).elim,fun a q=>by simp at q,fun b q=>(Z0L q).elim,fun o q=>by cases q⟩
 have rv:RepVs (Tr [] []) [] s₁.heap vals [.lst (is.map .int)]:=by
  try clear h3; try clear h2; try clear h1; try clear fd; try clear o'; try clear hn; try clear st; try clear K; try clear hC; try clear D; try clear C; try clear W
  cases hrd with
  | cons x y=>
   try clear q8z; try clear hrd; try clear hmg; try clear fa; try clear Y; try clear G; try clear mb; try clear mg; try clear s₀; try clear w
   cases y
   cases x with
   | @list a o vs n _ as ho hc hd r=>
    have hz:=Z9M (T:=Tr [] []) (μ:=[]) r
    have hsz:vs.size = is.length:=by have:=hz.length; simpa using this
    exact .cons (.lst ho hc hd (by rw [hsz]; exact Nat.le_trans hlen (by decide)) (noT _) hz) .nil
 have hA:AOk n callerA:=⟨rfl,by show 1 + 300 + n + 110 ≤ 1000; omega,by show 4 + 4 * n + 200 ≤ 9900; omega,[],rfl⟩
 refine wpAny_mono (hw c [] s₁ vals rfl rfl rfl hA I rv) (fun v s' q8=>El.x1_4 q8 fun μ' r1 I' S' Q'=>?_) fun _ _ e=>e.elim
 try clear S'; try clear μ'; try clear hA; try clear hsz; try clear hz; try clear rv; try clear I; try clear noT; try clear hw; try clear hc; try clear n; try clear hlen
 obtain rfl:=r1.bool_inv
 refine ⟨.inl ⟨.bool true,.bool true,[],rfl,fun _=>rfl,.bool true,?_,fun _=>⟨List.nodup_nil,fun a q=>by cases q⟩⟩,.of_keep I'.base,Q'.2.2,.of_eq (by rw [Q'.1,hg])⟩
 have hp:l.row.toRowW.post = .eq .res (.lit (.bool true)):=rfl
 have hr:l.row.toRowW.returns = .bool:=rfl
 unfold RowW.claim
 dsimp only
 rw [hp,hr,show WShape.has l.row.toRowW.records (.bool true) .bool = true from rfl]
 unfold WTm.holds
 rw [show WTm.value _ (WTm.res.eq (.lit (.bool true))) _ = some (.bool true) from by simp [WTm.value,same]]
 rfl
end Mine
namespace Mine
open PySem PySem.W PyProof.Rows
noncomputable def Z6t:List Obj→Nat→BT→BT
 | [],_,t=>t
 | o :: r,i,t=>Z6t r (i + 1) (t.ins i o)
noncomputable def Z2g (ok:Thread→Bool) (sp:SharedT→Thread→Option (SharedT × Thread)):Nat→SharedT→Thread→Option SharedT
 | 0,_,_=>none
 | n + 1,s,t=>match through t with
  | true=>some s
  | false=>match ok t with
   | false=>none
   | true=>match sp s t with
    | some (s',t')=>Z2g ok sp n s' t'
    | none=>none
theorem Z3A {tb:String→Option Builtin} {p:Program} {w:World} {n₀:Nat} {ann:Option Value}:∀ {n:Nat} {s s':SharedT} {t:Thread},Z2g (stepOk n₀ ann) (stepT (denote tb) p w) n s t = some s'→topRun tb p w n₀ ann n s.abs t = some s'.abs
 | 0,_,_,_,h=>by cases h
 | n + 1,s,s',t,h=>by
  unfold Z2g at h
  unfold topRun
  cases ht:through t with
  | true=>rw [ht] at h; cases h; rfl
  | false=>
   rw [ht] at h
   cases hk:stepOk n₀ ann t with
   | false=>rw [hk] at h; cases h
   | true=>
    rw [hk] at h
    cases hs:stepT (denote tb) p w s t with
    | none=>rw [hs] at h; cases h
    | some r=>obtain ⟨s₂,t₂⟩:=r; rw [hs] at h; rw [stepT_spec hs]; exact Z3A h
noncomputable def Ze6 (P:Params) (os:OsState):SharedT:=⟨Z6t (boot_heap P).objs.toList 0 .nil,(boot_heap P).objs.size,(boot_heap P).life,Array.mk [],boot_drawn,boot_toks,os⟩
theorem Zaw (P:Params):absHeap (Z6t (boot_heap P).objs.toList 0 .nil) (boot_heap P).objs.size (boot_heap P).life = boot_heap P:=by kernel_rfl
theorem Ze7 (P:Params):(boot_heap P).isNs mainGlobals = true:=by kernel_rfl
theorem ZbV {p q:Program} {loose:List Str} {Xt:Shared→Bool} {α:Type} {Yf:Shared→α} {Ya:World→α} {N:Nat} {g0:Bool} (e:opening p = plainProg p.main.scope.names) (hN:Nat.ble 600 N = true) (f:∀ s,fenceModules? p s = some s)
  (run:∀ (w:World) (os:OsState),(Z2g (stepOk (boot_heap w.params).objs.size ((boot_heap w.params).nsMap mainGlobals "__annotations__")) (stepT (denote treeTable) p w) N (Ze6 w.params os) (topStub p)).map (fun s=>
   (staticsOk (importedModules p.main.body) (boot_heap w.params) s.abs.heap && namesBound p s.abs.heap && gensDone s.abs && laidKept (boot_heap w.params) s.abs.heap,openSeen q loose (importedModules p.main.body) Xt g0 s.abs,Yf s.abs)) = some (true,openGood q loose,Ya w)):LeftO p q loose Xt Yf Ya N g0:=fun w=>by
 obtain ⟨⟨h,gs,d,k,os⟩,e0,e'⟩:=Option.map_eq_some_iff.mp (boot_open e hN f w)
 obtain ⟨rfl,rfl,rfl,rfl⟩:h = boot_heap w.params∧gs = Array.mk []∧d = boot_drawn∧k = boot_toks:=by simpa using e'
 obtain ⟨s,hs,hv⟩:=Option.map_eq_some_iff.mp (run w os)
 have r:=Z3A hs
 have hab:(Ze6 w.params os).abs = ⟨boot_heap w.params,Array.mk [],boot_drawn,boot_toks,os⟩:=by
  unfold SharedT.abs Ze6
  dsimp only
  rw [Zaw]
 rw [hab] at r
 obtain ⟨l1,l2⟩:=Prod.mk.inj hv
 obtain ⟨l2,l3⟩:=Prod.mk.inj l2
 have t:topFrom treeTable p w N ⟨boot_heap w.params,Array.mk [],boot_drawn,boot_toks,os⟩ = some s.abs:=by
  unfold topFrom
  dsimp only
  rw [Ze7,r]
  show (match staticsOk (importedModules p.main.body) (boot_heap w.params) s.abs.heap && namesBound p s.abs.heap && gensDone s.abs && laidKept (boot_heap w.params) s.abs.heap with | true=>_ | false=>_) = _
  rw [l1]
 unfold openEnds
 rw [e0]
 show (topFrom treeTable p w N _).map _ = _
 rw [t]
 exact congrArg some (Prod.ext l2 l3)
theorem ZbW {n₀:Nat} {ann:Option Value} {p:Program} {w:World}:Z2g (stepOk n₀ ann) (stepT (denote treeTable) p w) = Z2g (PySem.W.Fast.tw6613529449190102663 n₀ ann) (PySem.W.Fast.tw10156331382660048174 (PySem.W.Fast.tw11892475500146522536 treeTable) p w):=by
 rw [PySem.W.Fast.te6613529449190102663,PySem.W.Fast.te10156331382660048174,PySem.W.Fast.te11892475500146522536]
end Mine
namespace Glu
variable {α:Type}
structure Aut where
 bare:Bool
 F:Nat→Prop
 L:Nat→Prop
 R:Nat→Nat→Prop
noncomputable def Path (S:Nat→α→Prop) (A:Aut):Nat→List α→Prop
 | x,[]=>A.L x
 | x,a :: r=>∃ y,A.R x y∧S y a∧Path S A y r
noncomputable def Acc (S:Nat→α→Prop) (A:Aut):List α→Prop
 | []=>A.bare = true
 | a :: r=>∃ x,A.F x∧S x a∧Path S A x r
structure In (A:Aut) (n m:Nat):Prop where
 f:∀ x,A.F x→n ≤ x∧x < m
 l:∀ x,A.L x→n ≤ x∧x < m
 r:∀ x y,A.R x y→(n ≤ x∧x < m)∧n ≤ y∧y < m
noncomputable def seq (A B:Aut):Aut where
 bare:=A.bare && B.bare
 F x:=A.F x ∨ (A.bare = true∧B.F x)
 L x:=(B.bare = true∧A.L x) ∨ B.L x
 R x y:=A.R x y ∨ B.R x y ∨ (A.L x∧B.F y)
noncomputable def alt (A B:Aut):Aut where
 bare:=A.bare || B.bare
 F x:=A.F x ∨ B.F x
 L x:=A.L x ∨ B.L x
 R x y:=A.R x y ∨ B.R x y
noncomputable def opt (A:Aut):Aut:={ A with bare:=true }
noncomputable def star (A:Aut):Aut where
 bare:=true
 F:=A.F
 L:=A.L
 R x y:=A.R x y ∨ (A.L x∧A.F y)
noncomputable def nul:Aut:=⟨true,fun _=>False,fun _=>False,fun _ _=>False⟩
noncomputable def non:Aut:=⟨false,fun _=>False,fun _=>False,fun _ _=>False⟩
noncomputable def leaf (n:Nat):Aut:=⟨false,fun x=>x = n,fun x=>x = n,fun _ _=>False⟩
variable {S:Nat→α→Prop} {A B:Aut} {n m k:Nat}
theorem Path.mono {C:Aut} (hl:∀ x,A.L x→C.L x) (hr:∀ x y,A.R x y→C.R x y):∀ {x:Nat} {w:List α},Path S A x w→Path S C x w
 | _,[],h=>hl _ h
 | _,_ :: _,⟨y,h1,h2,h3⟩=>⟨y,hr _ _ h1,h2,h3.mono hl hr⟩
theorem Z38 (ha:In A n m) (hb:In B m k):∀ {x:Nat} {w:List α},m ≤ x→(Path S (seq A B) x w↔Path S B x w)
 | x,[],hx=>⟨fun h=>h.elim (fun q=>absurd (ha.l _ q.2).2 (Nat.not_lt.mpr hx)) id,.inr⟩
 | x,a :: r,hx=>by
  constructor
  ·intro q0z
   refine El.x1_3 q0z fun y h1 h2 h3=>?_
   rcases h1 with h1 | h1 | h1
   ·exact absurd (ha.r _ _ h1).1.2 (Nat.not_lt.mpr hx)
   ·exact ⟨y,h1,h2,(Z38 ha hb (hb.r _ _ h1).2.1).mp h3⟩
   ·exact absurd (ha.l _ h1.1).2 (Nat.not_lt.mpr hx)
  ·intro q1z
   refine El.x1_3 q1z fun y h1 h2 h3=>?_
   exact ⟨y,.inr (.inl h1),h2,(Z38 ha hb (hb.r _ _ h1).2.1).mpr h3⟩
theorem ZbX (ha:In A n m) (hb:In B m k):∀ {x:Nat} {w:List α},x < m→(Path S (seq A B) x w↔∃ u v,w = u++v∧Path S A x u∧Acc S B v):=by
 intro x w
 induction w generalizing x with
 | nil=>
  intro hx
  constructor
  ·rintro (h | h)
   ·exact ⟨[],[],rfl,h.2,h.1⟩
   ·exact absurd hx (Nat.not_lt.mpr (hb.l _ h).1)
  ·intro q2z
   refine El.x2_3 q2z fun u v e h1 h2=>?_
   obtain ⟨rfl,rfl⟩:u = []∧v = []:=by simpa using e.symm
   exact .inl ⟨h2,h1⟩
 | cons a r ih=>
  intro hx
  constructor
  ·intro q3z
   refine El.x1_3 q3z fun y h1 h2 h3=>?_
   rcases h1 with h1 | h1 | h1
   ·refine El.x2_3 ((ih (ha.r _ _ h1).2.2).mp h3) fun u v q4z k1 k2=>?_
    obtain rfl:=q4z
    exact ⟨a :: u,v,rfl,⟨y,h1,h2,k1⟩,k2⟩
   ·exact absurd hx (Nat.not_lt.mpr (hb.r _ _ h1).1.1)
   ·exact ⟨[],a :: r,rfl,h1.1,y,h1.2,h2,(Z38 ha hb (hb.f _ h1.2).1).mp h3⟩
  ·intro q5z
   refine El.x2_3 q5z fun u v e h1 h2=>?_
   cases u with
   | nil=>
    obtain rfl:v = a :: r:=by simpa using e.symm
    refine El.x1_3 h2 fun y k1 k2 k3=>?_
    exact ⟨y,.inr (.inr ⟨h1,k1⟩),k2,(Z38 ha hb (hb.f _ k1).1).mpr k3⟩
   | cons b u=>
    obtain ⟨rfl,rfl⟩:b = a∧u++v = r:=by simpa using e.symm
    refine El.x1_3 h1 fun y k1 k2 k3=>?_
    exact ⟨y,.inl k1,k2,(ih (ha.r _ _ k1).2.2).mpr ⟨u,v,rfl,k3,h2⟩⟩
theorem ZbY (ha:In A n m) (hb:In B m k) (w:List α):Acc S (seq A B) w↔∃ u v,w = u++v∧Acc S A u∧Acc S B v:=by
 cases w with
 | nil=>
  constructor
  ·intro h
   have h:(A.bare && B.bare) = true:=h
   rw [Bool.and_eq_true] at h
   exact ⟨[],[],rfl,h.1,h.2⟩
  ·intro q6z
   refine El.x2_3 q6z fun u v e h1 h2=>?_
   obtain ⟨rfl,rfl⟩:u = []∧v = []:=by simpa using e.symm
   show (A.bare && B.bare) = true
   rw [Bool.and_eq_true]; exact ⟨h1,h2⟩
 | cons a r=>
  constructor
  ·rintro ⟨x,h1 | h1,h2,h3⟩
   ·refine El.x2_3 ((ZbX ha hb (ha.f _ h1).2).mp h3) fun u v q7z k1 k2=>?_
    obtain rfl:=q7z
    exact ⟨a :: u,v,rfl,⟨x,h1,h2,k1⟩,k2⟩
   ·exact ⟨[],a :: r,rfl,h1.1,x,h1.2,h2,(Z38 ha hb (hb.f _ h1.2).1).mp h3⟩
  ·intro q8z
   refine El.x2_3 q8z fun u v e h1 h2=>?_
   cases u with
   | nil=>
    obtain rfl:v = a :: r:=by simpa using e.symm
    refine El.x1_3 h2 fun x k1 k2 k3=>?_
    exact ⟨x,.inr ⟨h1,k1⟩,k2,(Z38 ha hb (hb.f _ k1).1).mpr k3⟩
   | cons b u=>
    obtain ⟨rfl,rfl⟩:b = a∧u++v = r:=by simpa using e.symm
    refine El.x1_3 h1 fun x k1 k2 k3=>?_
    exact ⟨x,.inl k1,k2,(ZbX ha hb (ha.f _ k1).2).mpr ⟨u,v,rfl,k3,h2⟩⟩
theorem Zhh (ha:In A n m) (hb:In B m k) (h1:n ≤ m) (h2:m ≤ k):In (seq A B) n k where
 f x h:=h.elim (fun q=>⟨(ha.f _ q).1,Nat.lt_of_lt_of_le (ha.f _ q).2 h2⟩) fun q=>⟨Nat.le_trans h1 (hb.f _ q.2).1,(hb.f _ q.2).2⟩
 l x h:=h.elim (fun q=>⟨(ha.l _ q.2).1,Nat.lt_of_lt_of_le (ha.l _ q.2).2 h2⟩) fun q=>⟨Nat.le_trans h1 (hb.l _ q).1,(hb.l _ q).2⟩
 r x y h:=by
  rcases h with q | q | q
  ·have:=ha.r _ _ q; omega
  ·have:=hb.r _ _ q; omega
  ·have:=ha.l _ q.1; have:=hb.f _ q.2; omega
theorem Zhi (ha:In A n m) (hb:In B m k) (h1:n ≤ m) (h2:m ≤ k):In (alt A B) n k where
 f x h:=h.elim (fun q=>⟨(ha.f _ q).1,Nat.lt_of_lt_of_le (ha.f _ q).2 h2⟩) fun q=>⟨Nat.le_trans h1 (hb.f _ q).1,(hb.f _ q).2⟩
 l x h:=h.elim (fun q=>⟨(ha.l _ q).1,Nat.lt_of_lt_of_le (ha.l _ q).2 h2⟩) fun q=>⟨Nat.le_trans h1 (hb.l _ q).1,(hb.l _ q).2⟩
 r x y h:=by
  rcases h with q | q
  ·have:=ha.r _ _ q; omega
  ·have:=hb.r _ _ q; omega
theorem Z6u (ha:In A n m) (hb:In B m k):∀ {x:Nat} {w:List α},x < m→(Path S (alt A B) x w↔Path S A x w)
 | x,[],hx=>⟨fun h=>h.elim id fun q=>absurd hx (Nat.not_lt.mpr (hb.l _ q).1),.inl⟩
 | x,a :: r,hx=>by
  constructor
  ·rintro ⟨y,h1 | h1,h2,h3⟩
   ·exact ⟨y,h1,h2,(Z6u ha hb (ha.r _ _ h1).2.2).mp h3⟩
   ·exact absurd hx (Nat.not_lt.mpr (hb.r _ _ h1).1.1)
  ·intro q9z
   refine El.x1_3 q9z fun y h1 h2 h3=>?_
   exact ⟨y,.inl h1,h2,(Z6u ha hb (ha.r _ _ h1).2.2).mpr h3⟩
theorem Z6v (ha:In A n m) (hb:In B m k):∀ {x:Nat} {w:List α},m ≤ x→(Path S (alt A B) x w↔Path S B x w)
 | x,[],hx=>⟨fun h=>h.elim (fun q=>absurd (ha.l _ q).2 (Nat.not_lt.mpr hx)) id,.inr⟩
 | x,a :: r,hx=>by
  constructor
  ·rintro ⟨y,h1 | h1,h2,h3⟩
   ·exact absurd (ha.r _ _ h1).1.2 (Nat.not_lt.mpr hx)
   ·exact ⟨y,h1,h2,(Z6v ha hb (hb.r _ _ h1).2.1).mp h3⟩
  ·intro q10z
   refine El.x1_3 q10z fun y h1 h2 h3=>?_
   exact ⟨y,.inr h1,h2,(Z6v ha hb (hb.r _ _ h1).2.1).mpr h3⟩
theorem Zgc (ha:In A n m) (hb:In B m k) (w:List α):Acc S (alt A B) w↔Acc S A w ∨ Acc S B w:=by
 cases w with
 | nil=>
  show (A.bare || B.bare) = true↔A.bare = true ∨ B.bare = true
  rw [Bool.or_eq_true]
 | cons a r=>
  constructor
  ·rintro ⟨x,h1 | h1,h2,h3⟩
   ·exact .inl ⟨x,h1,h2,(Z6u ha hb (ha.f _ h1).2).mp h3⟩
   ·exact .inr ⟨x,h1,h2,(Z6v ha hb (hb.f _ h1).1).mp h3⟩
  ·rintro (⟨x,h1,h2,h3⟩ | ⟨x,h1,h2,h3⟩)
   ·exact ⟨x,.inl h1,h2,(Z6u ha hb (ha.f _ h1).2).mpr h3⟩
   ·exact ⟨x,.inr h1,h2,(Z6v ha hb (hb.f _ h1).1).mpr h3⟩
inductive Many (P:List α→Prop):List α→Prop
 | nil:Many P []
 | cons (u v:List α):P u→Many P v→Many P (u++v)
theorem star_path:∀ {x:Nat} {w:List α},Path S (star A) x w↔∃ u v,w = u++v∧Path S A x u∧Acc S (star A) v:=by
 intro x w
 induction w generalizing x with
 | nil=>
  constructor
  ·intro h; exact ⟨[],[],rfl,h,rfl⟩
  ·intro q11z
   refine El.x2_3 q11z fun u v e h1 _=>?_
   obtain ⟨rfl,rfl⟩:u = []∧v = []:=by simpa using e.symm
   exact h1
 | cons a r ih=>
  constructor
  ·rintro ⟨y,h1 | h1,h2,h3⟩
   ·refine El.x2_3 (ih.mp h3) fun u v q12z k1 k2=>?_
    obtain rfl:=q12z
    exact ⟨a :: u,v,rfl,⟨y,h1,h2,k1⟩,k2⟩
   ·exact ⟨[],a :: r,rfl,h1.1,y,h1.2,h2,h3⟩
  ·intro q13z
   refine El.x2_3 q13z fun u v e h1 h2=>?_
   cases u with
   | nil=>
    obtain rfl:v = a :: r:=by simpa using e.symm
    refine El.x1_3 h2 fun y k1 k2 k3=>?_
    exact ⟨y,.inr ⟨h1,k1⟩,k2,k3⟩
   | cons b u=>
    obtain ⟨rfl,rfl⟩:b = a∧u++v = r:=by simpa using e.symm
    refine El.x1_3 h1 fun y k1 k2 k3=>?_
    exact ⟨y,.inl k1,k2,ih.mpr ⟨u,v,rfl,k3,h2⟩⟩
theorem Z1V:∀ (l:Nat) (w:List α),w.length ≤ l→(Acc S (star A) w↔Many (Acc S A) w)
 | l,[],_=>⟨fun _=>.nil,fun _=>rfl⟩
 | 0,a :: r,h=>absurd h (by simp)
 | l + 1,a :: r,h=>by
  have hr:r.length ≤ l:=by simpa using h
  constructor
  ·intro q14z
   refine El.x1_3 q14z fun x h1 h2 h3=>?_
   refine El.x2_3 (star_path.mp h3) fun u v q15z k1 k2=>?_
   obtain rfl:=q15z
   have hv:v.length ≤ l:=by simp at hr; lia
   exact .cons (a :: u) v ⟨x,h1,h2,k1⟩ ((Z1V l v hv).mp k2)
  ·intro hm
   generalize hw:a :: r = w at hm
   induction hm with
   | nil=>cases hw
   | cons u v hu hv ih=>
    cases u with
    | nil=>exact ih hw
    | cons b u=>
     obtain ⟨rfl,rfl⟩:a = b∧r = u++v:=by simpa using hw
     refine El.x1_3 hu fun x k1 k2 k3=>?_
     have hvl:v.length ≤ l:=by simp at hr; lia
     exact ⟨x,k1,k2,star_path.mpr ⟨u,v,rfl,k3,(Z1V l v hvl).mpr hv⟩⟩
theorem Ze8 (w:List α):Acc S (star A) w↔Many (Acc S A) w:=Z1V _ _ (Nat.le_refl _)
theorem Zgd (w:List α):Acc S (opt A) w↔w = [] ∨ Acc S A w:=by
 have hp:∀ (x:Nat) (w:List α),Path S (opt A) x w↔Path S A x w:=fun x w=>⟨fun h=>Path.mono (A:=opt A) (C:=A) (fun _ q=>q) (fun _ _ q=>q) h,fun h=>Path.mono (A:=A) (C:=opt A) (fun _ q=>q) (fun _ _ q=>q) h⟩
 cases w with
 | nil=>exact ⟨fun _=>.inl rfl,fun _=>rfl⟩
 | cons a r=>
  constructor
  ·rintro ⟨x,h1,h2,h3⟩; exact .inr ⟨x,h1,h2,(hp _ _).mp h3⟩
  ·rintro (h | ⟨x,h1,h2,h3⟩)
   ·cases h
   ·exact ⟨x,h1,h2,(hp _ _).mpr h3⟩
theorem Zge (ha:In A n m):In (star A) n m where
 f:=ha.f
 l:=ha.l
 r x y h:=h.elim (ha.r x y) fun q=>⟨ha.l _ q.1,ha.f _ q.2⟩
theorem Zhj (ha:In A n m):In (opt A) n m:=⟨ha.f,ha.l,ha.r⟩
theorem Ze9 (w:List α):Acc S (leaf n) w↔∃ a,w = [a]∧S n a:=by
 cases w with
 | nil=>
  constructor
  ·intro h; cases h
  ·rintro ⟨a,e,_⟩; cases e
 | cons a r=>
  constructor
  ·intro q16z
   refine El.x1_3 q16z fun x q17z h2 h3=>?_
   obtain rfl:=q17z
   cases r with
   | nil=>exact ⟨a,rfl,h2⟩
   | cons b r=>obtain ⟨y,q,_⟩:=h3; exact q.elim
  ·intro q18z
   refine El.x1_2 q18z fun b e h=>?_
   cases e
   exact ⟨n,rfl,h,rfl⟩
theorem Zgf:In (leaf n) n (n + 1):=⟨fun x h=>by cases h; lia,fun x h=>by cases h; lia,fun _ _ h=>h.elim⟩
theorem Zgg (w:List α):Acc S nul w↔w = []:=by
 cases w with
 | nil=>exact ⟨fun _=>rfl,fun _=>rfl⟩
 | cons a r=>exact ⟨fun ⟨x,h,_⟩=>h.elim,fun h=>by cases h⟩
theorem Zgh (w:List α):¬ Acc S non w:=by
 cases w with
 | nil=>exact fun h=>by cases h
 | cons a r=>exact fun ⟨x,h,_⟩=>h.elim
theorem Zhk:In nul n n:=⟨fun _ h=>h.elim,fun _ h=>h.elim,fun _ _ h=>h.elim⟩
theorem Zhl:In non n n:=⟨fun _ h=>h.elim,fun _ h=>h.elim,fun _ _ h=>h.elim⟩
mutual
inductive Pat (α:Type)
 | one (s:List α)
 | row (ps:Pats α)
 | or (ps:Pats α)
 | many (p:Pat α)
 | maybe (p:Pat α)
inductive Pats (α:Type)
 | nil
 | cons (p:Pat α) (ps:Pats α)
end
variable {α:Type}
mutual
noncomputable def Pat.lang:Pat α→List α→Prop
 | .one s,w=>∃ a,w = [a]∧a ∈ s
 | .row ps,w=>ps.langR w
 | .or ps,w=>ps.langO w
 | .many p,w=>Many (fun u=>p.lang u) w
 | .maybe p,w=>w = [] ∨ p.lang w
noncomputable def Pats.langR:Pats α→List α→Prop
 | .nil,w=>w = []
 | .cons p ps,w=>∃ u v,w = u++v∧p.lang u∧ps.langR v
noncomputable def Pats.langO:Pats α→List α→Prop
 | .nil,_=>False
 | .cons p ps,w=>p.lang w ∨ ps.langO w
end
mutual
noncomputable def Pat.leaves:Pat α→List (List α)
 | .one s=>[s]
 | .row ps=>ps.leaves
 | .or ps=>ps.leaves
 | .many p=>p.leaves
 | .maybe p=>p.leaves
noncomputable def Pats.leaves:Pats α→List (List α)
 | .nil=>[]
 | .cons p ps=>p.leaves++ps.leaves
end
mutual
noncomputable def Pat.aut:Pat α→Nat→Aut
 | .one _,n=>leaf n
 | .row ps,n=>ps.autR nul n
 | .or ps,n=>ps.autO non n
 | .many p,n=>star (p.aut n)
 | .maybe p,n=>opt (p.aut n)
noncomputable def Pats.autR:Pats α→Aut→Nat→Aut
 | .nil,A,_=>A
 | .cons p ps,A,n=>ps.autR (seq A (p.aut n)) (n + p.leaves.length)
noncomputable def Pats.autO:Pats α→Aut→Nat→Aut
 | .nil,A,_=>A
 | .cons p ps,A,n=>ps.autO (alt A (p.aut n)) (n + p.leaves.length)
end
theorem l1 (s:List α) (w:List α):(Pat.one s).lang w = ∃ a,w = [a]∧a ∈ s:=rfl
theorem l2 (ps:Pats α) (w:List α):(Pat.row ps).lang w = ps.langR w:=rfl
theorem l3 (ps:Pats α) (w:List α):(Pat.or ps).lang w = ps.langO w:=rfl
theorem l4 (p:Pat α) (w:List α):(Pat.many p).lang w = Many (fun u=>p.lang u) w:=rfl
theorem l5 (p:Pat α) (w:List α):(Pat.maybe p).lang w = (w = [] ∨ p.lang w):=rfl
theorem lr0 (w:List α):(Pats.nil:Pats α).langR w = (w = []):=rfl
theorem lr1 (p:Pat α) (ps:Pats α) (w:List α):(Pats.cons p ps).langR w = ∃ u v,w = u++v∧p.lang u∧ps.langR v:=rfl
theorem lo0 (w:List α):(Pats.nil:Pats α).langO w = False:=rfl
theorem lo1 (p:Pat α) (ps:Pats α) (w:List α):(Pats.cons p ps).langO w = (p.lang w ∨ ps.langO w):=rfl
theorem ls0:(Pats.nil:Pats α).leaves = []:=rfl
theorem ls1 (p:Pat α) (ps:Pats α):(Pats.cons p ps).leaves = p.leaves++ps.leaves:=rfl
theorem au1 (s:List α) (n:Nat):(Pat.one s).aut n = leaf n:=rfl
theorem ar0 (A:Aut) (n:Nat):(Pats.nil:Pats α).autR A n = A:=rfl
theorem ar1 (p:Pat α) (ps:Pats α) (A:Aut) (n:Nat):(Pats.cons p ps).autR A n = ps.autR (seq A (p.aut n)) (n + p.leaves.length):=rfl
theorem ao0 (A:Aut) (n:Nat):(Pats.nil:Pats α).autO A n = A:=rfl
theorem ao1 (p:Pat α) (ps:Pats α) (A:Aut) (n:Nat):(Pats.cons p ps).autO A n = ps.autO (alt A (p.aut n)) (n + p.leaves.length):=rfl
noncomputable def At (S:Nat→α→Prop) (n:Nat) (ls:List (List α)):Prop:=∀ i s,ls[i]? = some s→∀ a,S (n + i) a↔a ∈ s
theorem At.left {S:Nat→α→Prop} {n:Nat} {l r:List (List α)} (h:At S n (l++r)):At S n l:=fun i s e=>h i s (by rw [List.getElem?_append_left (List.getElem?_eq_some_iff.mp e).1]; exact e)
theorem At.right {S:Nat→α→Prop} {n:Nat} {l r:List (List α)} (h:At S n (l++r)):At S (n + l.length) r:=fun i s e a=>by
 have:=h (l.length + i) s (by rw [List.getElem?_append_right (by lia)]; simpa using e) a
 rwa [← Nat.add_assoc] at this
variable {S:Nat→α→Prop}
theorem Many.congr {P Q:List α→Prop} (h:∀ w,P w↔Q w) (w:List α):Many P w↔Many Q w:=by
 have:P = Q:=funext fun w=>propext (h w)
 rw [this]
mutual
theorem Pat.acc:∀ (p:Pat α) (n:Nat),At S n p.leaves→In (p.aut n) n (n + p.leaves.length)∧∀ w,Acc S (p.aut n) w↔p.lang w
 | .one s,n,h=>⟨Zgf,fun w=>by
   have h0:=h 0 s rfl
   simp only [au1,l1,l2,l3,l4,l5,Ze9]
   exact ⟨fun ⟨a,e,q⟩=>⟨a,e,(h0 a).mp q⟩,fun ⟨a,e,q⟩=>⟨a,e,(h0 a).mpr q⟩⟩⟩
 | .row ps,n,h=>by
  have:=Pats.accR ps nul n n (Nat.le_refl _) Zhk h
  refine ⟨this.1,fun w=>(this.2 w).trans ?_⟩
  simp only [l1,l2,l3,l4,l5,Zgg]
  exact ⟨fun ⟨u,v,e,hu,hv⟩=>by subst hu; subst e; exact hv,fun hv=>⟨[],w,rfl,rfl,hv⟩⟩
 | .or ps,n,h=>by
  have:=Pats.accO ps non n n (Nat.le_refl _) Zhl h
  refine ⟨this.1,fun w=>(this.2 w).trans ?_⟩
  simp only [l1,l2,l3,l4,l5]
  exact ⟨fun q=>q.elim (fun q=>(Zgh w q).elim) id,.inr⟩
 | .many p,n,h=>by
  have:=Pat.acc p n h
  exact ⟨Zge this.1,fun w=>(Ze8 w).trans (Many.congr this.2 w)⟩
 | .maybe p,n,h=>by
  have:=Pat.acc p n h
  refine ⟨Zhj this.1,fun w=>(Zgd w).trans ?_⟩
  simp only [l1,l2,l3,l4,l5,this.2]
theorem Pats.accR:∀ (ps:Pats α) (A:Aut) (n m:Nat),n ≤ m→In A n m→At S m ps.leaves→In (ps.autR A m) n (m + ps.leaves.length)∧∀ w,Acc S (ps.autR A m) w↔∃ u v,w = u++v∧Acc S A u∧ps.langR v
 | .nil,A,n,m,_,ha,_=>⟨ha,fun w=>by
   simp only [ar0,ar1,lr0,lr1]
   exact ⟨fun q=>⟨w,[],(List.append_nil w).symm,q,rfl⟩,fun ⟨u,v,e,hu,hv⟩=>by subst hv; rw [List.append_nil] at e; subst e; exact hu⟩⟩
 | .cons p ps,A,n,m,hnm,ha,h=>by
  have hp:=Pat.acc p m h.left
  have hle:m ≤ m + p.leaves.length:=Nat.le_add_right _ _
  have hs:=Pats.accR ps (seq A (p.aut m)) n (m + p.leaves.length) (Nat.le_trans hnm hle) (Zhh ha hp.1 hnm hle) h.right
  refine ⟨?_,fun w=>?_⟩
  ·have:=hs.1
   simp only [ar0,ar1,ls0,ls1,List.length_append]
   rwa [Nat.add_assoc] at this
  ·simp only [ar0,ar1,lr0,lr1]
   rw [hs.2 w]
   constructor
   ·intro q0z
    refine El.x2_3 q0z fun u v q1z hu hv=>?_
    obtain rfl:=q1z
    refine El.x2_3 ((ZbY ha hp.1 u).mp hu) fun x y q2z hx hy=>?_
    obtain rfl:=q2z
    exact ⟨x,y++v,by rw [List.append_assoc],hx,y,v,rfl,(hp.2 y).mp hy,hv⟩
   ·intro q3z
    obtain ⟨u,v,rfl,hu,y,z,rfl,hy,hz⟩:=q3z
    exact ⟨u++y,z,by rw [List.append_assoc],(ZbY ha hp.1 _).mpr ⟨u,y,rfl,hu,(hp.2 y).mpr hy⟩,hz⟩
theorem Pats.accO:∀ (ps:Pats α) (A:Aut) (n m:Nat),n ≤ m→In A n m→At S m ps.leaves→In (ps.autO A m) n (m + ps.leaves.length)∧∀ w,Acc S (ps.autO A m) w↔Acc S A w ∨ ps.langO w
 | .nil,A,n,m,_,ha,_=>⟨ha,fun w=>by simp only [ao0,ao1,lo0,lo1,or_false]⟩
 | .cons p ps,A,n,m,hnm,ha,h=>by
  have hp:=Pat.acc p m h.left
  have hle:m ≤ m + p.leaves.length:=Nat.le_add_right _ _
  have hs:=Pats.accO ps (alt A (p.aut m)) n (m + p.leaves.length) (Nat.le_trans hnm hle) (Zhi ha hp.1 hnm hle) h.right
  refine ⟨?_,fun w=>?_⟩
  ·have:=hs.1
   simp only [ao0,ao1,ls0,ls1,List.length_append]
   rwa [Nat.add_assoc] at this
  ·simp only [ao0,ao1,lo0,lo1]
   rw [hs.2 w,Zgc ha hp.1,hp.2 w,or_assoc]
end
variable {α:Type}
noncomputable def cutAt (t:List α) (i j:Nat):List α:=(t.drop i).take (j - i)
noncomputable def Sl (P:List α→Prop) (t:List α) (i j:Nat):Prop:=i ≤ j∧j ≤ t.length∧P (cutAt t i j)
theorem cutAt_length {t:List α} {i j:Nat} (h1:i ≤ j) (h2:j ≤ t.length):(cutAt t i j).length = j - i:=by
 simp [cutAt]; lia
theorem cutAt_app {t:List α} {i k j:Nat} (h1:i ≤ k) (h2:k ≤ j) (h3:j ≤ t.length):cutAt t i j = cutAt t i k++cutAt t k j:=by
 unfold cutAt
 have e:j - i = (k - i) + (j - k):=by lia
 rw [e,List.take_add,List.drop_drop,show i + (k - i) = k by lia]
theorem Z4D {t u v:List α} {i j:Nat} (h1:i ≤ j) (h2:j ≤ t.length) (e:cutAt t i j = u++v):i + u.length ≤ j∧cutAt t i (i + u.length) = u∧cutAt t (i + u.length) j = v:=by
 have hl:=cutAt_length h1 h2
 rw [e,List.length_append] at hl
 have hk:i + u.length ≤ j:=by lia
 have e2:=cutAt_app (t:=t) (Nat.le_add_right i u.length) hk h2
 rw [e] at e2
 have h3:(cutAt t i (i + u.length)).length = u.length:=by rw [cutAt_length (by lia) (by lia)]; lia
 obtain ⟨q1,q2⟩:=List.append_inj e2 h3.symm
 exact ⟨hk,q1.symm,q2.symm⟩
theorem Z5B (t:List α) (i:Nat):cutAt t i i = []:=by simp [cutAt]
theorem Z7E {t:List α} {i j:Nat} (h1:i ≤ j) (h2:j ≤ t.length) (e:cutAt t i j = []):i = j:=by
 have:=cutAt_length h1 h2
 rw [e] at this
 simp at this; lia
theorem sl_nil {t:List α} {i j:Nat}:Sl (fun w=>w = []) t i j↔i = j∧i ≤ t.length:=by
 constructor
 ·rintro ⟨h1,h2,h3⟩
  obtain rfl:=Z7E h1 h2 h3
  exact ⟨rfl,h2⟩
 ·rintro ⟨rfl,h⟩; exact ⟨Nat.le_refl _,h,Z5B _ _⟩
theorem sl_seq {P Q:List α→Prop} {t:List α} {i j:Nat}:Sl (fun w=>∃ u v,w = u++v∧P u∧Q v) t i j↔∃ k,Sl P t i k∧Sl Q t k j:=by
 constructor
 ·rintro ⟨h1,h2,u,v,e,hu,hv⟩
  obtain ⟨hk,e1,e2⟩:=Z4D h1 h2 e
  exact ⟨i + u.length,⟨Nat.le_add_right _ _,Nat.le_trans hk h2,by rw [e1]; exact hu⟩,hk,h2,by rw [e2]; exact hv⟩
 ·rintro ⟨k,⟨h1,h2,h3⟩,h4,h5,h6⟩
  exact ⟨Nat.le_trans h1 h4,h5,_,_,cutAt_app h1 h4 h5,h3,h6⟩
theorem sl_or {P Q:List α→Prop} {t:List α} {i j:Nat}:Sl (fun w=>P w ∨ Q w) t i j↔Sl P t i j ∨ Sl Q t i j:=by
 constructor
 ·rintro ⟨h1,h2,h | h⟩
  ·exact .inl ⟨h1,h2,h⟩
  ·exact .inr ⟨h1,h2,h⟩
 ·rintro (⟨h1,h2,h⟩ | ⟨h1,h2,h⟩)
  ·exact ⟨h1,h2,.inl h⟩
  ·exact ⟨h1,h2,.inr h⟩
theorem sl_one {s t:List α} {i j:Nat}:Sl (fun w=>∃ a,w = [a]∧a ∈ s) t i j↔j = i + 1∧∃ a,t[i]? = some a∧a ∈ s:=by
 constructor
 ·rintro ⟨h1,h2,a,e,ha⟩
  have hl:=cutAt_length h1 h2
  rw [e] at hl
  have hj:j = i + 1:=by simp at hl; lia
  subst hj
  refine ⟨rfl,a,?_,ha⟩
  have:(cutAt t i (i + 1))[0]? = some a:=by rw [e]; rfl
  unfold cutAt at this
  rw [List.getElem?_take_of_lt (by lia),List.getElem?_drop] at this
  simpa using this
 ·rintro ⟨rfl,a,e,ha⟩
  have hlt:i < t.length:=(List.getElem?_eq_some_iff.mp e).1
  refine ⟨by lia,hlt,a,?_,ha⟩
  unfold cutAt
  rw [List.drop_eq_getElem_cons hlt,show i + 1 - i = 1 by lia]
  obtain ⟨_,rfl⟩:=List.getElem?_eq_some_iff.mp e
  rfl
inductive Star (R:Nat→Nat→Prop):Nat→Nat→Prop
 | refl (i:Nat):Star R i i
 | step (i k j:Nat):R i k→Star R k j→Star R i j
theorem Star.snoc {R:Nat→Nat→Prop} {i k j:Nat} (h:Star R i k) (q:R k j):Star R i j:=by
 induction h with
 | refl i=>exact .step _ _ _ q (.refl _)
 | step a b c h1 _ ih=>exact .step _ _ _ h1 (ih q)
theorem sl_many {P:List α→Prop} {t:List α} {i j:Nat}:Sl (Many P) t i j↔i ≤ t.length∧Star (Sl P t) i j:=by
 constructor
 ·rintro ⟨h1,h2,h3⟩
  refine ⟨Nat.le_trans h1 h2,?_⟩
  generalize hw:cutAt t i j = w at h3
  induction h3 generalizing i with
  | nil=>obtain rfl:=Z7E h1 h2 hw; exact .refl _
  | cons u v hu hv ih=>
   obtain ⟨hk,e1,e2⟩:=Z4D h1 h2 hw
   exact .step _ (i + u.length) _ ⟨Nat.le_add_right _ _,Nat.le_trans hk h2,by rw [e1]; exact hu⟩ (ih hk e2)
 ·rintro ⟨h,hs⟩
  induction hs with
  | refl i=>exact ⟨Nat.le_refl _,h,(Z5B t i).symm ▸ .nil⟩
  | step a b c h1 _ ih=>
   obtain ⟨q1,q2,q3⟩:=ih h1.2.1
   exact ⟨Nat.le_trans h1.1 q1,q2,cutAt_app h1.1 q1 q2 ▸ .cons _ _ h1.2.2 q3⟩
theorem sl_congr {P Q:List α→Prop} (h:∀ w,P w↔Q w) {t:List α} {i j:Nat}:Sl P t i j↔Sl Q t i j:=by
 have:P = Q:=funext fun w=>propext (h w)
 rw [this]
variable {α:Type} {S:Nat→α→Prop} {A:Aut}
noncomputable def Runs (S:Nat→α→Prop) (A:Aut):(Nat→Prop)→List α→Nat→Prop
 | X,[],y=>X y
 | X,a :: r,y=>Runs S A (fun z=>∃ x,X x∧A.R x z∧S z a) r y
theorem Z7F:∀ (r:List α) (X:Nat→Prop),(∃ x,X x∧Path S A x r)↔∃ y,Runs S A X r y∧A.L y
 | [],_=>Iff.rfl
 | a :: r,X=>by
  have ih:=Z7F r (fun z=>∃ x,X x∧A.R x z∧S z a)
  refine Iff.trans ?_ ih
  constructor
  ·rintro ⟨x,hx,y,h1,h2,h3⟩; exact ⟨y,⟨x,hx,h1,h2⟩,h3⟩
  ·rintro ⟨y,⟨x,hx,h1,h2⟩,h3⟩; exact ⟨x,hx,y,h1,h2,h3⟩
theorem Zea (a:α) (r:List α):Acc S A (a :: r)↔∃ y,Runs S A (fun x=>A.F x∧S x a) r y∧A.L y:=by
 refine Iff.trans ?_ (Z7F r _)
 constructor
 ·rintro ⟨x,h1,h2,h3⟩; exact ⟨x,⟨h1,h2⟩,h3⟩
 ·rintro ⟨x,⟨h1,h2⟩,h3⟩; exact ⟨x,h1,h2,h3⟩
theorem Z5C {X:Nat→Prop} (h:∀ x,¬ X x):∀ (r:List α) (y:Nat),¬ Runs S A X r y
 | [],y=>h y
 | a :: r,y=>Z5C (fun _ ⟨x,hx,_⟩=>h x hx) r y
structure Side where
 A:Aut
 n:Nat
 m:Nat
theorem Z5D {X Y:Nat→Prop} {A B:Aut} (hx:∀ x,X x↔Y x) (hr:∀ x y,A.R x y↔B.R x y):∀ (r:List α) (y:Nat),Runs S A X r y↔Runs S B Y r y
 | [],y=>hx y
 | a :: r,y=>Z5D (fun z=>⟨fun ⟨x,h1,h2,h3⟩=>⟨x,(hx x).mp h1,(hr x z).mp h2,h3⟩,fun ⟨x,h1,h2,h3⟩=>⟨x,(hx x).mpr h1,(hr x z).mpr h2,h3⟩⟩) hr r y
theorem Z7G {A B:Aut} {P:Nat→Prop} (hr:∀ x y,P x ∨ P y→(A.R x y↔B.R x y)) (hp:∀ x y,B.R x y→(P x∧P y)):∀ (r:List α) (X Y:Nat→Prop),(∀ x,P x→(X x↔Y x))→(∀ x,Y x→P x)→∀ y,P y→(Runs S A X r y↔Runs S B Y r y)
 | [],X,Y,hx,_,y,hy=>hx y hy
 | a :: r,X,Y,hx,hY,y,hy=>Z7G hr hp r _ _ (fun z hz=>by
   constructor
   ·intro q0z
    refine El.x1_3 q0z fun x h1 h2 h3=>?_
    have hb:=(hr x z (.inr hz)).mp h2
    exact ⟨x,(hx x (hp _ _ hb).1).mp h1,hb,h3⟩
   ·intro q1z
    refine El.x1_3 q1z fun x h1 h2 h3=>?_
    exact ⟨x,(hx x (hY x h1)).mpr h1,(hr x z (.inr hz)).mpr h2,h3⟩) (fun z ⟨x,_,h2,_⟩=>(hp _ _ h2).2) y hy
structure Clo (R:Nat→Nat→Prop) (B found fresh:List Nat):Prop where
 base:∀ x ∈ B,x ∈ found
 back:∀ x ∈ found,∃ b ∈ B,Star R b x
 sub:∀ x ∈ fresh,x ∈ found
 next:∀ x ∈ found,x ∈ fresh ∨ ∀ y,R x y→y ∈ found
variable {R:Nat→Nat→Prop} {B found fresh more:List Nat}
theorem Clo.start (B:List Nat):Clo R B B B:=⟨fun _ h=>h,fun x h=>⟨x,h,.refl x⟩,fun _ h=>h,fun _ h=>.inl h⟩
theorem Clo.turn (C:Clo R B found fresh) (hm:∀ j,j ∈ more↔∃ i ∈ fresh,R i j):Clo R B (found++more.filter fun x=>!found.contains x) (more.filter fun x=>!found.contains x) where
 base x h:=List.mem_append_left _ (C.base x h)
 back x h:=by
  rcases List.mem_append.mp h with h | h
  ·exact C.back x h
  ·obtain ⟨i,hi,hr⟩:=(hm x).mp (List.mem_filter.mp h).1
   obtain ⟨b,hb,hs⟩:=C.back i (C.sub i hi)
   exact ⟨b,hb,hs.snoc hr⟩
 sub x h:=List.mem_append_right _ h
 next x h:=by
  rcases List.mem_append.mp h with h | h
  ·refine .inr fun y hy=>?_
   rcases C.next x h with hf | hf
   ·by_cases hy':y ∈ found
    ·exact List.mem_append_left _ hy'
    ·exact List.mem_append_right _ (List.mem_filter.mpr ⟨(hm y).mpr ⟨x,hf,hy⟩,by simp [hy']⟩)
   ·exact List.mem_append_left _ (hf y hy)
  ·exact .inl h
theorem Clo.done (C:Clo R B found []) (y:Nat):y ∈ found↔∃ b ∈ B,Star R b y:=by
 refine ⟨C.back y,?_⟩
 rintro ⟨b,hb,hs⟩
 have hb':=C.base b hb
 clear hb
 induction hs with
 | refl i=>exact hb'
 | step i k j h1 _ ih=>exact ih ((C.next i hb').elim (fun q=>by cases q) fun q=>q k h1)
noncomputable def lacks (n:Nat) (found:List Nat):Nat:=((List.range (n + 1)).filter fun x=>!found.contains x).length
theorem lacks_lt {n:Nat} {found fresh:List Nat} (h1:∀ x ∈ fresh,x ≤ n∧x ∉ found) (h2:fresh ≠ []):lacks n (found++fresh) < lacks n found:=by
 obtain ⟨x,hx⟩:∃ x,x ∈ fresh:=List.exists_mem_of_ne_nil _ h2
 unfold lacks
 have e:((List.range (n + 1)).filter fun x=>!(found++fresh).contains x) = ((List.range (n + 1)).filter fun x=>!found.contains x).filter fun x=>!fresh.contains x:=by
  rw [List.filter_filter]
  congr 1
  funext y
  by_cases a:y ∈ found <;> by_cases b:y ∈ fresh <;> simp [a,b]
 rw [e]
 refine Nat.lt_of_le_of_ne (List.length_filter_le _ _) fun q=>?_
 have:=List.length_filter_eq_length_iff.mp q x (List.mem_filter.mpr ⟨List.mem_range.mpr (Nat.lt_succ_of_le (h1 x hx).1),by simp [(h1 x hx).2]⟩)
 simp [hx] at this
noncomputable def off {α:Type}:List (Pat α)→Nat→Nat
 | [],_=>0
 | _,0=>0
 | p :: ps,k + 1=>p.leaves.length + off ps k
noncomputable def allLeaves {α:Type} (ps:List (Pat α)):List (List α):=ps.flatMap fun p=>p.leaves
theorem Z1u {α:Type}:∀ (ps:List (Pat α)) (k:Nat) (p:Pat α),ps[k]? = some p→off ps (k + 1) = off ps k + p.leaves.length
 | [],_,_,h=>by simp at h
 | q :: ps,0,p,h=>by
  obtain rfl:q = p:=by simpa using h
  cases ps <;> simp [off]
 | q :: ps,k + 1,p,h=>by
  have:=Z1u ps k p (by simpa using h)
  simp only [off,this]; lia
theorem Z7H {α:Type} (ps:List (Pat α)):∀ (j k:Nat),j ≤ k→off ps j ≤ off ps k:=by
 intro j k h
 induction k with
 | zero=>rw [Nat.le_zero.mp h]; exact Nat.le_refl _
 | succ k ih=>
  have hk:off ps k ≤ off ps (k + 1):=by
   cases e:ps[k]? with
   | some p=>rw [Z1u ps k p e]; lia
   | none=>
    have:∀ (ps:List (Pat α)) (k:Nat),ps[k]? = none→off ps k ≤ off ps (k + 1):=by
     intro ps
     induction ps with
     | nil=>intro k _; simp [off]
     | cons q ps ih=>
      intro k h
      cases k with
      | zero=>simp at h
      | succ k=>have:=ih k (by simpa using h); simp only [off]; lia
    exact this ps k e
  rcases Nat.lt_or_ge j (k + 1) with q | q
  ·exact Nat.le_trans (ih (by lia)) hk
  ·rw [Nat.le_antisymm h q]; exact Nat.le_refl _
theorem Zf6 {α:Type} {S:Nat→α→Prop}:∀ (ps:List (Pat α)) (n:Nat),At S n (allLeaves ps)→∀ (k:Nat) (p:Pat α),ps[k]? = some p→At S (n + off ps k) p.leaves
 | [],_,_,_,_,h=>by simp at h
 | q :: ps,n,ha,0,p,h=>by
  obtain rfl:q = p:=by simpa using h
  have:off (q :: ps) 0 = 0:=by simp [off]
  rw [this]
  unfold allLeaves at ha
  rw [List.flatMap_cons] at ha
  exact ha.left
 | q :: ps,n,ha,k + 1,p,h=>by
  unfold allLeaves at ha
  rw [List.flatMap_cons] at ha
  have:=Zf6 ps (n + q.leaves.length) ha.right k p (by simpa using h)
  simp only [off]
  rwa [Nat.add_assoc] at this
noncomputable def Gf {α:Type} (ps:List (Pat α)) (x:Nat):Prop:=∃ (k:Nat) (p:Pat α),ps[k]? = some p∧(p.aut (off ps k)).F x
noncomputable def Gl {α:Type} (ps:List (Pat α)) (k x:Nat):Prop:=∃ p,ps[k]? = some p∧(p.aut (off ps k)).L x
noncomputable def Gr {α:Type} (ps:List (Pat α)) (x y:Nat):Prop:=∃ (k:Nat) (p:Pat α),ps[k]? = some p∧(p.aut (off ps k)).R x y
noncomputable def G {α:Type} (ps:List (Pat α)):Aut:=⟨false,Gf ps,fun x=>∃ k,Gl ps k x,Gr ps⟩
theorem apart {α:Type} {ps:List (Pat α)} {j k x:Nat} {p q:Pat α} (hj:ps[j]? = some p) (hk:ps[k]? = some q) (h1:off ps j ≤ x∧x < off ps j + p.leaves.length) (h2:off ps k ≤ x∧x < off ps k + q.leaves.length):j = k:=by
 have e1:=Z1u ps j p hj
 have e2:=Z1u ps k q hk
 rcases Nat.lt_trichotomy j k with h | h | h
 ·have:=Z7H ps (j + 1) k h; lia
 ·exact h
 ·have:=Z7H ps (k + 1) j h; lia
theorem ZbZ {α:Type} {S:Nat→α→Prop} {ps:List (Pat α)} (ha:At S 0 (allLeaves ps)) {k:Nat} {p:Pat α} (hk:ps[k]? = some p):In (p.aut (off ps k)) (off ps k) (off ps k + p.leaves.length)∧∀ w,Acc S (p.aut (off ps k)) w↔p.lang w:=by
 have:=Zf6 ps 0 ha k p hk
 rw [Nat.zero_add] at this
 exact p.acc _ this
theorem Z7I {α:Type} {S:Nat→α→Prop} {ps:List (Pat α)} (ha:At S 0 (allLeaves ps)) {k:Nat} {p:Pat α} (hk:ps[k]? = some p) (a:α) (r:List α) :
  p.lang (a :: r)↔∃ y,Runs S (G ps) (fun x=>Gf ps x∧S x a) r y∧Gl ps k y:=by
 refine El.x0_2 (ZbZ ha hk) fun hin hacc=>?_
 have hr:∀ x y,(off ps k ≤ x∧x < off ps k + p.leaves.length) ∨ (off ps k ≤ y∧y < off ps k + p.leaves.length)→((G ps).R x y↔(p.aut (off ps k)).R x y):=by
  intro x y h
  constructor
  ·intro q0z
   refine El.x2_2 q0z fun j q hq h1=>?_
   have hi:=(ZbZ ha hq).1.r _ _ h1
   have:j = k:=h.elim (fun h=>apart hq hk hi.1 h) fun h=>apart hq hk hi.2 h
   subst this
   rw [hk] at hq; cases hq
   exact h1
  ·intro h1; exact ⟨k,p,hk,h1⟩
 have hp:=Z7G (S:=S) hr (fun x y h=>hin.r x y h) r (fun x=>Gf ps x∧S x a) (fun x=>(p.aut (off ps k)).F x∧S x a) (fun x hx=>by
   constructor
   ·intro q1z
    refine El.x0_2 q1z fun q2z h2=>?_
    refine El.x2_2 q2z fun j q hq h1=>?_
    have:=apart hq hk ((ZbZ ha hq).1.f _ h1) hx
    subst this
    rw [hk] at hq; cases hq
    exact ⟨h1,h2⟩
   ·rintro ⟨h1,h2⟩; exact ⟨⟨k,p,hk,h1⟩,h2⟩) (fun x h=>hin.f _ h.1)
 rw [← hacc,Zea]
 constructor
 ·intro q3z
  refine El.x1_2 q3z fun y h1 h2=>?_
  exact ⟨y,(hp y (hin.l _ h2)).mpr h1,p,hk,h2⟩
 ·intro q4z
  obtain ⟨y,h1,q,hq,h2⟩:=q4z
  rw [hk] at hq; cases hq
  exact ⟨y,(hp y (hin.l _ h2)).mp h1,h2⟩
theorem nodup_le {l:List Nat} {n:Nat} (h:l.Nodup) (hl:∀ x ∈ l,x < n):l.length ≤ n:=by
 induction n generalizing l with
 | zero=>
  cases l with
  | nil=>exact Nat.le_refl _
  | cons a l=>exact absurd (hl a (by simp)) (Nat.not_lt_zero _)
 | succ n ih=>
  have h1:=ih (l:=l.erase n) (h.erase n) fun x hx=>by
   have hm:=List.mem_of_mem_erase hx
   have:=hl x hm
   have hne:x ≠ n:=fun e=>by subst e; exact (h.not_mem_erase) hx
   lia
  have:=List.length_erase (a:=n) (l:=l)
  split at this <;> lia
noncomputable def Rel (W:List (List Nat)) (x y:Nat):Prop:=∃ ws,W[x]? = some ws∧y ∈ ws
noncomputable def Wf (W:List (List Nat)):Prop:=∀ ws ∈ W,ws.Nodup∧∀ y ∈ ws,y < 60
noncomputable def ins (l:List Nat) (y:Nat):List Nat:=if l.contains y then l else l++[y]
theorem mem_ins {l:List Nat} {x y:Nat}:x ∈ ins l y↔x ∈ l ∨ x = y:=by
 unfold ins
 split
 ·rename_i h
  exact ⟨.inl,fun q=>q.elim id fun e=>e ▸ List.contains_iff_mem.mp h⟩
 ·rw [List.mem_append,List.mem_singleton]
theorem nodup_ins {l:List Nat} {y:Nat} (h:l.Nodup):(ins l y).Nodup:=by
 unfold ins
 split
 ·exact h
 ·rename_i q
  have q:y ∉ l:=fun e=>q (List.contains_iff_mem.mpr e)
  rw [List.nodup_append]
  exact ⟨h,by simp,fun a ha b hb e=>by rw [List.mem_singleton] at hb; exact q (by rw [← hb,← e]; exact ha)⟩
noncomputable def link1 (W:List (List Nat)) (x y:Nat):List (List Nat):=W.set x (ins (W.getD x []) y)
theorem link1_len (W:List (List Nat)) (x y:Nat):(link1 W x y).length = W.length:=List.length_set
theorem rel_link1 {W:List (List Nat)} {x y:Nat} (hx:x < W.length) (a b:Nat):Rel (link1 W x y) a b↔Rel W a b ∨ (a = x∧b = y):=by
 unfold Rel link1
 have hg:W.getD x [] = W[x]:=by simp [hx]
 by_cases h:x = a
 ·subst h
  rw [List.getElem?_set_self hx,hg]
  constructor
  ·intro q0z
   refine El.x1_2 q0z fun ws e hb=>?_
   cases e
   rcases mem_ins.mp hb with hb | hb
   ·exact .inl ⟨_,List.getElem?_eq_getElem hx,hb⟩
   ·exact .inr ⟨rfl,hb⟩
  ·rintro (⟨ws,e,hb⟩ | ⟨_,hb⟩)
   ·rw [List.getElem?_eq_getElem hx] at e; cases e
    exact ⟨_,rfl,mem_ins.mpr (.inl hb)⟩
   ·exact ⟨_,rfl,mem_ins.mpr (.inr hb)⟩
 ·rw [List.getElem?_set_ne h]
  exact ⟨.inl,fun q=>q.elim id fun q=>absurd q.1.symm h⟩
theorem wf_link1 {W:List (List Nat)} {x y:Nat} (h:Wf W) (hy:y < 60):Wf (link1 W x y):=by
 intro ws hw
 rcases List.mem_or_eq_of_mem_set hw with hw | rfl
 ·exact h ws hw
 ·have h0:(W.getD x []).Nodup∧∀ y ∈ W.getD x [],y < 60:=by
   rw [List.getD_eq_getElem?_getD]
   cases e:W[x]? with
   | none=>exact ⟨List.nodup_nil,fun _ q=>by cases q⟩
   | some ws=>exact h ws (List.mem_of_getElem? e)
  exact ⟨nodup_ins h0.1,fun z hz=>(mem_ins.mp hz).elim (h0.2 z) fun e=>e ▸ hy⟩
structure Sh (A:Aut) (c:Nat) (W₀:List (List Nat)) (b:Bool) (fs ls:List Nat) (W:List (List Nat)):Prop where
 bare:b = A.bare
 f:∀ x,x ∈ fs↔A.F x
 l:∀ x,x ∈ ls↔A.L x
 r:∀ x y,Rel W x y↔Rel W₀ x y ∨ A.R x y
 fl:fs.length ≤ c
 ll:ls.length ≤ c
 len:W.length = W₀.length + c
 wf:Wf W
 fb:∀ x ∈ fs,x < W.length
 lb:∀ x ∈ ls,x < W.length
theorem Sh.nul {W:List (List Nat)} (h:Wf W):Sh Glu.nul 0 W true [] [] W:=⟨rfl,fun x=>⟨fun q=>(by cases q),fun q=>q.elim⟩,fun x=>⟨fun q=>(by cases q),fun q=>q.elim⟩,fun x y=>⟨.inl,fun q=>q.elim id fun q=>q.elim⟩,Nat.le_refl _,Nat.le_refl _,rfl,h,fun _ q=>(by cases q),fun _ q=>(by cases q)⟩
theorem Sh.non {W:List (List Nat)} (h:Wf W):Sh Glu.non 0 W false [] [] W:=⟨rfl,fun x=>⟨fun q=>(by cases q),fun q=>q.elim⟩,fun x=>⟨fun q=>(by cases q),fun q=>q.elim⟩,fun x y=>⟨.inl,fun q=>q.elim id fun q=>q.elim⟩,Nat.le_refl _,Nat.le_refl _,rfl,h,fun _ q=>(by cases q),fun _ q=>(by cases q)⟩
theorem Sh.leaf {W:List (List Nat)} (h:Wf W):Sh (Glu.leaf W.length) 1 W false [W.length] [W.length] (W++[[]]) :=
 ⟨rfl,fun x=>List.mem_singleton,fun x=>List.mem_singleton,fun x y=>⟨fun ⟨ws,e,hy⟩=>(by
  rcases Nat.lt_or_ge x W.length with q | q
  ·rw [List.getElem?_append_left q] at e; exact .inl ⟨ws,e,hy⟩
  ·rw [List.getElem?_append_right q] at e
   have:ws = []:=by
    have:=List.mem_of_getElem? e
    simpa using this
   subst this; cases hy),fun q=>q.elim (fun ⟨ws,e,hy⟩=>⟨ws,by rw [List.getElem?_append_left (List.getElem?_eq_some_iff.mp e).1]; exact e,hy⟩) fun q=>q.elim⟩,Nat.le_refl _,Nat.le_refl _,by simp,fun ws hw=>by
  rcases List.mem_append.mp hw with hw | hw
  ·exact h ws hw
  ·rw [List.mem_singleton.mp hw]; exact ⟨List.nodup_nil,fun _ q=>(by cases q)⟩,fun x hx=>by rw [List.mem_singleton.mp hx]; simp,fun x hx=>by rw [List.mem_singleton.mp hx]; simp⟩
theorem Sh.seq {A B:Aut} {c d:Nat} {W₀ W W₁ W₂:List (List Nat)} {b b':Bool} {fs ls fs' ls':List Nat} (x:Sh A c W₀ b fs ls W) (y:Sh B d W b' fs' ls' W₁)
  (hr:∀ a e,Rel W₂ a e↔Rel W₁ a e ∨ (a ∈ ls∧e ∈ fs')) (hw:Wf W₂) (hl:W₂.length = W₁.length):Sh (Glu.seq A B) (c + d) W₀ (b && b') (if b then fs++fs' else fs) (if b' then ls++ls' else ls') W₂ where
 bare:=by rw [x.bare,y.bare]; rfl
 f a:=by
  show _↔A.F a ∨ (A.bare = true∧B.F a)
  rw [← x.f,← y.f,← x.bare]
  cases b <;> simp
 l a:=by
  show _↔(B.bare = true∧A.L a) ∨ B.L a
  rw [← x.l,← y.l,← y.bare]
  cases b' <;> simp
 r a e:=by
  show _↔_ ∨ (A.R a e ∨ B.R a e ∨ (A.L a∧B.F e))
  rw [hr,y.r,x.r,← x.l,← y.f,or_assoc,or_assoc]
 fl:=by have h1:=x.fl; have h2:=y.fl; cases b <;> simp <;> lia
 ll:=by have h1:=x.ll; have h2:=y.ll; cases b' <;> simp <;> lia
 len:=by rw [hl,y.len,x.len,Nat.add_assoc]
 wf:=hw
 fb a ha:=by
  rw [hl]
  have hyl:=y.len
  cases b with
  | true=>exact (List.mem_append.mp ha).elim (fun q=>by have:=x.fb a q; lia) (y.fb a)
  | false=>have:=x.fb a ha; lia
 lb a ha:=by
  rw [hl]
  have hyl:=y.len
  cases b' with
  | true=>exact (List.mem_append.mp ha).elim (fun q=>by have:=x.lb a q; lia) (y.lb a)
  | false=>exact y.lb a ha
theorem Sh.alt {A B:Aut} {c d:Nat} {W₀ W W₁:List (List Nat)} {b b':Bool} {fs ls fs' ls':List Nat} (x:Sh A c W₀ b fs ls W) (y:Sh B d W b' fs' ls' W₁):Sh (Glu.alt A B) (c + d) W₀ (b || b') (fs++fs') (ls++ls') W₁ where
 bare:=by rw [x.bare,y.bare]; rfl
 f a:=by
  show _↔A.F a ∨ B.F a
  rw [← x.f,← y.f,List.mem_append]
 l a:=by
  show _↔A.L a ∨ B.L a
  rw [← x.l,← y.l,List.mem_append]
 r a e:=by
  show _↔_ ∨ (A.R a e ∨ B.R a e)
  rw [y.r,x.r,or_assoc]
 fl:=by have h1:=x.fl; have h2:=y.fl; rw [List.length_append]; lia
 ll:=by have h1:=x.ll; have h2:=y.ll; rw [List.length_append]; lia
 len:=by rw [y.len,x.len,Nat.add_assoc]
 wf:=y.wf
 fb a ha:=(List.mem_append.mp ha).elim (fun q=>by have:=x.fb a q; have:=y.len; lia) (y.fb a)
 lb a ha:=(List.mem_append.mp ha).elim (fun q=>by have:=x.lb a q; have:=y.len; lia) (y.lb a)
theorem Sh.opt {A:Aut} {c:Nat} {W₀ W:List (List Nat)} {b:Bool} {fs ls:List Nat} (x:Sh A c W₀ b fs ls W):Sh (Glu.opt A) c W₀ true fs ls W:=⟨rfl,x.f,x.l,x.r,x.fl,x.ll,x.len,x.wf,x.fb,x.lb⟩
theorem Sh.star {A:Aut} {c:Nat} {W₀ W W₂:List (List Nat)} {b:Bool} {fs ls:List Nat} (x:Sh A c W₀ b fs ls W) (hr:∀ a e,Rel W₂ a e↔Rel W a e ∨ (a ∈ ls∧e ∈ fs)) (hw:Wf W₂) (hl:W₂.length = W.length):Sh (Glu.star A) c W₀ true fs ls W₂ :=
 ⟨rfl,x.f,x.l,fun a e=>by
  show _↔_ ∨ (A.R a e ∨ (A.L a∧A.F e))
  rw [hr,x.r,← x.l,← x.f,or_assoc],x.fl,x.ll,by rw [hl,x.len],hw,fun a h=>by rw [hl]; exact x.fb a h,fun a h=>by rw [hl]; exact x.lb a h⟩
noncomputable def takeK (hit:Nat→Bool) (xs found:List Nat):List Nat:=xs.foldl (fun f x=>if hit x then ins f x else f) found
theorem mem_takeK {hit:Nat→Bool} {y:Nat}:∀ {xs found:List Nat},y ∈ takeK hit xs found↔y ∈ found ∨ (y ∈ xs∧hit y = true)
 | [],found=>by simp [takeK]
 | x :: xs,found=>by
  have ih:=mem_takeK (hit:=hit) (y:=y) (xs:=xs) (found:=if hit x then ins found x else found)
  unfold takeK at ih ⊢
  rw [List.foldl_cons,ih]
  cases h:hit x with
  | true=>
   simp only [if_true,mem_ins,List.mem_cons]
   constructor
   ·rintro ((h1 | h1) | h1)
    ·exact .inl h1
    ·exact .inr ⟨.inl h1,h1 ▸ h⟩
    ·exact .inr ⟨.inr h1.1,h1.2⟩
   ·rintro (h1 | ⟨h1 | h1,h2⟩)
    ·exact .inl (.inl h1)
    ·exact .inl (.inr h1)
    ·exact .inr ⟨h1,h2⟩
  | false=>
   simp only [Bool.false_eq_true,if_false,List.mem_cons]
   constructor
   ·rintro (h1 | h1)
    ·exact .inl h1
    ·exact .inr ⟨.inr h1.1,h1.2⟩
   ·rintro (h1 | ⟨h1 | h1,h2⟩)
    ·exact .inl h1
    ·rw [h1,h] at h2; cases h2
    ·exact .inr ⟨h1,h2⟩
theorem nodup_takeK {hit:Nat→Bool}:∀ {xs found:List Nat},found.Nodup→(takeK hit xs found).Nodup
 | [],found,h=>h
 | x :: xs,found,h=>by
  unfold takeK
  rw [List.foldl_cons]
  refine nodup_takeK (xs:=xs) ?_
  split
  ·exact nodup_ins h
  ·exact h
noncomputable def Sg {α:Type} (ls:List (List α)) (n x:Nat) (a:α):Prop:=n ≤ x∧∃ s,ls[x - n]? = some s∧a ∈ s
theorem Z6w {α:Type} (ls:List (List α)) (n:Nat):At (Sg ls n) n ls:=fun i s h a=>by
 unfold Sg
 rw [show n + i - n = i by lia,h]
 exact ⟨fun ⟨_,s',e,q⟩=>by cases e; exact q,fun q=>⟨by lia,s,rfl,q⟩⟩
theorem Z9N {α:Type} (p:Pat α) (n:Nat):In (p.aut n) n (n + p.leaves.length):=(p.acc n (Z6w p.leaves n)).1
theorem Z4E {α:Type}:∀ ps:List (Pat α),off ps ps.length = (allLeaves ps).length
 | []=>rfl
 | p :: ps=>by
  have:=Z4E ps
  unfold allLeaves at this ⊢
  rw [List.flatMap_cons,List.length_append,List.length_cons,off,this]
theorem Z6x {α:Type} (p:Pat α):∀ (d:List (Pat α)) (k:Nat),k ≤ d.length→off (d++[p]) k = off d k
 | [],k,h=>by rw [Nat.le_zero.mp h]; simp [off]
 | q :: d,0,_=>by simp [off]
 | q :: d,k + 1,h=>by
  rw [List.cons_append,off,off,Z6x p d k (by simpa using h)]
theorem snoc_get {α:Type} {d:List α} {p:α} {k:Nat} {q:α}:(d++[p])[k]? = some q↔(d[k]? = some q∧k < d.length) ∨ (k = d.length∧q = p):=by
 rcases Nat.lt_trichotomy k d.length with h | h | h
 ·rw [List.getElem?_append_left h]
  exact ⟨fun e=>.inl ⟨e,h⟩,fun e=>e.elim (·.1) fun e=>by lia⟩
 ·subst h
  rw [List.getElem?_append_right (Nat.le_refl _),Nat.sub_self]
  exact ⟨fun e=>.inr ⟨rfl,(Option.some.inj e).symm⟩,fun e=>e.elim (fun e=>absurd e.2 (Nat.lt_irrefl _)) fun e=>by rw [e.2]; rfl⟩
 ·rw [List.getElem?_eq_none (by rw [List.length_append,List.length_singleton]; lia)]
  exact ⟨fun e=>(by cases e),fun e=>e.elim (fun e=>by lia) fun e=>by lia⟩
theorem Z9O {α:Type} (d:List (Pat α)) (p:Pat α):off (d++[p]) d.length = (allLeaves d).length:=by rw [Z6x p d _ (Nat.le_refl _),Z4E]
theorem Z8J {α:Type} {d:List (Pat α)} {p:Pat α} {X:Nat→Pat α→Nat→Prop}:(∃ (k:Nat) (q:Pat α),(d++[p])[k]? = some q∧X k q (off (d++[p]) k))↔(∃ (k:Nat) (q:Pat α),d[k]? = some q∧X k q (off d k)) ∨ X d.length p (allLeaves d).length:=by
 constructor
 ·intro q0z
  refine El.x2_2 q0z fun k q h hx=>?_
  rcases snoc_get.mp h with ⟨h1,h2⟩ | ⟨rfl,rfl⟩
  ·rw [Z6x p d k (Nat.le_of_lt h2)] at hx; exact .inl ⟨k,q,h1,hx⟩
  ·rw [Z9O] at hx; exact .inr hx
 ·rintro (⟨k,q,h,hx⟩ | hx)
  ·have hk:=(List.getElem?_eq_some_iff.mp h).1
   exact ⟨k,q,snoc_get.mpr (.inl ⟨h,hk⟩),by rw [Z6x p d k (Nat.le_of_lt hk)]; exact hx⟩
  ·exact ⟨d.length,p,snoc_get.mpr (.inr ⟨rfl,rfl⟩),by rw [Z9O]; exact hx⟩
theorem Zgi {α:Type} {d:List (Pat α)} {p:Pat α} {x:Nat}:Gf (d++[p]) x↔Gf d x ∨ (p.aut (allLeaves d).length).F x:=Z8J (X:=fun _ q n=>(q.aut n).F x)
theorem Zgj {α:Type} {d:List (Pat α)} {p:Pat α} {x y:Nat}:Gr (d++[p]) x y↔Gr d x y ∨ (p.aut (allLeaves d).length).R x y:=Z8J (X:=fun _ q n=>(q.aut n).R x y)
theorem Zf7 {α:Type} {d:List (Pat α)} {k x:Nat}:Gl d k x↔∃ (j:Nat) (q:Pat α),d[j]? = some q∧j = k∧(q.aut (off d j)).L x :=
 ⟨fun ⟨q,h1,h2⟩=>⟨k,q,h1,rfl,h2⟩,fun ⟨j,q,h1,h2,h3⟩=>by subst h2; exact ⟨q,h1,h3⟩⟩
theorem Zgk {α:Type} {d:List (Pat α)} {p:Pat α} {k x:Nat}:Gl (d++[p]) k x↔Gl d k x ∨ (d.length = k∧(p.aut (allLeaves d).length).L x):=by
 rw [Zf7,Zf7]
 exact Z8J (X:=fun j q n=>j = k∧(q.aut n).L x)
theorem ZhV {α:Type} {d:List (Pat α)} {k x:Nat} (h:Gl d k x):x < (allLeaves d).length:=by
 refine El.x1_2 h fun q h1 h2=>?_
 have h3:=(Z9N q (off d k)).l _ h2
 have h4:=Z1u d k q h1
 have h5:=Z7H d (k + 1) d.length (List.getElem?_eq_some_iff.mp h1).1
 rw [Z4E] at h5
 lia
theorem all_snoc {α:Type} (d:List (Pat α)) (p:Pat α):allLeaves (d++[p]) = allLeaves d++p.leaves:=by unfold allLeaves; simp
noncomputable def stN (E:List (Nat × Nat)) (x k:Nat):List (Nat × Nat):=if E.any (fun p=>p.1 = x) then E.map (fun p=>if p.1 = x then (p.1,k) else p) else E++[(x,k)]
noncomputable def getE (E:List (Nat × Nat)) (x:Nat):Option Nat:=(E.find? fun p=>p.1 = x).map (·.2)
theorem stN_len (E:List (Nat × Nat)) (x k:Nat):(stN E x k).length ≤ E.length + 1:=by
 unfold stN; split
 ·rw [List.length_map]; lia
 ·simp
theorem Zeb (E:List (Nat × Nat)) (x k y:Nat):(E.map fun p=>if p.1 = x then (p.1,k) else p).find? (fun p=>p.1 = y) = (E.find? fun p=>p.1 = y).map fun p=>if p.1 = x then (p.1,k) else p:=by
 rw [List.find?_map]
 congr 1
 congr 1
 funext p
 simp only [Function.comp]
 split <;> rfl
theorem Zgl (E:List (Nat × Nat)) (x k y:Nat):getE (stN E x k) y = if y = x then some k else getE E y:=by
 unfold stN getE
 by_cases h:E.any (fun p=>p.1 = x) = true
 ·rw [if_pos h,Zeb]
  by_cases hy:y = x
  ·subst hy
   rw [if_pos rfl]
   refine El.x1_2 (List.any_eq_true.mp h) fun p hp e=>?_
   cases hf:E.find? fun p=>p.1 = y with
   | none=>exact absurd e (by simpa using List.find?_eq_none.mp hf p hp)
   | some q=>
    have hq:q.1 = y:=by simpa using List.find?_some hf
    simp [hq]
  ·rw [if_neg hy]
   cases hf:E.find? fun p=>p.1 = y with
   | none=>rfl
   | some q=>
    have hq:q.1 = y:=by simpa using List.find?_some hf
    simp [hq,hy]
 ·rw [if_neg h,List.find?_append]
  have hn:E.find? (fun p=>p.1 = x) = none:=by
   rw [List.find?_eq_none]
   intro p hp e
   exact h (List.any_eq_true.mpr ⟨p,hp,e⟩)
  by_cases hy:y = x
  ·subst hy; rw [if_pos rfl,hn]; simp
  ·rw [if_neg hy]
   have:([(x,k)]:List (Nat × Nat)).find? (fun p=>p.1 = y) = none:=by simp [Ne.symm hy]
   rw [this,Option.or_none]
theorem Z8K (k:Nat):∀ (ls:List Nat) (E:List (Nat × Nat)),(ls.foldl (fun E x=>stN E x k) E).length ≤ E.length + ls.length∧∀ y,getE (ls.foldl (fun E x=>stN E x k) E) y = if y ∈ ls then some k else getE E y
 | [],E=>⟨Nat.le_refl _,fun y=>by simp⟩
 | x :: ls,E=>by
  refine El.x0_2 (Z8K k ls (stN E x k)) fun h1 h2=>?_
  rw [List.foldl_cons]
  refine ⟨by have:=stN_len E x k; rw [List.length_cons]; lia,fun y=>?_⟩
  rw [h2,Zgl]
  by_cases a:y ∈ ls <;> by_cases b:y = x <;> simp [a,b]
noncomputable def Told {α:Type} (ps:List (Pat α)) (t:List α):Option Nat→Prop
 | none=>∀ (k:Nat) (p:Pat α),ps[k]? = some p→¬ p.lang t
 | some k=>(∃ p,ps[k]? = some p∧p.lang t)∧∀ j,j < k→∀ q,ps[j]? = some q→¬ q.lang t
theorem Told.unique {α:Type} {ps:List (Pat α)} {t:List α}:∀ {a b:Option Nat},Told ps t a→Told ps t b→a = b
 | none,none,_,_=>rfl
 | none,some k,h,⟨⟨p,hp,hl⟩,_⟩=>absurd hl (h k p hp)
 | some k,none,⟨⟨p,hp,hl⟩,_⟩,h=>absurd hl (h k p hp)
 | some k,some j,⟨⟨p,hp,hl⟩,h1⟩,⟨⟨q,hq,hm⟩,h2⟩=>by
  rcases Nat.lt_trichotomy k j with h | h | h
  ·exact absurd hl (h2 k h p hp)
  ·rw [h]
  ·exact absurd hm (h1 j h q hq)
structure Lvd (d:List (Pat Nat)) (W:List (List Nat)) (fi:List Nat) (em:Option Nat) (E:List (Nat × Nat)):Prop where
 len:W.length = (allLeaves d).length
 wf:Wf W
 f:∀ x,x ∈ fi↔Gf d x
 r:∀ x y,Rel W x y↔Gr d x y
 e:∀ x k,getE E x = some k↔Gl d k x
 em:Told d [] em
 fl:fi.length ≤ (allLeaves d).length
 el:E.length ≤ (allLeaves d).length
theorem Lvd.nil:Lvd [] [] [] none [] :=
 ⟨rfl,fun _ h=>(by cases h),fun x=>⟨fun h=>(by cases h),fun ⟨_,_,h,_⟩=>(by simp at h)⟩,fun x y=>⟨fun ⟨_,h,_⟩=>(by simp at h),fun ⟨_,_,h,_⟩=>(by simp at h)⟩,fun x k=>⟨fun h=>(by simp [getE] at h),fun ⟨_,h,_⟩=>(by simp at h)⟩,fun k p h=>(by simp at h),Nat.le_refl _,Nat.le_refl _⟩
theorem Lvd.step {d:List (Pat Nat)} {W W':List (List Nat)} {fi fs ls:List Nat} {em:Option Nat} {E:List (Nat × Nat)} {p:Pat Nat} {b:Bool} (x:Lvd d W fi em E) (s:Sh (p.aut W.length) p.leaves.length W b fs ls W') :
  Lvd (d++[p]) W' (fi++fs) (if b && em.isNone then some d.length else em) (ls.foldl (fun E x=>stN E x d.length) E) where
 len:=by rw [s.len,x.len,all_snoc,List.length_append]
 wf:=s.wf
 f a:=by rw [List.mem_append,x.f,s.f,Zgi,x.len]
 r a c:=by rw [s.r,x.r,Zgj,x.len]
 e a k:=by
  rw [(Z8K d.length ls E).2,Zgk,← x.e,← x.len]
  have hin:=Z9N p W.length
  by_cases h:a ∈ ls
  ·rw [if_pos h]
   have hl:=(s.l a).mp h
   have hn:getE E a = none:=by
    cases hg:getE E a with
    | none=>rfl
    | some j=>
     have h1:=ZhV ((x.e a j).mp hg)
     have h2:=hin.l _ hl
     rw [x.len] at h2
     lia
   rw [hn]
   exact ⟨fun e=>.inr ⟨Option.some.inj e,hl⟩,fun e=>e.elim (fun e=>(by cases e)) fun e=>by rw [e.1]⟩
  ·rw [if_neg h]
   exact ⟨.inl,fun e=>e.elim id fun e=>absurd ((s.l a).mpr e.2) h⟩
 em:=by
  have hb:p.lang []↔b = true:=by
   have:=(p.acc W.length (Z6w p.leaves W.length)).2 []
   rw [← this,s.bare]; rfl
  have hx:=x.em
  cases em with
  | some k=>
   rw [Option.isNone_some,Bool.and_false]
   refine El.x0_2 hx fun q1z h3=>?_
   refine El.x1_2 q1z fun q h1 h2=>?_
   have hk:=(List.getElem?_eq_some_iff.mp h1).1
   refine ⟨⟨q,snoc_get.mpr (.inl ⟨h1,hk⟩),h2⟩,fun j hj q' hq'=>?_⟩
   rcases snoc_get.mp hq' with ⟨g1,_⟩ | ⟨g1,_⟩
   ·exact h3 j hj q' g1
   ·lia
  | none=>
   rw [Option.isNone_none,Bool.and_true]
   cases b with
   | true=>
    refine ⟨⟨p,snoc_get.mpr (.inr ⟨rfl,rfl⟩),hb.mpr rfl⟩,fun j hj q' hq'=>?_⟩
    rcases snoc_get.mp hq' with ⟨g1,_⟩ | ⟨g1,_⟩
    ·exact hx j q' g1
    ·lia
   | false=>
    intro j q' hq' hl
    rcases snoc_get.mp hq' with ⟨g1,_⟩ | ⟨_,g2⟩
    ·exact hx j q' g1 hl
    ·subst g2; exact absurd (hb.mp hl) (by simp)
 fl:=by have h1:=x.fl; have h2:=s.fl; rw [List.length_append,all_snoc,List.length_append]; lia
 el:=by have h1:=x.el; have h2:=(Z8K d.length ls E).1; have h3:=s.ll; rw [all_snoc,List.length_append]; lia
theorem gf_lt {α:Type} {d:List (Pat α)} {x:Nat} (h:Gf d x):x < (allLeaves d).length:=by
 refine El.x2_2 h fun k q h1 h2=>?_
 have h3:=(Z9N q (off d k)).f _ h2
 have h4:=Z1u d k q h1
 have h5:=Z7H d (k + 1) d.length (List.getElem?_eq_some_iff.mp h1).1
 rw [Z4E] at h5
 lia
theorem gr_lt {α:Type} {d:List (Pat α)} {x y:Nat} (h:Gr d x y):x < (allLeaves d).length∧y < (allLeaves d).length:=by
 refine El.x2_2 h fun k q h1 h2=>?_
 have h3:=(Z9N q (off d k)).r _ _ h2
 have h4:=Z1u d k q h1
 have h5:=Z7H d (k + 1) d.length (List.getElem?_eq_some_iff.mp h1).1
 rw [Z4E] at h5
 lia
noncomputable def minO:List Nat→Option Nat
 | []=>none
 | k :: l=>some (l.foldl min k)
theorem Z2w:∀ (l:List Nat) (k:Nat),l.foldl min k ∈ k :: l∧∀ a ∈ k :: l,l.foldl min k ≤ a
 | [],k=>⟨by simp,fun a h=>by rw [List.mem_singleton.mp h]; exact Nat.le_refl _⟩
 | j :: l,k=>by
  refine El.x0_2 (Z2w l (min k j)) fun h1 h2=>?_
  rw [List.foldl_cons]
  refine ⟨?_,fun a ha=>?_⟩
  ·rcases List.mem_cons.mp h1 with h | h
   ·rw [h]
    rcases Nat.le_total k j with q | q
    ·rw [Nat.min_eq_left q]; simp
    ·rw [Nat.min_eq_right q]; simp
   ·simp [h]
  ·have h3:=h2 (min k j) (by simp)
   rcases List.mem_cons.mp ha with rfl | ha
   ·lia
   ·rcases List.mem_cons.mp ha with rfl | ha
    ·lia
    ·exact h2 a (by simp [ha])
theorem Zec {α:Type} {ps:List (Pat α)} {t:List α} {l:List Nat} (h:∀ k,k ∈ l↔∃ p,ps[k]? = some p∧p.lang t):Told ps t (minO l):=by
 cases l with
 | nil=>exact fun k p hp hl=>by have:=(h k).mpr ⟨p,hp,hl⟩; cases this
 | cons k l=>
  refine El.x0_2 (Z2w l k) fun h1 h2=>?_
  refine ⟨(h _).mp h1,fun j hj q hq hl=>?_⟩
  have:=h2 j ((h j).mpr ⟨q,hq,hl⟩)
  lia
theorem Z7J {ps:List (Pat Nat)} {W:List (List Nat)} {fi:List Nat} {em:Option Nat} {E:List (Nat × Nat)} (L:Lvd ps W fi em E) {a:Nat} {r:List Nat} {X₀ X:List Nat} (h0:∀ y,y ∈ X₀↔y ∈ fi∧Sg (allLeaves ps) 0 y a)
  (h:∀ y,y ∈ X↔Runs (Sg (allLeaves ps) 0) (G ps) (fun x=>x ∈ X₀) r y):Told ps (a :: r) (minO (X.filterMap (getE E))):=by
 refine Zec fun k=>?_
 have hx:∀ y,y ∈ X↔Runs (Sg (allLeaves ps) 0) (G ps) (fun x=>Gf ps x∧Sg (allLeaves ps) 0 x a) r y:=fun y=>(h y).trans (Z5D (fun x=>by rw [h0,L.f]) (fun _ _=>Iff.rfl) r y)
 rw [List.mem_filterMap]
 constructor
 ·intro q0z
  refine El.x1_2 q0z fun y hy hk=>?_
  have hg:=(L.e y k).mp hk
  refine El.x1_2 hg fun p hp hl=>?_
  exact ⟨p,hp,(Z7I (Z6w (allLeaves ps) 0) hp a r).mpr ⟨y,(hx y).mp hy,p,hp,hl⟩⟩
 ·intro q1z
  refine El.x1_2 q1z fun p hp hl=>?_
  refine El.x1_2 ((Z7I (Z6w (allLeaves ps) 0) hp a r).mp hl) fun y h1 h2=>?_
  exact ⟨y,(hx y).mpr h1,(L.e y k).mpr h2⟩
theorem Zc0 {ps:List (Pat Nat)} {W:List (List Nat)} {fi:List Nat} {em:Option Nat} {E:List (Nat × Nat)} (L:Lvd ps W fi em E) {a:Nat} {r:List Nat} {X₀:List Nat} (h0:∀ y,y ∈ X₀↔y ∈ fi∧Sg (allLeaves ps) 0 y a)
  (h:∀ y,¬ Runs (Sg (allLeaves ps) 0) (G ps) (fun x=>x ∈ X₀) r y):Told ps (a :: r) none:=by
 have:=Z7J L (X:=[]) h0 fun y=>⟨fun q=>(by cases q),fun q=>absurd q (h y)⟩
 exact this
theorem Z6y {S:Nat→Nat→Prop} {A:Aut}:∀ (r v:List Nat) (X:Nat→Prop) (y:Nat),Runs S A X (r++v) y↔Runs S A (fun x=>Runs S A X r x) v y
 | [],_,_,_=>Iff.rfl
 | a :: r,v,X,y=>Z6y r v _ y
noncomputable def Stt (ps:List (Pat Nat)) (fi:List Nat) (u:List Nat):Option (List Nat)→Prop
 | none=>u = []
 | some l=>∃ (a:Nat) (r X₀:List Nat),u = a :: r∧(∀ y,y ∈ X₀↔y ∈ fi∧Sg (allLeaves ps) 0 y a)∧∀ y,y ∈ l↔Runs (Sg (allLeaves ps) 0) (G ps) (fun x=>x ∈ X₀) r y
noncomputable def Nxt (ps:List (Pat Nat)) (fi:List Nat) (c:Nat) (l:List Nat):Option (List Nat)→Prop
 | none=>∀ y,y ∈ l↔y ∈ fi∧Sg (allLeaves ps) 0 y c
 | some xs=>∀ y,y ∈ l↔∃ x,x ∈ xs∧(G ps).R x y∧Sg (allLeaves ps) 0 y c
section
variable {ps:List (Pat Nat)} {W:List (List Nat)} {fi:List Nat} {em:Option Nat} {E:List (Nat × Nat)}
theorem stt_next {u l:List Nat} {c:Nat}:∀ {so:Option (List Nat)},Stt ps fi u so→Nxt ps fi c l so→Stt ps fi (u++[c]) (some l)
 | none,h,hl=>⟨c,[],l,by rw [show u = [] from h]; rfl,hl,fun y=>Iff.rfl⟩
 | some xs,⟨a,r,X₀,e,h0,h⟩,hl=>⟨a,r++[c],X₀,by rw [e]; rfl,h0,fun y=>(hl y).trans (by
   rw [Z6y]
   exact ⟨fun ⟨x,q1,q2⟩=>⟨x,(h x).mp q1,q2⟩,fun ⟨x,q1,q2⟩=>⟨x,(h x).mpr q1,q2⟩⟩)⟩
theorem stt_told (L:Lvd ps W fi em E) {u l:List Nat}:Stt ps fi u (some l)→Told ps u (minO (l.filterMap (getE E)))
 | ⟨a,r,X₀,e,h0,h⟩=>by rw [e]; exact Z7J L h0 h
theorem stt_lost (L:Lvd ps W fi em E) {u:List Nat} (v:List Nat):Stt ps fi u (some [])→Told ps (u++v) none
 | ⟨a,r,X₀,e,h0,h⟩=>by
  rw [e]
  refine Zc0 L h0 fun y q=>?_
  exact Z5C (fun x w=>by have:=(h x).mpr w; cases this) v y ((Z6y r v _ y).mp q)
noncomputable def Best (ps:List (Pat Nat)) (t:List Nat) (b p:Nat):Option (Nat × Nat)→Prop
 | none=>∀ j,b < j→j ≤ p→Told ps (cutAt t b j) none
 | some (k,e)=>(b < e∧e ≤ p)∧Told ps (cutAt t b e) (some k)∧∀ j,e < j→j ≤ p→Told ps (cutAt t b j) none
theorem Best.unique {t:List Nat} {b p:Nat}:∀ {x y:Option (Nat × Nat)},Best ps t b p x→Best ps t b p y→x = y
 | none,none,_,_=>rfl
 | none,some (k,e),h,⟨h1,h2,_⟩=>by cases (h e h1.1 h1.2).unique h2
 | some (k,e),none,⟨h1,h2,_⟩,h=>by cases (h e h1.1 h1.2).unique h2
 | some (k,e),some (k',e'),⟨h1,h2,h3⟩,⟨g1,g2,g3⟩=>by
  have he:e = e':=by
   rcases Nat.lt_trichotomy e e' with w | w | w
   ·cases (h3 e' w g1.2).unique g2
   ·exact w
   ·cases (g3 e w h1.2).unique h2
  subst he
  cases h2.unique g2
  rfl
theorem Best.start (t:List Nat) (b:Nat):Best ps t b b none:=fun j h1 h2=>absurd h2 (by lia)
noncomputable def upB (o:Option Nat) (p:Nat) (x:Option (Nat × Nat)):Option (Nat × Nat):=match o with
 | some k=>some (k,p + 1)
 | none=>x
theorem Best.grow1 {t:List Nat} {b p:Nat} {o:Option Nat} (hb:b ≤ p) (ht:Told ps (cutAt t b (p + 1)) o):∀ {x:Option (Nat × Nat)},Best ps t b p x→Best ps t b (p + 1) (upB o p x):=by
 intro x h
 cases o with
 | some k=>exact ⟨⟨by lia,Nat.le_refl _⟩,ht,fun j h1 h2=>absurd h2 (by lia)⟩
 | none=>
  have key:∀ j,j ≤ p + 1→(j ≤ p→Told ps (cutAt t b j) none)→Told ps (cutAt t b j) none:=fun j hj h=>by
   rcases Nat.lt_or_ge p j with w | w
   ·have:j = p + 1:=by lia
    rw [this]; exact ht
   ·exact h w
  cases x with
  | none=>exact fun j h1 h2=>key j h2 (h j h1)
  | some q=>exact ⟨⟨h.1.1,by have:=h.1.2; lia⟩,h.2.1,fun j h1 h2=>key j h2 (h.2.2 j h1)⟩
theorem Best.lost {t:List Nat} {b p n:Nat} (hp:p ≤ n) (hl:∀ j,p < j→j ≤ n→Told ps (cutAt t b j) none):∀ {x:Option (Nat × Nat)},Best ps t b p x→Best ps t b n x:=by
 intro x h
 have key:∀ j,j ≤ n→(j ≤ p→Told ps (cutAt t b j) none)→Told ps (cutAt t b j) none:=fun j hj h=>by
  rcases Nat.lt_or_ge p j with w | w
  ·exact hl j w hj
  ·exact h w
 cases x with
 | none=>exact fun j h1 h2=>key j h2 (h j h1)
 | some q=>exact ⟨⟨h.1.1,Nat.le_trans h.1.2 hp⟩,h.2.1,fun j h1 h2=>key j h2 (h.2.2 j h1)⟩
end
end Glu
namespace Mine
open PySem
noncomputable def intT (x y:V) (k:Int→Int→Prop):Prop:=match x with
 | .int a=>(match y with | .int b=>k a b | _=>True)
 | _=>True
noncomputable def Z1l {α:Type} (o:Option α) (k:α→Prop):Prop:=∀ ⦃v:α⦄,o = some v→k v
noncomputable def okT {α:Type} (m:R α) (k:α→St→Prop):Prop:=∀ ⦃v:α⦄ ⦃ρ:List (Option V)⦄ ⦃σ:List O⦄,m = .ok v ⟨ρ,σ⟩→k v ⟨ρ,σ⟩
noncomputable def nzT (b:Int) (P:Prop):Prop:=(b == 0) = false→P
noncomputable def binT (op:Op) (x y:V) (k:V→Prop):Prop:=match op with
 | .add=>(match x with
  | .int a=>(match y with | .int b=>k (.int (a + b)) | _=>True)
  | _=>Z1l (Z3p x y) k)
 | .sub=>intT x y fun a b=>k (.int (a - b))
 | .mul=>Z1l (Z2n x y) k
 | .fdiv=>intT x y fun a b=>nzT b (k (.int (Int.fdiv a b)))
 | .mod=>intT x y fun a b=>nzT b (k (.int (Int.fmod a b)))
noncomputable def cmpT (σ:List O) (op:Cm) (x y:V) (k:Bool→Prop):Prop:=match op with
 | .lt=>intT x y fun a b=>k (decide (a < b))
 | .le=>intT x y fun a b=>k (decide (a ≤ b))
 | .gt=>intT x y fun a b=>k (decide (a > b))
 | .ge=>intT x y fun a b=>k (decide (a ≥ b))
 | .eq=>(match x with
  | .int a=>(match y with | .int b=>k (a == b) | _=>True)
  | .str a=>(match y with | .str b=>k (a == b) | _=>True)
  | _=>Z1l (Z10 σ .eq x y) k)
 | .ne=>(match x with
  | .int a=>(match y with | .int b=>k (!(a == b)) | _=>True)
  | .str a=>(match y with | .str b=>k (!(a == b)) | _=>True)
  | _=>Z1l (Z10 σ .ne x y) k)
 | .is=>(match y with | .none=>k x.isNone | _=>True)
 | .isnot=>(match y with | .none=>k (!x.isNone) | _=>True)
 | .isin=>Z1l (inD σ x y) k
 | .notin=>Z1l (inD σ x y) fun b=>k (!b)
noncomputable def truT (σ:List O) (x:V) (k:Bool→Prop):Prop:=match x with
 | .bool b=>k b
 | .int i=>k (i != 0)
 | .none=>k false
 | .str s=>k (!s.isEmpty)
 | .tup xs=>k (!xs.isEmpty)
 | .lst xs=>k (!xs.isEmpty)
 | x=>Z1l (x.truthy σ) k
noncomputable def brT (t:Bool) (A B:Prop):Prop:=∀ ⦃b:Bool⦄,t = b→cond b A B
noncomputable def isT {α:Type} (x:α) (k:α→Prop):Prop:=∀ ⦃y:α⦄,x = y→k y
noncomputable def newT (σ:List O) (o:O) (k:Nat→List O→Prop):Prop:=∀ ⦃n:Nat⦄ ⦃σ':List O⦄,σ.length = n→σ++[o] = σ'→k n σ'
noncomputable def V.wb:V→Bool→V
 | .bool _,b=>.bool b
 | x,_=>x
noncomputable def locT (o:Option (Option V)) (k:V→Prop):Prop:=match o with
 | some (some v)=>k v
 | _=>True
noncomputable def fzT (i:Nat) (st:St) (k:V→St→Prop):Prop:=locT st.ρ[i]? fun v=>match v with
 | .ref n=>∀ ⦃xs:List V⦄ ⦃σ:List O⦄,st.σ[n]? = some (.lst xs)→st.σ.set n .dead = σ→k (.lst xs) ⟨st.ρ.set i (some (.lst xs)),σ⟩
 | .lst xs=>k (.lst xs) st
 | _=>True
noncomputable def nlen:Nat→Exs→Bool
 | _,.nil=>true
 | 0,.cons _ _=>false
 | n + 1,.cons _ es=>nlen n es
noncomputable def shT (b:Bool) (P:Prop):Prop:=match b with
 | true=>P
 | false=>True
mutual
noncomputable def tlE (F:Fn):Ex→St→(V→St→Prop)→Prop
 | .none,st,k=>k .none st
 | .bool b,st,k=>k (.bool b) st
 | .int i,st,k=>k (.int i) st
 | .str s,st,k=>k (.str s.cps.toList) st
 | .loc i,st,k=>locT st.ρ[i]? fun v=>k v st
 | .fz i,st,k=>fzT i st k
 | .bin op a b,st,k=>tlE F a st fun x st=>tlE F b st fun y st=>binT op x y fun v=>k v st
 | .cmp op a b,st,k=>tlE F a st fun x st=>tlE F b st fun y st=>cmpT st.σ op x y fun v=>k (.bool v) st
 | .band a b,st,k=>tlE F a st fun x st=>truT st.σ x fun t=>brT t (tlE F b st k) (k (x.wb false) st)
 | .bor a b,st,k=>tlE F a st fun x st=>truT st.σ x fun t=>brT t (k (x.wb true) st) (tlE F b st k)
 | .not a,st,k=>tlE F a st fun x st=>truT st.σ x fun t=>k (.bool (!t)) st
 | .neg i,st,k=>k (.int (-i)) st
 | .ite c a b,st,k=>tlE F c st fun x st=>truT st.σ x fun t=>brT t (tlE F a st k) (tlE F b st k)
 | .tup es,st,k=>shT (nlen 100 es) (tlEs F es st fun xs st=>k (.tup xs) st)
 | .list es,st,k=>shT (nlen 100 es) (tlEs F es st fun xs st=>k (.lst xs) st)
 | .listM es,st,k=>shT (nlen 100 es) (tlEs F es st fun xs st=>newT st.σ (.lst xs) fun n σ=>k (.ref n) ⟨st.ρ,σ⟩)
 | .sub a i,st,k=>tlE F a st fun x st=>tlE F i st fun y st=>Z1l (Z0H st.σ x y) fun v=>k v st
 | .slice a lo hi,st,k=>tlE F a st fun x st=>tlO F lo st fun l st=>tlO F hi st fun h st=>Z1l (Z0E st.σ x l h) fun v=>k v st
 | .isin a t,st,k=>tlE F a st fun x st=>Z1l (Zd5 st.σ t x) fun v=>k (.bool v) st
 | .bi f a,st,k=>tlE F a st fun x st=>Z1l (Z1n st.σ f x) fun v=>k v st
 | .me m a b,st,k=>tlE F a st fun x st=>Z3q st.σ m x = true→tlE F b st fun y st=>okT (Z1H m x y st) k
 | .call f es,st,k=>tlEs F es st fun xs st=>okT (F f xs st.σ) fun v s=>k v ⟨st.ρ,s.σ⟩
 | .glob _ i,st,k=>k (.int i) st
 | .dictM,st,k=>newT st.σ (.idict []) fun n σ=>k (.ref n) ⟨st.ρ,σ⟩
 | .attr a j,st,k=>tlE F a st fun x st=>Z1l (Z1G (clsF F) st.σ x j) fun v=>k v st
 | .newI,st,k=>okT (F Z0k [] st.σ) fun v s=>k v ⟨st.ρ,s.σ⟩
 | .dictK,st,k=>okT (F Z0z [] st.σ) fun v s=>k v ⟨st.ρ,s.σ⟩
 | .lenSet a,st,k=>tlE F a st fun x st=>Z1l (Z0Q x) fun v=>k v st
 | .minD a,st,k=>tlE F a st fun x st=>Z1l (Z47 x) fun v=>k v st
 | .min2 a b,st,k=>tlE F a st fun x st=>tlE F b st fun y st=>intT x y fun a b=>k (.int (if b < a then b else a)) st
 | .pop a,st,k=>tlE F a st fun x st=>okT (popR x st) k
 | .comp elt j it ifs,st,k=>okT (evE F (.comp elt j it ifs) st) k
noncomputable def tlEs (F:Fn):Exs→St→(List V→St→Prop)→Prop
 | .nil,st,k=>k [] st
 | .cons e es,st,k=>tlE F e st fun x st=>tlEs F es st fun xs st=>k (x :: xs) st
noncomputable def tlO (F:Fn):Exo→St→(V→St→Prop)→Prop
 | .none,st,k=>k .none st
 | .some e,st,k=>tlE F e st k
noncomputable def tlIt (F:Fn):It→St→(List V→St→Prop)→Prop
 | .val e,st,k=>tlE F e st fun x st=>Z1l (Z18 st.σ x) fun v=>k v st
 | .range1 a,st,k=>tlE F a st fun x st=>(match x with
  | .int n=>isT n fun n=>Z0D n = true→k (upTo 0 n) st
  | _=>True)
 | .enum a,st,k=>tlE F a st fun x st=>(match x with
  | .lst xs=>isT (st.σ++[.priv]) fun σ=>k (Z2S 0 xs) ⟨st.ρ,σ⟩
  | _=>True)
 | .range2 a b,st,k=>tlE F a st fun x st=>tlE F b st fun y st=>okT (rng2 x y st) k
end
noncomputable def tlTs (F:Fn):Exs→St→(Bool→St→Prop)→Prop
 | .nil,st,k=>k true st
 | .cons e es,st,k=>tlE F e st fun x st=>truT st.σ x fun t=>brT t (tlTs F es st k) (k false st)
noncomputable def cdT (o:Bool) (A B:Prop):Prop:=match o with
 | false=>A
 | true=>B
noncomputable def flT (fl:Fl) (A:Prop) (B:Prop):Prop:=match fl with
 | .next=>A
 | _=>B
mutual
noncomputable def tlS (F:Fn) (K:Nat) (o:Bool):Sm→St→(Fl→St→Prop)→Prop
 | .asg i e,st,k=>tlE F e st fun x st=>isT x fun x=>k .next ⟨st.ρ.set i (some x),st.σ⟩
 | .asgT is e,st,k=>tlE F e st fun x st=>okT (asT is x st) fun _ st=>k .next st
 | .expr e,st,k=>tlE F e st fun _ st=>k .next st
 | .ret e,st,k=>tlE F e st fun x st=>isT x fun x=>k (.ret x) st
 | .ifte c t f,st,k=>cdT o (tlE F c st fun x st=>truT st.σ x fun b=>brT b (tlSs F K o t st k) (tlSs F K o f st k)) (okT (Z0a (evE F c st)) fun b st=>cond b (tlSs F K o t st k) (tlSs F K o f st k))
 | .for1 i it body,st,k=>tlIt F it st fun items st=>okT (forR (fun x st=>evSs F K body (setV st i x)) items st) k
 | .forT is it body,st,k=>tlIt F it st fun items st=>okT (forR (fun x st=>(asT is x st).bind fun _ st=>evSs F K body st) items st) k
 | .while c body,st,k=>okT (Z0U (fun st=>Z0a (evE F c st)) (fun st=>evSs F K body st) K st) k
 | .brk,st,k=>k .brk st
 | .stk,_,_=>True
 | .asgI a i e,st,k=>tlE F e st fun v st=>tlE F a st fun x st=>tlE F i st fun y st=>okT (setI x y v st) k
 | .asgA a j e,st,k=>tlE F e st fun v st=>tlE F a st fun x st=>okT (setA (clsF F) x v j st) k
 | .forZ is a b body,st,k=>tlE F a st fun x st=>tlE F b st fun y st=>okT (Zd6 (fun x st=>(asT is x st).bind fun _ st=>evSs F K body st) x y st) k
 | .forD i e body,st,k=>tlE F e st fun x st=>okT (Zd7 (fun x st=>evSs F K body (setV st i x)) x st) k
noncomputable def tlSs (F:Fn) (K:Nat) (o:Bool):Sms→St→(Fl→St→Prop)→Prop
 | .nil,st,k=>k .next st
 | .cons s ss,st,k=>tlS F K o s st fun fl st=>flT fl (tlSs F K o ss st k) (k fl st)
end
section
variable {F:Fn} {K:Nat} {st:St}
noncomputable def Aft {α:Type} (m:R α) (k:α→St→Prop):Prop:=∀ v st',m = .ok v st'→k v st'
theorem Aft.bind {α β:Type} {m:R α} {f:α→St→R β} {k:β→St→Prop} (h:Aft (m.bind f) k):Aft m fun a st=>Aft (f a st) k:=fun a st e b st' e'=>h b st' ((congrArg (fun m=>R.bind m f) e).trans e')
theorem Aft.at {α:Type} {a:α} {k:α→St→Prop} (h:Aft (.ok a st) k):k a st:=h a st rfl
theorem Aft.lift {α:Type} {o:Option α} {k:α→St→Prop} (h:Aft (R.lift o st) k):Z1l o fun a=>k a st:=fun v e=>h v st (congrArg (fun o=>R.lift o st) e)
theorem Aft.liftB {o:Option Bool} {k:V→St→Prop} (h:Aft (R.lift (o.map V.bool) st) k):Z1l o fun a=>k (.bool a) st:=fun v e=>h _ st (congrArg (fun o=>R.lift (o.map V.bool) st) e)
theorem Aft.ok {α:Type} {m:R α} {k:α→St→Prop} (h:Aft m k):okT m k:=fun v ρ σ e=>h v ⟨ρ,σ⟩ e
theorem Aft.int {x y:V} {g:Int→Int→Option V} {k:V→St→Prop} (h:Aft (R.lift (onI x y g) st) k):intT x y fun a b=>Z1l (g a b) fun v=>k v st:=by
 cases x <;> first | trivial | (cases y <;> first | trivial | exact h.lift)
theorem Aft.ifs {α:Type} {p:Prop} [Decidable p] {a b:R α} {k:α→St→Prop} (h:Aft (if p then a else b) k) (hp:p):Aft a k:=by rw [if_pos hp] at h; exact h
theorem Aft.br {α:Type} {t:Bool} {a b:R α} {k:α→St→Prop} (h:Aft (if t then a else b) k):brT t (Aft a k) (Aft b k):=fun u e=>by
 subst e
 cases t with
 | true=>exact h
 | false=>exact h
theorem brT.imp {t:Bool} {A B A' B':Prop} (h:brT t A B) (a:A→A') (b:B→B'):brT t A' B':=fun u e=>by
 have q:=h e
 cases u with
 | true=>exact a q
 | false=>exact b q
theorem Zhm {σ:List O} {x:V} {t:Bool} (h:x.truthy σ = some t):x = x.wb t:=by
 cases x <;> first | rfl | exact congrArg V.bool (Option.some.inj h)
theorem brT.impf {σ:List O} {x:V} {t:Bool} {A A' B:Prop} {k:V→St→Prop} {st:St} (h:brT t A B) (e:x.truthy σ = some t) (a:A→A') (b:B→k x st):brT t A' (k (x.wb false) st):=fun u q=>by
 have r:=h q
 cases u with
 | true=>exact a r
 | false=>rw [q] at e; rw [← Zhm e]; exact b r
theorem brT.impt {σ:List O} {x:V} {t:Bool} {A B B':Prop} {k:V→St→Prop} {st:St} (h:brT t A B) (e:x.truthy σ = some t) (a:A→k x st) (b:B→B'):brT t (k (x.wb true) st) B':=fun u q=>by
 have r:=h q
 cases u with
 | true=>rw [q] at e; rw [← Zhm e]; exact a r
 | false=>exact b r
theorem ZhW {op:Op} {x y:V} {k:V→St→Prop} (h:Aft (R.lift (Z46 op x y) st) k):binT op x y fun v=>k v st:=by
 have h:=h.lift
 cases op with
 | add=>cases x <;> first | exact h | (cases y <;> first | trivial | exact h rfl)
 | sub=>cases x <;> first | trivial | (cases y <;> first | trivial | exact h rfl)
 | mul=>exact h
 | fdiv=>cases x <;> first | trivial | (cases y <;> first | trivial | exact fun e=>h (if_neg (ne_of_beq_false e)))
 | mod=>cases x <;> first | trivial | (cases y <;> first | trivial | exact fun e=>h (if_neg (ne_of_beq_false e)))
theorem ZhX {σ:List O} {op:Cm} {x y:V} {k:Bool→Prop} (h:Z1l (Z10 σ op x y) k):cmpT σ op x y k:=by
 cases op with
 | lt=>cases x <;> first | trivial | (cases y <;> first | trivial | exact h rfl)
 | le=>cases x <;> first | trivial | (cases y <;> first | trivial | exact h rfl)
 | gt=>cases x <;> first | trivial | (cases y <;> first | trivial | exact h rfl)
 | ge=>cases x <;> first | trivial | (cases y <;> first | trivial | exact h rfl)
 | eq=>cases x <;> first | exact h | (cases y <;> first | trivial | exact h rfl)
 | ne=>cases x <;> first | exact h | (cases y <;> first | trivial | exact h rfl)
 | is=>cases y <;> first | trivial | exact h rfl
 | isnot=>cases y <;> first | trivial | exact h rfl
 | isin=>exact h
 | notin=>exact fun b e=>h (congrArg (Option.map not) e)
theorem Zgm {σ:List O} {x:V} {k:Bool→Prop} (h:Z1l (x.truthy σ) k):truT σ x k:=by
 cases x <;> first | exact h | exact h rfl
theorem Zhn {o:Option (Option V)} {k:V→Prop} (h:∀ v,o = some (some v)→k v):locT o k:=by
 rcases o with _ | _ | v
 ·trivial
 ·trivial
 ·exact h v rfl
theorem fz_t {i:Nat} {k:V→St→Prop} (h:Aft (evE F (.fz i) st) k):fzT i st k:=by
 refine Zhn fun v e=>?_
 cases v <;> first | trivial | skip
 ·have h:=h
  rw [ZaY,e] at h
  exact h.at
 ·intro xs σ e1 e2
  subst e2
  rw [ZaY,e] at h
  dsimp only at h
  rw [e1] at h
  exact h.at
theorem Zc1:∀ (es:Exs) (n:Nat),nlen n es = true→∀ (st:St),Aft (evEs F es st) fun xs _=>xs.length ≤ n :=
 Exs.rec (motive_1:=fun _=>True) (motive_3:=fun _=>True) (motive_4:=fun _=>True) (motive_2:=fun es=>∀ n,nlen n es = true→∀ st,Aft (evEs F es st) fun xs _=>xs.length ≤ n)
  trivial (fun _=>trivial) (fun _=>trivial) (fun _=>trivial) (fun _=>trivial) (fun _=>trivial) (fun _ _ _ _ _=>trivial) (fun _ _ _ _ _=>trivial) (fun _ _ _ _=>trivial) (fun _ _ _ _=>trivial) (fun _ _=>trivial) (fun _=>trivial) (fun _ _ _ _ _ _=>trivial) (fun _ _=>trivial) (fun _ _=>trivial) (fun _ _=>trivial) (fun _ _ _ _=>trivial) (fun _ _ _ _ _ _=>trivial) (fun _ _ _=>trivial) (fun _ _ _=>trivial) (fun _ _ _ _ _=>trivial) (fun _ _ _=>trivial) (fun _ _=>trivial) trivial (fun _ _ _=>trivial) trivial (fun _ _=>trivial) (fun _ _=>trivial) (fun _ _ _ _=>trivial) (fun _ _=>trivial) (fun _ _ _ _ _ _ _=>trivial) trivial
  (fun n _ st v st' e=>by cases (e:R.ok [] st = _); exact Nat.zero_le _)
  (fun e es _ ih n q st v st' h=>by
   cases n with
   | zero=>cases q
   | succ n=>
    refine El.x2_2 (R.bind_inv (f:=fun x st=>(evEs F es st).bind fun xs st=>.ok (x :: xs) st) h) fun x st₁ _ h2=>?_
    refine El.x2_2 (R.bind_inv h2) fun ys st₂ h3 h4=>?_
    cases h4; exact Nat.succ_le_succ (ih n q st₁ ys _ h3))
  trivial (fun _ _=>trivial) (fun _ _=>trivial) (fun _ _=>trivial) (fun _ _=>trivial) (fun _ _ _ _=>trivial)
theorem sh_t {b:Bool} {P:Prop} (h:b = true→P):shT b P:=by
 cases b with
 | true=>exact h rfl
 | false=>trivial
theorem Aft.step {α β:Type} {m:R α} {f:α→St→R β} {k:β→St→Prop} {k':α→St→Prop} (h:Aft (m.bind f) k) (g:∀ a st,Aft (f a st) k→k' a st):Aft m k':=fun a st e=>g a st fun b st' e'=>h b st' ((congrArg (fun m=>R.bind m f) e).trans e')
theorem Aft.tru {m:R V} {k:Bool→St→Prop} (h:Aft (Z0a m) k):Aft m fun x st=>truT st.σ x fun t=>k t st:=Aft.step h fun _ _ h=>Zgm h.lift
theorem Aft.trus {β:Type} {m:R V} {f:Bool→St→R β} {k:β→St→Prop} {k':V→St→Prop} (h:Aft ((Z0a m).bind f) k) (g:∀ x st,truT st.σ x (fun t=>Aft (f t st) k)→k' x st):Aft m k':=fun a st e=>g a st (h.bind.tru a st e)
theorem truT.imp {σ:List O} {x:V} {k k':Bool→Prop} (h:truT σ x k) (g:∀ t,k t→k' t):truT σ x k':=by
 cases x <;> first | exact g _ h | exact fun v e=>g _ (h e)
theorem Aft.size {c:List V→V} {es:Exs} {k:V→St→Prop} {f:List V→St→St} (h:Aft ((evEs F es st).bind fun xs st=>if xs.length ≤ sizeLine then .ok (c xs) (f xs st) else .stuck) k) (q:nlen 100 es = true):Aft (evEs F es st) fun xs st=>k (c xs) (f xs st):=fun xs st' e=>by
 exact (h.bind xs st' e).ifs (Nat.le_trans (Zc1 es 100 q st xs st' e) (by decide)) |>.at
theorem Zho {σ:List O} {o:O} {k:Nat→List O→Prop} (h:k σ.length (σ++[o])):newT σ o k:=fun _ _ e e'=>e ▸ e' ▸ h
theorem okc {m:R V} {ρ:List (Option V)} {k:V→St→Prop} (h:Aft (Z5f m ρ) k):okT m fun v s=>k v ⟨ρ,s.σ⟩:=fun v ρ' σ e=>h v ⟨ρ,σ⟩ (congrArg (fun m=>Z5f m ρ) e)
theorem Z0h (F:Fn) (e:Ex):∀ st k,Aft (evE F e st) k→tlE F e st k :=
 Ex.rec (motive_1:=fun e=>∀ st k,Aft (evE F e st) k→tlE F e st k) (motive_2:=fun e=>∀ st k,Aft (evEs F e st) k→tlEs F e st k) (motive_3:=fun e=>∀ st k,Aft (evO F e st) k→tlO F e st k) (motive_4:=fun _=>True)
  (fun st k h=>h.at) (fun b st k h=>h.at) (fun i st k h=>h.at) (fun x st k h=>h.at)
  (fun i st k h=>Zhn fun v e=>by rw [Z1K,e] at h; exact h.at)
  (fun i st k h=>fz_t h)
  (fun op a b iha ihb st k h=>iha st _ (Aft.step h fun x st h=>ihb st _ (Aft.step h fun y st h=>ZhW h)))
  (fun op a b iha ihb st k h=>iha st _ (Aft.step h fun x st h=>ihb st _ (Aft.step h fun y st h=>ZhX h.liftB)))
  (fun a b iha ihb st k h=>iha st _ (Aft.step h fun x st h=>Zgm fun t e=>(h.bind t st (congrArg (fun o=>R.lift o st) e)).br.impf e (ihb st k) fun h=>h.at))
  (fun a b iha ihb st k h=>iha st _ (Aft.step h fun x st h=>Zgm fun t e=>(h.bind t st (congrArg (fun o=>R.lift o st) e)).br.impt e (fun h=>h.at) (ihb st k)))
  (fun a iha st k h=>iha st _ (Aft.trus h fun x st h=>h.imp fun t h=>h.at))
  (fun i st k h=>h.at)
  (fun c a b ihc iha ihb st k h=>ihc st _ (Aft.trus h fun x st h=>h.imp fun t h=>h.br.imp (iha st k) (ihb st k)))
  (fun es ih st k h=>sh_t fun q=>ih st _ (Aft.size (c:=V.tup) (f:=fun _ st=>st) h q))
  (fun es ih st k h=>sh_t fun q=>ih st _ (Aft.size (c:=V.lst) (f:=fun _ st=>st) h q))
  (fun es ih st k h=>sh_t fun q=>ih st _ fun xs st' e=>(Aft.bind (β:=V) (f:=fun xs st=>if xs.length ≤ sizeLine then .ok (V.ref st.σ.length) ⟨st.ρ,st.σ++[O.lst xs]⟩ else .stuck) h xs st' e).ifs (Nat.le_trans (Zc1 es 100 q st xs st' e) (by decide)) |>.at |> Zho)
  (fun a b iha ihb st k h=>iha st _ (Aft.step h fun x st h=>ihb st _ (Aft.step h fun y st h=>h.lift)))
  (fun a lo hi iha ihl ihh st k h=>iha st _ (Aft.step h fun x st h=>ihl st _ (Aft.step h fun l st h=>ihh st _ (Aft.step h fun y st h=>h.lift))))
  (fun a t iha st k h=>iha st _ (Aft.step h fun x st h=>h.liftB))
  (fun f a iha st k h=>iha st _ (Aft.step h fun x st h=>h.lift))
  (fun m a b iha ihb st k h=>iha st _ (Aft.step h fun x st h q=>ihb st _ (Aft.step (h.ifs q) fun y st h=>h.ok)))
  (fun f es ih st k h=>ih st _ (Aft.step h fun xs st h=>okc h))
  (fun x i st k h=>h.at)
  (fun st k h=>Zho (k:=fun n σ=>k (.ref n) ⟨st.ρ,σ⟩) h.at)
  (fun a j iha st k h=>iha st _ (Aft.step h fun x st h=>h.lift))
  (fun st k h=>okc h)
  (fun a iha st k h=>iha st _ (Aft.step h fun x st h=>h.lift))
  (fun a iha st k h=>iha st _ (Aft.step h fun x st h=>h.lift))
  (fun a b iha ihb st k h=>iha st _ (Aft.step h fun x st h=>ihb st _ (Aft.step h fun y st h=>by
   have h:=h.lift
   cases x <;> first | trivial | (cases y <;> first | trivial | exact h rfl))))
  (fun a iha st k h=>iha st _ (Aft.step h fun x st h=>h.ok))
  (fun elt j it ifs _ _ _ st k h=>h.ok)
  (fun st k h=>okc h)
  (fun st k h=>h.at)
  (fun e es ihe ihs st k h=>ihe st _ (Aft.step h fun x st h=>ihs st _ (Aft.step h fun xs st h=>h.at)))
  (fun st k h=>h.at) (fun e ih st k h=>ih st k h)
  (fun _ _=>trivial) (fun _ _=>trivial) (fun _ _=>trivial) (fun _ _ _ _=>trivial) e
theorem Z4F (F:Fn) (it:It):∀ st k,Aft (evIt F it st) k→tlIt F it st k :=
 It.casesOn (motive_4:=fun it=>∀ st k,Aft (evIt F it st) k→tlIt F it st k) it
  (fun e st k h=>Z0h F e st _ (Aft.step h fun x st h=>h.lift))
  (fun e st k h=>Z0h F e st _ (Aft.step h fun x st h=>by cases x <;> first | trivial | exact fun m e q=>by subst e; exact (h.ifs q).at))
  (fun e st k h=>Z0h F e st _ (Aft.step h fun x st h=>by cases x <;> first | trivial | exact fun _ e=>e ▸ h.at))
  (fun a b st k h=>Z0h F a st _ (Aft.step h fun x st h=>Z0h F b st _ (Aft.step h fun y st h=>h.ok)))
theorem Zc2 (F:Fn):∀ (es:Exs) st k,Aft (evTs F es st) k→tlTs F es st k
 | .nil,st,k,h=>h.at
 | .cons e es,st,k,h=>Z0h F e st _ (Aft.trus h fun x st h=>h.imp fun t h=>h.br.imp (Zc2 F es st k) fun h=>h.at)
theorem Zf8 {fl:Fl} {ss:Sms} {k:Fl→St→Prop} {P:Prop} (hP:Aft (evSs F K ss st) k→P) (h:Aft (match fl with | .next=>evSs F K ss st | f=>.ok f st) k):flT fl P (k fl st):=by
 cases fl with
 | next=>exact hP h
 | brk=>exact h.at
 | cont=>exact h.at
 | ret v=>exact h.at
theorem cd_t {o:Bool} {A B:Prop} (a:A) (b:B):cdT o A B:=by cases o <;> assumption
theorem Zf9 (F:Fn) (K:Nat) (o:Bool):(∀ s st k,Aft (evS F K s st) k→tlS F K o s st k)∧(∀ ss st k,Aft (evSs F K ss st) k→tlSs F K o ss st k) :=
 ⟨fun s=>Sm.rec (motive_1:=fun s=>∀ st k,Aft (evS F K s st) k→tlS F K o s st k) (motive_2:=fun ss=>∀ st k,Aft (evSs F K ss st) k→tlSs F K o ss st k)
  (fun i e st k h=>Z0h F e st _ (Aft.step h fun x st h y e=>e ▸ h.at))
  (fun is e st k h=>Z0h F e st _ (Aft.step h fun x st h=>(Aft.step h fun _ st h=>h.at).ok))
  (fun e st k h=>Z0h F e st _ (Aft.step h fun x st h=>h.at))
  (fun e st k h=>Z0h F e st _ (Aft.step h fun x st h y e=>e ▸ h.at))
  (fun c t f iht ihf st k h=>cd_t (Z0h F c st _ (Aft.trus h fun x st h=>h.imp fun t h=>h.br.imp (iht st k) (ihf st k))) (Aft.ok (Aft.step h fun b st h=>(h.br.imp (iht st k) (ihf st k)) rfl)))
  (fun i it body _ st k h=>Z4F F it st _ (Aft.step h fun xs st h=>h.ok))
  (fun is it body _ st k h=>Z4F F it st _ (Aft.step h fun xs st h=>h.ok))
  (fun c body _ st k h=>h.ok)
  (fun st k h=>h.at)
  (fun st k h=>trivial)
  (fun a i e st k h=>Z0h F e st _ (Aft.step h fun v st h=>Z0h F a st _ (Aft.step h fun x st h=>Z0h F i st _ (Aft.step h fun y st h=>h.ok))))
  (fun a j e st k h=>Z0h F e st _ (Aft.step h fun v st h=>Z0h F a st _ (Aft.step h fun x st h=>h.ok)))
  (fun i e body _ st k h=>Z0h F e st _ (Aft.step h fun x st h=>h.ok))
  (fun is a b body _ st k h=>Z0h F a st _ (Aft.step h fun x st h=>Z0h F b st _ (Aft.step h fun y st h=>h.ok)))
  (fun st k h=>h.at)
  (fun s ss ihs ihss st k h=>ihs st _ (Aft.step h fun fl st h=>Zf8 (ihss st k) h))
  s,fun ss=>Sms.rec (motive_1:=fun s=>∀ st k,Aft (evS F K s st) k→tlS F K o s st k) (motive_2:=fun ss=>∀ st k,Aft (evSs F K ss st) k→tlSs F K o ss st k)
  (fun i e st k h=>Z0h F e st _ (Aft.step h fun x st h y e=>e ▸ h.at))
  (fun is e st k h=>Z0h F e st _ (Aft.step h fun x st h=>(Aft.step h fun _ st h=>h.at).ok))
  (fun e st k h=>Z0h F e st _ (Aft.step h fun x st h=>h.at))
  (fun e st k h=>Z0h F e st _ (Aft.step h fun x st h y e=>e ▸ h.at))
  (fun c t f iht ihf st k h=>cd_t (Z0h F c st _ (Aft.trus h fun x st h=>h.imp fun t h=>h.br.imp (iht st k) (ihf st k))) (Aft.ok (Aft.step h fun b st h=>(h.br.imp (iht st k) (ihf st k)) rfl)))
  (fun i it body _ st k h=>Z4F F it st _ (Aft.step h fun xs st h=>h.ok))
  (fun is it body _ st k h=>Z4F F it st _ (Aft.step h fun xs st h=>h.ok))
  (fun c body _ st k h=>h.ok)
  (fun st k h=>h.at)
  (fun st k h=>trivial)
  (fun a i e st k h=>Z0h F e st _ (Aft.step h fun v st h=>Z0h F a st _ (Aft.step h fun x st h=>Z0h F i st _ (Aft.step h fun y st h=>h.ok))))
  (fun a j e st k h=>Z0h F e st _ (Aft.step h fun v st h=>Z0h F a st _ (Aft.step h fun x st h=>h.ok)))
  (fun i e body _ st k h=>Z0h F e st _ (Aft.step h fun x st h=>h.ok))
  (fun is a b body _ st k h=>Z0h F a st _ (Aft.step h fun x st h=>Z0h F b st _ (Aft.step h fun y st h=>h.ok)))
  (fun st k h=>h.at)
  (fun s ss ihs ihss st k h=>ihs st _ (Aft.step h fun fl st h=>Zf8 (ihss st k) h))
  ss⟩
theorem Zc3 (F:Fn) (K:Nat) (o:Bool) (s:Sm):∀ st k,Aft (evS F K s st) k→tlS F K o s st k:=(Zf9 F K o).1 s
theorem Z8L (F:Fn) (K:Nat) (o:Bool) (ss:Sms):∀ st k,Aft (evSs F K ss st) k→tlSs F K o ss st k:=(Zf9 F K o).2 ss
noncomputable def tlP (F:Fn) (K:Nat) (o:Bool):Nat→Sms→St→(Sms→St→Prop)→Prop
 | 0,ss,st,k=>k ss st
 | _ + 1,.nil,_,_=>True
 | n + 1,.cons s ss,st,k=>tlS F K o s st fun fl st=>flT fl (tlP F K o n ss st k) True
theorem Zc4 (F:Fn) (K:Nat) (o:Bool):∀ (n:Nat) (ss:Sms) (st:St) (k:Sms→St→Prop),(∀ ss' st',evSs F K ss st = evSs F K ss' st'→k ss' st')→tlP F K o n ss st k
 | 0,ss,st,k,h=>h ss st rfl
 | _ + 1,.nil,_,_,_=>trivial
 | n + 1,.cons s ss,st,k,h=>Zc3 F K o s st _ fun fl st1 e=>by
  cases fl <;> first | trivial | exact Zc4 F K o n ss st1 k fun ss' st' q=>h ss' st' ((congrArg (fun m=>R.bind m _) e).trans q)
theorem atS {ss:Sms} {r:R Fl} (t:(tlSs F K false ss st fun fl st'=>evSs F K ss st = .ok fl st')→evSs F K ss st = r):evSs F K ss st = r:=t (Z8L F K false ss st _ fun _ _ e=>e)
theorem at1 {s:Sm} {r:R Fl} (t:(tlS F K false s st fun fl st'=>evS F K s st = .ok fl st')→evS F K s st = r):evS F K s st = r:=t (Zc3 F K false s st _ fun _ _ e=>e)
theorem atE {e:Ex} {r:R V} (t:(tlE F e st fun v st'=>evE F e st = .ok v st')→evE F e st = r):evE F e st = r:=t (Z0h F e st _ fun _ _ e=>e)
theorem atT {e:Exs} {r:R Bool} (t:(tlTs F e st fun v st'=>evTs F e st = .ok v st')→evTs F e st = r):evTs F e st = r:=t (Zc2 F e st _ fun _ _ e=>e)
theorem atQ {e:Ex} {r:R Bool} (t:(tlE F e st fun v st'=>truT st'.σ v fun b=>Z0a (evE F e st) = .ok b st')→Z0a (evE F e st) = r):Z0a (evE F e st) = r:=t (Z0h F e st _ (Aft.tru (k:=fun b st'=>Z0a (evE F e st) = .ok b st') fun _ _ e=>e))
theorem atP (n:Nat) {ss:Sms} {r:R Fl} (t:(tlP F K false n ss st fun ss' st'=>evSs F K ss st = evSs F K ss' st')→evSs F K ss st = r):evSs F K ss st = r:=t (Zc4 F K false n ss st _ fun _ _ e=>e)
theorem atI {e:It} {r:R (List V)} (t:(tlIt F e st fun v st'=>evIt F e st = .ok v st')→evIt F e st = r):evIt F e st = r:=t (Z4F F e st _ fun _ _ e=>e)
theorem atC {ss:Sms} {r:R Fl} (t:(tlSs F K true ss st fun fl st'=>evSs F K ss st = .ok fl st')→evSs F K ss st = r):evSs F K ss st = r:=t (Z8L F K true ss st _ fun _ _ e=>e)
theorem Z6z {i:Nat} {x:V} (h:st.ρ[i]? = some (some x)):evE F (.loc i) st = .ok x st:=by rw [Z1K,h]
theorem Zc5 {i:Nat} {x:V} {xs:List V} (h:st.ρ[i]? = some (some x)) (h2:Z18 st.σ x = some xs):evIt F (.val (.loc i)) st = .ok xs st:=(congrArg (fun m=>R.bind m fun x st=>R.lift (Z18 st.σ x) st) (Z6z h)).trans (congrArg (fun o=>R.lift o st) h2)
theorem Z7K {σ:List O} {x:List Nat} {i:Int} {c:Nat} (h:Z0n x i = some c):Z0H σ (.str x) (.int i) = some (.str [c]):=congrArg (Option.map fun c=>V.str [c]) h
theorem Zgn {f:Str} {k:Nat} {x v:V} {ρ':List (Option V)} {σ':List O} (h:st.ρ[k]? = some (some x)) (h2:F f [x] st.σ = .ok v ⟨ρ',σ'⟩):evE F (.call f (.cons (.loc k) .nil)) st = .ok v ⟨st.ρ,σ'⟩:=by
 rw [Z9i,Z1L,Z6z h]
 exact congrArg (fun r=>Z5f r st.ρ) h2
theorem at1C {s:Sm} {r:R Fl} (t:(tlS F K true s st fun fl st'=>evS F K s st = .ok fl st')→evS F K s st = r):evS F K s st = r:=t (Zc3 F K true s st _ fun _ _ e=>e)
theorem okb {m:R Bool} {b b':Bool} (h:m = .ok b st) (e:b = b'):m = .ok b' st:=e ▸ h
theorem if_t {c:Ex} {A B:Sms} {st':St} (h:Z0a (evE F c st) = .ok true st'):evS F K (.ifte c A B) st = evSs F K A st':=(congrArg (fun m=>R.bind m _) h).trans rfl
theorem if_f {c:Ex} {A B:Sms} {st':St} (h:Z0a (evE F c st) = .ok false st'):evS F K (.ifte c A B) st = evSs F K B st':=(congrArg (fun m=>R.bind m _) h).trans rfl
theorem one1 {s:Sm} {fl:Fl} {st':St} (h:evS F K s st = .ok fl st'):evSs F K (.cons s .nil) st = .ok fl st':=(congrArg (fun m=>R.bind m _) h).trans (by cases fl <;> rfl)
theorem atPC (n:Nat) {ss:Sms} {r:R Fl} (t:(tlP F K true n ss st fun ss' st'=>evSs F K ss st = evSs F K ss' st')→evSs F K ss st = r):evSs F K ss st = r:=t (Zc4 F K true n ss st _ fun _ _ e=>e)
theorem Zhp {s:Sm} {ss:Sms} {st':St} (h:evS F K s st = .ok .next st'):evSs F K (.cons s ss) st = evSs F K ss st':=(congrArg (fun m=>R.bind m _) h).trans rfl
theorem nn {b c:Bool} (h:b = c):(!!b) = c:=(Bool.not_not b).trans h
theorem nz {i:Int} (h:i ≠ 0):(i == 0) = false:=beq_eq_false_iff_ne.mpr h
end
noncomputable def S5 (a1 a2 a3 a4 a5:Option V) (σ:List O):St:=⟨[a1,a2,a3,a4,a5],σ⟩
noncomputable def S6 (a1 a2 a3 a4 a5 a6:Option V) (σ:List O):St:=⟨[a1,a2,a3,a4,a5,a6],σ⟩
noncomputable def S7 (a1 a2 a3 a4 a5 a6 a7:Option V) (σ:List O):St:=⟨[a1,a2,a3,a4,a5,a6,a7],σ⟩
noncomputable def S8 (a1 a2 a3 a4 a5 a6 a7 a8:Option V) (σ:List O):St:=⟨[a1,a2,a3,a4,a5,a6,a7,a8],σ⟩
noncomputable def S9 (a1 a2 a3 a4 a5 a6 a7 a8 a9:Option V) (σ:List O):St:=⟨[a1,a2,a3,a4,a5,a6,a7,a8,a9],σ⟩
noncomputable def S11 (a1 a2 a3 a4 a5 a6 a7 a8 a9 a10 a11:Option V) (σ:List O):St:=⟨[a1,a2,a3,a4,a5,a6,a7,a8,a9,a10,a11],σ⟩
noncomputable def S12 (a1 a2 a3 a4 a5 a6 a7 a8 a9 a10 a11 a12:Option V) (σ:List O):St:=⟨[a1,a2,a3,a4,a5,a6,a7,a8,a9,a10,a11,a12],σ⟩
noncomputable def S14 (a1 a2 a3 a4 a5 a6 a7 a8 a9 a10 a11 a12 a13 a14:Option V) (σ:List O):St:=⟨[a1,a2,a3,a4,a5,a6,a7,a8,a9,a10,a11,a12,a13,a14],σ⟩
noncomputable def Zc6:Sms:=(.cons (.asgA (.loc 0) 0 (.listM .nil))
 (.cons (.asgA (.loc 0) 1 (.listM .nil))
 (.cons (.asgA (.loc 0) 2 (.list .nil))
 (.cons (.asgA (.loc 0) 3 .dictM)
 (.cons (.asgA (.loc 0) 4 .none)
 .nil)))))
noncomputable def Z9P:Def:=⟨"Leaves.__init__",["self"],["self"],1,Zc6,[]⟩
noncomputable def Z6A:Sms:=(.cons (.asgI (.sub (.attr (.loc 0) 1) (.loc 3)) (.loc 4) (.bool true))
 .nil)
noncomputable def Z6B:Sms:=(.cons (.for1 4 (.val (.loc 2)) Z6A)
 .nil)
noncomputable def Zc7:Sms:=(.cons (.for1 3 (.val (.loc 1)) Z6B)
 .nil)
noncomputable def Z9Q:Def:=⟨"link",["leaves","lasts","firsts"],["leaves","lasts","firsts","one","other"],5,Zc7,[]⟩
noncomputable def Z5E:Sms:=(.cons (.ifte (.bor (.cmp .eq (.loc 1) (.str "")) (.cmp .lt (.lenSet (.loc 1)) (.bi .len (.loc 1)))) (.cons .stk
 .nil) .nil)
 (.cons (.asg 2 (.bi .len (.attr (.loc 0) 0)))
 (.cons (.ifte (.cmp .eq (.loc 2) (.glob "MOST_LEAVES" 60)) (.cons .stk
 .nil) .nil)
 (.cons (.expr (.me .append (.attr (.loc 0) 0) (.loc 1)))
 (.cons (.expr (.me .append (.attr (.loc 0) 1) .dictM))
 (.cons (.ret (.tup (.cons (.bool false) (.cons (.list (.cons (.loc 2) .nil)) (.cons (.list (.cons (.loc 2) .nil)) .nil)))))
 .nil))))))
noncomputable def Z2x:Def:=⟨"leaf_of",["leaves","signs"],["leaves","signs","number"],3,Z5E,[("MOST_LEAVES",60)]⟩
noncomputable def Z39:Sms:=(.cons (.asgT [6,7,8] (.call "looked_at" (.cons (.loc 0) (.cons (.loc 5) .nil))))
 (.cons (.expr (.call "link" (.cons (.loc 0) (.cons (.loc 4) (.cons (.loc 7) .nil)))))
 (.cons (.ifte (.loc 2) (.cons (.asg 3 (.bin .add (.loc 3) (.loc 7)))
 .nil) .nil)
 (.cons (.ifte (.loc 6) (.cons (.asg 4 (.bin .add (.loc 4) (.loc 8)))
 .nil) (.cons (.asg 4 (.loc 8))
 .nil))
 (.cons (.asg 2 (.band (.loc 2) (.loc 6)))
 .nil)))))
noncomputable def Z7L:Sms:=(.cons (.asg 2 (.bool true))
 (.cons (.asg 3 (.list .nil))
 (.cons (.asg 4 (.list .nil))
 (.cons (.for1 5 (.val (.loc 1)) Z39)
 (.cons (.ret (.tup (.cons (.loc 2) (.cons (.loc 3) (.cons (.loc 4) .nil)))))
 .nil)))))
noncomputable def Z3Q:Def:=⟨"row_of",["leaves","parts"],["leaves","parts","empty","firsts","lasts","part","bare","begins","closes"],9,Z7L,[]⟩
noncomputable def Z1v:Sms:=(.cons (.asgT [6,7,8] (.call "looked_at" (.cons (.loc 0) (.cons (.loc 5) .nil))))
 (.cons (.asg 2 (.bor (.loc 2) (.loc 6)))
 (.cons (.asg 3 (.bin .add (.loc 3) (.loc 7)))
 (.cons (.asg 4 (.bin .add (.loc 4) (.loc 8)))
 .nil))))
noncomputable def Z3B:Sms:=(.cons (.ifte (.not (.loc 1)) (.cons .stk
 .nil) .nil)
 (.cons (.asg 2 (.bool false))
 (.cons (.asg 3 (.list .nil))
 (.cons (.asg 4 (.list .nil))
 (.cons (.for1 5 (.val (.loc 1)) Z1v)
 (.cons (.ret (.tup (.cons (.loc 2) (.cons (.loc 3) (.cons (.loc 4) .nil)))))
 .nil))))))
noncomputable def Z1w:Def:=⟨"choice_of",["leaves","parts"],["leaves","parts","empty","firsts","lasts","part","bare","begins","closes"],9,Z3B,[]⟩
noncomputable def Z0J:Sms:=(.cons (.ifte (.cmp .eq (.sub (.loc 1) (.int 0)) (.str "one")) (.cons (.ret (.call "leaf_of" (.cons (.loc 0) (.cons (.sub (.loc 1) (.int 1)) .nil))))
 .nil) .nil)
 (.cons (.ifte (.cmp .eq (.sub (.loc 1) (.int 0)) (.str "row")) (.cons (.ret (.call "row_of" (.cons (.loc 0) (.cons (.sub (.loc 1) (.int 1)) .nil))))
 .nil) .nil)
 (.cons (.ifte (.cmp .eq (.sub (.loc 1) (.int 0)) (.str "or")) (.cons (.ret (.call "choice_of" (.cons (.loc 0) (.cons (.sub (.loc 1) (.int 1)) .nil))))
 .nil) .nil)
 (.cons (.asgT [2,3,4] (.call "looked_at" (.cons (.loc 0) (.cons (.sub (.loc 1) (.int 1)) .nil))))
 (.cons (.ifte (.cmp .eq (.sub (.loc 1) (.int 0)) (.str "many")) (.cons (.expr (.call "link" (.cons (.loc 0) (.cons (.loc 4) (.cons (.loc 3) .nil)))))
 .nil) .nil)
 (.cons (.ret (.tup (.cons (.bool true) (.cons (.loc 3) (.cons (.loc 4) .nil)))))
 .nil))))))
noncomputable def Z0j:Def:=⟨"looked_at",["leaves","pattern"],["leaves","pattern","bare","firsts","lasts"],5,Z0J,[]⟩
noncomputable def Z1x:Sms:=(.cons (.asgI (.attr (.loc 1) 3) (.loc 7) (.loc 2))
 .nil)
noncomputable def Z1y:Sms:=(.cons (.asgT [4,5,6] (.call "looked_at" (.cons (.loc 1) (.cons (.loc 3) .nil))))
 (.cons (.asgA (.loc 1) 2 (.bin .add (.attr (.loc 1) 2) (.loc 5)))
 (.cons (.for1 7 (.val (.loc 6)) Z1x)
 (.cons (.ifte (.band (.loc 4) (.cmp .is (.attr (.loc 1) 4) .none)) (.cons (.asgA (.loc 1) 4 (.loc 2))
 .nil) .nil)
 .nil))))
noncomputable def Z3C:Sms:=(.cons (.ifte (.bor (.not (.loc 0)) (.cmp .gt (.bi .len (.loc 0)) (.glob "MOST_PATTERNS" 8))) (.cons .stk
 .nil) .nil)
 (.cons (.asg 1 .newI)
 (.cons (.forT [2,3] (.enum (.loc 0)) Z1y)
 (.cons (.ret (.loc 1))
 .nil))))
noncomputable def Z1z:Def:=⟨"leaves_of",["patterns"],["patterns","leaves","number","pattern","bare","firsts","lasts","leaf"],8,Z3C,[("MOST_PATTERNS",8)]⟩
noncomputable def Z2y:Sms:=(.cons (.ifte (.cmp .isin (.loc 2) (.sub (.attr (.loc 0) 0) (.loc 4))) (.cons (.asgI (.loc 3) (.loc 4) (.bool true))
 .nil) .nil)
 .nil)
noncomputable def Z9R:Sms:=(.cons (.ifte (.cmp .isin (.loc 2) (.sub (.attr (.loc 0) 0) (.loc 4))) (.cons (.asgI (.loc 3) (.loc 4) (.bool true))
 .nil) .nil)
 .nil)
noncomputable def Z6C:Sms:=(.cons (.forD 4 (.sub (.attr (.loc 0) 1) (.loc 5)) Z9R)
 .nil)
noncomputable def Z8M:Sms:=(.cons (.asg 3 .dictM)
 (.cons (.ifte (.cmp .is (.loc 1) .none) (.cons (.for1 4 (.val (.attr (.loc 0) 2)) Z2y)
 (.cons (.ret (.bi .tuple (.bi .sorted (.loc 3))))
 .nil)) .nil)
 (.cons (.for1 5 (.val (.loc 1)) Z6C)
 (.cons (.ret (.bi .tuple (.bi .sorted (.loc 3))))
 .nil))))
noncomputable def Z9S:Def:=⟨"step",["leaves","some","sign"],["leaves","some","sign","found","leaf","one"],6,Z8M,[]⟩
noncomputable def Z4G:Ex:=(.sub (.attr (.loc 0) 3) (.loc 2))
noncomputable def Z5F:Sms:=(.cons (.ifte (.cmp .is (.loc 1) .none) (.cons (.ret (.attr (.loc 0) 4))
 .nil) .nil)
 (.cons (.ret (.minD (.comp Z4G 2 (.val (.loc 1)) (.cons (.cmp .isin (.loc 2) (.attr (.loc 0) 3)) .nil))))
 .nil))
noncomputable def Z4H:Def:=⟨"told_at",["leaves","some"],["leaves","some"],3,Z5F,[]⟩
noncomputable def d_longest_atL0:Sms:=(.cons (.asg 7 (.tup (.cons (.loc 5) (.cons (.sub (.loc 2) (.loc 6)) .nil))))
 (.cons (.ifte (.cmp .notin (.loc 7) (.loc 1)) (.cons (.asgI (.loc 1) (.loc 7) (.call "step" (.cons (.loc 0) (.cons (.loc 5) (.cons (.sub (.loc 2) (.loc 6)) .nil)))))
 .nil) .nil)
 (.cons (.asg 5 (.sub (.loc 1) (.loc 7)))
 (.cons (.ifte (.cmp .eq (.loc 5) (.tup .nil)) (.cons (.ret (.loc 4))
 .nil) .nil)
 (.cons (.asg 8 (.call "told_at" (.cons (.loc 0) (.cons (.loc 5) .nil))))
 (.cons (.ifte (.cmp .isnot (.loc 8) .none) (.cons (.asg 4 (.tup (.cons (.loc 8) (.cons (.bin .add (.loc 6) (.int 1)) .nil))))
 .nil) .nil)
 .nil))))))
noncomputable def Z2z:Sms:=(.cons (.asg 4 .none)
 (.cons (.asg 5 .none)
 (.cons (.for1 6 (.range2 (.loc 3) (.bi .len (.loc 2))) d_longest_atL0)
 (.cons (.ret (.loc 4))
 .nil))))
noncomputable def Z1c:Def:=⟨"longest_at",["leaves","known","text","at"],["leaves","known","text","at","best","some","place","pair","told"],9,Z2z,[]⟩
noncomputable def Z4I:Sms:=(.cons (.asg 6 (.call "longest_at" (.cons (.loc 2) (.cons (.loc 3) (.cons (.loc 1) (.cons (.loc 5) .nil))))))
 (.cons (.ifte (.cmp .is (.loc 6) .none) (.cons (.asg 6 (.tup (.cons .none (.cons (.bin .add (.loc 5) (.int 1)) .nil))))
 .nil) .nil)
 (.cons (.expr (.me .append (.loc 4) (.tup (.cons (.sub (.loc 6) (.int 0)) (.cons (.loc 5) (.cons (.sub (.loc 6) (.int 1)) .nil))))))
 (.cons (.asg 5 (.sub (.loc 6) (.int 1)))
 .nil))))
noncomputable def Z9T:Sms:=(.cons (.asg 2 (.call "leaves_of" (.cons (.loc 0) .nil)))
 (.cons (.asg 3 .dictK)
 (.cons (.asg 4 (.listM .nil))
 (.cons (.asg 5 (.int 0))
 (.cons (.while (.cmp .lt (.loc 5) (.bi .len (.loc 1))) Z4I)
 (.cons (.ret (.loc 4))
 .nil))))))
noncomputable def Z6D:Def:=⟨"tried",["patterns","text"],["patterns","text","leaves","known","found","at","best"],7,Z9T,[]⟩
noncomputable def Z5G:Sms:=(.cons (.ifte (.cmp .lt (.loc 1) (.bi .len (.loc 0))) (.cons (.ret (.sub (.loc 0) (.loc 1)))
 .nil) .nil)
 (.cons (.ret (.int 0))
 .nil))
noncomputable def Z4J:Def:=⟨"_law_cell_at",["_law_script","_law_k"],["_law_script","_law_k"],2,Z5G,[]⟩
noncomputable def Z9U:Sms:=(.cons (.ret (.band (.isin (.loc 0) .int) (.not (.isin (.loc 0) .bool))))
 .nil)
noncomputable def Z8N:Def:=⟨"_law_whole",["_law_found"],["_law_found"],1,Z9U,[]⟩
noncomputable def Z3a:Sms:=(.cons (.asg 1 (.str " !\"#$&'()*+,-./0123456789:;<=>?@ABCDEFGHIJKLMNOPQRSTUVWXYZ[\\]^_`"))
 (.cons (.asg 1 (.bin .add (.loc 1) (.str "abcdefghijklmnopqrstuvwxyz{|}~\n\t")))
 (.cons (.ret (.sub (.loc 1) (.bin .mod (.loc 0) (.int 96))))
 .nil)))
noncomputable def Z4K:Def:=⟨"_law_sign_by",["_law_cell"],["_law_cell","_law_some"],2,Z3a,[]⟩
noncomputable def Z14:Ex:=(.call "_law_sign_by" (.cons (.bin .add (.loc 0) (.bin .mul (.loc 4) (.loc 1))) .nil))
noncomputable def Z15:Ex:=(.me .join (.str "") (.slice (.loc 3) (.some (.bin .mul (.loc 5) (.loc 2))) (.some (.bin .add (.bin .mul (.loc 5) (.loc 2)) (.loc 2)))))
noncomputable def Z1m:Sms:=(.cons (.asg 1 (.sub (.list (.cons (.int 1) (.cons (.int 5) (.cons (.int 7) (.cons (.int 11) (.cons (.int 13) (.cons (.int 17) (.cons (.int 19) (.cons (.int 23) .nil))))))))) (.bin .mod (.bin .fdiv (.loc 0) (.int 96)) (.int 8))))
 (.cons (.asg 2 (.int 1))
 (.cons (.ifte (.cmp .eq (.bin .mod (.bin .fdiv (.loc 0) (.int 768)) (.int 4)) (.int 1)) (.cons (.asg 2 (.bin .add (.bin .add (.int 2) (.bin .mod (.bin .fdiv (.loc 0) (.int 3072)) (.int 8))) (.bin .mul (.int 10) (.bin .mod (.bin .fdiv (.loc 0) (.int 24576)) (.int 2)))))
 .nil) .nil)
 (.cons (.asg 3 (.comp Z14 4 (.range1 (.bin .mul (.int 5) (.loc 2))) .nil))
 (.cons (.ret (.comp Z15 5 (.range1 (.int 5)) .nil))
 .nil)))))
noncomputable def Z2A:Def:=⟨"_law_letters",["_law_cell"],["_law_cell","_law_gap","_law_size","_law_signs"],6,Z1m,[]⟩
noncomputable def Z2h:Sms:=(.cons (.ifte (.cmp .eq (.bin .mod (.loc 1) (.int 2)) (.int 1)) (.cons (.asg 2 (.bin .add (.sub (.loc 0) (.loc 3)) (.loc 2)))
 .nil) .nil)
 (.cons (.asg 1 (.bin .fdiv (.loc 1) (.int 2)))
 .nil))
noncomputable def Z5H:Sms:=(.cons (.asg 2 (.str ""))
 (.cons (.for1 3 (.range1 (.int 4)) Z2h)
 (.cons (.ret (.loc 2))
 .nil)))
noncomputable def Z4L:Def:=⟨"_law_some_of",["_law_letters_here","_law_mask"],["_law_letters_here","_law_mask","_law_signs","_law_k"],4,Z5H,[]⟩
noncomputable def Z2i:Sms:=(.cons (.asg 4 (.bin .mod (.bin .add (.bin .mul (.loc 4) (.int 48271)) (.int 11)) (.int 2147483647)))
 (.cons (.asg 6 (.sub (.loc 2) (.bin .mod (.bin .fdiv (.loc 4) (.int 7)) (.bi .len (.loc 2)))))
 (.cons (.asg 3 (.bin .add (.loc 3) (.sub (.loc 6) (.bin .mod (.bin .fdiv (.loc 4) (.int 700)) (.bi .len (.loc 6))))))
 .nil)))
noncomputable def Z5I:Sms:=(.cons (.asg 3 (.str ""))
 (.cons (.asg 4 (.bin .mod (.loc 0) (.int 2147483647)))
 (.cons (.for1 5 (.range1 (.loc 1)) Z2i)
 (.cons (.ret (.loc 3))
 .nil))))
noncomputable def Z4M:Def:=⟨"_law_text_by",["_law_cell","_law_size","_law_letters_here"],["_law_cell","_law_size","_law_letters_here","_law_made","_law_number","_law_k","_law_group"],7,Z5I,[]⟩
noncomputable def Z3R:Ex:=(.call "_law_over" (.cons (.loc 2) .nil))
noncomputable def Z8O:Sms:=(.cons (.ifte (.cmp .eq (.sub (.loc 0) (.int 0)) (.str "one")) (.cons (.ret (.int 0))
 .nil) .nil)
 (.cons (.asg 1 (.sub (.list (.cons (.list (.cons (.sub (.loc 0) (.int 1)) .nil)) (.cons (.sub (.loc 0) (.int 1)) .nil))) (.bi .int (.cmp .isin (.sub (.loc 0) (.int 0)) (.list (.cons (.str "row") (.cons (.str "or") .nil)))))))
 (.cons (.ret (.bin .add (.bi .int (.cmp .eq (.sub (.loc 0) (.int 0)) (.str "many"))) (.bi .max (.bin .add (.list (.cons (.int 0) .nil)) (.comp Z3R 2 (.val (.loc 1)) .nil)))))
 .nil)))
noncomputable def Zc8:Def:=⟨"_law_over",["_law_pattern"],["_law_pattern","_law_parts"],3,Z8O,[]⟩
noncomputable def Z9V:Sms:=(.cons (.asg 4 (.bin .mod (.loc 1) (.int 10)))
 (.cons (.asg 5 (.bin .fdiv (.loc 1) (.int 10)))
 (.cons (.ifte (.band (.cmp .gt (.loc 4) (.int 5)) (.band (.cmp .gt (.loc 3) (.int 0)) (.cmp .lt (.bi .len (.loc 0)) (.int 8)))) (.cons (.expr (.me .append (.loc 0) (.tup (.cons (.str "one") (.cons (.call "_law_some_of" (.cons (.loc 2) (.cons (.bin .add (.int 1) (.bin .mod (.loc 5) (.int 15))) .nil))) .nil)))))
 (.cons (.ret (.bin .sub (.loc 3) (.int 1)))
 .nil)) .nil)
 (.cons (.ifte (.band (.cmp .eq (.loc 4) (.int 0)) (.cmp .lt (.bi .len (.loc 0)) (.int 8))) (.cons (.expr (.me .append (.loc 0) (.tup (.cons (.str "row") (.cons (.list .nil) .nil)))))
 .nil) (.cons (.ifte (.band (.cmp .eq (.loc 4) (.int 1)) (.band (.loc 0) (.cmp .lt (.call "_law_over" (.cons (.sub (.loc 0) (.neg 1)) .nil)) (.int 2)))) (.cons (.expr (.me .append (.loc 0) (.tup (.cons (.str "many") (.cons (.pop (.loc 0)) .nil)))))
 .nil) (.cons (.ifte (.band (.cmp .eq (.loc 4) (.int 2)) (.loc 0)) (.cons (.expr (.me .append (.loc 0) (.tup (.cons (.str "maybe") (.cons (.pop (.loc 0)) .nil)))))
 .nil) (.cons (.ifte (.band (.cmp .gt (.loc 4) (.int 2)) (.cmp .gt (.bi .len (.loc 0)) (.int 1))) (.cons (.asg 6 (.pop (.loc 0)))
 (.cons (.asg 7 (.list (.cons (.pop (.loc 0)) (.cons (.loc 6) .nil))))
 (.cons (.ifte (.band (.cmp .eq (.bin .mod (.loc 5) (.int 3)) (.int 1)) (.loc 0)) (.cons (.asg 7 (.bin .add (.list (.cons (.pop (.loc 0)) .nil)) (.loc 7)))
 .nil) .nil)
 (.cons (.expr (.me .append (.loc 0) (.tup (.cons (.sub (.list (.cons (.str "row") (.cons (.str "or") .nil))) (.bin .mod (.bin .fdiv (.loc 4) (.int 2)) (.int 2))) (.cons (.loc 7) .nil)))))
 .nil)))) .nil)
 .nil))
 .nil))
 .nil))
 (.cons (.ret (.loc 3))
 .nil)))))
noncomputable def Z4N:Def:=⟨"_law_grown",["_law_held","_law_cell","_law_letters_here","_law_room"],["_law_held","_law_cell","_law_letters_here","_law_room","_law_way","_law_more","_law_last","_law_parts"],8,Z9V,[]⟩
noncomputable def Z9W:Ex:=(.call "_law_sign_by" (.cons (.bin .add (.loc 0) (.bin .mul (.loc 2) (.loc 1))) .nil))
noncomputable def Zc9:Sms:=(.cons (.asg 1 (.sub (.list (.cons (.int 1) (.cons (.int 5) (.cons (.int 7) (.cons (.int 11) (.cons (.int 13) (.cons (.int 17) (.cons (.int 19) (.cons (.int 23) .nil))))))))) (.bin .mod (.bin .fdiv (.loc 0) (.int 96)) (.int 8))))
 (.cons (.ret (.comp Z9W 2 (.range1 (.bin .add (.int 2) (.bin .mod (.bin .fdiv (.loc 0) (.int 768)) (.int 11)))) .nil))
 .nil))
noncomputable def Zca:Def:=⟨"_law_wide",["_law_cell"],["_law_cell","_law_gap"],3,Zc9,[]⟩
noncomputable def Zax:Ex:=(.tup (.cons (.str "one") (.cons (.loc 10) .nil)))
noncomputable def Z4O:Sms:=(.cons (.asg 5 (.bin .mod (.bin .add (.bin .mul (.loc 5) (.int 48271)) (.int 11)) (.int 2147483647)))
 (.cons (.asg 8 (.bin .mod (.bin .fdiv (.loc 5) (.int 7)) (.bin .add (.loc 4) (.int 1))))
 (.cons (.ifte (.cmp .eq (.bin .mod (.call "_law_cell_at" (.cons (.loc 0) (.cons (.int 4) .nil))) (.int 3)) (.int 1)) (.cons (.asg 8 (.bin .sub (.loc 4) (.bin .fdiv (.loc 8) (.int 3))))
 .nil) .nil)
 (.cons (.asg 9 (.call "_law_text_by" (.cons (.loc 5) (.cons (.loc 8) (.cons (.loc 1) .nil)))))
 (.cons (.expr (.me .append (.loc 6) (.tup (.cons (.str "row") (.cons (.comp Zax 10 (.val (.loc 9)) .nil) .nil)))))
 .nil)))))
noncomputable def Zed:Sms:=(.cons (.asg 1 (.call "_law_wide" (.cons (.call "_law_cell_at" (.cons (.loc 0) (.cons (.int 20) .nil))) .nil)))
 (.cons (.asg 2 (.bin .mod (.call "_law_cell_at" (.cons (.loc 0) (.cons (.int 2) .nil))) (.int 4)))
 (.cons (.asg 3 (.bin .add (.int 1) (.bin .mod (.bin .fdiv (.call "_law_cell_at" (.cons (.loc 0) (.cons (.int 2) .nil))) (.int 4)) (.sub (.list (.cons (.int 8) (.cons (.int 8) (.cons (.int 3) (.cons (.int 58) .nil))))) (.loc 2)))))
 (.cons (.asg 4 (.sub (.list (.cons (.int 6) (.cons (.int 6) (.cons (.min2 (.int 40) (.bin .fdiv (.int 58) (.loc 3))) (.cons (.min2 (.int 40) (.bin .fdiv (.int 58) (.loc 3))) .nil))))) (.loc 2)))
 (.cons (.asg 5 (.bin .mod (.call "_law_cell_at" (.cons (.loc 0) (.cons (.int 3) .nil))) (.int 2147483647)))
 (.cons (.asg 6 (.listM .nil))
 (.cons (.for1 7 (.range1 (.loc 3)) Z4O)
 (.cons (.ifte (.cmp .eq (.bin .mod (.loc 2) (.int 2)) (.int 1)) (.cons (.ret (.list (.cons (.tup (.cons (.str "or") (.cons (.fz 6) .nil))) .nil)))
 .nil) .nil)
 (.cons (.ret (.fz 6))
 .nil)))))))))
noncomputable def Z8P:Def:=⟨"_law_words",["_law_script"],["_law_script","_law_letters_here","_law_shape","_law_count","_law_most","_law_number","_law_held","_law_k","_law_size","_law_signs"],11,Zed,[]⟩
noncomputable def Zay:Ex:=(.tup (.cons (.str "one") (.cons (.loc 10) .nil)))
noncomputable def Z4P:Sms:=(.cons (.asg 3 (.bin .mod (.bin .add (.bin .mul (.loc 3) (.int 48271)) (.int 11)) (.int 2147483647)))
 (.cons (.asg 6 (.call "_law_text_by" (.cons (.loc 3) (.cons (.bin .add (.int 3) (.bin .mod (.bin .fdiv (.loc 3) (.int 7)) (.int 4))) (.cons (.loc 2) .nil)))))
 (.cons (.expr (.me .append (.loc 4) (.tup (.cons (.str "row") (.cons (.comp Zay 10 (.val (.loc 6)) .nil) .nil)))))
 .nil)))
noncomputable def Z5J:Ex:=(.tup (.cons (.str "one") (.cons (.loc 11) .nil)))
noncomputable def Z4Q:Sms:=(.cons (.asg 9 (.call "_law_grown" (.cons (.loc 7) (.cons (.call "_law_cell_at" (.cons (.loc 0) (.cons (.bin .add (.int 21) (.loc 5)) .nil))) (.cons (.loc 1) (.cons (.loc 9) .nil))))))
 .nil)
noncomputable def d_loopsB:Sms:=(.cons (.asg 2 (.slice (.bi .list (.me .join (.str "") (.slice (.loc 1) .none (.some (.int 4))))) .none (.some (.int 12))))
 (.cons (.asg 3 (.bin .mod (.call "_law_cell_at" (.cons (.loc 0) (.cons (.int 3) .nil))) (.int 2147483647)))
 (.cons (.asg 4 (.listM .nil))
 (.cons (.for1 5 (.range1 (.bin .add (.int 1) (.bin .mod (.call "_law_cell_at" (.cons (.loc 0) (.cons (.int 2) .nil))) (.int 6)))) Z4P)
 (.cons (.asg 7 (.listM .nil))
 (.cons (.ifte (.cmp .eq (.bin .mod (.bin .fdiv (.call "_law_cell_at" (.cons (.loc 0) (.cons (.int 2) .nil))) (.int 6)) (.int 2)) (.int 1)) (.cons (.asg 6 (.call "_law_text_by" (.cons (.call "_law_cell_at" (.cons (.loc 0) (.cons (.int 21) .nil))) (.cons (.bin .add (.int 1) (.bin .mod (.call "_law_cell_at" (.cons (.loc 0) (.cons (.int 22) .nil))) (.int 12))) (.cons (.loc 2) .nil)))))
 (.cons (.asg 8 (.tup (.cons (.str "row") (.cons (.comp Z5J 11 (.val (.loc 6)) .nil) .nil))))
 (.cons (.expr (.me .append (.loc 7) (.sub (.list (.cons (.tup (.cons (.str "many") (.cons (.loc 8) .nil))) (.cons (.tup (.cons (.str "maybe") (.cons (.loc 8) .nil))) .nil))) (.bi .int (.cmp .eq (.bin .mod (.call "_law_cell_at" (.cons (.loc 0) (.cons (.int 23) .nil))) (.int 3)) (.int 0))))))
 .nil))) (.cons (.asg 9 (.int 4))
 (.cons (.for1 5 (.range1 (.int 8)) Z4Q)
 (.cons (.asg 7 (.slice (.loc 7) .none (.some (.int 2))))
 .nil))))
 (.cons (.ifte (.cmp .eq (.bin .mod (.bin .fdiv (.call "_law_cell_at" (.cons (.loc 0) (.cons (.int 2) .nil))) (.int 12)) (.int 2)) (.int 1)) (.cons (.ret (.bin .add (.fz 7) (.fz 4)))
 .nil) .nil)
 (.cons (.ret (.bin .add (.fz 4) (.fz 7)))
 .nil))))))))
noncomputable def Z8Q:Def:=⟨"_law_loops",["_law_script","_law_letters_here"],["_law_script","_law_letters_here","_law_pool","_law_number","_law_held","_law_k","_law_signs","_law_loops_here","_law_loop","_law_room"],12,d_loopsB,[]⟩
noncomputable def Z6E:Sms:=(.cons (.asg 6 (.call "_law_cell_at" (.cons (.loc 0) (.cons (.bin .add (.int 3) (.loc 5)) .nil))))
 (.cons (.asg 7 (.tup (.cons (.str "one") (.cons (.call "_law_some_of" (.cons (.loc 1) (.cons (.bin .add (.int 1) (.bin .mod (.bin .fdiv (.loc 6) (.int 8)) (.int 15))) .nil))) .nil))))
 (.cons (.asg 8 (.tup (.cons (.str "one") (.cons (.call "_law_some_of" (.cons (.loc 1) (.cons (.bin .add (.int 1) (.bin .mod (.bin .fdiv (.loc 6) (.int 120)) (.int 15))) .nil))) .nil))))
 (.cons (.asg 9 (.tup (.cons (.str "row") (.cons (.list (.cons (.loc 7) (.cons (.loc 8) .nil))) .nil))))
 (.cons (.asg 10 (.list (.cons (.tup (.cons (.str "row") (.cons (.list .nil) .nil))) (.cons (.loc 7) (.cons (.tup (.cons (.str "many") (.cons (.loc 7) .nil))) (.cons (.tup (.cons (.str "maybe") (.cons (.loc 7) .nil))) (.cons (.loc 9) (.cons (.tup (.cons (.str "or") (.cons (.list (.cons (.loc 7) (.cons (.loc 8) .nil))) .nil))) .nil))))))))
 (.cons (.asg 10 (.bin .add (.loc 10) (.list (.cons (.tup (.cons (.str "maybe") (.cons (.tup (.cons (.str "row") (.cons (.list (.cons (.loc 7) (.cons (.tup (.cons (.str "many") (.cons (.loc 8) .nil))) .nil))) .nil))) .nil))) (.cons (.tup (.cons (.str "or") (.cons (.list (.cons (.loc 9) (.cons (.loc 7) .nil))) .nil))) .nil)))))
 (.cons (.asg 11 (.sub (.list (.cons (.int 0) (.cons (.int 1) (.cons (.int 1) (.cons (.int 1) (.cons (.int 2) (.cons (.int 2) (.cons (.int 2) (.cons (.int 3) .nil))))))))) (.bin .mod (.loc 6) (.int 8))))
 (.cons (.expr (.me .append (.loc 4) (.sub (.loc 10) (.sub (.list (.cons (.int 0) (.cons (.bin .mod (.loc 6) (.int 8)) .nil))) (.bi .int (.cmp .le (.loc 11) (.loc 3)))))))
 (.cons (.asg 3 (.bin .sub (.loc 3) (.sub (.list (.cons (.int 0) (.cons (.loc 11) .nil))) (.bi .int (.cmp .le (.loc 11) (.loc 3))))))
 .nil)))))))))
noncomputable def Zgo:Sms:=(.cons (.asg 2 (.call "_law_cell_at" (.cons (.loc 0) (.cons (.int 2) .nil))))
 (.cons (.asg 3 (.bin .sub (.int 6) (.bin .mul (.int 2) (.bin .mod (.bin .fdiv (.loc 2) (.int 36)) (.int 2)))))
 (.cons (.asg 4 (.listM .nil))
 (.cons (.for1 5 (.range1 (.bin .add (.int 3) (.bin .mod (.loc 2) (.int 6)))) Z6E)
 (.cons (.asg 12 (.tup (.cons (.sub (.list (.cons (.str "row") (.cons (.str "or") .nil))) (.bin .mod (.bin .fdiv (.loc 2) (.int 6)) (.int 2))) (.cons (.fz 4) .nil))))
 (.cons (.asg 12 (.sub (.list (.cons (.loc 12) (.cons (.tup (.cons (.str "many") (.cons (.loc 12) .nil))) (.cons (.tup (.cons (.str "maybe") (.cons (.loc 12) .nil))) .nil)))) (.bin .mod (.bin .fdiv (.loc 2) (.int 12)) (.int 3))))
 (.cons (.asg 13 (.tup (.cons (.str "row") (.cons (.list (.cons (.tup (.cons (.str "one") (.cons (.sub (.sub (.loc 1) (.int 0)) (.int 0)) .nil))) (.cons (.tup (.cons (.str "one") (.cons (.sub (.sub (.loc 1) (.int 1)) (.int 0)) .nil))) .nil))) .nil))))
 (.cons (.ret (.sub (.list (.cons (.list (.cons (.loc 12) .nil)) (.cons (.list (.cons (.loc 12) .nil)) (.cons (.list (.cons (.loc 13) (.cons (.loc 12) .nil))) (.cons (.list (.cons (.loc 12) (.cons (.loc 13) .nil))) .nil))))) (.bin .add (.bin .mul (.bin .mod (.bin .fdiv (.loc 2) (.int 36)) (.int 2)) (.int 2)) (.bin .mod (.bin .fdiv (.loc 2) (.int 72)) (.int 2)))))
 .nil))))))))
noncomputable def Zcb:Def:=⟨"_law_long",["_law_script","_law_letters_here"],["_law_script","_law_letters_here","_law_cell","_law_room","_law_parts","_law_k","_law_drawn","_law_leaf","_law_other","_law_both","_law_some","_law_size","_law_whole_here","_law_short"],14,Zgo,[]⟩
noncomputable def Z3D:Sms:=(.cons (.asg 3 (.call "_law_grown" (.cons (.loc 2) (.cons (.call "_law_cell_at" (.cons (.loc 0) (.cons (.bin .add (.int 2) (.loc 4)) .nil))) (.cons (.loc 1) (.cons (.loc 3) .nil))))))
 .nil)
noncomputable def Z8R:Sms:=(.cons (.ifte (.cmp .eq (.bin .mod (.call "_law_cell_at" (.cons (.loc 0) (.cons (.int 1) .nil))) (.int 4)) (.int 1)) (.cons (.ret (.call "_law_words" (.cons (.loc 0) .nil)))
 .nil) .nil)
 (.cons (.ifte (.cmp .eq (.bin .mod (.call "_law_cell_at" (.cons (.loc 0) (.cons (.int 1) .nil))) (.int 4)) (.int 3)) (.cons (.ret (.call "_law_loops" (.cons (.loc 0) (.cons (.loc 1) .nil))))
 .nil) .nil)
 (.cons (.ifte (.cmp .eq (.bin .mod (.call "_law_cell_at" (.cons (.loc 0) (.cons (.int 1) .nil))) (.int 8)) (.int 4)) (.cons (.ret (.call "_law_long" (.cons (.loc 0) (.cons (.loc 1) .nil))))
 .nil) .nil)
 (.cons (.asg 2 (.listM .nil))
 (.cons (.asg 3 (.int 6))
 (.cons (.for1 4 (.range1 (.int 12)) Z3D)
 (.cons (.ifte (.not (.loc 2)) (.cons (.expr (.me .append (.loc 2) (.tup (.cons (.str "one") (.cons (.sub (.loc 1) (.int 0)) .nil)))))
 .nil) .nil)
 (.cons (.ret (.fz 2))
 .nil))))))))
noncomputable def Z3b:Def:=⟨"_law_patterns",["_law_script","_law_letters_here"],["_law_script","_law_letters_here","_law_held","_law_room","_law_k"],5,Z8R,[]⟩
noncomputable def Z9X:Ex:=(.bin .add (.loc 8) (.int 1))
noncomputable def Z6F:Sms:=(.cons (.asg 2 (.call "_law_ends" (.cons (.loc 4) (.cons (.loc 1) (.cons (.loc 2) .nil)))))
 .nil)
noncomputable def Zee:Ex:=(.loc 9)
noncomputable def Z6G:Sms:=(.cons (.asg 6 (.call "_law_ends" (.cons (.loc 4) (.cons (.loc 1) (.cons (.loc 2) .nil)))))
 (.cons (.asg 5 (.bin .add (.loc 5) (.comp Zee 9 (.val (.loc 6)) (.cons (.cmp .notin (.loc 9) (.loc 5)) .nil))))
 .nil))
noncomputable def Zcc:Ex:=(.loc 10)
noncomputable def Z3S:Sms:=(.cons (.asg 6 (.call "_law_ends" (.cons (.sub (.loc 0) (.int 1)) (.cons (.loc 1) (.cons (.loc 7) .nil)))))
 (.cons (.asg 7 (.comp Zcc 10 (.val (.loc 6)) (.cons (.cmp .notin (.loc 10) (.loc 5)) .nil)))
 (.cons (.asg 5 (.bin .add (.loc 5) (.loc 7)))
 (.cons (.ifte (.cmp .eq (.loc 3) (.str "maybe")) (.cons .brk
 .nil) .nil)
 .nil))))
noncomputable def Z3c:Sms:=(.cons (.asg 3 (.sub (.loc 0) (.int 0)))
 (.cons (.ifte (.cmp .eq (.loc 3) (.str "one")) (.cons (.ret (.comp Z9X 8 (.val (.loc 2)) (.cons (.band (.cmp .lt (.loc 8) (.bi .len (.loc 1))) (.cmp .isin (.sub (.loc 1) (.loc 8)) (.sub (.loc 0) (.int 1)))) .nil)))
 .nil) .nil)
 (.cons (.ifte (.cmp .eq (.loc 3) (.str "row")) (.cons (.for1 4 (.val (.sub (.loc 0) (.int 1))) Z6F)
 (.cons (.ret (.loc 2))
 .nil)) .nil)
 (.cons (.asg 5 (.list .nil))
 (.cons (.ifte (.cmp .eq (.loc 3) (.str "or")) (.cons (.for1 4 (.val (.sub (.loc 0) (.int 1))) Z6G)
 (.cons (.ret (.loc 5))
 .nil)) .nil)
 (.cons (.asg 5 (.bi .list (.loc 2)))
 (.cons (.asg 7 (.loc 2))
 (.cons (.while (.loc 7) Z3S)
 (.cons (.ret (.loc 5))
 .nil)))))))))
noncomputable def Z4R:Def:=⟨"_law_ends",["_law_pattern","_law_signs","_law_begins"],["_law_pattern","_law_signs","_law_begins","_law_kind","_law_part","_law_found","_law_more","_law_fresh"],11,Z3c,[]⟩
noncomputable def Zcd:Sms:=(.cons (.ifte (.cmp .is (.loc 1) .none) (.cons (.ret (.cmp .is (.loc 0) .none))
 .nil) .nil)
 (.cons (.ret (.band (.call "_law_whole" (.cons (.loc 0) .nil)) (.cmp .eq (.loc 0) (.loc 1))))
 .nil))
noncomputable def Zce:Def:=⟨"_law_same",["_law_found","_law_due"],["_law_found","_law_due"],2,Zcd,[]⟩
noncomputable def Z22:Sms:=(.cons (.ifte (.bor (.not (.isin (.loc 2) .tuple)) (.cmp .ne (.bi .len (.loc 2)) (.int 3))) (.cons (.ret (.bool false))
 .nil) .nil)
 (.cons (.ifte (.bor (.not (.call "_law_same" (.cons (.sub (.loc 2) (.int 0)) (.cons (.sub (.loc 3) (.int 0)) .nil)))) (.bor (.not (.call "_law_same" (.cons (.sub (.loc 2) (.int 1)) (.cons (.sub (.loc 3) (.int 1)) .nil)))) (.not (.call "_law_same" (.cons (.sub (.loc 2) (.int 2)) (.cons (.sub (.loc 3) (.int 2)) .nil)))))) (.cons (.ret (.bool false))
 .nil) .nil)
 .nil))
noncomputable def Z7M:Sms:=(.cons (.ifte (.bor (.not (.isin (.loc 0) .list)) (.cmp .ne (.bi .len (.loc 0)) (.bi .len (.loc 1)))) (.cons (.ret (.bool false))
 .nil) .nil)
 (.cons (.forZ [2,3] (.loc 0) (.loc 1) Z22)
 (.cons (.ret (.bool true))
 .nil)))
noncomputable def Z6H:Def:=⟨"_law_pieces",["_law_found","_law_due"],["_law_found","_law_due","_law_piece","_law_one"],4,Z7M,[]⟩
noncomputable def Z3d:Sms:=(.cons (.ifte (.cmp .gt (.loc 7) (.loc 5)) (.cons (.asg 5 (.loc 7))
 (.cons (.asg 4 (.tup (.cons (.loc 6) (.cons (.loc 3) (.cons (.loc 7) .nil)))))
 .nil)) .nil)
 .nil)
noncomputable def Z3e:Sms:=(.cons (.for1 7 (.val (.call "_law_ends" (.cons (.sub (.loc 0) (.loc 6)) (.cons (.loc 1) (.cons (.list (.cons (.loc 3) .nil)) .nil))))) Z3d)
 .nil)
noncomputable def Z3f:Sms:=(.cons (.asg 4 (.tup (.cons .none (.cons (.loc 3) (.cons (.bin .add (.loc 3) (.int 1)) .nil)))))
 (.cons (.asg 5 (.loc 3))
 (.cons (.for1 6 (.range1 (.bi .len (.loc 0))) Z3e)
 (.cons (.expr (.me .append (.loc 2) (.loc 4)))
 (.cons (.asg 3 (.sub (.loc 4) (.int 2)))
 .nil)))))
noncomputable def Z7N:Sms:=(.cons (.asg 2 (.listM .nil))
 (.cons (.asg 3 (.int 0))
 (.cons (.while (.cmp .lt (.loc 3) (.bi .len (.loc 1))) Z3f)
 (.cons (.ret (.fz 2))
 .nil))))
noncomputable def Z6I:Def:=⟨"_law_trying",["_law_patterns_here","_law_text"],["_law_patterns_here","_law_text","_law_due","_law_at","_law_found","_law_far","_law_number","_law_end"],8,Z7N,[]⟩
noncomputable def Z0Z:Ex:=(.call "_law_sample" (.cons (.loc 5) (.cons (.loc 1) .nil)))
noncomputable def d_sampleB:Sms:=(.cons (.asgI (.loc 1) (.int 0) (.bin .mod (.bin .add (.bin .mul (.sub (.loc 1) (.int 0)) (.int 48271)) (.int 11)) (.int 2147483647)))
 (.cons (.asg 2 (.bin .fdiv (.sub (.loc 1) (.int 0)) (.int 7)))
 (.cons (.asg 3 (.sub (.loc 0) (.int 0)))
 (.cons (.ifte (.cmp .eq (.loc 3) (.str "one")) (.cons (.ret (.sub (.sub (.loc 0) (.int 1)) (.bin .mod (.loc 2) (.bi .len (.sub (.loc 0) (.int 1))))))
 .nil) .nil)
 (.cons (.asg 4 (.list (.cons (.sub (.loc 0) (.int 1)) .nil)))
 (.cons (.ifte (.cmp .eq (.loc 3) (.str "row")) (.cons (.asg 4 (.sub (.loc 0) (.int 1)))
 .nil) .nil)
 (.cons (.ifte (.cmp .eq (.loc 3) (.str "or")) (.cons (.asg 4 (.list (.cons (.sub (.sub (.loc 0) (.int 1)) (.bin .mod (.loc 2) (.bi .len (.sub (.loc 0) (.int 1))))) .nil)))
 .nil) .nil)
 (.cons (.ifte (.cmp .eq (.loc 3) (.str "maybe")) (.cons (.asg 4 (.slice (.loc 4) .none (.some (.bin .mod (.loc 2) (.int 2)))))
 .nil) .nil)
 (.cons (.ifte (.cmp .eq (.loc 3) (.str "many")) (.cons (.asg 4 (.bin .mul (.loc 4) (.bin .mod (.loc 2) (.int 3))))
 .nil) .nil)
 (.cons (.ret (.slice (.me .join (.str "") (.comp Z0Z 5 (.val (.loc 4)) .nil)) .none (.some (.int 24))))
 .nil))))))))))
noncomputable def Z2B:Def:=⟨"_law_sample",["_law_pattern","_law_state"],["_law_pattern","_law_state","_law_some","_law_kind","_law_parts"],6,d_sampleB,[]⟩
noncomputable def Z2C:Sms:=(.cons (.asg 3 (.bin .add (.loc 3) (.call "_law_sample" (.cons (.sub (.loc 1) (.bin .mod (.bin .fdiv (.sub (.loc 4) (.int 0)) (.int 7)) (.bi .len (.loc 1)))) (.cons (.loc 4) .nil)))))
 (.cons (.ifte (.cmp .eq (.bin .mod (.bin .fdiv (.sub (.loc 4) (.int 0)) (.int 80)) (.int 4)) (.int 1)) (.cons (.asg 3 (.bin .add (.loc 3) (.sub (.loc 2) (.bin .mod (.bin .fdiv (.sub (.loc 4) (.int 0)) (.int 400)) (.int 5)))))
 .nil) .nil)
 .nil))
noncomputable def d_mixedB:Sms:=(.cons (.asg 3 (.call "_law_text_by" (.cons (.call "_law_cell_at" (.cons (.loc 0) (.cons (.int 15) .nil))) (.cons (.bin .mod (.call "_law_cell_at" (.cons (.loc 0) (.cons (.int 14) .nil))) (.int 10)) (.cons (.loc 2) .nil)))))
 (.cons (.asg 4 (.listM (.cons (.bin .mod (.call "_law_cell_at" (.cons (.loc 0) (.cons (.int 16) .nil))) (.int 2147483647)) .nil)))
 (.cons (.ifte (.cmp .eq (.bin .mod (.bin .fdiv (.call "_law_cell_at" (.cons (.loc 0) (.cons (.int 14) .nil))) (.int 10)) (.int 8)) (.int 1)) (.cons (.asg 5 (.call "_law_sample" (.cons (.sub (.loc 1) (.bin .mod (.bin .fdiv (.sub (.loc 4) (.int 0)) (.int 7)) (.bi .len (.loc 1)))) (.cons (.loc 4) .nil))))
 (.cons (.ret (.bin .add (.slice (.bin .mul (.loc 5) (.int 100)) .none (.some (.bin .mod (.call "_law_cell_at" (.cons (.loc 0) (.cons (.int 17) .nil))) (.int 70)))) (.loc 3)))
 .nil)) .nil)
 (.cons (.for1 6 (.range1 (.bin .mod (.call "_law_cell_at" (.cons (.loc 0) (.cons (.int 17) .nil))) (.int 4))) Z2C)
 (.cons (.ret (.slice (.loc 3) .none (.some (.int 80))))
 .nil)))))
noncomputable def Z8S:Def:=⟨"_law_mixed",["_law_script","_law_patterns_here","_law_letters_here"],["_law_script","_law_patterns_here","_law_letters_here","_law_text","_law_state","_law_sample_here","_law_k"],7,d_mixedB,[]⟩
noncomputable def Zfa:Sms:=(.cons (.asg 1 (.call "_law_letters" (.cons (.call "_law_cell_at" (.cons (.loc 0) (.cons (.int 0) .nil))) .nil)))
 (.cons (.asg 2 (.call "_law_patterns" (.cons (.loc 0) (.cons (.loc 1) .nil))))
 (.cons (.asg 3 (.call "_law_mixed" (.cons (.loc 0) (.cons (.loc 2) (.cons (.loc 1) .nil)))))
 (.cons (.asg 4 (.call "tried" (.cons (.loc 2) (.cons (.loc 3) .nil))))
 (.cons (.asg 5 (.call "_law_trying" (.cons (.loc 2) (.cons (.loc 3) .nil))))
 (.cons (.ifte (.not (.call "_law_pieces" (.cons (.loc 4) (.cons (.loc 5) .nil)))) (.cons (.ret (.bool false))
 .nil) .nil)
 (.cons (.expr (.me .append (.loc 4) .none))
 (.cons (.ret (.band (.call "_law_pieces" (.cons (.call "tried" (.cons (.loc 2) (.cons (.loc 3) .nil))) (.cons (.loc 5) .nil))) (.cmp .eq (.loc 2) (.call "_law_patterns" (.cons (.loc 0) (.cons (.loc 1) .nil))))))
 .nil))))))))
noncomputable def Zhq:Def:=⟨"law",["_law_script"],["_law_script","_law_letters_here","_law_patterns_here","_law_text","_law_found","_law_due"],6,Zfa,[]⟩
noncomputable def defs:List Def:=[Z9P,Z9Q,Z2x,Z3Q,Z1w,Z0j,Z1z,Z9S,Z4H,Z1c,Z6D,Z4J,Z8N,Z4K,Z2A,Z4L,Z4M,Zc8,Z4N,Zca,Z8P,Z8Q,Zcb,Z3b,Z4R,Zce,Z6H,Z6I,Z2B,Z8S,Zhq]
theorem Z0B {F:Fn} {K:Nat} {d:Def} {args:List V} {σ τ:List O} {fl:Fl} {ρ:List (Option V)} (hl:args.length = d.params.length)
  (h:evSs F K d.body ⟨args.map some++List.replicate (d.slots - args.length) none,σ⟩ = .ok fl ⟨ρ,τ⟩)
  (hb:τ.length = σ.length ∨ fl.val.lo σ.length = false ∨ ∃ o ∈ τ.take σ.length,O.lo σ.length o = false):Z07 F K d args σ = .ok fl.val ⟨[],τ⟩:=by
 unfold Z07
 rw [if_pos hl,h]
 simp only [R.bind_ok]
 rcases hb with hb | hb | ⟨o,ho,hb⟩
 ·rw [← hb,List.take_length]
  split <;> rfl
 ·rw [hb]; rfl
 ·have:(τ.take σ.length).all (O.lo σ.length) = false:=by
   rw [List.all_eq_false]; exact ⟨o,ho,by rw [hb]; exact Bool.false_ne_true⟩
  rw [this,Bool.and_false]; rfl
theorem Z2j {α:Type} (σ L:List α) (i:Nat):(σ++L)[σ.length + i]? = L[i]?:=by rw [List.getElem?_append_right (Nat.le_add_right _ _),Nat.add_sub_cancel_left]
theorem Z2k {α:Type} (σ L:List α) (i:Nat) (x:α):(σ++L).set (σ.length + i) x = σ++L.set i x:=by rw [List.set_append_right _ _ (Nat.le_add_right _ _),Nat.add_sub_cancel_left]
theorem Z3E {n:Nat} {xs:List V} (h:∀ x ∈ xs,x.lo n = true):V.los n xs = true:=by
 induction xs with
 | nil=>exact Z09
 | cons x xs ih=>rw [Z02,h x (by simp),ih fun y hy=>h y (by simp [hy])]; rfl
theorem Z4S {n:Nat} {xs:List V} {x:V} (hx:x ∈ xs) (h:x.lo n = false):V.los n xs = false:=by
 induction xs with
 | nil=>cases hx
 | cons y xs ih=>
  rw [Z02]
  rcases List.mem_cons.mp hx with rfl | hx
  ·rw [h]; rfl
  ·rw [ih hx,Bool.and_false]
noncomputable def Lv (N:Nat) (ss bs:List V) (fi em:V) (es:List (Int × V)) (D:List O):List O :=
 .attrs [.ref (N + 1),.ref (N + 2),fi,.ref (N + 3),em] :: .lst ss :: .lst bs :: .idict es :: .priv :: D
section
variable (σ:List O) (ss bs:List V) (fi em:V) (es:List (Int × V)) (D:List O)
theorem lv0:(σ++Lv σ.length ss bs fi em es D)[σ.length]? = some (.attrs [.ref (σ.length + 1),.ref (σ.length + 2),fi,.ref (σ.length + 3),em]):=Z2j σ _ 0
theorem lv1:(σ++Lv σ.length ss bs fi em es D)[σ.length + 1]? = some (.lst ss):=Z2j σ _ 1
theorem lv2:(σ++Lv σ.length ss bs fi em es D)[σ.length + 2]? = some (.lst bs):=Z2j σ _ 2
theorem lv3:(σ++Lv σ.length ss bs fi em es D)[σ.length + 3]? = some (.idict es):=Z2j σ _ 3
theorem lvD (i:Nat):(σ++Lv σ.length ss bs fi em es D)[σ.length + 5 + i]? = D[i]?:=by rw [Nat.add_assoc,Z2j,Nat.add_comm 5 i]; rfl
theorem lvs1 (x:List V):(σ++Lv σ.length ss bs fi em es D).set (σ.length + 1) (.lst x) = σ++Lv σ.length x bs fi em es D:=Z2k σ _ 1 _
theorem lvs2 (x:List V):(σ++Lv σ.length ss bs fi em es D).set (σ.length + 2) (.lst x) = σ++Lv σ.length ss x fi em es D:=Z2k σ _ 2 _
theorem lvs3 (x:List (Int × V)):(σ++Lv σ.length ss bs fi em es D).set (σ.length + 3) (.idict x) = σ++Lv σ.length ss bs fi em x D:=Z2k σ _ 3 _
theorem lvsD (i:Nat) (x:O):(σ++Lv σ.length ss bs fi em es D).set (σ.length + 5 + i) x = σ++Lv σ.length ss bs fi em es (D.set i x):=by rw [Nat.add_assoc,Z2k,Nat.add_comm 5 i]; rfl
theorem lvsF (x:V):(σ++Lv σ.length ss bs fi em es D).set σ.length (.attrs [.ref (σ.length + 1),.ref (σ.length + 2),x,.ref (σ.length + 3),em]) = σ++Lv σ.length ss bs x em es D:=Z2k σ _ 0 _
theorem lvsE (x:V):(σ++Lv σ.length ss bs fi em es D).set σ.length (.attrs [.ref (σ.length + 1),.ref (σ.length + 2),fi,.ref (σ.length + 3),x]) = σ++Lv σ.length ss bs fi x es D:=Z2k σ _ 0 _
theorem Zef:(σ++Lv σ.length ss bs fi em es D).length = σ.length + 5 + D.length:=by rw [List.length_append]; simp only [Lv,List.length_cons]; lia
theorem Zgp (x:O):σ++Lv σ.length ss bs fi em es D++[x] = σ++Lv σ.length ss bs fi em es (D++[x]):=by rw [List.append_assoc]; rfl
end
theorem Z8T (F:Fn) (K C:Nat) (hC:clsF F = some (C:Int)) (σ:List O) (ss bs:List V) (fi em:V) (es:List (Int × V)) (D:List O) (s:List Nat) (h0:s ≠ []) (hd:s.eraseDups.length = s.length) (hl:s.length < 4000∧s.all (· < 128) = true) (h60:ss.length < 60) (hb:bs.length < 60) :
  Z07 F K Z2x [.inst C σ.length,.str s] (σ++Lv σ.length ss bs fi em es D) = .ok (.tup [.bool false,.lst [.int ss.length],.lst [.int ss.length]]) ⟨[],σ++Lv σ.length (ss++[.str s]) (bs++[.ref (σ.length + 5 + D.length)]) fi em es (D++[.idict []])⟩:=by
 have a0:=Z1M (C:=C) (k:=0) hC (lv0 σ ss bs fi em es D) rfl
 have a1:=Z1M (C:=C) (k:=0) hC (lv0 σ (ss++[.str s]) bs fi em es D) rfl
 have a2:=Z1M (C:=C) (k:=1) hC (lv0 σ (ss++[.str s]) bs fi em es D) rfl
 have l0:=Zb5 _ _ _ (lv1 σ ss bs fi em es D)
 have r0:=Z0x _ _ _ (lv1 σ ss bs fi em es D)
 have r1:=Z0x _ _ _ (lv2 σ (ss++[.str s]) bs fi em es D)
 have hsl:sizeLine = 16777216:=by decide
 have p0:∀ ρ,Z1H .append (.ref (σ.length + 1)) (.str s) ⟨ρ,σ++Lv σ.length ss bs fi em es D⟩ = .ok .none ⟨ρ,σ++Lv σ.length (ss++[.str s]) bs fi em es D⟩:=fun ρ=>by rw [Z2o _ _ _ _ _ (lv1 σ ss bs fi em es D) (by lia),lvs1]
 have p1:∀ ρ v,Z1H .append (.ref (σ.length + 2)) v ⟨ρ,σ++Lv σ.length (ss++[.str s]) bs fi em es (D++[.idict []])⟩ = .ok .none ⟨ρ,σ++Lv σ.length (ss++[.str s]) (bs++[v]) fi em es (D++[.idict []])⟩:=fun ρ v=>by rw [Z2o _ _ _ _ _ (lv2 σ (ss++[V.str s]) bs fi em es (D++[O.idict []])) (by lia),lvs2]
 have c0:(s == ([]:List Nat)) = false:=by cases s with | nil=>exact absurd rfl h0 | cons a b=>rfl
 have ls:Z0Q (.str s) = some (.int s.length):=by
  show (if s.length < 4000∧s.all (· < 128) = true then some (V.int s.eraseDups.length) else none) = _
  rw [if_pos hl,hd]
 have c1:decide ((s.length:Int) < (s.length:Int)) = false:=decide_eq_false (Int.lt_irrefl _)
 have c2:((ss.length:Int) == 60) = false:=by rw [beq_eq_false_iff_ne]; lia
 have e:evSs F K Z5E ⟨[some (.inst C σ.length),some (.str s),none],σ++Lv σ.length ss bs fi em es D⟩ = .ok (.ret (.tup [.bool false,.lst [.int ss.length],.lst [.int ss.length]])) ⟨[some (.inst C σ.length),some (.str s),some (.int ss.length)],σ++Lv σ.length (ss++[.str s]) (bs++[.ref (σ.length + 5 + D.length)]) fi em es (D++[.idict []])⟩:=by
  exact atS fun t=>t c0 ls rfl c1 a0 l0 rfl c2 a0 r0 (p0 _) a2 r1 (Zef _ _ _ _ _ _ _) (Zgp _ _ _ _ _ _ _ _) (p1 _ _) rfl
 have:=Z0B (d:=Z2x) (args:=[.inst C σ.length,.str s]) (F:=F) (K:=K) rfl e (.inr (.inr ⟨.lst (bs++[.ref (σ.length + 5 + D.length)]),?_,?_⟩))
 ·exact this
 ·refine List.mem_of_getElem? (i:=σ.length + 2) ?_
  rw [List.getElem?_take,if_pos (by rw [Zef]; lia),lv2]
 ·rw [Zef]
  exact Z4S (x:=.ref (σ.length + 5 + D.length)) (by simp) (by rw [Z0R]; exact decide_eq_false (Nat.lt_irrefl _))
theorem idx0 {α:Type} (xs:List α):Z0n xs 0 = xs[0]?:=Z0y xs (j:=0) (by lia)
theorem idx1 {α:Type} (xs:List α):Z0n xs 1 = xs[1]?:=Z0y xs (j:=1) (by lia)
theorem Z2D:((Str.ofString "one").cps.toList == (Str.ofString "one").cps.toList) = true:=beq_self_eq_true _
theorem Z2E:((Str.ofString "row").cps.toList == (Str.ofString "one").cps.toList) = false:=by decide +kernel
theorem Z2F:((Str.ofString "row").cps.toList == (Str.ofString "row").cps.toList) = true:=beq_self_eq_true _
theorem Zeg:((Str.ofString "row").cps.toList == (Str.ofString "or").cps.toList) = false:=by decide +kernel
theorem Z5K:((Str.ofString "row").cps.toList == (Str.ofString "many").cps.toList) = false:=by decide +kernel
theorem Z4T:((Str.ofString "row").cps.toList == (Str.ofString "maybe").cps.toList) = false:=by decide +kernel
theorem Z3T:((Str.ofString "or").cps.toList == (Str.ofString "one").cps.toList) = false:=by decide +kernel
theorem Z6J:((Str.ofString "or").cps.toList == (Str.ofString "row").cps.toList) = false:=by decide +kernel
theorem Z6K:((Str.ofString "or").cps.toList == (Str.ofString "or").cps.toList) = true:=beq_self_eq_true _
theorem Z7O:((Str.ofString "or").cps.toList == (Str.ofString "many").cps.toList) = false:=by decide +kernel
theorem Z5L:((Str.ofString "or").cps.toList == (Str.ofString "maybe").cps.toList) = false:=by decide +kernel
theorem Z23:((Str.ofString "many").cps.toList == (Str.ofString "one").cps.toList) = false:=by decide +kernel
theorem Z3g:((Str.ofString "many").cps.toList == (Str.ofString "row").cps.toList) = false:=by decide +kernel
theorem Z4U:((Str.ofString "many").cps.toList == (Str.ofString "or").cps.toList) = false:=by decide +kernel
theorem Z4V:((Str.ofString "many").cps.toList == (Str.ofString "many").cps.toList) = true:=beq_self_eq_true _
theorem Z3F:((Str.ofString "many").cps.toList == (Str.ofString "maybe").cps.toList) = false:=by decide +kernel
theorem Z1A:((Str.ofString "maybe").cps.toList == (Str.ofString "one").cps.toList) = false:=by decide +kernel
theorem Z2l:((Str.ofString "maybe").cps.toList == (Str.ofString "row").cps.toList) = false:=by decide +kernel
theorem Z3h:((Str.ofString "maybe").cps.toList == (Str.ofString "or").cps.toList) = false:=by decide +kernel
theorem Z3G:((Str.ofString "maybe").cps.toList == (Str.ofString "many").cps.toList) = false:=by decide +kernel
theorem Z2G:((Str.ofString "maybe").cps.toList == (Str.ofString "maybe").cps.toList) = true:=beq_self_eq_true _
abbrev Pt:=Glu.Pat Nat
abbrev Pts:=Glu.Pats Nat
mutual
noncomputable def enc:Pt→V
 | .one s=>.tup [.str (Str.ofString "one").cps.toList,.str s]
 | .row ps=>.tup [.str (Str.ofString "row").cps.toList,.lst (encs ps)]
 | .or ps=>.tup [.str (Str.ofString "or").cps.toList,.lst (encs ps)]
 | .many p=>.tup [.str (Str.ofString "many").cps.toList,enc p]
 | .maybe p=>.tup [.str (Str.ofString "maybe").cps.toList,enc p]
noncomputable def encs:Pts→List V
 | .nil=>[]
 | .cons p ps=>enc p :: encs ps
end
mutual
noncomputable def ht:Pt→Nat
 | .one _=>0
 | .row ps=>hts ps + 1
 | .or ps=>hts ps + 1
 | .many p=>ht p + 1
 | .maybe p=>ht p + 1
noncomputable def hts:Pts→Nat
 | .nil=>0
 | .cons p ps=>max (ht p) (hts ps)
end
noncomputable def pLen:Pts→Nat
 | .nil=>0
 | .cons _ ps=>pLen ps + 1
structure LeafOk (s:List Nat):Prop where
 ne:s ≠ []
 nd:s.Nodup
 lt:s.all (· < 128) = true
 len:s.length ≤ 76
mutual
noncomputable def Fine:Pt→Prop
 | .one s=>LeafOk s
 | .row ps=>pLen ps ≤ 64∧Z3K ps
 | .or ps=>pLen ps ≤ 64∧0 < pLen ps∧Z3K ps
 | .many p=>Fine p
 | .maybe p=>Fine p
noncomputable def Z3K:Pts→Prop
 | .nil=>True
 | .cons p ps=>Fine p∧Z3K ps
end
noncomputable def Z00 (l:List Nat):List V:=l.map fun n:Nat=>V.int (n:Int)
theorem Zeh (a b:List Nat):Z00 (a++b) = Z00 a++Z00 b:=List.map_append
theorem Z16 (a:List Nat):(Z00 a).length = a.length:=List.length_map ..
theorem Z1d (a b:List Nat) (h:a.length + b.length ≤ 10000):Z3p (.lst (Z00 a)) (.lst (Z00 b)) = some (.lst (Z00 (a++b))):=by
 rw [Zeh]; exact if_pos (by rw [Z16,Z16]; exact Nat.le_trans h (by decide))
noncomputable def dl (ws:List Nat):List (Int × V):=ws.map fun k:Nat=>((k:Int),V.bool true)
noncomputable def dV (ws:List Nat):O:=.idict (dl ws)
theorem Zcf (ws:List Nat):(dl ws).length = ws.length:=List.length_map ..
theorem Zhr (ws:List Nat) (k:Nat):((dl ws).any fun p=>p.1 = (k:Int)) = ws.contains k:=by
 rw [Bool.eq_iff_iff]
 simp only [dl,List.any_map,List.any_eq_true,List.contains_iff_mem,Function.comp_def,decide_eq_true_eq]
 constructor
 ·intro q0z
  refine El.x1_2 q0z fun x hx e=>?_
  have:x = k:=by lia
  exact this ▸ hx
 ·intro h; exact ⟨k,h,rfl⟩
theorem Z7P (ws:List Nat) (k:Nat):Z0T (dl ws) (k:Int) (.bool true) = dl (Glu.ins ws k):=by
 unfold Z0T Glu.ins
 rw [Zhr]
 split
 ·unfold dl
  rw [List.map_map]
  refine List.map_congr_left fun x _=>?_
  simp only [Function.comp]
  split <;> rfl
 ·unfold dl
  rw [List.map_append]; rfl
noncomputable def rowB (N n:Nat):List V:=(List.range n).map fun j=>.ref (N + 5 + j)
theorem Zei (N n:Nat):(rowB N n).length = n:=by simp [rowB]
theorem Zcg (N n:Nat):rowB N (n + 1) = rowB N n++[.ref (N + 5 + n)]:=by simp [rowB,List.range_succ]
theorem Z6L {N n j:Nat} (h:j < n):(rowB N n)[j]? = some (.ref (N + 5 + j)):=by
 simp only [rowB,List.getElem?_map]; rw [List.getElem?_range h]; rfl
noncomputable def LS (σ:List O) (ss:List (List Nat)) (W:List (List Nat)) (fi em:V) (es:List (Int × V)):List O:=σ++Lv σ.length (ss.map .str) (rowB σ.length W.length) fi em es (W.map dV)
theorem Z5M (σ:List O) (ss W:List (List Nat)) (fi em:V) (es:List (Int × V)):(LS σ ss W fi em es).length = σ.length + 5 + W.length:=by unfold LS; rw [Zef,List.length_map]
theorem Z1W (σ:List O) (ss ss' W W':List (List Nat)) (fi em fi' em':V) (es es':List (Int × V)) (r:V) (h:W.length ≤ W'.length) :
  (LS σ ss' W' fi' em' es').length = (LS σ ss W fi em es).length ∨ r.lo (LS σ ss W fi em es).length = false ∨ ∃ o ∈ (LS σ ss' W' fi' em' es').take (LS σ ss W fi em es).length,O.lo (LS σ ss W fi em es).length o = false:=by
 rw [Z5M,Z5M]
 rcases Nat.eq_or_lt_of_le h with e | e
 ·exact .inl (by rw [e])
 ·refine .inr (.inr ⟨.lst (rowB σ.length W'.length),List.mem_of_getElem? (i:=σ.length + 2) ?_,?_⟩)
  ·rw [List.getElem?_take,if_pos (by lia)]; exact lv2 ..
  ·exact Z4S (x:=.ref (σ.length + 5 + W.length)) (List.mem_of_getElem? (Z6L e)) (by rw [Z0R]; exact decide_eq_false (Nat.lt_irrefl _))
theorem Z03 {C:Nat} {H:Option (List Int) × Str→Int} {defs:List Def} {K n:Nat} {f:Str} {d:Def} (hc:f ≠ Z0k∧f ≠ Z0z) (h:defs.find? (fun d=>d.name == f) = some d) (args:List V) (σ:List O):Z08 (C,H) defs K (n + 1) f args σ = Z07 (Z08 (C,H) defs K n) K d args σ:=by
 rw [Z3M]
 simp only [if_neg hc.1,if_neg hc.2,h]; rfl
section
variable (F:Fn) (K C:Nat) (hC:clsF F = some (C:Int)) (σ:List O) (ss:List (List Nat)) (fi em:V) (es:List (Int × V))
include hC
theorem Zch (x:Nat) (a b:Option V):∀ (fs:List Nat) (W:List (List Nat)) (x4:Option V),x < W.length→W.length ≤ 60→Glu.Wf W→(∀ y ∈ fs,y < 60) →
  ∃ W' x4',forR (fun v st=>evSs F K Z6A (setV st 4 v)) (Z00 fs) (S5 (some (.inst C σ.length)) a b (some (.int x)) x4 (LS σ ss W fi em es)) = .ok .next (S5 (some (.inst C σ.length)) a b (some (.int x)) x4' (LS σ ss W' fi em es)) ∧
   Glu.Wf W'∧W'.length = W.length∧∀ p q,Glu.Rel W' p q↔Glu.Rel W p q ∨ (p = x∧q ∈ fs)
 | [],W,x4,hx,h60,hw,hf=>⟨W,x4,by rw [Z00,List.map_nil,Z0r],hw,rfl,fun p q=>by simp⟩
 | y :: fs,W,x4,hx,h60,hw,hf=>by
  have hy:=hf y (by simp)
  have q104y:=Zch x a b fs (Glu.link1 W x y) (some (.int y)) (by rw [Glu.link1_len]; exact hx) (by rw [Glu.link1_len]; exact h60) (Glu.wf_link1 hw hy) fun z hz=>hf z (by simp [hz])
  refine El.x2_4 q104y fun W' x4' e h1 h2 h3=>?_
  refine ⟨W',x4',?_,h1,by rw [h2,Glu.link1_len],fun p q=>?_⟩
  ·have hg:W.getD x [] = W[x]:=by simp [hx]
   have hwx:=(hw _ (List.getElem_mem hx))
   have hl:(dl W[x]).length < sizeLine:=by rw [Zcf]; have:=Glu.nodup_le hwx.1 hwx.2; unfold sizeLine; lia
   have a1:=Z1M (C:=C) (k:=1) hC (lv0 σ (ss.map .str) (rowB σ.length W.length) fi em es (W.map dV)) rfl
   have s1:Z0H (σ++Lv σ.length (ss.map .str) (rowB σ.length W.length) fi em es (W.map dV)) (.ref (σ.length + 2)) (.int x) = some (.ref (σ.length + 5 + x)):=by rw [Z3r (lv2 ..),Z0y _ (by lia),Z6L hx]
   have s2:∀ ρ,setI (.ref (σ.length + 5 + x)) (.int y) (.bool true) ⟨ρ,σ++Lv σ.length (ss.map .str) (rowB σ.length W.length) fi em es (W.map dV)⟩ = .ok .next ⟨ρ,σ++Lv σ.length (ss.map .str) (rowB σ.length W.length) fi em es ((Glu.link1 W x y).map dV)⟩:=fun ρ=>by
    rw [Zb2 (es:=dl W[x]) (by rw [lvD,List.getElem?_map,List.getElem?_eq_getElem hx]; rfl) hl,lvsD,Z7P]
    unfold Glu.link1
    rw [hg,List.map_set]; rfl
   have hb:evSs F K Z6A (setV (S5 (some (.inst C σ.length)) a b (some (.int x)) x4 (LS σ ss W fi em es)) 4 (.int y)) = .ok .next (S5 (some (.inst C σ.length)) a b (some (.int x)) (some (.int y)) (LS σ ss (Glu.link1 W x y) fi em es)):=by
    unfold LS
    rw [Glu.link1_len]
    exact atS fun t=>t a1 s1 (s2 _)
   rw [Z00,List.map_cons,Z0e,hb,R.bind_ok]
   exact e
  ·rw [h3,Glu.rel_link1 hx,or_assoc,List.mem_cons]
   constructor
   ·rintro (q1 | ⟨q1,q2⟩ | ⟨q1,q2⟩)
    ·exact .inl q1
    ·exact .inr ⟨q1,.inl q2⟩
    ·exact .inr ⟨q1,.inr q2⟩
   ·rintro (q1 | ⟨q1,q2 | q2⟩)
    ·exact .inl q1
    ·exact .inr (.inl ⟨q1,q2⟩)
    ·exact .inr (.inr ⟨q1,q2⟩)
theorem Z9Y (fs:List Nat) (hf:∀ y ∈ fs,y < 60) (a:Option V):∀ (ls:List Nat) (W:List (List Nat)) (x3 x4:Option V),(∀ x ∈ ls,x < W.length)→W.length ≤ 60→Glu.Wf W →
  ∃ W' x3' x4',forR (fun v st=>evSs F K Z6B (setV st 3 v)) (Z00 ls) (S5 (some (.inst C σ.length)) a (some (.lst (Z00 fs))) x3 x4 (LS σ ss W fi em es)) = .ok .next (S5 (some (.inst C σ.length)) a (some (.lst (Z00 fs))) x3' x4' (LS σ ss W' fi em es)) ∧
   Glu.Wf W'∧W'.length = W.length∧∀ p q,Glu.Rel W' p q↔Glu.Rel W p q ∨ (p ∈ ls∧q ∈ fs)
 | [],W,x3,x4,hx,h60,hw=>⟨W,x3,x4,by rw [Z00,List.map_nil,Z0r],hw,rfl,fun p q=>by simp⟩
 | x :: ls,W,x3,x4,hx,h60,hw=>by
  refine El.x2_4 (Zch F K C hC σ ss fi em es x a (some (.lst (Z00 fs))) fs W x4 (hx x (by simp)) h60 hw hf) fun W₁ y4 e1 h1 h2 h3=>?_
  have q137y:=Z9Y fs hf a ls W₁ (some (.int x)) y4 (fun z hz=>by rw [h2]; exact hx z (by simp [hz])) (by rw [h2]; exact h60) h1
  refine El.x3_4 q137y fun W' x3' x4' e g1 g2 g3=>?_
  refine El.y3_4 W' x3' x4' ?_ g1 (by rw [g2,h2]) (fun p q=>?_)
  ·have hb:evSs F K Z6B (setV (S5 (some (.inst C σ.length)) a (some (.lst (Z00 fs))) x3 x4 (LS σ ss W fi em es)) 3 (.int x)) = .ok .next (S5 (some (.inst C σ.length)) a (some (.lst (Z00 fs))) (some (.int x)) y4 (LS σ ss W₁ fi em es)):=by
    exact atS fun t=>t rfl e1
   rw [Z00,List.map_cons,Z0e,hb,R.bind_ok]
   exact e
  ·rw [g3,h3,or_assoc,List.mem_cons]
   constructor
   ·rintro (q1 | ⟨q1,q2⟩ | ⟨q1,q2⟩)
    ·exact .inl q1
    ·exact .inr ⟨.inl q1,q2⟩
    ·exact .inr ⟨.inr q1,q2⟩
   ·rintro (q1 | ⟨q1 | q1,q2⟩)
    ·exact .inl q1
    ·exact .inr (.inl ⟨q1,q2⟩)
    ·exact .inr (.inr ⟨q1,q2⟩)
theorem Zej (fs ls:List Nat) (W:List (List Nat)) (hf:∀ y ∈ fs,y < 60) (hx:∀ x ∈ ls,x < W.length) (h60:W.length ≤ 60) (hw:Glu.Wf W) :
  ∃ W',Z07 F K Z9Q [.inst C σ.length,.lst (Z00 ls),.lst (Z00 fs)] (LS σ ss W fi em es) = .ok .none ⟨[],LS σ ss W' fi em es⟩ ∧
   Glu.Wf W'∧W'.length = W.length∧∀ p q,Glu.Rel W' p q↔Glu.Rel W p q ∨ (p ∈ ls∧q ∈ fs):=by
 refine El.x3_4 (Z9Y F K C hC σ ss fi em es fs hf (some (.lst (Z00 ls))) ls W none none hx h60 hw) fun W' x3 x4 e h1 h2 h3=>?_
 refine ⟨W',?_,h1,h2,h3⟩
 have e':evSs F K Zc7 (S5 (some (.inst C σ.length)) (some (.lst (Z00 ls))) (some (.lst (Z00 fs))) none none (LS σ ss W fi em es)) = .ok .next (S5 (some (.inst C σ.length)) (some (.lst (Z00 ls))) (some (.lst (Z00 fs))) x3 x4 (LS σ ss W' fi em es)):=by
  exact atS fun t=>t rfl e
 exact Z0B (d:=Z9Q) (args:=[.inst C σ.length,.lst (Z00 ls),.lst (Z00 fs)]) (F:=F) (K:=K) rfl e' (Z1W _ _ _ _ _ _ _ _ _ _ _ _ (Nat.le_of_eq h2.symm))
end
noncomputable def PAll (Q:Pt→Prop):Pts→Prop
 | .nil=>True
 | .cons p ps=>Q p∧PAll Q ps
noncomputable def Z7Q (F:Fn) (C:Nat) (p:Pt):Prop:=∀ (σ:List O) (ss W:List (List Nat)) (fi em:V) (es:List (Int × V)),W.length = ss.length→Glu.Wf W→ss.length + p.leaves.length ≤ 60 →
 ∃ b fs ls W',F "looked_at" [.inst C σ.length,enc p] (LS σ ss W fi em es) = .ok (.tup [.bool b,.lst (Z00 fs),.lst (Z00 ls)]) ⟨[],LS σ (ss++p.leaves) W' fi em es⟩∧Glu.Sh (p.aut W.length) p.leaves.length W b fs ls W'
noncomputable def Zgq (F:Fn) (C:Nat):Prop:=∀ (σ:List O) (ss:List (List Nat)) (fi em:V) (es:List (Int × V)) (fs ls:List Nat) (W:List (List Nat)),(∀ y ∈ fs,y < 60)→(∀ x ∈ ls,x < W.length)→W.length ≤ 60→Glu.Wf W →
  ∃ W',F "link" [.inst C σ.length,.lst (Z00 ls),.lst (Z00 fs)] (LS σ ss W fi em es) = .ok .none ⟨[],LS σ ss W' fi em es⟩∧Glu.Wf W'∧W'.length = W.length∧∀ p q,Glu.Rel W' p q↔Glu.Rel W p q ∨ (p ∈ ls∧q ∈ fs)
theorem as3 (ρ:List (Option V)) (σ:List O) (i j k:Nat) (a b c:V):asT [i,j,k] (.tup [a,b,c]) ⟨ρ,σ⟩ = .ok () ⟨((ρ.set i (some a)).set j (some b)).set k (some c),σ⟩:=rfl
theorem Z9Z (F:Fn) (K C:Nat) (hk:Zgq F C) (σ:List O) (fi em:V) (es:List (Int × V)) (pv:Option V):∀ (ps:Pts),PAll (Z7Q F C) ps→∀ (A:Glu.Aut) (c:Nat) (W₀ W ss:List (List Nat)) (b:Bool) (fs ls:List Nat) (x5 x6 x7 x8:Option V),
  W.length = ss.length→ss.length + ps.leaves.length ≤ 60→Glu.Sh A c W₀ b fs ls W →
  ∃ b' fs' ls' W' y5 y6 y7 y8,forR (fun x st=>evSs F K Z39 (setV st 5 x)) (encs ps) (S9 (some (.inst C σ.length)) pv (some (.bool b)) (some (.lst (Z00 fs))) (some (.lst (Z00 ls))) x5 x6 x7 x8 (LS σ ss W fi em es)) =
   .ok .next (S9 (some (.inst C σ.length)) pv (some (.bool b')) (some (.lst (Z00 fs'))) (some (.lst (Z00 ls'))) y5 y6 y7 y8 (LS σ (ss++ps.leaves) W' fi em es))∧Glu.Sh (ps.autR A W.length) (c + ps.leaves.length) W₀ b' fs' ls' W'
 | .nil,_,A,c,W₀,W,ss,b,fs,ls,x5,x6,x7,x8,hl,h60,sh=>⟨b,fs,ls,W,x5,x6,x7,x8,by rw [encs,Z0r,Glu.ls0,List.append_nil],by rw [Glu.ar0,Glu.ls0]; exact sh⟩
 | .cons p ps,hp,A,c,W₀,W,ss,b,fs,ls,x5,x6,x7,x8,hl,h60,sh=>by
  rw [Glu.ls1,List.length_append] at h60
  refine El.x4_2 (hp.1 σ ss W fi em es hl sh.wf (by lia)) fun b₁ fs₁ ls₁ W₁ e1 s1=>?_
  have hW1:=s1.len
  have q19y:=hk σ (ss++p.leaves) fi em es fs₁ ls W₁ (fun y hy=>by have:=s1.fb y hy; lia) (fun x hx=>by have:=sh.lb x hx; lia) (by lia) s1.wf
  refine El.x1_4 q19y fun W₂ e2 g1 g2 g3=>?_
  have sh':=sh.seq s1 g3 g1 g2
  have q21y:=Z9Z F K C hk σ fi em es pv ps hp.2 _ _ W₀ W₂ (ss++p.leaves) _ _ _ (some (enc p)) (some (.bool b₁)) (some (.lst (Z00 fs₁))) (some (.lst (Z00 ls₁))) (by rw [List.length_append]; lia) (by rw [List.length_append]; lia) sh'
  refine El.x8_2 q21y fun b' fs' ls' W' y5 y6 y7 y8 e3 s3=>?_
  refine El.y8_2 b' fs' ls' W' y5 y6 y7 y8 ?_ ?_
  ·have q1:=Z1d fs fs₁ (by have:=sh.fl; have:=s1.fl; have:=sh.len; lia)
   have q2:=Z1d ls ls₁ (by have:=sh.ll; have:=s1.ll; have:=sh.len; lia)
   have hb:evSs F K Z39 (setV (S9 (some (.inst C σ.length)) pv (some (.bool b)) (some (.lst (Z00 fs))) (some (.lst (Z00 ls))) x5 x6 x7 x8 (LS σ ss W fi em es)) 5 (enc p)) =
     .ok .next (S9 (some (.inst C σ.length)) pv (some (.bool (b && b₁))) (some (.lst (Z00 (if b then fs++fs₁ else fs)))) (some (.lst (Z00 (if b₁ then ls++ls₁ else ls₁)))) (some (enc p)) (some (.bool b₁)) (some (.lst (Z00 fs₁))) (some (.lst (Z00 ls₁))) (LS σ (ss++p.leaves) W₂ fi em es)):=by
    cases b <;> cases b₁
    ·exact atS fun t=>t e1 rfl e2 rfl rfl rfl rfl rfl
    ·exact atS fun t=>t e1 rfl e2 rfl rfl q2 rfl rfl rfl
    ·exact atS fun t=>t e1 rfl e2 rfl q1 rfl rfl rfl rfl rfl
    ·exact atS fun t=>t e1 rfl e2 rfl q1 rfl rfl q2 rfl rfl rfl
   rw [encs,Z0e,hb,R.bind_ok]
   rw [Glu.ls1,← List.append_assoc]
   exact e3
  ·rw [Glu.ar1,Glu.ls1,List.length_append,← Nat.add_assoc]
   rw [g2,hW1] at s3
   exact s3
theorem Zaz (F:Fn) (K C:Nat) (hk:Zgq F C) (σ:List O) (fi em:V) (es:List (Int × V)) (ps:Pts) (hp:PAll (Z7Q F C) ps) (W ss:List (List Nat)) (hl:W.length = ss.length) (hw:Glu.Wf W) (h60:ss.length + ps.leaves.length ≤ 60) :
  ∃ b fs ls W',Z07 F K Z3Q [.inst C σ.length,.lst (encs ps)] (LS σ ss W fi em es) = .ok (.tup [.bool b,.lst (Z00 fs),.lst (Z00 ls)]) ⟨[],LS σ (ss++ps.leaves) W' fi em es⟩∧Glu.Sh (ps.autR Glu.nul W.length) ps.leaves.length W b fs ls W':=by
 refine El.x8_2 (Z9Z F K C hk σ fi em es (some (.lst (encs ps))) ps hp Glu.nul 0 W W ss true [] [] none none none none hl h60 (.nul hw)) fun b fs ls W' y5 y6 y7 y8 e s=>?_
 rw [Nat.zero_add] at s
 refine El.y4_2 b fs ls W' ?_ s
 have hn:Z00 [] = []:=rfl
 rw [hn] at e
 have e':evSs F K Z7L (S9 (some (.inst C σ.length)) (some (.lst (encs ps))) none none none none none none none (LS σ ss W fi em es)) = .ok (.ret (.tup [.bool b,.lst (Z00 fs),.lst (Z00 ls)])) (S9 (some (.inst C σ.length)) (some (.lst (encs ps))) (some (.bool b)) (some (.lst (Z00 fs))) (some (.lst (Z00 ls))) y5 y6 y7 y8 (LS σ (ss++ps.leaves) W' fi em es)):=by
  exact atS fun t=>t rfl rfl rfl rfl e rfl
 exact Z0B (d:=Z3Q) (args:=[.inst C σ.length,.lst (encs ps)]) (F:=F) (K:=K) rfl e' (Z1W _ _ _ _ _ _ _ _ _ _ _ _ (by rw [s.len]; lia))
theorem Zci (F:Fn) (K C:Nat) (σ:List O) (fi em:V) (es:List (Int × V)) (pv:Option V):∀ (ps:Pts),PAll (Z7Q F C) ps→∀ (A:Glu.Aut) (c:Nat) (W₀ W ss:List (List Nat)) (b:Bool) (fs ls:List Nat) (x5 x6 x7 x8:Option V),
  W.length = ss.length→ss.length + ps.leaves.length ≤ 60→Glu.Sh A c W₀ b fs ls W →
  ∃ b' fs' ls' W' y5 y6 y7 y8,forR (fun x st=>evSs F K Z1v (setV st 5 x)) (encs ps) (S9 (some (.inst C σ.length)) pv (some (.bool b)) (some (.lst (Z00 fs))) (some (.lst (Z00 ls))) x5 x6 x7 x8 (LS σ ss W fi em es)) =
   .ok .next (S9 (some (.inst C σ.length)) pv (some (.bool b')) (some (.lst (Z00 fs'))) (some (.lst (Z00 ls'))) y5 y6 y7 y8 (LS σ (ss++ps.leaves) W' fi em es))∧Glu.Sh (ps.autO A W.length) (c + ps.leaves.length) W₀ b' fs' ls' W'
 | .nil,_,A,c,W₀,W,ss,b,fs,ls,x5,x6,x7,x8,hl,h60,sh=>⟨b,fs,ls,W,x5,x6,x7,x8,by rw [encs,Z0r,Glu.ls0,List.append_nil],by rw [Glu.ao0,Glu.ls0]; exact sh⟩
 | .cons p ps,hp,A,c,W₀,W,ss,b,fs,ls,x5,x6,x7,x8,hl,h60,sh=>by
  rw [Glu.ls1,List.length_append] at h60
  refine El.x4_2 (hp.1 σ ss W fi em es hl sh.wf (by lia)) fun b₁ fs₁ ls₁ W₁ e1 s1=>?_
  have hW1:=s1.len
  have sh':=sh.alt s1
  have q54y:=Zci F K C σ fi em es pv ps hp.2 _ _ W₀ W₁ (ss++p.leaves) _ _ _ (some (enc p)) (some (.bool b₁)) (some (.lst (Z00 fs₁))) (some (.lst (Z00 ls₁))) (by rw [List.length_append]; lia) (by rw [List.length_append]; lia) sh'
  refine El.x8_2 q54y fun b' fs' ls' W' y5 y6 y7 y8 e3 s3=>?_
  refine El.y8_2 b' fs' ls' W' y5 y6 y7 y8 ?_ ?_
  ·have q1:=Z1d fs fs₁ (by have:=sh.fl; have:=s1.fl; have:=sh.len; lia)
   have q2:=Z1d ls ls₁ (by have:=sh.ll; have:=s1.ll; have:=sh.len; lia)
   have hb:evSs F K Z1v (setV (S9 (some (.inst C σ.length)) pv (some (.bool b)) (some (.lst (Z00 fs))) (some (.lst (Z00 ls))) x5 x6 x7 x8 (LS σ ss W fi em es)) 5 (enc p)) =
     .ok .next (S9 (some (.inst C σ.length)) pv (some (.bool (b || b₁))) (some (.lst (Z00 (fs++fs₁)))) (some (.lst (Z00 (ls++ls₁)))) (some (enc p)) (some (.bool b₁)) (some (.lst (Z00 fs₁))) (some (.lst (Z00 ls₁))) (LS σ (ss++p.leaves) W₁ fi em es)):=by
    cases b <;> exact atS fun t=>t e1 (as3 _ _ _ _ _ _ _ _) rfl rfl q1 rfl q2 rfl
   rw [encs,Z0e,hb,R.bind_ok]
   rw [Glu.ls1,← List.append_assoc]
   exact e3
  ·rw [Glu.ao1,Glu.ls1,List.length_append,← Nat.add_assoc]
   rw [hW1] at s3
   exact s3
theorem Zfb (σ:List O) (xs:List V):V.truthy σ (.lst xs) = some (!xs.isEmpty):=Eq.trans rfl rfl
theorem Z6M (F:Fn) (K C:Nat) (σ:List O) (fi em:V) (es:List (Int × V)) (ps:Pts) (h0:0 < pLen ps) (hp:PAll (Z7Q F C) ps) (W ss:List (List Nat)) (hl:W.length = ss.length) (hw:Glu.Wf W) (h60:ss.length + ps.leaves.length ≤ 60) :
  ∃ b fs ls W',Z07 F K Z1w [.inst C σ.length,.lst (encs ps)] (LS σ ss W fi em es) = .ok (.tup [.bool b,.lst (Z00 fs),.lst (Z00 ls)]) ⟨[],LS σ (ss++ps.leaves) W' fi em es⟩∧Glu.Sh (ps.autO Glu.non W.length) ps.leaves.length W b fs ls W':=by
 refine El.x8_2 (Zci F K C σ fi em es (some (.lst (encs ps))) ps hp Glu.non 0 W W ss false [] [] none none none none hl h60 (.non hw)) fun b fs ls W' y5 y6 y7 y8 e s=>?_
 rw [Nat.zero_add] at s
 refine El.y4_2 b fs ls W' ?_ s
 have hn:Z00 [] = []:=rfl
 rw [hn] at e
 have ht:(encs ps).isEmpty = false:=by
  cases ps with
  | nil=>exact absurd h0 (by rw [pLen]; lia)
  | cons p ps=>rw [encs]; rfl
 have e':evSs F K Z3B (S9 (some (.inst C σ.length)) (some (.lst (encs ps))) none none none none none none none (LS σ ss W fi em es)) = .ok (.ret (.tup [.bool b,.lst (Z00 fs),.lst (Z00 ls)])) (S9 (some (.inst C σ.length)) (some (.lst (encs ps))) (some (.bool b)) (some (.lst (Z00 fs))) (some (.lst (Z00 ls))) y5 y6 y7 y8 (LS σ (ss++ps.leaves) W' fi em es)):=by
  exact atS fun t=>t (nn ht) rfl rfl rfl rfl e rfl
 exact Z0B (d:=Z1w) (args:=[.inst C σ.length,.lst (encs ps)]) (F:=F) (K:=K) rfl e' (Z1W _ _ _ _ _ _ _ _ _ _ _ _ (by rw [s.len]; lia))
theorem Zek (F:Fn) (K:Nat) (x:V) (s:List Nat) (σ τ:List O) (r:V) (ρ':List (Option V)) (h:F "leaf_of" [x,.str s] σ = .ok r ⟨ρ',τ⟩) (hb:τ.length = σ.length ∨ r.lo σ.length = false ∨ ∃ o ∈ τ.take σ.length,O.lo σ.length o = false) :
  Z07 F K Z0j [x,enc (.one s)] σ = .ok r ⟨[],τ⟩:=by
 rw [enc]
 have e:evSs F K Z0J (S5 (some x) (some (.tup [.str (Str.ofString "one").cps.toList,.str s])) none none none σ) = .ok (.ret r) (S5 (some x) (some (.tup [.str (Str.ofString "one").cps.toList,.str s])) none none none τ):=by
  exact atS fun t=>t rfl Z2D rfl h rfl
 exact Z0B (d:=Z0j) (args:=[x,_]) (F:=F) (K:=K) rfl e hb
theorem Zel (F:Fn) (K:Nat) (x:V) (ps:Pts) (σ τ:List O) (r:V) (ρ':List (Option V)) (h:F "row_of" [x,.lst (encs ps)] σ = .ok r ⟨ρ',τ⟩) (hb:τ.length = σ.length ∨ r.lo σ.length = false ∨ ∃ o ∈ τ.take σ.length,O.lo σ.length o = false) :
  Z07 F K Z0j [x,enc (.row ps)] σ = .ok r ⟨[],τ⟩:=by
 rw [enc]
 have e:evSs F K Z0J (S5 (some x) (some (.tup [.str (Str.ofString "row").cps.toList,.lst (encs ps)])) none none none σ) = .ok (.ret r) (S5 (some x) (some (.tup [.str (Str.ofString "row").cps.toList,.lst (encs ps)])) none none none τ):=by
  exact atS fun t=>t rfl Z2E rfl Z2F rfl h rfl
 exact Z0B (d:=Z0j) (args:=[x,_]) (F:=F) (K:=K) rfl e hb
theorem Zgr (F:Fn) (K:Nat) (x:V) (ps:Pts) (σ τ:List O) (r:V) (ρ':List (Option V)) (h:F "choice_of" [x,.lst (encs ps)] σ = .ok r ⟨ρ',τ⟩) (hb:τ.length = σ.length ∨ r.lo σ.length = false ∨ ∃ o ∈ τ.take σ.length,O.lo σ.length o = false) :
  Z07 F K Z0j [x,enc (.or ps)] σ = .ok r ⟨[],τ⟩:=by
 rw [enc]
 have e:evSs F K Z0J (S5 (some x) (some (.tup [.str (Str.ofString "or").cps.toList,.lst (encs ps)])) none none none σ) = .ok (.ret r) (S5 (some x) (some (.tup [.str (Str.ofString "or").cps.toList,.lst (encs ps)])) none none none τ):=by
  exact atS fun t=>t rfl Z3T rfl Z6J rfl Z6K rfl h rfl
 exact Z0B (d:=Z0j) (args:=[x,_]) (F:=F) (K:=K) rfl e hb
theorem Zcj (F:Fn) (K:Nat) (x:V) (p:Pt) (σ τ τ':List O) (b:Bool) (fs ls:V) (h:F "looked_at" [x,enc p] σ = .ok (.tup [.bool b,fs,ls]) ⟨[],τ⟩) (h2:F "link" [x,ls,fs] τ = .ok .none ⟨[],τ'⟩) (hb:τ'.length = σ.length ∨ (V.tup [.bool true,fs,ls]).lo σ.length = false ∨ ∃ o ∈ τ'.take σ.length,O.lo σ.length o = false) :
  Z07 F K Z0j [x,enc (.many p)] σ = .ok (.tup [.bool true,fs,ls]) ⟨[],τ'⟩:=by
 rw [enc]
 have e:evSs F K Z0J (S5 (some x) (some (.tup [.str (Str.ofString "many").cps.toList,enc p])) none none none σ) = .ok (.ret (.tup [.bool true,fs,ls])) (S5 (some x) (some (.tup [.str (Str.ofString "many").cps.toList,enc p])) (some (.bool b)) (some fs) (some ls) τ'):=by
  exact atS fun t=>t rfl Z23 rfl Z3g rfl Z4U rfl h (as3 _ _ _ _ _ _ _ _) rfl Z4V h2 rfl
 exact Z0B (d:=Z0j) (args:=[x,_]) (F:=F) (K:=K) rfl e hb
theorem ZaA (F:Fn) (K:Nat) (x:V) (p:Pt) (σ τ:List O) (b:Bool) (fs ls:V) (h:F "looked_at" [x,enc p] σ = .ok (.tup [.bool b,fs,ls]) ⟨[],τ⟩) (hb:τ.length = σ.length ∨ (V.tup [.bool true,fs,ls]).lo σ.length = false ∨ ∃ o ∈ τ.take σ.length,O.lo σ.length o = false) :
  Z07 F K Z0j [x,enc (.maybe p)] σ = .ok (.tup [.bool true,fs,ls]) ⟨[],τ⟩:=by
 rw [enc]
 have e:evSs F K Z0J (S5 (some x) (some (.tup [.str (Str.ofString "maybe").cps.toList,enc p])) none none none σ) = .ok (.ret (.tup [.bool true,fs,ls])) (S5 (some x) (some (.tup [.str (Str.ofString "maybe").cps.toList,enc p])) (some (.bool b)) (some fs) (some ls) τ):=by
  exact atS fun t=>t rfl Z1A rfl Z2l rfl Z3h rfl h (as3 _ _ _ _ _ _ _ _) rfl Z3G rfl
 exact Z0B (d:=Z0j) (args:=[x,_]) (F:=F) (K:=K) rfl e hb
theorem an5:attrNames.length = 5:=rfl
theorem Z2H {q:Option Int} {C k:Nat} {σ L:List O} {xs ys:List V} {v:V} (hq:q = some (C:Int)) (hs:setAt xs k v = some ys) (hl:ys.length ≤ 5) (ρ:List (Option V)):setA q (.inst C σ.length) v k ⟨ρ,σ++.attrs xs :: L⟩ = .ok .next ⟨ρ,σ++.attrs ys :: L⟩:=by
 rw [Zb3 (n:=σ.length) hq (by simp) hs hl,List.set_append_right _ _ (Nat.le_refl _),Nat.sub_self]; rfl
theorem Zem (F:Fn) (K C:Nat) (hC:clsF F = some (C:Int)) (σ:List O) :
  Z07 F K Z9P [.inst C σ.length] (σ++[.attrs []]) = .ok .none ⟨[],σ++[.attrs [.ref (σ.length + 1),.ref (σ.length + 2),.lst [],.ref (σ.length + 3),.none],.lst [],.lst [],.idict []]⟩:=by
 have h0:∀ ρ,setA (clsF F) (.inst C σ.length) (.ref (σ.length + 1)) 0 ⟨ρ,σ++[.attrs [],.lst []]⟩ = .ok .next ⟨ρ,σ++[.attrs [.ref (σ.length + 1)],.lst []]⟩:=fun ρ=>Z2H hC rfl (by simp) ρ
 have h1:∀ ρ,setA (clsF F) (.inst C σ.length) (.ref (σ.length + 2)) 1 ⟨ρ,σ++[.attrs [.ref (σ.length + 1)],.lst [],.lst []]⟩ = .ok .next ⟨ρ,σ++[.attrs [.ref (σ.length + 1),.ref (σ.length + 2)],.lst [],.lst []]⟩:=fun ρ=>Z2H hC rfl (by simp) ρ
 have h2:∀ ρ,setA (clsF F) (.inst C σ.length) (.lst []) 2 ⟨ρ,σ++[.attrs [.ref (σ.length + 1),.ref (σ.length + 2)],.lst [],.lst []]⟩ = .ok .next ⟨ρ,σ++[.attrs [.ref (σ.length + 1),.ref (σ.length + 2),.lst []],.lst [],.lst []]⟩:=fun ρ=>Z2H hC rfl (by simp) ρ
 have h3:∀ ρ,setA (clsF F) (.inst C σ.length) (.ref (σ.length + 3)) 3 ⟨ρ,σ++[.attrs [.ref (σ.length + 1),.ref (σ.length + 2),.lst []],.lst [],.lst [],.idict []]⟩ = .ok .next ⟨ρ,σ++[.attrs [.ref (σ.length + 1),.ref (σ.length + 2),.lst [],.ref (σ.length + 3)],.lst [],.lst [],.idict []]⟩:=fun ρ=>Z2H hC rfl (by simp) ρ
 have h4:∀ ρ,setA (clsF F) (.inst C σ.length) .none 4 ⟨ρ,σ++[.attrs [.ref (σ.length + 1),.ref (σ.length + 2),.lst [],.ref (σ.length + 3)],.lst [],.lst [],.idict []]⟩ = .ok .next ⟨ρ,σ++[.attrs [.ref (σ.length + 1),.ref (σ.length + 2),.lst [],.ref (σ.length + 3),.none],.lst [],.lst [],.idict []]⟩:=fun ρ=>Z2H hC rfl (by simp) ρ
 have e:evSs F K Zc6 ⟨[some (.inst C σ.length)],σ++[.attrs []]⟩ = .ok .next ⟨[some (.inst C σ.length)],σ++[.attrs [.ref (σ.length + 1),.ref (σ.length + 2),.lst [],.ref (σ.length + 3),.none],.lst [],.lst [],.idict []]⟩:=by
  exact atS fun t=>t List.length_append (List.append_assoc ..) (h0 _) List.length_append (List.append_assoc ..) (h1 _) (h2 _) List.length_append (List.append_assoc ..) (h3 _) (h4 _)
 refine Z0B (d:=Z9P) (args:=[.inst C σ.length]) (F:=F) (K:=K) rfl e (.inr (.inr ⟨.attrs [.ref (σ.length + 1),.ref (σ.length + 2),.lst [],.ref (σ.length + 3),.none],List.mem_of_getElem? (i:=σ.length) ?_,?_⟩))
 ·rw [List.getElem?_take,if_pos (by simp)]
  exact Z2j σ [O.attrs [.ref (σ.length + 1),.ref (σ.length + 2),.lst [],.ref (σ.length + 3),.none],.lst [],.lst [],.idict []] 0
 ·refine Z4S (x:=.ref (σ.length + 1)) (by simp) ?_
  rw [Z0R]; exact decide_eq_false (by simp)
theorem Zhs:defs.find? (fun d=>d.name == Z0F) = some Z9P:=by kernel_rfl
theorem Zht:defs.find? (fun d=>d.name == Str.ofString "link") = some Z9Q:=by kernel_rfl
theorem Zck:defs.find? (fun d=>d.name == Str.ofString "leaf_of") = some Z2x:=by kernel_rfl
theorem Zen:defs.find? (fun d=>d.name == Str.ofString "row_of") = some Z3Q:=by kernel_rfl
theorem Z8U:defs.find? (fun d=>d.name == Str.ofString "choice_of") = some Z1w:=by kernel_rfl
theorem Z17:defs.find? (fun d=>d.name == Str.ofString "looked_at") = some Z0j:=by kernel_rfl
theorem Z8V:defs.find? (fun d=>d.name == Str.ofString "leaves_of") = some Z1z:=by kernel_rfl
theorem Zhu:defs.find? (fun d=>d.name == Str.ofString "step") = some Z9S:=by kernel_rfl
theorem Zcl:defs.find? (fun d=>d.name == Str.ofString "told_at") = some Z4H:=by kernel_rfl
theorem Zcm:defs.find? (fun d=>d.name == Str.ofString "_law_cell_at") = some Z4J:=by kernel_rfl
theorem Zgs:defs.find? (fun d=>d.name == Str.ofString "_law_whole") = some Z8N:=by kernel_rfl
theorem Z7R:defs.find? (fun d=>d.name == Str.ofString "_law_sign_by") = some Z4K:=by kernel_rfl
theorem Zcn:defs.find? (fun d=>d.name == Str.ofString "_law_letters") = some Z2A:=by kernel_rfl
theorem Zco:defs.find? (fun d=>d.name == Str.ofString "_law_some_of") = some Z4L:=by kernel_rfl
theorem Zcp:defs.find? (fun d=>d.name == Str.ofString "_law_text_by") = some Z4M:=by kernel_rfl
theorem Z7S:defs.find? (fun d=>d.name == Str.ofString "_law_over") = some Zc8:=by kernel_rfl
theorem Zgt:defs.find? (fun d=>d.name == Str.ofString "_law_grown") = some Z4N:=by kernel_rfl
theorem Zhv:defs.find? (fun d=>d.name == Str.ofString "_law_wide") = some Zca:=by kernel_rfl
theorem Zgu:defs.find? (fun d=>d.name == Str.ofString "_law_words") = some Z8P:=by kernel_rfl
theorem Zgv:defs.find? (fun d=>d.name == Str.ofString "_law_loops") = some Z8Q:=by kernel_rfl
theorem Zhw:defs.find? (fun d=>d.name == Str.ofString "_law_long") = some Zcb:=by kernel_rfl
theorem ZaB:defs.find? (fun d=>d.name == Str.ofString "_law_patterns") = some Z3b:=by kernel_rfl
theorem Z7T:defs.find? (fun d=>d.name == Str.ofString "_law_ends") = some Z4R:=by kernel_rfl
theorem Zhx:defs.find? (fun d=>d.name == Str.ofString "_law_same") = some Zce:=by kernel_rfl
theorem Z2I:defs.find? (fun d=>d.name == Str.ofString "_law_sample") = some Z2B:=by kernel_rfl
theorem Z7U:defs.find? (fun d=>d.name == Str.ofString "longest_at") = some Z1c:=by kernel_rfl
theorem Zgw:defs.find? (fun d=>d.name == Str.ofString "tried") = some Z6D:=by kernel_rfl
theorem Za0:defs.find? (fun d=>d.name == Str.ofString "_law_pieces") = some Z6H:=by kernel_rfl
theorem Zeo:defs.find? (fun d=>d.name == Str.ofString "_law_trying") = some Z6I:=by kernel_rfl
theorem Zgx:defs.find? (fun d=>d.name == Str.ofString "_law_mixed") = some Z8S:=by kernel_rfl
theorem ZhY:defs.find? (fun d=>d.name == Str.ofString "law") = some Zhq:=by kernel_rfl
theorem Z5N:∀ {l:List Nat},l.Nodup→l.eraseDups = l
 | [],_=>rfl
 | a :: l,h=>by
  rw [List.nodup_cons] at h
  rw [List.eraseDups_cons]
  have:l.filter (fun b=>!b == a) = l:=by
   rw [List.filter_eq_self]
   intro b hb
   have:b ≠ a:=fun e=>h.1 (e ▸ hb)
   simp [this]
  rw [this,Z5N h.2]
section
variable (C K:Nat) {H:Option (List Int) × Str→Int}
theorem Zfc (n:Nat):Zgq (Z08 (C,H) defs K (n + 2)) C:=fun σ ss fi em es fs ls W h1 h2 h3 h4=>by
 rw [Z03 (by decide) Zht]
 exact Zej _ _ _ (Z1U ..) σ ss fi em es fs ls W h1 h2 h3 h4
mutual
theorem Z3U:∀ (p:Pt),Fine p→∀ n,2 * ht p + 3 ≤ n→Z7Q (Z08 (C,H) defs K n) C p
 | .one s,hf,n,hn=>fun σ ss W fi em es hl hw h60=>by
  rw [Fine] at hf
  have hle:(Glu.Pat.one s:Pt).leaves = [s]:=rfl
  rw [hle] at h60 ⊢
  obtain ⟨m,rfl⟩:∃ m,n = m + 3:=⟨n - 3,by lia⟩
  refine El.y4_2 false [W.length] [W.length] (W++[[]]) ?_ (by exact .leaf hw)
  have h:Z08 (C,H) defs K (m + 2) "leaf_of" [.inst C σ.length,.str s] (LS σ ss W fi em es) = .ok (.tup [.bool false,.lst (Z00 [W.length]),.lst (Z00 [W.length])]) ⟨[],LS σ (ss++[s]) (W++[[]]) fi em es⟩:=by
   rw [Z03 (by decide) Zck]
   have h1:ss.length < 60:=by rw [List.length_singleton] at h60; lia
   have:=Z8T (Z08 (C,H) defs K (m + 1)) K C (Z1U ..) σ (ss.map .str) (rowB σ.length W.length) fi em es (W.map dV) s hf.ne (by rw [Z5N hf.nd]) ⟨by have:=hf.len; lia,hf.lt⟩ (by rw [List.length_map]; exact h1) (by rw [Zei,hl]; exact h1)
   rw [List.length_map,List.length_map,← hl,← Zcg] at this
   unfold LS
   rw [List.map_append,List.map_append,List.length_append]
   exact this
  rw [Z03 (by decide) Z17]
  exact Zek _ _ _ _ _ _ _ _ h (Z1W _ _ _ _ _ _ _ _ _ _ _ _ (by simp))
 | .row ps,hf,n,hn=>fun σ ss W fi em es hl hw h60=>by
  rw [Fine] at hf
  rw [ht] at hn
  have hle:(Glu.Pat.row ps:Pt).leaves = ps.leaves:=rfl
  rw [hle] at h60 ⊢
  obtain ⟨m,rfl⟩:∃ m,n = m + 4:=⟨n - 4,by lia⟩
  have hp:=Z4W ps hf.2 (m + 2) (by lia)
  refine El.x4_2 (Zaz (Z08 (C,H) defs K (m + 2)) K C (Zfc (H:=H) C K m) σ fi em es ps hp W ss hl hw h60) fun b fs ls W' e s=>?_
  refine El.y4_2 b fs ls W' ?_ (by exact s)
  rw [Z03 (by decide) Z17]
  exact Zel _ _ _ _ _ _ _ _ (by rw [Z03 (by decide) Zen]; exact e) (Z1W _ _ _ _ _ _ _ _ _ _ _ _ (by rw [s.len]; lia))
 | .or ps,hf,n,hn=>fun σ ss W fi em es hl hw h60=>by
  rw [Fine] at hf
  rw [ht] at hn
  have hle:(Glu.Pat.or ps:Pt).leaves = ps.leaves:=rfl
  rw [hle] at h60 ⊢
  obtain ⟨m,rfl⟩:∃ m,n = m + 4:=⟨n - 4,by lia⟩
  have hp:=Z4W ps hf.2.2 (m + 2) (by lia)
  refine El.x4_2 (Z6M (Z08 (C,H) defs K (m + 2)) K C σ fi em es ps hf.2.1 hp W ss hl hw h60) fun b fs ls W' e s=>?_
  refine El.y4_2 b fs ls W' ?_ (by exact s)
  rw [Z03 (by decide) Z17]
  exact Zgr _ _ _ _ _ _ _ _ (by rw [Z03 (by decide) Z8U]; exact e) (Z1W _ _ _ _ _ _ _ _ _ _ _ _ (by rw [s.len]; lia))
 | .many p,hf,n,hn=>fun σ ss W fi em es hl hw h60=>by
  rw [Fine] at hf
  rw [ht] at hn
  have hle:(Glu.Pat.many p:Pt).leaves = p.leaves:=rfl
  rw [hle] at h60 ⊢
  obtain ⟨m,rfl⟩:∃ m,n = m + 3:=⟨n - 3,by lia⟩
  refine El.x4_2 (Z3U p hf (m + 2) (by lia) σ ss W fi em es hl hw h60) fun b fs ls W₁ e s=>?_
  have hs:=s.len
  have q68y:=Zfc (H:=H) C K m σ (ss++p.leaves) fi em es fs ls W₁ (fun y hy=>by have:=s.fb y hy; lia) s.lb (by lia) s.wf
  refine El.x1_4 q68y fun W' e' g1 g2 g3=>?_
  refine El.y4_2 true fs ls W' ?_ (by exact s.star g3 g1 g2)
  rw [Z03 (by decide) Z17]
  exact Zcj _ _ _ _ _ _ _ _ _ _ e e' (Z1W _ _ _ _ _ _ _ _ _ _ _ _ (by lia))
 | .maybe p,hf,n,hn=>fun σ ss W fi em es hl hw h60=>by
  rw [Fine] at hf
  rw [ht] at hn
  have hle:(Glu.Pat.maybe p:Pt).leaves = p.leaves:=rfl
  rw [hle] at h60 ⊢
  obtain ⟨m,rfl⟩:∃ m,n = m + 1:=⟨n - 1,by lia⟩
  refine El.x4_2 (Z3U p hf m (by lia) σ ss W fi em es hl hw h60) fun b fs ls W₁ e s=>?_
  have hs:=s.len
  refine El.y4_2 true fs ls W₁ ?_ (by exact s.opt)
  rw [Z03 (by decide) Z17]
  exact ZaA _ _ _ _ _ _ _ _ _ e (Z1W _ _ _ _ _ _ _ _ _ _ _ _ (by lia))
theorem Z4W:∀ (ps:Pts),Z3K ps→∀ n,2 * hts ps + 3 ≤ n→PAll (Z7Q (Z08 (C,H) defs K n) C) ps
 | .nil,_,n,_=>by rw [PAll]; trivial
 | .cons p ps,hf,n,hn=>by
  rw [Z3K] at hf
  rw [hts] at hn
  rw [PAll]
  exact ⟨Z3U p hf.1 n (by lia),Z4W ps hf.2 n (by lia)⟩
end
theorem ZhZ (n:Nat) (σ:List O):Z08 (C,H) defs K (n + 3) Z0k [] σ = .ok (.inst C σ.length) ⟨[],σ++[.attrs [.ref (σ.length + 1),.ref (σ.length + 2),.lst [],.ref (σ.length + 3),.none],.lst [],.lst [],.idict []]⟩:=by
 have h:Z08 (C,H) defs K (n + 2) Z0F [.inst C σ.length] (σ++[.attrs []]) = .ok .none ⟨[],σ++[.attrs [.ref (σ.length + 1),.ref (σ.length + 2),.lst [],.ref (σ.length + 3),.none],.lst [],.lst [],.idict []]⟩:=by
  rw [Z03 (by decide) Zhs]
  exact Zem _ _ _ (Z1U ..) _
 rw [Z3M]
 simp only [if_true,List.isEmpty_nil]
 unfold newR
 rw [h,R.bind_ok]
end
noncomputable def eV (E:List (Nat × Nat)):List (Int × V):=E.map fun p=>((p.1:Int),V.int (p.2:Int))
theorem Zcq (E:List (Nat × Nat)) (x k:Nat):Z0T (eV E) (x:Int) (.int (k:Int)) = eV (Glu.stN E x k):=by
 have ha:((eV E).any fun p=>p.1 = (x:Int)) = E.any fun p=>p.1 = x:=by
  unfold eV
  rw [List.any_map]
  congr 1
  funext p
  simp only [Function.comp]
  rw [Bool.eq_iff_iff,decide_eq_true_eq,decide_eq_true_eq]; lia
 unfold Z0T Glu.stN
 rw [ha]
 split
 ·unfold eV
  rw [List.map_map,List.map_map]
  refine List.map_congr_left fun p _=>?_
  simp only [Function.comp]
  by_cases h:p.1 = x
  ·rw [if_pos h,if_pos (by lia)]
  ·rw [if_neg h,if_neg (by lia)]
 ·unfold eV
  rw [List.map_append]; rfl
noncomputable def oV:Option Nat→V
 | none=>.none
 | some k=>.int (k:Int)
theorem Z7V (F:Fn) (K C:Nat) (hC:clsF F = some (C:Int)) (σ:List O) (ss W:List (List Nat)) (fi em:V) (k:Nat) (x0 x3 x4 x5 x6:Option V):∀ (ls:List Nat) (E:List (Nat × Nat)) (x7:Option V),E.length + ls.length ≤ 1000 →
  ∃ y7,forR (fun x st=>evSs F K Z1x (setV st 7 x)) (Z00 ls) (S8 x0 (some (.inst C σ.length)) (some (.int (k:Int))) x3 x4 x5 x6 x7 (LS σ ss W fi em (eV E))) =
   .ok .next (S8 x0 (some (.inst C σ.length)) (some (.int (k:Int))) x3 x4 x5 x6 y7 (LS σ ss W fi em (eV (ls.foldl (fun E x=>Glu.stN E x k) E))))
 | [],E,x7,_=>⟨x7,by rw [Z00,List.map_nil,Z0r]; rfl⟩
 | x :: ls,E,x7,hl=>by
  rw [List.length_cons] at hl
  obtain ⟨y7,e⟩:=Z7V F K C hC σ ss W fi em k x0 x3 x4 x5 x6 ls (Glu.stN E x k) (some (.int (x:Int))) (by have:=Glu.stN_len E x k; lia)
  refine ⟨y7,?_⟩
  have a3:=Z1M (C:=C) (k:=3) hC (lv0 σ (ss.map .str) (rowB σ.length W.length) fi em (eV E) (W.map dV)) rfl
  have s3:∀ ρ,setI (.ref (σ.length + 3)) (.int (x:Int)) (.int (k:Int)) ⟨ρ,σ++Lv σ.length (ss.map .str) (rowB σ.length W.length) fi em (eV E) (W.map dV)⟩ = .ok .next ⟨ρ,σ++Lv σ.length (ss.map .str) (rowB σ.length W.length) fi em (eV (Glu.stN E x k)) (W.map dV)⟩:=fun ρ=>by
   rw [Zb2 (lv3 σ (ss.map .str) (rowB σ.length W.length) fi em (eV E) (W.map dV)) (by rw [eV,List.length_map]; unfold sizeLine; lia),lvs3,Zcq]
  have hb:evSs F K Z1x (setV (S8 x0 (some (.inst C σ.length)) (some (.int (k:Int))) x3 x4 x5 x6 x7 (LS σ ss W fi em (eV E))) 7 (.int (x:Int))) = .ok .next (S8 x0 (some (.inst C σ.length)) (some (.int (k:Int))) x3 x4 x5 x6 (some (.int (x:Int))) (LS σ ss W fi em (eV (Glu.stN E x k)))):=by
   unfold LS
   exact atS fun t=>t a3 (s3 _)
  rw [Z00,List.map_cons,Z0e,hb,R.bind_ok]
  exact e
theorem as2 (ρ:List (Option V)) (σ:List O) (i j:Nat) (a b:V):asT [i,j] (.tup [a,b]) ⟨ρ,σ⟩ = .ok () ⟨(ρ.set i (some a)).set j (some b),σ⟩:=rfl
theorem Z7W (o:Option Nat):(oV o).isNone = o.isNone:=by cases o <;> rfl
theorem Z4X (F:Fn) (K C:Nat) (hC:clsF F = some (C:Int)) (σ:List O) (x0:Option V):∀ (ps d:List Pt) (W:List (List Nat)) (fi:List Nat) (em:Option Nat) (E:List (Nat × Nat)) (x2 x3 x4 x5 x6 x7:Option V),
  (∀ p ∈ ps,Z7Q F C p)→(Glu.allLeaves (d++ps)).length ≤ 60→Glu.Lvd d W fi em E →
  ∃ W' fi' em' E' y2 y3 y4 y5 y6 y7,forR (fun x st=>(asT [2,3] x st).bind fun _ st=>evSs F K Z1y st) (Z2S d.length (ps.map enc)) (S8 x0 (some (.inst C σ.length)) x2 x3 x4 x5 x6 x7 (LS σ (Glu.allLeaves d) W (.lst (Z00 fi)) (oV em) (eV E))) =
   .ok .next (S8 x0 (some (.inst C σ.length)) y2 y3 y4 y5 y6 y7 (LS σ (Glu.allLeaves (d++ps)) W' (.lst (Z00 fi')) (oV em') (eV E')))∧Glu.Lvd (d++ps) W' fi' em' E'
 | [],d,W,fi,em,E,x2,x3,x4,x5,x6,x7,_,_,L=>⟨W,fi,em,E,x2,x3,x4,x5,x6,x7,by rw [List.map_nil,Z7c,Z0r,List.append_nil],by rw [List.append_nil]; exact L⟩
 | p :: ps,d,W,fi,em,E,x2,x3,x4,x5,x6,x7,hp,h60,L=>by
  have happ:d++p :: ps = (d++[p])++ps:=by simp
  rw [happ] at h60 ⊢
  have h60':(Glu.allLeaves d).length + p.leaves.length ≤ 60:=by
   have:(Glu.allLeaves (d++[p])).length ≤ (Glu.allLeaves (d++[p]++ps)).length:=by
    unfold Glu.allLeaves; rw [List.flatMap_append (xs:=d++[p]),List.length_append]; lia
   rw [Glu.all_snoc,List.length_append] at this
   lia
  refine El.x4_2 (hp p (by simp) σ (Glu.allLeaves d) W (.lst (Z00 fi)) (oV em) (eV E) L.len L.wf h60') fun b fs ls W₁ e1 s1=>?_
  have L1:=L.step s1
  obtain ⟨y7,e2⟩:=Z7V F K C hC σ (Glu.allLeaves d++p.leaves) W₁ (.lst (Z00 (fi++fs))) (oV em) d.length x0 (some (enc p)) (some (.bool b)) (some (.lst (Z00 fs))) (some (.lst (Z00 ls))) ls E x7 (by have:=L.el; have:=s1.ll; lia)
  refine El.x10_2 (Z4X F K C hC σ x0 ps (d++[p]) W₁ (fi++fs) _ _ (some (.int (d.length:Int))) (some (enc p)) (some (.bool b)) (some (.lst (Z00 fs))) (some (.lst (Z00 ls))) y7 (fun q hq=>hp q (by simp [hq])) h60 L1) fun W' fi' em' E' y2 y3 y4 y5 y6 y7' e3 L'=>?_
  refine ⟨W',fi',em',E',y2,y3,y4,y5,y6,y7',?_,L'⟩
  have q1:=Z1d fi fs (by have:=L.fl; have:=s1.fl; lia)
  have a2:Z1G (clsF F) (LS σ (Glu.allLeaves d++p.leaves) W₁ (.lst (Z00 fi)) (oV em) (eV E)) (.inst C σ.length) 2 = some (.lst (Z00 fi)):=Z1M (C:=C) (k:=2) hC (lv0 ..) rfl
  have s2:∀ ρ,setA (clsF F) (.inst C σ.length) (.lst (Z00 (fi++fs))) 2 ⟨ρ,LS σ (Glu.allLeaves d++p.leaves) W₁ (.lst (Z00 fi)) (oV em) (eV E)⟩ = .ok .next ⟨ρ,LS σ (Glu.allLeaves d++p.leaves) W₁ (.lst (Z00 (fi++fs))) (oV em) (eV E)⟩:=fun ρ=>by
   unfold LS
   rw [Zb3 hC (lv0 ..) rfl (by rw [an5]; simp)]
   exact congrArg (fun l=>R.ok Fl.next ⟨ρ,l⟩) (lvsF ..)
  have a4:Z1G (clsF F) (LS σ (Glu.allLeaves d++p.leaves) W₁ (.lst (Z00 (fi++fs))) (oV em) (eV (ls.foldl (fun E x=>Glu.stN E x d.length) E))) (.inst C σ.length) 4 = some (oV em):=Z1M (C:=C) (k:=4) hC (lv0 ..) rfl
  have s4:∀ ρ v,setA (clsF F) (.inst C σ.length) v 4 ⟨ρ,LS σ (Glu.allLeaves d++p.leaves) W₁ (.lst (Z00 (fi++fs))) (oV em) (eV (ls.foldl (fun E x=>Glu.stN E x d.length) E))⟩ = .ok .next ⟨ρ,LS σ (Glu.allLeaves d++p.leaves) W₁ (.lst (Z00 (fi++fs))) v (eV (ls.foldl (fun E x=>Glu.stN E x d.length) E))⟩:=fun ρ v=>by
   unfold LS
   rw [Zb3 hC (lv0 ..) rfl (by rw [an5]; simp)]
   exact congrArg (fun l=>R.ok Fl.next ⟨ρ,l⟩) (lvsE ..)
  have hb:((asT [2,3] (.tup [.int (d.length:Int),enc p]) (S8 x0 (some (.inst C σ.length)) x2 x3 x4 x5 x6 x7 (LS σ (Glu.allLeaves d) W (.lst (Z00 fi)) (oV em) (eV E)))).bind fun _ st=>evSs F K Z1y st) =
    .ok .next (S8 x0 (some (.inst C σ.length)) (some (.int (d.length:Int))) (some (enc p)) (some (.bool b)) (some (.lst (Z00 fs))) (some (.lst (Z00 ls))) y7 (LS σ (Glu.allLeaves d++p.leaves) W₁ (.lst (Z00 (fi++fs))) (oV (if b && em.isNone then some d.length else em)) (eV (ls.foldl (fun E x=>Glu.stN E x d.length) E)))):=by
   rw [as2]
   have hn:oV (some d.length) = .int (d.length:Int):=rfl
   cases b
   ·exact atS fun t=>t e1 (as3 _ _ _ _ _ _ _ _) a2 q1 (s2 _) rfl e2 rfl rfl
   ·cases hem:em.isNone
    ·have hi:(oV em).isNone = false:=by rw [Z7W,hem]
     exact atS fun t=>t e1 (as3 _ _ _ _ _ _ _ _) a2 q1 (s2 _) rfl e2 rfl a4 hi
    ·have hi:(oV em).isNone = true:=by rw [Z7W,hem]
     exact atS fun t=>t e1 (as3 _ _ _ _ _ _ _ _) a2 q1 (s2 _) rfl e2 rfl a4 hi (s4 _ _)
  rw [List.map_cons,Zam,Z0e,hb,R.bind_ok]
  have hlen:(d++[p]).length = d.length + 1:=by simp
  rw [Glu.all_snoc,hlen] at e3
  exact e3
theorem Z6N (F:Fn) (K C:Nat) (hC:clsF F = some (C:Int)) (σ:List O) (ps:List Pt) (h0:ps ≠ []) (h8:ps.length ≤ 8) (hp:∀ p ∈ ps,Z7Q F C p) (h60:(Glu.allLeaves ps).length ≤ 60)
  (hnew:F Z0k [] σ = .ok (.inst C σ.length) ⟨[],σ++[.attrs [.ref (σ.length + 1),.ref (σ.length + 2),.lst [],.ref (σ.length + 3),.none],.lst [],.lst [],.idict []]⟩) :
  ∃ W fi em E,Z07 F K Z1z [.lst (ps.map enc)] σ = .ok (.inst C σ.length) ⟨[],LS σ (Glu.allLeaves ps) W (.lst (Z00 fi)) (oV em) (eV E)⟩∧Glu.Lvd ps W fi em E:=by
 refine El.x10_2 (Z4X F K C hC σ (some (.lst (ps.map enc))) ps [] [] [] none [] none none none none none none hp (by simpa using h60) .nil) fun W fi em E y2 y3 y4 y5 y6 y7 e L=>?_
 rw [List.nil_append] at e L
 refine El.y4_2 W fi em E ?_ L
 have hpv:σ++[O.attrs [.ref (σ.length + 1),.ref (σ.length + 2),.lst [],.ref (σ.length + 3),.none],.lst [],.lst [],.idict []]++[.priv] = LS σ (Glu.allLeaves []) [] (.lst (Z00 [])) (oV none) (eV []):=by rw [List.append_assoc]; rfl
 have ht:(ps.map enc).isEmpty = false:=by cases ps with | nil=>exact absurd rfl h0 | cons a b=>rfl
 have c8:decide ((((ps.map enc).length:Nat):Int) > 8) = false:=decide_eq_false (by rw [List.length_map]; lia)
 have e':evSs F K Z3C (S8 (some (.lst (ps.map enc))) none none none none none none none σ) = .ok (.ret (.inst C σ.length)) (S8 (some (.lst (ps.map enc))) (some (.inst C σ.length)) y2 y3 y4 y5 y6 y7 (LS σ (Glu.allLeaves ps) W (.lst (Z00 fi)) (oV em) (eV E))):=by
  rw [List.length_nil] at e
  exact atS fun t=>t (nn ht) rfl c8 hnew rfl hpv e rfl
 exact Z0B (d:=Z1z) (args:=[.lst (ps.map enc)]) (F:=F) (K:=K) rfl e' (.inr (.inl (by show V.lo _ (.inst C σ.length) = false; rw [Z2V]; exact decide_eq_false (Nat.lt_irrefl _))))
theorem Z6O {α:Type} (l:List α) (x:α):(l++[x])[l.length]? = some x:=by simp
theorem Zep {α:Type} (l:List α) (x y:α):(l++[x]).set l.length y = l++[y]:=by simp
theorem Zcr {α:Type} (l r:List α) (x:α):(l++x :: r)[l.length]? = some x:=by simp
theorem Z8W {α:Type} (l r:List α) (x y:α):(l++x :: r).set l.length y = l++y :: r:=by simp
noncomputable def Cl (σ:List O):Prop:=σ.all (O.lo σ.length) = true
theorem atF {F:Fn} {K:Nat} {d:Def} {args:List V} {σ:List O} {r:V} (hl:args.length = d.params.length) (hσ:Cl σ) (t:(tlSs F K false d.body ⟨args.map some++List.replicate (d.slots - args.length) none,σ⟩ fun fl st'=>∀ ⦃τ⦄,st'.σ = σ++τ→fl.val.lo σ.length = true→Z07 F K d args σ = .ok fl.val ⟨[],σ⟩)→Z07 F K d args σ = .ok r ⟨[],σ⟩):Z07 F K d args σ = .ok r ⟨[],σ⟩:=by
 refine t (Z8L F K false _ _ _ fun fl st' e τ h1 h2=>?_)
 unfold Z07
 rw [if_pos hl,e]
 have h3:(σ++τ).take σ.length = σ:=List.take_left' rfl
 have h4:σ.all (O.lo σ.length) = true:=hσ
 rw [R.bind_ok,h1,h3,h2,h4]; rfl
theorem app0 {σ:List O}:σ = σ++[]:=(List.append_nil σ).symm
theorem Cl.snoc {σ:List O} (h:Cl σ) {xs:List V} (hx:V.los 0 xs = true):Cl (σ++[.lst xs]):=by
 unfold Cl
 rw [List.all_append,List.length_append,Bool.and_eq_true]
 refine ⟨List.all_eq_true.mpr fun o ho=>O.lo_mono (Nat.le_add_right _ _) (List.all_eq_true.mp h o ho),?_⟩
 simp only [List.all_cons,List.all_nil,Bool.and_true]
 exact V.los_mono (Nat.zero_le _) _ hx
theorem Cl.dead {σ:List O} (h:Cl σ):Cl (σ++[.dead]):=by
 unfold Cl
 rw [List.all_append,List.length_append,Bool.and_eq_true]
 exact ⟨List.all_eq_true.mpr fun o ho=>O.lo_mono (Nat.le_add_right _ _) (List.all_eq_true.mp h o ho),rfl⟩
theorem Z1B (n:Nat) (l:List Nat):V.los n (Z00 l) = true:=Z3E fun x hx=>by obtain ⟨k,_,rfl⟩:=List.mem_map.mp hx; exact Z0f _
theorem Zcs {σ:List O} (h:Cl σ) (ss W:List (List Nat)) (fi:List Nat) (em:Option Nat) (E:List (Nat × Nat)):Cl (LS σ ss W (.lst (Z00 fi)) (oV em) (eV E)):=by
 unfold Cl
 rw [Z5M]
 unfold LS
 rw [List.all_append,Bool.and_eq_true]
 refine ⟨List.all_eq_true.mpr fun o ho=>O.lo_mono (by lia) (List.all_eq_true.mp h o ho),List.all_eq_true.mpr fun o ho=>?_⟩
 unfold Lv at ho
 simp only [List.mem_cons] at ho
 have he:(oV em).lo (σ.length + 5 + W.length) = true:=by cases em; exact Z0X; exact Z0f _
 rcases ho with rfl | rfl | rfl | rfl | rfl | ho
 ·show V.los _ _ = true
  simp only [Z02,Z09,Z0R,Z0p,Z1B,he,Bool.and_true,Bool.true_and,Bool.and_eq_true,decide_eq_true_eq]
  lia
 ·exact Z3E fun x hx=>by obtain ⟨k,_,rfl⟩:=List.mem_map.mp hx; exact Z0b _
 ·refine Z3E fun x hx=>?_
  refine El.x1_2 (List.mem_map.mp hx) fun k hk q0z=>?_
  obtain rfl:=q0z
  rw [Z0R]
  have:=List.mem_range.mp hk
  exact decide_eq_true (by lia)
 ·refine Z3E fun x hx=>?_
  unfold eV at hx
  rw [List.map_map] at hx
  refine El.x1_2 (List.mem_map.mp hx) fun k hk q1z=>?_
  obtain rfl:=q1z
  exact Z0f _
 ·rfl
 ·refine El.x1_2 (List.mem_map.mp ho) fun ws hw q2z=>?_
  obtain rfl:=q2z
  refine Z3E fun x hx=>?_
  unfold dl at hx
  rw [List.map_map] at hx
  refine El.x1_2 (List.mem_map.mp hx) fun k hk q3z=>?_
  obtain rfl:=q3z
  exact Z0Y _
noncomputable def hits (ss:List (List Nat)) (c x:Nat):Bool:=(ss.getD x []).contains c
theorem Z6P (ss:List (List Nat)) (c x:Nat):hits ss c x = true↔Glu.Sg ss 0 x c:=by
 unfold hits Glu.Sg
 rw [List.contains_iff_mem,List.getD_eq_getElem?_getD,Nat.sub_zero]
 cases e:ss[x]? with
 | none=>simp
 | some s=>simp
section
variable (F:Fn) (K C:Nat) (hC:clsF F = some (C:Int)) (σ:List O) (ss:List (List Nat)) (bs:List V) (fi em:V) (es:List (Int × V))
include hC
theorem Z6Q (D:List O) (c:Nat) (x1 x5:Option V) (h60:ss.length ≤ 60):∀ (xs found:List Nat) (x4:Option V),(∀ x ∈ xs,x < ss.length)→found.Nodup→(∀ y ∈ found,y < 60) →
  ∃ y4,forR (fun x st=>evSs F K Z2y (setV st 4 x)) (Z00 xs) (S6 (some (.inst C σ.length)) x1 (some (.str [c])) (some (.ref (σ.length + 5 + D.length))) x4 x5 (σ++Lv σ.length (ss.map .str) bs fi em es (D++[dV found]))) =
   .ok .next (S6 (some (.inst C σ.length)) x1 (some (.str [c])) (some (.ref (σ.length + 5 + D.length))) y4 x5 (σ++Lv σ.length (ss.map .str) bs fi em es (D++[dV (Glu.takeK (hits ss c) xs found)])))
 | [],found,x4,_,_,_=>⟨x4,by rw [Z00,List.map_nil,Z0r]; rfl⟩
 | x :: xs,found,x4,hx,hn,hf=>by
  have hlt:=hx x (by simp)
  obtain ⟨s,hs⟩:∃ s,ss[x]? = some s:=⟨ss[x],by simp [hlt]⟩
  have hh:hits ss c x = s.contains c:=by unfold hits; rw [List.getD_eq_getElem?_getD,hs]; rfl
  obtain ⟨y4,e⟩:=Z6Q D c x1 x5 h60 xs (if hits ss c x then Glu.ins found x else found) (some (.int (x:Int))) (fun z hz=>hx z (by simp [hz])) (by split; exact Glu.nodup_ins hn; exact hn) (fun y hy=>by
   split at hy
   ·exact (Glu.mem_ins.mp hy).elim (hf y) fun q=>by lia
   ·exact hf y hy)
  refine ⟨y4,?_⟩
  have a0:=Z1M (C:=C) (k:=0) hC (lv0 σ (ss.map .str) bs fi em es (D++[dV found])) rfl
  have g0:Z0H (σ++Lv σ.length (ss.map .str) bs fi em es (D++[dV found])) (.ref (σ.length + 1)) (.int (x:Int)) = some (.str s):=by rw [Z3r (lv1 ..),Z0y _ (by lia),List.getElem?_map,hs]; rfl
  have hfl:=Glu.nodup_le hn hf
  have s3:∀ ρ,setI (.ref (σ.length + 5 + D.length)) (.int (x:Int)) (.bool true) ⟨ρ,σ++Lv σ.length (ss.map .str) bs fi em es (D++[dV found])⟩ = .ok .next ⟨ρ,σ++Lv σ.length (ss.map .str) bs fi em es (D++[dV (Glu.ins found x)])⟩:=fun ρ=>by
   rw [Zb2 (es:=dl found) (by rw [lvD,Z6O]; rfl) (by rw [Zcf]; unfold sizeLine; lia),lvsD,Zep,Z7P]; rfl
  have hb:evSs F K Z2y (setV (S6 (some (.inst C σ.length)) x1 (some (.str [c])) (some (.ref (σ.length + 5 + D.length))) x4 x5 (σ++Lv σ.length (ss.map .str) bs fi em es (D++[dV found]))) 4 (.int (x:Int))) =
    .ok .next (S6 (some (.inst C σ.length)) x1 (some (.str [c])) (some (.ref (σ.length + 5 + D.length))) (some (.int (x:Int))) x5 (σ++Lv σ.length (ss.map .str) bs fi em es (D++[dV (if hits ss c x then Glu.ins found x else found)]))):=by
   rw [hh]
   cases hc:s.contains c
   ·exact atS fun t=>t a0 g0 rfl hc
   ·exact atS fun t=>t a0 g0 rfl hc (s3 _)
  rw [Z00,List.map_cons,Z0e,hb,R.bind_ok]
  exact e
theorem Z7X (X:List O) (W:List (List Nat)) (hW:W.length = ss.length) (hw:Glu.Wf W) (hr:∀ x y,Glu.Rel W x y→y < ss.length) (c:Nat) (x1:Option V) (h60:ss.length ≤ 60):∀ (xs found:List Nat) (x4 x5:Option V),(∀ x ∈ xs,x < W.length)→found.Nodup→(∀ y ∈ found,y < 60) →
  ∃ found' y4 y5,forR (fun x st=>evSs F K Z6C (setV st 5 x)) (Z00 xs) (S6 (some (.inst C σ.length)) x1 (some (.str [c])) (some (.ref (σ.length + 5 + (W.map dV++X).length))) x4 x5 (σ++Lv σ.length (ss.map .str) (rowB σ.length W.length) fi em es (W.map dV++X++[dV found]))) =
   .ok .next (S6 (some (.inst C σ.length)) x1 (some (.str [c])) (some (.ref (σ.length + 5 + (W.map dV++X).length))) y4 y5 (σ++Lv σ.length (ss.map .str) (rowB σ.length W.length) fi em es (W.map dV++X++[dV found'])))∧found'.Nodup∧(∀ y ∈ found',y < 60)∧∀ y,y ∈ found'↔y ∈ found ∨ ∃ x ∈ xs,Glu.Rel W x y∧hits ss c y = true
 | [],found,x4,x5,_,hn,hf=>⟨found,x4,x5,by rw [Z00,List.map_nil,Z0r],hn,hf,fun y=>by simp⟩
 | x :: xs,found,x4,x5,hx,hn,hf=>by
  have hlt:=hx x (by simp)
  have hlD:W.length ≤ (W.map dV++X).length:=by rw [List.length_append,List.length_map]; exact Nat.le_add_right _ _
  have hrel:∀ y,y ∈ W[x]↔Glu.Rel W x y:=fun y=>⟨fun q=>⟨_,List.getElem?_eq_getElem hlt,q⟩,fun ⟨ws,e,q⟩=>by rw [List.getElem?_eq_getElem hlt] at e; cases e; exact q⟩
  have hDs:((W.map dV++X).set x .priv).length = (W.map dV++X).length:=List.length_set ..
  refine El.x1_1 (Z6Q F K C hC σ ss (rowB σ.length W.length) fi em es ((W.map dV++X).set x .priv) c x1 (some (.int (x:Int))) h60 W[x] found x4 (fun y hy=>hr x y ((hrel y).mp hy)) hn hf) fun y4 e1=>?_
  rw [hDs] at e1
  have hn':(Glu.takeK (hits ss c) W[x] found).Nodup:=Glu.nodup_takeK hn
  have hf':∀ y ∈ Glu.takeK (hits ss c) W[x] found,y < 60:=fun y hy=>(Glu.mem_takeK.mp hy).elim (hf y) fun q=>by have:=hr x y ((hrel y).mp q.1); lia
  refine El.x3_4 (Z7X X W hW hw hr c x1 h60 xs (Glu.takeK (hits ss c) W[x] found) y4 (some (.int (x:Int))) (fun z hz=>hx z (by simp [hz])) hn' hf') fun found' z4 z5 e2 g1 g2 g3=>?_
  refine El.y3_4 found' z4 z5 ?_ g1 g2 (fun y=>?_)
  ·have a1:=Z1M (C:=C) (k:=1) hC (lv0 σ (ss.map .str) (rowB σ.length W.length) fi em es (W.map dV++X++[dV found])) rfl
   have s1:Z0H (σ++Lv σ.length (ss.map .str) (rowB σ.length W.length) fi em es (W.map dV++X++[dV found])) (.ref (σ.length + 2)) (.int (x:Int)) = some (.ref (σ.length + 5 + x)):=by rw [Z3r (lv2 ..),Z0y _ (by lia),Z6L hlt]
   have hxD:x < (W.map dV++X).length:=Nat.lt_of_lt_of_le hlt hlD
   have hx0:x < (W.map dV).length:=by rw [List.length_map]; exact hlt
   have gx:(σ++Lv σ.length (ss.map .str) (rowB σ.length W.length) fi em es (W.map dV++X++[dV found]))[σ.length + 5 + x]? = some (.idict (dl W[x])):=by
    rw [lvD,List.getElem?_append_left hxD,List.getElem?_append_left hx0,List.getElem?_map,List.getElem?_eq_getElem hlt]; rfl
   have hkeys:((dl W[x]).map fun p:Int × V=>V.int p.1) = Z00 W[x]:=by unfold dl Z00; rw [List.map_map]; rfl
   have hL:Z9R = Z2y:=rfl
   have fd:=ZgY (step:=fun x st=>evSs F K Z2y (setV st 4 x)) (ρ:=[some (.inst C σ.length),x1,some (.str [c]),some (.ref (σ.length + 5 + (W.map dV++X).length)),x4,some (.int (x:Int))]) gx (by rw [hkeys,lvsD,List.set_append_left _ _ hxD]; exact e1)
   have hback:((W.map dV++X).set x .priv).set x (.idict (dl W[x])) = W.map dV++X:=by
    rw [List.set_set]
    refine List.ext_getElem? fun i=>?_
    by_cases hi:x = i
    ·subst hi
     rw [List.getElem?_set_self hxD,List.getElem?_append_left hx0,List.getElem?_map,List.getElem?_eq_getElem hlt]; rfl
    ·rw [List.getElem?_set_ne hi]
   rw [lvsD,List.set_append_left _ _ (by rw [List.length_set]; exact hxD),hback] at fd
   have hb:evSs F K Z6C (setV (S6 (some (.inst C σ.length)) x1 (some (.str [c])) (some (.ref (σ.length + 5 + (W.map dV++X).length))) x4 x5 (σ++Lv σ.length (ss.map .str) (rowB σ.length W.length) fi em es (W.map dV++X++[dV found]))) 5 (.int (x:Int))) =
     .ok .next (S6 (some (.inst C σ.length)) x1 (some (.str [c])) (some (.ref (σ.length + 5 + (W.map dV++X).length))) y4 (some (.int (x:Int))) (σ++Lv σ.length (ss.map .str) (rowB σ.length W.length) fi em es (W.map dV++X++[dV (Glu.takeK (hits ss c) W[x] found)]))):=by
    exact atS fun t=>t a1 s1 fd
   rw [Z00,List.map_cons,Z0e,hb,R.bind_ok]
   exact e2
  ·rw [g3,Glu.mem_takeK,hrel,or_assoc]
   constructor
   ·rintro (h | h | ⟨z,h1,h2⟩)
    ·exact .inl h
    ·exact .inr ⟨x,by simp,h⟩
    ·exact .inr ⟨z,by simp [h1],h2⟩
   ·rintro (h | ⟨z,h1,h2⟩)
    ·exact .inl h
    ·rcases List.mem_cons.mp h1 with rfl | h1
     ·exact .inr (.inl h2)
     ·exact .inr (.inr ⟨z,h1,h2⟩)
end
noncomputable def insN (i:Nat):List Nat→List Nat
 | []=>[i]
 | j :: r=>if i ≤ j then i :: j :: r else j :: insN i r
noncomputable def Z7Y (l:List Nat):List Nat:=l.foldr insN []
theorem Za1 (i x:Nat):∀ l:List Nat,x ∈ insN i l↔x = i ∨ x ∈ l
 | []=>by simp [insN]
 | j :: r=>by
  unfold insN
  split
  ·simp
  ·simp only [List.mem_cons,Za1 i x r]
   constructor
   ·rintro (h | h | h)
    ·exact .inr (.inl h)
    ·exact .inl h
    ·exact .inr (.inr h)
   ·rintro (h | h | h)
    ·exact .inr (.inl h)
    ·exact .inl h
    ·exact .inr (.inr h)
theorem Z1X (x:Nat):∀ l:List Nat,x ∈ Z7Y l↔x ∈ l
 | []=>Iff.rfl
 | i :: l=>by
  show x ∈ insN i (Z7Y l)↔_
  rw [Za1,Z1X x l,List.mem_cons]
theorem Za2 (i:Nat):∀ l:List Nat,(insN i l).length = l.length + 1
 | []=>rfl
 | j :: r=>by
  unfold insN
  split
  ·rfl
  ·rw [List.length_cons,Za2 i r,List.length_cons]
theorem Z4Y:∀ l:List Nat,(Z7Y l).length = l.length
 | []=>rfl
 | i :: l=>by
  show (insN i (Z7Y l)).length = _
  rw [Za2,Z4Y l,List.length_cons]
theorem Za3 (i:Nat):∀ l:List Nat,insI (i:Int) (l.map fun n:Nat=>(n:Int)) = (insN i l).map fun n:Nat=>(n:Int)
 | []=>rfl
 | j :: r=>by
  rw [List.map_cons]
  unfold insI insN
  by_cases h:i ≤ j
  ·rw [if_pos (by lia),if_pos h]; rfl
  ·rw [if_neg (by lia),if_neg h,Za3 i r]; rfl
theorem Z7Z:∀ l:List Nat,Z7b (l.map fun n:Nat=>(n:Int)) = (Z7Y l).map fun n:Nat=>(n:Int)
 | []=>rfl
 | i :: l=>by
  show insI (i:Int) (Z7b (l.map fun n:Nat=>(n:Int))) = _
  rw [Z7Z l,Za3]; rfl
theorem Zfd (σ:List O) (n:Nat) (found:List Nat) (h:σ[n]? = some (dV found)) (hl:found.length < 64):Z1n σ .sorted (.ref n) = some (.lst (Z00 (Z7Y found))):=by
 rw [Zde h (by rw [Zcf]; exact hl)]
 have:((dl found).map fun p:Int × V=>p.1) = found.map fun n:Nat=>(n:Int):=by unfold dl; rw [List.map_map]; rfl
 rw [this,Z7Z]
 unfold Z00
 rw [List.map_map]; rfl
noncomputable def TS (σ:List O) (ps:List Pt) (W:List (List Nat)) (fi:List Nat) (em:Option Nat) (E:List (Nat × Nat)):List O:=LS σ (Glu.allLeaves ps) W (.lst (Z00 fi)) (oV em) (eV E)
theorem Z5O (σ:List O) (ss bs:List V) (fi em:V) (es:List (Int × V)) (D X:List O):(σ++Lv σ.length ss bs fi em es D)++X = σ++Lv σ.length ss bs fi em es (D++X):=List.append_assoc ..
section
variable (F:Fn) (K C:Nat) (hC:clsF F = some (C:Int)) {σ:List O} (hσ:Cl σ) {ps:List Pt} {W:List (List Nat)} {fi:List Nat} {em:Option Nat} {E:List (Nat × Nat)} (L:Glu.Lvd ps W fi em E) (h60:(Glu.allLeaves ps).length ≤ 60) {X:List O} (hX:Cl (TS σ ps W fi em E++X))
include hC hσ L h60 hX
theorem Zct (c:Nat):∃ l,Z07 F K Z9S [.inst C σ.length,.none,.str [c]] (TS σ ps W fi em E++X) = .ok (.tup (Z00 l)) ⟨[],TS σ ps W fi em E++X⟩∧(l.length ≤ 60∧∀ y ∈ l,y < W.length)∧∀ y,y ∈ l↔y ∈ fi∧Glu.Sg (Glu.allLeaves ps) 0 y c:=by
 have hlt:∀ x ∈ fi,x < (Glu.allLeaves ps).length:=fun x hx=>Glu.gf_lt ((L.f x).mp hx)
 refine El.x1_1 (Z6Q F K C hC σ (Glu.allLeaves ps) (rowB σ.length W.length) (.lst (Z00 fi)) (oV em) (eV E) (W.map dV++X) c (some .none) none h60 fi [] none hlt List.nodup_nil (fun _ h=>by cases h)) fun y4 e=>?_
 have hm:∀ y,y ∈ Glu.takeK (hits (Glu.allLeaves ps) c) fi []↔y ∈ fi∧Glu.Sg (Glu.allLeaves ps) 0 y c:=fun y=>by rw [Glu.mem_takeK,Z6P]; simp
 have hfl:=Glu.nodup_le (n:=60) (l:=Glu.takeK (hits (Glu.allLeaves ps) c) fi []) (Glu.nodup_takeK List.nodup_nil) fun y hy=>by have:=hlt y ((hm y).mp hy).1; lia
 refine ⟨Z7Y (Glu.takeK (hits (Glu.allLeaves ps) c) fi []),?_,⟨by rw [Z4Y]; exact hfl,fun y hy=>?_⟩,fun y=>by rw [Z1X,hm]⟩
 ·refine Z0w rfl ?_ (by rw [Z0s]; exact Z1B _ _) hX
  show Ret (evSs F K Z8M (S6 (some (.inst C σ.length)) (some .none) (some (.str [c])) none none none (TS σ ps W fi em E++X))) _ _
  have hlen:(TS σ ps W fi em E++X).length = σ.length + 5 + (W.map dV++X).length:=by rw [List.length_append,List.length_append,List.length_map,← Nat.add_assoc]; exact congrArg (· + X.length) (Z5M ..)
  have happ:∀ x:O,TS σ ps W fi em E++X++[x] = σ++Lv σ.length ((Glu.allLeaves ps).map .str) (rowB σ.length W.length) (.lst (Z00 fi)) (oV em) (eV E) (W.map dV++X++[x]):=fun x=>(congrArg (·++[x]) (Z5O ..)).trans (Z5O ..)
  have a2:Z1G (clsF F) (σ++Lv σ.length ((Glu.allLeaves ps).map .str) (rowB σ.length W.length) (.lst (Z00 fi)) (oV em) (eV E) (W.map dV++X++[.idict []])) (.inst C σ.length) 2 = some (.lst (Z00 fi)):=Z1M hC (lv0 ..) rfl
  have hd0:O.idict [] = dV []:=rfl
  have gl:(σ++Lv σ.length ((Glu.allLeaves ps).map .str) (rowB σ.length W.length) (.lst (Z00 fi)) (oV em) (eV E) (W.map dV++X++[dV (Glu.takeK (hits (Glu.allLeaves ps) c) fi [])]))[σ.length + 5 + (W.map dV++X).length]? = some (dV (Glu.takeK (hits (Glu.allLeaves ps) c) fi [])):=by
   rw [lvD,Z6O]
  have ts:=Zfd _ _ _ gl (by lia)
  refine Ret.mk (ρ:=[some (.inst C σ.length),some .none,some (.str [c]),some (.ref (σ.length + 5 + (W.map dV++X).length)),y4,none]) (τ:=[dV (Glu.takeK (hits (Glu.allLeaves ps) c) fi [])]) ?_
  rw [happ]
  rw [← hd0] at e
  exact atS fun t=>t hlen (happ _) rfl rfl a2 rfl e ts (Zb4 _ _) rfl
 ·rw [Z1X] at hy
  rw [L.len]; exact hlt y ((hm y).mp hy).1
theorem Zcu (c:Nat) (xs:List Nat) (hx:∀ x ∈ xs,x < W.length):∃ l,Z07 F K Z9S [.inst C σ.length,.tup (Z00 xs),.str [c]] (TS σ ps W fi em E++X) = .ok (.tup (Z00 l)) ⟨[],TS σ ps W fi em E++X⟩∧(l.length ≤ 60∧∀ y ∈ l,y < W.length)∧∀ y,y ∈ l↔∃ x,x ∈ xs∧(Glu.G ps).R x y∧Glu.Sg (Glu.allLeaves ps) 0 y c:=by
 have hr:∀ x y,Glu.Rel W x y→y < (Glu.allLeaves ps).length:=fun x y h=>(Glu.gr_lt ((L.r x y).mp h)).2
 refine El.x3_4 (Z7X F K C hC σ (Glu.allLeaves ps) (.lst (Z00 fi)) (oV em) (eV E) X W L.len L.wf hr c (some (.tup (Z00 xs))) h60 xs [] none none hx List.nodup_nil (fun _ h=>by cases h)) fun found y4 y5 e hn hf hm=>?_
 have hm':∀ y,y ∈ found↔∃ x,x ∈ xs∧(Glu.G ps).R x y∧Glu.Sg (Glu.allLeaves ps) 0 y c:=fun y=>by
  rw [hm]
  constructor
  ·rintro (h | ⟨x,h1,h2,h3⟩)
   ·cases h
   ·exact ⟨x,h1,(L.r x y).mp h2,(Z6P ..).mp h3⟩
  ·intro q4z
   refine El.x1_3 q4z fun x h1 h2 h3=>?_
   exact .inr ⟨x,h1,(L.r x y).mpr h2,(Z6P ..).mpr h3⟩
 have hfl:=Glu.nodup_le hn hf
 refine ⟨Z7Y found,?_,⟨by rw [Z4Y]; exact hfl,fun y hy=>?_⟩,fun y=>by rw [Z1X,hm']⟩
 ·refine Z0w rfl ?_ (by rw [Z0s]; exact Z1B _ _) hX
  show Ret (evSs F K Z8M (S6 (some (.inst C σ.length)) (some (.tup (Z00 xs))) (some (.str [c])) none none none (TS σ ps W fi em E++X))) _ _
  have hlen:(TS σ ps W fi em E++X).length = σ.length + 5 + (W.map dV++X).length:=by rw [List.length_append,List.length_append,List.length_map,← Nat.add_assoc]; exact congrArg (· + X.length) (Z5M ..)
  have happ:∀ x:O,TS σ ps W fi em E++X++[x] = σ++Lv σ.length ((Glu.allLeaves ps).map .str) (rowB σ.length W.length) (.lst (Z00 fi)) (oV em) (eV E) (W.map dV++X++[x]):=fun x=>(congrArg (·++[x]) (Z5O ..)).trans (Z5O ..)
  have hd0:O.idict [] = dV []:=rfl
  have gl:(σ++Lv σ.length ((Glu.allLeaves ps).map .str) (rowB σ.length W.length) (.lst (Z00 fi)) (oV em) (eV E) (W.map dV++X++[dV found]))[σ.length + 5 + (W.map dV++X).length]? = some (dV found):=by
   rw [lvD,Z6O]
  have ts:=Zfd _ _ _ gl (by lia)
  refine Ret.mk (ρ:=[some (.inst C σ.length),some (.tup (Z00 xs)),some (.str [c]),some (.ref (σ.length + 5 + (W.map dV++X).length)),y4,y5]) (τ:=[dV found]) ?_
  rw [happ]
  rw [← hd0] at e
  exact atS fun t=>t hlen (happ _) rfl rfl rfl e ts (Zb4 _ _) rfl
 ·rw [Z1X] at hy
  refine El.x1_3 ((hm' y).mp hy) fun x h1 h2 _=>?_
  rw [L.len]; exact (Glu.gr_lt h2).2
end
theorem Z6R {n:Nat} {a b:List V} (ha:V.los n a = true) (hb:V.los n b = true):V.los n (a++b) = true:=by
 induction a with
 | nil=>exact hb
 | cons x a ih=>
  rw [Z02,Bool.and_eq_true] at ha
  rw [List.cons_append,Z02,ha.1,ih ha.2]; rfl
theorem Za4 {F:Fn} {elt:Ex} {ifs:Exs} {ρ₀:List (Option V)} {σ:List O} {k:Nat} (f:V→Option V):∀ (xs:List V),(∀ x ∈ xs,∀ y,f x = some y→y.lo 0 = true) →
  (∀ x ∈ xs,∀ acc,V.los 0 acc = true→evTs F ifs ⟨ρ₀.set k (some x),σ++[.lst acc]⟩ = .ok (f x).isSome ⟨ρ₀.set k (some x),σ++[.lst acc]⟩∧∀ y,f x = some y→evE F elt ⟨ρ₀.set k (some x),σ++[.lst acc]⟩ = .ok y ⟨ρ₀.set k (some x),σ++[.lst acc]⟩) →
  ∀ (acc:List V) (v:Option V),V.los 0 acc = true→acc.length + xs.length ≤ sizeLine →
  ∃ v',Z2T k σ.length (evTs F ifs) (evE F elt) xs ⟨ρ₀.set k v,σ++[.lst acc]⟩ = .ok () ⟨ρ₀.set k v',σ++[.lst (acc++xs.filterMap f)]⟩
 | [],_,_,acc,v,_,_=>⟨v,by rw [Z7f,List.filterMap_nil,List.append_nil]⟩
 | x :: xs,hf,h,acc,v,ha,hl=>by
  refine El.x0_2 (h x (by simp) acc ha) fun h1 h2=>?_
  have hl':acc.length + (xs.length + 1) ≤ sizeLine:=hl
  have hset:setV ⟨ρ₀.set k v,σ++[.lst acc]⟩ k x = ⟨ρ₀.set k (some x),σ++[.lst acc]⟩:=by rw [qset,List.set_set]
  have ih:=fun acc=>Za4 f xs (fun y hy=>hf y (by simp [hy])) (fun z hz=>h z (by simp [hz])) acc (some x)
  rw [Z2U,hset,h1,R.bind_ok]
  cases hx:f x with
  | none=>
   refine El.x1_1 (ih acc ha (by omega)) fun v' e=>?_
   refine ⟨v',?_⟩
   rw [List.filterMap_cons_none hx]
   simp only [Option.isSome_none,Bool.false_eq_true,if_false]
   exact e
  | some y=>
   obtain ⟨v',e⟩:=ih (acc++[y]) (Z6R ha (by rw [Z02,hf x (by simp) y hx,Z09]; rfl)) (by rw [List.length_append,List.length_singleton]; omega)
   refine ⟨v',?_⟩
   rw [List.filterMap_cons_some hx]
   simp only [Option.isSome_some,if_true]
   rw [h2 y hx,R.bind_ok]
   have hg:(σ++[O.lst acc])[σ.length]? = some (.lst acc):=by simp
   have hs:(σ++[O.lst acc]).set σ.length (.lst (acc++[y])) = σ++[.lst (acc++[y])]:=by simp
   simp only [hg,hs]
   rw [if_pos (by omega),e]
   simp
theorem Z6S {F:Fn} {elt:Ex} {ifs:Exs} {ρ₀:List (Option V)} {σ:List O} {k:Nat} {it:It} {xs:List V} (f:V→Option V) (hf:∀ x ∈ xs,∀ y,f x = some y→y.lo 0 = true) (hit:evIt F it ⟨ρ₀,σ⟩ = .ok xs ⟨ρ₀,σ⟩) (hl:xs.length ≤ sizeLine)
  (h:∀ x ∈ xs,∀ acc,V.los 0 acc = true→evTs F ifs ⟨ρ₀.set k (some x),σ++[.lst acc]⟩ = .ok (f x).isSome ⟨ρ₀.set k (some x),σ++[.lst acc]⟩∧∀ y,f x = some y→evE F elt ⟨ρ₀.set k (some x),σ++[.lst acc]⟩ = .ok y ⟨ρ₀.set k (some x),σ++[.lst acc]⟩) :
  evE F (.comp elt k it ifs) ⟨ρ₀,σ⟩ = .ok (.lst (xs.filterMap f)) ⟨ρ₀.set k none,σ++[.dead]⟩:=by
 refine El.x1_1 (Za4 f xs hf h [] none Z09 (by simpa using hl)) fun v' h1=>?_
 rw [Z61,hit,R.bind_ok]
 dsimp only
 rw [h1,R.bind_ok]
 simp
theorem Z2J {F:Fn} {elt:Ex} {ρ₀:List (Option V)} {σ:List O} {k:Nat} {it:It} {xs:List V} (f:V→V) (hf:∀ x ∈ xs,(f x).lo 0 = true) (hit:evIt F it ⟨ρ₀,σ⟩ = .ok xs ⟨ρ₀,σ⟩) (hl:xs.length ≤ sizeLine)
  (h:∀ x ∈ xs,∀ acc,V.los 0 acc = true→evE F elt ⟨ρ₀.set k (some x),σ++[.lst acc]⟩ = .ok (f x) ⟨ρ₀.set k (some x),σ++[.lst acc]⟩) :
  evE F (.comp elt k it .nil) ⟨ρ₀,σ⟩ = .ok (.lst (xs.map f)) ⟨ρ₀.set k none,σ++[.dead]⟩:=by
 have:=Z6S (F:=F) (elt:=elt) (ifs:=.nil) (ρ₀:=ρ₀) (σ:=σ) (k:=k) (it:=it) (xs:=xs) (fun x=>some (f x)) (fun x hx y e=>by cases e; exact hf x hx) hit hl fun x hx acc ha=>⟨by rw [Z9j]; rfl,fun y e=>by cases e; exact h x hx acc ha⟩
 have e:xs.filterMap (fun x=>some (f x)) = xs.map f:=by
  have:=congrFun (List.filterMap_eq_map (f:=f)) xs
  exact this
 rw [e] at this
 exact this
theorem Za5 (g:Nat→Option Nat) (f:V→Option V):∀ xs:List Nat,(∀ x ∈ xs,f (.int (x:Int)) = (g x).map fun k:Nat=>V.int (k:Int))→(Z00 xs).filterMap f = Z00 (xs.filterMap g)
 | [],_=>rfl
 | x :: xs,h=>by
  have ih:=Za5 g f xs fun y hy=>h y (by simp [hy])
  have hx:=h x (by simp)
  show (V.int (x:Int) :: Z00 xs).filterMap f = _
  cases hg:g x with
  | none=>rw [hg] at hx; rw [List.filterMap_cons_none hx,List.filterMap_cons_none hg,ih]
  | some k=>rw [hg] at hx; rw [List.filterMap_cons_some hx,List.filterMap_cons_some hg,ih]; rfl
theorem Zeq (l:List Nat):Z47 (.lst (Z00 l)) = some (oV (Glu.minO l)):=by
 cases l with
 | nil=>rfl
 | cons k l=>
  have h:Z0t (Z00 (k :: l)) = some ((k:Int) :: l.map fun n:Nat=>(n:Int)):=Z3N (k :: l)
  rw [Zh2 h]
  have:∀ (l:List Nat) (k:Nat),(l.map fun n:Nat=>(n:Int)).foldl min (k:Int) = ((l.foldl min k:Nat):Int):=by
   intro l
   induction l with
   | nil=>intro k; rfl
   | cons j l ih=>
    intro k
    rw [List.map_cons,List.foldl_cons,List.foldl_cons,← ih]
    congr 1
    omega
  rw [this]; rfl
theorem Zhy (n:Nat) (o:Option Nat):(oV o).lo n = true:=by cases o; exact Z0X; exact Z0f _
theorem Zhz (E:List (Nat × Nat)) (x:Nat):dGet (eV E) (x:Int) = (Glu.getE E x).map fun k:Nat=>V.int (k:Int):=by
 unfold dGet eV Glu.getE
 rw [List.find?_map,Option.map_map,Option.map_map]
 have:(fun p:Int × V=>decide (p.1 = (x:Int))) ∘ (fun p:Nat × Nat=>((p.1:Int),V.int (p.2:Int))) = fun p:Nat × Nat=>decide (p.1 = x):=by
  funext p
  simp only [Function.comp]
  rw [Bool.eq_iff_iff,decide_eq_true_eq,decide_eq_true_eq]; omega
 rw [this]; rfl
theorem ZhA (E:List (Nat × Nat)) (x:Nat):((eV E).any fun p=>p.1 = (x:Int)) = (Glu.getE E x).isSome:=by
 unfold eV Glu.getE
 rw [List.any_map,Option.isSome_map,Bool.eq_iff_iff,List.find?_isSome,List.any_eq_true]
 simp only [Function.comp,decide_eq_true_eq]
 exact ⟨fun ⟨p,h1,h2⟩=>⟨p,h1,by omega⟩,fun ⟨p,h1,h2⟩=>⟨p,h1,by omega⟩⟩
section
variable (F:Fn) (K C:Nat) (hC:clsF F = some (C:Int)) {σ:List O} (hσ:Cl σ) {ps:List Pt} {W:List (List Nat)} {fi:List Nat} {em:Option Nat} {E:List (Nat × Nat)} {X:List O} (hX:Cl (TS σ ps W fi em E++X))
include hC hσ hX
theorem Zcv (xs:List Nat) (hl:xs.length ≤ 60):Z07 F K Z4H [.inst C σ.length,.tup (Z00 xs)] (TS σ ps W fi em E++X) = .ok (oV (Glu.minO (xs.filterMap (Glu.getE E)))) ⟨[],TS σ ps W fi em E++X⟩:=by
 refine Z0w rfl ?_ (Zhy _ _) hX
 show Ret (evSs F K Z5F ⟨[some (.inst C σ.length),some (.tup (Z00 xs)),none],TS σ ps W fi em E++X⟩) _ _
 have g3:∀ x:O,(TS σ ps W fi em E++X++[x])[σ.length + 3]? = some (.idict (eV E)):=fun x=>by unfold TS LS; rw [Z5O,Zgp,lv3]
 have a3:∀ x:O,Z1G (clsF F) (TS σ ps W fi em E++X++[x]) (.inst C σ.length) 3 = some (.ref (σ.length + 3)):=fun x=>by unfold TS LS; rw [Z5O,Zgp]; exact Z1M hC (lv0 ..) rfl
 let f:V→Option V:=fun v=>match v with | .int i=>(Glu.getE E i.toNat).map fun k:Nat=>V.int (k:Int) | _=>none
 have hfx:∀ x:Nat,f (.int (x:Int)) = (Glu.getE E x).map fun k:Nat=>V.int (k:Int):=fun x=>by show (Glu.getE E ((x:Int)).toNat).map _ = _; rw [Int.toNat_natCast]
 have hc:=Z6S (F:=F) (elt:=Z4G) (ifs:=.cons (.cmp .isin (.loc 2) (.attr (.loc 0) 3)) .nil) (ρ₀:=[some (.inst C σ.length),some (.tup (Z00 xs)),none]) (σ:=TS σ ps W fi em E++X) (k:=2) (it:=.val (.loc 1)) (xs:=Z00 xs) f
  (fun x hx y e=>by
   refine El.x1_2 (List.mem_map.mp hx) fun n _ q0z=>?_
   obtain rfl:=q0z
   rw [hfx] at e
   refine El.x1_2 (Option.map_eq_some_iff.mp e) fun k _ q1z=>?_
   obtain rfl:=q1z
   exact Z0f _)
  (by exact atI fun t=>t rfl)
  (by rw [Z16]; unfold sizeLine; omega)
  (fun x hx acc ha=>by
   refine El.x1_2 (List.mem_map.mp hx) fun n _ q2z=>?_
   obtain rfl:=q2z
   have i3:Z10 (TS σ ps W fi em E++X++[.lst acc]) .isin (.int (n:Int)) (.ref (σ.length + 3)) = some (Glu.getE E n).isSome:=by rw [ZhL (g3 _),ZhA]
   constructor
   ·rw [hfx,Option.isSome_map]
    cases hg:(Glu.getE E n).isSome <;> exact atT fun t=>t (a3 _) i3 hg
   ·intro y e
    rw [hfx] at e
    have d3:Z0H (TS σ ps W fi em E++X++[.lst acc]) (.ref (σ.length + 3)) (.int (n:Int)) = some y:=by rw [ZgX (g3 _),Zhz,e]
    exact atE fun t=>t (a3 _) d3)
 rw [Za5 (Glu.getE E) f xs fun x _=>hfx x] at hc
 have hmd:=Zeq (xs.filterMap (Glu.getE E))
 refine Ret.mk (ρ:=[some (.inst C σ.length),some (.tup (Z00 xs)),none]) (τ:=[.dead]) ?_
 have hset:([some (.inst C σ.length),some (.tup (Z00 xs)),none]:List (Option V)).set 2 none = [some (.inst C σ.length),some (.tup (Z00 xs)),none]:=rfl
 rw [hset] at hc
 exact atS fun t=>t rfl hc hmd rfl
end
theorem Zcw:(V.tup []).flat64 = true:=by unfold V.flat64; rw [Z1q,Z0K]; rfl
theorem Z80:∀ l:List Nat,V.depths? (Z00 l) = some 0
 | []=>Z0K
 | n :: l=>by
  show V.depths? (V.int (n:Int) :: Z00 l) = _
  rw [Z0o,Zdf,Z80 l]; rfl
theorem Z8X (σ:List O) (l:List Nat):Z10 σ .eq (.tup (Z00 l)) (.tup []) = some l.isEmpty:=by
 have h1:(V.tup (Z00 l)).flat64 = true:=by unfold V.flat64; rw [Z1q,Z80]; rfl
 rw [Zh0 _ _ _ h1 Zcw]
 cases l <;> rfl
theorem ZhB {f:V→St→R Fl} {x:V} {xs:List V} {st st':St} (h:f x st = .ok .next st'):forR f (x :: xs) st = forR f xs st':=(Z0e ..).trans ((congrArg (fun m=>R.bind m _) h).trans rfl)
theorem Zgy {F:Fn} {st:St} {i j:Nat} {x y:V} {b:Bool} (h:st.ρ[i]? = some (some x)) (h1:st.ρ[j]? = some (some y)) (h2:inD st.σ x y = some b):evTs F (.cons (.cmp .notin (.loc i) (.loc j)) .nil) st = .ok (!b) st:=by
 rw [Zb0,Zfp,Z6z h,R.bind_ok,Z6z h1,R.bind_ok]
 cases b <;> exact (congrArg (fun o=>R.bind (Z0a (R.lift (Option.map V.bool (Option.map not o)) st)) _) h2).trans rfl
theorem Z5P {F:Fn} {ρ₀:List (Option V)} {σ:List O} {k:Nat} {more found:List Nat} (h6:ρ₀[6]? = some (some (.lst (Z00 more)))) (h5:∀ x:V,(ρ₀.set k (some x))[5]? = some (some (.lst (Z00 found)))) (hk:∀ x:V,(ρ₀.set k (some x))[k]? = some (some x)) (hl:more.length ≤ 10000) :
  evE F (.comp (.loc k) k (.val (.loc 6)) (.cons (.cmp .notin (.loc k) (.loc 5)) .nil)) ⟨ρ₀,σ⟩ = .ok (.lst (Z00 (more.filter fun x=>!found.contains x))) ⟨ρ₀.set k none,σ++[.dead]⟩:=by
 let f:V→Option V:=fun v=>match v with | .int i=>if found.contains i.toNat then none else some v | _=>none
 have hfx:∀ x:Nat,f (.int (x:Int)) = if found.contains x then none else some (.int (x:Int)):=fun x=>by show (if found.contains ((x:Int)).toNat then none else some (V.int (x:Int))) = _; rw [Int.toNat_natCast]
 have hc:=Z6S (F:=F) (elt:=.loc k) (ifs:=.cons (.cmp .notin (.loc k) (.loc 5)) .nil) (ρ₀:=ρ₀) (σ:=σ) (k:=k) (it:=.val (.loc 6)) (xs:=Z00 more) f
  (fun x hx y e=>by
   refine El.x1_2 (List.mem_map.mp hx) fun n _ q1z=>?_
   obtain rfl:=q1z
   rw [hfx] at e
   split at e
   ·cases e
   ·cases e; exact Z0f _)
  (Zc5 h6 rfl)
  (by rw [Z16]; unfold sizeLine; omega)
  (fun x hx acc ha=>by
   refine El.x1_2 (List.mem_map.mp hx) fun n _ q2z=>?_
   obtain rfl:=q2z
   rw [hfx]
   have tst:∀ {b:Bool},found.contains n = b→evTs F (.cons (.cmp .notin (.loc k) (.loc 5)) .nil) ⟨ρ₀.set k (some (.int (n:Int))),σ++[.lst acc]⟩ = .ok (if b = true then none else some (V.int (n:Int))).isSome ⟨ρ₀.set k (some (.int (n:Int))),σ++[.lst acc]⟩:=fun {b} h=>by
    have hq:=Zgy (F:=F) (st:=⟨ρ₀.set k (some (.int (n:Int))),σ++[.lst acc]⟩) (hk _) (h5 _) (Zfw found n)
    rw [h] at hq
    cases b <;> exact hq
   cases hc:found.contains n
   ·exact ⟨tst hc,fun y e=>by
     simp only [Bool.false_eq_true,if_false] at e
     cases e
     exact Z6z (hk _)⟩
   ·exact ⟨tst hc,fun y e=>by simp at e⟩)
 have e:(Z00 more).filterMap f = Z00 (more.filter fun x=>!found.contains x):=by
  rw [Za5 (fun x=>if found.contains x then none else some x) f more fun x _=>by rw [hfx]; split <;> rfl]
  congr 1
  rw [← List.filterMap_eq_filter]
  congr 1
  funext x
  unfold Option.guard
  dsimp only
  by_cases h:found.contains x = true
  ·rw [if_pos h,if_neg (by rw [h]; exact Bool.false_ne_true)]
  ·rw [if_neg h,if_pos (by rw [Bool.not_eq_true] at h; rw [h]; rfl)]
 rw [e] at hc
 exact hc
noncomputable def Z6T (F:Fn) (t:List Nat) (p:Pt):Prop:=∀ B:List Nat,B.Nodup→(∀ i ∈ B,i ≤ t.length) →
 ∃ E:List Nat,(∀ σ,Cl σ→F "_law_ends" [enc p,.str t,.lst (Z00 B)] σ = .ok (.lst (Z00 E)) ⟨[],σ⟩)∧E.Nodup∧∀ j,j ∈ E↔∃ i ∈ B,Glu.Sl p.lang t i j
theorem Z6U {P:List Nat→Prop} {t B E:List Nat} (h:∀ j,j ∈ E↔∃ i ∈ B,Glu.Sl P t i j):∀ j ∈ E,j ≤ t.length:=fun j hj=>let ⟨_,_,q⟩:=(h j).mp hj; q.2.1
theorem Z1e {t E:List Nat} (hn:E.Nodup) (h:∀ j ∈ E,j ≤ t.length):E.length ≤ t.length + 1:=Glu.nodup_le hn fun j hj=>by have:=h j hj; omega
theorem Zer (F:Fn) (K:Nat) (t:List Nat) (ht:t.length ≤ 1000) (s B:List Nat) (hn:B.Nodup) (hB:∀ i ∈ B,i ≤ t.length) :
  ∃ E:List Nat,(∀ σ,Cl σ→Z07 F K Z4R [enc (.one s),.str t,.lst (Z00 B)] σ = .ok (.lst (Z00 E)) ⟨[],σ⟩)∧E.Nodup∧∀ j,j ∈ E↔∃ i ∈ B,Glu.Sl (Glu.Pat.one s:Pt).lang t i j:=by
 let g:Nat→Option Nat:=fun i=>match t[i]? with | some a=>if s.contains a then some (i + 1) else none | none=>none
 have gj:∀ {i j},g i = some j→j = i + 1∧∃ a,t[i]? = some a∧a ∈ s:=fun {i j} h=>by
  show j = i + 1∧∃ a,t[i]? = some a∧a ∈ s
  have h':(match t[i]? with | some a=>if s.contains a then some (i + 1) else none | none=>none) = some j:=h
  cases e:t[i]? with
  | none=>rw [e] at h'; cases h'
  | some a=>
   rw [e] at h'
   by_cases hc:s.contains a = true
   ·simp only [hc,if_true] at h'; cases h'; exact ⟨rfl,a,rfl,List.contains_iff_mem.mp hc⟩
   ·simp only [hc,Bool.false_eq_true,if_false] at h'; cases h'
 refine ⟨B.filterMap g,fun σ hσ=>?_,?_,fun j=>?_⟩
 ·refine Z0w rfl ?_ (by rw [Z0p]; exact Z1B _ _) hσ
  rw [enc]
  show Ret (evSs F K Z3c (S11 (some (.tup [.str (Str.ofString "one").cps.toList,.str s])) (some (.str t)) (some (.lst (Z00 B))) none none none none none none none none σ)) _ _
  let f:V→Option V:=fun v=>match v with | .int i=>(g i.toNat).map fun k:Nat=>V.int (k:Int) | _=>none
  have hfx:∀ x:Nat,f (.int (x:Int)) = (g x).map fun k:Nat=>V.int (k:Int):=fun x=>by show (g ((x:Int)).toNat).map _ = _; rw [Int.toNat_natCast]
  have hc:=Z6S (F:=F) (elt:=Z9X) (ifs:=.cons (.band (.cmp .lt (.loc 8) (.bi .len (.loc 1))) (.cmp .isin (.sub (.loc 1) (.loc 8)) (.sub (.loc 0) (.int 1)))) .nil)
   (ρ₀:=[some (.tup [.str (Str.ofString "one").cps.toList,.str s]),some (.str t),some (.lst (Z00 B)),some (.str (Str.ofString "one").cps.toList),none,none,none,none,none,none,none]) (σ:=σ) (k:=8) (it:=.val (.loc 2)) (xs:=Z00 B) f
   (fun x hx y e=>by
    refine El.x1_2 (List.mem_map.mp hx) fun n _ q3z=>?_
    obtain rfl:=q3z
    rw [hfx] at e
    refine El.x1_2 (Option.map_eq_some_iff.mp e) fun k _ q4z=>?_
    obtain rfl:=q4z
    exact Z0f _)
   (by exact atI fun t=>t rfl)
   (by have:=Z1e hn hB; rw [Z16]; unfold sizeLine; omega)
   (fun x hx acc ha=>by
    refine El.x1_2 (List.mem_map.mp hx) fun n hnB q5z=>?_
    obtain rfl:=q5z
    have hnle:=hB n hnB
    rw [hfx,Option.isSome_map]
    by_cases hlt:n < t.length
    ·have c1:decide ((n:Int) < (t.length:Int)) = true:=decide_eq_true (by omega)
     have hg:t[n]? = some t[n]:=List.getElem?_eq_getElem hlt
     have hi:Z0n t (n:Int) = some t[n]:=by rw [Z0y _ (by omega),hg]
     have hgn:g n = if s.contains t[n] then some (n + 1) else none:=by show (match t[n]? with | some a=>if s.contains a then some (n + 1) else none | none=>none) = _; rw [hg]
     rw [hgn]
     cases hs:s.contains t[n]
     ·exact ⟨atT fun t=>t rfl c1 (Z7K hi) rfl rfl hs,fun y e=>by simp at e⟩
     ·refine ⟨atT fun t=>t rfl c1 (Z7K hi) rfl rfl hs,fun y e=>?_⟩
      simp only [if_true,Option.map_some] at e
      cases e
      have h1:(n:Int) + 1 = ((n + 1:Nat):Int):=by omega
      exact atE fun t=>t
    ·have c1:decide ((n:Int) < (t.length:Int)) = false:=decide_eq_false (by omega)
     have hgn:g n = none:=by show (match t[n]? with | some a=>if s.contains a then some (n + 1) else none | none=>none) = _; rw [List.getElem?_eq_none (by omega)]
     rw [hgn]
     exact ⟨by exact atT fun t=>t rfl c1 rfl,fun y e=>by cases e⟩)
  rw [Za5 g f B fun x _=>hfx x] at hc
  refine Ret.mk (ρ:=[some (.tup [.str (Str.ofString "one").cps.toList,.str s]),some (.str t),some (.lst (Z00 B)),some (.str (Str.ofString "one").cps.toList),none,none,none,none,none,none,none]) (τ:=[.dead]) ?_
  simp only [List.set_cons_succ,List.set_cons_zero] at hc
  exact atS fun t=>t rfl rfl Z2D hc rfl
 ·have:List.Pairwise (fun a b=>a ≠ b) (B.filterMap g):=by
   rw [List.pairwise_filterMap]
   refine List.Pairwise.imp (fun {a b} hab c hc d hd e=>hab ?_) hn
   have h1:=(gj hc).1
   have h2:=(gj hd).1
   omega
  exact this
 ·rw [List.mem_filterMap]
  have hsl:∀ i,Glu.Sl (Glu.Pat.one s:Pt).lang t i j↔j = i + 1∧∃ a,t[i]? = some a∧a ∈ s:=fun i=>(Glu.sl_congr (fun w=>Iff.rfl)).trans Glu.sl_one
  constructor
  ·rintro ⟨i,hi,e⟩; exact ⟨i,hi,(hsl i).mpr (gj e)⟩
  ·intro q6z
   refine El.x1_2 q6z fun i hi e=>?_
   obtain ⟨rfl,a,h1,h2⟩:=(hsl i).mp e
   refine ⟨i,hi,?_⟩
   show (match t[i]? with | some a=>if s.contains a then some (i + 1) else none | none=>none) = _
   rw [h1]
   simp only [List.contains_iff_mem.mpr h2,if_true]
theorem Z2K (F:Fn) (K:Nat) (t:List Nat) (a b:Option V) (xs:List (Option V)) (hxs:xs.length = 6):∀ (ps:Pts),PAll (Z6T F t) ps→∀ (B:List Nat),B.Nodup→(∀ i ∈ B,i ≤ t.length) →
  ∃ E:List Nat,(∀ (σ:List O) (x4:Option V),Cl σ→∃ y4,forR (fun x st=>evSs F K Z6F (setV st 4 x)) (encs ps) ⟨a :: some (.str t) :: some (.lst (Z00 B)) :: b :: x4 :: xs,σ⟩ = .ok .next ⟨a :: some (.str t) :: some (.lst (Z00 E)) :: b :: y4 :: xs,σ⟩)∧E.Nodup∧∀ j,j ∈ E↔∃ i ∈ B,Glu.Sl ps.langR t i j
 | .nil,_,B,hn,hB=>⟨B,fun σ x4 _=>⟨x4,by rw [encs,Z0r]⟩,hn,fun j=>by
   have hsl:∀ i,Glu.Sl (Glu.Pats.nil:Pts).langR t i j↔i = j∧i ≤ t.length:=fun i=>(Glu.sl_congr (fun w=>Iff.rfl)).trans Glu.sl_nil
   exact ⟨fun h=>⟨j,h,(hsl j).mpr ⟨rfl,hB j h⟩⟩,fun ⟨i,hi,e⟩=>by rw [← ((hsl i).mp e).1]; exact hi⟩⟩
 | .cons p ps,hp,B,hn,hB=>by
  rw [PAll] at hp
  refine El.x1_3 (hp.1 B hn hB) fun E₁ e1 n1 m1=>?_
  refine El.x1_3 (Z2K F K t a b xs hxs ps hp.2 E₁ n1 (Z6U m1)) fun E e2 n2 m2=>?_
  refine ⟨E,fun σ x4 hσ=>?_,n2,fun j=>?_⟩
  ·refine El.x1_1 (e2 σ (some (enc p)) hσ) fun y4 e3=>?_
   refine ⟨y4,?_⟩
   have hb:evSs F K Z6F (setV ⟨a :: some (.str t) :: some (.lst (Z00 B)) :: b :: x4 :: xs,σ⟩ 4 (enc p)) = .ok .next ⟨a :: some (.str t) :: some (.lst (Z00 E₁)) :: b :: some (enc p) :: xs,σ⟩:=by
    exact atS fun t=>t (e1 σ hσ) rfl
   rw [encs,Z0e,hb,R.bind_ok]
   exact e3
  ·have hsl:∀ i,Glu.Sl (Glu.Pats.cons p ps:Pts).langR t i j↔∃ k,Glu.Sl p.lang t i k∧Glu.Sl ps.langR t k j:=fun i=>(Glu.sl_congr (fun w=>Iff.rfl)).trans Glu.sl_seq
   rw [m2]
   constructor
   ·intro q8z
    refine El.x1_2 q8z fun k hk h=>?_
    refine El.x1_2 ((m1 k).mp hk) fun i hi h'=>?_
    exact ⟨i,hi,(hsl i).mpr ⟨k,h',h⟩⟩
   ·intro q9z
    refine El.x1_2 q9z fun i hi h=>?_
    refine El.x1_2 ((hsl i).mp h) fun k h1 h2=>?_
    exact ⟨k,(m1 k).mpr ⟨i,hi,h1⟩,h2⟩
theorem Zes (F:Fn) (K:Nat) (t:List Nat) (ps:Pts) (hp:PAll (Z6T F t) ps) (B:List Nat) (hn:B.Nodup) (hB:∀ i ∈ B,i ≤ t.length) :
  ∃ E:List Nat,(∀ σ,Cl σ→Z07 F K Z4R [enc (.row ps),.str t,.lst (Z00 B)] σ = .ok (.lst (Z00 E)) ⟨[],σ⟩)∧E.Nodup∧∀ j,j ∈ E↔∃ i ∈ B,Glu.Sl (Glu.Pat.row ps:Pt).lang t i j:=by
 refine El.x1_3 (Z2K F K t (some (.tup [.str (Str.ofString "row").cps.toList,.lst (encs ps)])) (some (.str (Str.ofString "row").cps.toList)) [none,none,none,none,none,none] rfl ps hp B hn hB) fun E e n m=>?_
 refine ⟨E,fun σ hσ=>?_,n,fun j=>by rw [m]; exact exists_congr fun i=>and_congr_right fun _=>Glu.sl_congr fun w=>Iff.rfl⟩
 refine El.x1_1 (e σ none hσ) fun y4 e=>?_
 refine Z0w rfl ?_ (by rw [Z0p]; exact Z1B _ _) hσ
 rw [enc]
 show Ret (evSs F K Z3c (S11 (some (.tup [.str (Str.ofString "row").cps.toList,.lst (encs ps)])) (some (.str t)) (some (.lst (Z00 B))) none none none none none none none none σ)) _ _
 refine Ret.mk0 (ρ:=[some (.tup [.str (Str.ofString "row").cps.toList,.lst (encs ps)]),some (.str t),some (.lst (Z00 E)),some (.str (Str.ofString "row").cps.toList),y4,none,none,none,none,none,none]) ?_
 exact atS fun t=>t rfl rfl Z2E Z2F rfl rfl e rfl
theorem Z4Z {a b:List Nat} (h1:a.Nodup) (h2:b.Nodup) (h:∀ x ∈ b,x ∉ a):(a++b).Nodup:=by
 rw [List.nodup_append]
 exact ⟨h1,h2,fun x hx y hy e=>h y hy (e ▸ hx)⟩
theorem Z2L {more found:List Nat}:∀ x ∈ more.filter (fun x=>!found.contains x),x ∉ found:=fun x hx q=>by
 have:=(List.mem_filter.mp hx).2
 rw [List.contains_iff_mem.mpr q] at this
 cases this
theorem mem_fresh {more found:List Nat} {x:Nat}:x ∈ found++more.filter (fun x=>!found.contains x)↔x ∈ found ∨ x ∈ more:=by
 rw [List.mem_append,List.mem_filter]
 constructor
 ·rintro (h | h)
  ·exact .inl h
  ·exact .inr h.1
 ·rintro (h | h)
  ·exact .inl h
  ·by_cases q:x ∈ found
   ·exact .inl q
   ·refine .inr ⟨h,?_⟩
    cases e:found.contains x
    ·rfl
    ·exact absurd (List.contains_iff_mem.mp e) q
theorem Z3H (F:Fn) (K:Nat) (t:List Nat) (ht:t.length ≤ 1000) (a b:Option V) (B:List Nat) (hn:B.Nodup) (hB:∀ i ∈ B,i ≤ t.length):∀ (ps:Pts),PAll (Z6T F t) ps→∀ (found:List Nat),found.Nodup→(∀ i ∈ found,i ≤ t.length) →
  ∃ E:List Nat,(∀ (σ:List O) (x4 x6:Option V),Cl σ→∃ y4 y6 τ,forR (fun x st=>evSs F K Z6G (setV st 4 x)) (encs ps) ⟨[a,some (.str t),some (.lst (Z00 B)),b,x4,some (.lst (Z00 found)),x6,none,none,none,none],σ⟩ = .ok .next ⟨[a,some (.str t),some (.lst (Z00 B)),b,y4,some (.lst (Z00 E)),y6,none,none,none,none],σ++τ⟩)∧E.Nodup∧∀ j,j ∈ E↔j ∈ found ∨ ∃ i ∈ B,Glu.Sl ps.langO t i j
 | .nil,_,found,h1,h2=>⟨found,fun σ x4 x6 _=>⟨x4,x6,[],by rw [encs,Z0r,List.append_nil]⟩,h1,fun j=>by
   have hsl:∀ i,¬ Glu.Sl (Glu.Pats.nil:Pts).langO t i j:=fun i h=>by
    have h3:=h.2.2
    rw [Glu.lo0] at h3
    exact h3
   exact ⟨.inl,fun h=>h.elim id fun ⟨i,_,e⟩=>absurd e (hsl i)⟩⟩
 | .cons p ps,hp,found,h1,h2=>by
  rw [PAll] at hp
  refine El.x1_3 (hp.1 B hn hB) fun more e1 n1 m1=>?_
  have hle:=Z6U m1
  have n':=Z4Z h1 (n1.filter (fun x=>!found.contains x)) Z2L
  have l':∀ i ∈ found++more.filter (fun x=>!found.contains x),i ≤ t.length:=fun i hi=>(mem_fresh.mp hi).elim (h2 i) (hle i)
  refine El.x1_3 (Z3H F K t ht a b B hn hB ps hp.2 _ n' l') fun E e2 n2 m2=>?_
  refine ⟨E,fun σ x4 x6 hσ=>?_,n2,fun j=>?_⟩
  ·refine El.x3_1 (e2 (σ++[.dead]) (some (enc p)) (some (.lst (Z00 more))) hσ.dead) fun y4 y6 τ e3=>?_
   refine El.y3_1 y4 y6 (.dead :: τ) ?_
   have hc:=Z5P (F:=F) (ρ₀:=[a,some (.str t),some (.lst (Z00 B)),b,some (enc p),some (.lst (Z00 found)),some (.lst (Z00 more)),none,none,none,none]) (σ:=σ) (k:=9) (more:=more) (found:=found) rfl (fun _=>rfl) (fun _=>rfl) (by have:=Z1e n1 hle; lia)
   have hadd:=Z1d found (more.filter fun x=>!found.contains x) (by have h3:=Z1e h1 h2; have h4:=Z1e n1 hle; have h5:=List.length_filter_le (fun x=>!found.contains x) more; lia)
   simp only [List.set_cons_succ,List.set_cons_zero] at hc
   have hb:evSs F K Z6G (setV ⟨[a,some (.str t),some (.lst (Z00 B)),b,x4,some (.lst (Z00 found)),x6,none,none,none,none],σ⟩ 4 (enc p)) = .ok .next ⟨[a,some (.str t),some (.lst (Z00 B)),b,some (enc p),some (.lst (Z00 (found++more.filter fun x=>!found.contains x))),some (.lst (Z00 more)),none,none,none,none],σ++[.dead]⟩:=by
    exact atS fun t=>t (e1 σ hσ) rfl hc hadd rfl
   rw [encs,Z0e,hb,R.bind_ok]
   have:σ++O.dead :: τ = σ++[.dead]++τ:=by simp
   rw [this]
   exact e3
  ·have hsl:∀ i,Glu.Sl (Glu.Pats.cons p ps:Pts).langO t i j↔Glu.Sl p.lang t i j ∨ Glu.Sl ps.langO t i j:=fun i=>(Glu.sl_congr (fun w=>Iff.rfl)).trans Glu.sl_or
   rw [m2,mem_fresh,m1,or_assoc]
   constructor
   ·rintro (h | ⟨i,hi,h⟩ | ⟨i,hi,h⟩)
    ·exact .inl h
    ·exact .inr ⟨i,hi,(hsl i).mpr (.inl h)⟩
    ·exact .inr ⟨i,hi,(hsl i).mpr (.inr h)⟩
   ·rintro (h | ⟨i,hi,h⟩)
    ·exact .inl h
    ·exact ((hsl i).mp h).elim (fun h=>.inr (.inl ⟨i,hi,h⟩)) fun h=>.inr (.inr ⟨i,hi,h⟩)
theorem Zgz (F:Fn) (K:Nat) (t:List Nat) (ht:t.length ≤ 1000) (ps:Pts) (hp:PAll (Z6T F t) ps) (B:List Nat) (hn:B.Nodup) (hB:∀ i ∈ B,i ≤ t.length) :
  ∃ E:List Nat,(∀ σ,Cl σ→Z07 F K Z4R [enc (.or ps),.str t,.lst (Z00 B)] σ = .ok (.lst (Z00 E)) ⟨[],σ⟩)∧E.Nodup∧∀ j,j ∈ E↔∃ i ∈ B,Glu.Sl (Glu.Pat.or ps:Pt).lang t i j:=by
 refine El.x1_3 (Z3H F K t ht (some (.tup [.str (Str.ofString "or").cps.toList,.lst (encs ps)])) (some (.str (Str.ofString "or").cps.toList)) B hn hB ps hp [] List.nodup_nil (fun _ h=>by cases h)) fun E e n m=>?_
 refine ⟨E,fun σ hσ=>?_,n,fun j=>?_⟩
 ·refine El.x3_1 (e σ none none hσ) fun y4 y6 τ e=>?_
  refine Z0w rfl ?_ (by rw [Z0p]; exact Z1B _ _) hσ
  rw [enc]
  show Ret (evSs F K Z3c ⟨[some (.tup [.str (Str.ofString "or").cps.toList,.lst (encs ps)]),some (.str t),some (.lst (Z00 B)),none,none,none,none,none,none,none,none],σ⟩) _ _
  refine Ret.mk (ρ:=[some (.tup [.str (Str.ofString "or").cps.toList,.lst (encs ps)]),some (.str t),some (.lst (Z00 B)),some (.str (Str.ofString "or").cps.toList),y4,some (.lst (Z00 E)),y6,none,none,none,none]) (τ:=τ) ?_
  have hn0:Z00 [] = []:=rfl
  rw [hn0] at e
  exact atS fun t=>t rfl rfl Z3T Z6J rfl Z6K rfl rfl e rfl
 ·rw [m]
  have hc:∀ i,Glu.Sl ps.langO t i j↔Glu.Sl (Glu.Pat.or ps:Pt).lang t i j:=fun i=>Glu.sl_congr fun w=>Iff.rfl
  constructor
  ·rintro (h | ⟨i,hi,h⟩)
   ·cases h
   ·exact ⟨i,hi,(hc i).mp h⟩
  ·rintro ⟨i,hi,h⟩; exact .inr ⟨i,hi,(hc i).mpr h⟩
theorem Z81 (F:Fn) (K:Nat) (t:List Nat) (ht:t.length ≤ 1000) (kd:List Nat) (may:Bool) (hmay:(kd == (Str.ofString "maybe").cps.toList) = may) (p:Pt) (pv:V) (hpv:Z0n [V.str kd,enc p] 1 = some pv) (B more found fresh:List Nat) (σ:List O) (hσ:Cl σ) (x6:Option V)
  (e1:∀ σ,Cl σ→F "_law_ends" [enc p,.str t,.lst (Z00 fresh)] σ = .ok (.lst (Z00 more)) ⟨[],σ⟩) (h1:found.length ≤ 2000) (h2:more.length ≤ 2000) :
  evSs F K Z3S ⟨[some (.tup [.str kd,enc p]),some (.str t),some (.lst (Z00 B)),some (.str kd),none,some (.lst (Z00 found)),x6,some (.lst (Z00 fresh)),none,none,none],σ⟩ =
   .ok (if may then .brk else .next) ⟨[some (.tup [.str kd,enc p]),some (.str t),some (.lst (Z00 B)),some (.str kd),none,some (.lst (Z00 (found++more.filter fun x=>!found.contains x))),some (.lst (Z00 more)),some (.lst (Z00 (more.filter fun x=>!found.contains x))),none,none,none],σ++[.dead]⟩:=by
 have hc:=Z5P (F:=F) (ρ₀:=[some (.tup [.str kd,enc p]),some (.str t),some (.lst (Z00 B)),some (.str kd),none,some (.lst (Z00 found)),some (.lst (Z00 more)),some (.lst (Z00 fresh)),none,none,none]) (σ:=σ) (k:=10) (more:=more) (found:=found) rfl (fun _=>rfl) (fun _=>rfl) (by lia)
 have hadd:=Z1d found (more.filter fun x=>!found.contains x) (by have:=List.length_filter_le (fun x=>!found.contains x) more; lia)
 simp only [List.set_cons_succ,List.set_cons_zero] at hc
 cases may <;> exact atS fun t=>t rfl (e1 σ hσ) rfl hc rfl hadd rfl hmay
theorem Z5Q (F:Fn) (K:Nat) (t:List Nat) (ht:t.length ≤ 1000) (p:Pt) (hp:Z6T F t p) (B:List Nat):∀ (n:Nat) (found fresh:List Nat),found.Nodup→fresh.Nodup→(∀ i ∈ found,i ≤ t.length)→Glu.Clo (Glu.Sl p.lang t) B found fresh→(if fresh = [] then 1 else Glu.lacks t.length found + 2) ≤ n →
  ∃ E:List Nat,(∀ (σ:List O) (x6:Option V),Cl σ→∃ y6 y7 τ,Z0U (fun st=>Z0a (evE F (.loc 7) st)) (fun st=>evSs F K Z3S st) n ⟨[some (.tup [.str (Str.ofString "many").cps.toList,enc p]),some (.str t),some (.lst (Z00 B)),some (.str (Str.ofString "many").cps.toList),none,some (.lst (Z00 found)),x6,some (.lst (Z00 fresh)),none,none,none],σ⟩ =
   .ok .next ⟨[some (.tup [.str (Str.ofString "many").cps.toList,enc p]),some (.str t),some (.lst (Z00 B)),some (.str (Str.ofString "many").cps.toList),none,some (.lst (Z00 E)),y6,y7,none,none,none],σ++τ⟩)∧E.Nodup∧∀ j,j ∈ E↔∃ b ∈ B,Glu.Star (Glu.Sl p.lang t) b j
 | 0,found,fresh,_,_,_,_,hk=>by split at hk <;> lia
 | n + 1,found,fresh,h1,h2,h3,hc,hk=>by
  have htr:∀ (σ:List O) (x6:Option V),Z0a (evE F (.loc 7) ⟨[some (.tup [.str (Str.ofString "many").cps.toList,enc p]),some (.str t),some (.lst (Z00 B)),some (.str (Str.ofString "many").cps.toList),none,some (.lst (Z00 found)),x6,some (.lst (Z00 fresh)),none,none,none],σ⟩) = .ok (!(Z00 fresh).isEmpty) ⟨[some (.tup [.str (Str.ofString "many").cps.toList,enc p]),some (.str t),some (.lst (Z00 B)),some (.str (Str.ofString "many").cps.toList),none,some (.lst (Z00 found)),x6,some (.lst (Z00 fresh)),none,none,none],σ⟩:=fun σ x6=>by
   unfold Z0a
   rw [Z1K]
   simp only [List.getElem?_cons_zero,List.getElem?_cons_succ,R.bind_ok,Zfb,R.lift_some]
  by_cases hf:fresh = []
  ·subst hf
   refine ⟨found,fun σ x6 hσ=>⟨x6,some (.lst (Z00 [])),[],?_⟩,h1,fun j=>hc.done j⟩
   rw [Z0G,htr,R.bind_ok]
   have:(!(Z00 []).isEmpty) = false:=rfl
   simp only [this,Bool.false_eq_true,if_false,List.append_nil]
  ·rw [if_neg hf] at hk
   have hfl:∀ i ∈ fresh,i ≤ t.length:=fun i hi=>h3 i (hc.sub i hi)
   refine El.x1_3 (hp fresh h2 hfl) fun more e1 n1 m1=>?_
   have hle:=Z6U m1
   have nf:=n1.filter (fun x=>!found.contains x)
   have n':=Z4Z h1 nf Z2L
   have l':∀ i ∈ found++more.filter (fun x=>!found.contains x),i ≤ t.length:=fun i hi=>(mem_fresh.mp hi).elim (h3 i) (hle i)
   have hlk:more.filter (fun x=>!found.contains x) ≠ []→Glu.lacks t.length (found++more.filter (fun x=>!found.contains x)) < Glu.lacks t.length found:=Glu.lacks_lt fun x hx=>⟨hle x (List.mem_filter.mp hx).1,Z2L x hx⟩
   have q110y:=Z5Q F K t ht p hp B n _ _ n' nf l' (hc.turn m1) (by
    split
    ·lia
    ·rename_i q; have:=hlk q; lia)
   refine El.x1_3 q110y fun E e2 n2 m2=>?_
   refine ⟨E,fun σ x6 hσ=>?_,n2,m2⟩
   refine El.x3_1 (e2 (σ++[.dead]) (some (.lst (Z00 more))) hσ.dead) fun y6 y7 τ e3=>?_
   refine El.y3_1 y6 y7 (.dead :: τ) ?_
   have hb:=Z81 F K t ht (Str.ofString "many").cps.toList false Z3F p (enc p) (idx1 _) B more found fresh σ hσ x6 e1 (by have:=Z1e h1 h3; lia) (by have:=Z1e n1 hle; lia)
   have hne:(!(Z00 fresh).isEmpty) = true:=by
    cases fresh with
    | nil=>exact absurd rfl hf
    | cons a b=>rfl
   rw [Z0G,htr,R.bind_ok]
   simp only [hne,if_true]
   rw [hb,R.bind_ok]
   have:σ++O.dead :: τ = σ++[.dead]++τ:=by simp
   rw [this]
   simp only [Bool.false_eq_true,if_false]
   exact e3
theorem Zet (n:Nat) (l:List Nat):Glu.lacks n l ≤ n + 1:=by
 unfold Glu.lacks
 exact Nat.le_trans (List.length_filter_le _ _) (by rw [List.length_range]; exact Nat.le_refl _)
theorem Zcx (F:Fn) (K:Nat) (t:List Nat) (ht:t.length ≤ 1000) (hK:t.length + 3 ≤ K) (p:Pt) (hp:Z6T F t p) (B:List Nat) (hn:B.Nodup) (hB:∀ i ∈ B,i ≤ t.length) :
  ∃ E:List Nat,(∀ σ,Cl σ→Z07 F K Z4R [enc (.many p),.str t,.lst (Z00 B)] σ = .ok (.lst (Z00 E)) ⟨[],σ⟩)∧E.Nodup∧∀ j,j ∈ E↔∃ i ∈ B,Glu.Sl (Glu.Pat.many p:Pt).lang t i j:=by
 have q135y:=Z5Q F K t ht p hp B K B B hn hn hB (.start B) (by have:=Zet t.length B; split <;> lia)
 refine El.x1_3 q135y fun E e n m=>?_
 refine ⟨E,fun σ hσ=>?_,n,fun j=>?_⟩
 ·refine El.x3_1 (e σ none hσ) fun y6 y7 τ e=>?_
  refine Z0w rfl ?_ (by rw [Z0p]; exact Z1B _ _) hσ
  rw [enc]
  show Ret (evSs F K Z3c ⟨[some (.tup [.str (Str.ofString "many").cps.toList,enc p]),some (.str t),some (.lst (Z00 B)),none,none,none,none,none,none,none,none],σ⟩) _ _
  refine Ret.mk (ρ:=[some (.tup [.str (Str.ofString "many").cps.toList,enc p]),some (.str t),some (.lst (Z00 B)),some (.str (Str.ofString "many").cps.toList),none,some (.lst (Z00 E)),y6,y7,none,none,none]) (τ:=τ) ?_
  exact atS fun t=>t rfl rfl Z23 Z3g rfl Z4U (ZeQ _ _) rfl rfl e rfl
 ·rw [m]
  refine exists_congr fun i=>and_congr_right fun hi=>?_
  have hc:Glu.Sl (Glu.Pat.many p:Pt).lang t i j↔i ≤ t.length∧Glu.Star (Glu.Sl p.lang t) i j:=(Glu.sl_congr fun w=>Iff.rfl).trans Glu.sl_many
  rw [hc]
  exact ⟨fun h=>⟨hB i hi,h⟩,fun h=>h.2⟩
theorem ZaC (F:Fn) (K:Nat) (t:List Nat) (ht:t.length ≤ 1000) (hK:1 ≤ K) (p:Pt) (hp:Z6T F t p) (B:List Nat) (hn:B.Nodup) (hB:∀ i ∈ B,i ≤ t.length) :
  ∃ E:List Nat,(∀ σ,Cl σ→Z07 F K Z4R [enc (.maybe p),.str t,.lst (Z00 B)] σ = .ok (.lst (Z00 E)) ⟨[],σ⟩)∧E.Nodup∧∀ j,j ∈ E↔∃ i ∈ B,Glu.Sl (Glu.Pat.maybe p:Pt).lang t i j:=by
 refine El.x1_3 (hp B hn hB) fun more e1 n1 m1=>?_
 have hle:=Z6U m1
 obtain ⟨k,rfl⟩:∃ k,K = k + 1:=⟨K - 1,by lia⟩
 have hw:∀ (σ:List O),Cl σ→∃ y6 y7 τ,Z0U (fun st=>Z0a (evE F (.loc 7) st)) (fun st=>evSs F (k + 1) Z3S st) (k + 1) ⟨[some (.tup [.str (Str.ofString "maybe").cps.toList,enc p]),some (.str t),some (.lst (Z00 B)),some (.str (Str.ofString "maybe").cps.toList),none,some (.lst (Z00 B)),none,some (.lst (Z00 B)),none,none,none],σ⟩ =
   .ok .next ⟨[some (.tup [.str (Str.ofString "maybe").cps.toList,enc p]),some (.str t),some (.lst (Z00 B)),some (.str (Str.ofString "maybe").cps.toList),none,some (.lst (Z00 (B++more.filter fun x=>!B.contains x))),y6,y7,none,none,none],σ++τ⟩:=fun σ hσ=>by
  have htr:Z0a (evE F (.loc 7) ⟨[some (.tup [.str (Str.ofString "maybe").cps.toList,enc p]),some (.str t),some (.lst (Z00 B)),some (.str (Str.ofString "maybe").cps.toList),none,some (.lst (Z00 B)),none,some (.lst (Z00 B)),none,none,none],σ⟩) = .ok (!(Z00 B).isEmpty) ⟨[some (.tup [.str (Str.ofString "maybe").cps.toList,enc p]),some (.str t),some (.lst (Z00 B)),some (.str (Str.ofString "maybe").cps.toList),none,some (.lst (Z00 B)),none,some (.lst (Z00 B)),none,none,none],σ⟩:=by
   unfold Z0a
   rw [Z1K]
   simp only [List.getElem?_cons_zero,List.getElem?_cons_succ,R.bind_ok,Zfb,R.lift_some]
  cases hb0:B with
  | nil=>
   rw [hb0] at m1 htr
   have hm:more = []:=List.eq_nil_iff_forall_not_mem.mpr fun x hx=>by obtain ⟨i,hi,_⟩:=(m1 x).mp hx; cases hi
   refine El.y3_1 none (some (.lst (Z00 []))) [] ?_
   rw [Z0G,htr,R.bind_ok]
   have:(!(Z00 []).isEmpty) = false:=rfl
   simp only [this,Bool.false_eq_true,if_false,List.append_nil,hm,List.filter_nil]
  | cons a b=>
   rw [← hb0]
   have hb:=Z81 F (k + 1) t ht (Str.ofString "maybe").cps.toList true Z2G p (enc p) (idx1 _) B more B B σ hσ none e1 (by have:=Z1e hn hB; lia) (by have:=Z1e n1 hle; lia)
   have hne:(!(Z00 B).isEmpty) = true:=by rw [hb0]; rfl
   refine El.y3_1 (some (.lst (Z00 more))) (some (.lst (Z00 (more.filter fun x=>!B.contains x)))) [.dead] ?_
   rw [Z0G,htr,R.bind_ok]
   simp only [hne,if_true]
   rw [hb,R.bind_ok]
   rfl
 refine ⟨B++more.filter fun x=>!B.contains x,fun σ hσ=>?_,Z4Z hn (n1.filter _) Z2L,fun j=>?_⟩
 ·refine El.x3_1 (hw σ hσ) fun y6 y7 τ e=>?_
  refine Z0w rfl ?_ (by rw [Z0p]; exact Z1B _ _) hσ
  rw [enc]
  show Ret (evSs F (k + 1) Z3c ⟨[some (.tup [.str (Str.ofString "maybe").cps.toList,enc p]),some (.str t),some (.lst (Z00 B)),none,none,none,none,none,none,none,none],σ⟩) _ _
  refine Ret.mk (ρ:=[some (.tup [.str (Str.ofString "maybe").cps.toList,enc p]),some (.str t),some (.lst (Z00 B)),some (.str (Str.ofString "maybe").cps.toList),none,some (.lst (Z00 (B++more.filter fun x=>!B.contains x))),y6,y7,none,none,none]) (τ:=τ) ?_
  exact atS fun t=>t rfl rfl Z1A Z2l rfl Z3h (ZeQ _ _) rfl rfl e rfl
 ·rw [mem_fresh,m1]
  have hc:∀ i,Glu.Sl (Glu.Pat.maybe p:Pt).lang t i j↔(i = j∧i ≤ t.length) ∨ Glu.Sl p.lang t i j:=fun i=>((Glu.sl_congr fun w=>Iff.rfl).trans Glu.sl_or).trans (or_congr Glu.sl_nil Iff.rfl)
  constructor
  ·rintro (h | ⟨i,hi,h⟩)
   ·exact ⟨j,h,(hc j).mpr (.inl ⟨rfl,hB j h⟩)⟩
   ·exact ⟨i,hi,(hc i).mpr (.inr h)⟩
  ·intro q0z
   refine El.x1_2 q0z fun i hi h=>?_
   rcases (hc i).mp h with h | h
   ·exact .inl (h.1 ▸ hi)
   ·exact .inr ⟨i,hi,h⟩
section
variable (C K:Nat) {H:Option (List Int) × Str→Int} (t:List Nat) (hT:t.length ≤ 1000) (hK:t.length + 3 ≤ K)
include hT hK
mutual
theorem Z3V:∀ (p:Pt) (n:Nat),ht p + 1 ≤ n→Z6T (Z08 (C,H) defs K n) t p
 | .one s,n,hn=>fun B h1 h2=>by
  obtain ⟨m,rfl⟩:∃ m,n = m + 1:=⟨n - 1,by lia⟩
  refine El.x1_2 (Zer (Z08 (C,H) defs K m) K t hT s B h1 h2) fun E e g=>?_
  exact ⟨E,fun σ hσ=>by rw [Z03 (by decide) Z7T]; exact e σ hσ,g⟩
 | .row ps,n,hn=>fun B h1 h2=>by
  rw [ht] at hn
  obtain ⟨m,rfl⟩:∃ m,n = m + 1:=⟨n - 1,by lia⟩
  refine El.x1_2 (Zes (Z08 (C,H) defs K m) K t ps (Z50 ps m (by lia)) B h1 h2) fun E e g=>?_
  exact ⟨E,fun σ hσ=>by rw [Z03 (by decide) Z7T]; exact e σ hσ,g⟩
 | .or ps,n,hn=>fun B h1 h2=>by
  rw [ht] at hn
  obtain ⟨m,rfl⟩:∃ m,n = m + 1:=⟨n - 1,by lia⟩
  refine El.x1_2 (Zgz (Z08 (C,H) defs K m) K t hT ps (Z50 ps m (by lia)) B h1 h2) fun E e g=>?_
  exact ⟨E,fun σ hσ=>by rw [Z03 (by decide) Z7T]; exact e σ hσ,g⟩
 | .many p,n,hn=>fun B h1 h2=>by
  rw [ht] at hn
  obtain ⟨m,rfl⟩:∃ m,n = m + 1:=⟨n - 1,by lia⟩
  refine El.x1_2 (Zcx (Z08 (C,H) defs K m) K t hT hK p (Z3V p m (by lia)) B h1 h2) fun E e g=>?_
  exact ⟨E,fun σ hσ=>by rw [Z03 (by decide) Z7T]; exact e σ hσ,g⟩
 | .maybe p,n,hn=>fun B h1 h2=>by
  rw [ht] at hn
  obtain ⟨m,rfl⟩:∃ m,n = m + 1:=⟨n - 1,by lia⟩
  refine El.x1_2 (ZaC (Z08 (C,H) defs K m) K t hT (by lia) p (Z3V p m (by lia)) B h1 h2) fun E e g=>?_
  exact ⟨E,fun σ hσ=>by rw [Z03 (by decide) Z7T]; exact e σ hσ,g⟩
theorem Z50:∀ (ps:Pts) (n:Nat),hts ps + 1 ≤ n→PAll (Z6T (Z08 (C,H) defs K n) t) ps
 | .nil,n,_=>by rw [PAll]; trivial
 | .cons p ps,n,hn=>by
  rw [hts] at hn
  rw [PAll]
  exact ⟨Z3V p n (by lia),Z50 ps n (by lia)⟩
end
end
noncomputable def s1:Str:=Str.ofString " !\"#$&'()*+,-./0123456789:;<=>?@ABCDEFGHIJKLMNOPQRSTUVWXYZ[\\]^_`"
noncomputable def s2:Str:=Str.ofString "abcdefghijklmnopqrstuvwxyz{|}~\n\t"
noncomputable def signs:List Nat:=s1.cps.toList++s2.cps.toList
theorem ZgA (a b:Int) (h:(Z0v a || Z0v b) = true):Z46 .mul (.int a) (.int b) = some (.int (a * b)):=Z1N a b h
theorem Z82:signs.length = 96:=by decide +kernel
theorem Zeu:signs.Nodup:=by decide +kernel
theorem Zev:signs.all (· < 128) = true:=by decide +kernel
noncomputable def Z0M (i:Int):Nat:=signs.getD (i.emod 96).toNat 0
theorem Z3i (i:Int):(i.emod 96).toNat < 96∧((i.emod 96).toNat:Int) = i.emod 96:=by
 have h1:=Int.emod_nonneg i (show (96:Int) ≠ 0 by decide)
 have h2:=Int.emod_lt_of_pos i (show (0:Int) < 96 by decide)
 change 0 ≤ i.emod 96 at h1
 change i.emod 96 < 96 at h2
 lia
theorem Z24 (i:Int):signs[(i.emod 96).toNat]? = some (Z0M i):=by
 have h:=(Z3i i).1
 unfold Z0M
 rw [List.getD_eq_getElem?_getD,List.getElem?_eq_getElem (by rw [Z82]; exact h)]; rfl
theorem Z83 (i:Int):Z0M i < 128:=by
 have:=List.all_eq_true.mp Zev (Z0M i) (List.mem_of_getElem? (Z24 i))
 exact of_decide_eq_true this
theorem ZaD {i j:Int} (h:Z0M i = Z0M j):i.emod 96 = j.emod 96:=by
 have h1:=Z24 i
 have h2:=Z24 j
 rw [← h] at h2
 have h3:=(List.getElem?_inj (by rw [Z82]; exact (Z3i i).1) Zeu).mp (h1.trans h2.symm)
 have h4:=(Z3i i).2
 have h5:=(Z3i j).2
 rw [← h4,← h5,h3]
theorem Z51 (F:Fn) (K:Nat) (i:Int) (σ:List O) (hσ:Cl σ):Z07 F K Z4K [.int i] σ = .ok (.str [Z0M i]) ⟨[],σ⟩:=by
 have hl1:s1.cps.toList.length = 64:=by decide +kernel
 have hl2:s2.cps.toList.length = 32:=by decide +kernel
 have hb:Z3a = .cons (.asg 1 (.str s1)) (.cons (.asg 1 (.bin .add (.loc 1) (.str s2))) (.cons (.ret (.sub (.loc 1) (.bin .mod (.loc 0) (.int 96)))) .nil)):=rfl
 have hg:=Z24 i
 have hlt:=(Z3i i).1
 have hm:Int.fmod i 96 = (((i.emod 96).toNat:Nat):Int):=by rw [(Z3i i).2,Int.fmod_eq_emod_of_nonneg _ (by decide)]; rfl
 have hc':Z0n (s1.cps.toList++s2.cps.toList) (i.fmod 96) = some (Z0M i):=by rw [hm,Z0y _ (by lia)]; exact hg
 have hsz:s1.cps.toList.length + s2.cps.toList.length ≤ sizeLine:=by rw [hl1,hl2]; decide
 refine Z0w rfl ?_ (Z0b _) hσ
 show Ret (evSs F K Z3a ⟨[some (.int i),none],σ⟩) _ _
 refine Ret.mk0 (ρ:=[some (.int i),some (.str (s1.cps.toList++s2.cps.toList))]) ?_
 rw [hb]
 exact atS fun t=>t rfl (Z2W _ _ hsz) rfl rfl (Z7K hc') rfl
theorem Z25 {n:Nat} {x:V} (h:x ∈ upTo 0 n):∃ k:Nat,k < n∧x = .int k:=by
 unfold upTo at h
 refine El.x1_2 (List.mem_map.mp h) fun k hk q0z=>?_
 obtain rfl:=q0z
 have:=List.mem_range.mp hk
 exact ⟨k,by lia,by simp⟩
theorem Z6V (n:Nat) (f:V→V):(upTo 0 n).map f = (List.range n).map fun k:Nat=>f (.int (k:Int)):=by
 unfold upTo
 rw [List.map_map]
 have:((n:Int) - 0).toNat = n:=by lia
 rw [this]
 exact List.map_congr_left fun k _=>by simp
theorem Z0C (n:Nat):(upTo 0 n).length = n:=by simp [upTo]
theorem Z0i {n:Nat} (h:n < 2 ^ 31):Z0D (n:Int) = true:=by
 have h1:(-(2 ^ 62):Int) ≤ (n:Int):=by lia
 have h2:((n:Int):Int) < 2 ^ 62:=by lia
 unfold Z0D
 rw [decide_eq_true h1,decide_eq_true h2]; rfl
theorem Z84:∀ (l:List Nat),Z1h (l.map fun c=>V.str [c]) = some (l.map fun c=>[c])
 | []=>rfl
 | c :: l=>(congrArg (Option.map ([c] :: ·)) (Z84 l):_)
theorem Z52:∀ (l:List Nat),(l.map fun c=>[c]).flatten = l
 | []=>rfl
 | c :: l=>by rw [List.map_cons,List.flatten_cons,Z52 l]; rfl
theorem Z3W (n i:Nat):clipAt n (i:Int) = min i n:=by
 unfold clipAt
 rw [if_neg (Int.not_lt.mpr (Int.natCast_nonneg i))]
 rcases Nat.le_total i n with h | h
 ·rw [Int.min_eq_left (Int.ofNat_le.mpr h),Nat.min_eq_left h,Int.max_eq_right (Int.natCast_nonneg _),Int.toNat_natCast]
 ·rw [Int.min_eq_right (Int.ofNat_le.mpr h),Nat.min_eq_right h,Int.max_eq_right (Int.natCast_nonneg _),Int.toNat_natCast]
theorem ZgB {α:Type} (xs:List α) (a b:Nat) (hab:a ≤ b) (hb:b ≤ xs.length):cutL xs (some (a:Int)) (some (b:Int)) = (xs.drop a).take (b - a):=by
 unfold cutL
 simp only [Option.elim_some,Z3W]
 rw [Nat.min_eq_left hb,Nat.min_eq_left (Nat.le_trans hab hb)]
theorem Z0S {i:Int} (h1:-1000000 ≤ i) (h2:i ≤ 1000000):Z0v i = true:=by
 unfold Z0v
 rw [decide_eq_true (by lia),decide_eq_true (by lia)]; rfl
theorem Z0c (a:Int) (n:Nat) (hn:0 < n):∃ k:Nat,Int.fmod a n = k∧k < n:=by
 have h1:0 ≤ Int.fmod a n:=by rw [Int.fmod_eq_emod_of_nonneg _ (by lia)]; exact Int.emod_nonneg _ (by lia)
 have h2:Int.fmod a n < n:=by rw [Int.fmod_eq_emod_of_nonneg _ (by lia)]; exact Int.emod_lt_of_pos _ (by lia)
 refine El.x1_1 (Int.eq_ofNat_of_zero_le h1) fun k hk=>?_
 exact ⟨k,hk,by rw [hk] at h2; lia⟩
noncomputable def Z5k (cell g:Int) (z:Nat):List Nat:=(List.range (5 * z)).map fun j:Nat=>Z0M (cell + (j:Int) * g)
theorem Z85 (cell g:Int) (z:Nat):(Z5k cell g z).length = 5 * z:=by simp [Z5k]
theorem Zew {cell g:Int} {z c:Nat} (h:c ∈ Z5k cell g z):c < 128:=by
 obtain ⟨j,_,rfl⟩:=List.mem_map.mp h; exact Z83 _
theorem gap1 {g g' q cell i j:Int} (e:g * g' = 96 * q + 1) (h:(cell + i * g) % 96 = (cell + j * g) % 96):∃ m,i - j = 96 * m:=by
 have h1:i * g - j * g = 96 * ((cell + i * g) / 96 - (cell + j * g) / 96):=by
  generalize i * g = a at h ⊢
  generalize j * g = b at h ⊢
  lia
 refine ⟨((cell + i * g) / 96 - (cell + j * g) / 96) * g' - (i - j) * q,?_⟩
 have h2:(i - j) * (g * g') = 96 * (((cell + i * g) / 96 - (cell + j * g) / 96) * g'):=by
  rw [← Int.mul_assoc,Int.sub_mul,h1,Int.mul_assoc]
 rw [e,Int.mul_add,Int.mul_one,Int.mul_left_comm] at h2
 rw [Int.mul_sub,← h2]
 rw [Int.add_comm]; exact (Int.add_sub_cancel ..).symm
theorem ZgC {g cell:Int} (hg:g ∈ ([1,5,7,11,13,17,19,23]:List Int)) {i j:Nat} (hi:i < 96) (hj:j < 96) (h:(cell + (i:Int) * g) % 96 = (cell + (j:Int) * g) % 96):i = j:=by
 have key:∀ g' q:Int,g * g' = 96 * q + 1→i = j:=fun g' q e=>El.x1_1 (gap1 e h) fun m hm=>by lia
 simp only [List.mem_cons,List.not_mem_nil,or_false] at hg
 rcases hg with rfl | rfl | rfl | rfl | rfl | rfl | rfl | rfl
 ·exact key 1 0 (by decide)
 ·exact key 77 4 (by decide)
 ·exact key 55 4 (by decide)
 ·exact key 35 4 (by decide)
 ·exact key 37 5 (by decide)
 ·exact key 17 3 (by decide)
 ·exact key 91 18 (by decide)
 ·exact key 71 17 (by decide)
theorem Zex {cell g:Int} {z:Nat} (hz:z ≤ 19) (hg:g ∈ ([1,5,7,11,13,17,19,23]:List Int)):(Z5k cell g z).Nodup:=by
 unfold Z5k
 rw [List.nodup_iff_pairwise_ne,List.pairwise_map]
 refine List.Pairwise.imp_of_mem (fun {i j} hi hj hne e=>hne ?_) List.nodup_range
 have h1:=List.mem_range.mp hi
 have h2:=List.mem_range.mp hj
 exact ZgC hg (by lia) (by lia) (ZaD e)
noncomputable def word (L:List Nat) (z k:Nat):List Nat:=(L.drop (k * z)).take z
noncomputable def Z04 (L:List Nat) (z:Nat):List V:=(List.range 5).map fun k=>.str (word L z k)
theorem Z0V {L:List Nat} {z k:Nat} (hk:k < 5) (hL:L.length = 5 * z):(word L z k).length = z:=by
 unfold word
 rw [List.length_take,List.length_drop,hL]
 have:(k + 1) * z ≤ 5 * z:=Nat.mul_le_mul_right z (by lia)
 rw [Nat.add_mul] at this; lia
theorem Z3X {L:List Nat} {z k:Nat}:∀ c ∈ word L z k,c ∈ L:=fun c h=>List.mem_of_mem_drop (List.mem_of_mem_take h)
theorem Zcy {L:List Nat} {z k:Nat} (h:L.Nodup):(word L z k).Nodup:=(h.sublist (List.drop_sublist _ _)).sublist (List.take_sublist _ _)
theorem Za6 {L:List Nat} {z k:Nat} {c:Nat} (h:c ∈ word L z k):∃ i,i < z∧L[k * z + i]? = some c:=by
 refine El.x1_1 (List.mem_iff_getElem?.mp h) fun i hi=>?_
 unfold word at hi
 rw [List.getElem?_take] at hi
 split at hi
 ·rename_i hz
  rw [List.getElem?_drop] at hi
  exact ⟨i,hz,hi⟩
 ·cases hi
theorem Zcz {L:List Nat} {z j k c:Nat} (h:L.Nodup) (hjk:j < k) (hj:c ∈ word L z j) (hk:c ∈ word L z k):False:=by
 refine El.x1_2 (Za6 hj) fun i hi e1=>?_
 refine El.x1_2 (Za6 hk) fun i' hi' e2=>?_
 have:=(List.getElem?_inj (List.getElem?_eq_some_iff.mp e1).1 h).mp (e1.trans e2.symm)
 have h1:(j + 1) * z ≤ k * z:=Nat.mul_le_mul_right z hjk
 rw [Nat.add_mul] at h1
 lia
theorem Z86 (F:Fn) (K:Nat) (cell g:Int) (z:Nat) (h1:1 ≤ z) (h2:z ≤ 19) (σ:List O) (hσ:Cl σ) (hF:∀ i τ,Cl τ→F "_law_sign_by" [.int i] τ = .ok (.str [Z0M i]) ⟨[],τ⟩) :
  Ret (evSs F K (.cons (.asg 3 (.comp Z14 4 (.range1 (.bin .mul (.int 5) (.loc 2))) .nil)) (.cons (.ret (.comp Z15 5 (.range1 (.int 5)) .nil)) .nil)) ⟨[some (.int cell),some (.int g),some (.int z),none,none,none],σ⟩) (.lst (Z04 (Z5k cell g z) z)) σ:=by
 have hz5:(5:Int) * (z:Int) = ((5 * z:Nat):Int):=by lia
 have s5:Z0v 5 = true:=Z0S (by lia) (by lia)
 have r5:Z0D 5 = true:=Z0i (n:=5) (by lia)
 have e1:=Z2J (F:=F) (elt:=Z14) (k:=4) (ρ₀:=[some (.int cell),some (.int g),some (.int z),none,none,none]) (σ:=σ) (it:=.range1 (.bin .mul (.int 5) (.loc 2))) (xs:=upTo 0 (5 * z:Nat))
  (fun x=>match x with | .int k=>.str [Z0M (cell + k * g)] | _=>.none) (fun x hx=>by obtain ⟨k,_,rfl⟩:=Z25 hx; exact Z0b _)
  (by
   rw [Z48,ZaZ,Z60,R.bind_ok,Z1K]
   simp only [List.getElem?_cons_zero,List.getElem?_cons_succ,R.bind_ok]
   rw [ZgA _ _ (by rw [s5]; rfl),R.lift_some,R.bind_ok,hz5]
   simp only [Z0i (show 5 * z < 2 ^ 31 by lia),if_true])
  (by rw [Z0C]; unfold sizeLine; lia)
  (fun x hx acc ha=>by
   refine El.x1_2 (Z25 hx) fun k hk q0z=>?_
   obtain rfl:=q0z
   have sk:Z0v (k:Int) = true:=Z2p (by lia)
   have hc:=hF (cell + (k:Int) * g) (σ++[.lst acc]) (hσ.snoc ha)
   have hm:=Z1N (k:Int) g (by rw [sk]; rfl)
   exact atE fun t=>t hm hc)
 have ey:(upTo 0 (5 * z:Nat)).map (fun x=>match x with | .int k=>V.str [Z0M (cell + k * g)] | _=>.none) = (Z5k cell g z).map fun c=>V.str [c]:=by
  rw [Z6V]
  unfold Z5k
  rw [List.map_map]
  rfl
 rw [ey] at e1
 have hL:=Z85 cell g z
 generalize Z5k cell g z = L at e1 hL
 have e2:=Z2J (F:=F) (elt:=Z15) (k:=5) (ρ₀:=[some (.int cell),some (.int g),some (.int z),some (.lst (L.map fun c=>V.str [c])),none,none]) (σ:=σ++[.dead]) (it:=.range1 (.int 5)) (xs:=upTo 0 (5:Nat))
  (fun x=>match x with | .int k=>.str (word L z k.toNat) | _=>.none) (fun x hx=>by obtain ⟨k,_,rfl⟩:=Z25 hx; exact Z0b _)
  (by
   rw [Z48,Z60,R.bind_ok]
   simp only [r5,if_true]
   rfl)
  (by rw [Z0C]; unfold sizeLine; lia)
  (fun x hx acc ha=>by
   refine El.x1_2 (Z25 hx) fun k hk q1z=>?_
   obtain rfl:=q1z
   have sk:Z0v (k:Int) = true:=Z2p (by lia)
   have hkz:(k:Int) * (z:Int) = ((k * z:Nat):Int):=by simp
   have hkz2:((k * z:Nat):Int) + (z:Int) = ((k * z + z:Nat):Int):=by simp
   have hle:k * z + z ≤ 5 * z:=by
    have:(k + 1) * z ≤ 5 * z:=Nat.mul_le_mul_right z (by lia)
    rw [Nat.add_mul] at this; lia
   have hcut:cutL (L.map fun c=>V.str [c]) (some ((k * z:Nat):Int)) (some ((k * z + z:Nat):Int)) = (word L z k).map fun c=>V.str [c]:=by
    rw [ZgB _ _ _ (by lia) (by rw [List.length_map,hL]; exact hle),Nat.add_sub_cancel_left]
    unfold word
    rw [List.map_take,List.map_drop]
   have hm:=Z1N (k:Int) z (by rw [sk]; rfl)
   rw [hkz] at hm
   have hsl:Z0E (σ++[O.dead]++[O.lst acc]) (.lst (L.map fun c=>V.str [c])) (.int ((k * z:Nat):Int)) (.int (((k * z:Nat):Int) + (z:Int))) = some (.lst ((word L z k).map fun c=>V.str [c])):=by
    rw [hkz2,Zfs,hcut]
   have hj:∀ st,Z1H .join (.str []) (.lst ((word L z k).map fun c=>V.str [c])) st = .ok (.str (word L z k)) st:=fun st=>by
    have:=Z8j (Z84 (word L z k)) (by rw [Z52,Z0V hk hL]; unfold sizeLine; lia) st
    rwa [Z52] at this
   exact atE fun t=>t rfl hm hm hsl (hj _))
 have ew:(upTo 0 (5:Nat)).map (fun x=>match x with | .int k=>V.str (word L z k.toNat) | _=>.none) = Z04 L z:=by
  rw [Z6V]; rfl
 rw [ew] at e2
 refine ⟨[some (.int cell),some (.int g),some (.int z),some (.lst (L.map fun c=>V.str [c])),none,none],[.dead,.dead],?_⟩
 rw [Z1i,Z8i,e1,R.bind_ok,qset,R.bind_ok]
 simp only [List.set_cons_succ,List.set_cons_zero]
 rw [Z1i,Zb1,e2,R.bind_ok,R.bind_ok]
 simp only [List.append_assoc,List.cons_append,List.nil_append]
 rfl
structure Lets (L:List Nat) (z:Nat):Prop where
 len:L.length = 5 * z
 z1:1 ≤ z
 z19:z ≤ 19
 nd:L.Nodup
 lt:∀ c ∈ L,c < 128
theorem Zey (L:List Nat) (z n:Nat):(V.lst (Z04 L z)).lo n = true:=by
 rw [Z0p]; exact Z3E fun y hy=>by unfold Z04 at hy; obtain ⟨k,_,rfl⟩:=List.mem_map.mp hy; exact Z0b _
theorem Z8Y (F:Fn) (K:Nat) (cell:Int):∃ L z,Lets L z∧∀ (σ:List O),Cl σ→(∀ i τ,Cl τ→F "_law_sign_by" [.int i] τ = .ok (.str [Z0M i]) ⟨[],τ⟩) →
  Z07 F K Z2A [.int cell] σ = .ok (.lst (Z04 L z)) ⟨[],σ⟩:=by
 refine El.x1_2 (Z8k (([1,5,7,11,13,17,19,23]:List Int).map V.int) (i:=Int.fdiv cell 96) (n:=8) (by lia) (by lia) (by decide)) fun x hx hm=>?_
 refine El.x1_2 (List.mem_map.mp hm) fun g hgm q2z=>?_
 obtain rfl:=q2z
 have hx':Z0n [V.int 1,V.int 5,V.int 7,V.int 11,V.int 13,V.int 17,V.int 19,V.int 23] ((cell.fdiv 96).fmod 8) = some (.int g):=hx
 have hs:∀ σ,evSs F K Z1m ⟨[some (.int cell),none,none,none,none,none],σ⟩ =
   evSs F K (.cons (.ifte (.cmp .eq (.bin .mod (.bin .fdiv (.loc 0) (.int 768)) (.int 4)) (.int 1)) (.cons (.asg 2 (.bin .add (.bin .add (.int 2) (.bin .mod (.bin .fdiv (.loc 0) (.int 3072)) (.int 8))) (.bin .mul (.int 10) (.bin .mod (.bin .fdiv (.loc 0) (.int 24576)) (.int 2))))) .nil) .nil)
    (.cons (.asg 3 (.comp Z14 4 (.range1 (.bin .mul (.int 5) (.loc 2))) .nil)) (.cons (.ret (.comp Z15 5 (.range1 (.int 5)) .nil)) .nil))) ⟨[some (.int cell),some (.int g),some (.int 1),none,none,none],σ⟩:=by
  intro σ
  have h8:(8:Nat) ≤ sizeLine:=by decide
  unfold Z1m
  rw [Z1i,Z8i,Zfr,Zdb]
  simp only [Z1L,Zdc,Z60,R.bind_ok,List.length_cons,List.length_nil,Nat.zero_add,Nat.reduceAdd,if_pos h8,ZaZ,Z1K,List.getElem?_cons_zero,R.lift_some,Zft _ _ (show (96:Int) ≠ 0 by decide),Z7g _ _ (show (8:Int) ≠ 0 by decide),Z1E,hx',qset,List.set_cons_succ,List.set_cons_zero]
  rw [Z1i,Z8i,Z60,R.bind_ok,qset,R.bind_ok]
  rfl
 have fin:∀ (z:Nat),1 ≤ z→z ≤ 19→(∀ σ,evSs F K Z1m ⟨[some (.int cell),none,none,none,none,none],σ⟩ =
   evSs F K (.cons (.asg 3 (.comp Z14 4 (.range1 (.bin .mul (.int 5) (.loc 2))) .nil)) (.cons (.ret (.comp Z15 5 (.range1 (.int 5)) .nil)) .nil)) ⟨[some (.int cell),some (.int g),some (.int z),none,none,none],σ⟩) →
   ∃ L z,Lets L z∧∀ (σ:List O),Cl σ→(∀ i τ,Cl τ→F "_law_sign_by" [.int i] τ = .ok (.str [Z0M i]) ⟨[],τ⟩)→Z07 F K Z2A [.int cell] σ = .ok (.lst (Z04 L z)) ⟨[],σ⟩:=by
  intro z h1 h2 he
  refine ⟨Z5k cell g z,z,⟨Z85 _ _ _,h1,h2,Zex h2 hgm,fun c h=>Zew h⟩,fun σ hσ hF=>Z0w rfl ?_ (Zey _ _ _) hσ⟩
  show Ret (evSs F K Z1m ⟨[some (.int cell),none,none,none,none,none],σ⟩) _ _
  rw [he]; exact Z86 F K cell g z h1 h2 σ hσ hF
 by_cases hc:(cell.fdiv 768).fmod 4 = 1
 ·refine El.x1_2 (Z0c (cell.fdiv 3072) 8 (by lia)) fun a ha ha8=>?_
  refine El.x1_2 (Z0c (cell.fdiv 24576) 2 (by lia)) fun b hb hb2=>?_
  have ha':(cell.fdiv 3072).fmod 8 = a:=ha
  have hb':(cell.fdiv 24576).fmod 2 = b:=hb
  refine fin (2 + a + 10 * b) (by lia) (by lia) fun σ=>?_
  rw [hs,Z1i]
  have hm:=Z1N 10 ((cell.fdiv 24576).fmod 2) (by rw [Z0S (i:=10) (by lia) (by lia)]; rfl)
  have e:(2:Int) + (cell.fdiv 3072).fmod 8 + 10 * (cell.fdiv 24576).fmod 2 = ((2 + a + 10 * b:Nat):Int):=by rw [ha',hb']; lia
  have hst:evS F K (.ifte (.cmp .eq (.bin .mod (.bin .fdiv (.loc 0) (.int 768)) (.int 4)) (.int 1)) (.cons (.asg 2 (.bin .add (.bin .add (.int 2) (.bin .mod (.bin .fdiv (.loc 0) (.int 3072)) (.int 8))) (.bin .mul (.int 10) (.bin .mod (.bin .fdiv (.loc 0) (.int 24576)) (.int 2))))) .nil) .nil) ⟨[some (.int cell),some (.int g),some (.int 1),none,none,none],σ⟩ =
    .ok .next ⟨[some (.int cell),some (.int g),some (.int ((2 + a + 10 * b:Nat):Int)),none,none,none],σ⟩:=by
   exact at1 fun t=>t rfl rfl (beq_iff_eq.mpr hc) rfl rfl rfl rfl hm (congrArg V.int e)
  rw [hst,R.bind_ok]
 ·refine fin 1 (by lia) (by lia) fun σ=>?_
  rw [hs,Z1i]
  have hst:evS F K (.ifte (.cmp .eq (.bin .mod (.bin .fdiv (.loc 0) (.int 768)) (.int 4)) (.int 1)) (.cons (.asg 2 (.bin .add (.bin .add (.int 2) (.bin .mod (.bin .fdiv (.loc 0) (.int 3072)) (.int 8))) (.bin .mul (.int 10) (.bin .mod (.bin .fdiv (.loc 0) (.int 24576)) (.int 2))))) .nil) .nil) ⟨[some (.int cell),some (.int g),some (.int 1),none,none,none],σ⟩ =
    .ok .next ⟨[some (.int cell),some (.int g),some (.int 1),none,none,none],σ⟩:=by
   have d1:((cell.fdiv 768).fmod 4 == 1) = false:=by rw [beq_eq_false_iff_ne]; exact hc
   exact at1 fun t=>t rfl rfl d1
  rw [hst,R.bind_ok]
  rfl
noncomputable def Z3Y (W:Nat→List Nat) (i:Nat) (p:Nat × List Nat):Nat × List Nat:=(p.1 / 2,if p.1 % 2 = 1 then W i++p.2 else p.2)
noncomputable def Z3j (W:Nat→List Nat) (m:Nat):Nat→Nat × List Nat
 | 0=>(m,[])
 | i + 1=>Z3Y W i (Z3j W m i)
noncomputable def Z1f (W:Nat→List Nat) (m:Nat):List Nat:=(Z3j W m 4).2
structure SomeOk (L:List Nat) (z m i:Nat) (p:Nat × List Nat):Prop where
 mm:p.1 = m / 2 ^ i
 nd:p.2.Nodup
 sub:∀ c ∈ p.2,∃ k,k < i∧c ∈ word L z k
 ne:p.2 = []→m % 2 ^ i = 0
 len:p.2.length ≤ 19 * i
theorem Z8Z {L:List Nat} {z:Nat} (h:Lets L z) (m:Nat):∀ i,i ≤ 4→SomeOk L z m i (Z3j (word L z) m i)
 | 0,_=>⟨(Nat.div_one m).symm,List.nodup_nil,(fun _ h=>by cases h),fun _=>Nat.mod_one m,Nat.zero_le _⟩
 | i + 1,hi=>by
  have ih:=Z8Z h m i (by lia)
  have hp:(2:Nat) ^ (i + 1) = 2 ^ i * 2:=Nat.pow_succ ..
  have hmod:m % 2 ^ (i + 1) = m % 2 ^ i + 2 ^ i * (m / 2 ^ i % 2):=by rw [hp,Nat.mod_mul]
  have hwl:=Z0V (k:=i) (by lia) h.len
  show SomeOk L z m (i + 1) (Z3Y (word L z) i (Z3j (word L z) m i))
  generalize Z3j (word L z) m i = p at ih ⊢
  unfold Z3Y
  refine ⟨?_,?_,?_,?_,?_⟩
  ·show p.1 / 2 = _
   rw [ih.mm,Nat.div_div_eq_div_mul,hp]
  ·show (if p.1 % 2 = 1 then word L z i++p.2 else p.2).Nodup
   split
   ·rw [List.nodup_append]
    refine ⟨Zcy h.nd,ih.nd,fun a ha b hb e=>?_⟩
    subst e
    refine El.x1_2 (ih.sub a hb) fun k hk hc=>?_
    exact Zcz h.nd hk hc ha
   ·exact ih.nd
  ·show ∀ c ∈ (if p.1 % 2 = 1 then word L z i++p.2 else p.2),_
   intro c hc
   split at hc
   ·rcases List.mem_append.mp hc with hc | hc
    ·exact ⟨i,by lia,hc⟩
    ·obtain ⟨k,hk,hc⟩:=ih.sub c hc; exact ⟨k,by lia,hc⟩
   ·obtain ⟨k,hk,hc⟩:=ih.sub c hc; exact ⟨k,by lia,hc⟩
  ·show (if p.1 % 2 = 1 then word L z i++p.2 else p.2) = []→_
   intro hc
   split at hc
   ·have:=congrArg List.length hc
    rw [List.length_append,hwl,List.length_nil] at this
    have:=h.z1
    lia
   ·rename_i hb
    have h0:=ih.ne hc
    rw [ih.mm] at hb
    rw [hmod,h0]
    have:m / 2 ^ i % 2 = 0:=by lia
    rw [this]
    rfl
  ·show (if p.1 % 2 = 1 then word L z i++p.2 else p.2).length ≤ _
   have:=ih.len
   have:=h.z19
   split
   ·rw [List.length_append,hwl]; lia
   ·lia
theorem Z90 {L:List Nat} {z:Nat} (h:Lets L z) {m:Nat} (h1:1 ≤ m) (h2:m ≤ 15):LeafOk (Z1f (word L z) m):=by
 have o:=Z8Z h m 4 (Nat.le_refl _)
 refine ⟨fun e=>?_,o.nd,List.all_eq_true.mpr fun c hc=>?_,o.len⟩
 ·have:=o.ne e
  have h16:m % 2 ^ 4 = m:=Nat.mod_eq_of_lt (by lia)
  lia
 ·refine El.x1_2 (o.sub c hc) fun k _ hk=>?_
  exact decide_eq_true (h.lt c (Z3X c hk))
theorem Z6W (m n:Nat):Int.fdiv (m:Int) (n:Int) = ((m / n:Nat):Int):=by
 rw [Int.fdiv_eq_ediv_of_nonneg _ (by lia)]; rfl
theorem Z87 (m n:Nat):Int.fmod (m:Int) (n:Int) = ((m % n:Nat):Int):=by
 rw [Int.fmod_eq_emod_of_nonneg _ (by lia)]; rfl
theorem Z88 {L:List Nat} {z k:Nat} (hk:k < 5):(Z04 L z)[k]? = some (.str (word L z k)):=by
 unfold Z04
 rw [List.getElem?_map,List.getElem?_range hk]; rfl
theorem Z91 (F:Fn) (K:Nat) {L:List Nat} {z:Nat} (h:Lets L z) (m:Nat) (σ:List O) (hσ:Cl σ):Z07 F K Z4L [.lst (Z04 L z),.int m] σ = .ok (.str (Z1f (word L z) m)) ⟨[],σ⟩:=by
 obtain ⟨st,e,x3,rfl⟩:=Z9k (step:=fun x st=>evSs F K Z2h (setV st 3 x))
  (fun i st=>∃ x3,st = ⟨[some (.lst (Z04 L z)),some (.int ((Z3j (word L z) m i).1:Nat)),some (.str (Z3j (word L z) m i).2),x3],σ⟩)
  (upTo 0 (4:Nat)) 0 ⟨[some (.lst (Z04 L z)),some (.int m),some (.str []),none],σ⟩ (by
   intro i x st hx q0z
   refine El.x1_1 q0z fun x3 q1z=>?_
   obtain rfl:=q1z
   rw [Nat.zero_add] at *
   have hi:i < 4:=by have:=(List.getElem?_eq_some_iff.mp hx).1; rwa [Z0C] at this
   have hxi:x = .int (i:Int):=by
    unfold upTo at hx
    rw [List.getElem?_map] at hx
    refine El.x1_2 (Option.map_eq_some_iff.mp hx) fun k hk q2z=>?_
    obtain rfl:=q2z
    refine El.x1_1 (List.getElem?_eq_some_iff.mp hk) fun hk1 q3z=>?_
    obtain rfl:=q3z
    simp
   subst hxi
   have o:=Z8Z h m i (by lia)
   have hwl:=Z0V (k:=i) (by lia) h.len
   refine ⟨⟨[some (.lst (Z04 L z)),some (.int ((Z3j (word L z) m (i + 1)).1:Nat)),some (.str (Z3j (word L z) m (i + 1)).2),some (.int i)],σ⟩,?_,_,rfl⟩
   rw [Z3j]
   generalize Z3j (word L z) m i = p at o
   have hd:=Z6W p.1 2
   have hm:=Z87 p.1 2
   have hd':Int.fdiv (p.1:Int) 2 = ((p.1 / 2:Nat):Int):=hd
   have hm':Int.fmod (p.1:Int) 2 = ((p.1 % 2:Nat):Int):=hm
   have hi5:Z0n (Z04 L z) (i:Int) = some (.str (word L z i)):=by rw [Z0y _ (by lia),Z88 (by lia)]
   have hz:=h.z19
   have hol:=o.len
   have ha:=Z2W (word L z i) p.2 (by unfold sizeLine; lia)
   unfold Z3Y
   by_cases hb:p.1 % 2 = 1
   ·have hc:(Int.fmod (p.1:Int) 2 == 1) = true:=by rw [hm',hb]; rfl
    rw [if_pos hb]
    exact atS fun t=>t rfl hc ((Z1E _ _ _).trans hi5) ha rfl rfl (congrArg V.int hd')
   ·have hc:(Int.fmod (p.1:Int) 2 == 1) = false:=by rw [hm',beq_eq_false_iff_ne]; lia
    rw [if_neg hb]
    exact atS fun t=>t rfl hc rfl (congrArg V.int hd'))
  ⟨none,rfl⟩
 rw [Z0C] at e
 refine Z0w rfl ?_ (Z0b _) hσ
 show Ret (evSs F K Z5H ⟨[some (.lst (Z04 L z)),some (.int m),none,none],σ⟩) _ _
 refine Ret.mk0 (ρ:=[some (.lst (Z04 L z)),some (.int ((Z3j (word L z) m 4).1:Nat)),some (.str (Z1f (word L z) m)),x3]) ?_
 have e':forR (fun x st=>evSs F K Z2h (setV st 3 x)) (upTo 0 4) ⟨[some (.lst (Z04 L z)),some (.int m),some (.str []),none],σ⟩ = .ok .next ⟨[some (.lst (Z04 L z)),some (.int ((Z3j (word L z) m 4).1:Nat)),some (.str (Z1f (word L z) m)),x3],σ⟩:=e
 have r4:Z0D 4 = true:=Z0i (n:=4) (by lia)
 exact atS fun t=>t rfl rfl r4 e' rfl
theorem ZcA {S:Type} {step:V→St→R Fl} (render:S→List O→St) (P:Nat→S→Prop):∀ (xs:List V) (k:Nat) (s:S),(∀ i x s,xs[i]? = some x→P (k + i) s→∃ s',P (k + i + 1) s'∧∀ σ,Cl σ→step x (render s σ) = .ok .next (render s' σ))→P k s →
  ∃ s',P (k + xs.length) s'∧∀ σ,Cl σ→forR step xs (render s σ) = .ok .next (render s' σ)
 | [],k,s,_,h=>⟨s,h,fun σ _=>by rw [Z0r]⟩
 | x :: xs,k,s,hs,h=>by
  refine El.x1_2 (hs 0 x s rfl h) fun s₁ h1 e1=>?_
  have q6y:=ZcA render P xs (k + 1) s₁ (fun i y s' hy hP=>by
   have:=hs (i + 1) y s' (by simpa using hy) (by rw [show k + (i + 1) = k + 1 + i by lia]; exact hP)
   rw [show k + (i + 1) + 1 = k + 1 + i + 1 by lia] at this
   exact this) h1
  refine El.x1_2 q6y fun s₂ h2 e2=>?_
  refine ⟨s₂,by rw [List.length_cons,show k + (xs.length + 1) = k + 1 + xs.length by lia]; exact h2,fun σ hσ=>?_⟩
  rw [Z0e,e1 σ hσ,R.bind_ok]
  exact e2 σ hσ
noncomputable def gl (l:List (Option V)) (k:Nat):Option V:=(l[k]?).getD none
theorem Z6X {A B C:Type} {step:V→St→R Fl} (render:A→B→C→(Nat→Option V)→List O→St) (P:Nat→A→B→Prop) (xs:List V) (a:A) (b:B) (c:C) (g:Nat→Option V)
  (hs:∀ i x a b c g,xs[i]? = some x→P i a b→∃ a' b' c' g',P (i + 1) a' b'∧∀ σ,Cl σ→step x (render a b c g σ) = .ok .next (render a' b' c' g' σ)) (h:P 0 a b) :
  ∃ a' b' c' g',P xs.length a' b'∧∀ σ,Cl σ→forR step xs (render a b c g σ) = .ok .next (render a' b' c' g' σ):=by
 refine El.x1_2 (ZcA (S:=A × B × C × (Nat→Option V)) (step:=step) (fun s σ=>render s.1 s.2.1 s.2.2.1 s.2.2.2 σ) (fun i s=>P i s.1 s.2.1) xs 0 (a,b,c,g) (fun i x s hx hp=>?_) h) fun s h1 h2=>?_
 ·rw [Nat.zero_add] at hp ⊢
  exact El.x4_2 (hs i x _ _ _ s.2.2.2 hx hp) fun a b c g h e=>⟨(a,b,c,g),h,e⟩
 ·rw [Nat.zero_add] at h1
  exact El.y4_2 _ _ _ _ h1 h2
theorem Z26 {n i:Nat} {x:V} (h:(upTo 0 n)[i]? = some x):x = .int (i:Int)∧i < n:=by
 have hi:i < n:=by have:=(List.getElem?_eq_some_iff.mp h).1; rwa [Z0C] at this
 unfold upTo at h
 rw [List.getElem?_map] at h
 refine El.x1_2 (Option.map_eq_some_iff.mp h) fun k hk q0z=>?_
 obtain rfl:=q0z
 refine El.x1_1 (List.getElem?_eq_some_iff.mp hk) fun hk1 q1z=>?_
 obtain rfl:=q1z
 exact ⟨by simp,hi⟩
structure Grps (gs:List (List Nat)):Prop where
 ne:gs ≠ []
 g:∀ g ∈ gs,g ≠ []∧g.length ≤ 100
 few:gs.length ≤ 100
theorem draw {α:Type} {gs:List α} (h0:gs ≠ []) (hl:gs.length ≤ 100) (i:Int):∃ g,Z0n gs (Int.fmod i (gs.length:Nat)) = some g∧g ∈ gs:=Z8k gs (n:=gs.length) (by cases gs with | nil=>exact absurd rfl h0 | cons a b=>simp) (by lia) (Nat.le_refl _)
noncomputable def sV (gs:List (List Nat)):V:=.lst (gs.map .str)
theorem Z92 (F:Fn) (K:Nat) (cell:Int) (n:Nat) (hn:n ≤ 100) (gs:List (List Nat)) (h:Grps gs) :
  ∃ t:List Nat,t.length = n∧(∀ c ∈ t,∃ g ∈ gs,c ∈ g)∧∀ σ,Cl σ→Z07 F K Z4M [.int cell,.int (n:Int),sV gs] σ = .ok (.str t) ⟨[],σ⟩:=by
 have sm:∀ i:Int,(Z0v i || Z0v 48271) = true:=fun i=>by rw [Z0S (i:=48271) (by lia) (by lia),Bool.or_true]
 refine El.x4_2 (Z6X (step:=fun x st=>evSs F K Z2i (setV st 5 x))
  (fun (t:List Nat) (num:Int) (_:Unit) u σ=>(S7 (some (.int cell)) (some (.int (n:Int))) (some (sV gs)) (some (.str t)) (some (.int num)) (u 0) (u 1) σ)) (fun i t _=>t.length = i∧∀ c ∈ t,∃ g ∈ gs,c ∈ g) (upTo 0 n) [] (Int.fmod cell 2147483647) () (fun _=>none)
  (by
   intro i x t num _ u hx q3z
   refine El.x0_2 q3z fun h1 h2=>?_
   refine El.x0_2 (Z26 hx) fun q4z hi=>?_
   obtain rfl:=q4z
   have hne:=h.ne
   have hgl:gs.length ≠ 0:=fun e=>hne (List.length_eq_zero_iff.mp e)
   refine El.x1_2 (draw (gs:=gs) h.ne h.few (Int.fdiv (Int.fmod (num * 48271 + 11) 2147483647) 7)) fun g hg hgm=>?_
   have hg':Z0n (gs.map V.str) (Int.fmod (Int.fdiv (Int.fmod (num * 48271 + 11) 2147483647) 7) (gs.length:Nat)) = some (.str g):=by
    refine El.x1_2 (Z0c (Int.fdiv (Int.fmod (num * 48271 + 11) 2147483647) 7) gs.length (by lia)) fun k hk hk2=>?_
    have:=h.few
    rw [hk,Z0y _ (by lia)] at hg ⊢
    rw [List.getElem?_map,hg]; rfl
   refine El.x0_2 (h.g g hgm) fun g0 g1=>?_
   have hgl2:g.length ≠ 0:=fun e=>g0 (List.length_eq_zero_iff.mp e)
   refine El.x1_2 (draw (gs:=g) g0 g1 (Int.fdiv (Int.fmod (num * 48271 + 11) 2147483647) 700)) fun c hc hcm=>?_
   refine El.y4_2 (t++[c]) (Int.fmod (num * 48271 + 11) 2147483647) (()) (gl [some (.int (i:Int)),some (.str g)]) ⟨by simp [h1],fun d hd=>?_⟩ (fun σ hσ=>?_)
   ·rcases List.mem_append.mp hd with hd | hd
    ·exact h2 d hd
    ·rw [List.mem_singleton.mp hd]; exact ⟨g,hgm,hcm⟩
   ·have hm:=Z1N num 48271 (sm num)
    have ha:=Z2W t [c] (by rw [h1,List.length_singleton]; unfold sizeLine; lia)
    have z1:((gs.length:Nat):Int) ≠ 0:=by lia
    have z2:((g.length:Nat):Int) ≠ 0:=by lia
    have m1:=Z7g (Int.fdiv (Int.fmod (num * 48271 + 11) 2147483647) 7) ((gs.length:Nat):Int) z1
    have m2:=Z7g (Int.fdiv (Int.fmod (num * 48271 + 11) 2147483647) 700) ((g.length:Nat):Int) z2
    show evSs F K Z2i _ = .ok .next (S7 (some (.int cell)) (some (.int (n:Int))) (some (sV gs)) (some (.str (t++[c]))) (some (.int (Int.fmod (num * 48271 + 11) 2147483647))) (some (.int (i:Int))) (some (.str g)) σ)
    have hlen:Z1n σ .len (sV gs) = some (.int ((gs.length:Nat):Int)):=congrArg (fun n:Nat=>some (V.int (n:Int))) (List.length_map ..)
    exact atS fun t=>t hm rfl rfl rfl hlen (nz z1) hg' rfl rfl rfl (nz z2) (Z7K hc) ha rfl)
  ⟨rfl,fun _ h=>by cases h⟩) fun t num _ u q5z e=>?_
 refine El.x0_2 q5z fun h1 h2=>?_
 rw [Z0C] at h1
 refine ⟨t,h1,h2,fun σ hσ=>?_⟩
 refine Z0w rfl ?_ (Z0b _) hσ
 show Ret (evSs F K Z5I (S7 (some (.int cell)) (some (.int (n:Int))) (some (sV gs)) none none none none σ)) _ _
 refine Ret.mk0 (ρ:=[some (.int cell),some (.int (n:Int)),some (sV gs),some (.str t),some (.int num),u 0,u 1]) ?_
 have e:=e σ hσ
 exact atS fun t=>t rfl rfl rfl rfl (Z0i (show n < 2 ^ 31 by lia)) e rfl
noncomputable def ZcB (F:Fn) (p:Pt):Prop:=∃ k:Nat,∀ σ,Cl σ→F "_law_over" [enc p] σ = .ok (.int (k:Int)) ⟨[],σ⟩
theorem ZgD (σ:List O) (l:List Nat) (k:Nat):∃ m:Nat,Z1n σ .max (.lst (Z00 (k :: l))) = some (.int (m:Int)):=by
 have h:Z0t (Z00 (k :: l)) = some ((k:Int) :: l.map fun n:Nat=>(n:Int)):=Z3N (k :: l)
 have:∀ (l:List Nat) (k:Nat),∃ m:Nat,(l.map fun n:Nat=>(n:Int)).foldl max (k:Int) = (m:Int):=by
  intro l
  induction l with
  | nil=>intro k; exact ⟨k,rfl⟩
  | cons j l ih=>
   intro k
   refine El.x1_1 (ih (max k j)) fun m hm=>?_
   refine ⟨m,?_⟩
   rw [List.map_cons,List.foldl_cons,← hm]
   congr 1
   omega
 refine El.x1_1 (this l k) fun m hm=>?_
 exact ⟨m,by rw [ZhM h,hm]⟩
theorem Zez (l:List Nat) (k:Nat):∃ m:Nat,∀ σ:List O,Z1n σ .max (.lst (Z00 (k :: l))) = some (.int (m:Int)):=by
 refine El.x1_1 (ZgD [] l k) fun m hm=>?_
 exact ⟨m,fun σ=>by rw [← hm]; rfl⟩
theorem Z27 (F:Fn) (ρ:List (Option V)) (hρ:ρ.length = 3):∀ (vs:List V),vs.length ≤ 100→(∀ v ∈ vs,∃ k:Nat,∀ σ,Cl σ→F "_law_over" [v] σ = .ok (.int (k:Int)) ⟨[],σ⟩)→(ρ[1]? = some (some (.lst vs))) →
  ∃ ks:List Nat,ks.length = vs.length∧∀ σ,Cl σ→evE F (.comp Z3R 2 (.val (.loc 1)) .nil) ⟨ρ,σ⟩ = .ok (.lst (Z00 ks)) ⟨ρ.set 2 none,σ++[.dead]⟩:=by
 intro vs hl h h1
 have hex:∃ g:V→Nat,∀ v ∈ vs,∀ σ,Cl σ→F "_law_over" [v] σ = .ok (.int (g v:Int)) ⟨[],σ⟩:=by
  classical
  refine ⟨fun v=>if q:∃ k:Nat,∀ σ,Cl σ→F "_law_over" [v] σ = .ok (.int (k:Int)) ⟨[],σ⟩ then q.choose else 0,fun v hv σ hσ=>?_⟩
  dsimp only
  rw [dif_pos (h v hv)]
  exact (h v hv).choose_spec σ hσ
 refine El.x1_1 hex fun g hg=>?_
 refine ⟨vs.map g,List.length_map ..,fun σ hσ=>?_⟩
 have hc:=Z2J (F:=F) (elt:=Z3R) (k:=2) (ρ₀:=ρ) (σ:=σ) (it:=.val (.loc 1)) (xs:=vs) (fun v=>.int (g v:Int)) (fun _ _=>Z0f _) (Zc5 h1 rfl) (by unfold sizeLine; lia)
  (fun x hx acc ha=>by
   have hk:(ρ.set 2 (some x))[2]? = some (some x):=by rw [List.getElem?_set_self (by lia)]
   exact Zgn hk (hg x hx _ (hσ.snoc ha)))
 rw [hc]
 unfold Z00
 rw [List.map_map]; rfl
theorem Z2M (F:Fn) (K:Nat) (kd:List Nat) (v:V) (vs:List V) (ks:List Nat) (hl:ks.length ≤ 100) (he:∀ σ,Cl σ→evE F (.comp Z3R 2 (.val (.loc 1)) .nil) ⟨[some (.tup [.str kd,v]),some (.lst vs),none],σ⟩ = .ok (.lst (Z00 ks)) ⟨[some (.tup [.str kd,v]),some (.lst vs),none],σ++[.dead]⟩)
  (inr:List Bool) (h1:(kd == (Str.ofString "one").cps.toList) = false) (h2:∀ σ,Z10 σ .isin (.str kd) (.lst [.str (Str.ofString "row").cps.toList,.str (Str.ofString "or").cps.toList]) = some (inr == [true])) (h3:vs = if (inr == [true]) then v.lst?.getD [] else [v]) (h4:(inr == [true]) = true→∃ xs,v = .lst xs) :
  ∃ k:Nat,∀ σ,Cl σ→Z07 F K Zc8 [.tup [.str kd,v]] σ = .ok (.int (k:Int)) ⟨[],σ⟩:=by
 refine El.x1_1 (Zez ks 0) fun m hm=>?_
 refine ⟨(if kd == (Str.ofString "many").cps.toList then 1 else 0) + m,fun σ hσ=>?_⟩
 refine Z0w rfl ?_ (Z0f _) hσ
 show Ret (evSs F K Z8O ⟨[some (.tup [.str kd,v]),none,none],σ⟩) _ _
 refine Ret.mk (ρ:=[some (.tup [.str kd,v]),some (.lst vs),none]) (τ:=[.dead]) ?_
 have hsub:Z0n [V.lst [v],v] (if (inr == [true]) then 1 else 0:Int) = some (.lst vs):=by
  cases hb:(inr == [true]) with
  | true=>
   refine El.x1_1 (h4 hb) fun xs q5z=>?_
   obtain rfl:=q5z
   rw [hb] at h3
   simp only [if_true] at h3 ⊢
   rw [idx1,h3]; rfl
  | false=>
   rw [hb] at h3
   simp only [Bool.false_eq_true,if_false] at h3 ⊢
   rw [idx0,h3]; rfl
 have hadd:Z3p (.lst [.int 0]) (.lst (Z00 ks)) = some (.lst (Z00 (0 :: ks))):=Z1d [0] ks (by rw [List.length_singleton]; lia)
 have hb2:∀ b:Bool,((if b then 1 else 0:Int) + (m:Int)) = (((if b then 1 else 0) + m:Nat):Int):=fun b=>by cases b <;> simp
 have s2:(2:Nat) ≤ sizeLine:=by decide
 exact atS fun t=>t rfl h1 rfl rfl rfl (h2 σ) rfl hsub rfl rfl rfl (he σ hσ) hadd (hm _) (congrArg V.int (hb2 _))
theorem Z1C:∀ ps:Pts,(encs ps).length = pLen ps
 | .nil=>rfl
 | .cons p ps=>by rw [encs,pLen,List.length_cons,Z1C ps]
theorem Z3Z {v:V}:∀ {ps:Pts} {Q:Pt→Prop},PAll Q ps→v ∈ encs ps→∃ p,v = enc p∧Q p
 | .nil,_,_,h=>by rw [encs] at h; cases h
 | .cons p ps,Q,hq,h=>by
  rw [encs] at h
  rw [PAll] at hq
  rcases List.mem_cons.mp h with rfl | h
  ·exact ⟨p,rfl,hq.1⟩
  ·exact Z3Z hq.2 h
theorem Za7 (σ:List O) (kd:List Nat):Z10 σ .isin (.str kd) (.lst [.str (Str.ofString "row").cps.toList,.str (Str.ofString "or").cps.toList]) = some ((Str.ofString "row").cps.toList == kd || ((Str.ofString "or").cps.toList == kd || false)):=by
 rw [Zh1]; rfl
section
variable (C K:Nat) {H:Option (List Int) × Str→Int}
mutual
theorem Z40:∀ (p:Pt),Fine p→∀ n,ht p + 1 ≤ n→ZcB (Z08 (C,H) defs K n) p
 | .one s,hf,n,hn=>by
  obtain ⟨m,rfl⟩:∃ m,n = m + 1:=⟨n - 1,by lia⟩
  refine ⟨0,fun σ hσ=>?_⟩
  rw [Z03 (by decide) Z7S,enc]
  refine Z0w (r:=.int 0) rfl ?_ (Z0f _) hσ
  show Ret (evSs _ K Z8O ⟨[some (.tup [.str (Str.ofString "one").cps.toList,.str s]),none,none],σ⟩) _ _
  refine Ret.mk0 (ρ:=[some (.tup [.str (Str.ofString "one").cps.toList,.str s]),none,none]) ?_
  exact atS fun t=>t rfl Z2D rfl
 | .row ps,hf,n,hn=>by
  rw [Fine] at hf
  rw [ht] at hn
  obtain ⟨m,rfl⟩:∃ m,n = m + 1:=⟨n - 1,by lia⟩
  have q29y:=Z27 (Z08 (C,H) defs K m) [some (.tup [.str (Str.ofString "row").cps.toList,.lst (encs ps)]),some (.lst (encs ps)),none] rfl (encs ps) (by rw [Z1C]; lia) (fun v hv=>by
   refine El.x1_2 (Z3Z (Z53 ps hf.2 m (by lia)) hv) fun p q0z h=>?_
   obtain rfl:=q0z
   exact h) rfl
  refine El.x1_2 q29y fun ks h1 h2=>?_
  obtain ⟨k,hk⟩:=Z2M (Z08 (C,H) defs K m) K (Str.ofString "row").cps.toList (.lst (encs ps)) (encs ps) ks (by rw [h1,Z1C]; lia) h2 [true] Z2E (fun σ=>by rw [Za7,Z2F]; rfl) rfl fun _=>⟨_,rfl⟩
  exact ⟨k,fun σ hσ=>by rw [Z03 (by decide) Z7S,enc]; exact hk σ hσ⟩
 | .or ps,hf,n,hn=>by
  rw [Fine] at hf
  rw [ht] at hn
  obtain ⟨m,rfl⟩:∃ m,n = m + 1:=⟨n - 1,by lia⟩
  have q39y:=Z27 (Z08 (C,H) defs K m) [some (.tup [.str (Str.ofString "or").cps.toList,.lst (encs ps)]),some (.lst (encs ps)),none] rfl (encs ps) (by rw [Z1C]; lia) (fun v hv=>by
   refine El.x1_2 (Z3Z (Z53 ps hf.2.2 m (by lia)) hv) fun p q1z h=>?_
   obtain rfl:=q1z
   exact h) rfl
  refine El.x1_2 q39y fun ks h1 h2=>?_
  obtain ⟨k,hk⟩:=Z2M (Z08 (C,H) defs K m) K (Str.ofString "or").cps.toList (.lst (encs ps)) (encs ps) ks (by rw [h1,Z1C]; lia) h2 [true] Z3T (fun σ=>by rw [Za7,Z6K,Bool.true_or,Bool.or_true]; rfl) rfl fun _=>⟨_,rfl⟩
  exact ⟨k,fun σ hσ=>by rw [Z03 (by decide) Z7S,enc]; exact hk σ hσ⟩
 | .many p,hf,n,hn=>by
  rw [Fine] at hf
  rw [ht] at hn
  obtain ⟨m,rfl⟩:∃ m,n = m + 1:=⟨n - 1,by lia⟩
  have q49y:=Z27 (Z08 (C,H) defs K m) [some (.tup [.str (Str.ofString "many").cps.toList,enc p]),some (.lst [enc p]),none] rfl [enc p] (by simp) (fun v hv=>by rw [List.mem_singleton.mp hv]; exact Z40 p hf m (by lia)) rfl
  refine El.x1_2 q49y fun ks h1 h2=>?_
  obtain ⟨k,hk⟩:=Z2M (Z08 (C,H) defs K m) K (Str.ofString "many").cps.toList (enc p) [enc p] ks (by rw [h1]; simp) h2 [] Z23 (fun σ=>by rw [Za7,Z5K,Z7O]; rfl) rfl fun h=>absurd h (by decide)
  exact ⟨k,fun σ hσ=>by rw [Z03 (by decide) Z7S,enc]; exact hk σ hσ⟩
 | .maybe p,hf,n,hn=>by
  rw [Fine] at hf
  rw [ht] at hn
  obtain ⟨m,rfl⟩:∃ m,n = m + 1:=⟨n - 1,by lia⟩
  have q56y:=Z27 (Z08 (C,H) defs K m) [some (.tup [.str (Str.ofString "maybe").cps.toList,enc p]),some (.lst [enc p]),none] rfl [enc p] (by simp) (fun v hv=>by rw [List.mem_singleton.mp hv]; exact Z40 p hf m (by lia)) rfl
  refine El.x1_2 q56y fun ks h1 h2=>?_
  obtain ⟨k,hk⟩:=Z2M (Z08 (C,H) defs K m) K (Str.ofString "maybe").cps.toList (enc p) [enc p] ks (by rw [h1]; simp) h2 [] Z1A (fun σ=>by rw [Za7,Z4T,Z5L]; rfl) rfl fun h=>absurd h (by decide)
  exact ⟨k,fun σ hσ=>by rw [Z03 (by decide) Z7S,enc]; exact hk σ hσ⟩
theorem Z53:∀ (ps:Pts),Z3K ps→∀ n,hts ps + 1 ≤ n→PAll (ZcB (Z08 (C,H) defs K n)) ps
 | .nil,_,n,_=>by rw [PAll]; trivial
 | .cons p ps,hf,n,hn=>by
  rw [Z3K] at hf
  rw [hts] at hn
  rw [PAll]
  exact ⟨Z40 p hf.1 n (by lia),Z53 ps hf.2 n (by lia)⟩
end
end
structure GOk (R d:Nat) (held:List Pt) (room:Nat):Prop where
 fine:∀ p ∈ held,Fine p∧ht p ≤ d
 few:held.length ≤ 8
 sum:(Glu.allLeaves held).length + room ≤ R
theorem Z0q (a b:List Pt):(Glu.allLeaves (a++b)).length = (Glu.allLeaves a).length + (Glu.allLeaves b).length:=by unfold Glu.allLeaves; rw [List.flatMap_append,List.length_append]
theorem Z0g (p:Pt):(Glu.allLeaves [p]).length = p.leaves.length:=by unfold Glu.allLeaves; simp
mutual
theorem Za8:∀ p:Pt,(enc p).lo 0 = true
 | .one s=>by rw [enc,Z0s,Z02,Z02,Z0b,Z0b,Z09]; rfl
 | .row ps=>by rw [enc,Z0s,Z02,Z02,Z0b,Z0p,Z93 ps,Z09]; rfl
 | .or ps=>by rw [enc,Z0s,Z02,Z02,Z0b,Z0p,Z93 ps,Z09]; rfl
 | .many p=>by rw [enc,Z0s,Z02,Z02,Z0b,Za8 p,Z09]; rfl
 | .maybe p=>by rw [enc,Z0s,Z02,Z02,Z0b,Za8 p,Z09]; rfl
theorem Z93:∀ ps:Pts,V.los 0 (encs ps) = true
 | .nil=>by rw [encs,Z09]
 | .cons p ps=>by rw [encs,Z02,Za8 p,Z93 ps]; rfl
end
theorem Z2m (ps:List Pt):V.los 0 (ps.map enc) = true:=Z3E fun x hx=>by obtain ⟨p,_,rfl⟩:=List.mem_map.mp hx; exact Za8 p
noncomputable def ofL:List Pt→Pts
 | []=>.nil
 | p :: ps=>.cons p (ofL ps)
theorem Z6Y:∀ ps:List Pt,encs (ofL ps) = ps.map enc
 | []=>rfl
 | p :: ps=>by rw [ofL,encs,Z6Y ps]; rfl
theorem Z6Z:∀ ps:List Pt,pLen (ofL ps) = ps.length
 | []=>rfl
 | p :: ps=>by rw [ofL,pLen,Z6Z ps]; rfl
theorem Z3k:∀ ps:List Pt,(ofL ps).leaves = Glu.allLeaves ps
 | []=>rfl
 | p :: ps=>by rw [ofL,Glu.ls1,Z3k ps]; rfl
theorem Z54:∀ {ps:List Pt},(∀ p ∈ ps,Fine p)→Z3K (ofL ps)
 | [],_=>by rw [ofL,Z3K]; trivial
 | p :: ps,h=>by rw [ofL,Z3K]; exact ⟨h p (by simp),Z54 fun q hq=>h q (by simp [hq])⟩
theorem Z94 {d:Nat}:∀ {ps:List Pt},(∀ p ∈ ps,ht p ≤ d)→hts (ofL ps) ≤ d
 | [],_=>by rw [ofL,hts]; exact Nat.zero_le _
 | p :: ps,h=>by
  rw [ofL,hts]
  have h1:=h p (by simp)
  have h2:=Z94 (ps:=ps) fun q hq=>h q (by simp [hq])
  lia
theorem Z0W {d:Nat} {ps:List Pt} (h:∀ p ∈ ps,Fine p∧ht p ≤ d) (hl:ps.length ≤ 64):Fine (.row (ofL ps))∧ht (.row (ofL ps)) ≤ d + 1:=by
 rw [Fine,ht,Z6Z]
 exact ⟨⟨hl,Z54 fun p hp=>(h p hp).1⟩,Nat.succ_le_succ (Z94 fun p hp=>(h p hp).2)⟩
theorem Z55 {d:Nat} {ps:List Pt} (h:∀ p ∈ ps,Fine p∧ht p ≤ d) (hl:ps.length ≤ 64) (h0:0 < ps.length):Fine (.or (ofL ps))∧ht (.or (ofL ps)) ≤ d + 1:=by
 rw [Fine,ht,Z6Z]
 exact ⟨⟨hl,h0,Z54 fun p hp=>(h p hp).1⟩,Nat.succ_le_succ (Z94 fun p hp=>(h p hp).2)⟩
theorem Z56 (ps:List Pt):enc (.row (ofL ps)) = .tup [.str (Str.ofString "row").cps.toList,.lst (ps.map enc)]:=by rw [enc,Z6Y]
theorem Za9 (ps:List Pt):enc (.or (ofL ps)) = .tup [.str (Str.ofString "or").cps.toList,.lst (ps.map enc)]:=by rw [enc,Z6Y]
theorem Z70 (s:List Nat):enc (.one s) = .tup [.str (Str.ofString "one").cps.toList,.str s]:=rfl
theorem Z71 (p:Pt):enc (.many p) = .tup [.str (Str.ofString "many").cps.toList,enc p]:=rfl
theorem Z57 (p:Pt):enc (.maybe p) = .tup [.str (Str.ofString "maybe").cps.toList,enc p]:=rfl
theorem Z2c (s:List Nat):(Glu.Pat.one s:Pt).leaves = [s]:=rfl
theorem Z2N (ps:List Pt):(Glu.Pat.row (ofL ps):Pt).leaves = Glu.allLeaves ps:=Z3k ps
theorem ZcC (ps:List Pt):(Glu.Pat.or (ofL ps):Pt).leaves = Glu.allLeaves ps:=Z3k ps
theorem Z58 (p:Pt):(Glu.Pat.many p:Pt).leaves = p.leaves:=rfl
theorem Z2O (p:Pt):(Glu.Pat.maybe p:Pt).leaves = p.leaves:=rfl
theorem ZcD {σ:List O} {n:Nat} {xs:List V} (h:σ[n]? = some (.lst xs)):V.truthy σ (.ref n) = some (!xs.isEmpty):=by
 show (lstO σ[n]?).bind (fun xs=>some (!xs.isEmpty)) = _
 rw [h]; rfl
theorem Z3l {α:Type} {l:List α} (h:l ≠ []):∃ a x,l = a++[x]:=⟨l.dropLast,l.getLast h,(List.dropLast_concat_getLast h).symm⟩
theorem ZeA (xs:List V) (x:V) (h:xs.length < 1000):Z0n (xs++[x]) (-1) = some x:=by
 unfold Z0n
 have h1:Z0v (-1) = true:=by decide
 rw [if_pos h1,if_neg (by lia),if_pos (by rw [List.length_append,List.length_singleton]; lia)]
 have:((-1:Int) + ((xs++[x]).length:Nat)).toNat = xs.length:=by rw [List.length_append,List.length_singleton]; lia
 rw [this]; simp
theorem Zaa {τ:List O} {n:Nat} {o o':O} (h:τ[n]? = some o):(τ.set n o')[n]? = some o':=List.getElem?_set_self (List.getElem?_eq_some_iff.mp h).1
theorem Z89 {τ:List O} {n:Nat} {xs:List V} (h:τ[n]? = some (.lst xs)) (hl:xs.length < 1000) (ρ:List (Option V)) (v:V):Z1H .append (.ref n) v ⟨ρ,τ⟩ = .ok .none ⟨ρ,τ.set n (.lst (xs++[v]))⟩:=Z2o ρ τ n xs v h (by unfold sizeLine; lia)
theorem Z41 (a:List Pt) (x:Pt):(a++[x]).map enc = a.map enc++[enc x]:=by rw [List.map_append]; rfl
theorem ZcE (x y:List V) (h:x.length + y.length ≤ 1000):Z3p (.lst x) (.lst y) = some (.lst (x++y)):=if_pos (by unfold sizeLine; lia)
section
variable {τ:List O} {n:Nat} (hn:n < τ.length) (a:List Pt) (ρ:List (Option V))
include hn
theorem gtS (o:O):(τ.set n o)[n]? = some o:=List.getElem?_set_self hn
theorem recS:Z3q (τ.set n (.lst (a.map enc))) .append (.ref n) = true:=Z0x _ _ _ (gtS hn _)
theorem lenS:Z1n (τ.set n (.lst (a.map enc))) .len (.ref n) = some (.int (a.length:Int)):=(Zb5 _ _ _ (gtS hn _)).trans (by rw [List.length_map])
theorem truS:V.truthy (τ.set n (.lst (a.map enc))) (.ref n) = some (!a.isEmpty):=(ZcD (gtS hn _)).trans (by cases a <;> rfl)
theorem popS (x:Pt):popR (.ref n) ⟨ρ,τ.set n (.lst ((a++[x]).map enc))⟩ = .ok (enc x) ⟨ρ,τ.set n (.lst (a.map enc))⟩:=by
 have:=ZhN (ρ:=ρ) (σ:=τ.set n (.lst ((a++[x]).map enc))) (n:=n) (xs:=a.map enc) (x:=enc x) (by rw [gtS hn,Z41])
 rw [List.set_set] at this
 exact this
theorem appS (hl:a.length ≤ 100) (q:Pt):Z1H .append (.ref n) (enc q) ⟨ρ,τ.set n (.lst (a.map enc))⟩ = .ok .none ⟨ρ,τ.set n (.lst ((a++[q]).map enc))⟩:=by
 have:=Z89 (gtS hn (.lst (a.map enc))) (by rw [List.length_map]; lia) ρ (enc q)
 rw [List.set_set,← Z41] at this
 exact this
theorem Zi0 (hl:a.length ≤ 100) (x:Pt):Z0H (τ.set n (.lst ((a++[x]).map enc))) (.ref n) (.int (-1)) = some (enc x):=by rw [Z3r (gtS hn _),Z41]; exact ZeA _ _ (by rw [List.length_map]; lia)
end
noncomputable def gS (n:Nat) (cell m:Int) (w room:Nat) (lv:V) (x6 x7:Option V) (τ:List O):St:=(S8 (some (.ref n)) (some (.int cell)) (some lv) (some (.int (room:Int))) (some (.int (w:Int))) (some (.int m)) x6 x7 τ)
noncomputable def cB:Ex:=.band (.cmp .eq (.loc 4) (.int 0)) (.cmp .lt (.bi .len (.loc 0)) (.int 8))
noncomputable def cC:Ex:=.band (.cmp .eq (.loc 4) (.int 1)) (.band (.loc 0) (.cmp .lt (.call "_law_over" (.cons (.sub (.loc 0) (.neg 1)) .nil)) (.int 2)))
noncomputable def cD:Ex:=.band (.cmp .eq (.loc 4) (.int 2)) (.loc 0)
noncomputable def cE:Ex:=.band (.cmp .gt (.loc 4) (.int 2)) (.cmp .gt (.bi .len (.loc 0)) (.int 1))
noncomputable def cA:Ex:=.band (.cmp .gt (.loc 4) (.int 5)) (.band (.cmp .gt (.loc 3) (.int 0)) (.cmp .lt (.bi .len (.loc 0)) (.int 8)))
noncomputable def tB:Sms:=.cons (.expr (.me .append (.loc 0) (.tup (.cons (.str "row") (.cons (.list .nil) .nil))))) .nil
noncomputable def tC:Sms:=.cons (.expr (.me .append (.loc 0) (.tup (.cons (.str "many") (.cons (.pop (.loc 0)) .nil))))) .nil
noncomputable def tD:Sms:=.cons (.expr (.me .append (.loc 0) (.tup (.cons (.str "maybe") (.cons (.pop (.loc 0)) .nil))))) .nil
noncomputable def cF:Ex:=.band (.cmp .eq (.bin .mod (.loc 5) (.int 3)) (.int 1)) (.loc 0)
noncomputable def tF:Sms:=.cons (.asg 7 (.bin .add (.list (.cons (.pop (.loc 0)) .nil)) (.loc 7))) .nil
noncomputable def tE:Sms:=.cons (.asg 6 (.pop (.loc 0))) (.cons (.asg 7 (.list (.cons (.pop (.loc 0)) (.cons (.loc 6) .nil)))) (.cons (.ifte cF tF .nil)
 (.cons (.expr (.me .append (.loc 0) (.tup (.cons (.sub (.list (.cons (.str "row") (.cons (.str "or") .nil))) (.bin .mod (.bin .fdiv (.loc 4) (.int 2)) (.int 2))) (.cons (.loc 7) .nil))))) .nil)))
noncomputable def sBE:Sm:=.ifte cB tB (.cons (.ifte cC tC (.cons (.ifte cD tD (.cons (.ifte cE tE .nil) .nil)) .nil)) .nil)
section
variable (F:Fn) (K:Nat) {Rm d:Nat} {held:List Pt} {room:Nat} (g:GOk Rm d held room) (cell m:Int) (w:Nat) (lv:V)
section
variable {τ:List O} {n:Nat} (hn:n < τ.length)
include hn
theorem evA:Z0a (evE F cA (gS n cell m w room lv none none (τ.set n (.lst (held.map enc))))) = .ok (decide ((w:Int) > 5) && (decide ((room:Int) > 0) && decide ((held.length:Int) < 8))) (gS n cell m w room lv none none (τ.set n (.lst (held.map enc)))):=by
 cases h1:decide ((w:Int) > 5) with
 | false=>exact atQ fun t=>t h1
 | true=>
  cases h2:decide ((room:Int) > 0) with
  | false=>exact atQ fun t=>t h1 h2
  | true=>exact atQ fun t=>t h1 h2 (lenS hn held)
theorem evB:Z0a (evE F cB (gS n cell m w room lv none none (τ.set n (.lst (held.map enc))))) = .ok ((w:Int) == 0 && decide ((held.length:Int) < 8)) (gS n cell m w room lv none none (τ.set n (.lst (held.map enc)))):=by
 cases h1:((w:Int) == 0) with
 | false=>exact atQ fun t=>t h1
 | true=>exact atQ fun t=>t h1 (lenS hn held)
theorem evD:Z0a (evE F cD (gS n cell m w room lv none none (τ.set n (.lst (held.map enc))))) = .ok ((w:Int) == 2 && !held.isEmpty) (gS n cell m w room lv none none (τ.set n (.lst (held.map enc)))):=by
 cases h1:((w:Int) == 2) with
 | false=>exact atQ fun t=>t h1
 | true=>exact atQ fun t=>t h1 (truS hn held)
theorem evEE:Z0a (evE F cE (gS n cell m w room lv none none (τ.set n (.lst (held.map enc))))) = .ok (decide ((w:Int) > 2) && decide ((held.length:Int) > 1)) (gS n cell m w room lv none none (τ.set n (.lst (held.map enc)))):=by
 cases h1:decide ((w:Int) > 2) with
 | false=>exact atQ fun t=>t h1
 | true=>exact atQ fun t=>t h1 (lenS hn held)
end
include g
theorem evC (hov:∀ p ∈ held,ZcB F p):∃ b:Bool,(b = true→held ≠ [])∧∀ (τ:List O) (n:Nat),n < τ.length→Cl (τ.set n (.lst (held.map enc)))→Z0a (evE F cC (gS n cell m w room lv none none (τ.set n (.lst (held.map enc))))) = .ok b (gS n cell m w room lv none none (τ.set n (.lst (held.map enc)))):=by
 cases h1:((w:Int) == 1) with
 | false=>exact ⟨false,fun h=>(by cases h),fun τ n _ _=>atQ fun t=>t h1⟩
 | true=>
  by_cases h0:held = []
  ·subst h0
   exact ⟨false,fun h=>(by cases h),fun τ n hn _=>atQ fun t=>t h1 (truS hn []) rfl (truS hn [])⟩
  ·refine El.x2_1 (Z3l h0) fun a x e=>?_
   subst e
   refine El.x1_1 (hov x (by simp)) fun k hk=>?_
   have hlen:=g.few
   rw [List.length_append] at hlen
   have e0:(!(a++[x]).isEmpty) = true:=by cases a <;> rfl
   exact ⟨decide ((k:Int) < 2),fun _=>h0,fun τ n hn hcl=>atQ fun t=>t h1 (truS hn _) e0 (Zi0 hn a (by lia) x) (hk _ hcl)⟩
end
theorem Z72 {τ:List O} {n:Nat} {o:O} (h:τ[n]? = some o):τ.set n o = τ:=by
 refine List.ext_getElem? fun i=>?_
 by_cases hi:n = i
 ·subst hi; rw [Zaa h,h]
 ·rw [List.getElem?_set_ne hi]
theorem GOk.mono {Rm d:Nat} {held:List Pt} {room:Nat} (g:GOk Rm d held room):GOk Rm (d + 1) held room:=⟨fun p hp=>⟨(g.fine p hp).1,Nat.le_succ_of_le (g.fine p hp).2⟩,g.few,g.sum⟩
theorem GOk.snoc {Rm d:Nat} {a:List Pt} {x:Pt} {room:Nat} (h1:∀ p ∈ a,Fine p∧ht p ≤ d) (h2:Fine x∧ht x ≤ d + 1) (h3:a.length < 8) (h4:(Glu.allLeaves a).length + x.leaves.length + room ≤ Rm):GOk Rm (d + 1) (a++[x]) room :=
 ⟨fun p hp=>by
  rcases List.mem_append.mp hp with hp | hp
  ·exact ⟨(h1 p hp).1,Nat.le_succ_of_le (h1 p hp).2⟩
  ·rw [List.mem_singleton.mp hp]; exact h2,by rw [List.length_append,List.length_singleton]; lia,by rw [Z0q,Z0g]; exact h4⟩
theorem ZgE (F:Fn) (K:Nat) (cell m:Int) (w room:Nat) (lv:V):∃ (b3 b2:Bool),∀ {a:List Pt} {x y:Pt},a.length ≤ 8→∃ (a' ps:List Pt),(a'++ps = a++[x]++[y]∧2 ≤ ps.length∧ps.length ≤ 3)∧∃ x6 x7,∀ (τ:List O) (n:Nat),n < τ.length →
  evSs F K tE (gS n cell m w room lv none none (τ.set n (.lst ((a++[x]++[y]).map enc)))) = .ok .next (gS n cell m w room lv x6 x7 (τ.set n (.lst ((a'++[if b2 then (Glu.Pat.or (ofL ps):Pt) else Glu.Pat.row (ofL ps)]).map enc)))):=by
 refine El.x1_2 (Z0c (Int.fdiv (w:Int) 2) 2 (by lia)) fun k hk hk2=>?_
 have hk':Int.fmod (Int.fdiv (w:Int) 2) 2 = (k:Int):=hk
 have hkd:∃ kd b2,(∀ σ,Z0H σ (.lst [V.str (Str.ofString "row").cps.toList,V.str (Str.ofString "or").cps.toList]) (.int (Int.fmod (Int.fdiv (w:Int) 2) 2)) = some (.str kd))∧∀ ps:List Pt,V.tup [.str kd,.lst (ps.map enc)] = enc (if b2 = true then (Glu.Pat.or (ofL ps):Pt) else Glu.Pat.row (ofL ps)):=by
  rw [hk']
  have:k = 0 ∨ k = 1:=by lia
  rcases this with rfl | rfl
  ·exact ⟨_,false,fun _=>rfl,fun ps=>(Z56 ps).symm⟩
  ·exact ⟨_,true,fun _=>rfl,fun ps=>(Za9 ps).symm⟩
 refine El.x2_2 hkd fun kd b2 hkd hv=>?_
 have hap:∀ {τ:List O} {n:Nat} {a ps:List Pt},n < τ.length→a.length ≤ 8→∀ ρ,Z1H .append (.ref n) (.tup [.str kd,.lst (ps.map enc)]) ⟨ρ,τ.set n (.lst (a.map enc))⟩ = .ok .none ⟨ρ,τ.set n (.lst ((a++[if b2 = true then (Glu.Pat.or (ofL ps):Pt) else Glu.Pat.row (ofL ps)]).map enc))⟩:=fun hn hl ρ=>by rw [hv]; exact appS hn _ ρ (by lia) _
 refine ⟨true,b2,fun {a x y} hl=>?_⟩
 cases h3:(Int.fmod m 3 == 1) with
 | false=>exact ⟨a,[x,y],⟨by simp,by simp,by simp⟩,some (enc y),some (.lst ([x,y].map enc)),fun τ n hn=>atC fun t=>t (popS hn _ _ y) rfl (popS hn _ _ x) rfl (atQ fun t=>t rfl h3) (recS hn _) rfl rfl (hkd _) (hap (ps:=[x,y]) hn hl _)⟩
 | true=>
  by_cases h0:a = []
  ·subst h0
   exact ⟨[],[x,y],⟨by simp,by simp,by simp⟩,some (enc y),some (.lst ([x,y].map enc)),fun τ n hn=>atC fun t=>t (popS hn _ _ y) rfl (popS hn [] _ x) rfl (atQ fun t=>t rfl h3 (truS hn [])) (recS hn []) rfl rfl (hkd _) (hap (ps:=[x,y]) hn hl _)⟩
  ·refine El.x2_1 (Z3l h0) fun b z e=>?_
   subst e
   rw [List.length_append] at hl
   have e0:(!(b++[z]).isEmpty) = true:=by cases b <;> rfl
   exact ⟨b,[z,x,y],⟨by simp,by simp,by simp⟩,some (enc y),some (.lst ([z,x,y].map enc)),fun τ n hn=>atC fun t=>t (popS hn _ _ y) rfl (popS hn _ _ x) rfl (okb (atQ fun t=>t rfl h3 (truS hn _)) e0) (popS hn _ _ z) (ZcE [enc z] [enc x,enc y] (by simp)) rfl (recS hn _) rfl rfl (hkd _) (hap (ps:=[z,x,y]) hn (by lia) _)⟩
theorem Z2P {s:List Nat} (h:LeafOk s) (d:Nat):Fine (.one s)∧ht (.one s) ≤ d:=⟨by rw [Fine]; exact h,by rw [ht]; exact Nat.zero_le _⟩
theorem Z2Q {d:Nat} {p:Pt} (h:Fine p∧ht p ≤ d):Fine (.many p)∧ht (.many p) ≤ d + 1:=⟨by rw [Fine]; exact h.1,by rw [ht]; exact Nat.succ_le_succ h.2⟩
theorem Z28 {d:Nat} {p:Pt} (h:Fine p∧ht p ≤ d):Fine (.maybe p)∧ht (.maybe p) ≤ d + 1:=⟨by rw [Fine]; exact h.1,by rw [ht]; exact Nat.succ_le_succ h.2⟩
theorem ZcF (F:Fn) (K:Nat) {Rm d:Nat} {held:List Pt} {room:Nat} (g:GOk Rm d held room) (hov:∀ p ∈ held,ZcB F p) (cell m:Int) (w:Nat) (lv:V) :
  ∃ held' x6 x7,GOk Rm (d + 1) held' room∧∀ (τ:List O) (n:Nat),n < τ.length→Cl (τ.set n (.lst (held.map enc)))→evS F K sBE (gS n cell m w room lv none none (τ.set n (.lst (held.map enc)))) = .ok .next (gS n cell m w room lv x6 x7 (τ.set n (.lst (held'.map enc)))):=by
 refine El.x1_2 (evC F g cell m w lv hov) fun bC hC0 hC=>?_
 have gs:=g.sum
 have gf:=g.few
 cases hB:((w:Int) == 0 && decide ((held.length:Int) < 8)) with
 | true=>
  have h8:(held.length:Int) < 8:=of_decide_eq_true (Bool.and_eq_true_iff.mp hB).2
  exact El.y3_2 (held++[(Glu.Pat.row (ofL []):Pt)]) none none (.snoc g.fine (Z0W (d:=d) (ps:=[]) (fun _ h=>by cases h) (by simp)) (by lia) (by rw [Z2N]; simpa [Glu.allLeaves] using gs)) fun τ n hn hcl=>at1C fun t=>t (okb (evB F cell m w lv hn) hB) (recS hn _) (appS hn _ _ (by lia) (.row (ofL [])))
 | false=>
  cases hbc:bC with
  | true=>
   rw [hbc] at hC hC0
   refine El.x2_1 (Z3l (hC0 rfl)) fun a x e=>?_
   subst e
   rw [Z0q,Z0g] at gs
   rw [List.length_append,List.length_singleton] at gf
   exact El.y3_2 (a++[(Glu.Pat.many x:Pt)]) none none (.snoc (fun p hp=>g.fine p (by simp [hp])) (Z2Q (g.fine x (by simp))) (by lia) (by rw [Z58]; exact gs)) fun τ n hn hcl=>at1C fun t=>t (okb (evB F cell m w lv hn) hB) (hC τ n hn hcl) (recS hn _) (popS hn _ _ x) (appS hn _ _ (by lia) (.many x))
  | false=>
   rw [hbc] at hC
   cases hD:((w:Int) == 2 && !held.isEmpty) with
   | true=>
    refine El.x2_1 (Z3l (l:=held) fun e=>by rw [e] at hD; simp at hD) fun a x e=>?_
    subst e
    rw [Z0q,Z0g] at gs
    rw [List.length_append,List.length_singleton] at gf
    exact El.y3_2 (a++[(Glu.Pat.maybe x:Pt)]) none none (.snoc (fun p hp=>g.fine p (by simp [hp])) (Z28 (g.fine x (by simp))) (by lia) (by rw [Z2O]; exact gs)) fun τ n hn hcl=>at1C fun t=>t (okb (evB F cell m w lv hn) hB) (hC τ n hn hcl) (okb (evD F cell m w lv hn) hD) (recS hn _) (popS hn _ _ x) (appS hn _ _ (by lia) (.maybe x))
   | false=>
    cases hE:(decide ((w:Int) > 2) && decide ((held.length:Int) > 1)) with
    | false=>exact El.y3_2 held none none g.mono fun τ n hn hcl=>at1C fun t=>t (okb (evB F cell m w lv hn) hB) (hC τ n hn hcl) (okb (evD F cell m w lv hn) hD) (okb (evEE F cell m w lv hn) hE)
    | true=>
     have h2l:(held.length:Int) > 1:=of_decide_eq_true (Bool.and_eq_true_iff.mp hE).2
     refine El.x2_1 (Z3l (l:=held) fun e=>by rw [e] at h2l; simp at h2l) fun b y e=>?_
     subst e
     refine El.x2_1 (Z3l (l:=b) fun e=>by rw [e] at h2l; simp at h2l) fun a x e=>?_
     subst e
     refine El.x2_1 (ZgE F K cell m w room lv) fun _ b2 hrun=>?_
     obtain ⟨a',ps,⟨q1,q2,q3⟩,x6,x7,hrun⟩:=hrun (a:=a) (x:=x) (y:=y) (by rw [List.length_append,List.length_append] at gf; lia)
     have hfp:∀ p ∈ ps,Fine p∧ht p ≤ d:=fun p hp=>g.fine p (by rw [← q1]; simp [hp])
     have hfa:∀ p ∈ a',Fine p∧ht p ≤ d:=fun p hp=>g.fine p (by rw [← q1]; simp [hp])
     rw [← q1,Z0q] at gs
     rw [← q1,List.length_append] at gf
     refine El.y3_2 (a'++[if b2 then (Glu.Pat.or (ofL ps):Pt) else Glu.Pat.row (ofL ps)]) x6 x7 (.snoc hfa ?_ (by lia) ?_) fun τ n hn hcl=>(if_f (okb (evB F cell m w lv hn) hB)).trans (one1 ((if_f (hC τ n hn hcl)).trans (one1 ((if_f (okb (evD F cell m w lv hn) hD)).trans (one1 ((if_t (okb (evEE F cell m w lv hn) hE)).trans (hrun τ n hn)))))))
     ·cases b2
      ·exact Z0W hfp (by lia)
      ·exact Z55 hfp (by lia) (by lia)
     ·cases b2
      ·show _ + (Glu.Pat.row (ofL ps):Pt).leaves.length + _ ≤ _
       rw [Z2N]; exact gs
      ·show _ + (Glu.Pat.or (ofL ps):Pt).leaves.length + _ ≤ _
       rw [ZcC]; exact gs
theorem ZcG (F:Fn) (K:Nat) {L:List Nat} {z:Nat} (hL:Lets L z) (hsome:∀ (m:Nat) (τ:List O),Cl τ→F "_law_some_of" [.lst (Z04 L z),.int (m:Int)] τ = .ok (.str (Z1f (word L z) m)) ⟨[],τ⟩)
  {Rm d:Nat} {held:List Pt} {room:Nat} (g:GOk Rm d held room) (hov:∀ p ∈ held,ZcB F p) (cell:Int) :
  ∃ held' room',GOk Rm (d + 1) held' room'∧∀ (τ:List O) (n:Nat),Cl τ→τ[n]? = some (.lst (held.map enc))→Z07 F K Z4N [.ref n,.int cell,.lst (Z04 L z),.int (room:Int)] τ = .ok (.int (room':Int)) ⟨[],τ.set n (.lst (held'.map enc))⟩:=by
 refine El.x1_2 (Z0c cell 10 (by lia)) fun w hw hw2=>?_
 have hw':Int.fmod cell 10 = (w:Int):=hw
 have keep:∀ {held':List Pt} {room':Nat},(∀ (τ:List O) (n:Nat),n < τ.length→Cl (τ.set n (.lst (held.map enc)))→∃ ρ,evSs F K Z9V ⟨[some (.ref n),some (.int cell),some (.lst (Z04 L z)),some (.int (room:Int)),none,none,none,none],τ.set n (.lst (held.map enc))⟩ = .ok (.ret (.int (room':Int))) ⟨ρ,τ.set n (.lst (held'.map enc))⟩) →
   ∀ (τ:List O) (n:Nat),Cl τ→τ[n]? = some (.lst (held.map enc))→Z07 F K Z4N [.ref n,.int cell,.lst (Z04 L z),.int (room:Int)] τ = .ok (.int (room':Int)) ⟨[],τ.set n (.lst (held'.map enc))⟩:=fun h τ n hcl hτ=>by
  have e:=Z72 hτ
  refine El.x1_1 (h τ n (List.getElem?_eq_some_iff.mp hτ).1 (by rw [e]; exact hcl)) fun ρ h=>?_
  rw [e] at h
  exact Z0B (d:=Z4N) (args:=[.ref n,.int cell,.lst (Z04 L z),.int (room:Int)]) (F:=F) (K:=K) rfl h (.inl (List.length_set ..))
 have gs:=g.sum
 cases hA:(decide ((w:Int) > 5) && (decide ((room:Int) > 0) && decide ((held.length:Int) < 8))) with
 | true=>
  have hA2:=Bool.and_eq_true_iff.mp (Bool.and_eq_true_iff.mp hA).2
  have hr:=of_decide_eq_true hA2.1
  have h8:=of_decide_eq_true hA2.2
  refine El.x1_2 (Z0c (Int.fdiv cell 10) 15 (by lia)) fun k hk hk2=>?_
  have hk':(1:Int) + Int.fmod (Int.fdiv cell 10) 15 = ((1 + k:Nat):Int):=by
   have:Int.fmod (Int.fdiv cell 10) 15 = (k:Int):=hk
   rw [this]; lia
  have hrm:(room:Int) - 1 = ((room - 1:Nat):Int):=by lia
  have hs:∀ τ:List O,Cl τ→F "_law_some_of" [.lst (Z04 L z),.int (1 + Int.fmod (Int.fdiv cell 10) 15)] τ = .ok (.str (Z1f (word L z) (1 + k))) ⟨[],τ⟩:=fun τ h=>by rw [hk']; exact hsome _ τ h
  exact ⟨held++[(Glu.Pat.one (Z1f (word L z) (1 + k)):Pt)],room - 1,.snoc g.fine (Z2P (Z90 hL (by lia) (by lia)) _) (by lia) (by rw [Z2c,List.length_singleton]; lia),keep fun τ n hn hcl=>
   ⟨_,atC fun t=>t rfl (congrArg V.int hw') rfl rfl (okb (evA F cell (Int.fdiv cell 10) w (.lst (Z04 L z)) hn) hA) (recS hn _) rfl (hs _ hcl) (appS hn _ _ (by lia) (.one _)) (congrArg V.int hrm)⟩⟩
 | false=>
  refine El.x3_2 (ZcF F K g hov cell (Int.fdiv cell 10) w (.lst (Z04 L z))) fun held' x6 x7 g' hrun=>?_
  refine ⟨held',room,g',keep fun τ n hn hcl=>⟨[some (.ref n),some (.int cell),some (.lst (Z04 L z)),some (.int (room:Int)),some (.int (w:Int)),some (.int (Int.fdiv cell 10)),x6,x7],?_⟩⟩
  exact Eq.trans (atPC 3 fun t=>t rfl (congrArg V.int hw') rfl rfl (okb (evA F cell (Int.fdiv cell 10) w (.lst (Z04 L z)) hn) hA)) (Eq.trans (Zhp (hrun τ n hn hcl)) (atS (ss:=.cons (.ret (.loc 3)) .nil) fun t=>t rfl))
structure PsOk (ps:List Pt):Prop where
 ne:ps ≠ []
 few:ps.length ≤ 8
 sum:(Glu.allLeaves ps).length ≤ 60
 fine:∀ p ∈ ps,Fine p∧ht p ≤ 14
structure Ones (gs:List (List Nat)):Prop where
 ne:gs ≠ []
 few:gs.length ≤ 100
 one:∀ g ∈ gs,∃ c,g = [c]∧c < 128
theorem Ones.grps {gs:List (List Nat)} (h:Ones gs):Grps gs:=⟨h.ne,fun g hg=>by obtain ⟨c,rfl,_⟩:=h.one g hg; exact ⟨by simp,by simp⟩,h.few⟩
theorem ZgF (i:Int):∃ g:Int,Z0n [V.int 1,V.int 5,V.int 7,V.int 11,V.int 13,V.int 17,V.int 19,V.int 23] (Int.fmod i 8) = some (.int g):=by
 refine El.x1_2 (Z8k [V.int 1,V.int 5,V.int 7,V.int 11,V.int 13,V.int 17,V.int 19,V.int 23] (i:=i) (n:=8) (by lia) (by lia) (by simp)) fun x hx hm=>?_
 simp only [List.mem_cons,List.not_mem_nil,or_false] at hm
 rcases hm with rfl | rfl | rfl | rfl | rfl | rfl | rfl | rfl <;> exact ⟨_,hx⟩
theorem ZeB (F:Fn) (K:Nat) (hF:∀ i τ,Cl τ→F "_law_sign_by" [.int i] τ = .ok (.str [Z0M i]) ⟨[],τ⟩) (cell:Int):∃ gs,Ones gs∧∀ σ,Cl σ→Z07 F K Zca [.int cell] σ = .ok (sV gs) ⟨[],σ⟩:=by
 refine El.x1_1 (ZgF (Int.fdiv cell 96)) fun g hg=>?_
 refine El.x1_2 (Z0c (Int.fdiv cell 768) 11 (by lia)) fun k hk hk2=>?_
 have hk':(2:Int) + Int.fmod (Int.fdiv cell 768) 11 = ((2 + k:Nat):Int):=by
  have:Int.fmod (Int.fdiv cell 768) 11 = (k:Int):=hk
  rw [this]; lia
 refine ⟨(List.range (2 + k)).map fun j:Nat=>[Z0M (cell + (j:Int) * g)],⟨fun e=>?_,by rw [List.length_map,List.length_range]; lia,fun x hx=>?_⟩,fun σ hσ=>?_⟩
 ·have:=congrArg List.length e
  rw [List.length_map,List.length_range,List.length_nil] at this
  lia
 ·refine El.x1_2 (List.mem_map.mp hx) fun j _ q0z=>?_
  obtain rfl:=q0z
  exact ⟨_,rfl,Z83 _⟩
 ·have hc:=Z2J (F:=F) (elt:=Z9W) (k:=2) (ρ₀:=[some (.int cell),some (.int g),none]) (σ:=σ) (it:=.range1 (.bin .add (.int 2) (.bin .mod (.bin .fdiv (.loc 0) (.int 768)) (.int 11)))) (xs:=upTo 0 (2 + k:Nat))
   (fun x=>match x with | .int j=>.str [Z0M (cell + j * g)] | _=>.none) (fun x hx=>by obtain ⟨j,_,rfl⟩:=Z25 hx; exact Z0b _)
   (by exact atI fun t=>t rfl rfl hk' (Z0i (show 2 + k < 2 ^ 31 by lia)))
   (by rw [Z0C]; unfold sizeLine; lia)
   (fun x hx acc ha=>by
    refine El.x1_2 (Z25 hx) fun j hj q1z=>?_
    obtain rfl:=q1z
    have hm:=Z1N (j:Int) g (by rw [Z2p (by lia)]; rfl)
    exact atE fun t=>t hm (hF _ _ (hσ.snoc ha)))
  have e:(upTo 0 (2 + k:Nat)).map (fun x=>match x with | .int j=>V.str [Z0M (cell + j * g)] | _=>.none) = ((List.range (2 + k)).map fun j:Nat=>[Z0M (cell + (j:Int) * g)]).map .str:=by
   rw [Z6V,List.map_map]; rfl
  rw [e] at hc
  refine Z0w rfl ?_ (by unfold sV; rw [Z0p]; exact Z3E fun x hx=>by obtain ⟨y,_,rfl⟩:=List.mem_map.mp hx; exact Z0b _) hσ
  show Ret (evSs F K Zc9 ⟨[some (.int cell),none,none],σ⟩) _ _
  refine Ret.mk (ρ:=[some (.int cell),some (.int g),none]) (τ:=[.dead]) ?_
  have s8:(8:Nat) ≤ sizeLine:=by decide
  simp only [List.set_cons_succ,List.set_cons_zero] at hc
  exact atS fun t=>t rfl rfl hg rfl hc rfl
noncomputable def HS (σ:List O) (held:List Pt) (k:Nat):List O:=σ++.lst (held.map enc) :: List.replicate k .dead
theorem Z0O (σ:List O) (held:List Pt) (k:Nat):(HS σ held k)[σ.length]? = some (.lst (held.map enc)):=Zcr ..
theorem ZcH (σ:List O) (held held':List Pt) (k:Nat):(HS σ held k).set σ.length (.lst (held'.map enc)) = HS σ held' k:=Z8W ..
theorem Z95 (σ:List O) (held:List Pt) (k:Nat):HS σ held k++[.dead] = HS σ held (k + 1):=by
 unfold HS
 rw [List.append_assoc,List.cons_append,List.replicate_succ']
theorem ZcI {σ:List O} (h:Cl σ):∀ k:Nat,Cl (σ++List.replicate k .dead)
 | 0=>by rw [List.replicate_zero,List.append_nil]; exact h
 | k + 1=>by rw [List.replicate_succ',← List.append_assoc]; exact (ZcI h k).dead
theorem Z3L {σ:List O} (h:Cl σ) (held:List Pt) (k:Nat):Cl (HS σ held k):=by
 have:=ZcI (h.snoc (Z2m held)) k
 rwa [List.append_assoc] at this
theorem Z5R (σ:List O) (held:List Pt) (k:Nat) (hl:held.length ≤ 100) {v:V} {q:Pt} (hv:v = enc q) (ρ:List (Option V)):Z1H .append (.ref σ.length) v ⟨ρ,HS σ held k⟩ = .ok .none ⟨ρ,HS σ (held++[q]) k⟩:=by
 rw [Z89 (Z0O σ held k) (by rw [List.length_map]; lia),hv,← Z41,ZcH]
noncomputable def Z3m (t:List Nat):Pt:=.row (ofL (t.map fun c=>Glu.Pat.one [c]))
theorem Z3n {t:List Nat} (hl:t.length ≤ 64) (h:∀ c ∈ t,c < 128):Fine (Z3m t)∧ht (Z3m t) ≤ 1 :=
 Z0W (d:=0) (fun p hp=>by
  refine El.x1_2 (List.mem_map.mp hp) fun c hc q2z=>?_
  obtain rfl:=q2z
  rw [Fine,ht]
  exact ⟨⟨by simp,by simp,by simpa using h c hc,by simp⟩,Nat.le_refl _⟩) (by rw [List.length_map]; exact hl)
theorem Z1g:∀ t:List Nat,(Z3m t).leaves.length = t.length:=fun t=>by
 unfold Z3m
 rw [Z2N]
 unfold Glu.allLeaves
 rw [List.flatMap_map]
 induction t with
 | nil=>rfl
 | cons c t ih=>rw [List.flatMap_cons,List.length_append,ih,Z2c,List.length_singleton,List.length_cons]; lia
theorem Z2R (t:List Nat):enc (Z3m t) = .tup [.str (Str.ofString "row").cps.toList,.lst (t.map fun c=>.tup [.str (Str.ofString "one").cps.toList,.str [c]])]:=by
 unfold Z3m
 rw [Z56,List.map_map]
 have:(enc ∘ fun c=>(Glu.Pat.one [c]:Pt)) = fun c=>V.tup [.str (Str.ofString "one").cps.toList,.str [c]]:=by
  funext c
  exact Z70 [c]
 rw [this]
theorem Z59 (F:Fn) (k i:Nat) (ρ:List (Option V)) (hk:k < ρ.length) (t:List Nat) (hl:t.length ≤ 100) (hi:ρ[i]? = some (some (.str t))) (σ:List O) :
  evE F (.comp (.tup (.cons (.str "one") (.cons (.loc k) .nil))) k (.val (.loc i)) .nil) ⟨ρ,σ⟩ = .ok (.lst (t.map fun c=>.tup [.str (Str.ofString "one").cps.toList,.str [c]])) ⟨ρ.set k none,σ++[.dead]⟩:=by
 have s2:(2:Nat) ≤ sizeLine:=by decide
 have hc:=Z2J (F:=F) (elt:=.tup (.cons (.str "one") (.cons (.loc k) .nil))) (k:=k) (ρ₀:=ρ) (σ:=σ) (it:=.val (.loc i)) (xs:=t.map fun c=>.str [c]) (fun x=>.tup [.str (Str.ofString "one").cps.toList,x])
  (fun x hx=>by
   refine El.x1_2 (List.mem_map.mp hx) fun c _ q3z=>?_
   obtain rfl:=q3z
   rw [Z0s,Z02,Z02,Z0b,Z0b,Z09]; rfl)
  (Zc5 hi rfl)
  (by rw [List.length_map]; unfold sizeLine; lia)
  (fun x hx acc ha=>by
   have hx':(ρ.set k (some x))[k]? = some (some x):=List.getElem?_set_self hk
   rw [Zfq,Z1L,Zfo,R.bind_ok,Z1L,Z6z (F:=F) (st:=⟨ρ.set k (some x),σ++[O.lst acc]⟩) hx']
   exact if_pos (e:=R.stuck) s2)
 rw [hc,List.map_map]; rfl
noncomputable def scV (is:List Int):V:=.lst (is.map .int)
noncomputable def Z5l (F:Fn) (is:List Int):Prop:=∀ (k:Nat) (τ:List O),k < 100→Cl τ→F "_law_cell_at" [scV is,.int (k:Int)] τ = .ok (.int (is.getD k 0)) ⟨[],τ⟩
noncomputable def Z96 (F:Fn):Prop:=∀ (cell:Int) (n:Nat) (gs:List (List Nat)),n ≤ 100→Grps gs→∃ t:List Nat,t.length = n∧(∀ c ∈ t,∃ g ∈ gs,c ∈ g)∧∀ σ,Cl σ→F "_law_text_by" [.int cell,.int (n:Int),sV gs] σ = .ok (.str t) ⟨[],σ⟩
theorem ZcJ {gs:List (List Nat)} (h:Ones gs) {t:List Nat} (ht:∀ c ∈ t,∃ g ∈ gs,c ∈ g):∀ c ∈ t,c < 128:=fun c hc=>by
 refine El.x1_2 (ht c hc) fun g hg hcg=>?_
 refine El.x1_2 (h.one g hg) fun d q4z hd=>?_
 obtain rfl:=q4z
 rw [List.mem_singleton.mp hcg]; exact hd
theorem ZaE (F:Fn) (K:Nat) (is:List Int) (hcell:Z5l F is) (htext:Z96 F) {gs:List (List Nat)} (hgs:Ones gs) (x2 x3:Option V) (M:Nat) (hM:M ≤ 40) (i:Nat) (held:List Pt) (num:Int) (nd:Nat) (x7 x8 x9:Option V)
  (h1:held.length = i) (hi:i ≤ 64) (h2:∀ p ∈ held,Fine p∧ht p ≤ 1) (h3:(Glu.allLeaves held).length ≤ i * M) :
  ∃ held' num' y8 y9,(held'.length = i + 1∧(∀ p ∈ held',Fine p∧ht p ≤ 1)∧(Glu.allLeaves held').length ≤ (i + 1) * M)∧∀ σ,Cl σ→evSs F K Z4O (setV (S11 (some (scV is)) (some (sV gs)) x2 x3 (some (.int (M:Int))) (some (.int num)) (some (.ref σ.length)) x7 x8 x9 none (HS σ held nd)) 7 (.int (i:Int))) =
   .ok .next (S11 (some (scV is)) (some (sV gs)) x2 x3 (some (.int (M:Int))) (some (.int num')) (some (.ref σ.length)) (some (.int (i:Int))) y8 y9 none (HS σ held' (nd + 1))):=by
 have sm:(Z0v num || Z0v 48271) = true:=by rw [Z0S (i:=48271) (by lia) (by lia),Bool.or_true]
 refine El.x1_2 (Z0c (Int.fdiv (Int.fmod (num * 48271 + 11) 2147483647) 7) (M + 1) (by lia)) fun k hk hk2=>?_
 have hM1:(M:Int) + 1 = ((M + 1:Nat):Int):=by lia
 have hM0:(M:Int) + 1 ≠ 0:=by lia
 have hkM:Int.fmod (Int.fdiv (Int.fmod (num * 48271 + 11) 2147483647) 7) ((M:Int) + 1) = (k:Int):=by rw [hM1]; exact hk
 have hsz:∃ n:Nat,n ≤ M∧(if (Int.fmod (is.getD 4 0) 3 == 1) then (M:Int) - Int.fdiv (k:Int) 3 else (k:Int)) = (n:Int):=by
  have hd:Int.fdiv (k:Int) 3 = ((k / 3:Nat):Int):=Z6W k 3
  by_cases h:(Int.fmod (is.getD 4 0) 3 == 1) = true
  ·exact ⟨M - k / 3,by lia,by rw [if_pos h,hd]; lia⟩
  ·exact ⟨k,by lia,by rw [if_neg h]⟩
 refine El.x1_2 hsz fun n hn hn'=>?_
 refine El.x1_3 (htext (Int.fmod (num * 48271 + 11) 2147483647) n gs (by lia) hgs.grps) fun t ht1 ht2 ht3=>?_
 have hlt:=ZcJ hgs ht2
 refine El.y4_2 (held++[Z3m t]) (Int.fmod (num * 48271 + 11) 2147483647) (some (.int (n:Int))) (some (.str t)) ⟨by simp [h1],fun p hp=>?_,?_⟩ (fun σ hσ=>?_)
 ·rcases List.mem_append.mp hp with hp | hp
  ·exact h2 p hp
  ·rw [List.mem_singleton.mp hp]; exact Z3n (by lia) hlt
 ·rw [Z0q,Z0g,Z1g,Nat.add_mul,Nat.one_mul]; lia
 ·have hcl:=Z3L hσ held nd
  have hm:=Z1N num 48271 sm
  have c4:=hcell 4 _ (by lia) hcl
  have t1:=ht3 _ hcl
  have cc:=Z59 F 10 9 [some (scV is),some (sV gs),x2,x3,some (.int (M:Int)),some (.int (Int.fmod (num * 48271 + 11) 2147483647)),some (.ref σ.length),some (.int (i:Int)),some (.int (n:Int)),some (.str t),none] (by simp) t (by lia) rfl (HS σ held nd)
  simp only [List.set_cons_succ,List.set_cons_zero] at cc
  rw [Z95] at cc
  have r0:=Z0x _ _ _ (Z0O σ held nd)
  have c4':F "_law_cell_at" [scV is,.int 4] (HS σ held nd) = .ok (.int (is.getD 4 0)) ⟨[],HS σ held nd⟩:=c4
  cases hb:(Int.fmod (is.getD 4 0) 3 == 1) with
  | true=>
   rw [hb,if_pos rfl] at hn'
   exact atS fun t=>t hm rfl rfl rfl (nz hM0) (congrArg V.int hkM) c4' rfl hb rfl (congrArg V.int hn') t1 rfl r0 cc (Z5R σ held (nd + 1) (by lia) (Z2R _).symm _)
  | false=>
   rw [hb,if_neg Bool.false_ne_true] at hn'
   exact atS fun t=>t hm rfl rfl rfl (nz hM0) (congrArg V.int (hkM.trans hn')) c4' rfl hb t1 rfl r0 cc (Z5R σ held (nd + 1) (by lia) (Z2R _).symm _)
theorem Z97 (c2:Int):∃ sh c M:Nat,sh < 4∧Int.fmod c2 4 = (sh:Int)∧1 ≤ c∧c ≤ 58∧M ≤ 40∧c * M ≤ 58∧(sh % 2 = 0→c ≤ 8) ∧
  (∃ N:Int,N ≠ 0∧Z0n [V.int 8,V.int 8,V.int 3,V.int 58] (sh:Int) = some (.int N)∧(1:Int) + Int.fmod (Int.fdiv c2 4) N = (c:Int)) ∧
  Z0n [V.int 6,V.int 6,V.int (if Int.fdiv 58 (c:Int) < 40 then Int.fdiv 58 (c:Int) else 40),V.int (if Int.fdiv 58 (c:Int) < 40 then Int.fdiv 58 (c:Int) else 40)] (sh:Int) = some (.int (M:Int)):=by
 refine El.x1_2 (Z0c c2 4 (by lia)) fun sh hs hs4=>?_
 have hs':Int.fmod c2 4 = (sh:Int):=hs
 have key:∀ N:Nat,0 < N→∃ c:Nat,1 ≤ c∧c ≤ N∧(1:Int) + Int.fmod (Int.fdiv c2 4) (N:Int) = (c:Int):=fun N hN=>by
  refine El.x1_2 (Z0c (Int.fdiv c2 4) N hN) fun k hk hk2=>?_
  exact ⟨1 + k,by lia,by lia,by rw [hk]; lia⟩
 have hdiv:∀ c:Nat,Int.fdiv 58 (c:Int) = ((58 / c:Nat):Int):=fun c=>Z6W 58 c
 have hmin:∀ c:Nat,1 ≤ c→∃ M:Nat,M ≤ 40∧c * M ≤ 58∧(if Int.fdiv 58 (c:Int) < 40 then Int.fdiv 58 (c:Int) else 40) = (M:Int):=fun c hc=>by
  rw [hdiv]
  have h1:c * (58 / c) ≤ 58:=Nat.mul_div_le 58 c
  by_cases h:58 / c < 40
  ·exact ⟨58 / c,by lia,h1,by rw [if_pos (by lia)]⟩
  ·refine ⟨40,by lia,?_,by rw [if_neg (by lia)]; rfl⟩
   have h2:c * 40 ≤ c * (58 / c):=Nat.mul_le_mul_left c (by lia)
   lia
 have h0123:sh = 0 ∨ sh = 1 ∨ sh = 2 ∨ sh = 3:=by lia
 rcases h0123 with rfl | rfl | rfl | rfl
 ·refine El.x1_3 (key 8 (by lia)) fun c h1 h2 h3=>?_
  exact ⟨0,c,6,by lia,hs',h1,by lia,by lia,by lia,fun _=>h2,⟨8,by lia,rfl,h3⟩,rfl⟩
 ·refine El.x1_3 (key 8 (by lia)) fun c h1 h2 h3=>?_
  exact ⟨1,c,6,by lia,hs',h1,by lia,by lia,by lia,fun _=>h2,⟨8,by lia,rfl,h3⟩,rfl⟩
 ·refine El.x1_3 (key 3 (by lia)) fun c h1 h2 h3=>?_
  refine El.x1_3 (hmin c h1) fun M m1 m2 m3=>?_
  exact ⟨2,c,M,by lia,hs',h1,by lia,m1,m2,fun _=>by lia,⟨3,by lia,rfl,h3⟩,by rw [m3]; rfl⟩
 ·refine El.x1_3 (key 58 (by lia)) fun c h1 h2 h3=>?_
  refine El.x1_3 (hmin c h1) fun M m1 m2 m3=>?_
  exact ⟨3,c,M,by lia,hs',h1,by lia,m1,m2,fun h=>by lia,⟨58,by lia,rfl,h3⟩,by rw [m3]; rfl⟩
theorem ZaF (σ:List O) (held:List Pt) (k:Nat):(HS σ held k).set σ.length .dead = σ++.dead :: List.replicate k .dead:=Z8W ..
theorem ZcK (F:Fn) (K:Nat) (is:List Int) (hcell:Z5l F is) (htext:Z96 F) (hwide:∀ cell:Int,∃ gs,Ones gs∧∀ σ,Cl σ→F "_law_wide" [.int cell] σ = .ok (sV gs) ⟨[],σ⟩) :
  ∃ ps,PsOk ps∧∀ σ,Cl σ→Z07 F K Z8P [scV is] σ = .ok (.lst (ps.map enc)) ⟨[],σ⟩:=by
 refine El.x1_2 (hwide (is.getD 20 0)) fun gs hgs hw=>?_
 refine El.x3_9 (Z97 (is.getD 2 0)) fun sh c M hsh e1 c1 c58 hM hcM hc8 q0z e4=>?_
 refine El.x1_3 q0z fun N hN e2 e3=>?_
 refine El.x4_2 (Z6X (step:=fun x st=>evSs F K Z4O (setV st 7 x))
  (fun (held:List Pt) (num:Int) (nd:Nat) u σ=>(S11 (some (scV is)) (some (sV gs)) (some (.int (sh:Int))) (some (.int (c:Int))) (some (.int (M:Int))) (some (.int num)) (some (.ref σ.length)) (u 0) (u 1) (u 2) none (HS σ held nd)))
  (fun i held _=>held.length = i∧(∀ p ∈ held,Fine p∧ht p ≤ 1)∧(Glu.allLeaves held).length ≤ i * M) (upTo 0 c) [] (Int.fmod (is.getD 3 0) 2147483647) 0 (fun _=>none)
  (by
   intro i x held num nd u hx q2z
   refine El.x0_3 q2z fun h1 h2 h3=>?_
   refine El.x0_2 (Z26 hx) fun q3z hi=>?_
   obtain rfl:=q3z
   refine El.x4_2 (ZaE F K is hcell htext hgs (some (.int (sh:Int))) (some (.int (c:Int))) M hM i held num nd (u 0) (u 1) (u 2) h1 (by lia) h2 h3) fun held' num' y8 y9 hinv hrun=>?_
   exact ⟨held',num',nd + 1,gl [some (.int (i:Int)),y8,y9],hinv,hrun⟩)
  ⟨rfl,fun _ h=>(by cases h),by simp [Glu.allLeaves]⟩) fun held num nd u q9z e=>?_
 refine El.x0_3 q9z fun h1 h2 h3=>?_
 rw [Z0C] at h1 h3
 have c0:(c:Int) ≠ 0:=by lia
 have hm2:Int.fmod (sh:Int) 2 = ((sh % 2:Nat):Int):=Z87 sh 2
 have k:∀ k σ,k < 100→Cl σ→F "_law_cell_at" [scV is,.int (k:Nat)] σ = .ok (.int (is.getD k 0)) ⟨[],σ⟩:=fun k σ=>hcell k σ
 have hs:=Z0i (show c < 2 ^ 31 by lia)
 by_cases hodd:sh % 2 = 1
 ·have hb:(Int.fmod (sh:Int) 2 == 1) = true:=by rw [hm2,hodd]; rfl
  refine ⟨[.or (ofL held)],⟨by simp,by simp,?_,fun p hp=>?_⟩,fun σ hσ=>?_⟩
  ·rw [Z0g,ZcC]; lia
  ·rw [List.mem_singleton.mp hp]
   have:=Z55 (d:=1) h2 (by lia) (by lia)
   exact ⟨this.1,by lia⟩
  ·exact atF rfl hσ fun t=>t (k 20 σ (by lia) hσ) (hw σ hσ) rfl (k 2 σ (by lia) hσ) rfl (congrArg V.int e1) (k 2 σ (by lia) hσ) rfl ((Z1E _ _ _).trans e2) (nz hN) (congrArg V.int e3) (nz c0) (nz c0) ((Z1E _ _ _).trans e4) rfl (k 3 σ (by lia) hσ) rfl rfl rfl rfl rfl rfl hs (e σ hσ) rfl hb (Z0O σ held nd) (ZaF σ held nd) (congrArg (fun v=>V.lst [v]) (Za9 held).symm) rfl (V.los_mono (Nat.zero_le _) _ (Z2m _))
 ·have hb:(Int.fmod (sh:Int) 2 == 1) = false:=by rw [hm2,beq_eq_false_iff_ne]; lia
  refine ⟨held,⟨fun h0=>?_,?_,?_,fun p hp=>⟨(h2 p hp).1,by have:=(h2 p hp).2; lia⟩⟩,fun σ hσ=>?_⟩
  ·rw [h0] at h1; simp at h1; lia
  ·have:=hc8 (by lia); lia
  ·lia
  ·exact atF rfl hσ fun t=>t (k 20 σ (by lia) hσ) (hw σ hσ) rfl (k 2 σ (by lia) hσ) rfl (congrArg V.int e1) (k 2 σ (by lia) hσ) rfl ((Z1E _ _ _).trans e2) (nz hN) (congrArg V.int e3) (nz c0) (nz c0) ((Z1E _ _ _).trans e4) rfl (k 3 σ (by lia) hσ) rfl rfl rfl rfl rfl rfl hs (e σ hσ) rfl hb (Z0O σ held nd) (ZaF σ held nd) rfl rfl (V.los_mono (Nat.zero_le _) _ (Z2m _))
theorem Z98 {S E:Type} {step:V→St→R Fl} (G:E→Prop) (render:S→E→St) (P:Nat→S→Prop):∀ (xs:List V) (k:Nat) (s:S),(∀ i x s,xs[i]? = some x→P (k + i) s→∃ s',P (k + i + 1) s'∧∀ e,G e→step x (render s e) = .ok .next (render s' e))→P k s →
  ∃ s',P (k + xs.length) s'∧∀ e,G e→forR step xs (render s e) = .ok .next (render s' e)
 | [],k,s,_,h=>⟨s,h,fun e _=>by rw [Z0r]⟩
 | x :: xs,k,s,hs,h=>by
  refine El.x1_2 (hs 0 x s rfl h) fun s₁ h1 e1=>?_
  have q6y:=Z98 G render P xs (k + 1) s₁ (fun i y s' hy hP=>by
   have:=hs (i + 1) y s' (by simpa using hy) (by rw [show k + (i + 1) = k + 1 + i by lia]; exact hP)
   rw [show k + (i + 1) + 1 = k + 1 + i + 1 by lia] at this
   exact this) h1
  refine El.x1_2 q6y fun s₂ h2 e2=>?_
  refine ⟨s₂,by rw [List.length_cons,show k + (xs.length + 1) = k + 1 + xs.length by lia]; exact h2,fun e he=>?_⟩
  rw [Z0e,e1 e he,R.bind_ok]
  exact e2 e he
noncomputable def Z8a (L:List Nat) (z:Nat):List Nat:=(word L z 0++(word L z 1++(word L z 2++(word L z 3++[])))).take 12
theorem ZcL {L:List Nat} {z:Nat} (h:Lets L z):Ones ((Z8a L z).map fun c=>[c]):=by
 refine ⟨fun e=>?_,?_,fun g hg=>?_⟩
 ·have h1:=congrArg List.length e
  have h2:=Z0V (k:=0) (by lia) h.len
  have h3:=h.z1
  rw [List.length_map,List.length_nil] at h1
  unfold Z8a at h1
  rw [List.length_take,List.length_append] at h1
  lia
 ·rw [List.length_map]
  unfold Z8a
  rw [List.length_take]
  lia
 ·refine El.x1_2 (List.mem_map.mp hg) fun c hc q0z=>?_
  obtain rfl:=q0z
  refine ⟨c,rfl,?_⟩
  have:=List.mem_of_mem_take hc
  simp only [List.mem_append,List.not_mem_nil,or_false] at this
  rcases this with q | q | q | q <;> exact h.lt c (Z3X c q)
theorem ZhC {L:List Nat} {z:Nat} (σ:List O):Z0E σ (.lst (Z04 L z)) .none (.int 4) = some (.lst [.str (word L z 0),.str (word L z 1),.str (word L z 2),.str (word L z 3)]):=rfl
theorem ZhD {L:List Nat} {z:Nat} (h:Lets L z) (st:St):Z1H .join (.str []) (.lst [.str (word L z 0),.str (word L z 1),.str (word L z 2),.str (word L z 3)]) st = .ok (.str (word L z 0++(word L z 1++(word L z 2++(word L z 3++[]))))) st:=by
 have hl:∀ k,k < 5→(word L z k).length = z:=fun k hk=>Z0V hk h.len
 have hz:=h.z19
 exact Z8j (xs:=[.str (word L z 0),.str (word L z 1),.str (word L z 2),.str (word L z 3)]) (l:=[word L z 0,word L z 1,word L z 2,word L z 3]) rfl (by
  simp only [List.flatten_cons,List.flatten_nil,List.length_append,List.length_nil,hl 0 (by lia),hl 1 (by lia),hl 2 (by lia),hl 3 (by lia)]
  unfold sizeLine; lia) st
theorem Zab {α:Type} (xs:List α) (k:Nat):cutL xs none (some (k:Int)) = xs.take k:=by
 unfold cutL
 simp only [Option.elim_none,Option.elim_some,List.drop_zero,Nat.sub_zero]
 rw [Z3W xs.length k]
 rcases Nat.le_total k xs.length with q | q
 ·rw [Nat.min_eq_left q]
 ·rw [Nat.min_eq_right q,List.take_length,List.take_of_length_le q]
theorem ZhE (l:List Nat) (σ:List O):Z0E σ (.lst (l.map fun c=>V.str [c])) .none (.int 12) = some (sV ((l.take 12).map fun c=>[c])):=by
 refine (congrArg (fun l=>some (V.lst l)) (Zab (l.map fun c=>V.str [c]) 12)).trans ?_
 rw [← List.map_take]; unfold sV; rw [List.map_map]; rfl
theorem ZaG (F:Fn) (K:Nat) (htext:Z96 F) {gs:List (List Nat)} (hgs:Ones gs) (x0 x1:Option V) (i:Nat) (held:List Pt) (num:Int) (nd:Nat) (x5 x6:Option V)
  (h1:held.length = i) (hi:i ≤ 64) (h2:∀ p ∈ held,Fine p∧ht p ≤ 1) (h3:(Glu.allLeaves held).length ≤ i * 6) :
  ∃ held' num' y6,(held'.length = i + 1∧(∀ p ∈ held',Fine p∧ht p ≤ 1)∧(Glu.allLeaves held').length ≤ (i + 1) * 6)∧∀ σ,Cl σ→evSs F K Z4P (setV (S12 x0 x1 (some (sV gs)) (some (.int num)) (some (.ref σ.length)) x5 x6 none none none none none (HS σ held nd)) 5 (.int (i:Int))) =
   .ok .next (S12 x0 x1 (some (sV gs)) (some (.int num')) (some (.ref σ.length)) (some (.int (i:Int))) y6 none none none none none (HS σ held' (nd + 1))):=by
 have sm:(Z0v num || Z0v 48271) = true:=by rw [Z0S (i:=48271) (by lia) (by lia),Bool.or_true]
 refine El.x1_2 (Z0c (Int.fdiv (Int.fmod (num * 48271 + 11) 2147483647) 7) 4 (by lia)) fun k hk hk2=>?_
 have hk':(3:Int) + Int.fmod (Int.fdiv (Int.fmod (num * 48271 + 11) 2147483647) 7) 4 = ((3 + k:Nat):Int):=by
  have:Int.fmod (Int.fdiv (Int.fmod (num * 48271 + 11) 2147483647) 7) 4 = (k:Int):=hk
  rw [this]; lia
 refine El.x1_3 (htext (Int.fmod (num * 48271 + 11) 2147483647) (3 + k) gs (by lia) hgs.grps) fun t ht1 ht2 ht3=>?_
 have hlt:=ZcJ hgs ht2
 refine El.y3_2 (held++[Z3m t]) (Int.fmod (num * 48271 + 11) 2147483647) (some (.str t)) ⟨by simp [h1],fun p hp=>?_,?_⟩ (fun σ hσ=>?_)
 ·rcases List.mem_append.mp hp with hp | hp
  ·exact h2 p hp
  ·rw [List.mem_singleton.mp hp]; exact Z3n (by lia) hlt
 ·rw [Z0q,Z0g,Z1g]; lia
 ·have hcl:=Z3L hσ held nd
  have hm:=Z1N num 48271 sm
  have t1:=ht3 _ hcl
  have cc:=Z59 F 10 6 [x0,x1,some (sV gs),some (.int (Int.fmod (num * 48271 + 11) 2147483647)),some (.ref σ.length),some (.int (i:Int)),some (.str t),none,none,none,none,none] (by simp) t (by lia) rfl (HS σ held nd)
  simp only [List.set_cons_succ,List.set_cons_zero] at cc
  rw [Z95] at cc
  have r0:=Z0x _ _ _ (Z0O σ held nd)
  rw [← hk'] at t1
  exact atS fun t=>t hm rfl rfl rfl rfl t1 rfl r0 cc (Z5R σ held (nd + 1) (by lia) (Z2R _).symm _)
noncomputable def ZcM (F:Fn) (lv:V) (D:Nat):Prop:=∀ {Rm d:Nat} {held:List Pt} {room:Nat},d ≤ D→GOk Rm d held room→∀ cell:Int,∃ held' room',GOk Rm (d + 1) held' room'∧∀ (τ:List O) (n:Nat),Cl τ→τ[n]? = some (.lst (held.map enc))→F "_law_grown" [.ref n,.int cell,lv,.int (room:Int)] τ = .ok (.int (room':Int)) ⟨[],τ.set n (.lst (held'.map enc))⟩
theorem Z99 (ps:List Pt) (k:Nat):(Glu.allLeaves (ps.take k)).length ≤ (Glu.allLeaves ps).length:=by
 have:=Z0q (ps.take k) (ps.drop k)
 rw [List.take_append_drop] at this
 lia
inductive LoopEnd | kept (lh:List Pt) (k:Nat) | cut (lh lo:List Pt)
noncomputable def LoopEnd.v (S:List O):LoopEnd→V
 | .kept _ _=>.ref S.length
 | .cut lh _=>.lst (lh.map enc)
noncomputable def LoopEnd.st (S:List O):LoopEnd→List O
 | .kept lh k=>HS S lh k
 | .cut _ lo=>HS S lo 0
noncomputable def LoopEnd.ps:LoopEnd→List Pt
 | .kept lh _=>lh
 | .cut lh _=>lh
theorem ZcN (F:Fn) (K:Nat) (is:List Int) (hcell:Z5l F is) (htext:Z96 F) {gs:List (List Nat)} (hgs:Ones gs) (lv:V) (hg:ZcM F lv 8) (x3 x5 x6:Option V) :
  ∃ (q:LoopEnd) (y5 y6 y8 y9:Option V),(q.ps.length ≤ 2∧(Glu.allLeaves q.ps).length ≤ 12∧∀ p ∈ q.ps,Fine p∧ht p ≤ 14)∧∀ (S:List O) (x4:Option V),Cl S →
   evS F K (.ifte (.cmp .eq (.bin .mod (.bin .fdiv (.call "_law_cell_at" (.cons (.loc 0) (.cons (.int 2) .nil))) (.int 6)) (.int 2)) (.int 1)) (.cons (.asg 6 (.call "_law_text_by" (.cons (.call "_law_cell_at" (.cons (.loc 0) (.cons (.int 21) .nil))) (.cons (.bin .add (.int 1) (.bin .mod (.call "_law_cell_at" (.cons (.loc 0) (.cons (.int 22) .nil))) (.int 12))) (.cons (.loc 2) .nil)))))
 (.cons (.asg 8 (.tup (.cons (.str "row") (.cons (.comp Z5J 11 (.val (.loc 6)) .nil) .nil))))
 (.cons (.expr (.me .append (.loc 7) (.sub (.list (.cons (.tup (.cons (.str "many") (.cons (.loc 8) .nil))) (.cons (.tup (.cons (.str "maybe") (.cons (.loc 8) .nil))) .nil))) (.bi .int (.cmp .eq (.bin .mod (.call "_law_cell_at" (.cons (.loc 0) (.cons (.int 23) .nil))) (.int 3)) (.int 0))))))
 .nil))) (.cons (.asg 9 (.int 4))
 (.cons (.for1 5 (.range1 (.int 8)) Z4Q)
 (.cons (.asg 7 (.slice (.loc 7) .none (.some (.int 2))))
 .nil)))) (S12 (some (scV is)) (some lv) (some (sV gs)) x3 x4 x5 x6 (some (.ref S.length)) none none none none (HS S [] 0)) =
   .ok .next (S12 (some (scV is)) (some lv) (some (sV gs)) x3 x4 y5 y6 (some (q.v S)) y8 y9 none none (q.st S)):=by
 have s2:(2:Nat) ≤ sizeLine:=by decide
 cases hb:(Int.fmod (Int.fdiv (is.getD 2 0) 6) 2 == 1) with
 | true=>
  refine El.x1_2 (Z0c (is.getD 22 0) 12 (by lia)) fun k hk hk2=>?_
  have hk':(1:Int) + Int.fmod (is.getD 22 0) 12 = ((1 + k:Nat):Int):=by
   have:Int.fmod (is.getD 22 0) 12 = (k:Int):=hk
   rw [this]; lia
  refine El.x1_3 (htext (is.getD 21 0) (1 + k) gs (by lia) hgs.grps) fun t ht1 ht2 ht3=>?_
  have hlt:=ZcJ hgs ht2
  have hf:=Z3n (t:=t) (by lia) hlt
  have hx:∃ x:Pt,(Fine x∧ht x ≤ 14)∧x.leaves.length = t.length∧Z0n [V.tup [.str (Str.ofString "many").cps.toList,enc (Z3m t)],V.tup [.str (Str.ofString "maybe").cps.toList,enc (Z3m t)]] (if (Int.fmod (is.getD 23 0) 3 == 0) then 1 else 0:Int) = some (enc x):=by
   cases hc:(Int.fmod (is.getD 23 0) 3 == 0)
   ·exact ⟨.many (Z3m t),⟨by rw [Fine]; exact hf.1,by rw [ht]; lia⟩,by rw [Z58,Z1g],by simp only [Bool.false_eq_true,if_false,Z71]; rfl⟩
   ·exact ⟨.maybe (Z3m t),⟨by rw [Fine]; exact hf.1,by rw [ht]; lia⟩,by rw [Z2O,Z1g],by simp only [if_true,Z57]; rfl⟩
  refine El.x1_3 hx fun x hx1 hx2 hx3=>?_
  refine El.y5_2 (.kept [x] 1) x5 (some (.str t)) (some (enc (Z3m t))) none ⟨by simp [LoopEnd.ps],by rw [LoopEnd.ps,Z0g,hx2]; lia,fun p hp=>by rw [LoopEnd.ps] at hp; rw [List.mem_singleton.mp hp]; exact hx1⟩ (fun S x4 hS=>?_)
  have hcl:=Z3L hS [] 0
  have hcl1:=Z3L hS [] 1
  have k2:F "_law_cell_at" [scV is,.int 2] (HS S [] 0) = _:=hcell 2 _ (by lia) hcl
  have k21:F "_law_cell_at" [scV is,.int 21] (HS S [] 0) = _:=hcell 21 _ (by lia) hcl
  have k22:F "_law_cell_at" [scV is,.int 22] (HS S [] 0) = _:=hcell 22 _ (by lia) hcl
  have k23:F "_law_cell_at" [scV is,.int 23] (HS S [] 1) = _:=hcell 23 _ (by lia) hcl1
  have t1:=ht3 _ hcl
  have cc:=Z59 F 11 6 [some (scV is),some lv,some (sV gs),x3,x4,x5,some (.str t),some (.ref S.length),none,none,none,none] (by simp) t (by lia) rfl (HS S [] 0)
  simp only [List.set_cons_succ,List.set_cons_zero] at cc
  rw [Z95] at cc
  have r0:=Z0x _ _ _ (Z0O S [] 1)
  rw [← hk'] at t1
  exact at1 fun T=>T k2 rfl rfl hb k21 k22 rfl t1 rfl cc (Z2R t).symm r0 k23 rfl rfl hx3 (Z5R S [] 1 (by simp) rfl _)
 | false=>
  obtain ⟨⟨lh,room,y5⟩,⟨hG,hy5⟩,e⟩:=Z98 (S:=List Pt × Nat × Option V) (E:=List O × Option V) (step:=fun x st=>evSs F K Z4Q (setV st 5 x)) (fun e=>Cl e.1)
   (fun s e=>(S12 (some (scV is)) (some lv) (some (sV gs)) x3 e.2 s.2.2 x6 (some (.ref e.1.length)) none (some (.int (s.2.1:Int))) none none (HS e.1 s.1 0)))
   (fun i s=>GOk 4 i s.1 s.2.1∧True) (upTo 0 (8:Nat)) 0 ([],4,x5)
   (by
    intro i x q1z hx q2z
    obtain ⟨lh,room,y5⟩:=q1z
    refine El.x0_2 q2z fun hG _=>?_
    refine El.x0_2 (Z26 hx) fun q3z hi=>?_
    obtain rfl:=q3z
    rw [Nat.zero_add] at hG ⊢
    refine El.x2_2 (hg (by lia) hG (is.getD (21 + i) 0)) fun lh' room' hG' hrun=>?_
    refine ⟨(lh',room',some (.int (i:Int))),⟨hG',trivial⟩,fun e he=>?_⟩
    have hcl:=Z3L he lh 0
    have hi21:(21:Int) + (i:Int) = ((21 + i:Nat):Int):=by lia
    have kk:=hcell (21 + i) _ (by lia) hcl
    have gr:=hrun _ _ hcl (Z0O e.1 lh 0)
    rw [ZcH] at gr
    exact atS fun t=>t kk gr rfl)
   ⟨⟨fun _ h=>(by cases h),by simp,by simp [Glu.allLeaves]⟩,trivial⟩
  rw [Z0C,Nat.zero_add] at hG
  dsimp only at hG e
  have hsum:=hG.sum
  refine El.y5_2 (.cut (lh.take 2) lh) y5 x6 none (some (.int (room:Int))) ⟨by rw [LoopEnd.ps,List.length_take]; lia,by rw [LoopEnd.ps]; have:=Z99 lh 2; lia,fun p hp=>?_⟩ (fun S x4 hS=>?_)
  ·rw [LoopEnd.ps] at hp
   have:=hG.fine p (List.mem_of_mem_take hp)
   exact ⟨this.1,by lia⟩
  ·have hcl:=Z3L hS [] 0
   have k2:F "_law_cell_at" [scV is,.int 2] (HS S [] 0) = _:=hcell 2 _ (by lia) hcl
   have e:=e (S,x4) hS
   have r8:Z0D 8 = true:=Z0i (n:=8) (by lia)
   have u8:upTo 0 8 = upTo 0 ((8:Nat):Int):=rfl
   have n4:V.int 4 = V.int ((4:Nat):Int):=rfl
   have hsl:Z0E (HS S lh 0) (.ref S.length) .none (.int 2) = some (.lst ((lh.take 2).map enc)):=by
    show (lstO (HS S lh 0)[S.length]?).bind _ = _
    rw [Z0O]
    exact (congrArg (fun l=>some (V.lst l)) (Zab (lh.map enc) 2)).trans (by rw [← List.map_take])
   dsimp only at e
   rw [← u8,← n4] at e
   exact at1 fun t=>t k2 rfl rfl hb rfl rfl r8 e hsl rfl
noncomputable def Sms.drop:Nat→Sms→Sms
 | 0,s=>s
 | n + 1,.cons _ s=>Sms.drop n s
 | _,.nil=>.nil
theorem Zac (a b:List Pt) (h:a.length + b.length ≤ 100):Z3p (.lst (a.map enc)) (.lst (b.map enc)) = some (.lst ((a++b).map enc)):=by
 rw [List.map_append]; exact ZcE _ _ (by rw [List.length_map,List.length_map]; lia)
theorem Z29 (σ:List O) (held:List Pt) (k:Nat) (y:List O):(HS σ held k++y)[σ.length]? = some (.lst (held.map enc)):=by
 rw [List.getElem?_append_left (by unfold HS; simp),Z0O]
theorem Z2a (σ:List O) (held:List Pt) (k:Nat) (y:List O) (o:O):(HS σ held k++y).set σ.length o = σ++(o :: List.replicate k .dead++y):=by
 unfold HS
 rw [List.append_assoc,List.cons_append,Z8W]; rfl
theorem ZcO (F:Fn) (K:Nat) (q:LoopEnd) (hq:q.ps.length ≤ 2) (held:List Pt) (hh:held.length ≤ 6) (nd:Nat) (is:List Int) (hcell:Z5l F is) (x1 x2 x3 x5 x6 x8 x9:Option V) :
  ∃ b:Bool,∀ σ,Cl σ→Cl (q.st (HS σ held nd))→Ret (evSs F K (d_loopsB.drop 6) (S12 (some (scV is)) x1 x2 x3 (some (.ref σ.length)) x5 x6 (some (q.v (HS σ held nd))) x8 x9 none none (q.st (HS σ held nd)))) (.lst ((if b then q.ps++held else held++q.ps).map enc)) σ:=by
 refine ⟨(Int.fmod (Int.fdiv (is.getD 2 0) 12) 2 == 1),fun σ hσ hcl=>?_⟩
 have k2:F "_law_cell_at" [scV is,.int 2] (q.st (HS σ held nd)) = _:=hcell 2 _ (by lia) hcl
 cases hb:(Int.fmod (Int.fdiv (is.getD 2 0) 12) 2 == 1) with
 | true=>
  have ha:=Zac q.ps held (by lia)
  cases q with
  | kept lh k=>exact Ret.mk (atS fun t=>t k2 rfl rfl hb (Z0O (HS σ held nd) lh k) (ZaF (HS σ held nd) lh k) (Z29 σ held nd _) (Z2a σ held nd _ _) ha rfl)
  | cut lh lo=>exact Ret.mk (atS fun t=>t k2 rfl rfl hb (Z29 σ held nd _) (Z2a σ held nd _ _) ha rfl)
 | false=>
  have ha:=Zac held q.ps (by lia)
  cases q with
  | kept lh k=>
   have hl2:(HS σ held nd).length = σ.length + (O.dead :: List.replicate nd O.dead).length:=by unfold HS; simp
   have g7:(σ++((O.dead :: List.replicate nd O.dead)++O.lst (lh.map enc) :: List.replicate k O.dead))[(HS σ held nd).length]? = some (.lst (lh.map enc)):=by rw [hl2,Z2j,Zcr]
   have f7:(σ++((O.dead :: List.replicate nd O.dead)++O.lst (lh.map enc) :: List.replicate k O.dead)).set (HS σ held nd).length O.dead = σ++((O.dead :: List.replicate nd O.dead)++O.lst (lh.map enc) :: List.replicate k O.dead).set (O.dead :: List.replicate nd O.dead).length O.dead:=by rw [hl2,Z2k]
   exact Ret.mk (atS fun t=>t k2 rfl rfl hb (Z29 σ held nd _) (Z2a σ held nd _ _) g7 f7 ha rfl)
  | cut lh lo=>exact Ret.mk (atS fun t=>t k2 rfl rfl hb (Z29 σ held nd _) (Z2a σ held nd _ _) ha rfl)
theorem LoopEnd.cl {S:List O} (h:Cl S) (q:LoopEnd):Cl (q.st S):=by
 cases q with
 | kept lh k=>exact Z3L h lh k
 | cut lh lo=>exact Z3L h lo 0
theorem ZcP (F:Fn) (K:Nat) (is:List Int) (hcell:Z5l F is) (htext:Z96 F) {L:List Nat} {z:Nat} (hL:Lets L z) (hg:ZcM F (.lst (Z04 L z)) 8) :
  ∃ ps,PsOk ps∧∀ σ,Cl σ→Z07 F K Z8Q [scV is,.lst (Z04 L z)] σ = .ok (.lst (ps.map enc)) ⟨[],σ⟩:=by
 have hgs:=ZcL hL
 refine El.x1_2 (Z0c (is.getD 2 0) 6 (by lia)) fun c hc hc6=>?_
 have hc':(1:Int) + Int.fmod (is.getD 2 0) 6 = ((1 + c:Nat):Int):=by
  have:Int.fmod (is.getD 2 0) 6 = (c:Int):=hc
  rw [this]; lia
 refine El.x4_2 (Z6X (step:=fun x st=>evSs F K Z4P (setV st 5 x))
  (fun (held:List Pt) (num:Int) (nd:Nat) u σ=>(S12 (some (scV is)) (some (.lst (Z04 L z))) (some (sV ((Z8a L z).map fun c=>[c]))) (some (.int num)) (some (.ref σ.length)) (u 0) (u 1) none none none none none (HS σ held nd)))
  (fun i held _=>held.length = i∧(∀ p ∈ held,Fine p∧ht p ≤ 1)∧(Glu.allLeaves held).length ≤ i * 6) (upTo 0 (1 + c:Nat)) [] (Int.fmod (is.getD 3 0) 2147483647) 0 (fun _=>none)
  (by
   intro i x held num nd u hx q1z
   refine El.x0_3 q1z fun h1 h2 h3=>?_
   refine El.x0_2 (Z26 hx) fun q2z hi=>?_
   obtain rfl:=q2z
   refine El.x3_2 (ZaG F K htext hgs (some (scV is)) (some (.lst (Z04 L z))) i held num nd (u 0) (u 1) h1 (by lia) h2 h3) fun held' num' y6 hinv hrun=>?_
   exact ⟨held',num',nd + 1,gl [some (.int (i:Int)),y6],hinv,hrun⟩)
  ⟨rfl,fun _ h=>(by cases h),by simp [Glu.allLeaves]⟩) fun held num nd u q9z e=>?_
 refine El.x0_3 q9z fun h1 h2 h3=>?_
 rw [Z0C] at h1 h3
 refine El.x5_2 (ZcN F K is hcell htext hgs (.lst (Z04 L z)) hg (some (.int num)) (u 0) (u 1)) fun q y5 y6 y8 y9 q3z hq=>?_
 refine El.x0_3 q3z fun q1 q2 q3=>?_
 refine El.x1_1 (ZcO F K q q1 held (by lia) nd is hcell (some (.lst (Z04 L z))) (some (sV ((Z8a L z).map fun c=>[c]))) (some (.int num)) y5 y6 y8 y9) fun b hend=>?_
 have hsum:(Glu.allLeaves (if b then q.ps++held else held++q.ps)).length = (Glu.allLeaves q.ps).length + (Glu.allLeaves held).length:=by cases b <;> simp only [Bool.false_eq_true,if_false,if_true,Z0q] <;> lia
 have hlen:(if b then q.ps++held else held++q.ps).length = q.ps.length + held.length:=by cases b <;> simp only [Bool.false_eq_true,if_false,if_true,List.length_append] <;> lia
 refine ⟨if b then q.ps++held else held++q.ps,⟨fun h0=>?_,by lia,by lia,fun p hp=>?_⟩,fun σ hσ=>?_⟩
 ·rw [h0] at hlen; simp at hlen; lia
 ·have:p ∈ q.ps ∨ p ∈ held:=by cases b <;> simp only [Bool.false_eq_true,if_false,if_true,List.mem_append] at hp <;> first | exact hp | exact hp.symm
  rcases this with hp | hp
  ·exact q3 p hp
  ·exact ⟨(h2 p hp).1,by have:=(h2 p hp).2; lia⟩
 ·refine Z0w rfl ?_ (by rw [Z0p]; exact V.los_mono (Nat.zero_le _) _ (Z2m _)) hσ
  show Ret (evSs F K d_loopsB (S12 (some (scV is)) (some (.lst (Z04 L z))) none none none none none none none none none none σ)) _ _
  have he:=hend σ hσ (q.cl (Z3L hσ held nd))
  refine El.x2_1 he fun ρ' τ' he=>?_
  refine Ret.mk (ρ:=ρ') (τ:=τ') (Eq.trans ?_ he)
  have k2:F "_law_cell_at" [scV is,.int 2] (σ++[.lst []]) = _:=hcell 2 _ (by lia) (hσ.snoc Z09)
  have k3:F "_law_cell_at" [scV is,.int 3] σ = _:=hcell 3 σ (by lia) hσ
  exact Eq.trans (atP 5 fun t=>t rfl (ZhC σ) (ZhD hL _) rfl (ZhE _ σ) rfl k3 rfl rfl rfl rfl rfl k2 rfl hc' (Z0i (show 1 + c < 2 ^ 31 by lia)) (e σ hσ) rfl rfl rfl) (Zhp (hq (HS σ held nd) (some (.ref σ.length)) (Z3L hσ held nd)))
noncomputable def lp (s1 s2:List Nat):List Pt:=[.row (ofL []),.one s1,.many (.one s1),.maybe (.one s1),.row (ofL [.one s1,.one s2]),.or (ofL [.one s1,.one s2]),.maybe (.row (ofL [.one s1,.many (.one s2)])),.or (ofL [.row (ofL [.one s1,.one s2]),.one s1])]
noncomputable def lz:List Nat:=[0,1,1,1,2,2,2,3]
theorem Z0N {d e:Nat} {p:Pt} (h:Fine p∧ht p ≤ d) (he:d ≤ e):Fine p∧ht p ≤ e:=⟨h.1,Nat.le_trans h.2 he⟩
theorem ZhF {s1 s2:List Nat} (h1:LeafOk s1) (h2:LeafOk s2) (q:Nat) (hq:q < 8):∃ p z,(lp s1 s2)[q]? = some p∧lz[q]? = some z∧(Fine p∧ht p ≤ 3)∧p.leaves.length = z:=by
 have f1:=Z2P h1 0
 have f2:=Z2P h2 0
 have f12:∀ p ∈ [Glu.Pat.one s1,(Glu.Pat.one s2:Pt)],Fine p∧ht p ≤ 0:=fun p hp=>by
  simp only [List.mem_cons,List.not_mem_nil,or_false] at hp
  rcases hp with rfl | rfl
  ·exact f1
  ·exact f2
 have l12:(Glu.allLeaves [Glu.Pat.one s1,(Glu.Pat.one s2:Pt)]).length = 2:=by simp [Glu.allLeaves,Z2c]
 have h0123:q = 0 ∨ q = 1 ∨ q = 2 ∨ q = 3 ∨ q = 4 ∨ q = 5 ∨ q = 6 ∨ q = 7:=by lia
 rcases h0123 with rfl | rfl | rfl | rfl | rfl | rfl | rfl | rfl
 ·exact ⟨_,_,rfl,rfl,Z0N (Z0W (d:=0) (ps:=[]) (fun _ h=>by cases h) (by simp)) (by lia),by rw [Z2N]; rfl⟩
 ·exact ⟨_,_,rfl,rfl,Z0N f1 (by lia),by rw [Z2c]; rfl⟩
 ·exact ⟨_,_,rfl,rfl,Z0N (Z2Q f1) (by lia),by rw [Z58,Z2c]; rfl⟩
 ·exact ⟨_,_,rfl,rfl,Z0N (Z28 f1) (by lia),by rw [Z2O,Z2c]; rfl⟩
 ·exact ⟨_,_,rfl,rfl,Z0N (Z0W f12 (by simp)) (by lia),by rw [Z2N]; exact l12⟩
 ·exact ⟨_,_,rfl,rfl,Z0N (Z55 f12 (by simp) (by simp)) (by lia),by rw [ZcC]; exact l12⟩
 ·refine ⟨_,_,rfl,rfl,Z0N (Z28 (Z0W (d:=1) (fun p hp=>?_) (by simp))) (by lia),?_⟩
  ·simp only [List.mem_cons,List.not_mem_nil,or_false] at hp
   rcases hp with rfl | rfl
   ·exact Z0N f1 (by lia)
   ·exact Z2Q f2
  ·rw [Z2O,Z2N]; simp [Glu.allLeaves,Z2c,Z58]
 ·refine ⟨_,_,rfl,rfl,Z0N (Z55 (d:=1) (fun p hp=>?_) (by simp) (by simp)) (by lia),?_⟩
  ·simp only [List.mem_cons,List.not_mem_nil,or_false] at hp
   rcases hp with rfl | rfl
   ·exact Z0W f12 (by simp)
   ·exact Z0N f1 (by lia)
  ·rw [ZcC]; simp [Glu.allLeaves,Z2c,Z2N]
theorem ZcQ {s1 s2:List Nat} (h1:LeafOk s1) (h2:LeafOk s2) (q room:Nat) (hq:q < 8):∃ (z:Nat) (p:Pt) (q' z':Nat),Z0n [V.int 0,V.int 1,V.int 1,V.int 1,V.int 2,V.int 2,V.int 2,V.int 3] (q:Int) = some (.int (z:Int)) ∧
  Z0n [V.int 0,V.int (q:Int)] (if decide ((z:Int) ≤ (room:Int)) then 1 else 0:Int) = some (.int (q':Int))∧Z0n ((lp s1 s2).map enc) (q':Int) = some (enc p)∧Z0n [V.int 0,V.int (z:Int)] (if decide ((z:Int) ≤ (room:Int)) then 1 else 0:Int) = some (.int (z':Int))∧(Fine p∧ht p ≤ 3)∧p.leaves.length = z'∧z' ≤ room:=by
 refine El.x2_4 (ZhF h1 h2 q hq) fun p z e1 e2 e3 e4=>?_
 refine El.x2_4 (ZhF h1 h2 0 (by lia)) fun p0 z0 g1 g2 g3 g4=>?_
 have hz0:z0 = 0:=by cases g2; rfl
 have hzz:Z0n [V.int 0,V.int 1,V.int 1,V.int 1,V.int 2,V.int 2,V.int 2,V.int 3] (q:Int) = some (.int (z:Int)):=by
  have hl:[V.int 0,V.int 1,V.int 1,V.int 1,V.int 2,V.int 2,V.int 2,V.int 3] = lz.map fun n:Nat=>V.int (n:Int):=rfl
  rw [hl,Z0y _ (by lia),List.getElem?_map,e2]; rfl
 by_cases h:(z:Int) ≤ (room:Int)
 ·refine ⟨z,p,q,z,hzz,by rw [decide_eq_true h]; rfl,by rw [Z0y _ (by lia),List.getElem?_map,e1]; rfl,by rw [decide_eq_true h]; rfl,e3,e4,by lia⟩
 ·refine ⟨z,p0,0,0,hzz,by rw [decide_eq_false h]; rfl,by rw [Z0y _ (by lia),List.getElem?_map,g1]; rfl,by rw [decide_eq_false h]; rfl,g3,by rw [g4,hz0],Nat.zero_le _⟩
theorem ZhG (s1 s2:List Nat):([V.tup [.str (Str.ofString "row").cps.toList,.lst []],.tup [.str (Str.ofString "one").cps.toList,.str s1],.tup [.str (Str.ofString "many").cps.toList,.tup [.str (Str.ofString "one").cps.toList,.str s1]],.tup [.str (Str.ofString "maybe").cps.toList,.tup [.str (Str.ofString "one").cps.toList,.str s1]],.tup [.str (Str.ofString "row").cps.toList,.lst [.tup [.str (Str.ofString "one").cps.toList,.str s1],.tup [.str (Str.ofString "one").cps.toList,.str s2]]],.tup [.str (Str.ofString "or").cps.toList,.lst [.tup [.str (Str.ofString "one").cps.toList,.str s1],.tup [.str (Str.ofString "one").cps.toList,.str s2]]]] ++
  [V.tup [.str (Str.ofString "maybe").cps.toList,.tup [.str (Str.ofString "row").cps.toList,.lst [.tup [.str (Str.ofString "one").cps.toList,.str s1],.tup [.str (Str.ofString "many").cps.toList,.tup [.str (Str.ofString "one").cps.toList,.str s2]]]]],.tup [.str (Str.ofString "or").cps.toList,.lst [.tup [.str (Str.ofString "row").cps.toList,.lst [.tup [.str (Str.ofString "one").cps.toList,.str s1],.tup [.str (Str.ofString "one").cps.toList,.str s2]]],.tup [.str (Str.ofString "one").cps.toList,.str s1]]]]) = (lp s1 s2).map enc:=by
 simp only [lp,List.map_cons,List.map_nil,Z56,Za9,Z70,Z71,Z57,List.cons_append,List.nil_append]
noncomputable def ZgG (F:Fn) (L:List Nat) (z:Nat):Prop:=∀ (m:Nat) (τ:List O),Cl τ→F "_law_some_of" [.lst (Z04 L z),.int (m:Int)] τ = .ok (.str (Z1f (word L z) m)) ⟨[],τ⟩
theorem ZcR (F:Fn) (K:Nat) (is:List Int) (hcell:Z5l F is) {L:List Nat} {z:Nat} (hL:Lets L z) (hsome:ZgG F L z) (x2:Option V) (i:Nat) (hi:i ≤ 8) (Rm:Nat) (parts:List Pt) (room:Nat) (x5 x6 x7 x8 x9 x10 x11:Option V)
  (h1:parts.length = i) (h2:∀ p ∈ parts,Fine p∧ht p ≤ 3) (h3:(Glu.allLeaves parts).length + room ≤ Rm) :
  ∃ parts' room' y6 y7 y8 y9 y10 y11,(parts'.length = i + 1∧(∀ p ∈ parts',Fine p∧ht p ≤ 3)∧(Glu.allLeaves parts').length + room' ≤ Rm)∧∀ σ,Cl σ→evSs F K Z6E (setV (S14 (some (scV is)) (some (.lst (Z04 L z))) x2 (some (.int (room:Int))) (some (.ref σ.length)) x5 x6 x7 x8 x9 x10 x11 none none (HS σ parts 0)) 5 (.int (i:Int))) =
   .ok .next (S14 (some (scV is)) (some (.lst (Z04 L z))) x2 (some (.int (room':Int))) (some (.ref σ.length)) (some (.int (i:Int))) y6 y7 y8 y9 y10 y11 none none (HS σ parts' 0)):=by
 have hi3:(3:Int) + (i:Int) = ((3 + i:Nat):Int):=by lia
 refine El.x1_2 (Z0c (Int.fdiv (is.getD (3 + i) 0) 8) 15 (by lia)) fun a ha ha2=>?_
 have ha':(1:Int) + Int.fmod (Int.fdiv (is.getD (3 + i) 0) 8) 15 = ((1 + a:Nat):Int):=by
  have:Int.fmod (Int.fdiv (is.getD (3 + i) 0) 8) 15 = (a:Int):=ha
  rw [this]; lia
 refine El.x1_2 (Z0c (Int.fdiv (is.getD (3 + i) 0) 120) 15 (by lia)) fun b hb hb2=>?_
 have hb':(1:Int) + Int.fmod (Int.fdiv (is.getD (3 + i) 0) 120) 15 = ((1 + b:Nat):Int):=by
  have:Int.fmod (Int.fdiv (is.getD (3 + i) 0) 120) 15 = (b:Int):=hb
  rw [this]; lia
 refine El.x1_2 (Z0c (is.getD (3 + i) 0) 8 (by lia)) fun q hq hq2=>?_
 have hq':Int.fmod (is.getD (3 + i) 0) 8 = (q:Int):=hq
 refine El.x4_7 (ZcQ (Z90 hL (m:=1 + a) (by lia) (by lia)) (Z90 hL (m:=1 + b) (by lia) (by lia)) q room hq2) fun sz p q' z' e1 e2 e3 e4 e5 e6 e7=>?_
 refine El.y8_2 (parts++[p]) (room - z') (some (.int (is.getD (3 + i) 0))) (some (.tup [.str (Str.ofString "one").cps.toList,.str (Z1f (word L z) (1 + a))])) (some (.tup [.str (Str.ofString "one").cps.toList,.str (Z1f (word L z) (1 + b))])) (some (.tup [.str (Str.ofString "row").cps.toList,.lst [.tup [.str (Str.ofString "one").cps.toList,.str (Z1f (word L z) (1 + a))],.tup [.str (Str.ofString "one").cps.toList,.str (Z1f (word L z) (1 + b))]]])) (some (.lst ((lp (Z1f (word L z) (1 + a)) (Z1f (word L z) (1 + b))).map enc))) (some (.int (sz:Int))) ⟨by simp [h1],fun x hx=>?_,?_⟩ (fun σ hσ=>?_)
 ·rcases List.mem_append.mp hx with hx | hx
  ·exact h2 x hx
  ·rw [List.mem_singleton.mp hx]; exact e5
 ·rw [Z0q,Z0g]; lia
 ·have hcl:=Z3L hσ parts 0
  have kk:=hcell (3 + i) _ (by lia) hcl
  have sa:=hsome (1 + a) _ hcl
  have sb:=hsome (1 + b) _ hcl
  have r0:=Z0x _ _ _ (Z0O σ parts 0)
  have hrm:(room:Int) - (z':Int) = ((room - z':Nat):Int):=by lia
  rw [← hi3] at kk
  rw [← ha'] at sa
  rw [← hb'] at sb
  rw [← hq'] at e1 e2
  exact atS fun t=>t kk rfl rfl rfl sa rfl rfl rfl sb rfl rfl rfl rfl (congrArg V.lst (ZhG _ _)) rfl ((Z1E _ _ _).trans e1) rfl r0 rfl rfl ((Z1E _ _ _).trans e2) ((Z1E _ _ _).trans e3) (Z5R σ parts 0 (by lia) rfl _) rfl ((Z1E _ _ _).trans e4) (congrArg V.int hrm)
theorem Z73 {L:List Nat} {z:Nat} (h:Lets L z) (k:Nat) (hk:k < 5):∃ c,Z0n (Z04 L z) (k:Int) = some (.str (word L z k))∧Z0n (word L z k) 0 = some c∧c < 128:=by
 have hl:=Z0V hk h.len
 have hz:=h.z1
 have hp:0 < (word L z k).length:=by lia
 refine ⟨(word L z k)[0],by rw [Z0y _ (by lia),Z88 hk],by rw [idx0]; exact List.getElem?_eq_getElem hp,h.lt _ (Z3X _ (List.getElem_mem hp))⟩
theorem Z8b {c:Nat} (h:c < 128) (d:Nat):Fine (.one [c])∧ht (.one [c]) ≤ d:=Z2P ⟨by simp,by simp,by simpa using h,by simp⟩ d
theorem ZaH (parts:List Pt) (h0:0 < parts.length) (h8:parts.length ≤ 64) (h2:∀ p ∈ parts,Fine p∧ht p ≤ 3) (i j:Int):∃ kd:List Nat,∃ W:Pt,Z0n [V.str (Str.ofString "row").cps.toList,V.str (Str.ofString "or").cps.toList] (Int.fmod i 2) = some (.str kd) ∧
  Z0n [V.tup [.str kd,.lst (parts.map enc)],V.tup [.str (Str.ofString "many").cps.toList,V.tup [.str kd,.lst (parts.map enc)]],V.tup [.str (Str.ofString "maybe").cps.toList,V.tup [.str kd,.lst (parts.map enc)]]] (Int.fmod j 3) = some (enc W)∧(Fine W∧ht W ≤ 5)∧W.leaves = Glu.allLeaves parts:=by
 refine El.x1_2 (Z0c i 2 (by lia)) fun a ha ha2=>?_
 refine El.x1_2 (Z0c j 3 (by lia)) fun b hb hb3=>?_
 have ha':Int.fmod i 2 = (a:Int):=ha
 have hb':Int.fmod j 3 = (b:Int):=hb
 rw [ha',hb']
 have key:∃ kd:List Nat,∃ W:Pt,Z0n [V.str (Str.ofString "row").cps.toList,V.str (Str.ofString "or").cps.toList] (a:Int) = some (.str kd)∧V.tup [.str kd,.lst (parts.map enc)] = enc W∧(Fine W∧ht W ≤ 4)∧W.leaves = Glu.allLeaves parts:=by
  have:a = 0 ∨ a = 1:=by lia
  rcases this with rfl | rfl
  ·exact ⟨_,.row (ofL parts),rfl,(Z56 _).symm,Z0W h2 h8,Z2N _⟩
  ·exact ⟨_,.or (ofL parts),rfl,(Za9 _).symm,Z55 h2 h8 h0,ZcC _⟩
 refine El.x2_4 key fun kd W e1 e2 e3 e4=>?_
 refine ⟨kd,?_⟩
 rw [e2]
 have:b = 0 ∨ b = 1 ∨ b = 2:=by lia
 rcases this with rfl | rfl | rfl
 ·exact ⟨W,e1,rfl,Z0N e3 (by lia),e4⟩
 ·exact ⟨.many W,e1,by rw [Z71]; rfl,Z2Q e3,by rw [Z58,e4]⟩
 ·exact ⟨.maybe W,e1,by rw [Z57]; rfl,Z28 e3,by rw [Z2O,e4]⟩
theorem ZeC (W S:Pt) (h g:Nat) (hh:h < 2) (hg:g < 2):∃ ps:List Pt,Z0n [V.lst [enc W],V.lst [enc W],V.lst [enc S,enc W],V.lst [enc W,enc S]] ((h:Int) * 2 + (g:Int)) = some (.lst (ps.map enc))∧(ps = [W] ∨ ps = [S,W] ∨ ps = [W,S]):=by
 have h01:h = 0 ∨ h = 1:=by lia
 have g01:g = 0 ∨ g = 1:=by lia
 rcases h01 with rfl | rfl <;> rcases g01 with rfl | rfl
 ·exact ⟨[W],rfl,.inl rfl⟩
 ·exact ⟨[W],rfl,.inl rfl⟩
 ·exact ⟨[S,W],rfl,.inr (.inl rfl)⟩
 ·exact ⟨[W,S],rfl,.inr (.inr rfl)⟩
theorem ZeD (F:Fn) (K:Nat) (is:List Int) (hcell:Z5l F is) {L:List Nat} {z:Nat} (hL:Lets L z) (hsome:ZgG F L z) :
  ∃ ps,PsOk ps∧∀ σ,Cl σ→Z07 F K Zcb [scV is,.lst (Z04 L z)] σ = .ok (.lst (ps.map enc)) ⟨[],σ⟩:=by
 refine El.x1_2 (Z0c (Int.fdiv (is.getD 2 0) 36) 2 (by lia)) fun h hh hh2=>?_
 have hh':Int.fmod (Int.fdiv (is.getD 2 0) 36) 2 = (h:Int):=hh
 refine El.x1_2 (Z0c (Int.fdiv (is.getD 2 0) 72) 2 (by lia)) fun g hg hg2=>?_
 have hg':Int.fmod (Int.fdiv (is.getD 2 0) 72) 2 = (g:Int):=hg
 refine El.x1_2 (Z0c (is.getD 2 0) 6 (by lia)) fun c hc hc6=>?_
 have hc':(3:Int) + Int.fmod (is.getD 2 0) 6 = ((3 + c:Nat):Int):=by
  have:Int.fmod (is.getD 2 0) 6 = (c:Int):=hc
  rw [this]; lia
 have hrm:(6:Int) - 2 * (h:Int) = ((6 - 2 * h:Nat):Int):=by lia
 refine El.x4_2 (Z6X (step:=fun x st=>evSs F K Z6E (setV st 5 x))
  (fun (parts:List Pt) (room:Nat) (_:Unit) u σ=>(S14 (some (scV is)) (some (.lst (Z04 L z))) (some (.int (is.getD 2 0))) (some (.int (room:Int))) (some (.ref σ.length)) (u 0) (u 1) (u 2) (u 3) (u 4) (u 5) (u 6) none none (HS σ parts 0)))
  (fun i parts room=>parts.length = i∧(∀ p ∈ parts,Fine p∧ht p ≤ 3)∧(Glu.allLeaves parts).length + room ≤ 6) (upTo 0 (3 + c:Nat)) [] (6 - 2 * h) () (fun _=>none)
  (by
   intro i x parts room _ u hx q1z
   refine El.x0_3 q1z fun h1 h2 h3=>?_
   refine El.x0_2 (Z26 hx) fun q2z hi=>?_
   obtain rfl:=q2z
   refine El.x8_2 (ZcR F K is hcell hL hsome (some (.int (is.getD 2 0))) i (by lia) 6 parts room (u 0) (u 1) (u 2) (u 3) (u 4) (u 5) (u 6) h1 h2 h3) fun parts' room' y6 y7 y8 y9 y10 y11 hinv hrun=>?_
   exact ⟨parts',room',(),gl [some (.int (i:Int)),y6,y7,y8,y9,y10,y11],hinv,hrun⟩)
  ⟨rfl,fun _ h=>(by cases h),by show (Glu.allLeaves ([]:List Pt)).length + (6 - 2 * h) ≤ 6; simp [Glu.allLeaves]⟩) fun parts room _ u q9z e=>?_
 refine El.x0_3 q9z fun h1 h2 h3=>?_
 rw [Z0C] at h1
 refine El.x2_4 (ZaH parts (by lia) (by lia) h2 (Int.fdiv (is.getD 2 0) 6) (Int.fdiv (is.getD 2 0) 12)) fun kd W w1 w2 w3 w4=>?_
 refine El.x1_3 (Z73 hL 0 (by lia)) fun c0 a1 a2 a3=>?_
 refine El.x1_3 (Z73 hL 1 (by lia)) fun c1 b1 b2 b3=>?_
 have hS:Fine (.row (ofL [.one [c0],.one [c1]]))∧ht (.row (ofL [.one [c0],.one [c1]])) ≤ 1:=Z0W (d:=0) (fun p hp=>by
  simp only [List.mem_cons,List.not_mem_nil,or_false] at hp
  rcases hp with rfl | rfl
  ·exact Z8b a3 0
  ·exact Z8b b3 0) (by simp)
 have lS:(Glu.Pat.row (ofL [.one [c0],.one [c1]]):Pt).leaves.length = 2:=by rw [Z2N]; simp [Glu.allLeaves,Z2c]
 have eS:enc (.row (ofL [.one [c0],.one [c1]])) = .tup [.str (Str.ofString "row").cps.toList,.lst [.tup [.str (Str.ofString "one").cps.toList,.str [c0]],.tup [.str (Str.ofString "one").cps.toList,.str [c1]]]]:=by rw [Z56,List.map_cons,List.map_cons,List.map_nil,Z70,Z70]
 have lW:W.leaves.length ≤ 6:=by rw [w4]; lia
 refine El.x1_2 (ZeC W (.row (ofL [.one [c0],.one [c1]])) h g hh2 hg2) fun ps o1 o2=>?_
 have hps:PsOk ps:=by
  have fW:Fine W∧ht W ≤ 14:=Z0N w3 (by lia)
  have fS:=Z0N hS (show 1 ≤ 14 by lia)
  rcases o2 with rfl | rfl | rfl
  ·exact ⟨by simp,by simp,by rw [Z0g]; lia,fun p hp=>by rw [List.mem_singleton.mp hp]; exact fW⟩
  ·refine ⟨by simp,by simp,?_,fun p hp=>?_⟩
   ·have:=Z0q [.row (ofL [.one [c0],.one [c1]])] [W]
    rw [Z0g,Z0g] at this
    show (Glu.allLeaves ([.row (ofL [.one [c0],.one [c1]])]++[W])).length ≤ 60
    lia
   ·simp only [List.mem_cons,List.not_mem_nil,or_false] at hp
    rcases hp with rfl | rfl
    ·exact fS
    ·exact fW
  ·refine ⟨by simp,by simp,?_,fun p hp=>?_⟩
   ·have:=Z0q [W] [.row (ofL [.one [c0],.one [c1]])]
    rw [Z0g,Z0g] at this
    show (Glu.allLeaves ([W]++[.row (ofL [.one [c0],.one [c1]])])).length ≤ 60
    lia
   ·simp only [List.mem_cons,List.not_mem_nil,or_false] at hp
    rcases hp with rfl | rfl
    ·exact fW
    ·exact fS
 refine ⟨ps,hps,fun σ hσ=>?_⟩
 have m2:Z2n (.int 2) (.int (Int.fmod (Int.fdiv (is.getD 2 0) 36) 2)) = some (.int (2 * (h:Int))):=by rw [hh']; exact Z1N 2 (h:Int) (by rw [Z0S (i:=2) (by lia) (by lia)]; rfl)
 have m3:Z2n (.int (Int.fmod (Int.fdiv (is.getD 2 0) 36) 2)) (.int 2) = some (.int ((h:Int) * 2)):=by rw [hh']; exact Z1N (h:Int) 2 (by rw [Z0S (i:=2) (by lia) (by lia),Bool.or_true])
 rw [eS,← hg'] at o1
 exact atF rfl hσ fun t=>t (hcell 2 σ (by lia) hσ) rfl rfl rfl m2 (congrArg V.int hrm) rfl rfl rfl rfl hc' (Z0i (show 3 + c < 2 ^ 31 by lia)) (e σ hσ) rfl rfl w1 (Z0O σ parts 0) (ZaF σ parts 0) rfl rfl rfl w2 rfl a1 (Z7K a2) b1 (Z7K b2) rfl rfl rfl m3 rfl rfl o1 rfl rfl (V.los_mono (Nat.zero_le _) _ (Z2m _))
theorem Z8c (F:Fn) (K:Nat) (is:List Int) (hcell:Z5l F is) {L:List Nat} {z:Nat} (hL:Lets L z) (hg:ZcM F (.lst (Z04 L z)) 12)
  (hw:∃ ps,PsOk ps∧∀ σ,Cl σ→F "_law_words" [scV is] σ = .ok (.lst (ps.map enc)) ⟨[],σ⟩) (hlo:∃ ps,PsOk ps∧∀ σ,Cl σ→F "_law_loops" [scV is,.lst (Z04 L z)] σ = .ok (.lst (ps.map enc)) ⟨[],σ⟩) (hln:∃ ps,PsOk ps∧∀ σ,Cl σ→F "_law_long" [scV is,.lst (Z04 L z)] σ = .ok (.lst (ps.map enc)) ⟨[],σ⟩) :
  ∃ ps,PsOk ps∧∀ σ,Cl σ→Z07 F K Z3b [scV is,.lst (Z04 L z)] σ = .ok (.lst (ps.map enc)) ⟨[],σ⟩:=by
 have k1:∀ σ,Cl σ→F "_law_cell_at" [scV is,.int 1] σ = .ok (.int (is.getD 1 0)) ⟨[],σ⟩:=fun σ hσ=>hcell 1 σ (by lia) hσ
 have lo:∀ (ps:List Pt) (σ:List O),V.lo σ.length (.lst (ps.map enc)) = true:=fun ps σ=>V.los_mono (Nat.zero_le _) _ (Z2m _)
 cases b1:(Int.fmod (is.getD 1 0) 4 == 1) with
 | true=>exact El.x1_2 hw fun ps h1 h2=>⟨ps,h1,fun σ hσ=>atF rfl hσ fun t=>t (k1 σ hσ) rfl b1 (h2 σ hσ) rfl app0 (lo _ _)⟩
 | false=>
  cases b3:(Int.fmod (is.getD 1 0) 4 == 3) with
  | true=>exact El.x1_2 hlo fun ps h1 h2=>⟨ps,h1,fun σ hσ=>atF rfl hσ fun t=>t (k1 σ hσ) rfl b1 (k1 σ hσ) rfl b3 (h2 σ hσ) rfl app0 (lo _ _)⟩
  | false=>
   cases b4:(Int.fmod (is.getD 1 0) 8 == 4) with
   | true=>exact El.x1_2 hln fun ps h1 h2=>⟨ps,h1,fun σ hσ=>atF rfl hσ fun t=>t (k1 σ hσ) rfl b1 (k1 σ hσ) rfl b3 (k1 σ hσ) rfl b4 (h2 σ hσ) rfl app0 (lo _ _)⟩
   | false=>
    obtain ⟨⟨held,room,y4⟩,⟨hG,_⟩,e⟩:=Z98 (S:=List Pt × Nat × Option V) (E:=List O) (step:=fun x st=>evSs F K Z3D (setV st 4 x)) (fun e=>Cl e)
     (fun s e=>(S5 (some (scV is)) (some (.lst (Z04 L z))) (some (.ref e.length)) (some (.int (s.2.1:Int))) s.2.2 (HS e s.1 0)))
     (fun i s=>GOk 6 i s.1 s.2.1∧True) (upTo 0 (12:Nat)) 0 ([],6,none)
     (by
      intro i x q3z hx q4z
      obtain ⟨lh,room,y5⟩:=q3z
      refine El.x0_2 q4z fun hG _=>?_
      refine El.x0_2 (Z26 hx) fun q5z hi=>?_
      obtain rfl:=q5z
      rw [Nat.zero_add] at hG ⊢
      refine El.x2_2 (hg (by lia) hG (is.getD (2 + i) 0)) fun lh' room' hG' hrun=>?_
      refine ⟨(lh',room',some (.int (i:Int))),⟨hG',trivial⟩,fun e he=>?_⟩
      have hcl:=Z3L he lh 0
      have hi21:(2:Int) + (i:Int) = ((2 + i:Nat):Int):=by lia
      have kk:=hcell (2 + i) _ (by lia) hcl
      have gr:=hrun _ _ hcl (Z0O e lh 0)
      rw [ZcH] at gr
      exact atS fun t=>t kk gr rfl)
     ⟨⟨fun _ h=>(by cases h),by simp,by simp [Glu.allLeaves]⟩,trivial⟩
    rw [Z0C,Nat.zero_add] at hG
    dsimp only at hG e
    have hsum:=hG.sum
    have r12:Z0D 12 = true:=Z0i (n:=12) (by lia)
    by_cases h0:held = []
    ·subst h0
     refine El.x1_3 (Z73 hL 0 (by lia)) fun c0 a1 a2 a3=>?_
     have hlf:LeafOk (word L z 0):=⟨fun q=>by rw [q] at a2; simp [Z0n] at a2,Zcy hL.nd,List.all_eq_true.mpr fun c hc=>decide_eq_true (hL.lt c (Z3X c hc)),by rw [Z0V (by lia) hL.len]; have:=hL.z19; lia⟩
     refine ⟨[.one (word L z 0)],⟨by simp,by simp,by rw [Z0g,Z2c]; simp,fun p hp=>by rw [List.mem_singleton.mp hp]; exact Z2P hlf 14⟩,fun σ hσ=>atF rfl hσ fun t=>t (k1 σ hσ) rfl b1 (k1 σ hσ) rfl b3 (k1 σ hσ) rfl b4 rfl rfl rfl rfl rfl r12 (e σ hσ) (ZcD (Z0O σ [] 0)) rfl (Z0x _ _ _ (Z0O σ [] 0)) a1 (Z5R σ [] 0 (by simp) (q:=.one (word L z 0)) rfl _) (Z0O σ [.one (word L z 0)] 0) (ZaF σ _ 0) rfl rfl (lo _ _)⟩
    ·refine ⟨held,⟨h0,hG.few,by lia,fun p hp=>Z0N (hG.fine p hp) (by lia)⟩,fun σ hσ=>?_⟩
     have e0:(held.map enc).isEmpty = false:=by cases held with | nil=>exact absurd rfl h0 | cons a b=>rfl
     exact atF rfl hσ fun t=>t (k1 σ hσ) rfl b1 (k1 σ hσ) rfl b3 (k1 σ hσ) rfl b4 rfl rfl rfl rfl rfl r12 (e σ hσ) (ZcD (Z0O σ held 0)) (nn e0) (Z0O σ held 0) (ZaF σ held 0) rfl rfl (lo _ _)
theorem Z9a {F:Fn} {K:Nat} {d:Def} {args:List V} {σ σ' τ:List O} {r:V} {ρ:List (Option V)} (hl:args.length = d.params.length) (hs:σ'.length = σ.length)
  (h:evSs F K d.body ⟨args.map some++List.replicate (d.slots - args.length) none,σ⟩ = .ok (.ret r) ⟨ρ,σ'++τ⟩) (hr:r.lo 0 = true) (hσ:Cl σ'):Z07 F K d args σ = .ok r ⟨[],σ'⟩:=by
 unfold Z07
 rw [if_pos hl,h]
 have h1:(σ'++τ).take σ.length = σ':=by rw [← hs,List.take_left']; rfl
 have h2:σ'.all (O.lo σ.length) = true:=by rw [← hs]; exact hσ
 simp only [R.bind_ok,Fl.val,h1,h2,V.lo_mono (Nat.zero_le _) _ hr,Bool.and_self,if_true]
noncomputable def stV (a b:Int):O:=.lst [.int a]
theorem Cl.set {σ:List O} (h:Cl σ) (n:Nat) {o:O} (ho:∀ k,O.lo k o = true):Cl (σ.set n o):=by
 unfold Cl
 rw [List.length_set,List.all_eq_true]
 intro x hx
 rcases List.mem_or_eq_of_mem_set hx with hx | rfl
 ·exact List.all_eq_true.mp h x hx
 ·exact ho _
theorem Zad (a b:Int) (k:Nat):O.lo k (stV a b) = true:=by
 show V.los k [.int a] = true
 rw [Z02,Z0f,Z09]; rfl
noncomputable def Z74 (F:Fn) (v:V):Prop:=∀ (τ:List O) (n:Nat) (a b:Int),Cl τ→τ[n]? = some (stV a b)→∃ (t:List Nat) (a' b':Int),F "_law_sample" [v,.ref n] τ = .ok (.str t) ⟨[],τ.set n (stV a' b')⟩∧t.length ≤ 24
theorem ZgH {F:Fn} {st:St} {f:Str} {k j:Nat} {x y v:V} {ρ':List (Option V)} {σ':List O} (h:st.ρ[k]? = some (some x)) (h1:st.ρ[j]? = some (some y)) (h2:F f [x,y] st.σ = .ok v ⟨ρ',σ'⟩):evE F (.call f (.cons (.loc k) (.cons (.loc j) .nil))) st = .ok v ⟨st.ρ,σ'⟩:=by
 rw [Z9i,Z1L,Z6z h]
 exact (congrArg (fun r=>R.bind (R.bind (R.bind r _) _) _) (Z6z h1)).trans (congrArg (fun r=>Z5f r st.ρ) h2)
theorem Z8d (F:Fn) (ρ:List (Option V)) (n:Nat) (h1:∀ x:Option V,(ρ.set 5 x)[1]? = some (some (.ref n))) (h5:5 < ρ.length):∀ (vs:List V),(∀ v ∈ vs,Z74 F v)→∀ (τ:List O) (a b:Int) (acc:List V) (x:Option V),Cl τ→τ[n]? = some (stV a b)→V.los 0 acc = true→acc.length + vs.length ≤ 1000 →
  ∃ (ts:List (List Nat)) (a' b':Int) (x':Option V),Z2T 5 τ.length (evTs F .nil) (evE F Z0Z) vs ⟨ρ.set 5 x,τ++[.lst acc]⟩ = .ok () ⟨ρ.set 5 x',τ.set n (stV a' b')++[.lst (acc++ts.map .str)]⟩∧ts.length = vs.length∧∀ t ∈ ts,t.length ≤ 24
 | [],_,τ,a,b,acc,x,hcl,hn,ha,hl=>⟨[],a,b,x,by rw [Z7f,Z72 hn,List.map_nil,List.append_nil],rfl,fun _ h=>by cases h⟩
 | v :: vs,hv,τ,a,b,acc,x,hcl,hn,ha,hl=>by
  rw [List.length_cons] at hl
  have hlt:n < τ.length:=(List.getElem?_eq_some_iff.mp hn).1
  have q27y:=hv v (by simp) (τ++[.lst acc]) n a b (hcl.snoc ha) (by rw [List.getElem?_append_left hlt]; exact hn)
  refine El.x3_2 q27y fun t a₁ b₁ e1 ht=>?_
  rw [List.set_append_left _ _ hlt] at e1
  have hn1:(τ.set n (stV a₁ b₁))[n]? = some (stV a₁ b₁):=Zaa hn
  have hlen:(τ.set n (stV a₁ b₁)).length = τ.length:=List.length_set
  have q31y:=Z8d F ρ n h1 h5 vs (fun w hw=>hv w (by simp [hw])) (τ.set n (stV a₁ b₁)) a₁ b₁ (acc++[.str t]) (some v) (hcl.set n (Zad _ _)) hn1 (Z6R ha (by rw [Z02,Z0b,Z09]; rfl)) (by rw [List.length_append,List.length_singleton]; lia)
  refine El.x4_3 q31y fun ts a' b' x' e2 h2 h3=>?_
  refine El.y4_3 (t :: ts) a' b' x' ?_ (by rw [List.length_cons,h2,List.length_cons]) (fun u hu=>?_)
  ·have hset:setV ⟨ρ.set 5 x,τ++[.lst acc]⟩ 5 v = ⟨ρ.set 5 (some v),τ++[.lst acc]⟩:=by rw [qset,List.set_set]
   have h5':(ρ.set 5 (some v))[5]? = some (some v):=List.getElem?_set_self h5
   have he:evE F Z0Z ⟨ρ.set 5 (some v),τ++[.lst acc]⟩ = .ok (.str t) ⟨ρ.set 5 (some v),τ.set n (stV a₁ b₁)++[.lst acc]⟩:=by
    exact ZgH h5' (h1 _) e1
   have hg:(τ.set n (stV a₁ b₁)++[O.lst acc])[τ.length]? = some (.lst acc):=by rw [← hlen]; simp
   have hs:(τ.set n (stV a₁ b₁)++[O.lst acc]).set τ.length (.lst (acc++[.str t])) = τ.set n (stV a₁ b₁)++[.lst (acc++[.str t])]:=by rw [← hlen]; simp
   rw [hlen] at e2
   rw [Z2U,hset,Z9j,R.bind_ok]
   simp only [if_true]
   rw [he,R.bind_ok]
   simp only [hg,hs]
   rw [if_pos (by unfold sizeLine; lia),e2,List.set_set]
   simp
  ·rcases List.mem_cons.mp hu with rfl | hu
   ·exact ht
   ·exact h3 u hu
theorem Zae:∀ (ts:List (List Nat)),(∀ t ∈ ts,t.length ≤ 24)→ts.flatten.length ≤ 24 * ts.length
 | [],_=>Nat.le_refl _
 | t :: ts,h=>by
  rw [List.flatten_cons,List.length_append,List.length_cons]
  have h1:=h t (by simp)
  have h2:=Zae ts fun u hu=>h u (by simp [hu])
  lia
theorem Zaf:∀ ts:List (List Nat),Z1h (ts.map V.str) = some ts
 | []=>rfl
 | t :: ts=>(congrArg (Option.map (t :: ·)) (Zaf ts):_)
theorem Zi1 (l:List Nat):(cutL l none (some 24)).length ≤ 24:=by
 unfold cutL
 simp only [Option.elim_none,Option.elim_some,List.drop_zero,Nat.sub_zero]
 have:clipAt l.length 24 = min 24 l.length:=Z3W l.length 24
 rw [this,List.length_take]
 lia
theorem ZeE (F:Fn) (K:Nat) (kd:List Nat) (v:V) (s:Int) (vs:List V) (hl:vs.length ≤ 100) (hv:∀ v ∈ vs,Z74 F v) (τ:List O) (n:Nat) (a b:Int) (hcl:Cl τ) (hn:τ[n]? = some (stV a b)) :
  ∃ (t:List Nat) (a' b':Int) (ρ:List (Option V)),evSs F K (.cons (.ret (.slice (.me .join (.str "") (.comp Z0Z 5 (.val (.loc 4)) .nil)) .none (.some (.int 24)))) .nil) ⟨[some (.tup [.str kd,v]),some (.ref n),some (.int s),some (.str kd),some (.lst vs),none],τ⟩ = .ok (.ret (.str t)) ⟨ρ,τ.set n (stV a' b')++[.dead]⟩∧t.length ≤ 24:=by
 refine El.x4_3 (Z8d F [some (.tup [.str kd,v]),some (.ref n),some (.int s),some (.str kd),some (.lst vs),none] n (fun _=>rfl) (by simp) vs hv τ a b [] none hcl hn Z09 (by simpa using by lia)) fun ts a' b' x' e h1 h2=>?_
 have hlen:(τ.set n (stV a' b')).length = τ.length:=List.length_set
 have hfl:=Zae ts h2
 refine El.y4_2 (cutL ts.flatten none (some 24)) a' b' ([some (.tup [.str kd,v]),some (.ref n),some (.int s),some (.str kd),some (.lst vs),none]) ?_ (Zi1 _)
 have hc:evE F (.comp Z0Z 5 (.val (.loc 4)) .nil) ⟨[some (.tup [.str kd,v]),some (.ref n),some (.int s),some (.str kd),some (.lst vs),none],τ⟩ = .ok (.lst (ts.map .str)) ⟨[some (.tup [.str kd,v]),some (.ref n),some (.int s),some (.str kd),some (.lst vs),none],τ.set n (stV a' b')++[.dead]⟩:=by
  rw [Z61,Zdd,Z1K]
  simp only [List.getElem?_cons_zero,List.getElem?_cons_succ,R.bind_ok,ZgZ,R.lift_some]
  rw [e,R.bind_ok]
  have hg:(τ.set n (stV a' b')++[O.lst ([]++ts.map .str)])[τ.length]? = some (.lst (ts.map .str)):=by rw [← hlen]; simp
  have hs:(τ.set n (stV a' b')++[O.lst ([]++ts.map .str)]).set τ.length .dead = τ.set n (stV a' b')++[.dead]:=by rw [← hlen]; simp
  simp only [hg,hs,List.set_cons_succ,List.set_cons_zero]
 have hj:=fun st=>Z8j (Zaf ts) (by unfold sizeLine; lia) st
 exact atS fun t=>t rfl hc (hj _) rfl rfl
theorem Zag (F:Fn) (K:Nat) (kd:List Nat) (v:V) (τ:List O) (n:Nat) (a b:Int) (hn:τ[n]? = some (stV a b)) :
  ∃ a₁ b₁ s,evSs F K d_sampleB ⟨[some (.tup [.str kd,v]),some (.ref n),none,none,none,none],τ⟩ = evSs F K (d_sampleB.drop 3) ⟨[some (.tup [.str kd,v]),some (.ref n),some (.int s),some (.str kd),none,none],τ.set n (stV a₁ b₁)⟩:=by
 refine El.y3_1 (Int.fmod (a * 48271 + 11) 2147483647) b (Int.fdiv (Int.fmod (a * 48271 + 11) 2147483647) 7) ?_
 have sm:(Z0v a || Z0v 48271) = true:=by rw [Z0S (i:=48271) (by lia) (by lia),Bool.or_true]
 have hm:=Z1N a 48271 sm
 have g0:Z0H τ (.ref n) (.int 0) = some (.int a):=by rw [Z3r hn,idx0]; rfl
 have w0:∀ ρ x,setI (.ref n) (.int 0) (.int x) ⟨ρ,τ⟩ = .ok .next ⟨ρ,τ.set n (stV x b)⟩:=fun ρ x=>by rw [Zh3 hn ⟨by lia,by show (0:Int) < ((1:Nat):Int); lia⟩]; rfl
 have g2:∀ x,Z0H (τ.set n (stV x b)) (.ref n) (.int 0) = some (.int x):=fun x=>by rw [Z3r (Zaa (o':=stV x b) hn),idx0]; rfl
 exact atP 3 fun t=>t g0 hm rfl (w0 _ _) (g2 _) rfl rfl rfl rfl
noncomputable def sEnd:Sms:=.cons (.ret (.slice (.me .join (.str "") (.comp Z0Z 5 (.val (.loc 4)) .nil)) .none (.some (.int 24)))) .nil
section
variable (F:Fn) (K:Nat) (n:Nat) (s:Int) (τ:List O)
theorem ZeF (ps:Pts):evSs F K (d_sampleB.drop 3) (S6 (some (.tup [.str (Str.ofString "row").cps.toList,.lst (encs ps)])) (some (.ref n)) (some (.int s)) (some (.str (Str.ofString "row").cps.toList)) none none τ) = evSs F K sEnd (S6 (some (.tup [.str (Str.ofString "row").cps.toList,.lst (encs ps)])) (some (.ref n)) (some (.int s)) (some (.str (Str.ofString "row").cps.toList)) (some (.lst (encs ps))) none τ):=by
 exact atP 6 fun t=>t Z2E rfl rfl Z2F rfl rfl Zeg Z4T Z5K
theorem ZgI (ps:Pts) (h0:0 < pLen ps) (h64:pLen ps ≤ 64):∃ v ∈ encs ps,evSs F K (d_sampleB.drop 3) (S6 (some (.tup [.str (Str.ofString "or").cps.toList,.lst (encs ps)])) (some (.ref n)) (some (.int s)) (some (.str (Str.ofString "or").cps.toList)) none none τ) = evSs F K sEnd (S6 (some (.tup [.str (Str.ofString "or").cps.toList,.lst (encs ps)])) (some (.ref n)) (some (.int s)) (some (.str (Str.ofString "or").cps.toList)) (some (.lst [v])) none τ):=by
 have hl:=Z1C ps
 obtain ⟨v,hv,hm⟩:=draw (gs:=encs ps) (fun e=>by rw [e] at hl; simp at hl; lia) (by lia) s
 refine ⟨v,hm,?_⟩
 have hz:(((encs ps).length:Nat):Int) ≠ 0:=by lia
 have m1:=Z7g s (((encs ps).length:Nat):Int) hz
 exact atP 6 fun t=>t Z3T rfl rfl Z6J Z6K rfl rfl rfl (nz hz) hv rfl Z5L Z7O
theorem ZaI (p:Pt):∃ vs:List V,(vs = [] ∨ vs = [enc p])∧evSs F K (d_sampleB.drop 3) (S6 (some (.tup [.str (Str.ofString "maybe").cps.toList,enc p])) (some (.ref n)) (some (.int s)) (some (.str (Str.ofString "maybe").cps.toList)) none none τ) = evSs F K sEnd (S6 (some (.tup [.str (Str.ofString "maybe").cps.toList,enc p])) (some (.ref n)) (some (.int s)) (some (.str (Str.ofString "maybe").cps.toList)) (some (.lst vs)) none τ):=by
 refine El.x1_2 (Z0c s 2 (by lia)) fun k hk hk2=>?_
 have hk':Int.fmod s 2 = (k:Int):=hk
 refine ⟨cutL [enc p] none (some (k:Int)),?_,?_⟩
 ·have:k = 0 ∨ k = 1:=by lia
  rcases this with rfl | rfl
  ·exact .inl rfl
  ·exact .inr rfl
 ·    exact atP 6 fun t=>t Z1A rfl rfl Z2l Z3h Z2G rfl (congrArg (fun i=>Z0E τ (.lst [enc p]) .none (.int i)) hk') rfl Z3G
theorem ZcS (p:Pt) (a b:Int) (hn:τ[n]? = some (stV a b)):∃ k:Nat,k < 6∧evSs F K (d_sampleB.drop 3) (S6 (some (.tup [.str (Str.ofString "many").cps.toList,enc p])) (some (.ref n)) (some (.int s)) (some (.str (Str.ofString "many").cps.toList)) none none τ) = evSs F K sEnd (S6 (some (.tup [.str (Str.ofString "many").cps.toList,enc p])) (some (.ref n)) (some (.int s)) (some (.str (Str.ofString "many").cps.toList)) (some (.lst (List.replicate k [enc p]).flatten)) none τ):=by
 refine El.x1_2 (Z0c s 3 (by lia)) fun k hk hk2=>?_
 have mL:=Zfu [enc p] (k:Int) ⟨by lia,by lia,by rw [Int.toNat_natCast,List.length_singleton]; unfold sizeLine; lia⟩
 rw [Int.toNat_natCast] at mL
 refine ⟨k,by lia,?_⟩
 exact atP 6 fun t=>t Z23 rfl rfl Z3g Z4U Z3F Z4V rfl ((congrArg (fun i=>Z2n _ (.int i)) hk).trans mL) rfl
theorem ZeG (sg:List Nat) (h0:sg ≠ []) (hl:sg.length ≤ 100):∃ c,evSs F K (d_sampleB.drop 3) (S6 (some (.tup [.str (Str.ofString "one").cps.toList,.str sg])) (some (.ref n)) (some (.int s)) (some (.str (Str.ofString "one").cps.toList)) none none τ) = .ok (.ret (.str [c])) (S6 (some (.tup [.str (Str.ofString "one").cps.toList,.str sg])) (some (.ref n)) (some (.int s)) (some (.str (Str.ofString "one").cps.toList)) none none τ):=by
 refine El.x1_2 (draw (gs:=sg) h0 hl s) fun c hc _=>?_
 have hz:((sg.length:Nat):Int) ≠ 0:=by
  have:sg.length ≠ 0:=fun e=>h0 (List.length_eq_zero_iff.mp e)
  lia
 have m1:=Z7g s ((sg.length:Nat):Int) hz
 refine ⟨c,?_⟩
 exact atS fun t=>t Z2D rfl rfl rfl (nz hz) (Z7K hc) rfl
end
theorem Z42 (F:Fn) (K:Nat) (kd:List Nat) (v:V) (h:∀ (τ:List O) (n:Nat) (a b s:Int),Cl τ→τ[n]? = some (stV a b)→∃ vs:List V,vs.length ≤ 100∧(∀ v ∈ vs,Z74 F v)∧evSs F K (d_sampleB.drop 3) (S6 (some (.tup [.str kd,v])) (some (.ref n)) (some (.int s)) (some (.str kd)) none none τ) = evSs F K sEnd (S6 (some (.tup [.str kd,v])) (some (.ref n)) (some (.int s)) (some (.str kd)) (some (.lst vs)) none τ))
  (τ:List O) (n:Nat) (a b:Int) (hcl:Cl τ) (hn:τ[n]? = some (stV a b)):∃ (t:List Nat) (a' b':Int),Z07 F K Z2B [.tup [.str kd,v],.ref n] τ = .ok (.str t) ⟨[],τ.set n (stV a' b')⟩∧t.length ≤ 24:=by
 refine El.x3_1 (Zag F K kd v τ n a b hn) fun a₁ b₁ s e1=>?_
 have hn1:(τ.set n (stV a₁ b₁))[n]? = some (stV a₁ b₁):=Zaa hn
 have hcl1:=hcl.set n (Zad a₁ b₁)
 refine El.x1_3 (h _ n a₁ b₁ s hcl1 hn1) fun vs h1 h2 e2=>?_
 refine El.x4_2 (ZeE F K kd v s vs h1 h2 _ n a₁ b₁ hcl1 hn1) fun t a' b' ρ e3 ht=>?_
 refine El.y3_2 t a' b' ?_ ht
 rw [List.set_set] at e3
 refine Z9a (d:=Z2B) (τ:=[.dead]) (ρ:=ρ) rfl (List.length_set ..) ?_ (Z0b _) (hcl.set n (Zad _ _))
 exact e1.trans (e2.trans e3)
theorem Zah {F:Fn} {vs:List V} {ps:Pts} (h:PAll (fun p=>Z74 F (enc p)) ps) (hv:vs = encs ps):∀ v ∈ vs,Z74 F v:=fun v hm=>by
 subst hv
 refine El.x1_2 (Z3Z h hm) fun p q0z q=>?_
 obtain rfl:=q0z
 exact q
section
variable (C K:Nat) {H:Option (List Int) × Str→Int}
mutual
theorem Z43:∀ (p:Pt),Fine p→∀ n,ht p + 1 ≤ n→Z74 (Z08 (C,H) defs K n) (enc p)
 | .one s,hf,n,hn=>fun τ i a b hcl hτ=>by
  rw [Fine] at hf
  obtain ⟨m,rfl⟩:∃ m,n = m + 1:=⟨n - 1,by lia⟩
  rw [Z03 (by decide) Z2I,enc]
  refine El.x3_1 (Zag (Z08 (C,H) defs K m) K (Str.ofString "one").cps.toList (.str s) τ i a b hτ) fun a₁ b₁ s' e1=>?_
  obtain ⟨c,e2⟩:=ZeG (Z08 (C,H) defs K m) K i s' (τ.set i (stV a₁ b₁)) s hf.ne (by have:=hf.len; lia)
  refine El.y3_2 [c] a₁ b₁ ?_ (by simp)
  refine Z9a (d:=Z2B) (τ:=[]) (ρ:=[some (.tup [.str (Str.ofString "one").cps.toList,.str s]),some (.ref i),some (.int s'),some (.str (Str.ofString "one").cps.toList),none,none]) rfl (List.length_set ..) ?_ (Z0b _) (hcl.set i (Zad _ _))
  rw [List.append_nil]
  exact e1.trans e2
 | .row ps,hf,n,hn=>fun τ i a b hcl hτ=>by
  rw [Fine] at hf
  rw [ht] at hn
  obtain ⟨m,rfl⟩:∃ m,n = m + 1:=⟨n - 1,by lia⟩
  rw [Z03 (by decide) Z2I,enc]
  exact Z42 (Z08 (C,H) defs K m) K _ _ (fun τ n a b s _ _=>⟨encs ps,by rw [Z1C]; lia,Zah (Z5a ps hf.2 m (by lia)) rfl,ZeF _ K n s τ ps⟩) τ i a b hcl hτ
 | .or ps,hf,n,hn=>fun τ i a b hcl hτ=>by
  rw [Fine] at hf
  rw [ht] at hn
  obtain ⟨m,rfl⟩:∃ m,n = m + 1:=⟨n - 1,by lia⟩
  rw [Z03 (by decide) Z2I,enc]
  refine Z42 (Z08 (C,H) defs K m) K _ _ (fun τ n a b s _ _=>?_) τ i a b hcl hτ
  refine El.x1_2 (ZgI (Z08 (C,H) defs K m) K n s τ ps hf.2.1 hf.1) fun v hv e=>?_
  exact ⟨[v],by simp,fun w hw=>by rw [List.mem_singleton.mp hw]; exact Zah (Z5a ps hf.2.2 m (by lia)) rfl v hv,e⟩
 | .many p,hf,n,hn=>fun τ i a b hcl hτ=>by
  rw [Fine] at hf
  rw [ht] at hn
  obtain ⟨m,rfl⟩:∃ m,n = m + 1:=⟨n - 1,by lia⟩
  rw [Z03 (by decide) Z2I,enc]
  refine Z42 (Z08 (C,H) defs K m) K _ _ (fun τ n a b s _ hτ=>?_) τ i a b hcl hτ
  refine El.x1_2 (ZcS (Z08 (C,H) defs K m) K n s τ p a b hτ) fun k hk e=>?_
  have hone:=Z43 p hf m (by lia)
  refine ⟨_,?_,fun w hw=>?_,e⟩
  ·rw [List.length_flatten,List.map_replicate,List.sum_replicate_nat,List.length_singleton]; lia
  ·refine El.x1_2 (List.mem_flatten.mp hw) fun l hl hwl=>?_
   rw [List.eq_of_mem_replicate hl] at hwl
   rw [List.mem_singleton.mp hwl]
   exact hone
 | .maybe p,hf,n,hn=>fun τ i a b hcl hτ=>by
  rw [Fine] at hf
  rw [ht] at hn
  obtain ⟨m,rfl⟩:∃ m,n = m + 1:=⟨n - 1,by lia⟩
  rw [Z03 (by decide) Z2I,enc]
  refine Z42 (Z08 (C,H) defs K m) K _ _ (fun τ n a b s _ hτ=>?_) τ i a b hcl hτ
  refine El.x1_2 (ZaI (Z08 (C,H) defs K m) K n s τ p) fun vs hvs e=>?_
  have hone:=Z43 p hf m (by lia)
  refine ⟨vs,?_,fun w hw=>?_,e⟩
  ·rcases hvs with rfl | rfl <;> simp
  ·rcases hvs with rfl | rfl
   ·cases hw
   ·rw [List.mem_singleton.mp hw]; exact hone
theorem Z5a:∀ (ps:Pts),Z3K ps→∀ n,hts ps + 1 ≤ n→PAll (fun p=>Z74 (Z08 (C,H) defs K n) (enc p)) ps
 | .nil,_,n,_=>by rw [PAll]; trivial
 | .cons p ps,hf,n,hn=>by
  rw [Z3K] at hf
  rw [hts] at hn
  rw [PAll]
  exact ⟨Z43 p hf.1 n (by lia),Z5a ps hf.2 n (by lia)⟩
end
end
noncomputable def sV':Option (List Nat)→V
 | none=>.none
 | some l=>.tup (Z00 l)
noncomputable def keyN (so:Option (List Nat)) (c:Nat):Option (List Int) × Str:=(so.map fun l=>l.map fun n:Nat=>(n:Int),⟨#[c]⟩)
noncomputable def bV:Option (Nat × Nat)→V
 | none=>.none
 | some q=>.tup [.int (q.1:Int),.int (q.2:Int)]
theorem Z5S:∀ l:List Nat,Z0t (Z00 l) = some (l.map fun n:Nat=>(n:Int))
 | []=>rfl
 | n :: l=>by show (Z0t (Z00 l)).map ((n:Int) :: ·) = _; rw [Z5S l]; rfl
theorem Zfe (so:Option (List Nat)) (c:Nat):ZaS (.tup [sV' so,.str [c]]) = some (keyN so c):=by
 cases so with
 | none=>rfl
 | some l=>
  show ((Z0t (Z00 l)).map some).bind _ = _
  rw [Z5S]; rfl
theorem ZeH {so so':Option (List Nat)} {c c':Nat} (e:keyN so c = keyN so' c'):so = so'∧c = c':=by
 have inj:∀ a b:List Nat,(a.map fun n:Nat=>(n:Int)) = (b.map fun n:Nat=>(n:Int))→a = b:=fun a b h=>List.map_inj_right (fun x y h=>Int.ofNat.inj h) |>.mp h
 have e1:=congrArg Prod.fst e
 have e2:=congrArg (fun k:Option (List Int) × Str=>k.2.cps.toList) e
 refine ⟨?_,(List.cons.inj e2).1⟩
 cases so <;> cases so'
 ·rfl
 ·cases e1
 ·cases e1
 ·exact congrArg some (inj _ _ (Option.some.inj e1))
section
variable (T:List O) (o o':O) (r:List O)
theorem Z3I:(T++o :: r)[T.length]? = some o:=by simp
theorem Z8e:(T++o :: r).set T.length o' = T++o' :: r:=by simp
end
structure Known (ps:List Pt) (W:List (List Nat)) (fi:List Nat) (m:Nat) (es:List ((Option (List Int) × Str) × V)):Prop where
 len:es.length ≤ m
 ok:∀ p ∈ es,∃ l,p.2 = .tup (Z00 l)∧∀ so c,p.1 = keyN so c→(l.length ≤ 60∧∀ y ∈ l,y < W.length)∧Glu.Nxt ps fi c l so
section
variable {ps:List Pt} {W:List (List Nat)} {fi:List Nat} {em:Option Nat} {E:List (Nat × Nat)} {m:Nat} {es:List ((Option (List Int) × Str) × V)}
theorem Known.more (h:Known ps W fi m es) {so:Option (List Nat)} {c:Nat} {l:List Nat} (h1:l.length ≤ 60∧∀ y ∈ l,y < W.length) (h2:Glu.Nxt ps fi c l so):Known ps W fi (m + 1) (es++[(keyN so c,.tup (Z00 l))]) :=
 ⟨by rw [List.length_append]; exact Nat.succ_le_succ h.len,fun p hp=>by
  rcases List.mem_append.mp hp with q | q
  ·exact h.ok p q
  ·rw [List.mem_singleton.mp q]
   refine ⟨l,rfl,fun so' c' e=>?_⟩
   obtain ⟨rfl,rfl⟩:=ZeH e
   exact ⟨h1,h2⟩⟩
theorem Known.grow (h:Known ps W fi m es) {n:Nat} (hn:m ≤ n):Known ps W fi n es:=⟨Nat.le_trans h.len hn,h.ok⟩
end
structure StF (F:Fn) (C:Nat) (σ T:List O) (ps:List Pt) (W:List (List Nat)) (fi:List Nat) (E:List (Nat × Nat)):Prop where
 step:∀ X,Cl (T++X)→∀ so c,(∀ l,so = some l→∀ x ∈ l,x < W.length)→∃ l,F "step" [.inst C σ.length,sV' so,.str [c]] (T++X) = .ok (.tup (Z00 l)) ⟨[],T++X⟩∧(l.length ≤ 60∧∀ y ∈ l,y < W.length)∧Glu.Nxt ps fi c l so
 told:∀ X,Cl (T++X)→∀ xs:List Nat,xs.length ≤ 60→F "told_at" [.inst C σ.length,.tup (Z00 xs)] (T++X) = .ok (oV (Glu.minO (xs.filterMap (Glu.getE E)))) ⟨[],T++X⟩
theorem ZcT (F:Fn) (K C:Nat) (H:Option (List Int) × Str→Int) {σ T:List O} {ps:List Pt} {W:List (List Nat)} {fi:List Nat} {E:List (Nat × Nat)} (SF:StF F C σ T ps W fi E) (fo:O) (hcl:∀ es m,Known ps W fi m es→Cl (T++[.kdict H es,fo]))
  (t:List Nat) (b p c:Nat) (hp:t[p]? = some c) (hp2:p < 1000) (es:List ((Option (List Int) × Str) × V)) (m:Nat) (hk:Known ps W fi m es) (hm:m < 100000) (so:Option (List Nat)) (hso:∀ l,so = some l→∀ x ∈ l,x < W.length) (bs:Option (Nat × Nat)) (x6 x7 x8:Option V) :
  ∃ es' l,Known ps W fi (m + 1) es'∧(l.length ≤ 60∧∀ y ∈ l,y < W.length)∧Glu.Nxt ps fi c l so∧∃ y7 y8,
   evSs F K d_longest_atL0 (setV ⟨[some (.inst C σ.length),some (.ref T.length),some (.str t),some (.int b),some (bV bs),some (sV' so),x6,x7,x8],T++[.kdict H es,fo]⟩ 6 (.int (p:Int))) =
    if l.isEmpty then .ok (.ret (bV bs)) ⟨[some (.inst C σ.length),some (.ref T.length),some (.str t),some (.int b),some (bV bs),some (sV' (some l)),some (.int (p:Int)),y7,x8],T++[.kdict H es',fo]⟩
    else .ok .next ⟨[some (.inst C σ.length),some (.ref T.length),some (.str t),some (.int b),some (bV (Glu.upB (Glu.minO (l.filterMap (Glu.getE E))) p bs)),some (sV' (some l)),some (.int (p:Int)),y7,y8],T++[.kdict H es',fo]⟩:=by
 have hsub:Z0H (T++[.kdict H es,fo]) (.str t) (.int (p:Int)) = some (.str [c]):=Z7K (by rw [Z0y _ (by lia)]; exact hp)
 have hat:∀ es',(T++[.kdict H es',fo])[T.length]? = some (.kdict H es'):=fun es'=>Z3I ..
 have hkey:∀ es',Z5Z (T++[.kdict H es',fo]) T.length (.tup [sV' so,.str [c]]) = some ((es'.find? fun q=>q.1 = keyN so c).map (·.2)):=fun es'=>by unfold Z5Z; rw [Zfe,Option.bind_some,hat]; rfl
 have rest:∀ (es':List ((Option (List Int) × Str) × V)) (l:List Nat),Known ps W fi (m + 1) es'→l.length ≤ 60→(es'.find? fun q=>q.1 = keyN so c).map (·.2) = some (.tup (Z00 l)) →
   ∃ y8,evSs F K (d_longest_atL0.drop 2) ⟨[some (.inst C σ.length),some (.ref T.length),some (.str t),some (.int b),some (bV bs),some (sV' so),some (.int (p:Int)),some (.tup [sV' so,.str [c]]),x8],T++[.kdict H es',fo]⟩ =
    if l.isEmpty then .ok (.ret (bV bs)) ⟨[some (.inst C σ.length),some (.ref T.length),some (.str t),some (.int b),some (bV bs),some (sV' (some l)),some (.int (p:Int)),some (.tup [sV' so,.str [c]]),x8],T++[.kdict H es',fo]⟩
    else .ok .next ⟨[some (.inst C σ.length),some (.ref T.length),some (.str t),some (.int b),some (bV (Glu.upB (Glu.minO (l.filterMap (Glu.getE E))) p bs)),some (sV' (some l)),some (.int (p:Int)),some (.tup [sV' so,.str [c]]),y8],T++[.kdict H es',fo]⟩:=fun es' l hk' hl hf=>by
  have hs:Z0H (T++[.kdict H es',fo]) (.ref T.length) (.tup [sV' so,.str [c]]) = some (.tup (Z00 l)):=by
   show pick (lstO _) _ (pick (Z0P _) _ ((Z5Z _ _ _).bind id)) = _
   rw [hkey,hf,hat]; rfl
  have ht:=SF.told [.kdict H es',fo] (hcl es' _ hk') l hl
  refine ⟨some (oV (Glu.minO (l.filterMap (Glu.getE E)))),?_⟩
  cases hle:l.isEmpty with
  | true=>exact atS fun t=>t hs rfl (Z8X _ _) hle rfl
  | false=>
   generalize Glu.minO (l.filterMap (Glu.getE E)) = o at ht ⊢
   cases o with
   | none=>exact atS fun t=>t hs rfl (Z8X _ _) hle ht rfl rfl
   | some k=>exact atS fun t=>t hs rfl (Z8X _ _) hle ht rfl rfl rfl
 cases hf:(es.find? fun q=>q.1 = keyN so c) with
 | some q=>
  obtain ⟨l,e1,e2⟩:=hk.ok q (List.mem_of_find?_eq_some hf)
  have h3:=e2 so c (by simpa using List.find?_some hf)
  obtain ⟨y8,e⟩:=rest es l (hk.grow (Nat.le_succ _)) h3.1.1 (by rw [hf]; exact congrArg some e1)
  refine ⟨es,l,hk.grow (Nat.le_succ _),h3.1,h3.2,_,y8,Eq.trans ?_ e⟩
  have hin:inD (T++[.kdict H es,fo]) (.tup [sV' so,.str [c]]) (.ref T.length) = some true:=by
   show (Z5Z _ _ _).map Option.isSome = _
   rw [hkey,hf]; rfl
  exact atP 2 fun t=>t hsub rfl hin rfl
 | none=>
  obtain ⟨l,e1,h1,h2⟩:=SF.step [.kdict H es,fo] (hcl es m hk) so c hso
  obtain ⟨y8,e⟩:=rest (es++[(keyN so c,.tup (Z00 l))]) l (hk.more h1 h2) h1.1 (by rw [List.find?_append,hf,Option.none_or,List.find?_cons_of_pos (by simp)]; rfl)
  refine ⟨_,l,hk.more h1 h2,h1,h2,_,y8,Eq.trans ?_ e⟩
  have hin:inD (T++[.kdict H es,fo]) (.tup [sV' so,.str [c]]) (.ref T.length) = some false:=by
   show (Z5Z _ _ _).map Option.isSome = _
   rw [hkey,hf]; rfl
  have hset:∀ ρ,setI (.ref T.length) (.tup [sV' so,.str [c]]) (.tup (Z00 l)) ⟨ρ,T++[.kdict H es,fo]⟩ = .ok .next ⟨ρ,T++[.kdict H (es++[(keyN so c,.tup (Z00 l))]),fo]⟩:=fun ρ=>by
   show R.or (R.need (ZaS _) fun k=>R.need (Z7a _) _) _ = _
   rw [Z11 (Zfe so c),Z11 (congrArg Z7a (hat es)),hf,if_pos (by simp only [Option.isNone_none,Bool.and_true,decide_eq_true_eq]; have:=hk.len; unfold sizeLine; lia),Z8e]; rfl
  exact atP 2 fun t=>t hsub rfl hin rfl hsub e1 (hset _)
theorem ZeI {t:List Nat} {b p c:Nat} (hb:b ≤ p) (hp:t[p]? = some c):Glu.cutAt t b (p + 1) = Glu.cutAt t b p++[c]:=by
 have hlt:=(List.getElem?_eq_some_iff.mp hp).1
 rw [Glu.cutAt_app hb (Nat.le_succ p) hlt]
 congr 1
 have h1:=Glu.cutAt_length (t:=t) (Nat.le_succ p) hlt
 unfold Glu.cutAt at h1 ⊢
 rw [List.drop_eq_getElem_cons hlt,Nat.succ_sub (Nat.le_refl p),Nat.sub_self,List.take_succ_cons,List.take_zero]
 rw [List.getElem?_eq_getElem hlt] at hp
 rw [Option.some.inj hp]
theorem Z8f (F:Fn) (K C:Nat) (H:Option (List Int) × Str→Int) {σ T:List O} {ps:List Pt} {W:List (List Nat)} {fi:List Nat} {em:Option Nat} {E:List (Nat × Nat)} (L:Glu.Lvd ps W fi em E) (SF:StF F C σ T ps W fi E) (fo:O) (hcl:∀ es m,Known ps W fi m es→Cl (T++[.kdict H es,fo]))
  (t:List Nat) (b:Nat) (ht:t.length ≤ 500):∀ (n p:Nat),p + n = t.length→b ≤ p→∀ (es:List ((Option (List Int) × Str) × V)) (m:Nat),Known ps W fi m es→m + n < 100000→∀ (so:Option (List Nat)),(∀ l,so = some l→∀ x ∈ l,x < W.length)→Glu.Stt ps fi (Glu.cutAt t b p) so→∀ (bs:Option (Nat × Nat)),Glu.Best ps t b p bs→∀ (x6 x7 x8:Option V),
  ∃ es' bs',Known ps W fi (m + n) es'∧Glu.Best ps t b t.length bs'∧∃ fl ρ,(fl = .ret (bV bs') ∨ (fl = .next∧ρ[4]? = some (some (bV bs')))) ∧
   forR (fun x st=>evSs F K d_longest_atL0 (setV st 6 x)) ((List.range' p n).map fun j:Nat=>V.int (j:Int)) ⟨[some (.inst C σ.length),some (.ref T.length),some (.str t),some (.int b),some (bV bs),some (sV' so),x6,x7,x8],T++[.kdict H es,fo]⟩ = .ok fl ⟨ρ,T++[.kdict H es',fo]⟩
 | 0,p,hp,hb,es,m,hk,hm,so,hso,hS,bs,hB,x6,x7,x8=>⟨es,bs,hk,(show p = t.length from hp) ▸ hB,.next,_,.inr ⟨rfl,rfl⟩,by rw [List.range'_zero,List.map_nil,Z0r]⟩
 | n + 1,p,hp,hb,es,m,hk,hm,so,hso,hS,bs,hB,x6,x7,x8=>by
  obtain ⟨c,hc⟩:∃ c,t[p]? = some c:=⟨t[p],List.getElem?_eq_getElem (by lia)⟩
  obtain ⟨es1,l,hk1,hl,hN,y7,y8,e⟩:=ZcT F K C H SF fo hcl t b p c hc (by lia) es m hk (by lia) so hso bs x6 x7 x8
  have hS1:=Glu.stt_next hS hN
  rw [← ZeI hb hc] at hS1
  rw [List.range'_succ,List.map_cons,Z0e,e]
  cases hle:l.isEmpty with
  | true=>
   have h0:l = []:=List.isEmpty_iff.mp hle
   subst h0
   refine ⟨es1,bs,hk1.grow (by lia),Glu.Best.lost (p:=p) (by lia) (fun j h1 h2=>?_) hB,.ret (bV bs),_,.inl rfl,rfl⟩
   rw [Glu.cutAt_app (k:=p + 1) (by lia) h1 h2]
   exact Glu.stt_lost L _ hS1
  | false=>
   have hB1:=Glu.Best.grow1 hb (Glu.stt_told L hS1) hB
   obtain ⟨es2,bs2,hk2,hB2,fl,ρ,h1,h2⟩:=Z8f F K C H L SF fo hcl t b ht n (p + 1) (by lia) (by lia) es1 (m + 1) hk1 (by lia) (some l) (fun l' e=>Option.some.inj e ▸ hl.2) hS1 _ hB1 (some (.int (p:Int))) y7 y8
   exact ⟨es2,bs2,hk2.grow (by lia),hB2,fl,ρ,h1,h2⟩
theorem ZgJ {a b:Int} {st:St} (h:(Z0D a && Z0D b) = true):rng2 (.int a) (.int b) st = .ok (upTo a b) st:=by
 exact if_pos h
theorem Zai (b n:Nat) (h:b ≤ n):upTo (b:Int) (n:Int) = (List.range' b (n - b)).map fun j:Nat=>V.int (j:Int):=by
 unfold upTo
 rw [List.range'_eq_map_range,List.map_map,show ((n:Int) - (b:Int)).toNat = n - b by lia]
 exact List.map_congr_left fun k _=>rfl
theorem Z9b (F:Fn) (K C:Nat) (H:Option (List Int) × Str→Int) {σ T:List O} {ps:List Pt} {W:List (List Nat)} {fi:List Nat} {em:Option Nat} {E:List (Nat × Nat)} (L:Glu.Lvd ps W fi em E) (SF:StF F C σ T ps W fi E) (fo:O) (hcl:∀ es m,Known ps W fi m es→Cl (T++[.kdict H es,fo]))
  (t:List Nat) (b:Nat) (ht:t.length ≤ 500) (hb:b ≤ t.length) (es:List ((Option (List Int) × Str) × V)) (m:Nat) (hk:Known ps W fi m es) (hm:m < 50000) :
  ∃ es' bs,Known ps W fi (m + 500) es'∧Glu.Best ps t b t.length bs∧Z07 F K Z1c [.inst C σ.length,.ref T.length,.str t,.int b] (T++[.kdict H es,fo]) = .ok (bV bs) ⟨[],T++[.kdict H es',fo]⟩:=by
 obtain ⟨es',bs,hk',hB,fl,ρ,h1,h2⟩:=Z8f F K C H L SF fo hcl t b ht (t.length - b) b (by lia) (Nat.le_refl _) es m hk (by lia) none (fun l e=>by cases e) (by show Glu.cutAt t b b = []; unfold Glu.cutAt; rw [Nat.sub_self,List.take_zero]) none (Glu.Best.start t b) none none none
 rw [← Zai b t.length hb] at h2
 refine ⟨es',bs,hk'.grow (by lia),hB,?_⟩
 have hr:rng2 (.int (b:Int)) (.int (t.length:Int)) ⟨[some (.inst C σ.length),some (.ref T.length),some (.str t),some (.int b),some .none,some .none,none,none,none],T++[.kdict H es,fo]⟩ = .ok (upTo (b:Int) (t.length:Int)) ⟨[some (.inst C σ.length),some (.ref T.length),some (.str t),some (.int b),some .none,some .none,none,none,none],T++[.kdict H es,fo]⟩:=ZgJ (by rw [Z0i (show b < 2 ^ 31 by lia),Z0i (show t.length < 2 ^ 31 by lia)]; rfl)
 have hcl':=hcl es' _ hk'
 have hb4:(bV bs).lo 0 = true:=by
  cases bs with
  | none=>exact Z0X
  | some q=>show V.los 0 [_,_] = true; rw [Z02,Z02,Z0f,Z0f,Z09]; rfl
 have hlen:(T++[O.kdict H es',fo]).length = (T++[O.kdict H es,fo]).length:=by rw [List.length_append,List.length_append]; rfl
 have hrun:evSs F K Z2z ⟨[some (.inst C σ.length),some (.ref T.length),some (.str t),some (.int b),none,none,none,none,none],T++[.kdict H es,fo]⟩ = .ok (.ret (bV bs)) ⟨ρ,(T++[.kdict H es',fo])++[]⟩:=by
  rw [List.append_nil]
  rcases h1 with rfl | ⟨rfl,h4⟩
  ·exact atS fun t=>t rfl rfl rfl hr h2
  ·refine Eq.trans (atP 3 fun t=>t rfl rfl rfl hr h2) ?_
   exact one1 (by rw [Zb1,Z6z h4]; rfl)
 exact Z9a (d:=Z1c) rfl hlen hrun hb4 hcl'
noncomputable def nxtB (b:Nat):Option (Nat × Nat)→Option Nat × Nat
 | none=>(none,b + 1)
 | some q=>(some q.1,q.2)
noncomputable def pcV (q:Option Nat × Nat × Nat):V:=.tup [oV q.1,.int (q.2.1:Int),.int (q.2.2:Int)]
inductive Pcs (ps:List Pt) (t:List Nat):Nat→List (Option Nat × Nat × Nat)→Prop
 | done {b:Nat}:t.length ≤ b→Pcs ps t b []
 | more {b:Nat} {x:Option (Nat × Nat)} {l:List (Option Nat × Nat × Nat)}:b < t.length→Glu.Best ps t b t.length x→Pcs ps t (nxtB b x).2 l→Pcs ps t b (((nxtB b x).1,b,(nxtB b x).2) :: l)
theorem Pcs.unique {ps:List Pt} {t:List Nat}:∀ {b:Nat} {l l':List (Option Nat × Nat × Nat)},Pcs ps t b l→Pcs ps t b l'→l = l':=by
 intro b l l' h
 induction h generalizing l' with
 | done h1=>
  intro h'
  cases h' with
  | done=>rfl
  | more h2=>exact absurd h2 (by lia)
 | more h1 hx _ ih=>
  intro h'
  cases h' with
  | done h2=>exact absurd h1 (by lia)
  | more _ hy hl=>
   cases hx.unique hy
   rw [ih hl]
theorem Zff {ps:List Pt} {t:List Nat} {b:Nat} {x:Option (Nat × Nat)} (hb:b < t.length) (h:Glu.Best ps t b t.length x):b < (nxtB b x).2∧(nxtB b x).2 ≤ t.length:=by
 cases x with
 | none=>exact ⟨Nat.lt_succ_self _,hb⟩
 | some q=>exact h.1
theorem Z5T (F:Fn) (K C:Nat) (H:Option (List Int) × Str→Int) {σ T:List O} {ps:List Pt} {W:List (List Nat)} {fi:List Nat} (t:List Nat) (ht:t.length ≤ 99)
  (hlong:∀ (acc:List (Option Nat × Nat × Nat)) (es:List ((Option (List Int) × Str) × V)) (m b:Nat),Known ps W fi m es→m < 50000→b ≤ t.length→∃ es' bs,Known ps W fi (m + 500) es'∧Glu.Best ps t b t.length bs∧F "longest_at" [.inst C σ.length,.ref T.length,.str t,.int b] (T++[.kdict H es,.lst (acc.map pcV)]) = .ok (bV bs) ⟨[],T++[.kdict H es',.lst (acc.map pcV)]⟩) (x0:Option V) :
  ∀ (k b:Nat),t.length < b + k→b ≤ t.length→∀ (es:List ((Option (List Int) × Str) × V)),Known ps W fi (500 * b) es→∀ (acc:List (Option Nat × Nat × Nat)),acc.length ≤ b→∀ x6:Option V,
  ∃ l es' b' y6,Pcs ps t b l∧acc.length + l.length ≤ t.length∧Known ps W fi 50000 es'∧Z0U (fun st=>Z0a (evE F (.cmp .lt (.loc 5) (.bi .len (.loc 1))) st)) (fun st=>evSs F K Z4I st) k (S7 x0 (some (.str t)) (some (.inst C σ.length)) (some (.ref T.length)) (some (.ref (T.length + 1))) (some (.int (b:Int))) x6 (T++[.kdict H es,.lst (acc.map pcV)])) =
   .ok .next (S7 x0 (some (.str t)) (some (.inst C σ.length)) (some (.ref T.length)) (some (.ref (T.length + 1))) (some (.int (b':Int))) y6 (T++[.kdict H es',.lst ((acc++l).map pcV)]))
 | 0,b,hk,hb,_,_,_,_,_=>absurd hk (by lia)
 | k + 1,b,hk,hb,es,hK,acc,ha,x6=>by
  have htest:Z0a (evE F (.cmp .lt (.loc 5) (.bi .len (.loc 1))) (S7 x0 (some (.str t)) (some (.inst C σ.length)) (some (.ref T.length)) (some (.ref (T.length + 1))) (some (.int (b:Int))) x6 (T++[.kdict H es,.lst (acc.map pcV)]))) = .ok (decide (b < t.length)) (S7 x0 (some (.str t)) (some (.inst C σ.length)) (some (.ref T.length)) (some (.ref (T.length + 1))) (some (.int (b:Int))) x6 (T++[.kdict H es,.lst (acc.map pcV)])) :=
   atQ fun q=>okb (q rfl) (decide_eq_decide.mpr Int.ofNat_lt)
  rw [Z0G,htest,R.bind_ok]
  by_cases hlt:b < t.length
  ·rw [if_pos (decide_eq_true hlt)]
   obtain ⟨es1,bs,hK1,hB,e1⟩:=hlong acc es (500 * b) b hK (by lia) hb
   have hn:=Zff hlt hB
   obtain ⟨l,es2,b2,y6,hP,hlen,hK2,e2⟩:=Z5T F K C H t ht hlong x0 k (nxtB b bs).2 (by lia) hn.2 es1 (hK1.grow (by lia)) (acc++[((nxtB b bs).1,b,(nxtB b bs).2)]) (by rw [List.length_append]; exact Nat.le_trans (Nat.succ_le_succ ha) hn.1) (some (.tup [oV (nxtB b bs).1,.int ((nxtB b bs).2:Int)]))
   refine ⟨_,es2,b2,y6,.more hlt hB hP,by rw [List.length_append] at hlen; simp only [List.length_cons,List.length_nil] at hlen ⊢; lia,hK2,?_⟩
   have happ:∀ ρ,Z1H .append (.ref (T.length + 1)) (pcV ((nxtB b bs).1,b,(nxtB b bs).2)) ⟨ρ,T++[.kdict H es1,.lst (acc.map pcV)]⟩ = .ok .none ⟨ρ,T++[.kdict H es1,.lst ((acc++[((nxtB b bs).1,b,(nxtB b bs).2)]).map pcV)]⟩:=fun ρ=>by
    rw [Z89 (n:=T.length + 1) (xs:=acc.map pcV) (by simp) (by rw [List.length_map]; lia),List.map_append]
    have hs:∀ o:O,(T++[O.kdict H es1,O.lst (acc.map pcV)]).set (T.length + 1) o = T++[O.kdict H es1,o]:=fun o=>by simp
    rw [hs]; rfl
   have hrc:Z3q (T++[.kdict H es1,.lst (acc.map pcV)]) .append (.ref (T.length + 1)) = true:=Z0x _ _ (acc.map pcV) (by simp)
   have hbody:evSs F K Z4I (S7 x0 (some (.str t)) (some (.inst C σ.length)) (some (.ref T.length)) (some (.ref (T.length + 1))) (some (.int (b:Int))) x6 (T++[.kdict H es,.lst (acc.map pcV)])) = .ok .next (S7 x0 (some (.str t)) (some (.inst C σ.length)) (some (.ref T.length)) (some (.ref (T.length + 1))) (some (.int ((nxtB b bs).2:Int))) (some (.tup [oV (nxtB b bs).1,.int ((nxtB b bs).2:Int)])) (T++[.kdict H es1,.lst ((acc++[((nxtB b bs).1,b,(nxtB b bs).2)]).map pcV)])):=by
    cases bs with
    | none=>exact atS fun t=>t e1 rfl rfl rfl hrc rfl rfl (happ _) rfl rfl
    | some q=>exact atS fun t=>t e1 rfl rfl hrc rfl rfl (happ _) rfl rfl
   rw [hbody,R.bind_ok]
   rw [List.append_assoc] at e2
   exact e2
  ·rw [if_neg (by simpa using hlt)]
   refine ⟨[],es,b,x6,.done (by lia),by simpa using Nat.le_trans ha hb,hK.grow (by lia),?_⟩
   rw [List.append_nil]
theorem ZcU (F:Fn) (K C:Nat) (H:Option (List Int) × Str→Int) {σ T:List O} {ps:List Pt} {W:List (List Nat)} {fi:List Nat} (t:List Nat) (ht:t.length ≤ 99) (hK:100 ≤ K) (hT:σ.length ≤ T.length)
  (hlong:∀ (acc:List (Option Nat × Nat × Nat)) (es:List ((Option (List Int) × Str) × V)) (m b:Nat),Known ps W fi m es→m < 50000→b ≤ t.length→∃ es' bs,Known ps W fi (m + 500) es'∧Glu.Best ps t b t.length bs∧F "longest_at" [.inst C σ.length,.ref T.length,.str t,.int b] (T++[.kdict H es,.lst (acc.map pcV)]) = .ok (bV bs) ⟨[],T++[.kdict H es',.lst (acc.map pcV)]⟩)
  (hl:F "leaves_of" [.lst (ps.map enc)] σ = .ok (.inst C σ.length) ⟨[],T⟩) (hd:F Z0z [] T = .ok (.ref T.length) ⟨[],T++[.kdict H []]⟩) :
  ∃ l es,Pcs ps t 0 l∧l.length ≤ t.length∧Known ps W fi 50000 es∧Z07 F K Z6D [.lst (ps.map enc),.str t] σ = .ok (.ref (T.length + 1)) ⟨[],T++[.kdict H es,.lst (l.map pcV)]⟩:=by
 obtain ⟨l,es,b',y6,hP,hlen,hk,e⟩:=Z5T F K C H t ht hlong (some (.lst (ps.map enc))) K 0 (by lia) (Nat.zero_le _) [] ⟨Nat.zero_le _,fun p hp=>by cases hp⟩ [] (Nat.le_refl _) none
 refine ⟨l,es,hP,by simpa using hlen,hk,?_⟩
 have h1:(T++[O.kdict H []]).length = T.length + 1:=by simp
 have h2:(T++[O.kdict H []])++[O.lst []] = T++[O.kdict H [],O.lst []]:=by simp
 have hrun:evSs F K Z9T (S7 (some (.lst (ps.map enc))) (some (.str t)) none none none none none σ) = .ok (.ret (.ref (T.length + 1))) (S7 (some (.lst (ps.map enc))) (some (.str t)) (some (.inst C σ.length)) (some (.ref T.length)) (some (.ref (T.length + 1))) (some (.int (b':Int))) y6 (T++[.kdict H es,.lst (l.map pcV)])) :=
  atS fun q=>q hl rfl hd rfl h1 h2 rfl rfl e rfl
 exact Z0B (d:=Z6D) (args:=[.lst (ps.map enc),.str t]) (σ:=σ) (F:=F) (K:=K) (fl:=.ret (.ref (T.length + 1))) rfl hrun (.inr (.inl (by show V.lo σ.length (.ref (T.length + 1)) = false; rw [Z0R]; exact decide_eq_false (by lia))))
noncomputable def farN (b:Nat):Option (Nat × Nat)→Nat
 | none=>b
 | some q=>q.2
noncomputable def upE (k b e:Nat) (x:Option (Nat × Nat)):Option (Nat × Nat):=if farN b x < e then some (k,e) else x
noncomputable def Z5b (k b:Nat):List Nat→Option (Nat × Nat)→Option (Nat × Nat)
 | [],x=>x
 | e :: E,x=>Z5b k b E (upE k b e x)
noncomputable def foV (b:Nat) (x:Option (Nat × Nat)):V:=pcV ((nxtB b x).1,b,(nxtB b x).2)
theorem Z75 (k b:Nat):∀ (E:List Nat) (x:Option (Nat × Nat)),(Z5b k b E x = x∧∀ e ∈ E,e ≤ farN b x) ∨ ∃ e ∈ E,Z5b k b E x = some (k,e)∧farN b x < e∧∀ e' ∈ E,e' ≤ e
 | [],x=>.inl ⟨rfl,fun e h=>by cases h⟩
 | e :: E,x=>by
  show (Z5b k b E (upE k b e x) = x∧_) ∨ ∃ e' ∈ e :: E,Z5b k b E (upE k b e x) = some (k,e')∧_
  by_cases h:farN b x < e
  ·have hu:upE k b e x = some (k,e):=if_pos h
   rcases Z75 k b E (upE k b e x) with ⟨h1,h2⟩ | ⟨e2,h1,h2,h3,h4⟩
   ·rw [hu] at h1 h2 ⊢
    exact .inr ⟨e,by simp,h1,h,fun e' he'=>(List.mem_cons.mp he').elim (fun q=>Nat.le_of_eq q) (h2 e')⟩
   ·rw [hu] at h2 h3 ⊢
    exact .inr ⟨e2,by simp [h1],h2,Nat.lt_trans h h3,fun e' he'=>(List.mem_cons.mp he').elim (fun q=>q ▸ Nat.le_of_lt h3) (h4 e')⟩
  ·have hu:upE k b e x = x:=if_neg h
   rw [hu]
   rcases Z75 k b E x with ⟨h1,h2⟩ | ⟨e2,h1,h2,h3,h4⟩
   ·exact .inl ⟨h1,fun e' he'=>(List.mem_cons.mp he').elim (fun q=>q ▸ Nat.le_of_not_lt h) (h2 e')⟩
   ·exact .inr ⟨e2,by simp [h1],h2,h3,fun e' he'=>(List.mem_cons.mp he').elim (fun q=>q ▸ Nat.le_of_lt (Nat.lt_of_le_of_lt (Nat.le_of_not_lt h) h3)) (h4 e')⟩
noncomputable def TryI (ps:List Pt) (t:List Nat) (b k:Nat):Option (Nat × Nat)→Prop
 | none=>∀ j,j < k→∀ p,ps[j]? = some p→∀ e,b < e→e ≤ t.length→¬ p.lang (Glu.cutAt t b e)
 | some q=>(b < q.2∧q.2 ≤ t.length)∧(q.1 < k∧∃ p,ps[q.1]? = some p∧p.lang (Glu.cutAt t b q.2))∧(∀ j,j < q.1→∀ p,ps[j]? = some p→¬ p.lang (Glu.cutAt t b q.2))∧∀ j,j < k→∀ p,ps[j]? = some p→∀ e,q.2 < e→e ≤ t.length→¬ p.lang (Glu.cutAt t b e)
theorem TryI.far {ps:List Pt} {t:List Nat} {b k:Nat} {x:Option (Nat × Nat)} (h:TryI ps t b k x):∀ j,j < k→∀ p,ps[j]? = some p→∀ e,farN b x < e→e ≤ t.length→¬ p.lang (Glu.cutAt t b e):=by
 cases x with
 | none=>exact h
 | some q=>exact h.2.2.2
theorem TryI.next {ps:List Pt} {t:List Nat} {b k:Nat} {x:Option (Nat × Nat)} (h:TryI ps t b k x) {p:Pt} (hp:ps[k]? = some p) {E:List Nat} (hE:∀ j,j ∈ E↔Glu.Sl p.lang t b j) (hf:b ≤ farN b x):TryI ps t b (k + 1) (Z5b k b E x):=by
 have low:∀ j,j < k + 1→∀ q,ps[j]? = some q→(j < k∧ps[j]? = some q) ∨ q = p:=fun j hj q hq=>by
  rcases Nat.lt_or_ge j k with w | w
  ·exact .inl ⟨w,hq⟩
  ·have:j = k:=by lia
   rw [this,hp] at hq; exact .inr (Option.some.inj hq).symm
 rcases Z75 k b E x with ⟨h1,h2⟩ | ⟨e,h1,h2,h3,h4⟩
 ·rw [h1]
  have far:∀ j,j < k + 1→∀ q,ps[j]? = some q→∀ e,farN b x < e→e ≤ t.length→¬ q.lang (Glu.cutAt t b e):=fun j hj q hq e he hl hq'=>by
   rcases low j hj q hq with ⟨w,hq⟩ | rfl
   ·exact h.far j w q hq e he hl hq'
   ·exact absurd (h2 e ((hE e).mpr ⟨by lia,hl,hq'⟩)) (by lia)
  cases x with
  | none=>exact far
  | some q=>exact ⟨h.1,⟨Nat.lt_succ_of_lt h.2.1.1,h.2.1.2⟩,h.2.2.1,far⟩
 ·rw [h2]
  have hs:=(hE e).mp h1
  refine ⟨⟨by show b < e; lia,hs.2.1⟩,⟨Nat.lt_succ_self k,p,hp,hs.2.2⟩,fun j hj q hq=>h.far j hj q hq e h3 hs.2.1,fun j hj q hq e' he' hl hq'=>?_⟩
  rcases low j hj q hq with ⟨w,hq⟩ | rfl
  ·exact h.far j w q hq e' (Nat.lt_trans h3 he') hl hq'
  ·exact absurd (h4 e' ((hE e').mpr ⟨by have:e < e':=he'; lia,hl,hq'⟩)) (Nat.not_le.mpr he')
theorem TryI.best {ps:List Pt} {t:List Nat} {b:Nat} {x:Option (Nat × Nat)} (h:TryI ps t b ps.length x):Glu.Best ps t b t.length x:=by
 have lt:∀ {k:Nat} {p:Pt},ps[k]? = some p→k < ps.length:=fun e=>(List.getElem?_eq_some_iff.mp e).1
 cases x with
 | none=>exact fun j h1 h2 k p hp=>h k (lt hp) p hp j h1 h2
 | some q=>exact ⟨h.1,⟨h.2.1.2,h.2.2.1⟩,fun j h1 h2 k p hp=>h.2.2.2 k (lt hp) p hp j h1 h2⟩
theorem ZhH {ps:List Pt} {t:List Nat} {b k:Nat} {x:Option (Nat × Nat)} (h:TryI ps t b k x):b ≤ farN b x:=by
 cases x with
 | none=>exact Nat.le_refl _
 | some q=>exact Nat.le_of_lt h.1.1
theorem Zfg (F:Fn) (K:Nat) (b k:Nat) (x0 x1 x2:Option V) (S:List O):∀ (E:List Nat) (x:Option (Nat × Nat)) (x7:Option V),∃ y7,forR (fun v st=>evSs F K Z3d (setV st 7 v)) (Z00 E) (S8 x0 x1 x2 (some (.int (b:Int))) (some (foV b x)) (some (.int (farN b x:Int))) (some (.int (k:Int))) x7 S) = .ok .next (S8 x0 x1 x2 (some (.int (b:Int))) (some (foV b (Z5b k b E x))) (some (.int (farN b (Z5b k b E x):Int))) (some (.int (k:Int))) y7 S)
 | [],x,x7=>⟨x7,by rw [Z00,List.map_nil,Z0r]; rfl⟩
 | e :: E,x,x7=>by
  obtain ⟨y7,h⟩:=Zfg F K b k x0 x1 x2 S E (upE k b e x) (some (.int (e:Int)))
  refine ⟨y7,?_⟩
  have hb:evSs F K Z3d (setV (S8 x0 x1 x2 (some (.int (b:Int))) (some (foV b x)) (some (.int (farN b x:Int))) (some (.int (k:Int))) x7 S) 7 (.int (e:Int))) = .ok .next (S8 x0 x1 x2 (some (.int (b:Int))) (some (foV b (upE k b e x))) (some (.int (farN b (upE k b e x):Int))) (some (.int (k:Int))) (some (.int (e:Int))) S):=by
   by_cases hlt:farN b x < e
   ·rw [show upE k b e x = some (k,e) from if_pos hlt]
    exact atS fun t=>t (decide_eq_true (Int.ofNat_lt.mpr hlt)) rfl rfl
   ·rw [show upE k b e x = x from if_neg hlt]
    exact atS fun t=>t (decide_eq_false fun w=>hlt (Int.ofNat_lt.mp w))
  rw [Z00,List.map_cons]
  exact (ZhB hb).trans h
theorem ZaJ (n:Nat):upTo 0 n = (List.range' 0 n).map fun j:Nat=>V.int (j:Int):=(Zai 0 n (Nat.zero_le _))
theorem ZcV (F:Fn) (K:Nat) {ps:List Pt} (hl:ps.length ≤ 8) (t:List Nat) (b:Nat) (hE:∀ p ∈ ps,∃ E:List Nat,(∀ σ,Cl σ→F "_law_ends" [enc p,.str t,.lst [.int (b:Int)]] σ = .ok (.lst (Z00 E)) ⟨[],σ⟩)∧∀ j,j ∈ E↔Glu.Sl p.lang t b j) (x2:Option V) (S:List O) (hS:Cl S) :
  ∀ (n k:Nat),k + n = ps.length→∀ x:Option (Nat × Nat),TryI ps t b k x→∀ x6 x7:Option V,∃ y y6 y7,TryI ps t b ps.length y∧forR (fun v st=>evSs F K Z3e (setV st 6 v)) ((List.range' k n).map fun j:Nat=>V.int (j:Int)) (S8 (some (.lst (ps.map enc))) (some (.str t)) x2 (some (.int (b:Int))) (some (foV b x)) (some (.int (farN b x:Int))) x6 x7 S) =
   .ok .next (S8 (some (.lst (ps.map enc))) (some (.str t)) x2 (some (.int (b:Int))) (some (foV b y)) (some (.int (farN b y:Int))) y6 y7 S)
 | 0,k,hk,x,hx,x6,x7=>⟨x,x6,x7,(show k = ps.length from hk) ▸ hx,by rw [List.range'_zero,List.map_nil,Z0r]⟩
 | n + 1,k,hk,x,hx,x6,x7=>by
  obtain ⟨p,hp⟩:∃ p,ps[k]? = some p:=⟨ps[k],List.getElem?_eq_getElem (by lia)⟩
  obtain ⟨E,e1,e2⟩:=hE p (List.mem_of_getElem? hp)
  have g0:Z0n (ps.map enc) (k:Int) = some (enc p):=by rw [Z0y _ (by lia),List.getElem?_map,hp]; rfl
  obtain ⟨y7,e3⟩:=Zfg F K b k (some (.lst (ps.map enc))) (some (.str t)) x2 S E x x7
  obtain ⟨y,z6,z7,hy,e4⟩:=ZcV F K hl t b hE x2 S hS n (k + 1) (by lia) (Z5b k b E x) (hx.next hp e2 (ZhH hx)) (some (.int (k:Int))) y7
  refine ⟨y,z6,z7,hy,?_⟩
  have hb:evSs F K Z3e (setV (S8 (some (.lst (ps.map enc))) (some (.str t)) x2 (some (.int (b:Int))) (some (foV b x)) (some (.int (farN b x:Int))) x6 x7 S) 6 (.int (k:Int))) = .ok .next (S8 (some (.lst (ps.map enc))) (some (.str t)) x2 (some (.int (b:Int))) (some (foV b (Z5b k b E x))) (some (.int (farN b (Z5b k b E x):Int))) (some (.int (k:Int))) y7 S) :=
   atS fun q=>q ((Z1E _ _ _).trans g0) (e1 S hS) rfl e3
  rw [List.range'_succ,List.map_cons,Z0e,hb,R.bind_ok]
  exact e4
theorem ZhI (n:Nat) (q:Option Nat × Nat × Nat):(pcV q).lo n = true:=by
 unfold pcV
 rw [Z0s,Z02,Z02,Z02,Z0f,Z0f,Z09,Zhy]; rfl
theorem Z5c (n:Nat):∀ l:List (Option Nat × Nat × Nat),V.los n (l.map pcV) = true
 | []=>Z09
 | q :: l=>by rw [List.map_cons,Z02,ZhI,Z5c n l]; rfl
theorem Z5d (F:Fn) (K:Nat) {ps:List Pt} (hl:ps.length ≤ 8) (t:List Nat) (ht:t.length ≤ 99) (hE:∀ b,b ≤ t.length→∀ p ∈ ps,∃ E:List Nat,(∀ σ,Cl σ→F "_law_ends" [enc p,.str t,.lst [.int (b:Int)]] σ = .ok (.lst (Z00 E)) ⟨[],σ⟩)∧∀ j,j ∈ E↔Glu.Sl p.lang t b j) {σ:List O} (hσ:Cl σ) :
  ∀ (k b:Nat),t.length < b + k→b ≤ t.length→∀ (acc:List (Option Nat × Nat × Nat)),acc.length ≤ b→∀ x4 x5 x6 x7:Option V,
  ∃ l b' y4 y5 y6 y7,Pcs ps t b l∧Z0U (fun st=>Z0a (evE F (.cmp .lt (.loc 3) (.bi .len (.loc 1))) st)) (fun st=>evSs F K Z3f st) k (S8 (some (.lst (ps.map enc))) (some (.str t)) (some (.ref σ.length)) (some (.int (b:Int))) x4 x5 x6 x7 (σ++[.lst (acc.map pcV)])) =
   .ok .next (S8 (some (.lst (ps.map enc))) (some (.str t)) (some (.ref σ.length)) (some (.int (b':Int))) y4 y5 y6 y7 (σ++[.lst ((acc++l).map pcV)]))
 | 0,b,hk,hb,_,_,_,_,_,_=>absurd hk (by lia)
 | k + 1,b,hk,hb,acc,ha,x4,x5,x6,x7=>by
  have htest:Z0a (evE F (.cmp .lt (.loc 3) (.bi .len (.loc 1))) (S8 (some (.lst (ps.map enc))) (some (.str t)) (some (.ref σ.length)) (some (.int (b:Int))) x4 x5 x6 x7 (σ++[.lst (acc.map pcV)]))) = .ok (decide (b < t.length)) (S8 (some (.lst (ps.map enc))) (some (.str t)) (some (.ref σ.length)) (some (.int (b:Int))) x4 x5 x6 x7 (σ++[.lst (acc.map pcV)])) :=
   atQ fun q=>okb (q rfl) (decide_eq_decide.mpr Int.ofNat_lt)
  rw [Z0G,htest,R.bind_ok]
  by_cases hlt:b < t.length
  ·rw [if_pos (decide_eq_true hlt)]
   have hS:Cl (σ++[.lst (acc.map pcV)]):=hσ.snoc (Z5c 0 acc)
   obtain ⟨y,z6,z7,hy,e1⟩:=ZcV F K hl t b (hE b hb) (some (.ref σ.length)) _ hS ps.length 0 (by lia) none (fun j hj=>absurd hj (Nat.not_lt_zero _)) x6 x7
   rw [← ZaJ,← List.length_map (as:=ps) (f:=enc)] at e1
   have hn:=Zff hlt hy.best
   obtain ⟨l,b2,w4,w5,w6,w7,hP,e2⟩:=Z5d F K hl t ht hE hσ k (nxtB b y).2 (by lia) hn.2 (acc++[((nxtB b y).1,b,(nxtB b y).2)]) (by rw [List.length_append]; exact Nat.le_trans (Nat.succ_le_succ ha) hn.1) (some (foV b y)) (some (.int (farN b y:Int))) z6 z7
   refine ⟨_,b2,w4,w5,w6,w7,.more hlt hy.best hP,?_⟩
   have hsm:Z0D (Int.ofNat (ps.map enc).length) = true:=by rw [List.length_map]; exact Z0i (show ps.length < 2 ^ 31 by lia)
   have happ:∀ ρ,Z1H .append (.ref σ.length) (foV b y) ⟨ρ,σ++[.lst (acc.map pcV)]⟩ = .ok .none ⟨ρ,σ++[.lst ((acc++[((nxtB b y).1,b,(nxtB b y).2)]).map pcV)]⟩:=fun ρ=>by
    rw [Z89 (n:=σ.length) (xs:=acc.map pcV) (Z3I ..) (by rw [List.length_map]; lia),List.map_append,Z8e]; rfl
   have hrc:Z3q (σ++[.lst (acc.map pcV)]) .append (.ref σ.length) = true:=Z0x _ _ (acc.map pcV) (Z3I ..)
   have hbody:evSs F K Z3f (S8 (some (.lst (ps.map enc))) (some (.str t)) (some (.ref σ.length)) (some (.int (b:Int))) x4 x5 x6 x7 (σ++[.lst (acc.map pcV)])) = .ok .next (S8 (some (.lst (ps.map enc))) (some (.str t)) (some (.ref σ.length)) (some (.int ((nxtB b y).2:Int))) (some (foV b y)) (some (.int (farN b y:Int))) z6 z7 (σ++[.lst ((acc++[((nxtB b y).1,b,(nxtB b y).2)]).map pcV)])) :=
    atS fun q=>q rfl rfl rfl rfl hsm e1 hrc (happ _) rfl rfl
   rw [hbody,R.bind_ok]
   rw [List.append_assoc] at e2
   exact e2
  ·rw [if_neg (by simpa using hlt)]
   exact ⟨[],b,x4,x5,x6,x7,.done (by lia),by rw [List.append_nil]⟩
theorem ZaK (F:Fn) (K:Nat) (hK:100 ≤ K) {ps:List Pt} (hl:ps.length ≤ 8) (t:List Nat) (ht:t.length ≤ 99) (hE:∀ b,b ≤ t.length→∀ p ∈ ps,∃ E:List Nat,(∀ σ,Cl σ→F "_law_ends" [enc p,.str t,.lst [.int (b:Int)]] σ = .ok (.lst (Z00 E)) ⟨[],σ⟩)∧∀ j,j ∈ E↔Glu.Sl p.lang t b j) {σ:List O} (hσ:Cl σ) :
  ∃ l,Pcs ps t 0 l∧Z07 F K Z6I [.lst (ps.map enc),.str t] σ = .ok (.lst (l.map pcV)) ⟨[],σ⟩:=by
 obtain ⟨l,b',y4,y5,y6,y7,hP,e⟩:=Z5d F K hl t ht hE hσ K 0 (by lia) (Nat.zero_le _) [] (Nat.le_refl _) none none none none
 refine ⟨l,hP,Z0w rfl ?_ (by rw [Z0p]; exact Z5c _ _) hσ⟩
 show Ret (evSs F K Z7N (S8 (some (.lst (ps.map enc))) (some (.str t)) none none none none none none σ)) _ _
 refine Ret.mk (ρ:=[some (.lst (ps.map enc)),some (.str t),some (.lst (l.map pcV)),some (.int (b':Int)),y4,y5,y6,y7]) (τ:=[.dead]) ?_
 exact atS fun q=>q rfl rfl rfl rfl e (Z3I ..) (Z8e ..) rfl
noncomputable def ZgK (F:Fn):Prop:=∀ (o:Option Nat) (σ:List O),Cl σ→F "_law_same" [oV o,oV o] σ = .ok (.bool true) ⟨[],σ⟩
theorem ZeJ (l:List (Option Nat × Nat × Nat)):(((l.map pcV).zip (l.map pcV)).map fun p=>V.tup [p.1,p.2]) = l.map fun q=>V.tup [pcV q,pcV q]:=by
 induction l with
 | nil=>rfl
 | cons q l ih=>rw [List.map_cons,List.zip_cons_cons,List.map_cons,ih]; rfl
theorem Z5e (F:Fn) (K:Nat) (hs:ZgK F) (x0 x1:Option V) (S:List O) (hS:Cl S):∀ (l:List (Option Nat × Nat × Nat)) (x2 x3:Option V),∃ y2 y3,forR (fun v st=>(asT [2,3] v st).bind fun _ st=>evSs F K Z22 st) (l.map fun q=>V.tup [pcV q,pcV q]) ⟨[x0,x1,x2,x3],S⟩ = .ok .next ⟨[x0,x1,y2,y3],S⟩
 | [],x2,x3=>⟨x2,x3,by rw [List.map_nil,Z0r]⟩
 | q :: l,x2,x3=>by
  obtain ⟨y2,y3,e⟩:=Z5e F K hs x0 x1 S hS l (some (pcV q)) (some (pcV q))
  refine ⟨y2,y3,?_⟩
  have h0:=hs q.1 S hS
  have h1:F "_law_same" [.int (q.2.1:Int),.int (q.2.1:Int)] S = _:=hs (some q.2.1) S hS
  have h2:F "_law_same" [.int (q.2.2:Int),.int (q.2.2:Int)] S = _:=hs (some q.2.2) S hS
  have hb:evSs F K Z22 ⟨[x0,x1,some (pcV q),some (pcV q)],S⟩ = .ok .next ⟨[x0,x1,some (pcV q),some (pcV q)],S⟩ :=
   atS fun t=>t rfl rfl rfl rfl rfl rfl h0 rfl rfl rfl h1 rfl rfl rfl h2 rfl
  rw [List.map_cons,Z0e]
  rw [show asT [2,3] (.tup [pcV q,pcV q]) ⟨[x0,x1,x2,x3],S⟩ = .ok () ⟨[x0,x1,some (pcV q),some (pcV q)],S⟩ from rfl,R.bind_ok,hb,R.bind_ok]
  exact e
theorem Z5U (F:Fn) (K:Nat) (hs:ZgK F) (l:List (Option Nat × Nat × Nat)) (S:List O) (n:Nat) (hn:S[n]? = some (.lst (l.map pcV))) (hS:Cl S):Z07 F K Z6H [.ref n,.lst (l.map pcV)] S = .ok (.bool true) ⟨[],S⟩:=by
 have hlt:=(List.getElem?_eq_some_iff.mp hn).1
 have hS':Cl (S.set n .priv++[.priv]):=by
  have h1:Cl (S.set n .priv):=hS.set n fun k=>rfl
  unfold Cl at h1 ⊢
  rw [List.all_append]
  refine Bool.and_eq_true_iff.mpr ⟨?_,rfl⟩
  rw [List.all_eq_true] at h1 ⊢
  intro o ho
  exact O.lo_mono (by rw [List.length_append]; exact Nat.le_add_right _ _) (h1 o ho)
 obtain ⟨y2,y3,e⟩:=Z5e F K hs (some (.ref n)) (some (.lst (l.map pcV))) _ hS' l none none
 rw [← ZeJ] at e
 have hback:(S.set n .priv++[O.priv]).set n (.lst (l.map pcV)) = S++[.priv]:=by
  rw [List.set_append_left _ _ (by rw [List.length_set]; exact hlt),List.set_set,Z72 hn]
 refine Z0w rfl ?_ (Z0Y _) hS
 show Ret (evSs F K Z7M ⟨[some (.ref n),some (.lst (l.map pcV)),none,none],S⟩) _ _
 refine Ret.mk (ρ:=[some (.ref n),some (.lst (l.map pcV)),y2,y3]) (τ:=[.priv]) ?_
 have his:Zd5 S .list (.ref n) = some true:=by show (match S[n]? with | some (.lst _)=>some true | _=>none) = _; rw [hn]
 have hln:Z1n S .len (.ref n) = some (.int ((l.map pcV).length:Int)):=Zb5 S n _ hn
 have hz:Zd6 (fun v st=>(asT [2,3] v st).bind fun _ st=>evSs F K Z22 st) (.ref n) (.lst (l.map pcV)) ⟨[some (.ref n),some (.lst (l.map pcV)),none,none],S⟩ = .ok .next ⟨[some (.ref n),some (.lst (l.map pcV)),y2,y3],S++[.priv]⟩:=by
  show R.need (lstO S[n]?) _ = _
  rw [Z11 (congrArg lstO hn)]
  show (forR _ _ _).bind _ = _
  rw [e,R.bind_ok,hback]
 have hne:(!(((l.map pcV).length:Int) == ((l.map pcV).length:Int))) = false:=by rw [beq_self_eq_true]; rfl
 exact atS fun t=>t his rfl hln rfl hne hz rfl
theorem ZeK (F:Fn) (K:Nat) (hw:∀ (k:Nat) (σ:List O),Cl σ→F "_law_whole" [.int (k:Int)] σ = .ok (.bool true) ⟨[],σ⟩) (o:Option Nat) (σ:List O) (hσ:Cl σ):Z07 F K Zce [oV o,oV o] σ = .ok (.bool true) ⟨[],σ⟩:=by
 refine Z0w (r:=.bool true) rfl ?_ (Z0Y _) hσ
 show Ret (evSs F K Zcd ⟨[some (oV o),some (oV o)],σ⟩) _ _
 refine Ret.mk0 (ρ:=[some (oV o),some (oV o)]) ?_
 cases o with
 | none=>exact atS fun t=>t rfl rfl
 | some k=>exact atS fun t=>t rfl (hw k σ hσ) rfl (congrArg V.bool (beq_self_eq_true (k:Int)))
theorem ZcW (F:Fn) (K:Nat) (k:Nat) (σ:List O) (hσ:Cl σ):Z07 F K Z8N [.int (k:Int)] σ = .ok (.bool true) ⟨[],σ⟩:=by
 refine Z0w (r:=.bool true) rfl ?_ (Z0Y _) hσ
 show Ret (evSs F K Z9U ⟨[some (.int (k:Int))],σ⟩) _ _
 refine Ret.mk0 (ρ:=[some (.int (k:Int))]) ?_
 exact atS fun t=>t rfl rfl rfl rfl
theorem Z9c (F:Fn) (K:Nat) (is:List Int) (k:Nat) (hk:k < 100) (σ:List O) (hσ:Cl σ):Z07 F K Z4J [scV is,.int (k:Int)] σ = .ok (.int (is.getD k 0)) ⟨[],σ⟩:=by
 refine Z0w (r:=.int (is.getD k 0)) rfl ?_ (Z0f _) hσ
 show Ret (evSs F K Z5G ⟨[some (.lst (is.map .int)),some (.int (k:Int))],σ⟩) _ _
 refine Ret.mk0 (ρ:=[some (.lst (is.map .int)),some (.int (k:Int))]) ?_
 have hsub:k < is.length→Z0n (is.map V.int) (k:Int) = some (.int (is.getD k 0)):=fun h=>by rw [Z0y _ (by lia),List.getElem?_map,List.getElem?_eq_getElem h,List.getD_eq_getElem?_getD,List.getElem?_eq_getElem h]; rfl
 by_cases h:k < is.length
 ·exact atS fun t=>t rfl (decide_eq_true (by rw [List.length_map]; exact Int.ofNat_lt.mpr h)) ((Z1E _ _ _).trans (hsub h)) rfl
 ·exact atS fun t=>t rfl (decide_eq_false (by rw [List.length_map]; exact fun w=>h (Int.ofNat_lt.mp w))) (by rw [List.getD_eq_getElem?_getD,List.getElem?_eq_none (by lia)]; rfl)
mutual
theorem Z76:∀ p:Pt,∃ d,(enc p).depth? = some d∧d ≤ 2 * ht p + 2
 | .one s=>⟨1,by rw [enc,Z1q,Z0o,Z0o,Z0K,Z1Y,Z1Y]; rfl,by lia⟩
 | .row ps=>by
  refine El.x1_2 (Z77 ps) fun d h1 h2=>?_
  refine ⟨d + 2,?_,by rw [ht]; lia⟩
  rw [enc,Z1q,Z0o,Z0o,Z0K,Z1Y,Z62,h1]
  simp
 | .or ps=>by
  refine El.x1_2 (Z77 ps) fun d h1 h2=>?_
  refine ⟨d + 2,?_,by rw [ht]; lia⟩
  rw [enc,Z1q,Z0o,Z0o,Z0K,Z1Y,Z62,h1]
  simp
 | .many p=>by
  refine El.x1_2 (Z76 p) fun d h1 h2=>?_
  refine ⟨d + 1,?_,by rw [ht]; lia⟩
  rw [enc,Z1q,Z0o,Z0o,Z0K,Z1Y,h1]
  simp
 | .maybe p=>by
  refine El.x1_2 (Z76 p) fun d h1 h2=>?_
  refine ⟨d + 1,?_,by rw [ht]; lia⟩
  rw [enc,Z1q,Z0o,Z0o,Z0K,Z1Y,h1]
  simp
theorem Z77:∀ ps:Pts,∃ d,V.depths? (encs ps) = some d∧d ≤ 2 * hts ps + 2
 | .nil=>⟨0,by rw [encs,Z0K],by lia⟩
 | .cons p ps=>by
  refine El.x1_2 (Z76 p) fun d h1 h2=>?_
  refine El.x1_2 (Z77 ps) fun e h3 h4=>?_
  exact ⟨max d e,by rw [encs,Z0o,h1,h3]; rfl,by rw [hts]; lia⟩
end
theorem Zaj:∀ (ps:List Pt),(∀ p ∈ ps,ht p ≤ 14)→∃ d,V.depths? (ps.map enc) = some d∧d ≤ 30
 | [],_=>⟨0,Z0K,by lia⟩
 | p :: ps,h=>by
  refine El.x1_2 (Z76 p) fun d h1 h2=>?_
  refine El.x1_2 (Zaj ps fun q hq=>h q (by simp [hq])) fun e h3 h4=>?_
  have:=h p (by simp)
  exact ⟨max d e,by rw [List.map_cons,Z0o,h1,h3]; rfl,by lia⟩
theorem Zi2 (σ:List O) (ps:List Pt) (h:∀ p ∈ ps,ht p ≤ 14):Z10 σ .eq (.lst (ps.map enc)) (.lst (ps.map enc)) = some true:=by
 refine El.x1_2 (Zaj ps h) fun d h1 h2=>?_
 have hf:(V.lst (ps.map enc)).flat64 = true:=by
  unfold V.flat64
  rw [Z62,h1]
  exact decide_eq_true (show d + 1 ≤ 64 by lia)
 rw [Zh0 _ _ _ hf hf,V.eqb_refl _ (by rw [Z0p]; exact Z2m ps)]
theorem ZaL {L:List Nat} {z:Nat} (h:Lets L z):∃ gs,Grps gs∧V.lst (Z04 L z) = sV gs:=by
 refine ⟨(List.range 5).map fun k=>word L z k,⟨by simp,fun g hg=>?_,by simp⟩,by unfold sV Z04; rw [List.map_map]; rfl⟩
 refine El.x1_2 (List.mem_map.mp hg) fun k hk q0z=>?_
 obtain rfl:=q0z
 have hl:=Z0V (List.mem_range.mp hk) h.len
 have h1:=h.z1
 have h2:=h.z19
 exact ⟨fun e=>by rw [e] at hl; simp at hl; lia,by lia⟩
theorem ZcX {L:List Nat} {z:Nat} (h:Lets L z) (i:Int):∃ w:List Nat,Z0n (Z04 L z) (Int.fmod i 5) = some (.str w)∧w.length ≤ 19:=by
 have h5:(Z04 L z).length = 5:=by unfold Z04; rw [List.length_map,List.length_range]
 obtain ⟨g,hg,hm⟩:=draw (gs:=Z04 L z) (fun e=>by rw [e] at h5; cases h5) (by lia) i
 rw [h5] at hg
 obtain ⟨k,hk,rfl⟩:=List.mem_map.mp hm
 exact ⟨_,hg,by rw [Z0V (List.mem_range.mp hk) h.len]; exact h.z19⟩
theorem Zak {ps:List Pt} (hp:PsOk ps) (i:Int):∃ p ∈ ps,Z0n (ps.map enc) (Int.fmod i ((ps.map enc).length:Nat)) = some (enc p):=by
 have:=hp.few
 obtain ⟨v,hv,hvm⟩:=draw (gs:=ps.map enc) (fun e=>hp.ne (List.map_eq_nil_iff.mp e)) (by rw [List.length_map]; lia) i
 obtain ⟨p,hpm,rfl⟩:=List.mem_map.mp hvm
 exact ⟨p,hpm,hv⟩
theorem ZcY {ps:List Pt} (hp:PsOk ps):((ps.map enc).length:Int) ≠ 0:=by
 have:ps.length ≠ 0:=fun e=>hp.ne (List.length_eq_zero_iff.mp e)
 rw [List.length_map]; lia
theorem ZhJ {σ:List O} (hσ:Cl σ) (a b:Int):Cl (σ++[stV a b]):=hσ.snoc (by rw [Z02,Z0f,Z09]; rfl)
theorem Z3o (F:Fn) (K:Nat) {ps:List Pt} (hp:PsOk ps) (hs:∀ p ∈ ps,Z74 F (enc p)) {L:List Nat} {z:Nat} (hL:Lets L z) {σ:List O} (hσ:Cl σ) (x0 x5:Option V):∀ (xs:List V) (t:List Nat) (a b:Int) (x6:Option V),t.length + 43 * xs.length ≤ 1000 →
  ∃ t' a' b' y6,t'.length ≤ t.length + 43 * xs.length∧forR (fun v st=>evSs F K Z2C (setV st 6 v)) xs (S7 x0 (some (.lst (ps.map enc))) (some (.lst (Z04 L z))) (some (.str t)) (some (.ref σ.length)) x5 x6 (σ++[stV a b])) =
   .ok .next (S7 x0 (some (.lst (ps.map enc))) (some (.lst (Z04 L z))) (some (.str t')) (some (.ref σ.length)) x5 y6 (σ++[stV a' b']))
 | [],t,a,b,x6,h=>⟨t,a,b,x6,Nat.le_add_right _ _,Z0r ..⟩
 | v :: xs,t,a,b,x6,h=>by
  rw [List.length_cons] at h
  have gt:∀ a b:Int,Z0H (σ++[stV a b]) (.ref σ.length) (.int 0) = some (.int a):=fun a b=>by rw [Z3r (Z3I σ (stV a b) []),idx0]; rfl
  obtain ⟨p,hpm,hv⟩:=Zak hp (Int.fdiv a 7)
  obtain ⟨s,a1,b1,e1,hs1⟩:=hs p hpm (σ++[stV a b]) σ.length a b (ZhJ hσ a b) (Z3I ..)
  rw [Z8e] at e1
  have ad1:=Z2W t s (by unfold sizeLine; lia)
  obtain ⟨w,hw,hw1⟩:=ZcX hL (Int.fdiv a1 400)
  have ad2:=Z2W (t++s) w (by rw [List.length_append]; unfold sizeLine; lia)
  cases hb:(Int.fmod (Int.fdiv a1 80) 4 == 1) with
  | false=>
   obtain ⟨t',a',b',y6,h1,h2⟩:=Z3o F K hp hs hL hσ x0 x5 xs (t++s) a1 b1 (some v) (by rw [List.length_append]; lia)
   refine ⟨t',a',b',y6,by rw [List.length_append] at h1; rw [List.length_cons]; lia,?_⟩
   have hbd:evSs F K Z2C (setV (S7 x0 (some (.lst (ps.map enc))) (some (.lst (Z04 L z))) (some (.str t)) (some (.ref σ.length)) x5 x6 (σ++[stV a b])) 6 v) = .ok .next (S7 x0 (some (.lst (ps.map enc))) (some (.lst (Z04 L z))) (some (.str (t++s))) (some (.ref σ.length)) x5 (some v) (σ++[stV a1 b1])) :=
    atS fun q=>q (gt a b) rfl rfl (nz (ZcY hp)) hv e1 ad1 rfl (gt a1 b1) rfl rfl hb
   rw [Z0e,hbd,R.bind_ok]
   exact h2
  | true=>
   obtain ⟨t',a',b',y6,h1,h2⟩:=Z3o F K hp hs hL hσ x0 x5 xs (t++s++w) a1 b1 (some v) (by rw [List.length_append,List.length_append]; lia)
   refine ⟨t',a',b',y6,by rw [List.length_append,List.length_append] at h1; rw [List.length_cons]; lia,?_⟩
   have hbd:evSs F K Z2C (setV (S7 x0 (some (.lst (ps.map enc))) (some (.lst (Z04 L z))) (some (.str t)) (some (.ref σ.length)) x5 x6 (σ++[stV a b])) 6 v) = .ok .next (S7 x0 (some (.lst (ps.map enc))) (some (.lst (Z04 L z))) (some (.str (t++s++w))) (some (.ref σ.length)) x5 (some v) (σ++[stV a1 b1])) :=
    atS fun q=>q (gt a b) rfl rfl (nz (ZcY hp)) hv e1 ad1 rfl (gt a1 b1) rfl rfl hb (gt a1 b1) rfl rfl hw ad2 rfl
   rw [Z0e,hbd,R.bind_ok]
   exact h2
theorem Zal (l:List Nat) (k:Nat):(cutL l none (some (k:Int))).length ≤ k:=by
 unfold cutL
 simp only [Option.elim_none,Option.elim_some,List.drop_zero,Nat.sub_zero]
 have:clipAt l.length (k:Int) = min k l.length:=Z3W l.length k
 rw [this,List.length_take]
 lia
theorem ZcZ (F:Fn) (K:Nat) (is:List Int) (hcell:Z5l F is) (htext:Z96 F) {ps:List Pt} (hp:PsOk ps) (hs:∀ p ∈ ps,Z74 F (enc p)) {L:List Nat} {z:Nat} (hL:Lets L z) {σ:List O} (hσ:Cl σ) :
  ∃ t:List Nat,t.length ≤ 99∧Z07 F K Z8S [scV is,.lst (ps.map enc),.lst (Z04 L z)] σ = .ok (.str t) ⟨[],σ⟩:=by
 refine El.x1_2 (ZaL hL) fun gs hgs eg=>?_
 refine El.x1_2 (Z0c (is.getD 14 0) 10 (by lia)) fun m hm hm2=>?_
 have hm':Int.fmod (is.getD 14 0) 10 = (m:Int):=hm
 refine El.x1_3 (htext (is.getD 15 0) m gs (by lia) hgs) fun t ht1 ht2 ht3=>?_
 have t3:=ht3 σ hσ
 rw [← eg,← hm'] at t3
 have k14:F "_law_cell_at" [scV is,.int 14] σ = _:=hcell 14 σ (by lia) hσ
 have k15:F "_law_cell_at" [scV is,.int 15] σ = _:=hcell 15 σ (by lia) hσ
 have k16:F "_law_cell_at" [scV is,.int 16] σ = _:=hcell 16 σ (by lia) hσ
 have cl1:∀ a b,Cl (σ++[stV a b]):=fun a b=>ZhJ hσ a b
 have j14:∀ a b,F "_law_cell_at" [scV is,.int 14] (σ++[stV a b]) = _:=fun a b=>hcell 14 _ (by lia) (cl1 a b)
 have j17:∀ a b,F "_law_cell_at" [scV is,.int 17] (σ++[stV a b]) = _:=fun a b=>hcell 17 _ (by lia) (cl1 a b)
 have gt:∀ a b:Int,Z0H (σ++[stV a b]) (.ref σ.length) (.int 0) = some (.int a):=fun a b=>by rw [Z3r (Z3I σ (stV a b) []),idx0]; rfl
 have pre:evSs F K d_mixedB (S7 (some (scV is)) (some (.lst (ps.map enc))) (some (.lst (Z04 L z))) none none none none σ) = evSs F K (d_mixedB.drop 2) (S7 (some (scV is)) (some (.lst (ps.map enc))) (some (.lst (Z04 L z))) (some (.str t)) (some (.ref σ.length)) none none (σ++[stV (Int.fmod (is.getD 16 0) 2147483647) 0])) :=
  atP 2 fun q=>q k15 k14 rfl t3 rfl k16 rfl rfl rfl rfl
 cases hb:(Int.fmod (Int.fdiv (is.getD 14 0) 10) 8 == 1) with
 | true=>
  obtain ⟨p,hpm,hv⟩:=Zak hp (Int.fdiv (Int.fmod (is.getD 16 0) 2147483647) 7)
  obtain ⟨s,a1,b1,e1,hs1⟩:=hs p hpm (σ++[stV (Int.fmod (is.getD 16 0) 2147483647) 0]) σ.length _ 0 (cl1 _ _) (Z3I ..)
  rw [Z8e] at e1
  refine El.x1_2 (Z0c (is.getD 17 0) 70 (by lia)) fun k hk hk2=>?_
  have hk':Int.fmod (is.getD 17 0) 70 = (k:Int):=hk
  have hmul:Z2n (.str s) (.int 100) = some (.str (List.replicate 100 s).flatten):=if_pos ⟨by decide,by decide,by show s.length * 100 ≤ sizeLine; unfold sizeLine; lia⟩
  have hc:=Zal (List.replicate 100 s).flatten k
  have ad:=Z2W (cutL (List.replicate 100 s).flatten none (some (k:Int))) t (by unfold sizeLine; lia)
  refine ⟨cutL (List.replicate 100 s).flatten none (some (k:Int))++t,by rw [List.length_append]; lia,?_⟩
  refine Z0w rfl ?_ (Z0b _) hσ
  show Ret (evSs F K d_mixedB (S7 (some (scV is)) (some (.lst (ps.map enc))) (some (.lst (Z04 L z))) none none none none σ)) _ _
  refine Ret.mk (ρ:=[some (scV is),some (.lst (ps.map enc)),some (.lst (Z04 L z)),some (.str t),some (.ref σ.length),some (.str s),none]) (τ:=[stV a1 b1]) ?_
  refine pre.trans ?_
  rw [← hk'] at ad
  rw [← hk']
  exact atS fun q=>q (j14 _ _) rfl rfl hb (gt _ _) rfl rfl (nz (ZcY hp)) hv e1 rfl hmul (j17 _ _) rfl rfl ad rfl
 | false=>
  refine El.x1_2 (Z0c (is.getD 17 0) 4 (by lia)) fun k hk hk2=>?_
  have hk':Int.fmod (is.getD 17 0) 4 = (k:Int):=hk
  have hlen:(upTo 0 (k:Int)).length = k:=Z0C ..
  obtain ⟨t',a',b',y6,h1,h2⟩:=Z3o F K hp hs hL hσ (some (scV is)) none (upTo 0 (k:Int)) t (Int.fmod (is.getD 16 0) 2147483647) 0 none (by rw [hlen]; lia)
  refine ⟨cutL t' none (some ((80:Nat):Int)),Nat.le_trans (Zal t' 80) (by lia),?_⟩
  refine Z0w rfl ?_ (Z0b _) hσ
  show Ret (evSs F K d_mixedB (S7 (some (scV is)) (some (.lst (ps.map enc))) (some (.lst (Z04 L z))) none none none none σ)) _ _
  refine Ret.mk (ρ:=[some (scV is),some (.lst (ps.map enc)),some (.lst (Z04 L z)),some (.str t'),some (.ref σ.length),none,y6]) (τ:=[stV a' b']) ?_
  refine pre.trans ?_
  exact atS fun q=>q (j14 _ _) rfl rfl hb (j17 _ _) rfl hk' (Z0i (show k < 2 ^ 31 by lia)) h2 rfl rfl
theorem Z78 {n:Nat}:∀ {xs:List V},(∀ x ∈ xs,V.lo n x = true)→V.los n xs = true
 | [],_=>Z09
 | x :: xs,h=>by rw [Z02,h x (by simp),Z78 fun y hy=>h y (by simp [hy])]; rfl
theorem Zi3 (n:Nat) (k:Option (List Int) × Str):V.lo n (kV k) = true:=by
 unfold kV
 rw [Z0s,Z02,Z02,Z0b,Z09]
 obtain ⟨f,x⟩:=k
 cases f with
 | none=>show (V.lo n .none && _) = true; rw [Z0X]; rfl
 | some l=>
  show (V.lo n (.tup (l.map .int)) && _) = true
  rw [Z0s,Z78 fun x hx=>by obtain ⟨i,_,rfl⟩:=List.mem_map.mp hx; exact Z0f _]; rfl
theorem Zi4 {H:Option (List Int) × Str→Int} {ps:List Pt} {W:List (List Nat)} {fi:List Nat} {m:Nat} {es:List ((Option (List Int) × Str) × V)} (h:Known ps W fi m es) (n:Nat):O.lo n (.kdict H es) = true:=by
 show V.los n (es.map (fun y=>kV y.1)++es.map (·.2)) = true
 refine Z6R (Z78 fun x hx=>?_) (Z78 fun x hx=>?_)
 ·obtain ⟨p,_,rfl⟩:=List.mem_map.mp hx; exact Zi3 _ _
 ·obtain ⟨p,hp,rfl⟩:=List.mem_map.mp hx
  obtain ⟨l,e,_⟩:=h.ok p hp
  rw [e,Z0s]; exact Z1B _ _
theorem ZgL {T:List O} (hT:Cl T) {o:O} (ho:∀ n,O.lo n o = true):Cl (T++[o]):=by
 unfold Cl at hT ⊢
 rw [List.all_append]
 refine Bool.and_eq_true_iff.mpr ⟨?_,by rw [List.all_cons,ho]; rfl⟩
 rw [List.all_eq_true] at hT ⊢
 exact fun x hx=>O.lo_mono (by rw [List.length_append]; exact Nat.le_add_right _ _) (hT x hx)
theorem ZeL {H:Option (List Int) × Str→Int} {T:List O} (hT:Cl T) {ps:List Pt} {W:List (List Nat)} {fi:List Nat} {m:Nat} {es:List ((Option (List Int) × Str) × V)} (h:Known ps W fi m es) {vs:List V} (hv:V.los 0 vs = true):Cl (T++[.kdict H es,.lst vs]):=by
 have:=(ZgL hT (Zi4 (H:=H) h)).snoc hv
 rwa [List.append_assoc] at this
section
variable (C K:Nat) {H:Option (List Int) × Str→Int}
theorem Z5V (is:List Int) (n:Nat):Z5l (Z08 (C,H) defs K (n + 1)) is:=fun k τ hk hτ=>by
 rw [Z03 (by decide) Zcm]
 exact Z9c _ _ is k hk τ hτ
theorem Zd0 (n:Nat):Z96 (Z08 (C,H) defs K (n + 1)):=fun cell m gs hm hgs=>by
 refine El.x1_3 (Z92 (Z08 (C,H) defs K n) K cell m hm gs hgs) fun t h1 h2 h3=>?_
 exact ⟨t,h1,h2,fun σ hσ=>by rw [Z03 (by decide) Zcp]; exact h3 σ hσ⟩
theorem Zfh {L:List Nat} {z:Nat} (hL:Lets L z) (n:Nat):ZgG (Z08 (C,H) defs K (n + 1)) L z:=fun m τ hτ=>by
 rw [Z03 (by decide) Zco]
 exact Z91 _ _ hL m τ hτ
theorem Zfi {L:List Nat} {z:Nat} (hL:Lets L z) (n:Nat) (hn:20 ≤ n):ZcM (Z08 (C,H) defs K n) (.lst (Z04 L z)) 12:=fun {Rm d held room} hd g cell=>by
 obtain ⟨m,rfl⟩:∃ m,n = m + 2:=⟨n - 2,by lia⟩
 have q22y:=ZcG (Z08 (C,H) defs K (m + 1)) K hL (Zfh (H:=H) C K hL m) g (fun p hp=>Z40 (H:=H) C K p (g.fine p hp).1 (m + 1) (by have:=(g.fine p hp).2; lia)) cell
 refine El.x2_2 q22y fun held' room' g' h=>?_
 exact ⟨held',room',g',fun τ i hτ hi=>by rw [Z03 (by decide) Zgt]; exact h τ i hτ hi⟩
theorem ZaM (is:List Int) {L:List Nat} {z:Nat} (hL:Lets L z) (n:Nat):∃ ps,PsOk ps∧∀ σ,Cl σ→Z08 (C,H) defs K (n + 30) "_law_patterns" [scV is,.lst (Z04 L z)] σ = .ok (.lst (ps.map enc)) ⟨[],σ⟩:=by
 have hg:ZcM (Z08 (C,H) defs K (n + 29)) (.lst (Z04 L z)) 12:=Zfi (H:=H) C K hL (n + 29) (by lia)
 have hw:∃ ps,PsOk ps∧∀ σ,Cl σ→Z08 (C,H) defs K (n + 29) "_law_words" [scV is] σ = .ok (.lst (ps.map enc)) ⟨[],σ⟩:=by
  have q27y:=ZcK (Z08 (C,H) defs K (n + 28)) K is (Z5V (H:=H) C K is _) (Zd0 (H:=H) C K _) fun cell=>by
   obtain ⟨gs,h1,h2⟩:=ZeB (Z08 (C,H) defs K (n + 27)) K (fun i τ hτ=>by rw [Z03 (by decide) Z7R]; exact Z51 _ _ i τ hτ) cell
   exact ⟨gs,h1,fun σ hσ=>by rw [Z03 (by decide) Zhv]; exact h2 σ hσ⟩
  refine El.x1_2 q27y fun ps h1 h2=>?_
  exact ⟨ps,h1,fun σ hσ=>by rw [Z03 (by decide) Zgu]; exact h2 σ hσ⟩
 have hlo:∃ ps,PsOk ps∧∀ σ,Cl σ→Z08 (C,H) defs K (n + 29) "_law_loops" [scV is,.lst (Z04 L z)] σ = .ok (.lst (ps.map enc)) ⟨[],σ⟩:=by
  refine El.x1_2 (ZcP (Z08 (C,H) defs K (n + 28)) K is (Z5V (H:=H) C K is _) (Zd0 (H:=H) C K _) hL (fun {Rm d held room} hd g=>Zfi (H:=H) C K hL (n + 28) (by lia) (Nat.le_trans hd (by lia)) g)) fun ps h1 h2=>?_
  exact ⟨ps,h1,fun σ hσ=>by rw [Z03 (by decide) Zgv]; exact h2 σ hσ⟩
 have hln:∃ ps,PsOk ps∧∀ σ,Cl σ→Z08 (C,H) defs K (n + 29) "_law_long" [scV is,.lst (Z04 L z)] σ = .ok (.lst (ps.map enc)) ⟨[],σ⟩:=by
  refine El.x1_2 (ZeD (Z08 (C,H) defs K (n + 28)) K is (Z5V (H:=H) C K is _) hL (Zfh (H:=H) C K hL _)) fun ps h1 h2=>?_
  exact ⟨ps,h1,fun σ hσ=>by rw [Z03 (by decide) Zhw]; exact h2 σ hσ⟩
 refine El.x1_2 (Z8c (Z08 (C,H) defs K (n + 29)) K is (Z5V (H:=H) C K is _) hL hg hw hlo hln) fun ps h1 h2=>?_
 exact ⟨ps,h1,fun σ hσ=>by rw [Z03 (by decide) ZaB]; exact h2 σ hσ⟩
theorem ZgM (n:Nat) (hK:100 ≤ K) {σ:List O} (hσ:Cl σ) (ps:List Pt) (t:List Nat) (ht99:t.length ≤ 99) (h0:ps ≠ []) (h8:ps.length ≤ 8) (h60:(Glu.allLeaves ps).length ≤ 60) (hf:∀ p ∈ ps,Fine p∧2 * ht p + 6 ≤ n) :
  ∃ l es T W fi,Cl T∧Pcs ps t 0 l∧l.length ≤ t.length∧Known ps W fi 50000 es∧Z08 (C,H) defs K n "tried" [.lst (ps.map enc),.str t] σ = .ok (.ref (T.length + 1)) ⟨[],T++[.kdict H es,.lst (l.map pcV)]⟩:=by
 obtain ⟨m,rfl⟩:∃ m,n = m + 6:=by
  cases ps with
  | nil=>exact absurd rfl h0
  | cons p ps=>exact ⟨n - 6,by have:=(hf p (by simp)).2; lia⟩
 obtain ⟨W,fi,em,E,e,L⟩:=Z6N (Z08 (C,H) defs K (m + 4)) K C (Z1U ..) σ ps h0 h8 (fun p hp=>Z3U (H:=H) C K p (hf p hp).1 (m + 4) (by have:=(hf p hp).2; lia)) h60 (ZhZ (H:=H) C K (m + 1) σ)
 have hT:Cl (TS σ ps W fi em E):=Zcs hσ ..
 have SF:StF (Z08 (C,H) defs K (m + 4)) C σ (TS σ ps W fi em E) ps W fi E:=⟨fun X hX so c hso=>by
   rw [Z03 (by decide) Zhu]
   cases so with
   | none=>exact Zct _ K C (Z1U ..) hσ L h60 hX c
   | some xs=>exact Zcu _ K C (Z1U ..) hσ L h60 hX c xs (hso xs rfl),fun X hX xs hxs=>by
   rw [Z03 (by decide) Zcl]; exact Zcv _ K C (Z1U ..) hσ hX xs hxs⟩
 obtain ⟨l,es,hP,hlen,hk,e2⟩:=ZcU (Z08 (C,H) defs K (m + 5)) K C H (σ:=σ) (T:=TS σ ps W fi em E) (ps:=ps) (W:=W) (fi:=fi) t ht99 hK (by show σ.length ≤ (LS _ _ _ _ _ _).length; rw [Z5M]; lia) (fun acc es mm b hk hm hb=>by
   rw [Z03 (by decide) Z7U]
   exact Z9b _ K C H L SF _ (fun es m h=>ZeL hT h (Z5c 0 acc)) t b (by lia) hb es mm hk hm) (by rw [Z03 (by decide) Z8V]; exact e) (by rw [Z3M]; simp only [if_neg (show Z0z ≠ Z0k by decide),if_true])
 exact ⟨l,es,_,W,fi,hT,hP,hlen,hk,by rw [Z03 (by decide) Zgw]; exact e2⟩
end
theorem law_pure (C:Nat) (H:Option (List Int) × Str→Int) (is:List Int) (hl:is.length ≤ 63):∃ K n st,n ≤ 500∧Z08 (C,H) defs K n "law" [.lst (is.map .int)] [] = .ok (.bool true) st:=by
 refine El.y3_2 110 (40 + 1) ⟨[],[]⟩ (by lia) ?_
 have cl0:Cl []:=rfl
 refine El.x2_2 (Z8Y (Z08 (C,H) defs 110 39) 110 (is.getD 0 0)) fun L z hL hlet=>?_
 have hlet':Z08 (C,H) defs 110 40 "_law_letters" [.int (is.getD 0 0)] [] = .ok (.lst (Z04 L z)) ⟨[],[]⟩:=by
  rw [Z03 (by decide) Zcn]
  exact hlet [] cl0 fun i τ hτ=>by rw [Z03 (by decide) Z7R]; exact Z51 _ _ i τ hτ
 refine El.x1_2 (ZaM (H:=H) C 110 is hL 10) fun ps hp hpr=>?_
 have hcell:=Z5V (H:=H) C 110 is 39
 obtain ⟨t,ht9,e1⟩:=ZcZ (Z08 (C,H) defs 110 39) 110 is (Z5V (H:=H) C 110 is 38) (Zd0 (H:=H) C 110 38) hp (fun p q=>Z43 (H:=H) C 110 p (hp.fine p q).1 39 (by have:=(hp.fine p q).2; lia)) hL cl0
 have e1':Z08 (C,H) defs 110 40 "_law_mixed" [scV is,.lst (ps.map enc),.lst (Z04 L z)] [] = .ok (.str t) ⟨[],[]⟩:=by rw [Z03 (by decide) Zgx]; exact e1
 have hf:∀ p ∈ ps,Fine p∧2 * ht p + 6 ≤ 40:=fun p q=>⟨(hp.fine p q).1,by have:=(hp.fine p q).2; lia⟩
 have tr:∀ {σ:List O},Cl σ→_:=fun {σ} hσ=>ZgM (H:=H) C 110 40 (by lia) hσ ps t ht9 hp.ne hp.few hp.sum hf
 obtain ⟨l,es,T,W,fi,hT,hP,hlen,hk,e2⟩:=tr cl0
 have hS1:Cl (T++[.kdict H es,.lst (l.map pcV)]):=ZeL hT hk (Z5c 0 l)
 have hends:∀ b,b ≤ t.length→∀ p ∈ ps,∃ E:List Nat,(∀ σ,Cl σ→Z08 (C,H) defs 110 39 "_law_ends" [enc p,.str t,.lst [.int (b:Int)]] σ = .ok (.lst (Z00 E)) ⟨[],σ⟩)∧∀ j,j ∈ E↔Glu.Sl p.lang t b j:=fun b hb p q=>by
  obtain ⟨E,h1,_,h3⟩:=Z3V (H:=H) C 110 t (by lia) (by lia) p 39 (by have:=(hp.fine p q).2; lia) [b] (by simp) (fun i hi=>by rw [List.mem_singleton.mp hi]; exact hb)
  exact ⟨E,h1,fun j=>(h3 j).trans (by simp)⟩
 have hsame:ZgK (Z08 (C,H) defs 110 39):=fun o σ hσ=>by
  rw [Z03 (by decide) Zhx]
  exact ZeK _ _ (fun k σ hσ=>by rw [Z03 (by decide) Zgs]; exact ZcW _ _ k σ hσ) o σ hσ
 obtain ⟨l',hP',e3⟩:=ZaK (Z08 (C,H) defs 110 39) 110 (by lia) hp.few t ht9 hends hS1
 obtain rfl:=hP'.unique hP
 have e3':Z08 (C,H) defs 110 40 "_law_trying" [.lst (ps.map enc),.str t] (T++[.kdict H es,.lst (l'.map pcV)]) = _:=(Z03 (by decide) Zeo _ _).trans e3
 have e4:Z08 (C,H) defs 110 40 "_law_pieces" [.ref (T.length + 1),.lst (l'.map pcV)] (T++[.kdict H es,.lst (l'.map pcV)]) = _:=(Z03 (by decide) Za0 _ _).trans (Z5U _ 110 hsame l' _ (T.length + 1) (by simp) hS1)
 have hS2:Cl (T++[.kdict H es,.lst (l'.map pcV++[.none])]):=ZeL hT hk (Z6R (Z5c 0 l') (by rw [Z02,Z0X,Z09]; rfl))
 have happ:∀ ρ,Z1H .append (.ref (T.length + 1)) .none ⟨ρ,T++[.kdict H es,.lst (l'.map pcV)]⟩ = .ok .none ⟨ρ,T++[.kdict H es,.lst (l'.map pcV++[.none])]⟩:=fun ρ=>by
  rw [Z89 (n:=T.length + 1) (xs:=l'.map pcV) (by simp) (by rw [List.length_map]; lia)]
  have hs:∀ o:O,(T++[O.kdict H es,O.lst (l'.map pcV)]).set (T.length + 1) o = T++[O.kdict H es,o]:=fun o=>by simp
  rw [hs]
 have hrc:Z3q (T++[.kdict H es,.lst (l'.map pcV)]) .append (.ref (T.length + 1)) = true:=Z0x _ _ (l'.map pcV) (by simp)
 obtain ⟨l2,es2,T2,W2,fi2,hT2,hP2,_,hk2,e5⟩:=tr hS2
 obtain rfl:=hP2.unique hP'
 have hS3:Cl (T2++[.kdict H es2,.lst (l2.map pcV)]):=ZeL hT2 hk2 (Z5c 0 l2)
 have e6:Z08 (C,H) defs 110 40 "_law_pieces" [.ref (T2.length + 1),.lst (l2.map pcV)] (T2++[.kdict H es2,.lst (l2.map pcV)]) = _:=(Z03 (by decide) Za0 _ _).trans (Z5U _ 110 hsame l2 _ (T2.length + 1) (by simp) hS3)
 have heq:=Zi2 (T2++[.kdict H es2,.lst (l2.map pcV)]) ps fun p q=>(hp.fine p q).2
 have k0:Z08 (C,H) defs 110 40 "_law_cell_at" [scV is,.int 0] [] = _:=hcell 0 [] (by lia) cl0
 rw [Z03 (by decide) ZhY]
 refine Z0w rfl ?_ (Z0Y _) cl0
 show Ret (evSs _ 110 Zfa (S6 (some (scV is)) none none none none none ([]))) _ _
 refine Ret.mk (ρ:=[some (scV is),some (.lst (Z04 L z)),some (.lst (ps.map enc)),some (.str t),some (.ref (T.length + 1)),some (.lst (l2.map pcV))]) (τ:=T2++[.kdict H es2,.lst (l2.map pcV)]) ?_
 rw [List.nil_append]
 exact atS fun q=>q k0 hlet' rfl (hpr [] cl0) rfl e1' rfl e2 rfl e3' rfl e4 rfl hrc (happ _) e5 e6 rfl (hpr _ hS3) heq rfl
end Mine
open PySem PySem.W PyProof.Rows
namespace Mine
noncomputable def qv:Program:=view PySem.Challenge.pw_uf030006_07 [1,2,3,5,6,7,8,9,10,11,12,13,14,15,17,18,20,21,22,23,24,25,26,27,28,29,30,31,32,33,34,35,36,37,38,39,40]
theorem ZeM (w:World) (os:OsState):(Z2g (PySem.W.Fast.tw6613529449190102663 (boot_heap w.params).objs.size ((boot_heap w.params).nsMap mainGlobals "__annotations__")) (PySem.W.Fast.tw10156331382660048174 (PySem.W.Fast.tw11892475500146522536 treeTable) PySem.Challenge.pw_uf030006_07 w) 3882 (Ze6 w.params os) (topStub PySem.Challenge.pw_uf030006_07)).map (fun s=>
   (staticsOk (importedModules PySem.Challenge.pw_uf030006_07.main.body) (boot_heap w.params) s.abs.heap && namesBound PySem.Challenge.pw_uf030006_07 s.abs.heap && gensDone s.abs && laidKept (boot_heap w.params) s.abs.heap,openSeen qv [] (importedModules PySem.Challenge.pw_uf030006_07.main.body) (fun s=>xlAt qv [] s && recOk (RowW.records PySem.Challenge.rw_uf030006_07.row.toRowW) s) true s.abs,Hook.obs Hook.none s.abs)) = some (true,openGood qv [],Hook.val Hook.none w):=by kernel_rfl
theorem left_qv:LeftO PySem.Challenge.pw_uf030006_07 qv [] (fun s=>xlAt qv [] s && recOk (RowW.records PySem.Challenge.rw_uf030006_07.row.toRowW) s) (Hook.obs Hook.none) (Hook.val Hook.none) 3882 :=
 ZbV (by rfl) (by rfl) (fun _=>rfl) fun w os=>by rw [ZbW]; exact ZeM w os
theorem ok_qv:Zg9 qv defs = true:=by decide +kernel
theorem eq_qv:eqOk qv defs:=by unfold eqOk; kernel_rfl
end Mine
theorem PySem.Challenge.cw_uf030006_07_holds : PySem.Challenge.rw_uf030006_07.Holds := by
  w_on
  refine holds_law (by decide +kernel) fun said => ?_
  refine holds_open (q := Mine.qv) (loose := []) (Xt := fun s => xlAt Mine.qv [] s && recOk (RowW.records PySem.Challenge.rw_uf030006_07.row.toRowW) s) (XP := XL Mine.qv []) (Yf := Hook.obs Hook.none) (Ya := Hook.val Hook.none) (YP := Hook.says Hook.none) (N := 3882) Mine.left_qv (Hook.of Hook.none) (Hook.keeps Hook.none) (fun s e => xl_of s (Bool.and_eq_true_iff.mp e).1) XL.keeps (by rfl) (by rfl) (by rfl) (fun s e => recFacts_of (Bool.and_eq_true_iff.mp e).2) (by rfl) (by first | assumption | decide +kernel) (by decide +kernel) ⟨rfl, rfl, rfl, rfl, rfl, by decide +kernel⟩ ?hw ?hc
  (case hw => w_witness2)
  exact Mine.law_walk Mine.defs Mine.ok_qv Mine.eq_qv rfl rfl Mine.law_pure rfl
