import PyProof.Rows.All
import PyProof.DictRoadsH
import PyProof.Rows.Many
import PyProof.Walks
import PyProof.WalksMore
import PyProof.Cells
import PyProof.Claim2
import PyProof.SliceMore
import PyProof.DictStraight
import PyProof.NsCount
import PyProof.ToksMono
import PyProof.PureInt
import PyProof.Rows.RuleB_floordiv
import PyProof.Rows.RuleB_pow
import PyProof.Rows.IntRules
import PyProof.Rows.StrRules
import PyProof.StrOps
import PyProof.Rows.Tup
import PyProof.ListIndexNeg
import PyProof.IsiPairs
import PyProof.IsiHeapPairs
import PyProof.IsiNone
import PyProof.Conv_int_bool
import PyProof.Truth
import PyProof.ListTruth
import PyProof.Rows.TupMore
import PyProof.Rows.StrFirst
import PyProof.StrCalls
import PyProof.StrCalls2
import PyProof.StrCalls3
import PyProof.Rows.StrJoin2
import PyProof.SliceStr2
import PyProof.SliceList
import PyProof.Rows.StrTemp
import PyProof.Rows.RuleC_int
import PyProof.P3Eq
import PyProof.NeData
import PyProof.Rows.SeqIn
import PyProof.Rows.StrInSeq3
import PyProof.Rows.TupSub
import PyProof.StrLawsFirst
import PyProof.DictRoads
import PyProof.Rows.SortKey
import PyProof.Rows.SortRuns
import PyProof.Rows.SortKeyStr
import PyProof.Rows.SortShellK
import PyProof.Rows.SetFrom
import KE.KDictSum
import PyProof.WalkInts
import PyProof.SeqI3
import PyProof.StrOps2
import PyProof.ListCopy
import PyProof.Rows.SeqMore
import PyProof.Conv_int
import PyProof.IsInstanceH
import PyProof.ListStr
import PyProof.ListMulAny
import PyProof.Rows.ListMulArg
import PyProof.DefCall
import PyProof.StrBlock
import PyProof.PvWalk
import PyProof.Rows.Exc
import PyProof.Boot
import PyProof.Rows.Nodes
import PyProof.Rows.PlainObj
import PyProof.StrWalks
import PyProof.RangeFor
import PyProof.Rows.GenSrcRange
import PyProof.ForAny
import PyProof.CompFree
import PyProof.Rows.TupAssign
import PyProof.WalksEnum
import PyProof.EnumMake
import PyProof.ListIndex
import PyProof.Rows.PlainNoArg
import PyProof.Rows.AttrNodeAny
import PyProof.DictWalks
import OpenK.KLine
import PyProof.TableCode
import Wide.All
import OpenK.AllK
import Wide.FinOn
import PySem.Challenge.RW_uf030006_01
set_option Elab.async false
set_option linter.all false
set_option autoImplicit false
set_option genSizeOfSpec false
set_option genSizeOf false
set_option genInjectivity false
set_option bootstrap.genMatcherCode false
set_option maxRecDepth 100000
set_option maxHeartbeats 8000000
namespace El
universe u1 u2 u3 u4 u5 u6 u7 u8 u9 u10
theorem x0_2  {P1 P2:Prop} {G:Prop} (h:P1∧P2) (k:P1→P2→G):G:=k h.1 h.2
theorem x0_3  {P1 P2 P3:Prop} {G:Prop} (h:P1∧P2∧P3) (k:P1→P2→P3→G):G:=k h.1 h.2.1 h.2.2
theorem x1_1 {α1:Sort u1} {P1:α1→Prop} {G:Prop} (h:∃ a1,P1 a1) (k:∀ a1,P1 a1→G):G:=h.elim fun a1 h=>k a1 h
theorem x1_2 {α1:Sort u1} {P1 P2:α1→Prop} {G:Prop} (h:∃ a1,P1 a1∧P2 a1) (k:∀ a1,P1 a1→P2 a1→G):G:=h.elim fun a1 h=>k a1 h.1 h.2
theorem x1_3 {α1:Sort u1} {P1 P2 P3:α1→Prop} {G:Prop} (h:∃ a1,P1 a1∧P2 a1∧P3 a1) (k:∀ a1,P1 a1→P2 a1→P3 a1→G):G:=h.elim fun a1 h=>k a1 h.1 h.2.1 h.2.2
theorem x1_4 {α1:Sort u1} {P1 P2 P3 P4:α1→Prop} {G:Prop} (h:∃ a1,P1 a1∧P2 a1∧P3 a1∧P4 a1) (k:∀ a1,P1 a1→P2 a1→P3 a1→P4 a1→G):G:=h.elim fun a1 h=>k a1 h.1 h.2.1 h.2.2.1 h.2.2.2
theorem x1_5 {α1:Sort u1} {P1 P2 P3 P4 P5:α1→Prop} {G:Prop} (h:∃ a1,P1 a1∧P2 a1∧P3 a1∧P4 a1∧P5 a1) (k:∀ a1,P1 a1→P2 a1→P3 a1→P4 a1→P5 a1→G):G:=h.elim fun a1 h=>k a1 h.1 h.2.1 h.2.2.1 h.2.2.2.1 h.2.2.2.2
theorem x2_1 {α1:Sort u1} {α2:Sort u2} {P1:α1→α2→Prop} {G:Prop} (h:∃ a1 a2,P1 a1 a2) (k:∀ a1 a2,P1 a1 a2→G):G:=h.elim fun a1 h=>h.elim fun a2 h=>k a1 a2 h
theorem x2_2 {α1:Sort u1} {α2:Sort u2} {P1 P2:α1→α2→Prop} {G:Prop} (h:∃ a1 a2,P1 a1 a2∧P2 a1 a2) (k:∀ a1 a2,P1 a1 a2→P2 a1 a2→G):G:=h.elim fun a1 h=>h.elim fun a2 h=>k a1 a2 h.1 h.2
theorem x2_3 {α1:Sort u1} {α2:Sort u2} {P1 P2 P3:α1→α2→Prop} {G:Prop} (h:∃ a1 a2,P1 a1 a2∧P2 a1 a2∧P3 a1 a2) (k:∀ a1 a2,P1 a1 a2→P2 a1 a2→P3 a1 a2→G):G:=h.elim fun a1 h=>h.elim fun a2 h=>k a1 a2 h.1 h.2.1 h.2.2
theorem x2_4 {α1:Sort u1} {α2:Sort u2} {P1 P2 P3 P4:α1→α2→Prop} {G:Prop} (h:∃ a1 a2,P1 a1 a2∧P2 a1 a2∧P3 a1 a2∧P4 a1 a2) (k:∀ a1 a2,P1 a1 a2→P2 a1 a2→P3 a1 a2→P4 a1 a2→G):G:=h.elim fun a1 h=>h.elim fun a2 h=>k a1 a2 h.1 h.2.1 h.2.2.1 h.2.2.2
theorem x2_5 {α1:Sort u1} {α2:Sort u2} {P1 P2 P3 P4 P5:α1→α2→Prop} {G:Prop} (h:∃ a1 a2,P1 a1 a2∧P2 a1 a2∧P3 a1 a2∧P4 a1 a2∧P5 a1 a2) (k:∀ a1 a2,P1 a1 a2→P2 a1 a2→P3 a1 a2→P4 a1 a2→P5 a1 a2→G):G:=h.elim fun a1 h=>h.elim fun a2 h=>k a1 a2 h.1 h.2.1 h.2.2.1 h.2.2.2.1 h.2.2.2.2
theorem x2_7 {α1:Sort u1} {α2:Sort u2} {P1 P2 P3 P4 P5 P6 P7:α1→α2→Prop} {G:Prop} (h:∃ a1 a2,P1 a1 a2∧P2 a1 a2∧P3 a1 a2∧P4 a1 a2∧P5 a1 a2∧P6 a1 a2∧P7 a1 a2) (k:∀ a1 a2,P1 a1 a2→P2 a1 a2→P3 a1 a2→P4 a1 a2→P5 a1 a2→P6 a1 a2→P7 a1 a2→G):G:=h.elim fun a1 h=>h.elim fun a2 h=>k a1 a2 h.1 h.2.1 h.2.2.1 h.2.2.2.1 h.2.2.2.2.1 h.2.2.2.2.2.1 h.2.2.2.2.2.2
theorem x3_2 {α1:Sort u1} {α2:Sort u2} {α3:Sort u3} {P1 P2:α1→α2→α3→Prop} {G:Prop} (h:∃ a1 a2 a3,P1 a1 a2 a3∧P2 a1 a2 a3) (k:∀ a1 a2 a3,P1 a1 a2 a3→P2 a1 a2 a3→G):G:=h.elim fun a1 h=>h.elim fun a2 h=>h.elim fun a3 h=>k a1 a2 a3 h.1 h.2
theorem x3_3 {α1:Sort u1} {α2:Sort u2} {α3:Sort u3} {P1 P2 P3:α1→α2→α3→Prop} {G:Prop} (h:∃ a1 a2 a3,P1 a1 a2 a3∧P2 a1 a2 a3∧P3 a1 a2 a3) (k:∀ a1 a2 a3,P1 a1 a2 a3→P2 a1 a2 a3→P3 a1 a2 a3→G):G:=h.elim fun a1 h=>h.elim fun a2 h=>h.elim fun a3 h=>k a1 a2 a3 h.1 h.2.1 h.2.2
theorem x3_4 {α1:Sort u1} {α2:Sort u2} {α3:Sort u3} {P1 P2 P3 P4:α1→α2→α3→Prop} {G:Prop} (h:∃ a1 a2 a3,P1 a1 a2 a3∧P2 a1 a2 a3∧P3 a1 a2 a3∧P4 a1 a2 a3) (k:∀ a1 a2 a3,P1 a1 a2 a3→P2 a1 a2 a3→P3 a1 a2 a3→P4 a1 a2 a3→G):G:=h.elim fun a1 h=>h.elim fun a2 h=>h.elim fun a3 h=>k a1 a2 a3 h.1 h.2.1 h.2.2.1 h.2.2.2
theorem x3_5 {α1:Sort u1} {α2:Sort u2} {α3:Sort u3} {P1 P2 P3 P4 P5:α1→α2→α3→Prop} {G:Prop} (h:∃ a1 a2 a3,P1 a1 a2 a3∧P2 a1 a2 a3∧P3 a1 a2 a3∧P4 a1 a2 a3∧P5 a1 a2 a3) (k:∀ a1 a2 a3,P1 a1 a2 a3→P2 a1 a2 a3→P3 a1 a2 a3→P4 a1 a2 a3→P5 a1 a2 a3→G):G:=h.elim fun a1 h=>h.elim fun a2 h=>h.elim fun a3 h=>k a1 a2 a3 h.1 h.2.1 h.2.2.1 h.2.2.2.1 h.2.2.2.2
theorem x3_7 {α1:Sort u1} {α2:Sort u2} {α3:Sort u3} {P1 P2 P3 P4 P5 P6 P7:α1→α2→α3→Prop} {G:Prop} (h:∃ a1 a2 a3,P1 a1 a2 a3∧P2 a1 a2 a3∧P3 a1 a2 a3∧P4 a1 a2 a3∧P5 a1 a2 a3∧P6 a1 a2 a3∧P7 a1 a2 a3) (k:∀ a1 a2 a3,P1 a1 a2 a3→P2 a1 a2 a3→P3 a1 a2 a3→P4 a1 a2 a3→P5 a1 a2 a3→P6 a1 a2 a3→P7 a1 a2 a3→G):G:=h.elim fun a1 h=>h.elim fun a2 h=>h.elim fun a3 h=>k a1 a2 a3 h.1 h.2.1 h.2.2.1 h.2.2.2.1 h.2.2.2.2.1 h.2.2.2.2.2.1 h.2.2.2.2.2.2
theorem x3_9 {α1:Sort u1} {α2:Sort u2} {α3:Sort u3} {P1 P2 P3 P4 P5 P6 P7 P8 P9:α1→α2→α3→Prop} {G:Prop} (h:∃ a1 a2 a3,P1 a1 a2 a3∧P2 a1 a2 a3∧P3 a1 a2 a3∧P4 a1 a2 a3∧P5 a1 a2 a3∧P6 a1 a2 a3∧P7 a1 a2 a3∧P8 a1 a2 a3∧P9 a1 a2 a3) (k:∀ a1 a2 a3,P1 a1 a2 a3→P2 a1 a2 a3→P3 a1 a2 a3→P4 a1 a2 a3→P5 a1 a2 a3→P6 a1 a2 a3→P7 a1 a2 a3→P8 a1 a2 a3→P9 a1 a2 a3→G):G:=h.elim fun a1 h=>h.elim fun a2 h=>h.elim fun a3 h=>k a1 a2 a3 h.1 h.2.1 h.2.2.1 h.2.2.2.1 h.2.2.2.2.1 h.2.2.2.2.2.1 h.2.2.2.2.2.2.1 h.2.2.2.2.2.2.2.1 h.2.2.2.2.2.2.2.2
theorem x4_2 {α1:Sort u1} {α2:Sort u2} {α3:Sort u3} {α4:Sort u4} {P1 P2:α1→α2→α3→α4→Prop} {G:Prop} (h:∃ a1 a2 a3 a4,P1 a1 a2 a3 a4∧P2 a1 a2 a3 a4) (k:∀ a1 a2 a3 a4,P1 a1 a2 a3 a4→P2 a1 a2 a3 a4→G):G:=h.elim fun a1 h=>h.elim fun a2 h=>h.elim fun a3 h=>h.elim fun a4 h=>k a1 a2 a3 a4 h.1 h.2
theorem x4_3 {α1:Sort u1} {α2:Sort u2} {α3:Sort u3} {α4:Sort u4} {P1 P2 P3:α1→α2→α3→α4→Prop} {G:Prop} (h:∃ a1 a2 a3 a4,P1 a1 a2 a3 a4∧P2 a1 a2 a3 a4∧P3 a1 a2 a3 a4) (k:∀ a1 a2 a3 a4,P1 a1 a2 a3 a4→P2 a1 a2 a3 a4→P3 a1 a2 a3 a4→G):G:=h.elim fun a1 h=>h.elim fun a2 h=>h.elim fun a3 h=>h.elim fun a4 h=>k a1 a2 a3 a4 h.1 h.2.1 h.2.2
theorem x4_7 {α1:Sort u1} {α2:Sort u2} {α3:Sort u3} {α4:Sort u4} {P1 P2 P3 P4 P5 P6 P7:α1→α2→α3→α4→Prop} {G:Prop} (h:∃ a1 a2 a3 a4,P1 a1 a2 a3 a4∧P2 a1 a2 a3 a4∧P3 a1 a2 a3 a4∧P4 a1 a2 a3 a4∧P5 a1 a2 a3 a4∧P6 a1 a2 a3 a4∧P7 a1 a2 a3 a4) (k:∀ a1 a2 a3 a4,P1 a1 a2 a3 a4→P2 a1 a2 a3 a4→P3 a1 a2 a3 a4→P4 a1 a2 a3 a4→P5 a1 a2 a3 a4→P6 a1 a2 a3 a4→P7 a1 a2 a3 a4→G):G:=h.elim fun a1 h=>h.elim fun a2 h=>h.elim fun a3 h=>h.elim fun a4 h=>k a1 a2 a3 a4 h.1 h.2.1 h.2.2.1 h.2.2.2.1 h.2.2.2.2.1 h.2.2.2.2.2.1 h.2.2.2.2.2.2
theorem x5_2 {α1:Sort u1} {α2:Sort u2} {α3:Sort u3} {α4:Sort u4} {α5:Sort u5} {P1 P2:α1→α2→α3→α4→α5→Prop} {G:Prop} (h:∃ a1 a2 a3 a4 a5,P1 a1 a2 a3 a4 a5∧P2 a1 a2 a3 a4 a5) (k:∀ a1 a2 a3 a4 a5,P1 a1 a2 a3 a4 a5→P2 a1 a2 a3 a4 a5→G):G:=h.elim fun a1 h=>h.elim fun a2 h=>h.elim fun a3 h=>h.elim fun a4 h=>h.elim fun a5 h=>k a1 a2 a3 a4 a5 h.1 h.2
theorem x5_4 {α1:Sort u1} {α2:Sort u2} {α3:Sort u3} {α4:Sort u4} {α5:Sort u5} {P1 P2 P3 P4:α1→α2→α3→α4→α5→Prop} {G:Prop} (h:∃ a1 a2 a3 a4 a5,P1 a1 a2 a3 a4 a5∧P2 a1 a2 a3 a4 a5∧P3 a1 a2 a3 a4 a5∧P4 a1 a2 a3 a4 a5) (k:∀ a1 a2 a3 a4 a5,P1 a1 a2 a3 a4 a5→P2 a1 a2 a3 a4 a5→P3 a1 a2 a3 a4 a5→P4 a1 a2 a3 a4 a5→G):G:=h.elim fun a1 h=>h.elim fun a2 h=>h.elim fun a3 h=>h.elim fun a4 h=>h.elim fun a5 h=>k a1 a2 a3 a4 a5 h.1 h.2.1 h.2.2.1 h.2.2.2
theorem x5_5 {α1:Sort u1} {α2:Sort u2} {α3:Sort u3} {α4:Sort u4} {α5:Sort u5} {P1 P2 P3 P4 P5:α1→α2→α3→α4→α5→Prop} {G:Prop} (h:∃ a1 a2 a3 a4 a5,P1 a1 a2 a3 a4 a5∧P2 a1 a2 a3 a4 a5∧P3 a1 a2 a3 a4 a5∧P4 a1 a2 a3 a4 a5∧P5 a1 a2 a3 a4 a5) (k:∀ a1 a2 a3 a4 a5,P1 a1 a2 a3 a4 a5→P2 a1 a2 a3 a4 a5→P3 a1 a2 a3 a4 a5→P4 a1 a2 a3 a4 a5→P5 a1 a2 a3 a4 a5→G):G:=h.elim fun a1 h=>h.elim fun a2 h=>h.elim fun a3 h=>h.elim fun a4 h=>h.elim fun a5 h=>k a1 a2 a3 a4 a5 h.1 h.2.1 h.2.2.1 h.2.2.2.1 h.2.2.2.2
theorem x8_2 {α1:Sort u1} {α2:Sort u2} {α3:Sort u3} {α4:Sort u4} {α5:Sort u5} {α6:Sort u6} {α7:Sort u7} {α8:Sort u8} {P1 P2:α1→α2→α3→α4→α5→α6→α7→α8→Prop} {G:Prop} (h:∃ a1 a2 a3 a4 a5 a6 a7 a8,P1 a1 a2 a3 a4 a5 a6 a7 a8∧P2 a1 a2 a3 a4 a5 a6 a7 a8) (k:∀ a1 a2 a3 a4 a5 a6 a7 a8,P1 a1 a2 a3 a4 a5 a6 a7 a8→P2 a1 a2 a3 a4 a5 a6 a7 a8→G):G:=h.elim fun a1 h=>h.elim fun a2 h=>h.elim fun a3 h=>h.elim fun a4 h=>h.elim fun a5 h=>h.elim fun a6 h=>h.elim fun a7 h=>h.elim fun a8 h=>k a1 a2 a3 a4 a5 a6 a7 a8 h.1 h.2
theorem x8_7 {α1:Sort u1} {α2:Sort u2} {α3:Sort u3} {α4:Sort u4} {α5:Sort u5} {α6:Sort u6} {α7:Sort u7} {α8:Sort u8} {P1 P2 P3 P4 P5 P6 P7:α1→α2→α3→α4→α5→α6→α7→α8→Prop} {G:Prop} (h:∃ a1 a2 a3 a4 a5 a6 a7 a8,P1 a1 a2 a3 a4 a5 a6 a7 a8∧P2 a1 a2 a3 a4 a5 a6 a7 a8∧P3 a1 a2 a3 a4 a5 a6 a7 a8∧P4 a1 a2 a3 a4 a5 a6 a7 a8∧P5 a1 a2 a3 a4 a5 a6 a7 a8∧P6 a1 a2 a3 a4 a5 a6 a7 a8∧P7 a1 a2 a3 a4 a5 a6 a7 a8) (k:∀ a1 a2 a3 a4 a5 a6 a7 a8,P1 a1 a2 a3 a4 a5 a6 a7 a8→P2 a1 a2 a3 a4 a5 a6 a7 a8→P3 a1 a2 a3 a4 a5 a6 a7 a8→P4 a1 a2 a3 a4 a5 a6 a7 a8→P5 a1 a2 a3 a4 a5 a6 a7 a8→P6 a1 a2 a3 a4 a5 a6 a7 a8→P7 a1 a2 a3 a4 a5 a6 a7 a8→G):G:=h.elim fun a1 h=>h.elim fun a2 h=>h.elim fun a3 h=>h.elim fun a4 h=>h.elim fun a5 h=>h.elim fun a6 h=>h.elim fun a7 h=>h.elim fun a8 h=>k a1 a2 a3 a4 a5 a6 a7 a8 h.1 h.2.1 h.2.2.1 h.2.2.2.1 h.2.2.2.2.1 h.2.2.2.2.2.1 h.2.2.2.2.2.2
theorem x9_9 {α1:Sort u1} {α2:Sort u2} {α3:Sort u3} {α4:Sort u4} {α5:Sort u5} {α6:Sort u6} {α7:Sort u7} {α8:Sort u8} {α9:Sort u9} {P1 P2 P3 P4 P5 P6 P7 P8 P9:α1→α2→α3→α4→α5→α6→α7→α8→α9→Prop} {G:Prop} (h:∃ a1 a2 a3 a4 a5 a6 a7 a8 a9,P1 a1 a2 a3 a4 a5 a6 a7 a8 a9∧P2 a1 a2 a3 a4 a5 a6 a7 a8 a9∧P3 a1 a2 a3 a4 a5 a6 a7 a8 a9∧P4 a1 a2 a3 a4 a5 a6 a7 a8 a9∧P5 a1 a2 a3 a4 a5 a6 a7 a8 a9∧P6 a1 a2 a3 a4 a5 a6 a7 a8 a9∧P7 a1 a2 a3 a4 a5 a6 a7 a8 a9∧P8 a1 a2 a3 a4 a5 a6 a7 a8 a9∧P9 a1 a2 a3 a4 a5 a6 a7 a8 a9) (k:∀ a1 a2 a3 a4 a5 a6 a7 a8 a9,P1 a1 a2 a3 a4 a5 a6 a7 a8 a9→P2 a1 a2 a3 a4 a5 a6 a7 a8 a9→P3 a1 a2 a3 a4 a5 a6 a7 a8 a9→P4 a1 a2 a3 a4 a5 a6 a7 a8 a9→P5 a1 a2 a3 a4 a5 a6 a7 a8 a9→P6 a1 a2 a3 a4 a5 a6 a7 a8 a9→P7 a1 a2 a3 a4 a5 a6 a7 a8 a9→P8 a1 a2 a3 a4 a5 a6 a7 a8 a9→P9 a1 a2 a3 a4 a5 a6 a7 a8 a9→G):G:=h.elim fun a1 h=>h.elim fun a2 h=>h.elim fun a3 h=>h.elim fun a4 h=>h.elim fun a5 h=>h.elim fun a6 h=>h.elim fun a7 h=>h.elim fun a8 h=>h.elim fun a9 h=>k a1 a2 a3 a4 a5 a6 a7 a8 a9 h.1 h.2.1 h.2.2.1 h.2.2.2.1 h.2.2.2.2.1 h.2.2.2.2.2.1 h.2.2.2.2.2.2.1 h.2.2.2.2.2.2.2.1 h.2.2.2.2.2.2.2.2
theorem x10_2 {α1:Sort u1} {α2:Sort u2} {α3:Sort u3} {α4:Sort u4} {α5:Sort u5} {α6:Sort u6} {α7:Sort u7} {α8:Sort u8} {α9:Sort u9} {α10:Sort u10} {P1 P2:α1→α2→α3→α4→α5→α6→α7→α8→α9→α10→Prop} {G:Prop} (h:∃ a1 a2 a3 a4 a5 a6 a7 a8 a9 a10,P1 a1 a2 a3 a4 a5 a6 a7 a8 a9 a10∧P2 a1 a2 a3 a4 a5 a6 a7 a8 a9 a10) (k:∀ a1 a2 a3 a4 a5 a6 a7 a8 a9 a10,P1 a1 a2 a3 a4 a5 a6 a7 a8 a9 a10→P2 a1 a2 a3 a4 a5 a6 a7 a8 a9 a10→G):G:=h.elim fun a1 h=>h.elim fun a2 h=>h.elim fun a3 h=>h.elim fun a4 h=>h.elim fun a5 h=>h.elim fun a6 h=>h.elim fun a7 h=>h.elim fun a8 h=>h.elim fun a9 h=>h.elim fun a10 h=>k a1 a2 a3 a4 a5 a6 a7 a8 a9 a10 h.1 h.2
theorem y3_2 {α1:Sort u1} {α2:Sort u2} {α3:Sort u3} {P1 P2:α1→α2→α3→Prop} (a1:α1) (a2:α2) (a3:α3) (h1:P1 a1 a2 a3) (h2:P2 a1 a2 a3):∃ a1 a2 a3,P1 a1 a2 a3∧P2 a1 a2 a3:=⟨a1,a2,a3,h1,h2⟩
theorem y3_4 {α1:Sort u1} {α2:Sort u2} {α3:Sort u3} {P1 P2 P3 P4:α1→α2→α3→Prop} (a1:α1) (a2:α2) (a3:α3) (h1:P1 a1 a2 a3) (h2:P2 a1 a2 a3) (h3:P3 a1 a2 a3) (h4:P4 a1 a2 a3):∃ a1 a2 a3,P1 a1 a2 a3∧P2 a1 a2 a3∧P3 a1 a2 a3∧P4 a1 a2 a3:=⟨a1,a2,a3,h1,h2,h3,h4⟩
theorem y4_2 {α1:Sort u1} {α2:Sort u2} {α3:Sort u3} {α4:Sort u4} {P1 P2:α1→α2→α3→α4→Prop} (a1:α1) (a2:α2) (a3:α3) (a4:α4) (h1:P1 a1 a2 a3 a4) (h2:P2 a1 a2 a3 a4):∃ a1 a2 a3 a4,P1 a1 a2 a3 a4∧P2 a1 a2 a3 a4:=⟨a1,a2,a3,a4,h1,h2⟩
theorem y5_2 {α1:Sort u1} {α2:Sort u2} {α3:Sort u3} {α4:Sort u4} {α5:Sort u5} {P1 P2:α1→α2→α3→α4→α5→Prop} (a1:α1) (a2:α2) (a3:α3) (a4:α4) (a5:α5) (h1:P1 a1 a2 a3 a4 a5) (h2:P2 a1 a2 a3 a4 a5):∃ a1 a2 a3 a4 a5,P1 a1 a2 a3 a4 a5∧P2 a1 a2 a3 a4 a5:=⟨a1,a2,a3,a4,a5,h1,h2⟩
theorem y8_2 {α1:Sort u1} {α2:Sort u2} {α3:Sort u3} {α4:Sort u4} {α5:Sort u5} {α6:Sort u6} {α7:Sort u7} {α8:Sort u8} {P1 P2:α1→α2→α3→α4→α5→α6→α7→α8→Prop} (a1:α1) (a2:α2) (a3:α3) (a4:α4) (a5:α5) (a6:α6) (a7:α7) (a8:α8) (h1:P1 a1 a2 a3 a4 a5 a6 a7 a8) (h2:P2 a1 a2 a3 a4 a5 a6 a7 a8):∃ a1 a2 a3 a4 a5 a6 a7 a8,P1 a1 a2 a3 a4 a5 a6 a7 a8∧P2 a1 a2 a3 a4 a5 a6 a7 a8:=⟨a1,a2,a3,a4,a5,a6,a7,a8,h1,h2⟩
end El
namespace Mine
open PySem PySem.Calls PyProof.Rows
theorem dec1 {n i:Nat} (h:i < n):n + 1 - (i + 1) < n + 1 - i:=by omega
theorem eqle {n i:Nat} (h:i ≤ n) (h':¬ i < n):i = n:=Nat.le_antisymm h (Nat.le_of_not_lt h')
inductive V where
 | none
 | bool (b:Bool)
 | int (i:Int)
 | str (s:List Nat)
 | tup (xs:List V)
 | lst (xs:List V)
 | ref (n:Nat)
 | inst (C n:Nat)
@[simp] theorem V.ref.injEq (a b:Nat):(V.ref a = V.ref b) = (a = b):=propext ⟨fun h=>by cases h; rfl,fun h=>h ▸ rfl⟩
inductive O where
 | lst (xs:List V)
 | idict (es:List (Int × V))
 | attrs (xs:List V)
 | dead
 | priv
noncomputable def O.live:O→Bool
 | .dead=>false
 | _=>true
structure St where
 ρ:List (Option V)
 σ:List O
inductive R (α:Type) where
 | ok (a:α) (st:St)
 | exc (x:Str) (st:St)
 | stuck
theorem R.ok.inj {α:Type} {a b:α} {s t:St} (h:R.ok a s = .ok b t):a = b∧s = t:=by cases h; exact ⟨rfl,rfl⟩
noncomputable def R.bind {α β:Type}:R α→(α→St→R β)→R β
 | .ok a st,f=>f a st
 | .exc x st,_=>.exc x st
 | .stuck,_=>.stuck
@[simp] theorem R.bind_ok {α β:Type} (a:α) (st:St) (f:α→St→R β):(R.ok a st).bind f = f a st:=by rw [R.bind]
@[simp] theorem R.bind_exc {α β:Type} (a:Str) (st:St) (f:α→St→R β):(R.exc a st).bind f = .exc a st:=by rw [R.bind]
@[simp] theorem R.bind_stuck {α β:Type} (f:α→St→R β):(R.stuck:R α).bind f = .stuck:=by rw [R.bind]
theorem R.bind_inv {α β:Type} {m:R α} {f:α→St→R β} {b:β} {st':St} (h:m.bind f = .ok b st'):∃ a st,m = .ok a st∧f a st = .ok b st':=by
 cases m with
 | ok a st=>exact ⟨a,st,rfl,h⟩
 | exc x st=>cases h
 | stuck=>cases h
noncomputable def R.lift {α:Type} (o:Option α) (st:St):R α:=match o with | some a=>.ok a st | none=>.stuck
@[simp] theorem R.lift_some {α:Type} (a:α) (st:St):R.lift (some a) st = .ok a st:=by rw [R.lift]
@[simp] theorem R.lift_none {α:Type} (st:St):R.lift (none:Option α) st = .stuck:=by rw [R.lift]
noncomputable def Z4V (o:Obj):Prop:=(∃ vs n,o.data = .seq vs n) ∨ o.data = .plain
noncomputable def Tr (σ:List O) (μ:List Addr) (b:Addr):Prop:=∃ (n:Nat) (o:O),σ[n]? = some o∧o.live = true∧μ[n]? = some b
mutual
inductive RepV (T:Addr→Prop) (μ:List Addr) (h:Heap):Value→V→Prop
 | none:RepV T μ h .none .none
 | bool (b):RepV T μ h (.bool b) (.bool b)
 | int (i t):RepV T μ h (.int i t) (.int i)
 | str (x t):PyData.strOk x = true→x.length ≤ sizeLine→RepV T μ h (.str x t) (.str x.cps.toList)
 | tup {a o vs n xs}:h.get? a = some o→o.cls = .type "tuple"→o.data = .seq vs n→vs.size ≤ sizeLine→¬ T a→RepVs T μ h vs.toList xs→RepV T μ h (.ref a) (.tup xs)
 | lst {a o vs n xs}:h.get? a = some o→o.cls = .type "list"→o.data = .seq vs n→vs.size ≤ sizeLine→¬ T a→RepVs T μ h vs.toList xs→RepV T μ h (.ref a) (.lst xs)
 | ref {n a}:μ[n]? = some a→RepV T μ h (.ref a) (.ref n)
 | inst {x dx C n}:h.get? x = some { cls:=.ref C,dict:=some dx,data:=.plain }→¬ T x→μ[n]? = some dx→RepV T μ h (.ref x) (.inst C n)
inductive RepVs (T:Addr→Prop) (μ:List Addr) (h:Heap):List Value→List V→Prop
 | nil:RepVs T μ h [] []
 | cons {v vs x xs}:RepV T μ h v x→RepVs T μ h vs xs→RepVs T μ h (v :: vs) (x :: xs)
end
noncomputable def OutV (T:Addr→Prop) (μ:List Addr) (h:Heap) (v:Value):V→Prop
 | .none=>v = .none
 | .bool b=>v = .bool b
 | .int i=>∃ t,v = .int i t
 | .str l=>∃ x t,v = .str x t∧x.cps.toList = l∧PyData.strOk x = true∧x.length ≤ sizeLine
 | .tup xs=>∃ a o vs n,v = .ref a∧h.get? a = some o∧o.cls = .type "tuple"∧o.data = .seq vs n∧vs.size ≤ sizeLine∧¬ T a∧RepVs T μ h vs.toList xs
 | .lst xs=>∃ a o vs n,v = .ref a∧h.get? a = some o∧o.cls = .type "list"∧o.data = .seq vs n∧vs.size ≤ sizeLine∧¬ T a∧RepVs T μ h vs.toList xs
 | .ref n=>∃ a,v = .ref a∧μ[n]? = some a
 | .inst C n=>∃ x dx,v = .ref x∧h.get? x = some { cls:=.ref C,dict:=some dx,data:=.plain }∧¬ T x∧μ[n]? = some dx
noncomputable def ZeB (T:Addr→Prop) (μ:List Addr) (h:Heap) (vs:List Value):List V→Prop
 | []=>vs = []
 | x :: xs=>∃ v us,vs = v :: us∧RepV T μ h v x∧RepVs T μ h us xs
section
variable {T:Addr→Prop} {μ:List Addr} {h:Heap} {v:Value} {x:V}
theorem RepV.out (r:RepV T μ h v x):OutV T μ h v x :=
 RepV.casesOn (motive_1:=fun v x _=>OutV T μ h v x) r rfl (fun _=>rfl) (fun _ t=>⟨t,rfl⟩) (fun x t a b=>⟨x,t,rfl,rfl,a,b⟩) (fun a b c d e f=>⟨_,_,_,_,rfl,a,b,c,d,e,f⟩) (fun a b c d e f=>⟨_,_,_,_,rfl,a,b,c,d,e,f⟩) (fun e=>⟨_,rfl,e⟩) (fun a b c=>⟨_,_,rfl,a,b,c⟩)
theorem RepVs.out {vs:List Value} {xs:List V} (r:RepVs T μ h vs xs):ZeB T μ h vs xs :=
 RepVs.casesOn (motive_2:=fun vs xs _=>ZeB T μ h vs xs) r rfl (fun a b=>⟨_,_,rfl,a,b⟩)
theorem RepV.refI {n:Nat} (r:RepV T μ h v (.ref n)):∃ a,v = .ref a∧μ[n]? = some a:=r.out
theorem RepV.refA {a:Addr} {n:Nat} (r:RepV T μ h (.ref a) (.ref n)):μ[n]? = some a:=let ⟨_,e,k⟩:=r.refI; Value.ref.inj e ▸ k
theorem RepV.tupI {xs:List V} (r:RepV T μ h v (.tup xs)):∃ a o vs n,v = .ref a∧h.get? a = some o∧o.cls = .type "tuple"∧o.data = .seq vs n∧vs.size ≤ sizeLine∧¬ T a∧RepVs T μ h vs.toList xs:=r.out
theorem RepV.lstI {xs:List V} (r:RepV T μ h v (.lst xs)):∃ a o vs n,v = .ref a∧h.get? a = some o∧o.cls = .type "list"∧o.data = .seq vs n∧vs.size ≤ sizeLine∧¬ T a∧RepVs T μ h vs.toList xs:=r.out
theorem RepV.instI {C n:Nat} (r:RepV T μ h v (.inst C n)):∃ x dx,v = .ref x∧h.get? x = some { cls:=.ref C,dict:=some dx,data:=.plain }∧¬ T x∧μ[n]? = some dx:=r.out
theorem RepVs.consI {vs:List Value} {xs:List V} (r:RepVs T μ h vs (x :: xs)):∃ v us,vs = v :: us∧RepV T μ h v x∧RepVs T μ h us xs:=r.out
end
section
variable {T T':Addr→Prop} {μ μ':List Addr} {h h':Heap}
theorem RepVs.ind {M:List Value→List V→Prop} (hn:M [] []) (hc:∀ {v vs x xs},RepV T μ h v x→RepVs T μ h vs xs→M vs xs→M (v :: vs) (x :: xs)) {vs:List Value} {xs:List V} (r:RepVs T μ h vs xs):M vs xs :=
 RepVs.rec (motive_1:=fun _ _ _=>True) (motive_2:=fun vs xs _=>M vs xs) trivial (fun _=>trivial) (fun _ _=>trivial) (fun _ _ _ _=>trivial) (fun _ _ _ _ _ _ _=>trivial) (fun _ _ _ _ _ _ _=>trivial) (fun _=>trivial) (fun _ _ _=>trivial) hn (fun a r _ ih=>hc a r ih) r
theorem RepVs.length {vs:List Value} {xs:List V} (r:RepVs T μ h vs xs):vs.length = xs.length :=
 RepVs.ind (M:=fun vs xs=>vs.length = xs.length) rfl (fun _ _ ih=>congrArg (· + 1) ih) r
theorem RepVs.get {vs:List Value} {xs:List V} (r:RepVs T μ h vs xs):∀ {i:Nat} {x:V},xs[i]? = some x→∃ v,vs[i]? = some v∧RepV T μ h v x :=
 RepVs.ind (M:=fun vs xs=>∀ {i:Nat} {x:V},xs[i]? = some x→∃ v,vs[i]? = some v∧RepV T μ h v x) (fun e=>by simp at e) (fun {v vs y ys} a _ ih {i x} e=>by
  cases i with
  | zero=>cases e; exact ⟨v,rfl,a⟩
  | succ i=>exact ih (i:=i) e) r
theorem RepVs.of_get:∀ {vs:List Value} {xs:List V},vs.length = xs.length→(∀ (i:Nat) (v:Value) (y:V),vs[i]? = some v→xs[i]? = some y→RepV T μ h v y)→RepVs T μ h vs xs
 | [],[],_,_=>.nil
 | [],_ :: _,e,_=>by cases e
 | _ :: _,[],e,_=>by cases e
 | v :: vs,x :: xs,e,k=>.cons (k 0 v x rfl rfl) (RepVs.of_get (Nat.succ.inj e) fun i v y a b=>k (i + 1) v y a b)
theorem RepVs.append {vs:List Value} {xs:List V} {us:List Value} {ys:List V} (r:RepVs T μ h vs xs) (y:RepVs T μ h us ys):RepVs T μ h (vs++us) (xs++ys) :=
 RepVs.ind (M:=fun vs xs=>RepVs T μ h (vs++us) (xs++ys)) y (fun a _ ih=>.cons a ih) r
theorem RepVs.take (k:Nat) {vs:List Value} {xs:List V} (r:RepVs T μ h vs xs):RepVs T μ h (vs.take k) (xs.take k) :=
 RepVs.ind (M:=fun vs xs=>∀ k,RepVs T μ h (vs.take k) (xs.take k)) (fun k=>by rw [List.take_nil,List.take_nil]; exact .nil) (fun a _ ih k=>by
  cases k with
  | zero=>exact .nil
  | succ k=>exact .cons a (ih k)) r k
theorem RepVs.drop (k:Nat) {vs:List Value} {xs:List V} (r:RepVs T μ h vs xs):RepVs T μ h (vs.drop k) (xs.drop k) :=
 RepVs.ind (M:=fun vs xs=>∀ k,RepVs T μ h (vs.drop k) (xs.drop k)) (fun k=>by rw [List.drop_nil,List.drop_nil]; exact .nil) (fun a r ih k=>by
  cases k with
  | zero=>exact .cons a r
  | succ k=>exact ih k) r k
theorem RepV.move (hl:∀ a o,h.get? a = some o→Z4V o→¬ T a→h'.get? a = some o∧¬ T' a) (hr:∀ (n:Nat) (a:Addr),μ[n]? = some a→μ'[n]? = some a) {v:Value} {x:V} (r:RepV T μ h v x):RepV T' μ' h' v x :=
 RepV.rec (motive_1:=fun v x _=>RepV T' μ' h' v x) (motive_2:=fun vs xs _=>RepVs T' μ' h' vs xs) .none .bool .int .str
  (fun ho hc hd hz hT _ ih=>.tup (hl _ _ ho (.inl ⟨_,_,hd⟩) hT).1 hc hd hz (hl _ _ ho (.inl ⟨_,_,hd⟩) hT).2 ih) (fun ho hc hd hz hT _ ih=>.lst (hl _ _ ho (.inl ⟨_,_,hd⟩) hT).1 hc hd hz (hl _ _ ho (.inl ⟨_,_,hd⟩) hT).2 ih) (fun e=>.ref (hr _ _ e))
  (fun ho hT e=>.inst (hl _ _ ho (.inr rfl) hT).1 (hl _ _ ho (.inr rfl) hT).2 (hr _ _ e)) .nil (fun _ _ a b=>.cons a b) r
theorem RepVs.move (hl:∀ a o,h.get? a = some o→Z4V o→¬ T a→h'.get? a = some o∧¬ T' a) (hr:∀ (n:Nat) (a:Addr),μ[n]? = some a→μ'[n]? = some a) {vs:List Value} {xs:List V} (r:RepVs T μ h vs xs):RepVs T' μ' h' vs xs :=
 RepVs.ind (M:=fun vs xs=>RepVs T' μ' h' vs xs) .nil (fun a _ ih=>.cons (a.move hl hr) ih) r
end
inductive Slot where
 | d (D:Addr) (n:Str)
 | c (a:Addr)
noncomputable def Slot.own:Slot→Addr
 | .d D _=>D
 | .c a=>a
noncomputable def Slot.Holds (h:Heap) (v:Value):Slot→Prop
 | .d D n=>∃ m,h.Ns D m∧m n = some v
 | .c a=>h.IsCell a (some v)
noncomputable def Slot.Ok (h:Heap):Slot→Prop
 | .d D _=>∃ m,h.Ns D m
 | .c a=>∃ v,h.IsCell a v
theorem Slot.Ok.get {h:Heap} {s:Slot} (x:s.Ok h):∃ o,h.get? s.own = some o∧((∃ es n,o.data = .dict es n) ∨ ∃ v,o.data = .cell v):=by
 cases s with
 | d D n=>obtain ⟨m,o,es,ep,ho,hd,_⟩:=x; exact ⟨o,ho,.inl ⟨es,ep,hd⟩⟩
 | c a=>obtain ⟨v,o,ho,hd⟩:=x; exact ⟨o,ho,.inr ⟨v,hd⟩⟩
theorem Slot.Ok.keeps {h h':Heap} {s:Slot} (x:s.Ok h) (hk:∀ o,h.get? s.own = some o→h'.get? s.own = some o):s.Ok h':=by
 cases s with
 | d D n=>obtain ⟨m,hm⟩:=x; exact ⟨m,hm.at' hk⟩
 | c a=>obtain ⟨v,o,ho,hd⟩:=x; exact ⟨v,o,hk o ho,hd⟩
theorem Slot.Holds.keeps {h h':Heap} {v:Value} {s:Slot} (x:s.Holds h v) (hk:∀ o,h.get? s.own = some o→h'.get? s.own = some o):s.Holds h' v:=by
 cases s with
 | d D n=>obtain ⟨m,hm,e⟩:=x; exact ⟨m,hm.at' hk,e⟩
 | c a=>obtain ⟨o,ho,hd⟩:=x; exact ⟨o,hk o ho,hd⟩
noncomputable def attrNames:List Str:=[("signs":Str),("behind":Str),("firsts":Str),("ends":Str),("empty":Str)]
noncomputable def ObNs (o:Obj) (m:Str→Option Value):Prop:=∃ es ep,o.data = .dict es ep∧StrKeys es∧UniqKeys es∧∀ name,nsFind es name = m name
inductive Lay:Obj→List Value→List V→O→Prop
 | lst {vs:Array Value} {n:Nat} {xs:List V}:vs.size ≤ sizeLine→Lay { cls:=.type "list",data:=.seq vs n } vs.toList xs (.lst xs)
 | idict {o:Obj} {kvs:List (Int × Value)} {ys:List (Int × V)}:(∀ (prog:Program) (w:World),o.IsDictOf (intKind prog w) kvs)→kvs.length ≤ sizeLine→kvs.map (·.1) = ys.map (·.1)→Lay o (kvs.map (·.2)) (ys.map (·.2)) (.idict ys)
 | attrs {o:Obj} {vs:List Value} {xs:List V}:ObNs o (fun y=>(attrNames.zip vs).lookup y)→vs.length ≤ attrNames.length→Lay o vs xs (.attrs xs)
inductive RepO (T:Addr→Prop) (μ:List Addr) (h:Heap) (a:Addr):O→Prop
 | dead:RepO T μ h a .dead
 | priv:RepO T μ h a .priv
 | live {o vs xs ob}:h.get? a = some o→Lay o vs xs ob→RepVs T μ h vs xs→RepO T μ h a ob
theorem RepO.lst {T:Addr→Prop} {μ:List Addr} {h:Heap} {a:Addr} {vs:Array Value} {n:Nat} {xs:List V} (ho:h.get? a = some { cls:=.type "list",data:=.seq vs n }) (hz:vs.size ≤ sizeLine) (r:RepVs T μ h vs.toList xs):RepO T μ h a (.lst xs):=.live ho (.lst hz) r
noncomputable def OutO (T:Addr→Prop) (μ:List Addr) (h:Heap) (a:Addr):O→Prop
 | .lst xs=>∃ (vs:Array Value) (n:Nat),h.get? a = some { cls:=.type "list",data:=.seq vs n }∧vs.size ≤ sizeLine∧RepVs T μ h vs.toList xs
 | .idict ys=>∃ o kvs,h.get? a = some o∧(∀ (prog:Program) (w:World),o.IsDictOf (intKind prog w) kvs)∧kvs.length ≤ sizeLine∧kvs.map (·.1) = ys.map (·.1)∧RepVs T μ h (kvs.map (·.2)) (ys.map (·.2))
 | .attrs xs=>∃ o vs,h.get? a = some o∧ObNs o (fun y=>(attrNames.zip vs).lookup y)∧vs.length ≤ attrNames.length∧RepVs T μ h vs xs
 | .dead=>True
 | .priv=>True
section
variable {T T':Addr→Prop} {μ μ':List Addr} {h h':Heap} {a:Addr} {ob:O}
theorem Lay.out {o:Obj} {vs:List Value} {xs:List V} (L:Lay o vs xs ob):h.get? a = some o→RepVs T μ h vs xs→OutO T μ h a ob :=
 Lay.casesOn (motive:=fun o vs xs ob _=>h.get? a = some o→RepVs T μ h vs xs→OutO T μ h a ob) L (fun hz ho r=>⟨_,_,ho,hz,r⟩) (fun hD hz hk ho r=>⟨_,_,ho,hD,hz,hk,r⟩) (fun hN hl ho r=>⟨_,_,ho,hN,hl,r⟩)
theorem RepO.out (r:RepO T μ h a ob):OutO T μ h a ob :=
 RepO.casesOn (motive:=fun ob _=>OutO T μ h a ob) r trivial trivial fun ho L r=>L.out ho r
theorem RepO.lst_inv {xs:List V} (x:RepO T μ h a (.lst xs)):∃ (vs:Array Value) (n:Nat),h.get? a = some { cls:=.type "list",data:=.seq vs n }∧vs.size ≤ sizeLine∧RepVs T μ h vs.toList xs:=x.out
theorem RepO.idictI {ys:List (Int × V)} (x:RepO T μ h a (.idict ys)):∃ o kvs,h.get? a = some o∧(∀ (prog:Program) (w:World),o.IsDictOf (intKind prog w) kvs)∧kvs.length ≤ sizeLine∧kvs.map (·.1) = ys.map (·.1)∧RepVs T μ h (kvs.map (·.2)) (ys.map (·.2)):=x.out
theorem RepO.attrsI {xs:List V} (x:RepO T μ h a (.attrs xs)):∃ o vs,h.get? a = some o∧ObNs o (fun y=>(attrNames.zip vs).lookup y)∧vs.length ≤ attrNames.length∧RepVs T μ h vs xs:=x.out
theorem RepO.map (r:RepO T μ h a ob) (f:∀ o,h.get? a = some o→h'.get? a = some o) (g:∀ vs xs,RepVs T μ h vs xs→RepVs T' μ' h' vs xs):RepO T' μ' h' a ob :=
 RepO.casesOn (motive:=fun ob _=>RepO T' μ' h' a ob) r .dead .priv fun ho L r=>.live (f _ ho) L (g _ _ r)
end
structure Cx where
 prog:Program
 w:World
 base:Heap
 A:Around
 env:Env
 sl:Nat→Option Slot
noncomputable def Own (c:Cx) (b:Addr):Prop:=∃ i s,c.sl i = some s∧s.own = b
noncomputable def Hk (_:World) (_:O):Prop:=True
theorem Z9m {w:World} {σ:List O} {n:Nat} {o':O} (h:∀ o ∈ σ,Hk w o) (ho:Hk w o'):∀ o ∈ σ.set n o',Hk w o:=fun o q=>(List.mem_or_eq_of_mem_set q).elim (h o) fun e=>e ▸ ho
theorem ZcG {w:World} {σ:List O} {o':O} (h:∀ o ∈ σ,Hk w o) (ho:Hk w o'):∀ o ∈ σ++[o'],Hk w o:=fun o q=>(List.mem_append.mp q).elim (h o) fun e=>List.mem_singleton.mp e ▸ ho
structure Inv (c:Cx) (st:St) (μ:List Addr) (h:Heap):Prop where
 vars:∀ (i:Nat) (x:V),st.ρ[i]? = some (some x)→∃ s v,c.sl i = some s∧s.Holds h v∧RepV (Tr st.σ μ) μ h v x
 slots:∀ i s,c.sl i = some s→s.Ok h
 objs:∀ (n:Nat) (o:O),st.σ[n]? = some o→∃ a,μ[n]? = some a∧RepO (Tr st.σ μ) μ h a o
 len:μ.length = st.σ.length
 nd:μ.Nodup
 lt:∀ a ∈ μ,a < h.objs.size
 base:∀ b o,c.base.get? b = some o→h.get? b = some o
 baseS:∀ b,Own c b→c.base.get? b = none
 baseM:∀ a ∈ μ,c.base.get? a = none
 sep:∀ b,Own c b→b ∉ μ
 kd:∀ o ∈ st.σ,Hk c.w o
structure Stp (c:Cx) (σ:List O) (μ:List Addr) (h:Heap) (σ':List O) (μ':List Addr) (h':Heap):Prop where
 size:h.objs.size ≤ h'.objs.size
 keep:∀ b o,h.get? b = some o→¬ Own c b→¬ Tr σ μ b→h'.get? b = some o
 pre:∀ (n:Nat) (a:Addr),μ[n]? = some a→μ'[n]? = some a
 tr:∀ b,Tr σ' μ' b→Tr σ μ b ∨ h.objs.size ≤ b
 new:∀ a ∈ μ',a ∈ μ ∨ h.objs.size ≤ a
 pv:∀ (n:Nat),σ[n]? = some O.priv→σ'[n]? = some O.priv
 pk:∀ (n:Nat) (a:Addr) (o:Obj),σ[n]? = some O.priv→μ[n]? = some a→h.get? a = some o→h'.get? a = some o
theorem Z5O {σ:List O} {n:Nat} {o o':O} (e:σ[n]? = some o) (h:o ≠ .priv):∀ (k:Nat),σ[k]? = some O.priv→(σ.set n o')[k]? = some O.priv:=fun k q=>by
 have:n ≠ k:=fun x=>by subst x; rw [e] at q; exact h (Option.some.inj q)
 rw [List.getElem?_set_ne this]; exact q
theorem Tr.mem {σ:List O} {μ:List Addr} {b:Addr} (x:Tr σ μ b):b ∈ μ:=let ⟨_,_,_,_,e⟩:=x; List.mem_of_getElem? e
theorem Stp.refl {c:Cx} {σ:List O} {μ:List Addr} {h:Heap}:Stp c σ μ h σ μ h:=⟨Nat.le_refl _,fun _ _ e _ _=>e,fun _ _ e=>e,fun _ e=>.inl e,fun _ e=>.inl e,fun _ e=>e,fun _ _ _ _ _ e=>e⟩
theorem Stp.trans {c:Cx} {σ σ' σ'':List O} {μ μ' μ'':List Addr} {h h' h'':Heap} (x:Stp c σ μ h σ' μ' h') (y:Stp c σ' μ' h' σ'' μ'' h''):Stp c σ μ h σ'' μ'' h'' where
 size:=Nat.le_trans x.size y.size
 keep:=fun b o e h1 h2=>y.keep b o (x.keep b o e h1 h2) h1 fun q=>(x.tr b q).elim h2 fun q=>Nat.lt_irrefl _ (Nat.lt_of_lt_of_le (Heap.lt_size e) q)
 pre:=fun n a e=>y.pre n a (x.pre n a e)
 tr:=fun b q=>(y.tr b q).elim (fun q=>x.tr b q) fun q=>.inr (Nat.le_trans x.size q)
 new:=fun a q=>(y.new a q).elim (fun q=>x.new a q) fun q=>.inr (Nat.le_trans x.size q)
 pv:=fun n e=>y.pv n (x.pv n e)
 pk:=fun n a o e e' e''=>y.pk n a o (x.pv n e) (x.pre n a e') (x.pk n a o e e' e'')
section
variable {c:Cx} {st st':St} {μ μ':List Addr} {h h':Heap}
theorem Inv.own_data (I:Inv c st μ h) {b:Addr} (q:Own c b) {o:Obj} (e:h.get? b = some o):¬ Z4V o:=by
 refine El.x2_2 q fun i s hs q0z=>?_
 obtain rfl:=q0z
 refine El.x1_2 ((I.slots i s hs).get) fun o' ho hd=>?_
 obtain rfl:=Option.some.inj (e.symm.trans ho)
 rintro (⟨vs,n,hq⟩ | hq) <;> rcases hd with ⟨es,n',hd⟩ | ⟨v,hd⟩ <;> rw [hd] at hq <;> cases hq
theorem RepV.step (I:Inv c st μ h) (S:Stp c st.σ μ h st'.σ μ' h') {v:Value} {x:V} (r:RepV (Tr st.σ μ) μ h v x):RepV (Tr st'.σ μ') μ' h' v x :=
 r.move (fun a o e hd hT=>⟨S.keep a o e (fun q=>I.own_data q e hd) hT,fun q=>(S.tr a q).elim hT fun q=>Nat.lt_irrefl _ (Nat.lt_of_lt_of_le (Heap.lt_size e) q)⟩) S.pre
theorem RepVs.step (I:Inv c st μ h) (S:Stp c st.σ μ h st'.σ μ' h') {v:List Value} {x:List V} (r:RepVs (Tr st.σ μ) μ h v x):RepVs (Tr st'.σ μ') μ' h' v x :=
 r.move (fun a o e hd hT=>⟨S.keep a o e (fun q=>I.own_data q e hd) hT,fun q=>(S.tr a q).elim hT fun q=>Nat.lt_irrefl _ (Nat.lt_of_lt_of_le (Heap.lt_size e) q)⟩) S.pre
noncomputable def Ext (h h':Heap):Prop:=h.objs.size ≤ h'.objs.size∧∀ b o,h.get? b = some o→h'.get? b = some o
theorem Ext.refl:Ext h h:=⟨Nat.le_refl _,fun _ _ e=>e⟩
theorem Ext.trans {h'':Heap} (x:Ext h h') (y:Ext h' h''):Ext h h'':=⟨Nat.le_trans x.1 y.1,fun b o e=>y.2 b o (x.2 b o e)⟩
theorem Ext.push (o:Obj):Ext h (h.push o):=⟨by simp,fun _ _ e=>Heap.get?_push_of_some _ e⟩
theorem RepV.ext {T:Addr→Prop} (e:Ext h h') {v:Value} {x:V} (r:RepV T μ h v x):RepV T μ h' v x :=
 r.move (fun a o q _ hT=>⟨e.2 a o q,hT⟩) fun _ _ q=>q
theorem RepVs.ext {T:Addr→Prop} (e:Ext h h') {v:List Value} {x:List V} (r:RepVs T μ h v x):RepVs T μ h' v x :=
 r.move (fun a o q _ hT=>⟨e.2 a o q,hT⟩) fun _ _ q=>q
theorem RepO.ext {T:Addr→Prop} (e:Ext h h') {a:Addr} {o:O} (r:RepO T μ h a o):RepO T μ h' a o:=r.map (fun _ ho=>e.2 _ _ ho) fun _ _ r=>r.ext e
theorem Inv.ext (I:Inv c st μ h) (e:Ext h h'):Inv c st μ h' where
 vars:=fun i x q=>let ⟨s,v,h1,h2,h3⟩:=I.vars i x q; ⟨s,v,h1,h2.keeps fun o q=>e.2 _ o q,h3.ext e⟩
 slots:=fun i s q=>(I.slots i s q).keeps fun o q=>e.2 _ o q
 objs:=fun n o q=>let ⟨a,h1,h2⟩:=I.objs n o q; ⟨a,h1,h2.ext e⟩
 len:=I.len
 nd:=I.nd
 lt:=fun a q=>Nat.lt_of_lt_of_le (I.lt a q) e.1
 base:=fun b o q=>e.2 b o (I.base b o q)
 baseS:=I.baseS
 baseM:=I.baseM
 sep:=I.sep
 kd:=I.kd
theorem Stp.ext (e:Ext h h') {σ:List O}:Stp c σ μ h σ μ h':=⟨e.1,fun b o q _ _=>e.2 b o q,fun _ _ q=>q,fun _ q=>.inl q,fun _ q=>.inl q,fun _ q=>q,fun _ a o _ _ q=>e.2 a o q⟩
end
noncomputable def Same (s s':Shared):Prop:=s'.gens = s.gens∧() = ()∧s'.os = s.os
theorem Same.refl {s:Shared}:Same s s:=⟨rfl,rfl,rfl⟩
theorem Same.trans {s s' s'':Shared} (x:Same s s') (y:Same s' s''):Same s s'':=⟨y.1.trans x.1,y.2.1.trans x.2.1,y.2.2.trans x.2.2⟩
noncomputable def Sim {α β:Type} (c:Cx) (t:Sem α) (m:R β) (rel:St→List Addr→Heap→α→β→Prop) (σ:List O) (μ:List Addr) (s:Shared):Prop :=
 match m with
 | .stuck=>True
 | .exc _ _=>True
 | .ok b st'=>wpAny (model c.prog c.w) c.A t (fun a s'=>∃ μ',rel st' μ' s'.heap a b∧Inv c st' μ' s'.heap∧Stp c σ μ s.heap st'.σ μ' s'.heap∧Same s s') (fun _ _=>False) s
noncomputable def rV (st:St) (μ:List Addr) (h:Heap) (v:Value) (x:V):Prop:=RepV (Tr st.σ μ) μ h v x
noncomputable def rVs (st:St) (μ:List Addr) (h:Heap) (v:List Value) (x:List V):Prop:=RepVs (Tr st.σ μ) μ h v x
noncomputable def rEq {α:Type} (_:St) (_:List Addr) (_:Heap) (v:α) (x:α):Prop:=v = x
section
variable {α β γ δ:Type} {c:Cx} {σ:List O} {μ:List Addr} {s:Shared} {rel:St→List Addr→Heap→α→β→Prop} {rel':St→List Addr→Heap→γ→δ→Prop}
theorem Sim.bind {t:Sem α} {f:α→Sem γ} {m:R β} {g:β→St→R δ} (h:Sim c t m rel σ μ s)
  (hf:∀ b st₁ a μ₁ s₁,m = .ok b st₁→rel st₁ μ₁ s₁.heap a b→Inv c st₁ μ₁ s₁.heap→Stp c σ μ s.heap st₁.σ μ₁ s₁.heap→Sim c (f a) (g b st₁) rel' st₁.σ μ₁ s₁) :
  Sim c (t >>= f) (m.bind g) rel' σ μ s:=by
 cases m with
 | stuck=>trivial
 | exc x st=>trivial
 | ok b st₁=>
  simp only [R.bind_ok]
  cases hg:g b st₁ with
  | stuck=>trivial
  | exc x st=>trivial
  | ok d st₂=>
   refine wpAny_bind (wpAny_mono h (fun a s₁ q8=>El.x1_4 q8 fun μ₁ h1 h2 h3 h4=>?_) fun _ _ e=>e.elim)
   have q:=hf b st₁ a μ₁ s₁ rfl h1 h2 h3
   rw [hg] at q
   exact wpAny_mono q (fun a₂ s₂ q8=>El.x1_4 q8 fun μ₂ k1 k2 k3 k4=>⟨μ₂,k1,k2,h3.trans k3,h4.trans k4⟩) fun _ _ e=>e
theorem Sim.pure {a:α} {b:β} {st:St} (I:Inv c st μ s.heap) (h:rel st μ s.heap a b):Sim c (pure a) (.ok b st) rel st.σ μ s :=
 wpAny_pure ⟨μ,h,I,.refl,.refl⟩
theorem Sim.stuck {t:Sem α}:Sim (β:=β) c t .stuck rel σ μ s:=trivial
theorem Sim.exc {t:Sem α} {x:Str} {st:St}:Sim (β:=β) c t (.exc x st) rel σ μ s:=trivial
theorem Sim.leaf {t:Sem α} {b:β} {st:St} (I:Inv c st μ s.heap)
  (h:wpAny (model c.prog c.w) c.A t (fun a s'=>Ext s.heap s'.heap∧Same s s'∧rel st μ s'.heap a b) (fun _ _=>False) s):Sim c t (.ok b st) rel st.σ μ s :=
 wpAny_mono h (fun _ _ ⟨e,q,r⟩=>⟨μ,r,I.ext e,.ext e,q⟩) fun _ _ e=>e
theorem Sim.holding {vs:List Value} {t:Sem α} {m:R β} (h:Sim c t m rel σ μ s):Sim c (holding vs t) m rel σ μ s:=by
 cases m with
 | stuck=>trivial
 | exc x st=>trivial
 | ok b st=>exact wpAny_holding h
theorem Sim.at {p:Pos} {f:Unit→Sem α} {m:R β} (h:Sim c (f ()) m rel σ μ s):Sim c (standAt p >>= f) m rel σ μ s:=by
 cases m with
 | stuck=>trivial
 | exc x st=>trivial
 | ok b st=>exact wpAny_bind (wpAny_standAt h)
theorem Sim.operate {vs:List Value} {t:Sem Value} {m:R β} {rel:St→List Addr→Heap→Value→β→Prop} (h:Sim c t m rel σ μ s):Sim c (operate vs t) m rel σ μ s:=by
 cases m with
 | stuck=>trivial
 | exc x st=>trivial
 | ok b st=>exact fun Γ p hΓ=>by rw [Sem.wp_operate]; exact h Γ p hΓ
theorem Sim.via {t:Sem α} {T:Sem γ} {f:α→Sem γ} {m:R β} {g:β→St→R δ}
  (hT:∀ Q:γ→Shared→Prop,wpAny (model c.prog c.w) c.A t (fun a s₁=>wpAny (model c.prog c.w) c.A (f a) Q (fun _ _=>False) s₁) (fun _ _=>False) s→wpAny (model c.prog c.w) c.A T Q (fun _ _=>False) s)
  (h:Sim c t m rel σ μ s)
  (hf:∀ b st₁ a μ₁ s₁,m = .ok b st₁→rel st₁ μ₁ s₁.heap a b→Inv c st₁ μ₁ s₁.heap→Stp c σ μ s.heap st₁.σ μ₁ s₁.heap→Sim c (f a) (g b st₁) rel' st₁.σ μ₁ s₁) :
  Sim c T (m.bind g) rel' σ μ s:=by
 cases m with
 | stuck=>trivial
 | exc x st=>trivial
 | ok b st₁=>
  simp only [R.bind_ok]
  cases hg:g b st₁ with
  | stuck=>trivial
  | exc x st=>trivial
  | ok d st₂=>
   refine hT _ (wpAny_mono h (fun a s₁ q8=>El.x1_4 q8 fun μ₁ h1 h2 h3 h4=>?_) fun _ _ e=>e.elim)
   have q:=hf b st₁ a μ₁ s₁ rfl h1 h2 h3
   rw [hg] at q
   exact wpAny_mono q (fun a₂ s₂ q8=>El.x1_4 q8 fun μ₂ k1 k2 k3 k4=>⟨μ₂,k1,k2,h3.trans k3,h4.trans k4⟩) fun _ _ e=>e
theorem Sim.imp {T T':Sem α} {m:R β} (hT:∀ Q:α→Shared→Prop,wpAny (model c.prog c.w) c.A T Q (fun _ _=>False) s→wpAny (model c.prog c.w) c.A T' Q (fun _ _=>False) s) (h:Sim c T m rel σ μ s):Sim c T' m rel σ μ s:=by
 cases m with
 | stuck=>trivial
 | exc x st=>trivial
 | ok b st=>exact hT _ h
theorem Sim.of_eq {t t':Sem α} {m:R β} (e:t = t') (h:Sim c t' m rel σ μ s):Sim c t m rel σ μ s:=e ▸ h
theorem Sim.map {t:Sem α} {m:R β} {f:α→γ} {g:β→δ} (h:Sim c t m rel σ μ s) (hr:∀ st μ h a b,rel st μ h a b→rel' st μ h (f a) (g b)) :
  Sim c (t >>= fun a=>Pure.pure (f a)) (m.bind fun b st=>.ok (g b) st) rel' σ μ s :=
 Sim.bind h fun b st₁ a μ₁ s₁ _ r I _=>Sim.pure I (hr _ _ _ _ _ r)
end
end Mine
namespace Mine
open PySem
inductive Op | add | sub | mul | fdiv | mod
inductive Cm | lt | le | gt | ge | eq | ne | is | isnot | isin | notin
inductive Ty | int | bool | list | tuple | str
inductive Bi | len | int | list | sorted
inductive Me | join | append
mutual
inductive Ex
 | none
 | bool (b:Bool)
 | int (i:Int)
 | str (s:Str)
 | loc (i:Nat)
 | fz (i:Nat)
 | bin (op:Op) (a b:Ex)
 | cmp (op:Cm) (a b:Ex)
 | band (a b:Ex)
 | bor (a b:Ex)
 | not (a:Ex)
 | neg (i:Int)
 | ite (c a b:Ex)
 | tup (es:Exs)
 | list (es:Exs)
 | listM (es:Exs)
 | sub (a i:Ex)
 | slice (a:Ex) (lo hi:Exo)
 | isin (a:Ex) (t:Ty)
 | bi (f:Bi) (a:Ex)
 | me (m:Me) (a b:Ex)
 | call (f:Str) (es:Exs)
 | glob (x:Str) (i:Int)
 | dictM
 | attr (a:Ex) (k:Nat)
 | newI
 | lenSet (a:Ex)
 | sset (a:Ex)
 | min2 (a b:Ex)
 | pop (a:Ex)
 | comp (elt:Ex) (k:Nat) (it:It) (ifs:Exs)
inductive Exs
 | nil
 | cons (e:Ex) (es:Exs)
inductive Exo
 | none
 | some (e:Ex)
inductive It
 | val (e:Ex)
 | range1 (a:Ex)
 | enum (a:Ex)
end
mutual
inductive Sm
 | asg (i:Nat) (e:Ex)
 | asgT (is:List Nat) (e:Ex)
 | expr (e:Ex)
 | ret (e:Ex)
 | ifte (c:Ex) (t f:Sms)
 | for1 (i:Nat) (it:It) (body:Sms)
 | forT (is:List Nat) (it:It) (body:Sms)
 | brk
 | stk
 | asgI (a i e:Ex)
 | asgA (a:Ex) (k:Nat) (e:Ex)
inductive Sms
 | nil
 | cons (s:Sm) (ss:Sms)
end
inductive Fl
 | next
 | brk
 | cont
 | ret (v:V)
mutual
noncomputable def V.eqb:V→V→Bool
 | .none,y=>(match y with | .none=>true | _=>false)
 | .bool a,y=>(match y with | .bool b=>a == b | .int j=>(if a then 1 else 0) == j | _=>false)
 | .int i,y=>(match y with | .bool b=>i == (if b then 1 else 0) | .int j=>i == j | _=>false)
 | .str x,y=>(match y with | .str z=>x == z | _=>false)
 | .lst xs,y=>(match y with | .lst ys=>V.eqbs xs ys | _=>false)
 | .tup xs,y=>(match y with | .tup ys=>V.eqbs xs ys | _=>false)
 | .ref _,_=>false
 | .inst _ _,_=>false
noncomputable def V.eqbs:List V→List V→Bool
 | [],ys=>ys.isEmpty
 | x :: xs,ys=>(match ys with | y :: ys=>V.eqb x y && V.eqbs xs ys | []=>false)
end
mutual
noncomputable def V.depth?:V→Option Nat
 | .tup xs=>(V.depths? xs).map (· + 1)
 | .lst xs=>(V.depths? xs).map (· + 1)
 | .ref _=>Option.none
 | .inst _ _=>Option.none
 | .none=>some 0
 | .bool _=>some 0
 | .int _=>some 0
 | .str _=>some 0
noncomputable def V.depths?:List V→Option Nat
 | []=>some 0
 | x :: xs=>(V.depth? x).bind fun a=>(V.depths? xs).bind fun b=>some (max a b)
end
noncomputable def V.flat64 (x:V):Bool:=x.depth?.any fun d=>decide (d ≤ 64)
noncomputable def lstO:Option O→Option (List V)
 | some (.lst xs)=>some xs
 | _=>none
noncomputable def V.truthy (σ:List O):V→Option Bool
 | .none=>some false
 | .bool b=>some b
 | .int i=>some (i != 0)
 | .str s=>some (!s.isEmpty)
 | .tup xs=>some (!xs.isEmpty)
 | .lst xs=>some (!xs.isEmpty)
 | .ref n=>(lstO σ[n]?).bind fun xs=>some (!xs.isEmpty)
 | .inst _ _=>Option.none
noncomputable def V.isNone:V→Bool
 | .none=>true
 | _=>false
noncomputable def Z0s (i:Int):Bool:=decide (-(2 ^ 63) ≤ i) && decide (i < 2 ^ 63)
noncomputable def Z0O (i:Int):Bool:=decide (-(2 ^ 62) ≤ i) && decide (i < 2 ^ 62)
noncomputable def V.int?:V→Option Int
 | .int i=>some i
 | _=>Option.none
noncomputable def V.str?:V→Option (List Nat)
 | .str l=>some l
 | _=>Option.none
noncomputable def V.tup?:V→Option (List V)
 | .tup l=>some l
 | _=>Option.none
noncomputable def V.lst?:V→Option (List V)
 | .lst l=>some l
 | _=>Option.none
noncomputable def V.ref?:V→Option Nat
 | .ref n=>some n
 | _=>Option.none
noncomputable def V.inst?:V→Option (Nat × Nat)
 | .inst C n=>some (C,n)
 | _=>Option.none
noncomputable def Z5P:Option O→Option (List (Int × V))
 | some (.idict xs)=>some xs
 | _=>none
noncomputable def Z7P:Option O→Option (List V)
 | some (.attrs xs)=>some xs
 | _=>none
noncomputable def R.need {α β:Type} (o:Option α) (f:α→R β):R β:=match o with
 | some a=>f a
 | none=>.stuck
noncomputable def V.none?:V→Option Unit
 | .none=>some ()
 | _=>Option.none
noncomputable def pick {α β:Type} (o:Option α) (f:α→Option β) (e:Option β):Option β:=match o with
 | some a=>f a
 | none=>e
noncomputable def onI {α:Type} (x y:V) (k:Int→Int→Option α):Option α:=x.int?.bind fun a=>y.int?.bind fun b=>k a b
noncomputable def Z2Y (x y:V):Option V:=pick x.int? (fun a=>y.int?.bind fun b=>some (.int (a + b))) <| pick x.str? (fun a=>y.str?.bind fun b=>if a.length + b.length ≤ sizeLine then some (.str (a++b)) else none) <| x.lst?.bind fun a=>y.lst?.bind fun b=>if a.length + b.length ≤ sizeLine then some (.lst (a++b)) else none
noncomputable def Z4x (x y:V):Option V:=y.int?.bind fun b=>pick x.int? (fun a=>if Z0s a || Z0s b then some (.int (a * b)) else none) <| pick x.str? (fun a=>if 2 ≤ b∧b < 128∧a.length * b.toNat ≤ sizeLine then some (.str (List.replicate b.toNat a).flatten) else none) <| x.lst?.bind fun a=>if 0 ≤ b∧b < 64∧a.length * b.toNat ≤ sizeLine then some (.lst (List.replicate b.toNat a).flatten) else none
noncomputable def Z3o (op:Op) (x y:V):Option V:=match op with
 | .add=>Z2Y x y
 | .sub=>onI x y fun a b=>some (.int (a - b))
 | .mul=>Z4x x y
 | .fdiv=>onI x y fun a b=>if b = 0 then none else some (.int (Int.fdiv a b))
 | .mod=>onI x y fun a b=>if b = 0 then none else some (.int (Int.fmod a b))
noncomputable def onS {α:Type} (y:V) (k:List Nat→Option α):Option α:=y.str?.bind k
noncomputable def ZfE (x y:V):Option Bool:=onS x fun l=>onS y fun z=>match l with
 | [d]=>some (z.contains d)
 | _=>none
noncomputable def ZeC:List V→Option (List Int)
 | []=>some []
 | .int i :: r=>(ZeC r).map (i :: ·)
 | _=>none
noncomputable def Z1o:List V→Option (List (List Nat))
 | []=>some []
 | .str x :: r=>(Z1o r).map (x :: ·)
 | _=>none
noncomputable def itL (σ:List O) (y:V):Option (List V):=pick y.lst? some (y.ref?.bind fun n=>lstO σ[n]?)
noncomputable def inD (σ:List O) (x y:V):Option Bool:=x.str?.bind fun k=>(itL σ y).bind fun ys=>(Z1o ys).map fun l=>l.any (· == k)
noncomputable def Z1U (σ:List O) (op:Cm) (x y:V):Option Bool:=match op with
 | .lt=>onI x y fun a b=>some (decide (a < b))
 | .le=>onI x y fun a b=>some (decide (a ≤ b))
 | .gt=>onI x y fun a b=>some (decide (a > b))
 | .ge=>onI x y fun a b=>some (decide (a ≥ b))
 | .eq=>if x.flat64 && y.flat64 then some (V.eqb x y) else none
 | .ne=>if x.flat64 && y.flat64 then some (!V.eqb x y) else none
 | .is=>(match y with | .none=>some x.isNone | _=>none)
 | .isnot=>(match y with | .none=>some (!x.isNone) | _=>none)
 | .isin=>inD σ x y
 | .notin=>(inD σ x y).map not
noncomputable def Z0n {α:Type} (xs:List α) (i:Int):Option α :=
 if Z0s i then (if 0 ≤ i then xs[i.toNat]? else if -(xs.length:Int) ≤ i then xs[(i + xs.length).toNat]? else none) else none
noncomputable def dGet (es:List (Int × V)) (k:Int):Option V:=(es.find? fun p=>p.1 = k).map (·.2)
noncomputable def Z28 (σ:List O) (x y:V):Option V:=pick x.tup? (fun xs=>y.int?.bind fun i=>Z0n xs i) <| pick x.lst? (fun xs=>y.int?.bind fun i=>Z0n xs i) <| pick x.str? (fun l=>y.int?.bind fun i=>(Z0n l i).map fun c=>.str [c]) <| x.ref?.bind fun n=>pick (lstO σ[n]?) (fun xs=>y.int?.bind fun i=>Z0n xs i) <| (Z5P σ[n]?).bind fun es=>y.int?.bind fun i=>dGet es i
noncomputable def cutL {α:Type} (xs:List α) (lo hi:Option Int):List α :=
 (xs.drop (lo.elim 0 (clipAt xs.length))).take (hi.elim xs.length (clipAt xs.length) - lo.elim 0 (clipAt xs.length))
noncomputable def Z9n (x:V):Option (Option Int):=pick x.int? (fun i=>some (some i)) (x.none?.bind fun _=>some none)
noncomputable def Z0A (σ:List O) (x lo hi:V):Option V:=(Z9n lo).bind fun l=>(Z9n hi).bind fun h=>pick x.str? (fun x=>some (.str (cutL x l h))) <| pick x.lst? (fun xs=>some (.lst (cutL xs l h))) <| x.ref?.bind fun n=>(lstO σ[n]?).bind fun xs=>some (.lst (cutL xs l h))
noncomputable def Zdc (σ:List O) (t:Ty) (x:V):Option Bool:=match x with
 | .none=>some false
 | .bool _=>(match t with | .int=>some true | .bool=>some true | _=>none)
 | .int _=>(match t with | .int=>some true | .bool=>some false | _=>none)
 | .str _=>(match t with | .int=>some false | .bool=>some false | .str=>some true | _=>none)
 | .tup _=>(match t with | .int=>some false | .bool=>some false | .list=>some false | .tuple=>some true | _=>none)
 | .lst _=>(match t with | .int=>some false | .bool=>some false | .list=>some true | .tuple=>some false | _=>none)
 | .ref n=>(match t with | .list=>(match σ[n]? with | some (.lst _)=>some true | _=>none) | _=>none)
 | .inst _ _=>none
noncomputable def insC (c:Nat):List Nat→List Nat
 | []=>[c]
 | d :: r=>if c ≤ d then c :: d :: r else d :: insC c r
noncomputable def Z4o (l:List Nat):List Nat:=l.foldr insC []
noncomputable def Z0o (l:List Nat):List V:=l.map fun c=>.str [c]
noncomputable def oneC:List Nat→Option Nat
 | [c]=>some c
 | _=>none
noncomputable def Z3p:List V→Option (List Nat)
 | []=>some []
 | x :: r=>(x.str?.bind oneC).bind fun c=>(Z3p r).bind fun l=>some (c :: l)
noncomputable def Z4p (σ:List O) (f:Bi) (x:V):Option V:=match f with
 | .len=>pick x.str? (fun x=>some (.int x.length)) <| pick x.tup? (fun xs=>some (.int xs.length)) <| pick x.lst? (fun xs=>some (.int xs.length)) <| x.ref?.bind fun n=>(lstO σ[n]?).bind fun xs=>some (.int xs.length)
 | .int=>(match x with
  | .bool b=>some (.int (if b then 1 else 0))
  | .int i=>some (.int i)
  | _=>none)
 | .list=>pick x.lst? (fun xs=>some (.lst xs)) <| x.str?.bind fun x=>some (.lst (x.map fun c=>.str [c]))
 | .sorted=>x.ref?.bind fun n=>(lstO σ[n]?).bind fun xs=>(Z3p xs).bind fun l=>if l.Nodup∧l.length < 128 then some (.lst (Z0o (Z4o l))) else none
noncomputable def Z1q (x:V):Option V:=x.str?.bind fun l=>if l.all (· < 128) = true then some (.int l.eraseDups.length) else none
noncomputable def Z3q (x:V):Option V:=x.str?.bind fun l=>if l.all (· < 128) = true∧l.eraseDups.length < 128 then some (.lst (Z0o (Z4o l.eraseDups))) else none
noncomputable def popR (x:V) (st:St):R V:=R.need x.ref? fun n=>R.need (lstO st.σ[n]?) fun xs=>R.need xs.getLast? fun y=>.ok y ⟨st.ρ,st.σ.set n (.lst xs.dropLast)⟩
noncomputable def Z1Y (q:Option Int) (σ:List O) (x:V) (k:Nat):Option V:=match x with
 | .inst C n=>if q = some (C:Int) then (match σ[n]? with
  | some (.attrs xs)=>xs[k]?
  | _=>none) else none
 | _=>none
noncomputable def setAt (xs:List V) (k:Nat) (v:V):Option (List V):=if k < xs.length then some (xs.set k v) else if k = xs.length then some (xs++[v]) else none
noncomputable def Z0g:Str:=("Leaves":Str)
noncomputable def Z0B:Str:=("Leaves.__init__":Str)
noncomputable def Z9o (x y:V) (st:St):R V:=R.need x.str? fun l0=>R.need (itL st.σ y) fun xs=>R.need (Z1o xs) fun l=>if l0 = []∧l.flatten.length ≤ sizeLine then .ok (.str l.flatten) st else .stuck
noncomputable def ZcH (x y:V) (st:St):R V:=R.need x.ref? fun n=>R.need (lstO st.σ[n]?) fun xs=>if xs.length < sizeLine then .ok .none ⟨st.ρ,st.σ.set n (.lst (xs++[y]))⟩ else .stuck
noncomputable def Z1p (m:Me) (x y:V) (st:St):R V:=match m with
 | .join=>Z9o x y st
 | .append=>ZcH x y st
noncomputable def Z5Q (σ:List O):Me→V→Bool
 | .append,.ref n=>(match σ[n]? with | some (.lst _)=>true | _=>false)
 | .append,_=>false
 | _,.str _=>true
 | _,_=>false
noncomputable def upTo (a b:Int):List V:=(List.range (b - a).toNat).map fun (k:Nat)=>.int (a + (k:Int))
noncomputable def Z1G (σ:List O):V→Option (List V)
 | .str x=>some (x.map fun c=>.str [c])
 | .lst xs=>some xs
 | .tup xs=>some xs
 | _=>none
noncomputable def Z2w (n:Nat):List V→List V
 | []=>[]
 | x :: xs=>.tup [.int n,x] :: Z2w (n + 1) xs
theorem Z5R (n:Nat):Z2w n [] = []:=rfl
theorem Z8L (n:Nat) (x:V) (xs:List V):Z2w n (x :: xs) = .tup [.int n,x] :: Z2w (n + 1) xs:=rfl
noncomputable def Zfl (x:V) (st:St):R (List V):=match x with
 | .lst xs=>.ok (Z2w 0 xs) ⟨st.ρ,st.σ++[.priv]⟩
 | _=>.stuck
noncomputable def Z0K (es:List (Int × V)) (k:Int) (v:V):List (Int × V):=if es.any (fun p=>p.1 = k) then es.map (fun p=>if p.1 = k then (p.1,v) else p) else es++[(k,v)]
noncomputable def setD (n:Nat) (k:Int) (v:V) (st:St):R Fl:=R.need (Z5P st.σ[n]?) fun es=>if es.length < sizeLine then .ok .next ⟨st.ρ,st.σ.set n (.idict (Z0K es k v))⟩ else .stuck
noncomputable def setL (n:Nat) (k:Int) (v:V) (st:St):R Fl:=R.need (lstO st.σ[n]?) fun xs=>if 0 ≤ k∧k < xs.length then .ok .next ⟨st.ρ,st.σ.set n (.lst (xs.set k.toNat v))⟩ else .stuck
noncomputable def R.or {α:Type} (m n:R α):R α:=match m with
 | .ok a st=>.ok a st
 | .exc x st=>.exc x st
 | .stuck=>n
noncomputable def setI (x y v:V) (st:St):R Fl:=R.need x.ref? fun n=>R.need y.int? fun k=>R.or (setD n k v st) (setL n k v st)
noncomputable def setA (q:Option Int) (x v:V) (k:Nat) (st:St):R Fl:=R.need x.inst? fun p=>if q = some (p.1:Int) then R.need (Z7P st.σ[p.2]?) fun xs=>R.need (setAt xs k v) fun ys=>if ys.length ≤ attrNames.length then .ok .next ⟨st.ρ,st.σ.set p.2 (.attrs ys)⟩ else .stuck else .stuck
abbrev Fn:=Str→List V→List O→R V
noncomputable def clsF (F:Fn):Option Int:=match F Z0g [.none] [] with
 | .ok (.int C) _=>some C
 | _=>none
noncomputable def setV (st:St) (i:Nat) (x:V):St:=⟨st.ρ.set i (some x),st.σ⟩
noncomputable def Z5S (st:St):List Nat→List V→Option St
 | [],[]=>some st
 | i :: is,x :: xs=>Z5S (setV st i x) is xs
 | _,_=>none
noncomputable def asT (is:List Nat) (x:V) (st:St):R Unit:=R.need x.tup? fun xs=>R.need (Z5S st is xs) fun st'=>.ok () st'
noncomputable def forR (step:V→St→R Fl):List V→St→R Fl
 | [],st=>.ok .next st
 | x :: xs,st=>(step x st).bind fun fl st=>match fl with
  | .next=>forR step xs st
  | .cont=>forR step xs st
  | .brk=>.ok .next st
  | .ret v=>.ok (.ret v) st
noncomputable def Z3c (k n:Nat) (tests:St→R Bool) (elt:St→R V):List V→St→R Unit
 | [],st=>.ok () st
 | x :: xs,st=>(tests (setV st k x)).bind fun b st=>if b then (elt st).bind fun y st=>(match st.σ[n]? with
   | some (.lst acc)=>if acc.length < sizeLine then Z3c k n tests elt xs ⟨st.ρ,st.σ.set n (.lst (acc++[y]))⟩ else .stuck
   | _=>.stuck) else Z3c k n tests elt xs st
noncomputable def Z0h (m:R V):R Bool:=m.bind fun v st=>R.lift (v.truthy st.σ) st
noncomputable def Z8M (r:R V) (ρ:List (Option V)):R V:=match r with
 | .ok v st=>.ok v ⟨ρ,st.σ⟩
 | .exc x st=>.exc x ⟨ρ,st.σ⟩
 | .stuck=>.stuck
mutual
noncomputable def evE (F:Fn):Ex→St→R V
 | .none,st=>.ok .none st
 | .bool b,st=>.ok (.bool b) st
 | .int i,st=>.ok (.int i) st
 | .str s,st=>.ok (.str s.cps.toList) st
 | .loc i,st=>match st.ρ[i]? with
  | some (some v)=>.ok v st
  | _=>.stuck
 | .fz i,st=>match st.ρ[i]? with
  | some (some (.ref n))=>(match st.σ[n]? with
   | some (.lst xs)=>.ok (.lst xs) ⟨st.ρ.set i (some (.lst xs)),st.σ.set n .dead⟩
   | _=>.stuck)
  | some (some (.lst xs))=>.ok (.lst xs) st
  | _=>.stuck
 | .bin op a b,st=>(evE F a st).bind fun x st=>(evE F b st).bind fun y st=>R.lift (Z3o op x y) st
 | .cmp op a b,st=>(evE F a st).bind fun x st=>(evE F b st).bind fun y st=>R.lift ((Z1U st.σ op x y).map .bool) st
 | .band a b,st=>(evE F a st).bind fun x st=>(R.lift (x.truthy st.σ) st).bind fun t st=>if t then evE F b st else .ok x st
 | .bor a b,st=>(evE F a st).bind fun x st=>(R.lift (x.truthy st.σ) st).bind fun t st=>if t then .ok x st else evE F b st
 | .not a,st=>(Z0h (evE F a st)).bind fun t st=>.ok (.bool (!t)) st
 | .neg i,st=>.ok (.int (-i)) st
 | .ite c a b,st=>(Z0h (evE F c st)).bind fun t st=>if t then evE F a st else evE F b st
 | .tup es,st=>(evEs F es st).bind fun xs st=>if xs.length ≤ sizeLine then .ok (.tup xs) st else .stuck
 | .list es,st=>(evEs F es st).bind fun xs st=>if xs.length ≤ sizeLine then .ok (.lst xs) st else .stuck
 | .listM es,st=>(evEs F es st).bind fun xs st=>if xs.length ≤ sizeLine then .ok (.ref st.σ.length) ⟨st.ρ,st.σ++[.lst xs]⟩ else .stuck
 | .sub a i,st=>(evE F a st).bind fun x st=>(evE F i st).bind fun y st=>R.lift (Z28 st.σ x y) st
 | .slice a lo hi,st=>(evE F a st).bind fun x st=>(evO F lo st).bind fun l st=>(evO F hi st).bind fun h st=>R.lift (Z0A st.σ x l h) st
 | .isin a t,st=>(evE F a st).bind fun x st=>R.lift ((Zdc st.σ t x).map .bool) st
 | .bi f a,st=>(evE F a st).bind fun x st=>R.lift (Z4p st.σ f x) st
 | .me m a b,st=>(evE F a st).bind fun x st=>if Z5Q st.σ m x then (evE F b st).bind fun y st=>Z1p m x y st else .stuck
 | .call f es,st=>(evEs F es st).bind fun xs st=>Z8M (F f xs st.σ) st.ρ
 | .glob _ i,st=>.ok (.int i) st
 | .dictM,st=>.ok (.ref st.σ.length) ⟨st.ρ,st.σ++[.idict []]⟩
 | .attr a k,st=>(evE F a st).bind fun x st=>R.lift (Z1Y (clsF F) st.σ x k) st
 | .newI,st=>Z8M (F Z0g [] st.σ) st.ρ
 | .lenSet a,st=>(evE F a st).bind fun x st=>R.lift (Z1q x) st
 | .sset a,st=>(evE F a st).bind fun x st=>R.lift (Z3q x) st
 | .min2 a b,st=>(evE F a st).bind fun x st=>(evE F b st).bind fun y st=>R.lift (onI x y fun a b=>some (.int (if b < a then b else a))) st
 | .pop a,st=>(evE F a st).bind fun x st=>popR x st
 | .comp elt k it ifs,st=>(evIt F it st).bind fun items st=>(Z3c k st.σ.length (evTs F ifs) (evE F elt) items ⟨st.ρ.set k none,st.σ++[.lst []]⟩).bind fun _ st'=>
   match st'.σ[st.σ.length]? with
   | some (.lst ys)=>.ok (.lst ys) ⟨st'.ρ.set k none,st'.σ.set st.σ.length .dead⟩
   | _=>.stuck
noncomputable def evEs (F:Fn):Exs→St→R (List V)
 | .nil,st=>.ok [] st
 | .cons e es,st=>(evE F e st).bind fun x st=>(evEs F es st).bind fun xs st=>.ok (x :: xs) st
noncomputable def evTs (F:Fn):Exs→St→R Bool
 | .nil,st=>.ok true st
 | .cons e es,st=>(Z0h (evE F e st)).bind fun b st=>if b then evTs F es st else .ok false st
noncomputable def evO (F:Fn):Exo→St→R V
 | .none,st=>.ok .none st
 | .some e,st=>evE F e st
noncomputable def evIt (F:Fn):It→St→R (List V)
 | .val e,st=>(evE F e st).bind fun x st=>R.lift (Z1G st.σ x) st
 | .range1 a,st=>(evE F a st).bind fun x st=>(match x with
  | .int n=>if Z0O n then .ok (upTo 0 n) st else .stuck
  | _=>.stuck)
 | .enum a,st=>(evE F a st).bind fun x st=>Zfl x st
end
mutual
noncomputable def evS (F:Fn) (K:Nat):Sm→St→R Fl
 | .asg i e,st=>(evE F e st).bind fun x st=>.ok .next (setV st i x)
 | .asgT is e,st=>(evE F e st).bind fun x st=>(asT is x st).bind fun _ st=>.ok .next st
 | .expr e,st=>(evE F e st).bind fun _ st=>.ok .next st
 | .ret e,st=>(evE F e st).bind fun x st=>.ok (.ret x) st
 | .ifte c t f,st=>(Z0h (evE F c st)).bind fun b st=>if b then evSs F K t st else evSs F K f st
 | .for1 i it body,st=>(evIt F it st).bind fun items st=>forR (fun x st=>evSs F K body (setV st i x)) items st
 | .forT is it body,st=>(evIt F it st).bind fun items st=>forR (fun x st=>(asT is x st).bind fun _ st=>evSs F K body st) items st
 | .brk,st=>.ok .brk st
 | .stk,_=>.stuck
 | .asgI a i e,st=>(evE F e st).bind fun v st=>(evE F a st).bind fun x st=>(evE F i st).bind fun y st=>setI x y v st
 | .asgA a k e,st=>(evE F e st).bind fun v st=>(evE F a st).bind fun x st=>setA (clsF F) x v k st
noncomputable def evSs (F:Fn) (K:Nat):Sms→St→R Fl
 | .nil,st=>.ok .next st
 | .cons s ss,st=>(evS F K s st).bind fun fl st=>match fl with
  | .next=>evSs F K ss st
  | f=>.ok f st
end
structure Def where
 name:Str
 params:List Str
 locals:List Str
 slots:Nat
 body:Sms
 globs:List (Str × Int)
mutual
noncomputable def V.lo (n:Nat):V→Bool
 | .ref k=>decide (k < n)
 | .inst _ k=>decide (k < n)
 | .tup xs=>V.los n xs
 | .lst xs=>V.los n xs
 | .none=>true
 | .bool _=>true
 | .int _=>true
 | .str _=>true
noncomputable def V.los (n:Nat):List V→Bool
 | []=>true
 | x :: xs=>V.lo n x && V.los n xs
end
noncomputable def Fl.val:Fl→V
 | .ret v=>v
 | _=>.none
noncomputable def O.lo (n:Nat):O→Bool
 | .lst xs=>V.los n xs
 | .idict es=>V.los n (es.map (·.2))
 | .attrs xs=>V.los n xs
 | .dead=>true
 | .priv=>true
noncomputable def Z0a (F:Fn) (K:Nat) (d:Def) (args:List V) (σ:List O):R V :=
 if args.length = d.params.length then
  (evSs F K d.body ⟨args.map some++List.replicate (d.slots - args.length) none,σ⟩).bind fun fl st=>
   if fl.val.lo σ.length && (st.σ.take σ.length).all (O.lo σ.length) then .ok fl.val ⟨[],st.σ.take σ.length⟩ else .ok fl.val ⟨[],st.σ⟩
 else .stuck
noncomputable def newR (C:Nat) (F:Fn) (σ:List O):R V:=(F Z0B [.inst C σ.length] (σ++[.attrs []])).bind fun r st=>match r with
 | .none=>.ok (.inst C σ.length) st
 | _=>.stuck
noncomputable def Z0c (C:Nat × (Option (List Int) × Str→Int)) (defs:List Def) (K:Nat):Nat→Fn
 | 0=>fun _ _ _=>.stuck
 | n + 1=>fun f args σ=>if f = Z0g then (if args.isEmpty then newR C.1 (Z0c C defs K n) σ else .ok (.int C.1) ⟨[],σ⟩) else R.need (defs.find? fun d=>d.name == f) fun d=>Z0a (Z0c C defs K n) K d args σ
theorem Z4W (C:Nat × (Option (List Int) × Str→Int)) (defs:List Def) (K n:Nat) (f:Str) (args:List V) (σ:List O):Z0c C defs K (n + 1) f args σ = (if f = Z0g then (if args.isEmpty then newR C.1 (Z0c C defs K n) σ else .ok (.int C.1) ⟨[],σ⟩) else R.need (defs.find? fun d=>d.name == f) fun d=>Z0a (Z0c C defs K n) K d args σ):=Eq.trans rfl rfl
theorem Zdd {x:V} {i:Unit} (h:x.none? = some i):x = .none:=by cases x <;> cases h; rfl
theorem Z0H {x:V} {i:Int} (h:x.int? = some i):x = .int i:=by cases x <;> cases h; rfl
theorem Z1r {x:V} {i:List Nat} (h:x.str? = some i):x = .str i:=by cases x <;> cases h; rfl
theorem Z9p {x:V} {i:List V} (h:x.tup? = some i):x = .tup i:=by cases x <;> cases h; rfl
theorem Z2Z {x:V} {i:List V} (h:x.lst? = some i):x = .lst i:=by cases x <;> cases h; rfl
theorem Z29 {x:V} {i:Nat} (h:x.ref? = some i):x = .ref i:=by cases x <;> cases h; rfl
theorem Zde {x:V} {i:Nat × Nat} (h:x.inst? = some i):x = .inst i.1 i.2:=by cases x <;> cases h; rfl
theorem Z0P {o:Option O} {i:List V} (h:lstO o = some i):o = some (.lst i):=by
 cases o with
 | none=>cases h
 | some o=>cases o <;> cases h; rfl
theorem Z5T {o:Option O} {i:List (Int × V)} (h:Z5P o = some i):o = some (.idict i):=by
 cases o with
 | none=>cases h
 | some o=>cases o <;> cases h; rfl
theorem Z9q {o:Option O} {i:List V} (h:Z7P o = some i):o = some (.attrs i):=by
 cases o with
 | none=>cases h
 | some o=>cases o <;> cases h; rfl
section
variable {α β:Type} {b:α} {st st':St} {G:Prop}
theorem Z0j {o:Option β} {f:β→R α} (h:R.need o f = .ok b st') (k:∀ a,o = some a→f a = .ok b st'→G):G:=by
 cases o with
 | none=>cases h
 | some a=>exact k a rfl h
theorem Z1s {o:Option β} {a:β} {f:β→R α} (h:o = some a):R.need o f = f a:=by subst h; rfl
theorem ZeD {m n:R α} (h:R.or m n = .ok b st') (k1:m = .ok b st'→G) (k2:n = .ok b st'→G):G:=by
 cases m with
 | ok a s=>exact k1 h
 | exc x s=>cases h
 | stuck=>exact k2 h
theorem Z6D {c:Prop} [Decidable c] {m:R α} (h:(if c then m else .stuck) = .ok b st') (k:c→m = .ok b st'→G):G:=by
 by_cases hc:c
 ·rw [if_pos hc] at h; exact k hc h
 ·rw [if_neg hc] at h; cases h
theorem Z0m {γ:Type} {d:γ} {o:Option β} {f:β→Option γ} {e:Option γ} (h:pick o f e = some d) (k1:∀ a,o = some a→f a = some d→G) (k2:e = some d→G):G:=by
 cases o with
 | none=>exact k2 h
 | some a=>exact k1 a rfl h
theorem bnd {γ:Type} {d:γ} {o:Option β} {f:β→Option γ} (h:o.bind f = some d) (k:∀ a,o = some a→f a = some d→G):G:=by
 cases o with
 | none=>cases h
 | some a=>exact k a rfl h
theorem Z0Q {γ:Type} {d:γ} {c:Prop} [Decidable c] {m:Option γ} (h:(if c then m else none) = some d) (k:c→m = some d→G):G:=by
 by_cases hc:c
 ·rw [if_pos hc] at h; exact k hc h
 ·rw [if_neg hc] at h; cases h
theorem ok1 {c:α} (h:R.ok b st = .ok c st'):c = b:=(R.ok.inj h).1.symm
theorem ok2 {c:α} (h:R.ok b st = .ok c st'):st' = st:=(R.ok.inj h).2.symm
end
theorem Sim.lift {α β:Type} {c:Cx} {t:Sem α} {o:Option β} {st:St} {rel:St→List Addr→Heap→α→β→Prop} {σ:List O} {μ:List Addr} {s:Shared} (h:∀ b,o = some b→Sim c t (.ok b st) rel σ μ s):Sim c t (R.lift o st) rel σ μ s:=by
 cases o with
 | none=>trivial
 | some b=>exact h b rfl
theorem Zdf {x y:V} {k:Int→Int→Option V} {z:V} (h:onI x y k = some z):∃ a b,x = .int a∧y = .int b∧k a b = some z :=
 El.x1_2 (Option.bind_eq_some_iff.mp h) fun a ea h=>El.x1_2 (Option.bind_eq_some_iff.mp h) fun b eb h=>⟨a,b,Z0H ea,Z0H eb,h⟩
theorem Zbq {x y:V} {st st':St} (h:popR x st = .ok y st'):∃ k xs,x = .ref k∧st.σ[k]? = some (.lst xs)∧xs.getLast? = some y∧st' = ⟨st.ρ,st.σ.set k (.lst xs.dropLast)⟩ :=
 Z0j h fun k ek h=>Z0j h fun xs e h=>Z0j h fun z hz h=>⟨k,xs,Z29 ek,Z0P e,hz.trans (congrArg some (ok1 h).symm),ok2 h⟩
theorem Zdg {is:List Nat} {x:V} {st st':St} (h:asT is x st = .ok () st'):∃ xs,x = .tup xs∧Z5S st is xs = some st' :=
 Z0j h fun xs ex h=>Z0j h fun s e h=>⟨xs,Z9p ex,e.trans (congrArg some (ok2 h).symm)⟩
theorem Zbr {st stF:St} {x y:V} {q:Option Int} {k:Nat} {fl:Fl} (h:setA q x y k st = .ok fl stF):∃ C m xs ys,x = .inst C m∧q = some ((C:Nat):Int)∧st.σ[m]? = some (.attrs xs)∧setAt xs k y = some ys∧ys.length ≤ attrNames.length∧fl = .next∧stF = ⟨st.ρ,st.σ.set m (.attrs ys)⟩ :=
 Z0j h fun p ep h=>Z6D h fun hq h=>Z0j h fun xs e h=>Z0j h fun ys es h=>Z6D h fun hz h=>⟨p.1,p.2,xs,ys,Zde ep,hq,Z9q e,es,hz,ok1 h,ok2 h⟩
theorem Z4X (F:Fn) (i:Int) (st:St):evE F (.int i) st = (.ok (.int i) st):=Eq.trans rfl rfl
theorem Zdh (F:Fn) (s:Str) (st:St):evE F (.str s) st = (.ok (.str s.cps.toList) st):=Eq.trans rfl rfl
theorem Z3r (F:Fn) (i:Nat) (st:St):evE F (.loc i) st = (match st.ρ[i]? with
  | some (some v)=>.ok v st
  | _=>.stuck):=Eq.trans rfl rfl
theorem Z9r (F:Fn) (i:Nat) (st:St):evE F (.fz i) st = (match st.ρ[i]? with
  | some (some (.ref n))=>(match st.σ[n]? with
   | some (.lst xs)=>.ok (.lst xs) ⟨st.ρ.set i (some (.lst xs)),st.σ.set n .dead⟩
   | _=>.stuck)
  | some (some (.lst xs))=>.ok (.lst xs) st
  | _=>.stuck):=Eq.trans rfl rfl
theorem Z9s (F:Fn) (op:Op) (a b:Ex) (st:St):evE F (.bin op a b) st = ((evE F a st).bind fun x st=>(evE F b st).bind fun y st=>R.lift (Z3o op x y) st):=Eq.trans rfl rfl
theorem Zdi (F:Fn) (es:Exs) (st:St):evE F (.tup es) st = ((evEs F es st).bind fun xs st=>if xs.length ≤ sizeLine then .ok (.tup xs) st else .stuck):=Eq.trans rfl rfl
theorem Zbs (F:Fn) (es:Exs) (st:St):evE F (.list es) st = ((evEs F es st).bind fun xs st=>if xs.length ≤ sizeLine then .ok (.lst xs) st else .stuck):=Eq.trans rfl rfl
theorem Zdj (F:Fn) (a i:Ex) (st:St):evE F (.sub a i) st = ((evE F a st).bind fun x st=>(evE F i st).bind fun y st=>R.lift (Z28 st.σ x y) st):=Eq.trans rfl rfl
theorem Z7Q (F:Fn) (elt:Ex) (k:Nat) (it:It) (ifs:Exs) (st:St):evE F (.comp elt k it ifs) st = ((evIt F it st).bind fun items st=>(Z3c k st.σ.length (evTs F ifs) (evE F elt) items ⟨st.ρ.set k none,st.σ++[.lst []]⟩).bind fun _ st'=>
   match st'.σ[st.σ.length]? with
   | some (.lst ys)=>.ok (.lst ys) ⟨st'.ρ.set k none,st'.σ.set st.σ.length .dead⟩
   | _=>.stuck):=Eq.trans rfl rfl
theorem Zbt (F:Fn)  (st:St):evEs F (.nil) st = (.ok [] st):=Eq.trans rfl rfl
theorem Z3s (F:Fn) (e:Ex) (es:Exs) (st:St):evEs F (.cons e es) st = ((evE F e st).bind fun x st=>(evEs F es st).bind fun xs st=>.ok (x :: xs) st):=Eq.trans rfl rfl
theorem Zbu (F:Fn)  (st:St):evTs F (.nil) st = (.ok true st):=Eq.trans rfl rfl
theorem Z3t (F:Fn) (a:Ex) (st:St):evIt F (.range1 a) st = ((evE F a st).bind fun x st=>(match x with
  | .int n=>if Z0O n then .ok (upTo 0 n) st else .stuck
  | _=>.stuck)):=Eq.trans rfl rfl
theorem Z6E (F:Fn) (K:Nat) (i:Nat) (e:Ex) (st:St):evS F K (.asg i e) st = ((evE F e st).bind fun x st=>.ok .next (setV st i x)):=Eq.trans rfl rfl
theorem Zdk (F:Fn) (K:Nat) (e:Ex) (st:St):evS F K (.ret e) st = ((evE F e st).bind fun x st=>.ok (.ret x) st):=Eq.trans rfl rfl
theorem Z15 (F:Fn) (K:Nat) (s:Sm) (ss:Sms) (st:St):evSs F K (.cons s ss) st = ((evS F K s st).bind fun fl st=>match fl with
  | .next=>evSs F K ss st
  | f=>.ok f st):=Eq.trans rfl rfl
theorem Z9t (k n:Nat) (t:St→R Bool) (e:St→R V) (st:St):Z3c k n t e [] st = .ok () st:=Eq.trans rfl rfl
theorem Z4y (k n:Nat) (t:St→R Bool) (e:St→R V) (x:V) (xs:List V) (st:St):Z3c k n t e (x :: xs) st = (t (setV st k x)).bind fun b st=>if b then (e st).bind fun y st=>(match st.σ[n]? with
   | some (.lst acc)=>if acc.length < sizeLine then Z3c k n t e xs ⟨st.ρ,st.σ.set n (.lst (acc++[y]))⟩ else .stuck
   | _=>.stuck) else Z3c k n t e xs st:=Eq.trans rfl rfl
theorem Z0r (step:V→St→R Fl) (st:St):forR step [] st = .ok .next st:=Eq.trans rfl rfl
theorem Z0l (step:V→St→R Fl) (x:V) (xs:List V) (st:St):forR step (x :: xs) st = (step x st).bind fun fl st=>match fl with
  | .next=>forR step xs st
  | .cont=>forR step xs st
  | .brk=>.ok .next st
  | .ret v=>.ok (.ret v) st:=Eq.trans rfl rfl
noncomputable def sl0 (x l:V):R V→R V
 | .ok h st=>R.lift (Z0A st.σ x l h) st
 | .exc e st=>.exc e st
 | .stuck=>.stuck
noncomputable def sl1 (x:V) (m:R V) (k:St→R V):R V:=m.bind fun l st=>sl0 x l (k st)
noncomputable def sl2 (m:R V) (k k':St→R V):R V:=m.bind fun x st=>sl1 x (k st) k'
noncomputable def min1 (x:V):R V→R V
 | .ok y st=>R.lift (onI x y fun a b=>some (.int (if b < a then b else a))) st
 | .exc e st=>.exc e st
 | .stuck=>.stuck
noncomputable def min2 (m:R V) (k:St→R V):R V:=m.bind fun x st=>min1 x (k st)
theorem Z10 {α β:Type} (m:R α) {f g:α→St→R β} (h:∀ a st,f a st = g a st):m.bind f = m.bind g:=congrArg m.bind (funext fun a=>funext fun st=>h a st)
theorem Z30 {q:Option Int} {σ:List O} {C n k:Nat} {xs:List V} {v:V} (hq:q = some (C:Int)) (h:σ[n]? = some (.attrs xs)) (hk:xs[k]? = some v):Z1Y q σ (.inst C n) k = some v:=by
 show (if q = some (C:Int) then (match σ[n]? with | some (.attrs xs)=>xs[k]? | _=>none) else none) = _
 rw [if_pos hq,h]; exact hk
theorem ZcI {ρ:List (Option V)} {σ:List O} {n:Nat} {k:Int} {v:V} {es:List (Int × V)} (h:σ[n]? = some (.idict es)) (hl:es.length < sizeLine):setI (.ref n) (.int k) v ⟨ρ,σ⟩ = .ok .next ⟨ρ,σ.set n (.idict (Z0K es k v))⟩:=by
 show R.or (R.need (Z5P σ[n]?) _) _ = _
 rw [Z1s (congrArg Z5P h),if_pos hl]; rfl
theorem Z9u {ρ:List (Option V)} {σ:List O} {C n k:Nat} {v:V} {xs ys:List V} {q:Option Int} (hq:q = some (C:Int)) (h:σ[n]? = some (.attrs xs)) (hs:setAt xs k v = some ys) (hl:ys.length ≤ attrNames.length):setA q (.inst C n) v k ⟨ρ,σ⟩ = .ok .next ⟨ρ,σ.set n (.attrs ys)⟩:=by
 show (if q = some (C:Int) then R.need (Z7P σ[n]?) _ else R.stuck) = _
 rw [if_pos hq,Z1s (congrArg Z7P h),Z1s hs]; exact if_pos hl
theorem ZeE {σ:List O} {n:Nat} {i:Int} {xs:List V} (h:σ[n]? = some (.lst xs)):Z28 σ (.ref n) (.int i) = Z0n xs i:=by
 show pick (lstO σ[n]?) _ _ = _
 rw [h]; rfl
theorem Z7R {y:V} {xs:List V} {l:List (List Nat)} {st:St} (hy:itL st.σ y = some xs) (h:Z1o xs = some l) (hz:l.flatten.length ≤ sizeLine):Z1p .join (.str []) y st = .ok (.str l.flatten) st:=by
 show R.need (itL st.σ y) _ = _
 rw [Z1s hy,Z1s h]; exact if_pos ⟨rfl,hz⟩
theorem Z6F {xs:List V} {l:List (List Nat)} (h:Z1o xs = some l) (hz:l.flatten.length ≤ sizeLine) (st:St):Z1p .join (.str []) (.lst xs) st = .ok (.str l.flatten) st:=Z7R (y:=.lst xs) rfl h hz
theorem Zfm {σ:List O} {y:V} {k:List Nat} {xs:List V} {l:List (List Nat)} (hy:itL σ y = some xs) (h:Z1o xs = some l):inD σ (.str k) y = some (l.any (· == k)):=by
 show (itL σ y).bind _ = _
 rw [hy]
 show (Z1o xs).map _ = _
 rw [h]; rfl
theorem Z1t (ρ:List (Option V)) (σ:List O) (n:Nat) (xs:List V) (y:V) (h:σ[n]? = some (.lst xs)) (hl:xs.length < sizeLine):Z1p .append (.ref n) y ⟨ρ,σ⟩ = .ok .none ⟨ρ,σ.set n (.lst (xs++[y]))⟩:=by
 show R.need (lstO σ[n]?) _ = _
 rw [Z1s (congrArg lstO h)]; exact if_pos hl
theorem Z0I (σ:List O) (n:Nat) (xs:List V) (h:σ[n]? = some (.lst xs)):Z5Q σ .append (.ref n) = true:=by
 show (match σ[n]? with | some (.lst _)=>true | _=>false) = _
 rw [h]
theorem ZcJ (σ:List O) (n:Nat) (xs:List V) (h:σ[n]? = some (.lst xs)):Z4p σ .len (.ref n) = some (.int xs.length):=by
 show (lstO σ[n]?).bind _ = _
 rw [h]; rfl
theorem Zdl (σ:List O) (x:List V) (l h):Z0A σ (.lst x) (.int l) (.int h) = some (.lst (cutL x (some l) (some h))):=Eq.trans rfl rfl
mutual
theorem V.eqb_refl:∀ x:V,x.lo 0 = true→V.eqb x x = true
 | .none,_=>Eq.trans rfl rfl
 | .bool b,_=>beq_self_eq_true b
 | .int i,_=>beq_self_eq_true i
 | .str s,_=>beq_self_eq_true s
 | .tup xs,h=>V.eqbs_refl xs h
 | .lst xs,h=>V.eqbs_refl xs h
 | .ref n,h=>absurd (of_decide_eq_true (show decide (n < 0) = true from h)) (Nat.not_lt_zero _)
 | .inst _ n,h=>absurd (of_decide_eq_true (show decide (n < 0) = true from h)) (Nat.not_lt_zero _)
theorem V.eqbs_refl:∀ xs:List V,V.los 0 xs = true→V.eqbs xs xs = true
 | [],_=>Eq.trans rfl rfl
 | x :: xs,h=>Bool.and_eq_true_iff.mpr ⟨V.eqb_refl x (Bool.and_eq_true_iff.mp h).1,V.eqbs_refl xs (Bool.and_eq_true_iff.mp h).2⟩
end
theorem Z4z {n:Nat}:V.lo n .none = true:=Eq.trans rfl rfl
theorem Z1u {n:Nat} (i:Int):V.lo n (.int i) = true:=Eq.trans rfl rfl
theorem Z2x {n:Nat} (i:Bool):V.lo n (.bool i) = true:=Eq.trans rfl rfl
theorem Z09 {n:Nat} (i:List Nat):V.lo n (.str i) = true:=Eq.trans rfl rfl
theorem Z0J {n:Nat} (xs:List V):V.lo n (.tup xs) = V.los n xs:=Eq.trans rfl rfl
theorem Z0w {n:Nat} (xs:List V):V.lo n (.lst xs) = V.los n xs:=Eq.trans rfl rfl
theorem Z0R {n:Nat} (k:Nat):V.lo n (.ref k) = decide (k < n):=Eq.trans rfl rfl
theorem Z2y {n:Nat} (C k:Nat):V.lo n (.inst C k) = decide (k < n):=Eq.trans rfl rfl
theorem Z0f {n:Nat}:V.los n [] = true:=Eq.trans rfl rfl
theorem Z03 {n:Nat} (x:V) (xs:List V):V.los n (x :: xs) = (V.lo n x && V.los n xs):=Eq.trans rfl rfl
mutual
theorem V.lo_mono {m n:Nat} (h:m ≤ n):∀ x:V,x.lo m = true→x.lo n = true
 | .none,_=>Z4z
 | .bool b,_=>Z2x b
 | .int i,_=>Z1u i
 | .str s,_=>Z09 s
 | .tup xs,q=>by rw [Z0J] at q ⊢; exact V.los_mono h xs q
 | .lst xs,q=>by rw [Z0w] at q ⊢; exact V.los_mono h xs q
 | .ref k,q=>by rw [Z0R] at q ⊢; exact decide_eq_true (Nat.lt_of_lt_of_le (of_decide_eq_true q) h)
 | .inst C k,q=>by rw [Z2y] at q ⊢; exact decide_eq_true (Nat.lt_of_lt_of_le (of_decide_eq_true q) h)
theorem V.los_mono {m n:Nat} (h:m ≤ n):∀ xs:List V,V.los m xs = true→V.los n xs = true
 | [],_=>Z0f
 | x :: xs,q=>by
  rw [Z03,Bool.and_eq_true] at q ⊢
  exact ⟨V.lo_mono h x q.1,V.los_mono h xs q.2⟩
end
theorem O.lo_mono {m n:Nat} (h:m ≤ n) {o:O} (q:o.lo m = true):o.lo n = true:=by
 cases o with
 | lst xs=>exact V.los_mono h _ q
 | idict es=>exact V.los_mono h _ q
 | attrs xs=>exact V.los_mono h _ q
 | dead=>rfl
 | priv=>rfl
theorem Z1H (i:List Nat):V.depth? (.str i) = some 0:=Eq.trans rfl rfl
theorem Z2a (xs:List V):V.depth? (.tup xs) = (V.depths? xs).map (· + 1):=Eq.trans rfl rfl
theorem Z4Y (xs:List V):V.depth? (.lst xs) = (V.depths? xs).map (· + 1):=Eq.trans rfl rfl
theorem Z0S:V.depths? [] = some 0:=Eq.trans rfl rfl
theorem Z0k (x:V) (xs:List V):V.depths? (x :: xs) = (V.depth? x).bind fun a=>(V.depths? xs).bind fun b=>some (max a b):=Eq.trans rfl rfl
theorem Zfn (σ:List O) (x y:V) (hx:x.flat64 = true) (hy:y.flat64 = true):Z1U σ .eq x y = some (V.eqb x y):=by show (if x.flat64 && y.flat64 then _ else none) = _; rw [hx,hy]; rfl
theorem Z1V (a b:Int) (h:(Z0s a || Z0s b) = true):Z4x (.int a) (.int b) = some (.int (a * b)):=if_pos h
theorem Zdm (a b:Int) (h:b ≠ 0):Z3o .fdiv (.int a) (.int b) = some (.int (Int.fdiv a b)):=if_neg h
theorem Z9v (a b:Int) (h:b ≠ 0):Z3o .mod (.int a) (.int b) = some (.int (Int.fmod a b)):=if_neg h
theorem Z6G (x y:List Nat) (h:x.length + y.length ≤ sizeLine):Z2Y (.str x) (.str y) = some (.str (x++y)):=if_pos h
theorem Z1v (σ:List O) (xs:List V) (i:Int):Z28 σ (.lst xs) (.int i) = Z0n xs i:=Eq.trans rfl rfl
theorem Z2b {j:Nat} (h:j < 2 ^ 31):Z0s (j:Int) = true:=by
 have h1:(-(2 ^ 63):Int) ≤ (j:Int):=by lia
 have h2:((j:Int):Int) < 2 ^ 63:=by lia
 unfold Z0s
 rw [decide_eq_true h1,decide_eq_true h2]; rfl
theorem Z0T {α:Type} (xs:List α) {j:Nat} (h:j < 2 ^ 31):Z0n xs (j:Int) = xs[j]?:=by
 unfold Z0n; rw [if_pos (Z2b h),if_pos (Int.natCast_nonneg j),Int.toNat_natCast]
theorem Z6H {α:Type} (xs:List α) {i:Int} {n:Nat} (hn:0 < n) (hs:n < 2 ^ 31) (hx:n ≤ xs.length):∃ x,Z0n xs (Int.fmod i n) = some x∧x ∈ xs:=by
 have h1:0 ≤ Int.fmod i n:=by rw [Int.fmod_eq_emod_of_nonneg _ (by lia)]; exact Int.emod_nonneg _ (by lia)
 have h2:Int.fmod i n < n:=by rw [Int.fmod_eq_emod_of_nonneg _ (by lia)]; exact Int.emod_lt_of_pos _ (by lia)
 refine El.x1_1 (Int.eq_ofNat_of_zero_le h1) fun k hk=>?_
 have hk':Int.fmod i n = (k:Int):=hk
 have hlt:k < xs.length:=by rw [hk'] at h2; lia
 rw [hk',Z0T xs (by rw [hk'] at h2; lia)]
 exact ⟨xs[k],by simp [hlt],List.getElem_mem hlt⟩
theorem qset (ρ:List (Option V)) (σ:List O) (i:Nat) (x:V):setV ⟨ρ,σ⟩ i x = ⟨ρ.set i (some x),σ⟩:=Eq.trans rfl rfl
noncomputable def Ret (m:R Fl) (r:V) (σ:List O):Prop:=∃ ρ τ,m = .ok (.ret r) ⟨ρ,σ++τ⟩
theorem Z2c {F:Fn} {K:Nat} {d:Def} {args:List V} {σ:List O} {r:V} (hl:args.length = d.params.length)
  (h:Ret (evSs F K d.body ⟨args.map some++List.replicate (d.slots - args.length) none,σ⟩) r σ) (hr:r.lo σ.length = true) (hσ:σ.all (O.lo σ.length) = true):Z0a F K d args σ = .ok r ⟨[],σ⟩:=by
 refine El.x2_1 h fun ρ τ h=>?_
 unfold Z0a
 rw [if_pos hl,h]
 simp only [R.bind_ok,Fl.val,List.take_left',hr,hσ,Bool.and_self,if_true]
theorem Ret.mk {m:R Fl} {r:V} {σ τ:List O} {ρ:List (Option V)} (h:m = .ok (.ret r) ⟨ρ,σ++τ⟩):Ret m r σ:=⟨ρ,τ,h⟩
theorem Ret.mk0 {m:R Fl} {r:V} {σ:List O} {ρ:List (Option V)} (h:m = .ok (.ret r) ⟨ρ,σ⟩):Ret m r σ:=⟨ρ,[],by rw [h,List.append_nil]⟩
theorem Z7S {step:V→St→R Fl} (P:Nat→St→Prop):∀ (xs:List V) (k:Nat) (st:St),(∀ i x st,xs[i]? = some x→P (k + i) st→∃ st',step x st = .ok .next st'∧P (k + i + 1) st')→P k st→∃ st',forR step xs st = .ok .next st'∧P (k + xs.length) st'
 | [],k,st,_,h=>⟨st,Z0r ..,h⟩
 | x :: xs,k,st,hs,h=>by
  refine El.x1_2 (hs 0 x st rfl h) fun st₁ h1 h2=>?_
  obtain ⟨st₂,h3,h4⟩:=Z7S P xs (k + 1) st₁ (fun i y st' hy hP=>by
   have:=hs (i + 1) y st' (by simpa using hy) (by rw [show k + (i + 1) = k + 1 + i from by lia]; exact hP)
   rw [show k + (i + 1) + 1 = k + 1 + i + 1 from by lia] at this
   exact this) h2
  refine ⟨st₂,?_,by rw [List.length_cons,show k + (xs.length + 1) = k + 1 + xs.length from by lia]; exact h4⟩
  rw [Z0l,h1,R.bind_ok]
  exact h3
theorem Zfo {ρ:List (Option V)} {σ:List O} {n:Nat} {xs:List V} {x:V} (h:σ[n]? = some (.lst (xs++[x]))):popR (.ref n) ⟨ρ,σ⟩ = .ok x ⟨ρ,σ.set n (.lst xs)⟩:=by
 show R.need (lstO σ[n]?) _ = _
 rw [Z1s (congrArg lstO h),Z1s (List.getLast?_concat)]
 rw [List.dropLast_concat]
end Mine
namespace Mine
open PySem PySem.Sem
theorem Z1w {M:Model} {Γ:Ctx} {p:Pos} {t:Sem PySem.Fin} {fs:List Frame} {s s':Shared} {e:End} (h:Runs M Γ p t fs s e s'):s.heap.objs.size ≤ s'.heap.objs.size:=by
 induction h <;> (try simp only [Shared.setGen,Heap.size_push,Heap.size_after_update] at *) <;> lia
theorem Z3u {M:Model} {Γ:Ctx} {p:Pos} {s s':Shared} {r:Result} (h:Returns M Γ p s r s'):s.heap.objs.size ≤ s'.heap.objs.size:=Z1w h
theorem Z4Z {M:Model} {Γ:Ctx} {p:Pos} {g:Nat} {r:Resume} {s s':Shared} {res:GenResult} (h:Wakes M Γ p g r s res s'):s.heap.objs.size ≤ s'.heap.objs.size:=by
 unfold Wakes at h
 split at h
 ·exact h.elim
 ·split at h
  ·obtain ⟨e₁,s₁,hr,_,_,rfl⟩:=h; exact (Z1w hr:(s.setGen g .running).heap.objs.size ≤ s₁.heap.objs.size)
  ·rw [h.2]; exact Nat.le_refl _
  ·rw [h.2]; exact Nat.le_refl _
 ·obtain ⟨e₁,s₁,hr,_,_,rfl⟩:=h; exact (Z1w hr:(s.setGen g .running).heap.objs.size ≤ s₁.heap.objs.size)
 ·rw [h.2]; exact Nat.le_refl _
 ·rw [h.2]; exact Nat.le_refl _
theorem Zdn {α:Type} (M:Model) (Γ:Ctx) (n:Nat) (t:Sem α):∀ (Q:α→Pos→Shared→Prop) (E:Value→Pos→Shared→Prop) (p:Pos) (s:Shared),n ≤ s.heap.objs.size→wp M Γ t Q E p s →
  wp M Γ t (fun a p' s'=>n ≤ s'.heap.objs.size∧Q a p' s') (fun e p' s'=>n ≤ s'.heap.objs.size∧E e p' s') p s:=by
 induction t with
 | pure a=>intro Q E p s hn h; exact ⟨hn,h⟩
 | raise e=>intro Q E p s hn h; exact ⟨hn,h⟩
 | unsupported _=>intro Q E p s _ h; exact h
 | finish _=>intro Q E p s _ h; exact h
 | rule _ k ih=>intro Q E p s hn h; exact ih () Q E p s hn h
 | «at» p' k ih=>intro Q E p s hn h; exact ih () Q E p' s hn h
 | load a _ k ih=>intro Q E p s hn h; obtain ⟨o,ho,h⟩:=h; exact ⟨o,ho,ih o Q E p s hn h⟩
 | update a _ f k ih=>intro Q E p s hn h; exact ⟨h.1,ih () Q E p _ (by simpa using hn) h.2⟩
 | loadIfAlive a k ih=>intro Q E p s hn h; exact ih _ Q E p s hn h
 | point _ k ih=>intro Q E p s hn h; exact ih () Q E p s hn h
 | register _ _=>intro Q E p s _ h; exact h
 | alloc o k ih=>intro Q E p s hn h; exact ih _ Q E p _ (by simp; lia) h
 | fresh k ih=>intro Q E p s hn h; exact ih _ Q E p _ hn h
 | ask k ih=>intro Q E p s hn h; exact ih _ Q E p s hn h
 | choose src m k ih=>intro Q E p s hn h; exact ⟨h.1,ih _ Q E p _ hn h.2⟩
 | os q _ k ih=>intro Q E p s hn h; exact ih _ Q E p _ hn h
 | call c hd _ _ k ih=>intro Q E p s hn h; obtain ⟨r,s',hr,h⟩:=h; exact ⟨r,s',hr,ih r Q E p s' (Nat.le_trans hn (Z3u hr)) h⟩
 | handled own k ih=>intro Q E p s hn h; exact ih _ Q E p s hn h
 | genState g k ih=>intro Q E p s hn h; obtain ⟨st,hs,h⟩:=h; exact ⟨st,hs,ih _ Q E p s hn h⟩
 | newGen c k ih=>intro Q E p s hn h; exact ih _ Q E p _ hn h
 | resume g r _ k ih=>intro Q E p s hn h; obtain ⟨res,s',hw,h⟩:=h; exact ⟨res,s',hw,ih res Q E p s' (Nat.le_trans hn (Z4Z hw)) h⟩
 | yield _ _ _ _=>intro Q E p s _ h; exact h
 | stack k ih=>intro Q E p s hn h; exact ih _ Q E p s hn h
 | fork _ _=>intro Q E p s _ h; exact h
 | thread k ih=>intro Q E p s hn h; exact ih _ Q E p s hn h
 | await _ _ _ _ _=>intro Q E p s _ h; exact h
theorem Z04 {α:Type} {M:Model} {A:Around} {s:Shared} {t:Sem α} {Q:α→Shared→Prop} {E:Value→Shared→Prop}
  (h:wpAny M A t (fun a s'=>s.heap.objs.size ≤ s'.heap.objs.size→Q a s') (fun e s'=>s.heap.objs.size ≤ s'.heap.objs.size→E e s') s):wpAny M A t Q E s :=
 fun Γ p hΓ=>Sem.wp_mono M Γ t (fun _ _ _ x=>x.2 x.1) (fun _ _ _ x=>x.2 x.1) p s (Zdn M Γ s.heap.objs.size t _ _ p s (Nat.le_refl _) (h Γ p hΓ))
end Mine
namespace Mine
open PySem PySem.Calls PyProof.Rows
structure CxOk (c:Cx):Prop where
 pyl:∀ s:Shared,(∀ b o,c.base.get? b = some o→s.heap.get? b = some o)→PylongRoom (model c.prog c.w) c.A s
 hh:c.A.handled = none
 units:c.A.units + 100 < cLine
 sys:∃ o,c.base.get? sysModules = some o
section
variable {c:Cx} {st:St} {μ:List Addr} {s:Shared} {T:Addr→Prop} {h:Heap} {u v:Value}
theorem RepV.int_inv {i:Int} (r:RepV T μ h v (.int i)):∃ t,v = .int i t:=r.out
theorem RepV.bool_inv {b:Bool} (r:RepV T μ h v (.bool b)):v = .bool b:=r.out
theorem RepV.none_inv (r:RepV T μ h v .none):v = .none:=r.out
theorem RepV.str_inv {l:List Nat} (r:RepV T μ h v (.str l)):∃ x t,v = .str x t∧x.cps.toList = l∧PyData.strOk x = true∧x.length ≤ sizeLine:=r.out
theorem RepV.tup_inv {xs:List V} (r:RepV T μ h v (.tup xs)):∃ a vs,v = .ref a∧IsTup h a vs∧vs.size ≤ sizeLine∧RepVs T μ h vs.toList xs :=
 El.x4_7 r.tupI fun a o vs n e ho hc hd hz _ r=>⟨a,vs,e,⟨o,ho,hc,n,hd⟩,hz,r⟩
theorem RepV.lst_inv {xs:List V} (r:RepV T μ h v (.lst xs)):∃ a vs,v = .ref a∧h.IsList a vs∧vs.size ≤ sizeLine∧RepVs T μ h vs.toList xs :=
 El.x4_7 r.lstI fun a o vs n e ho hc hd hz _ r=>⟨a,vs,e,⟨o,ho,hc,n,hd⟩,hz,r⟩
theorem Inv.ref_inv (I:Inv c st μ h) {n:Nat} {xs:List V} (r:RepV T μ h v (.ref n)) (e:st.σ[n]? = some (.lst xs)) :
  ∃ a vs,v = .ref a∧h.PlainList a vs∧vs.size ≤ sizeLine∧RepVs (Tr st.σ μ) μ h vs.toList xs:=by
 refine El.x1_2 r.refI fun a9 e9 q=>?_
 try clear a9
 subst e9
 refine El.x1_2 (I.objs n _ e) fun a ha ro=>?_
 try clear a; try clear e9
 obtain rfl:=Option.some.inj (q.symm.trans ha)
 refine El.x2_3 ro.lst_inv fun vs nn ho hz r=>?_
 exact ⟨_,_,rfl,⟨_,ho⟩,hz,r⟩
end
section
variable {c:Cx} {st:St} {μ:List Addr} {s:Shared} {u v:Value} {t:Sem Value}
theorem Z0u (I:Inv c st μ s.heap) {i:Int} (h:∀ Q:Value→Shared→Prop,(∀ tk n,Q (.int i tk) { s with toks:=n })→wpAny (model c.prog c.w) c.A t Q (fun _ _=>False) s):Sim c t (.ok (.int i) st) rV st.σ μ s :=
 Sim.leaf I (h _ fun tk n=>⟨.refl,.refl,.int i tk⟩)
theorem Z05 (I:Inv c st μ s.heap) {b:Bool} (h:∀ Q:Value→Shared→Prop,(∀ n,Q (.bool b) { s with toks:=n })→wpAny (model c.prog c.w) c.A t Q (fun _ _=>False) s):Sim c t (.ok (.bool b) st) rV st.σ μ s :=
 Sim.leaf I (h _ fun n=>⟨.refl,.refl,.bool b⟩)
theorem Z2d (I:Inv c st μ s.heap) {x:Str} (h1:PyData.strOk x = true) (h2:x.length ≤ sizeLine) {l:List Nat} (e:x.cps.toList = l)
  (h:∀ Q:Value→Shared→Prop,(∀ tk n,Q (.str x tk) { s with toks:=n })→wpAny (model c.prog c.w) c.A t Q (fun _ _=>False) s):Sim c t (.ok (.str l) st) rV st.σ μ s:=by
 subst e
 exact Sim.leaf I (h _ fun tk n=>⟨.refl,.refl,.str x tk h1 h2⟩)
theorem Z1I (I:Inv c st μ s.heap) {x:V} (r:RepV (Tr st.σ μ) μ s.heap v x) (h:∀ Q:Value→Shared→Prop,(∀ n,Q v { s with toks:=n })→wpAny (model c.prog c.w) c.A t Q (fun _ _=>False) s):Sim c t (.ok x st) rV st.σ μ s :=
 Sim.leaf I (h _ fun n=>⟨.refl,.refl,r⟩)
theorem Z31 (I:Inv c st μ s.heap):¬ Tr st.σ μ s.heap.objs.size:=fun q=>Nat.lt_irrefl _ (I.lt _ q.mem)
theorem Z1d (I:Inv c st μ s.heap) {vs:List Value} {xs:List V} (r:RepVs (Tr st.σ μ) μ s.heap vs xs) (hz:vs.length ≤ sizeLine) :
  RepV (Tr st.σ μ) μ (s.heap.push { cls:=.type "list",data:=.seq vs.toArray }) (.ref s.heap.objs.size) (.lst xs) :=
 .lst (Heap.get?_push_size _ rfl) rfl rfl (by simpa using hz) (Z31 I) (by simpa using r.ext (.push _))
theorem Z5U (I:Inv c st μ s.heap) {vs:List Value} {xs:List V} (r:RepVs (Tr st.σ μ) μ s.heap vs xs) (hz:vs.length ≤ sizeLine) :
  RepV (Tr st.σ μ) μ (s.heap.push { cls:=.type "tuple",data:=.seq vs.toArray }) (.ref s.heap.objs.size) (.tup xs) :=
 .tup (Heap.get?_push_size _ rfl) rfl rfl (by simpa using hz) (Z31 I) (by simpa using r.ext (.push _))
end
noncomputable def opM:Op→Operator
 | .add=>.Add
 | .sub=>.Sub
 | .mul=>.Mult
 | .fdiv=>.FloorDiv
 | .mod=>.Mod
theorem Zdo (x y:Str):(x++y).cps.toList = x.cps.toList++y.cps.toList:=by
 show (x.cps++y.cps).toList = _
 simp
theorem Zdp (x y:Str):(x++y).length = x.length + y.length:=by
 show (x.cps++y.cps).size = x.cps.size + y.cps.size
 simp
theorem Z5V {x y:Str} (hx:PyData.strOk x = true) (hy:PyData.strOk y = true):PyData.strOk (x++y) = true:=by
 unfold PyData.strOk at *
 rw [Array.all_eq_true_iff_forall_mem] at *
 intro a ha
 rcases Array.mem_append.mp (show a ∈ x.cps++y.cps from ha) with h | h
 ·exact hx a h
 ·exact hy a h
theorem Z3v {i:Int} (h:Z0s i = true):Builtin.Int.intBits i ≤ 64:=by
 simp only [Z0s,Bool.and_eq_true,decide_eq_true_eq] at h
 exact intBits_le_64 (by lia) (by lia)
theorem Z11 {n:Nat} (h:n ≤ sizeLine):(n:Int) < 2 ^ 63:=by
 have e:sizeLine = 16777216:=by decide
 lia
section
variable {c:Cx} {st:St} {μ:List Addr} {s:Shared} {u v:Value}
theorem Zdq {α β} {a:List α} {b:List β} (h:a.length = b.length):a.isEmpty = b.isEmpty:=by
 cases a <;> cases b <;> first | rfl | cases h
theorem Z9w {T:Addr→Prop} {h:Heap} {vs:Array Value} {xs:List V} (r:RepVs T μ h vs.toList xs):(!vs.isEmpty) = !xs.isEmpty:=by
 rw [← Zdq r.length,Array.isEmpty_toList]
theorem ZeF (x:Str):((x.length:Int) != 0) = !x.cps.toList.isEmpty:=by
 show ((x.cps.size:Int) != 0) = _
 rw [← Array.length_toList]
 cases x.cps.toList with
 | nil=>rfl
 | cons a l=>rw [List.length_cons]; exact (bne_iff_ne).mpr (Int.ofNat_ne_zero.mpr (Nat.succ_ne_zero _))
theorem Z1J (I:Inv c st μ s.heap) {x:V} (rx:RepV (Tr st.σ μ) μ s.heap u x):Sim c (truthy u) (R.lift (x.truthy st.σ) st) rEq st.σ μ s:=by
 have leaf:∀ b:Bool,(∀ Q:Bool→Shared→Prop,(∀ n,Q b { s with toks:=n })→wpAny (model c.prog c.w) c.A (truthy u) Q (fun _ _=>False) s)→Sim c (truthy u) (.ok b st) rEq st.σ μ s :=
  fun b h=>Sim.leaf I (h _ fun n=>⟨.refl,.refl,rfl⟩)
 cases x with
 | none=>obtain rfl:=rx.none_inv; exact leaf _ fun Q hq=>(fun _ _ _=>hq _)
 | bool b=>obtain rfl:=rx.bool_inv; exact leaf _ fun Q hq=>wpAny_truthy_bool (hq _)
 | int i=>obtain ⟨t,rfl⟩:=rx.int_inv; exact leaf _ fun Q hq=>P.truthy_int (hq _)
 | str l=>
  refine El.x2_4 rx.str_inv fun x t q0 q1 h1 h2=>?_
  subst q0 q1
  exact leaf (!x.cps.toList.isEmpty) fun Q hq=>P.truthy_str (Int.not_le.mpr (Z11 h2)) (by rw [ZeF]; exact hq _)
 | tup xs=>
  refine El.x2_4 rx.tup_inv fun a vs q hl hz r=>?_
  subst q
  exact leaf (!xs.isEmpty) fun Q hq=>PyProof.Rows.truthy_tuple hl (Z11 hz) (by rw [Z9w r]; exact hq _)
 | lst xs=>
  refine El.x2_4 rx.lst_inv fun a vs q hl hz r=>?_
  subst q
  exact leaf (!xs.isEmpty) fun Q hq=>wpAny_truthy_list hl (Z11 hz) (by rw [Z9w r]; exact hq _)
 | ref n=>
  refine Sim.lift fun b hb=>bnd (o:=lstO st.σ[n]?) (f:=fun xs=>some (!xs.isEmpty)) hb fun xs hx hb=>El.x2_4 (I.ref_inv rx (Z0P hx)) fun a vs q hl hz r=>?_
  subst q
  rw [← Option.some.inj hb]
  exact leaf (!xs.isEmpty) fun Q hq=>wpAny_truthy_list hl.isList (Z11 hz) (by rw [Z9w r]; exact hq _)
 | inst C n=>trivial
end
mutual
noncomputable def V.toD:V→PyData
 | .none=>.none
 | .bool b=>.bool b
 | .int i=>.int i
 | .str l=>.str ⟨l.toArray⟩
 | .tup xs=>.tuple (V.toDs xs)
 | .lst xs=>.list (V.toDs xs)
 | .ref _=>.none
 | .inst _ _=>.none
noncomputable def V.toDs:List V→List PyData
 | []=>[]
 | x :: xs=>V.toD x :: V.toDs xs
end
mutual
theorem Z3w:∀ (x:V) (n:Nat),x.depth? = some n→x.toD.depth = n
 | .none,n,h=>Option.some.inj h
 | .bool b,n,h=>Option.some.inj h
 | .int i,n,h=>Option.some.inj h
 | .str l,n,h=>Option.some.inj h
 | .tup xs,n,h=>El.x1_2 (Option.map_eq_some_iff.mp (show (V.depths? xs).map (· + 1) = some n from h)) fun m hm q=>(congrArg (· + 1) (Z2z xs m hm)).trans q
 | .lst xs,n,h=>El.x1_2 (Option.map_eq_some_iff.mp (show (V.depths? xs).map (· + 1) = some n from h)) fun m hm q=>(congrArg (· + 1) (Z2z xs m hm)).trans q
 | .ref k,n,h=>by cases h
 | .inst _ k,n,h=>by cases h
theorem Z2z:∀ (xs:List V) (n:Nat),V.depths? xs = some n→PyData.depthAll (V.toDs xs) = n
 | [],n,h=>Option.some.inj h
 | x :: xs,n,h=>bnd (o:=x.depth?) h fun a ha h=>bnd (o:=V.depths? xs) h fun b hb h=>by
  show max (PyData.depth x.toD) (PyData.depthAll (V.toDs xs)) = n
  rw [Z3w x a ha,Z2z xs b hb]; exact Option.some.inj h
end
mutual
theorem Z9x:∀ (x y:V),(∃ n,x.depth? = some n)→(∃ n,y.depth? = some n)→V.eqb x y = PyData.eqv x.toD y.toD
 | .ref k,y,h,_=>by obtain ⟨_,h⟩:=h; cases h
 | x,.ref k,_,h=>by obtain ⟨_,h⟩:=h; cases h
 | .inst _ k,y,h,_=>by obtain ⟨_,h⟩:=h; cases h
 | x,.inst _ k,_,h=>by obtain ⟨_,h⟩:=h; cases h
 | .tup xs,.tup ys,h,h'=>by
  obtain ⟨n,h⟩:=h; obtain ⟨n',h'⟩:=h'
  refine El.x1_2 (Option.map_eq_some_iff.mp (show (V.depths? xs).map (· + 1) = some n from h)) fun m h _=>?_
  refine El.x1_2 (Option.map_eq_some_iff.mp (show (V.depths? ys).map (· + 1) = some n' from h')) fun m' h' _=>?_
  exact Z50 xs ys ⟨m,h⟩ ⟨m',h'⟩
 | .lst xs,.lst ys,h,h'=>by
  obtain ⟨n,h⟩:=h; obtain ⟨n',h'⟩:=h'
  refine El.x1_2 (Option.map_eq_some_iff.mp (show (V.depths? xs).map (· + 1) = some n from h)) fun m h _=>?_
  refine El.x1_2 (Option.map_eq_some_iff.mp (show (V.depths? ys).map (· + 1) = some n' from h')) fun m' h' _=>?_
  exact Z50 xs ys ⟨m,h⟩ ⟨m',h'⟩
 | .str a,.str b,_,_=>by
  show (a == b) = ((⟨a.toArray⟩:Str) == ⟨b.toArray⟩)
  rw [Bool.eq_iff_iff,beq_iff_eq,beq_iff_eq]
  constructor
  ·rintro rfl; rfl
  ·intro h; have:=congrArg (fun x:Str=>x.cps.toList) h; simpa using this
 | .none,.none,_,_ | .none,.bool _,_,_ | .none,.int _,_,_ | .none,.str _,_,_ | .none,.tup _,_,_ | .none,.lst _,_,_=>by rfl
 | .bool _,.none,_,_ | .bool _,.bool _,_,_ | .bool _,.int _,_,_ | .bool _,.str _,_,_ | .bool _,.tup _,_,_ | .bool _,.lst _,_,_=>by rfl
 | .int _,.none,_,_ | .int _,.bool _,_,_ | .int _,.int _,_,_ | .int _,.str _,_,_ | .int _,.tup _,_,_ | .int _,.lst _,_,_=>by rfl
 | .str _,.none,_,_ | .str _,.bool _,_,_ | .str _,.int _,_,_ | .str _,.tup _,_,_ | .str _,.lst _,_,_=>by rfl
 | .tup _,.none,_,_ | .tup _,.bool _,_,_ | .tup _,.int _,_,_ | .tup _,.str _,_,_ | .tup _,.lst _,_,_=>by rfl
 | .lst _,.none,_,_ | .lst _,.bool _,_,_ | .lst _,.int _,_,_ | .lst _,.str _,_,_ | .lst _,.tup _,_,_=>by rfl
theorem Z50:∀ (xs ys:List V),(∃ n,V.depths? xs = some n)→(∃ n,V.depths? ys = some n)→V.eqbs xs ys = PyData.eqvAll (V.toDs xs) (V.toDs ys)
 | [],[],_,_=>rfl
 | [],_ :: _,_,_=>rfl
 | _ :: _,[],_,_=>rfl
 | x :: xs,y :: ys,h,h'=>by
  obtain ⟨n,h⟩:=h; obtain ⟨n',h'⟩:=h'
  refine bnd (o:=x.depth?) h fun a ha h=>bnd (o:=V.depths? xs) h fun b hb _=>bnd (o:=y.depth?) h' fun a' ha' h'=>bnd (o:=V.depths? ys) h' fun b' hb' _=>?_
  show (V.eqb x y && V.eqbs xs ys) = (PyData.eqv x.toD y.toD && PyData.eqvAll (V.toDs xs) (V.toDs ys))
  rw [Z9x x y ⟨_,ha⟩ ⟨_,ha'⟩,Z50 xs ys ⟨_,hb⟩ ⟨_,hb'⟩]
end
theorem RepV.reads {T:Addr→Prop} {μ:List Addr} {h:Heap} {v:Value} {x:V} (r:RepV T μ h v x):(∃ n,x.depth? = some n)→∃ as,Reads h v x.toD as∧x.toD.canLay0 = true :=
 RepV.rec (motive_1:=fun v x _=>(∃ n,x.depth? = some n)→∃ as,Reads h v x.toD as∧x.toD.canLay0 = true) (motive_2:=fun vs xs _=>(∃ n,V.depths? xs = some n)→∃ as,ReadsAll h vs (V.toDs xs) as∧PyData.canLayAll0 (V.toDs xs) = true)
  (fun _=>⟨[],.none,rfl⟩) (fun b _=>⟨[],.bool b,rfl⟩) (fun i t _=>⟨[],.int i t,rfl⟩) (fun x t h1 h2 _=>⟨[],Reads.str x t,h1⟩)
  (fun {a o vs n xs} ho hc hd hz hT _ ih hn=>by
   refine El.x1_1 hn fun m hm=>?_
   have hm:(V.depths? xs).map (· + 1) = some m:=hm
   refine El.x1_2 (Option.map_eq_some_iff.mp hm) fun k hk _=>?_
   refine El.x1_2 (ih ⟨k,hk⟩) fun as ra rc=>?_
   exact ⟨_,.tuple ho hc hd ra,rc⟩)
  (fun {a o vs n xs} ho hc hd hz hT _ ih hn=>by
   refine El.x1_1 hn fun m hm=>?_
   have hm:(V.depths? xs).map (· + 1) = some m:=hm
   refine El.x1_2 (Option.map_eq_some_iff.mp hm) fun k hk _=>?_
   refine El.x1_2 (ih ⟨k,hk⟩) fun as ra rc=>?_
   exact ⟨_,.list ho hc hd ra,rc⟩)
  (fun _ hn=>by obtain ⟨m,hm⟩:=hn; cases hm) (fun _ _ _ hn=>by obtain ⟨m,hm⟩:=hn; cases hm) (fun _=>⟨[],.nil,rfl⟩)
  (fun {v vs x xs} _ _ a b hn=>by
   refine El.x1_1 hn fun m hm=>bnd (o:=x.depth?) hm fun p hp hm=>bnd (o:=V.depths? xs) hm fun q hq _=>?_
   refine El.x1_2 (a ⟨_,hp⟩) fun as ra rc=>?_
   refine El.x1_2 (b ⟨_,hq⟩) fun bs rb rd=>?_
   refine ⟨_,.cons ra rb,?_⟩
   show (x.toD.canLay0 && PyData.canLayAll0 (V.toDs xs)) = true
   rw [rc,rd]; rfl) r
theorem Z32 {x:V} (h:x.flat64 = true):∃ n,x.depth? = some n∧n ≤ 64:=by
 unfold V.flat64 at h
 cases hd:x.depth? with
 | none=>rw [hd] at h; cases h
 | some d=>rw [hd] at h; exact ⟨d,rfl,of_decide_eq_true h⟩
noncomputable def cmM:Cm→CmpOp
 | .lt=>.Lt
 | .le=>.LtE
 | .gt=>.Gt
 | .ge=>.GtE
 | .eq=>.Eq
 | .ne=>.NotEq
 | .is=>.Is
 | .isnot=>.IsNot
 | .isin=>.In
 | .notin=>.NotIn
section
variable {c:Cx} {st:St} {μ:List Addr} {s:Shared} {u v:Value}
theorem Z4A {T:Addr→Prop} {h:Heap} {x:V} (r:RepV T μ h v x):(v == Value.none) = x.isNone:=by
 cases r <;> rfl
theorem Zdr {β:Type} {α:Type} {rel:St→List Addr→Heap→α→V→Prop} {t:Sem α} {x y:V} {k:Int→Int→Option β} {f:β→V} (h:∀ a b,x = .int a→y = .int b→Sim c t (R.lift ((k a b).map f) st) rel st.σ μ s):Sim c t (R.lift ((onI x y k).map f) st) rel st.σ μ s :=
 Sim.lift fun b hb=>El.x1_2 (Option.map_eq_some_iff.mp hb) fun z hz e=>bnd hz fun i hi hz=>bnd hz fun j hj hz=>by
  have q:=h i j (Z0H hi) (Z0H hj)
  rw [hz,Option.map_some,e] at q; exact q
theorem Z4B {T:Addr→Prop} {h:Heap} {vs:List Value} {xs:List V} {l:List (List Nat)} (r:RepVs T μ h vs xs) (e:Z1o xs = some l) :
  ∃ ys:List Str,StrsAre vs ys∧ys.map (fun y=>y.cps.toList) = l∧∀ y ∈ ys,PyData.strOk y = true :=
 RepVs.ind (M:=fun vs xs=>∀ l,Z1o xs = some l→∃ ys:List Str,StrsAre vs ys∧ys.map (fun y=>y.cps.toList) = l∧∀ y ∈ ys,PyData.strOk y = true)
  (fun l e=>⟨[],.nil,Option.some.inj e,fun _ q=>nomatch q⟩)
  (fun {v vs x xs} a _ ih l e=>by
   cases x <;> try (cases e; done)
   rename_i z
   refine El.x1_2 (Option.map_eq_some_iff.mp (show (Z1o xs).map (z :: ·) = some l from e)) fun l' hl' q=>?_
   subst q
   refine El.x2_4 a.str_inv fun y t q8z q9z h1 h2=>?_
   subst q8z q9z
   refine El.x1_3 (ih l' hl') fun ys g1 g2 g3=>?_
   exact ⟨y :: ys,.cons y t g1,congrArg (y.cps.toList :: ·) g2,fun k hk=>(List.mem_cons.mp hk).elim (fun q=>q ▸ h1) (g3 k)⟩) r l e
theorem Z7T (k:Str):∀ ys:List Str,(ys.any (· == k)) = (ys.map fun y=>y.cps.toList).any (· == k.cps.toList)
 | []=>rfl
 | y :: ys=>by
  rw [List.map_cons,List.any_cons,List.any_cons,Z7T k ys]
  congr 1
  rw [Bool.eq_iff_iff,beq_iff_eq,beq_iff_eq]
  constructor
  ·rintro rfl; rfl
  ·intro h
   obtain ⟨⟨a⟩⟩:=y
   obtain ⟨⟨b⟩⟩:=k
   simp at h
   rw [h]
theorem Z9y (I:Inv c st μ s.heap) {y:V} {xs:List V} (ry:RepV (Tr st.σ μ) μ s.heap v y) (h:itL st.σ y = some xs):∃ a vs,v = .ref a∧s.heap.IsList a vs∧vs.size ≤ sizeLine∧RepVs (Tr st.σ μ) μ s.heap vs.toList xs :=
 Z0m h (fun l e h=>by
  rw [Z2Z e,Option.some.inj h] at ry
  exact ry.lst_inv) fun h=>bnd h fun n en h=>El.x2_4 (I.ref_inv (Z29 en ▸ ry) (Z0P h)) fun a vs q hl hz r=>⟨a,vs,q,hl.isList,hz,r⟩
theorem Z9z {op:CmpOp} {f:Bool→V} (I:Inv c st μ s.heap) {x y:V} (rx:RepV (Tr st.σ μ) μ s.heap u x) (ry:RepV (Tr st.σ μ) μ s.heap v y) (g:Bool→Bool) (hf:∀ b,f b = .bool (g b))
  (hs:∀ {l:Addr} {vs:List Value} {ys:List Str} {k:Str} {t:Tok} {Q:Value→Shared→Prop},s.heap.IsList l vs.toArray→StrsAre vs ys→Q (.bool (g (ys.any (· == k)))) s→wpAny (model c.prog c.w) c.A (compareOp op (.str k t) (.ref l)) Q (fun _ _=>False) s) :
  Sim c (compareOp op u v) (R.lift ((inD st.σ x y).map f) st) rV st.σ μ s :=
 Sim.lift fun z h=>El.x1_2 (Option.map_eq_some_iff.mp h) fun b hb e=>bnd hb fun k ek hb=>bnd hb fun ys ey hb=>El.x1_2 (Option.map_eq_some_iff.mp hb) fun l el e2=>El.x2_4 (RepV.str_inv (Z1r ek ▸ rx)) fun z t q1 q2 _ _=>El.x2_4 (Z9y I ry ey) fun a vs q3 hl hz r=>El.x1_3 (Z4B r el) fun zs g1 g2 _=>by
  rw [← e,← e2,hf,q1,q3,← q2]
  refine Z05 I fun Q hq=>hs (vs:=vs.toList) hl g1 ?_
  rw [Z7T,g2]; exact hq _
theorem Zds (ok:CxOk c) (I:Inv c st μ s.heap) {n:Nat} {d:Addr} (hd:μ[n]? = some d):(d == sysModules) = false:=by
 refine El.x1_1 ok.sys fun o hs=>?_
 rw [beq_eq_false_iff_ne]
 intro e
 rw [← e,I.baseM _ (List.mem_of_getElem? hd)] at hs
 cases hs
theorem Zdt (ok:CxOk c) (I:Inv c st μ s.heap) {n:Nat} {es:List (Int × V)} (r:RepV (Tr st.σ μ) μ s.heap v (.ref n)) (h:st.σ[n]? = some (.idict es)) :
  ∃ d kvs,v = .ref d∧μ[n]? = some d∧(d == sysModules) = false∧s.heap.DictOf (intKind c.prog c.w) d kvs∧kvs.map (·.1) = es.map (·.1)∧kvs.length ≤ sizeLine∧RepVs (Tr st.σ μ) μ s.heap (kvs.map (·.2)) (es.map (·.2)):=by
 refine El.x1_2 r.refI fun d ed hd=>El.x1_2 (I.objs n _ h) fun d' hd' ro=>?_
 obtain rfl:=Option.some.inj (hd.symm.trans hd')
 exact El.x2_5 ro.idictI fun ob kvs ho hD hzk hkk r=>⟨d,_,ed,hd,Zds ok I hd,Heap.dictOf_iff.mpr ⟨_,ho,hD c.prog c.w⟩,hkk,hzk,r⟩
theorem Z51 {t:Value→Value→Sem Value} {x y:V} {k:Int→Int→Bool} (I:Inv c st μ s.heap) (rx:RepV (Tr st.σ μ) μ s.heap u x) (ry:RepV (Tr st.σ μ) μ s.heap v y) (h:∀ a b t1 t2 (Q:Value→Shared→Prop),Q (.bool (k a b)) s→wpAny (model c.prog c.w) c.A (t (.int a t1) (.int b t2)) Q (fun _ _=>False) s):Sim c (t u v) (R.lift ((onI x y fun a b=>some (k a b)).map V.bool) st) rV st.σ μ s :=
 Zdr fun a b ex ey=>El.x1_1 (RepV.int_inv (ex ▸ rx)) fun t1 q1=>El.x1_1 (RepV.int_inv (ey ▸ ry)) fun t2 q2=>by
  rw [q1,q2]; exact Z05 I fun Q hq=>h a b t1 t2 Q (hq _)
theorem ZcK {G:Prop} {x y:V} (ok:CxOk c) (rx:RepV (Tr st.σ μ) μ s.heap u x) (ry:RepV (Tr st.σ μ) μ s.heap v y) (h:(x.flat64 && y.flat64) = true) (k:∀ as bs,Reads s.heap u x.toD as→Reads s.heap v y.toD bs→x.toD.canLay0 = true→y.toD.canLay0 = true→c.A.units + min x.toD.depth y.toD.depth < cLine→PyData.eqv x.toD y.toD = V.eqb x y→G):G :=
 El.x0_2 (Bool.and_eq_true_iff.mp h) fun h1 h2=>El.x1_2 (Z32 h1) fun n hn hn'=>El.x1_2 (Z32 h2) fun m hm hm'=>El.x1_2 (rx.reads ⟨_,hn⟩) fun as ra la=>El.x1_2 (ry.reads ⟨_,hm⟩) fun bs rb lb=>k as bs ra rb la lb (by
  rw [Z3w _ _ hn,Z3w _ _ hm]; have:=ok.units; lia) (Z9x _ _ ⟨_,hn⟩ ⟨_,hm⟩).symm
theorem Z9A (ok:CxOk c) (I:Inv c st μ s.heap) {x y:V} (rx:RepV (Tr st.σ μ) μ s.heap u x) (ry:RepV (Tr st.σ μ) μ s.heap v y) (op:Cm) :
  Sim c (compareOp (cmM op) u v) (R.lift ((Z1U st.σ op x y).map V.bool) st) rV st.σ μ s:=by
 cases op
 ·exact Z51 (t:=compareOp (cmM .lt)) I rx ry fun a b t1 t2 Q hq=>P.lt_int hq
 ·exact Z51 (t:=compareOp (cmM .le)) I rx ry fun a b t1 t2 Q hq=>P.le_int hq
 ·exact Z51 (t:=compareOp (cmM .gt)) I rx ry fun a b t1 t2 Q hq=>P.gt_int hq
 ·exact Z51 (t:=compareOp (cmM .ge)) I rx ry fun a b t1 t2 Q hq=>P.ge_int hq
 ·exact Sim.lift fun z h=>El.x1_2 (Option.map_eq_some_iff.mp h) fun b hb e=>Z0Q hb fun hf hb=>ZcK ok rx ry hf fun as bs ra rb la lb hu he=>by
   rw [← e,← Option.some.inj hb,← he]
   exact Z05 I fun Q hq=>SeqAt.compareEq_reads ra rb la lb hu (hq _)
 ·exact Sim.lift fun z h=>El.x1_2 (Option.map_eq_some_iff.mp h) fun b hb e=>Z0Q hb fun hf hb=>ZcK ok rx ry hf fun as bs ra rb la lb hu he=>by
   rw [← e,← Option.some.inj hb,← he]
   exact Z05 I fun Q hq=>SeqAt.compareNe_reads ra rb la lb hu (hq _)
 ·cases y <;> try trivial
  try clear lb; try clear rb; try clear bs; try clear la; try clear ra; try clear as; try clear hm'; try clear hm; try clear m; try clear hn'; try clear hn
  obtain rfl:=ry.none_inv
  refine Z05 I fun Q hq=>is_none ?_
  rw [Z4A rx]; exact hq _
 ·cases y <;> try trivial
  obtain rfl:=ry.none_inv
  refine Z05 I fun Q hq=>isNot_none ?_
  rw [Z4A rx]; exact hq _
 ·exact Z9z I rx ry id (fun _=>rfl) in_list_strs
 ·have e0:((Z1U st.σ .notin x y).map V.bool) = (inD st.σ x y).map (fun b=>V.bool (!b)):=by
   show ((inD st.σ x y).map not).map V.bool = _
   rw [Option.map_map]; rfl
  rw [e0]
  exact Z9z I rx ry not (fun _=>rfl) notin_list_strs
end
noncomputable def Z1e:Expr→Bool
 | .Slice ..=>false
 | _=>true
theorem Z0v {slice:Expr} (h:Z1e slice = true) (o i:Value):subscripted slice false o i = operate [o,i] (getItem o i):=by
 cases slice <;> first | rfl | exact absurd h Bool.false_ne_true
theorem Z5W {α:Type} {xs:List α} {i:Int} {x:α} (h:Z0n xs i = some x):(-(2 ^ 63) ≤ i∧i < 2 ^ 63)∧∃ j,seqIndex? i xs.length = some j∧xs[j]? = some x:=by
 unfold Z0n at h
 split at h
 ·rename_i hs
  simp only [Z0s,Bool.and_eq_true,decide_eq_true_eq] at hs
  refine ⟨hs,?_⟩
  unfold seqIndex?
  split at h
  ·rename_i h0
   have hlt:i.toNat < xs.length:=(List.getElem?_eq_some_iff.mp h).1
   refine ⟨i.toNat,?_,h⟩
   simp only [show ¬ i < 0 from by lia,if_false]
   rw [if_pos (by simp only [Bool.and_eq_true,decide_eq_true_eq]; lia)]
  ·split at h
   ·rename_i h0 h1
    have hlt:(i + xs.length).toNat < xs.length:=(List.getElem?_eq_some_iff.mp h).1
    refine ⟨(i + xs.length).toNat,?_,h⟩
    simp only [show i < 0 from by lia,if_true]
    rw [if_pos (by simp only [Bool.and_eq_true,decide_eq_true_eq]; lia)]
   ·try clear hlt
    cases h
 ·cases h
theorem Z4q {i:Int} {n j:Nat} (h:seqIndex? i n = some j):(0 ≤ i∧i.toNat = j∧i < n) ∨ (i < 0∧-(n:Int) ≤ i∧(i + n).toNat = j):=by
 unfold seqIndex? at h
 by_cases h0:i < 0
 ·simp only [h0,if_true] at h
  by_cases hc:(decide (0 ≤ i + (n:Int)) && decide (i + (n:Int) < n)) = true
  ·rw [if_pos hc] at h
   simp only [Bool.and_eq_true,decide_eq_true_eq] at hc
   exact .inr ⟨h0,by lia,Option.some.inj h⟩
  ·rw [if_neg hc] at h; cases h
 ·simp only [h0,if_false] at h
  by_cases hc:(decide (0 ≤ i) && decide (i < (n:Int))) = true
  ·rw [if_pos hc] at h
   simp only [Bool.and_eq_true,decide_eq_true_eq] at hc
   exact .inl ⟨by lia,Option.some.inj h,by lia⟩
  ·rw [if_neg hc] at h; cases h
section
variable {c:Cx} {st:St} {μ:List Addr} {s:Shared} {u v:Value}
theorem Zdu {M:Model} {prog:Program} {w:World} {A:Around} {E:Value→Shared→Prop} {l:Addr} {items:Array Value} {i:Int} {t:Tok} {j:Nat} {x:Value} {Q:Value→Shared→Prop} (hl:s.heap.IsList l items)
  (hb:-(2 ^ 63) ≤ i∧i < 2 ^ 63) (hj:seqIndex? i items.size = some j) (hx:items[j]? = some x) (h:Q x s):wpAny (model prog w) A (getItem (.ref l) (.int i t)) Q E s:=by
 rcases Z4q hj with ⟨h0,rfl,_⟩ | ⟨h0,h1,rfl⟩
 ·exact wpAny_getItem_list hl h0 hb.2 hx h
 ·exact wpAny_getItem_list_neg hl h0 h1 hb.1 hx h
theorem Z7U {T:Addr→Prop} {h:Heap} {k:Int} {z:V}:∀ {kvs:List (Int × Value)} {ys:List (Int × V)},kvs.map (·.1) = ys.map (·.1)→RepVs T μ h (kvs.map (·.2)) (ys.map (·.2))→dGet ys k = some z→∃ w,valueAt kvs k = some w∧RepV T μ h w z
 | [],[],_,_,e=>by cases e
 | [],_ :: _,e,_,_=>by cases e
 | _ :: _,[],e,_,_=>by cases e
 | p :: kvs,q :: ys,e,r,hz=>by
  have e1:p.1 = q.1:=(List.cons.inj e).1
  have e2:=(List.cons.inj e).2
  refine El.x2_3 r.consI fun v9 vs9 e9 a r=>?_
  try clear vs9; try clear v9
  cases e9
  unfold dGet at hz
  unfold valueAt
  rw [List.find?_cons] at hz ⊢
  by_cases hk:q.1 = k
  ·rw [decide_eq_true hk] at hz
   rw [decide_eq_true (e1.trans hk)]
   try clear e9
   cases hz
   exact ⟨_,rfl,a⟩
  ·rw [decide_eq_false hk] at hz
   rw [decide_eq_false (fun x=>hk (e1.symm.trans x))]
   exact Z7U e2 r hz
section
variable {value slice:Expr}
theorem Z9B {a:Addr} {vs:Array Value} {xs:List V} {i:Int} {z:V} (r:RepVs (Tr st.σ μ) μ s.heap vs.toList xs) (e:Z0n xs i = some z) :
  ∃ j w,(-(2 ^ 63) ≤ i∧i < 2 ^ 63)∧seqIndex? i vs.size = some j∧vs[j]? = some w∧RepV (Tr st.σ μ) μ s.heap w z :=
 El.x0_2 (Z5W e) fun hb hj=>El.x1_2 hj fun j hj hx=>El.x1_2 (r.get hx) fun w hw rw'=>⟨j,w,hb,by rw [← Array.length_toList,r.length]; exact hj,by rw [← Array.getElem?_toList]; exact hw,rw'⟩
theorem Z7V (hs:Z1e slice = true) (I:Inv c st μ s.heap) {a:Addr} {vs:Array Value} {xs:List V} {i:Int} {z:V} (hl:s.heap.IsList a vs) (r:RepVs (Tr st.σ μ) μ s.heap vs.toList xs) (ry:RepV (Tr st.σ μ) μ s.heap v (.int i)) (e:Z0n xs i = some z) :
  Sim c (subscriptTail value slice (.ref a) v) (.ok z st) rV st.σ μ s :=
 El.x2_4 (Z9B (a:=a) r e) fun j w hb hj hw rw'=>El.x1_1 ry.int_inv fun t q=>by
  rw [q]; exact Z1I I rw' fun Q hq=>tail_any hl.typeIs slot_list_getitem.lookup (Zdu (M:=model c.prog c.w) hl hb hj hw (hq _)) (Z0v hs _ _)
theorem Z9C (hs:Z1e slice = true) (I:Inv c st μ s.heap) {xs:List V} {i:Int} {z:V} (rx:RepV (Tr st.σ μ) μ s.heap u (.tup xs)) (ry:RepV (Tr st.σ μ) μ s.heap v (.int i)) (e:Z0n xs i = some z) :
  Sim c (subscriptTail value slice u v) (.ok z st) rV st.σ μ s :=
 El.x2_4 rx.tup_inv fun a vs q hl hz r=>El.x2_4 (Z9B (a:=a) r e) fun j w hb hj hw rw'=>El.x1_1 ry.int_inv fun t q'=>by
  rw [q,q']; exact Z1I I rw' fun Q hq=>tail_any hl.typeIs slot_tuple_getitem.lookup (getItem_tuple hl hb.1 hb.2 hj hw (hq _)) (Z0v hs _ _)
theorem ZeG {x:Str} {d:Nat} (h1:PyData.strOk x = true) (hd:d ∈ x.cps.toList):PyData.strOk ⟨#[d]⟩ = true:=by
 unfold PyData.strOk at h1 ⊢
 rw [Array.all_eq_true_iff_forall_mem] at h1 ⊢
 intro a ha
 obtain rfl:a = d:=by simpa using ha
 exact h1 a (Array.mem_toList_iff.mp hd)
theorem Zdv (hs:Z1e slice = true) (I:Inv c st μ s.heap) {l:List Nat} {i:Int} {d:Nat} (rx:RepV (Tr st.σ μ) μ s.heap u (.str l)) (ry:RepV (Tr st.σ μ) μ s.heap v (.int i)) (e:Z0n l i = some d) :
  Sim c (subscriptTail value slice u v) (.ok (.str [d]) st) rV st.σ μ s :=
 El.x2_4 rx.str_inv fun x t q q2 h1 h2=>El.x0_2 (Z5W e) fun hb hj=>El.x1_2 hj fun j hj hx=>El.x1_1 ry.int_inv fun t' q'=>by
  rw [q,q']
  rw [← q2] at hj hx
  refine Z2d (x:=⟨#[d]⟩) I (ZeG h1 (List.mem_of_getElem? hx)) (by show 1 ≤ sizeLine; decide) (by rfl) fun Q hq=>tail_any (typeIs_str s x t) F.slot_str_getitem.lookup (P.getItem_str (c:=d) ?_ ?_ (hq _ _)) (Z0v hs _ _)
  ·simp only [Bool.or_eq_false_iff,decide_eq_false_iff_not]; lia
  ·rw [show x.length = x.cps.toList.length from (Array.length_toList).symm,hj]
   exact (Array.getElem?_toList).symm.trans hx
theorem Zbv (hs:Z1e slice = true) (ok:CxOk c) (I:Inv c st μ s.heap) {n:Nat} {es:List (Int × V)} {i:Int} {z:V} (rx:RepV (Tr st.σ μ) μ s.heap u (.ref n)) (hn:st.σ[n]? = some (.idict es)) (ry:RepV (Tr st.σ μ) μ s.heap v (.int i)) (e:dGet es i = some z) :
  Sim c (subscriptTail value slice u v) (.ok z st) rV st.σ μ s :=
 El.x2_7 (Zdt ok I rx hn) fun d kvs q _ _ hD hk _ r=>El.x1_2 (Z7U hk r e) fun w hw rw'=>El.x1_1 ry.int_inv fun t q'=>by
  rw [q,q']
  exact Sim.leaf I (tail_any hD.mapOf.typeIs slot_dict_getitem.lookup (wpAny_getItem_of (knd:=intKind c.prog c.w) (k:=i) (by simp [intKind,Value.isInt]) hD.mapOf hw ⟨.refl,⟨rfl,rfl,rfl⟩,rw'⟩) (Z0v hs _ _))
end
theorem Zdw (ok:CxOk c) (I:Inv c st μ s.heap) {x y:V} (rx:RepV (Tr st.σ μ) μ s.heap u x) (ry:RepV (Tr st.σ μ) μ s.heap v y) {value slice:Expr} (hs:Z1e slice = true) :
  Sim c (subscriptTail value slice u v) (R.lift (Z28 st.σ x y) st) rV st.σ μ s :=
 Sim.lift fun z h=>Z0m h (fun xs ex h=>bnd h fun i hi h=>Z9C hs I (Z9p ex ▸ rx) (Z0H hi ▸ ry) h) fun h=>Z0m h (fun xs ex h=>bnd h fun i hi h=>El.x2_4 (RepV.lst_inv (Z2Z ex ▸ rx)) fun a vs q hl hz r=>by rw [q]; exact Z7V hs I hl r (Z0H hi ▸ ry) h)
  fun h=>Z0m h (fun l el h=>bnd h fun i hi h=>El.x1_2 (Option.map_eq_some_iff.mp h) fun d hd e=>e ▸ Zdv hs I (Z1r el ▸ rx) (Z0H hi ▸ ry) hd) fun h=>bnd h fun n hn h=>by
  have rx:=Z29 hn ▸ rx
  exact Z0m h (fun xs ex h=>bnd h fun i hi h=>El.x2_4 (I.ref_inv rx (Z0P ex)) fun a vs q hl hz r=>by rw [q]; exact Z7V hs I hl.isList r (Z0H hi ▸ ry) h) fun h=>bnd h fun es ee h=>bnd h fun i hi h=>Zbv hs ok I rx (Z5T ee) (Z0H hi ▸ ry) h
theorem Z7W {T:Addr→Prop} {h:Heap} {x:V} {p:Option Int} (r:RepV T μ h v x) (e:Z9n x = some p):IsPart v p∧∃ q:Option (Int × Tok),v = partValue q∧q.map (·.1) = p:=by
 refine Z0m e (fun a ha h=>?_) fun h=>bnd h fun a ha h=>?_
 ·rw [Z0H ha] at r
  rw [← Option.some.inj h]
  refine El.x1_1 r.int_inv fun t q=>?_
  rw [q]; exact ⟨.int _ _,some (_,t),rfl,rfl⟩
 ·rw [Zdd ha] at r
  rw [← Option.some.inj h,r.none_inv]
  exact ⟨.none,none,rfl,rfl⟩
theorem Z9D (items:Array Value) (lo hi:Option Int):(slicePick items lo hi none).toList = cutL items.toList lo hi:=by
 rw [slicePick_plain]
 unfold cutL
 simp
theorem RepVs.cutL {T:Addr→Prop} {h:Heap} {vs:List Value} {xs:List V} (r:RepVs T μ h vs xs) (lo hi:Option Int):RepVs T μ h (Mine.cutL vs lo hi) (Mine.cutL xs lo hi):=by
 unfold Mine.cutL
 rw [r.length]
 exact (r.drop _).take _
noncomputable def loC (n:Nat) (lo:Option Int):Nat:=lo.elim 0 (clipAt n)
noncomputable def hiC (n:Nat) (hi:Option Int):Nat:=hi.elim n (clipAt n)
theorem Z9E (n:Nat) (lo hi:Option Int):Builtin.Str.strSliceIndices lo hi 1 n = (List.range (hiC n hi - loC n lo)).map (loC n lo + ·):=by
 rw [← sliceRange_one]
 unfold Builtin.Str.strSliceIndices loC hiC
 simp only [show (1:Int) > 0 from by decide,if_true]
 cases lo <;> cases hi <;> simp only [Option.elim_none,Option.elim_some,clipAt_cast] <;> rfl
theorem Zbw (x:Str) (lo hi:Option Int):(Builtin.Str.strSliceIndices lo hi 1 x.length).filterMap (x.cps[·]?) = cutL x.cps.toList lo hi:=by
 rw [Z9E,pick_run]
 unfold cutL loC hiC
 simp [Str.length]
theorem Zbx {α:Type} {xs:List α} {lo hi:Option Int} {x:α} (h:x ∈ cutL xs lo hi):x ∈ xs:=List.mem_of_mem_drop (List.mem_of_mem_take h)
theorem Z9F (n:Nat) (i:Int):clipAt n i ≤ n:=Int.toNat_le.mpr (Int.max_le.mpr ⟨Int.natCast_nonneg n,Int.min_le_right _ _⟩)
theorem Z3x {α:Type} (xs:List α) (lo hi:Option Int):(cutL xs lo hi).length ≤ xs.length:=by
 unfold cutL; rw [List.length_take,List.length_drop]; exact Nat.le_trans (Nat.min_le_right _ _) (Nat.sub_le _ _)
theorem ZeH (n:Nat) (hi:Option Int):hiC n hi ≤ n:=by
 cases hi with
 | none=>exact Nat.le_refl _
 | some i=>exact Z9F _ _
theorem Zby {α:Type} (xs:List α) (lo hi:Option Int):(cutL xs lo hi).length = hiC xs.length hi - loC xs.length lo:=by
 show ((xs.drop (loC xs.length lo)).take (hiC xs.length hi - loC xs.length lo)).length = _
 rw [List.length_take,List.length_drop]
 exact Nat.min_eq_left (Nat.sub_le_sub_right (ZeH _ _) _)
section
variable {value:Expr} {l' u':Option Expr} {p:Pos} {sa:Addr} {vl vu:Value} {pl pu:Option Int}
theorem Z4C (I:Inv c st μ s.heap) (hsl:s.heap.IsSliceOf sa vl vu .none) (il:IsPart vl pl) (iu:IsPart vu pu) {a:Addr} {vs:Array Value} {xs:List V} (hL:s.heap.IsList a vs) (hz:vs.size ≤ sizeLine) (r:RepVs (Tr st.σ μ) μ s.heap vs.toList xs) :
  Sim c (subscriptTail value (.Slice l' u' none p) (.ref a) (.ref sa)) (.ok (.lst (cutL xs pl pu)) st) rV st.σ μ s:=by
 refine Sim.leaf I (tail_any hL.typeIs slot_list_getitem.lookup (wpAny_getItem_list_slice hL hsl il iu .none (by simp) ?_ hz) rfl)
 refine ⟨.push _,.refl,?_⟩
 rw [show slicePick vs pl pu none = (cutL vs.toList pl pu).toArray by rw [← Z9D]]
 exact Z1d I (r.cutL pl pu) (Nat.le_trans (Z3x vs.toList pl pu) hz)
theorem ZeI {x:Str} (h:PyData.strOk x = true) (lo hi:Option Int):PyData.strOk ⟨(cutL x.cps.toList lo hi).toArray⟩ = true:=by
 unfold PyData.strOk at h ⊢
 rw [Array.all_eq_true_iff_forall_mem] at h ⊢
 intro a ha
 exact h a (by rw [← Array.mem_toList_iff]; exact Zbx (by simpa using ha))
theorem Z9G (I:Inv c st μ s.heap) {ql qu:Option (Int × Tok)} (hsl:s.heap.IsSliceOf sa (partValue ql) (partValue qu) .none) (el:ql.map (·.1) = pl) (eu:qu.map (·.1) = pu) {l:List Nat} (rx:RepV (Tr st.σ μ) μ s.heap u (.str l)) :
  Sim c (subscriptTail value (.Slice l' u' none p) u (.ref sa)) (.ok (.str (cutL l pl pu)) st) rV st.σ μ s:=by
 refine El.x2_4 rx.str_inv fun y t q9 q10 h1 h2=>?_
 rw [q9,← q10]
 have e2:slicePicked y ql qu none = Builtin.Str.strSliceIndices pl pu 1 y.length:=by
  unfold slicePicked
  rw [el,eu]; rfl
 have e3:(slicePicked y ql qu none).filterMap (y.cps[·]?) = cutL y.cps.toList pl pu:=by rw [e2]; exact Zbw y pl pu
 have hlen:(cutL y.cps.toList pl pu).length ≤ sizeLine:=Nat.le_trans (Z3x y.cps.toList pl pu) (by rw [Array.length_toList]; exact h2)
 refine Sim.leaf I (tail_any (typeIs_str _ y t) F.slot_str_getitem.lookup (wpAny_getItem_str_slice (l:=ql) (u:=qu) (st:=none) hsl rfl ?_) rfl)
 unfold sliceMade
 split
 ·rename_i hc
  refine ⟨.refl,.refl,?_⟩
  rw [show cutL y.cps.toList pl pu = y.cps.toList from ?_]
  ·exact .str y t h1 h2
  ·simp only [Option.map_none,Option.getD_none,Bool.and_eq_true,beq_iff_eq] at hc
   refine ((List.take_sublist _ _).trans (List.drop_sublist _ _)).eq_of_length ?_
   have hc:=hc.2
   rw [e2,Z9E,List.length_map,List.length_range] at hc
   refine (Zby _ _ _).trans ?_
   rw [Array.length_toList]; exact hc
 ·refine ⟨by show (List.toArray _).size ≤ sizeLine; rw [List.size_toArray,e3]; exact hlen,.refl,.refl,?_⟩
  rw [e3]
  exact .str ⟨(cutL y.cps.toList pl pu).toArray⟩ _ (ZeI h1 pl pu) (by show (List.toArray _).size ≤ sizeLine; rw [List.size_toArray]; exact hlen)
end
theorem Z9H (I:Inv c st μ s.heap) {x lo hi:V} {vl vu:Value} (rx:RepV (Tr st.σ μ) μ s.heap u x) (rl:RepV (Tr st.σ μ) μ s.heap vl lo) (ru:RepV (Tr st.σ μ) μ s.heap vu hi)
  {value:Expr} {l' u':Option Expr} {p:Pos} {sa:Addr} (hsl:s.heap.IsSliceOf sa vl vu .none) :
  Sim c (subscriptTail value (.Slice l' u' none p) u (.ref sa)) (R.lift (Z0A st.σ x lo hi) st) rV st.σ μ s :=
 Sim.lift fun z h=>bnd h fun pl hl h=>bnd h fun pu hu h=>El.x0_2 (Z7W rl hl) fun il ql=>El.x0_2 (Z7W ru hu) fun iu qu=>Z0m h (fun y ey h=>by
  refine El.x1_2 ql fun ql el el'=>El.x1_2 qu fun qu eu eu'=>?_
  rw [← Option.some.inj h]
  exact Z9G I (el ▸ eu ▸ hsl) el' eu' (Z1r ey ▸ rx)) fun h=>Z0m h (fun xs ex h=>El.x2_4 (RepV.lst_inv (Z2Z ex ▸ rx)) fun a vs q hL hz r=>by
  rw [q,← Option.some.inj h]; exact Z4C I hsl il iu hL hz r) fun h=>bnd h fun n hn h=>bnd h fun xs ex h=>El.x2_4 (I.ref_inv (Z29 hn ▸ rx) (Z0P ex)) fun a vs q hL hz r=>by
  rw [q,← Option.some.inj h]; exact Z4C I hsl il iu hL.isList hz r
end
end Mine
namespace Mine
section
variable {α:Type} {le:α→α→Prop}
structure Mg (le:α→α→Prop) (T out A B:List α):Prop where
 so:out.Pairwise le
 sa:A.Pairwise le
 sb:B.Pairwise le
 oa:∀ x ∈ out,∀ y ∈ A,le x y
 ob:∀ x ∈ out,∀ y ∈ B,le x y
 pm:(out++A++B).Perm T
variable {T out A B X:List α}
theorem Mg.swap (h:Mg le T out A B):Mg le T out B A :=
 ⟨h.so,h.sb,h.sa,h.ob,h.oa,by rw [List.append_assoc]; exact (List.Perm.append_left _ List.perm_append_comm).trans (by rw [← List.append_assoc]; exact h.pm)⟩
theorem Mg.moveA (h:Mg le T out (X++A) B) (hx:∀ x ∈ X,∀ y ∈ B,le x y):Mg le T (out++X) A B where
 so:=List.pairwise_append.mpr ⟨h.so,(List.pairwise_append.mp h.sa).1,fun x hx y hy=>h.oa x hx y (List.mem_append_left _ hy)⟩
 sa:=(List.pairwise_append.mp h.sa).2.1
 sb:=h.sb
 oa:=fun x q y hy=>(List.mem_append.mp q).elim (fun q=>h.oa x q y (List.mem_append_right _ hy)) fun q=>(List.pairwise_append.mp h.sa).2.2 x q y hy
 ob:=fun x q y hy=>(List.mem_append.mp q).elim (fun q=>h.ob x q y hy) fun q=>hx x q y hy
 pm:=by have:=h.pm; rwa [← List.append_assoc] at this
theorem Mg.fin (h:Mg le T out A B) (hx:∀ x ∈ A,∀ y ∈ B,le x y):(out++A++B).Pairwise le∧(out++A++B).Perm T :=
 ⟨List.pairwise_append.mpr ⟨List.pairwise_append.mpr ⟨h.so,h.sa,h.oa⟩,h.sb,fun x q y hy=>(List.mem_append.mp q).elim (fun q=>h.ob x q y hy) fun q=>hx x q y hy⟩,h.pm⟩
theorem Mg.finB (h:Mg le T out A B) (hx:∀ x ∈ B,∀ y ∈ A,le x y):(out++B++A).Pairwise le∧(out++B++A).Perm T:=h.swap.fin hx
end
theorem Zdx {α:Type}:∀ (m P X S:List α) (k:Nat),m.length = X.length→P.length = k →
  ((m.zipIdx).foldl (fun (a:Array α) (q:α × Nat)=>a.setIfInBounds (k + q.2) q.1) (P++X++S).toArray).toList = P++m++S:=by
 have key:∀ (m P X S:List α) (j:Nat) (k:Nat),m.length = X.length→P.length = k + j →
   ((m.zipIdx j).foldl (fun (a:Array α) (q:α × Nat)=>a.setIfInBounds (k + q.2) q.1) (P++X++S).toArray).toList = P++m++S:=by
  intro m
  induction m with
  | nil=>intro P X S j k h1 h2; obtain rfl:=List.length_eq_zero_iff.mp h1.symm; simp
  | cons x m ih=>
   intro P X S j k h1 h2
   cases X with
   | nil=>cases h1
   | cons y X=>
    rw [List.zipIdx_cons,List.foldl_cons]
    have e:((P++y :: X++S).toArray.setIfInBounds (k + j) x) = ((P++[x])++X++S).toArray:=by
     apply Array.toList_inj.mp
     rw [Array.toList_setIfInBounds]
     show (P++y :: X++S).set (k + j) x = _
     rw [List.append_assoc,List.set_append_right _ _ (by rw [h2]; exact Nat.le_refl _),h2,Nat.sub_self]
     simp
    show (List.foldl _ ((P++y :: X++S).toArray.setIfInBounds (k + j) x) _).toList = _
    rw [e,ih (P++[x]) X S (j + 1) k (by simpa using h1) (by simp [h2]; exact Nat.add_assoc _ _ _)]
    simp
 exact fun m P X S k h1 h2=>key m P X S 0 k h1 (by rw [h2]; rfl)
section
variable {α:Type} {le:α→α→Prop} {T:List α} {out a b:Array α} {ia ib k:Nat} {x y:α}
noncomputable def Srtd (le:α→α→Prop) (T:List α) (r:Array α):Prop:=r.toList.Pairwise le∧r.toList.Perm T
noncomputable def Lo (le:α→α→Prop) (T:List α) (a b out:Array α) (ia ib:Nat):Prop:=Mg le T out.toList (a.toList.drop ia) (b.toList.drop ib)
theorem Z0L (a:Array α) (i j:Nat):(a.extract i j).toList = (a.toList.drop i).take (j - i):=by
 rw [Array.toList_extract]
theorem Z3f (a:Array α) (i:Nat):(a.extract i).toList = a.toList.drop i:=by
 rw [Z0L]; exact List.take_of_length_le (by simp)
theorem Z6I (h:a[ia]? = some x):a.toList.drop ia = [x]++a.toList.drop (ia + 1):=by
 have h':a.toList[ia]? = some x:=by rw [Array.getElem?_toList]; exact h
 obtain ⟨hi,e⟩:=List.getElem?_eq_some_iff.mp h'
 rw [List.drop_eq_getElem_cons hi,e]; rfl
theorem Lo.headA (h:Lo le T a b out ia ib) (tr:∀ x y z,le x y→le y z→le x z) (hy:a[ia]? = some y) (hx:le x y):∀ z ∈ a.toList.drop ia,le x z:=fun z hz=>by
 have q:=h.sa
 rw [Z6I hy] at q hz
 exact (List.mem_append.mp hz).elim (fun e=>List.mem_singleton.mp e ▸ hx) fun e=>tr _ _ _ hx ((List.pairwise_append.mp q).2.2 y (List.mem_singleton.mpr rfl) z e)
theorem Lo.flip (h:Lo le T a b out ia ib):Lo le T b a out ib ia:=Mg.swap h
theorem Lo.pushA (h:Lo le T a b out ia ib) (hx:a[ia]? = some x) (hl:∀ z ∈ b.toList.drop ib,le x z):Lo le T a b (out.push x) (ia + 1) ib:=by
 unfold Lo at h ⊢
 rw [Z6I hx] at h
 rw [Array.toList_push]
 exact h.moveA fun z hz=>List.mem_singleton.mp hz ▸ hl
theorem Lo.pushB (h:Lo le T a b out ia ib) (hx:b[ib]? = some x) (hl:∀ z ∈ a.toList.drop ia,le x z):Lo le T a b (out.push x) ia (ib + 1):=(h.flip.pushA hx hl).flip
theorem Lo.chunkA (h:Lo le T a b out ia ib) (k:Nat) (hl:∀ i,i < k→∀ x,a[ia + i]? = some x→∀ z ∈ b.toList.drop ib,le x z):Lo le T a b (out++a.extract ia (ia + k)) (ia + k) ib:=by
 unfold Lo at h ⊢
 have e:a.toList.drop ia = (a.toList.drop ia).take k++a.toList.drop (ia + k):=by
  rw [← List.drop_drop]; exact (List.take_append_drop k _).symm
 rw [e] at h
 rw [Array.toList_append,Z0L,Nat.add_sub_cancel_left]
 refine h.moveA fun x hx=>?_
 obtain ⟨i,hi,ex⟩:=List.mem_iff_getElem.mp hx
 rw [List.length_take] at hi
 refine hl i (Nat.lt_of_lt_of_le hi (Nat.min_le_left _ _)) x ?_
 rw [← Array.getElem?_toList]
 rw [List.getElem_take,List.getElem_drop] at ex
 exact List.getElem?_eq_some_iff.mpr ⟨_,ex⟩
theorem Lo.chunkB (h:Lo le T a b out ia ib) (k:Nat) (hl:∀ i,i < k→∀ x,b[ib + i]? = some x→∀ z ∈ a.toList.drop ia,le x z):Lo le T a b (out++b.extract ib (ib + k)) ia (ib + k):=(h.flip.chunkA k hl).flip
theorem Lo.done (h:Lo le T a b out ia ib) (e:ia = a.size ∨ ib = b.size):Srtd le T (out++a.extract ia++b.extract ib):=by
 have q:=h.fin fun x hx y hy=>by
  rcases e with rfl | rfl
  ·rw [List.drop_eq_nil_of_le (by simp)] at hx; cases hx
  ·rw [List.drop_eq_nil_of_le (by simp)] at hy; cases hy
 unfold Srtd
 rw [Array.toList_append,Array.toList_append,Z3f,Z3f]
 exact q
theorem Lo.last (h:Lo le T a b out ia ib) (e:ia + 1 = a.size) (hl:∀ x,a[a.size - 1]? = some x→∀ y ∈ b.toList,le y x):Srtd le T (out++b.extract ib++a.extract ia):=by
 have q:=h.finB fun y hy x hx=>by
  refine hl x ?_ y (List.mem_of_mem_drop hy)
  have hi:ia < a.size:=e ▸ Nat.lt_succ_self _
  rw [Z6I (getElem?_pos a ia hi),List.drop_eq_nil_of_le (by simp; exact Nat.le_of_eq e.symm)] at hx
  rw [List.mem_append] at hx
  rcases hx with hx | hx
  ·rw [List.mem_singleton] at hx; subst hx
   rw [← e]; exact getElem?_pos a ia hi
  ·cases hx
 unfold Srtd
 rw [Array.toList_append,Array.toList_append,Z3f,Z3f]
 exact q
noncomputable def Hi (le:α→α→Prop) (T:List α) (a b out:Array α) (na nb:Nat):Prop:=Mg (fun x y=>le y x) T out.toList (a.toList.take na).reverse (b.toList.take nb).reverse
variable {na nb:Nat}
theorem Z9I (h:a[na]? = some x):(a.toList.take (na + 1)).reverse = [x]++(a.toList.take na).reverse:=by
 have h':a.toList[na]? = some x:=by rw [Array.getElem?_toList]; exact h
 rw [List.take_add_one,h']; simp
theorem Hi.flip (h:Hi le T a b out na nb):Hi le T b a out nb na:=Mg.swap h
theorem Hi.headA (h:Hi le T a b out (na + 1) nb) (tr:∀ x y z,le x y→le y z→le x z) (hy:a[na]? = some y) (hx:le y x):∀ z ∈ (a.toList.take (na + 1)).reverse,le z x:=fun z hz=>by
 have q:=h.sa
 rw [Z9I hy] at q hz
 exact (List.mem_append.mp hz).elim (fun e=>List.mem_singleton.mp e ▸ hx) fun e=>tr _ _ _ ((List.pairwise_append.mp q).2.2 y (List.mem_singleton.mpr rfl) z e) hx
theorem Hi.pushA (h:Hi le T a b out (na + 1) nb) (hx:a[na]? = some x) (hl:∀ z ∈ (b.toList.take nb).reverse,le z x):Hi le T a b (out.push x) na nb:=by
 unfold Hi at h ⊢
 rw [Z9I hx] at h
 rw [Array.toList_push]
 exact h.moveA fun z hz=>List.mem_singleton.mp hz ▸ hl
theorem Hi.pushB (h:Hi le T a b out na (nb + 1)) (hx:b[nb]? = some x) (hl:∀ z ∈ (a.toList.take na).reverse,le z x):Hi le T a b (out.push x) na nb:=(h.flip.pushA hx hl).flip
theorem Hi.chunkA (h:Hi le T a b out na nb) (k:Nat) (hk:k ≤ na) (hl:∀ i,k ≤ i→i < na→∀ x,a[i]? = some x→∀ z ∈ (b.toList.take nb).reverse,le z x):Hi le T a b (out++(a.extract k na).reverse) k nb:=by
 unfold Hi at h ⊢
 have e:(a.toList.take na).reverse = ((a.toList.drop k).take (na - k)).reverse++(a.toList.take k).reverse:=by
  rw [← List.reverse_append]
  congr 1
  rw [← List.take_add,Nat.add_sub_cancel' hk]
 rw [e] at h
 rw [Array.toList_append,Array.toList_reverse,Z0L]
 refine h.moveA fun x hx=>?_
 rw [List.mem_reverse] at hx
 obtain ⟨i,hi,ex⟩:=List.mem_iff_getElem.mp hx
 rw [List.length_take] at hi
 refine hl (k + i) (Nat.le_add_right _ _) (Nat.add_lt_of_lt_sub' (Nat.lt_of_lt_of_le hi (Nat.min_le_left _ _))) x ?_
 rw [← Array.getElem?_toList]
 rw [List.getElem_take,List.getElem_drop] at ex
 exact List.getElem?_eq_some_iff.mpr ⟨_,ex⟩
theorem Hi.chunkB (h:Hi le T a b out na nb) (k:Nat) (hk:k ≤ nb) (hl:∀ i,k ≤ i→i < nb→∀ x,b[i]? = some x→∀ z ∈ (a.toList.take na).reverse,le z x):Hi le T a b (out++(b.extract k nb).reverse) na k:=(h.flip.chunkA k hk hl).flip
theorem Z7X {T:List α} {l r:List α} (q:l.Pairwise (fun x y=>le y x)∧l.Perm T) (e:r = l.reverse):r.Pairwise le∧r.Perm T :=
 e ▸ ⟨List.pairwise_reverse.mpr q.1,(List.reverse_perm _).trans q.2⟩
theorem Hi.done (h:Hi le T a b out na nb) (e:na = 0 ∨ nb = 0):Srtd le T (a.extract 0 na++b.extract 0 nb++out.reverse):=by
 have q:=h.finB fun x hx y hy=>by
  rcases e with rfl | rfl
  ·simp at hy
  ·simp at hx
 refine Z7X q ?_
 rw [Array.toList_append,Array.toList_append,Z0L,Z0L,Array.toList_reverse]
 simp
theorem Hi.first (h:Hi le T a b out na 1) (hl:∀ x,b[0]? = some x→∀ y ∈ a.toList,le x y):Srtd le T (b.extract 0 1++a.extract 0 na++out.reverse):=by
 have q:=h.fin fun y hy x hx=>by
  rw [List.mem_reverse] at hx hy
  refine hl x ?_ y (List.mem_of_mem_take hy)
  rw [← Array.getElem?_toList]
  cases hb:b.toList with
  | nil=>rw [hb] at hx; simp at hx
  | cons z zs=>rw [hb] at hx; simp at hx; subst hx; rfl
 refine Z7X q ?_
 rw [Array.toList_append,Array.toList_append,Z0L,Z0L,Array.toList_reverse]
 simp
end
end Mine
namespace Mine
open PySem PyProof.Rows
noncomputable def Z6J:Bool→Keyed→Array Keyed→Nat→Nat→Nat→StateT SortSt Sem (Option Nat):=sortPriv% PySem.Builtin.gallop
noncomputable def Z7Y:Array Keyed→Array Keyed→StateT SortSt Sem (Array Keyed):=sortPriv% PySem.Builtin.mergeLo
noncomputable def Z7Z:Array Keyed→Array Keyed→StateT SortSt Sem (Array Keyed):=sortPriv% PySem.Builtin.mergeHi
noncomputable def kf (κ:KeyKind) (p:Keyed):κ.α:=(κ.keyOf p.1).getD κ.dflt
noncomputable def Kd (κ:KeyKind) (p:Keyed):Prop:=∃ a,κ.keyOf p.1 = some a
noncomputable def bB (κ:KeyKind) (left:Bool) (key x:Keyed):Bool:=if left = true then κ.blt (kf κ x) (kf κ key) else !κ.blt (kf κ key) (kf κ x)
section
variable {M:Model} {A:Around} {E:Value→Shared→Prop} {s:Shared} {σ:Type}
theorem Z01 {α:Type} {c:Prop} [Decidable c] {t e:StateT σ Sem α} {Q:α→σ→Prop} {st:σ} (ht:c→wpS M A E s t Q st) (he:¬ c→wpS M A E s e Q st):wpS M A E s (if c then t else e) Q st:=by
 by_cases h:c
 ·rw [if_pos h]; exact ht h
 ·rw [if_neg h]; exact he h
theorem Z3y {α β:Type} {P:β→Prop} {f:β→StateT σ Sem α} {t:StateT σ Sem α} {Q:α→σ→Prop} {st:σ} (hj:∀ x,P x→wpS M A E s (f x) Q st) (k:(∀ x,P x→wpS M A E s (f x) Q st)→wpS M A E s t Q st):wpS M A E s t Q st:=k hj
end
noncomputable def G2 (st:SortSt) (P:Nat→Nat→Prop) (c:Option (Option Nat) × Nat × Nat) (st':SortSt):Prop:=st' = st∧∃ l o,c = (none,l,o)∧P l o
theorem G2.el {st st':SortSt} {P:Nat→Nat→Prop} {c:Option (Option Nat) × Nat × Nat} {G:Prop} (h:G2 st P c st') (k:∀ l o,st' = st→c = (none,l,o)→P l o→G):G:=h.2.elim fun l q=>q.elim fun o q=>k l o h.1 q.1 q.2
theorem G2.to {st st':SortSt} {P P':Nat→Nat→Prop} {c:Option (Option Nat) × Nat × Nat} (h:G2 st P c st') (k:∀ l o,P l o→P' l o):G2 st P' c st':=h.el fun l o h1 h2 h3=>⟨h1,l,o,h2,k l o h3⟩
noncomputable def Bn (B:Nat→Bool) (n lo hi:Nat):Prop:=lo ≤ hi∧hi ≤ n∧(∀ i,i < lo→B i = true)∧∀ i,hi ≤ i→i < n→B i = false
theorem Zfp {l r n x:Nat} (h:¬ l ≥ r) (h3:r - l ≤ n - x) (hx:x < n):l + (r - l) / 2 + 1 ≤ r∧r - (l + (r - l) / 2 + 1) ≤ n - (x + 1)∧l + (r - l) / 2 - l ≤ n - (x + 1):=by
 have hd:(r - l) / 2 < r - l:=Nat.div_lt_self (Nat.sub_pos_of_lt (Nat.lt_of_not_le h)) (by decide)
 generalize (r - l) / 2 = d at hd ⊢
 have hp:r - (l + 1) ≤ n - (x + 1):=Nat.pred_le_pred h3
 refine ⟨Nat.add_lt_of_lt_sub' hd,Nat.le_trans (Nat.sub_le_sub_left (Nat.succ_le_succ (Nat.le_add_right l d)) r) hp,?_⟩
 rw [Nat.add_sub_cancel_left]
 exact Nat.le_trans (Nat.le_pred_of_lt hd) hp
theorem dbl (o:Nat):o < 2 * o + 1:=by omega
theorem dbl2 {l o x:Nat} (h:l < o) (h2:x + 1 ≤ o):x + 1 + 1 ≤ 2 * o + 1:=by omega
theorem up1 {h l o n:Nat} (h1:l < o) (h3:h + l < n):h + l + 1 ≤ h + min o (n - h)∧h + min o (n - h) ≤ n :=
 ⟨Nat.add_le_add_left (Nat.le_min.mpr ⟨h1,Nat.le_sub_of_add_le' h3⟩) h,Nat.le_trans (Nat.add_le_add_left (Nat.min_le_right _ _) _) (Nat.le_of_eq (Nat.add_sub_cancel' (Nat.le_of_lt (Nat.lt_of_le_of_lt (Nat.le_add_right h l) h3))))⟩
theorem up2 {h o n i:Nat} (hn:h ≤ n) (hi:h + min o (n - h) ≤ i) (hin:i < n):o < n - h∧h + o ≤ i:=by
 rcases Nat.lt_or_ge o (n - h) with q | q
 ·rw [Nat.min_eq_left (Nat.le_of_lt q)] at hi; exact ⟨q,hi⟩
 ·rw [Nat.min_eq_right q,Nat.add_sub_cancel' hn] at hi; exact absurd hin (Nat.not_lt.mpr hi)
theorem dn1 {h l o:Nat} (h1:l < o) (h3:l ≤ h):h + 1 - min o (h + 1) ≤ h - l :=
 Nat.le_trans (Nat.sub_le_sub_left (Nat.le_min.mpr ⟨h1,Nat.succ_le_succ h3⟩) (h + 1)) (Nat.le_of_eq (Nat.add_sub_add_right h 1 l))
theorem dn2 {h o i:Nat} (hi:i < h + 1 - min o (h + 1)):o ≤ h∧i ≤ h - o:=by
 rcases Nat.lt_or_ge h o with q | q
 ·rw [Nat.min_eq_right q,Nat.sub_self] at hi; exact absurd hi (Nat.not_lt_zero _)
 ·rw [Nat.min_eq_left (Nat.le_succ_of_le q),Nat.succ_sub q] at hi; exact ⟨q,Nat.le_of_lt_succ hi⟩
section
variable {prog:Program} {w:World} {A:Around} {E:Value→Shared→Prop} {s:Shared} {κ:KeyKind} {st:SortSt}
theorem Z3z (hO:κ.OneLt) {x y:Keyed} {Q:Option Bool→SortSt→Prop} (hk:kindOf st = oneType') (hx:Kd κ x) (hy:Kd κ y) (h:Q (some (κ.blt (kf κ x) (kf κ y))) st) :
  wpS (model prog w) A E s (lt' x y) Q st:=by
 obtain ⟨a,ha⟩:=hx
 obtain ⟨b,hb⟩:=hy
 have h:Q (some (κ.blt a b)) st:=by unfold kf at h; rw [ha,hb] at h; exact h
 rw [lt'_eq]
 refine wpS_bind (wpS_get ?_)
 rw [hk,keyLt'_oneType]
 exact wpS_bind (wpS_lift (wpAny_attempt (hO prog w A _ s _ _ a b ha hb ⟨rfl,wpS_pure h⟩)))
theorem Z08 {arr:Array Keyed} {i:Nat} {p:Keyed} {Q:Keyed→SortSt→Prop} (hi:arr[i]? = some p) (h:Q p st):wpS (model prog w) A E s (elem' arr i) Q st:=by
 rw [elem'_eq,hi]; exact wpS_pure h
theorem Z80 (hO:κ.OneLt) {left:Bool} {key x:Keyed} {arr:Array Keyed} {j:Nat} {Q:Option Bool→SortSt→Prop} (hk:kindOf st = oneType') (kk:Kd κ key) (hx:arr[j]? = some x∧Kd κ x)
  (h:Q (some (bB κ left key x)) st):wpS (model prog w) A E s (elem' arr j >>= fun x=>if left = true then lt' x key else lt' key x >>= fun r=>pure (Option.map (fun x=>!x) r)) Q st:=by
 refine wpS_bind (Z08 hx.1 ?_)
 cases left with
 | true=>exact Z3z hO hk hx.2 kk h
 | false=>exact wpS_bind (Z3z hO hk kk hx.2 (wpS_pure h))
theorem Z8N (hO:κ.OneLt) {left:Bool} {key:Keyed} {arr:Array Keyed} {base n hint:Nat} {Q:Option Nat→SortSt→Prop} {B:Nat→Bool} (hk:kindOf st = oneType') (kk:Kd κ key) (hh:hint < n)
  (hx:∀ i,i < n→∃ x,(arr[base + i]? = some x∧Kd κ x)∧bB κ left key x = B i) (mono:∀ i j,i ≤ j→j < n→B j = true→B i = true)
  (h:∀ k,k ≤ n→(∀ i,i < k→B i = true)→(∀ i,k ≤ i→i < n→B i = false)→Q (some k) st) :
  wpS (model prog w) A E s (Z6J left key arr base n hint) Q st:=by
 have hh':=hh
 have anti:∀ i j,i ≤ j→j < n→B i = false→B j = false:=fun i j h1 h2 h3=>by
  cases q:B j with
  | false=>rfl
  | true=>rw [mono i j h1 h2 q] at h3; cases h3
 unfold Z6J
 obtain ⟨x0,hx0,e0⟩:=hx hint hh
 refine wpS_bind (Z80 hO hk kk hx0 ?_)
 rw [e0]
 dsimp -zeta only
 extract_lets jp m1 m2
 refine Z3y (P:=fun c:Nat × Nat × Nat × Nat=>Bn B n c.2.2.1 c.2.2.2) (f:=fun c=>jp () c.1 c.2.1 c.2.2.1 c.2.2.2) (fun c q=>?_) fun hj=>Z01 (fun hr=>?_) fun hr=>?_
 ·generalize c.2.2.1 = lo at q ⊢
  generalize c.2.2.2 = hi at q ⊢
  refine wpS_bind (wpS_mono (wpS_forRange (I:=fun x=>G2 st fun l r=>r - l ≤ n - x∧Bn B n l r) (Q:=G2 st fun l r=>l = r∧Bn B n l r) ?_ ?_ ⟨rfl,lo,hi,rfl,by have:=q.2.1; lia,q⟩) ?_)
  ·intro x c st'' _ hxn hh
   refine G2.el hh fun l r e1 e2 g=>?_
   clear hh
   subst e1 e2
   refine Z01 (fun hge=>wpS_pure ⟨rfl,l,r,rfl,Nat.le_antisymm g.2.1 hge,g.2⟩) fun hge=>?_
   have hf:=Zfp hge g.1 hxn
   have hr:=g.2.2.1
   obtain ⟨y,hy,ey⟩:=hx (l + (r - l) / 2) (Nat.lt_of_lt_of_le hf.1 hr)
   refine wpS_bind (Z80 hO hk kk hy ?_)
   rw [ey]
   cases hb:B (l + (r - l) / 2) with
   | true=>exact wpS_pure ⟨rfl,_,r,rfl,hf.2.1,hf.1,hr,fun i hi=>mono i _ (Nat.le_of_lt_succ hi) (Nat.lt_of_lt_of_le hf.1 hr) hb,g.2.2.2.2⟩
   | false=>exact wpS_pure ⟨rfl,l,_,rfl,hf.2.2,Nat.le_add_right _ _,Nat.le_trans (Nat.le_of_lt hf.1) hr,g.2.2.2.1,fun i hi hin=>anti _ i hi hin hb⟩
  ·exact fun c st'' q=>q.to fun l r g=>⟨Nat.le_antisymm g.2.1 (Nat.le_of_sub_eq_zero (Nat.le_zero.mp (by have:=g.1; lia))),g.2⟩
  ·intro c st'' hh
   refine G2.el hh fun l r e1 e2 g=>?_
   clear hh
   subst e1 e2
   obtain ⟨e,g1,g2,g3,g4⟩:=g
   exact wpS_pure (h r g2 (e ▸ g3) g4)
 ·refine wpS_bind (wpS_mono (wpS_forRange (I:=fun x=>G2 st fun l o=>l < o∧B (hint + l) = true∧hint + l < n∧x + 1 ≤ o)
   (Q:=G2 st fun l o=>l < o∧B (hint + l) = true∧hint + l < n∧(n - hint ≤ o ∨ B (hint + o) = false)) ?_ ?_ ⟨rfl,0,1,rfl,Nat.one_pos,hr,hh,Nat.le_refl _⟩) ?_)
  ·intro x c st'' _ hxn hh
   refine G2.el hh fun l o e1 e2 g=>?_
   clear hh
   subst e1 e2
   refine Z01 (fun hge=>wpS_pure ⟨rfl,l,o,rfl,g.1,g.2.1,g.2.2.1,.inl hge⟩) fun hge=>?_
   have hlt:hint + o < n:=Nat.add_lt_of_lt_sub' (Nat.lt_of_not_le hge)
   obtain ⟨y,hy,ey⟩:=hx (hint + o) hlt
   refine wpS_bind (Z80 hO hk kk hy ?_)
   rw [ey]
   cases hb:B (hint + o) with
   | true=>exact wpS_pure ⟨rfl,o,2 * o + 1,rfl,dbl o,hb,hlt,dbl2 g.1 g.2.2.2⟩
   | false=>exact wpS_pure ⟨rfl,l,o,rfl,g.1,g.2.1,g.2.2.1,.inr hb⟩
  ·exact fun c st'' q=>q.to fun l o g=>⟨g.1,g.2.1,g.2.2.1,.inl (by have:=g.2.2.2; lia)⟩
  ·intro c st'' hh
   refine G2.el hh fun l o e1 e2 g=>?_
   clear hh
   subst e1 e2
   obtain ⟨h1,h2,h3,h4⟩:=g
   exact hj (l,o,hint + l + 1,hint + min o (n - hint)) ⟨(up1 h1 h3).1,(up1 h1 h3).2,fun i hi=>mono i (hint + l) (Nat.le_of_lt_succ hi) h3 h2,fun i hi hin=>h4.elim (fun h4=>absurd (up2 (Nat.le_of_lt hh') hi hin).1 (Nat.not_lt.mpr h4)) fun h4=>anti (hint + o) i (up2 (Nat.le_of_lt hh') hi hin).2 hin h4⟩
 ·have hr:B hint = false:=Bool.eq_false_iff.mpr hr
  refine wpS_bind (wpS_mono (wpS_forRange (I:=fun x=>G2 st fun l o=>l < o∧B (hint - l) = false∧l ≤ hint∧x + 1 ≤ o)
   (Q:=G2 st fun l o=>l < o∧B (hint - l) = false∧l ≤ hint∧(hint + 1 ≤ o ∨ B (hint - o) = true)) ?_ ?_ ⟨rfl,0,1,rfl,Nat.one_pos,hr,Nat.zero_le _,Nat.le_refl _⟩) ?_)
  ·intro x c st'' _ hxn hh
   refine G2.el hh fun l o e1 e2 g=>?_
   clear hh
   subst e1 e2
   refine Z01 (fun hge=>wpS_pure ⟨rfl,l,o,rfl,g.1,g.2.1,g.2.2.1,.inl hge⟩) fun hge=>?_
   have hle:o ≤ hint:=Nat.le_of_lt_succ (Nat.lt_of_not_le hge)
   obtain ⟨y,hy,ey⟩:=hx (hint - o) (Nat.lt_of_le_of_lt (Nat.sub_le _ _) hh')
   refine wpS_bind (Z80 hO hk kk hy ?_)
   rw [ey]
   cases hb:B (hint - o) with
   | true=>exact wpS_pure ⟨rfl,l,o,rfl,g.1,g.2.1,g.2.2.1,.inr hb⟩
   | false=>exact wpS_pure ⟨rfl,o,2 * o + 1,rfl,dbl o,hb,hle,dbl2 g.1 g.2.2.2⟩
  ·exact fun c st'' q=>q.to fun l o g=>⟨g.1,g.2.1,g.2.2.1,.inl (by have:=g.2.2.2; lia)⟩
  ·intro c st'' hh
   refine G2.el hh fun l o e1 e2 g=>?_
   clear hh
   subst e1 e2
   obtain ⟨h1,h2,h3,h4⟩:=g
   exact hj (l,o,hint + 1 - min o (hint + 1),hint - l) ⟨dn1 h1 h3,Nat.le_trans (Nat.sub_le _ _) (Nat.le_of_lt hh'),fun i hi=>h4.elim (fun h4=>absurd (dn2 hi).1 (Nat.not_le.mpr h4)) fun h4=>mono i (hint - o) (dn2 hi).2 (Nat.lt_of_le_of_lt (Nat.sub_le _ _) hh') h4,fun i hi hin=>anti (hint - l) i hi hin h2⟩
end
noncomputable def kl (κ:KeyKind) (x y:Keyed):Prop:=κ.kle (kf κ x) (kf κ y)
theorem Z0M {κ:KeyKind} (x y z:Keyed) (h:kl κ x y) (h':kl κ y z):kl κ x z:=KeyOrd.kle_trans h h'
noncomputable def Fr0 (st st':SortSt):Prop:=kindOf st' = kindOf st∧arrOf st' = arrOf st∧pendingOf st' = pendingOf st∧failedOf st' = failedOf st
section
variable {prog:Program} {w:World} {A:Around} {E:Value→Shared→Prop} {s:Shared} {κ:KeyKind} {st:SortSt}
theorem Fr0.refl:Fr0 st st:=⟨rfl,rfl,rfl,rfl⟩
theorem Z16 (hO:κ.OneLt) {left:Bool} {key:Keyed} {arr:Array Keyed} {base n hint:Nat} {Q:Option Nat→SortSt→Prop} (hk:kindOf st = oneType') (kk:Kd κ key) (hh:hint < n) (hn:base + n ≤ arr.size)
  (ka:∀ p ∈ arr.toList,Kd κ p) (so:∀ i j x y,i ≤ j→j < n→arr[base + i]? = some x→arr[base + j]? = some y→kl κ x y)
  (h:∀ k,k ≤ n→(∀ i,i < k→∀ x,arr[base + i]? = some x→bB κ left key x = true)→(∀ i,k ≤ i→i < n→∀ x,arr[base + i]? = some x→bB κ left key x = false)→Q (some k) st) :
  wpS (model prog w) A E s (Z6J left key arr base n hint) Q st:=by
 have at':∀ i,i < n→∃ x,arr[base + i]? = some x∧Kd κ x:=fun i hi=>by
  have hj:base + i < arr.size:=Nat.lt_of_lt_of_le (Nat.add_lt_add_left hi _) hn
  exact ⟨arr[base + i],getElem?_pos arr _ hj,ka _ (Array.getElem_mem_toList hj)⟩
 refine Z8N hO (B:=fun i=>(arr[base + i]?.map (bB κ left key)).getD false) hk kk hh (fun i hi=>?_) (fun i j hij hj hb=>?_) fun k h1 h2 h3=>h k h1 (fun i hi x hx=>?_) fun i h4 h5 x hx=>?_
 ·obtain ⟨x,hx,kx⟩:=at' i hi
  exact ⟨x,⟨hx,kx⟩,by rw [hx]; rfl⟩
 ·obtain ⟨x,hx,kx⟩:=at' i (Nat.lt_of_le_of_lt hij hj)
  obtain ⟨y,hy,ky⟩:=at' j hj
  have q:=so i j x y hij hj hx hy
  simp only [hx,hy,Option.map_some,Option.getD_some] at hb ⊢
  cases left with
  | true=>exact KeyOrd.klt_of_kle_of_klt q hb
  | false=>
   have hb:κ.blt (kf κ key) (kf κ y) = false:=by simpa [bB] using hb
   have:κ.blt (kf κ key) (kf κ x) = false:=KeyOrd.kle_trans q hb
   simpa [bB] using this
 ·have:=h2 i hi; rw [hx] at this; exact this
 ·have:=h3 i h4 h5; rw [hx] at this; exact this
theorem bB_t {key x:Keyed} (h:bB κ true key x = true):kl κ x key:=KeyOrd.kle_of_klt (show κ.klt _ _ from h)
theorem Zdy {key x:Keyed} (h:bB κ true key x = false):kl κ key x:=h
theorem bB_f {key x:Keyed} (h:bB κ false key x = true):kl κ x key:=by
 have h:(!κ.blt (kf κ key) (kf κ x)) = true:=h
 exact (Bool.not_eq_true' _).mp h
theorem Zdz {key x:Keyed} (h:bB κ false key x = false):kl κ key x:=by
 have h:(!κ.blt (kf κ key) (kf κ x)) = false:=h
 exact KeyOrd.kle_of_klt (show κ.klt _ _ from (Bool.not_eq_false' _).mp h)
theorem Z9J {a:Array Keyed} {d n:Nat} (h:(a.toList.drop d).Pairwise (kl κ)):∀ i j x y,i ≤ j→j < n→a[d + i]? = some x→a[d + j]? = some y→kl κ x y:=fun i j x y hij _ hx hy=>by
 rcases Nat.lt_or_ge i j with q | q
 ·have hx':(a.toList.drop d)[i]? = some x:=by rw [List.getElem?_drop,Array.getElem?_toList]; exact hx
  have hy':(a.toList.drop d)[j]? = some y:=by rw [List.getElem?_drop,Array.getElem?_toList]; exact hy
  obtain ⟨p1,e1⟩:=List.getElem?_eq_some_iff.mp hx'
  obtain ⟨p2,e2⟩:=List.getElem?_eq_some_iff.mp hy'
  exact e1 ▸ e2 ▸ List.pairwise_iff_getElem.mp h i j p1 p2 q
 ·obtain rfl:=Nat.le_antisymm hij q
  obtain rfl:=Option.some.inj (hx.symm.trans hy)
  exact KeyOrd.kle_refl _
theorem Z9K {a:Array Keyed} {n:Nat} (h:(a.toList.take n).reverse.Pairwise (fun x y=>kl κ y x)):∀ i j x y,i ≤ j→j < n→a[0 + i]? = some x→a[0 + j]? = some y→kl κ x y:=fun i j x y hij hj hx hy=>by
 rw [Nat.zero_add] at hx hy
 rcases Nat.lt_or_ge i j with q | q
 ·have hx':(a.toList.take n)[i]? = some x:=by rw [List.getElem?_take,if_pos (Nat.lt_trans q hj),Array.getElem?_toList]; exact hx
  have hy':(a.toList.take n)[j]? = some y:=by rw [List.getElem?_take,if_pos hj,Array.getElem?_toList]; exact hy
  obtain ⟨p1,e1⟩:=List.getElem?_eq_some_iff.mp hx'
  obtain ⟨p2,e2⟩:=List.getElem?_eq_some_iff.mp hy'
  exact e1 ▸ e2 ▸ List.pairwise_iff_getElem.mp (List.pairwise_reverse.mp h) i j p1 p2 q
 ·obtain rfl:=Nat.le_antisymm hij q
  obtain rfl:=Option.some.inj (hx.symm.trans hy)
  exact KeyOrd.kle_refl _
end
noncomputable def Sp {β σ:Type} (Q I:β→σ→Prop):ForInStep β→σ→Prop
 | .done c,st=>Q c st
 | .yield c,st=>I c st
section
variable {M:Model} {A:Around} {E:Value→Shared→Prop} {s:Shared} {σ:Type}
theorem Z0G {β:Type} {b:Nat} {f:Nat→β→StateT σ Sem (ForInStep β)} (I:Nat→β→σ→Prop) {Q:β→σ→Prop}
  (hstep:∀ i c st,i < b→I i c st→wpS M A E s (f i c) (Sp Q (I (i + 1))) st)
  (hend:∀ c st,I b c st→Q c st) {c:β} {st:σ} (h:I 0 c st):wpS M A E s (forIn [0:b] c f) Q st :=
 wpS_forRange I (fun i c st _ hi q=>wpS_mono (hstep i c st hi q) fun r st' q=>by cases r <;> exact q) (fun c st q=>hend c st (by rwa [Nat.zero_max] at q)) h
theorem Z3A {α:Type} {a:Array α} {d:Nat} {z:α} (h:z ∈ a.toList.drop d):∃ i,d + i < a.size∧a[d + i]? = some z:=by
 obtain ⟨i,hi,e⟩:=List.mem_iff_getElem.mp h
 rw [List.getElem_drop] at e
 have hi':d + i < a.size:=by rw [List.length_drop,Array.length_toList] at hi; lia
 exact ⟨i,hi',by rw [← Array.getElem?_toList]; exact List.getElem?_eq_some_iff.mpr ⟨hi',e⟩⟩
end
section
variable {prog:Program} {w:World} {A:Around} {E:Value→Shared→Prop} {s:Shared} {κ:KeyKind} {st:SortSt}
noncomputable def LI (κ:KeyKind) (T:List Keyed) (a b:Array Keyed) (st:SortSt) (n:Nat) (out:Array Keyed) (ia ib:Nat) (st':SortSt):Prop :=
 Lo (kl κ) T a b out ia ib∧ia + 1 < a.size∧ib < b.size∧out.size = ia + ib∧n + 1 ≤ out.size∧Fr0 st st'
theorem LI.no {T:List Keyed} {a b out:Array Keyed} {n ia ib:Nat} {st':SortSt} (h:LI κ T a b st n out ia ib st') (hn:a.size + b.size ≤ n):False:=by
 obtain ⟨_,h1,h2,h3,h4,_⟩:=h
 lia
theorem LI.el {T:List Keyed} {a b out:Array Keyed} {n ia ib:Nat} {st':SortSt} {G:Prop} (h:LI κ T a b st n out ia ib st') (k:Lo (kl κ) T a b out ia ib→ia + 1 < a.size→ib < b.size→out.size = ia + ib→n + 1 ≤ out.size→Fr0 st st'→G):G :=
 k h.1 h.2.1 h.2.2.1 h.2.2.2.1 h.2.2.2.2.1 h.2.2.2.2.2
section
variable {T:List Keyed} {a b out:Array Keyed} {n m ia ib:Nat} {st':SortSt} {q:Keyed}
theorem LI.stepB (L:Lo (kl κ) T a b (out.push q) ia (ib + 1)) (i1:ia + 1 < a.size) (i2:ib < b.size) (hs:out.size = ia + ib) (hn:m + 1 ≤ out.size) (F:Fr0 st st') (ne:¬ (ib + 1 == b.size) = true) (h:n ≤ m + 1):LI κ T a b st n (out.push q) ia (ib + 1) st' :=
 ⟨L,i1,Nat.lt_of_le_of_ne i2 fun e=>ne (beq_iff_eq.mpr e),by rw [Array.size_push,hs]; rfl,by rw [Array.size_push]; exact Nat.succ_le_succ (Nat.le_trans h hn),F⟩
theorem LI.stepA (L:Lo (kl κ) T a b (out.push q) (ia + 1) ib) (i1:ia + 1 < a.size) (i2:ib < b.size) (hs:out.size = ia + ib) (hn:m + 1 ≤ out.size) (F:Fr0 st st') (ne:¬ (ia + 1 + 1 == a.size) = true) (h:n ≤ m + 1):LI κ T a b st n (out.push q) (ia + 1) ib st' :=
 ⟨L,Nat.lt_of_le_of_ne i1 fun e=>ne (beq_iff_eq.mpr e),i2,by rw [Array.size_push,hs]; exact Nat.add_right_comm ..,by rw [Array.size_push]; exact Nat.succ_le_succ (Nat.le_trans h hn),F⟩
theorem Z81 {α:Type} (o a:Array α) {i k:Nat} (h:i + k ≤ a.size):(o++a.extract i (i + k)).size = o.size + k:=by
 rw [Array.size_append,Array.size_extract,Nat.min_eq_left h,Nat.add_sub_cancel_left]
end
noncomputable def LR (κ:KeyKind) (T:List Keyed) (st:SortSt) (r:Array Keyed) (st':SortSt):Prop:=Srtd (kl κ) T r∧Fr0 st st'
section
variable (R:Array Keyed→SortSt→Prop) (L:Array Keyed→Nat→Nat→SortSt→Prop)
noncomputable def Out {τ:Type} (c:Option (Array Keyed) × τ) (st:SortSt):Prop:=∃ r t,c = (some r,t)∧R r st
noncomputable def In1 (c:Option (Array Keyed) × Array Keyed × Nat × Nat × Nat) (st:SortSt):Prop:=∃ out ia ib m,c = (none,out,ia,ib,m)∧L out ia ib st
noncomputable def In2 (c:Option (Array Keyed) × Array Keyed × Nat × Nat × Nat × Nat) (st:SortSt):Prop:=∃ out ia ib p q,c = (none,out,ia,ib,p,q)∧L out ia ib st
noncomputable def In3 (c:Option (Array Keyed) × Array Keyed × Nat × Nat × Nat × Nat × Nat) (st:SortSt):Prop:=∃ out ia ib m p q,c = (none,out,ia,ib,m,p,q)∧L out ia ib st
variable {R L}
theorem Out.el {τ:Type} {c:Option (Array Keyed) × τ} {st:SortSt} {G:Prop} (h:Out R c st) (k:∀ r t,c = (some r,t)→R r st→G):G:=h.elim fun r h=>h.elim fun t h=>k r t h.1 h.2
theorem In1.el {c} {st:SortSt} {G:Prop} (h:In1 L c st) (k:∀ out ia ib m,c = (none,out,ia,ib,m)→L out ia ib st→G):G:=h.elim fun o h=>h.elim fun i h=>h.elim fun j h=>h.elim fun m h=>k o i j m h.1 h.2
theorem In2.el {c} {st:SortSt} {G:Prop} (h:In2 L c st) (k:∀ out ia ib p q,c = (none,out,ia,ib,p,q)→L out ia ib st→G):G:=h.elim fun o h=>h.elim fun i h=>h.elim fun j h=>h.elim fun m h=>h.elim fun n h=>k o i j m n h.1 h.2
theorem In3.el {c} {st:SortSt} {G:Prop} (h:In3 L c st) (k:∀ out ia ib m p q,c = (none,out,ia,ib,m,p,q)→L out ia ib st→G):G:=h.elim fun o h=>h.elim fun i h=>h.elim fun j h=>h.elim fun m h=>h.elim fun n h=>h.elim fun l h=>k o i j m n l h.1 h.2
variable (R L)
noncomputable def En2 (c:Option (Array Keyed) × Array Keyed × Nat × Nat × Nat × Nat) (st:SortSt):Prop:=Out R c st ∨ In2 L c st
noncomputable def En3 (c:Option (Array Keyed) × Array Keyed × Nat × Nat × Nat × Nat × Nat) (st:SortSt):Prop:=Out R c st ∨ In3 L c st
end
theorem Z6K (hO:κ.OneLt) {a b:Array Keyed} {Q:Array Keyed→SortSt→Prop} {T:List Keyed} (hk:kindOf st = oneType') (ka:∀ p ∈ a.toList,Kd κ p) (kb:∀ p ∈ b.toList,Kd κ p)
  (h0:Lo (kl κ) T a b #[] 0 0) (ha:0 < a.size) (hb:0 < b.size) (hf:∀ x,b[0]? = some x→∀ y ∈ a.toList,kl κ x y) (hl:∀ x,a[a.size - 1]? = some x→∀ y ∈ b.toList,kl κ y x)
  (h:∀ r st',LR κ T st r st'→Q r st'):wpS (model prog w) A E s (Z7Y a b) Q st:=by
 have ata:∀ {i},i < a.size→∃ x,a[i]? = some x∧Kd κ x:=fun hi=>⟨_,getElem?_pos a _ hi,ka _ (Array.getElem_mem_toList hi)⟩
 have atb:∀ {i},i < b.size→∃ x,b[i]? = some x∧Kd κ x:=fun hi=>⟨_,getElem?_pos b _ hi,kb _ (Array.getElem_mem_toList hi)⟩
 unfold Z7Y
 refine wpS_bind (wpS_lift (wpAny_rule ⟨rfl,?_⟩))
 refine wpS_bind (Z08 (getElem?_pos b 0 hb) ?_)
 have L1:Lo (kl κ) T a b #[b[0]] 0 1:=h0.pushB (getElem?_pos b 0 hb) fun z hz=>hf _ (getElem?_pos b 0 hb) z hz
 generalize b[0] = b0 at L1 ⊢
 refine Z01 (fun e=>wpS_pure (h _ _ ⟨L1.done (.inr (by simpa using e)),.refl⟩)) fun ne1=>?_
 refine Z01 (fun e=>wpS_pure (h _ _ ⟨L1.last (by simpa using e) hl,.refl⟩)) fun ne2=>?_
 have ne1:¬ 1 = b.size:=by simpa using ne1
 have ne2:¬ 0 + 1 = a.size:=by simpa using ne2
 refine wpS_bind (wpS_get ?_)
 refine wpS_bind (wpS_mono (Z0G (I:=fun x=>In1 (LI κ T a b st x)) (Q:=Out (LR κ T st)) ?_ (fun c st' h=>In1.el h fun _ _ _ _ _ q=>(q.no (Nat.le_refl _)).elim) ⟨_,_,_,_,rfl,L1,by lia,by lia,rfl,Nat.le_refl _,.refl⟩)
   fun c st' hh=>Out.el hh fun r rest e q=>?_)
 rotate_left
 ·subst e
  exact wpS_pure (h r st' q)
 intro x c st1 _ hh
 refine In1.el hh fun out ia ib mg e L=>?_
 clear hh
 subst e
 refine wpS_bind (wpS_mono (Z0G (I:=fun y=>In2 (LI κ T a b st (x + y))) (Q:=En2 (LR κ T st) (LI κ T a b st (x + 1))) ?_ (fun c st' h=>In2.el h fun _ _ _ _ _ _ q=>(q.no (Nat.le_add_left _ _)).elim) ⟨_,_,_,_,_,rfl,L⟩) ?_)
 ·clear L
  intro y c st1 _ hh
  refine In2.el hh fun out ia ib ac bc e L=>LI.el L fun L i1 i2 hs hn F=>?_
  clear hh
  subst e
  obtain ⟨p,hp,kp⟩:=ata (Nat.lt_of_succ_lt i1)
  obtain ⟨q,hq,kq⟩:=atb i2
  refine wpS_bind (Z08 hq (wpS_bind (Z08 hp (wpS_bind (Z3z hO (F.1.trans hk) kq kp ?_)))))
  cases hc:κ.blt (kf κ q) (kf κ p) with
  | true=>
   have L2:=L.pushB hq (L.headA Z0M hp (KeyOrd.kle_of_klt (show κ.klt _ _ from hc)))
   refine wpS_bind (Z08 hq (Z01 (fun e=>wpS_pure (.inl ⟨_,_,rfl,L2.done (.inr (beq_iff_eq.mp e)),F⟩)) fun ne=>?_))
   have I2:∀ n,n ≤ x + y + 1→LI κ T a b st n (out.push q) ia (ib + 1) st1:=fun n hn'=>LI.stepB L2 i1 i2 hs hn F ne hn'
   exact Z01 (fun _=>wpS_pure (.inr ⟨_,_,_,_,_,rfl,I2 _ (Nat.succ_le_succ (Nat.le_add_right _ _))⟩)) fun _=>wpS_pure ⟨_,_,_,_,_,rfl,I2 _ (Nat.le_refl _)⟩
  | false=>
   have L2:=L.pushA hp (L.flip.headA Z0M hq hc)
   refine wpS_bind (Z08 hp (Z01 (fun e=>wpS_pure (.inl ⟨_,_,rfl,L2.last (by simpa using e) hl,F⟩)) fun ne=>?_))
   have I2:∀ n,n ≤ x + y + 1→LI κ T a b st n (out.push p) (ia + 1) ib st1:=fun n hn'=>LI.stepA L2 i1 i2 hs hn F ne hn'
   exact Z01 (fun _=>wpS_pure (.inr ⟨_,_,_,_,_,rfl,I2 _ (Nat.succ_le_succ (Nat.le_add_right _ _))⟩)) fun _=>wpS_pure ⟨_,_,_,_,_,rfl,I2 _ (Nat.le_refl _)⟩
 clear L
 intro c st1 hh
 refine hh.elim (fun hh=>Out.el hh fun r rest e R=>?_) fun hh=>In2.el hh fun out ia ib ac bc e L=>?_
 ·subst e; exact wpS_pure ⟨r,_,rfl,R⟩
 clear hh
 subst e
 refine wpS_bind (wpS_lift (wpAny_rule ⟨rfl,?_⟩))
 refine wpS_bind (wpS_mono (Z0G (I:=fun y=>In3 (LI κ T a b st (x + 1 + y))) (Q:=En3 (LR κ T st) (LI κ T a b st (x + 1))) ?_ (fun c st' h=>In3.el h fun _ _ _ _ _ _ _ q=>(q.no (Nat.le_add_left _ _)).elim) ⟨_,_,_,_,_,_,rfl,L⟩) ?_)
 ·clear L
  intro y c st1 _ hh
  refine In3.el hh fun out ia ib mg ac bc e L=>LI.el L fun L i1 i2 hs hn F=>?_
  clear hh
  subst e
  extract_lets s1 o1 s2 ia1 s3 ib1 s4 mg1 s5 ac1 bc1 ib2 jp mg2
  refine Z3y (P:=fun _=>True) (f:=jp ()) (fun m _=>?_) fun hj=>Z01 (fun _=>hj _ trivial) fun _=>hj _ trivial
  refine wpS_bind (wpS_modify ?_)
  obtain ⟨q,hq,kq⟩:=atb i2
  refine wpS_bind (Z08 hq (wpS_bind (Z16 (base:=ia) (n:=a.size - ia) hO (F.1.trans hk) kq (Nat.sub_pos_of_lt (Nat.lt_of_succ_lt i1)) (Nat.le_of_eq (Nat.add_sub_cancel' (Nat.le_of_lt (Nat.lt_of_succ_lt i1)))) ka (Z9J L.sa) fun k k1 k2 k3=>?_)))
  dsimp -zeta only
  extract_lets v1 jp2 v3 v4
  have kq':∀ z ∈ a.toList.drop (ia + k),kl κ q z:=fun z hz=>by
   obtain ⟨i,hi,e⟩:=Z3A hz
   rw [Nat.add_assoc] at e
   exact Zdz (k3 (k + i) (Nat.le_add_right _ _) (Nat.lt_sub_iff_add_lt'.mpr (Nat.add_assoc .. ▸ hi)) z e)
  refine Z3y (P:=fun c:Array Keyed × Nat=>Lo (kl κ) T a b c.1 c.2 ib∧c.2 + 1 < a.size∧c.1.size = c.2 + ib∧x + 1 + y + 1 ≤ c.1.size∧∀ z ∈ a.toList.drop c.2,kl κ q z) (f:=fun c=>jp2 () c.1 c.2) ?_ fun hj=>?_
  ·rintro ⟨o,j⟩ ⟨L,i1,hs,hn,hz⟩
   clear kq' k1 k2 k3
   dsimp only at L i1 hs hn hz
   have L2:=L.pushB hq hz
   refine wpS_bind (Z08 hq (Z01 (fun e=>wpS_pure (.inl ⟨_,_,rfl,L2.done (.inr (beq_iff_eq.mp e)),F⟩)) fun ne=>?_))
   have ne:ib + 1 < b.size:=Nat.lt_of_le_of_ne i2 fun e=>ne (beq_iff_eq.mpr e)
   obtain ⟨p,hp,kp⟩:=ata (Nat.lt_of_succ_lt i1)
   refine wpS_bind (Z08 hp (wpS_bind (Z16 (base:=ib + 1) (n:=b.size - (ib + 1)) hO (F.1.trans hk) kp (Nat.sub_pos_of_lt ne) (Nat.le_of_eq (Nat.add_sub_cancel' i2)) kb (Z9J L2.sb) fun k k1 k2 k3=>?_)))
   have kp':∀ z ∈ b.toList.drop (ib + 1 + k),kl κ p z:=fun z hz=>by
    obtain ⟨i,hi,e⟩:=Z3A hz
    rw [Nat.add_assoc] at e
    exact Zdy (k3 (k + i) (Nat.le_add_right _ _) (Nat.lt_sub_iff_add_lt'.mpr (Nat.add_assoc .. ▸ hi)) z e)
   dsimp -zeta only
   extract_lets u1 u2 jp3 u3 u4
   refine Z3y (P:=fun c:Array Keyed × Nat=>Lo (kl κ) T a b c.1 j c.2∧c.2 < b.size∧c.1.size = j + c.2∧x + 1 + y + 2 ≤ c.1.size∧∀ z ∈ b.toList.drop c.2,kl κ p z) (f:=fun c=>jp3 () c.1 c.2) ?_ fun hj=>?_
   ·rintro ⟨o',j'⟩ ⟨L3,i3,hs3,hn3,hz3⟩
    dsimp only at L3 i3 hs3 hn3 hz3
    have L4:=L3.pushA hp hz3
    refine wpS_bind (Z08 hp (Z01 (fun e=>wpS_pure (.inl ⟨_,_,rfl,L4.last (by simpa using e) hl,F⟩)) fun ne=>?_))
    have I4:∀ n,n ≤ x + 1 + y + 2→LI κ T a b st n (o'.push p) (j + 1) j' (SortSt.mk' (kindOf st1) (arrOf st1) (pendingOf st1) m (failedOf st1)):=fun n hn'=>LI.stepA (m:=x + 1 + y + 1) L4 i1 i3 hs3 hn3 F ne hn'
    exact Z01 (fun _=>wpS_pure (.inr ⟨_,_,_,_,_,_,rfl,I4 _ (Nat.le_add_right_of_le (Nat.le_add_right _ _))⟩)) fun _=>wpS_pure ⟨_,_,_,_,_,_,rfl,I4 _ (Nat.le_succ _)⟩
   ·refine Z01 (fun kp0=>?_) fun kn=>?_
    ·have L3:=L2.chunkB k fun i hi x hx z hz=>Z0M _ _ _ (bB_t (k2 i hi x hx)) (L2.headA Z0M hp (KeyOrd.kle_refl _) z hz)
     refine Z01 (fun e=>wpS_pure (.inl ⟨_,_,rfl,L3.done (.inr (by simpa using e)),F⟩)) fun ne=>?_
     have hk':ib + 1 + k ≤ b.size:=Nat.add_le_of_le_sub' i2 k1
     have se:=Z81 (o.push q) b hk'
     rw [Array.size_push] at se
     exact hj (o.push q++b.extract (ib + 1) (ib + 1 + k),ib + 1 + k) ⟨L3,Nat.lt_of_le_of_ne hk' fun e=>ne (beq_iff_eq.mpr e),se.trans (by rw [hs]; exact Nat.add_assoc j (ib + 1) k),Nat.le_trans (Nat.le_trans (Nat.succ_le_succ hn) (Nat.le_add_right _ k)) (Nat.le_of_eq se.symm),kp'⟩
    ·obtain rfl:k = 0:=Nat.eq_zero_of_not_pos kn
     exact hj (o.push q,ib + 1) ⟨L2,ne,by rw [Array.size_push,hs]; rfl,by rw [Array.size_push]; exact Nat.succ_le_succ hn,kp'⟩
  ·refine Z01 (fun kp0=>?_) fun kn=>?_
   ·have L3:=L.chunkA k fun i hi x hx z hz=>Z0M _ _ _ (bB_f (k2 i hi x hx)) (L.flip.headA Z0M hq (KeyOrd.kle_refl _) z hz)
    refine Z01 (fun e=>wpS_pure (.inl ⟨_,_,rfl,L3.last (by simpa using e) hl,F⟩)) fun ne=>?_
    refine Z01 (fun e=>wpS_pure (.inl ⟨_,_,rfl,L3.done (.inl (by simpa using e)),F⟩)) fun ne'=>?_
    have hk':ia + k ≤ a.size:=Nat.add_le_of_le_sub' (Nat.le_of_lt (Nat.lt_of_succ_lt i1)) k1
    have se:=Z81 out a hk'
    exact hj (out++a.extract ia (ia + k),ia + k) ⟨L3,Nat.lt_of_le_of_ne (Nat.lt_of_le_of_ne hk' fun e=>ne' (beq_iff_eq.mpr e)) fun e=>ne (beq_iff_eq.mpr e),se.trans (by rw [hs]; exact Nat.add_right_comm ..),Nat.le_trans (Nat.le_trans hn (Nat.le_add_right _ k)) (Nat.le_of_eq se.symm),kq'⟩
   ·obtain rfl:k = 0:=Nat.eq_zero_of_not_pos kn
    exact hj (out,ia) ⟨L,i1,hs,hn,kq'⟩
 ·clear L
  intro c st1 hh
  refine hh.elim (fun hh=>Out.el hh fun r rest e R=>?_) fun hh=>In3.el hh fun out ia ib mg ac bc e L=>?_
  ·subst e; exact wpS_pure ⟨r,_,rfl,R⟩
  ·subst e; exact wpS_bind (wpS_modify (wpS_pure ⟨_,_,_,_,rfl,L⟩))
end
section
variable {prog:Program} {w:World} {A:Around} {E:Value→Shared→Prop} {s:Shared} {κ:KeyKind} {st:SortSt}
noncomputable def HI (κ:KeyKind) (T:List Keyed) (a b:Array Keyed) (st:SortSt) (n:Nat) (out:Array Keyed) (na nb:Nat) (st':SortSt):Prop :=
 Hi (kl κ) T a b out na nb∧0 < na∧1 < nb∧na ≤ a.size∧nb ≤ b.size∧out.size + na + nb = a.size + b.size∧n + 1 ≤ out.size∧Fr0 st st'
theorem HI.no {T:List Keyed} {a b out:Array Keyed} {n na nb:Nat} {st':SortSt} (h:HI κ T a b st n out na nb st') (hn:a.size + b.size ≤ n):False:=by
 obtain ⟨_,h1,h2,h3,h4,h5,h6,_⟩:=h
 lia
theorem Z3B {α:Type} {a:Array α} {d:Nat} {z:α} (h:z ∈ (a.toList.take d).reverse):∃ i,i < d∧a[i]? = some z:=by
 rw [List.mem_reverse] at h
 obtain ⟨i,hi,e⟩:=List.mem_iff_getElem.mp h
 rw [List.getElem_take] at e
 rw [List.length_take] at hi
 exact ⟨i,Nat.lt_of_lt_of_le hi (Nat.min_le_left _ _),by rw [← Array.getElem?_toList]; exact List.getElem?_eq_some_iff.mpr ⟨_,e⟩⟩
section
variable (R:Array Keyed→SortSt→Prop) (L:Array Keyed→Nat→Nat→SortSt→Prop)
noncomputable def Hn1 (c:Option (Array Keyed) × Nat × Nat × Array Keyed × Nat) (st:SortSt):Prop:=∃ out na nb m,c = (none,na,nb,out,m)∧L out na nb st
noncomputable def Hn2 (c:Option (Array Keyed) × Nat × Nat × Array Keyed × Nat × Nat) (st:SortSt):Prop:=∃ out na nb p q,c = (none,na,nb,out,p,q)∧L out na nb st
noncomputable def Hn3 (c:Option (Array Keyed) × Nat × Nat × Array Keyed × Nat × Nat × Nat) (st:SortSt):Prop:=∃ out na nb m p q,c = (none,na,nb,out,m,p,q)∧L out na nb st
variable {R L}
theorem Hn1.el {c} {st:SortSt} {G:Prop} (h:Hn1 L c st) (k:∀ out na nb m,c = (none,na,nb,out,m)→L out na nb st→G):G:=h.elim fun o h=>h.elim fun i h=>h.elim fun j h=>h.elim fun m h=>k o i j m h.1 h.2
theorem Hn2.el {c} {st:SortSt} {G:Prop} (h:Hn2 L c st) (k:∀ out na nb p q,c = (none,na,nb,out,p,q)→L out na nb st→G):G:=h.elim fun o h=>h.elim fun i h=>h.elim fun j h=>h.elim fun m h=>h.elim fun n h=>k o i j m n h.1 h.2
theorem Hn3.el {c} {st:SortSt} {G:Prop} (h:Hn3 L c st) (k:∀ out na nb m p q,c = (none,na,nb,out,m,p,q)→L out na nb st→G):G:=h.elim fun o h=>h.elim fun i h=>h.elim fun j h=>h.elim fun m h=>h.elim fun n h=>h.elim fun l h=>k o i j m n l h.1 h.2
variable (R L)
noncomputable def Hm2 (c:Option (Array Keyed) × Nat × Nat × Array Keyed × Nat × Nat) (st:SortSt):Prop:=Out R c st ∨ Hn2 L c st
noncomputable def Hm3 (c:Option (Array Keyed) × Nat × Nat × Array Keyed × Nat × Nat × Nat) (st:SortSt):Prop:=Out R c st ∨ Hn3 L c st
end
theorem HI.el {T:List Keyed} {a b out:Array Keyed} {n na nb:Nat} {st':SortSt} {G:Prop} (h:HI κ T a b st n out na nb st') (k:(Hi (kl κ) T a b out na nb)→(0 < na)→(1 < nb)→(na ≤ a.size)→(nb ≤ b.size)→(out.size + na + nb = a.size + b.size)→(n + 1 ≤ out.size)→(Fr0 st st')→G):G :=
 k h.1 h.2.1 h.2.2.1 h.2.2.2.1 h.2.2.2.2.1 h.2.2.2.2.2.1 h.2.2.2.2.2.2.1 h.2.2.2.2.2.2.2
section
variable {T:List Keyed} {a b out:Array Keyed} {n m na nb:Nat} {st':SortSt} {q:Keyed}
theorem HI.stepA (L:Hi (kl κ) T a b (out.push q) na nb) (ne:¬ (na == 0) = true) (i2:1 < nb) (b1:na + 1 ≤ a.size) (b2:nb ≤ b.size) (hs:out.size + (na + 1) + nb = a.size + b.size) (hn:m + 1 ≤ out.size) (F:Fr0 st st') (h:n ≤ m + 1):HI κ T a b st n (out.push q) na nb st' :=
 ⟨L,Nat.pos_of_ne_zero fun e=>ne (beq_iff_eq.mpr e),i2,Nat.le_of_succ_le b1,b2,by rw [Array.size_push]; exact (congrArg (· + nb) (Nat.add_right_comm out.size 1 na)).trans hs,by rw [Array.size_push]; exact Nat.succ_le_succ (Nat.le_trans h hn),F⟩
theorem szH2 {o j n t:Nat} (hs:o + j + (n + 1) = t):o + 1 + j + n = t:=by rw [Nat.add_right_comm o 1 j,Nat.add_right_comm (o + j) 1 n]; exact hs
theorem szH1 {o j n k t:Nat} (k1:k ≤ n) (hs:o + j + (n + 1) = t):o + 1 + (n - k) + j + k = t:=by omega
theorem szH3 {o n k m t:Nat} (k1:k ≤ n) (hs:o + n + m = t):o + (n - k) + k + m = t:=by rw [Nat.add_assoc o,Nat.sub_add_cancel k1]; exact hs
theorem two {k:Nat} (h0:0 < k) (ne:¬ (k == 1) = true):1 < k:=Nat.lt_of_le_of_ne h0 fun e=>ne (beq_iff_eq.mpr e.symm)
theorem HI.stepB (L:Hi (kl κ) T a b (out.push q) na nb) (i1:0 < na) (i2:1 < nb + 1) (ne:¬ (nb == 1) = true) (b1:na ≤ a.size) (b2:nb + 1 ≤ b.size) (hs:out.size + na + (nb + 1) = a.size + b.size) (hn:m + 1 ≤ out.size) (F:Fr0 st st') (h:n ≤ m + 1):HI κ T a b st n (out.push q) na nb st' :=
 ⟨L,i1,two (Nat.lt_of_succ_lt_succ i2) ne,b1,Nat.le_of_succ_le b2,by rw [Array.size_push]; exact szH2 hs,by rw [Array.size_push]; exact Nat.succ_le_succ (Nat.le_trans h hn),F⟩
theorem Z5X {α:Type} (o a:Array α) {k n:Nat} (h:n ≤ a.size):(o++(a.extract k n).reverse).size = o.size + (n - k):=by
 rw [Array.size_append,Array.size_reverse,Array.size_extract,Nat.min_eq_left h]
end
theorem Z6L (hO:κ.OneLt) {a b:Array Keyed} {Q:Array Keyed→SortSt→Prop} {T:List Keyed} (hk:kindOf st = oneType') (ka:∀ p ∈ a.toList,Kd κ p) (kb:∀ p ∈ b.toList,Kd κ p)
  (h0:Hi (kl κ) T a b #[] a.size b.size) (ha:0 < a.size) (hb:0 < b.size) (hf:∀ x,b[0]? = some x→∀ y ∈ a.toList,kl κ x y) (hl:∀ x,a[a.size - 1]? = some x→∀ y ∈ b.toList,kl κ y x)
  (h:∀ r st',LR κ T st r st'→Q r st'):wpS (model prog w) A E s (Z7Z a b) Q st:=by
 have ata:∀ {i},i < a.size→∃ x,a[i]? = some x∧Kd κ x:=fun hi=>⟨_,getElem?_pos a _ hi,ka _ (Array.getElem_mem_toList hi)⟩
 have atb:∀ {i},i < b.size→∃ x,b[i]? = some x∧Kd κ x:=fun hi=>⟨_,getElem?_pos b _ hi,kb _ (Array.getElem_mem_toList hi)⟩
 have trr:∀ x y z,kl κ x y→kl κ y z→kl κ x z:=Z0M
 unfold Z7Z
 refine wpS_bind (wpS_lift (wpAny_rule ⟨rfl,?_⟩))
 obtain ⟨a0,ha0,_⟩:=ata (Nat.sub_lt ha Nat.one_pos)
 refine wpS_bind (Z08 ha0 ?_)
 have L1:Hi (kl κ) T a b #[a0] (a.size - 1) b.size:=by
  have h0':=h0
  rw [← Nat.sub_add_cancel ha] at h0'
  exact h0'.pushA ha0 fun z hz=>hl _ ha0 z (List.mem_of_mem_take (List.mem_reverse.mp hz))
 refine Z01 (fun e=>wpS_pure (h _ _ ⟨L1.done (.inl (beq_iff_eq.mp e)),.refl⟩)) fun ne1=>?_
 refine Z01 (fun e=>wpS_pure (h _ _ ⟨by have e:b.size = 1:=(beq_iff_eq.mp e); rw [e] at L1 ⊢; exact L1.first hf,.refl⟩)) fun ne2=>?_
 have ne1:¬ a.size - 1 = 0:=by simpa using ne1
 have ne2:¬ b.size = 1:=by simpa using ne2
 refine wpS_bind (wpS_get ?_)
 refine wpS_bind (wpS_mono (Z0G (I:=fun x=>Hn1 (HI κ T a b st x)) (Q:=Out (LR κ T st)) ?_ (fun c st' h=>Hn1.el h fun _ _ _ _ _ q=>(q.no (Nat.le_refl _)).elim) ⟨_,_,_,_,rfl,L1,Nat.pos_of_ne_zero ne1,Nat.lt_of_le_of_ne hb (Ne.symm ne2),Nat.sub_le _ _,Nat.le_refl _,congrArg (· + b.size) (Nat.add_sub_cancel' ha),Nat.le_refl _,.refl⟩)
   fun c st' hh=>Out.el hh fun r rest e q=>?_)
 rotate_left
 ·subst e
  exact wpS_pure (h r st' q)
 intro x c st1 _ hh
 refine Hn1.el hh fun out na nb mg e L=>?_
 clear hh
 subst e
 refine wpS_bind (wpS_mono (Z0G (I:=fun y=>Hn2 (HI κ T a b st (x + y))) (Q:=Hm2 (LR κ T st) (HI κ T a b st (x + 1))) ?_ (fun c st' h=>Hn2.el h fun _ _ _ _ _ _ q=>(q.no (Nat.le_add_left _ _)).elim) ⟨_,_,_,_,_,rfl,L⟩) ?_)
 ·clear L
  intro y c st1 _ hh
  refine Hn2.el hh fun out na nb ac bc e L=>HI.el L fun L i1 i2 b1 b2 hs hn F=>?_
  clear hh
  subst e
  obtain ⟨na,rfl⟩:∃ m,na = m + 1:=⟨na - 1,(Nat.sub_add_cancel i1).symm⟩
  obtain ⟨nb,rfl⟩:∃ m,nb = m + 1:=⟨nb - 1,(Nat.sub_add_cancel (Nat.lt_of_succ_lt i2)).symm⟩
  obtain ⟨p,hp,kp⟩:=ata b1
  obtain ⟨q,hq,kq⟩:=atb b2
  refine wpS_bind (Z08 hq (wpS_bind (Z08 hp (wpS_bind (Z3z hO (F.1.trans hk) kq kp ?_)))))
  cases hc:κ.blt (kf κ q) (kf κ p) with
  | true=>
   have L2:=L.pushA hp (L.flip.headA Z0M hq (KeyOrd.kle_of_klt (show κ.klt _ _ from hc)))
   refine wpS_bind (Z08 hp (Z01 (fun e=>wpS_pure (.inl ⟨_,_,rfl,L2.done (.inl (beq_iff_eq.mp e)),F⟩)) fun ne=>?_))
   have I2:∀ n,n ≤ x + y + 1→HI κ T a b st n (out.push p) na (nb + 1) st1:=fun n hn'=>HI.stepA L2 ne i2 b1 b2 hs hn F hn'
   exact Z01 (fun _=>wpS_pure (.inr ⟨_,_,_,_,_,rfl,I2 _ (Nat.succ_le_succ (Nat.le_add_right _ _))⟩)) fun _=>wpS_pure ⟨_,_,_,_,_,rfl,I2 _ (Nat.le_refl _)⟩
  | false=>
   have L2:=L.pushB hq (L.headA Z0M hp hc)
   refine wpS_bind (Z08 hq (Z01 (fun e=>wpS_pure (.inl ⟨_,_,rfl,by have e:nb = 1:=(beq_iff_eq.mp e); subst e; exact L2.first hf,F⟩)) fun ne=>?_))
   have I2:∀ n,n ≤ x + y + 1→HI κ T a b st n (out.push q) (na + 1) nb st1:=fun n hn'=>HI.stepB L2 i1 i2 ne b1 b2 hs hn F hn'
   exact Z01 (fun _=>wpS_pure (.inr ⟨_,_,_,_,_,rfl,I2 _ (Nat.succ_le_succ (Nat.le_add_right _ _))⟩)) fun _=>wpS_pure ⟨_,_,_,_,_,rfl,I2 _ (Nat.le_refl _)⟩
 clear L
 intro c st1 hh
 refine hh.elim (fun hh=>Out.el hh fun r rest e R=>?_) fun hh=>Hn2.el hh fun out na nb ac bc e L=>?_
 ·subst e; exact wpS_pure ⟨r,_,rfl,R⟩
 clear hh
 subst e
 refine wpS_bind (wpS_lift (wpAny_rule ⟨rfl,?_⟩))
 refine wpS_bind (wpS_mono (Z0G (I:=fun y=>Hn3 (HI κ T a b st (x + 1 + y))) (Q:=Hm3 (LR κ T st) (HI κ T a b st (x + 1))) ?_ (fun c st' h=>Hn3.el h fun _ _ _ _ _ _ _ q=>(q.no (Nat.le_add_left _ _)).elim) ⟨_,_,_,_,_,_,rfl,L⟩) ?_)
 ·clear L
  intro y c st1 _ hh
  refine Hn3.el hh fun out na nb mg ac bc e L=>HI.el L fun L i1 i2 b1 b2 hs hn F=>?_
  clear hh
  subst e
  extract_lets s1 na1 s2 nb1 s3 o1 s4 mg1 s5 ac1 bc1 nb2 jp mg2
  refine Z3y (P:=fun _=>True) (f:=jp ()) (fun m _=>?_) fun hj=>Z01 (fun _=>hj _ trivial) fun _=>hj _ trivial
  refine wpS_bind (wpS_modify ?_)
  obtain ⟨q,hq,kq⟩:=atb (i:=nb - 1) (Nat.lt_of_lt_of_le (Nat.sub_lt (Nat.lt_of_succ_lt i2) Nat.one_pos) b2)
  refine wpS_bind (Z08 hq (wpS_bind (Z16 (base:=0) (n:=na) hO (F.1.trans hk) kq (Nat.sub_lt i1 Nat.one_pos) (by rw [Nat.zero_add]; exact b1) ka (Z9K L.sa) fun k k1 k2 k3=>?_)))
  dsimp -zeta only
  extract_lets v1 v2 jp2 v3 v4
  have kq':∀ z ∈ (a.toList.take k).reverse,kl κ z q:=fun z hz=>by
   obtain ⟨i,hi,e⟩:=Z3B hz
   exact bB_f (k2 i hi z (by rw [Nat.zero_add]; exact e))
  refine Z3y (P:=fun c:Nat × Array Keyed=>Hi (kl κ) T a b c.2 c.1 nb∧0 < c.1∧c.1 ≤ a.size∧c.2.size + c.1 + nb = a.size + b.size∧x + 1 + y + 1 ≤ c.2.size∧∀ z ∈ (a.toList.take c.1).reverse,kl κ z q) (f:=fun c=>jp2 () c.1 c.2) ?_ fun hj=>?_
  ·rintro ⟨j,o⟩ ⟨L,i1,b1,hs,hn,hz⟩
   clear kq' k1 k2 k3
   dsimp only at L i1 b1 hs hn hz
   obtain ⟨nc,rfl⟩:∃ m,nb = m + 1:=⟨nb - 1,(Nat.sub_add_cancel (Nat.lt_of_succ_lt i2)).symm⟩
   have L2:=L.pushB hq hz
   refine wpS_bind (Z08 hq (Z01 (fun e=>wpS_pure (.inl ⟨_,_,rfl,by have e:nc = 1:=eq_of_beq (a:=nc) (b:=1) e; subst e; exact L2.first hf,F⟩)) fun ne=>?_))
   have ne:1 < nc:=two (Nat.lt_of_succ_lt_succ i2) ne
   obtain ⟨ja,rfl⟩:∃ m,j = m + 1:=⟨j - 1,(Nat.sub_add_cancel i1).symm⟩
   obtain ⟨p,hp,kp⟩:=ata b1
   refine wpS_bind (Z08 hp (wpS_bind (Z16 (base:=0) (n:=nc) hO (F.1.trans hk) kp (hint:=nc - 1) (Nat.sub_lt (Nat.lt_of_succ_lt ne) Nat.one_pos) (by rw [Nat.zero_add]; exact Nat.le_of_succ_le b2) kb (Z9K L2.sb) fun k k1 k2 k3=>?_)))
   have kp':∀ z ∈ (b.toList.take k).reverse,kl κ z p:=fun z hz=>by
    obtain ⟨i,hi,e⟩:=Z3B hz
    exact bB_t (k2 i hi z (by rw [Nat.zero_add]; exact e))
   dsimp -zeta only
   extract_lets u1 u2 u3 jp3 u4 u5
   refine Z3y (P:=fun c:Nat × Array Keyed=>Hi (kl κ) T a b c.2 (ja + 1) c.1∧1 < c.1∧c.1 ≤ b.size∧c.2.size + (ja + 1) + c.1 = a.size + b.size∧x + 1 + y + 2 ≤ c.2.size∧∀ z ∈ (b.toList.take c.1).reverse,kl κ z p) (f:=fun c=>jp3 () c.1 c.2) ?_ fun hj=>?_
   ·rintro ⟨j',o'⟩ ⟨L3,i3,b3,hs3,hn3,hz3⟩
    dsimp only at L3 i3 b3 hs3 hn3 hz3
    have L4:=L3.pushA hp hz3
    refine wpS_bind (Z08 hp (Z01 (fun e=>wpS_pure (.inl ⟨_,_,rfl,L4.done (.inl (eq_of_beq (a:=ja) (b:=0) e)),F⟩)) fun ne=>?_))
    have I4:∀ n,n ≤ x + 1 + y + 2→HI κ T a b st n (o'.push p) ja j' (SortSt.mk' (kindOf st1) (arrOf st1) (pendingOf st1) m (failedOf st1)):=fun n hn'=>HI.stepA (m:=x + 1 + y + 1) L4 ne i3 b1 b3 hs3 hn3 F hn'
    exact Z01 (fun _=>wpS_pure (.inr ⟨_,_,_,_,_,_,rfl,I4 _ (Nat.le_add_right_of_le (Nat.le_add_right _ _))⟩)) fun _=>wpS_pure ⟨_,_,_,_,_,_,rfl,I4 _ (Nat.le_succ _)⟩
   ·refine Z01 (fun kp0=>?_) fun kn=>?_
    ·have L3:=L2.chunkB k k1 fun i hi hin x hx z hz=>Z0M _ _ _ (L2.headA Z0M hp (KeyOrd.kle_refl _) z hz) (Zdy (k3 i hi hin x (by rw [Nat.zero_add]; exact hx)))
     refine Z01 (fun e=>wpS_pure (.inl ⟨_,_,rfl,by have e:k = 1:=(beq_iff_eq.mp e); subst e; exact L3.first hf,F⟩)) fun ne=>?_
     refine Z01 (fun e=>wpS_pure (.inl ⟨_,_,rfl,L3.done (.inr (beq_iff_eq.mp e)),F⟩)) fun ne'=>?_
     have se:=Z5X (k:=k) (o.push q) b (Nat.le_of_succ_le b2)
     rw [Array.size_push] at se
     exact hj (k,o.push q++(b.extract k nc).reverse) ⟨L3,two (Nat.pos_of_ne_zero fun e=>ne' (beq_iff_eq.mpr e)) ne,Nat.le_trans k1 (Nat.le_of_succ_le b2),(congrArg (· + (ja + 1) + k) se).trans (szH1 k1 hs),Nat.le_trans (Nat.le_trans (Nat.succ_le_succ hn) (Nat.le_add_right _ _)) (Nat.le_of_eq se.symm),kp'⟩
    ·obtain rfl:k = nc:=Nat.le_antisymm k1 (Nat.le_of_sub_eq_zero (Nat.eq_zero_of_not_pos kn))
     exact hj (k,o.push q) ⟨L2,ne,Nat.le_of_succ_le b2,by rw [Array.size_push]; exact szH2 hs,by rw [Array.size_push]; exact Nat.succ_le_succ hn,kp'⟩
  ·refine Z01 (fun kp0=>?_) fun kn=>?_
   ·have hb':∀ z ∈ (b.toList.take nb).reverse,kl κ z q:=by
     obtain ⟨nc,rfl⟩:∃ m,nb = m + 1:=⟨nb - 1,(Nat.sub_add_cancel (Nat.lt_of_succ_lt i2)).symm⟩
     exact L.flip.headA Z0M hq (KeyOrd.kle_refl _)
    have L3:=L.chunkA k k1 fun i hi hin x hx z hz=>Z0M _ _ _ (hb' z hz) (Zdz (k3 i hi hin x (by rw [Nat.zero_add]; exact hx)))
    refine Z01 (fun e=>wpS_pure (.inl ⟨_,_,rfl,L3.done (.inl (beq_iff_eq.mp e)),F⟩)) fun ne=>?_
    have se:=Z5X (k:=k) out a b1
    exact hj (k,out++(a.extract k na).reverse) ⟨L3,Nat.pos_of_ne_zero fun e=>ne (beq_iff_eq.mpr e),Nat.le_trans k1 b1,(congrArg (· + k + nb) se).trans (szH3 k1 hs),Nat.le_trans (Nat.le_trans hn (Nat.le_add_right _ _)) (Nat.le_of_eq se.symm),kq'⟩
   ·obtain rfl:k = na:=Nat.le_antisymm k1 (Nat.le_of_sub_eq_zero (Nat.eq_zero_of_not_pos kn))
    exact hj (k,out) ⟨L,i1,b1,hs,hn,kq'⟩
 ·clear L
  intro c st1 hh
  refine hh.elim (fun hh=>Out.el hh fun r rest e R=>?_) fun hh=>Hn3.el hh fun out na nb mg ac bc e L=>?_
  ·subst e; exact wpS_pure ⟨r,_,rfl,R⟩
  ·subst e; exact wpS_bind (wpS_modify (wpS_pure ⟨_,_,_,_,rfl,L⟩))
end
section
variable {prog:Program} {w:World} {A:Around} {E:Value→Shared→Prop} {s:Shared} {κ:KeyKind} {st:SortSt}
theorem ZdA {σ:Type} {M:Model} {x:σ} {Q:PUnit→σ→Prop} {st:σ} (h:Q ⟨⟩ x):wpS M A E s (set x:StateT σ Sem PUnit) Q st:=by
 unfold wpS; rw [StateT.run_set]; exact wpAny_pure ⟨rfl,h⟩
theorem Z5Y {α:Type} (a:Array α):a.toList.take a.size = a.toList:=List.take_of_length_le (by simp)
theorem Z1K {α:Type} {l:List α} {k:Nat} {z:α} (h:z ∈ l.take k):∃ i,i < k∧l[i]? = some z:=by
 obtain ⟨i,hi,e⟩:=List.mem_iff_getElem.mp h
 rw [List.length_take] at hi
 rw [List.getElem_take] at e
 exact ⟨i,Nat.lt_of_lt_of_le hi (Nat.min_le_left _ _),List.getElem?_eq_some_iff.mpr ⟨_,e⟩⟩
theorem Z2A {α:Type} {l:List α} {k:Nat} {z:α} (h:z ∈ l.drop k):∃ i,k ≤ i∧i < l.length∧l[i]? = some z:=by
 obtain ⟨i,hi,e⟩:=List.mem_iff_getElem.mp h
 rw [List.length_drop] at hi
 rw [List.getElem_drop] at e
 exact ⟨k + i,Nat.le_add_right _ _,Nat.add_lt_of_lt_sub' hi,List.getElem?_eq_some_iff.mpr ⟨_,e⟩⟩
theorem Z2B {l:List Keyed} (h:l.Pairwise (kl κ)) {i j:Nat} {x y:Keyed} (hij:i ≤ j) (hx:l[i]? = some x) (hy:l[j]? = some y):kl κ x y:=by
 rcases Nat.lt_or_ge i j with q | q
 ·obtain ⟨p1,e1⟩:=List.getElem?_eq_some_iff.mp hx
  obtain ⟨p2,e2⟩:=List.getElem?_eq_some_iff.mp hy
  exact e1 ▸ e2 ▸ List.pairwise_iff_getElem.mp h i j p1 p2 q
 ·obtain rfl:=Nat.le_antisymm hij q
  obtain rfl:=Option.some.inj (hx.symm.trans hy)
  exact KeyOrd.kle_refl _
theorem Z6M {P T S:List Keyed} {r:Array Keyed} (sp:P.Pairwise (kl κ)) (ss:S.Pairwise (kl κ)) (hr:Srtd (kl κ) T r) (pt:∀ x ∈ P,∀ y ∈ T,kl κ x y) (ps:∀ x ∈ P,∀ y ∈ S,kl κ x y) (ts:∀ x ∈ T,∀ y ∈ S,kl κ x y) :
  (P++r.toList++S).Pairwise (kl κ)∧(P++r.toList++S).Perm (P++T++S) :=
 ⟨List.pairwise_append.mpr ⟨List.pairwise_append.mpr ⟨sp,hr.1,fun x hx y hy=>pt x hx y (hr.2.mem_iff.mp hy)⟩,ss,fun x hx y hy=>(List.mem_append.mp hx).elim (fun q=>ps x q y hy) fun q=>ts x (hr.2.mem_iff.mp q) y hy⟩,
  ((List.Perm.append_left P hr.2).append_right S)⟩
theorem Z6N (hO:κ.OneLt) {X Y:List Keyed} {n1 n2 p1 p2:Nat} {Q:Bool→SortSt→Prop} (hk:kindOf st = oneType') (hf:failedOf st = none) (hp:pendingOf st = #[(0,n1,p1),(n1,n2,p2)])
  (ha:(arrOf st).toList = X++Y) (h1:X.length = n1) (h2:Y.length = n2) (g1:0 < n1) (g2:0 < n2) (kd:∀ p ∈ X++Y,Kd κ p) (sx:X.Pairwise (kl κ)) (sy:Y.Pairwise (kl κ))
  (h:∀ st',(arrOf st').toList.Pairwise (kl κ)→(arrOf st').toList.Perm (X++Y)→failedOf st' = none→pendingOf st' = #[(0,n1 + n2,p1)]→Q true st') :
  wpS (model prog w) A E s (mergeAt' 0) Q st:=by
 unfold mergeAt'
 refine wpS_bind (wpS_get ?_)
 refine id ?_
 have e0:(pendingOf st)[0]? = some (0,n1,p1):=by rw [hp]; rfl
 have e1:(pendingOf st)[0 + 1]? = some (n1,n2,p2):=by rw [hp]; rfl
 dsimp -zeta only
 unfold pendingOf at e0 e1
 simp only [e0,e1]
 refine wpS_bind (ZdA ?_)
 show wpS _ _ _ _ (elem' (arrOf st) n1 >>= _) _ (SortSt.mk' (kindOf st) (arrOf st) (((pendingOf st).setIfInBounds 0 (0,n1 + n2,p1)).eraseIdxIfInBounds (0 + 1)) (gallopOf st) (failedOf st))
 generalize hst:SortSt.mk' (kindOf st) (arrOf st) (((pendingOf st).setIfInBounds 0 (0,n1 + n2,p1)).eraseIdxIfInBounds (0 + 1)) (gallopOf st) (failedOf st) = st1
 have F1:kindOf st1 = oneType'∧arrOf st1 = arrOf st∧pendingOf st1 = #[(0,n1 + n2,p1)]∧failedOf st1 = none:=by
  subst hst
  refine ⟨hk,rfl,?_,hf⟩
  show ((pendingOf st).setIfInBounds 0 (0,n1 + n2,p1)).eraseIdxIfInBounds (0 + 1) = _
  rw [hp]; simp
 clear hst e0 e1 hp hk hf
 obtain ⟨hk,e1,hp,hf⟩:=F1
 have hz:(arrOf st).size = n1 + n2:=by rw [← Array.length_toList,ha,List.length_append,h1,h2]
 have hX:∀ i,i < n1→(arrOf st)[0 + i]? = X[i]?:=fun i hi=>by rw [Nat.zero_add,← Array.getElem?_toList,ha,List.getElem?_append_left (by rw [h1]; exact hi)]
 have hY:∀ i,(arrOf st)[n1 + i]? = Y[i]?:=fun i=>by rw [← Array.getElem?_toList,ha,List.getElem?_append_right (by rw [h1]; exact Nat.le_add_right _ _),h1,Nat.add_sub_cancel_left]
 have kA:∀ p ∈ (arrOf st).toList,Kd κ p:=ha ▸ kd
 obtain ⟨b0,hb0⟩:∃ b,Y[0]? = some b:=⟨Y[0],List.getElem?_eq_getElem (by lia)⟩
 obtain ⟨al,hal⟩:∃ b,X[n1 - 1]? = some b:=⟨X[n1 - 1],List.getElem?_eq_getElem (by lia)⟩
 have hb0':(arrOf st)[n1]? = some b0:=(hY 0).trans hb0
 have fin:∀ r:List Keyed,r = (arrOf st1).toList→(∀ x ∈ X,∀ y ∈ Y,kl κ x y)→Q true st1:=fun r _ q=>h st1 (by rw [e1,ha]; exact List.pairwise_append.mpr ⟨sx,sy,q⟩) (by rw [e1,ha]) hf hp
 refine wpS_bind (Z08 hb0' (wpS_bind (Z16 (base:=0) (n:=n1) (hint:=0) hO hk (kd _ (List.mem_append_right _ (List.mem_of_getElem? hb0))) g1 (by show 0 + n1 ≤ (arrOf st).size; lia) kA (fun i j x y hij hj hx hy=>Z2B sx hij ((hX i (by lia)).symm.trans hx) ((hX j hj).symm.trans hy)) fun k k1 k2 k3=>?_)))
 have yb:∀ z ∈ Y,kl κ b0 z:=fun z hz=>by
  obtain ⟨i,hi,e⟩:=List.mem_iff_getElem.mp hz
  exact Z2B sy (Nat.zero_le i) hb0 (List.getElem?_eq_some_iff.mpr ⟨hi,e⟩)
 have xa:∀ z ∈ X,kl κ z al:=fun z hz=>by
  obtain ⟨i,hi,e⟩:=List.mem_iff_getElem.mp hz
  exact Z2B sx (by lia) (List.getElem?_eq_some_iff.mpr ⟨hi,e⟩) hal
 have tk:∀ z ∈ X.take k,kl κ z b0:=fun z hz=>by
  obtain ⟨i,hi,e⟩:=Z1K hz
  exact bB_f (k2 i hi z ((hX i (by lia)).trans e))
 have dk:∀ z ∈ X.drop k,kl κ b0 z:=fun z hz=>by
  obtain ⟨i,hi,hl,e⟩:=Z2A hz
  exact Zdz (k3 i hi (by lia) z ((hX i (by lia)).trans e))
 refine Z01 (fun e=>wpS_pure (fin _ rfl fun x hx y hy=>?_)) fun ne=>?_
 ·have e:n1 - k = 0:=by simpa using e
  rw [← List.take_of_length_le (l:=X) (i:=k) (by lia)] at hx
  exact Z0M _ _ _ (tk x hx) (yb y hy)
 have ne:¬ n1 - k = 0:=by simpa using ne
 have hal':(arrOf st)[0 + k + (n1 - k) - 1]? = some al:=by
  rw [show 0 + k + (n1 - k) - 1 = 0 + (n1 - 1) by lia,hX _ (by lia)]; exact hal
 refine wpS_bind (Z08 hal' (wpS_bind (Z16 (base:=n1) (n:=n2) (hint:=n2 - 1) hO hk (kd _ (List.mem_append_left _ (List.mem_of_getElem? hal))) (by lia) (by show n1 + n2 ≤ (arrOf st).size; lia) kA (fun i j x y hij hj hx hy=>Z2B sy hij ((hY i).symm.trans hx) ((hY j).symm.trans hy)) fun nb m1 m2 m3=>?_)))
 have tb:∀ z ∈ Y.take nb,kl κ z al:=fun z hz=>by
  obtain ⟨i,hi,e⟩:=Z1K hz
  exact bB_t (m2 i hi z ((hY i).trans e))
 have db:∀ z ∈ Y.drop nb,kl κ al z:=fun z hz=>by
  obtain ⟨i,hi,hl,e⟩:=Z2A hz
  exact Zdy (m3 i hi (by lia) z ((hY i).trans e))
 refine Z01 (fun e=>wpS_pure (fin _ rfl fun x hx y hy=>?_)) fun ne2=>?_
 ·have e:nb = 0:=by simpa using e
  subst e
  exact Z0M _ _ _ (xa x hx) (db y hy)
 have ne2:¬ nb = 0:=by simpa using ne2
 have ex:((arrOf st).extract (0 + k) n1).toList = X.drop k:=by
  rw [Z0L,ha,Nat.zero_add,List.drop_append_of_le_length (by lia),List.take_append_of_le_length (by simp; lia),List.take_of_length_le (by simp; lia)]
 have ey:((arrOf st).extract n1 (n1 + nb)).toList = Y.take nb:=by
  rw [Z0L,ha,Nat.add_sub_cancel_left,List.drop_append_of_le_length (by lia),List.drop_eq_nil_of_le (by lia)]; rfl
 have zx:((arrOf st).extract (0 + k) n1).size = n1 - k:=by rw [← Array.length_toList,ex,List.length_drop]; lia
 have zy:((arrOf st).extract n1 (n1 + nb)).size = nb:=by rw [← Array.length_toList,ey,List.length_take]; lia
 have ga:∀ x,((arrOf st).extract (0 + k) n1)[((arrOf st).extract (0 + k) n1).size - 1]? = some x→x = al:=fun x q=>by
  rw [← Array.getElem?_toList,ex,zx,List.getElem?_drop,show k + (n1 - k - 1) = n1 - 1 by lia,hal] at q
  exact (Option.some.inj q).symm
 have gb:∀ x,((arrOf st).extract n1 (n1 + nb))[0]? = some x→x = b0:=fun x q=>by
  rw [← Array.getElem?_toList,ey,List.getElem?_take,if_pos (Nat.pos_of_ne_zero ne2),hb0] at q
  exact (Option.some.inj q).symm
 have hT:(X.drop k).Pairwise (kl κ)∧(Y.take nb).Pairwise (kl κ):=⟨sx.sublist (List.drop_sublist _ _),sy.sublist (List.take_sublist _ _)⟩
 have hend:∀ (r:Array Keyed) (st2:SortSt),LR κ (X.drop k++Y.take nb) st1 r st2→Q (failedOf st2).isNone (SortSt.mk' (kindOf st2) (List.foldl (fun a x=>a.setIfInBounds (0 + k + x.snd) x.fst) (arrOf st2) r.toList.zipIdx) (pendingOf st2) (gallopOf st2) (failedOf st2)):=by
  rintro r st2 ⟨hr,f1,f2,f3,f4⟩
  have hf2:failedOf st2 = none:=f4.trans hf
  have eA:arrOf st2 = (X.take k++(X.drop k++Y.take nb)++Y.drop nb).toArray:=by
   apply Array.toList_inj.mp
   rw [f2,e1,ha]
   show X++Y = X.take k++(X.drop k++Y.take nb)++Y.drop nb
   rw [← List.append_assoc,List.take_append_drop,List.append_assoc,List.take_append_drop]
  have ep:=Zdx r.toList (X.take k) (X.drop k++Y.take nb) (Y.drop nb) (0 + k) hr.2.length_eq (by rw [List.length_take]; lia)
  rw [← eA] at ep
  have J:=Z6M (P:=X.take k) (S:=Y.drop nb) (sx.sublist (List.take_sublist _ _)) (sy.sublist (List.drop_sublist _ _)) hr
   (fun x hx y hy=>(List.mem_append.mp hy).elim (fun q=>Z0M _ _ _ (tk x hx) (dk y q)) fun q=>Z0M _ _ _ (tk x hx) (yb y (List.mem_of_mem_take q)))
   (fun x hx y hy=>Z0M _ _ _ (tk x hx) (yb y (List.mem_of_mem_drop hy)))
   (fun x hx y hy=>Z0M _ _ _ ((List.mem_append.mp hx).elim (fun q=>xa x (List.mem_of_mem_drop q)) (tb x)) (db y hy))
  rw [hf2]
  refine h _ ?_ ?_ rfl (f3.trans hp)
  ·show (List.foldl _ (arrOf st2) _).toList.Pairwise _
   rw [ep]; exact J.1
  ·show (List.foldl _ (arrOf st2) _).toList.Perm _
   rw [ep]
   refine J.2.trans (List.Perm.of_eq ?_)
   rw [← List.append_assoc,List.take_append_drop,List.append_assoc,List.take_append_drop]
 have kx:∀ p ∈ ((arrOf st).extract (0 + k) n1).toList,Kd κ p:=fun p q=>kd p (List.mem_append_left _ (List.mem_of_mem_drop (ex ▸ q)))
 have ky:∀ p ∈ ((arrOf st).extract n1 (n1 + nb)).toList,Kd κ p:=fun p q=>kd p (List.mem_append_right _ (List.mem_of_mem_take (ey ▸ q)))
 have hfx:∀ x,((arrOf st).extract n1 (n1 + nb))[0]? = some x→∀ y ∈ ((arrOf st).extract (0 + k) n1).toList,kl κ x y:=fun x q y hy=>gb x q ▸ dk y (ex ▸ hy)
 have hlx:∀ x,((arrOf st).extract (0 + k) n1)[((arrOf st).extract (0 + k) n1).size - 1]? = some x→∀ y ∈ ((arrOf st).extract n1 (n1 + nb)).toList,kl κ y x:=fun x q y hy=>ga x q ▸ tb y (ey ▸ hy)
 refine Z01 (fun _=>?_) fun _=>?_
 ·refine wpS_bind (Z6K (T:=X.drop k++Y.take nb) hO hk kx ky ?_ (by show 0 < ((arrOf st).extract (0 + k) n1).size; lia) (by show 0 < ((arrOf st).extract n1 (n1 + nb)).size; lia) hfx hlx fun r st2 R=>wpS_bind (wpS_modify (wpS_bind (wpS_get (wpS_pure (hend r st2 R))))))
  unfold Lo
  rw [List.drop_zero,List.drop_zero,ex,ey]
  exact ⟨.nil,hT.1,hT.2,fun _ q=>absurd q List.not_mem_nil,fun _ q=>absurd q List.not_mem_nil,.refl _⟩
 ·refine wpS_bind (Z6L (T:=X.drop k++Y.take nb) hO hk kx ky ?_ (by show 0 < ((arrOf st).extract (0 + k) n1).size; lia) (by show 0 < ((arrOf st).extract n1 (n1 + nb)).size; lia) hfx hlx fun r st2 R=>wpS_bind (wpS_modify (wpS_bind (wpS_get (wpS_pure (hend r st2 R))))))
  unfold Hi
  rw [Z5Y,Z5Y,ex,ey]
  exact ⟨.nil,List.pairwise_reverse.mpr hT.1,List.pairwise_reverse.mpr hT.2,fun _ q=>absurd q List.not_mem_nil,fun _ q=>absurd q List.not_mem_nil,(List.Perm.append (List.reverse_perm _) (List.reverse_perm _))⟩
end
theorem Z6O {α:Type} (P X S:List α):(mirror (P++X++S).toArray P.length (P.length + X.length) ((P.length + X.length - P.length) / 2)).toList = P++X.reverse++S:=by
 refine List.ext_getElem? fun i=>?_
 rw [Array.getElem?_toList,getElem?_mirror_all (by simp),List.getElem?_toArray,List.getElem?_toArray]
 split
 ·rename_i h
  rw [List.append_assoc,List.append_assoc,List.getElem?_append_right (l₁:=P) h.1,List.getElem?_append_left (l₁:=X.reverse) (by simp; lia),List.getElem?_reverse (by lia),List.getElem?_append_right (l₁:=P) (by lia),List.getElem?_append_left (l₁:=X) (by lia)]
  congr 1
  lia
 ·rename_i h
  rcases Nat.lt_or_ge i P.length with q | q
  ·rw [List.append_assoc,List.append_assoc,List.getElem?_append_left (l₁:=P) q,List.getElem?_append_left (l₁:=P) q]
  ·rw [List.getElem?_append_right (l₁:=P++X) (by simp; lia),List.getElem?_append_right (l₁:=P++X.reverse) (by simp; lia)]
   simp
theorem Z6P {α:Type} (P M S:List α) (y:α):(bubble (P++M++[y]++S).toArray (P.length + M.length) M.length).toList = P++[y]++M++S:=by
 refine List.ext_getElem? fun i=>?_
 rw [Array.getElem?_toList,getElem?_bubble (by simp) _ (by lia),List.getElem?_toArray,List.getElem?_toArray,List.getElem?_toArray,show P.length + M.length - M.length = P.length by lia]
 simp only [List.append_assoc]
 rcases Nat.lt_trichotomy i P.length with q | q | q
 ·rw [if_neg (by lia),if_neg (by lia),List.getElem?_append_left (l₁:=P) q,List.getElem?_append_left (l₁:=P) q]
 ·subst q
  rw [if_pos rfl,List.getElem?_append_right (l₁:=P) (by lia),List.getElem?_append_right (l₁:=M) (by lia),List.getElem?_append_right (l₁:=P) (by lia)]
  simp
 ·rw [if_neg (by lia),List.getElem?_append_right (l₁:=P) (l₂:=[y]++(M++S)) (by lia),List.getElem?_append_right (l₁:=[y]) (by simp; lia)]
  split
  ·rw [List.getElem?_append_right (l₁:=P) (by lia),List.getElem?_append_left (l₁:=M) (by lia),List.getElem?_append_left (l₁:=M) (by simp; lia)]
   congr 1
   simp; lia
  ·rw [List.getElem?_append_right (l₁:=P) (by lia),List.getElem?_append_right (l₁:=M) (by lia),List.getElem?_append_right (l₁:=[y]) (by simp; lia),List.getElem?_append_right (l₁:=M) (by simp; lia)]
   congr 1
   simp; lia
section
variable {prog:Program} {w:World} {A:Around} {E:Value→Shared→Prop} {s:Shared} {κ:KeyKind} {st:SortSt}
theorem Z9L (hO:κ.OneLt) {i j:Nat} {x y:Keyed} {Q:Option Bool→SortSt→Prop} (hk:kindOf st = oneType') (hi:(arrOf st)[i]? = some x) (hj:(arrOf st)[j]? = some y) (kx:Kd κ x) (ky:Kd κ y)
  (h:Q (some (κ.blt (kf κ x) (kf κ y))) st):wpS (model prog w) A E s (ltAt' i j) Q st:=by
 rw [ltAt'_eq]
 exact wpS_bind (wpS_get (wpS_bind (Z08 hi (wpS_bind (Z08 hj (Z3z hO hk kx ky h))))))
structure Sh (κ:KeyKind) (P L:List Keyed) (pd:Array (Nat × Nat × Nat)) (st:SortSt):Prop where
 arr:(arrOf st).toList = P++L
 kind:kindOf st = oneType'
 failed:failedOf st = none
 pend:pendingOf st = pd
 keys:∀ p ∈ L,Kd κ p
 nd:(L.map (kf κ)).Nodup
theorem Sh.at {P L:List Keyed} {pd:Array (Nat × Nat × Nat)} (h:Sh κ P L pd st) {i:Nat} (hi:i < L.length):(arrOf st)[P.length + i]? = some L[i]:=by
 rw [← Array.getElem?_toList,h.arr,List.getElem?_append_right (Nat.le_add_right _ _),Nat.add_sub_cancel_left]; exact List.getElem?_eq_getElem hi
theorem Sh.ne {P L:List Keyed} {pd:Array (Nat × Nat × Nat)} (h:Sh κ P L pd st) {i j:Nat} (hi:i < L.length) (hj:j < L.length) (hij:i ≠ j) (q:κ.blt (kf κ L[i]) (kf κ L[j]) = false):κ.blt (kf κ L[j]) (kf κ L[i]) = true:=by
 cases q':κ.blt (kf κ L[j]) (kf κ L[i]) with
 | true=>rfl
 | false=>
  have e:=κ.total _ _ q q'
  have:=(List.getElem_inj h.nd (i:=i) (j:=j) (h₀:=by simpa using hi) (h₁:=by simpa using hj)).mp (by simpa using e)
  exact absurd this hij
theorem Sh.perm {P L L':List Keyed} {pd:Array (Nat × Nat × Nat)} {xs:Array Keyed} (h:Sh κ P L pd st) (hp:L'.Perm L) (e:xs.toList = P++L'):Sh κ P L' pd (setArr st xs) :=
 ⟨e,h.kind,h.failed,h.pend,fun p q=>h.keys p (hp.mem_iff.mp q),(hp.map _).nodup_iff.mpr h.nd⟩
theorem Sh.lt {P L:List Keyed} {pd:Array (Nat × Nat × Nat)} {i j:Nat} {Q:Option Bool→SortSt→Prop} (h:Sh κ P L pd st) (hO:κ.OneLt) (hi:i < L.length) (hj:j < L.length) (q:Q (some (κ.blt (kf κ L[i]) (kf κ L[j]))) st) :
  wpS (model prog w) A E s (ltAt' (P.length + i) (P.length + j)) Q st:=Z9L hO h.kind (h.at hi) (h.at hj) (h.keys _ (List.getElem_mem _)) (h.keys _ (List.getElem_mem _)) q
theorem Z2e {R:Keyed→Keyed→Prop} (tr:∀ x y z,R x y→R y z→R x z) {L:List Keyed} {n:Nat} (hn:n < L.length) (h1:1 ≤ n) (h:(L.take n).Pairwise R) (q:R (L[n - 1]'(by lia)) L[n]):(L.take (n + 1)).Pairwise R:=by
 rw [List.take_add_one,List.getElem?_eq_getElem hn]
 refine List.pairwise_append.mpr ⟨h,List.pairwise_singleton _ _,fun x hx y hy=>?_⟩
 obtain rfl:=List.mem_singleton.mp hy
 obtain ⟨i,hi,e⟩:=Z1K hx
 obtain ⟨hi',e⟩:=List.getElem?_eq_some_iff.mp e
 subst e
 rcases Nat.lt_or_ge i (n - 1) with c | c
 ·exact tr _ _ _ (by
   have:=List.pairwise_iff_getElem.mp h i (n - 1) (by simp; lia) (by simp; lia) c
   simpa using this) q
 ·obtain rfl:i = n - 1:=by lia
  exact q
end
section
variable {prog:Program} {w:World} {A:Around} {E:Value→Shared→Prop} {s:Shared} {κ:KeyKind} {st:SortSt}
theorem Z2f (hO:κ.OneLt) {P L:List Keyed} {pd:Array (Nat × Nat × Nat)} {Q:Option Nat→SortSt→Prop} (hS:Sh κ P L pd st) (h1:1 ≤ L.length)
  (h:∀ m L' st',Sh κ P L' pd st'→L'.Perm L→1 ≤ m→m ≤ L.length→(L'.take m).Pairwise (kl κ)→Q (some m) st'):wpS (model prog w) A E s (countRun' P.length L.length) Q st:=by
 unfold countRun'
 refine wpS_bind (wpS_mono (wpS_forRange (I:=fun x c st'=>st' = st∧c = (none,x)∧(L.take x).Pairwise (kl κ)) (Q:=fun c st'=>st' = st∧∃ n,c = (none,n)∧1 ≤ n∧n ≤ L.length∧(L.take n).Pairwise (kl κ)∧(n = 1→n = L.length ∨ ∃ hn:1 < L.length,κ.blt (kf κ L[1]) (kf κ L[0]) = true)) ?_ ?_ ⟨rfl,rfl,?_⟩) ?_)
 ·rintro x c st' h1x hx ⟨rfl,rfl,hs⟩
  obtain ⟨j,rfl⟩:∃ j,x = j + 1:=⟨x - 1,by lia⟩
  refine wpS_bind (hS.lt hO (i:=j + 1) (j:=j) hx (by lia) ?_)
  cases hb:κ.blt (kf κ L[j + 1]) (kf κ L[j]) with
  | true=>exact wpS_pure ⟨rfl,j + 1,rfl,h1x,by lia,hs,fun e=>.inr (by obtain rfl:j = 0:=(by lia); exact ⟨hx,hb⟩)⟩
  | false=>exact wpS_pure ⟨rfl,rfl,Z2e Z0M hx h1x hs hb⟩
 ·rintro c st' ⟨rfl,rfl,hs⟩
  rw [Nat.max_eq_right h1] at hs ⊢
  exact ⟨rfl,_,rfl,h1,Nat.le_refl _,hs,fun _=>.inl rfl⟩
 ·cases L with
  | nil=>cases h1
  | cons a l=>exact List.pairwise_singleton _ _
 rintro c st' ⟨rfl,n,rfl,n1,n2,hs,hd⟩
 refine Z01 (fun e=>wpS_pure (h n L _ hS (.refl _) n1 n2 hs)) fun ne=>?_
 have ne:¬ n = L.length:=fun q=>ne (beq_iff_eq.mpr q)
 refine Z01 (fun g=>?_) fun g=>?_
 ·have g:1 < n:=g
  obtain ⟨j,rfl⟩:∃ j,n = j + 1:=⟨n - 1,by lia⟩
  refine wpS_bind (hS.lt hO (i:=0) (j:=j) (by lia) (by lia) ?_)
  rw [hS.ne (i:=j) (j:=0) (by lia) (by lia) (by lia) (Z2B hs (i:=0) (j:=j) (Nat.zero_le _) (by rw [List.getElem?_take,if_pos (by lia)]; exact List.getElem?_eq_getElem _) (by rw [List.getElem?_take,if_pos (by lia)]; exact List.getElem?_eq_getElem _))]
  exact wpS_pure (h (j + 1) L _ hS (.refl _) n1 n2 hs)
 ·obtain rfl:n = 1:=by have g:¬ 1 < n:=g; lia
  obtain ⟨l2,hd⟩:=(hd rfl).resolve_left ne
  have ger:∀ x y z:Keyed,kl κ y x→kl κ z y→kl κ z x:=fun x y z a b=>Z0M _ _ _ b a
  refine wpS_bind (wpS_lift (wpAny_rule ⟨rfl,?_⟩))
  refine wpS_bind (wpS_mono (wpS_forRange (I:=fun x c st''=>st'' = st'∧c = (none,x,0)∧(L.take x).Pairwise (fun x y=>kl κ y x)) (Q:=fun c st''=>st'' = st'∧∃ n,c = (none,n,0)∧2 ≤ n∧n ≤ L.length∧(L.take n).Pairwise (fun x y=>kl κ y x)) ?_ ?_ ⟨rfl,rfl,?_⟩) ?_)
  ·rintro x c st'' h1x hx ⟨rfl,rfl,hs⟩
   have h1x:2 ≤ x:=h1x
   obtain ⟨j,rfl⟩:∃ j,x = j + 1:=⟨x - 1,by lia⟩
   refine wpS_bind (hS.lt hO (i:=j + 1) (j:=j) hx (by lia) ?_)
   cases hb:κ.blt (kf κ L[j + 1]) (kf κ L[j]) with
   | true=>exact Z01 (fun _=>Z01 (fun q=>absurd q (Nat.lt_irrefl 0)) fun _=>wpS_pure ⟨rfl,rfl,Z2e ger hx (by lia) hs (KeyOrd.kle_of_klt (show κ.klt _ _ from hb))⟩) fun q=>absurd rfl q
   | false=>
    refine wpS_bind (hS.lt hO (i:=j) (j:=j + 1) (by lia) hx ?_)
    rw [hS.ne (i:=j + 1) (j:=j) hx (by lia) (by lia) hb]
    exact wpS_pure ⟨rfl,j + 1,rfl,h1x,by lia,hs⟩
  ·rintro c st'' ⟨rfl,rfl,hs⟩
   rw [Nat.max_eq_right l2] at hs ⊢
   exact ⟨rfl,_,rfl,l2,Nat.le_refl _,hs⟩
  ·exact Z2e ger l2 (Nat.le_refl _) (by cases L with | nil=>cases h1 | cons a l=>exact List.pairwise_singleton _ _) (KeyOrd.kle_of_klt (show κ.klt _ _ from hd))
  rintro c st'' ⟨rfl,n,rfl,m1,m2,hr⟩
  refine Z01 (fun q=>absurd q (Nat.lt_irrefl 0)) fun _=>?_
  have eA:arrOf st'' = (P++L.take n++L.drop n).toArray:=Array.toList_inj.mp (by rw [hS.arr,List.append_assoc,List.take_append_drop])
  have eM:=Z6O P (L.take n) (L.drop n)
  rw [← eA,List.length_take,Nat.min_eq_left m2,List.append_assoc] at eM
  have pm:((L.take n).reverse++L.drop n).Perm L:=((List.reverse_perm _).append_right _).trans (List.Perm.of_eq (List.take_append_drop n L))
  have hS2:=hS.perm pm eM
  have hl:((L.take n).reverse++L.drop n).length = L.length:=pm.length_eq
  have hs2:(((L.take n).reverse++L.drop n).take n).Pairwise (kl κ):=by
   rw [List.take_append_of_le_length (by simp; lia),List.take_of_length_le (by simp; lia)]
   exact List.pairwise_reverse.mpr hr
  refine wpS_bind (wpS_reverse ?_)
  generalize (L.take n).reverse++L.drop n = L2 at hS2 hs2 hl pm
  generalize setArr st'' (mirror (arrOf st'') P.length (P.length + n) ((P.length + n - P.length) / 2)) = st3 at hS2 ⊢
  rw [← hl] at m2 ⊢
  refine wpS_bind (wpS_mono (wpS_forRange (I:=fun x c st'=>st' = st3∧c = (none,x)∧(L2.take x).Pairwise (kl κ)) (Q:=fun c st'=>st' = st3∧∃ n,c = (none,n)∧1 ≤ n∧n ≤ L2.length∧(L2.take n).Pairwise (kl κ)) ?_ ?_ ⟨rfl,rfl,hs2⟩) ?_)
  ·rintro x c st' h1x hx ⟨rfl,rfl,hs⟩
   have h1x:n ≤ x:=h1x
   obtain ⟨j,rfl⟩:∃ j,x = j + 1:=⟨x - 1,by lia⟩
   refine wpS_bind (hS2.lt hO (i:=j + 1) (j:=j) hx (by lia) ?_)
   cases hb:κ.blt (kf κ L2[j + 1]) (kf κ L2[j]) with
   | true=>exact wpS_pure ⟨rfl,j + 1,rfl,by lia,by lia,hs⟩
   | false=>exact wpS_pure ⟨rfl,rfl,Z2e Z0M hx (by lia) hs hb⟩
  ·rintro c st' ⟨rfl,rfl,hs⟩
   rw [Nat.max_eq_right m2] at hs ⊢
   exact ⟨rfl,_,rfl,by lia,Nat.le_refl _,hs⟩
  ·rintro c st' ⟨rfl,k,rfl,k1,k2,hs⟩
   exact wpS_pure (h k L2 _ hS2 pm k1 (hl ▸ k2) hs)
section
variable {α:Type} {R:α→α→Prop} {L:List α} {k l:Nat}
noncomputable def Z8O (L:List α) (l k:Nat) (hk:k < L.length):List α:=L.take l++[L[k]]++(L.take k).drop l++L.drop (k + 1)
theorem ZcL (hk:k < L.length) (g:l ≤ k):L.take l++(L.take k).drop l++[L[k]]++L.drop (k + 1) = L:=by
 have e:L.take l = (L.take k).take l:=by rw [List.take_take,Nat.min_eq_left g]
 rw [e,List.take_append_drop,List.append_assoc,List.singleton_append,← List.drop_eq_getElem_cons hk,List.take_append_drop]
theorem Z82 (hk:k < L.length) (g:l ≤ k):(Z8O L l k hk).Perm L:=by
 refine List.Perm.trans (List.Perm.append_right _ ?_) (List.Perm.of_eq (ZcL hk g))
 rw [List.append_assoc,List.append_assoc]
 exact List.Perm.append_left _ List.perm_append_comm
theorem Z9M (hk:k < L.length):((L.take k).drop l).length = k - l:=by rw [List.length_drop,List.length_take,Nat.min_eq_left (Nat.le_of_lt hk)]
theorem ZdB (P:List α) (hk:k < L.length) (g:l ≤ k) {a:Array α} (ha:a.toList = P++L):(bubble a (P.length + k) (k - l)).toList = P++Z8O L l k hk:=by
 have eb:=Z6P (P++L.take l) ((L.take k).drop l) (L.drop (k + 1)) L[k]
 have e:a = (P++L.take l++(L.take k).drop l++[L[k]]++L.drop (k + 1)).toArray:=Array.toList_inj.mp (ha.trans (by
  show _ = P++L.take l++(L.take k).drop l++[L[k]]++L.drop (k + 1)
  rw [List.append_assoc P,List.append_assoc P,List.append_assoc P,ZcL hk g]))
 rw [← e,Z9M hk,List.length_append,List.length_take,Nat.min_eq_left (Nat.le_trans g (Nat.le_of_lt hk)),Nat.add_assoc,Nat.add_sub_cancel' g] at eb
 rw [eb]; unfold Z8O
 rw [List.append_assoc P,List.append_assoc P,List.append_assoc P]
theorem Z8P (hk:k < L.length) (g:l ≤ k) (hs:(L.take k).Pairwise R) (g4:∀ i (hi:i < L.length),i < l→R L[i] L[k]) (g5:∀ i (hi:i < L.length),l ≤ i→i < k→R L[k] L[i]):((Z8O L l k hk).take (k + 1)).Pairwise R:=by
 have hl:(L.take l++[L[k]]++(L.take k).drop l).length = k + 1:=by
  rw [List.length_append,List.length_append,List.length_take,Z9M hk,Nat.min_eq_left (Nat.le_trans g (Nat.le_of_lt hk)),List.length_singleton,Nat.add_right_comm,Nat.add_sub_cancel' g]
 unfold Z8O
 rw [List.take_append_of_le_length (Nat.le_of_eq hl.symm),List.take_of_length_le (Nat.le_of_eq hl)]
 have hm:∀ z ∈ (L.take k).drop l,R L[k] z:=fun z hz=>by
  obtain ⟨i,q1,q2,e⟩:=Z2A hz
  rw [List.length_take] at q2
  have q2:=Nat.lt_of_lt_of_le q2 (Nat.min_le_left _ _)
  rw [List.getElem?_take,if_pos q2] at e
  obtain ⟨q3,rfl⟩:=List.getElem?_eq_some_iff.mp e
  exact g5 i q3 q1 q2
 have hm':∀ z ∈ L.take l,R z L[k]:=fun z hz=>by
  obtain ⟨i,q1,e⟩:=Z1K hz
  obtain ⟨q3,rfl⟩:=List.getElem?_eq_some_iff.mp e
  exact g4 i q3 q1
 have hs3:(L.take l++(L.take k).drop l).Pairwise R:=by
  rw [show L.take l = (L.take k).take l by rw [List.take_take,Nat.min_eq_left g],List.take_append_drop]; exact hs
 have q:=List.pairwise_append.mp hs3
 exact List.pairwise_append.mpr ⟨List.pairwise_append.mpr ⟨q.1,List.pairwise_singleton _ _,fun x hx y hy=>List.mem_singleton.mp hy ▸ hm' x hx⟩,q.2.1,fun x hx y hy=>(List.mem_append.mp hx).elim (fun e=>q.2.2 x e y hy) fun e=>List.mem_singleton.mp e ▸ hm y hy⟩
end
theorem mid1 {l r k x:Nat} (h:¬ r ≤ l) (h2:r ≤ k) (h3:r - l ≤ k - x) (hx:x < k):l ≤ (l + r) / 2∧(l + r) / 2 < r∧(l + r) / 2 - l ≤ k - (x + 1)∧r - ((l + r) / 2 + 1) ≤ k - (x + 1):=by
 have h1:l ≤ (l + r) / 2:=by omega
 have h2:(l + r) / 2 < r:=by omega
 generalize (l + r) / 2 = d at h1 h2 ⊢
 have hp:r - (l + 1) ≤ k - (x + 1):=Nat.pred_le_pred h3
 exact ⟨h1,h2,Nat.le_trans (Nat.le_trans (Nat.le_pred_of_lt (Nat.sub_lt_sub_right h1 h2)) (Nat.le_refl _)) hp,Nat.le_trans (Nat.sub_le_sub_left (Nat.succ_le_succ h1) r) hp⟩
noncomputable def Bs (κ:KeyKind) (L:List Keyed) (k:Nat) (hk:k < L.length) (l r:Nat):Prop:=l ≤ r∧r ≤ k∧(∀ i (hi:i < L.length),i < l→kl κ L[i] L[k])∧∀ i (hi:i < L.length),r ≤ i→i < k→kl κ L[k] L[i]
theorem Z1x (hO:κ.OneLt) {P L:List Keyed} {pd:Array (Nat × Nat × Nat)} {n ok:Nat} {Q:Bool→SortSt→Prop} (hS:Sh κ P L pd st) (h1:1 ≤ ok) (h2:ok ≤ n) (h3:n ≤ L.length) (hs:(L.take ok).Pairwise (kl κ))
  (h:∀ L' st',Sh κ P L' pd st'→L'.Perm L→(L'.take n).Pairwise (kl κ)→Q true st'):wpS (model prog w) A E s (binarySort' P.length n ok) Q st:=by
 unfold binarySort'
 refine wpS_bind (wpS_mono (wpS_forRange (I:=fun k c st'=>c = (none,())∧∃ L',Sh κ P L' pd st'∧L'.Perm L∧(L'.take (min k n)).Pairwise (kl κ))
  (Q:=fun c st'=>c = (none,())∧∃ L',Sh κ P L' pd st'∧L'.Perm L∧(L'.take n).Pairwise (kl κ)) ?_ ?_ ⟨rfl,L,hS,.refl _,?_⟩) ?_)
 ·rintro k c st1 hak hkn ⟨rfl,L1,hS1,pm,hs1⟩
  rw [Nat.min_eq_left (Nat.le_of_lt hkn)] at hs1
  have hl:L1.length = L.length:=pm.length_eq
  have hk:k < L1.length:=by lia
  refine wpS_bind (wpS_mono (Z0G (I:=fun x c st''=>st'' = st1∧∃ l r,c = (none,l,r)∧r - l ≤ k - x∧Bs κ L1 k hk l r) (Q:=fun c st''=>st'' = st1∧∃ l r,c = (none,l,r)∧l = r∧Bs κ L1 k hk l r) ?_ ?_ ⟨rfl,0,k,rfl,Nat.le_refl _,Nat.zero_le _,Nat.le_refl _,fun i _ q=>absurd q (Nat.not_lt_zero _),fun i _ q q'=>absurd q' (Nat.not_lt_of_le q)⟩) ?_)
  ·rintro x c st2 hx ⟨rfl,l,r,rfl,g3,g⟩
   refine Z01 (fun hge=>wpS_pure ⟨rfl,l,r,rfl,Nat.le_antisymm g.1 hge,g⟩) fun hge=>?_
   obtain ⟨g1,g2,g4,g5⟩:=g
   obtain ⟨d1,d2,d3,d4⟩:=mid1 hge g2 g3 hx
   have dk:(l + r) / 2 < k:=Nat.lt_of_lt_of_le d2 g2
   have dl:=Nat.lt_trans dk hk
   refine wpS_bind (hS1.lt hO (i:=k) (j:=(l + r) / 2) hk dl ?_)
   have so:∀ i j (hi:i < L1.length) (hj:j < L1.length),i ≤ j→j < k→kl κ L1[i] L1[j]:=fun i j hi hj hij hjk=>Z2B hs1 hij (by rw [List.getElem?_take,if_pos (Nat.lt_of_le_of_lt hij hjk)]; exact List.getElem?_eq_getElem _) (by rw [List.getElem?_take,if_pos hjk]; exact List.getElem?_eq_getElem _)
   cases hb:κ.blt (kf κ L1[k]) (kf κ (L1[(l + r) / 2]'dl)) with
   | true=>exact wpS_pure ⟨rfl,l,(l + r) / 2,rfl,d3,d1,Nat.le_of_lt dk,g4,fun i hi q1 q2=>Z0M _ _ _ (KeyOrd.kle_of_klt (show κ.klt _ _ from hb)) (so _ _ _ hi q1 q2)⟩
   | false=>exact wpS_pure ⟨rfl,(l + r) / 2 + 1,r,rfl,d4,d2,g2,fun i hi q1=>Z0M _ _ _ (so i ((l + r) / 2) hi dl (Nat.le_of_lt_succ q1) dk) hb,g5⟩
  ·rintro c st2 ⟨rfl,l,r,rfl,g3,g⟩
   exact ⟨rfl,l,r,rfl,Nat.le_antisymm g.1 (Nat.le_of_sub_eq_zero (Nat.le_zero.mp (by rw [Nat.sub_self] at g3; exact g3))),g⟩
  ·rintro c st2 ⟨rfl,l,r,rfl,rfl,_,g2,g4,g5⟩
   show wpS _ _ _ _ (moveDown' (P.length + k) (P.length + l) >>= _) _ _
   rw [moveDown'_eq,Nat.add_sub_add_left]
   refine wpS_bind (wpS_modify (wpS_pure ⟨rfl,Z8O L1 l k hk,hS1.perm (Z82 hk g2) (ZdB P hk g2 hS1.arr),(Z82 hk g2).trans pm,?_⟩))
   rw [Nat.min_eq_left hkn]
   exact Z8P hk g2 hs1 g4 g5
 ·rintro c st' ⟨rfl,L',a1,a2,a3⟩
  rw [show min (max (max ok 1) n) n = n by lia] at a3
  exact ⟨rfl,L',a1,a2,a3⟩
 ·rw [show min (max ok 1) n = ok by lia]; exact hs
 ·rintro c st' ⟨rfl,L',a1,a2,a3⟩
  exact wpS_pure (h L' st' a1 a2 a3)
end
theorem Z9N {n:Nat} (h1:1 ≤ n) (h:n < 128):n ≤ 2 * minRun' n n 0∧minRun' n n 0 ≤ n∧1 ≤ minRun' n n 0:=by
 obtain ⟨f,rfl⟩:∃ f,n = f + 1:=⟨n - 1,by lia⟩
 rw [minRun'_succ]
 split
 ·lia
 ·obtain ⟨g,rfl⟩:∃ g,f = g + 1:=⟨f - 1,by lia⟩
  rw [minRun'_succ,if_pos (by lia)]
  lia
section
variable {prog:Program} {w:World} {A:Around} {E:Value→Shared→Prop} {s:Shared} {κ:KeyKind} {st:SortSt}
theorem Z9O {σ α β:Type} {M:Model} {P:β→σ→Prop} {f:β→StateT σ Sem α} {t:StateT σ Sem α} {Q:α→σ→Prop} {st:σ} (hj:∀ x st',P x st'→wpS M A E s (f x) Q st') (k:(∀ x st',P x st'→wpS M A E s (f x) Q st')→wpS M A E s t Q st):wpS M A E s t Q st:=k hj
noncomputable def One (κ:KeyKind) (L:List Keyed) (st:SortSt):Prop:=(arrOf st).toList.Perm L∧failedOf st = none∧(arrOf st).toList.Pairwise (kl κ)∧∃ p,pendingOf st = #[p]
noncomputable def Two (κ:KeyKind) (L:List Keyed) (st:SortSt):Prop:=∃ X Y p q,Sh κ [] (X++Y) #[(0,X.length,p),(X.length,Y.length,q)] st∧(X++Y).Perm L∧X.Pairwise (kl κ)∧Y.Pairwise (kl κ)∧0 < X.length∧0 < Y.length
noncomputable def Half (κ:KeyKind) (L:List Keyed) (mr:Nat) (lo:Nat) (st:SortSt):Prop:=∃ X Y,lo = X.length∧Sh κ [] (X++Y) #[(0,X.length,0)] st∧(X++Y).Perm L∧X.Pairwise (kl κ)∧mr ≤ X.length∧0 < Y.length
theorem Sh.tail {X Y:List Keyed} {pd:Array (Nat × Nat × Nat)} (h:Sh κ [] (X++Y) pd st):Sh κ X Y pd st :=
 ⟨h.arr,h.kind,h.failed,h.pend,fun p q=>h.keys p (List.mem_append_right _ q),by have:=h.nd; rw [List.map_append] at this; exact (List.nodup_append.mp this).2.1⟩
theorem Sh.back {X Y Y':List Keyed} {pd:Array (Nat × Nat × Nat)} {st':SortSt} (h:Sh κ [] (X++Y) pd st) (h':Sh κ X Y' pd st') (hp:Y'.Perm Y):Sh κ [] (X++Y') pd st' :=
 ⟨h'.arr,h'.kind,h'.failed,h'.pend,fun p q=>h.keys p (((hp.append_left X).mem_iff).mp q),(((hp.append_left X).map (kf κ)).nodup_iff).mpr h.nd⟩
theorem Sh.setP {P L:List Keyed} {pd:Array (Nat × Nat × Nat)} (h:Sh κ P L pd st) (pd':Array (Nat × Nat × Nat)):Sh κ P L pd' (setPending st pd'):=⟨h.arr,h.kind,h.failed,rfl,h.keys,h.nd⟩
theorem Z52 (hO:κ.OneLt) {L:List Keyed} {Q:Unit→SortSt→Prop} (hS:Sh κ [] L #[] st) (h2:2 ≤ L.length) (h128:L.length < 128)
  (h:∀ st',(arrOf st').toList.Perm L→failedOf st' = none→(arrOf st').toList.Pairwise (kl κ)→Q () st'):wpS (model prog w) A E s sortRuns' Q st:=by
 rw [sortRuns'_eq]
 refine wpS_bind (wpS_get ?_)
 have hz:(arrOf st).size = L.length:=by rw [← Array.length_toList,hS.arr]; rfl
 extract_lets size mr lo0
 have e1:size = L.length:=hz
 obtain ⟨r1,r2,r3⟩:L.length ≤ 2 * mr∧mr ≤ L.length∧1 ≤ mr:=by
  have q:=Z9N (n:=L.length) (by lia) h128
  rw [← e1] at q ⊢
  exact q
 clear_value mr
 clear_value size
 subst e1
 refine wpS_bind (wpS_mono (Z0G
  (I:=fun x c st'=>(x = 0∧c = (none,0)∧Sh κ [] L #[] st') ∨ (x = 1∧∃ lo,c = (none,lo)∧Half κ L mr lo st') ∨ (1 ≤ x∧c = (none,L.length)∧(One κ L st' ∨ Two κ L st')))
  (Q:=fun c st'=>c = (none,L.length)∧(One κ L st' ∨ Two κ L st')) ?_ ?_ (.inl ⟨rfl,rfl,hS⟩)) ?_)
 ·rintro x c st1 hx (⟨rfl,rfl,hS1⟩ | ⟨rfl,lo,rfl,X,Y,rfl,hS1,pm,sx,hX,hY⟩ | ⟨hx1,rfl,hD⟩)
  ·refine Z01 (fun q=>absurd q (by show ¬ L.length ≤ 0; lia)) fun _=>?_
   refine wpS_bind (Z2f hO (P:=[]) hS1 (by lia) fun m L' st2 hS2 pm m1 m2 sm=>?_)
   dsimp -zeta only
   extract_lets n0 jp force n1
   refine Z9O (P:=fun n st'=>∃ L'',Sh κ [] L'' #[] st'∧L''.Perm L∧(L''.take n).Pairwise (kl κ)∧mr ≤ n∧n ≤ L.length) (f:=jp ()) ?_ fun hj=>?_
   ·rintro n st' ⟨L2,hS2,pm,sm,m1,m2⟩
    refine wpS_bind (wpS_get ?_)
    have hb:(pendingOf st').back? = none:=by rw [hS2.pend]; rfl
    rw [hb]
    refine wpS_bind (wpS_modify (wpS_pure (.inr ?_)))
    have hp:(pendingOf st').push (0,n,0) = #[(0,n,0)]:=by rw [hS2.pend]; rfl
    show (_∧∃ lo,(none,0 + n) = (none,lo)∧Half κ L mr lo (setPending st' ((pendingOf st').push (0,n,0)))) ∨ _∧(none,0 + n) = (none,L.length)∧(One κ L (setPending st' ((pendingOf st').push (0,n,0))) ∨ Two κ L (setPending st' ((pendingOf st').push (0,n,0))))
    rw [hp,Nat.zero_add]
    have hl:=pm.length_eq
    by_cases e:n = L.length
    ·exact .inr ⟨Nat.le_refl _,by rw [Nat.zero_add,e],.inl ⟨by show (arrOf st').toList.Perm L; rw [hS2.arr]; exact pm,hS2.failed,by show (arrOf st').toList.Pairwise _; rw [hS2.arr,List.nil_append,← List.take_of_length_le (l:=L2) (i:=n) (by lia)]; exact sm,_,rfl⟩⟩
    ·have hx:(L2.take n).length = n:=by rw [List.length_take]; lia
     exact .inl ⟨rfl,n,by rw [Nat.zero_add],L2.take n,L2.drop n,hx.symm,by rw [List.take_append_drop,hx]; exact hS2.setP _,by rw [List.take_append_drop]; exact pm,sm,by lia,by rw [List.length_drop]; lia⟩
   ·refine Z01 (fun q=>?_) fun q=>hj m st2 ⟨L',hS2,pm,sm,Nat.le_of_not_lt q,m2⟩
    have q:m < mr:=q
    refine wpS_bind (wpS_lift (wpAny_rule ⟨rfl,?_⟩))
    have hf:force = mr:=Nat.min_eq_right r2
    have hn1:n1 = mr:=hf
    rw [hf]
    refine wpS_bind (Z1x hO (P:=[]) hS2 m1 (Nat.le_of_lt q) (by rw [pm.length_eq]; exact r2) sm fun L3 st3 hS3 pm3 s3=>?_)
    refine Z01 (fun q=>by cases q) fun _=>?_
    rw [hn1]
    exact hj mr st3 ⟨L3,hS3,pm3.trans pm,s3,Nat.le_refl _,r2⟩
  ·have hl:L.length = X.length + Y.length:=by rw [← pm.length_eq,List.length_append]
   refine Z01 (fun q=>absurd q (by show ¬ L.length ≤ X.length; lia)) fun _=>?_
   refine wpS_bind ?_
   show wpS _ _ _ _ (countRun' X.length (L.length - X.length)) _ _
   have hd:L.length - X.length = Y.length:=by lia
   rw [hd]
   refine Z2f hO hS1.tail (by lia) fun m Y' st2 hS2 pmY m1 m2 sm=>?_
   dsimp -zeta only
   extract_lets n0 jp force n1
   have hlY:=pmY.length_eq
   refine Z9O (P:=fun n st'=>∃ Y',n = Y.length∧Sh κ X Y' #[(0,X.length,0)] st'∧Y'.Perm Y∧Y'.Pairwise (kl κ)) (f:=jp ()) ?_ fun hj=>?_
   ·rintro n st' ⟨Y2,rfl,hS2,pmY,sm⟩
    refine wpS_bind (wpS_get ?_)
    have hb:(pendingOf st').back? = some (0,X.length,0):=by rw [hS2.pend]; rfl
    rw [hb]
    refine wpS_bind (wpS_mono (Z0G (I:=fun _ c st''=>st'' = st'∧c = (none,())) (Q:=fun c st''=>st'' = st'∧c = (none,())) ?_ (fun _ _ q=>q) ⟨rfl,rfl⟩) ?_)
    ·rintro _ c st'' _ ⟨rfl,rfl⟩
     refine wpS_bind (wpS_get ?_)
     rw [hS2.pend]
     exact wpS_pure ⟨rfl,rfl⟩
    ·rintro c st'' ⟨rfl,rfl⟩
     generalize power' L.length (2 * 0 + X.length) (2 * 0 + X.length + X.length + Y.length) L.length = pw
     refine wpS_bind (wpS_modify (wpS_bind (wpS_modify (wpS_pure (.inr (.inr ⟨by lia,?_,.inr ?_⟩))))))
     ·show (none,X.length + Y.length) = _
      rw [hl]
     ·have hS3:=hS1.back hS2 pmY
      have hp:(pendingOf (setPending st'' ((pendingOf st'').modify ((pendingOf st'').size - 1) fun x=>(x.fst,x.2.fst,pw)))).push (X.length,Y.length,0) = #[(0,X.length,pw),(X.length,Y2.length,0)]:=by
       show ((pendingOf st'').modify ((pendingOf st'').size - 1) fun x=>(x.fst,x.2.fst,pw)).push (X.length,Y.length,0) = _
       rw [hS2.pend,pmY.length_eq]; simp
      refine ⟨X,Y2,pw,0,?_,(pmY.append_left X).trans pm,sx,sm,by lia,by rw [pmY.length_eq]; exact hY⟩
      have:=hS3.setP #[(0,X.length,pw),(X.length,Y2.length,0)]
      rw [← hp] at this ⊢
      exact ⟨this.arr,this.kind,this.failed,rfl,this.keys,this.nd⟩
   ·refine Z01 (fun q=>?_) fun q=>?_
    ·have q:m < mr:=q
     refine wpS_bind (wpS_lift (wpAny_rule ⟨rfl,?_⟩))
     have hf:force = Y.length:=by show min Y.length mr = _; lia
     have hn1:n1 = Y.length:=hf
     rw [hf]
     refine wpS_bind (Z1x hO hS2 m1 m2 (by lia) sm fun L3 st3 hS3 pm3 s3=>?_)
     refine Z01 (fun q=>by cases q) fun _=>?_
     rw [hn1]
     exact hj _ st3 ⟨L3,rfl,hS3,pm3.trans pmY,by rw [← List.take_of_length_le (l:=L3) (i:=Y.length) (by rw [pm3.length_eq]; lia)]; exact s3⟩
    ·have q:mr ≤ m:=Nat.le_of_not_lt q
     exact hj _ st2 ⟨Y',by show m = _; lia,hS2,pmY,by rw [← List.take_of_length_le (l:=Y') (i:=m) (by lia)]; exact sm⟩
  ·exact Z01 (fun _=>wpS_pure ⟨rfl,hD⟩) fun q=>absurd (Nat.le_refl _) q
 ·rintro c st1 (⟨e,_,_⟩ | ⟨e,_⟩ | ⟨_,hc,hD⟩)
  ·lia
  ·lia
  ·exact ⟨hc,hD⟩
 ·rintro c st1 ⟨rfl,hD⟩
  refine wpS_bind (wpS_mono (Z0G (I:=fun x c st'=>c = (none,())∧(One κ L st' ∨ (x = 0∧Two κ L st'))) (Q:=fun c st'=>c = (none,())∧One κ L st') ?_ ?_ ⟨rfl,hD.imp id fun q=>⟨rfl,q⟩⟩) ?_)
  ·rintro x c st' hx ⟨rfl,⟨b1,b2,b3,p,b4⟩ | ⟨rfl,X,Y,p,q,hS',pm,sx,sy,gx,gy⟩⟩
   ·refine wpS_bind (wpS_get ?_)
    rw [b4]
    exact wpS_pure ⟨rfl,b1,b2,b3,p,b4⟩
   ·refine wpS_bind (wpS_get ?_)
    rw [hS'.pend]
    refine wpS_bind (Z6N (X:=X) (Y:=Y) hO hS'.kind hS'.failed hS'.pend hS'.arr rfl rfl gx gy hS'.keys sx sy fun st2 a1 a2 a3 a4=>?_)
    exact Z01 (fun q=>by cases q) fun _=>wpS_pure ⟨rfl,.inl ⟨a2.trans pm,a3,a1,_,a4⟩⟩
  ·rintro c st' ⟨rfl,hD | ⟨e,_⟩⟩
   ·exact ⟨rfl,hD⟩
   ·lia
  ·rintro c st' ⟨rfl,b1,b2,b3,_⟩
   exact wpS_pure (h st' b1 b2 b3)
end
noncomputable def sgn (v:Value):Option Nat:=match v with
 | .str x _=>(match x.cps.toList with | [c]=>some c | _=>none)
 | _=>none
theorem Z6Q {v:Value} {c:Nat} (h:sgn v = some c):∃ x t,v = .str x t∧x.cps.toList = [c]:=by
 unfold sgn at h
 split at h
 ·rename_i x t
  split at h
  ·rename_i d e
   obtain rfl:=Option.some.inj h
   exact ⟨x,t,rfl,e⟩
  ·cases h
 ·cases h
@[reducible] noncomputable def sgnKind:PyProof.Rows.KeyKind where
 α:=Nat
 blt a b:=decide (a < b)
 irrefl a:=decide_eq_false (Nat.lt_irrefl a)
 trans a b c h1 h2:=decide_eq_true (Nat.lt_trans (of_decide_eq_true h1) (of_decide_eq_true h2))
 negTrans a b c h:=(Nat.lt_or_ge a b).imp decide_eq_true fun q=>decide_eq_true (Nat.lt_of_le_of_lt q (of_decide_eq_true h))
 total a b h1 h2:=Nat.le_antisymm (Nat.le_of_not_lt (of_decide_eq_false h2)) (Nat.le_of_not_lt (of_decide_eq_false h1))
 keyOf:=sgn
 dflt:=0
theorem ZeJ:sgnKind.OneLt:=by
 intro prog w A E s x y a b Q ha hb h
 obtain ⟨x,t,rfl,ex⟩:=Z6Q ha
 obtain ⟨y,u,rfl,ey⟩:=Z6Q hb
 refine oneLt_str ?_
 rw [ex,ey]
 have e:decide ([a] < [b]) = decide (a < b):=by simp [List.cons_lt_cons_iff]
 rw [e]; exact h
noncomputable def k1 (v:Value):Nat:=(sgn v).getD 0
theorem Z4D {v:Value} (h:∃ c,sgn v = some c):typeOf v = pure (.type "str")∧firstOfTuple' v = pure none:=by
 obtain ⟨c,hc⟩:=h
 obtain ⟨x,t,rfl,_⟩:=Z6Q hc
 exact ⟨rfl,rfl⟩
theorem Z2C {α β:Type} {f:α→Sem β} {b:β}:∀ {l:List α},(∀ a ∈ l,f a = pure b)→l.mapM f = pure (l.map fun _=>b)
 | [],_=>by simp
 | a :: l,h=>by rw [List.mapM_cons,h a (List.mem_cons_self ..),Z2C fun x q=>h x (List.mem_cons_of_mem _ q)]; simp
theorem Zbz {v₁ v₂:Value} {vs:List Value} (h:∀ v ∈ v₁ :: v₂ :: vs,∃ c,sgn v = some c):keyKind' (v₁ :: v₂ :: vs).toArray = pure oneType':=by
 rw [keyKind'_eq,List.mapM_toArray,Z2C fun v q=>(Z4D (h v q)).2]
 simp only [map_pure,pure_bind]
 rw [if_neg (by simp),if_neg (by simp),oneTypeOnly'_eq,List.mapM_toArray,Z2C fun v q=>(Z4D (h v q)).1]
 simp only [map_pure,pure_bind]
 have h0:(List.map (fun _=>Value.type "str") (v₁ :: v₂ :: vs)).toArray[0]? = some (Value.type "str"):=by simp
 have hall:((List.map (fun _=>Value.type "str") (v₁ :: v₂ :: vs)).toArray.all fun x=>x == Value.type "str") = true:=by
  simp only [List.all_toArray,List.all_map,List.all_eq_true]
  intro _ _; rfl
 rw [h0]
 simp only [hall,if_true,pure_bind,Option.isSome_some]
theorem Z83 {vs:List Value} {p:Keyed} (h:p ∈ vs.zip vs):p.1 = p.2∧p.1 ∈ vs:=by
 induction vs with
 | nil=>cases h
 | cons v vs ih=>
  rw [List.zip_cons_cons] at h
  rcases List.mem_cons.mp h with rfl | h
  ·exact ⟨rfl,List.mem_cons_self ..⟩
  ·exact ⟨(ih h).1,List.mem_cons_of_mem _ (ih h).2⟩
theorem Z5Z (vs:List Value):(vs.zip vs).map (·.2) = vs:=List.map_snd_zip (Nat.le_refl _)
theorem ZeK (vs:List Value):(vs.zip vs).map (kf sgnKind) = vs.map k1:=by
 have:(vs.zip vs).map (kf sgnKind) = ((vs.zip vs).map (·.1)).map k1:=by rw [List.map_map]; rfl
 rw [this,List.map_fst_zip (Nat.le_refl _)]
section
variable {prog:Program} {w:World} {A:Around} {E:Value→Shared→Prop} {s:Shared}
theorem Z60 {a:Addr} {vs:List Value} {n:Nat} {P:Fin→Shared→Prop} (ho:s.heap.get? a = some (seqObj "list" vs.toArray n))
  (hv:∀ v ∈ vs,∃ c,sgn v = some c) (nd:(vs.map k1).Nodup) (h128:vs.length < 128)
  (h:∀ out:Array Value,out.toList.Perm vs→(out.toList.map k1).Pairwise (· ≤ ·)→P (.done (.ret .none)) { s with heap:=sortedHeap s.heap a vs out }) :
  wpAny (model prog w) A (Builtin.«list.sort» ⟨[.ref a],[]⟩) P E s:=by
 have hlen:vs.length ≤ sizeLine:=Nat.le_trans (Nat.le_of_lt h128) (by decide)
 have ha:a < s.heap.objs.size:=Heap.lt_size ho
 have fin:∀ r:Array Keyed,r.toList.Perm (vs.zip vs)→r.toList.Pairwise (kl sgnKind)→(r.map (·.2)).size ≤ sizeLine + 1∧P (.done (.ret .none)) { s with heap:=sortedHeap s.heap a vs (r.map (·.2)) }:=fun r hp hs=>by
  have e:(r.map (·.2)).toList.map k1 = r.toList.map (kf sgnKind):=by
   rw [Array.toList_map,List.map_map]
   exact List.map_congr_left fun p q=>by
    show (sgn p.2).getD 0 = (sgn p.1).getD 0
    rw [(Z83 (hp.mem_iff.mp q)).1]
  have hz:(r.map (·.2)).toList.Perm vs:=by
   have:=hp.map (·.2)
   rwa [Z5Z,← Array.toList_map] at this
  refine ⟨?_,h _ hz ?_⟩
  ·rw [← Array.length_toList,hz.length_eq]; exact Nat.le_succ_of_le hlen
  ·rw [e,List.pairwise_map]
   exact hs.imp fun q=>Nat.le_of_not_lt (of_decide_eq_false q)
 obtain ⟨e1,ho1⟩:∃ e1,(s.heap.update a (Obj.mapSeq fun _=>#[])).get? a = some (seqObj "list" #[] e1):=⟨_,get?_update_seq ho (fun _=>#[])⟩
 have ho6:(((s.heap.update a (Obj.mapSeq fun _=>#[])).push (seqObj "tuple" vs.toArray 0)).push (seqObj "list" #[] 0)).get? a = some (seqObj "list" #[] e1) :=
  Heap.get?_push_of_some _ (Heap.get?_push_of_some _ ho1)
 rw [list_sort_plain]
 refine wpAny_bind (listItems_at ho rfl (wpAny_bind (listUpdate_at ho rfl (wpAny_bind (seqEpoch_at ho1 rfl (wpAny_bind (wpAny_newTuple (wpAny_bind (wpAny_newList (wpAny_holding ?_) (Nat.zero_le _))) hlen)))))))
 show wpAny (model prog w) A _ P E { s with heap:=((s.heap.update a (Obj.mapSeq fun _=>#[])).push (seqObj "tuple" vs.toArray 0)).push (seqObj "list" #[] 0) }
 dsimp only
 by_cases h2:vs.toArray.size < 2
 ·rw [if_pos h2,if_pos h2]
  refine wpAny_bind (wpAny_pure ?_)
  rw [StateT.run_pure]
  obtain ⟨z,f⟩:=fin (vs.toArray.zip vs.toArray) (List.Perm.of_eq (pairsOf_toList vs)) (by
   have:(vs.toArray.zip vs.toArray).toList.length < 2:=by simpa using h2
   cases hq:(vs.toArray.zip vs.toArray).toList with
   | nil=>exact .nil
   | cons x l=>cases l with
    | nil=>exact List.pairwise_singleton _ _
    | cons y l=>rw [hq] at this; exact absurd this (by simp))
  refine wpAny_bind (wpAny_pure (wpAny_bind (seqEpoch_at ho6 rfl (wpAny_bind (listUpdate_at ho6 rfl ?_ (Nat.zero_le _) z)))))
  simp only [bne_self_eq_false,Bool.false_eq_true,if_false]
  exact wpAny_pure f
 ·rw [if_neg h2,if_neg h2]
  obtain ⟨v₁,v₂,rest,rfl⟩:∃ v₁ v₂ rest,vs = v₁ :: v₂ :: rest:=by
   cases vs with
   | nil=>exact absurd Nat.zero_lt_two h2
   | cons v₁ l=>cases l with
    | nil=>exact absurd Nat.one_lt_two h2
    | cons v₂ rest=>exact ⟨v₁,v₂,rest,rfl⟩
  rw [Zbz hv]
  refine wpAny_bind (wpAny_pure (wpAny_bind (wpAny_mono (Z52 (κ:=sgnKind) ZeJ (L:=(v₁ :: v₂ :: rest).zip (v₁ :: v₂ :: rest)) (st:=SortSt.mk' oneType' ((v₁ :: v₂ :: rest).toArray.zip (v₁ :: v₂ :: rest).toArray) #[] 7 none)
   (Q:=fun _ st'=>(arrOf st').toList.Perm ((v₁ :: v₂ :: rest).zip (v₁ :: v₂ :: rest))∧failedOf st' = none∧(arrOf st').toList.Pairwise (kl sgnKind)) ⟨?_,rfl,rfl,rfl,?_,?_⟩ ?_ ?_ fun st' a1 a2 a3=>⟨a1,a2,a3⟩) ?_ fun _ _ e=>e)))
  ·exact pairsOf_toList _
  ·exact fun p q=>hv _ (Z83 q).2
  ·rw [ZeK]; exact nd
  ·simp
  ·simpa using h128
  rintro ⟨⟨⟩,st'⟩ s' ⟨rfl,hp,hf,hs⟩
  obtain ⟨z,f⟩:=fin _ hp hs
  refine wpAny_bind (seqEpoch_at ho6 rfl (wpAny_bind (listUpdate_at ho6 rfl ?_ (Nat.zero_le _) z)))
  rw [hf]
  simp only [bne_self_eq_false,Bool.false_eq_true,if_false]
  exact wpAny_pure f
end
end Mine
namespace Mine
open PySem PySem.Calls PyProof.Rows
noncomputable def one (c:Nat):Str:=⟨#[c]⟩
theorem ZdC {a b:Nat} (h:one a = one b):a = b:=by
 have:=congrArg (fun x:Str=>x.cps.toList) h
 simpa [one] using this
theorem ZdD (t:SetTable) (es:Array (Int × Value)) (h:Int) (x:Value):(layNew t es h x).2.1.led = t.led∧((layNew t es h x).2.1.plain = true→t.plain = true):=by
 unfold layNew
 split
 ·rename_i slot d _
  show (SetTable.orStandIn (t.put slot).1 _).led = _∧((SetTable.orStandIn (t.put slot).1 _).plain = true→_)
  unfold SetTable.orStandIn
  split
  ·exact ⟨rfl,id⟩
  ·exact ⟨rfl,fun q=>by cases q⟩
 ·exact ⟨rfl,fun q=>by cases q⟩
theorem Z9P (t:SetTable) (es:Array (Int × Value)) (n:Nat):(relayAll t es n).2.1.led = t.led∧((relayAll t es n).2.1.plain = true→t.plain = true):=by
 unfold relayAll
 split
 ·rename_i t' order e
  have q:t'.led = t.led∧t'.plain = t.plain:=by
   unfold SetTable.relaid SetTable.laid at e
   cases hq:SetTable.layClean (SetTable.sizeAbove n - 1) (es.map (·.1)) with
   | none=>rw [hq] at e; cases e
   | some o=>
    rw [hq] at e
    have q:=congrArg Prod.fst (Option.some.inj e)
    exact ⟨(congrArg SetTable.led q).symm,(congrArg SetTable.plain q).symm⟩
  dsimp only
  split
  ·exact ⟨q.1,fun p=>q.2 ▸ p⟩
  ·exact ⟨rfl,fun q=>by cases q⟩
 ·exact ⟨rfl,fun q=>by cases q⟩
structure SLay (prog:Program) (w:World) (o:Obj) (l:List Nat) (es:Array (Int × Value)) (ep:Nat) (t:SetTable):Prop where
 ex:o.ExactSet
 data:o.data = .set es ep t
 els:∀ e ∈ es.toList,∃ c u,e = ((strKind prog w).hash (one c),.str (one c) u)
 keys:(es.toList.map fun e=>k1 e.2).Perm l.eraseDups
 fits:t.fits es.size = true
 led:t.led = !w.params.followText "set-order"
 plain:t.plain = true→es.size = 0
noncomputable def SetL (prog:Program) (w:World) (h:Heap) (a:Addr) (l:List Nat):Prop:=∃ o es ep t,h.get? a = some o∧SLay prog w o l es ep t
theorem Z53 (l:List Nat) (c:Nat):(l++[c]).eraseDups = if c ∈ l then l.eraseDups else l.eraseDups++[c]:=by
 rw [List.eraseDups_append]
 have e:[c].removeAll l = if c ∈ l then [] else [c]:=by
  show [c].filter (fun a=>!(l.elem a)) = _
  rw [List.filter_cons,List.filter_nil]
  by_cases h:c ∈ l <;> simp [h]
 rw [e]
 split
 ·exact List.append_nil _
 ·rfl
section
variable {prog:Program} {w:World} {A:Around} {E:Value→Shared→Prop} {s:Shared}
theorem SLay.elems {o:Obj} {l:List Nat} {es:Array (Int × Value)} {ep:Nat} {t:SetTable} (L:SLay prog w o l es ep t):ElemsOf (strKind prog w) es.toList:=fun e he=>by
 obtain ⟨c,u,rfl⟩:=L.els e he
 exact ⟨⟨one c,strKind_is _ _ _ _,rfl⟩,rfl⟩
theorem SLay.size {o:Obj} {l:List Nat} {es:Array (Int × Value)} {ep:Nat} {t:SetTable} (L:SLay prog w o l es ep t):es.size = l.eraseDups.length:=by
 rw [← L.keys.length_eq,List.length_map,Array.length_toList]
theorem SLay.mem {o:Obj} {l:List Nat} {es:Array (Int × Value)} {ep:Nat} {t:SetTable} (L:SLay prog w o l es ep t) (c:Nat):(∃ e ∈ es.toList,(strKind prog w).is (one c) e.2 = true)↔c ∈ l:=by
 rw [← List.mem_eraseDups,← L.keys.mem_iff,List.mem_map]
 constructor
 ·rintro ⟨e,he,q⟩
  obtain ⟨d,u,rfl⟩:=L.els e he
  obtain rfl:=ZdC ((strKind prog w).inj _ _ _ q (strKind_is prog w (one d) u))
  exact ⟨_,he,rfl⟩
 ·rintro ⟨e,he,rfl⟩
  obtain ⟨d,u,rfl⟩:=L.els e he
  exact ⟨_,he,strKind_is _ _ _ _⟩
theorem SLay.put {o:Obj} {l l':List Nat} {es es':Array (Int × Value)} {ep:Nat} {t t':SetTable} {h:Heap} {a:Addr} (ho:h.get? a = some o) (L:SLay prog w o l es ep t)
  (he:∀ e ∈ es'.toList,∃ c u,e = ((strKind prog w).hash (one c),.str (one c) u)) (hk:(es'.toList.map fun e=>k1 e.2).Perm l'.eraseDups) (hf:t'.fits es'.size = true) (hl:t'.led = t.led) (hp:t'.plain = true→es'.size = 0) :
  ∃ o',(h.update a (Obj.putSet es' t')).get? a = some o'∧SLay prog w o' l' es' (ep + 1) t':=by
 have hg:(h.update a (Obj.putSet es' t')).get? a = some { o with data:=.set es' (ep + 1) t' }:=by
  have:=Heap.get?_update_self (Obj.putSet es' t') ho (by rw [putSet_of es' t' L.data]; rfl)
  rw [putSet_of es' t' L.data] at this; exact this
 exact ⟨_,hg,L.ex,rfl,he,hk,hf,hl.trans L.led,hp⟩
theorem Z84 {g:Bool→Sem Unit} (hg:∀ (b:Bool) (s₁:Shared) (Q':Unit→Shared→Prop),Q' () s₁→wpAny (model prog w) A (g b) Q' E s₁)
  {a:Addr} {o:Obj} {l l':List Nat} {es es':Array (Int × Value)} {ep:Nat} {t t':SetTable} (ho:s.heap.get? a = some o) (L:SLay prog w o l es ep t)
  (he:∀ e ∈ es'.toList,∃ c u,e = ((strKind prog w).hash (one c),.str (one c) u)) (hk:(es'.toList.map fun e=>k1 e.2).Perm l'.eraseDups) (hf:t'.fits es'.size = true) (hl:t'.led = t.led) (hp:t'.plain = false)
  (hz:es'.size ≤ sizeLine) {wd:Bool} {R:Option Bool→Shared→Prop} (h:∀ h',Heap.SameBut a s.heap h'→SetL prog w h' a l'→R (some true) { s with heap:=h' }) :
  wpAny (model prog w) A (do
    storeSet a es' t'
    if (!wd && t'.tooFull) = true then do
      g (relayAll t' es' (SetTable.grown es'.size)).2.2
      storeSet a (relayAll t' es' (SetTable.grown es'.size)).1 (relayAll t' es' (SetTable.grown es'.size)).2.1
      pure (some true)
     else pure (some true)) R E s:=by
 refine wpAny_bind (wpAny_storeSet_of ho L.data ?_ hz)
 obtain ⟨o1,ho1,L1⟩:=SLay.put ho L he hk hf hl (fun q=>by rw [hp] at q; cases q)
 have hsb1:=Heap.SameBut.update s.heap a (Obj.putSet es' t')
 split
 ·have hpr:=relayAll_perm t' es' (SetTable.grown es'.size)
  have hfr:=relayAll_fits t' es' (SetTable.grown es'.size)
  have hlr:=Z9P t' es' (SetTable.grown es'.size)
  generalize relayAll t' es' (SetTable.grown es'.size) = Rl at hpr hfr hlr ⊢
  obtain ⟨es2,t3,gave2⟩:=Rl
  dsimp only at hpr hfr hlr ⊢
  have hsz:es2.size = es'.size:=by rw [← Array.length_toList,hpr.length_eq,Array.length_toList]
  refine wpAny_bind (hg _ _ _ (wpAny_bind (wpAny_storeSet_of ho1 L1.data ?_ (by rw [hsz]; exact hz))))
  obtain ⟨o2,ho2,L2⟩:=SLay.put ho1 L1 (fun e q=>he e (hpr.mem_iff.mp q)) ((hpr.map _).trans hk) hfr hlr.1 (fun q=>by have:=hlr.2 q; rw [hp] at this; cases this)
  exact wpAny_pure (h _ (hsb1.trans (Heap.SameBut.update _ a _)) ⟨o2,es2,_,t3,ho2,L2⟩)
 ·exact wpAny_pure (h _ hsb1 ⟨o1,es',_,t',ho1,L1⟩)
theorem ZbA {a:Addr} {l:List Nat} {c:Nat} {u:Tok} {Q:Bool→Shared→Prop} (hS:SetL prog w s.heap a l) (hroom:l.eraseDups.length + 1 < scanBound)
  (h:∀ b h',Heap.SameBut a s.heap h'→SetL prog w h' a (l++[c])→Q b { s with heap:=h' }) :
  wpAny (model prog w) A (setAddHashed a (.str (one c) u) ((strKind prog w).hash (one c))) Q E s:=by
 obtain ⟨o,es,ep,t,ho,L⟩:=hS
 have hsz:es.size ≤ l.eraseDups.length:=Nat.le_of_eq L.size
 have hkey:=strKind_is prog w (one c) u
 unfold setAddHashed setAddHashedIn
 refine wpAny_holding (wpAny_bind (wpAny_setState_of ho L.data L.fits ?_))
 dsimp only
 rw [byScan_of (knd:=strKind prog w) rfl (Nat.lt_of_le_of_lt hsz (Nat.lt_of_succ_lt hroom)) L.elems]
 simp only [↓reduceIte]
 unfold setAddByScan
 refine wpAny_bind (wpAny_bind (wpAny_rule (wpAny_bind (wpAny_setScan_of hkey ho L.data L.fits L.elems ?_))))
 cases hr:List.findIdx? (fun e=>(strKind prog w).is (one c) e.2) es.toList with
 | some j=>
  dsimp only
  obtain ⟨hj,hpj,_⟩:=List.findIdx?_eq_some_iff_getElem.mp hr
  have hc:c ∈ l:=(L.mem c).mp ⟨_,List.getElem_mem hj,hpj⟩
  refine wpAny_pure (wpAny_pure (h _ s.heap (Heap.SameBut.refl a s.heap) ⟨o,es,ep,t,ho,L.ex,L.data,L.els,?_,L.fits,L.led,L.plain⟩))
  rw [Z53,if_pos hc]; exact L.keys
 | none=>
  dsimp only
  have hc:¬ c ∈ l:=fun q=>by
   obtain ⟨e,he,p⟩:=(L.mem c).mpr q
   have:=List.findIdx?_eq_none_iff.mp hr e he
   rw [p] at this; cases this
  have hgw:∀ (b:Bool) (s₁:Shared) (Q':Unit→Shared→Prop),Q' () s₁→wpAny (model prog w) A (match b with | true=>rule "set.scan.the-table-gave-way" | false=>pure ()) Q' E s₁ :=
   fun b s₁ Q' hq=>by cases b <;> first | exact wpAny_pure hq | exact wpAny_rule hq
  have hperm:=layNew_perm t es ((strKind prog w).hash (one c)) (.str (one c) u)
  have hfits:=layNew_fits t es ((strKind prog w).hash (one c)) (.str (one c) u)
  have hled:=ZdD t es ((strKind prog w).hash (one c)) (.str (one c) u)
  generalize layNew t es ((strKind prog w).hash (one c)) (.str (one c) u) = Ln at hperm hfits hled ⊢
  obtain ⟨es1,t1,wd,gave⟩:=Ln
  dsimp only at hperm hfits hled ⊢
  rw [Array.toList_push] at hperm
  have he1:∀ e ∈ es1.toList,∃ c u,e = ((strKind prog w).hash (one c),.str (one c) u):=fun e q=>by
   rcases List.mem_append.mp (hperm.mem_iff.mp q) with q | q
   ·exact L.els e q
   ·exact ⟨c,u,List.mem_singleton.mp q⟩
  have hk1:(es1.toList.map fun e=>k1 e.2).Perm (l++[c]).eraseDups:=by
   rw [Z53,if_neg hc]
   refine (hperm.map _).trans ?_
   rw [List.map_append]
   exact L.keys.append_right _
  have hz1:es1.size ≤ sizeLine:=by
   have:es1.size = es.size + 1:=by rw [← Array.length_toList,hperm.length_eq,List.length_append,Array.length_toList]; rfl
   exact fits_of_scanBound (by rw [this]; exact Nat.lt_of_le_of_lt (Nat.succ_le_succ hsz) hroom)
  refine wpAny_bind (hgw _ _ _ ?_)
  have hend:∀ h',Heap.SameBut a s.heap h'→SetL prog w h' a (l++[c])→wpAny (model prog w) A (match (some true:Option Bool) with | some added=>pure added | none=>setAddHashedIn a (.str (one c) u) ((strKind prog w).hash (one c)) 99999) Q E { s with heap:=h' }:=fun h' h1 h2=>wpAny_pure (h true h' h1 h2)
  split
  ·refine wpAny_bind ?_
   rw [hashByValue_scannable 8 rfl]
   refine wpAny_pure ?_
   exact Z84 (fun b s₁ Q' hq=>by cases b <;> first | exact wpAny_pure hq | exact wpAny_rule hq) ho L he1 hk1 (SetTable.fits_plain_off hfits) hled.1 rfl hz1 hend
  ·rename_i hpl
   refine wpAny_bind (wpAny_pure ?_)
   simp only [↓reduceIte]
   exact Z84 (fun b s₁ Q' hq=>by cases b <;> first | exact wpAny_pure hq | exact wpAny_rule hq) ho L he1 hk1 hfits hled.1 (Bool.eq_false_iff.mpr hpl) hz1 hend
end
theorem slot_setit:PySem.Slot "set_iterator" "__next__" "set_iterator.__next__" :=
 .of (owner:="set_iterator") (n:="__next__") (by rw [typeLookup_type,builtinLookup_eq_fast]; kernel_rfl) (by decide +kernel) (by decide +kernel) (by decide +kernel)
  (by first | exact .inl (by decide +kernel) | exact .inr (by decide +kernel)) (by rw [isSubtype_type]; kernel_rfl)
theorem Z1f:entryFor table "set_iterator.__next__" = some Builtin.«set_iterator.__next__»:=entryFor_of_fast (by kernel_rfl)
theorem Z1L (a:Value):argsOk "set_iterator.__next__" ⟨[a],[]⟩:=by unfold argsOk; kernel_rfl
theorem Z54:entryFor table "set.__iter__" = some Builtin.«frozenset.__iter__» :=
 entryFor_alias (id':="frozenset.__iter__") (by kernel_rfl) rfl (by decide +kernel) (by kernel_rfl)
theorem Z55 {α:Type}:∀ (l:List α) (i:Nat) (hi:i < l.length),(l[i] :: l.eraseIdx i).Perm l
 | x :: l,0,_=>.refl _
 | x :: l,i + 1,h=>(List.Perm.swap ..).trans ((Z55 l i (Nat.lt_of_succ_lt_succ h)).cons x)
theorem Z85:PySem.Slot "set_iterator" "__iter__" "set_iterator.__iter__" :=
 .of (owner:="set_iterator") (n:="__iter__") (by rw [typeLookup_type,builtinLookup_eq_fast]; kernel_rfl) (by decide +kernel) (by decide +kernel) (by decide +kernel)
  (by first | exact .inl (by decide +kernel) | exact .inr (by decide +kernel)) (by rw [isSubtype_type]; kernel_rfl)
theorem Z9Q:entryFor table "set_iterator.__iter__" = some Builtin.«dict_keyiterator.__iter__» :=
 entryFor_alias (id':="dict_keyiterator.__iter__") (by kernel_rfl) rfl (by decide +kernel) (by kernel_rfl)
theorem ZbB (a:Value):argsOk "set_iterator.__iter__" ⟨[a],[]⟩:=by unfold argsOk; kernel_rfl
theorem Z9R {α:Type} (f:Nat→Nat):∀ (n k:Nat) (l:List α) (out:Array α),l.length = n→(pickOrder.go f n k l out).toList.Perm (out.toList++l)
 | 0,k,l,out,h=>by rw [List.length_eq_zero_iff.mp h,List.append_nil]; exact .refl _
 | n + 1,k,l,out,h=>by
  rw [pickOrder.go]
  have hl:f k % l.length < l.length:=Nat.mod_lt _ (by rw [h]; exact Nat.succ_pos _)
  rw [List.getElem?_eq_getElem hl]
  dsimp only
  refine (Z9R f n (k + 1) _ _ (by rw [List.length_eraseIdx,if_pos hl,h]; rfl)).trans ?_
  rw [Array.toList_push,List.append_assoc]
  refine List.Perm.append_left _ ?_
  exact (Z55 _ _ hl)
theorem Z9S {α:Type} (f:Nat→Nat) (xs:Array α):(pickOrder f xs).toList.Perm xs.toList:=by
 unfold pickOrder
 have:=Z9R f xs.size 0 xs.toList #[] (by simp)
 simpa using this
section
variable {prog:Program} {w:World} {A:Around} {E:Value→Shared→Prop} {s:Shared}
theorem Z61 {src:Source} {n:Nat} {M:Model} {Q:Nat→Shared→Prop} (hn:n ≠ 0) (h:∀ i,i < n→Q i { s with drawn:=s.drawn.bump src }):wpAny M A (choose src n) Q E s:=by
 intro Γ p hΓ
 unfold choose
 rw [Sem.wp_choose]
 exact ⟨hn,h _ (Nat.mod_lt _ (Nat.pos_of_ne_zero hn))⟩
theorem Z62 {α:Type} {M:Model}:∀ (n:Nat) (xs:List α) (s:Shared) (Q:List α→Shared→Prop),xs.length = n→(∀ ys d,ys.Perm xs→Q ys { s with drawn:=d })→wpAny M A (drawOrder n xs) Q E s
 | 0,xs,s,Q,h,k=>by
  rw [List.length_eq_zero_iff.mp h] at k ⊢
  exact wpAny_pure (k [] s.drawn (.refl _))
 | n + 1,[],s,Q,h,k=>by cases h
 | n + 1,x :: xs,s,Q,h,k=>by
  unfold drawOrder
  refine wpAny_bind (Z61 (by simp) fun i hi=>?_)
  rw [List.getElem?_eq_getElem hi]
  refine wpAny_bind (Z62 n _ _ _ (by rw [List.length_eraseIdx,if_pos hi,h]; rfl) fun ys d hp=>wpAny_pure ?_)
  exact k _ d ((hp.cons _).trans (Z55 _ _ hi))
theorem Z4E {P:PySem.Fin→Shared→Prop} {Q:Option Value→Shared→Prop} (hh:A.handled = none) (h:∀ h',(∀ b o,s.heap.get? b = some o→h'.get? b = some o)→Q none { s with heap:=h' }) :
  wpAny (model prog w) A.in1 (newExc (.type "StopIteration") [] >>= fun e=>raiseNew e) P (fun e s'=>wpAny (model prog w) A (match (Except.error e:Except Value (Option Value)) with
      | Except.ok (some v)=>pure (some v)
      | Except.ok none=>unsupported "iter:the-iterator's-class-has-lost-its-__next__-amid-the-walk"
      | Except.error e=>do
       let __do_lift ← isInstance e (Value.type "StopIteration")
       if __do_lift = true then pure none else throw e) Q E s') s:=by
 refine wpAny_bind ?_
 simp only [newExc,newTuple]
 refine wpAny_bind (wpAny_newObj_type ?_ (by size_fits))
 refine wpAny_bind (m:=firstArgMember _ _) (wpAny_of_eq (a:=Value.none) (by first | rfl | (simp only [firstArgMember]; rfl)) ?_)
 refine wpAny_newObj_type ?_ (by size_fits)
 simp only [raiseNew]
 refine wpAny_bind (wpAny_handled ?_)
 rw [show A.in1.handled = none from hh]
 refine wpAny_bind (wpAny_pure (wpAny_throw ?_))
 refine wpAny_bind (wpAny_isInstance (T:="StopIteration") (b:=true) ⟨_,Heap.get?_push_size _ rfl,rfl⟩ isSubtype_stop ?_)
 exact wpAny_pure (h _ fun b o e=>Heap.get?_push_of_some _ (Heap.get?_push_of_some _ e))
noncomputable def IsIt (h:Heap) (I:Addr) (fs:Array Value):Prop:=∃ o,h.get? I = some o∧o.cls = .type "set_iterator"∧o.data = .fields fs
theorem IsIt.upd {h:Heap} {I:Addr} {fs:Array Value} (x:IsIt h I fs) (k:Nat) (v:Value):IsIt (h.update I (Obj.mapFields (·.setIfInBounds k v))) I (fs.setIfInBounds k v) :=
 let ⟨o,ho,hc,hd⟩:=x
 ⟨_,Heap.get?_update_self _ ho (Obj.isFreed_of_fields (Obj.data_mapFields hd _)),(Obj.cls_mapFields ..).trans hc,by rw [Obj.data_mapFields hd]⟩
theorem IsIt.set {I:Addr} {fs:Array Value} {k:Nat} {v:Value} {Q:Unit→Shared→Prop} {M:Model} (x:IsIt s.heap I fs) (hk:k < fs.size) (h:∀ h',IsIt h' I (fs.setIfInBounds k v)→Heap.SameBut I s.heap h'→Q () { s with heap:=h' }) :
  wpAny M A (setField (.ref I) k v) Q E s:=by
 have y:=x.upd k v
 obtain ⟨o,ho,hc,hd⟩:=x
 exact wpAny_setField ho hd hk (h _ y (Heap.SameBut.update ..))
theorem Z9T {I:Addr} {fs:Array Value} {Q:Value→Shared→Prop} (x:IsIt s.heap I fs) (h:Q (.ref I) s):wpAny (model prog w) A (pyIter (.ref I)) Q E s:=by
 obtain ⟨o,ho,hc,hd⟩:=x
 have hT:s.TypeIs (.ref I) "set_iterator":=⟨o,ho,hc⟩
 refine wpAny_pyIter_slot hT Z85 (wpAny_call_entry Z85 hT Z9Q ?_ (ZbB _))
 exact wpAny_pure ⟨_,rfl,"set_iterator",_,hT,slot_setit.lookup,h⟩
section
variable {I S:Addr} {oS:Obj} {es:Array (Int × Value)} {ep:Nat} {t:SetTable} {us:List Value}
theorem Z86 (hh:A.handled = none) (hIS:I ≠ S) (hd:oS.data = .set es ep t) (hf:t.fits es.size = true) (hu:us.length = es.size) (sl:Nat→Nat)
  (hN:∀ i,i ≤ us.length→∀ (A:Around) (E:Value→Shared→Prop) (s:Shared) (Q:Option (Value × Nat)→Shared→Prop),s.heap.get? S = some oS→Q (us[i]?.map fun x=>(x,sl (i + 1))) s→wpAny (model prog w) A (setNext S (sl i) i ep) Q E s) :
  Walks prog w A I [I,S] [I] us.length (fun i v=>us[i]? = some v) (fun i h=>IsIt h I #[.int (sl i) 0,.int i 0,.ref S,.int es.size 0,.int ep 0]∧h.get? S = some oS) where
 sub:=fun b hb=>List.mem_singleton.mp hb ▸ List.mem_cons_self ..
 frame:=fun i h h' st hk=>⟨let ⟨o,ho,r⟩:=st.1; ⟨o,hk I (List.mem_cons_self ..) o ho,r⟩,hk S (List.mem_cons_of_mem _ (List.mem_cons_self ..)) _ st.2⟩
 item:=fun i s Q E hi st hQ=>by
  obtain ⟨o,ho,hc,hd'⟩:=id st.1
  have hT:s.TypeIs (.ref I) "set_iterator":=⟨o,ho,hc⟩
  unfold pyNext
  refine wpAny_bind (wpAny_attempt (wpAny_callSpecial?_slot (name:=Str.ofString "__next__") hT slot_setit (wpAny_call_entry slot_setit hT Z1f ?_ (Z1L _))))
  unfold Builtin.«set_iterator.__next__»
  refine wpAny_bind (wpAny_pure (wpAny_bind (wpAny_fieldsOf ho hd' (wpAny_bind (wpAny_setEntries_of st.2 hd hf ?_)))))
  refine wpAny_ite_split (fun q=>absurd q (by simp)) fun _=>?_
  refine wpAny_bind (hN i (Nat.le_of_lt hi) _ _ _ _ st.2 ?_)
  rw [List.getElem?_eq_getElem hi]
  refine wpAny_bind (st.1.set (by simp) fun h1 x1 b1=>wpAny_bind (x1.set (by simp) fun h2 x2 b2=>wpAny_pure ⟨_,rfl,wpAny_pure ?_⟩))
  refine hQ _ h2 s.toks (List.getElem?_eq_getElem hi) ⟨?_,(b2.2 S (Ne.symm hIS)).trans ((b1.2 S (Ne.symm hIS)).trans st.2)⟩ fun b o hb e=>?_
  ·exact x2
  ·have hb:b ≠ I:=fun q=>hb (List.mem_singleton.mpr q)
   exact (b2.2 b hb).trans ((b1.2 b hb).trans e)
 done:=fun s Q E st hQ=>by
  obtain ⟨o,ho,hc,hd'⟩:=id st.1
  have hT:s.TypeIs (.ref I) "set_iterator":=⟨o,ho,hc⟩
  unfold pyNext
  refine wpAny_bind (wpAny_attempt (wpAny_callSpecial?_slot (name:=Str.ofString "__next__") hT slot_setit (wpAny_call_entry slot_setit hT Z1f ?_ (Z1L _))))
  unfold Builtin.«set_iterator.__next__»
  refine wpAny_bind (wpAny_pure (wpAny_bind (wpAny_fieldsOf ho hd' (wpAny_bind (wpAny_setEntries_of st.2 hd hf ?_)))))
  refine wpAny_ite_split (fun q=>absurd q (by simp)) fun _=>?_
  refine wpAny_bind (hN us.length (Nat.le_refl _) _ _ _ _ st.2 ?_)
  rw [List.getElem?_eq_none (Nat.le_refl _)]
  refine wpAny_bind (st.1.set (by simp) fun h1 x1 b1=>Z4E hh fun h2 k2=>hQ h2 s.toks fun b o hb e=>k2 b o ((b1.2 b fun q=>hb (List.mem_singleton.mpr q)).trans e))
 self:=fun i s Q E st hQ=>Z9T st.1 hQ
theorem Z8Q (hh:A.handled = none) {T:Addr} {oT:Obj} {m:Nat} {ord:List Nat} (hIS:I ≠ S) (hIT:I ≠ T) (hd:oS.data = .set es ep t) (hf:t.fits es.size = true) (hu:us.length = es.size) (hT':oT.data = .seq (ord.map fun (i:Nat)=>rawInt i).toArray m)
  (hN:∀ i,i < us.length→∃ k e,ord[i]? = some k∧es[k]? = some e∧us[i]? = some e.2) (hl:ord.length = us.length) :
  Walks prog w A I [I,S,T] [I] us.length (fun i v=>us[i]? = some v) (fun i h=>IsIt h I #[.ref T,.int i 0,.ref S,.int es.size 0,.int ep 0]∧h.get? S = some oS∧h.get? T = some oT) where
 sub:=fun b hb=>List.mem_singleton.mp hb ▸ List.mem_cons_self ..
 frame:=fun i h h' st hk=>⟨let ⟨o,ho,r⟩:=st.1; ⟨o,hk I (List.mem_cons_self ..) o ho,r⟩,hk S (by simp) _ st.2.1,hk T (by simp) _ st.2.2⟩
 item:=fun i s Q E hi st hQ=>by
  obtain ⟨o,ho,hc,hd'⟩:=id st.1
  have hT:s.TypeIs (.ref I) "set_iterator":=⟨o,ho,hc⟩
  obtain ⟨k,e,h1,h2,h3⟩:=hN i hi
  unfold pyNext
  refine wpAny_bind (wpAny_attempt (wpAny_callSpecial?_slot (name:=Str.ofString "__next__") hT slot_setit (wpAny_call_entry slot_setit hT Z1f ?_ (Z1L _))))
  unfold Builtin.«set_iterator.__next__»
  refine wpAny_bind (wpAny_pure (wpAny_bind (wpAny_fieldsOf ho hd' (wpAny_bind (wpAny_setEntries_of st.2.1 hd hf ?_)))))
  refine wpAny_ite_split (fun q=>absurd q (by simp)) fun _=>?_
  refine wpAny_bind (wpAny_seqItems st.2.2 hT' ?_)
  have e1:(ord.map fun (i:Nat)=>rawInt i).toArray[((i:Nat):Int).toNat]? = some (rawInt k):=by simp [h1]
  simp only [e1]
  refine wpAny_bind (m:=setNextDrawn S _ _) ?_
  unfold setNextDrawn
  refine wpAny_bind (wpAny_setState_of st.2.1 hd hf ?_)
  refine wpAny_ite_split (fun q=>absurd q (by simp)) fun _=>?_
  have e2:es[((k:Nat):Int).toNat]? = some e:=by simpa using h2
  simp only [e2]
  refine wpAny_pure (wpAny_bind (st.1.set (by simp) fun h1 x1 b1=>wpAny_pure ⟨_,rfl,wpAny_pure ?_⟩))
  refine hQ _ h1 s.toks h3 ⟨x1,(b1.2 S (Ne.symm hIS)).trans st.2.1,(b1.2 T (Ne.symm hIT)).trans st.2.2⟩ fun b o hb e=>(b1.2 b fun q=>hb (List.mem_singleton.mpr q)).trans e
 done:=fun s Q E st hQ=>by
  obtain ⟨o,ho,hc,hd'⟩:=id st.1
  have hT:s.TypeIs (.ref I) "set_iterator":=⟨o,ho,hc⟩
  unfold pyNext
  refine wpAny_bind (wpAny_attempt (wpAny_callSpecial?_slot (name:=Str.ofString "__next__") hT slot_setit (wpAny_call_entry slot_setit hT Z1f ?_ (Z1L _))))
  unfold Builtin.«set_iterator.__next__»
  refine wpAny_bind (wpAny_pure (wpAny_bind (wpAny_fieldsOf ho hd' (wpAny_bind (wpAny_setEntries_of st.2.1 hd hf ?_)))))
  refine wpAny_ite_split (fun q=>absurd q (by simp)) fun _=>?_
  refine wpAny_bind (wpAny_seqItems st.2.2 hT' ?_)
  have e1:(ord.map fun (i:Nat)=>rawInt i).toArray[((us.length:Nat):Int).toNat]? = none:=by simp [hl]
  simp only [e1]
  refine wpAny_bind (st.1.set (by simp) fun h1 x1 b1=>wpAny_bind (x1.set (by simp) fun h2 x2 b2=>Z4E hh fun h3 k3=>hQ h3 s.toks fun b o hb e=>?_))
  have hb:b ≠ I:=fun q=>hb (List.mem_singleton.mpr q)
  exact k3 b o ((b2.2 b hb).trans ((b1.2 b hb).trans e))
 self:=fun i s Q E st hQ=>Z9T st.1 hQ
end
end
theorem Z8R {α:Type} (l:List α) (d:α):(List.range l.length).map (fun k=>l.getD k d) = l:=by
 refine List.ext_getElem (by simp) fun i h1 h2=>?_
 simp [h2]
theorem ZeL (j k:Nat):SetTable.below #[j] k = if j < k then 1 else 0:=by
 unfold SetTable.below
 show SetTable.below.go #[j] k 1 0 1 = _
 unfold SetTable.below.go
 rw [if_pos Nat.one_pos]
 show (if j < k then SetTable.below.go #[j] k 0 1 1 else SetTable.below.go #[j] k 0 0 0) = _
 rfl
section
variable {prog:Program} {w:World} {A:Around} {E:Value→Shared→Prop} {s:Shared}
variable {a:Addr} {o:Obj} {l:List Nat} {es:Array (Int × Value)} {ep:Nat} {t:SetTable}
theorem Z9U (L:SLay prog w o l es ep t) (ho:s.heap.get? a = some o) (hb:w.params.followText "set-order" = true) {i:Nat} {Q:Option (Value × Nat)→Shared→Prop}
  (h:Q (((pickOrder (w.params.setOrder a ep) es).toList.map (·.2))[i]?.map fun x=>(x,0)) s):wpAny (model prog w) A (setNext a 0 i ep) Q E s:=by
 unfold setNext
 refine wpAny_bind (wpAny_setState_of ho L.data L.fits (wpAny_bind (wpAny_bind (wpAny_askSetting (wpAny_pure ?_)))))
 refine wpAny_ite_split (fun _=>?_) fun q=>absurd hb q
 refine wpAny_ite_split (fun q=>absurd q (by simp)) fun _=>?_
 refine wpAny_bind (m:=setWalk a) ?_
 unfold setWalk
 refine wpAny_bind (wpAny_setState_of ho L.data L.fits (wpAny_bind (wpAny_bind (wpAny_askSetting (wpAny_pure ?_)))))
 refine wpAny_ite_split (fun _=>?_) fun q=>absurd hb q
 refine wpAny_bind (wpAny_askSetting (wpAny_pure (wpAny_pure ?_)))
 have e:(((pickOrder (w.params.setOrder a ep) es)[i]?).map fun e=>(e.2,0)) = (((pickOrder (w.params.setOrder a ep) es).toList.map (·.2))[i]?.map fun x=>(x,0)):=by
  rw [List.getElem?_map,Array.getElem?_toList,Option.map_map]; rfl
 show Q (((pickOrder (w.params.setOrder a ep) es)[i]?).map fun e=>(e.2,0)) s
 rw [e]; exact h
theorem ZbC (L:SLay prog w o l es ep t) (ho:s.heap.get? a = some o) (hb:w.params.followText "set-order" = false) (hd:(!t.plain && decide (es.size > 1)) = false) {i:Nat} (hi:i ≤ (es.toList.map (·.2)).length) {Q:Option (Value × Nat)→Shared→Prop}
  (h:Q ((es.toList.map (·.2))[i]?.map fun x=>(x,t.place.getD 0 0 + 1)) s):wpAny (model prog w) A (setNext a (if i = 0 then 0 else t.place.getD 0 0 + 1) i ep) Q E s:=by
 have h1:es.size ≤ 1:=by
  cases hp:t.plain with
  | true=>rw [L.plain hp]; exact Nat.zero_le _
  | false=>rw [hp] at hd; exact Nat.le_of_not_lt (of_decide_eq_false hd)
 have hz:t.place.size = es.size:=by
  have:=L.fits
  unfold SetTable.fits at this
  exact eq_of_beq ((Bool.and_eq_true_iff.mp this).1)
 unfold setNext
 refine wpAny_bind (wpAny_setState_of ho L.data L.fits (wpAny_bind (wpAny_bind (wpAny_askSetting (wpAny_pure ?_)))))
 refine wpAny_ite_split (fun q=>absurd (hb.symm.trans q) (by simp)) fun _=>?_
 refine wpAny_ite_split (fun q=>absurd (hd.symm.trans q) (by simp)) fun _=>?_
 refine wpAny_bind (wpAny_ite_split (fun q=>absurd q (by have e:=L.led; rw [hb] at e; rw [show t.led = true from e]; simp)) fun _=>wpAny_pure ?_)
 refine wpAny_pure ?_
 rw [List.length_map,Array.length_toList] at hi
 rcases Nat.lt_or_ge es.size 1 with q | q
 ·have e0:es = #[]:=Array.eq_empty_of_size_eq_zero (by lia)
  subst e0
  simpa using h
 ·have hs:es.size = 1:=Nat.le_antisymm h1 q
  obtain ⟨e,rfl⟩:=Array.size_eq_one_iff.mp hs
  obtain ⟨j,hj⟩:=Array.size_eq_one_iff.mp (hz.trans hs)
  rw [hj] at h ⊢
  rw [ZeL]
  rcases Nat.eq_zero_or_pos i with rfl | hp
  ·simpa using h
  ·obtain rfl:i = 1:=by
    have:i ≤ 1:=hi
    lia
   simpa using h
theorem ZbD {Q:Value→Shared→Prop} (hS:SetL prog w s.heap a l) (hlz:l.eraseDups.length ≤ sizeLine)
  (h:∀ (us:List Value) (I:Addr) (fp:List Addr) (St:Nat→Heap→Prop) (h':Heap) (d:Drawn),(us.map k1).Perm l.eraseDups→(∀ v ∈ us,∃ c u,v = .str (one c) u)→(∀ A':Around,A'.handled = none→Walks prog w A' I fp [I] us.length (fun i v=>us[i]? = some v) St)→St 0 h' →
   (∀ b o,s.heap.get? b = some o→h'.get? b = some o)→s.heap.objs.size ≤ I→(∀ b ∈ fp,b = a ∨ s.heap.objs.size ≤ b)→Q (.ref I) { s with heap:=h',drawn:=d }):wpAny (model prog w) A (pyIter (.ref a)) Q E s:=by
 obtain ⟨o,es,ep,t,ho,L⟩:=hS
 have hT:s.TypeIs (.ref a) "set":=⟨o,ho,L.ex.1⟩
 have hlt:=Heap.lt_size ho
 have vals:∀ us:List Value,us.Perm (es.toList.map (·.2))→(us.map k1).Perm l.eraseDups∧(∀ v ∈ us,∃ c u,v = .str (one c) u)∧us.length = es.size:=fun us hp=>by
  refine ⟨?_,fun v hv=>?_,?_⟩
  ·have:=hp.map k1
   rw [List.map_map] at this
   exact this.trans L.keys
  ·obtain ⟨e,he,rfl⟩:=List.mem_map.mp (hp.mem_iff.mp hv)
   obtain ⟨c,u,rfl⟩:=L.els e he
   exact ⟨c,u,rfl⟩
  ·rw [hp.length_eq,List.length_map,Array.length_toList]
 refine wpAny_pyIter_slot hT PySem.F.slot_set_iter (wpAny_call_entry PySem.F.slot_set_iter hT Z54 ?_ (PySem.F.args_set_iter_1 _))
 unfold Builtin.«frozenset.__iter__»
 refine wpAny_bind (wpAny_pure ?_)
 refine wpAny_bind (m:=Builtin.Frozenset.sizeOf a) ?_
 unfold Builtin.Frozenset.sizeOf
 refine wpAny_bind (wpAny_setEntries_of ho L.data L.fits (wpAny_pure ?_))
 refine wpAny_bind (m:=setDrawn a) ?_
 unfold setDrawn
 refine wpAny_bind (wpAny_setState_of ho L.data L.fits (wpAny_bind (wpAny_bind (wpAny_askSetting (wpAny_pure (wpAny_pure ?_))))))
 refine wpAny_ite_split (fun q=>?_) fun q=>?_
 ·have q:(!w.params.followText "set-order" && (!t.plain && decide (es.size > 1))) = true:=q
  refine wpAny_bind (Z62 _ _ _ _ (List.length_range) fun ord d hp=>?_)
  have hol:ord.length = es.size:=by rw [hp.length_eq,List.length_range]
  have hz:es.size ≤ sizeLine:=by rw [L.size]; exact hlz
  refine wpAny_bind (wpAny_newTuple ?_ (by rw [List.length_map,hol]; exact hz))
  have hoT:(s.heap.push (seqObj "tuple" (ord.map fun (i:Nat)=>rawInt i).toArray 0)).get? a = some o:=Heap.get?_push_of_some _ ho
  refine wpAny_bind (wpAny_setEpoch_of hoT L.data L.fits ?_)
  refine wpAny_bind (wpAny_newObj_type (wpAny_pure ⟨_,rfl,"set_iterator",_,⟨_,Heap.get?_push_size _ rfl,rfl⟩,slot_setit.lookup,?_⟩))
  have hpu:(ord.map fun k=>(es.toList.map (·.2)).getD k .none).Perm (es.toList.map (·.2)):=by
   have:=hp.map fun k=>(es.toList.map (·.2)).getD k .none
   rwa [show es.size = (es.toList.map (·.2)).length by simp,Z8R] at this
  obtain ⟨v1,v2,v3⟩:=vals _ hpu
  refine h (ord.map fun k=>(es.toList.map (·.2)).getD k .none) _ [_,a,s.heap.objs.size] _ _ d v1 v2 (fun A' hA'=>Z8Q (I:=(s.heap.push (seqObj "tuple" (ord.map fun (i:Nat)=>rawInt i).toArray 0)).objs.size) (S:=a) (T:=s.heap.objs.size) hA' (by rw [size_push']; lia) (by rw [size_push']; lia) L.data L.fits v3 (oT:=seqObj "tuple" (ord.map fun (i:Nat)=>rawInt i).toArray 0) (m:=0) rfl (fun i hi=>?_) (List.length_map _).symm) ?_ (fun b o e=>Heap.get?_push_of_some _ (Heap.get?_push_of_some _ e)) ?_ ?_
  ·rw [List.length_map] at hi
   have hk:ord[i] < es.size:=List.mem_range.mp (hp.mem_iff.mp (List.getElem_mem hi))
   refine ⟨ord[i],es[ord[i]],List.getElem?_eq_getElem hi,getElem?_pos es _ hk,?_⟩
   rw [List.getElem?_map,List.getElem?_eq_getElem hi]
   simp [hk]
  ·refine ⟨?_,Heap.get?_push_of_some _ hoT,Heap.get?_push_of_some _ (Heap.get?_push_size _ rfl)⟩
   exact ⟨_,Heap.get?_push_size _ rfl,rfl,rfl⟩
  ·exact Nat.le_trans (Nat.le_succ _) (Nat.le_of_eq (size_push' ..).symm)
  ·intro b hb
   rcases List.mem_cons.mp hb with rfl | hb
   ·exact .inr (Nat.le_trans (Nat.le_succ _) (Nat.le_of_eq (size_push' ..).symm))
   ·rcases List.mem_cons.mp hb with rfl | hb
    ·exact .inl rfl
    ·rw [List.mem_singleton.mp hb]; exact .inr (Nat.le_refl _)
 ·have q:¬ (!w.params.followText "set-order" && (!t.plain && decide (es.size > 1))) = true:=q
  refine wpAny_bind (wpAny_pure (wpAny_bind (wpAny_setEpoch_of ho L.data L.fits (wpAny_bind (wpAny_newObj_type (wpAny_pure ⟨_,rfl,"set_iterator",_,⟨_,Heap.get?_push_size _ rfl,rfl⟩,slot_setit.lookup,?_⟩))))))
  have hIa:s.heap.objs.size ≠ a:=Nat.ne_of_gt hlt
  have hfp:∀ b ∈ [s.heap.objs.size,a],b = a ∨ s.heap.objs.size ≤ b:=fun b hb=>by
   rcases List.mem_cons.mp hb with rfl | hb
   ·exact .inr (Nat.le_refl _)
   ·exact .inl (List.mem_singleton.mp hb)
  cases hb:w.params.followText "set-order" with
  | true=>
   obtain ⟨v1,v2,v3⟩:=vals ((pickOrder (w.params.setOrder a ep) es).toList.map (·.2)) ((Z9S _ _).map _)
   exact h _ _ [s.heap.objs.size,a] _ _ s.drawn v1 v2 (fun A' hA'=>Z86 hA' hIa L.data L.fits v3 (fun _=>0) fun i hi A E s Q ho h=>Z9U L ho hb h) ⟨⟨_,Heap.get?_push_size _ rfl,rfl,rfl⟩,Heap.get?_push_of_some _ ho⟩ (fun b o e=>Heap.get?_push_of_some _ e) (Nat.le_refl _) hfp
  | false=>
   obtain ⟨v1,v2,v3⟩:=vals _ (.refl _)
   have hd:(!t.plain && decide (es.size > 1)) = false:=by rw [hb] at q; simpa using q
   exact h _ _ [s.heap.objs.size,a] _ _ s.drawn v1 v2 (fun A' hA'=>Z86 hA' hIa L.data L.fits v3 (fun i=>if i = 0 then 0 else t.place.getD 0 0 + 1) fun i hi A E s Q ho h=>ZbC L ho hb hd hi h) ⟨⟨_,Heap.get?_push_size _ rfl,rfl,rfl⟩,Heap.get?_push_of_some _ ho⟩ (fun b o e=>Heap.get?_push_of_some _ e) (Nat.le_refl _) hfp
end
theorem Z1M:∀ (l:List Nat),l.eraseDups.Nodup:=by
 have key:∀ (n:Nat) (l:List Nat),l.length = n→l.eraseDups.Nodup:=by
  intro n
  induction n with
  | zero=>intro l h; rw [List.length_eq_zero_iff.mp h]; exact List.nodup_nil
  | succ n ih=>
   intro l h
   have hne:l ≠ []:=by rintro rfl; cases h
   have q:=ih l.dropLast (by rw [List.length_dropLast,h]; rfl)
   have:=Z53 l.dropLast (l.getLast hne)
   rw [List.dropLast_concat_getLast hne] at this
   rw [this]
   split
   ·exact q
   ·rename_i hc
    refine List.nodup_append.mpr ⟨q,List.pairwise_singleton _ _,fun x hx y hy e=>hc ?_⟩
    rw [List.mem_singleton] at hy
    rw [← hy,← e]
    exact List.mem_eraseDups.mp hx
 exact fun l=>key _ l rfl
section
variable {prog:Program} {w:World} {A:Around} {E:Value→Shared→Prop} {s:Shared} {a:Addr} {l:List Nat}
theorem ZbE {Q:Bool→Shared→Prop} (hT:s.TypeIs (.ref a) "set") (h:Q false s):wpAny (model prog w) A (Builtin.List.listLengthHint (.ref a)) Q E s:=by
 unfold Builtin.List.listLengthHint
 refine wpAny_bind (wpAny_specialOf hT PySem.F.slot_set_len.lookup ?_)
 generalize hid:("set.__len__":String) = id0
 wp_delta
 rw [show splitId id0 = some ("set","__len__") from by subst hid; decide +kernel]
 subst hid
 refine wpAny_bind (wpAny_isInstance (T:="set") (b:=true) hT (by rw [isSubtype_type]; kernel_rfl) ?_)
 refine wpAny_ite_split (fun hab=>absurd hab (by decide)) (fun _=>?_)
 refine wpAny_ite_split (fun _=>?_) (fun hab=>absurd (by decide +kernel) hab)
 refine wpAny_bind (wpAny_typeOf hT ?_)
 exact wpAny_pure h
theorem Z6R {R:List Value→Shared→Prop} (hh:A.handled = none) (hS:SetL prog w s.heap a l) (hlz:l.eraseDups.length ≤ sizeLine)
  (h:∀ (us:List Value) (h':Heap) (tk:Nat) (d:Drawn),(us.map k1).Perm l.eraseDups→(∀ v ∈ us,∃ c u,v = .str (one c) u)→(∀ b o,s.heap.get? b = some o→h'.get? b = some o)→R us { s with heap:=h',toks:=tk,drawn:=d }) :
  wpAny (model prog w) A (collect (.ref a)) R E s:=by
 obtain ⟨o,es,ep,t,ho,L⟩:=id hS
 have hlt:=Heap.lt_size ho
 unfold collect
 refine wpAny_bind (wpAny_runValue (codeAny_builtin entry_proto_collect' ?_))
 rw [Around.under_plainId PySem.F.plain_proto_collect _]
 show wpAny _ A.in1 (newList [] >>= fun l=>again (.builtin "list.__iadd__" ⟨[l,.ref a],[]⟩)) _ _ s
 refine wpAny_bind (wpAny_newObj_type (wpAny_pure ⟨plainId_quiet PySem.F.plain_list_iadd _,codeAny_builtin entry_list_iadd' ?_⟩))
 rw [Around.under_plainId PySem.F.plain_list_iadd _]
 have hS0:(s.heap.push { cls:=.type "list",data:=.seq ([]:List Value).toArray }).get? s.heap.objs.size = some { cls:=.type "list",data:=.seq #[] }:=Heap.get?_push_size _ rfl
 show wpAny _ A.in1 (Builtin.List.listExtendWith (.ref s.heap.objs.size) (.ref a) (.ref s.heap.objs.size)) _ _ _
 unfold Builtin.List.listExtendWith
 have hoa:(s.heap.push { cls:=.type "list",data:=.seq ([]:List Value).toArray }).get? a = some o:=Heap.get?_push_of_some _ ho
 refine wpAny_bind (wpAny_typeOf (T:="set") ⟨o,hoa,L.ex.1⟩ ?_)
 have h1:Builtin.List.listSameRef (.ref s.heap.objs.size) (.ref a) = false:=by simp [Builtin.List.listSameRef,Nat.ne_of_gt hlt]
 have h2:(Value.type "set" == Value.type "list") = false:=by decide
 have h3:(Value.type "set" == Value.type "tuple") = false:=by decide
 simp only [h1,h2,h3,Bool.or_false,Bool.false_eq_true,if_false]
 refine wpAny_bind (ZbD (l:=l) ⟨o,es,ep,t,hoa,L⟩ hlz fun us I fp St h' d hp hv W st hk hI hfp=>?_)
 have hS1:=hk _ _ hS0
 have hSI:s.heap.objs.size ∉ fp:=fun q=>by
  rcases hfp _ q with e | e
  ·exact Nat.lt_irrefl _ (e ▸ hlt)
  ·rw [size_push'] at e; exact Nat.lt_irrefl _ e
 have hl:us.length ≤ sizeLine:=by
  have:=hp.length_eq
  rw [List.length_map] at this
  rw [this]; exact hlz
 have fin:∀ (h2:Heap) (c:Nat) (tk:Nat),St 0 h2→h2.get? s.heap.objs.size = some { cls:=.type "list",data:=.seq #[] c }→(∀ b o,b ≠ s.heap.objs.size→h'.get? b = some o→h2.get? b = some o) →
   codeAny (model prog w) A (.builtin "list.extend.loop" ⟨[.ref s.heap.objs.size,.ref I,.ref s.heap.objs.size],[]⟩) (fun q s'=>∃ (h3:Heap) (tk:Nat) (c:Nat),q = .ok (.ret (.ref s.heap.objs.size))∧s' = { s with heap:=h3,toks:=tk,drawn:=d }∧(∀ b o,s.heap.get? b = some o→h3.get? b = some o)∧h3.get? s.heap.objs.size = some { cls:=.type "list",data:=.seq us.toArray c }) { s with heap:=h2,toks:=tk,drawn:=d }:=by
  intro h2 c tk st2 hS2 k2
  refine codeAny_extend_loopS (W A.in1 hh).toS hl _ hSI _ us.length 0 _ #[] c rfl (Nat.zero_le _) st2 hS2 (ItemsOf.nil _) fun s' acc' c' hm hS' hacc=>?_
  refine ⟨s'.heap,s'.toks,c',rfl,Moved.eq_with hm,fun b o e=>hm.heap b o (fun q=>?_) (k2 b o (Nat.ne_of_lt (Heap.lt_size e)) (hk b o (Heap.get?_push_of_some _ e))),?_⟩
  ·rcases List.mem_cons.mp q with q | q
   ·exact Nat.lt_irrefl _ (q ▸ Heap.lt_size e)
   ·rw [List.mem_singleton] at q
    rw [size_push'] at hI
    have:=Heap.lt_size e
    rw [q] at this
    exact Nat.lt_irrefl _ (Nat.lt_of_lt_of_le this (Nat.le_trans (Nat.le_succ _) hI))
  ·rw [hS']
   have e:acc' = us.toArray:=by
    refine Array.ext (by rw [hacc.1]; simp) fun i q1 q2=>?_
    have:us[i]? = some acc'[i]:=hacc.2 i acc'[i] (getElem?_pos acc' i q1)
    simp at q2
    rw [List.getElem?_eq_getElem q2] at this
    simpa using (Option.some.inj this).symm
   rw [e]
 refine wpAny_bind (wpAny_holding (ZbE ⟨o,hk _ _ hoa,L.ex.1⟩ ?_))
 refine wpAny_ite_split (fun _=>?_) (fun _=>?_)
 ·refine wpAny_bind (wpAny_rule (wpAny_bind ?_))
  show wpAny _ _ (updateSeq s.heap.objs.size (·.push .none) >>= fun _=>updateSeq s.heap.objs.size (·.pop)) _ _ _
  refine wpAny_bind (wpAny_updateSeq hS1 rfl ?_)
  have hS2:=Heap.get?_update_self (Obj.mapSeq (·.push Value.none)) hS1 rfl
  refine wpAny_updateSeq (hz:=by seq_fits) hS2 rfl ?_
  have hS3:=Heap.get?_update_self (Obj.mapSeq (·.pop)) hS2 rfl
  have oth:∀ b o,b ≠ s.heap.objs.size→h'.get? b = some o→((h'.update s.heap.objs.size (Obj.mapSeq (·.push Value.none))).update s.heap.objs.size (Obj.mapSeq (·.pop))).get? b = some o :=
   fun b o hb e=>(Heap.get?_update_other _ _ (Ne.symm hb)).trans ((Heap.get?_update_other _ _ (Ne.symm hb)).trans e)
  refine wpAny_pure ⟨plainId_quiet PySem.F.plain_extend_loop _,codeAny_mono (fin _ _ s.toks ((W A.in1 hh).frame 0 _ _ st fun b hb o e=>oth b o (fun q=>hSI (q ▸ hb)) e) hS3 oth) fun r s' ⟨h3,tk,c,e1,e2,k3,hS'⟩=>?_⟩
  subst e1; subst e2
  exact wpAny_bind (wpAny_load hS' (wpAny_pure (h us h3 tk d hp hv k3)))
 ·refine wpAny_pure ⟨plainId_quiet PySem.F.plain_extend_loop _,codeAny_mono (fin h' _ s.toks st hS1 fun b o _ e=>e) fun r s' ⟨h3,tk,c,e1,e2,k3,hS'⟩=>?_⟩
  subst e1; subst e2
  exact wpAny_bind (wpAny_load hS' (wpAny_pure (h us h3 tk d hp hv k3)))
theorem Z3C {Q:Value→Shared→Prop} (hh:A.handled = none) (hS:SetL prog w s.heap a l) (h128:l.eraseDups.length < 128)
  (h:∀ (h':Heap) (tk:Nat) (d:Drawn) (b:Addr) (out:Array Value) (e:Nat),(∀ b o,s.heap.get? b = some o→h'.get? b = some o)→s.heap.objs.size ≤ b→h'.get? b = some (seqObj "list" out e)→(∀ v ∈ out.toList,∃ c u,v = .str (one c) u)→(out.toList.map k1).Perm l.eraseDups→(out.toList.map k1).Pairwise (· ≤ ·) →
   Q (.ref b) { s with heap:=h',toks:=tk,drawn:=d }):wpAny (model prog w) A (call (.builtin "sorted") [.ref a]) Q E s:=by
 have hlz:l.eraseDups.length ≤ sizeLine:=Nat.le_trans (Nat.le_of_lt h128) (by decide)
 refine call_function_entry kind_sorted plain_sorted entry_sorted (args_sorted1 _) ?_
 unfold Builtin.«sorted»
 refine wpAny_bind (m:=checkCount "sorted" 1 1 _) (wpAny_pure ?_)
 refine wpAny_bind (wpAny_mono (Z04 (E:=fun _ _=>False) (Z6R (A:=A.in1) (R:=fun us s'=>s.heap.objs.size ≤ s'.heap.objs.size→∃ (h':Heap) (tk:Nat) (d:Drawn),s' = { s with heap:=h',toks:=tk,drawn:=d }∧(us.map k1).Perm l.eraseDups∧(∀ v ∈ us,∃ c u,v = .str (one c) u)∧(∀ b o,s.heap.get? b = some o→h'.get? b = some o)∧s.heap.objs.size ≤ h'.objs.size) hh hS hlz
  fun us h' tk d hp hv hk hs=>⟨h',tk,d,rfl,hp,hv,hk,hs⟩)) (fun us s' hq=>?_) fun _ _ e=>e.elim)
 obtain ⟨h',tk,d,rfl,hp,hv,hk,hs⟩:=hq
 have hl:us.length = l.eraseDups.length:=by rw [← hp.length_eq,List.length_map]
 refine wpAny_bind (wpAny_newList ?_ (by rw [hl]; exact hlz))
 have ho:(h'.push { cls:=.type "list",data:=.seq us.toArray }).get? h'.objs.size = some (seqObj "list" us.toArray 0):=Heap.get?_push_size _ rfl
 refine wpAny_bind (wpAny_holding (wpAny_call_entry slot_list_sort ⟨_,ho,rfl⟩ entry_list_sort (Z60 ho (fun v q=>?_) (hp.nodup_iff.mpr (Z1M l)) (by rw [hl]; exact h128) fun out a1 a2=>⟨_,rfl,?_⟩) (args_list_sort _)))
 ·obtain ⟨c,u,rfl⟩:=hv v q
  exact ⟨c,rfl⟩
 obtain ⟨e,he⟩:=sortedHeap_at (out:=out) ho
 refine wpAny_pure ⟨_,rfl,h _ tk d _ out e (fun b o q=>?_) hs he (fun v q=>hv v (a1.mem_iff.mp q)) ((a1.map k1).trans hp) a2⟩
 have hlt:=Heap.lt_size (hk b o q)
 rw [sortedHeap_old (Nat.ne_of_lt hlt) (by rw [Heap.size_push]; exact Nat.lt_succ_of_lt hlt)]
 exact Heap.get?_push_of_some _ (hk b o q)
end
theorem Z6S:isSubtype (.type "str") (.type "set") = pure false:=by rw [isSubtype_type]; kernel_rfl
theorem Z2D:isSubtype (.type "str") (.type "frozenset") = pure false:=by rw [isSubtype_type]; kernel_rfl
theorem Z87 {l:List Nat} (h:∀ c ∈ l,c < 128):l.eraseDups.length ≤ 128:=by
 have:=List.Nodup.length_le_of_subset (l₂:=List.range 128) (Z1M l) fun c hc=>List.mem_range.mpr (h c (List.mem_eraseDups.mp hc))
 rwa [List.length_range] at this
section
variable {prog:Program} {w:World} {A:Around} {R:Result→Shared→Prop}
theorem ZbF {x:Str} {t:Tok} {I S:Addr} (hh:A.handled = none) (hSI:S ≠ I) (hb:∀ i,(x.cps.toList.take i).eraseDups.length + 1 < scanBound) :
  ∀ (k i:Nat) (s:Shared),x.cps.size - i = k→i ≤ x.cps.size→s.heap.IsStrIter I "str_ascii_iterator" x t i→SetL prog w s.heap S (x.cps.toList.take i) →
   (∀ h' tk,(∀ b o,b ≠ I→b ≠ S→s.heap.get? b = some o→h'.get? b = some o)→SetL prog w h' S x.cps.toList→R (.ok (.ret .none)) { s with heap:=h',toks:=tk }) →
   codeAny (model prog w) A (.builtin "set.update.loop" ⟨[.ref S,.ref I],[]⟩) R s:=by
 have W:=Walks.strAscii (prog:=prog) (w:=w) (A:=A.in1) hh I x t
 have hset:∀ {h h':Heap} {l:List Nat},(∀ b o,b ≠ I→h.get? b = some o→h'.get? b = some o)→SetL prog w h S l→SetL prog w h' S l:=fun hk hS=>
  let ⟨o,es,ep,tb,ho,rest⟩:=hS
  ⟨o,es,ep,tb,hk S o hSI ho,rest⟩
 intro k
 induction k with
 | zero=>
  intro i s hk hi hst hS hR
  have hin:i = x.cps.size:=Nat.le_antisymm hi (Nat.le_of_sub_eq_zero hk)
  subst hin
  refine codeAny_builtin PyProof.Rows.F.entry_set_update_loop ?_
  rw [Around.under_plainId PyProof.Rows.F.plain_set_update_loop _]
  show wpAny _ A.in1 (pyNext (.ref I) >>= _) _ _ s
  refine wpAny_bind (W.done s _ _ hst fun h' tk hk'=>?_)
  have hk2:∀ b o,b ≠ I→s.heap.get? b = some o→h'.get? b = some o:=fun b o hb e=>hk' b o (fun q=>hb (List.mem_singleton.mp q)) e
  have hS':=hset hk2 hS
  rw [List.take_of_length_le (by simp)] at hS'
  show wpAny _ A.in1 (ret Value.none) _ _ _
  exact wpAny_pure (hR h' tk (fun b o h1 _ e=>hk2 b o h1 e) hS')
 | succ k ih=>
  intro i s hk hi hst hS hR
  have hlt:i < x.cps.size:=Nat.lt_of_sub_eq_succ hk
  refine codeAny_builtin PyProof.Rows.F.entry_set_update_loop ?_
  rw [Around.under_plainId PyProof.Rows.F.plain_set_update_loop _]
  show wpAny _ A.in1 (pyNext (.ref I) >>= _) _ _ s
  refine wpAny_bind (W.item i s _ _ hlt hst fun v h' tk hP hst' hk'=>?_)
  refine El.x2_2 hP fun c u hc q0z=>?_
  obtain rfl:=q0z
  have hk2:∀ b o,b ≠ I→s.heap.get? b = some o→h'.get? b = some o:=fun b o hb e=>hk' b o (fun q=>hb (List.mem_singleton.mp q)) e
  have hS':=hset hk2 hS
  have hn:=hb i
  show wpAny _ A.in1 (holding [Value.str (one c) u] (setAdd S (.str (one c) u)) >>= _) _ _ _
  refine wpAny_bind (wpAny_holding ?_)
  unfold setAdd
  refine wpAny_holding ?_
  refine wpAny_bind ((strKind prog w).pyHash (k:=one c) (strKind_is _ _ _ _) ?_)
  refine ZbA hS' hn fun b h'' hsb hS2=>?_
  have ht:x.cps.toList.take (i + 1) = x.cps.toList.take i++[c]:=by
   rw [List.take_add_one,Array.getElem?_toList,hc]; rfl
  rw [← ht] at hS2
  refine wpAny_pure ⟨plainId_quiet PyProof.Rows.F.plain_set_update_loop _,ih (i + 1) _ (by rw [← Nat.sub_sub,hk]; rfl) hlt ?_ hS2 fun h3 tk3 hk3 hS3=>?_⟩
  ·refine El.x1_2 hst' fun o ho r=>?_
   exact ⟨o,(hsb.2 I (Ne.symm hSI)).trans ho,r⟩
  ·exact hR h3 tk3 (fun b o h1 h2 e=>hk3 b o h1 h2 ((hsb.2 b h2).trans (hk2 b o h1 e))) hS3
end
section
variable {prog:Program} {w:World} {A:Around} {E:Value→Shared→Prop} {s:Shared}
theorem ZdE (a:Value) {Q₁:Value→Shared→Prop}
  (h:Q₁ (.ref s.heap.objs.size) { s with heap:=s.heap.push { cls:=.type "set",dict:=none,data:=.set #[] 0 (.fresh 0 0 (!w.params.followText "set-order")) } }) :
  codeAny (model prog w) A (.call (.builtin "set.__new__") ⟨[.type "set",a],[]⟩) (wants Q₁ E) s:=by
 refine codeAny_of_tree ?_
 show wpAny _ A.in1 (do checkBuiltinCall "set.__new__" ⟨[.type "set",a],[]⟩; again (.builtin "set.__new__" ⟨[.type "set",a],[]⟩)) _ _ s
 refine wpAny_bind (wpAny_of_eq (PySem.F.newCall_set_1 a) (wpAny_pure ⟨plainId_quiet PySem.F.plain_set_new _,codeAny_builtin PySem.F.entry_set_new ?_⟩))
 rw [Around.under_plainId PySem.F.plain_set_new _]
 unfold Builtin.«set.__new__» Builtin.Frozenset.newClass
 have hsub:=sub_set_self
 obtain ⟨hp,g,d,tk,os⟩:=s
 dsimp only
 wp_walk
 refine wpAny_askSetting (wpAny_pure ?_)
 dsimp only
 simp only [newObj]
 refine wpAny_bind (wpAny_alloc (wpAny_pure ?_))
 exact wpAny_pure h
theorem Z63 {x:Str} {t:Tok} {Q:Value→Shared→Prop} (hh:A.handled = none) (ha:x.cps.all (· < 128) = true)
  (h:∀ (h':Heap) (tk:Nat),SetL prog w h' s.heap.objs.size x.cps.toList→(∀ b o,s.heap.get? b = some o→h'.get? b = some o)→Q (.ref s.heap.objs.size) { s with heap:=h',toks:=tk }) :
  wpAny (model prog w) A (call (.type "set") [.str x t]) Q E s:=by
 have hb:∀ i,(x.cps.toList.take i).eraseDups.length + 1 < scanBound:=fun i=>by
  have h:=Z87 (l:=x.cps.toList.take i) fun c hc=>by
   rw [← Array.all_toList] at ha
   exact of_decide_eq_true (List.all_eq_true.mp ha c (List.mem_of_mem_take hc))
  exact Nat.lt_of_le_of_lt (Nat.succ_le_succ h) (by decide)
 refine El.x2_1 PySem.F.called_set.mro fun c tl hmro=>?_
 have hmade:=PySem.F.called_set.made
 have hsub:=PySem.F.called_set.sub
 refine wpAny_call (codeAny_of_tree ?_)
 show wpAny _ _ (callAny (.type "set") _) _ _ _
 refine wpAny_pure ⟨Code.quiet_builtin _ (by decide +kernel),codeAny_builtin PySem.F.entry_type_call ?_⟩
 rw [Around.under_plain (weight_type_call_type "set" [.str x t] []) rfl]
 have h1:=PySem.F.called_set.notType
 have h2:=PySem.F.called_set.canCreate
 have hct:=PySem.F.typeCall_set_1 (.str x t)
 repeat (any_goals (first | assumption | wp_step))
 generalize hled:(!w.params.followText "set-order") = led
 refine codeAny_mono (ZdE (.str x t) (E:=E) (Q₁:=fun obj s₁=>obj = .ref s.heap.objs.size∧s₁ = { s with heap:=s.heap.push { cls:=.type "set",dict:=none,data:=.set #[] 0 (.fresh 0 0 led) } }) ⟨rfl,by rw [hled]⟩) fun r s₁ hr=>?_
 cases r with
 | error e=>exact hr
 | ok fl=>
  cases fl with
  | ret obj=>
   obtain ⟨rfl,rfl⟩:=hr
   have hS:(s.heap.push { cls:=.type "set",dict:=none,data:=.set #[] 0 (.fresh 0 0 led) }).get? s.heap.objs.size = some { cls:=.type "set",dict:=none,data:=.set #[] 0 (.fresh 0 0 led) }:=Heap.get?_push_size _ rfl
   have hT:Shared.TypeIs { s with heap:=s.heap.push { cls:=.type "set",dict:=none,data:=.set #[] 0 (.fresh 0 0 led) } } (.ref s.heap.objs.size) "set":=⟨_,hS,rfl⟩
   have hli:=PySem.F.called_set.init.lookup
   have hbi:=PySem.F.called_set.init.bind (.ref s.heap.objs.size)
   repeat (any_goals (first | assumption | wp_step))
   refine codeAny_mono (codeAny_call_builtin (R:=wants (fun r s₂=>r = .none∧∃ h' tk,s₂ = { s with heap:=h',toks:=tk }∧SetL prog w h' s.heap.objs.size x.cps.toList∧(∀ b o,s.heap.get? b = some o→h'.get? b = some o)) E)
    PySem.F.called_set.init.plain PySem.F.entry_set_init (check_set_init_1 hT ?_)) fun r₂ s₂ hr₂=>?_
   ·have hs1:=Z6S
    have hs2:=Z2D
    have hne:(Value.type "str" == Value.type "dict") = false:=by decide
    unfold Builtin.«set.__init__» noKeywords Builtin.Frozenset.updateFrom
    generalize hPI:pyIter = PI
    wp_walk
    try clear hne; try clear hs2; try clear hs1; try clear s₂; try clear hbi; try clear hli; try clear hT
    subst hPI
    refine wpAny_pyIter_ascii ha ?_
    refine wpAny_bind (wpAny_runValue ?_)
    have hh3:A.in1.in1.handled = none:=by simp [hh]
    refine ZbF (t:=t) (S:=s.heap.objs.size) (I:=(s.heap.push { cls:=.type "set",dict:=none,data:=.set #[] 0 (.fresh 0 0 led) }).objs.size) hh3 (by rw [Heap.size_push]; exact Nat.ne_of_lt (Nat.lt_succ_self _)) hb x.cps.size 0 _ rfl (Nat.zero_le _) ?_ ?_ fun h' tk hk hS'=>?_
    ·exact ⟨_,Heap.get?_push_size _ rfl,rfl,rfl⟩
    ·exact ⟨_,#[],0,_,Heap.get?_push_of_some _ hS,⟨rfl,rfl,rfl⟩,rfl,fun e q=>(by cases q),.refl _,rfl,hled.symm,fun _=>rfl⟩
    ·show wpAny _ _ _ _ _ _
     refine wpAny_pure ?_
     show wpAny _ _ (ret Value.none) _ _ _
     refine wpAny_pure ⟨rfl,h',tk,rfl,hS',fun b o e=>?_⟩
     have hlt:=Heap.lt_size e
     exact hk b o (by rw [Heap.size_push]; exact Nat.ne_of_lt (Nat.lt_succ_of_lt hlt)) (Nat.ne_of_lt hlt) (Heap.get?_push_of_some _ (Heap.get?_push_of_some _ e))
   ·cases r₂ with
    | error e=>exact hr₂
    | ok fl₂=>
     cases fl₂ with
     | ret r=>
      obtain ⟨rfl,h',tk,rfl,hS',hk'⟩:=hr₂
      repeat (any_goals (first | assumption | wp_step))
      exact h _ _ hS' hk'
     | _=>exact hr₂.elim
  | _=>exact hr.elim
end
section
variable {prog:Program} {w:World} {A:Around} {E:Value→Shared→Prop} {s:Shared}
theorem Z3d {l:Addr} {vs:List Value} {Q:Value→Shared→Prop} (hl:s.heap.IsList l vs.toArray) (hv:∀ v ∈ vs,∃ c,sgn v = some c) (nd:(vs.map k1).Nodup) (h128:vs.length < 128)
  (h:∀ (h':Heap) (b:Addr) (out:Array Value) (e:Nat),(∀ b o,s.heap.get? b = some o→h'.get? b = some o)→s.heap.objs.size ≤ b→h'.get? b = some (seqObj "list" out e)→out.toList.Perm vs→(out.toList.map k1).Pairwise (· ≤ ·)→Q (.ref b) { s with heap:=h' }) :
  wpAny (model prog w) A (call (.builtin "sorted") [.ref l]) Q E s:=by
 have hz:vs.length ≤ sizeLine:=Nat.le_trans (Nat.le_of_lt h128) (by decide)
 refine call_function_entry kind_sorted plain_sorted entry_sorted (args_sorted1 _) ?_
 unfold Builtin.«sorted»
 refine wpAny_bind (m:=checkCount "sorted" 1 1 _) (wpAny_pure ?_)
 refine wpAny_bind (collect_list hl ?_ hz)
 refine wpAny_bind (wpAny_newList ?_ hz)
 generalize hH:(s.heap.push (seqObj "list" #[] 0)).update s.heap.objs.size (Obj.mapSeq (·++vs.toArray)) = H
 have hk:∀ b o,s.heap.get? b = some o→H.get? b = some o:=fun b o e=>by
  rw [← hH,Heap.get?_update_other _ _ (Nat.ne_of_gt (Heap.lt_size e))]
  exact Heap.get?_push_of_some _ e
 have ho:(H.push { cls:=.type "list",data:=.seq vs.toArray }).get? H.objs.size = some (seqObj "list" vs.toArray 0):=Heap.get?_push_size _ rfl
 refine wpAny_bind (wpAny_holding (wpAny_call_entry slot_list_sort ⟨_,ho,rfl⟩ entry_list_sort (Z60 ho hv nd h128 fun out a1 a2=>⟨_,rfl,?_⟩) (args_list_sort _)))
 obtain ⟨e,he⟩:=sortedHeap_at (out:=out) ho
 refine wpAny_pure ⟨_,rfl,h _ _ out e (fun b o q=>?_) (by rw [← hH,Heap.size_update,Heap.size_push]; exact Nat.le_succ _) he a1 a2⟩
 have hlt:=Heap.lt_size (hk b o q)
 rw [sortedHeap_old (Nat.ne_of_lt hlt) (by rw [Heap.size_push]; exact Nat.lt_succ_of_lt hlt)]
 exact Heap.get?_push_of_some _ (hk b o q)
end
end Mine
namespace Mine
open PySem PySem.Calls PyProof.Rows PySem.W
theorem Z3D (i:Nat):∀ l:List Nat,(insC i l).Perm (i :: l)
 | []=>.refl _
 | j :: r=>by
  show (if i ≤ j then i :: j :: r else j :: insC i r).Perm _
  by_cases h:i ≤ j
  ·rw [if_pos h]
  ·rw [if_neg h]; exact ((Z3D i r).cons j).trans (.swap i j r)
theorem Z3E (i:Nat):∀ l:List Nat,l.Pairwise (· ≤ ·)→(insC i l).Pairwise (· ≤ ·)
 | [],_=>List.pairwise_singleton _ _
 | j :: r,h=>by
  show (if i ≤ j then i :: j :: r else j :: insC i r).Pairwise _
  by_cases hij:i ≤ j
  ·rw [if_pos hij]
   exact .cons (fun a ha=>(List.mem_cons.mp ha).elim (fun e=>e ▸ hij) fun ha=>Nat.le_trans hij (List.rel_of_pairwise_cons h ha)) h
  ·rw [if_neg hij]
   exact .cons (fun a ha=>(List.mem_cons.mp ((Z3D i r).mem_iff.mp ha)).elim (fun e=>e ▸ Nat.le_of_not_le hij) (List.rel_of_pairwise_cons h)) (Z3E i r h.of_cons)
theorem Z17:∀ l:List Nat,(Z4o l).Perm l
 | []=>.refl _
 | i :: l=>(Z3D i (Z4o l)).trans ((Z17 l).cons i)
theorem Z1y:∀ l:List Nat,(Z4o l).Pairwise (· ≤ ·)
 | []=>.nil
 | i :: l=>Z3E i _ (Z1y l)
theorem Z56 {l ns:List Nat} (hp:ns.Perm l) (hs:ns.Pairwise (· ≤ ·)):ns = Z4o l :=
 List.Perm.eq_of_pairwise (fun a b _ _ h1 h2=>Nat.le_antisymm h1 h2) hs (Z1y l) (hp.trans (Z17 l).symm)
theorem Z9V {x:Str} {c:Nat} (h:x.cps.toList = [c]) (u:Tok):sgn (.str x u) = some c:=by
 show (match x.cps.toList with | [c]=>some c | _=>none) = some c
 rw [h]
theorem ZcM {x:Str} {c:Nat} (h:x.cps.toList = [c]) (u:Tok):k1 (.str x u) = c:=by
 unfold k1
 rw [Z9V h]; rfl
theorem Z57 {T:Addr→Prop} {μ:List Addr} {h:Heap}:∀ (vs:List Value),(∀ v ∈ vs,∃ c x u,v = .str x u∧x.cps.toList = [c]∧PyData.strOk x = true)→RepVs T μ h vs (Z0o (vs.map k1))
 | [],_=>.nil
 | v :: vs,hv=>by
  obtain ⟨c,x,u,e,ex,ok⟩:=hv v (List.mem_cons_self ..)
  have ek:[k1 v] = x.cps.toList:=by rw [e,ZcM ex,ex]
  refine .cons ?_ (Z57 vs fun v q=>hv v (List.mem_cons_of_mem _ q))
  show RepV _ _ _ v (.str [k1 v])
  rw [ek,e]
  exact .str x u ok (by rw [show x.length = x.cps.toList.length from rfl,ex]; exact (by decide:1 ≤ sizeLine))
theorem Z8S {T:Addr→Prop} {μ:List Addr} {h:Heap}:∀ {vs:List Value} {xs:List V} {l:List Nat},RepVs T μ h vs xs→Z3p xs = some l→vs.map k1 = l∧∀ v ∈ vs,∃ c x u,v = .str x u∧x.cps.toList = [c]∧PyData.strOk x = true:=by
 intro vs xs
 induction xs generalizing vs with
 | nil=>intro l r e; obtain rfl:=List.eq_nil_of_length_eq_zero r.length; exact ⟨Option.some.inj e,fun _ q=>by cases q⟩
 | cons x xs ih=>
  intro l r e
  obtain ⟨v,vs,rfl,rv,r⟩:=r.consI
  refine bnd (o:=x.str?.bind oneC) e fun c ec e=>bnd (o:=Z3p xs) e fun l' el e=>bnd (o:=x.str?) ec fun s es ec=>?_
  obtain ⟨h1,h2⟩:=ih r el
  have hs:s = [c]:=by
   cases s with
   | nil=>cases ec
   | cons a s=>cases s with
    | nil=>exact congrArg (fun z=>[z]) (Option.some.inj ec)
    | cons _ _=>cases ec
  obtain ⟨z,t,rfl,q1,q2,_⟩:=(Z1r es ▸ rv).str_inv
  have ek:k1 (.str z t) = c:=ZcM (q1.trans hs) t
  exact ⟨by rw [List.map_cons,ek,h1]; exact Option.some.inj e,fun v q=>(List.mem_cons.mp q).elim (fun e=>⟨c,z,t,e,q1.trans hs,q2⟩) (h2 v)⟩
end Mine
namespace Mine
open PySem PySem.Calls PyProof.Rows
section
variable {c:Cx} {st:St} {μ:List Addr} {s:Shared} {u v:Value}
theorem Z6T (I:Inv c st μ s.heap) {a b:Addr} {vs ws:Array Value} {xs ys:List V} (hl:s.heap.IsList a vs) (r:RepVs (Tr st.σ μ) μ s.heap vs.toList xs) (hl':s.heap.IsList b ws)
  (r':RepVs (Tr st.σ μ) μ s.heap ws.toList ys) (hz:xs.length + ys.length ≤ sizeLine):Sim c (binaryOp .Add (.ref a) (.ref b)) (.ok (.lst (xs++ys)) st) rV st.σ μ s:=by
 obtain ⟨⟨cls,dd,data,sl⟩,ho,hc,n,hd⟩:=id hl
 obtain ⟨⟨cls2,dd2,data2,sl2⟩,ho2,hc2,n2,hd2⟩:=id hl'
 simp only at hc hd hc2 hd2
 try clear data2; try clear data
 subst hc hd hc2 hd2
 have e1:=r.length
 have e2:=r'.length
 have hz':vs.size + ws.size ≤ sizeLine:=by simp at e1 e2; lia
 refine Sim.leaf I (concat_meets ⟨_,ho,rfl⟩ ⟨_,ho2,rfl⟩ noFill_list_add seq_list_add PySem.F.slot_list_add PySem.F.entry_list_add (PySem.F.args_list_add_2 _ _) (list_addW a b vs ws n n2 dd dd2 sl sl2 hz') ⟨ho,ho2,?_⟩)
 refine ⟨.push _,.refl,?_⟩
 have e3:vs++ws = (vs.toList++ws.toList).toArray:=by simp
 rw [e3]
 exact Z1d I (r.append r') (by simpa using hz')
theorem RepVs.times {T:Addr→Prop} {h:Heap} {vs:List Value} {xs:List V} (r:RepVs T μ h vs xs):∀ k:Nat,RepVs T μ h (List.replicate k vs).flatten (List.replicate k xs).flatten
 | 0=>.nil
 | k + 1=>by rw [List.replicate_succ,List.replicate_succ,List.flatten_cons,List.flatten_cons]; exact r.append (r.times k)
theorem Z6U (I:Inv c st μ s.heap) {a:Addr} {vs:Array Value} {xs:List V} {k:Int} {t:Tok} (hl:s.heap.IsList a vs) (r:RepVs (Tr st.σ μ) μ s.heap vs.toList xs) (h0:0 ≤ k) (h1:k < 64) (hz:xs.length * k.toNat ≤ sizeLine) :
  Sim c (binaryOp .Mult (.ref a) (.int k t)) (.ok (.lst (List.replicate k.toNat xs).flatten) st) rV st.σ μ s:=by
 obtain ⟨⟨cls,dd,data,sl⟩,ho,hc,n,hd⟩:=id hl
 simp only at hc hd
 try clear data
 subst hc hd
 have e1:=r.length
 have hz':vs.size * k.toNat ≤ 2 ^ 24:=by rw [Array.length_toList] at e1; rw [e1]; exact hz
 refine Sim.leaf I (wpAny_binaryOp_repeat_ref (T:="list") (U:="int") (by decide) ⟨_,ho,rfl⟩ (fun s'=>typeIs_int s' k t) noFill_list_mul PySem.F.fills_int_mul PySem.F.slot_int_rmul repeat_list PySem.F.slot_int_index.lookup
  (call_meets PySem.F.slot_int_rmul (typeIs_int s k t) PySem.F.entry_int_rmul (PySem.F.args_int_rmul_2 _ _) (lm_int_rmul_list_any k t a vs n dd sl)
   ⟨ho,rfl,⟨_,ho,rfl⟩,call_meets PySem.F.slot_list_mul ⟨_,ho,rfl⟩ PySem.F.entry_list_mul (PySem.F.args_list_mul_2 _ _)
    (lm_list_mul_any a vs n dd sl k t (by simp [Builtin.List.listFitsIndex]; omega) (by omega) (by simp [Builtin.List.listTooLong,sizeLine]; omega)) ⟨ho,?_⟩⟩))
 refine ⟨.push _,.refl,?_⟩
 rw [listMul_foldl_if]
 refine Z1d I (r.times _) ?_
 rw [(r.times k.toNat).length,List.length_flatten,List.map_replicate,List.sum_replicate_nat,Nat.mul_comm]
 exact hz
theorem Z64 (a:Array Nat):∀ (n:Nat) (b:Array Nat),((List.replicate n a).foldl (·++·) b).toList = b.toList++(List.replicate n a.toList).flatten
 | 0,b=>by rw [List.replicate_zero,List.replicate_zero,List.foldl_nil,List.flatten_nil,List.append_nil]
 | n + 1,b=>by rw [List.replicate_succ,List.replicate_succ,List.foldl_cons,Z64 a n,Array.toList_append,List.flatten_cons,List.append_assoc]
theorem Z8T (I:Inv c st μ s.heap) {x:Str} {t t':Tok} {k:Int} (h1:PyData.strOk x = true) (h2:x.length ≤ sizeLine) (hk:2 ≤ k) (hk2:k < 128) (hz:x.cps.toList.length * k.toNat ≤ sizeLine) :
  Sim c (binaryOp .Mult (.str x t) (.int k t')) (.ok (.str (List.replicate k.toNat x.cps.toList).flatten) st) rV st.σ μ s:=by
 have hl:x.cps.toList.length = x.length:=by simp [Str.length]
 have hsz:sizeLine ≤ 2 ^ 24:=by decide
 have hr:(decide (k < -(2 ^ 63:Int)) || decide (k ≥ 2 ^ 63)) = false:=by simp; lia
 have e2:¬ k < 1:=by lia
 by_cases h0:x.length = 0
 ·have he:(List.replicate k.toNat x.cps.toList).flatten = x.cps.toList:=by
   rw [List.eq_nil_of_length_eq_zero (hl.trans h0)]
   simp
  rw [he]
  refine Z1I I (.str x t h1 h2) fun Q hq=>P.mul_str hr (fun _ e=>?_) (fun _ e=>?_) ?_
  ·simp [h0] at e
  ·simp [h0] at e
  ·rw [if_neg e2,if_pos (by simp [h0])]
   exact hq _
 ·have hc:(⟨(List.replicate k.toNat x.cps).foldl (·++·) #[]⟩:Str).cps.toList = (List.replicate k.toNat x.cps.toList).flatten:=Z64 x.cps k.toNat #[]
  have hlen:(⟨(List.replicate k.toNat x.cps).foldl (·++·) #[]⟩:Str).length ≤ sizeLine:=by
   have:(⟨(List.replicate k.toNat x.cps).foldl (·++·) #[]⟩:Str).length = (List.replicate k.toNat x.cps.toList).flatten.length:=by rw [← hc]; simp [Str.length]
   rw [this,List.length_flatten,List.map_replicate,List.sum_replicate_nat,Nat.mul_comm]
   exact hz
  refine Z2d (x:=⟨(List.replicate k.toNat x.cps).foldl (·++·) #[]⟩) I ?_ hlen hc fun Q hq=>P.mul_str hr (fun _ e=>?_) (fun _ e=>?_) ?_
  ·unfold PyData.strOk at h1 ⊢
   rw [Array.all_eq_true_iff_forall_mem] at h1 ⊢
   intro a ha
   rw [← Array.mem_toList_iff,show ((List.replicate k.toNat x.cps).foldl (·++·) #[]).toList = _ from hc,List.mem_flatten] at ha
   obtain ⟨l,hl,ha⟩:=ha
   rw [List.eq_of_mem_replicate hl] at ha
   exact h1 a (Array.mem_toList_iff.mp ha)
  ·have h3:x.length * k.toNat ≤ sizeLine:=hl ▸ hz
   have h4:(x.length:Int) * k = ((x.length * k.toNat:Nat):Int):=by rw [Int.natCast_mul,Int.toNat_of_nonneg (by lia)]
   exact Int.not_lt.mpr (Int.le_ediv_of_mul_le (by lia) (by rw [h4]; have:=Nat.le_trans h3 hsz; lia))
  ·exact decide_eq_false (Nat.not_lt.mpr (hl ▸ hz))
  ·rw [if_neg e2,if_neg (by simp; lia)]
   exact ⟨hlen,hq _ _⟩
noncomputable def tyN:Ty→String
 | .int=>"int"
 | .bool=>"bool"
 | .list=>"list"
 | .tuple=>"tuple"
 | .str=>"str"
theorem ZbG (I:Inv c st μ s.heap) {x:V} (rx:RepV (Tr st.σ μ) μ s.heap u x) (ty:Ty) :
  Sim c (call (.builtin "isinstance") [u,.type (tyN ty)]) (R.lift ((Zdc st.σ ty x).map V.bool) st) rV st.σ μ s:=by
 have none_no:∀ T:String,(Value.type "NoneType" == Value.type T) = false→typeOf (.type T) = pure (.type "type")→isSubtype (.type "NoneType") (.type T) = pure false→u = .none →
   Sim c (call (.builtin "isinstance") [u,.type T]) (.ok (.bool false) st) rV st.σ μ s:=by
  rintro T h1 h2 h3 rfl
  exact Z05 I fun Q hq=>call_isinstance (isinstance_false_none h1 h2 h3) (hq _)
 try clear h3; try clear T; try clear none_no
 cases x
 ·cases ty
  ·obtain rfl:=rx.none_inv; exact Z05 I fun Q hq=>IsiPair.NoneType_int (hq _)
  ·obtain rfl:=rx.none_inv; exact Z05 I fun Q hq=>IsiPair.NoneType_bool (hq _)
  ·obtain rfl:=rx.none_inv; exact Z05 I fun Q hq=>IsiPair.NoneType_list (hq _)
  ·obtain rfl:=rx.none_inv; exact Z05 I fun Q hq=>IsiPair.NoneType_tuple (hq _)
  ·obtain rfl:=rx.none_inv; exact Z05 I fun Q hq=>IsiPair.NoneType_str (hq _)
 ·obtain rfl:=rx.bool_inv
  cases ty <;> try trivial
  ·exact Z05 I fun Q hq=>IsiPair.bool_int (hq _)
  ·exact Z05 I fun Q hq=>IsiPair.bool_bool (hq _)
 ·refine El.x1_1 rx.int_inv fun t q3z=>?_
  obtain rfl:=q3z
  cases ty <;> try trivial
  ·exact Z05 I fun Q hq=>IsiPair.int_int (hq _)
  ·exact Z05 I fun Q hq=>IsiPair.int_bool (hq _)
 ·refine El.x2_4 rx.str_inv fun x t q4z q5z h1 h2=>?_
  try clear x; try clear q3z; try clear t; try clear h2; try clear h1
  obtain rfl:=q4z
  try clear q4z
  obtain rfl:=q5z
  cases ty <;> try trivial
  ·exact Z05 I fun Q hq=>IsiPair.str_int (hq _)
  ·exact Z05 I fun Q hq=>IsiPair.str_bool (hq _)
  ·exact Z05 I fun Q hq=>IsiPair.str_str (hq _)
 ·refine El.x2_4 rx.tup_inv fun a vs q6z q7z hz r=>?_
  try clear q5z
  obtain rfl:=q6z
  refine El.x1_3 q7z fun o ho hc _=>?_
  cases ty <;> try trivial
  ·exact Z05 I fun Q hq=>IsiPair.tuple_int ho hc (hq _)
  ·exact Z05 I fun Q hq=>IsiPair.tuple_bool ho hc (hq _)
  ·exact Z05 I fun Q hq=>IsiPair.tuple_list ho hc (hq _)
  ·exact Z05 I fun Q hq=>IsiPair.tuple_tuple ho hc (hq _)
 ·refine El.x2_4 rx.lst_inv fun a vs q8z q9z hz r=>?_
  try clear q7z; try clear q6z
  obtain rfl:=q8z
  refine El.x1_3 q9z fun o ho hc _=>?_
  cases ty <;> try trivial
  ·exact Z05 I fun Q hq=>IsiPair.list_int ho hc (hq _)
  ·exact Z05 I fun Q hq=>IsiPair.list_bool ho hc (hq _)
  ·exact Z05 I fun Q hq=>IsiPair.list_list ho hc (hq _)
  ·exact Z05 I fun Q hq=>IsiPair.list_tuple ho hc (hq _)
 ·rename_i n
  cases ty <;> try trivial
  show Sim c _ (R.lift ((match st.σ[n]? with | some (.lst _)=>some true | _=>none:Option Bool).map V.bool) st) _ _ _ _
  split
  ·rename_i hn
   refine El.x2_4 (I.ref_inv rx hn) fun a vs q10z hl hz r=>?_
   try clear q9z; try clear q8z; try clear r; try clear hz; try clear vs; try clear a
   obtain rfl:=q10z
   refine El.x1_3 hl.isList fun o ho hc _=>?_
   exact Z05 I fun Q hq=>IsiPair.list_list ho hc (hq _)
  ·trivial
 ·trivial
noncomputable def biV:Bi→Value
 | .len=>.builtin "len"
 | .int=>.type "int"
 | .list=>.type "list"
 | .sorted=>.builtin "sorted"
theorem Z9W {T:Addr→Prop} {h:Heap} {x:Str} (hx:PyData.strOk x = true) {acc:Array Value} (hi:ItemsOf (SignAt x) acc x.cps.size):RepVs T μ h acc.toList (x.cps.toList.map fun c=>V.str [c]):=by
 refine RepVs.of_get (by rw [Array.length_toList,hi.1,List.length_map,Array.length_toList]) fun i v y hv hy=>?_
 rw [Array.getElem?_toList] at hv
 refine El.x2_2 (hi.2 i v hv) fun d u hd q11z=>?_
 try clear hv; try clear y; try clear v; try clear i
 obtain rfl:=q11z
 rw [List.getElem?_map,Array.getElem?_toList,hd] at hy
 try clear q11z
 cases hy
 refine .str ⟨#[d]⟩ u ?_ (by show (1:Nat) ≤ sizeLine; decide)
 unfold PyData.strOk at hx ⊢
 rw [Array.all_eq_true_iff_forall_mem] at hx ⊢
 intro b hb
 have:b = d:=by simpa using hb
 exact this ▸ hx d (Array.mem_of_getElem? hd)
theorem Z88 (I:Inv c st μ s.heap) {a:Addr} {vs:Array Value} {xs:List V} (hl:s.heap.IsList a vs) (hz:vs.size ≤ sizeLine) (r:RepVs (Tr st.σ μ) μ s.heap vs.toList xs):Sim c (call (.builtin "len") [.ref a]) (.ok (.int xs.length) st) rV st.σ μ s:=by
 refine Z0u I fun Q hq=>call_len_list hl (Z11 hz) ?_
 rw [← Array.length_toList,r.length]; exact hq _ _
theorem ZdF (I:Inv c st μ s.heap) {x:V} (rx:RepV (Tr st.σ μ) μ s.heap u x):Sim c (call (.builtin "len") [u]) (R.lift (Z4p st.σ .len x) st) rV st.σ μ s :=
 Sim.lift fun z h=>Z0m h (fun l el h=>El.x2_4 (RepV.str_inv (Z1r el ▸ rx)) fun y t q q2 h1 h2=>by
  rw [q,← Option.some.inj h,← q2,Array.length_toList]
  exact Z0u I fun Q hq=>P.len_str (by have:=Z11 h2; lia) (hq _ _)) fun h=>Z0m h (fun l el h=>El.x2_4 (RepV.tup_inv (Z9p el ▸ rx)) fun a vs q hl hz r=>by
  rw [q,← Option.some.inj h,← r.length,Array.length_toList]
  exact Z0u I fun Q hq=>PyProof.Rows.len_tuple hl (Z11 hz) (hq _ _)) fun h=>Z0m h (fun l el h=>El.x2_4 (RepV.lst_inv (Z2Z el ▸ rx)) fun a vs q hl hz r=>by
  rw [q,← Option.some.inj h]; exact Z88 I hl hz r) fun h=>bnd h fun n hn h=>bnd h fun l el h=>El.x2_4 (I.ref_inv (Z29 hn ▸ rx) (Z0P el)) fun a vs q hl hz r=>by
  rw [q,← Option.some.inj h]; exact Z88 I hl.isList hz r
theorem ZbH (ok:CxOk c) (I:Inv c st μ s.heap) {x:V} (rx:RepV (Tr st.σ μ) μ s.heap u x):Sim c (call (biV .list) [u]) (R.lift (Z4p st.σ .list x) st) rV st.σ μ s :=
 Sim.lift fun z h=>Z0m h (fun l el h=>El.x4_7 (RepV.lstI (Z2Z el ▸ rx)) fun a o vs n e9 ho hc hd hz hT r=>by
  rw [e9,← Option.some.inj h]
  exact Sim.leaf I (Z04 (call_list_seq a (.inl rfl) ho hc hd (fun h' c' hk hn hs=>⟨⟨hs,hk⟩,⟨rfl,rfl,rfl⟩,.lst hn rfl rfl hz (fun q=>Nat.lt_irrefl _ (I.lt _ q.mem)) (r.ext ⟨hs,hk⟩)⟩) hz))) fun h=>bnd h fun l el h=>El.x2_4 (RepV.str_inv (Z1r el ▸ rx)) fun y t q q2 h1 h2=>by
  rw [q,← Option.some.inj h,← q2]
  exact Sim.leaf I (Z04 (call_list_str ok.hh y t (fun h' tk acc c' hk hn hit hs=>⟨⟨hs,hk⟩,⟨rfl,rfl,rfl⟩,.lst hn rfl rfl (by rw [hit.1]; exact h2) (fun q=>Nat.lt_irrefl _ (I.lt _ q.mem)) (Z9W h1 hit)⟩) h2))
theorem Z8U (ok:CxOk c) (I:Inv c st μ s.heap) {x:V} (rx:RepV (Tr st.σ μ) μ s.heap u x):Sim c (call (biV .sorted) [u]) (R.lift (Z4p st.σ .sorted x) st) rV st.σ μ s :=
 Sim.lift fun z h=>bnd h fun n hn h=>bnd h fun xs ee h=>bnd h fun l el h=>Z0Q h fun hc h=>El.x2_4 (I.ref_inv (Z29 hn ▸ rx) (Z0P ee)) fun a vs q hl hz r=>by
  rw [q,← Option.some.inj h]
  obtain ⟨k1,k2⟩:=Z8S r el
  have hlen:vs.toList.length = l.length:=by rw [← k1,List.length_map]
  refine Sim.leaf I (Z04 (Z3d (vs:=vs.toList) hl.isList (fun v q=>?_) (k1 ▸ hc.1) (hlen ▸ hc.2) fun h' b out e hk' hb ho hp hs hz=>⟨⟨hz,hk'⟩,⟨rfl,rfl,rfl⟩,?_⟩))
  ·obtain ⟨c,x,u,rfl,ex,_⟩:=k2 v q
   exact ⟨c,Z9V ex u⟩
  ·rw [← Z56 (k1 ▸ hp.map _) hs]
   have r':=Z57 (T:=Tr st.σ μ) (μ:=μ) (h:=h') out.toList fun v q=>k2 v (hp.mem_iff.mp q)
   refine .lst ho rfl rfl ?_ (fun q=>Nat.lt_irrefl _ (Nat.lt_of_lt_of_le (I.lt _ q.mem) hb)) r'
   rw [← Array.length_toList,hp.length_eq,hlen]; exact Nat.le_trans (Nat.le_of_lt hc.2) (by decide)
theorem ZeM (ok:CxOk c) (I:Inv c st μ s.heap) {x:V} (rx:RepV (Tr st.σ μ) μ s.heap u x) (f:Bi):Sim c (call (biV f) [u]) (R.lift (Z4p st.σ f x) st) rV st.σ μ s:=by
 cases f
 ·exact ZdF I rx
 ·cases x <;> try trivial
  ·obtain rfl:=rx.bool_inv; exact Z0u I fun Q hq=>call_int_bool (hq _ _)
  ·obtain ⟨t,rfl⟩:=rx.int_inv; exact Z0u I fun Q hq=>call_int_int (hq _ _)
 ·exact ZbH ok I rx
 ·exact Z8U ok I rx
theorem Z89:∀ (l:List Str) (i:Array Nat),(l.foldl (fun acc p=>acc++(#[]:Array Nat)++p.cps) i).toList = i.toList++(l.map (fun y=>y.cps.toList)).flatten
 | [],i=>by simp
 | y :: l,i=>by simp only [List.foldl_cons]; rw [Z89 l]; simp
theorem Z8a (ys:List Str):(Txt.join ⟨#[]⟩ ys).cps.toList = (ys.map (fun y=>y.cps.toList)).flatten:=by
 show ((ys.drop 1).foldl (fun acc p=>acc++(#[]:Array Nat)++p.cps) (ys.headD Str.empty).cps).toList = _
 rw [Z89]
 cases ys with
 | nil=>rfl
 | cons y r=>simp
noncomputable def meN:Me→String
 | .join=>"str.join"
 | .append=>"list.append"
theorem Z9X {σ:List O} {n:Nat} {o o':O} {b:Addr} (e:σ[n]? = some o) (h1:o.live = true) (h2:o'.live = true):Tr (σ.set n o') μ b↔Tr σ μ b:=by
 have hlt:n < σ.length:=(List.getElem?_eq_some_iff.mp e).1
 constructor
 ·intro q21z
  refine El.x2_3 q21z fun k q e1 e2 e3=>?_
  by_cases hk:n = k
  ·try clear q21z
   subst hk; exact ⟨n,o,e,h1,e3⟩
  ·rw [List.getElem?_set_ne hk] at e1; exact ⟨k,q,e1,e2,e3⟩
 ·intro q22z
  refine El.x2_3 q22z fun k q e1 e2 e3=>?_
  by_cases hk:n = k
  ·try clear q22z
   subst hk; exact ⟨n,o',by simp [hlt],h2,e3⟩
  ·exact ⟨k,q,by rw [List.getElem?_set_ne hk]; exact e1,e2,e3⟩
noncomputable def UpdAt (a:Addr) (h h':Heap):Prop:=h.objs.size ≤ h'.objs.size∧∀ b o,b ≠ a→h.get? b = some o→h'.get? b = some o
theorem UpdAt.of {a:Addr} {h h':Heap} (hs:Heap.SameBut a h h'):UpdAt a h h':=⟨Nat.le_of_eq hs.1.symm,fun b o hb e=>(hs.2 b hb).trans e⟩
theorem Inv.upd {h h':Heap} (I:Inv c st μ h) {n:Nat} {o o':O} {a:Addr} (e:st.σ[n]? = some o) (ha:μ[n]? = some a) (h1:o.live = true) (h2:o'.live = true) (hs:UpdAt a h h')
  (hr:RepO (Tr st.σ μ) μ h' a o') (hnp:o ≠ .priv) (hk:Hk c.w o'):Inv c ⟨st.ρ,st.σ.set n o'⟩ μ h'∧Stp c st.σ μ h (st.σ.set n o') μ h':=by
 have tr:∀ b,Tr (st.σ.set n o') μ b↔Tr st.σ μ b:=fun b=>Z9X e h1 h2
 have trE:Tr (st.σ.set n o') μ = Tr st.σ μ:=funext fun b=>propext (tr b)
 have ta:Tr st.σ μ a:=⟨n,o,e,h1,ha⟩
 have S:Stp c st.σ μ h (st.σ.set n o') μ h':=⟨hs.1,fun b ob q _ hT=>hs.2 b ob (fun (k:b = a)=>hT (k ▸ ta)) q,fun _ _ q=>q,fun b q=>.inl ((tr b).mp q),fun _ q=>.inl q,Z5O e hnp,fun k b ob e1 e2 e3=>hs.2 b ob (fun x=>by
  have:n = k:=(List.getElem?_inj (List.getElem?_eq_some_iff.mp ha).1 I.nd).mp (ha.trans (x ▸ e2.symm))
  try clear ta; try clear tr
  subst this; rw [e] at e1; exact hnp (Option.some.inj e1)) e3⟩
 have mv:∀ {v:Value} {x:V},RepV (Tr st.σ μ) μ h v x→RepV (Tr st.σ μ) μ h' v x:=fun r=>by
  have:=r.step (st':=⟨st.ρ,st.σ.set n o'⟩) I S
  dsimp only at this
  rwa [trE] at this
 have mvs:∀ {v:List Value} {x:List V},RepVs (Tr st.σ μ) μ h v x→RepVs (Tr st.σ μ) μ h' v x:=fun r=>by
  have:=r.step (st':=⟨st.ρ,st.σ.set n o'⟩) I S
  dsimp only at this
  rwa [trE] at this
 have own:∀ b,Own c b→b ≠ a:=fun b q k=>I.sep b q (k ▸ List.mem_of_getElem? ha)
 refine ⟨⟨fun i x q=>?_,fun i sl q=>?_,fun k ob q=>?_,by simpa using I.len,I.nd,fun b q=>Nat.lt_of_lt_of_le (I.lt b q) hs.1,fun b ob q=>?_,I.baseS,I.baseM,I.sep,Z9m I.kd hk⟩,S⟩
 ·refine El.x2_3 (I.vars i x q) fun sl v g1 g2 g3=>?_
  dsimp only
  rw [trE]
  exact ⟨sl,v,g1,g2.keeps fun ob k=>hs.2 _ _ (own _ ⟨i,sl,g1,rfl⟩) k,mv g3⟩
 ·exact (I.slots i sl q).keeps fun ob k=>hs.2 _ _ (own _ ⟨i,sl,q,rfl⟩) k
 ·dsimp only at q ⊢
  rw [trE]
  have hlt:n < st.σ.length:=(List.getElem?_eq_some_iff.mp e).1
  by_cases hk:n = k
  ·try clear g3; try clear g2; try clear g1; try clear v; try clear sl; try clear x; try clear i; try clear own; try clear mv; try clear S; try clear trE
   subst hk
   have:o' = ob:=by simpa [hlt] using q
   try clear hlt
   subst this
   exact ⟨a,ha,hr⟩
  ·rw [List.getElem?_set_ne hk] at q
   refine El.x1_2 (I.objs k ob q) fun b hb rb=>?_
   have hne:b ≠ a:=fun h=>hk ((List.getElem?_inj (List.getElem?_eq_some_iff.mp ha).1 I.nd).mp (ha.trans (h ▸ hb.symm)))
   refine ⟨b,hb,?_⟩
   exact rb.map (fun _ ho=>(hs.2 b _ hne ho)) fun _ _ r=>(mvs r)
 ·refine hs.2 b ob (fun k=>?_) (I.base b ob q)
  have:=I.baseM a (List.mem_of_getElem? ha)
  rw [k,this] at q; cases q
theorem Inv.updL {h h':Heap} (I:Inv c st μ h) {n:Nat} {xs xs':List V} {a:Addr} {vs:Array Value} {k:Nat} (hn:st.σ[n]? = some (.lst xs)) (ha:μ[n]? = some a) (hs:Heap.SameBut a h h')
  (ho:h'.get? a = some { cls:=.type "list",data:=.seq vs k }) (hz:vs.size ≤ sizeLine) (r:RepVs (Tr st.σ μ) μ h vs.toList xs'):Inv c ⟨st.ρ,st.σ.set n (.lst xs')⟩ μ h'∧Stp c st.σ μ h (st.σ.set n (.lst xs')) μ h':=by
 have tE:Tr (st.σ.set n (.lst xs)) μ = Tr st.σ μ:=funext fun b=>propext (Z9X hn rfl rfl)
 have S:Stp c st.σ μ h (st.σ.set n (.lst xs)) μ h' :=
  ⟨Nat.le_of_eq hs.1.symm,fun b ob q _ hT=>(hs.2 b (fun (k:b = a)=>hT (k ▸ ⟨n,_,hn,rfl,ha⟩))).trans q,fun _ _ q=>q,fun b q=>.inl (by rwa [tE] at q),fun _ q=>.inl q,Z5O hn (by simp),fun k b ob e1 e2 e3=>(hs.2 b fun x=>by
   have:n = k:=(List.getElem?_inj (List.getElem?_eq_some_iff.mp ha).1 I.nd).mp (ha.trans (x ▸ e2.symm))
   subst this; rw [hn] at e1; cases e1).trans e3⟩
 have r1:=r.step (st':=⟨st.ρ,st.σ.set n (.lst xs)⟩) I S
 dsimp only at r1
 rw [tE] at r1
 exact I.upd hn ha rfl rfl (.of hs) (.lst ho hz r1) (by simp) trivial
theorem Sim.ok {α β:Type} {c:Cx} {t:Sem α} {m:R β} {rel:St→List Addr→Heap→α→β→Prop} {σ:List O} {μ:List Addr} {s:Shared} (h:∀ b st',m = .ok b st'→Sim c t (.ok b st') rel σ μ s):Sim c t m rel σ μ s:=by
 cases m with
 | stuck=>trivial
 | exc x st=>trivial
 | ok b st'=>exact h b st' rfl
theorem ZdG {ys:List Str} (h:∀ y ∈ ys,PyData.strOk y = true):PyData.strOk (Txt.join ⟨#[]⟩ ys) = true:=by
 unfold PyData.strOk
 rw [Array.all_eq_true_iff_forall_mem]
 intro b hb
 rw [← Array.mem_toList_iff,Z8a ys] at hb
 refine El.x1_2 (List.mem_flatten.mp hb) fun w hw hb'=>?_
 refine El.x1_2 (List.mem_map.mp hw) fun y hy e=>?_
 have:=h y hy
 unfold PyData.strOk at this
 rw [Array.all_eq_true_iff_forall_mem] at this
 exact this b (by rw [← Array.mem_toList_iff,e]; exact hb')
theorem ZbI (I:Inv c st μ s.heap) {x y:V} (rx:RepV (Tr st.σ μ) μ s.heap u x) (ry:RepV (Tr st.σ μ) μ s.heap v y):Sim c (call (.builtin (meN .join)) [u,v]) (Z9o x y st) rV st.σ μ s :=
 Sim.ok fun r stF h=>Z0j h fun l0 e0 h=>Z0j h fun xs ex h=>Z0j h fun l el h=>Z6D h fun hc h=>El.x2_4 (RepV.str_inv (Z1r e0 ▸ rx)) fun a t q1 q2 _ _=>El.x2_4 (Z9y I ry ex) fun b vs q3 hl hz r=>El.x1_3 (Z4B r el) fun ys g1 g2 g3=>by
  rw [ok1 h,ok2 h,q1,q3,show a = ⟨#[]⟩ from congrArg Str.mk (Array.toList_inj.mp (q2.trans hc.1))]
  have hj:=Z8a ys
  refine Z2d (x:=Txt.join ⟨#[]⟩ ys) I (ZdG g3) ?_ (by rw [hj,g2]) fun Q hq=>join_list hl g1 ?_ hq
  ·show (Txt.join ⟨#[]⟩ ys).cps.size ≤ sizeLine
   rw [← Array.length_toList,hj,g2]; exact hc.2
  ·have e1:(ys.map (·.length)).sum = l.flatten.length:=by
    rw [← g2,List.length_flatten,List.map_map]
    rfl
   rw [e1]
   show _ + ys.length * 0 ≤ 16777216
   rw [Nat.mul_zero,Nat.add_zero]
   exact hc.2
theorem ZdH (I:Inv c st μ s.heap) {x y:V} (rx:RepV (Tr st.σ μ) μ s.heap u x) (ry:RepV (Tr st.σ μ) μ s.heap v y):Sim c (call (.builtin (meN .append)) [u,v]) (ZcH x y st) rV st.σ μ s :=
 Sim.ok fun r stF h=>Z0j h fun n en h=>Z0j h fun xs ex h=>Z6D h fun hc h=>El.x2_4 (I.ref_inv (Z29 en ▸ rx) (Z0P ex)) fun a vs q hl hz r=>by
  rw [ok1 h,ok2 h]
  rw [Z29 en,q] at rx
  rw [q]
  have hs:(vs.push v).size ≤ sizeLine:=by rw [Array.size_push,← Array.length_toList,r.length]; exact hc
  refine wpAny_list_append_plain hl (fun h' hl' hs'=>?_) hz
  refine El.x1_1 hl' fun k ho=>?_
  refine El.x0_2 (I.updL (xs':=xs++[y]) (Z0P ex) rx.refA hs' ho hs (by rw [Array.toList_push]; exact r.append (.cons ry .nil))) fun I' S=>?_
  exact ⟨μ,.none,I',S,.refl⟩
theorem ZcN (I:Inv c st μ s.heap) {x y:V} (rx:RepV (Tr st.σ μ) μ s.heap u x) (ry:RepV (Tr st.σ μ) μ s.heap v y) (m:Me) :
  Sim c (call (.builtin (meN m)) [u,v]) (Z1p m x y st) rV st.σ μ s:=by
 cases m
 ·exact ZbI I rx ry
 ·exact ZdH I rx ry
end
section
variable {c:Cx} {st:St} {μ:List Addr} {s:Shared} {u v:Value}
theorem Z9Y {t:Value→Value→Sem Value} {x y z:V} {k:Int→Int→Option V} (rx:RepV (Tr st.σ μ) μ s.heap u x) (ry:RepV (Tr st.σ μ) μ s.heap v y) (hz:onI x y k = some z) (h:∀ a b t1 t2,k a b = some z→Sim c (t (.int a t1) (.int b t2)) (.ok z st) rV st.σ μ s):Sim c (t u v) (.ok z st) rV st.σ μ s :=
 bnd hz fun i hi hz=>bnd hz fun j hj hz=>El.x1_1 (RepV.int_inv (Z0H hi ▸ rx)) fun t1 q1=>El.x1_1 (RepV.int_inv (Z0H hj ▸ ry)) fun t2 q2=>by
  rw [q1,q2]; exact h i j t1 t2 hz
theorem ZdI (I:Inv c st μ s.heap) {x y:V} (rx:RepV (Tr st.σ μ) μ s.heap u x) (ry:RepV (Tr st.σ μ) μ s.heap v y):Sim c (binaryOp (opM .add) u v) (R.lift (Z2Y x y) st) rV st.σ μ s :=
 Sim.lift fun z h=>Z0m h (fun a ha h=>bnd h fun b hb h=>El.x1_1 (RepV.int_inv (Z0H ha ▸ rx)) fun t1 q1=>El.x1_1 (RepV.int_inv (Z0H hb ▸ ry)) fun t2 q2=>by
  rw [q1,q2,← Option.some.inj h]; exact Z0u I fun Q hq=>PyProof.Rows.add_int (hq _ _)) fun h=>Z0m h (fun a ha h=>bnd h fun b hb h=>Z0Q h fun hz h=>El.x2_4 (RepV.str_inv (Z1r ha ▸ rx)) fun x' t q1 q2 h1 h2=>El.x2_4 (RepV.str_inv (Z1r hb ▸ ry)) fun y' t' q3 q4 h1' h2'=>by
  rw [q1,q3,← Option.some.inj h]
  subst q2 q4
  exact Z2d (x:=x'++y') I (Z5V h1 h1') (by rw [Zdp]; exact hz) (Zdo _ _) fun Q hq=>PyProof.Rows.add_str hq hz) fun h=>bnd h fun a ha h=>bnd h fun b hb h=>Z0Q h fun hz h=>El.x2_4 (RepV.lst_inv (Z2Z ha ▸ rx)) fun a vs q1 hl _ r=>El.x2_4 (RepV.lst_inv (Z2Z hb ▸ ry)) fun b ws q2 hl' _ r'=>by
  rw [q1,q2,← Option.some.inj h]; exact Z6T I hl r hl' r' hz
theorem ZdJ (I:Inv c st μ s.heap) {x y:V} (rx:RepV (Tr st.σ μ) μ s.heap u x) (ry:RepV (Tr st.σ μ) μ s.heap v y):Sim c (binaryOp (opM .mul) u v) (R.lift (Z4x x y) st) rV st.σ μ s :=
 Sim.lift fun z h=>bnd h fun b hb h=>El.x1_1 (RepV.int_inv (Z0H hb ▸ ry)) fun t2 q2=>by
  rw [q2]
  exact Z0m h (fun a ha h=>Z0Q h fun hz h=>El.x1_1 (RepV.int_inv (Z0H ha ▸ rx)) fun t1 q1=>by
   rw [q1,← Option.some.inj h]
   exact Z0u I fun Q hq=>P.mul_int (hq _ _) ((Bool.or_eq_true_iff.mp hz).elim (fun h=>.of_left (Z3v h)) fun h=>.of_right (Z3v h))) fun h=>Z0m h (fun a ha h=>Z0Q h fun hz h=>El.x2_4 (RepV.str_inv (Z1r ha ▸ rx)) fun x' t q1 q3 h1 h2=>by
   rw [q1,← Option.some.inj h]
   subst q3
   exact Z8T I h1 h2 hz.1 hz.2.1 hz.2.2) fun h=>bnd h fun a ha h=>Z0Q h fun hz h=>El.x2_4 (RepV.lst_inv (Z2Z ha ▸ rx)) fun a vs q1 hl _ r=>by
   rw [q1,← Option.some.inj h]; exact Z6U I hl r hz.1 hz.2.1 hz.2.2
theorem Z9Z {γ:Type} {G:Prop} {d:γ} {c:Prop} [Decidable c] {m:Option γ} (h:(if c then none else m) = some d) (k:¬ c→m = some d→G):G:=by
 by_cases hc:c
 ·rw [if_pos hc] at h; cases h
 ·rw [if_neg hc] at h; exact k hc h
theorem ZdK (ok:CxOk c) (I:Inv c st μ s.heap) {x y:V} (rx:RepV (Tr st.σ μ) μ s.heap u x) (ry:RepV (Tr st.σ μ) μ s.heap v y) (op:Op) :
  Sim c (binaryOp (opM op) u v) (R.lift (Z3o op x y) st) rV st.σ μ s:=by
 cases op
 ·exact ZdI I rx ry
 ·exact Sim.lift fun z h=>Z9Y (t:=binaryOp (opM .sub)) rx ry h fun a b t1 t2 h=>Option.some.inj h ▸ Z0u I fun Q hq=>PyProof.Rows.sub_int (hq _ _)
 ·exact ZdJ I rx ry
 ·exact Sim.lift fun z h=>Z9Y (t:=binaryOp (opM .fdiv)) rx ry h fun a b t1 t2 h=>Z9Z h fun hn h=>Option.some.inj h ▸ Z0u I fun Q hq=>PyProof.Rows.floordiv_int hn (hq _ _) (.inr (ok.pyl s I.base))
 ·exact Sim.lift fun z h=>Z9Y (t:=binaryOp (opM .mod)) rx ry h fun a b t1 t2 h=>Z9Z h fun hn h=>Option.some.inj h ▸ Z0u I fun Q hq=>PyProof.Rows.mod_int hn (hq _ _)
end
end Mine
namespace Mine
open PySem
structure Gm where
 sc:Scope
 vm:List (Str × Nat)
 used:List Nat
 gs:List (Str × Int)
noncomputable def Z2E (x:Str):Bool:=!(x == ("__debug__":Str))
noncomputable def Gm.gl (g:Gm) (x:Str):Bool:=decide (g.sc.names.lookup x = some .globalImplicit) && Z2E x
noncomputable def Gm.lv (g:Gm) (x:Str) (i:Nat):Bool:=decide (g.vm.lookup x = some i) && Z2E x
noncomputable def Z1z (g:Gm) (n:Str) (k:NameKind):Bool:=k == .free && g.sc.kind == .function && g.sc.names.lookup n == some .cell
noncomputable def Z6V (g:Gm) (scope:Scope):Scope:={ scope with names:=scope.names.map fun (n,k)=>if Z1z g n k then (n,.cell) else (n,k) }
noncomputable def Gm.comp (g:Gm) (scope:Scope) (x:Str) (k:Nat):Gm :=
 ⟨Z6V g scope,(x,k) :: g.vm.filter fun p=>!(p.1 == x) && decide (scope.names.lookup p.1 = some .free) && decide (g.sc.names.lookup p.1 = some .cell),k :: g.used,g.gs⟩
noncomputable def Za0 (g:Gm) (scope:Scope) (x:Str) (k:Nat):Bool :=
 decide (scope.kind = .function) && decide (scope.names.lookup x = some .local) && (scope.names.all fun p=>!(p.2 == .cell)) && Z2E x &&
 !(g.used.contains k) && !(x == (".0":Str)) &&
 (scope.names.all fun p=>p.2 == .local || p.2 == .free || p.2 == .globalImplicit) && (scope.names.all fun p=>!(p.2 == .free) || g.sc.names.lookup p.1 == some .cell) &&
 ((scope.names.filter fun p=>(p.2 == .local || p.2 == .cell) && p.1 != (".0":Str)).map (·.1) == [x]) && decide ((scope.names.map (·.1)).Nodup)
noncomputable def Za1:Me→String
 | .join=>"join"
 | .append=>"append"
noncomputable def Za2:Bi→String
 | .len=>"len"
 | .int=>"int"
 | .list=>"list"
 | .sorted=>"sorted"
noncomputable def Z4F (f:Str):Bool:=!(f == Z0g) && !(f == Z0B)
structure Info where
 kids:List Expr
 nm:Str:=default
 k:Nat:=0
 sc:Scope:=default
 kp:Pos:=default
noncomputable def info (p:Expr):Info:=Expr.casesOn (motive_1:=fun _=>Info) p (fun _ vs _=>⟨vs,default,0,default,default⟩) (fun _ _ _=>⟨[],default,0,default,default⟩) (fun l _ r _=>⟨[l,r],default,0,default,default⟩) (fun _ x _=>⟨[x],default,0,default,default⟩)
 (fun _ _ _ _=>⟨[],default,0,default,default⟩) (fun t x y _=>⟨[t,x,y],default,0,default,default⟩) (fun _ _ _=>⟨[],default,0,default,default⟩) (fun _ _ _=>⟨[],default,0,default,default⟩) (fun e gs sc _=>⟨e :: (gs.map fun c=>c.target :: c.iter :: c.ifs).flatten,default,0,sc,default⟩) (fun _ _ _ _=>⟨[],default,0,default,default⟩) (fun _ _ _ _ _=>⟨[],default,0,default,default⟩)
 (fun _ _ _ _=>⟨[],default,0,default,default⟩) (fun _ _=>⟨[],default,0,default,default⟩) (fun _ _=>⟨[],default,0,default,default⟩) (fun _ _=>⟨[],default,0,default,default⟩) (fun l _ rs _=>⟨l :: rs,default,0,default,default⟩) (fun f as ks _=>⟨f :: (as++ks.map (·.value)),default,0,default,(ks.map (·.pos)).headD default⟩) (fun _ _ _ _=>⟨[],default,0,default,default⟩)
 (fun _ _=>⟨[],default,0,default,default⟩) (fun _ k _=>⟨[],default,k,default,default⟩) (fun o _ _=>⟨[o],default,0,default,default⟩) (fun v s _=>⟨[v,s],default,0,default,default⟩) (fun _ _=>⟨[],default,0,default,default⟩) (fun x _=>⟨[],x,0,default,default⟩) (fun xs _=>⟨xs,default,0,default,default⟩) (fun xs k _=>⟨xs,default,k,default,default⟩) (fun l u _ _=>⟨[l.getD default,u.getD default],default,0,default,default⟩)
noncomputable def kids (p:Expr):List Expr:=(info p).kids
noncomputable def kid (p:Expr) (i:Nat):Expr:=(kids p)[i]?.getD default
noncomputable def nmOf (p:Expr):Str:=(info p).nm
noncomputable def kOf (p:Expr):Nat:=(info p).k
noncomputable def scOf (p:Expr):Scope:=(info p).sc
noncomputable def ZfF (p:Expr):Pos:=(info p).kp
noncomputable def flat (p:Expr):Bool:=decide (2 < (kids p).length)
noncomputable def Z65 (op:BoolOp) (p:Expr):Expr:=.BoolOp op (kids p).tail p.pos
noncomputable def bop (op:BoolOp) (f:Bool) (a b b':Expr) (q:Pos):Expr:=.BoolOp op (a :: (if f then kids b else [b'])) q
mutual
noncomputable def pE:Ex→Expr→Expr
 | .none,p=>.Constant .none (kOf p) p.pos
 | .bool b,p=>.Constant (.bool b) (kOf p) p.pos
 | .int i,p=>.Constant (.int i) (kOf p) p.pos
 | .str x,p=>.Constant (.str x) (kOf p) p.pos
 | .loc _,p=>.Name (nmOf p) p.pos
 | .fz _,p=>.Name (nmOf p) p.pos
 | .bin op a b,p=>.BinOp (pE a (kid p 0)) (opM op) (pE b (kid p 1)) p.pos
 | .cmp op a b,p=>.Compare (pE a (kid p 0)) [cmM op] [pE b (kid p 1)] p.pos
 | .band a b,p=>bop .And (flat p) (pE a (kid p 0)) (pE b (Z65 .And p)) (pE b (kid p 1)) p.pos
 | .bor a b,p=>bop .Or (flat p) (pE a (kid p 0)) (pE b (Z65 .Or p)) (pE b (kid p 1)) p.pos
 | .not a,p=>.UnaryOp .Not (pE a (kid p 0)) p.pos
 | .neg i,p=>.UnaryOp .USub (.Constant (.int i) (kOf (kid p 0)) (kid p 0).pos) p.pos
 | .ite c a b,p=>.IfExp (pE c (kid p 0)) (pE a (kid p 1)) (pE b (kid p 2)) p.pos
 | .tup es,p=>.Tuple (pEs es (kids p)) (kOf p) p.pos
 | .list es,p=>.List (pEs es (kids p)) p.pos
 | .listM es,p=>.List (pEs es (kids p)) p.pos
 | .sub a i,p=>.Subscript (pE a (kid p 0)) (pE i (kid p 1)) p.pos
 | .slice a lo hi,p=>.Subscript (pE a (kid p 0)) (.Slice (pO lo (kid (kid p 1) 0)) (pO hi (kid (kid p 1) 1)) none (kid p 1).pos) p.pos
 | .isin a t,p=>.Call (.Name (Str.ofString "isinstance") (kid p 0).pos) [pE a (kid p 1),.Name (Str.ofString (tyN t)) (kid p 2).pos] [] p.pos
 | .bi f a,p=>.Call (.Name (Str.ofString (Za2 f)) (kid p 0).pos) [pE a (kid p 1)] [] p.pos
 | .me m a b,p=>.Call (.Attribute (pE a (kid (kid p 0) 0)) (Str.ofString (Za1 m)) (kid p 0).pos) [pE b (kid p 1)] [] p.pos
 | .call f es,p=>.Call (.Name f (kid p 0).pos) (pEs es (kids p).tail) [] p.pos
 | .glob x _,p=>.Name x p.pos
 | .dictM,p=>.Dict [] [] p.pos
 | .attr a k,p=>.Attribute (pE a (kid p 0)) (attrNames[k]?.getD default) p.pos
 | .newI,p=>.Call (.Name Z0g (kid p 0).pos) [] [] p.pos
 | .lenSet a,p=>.Call (.Name (Str.ofString "len") (kid p 0).pos) [.Call (.Name (Str.ofString "set") (kid (kid p 1) 0).pos) [pE a (kid (kid p 1) 1)] [] (kid p 1).pos] [] p.pos
 | .sset a,p=>.Call (.Name (Str.ofString "sorted") (kid p 0).pos) [.Call (.Name (Str.ofString "set") (kid (kid p 1) 0).pos) [pE a (kid (kid p 1) 1)] [] (kid p 1).pos] [] p.pos
 | .min2 a b,p=>.Call (.Name (Str.ofString "min") (kid p 0).pos) [pE a (kid p 1),pE b (kid p 2)] [] p.pos
 | .pop a,p=>.Call (.Attribute (pE a (kid (kid p 0) 0)) (Str.ofString "pop") (kid p 0).pos) [] [] p.pos
 | .comp elt _ it ifs,p=>.ListComp (pE elt (kid p 0)) [⟨.Name (nmOf (kid p 1)) (kid p 1).pos,pI it (kid p 2),pEs ifs ((kids p).drop 3),0⟩] (scOf p) p.pos
noncomputable def pEs:Exs→List Expr→List Expr
 | .nil,_=>[]
 | .cons e es,ps=>pE e (ps.headD default) :: pEs es ps.tail
noncomputable def pO:Exo→Expr→Option Expr
 | .none,_=>none
 | .some e,p=>some (pE e p)
noncomputable def pI:It→Expr→Expr
 | .val e,p=>pE e p
 | .range1 a,p=>.Call (.Name (Str.ofString "range") (kid p 0).pos) [pE a (kid p 1)] [] p.pos
 | .enum a,p=>.Call (.Name (Str.ofString "enumerate") (kid p 0).pos) [pE a (kid p 1)] [] p.pos
end
noncomputable def ZeN (e:Ex):Bool:=e.ctorIdx == 8
noncomputable def Zfq (e:Ex):Bool:=e.ctorIdx == 9
noncomputable def isC (e:Ex):Bool:=e.ctorIdx == 30
noncomputable def ZbJ (p:Expr):Bool:=!(p.ctorIdx == 16)
mutual
noncomputable def okE:Gm→Ex→Expr→Bool
 | _,.none,_=>true
 | _,.bool _,_=>true
 | _,.int _,_=>true
 | _,.str x,_=>PyData.strOk x && decide (x.length ≤ sizeLine)
 | g,.loc i,p=>g.lv (nmOf p) i
 | g,.fz i,p=>g.lv (nmOf p) i
 | g,.bin _ a b,p=>okE g a (kid p 0) && okE g b (kid p 1)
 | g,.cmp _ a b,p=>okE g a (kid p 0) && okE g b (kid p 1)
 | g,.band a b,p=>okE g a (kid p 0) && (if flat p then ZeN b && okE g b (Z65 .And p) else okE g b (kid p 1))
 | g,.bor a b,p=>okE g a (kid p 0) && (if flat p then Zfq b && okE g b (Z65 .Or p) else okE g b (kid p 1))
 | g,.not a,p=>okE g a (kid p 0)
 | _,.neg _,_=>true
 | g,.ite c a b,p=>okE g c (kid p 0) && (okE g a (kid p 1) && okE g b (kid p 2))
 | g,.tup es,p=>okEs g es (kids p)
 | g,.list es,p=>okEs g es (kids p)
 | g,.listM es,p=>okEs g es (kids p)
 | g,.sub a i,p=>okE g a (kid p 0) && okE g i (kid p 1)
 | g,.slice a lo hi,p=>okE g a (kid p 0) && (okO g lo (kid (kid p 1) 0) && okO g hi (kid (kid p 1) 1))
 | g,.isin a t,p=>(g.gl (Str.ofString "isinstance") && g.gl (Str.ofString (tyN t))) && okE g a (kid p 1)
 | g,.bi f a,p=>g.gl (Str.ofString (Za2 f)) && okE g a (kid p 1)
 | g,.me _ a b,p=>((kid p 0).pos.endLine == p.pos.line && ZbJ (pE a (kid (kid p 0) 0))) && (okE g a (kid (kid p 0) 0) && okE g b (kid p 1))
 | g,.call f es,p=>(Z4F f && g.gl f) && okEs g es (kids p).tail
 | g,.glob x i,_=>g.gl x && decide (g.gs.lookup x = some i)
 | _,.dictM,_=>true
 | g,.attr a k,p=>(decide (k < attrNames.length) && ZbJ (pE a (kid p 0))) && okE g a (kid p 0)
 | g,.newI,_=>g.gl Z0g
 | g,.lenSet a,p=>(g.gl (Str.ofString "len") && g.gl (Str.ofString "set")) && okE g a (kid (kid p 1) 1)
 | g,.sset a,p=>(g.gl (Str.ofString "sorted") && g.gl (Str.ofString "set")) && okE g a (kid (kid p 1) 1)
 | g,.min2 a b,p=>g.gl (Str.ofString "min") && (okE g a (kid p 1) && okE g b (kid p 2))
 | g,.pop a,p=>((kid p 0).pos.endLine == p.pos.line && ZbJ (pE a (kid (kid p 0) 0))) && okE g a (kid (kid p 0) 0)
 | g,.comp elt k it ifs,p=>(Za0 g (scOf p) (nmOf (kid p 1)) k && okI g it (kid p 2)) && (okE (g.comp (scOf p) (nmOf (kid p 1)) k) elt (kid p 0) && okEs (g.comp (scOf p) (nmOf (kid p 1)) k) ifs ((kids p).drop 3))
noncomputable def okEs:Gm→Exs→List Expr→Bool
 | _,.nil,_=>true
 | g,.cons e es,ps=>okE g e (ps.headD default) && okEs g es ps.tail
noncomputable def okO:Gm→Exo→Expr→Bool
 | _,.none,_=>true
 | g,.some e,p=>okE g e p
noncomputable def okI:Gm→It→Expr→Bool
 | g,.val e,p=>okE g e p
 | g,.range1 a,p=>g.gl (Str.ofString "range") && okE g a (kid p 1)
 | _,.enum _,_=>false
end
noncomputable def okZ (g:Gm) (it:It) (p:Expr):Bool:=match it with
 | .enum a=>g.gl (Str.ofString "enumerate") && okE g a (kid p 1)
 | _=>false
noncomputable def pT:List Nat→List Expr→List Expr
 | [],_=>[]
 | _ :: is,ps=>.Name (nmOf (ps.headD default)) (ps.headD default).pos :: pT is ps.tail
noncomputable def okT' (g:Gm):List Nat→List Expr→Bool
 | [],_=>true
 | i :: is,ps=>g.lv (nmOf (ps.headD default)) i && okT' g is ps.tail
structure SInfo where
 kids:List Expr
 blk:List Stmt
 els:List Stmt
noncomputable def ZdL (p:Stmt):SInfo:=Stmt.casesOn (motive_2:=fun _=>SInfo) p (fun _ _ _ _ _ _ _ _ _ _=>⟨[],[],[]⟩) (fun _ _ _ _ _ _ _ _ _ _=>⟨[],[],[]⟩) (fun _ _ _ _ _ _ _ _ _ _ _=>⟨[],[],[]⟩) (fun v _=>⟨[v.getD default],[],[]⟩) (fun _ _=>⟨[],[],[]⟩) (fun ts v _=>⟨v :: ts,[],[]⟩) (fun _ _ _ _ _ _ _=>⟨[],[],[]⟩) (fun _ _ _ _=>⟨[],[],[]⟩) (fun _ _ _ _ _=>⟨[],[],[]⟩) (fun t it b _ _=>⟨[t,it],b,[]⟩)
 (fun _ _ _ _ _=>⟨[],[],[]⟩) (fun t b _ _=>⟨[t],b,[]⟩) (fun t a b _=>⟨[t],a,b⟩) (fun _ _ _=>⟨[],[],[]⟩) (fun _ _ _=>⟨[],[],[]⟩) (fun _ _ _=>⟨[],[],[]⟩) (fun _ _ _=>⟨[],[],[]⟩) (fun _ _ _ _ _=>⟨[],[],[]⟩) (fun _ _ _ _ _=>⟨[],[],[]⟩) (fun _ _ _=>⟨[],[],[]⟩) (fun _ _=>⟨[],[],[]⟩) (fun _ _ _ _=>⟨[],[],[]⟩) (fun _ _=>⟨[],[],[]⟩) (fun _ _=>⟨[],[],[]⟩) (fun v _=>⟨[v],[],[]⟩) (fun _=>⟨[],[],[]⟩) (fun _=>⟨[],[],[]⟩) (fun _=>⟨[],[],[]⟩)
noncomputable def skid (p:Stmt) (i:Nat):Expr:=((ZdL p).kids)[i]?.getD default
noncomputable def blk (p:Stmt):List Stmt:=(ZdL p).blk
noncomputable def els (p:Stmt):List Stmt:=(ZdL p).els
mutual
noncomputable def pS:Sm→Stmt→Stmt
 | .asg _ e,p=>.Assign [.Name (nmOf (skid p 1)) (skid p 1).pos] (pE e (skid p 0)) p.pos
 | .asgT is e,p=>.Assign [.Tuple (pT is (kids (skid p 1))) (kOf (skid p 1)) (skid p 1).pos] (pE e (skid p 0)) p.pos
 | .expr e,p=>.Expr (pE e (skid p 0)) p.pos
 | .ret e,p=>.Return (some (pE e (skid p 0))) p.pos
 | .ifte c t f,p=>.If (pE c (skid p 0)) (pSs t (blk p)) (pSs f (els p)) p.pos
 | .for1 _ it b,p=>.For (.Name (nmOf (skid p 0)) (skid p 0).pos) (pI it (skid p 1)) (pSs b (blk p)) [] p.pos
 | .forT is it b,p=>.For (.Tuple (pT is (kids (skid p 0))) (kOf (skid p 0)) (skid p 0).pos) (pI it (skid p 1)) (pSs b (blk p)) [] p.pos
 | .brk,p=>.Break p.pos
 | .stk,p=>p
 | .asgI a i e,p=>.Assign [.Subscript (pE a (kid (skid p 1) 0)) (pE i (kid (skid p 1) 1)) (skid p 1).pos] (pE e (skid p 0)) p.pos
 | .asgA a k e,p=>.Assign [.Attribute (pE a (kid (skid p 1) 0)) (attrNames[k]?.getD default) (skid p 1).pos] (pE e (skid p 0)) p.pos
noncomputable def pSs:Sms→List Stmt→List Stmt
 | .nil,_=>[]
 | .cons s ss,ps=>pS s (ps.headD default) :: pSs ss ps.tail
end
mutual
noncomputable def okS (g:Gm):Sm→Stmt→Bool
 | .asg i e,p=>g.lv (nmOf (skid p 1)) i && okE g e (skid p 0)
 | .asgT is e,p=>okT' g is (kids (skid p 1)) && ((pE e (skid p 0)).ctorIdx == 16 || (pE e (skid p 0)).ctorIdx == 23 || (pE e (skid p 0)).ctorIdx == 21) && okE g e (skid p 0)
 | .expr e,p=>!isC e && okE g e (skid p 0)
 | .ret e,p=>okE g e (skid p 0)
 | .ifte c t f,p=>okE g c (skid p 0) && (okSs g t (blk p) && okSs g f (els p))
 | .for1 i it b,p=>g.lv (nmOf (skid p 0)) i && (okI g it (skid p 1) && okSs g b (blk p))
 | .forT is it b,p=>okT' g is (kids (skid p 0)) && (okZ g it (skid p 1) && okSs g b (blk p))
 | .brk,_=>true
 | .stk,_=>true
 | .asgI a i e,p=>(!isC e && okE g e (skid p 0)) && (okE g a (kid (skid p 1) 0) && okE g i (kid (skid p 1) 1))
 | .asgA a k e,p=>(!isC e && decide (k < attrNames.length)) && (okE g e (skid p 0) && okE g a (kid (skid p 1) 0))
noncomputable def okSs (g:Gm):Sms→List Stmt→Bool
 | .nil,_=>true
 | .cons s ss,ps=>okS g s (ps.headD default) && okSs g ss ps.tail
end
noncomputable def Z33 (n:Nat):Bool:=!(n == 22 || n == 7 || n == 26 || n == 9 || n == 10)
theorem Z2F (e:Ex):∀ p,Z33 (pE e p).ctorIdx = true :=
 Ex.casesOn (motive_1:=fun e=>∀ p,Z33 (pE e p).ctorIdx = true) e (fun _=>rfl) (fun _ _=>rfl) (fun _ _=>rfl) (fun _ _=>rfl) (fun _ _=>rfl) (fun _ _=>rfl) (fun _ _ _ _=>rfl) (fun _ _ _ _=>rfl) (fun _ _ _=>rfl) (fun _ _ _=>rfl) (fun _ _=>rfl) (fun _ _=>rfl) (fun _ _ _ _=>rfl) (fun _ _=>rfl) (fun _ _=>rfl) (fun _ _=>rfl) (fun _ _ _=>rfl) (fun _ _ _ _=>rfl) (fun _ _ _=>rfl) (fun _ _ _=>rfl) (fun _ _ _ _=>rfl) (fun _ _ _=>rfl) (fun _ _ _=>rfl) (fun _=>rfl) (fun _ _ _=>rfl) (fun _=>rfl) (fun _ _=>rfl) (fun _ _=>rfl) (fun _ _ _=>rfl) (fun _ _=>rfl) (fun _ _ _ _ _=>rfl)
theorem ZeO (e:Ex):∀ p,(isC e || !((pE e p).ctorIdx == 8)) = true :=
 Ex.casesOn (motive_1:=fun e=>∀ p,(isC e || !((pE e p).ctorIdx == 8)) = true) e (fun _=>rfl) (fun _ _=>rfl) (fun _ _=>rfl) (fun _ _=>rfl) (fun _ _=>rfl) (fun _ _=>rfl) (fun _ _ _ _=>rfl) (fun _ _ _ _=>rfl) (fun _ _ _=>rfl) (fun _ _ _=>rfl) (fun _ _=>rfl) (fun _ _=>rfl) (fun _ _ _ _=>rfl) (fun _ _=>rfl) (fun _ _=>rfl) (fun _ _=>rfl) (fun _ _ _=>rfl) (fun _ _ _ _=>rfl) (fun _ _ _=>rfl) (fun _ _ _=>rfl) (fun _ _ _ _=>rfl) (fun _ _ _=>rfl) (fun _ _ _=>rfl) (fun _=>rfl) (fun _ _ _=>rfl) (fun _=>rfl) (fun _ _=>rfl) (fun _ _=>rfl) (fun _ _ _=>rfl) (fun _ _=>rfl) (fun _ _ _ _ _=>rfl)
theorem and2 {a b:Bool} (h:(a && b) = true):a = true∧b = true:=Bool.and_eq_true_iff.mp h
end Mine
namespace Mine
open PySem PySem.Calls PyProof.Rows
structure Gd (base:Heap) (mg mb:Str→Option Value):Prop where
 g:base.Ns mainGlobals mg
 b:base.Ns builtinsNs mb
 blt:∀ x:Str,x ≠ "__name__"→mb x = bootBuiltins x
 free:∀ x ∈ (["isinstance","len","int","bool","list","tuple","str","range","enumerate","zip","set","sorted","min","max"]:List String),mg (Str.ofString x) = none
structure Nm (c:Cx) (g:Gm):Prop where
 sc:c.env.scope = g.sc
 kind:g.sc.kind = .function
 glob:c.env.globals = mainGlobals
 blt:c.env.builtins = builtinsNs
 var:∀ x i,g.vm.lookup x = some i→(g.sc.names.lookup x = some .local∧c.sl i = some (.d c.env.locals x)) ∨ (g.sc.names.lookup x = some .cell∧∃ a,c.env.cells.lookup x = some a∧c.sl i = some (.c a))
 apart:∀ i j s,c.sl i = some s→c.sl j = some s→i = j
 dom:∀ i s,c.sl i = some s→i ∈ g.used
 cells:∀ x,g.sc.names.lookup x = some .cell→∃ a,c.env.cells.lookup x = some a
noncomputable def Cx.bare (c:Cx):Cx:={ c with sl:=fun _=>none }
structure AOk (n:Nat) (A:Around):Prop where
 hh:A.handled = none
 depth:A.depth + n + 110 ≤ recursionLimit
 units:A.units + 4 * n + 200 ≤ cLine
 frames:∃ l,A.frames = some l
noncomputable def Does (n:Nat) (prog:Program) (w:World) (base:Heap) (f:Value) (args:List V) (σ:List O) (r:V) (st':St):Prop :=
 ∀ (c:Cx) μ (s:Shared) vs,c.prog = prog→c.w = w→c.base = base→AOk n c.A→Inv c.bare ⟨[],σ⟩ μ s.heap→RepVs (Tr σ μ) μ s.heap vs args →
  wpAny (model c.prog c.w) c.A (call f vs) (fun v s'=>∃ μ',RepV (Tr st'.σ μ') μ' s'.heap v r∧Inv c.bare ⟨[],st'.σ⟩ μ' s'.heap∧Stp c.bare σ μ s.heap st'.σ μ' s'.heap∧Same s s') (fun _ _=>False) s
noncomputable def ZeP (n:Nat) (prog:Program) (w:World) (base:Heap) (mg:Str→Option Value) (F:Fn):Prop :=
 ∀ f args σ r st',F f args σ = .ok r st'→Z4F f = true→∃ a o fd,mg f = some (.ref a)∧base.get? a = some o∧o.data = .func fd∧Does n prog w base (.ref a) args σ r st'
noncomputable def Z66 (base:Heap) (C:Addr):Prop:=∃ N mN,ClsAt base C N mN∧mN "__getattribute__" = none∧mN "__setattr__" = none∧∀ y ∈ attrNames,mN y = none
structure FnOk (n:Nat) (prog:Program) (w:World) (base:Heap) (mg:Str→Option Value) (F:Fn):Prop where
 fn:ZeP n prog w base mg F
 cls:∀ C:Nat,clsF F = some (C:Int)→Z66 base C
 new:∀ σ r st',F Z0g [] σ = .ok r st'→∃ C,mg Z0g = some (.ref C)∧Z66 base C∧Does n prog w base (.ref C) [] σ r st'
structure Wo where
 n:Nat
 mg:Str→Option Value
 mb:Str→Option Value
 F:Fn
structure Good (W:Wo) (c:Cx) (g:Gm):Prop where
 ok:CxOk c
 gd:Gd c.base W.mg W.mb
 nm:Nm c g
 a:AOk W.n c.A
 gs:∀ x i,g.gs.lookup x = some i→∃ t,W.mg x = some (.int i t)
 fn:FnOk W.n c.prog c.w c.base W.mg W.F
theorem Z0C {c:Cx} {b:Addr}:¬ Own c.bare b:=fun ⟨_,_,h,_⟩=>by cases h
theorem Inv.bare {c:Cx} {st:St} {μ:List Addr} {h:Heap} (I:Inv c st μ h):Inv c.bare ⟨[],st.σ⟩ μ h where
 vars:=fun i x q=>by simp at q
 slots:=fun i s q=>by cases q
 objs:=I.objs
 len:=I.len
 nd:=I.nd
 lt:=I.lt
 base:=I.base
 baseS:=fun b q=>(Z0C q).elim
 baseM:=I.baseM
 sep:=fun b q=>(Z0C q).elim
 kd:=I.kd
theorem Z1A {c:Cx} {st:St} {μ:List Addr} {h:Heap} (I:Inv c st μ h) {b:Addr} (q:Own c b):∃ o,h.get? b = some o:=by
 refine El.x2_2 q fun i s hs q0z=>?_
 obtain rfl:=q0z
 refine El.x1_2 ((I.slots i s hs).get) fun o ho _=>?_
 exact ⟨o,ho⟩
theorem Inv.back {c:Cx} {st:St} {μ μ':List Addr} {σ':List O} {h h':Heap} (I:Inv c st μ h) (I':Inv c.bare ⟨[],σ'⟩ μ' h') (S:Stp c.bare st.σ μ h σ' μ' h') :
  Inv c ⟨st.ρ,σ'⟩ μ' h'∧Stp c st.σ μ h σ' μ' h':=by
 have S':Stp c st.σ μ h σ' μ' h':=⟨S.size,fun b o e _ hT=>S.keep b o e Z0C hT,S.pre,S.tr,S.new,S.pv,S.pk⟩
 have kp:∀ b,Own c b→∀ o,h.get? b = some o→h'.get? b = some o:=fun b q o e=>S.keep b o e Z0C fun t=>I.sep b q t.mem
 refine ⟨⟨fun i x q=>?_,fun i s q=>(I.slots i s q).keeps (kp _ ⟨i,s,q,rfl⟩),I'.objs,I'.len,I'.nd,I'.lt,I'.base,I.baseS,I'.baseM,fun b q m=>?_,I'.kd⟩,S'⟩
 ·refine El.x2_3 (I.vars i x q) fun s v h1 h2 h3=>?_
  exact ⟨s,v,h1,h2.keeps (kp _ ⟨i,s,h1,rfl⟩),h3.step (st':=⟨st.ρ,σ'⟩) I S'⟩
 ·rcases S.new b m with k | k
  ·exact I.sep b q k
  ·refine El.x1_1 (Z1A I q) fun o ho=>?_
   exact Nat.lt_irrefl _ (Nat.lt_of_lt_of_le (Heap.lt_size ho) k)
noncomputable def EOk (W:Wo) (e:Ex):Prop:=∀ (g:Gm) (p:Expr) (c:Cx) (st:St) (μ:List Addr) (s:Shared),okE g e p = true→Good W c g→Inv c st μ s.heap→Sim c (eval (pE e p) c.env) (evE W.F e st) rV st.σ μ s
noncomputable def EsOk (W:Wo) (es:Exs):Prop:=∀ (g:Gm) (ps:List Expr) (c:Cx) (st:St) (μ:List Addr) (s:Shared) (pos:Pos),okEs g es ps = true→Good W c g→Inv c st μ s.heap→Sim c (spliced (backTo pos (starEach (pEs es ps) c.env))) (evEs W.F es st) rVs st.σ μ s
noncomputable def Z18 (x:Expr):Prop:=∀ (rest:List Expr) (env:Env),starEach (x :: rest) env = (false,eval x env) :: starEach rest env
theorem ZdM {x:Expr}:Z33 x.ctorIdx = true→Z18 x :=
 Expr.casesOn (motive_1:=fun x=>Z33 x.ctorIdx = true→Z18 x) x (fun _ _ _ _ _ _=>rfl) (fun _ _ _ _ _ _=>rfl) (fun _ _ _ _ _ _ _=>rfl) (fun _ _ _ _ _ _=>rfl) (fun _ _ _ _ _ _ _=>rfl) (fun _ _ _ _ _ _ _=>rfl) (fun _ _ _ _ _ _=>rfl) (fun _ _ _ _ _ _=>rfl) (fun _ _ _ _ _ _ _=>rfl) (fun _ _ _ _ _ _ _=>rfl) (fun _ _ _ _ _ _ _ _=>rfl) (fun _ _ _ _ _ _ _=>rfl) (fun _ _ _ _ _=>rfl) (fun _ _ _ _ _=>rfl) (fun _ _ _ _ _=>rfl) (fun _ _ _ _ _ _ _=>rfl) (fun _ _ _ _ _ _ _=>rfl) (fun _ _ _ _ _ _ _=>rfl) (fun _ _ _ _ _=>rfl) (fun _ _ _ _ _ _=>rfl) (fun _ _ _ _ _ _=>rfl) (fun _ _ _ _ _ _=>rfl) (fun _ _ h=>absurd h Bool.false_ne_true) (fun _ _ _ _ _=>rfl) (fun _ _ _ _ _=>rfl) (fun _ _ _ _ _ _=>rfl) (fun _ _ _ _ _ _ _=>rfl)
theorem ZeQ {x:Expr}:Z33 x.ctorIdx = true→∀ (env:Env) (y:Value),foldedSetIterable x env y = pure y:=by
 cases x <;> first | exact fun _ _ _=>rfl | exact fun h=>absurd h Bool.false_ne_true
theorem Z8b {x:Expr} {op:CmpOp}:Z33 x.ctorIdx = true→behindInMarks op x = false:=by
 cases x <;> first | exact fun _=>rfl | exact fun h=>absurd h Bool.false_ne_true
theorem ZbK {x:Expr}:Z33 x.ctorIdx = true→Z1e x = true:=by
 cases x <;> first | exact fun _=>rfl | exact fun h=>absurd h Bool.false_ne_true
theorem Z0t (e:Ex) (p:Expr):Z18 (pE e p):=ZdM (Z2F e p)
section
variable {W:Wo}
theorem Sim.two {δ γ:Type} {a b:Ex} {c:Cx} {g:Gm} {p q:Expr} {st:St} {μ:List Addr} {s:Shared} {f:Value→Value→Sem γ} {k:V→V→St→R δ} {rel:St→List Addr→Heap→γ→δ→Prop} (ha:EOk W a) (hb:EOk W b) (h1:okE g a p = true) (h2:okE g b q = true) (hg:Good W c g) (I:Inv c st μ s.heap)
  (h:∀ x y u v st μ (s:Shared),RepV (Tr st.σ μ) μ s.heap u x→RepV (Tr st.σ μ) μ s.heap v y→Inv c st μ s.heap→Sim c (f u v) (k x y st) rel st.σ μ s) :
  Sim c (eval (pE a p) c.env >>= fun u=>PySem.holding [u] (eval (pE b q) c.env) >>= fun v=>f u v) ((evE W.F a st).bind fun x st=>(evE W.F b st).bind fun y st=>k x y st) rel st.σ μ s :=
 Sim.bind (ha g p c st μ s h1 hg I) fun x st₁ u μ₁ s₁ _ rx I₁ _=>Sim.bind (Sim.holding (hb g q c st₁ μ₁ s₁ h2 hg I₁)) fun y st₂ v μ₂ s₂ _ ry I₂ S₂=>h x y u v st₂ μ₂ s₂ (RepV.step I₁ S₂ rx) ry I₂
theorem Sim.one {δ γ:Type} {a:Ex} {c:Cx} {g:Gm} {p:Expr} {st:St} {μ:List Addr} {s:Shared} {f:Value→Sem γ} {k:V→St→R δ} {rel:St→List Addr→Heap→γ→δ→Prop} (ha:EOk W a) (h1:okE g a p = true) (hg:Good W c g) (I:Inv c st μ s.heap)
  (h:∀ x u st μ (s:Shared),RepV (Tr st.σ μ) μ s.heap u x→Inv c st μ s.heap→Sim c (f u) (k x st) rel st.σ μ s) :
  Sim c (eval (pE a p) c.env >>= f) ((evE W.F a st).bind k) rel st.σ μ s :=
 Sim.bind (ha g p c st μ s h1 hg I) fun x st₁ u μ₁ s₁ _ rx I₁ _=>h x u st₁ μ₁ s₁ rx I₁
theorem Z58:EOk W .none:=fun _ _ _ _ _ _ _ _ I=>Sim.leaf I (fun _ _ _=>⟨.refl,.refl,.none⟩)
theorem Z59 {b:Bool}:EOk W (.bool b):=fun _ _ _ _ _ _ _ _ I=>Sim.leaf I (fun _ _ _=>⟨.refl,.refl,.bool _⟩)
theorem Z6W {i:Int}:EOk W (.int i):=fun _ _ _ _ _ _ _ _ I=>Z0u I fun Q hq=>wpAny_Constant_int (hq _ _)
theorem Z6X {x:Str}:EOk W (.str x):=fun _ _ _ _ _ _ hk _ I=>Z2d I (and2 hk).1 (of_decide_eq_true (and2 hk).2) rfl fun Q hq=>wpAny_Constant_str (hq _ _)
theorem Za3 {g:Gm} {x:Str} {i:Nat} (h:g.lv x i = true):g.vm.lookup x = some i∧(x == ("__debug__":Str)) = false:=by
 simpa [Gm.lv,Z2E] using h
theorem Za4 {g:Gm} {x:Str} (h:g.gl x = true):g.sc.names.lookup x = some .globalImplicit∧(x == ("__debug__":Str)) = false:=by
 simpa [Gm.gl,Z2E] using h
theorem Z5a {c:Cx} {g:Gm} {st:St} {μ:List Addr} {s:Shared} {x:Str} {i:Nat} {pos:Pos} {y:V} (N:Nm c g) (hl:g.lv x i = true) (I:Inv c st μ s.heap) (hv:st.ρ[i]? = some (some y)) :
  ∃ v,RepV (Tr st.σ μ) μ s.heap v y∧∀ (Q:Value→Shared→Prop) (E:Value→Shared→Prop),Q v s→wpAny (model c.prog c.w) c.A (eval (.Name x pos) c.env) Q E s:=by
 refine El.x0_2 (Za3 hl) fun h1 h2=>?_
 refine El.x2_3 (I.vars i y hv) fun sl v g1 g2 g3=>?_
 refine ⟨v,g3,fun Q E hq=>wpAny_Name ?_ h2⟩
 have hk:c.env.scope.kind = .function:=by rw [N.sc]; exact N.kind
 rcases N.var x i h1 with ⟨k1,k2⟩ | ⟨k1,a,k2,k3⟩
 ·try clear g3; try clear v; try clear sl; try clear h2; try clear h1
  obtain rfl:=Option.some.inj (k2.symm.trans g1)
  refine El.x1_2 g2 fun m hm e=>?_
  exact wpAny_loadName_local hk (by unfold Env.kindOf; rw [N.sc]; exact k1) hm e hq
 ·try clear e; try clear hm; try clear m
  obtain rfl:=Option.some.inj (k3.symm.trans g1)
  exact wpAny_loadName_cell hk (by unfold Env.kindOf; rw [N.sc]; exact k1) k2 g2 hq
theorem Z6Y {i:Nat}:EOk W (.loc i):=fun g p c st μ s hk hg I=>by
 rw [Z3r]
 split
 ·rename_i y hv
  exact El.x1_2 (Z5a hg.nm hk I hv) fun v r h=>Z1I I r fun Q hq=>h _ _ (hq _)
 ·trivial
theorem Inv.freeze {c:Cx} {st:St} {μ:List Addr} {h:Heap} (I:Inv c st μ h) {i n:Nat} {xs:List V} (hv:st.ρ[i]? = some (some (.ref n))) (hn:st.σ[n]? = some (.lst xs)) :
  Inv c ⟨st.ρ.set i (some (.lst xs)),st.σ.set n .dead⟩ μ h∧Stp c st.σ μ h (st.σ.set n .dead) μ h ∧
   ∀ v,RepV (Tr st.σ μ) μ h v (.ref n)→RepV (Tr (st.σ.set n .dead) μ) μ h v (.lst xs):=by
 have sub:∀ b,Tr (st.σ.set n .dead) μ b→Tr st.σ μ b:=by
  intro b q8z
  refine El.x2_3 q8z fun k o e1 e2 e3=>?_
  by_cases hk:n = k
  ·try clear q8z
   subst hk
   have:n < st.σ.length:=(List.getElem?_eq_some_iff.mp hn).1
   have e4:O.dead = o:=by simpa [this] using e1
   subst e4; cases e2
  ·rw [List.getElem?_set_ne hk] at e1; exact ⟨k,o,e1,e2,e3⟩
 have S:Stp c st.σ μ h (st.σ.set n .dead) μ h:=⟨Nat.le_refl _,fun _ _ e _ _=>e,fun _ _ e=>e,fun b q=>.inl (sub b q),fun _ q=>.inl q,Z5O hn (by simp),fun _ _ _ _ _ e=>e⟩
 have mv:∀ {v:Value} {x:V},RepV (Tr st.σ μ) μ h v x→RepV (Tr (st.σ.set n .dead) μ) μ h v x:=fun r=>r.move (fun a o e _ hT=>⟨e,fun q=>hT (sub a q)⟩) fun _ _ q=>q
 have mvs:∀ {v:List Value} {x:List V},RepVs (Tr st.σ μ) μ h v x→RepVs (Tr (st.σ.set n .dead) μ) μ h v x:=fun r=>r.move (fun a o e _ hT=>⟨e,fun q=>hT (sub a q)⟩) fun _ _ q=>q
 have fr:∀ v,RepV (Tr st.σ μ) μ h v (.ref n)→RepV (Tr (st.σ.set n .dead) μ) μ h v (.lst xs):=by
  intro v r
  refine El.x1_2 r.refI fun a9 e9 ha=>?_
  try clear a9; try clear b; try clear sub
  subst e9
  refine El.x1_2 (I.objs n _ hn) fun a' ha' ro=>?_
  try clear a'; try clear e9
  obtain rfl:=Option.some.inj (ha.symm.trans ha')
  refine El.x2_3 ro.lst_inv fun vs nn ho hz r=>?_
  refine .lst ho rfl rfl hz ?_ (mvs r)
  intro q9z
  refine El.x2_3 q9z fun k o e1 e2 e3=>?_
  have:n = k:=(List.getElem?_inj (List.getElem?_eq_some_iff.mp ha).1 I.nd).mp (ha.trans e3.symm)
  try clear q9z; try clear hz; try clear nn; try clear vs; try clear ro; try clear ha'; try clear e3
  subst this
  have hlt:n < st.σ.length:=(List.getElem?_eq_some_iff.mp hn).1
  have e4:O.dead = o:=by simpa [hlt] using e1
  try clear e1
  subst e4; cases e2
 refine ⟨⟨fun j x q=>?_,I.slots,fun k o q=>?_,by simpa using I.len,I.nd,I.lt,I.base,I.baseS,I.baseM,I.sep,Z9m I.kd trivial⟩,S,fr⟩
 ·dsimp only at q ⊢
  by_cases hj:i = j
  ·try clear S; try clear e2
   subst hj
   have hlt:i < st.ρ.length:=(List.getElem?_eq_some_iff.mp hv).1
   have e4:V.lst xs = x:=by simpa [hlt] using q
   subst e4
   refine El.x2_3 (I.vars i _ hv) fun s v g1 g2 g3=>?_
   exact ⟨s,v,g1,g2,fr v g3⟩
  ·rw [List.getElem?_set_ne hj] at q
   refine El.x2_3 (I.vars j x q) fun s v g1 g2 g3=>?_
   exact ⟨s,v,g1,g2,mv g3⟩
 ·dsimp only at q ⊢
  by_cases hk:n = k
  ·try clear g3; try clear g2; try clear g1; try clear s; try clear x; try clear j; try clear v; try clear fr; try clear mv
   subst hk
   have hlt:n < st.σ.length:=(List.getElem?_eq_some_iff.mp hn).1
   have e4:O.dead = o:=by simpa [hlt] using q
   try clear hlt
   subst e4
   refine El.x1_2 (I.objs n _ hn) fun a ha _=>?_
   exact ⟨a,ha,.dead⟩
  ·rw [List.getElem?_set_ne hk] at q
   refine El.x1_2 (I.objs k o q) fun a ha r=>?_
   refine ⟨a,ha,?_⟩
   exact r.map (fun _ ho=>ho) fun _ _ r=>(mvs r)
theorem Za5 {i:Nat}:EOk W (.fz i):=fun g p c st μ s hk hg I=>by
 rw [Z9r]
 split
 ·rename_i k hv
  split
  ·rename_i xs hn
   exact El.x1_2 (Z5a hg.nm hk I hv) fun v r h=>El.x0_3 (I.freeze hv hn) fun I' S fr=>h _ _ ⟨μ,fr v r,I',S,.refl⟩
  ·trivial
 ·rename_i xs hv
  exact El.x1_2 (Z5a hg.nm hk I hv) fun v r h=>Z1I I r fun Q hq=>h _ _ (hq _)
 ·trivial
theorem Z6Z {op:Op} {a b:Ex} (ha:EOk W a) (hb:EOk W b):EOk W (.bin op a b):=fun g p c st μ s hk hg I=>
 Sim.of_eq (eval_BinOp ..) (Sim.two ha hb (and2 hk).1 (and2 hk).2 hg I fun x y u v st μ s rx ry I=>Sim.at (Sim.operate (ZdK hg.ok I rx ry op)))
theorem ZdN {op:Cm} {a b:Ex} (ha:EOk W a) (hb:EOk W b):EOk W (.cmp op a b):=fun g p c st μ s hk hg I=>
 Sim.of_eq ((eval_Compare1 ..).trans (by rw [markedBehindIn_of_false (Z8b (Z2F b _))])) (Sim.two ha hb (and2 hk).1 (and2 hk).2 hg I fun x y u v st μ s rx ry I=>Sim.at (Sim.operate (Z9A hg.ok I rx ry op)))
end
theorem Z3F:bootBuiltins (Str.ofString "isinstance") = some (.builtin "isinstance"):=by decide +kernel
theorem Z8c:bootBuiltins (Str.ofString "len") = some (.builtin "len"):=by decide +kernel
theorem Z8d:bootBuiltins (Str.ofString "int") = some (.type "int"):=by decide +kernel
theorem Za6:bootBuiltins (Str.ofString "bool") = some (.type "bool"):=by decide +kernel
theorem Z67:bootBuiltins (Str.ofString "list") = some (.type "list"):=by decide +kernel
theorem Z8V:bootBuiltins (Str.ofString "tuple") = some (.type "tuple"):=by decide +kernel
theorem ZbL:bootBuiltins (Str.ofString "str") = some (.type "str"):=by decide +kernel
theorem Z8W:bootBuiltins (Str.ofString "range") = some (.type "range"):=by decide +kernel
theorem Z4r:bootBuiltins (Str.ofString "enumerate") = some (.type "enumerate"):=by decide +kernel
noncomputable def TOk (W:Wo) (e:Ex):Prop:=∀ (g:Gm) (p:Expr) (c:Cx) (st:St) (μ:List Addr) (s:Shared),okE g e p = true→Good W c g→Inv c st μ s.heap→Sim c (isTrue (pE e p) c.env (eval (pE e p) c.env)) (Z0h (evE W.F e st)) rEq st.σ μ s
noncomputable def IOk (W:Wo) (e:Ex):Prop:=EOk W e∧TOk W e
noncomputable def Z68 (py:Expr):Prop:=∀ env whole,isTrue py env whole = (do let v ← whole; standAt py.pos; holding [v] (truthy v))
noncomputable def ZdO (n:Nat):Bool:=!(n == 3 || n == 0 || n == 5 || n == 15)
theorem Z00 {x:Expr}:ZdO x.ctorIdx = true→Z68 x:=by
 cases x <;> first | exact fun _ _ _=>rfl | exact fun h=>absurd h Bool.false_ne_true
theorem R.bind_assoc {α β γ:Type} (m:R α) (f:α→St→R β) (g:β→St→R γ):(m.bind f).bind g = m.bind fun a st=>(f a st).bind g:=by cases m <;> rfl
theorem Sim.of_m {α β:Type} {c:Cx} {t:Sem α} {m m':R β} {rel:St→List Addr→Heap→α→β→Prop} {σ:List O} {μ:List Addr} {s:Shared} (e:m = m') (h:Sim c t m' rel σ μ s):Sim c t m rel σ μ s:=e ▸ h
theorem Sim.eq {α β γ:Type} {c:Cx} {t:Sem α} {f:α→Sem β} {m:R α} {g:α→St→R γ} {rel':St→List Addr→Heap→β→γ→Prop} {σ:List O} {μ:List Addr} {s:Shared} (h:Sim c t m rEq σ μ s)
  (hf:∀ b st₁ μ₁ (s₁:Shared),m = .ok b st₁→Inv c st₁ μ₁ s₁.heap→Stp c σ μ s.heap st₁.σ μ₁ s₁.heap→Sim c (f b) (g b st₁) rel' st₁.σ μ₁ s₁):Sim c (t >>= f) (m.bind g) rel' σ μ s :=
 Sim.bind h fun b st₁ a μ₁ s₁ e (r:a = b) I S=>r ▸ hf b st₁ μ₁ s₁ e I S
section
variable {W:Wo}
theorem TOk.plain {e:Ex} (h:EOk W e) (hp:∀ p,Z68 (pE e p)):IOk W e :=
 ⟨h,fun g p c st μ s hk hg I=>Sim.of_eq (hp p ..) (Sim.one h hk hg I fun _ _ _ _ _ rx I=>Sim.at (Sim.holding (Z1J I rx)))⟩
theorem Z5b {op:Cm} {a b:Ex} (ha:EOk W a) (hb:EOk W b):IOk W (.cmp op a b) :=
 ⟨ZdN ha hb,fun g p c st μ s hk hg I=>Sim.of_eq ((isTrue_Compare1 ..).trans (by rw [markedBehindIn_of_false (Z8b (Z2F b _))]))
  (Sim.of_m ((R.bind_assoc ..).trans (Z10 _ fun _ _=>R.bind_assoc ..)) (Sim.two ha hb (and2 hk).1 (and2 hk).2 hg I fun x y u v st μ s rx ry I=>
   Sim.at (Sim.bind (Sim.operate (Z9A hg.ok I rx ry op)) fun _ _ _ _ _ _ rq I _=>Sim.holding (Z1J I rq))))⟩
theorem Z3G {x:V} {st:St} {t:Bool} (h:x.truthy st.σ = some t):Z0h (.ok x st) = .ok t st:=by
 unfold Z0h; rw [R.bind_ok,h]; rfl
theorem Sim.cond {α β:Type} {c:Cx} {t:Bool} {T1 T2:Sem α} {m1 m2:R β} {rel:St→List Addr→Heap→α→β→Prop} {σ:List O} {μ:List Addr} {s:Shared} (h1:t = true→Sim c T1 m1 rel σ μ s) (h2:t = false→Sim c T2 m2 rel σ μ s) :
  Sim c (if t = true then T1 else T2) (if t = true then m1 else m2) rel σ μ s:=by
 cases t with
 | true=>simpa using h1 rfl
 | false=>simpa using h2 rfl
theorem Z8e (op:BoolOp) {f:Bool} {A B B':Expr} {q:Pos} (hB:f = true→∃ y zs,B = .BoolOp op (y :: zs) q):∃ y zs,bop op f A B B' q = .BoolOp op (A :: y :: zs) q∧(∀ env,eval (.BoolOp op (y :: zs) q) env = eval (bif f then B else B') env)∧∀ env,allTrue op (y :: zs) env = isTrue (bif f then B else B') env (eval (bif f then B else B') env):=by
 cases f with
 | true=>
  refine El.x2_1 (hB rfl) fun y zs e=>?_
  subst e
  exact ⟨y,zs,rfl,fun _=>rfl,fun _=>rfl⟩
 | false=>
  refine ⟨B',[],rfl,fun _=>rfl,fun env=>?_⟩
  refine Eq.trans ?_ (bind_pure (isTrue B' env (eval B' env)))
  rw [arm_allTrue_cons]
  refine congrArg (fun k=>isTrue B' env (eval B' env) >>= k) (funext fun t=>?_)
  cases op <;> cases t <;> rfl
theorem ZcO {g:Gm} {b:Ex} {f x:Bool} {r r':Expr} (h:(if f = true then x && okE g b r else okE g b r') = true):okE g b (bif f then r else r') = true∧(f = true→x = true):=by
 cases f with
 | true=>exact ⟨(and2 h).2,fun _=>(and2 h).1⟩
 | false=>exact ⟨h,fun e=>by cases e⟩
theorem ZcP {b:Ex} {f:Bool} {r r':Expr}:(bif f then pE b r else pE b r') = pE b (bif f then r else r'):=by cases f <;> rfl
theorem Z70 {F:Fn} {a b:Ex} {st:St}:Z0h (evE F (.band a b) st) = (Z0h (evE F a st)).bind fun t st=>if t then Z0h (evE F b st) else .ok false st:=by
 refine Eq.trans (R.bind_assoc (evE F a st) _ _) (Eq.trans ?_ (R.bind_assoc (evE F a st) _ _).symm)
 refine Z10 _ fun x st=>?_
 cases h:x.truthy st.σ with
 | none=>rfl
 | some t=>
  cases t with
  | false=>exact Z3G h
  | true=>rfl
theorem Z8X {F:Fn} {a b:Ex} {st:St}:Z0h (evE F (.bor a b) st) = (Z0h (evE F a st)).bind fun t st=>if t then .ok true st else Z0h (evE F b st):=by
 refine Eq.trans (R.bind_assoc (evE F a st) _ _) (Eq.trans ?_ (R.bind_assoc (evE F a st) _ _).symm)
 refine Z10 _ fun x st=>?_
 cases h:x.truthy st.σ with
 | none=>rfl
 | some t=>
  cases t with
  | false=>rfl
  | true=>exact Z3G h
theorem ZdP {α:Type} {o:Option α} {st st':St} {t:α} (h:R.lift o st = .ok t st'):st' = st:=by
 cases o <;> cases h; rfl
theorem Sim.tru {β γ:Type} {c:Cx} {st:St} {μ:List Addr} {s:Shared} {x:V} {u:Value} {f:Bool→Sem β} {g:Bool→St→R γ} {rel:St→List Addr→Heap→β→γ→Prop} (I:Inv c st μ s.heap) (rx:RepV (Tr st.σ μ) μ s.heap u x)
  (h:∀ t μ₁ (s₁:Shared),Inv c st μ₁ s₁.heap→RepV (Tr st.σ μ₁) μ₁ s₁.heap u x→Sim c (f t) (g t st) rel st.σ μ₁ s₁):Sim c (PySem.holding [u] (truthy u) >>= f) ((R.lift (x.truthy st.σ) st).bind g) rel st.σ μ s :=
 Sim.eq (Sim.holding (Z1J I rx)) fun t st₁ μ₁ s₁ e I₁ S₁=>by
  cases ZdP e
  exact h t μ₁ s₁ I₁ (RepV.step I S₁ rx)
theorem Z5c {a b:Ex} (ha:IOk W a) (hb:IOk W b):IOk W (.band a b):=by
 have key:∀ {g p},okE g (.band a b) p = true→∃ r y zs,okE g a (kid p 0) = true∧okE g b r = true∧pE (.band a b) p = .BoolOp .And (pE a (kid p 0) :: y :: zs) p.pos∧(∀ env,eval (.BoolOp .And (y :: zs) p.pos) env = eval (pE b r) env)∧∀ env,allTrue .And (y :: zs) env = isTrue (pE b r) env (eval (pE b r) env):=fun {g p} hk=>by
  refine El.x0_2 (ZcO (and2 hk).2) fun h2 h3=>?_
  refine El.x2_3 (Z8e .And (f:=flat p) (A:=pE a (kid p 0)) (B:=pE b (Z65 .And p)) (B':=pE b (kid p 1)) (q:=p.pos) fun e=>Ex.band.elim (motive_1:=fun b=>∃ y zs,pE b (Z65 .And p) = .BoolOp .And (y :: zs) p.pos) b (eq_of_beq (h3 e)) fun x y=>⟨_,_,rfl⟩) fun y zs e1 e2 e3=>?_
  rw [ZcP] at e2 e3
  exact ⟨_,y,zs,(and2 hk).1,h2,e1,e2,e3⟩
 refine ⟨fun g p c st μ s hk hg I=>El.x3_5 (key hk) fun r y zs h1 h2 e1 e2 _=>?_,fun g p c st μ s hk hg I=>El.x3_5 (key hk) fun r y zs h1 h2 e1 _ e3=>?_⟩
 ·refine Sim.of_eq (congrArg (fun x=>eval x c.env) e1) (Sim.one ha.1 h1 hg I fun x u st μ s rx I=>Sim.at (Sim.tru I rx fun t μ s I rx=>?_))
  cases t with
  | true=>exact Sim.of_eq (e2 c.env) (hb.1 g r c st μ s h2 hg I)
  | false=>exact Sim.pure I rx
 ·rw [e1]
  refine Sim.of_m Z70 (Sim.eq (ha.2 g _ c st μ s h1 hg I) fun t st₁ μ₁ s₁ _ I₁ S₁=>?_)
  cases t with
  | true=>exact Sim.of_eq (e3 c.env) (hb.2 g r c st₁ μ₁ s₁ h2 hg I₁)
  | false=>exact Sim.pure I₁ rfl
theorem Z71 {a b:Ex} (ha:IOk W a) (hb:IOk W b):IOk W (.bor a b):=by
 have key:∀ {g p},okE g (.bor a b) p = true→∃ r y zs,okE g a (kid p 0) = true∧okE g b r = true∧pE (.bor a b) p = .BoolOp .Or (pE a (kid p 0) :: y :: zs) p.pos∧(∀ env,eval (.BoolOp .Or (y :: zs) p.pos) env = eval (pE b r) env)∧∀ env,allTrue .Or (y :: zs) env = isTrue (pE b r) env (eval (pE b r) env):=fun {g p} hk=>by
  refine El.x0_2 (ZcO (and2 hk).2) fun h2 h3=>?_
  refine El.x2_3 (Z8e .Or (f:=flat p) (A:=pE a (kid p 0)) (B:=pE b (Z65 .Or p)) (B':=pE b (kid p 1)) (q:=p.pos) fun e=>Ex.bor.elim (motive_1:=fun b=>∃ y zs,pE b (Z65 .Or p) = .BoolOp .Or (y :: zs) p.pos) b (eq_of_beq (h3 e)) fun x y=>⟨_,_,rfl⟩) fun y zs e1 e2 e3=>?_
  rw [ZcP] at e2 e3
  exact ⟨_,y,zs,(and2 hk).1,h2,e1,e2,e3⟩
 refine ⟨fun g p c st μ s hk hg I=>El.x3_5 (key hk) fun r y zs h1 h2 e1 e2 _=>?_,fun g p c st μ s hk hg I=>El.x3_5 (key hk) fun r y zs h1 h2 e1 _ e3=>?_⟩
 ·refine Sim.of_eq (congrArg (fun x=>eval x c.env) e1) (Sim.one ha.1 h1 hg I fun x u st μ s rx I=>Sim.at (Sim.tru I rx fun t μ s I rx=>?_))
  cases t with
  | true=>exact Sim.pure I rx
  | false=>exact Sim.of_eq (e2 c.env) (hb.1 g r c st μ s h2 hg I)
 ·rw [e1]
  refine Sim.of_m Z8X (Sim.eq (ha.2 g _ c st μ s h1 hg I) fun t st₁ μ₁ s₁ _ I₁ S₁=>?_)
  cases t with
  | true=>exact Sim.pure I₁ rfl
  | false=>exact Sim.of_eq (e3 c.env) (hb.2 g r c st₁ μ₁ s₁ h2 hg I₁)
theorem Z72 {a:Ex} (ha:IOk W a):IOk W (.not a) :=
 ⟨fun g p c st μ s hk hg I=>Sim.of_eq (arm_eval_UnaryOp ..) (Sim.of_m (R.bind_assoc (evE W.F a st) _ _) (Sim.one ha.1 hk hg I fun x u st μ s rx I=>Sim.at (Sim.holding
   (Sim.imp (T:=truthy u >>= fun b=>pure (Value.bool (!b))) (fun Q h=>by unfold unaryOp; exact wpAny_holding h) (Sim.eq (Z1J I rx) fun t st₁ μ₁ s₁ _ I₁ _=>Sim.pure I₁ (.bool _)))))),
  fun g p c st μ s hk hg I=>Sim.of_eq (arm_isTrue_UnaryOp ..) (Sim.of_m (R.bind_assoc (Z0h (evE W.F a st)) _ _) (Sim.eq (ha.2 g _ c st μ s hk hg I) fun t st₁ μ₁ s₁ _ I₁ _=>Sim.pure I₁ rfl))⟩
theorem Z73 {i:Int}:EOk W (.neg i):=fun g p c st μ s hk hg I=>
 Sim.of_eq (arm_eval_UnaryOp ..) (Z0u I fun Q hq=>wpAny_bind (wpAny_Constant_int (wpAny_bind (wpAny_standAt (wpAny_holding (P.neg_int (hq _ _)))))))
theorem Z74 {d a b:Ex} (hd:IOk W d) (ha:IOk W a) (hb:IOk W b):IOk W (.ite d a b) :=
 ⟨fun g p c st μ s hk hg I=>Sim.of_eq (arm_eval_IfExp ..) (Sim.eq (hd.2 g _ c st μ s (and2 hk).1 hg I) fun t st₁ μ₁ s₁ _ I₁ _=>
   Sim.cond (fun _=>ha.1 g _ c st₁ μ₁ s₁ (and2 (and2 hk).2).1 hg I₁) fun _=>hb.1 g _ c st₁ μ₁ s₁ (and2 (and2 hk).2).2 hg I₁),
  fun g p c st μ s hk hg I=>Sim.of_eq (arm_isTrue_IfExp ..) (Sim.of_m ((R.bind_assoc (Z0h (evE W.F d st)) _ _).trans (Z10 _ fun t st=>by cases t <;> rfl)) (Sim.eq (g:=fun t st=>if t = true then Z0h (evE W.F a st) else Z0h (evE W.F b st)) (hd.2 g _ c st μ s (and2 hk).1 hg I) fun t st₁ μ₁ s₁ _ I₁ _=>
   Sim.cond (fun _=>ha.2 g _ c st₁ μ₁ s₁ (and2 (and2 hk).2).1 hg I₁) fun _=>hb.2 g _ c st₁ μ₁ s₁ (and2 (and2 hk).2).2 hg I₁))⟩
theorem Z75:EsOk W .nil:=fun _ _ _ _ _ _ _ _ _ I=>Sim.leaf I (wpAny_items_nil ⟨.refl,.refl,.nil⟩)
theorem Z5d {e:Ex} {es:Exs} (he:EOk W e) (hes:EsOk W es):EsOk W (.cons e es):=fun g ps c st μ s pos hk hg I=>by
 show Sim c (spliced (backTo pos (starEach (pE e (ps.headD default) :: pEs es ps.tail) c.env))) _ _ _ _ _
 rw [Z0t]
 exact Sim.bind (he g _ c st μ s (and2 hk).1 hg I) fun y st₁ v μ₁ s₁ _ rx I₁ S₁=>
  Sim.bind (t:=PySem.holding [v] (spliced (backTo pos (starEach (pEs es ps.tail) c.env)))) (f:=fun vs=>pure ([v]++vs)) (Sim.holding (hes g _ c st₁ μ₁ s₁ pos (and2 hk).2 hg I₁)) fun ys st₂ vs μ₂ s₂ _ rxs I₂ S₂=>Sim.pure I₂ (.cons (RepV.step I₁ S₂ rx) rxs)
theorem Sim.ite {α β:Type} {p:Prop} [Decidable p] {c:Cx} {t:Sem α} {m:R β} {rel:St→List Addr→Heap→α→β→Prop} {σ:List O} {μ:List Addr} {s:Shared} (h:p→Sim c t m rel σ μ s):Sim c t (if p then m else .stuck) rel σ μ s:=by
 by_cases q:p
 ·rw [if_pos q]; exact h q
 ·rw [if_neg q]; trivial
theorem Z76 {es:Exs} (h:EsOk W es):EOk W (.tup es):=fun g p c st μ s hk hg I=>
 Sim.of_eq (arm_eval_Tuple ..) (Sim.at (Sim.bind (h g _ c st μ s _ hk hg I) fun xs st₁ vs μ₁ s₁ _ rx I₁ S₁=>Sim.ite fun hz=>by
  have hz:vs.length ≤ sizeLine:=by rw [RepVs.length rx]; exact hz
  have hz':vs.toArray.size ≤ sizeLine:=by rw [List.size_toArray]; exact hz
  exact Sim.leaf I₁ (wpAny_newObj_type ⟨.push _,.refl,Z5U I₁ rx hz⟩ hz')))
theorem Z5e {es:Exs} (h:EsOk W es):EOk W (.list es):=fun g p c st μ s hk hg I=>
 Sim.of_eq (arm_eval_List ..) (Sim.at (Sim.bind (h g _ c st μ s _ hk hg I) fun xs st₁ vs μ₁ s₁ _ rx I₁ S₁=>Sim.ite fun hz=>by
  have hz:vs.length ≤ sizeLine:=by rw [RepVs.length rx]; exact hz
  have hz':vs.toArray.size ≤ sizeLine:=by rw [List.size_toArray]; exact hz
  exact Sim.leaf I₁ (wpAny_newObj_type ⟨.push _,.refl,Z1d I₁ rx hz⟩ hz')))
theorem Inv.track {c:Cx} {st:St} {μ:List Addr} {h:Heap} (I:Inv c st μ h) {o:Obj} {ob:O} (hf:o.isFreed = false) (hl:ob.live = true) (hk:Hk c.w ob) (hr:∀ T,(∀ b,T b→Tr st.σ μ b ∨ b = h.objs.size)→RepO T (μ++[h.objs.size]) (h.push o) h.objs.size ob) :
  Inv c ⟨st.ρ,st.σ++[ob]⟩ (μ++[h.objs.size]) (h.push o)∧Stp c st.σ μ h (st.σ++[ob]) (μ++[h.objs.size]) (h.push o):=by
 have hnm:h.objs.size ∉ μ:=fun q=>Nat.lt_irrefl _ (I.lt _ q)
 have tr:∀ b,Tr (st.σ++[ob]) (μ++[h.objs.size]) b→Tr st.σ μ b ∨ b = h.objs.size:=by
  intro b q16z
  refine El.x2_3 q16z fun k o' e1 e2 e3=>?_
  by_cases hk:k < st.σ.length
  ·rw [List.getElem?_append_left hk] at e1
   rw [List.getElem?_append_left (by rw [I.len]; exact hk)] at e3
   exact .inl ⟨k,o',e1,e2,e3⟩
  ·rw [List.getElem?_append_right (by rw [I.len]; lia)] at e3
   have hlt:k < (st.σ++[ob]).length:=(List.getElem?_eq_some_iff.mp e1).1
   simp only [List.length_append,List.length_singleton] at hlt
   have:k - μ.length = 0:=by rw [I.len]; lia
   rw [this] at e3
   exact .inr (by simpa using e3.symm)
 have S:Stp c st.σ μ h (st.σ++[ob]) (μ++[h.objs.size]) (h.push o) :=
  ⟨(Ext.push o).1,fun b o' e _ _=>(Ext.push o).2 b o' e,fun k a e=>by rw [List.getElem?_append_left (List.getElem?_eq_some_iff.mp e).1]; exact e,
   fun b q=>(tr b q).imp id fun e=>Nat.le_of_eq e.symm,fun a q=>(List.mem_append.mp q).imp id fun e=>Nat.le_of_eq (List.mem_singleton.mp e).symm,fun k e=>by rw [List.getElem?_append_left (List.getElem?_eq_some_iff.mp e).1]; exact e,fun _ a o' _ _ q=>(Ext.push o).2 a o' q⟩
 have I':=I.ext (Ext.push o)
 refine ⟨⟨fun i x q=>?_,I'.slots,fun k o' q=>?_,by simp [I.len],?_,fun a q=>?_,I'.base,I.baseS,fun a q=>?_,fun b q m=>?_,ZcG I.kd hk⟩,S⟩
 ·refine El.x2_3 (I.vars i x q) fun sl v g1 g2 g3=>?_
  exact ⟨sl,v,g1,g2.keeps fun o' e=>(Ext.push o).2 _ o' e,g3.step (st':=⟨st.ρ,st.σ++[ob]⟩) I S⟩
 ·dsimp only at q ⊢
  by_cases hk:k < st.σ.length
  ·rw [List.getElem?_append_left hk] at q
   refine El.x1_2 (I.objs k o' q) fun a ha r=>?_
   refine ⟨a,by rw [List.getElem?_append_left (by rw [I.len]; exact hk)]; exact ha,?_⟩
   exact r.map (fun _ ho=>((Ext.push o).2 _ _ ho)) fun _ _ r=>(RepVs.step (st':=⟨st.ρ,st.σ++[ob]⟩) I S r)
  ·have hlt:k < (st.σ++[ob]).length:=(List.getElem?_eq_some_iff.mp q).1
   simp only [List.length_append,List.length_singleton] at hlt
   have e0:k = st.σ.length:=by lia
   try clear r; try clear g3; try clear g2; try clear g1; try clear v; try clear sl; try clear x; try clear i; try clear S; try clear hlt; try clear e3; try clear e2
   subst e0
   have e4:ob = o':=by simpa using q
   try clear e0; try clear e1; try clear k; try clear q16z
   subst e4
   exact ⟨h.objs.size,by rw [← I.len]; simp,hr _ tr⟩
 ·refine List.nodup_append.mpr ⟨I.nd,by simp,?_⟩
  intro a ha b hb
  rw [List.mem_singleton.mp hb]
  exact fun e=>hnm (e ▸ ha)
 ·rw [Heap.size_push]
  rcases List.mem_append.mp q with q | q
  ·exact Nat.lt_succ_of_lt (I.lt a q)
  ·rw [List.mem_singleton.mp q]; exact Nat.lt_succ_self _
 ·rcases List.mem_append.mp q with q | q
  ·exact I.baseM a q
  ·rw [List.mem_singleton.mp q]
   cases hb:c.base.get? h.objs.size with
   | none=>rfl
   | some o'=>exact absurd (Heap.lt_size (I.base _ _ hb)) (Nat.lt_irrefl _)
 ·rcases List.mem_append.mp m with m | m
  ·exact I.sep b q m
  ·refine El.x1_1 (Z1A I q) fun o' ho'=>?_
   rw [List.mem_singleton.mp m] at ho'
   exact Nat.lt_irrefl _ (Heap.lt_size ho')
theorem Z3H {es:Exs} (h:EsOk W es):EOk W (.listM es):=fun g p c st μ s hk hg I=>
 Sim.of_eq (arm_eval_List ..) (Sim.at (Sim.bind (h g _ c st μ s _ hk hg I) fun xs st₁ vs μ₁ s₁ _ rx I₁ S₁=>Sim.ite fun hz=>by
  have hz':vs.toArray.size ≤ sizeLine:=by rw [List.size_toArray,RepVs.length rx]; exact hz
  refine El.x0_2 (I₁.track (o:={ cls:=.type "list",data:=.seq vs.toArray }) (ob:=.lst xs) rfl rfl trivial fun T hT=>.lst (Heap.get?_push_size _ rfl) hz' ?_) fun I₂ S₂=>?_
  ·exact RepVs.move (fun a o e _ hn=>⟨(Ext.push _).2 a o e,fun q=>(hT a q).elim hn fun e'=>Nat.lt_irrefl _ (e' ▸ Heap.lt_size e)⟩)
    (fun k a e=>by rw [List.getElem?_append_left (List.getElem?_eq_some_iff.mp e).1]; exact e) rx
  ·exact wpAny_newObj_type ⟨_,.ref (by rw [← I₁.len]; simp),I₂,S₂,.refl⟩ hz'))
theorem Z77 {a i:Ex} (ha:EOk W a) (hi:EOk W i):EOk W (.sub a i):=fun g p c st μ s hk hg I=>
 Sim.of_eq (eval_Subscript ..) (Sim.two ha hi (and2 hk).1 (and2 hk).2 hg I fun x y u v st μ s rx ry I=>Sim.at (Zdw hg.ok (value:=pE a (kid p 0)) I rx ry (ZbK (Z2F i _))))
end
noncomputable def OOk (W:Wo) (e:Exo):Prop:=∀ (g:Gm) (p:Expr) (c:Cx) (st:St) (μ:List Addr) (s:Shared),okO g e p = true→Good W c g→Inv c st μ s.heap→Sim c (valueOrNone (evalOpt (pO e p) c.env)) (evO W.F e st) rV st.σ μ s
section
variable {W:Wo}
theorem Z3I:OOk W .none:=fun _ _ _ _ _ _ _ _ I=>Sim.pure I .none
theorem Z3J {e:Ex} (h:EOk W e):OOk W (.some e):=h
theorem Z3K {a:Ex} {lo hi:Exo} (ha:EOk W a) (hlo:OOk W lo) (hhi:OOk W hi):EOk W (.slice a lo hi):=fun g p c st μ s hk hg I=>by
 refine Sim.of_eq (eval_Subscript ..) (Sim.bind (ha g _ c st μ s (and2 hk).1 hg I) fun x st₁ ov μ₁ s₁ _ rx I₁ S₁=>?_)
 have hs:Sim c (eval (.Slice (pO lo (kid (kid p 1) 0)) (pO hi (kid (kid p 1) 1)) none (kid p 1).pos) c.env) ((evO W.F lo st₁).bind fun yl st=>(evO W.F hi st).bind fun yu st=>.ok (yl,yu) st)
   (fun st μ h i q=>∃ vl vu sa,i = .ref sa∧h.IsSliceOf sa vl vu .none∧RepV (Tr st.σ μ) μ h vl q.1∧RepV (Tr st.σ μ) μ h vu q.2) st₁.σ μ₁ s₁ :=
  Sim.of_eq (arm_eval_Slice ..) (Sim.bind (hlo g _ c st₁ μ₁ s₁ (and2 (and2 hk).2).1 hg I₁) fun yl st₂ vl μ₂ s₂ _ rl I₂ S₂=>Sim.bind (Sim.holding (hhi g _ c st₂ μ₂ s₂ (and2 (and2 hk).2).2 hg I₂)) fun yu st₃ vu μ₃ s₃ _ ru I₃ S₃=>
   Sim.leaf I₃ (wpAny_bind (wpAny_holding (wpAny_pure (wpAny_newObj_type ⟨.push _,.refl,vl,vu,_,rfl,Heap.IsSliceOf.new ..,(RepV.step I₂ S₃ rl).ext (.push _),ru.ext (.push _)⟩)))))
 refine Sim.of_m (m':=((evO W.F lo st₁).bind fun yl st=>(evO W.F hi st).bind fun yu st=>R.ok (yl,yu) st).bind fun q st=>R.lift (Z0A st.σ x q.1 q.2) st) ((R.bind_assoc (evO W.F lo st₁) _ _).trans (Z10 _ fun yl st=>R.bind_assoc (evO W.F hi st) (fun yu st=>R.ok (yl,yu) st) (fun q st=>R.lift (Z0A st.σ x q.1 q.2) st))).symm ?_
 refine Sim.bind (Sim.holding hs) fun q st₂ i μ₂ s₂ _ rq I₂ S₂=>Sim.at ?_
 refine El.x3_4 rq fun vl vu sa e hsl rl ru=>?_
 subst e
 exact Z9H I₂ (RepV.step I₁ S₂ rx) rl ru hsl
theorem Z34 {c:Cx} {g:Gm} {st:St} {μ:List Addr} {s:Shared} {x:String} {pos:Pos} {v:Value} (hg:Good W c g) (I:Inv c st μ s.heap) (hx:g.gl (Str.ofString x) = true)
  (hm:x ∈ (["isinstance","len","int","bool","list","tuple","str","range","enumerate","zip","set","sorted","min","max"]:List String)) (hv:bootBuiltins (Str.ofString x) = some v)
  {Q:Value→Shared→Prop} {E:Value→Shared→Prop} (h:Q v s):wpAny (model c.prog c.w) c.A (eval (.Name (Str.ofString x) pos) c.env) Q E s:=by
 refine El.x0_2 (Za4 hx) fun h1 h2=>?_
 have hk:c.env.scope.kind = .function:=by rw [hg.nm.sc]; exact hg.nm.kind
 refine Name_function_global hk (by unfold Env.kindOf; rw [hg.nm.sc]; exact h1) (loadGlobal_builtin (mg:=W.mg) (mb:=W.mb) ?_ (hg.gd.free x hm) ?_ ?_ h) h2
 ·rw [hg.nm.glob]; exact hg.gd.g.keeps I.base
 ·rw [hg.nm.blt]; exact hg.gd.b.keeps I.base
 ·rw [hg.gd.blt _ ?_]; exact hv
  simp only [List.mem_cons,List.not_mem_nil,or_false] at hm
  try clear hk; try clear h2; try clear h1
  rcases hm with rfl | rfl | rfl | rfl | rfl | rfl | rfl | rfl | rfl | rfl | rfl | rfl | rfl | rfl <;> decide
theorem Z1Z {c:Cx} {g:Gm} {st:St} {μ:List Addr} {s:Shared} {x:Str} {pos:Pos} {v:Value} (hg:Good W c g) (I:Inv c st μ s.heap) (hx:g.gl x = true) (hv:W.mg x = some v)
  {Q:Value→Shared→Prop} {E:Value→Shared→Prop} (h:Q v s):wpAny (model c.prog c.w) c.A (eval (.Name x pos) c.env) Q E s:=by
 refine El.x0_2 (Za4 hx) fun h1 h2=>?_
 have hk:c.env.scope.kind = .function:=by rw [hg.nm.sc]; exact hg.nm.kind
 exact Name_function_global hk (by unfold Env.kindOf; rw [hg.nm.sc]; exact h1) (loadGlobal_global (mg:=W.mg) (by rw [hg.nm.glob]; exact hg.gd.g.keeps I.base) hv h) h2
theorem Z78 (x:Str) (p:Pos):Z18 (.Name x p):=fun _ _=>rfl
theorem Z5f {pos:Pos} {env:Env}:∀ {xs:List Expr},(∀ x ∈ xs,Z18 x)→(backTo pos (starEach xs env)).any (·.1) = false
 | [],_=>rfl
 | x :: xs,h=>by
  rw [h x (List.mem_cons_self ..)]
  show (false || (backTo pos (starEach xs env)).any (·.1)) = false
  rw [Z5f fun y hy=>h y (List.mem_cons_of_mem _ hy)]; rfl
theorem Z2G {M:Model} {A:Around} {E:Value→Shared→Prop} {s:Shared} {pos:Pos} {env:Env} {f:Value} {x:Expr} {xs:List Expr} (hx:Z18 x) {Q:Args→Shared→Prop}
  (h:wpAny M A (spliced (backTo pos (starEach (x :: xs) env))) (fun vs s'=>Q ⟨vs,[]⟩ s') E s):wpAny M A (evalArgs f true (backTo pos (starEach (x :: xs) env)) []) Q E s:=by
 rw [hx] at h ⊢
 exact evalArgs_plain h
theorem ZbM {M:Model} {A:Around} {E:Value→Shared→Prop} {s:Shared} {pos:Pos} {env:Env} {id:String} {first:List Value} {x:Expr} {xs:List Expr} (hx:∀ y ∈ x :: xs,Z18 y) {Q:Value→Shared→Prop}
  (h:wpAny M A (spliced (backTo pos (starEach (x :: xs) env))) (fun vs s₁=>wpAny M A (call (.builtin id) (first++vs)) Q E s₁) E s) :
  wpAny M A (callWith pos (.builtin id) first (backTo pos (starEach (x :: xs) env)) []) Q E s :=
 callWith_builtin (Z5f hx) (Z2G (hx x (List.mem_cons_self ..)) h)
theorem ZeR {M:Model} {A:Around} {E:Value→Shared→Prop} {s:Shared} {pos:Pos} {env:Env} {T:String} {x:Expr} {xs:List Expr} (hx:∀ y ∈ x :: xs,Z18 y) {Q:Value→Shared→Prop}
  (h:wpAny M A (spliced (backTo pos (starEach (x :: xs) env))) (fun vs s₁=>wpAny M A (call (.type T) vs) Q E s₁) E s) :
  wpAny M A (callWith pos (.type T) [] (backTo pos (starEach (x :: xs) env)) []) Q E s :=
 PyProof.Rows.callWith_type (first:=[]) (Z5f hx) (Z2G (hx x (List.mem_cons_self ..)) h)
theorem Z20 {α β:Type} {c:Cx} {σ:List O} {μ:List Addr} {s:Shared} {pos:Pos} {x:Expr} {xs:List Expr} {m:R α} {k:α→St→R β} {rel:St→List Addr→Heap→Value→α→Prop} {rel':St→List Addr→Heap→List Value→β→Prop}
  (hx:Z18 x) (h:Sim c (eval x c.env) m rel σ μ s)
  (hk:∀ b st₁ v μ₁ s₁,m = .ok b st₁→rel st₁ μ₁ s₁.heap v b→Inv c st₁ μ₁ s₁.heap→Stp c σ μ s.heap st₁.σ μ₁ s₁.heap→Sim c (spliced (backTo pos (starEach xs c.env)) >>= fun vs=>pure (v :: vs)) (k b st₁) rel' st₁.σ μ₁ s₁) :
  Sim c (spliced (backTo pos (starEach (x :: xs) c.env))) (m.bind k) rel' σ μ s:=by
 rw [hx]
 show Sim c (do
  let v ← eval x c.env
  let here ← (pure [v]:Sem (List Value))
  return here++(← holding here (spliced (backTo pos (starEach xs c.env))))) _ _ _ _ _
 refine Sim.bind h fun b st₁ v μ₁ s₁ e r I₁ S₁=>?_
 have:=hk b st₁ v μ₁ s₁ e r I₁ S₁
 refine Sim.imp (fun Q q=>?_) this
 show wpAny _ _ (holding [v] (spliced (backTo pos (starEach xs c.env))) >>= fun vs=>pure ([v]++vs)) Q _ _
 exact fun Γ p hΓ=>by
  have:=q Γ p hΓ
  rw [Sem.wp_bind'] at this ⊢
  rw [Sem.wp_holding]
  exact this
theorem Z2H {y:Expr} {x:Expr} (h:Z18 x) (hy:y ∈ [x]):Z18 y:=List.mem_singleton.mp hy ▸ h
theorem Z8f {α:Type} (m:R α):m = m.bind fun y st=>.ok y st:=by cases m <;> rfl
theorem Z3g {α β:Type} (m:R α) (k:α→St→R β):m.bind k = (m.bind fun y st=>.ok y st).bind k:=congrArg (fun m=>R.bind m k) (Z8f m)
theorem Z5g {β:Type} {c:Cx} {σ:List O} {μ:List Addr} {s:Shared} {pos:Pos} {x:Expr} {m:R β} {rel:St→List Addr→Heap→Value→β→Prop} (hx:Z18 x) (h:Sim c (eval x c.env) m rel σ μ s) :
  Sim c (spliced (backTo pos (starEach [x] c.env))) (m.bind fun y st=>.ok y st) (fun st μ h vs y=>∃ u,vs = [u]∧rel st μ h u y) σ μ s :=
 Z20 hx h fun y st₂ u μ₂ s₂ _ ry I₂ S₂=>Sim.leaf I₂ (wpAny_bind (wpAny_items_nil (wpAny_pure ⟨.refl,.refl,u,rfl,ry⟩)))
theorem Sim.name {β:Type} {c:Cx} {g:Gm} {st:St} {μ:List Addr} {s:Shared} {x:String} {pos:Pos} {v:Value} {f:Value→Sem Value} {m:R β} {rel:St→List Addr→Heap→Value→β→Prop} (hg:Good W c g) (I:Inv c st μ s.heap) (hx:g.gl (Str.ofString x) = true)
  (hm:x ∈ (["isinstance","len","int","bool","list","tuple","str","range","enumerate","zip","set","sorted","min","max"]:List String)) (hv:bootBuiltins (Str.ofString x) = some v) (h:Sim c (f v) m rel st.σ μ s):Sim c (eval (.Name (Str.ofString x) pos) c.env >>= f) m rel st.σ μ s :=
 Sim.imp (fun Q h=>wpAny_bind (Z34 hg I hx hm hv h)) h
theorem Z5h {a:Ex} {t:Ty} (ha:EOk W a):EOk W (.isin a t):=fun g p c st μ s hk hg I=>by
 have hty:bootBuiltins (Str.ofString (tyN t)) = some (.type (tyN t))∧tyN t ∈ (["isinstance","len","int","bool","list","tuple","str","range","enumerate","zip","set","sorted","min","max"]:List String):=by
  cases t
  ·exact ⟨Z8d,by decide⟩
  ·exact ⟨Za6,by decide⟩
  ·exact ⟨Z67,by decide⟩
  ·exact ⟨Z8V,by decide⟩
  ·exact ⟨ZbL,by decide⟩
 refine Sim.of_eq (arm_eval_Call_Name' ..) (Sim.name hg I (and2 (and2 hk).1).1 (by decide) Z3F (Sim.of_m (Z3g ..) ?_))
 refine Sim.via (rel:=fun st μ h vs y=>∃ u,vs = [u,.type (tyN t)]∧RepV (Tr st.σ μ) μ h u y) (f:=fun vs=>call (.builtin "isinstance") vs) (fun Q h=>ZbM (first:=[]) (fun y hy=>?_) h)
  (Z20 (Z0t a _) (ha g _ c st μ s (and2 hk).2 hg I) fun y st₂ u μ₂ s₂ _ ry I₂ S₂=>Sim.leaf I₂ (wpAny_bind (wpAny_items_cons (Z34 hg I₂ (and2 (and2 hk).1).2 hty.2 hty.1 (wpAny_items_nil (wpAny_pure ⟨.refl,.refl,u,rfl,ry⟩))))))
  fun y st₂ vs μ₂ s₂ _ hu I₂ S₂=>El.x1_2 hu fun u e ry=>e ▸ ZbG I₂ ry t
 exact (List.mem_cons.mp hy).elim (fun e=>e ▸ Z0t a _) fun hy=>Z2H (Z78 _ _) hy
theorem Z19 {β δ:Type} {c:Cx} {g:Gm} {st:St} {μ:List Addr} {s:Shared} {x:Expr} {p pos:Pos} {fn:String} {fv:Value} {rel:St→List Addr→Heap→Value→β→Prop} {rel':St→List Addr→Heap→Value→δ→Prop} {m:R β} {k:β→St→R δ}
  (hfv:(∃ b,fv = .builtin b) ∨ ∃ T,fv = .type T) (hb:bootBuiltins (Str.ofString fn) = some fv) (hm:fn ∈ (["isinstance","len","int","bool","list","tuple","str","range","enumerate","zip","set","sorted","min","max"]:List String))
  (hg:Good W c g) (I:Inv c st μ s.heap) (h1:g.gl (Str.ofString fn) = true) (hx:Z18 x) (ha:Sim c (eval x c.env) m rel st.σ μ s)
  (hk:∀ b st₁ u μ₁ s₁,rel st₁ μ₁ s₁.heap u b→Inv c st₁ μ₁ s₁.heap→Sim c (call fv [u]) (k b st₁) rel' st₁.σ μ₁ s₁) :
  Sim c (eval (.Call (.Name (Str.ofString fn) p) [x] [] pos) c.env) (m.bind k) rel' st.σ μ s:=by
 refine Sim.of_eq (arm_eval_Call_Name' ..) (Sim.name hg I h1 hm hb (Sim.of_m (Z3g ..) (Sim.via (f:=fun vs=>call fv vs) (fun Q h=>?_) (Z5g (pos:=pos) hx ha) fun y st₂ vs μ₂ s₂ _ hu I₂ S₂=>El.x1_2 hu fun u e ry=>e ▸ hk y st₂ u μ₂ s₂ ry I₂)))
 rcases hfv with ⟨b,rfl⟩ | ⟨T,rfl⟩
 ·exact ZbM (first:=[]) (fun y=>Z2H hx) h
 ·exact ZeR (fun y=>Z2H hx) h
theorem Z8g:bootBuiltins (Str.ofString "set") = some (.type "set"):=by decide +kernel
theorem Z3L:bootBuiltins (Str.ofString "sorted") = some (.builtin "sorted"):=by decide +kernel
theorem ZbN:bootBuiltins (Str.ofString "min") = some (.builtin "min"):=by decide +kernel
theorem ZbO (f:Bi):bootBuiltins (Str.ofString (Za2 f)) = some (biV f):=by
 cases f
 ·exact Z8c
 ·exact Z8d
 ·exact Z67
 ·exact Z3L
theorem Za7 {a:Ex} {f:Bi} (ha:EOk W a):EOk W (.bi f a):=fun g p c st μ s hk hg I=>
 Z19 (by cases f <;> first | exact .inl ⟨_,rfl⟩ | exact .inr ⟨_,rfl⟩) (ZbO f) (by cases f <;> decide) hg I (and2 hk).1 (Z0t a _) (ha g _ c st μ s (and2 hk).2 hg I) fun x st₁ u μ₁ s₁ rx I₁=>ZeM hg.ok I₁ rx f
theorem Z2I {o:Expr}:ZbJ o = true→∀ (name:Str) (env:Env) (whole:Sem Value),attributeBase o name env whole = whole:=by
 cases o <;> first | exact fun _ _ _ _=>rfl | exact fun h=>absurd h Bool.false_ne_true
theorem Z4G (vs:Array Value):(vs.eraseIdxIfInBounds (vs.size - 1)).toList = vs.toList.dropLast:=by
 unfold Array.eraseIdxIfInBounds
 split
 ·rw [Array.toList_eraseIdx,← Array.length_toList,List.eraseIdx_length_sub_one]
 ·have:vs.size = 0:=by omega
  have:vs = #[]:=by simpa using this
  subst this; rfl
theorem RepVs.dropLast {T:Addr→Prop} {μ:List Addr} {h:Heap} {vs:List Value} {xs:List V} (r:RepVs T μ h vs xs):RepVs T μ h vs.dropLast xs.dropLast:=by
 rw [List.dropLast_eq_take,List.dropLast_eq_take,r.length]
 exact r.take _
theorem Z8h {b:Bool} {o:Expr} {env:Env} {apos pos:Pos} (h:(apos.endLine == pos.line) = true):methodCallPos true o env apos pos = pure pos:=by
 have h:=eq_of_beq h
 unfold methodCallPos; simp [h]
theorem Z79 {a:Ex} (ha:EOk W a):EOk W (.pop a):=fun g p c st μ s hk hg I=>by
 refine Sim.of_eq (arm_eval_Call ..) (Sim.of_eq (congrArg (fun t=>t >>= _) (Z2I (and2 (and2 hk).1).2 ..)) (Sim.one ha (and2 hk).2 hg I fun x u st μ s rx I=>Sim.at (Sim.ok fun y st' h=>?_)))
 refine El.x2_4 (Zbq h) fun k xs e1 hn hy e2=>?_
 subst e1; subst e2
 refine El.x2_4 (I.ref_inv rx hn) fun a' vs e3 q hz r=>?_
 subst e3
 refine El.x1_1 q fun k' ho=>?_
 have el:=r.length
 rw [Array.length_toList] at el
 rw [List.getLast?_eq_getElem?] at hy
 refine El.x1_2 (r.get hy) fun v hv ry=>?_
 rw [Array.getElem?_toList,← el] at hv
 have hob:(s.heap.update a' (Obj.mapSeq fun xs=>xs.eraseIdxIfInBounds (vs.size - 1))).get? a' = some { cls:=.type "list",data:=.seq (vs.eraseIdxIfInBounds (vs.size - 1)) _ }:=IsL.update ho _
 refine El.x0_2 (I.updL (xs':=xs.dropLast) hn rx.refA (Heap.SameBut.update ..) hob (by rw [← Array.length_toList,Z4G,List.length_dropLast,Array.length_toList]; omega) (by rw [Z4G]; exact r.dropLast)) fun I' S'=>?_
 unfold methodCall
 exact wpAny_bind (wpAny_holding (getMethod_builtin (T:="list") ⟨_,ho,rfl⟩ PySem.F.plainAttrs_list PySem.F.slot_list_pop PySem.F.type_list_pop (fun a h=>by cases h; exact ⟨_,ho,rfl⟩)
  (wpAny_bind (wpAny_of_eq (Z8h (b:=true) (and2 (and2 hk).1).1) (P.pop_list ho hv ⟨μ,ry.step (st':=⟨st.ρ,st.σ.set k (.lst xs.dropLast)⟩) I S',I',S',.refl⟩ hz)))))
theorem ZbP {σ:List O} {k:Nat} (h:Z5Q σ .append (.ref k) = true):∃ xs,σ[k]? = some (.lst xs):=by
 have h:(match σ[k]? with | some (.lst _)=>true | _=>false) = true:=h
 cases hk:σ[k]? with
 | none=>rw [hk] at h; cases h
 | some o=>rw [hk] at h; cases o <;> first | exact ⟨_,rfl⟩ | cases h
theorem Za8 {m:Me} {a b:Ex} (ha:EOk W a) (hb:EOk W b):EOk W (.me m a b):=fun g p c st μ s hk hg I=>by
 refine Sim.of_eq (arm_eval_Call ..) (Sim.of_eq (congrArg (fun t=>t >>= _) (Z2I (and2 (and2 hk).1).2 ..)) (Sim.one ha (and2 (and2 hk).2).1 hg I fun x u st₁ μ₁ s₁ rx I₁=>Sim.at (Sim.ite fun hr=>?_)))
 have meth:∀ {T id:String},PlainAttrs T→PySem.Slot T (Str.ofString (Za1 m)) id→typeOf (.builtin id) = pure (.type "method_descriptor")→s₁.TypeIs u T→(∀ a,u = .ref a→∃ ob,s₁.heap.get? a = some ob∧ob.dict = none)→id = meN m →
   Sim c (methodCall (pE a (kid (kid p 0) 0)) (Str.ofString (Za1 m)) (kid p 0).pos p.pos c.env u ([pE b (kid p 1)].length + ([]:List Keyword).length) (backTo p.pos (starEach [pE b (kid p 1)] c.env)) (backToKw p.pos (keywordEach [] c.env))) ((evE W.F b st₁).bind fun y st=>Z1p m x y st) rV st₁.σ μ₁ s₁:=by
  rintro T id pa slot hty hT hd rfl
  refine Sim.of_m (Z3g ..) (Sim.via (f:=fun vs=>call (.builtin (meN m)) ([u]++vs)) (fun Q h=>?_) (Z5g (pos:=p.pos) (Z0t b _) (hb g _ c st₁ μ₁ s₁ (and2 (and2 hk).2).2 hg I₁)) fun y st₂ vs μ₂ s₂ _ hu I₂ S₂=>El.x1_2 hu fun v e ry=>e ▸ ZcN I₂ (RepV.step I₁ S₂ rx) ry m)
  have hform:methodCallForm ([pE b (kid p 1)].length + ([]:List Keyword).length) (backTo p.pos (starEach [pE b (kid p 1)] c.env)) (backToKw p.pos (keywordEach [] c.env)) = true:=by rw [Z0t]; rfl
  unfold methodCall
  rw [hform]
  exact wpAny_bind (wpAny_holding (getMethod_builtin hT pa slot hty hd (wpAny_bind (wpAny_of_eq (Z8h (b:=true) (and2 (and2 hk).1).1) (ZbM (first:=[u]) (fun y=>Z2H (Z0t b _)) h)))))
 cases m with
 | append=>
  cases x with
  | ref k=>
   refine El.x1_1 (ZbP hr) fun xs hn=>?_
   refine El.x2_4 (I₁.ref_inv rx hn) fun a' vs e q hz r=>?_
   subst e
   refine El.x1_1 q fun k' ho=>?_
   exact meth PySem.F.plainAttrs_list PySem.F.slot_list_append PySem.F.type_list_append ⟨_,ho,rfl⟩ (fun a h=>by cases h; exact ⟨_,ho,rfl⟩) rfl
  | _=>exact absurd hr Bool.false_ne_true
 | join=>
  cases x with
  | str l=>exact El.x2_4 (RepV.str_inv rx) fun z t e _ _ _=>by subst e; exact meth PySem.F.plainAttrs_str PySem.F.slot_str_join PySem.F.type_str_join (typeIs_str _ _ _) (fun a h=>nomatch h) rfl
  | _=>exact absurd hr Bool.false_ne_true
theorem ZbQ {es:Exs} (he:EsOk W es) {g:Gm} {ps:List Expr} {c:Cx} {st:St} {μ:List Addr} {s:Shared} {pos:Pos} {f:Value} (hk:okEs g es ps = true) (hg:Good W c g) (I:Inv c st μ s.heap) :
  Sim c (evalArgs f true (backTo pos (starEach (pEs es ps) c.env)) []) (evEs W.F es st) (fun st μ h (x:Args) ys=>x.kw = []∧RepVs (Tr st.σ μ) μ h x.pos ys) st.σ μ s:=by
 cases es with
 | nil=>exact Sim.leaf I (PySem.evalArgs_none ⟨.refl,.refl,rfl,.nil⟩)
 | cons e es=>
  have:=he g ps c st μ s pos hk hg I
  refine Sim.ok fun xs st₁ hE=>?_
  rw [hE] at this
  exact wpAny_mono (Z2G (f:=f) (Q:=fun x s'=>∃ μ',RepVs (Tr st₁.σ μ') μ' s'.heap x.pos xs∧x.kw = []∧Inv c st₁ μ' s'.heap∧Stp c st.σ μ s.heap st₁.σ μ' s'.heap∧Same s s') (Z0t e _)
   (wpAny_mono this (fun vs s' q8=>El.x1_4 q8 fun μ' g1 g2 g3 g4=>⟨μ',g1,rfl,g2,g3,g4⟩) fun _ _ e=>e)) (fun x s' q8=>El.x1_5 q8 fun μ' g1 g2 g3 g4 g5=>⟨μ',⟨g2,g1⟩,g3,g4,g5⟩) fun _ _ e=>e
theorem Z5i {f:Str} {es:Exs} (he:EsOk W es):EOk W (.call f es):=fun g p c st μ s hk hg I=>by
 refine Sim.of_eq (arm_eval_Call_Name' ..) (Sim.ok fun r stF h=>?_)
 refine El.x2_2 (R.bind_inv h) fun xs st₁ hE h=>?_
 have h:Z8M (W.F f xs st₁.σ) st₁.ρ = .ok r stF:=h
 cases hC:W.F f xs st₁.σ with
 | stuck=>rw [hC] at h; cases h
 | exc _ _=>rw [hC] at h; cases h
 | ok r' st₂=>
  rw [hC] at h
  cases h
  refine El.x3_4 (hg.fn.fn f xs st₁.σ r st₂ hC (and2 (and2 hk).1).1) fun fa fo fd k1 k2 k3 hcall=>?_
  refine wpAny_bind (Z1Z hg I (and2 (and2 hk).1).2 k1 ?_)
  have hargs:=ZbQ (f:=.ref fa) (pos:=p.pos) he (and2 hk).2 hg I
  rw [hE] at hargs
  refine callWith_function_kw (o:=fo) (fd:=fd) (wpAny_mono hargs (fun x s₁ ⟨μ₁,⟨g1,g2⟩,g3,g4,g5⟩=>⟨⟨g3.base _ _ k2,k3⟩,?_⟩) fun _ _ e=>e.elim)
  rw [g1,List.nil_append]
  refine wpAny_mono (hcall c μ₁ s₁ x.pos rfl rfl rfl hg.a g3.bare g2) (fun v s₂ q8=>El.x1_4 q8 fun μ₂ q1 q2 q3 q4=>?_) fun _ _ e=>e
  exact El.x0_2 (g3.back q2 q3) fun I₂ S₂=>⟨μ₂,q1,I₂,g4.trans S₂,g5.trans q4⟩
theorem Z5j {x:Str} {i:Int}:EOk W (.glob x i):=fun g p c st μ s hk hg I=>
 El.x1_1 (hg.gs _ _ (of_decide_eq_true (and2 hk).2)) fun t ht=>Sim.leaf I (Z1Z hg I (and2 hk).1 ht ⟨.refl,.refl,.int i t⟩)
end
noncomputable def rFl (st:St) (μ:List Addr) (h:Heap) (f:Flow) (x:Fl):Prop :=
 match f,x with
 | .next,.next=>True
 | .brk,.brk=>True
 | .cont,.cont=>True
 | .ret v,.ret y=>RepV (Tr st.σ μ) μ h v y
 | _,_=>False
noncomputable def rU {α:Type} (_:St) (_:List Addr) (_:Heap) (_:α) (_:Unit):Prop:=True
theorem Inv.store {c:Cx} {st:St} {μ:List Addr} {h h':Heap} (I:Inv c st μ h) {i:Nat} {s:Slot} {v:Value} {y:V} (ap:∀ i j s,c.sl i = some s→c.sl j = some s→i = j) (hs:c.sl i = some s)
  (hb:Heap.SameBut s.own h h') (hv:s.Holds h' v) (ho:∀ t:Slot,t ≠ s→t.own = s.own→(t.Ok h→t.Ok h')∧∀ u,t.Holds h u→t.Holds h' u) (r:RepV (Tr st.σ μ) μ h v y) :
  Inv c (setV st i y) μ h'∧Stp c st.σ μ h st.σ μ h':=by
 have own:Own c s.own:=⟨i,s,hs,rfl⟩
 have S:Stp c st.σ μ h st.σ μ h':=⟨Nat.le_of_eq hb.1.symm,fun b o e hO _=>(hb.2 b fun (k:b = s.own)=>hO (k ▸ own)).trans e,fun _ _ q=>q,fun _ q=>.inl q,fun _ q=>.inl q,fun _ q=>q,fun n a o _ e2 e3=>(hb.2 a fun (k:a = s.own)=>I.sep _ own (k ▸ List.mem_of_getElem? e2)).trans e3⟩
 have mv:∀ {v:Value} {x:V},RepV (Tr st.σ μ) μ h v x→RepV (Tr st.σ μ) μ h' v x:=fun r=>r.step (st':=st) I S
 have mvs:∀ {v:List Value} {x:List V},RepVs (Tr st.σ μ) μ h v x→RepVs (Tr st.σ μ) μ h' v x:=fun r=>r.step (st':=st) I S
 have okS:s.Ok h':=by
  cases s with
  | d D n=>obtain ⟨m,hm,_⟩:=hv; exact ⟨m,hm⟩
  | c a=>exact ⟨_,hv⟩
 refine ⟨⟨fun j x q=>?_,fun j t q=>?_,fun k o q=>?_,I.len,I.nd,fun a q=>by rw [hb.1]; exact I.lt a q,fun b o q=>?_,I.baseS,I.baseM,I.sep,I.kd⟩,S⟩
 ·simp only [setV] at q ⊢
  by_cases hj:i = j
  ·try clear hm; try clear m; try clear S
   subst hj
   have hlt:i < st.ρ.length:=by have:=(List.getElem?_eq_some_iff.mp q).1; simpa using this
   have e4:y = x:=by simpa [hlt] using q
   try clear hlt
   subst e4
   exact ⟨s,v,hs,hv,mv r⟩
  ·rw [List.getElem?_set_ne hj] at q
   refine El.x2_3 (I.vars j x q) fun t u g1 g2 g3=>?_
   have hts:t ≠ s:=fun e=>hj (ap i j s hs (e ▸ g1))
   refine ⟨t,u,g1,?_,mv g3⟩
   by_cases ho':t.own = s.own
   ·exact (ho t hts ho').2 u g2
   ·exact g2.keeps fun o e=>(hb.2 _ ho').trans e
 ·by_cases hts:t = s
  ·try clear g3; try clear g2; try clear g1; try clear u; try clear e4; try clear x; try clear mv
   subst hts; exact okS
  ·by_cases ho':t.own = s.own
   ·exact (ho t hts ho').1 (I.slots j t q)
   ·exact (I.slots j t q).keeps fun o e=>(hb.2 _ ho').trans e
 ·refine El.x1_2 (I.objs k o q) fun a ha ro=>?_
  have hne:a ≠ s.own:=fun e=>I.sep _ own (e ▸ List.mem_of_getElem? ha)
  refine ⟨a,ha,?_⟩
  exact ro.map (fun _ ho=>((hb.2 a hne).trans ho)) fun _ _ r=>(mvs r)
 ·refine (hb.2 b fun k=>?_).trans (I.base b o q)
  have:=I.baseS s.own own
  rw [k,this] at q; cases q
theorem Z1B {c:Cx} {g:Gm} {st:St} {μ:List Addr} {s:Shared} {x:Str} {i:Nat} {v:Value} {y:V} (N:Nm c g) (hl:g.lv x i = true) (I:Inv c st μ s.heap) (r:RepV (Tr st.σ μ) μ s.heap v y) :
  Sim c (storeName c.env x v) (.ok () (setV st i y)) rU st.σ μ s:=by
 refine El.x0_2 (Za3 hl) fun h1 h2=>?_
 have hk:c.env.scope.kind = .function:=by rw [N.sc]; exact N.kind
 rcases N.var x i h1 with ⟨k1,k2⟩ | ⟨k1,a,k2,k3⟩
 ·refine El.x1_1 (I.slots i _ k2) fun m hm=>?_
  refine wpAny_storeName_local (by unfold Env.kindOf; rw [N.sc]; exact k1) hm (fun h' hn hs=>?_) (by rw [hk]; rfl)
  have side:∀ t:Slot,t ≠ .d c.env.locals x→t.own = (Slot.d c.env.locals x).own→(t.Ok s.heap→t.Ok h')∧∀ u,t.Holds s.heap u→t.Holds h' u:=by
   intro t ht ho
   try clear h2; try clear h1
   cases t with
   | c b=>
    constructor
    ·intro q0z
     refine El.x2_2 q0z fun u o ho' hd=>?_
     refine El.x3_3 hm fun o2 es ep ho2 hd2 _=>?_
     have e:b = c.env.locals:=ho
     try clear q0z
     subst e
     obtain rfl:=Option.some.inj (ho'.symm.trans ho2)
     rw [hd] at hd2; cases hd2
    ·intro u q1z
     refine El.x1_2 q1z fun o ho' hd=>?_
     refine El.x3_3 hm fun o2 es ep ho2 hd2 _=>?_
     have e:b = c.env.locals:=ho
     try clear q1z
     subst e
     obtain rfl:=Option.some.inj (ho'.symm.trans ho2)
     rw [hd] at hd2; cases hd2
   | d D n=>
    have e:D = c.env.locals:=ho
    subst e
    have hne:n ≠ x:=fun e=>ht (by rw [e])
    refine ⟨fun _=>⟨_,hn⟩,?_⟩
    intro u q2z
    refine El.x1_2 q2z fun m' hm' e'=>?_
    refine ⟨_,hn,?_⟩
    rw [if_neg hne]
    refine El.x3_4 hm fun o2 es ep ho2 hd2 _ q2=>?_
    refine El.x3_4 hm' fun o3 es3 ep3 ho3 hd3 _ q3=>?_
    try clear ep3; try clear es3; try clear o3; try clear hm'; try clear m'; try clear q2z; try clear hne; try clear hm
    obtain rfl:=Option.some.inj (ho2.symm.trans ho3)
    rw [hd2] at hd3
    try clear ho3
    cases hd3
    rw [← q2,q3,e']
  refine El.x0_2 (I.store N.apart k2 hs (v:=v) (y:=y) ⟨_,hn,by simp⟩ side r) fun I' S=>?_
  exact ⟨μ,trivial,I',S,.refl⟩
 ·refine El.x1_1 (I.slots i _ k3) fun u hu=>?_
  refine wpAny_storeName_cell hk (by unfold Env.kindOf; rw [N.sc]; exact k1) k2 hu fun h' hc hs=>?_
  have side:∀ t:Slot,t ≠ .c a→t.own = (Slot.c a).own→(t.Ok s.heap→t.Ok h')∧∀ u,t.Holds s.heap u→t.Holds h' u:=by
   intro t ht ho
   try clear q3; try clear hd3; try clear q2; try clear e'; try clear u; try clear hn; try clear h'; try clear hk
   cases t with
   | c b=>exact (ht (by rw [show b = a from ho])).elim
   | d D n=>
    have e:D = a:=ho
    try clear ho; try clear ht; try clear t
    subst e
    constructor
    ·intro q3z
     refine El.x4_3 q3z fun m o2 es ep ho2 hd2 _=>?_
     refine El.x1_2 hu fun o ho' hd=>?_
     try clear q3z; try clear e
     obtain rfl:=Option.some.inj (ho'.symm.trans ho2)
     rw [hd] at hd2; cases hd2
    ·intro w q4z
     refine El.x1_2 q4z fun m q5z _=>?_
     refine El.x3_3 q5z fun o2 es ep ho2 hd2 _=>?_
     refine El.x1_2 hu fun o ho' hd=>?_
     try clear q5z; try clear q4z; try clear w; try clear hu; try clear ep; try clear es; try clear o2; try clear o; try clear m
     obtain rfl:=Option.some.inj (ho'.symm.trans ho2)
     rw [hd] at hd2; cases hd2
  refine El.x0_2 (I.store N.apart k3 hs (v:=v) (y:=y) hc side r) fun I' S=>?_
  exact ⟨μ,trivial,I',S,.refl⟩
noncomputable def SOk (W:Wo) (K:Nat) (e:Sm):Prop:=∀ (g:Gm) (p:Stmt) (c:Cx) (st:St) (μ:List Addr) (s:Shared),okS g e p = true→Good W c g→Inv c st μ s.heap→Sim c (exec (pS e p) c.env) (evS W.F K e st) rFl st.σ μ s
noncomputable def SsOk (W:Wo) (K:Nat) (e:Sms):Prop:=∀ (g:Gm) (p:List Stmt) (c:Cx) (st:St) (μ:List Addr) (s:Shared),okSs g e p = true→Good W c g→Inv c st μ s.heap→Sim c (execs (pSs e p) c.env) (evSs W.F K e st) rFl st.σ μ s
@[elab_as_elim] theorem rFl_elim {P:Flow→Fl→Prop} {st:St} {μ:List Addr} {h:Heap} {f:Flow} {x:Fl} (r:rFl st μ h f x) (h1:P .next .next) (h2:P .brk .brk) (h3:P .cont .cont) (h4:∀ v y,RepV (Tr st.σ μ) μ h v y→P (.ret v) (.ret y)):P f x:=by
 cases f <;> cases x <;> first | exact h1 | exact h2 | exact h3 | exact h4 _ _ r | exact False.elim r
section
variable {W:Wo} {K:Nat}
theorem ZbR:SsOk W K .nil:=fun _ _ _ _ _ _ _ _ I=>Sim.pure I trivial
theorem Za9 {x:Sm} {xs:Sms} (hx:SOk W K x) (hxs:SsOk W K xs):SsOk W K (.cons x xs):=fun g p c st μ s hk hg I=>
 Sim.of_eq (execs_cons ..) (Sim.bind (hx g _ c st μ s (and2 hk).1 hg I) fun fl st₁ f μ₁ s₁ _ rf I₁ S₁=>
  rFl_elim (P:=fun f fl=>Sim c (match f with | .next=>execs (pSs xs p.tail) c.env | f=>pure f) (match fl with | .next=>evSs W.F K xs st₁ | f=>.ok f st₁) rFl st₁.σ μ₁ s₁) rf (hxs g _ c st₁ μ₁ s₁ (and2 hk).2 hg I₁) (Sim.pure I₁ trivial) (Sim.pure I₁ trivial) fun v y r=>Sim.pure I₁ r)
theorem ZdQ:SOk W K .brk:=fun _ _ _ _ _ _ _ _ I=>Sim.leaf I (wpAny_Break ⟨.refl,.refl,trivial⟩)
theorem ZdR {e:Ex} (he:EOk W e):SOk W K (.ret e):=fun g p c st μ s hk hg I=>Sim.of_eq (exec_Return_some ..) (Sim.at (Sim.one he hk hg I fun x u st μ s rx I=>Sim.pure I rx))
theorem ZbS {d:Ex} {a b:Sms} (hd:IOk W d) (ha:SsOk W K a) (hb:SsOk W K b):SOk W K (.ifte d a b):=fun g p c st μ s hk hg I=>
 Sim.of_eq (exec_If ..) (Sim.at (Sim.eq (hd.2 g _ c st μ s (and2 hk).1 hg I) fun t st₁ μ₁ s₁ _ I₁ _=>Sim.cond (fun _=>ha g _ c st₁ μ₁ s₁ (and2 (and2 hk).2).1 hg I₁) fun _=>hb g _ c st₁ μ₁ s₁ (and2 (and2 hk).2).2 hg I₁))
theorem Z4s {c:Cx} {g:Gm} (N:Nm c g):interactive c.env = false:=by
 unfold interactive
 rw [N.sc,N.kind]; rfl
theorem ZbT {x:Expr}:Z33 x.ctorIdx = true→(!(x.ctorIdx == 8)) = true→∀ {env:Env} {t:Option Expr} {l:Nat},swapsWith x t l env = pure false:=by
 cases x <;> first | exact fun _ _ _ _ _=>rfl | exact fun h=>absurd h Bool.false_ne_true | exact fun _ h=>absurd h Bool.false_ne_true
theorem Z3h {e:Ex} (h:(!isC e) = true) {p:Expr} {env:Env} {t:Option Expr} {l:Nat}:swapsWith (pE e p) t l env = pure false:=by
 have q:=ZeO e p
 rw [Bool.not_eq_true'] at h
 rw [h] at q
 exact ZbT (Z2F e p) q
theorem ZbU {e:Ex} (he:EOk W e):SOk W K (.expr e):=fun g p c st μ s hk hg I=>
 Sim.of_eq (exec_Expr _ _ _ (Z4s hg.nm) (Z3h (and2 hk).1)) (Sim.at (Sim.one he (and2 hk).2 hg I fun x u st μ s rx I=>Sim.leaf I (wpAny_dropValue ⟨.refl,.refl,trivial⟩)))
theorem Z8i {i:Nat} {e:Ex} (he:EOk W e) (g:Gm) (p:Stmt) (c:Cx) (st:St) (μ:List Addr) (s:Shared) (hk:okS g (.asg i e) p = true) (hs:swapsWith (pE e (skid p 0)) (some (.Name (nmOf (skid p 1)) (skid p 1).pos)) p.pos.line c.env = pure false) (hg:Good W c g) (I:Inv c st μ s.heap) :
  Sim c (exec (pS (.asg i e) p) c.env) (evS W.F K (.asg i e) st) rFl st.σ μ s :=
 Sim.of_eq (exec_Assign_Name _ _ _ _ _ hs) (Sim.at (Sim.one he (and2 hk).2 hg I fun y u st₁ μ₁ s₁ rx I₁=>Sim.at (Sim.of_m (m':=(R.ok () (setV st₁ i y)).bind fun _ st=>R.ok .next st) rfl
  (Sim.bind (Sim.imp (fun Q h=>wpAny_bindName h) (Z1B hg.nm (and2 hk).1 I₁ rx)) fun _ st₂ _ μ₂ s₂ he _ I₂ S₂=>by cases he; exact Sim.pure I₂ trivial))))
end
structure Kp (σ₀:List O) (μ₀:List Addr) (h₀:Heap) (σ:List O) (μ:List Addr) (h:Heap):Prop where
 size:h₀.objs.size ≤ h.objs.size
 keep:∀ b o,h₀.get? b = some o→Z4V o→¬ Tr σ₀ μ₀ b→h.get? b = some o
 pre:∀ (n:Nat) (a:Addr),μ₀[n]? = some a→μ[n]? = some a
 tr:∀ b,Tr σ μ b→Tr σ₀ μ₀ b ∨ h₀.objs.size ≤ b
 pv:∀ (n:Nat),σ₀[n]? = some O.priv→σ[n]? = some O.priv
theorem Kp.trans {σ₀ σ₁ σ₂:List O} {μ₀ μ₁ μ₂:List Addr} {h₀ h₁ h₂:Heap} (x:Kp σ₀ μ₀ h₀ σ₁ μ₁ h₁) (y:Kp σ₁ μ₁ h₁ σ₂ μ₂ h₂):Kp σ₀ μ₀ h₀ σ₂ μ₂ h₂ where
 size:=Nat.le_trans x.size y.size
 keep:=fun b o e hd hT=>y.keep b o (x.keep b o e hd hT) hd fun q=>(x.tr b q).elim hT fun q=>Nat.lt_irrefl _ (Nat.lt_of_lt_of_le (Heap.lt_size e) q)
 pre:=fun n a e=>y.pre n a (x.pre n a e)
 tr:=fun b q=>(y.tr b q).elim (fun q=>x.tr b q) fun q=>.inr (Nat.le_trans x.size q)
 pv:=fun n e=>y.pv n (x.pv n e)
theorem Stp.kp {c:Cx} {st:St} {μ μ':List Addr} {σ':List O} {h h':Heap} (I:Inv c st μ h) (S:Stp c st.σ μ h σ' μ' h'):Kp st.σ μ h σ' μ' h' where
 size:=S.size
 keep:=fun b o e hd hT=>S.keep b o e (fun q=>I.own_data q e hd) hT
 pre:=S.pre
 tr:=S.tr
 pv:=S.pv
theorem Kp.ext {σ:List O} {μ:List Addr} {h h':Heap} (e:Ext h h'):Kp σ μ h σ μ h':=⟨e.1,fun b o q _ _=>e.2 b o q,fun _ _ q=>q,fun _ q=>.inl q,fun _ q=>q⟩
section
variable {σ₀ σ:List O} {μ₀ μ:List Addr} {h₀ h:Heap}
theorem RepV.kp (K:Kp σ₀ μ₀ h₀ σ μ h) {v:Value} {x:V} (r:RepV (Tr σ₀ μ₀) μ₀ h₀ v x):RepV (Tr σ μ) μ h v x :=
 r.move (fun a o e hd hq=>⟨K.keep a o e hd hq,fun q=>(K.tr a q).elim hq fun q=>Nat.lt_irrefl _ (Nat.lt_of_lt_of_le (Heap.lt_size e) q)⟩) K.pre
theorem RepVs.kp (K:Kp σ₀ μ₀ h₀ σ μ h) {v:List Value} {x:List V} (r:RepVs (Tr σ₀ μ₀) μ₀ h₀ v x):RepVs (Tr σ μ) μ h v x :=
 r.move (fun a o e hd hq=>⟨K.keep a o e hd hq,fun q=>(K.tr a q).elim hq fun q=>Nat.lt_irrefl _ (Nat.lt_of_lt_of_le (Heap.lt_size e) q)⟩) K.pre
end
noncomputable def Odd (wr:List Addr) (h:Heap):Prop:=∀ b ∈ wr,∃ o,h.get? b = some o∧¬ Z4V o
noncomputable def But (wr:List Addr) (h h':Heap):Prop:=∀ b o,b ∉ wr→h.get? b = some o→h'.get? b = some o
theorem RepV.but {T:Addr→Prop} {μ wr:List Addr} {h h':Heap} (k:But wr h h') (od:Odd wr h) {v:Value} {x:V} (r:RepV T μ h v x):RepV T μ h' v x:=by
 have nseq:∀ a o,h.get? a = some o→Z4V o→a ∉ wr:=fun a o e hd q=>by
  refine El.x1_2 (od a q) fun o' e' hd'=>?_
  obtain rfl:=Option.some.inj (e.symm.trans e')
  exact hd' hd
 exact r.move (fun a o e hd hT=>⟨k a o (nseq a o e hd) e,hT⟩) fun _ _ q=>q
theorem RepVs.but {T:Addr→Prop} {μ wr:List Addr} {h h':Heap} (k:But wr h h') (od:Odd wr h) {v:List Value} {x:List V} (r:RepVs T μ h v x):RepVs T μ h' v x:=by
 have nseq:∀ a o,h.get? a = some o→Z4V o→a ∉ wr:=fun a o e hd q=>by
  refine El.x1_2 (od a q) fun o' e' hd'=>?_
  obtain rfl:=Option.some.inj (e.symm.trans e')
  exact hd' hd
 exact r.move (fun a o e hd hT=>⟨k a o (nseq a o e hd) e,hT⟩) fun _ _ q=>q
theorem Inv.but {c:Cx} {wr:List Addr} {st:St} {μ:List Addr} {h h':Heap} (I:Inv c st μ h) (k:But wr h h') (hsz:h.objs.size ≤ h'.objs.size)
  (od:Odd wr h) (own:∀ b ∈ wr,¬ Own c b) (mem:∀ b ∈ wr,b ∉ μ) (bs:∀ b ∈ wr,c.base.get? b = none):Inv c st μ h':=by
 refine ⟨fun i x q=>?_,fun i s q=>(I.slots i s q).keeps fun o e=>k _ o (fun m=>own _ m ⟨i,s,q,rfl⟩) e,fun n o q=>?_,I.len,I.nd,fun a q=>Nat.lt_of_lt_of_le (I.lt a q) hsz,
  fun b o q=>k b o (fun m=>by rw [bs b m] at q; cases q) (I.base b o q),I.baseS,I.baseM,I.sep,I.kd⟩
 ·refine El.x2_3 (I.vars i x q) fun s v g1 g2 g3=>?_
  exact ⟨s,v,g1,g2.keeps fun o e=>k _ o (fun m=>own _ m ⟨i,s,g1,rfl⟩) e,g3.but k od⟩
 ·refine El.x1_2 (I.objs n o q) fun a ha r=>?_
  refine ⟨a,ha,?_⟩
  exact r.map (fun _ ho=>(k a _ (fun m=>mem a m (List.mem_of_getElem? ha)) ho)) fun _ _ r=>(r.but k od)
structure Itr (prog:Program) (w:World) (A:Around) (it:Addr) (fp wr:List Addr) (xs:List V) (σ₀:List O) (μ₀:List Addr) (h₀:Heap) (Sp:Nat→Heap→Prop):Prop where
 sub:∀ b ∈ wr,b ∈ fp
 frame:∀ i h h',Sp i h→(∀ b ∈ fp,∀ o,h.get? b = some o→h'.get? b = some o)→Sp i h'
 odd:∀ i h,Sp i h→Odd wr h
 wrn:∀ b ∈ wr,h₀.objs.size ≤ b
 fpo:∀ b ∈ fp,b ∈ wr ∨ (∃ o vs n,h₀.get? b = some o∧o.data = .seq vs n∧¬ Tr σ₀ μ₀ b) ∨ ∃ k:Nat,σ₀[k]? = some O.priv∧μ₀[k]? = some b
 item:∀ i x (s:Shared) (σ:List O) (μ:List Addr) (Q:Option Value→Shared→Prop),xs[i]? = some x→Sp i s.heap→Kp σ₀ μ₀ h₀ σ μ s.heap →
  (∀ v h' tk,But wr s.heap h'→s.heap.objs.size ≤ h'.objs.size→Sp (i + 1) h'→RepV (Tr σ μ) μ h' v x→Q (some v) { s with heap:=h',toks:=tk }) →
  wpAny (model prog w) A (pyNext (.ref it)) Q (fun _ _=>False) s
 done:∀ (s:Shared) (Q:Option Value→Shared→Prop),Sp xs.length s.heap →
  (∀ h' tk,But wr s.heap h'→s.heap.objs.size ≤ h'.objs.size→Q none { s with heap:=h',toks:=tk })→wpAny (model prog w) A (pyNext (.ref it)) Q (fun _ _=>False) s
 again:∀ i (s:Shared) (Q:Value→Shared→Prop) (E:Value→Shared→Prop),Sp i s.heap→Q (.ref it) s→wpAny (model prog w) A (pyIter (.ref it)) Q E s
section
variable {c:Cx} {it:Addr} {fp wr:List Addr} {xs:List V} {σ₀:List O} {μ₀:List Addr} {h₀:Heap} {Sp:Nat→Heap→Prop}
theorem Itr.keep (W:Itr c.prog c.w c.A it fp wr xs σ₀ μ₀ h₀ Sp) {i:Nat} {st:St} {σ':List O} {μ μ':List Addr} {h h':Heap} (own:∀ b ∈ wr,¬ Own c b) (mem:∀ b ∈ wr,b ∉ μ) (I:Inv c st μ h)
  (K:Kp σ₀ μ₀ h₀ st.σ μ h) (S':Stp c st.σ μ h σ' μ' h') (sp:Sp i h):Sp i h'∧∀ b ∈ wr,b ∉ μ':=by
 refine ⟨W.frame i h h' sp fun b q o e=>?_,fun b q m=>(S'.new b m).elim (mem b q) fun k=>?_⟩
 ·rcases W.fpo b q with q | ⟨o',vs,n,q1,q2,q3⟩ | ⟨k,q1,q2⟩
  rotate_left 2
  ·exact S'.pk k b o (K.pv k q1) (K.pre k b q2) e
  ·exact S'.keep b o e (own b q) fun t=>mem b q t.mem
  ·have e':=K.keep b o' q1 (.inl ⟨vs,n,q2⟩) q3
   obtain rfl:=Option.some.inj (e.symm.trans e')
   exact S'.keep b o e (fun q=>I.own_data q e (.inl ⟨vs,n,q2⟩)) fun t=>(K.tr b t).elim q3 fun k=>Nat.lt_irrefl _ (Nat.lt_of_lt_of_le (Heap.lt_size q1) k)
 ·refine El.x1_2 (W.odd i h sp b q) fun o e _=>?_
  exact Nat.lt_irrefl _ (Nat.lt_of_lt_of_le (Heap.lt_size e) k)
theorem Stp.but {σ:List O} {μ:List Addr} {h h':Heap} (wrn:∀ b ∈ wr,h₀.objs.size ≤ b) (k:But wr h h') (hsz:h.objs.size ≤ h'.objs.size) (S:Stp c σ₀ μ₀ h₀ σ μ h):Stp c σ₀ μ₀ h₀ σ μ h' where
 size:=Nat.le_trans S.size hsz
 keep:=fun b o e h1 h2=>k b o (fun q=>Nat.lt_irrefl _ (Nat.lt_of_lt_of_le (Heap.lt_size e) (wrn b q))) (S.keep b o e h1 h2)
 pre:=S.pre
 tr:=S.tr
 new:=S.new
 pv:=S.pv
 pk:=fun n a o e e' e''=>k a o (fun q=>Nat.lt_irrefl _ (Nat.lt_of_lt_of_le (Heap.lt_size e'') (wrn a q))) (S.pk n a o e e' e'')
theorem Kp.but {σ:List O} {μ:List Addr} {h h':Heap} (wrn:∀ b ∈ wr,h₀.objs.size ≤ b) (k:But wr h h') (hsz:h.objs.size ≤ h'.objs.size) (S:Kp σ₀ μ₀ h₀ σ μ h):Kp σ₀ μ₀ h₀ σ μ h' where
 size:=Nat.le_trans S.size hsz
 keep:=fun b o e h1 h2=>k b o (fun q=>Nat.lt_irrefl _ (Nat.lt_of_lt_of_le (Heap.lt_size e) (wrn b q))) (S.keep b o e h1 h2)
 pre:=S.pre
 tr:=S.tr
 pv:=S.pv
theorem Z8j {st₀:St} (I₀:Inv c st₀ μ₀ h₀) (wrn:∀ b ∈ wr,h₀.objs.size ≤ b):∀ b ∈ wr,c.base.get? b = none∧¬ Own c b∧b ∉ μ₀:=fun b q=>by
 refine ⟨?_,fun o=>?_,fun m=>Nat.lt_irrefl _ (Nat.lt_of_lt_of_le (I₀.lt b m) (wrn b q))⟩
 ·cases h:c.base.get? b with
  | none=>rfl
  | some o=>exact absurd (Nat.lt_of_lt_of_le (Heap.lt_size (I₀.base b o h)) (wrn b q)) (Nat.lt_irrefl _)
 ·refine El.x1_1 (Z1A I₀ o) fun ob ho=>?_
  exact Nat.lt_irrefl _ (Nat.lt_of_lt_of_le (Heap.lt_size ho) (wrn b q))
theorem Z3M {c:Cx} {target:Expr} {it:Addr} {body:List Stmt} {xs:List V} {as:V→St→R Unit} {bd:St→R Fl} {fl:Fl} {stF:St} {Rs:Result→Shared→Prop} (P:Nat→St→List Addr→Shared→Prop) (D:St→List Addr→Shared→Prop)
  (inv:∀ i st μ s,P i st μ s→Inv c st μ s.heap) (toD:∀ i st μ s,P i st μ s→D st μ s)
  (keep:∀ i st μ (s:Shared) st' μ' (s':Shared),P i st μ s→Inv c st' μ' s'.heap→Stp c st.σ μ s.heap st'.σ μ' s'.heap→Same s s'→P i st' μ' s')
  (item:∀ i x st μ (s:Shared) (Q:Value→Shared→Prop),xs[i]? = some x→P i st μ s→(∀ v s₂,RepV (Tr st.σ μ) μ s₂.heap v x→P (i + 1) st μ s₂→Q v s₂) →
   wpAny (model c.prog c.w) c.A (pyNext (.ref it)) (fun r s₁=>match r with
    | none=>False
    | some v=>wpAny (model c.prog c.w) c.A (letOwnedTupleGo target (.ref it) v) (fun _ s₂=>Q v s₂) (fun _ _=>False) s₁) (fun _ _=>False) s)
  (done:∀ st μ (s:Shared) (Q:Option Value→Shared→Prop),P xs.length st μ s→(∀ s₂,D st μ s₂→Q none s₂)→wpAny (model c.prog c.w) c.A (pyNext (.ref it)) Q (fun _ _=>False) s)
  (hA:∀ x v st μ (s:Shared),RepV (Tr st.σ μ) μ s.heap v x→Inv c st μ s.heap→Sim c (assign target c.env v) (as x st) rU st.σ μ s)
  (hB:∀ st μ (s:Shared),Inv c st μ s.heap→Sim c (execs body c.env) (bd st) rFl st.σ μ s)
  (hR:∀ μ (s:Shared) f,D stF μ s→rFl stF μ s.heap f fl→Rs (.ok f) s)
  {st₁:St} {μ₁:List Addr} {s₁:Shared} (h1:P 0 st₁ μ₁ s₁) (hr:forR (fun x st=>(as x st).bind fun _ st=>bd st) xs st₁ = .ok fl stF) :
  codeAny (model c.prog c.w) c.A (.forLoop target (.ref it) body [] c.env) Rs s₁:=by
 obtain ⟨J,hJ⟩:∃ J:Nat→Shared→Prop,∀ k s',J k s'↔∃ i st μ,k = xs.length + 1 - i∧i ≤ xs.length∧forR (fun x st=>(as x st).bind fun _ st=>bd st) (xs.drop i) st = .ok fl stF∧P i st μ s':=⟨_,fun _ _=>Iff.rfl⟩
 have fin:∀ k i st μ (s:Shared) f g,i < xs.length→k = xs.length + 1 - i→P (i + 1) st μ s→rFl st μ s.heap g f →
   (match f with | .next=>forR (fun x st=>(as x st).bind fun _ st=>bd st) (xs.drop (i + 1)) st | .cont=>forR (fun x st=>(as x st).bind fun _ st=>bd st) (xs.drop (i + 1)) st | .brk=>.ok .next st | .ret v=>.ok (.ret v) st) = .ok fl stF →
   (match g with | .next | .cont=>∃ m,m < k∧J m s | .brk=>Rs (.ok .next) s | .ret v=>Rs (.ok (.ret v)) s):=by
  intro k i st μ s f g hlt hk hP rf
  refine rFl_elim rf (fun hf=>⟨xs.length + 1 - (i + 1),Nat.lt_of_lt_of_eq (dec1 hlt) hk.symm,(hJ _ _).mpr ⟨i + 1,st,μ,rfl,hlt,hf,hP⟩⟩) (fun hf=>hR μ s _ ((R.ok.inj hf).2 ▸ toD _ _ _ _ hP) ((R.ok.inj hf).1 ▸ trivial)) (fun hf=>⟨xs.length + 1 - (i + 1),Nat.lt_of_lt_of_eq (dec1 hlt) hk.symm,(hJ _ _).mpr ⟨i + 1,st,μ,rfl,hlt,hf,hP⟩⟩) (fun w y rw' hf=>?_)
  exact hR μ s _ ((R.ok.inj hf).2 ▸ toD _ _ _ _ hP) (by rw [← (R.ok.inj hf).1,← (R.ok.inj hf).2]; exact rw')
 refine codeAny_forLoop_any J (fun k s' hk=>?_) (xs.length + 1) ((hJ _ _).mpr ⟨0,st₁,μ₁,rfl,Nat.zero_le _,hr,h1⟩)
 refine El.x3_4 ((hJ k s').mp hk) fun i st μ hki hi hf hP=>?_
 have fin':=fin k i
 clear fin hJ hk
 by_cases hlt:i < xs.length
 ·obtain ⟨x,hx⟩:∃ x,xs[i]? = some x:=⟨xs[i],by simp [hlt]⟩
  have hd:xs.drop i = x :: xs.drop (i + 1):=by
   rw [List.drop_eq_getElem_cons hlt]
   congr 1
   exact Option.some.inj ((List.getElem?_eq_getElem hlt).symm.trans hx)
  rw [hd] at hf
  refine El.x2_2 (R.bind_inv hf) fun f st₃ hAB hf=>?_
  refine El.x2_2 (R.bind_inv hAB) fun _ st₂ hA' hB'=>?_
  refine wpAny_mono (item i x st μ s' (fun v s₂=>RepV (Tr st.σ μ) μ s₂.heap v x∧P (i + 1) st μ s₂) hx hP fun v s₂ rv hP₂=>⟨rv,hP₂⟩) (fun r s₂ hr₂=>?_) fun _ _ e=>(e:False).elim
  try clear hAB; try clear hd; try clear hx; try clear rf; try clear hk; try clear s; try clear k; try clear fin; try clear hJ; try clear J
  cases r with
  | none=>exact (hr₂:False).elim
  | some v=>
   refine wpAny_mono hr₂ (fun _ s₂ h₂=>?_) fun _ _ e=>(e:False).elim
   have ha:=hA x v st μ s₂ h₂.1 (inv _ _ _ _ h₂.2)
   rw [hA'] at ha
   refine wpAny_mono ha (fun _ s₃ h₃=>?_) fun _ _ e=>(e:False).elim
   obtain ⟨μ₂,hP₃⟩:∃ μ₂,P (i + 1) st₂ μ₂ s₃:=h₃.elim fun μ₂ h₃=>⟨μ₂,keep _ _ _ _ _ _ _ h₂.2 h₃.2.1 h₃.2.2.1 h₃.2.2.2⟩
   have hb:=hB st₂ μ₂ s₃ (inv _ _ _ _ hP₃)
   rw [show bd st₂ = .ok f st₃ from hB'] at hb
   exact wpAny_mono hb (fun g s₄ h₄=>h₄.elim fun μ₃ h₄=>fin' st₃ μ₃ s₄ f g hlt hki (keep _ _ _ _ _ _ _ hP₃ h₄.2.1 h₄.2.2.1 h₄.2.2.2) h₄.1 hf) fun _ _ e=>(e:False).elim
 ·have hi':i = xs.length:=eqle hi hlt
  try clear hb; try clear hP₃; try clear μ₂; try clear h₃; try clear s₃; try clear ha; try clear hr₂; try clear hB'; try clear hA'; try clear st₂; try clear st₃; try clear x
  subst hi'
  rw [List.drop_length] at hf
  try clear hi; try clear hki; try clear hlt; try clear g; try clear f; try clear st; try clear i
  cases hf
  exact wpAny_mono (done stF μ s' (fun r s₂=>r = none∧D stF μ s₂) hP fun s₂ hD=>⟨rfl,hD⟩) (fun r s₂ h₂=>by
   rw [h₂.1]
   exact wpAny_execs_nil (hR μ s₂ _ h₂.2 trivial)) fun _ _ e=>(e:False).elim
theorem Z7a {target:Expr} {body:List Stmt} {as:V→St→R Unit} {bd:St→R Fl} {s₀ s₁:Shared} {st₀:St} (W:Itr c.prog c.w c.A it fp wr xs st₀.σ μ₀ s₀.heap Sp) (start:Sp 0 s₁.heap)
  (hA:∀ x v st μ (s:Shared),RepV (Tr st.σ μ) μ s.heap v x→Inv c st μ s.heap→Sim c (assign target c.env v) (as x st) rU st.σ μ s)
  (hB:∀ st μ (s:Shared),Inv c st μ s.heap→Sim c (execs body c.env) (bd st) rFl st.σ μ s)
  (I₀:Inv c st₀ μ₀ s₀.heap) (X₀:Ext s₀.heap s₁.heap) (Q₀:Same s₀ s₁)
  {fl:Fl} {stF:St} (hr:forR (fun x st=>(as x st).bind fun _ st=>bd st) xs st₀ = .ok fl stF) (ht:∀ v,letOwnedTupleGo target (.ref it) v = pure ()) :
  codeAny (model c.prog c.w) c.A (.forLoop target (.ref it) body [] c.env) (fun r s'=>match r with
   | .ok f=>∃ μ',rFl stF μ' s'.heap f fl∧Inv c stF μ' s'.heap∧Stp c st₀.σ μ₀ s₀.heap stF.σ μ' s'.heap∧Same s₀ s'
   | .error _=>False) s₁:=by
 have wall:=Z8j I₀ W.wrn
 have wapart:∀ b ∈ wr,¬ Own c b:=fun b q=>(wall b q).2.1
 have wbase:∀ b ∈ wr,c.base.get? b = none:=fun b q=>(wall b q).1
 refine Z3M (as:=as) (bd:=bd) (fl:=fl) (stF:=stF)
  (P:=fun i st μ s=>Sp i s.heap∧Inv c st μ s.heap∧(∀ b ∈ wr,b ∉ μ)∧Stp c st₀.σ μ₀ s₀.heap st.σ μ s.heap∧Same s₀ s) (D:=fun st μ s=>Inv c st μ s.heap∧Stp c st₀.σ μ₀ s₀.heap st.σ μ s.heap∧Same s₀ s)
  (fun i st μ s h=>h.2.1) (fun i st μ s h=>⟨h.2.1,h.2.2.2⟩) (fun i st μ s st' μ' s' h I' S' Q'=>?_) (fun i x st μ s Q hx h hQ=>?_) (fun st μ s Q h hQ=>?_) hA hB (fun μ s f h rf=>⟨μ,rf,h⟩)
  (st₁:=st₀) (μ₁:=μ₀) ⟨start,I₀.ext X₀,fun b q=>(wall b q).2.2,.ext X₀,Q₀⟩ hr
 ·refine El.x0_2 (W.keep wapart h.2.2.1 h.2.1 (h.2.2.2.1.kp I₀) S' h.1) fun hst₂ mem₂=>?_
  exact ⟨hst₂,I',mem₂,h.2.2.2.1.trans S',h.2.2.2.2.trans Q'⟩
 ·refine W.item i x s st.σ μ _ hx h.1 (h.2.2.2.1.kp I₀) fun v h' tk hk hsz hst' rv=>?_
  dsimp only
  rw [ht v]
  exact wpAny_pure (hQ v _ rv ⟨hst',h.2.1.but hk hsz (W.odd i _ h.1) wapart h.2.2.1 wbase,h.2.2.1,h.2.2.2.1.but W.wrn hk hsz,h.2.2.2.2⟩)
 ·exact W.done s _ h.1 fun h' tk hk hsz=>hQ _ ⟨h.2.1.but hk hsz (W.odd _ _ h.1) wapart h.2.2.1 wbase,h.2.2.2.1.but W.wrn hk hsz,h.2.2.2.2⟩
end
theorem Itr.of_walks {prog:Program} {w:World} {A:Around} {it:Addr} {fp wr:List Addr} {xs:List V} {σ₀:List O} {μ₀:List Addr} {h₀:Heap} {Sp:Nat→Heap→Prop} {P:Nat→Value→Prop}
  (W:Walks prog w A it fp wr xs.length P Sp) (odd:∀ i h,Sp i h→Odd wr h) (wrn:∀ b ∈ wr,h₀.objs.size ≤ b)
  (fpo:∀ b ∈ fp,b ∈ wr ∨ (∃ o vs n,h₀.get? b = some o∧o.data = .seq vs n∧¬ Tr σ₀ μ₀ b) ∨ ∃ k:Nat,σ₀[k]? = some O.priv∧μ₀[k]? = some b)
  (hP:∀ i x v σ (μ:List Addr) (h:Heap),xs[i]? = some x→P i v→Kp σ₀ μ₀ h₀ σ μ h→RepV (Tr σ μ) μ h v x) :
  Itr prog w A it fp wr xs σ₀ μ₀ h₀ Sp where
 sub:=W.sub
 frame:=W.frame
 odd:=odd
 wrn:=wrn
 fpo:=fpo
 item:=fun i x s σ μ Q hx hst K hQ=>Z04 (W.item i s _ _ (List.getElem?_eq_some_iff.mp hx).1 hst fun v h' tk hp hst' hk hsz=>hQ v h' tk hk hsz hst' (hP i x v σ μ h' hx hp (K.but wrn hk hsz)))
 done:=fun s Q hst hQ=>Z04 (W.done s _ _ hst fun h' tk hk hsz=>hQ h' tk hk hsz)
 again:=fun i s Q E hst hQ=>W.self i s Q E hst hQ
noncomputable def rSrc (prog:Program) (w:World) (A:Around) (st:St) (μ:List Addr) (h:Heap) (v:Value) (xs:List V):Prop :=
 ∀ (s:Shared) (Q:Value→Shared→Prop),s.heap = h →
  (∀ I fp wr Sp s',Ext h s'.heap→Same s s'→Itr prog w A I fp wr xs st.σ μ h Sp→Sp 0 s'.heap→Q (.ref I) s')→wpAny (model prog w) A (pyIter v) Q (fun _ _=>False) s
theorem Z69 {o:Obj} {fs:Array Value} (hd:o.data = .fields fs):¬ Z4V o:=fun q=>by rcases q with ⟨vs,n,q⟩ | q <;> rw [hd] at q <;> cases q
theorem Z3N {I:Addr} {h:Heap} {o:Obj} {fs:Array Value} (e:h.get? I = some o) (hd:o.data = .fields fs):Odd [I] h:=fun b q=>by
 obtain rfl:=List.mem_singleton.mp q
 exact ⟨o,e,Z69 hd⟩
section
variable {c:Cx} {st:St} {μ:List Addr} {h:Heap} {v:Value}
theorem ZbV (I:Inv c st μ h) (hh:c.A.handled = none) {xs:List V} (r:RepV (Tr st.σ μ) μ h v (.lst xs)):rSrc c.prog c.w c.A st μ h v xs:=by
 rintro s Q rfl hQ
 refine El.x4_7 r.lstI fun a o vs n e9 ho hc hd hz hT r8=>?_
 try clear hz; try clear Q
 subst e9
 have hlt:=Heap.lt_size ho
 refine wpAny_pyIter_list ⟨o,ho,hc,n,hd⟩ (hQ s.heap.objs.size [s.heap.objs.size,a] [s.heap.objs.size] (fun i h=>h.IsListIter s.heap.objs.size a i∧h.IsList a vs) _ (.push _) .refl (Itr.of_walks (P:=fun i v=>vs[i]? = some v) ?_ (fun i h hst=>?_) (fun b q=>?_) (fun b q=>?_) fun i x v σ' μ' h' hx hp K=>?_)
  ⟨⟨_,Heap.get?_push_size _ rfl,rfl,rfl⟩,⟨o,Heap.get?_push_of_some _ ho,hc,n,hd⟩⟩)
 ·have e:xs.length = vs.size:=by have:=r8.length; simpa using this.symm
  rw [e]
  exact Walks.list hh _ a (Nat.ne_of_lt hlt) vs
 ·refine El.x0_2 hst fun q0z _=>?_
  refine El.x1_3 q0z fun o' ho' _ hd'=>?_
  exact Z3N ho' hd'
 ·rw [List.mem_singleton.mp q]; exact Nat.le_refl _
 ·try clear hd'; try clear ho'; try clear o'; try clear q0z; try clear e; try clear h'; try clear μ'; try clear σ'; try clear x; try clear b; try clear hst; try clear h
  rcases List.mem_cons.mp q with rfl | q
  ·exact .inl (by simp)
  ·rw [List.mem_singleton.mp q]; exact .inr (.inl ⟨o,vs,n,ho,hd,hT⟩)
 ·refine El.x1_2 (r8.get hx) fun u hu ru=>?_
  have:u = v:=by simpa [hp] using hu.symm
  try clear hu; try clear u; try clear hp; try clear hx; try clear v; try clear q; try clear i; try clear hlt; try clear r8; try clear hT; try clear hd; try clear hc
  subst this
  exact ru.kp K
theorem Zaa (I:Inv c st μ h) (hh:c.A.handled = none) {xs:List V} (r:RepV (Tr st.σ μ) μ h v (.tup xs)):rSrc c.prog c.w c.A st μ h v xs:=by
 rintro s Q rfl hQ
 refine El.x4_7 r.tupI fun a o vs n e9 ho hc hd hz hT r8=>?_
 try clear hz; try clear Q
 subst e9
 have hlt:=Heap.lt_size ho
 refine wpAny_pyIter_tuple ⟨o,ho,hc,n,hd⟩ (hQ s.heap.objs.size [s.heap.objs.size,a] [s.heap.objs.size] (fun i h=>h.IsTupleIter s.heap.objs.size a i∧h.IsTuple a vs) _ (.push _) .refl (Itr.of_walks (P:=fun i v=>vs[i]? = some v) ?_ (fun i h hst=>?_) (fun b q=>?_) (fun b q=>?_) fun i x v σ' μ' h' hx hp K=>?_)
  ⟨⟨_,Heap.get?_push_size _ rfl,rfl,rfl⟩,⟨o,Heap.get?_push_of_some _ ho,hc,n,hd⟩⟩)
 ·have e:xs.length = vs.size:=by have:=r8.length; simpa using this.symm
  rw [e]
  exact Walks.tuple hh _ a (Nat.ne_of_lt hlt) vs
 ·refine El.x0_2 hst fun q1z _=>?_
  refine El.x1_3 q1z fun o' ho' _ hd'=>?_
  exact Z3N ho' hd'
 ·rw [List.mem_singleton.mp q]; exact Nat.le_refl _
 ·try clear hd'; try clear ho'; try clear o'; try clear q1z; try clear e; try clear h'; try clear μ'; try clear σ'; try clear x; try clear b; try clear hst; try clear h
  rcases List.mem_cons.mp q with rfl | q
  ·exact .inl (by simp)
  ·rw [List.mem_singleton.mp q]; exact .inr (.inl ⟨o,vs,n,ho,hd,hT⟩)
 ·refine El.x1_2 (r8.get hx) fun u hu ru=>?_
  have:u = v:=by simpa [hp] using hu.symm
  try clear hu; try clear u; try clear hp; try clear hx; try clear v; try clear q; try clear i; try clear hlt; try clear r8; try clear hT; try clear hd; try clear hc
  subst this
  exact ru.kp K
theorem Zab {x:Str} (h:PyData.strOk x = true) {i d:Nat} (e:x.cps[i]? = some d):PyData.strOk ⟨#[d]⟩ = true:=by
 unfold PyData.strOk at h ⊢
 have:=Array.all_eq_true.mp h
 refine El.x1_1 (Array.getElem?_eq_some_iff.mp e) fun hi q2z=>?_
 obtain rfl:=q2z
 simpa using this i hi
theorem ZdS (hh:c.A.handled = none) {l:List Nat} (r:RepV (Tr st.σ μ) μ h v (.str l)):rSrc c.prog c.w c.A st μ h v (l.map fun d=>.str [d]):=by
 rintro s Q rfl hQ
 refine El.x2_4 r.str_inv fun x t q3z q4z h1 h2=>?_
 try clear h2; try clear Q
 obtain rfl:=q3z
 try clear q3z
 obtain rfl:=q4z
 have hP:∀ i y v σ' (μ':List Addr) (h':Heap),(x.cps.toList.map fun d=>V.str [d])[i]? = some y→SignAt x i v→Kp st.σ μ s.heap σ' μ' h'→RepV (Tr σ' μ') μ' h' v y:=by
  intro i y v σ' μ' h' hx q5z K
  refine El.x2_2 q5z fun d u hd q6z=>?_
  try clear K; try clear q5z; try clear h'; try clear μ'; try clear σ'; try clear v; try clear q4z
  obtain rfl:=q6z
  have e:y = .str [d]:=by simpa [hd] using hx.symm
  try clear q6z; try clear hx; try clear y
  subst e
  exact .str ⟨#[d]⟩ u (Zab h1 hd) (by show 1 ≤ sizeLine; decide)
 have hw:∀ b ∈ [s.heap.objs.size],s.heap.objs.size ≤ b:=fun b q=>by rw [List.mem_singleton.mp q]; exact Nat.le_refl _
 cases ha:x.cps.all (· < 128)
 ·refine wpAny_pyIter_wide ha (hQ s.heap.objs.size [s.heap.objs.size] [s.heap.objs.size] (fun i h=>h.IsStrIter s.heap.objs.size "str_iterator" x t i) _ (.push _) .refl (Itr.of_walks (P:=SignAt x) (by simpa using Walks.strWide hh _ x t) (fun i h ⟨o',ho',_,hd'⟩=>Z3N ho' hd') hw (fun b q=>.inl q) hP)
   ⟨_,Heap.get?_push_size _ rfl,rfl,rfl⟩)
 ·refine wpAny_pyIter_ascii ha (hQ s.heap.objs.size [s.heap.objs.size] [s.heap.objs.size] (fun i h=>h.IsStrIter s.heap.objs.size "str_ascii_iterator" x t i) _ (.push _) .refl (Itr.of_walks (P:=SignAt x) (by simpa using Walks.strAscii hh _ x t) (fun i h ⟨o',ho',_,hd'⟩=>Z3N ho' hd') hw (fun b q=>.inl q) hP)
   ⟨_,Heap.get?_push_size _ rfl,rfl,rfl⟩)
theorem Zac (I:Inv c st μ h) (hh:c.A.handled = none) {x:V} (r:RepV (Tr st.σ μ) μ h v x) {xs:List V} (e:Z1G st.σ x = some xs):rSrc c.prog c.w c.A st μ h v xs:=by
 unfold Z1G at e
 split at e
 ·cases e; exact ZdS hh r
 ·cases e; exact ZbV I hh r
 ·cases e; exact Zaa I hh r
 ·cases e
theorem Zad (hh:c.A.handled = none) {a:Addr} {lo hi:Int} {t u w:Tok} (hr:IsRange h a lo hi 1 t u w) (h1:Z0O lo = true) (h2:Z0O hi = true):rSrc c.prog c.w c.A st μ h (.ref a) (upTo lo hi):=by
 rintro s Q rfl hQ
 simp [Z0O] at h1 h2
 refine wpAny_pyIter_range hr (small_one (by lia) (by lia) (by lia) (by lia)) (hQ s.heap.objs.size [s.heap.objs.size] [s.heap.objs.size] _ _ (.push _) .refl
  (Itr.of_walks (P:=fun i v=>∃ t,v = .int (lo + (i:Nat) * 1) t) (by simpa [upTo] using Walks.range hh s.heap.objs.size lo 1 (hi - lo).toNat) (fun i h hst=>Z3N (h:=h) hst rfl) (fun b q=>by rw [List.mem_singleton.mp q]; exact Nat.le_refl _) (fun b q=>.inl q)
   fun i y v σ' μ' h' hx hp K=>?_) ?_)
 ·refine El.x1_1 hp fun t q7z=>?_
  try clear t; try clear K; try clear hp; try clear h'; try clear μ'; try clear σ'; try clear v; try clear y; try clear i; try clear hQ; try clear Q; try clear s
  obtain rfl:=q7z
  unfold upTo at hx
  rw [List.getElem?_map] at hx
  refine El.x1_2 (Option.map_eq_some_iff.mp hx) fun k hk q8z=>?_
  try clear k; try clear q7z; try clear hx
  obtain rfl:=q8z
  refine El.x1_1 (List.getElem?_eq_some_iff.mp hk) fun hk1 q9z=>?_
  try clear hk1; try clear q8z; try clear hk
  obtain rfl:=q9z
  simp only [List.getElem_range,Int.mul_one]
  exact .int _ _
 ·show IsRangeIter _ _ _ _ _
  rw [rangeSize_nat]
  simpa using Heap.get?_push_size _ rfl
end
noncomputable def ItOk (W:Wo) (it:It):Prop:=∀ (g:Gm) (p:Expr) (c:Cx) (st:St) (μ:List Addr) (s:Shared),okI g it p = true→Good W c g→Inv c st μ s.heap→Sim c (eval (pI it p) c.env) (evIt W.F it st) (rSrc c.prog c.w c.A) st.σ μ s
section
variable {W:Wo} {K:Nat}
theorem Sim.conseq {α β δ:Type} {c:Cx} {σ:List O} {μ:List Addr} {s:Shared} {rel:St→List Addr→Heap→α→β→Prop} {rel':St→List Addr→Heap→α→δ→Prop} {t:Sem α} {m:R β} {g:β→St→R δ}
  (h:Sim c t m rel σ μ s) (hr:∀ b st a μ (s:Shared) d st',Inv c st μ s.heap→rel st μ s.heap a b→g b st = .ok d st'→st' = st∧rel' st μ s.heap a d):Sim c t (m.bind g) rel' σ μ s:=by
 cases m with
 | stuck=>trivial
 | exc x st=>trivial
 | ok b st=>
  simp only [R.bind_ok]
  cases hg:g b st with
  | stuck=>trivial
  | exc x st=>trivial
  | ok d st'=>
   refine wpAny_mono h (fun a s' q8=>El.x1_4 q8 fun μ' h1 h2 h3 h4=>?_) fun _ _ e=>e
   refine El.x0_2 (hr b st a μ' s' d st' h2 h1 hg) fun q0z q=>?_
   try clear h1
   obtain rfl:=q0z
   exact ⟨μ',q,h2,h3,h4⟩
theorem Good.hh {c:Cx} {g:Gm} (hg:Good W c g):c.A.handled = none:=hg.a.hh
theorem Z7b {α:Type} {o:Option α} {st st':St} {t:α} (h:R.lift o st = .ok t st'):o = some t∧st' = st:=by
 cases o with
 | none=>cases h
 | some a=>cases h; exact ⟨rfl,rfl⟩
theorem Zae {e:Ex} (he:EOk W e):ItOk W (.val e):=fun g p c st μ s hk hg I=>
 Sim.conseq (he g _ c st μ s hk hg I) fun x st₁ v μ₁ s₁ d st' I₁ rx hq=>⟨(Z7b hq).2,Zac I₁ hg.hh rx (Z7b hq).1⟩
theorem Z2g (it:It) (p:Expr) (env:Env) (x:Value):foldedSetIterable (pI it p) env x = pure x:=by
 cases it with
 | val e=>exact ZeQ (Z2F e p) env x
 | range1 a=>rfl
 | enum a=>rfl
theorem ZdT {x:V} {st st':St} {xs:List V} (h:(match x with | .int n=>if Z0O n then .ok (upTo 0 n) st else .stuck | _=>.stuck:R (List V)) = .ok xs st'):∃ n,x = .int n∧Z0O n = true∧xs = upTo 0 n∧st' = st:=by
 cases x <;> try (cases h; done)
 rename_i n
 dsimp only at h
 by_cases hs:Z0O n = true
 ·rw [if_pos hs] at h; cases h; exact ⟨n,rfl,hs,rfl,rfl⟩
 ·rw [if_neg hs] at h; cases h
theorem Z3O {a:Ex} (ha:EOk W a):ItOk W (.range1 a):=fun g p c st μ s hk hg I=>
 Z19 (.inr ⟨_,rfl⟩) Z8W (by decide) hg I (and2 hk).1 (Z0t a _) (ha g _ c st μ s (and2 hk).2 hg I) fun x st₁ u μ₁ s₁ rx I₁=>Sim.ok fun xs st' h=>by
  refine El.x1_4 (ZdT h) fun m e1 hs e2 e3=>?_
  subst e1; subst e2; subst e3
  refine El.x1_1 (RepV.int_inv rx) fun t e=>?_
  subst e
  exact Sim.leaf I₁ (call_range_1 ⟨.push _,⟨rfl,rfl,rfl⟩,Zad hg.hh (IsRange.new ..) (by decide) hs⟩)
theorem ZbW {i:Nat} {it:It} {body:Sms} (hi:ItOk W it) (hb:SsOk W K body):SOk W K (.for1 i it body):=fun g p c st μ s hk hg I=>Sim.ok fun fl stF hr=>by
 refine El.x2_2 (R.bind_inv hr) fun xs st₁ hR hr=>?_
 have hI:=hi g _ c st μ s (and2 (and2 hk).2).1 hg I
 rw [hR] at hI
 refine wpAny_For (wpAny_mono hI (fun v s₁ q8=>El.x1_4 q8 fun μ₁ rs I₁ S₁ Q₁=>?_) fun _ _ e=>e) (Z2g it _ _)
 refine rs s₁ _ rfl fun it fp wr Sp s₂ X₂ Q₂ W' hst=>?_
 refine codeAny_mono (Z7a (target:=.Name (nmOf (skid p 0)) (skid p 0).pos) (body:=pSs body (blk p)) (as:=fun y st=>.ok () (setV st i y)) (bd:=fun st=>evSs W.F K body st) (st₀:=st₁) (s₀:=s₁) (s₁:=s₂) W' hst
  (fun y v st μ s r I=>Sim.imp (fun Q h=>wpAny_assign_Name h) (Z1B hg.nm (and2 hk).1 I r)) (fun st μ s I=>hb g _ c st μ s (and2 (and2 hk).2).2 hg I) I₁ X₂ Q₂ (fl:=fl) (stF:=stF) hr (fun _=>rfl)) fun r s' hr'=>?_
 cases r with
 | ok f=>exact El.x1_4 hr' fun μ' g1 g2 g3 g4=>⟨μ',g1,g2,S₁.trans g3,Q₁.trans g4⟩
 | error e=>exact hr'.elim
end
theorem Inv.frozen {c:Cx} {st:St} {μ:List Addr} {h:Heap} (I:Inv c st μ h) {n:Nat} {xs:List V} (hn:st.σ[n]? = some (.lst xs)) :
  Inv c ⟨st.ρ,st.σ.set n .dead⟩ μ h∧Stp c st.σ μ h (st.σ.set n .dead) μ h∧∀ v,RepV (Tr st.σ μ) μ h v (.ref n)→RepV (Tr (st.σ.set n .dead) μ) μ h v (.lst xs):=by
 have hlt:n < st.σ.length:=(List.getElem?_eq_some_iff.mp hn).1
 have sub:∀ b,Tr (st.σ.set n .dead) μ b→Tr st.σ μ b:=by
  intro b q0z
  refine El.x2_3 q0z fun k o e1 e2 e3=>?_
  by_cases hk:n = k
  ·try clear q0z
   subst hk
   have e4:O.dead = o:=by simpa [hlt] using e1
   subst e4; cases e2
  ·rw [List.getElem?_set_ne hk] at e1; exact ⟨k,o,e1,e2,e3⟩
 have S:Stp c st.σ μ h (st.σ.set n .dead) μ h:=⟨Nat.le_refl _,fun _ _ e _ _=>e,fun _ _ e=>e,fun b q=>.inl (sub b q),fun _ q=>.inl q,Z5O hn (by simp),fun _ _ _ _ _ e=>e⟩
 have mv:∀ {v:Value} {x:V},RepV (Tr st.σ μ) μ h v x→RepV (Tr (st.σ.set n .dead) μ) μ h v x:=fun r=>r.move (fun a o e _ hT=>⟨e,fun q=>hT (sub a q)⟩) fun _ _ q=>q
 have mvs:∀ {v:List Value} {x:List V},RepVs (Tr st.σ μ) μ h v x→RepVs (Tr (st.σ.set n .dead) μ) μ h v x:=fun r=>r.move (fun a o e _ hT=>⟨e,fun q=>hT (sub a q)⟩) fun _ _ q=>q
 refine ⟨⟨fun j x q=>?_,I.slots,fun k o q=>?_,by simpa using I.len,I.nd,I.lt,I.base,I.baseS,I.baseM,I.sep,Z9m I.kd trivial⟩,S,?_⟩
 ·refine El.x2_3 (I.vars j x q) fun s v g1 g2 g3=>?_
  exact ⟨s,v,g1,g2,mv g3⟩
 ·dsimp only at q ⊢
  by_cases hk:n = k
  ·try clear g3; try clear g2; try clear g1; try clear s; try clear x; try clear j; try clear mv; try clear S; try clear b; try clear sub
   subst hk
   have e4:O.dead = o:=by simpa [hlt] using q
   subst e4
   refine El.x1_2 (I.objs n _ hn) fun a ha _=>?_
   exact ⟨a,ha,.dead⟩
  ·rw [List.getElem?_set_ne hk] at q
   refine El.x1_2 (I.objs k o q) fun a ha r=>?_
   refine ⟨a,ha,?_⟩
   exact r.map (fun _ ho=>ho) fun _ _ r=>(mvs r)
 ·intro v r
  refine El.x1_2 r.refI fun a9 e9 ha=>?_
  try clear a9; try clear a; try clear v; try clear q
  subst e9
  refine El.x1_2 (I.objs n _ hn) fun a' ha' ro=>?_
  try clear a'; try clear e9
  obtain rfl:=Option.some.inj (ha.symm.trans ha')
  refine El.x2_3 ro.lst_inv fun vs nn ho hz r=>?_
  refine .lst ho rfl rfl hz ?_ (mvs r)
  intro q1z
  refine El.x2_3 q1z fun k o e1 e2 e3=>?_
  have:n = k:=(List.getElem?_inj (List.getElem?_eq_some_iff.mp ha).1 I.nd).mp (ha.trans e3.symm)
  try clear q1z; try clear hz; try clear ho; try clear nn; try clear vs; try clear ro; try clear ha'; try clear r; try clear ha; try clear mvs; try clear e3; try clear k
  subst this
  have e4:O.dead = o:=by simpa [hlt] using e1
  try clear e1; try clear o; try clear hlt
  subst e4; cases e2
theorem Z2J {f:Str→Addr}:∀ {l:List (Str × Addr)} {y:Str},(∀ p ∈ l,p.2 = f p.1)→(∃ p ∈ l,p.1 = y)→l.lookup y = some (f y)
 | [],_,_,⟨p,hp,_⟩=>by simp at hp
 | (n,a) :: r,y,h,⟨p,hp,e⟩=>by
  rw [List.lookup_cons]
  by_cases hy:y = n
  ·subst hy
   simp only [beq_self_eq_true]
   rw [show a = f y from h (y,a) (by simp)]
  ·have hb:(y == n) = false:=by simp [hy]
   simp only [hb]
   refine Z2J (fun q hq=>h q (by simp [hq])) ?_
   try clear hb
   rcases List.mem_cons.mp hp with rfl | hp
   ·exact (hy e.symm).elim
   ·exact ⟨p,hp,e⟩
noncomputable def Z4t (env:Env) (n:Str):Addr:=(env.cells.lookup n).getD 0
noncomputable def Z3P (env:Env):List (Str × NameKind)→List (Str × Addr)→List (Str × Addr)
 | [],cs=>cs
 | (n,k) :: r,cs=>Z3P env r (if k == .free then (n,Z4t env n) :: cs else cs)
theorem Z4H (env:Env) (n:Str) (k:NameKind) (r:List (Str × NameKind)) (cs:List (Str × Addr)):Z3P env ((n,k) :: r) cs = Z3P env r (if k == .free then (n,Z4t env n) :: cs else cs):=rfl
theorem Z3Q (env:Env):∀ (names:List (Str × NameKind)) (cs:List (Str × Addr)),(∀ p ∈ cs,p.2 = Z4t env p.1)→∀ p ∈ Z3P env names cs,p.2 = Z4t env p.1
 | [],_,h=>h
 | (n,k) :: r,cs,h=>Z3Q env r _ (by
   split
   ·intro p hp
    rcases List.mem_cons.mp hp with rfl | hp
    ·rfl
    ·exact h p hp
   ·exact h)
theorem Z3R (env:Env) {y:Str}:∀ (names:List (Str × NameKind)) (cs:List (Str × Addr)),((∃ p ∈ cs,p.1 = y) ∨ (y,NameKind.free) ∈ names)→∃ p ∈ Z3P env names cs,p.1 = y
 | [],_,h=>h.elim id fun h=>by simp at h
 | (n,k) :: r,cs,h=>Z3R env r _ (by
   rcases h with ⟨p,hp,e⟩ | h
   ·refine .inl ⟨p,?_,e⟩
    split
    ·exact List.mem_cons_of_mem _ hp
    ·exact hp
   ·rcases List.mem_cons.mp h with h | h
    ·cases h
     exact .inl ⟨(y,Z4t env y),by simp,rfl⟩
    ·exact .inr h)
theorem Z2K {α:Type}:∀ {l:List (Str × α)} {y:Str} {k:α},l.lookup y = some k→(y,k) ∈ l
 | [],_,_,h=>by simp at h
 | (n,a) :: r,y,k,h=>by
  rw [List.lookup_cons] at h
  by_cases hy:y = n
  ·subst hy
   simp at h; subst h; simp
  ·have hb:(y == n) = false:=by simp [hy]
   simp only [hb] at h
   exact List.mem_cons_of_mem _ (Z2K h)
theorem Z6a {env:Env} {scope:Scope} (h:∀ p ∈ scope.names,p.2 = .free→∃ a,env.cells.lookup p.1 = some a):closureFor scope env = pure (Z3P env scope.names []):=by
 have go:∀ (names:List (Str × NameKind)) (cs:List (Str × Addr)),(∀ p ∈ names,p.2 = .free→∃ a,env.cells.lookup p.1 = some a) →
   (forIn names cs fun (x:Str × NameKind) cs=>(if x.2 == NameKind.free then do let a ← cellOf env x.1; pure (ForInStep.yield ((x.1,a) :: cs)) else pure (ForInStep.yield cs):Sem (ForInStep (List (Str × Addr))))) = pure (Z3P env names cs):=by
  intro names
  induction names with
  | nil=>intro cs _; rfl
  | cons p r ih=>
   intro cs h
   obtain ⟨n,k⟩:=p
   rw [List.forIn_cons]
   by_cases hk:k = .free
   ·try clear names
    subst hk
    refine El.x1_1 (h (n,.free) (by simp) rfl) fun a ha=>?_
    have hc:cellOf env n = pure a:=by unfold cellOf; simp only [ha]
    have hf:Z4t env n = a:=by unfold Z4t; rw [ha]; rfl
    simp only [beq_self_eq_true,if_true,hc,Z4H,hf]
    exact ih _ fun p hp=>h p (by simp [hp])
   ·have hb:(k == NameKind.free) = false:=by simp [hk]
    simp only [hb,Bool.false_eq_true,if_false,Z4H]
    exact ih _ fun p hp=>h p (by simp [hp])
 unfold closureFor
 have:=go scope.names [] h
 exact congrArg (fun t:Sem (List (Str × Addr))=>t >>= fun cs=>pure cs) this
noncomputable def Cx.comp (c:Cx) (scope:Scope) (C:Addr) (x:Str) (k:Nat):Cx :=
 { c with env:=compEnvC scope (Z3P c.env scope.names []) C c.env,sl:=fun i=>if i = k then some (.d C x) else c.sl i }
section
variable {c:Cx} {scope:Scope} {C:Addr} {x:Str} {k:Nat} {st:St} {μ:List Addr} {h h':Heap}
theorem Z3i {b:Addr} (q:Own (c.comp scope C x k) b):b = C ∨ Own c b:=by
 refine El.x2_2 q fun i s h1 h2=>?_
 by_cases hi:i = k
 ·have e:some (Slot.d C x) = some s:=by simpa [Cx.comp,hi] using h1
  cases e; exact .inl h2.symm
 ·exact .inr ⟨i,s,by simpa [Cx.comp,hi] using h1,h2⟩
theorem Inv.enter (I:Inv c st μ h) (hC:h.objs.size ≤ C) (X:Ext h h') (hn:∃ m,h'.Ns C m):Inv (c.comp scope C x k) ⟨st.ρ.set k none,st.σ⟩ μ h':=by
 have I':=I.ext X
 refine ⟨fun i y q=>?_,fun i s q=>?_,I'.objs,I.len,I.nd,I'.lt,I'.base,fun b q=>?_,I.baseM,fun b q m=>?_,I.kd⟩
 ·dsimp only at q
  by_cases hi:k = i
  ·subst hi
   rw [List.getElem?_set] at q
   simp only [if_true] at q
   split at q <;> cases q
  ·rw [List.getElem?_set_ne hi] at q
   refine El.x2_3 (I'.vars i y q) fun s v g1 g2 g3=>?_
   exact ⟨s,v,by simpa [Cx.comp,Ne.symm hi] using g1,g2,g3⟩
 ·by_cases hi:i = k
  ·have e:some (Slot.d C x) = some s:=by simpa [Cx.comp,hi] using q
   cases e; exact hn
  ·exact I'.slots i s (by simpa [Cx.comp,hi] using q)
 ·try clear e; try clear g3; try clear g2; try clear g1; try clear v; try clear s; try clear y; try clear i
  rcases Z3i q with rfl | q
  ·show c.base.get? b = none
   cases hb:c.base.get? b with
   | none=>rfl
   | some o=>exact absurd (Nat.lt_of_lt_of_le (Heap.lt_size (I.base _ _ hb)) hC) (Nat.lt_irrefl _)
  ·exact I.baseS b q
 ·rcases Z3i q with rfl | q
  ·exact Nat.lt_irrefl _ (Nat.lt_of_lt_of_le (I.lt b m) hC)
  ·exact I.sep b q m
theorem Inv.leave (I:Inv (c.comp scope C x k) st μ h) (hk:c.sl k = none) (hCo:¬ Own c C) (hs:Heap.SameBut C h h'):Inv c ⟨st.ρ.set k none,st.σ⟩ μ h':=by
 have oc:Own (c.comp scope C x k) C:=⟨k,.d C x,by simp [Cx.comp],rfl⟩
 have I₁:Inv c ⟨st.ρ.set k none,st.σ⟩ μ h:=by
  refine ⟨fun i y q=>?_,fun i s q=>?_,I.objs,I.len,I.nd,I.lt,I.base,fun b q=>?_,I.baseM,fun b q=>?_,I.kd⟩
  ·dsimp only at q
   by_cases hi:k = i
   ·subst hi
    rw [List.getElem?_set] at q
    simp only [if_true] at q
    split at q <;> cases q
   ·rw [List.getElem?_set_ne hi] at q
    refine El.x2_3 (I.vars i y q) fun s v g1 g2 g3=>?_
    exact ⟨s,v,by simpa [Cx.comp,Ne.symm hi] using g1,g2,g3⟩
  ·have hi:i ≠ k:=fun e=>by rw [e,hk] at q; cases q
   exact I.slots i s (by simpa [Cx.comp,hi] using q)
  ·refine El.x2_2 q fun i s h1 h2=>?_
   have hi:i ≠ k:=fun e=>by rw [e,hk] at h1; cases h1
   exact I.baseS b ⟨i,s,by simpa [Cx.comp,hi] using h1,h2⟩
  ·refine El.x2_2 q fun i s h1 h2=>?_
   have hi:i ≠ k:=fun e=>by rw [e,hk] at h1; cases h1
   exact I.sep b ⟨i,s,by simpa [Cx.comp,hi] using h1,h2⟩
 refine I₁.but (wr:=[C]) (fun b o hb e=>(hs.2 b (fun q=>hb (by simp [q]))).trans e) (Nat.le_of_eq hs.1.symm) (fun b q=>?_) (fun b q=>?_) (fun b q=>?_) (fun b q=>?_)
 ·rw [List.mem_singleton.mp q]
  refine El.x1_1 (Z1A I oc) fun o ho=>?_
  exact ⟨o,ho,I.own_data oc ho⟩
 ·rw [List.mem_singleton.mp q]; exact hCo
 ·rw [List.mem_singleton.mp q]; exact I.sep C oc
 ·rw [List.mem_singleton.mp q]; exact I.baseS C oc
theorem Stp.inner {c':Cx} {σ₀ σ₁ σ₂:List O} {μ₀ μ₁ μ₂:List Addr} {h₀ h₁ h₂:Heap} (S:Stp c σ₀ μ₀ h₀ σ₁ μ₁ h₁) (S':Stp c' σ₁ μ₁ h₁ σ₂ μ₂ h₂) (ho:∀ b,Own c' b→Own c b ∨ h₀.objs.size ≤ b):Stp c σ₀ μ₀ h₀ σ₂ μ₂ h₂ where
 size:=Nat.le_trans S.size S'.size
 keep:=fun b o e h1 h2=>S'.keep b o (S.keep b o e h1 h2) (fun q=>(ho b q).elim h1 fun q=>Nat.lt_irrefl _ (Nat.lt_of_lt_of_le (Heap.lt_size e) q))
  fun q=>(S.tr b q).elim h2 fun q=>Nat.lt_irrefl _ (Nat.lt_of_lt_of_le (Heap.lt_size e) q)
 pre:=fun n a e=>S'.pre n a (S.pre n a e)
 tr:=fun b q=>(S'.tr b q).elim (fun q=>S.tr b q) fun q=>.inr (Nat.le_trans S.size q)
 new:=fun a q=>(S'.new a q).elim (fun q=>S.new a q) fun q=>.inr (Nat.le_trans S.size q)
 pv:=fun n e=>S'.pv n (S.pv n e)
 pk:=fun n a o e e' e''=>S'.pk n a o (S.pv n e) (S.pre n a e') (S.pk n a o e e' e'')
end
theorem Z1g {y:Str} {i:Nat} {p:Str × Nat→Bool}:∀ {l:List (Str × Nat)},(∀ a b:Str × Nat,a.1 = b.1→p a = p b)→(l.filter p).lookup y = some i→l.lookup y = some i∧p (y,i) = true
 | [],_,h=>by simp at h
 | (n,a) :: r,hp,h=>by
  rw [List.filter_cons] at h
  by_cases hq:p (n,a) = true
  ·rw [if_pos hq,List.lookup_cons] at h
   rw [List.lookup_cons]
   by_cases hy:y = n
   ·subst hy
    simp at h ⊢
    subst h
    exact ⟨rfl,hq⟩
   ·have hb:(y == n) = false:=by simp [hy]
    simp only [hb] at h ⊢
    exact Z1g hp h
  ·rw [if_neg hq] at h
   refine El.x0_2 (Z1g hp h) fun h1 h2=>?_
   rw [List.lookup_cons]
   have hy:y ≠ n:=fun e=>hq ((hp (n,a) (y,i) e.symm).trans h2)
   have hb:(y == n) = false:=by simp [hy]
   simp only [hb]
   exact ⟨h1,h2⟩
theorem Z0U {g:Gm}:∀ {names:List (Str × NameKind)} {y:Str},names.lookup y = some .free→g.sc.kind = .function→g.sc.names.lookup y = some .cell →
  (names.map fun p=>if Z1z g p.1 p.2 then (p.1,NameKind.cell) else (p.1,p.2)).lookup y = some .cell
 | [],_,h,_,_=>by simp at h
 | (n,k) :: r,y,h,h1,h2=>by
  rw [List.map_cons]
  by_cases hy:y = n
  ·subst hy
   simp at h
   subst h
   have:Z1z g y .free = true:=by simp [Z1z,h1,h2]
   simp [this]
  ·have hb:(y == n) = false:=by simp [hy]
   rw [List.lookup_cons] at h
   simp only [hb] at h
   have ih:=Z0U h h1 h2
   dsimp only
   split
   ·rw [List.lookup_cons]; simp only [hb]; exact ih
   ·rw [List.lookup_cons]; simp only [hb]; exact ih
theorem Z0V {g:Gm}:∀ {names:List (Str × NameKind)} {y:Str},(∀ p ∈ names,p.2 ≠ .cell)→(names.map fun p=>if Z1z g p.1 p.2 then (p.1,NameKind.cell) else (p.1,p.2)).lookup y = some .cell→names.lookup y = some .free
 | [],_,_,h=>by simp at h
 | (n,k) :: r,y,hc,h=>by
  rw [List.map_cons] at h
  rw [List.lookup_cons]
  by_cases hy:y = n
  ·subst hy
   simp only [beq_self_eq_true]
   by_cases ho:Z1z g y k = true
   ·unfold Z1z at ho
    simp at ho
    rw [ho.1.1]
   ·rw [if_neg ho,List.lookup_cons] at h
    simp at h
    exact (hc (y,k) (by simp) h).elim
  ·have hb:(y == n) = false:=by simp [hy]
   simp only [hb]
   refine Z0V (g:=g) (fun p hp=>hc p (by simp [hp])) ?_
   dsimp only at h
   split at h
   ·rw [List.lookup_cons] at h; simpa only [hb] using h
   ·rw [List.lookup_cons] at h; simpa only [hb] using h
theorem Z8k {c:Cx} {g:Gm} (N:Nm c g) (scope:Scope):relabel scope c.env = Z6V g scope:=by
 unfold relabel Z6V Z1z Env.kindOf
 rw [N.sc]
structure CompOk (g:Gm) (scope:Scope) (x:Str) (k:Nat):Prop where
 kind:scope.kind = .function
 loc:scope.names.lookup x = some .local
 nocell:∀ p ∈ scope.names,p.2 ≠ .cell
 plain:Z2E x = true
 fresh:k ∉ g.used
 free:∀ p ∈ scope.names,p.2 = .free→g.sc.names.lookup p.1 = some .cell
 lname:∀ p ∈ scope.names,p.2 = .local→scope.names.lookup p.1 = some .local
theorem Z35 {α:Type}:∀ {l:List (Str × α)} {y:Str} {k:α},(l.map (·.1)).Nodup→(y,k) ∈ l→l.lookup y = some k
 | [],_,_,_,h=>by simp at h
 | (n,a) :: r,y,k,hn,h=>by
  rw [List.lookup_cons]
  rw [List.map_cons,List.nodup_cons] at hn
  rcases List.mem_cons.mp h with h | h
  ·cases h; simp
  ·have hy:y ≠ n:=fun e=>hn.1 (List.mem_map.mpr ⟨(y,k),h,e⟩)
   have hb:(y == n) = false:=by simp [hy]
   simp only [hb]
   exact Z35 hn.2 h
theorem Z3S {g:Gm} {scope:Scope} {x:Str} {k:Nat} (h:Za0 g scope x k = true):CompOk g scope x k:=by
 unfold Za0 at h
 simp only [Bool.and_eq_true,decide_eq_true_eq,List.all_eq_true] at h
 obtain ⟨⟨⟨⟨⟨⟨⟨⟨⟨h1,h2⟩,h3⟩,h4⟩,h5⟩,h6⟩,h7⟩,h8⟩,h9⟩,h10⟩:=h
 refine ⟨h1,h2,fun p hp e=>?_,h4,?_,fun p hp e=>?_,fun p hp e=>Z35 h10 (by rw [← e]; exact hp)⟩
 ·have:=h3 p hp; simp [e] at this
 ·simpa using h5
 ·have:=h8 p hp; simpa [e] using this
theorem Nm.enter {c:Cx} {g:Gm} {scope:Scope} {x:Str} {k:Nat} {C:Addr} (N:Nm c g) (O:CompOk g scope x k) (hC:¬ Own c C):Nm (c.comp scope C x k) (g.comp scope x k) where
 sc:=Z8k N scope
 kind:=O.kind
 glob:=N.glob
 blt:=N.blt
 var:=by
  intro y i hl
  unfold Gm.comp at hl ⊢
  dsimp only at hl ⊢
  rw [List.lookup_cons] at hl
  by_cases hy:y = x
  ·subst hy
   simp at hl
   subst hl
   refine .inl ⟨?_,by simp [Cx.comp,compEnvC]⟩
   have:=lookup_relabel_local (env:=c.env) O.loc
   have e:=Z8k N scope
   unfold relabel at e
   rw [← e]
   exact this
  ·have hb:(y == x) = false:=by simp [hy]
   simp only [hb] at hl
   obtain ⟨h1,h2⟩:=Z1g (by rintro ⟨a1,a2⟩ ⟨b1,b2⟩ e; dsimp only at e; subst e; rfl) hl
   simp at h2
   refine El.x0_2 h2 fun q10z h4=>?_
   refine El.x0_2 q10z fun _ h3=>?_
   rcases N.var y i h1 with ⟨k1,_⟩ | ⟨k1,a,k2,k3⟩
   ·rw [h4] at k1; cases k1
   ·refine .inr ⟨Z0U h3 N.kind h4,a,?_,?_⟩
    ·show (Z3P c.env scope.names []).lookup y = some a
     rw [Z2J (f:=Z4t c.env) (Z3Q _ _ _ (by simp)) (Z3R _ _ _ (.inr (Z2K h3)))]
     unfold Z4t; rw [k2]; rfl
    ·have hi:i ≠ k:=fun e=>O.fresh (e ▸ N.dom i _ k3)
     simpa [Cx.comp,hi] using k3
 apart:=by
  intro i j s h1 h2
  by_cases hi:i = k
  ·by_cases hj:j = k
   ·rw [hi,hj]
   ·have e:some (Slot.d C x) = some s:=by simpa [Cx.comp,hi] using h1
    try clear h3; try clear h4; try clear q10z; try clear hb; try clear hl
    cases e
    exact (hC ⟨j,.d C x,by simpa [Cx.comp,hj] using h2,rfl⟩).elim
  ·by_cases hj:j = k
   ·have e:some (Slot.d C x) = some s:=by simpa [Cx.comp,hj] using h2
    cases e
    exact (hC ⟨i,.d C x,by simpa [Cx.comp,hi] using h1,rfl⟩).elim
   ·exact N.apart i j s (by simpa [Cx.comp,hi] using h1) (by simpa [Cx.comp,hj] using h2)
 dom:=by
  intro i s h1
  by_cases hi:i = k
  ·try clear j; try clear h2; try clear e
   subst hi; exact List.mem_cons_self
  ·exact List.mem_cons_of_mem _ (N.dom i s (by simpa [Cx.comp,hi] using h1))
 cells:=fun y hy=>⟨_,Z2J (f:=Z4t c.env) (Z3Q _ _ _ (by simp)) (Z3R _ _ _ (.inr (Z2K (Z0V O.nocell hy))))⟩
theorem Good.enter {W:Wo} {c:Cx} {g:Gm} {scope:Scope} {x:Str} {k:Nat} {C:Addr} (hg:Good W c g) (O:CompOk g scope x k) (hC:¬ Own c C):Good W (c.comp scope C x k) (g.comp scope x k) :=
 ⟨⟨hg.ok.pyl,hg.ok.hh,hg.ok.units,hg.ok.sys⟩,hg.gd,hg.nm.enter O hC,hg.a,hg.gs,hg.fn⟩
noncomputable def Z1C (env:Env) (py:List Expr) (b:Bool):Sem Bool:=forIn py b fun q r=>if r = true then do let ok ← isTrue q env (eval q env); pure (ForInStep.yield ok) else pure (ForInStep.yield r)
noncomputable def TsOk (W:Wo) (es:Exs):Prop:=∀ (g:Gm) (ps:List Expr) (c:Cx) (st:St) (μ:List Addr) (s:Shared),okEs g es ps = true→Good W c g→Inv c st μ s.heap→Sim c (Z1C c.env (pEs es ps) true) (evTs W.F es st) rEq st.σ μ s
section
variable {W:Wo}
theorem Z3T (env:Env):∀ py:List Expr,Z1C env py false = pure false
 | []=>rfl
 | x :: xs=>by
  unfold Z1C
  rw [List.forIn_cons]
  simp only [Bool.false_eq_true,if_false]
  exact Z3T env xs
theorem Z5k:TsOk W .nil:=fun _ _ _ _ _ _ _ _ I=>Sim.pure I rfl
theorem Z8Y (env:Env) (q:Expr) (qs:List Expr):Z1C env (q :: qs) true = (isTrue q env (eval q env) >>= fun b=>Z1C env qs b):=by
 unfold Z1C
 rw [List.forIn_cons,if_pos rfl,bind_assoc]
 rfl
theorem Z3U {e:Ex} {es:Exs} (he:TOk W e) (hes:TsOk W es):TsOk W (.cons e es):=fun g ps c st μ s hk hg I=>
 Sim.of_eq (Z8Y ..) (Sim.eq (he g _ c st μ s (and2 hk).1 hg I) fun b st₁ μ₁ s₁ _ I₁ _=>by
  cases b with
  | true=>exact hes g _ c st₁ μ₁ s₁ (and2 hk).2 hg I₁
  | false=>exact Sim.of_eq (Z3T c.env _) (Sim.pure I₁ rfl))
structure CLi (c:Cx) (wr:List Addr) (Sp:Nat→Heap→Prop) (σ₀:List O) (μ₀:List Addr) (h₀:Heap) (st₁:St) (μ₁:List Addr) (s₁:Shared) (m:Nat) (D:Addr) (i:Nat) (st:St) (μ:List Addr) (s:Shared):Prop where
 sp:Sp i s.heap
 inv:Inv c st μ s.heap
 mem:∀ b ∈ wr,b ∉ μ
 kp:Kp σ₀ μ₀ h₀ st.σ μ s.heap
 stp:Stp c st₁.σ μ₁ h₀ st.σ μ s.heap
 same:Same s₁ s
 at':μ[m]? = some D
section
variable {c:Cx} {k m:Nat} {xs:List V} {it D:Addr} {fp wr:List Addr} {Sp:Nat→Heap→Prop} {σ₀:List O} {μ₀:List Addr} {h₀:Heap} {s₁:Shared} {st₁:St} {μ₁:List Addr}
theorem CLi.step (W:Itr c.prog c.w c.A it fp wr xs σ₀ μ₀ h₀ Sp) (own:∀ b ∈ wr,¬ Own c b) {i:Nat} {st st':St} {μ μ':List Addr} {s s':Shared} (X:CLi c wr Sp σ₀ μ₀ h₀ st₁ μ₁ s₁ m D i st μ s) (I:Inv c st' μ' s'.heap) (S:Stp c st.σ μ s.heap st'.σ μ' s'.heap) (Q:Same s s'):CLi c wr Sp σ₀ μ₀ h₀ st₁ μ₁ s₁ m D i st' μ' s' :=
 El.x0_2 (W.keep own X.mem X.inv X.kp S X.sp) fun h1 h2=>⟨h1,I,h2,X.kp.trans (S.kp X.inv),X.stp.trans S,X.same.trans Q,S.pre _ _ X.at'⟩
theorem CLi.sim (W:Itr c.prog c.w c.A it fp wr xs σ₀ μ₀ h₀ Sp) (own:∀ b ∈ wr,¬ Own c b) {i:Nat} {st st':St} {μ:List Addr} {s:Shared} (X:CLi c wr Sp σ₀ μ₀ h₀ st₁ μ₁ s₁ m D i st μ s) {α β:Type} {t:Sem α} {b:β} {rel:St→List Addr→Heap→α→β→Prop} {mm:R β} (hs:Sim c t mm rel st.σ μ s) (e:mm = .ok b st') {Q:α→Shared→Prop} {E:Value→Shared→Prop} (h:∀ a μ' s',rel st' μ' s'.heap a b→CLi c wr Sp σ₀ μ₀ h₀ st₁ μ₁ s₁ m D i st' μ' s'→Q a s'):wpAny (model c.prog c.w) c.A t Q E s:=by
 rw [e] at hs
 exact wpAny_mono hs (fun a s' q=>El.x1_4 q fun μ' r I S Q=>h a μ' s' r (X.step W own I S Q)) fun _ _ e=>e.elim
end
theorem Z6b {c:Cx} {g:Gm} {elt iter:Expr} {x:Str} {px:Pos} {fs:List Expr} {scope:Scope} {pos:Pos} {k m:Nat} {xs:List V} {tests:St→R Bool} {ev:St→R V} {it D:Addr} {fp wr:List Addr} {Sp:Nat→Heap→Prop}
  {σ₀:List O} {μ₀:List Addr} {h₀:Heap} {s₁:Shared} {st₁:St} {μ₁:List Addr} (W:Itr c.prog c.w c.A it fp wr xs σ₀ μ₀ h₀ Sp) (start:Sp 0 s₁.heap) (K₁:Kp σ₀ μ₀ h₀ st₁.σ μ₁ s₁.heap)
  (N:Nm c g) (hx:g.lv x k = true) (hD:μ₁[m]? = some D) (I₁:Inv c st₁ μ₁ s₁.heap) (own:∀ b ∈ wr,¬ Own c b) (mem₁:∀ b ∈ wr,b ∉ μ₁) (bs:∀ b ∈ wr,c.base.get? b = none)
  (hT:∀ st μ (s:Shared),Inv c st μ s.heap→Sim c (Z1C c.env fs true) (tests st) rEq st.σ μ s)
  (hE:∀ st μ (s:Shared),Inv c st μ s.heap→Sim c (eval elt c.env) (ev st) rV st.σ μ s)
  {stF:St} (hr:Z3c k m tests ev xs st₁ = .ok () stF) {Rs:Result→Shared→Prop}
  (hR:∀ s' μ',Inv c stF μ' s'.heap→Kp σ₀ μ₀ h₀ stF.σ μ' s'.heap→Stp c st₁.σ μ₁ h₀ stF.σ μ' s'.heap→Same s₁ s'→μ'[m]? = some D→Rs (.ok .next) s') (S₁:Stp c st₁.σ μ₁ h₀ st₁.σ μ₁ s₁.heap) :
  codeAny (model c.prog c.w) c.A (.compLoop (.ListComp elt [⟨.Name x px,iter,fs,0⟩] scope pos) 0 (.ref it) (.ref D) c.env) Rs s₁:=by
 obtain ⟨J,hJ⟩:∃ J:Nat→Shared→Prop,∀ j s',J j s'↔∃ i st μ,j = xs.length + 1 - i∧i ≤ xs.length∧Z3c k m tests ev (xs.drop i) st = .ok () stF∧CLi c wr Sp σ₀ μ₀ h₀ st₁ μ₁ s₁ m D i st μ s':=⟨_,fun _ _=>Iff.rfl⟩
 refine codeAny_compLoop_tests J (fun j s' hJj=>El.x3_4 ((hJ j s').mp hJj) fun i st μ ej hi hf X=>?_) (xs.length + 1) ((hJ _ _).mpr ⟨0,st₁,μ₁,rfl,Nat.zero_le _,hr,start,I₁,mem₁,K₁,S₁,.refl,hD⟩)
 rw [ej]
 clear hJj ej
 by_cases hlt:i < xs.length
 ·rw [List.drop_eq_getElem_cons hlt,Z4y] at hf
  refine wpAny_mono (W.item i xs[i] s' st.σ μ _ (List.getElem?_eq_getElem hlt) X.sp X.kp fun v h' tk hk hsz hst' rv=>?_) (fun _ _ q=>q) fun _ _ e=>(e:False).elim
  have X:CLi c wr Sp σ₀ μ₀ h₀ st₁ μ₁ s₁ m D (i + 1) st μ { s' with heap:=h',toks:=tk }:=⟨hst',X.inv.but hk hsz (W.odd i _ X.sp) own X.mem bs,X.mem,X.kp.but W.wrn hk hsz,X.stp.but W.wrn hk hsz,X.same,X.at'⟩
  refine X.sim W own (Sim.imp (fun Q h=>wpAny_assign_Name h) (Z1B N hx X.inv rv)) rfl fun _ μ₂ s₂ _ X=>?_
  refine El.x2_2 (R.bind_inv hf) fun b st₃ hT' hf=>X.sim W own (hT _ μ₂ s₂ X.inv) hT' fun b' μ₃ s₃ rb X=>?_
  cases rb
  cases b with
  | false=>exact ⟨xs.length + 1 - (i + 1),dec1 hlt,(hJ _ _).mpr ⟨i + 1,st₃,μ₃,rfl,hlt,hf,X⟩⟩
  | true=>
   refine El.x2_2 (R.bind_inv hf) fun z st₄ hE' hf=>X.sim W own (hE st₃ μ₃ s₃ X.inv) hE' fun u μ₄ s₄ ru X=>?_
   have hf:(match st₄.σ[m]? with | some (.lst acc)=>if acc.length < sizeLine then Z3c k m tests ev (xs.drop (i + 1)) ⟨st₄.ρ,st₄.σ.set m (.lst (acc++[z]))⟩ else .stuck | _=>.stuck:R Unit) = .ok () stF:=hf
   cases ha:lstO st₄.σ[m]? with
   | none=>
    exfalso
    cases hm:st₄.σ[m]? with
    | none=>rw [hm] at hf; cases hf
    | some o=>rw [hm] at hf ha; cases o <;> first | cases hf | cases ha
   | some acc=>
    have hacc:=Z0P ha
    rw [hacc] at hf
    refine Z6D hf fun hz hf=>X.sim W own (ZcN (c:=c) (s:=s₄) X.inv (.ref X.at':RepV (Tr st₄.σ μ₄) μ₄ s₄.heap (.ref D) (.ref m)) ru .append) (Z1t st₄.ρ st₄.σ m acc z hacc hz) fun _ μ₅ s₅ _ X=>?_
    exact ⟨xs.length + 1 - (i + 1),dec1 hlt,(hJ _ _).mpr ⟨i + 1,_,μ₅,rfl,hlt,hf,X⟩⟩
 ·obtain rfl:i = xs.length:=eqle hi hlt
  rw [List.drop_length] at hf
  cases hf
  refine wpAny_mono (W.done s' _ X.sp fun h' tk hk hsz=>?_) (fun _ _ q=>q) fun _ _ e=>(e:False).elim
  exact hR _ μ (X.inv.but hk hsz (W.odd _ _ X.sp) own X.mem bs) (X.kp.but W.wrn hk hsz) (X.stp.but W.wrn hk hsz) X.same X.at'
end
section
variable {W:Wo} {K:Nat}
theorem Stp.inner0 {c c':Cx} {σ₀ σ₁ σ₂:List O} {μ₀ μ₁ μ₂:List Addr} {h₀ h₂:Heap} (tr:∀ b,Tr σ₁ μ₁ b→Tr σ₀ μ₀ b ∨ h₀.objs.size ≤ b) (pre:∀ (n:Nat) (a:Addr),μ₀[n]? = some a→μ₁[n]? = some a)
  (new:∀ a ∈ μ₁,a ∈ μ₀ ∨ h₀.objs.size ≤ a) (pv:∀ (n:Nat),σ₀[n]? = some O.priv→σ₁[n]? = some O.priv) (S':Stp c' σ₁ μ₁ h₀ σ₂ μ₂ h₂) (ho:∀ b,Own c' b→Own c b ∨ h₀.objs.size ≤ b):Stp c σ₀ μ₀ h₀ σ₂ μ₂ h₂ where
 size:=S'.size
 keep:=fun b o e h1 h2=>S'.keep b o e (fun q=>(ho b q).elim h1 fun q=>Nat.lt_irrefl _ (Nat.lt_of_lt_of_le (Heap.lt_size e) q))
  fun q=>(tr b q).elim h2 fun q=>Nat.lt_irrefl _ (Nat.lt_of_lt_of_le (Heap.lt_size e) q)
 pre:=fun n a e=>S'.pre n a (pre n a e)
 tr:=fun b q=>(S'.tr b q).elim (fun q=>tr b q) fun q=>.inr q
 new:=fun a q=>(S'.new a q).elim (fun q=>new a q) fun q=>.inr q
 pv:=fun n e=>S'.pv n (pv n e)
 pk:=fun n a o e e' e''=>S'.pk n a o (pv n e) (pre n a e') e''
theorem Z6c {elt:Ex} {k:Nat} {it:It} {ifs:Exs} {g:Gm} {pe iter:Expr} {x:Str} {px pos pos':Pos} {fs:List Expr} {scope:Scope} {c:Cx} {st:St} {μ:List Addr} {s:Shared} (O:CompOk g scope x k) (hg:Good W c g) (I:Inv c st μ s.heap)
  (hI:Sim c (eval iter c.env) (evIt W.F it st) (rSrc c.prog c.w c.A) st.σ μ s) (hn:∀ x,foldedSetIterable iter c.env x = pure x) (ht:∀ c,Good W c (g.comp scope x k)→∀ st μ (s:Shared),Inv c st μ s.heap→Sim c (Z1C c.env fs true) (evTs W.F ifs st) rEq st.σ μ s)
  (he:∀ c,Good W c (g.comp scope x k)→∀ st μ (s:Shared),Inv c st μ s.heap→Sim c (eval pe c.env) (evE W.F elt st) rV st.σ μ s) {y:V} {stE:St} (hv:evE W.F (.comp elt k it ifs) st = .ok y stE) {use:Option (Value→Sem Unit)} {Q:Value→Shared→Prop}
  (hU:∀ (D C:Addr) (μ':List Addr) (s':Shared),RepV (Tr stE.σ μ') μ' s'.heap (.ref D) y→Inv c stE μ' s'.heap→Stp c st.σ μ s.heap stE.σ μ' s'.heap→Same s s'→s.heap.objs.size ≤ C→¬ Own c C→C ∉ μ'→c.base.get? C = none→Odd [C] s'.heap →
   (∃ m,s'.heap.Ns C m)→compPost (model c.prog c.w) c.A (fun _ _=>False) use Q (.ref D) C (.ok .next) s') :
  wpAny (model c.prog c.w) c.A (comprehension (.ListComp pe [⟨.Name x px,iter,fs,0⟩] scope pos) scope c.env pos' (newList []) false (eval iter c.env) use) Q (fun _ _=>False) s:=by
 rw [Z7Q] at hv
 refine El.x2_2 (R.bind_inv hv) fun xs st₁ hR hv=>?_
 refine El.x2_2 (R.bind_inv hv) fun u stF hr hv=>?_
 rw [hR] at hI
 split at hv
 ·rename_i ys hys
  try clear u; try clear hR
  cases hv
  have hclos:closureFor scope c.env = pure (Z3P c.env scope.names []):=Z6a fun p hp e=>by
   have hc:=O.free p hp e
   exact hg.nm.cells p.1 hc
  have hk0:c.sl k = none:=by
   cases hq:c.sl k with
   | none=>rfl
   | some s'=>exact (O.fresh (hg.nm.dom k s' hq)).elim
  refine wpAny_comprehension_free (use:=use) rfl hn hclos O.kind O.lname (wpAny_mono hI (fun v s₁ q8=>El.x1_4 q8 fun μ₁ rs I₁ S₁ Q₁=>?_) fun _ _ e=>e)
  refine rs s₁ _ rfl fun it fp wr Sp s₂ X₂ Q₂ W' hst=>?_
  refine wpAny_newObj_type (wpAny_newFunctionEnv O.nocell (by intro y hy; simp at hy) (fun h₁ hns₁ hsb₁=>?_) O.kind)
  dsimp only at hns₁ hsb₁ ⊢
  have I₂:=I₁.ext X₂
  refine El.x0_2 (I₂.track (o:={ cls:=.type "list",data:=.seq ([]:List Value).toArray }) (ob:=.lst []) rfl rfl trivial fun T hT=>.lst (Heap.get?_push_size _ rfl) (by simp) .nil) fun I₃ S₃=>?_
  generalize hH2:s₂.heap.push { cls:=.type "list",dict:=none,data:=.seq ([]:List Value).toArray } = H2 at hns₁ hsb₁ I₃ S₃ ⊢
  have hC:H2.objs.size = s₂.heap.objs.size + 1:=by rw [← hH2,Heap.size_push]
  have X₃:Ext H2 h₁:=⟨by rw [hsb₁.1,Heap.size_push]; exact Nat.le_succ _,fun b o e=>(hsb₁.2 b (Nat.ne_of_lt (Heap.lt_size e))).trans (Heap.get?_push_of_some _ e)⟩
  have X₂₃:Ext s₂.heap h₁:=⟨Nat.le_trans (by rw [hC]; exact Nat.le_succ _) X₃.1,fun b o e=>X₃.2 b o (by rw [← hH2]; exact Heap.get?_push_of_some _ e)⟩
  have I₄:=I₃.enter (scope:=scope) (x:=x) (k:=k) (C:=H2.objs.size) (Nat.le_refl _) X₃ ⟨_,hns₁⟩
  have hnC:¬ Own c H2.objs.size:=fun q=>by obtain ⟨o,ho⟩:=Z1A I₃ q; exact Nat.lt_irrefl _ (Heap.lt_size ho)
  have hg':=hg.enter O hnC
  have wall:=Z8j I₁ W'.wrn
  have wlt:∀ b ∈ wr,b < s₂.heap.objs.size:=fun b q=>by obtain ⟨o,ho,_⟩:=W'.odd 0 _ hst b q; exact Heap.lt_size ho
  have st0:Sp 0 h₁:=W'.frame 0 _ _ hst fun b _ o e=>X₂₃.2 b o e
  have X₁₃:=X₂.trans X₂₃
  have hz:s₁.heap.objs.size ≤ s₂.heap.objs.size:=X₂.1
  have trr:∀ b,Tr (st₁.σ++[.lst []]) (μ₁++[s₂.heap.objs.size]) b→Tr st₁.σ μ₁ b ∨ s₁.heap.objs.size ≤ b:=fun b q=>(S₃.tr b q).imp id fun q=>Nat.le_trans hz q
  have prr:∀ (n:Nat) (a:Addr),μ₁[n]? = some a→(μ₁++[s₂.heap.objs.size])[n]? = some a:=S₃.pre
  have nww:∀ a ∈ μ₁++[s₂.heap.objs.size],a ∈ μ₁ ∨ s₁.heap.objs.size ≤ a:=fun a q=>(S₃.new a q).imp id fun q=>Nat.le_trans hz q
  have loop:∀ s₃:Shared,s₃ = { s₂ with heap:=h₁,toks:=s₂.toks + ([]:List (Str × Value)).length } →
    codeAny (model c.prog c.w) c.A (.compLoop (.ListComp pe [⟨.Name x px,iter,fs,0⟩] scope pos) 0 (.ref it) (.ref s₂.heap.objs.size) (compEnvC scope (Z3P c.env scope.names []) H2.objs.size c.env))
     (compPost (model c.prog c.w) c.A (fun _ _=>False) use Q (.ref s₂.heap.objs.size) H2.objs.size) s₃:=by
   rintro s₃ rfl
   refine Z6b (c:=c.comp scope H2.objs.size x k) (g:=g.comp scope x k) (k:=k) (m:=st₁.σ.length) (tests:=evTs W.F ifs) (ev:=evE W.F elt) (σ₀:=st₁.σ) (μ₀:=μ₁) (h₀:=s₁.heap) W' st0 ?_ hg'.nm ?_ ?_ I₄ (fun b q o=>?_) (fun b q m=>?_) (fun b q=>(wall b q).1)
    (ht _ hg') (he _ hg') hr (fun s' μ' I' K' S' Q' hD'=>?_) (.ext X₁₃)
   ·exact ⟨X₁₃.1,fun b o e _ _=>X₁₃.2 b o e,prr,trr,fun k e=>by rw [List.getElem?_append_left (List.getElem?_eq_some_iff.mp e).1]; exact e⟩
   ·have:=O.plain
    simp [Gm.lv,Gm.comp,this]
   ·rw [← I₁.len]; simp
   ·try clear K'; try clear s₃; try clear X₁₃; try clear hg; try clear I₄; try clear X₂₃; try clear X₃; try clear S₃; try clear I₃; try clear I₂; try clear hsb₁; try clear hns₁
    rcases Z3i o with rfl | o
    ·have q':=wlt _ q; rw [hC] at q'; exact Nat.lt_irrefl _ (Nat.lt_of_succ_lt q')
    ·exact (wall b q).2.1 o
   ·rcases List.mem_append.mp m with m | m
    ·exact (wall b q).2.2 m
    ·rw [List.mem_singleton.mp m] at q; exact Nat.lt_irrefl _ (wlt _ q)
   ·have oc:Own (c.comp scope H2.objs.size x k) H2.objs.size:=⟨k,.d H2.objs.size x,by simp [Cx.comp],rfl⟩
    obtain ⟨m,hm⟩:∃ m,s'.heap.Ns H2.objs.size m:=by
     have:=I'.slots k (.d H2.objs.size x) (by simp [Cx.comp])
     exact this
    have sC:s₁.heap.objs.size ≤ H2.objs.size:=by rw [hC]; exact Nat.le_succ_of_le hz
    have I₅:=I'.leave hk0 hnC (Heap.SameBut.refl _ _)
    refine El.x0_3 (I₅.frozen (n:=st₁.σ.length) (xs:=ys) hys) fun I₆ S₆ fr=>?_
    have S₅:Stp c st₁.σ μ₁ s₁.heap stF.σ μ' s'.heap:=S'.inner0 trr prr nww (fun k e=>by rw [List.getElem?_append_left (List.getElem?_eq_some_iff.mp e).1]; exact e) fun b q=>(Z3i q).elim (fun e=>.inr (e ▸ sC)) .inl
    have Q₇:Same s s':=Q₁.trans (Q₂.trans (Same.trans (s':={ s₂ with heap:=h₁,toks:=s₂.toks + ([]:List (Str × Value)).length }) ⟨rfl,rfl,rfl⟩ Q'))
    exact hU _ _ μ' s' (fr _ (.ref hD')) I₆ (S₁.trans (S₅.trans S₆)) Q₇ (Nat.le_trans S₁.size sC) hnC (I'.sep _ oc) (I'.baseS _ oc) (fun b q=>by
     rw [List.mem_singleton.mp q]
     refine El.x1_1 (Z1A I' oc) fun o ho=>?_
     exact ⟨o,ho,I'.own_data oc ho⟩) ⟨m,hm⟩
  exact codeAny_compStart_list (loop _ rfl) (W'.again 0 _ _ _ st0 (loop _ rfl))
 ·try clear Q₇; try clear S₅; try clear fr; try clear S₆; try clear I₆; try clear I₅; try clear sC; try clear hm; try clear oc; try clear hD'; try clear Q'; try clear S'
  cases hv
theorem Z5l {elt:Ex} {k:Nat} {it:It} {ifs:Exs} (he:EOk W elt) (ht:TsOk W ifs) (hi:ItOk W it):EOk W (.comp elt k it ifs):=fun g p c st μ s hk hg I=>Sim.of_eq (eval_ListComp ..) (Sim.ok fun y stE hv=>by
 have h1:=and2 (and2 hk).1
 have h2:=and2 (and2 hk).2
 refine Z6c (Z3S h1.1) hg I (hi g _ c st μ s h1.2 hg I) (Z2g it _ _) (fun c hg st μ s I=>ht _ _ c st μ s h2.2 hg I) (fun c hg st μ s I=>he _ _ c st μ s h2.1 hg I) hv (use:=none) fun D C μ' s' r I' S' Q' sz ow nm bs od hm=>?_
 refine El.x1_1 hm fun m hm=>?_
 refine ⟨m,hm,fun h'' hs=>?_⟩
 have bt:But [C] s'.heap h'':=fun b o hb e=>(hs.2 b (fun q=>hb (by simp [q]))).trans e
 have one:∀ {P:Addr→Prop},P C→∀ b ∈ [C],P b:=fun p b q=>by rw [List.mem_singleton.mp q]; exact p
 exact ⟨μ',r.but bt od,I'.but bt (Nat.le_of_eq hs.1.symm) od (one ow) (one nm) (one bs),S'.but (one sz) bt (Nat.le_of_eq hs.1.symm),Q'⟩)
theorem ZbX {elt:Ex} {i k:Nat} {it:It} {ifs:Exs} (he:EOk W elt) (ht:TsOk W ifs) (hi:ItOk W it) (g:Gm) (p:Stmt) (c:Cx) (st:St) (μ:List Addr) (s:Shared) (hk:okS g (.asg i (.comp elt k it ifs)) p = true)
  (hs:swapsWith (pE (.comp elt k it ifs) (skid p 0)) (some (.Name (nmOf (skid p 1)) (skid p 1).pos)) p.pos.line c.env = pure true) (hg:Good W c g) (I:Inv c st μ s.heap) :
  Sim c (exec (pS (.asg i (.comp elt k it ifs)) p) c.env) (evS W.F K (.asg i (.comp elt k it ifs)) st) rFl st.σ μ s:=Sim.of_eq (exec_Assign_Name_used _ _ _ _ hs) (Sim.ok fun fl stF h=>by
 refine El.x2_2 (R.bind_inv h) fun y stE hv h=>?_
 cases h
 have h1:=and2 (and2 (and2 hk).2).1
 have h2:=and2 (and2 (and2 hk).2).2
 refine wpAny_bind (wpAny_standAt (wpAny_bind ?_))
 show wpAny _ c.A (do let _ ← comprehension (pE (.comp elt k it ifs) (skid p 0)) (scOf (skid p 0)) c.env _ (newList []) false (eval (pI it (kid (skid p 0) 2)) c.env) (some (assign (.Name (nmOf (skid p 1)) (skid p 1).pos) c.env))) _ _ s
 refine wpAny_bind (wpAny_mono (Z6c (Z3S h1.1) hg I (hi g _ c st μ s h1.2 hg I) (Z2g it _ _) (fun c hg st μ s I=>ht _ _ c st μ s h2.2 hg I) (fun c hg st μ s I=>he _ _ c st μ s h2.1 hg I) hv
  (use:=some (assign (.Name (nmOf (skid p 1)) (skid p 1).pos) c.env)) (Q:=fun _ s'=>∃ μ',rFl (setV stE i y) μ' s'.heap .next .next∧Inv c (setV stE i y) μ' s'.heap∧Stp c st.σ μ s.heap (setV stE i y).σ μ' s'.heap∧Same s s')
   fun D C μ' s' r I' S' Q' sz ow nm bs od hm=>?_) (fun _ s' hq=>wpAny_pure (wpAny_pure hq)) fun _ _ e=>e)
 refine El.x1_1 hm fun m hm=>?_
 refine wpAny_assign_Name (wpAny_mono (Z1B hg.nm (and2 hk).1 I' r) (fun _ s'' hq=>?_) fun _ _ e=>e)
 refine El.x1_4 hq fun μ₂ _ I₂ S₂ Q₂=>?_
 refine El.x1_2 (od C (by simp)) fun o ho hd=>?_
 have ho₂:=S₂.keep C o ho ow fun t=>nm t.mem
 refine ⟨m,hm.at' fun o' e=>(Option.some.inj (ho.symm.trans e)) ▸ ho₂,fun h'' hs=>?_⟩
 have bt:But [C] s''.heap h'':=fun b o hb e=>(hs.2 b (fun q=>hb (by simp [q]))).trans e
 have one:∀ {P:Addr→Prop},P C→∀ b ∈ [C],P b:=fun p b q=>by rw [List.mem_singleton.mp q]; exact p
 exact ⟨μ₂,trivial,I₂.but bt (Nat.le_of_eq hs.1.symm) (one ⟨o,ho₂,hd⟩) (one ow) (one fun q=>(S₂.new C q).elim nm fun q=>Nat.lt_irrefl _ (Nat.lt_of_lt_of_le (Heap.lt_size ho) q)) (one bs),(S'.trans S₂).but (one sz) bt (Nat.le_of_eq hs.1.symm),Q'.trans Q₂⟩)
end
theorem Inv.butP {c:Cx} {wr:List Addr} {st:St} {μ:List Addr} {h h':Heap} {TO:Addr} {m:Nat} (I:Inv c st μ h) (hm:st.σ[m]? = some .priv) (ha:μ[m]? = some TO) (k:But (TO :: wr) h h')
  (hsz:h.objs.size ≤ h'.objs.size) (od:Odd wr h) (own:∀ b ∈ wr,¬ Own c b) (mem:∀ b ∈ wr,b ∉ μ) (bs:∀ b ∈ wr,c.base.get? b = none):Inv c st μ h':=by
 have tT:Tr st.σ μ TO:=⟨m,_,hm,rfl,ha⟩
 have mT:TO ∈ μ:=List.mem_of_getElem? ha
 have nseq:∀ a o,h.get? a = some o→Z4V o→¬ Tr st.σ μ a→a ∉ TO :: wr:=fun a o e hd hT q=>by
  rcases List.mem_cons.mp q with rfl | q
  ·exact hT tT
  ·refine El.x1_2 (od a q) fun o' e' hd'=>?_
   try clear o'; try clear tT
   obtain rfl:=Option.some.inj (e.symm.trans e')
   exact hd' hd
 have mv:∀ {v:Value} {x:V},RepV (Tr st.σ μ) μ h v x→RepV (Tr st.σ μ) μ h' v x:=fun r=>r.move (fun a o e hd hT=>⟨k a o (nseq a o e hd hT) e,hT⟩) fun _ _ q=>q
 have mvs:∀ {v:List Value} {x:List V},RepVs (Tr st.σ μ) μ h v x→RepVs (Tr st.σ μ) μ h' v x:=fun r=>r.move (fun a o e hd hT=>⟨k a o (nseq a o e hd hT) e,hT⟩) fun _ _ q=>q
 have own':∀ b ∈ TO :: wr,¬ Own c b:=fun b q o=>by
  try clear hd'; try clear e'; try clear nseq
  rcases List.mem_cons.mp q with rfl | q
  ·exact I.sep _ o mT
  ·exact own b q o
 have bs':∀ b ∈ TO :: wr,c.base.get? b = none:=fun b q=>by
  try clear own
  rcases List.mem_cons.mp q with rfl | q
  ·exact I.baseM _ mT
  ·exact bs b q
 refine ⟨fun i x q=>?_,fun i s q=>(I.slots i s q).keeps fun o e=>k _ o (fun m=>own' _ m ⟨i,s,q,rfl⟩) e,fun n o q=>?_,I.len,I.nd,fun a q=>Nat.lt_of_lt_of_le (I.lt a q) hsz,
  fun b o q=>k b o (fun m=>by rw [bs' b m] at q; cases q) (I.base b o q),I.baseS,I.baseM,I.sep,I.kd⟩
 ·refine El.x2_3 (I.vars i x q) fun s v g1 g2 g3=>?_
  exact ⟨s,v,g1,g2.keeps fun o e=>k _ o (fun m=>own' _ m ⟨i,s,g1,rfl⟩) e,mv g3⟩
 ·refine El.x1_2 (I.objs n o q) fun a hna r=>?_
  refine ⟨a,hna,?_⟩
  try clear g3; try clear g2; try clear g1; try clear v; try clear s; try clear o; try clear x; try clear i; try clear bs; try clear mv; try clear mT
  cases r with
  | dead=>exact .dead
  | priv=>exact .priv
  | live ho L r=>
   refine .live (k a _ (fun q'=>?_) ho) L (mvs r)
   try clear r; try clear mvs
   rcases List.mem_cons.mp q' with rfl | q'
   ·have:n = m:=(List.getElem?_inj (List.getElem?_eq_some_iff.mp hna).1 I.nd).mp (hna.trans ha.symm)
    try clear n
    subst this
    rw [hm] at q; cases q; cases L
   ·exact mem a q' (List.mem_of_getElem? hna)
structure ItrT (prog:Program) (w:World) (A:Around) (it TO:Addr) (fp wr nw:List Addr) (xs:List V) (σ₀:List O) (μ₀:List Addr) (h₀:Heap) (Sp:Nat→Heap→Prop):Prop where
 frame:∀ i h h',Sp i h→(∀ b ∈ fp,∀ o,h.get? b = some o→h'.get? b = some o)→Sp i h'
 odd:∀ i h,Sp i h→Odd wr h
 there:∀ i h,Sp i h→∀ b ∈ wr++nw,∃ o,h.get? b = some o
 new:∀ b ∈ TO :: (wr++nw),h₀.objs.size ≤ b
 fpo:∀ b ∈ fp,b = TO ∨ b ∈ wr++nw ∨ (∃ o vs n,h₀.get? b = some o∧o.data = .seq vs n∧¬ Tr σ₀ μ₀ b) ∨ ∃ k:Nat,σ₀[k]? = some O.priv∧μ₀[k]? = some b
 item:∀ elts k pos i x (s:Shared) (σ:List O) (μ:List Addr) (Q:Value→Shared→Prop),xs[i]? = some x→Sp i s.heap→Kp σ₀ μ₀ h₀ σ μ s.heap→(∀ a ∈ μ,a < s.heap.objs.size) →
  (∀ v h' tk,But (TO :: wr) s.heap h'→s.heap.objs.size ≤ h'.objs.size→Sp (i + 1) h'→RepV (Tr σ μ) μ h' v x→Q v { s with heap:=h',toks:=tk }) →
  wpAny (model prog w) A (pyNext (.ref it)) (fun r s₁=>match r with
   | none=>False
   | some v=>wpAny (model prog w) A (letOwnedTupleGo (.Tuple elts k pos) (.ref it) v) (fun _ s₂=>Q v s₂) (fun _ _=>False) s₁) (fun _ _=>False) s
 done:∀ (s:Shared) (Q:Option Value→Shared→Prop),Sp xs.length s.heap →
  (∀ h' tk,But (TO :: wr) s.heap h'→s.heap.objs.size ≤ h'.objs.size→Q none { s with heap:=h',toks:=tk })→wpAny (model prog w) A (pyNext (.ref it)) Q (fun _ _=>False) s
 again:∀ i (s:Shared) (Q:Value→Shared→Prop) (E:Value→Shared→Prop),Sp i s.heap→Q (.ref it) s→wpAny (model prog w) A (pyIter (.ref it)) Q E s
section
variable {c:Cx} {it TO:Addr} {fp wr nw:List Addr} {xs:List V} {σ₀:List O} {μ₀:List Addr} {h₀:Heap} {Sp:Nat→Heap→Prop}
theorem ItrT.keep (W:ItrT c.prog c.w c.A it TO fp wr nw xs σ₀ μ₀ h₀ Sp) {i m:Nat} {st:St} {σ':List O} {μ μ':List Addr} {h h':Heap} (own:∀ b ∈ wr++nw,¬ Own c b) (mem:∀ b ∈ wr++nw,b ∉ μ) (I:Inv c st μ h)
  (hm:st.σ[m]? = some .priv) (ha:μ[m]? = some TO)
  (K:Kp σ₀ μ₀ h₀ st.σ μ h) (S':Stp c st.σ μ h σ' μ' h') (sp:Sp i h):Sp i h'∧∀ b ∈ wr++nw,b ∉ μ':=by
 refine ⟨W.frame i h h' sp fun b q o e=>?_,fun b q m=>(S'.new b m).elim (mem b q) fun k=>?_⟩
 ·rcases W.fpo b q with rfl | q | ⟨o',vs,n,q1,q2,q3⟩ | ⟨k,q1,q2⟩
  rotate_left 3
  ·exact S'.pk k b o (K.pv k q1) (K.pre k b q2) e
  ·exact S'.pk m _ o hm ha e
  ·exact S'.keep b o e (own b q) fun t=>mem b q t.mem
  ·have e':=K.keep b o' q1 (.inl ⟨vs,n,q2⟩) q3
   obtain rfl:=Option.some.inj (e.symm.trans e')
   exact S'.keep b o e (fun q=>I.own_data q e (.inl ⟨vs,n,q2⟩)) fun t=>(K.tr b t).elim q3 fun k=>Nat.lt_irrefl _ (Nat.lt_of_lt_of_le (Heap.lt_size q1) k)
 ·refine El.x1_1 (W.there i h sp b q) fun o e=>?_
  exact Nat.lt_irrefl _ (Nat.lt_of_lt_of_le (Heap.lt_size e) k)
end
section
variable {c:Cx} {it TO:Addr} {fp wr nw:List Addr} {xs:List V} {σ₀:List O} {μ₀:List Addr} {h₀:Heap} {Sp:Nat→Heap→Prop}
theorem Z6d {elts:List Expr} {kk:Nat} {tp:Pos} {body:List Stmt} {as:V→St→R Unit} {bd:St→R Fl} {s₁:Shared} {st₁:St} {μ₁:List Addr} {m:Nat} (W:ItrT c.prog c.w c.A it TO fp wr nw xs σ₀ μ₀ h₀ Sp) (start:Sp 0 s₁.heap)
  (hA:∀ x v st μ (s:Shared),RepV (Tr st.σ μ) μ s.heap v x→Inv c st μ s.heap→Sim c (assign (.Tuple elts kk tp) c.env v) (as x st) rU st.σ μ s)
  (hB:∀ st μ (s:Shared),Inv c st μ s.heap→Sim c (execs body c.env) (bd st) rFl st.σ μ s)
  (I₁:Inv c st₁ μ₁ s₁.heap) (hm:st₁.σ[m]? = some .priv) (ha:μ₁[m]? = some TO) (K₁:Kp σ₀ μ₀ h₀ st₁.σ μ₁ s₁.heap) (mem₁:∀ b ∈ wr++nw,b ∉ μ₁) (own:∀ b ∈ wr++nw,¬ Own c b) (bs:∀ b ∈ wr,c.base.get? b = none)
  {σ':List O} {μ':List Addr} {h':Heap} (S₁:Stp c σ' μ' h' st₁.σ μ₁ s₁.heap) (nw':∀ b ∈ TO :: wr,h'.objs.size ≤ b)
  {fl:Fl} {stF:St} (hr:forR (fun x st=>(as x st).bind fun _ st=>bd st) xs st₁ = .ok fl stF) :
  codeAny (model c.prog c.w) c.A (.forLoop (.Tuple elts kk tp) (.ref it) body [] c.env) (fun r s'=>match r with
   | .ok f=>∃ μF,rFl stF μF s'.heap f fl∧Inv c stF μF s'.heap∧Stp c σ' μ' h' stF.σ μF s'.heap∧Same s₁ s'
   | .error _=>False) s₁:=by
 have memw:∀ {μ:List Addr},(∀ b ∈ wr++nw,b ∉ μ)→∀ b ∈ wr,b ∉ μ:=fun h b q=>h b (List.mem_append_left _ q)
 have ownw:∀ b ∈ wr,¬ Own c b:=fun b q=>own b (List.mem_append_left _ q)
 have wn:∀ b ∈ TO :: wr,h₀.objs.size ≤ b:=fun b q=>W.new b (by
  rcases List.mem_cons.mp q with rfl | q
  ·simp
  ·simp [q])
 refine Z3M (as:=as) (bd:=bd) (fl:=fl) (stF:=stF)
  (P:=fun i st μ s=>Sp i s.heap∧Inv c st μ s.heap∧(∀ b ∈ wr++nw,b ∉ μ)∧(st.σ[m]? = some .priv∧μ[m]? = some TO)∧Kp σ₀ μ₀ h₀ st.σ μ s.heap∧Stp c σ' μ' h' st.σ μ s.heap∧Same s₁ s) (D:=fun st μ s=>Inv c st μ s.heap∧Stp c σ' μ' h' st.σ μ s.heap∧Same s₁ s)
  (fun i st μ s h=>h.2.1) (fun i st μ s h=>⟨h.2.1,h.2.2.2.2.2⟩) (fun i st μ s st' μ'' s' h I' S' Q'=>?_) (fun i x st μ s Q hx h hQ=>?_) (fun st μ s Q h hQ=>?_) hA hB (fun μ s f h rf=>⟨μ,rf,h⟩)
  (st₁:=st₁) (μ₁:=μ₁) ⟨start,I₁,mem₁,⟨hm,ha⟩,K₁,S₁,.refl⟩ hr
 ·refine El.x0_2 (W.keep own h.2.2.1 h.2.1 h.2.2.2.1.1 h.2.2.2.1.2 h.2.2.2.2.1 S' h.1) fun hst₂ mem₂=>?_
  exact ⟨hst₂,I',mem₂,⟨S'.pv m h.2.2.2.1.1,S'.pre m _ h.2.2.2.1.2⟩,h.2.2.2.2.1.trans (S'.kp h.2.1),h.2.2.2.2.2.1.trans S',h.2.2.2.2.2.2.trans Q'⟩
 ·exact W.item elts kk tp i x s st.σ μ _ hx h.1 h.2.2.2.2.1 h.2.1.lt fun v h'' tk hk hsz hst' rv=>
   hQ v _ rv ⟨hst',h.2.1.butP h.2.2.2.1.1 h.2.2.2.1.2 hk hsz (W.odd i _ h.1) ownw (memw h.2.2.1) bs,h.2.2.1,h.2.2.2.1,h.2.2.2.2.1.but wn hk hsz,h.2.2.2.2.2.1.but nw' hk hsz,h.2.2.2.2.2.2⟩
 ·exact W.done s _ h.1 fun h'' tk hk hsz=>hQ _ ⟨h.2.1.butP h.2.2.2.1.1 h.2.2.2.1.2 hk hsz (W.odd _ _ h.1) ownw (memw h.2.2.1) bs,h.2.2.2.2.2.1.but nw' hk hsz,h.2.2.2.2.2.2⟩
end
theorem Z4I:∀ {is:List Nat} {xs:List V} {st st':St},Z5S st is xs = some st'→is.length = xs.length
 | [],[],_,_,_=>rfl
 | [],_ :: _,_,_,h=>by cases h
 | _ :: _,[],_,_,h=>by cases h
 | _ :: _,_ :: _,_,_,h=>congrArg (· + 1) (Z4I (is:=_) h)
theorem Z5m {env:Env}:∀ (is:List Nat) (ps:List Expr),(assignEach (pT is ps) env).length = is.length∧(assignEach (pT is ps) env).findIdx? (·.1) = none
 | [],_=>⟨rfl,rfl⟩
 | _ :: is,ps=>⟨congrArg (· + 1) (Z5m is ps.tail).1,(List.findIdx?_cons ..).trans (congrArg (Option.map (· + 1)) (Z5m is ps.tail).2)⟩
section
variable {W:Wo} {K:Nat}
theorem Z3V {c:Cx} {g:Gm} (hg:Good W c g):∀ (is:List Nat) (ps:List Expr) (vs:List Value) (ys:List V) (st st':St) (μ:List Addr) (s:Shared),okT' g is ps = true→RepVs (Tr st.σ μ) μ s.heap vs ys→Inv c st μ s.heap →
  Z5S st is ys = some st'→wpAny (model c.prog c.w) c.A (assignInOrder ((assignEach (pT is ps) c.env).map (·.2)) vs) (fun _ s'=>∃ μ',Inv c st' μ' s'.heap∧Stp c st.σ μ s.heap st'.σ μ' s'.heap∧Same s s') (fun _ _=>False) s
 | [],ps,vs,[],st,st',μ,s,_,r,I,h=>by
  cases h
  have e:vs = []:=r.out
  subst e
  exact wpAny_pure ⟨μ,I,.refl,.refl⟩
 | [],_,_,_ :: _,_,_,_,_,_,_,_,h=>by cases h
 | _ :: _,_,_,[],_,_,_,_,_,_,_,h=>by cases h
 | i :: is,ps,vs,y :: ys,st,st',μ,s,hk,r,I,h=>by
  refine El.x2_3 r.consI fun v vs e9 r0 rr=>?_
  subst e9
  refine wpAny_bind (wpAny_holding (wpAny_mono (Sim.imp (fun Q h=>wpAny_assign_Name h) (Z1B hg.nm (and2 hk).1 I r0)) (fun _ s₁ q8=>El.x1_4 q8 fun μ₁ _ I₁ S₁ Q₁=>?_) fun _ _ e=>e))
  exact wpAny_mono (Z3V hg is ps.tail vs ys (setV st i y) st' μ₁ s₁ (and2 hk).2 (rr.step (st':=setV st i y) I S₁) I₁ h) (fun _ s₂ q8=>El.x1_3 q8 fun μ₂ I₂ S₂ Q₂=>⟨μ₂,I₂,S₁.trans S₂,Q₁.trans Q₂⟩) fun _ _ e=>e
theorem Z3W {c:Cx} {g:Gm} (hg:Good W c g) {is:List Nat} {ps:List Expr} {kk:Nat} {tp:Pos} (hk:okT' g is ps = true) {st:St} {μ:List Addr} {s:Shared} {v:Value} {x:V} (r:RepV (Tr st.σ μ) μ s.heap v x) (I:Inv c st μ s.heap) :
  Sim c (assign (.Tuple (pT is ps) kk tp) c.env v) (asT is x st) rU st.σ μ s:=Sim.of_eq (arm_assign_Tuple ..) (Sim.ok fun _ st' h=>by
 refine El.x1_2 (Zdg h) fun xs e hs=>?_
 subst e
 refine El.x2_4 r.tup_inv fun a vs e ht hz rr=>?_
 subst e
 have hn:(assignEach (pT is ps) c.env).length = vs.size:=by rw [(Z5m is ps).1,Z4I hs,← rr.length,Array.length_toList]
 refine wpAny_bind (wpAny_standAt ?_)
 unfold unpack
 rw [hn,(Z5m is ps).2]
 refine wpAny_bind (wpAny_holding (Z04 (wpAny_unpackItems_tuple hg.hh ht fun h' he hsz=>?_)))
 have X:Ext s.heap h':=⟨hsz,fun b o e=>he b o (Nat.ne_of_lt (Heap.lt_size e)) e⟩
 exact wpAny_mono (Z3V hg is ps vs.toList xs st st' μ { s with heap:=h' } hk (rr.ext X) (I.ext X) hs) (fun _ s' q8=>El.x1_3 q8 fun μ' I' S' Q'=>⟨μ',trivial,I',(Stp.ext X).trans S',Q'⟩) fun _ _ e=>e)
theorem ZeS {v:Expr}:(v.ctorIdx == 16 || v.ctorIdx == 23 || v.ctorIdx == 21) = true→∀ (ts:List Expr) (k:Nat) (tp:Pos) (l:Nat) (env:Env),swapsWithSole [.Tuple ts k tp] v l env = pure false∧swappedStores [.Tuple ts k tp] v env = pure none:=by
 cases v <;> first | exact fun _ _ _ _ _ _=>⟨rfl,rfl⟩ | exact fun h=>absurd h Bool.false_ne_true
theorem ZbY {is:List Nat} {e:Ex} (he:EOk W e):SOk W K (.asgT is e):=fun g p c st μ s hk hg I=>Sim.ok fun fl stF h=>by
 refine El.x2_2 (R.bind_inv h) fun x st₁ hE h=>?_
 refine El.x2_2 (R.bind_inv h) fun _ st₂ hA h=>?_
 cases h
 have h1:=he g _ c st μ s (and2 hk).2 hg I
 rw [hE] at h1
 have q:=ZeS (and2 (and2 hk).1).2 (pT is (kids (skid p 1))) (kOf (skid p 1)) (skid p 1).pos p.pos.line c.env
 refine Assign_Tuple (wpAny_mono h1 (fun a s₁ q8=>El.x1_4 q8 fun μ₁ rx I₁ S₁ Q₁=>?_) fun _ _ e=>e) q.1 q.2
 have ha:=Z3W hg (and2 (and2 hk).1).1 (kk:=kOf (skid p 1)) (tp:=(skid p 1).pos) rx I₁
 rw [hA] at ha
 exact wpAny_mono ha (fun _ s₂ q8=>El.x1_4 q8 fun μ₂ _ I₂ S₂ Q₂=>⟨μ₂,trivial,I₂,S₁.trans S₂,Q₁.trans Q₂⟩) fun _ _ e=>e
end
theorem Inv.trackP {c:Cx} {st:St} {μ:List Addr} {h h':Heap} {TO:Addr} (I:Inv c st μ h) (X:Ext h h') (h1:h.objs.size ≤ TO) (h2:TO < h'.objs.size) :
  Inv c ⟨st.ρ,st.σ++[.priv]⟩ (μ++[TO]) h'∧Stp c st.σ μ h (st.σ++[.priv]) (μ++[TO]) h':=by
 have hnm:TO ∉ μ:=fun q=>Nat.lt_irrefl _ (Nat.lt_of_lt_of_le (I.lt _ q) h1)
 have tr:∀ b,Tr (st.σ++[.priv]) (μ++[TO]) b→Tr st.σ μ b ∨ h.objs.size ≤ b:=by
  intro b q0z
  refine El.x2_3 q0z fun k o' e1 e2 e3=>?_
  by_cases hk:k < st.σ.length
  ·rw [List.getElem?_append_left hk] at e1
   rw [List.getElem?_append_left (by rw [I.len]; exact hk)] at e3
   exact .inl ⟨k,o',e1,e2,e3⟩
  ·rw [List.getElem?_append_right (by rw [I.len]; lia)] at e3
   have hlt:k < (st.σ++[O.priv]).length:=(List.getElem?_eq_some_iff.mp e1).1
   simp only [List.length_append,List.length_singleton] at hlt
   have:k - μ.length = 0:=by rw [I.len]; lia
   rw [this] at e3
   have e4:TO = b:=by simpa using e3
   exact .inr (e4 ▸ h1)
 have S:Stp c st.σ μ h (st.σ++[.priv]) (μ++[TO]) h' :=
  ⟨X.1,fun b o' e _ _=>X.2 b o' e,fun k a e=>by rw [List.getElem?_append_left (List.getElem?_eq_some_iff.mp e).1]; exact e,
   tr,fun a q=>(List.mem_append.mp q).imp id fun e=>by rw [List.mem_singleton.mp e]; exact h1,fun k e=>by rw [List.getElem?_append_left (List.getElem?_eq_some_iff.mp e).1]; exact e,fun _ a o' _ _ q=>X.2 a o' q⟩
 have I':=I.ext X
 have nog:∀ o,h.get? TO ≠ some o:=fun o e=>Nat.lt_irrefl _ (Nat.lt_of_lt_of_le (Heap.lt_size e) h1)
 refine ⟨⟨fun i x q=>?_,I'.slots,fun k o' q=>?_,by simp [I.len],?_,fun a q=>?_,I'.base,I.baseS,fun a q=>?_,fun b q m=>?_,ZcG I.kd trivial⟩,S⟩
 ·refine El.x2_3 (I.vars i x q) fun sl v g1 g2 g3=>?_
  exact ⟨sl,v,g1,g2.keeps fun o' e=>X.2 _ o' e,g3.step (st':=⟨st.ρ,st.σ++[.priv]⟩) I S⟩
 ·dsimp only at q ⊢
  by_cases hk:k < st.σ.length
  ·rw [List.getElem?_append_left hk] at q
   refine El.x1_2 (I.objs k o' q) fun a ha r=>?_
   refine ⟨a,by rw [List.getElem?_append_left (by rw [I.len]; exact hk)]; exact ha,?_⟩
   exact r.map (fun _ ho=>(X.2 _ _ ho)) fun _ _ r=>(RepVs.step (st':=⟨st.ρ,st.σ++[.priv]⟩) I S r)
  ·have hlt:k < (st.σ++[O.priv]).length:=(List.getElem?_eq_some_iff.mp q).1
   simp only [List.length_append,List.length_singleton] at hlt
   have e0:k = st.σ.length:=by lia
   try clear r; try clear g3; try clear g2; try clear g1; try clear v; try clear sl; try clear x; try clear i; try clear S; try clear hlt; try clear e3; try clear e2
   subst e0
   have e4:O.priv = o':=by simpa using q
   try clear e0; try clear e1; try clear o'; try clear k; try clear q0z; try clear tr
   subst e4
   exact ⟨TO,by rw [← I.len]; simp,.priv⟩
 ·refine List.nodup_append.mpr ⟨I.nd,by simp,?_⟩
  intro a ha b hb
  rw [List.mem_singleton.mp hb]
  exact fun e=>hnm (e ▸ ha)
 ·rcases List.mem_append.mp q with q | q
  ·exact Nat.lt_of_lt_of_le (I.lt a q) X.1
  ·rw [List.mem_singleton.mp q]; exact h2
 ·rcases List.mem_append.mp q with q | q
  ·exact I.baseM a q
  ·rw [List.mem_singleton.mp q]
   cases hb:c.base.get? TO with
   | none=>rfl
   | some o=>exact absurd (I.base _ _ hb) (nog o)
 ·rcases List.mem_append.mp m with m | m
  ·exact I.sep b q m
  ·refine El.x1_1 (Z1A I q) fun o ho=>?_
   rw [List.mem_singleton.mp m] at ho
   exact nog o ho
noncomputable def rZ (c:Cx) (z₀:Nat) (st:St) (μ:List Addr) (h:Heap) (v:Value) (xs:List V):Prop :=
 ∃ it TO fp wr nw σ₀ μ₀ h₀ Sp,v = .ref it∧ItrT c.prog c.w c.A it TO fp wr nw xs σ₀ μ₀ h₀ Sp∧Sp 0 h∧Kp σ₀ μ₀ h₀ st.σ μ h∧(∀ b ∈ wr++nw,b ∉ μ∧¬ Own c b∧c.base.get? b = none) ∧
  (∃ m:Nat,st.σ[m]? = some .priv∧μ[m]? = some TO)∧(∀ b ∈ wr,h₀.objs.size ≤ b)∧h₀.objs.size ≤ TO∧z₀ ≤ h₀.objs.size
theorem ItrT.of_walks {prog:Program} {w:World} {A:Around} {it TO:Addr} {fp wr wrW nw:List Addr} {xs:List V} {σ₀:List O} {μ₀:List Addr} {h₀:Heap} {Sp:Nat→Heap→Prop} {Pt:Nat→Array Value→Prop} {Mid:Nat→Addr→Heap→Prop}
  (W:WalksT prog w A it fp wrW xs.length Pt Sp Mid) (hwr:∀ b,b ∉ TO :: wr→b ∉ wrW) (odd:∀ i h,Sp i h→Odd wr h) (there:∀ i h,Sp i h→∀ b ∈ wr++nw,∃ o,h.get? b = some o) (new:∀ b ∈ TO :: (wr++nw),h₀.objs.size ≤ b)
  (fpo:∀ b ∈ fp,b = TO ∨ b ∈ wr++nw ∨ (∃ o vs n,h₀.get? b = some o∧o.data = .seq vs n∧¬ Tr σ₀ μ₀ b) ∨ ∃ k:Nat,σ₀[k]? = some O.priv∧μ₀[k]? = some b)
  (hP:∀ i x vals σ (μ:List Addr) (h:Heap),xs[i]? = some x→Pt i vals→Kp σ₀ μ₀ h₀ σ μ h→∃ ys,x = .tup ys∧vals.size ≤ sizeLine∧RepVs (Tr σ μ) μ h vals.toList ys) :
  ItrT prog w A it TO fp wr nw xs σ₀ μ₀ h₀ Sp where
 frame:=W.frame
 odd:=odd
 there:=there
 new:=new
 fpo:=fpo
 item:=by
  intro elts k pos i x s σ μ Q hx hst K lt hQ
  have wn:∀ b ∈ TO :: wr,h₀.objs.size ≤ b:=fun b q=>new b (by
   rcases List.mem_cons.mp q with rfl | q
   ·simp
   ·simp [q])
  refine Z04 (W.item i s _ _ (List.getElem?_eq_some_iff.mp hx).1 hst fun T vals g tk hp hT hIs hMid hk hsz=>?_)
  refine Z04 (W.go elts k pos i T _ _ _ hMid fun g' hst' hk' hsz'=>?_)
  have hk2:But (TO :: wr) s.heap g':=fun b o hb e=>hk' b o (hwr b hb) (hk b o (hwr b hb) e)
  have hsz2:s.heap.objs.size ≤ g'.objs.size:=Nat.le_trans hsz hsz'
  refine El.x1_3 (hP i x vals σ μ g' hx hp (K.but wn hk2 hsz2)) fun ys q1z hz r=>?_
  try clear ys; try clear hsz'; try clear hp; try clear vals; try clear wn; try clear K; try clear hx; try clear μ; try clear σ; try clear x; try clear pos; try clear k
  obtain rfl:=q1z
  obtain ⟨oT,hoT,hcT,nT,hdT⟩:=hIs
  exact hQ (.ref T) g' tk hk2 hsz2 hst' (.tup (hk' T oT (W.apart i T _ hMid) hoT) hcT hdT hz (fun t=>Nat.lt_irrefl _ (Nat.lt_of_lt_of_le (lt T t.mem) hT)) r)
 done:=fun s Q hst hQ=>Z04 (W.done s _ _ hst fun g tk hk hsz=>hQ g tk (fun b o hb e=>hk b o (hwr b hb) e) hsz)
 again:=W.self
theorem Z7c {c:Cx} {st:St} {μ:List Addr} {h:Heap} (I:Inv c st μ h) {b:Addr} (hb:h.objs.size ≤ b):b ∉ μ∧¬ Own c b∧c.base.get? b = none:=by
 refine ⟨fun m=>Nat.lt_irrefl _ (Nat.lt_of_lt_of_le (I.lt b m) hb),fun o=>?_,?_⟩
 ·refine El.x1_1 (Z1A I o) fun ob hob=>?_
  exact Nat.lt_irrefl _ (Nat.lt_of_lt_of_le (Heap.lt_size hob) hb)
 ·cases hb':c.base.get? b with
  | none=>rfl
  | some o=>exact absurd (Nat.lt_of_lt_of_le (Heap.lt_size (I.base b o hb')) hb) (Nat.lt_irrefl _)
theorem Z8l:∀ {xs:List V} {k i:Nat} {p:V},(Z2w k xs)[i]? = some p→∃ x,xs[i]? = some x∧p = .tup [.int (k + i:Nat),x]
 | [],k,i,p,h=>by rw [Z5R] at h; cases h
 | x :: xs,k,0,p,h=>by cases h; exact ⟨x,rfl,rfl⟩
 | x :: xs,k,i + 1,p,h=>by
  refine El.x1_2 (Z8l (xs:=xs) (k:=k + 1) (i:=i) h) fun y h1 h2=>?_
  exact ⟨y,h1,by rw [h2,show k + 1 + i = k + (i + 1) by lia]⟩
theorem Z8m:∀ (xs:List V) (k:Nat),(Z2w k xs).length = xs.length
 | [],_=>rfl
 | _ :: xs,k=>congrArg (· + 1) (Z8m xs (k + 1))
theorem ZeT (z l:Nat) (h:l < z):z + 1 ≠ z∧l ≠ z + 1∧l ≠ z:=by lia
noncomputable def ESp (z l:Addr) (vs:Array Value) (i:Nat) (h:Heap):Prop:=(∃ old,IsEnum h (z + 1) z i old)∧h.IsListIter z l i∧h.IsList l vs
theorem Zaf {T:Addr→Prop} {μ:List Addr} {h:Heap} {vs:Array Value} {xs:List V} (r:RepVs T μ h vs.toList xs) {i:Nat} {x:V} {p:Value} (t:Tok) (hx:(Z2w 0 xs)[i]? = some x) (hp:vs[i]? = some p):∃ zs,x = .tup zs∧RepVs T μ h [.int (i:Int) t,p] zs:=by
 refine El.x1_2 (Z8l hx) fun x' hx' e=>El.x1_2 (r.get hx') fun u1 hu1 ru1=>⟨_,e,?_⟩
 obtain rfl:=Option.some.inj (hp.symm.trans ((Array.getElem?_toList).symm.trans hu1))
 rw [Nat.zero_add]
 exact .cons (.int _ _) (.cons ru1 .nil)
theorem ZbZ {prog:Program} {w:World} {A:Around} {σ:List O} {μ:List Addr} {h:Heap} {l:Addr} {vs:Array Value} {xs:List V} (hh:A.handled = none) (b1:(l:Nat) < h.objs.size) (h2:∃ o vs n,h.get? l = some o∧o.data = .seq vs n∧¬ Tr σ μ l) (r:RepVs (Tr σ μ) μ h vs.toList xs) :
  ItrT prog w A (h.objs.size + 1) (h.objs.size + 1) [h.objs.size + 1,h.objs.size,l] [h.objs.size] [] (Z2w 0 xs) σ μ h (ESp h.objs.size l vs):=by
 have e1:vs.size = (Z2w 0 xs).length:=by rw [Z8m,← r.length,Array.length_toList]
 refine El.x0_3 (ZeT _ _ b1) fun n1 n2 n3=>?_
 have W:=WalksT.enumerate (prog:=prog) (w:=w) (A:=A) hh (h.objs.size + 1) h.objs.size l n1 n2 n3 vs
 rw [e1] at W
 refine ItrT.of_walks (TO:=h.objs.size + 1) W (fun b hb=>hb) (fun i h q b hb=>?_) (fun i h q b hb=>?_) (fun b hb=>(List.mem_cons.mp hb).elim (fun e=>e ▸ Nat.le_add_right _ _) fun e=>Nat.le_of_eq (List.mem_singleton.mp e).symm)
  (fun b q=>(List.mem_cons.mp q).imp id fun q=>(List.mem_cons.mp q).elim (fun e:b = h.objs.size=>.inl (by rw [e]; exact List.mem_cons_self ..)) fun e=>.inr (.inl (by rw [List.mem_singleton.mp e]; exact h2)))
  fun i x vals σ' μ' h' hx hv K=>El.x2_2 hv fun t p hp e=>El.x1_2 (Zaf r t hx hp) fun zs e' r=>⟨zs,e',by rw [e]; exact (by decide:2 ≤ sizeLine),by rw [e]; exact r.kp K⟩
 ·rw [List.mem_singleton.mp hb]; exact El.x1_3 q.2.1 fun o e _ d=>⟨o,e,Z69 d⟩
 ·rw [List.mem_singleton.mp hb]; exact El.x1_2 q.2.1 fun o e _=>⟨o,e⟩
theorem Zag {c:Cx} {z₀:Nat} {st:St} {μ:List Addr} {s:Shared} {v:Value} {xs:List V} (hh:c.A.handled = none) (I:Inv c st μ s.heap) (hz₀:z₀ ≤ s.heap.objs.size) (rx:RepV (Tr st.σ μ) μ s.heap v (.lst xs)) :
  wpAny (model c.prog c.w) c.A (call (.type "enumerate") [v]) (fun w s'=>∃ μ',rZ c z₀ ⟨st.ρ,st.σ++[.priv]⟩ μ' s'.heap w (Z2w 0 xs)∧Inv c ⟨st.ρ,st.σ++[.priv]⟩ μ' s'.heap∧Stp c st.σ μ s.heap (st.σ++[.priv]) μ' s'.heap∧Same s s') (fun _ _=>False) s:=by
 refine El.x4_7 rx.lstI fun l o vs n e9 ho hc hd hz hT r=>?_
 rw [e9]
 have hl:s.heap.IsList l vs:=⟨o,ho,hc,n,hd⟩
 refine call_enumerate_list hl fun h' a1 a4 a6 a7=>?_
 refine El.x0_2 (I.trackP (TO:=s.heap.objs.size + 1) ⟨by lia,a7⟩ (Nat.le_add_right _ _) (show s.heap.objs.size + 1 < h'.objs.size by lia)) fun I' S'=>?_
 refine ⟨μ++[s.heap.objs.size + 1],⟨_,_,_,_,_,_,_,_,_,rfl,ZbZ hh (Heap.lt_size ho) ⟨o,vs,n,ho,hd,hT⟩ r,⟨⟨_,a1⟩,a4,hl.at fun o e=>a7 _ o e⟩,S'.kp I,fun b q=>?_,⟨st.σ.length,List.getElem?_concat_length,by rw [← I.len]; exact List.getElem?_concat_length⟩,fun b q=>Nat.le_of_eq (List.mem_singleton.mp q).symm,Nat.le_add_right _ _,hz₀⟩,I',S',⟨rfl,rfl,rfl⟩⟩
 have hb:b = s.heap.objs.size:=List.mem_singleton.mp (by rwa [List.append_nil] at q)
 have fa:=Z7c I (b:=b) (Nat.le_of_eq hb.symm)
 exact ⟨fun m=>(List.mem_append.mp m).elim fa.1 fun m=>Nat.succ_ne_self _ ((List.mem_singleton.mp m).symm.trans hb),fa.2⟩
section
variable {W:Wo} {K:Nat}
noncomputable def ZOk (W:Wo) (it:It):Prop:=∀ (g:Gm) (p:Expr) (c:Cx) (st:St) (μ:List Addr) (s:Shared),okZ g it p = true→Good W c g→Inv c st μ s.heap→Sim c (eval (pI it p) c.env) (evIt W.F it st) (rZ c s.heap.objs.size) st.σ μ s
theorem Zc0 {a:Ex} (ha:EOk W a):ZOk W (.enum a):=fun g p c st μ s hk hg I=>by
 have h:=ha g _ c st μ s (and2 hk).2 hg I
 refine Sim.of_eq (arm_eval_Call_Name' ..) (Sim.name hg I (and2 hk).1 (by decide) Z4r (Sim.of_m (Z3g ..) (Sim.via (f:=fun vs=>call (.type "enumerate") vs) (fun Q h=>ZeR (fun y=>Z2H (Z0t a _)) h) (Z5g (pos:=p.pos) (Z0t a _) h) fun y st₂ vs μ₂ s₂ _ hu I₂ S₂=>El.x1_2 hu fun u e ry=>?_)))
 subst e
 cases y <;> try trivial
 exact Zag hg.hh I₂ S₂.size ry
theorem Zc1 {is:List Nat} {it:It} {body:Sms} (hZ:ZOk W it) (hb:SsOk W K body):SOk W K (.forT is it body):=fun g p c st μ s hk hg I=>Sim.ok fun fl stF hr=>by
 refine El.x2_2 (R.bind_inv hr) fun xs st₁ hR hr=>?_
 have hI:=hZ g _ c st μ s (and2 (and2 hk).2).1 hg I
 rw [hR] at hI
 refine wpAny_For (wpAny_mono hI (fun v s₁ q8=>El.x1_4 q8 fun μ₁ rs I₁ S₁ Q₁=>?_) fun _ _ e=>e) (Z2g it _ _)
 refine El.x9_9 rs fun I0 TO fp wr nw σ₀ μ₀ h₀ Sp q7z W' sp Kp₀ hw q8z wn wt hz=>?_
 try clear Sp; try clear h₀; try clear μ₀; try clear σ₀; try clear nw; try clear wr; try clear fp; try clear TO; try clear I0; try clear rs; try clear μ₁; try clear hI
 obtain rfl:=q7z
 refine El.x1_2 q8z fun m hm1 hm2=>?_
 refine W'.again 0 s₁ _ _ sp ?_
 refine codeAny_mono (Z6d (elts:=pT is (kids (skid p 0))) (kk:=kOf (skid p 0)) (tp:=(skid p 0).pos) (body:=pSs body (blk p)) (as:=asT is) (bd:=fun st=>evSs W.F K body st) W' sp (fun y v st μ s r I=>Z3W hg (and2 hk).1 r I)
  (fun st μ s I=>hb g _ c st μ s (and2 (and2 hk).2).2 hg I) I₁ hm1 hm2 Kp₀ (fun b q=>(hw b q).1) (fun b q=>(hw b q).2.1) (fun b q=>(hw b (List.mem_append_left _ q)).2.2) S₁
  (fun b q=>Nat.le_trans hz (by
   try clear hm2; try clear hm1; try clear m; try clear hz; try clear q8z; try clear hw; try clear Kp₀; try clear sp; try clear W; try clear q7z; try clear S₁; try clear I₁
   rcases List.mem_cons.mp q with rfl | q
   ·exact wt
   ·exact wn b q)) (fl:=fl) (stF:=stF) hr) ?_
 rintro r s' hr'
 try clear s'; try clear wt; try clear wn; try clear I; try clear hg; try clear e3; try clear e2; try clear e1; try clear s; try clear μ; try clear st; try clear c
 cases r with
 | ok f=>
  refine El.x1_4 hr' fun μ' g1 g2 g3 g4=>?_
  exact ⟨μ',g1,g2,g3,Q₁.trans g4⟩
 | error e=>exact hr'.elim
end
theorem Z8Z {p p':Program} {w w':World} {es:List DictEntry} {kvs:List (Int × Value)} (h:Pairs (intKind p w) es kvs):Pairs (intKind p' w') es kvs:=by
 induction h with
 | nil=>exact .nil
 | cons a b _ ih=>exact .cons a b ih
theorem Z7d {p:Program} {w:World} {o:Obj} {kvs:List (Int × Value)} (h:o.IsDictOf (intKind p w) kvs):∀ (p':Program) (w':World),o.IsDictOf (intKind p' w') kvs:=fun p' w'=>
 let ⟨es,ep,h1,h2,h3,h4,h5⟩:=h
 ⟨es,ep,h1,h2,h3,Z8Z h4,h5⟩
theorem Z7e {kvs:List (Int × Value)} {ys:List (Int × V)} (h:kvs.map (·.1) = ys.map (·.1)) (k:Int) (u:Value) (v:V):(stored kvs k u).map (·.1) = (Z0K ys k v).map (·.1):=by
 have ha:(kvs.any fun p=>p.1 = k) = (ys.any fun p=>p.1 = k):=by
  have:=congrArg (fun l:List Int=>l.any fun x=>x = k) h
  simpa [List.any_map,Function.comp_def] using this
 unfold stored Z0K
 rw [ha]
 split
 ·rw [List.map_map,List.map_map]
  have e1:(fun kv:Int × Value=>kv.1) ∘ (fun kv=>if kv.1 = k then (kv.1,u) else kv) = fun kv=>kv.1:=by funext kv; simp only [Function.comp]; split <;> rfl
  have e2:(fun kv:Int × V=>kv.1) ∘ (fun kv=>if kv.1 = k then (kv.1,v) else kv) = fun kv=>kv.1:=by funext kv; simp only [Function.comp]; split <;> rfl
  rw [e1,e2]; exact h
 ·rw [List.map_append,List.map_append,h]; rfl
theorem Z3X {T:Addr→Prop} {μ:List Addr} {h:Heap} {k:Int} {u:Value} {v:V} (ru:RepV T μ h u v):∀ {kvs:List (Int × Value)} {ys:List (Int × V)},kvs.map (·.1) = ys.map (·.1)→RepVs T μ h (kvs.map (·.2)) (ys.map (·.2))→RepVs T μ h ((kvs.map fun p=>if p.1 = k then (p.1,u) else p).map (·.2)) ((ys.map fun p=>if p.1 = k then (p.1,v) else p).map (·.2))
 | [],[],_,_=>.nil
 | [],_ :: _,e,_=>by cases e
 | _ :: _,[],e,_=>by cases e
 | p :: kvs,q :: ys,e,r=>by
  have e1:p.1 = q.1:=(List.cons.inj e).1
  have e2:=(List.cons.inj e).2
  refine El.x2_3 r.consI fun v9 vs9 e9 a r=>?_
  try clear vs9; try clear v9
  cases e9
  refine .cons ?_ (Z3X ru e2 r)
  dsimp only
  by_cases hk:p.1 = k
  ·rw [if_pos hk,if_pos (e1 ▸ hk)]; exact ru
  ·rw [if_neg hk,if_neg (e1 ▸ hk)]; exact a
theorem Z90 {T:Addr→Prop} {μ:List Addr} {h:Heap} {k:Int} {u:Value} {v:V} (ru:RepV T μ h u v) {kvs:List (Int × Value)} {ys:List (Int × V)} (e:kvs.map (·.1) = ys.map (·.1)) (r:RepVs T μ h (kvs.map (·.2)) (ys.map (·.2))):RepVs T μ h ((stored kvs k u).map (·.2)) ((Z0K ys k v).map (·.2)):=by
 have ha:(kvs.any fun p=>p.1 = k) = (ys.any fun p=>p.1 = k):=by
  have:=congrArg (fun l:List Int=>l.any fun x=>x = k) e
  simpa [List.any_map,Function.comp_def] using this
 unfold stored Z0K
 rw [ha]
 split
 ·exact Z3X ru e r
 ·rw [List.map_append,List.map_append]
  exact r.append (.cons ru .nil)
section
variable {W:Wo} {K:Nat}
theorem Z3Y:EOk W .dictM:=fun g p c st μ s hk hg I=>by
 refine El.x0_2 (I.track (o:={ cls:=.type "dict",data:=.dict #[] }) (ob:=.idict []) rfl rfl trivial fun T hT=>.live (Heap.get?_push_size _ rfl) (.idict (kvs:=[]) (fun p w=>⟨#[],0,⟨rfl,rfl,rfl⟩,rfl,fun _ he=>by simp at he,.nil,List.nodup_nil⟩) (Nat.zero_le _) rfl) .nil) fun I₂ S₂=>?_
 exact wpAny_Dict_empty ⟨_,.ref (by rw [← I.len]; simp),I₂,S₂,.refl⟩
theorem RepVs.setAt {T:Addr→Prop} {μ:List Addr} {h:Heap} {vs:List Value} {xs:List V} {u:Value} {v:V} (r:RepVs T μ h vs xs) (ru:RepV T μ h u v) (k:Nat):RepVs T μ h (vs.set k u) (xs.set k v):=by
 refine RepVs.of_get (by rw [List.length_set,List.length_set,r.length]) fun i a b ha hb=>?_
 by_cases hk:k = i
 ·try clear b; try clear a; try clear i
  subst hk
  rw [List.getElem?_set_self'] at ha hb
  cases e1:vs[k]? with
  | none=>rw [e1] at ha; cases ha
  | some _=>
   cases e2:xs[k]? with
   | none=>rw [e2] at hb; cases hb
   | some _=>rw [e1] at ha; rw [e2] at hb; cases ha; cases hb; exact ru
 ·rw [List.getElem?_set_ne hk] at ha hb
  refine El.x1_2 (r.get hb) fun w hw rw'=>?_
  rw [hw] at ha; cases ha; exact rw'
section
variable {prog:Program} {w:World} {A:Around} {E:Value→Shared→Prop} {s:Shared}
theorem Z5n {l:Addr} {items:Array Value} {n j:Nat} {k:Int} {t:Tok} {v:Value} {Q:Unit→Shared→Prop} (ho:s.heap.get? l = some { cls:=.type "list",data:=.seq items n }) (hk:k = (j:Int)) (hj:j < items.size) (hz:items.size ≤ sizeLine)
  (hQ:Q () { s with heap:=s.heap.update l (Obj.mapSeq (·.setIfInBounds j v)) }):wpAny (model prog w) A (setItem (.ref l) (.int k t) v) Q E s:=by
 have hl:s.heap.IsList l items:=⟨_,ho,rfl,n,rfl⟩
 have hfit:k < 2 ^ 63:=by have:=Z11 hz; lia
 unfold setItem
 try with_reducible refine wpAny_holding ?_
 first | refine wpAny_bind (wpAny_pure ?_) | skip
 refine wpAny_bind (wpAny_sequenceKey hl.typeIs (by decide) ?_)
 refine wpAny_bind (wpAny_callSpecial?_slot (name:=Str.ofString "__setitem__") hl.typeIs slot_list_setitem (wpAny_call_entry slot_list_setitem hl.typeIs entry_list_setitem ?_ (args_list_setitem _ _ _)))
 show wpAny _ _ (Builtin.List.listSubscript? (.int k t) >>= _) _ _ s
 refine wpAny_bind (wpAny_listSubscript_int (fitsIndex_of (by lia) hfit) ?_)
 clear hfit
 try clear hfit; try clear hl
 subst hk
 have hx:items[j]? = some items[j]:=Array.getElem?_eq_getElem hj
 show wpAny _ _ ((seqItemAt l j >>= fun r=>pure (r.map (j,·))) >>= _) _ _ s
 refine wpAny_bind (wpAny_bind (wpAny_seqItemAt ho rfl (wpAny_pure ?_)))
 rw [hx]
 show wpAny _ _ (setSeqItemAt l j v >>= _) _ _ s
 refine wpAny_bind (wpAny_setSeqItemAt ho rfl ?_)
 first
  | exact wpAny_bind (wpAny_pure (wpAny_pure ⟨.none,rfl,wpAny_pure hQ⟩))
  | exact wpAny_pure ⟨.none,rfl,wpAny_pure hQ⟩
end
section
variable {c:Cx} {st:St} {μ:List Addr} {s:Shared} {u w:Value} {v:V} {m:Nat} {tk:Tok}
theorem Zc2 {k:Nat} {xs:List V} (I:Inv c st μ s.heap) (rx:RepV (Tr st.σ μ) μ s.heap u (.ref m)) (rv:RepV (Tr st.σ μ) μ s.heap w v) (hσ:st.σ[m]? = some (.lst xs)) (hlt:k < xs.length) :
  wpAny (model c.prog c.w) c.A (setItem u (.int k tk) w) (fun _ s'=>∃ μ',Inv c ⟨st.ρ,st.σ.set m (.lst (xs.set k v))⟩ μ' s'.heap∧Stp c st.σ μ s.heap (st.σ.set m (.lst (xs.set k v))) μ' s'.heap∧Same s s') (fun _ _=>False) s:=by
 refine El.x2_4 (I.ref_inv rx hσ) fun d vs e q hz r=>?_
 subst e
 refine El.x1_1 q fun k' ho=>?_
 have el:=r.length
 rw [Array.length_toList] at el
 have hob:(s.heap.update d (Obj.mapSeq (·.setIfInBounds k w))).get? d = some { cls:=.type "list",data:=.seq (vs.setIfInBounds k w) _ }:=IsL.update ho _
 refine El.x0_2 (I.updL (xs':=xs.set k v) hσ rx.refA (Heap.SameBut.update ..) hob (by rw [Array.size_setIfInBounds]; exact hz) (by rw [Array.toList_setIfInBounds]; exact r.setAt rv k)) fun I' S'=>?_
 exact Z5n ho rfl (by rw [el]; exact hlt) hz ⟨μ,I',S',⟨rfl,rfl,rfl⟩⟩
theorem Zc3 {k:Int} {es:List (Int × V)} (I:Inv c st μ s.heap) (rx:RepV (Tr st.σ μ) μ s.heap u (.ref m)) (rv:RepV (Tr st.σ μ) μ s.heap w v) (hσ:st.σ[m]? = some (.idict es)) (hz:es.length < sizeLine) :
  wpAny (model c.prog c.w) c.A (setItem u (.int k tk) w) (fun _ s'=>∃ μ',Inv c ⟨st.ρ,st.σ.set m (.idict (Z0K es k v))⟩ μ' s'.heap∧Stp c st.σ μ s.heap (st.σ.set m (.idict (Z0K es k v))) μ' s'.heap∧Same s s') (fun _ _=>False) s:=by
 refine El.x1_2 rx.refI fun d e9 hd=>?_
 subst e9
 refine El.x1_2 (I.objs m _ hσ) fun d' hd' ro=>?_
 have ed:d = d':=Option.some.inj (hd.symm.trans hd')
 subst ed
 refine El.x2_5 ro.idictI fun ob kvs ho hD hzk hkk r=>?_
 have hlen:kvs.length = es.length:=by have:=congrArg List.length hkk; simpa using this
 refine wpAny_setItem_pairs (knd:=intKind c.prog c.w) (k:=k) (by simp [intKind,Value.isInt]) (Heap.dictOf_iff.mpr ⟨_,ho,hD c.prog c.w⟩) (fun h' hm' hs'=>?_) (by rw [hlen]; exact Nat.le_of_lt hz)
 refine El.x1_2 (Heap.dictOf_iff.mp hm') fun o' ho' hD'=>?_
 have tE:Tr (st.σ.set m (.idict es)) μ = Tr st.σ μ:=funext fun b=>propext (Z9X hσ rfl rfl)
 have S:Stp c st.σ μ s.heap (st.σ.set m (.idict es)) μ h' :=
  ⟨Nat.le_of_eq hs'.1.symm,fun b ob q _ hT=>(hs'.2 b (fun (k:b = d)=>hT (k ▸ ⟨m,_,hσ,rfl,hd⟩))).trans q,fun _ _ q=>q,fun b q=>.inl (by rwa [tE] at q),fun _ q=>.inl q,Z5O hσ (by simp),fun k b ob e1 e2 e3=>(hs'.2 b fun x=>by
   have:m = k:=(List.getElem?_inj (List.getElem?_eq_some_iff.mp hd).1 I.nd).mp (hd.trans (x ▸ e2.symm))
   subst this; rw [hσ] at e1; cases e1).trans e3⟩
 have r1:=r.step (st':=⟨st.ρ,st.σ.set m (.idict es)⟩) I S
 have r2:=rv.step (st':=⟨st.ρ,st.σ.set m (.idict es)⟩) I S
 dsimp only at r1 r2
 rw [tE] at r1 r2
 have hst:(stored kvs k w).length ≤ sizeLine:=by
  unfold stored; split
  ·rw [List.length_map,hlen]; exact Nat.le_of_lt hz
  ·rw [List.length_append,hlen]; exact hz
 refine El.x0_2 (I.upd hσ hd rfl rfl (.of hs') (.live ho' (.idict (Z7d hD') hst (Z7e hkk k w v)) (Z90 r2 hkk r1)) (by simp) trivial) fun I' S'=>?_
 exact ⟨μ,I',S',⟨rfl,rfl,rfl⟩⟩
end
theorem Zc4 {c:Cx} {st stF:St} {μ:List Addr} {s:Shared} {u iv w:Value} {x y v:V} {fl:Fl} (ok:CxOk c) (I:Inv c st μ s.heap) (rx:RepV (Tr st.σ μ) μ s.heap u x) (ry:RepV (Tr st.σ μ) μ s.heap iv y) (rv:RepV (Tr st.σ μ) μ s.heap w v) (h:setI x y v st = .ok fl stF) :
  fl = .next∧wpAny (model c.prog c.w) c.A (setItem u iv w) (fun _ s'=>∃ μ',Inv c stF μ' s'.heap∧Stp c st.σ μ s.heap stF.σ μ' s'.heap∧Same s s') (fun _ _=>False) s:=by
 refine Z0j h fun m em h=>?_
 have rx:=Z29 em ▸ rx
 refine Z0j h fun k ek h=>?_
 refine El.x1_1 (RepV.int_inv (Z0H ek ▸ ry)) fun tk e=>ZeD h (fun h=>Z0j h fun es e1 h=>Z6D h fun hz h=>?_) fun h=>Z0j h fun xs e1 h=>Z6D h fun hz h=>?_
 ·rw [ok1 h,ok2 h]
  exact ⟨rfl,e ▸ Zc3 I rx rv (Z5T e1) hz⟩
 ·refine El.x1_1 (Int.eq_ofNat_of_zero_le hz.1) fun j ej=>?_
  rw [ok1 h,ok2 h,e]
  subst ej
  exact ⟨rfl,Zc2 I rx rv (Z0P e1) (Int.ofNat_lt.mp hz.2)⟩
theorem Zc5 {a i e:Ex} (ha:EOk W a) (hi:EOk W i) (he:EOk W e):SOk W K (.asgI a i e):=fun g p c st μ s hk hg I=>Sim.ok fun fl stF hR=>by
 refine El.x2_2 (R.bind_inv hR) fun v' st₁ hE hR=>?_
 refine El.x2_2 (R.bind_inv hR) fun x st₂ hA hR=>?_
 refine El.x2_2 (R.bind_inv hR) fun y st₃ hI hR=>?_
 have b1:=he g _ c st μ s (and2 (and2 hk).1).2 hg I
 rw [hE] at b1
 refine wpAny_Assign_Subscript (wpAny_mono b1 (fun u s₁ q8=>El.x1_4 q8 fun μ₁ rv I₁ S₁ Q₁=>?_) fun _ _ e=>e) (Z3h (and2 (and2 hk).1).1)
 have b2:=ha g _ c st₁ μ₁ s₁ (and2 (and2 hk).2).1 hg I₁
 rw [hA] at b2
 refine wpAny_mono b2 (fun ov s₂ q8=>El.x1_4 q8 fun μ₂ rx I₂ S₂ Q₂=>?_) fun _ _ e=>e
 have b3:=hi g _ c st₂ μ₂ s₂ (and2 (and2 hk).2).2 hg I₂
 rw [hI] at b3
 refine wpAny_mono b3 (fun iv s₃ q8=>El.x1_4 q8 fun μ₃ ry I₃ S₃ Q₃=>?_) fun _ _ e=>e
 refine El.x0_2 (Zc4 hg.ok I₃ (RepV.step I₂ S₃ rx) ry (RepV.step I₂ S₃ (RepV.step I₁ S₂ rv)) hR) fun e hw=>?_
 subst e
 exact wpAny_mono hw (fun _ s₄ q8=>El.x1_3 q8 fun μ₄ I₄ S₄ Q₄=>⟨μ₄,trivial,I₄,((S₁.trans S₂).trans S₃).trans S₄,((Q₁.trans Q₂).trans Q₃).trans Q₄⟩) fun _ _ e=>e
end
theorem Zah:attrNames.Nodup:=by decide +kernel
theorem Z8n {y:Str} (h:y ∈ attrNames):typeLookup (.type "object") y = pure none:=by
 simp only [attrNames,List.mem_cons,List.not_mem_nil,or_false] at h
 rcases h with rfl | rfl | rfl | rfl | rfl <;> (rw [typeLookup_type,builtinLookup_eq_fast]; kernel_rfl)
theorem ZcQ {y:Str} {v:Value}:∀ {ns:List Str} {vs:List Value} {k:Nat},ns.Nodup→ns[k]? = some y→vs[k]? = some v→(ns.zip vs).lookup y = some v
 | [],_,_,_,h,_=>by simp at h
 | n :: ns,[],_,_,_,h=>by simp at h
 | n :: ns,u :: vs,0,_,h,h'=>by
  obtain rfl:n = y:=by simpa using h
  obtain rfl:u = v:=by simpa using h'
  simp [List.zip_cons_cons,List.lookup_cons]
 | n :: ns,u :: vs,k + 1,hn,h,h'=>by
  rw [List.nodup_cons] at hn
  rw [List.getElem?_cons_succ] at h h'
  have hne:(y == n) = false:=by rw [beq_eq_false_iff_ne]; rintro rfl; exact hn.1 (List.mem_of_getElem? h)
  rw [List.zip_cons_cons,List.lookup_cons,hne]
  exact ZcQ hn.2 h h'
theorem Zai {y:Str} {v:Value}:∀ {ns:List Str} {vs:List Value} {k:Nat},ns.Nodup→ns[k]? = some y→k ≤ vs.length→∀ z,(if z = y then some v else (ns.zip vs).lookup z) = (ns.zip (if k < vs.length then vs.set k v else vs++[v])).lookup z
 | [],_,_,_,h,_,_=>by simp at h
 | n :: ns,[],0,_,h,_,z=>by
  obtain rfl:n = y:=by simpa using h
  by_cases hz:z = n
  ·subst hz; simp [List.zip_cons_cons,List.lookup_cons]
  ·have:(z == n) = false:=by rw [beq_eq_false_iff_ne]; exact hz
   simp [List.zip_cons_cons,List.lookup_cons,hz,this]
 | n :: ns,[],k + 1,_,_,h,_=>by simp at h
 | n :: ns,u :: vs,0,_,h,_,z=>by
  obtain rfl:n = y:=by simpa using h
  by_cases hz:z = n
  ·subst hz; simp [List.zip_cons_cons,List.lookup_cons]
  ·have:(z == n) = false:=by rw [beq_eq_false_iff_ne]; exact hz
   simp [List.zip_cons_cons,List.lookup_cons,hz,this]
 | n :: ns,u :: vs,k + 1,hn,h,hk,z=>by
  rw [List.nodup_cons] at hn
  rw [List.getElem?_cons_succ] at h
  have ih:=Zai (v:=v) (vs:=vs) hn.2 h (by simpa using hk) z
  have e:(if k + 1 < (u :: vs).length then (u :: vs).set (k + 1) v else u :: vs++[v]) = u :: (if k < vs.length then vs.set k v else vs++[v]):=by
   by_cases hl:k < vs.length
   ·rw [if_pos hl,if_pos (by simpa using hl)]; rfl
   ·rw [if_neg hl,if_neg (by simpa using hl)]; rfl
  rw [e,List.zip_cons_cons,List.zip_cons_cons,List.lookup_cons,List.lookup_cons,← ih]
  by_cases hz:z = n
  ·try clear e; try clear ih
   subst hz
   have:z ≠ y:=by rintro rfl; exact hn.1 (List.mem_of_getElem? h)
   rw [if_neg this]; simp
  ·have:(z == n) = false:=by rw [beq_eq_false_iff_ne]; exact hz
   rw [this]
theorem RepVs.set {T:Addr→Prop} {μ:List Addr} {h:Heap} {v:Value} {x:V} (r:RepV T μ h v x):∀ {vs:List Value} {xs:List V} (k:Nat),RepVs T μ h vs xs→RepVs T μ h (vs.set k v) (xs.set k x)
 | _,_,_,.nil=>.nil
 | _,_,0,.cons _ b=>.cons r b
 | _,_,k + 1,.cons a b=>.cons a (RepVs.set r k b)
section
variable {c:Cx} {st:St} {μ:List Addr} {s:Shared} {u v:Value}
theorem Zaj (I:Inv c st μ s.heap) {C n:Nat} {xs:List V} (r:RepV (Tr st.σ μ) μ s.heap u (.inst C n)) (h:st.σ[n]? = some (.attrs xs)) :
  ∃ x dx vs,u = .ref x∧s.heap.get? x = some { cls:=.ref C,dict:=some dx,data:=.plain }∧μ[n]? = some dx∧dx ≠ x∧s.heap.Inst x C (fun y=>(attrNames.zip vs).lookup y)∧vs.length ≤ attrNames.length∧RepVs (Tr st.σ μ) μ s.heap vs xs:=by
 refine El.x2_4 r.instI fun x dx e9 hx hT hd=>?_
 subst e9
 refine El.x1_2 (I.objs n _ h) fun d' hd' ro=>?_
 try clear d'; try clear e9
 obtain rfl:=Option.some.inj (hd.symm.trans hd')
 refine El.x2_4 ro.attrsI fun o9 vs9 ho hN hl r=>?_
 refine El.x2_4 hN fun es ep d1 d2 d3 d4=>?_
 have hne:dx ≠ x:=fun e=>hT (e ▸ ⟨n,_,h,rfl,hd⟩)
 exact ⟨x,dx,_,rfl,hx,hd,hne,⟨_,hx,rfl,fun _ q=>(by cases q),.inr ⟨dx,rfl,hne,⟨_,es,ep,ho,d1,d2,d3,d4⟩⟩⟩,hl,r⟩
theorem ZcR {C:Addr} (I:Inv c st μ s.heap) (hC:Z66 c.base C):∃ N mN,ClsAt s.heap C N mN∧mN "__getattribute__" = none∧mN "__setattr__" = none∧∀ y ∈ attrNames,mN y = none :=
 let ⟨N,mN,h1,h2,h3,h4⟩:=hC
 ⟨N,mN,h1.keeps I.base,h2,h3,h4⟩
theorem Z91 {T:Addr→Prop} {h:Heap} {x:V} (r:RepV T μ h v x):handedOut v = pure v:=by cases r <;> rfl
theorem Zc6 (I:Inv c st μ s.heap) {q:Option Int} {k:Nat} {name:Str} (hq:∀ C:Nat,q = some (C:Int)→Z66 c.base C) (hk:attrNames[k]? = some name) {x:V} (rx:RepV (Tr st.σ μ) μ s.heap u x) :
  Sim c (getAttr u name true) (R.lift (Z1Y q st.σ x k) st) rV st.σ μ s:=by
 cases x <;> try trivial
 rename_i C n
 show Sim c _ (R.lift (if q = some (C:Int) then (match st.σ[n]? with | some (.attrs xs)=>xs[k]? | _=>none) else none) st) _ _ _ _
 split
 ·rename_i hC
  cases hn:st.σ[n]? with
  | none=>trivial
  | some o=>
   cases o <;> try trivial
   rename_i xs
   dsimp only
   cases hy:xs[k]? with
   | none=>trivial
   | some y=>
    refine El.x3_7 (Zaj I rx hn) fun x dx vs q0z hx _ _ hI _ r=>?_
    try clear hx; try clear vs; try clear dx; try clear x
    obtain rfl:=q0z
    refine El.x2_4 (ZcR I (hq C hC)) fun N mN X h1 _ h3=>?_
    obtain ⟨nm,qq,bs,sn,sub,col,dd,k0,k1,k2,k3,k5,hCo⟩:=X.obj
    refine El.x1_2 (r.get hy) fun w hw rw'=>?_
    obtain ⟨hp,gg,d,t,os⟩:=s
    exact Z1I I rw' fun Q hQ=>load_attr hCo X.ns h1 (h3 _ (List.mem_of_getElem? hk)) (Z8n (List.mem_of_getElem? hk)) hI (ZcQ Zah hk hw) (Z91 rw') (hQ _)
 ·trivial
end
section
variable {W:Wo} {K:Nat}
theorem Zak {k:Nat} (h:decide (k < attrNames.length) = true):attrNames[k]? = some (attrNames[k]?.getD default):=by
 have h:=of_decide_eq_true h
 rw [List.getElem?_eq_getElem h]; rfl
theorem Z5o {a:Ex} {k:Nat} (ha:EOk W a):EOk W (.attr a k):=fun g p c st μ s hk hg I=>
 Sim.of_eq (arm_eval_Attribute ..) (Sim.of_eq (congrArg (fun t=>t >>= _) (Z2I (and2 (and2 hk).1).2 ..)) (Sim.one ha (and2 hk).2 hg I fun x u st₁ μ₁ s₁ rx I₁=>Sim.at (Sim.ok fun y st₂ hA=>by
  have hs:=Zc6 (q:=clsF W.F) I₁ (fun C hC=>hg.fn.cls C hC) (Zak (and2 (and2 hk).1).1) rx
  rw [hA] at hs
  exact wpAny_bind (wpAny_holding (wpAny_mono hs (fun v s₂ h₂=>wpAny_bind (wpAny_letTemporaryGo (wpAny_pure h₂))) fun _ _ e=>e)))))
theorem Zc7 {xs ys:List V} {k:Nat} {y:V} (hs:setAt xs k y = some ys):k ≤ xs.length∧ys = if k < xs.length then xs.set k y else xs++[y]:=by
 unfold setAt at hs
 by_cases h1:k < xs.length
 ·rw [if_pos h1] at hs ⊢; exact ⟨Nat.le_of_lt h1,(Option.some.inj hs).symm⟩
 ·rw [if_neg h1] at hs ⊢
  exact Z0Q hs fun h hs=>⟨Nat.le_of_eq h,(Option.some.inj hs).symm⟩
theorem RepV.updA {σ:List O} {μ:List Addr} {h h':Heap} {m:Nat} {dx:Addr} {ob:O} (hn:σ[m]? = some ob) (hb:ob.live = true) (hd:μ[m]? = some dx) (hup:UpdAt dx h h') {v:Value} {x:V} (r:RepV (Tr σ μ) μ h v x):RepV (Tr σ μ) μ h' v x :=
 r.move (fun a o e _ hT=>⟨hup.2 a o (fun k:a = dx=>hT (k ▸ ⟨m,_,hn,hb,hd⟩)) e,hT⟩) fun _ _ q=>q
theorem RepVs.updA {σ:List O} {μ:List Addr} {h h':Heap} {m:Nat} {dx:Addr} {ob:O} (hn:σ[m]? = some ob) (hb:ob.live = true) (hd:μ[m]? = some dx) (hup:UpdAt dx h h') {v:List Value} {x:List V} (r:RepVs (Tr σ μ) μ h v x):RepVs (Tr σ μ) μ h' v x :=
 r.move (fun a o e _ hT=>⟨hup.2 a o (fun k:a = dx=>hT (k ▸ ⟨m,_,hn,hb,hd⟩)) e,hT⟩) fun _ _ q=>q
theorem Zc8 {c:Cx} {st:St} {μ:List Addr} {h h':Heap} {v:Value} {y:V} {m k:Nat} {name:Str} {dx:Addr} {xs ys:List V} {vs:List Value} {ob:Obj} (I:Inv c st μ h) (hk:attrNames[k]? = some name) (hn:st.σ[m]? = some (.attrs xs)) (hd:μ[m]? = some dx) (hs:setAt xs k y = some ys) (hz:ys.length ≤ attrNames.length) (r:RepVs (Tr st.σ μ) μ h vs xs) (ry:RepV (Tr st.σ μ) μ h v y)
  (hup:UpdAt dx h h') (ho:h'.get? dx = some ob) (hN:ObNs ob (fun z=>if z = name then some v else (attrNames.zip vs).lookup z)):Inv c ⟨st.ρ,st.σ.set m (.attrs ys)⟩ μ h'∧Stp c st.σ μ h (st.σ.set m (.attrs ys)) μ h':=by
 have e:=Zc7 hs
 rw [← r.length] at e
 have r3:RepVs (Tr st.σ μ) μ h' (if k < vs.length then vs.set k v else vs++[v]) ys:=by
  rw [e.2]
  split
  ·exact RepVs.set (ry.updA hn rfl hd hup) k (r.updA hn rfl hd hup)
  ·exact (r.updA hn rfl hd hup).append (.cons (ry.updA hn rfl hd hup) .nil)
 refine I.upd hn hd rfl rfl hup (.live ho (.attrs (vs:=if k < vs.length then vs.set k v else vs++[v]) ?_ (by rw [r3.length]; exact hz)) r3) (by simp) trivial
 exact El.x2_4 hN fun es ep f1 f2 f3 f4=>⟨es,ep,f1,f2,f3,fun z=>(f4 z).trans (Zai Zah hk e.1 z)⟩
theorem Z7f {c:Cx} {st stF:St} {μ:List Addr} {s:Shared} {u v:Value} {x y:V} {q:Option Int} {k:Nat} {name:Str} {fl:Fl} (I:Inv c st μ s.heap) (hq:∀ C:Nat,q = some (C:Int)→Z66 c.base C) (hk:attrNames[k]? = some name)
  (rx:RepV (Tr st.σ μ) μ s.heap u x) (ry:RepV (Tr st.σ μ) μ s.heap v y) (h:setA q x y k st = .ok fl stF) :
  fl = .next∧wpAny (model c.prog c.w) c.A (setAttr u name v) (fun _ s'=>∃ μ',Inv c stF μ' s'.heap∧Stp c st.σ μ s.heap stF.σ μ' s'.heap∧Same s s') (fun _ _=>False) s:=by
 refine El.x4_7 (Zbr h) fun C m xs ys q2z hC hn hs hz q3z q4z=>?_
 rw [q3z,q4z]
 refine ⟨rfl,?_⟩
 refine El.x3_7 (Zaj I (q2z ▸ rx) hn) fun x dx vs q5z hx hd hne hI hl r=>El.x2_4 (ZcR I (hq C hC)) fun N mN X _ h2 h3=>?_
 rw [q5z]
 clear q2z q3z q4z q5z h
 obtain ⟨nm,qq,bs,sn,sub,col,dd,k0,k1,k2,k3,k5,hCo⟩:=X.obj
 have hxC:x ≠ C:=by
  rintro rfl
  have:=Option.some.inj (hx.symm.trans hCo)
  exact absurd (congrArg Obj.cls this) (by simp [excClassObj])
 obtain ⟨hp,gg,d,t,os⟩:=s
 refine Z04 (store_attr (ns:=attrNames) PySem.F.store_object hCo X.ns h2 (h3 _ (List.mem_of_getElem? hk)) (Z8n (List.mem_of_getElem? hk)) hxC hI (fun h' tk' I' hkp hsame hsz=>?_) (fun y hy=>?_) (by decide))
 ·clear hCo h2 h3 X hI k0 k1 k2 k3 k5 hxC
  refine El.x1_5 (hsame _ hx) fun o₁ e₁ c₁ dt₁ sl₁ dk₁=>El.x1_4 I' fun o' e' _ _ hd'=>?_
  have eo:o₁ = { cls:=.ref C,dict:=some dx,data:=.plain }:=by
   obtain ⟨a1,a2,a3,a4⟩:=o₁
   have b2:=dk₁ dx rfl
   dsimp only at c₁ dt₁ sl₁ b2
   subst c₁ dt₁ sl₁ b2; rfl
  subst eo
  obtain rfl:=Option.some.inj (e₁.symm.trans e')
  rcases hd' with ⟨hn0,_⟩ | ⟨d',hd',_,es',hns'⟩
  ·cases hn0
  obtain rfl:dx = d':=Option.some.inj hd'
  have hup:UpdAt dx hp h':=⟨hsz,fun b o hb e=>by
   by_cases hbx:b = x
   ·subst hbx
    obtain rfl:=Option.some.inj (hx.symm.trans e)
    exact e₁
   ·exact hkp b o hbx (fun o₀ d₀ h₀ hd₀=>by obtain rfl:=Option.some.inj (hx.symm.trans h₀); cases hd₀; exact hb) e⟩
  refine El.x2_5 hns' fun es ep ho' f1 f2 f3 f4=>?_
  exact El.x0_2 (Zc8 I hk hn hd hs hz r ry hup ho' ⟨es,ep,f1,f2,f3,f4⟩) fun I₂ S₂=>⟨μ,I₂,S₂,⟨rfl,rfl,rfl⟩⟩
 ·cases hl':(attrNames.zip vs).lookup y with
  | none=>exact absurd hl' hy
  | some v'=>exact (List.of_mem_zip (mem_of_lookup hl')).1
theorem Zc9 {a e:Ex} {k:Nat} (ha:EOk W a) (he:EOk W e):SOk W K (.asgA a k e):=fun g p c st μ s hk hg I=>Sim.ok fun fl stF hR=>by
 refine El.x2_2 (R.bind_inv hR) fun v' st₁ hE hR=>?_
 refine El.x2_2 (R.bind_inv hR) fun x st₂ hA hR=>?_
 have b1:=he g _ c st μ s (and2 (and2 hk).2).1 hg I
 rw [hE] at b1
 refine plainObj_wpAny_Assign_Attribute (wpAny_mono b1 (fun u s₁ q8=>El.x1_4 q8 fun μ₁ rv I₁ S₁ Q₁=>?_) fun _ _ e=>e) (Z3h (and2 (and2 hk).1).1)
 have b2:=ha g _ c st₁ μ₁ s₁ (and2 (and2 hk).2).2 hg I₁
 rw [hA] at b2
 refine wpAny_mono b2 (fun ov s₂ q8=>El.x1_4 q8 fun μ₂ rx I₂ S₂ Q₂=>?_) fun _ _ e=>e
 refine El.x0_2 (Z7f I₂ (fun C hC=>hg.fn.cls C hC) (Zak (and2 (and2 hk).1).2) rx (RepV.step I₁ S₂ rv) hR) fun e hw=>?_
 subst e
 exact wpAny_mono hw (fun _ s₃ q8=>El.x1_3 q8 fun μ₃ I₃ S₃ Q₃=>⟨μ₃,trivial,I₃,(S₁.trans S₂).trans S₃,(Q₁.trans Q₂).trans Q₃⟩) fun _ _ e=>e
theorem Zal {m:R V} {ρ:List (Option V)} {r:V} {st:St} (h:Z8M m ρ = .ok r st):∃ st₂,m = .ok r st₂∧st = ⟨ρ,st₂.σ⟩:=by
 cases m with
 | ok v st₂=>cases h; exact ⟨st₂,rfl,rfl⟩
 | exc _ _=>cases h
 | stuck=>cases h
theorem Z5p:EOk W .newI:=fun g p c st μ s hk hg I=>Sim.of_eq (arm_eval_Call_Name' ..) (Sim.ok fun r stF h=>by
 refine El.x1_2 (Zal h) fun st₂ hC e=>?_
 subst e
 refine El.x1_3 (hg.fn.new st.σ r st₂ hC) fun C k1 q hcall=>?_
 refine El.x2_2 q fun N mN X _=>?_
 refine wpAny_bind (Z1Z hg I hk k1 ?_)
 exact callWith_cls0 (h₀:=c.base) X (fun b o q=>I.base b o q) (wpAny_mono (hcall c μ s [] rfl rfl rfl hg.a I.bare .nil) (fun v s₂ q8=>El.x1_4 q8 fun μ₂ q1 q2 q3 q4=>El.x0_2 (I.back q2 q3) fun I₂ S₂=>⟨μ₂,q1,I₂,S₂,q4⟩) fun _ _ e=>e))
end
noncomputable def rSet (c:Cx) (_:St) (_:List Addr) (h:Heap) (v:Value) (l:List Nat):Prop:=∃ a,v = .ref a∧SetL c.prog c.w h a l∧l.all (· < 128) = true∧l.eraseDups.length < 4000
noncomputable def setK (x:V):Option (List Nat):=x.str?.bind fun l=>if l.all (· < 128) = true then some l else none
noncomputable def ZdU (l:List Nat):Option V:=if l.eraseDups.length < 128 then some (.lst (Z0o (Z4o l.eraseDups))) else none
section
variable {W:Wo} {K:Nat}
theorem ZdV {x:V} {l:List Nat} (h:setK x = some l):x = .str l∧l.all (· < 128) = true:=bnd h fun z ez h=>Z0Q h fun hc h=>by
 rw [Z1r ez,← Option.some.inj h]; exact ⟨rfl,hc⟩
theorem Zam (x:V) (st:St):R.lift (Z1q x) st = (R.lift (setK x) st).bind fun l st=>.ok (.int l.eraseDups.length) st:=by
 unfold Z1q setK
 cases x.str? with
 | none=>rfl
 | some l=>
  show R.lift (if _ then _ else _) st = R.bind (R.lift (if _ then _ else _) st) _
  by_cases h:l.all (· < 128) = true
  ·rw [if_pos h,if_pos h]; rfl
  ·rw [if_neg h,if_neg h]; rfl
theorem ZdW (x:V) (st:St):R.lift (Z3q x) st = (R.lift (setK x) st).bind fun l st=>R.lift (ZdU l) st:=by
 unfold Z3q setK
 cases x.str? with
 | none=>rfl
 | some l=>
  show R.lift (if _ then _ else _) st = R.bind (R.lift (if _ then _ else _) st) _
  by_cases h:l.all (· < 128) = true
  ·rw [if_pos h]
   show _ = R.lift (if l.eraseDups.length < 128 then _ else _) st
   by_cases h2:l.eraseDups.length < 128
   ·rw [if_pos ⟨h,h2⟩,if_pos h2]
   ·rw [if_neg fun q=>h2 q.2,if_neg h2]
  ·rw [if_neg fun q=>h q.1,if_neg h]; rfl
theorem Zan {c:Cx} {st:St} {μ:List Addr} {s:Shared} {u:Value} (hh:c.A.handled = none) (I:Inv c st μ s.heap) {x:V} (rx:RepV (Tr st.σ μ) μ s.heap u x):Sim c (call (.type "set") [u]) (R.lift (setK x) st) (rSet c) st.σ μ s :=
 Sim.lift fun l h=>El.x0_2 (ZdV h) fun e ha=>El.x2_4 (RepV.str_inv (e ▸ rx)) fun z t q1 q2 _ _=>by
  rw [q1]
  rw [← q2] at ha ⊢
  refine Sim.leaf I (Z04 (Z63 hh (by rw [Array.all_toList] at ha; exact ha) fun h' tk hS hk hs=>⟨⟨hs,hk⟩,⟨rfl,rfl,rfl⟩,?_⟩))
  exact ⟨_,rfl,hS,ha,Nat.lt_of_le_of_lt (Z87 fun c hc=>of_decide_eq_true (List.all_eq_true.mp ha c hc)) (by decide)⟩
theorem Z7g {c:Cx} {st:St} {μ:List Addr} {s:Shared} {u:Value} {l:List Nat} (I:Inv c st μ s.heap) (r:rSet c st μ s.heap u l):Sim c (call (.builtin "len") [u]) (.ok (.int l.eraseDups.length) st) rV st.σ μ s:=by
 obtain ⟨a,rfl,⟨o,es,ep,t,ho,L⟩,_,hb⟩:=r
 have hn:es.size = l.eraseDups.length:=by rw [← L.keys.length_eq,List.length_map,Array.length_toList]
 rw [← hn] at hb ⊢
 exact Z0u I fun Q hq=>call_len_set ho L.ex L.data L.fits (by lia) (hq _ _)
theorem Z4u {c:Cx} {st:St} {μ:List Addr} {s:Shared} {u:Value} {l:List Nat} (hh:c.A.handled = none) (I:Inv c st μ s.heap) (r:rSet c st μ s.heap u l):Sim c (call (.builtin "sorted") [u]) (R.lift (ZdU l) st) rV st.σ μ s :=
 Sim.lift fun z h=>Z0Q h fun hc h=>by
  obtain ⟨a,rfl,hS,ha,_⟩:=r
  rw [← Option.some.inj h]
  refine Sim.leaf I (Z04 (Z3C hh hS hc fun h' tk d b out e hk hb ho hv hp hs hz=>⟨⟨hz,hk⟩,⟨rfl,rfl,rfl⟩,?_⟩))
  rw [← Z56 hp hs]
  have r':=Z57 (T:=Tr st.σ μ) (μ:=μ) (h:=h') out.toList fun v q=>by
   obtain ⟨c,u,e⟩:=hv v q
   refine ⟨c,one c,u,e,rfl,?_⟩
   have hm:c ∈ l:=List.mem_eraseDups.mp (hp.mem_iff.mp (List.mem_map.mpr ⟨v,q,by rw [e]; rfl⟩))
   have hc:c < 128:=of_decide_eq_true (List.all_eq_true.mp ha c hm)
   unfold PyData.strOk
   rw [Array.all_eq_true_iff_forall_mem]
   intro b hb
   rw [show b = c from by simpa [one] using hb]
   exact decide_eq_true (by lia)
  refine .lst ho rfl rfl ?_ (fun q=>Nat.lt_irrefl _ (Nat.lt_of_lt_of_le (I.lt _ q.mem) hb)) r'
  rw [← Array.length_toList,← List.length_map (f:=k1),hp.length_eq]; exact Nat.le_trans (Nat.le_of_lt hc) (by decide)
theorem Z2L {a:Ex} (ha:EOk W a):EOk W (.lenSet a):=fun g p c st μ s hk hg I=>by
 refine Sim.of_m (m':=((evE W.F a st).bind fun x st=>R.lift (setK x) st).bind fun l st=>.ok (.int l.eraseDups.length) st) ((Z10 _ fun x st=>Zam x st).trans (R.bind_assoc ..).symm) ?_
 exact Z19 (fn:="len") (fv:=.builtin "len") (rel:=rSet c) (.inl ⟨_,rfl⟩) Z8c (by decide) hg I (and2 (and2 hk).1).1 (fun _ _=>rfl) (Z19 (fn:="set") (fv:=.type "set") (.inr ⟨_,rfl⟩) Z8g (by decide) hg I (and2 (and2 hk).1).2 (Z0t a _) (ha g _ c st μ s (and2 hk).2 hg I) fun x st₁ u μ₁ s₁ rx I₁=>Zan hg.hh I₁ rx) fun l st₁ u μ₁ s₁ rl I₁=>Z7g I₁ rl
theorem Z5q {a:Ex} (ha:EOk W a):EOk W (.sset a):=fun g p c st μ s hk hg I=>by
 refine Sim.of_m (m':=((evE W.F a st).bind fun x st=>R.lift (setK x) st).bind fun l st=>R.lift (ZdU l) st) ((Z10 _ fun x st=>ZdW x st).trans (R.bind_assoc ..).symm) ?_
 exact Z19 (fn:="sorted") (fv:=.builtin "sorted") (rel:=rSet c) (.inl ⟨_,rfl⟩) Z3L (by decide) hg I (and2 (and2 hk).1).1 (fun _ _=>rfl) (Z19 (fn:="set") (fv:=.type "set") (.inr ⟨_,rfl⟩) Z8g (by decide) hg I (and2 (and2 hk).1).2 (Z0t a _) (ha g _ c st μ s (and2 hk).2 hg I) fun x st₁ u μ₁ s₁ rx I₁=>Zan hg.hh I₁ rx) fun l st₁ u μ₁ s₁ rl I₁=>Z4u hg.hh I₁ rl
theorem Z5r {a b:Ex} (ha:EOk W a) (hb:EOk W b):EOk W (.min2 a b):=fun g p c st μ s hk hg I=>by
 refine Sim.of_eq (arm_eval_Call_Name' ..) (Sim.name hg I (and2 hk).1 (by decide) ZbN ?_)
 refine Sim.of_m (m':=((evE W.F a st).bind fun x st=>(evE W.F b st).bind fun y st=>.ok (x,y) st).bind fun q st=>R.lift (onI q.1 q.2 fun a b=>some (V.int (if b < a then b else a))) st) ((R.bind_assoc (evE W.F a st) _ _).trans (Z10 _ fun x st=>R.bind_assoc (evE W.F b st) (fun y st=>R.ok (x,y) st) (fun q st=>R.lift (onI q.1 q.2 fun a b=>some (V.int (if b < a then b else a))) st))).symm ?_
 refine Sim.via (rel:=fun st μ h vs q=>∃ u v,vs = [u,v]∧RepV (Tr st.σ μ) μ h u q.1∧RepV (Tr st.σ μ) μ h v q.2) (f:=fun vs=>call (.builtin "min") vs) (fun Q h=>ZbM (first:=[]) (fun z hz=>(List.mem_cons.mp hz).elim (fun e=>e ▸ Z0t a _) fun hz=>Z2H (Z0t b _) hz) h)
  (Z20 (Z0t a _) (ha g _ c st μ s (and2 (and2 hk).2).1 hg I) fun x st₁ u μ₁ s₁ _ rx I₁ S₁=>?_) fun q st₂ vs μ₂ s₂ _ hu I₂ S₂=>Sim.ok fun z st' h=>?_
 ·refine Sim.of_m (m':=((evE W.F b st₁).bind fun y st=>.ok y st).bind fun y st=>.ok (x,y) st) (congrArg (fun m=>R.bind m _) (Z8f (evE W.F b st₁))) ?_
  exact Sim.bind (Z5g (pos:=p.pos) (Z0t b _) (hb g _ c st₁ μ₁ s₁ (and2 (and2 hk).2).2 hg I₁)) fun y st₂ vs μ₂ s₂ _ hu I₂ S₂=>El.x1_2 hu fun v e ry=>Sim.pure I₂ ⟨u,v,by rw [e],RepV.step I₁ S₂ rx,ry⟩
 ·refine El.x2_3 hu fun u v e ru rv=>?_
  subst e
  refine El.x0_2 (Z7b h) fun h0 e=>?_
  subst e
  refine El.x2_3 (Zdf h0) fun i j e1 e2 e3=>?_
  rw [e1] at ru; rw [e2] at rv
  cases e3
  refine El.x1_1 (RepV.int_inv ru) fun t e=>?_
  subst e
  refine El.x1_1 (RepV.int_inv rv) fun t' e=>?_
  subst e
  refine Sim.leaf I₂ (Z04 (min_two_ints hg.hh fun h' tk hk hs=>⟨⟨hs,hk⟩,⟨rfl,rfl,rfl⟩,?_⟩))
  show RepV _ _ _ _ (V.int (if j < i then j else i))
  by_cases hij:j < i
  ·rw [if_pos hij,if_pos hij]; exact .int _ _
  ·rw [if_neg hij,if_neg hij]; exact .int _ _
end
section
variable {W:Wo} {K:Nat}
theorem Z3Z {a:Ex}:ItOk W (.enum a):=fun g p c st μ s hk=>absurd hk Bool.false_ne_true
theorem allX:(∀ e:Ex,IOk W e)∧(∀ es:Exs,EsOk W es∧TsOk W es)∧∀ i:It,ItOk W i :=
 ⟨fun e=>Ex.rec (motive_1:=fun e=>IOk W e) (motive_2:=fun es=>EsOk W es∧TsOk W es) (motive_3:=fun o=>OOk W o) (motive_4:=fun i=>ItOk W i)
  (TOk.plain Z58 (fun _=>Z00 rfl)) (fun _=>TOk.plain Z59 (fun _=>Z00 rfl)) (fun _=>TOk.plain Z6W (fun _=>Z00 rfl)) (fun _=>TOk.plain Z6X (fun _=>Z00 rfl)) (fun _=>TOk.plain Z6Y (fun _=>Z00 rfl)) (fun _=>TOk.plain Za5 (fun _=>Z00 rfl)) (fun _ _ _ a b=>TOk.plain (Z6Z a.1 b.1) (fun _=>Z00 rfl)) (fun _ _ _ a b=>Z5b a.1 b.1) (fun _ _ a b=>Z5c a b) (fun _ _ a b=>Z71 a b) (fun _ a=>Z72 a) (fun _=>TOk.plain Z73 (fun _ _ _=>rfl)) (fun _ _ _ c a b=>Z74 c a b) (fun _ h=>TOk.plain (Z76 h.1) (fun _=>Z00 rfl)) (fun _ h=>TOk.plain (Z5e h.1) (fun _=>Z00 rfl)) (fun _ h=>TOk.plain (Z3H h.1) (fun _=>Z00 rfl)) (fun _ _ a b=>TOk.plain (Z77 a.1 b.1) (fun _=>Z00 rfl)) (fun _ _ _ a lo hi=>TOk.plain (Z3K a.1 lo hi) (fun _=>Z00 rfl)) (fun _ _ a=>TOk.plain (Z5h a.1) (fun _=>Z00 rfl)) (fun _ _ a=>TOk.plain (Za7 a.1) (fun _=>Z00 rfl)) (fun _ _ _ a b=>TOk.plain (Za8 a.1 b.1) (fun _=>Z00 rfl)) (fun _ _ h=>TOk.plain (Z5i h.1) (fun _=>Z00 rfl)) (fun _ _=>TOk.plain Z5j (fun _=>Z00 rfl)) (TOk.plain Z3Y (fun _=>Z00 rfl)) (fun _ _ a=>TOk.plain (Z5o a.1) (fun _=>Z00 rfl)) (TOk.plain Z5p (fun _=>Z00 rfl)) (fun _ a=>TOk.plain (Z2L a.1) (fun _=>Z00 rfl)) (fun _ a=>TOk.plain (Z5q a.1) (fun _=>Z00 rfl)) (fun _ _ a b=>TOk.plain (Z5r a.1 b.1) (fun _=>Z00 rfl)) (fun _ a=>TOk.plain (Z79 a.1) (fun _=>Z00 rfl)) (fun _ _ _ _ e i t=>TOk.plain (Z5l e.1 t.2 i) (fun _=>Z00 rfl)) (⟨Z75,Z5k⟩) (fun _ _ e es=>⟨Z5d e.1 es.1,Z3U e.2 es.2⟩) (Z3I) (fun _ e=>Z3J e.1) (fun _ e=>Zae e.1) (fun _ a=>Z3O a.1) (fun _ _=>Z3Z) e,fun e=>Exs.rec (motive_1:=fun e=>IOk W e) (motive_2:=fun es=>EsOk W es∧TsOk W es) (motive_3:=fun o=>OOk W o) (motive_4:=fun i=>ItOk W i)
  (TOk.plain Z58 (fun _=>Z00 rfl)) (fun _=>TOk.plain Z59 (fun _=>Z00 rfl)) (fun _=>TOk.plain Z6W (fun _=>Z00 rfl)) (fun _=>TOk.plain Z6X (fun _=>Z00 rfl)) (fun _=>TOk.plain Z6Y (fun _=>Z00 rfl)) (fun _=>TOk.plain Za5 (fun _=>Z00 rfl)) (fun _ _ _ a b=>TOk.plain (Z6Z a.1 b.1) (fun _=>Z00 rfl)) (fun _ _ _ a b=>Z5b a.1 b.1) (fun _ _ a b=>Z5c a b) (fun _ _ a b=>Z71 a b) (fun _ a=>Z72 a) (fun _=>TOk.plain Z73 (fun _ _ _=>rfl)) (fun _ _ _ c a b=>Z74 c a b) (fun _ h=>TOk.plain (Z76 h.1) (fun _=>Z00 rfl)) (fun _ h=>TOk.plain (Z5e h.1) (fun _=>Z00 rfl)) (fun _ h=>TOk.plain (Z3H h.1) (fun _=>Z00 rfl)) (fun _ _ a b=>TOk.plain (Z77 a.1 b.1) (fun _=>Z00 rfl)) (fun _ _ _ a lo hi=>TOk.plain (Z3K a.1 lo hi) (fun _=>Z00 rfl)) (fun _ _ a=>TOk.plain (Z5h a.1) (fun _=>Z00 rfl)) (fun _ _ a=>TOk.plain (Za7 a.1) (fun _=>Z00 rfl)) (fun _ _ _ a b=>TOk.plain (Za8 a.1 b.1) (fun _=>Z00 rfl)) (fun _ _ h=>TOk.plain (Z5i h.1) (fun _=>Z00 rfl)) (fun _ _=>TOk.plain Z5j (fun _=>Z00 rfl)) (TOk.plain Z3Y (fun _=>Z00 rfl)) (fun _ _ a=>TOk.plain (Z5o a.1) (fun _=>Z00 rfl)) (TOk.plain Z5p (fun _=>Z00 rfl)) (fun _ a=>TOk.plain (Z2L a.1) (fun _=>Z00 rfl)) (fun _ a=>TOk.plain (Z5q a.1) (fun _=>Z00 rfl)) (fun _ _ a b=>TOk.plain (Z5r a.1 b.1) (fun _=>Z00 rfl)) (fun _ a=>TOk.plain (Z79 a.1) (fun _=>Z00 rfl)) (fun _ _ _ _ e i t=>TOk.plain (Z5l e.1 t.2 i) (fun _=>Z00 rfl)) (⟨Z75,Z5k⟩) (fun _ _ e es=>⟨Z5d e.1 es.1,Z3U e.2 es.2⟩) (Z3I) (fun _ e=>Z3J e.1) (fun _ e=>Zae e.1) (fun _ a=>Z3O a.1) (fun _ _=>Z3Z) e,fun e=>It.rec (motive_1:=fun e=>IOk W e) (motive_2:=fun es=>EsOk W es∧TsOk W es) (motive_3:=fun o=>OOk W o) (motive_4:=fun i=>ItOk W i)
  (TOk.plain Z58 (fun _=>Z00 rfl)) (fun _=>TOk.plain Z59 (fun _=>Z00 rfl)) (fun _=>TOk.plain Z6W (fun _=>Z00 rfl)) (fun _=>TOk.plain Z6X (fun _=>Z00 rfl)) (fun _=>TOk.plain Z6Y (fun _=>Z00 rfl)) (fun _=>TOk.plain Za5 (fun _=>Z00 rfl)) (fun _ _ _ a b=>TOk.plain (Z6Z a.1 b.1) (fun _=>Z00 rfl)) (fun _ _ _ a b=>Z5b a.1 b.1) (fun _ _ a b=>Z5c a b) (fun _ _ a b=>Z71 a b) (fun _ a=>Z72 a) (fun _=>TOk.plain Z73 (fun _ _ _=>rfl)) (fun _ _ _ c a b=>Z74 c a b) (fun _ h=>TOk.plain (Z76 h.1) (fun _=>Z00 rfl)) (fun _ h=>TOk.plain (Z5e h.1) (fun _=>Z00 rfl)) (fun _ h=>TOk.plain (Z3H h.1) (fun _=>Z00 rfl)) (fun _ _ a b=>TOk.plain (Z77 a.1 b.1) (fun _=>Z00 rfl)) (fun _ _ _ a lo hi=>TOk.plain (Z3K a.1 lo hi) (fun _=>Z00 rfl)) (fun _ _ a=>TOk.plain (Z5h a.1) (fun _=>Z00 rfl)) (fun _ _ a=>TOk.plain (Za7 a.1) (fun _=>Z00 rfl)) (fun _ _ _ a b=>TOk.plain (Za8 a.1 b.1) (fun _=>Z00 rfl)) (fun _ _ h=>TOk.plain (Z5i h.1) (fun _=>Z00 rfl)) (fun _ _=>TOk.plain Z5j (fun _=>Z00 rfl)) (TOk.plain Z3Y (fun _=>Z00 rfl)) (fun _ _ a=>TOk.plain (Z5o a.1) (fun _=>Z00 rfl)) (TOk.plain Z5p (fun _=>Z00 rfl)) (fun _ a=>TOk.plain (Z2L a.1) (fun _=>Z00 rfl)) (fun _ a=>TOk.plain (Z5q a.1) (fun _=>Z00 rfl)) (fun _ _ a b=>TOk.plain (Z5r a.1 b.1) (fun _=>Z00 rfl)) (fun _ a=>TOk.plain (Z79 a.1) (fun _=>Z00 rfl)) (fun _ _ _ _ e i t=>TOk.plain (Z5l e.1 t.2 i) (fun _=>Z00 rfl)) (⟨Z75,Z5k⟩) (fun _ _ e es=>⟨Z5d e.1 es.1,Z3U e.2 es.2⟩) (Z3I) (fun _ e=>Z3J e.1) (fun _ e=>Zae e.1) (fun _ a=>Z3O a.1) (fun _ _=>Z3Z) e⟩
theorem allE (e:Ex):IOk W e:=allX.1 e
theorem allI (i:It):ItOk W i:=allX.2.2 i
theorem allZ (it:It):ZOk W it :=
 It.casesOn (motive_4:=fun it=>ZOk W it) it (fun e g p c st μ s hk=>absurd hk Bool.false_ne_true) (fun e g p c st μ s hk=>absurd hk Bool.false_ne_true) (fun a=>Zc0 (allE a).1)
theorem ZdX {i:Nat} (e:Ex):SOk W K (.asg i e):=by
 by_cases hC:isC e = true
 ·refine Ex.comp.elim (motive_1:=fun e=>SOk W K (.asg i e)) e (eq_of_beq hC) fun elt k it ifs=>?_
  intro g p c st μ s hk hg I
  obtain ⟨b,hb⟩:∃ b:Bool,swapsWith (pE (.comp elt k it ifs) (skid p 0)) (some (.Name (nmOf (skid p 1)) (skid p 1).pos)) p.pos.line c.env = pure b:=⟨_,rfl⟩
  cases b with
  | false=>exact Z8i (allE _).1 g p c st μ s hk hb hg I
  | true=>exact ZbX (allE _).1 (allX.2.1 _).2 (allI _) g p c st μ s hk hb hg I
 ·exact fun g p c st μ s hk hg I=>Z8i (allE e).1 g p c st μ s hk (Z3h (by rw [Bool.not_eq_true] at hC; rw [hC]; rfl)) hg I
theorem Zfr (s:Sms):SsOk W K s :=
 Sms.rec (motive_1:=fun s=>SOk W K s) (motive_2:=fun s=>SsOk W K s) (fun _ e=>ZdX e) (fun _ e=>ZbY (allE e).1) (fun e=>ZbU (allE e).1) (fun e=>ZdR (allE e).1) (fun c _ _ t f=>ZbS (allE c) t f) (fun _ it _ b=>ZbW (allI it) b) (fun _ it _ b=>Zc1 (allZ it) b) ZdQ (fun _ _ _ _ _ _ _ _ _=>trivial)
  (fun a i e=>Zc5 (allE a).1 (allE i).1 (allE e).1) (fun a _ e=>Zc9 (allE a).1 (allE e).1) ZbR (fun _ _ s ss=>Za9 s ss) s
end
section
variable {prog:Program} {w:World} {A:Around} {E:Value→Shared→Prop} {h:Heap} {g:Array GenState} {d:Drawn} {t:Nat} {os:OsState} {C N fI:Addr} {oI:Obj} {mN:Str→Option Value}
noncomputable def newH (h:Heap) (C:Addr):Heap:=(h.push { cls:=.type "dict",data:=.dict #[] }).push { cls:=.ref C,dict:=some h.objs.size,data:=.plain }
theorem Zao {Q:PySem.Fin→Shared→Prop} (X:ClsAt h C N mN) (hi:mN "__init__" = some (.ref fI)) (hfI:h.get? fI = some oI) (hfc:oI.cls = .type "function")
  (hq:wpAny (model prog w) A (call (.ref fI) [.ref (h.objs.size + 1)]) (fun r s'=>r = .none∧Q (.done (.ret (.ref (h.objs.size + 1)))) s') E ⟨newH h C,g,d,t,os⟩) :
  wpAny (model prog w) A (Builtin.«type.__call__» ⟨[.ref C],[]⟩) Q E ⟨h,g,d,t,os⟩:=by
 obtain ⟨nm,q,bs,sn,sub,col,dd,k0,k1,k2,k3,k5,hC⟩:=X.obj
 have hmro:mroOf (.type "object") = pure [.type "object"]:=by kernel_rfl
 have hlk:typeLookup (.type "object") "__init__" = pure (some (.builtin "object.__init__")):=by rw [typeLookup_type,builtinLookup_eq_fast]; kernel_rfl
 have F:=PySem.F.objNew
 repeat (first | with_reducible refine wpAny_loadPart_at hC ?_ | with_reducible refine wpAny_madeBy_exc hC ?_ | wp_step)
 refine codeAny_call_builtin_code (Code.quiet_builtin _ F.quiet) (wpAny_check_obj_new F hC ?_)
 refine codeAny_obj_new F hC X.ns hi ?_
 show wpAny _ _ _ _ _ ⟨newH h C,g,d,t,os⟩
 have X₁:ClsAt (newH h C) C N mN:=X.keeps fun b o e=>Heap.get?_push_of_some _ (Heap.get?_push_of_some _ e)
 have hC₁:(newH h C).get? C = _:=Heap.get?_push_of_some _ (Heap.get?_push_of_some _ hC)
 have hfI₁:(newH h C).get? fI = some oI:=Heap.get?_push_of_some _ (Heap.get?_push_of_some _ hfI)
 have hget:(newH h C).get? (h.objs.size + 1) = some { cls:=.ref C,dict:=some h.objs.size,data:=.plain }:=by
  have:=Heap.get?_push_size (h.push { cls:=.type "dict",data:=.dict #[] }) (o:={ cls:=.ref C,dict:=some h.objs.size,data:=.plain }) rfl
  rwa [Heap.size_push] at this
 have hcC:(Value.ref C :: [Value.type "object"]).contains (.ref C) = true:=by simp
 generalize newH h C = H at *
 unfold isInstance
 repeat (first | with_reducible refine wpAny_loadPart_at hget ?_ | (with_reducible refine wpAny_isSubtype_exc hC₁ ?_; rw [hcC]) | wp_step)
 show wpAny _ _ (typeLookup (.ref C) _) _ _ _
 refine wpAny_typeLookup_exc hC₁ X₁.ns hmro hlk ?_
 rw [hi]
 refine wpAny_holding (wpAny_bind ?_)
 unfold bindSpecial
 refine wpAny_bind (wpAny_typeOf (T:="function") ⟨_,hfI₁,hfc⟩ ?_)
 rw [if_pos (by decide)]
 refine wpAny_pure (wpAny_bind (wpAny_mono hq (fun r s' hr=>?_) fun _ _ x=>x))
 refine El.x0_2 hr fun q0z hQ=>?_
 try clear hr; try clear s'; try clear r; try clear hcC; try clear hget; try clear hfI₁; try clear hC₁; try clear X₁; try clear F; try clear hlk; try clear hmro; try clear hC
 obtain rfl:=q0z
 wp_walk
 exact hQ
theorem Zca {Q:Value→Shared→Prop} (X:ClsAt h C N mN) (hi:mN "__init__" = some (.ref fI)) (hfI:h.get? fI = some oI) (hfc:oI.cls = .type "function")
  (hq:wpAny (model prog w) (A.under (.builtin "type.__call__" ⟨[.ref C],[]⟩)) (call (.ref fI) [.ref (h.objs.size + 1)]) (fun r s'=>r = .none∧Q (.ref (h.objs.size + 1)) s') E ⟨newH h C,g,d,t,os⟩) :
  wpAny (model prog w) A (call (.ref C) []) Q E ⟨h,g,d,t,os⟩:=by
 obtain ⟨nm,q,bs,sn,sub,col,dd,k0,k1,k2,k3,k5,hC⟩:=X.obj
 have f1:=tc_lookup
 have f2:=tc_bind (.ref C)
 have hT:(⟨h,g,d,t,os⟩:Shared).TypeIs (.ref C) "type":=⟨_,hC,rfl⟩
 refine wpAny_call (codeAny_of_tree ?_)
 show wpAny _ _ (callAny (.ref C) _) _ _ _
 repeat (any_goals (first | assumption | with_reducible refine wpAny_loadPart_at hC ?_ | wp_step))
 refine ⟨rfl,?_⟩
 exact codeAny_call_builtin_at (Code.quiet_builtin _ (by decide +kernel)) entry_typeCall (wpAny_check_type_call_sub hC (Zao X hi hfI hfc hq))
end
structure Wd (prog:Program) (w:World) (base:Heap) (mg mb:Str→Option Value):Prop where
 gd:Gd base mg mb
 seer:base.NoSeer
 nolimit:base.NoLimit
 tree:prog.given.tree = none
theorem Z2M {y:Str} {v:Value}:∀ {ns:List Str} {vs:List Value},ns.Nodup→(y,v) ∈ ns.zip vs→(ns.zip vs).lookup y = some v
 | [],_,_,h=>by simp at h
 | _ :: _,[],_,h=>by simp at h
 | n :: ns,u :: vs,hn,h=>by
  rw [List.zip_cons_cons] at h ⊢
  rw [List.nodup_cons] at hn
  rw [List.lookup_cons]
  rcases List.mem_cons.mp h with h | h
  ·cases h; simp
  ·have hy:y ≠ n:=fun e=>hn.1 (e ▸ (List.of_mem_zip h).1)
   have hb:(y == n) = false:=by simp [hy]
   simp only [hb]
   exact Z2M hn.2 h
theorem Zap:∀ {ns:List Str} {vs:List Value},vs.length = ns.length→∀ y ∈ ns,∃ v,(y,v) ∈ ns.zip vs
 | [],_,_,y,h=>by simp at h
 | n :: ns,[],e,y,h=>by simp at e
 | n :: ns,u :: vs,e,y,h=>by
  rcases List.mem_cons.mp h with rfl | h
  ·exact ⟨u,by simp⟩
  ·refine El.x1_1 (Zap (by simpa using e) y h) fun v hv=>?_
   exact ⟨v,by rw [List.zip_cons_cons]; exact List.mem_cons_of_mem _ hv⟩
theorem Z2h {l:List (Str × Value)}:∀ {ns:List Str} {vs:List Value},vs.length = ns.length→(∀ p ∈ ns.zip vs,l.lookup p.1 = some p.2)→(ns.filterMap fun n=>(l.lookup n).map (n,·)) = ns.zip vs
 | [],_,_,_=>by simp
 | n :: ns,[],e,_=>by simp at e
 | n :: ns,u :: vs,e,h=>by
  have h0:=h (n,u) (by simp)
  dsimp only at h0
  rw [List.filterMap_cons,h0,List.zip_cons_cons]
  dsimp only [Option.map_some]
  rw [Z2h (by simpa using e) fun p hp=>h p (by rw [List.zip_cons_cons]; exact List.mem_cons_of_mem _ hp)]
theorem Z92 {fd:FuncData} {vals:List Value} {names:List Str} (h1:fd.params.posonlyargs = []) (h2:fd.params.kwonlyargs = []) (h3:fd.params.vararg = none) (h4:fd.params.kwarg = none) (h5:fd.params.args.map (·.arg) = names)
  (h6:fd.defaults = .none) (nd:names.Nodup) (hl:vals.length = names.length):bindArgs fd ⟨vals,[]⟩ = pure (names.zip vals):=by
 have hz:∀ p ∈ names.zip vals,(names.zip vals).lookup p.1 = some p.2:=fun p hp=>Z2M nd hp
 have hmiss:(names.filter fun n=>((names.zip vals).lookup n).isNone) = []:=by
  rw [List.filter_eq_nil_iff]
  intro n hn
  refine El.x1_1 (Zap hl n hn) fun v hv=>?_
  rw [Z2M nd hv]; simp
 have hf:=Z2h hl hz
 have hs:seqItems? Value.none = pure none:=rfl
 have hgt:¬ (vals.length > names.length):=hl ▸ Nat.lt_irrefl _
 simp only [bindArgs,h1,h2,h3,h4,h5,h6,hs,List.map_nil,List.nil_append,List.forIn_nil,List.append_nil,pure_bind,Option.getD_none,List.drop_nil,List.length_nil,Nat.sub_zero,List.zip_nil_right,List.take_length,hmiss,hf,List.isEmpty_nil,Bool.not_true,decide_eq_false hgt,Bool.false_and,Bool.false_eq_true,↓reduceIte]
noncomputable def Def.gm (d:Def) (sc:Scope):Gm:=⟨sc,d.locals.zipIdx,List.range d.locals.length,d.globs⟩
noncomputable def mDef (d:Def) (r:DefRec):Bool :=
 (d.name == r.name) && r.params.posonlyargs.isEmpty && r.params.kwonlyargs.isEmpty && r.params.vararg.isNone && r.params.kwarg.isNone && (r.params.args.map (·.arg) == d.params) &&
 (r.scope.kind == .function) && !r.scope.isCoroutine && !r.scope.isGenerator && (d.locals.take d.params.length == d.params) && decide d.locals.Nodup &&
 (d.locals.all fun x=>r.scope.names.lookup x == some .local || r.scope.names.lookup x == some .cell) && okSs (d.gm r.scope) d.body r.body
structure MDef (d:Def) (r:DefRec):Prop where
 name:d.name = r.name
 p1:r.params.posonlyargs = []
 p2:r.params.kwonlyargs = []
 p3:r.params.vararg = none
 p4:r.params.kwarg = none
 args:r.params.args.map (·.arg) = d.params
 kind:r.scope.kind = .function
 co:r.scope.isCoroutine = false
 gen:r.scope.isGenerator = false
 pre:d.locals.take d.params.length = d.params
 nd:d.locals.Nodup
 kinds:∀ x ∈ d.locals,r.scope.names.lookup x = some .local ∨ r.scope.names.lookup x = some .cell
 body:okSs (d.gm r.scope) d.body r.body = true
theorem Z6e {d:Def} {r:DefRec} (h:mDef d r = true):MDef d r:=by
 unfold mDef at h
 simp only [Bool.and_eq_true] at h
 obtain ⟨⟨⟨⟨⟨⟨⟨⟨⟨⟨⟨⟨a1,a2⟩,a3⟩,a4⟩,a5⟩,a6⟩,a7⟩,a8⟩,a9⟩,a10⟩,a11⟩,a12⟩,a13⟩:=h
 refine ⟨eq_of_beq a1,List.isEmpty_iff.mp a2,List.isEmpty_iff.mp a3,Option.isNone_iff_eq_none.mp a4,Option.isNone_iff_eq_none.mp a5,eq_of_beq a6,eq_of_beq a7,by simpa using a8,by simpa using a9,eq_of_beq a10,by simpa using a11,fun x hx=>?_,a13⟩
 have:=List.all_eq_true.mp a12 x hx
 rcases Bool.or_eq_true_iff.mp this with q | q
 ·exact .inl (by simpa using q)
 ·exact .inr (by simpa using q)
noncomputable def ZcS (C:Nat) (defs:List Def) (base:Heap) (mg:Str→Option Value):Prop :=
 ∀ d ∈ defs,∃ (r:DefRec) (a:Addr) (o:Obj) (nm qual:Str) (pm code doc:Value),(mDef d r = true∧pSs d.body r.body = r.body)∧(Z4F d.name = true→mg d.name = some (.ref a))∧(d.name = Z0B→o.cls = .type "function"∧∃ N mN,ClsAt base C N mN∧mN "__init__" = some (.ref a))∧base.get? a = some o ∧
  o.data = .func (methDef nm qual r.params r.body r.scope pm code doc)∧base.CodeRec code qual∧∀ x i,d.globs.lookup x = some i→∃ t,mg x = some (.int i t)
theorem Z4J {kindOf:Str→Option NameKind} {y:Str}:∀ {b:List (Str × Value)} {m:Str→Option Value},(∀ p ∈ b,p.1 ≠ y)→bindL kindOf b m y = m y
 | [],_,_=>rfl
 | (n,v) :: r,m,h=>by
  unfold bindL
  rw [Z4J fun p hp=>h p (by simp [hp])]
  split
  ·have:y ≠ n:=fun e=>h (n,v) (by simp) e.symm
   simp [this]
  ·rfl
theorem Z6f {kindOf:Str→Option NameKind} {y:Str} {v:Value}:∀ {ns:List Str} {vs:List Value} {m:Str→Option Value},ns.Nodup→(y,v) ∈ ns.zip vs→kindOf y = some .local→bindL kindOf (ns.zip vs) m y = some v
 | [],_,_,_,h,_=>by simp at h
 | _ :: _,[],_,_,h,_=>by simp at h
 | n :: ns,u :: vs,m,hn,h,hk=>by
  rw [List.zip_cons_cons] at h ⊢
  rw [List.nodup_cons] at hn
  unfold bindL
  rcases List.mem_cons.mp h with h | h
  ·cases h
   rw [Z4J fun p hp e=>hn.1 (by have q:=(List.of_mem_zip (show (p.1,p.2) ∈ ns.zip vs from hp)).1; rw [e] at q; exact q),if_pos hk]
   simp
  ·exact Z6f hn.2 h hk
theorem Z4K {kindOf:Str→Option NameKind} {y:Str}:∀ {b:List (Str × Value)} {m:Str→Option Value},(∀ p ∈ b,p.1 ≠ y)→bindC kindOf b m y = m y
 | [],_,_=>rfl
 | (n,v) :: r,m,h=>by
  unfold bindC
  rw [Z4K fun p hp=>h p (by simp [hp])]
  split
  ·rfl
  ·have:y ≠ n:=fun e=>h (n,v) (by simp) e.symm
   simp [this]
theorem Z6g {kindOf:Str→Option NameKind} {y:Str} {v:Value}:∀ {ns:List Str} {vs:List Value} {m:Str→Option Value},ns.Nodup→(y,v) ∈ ns.zip vs→kindOf y = some .cell→bindC kindOf (ns.zip vs) m y = some v
 | [],_,_,_,h,_=>by simp at h
 | _ :: _,[],_,_,h,_=>by simp at h
 | n :: ns,u :: vs,m,hn,h,hk=>by
  rw [List.zip_cons_cons] at h ⊢
  rw [List.nodup_cons] at hn
  unfold bindC
  rcases List.mem_cons.mp h with h | h
  ·cases h
   rw [Z4K fun p hp e=>hn.1 (by have q:=(List.of_mem_zip (show (p.1,p.2) ∈ ns.zip vs from hp)).1; rw [e] at q; exact q),if_neg (by rw [hk]; decide)]
   simp
  ·exact Z6g hn.2 h hk
theorem Z2i {y:Str} {i:Nat}:∀ {l:List Str} {k:Nat},(l.zipIdx k).lookup y = some i→k ≤ i∧l[i - k]? = some y
 | [],_,h=>by simp at h
 | n :: r,k,h=>by
  rw [List.zipIdx_cons,List.lookup_cons] at h
  by_cases hy:y = n
  ·subst hy
   simp at h
   subst h
   exact ⟨Nat.le_refl _,by simp⟩
  ·have hb:(y == n) = false:=by simp [hy]
   simp only [hb] at h
   refine El.x0_2 (Z2i h) fun h1 h2=>?_
   refine ⟨by lia,?_⟩
   have:i - k = (i - (k + 1)) + 1:=by lia
   rw [this,List.getElem?_cons_succ]
   exact h2
theorem Z8o {n k:Nat} {μ:List Addr} {a:Addr} (e:μ[k]? = some a) (h:decide (k < n) = true):(μ.take n)[k]? = some a:=by
 rw [List.getElem?_take,if_pos (of_decide_eq_true h)]; exact e
theorem ZcT {T T':Addr→Prop} {μ:List Addr} {n:Nat} {h:Heap} (hT:∀ b,T' b→T b) {v:Value} {x:V} (r:RepV T μ h v x):x.lo n = true→RepV T' (μ.take n) h v x :=
 RepV.rec (motive_1:=fun v x _=>x.lo n = true→RepV T' (μ.take n) h v x) (motive_2:=fun vs xs _=>V.los n xs = true→RepVs T' (μ.take n) h vs xs) (fun _=>.none) (fun b _=>.bool b) (fun i t _=>.int i t) (fun x t h1 h2 _=>.str x t h1 h2)
  (fun ho hc hd hz hq _ ih f=>.tup ho hc hd hz (fun q=>hq (hT _ q)) (ih ((Z0J _).symm.trans f))) (fun ho hc hd hz hq _ ih f=>.lst ho hc hd hz (fun q=>hq (hT _ q)) (ih ((Z0w _).symm.trans f)))
  (fun e f=>.ref (Z8o e ((Z0R _).symm.trans f))) (fun ho hq e f=>.inst ho (fun q=>hq (hT _ q)) (Z8o e ((Z2y _ _).symm.trans f))) (fun _=>.nil)
  (fun {v vs x xs} _ _ a b f=>by
   rw [Z03,Bool.and_eq_true] at f
   exact .cons (a f.1) (b f.2)) r
theorem ZdY {T T':Addr→Prop} {μ:List Addr} {n:Nat} {h:Heap} (hT:∀ b,T' b→T b) {v:List Value} {x:List V} (f:V.los n x = true) (r:RepVs T μ h v x):RepVs T' (μ.take n) h v x :=
 RepVs.ind (M:=fun vs xs=>V.los n xs = true→RepVs T' (μ.take n) h vs xs) (fun _=>.nil) (fun {v vs x xs} a _ b f=>by
   rw [Z03,Bool.and_eq_true] at f
   exact .cons (ZcT hT a f.1) (b f.2)) r f
noncomputable def flV (f:Flow):Value:=match f with | .ret v=>v | _=>.none
theorem ZdZ {st:St} {μ:List Addr} {h:Heap} {f:Flow} {x:Fl} (r:rFl st μ h f x):RepV (Tr st.σ μ) μ h (flV f) x.val:=by
 cases f <;> cases x <;> first | exact .none | exact r | exact r.elim
theorem Inv.trunc {c:Cx} {σ₀ σ:List O} {μ₀ μ:List Addr} {h₀ h:Heap} (I:Inv c.bare ⟨[],σ⟩ μ h) (S:Stp c.bare σ₀ μ₀ h₀ σ μ h) (hl:μ₀.length = σ₀.length) (hf:(σ.take σ₀.length).all (O.lo σ₀.length) = true) {v:Value} {r:V} (hr:r.lo σ₀.length = true) (rv:RepV (Tr σ μ) μ h v r) :
  Inv c.bare ⟨[],σ.take σ₀.length⟩ (μ.take σ₀.length) h∧Stp c.bare σ₀ μ₀ h₀ (σ.take σ₀.length) (μ.take σ₀.length) h∧RepV (Tr (σ.take σ₀.length) (μ.take σ₀.length)) (μ.take σ₀.length) h v r:=by
 have sub:∀ b,Tr (σ.take σ₀.length) (μ.take σ₀.length) b→Tr σ μ b:=by
  intro b q11z
  refine El.x2_3 q11z fun k o e1 e2 e3=>?_
  rw [List.getElem?_take] at e1 e3
  split at e1
  ·rename_i hk
   rw [if_pos hk] at e3
   exact ⟨k,o,e1,e2,e3⟩
  ·try clear e3; try clear e2; try clear k; try clear q11z
   cases e1
 refine ⟨⟨fun i x q=>by simp at q,fun i s q=>(by cases q),fun n o q=>?_,?_,I.nd.sublist (List.take_sublist _ _),fun a q=>I.lt a (List.mem_of_mem_take q),I.base,fun b q=>(Z0C q).elim,fun a q=>I.baseM a (List.mem_of_mem_take q),fun b q=>(Z0C q).elim,fun o q=>I.kd o (List.mem_of_mem_take q)⟩,
  ⟨S.size,S.keep,fun n a e=>?_,fun b q=>S.tr b (sub b q),fun a q=>S.new a (List.mem_of_mem_take q),fun n e=>?_,S.pk⟩,ZcT sub rv hr⟩
 ·dsimp only at q ⊢
  have hof:o.lo σ₀.length = true:=List.all_eq_true.mp hf o (List.mem_of_getElem? q)
  rw [List.getElem?_take] at q
  split at q
  ·rename_i hk
   refine El.x1_2 (I.objs n o q) fun a ha ro=>?_
   refine ⟨a,by rw [List.getElem?_take,if_pos hk]; exact ha,?_⟩
   try clear ha; try clear e1; try clear o; try clear b
   cases ro with
   | dead=>exact .dead
   | priv=>exact .priv
   | live ho L r=>exact .live ho L (ZdY sub (by cases L <;> exact hof) r)
  ·try clear ro; try clear hof; try clear sub
   cases q
 ·have:=I.len
  simp at this ⊢
  lia
 ·have hk:n < σ₀.length:=by rw [← hl]; exact (List.getElem?_eq_some_iff.mp e).1
  rw [List.getElem?_take,if_pos hk]
  exact S.pre n a e
 ·have hk:n < σ₀.length:=(List.getElem?_eq_some_iff.mp e).1
  rw [List.getElem?_take,if_pos hk]
  exact S.pv n e
section
variable {prog:Program} {w:World} {base:Heap} {mg mb:Str→Option Value} {defs:List Def} {K:Nat}
noncomputable def slOf (d:Def) (sc:Scope) (L:Addr) (cells:List (Str × Addr)) (i:Nat):Option Slot :=
 match d.locals[i]? with
 | some x=>if sc.names.lookup x = some .local then some (.d L x) else (cells.lookup x).map Slot.c
 | none=>none
theorem ZcU {d:Def} {sc:Scope} {L:Addr} {cells:List (Str × Addr)} {i:Nat} {x:Str} (hi:d.locals[i]? = some x) (k:sc.names.lookup x = some .local):slOf d sc L cells i = some (.d L x):=by
 unfold slOf
 rw [hi]; exact if_pos k
theorem ZcV {d:Def} {sc:Scope} {L b:Addr} {cells:List (Str × Addr)} {i:Nat} {x:Str} (hi:d.locals[i]? = some x) (k:sc.names.lookup x = some .cell) (hb:cells.lookup x = some b):slOf d sc L cells i = some (.c b):=by
 unfold slOf
 rw [hi]; dsimp only; rw [if_neg (by rw [k]; intro e; cases e),hb]; rfl
theorem Zcb {d:Def} {sc:Scope} {L:Addr} {cells:List (Str × Addr)} {i:Nat} {sl:Slot} (hk:∀ x ∈ d.locals,sc.names.lookup x = some .local ∨ sc.names.lookup x = some .cell) (q:slOf d sc L cells i = some sl) :
  ∃ x,d.locals[i]? = some x∧((sc.names.lookup x = some .local∧sl = .d L x) ∨ (sc.names.lookup x = some .cell∧∃ b,cells.lookup x = some b∧sl = .c b)):=by
 unfold slOf at q
 cases hx:d.locals[i]? with
 | none=>rw [hx] at q; cases q
 | some x=>
  rw [hx] at q
  refine ⟨x,rfl,(hk x (List.mem_of_getElem? hx)).imp (fun k=>⟨k,?_⟩) fun k=>⟨k,?_⟩⟩
  ·dsimp only at q; rw [if_pos k] at q; exact (Option.some.inj q).symm
  ·dsimp only at q; rw [if_neg (by rw [k]; intro e; cases e)] at q
   exact El.x1_2 (Option.map_eq_some_iff.mp q) fun b hb e=>⟨b,hb,e.symm⟩
variable {C:Nat}
theorem ZcW {CH:Nat × (Option (List Int) × Str→Int)} (W:Wd prog w base mg mb) {n:Nat} (ih:FnOk n prog w base mg (Z0c CH defs K n)) {d:Def} {rc:DefRec} {a:Addr} {o:Obj} {nm qual:Str} {pm code doc:Value} (hm:mDef d rc = true∧pSs d.body rc.body = rc.body) (g2:base.get? a = some o)
  (g3:o.data = .func (methDef nm qual rc.params rc.body rc.scope pm code doc)) (g4:base.CodeRec code qual) (g5:∀ x i,d.globs.lookup x = some i→∃ t,mg x = some (.int i t)) {args:List V} {σ:List O} {r:V} {st':St} (h:Z0a (Z0c CH defs K n) K d args σ = .ok r st') :
  Does (n + 1) prog w base (.ref a) args σ r st':=by
 have M:=Z6e hm.1
 unfold Does
 intro c μ s vs e1 e2 e3 hA I rvs
 unfold Z0a at h
 split at h
 case isFalse=>cases h
 rename_i hlen
 have hvl:vs.length = d.params.length:=by rw [rvs.length]; exact hlen
 have hpn:d.params.Nodup:=by rw [← M.pre]; exact M.nd.sublist (List.take_sublist _ _)
 cases hB:evSs (Z0c CH defs K n) K d.body ⟨args.map some++List.replicate (d.slots - args.length) none,σ⟩ with
 | stuck=>rw [hB] at h; cases h
 | exc _ _=>rw [hB] at h; cases h
 | ok fl stF=>
  rw [hB] at h
  simp only [R.bind_ok] at h
  subst e1 e2 e3
  have hbk:∀ b o,c.base.get? b = some o→s.heap.get? b = some o:=I.base
  refine wpAny_call (codeAny_call_cells (fd:=methDef nm qual rc.params rc.body rc.scope pm code doc) (body:=rc.body) (binds:=d.params.zip vs) (by have:=hA.depth; lia) (hbk _ _ g2) g3 (W.nolimit.keeps hbk) (g4.keeps hbk) rfl
   (Z92 M.p1 M.p2 M.p3 M.p4 M.args rfl hpn hvl) rfl (fun x hx=>?_) (fun s₁ X=>?_) M.co M.gen M.kind)
  ·have hx':x.1 ∈ d.locals:=by
    have:=(List.of_mem_zip (show (x.1,x.2) ∈ _ from hx)).1
    rw [← M.pre] at this
    exact List.mem_of_mem_take this
   rcases M.kinds _ hx' with q | q
   ·exact .inl q
   ·exact .inr ⟨q,PySem.W.cellsFrom_some _ _ _ (.inl q)⟩
  ·generalize henv:callEnvC (methDef nm qual rc.params rc.body rc.scope pm code doc) s.heap.objs.size a = env' at X ⊢
   have hL:env'.locals = s.heap.objs.size:=by rw [← henv]; rfl
   have hsc:env'.scope = rc.scope:=by rw [← henv]; rfl
   have hcl:env'.cells = cellsFrom (s.heap.objs.size + 1) rc.scope.names []:=by rw [← henv]; rfl
   have hgl:env'.globals = mainGlobals:=by rw [← henv]; rfl
   have hbl:env'.builtins = builtinsNs:=by rw [← henv]; rfl
   have hko:∀ x,env'.kindOf x = rc.scope.names.lookup x:=fun x=>by unfold Env.kindOf; rw [hsc]
   have hns:=X.toInCall.ns
   have hLlt:s.heap.objs.size < s₁.heap.objs.size:=by obtain ⟨o,_,_,ho,_⟩:=hns; rw [← hL]; exact Heap.lt_size ho
   have XE:Ext s.heap s₁.heap:=⟨Nat.le_of_lt hLlt,X.toInCall.keep⟩
   let c':Cx:={ prog:=c.prog,w:=c.w,base:=c.base,A:=c.A.deeper env',env:=env',sl:=slOf d rc.scope env'.locals env'.cells }
   have slv:∀ i sl,c'.sl i = some sl→∃ x,d.locals[i]? = some x∧((rc.scope.names.lookup x = some .local∧sl = .d env'.locals x) ∨ (rc.scope.names.lookup x = some .cell∧∃ b,env'.cells.lookup x = some b∧sl = .c b)):=fun i sl q=>Zcb M.kinds q
   have ownGe:∀ b,Own c' b→s.heap.objs.size ≤ b:=by
    intro b q13z
    refine El.x2_2 q13z fun i sl q q14z=>?_
    try clear q13z
    obtain rfl:=q14z
    obtain ⟨x,_,⟨_,rfl⟩ | ⟨_,b,hb,rfl⟩⟩:=slv i sl q
    ·exact Nat.le_of_eq hL.symm
    ·have:=X.above x b (mem_of_lookup hb)
     rw [hL] at this
     exact Nat.le_of_lt this
   have cellOk:∀ x b,env'.cells.lookup x = some b→s₁.heap.IsCell b (bindC env'.kindOf (d.params.zip vs) (fun _=>none) x):=fun x b hb=>X.cell x b hb
   have I₁:Inv c' ⟨args.map some++List.replicate (d.slots - args.length) none,σ⟩ μ s₁.heap:=by
    refine ⟨fun i x q=>?_,fun i sl q=>?_,(I.ext XE).objs,I.len,I.nd,(I.ext XE).lt,(I.ext XE).base,fun b q=>?_,I.baseM,fun b q m=>?_,I.kd⟩
    ·dsimp only at q ⊢
     have hi:i < args.length:=by
      by_cases hi:i < args.length
      ·exact hi
      ·rw [List.getElem?_append_right (by simpa using Nat.le_of_not_lt hi)] at q
       rw [List.getElem?_replicate] at q
       split at q <;> simp at q
     rw [List.getElem?_append_left (by simpa using hi)] at q
     have hax:args[i]? = some x:=by simpa [hi] using q
     refine El.x1_2 (rvs.get hax) fun v hv rv=>?_
     have hip:i < d.params.length:=by rw [← hlen]; exact hi
     obtain ⟨p,hp⟩:∃ p,d.params[i]? = some p:=⟨d.params[i],by simp [hip]⟩
     have hlp:d.locals[i]? = some p:=by
      have:(d.locals.take d.params.length)[i]? = some p:=by rw [M.pre]; exact hp
      rw [List.getElem?_take,if_pos hip] at this
      exact this
     have hz:(p,v) ∈ d.params.zip vs:=List.mem_of_getElem? (i:=i) (by rw [List.getElem?_zip_eq_some]; exact ⟨hp,hv⟩)
     rcases M.kinds p (List.mem_of_getElem? hlp) with k | k
     ·refine ⟨.d env'.locals p,v,?_,⟨_,hns,Z6f hpn hz (by rw [hko]; exact k)⟩,rv.ext XE⟩
      exact ZcU hlp k
     ·refine El.x1_1 (Option.isSome_iff_exists.mp (PySem.W.cellsFrom_some (x:=p) rc.scope.names (s.heap.objs.size + 1) [] (.inl k))) fun b hb=>?_
      rw [← hcl] at hb
      refine ⟨.c b,v,?_,?_,rv.ext XE⟩
      ·exact ZcV hlp k hb
      ·have:=cellOk p b hb
       rw [Z6g hpn hz (by rw [hko]; exact k)] at this
       exact this
    ·obtain ⟨x,_,⟨_,rfl⟩ | ⟨_,b,hb,rfl⟩⟩:=slv i sl q
     ·exact ⟨_,hns⟩
     ·exact ⟨_,cellOk x b hb⟩
    ·show c.base.get? b = none
     cases hq:c.base.get? b with
     | none=>rfl
     | some ob=>exact absurd (Nat.lt_of_lt_of_le (Heap.lt_size (hbk b ob hq)) (ownGe b q)) (Nat.lt_irrefl _)
    ·exact Nat.lt_irrefl _ (Nat.lt_of_lt_of_le (I.lt b m) (ownGe b q))
   refine El.x1_1 hA.frames fun lf hlf=>?_
   have hfr:(c.A.deeper env').frames = some (env' :: lf):=Around.frames_deeper hlf
   have hdp:(c.A.deeper env').depth = c.A.depth + 1:=rfl
   have hun:(c.A.deeper env').units = c.A.units + 3:=rfl
   have hA':AOk n c'.A:=⟨hA.hh,by show c.A.depth + 1 + n + 110 ≤ _; have:=hA.depth; lia,by show c.A.units + 3 + 4 * n + 200 ≤ _; have:=hA.units; lia,_,hfr⟩
   have hG:Good ⟨n,mg,mb,Z0c CH defs K n⟩ c' (d.gm rc.scope):=by
    refine ⟨⟨fun t ht=>?_,hA.hh,by show c.A.units + 3 + 100 < _; have:=hA.units; lia,let ⟨mm,⟨o,_,_,ho,_⟩,_⟩:=W.seer.mods; ⟨o,ho⟩⟩,W.gd,⟨hsc,M.kind,hgl,hbl,fun x i hx=>?_,fun i j sl q1 q2=>?_,fun i sl q=>?_,fun x hx=>?_⟩,hA',g5,ih⟩
    ·refine PylongRoom.of (W.nolimit.keeps ht) (by show c.A.depth + 1 + 100 < _; have:=hA.depth; lia) (SeerAt.of (W.seer.keeps ht) W.tree hfr ?_ ?_ hbl hgl)
     ·rw [hsc]; exact M.gen
     ·rw [hsc]; exact M.co
    ·refine El.x0_2 (Z2i hx) fun _ hi=>?_
     rw [Nat.sub_zero] at hi
     rcases M.kinds x (List.mem_of_getElem? hi) with k | k
     ·exact .inl ⟨k,ZcU hi k⟩
     ·refine El.x1_1 (Option.isSome_iff_exists.mp (PySem.W.cellsFrom_some (x:=x) rc.scope.names (s.heap.objs.size + 1) [] (.inl k))) fun b hb=>?_
      rw [← hcl] at hb
      exact .inr ⟨k,b,hb,ZcV hi k hb⟩
    ·refine El.x1_2 (slv i sl q1) fun x hx h1=>?_
     refine El.x1_2 (slv j sl q2) fun y hy h2=>?_
     have hxy:x = y:=by
      try clear y; try clear q2; try clear q1; try clear j; try clear ht; try clear t; try clear hun; try clear hdp; try clear hfr; try clear hlf; try clear lf; try clear hz
      rcases h1 with ⟨_,rfl⟩ | ⟨_,b,hb,rfl⟩ <;> rcases h2 with ⟨_,e⟩ | ⟨_,b',hb',e⟩
      ·cases e; rfl
      ·try clear h2; try clear h1; try clear hlp; try clear hp; try clear p; try clear hip; try clear hv; try clear v; try clear hax; try clear hi; try clear m; try clear cellOk
       cases e
      ·try clear q14z; try clear ho; try clear o; try clear hns; try clear hko; try clear hbl; try clear hgl; try clear hsc; try clear hL; try clear hbk; try clear hpn; try clear rvs
       cases e
      ·cases e; exact name_of_addr X.apart (mem_of_lookup hb) (mem_of_lookup hb')
     try clear hA; try clear vs
     subst hxy
     exact (List.getElem?_inj (List.getElem?_eq_some_iff.mp hx).1 M.nd).mp (hx.trans hy.symm)
    ·refine El.x1_2 (slv i sl q) fun x hx _=>?_
     exact List.mem_range.mpr (List.getElem?_eq_some_iff.mp hx).1
    ·refine El.x1_1 (Option.isSome_iff_exists.mp (PySem.W.cellsFrom_some (x:=x) rc.scope.names (s.heap.objs.size + 1) [] (.inl hx))) fun b hb=>?_
     rw [← hcl] at hb
     exact ⟨b,hb⟩
   have hS:=Zfr (K:=K) d.body (d.gm rc.scope) rc.body c' _ μ s₁ M.body hG I₁
   dsimp only at hS
   rw [hm.2] at hS
   rw [hB] at hS
   refine wpAny_mono hS (fun fw s' q8=>El.x1_4 q8 fun μ' rf I' S' Q'=>?_) fun _ _ e=>e.elim
   have Ib:Inv c.bare ⟨[],stF.σ⟩ μ' s'.heap:=⟨fun i x q=>by simp at q,fun i sl q=>(by cases q),I'.objs,I'.len,I'.nd,I'.lt,I'.base,fun b q=>(Z0C q).elim,I'.baseM,fun b q=>(Z0C q).elim,I'.kd⟩
   have Sb:Stp c.bare σ μ s.heap stF.σ μ' s'.heap:=Stp.inner (Stp.ext XE) S' fun b q=>.inr (ownGe b q)
   refine El.x2_2 X.toInCall.done fun hh₁ tk₁ e₁ _=>?_
   have Qb:Same s s':=Same.trans (s':=s₁) (by rw [e₁]; exact ⟨rfl,rfl,rfl⟩) Q'
   have rv:=ZdZ rf
   change ∃ μ',RepV _ _ _ (flV fw) _∧_
   split at h
   ·rename_i hfree
    simp only [Bool.and_eq_true] at hfree
    try clear e₁; try clear tk₁; try clear hh₁; try clear Q'; try clear S'; try clear I'; try clear rf; try clear μ'; try clear hS; try clear hxy; try clear hy; try clear hG
    cases h
    refine El.x0_3 (Ib.trunc Sb I.len hfree.2 hfree.1 rv) fun I₂ S₂ r₂=>?_
    exact ⟨_,r₂,I₂,S₂,Qb⟩
   ·try clear r₂; try clear S₂; try clear I₂; try clear I₁; try clear ownGe; try clear hb; try clear b; try clear q; try clear sl; try clear i; try clear slv; try clear XE
    cases h
    exact ⟨_,rv,Ib,Sb,Qb⟩
end
theorem Z2N (C:Nat) (H:Option (List Int) × Str→Int) (defs:List Def) (K n:Nat):clsF (Z0c (C,H) defs K (n + 1)) = some (C:Int):=by
 unfold clsF
 rw [Z4W]
 rfl
theorem AOk.make {n:Nat} {A:Around} (h:AOk (n + 1) A) (C:Addr):AOk n (A.under (.builtin "type.__call__" ⟨[.ref C],[]⟩)):=by
 have hu:(Code.builtin "type.__call__" ⟨[.ref C],[]⟩).cUnits = 1:=rfl
 refine El.x1_1 h.frames fun l hl=>?_
 refine ⟨h.hh,?_,?_,⟨l,by unfold Around.under; dsimp only; rw [hl]; rfl⟩⟩
 ·show A.depth + 1 + n + 110 ≤ _
  have:=h.depth; lia
 ·have:=h.units
  show A.units + (Code.builtin "type.__call__" ⟨[.ref C],[]⟩).cUnits + 4 * n + 200 ≤ _
  rw [hu]; lia
section
variable {prog:Program} {w:World} {base:Heap} {mg mb:Str→Option Value} {defs:List Def} {K:Nat} {C:Nat}
theorem Inv.make {c:Cx} {σ:List O} {μ:List Addr} {h:Heap} (I:Inv c ⟨[],σ⟩ μ h):Inv c ⟨[],σ++[.attrs []]⟩ (μ++[h.objs.size]) (newH h C)∧Stp c σ μ h (σ++[.attrs []]) (μ++[h.objs.size]) (newH h C) ∧
  RepV (Tr (σ++[.attrs []]) (μ++[h.objs.size])) (μ++[h.objs.size]) (newH h C) (.ref (h.objs.size + 1)) (.inst C σ.length):=by
 obtain ⟨I₁,S₁⟩:=I.track (o:={ cls:=.type "dict",data:=.dict #[] }) (ob:=.attrs []) rfl rfl trivial fun T hT=>.live (Heap.get?_push_size _ rfl) (.attrs (vs:=[]) ⟨#[],0,rfl,fun _ he=>absurd he (by simp),.nil,fun _=>by rw [List.zip_nil_right]; rfl⟩ (Nat.zero_le _)) .nil
 have X:Ext (h.push { cls:=.type "dict",data:=.dict #[] }) (newH h C):=.push _
 have hget:(newH h C).get? (h.objs.size + 1) = some { cls:=.ref C,dict:=some h.objs.size,data:=.plain }:=by
  have:=Heap.get?_push_size (h.push { cls:=.type "dict",data:=.dict #[] }) (o:={ cls:=.ref C,dict:=some h.objs.size,data:=.plain }) rfl
  rwa [Heap.size_push] at this
 refine ⟨I₁.ext X,S₁.trans (.ext X),.inst hget (fun q=>?_) (by rw [← I.len]; simp)⟩
 have:=I₁.lt _ q.mem
 rw [Heap.size_push] at this
 exact Nat.lt_irrefl _ this
theorem Z6h {CH:Nat × (Option (List Int) × Str→Int)} {n:Nat} {f:Str} {args:List V} {σ:List O} {r:V} {st':St} (h1:f ≠ Z0g) (h:Z0c CH defs K (n + 1) f args σ = .ok r st'):∃ d,d ∈ defs∧d.name = f∧Z0a (Z0c CH defs K n) K d args σ = .ok r st':=by
 have h:(if f = Z0g then _ else _:R V) = .ok r st':=h
 rw [if_neg h1] at h
 exact Z0j h fun d hd h=>⟨d,List.mem_of_find?_eq_some hd,by have q:=List.find?_some hd; exact eq_of_beq q,h⟩
theorem Zaq {f:Str} (h:Z4F f = true):f ≠ Z0g:=by
 unfold Z4F at h
 rw [Bool.and_eq_true,Bool.not_eq_true',Bool.not_eq_true',beq_eq_false_iff_ne,beq_eq_false_iff_ne] at h
 exact h.1
noncomputable def ZcX (n:Nat) (prog:Program) (w:World) (base:Heap) (C:Nat) (F:Fn):Prop :=
 ∀ args σ r st',F Z0B args σ = .ok r st'→∃ a o,base.get? a = some o∧o.cls = .type "function"∧(∃ N mN,ClsAt base C N mN∧mN "__init__" = some (.ref a))∧Does n prog w base (.ref a) args σ r st'
theorem ZeU {F:Fn} {n:Nat} (ih:ZcX n prog w base C F) {σ:List O} {r:V} {st':St} (h:newR C F σ = .ok r st'):Does (n + 1) prog w base (.ref C) [] σ r st':=by
 unfold Does
 intro c μ s vs e1 e2 e3 hA I rvs
 have ev:vs = []:=rvs.out
 refine El.x2_2 (R.bind_inv h) fun r0 st₀ h1 h2=>?_
 obtain ⟨rfl,rfl,rfl⟩:r0 = .none∧r = .inst C σ.length∧st' = st₀:=by
  cases r0 <;> first | exact ⟨rfl,ok1 h2,ok2 h2⟩ | cases h2
 refine El.x2_4 (ih _ _ _ _ h1) fun a o k1 k2 q0z hcall=>El.x2_2 q0z fun N mN X k3=>El.x0_3 (I.make (C:=C)) fun I₁ S₁ r₁=>?_
 subst e1 e2 e3 ev
 have:=hcall { c with A:=c.A.under (.builtin "type.__call__" ⟨[.ref C],[]⟩) } (μ++[s.heap.objs.size]) { s with heap:=newH s.heap C } [.ref (s.heap.objs.size + 1)] rfl rfl rfl (hA.make C) ⟨I₁.vars,I₁.slots,I₁.objs,I₁.len,I₁.nd,I₁.lt,I₁.base,I₁.baseS,I₁.baseM,I₁.sep,I₁.kd⟩ (.cons r₁ .nil)
 clear hcall h h1 h2 ih
 obtain ⟨hp,gg,dd,tt,os⟩:=s
 refine Zca (X.keeps I.base) k3 (I.base _ _ k1) k2 (wpAny_mono this (fun v s' q8=>El.x1_4 q8 fun μ' q1 q2 q3 q4=>?_) fun _ _ e=>e.elim)
 clear this
 have S₂:Stp c.bare (σ++[.attrs []]) (μ++[hp.objs.size]) (newH hp C) st'.σ μ' s'.heap:=⟨q3.size,fun b o e _ h2=>q3.keep b o e Z0C h2,q3.pre,q3.tr,q3.new,q3.pv,q3.pk⟩
 have I₂:Inv c.bare ⟨[],st'.σ⟩ μ' s'.heap:=⟨q2.vars,q2.slots,q2.objs,q2.len,q2.nd,q2.lt,q2.base,q2.baseS,q2.baseM,q2.sep,q2.kd⟩
 exact ⟨q1.none_inv,μ',RepV.step (st:=⟨[],σ++[.attrs []]⟩) (st':=⟨[],st'.σ⟩) I₁ S₂ r₁,I₂,S₁.trans S₂,q4⟩
theorem Zfs (W:Wd prog w base mg mb) (hD:ZcS C defs base mg) (hC:mg Z0g = some (.ref C)∧Z66 base C):∀ n,FnOk n prog w base mg (Z0c (C,fun _=>0) defs K n)∧ZcX n prog w base C (Z0c (C,fun _=>0) defs K n):=by
 intro n
 induction n with
 | zero=>exact ⟨⟨fun f args σ r st' h=>(by cases h),fun C h=>(by cases h),fun σ r st' h=>(by cases h)⟩,fun args σ r st' h=>(by cases h)⟩
 | succ n ih=>
  refine ⟨⟨fun f args σ r st' h hpl=>?_,fun C' h=>?_,fun σ r st' h=>⟨C,hC.1,hC.2,ZeU ih.2 h⟩⟩,fun args σ r st' h=>?_⟩
  ·refine El.x1_3 (Z6h (Zaq hpl) h) fun d hmem hname h=>El.x8_7 (hD d hmem) fun rc a o nm qual pm code doc hm g1 _ g2 g3 g4 g5=>?_
   exact ⟨a,o,_,by rw [← hname]; exact g1 (by rw [hname]; exact hpl),g2,g3,ZcW W ih.1 hm g2 g3 g4 g5 h⟩
  ·rw [Z2N] at h
   have:C = C':=Int.ofNat.inj (Option.some.inj h)
   exact this ▸ hC.2
  ·refine El.x1_3 (Z6h (show Z0B ≠ Z0g by decide) h) fun d hmem hname h=>El.x8_7 (hD d hmem) fun rc a o nm qual pm code doc hm _ g1 g2 g3 g4 g5=>?_
   exact ⟨a,o,g2,(g1 hname).1,(g1 hname).2,ZcW W ih.1 hm g2 g3 g4 g5 h⟩
end
end Mine
namespace Mine
open PySem PySem.Calls PyProof.Rows PySem.W
noncomputable def ZcY (q:Program) (loose:List Str) (x:Str):Bool :=
 !startupNames.contains x && !(looseW q loose).contains x && !((recsOf q).map (·.name)).contains x && !((litsOf q).map (·.1)).contains x && !((clssOf q (looseW q loose)).map (·.name)).contains x
noncomputable def bltNames:List String:=["isinstance","len","int","bool","list","tuple","str","range","enumerate","zip","set","sorted","min","max"]
noncomputable def ZcZ (q:Program) (d:Def):Bool:=d.globs.all fun p=>match valOf q p.1 with | some (.int j)=>decide (j = p.2) | _=>false
noncomputable def Ze0 (q:Program):=(plainsOf q (looseW q [])).find? fun c=>c.name == Z0g
noncomputable def Z7h (q:Program):Option DefRec:=(Ze0 q).bind fun c=>(c.meths.find? fun m=>m.name == ("__init__":Str)).map fun m=>⟨Z0B,m.params,m.body,m.scope,⟨0,0,0,0⟩⟩
noncomputable def Zar (q:Program) (d:Def):Option DefRec:=if d.name == Z0B then Z7h q else (recsOf q).find? fun r=>r.name == d.name
noncomputable def Zft (q:Program) (d:Def):Bool:=(Zar q d).any (fun r=>mDef d r) && ZcZ q d
noncomputable def Ze1 (q:Program) (defs:List Def):Bool :=
 (defs.all fun d=>Zft q d) && (defs.any fun d=>d.name == Z0B) && ((bltNames.all fun x=>ZcY q [] (Str.ofString x)) && importsNone q) && (Ze0 q).any fun c=>attrNames.all fun y=>decide (y ∈ c.quiet)
noncomputable def eqOk (q:Program) (defs:List Def):Prop:=(defs.map fun d=>(Zar q d).map fun r=>pSs d.body r.body) = defs.map fun d=>(Zar q d).map fun r=>r.body
theorem Zfu {q:Program} {defs:List Def} (h:eqOk q defs) {d:Def} (hd:d ∈ defs) {r:DefRec} (e:Zar q d = some r):pSs d.body r.body = r.body:=by
 have:=List.map_inj_left.mp h d hd
 rw [e] at this
 exact Option.some.inj this
theorem Zas {α:Type} {o:Option α} {k:α→Bool} (h:o.any k = true):∃ a,o = some a∧k a = true:=by
 cases o with
 | none=>cases h
 | some a=>exact ⟨a,rfl,h⟩
theorem Ze2 {q:Program} {w:World} {R:WRecords} {XP:(Str→Option Value)→Heap→Prop} {s₀:Shared} {mg mb:Str→Option Value} {h:Heap} (G:Ground q [] R XP w s₀ mg mb h) (ok:((Ze0 q).any fun c=>attrNames.all fun y=>decide (y ∈ c.quiet)) = true) :
  ∃ C,mg Z0g = some (.ref C)∧Z66 h C∧∀ r,Z7h q = some r→∃ (a:Addr) (o:Obj) (nm qual:Str) (pm code doc:Value),(o.cls = .type "function"∧∃ N mN,ClsAt h C N mN∧mN "__init__" = some (.ref a))∧h.get? a = some o∧o.data = .func (methDef nm qual r.params r.body r.scope pm code doc)∧h.CodeRec code qual:=by
 refine El.x1_2 (Zas ok) fun c hc hq=>?_
 have hn:c.name = Z0g:=eq_of_beq (List.find?_some (p:=fun c:ClsRec=>c.name == Z0g) hc)
 refine El.x3_2 (G.TE c (List.mem_of_find?_eq_some hc)) fun C N mN k1 P=>?_
 have P:=P.ofCmp
 rw [hn] at k1
 refine ⟨C,k1,⟨N,mN,P.cls,P.quiet _ (List.mem_append_left _ (by simp)),P.quiet _ (List.mem_append_left _ (by simp)),fun y hy=>P.quiet _ (of_decide_eq_true (List.all_eq_true.mp hq y hy))⟩,fun r hr=>?_⟩
 unfold Z7h at hr
 rw [hc] at hr
 refine El.x1_2 (Option.map_eq_some_iff.mp hr) fun m hm e=>?_
 subst e
 have hm2:=List.find?_some hm
 have hm2:m.name = ("__init__":Str):=eq_of_beq hm2
 refine El.x5_5 (P.meths m (List.mem_of_find?_eq_some hm)) fun f o pm cd doc g1 g2 g3 g4 g5=>?_
 exact ⟨f,o,_,_,pm,cd,doc,⟨g3,N,mN,P.cls,by rw [← hm2]; exact g1⟩,g2,g4,g5⟩
theorem Zat {q:Program} {w:World} {R:WRecords} {XP:(Str→Option Value)→Heap→Prop} {s₀:Shared} {mg mb:Str→Option Value} {h:Heap} (G:Ground q [] R XP w s₀ mg mb h) {d:Def} (hd:ZcZ q d = true):∀ x i,d.globs.lookup x = some i→∃ t,mg x = some (.int i t):=fun x i hx=>by
 have:=List.all_eq_true.mp hd (x,i) (mem_of_lookup hx)
 dsimp only at this
 cases hv:valOf q x with
 | none=>rw [hv] at this; cases this
 | some dd=>
  rw [hv] at this
  cases dd <;> try (cases this; done)
  have e:=of_decide_eq_true this
  subst e
  refine El.x1_2 (G.T.const x _ hv) fun v h1 h2=>?_
  cases h2 h with
  | int i t=>exact ⟨t,h1⟩
theorem Zfv {q prog:Program} {w:World} {R:WRecords} {XP:(Str→Option Value)→Heap→Prop} {s₀:Shared} {mg mb:Str→Option Value} {h:Heap} {defs:List Def} (G:Ground q [] R XP w s₀ mg mb h) (ok:Ze1 q defs = true) (eq:eqOk q defs) (ht:prog.given.tree = none) :
  Wd prog w h mg mb∧∃ C,ZcS C defs h mg∧mg Z0g = some (.ref C)∧Z66 h C:=by
 refine El.x0_2 (and2 ok) fun ok h4=>?_
 refine El.x0_2 (and2 ok) fun ok h23=>?_
 refine El.x0_2 (and2 ok) fun h1 h0=>?_
 have T:=G.T
 refine ⟨⟨⟨T.g,T.b,T.builtins,fun x hx=>?_⟩,T.seer (and2 h23).2,T.nolimit,ht⟩,?_⟩
 ·have:=List.all_eq_true.mp (and2 h23).1 x hx
  unfold ZcY at this
  simp only [Bool.and_eq_true,Bool.not_eq_true',List.contains_eq_mem,decide_eq_false_iff_not] at this
  exact T.free _ this.1.1.1.1 this.1.1.1.2 this.1.1.2 this.1.2 this.2
 ·refine El.x1_3 (Ze2 G h4) fun C k1 k2 hi=>?_
  refine ⟨C,fun d hd=>?_,k1,k2⟩
  refine El.x0_2 (and2 (List.all_eq_true.mp h1 d hd)) fun hr hgl=>?_
  refine El.x1_2 (Zas hr) fun r hr hm=>?_
  have he:=Zfu eq hd hr
  unfold Zar at hr
  by_cases hn:d.name = Z0B
  ·rw [if_pos (beq_iff_eq.mpr hn)] at hr
   obtain ⟨a,o,nm,qual,pm,code,doc,g1,g2,g3,g4⟩:=hi r hr
   exact ⟨r,a,o,nm,qual,pm,code,doc,⟨hm,he⟩,fun hp=>by rw [hn] at hp; exact absurd hp (by decide),fun _=>g1,g2,g3,g4,Zat G hgl⟩
  ·rw [if_neg fun e=>hn (beq_iff_eq.mp e)] at hr
   refine El.x5_4 (T.fn r (List.mem_of_find?_eq_some hr)) fun a o pm code doc g1 g2 g3 g4=>?_
   exact ⟨r,a,o,r.name,r.name,pm,code,doc,⟨hm,he⟩,fun _=>by rw [(Z6e hm).name]; exact g1,fun e=>absurd e hn,g2,g3,g4,Zat G hgl⟩
theorem Z36 {R:WRecords}:∀ {xs:List WData},WShape.hasItems R xs .int = true→∃ is:List Int,xs = is.map .int
 | [],_=>⟨[],rfl⟩
 | x :: xs,h=>by
  have h:(WShape.has R x .int && WShape.hasItems R xs .int) = true:=h
  rw [Bool.and_eq_true] at h
  refine El.x1_1 (Z36 h.2) fun is q6z=>?_
  obtain rfl:=q6z
  have hx:=h.1
  cases x <;> try (exact absurd hx Bool.false_ne_true)
  exact ⟨_ :: is,rfl⟩
theorem Ze3 {l:OpenLaw} {args:List WData} (hm:l.most = some 63) (h:l.row.toRowW.claim.pre args = true):∃ is:List Int,args = [.list (is.map .int)]∧is.length ≤ 63:=by
 unfold RowW.claim at h
 simp only [Bool.and_eq_true] at h
 refine El.x0_2 h fun h1 h2=>?_
 have ha:l.row.toRowW.args = [.list .int]:=rfl
 rw [ha] at h1
 rcases args with _ | ⟨x,_ | ⟨y,r⟩⟩
 ·exact absurd h1 Bool.false_ne_true
 ·have h1:(WShape.has _ x (.list .int) && true) = true:=h1
  rw [Bool.and_eq_true] at h1
  have hx:=h1.1
  cases x <;> try (exact absurd hx Bool.false_ne_true)
  rename_i xs _
  have hx:(WShape.hasItems _ xs .int || false) = true:=hx
  rw [Bool.or_false] at hx
  refine El.x1_1 (Z36 hx) fun is q7z=>?_
  try clear hx; try clear ha
  obtain rfl:=q7z
  refine ⟨is,rfl,?_⟩
  have hp:l.row.toRowW.pre = l.pre:=rfl
  rw [hp] at h2
  by_cases hle:is.length ≤ 63
  ·exact hle
  ·exfalso
   have:(63:Int) < (is.length:Int):=by omega
   unfold WTm.holds at h2
   rw [show WTm.value _ l.pre _ = some (.bool false) from by unfold OpenLaw.pre; simp [hm,WTm.value,less?,Num.less?,this]] at h2
   cases h2
 ·have h1:(WShape.has _ x (.list .int) && false) = true:=h1
  rw [Bool.and_false] at h1
  exact absurd h1 Bool.false_ne_true
theorem Z8p {R:WRecords} {cl:Str→Option Addr} {h:Heap} {T:Addr→Prop} {μ:List Addr}:∀ {vs:List Value} {is:List Int} {as:List Addr},ReadsAllW R cl h vs (is.map .int) as→RepVs T μ h vs (is.map .int)
 | _,[],_,r=>by cases r; exact .nil
 | _,i :: is,_,r=>by
  cases r with
  | cons a b=>
   cases a with
   | int _ t=>exact .cons (.int i t) (Z8p b)
theorem law_walk {l:OpenLaw} {q:Program} {XP:(Str→Option Value)→Heap→Prop} {YP:World→Heap→Prop} {d:DefRec} {kwd:List (Str × PySem.Expr)} (defs:List Def) (ok:Ze1 q defs = true) (eq:eqOk q defs) (hm:l.most = some 63) (ht:l.prog.given.tree = none)
  (hpure:∀ (C:Nat) (H:Option (List Int) × Str→Int) (is:List Int),is.length ≤ 63→∃ K n st,n ≤ 500∧Z0c (C,H) defs K n d.name [.lst (is.map .int)] [] = .ok (.bool true) st) (hnm:Z4F d.name = true) :
  WalkO q [] XP YP l.row.toRowW d kwd (fun f vs=>PySem.call f vs):=by
 intro w s₀ s₁ mg mb G Y fa o pm cd doc dV kV ho hd hcd hD hmg hg args vals as hpre hlay hrd hwl hlo
 refine El.x1_2 (Ze3 hm hpre) fun is q8z hlen=>?_
 try clear hlo; try clear hwl; try clear hlay; try clear hpre; try clear args; try clear hD; try clear hcd; try clear kV; try clear dV; try clear doc; try clear cd; try clear pm
 obtain rfl:=q8z
 obtain ⟨W,C,D,hC⟩:=Zfv (prog:=l.row.toRowW.prog) G ok eq ht
 refine El.x3_2 (hpure C (fun _=>0) is hlen) fun K n st hn hc=>?_
 refine El.x3_4 ((Zfs (K:=K) W D hC n).1.fn _ _ _ _ _ hc hnm) fun a o' fd h1 h2 h3 hw=>?_
 obtain rfl:fa = a:=by
  rw [hmg] at h1
  cases h1; rfl
 let c:Cx:={ prog:=l.row.toRowW.prog,w:=w,base:=s₁.heap,A:=callerA,env:=default,sl:=fun _=>none }
 have noT:∀ b,¬ Tr [] [] b:=fun b ⟨k,o,e,_⟩=>by simp at e
 have I:Inv c.bare ⟨[],[]⟩ [] s₁.heap:=⟨fun i x q=>by simp at q,fun i s q=>(by cases q),fun n o q=>by simp at q,rfl,by simp,fun a q=>by simp at q,fun b o e=>e,fun b q=>(Z0C q).elim,fun a q=>by simp at q,fun b q=>(Z0C q).elim,fun o q=>by cases q⟩
 have rv:RepVs (Tr [] []) [] s₁.heap vals [.lst (is.map .int)]:=by
  try clear h3; try clear h2; try clear h1; try clear fd; try clear o'; try clear hn; try clear st; try clear K; try clear hC; try clear D; try clear C; try clear W
  cases hrd with
  | cons x y=>
   try clear q8z; try clear hrd; try clear hmg; try clear fa; try clear Y; try clear G; try clear mb; try clear mg; try clear s₀; try clear w
   cases y
   cases x with
   | @list a o vs n _ as ho hc hd r=>
    have hz:=Z8p (T:=Tr [] []) (μ:=[]) r
    have hsz:vs.size = is.length:=by have:=hz.length; simpa using this
    exact .cons (.lst ho hc hd (by rw [hsz]; exact Nat.le_trans hlen (by decide)) (noT _) hz) .nil
 have hA:AOk n callerA:=⟨rfl,by show 1 + 300 + n + 110 ≤ 1000; omega,by show 4 + 4 * n + 200 ≤ 9900; omega,[],rfl⟩
 refine wpAny_mono (hw c [] s₁ vals rfl rfl rfl hA I rv) (fun v s' q8=>El.x1_4 q8 fun μ' r1 I' S' Q'=>?_) fun _ _ e=>e.elim
 try clear S'; try clear μ'; try clear hA; try clear hsz; try clear hz; try clear rv; try clear I; try clear noT; try clear hw; try clear hc; try clear n; try clear hlen
 obtain rfl:=r1.bool_inv
 refine ⟨.inl ⟨.bool true,.bool true,[],rfl,fun _=>rfl,.bool true,?_,fun _=>⟨List.nodup_nil,fun a q=>by cases q⟩⟩,.of_keep I'.base,Q'.2.2,.of_eq (by rw [Q'.1,hg])⟩
 have hp:l.row.toRowW.post = .eq .res (.lit (.bool true)):=rfl
 have hr:l.row.toRowW.returns = .bool:=rfl
 unfold RowW.claim
 dsimp only
 rw [hp,hr,show WShape.has l.row.toRowW.records (.bool true) .bool = true from rfl]
 unfold WTm.holds
 rw [show WTm.value _ (WTm.res.eq (.lit (.bool true))) _ = some (.bool true) from by simp [WTm.value,same]]
 rfl
end Mine
namespace Mine
open PySem PySem.W PyProof.Rows
noncomputable def Z5s:List Obj→Nat→BT→BT
 | [],_,t=>t
 | o :: r,i,t=>Z5s r (i + 1) (t.ins i o)
noncomputable def Z21 (ok:Thread→Bool) (sp:SharedT→Thread→Option (SharedT × Thread)):Nat→SharedT→Thread→Option SharedT
 | 0,_,_=>none
 | n + 1,s,t=>match through t with
  | true=>some s
  | false=>match ok t with
   | false=>none
   | true=>match sp s t with
    | some (s',t')=>Z21 ok sp n s' t'
    | none=>none
theorem Z37 {tb:String→Option Builtin} {p:Program} {w:World} {n₀:Nat} {ann:Option Value}:∀ {n:Nat} {s s':SharedT} {t:Thread},Z21 (stepOk n₀ ann) (stepT (denote tb) p w) n s t = some s'→topRun tb p w n₀ ann n s.abs t = some s'.abs
 | 0,_,_,_,h=>by cases h
 | n + 1,s,s',t,h=>by
  unfold Z21 at h
  unfold topRun
  cases ht:through t with
  | true=>rw [ht] at h; cases h; rfl
  | false=>
   rw [ht] at h
   cases hk:stepOk n₀ ann t with
   | false=>rw [hk] at h; cases h
   | true=>
    rw [hk] at h
    cases hs:stepT (denote tb) p w s t with
    | none=>rw [hs] at h; cases h
    | some r=>obtain ⟨s₂,t₂⟩:=r; rw [hs] at h; rw [stepT_spec hs]; exact Z37 h
noncomputable def Zcc (P:Params) (os:OsState):SharedT:=⟨Z5s (boot_heap P).objs.toList 0 .nil,(boot_heap P).objs.size,(boot_heap P).life,Array.mk [],boot_drawn,boot_toks,os⟩
theorem Z93 (P:Params):absHeap (Z5s (boot_heap P).objs.toList 0 .nil) (boot_heap P).objs.size (boot_heap P).life = boot_heap P:=by kernel_rfl
theorem Zcd (P:Params):(boot_heap P).isNs mainGlobals = true:=by kernel_rfl
theorem Zau {p q:Program} {loose:List Str} {Xt:Shared→Bool} {α:Type} {Yf:Shared→α} {Ya:World→α} {N:Nat} {g0:Bool} (e:opening p = plainProg p.main.scope.names) (hN:Nat.ble 600 N = true) (f:∀ s,fenceModules? p s = some s)
  (run:∀ (w:World) (os:OsState),(Z21 (stepOk (boot_heap w.params).objs.size ((boot_heap w.params).nsMap mainGlobals "__annotations__")) (stepT (denote treeTable) p w) N (Zcc w.params os) (topStub p)).map (fun s=>
   (staticsOk (importedModules p.main.body) (boot_heap w.params) s.abs.heap && namesBound p s.abs.heap && gensDone s.abs && laidKept (boot_heap w.params) s.abs.heap,openSeen q loose (importedModules p.main.body) Xt g0 s.abs,Yf s.abs)) = some (true,openGood q loose,Ya w)):LeftO p q loose Xt Yf Ya N g0:=fun w=>by
 obtain ⟨⟨h,gs,d,k,os⟩,e0,e'⟩:=Option.map_eq_some_iff.mp (boot_open e hN f w)
 obtain ⟨rfl,rfl,rfl,rfl⟩:h = boot_heap w.params∧gs = Array.mk []∧d = boot_drawn∧k = boot_toks:=by simpa using e'
 obtain ⟨s,hs,hv⟩:=Option.map_eq_some_iff.mp (run w os)
 have r:=Z37 hs
 have hab:(Zcc w.params os).abs = ⟨boot_heap w.params,Array.mk [],boot_drawn,boot_toks,os⟩:=by
  unfold SharedT.abs Zcc
  dsimp only
  rw [Z93]
 rw [hab] at r
 obtain ⟨l1,l2⟩:=Prod.mk.inj hv
 obtain ⟨l2,l3⟩:=Prod.mk.inj l2
 have t:topFrom treeTable p w N ⟨boot_heap w.params,Array.mk [],boot_drawn,boot_toks,os⟩ = some s.abs:=by
  unfold topFrom
  dsimp only
  rw [Zcd,r]
  show (match staticsOk (importedModules p.main.body) (boot_heap w.params) s.abs.heap && namesBound p s.abs.heap && gensDone s.abs && laidKept (boot_heap w.params) s.abs.heap with | true=>_ | false=>_) = _
  rw [l1]
 unfold openEnds
 rw [e0]
 show (topFrom treeTable p w N _).map _ = _
 rw [t]
 exact congrArg some (Prod.ext l2 l3)
theorem Zav {n₀:Nat} {ann:Option Value} {p:Program} {w:World}:Z21 (stepOk n₀ ann) (stepT (denote treeTable) p w) = Z21 (PySem.W.Fast.tw6613529449190102663 n₀ ann) (PySem.W.Fast.tw10156331382660048174 (PySem.W.Fast.tw11892475500146522536 treeTable) p w):=by
 rw [PySem.W.Fast.te6613529449190102663,PySem.W.Fast.te10156331382660048174,PySem.W.Fast.te11892475500146522536]
end Mine
namespace Glu
variable {α:Type}
structure Aut where
 bare:Bool
 F:Nat→Prop
 L:Nat→Prop
 R:Nat→Nat→Prop
noncomputable def Path (S:Nat→α→Prop) (A:Aut):Nat→List α→Prop
 | x,[]=>A.L x
 | x,a :: r=>∃ y,A.R x y∧S y a∧Path S A y r
noncomputable def Acc (S:Nat→α→Prop) (A:Aut):List α→Prop
 | []=>A.bare = true
 | a :: r=>∃ x,A.F x∧S x a∧Path S A x r
structure In (A:Aut) (n m:Nat):Prop where
 f:∀ x,A.F x→n ≤ x∧x < m
 l:∀ x,A.L x→n ≤ x∧x < m
 r:∀ x y,A.R x y→(n ≤ x∧x < m)∧n ≤ y∧y < m
noncomputable def seq (A B:Aut):Aut where
 bare:=A.bare && B.bare
 F x:=A.F x ∨ (A.bare = true∧B.F x)
 L x:=(B.bare = true∧A.L x) ∨ B.L x
 R x y:=A.R x y ∨ B.R x y ∨ (A.L x∧B.F y)
noncomputable def alt (A B:Aut):Aut where
 bare:=A.bare || B.bare
 F x:=A.F x ∨ B.F x
 L x:=A.L x ∨ B.L x
 R x y:=A.R x y ∨ B.R x y
noncomputable def opt (A:Aut):Aut:={ A with bare:=true }
noncomputable def star (A:Aut):Aut where
 bare:=true
 F:=A.F
 L:=A.L
 R x y:=A.R x y ∨ (A.L x∧A.F y)
noncomputable def nul:Aut:=⟨true,fun _=>False,fun _=>False,fun _ _=>False⟩
noncomputable def non:Aut:=⟨false,fun _=>False,fun _=>False,fun _ _=>False⟩
noncomputable def leaf (n:Nat):Aut:=⟨false,fun x=>x = n,fun x=>x = n,fun _ _=>False⟩
variable {S:Nat→α→Prop} {A B:Aut} {n m k:Nat}
theorem Path.mono {C:Aut} (hl:∀ x,A.L x→C.L x) (hr:∀ x y,A.R x y→C.R x y):∀ {x:Nat} {w:List α},Path S A x w→Path S C x w
 | _,[],h=>hl _ h
 | _,_ :: _,⟨y,h1,h2,h3⟩=>⟨y,hr _ _ h1,h2,h3.mono hl hr⟩
theorem Z2O (ha:In A n m) (hb:In B m k):∀ {x:Nat} {w:List α},m ≤ x→(Path S (seq A B) x w↔Path S B x w)
 | x,[],hx=>⟨fun h=>h.elim (fun q=>absurd (ha.l _ q.2).2 (Nat.not_lt.mpr hx)) id,.inr⟩
 | x,a :: r,hx=>by
  constructor
  ·intro q0z
   refine El.x1_3 q0z fun y h1 h2 h3=>?_
   rcases h1 with h1 | h1 | h1
   ·exact absurd (ha.r _ _ h1).1.2 (Nat.not_lt.mpr hx)
   ·exact ⟨y,h1,h2,(Z2O ha hb (hb.r _ _ h1).2.1).mp h3⟩
   ·exact absurd (ha.l _ h1.1).2 (Nat.not_lt.mpr hx)
  ·intro q1z
   refine El.x1_3 q1z fun y h1 h2 h3=>?_
   exact ⟨y,.inr (.inl h1),h2,(Z2O ha hb (hb.r _ _ h1).2.1).mpr h3⟩
theorem Zaw (ha:In A n m) (hb:In B m k):∀ {x:Nat} {w:List α},x < m→(Path S (seq A B) x w↔∃ u v,w = u++v∧Path S A x u∧Acc S B v):=by
 intro x w
 induction w generalizing x with
 | nil=>
  intro hx
  constructor
  ·rintro (h | h)
   ·exact ⟨[],[],rfl,h.2,h.1⟩
   ·exact absurd hx (Nat.not_lt.mpr (hb.l _ h).1)
  ·intro q2z
   refine El.x2_3 q2z fun u v e h1 h2=>?_
   obtain ⟨rfl,rfl⟩:u = []∧v = []:=by simpa using e.symm
   exact .inl ⟨h2,h1⟩
 | cons a r ih=>
  intro hx
  constructor
  ·intro q3z
   refine El.x1_3 q3z fun y h1 h2 h3=>?_
   rcases h1 with h1 | h1 | h1
   ·refine El.x2_3 ((ih (ha.r _ _ h1).2.2).mp h3) fun u v q4z k1 k2=>?_
    obtain rfl:=q4z
    exact ⟨a :: u,v,rfl,⟨y,h1,h2,k1⟩,k2⟩
   ·exact absurd hx (Nat.not_lt.mpr (hb.r _ _ h1).1.1)
   ·exact ⟨[],a :: r,rfl,h1.1,y,h1.2,h2,(Z2O ha hb (hb.f _ h1.2).1).mp h3⟩
  ·intro q5z
   refine El.x2_3 q5z fun u v e h1 h2=>?_
   cases u with
   | nil=>
    obtain rfl:v = a :: r:=by simpa using e.symm
    refine El.x1_3 h2 fun y k1 k2 k3=>?_
    exact ⟨y,.inr (.inr ⟨h1,k1⟩),k2,(Z2O ha hb (hb.f _ k1).1).mpr k3⟩
   | cons b u=>
    obtain ⟨rfl,rfl⟩:b = a∧u++v = r:=by simpa using e.symm
    refine El.x1_3 h1 fun y k1 k2 k3=>?_
    exact ⟨y,.inl k1,k2,(ih (ha.r _ _ k1).2.2).mpr ⟨u,v,rfl,k3,h2⟩⟩
theorem Zax (ha:In A n m) (hb:In B m k) (w:List α):Acc S (seq A B) w↔∃ u v,w = u++v∧Acc S A u∧Acc S B v:=by
 cases w with
 | nil=>
  constructor
  ·intro h
   have h:(A.bare && B.bare) = true:=h
   rw [Bool.and_eq_true] at h
   exact ⟨[],[],rfl,h.1,h.2⟩
  ·intro q6z
   refine El.x2_3 q6z fun u v e h1 h2=>?_
   obtain ⟨rfl,rfl⟩:u = []∧v = []:=by simpa using e.symm
   show (A.bare && B.bare) = true
   rw [Bool.and_eq_true]; exact ⟨h1,h2⟩
 | cons a r=>
  constructor
  ·rintro ⟨x,h1 | h1,h2,h3⟩
   ·refine El.x2_3 ((Zaw ha hb (ha.f _ h1).2).mp h3) fun u v q7z k1 k2=>?_
    obtain rfl:=q7z
    exact ⟨a :: u,v,rfl,⟨x,h1,h2,k1⟩,k2⟩
   ·exact ⟨[],a :: r,rfl,h1.1,x,h1.2,h2,(Z2O ha hb (hb.f _ h1.2).1).mp h3⟩
  ·intro q8z
   refine El.x2_3 q8z fun u v e h1 h2=>?_
   cases u with
   | nil=>
    obtain rfl:v = a :: r:=by simpa using e.symm
    refine El.x1_3 h2 fun x k1 k2 k3=>?_
    exact ⟨x,.inr ⟨h1,k1⟩,k2,(Z2O ha hb (hb.f _ k1).1).mpr k3⟩
   | cons b u=>
    obtain ⟨rfl,rfl⟩:b = a∧u++v = r:=by simpa using e.symm
    refine El.x1_3 h1 fun x k1 k2 k3=>?_
    exact ⟨x,.inl k1,k2,(Zaw ha hb (ha.f _ k1).2).mpr ⟨u,v,rfl,k3,h2⟩⟩
theorem ZeV (ha:In A n m) (hb:In B m k) (h1:n ≤ m) (h2:m ≤ k):In (seq A B) n k where
 f x h:=h.elim (fun q=>⟨(ha.f _ q).1,Nat.lt_of_lt_of_le (ha.f _ q).2 h2⟩) fun q=>⟨Nat.le_trans h1 (hb.f _ q.2).1,(hb.f _ q.2).2⟩
 l x h:=h.elim (fun q=>⟨(ha.l _ q.2).1,Nat.lt_of_lt_of_le (ha.l _ q.2).2 h2⟩) fun q=>⟨Nat.le_trans h1 (hb.l _ q).1,(hb.l _ q).2⟩
 r x y h:=by
  rcases h with q | q | q
  ·have:=ha.r _ _ q; omega
  ·have:=hb.r _ _ q; omega
  ·have:=ha.l _ q.1; have:=hb.f _ q.2; omega
theorem ZeW (ha:In A n m) (hb:In B m k) (h1:n ≤ m) (h2:m ≤ k):In (alt A B) n k where
 f x h:=h.elim (fun q=>⟨(ha.f _ q).1,Nat.lt_of_lt_of_le (ha.f _ q).2 h2⟩) fun q=>⟨Nat.le_trans h1 (hb.f _ q).1,(hb.f _ q).2⟩
 l x h:=h.elim (fun q=>⟨(ha.l _ q).1,Nat.lt_of_lt_of_le (ha.l _ q).2 h2⟩) fun q=>⟨Nat.le_trans h1 (hb.l _ q).1,(hb.l _ q).2⟩
 r x y h:=by
  rcases h with q | q
  ·have:=ha.r _ _ q; omega
  ·have:=hb.r _ _ q; omega
theorem Z5t (ha:In A n m) (hb:In B m k):∀ {x:Nat} {w:List α},x < m→(Path S (alt A B) x w↔Path S A x w)
 | x,[],hx=>⟨fun h=>h.elim id fun q=>absurd hx (Nat.not_lt.mpr (hb.l _ q).1),.inl⟩
 | x,a :: r,hx=>by
  constructor
  ·rintro ⟨y,h1 | h1,h2,h3⟩
   ·exact ⟨y,h1,h2,(Z5t ha hb (ha.r _ _ h1).2.2).mp h3⟩
   ·exact absurd hx (Nat.not_lt.mpr (hb.r _ _ h1).1.1)
  ·intro q9z
   refine El.x1_3 q9z fun y h1 h2 h3=>?_
   exact ⟨y,.inl h1,h2,(Z5t ha hb (ha.r _ _ h1).2.2).mpr h3⟩
theorem Z5u (ha:In A n m) (hb:In B m k):∀ {x:Nat} {w:List α},m ≤ x→(Path S (alt A B) x w↔Path S B x w)
 | x,[],hx=>⟨fun h=>h.elim (fun q=>absurd (ha.l _ q).2 (Nat.not_lt.mpr hx)) id,.inr⟩
 | x,a :: r,hx=>by
  constructor
  ·rintro ⟨y,h1 | h1,h2,h3⟩
   ·exact absurd (ha.r _ _ h1).1.2 (Nat.not_lt.mpr hx)
   ·exact ⟨y,h1,h2,(Z5u ha hb (hb.r _ _ h1).2.1).mp h3⟩
  ·intro q10z
   refine El.x1_3 q10z fun y h1 h2 h3=>?_
   exact ⟨y,.inr h1,h2,(Z5u ha hb (hb.r _ _ h1).2.1).mpr h3⟩
theorem Ze4 (ha:In A n m) (hb:In B m k) (w:List α):Acc S (alt A B) w↔Acc S A w ∨ Acc S B w:=by
 cases w with
 | nil=>
  show (A.bare || B.bare) = true↔A.bare = true ∨ B.bare = true
  rw [Bool.or_eq_true]
 | cons a r=>
  constructor
  ·rintro ⟨x,h1 | h1,h2,h3⟩
   ·exact .inl ⟨x,h1,h2,(Z5t ha hb (ha.f _ h1).2).mp h3⟩
   ·exact .inr ⟨x,h1,h2,(Z5u ha hb (hb.f _ h1).1).mp h3⟩
  ·rintro (⟨x,h1,h2,h3⟩ | ⟨x,h1,h2,h3⟩)
   ·exact ⟨x,.inl h1,h2,(Z5t ha hb (ha.f _ h1).2).mpr h3⟩
   ·exact ⟨x,.inr h1,h2,(Z5u ha hb (hb.f _ h1).1).mpr h3⟩
inductive Many (P:List α→Prop):List α→Prop
 | nil:Many P []
 | cons (u v:List α):P u→Many P v→Many P (u++v)
theorem star_path:∀ {x:Nat} {w:List α},Path S (star A) x w↔∃ u v,w = u++v∧Path S A x u∧Acc S (star A) v:=by
 intro x w
 induction w generalizing x with
 | nil=>
  constructor
  ·intro h; exact ⟨[],[],rfl,h,rfl⟩
  ·intro q11z
   refine El.x2_3 q11z fun u v e h1 _=>?_
   obtain ⟨rfl,rfl⟩:u = []∧v = []:=by simpa using e.symm
   exact h1
 | cons a r ih=>
  constructor
  ·rintro ⟨y,h1 | h1,h2,h3⟩
   ·refine El.x2_3 (ih.mp h3) fun u v q12z k1 k2=>?_
    obtain rfl:=q12z
    exact ⟨a :: u,v,rfl,⟨y,h1,h2,k1⟩,k2⟩
   ·exact ⟨[],a :: r,rfl,h1.1,y,h1.2,h2,h3⟩
  ·intro q13z
   refine El.x2_3 q13z fun u v e h1 h2=>?_
   cases u with
   | nil=>
    obtain rfl:v = a :: r:=by simpa using e.symm
    refine El.x1_3 h2 fun y k1 k2 k3=>?_
    exact ⟨y,.inr ⟨h1,k1⟩,k2,k3⟩
   | cons b u=>
    obtain ⟨rfl,rfl⟩:b = a∧u++v = r:=by simpa using e.symm
    refine El.x1_3 h1 fun y k1 k2 k3=>?_
    exact ⟨y,.inl k1,k2,ih.mpr ⟨u,v,rfl,k3,h2⟩⟩
theorem Z1D:∀ (l:Nat) (w:List α),w.length ≤ l→(Acc S (star A) w↔Many (Acc S A) w)
 | l,[],_=>⟨fun _=>.nil,fun _=>rfl⟩
 | 0,a :: r,h=>absurd h (by simp)
 | l + 1,a :: r,h=>by
  have hr:r.length ≤ l:=by simpa using h
  constructor
  ·intro q14z
   refine El.x1_3 q14z fun x h1 h2 h3=>?_
   refine El.x2_3 (star_path.mp h3) fun u v q15z k1 k2=>?_
   obtain rfl:=q15z
   have hv:v.length ≤ l:=by simp at hr; lia
   exact .cons (a :: u) v ⟨x,h1,h2,k1⟩ ((Z1D l v hv).mp k2)
  ·intro hm
   generalize hw:a :: r = w at hm
   induction hm with
   | nil=>cases hw
   | cons u v hu hv ih=>
    cases u with
    | nil=>exact ih hw
    | cons b u=>
     obtain ⟨rfl,rfl⟩:a = b∧r = u++v:=by simpa using hw
     refine El.x1_3 hu fun x k1 k2 k3=>?_
     have hvl:v.length ≤ l:=by simp at hr; lia
     exact ⟨x,k1,k2,star_path.mpr ⟨u,v,rfl,k3,(Z1D l v hvl).mpr hv⟩⟩
theorem Zce (w:List α):Acc S (star A) w↔Many (Acc S A) w:=Z1D _ _ (Nat.le_refl _)
theorem Ze5 (w:List α):Acc S (opt A) w↔w = [] ∨ Acc S A w:=by
 have hp:∀ (x:Nat) (w:List α),Path S (opt A) x w↔Path S A x w:=fun x w=>⟨fun h=>Path.mono (A:=opt A) (C:=A) (fun _ q=>q) (fun _ _ q=>q) h,fun h=>Path.mono (A:=A) (C:=opt A) (fun _ q=>q) (fun _ _ q=>q) h⟩
 cases w with
 | nil=>exact ⟨fun _=>.inl rfl,fun _=>rfl⟩
 | cons a r=>
  constructor
  ·rintro ⟨x,h1,h2,h3⟩; exact .inr ⟨x,h1,h2,(hp _ _).mp h3⟩
  ·rintro (h | ⟨x,h1,h2,h3⟩)
   ·cases h
   ·exact ⟨x,h1,h2,(hp _ _).mpr h3⟩
theorem Ze6 (ha:In A n m):In (star A) n m where
 f:=ha.f
 l:=ha.l
 r x y h:=h.elim (ha.r x y) fun q=>⟨ha.l _ q.1,ha.f _ q.2⟩
theorem ZeX (ha:In A n m):In (opt A) n m:=⟨ha.f,ha.l,ha.r⟩
theorem Zcf (w:List α):Acc S (leaf n) w↔∃ a,w = [a]∧S n a:=by
 cases w with
 | nil=>
  constructor
  ·intro h; cases h
  ·rintro ⟨a,e,_⟩; cases e
 | cons a r=>
  constructor
  ·intro q16z
   refine El.x1_3 q16z fun x q17z h2 h3=>?_
   obtain rfl:=q17z
   cases r with
   | nil=>exact ⟨a,rfl,h2⟩
   | cons b r=>obtain ⟨y,q,_⟩:=h3; exact q.elim
  ·intro q18z
   refine El.x1_2 q18z fun b e h=>?_
   cases e
   exact ⟨n,rfl,h,rfl⟩
theorem Ze7:In (leaf n) n (n + 1):=⟨fun x h=>by cases h; lia,fun x h=>by cases h; lia,fun _ _ h=>h.elim⟩
theorem Ze8 (w:List α):Acc S nul w↔w = []:=by
 cases w with
 | nil=>exact ⟨fun _=>rfl,fun _=>rfl⟩
 | cons a r=>exact ⟨fun ⟨x,h,_⟩=>h.elim,fun h=>by cases h⟩
theorem Ze9 (w:List α):¬ Acc S non w:=by
 cases w with
 | nil=>exact fun h=>by cases h
 | cons a r=>exact fun ⟨x,h,_⟩=>h.elim
theorem ZeY:In nul n n:=⟨fun _ h=>h.elim,fun _ h=>h.elim,fun _ _ h=>h.elim⟩
theorem ZeZ:In non n n:=⟨fun _ h=>h.elim,fun _ h=>h.elim,fun _ _ h=>h.elim⟩
mutual
inductive Pat (α:Type)
 | one (s:List α)
 | row (ps:Pats α)
 | or (ps:Pats α)
 | many (p:Pat α)
 | maybe (p:Pat α)
inductive Pats (α:Type)
 | nil
 | cons (p:Pat α) (ps:Pats α)
end
variable {α:Type}
mutual
noncomputable def Pat.lang:Pat α→List α→Prop
 | .one s,w=>∃ a,w = [a]∧a ∈ s
 | .row ps,w=>ps.langR w
 | .or ps,w=>ps.langO w
 | .many p,w=>Many (fun u=>p.lang u) w
 | .maybe p,w=>w = [] ∨ p.lang w
noncomputable def Pats.langR:Pats α→List α→Prop
 | .nil,w=>w = []
 | .cons p ps,w=>∃ u v,w = u++v∧p.lang u∧ps.langR v
noncomputable def Pats.langO:Pats α→List α→Prop
 | .nil,_=>False
 | .cons p ps,w=>p.lang w ∨ ps.langO w
end
mutual
noncomputable def Pat.leaves:Pat α→List (List α)
 | .one s=>[s]
 | .row ps=>ps.leaves
 | .or ps=>ps.leaves
 | .many p=>p.leaves
 | .maybe p=>p.leaves
noncomputable def Pats.leaves:Pats α→List (List α)
 | .nil=>[]
 | .cons p ps=>p.leaves++ps.leaves
end
mutual
noncomputable def Pat.aut:Pat α→Nat→Aut
 | .one _,n=>leaf n
 | .row ps,n=>ps.autR nul n
 | .or ps,n=>ps.autO non n
 | .many p,n=>star (p.aut n)
 | .maybe p,n=>opt (p.aut n)
noncomputable def Pats.autR:Pats α→Aut→Nat→Aut
 | .nil,A,_=>A
 | .cons p ps,A,n=>ps.autR (seq A (p.aut n)) (n + p.leaves.length)
noncomputable def Pats.autO:Pats α→Aut→Nat→Aut
 | .nil,A,_=>A
 | .cons p ps,A,n=>ps.autO (alt A (p.aut n)) (n + p.leaves.length)
end
theorem l1 (s:List α) (w:List α):(Pat.one s).lang w = ∃ a,w = [a]∧a ∈ s:=rfl
theorem l2 (ps:Pats α) (w:List α):(Pat.row ps).lang w = ps.langR w:=rfl
theorem l3 (ps:Pats α) (w:List α):(Pat.or ps).lang w = ps.langO w:=rfl
theorem l4 (p:Pat α) (w:List α):(Pat.many p).lang w = Many (fun u=>p.lang u) w:=rfl
theorem l5 (p:Pat α) (w:List α):(Pat.maybe p).lang w = (w = [] ∨ p.lang w):=rfl
theorem lr0 (w:List α):(Pats.nil:Pats α).langR w = (w = []):=rfl
theorem lr1 (p:Pat α) (ps:Pats α) (w:List α):(Pats.cons p ps).langR w = ∃ u v,w = u++v∧p.lang u∧ps.langR v:=rfl
theorem lo0 (w:List α):(Pats.nil:Pats α).langO w = False:=rfl
theorem lo1 (p:Pat α) (ps:Pats α) (w:List α):(Pats.cons p ps).langO w = (p.lang w ∨ ps.langO w):=rfl
theorem ls0:(Pats.nil:Pats α).leaves = []:=rfl
theorem ls1 (p:Pat α) (ps:Pats α):(Pats.cons p ps).leaves = p.leaves++ps.leaves:=rfl
theorem au1 (s:List α) (n:Nat):(Pat.one s).aut n = leaf n:=rfl
theorem ar0 (A:Aut) (n:Nat):(Pats.nil:Pats α).autR A n = A:=rfl
theorem ar1 (p:Pat α) (ps:Pats α) (A:Aut) (n:Nat):(Pats.cons p ps).autR A n = ps.autR (seq A (p.aut n)) (n + p.leaves.length):=rfl
theorem ao0 (A:Aut) (n:Nat):(Pats.nil:Pats α).autO A n = A:=rfl
theorem ao1 (p:Pat α) (ps:Pats α) (A:Aut) (n:Nat):(Pats.cons p ps).autO A n = ps.autO (alt A (p.aut n)) (n + p.leaves.length):=rfl
noncomputable def At (S:Nat→α→Prop) (n:Nat) (ls:List (List α)):Prop:=∀ i s,ls[i]? = some s→∀ a,S (n + i) a↔a ∈ s
theorem At.left {S:Nat→α→Prop} {n:Nat} {l r:List (List α)} (h:At S n (l++r)):At S n l:=fun i s e=>h i s (by rw [List.getElem?_append_left (List.getElem?_eq_some_iff.mp e).1]; exact e)
theorem At.right {S:Nat→α→Prop} {n:Nat} {l r:List (List α)} (h:At S n (l++r)):At S (n + l.length) r:=fun i s e a=>by
 have:=h (l.length + i) s (by rw [List.getElem?_append_right (by lia)]; simpa using e) a
 rwa [← Nat.add_assoc] at this
variable {S:Nat→α→Prop}
theorem Many.congr {P Q:List α→Prop} (h:∀ w,P w↔Q w) (w:List α):Many P w↔Many Q w:=by
 have:P = Q:=funext fun w=>propext (h w)
 rw [this]
mutual
theorem Pat.acc:∀ (p:Pat α) (n:Nat),At S n p.leaves→In (p.aut n) n (n + p.leaves.length)∧∀ w,Acc S (p.aut n) w↔p.lang w
 | .one s,n,h=>⟨Ze7,fun w=>by
   have h0:=h 0 s rfl
   simp only [au1,l1,l2,l3,l4,l5,Zcf]
   exact ⟨fun ⟨a,e,q⟩=>⟨a,e,(h0 a).mp q⟩,fun ⟨a,e,q⟩=>⟨a,e,(h0 a).mpr q⟩⟩⟩
 | .row ps,n,h=>by
  have:=Pats.accR ps nul n n (Nat.le_refl _) ZeY h
  refine ⟨this.1,fun w=>(this.2 w).trans ?_⟩
  simp only [l1,l2,l3,l4,l5,Ze8]
  exact ⟨fun ⟨u,v,e,hu,hv⟩=>by subst hu; subst e; exact hv,fun hv=>⟨[],w,rfl,rfl,hv⟩⟩
 | .or ps,n,h=>by
  have:=Pats.accO ps non n n (Nat.le_refl _) ZeZ h
  refine ⟨this.1,fun w=>(this.2 w).trans ?_⟩
  simp only [l1,l2,l3,l4,l5]
  exact ⟨fun q=>q.elim (fun q=>(Ze9 w q).elim) id,.inr⟩
 | .many p,n,h=>by
  have:=Pat.acc p n h
  exact ⟨Ze6 this.1,fun w=>(Zce w).trans (Many.congr this.2 w)⟩
 | .maybe p,n,h=>by
  have:=Pat.acc p n h
  refine ⟨ZeX this.1,fun w=>(Ze5 w).trans ?_⟩
  simp only [l1,l2,l3,l4,l5,this.2]
theorem Pats.accR:∀ (ps:Pats α) (A:Aut) (n m:Nat),n ≤ m→In A n m→At S m ps.leaves→In (ps.autR A m) n (m + ps.leaves.length)∧∀ w,Acc S (ps.autR A m) w↔∃ u v,w = u++v∧Acc S A u∧ps.langR v
 | .nil,A,n,m,_,ha,_=>⟨ha,fun w=>by
   simp only [ar0,ar1,lr0,lr1]
   exact ⟨fun q=>⟨w,[],(List.append_nil w).symm,q,rfl⟩,fun ⟨u,v,e,hu,hv⟩=>by subst hv; rw [List.append_nil] at e; subst e; exact hu⟩⟩
 | .cons p ps,A,n,m,hnm,ha,h=>by
  have hp:=Pat.acc p m h.left
  have hle:m ≤ m + p.leaves.length:=Nat.le_add_right _ _
  have hs:=Pats.accR ps (seq A (p.aut m)) n (m + p.leaves.length) (Nat.le_trans hnm hle) (ZeV ha hp.1 hnm hle) h.right
  refine ⟨?_,fun w=>?_⟩
  ·have:=hs.1
   simp only [ar0,ar1,ls0,ls1,List.length_append]
   rwa [Nat.add_assoc] at this
  ·simp only [ar0,ar1,lr0,lr1]
   rw [hs.2 w]
   constructor
   ·intro q0z
    refine El.x2_3 q0z fun u v q1z hu hv=>?_
    obtain rfl:=q1z
    refine El.x2_3 ((Zax ha hp.1 u).mp hu) fun x y q2z hx hy=>?_
    obtain rfl:=q2z
    exact ⟨x,y++v,by rw [List.append_assoc],hx,y,v,rfl,(hp.2 y).mp hy,hv⟩
   ·intro q3z
    obtain ⟨u,v,rfl,hu,y,z,rfl,hy,hz⟩:=q3z
    exact ⟨u++y,z,by rw [List.append_assoc],(Zax ha hp.1 _).mpr ⟨u,y,rfl,hu,(hp.2 y).mpr hy⟩,hz⟩
theorem Pats.accO:∀ (ps:Pats α) (A:Aut) (n m:Nat),n ≤ m→In A n m→At S m ps.leaves→In (ps.autO A m) n (m + ps.leaves.length)∧∀ w,Acc S (ps.autO A m) w↔Acc S A w ∨ ps.langO w
 | .nil,A,n,m,_,ha,_=>⟨ha,fun w=>by simp only [ao0,ao1,lo0,lo1,or_false]⟩
 | .cons p ps,A,n,m,hnm,ha,h=>by
  have hp:=Pat.acc p m h.left
  have hle:m ≤ m + p.leaves.length:=Nat.le_add_right _ _
  have hs:=Pats.accO ps (alt A (p.aut m)) n (m + p.leaves.length) (Nat.le_trans hnm hle) (ZeW ha hp.1 hnm hle) h.right
  refine ⟨?_,fun w=>?_⟩
  ·have:=hs.1
   simp only [ao0,ao1,ls0,ls1,List.length_append]
   rwa [Nat.add_assoc] at this
  ·simp only [ao0,ao1,lo0,lo1]
   rw [hs.2 w,Ze4 ha hp.1,hp.2 w,or_assoc]
end
variable {α:Type}
noncomputable def Zfw (t:List α) (i j:Nat):List α:=(t.drop i).take (j - i)
noncomputable def Sl (P:List α→Prop) (t:List α) (i j:Nat):Prop:=i ≤ j∧j ≤ t.length∧P (Zfw t i j)
inductive Star (R:Nat→Nat→Prop):Nat→Nat→Prop
 | refl (i:Nat):Star R i i
 | step (i k j:Nat):R i k→Star R k j→Star R i j
theorem Star.snoc {R:Nat→Nat→Prop} {i k j:Nat} (h:Star R i k) (q:R k j):Star R i j:=by
 induction h with
 | refl i=>exact .step _ _ _ q (.refl _)
 | step a b c h1 _ ih=>exact .step _ _ _ h1 (ih q)
variable {α:Type} {S:Nat→α→Prop} {A:Aut}
noncomputable def Runs (S:Nat→α→Prop) (A:Aut):(Nat→Prop)→List α→Nat→Prop
 | X,[],y=>X y
 | X,a :: r,y=>Runs S A (fun z=>∃ x,X x∧A.R x z∧S z a) r y
structure Side where
 A:Aut
 n:Nat
 m:Nat
structure Clo (R:Nat→Nat→Prop) (B found fresh:List Nat):Prop where
 base:∀ x ∈ B,x ∈ found
 back:∀ x ∈ found,∃ b ∈ B,Star R b x
 sub:∀ x ∈ fresh,x ∈ found
 next:∀ x ∈ found,x ∈ fresh ∨ ∀ y,R x y→y ∈ found
variable {R:Nat→Nat→Prop} {B found fresh more:List Nat}
theorem Clo.start (B:List Nat):Clo R B B B:=⟨fun _ h=>h,fun x h=>⟨x,h,.refl x⟩,fun _ h=>h,fun _ h=>.inl h⟩
theorem Clo.done (C:Clo R B found []) (y:Nat):y ∈ found↔∃ b ∈ B,Star R b y:=by
 refine ⟨C.back y,?_⟩
 rintro ⟨b,hb,hs⟩
 have hb':=C.base b hb
 clear hb
 induction hs with
 | refl i=>exact hb'
 | step i k j h1 _ ih=>exact ih ((C.next i hb').elim (fun q=>by cases q) fun q=>q k h1)
noncomputable def ZfG (n:Nat) (found:List Nat):Nat:=((List.range (n + 1)).filter fun x=>!found.contains x).length
noncomputable def off {α:Type}:List (Pat α)→Nat→Nat
 | [],_=>0
 | _,0=>0
 | p :: ps,k + 1=>p.leaves.length + off ps k
noncomputable def allLeaves {α:Type} (ps:List (Pat α)):List (List α):=ps.flatMap fun p=>p.leaves
theorem Z2j {α:Type}:∀ (ps:List (Pat α)) (k:Nat) (p:Pat α),ps[k]? = some p→off ps (k + 1) = off ps k + p.leaves.length
 | [],_,_,h=>by simp at h
 | q :: ps,0,p,h=>by
  obtain rfl:q = p:=by simpa using h
  cases ps <;> simp [off]
 | q :: ps,k + 1,p,h=>by
  have:=Z2j ps k p (by simpa using h)
  simp only [off,this]; lia
theorem Zay {α:Type} (ps:List (Pat α)):∀ (j k:Nat),j ≤ k→off ps j ≤ off ps k:=by
 intro j k h
 induction k with
 | zero=>rw [Nat.le_zero.mp h]; exact Nat.le_refl _
 | succ k ih=>
  have hk:off ps k ≤ off ps (k + 1):=by
   cases e:ps[k]? with
   | some p=>rw [Z2j ps k p e]; lia
   | none=>
    have:∀ (ps:List (Pat α)) (k:Nat),ps[k]? = none→off ps k ≤ off ps (k + 1):=by
     intro ps
     induction ps with
     | nil=>intro k _; simp [off]
     | cons q ps ih=>
      intro k h
      cases k with
      | zero=>simp at h
      | succ k=>have:=ih k (by simpa using h); simp only [off]; lia
    exact this ps k e
  rcases Nat.lt_or_ge j (k + 1) with q | q
  ·exact Nat.le_trans (ih (by lia)) hk
  ·rw [Nat.le_antisymm h q]; exact Nat.le_refl _
noncomputable def Gf {α:Type} (ps:List (Pat α)) (x:Nat):Prop:=∃ (k:Nat) (p:Pat α),ps[k]? = some p∧(p.aut (off ps k)).F x
noncomputable def Gl {α:Type} (ps:List (Pat α)) (k x:Nat):Prop:=∃ p,ps[k]? = some p∧(p.aut (off ps k)).L x
noncomputable def Gr {α:Type} (ps:List (Pat α)) (x y:Nat):Prop:=∃ (k:Nat) (p:Pat α),ps[k]? = some p∧(p.aut (off ps k)).R x y
noncomputable def G {α:Type} (ps:List (Pat α)):Aut:=⟨false,Gf ps,fun x=>∃ k,Gl ps k x,Gr ps⟩
theorem apart {α:Type} {ps:List (Pat α)} {j k x:Nat} {p q:Pat α} (hj:ps[j]? = some p) (hk:ps[k]? = some q) (h1:off ps j ≤ x∧x < off ps j + p.leaves.length) (h2:off ps k ≤ x∧x < off ps k + q.leaves.length):j = k:=by
 have e1:=Z2j ps j p hj
 have e2:=Z2j ps k q hk
 rcases Nat.lt_trichotomy j k with h | h | h
 ·have:=Zay ps (j + 1) k h; lia
 ·exact h
 ·have:=Zay ps (k + 1) j h; lia
theorem nodup_le {l:List Nat} {n:Nat} (h:l.Nodup) (hl:∀ x ∈ l,x < n):l.length ≤ n:=by
 induction n generalizing l with
 | zero=>
  cases l with
  | nil=>exact Nat.le_refl _
  | cons a l=>exact absurd (hl a (by simp)) (Nat.not_lt_zero _)
 | succ n ih=>
  have h1:=ih (l:=l.erase n) (h.erase n) fun x hx=>by
   have hm:=List.mem_of_mem_erase hx
   have:=hl x hm
   have hne:x ≠ n:=fun e=>by subst e; exact (h.not_mem_erase) hx
   lia
  have:=List.length_erase (a:=n) (l:=l)
  split at this <;> lia
noncomputable def Rel (W:List (List Nat)) (x y:Nat):Prop:=∃ ws,W[x]? = some ws∧y ∈ ws
noncomputable def Wf (W:List (List Nat)):Prop:=∀ ws ∈ W,ws.Nodup∧∀ y ∈ ws,y < 60
noncomputable def ins (l:List Nat) (y:Nat):List Nat:=if l.contains y then l else l++[y]
theorem mem_ins {l:List Nat} {x y:Nat}:x ∈ ins l y↔x ∈ l ∨ x = y:=by
 unfold ins
 split
 ·rename_i h
  exact ⟨.inl,fun q=>q.elim id fun e=>e ▸ List.contains_iff_mem.mp h⟩
 ·rw [List.mem_append,List.mem_singleton]
theorem Zaz {l:List Nat} {y:Nat} (h:l.Nodup):(ins l y).Nodup:=by
 unfold ins
 split
 ·exact h
 ·rename_i q
  have q:y ∉ l:=fun e=>q (List.contains_iff_mem.mpr e)
  rw [List.nodup_append]
  exact ⟨h,by simp,fun a ha b hb e=>by rw [List.mem_singleton] at hb; exact q (by rw [← hb,← e]; exact ha)⟩
noncomputable def link1 (W:List (List Nat)) (x y:Nat):List (List Nat):=W.set x (ins (W.getD x []) y)
theorem link1_len (W:List (List Nat)) (x y:Nat):(link1 W x y).length = W.length:=List.length_set
theorem rel_link1 {W:List (List Nat)} {x y:Nat} (hx:x < W.length) (a b:Nat):Rel (link1 W x y) a b↔Rel W a b ∨ (a = x∧b = y):=by
 unfold Rel link1
 have hg:W.getD x [] = W[x]:=by simp [hx]
 by_cases h:x = a
 ·subst h
  rw [List.getElem?_set_self hx,hg]
  constructor
  ·intro q0z
   refine El.x1_2 q0z fun ws e hb=>?_
   cases e
   rcases mem_ins.mp hb with hb | hb
   ·exact .inl ⟨_,List.getElem?_eq_getElem hx,hb⟩
   ·exact .inr ⟨rfl,hb⟩
  ·rintro (⟨ws,e,hb⟩ | ⟨_,hb⟩)
   ·rw [List.getElem?_eq_getElem hx] at e; cases e
    exact ⟨_,rfl,mem_ins.mpr (.inl hb)⟩
   ·exact ⟨_,rfl,mem_ins.mpr (.inr hb)⟩
 ·rw [List.getElem?_set_ne h]
  exact ⟨.inl,fun q=>q.elim id fun q=>absurd q.1.symm h⟩
theorem wf_link1 {W:List (List Nat)} {x y:Nat} (h:Wf W) (hy:y < 60):Wf (link1 W x y):=by
 intro ws hw
 rcases List.mem_or_eq_of_mem_set hw with hw | rfl
 ·exact h ws hw
 ·have h0:(W.getD x []).Nodup∧∀ y ∈ W.getD x [],y < 60:=by
   rw [List.getD_eq_getElem?_getD]
   cases e:W[x]? with
   | none=>exact ⟨List.nodup_nil,fun _ q=>by cases q⟩
   | some ws=>exact h ws (List.mem_of_getElem? e)
  exact ⟨Zaz h0.1,fun z hz=>(mem_ins.mp hz).elim (h0.2 z) fun e=>e ▸ hy⟩
structure Sh (A:Aut) (c:Nat) (W₀:List (List Nat)) (b:Bool) (fs ls:List Nat) (W:List (List Nat)):Prop where
 bare:b = A.bare
 f:∀ x,x ∈ fs↔A.F x
 l:∀ x,x ∈ ls↔A.L x
 r:∀ x y,Rel W x y↔Rel W₀ x y ∨ A.R x y
 fl:fs.length ≤ c
 ll:ls.length ≤ c
 len:W.length = W₀.length + c
 wf:Wf W
 fb:∀ x ∈ fs,x < W.length
 lb:∀ x ∈ ls,x < W.length
theorem Sh.nul {W:List (List Nat)} (h:Wf W):Sh Glu.nul 0 W true [] [] W:=⟨rfl,fun x=>⟨fun q=>(by cases q),fun q=>q.elim⟩,fun x=>⟨fun q=>(by cases q),fun q=>q.elim⟩,fun x y=>⟨.inl,fun q=>q.elim id fun q=>q.elim⟩,Nat.le_refl _,Nat.le_refl _,rfl,h,fun _ q=>(by cases q),fun _ q=>(by cases q)⟩
theorem Sh.non {W:List (List Nat)} (h:Wf W):Sh Glu.non 0 W false [] [] W:=⟨rfl,fun x=>⟨fun q=>(by cases q),fun q=>q.elim⟩,fun x=>⟨fun q=>(by cases q),fun q=>q.elim⟩,fun x y=>⟨.inl,fun q=>q.elim id fun q=>q.elim⟩,Nat.le_refl _,Nat.le_refl _,rfl,h,fun _ q=>(by cases q),fun _ q=>(by cases q)⟩
theorem Sh.leaf {W:List (List Nat)} (h:Wf W):Sh (Glu.leaf W.length) 1 W false [W.length] [W.length] (W++[[]]) :=
 ⟨rfl,fun x=>List.mem_singleton,fun x=>List.mem_singleton,fun x y=>⟨fun ⟨ws,e,hy⟩=>(by
  rcases Nat.lt_or_ge x W.length with q | q
  ·rw [List.getElem?_append_left q] at e; exact .inl ⟨ws,e,hy⟩
  ·rw [List.getElem?_append_right q] at e
   have:ws = []:=by
    have:=List.mem_of_getElem? e
    simpa using this
   subst this; cases hy),fun q=>q.elim (fun ⟨ws,e,hy⟩=>⟨ws,by rw [List.getElem?_append_left (List.getElem?_eq_some_iff.mp e).1]; exact e,hy⟩) fun q=>q.elim⟩,Nat.le_refl _,Nat.le_refl _,by simp,fun ws hw=>by
  rcases List.mem_append.mp hw with hw | hw
  ·exact h ws hw
  ·rw [List.mem_singleton.mp hw]; exact ⟨List.nodup_nil,fun _ q=>(by cases q)⟩,fun x hx=>by rw [List.mem_singleton.mp hx]; simp,fun x hx=>by rw [List.mem_singleton.mp hx]; simp⟩
theorem Sh.seq {A B:Aut} {c d:Nat} {W₀ W W₁ W₂:List (List Nat)} {b b':Bool} {fs ls fs' ls':List Nat} (x:Sh A c W₀ b fs ls W) (y:Sh B d W b' fs' ls' W₁)
  (hr:∀ a e,Rel W₂ a e↔Rel W₁ a e ∨ (a ∈ ls∧e ∈ fs')) (hw:Wf W₂) (hl:W₂.length = W₁.length):Sh (Glu.seq A B) (c + d) W₀ (b && b') (if b then fs++fs' else fs) (if b' then ls++ls' else ls') W₂ where
 bare:=by rw [x.bare,y.bare]; rfl
 f a:=by
  show _↔A.F a ∨ (A.bare = true∧B.F a)
  rw [← x.f,← y.f,← x.bare]
  cases b <;> simp
 l a:=by
  show _↔(B.bare = true∧A.L a) ∨ B.L a
  rw [← x.l,← y.l,← y.bare]
  cases b' <;> simp
 r a e:=by
  show _↔_ ∨ (A.R a e ∨ B.R a e ∨ (A.L a∧B.F e))
  rw [hr,y.r,x.r,← x.l,← y.f,or_assoc,or_assoc]
 fl:=by have h1:=x.fl; have h2:=y.fl; cases b <;> simp <;> lia
 ll:=by have h1:=x.ll; have h2:=y.ll; cases b' <;> simp <;> lia
 len:=by rw [hl,y.len,x.len,Nat.add_assoc]
 wf:=hw
 fb a ha:=by
  rw [hl]
  have hyl:=y.len
  cases b with
  | true=>exact (List.mem_append.mp ha).elim (fun q=>by have:=x.fb a q; lia) (y.fb a)
  | false=>have:=x.fb a ha; lia
 lb a ha:=by
  rw [hl]
  have hyl:=y.len
  cases b' with
  | true=>exact (List.mem_append.mp ha).elim (fun q=>by have:=x.lb a q; lia) (y.lb a)
  | false=>exact y.lb a ha
theorem Sh.alt {A B:Aut} {c d:Nat} {W₀ W W₁:List (List Nat)} {b b':Bool} {fs ls fs' ls':List Nat} (x:Sh A c W₀ b fs ls W) (y:Sh B d W b' fs' ls' W₁):Sh (Glu.alt A B) (c + d) W₀ (b || b') (fs++fs') (ls++ls') W₁ where
 bare:=by rw [x.bare,y.bare]; rfl
 f a:=by
  show _↔A.F a ∨ B.F a
  rw [← x.f,← y.f,List.mem_append]
 l a:=by
  show _↔A.L a ∨ B.L a
  rw [← x.l,← y.l,List.mem_append]
 r a e:=by
  show _↔_ ∨ (A.R a e ∨ B.R a e)
  rw [y.r,x.r,or_assoc]
 fl:=by have h1:=x.fl; have h2:=y.fl; rw [List.length_append]; lia
 ll:=by have h1:=x.ll; have h2:=y.ll; rw [List.length_append]; lia
 len:=by rw [y.len,x.len,Nat.add_assoc]
 wf:=y.wf
 fb a ha:=(List.mem_append.mp ha).elim (fun q=>by have:=x.fb a q; have:=y.len; lia) (y.fb a)
 lb a ha:=(List.mem_append.mp ha).elim (fun q=>by have:=x.lb a q; have:=y.len; lia) (y.lb a)
theorem Sh.opt {A:Aut} {c:Nat} {W₀ W:List (List Nat)} {b:Bool} {fs ls:List Nat} (x:Sh A c W₀ b fs ls W):Sh (Glu.opt A) c W₀ true fs ls W:=⟨rfl,x.f,x.l,x.r,x.fl,x.ll,x.len,x.wf,x.fb,x.lb⟩
theorem Sh.star {A:Aut} {c:Nat} {W₀ W W₂:List (List Nat)} {b:Bool} {fs ls:List Nat} (x:Sh A c W₀ b fs ls W) (hr:∀ a e,Rel W₂ a e↔Rel W a e ∨ (a ∈ ls∧e ∈ fs)) (hw:Wf W₂) (hl:W₂.length = W.length):Sh (Glu.star A) c W₀ true fs ls W₂ :=
 ⟨rfl,x.f,x.l,fun a e=>by
  show _↔_ ∨ (A.R a e ∨ (A.L a∧A.F e))
  rw [hr,x.r,← x.l,← x.f,or_assoc],x.fl,x.ll,by rw [hl,x.len],hw,fun a h=>by rw [hl]; exact x.fb a h,fun a h=>by rw [hl]; exact x.lb a h⟩
noncomputable def ZfH (hit:Nat→Bool) (xs found:List Nat):List Nat:=xs.foldl (fun f x=>if hit x then ins f x else f) found
noncomputable def Sg {α:Type} (ls:List (List α)) (n x:Nat) (a:α):Prop:=n ≤ x∧∃ s,ls[x - n]? = some s∧a ∈ s
theorem ZaA {α:Type} (ls:List (List α)) (n:Nat):At (Sg ls n) n ls:=fun i s h a=>by
 unfold Sg
 rw [show n + i - n = i by lia,h]
 exact ⟨fun ⟨_,s',e,q⟩=>by cases e; exact q,fun q=>⟨by lia,s,rfl,q⟩⟩
theorem Zd0 {α:Type} (p:Pat α) (n:Nat):In (p.aut n) n (n + p.leaves.length):=(p.acc n (ZaA p.leaves n)).1
theorem Z7i {α:Type}:∀ ps:List (Pat α),off ps ps.length = (allLeaves ps).length
 | []=>rfl
 | p :: ps=>by
  have:=Z7i ps
  unfold allLeaves at this ⊢
  rw [List.flatMap_cons,List.length_append,List.length_cons,off,this]
theorem Z5v {α:Type} (p:Pat α):∀ (d:List (Pat α)) (k:Nat),k ≤ d.length→off (d++[p]) k = off d k
 | [],k,h=>by rw [Nat.le_zero.mp h]; simp [off]
 | q :: d,0,_=>by simp [off]
 | q :: d,k + 1,h=>by
  rw [List.cons_append,off,off,Z5v p d k (by simpa using h)]
theorem snoc_get {α:Type} {d:List α} {p:α} {k:Nat} {q:α}:(d++[p])[k]? = some q↔(d[k]? = some q∧k < d.length) ∨ (k = d.length∧q = p):=by
 rcases Nat.lt_trichotomy k d.length with h | h | h
 ·rw [List.getElem?_append_left h]
  exact ⟨fun e=>.inl ⟨e,h⟩,fun e=>e.elim (·.1) fun e=>by lia⟩
 ·subst h
  rw [List.getElem?_append_right (Nat.le_refl _),Nat.sub_self]
  exact ⟨fun e=>.inr ⟨rfl,(Option.some.inj e).symm⟩,fun e=>e.elim (fun e=>absurd e.2 (Nat.lt_irrefl _)) fun e=>by rw [e.2]; rfl⟩
 ·rw [List.getElem?_eq_none (by rw [List.length_append,List.length_singleton]; lia)]
  exact ⟨fun e=>(by cases e),fun e=>e.elim (fun e=>by lia) fun e=>by lia⟩
theorem Z8q {α:Type} (d:List (Pat α)) (p:Pat α):off (d++[p]) d.length = (allLeaves d).length:=by rw [Z5v p d _ (Nat.le_refl _),Z7i]
theorem Z7j {α:Type} {d:List (Pat α)} {p:Pat α} {X:Nat→Pat α→Nat→Prop}:(∃ (k:Nat) (q:Pat α),(d++[p])[k]? = some q∧X k q (off (d++[p]) k))↔(∃ (k:Nat) (q:Pat α),d[k]? = some q∧X k q (off d k)) ∨ X d.length p (allLeaves d).length:=by
 constructor
 ·intro q0z
  refine El.x2_2 q0z fun k q h hx=>?_
  rcases snoc_get.mp h with ⟨h1,h2⟩ | ⟨rfl,rfl⟩
  ·rw [Z5v p d k (Nat.le_of_lt h2)] at hx; exact .inl ⟨k,q,h1,hx⟩
  ·rw [Z8q] at hx; exact .inr hx
 ·rintro (⟨k,q,h,hx⟩ | hx)
  ·have hk:=(List.getElem?_eq_some_iff.mp h).1
   exact ⟨k,q,snoc_get.mpr (.inl ⟨h,hk⟩),by rw [Z5v p d k (Nat.le_of_lt hk)]; exact hx⟩
  ·exact ⟨d.length,p,snoc_get.mpr (.inr ⟨rfl,rfl⟩),by rw [Z8q]; exact hx⟩
theorem Zea {α:Type} {d:List (Pat α)} {p:Pat α} {x:Nat}:Gf (d++[p]) x↔Gf d x ∨ (p.aut (allLeaves d).length).F x:=Z7j (X:=fun _ q n=>(q.aut n).F x)
theorem Zeb {α:Type} {d:List (Pat α)} {p:Pat α} {x y:Nat}:Gr (d++[p]) x y↔Gr d x y ∨ (p.aut (allLeaves d).length).R x y:=Z7j (X:=fun _ q n=>(q.aut n).R x y)
theorem Zd1 {α:Type} {d:List (Pat α)} {k x:Nat}:Gl d k x↔∃ (j:Nat) (q:Pat α),d[j]? = some q∧j = k∧(q.aut (off d j)).L x :=
 ⟨fun ⟨q,h1,h2⟩=>⟨k,q,h1,rfl,h2⟩,fun ⟨j,q,h1,h2,h3⟩=>by subst h2; exact ⟨q,h1,h3⟩⟩
theorem Zec {α:Type} {d:List (Pat α)} {p:Pat α} {k x:Nat}:Gl (d++[p]) k x↔Gl d k x ∨ (d.length = k∧(p.aut (allLeaves d).length).L x):=by
 rw [Zd1,Zd1]
 exact Z7j (X:=fun j q n=>j = k∧(q.aut n).L x)
theorem Zfx {α:Type} {d:List (Pat α)} {k x:Nat} (h:Gl d k x):x < (allLeaves d).length:=by
 refine El.x1_2 h fun q h1 h2=>?_
 have h3:=(Zd0 q (off d k)).l _ h2
 have h4:=Z2j d k q h1
 have h5:=Zay d (k + 1) d.length (List.getElem?_eq_some_iff.mp h1).1
 rw [Z7i] at h5
 lia
theorem all_snoc {α:Type} (d:List (Pat α)) (p:Pat α):allLeaves (d++[p]) = allLeaves d++p.leaves:=by unfold allLeaves; simp
noncomputable def stN (E:List (Nat × Nat)) (x k:Nat):List (Nat × Nat):=if E.any (fun p=>p.1 = x) then E.map (fun p=>if p.1 = x then (p.1,k) else p) else E++[(x,k)]
noncomputable def getE (E:List (Nat × Nat)) (x:Nat):Option Nat:=(E.find? fun p=>p.1 = x).map (·.2)
theorem stN_len (E:List (Nat × Nat)) (x k:Nat):(stN E x k).length ≤ E.length + 1:=by
 unfold stN; split
 ·rw [List.length_map]; lia
 ·simp
theorem Zcg (E:List (Nat × Nat)) (x k y:Nat):(E.map fun p=>if p.1 = x then (p.1,k) else p).find? (fun p=>p.1 = y) = (E.find? fun p=>p.1 = y).map fun p=>if p.1 = x then (p.1,k) else p:=by
 rw [List.find?_map]
 congr 1
 congr 1
 funext p
 simp only [Function.comp]
 split <;> rfl
theorem Zed (E:List (Nat × Nat)) (x k y:Nat):getE (stN E x k) y = if y = x then some k else getE E y:=by
 unfold stN getE
 by_cases h:E.any (fun p=>p.1 = x) = true
 ·rw [if_pos h,Zcg]
  by_cases hy:y = x
  ·subst hy
   rw [if_pos rfl]
   refine El.x1_2 (List.any_eq_true.mp h) fun p hp e=>?_
   cases hf:E.find? fun p=>p.1 = y with
   | none=>exact absurd e (by simpa using List.find?_eq_none.mp hf p hp)
   | some q=>
    have hq:q.1 = y:=by simpa using List.find?_some hf
    simp [hq]
  ·rw [if_neg hy]
   cases hf:E.find? fun p=>p.1 = y with
   | none=>rfl
   | some q=>
    have hq:q.1 = y:=by simpa using List.find?_some hf
    simp [hq,hy]
 ·rw [if_neg h,List.find?_append]
  have hn:E.find? (fun p=>p.1 = x) = none:=by
   rw [List.find?_eq_none]
   intro p hp e
   exact h (List.any_eq_true.mpr ⟨p,hp,e⟩)
  by_cases hy:y = x
  ·subst hy; rw [if_pos rfl,hn]; simp
  ·rw [if_neg hy]
   have:([(x,k)]:List (Nat × Nat)).find? (fun p=>p.1 = y) = none:=by simp [Ne.symm hy]
   rw [this,Option.or_none]
theorem Z7k (k:Nat):∀ (ls:List Nat) (E:List (Nat × Nat)),(ls.foldl (fun E x=>stN E x k) E).length ≤ E.length + ls.length∧∀ y,getE (ls.foldl (fun E x=>stN E x k) E) y = if y ∈ ls then some k else getE E y
 | [],E=>⟨Nat.le_refl _,fun y=>by simp⟩
 | x :: ls,E=>by
  refine El.x0_2 (Z7k k ls (stN E x k)) fun h1 h2=>?_
  rw [List.foldl_cons]
  refine ⟨by have:=stN_len E x k; rw [List.length_cons]; lia,fun y=>?_⟩
  rw [h2,Zed]
  by_cases a:y ∈ ls <;> by_cases b:y = x <;> simp [a,b]
noncomputable def Told {α:Type} (ps:List (Pat α)) (t:List α):Option Nat→Prop
 | none=>∀ (k:Nat) (p:Pat α),ps[k]? = some p→¬ p.lang t
 | some k=>(∃ p,ps[k]? = some p∧p.lang t)∧∀ j,j < k→∀ q,ps[j]? = some q→¬ q.lang t
structure Lvd (d:List (Pat Nat)) (W:List (List Nat)) (fi:List Nat) (em:Option Nat) (E:List (Nat × Nat)):Prop where
 len:W.length = (allLeaves d).length
 wf:Wf W
 f:∀ x,x ∈ fi↔Gf d x
 r:∀ x y,Rel W x y↔Gr d x y
 e:∀ x k,getE E x = some k↔Gl d k x
 em:Told d [] em
 fl:fi.length ≤ (allLeaves d).length
 el:E.length ≤ (allLeaves d).length
theorem Lvd.nil:Lvd [] [] [] none [] :=
 ⟨rfl,fun _ h=>(by cases h),fun x=>⟨fun h=>(by cases h),fun ⟨_,_,h,_⟩=>(by simp at h)⟩,fun x y=>⟨fun ⟨_,h,_⟩=>(by simp at h),fun ⟨_,_,h,_⟩=>(by simp at h)⟩,fun x k=>⟨fun h=>(by simp [getE] at h),fun ⟨_,h,_⟩=>(by simp at h)⟩,fun k p h=>(by simp at h),Nat.le_refl _,Nat.le_refl _⟩
theorem Lvd.step {d:List (Pat Nat)} {W W':List (List Nat)} {fi fs ls:List Nat} {em:Option Nat} {E:List (Nat × Nat)} {p:Pat Nat} {b:Bool} (x:Lvd d W fi em E) (s:Sh (p.aut W.length) p.leaves.length W b fs ls W') :
  Lvd (d++[p]) W' (fi++fs) (if b && em.isNone then some d.length else em) (ls.foldl (fun E x=>stN E x d.length) E) where
 len:=by rw [s.len,x.len,all_snoc,List.length_append]
 wf:=s.wf
 f a:=by rw [List.mem_append,x.f,s.f,Zea,x.len]
 r a c:=by rw [s.r,x.r,Zeb,x.len]
 e a k:=by
  rw [(Z7k d.length ls E).2,Zec,← x.e,← x.len]
  have hin:=Zd0 p W.length
  by_cases h:a ∈ ls
  ·rw [if_pos h]
   have hl:=(s.l a).mp h
   have hn:getE E a = none:=by
    cases hg:getE E a with
    | none=>rfl
    | some j=>
     have h1:=Zfx ((x.e a j).mp hg)
     have h2:=hin.l _ hl
     rw [x.len] at h2
     lia
   rw [hn]
   exact ⟨fun e=>.inr ⟨Option.some.inj e,hl⟩,fun e=>e.elim (fun e=>(by cases e)) fun e=>by rw [e.1]⟩
  ·rw [if_neg h]
   exact ⟨.inl,fun e=>e.elim id fun e=>absurd ((s.l a).mpr e.2) h⟩
 em:=by
  have hb:p.lang []↔b = true:=by
   have:=(p.acc W.length (ZaA p.leaves W.length)).2 []
   rw [← this,s.bare]; rfl
  have hx:=x.em
  cases em with
  | some k=>
   rw [Option.isNone_some,Bool.and_false]
   refine El.x0_2 hx fun q1z h3=>?_
   refine El.x1_2 q1z fun q h1 h2=>?_
   have hk:=(List.getElem?_eq_some_iff.mp h1).1
   refine ⟨⟨q,snoc_get.mpr (.inl ⟨h1,hk⟩),h2⟩,fun j hj q' hq'=>?_⟩
   rcases snoc_get.mp hq' with ⟨g1,_⟩ | ⟨g1,_⟩
   ·exact h3 j hj q' g1
   ·lia
  | none=>
   rw [Option.isNone_none,Bool.and_true]
   cases b with
   | true=>
    refine ⟨⟨p,snoc_get.mpr (.inr ⟨rfl,rfl⟩),hb.mpr rfl⟩,fun j hj q' hq'=>?_⟩
    rcases snoc_get.mp hq' with ⟨g1,_⟩ | ⟨g1,_⟩
    ·exact hx j q' g1
    ·lia
   | false=>
    intro j q' hq' hl
    rcases snoc_get.mp hq' with ⟨g1,_⟩ | ⟨_,g2⟩
    ·exact hx j q' g1 hl
    ·subst g2; exact absurd (hb.mp hl) (by simp)
 fl:=by have h1:=x.fl; have h2:=s.fl; rw [List.length_append,all_snoc,List.length_append]; lia
 el:=by have h1:=x.el; have h2:=(Z7k d.length ls E).1; have h3:=s.ll; rw [all_snoc,List.length_append]; lia
noncomputable def minO:List Nat→Option Nat
 | []=>none
 | k :: l=>some (l.foldl min k)
end Glu
namespace Mine
open PySem
noncomputable def intT (x y:V) (k:Int→Int→Prop):Prop:=match x with
 | .int a=>(match y with | .int b=>k a b | _=>True)
 | _=>True
noncomputable def Z1a {α:Type} (o:Option α) (k:α→Prop):Prop:=∀ ⦃v:α⦄,o = some v→k v
noncomputable def okT {α:Type} (m:R α) (k:α→St→Prop):Prop:=∀ ⦃v:α⦄ ⦃ρ:List (Option V)⦄ ⦃σ:List O⦄,m = .ok v ⟨ρ,σ⟩→k v ⟨ρ,σ⟩
noncomputable def nzT (b:Int) (P:Prop):Prop:=(b == 0) = false→P
noncomputable def binT (op:Op) (x y:V) (k:V→Prop):Prop:=match op with
 | .add=>(match x with
  | .int a=>(match y with | .int b=>k (.int (a + b)) | _=>True)
  | _=>Z1a (Z2Y x y) k)
 | .sub=>intT x y fun a b=>k (.int (a - b))
 | .mul=>Z1a (Z4x x y) k
 | .fdiv=>intT x y fun a b=>nzT b (k (.int (Int.fdiv a b)))
 | .mod=>intT x y fun a b=>nzT b (k (.int (Int.fmod a b)))
noncomputable def cmpT (σ:List O) (op:Cm) (x y:V) (k:Bool→Prop):Prop:=match op with
 | .lt=>intT x y fun a b=>k (decide (a < b))
 | .le=>intT x y fun a b=>k (decide (a ≤ b))
 | .gt=>intT x y fun a b=>k (decide (a > b))
 | .ge=>intT x y fun a b=>k (decide (a ≥ b))
 | .eq=>(match x with
  | .int a=>(match y with | .int b=>k (a == b) | _=>True)
  | .str a=>(match y with | .str b=>k (a == b) | _=>True)
  | _=>Z1a (Z1U σ .eq x y) k)
 | .ne=>(match x with
  | .int a=>(match y with | .int b=>k (!(a == b)) | _=>True)
  | .str a=>(match y with | .str b=>k (!(a == b)) | _=>True)
  | _=>Z1a (Z1U σ .ne x y) k)
 | .is=>(match y with | .none=>k x.isNone | _=>True)
 | .isnot=>(match y with | .none=>k (!x.isNone) | _=>True)
 | .isin=>Z1a (inD σ x y) k
 | .notin=>Z1a (inD σ x y) fun b=>k (!b)
noncomputable def truT (σ:List O) (x:V) (k:Bool→Prop):Prop:=match x with
 | .bool b=>k b
 | .int i=>k (i != 0)
 | .none=>k false
 | .str s=>k (!s.isEmpty)
 | .tup xs=>k (!xs.isEmpty)
 | .lst xs=>k (!xs.isEmpty)
 | x=>Z1a (x.truthy σ) k
noncomputable def brT (t:Bool) (A B:Prop):Prop:=∀ ⦃b:Bool⦄,t = b→cond b A B
noncomputable def isT {α:Type} (x:α) (k:α→Prop):Prop:=∀ ⦃y:α⦄,x = y→k y
noncomputable def newT (σ:List O) (o:O) (k:Nat→List O→Prop):Prop:=∀ ⦃n:Nat⦄ ⦃σ':List O⦄,σ.length = n→σ++[o] = σ'→k n σ'
noncomputable def V.wb:V→Bool→V
 | .bool _,b=>.bool b
 | x,_=>x
noncomputable def locT (o:Option (Option V)) (k:V→Prop):Prop:=match o with
 | some (some v)=>k v
 | _=>True
noncomputable def fzT (i:Nat) (st:St) (k:V→St→Prop):Prop:=locT st.ρ[i]? fun v=>match v with
 | .ref n=>∀ ⦃xs:List V⦄ ⦃σ:List O⦄,st.σ[n]? = some (.lst xs)→st.σ.set n .dead = σ→k (.lst xs) ⟨st.ρ.set i (some (.lst xs)),σ⟩
 | .lst xs=>k (.lst xs) st
 | _=>True
noncomputable def nlen:Nat→Exs→Bool
 | _,.nil=>true
 | 0,.cons _ _=>false
 | n + 1,.cons _ es=>nlen n es
noncomputable def shT (b:Bool) (P:Prop):Prop:=match b with
 | true=>P
 | false=>True
mutual
noncomputable def tlE (F:Fn):Ex→St→(V→St→Prop)→Prop
 | .none,st,k=>k .none st
 | .bool b,st,k=>k (.bool b) st
 | .int i,st,k=>k (.int i) st
 | .str s,st,k=>k (.str s.cps.toList) st
 | .loc i,st,k=>locT st.ρ[i]? fun v=>k v st
 | .fz i,st,k=>fzT i st k
 | .bin op a b,st,k=>tlE F a st fun x st=>tlE F b st fun y st=>binT op x y fun v=>k v st
 | .cmp op a b,st,k=>tlE F a st fun x st=>tlE F b st fun y st=>cmpT st.σ op x y fun v=>k (.bool v) st
 | .band a b,st,k=>tlE F a st fun x st=>truT st.σ x fun t=>brT t (tlE F b st k) (k (x.wb false) st)
 | .bor a b,st,k=>tlE F a st fun x st=>truT st.σ x fun t=>brT t (k (x.wb true) st) (tlE F b st k)
 | .not a,st,k=>tlE F a st fun x st=>truT st.σ x fun t=>k (.bool (!t)) st
 | .neg i,st,k=>k (.int (-i)) st
 | .ite c a b,st,k=>tlE F c st fun x st=>truT st.σ x fun t=>brT t (tlE F a st k) (tlE F b st k)
 | .tup es,st,k=>shT (nlen 100 es) (tlEs F es st fun xs st=>k (.tup xs) st)
 | .list es,st,k=>shT (nlen 100 es) (tlEs F es st fun xs st=>k (.lst xs) st)
 | .listM es,st,k=>shT (nlen 100 es) (tlEs F es st fun xs st=>newT st.σ (.lst xs) fun n σ=>k (.ref n) ⟨st.ρ,σ⟩)
 | .sub a i,st,k=>tlE F a st fun x st=>tlE F i st fun y st=>Z1a (Z28 st.σ x y) fun v=>k v st
 | .slice a lo hi,st,k=>tlE F a st fun x st=>tlO F lo st fun l st=>tlO F hi st fun h st=>Z1a (Z0A st.σ x l h) fun v=>k v st
 | .isin a t,st,k=>tlE F a st fun x st=>Z1a (Zdc st.σ t x) fun v=>k (.bool v) st
 | .bi f a,st,k=>tlE F a st fun x st=>Z1a (Z4p st.σ f x) fun v=>k v st
 | .me m a b,st,k=>tlE F a st fun x st=>Z5Q st.σ m x = true→tlE F b st fun y st=>okT (Z1p m x y st) k
 | .call f es,st,k=>tlEs F es st fun xs st=>okT (F f xs st.σ) fun v s=>k v ⟨st.ρ,s.σ⟩
 | .glob _ i,st,k=>k (.int i) st
 | .dictM,st,k=>newT st.σ (.idict []) fun n σ=>k (.ref n) ⟨st.ρ,σ⟩
 | .attr a j,st,k=>tlE F a st fun x st=>Z1a (Z1Y (clsF F) st.σ x j) fun v=>k v st
 | .newI,st,k=>okT (F Z0g [] st.σ) fun v s=>k v ⟨st.ρ,s.σ⟩
 | .lenSet a,st,k=>tlE F a st fun x st=>Z1a (Z1q x) fun v=>k v st
 | .sset a,st,k=>tlE F a st fun x st=>Z1a (Z3q x) fun v=>k v st
 | .min2 a b,st,k=>tlE F a st fun x st=>tlE F b st fun y st=>intT x y fun a b=>k (.int (if b < a then b else a)) st
 | .pop a,st,k=>tlE F a st fun x st=>okT (popR x st) k
 | .comp elt j it ifs,st,k=>okT (evE F (.comp elt j it ifs) st) k
noncomputable def tlEs (F:Fn):Exs→St→(List V→St→Prop)→Prop
 | .nil,st,k=>k [] st
 | .cons e es,st,k=>tlE F e st fun x st=>tlEs F es st fun xs st=>k (x :: xs) st
noncomputable def tlO (F:Fn):Exo→St→(V→St→Prop)→Prop
 | .none,st,k=>k .none st
 | .some e,st,k=>tlE F e st k
noncomputable def tlIt (F:Fn):It→St→(List V→St→Prop)→Prop
 | .val e,st,k=>tlE F e st fun x st=>Z1a (Z1G st.σ x) fun v=>k v st
 | .range1 a,st,k=>tlE F a st fun x st=>(match x with
  | .int n=>isT n fun n=>Z0O n = true→k (upTo 0 n) st
  | _=>True)
 | .enum a,st,k=>tlE F a st fun x st=>(match x with
  | .lst xs=>isT (st.σ++[.priv]) fun σ=>k (Z2w 0 xs) ⟨st.ρ,σ⟩
  | _=>True)
end
noncomputable def tlTs (F:Fn):Exs→St→(Bool→St→Prop)→Prop
 | .nil,st,k=>k true st
 | .cons e es,st,k=>tlE F e st fun x st=>truT st.σ x fun t=>brT t (tlTs F es st k) (k false st)
noncomputable def cdT (o:Bool) (A B:Prop):Prop:=match o with
 | false=>A
 | true=>B
noncomputable def flT (fl:Fl) (A:Prop) (B:Prop):Prop:=match fl with
 | .next=>A
 | _=>B
mutual
noncomputable def tlS (F:Fn) (K:Nat) (o:Bool):Sm→St→(Fl→St→Prop)→Prop
 | .asg i e,st,k=>tlE F e st fun x st=>isT x fun x=>k .next ⟨st.ρ.set i (some x),st.σ⟩
 | .asgT is e,st,k=>tlE F e st fun x st=>okT (asT is x st) fun _ st=>k .next st
 | .expr e,st,k=>tlE F e st fun _ st=>k .next st
 | .ret e,st,k=>tlE F e st fun x st=>isT x fun x=>k (.ret x) st
 | .ifte c t f,st,k=>cdT o (tlE F c st fun x st=>truT st.σ x fun b=>brT b (tlSs F K o t st k) (tlSs F K o f st k)) (okT (Z0h (evE F c st)) fun b st=>cond b (tlSs F K o t st k) (tlSs F K o f st k))
 | .for1 i it body,st,k=>tlIt F it st fun items st=>okT (forR (fun x st=>evSs F K body (setV st i x)) items st) k
 | .forT is it body,st,k=>tlIt F it st fun items st=>okT (forR (fun x st=>(asT is x st).bind fun _ st=>evSs F K body st) items st) k
 | .brk,st,k=>k .brk st
 | .stk,_,_=>True
 | .asgI a i e,st,k=>tlE F e st fun v st=>tlE F a st fun x st=>tlE F i st fun y st=>okT (setI x y v st) k
 | .asgA a j e,st,k=>tlE F e st fun v st=>tlE F a st fun x st=>okT (setA (clsF F) x v j st) k
noncomputable def tlSs (F:Fn) (K:Nat) (o:Bool):Sms→St→(Fl→St→Prop)→Prop
 | .nil,st,k=>k .next st
 | .cons s ss,st,k=>tlS F K o s st fun fl st=>flT fl (tlSs F K o ss st k) (k fl st)
end
section
variable {F:Fn} {K:Nat} {st:St}
noncomputable def Aft {α:Type} (m:R α) (k:α→St→Prop):Prop:=∀ v st',m = .ok v st'→k v st'
theorem Aft.bind {α β:Type} {m:R α} {f:α→St→R β} {k:β→St→Prop} (h:Aft (m.bind f) k):Aft m fun a st=>Aft (f a st) k:=fun a st e b st' e'=>h b st' ((congrArg (fun m=>R.bind m f) e).trans e')
theorem Aft.at {α:Type} {a:α} {k:α→St→Prop} (h:Aft (.ok a st) k):k a st:=h a st rfl
theorem Aft.lift {α:Type} {o:Option α} {k:α→St→Prop} (h:Aft (R.lift o st) k):Z1a o fun a=>k a st:=fun v e=>h v st (congrArg (fun o=>R.lift o st) e)
theorem Aft.liftB {o:Option Bool} {k:V→St→Prop} (h:Aft (R.lift (o.map V.bool) st) k):Z1a o fun a=>k (.bool a) st:=fun v e=>h _ st (congrArg (fun o=>R.lift (o.map V.bool) st) e)
theorem Aft.ok {α:Type} {m:R α} {k:α→St→Prop} (h:Aft m k):okT m k:=fun v ρ σ e=>h v ⟨ρ,σ⟩ e
theorem Aft.int {x y:V} {g:Int→Int→Option V} {k:V→St→Prop} (h:Aft (R.lift (onI x y g) st) k):intT x y fun a b=>Z1a (g a b) fun v=>k v st:=by
 cases x <;> first | trivial | (cases y <;> first | trivial | exact h.lift)
theorem Aft.ifs {α:Type} {p:Prop} [Decidable p] {a b:R α} {k:α→St→Prop} (h:Aft (if p then a else b) k) (hp:p):Aft a k:=by rw [if_pos hp] at h; exact h
theorem Aft.br {α:Type} {t:Bool} {a b:R α} {k:α→St→Prop} (h:Aft (if t then a else b) k):brT t (Aft a k) (Aft b k):=fun u e=>by
 subst e
 cases t with
 | true=>exact h
 | false=>exact h
theorem brT.imp {t:Bool} {A B A' B':Prop} (h:brT t A B) (a:A→A') (b:B→B'):brT t A' B':=fun u e=>by
 have q:=h e
 cases u with
 | true=>exact a q
 | false=>exact b q
theorem Zf0 {σ:List O} {x:V} {t:Bool} (h:x.truthy σ = some t):x = x.wb t:=by
 cases x <;> first | rfl | exact congrArg V.bool (Option.some.inj h)
theorem brT.impf {σ:List O} {x:V} {t:Bool} {A A' B:Prop} {k:V→St→Prop} {st:St} (h:brT t A B) (e:x.truthy σ = some t) (a:A→A') (b:B→k x st):brT t A' (k (x.wb false) st):=fun u q=>by
 have r:=h q
 cases u with
 | true=>exact a r
 | false=>rw [q] at e; rw [← Zf0 e]; exact b r
theorem brT.impt {σ:List O} {x:V} {t:Bool} {A B B':Prop} {k:V→St→Prop} {st:St} (h:brT t A B) (e:x.truthy σ = some t) (a:A→k x st) (b:B→B'):brT t (k (x.wb true) st) B':=fun u q=>by
 have r:=h q
 cases u with
 | true=>rw [q] at e; rw [← Zf0 e]; exact a r
 | false=>exact b r
theorem Zfy {op:Op} {x y:V} {k:V→St→Prop} (h:Aft (R.lift (Z3o op x y) st) k):binT op x y fun v=>k v st:=by
 have h:=h.lift
 cases op with
 | add=>cases x <;> first | exact h | (cases y <;> first | trivial | exact h rfl)
 | sub=>cases x <;> first | trivial | (cases y <;> first | trivial | exact h rfl)
 | mul=>exact h
 | fdiv=>cases x <;> first | trivial | (cases y <;> first | trivial | exact fun e=>h (if_neg (ne_of_beq_false e)))
 | mod=>cases x <;> first | trivial | (cases y <;> first | trivial | exact fun e=>h (if_neg (ne_of_beq_false e)))
theorem Zfz {σ:List O} {op:Cm} {x y:V} {k:Bool→Prop} (h:Z1a (Z1U σ op x y) k):cmpT σ op x y k:=by
 cases op with
 | lt=>cases x <;> first | trivial | (cases y <;> first | trivial | exact h rfl)
 | le=>cases x <;> first | trivial | (cases y <;> first | trivial | exact h rfl)
 | gt=>cases x <;> first | trivial | (cases y <;> first | trivial | exact h rfl)
 | ge=>cases x <;> first | trivial | (cases y <;> first | trivial | exact h rfl)
 | eq=>cases x <;> first | exact h | (cases y <;> first | trivial | exact h rfl)
 | ne=>cases x <;> first | exact h | (cases y <;> first | trivial | exact h rfl)
 | is=>cases y <;> first | trivial | exact h rfl
 | isnot=>cases y <;> first | trivial | exact h rfl
 | isin=>exact h
 | notin=>exact fun b e=>h (congrArg (Option.map not) e)
theorem Zee {σ:List O} {x:V} {k:Bool→Prop} (h:Z1a (x.truthy σ) k):truT σ x k:=by
 cases x <;> first | exact h | exact h rfl
theorem Zf1 {o:Option (Option V)} {k:V→Prop} (h:∀ v,o = some (some v)→k v):locT o k:=by
 rcases o with _ | _ | v
 ·trivial
 ·trivial
 ·exact h v rfl
theorem fz_t {i:Nat} {k:V→St→Prop} (h:Aft (evE F (.fz i) st) k):fzT i st k:=by
 refine Zf1 fun v e=>?_
 cases v <;> first | trivial | skip
 ·have h:=h
  rw [Z9r,e] at h
  exact h.at
 ·intro xs σ e1 e2
  subst e2
  rw [Z9r,e] at h
  dsimp only at h
  rw [e1] at h
  exact h.at
theorem ZaB:∀ (es:Exs) (n:Nat),nlen n es = true→∀ (st:St),Aft (evEs F es st) fun xs _=>xs.length ≤ n :=
 Exs.rec (motive_1:=fun _=>True) (motive_3:=fun _=>True) (motive_4:=fun _=>True) (motive_2:=fun es=>∀ n,nlen n es = true→∀ st,Aft (evEs F es st) fun xs _=>xs.length ≤ n)
  trivial (fun _=>trivial) (fun _=>trivial) (fun _=>trivial) (fun _=>trivial) (fun _=>trivial) (fun _ _ _ _ _=>trivial) (fun _ _ _ _ _=>trivial) (fun _ _ _ _=>trivial) (fun _ _ _ _=>trivial) (fun _ _=>trivial) (fun _=>trivial) (fun _ _ _ _ _ _=>trivial) (fun _ _=>trivial) (fun _ _=>trivial) (fun _ _=>trivial) (fun _ _ _ _=>trivial) (fun _ _ _ _ _ _=>trivial) (fun _ _ _=>trivial) (fun _ _ _=>trivial) (fun _ _ _ _ _=>trivial) (fun _ _ _=>trivial) (fun _ _=>trivial) trivial (fun _ _ _=>trivial) trivial (fun _ _=>trivial) (fun _ _=>trivial) (fun _ _ _ _=>trivial) (fun _ _=>trivial) (fun _ _ _ _ _ _ _=>trivial)
  (fun n _ st v st' e=>by cases (e:R.ok [] st = _); exact Nat.zero_le _)
  (fun e es _ ih n q st v st' h=>by
   cases n with
   | zero=>cases q
   | succ n=>
    refine El.x2_2 (R.bind_inv (f:=fun x st=>(evEs F es st).bind fun xs st=>.ok (x :: xs) st) h) fun x st₁ _ h2=>?_
    refine El.x2_2 (R.bind_inv h2) fun ys st₂ h3 h4=>?_
    cases h4; exact Nat.succ_le_succ (ih n q st₁ ys _ h3))
  trivial (fun _ _=>trivial) (fun _ _=>trivial) (fun _ _=>trivial) (fun _ _=>trivial)
theorem sh_t {b:Bool} {P:Prop} (h:b = true→P):shT b P:=by
 cases b with
 | true=>exact h rfl
 | false=>trivial
theorem Aft.step {α β:Type} {m:R α} {f:α→St→R β} {k:β→St→Prop} {k':α→St→Prop} (h:Aft (m.bind f) k) (g:∀ a st,Aft (f a st) k→k' a st):Aft m k':=fun a st e=>g a st fun b st' e'=>h b st' ((congrArg (fun m=>R.bind m f) e).trans e')
theorem Aft.tru {m:R V} {k:Bool→St→Prop} (h:Aft (Z0h m) k):Aft m fun x st=>truT st.σ x fun t=>k t st:=Aft.step h fun _ _ h=>Zee h.lift
theorem Aft.trus {β:Type} {m:R V} {f:Bool→St→R β} {k:β→St→Prop} {k':V→St→Prop} (h:Aft ((Z0h m).bind f) k) (g:∀ x st,truT st.σ x (fun t=>Aft (f t st) k)→k' x st):Aft m k':=fun a st e=>g a st (h.bind.tru a st e)
theorem truT.imp {σ:List O} {x:V} {k k':Bool→Prop} (h:truT σ x k) (g:∀ t,k t→k' t):truT σ x k':=by
 cases x <;> first | exact g _ h | exact fun v e=>g _ (h e)
theorem Aft.size {c:List V→V} {es:Exs} {k:V→St→Prop} {f:List V→St→St} (h:Aft ((evEs F es st).bind fun xs st=>if xs.length ≤ sizeLine then .ok (c xs) (f xs st) else .stuck) k) (q:nlen 100 es = true):Aft (evEs F es st) fun xs st=>k (c xs) (f xs st):=fun xs st' e=>by
 exact (h.bind xs st' e).ifs (Nat.le_trans (ZaB es 100 q st xs st' e) (by decide)) |>.at
theorem Zf2 {σ:List O} {o:O} {k:Nat→List O→Prop} (h:k σ.length (σ++[o])):newT σ o k:=fun _ _ e e'=>e ▸ e' ▸ h
theorem okc {m:R V} {ρ:List (Option V)} {k:V→St→Prop} (h:Aft (Z8M m ρ) k):okT m fun v s=>k v ⟨ρ,s.σ⟩:=fun v ρ' σ e=>h v ⟨ρ,σ⟩ (congrArg (fun m=>Z8M m ρ) e)
theorem Z0p (F:Fn) (e:Ex):∀ st k,Aft (evE F e st) k→tlE F e st k :=
 Ex.rec (motive_1:=fun e=>∀ st k,Aft (evE F e st) k→tlE F e st k) (motive_2:=fun e=>∀ st k,Aft (evEs F e st) k→tlEs F e st k) (motive_3:=fun e=>∀ st k,Aft (evO F e st) k→tlO F e st k) (motive_4:=fun _=>True)
  (fun st k h=>h.at) (fun b st k h=>h.at) (fun i st k h=>h.at) (fun x st k h=>h.at)
  (fun i st k h=>Zf1 fun v e=>by rw [Z3r,e] at h; exact h.at)
  (fun i st k h=>fz_t h)
  (fun op a b iha ihb st k h=>iha st _ (Aft.step h fun x st h=>ihb st _ (Aft.step h fun y st h=>Zfy h)))
  (fun op a b iha ihb st k h=>iha st _ (Aft.step h fun x st h=>ihb st _ (Aft.step h fun y st h=>Zfz h.liftB)))
  (fun a b iha ihb st k h=>iha st _ (Aft.step h fun x st h=>Zee fun t e=>(h.bind t st (congrArg (fun o=>R.lift o st) e)).br.impf e (ihb st k) fun h=>h.at))
  (fun a b iha ihb st k h=>iha st _ (Aft.step h fun x st h=>Zee fun t e=>(h.bind t st (congrArg (fun o=>R.lift o st) e)).br.impt e (fun h=>h.at) (ihb st k)))
  (fun a iha st k h=>iha st _ (Aft.trus h fun x st h=>h.imp fun t h=>h.at))
  (fun i st k h=>h.at)
  (fun c a b ihc iha ihb st k h=>ihc st _ (Aft.trus h fun x st h=>h.imp fun t h=>h.br.imp (iha st k) (ihb st k)))
  (fun es ih st k h=>sh_t fun q=>ih st _ (Aft.size (c:=V.tup) (f:=fun _ st=>st) h q))
  (fun es ih st k h=>sh_t fun q=>ih st _ (Aft.size (c:=V.lst) (f:=fun _ st=>st) h q))
  (fun es ih st k h=>sh_t fun q=>ih st _ fun xs st' e=>(Aft.bind (β:=V) (f:=fun xs st=>if xs.length ≤ sizeLine then .ok (V.ref st.σ.length) ⟨st.ρ,st.σ++[O.lst xs]⟩ else .stuck) h xs st' e).ifs (Nat.le_trans (ZaB es 100 q st xs st' e) (by decide)) |>.at |> Zf2)
  (fun a b iha ihb st k h=>iha st _ (Aft.step h fun x st h=>ihb st _ (Aft.step h fun y st h=>h.lift)))
  (fun a lo hi iha ihl ihh st k h=>iha st _ (Aft.step h fun x st h=>ihl st _ (Aft.step h fun l st h=>ihh st _ (Aft.step h fun y st h=>h.lift))))
  (fun a t iha st k h=>iha st _ (Aft.step h fun x st h=>h.liftB))
  (fun f a iha st k h=>iha st _ (Aft.step h fun x st h=>h.lift))
  (fun m a b iha ihb st k h=>iha st _ (Aft.step h fun x st h q=>ihb st _ (Aft.step (h.ifs q) fun y st h=>h.ok)))
  (fun f es ih st k h=>ih st _ (Aft.step h fun xs st h=>okc h))
  (fun x i st k h=>h.at)
  (fun st k h=>Zf2 (k:=fun n σ=>k (.ref n) ⟨st.ρ,σ⟩) h.at)
  (fun a j iha st k h=>iha st _ (Aft.step h fun x st h=>h.lift))
  (fun st k h=>okc h)
  (fun a iha st k h=>iha st _ (Aft.step h fun x st h=>h.lift))
  (fun a iha st k h=>iha st _ (Aft.step h fun x st h=>h.lift))
  (fun a b iha ihb st k h=>iha st _ (Aft.step h fun x st h=>ihb st _ (Aft.step h fun y st h=>by
   have h:=h.lift
   cases x <;> first | trivial | (cases y <;> first | trivial | exact h rfl))))
  (fun a iha st k h=>iha st _ (Aft.step h fun x st h=>h.ok))
  (fun elt j it ifs _ _ _ st k h=>h.ok)
  (fun st k h=>h.at)
  (fun e es ihe ihs st k h=>ihe st _ (Aft.step h fun x st h=>ihs st _ (Aft.step h fun xs st h=>h.at)))
  (fun st k h=>h.at) (fun e ih st k h=>ih st k h)
  (fun _ _=>trivial) (fun _ _=>trivial) (fun _ _=>trivial) e
theorem Z40 (F:Fn) (it:It):∀ st k,Aft (evIt F it st) k→tlIt F it st k :=
 It.casesOn (motive_4:=fun it=>∀ st k,Aft (evIt F it st) k→tlIt F it st k) it
  (fun e st k h=>Z0p F e st _ (Aft.step h fun x st h=>h.lift))
  (fun e st k h=>Z0p F e st _ (Aft.step h fun x st h=>by cases x <;> first | trivial | exact fun m e q=>by subst e; exact (h.ifs q).at))
  (fun e st k h=>Z0p F e st _ (Aft.step h fun x st h=>by cases x <;> first | trivial | exact fun _ e=>e ▸ h.at))
theorem Zd2 {fl:Fl} {ss:Sms} {k:Fl→St→Prop} {P:Prop} (hP:Aft (evSs F K ss st) k→P) (h:Aft (match fl with | .next=>evSs F K ss st | f=>.ok f st) k):flT fl P (k fl st):=by
 cases fl with
 | next=>exact hP h
 | brk=>exact h.at
 | cont=>exact h.at
 | ret v=>exact h.at
theorem cd_t {o:Bool} {A B:Prop} (a:A) (b:B):cdT o A B:=by cases o <;> assumption
theorem Zd3 (F:Fn) (K:Nat) (o:Bool):(∀ s st k,Aft (evS F K s st) k→tlS F K o s st k)∧(∀ ss st k,Aft (evSs F K ss st) k→tlSs F K o ss st k) :=
 ⟨fun s=>Sm.rec (motive_1:=fun s=>∀ st k,Aft (evS F K s st) k→tlS F K o s st k) (motive_2:=fun ss=>∀ st k,Aft (evSs F K ss st) k→tlSs F K o ss st k)
  (fun i e st k h=>Z0p F e st _ (Aft.step h fun x st h y e=>e ▸ h.at))
  (fun is e st k h=>Z0p F e st _ (Aft.step h fun x st h=>(Aft.step h fun _ st h=>h.at).ok))
  (fun e st k h=>Z0p F e st _ (Aft.step h fun x st h=>h.at))
  (fun e st k h=>Z0p F e st _ (Aft.step h fun x st h y e=>e ▸ h.at))
  (fun c t f iht ihf st k h=>cd_t (Z0p F c st _ (Aft.trus h fun x st h=>h.imp fun t h=>h.br.imp (iht st k) (ihf st k))) (Aft.ok (Aft.step h fun b st h=>(h.br.imp (iht st k) (ihf st k)) rfl)))
  (fun i it body _ st k h=>Z40 F it st _ (Aft.step h fun xs st h=>h.ok))
  (fun is it body _ st k h=>Z40 F it st _ (Aft.step h fun xs st h=>h.ok))
  (fun st k h=>h.at)
  (fun st k h=>trivial)
  (fun a i e st k h=>Z0p F e st _ (Aft.step h fun v st h=>Z0p F a st _ (Aft.step h fun x st h=>Z0p F i st _ (Aft.step h fun y st h=>h.ok))))
  (fun a j e st k h=>Z0p F e st _ (Aft.step h fun v st h=>Z0p F a st _ (Aft.step h fun x st h=>h.ok)))
  (fun st k h=>h.at)
  (fun s ss ihs ihss st k h=>ihs st _ (Aft.step h fun fl st h=>Zd2 (ihss st k) h))
  s,fun ss=>Sms.rec (motive_1:=fun s=>∀ st k,Aft (evS F K s st) k→tlS F K o s st k) (motive_2:=fun ss=>∀ st k,Aft (evSs F K ss st) k→tlSs F K o ss st k)
  (fun i e st k h=>Z0p F e st _ (Aft.step h fun x st h y e=>e ▸ h.at))
  (fun is e st k h=>Z0p F e st _ (Aft.step h fun x st h=>(Aft.step h fun _ st h=>h.at).ok))
  (fun e st k h=>Z0p F e st _ (Aft.step h fun x st h=>h.at))
  (fun e st k h=>Z0p F e st _ (Aft.step h fun x st h y e=>e ▸ h.at))
  (fun c t f iht ihf st k h=>cd_t (Z0p F c st _ (Aft.trus h fun x st h=>h.imp fun t h=>h.br.imp (iht st k) (ihf st k))) (Aft.ok (Aft.step h fun b st h=>(h.br.imp (iht st k) (ihf st k)) rfl)))
  (fun i it body _ st k h=>Z40 F it st _ (Aft.step h fun xs st h=>h.ok))
  (fun is it body _ st k h=>Z40 F it st _ (Aft.step h fun xs st h=>h.ok))
  (fun st k h=>h.at)
  (fun st k h=>trivial)
  (fun a i e st k h=>Z0p F e st _ (Aft.step h fun v st h=>Z0p F a st _ (Aft.step h fun x st h=>Z0p F i st _ (Aft.step h fun y st h=>h.ok))))
  (fun a j e st k h=>Z0p F e st _ (Aft.step h fun v st h=>Z0p F a st _ (Aft.step h fun x st h=>h.ok)))
  (fun st k h=>h.at)
  (fun s ss ihs ihss st k h=>ihs st _ (Aft.step h fun fl st h=>Zd2 (ihss st k) h))
  ss⟩
theorem ZaC (F:Fn) (K:Nat) (o:Bool) (s:Sm):∀ st k,Aft (evS F K s st) k→tlS F K o s st k:=(Zd3 F K o).1 s
theorem Z7l (F:Fn) (K:Nat) (o:Bool) (ss:Sms):∀ st k,Aft (evSs F K ss st) k→tlSs F K o ss st k:=(Zd3 F K o).2 ss
noncomputable def tlP (F:Fn) (K:Nat) (o:Bool):Nat→Sms→St→(Sms→St→Prop)→Prop
 | 0,ss,st,k=>k ss st
 | _ + 1,.nil,_,_=>True
 | n + 1,.cons s ss,st,k=>tlS F K o s st fun fl st=>flT fl (tlP F K o n ss st k) True
theorem ZaD (F:Fn) (K:Nat) (o:Bool):∀ (n:Nat) (ss:Sms) (st:St) (k:Sms→St→Prop),(∀ ss' st',evSs F K ss st = evSs F K ss' st'→k ss' st')→tlP F K o n ss st k
 | 0,ss,st,k,h=>h ss st rfl
 | _ + 1,.nil,_,_,_=>trivial
 | n + 1,.cons s ss,st,k,h=>ZaC F K o s st _ fun fl st1 e=>by
  cases fl <;> first | trivial | exact ZaD F K o n ss st1 k fun ss' st' q=>h ss' st' ((congrArg (fun m=>R.bind m _) e).trans q)
theorem atS {ss:Sms} {r:R Fl} (t:(tlSs F K false ss st fun fl st'=>evSs F K ss st = .ok fl st')→evSs F K ss st = r):evSs F K ss st = r:=t (Z7l F K false ss st _ fun _ _ e=>e)
theorem at1 {s:Sm} {r:R Fl} (t:(tlS F K false s st fun fl st'=>evS F K s st = .ok fl st')→evS F K s st = r):evS F K s st = r:=t (ZaC F K false s st _ fun _ _ e=>e)
theorem atE {e:Ex} {r:R V} (t:(tlE F e st fun v st'=>evE F e st = .ok v st')→evE F e st = r):evE F e st = r:=t (Z0p F e st _ fun _ _ e=>e)
theorem atQ {e:Ex} {r:R Bool} (t:(tlE F e st fun v st'=>truT st'.σ v fun b=>Z0h (evE F e st) = .ok b st')→Z0h (evE F e st) = r):Z0h (evE F e st) = r:=t (Z0p F e st _ (Aft.tru (k:=fun b st'=>Z0h (evE F e st) = .ok b st') fun _ _ e=>e))
theorem atP (n:Nat) {ss:Sms} {r:R Fl} (t:(tlP F K false n ss st fun ss' st'=>evSs F K ss st = evSs F K ss' st')→evSs F K ss st = r):evSs F K ss st = r:=t (ZaD F K false n ss st _ fun _ _ e=>e)
theorem atI {e:It} {r:R (List V)} (t:(tlIt F e st fun v st'=>evIt F e st = .ok v st')→evIt F e st = r):evIt F e st = r:=t (Z40 F e st _ fun _ _ e=>e)
theorem atC {ss:Sms} {r:R Fl} (t:(tlSs F K true ss st fun fl st'=>evSs F K ss st = .ok fl st')→evSs F K ss st = r):evSs F K ss st = r:=t (Z7l F K true ss st _ fun _ _ e=>e)
theorem Zf3 {i:Nat} {x:V} (h:st.ρ[i]? = some (some x)):evE F (.loc i) st = .ok x st:=by rw [Z3r,h]
theorem Zf4 {i:Nat} {x:V} {xs:List V} (h:st.ρ[i]? = some (some x)) (h2:Z1G st.σ x = some xs):evIt F (.val (.loc i)) st = .ok xs st:=(congrArg (fun m=>R.bind m fun x st=>R.lift (Z1G st.σ x) st) (Zf3 h)).trans (congrArg (fun o=>R.lift o st) h2)
theorem Zch {σ:List O} {x:List Nat} {i:Int} {c:Nat} (h:Z0n x i = some c):Z28 σ (.str x) (.int i) = some (.str [c]):=congrArg (Option.map fun c=>V.str [c]) h
theorem at1C {s:Sm} {r:R Fl} (t:(tlS F K true s st fun fl st'=>evS F K s st = .ok fl st')→evS F K s st = r):evS F K s st = r:=t (ZaC F K true s st _ fun _ _ e=>e)
theorem okb {m:R Bool} {b b':Bool} (h:m = .ok b st) (e:b = b'):m = .ok b' st:=e ▸ h
theorem if_t {c:Ex} {A B:Sms} {st':St} (h:Z0h (evE F c st) = .ok true st'):evS F K (.ifte c A B) st = evSs F K A st':=(congrArg (fun m=>R.bind m _) h).trans rfl
theorem if_f {c:Ex} {A B:Sms} {st':St} (h:Z0h (evE F c st) = .ok false st'):evS F K (.ifte c A B) st = evSs F K B st':=(congrArg (fun m=>R.bind m _) h).trans rfl
theorem one1 {s:Sm} {fl:Fl} {st':St} (h:evS F K s st = .ok fl st'):evSs F K (.cons s .nil) st = .ok fl st':=(congrArg (fun m=>R.bind m _) h).trans (by cases fl <;> rfl)
theorem atPC (n:Nat) {ss:Sms} {r:R Fl} (t:(tlP F K true n ss st fun ss' st'=>evSs F K ss st = evSs F K ss' st')→evSs F K ss st = r):evSs F K ss st = r:=t (ZaD F K true n ss st _ fun _ _ e=>e)
theorem Zf5 {s:Sm} {ss:Sms} {st':St} (h:evS F K s st = .ok .next st'):evSs F K (.cons s ss) st = evSs F K ss st':=(congrArg (fun m=>R.bind m _) h).trans rfl
theorem nn {b c:Bool} (h:b = c):(!!b) = c:=(Bool.not_not b).trans h
theorem nz {i:Int} (h:i ≠ 0):(i == 0) = false:=beq_eq_false_iff_ne.mpr h
end
noncomputable def S5 (a1 a2 a3 a4 a5:Option V) (σ:List O):St:=⟨[a1,a2,a3,a4,a5],σ⟩
noncomputable def S6 (a1 a2 a3 a4 a5 a6:Option V) (σ:List O):St:=⟨[a1,a2,a3,a4,a5,a6],σ⟩
noncomputable def S7 (a1 a2 a3 a4 a5 a6 a7:Option V) (σ:List O):St:=⟨[a1,a2,a3,a4,a5,a6,a7],σ⟩
noncomputable def S8 (a1 a2 a3 a4 a5 a6 a7 a8:Option V) (σ:List O):St:=⟨[a1,a2,a3,a4,a5,a6,a7,a8],σ⟩
noncomputable def S9 (a1 a2 a3 a4 a5 a6 a7 a8 a9:Option V) (σ:List O):St:=⟨[a1,a2,a3,a4,a5,a6,a7,a8,a9],σ⟩
noncomputable def S11 (a1 a2 a3 a4 a5 a6 a7 a8 a9 a10 a11:Option V) (σ:List O):St:=⟨[a1,a2,a3,a4,a5,a6,a7,a8,a9,a10,a11],σ⟩
noncomputable def S12 (a1 a2 a3 a4 a5 a6 a7 a8 a9 a10 a11 a12:Option V) (σ:List O):St:=⟨[a1,a2,a3,a4,a5,a6,a7,a8,a9,a10,a11,a12],σ⟩
noncomputable def S14 (a1 a2 a3 a4 a5 a6 a7 a8 a9 a10 a11 a12 a13 a14:Option V) (σ:List O):St:=⟨[a1,a2,a3,a4,a5,a6,a7,a8,a9,a10,a11,a12,a13,a14],σ⟩
noncomputable def ZaE:Sms:=(.cons (.asgA (.loc 0) 0 (.listM .nil))
 (.cons (.asgA (.loc 0) 1 (.listM .nil))
 (.cons (.asgA (.loc 0) 2 (.list .nil))
 (.cons (.asgA (.loc 0) 3 .dictM)
 (.cons (.asgA (.loc 0) 4 .none)
 .nil)))))
noncomputable def Z8r:Def:=⟨"Leaves.__init__",["self"],["self"],1,ZaE,[]⟩
noncomputable def Z5w:Sms:=(.cons (.asgI (.sub (.attr (.loc 0) 1) (.loc 3)) (.loc 4) (.bool true))
 .nil)
noncomputable def Z5x:Sms:=(.cons (.for1 4 (.val (.loc 2)) Z5w)
 .nil)
noncomputable def ZaF:Sms:=(.cons (.for1 3 (.val (.loc 1)) Z5x)
 .nil)
noncomputable def Z8s:Def:=⟨"link",["leaves","lasts","firsts"],["leaves","lasts","firsts","one","other"],5,ZaF,[]⟩
noncomputable def Z4L:Sms:=(.cons (.ifte (.bor (.cmp .eq (.loc 1) (.str "")) (.cmp .lt (.lenSet (.loc 1)) (.bi .len (.loc 1)))) (.cons .stk
 .nil) .nil)
 (.cons (.asg 2 (.bi .len (.attr (.loc 0) 0)))
 (.cons (.ifte (.cmp .eq (.loc 2) (.glob "MOST_LEAVES" 60)) (.cons .stk
 .nil) .nil)
 (.cons (.expr (.me .append (.attr (.loc 0) 0) (.loc 1)))
 (.cons (.expr (.me .append (.attr (.loc 0) 1) .dictM))
 (.cons (.ret (.tup (.cons (.bool false) (.cons (.list (.cons (.loc 2) .nil)) (.cons (.list (.cons (.loc 2) .nil)) .nil)))))
 .nil))))))
noncomputable def Z2k:Def:=⟨"leaf_of",["leaves","signs"],["leaves","signs","number"],3,Z4L,[("MOST_LEAVES",60)]⟩
noncomputable def Z2P:Sms:=(.cons (.asgT [6,7,8] (.call "looked_at" (.cons (.loc 0) (.cons (.loc 5) .nil))))
 (.cons (.expr (.call "link" (.cons (.loc 0) (.cons (.loc 4) (.cons (.loc 7) .nil)))))
 (.cons (.ifte (.loc 2) (.cons (.asg 3 (.bin .add (.loc 3) (.loc 7)))
 .nil) .nil)
 (.cons (.ifte (.loc 6) (.cons (.asg 4 (.bin .add (.loc 4) (.loc 8)))
 .nil) (.cons (.asg 4 (.loc 8))
 .nil))
 (.cons (.asg 2 (.band (.loc 2) (.loc 6)))
 .nil)))))
noncomputable def Z6i:Sms:=(.cons (.asg 2 (.bool true))
 (.cons (.asg 3 (.list .nil))
 (.cons (.asg 4 (.list .nil))
 (.cons (.for1 5 (.val (.loc 1)) Z2P)
 (.cons (.ret (.tup (.cons (.loc 2) (.cons (.loc 3) (.cons (.loc 4) .nil)))))
 .nil)))))
noncomputable def Z3j:Def:=⟨"row_of",["leaves","parts"],["leaves","parts","empty","firsts","lasts","part","bare","begins","closes"],9,Z6i,[]⟩
noncomputable def Z1h:Sms:=(.cons (.asgT [6,7,8] (.call "looked_at" (.cons (.loc 0) (.cons (.loc 5) .nil))))
 (.cons (.asg 2 (.bor (.loc 2) (.loc 6)))
 (.cons (.asg 3 (.bin .add (.loc 3) (.loc 7)))
 (.cons (.asg 4 (.bin .add (.loc 4) (.loc 8)))
 .nil))))
noncomputable def Z38:Sms:=(.cons (.ifte (.not (.loc 1)) (.cons .stk
 .nil) .nil)
 (.cons (.asg 2 (.bool false))
 (.cons (.asg 3 (.list .nil))
 (.cons (.asg 4 (.list .nil))
 (.cons (.for1 5 (.val (.loc 1)) Z1h)
 (.cons (.ret (.tup (.cons (.loc 2) (.cons (.loc 3) (.cons (.loc 4) .nil)))))
 .nil))))))
noncomputable def Z1i:Def:=⟨"choice_of",["leaves","parts"],["leaves","parts","empty","firsts","lasts","part","bare","begins","closes"],9,Z38,[]⟩
noncomputable def Z0z:Sms:=(.cons (.ifte (.cmp .eq (.sub (.loc 1) (.int 0)) (.str "one")) (.cons (.ret (.call "leaf_of" (.cons (.loc 0) (.cons (.sub (.loc 1) (.int 1)) .nil))))
 .nil) .nil)
 (.cons (.ifte (.cmp .eq (.sub (.loc 1) (.int 0)) (.str "row")) (.cons (.ret (.call "row_of" (.cons (.loc 0) (.cons (.sub (.loc 1) (.int 1)) .nil))))
 .nil) .nil)
 (.cons (.ifte (.cmp .eq (.sub (.loc 1) (.int 0)) (.str "or")) (.cons (.ret (.call "choice_of" (.cons (.loc 0) (.cons (.sub (.loc 1) (.int 1)) .nil))))
 .nil) .nil)
 (.cons (.asgT [2,3,4] (.call "looked_at" (.cons (.loc 0) (.cons (.sub (.loc 1) (.int 1)) .nil))))
 (.cons (.ifte (.cmp .eq (.sub (.loc 1) (.int 0)) (.str "many")) (.cons (.expr (.call "link" (.cons (.loc 0) (.cons (.loc 4) (.cons (.loc 3) .nil)))))
 .nil) .nil)
 (.cons (.ret (.tup (.cons (.bool true) (.cons (.loc 3) (.cons (.loc 4) .nil)))))
 .nil))))))
noncomputable def Z0e:Def:=⟨"looked_at",["leaves","pattern"],["leaves","pattern","bare","firsts","lasts"],5,Z0z,[]⟩
noncomputable def Z1j:Sms:=(.cons (.asgI (.attr (.loc 1) 3) (.loc 7) (.loc 2))
 .nil)
noncomputable def Z1k:Sms:=(.cons (.asgT [4,5,6] (.call "looked_at" (.cons (.loc 1) (.cons (.loc 3) .nil))))
 (.cons (.asgA (.loc 1) 2 (.bin .add (.attr (.loc 1) 2) (.loc 5)))
 (.cons (.for1 7 (.val (.loc 6)) Z1j)
 (.cons (.ifte (.band (.loc 4) (.cmp .is (.attr (.loc 1) 4) .none)) (.cons (.asgA (.loc 1) 4 (.loc 2))
 .nil) .nil)
 .nil))))
noncomputable def Z39:Sms:=(.cons (.ifte (.bor (.not (.loc 0)) (.cmp .gt (.bi .len (.loc 0)) (.glob "MOST_PATTERNS" 8))) (.cons .stk
 .nil) .nil)
 (.cons (.asg 1 .newI)
 (.cons (.forT [2,3] (.enum (.loc 0)) Z1k)
 (.cons (.ret (.loc 1))
 .nil))))
noncomputable def Z1l:Def:=⟨"leaves_of",["patterns"],["patterns","leaves","number","pattern","bare","firsts","lasts","leaf"],8,Z39,[("MOST_PATTERNS",8)]⟩
noncomputable def Z41:Sms:=(.cons (.ret (.me .join (.str "") (.sset (.me .join (.str "") (.attr (.loc 0) 0)))))
 .nil)
noncomputable def Z4M:Def:=⟨"signs_in",["leaves"],["leaves"],1,Z41,[]⟩
noncomputable def Z7m:Sms:=(.cons (.ret (.call "signs_in" (.cons (.call "leaves_of" (.cons (.loc 0) .nil)) .nil)))
 .nil)
noncomputable def Z4N:Def:=⟨"signs_of",["patterns"],["patterns"],1,Z7m,[]⟩
noncomputable def Z4O:Sms:=(.cons (.ifte (.cmp .lt (.loc 1) (.bi .len (.loc 0))) (.cons (.ret (.sub (.loc 0) (.loc 1)))
 .nil) .nil)
 (.cons (.ret (.int 0))
 .nil))
noncomputable def Z42:Def:=⟨"_law_cell_at",["_law_script","_law_k"],["_law_script","_law_k"],2,Z4O,[]⟩
noncomputable def Z2Q:Sms:=(.cons (.asg 1 (.str " !\"#$&'()*+,-./0123456789:;<=>?@ABCDEFGHIJKLMNOPQRSTUVWXYZ[\\]^_`"))
 (.cons (.asg 1 (.bin .add (.loc 1) (.str "abcdefghijklmnopqrstuvwxyz{|}~\n\t")))
 (.cons (.ret (.sub (.loc 1) (.bin .mod (.loc 0) (.int 96))))
 .nil)))
noncomputable def Z43:Def:=⟨"_law_sign_by",["_law_cell"],["_law_cell","_law_some"],2,Z2Q,[]⟩
noncomputable def Z0W:Ex:=(.call "_law_sign_by" (.cons (.bin .add (.loc 0) (.bin .mul (.loc 4) (.loc 1))) .nil))
noncomputable def Z0X:Ex:=(.me .join (.str "") (.slice (.loc 3) (.some (.bin .mul (.loc 5) (.loc 2))) (.some (.bin .add (.bin .mul (.loc 5) (.loc 2)) (.loc 2)))))
noncomputable def Z1b:Sms:=(.cons (.asg 1 (.sub (.list (.cons (.int 1) (.cons (.int 5) (.cons (.int 7) (.cons (.int 11) (.cons (.int 13) (.cons (.int 17) (.cons (.int 19) (.cons (.int 23) .nil))))))))) (.bin .mod (.bin .fdiv (.loc 0) (.int 96)) (.int 8))))
 (.cons (.asg 2 (.int 1))
 (.cons (.ifte (.cmp .eq (.bin .mod (.bin .fdiv (.loc 0) (.int 768)) (.int 4)) (.int 1)) (.cons (.asg 2 (.bin .add (.bin .add (.int 2) (.bin .mod (.bin .fdiv (.loc 0) (.int 3072)) (.int 8))) (.bin .mul (.int 10) (.bin .mod (.bin .fdiv (.loc 0) (.int 24576)) (.int 2)))))
 .nil) .nil)
 (.cons (.asg 3 (.comp Z0W 4 (.range1 (.bin .mul (.int 5) (.loc 2))) .nil))
 (.cons (.ret (.comp Z0X 5 (.range1 (.int 5)) .nil))
 .nil)))))
noncomputable def Z2l:Def:=⟨"_law_letters",["_law_cell"],["_law_cell","_law_gap","_law_size","_law_signs"],6,Z1b,[]⟩
noncomputable def Z22:Sms:=(.cons (.ifte (.cmp .eq (.bin .mod (.loc 1) (.int 2)) (.int 1)) (.cons (.asg 2 (.bin .add (.sub (.loc 0) (.loc 3)) (.loc 2)))
 .nil) .nil)
 (.cons (.asg 1 (.bin .fdiv (.loc 1) (.int 2)))
 .nil))
noncomputable def Z4P:Sms:=(.cons (.asg 2 (.str ""))
 (.cons (.for1 3 (.range1 (.int 4)) Z22)
 (.cons (.ret (.loc 2))
 .nil)))
noncomputable def Z44:Def:=⟨"_law_some_of",["_law_letters_here","_law_mask"],["_law_letters_here","_law_mask","_law_signs","_law_k"],4,Z4P,[]⟩
noncomputable def Z23:Sms:=(.cons (.asg 4 (.bin .mod (.bin .add (.bin .mul (.loc 4) (.int 48271)) (.int 11)) (.int 2147483647)))
 (.cons (.asg 6 (.sub (.loc 2) (.bin .mod (.bin .fdiv (.loc 4) (.int 7)) (.bi .len (.loc 2)))))
 (.cons (.asg 3 (.bin .add (.loc 3) (.sub (.loc 6) (.bin .mod (.bin .fdiv (.loc 4) (.int 700)) (.bi .len (.loc 6))))))
 .nil)))
noncomputable def Z4Q:Sms:=(.cons (.asg 3 (.str ""))
 (.cons (.asg 4 (.bin .mod (.loc 0) (.int 2147483647)))
 (.cons (.for1 5 (.range1 (.loc 1)) Z23)
 (.cons (.ret (.loc 3))
 .nil))))
noncomputable def Z45:Def:=⟨"_law_text_by",["_law_cell","_law_size","_law_letters_here"],["_law_cell","_law_size","_law_letters_here","_law_made","_law_number","_law_k","_law_group"],7,Z4Q,[]⟩
noncomputable def Z8t:Sms:=(.cons (.asg 4 (.bin .mod (.loc 1) (.int 10)))
 (.cons (.asg 5 (.bin .fdiv (.loc 1) (.int 10)))
 (.cons (.ifte (.band (.cmp .gt (.loc 4) (.int 5)) (.band (.cmp .gt (.loc 3) (.int 0)) (.cmp .lt (.bi .len (.loc 0)) (.int 8)))) (.cons (.expr (.me .append (.loc 0) (.tup (.cons (.str "one") (.cons (.call "_law_some_of" (.cons (.loc 2) (.cons (.bin .add (.int 1) (.bin .mod (.loc 5) (.int 15))) .nil))) .nil)))))
 (.cons (.ret (.bin .sub (.loc 3) (.int 1)))
 .nil)) .nil)
 (.cons (.ifte (.band (.cmp .eq (.loc 4) (.int 0)) (.cmp .lt (.bi .len (.loc 0)) (.int 8))) (.cons (.expr (.me .append (.loc 0) (.tup (.cons (.str "row") (.cons (.list .nil) .nil)))))
 .nil) (.cons (.ifte (.band (.cmp .eq (.loc 4) (.int 1)) (.loc 0)) (.cons (.expr (.me .append (.loc 0) (.tup (.cons (.str "many") (.cons (.pop (.loc 0)) .nil)))))
 .nil) (.cons (.ifte (.band (.cmp .eq (.loc 4) (.int 2)) (.loc 0)) (.cons (.expr (.me .append (.loc 0) (.tup (.cons (.str "maybe") (.cons (.pop (.loc 0)) .nil)))))
 .nil) (.cons (.ifte (.band (.cmp .gt (.loc 4) (.int 2)) (.cmp .gt (.bi .len (.loc 0)) (.int 1))) (.cons (.asg 6 (.pop (.loc 0)))
 (.cons (.asg 7 (.list (.cons (.pop (.loc 0)) (.cons (.loc 6) .nil))))
 (.cons (.ifte (.band (.cmp .eq (.bin .mod (.loc 5) (.int 3)) (.int 1)) (.loc 0)) (.cons (.asg 7 (.bin .add (.list (.cons (.pop (.loc 0)) .nil)) (.loc 7)))
 .nil) .nil)
 (.cons (.expr (.me .append (.loc 0) (.tup (.cons (.sub (.list (.cons (.str "row") (.cons (.str "or") .nil))) (.bin .mod (.bin .fdiv (.loc 4) (.int 2)) (.int 2))) (.cons (.loc 7) .nil)))))
 .nil)))) .nil)
 .nil))
 .nil))
 .nil))
 (.cons (.ret (.loc 3))
 .nil)))))
noncomputable def Z46:Def:=⟨"_law_grown",["_law_held","_law_cell","_law_letters_here","_law_room"],["_law_held","_law_cell","_law_letters_here","_law_room","_law_way","_law_more","_law_last","_law_parts"],8,Z8t,[]⟩
noncomputable def Z8u:Ex:=(.call "_law_sign_by" (.cons (.bin .add (.loc 0) (.bin .mul (.loc 2) (.loc 1))) .nil))
noncomputable def ZaG:Sms:=(.cons (.asg 1 (.sub (.list (.cons (.int 1) (.cons (.int 5) (.cons (.int 7) (.cons (.int 11) (.cons (.int 13) (.cons (.int 17) (.cons (.int 19) (.cons (.int 23) .nil))))))))) (.bin .mod (.bin .fdiv (.loc 0) (.int 96)) (.int 8))))
 (.cons (.ret (.comp Z8u 2 (.range1 (.bin .add (.int 2) (.bin .mod (.bin .fdiv (.loc 0) (.int 768)) (.int 60)))) .nil))
 .nil))
noncomputable def ZaH:Def:=⟨"_law_wide",["_law_cell"],["_law_cell","_law_gap"],3,ZaG,[]⟩
noncomputable def Z94:Ex:=(.tup (.cons (.str "one") (.cons (.loc 10) .nil)))
noncomputable def Z47:Sms:=(.cons (.asg 5 (.bin .mod (.bin .add (.bin .mul (.loc 5) (.int 48271)) (.int 11)) (.int 2147483647)))
 (.cons (.asg 8 (.bin .mod (.bin .fdiv (.loc 5) (.int 7)) (.bin .add (.loc 4) (.int 1))))
 (.cons (.ifte (.cmp .eq (.bin .mod (.call "_law_cell_at" (.cons (.loc 0) (.cons (.int 4) .nil))) (.int 3)) (.int 1)) (.cons (.asg 8 (.bin .sub (.loc 4) (.bin .fdiv (.loc 8) (.int 3))))
 .nil) .nil)
 (.cons (.asg 9 (.call "_law_text_by" (.cons (.loc 5) (.cons (.loc 8) (.cons (.loc 1) .nil)))))
 (.cons (.expr (.me .append (.loc 6) (.tup (.cons (.str "row") (.cons (.comp Z94 10 (.val (.loc 9)) .nil) .nil)))))
 .nil)))))
noncomputable def Zci:Sms:=(.cons (.asg 1 (.call "_law_wide" (.cons (.call "_law_cell_at" (.cons (.loc 0) (.cons (.int 20) .nil))) .nil)))
 (.cons (.asg 2 (.bin .mod (.call "_law_cell_at" (.cons (.loc 0) (.cons (.int 2) .nil))) (.int 4)))
 (.cons (.asg 3 (.bin .add (.int 1) (.bin .mod (.bin .fdiv (.call "_law_cell_at" (.cons (.loc 0) (.cons (.int 2) .nil))) (.int 4)) (.sub (.list (.cons (.int 8) (.cons (.int 8) (.cons (.int 3) (.cons (.int 58) .nil))))) (.loc 2)))))
 (.cons (.asg 4 (.sub (.list (.cons (.int 6) (.cons (.int 6) (.cons (.min2 (.int 40) (.bin .fdiv (.int 58) (.loc 3))) (.cons (.min2 (.int 40) (.bin .fdiv (.int 58) (.loc 3))) .nil))))) (.loc 2)))
 (.cons (.asg 5 (.bin .mod (.call "_law_cell_at" (.cons (.loc 0) (.cons (.int 3) .nil))) (.int 2147483647)))
 (.cons (.asg 6 (.listM .nil))
 (.cons (.for1 7 (.range1 (.loc 3)) Z47)
 (.cons (.ifte (.cmp .eq (.bin .mod (.loc 2) (.int 2)) (.int 1)) (.cons (.ret (.list (.cons (.tup (.cons (.str "or") (.cons (.fz 6) .nil))) .nil)))
 .nil) .nil)
 (.cons (.ret (.fz 6))
 .nil)))))))))
noncomputable def Z7n:Def:=⟨"_law_words",["_law_script"],["_law_script","_law_letters_here","_law_shape","_law_count","_law_most","_law_number","_law_held","_law_k","_law_size","_law_signs"],11,Zci,[]⟩
noncomputable def Z95:Ex:=(.tup (.cons (.str "one") (.cons (.loc 10) .nil)))
noncomputable def Z48:Sms:=(.cons (.asg 3 (.bin .mod (.bin .add (.bin .mul (.loc 3) (.int 48271)) (.int 11)) (.int 2147483647)))
 (.cons (.asg 6 (.call "_law_text_by" (.cons (.loc 3) (.cons (.bin .add (.int 3) (.bin .mod (.bin .fdiv (.loc 3) (.int 7)) (.int 4))) (.cons (.loc 2) .nil)))))
 (.cons (.expr (.me .append (.loc 4) (.tup (.cons (.str "row") (.cons (.comp Z95 10 (.val (.loc 6)) .nil) .nil)))))
 .nil)))
noncomputable def Z4R:Ex:=(.tup (.cons (.str "one") (.cons (.loc 11) .nil)))
noncomputable def Z49:Sms:=(.cons (.asg 9 (.call "_law_grown" (.cons (.loc 7) (.cons (.call "_law_cell_at" (.cons (.loc 0) (.cons (.bin .add (.int 21) (.loc 5)) .nil))) (.cons (.loc 1) (.cons (.loc 9) .nil))))))
 .nil)
noncomputable def d_loopsB:Sms:=(.cons (.asg 2 (.slice (.bi .list (.me .join (.str "") (.slice (.loc 1) .none (.some (.int 4))))) .none (.some (.int 12))))
 (.cons (.asg 3 (.bin .mod (.call "_law_cell_at" (.cons (.loc 0) (.cons (.int 3) .nil))) (.int 2147483647)))
 (.cons (.asg 4 (.listM .nil))
 (.cons (.for1 5 (.range1 (.bin .add (.int 1) (.bin .mod (.call "_law_cell_at" (.cons (.loc 0) (.cons (.int 2) .nil))) (.int 6)))) Z48)
 (.cons (.asg 7 (.listM .nil))
 (.cons (.ifte (.cmp .eq (.bin .mod (.bin .fdiv (.call "_law_cell_at" (.cons (.loc 0) (.cons (.int 2) .nil))) (.int 6)) (.int 2)) (.int 1)) (.cons (.asg 6 (.call "_law_text_by" (.cons (.call "_law_cell_at" (.cons (.loc 0) (.cons (.int 21) .nil))) (.cons (.bin .add (.int 1) (.bin .mod (.call "_law_cell_at" (.cons (.loc 0) (.cons (.int 22) .nil))) (.int 12))) (.cons (.loc 2) .nil)))))
 (.cons (.asg 8 (.tup (.cons (.str "row") (.cons (.comp Z4R 11 (.val (.loc 6)) .nil) .nil))))
 (.cons (.expr (.me .append (.loc 7) (.sub (.list (.cons (.tup (.cons (.str "many") (.cons (.loc 8) .nil))) (.cons (.tup (.cons (.str "maybe") (.cons (.loc 8) .nil))) .nil))) (.bi .int (.cmp .eq (.bin .mod (.call "_law_cell_at" (.cons (.loc 0) (.cons (.int 23) .nil))) (.int 3)) (.int 0))))))
 .nil))) (.cons (.asg 9 (.int 4))
 (.cons (.for1 5 (.range1 (.int 8)) Z49)
 (.cons (.asg 7 (.slice (.loc 7) .none (.some (.int 2))))
 .nil))))
 (.cons (.ifte (.cmp .eq (.bin .mod (.bin .fdiv (.call "_law_cell_at" (.cons (.loc 0) (.cons (.int 2) .nil))) (.int 12)) (.int 2)) (.int 1)) (.cons (.ret (.bin .add (.fz 7) (.fz 4)))
 .nil) .nil)
 (.cons (.ret (.bin .add (.fz 4) (.fz 7)))
 .nil))))))))
noncomputable def Z7o:Def:=⟨"_law_loops",["_law_script","_law_letters_here"],["_law_script","_law_letters_here","_law_pool","_law_number","_law_held","_law_k","_law_signs","_law_loops_here","_law_loop","_law_room"],12,d_loopsB,[]⟩
noncomputable def Z5y:Sms:=(.cons (.asg 6 (.call "_law_cell_at" (.cons (.loc 0) (.cons (.bin .add (.int 3) (.loc 5)) .nil))))
 (.cons (.asg 7 (.tup (.cons (.str "one") (.cons (.call "_law_some_of" (.cons (.loc 1) (.cons (.bin .add (.int 1) (.bin .mod (.bin .fdiv (.loc 6) (.int 8)) (.int 15))) .nil))) .nil))))
 (.cons (.asg 8 (.tup (.cons (.str "one") (.cons (.call "_law_some_of" (.cons (.loc 1) (.cons (.bin .add (.int 1) (.bin .mod (.bin .fdiv (.loc 6) (.int 120)) (.int 15))) .nil))) .nil))))
 (.cons (.asg 9 (.tup (.cons (.str "row") (.cons (.list (.cons (.loc 7) (.cons (.loc 8) .nil))) .nil))))
 (.cons (.asg 10 (.list (.cons (.tup (.cons (.str "row") (.cons (.list .nil) .nil))) (.cons (.loc 7) (.cons (.tup (.cons (.str "many") (.cons (.loc 7) .nil))) (.cons (.tup (.cons (.str "maybe") (.cons (.loc 7) .nil))) (.cons (.loc 9) (.cons (.tup (.cons (.str "or") (.cons (.list (.cons (.loc 7) (.cons (.loc 8) .nil))) .nil))) .nil))))))))
 (.cons (.asg 10 (.bin .add (.loc 10) (.list (.cons (.tup (.cons (.str "maybe") (.cons (.tup (.cons (.str "row") (.cons (.list (.cons (.loc 7) (.cons (.tup (.cons (.str "many") (.cons (.loc 8) .nil))) .nil))) .nil))) .nil))) (.cons (.tup (.cons (.str "or") (.cons (.list (.cons (.loc 9) (.cons (.loc 7) .nil))) .nil))) .nil)))))
 (.cons (.asg 11 (.sub (.list (.cons (.int 0) (.cons (.int 1) (.cons (.int 1) (.cons (.int 1) (.cons (.int 2) (.cons (.int 2) (.cons (.int 2) (.cons (.int 3) .nil))))))))) (.bin .mod (.loc 6) (.int 8))))
 (.cons (.expr (.me .append (.loc 4) (.sub (.loc 10) (.sub (.list (.cons (.int 0) (.cons (.bin .mod (.loc 6) (.int 8)) .nil))) (.bi .int (.cmp .le (.loc 11) (.loc 3)))))))
 (.cons (.asg 3 (.bin .sub (.loc 3) (.sub (.list (.cons (.int 0) (.cons (.loc 11) .nil))) (.bi .int (.cmp .le (.loc 11) (.loc 3))))))
 .nil)))))))))
noncomputable def Zef:Sms:=(.cons (.asg 2 (.call "_law_cell_at" (.cons (.loc 0) (.cons (.int 2) .nil))))
 (.cons (.asg 3 (.bin .sub (.int 6) (.bin .mul (.int 2) (.bin .mod (.bin .fdiv (.loc 2) (.int 36)) (.int 2)))))
 (.cons (.asg 4 (.listM .nil))
 (.cons (.for1 5 (.range1 (.bin .add (.int 3) (.bin .mod (.loc 2) (.int 6)))) Z5y)
 (.cons (.asg 12 (.tup (.cons (.sub (.list (.cons (.str "row") (.cons (.str "or") .nil))) (.bin .mod (.bin .fdiv (.loc 2) (.int 6)) (.int 2))) (.cons (.fz 4) .nil))))
 (.cons (.asg 12 (.sub (.list (.cons (.loc 12) (.cons (.tup (.cons (.str "many") (.cons (.loc 12) .nil))) (.cons (.tup (.cons (.str "maybe") (.cons (.loc 12) .nil))) .nil)))) (.bin .mod (.bin .fdiv (.loc 2) (.int 12)) (.int 3))))
 (.cons (.asg 13 (.tup (.cons (.str "row") (.cons (.list (.cons (.tup (.cons (.str "one") (.cons (.sub (.sub (.loc 1) (.int 0)) (.int 0)) .nil))) (.cons (.tup (.cons (.str "one") (.cons (.sub (.sub (.loc 1) (.int 1)) (.int 0)) .nil))) .nil))) .nil))))
 (.cons (.ret (.sub (.list (.cons (.list (.cons (.loc 12) .nil)) (.cons (.list (.cons (.loc 12) .nil)) (.cons (.list (.cons (.loc 13) (.cons (.loc 12) .nil))) (.cons (.list (.cons (.loc 12) (.cons (.loc 13) .nil))) .nil))))) (.bin .add (.bin .mul (.bin .mod (.bin .fdiv (.loc 2) (.int 36)) (.int 2)) (.int 2)) (.bin .mod (.bin .fdiv (.loc 2) (.int 72)) (.int 2)))))
 .nil))))))))
noncomputable def ZaI:Def:=⟨"_law_long",["_law_script","_law_letters_here"],["_law_script","_law_letters_here","_law_cell","_law_room","_law_parts","_law_k","_law_drawn","_law_leaf","_law_other","_law_both","_law_some","_law_size","_law_whole","_law_short"],14,Zef,[]⟩
noncomputable def Z3a:Sms:=(.cons (.asg 3 (.call "_law_grown" (.cons (.loc 2) (.cons (.call "_law_cell_at" (.cons (.loc 0) (.cons (.bin .add (.int 2) (.loc 4)) .nil))) (.cons (.loc 1) (.cons (.loc 3) .nil))))))
 .nil)
noncomputable def Z7p:Sms:=(.cons (.ifte (.cmp .eq (.bin .mod (.call "_law_cell_at" (.cons (.loc 0) (.cons (.int 1) .nil))) (.int 4)) (.int 1)) (.cons (.ret (.call "_law_words" (.cons (.loc 0) .nil)))
 .nil) .nil)
 (.cons (.ifte (.cmp .eq (.bin .mod (.call "_law_cell_at" (.cons (.loc 0) (.cons (.int 1) .nil))) (.int 4)) (.int 3)) (.cons (.ret (.call "_law_loops" (.cons (.loc 0) (.cons (.loc 1) .nil))))
 .nil) .nil)
 (.cons (.ifte (.cmp .eq (.bin .mod (.call "_law_cell_at" (.cons (.loc 0) (.cons (.int 1) .nil))) (.int 8)) (.int 4)) (.cons (.ret (.call "_law_long" (.cons (.loc 0) (.cons (.loc 1) .nil))))
 .nil) .nil)
 (.cons (.asg 2 (.listM .nil))
 (.cons (.asg 3 (.int 6))
 (.cons (.for1 4 (.range1 (.int 12)) Z3a)
 (.cons (.ifte (.not (.loc 2)) (.cons (.expr (.me .append (.loc 2) (.tup (.cons (.str "one") (.cons (.sub (.loc 1) (.int 0)) .nil)))))
 .nil) .nil)
 (.cons (.ret (.fz 2))
 .nil))))))))
noncomputable def Z2R:Def:=⟨"_law_patterns",["_law_script","_law_letters_here"],["_law_script","_law_letters_here","_law_held","_law_room","_law_k"],5,Z7p,[]⟩
noncomputable def Z1c:Sms:=(.cons (.asg 2 (.bin .add (.loc 2) (.call "_law_leaves" (.cons (.loc 3) .nil))))
 .nil)
noncomputable def ZaJ:Sms:=(.cons (.ifte (.cmp .eq (.sub (.loc 0) (.int 0)) (.str "one")) (.cons (.ret (.list (.cons (.sub (.loc 0) (.int 1)) .nil)))
 .nil) .nil)
 (.cons (.asg 1 (.sub (.loc 0) (.int 1)))
 (.cons (.ifte (.bor (.cmp .eq (.sub (.loc 0) (.int 0)) (.str "many")) (.cmp .eq (.sub (.loc 0) (.int 0)) (.str "maybe"))) (.cons (.asg 1 (.list (.cons (.sub (.loc 0) (.int 1)) .nil)))
 .nil) .nil)
 (.cons (.asg 2 (.list .nil))
 (.cons (.for1 3 (.val (.loc 1)) Z1c)
 (.cons (.ret (.loc 2))
 .nil))))))
noncomputable def Z1m:Def:=⟨"_law_leaves",["_law_pattern"],["_law_pattern","_law_parts","_law_found","_law_part"],4,ZaJ,[]⟩
noncomputable def Z7q:Sms:=(.cons (.ifte (.cmp .notin (.loc 6) (.loc 3)) (.cons (.expr (.me .append (.loc 3) (.loc 6)))
 .nil) .nil)
 .nil)
noncomputable def Z7r:Sms:=(.cons (.for1 6 (.val (.loc 5)) Z7q)
 .nil)
noncomputable def Z7s:Sms:=(.cons (.for1 5 (.val (.call "_law_leaves" (.cons (.loc 4) .nil))) Z7r)
 .nil)
noncomputable def Zd4:Sms:=(.cons (.asg 1 (.call "_law_letters" (.cons (.call "_law_cell_at" (.cons (.loc 0) (.cons (.int 0) .nil))) .nil)))
 (.cons (.asg 2 (.call "_law_patterns" (.cons (.loc 0) (.cons (.loc 1) .nil))))
 (.cons (.asg 3 (.listM .nil))
 (.cons (.for1 4 (.val (.loc 2)) Z7s)
 (.cons (.asg 7 (.call "signs_of" (.cons (.loc 2) .nil)))
 (.cons (.ifte (.cmp .ne (.loc 2) (.call "_law_patterns" (.cons (.loc 0) (.cons (.loc 1) .nil)))) (.cons (.ret (.bool false))
 .nil) .nil)
 (.cons (.ret (.band (.isin (.loc 7) .str) (.cmp .eq (.loc 7) (.me .join (.str "") (.bi .sorted (.loc 3))))))
 .nil)))))))
noncomputable def Zf6:Def:=⟨"law",["_law_script"],["_law_script","_law_letters_here","_law_patterns_here","_law_due","_law_pattern","_law_signs","_law_sign","_law_found"],8,Zd4,[]⟩
noncomputable def defs:List Def:=[Z8r,Z8s,Z2k,Z3j,Z1i,Z0e,Z1l,Z4M,Z4N,Z42,Z43,Z2l,Z44,Z45,Z46,ZaH,Z7n,Z7o,ZaI,Z2R,Z1m,Zf6]
theorem Z0x {F:Fn} {K:Nat} {d:Def} {args:List V} {σ τ:List O} {fl:Fl} {ρ:List (Option V)} (hl:args.length = d.params.length)
  (h:evSs F K d.body ⟨args.map some++List.replicate (d.slots - args.length) none,σ⟩ = .ok fl ⟨ρ,τ⟩)
  (hb:τ.length = σ.length ∨ fl.val.lo σ.length = false ∨ ∃ o ∈ τ.take σ.length,O.lo σ.length o = false):Z0a F K d args σ = .ok fl.val ⟨[],τ⟩:=by
 unfold Z0a
 rw [if_pos hl,h]
 simp only [R.bind_ok]
 rcases hb with hb | hb | ⟨o,ho,hb⟩
 ·rw [← hb,List.take_length]
  split <;> rfl
 ·rw [hb]; rfl
 ·have:(τ.take σ.length).all (O.lo σ.length) = false:=by
   rw [List.all_eq_false]; exact ⟨o,ho,by rw [hb]; exact Bool.false_ne_true⟩
  rw [this,Bool.and_false]; rfl
theorem Z24 {α:Type} (σ L:List α) (i:Nat):(σ++L)[σ.length + i]? = L[i]?:=by rw [List.getElem?_append_right (Nat.le_add_right _ _),Nat.add_sub_cancel_left]
theorem Z25 {α:Type} (σ L:List α) (i:Nat) (x:α):(σ++L).set (σ.length + i) x = σ++L.set i x:=by rw [List.set_append_right _ _ (Nat.le_add_right _ _),Nat.add_sub_cancel_left]
theorem Z1W {n:Nat} {xs:List V} (h:∀ x ∈ xs,x.lo n = true):V.los n xs = true:=by
 induction xs with
 | nil=>exact Z0f
 | cons x xs ih=>rw [Z03,h x (by simp),ih fun y hy=>h y (by simp [hy])]; rfl
theorem Z4a {n:Nat} {xs:List V} {x:V} (hx:x ∈ xs) (h:x.lo n = false):V.los n xs = false:=by
 induction xs with
 | nil=>cases hx
 | cons y xs ih=>
  rw [Z03]
  rcases List.mem_cons.mp hx with rfl | hx
  ·rw [h]; rfl
  ·rw [ih hx,Bool.and_false]
noncomputable def Lv (N:Nat) (ss bs:List V) (fi em:V) (es:List (Int × V)) (D:List O):List O :=
 .attrs [.ref (N + 1),.ref (N + 2),fi,.ref (N + 3),em] :: .lst ss :: .lst bs :: .idict es :: .priv :: D
section
variable (σ:List O) (ss bs:List V) (fi em:V) (es:List (Int × V)) (D:List O)
theorem lv0:(σ++Lv σ.length ss bs fi em es D)[σ.length]? = some (.attrs [.ref (σ.length + 1),.ref (σ.length + 2),fi,.ref (σ.length + 3),em]):=Z24 σ _ 0
theorem lv1:(σ++Lv σ.length ss bs fi em es D)[σ.length + 1]? = some (.lst ss):=Z24 σ _ 1
theorem lv2:(σ++Lv σ.length ss bs fi em es D)[σ.length + 2]? = some (.lst bs):=Z24 σ _ 2
theorem lv3:(σ++Lv σ.length ss bs fi em es D)[σ.length + 3]? = some (.idict es):=Z24 σ _ 3
theorem lvD (i:Nat):(σ++Lv σ.length ss bs fi em es D)[σ.length + 5 + i]? = D[i]?:=by rw [Nat.add_assoc,Z24,Nat.add_comm 5 i]; rfl
theorem lvs1 (x:List V):(σ++Lv σ.length ss bs fi em es D).set (σ.length + 1) (.lst x) = σ++Lv σ.length x bs fi em es D:=Z25 σ _ 1 _
theorem lvs2 (x:List V):(σ++Lv σ.length ss bs fi em es D).set (σ.length + 2) (.lst x) = σ++Lv σ.length ss x fi em es D:=Z25 σ _ 2 _
theorem lvs3 (x:List (Int × V)):(σ++Lv σ.length ss bs fi em es D).set (σ.length + 3) (.idict x) = σ++Lv σ.length ss bs fi em x D:=Z25 σ _ 3 _
theorem lvsD (i:Nat) (x:O):(σ++Lv σ.length ss bs fi em es D).set (σ.length + 5 + i) x = σ++Lv σ.length ss bs fi em es (D.set i x):=by rw [Nat.add_assoc,Z25,Nat.add_comm 5 i]; rfl
theorem lvsF (x:V):(σ++Lv σ.length ss bs fi em es D).set σ.length (.attrs [.ref (σ.length + 1),.ref (σ.length + 2),x,.ref (σ.length + 3),em]) = σ++Lv σ.length ss bs x em es D:=Z25 σ _ 0 _
theorem lvsE (x:V):(σ++Lv σ.length ss bs fi em es D).set σ.length (.attrs [.ref (σ.length + 1),.ref (σ.length + 2),fi,.ref (σ.length + 3),x]) = σ++Lv σ.length ss bs fi x es D:=Z25 σ _ 0 _
theorem Zcj:(σ++Lv σ.length ss bs fi em es D).length = σ.length + 5 + D.length:=by rw [List.length_append]; simp only [Lv,List.length_cons]; lia
theorem ZfA (x:O):σ++Lv σ.length ss bs fi em es D++[x] = σ++Lv σ.length ss bs fi em es (D++[x]):=by rw [List.append_assoc]; rfl
end
theorem Z7t (F:Fn) (K C:Nat) (hC:clsF F = some (C:Int)) (σ:List O) (ss bs:List V) (fi em:V) (es:List (Int × V)) (D:List O) (s:List Nat) (h0:s ≠ []) (hd:s.eraseDups.length = s.length) (hl:s.length < 4000∧s.all (· < 128) = true) (h60:ss.length < 60) (hb:bs.length < 60) :
  Z0a F K Z2k [.inst C σ.length,.str s] (σ++Lv σ.length ss bs fi em es D) = .ok (.tup [.bool false,.lst [.int ss.length],.lst [.int ss.length]]) ⟨[],σ++Lv σ.length (ss++[.str s]) (bs++[.ref (σ.length + 5 + D.length)]) fi em es (D++[.idict []])⟩:=by
 have a0:=Z30 (C:=C) (k:=0) hC (lv0 σ ss bs fi em es D) rfl
 have a1:=Z30 (C:=C) (k:=0) hC (lv0 σ (ss++[.str s]) bs fi em es D) rfl
 have a2:=Z30 (C:=C) (k:=1) hC (lv0 σ (ss++[.str s]) bs fi em es D) rfl
 have l0:=ZcJ _ _ _ (lv1 σ ss bs fi em es D)
 have r0:=Z0I _ _ _ (lv1 σ ss bs fi em es D)
 have r1:=Z0I _ _ _ (lv2 σ (ss++[.str s]) bs fi em es D)
 have hsl:sizeLine = 16777216:=by decide
 have p0:∀ ρ,Z1p .append (.ref (σ.length + 1)) (.str s) ⟨ρ,σ++Lv σ.length ss bs fi em es D⟩ = .ok .none ⟨ρ,σ++Lv σ.length (ss++[.str s]) bs fi em es D⟩:=fun ρ=>by rw [Z1t _ _ _ _ _ (lv1 σ ss bs fi em es D) (by lia),lvs1]
 have p1:∀ ρ v,Z1p .append (.ref (σ.length + 2)) v ⟨ρ,σ++Lv σ.length (ss++[.str s]) bs fi em es (D++[.idict []])⟩ = .ok .none ⟨ρ,σ++Lv σ.length (ss++[.str s]) (bs++[v]) fi em es (D++[.idict []])⟩:=fun ρ v=>by rw [Z1t _ _ _ _ _ (lv2 σ (ss++[V.str s]) bs fi em es (D++[O.idict []])) (by lia),lvs2]
 have c0:(s == ([]:List Nat)) = false:=by cases s with | nil=>exact absurd rfl h0 | cons a b=>rfl
 have ls:Z1q (.str s) = some (.int s.length):=by
  show (if s.all (· < 128) = true then some (V.int s.eraseDups.length) else none) = _
  rw [if_pos hl.2,hd]
 have c1:decide ((s.length:Int) < (s.length:Int)) = false:=decide_eq_false (Int.lt_irrefl _)
 have c2:((ss.length:Int) == 60) = false:=by rw [beq_eq_false_iff_ne]; lia
 have e:evSs F K Z4L ⟨[some (.inst C σ.length),some (.str s),none],σ++Lv σ.length ss bs fi em es D⟩ = .ok (.ret (.tup [.bool false,.lst [.int ss.length],.lst [.int ss.length]])) ⟨[some (.inst C σ.length),some (.str s),some (.int ss.length)],σ++Lv σ.length (ss++[.str s]) (bs++[.ref (σ.length + 5 + D.length)]) fi em es (D++[.idict []])⟩:=by
  exact atS fun t=>t c0 ls rfl c1 a0 l0 rfl c2 a0 r0 (p0 _) a2 r1 (Zcj _ _ _ _ _ _ _) (ZfA _ _ _ _ _ _ _ _) (p1 _ _) rfl
 have:=Z0x (d:=Z2k) (args:=[.inst C σ.length,.str s]) (F:=F) (K:=K) rfl e (.inr (.inr ⟨.lst (bs++[.ref (σ.length + 5 + D.length)]),?_,?_⟩))
 ·exact this
 ·refine List.mem_of_getElem? (i:=σ.length + 2) ?_
  rw [List.getElem?_take,if_pos (by rw [Zcj]; lia),lv2]
 ·rw [Zcj]
  exact Z4a (x:=.ref (σ.length + 5 + D.length)) (by simp) (by rw [Z0R]; exact decide_eq_false (Nat.lt_irrefl _))
theorem idx0 {α:Type} (xs:List α):Z0n xs 0 = xs[0]?:=Z0T xs (j:=0) (by lia)
theorem Z6j:((Str.ofString "one").cps.toList == (Str.ofString "one").cps.toList) = true:=beq_self_eq_true _
theorem Z6k:((Str.ofString "row").cps.toList == (Str.ofString "one").cps.toList) = false:=by decide +kernel
theorem ZaK:((Str.ofString "row").cps.toList == (Str.ofString "row").cps.toList) = true:=beq_self_eq_true _
theorem Z96:((Str.ofString "row").cps.toList == (Str.ofString "many").cps.toList) = false:=by decide +kernel
theorem Z7u:((Str.ofString "row").cps.toList == (Str.ofString "maybe").cps.toList) = false:=by decide +kernel
theorem Z8v:((Str.ofString "or").cps.toList == (Str.ofString "one").cps.toList) = false:=by decide +kernel
theorem Zck:((Str.ofString "or").cps.toList == (Str.ofString "row").cps.toList) = false:=by decide +kernel
theorem Zeg:((Str.ofString "or").cps.toList == (Str.ofString "or").cps.toList) = true:=beq_self_eq_true _
theorem ZaL:((Str.ofString "or").cps.toList == (Str.ofString "many").cps.toList) = false:=by decide +kernel
theorem Z97:((Str.ofString "or").cps.toList == (Str.ofString "maybe").cps.toList) = false:=by decide +kernel
theorem Z4S:((Str.ofString "many").cps.toList == (Str.ofString "one").cps.toList) = false:=by decide +kernel
theorem Z98:((Str.ofString "many").cps.toList == (Str.ofString "row").cps.toList) = false:=by decide +kernel
theorem ZaM:((Str.ofString "many").cps.toList == (Str.ofString "or").cps.toList) = false:=by decide +kernel
theorem Z4b:((Str.ofString "many").cps.toList == (Str.ofString "many").cps.toList) = true:=beq_self_eq_true _
theorem Z4c:((Str.ofString "maybe").cps.toList == (Str.ofString "one").cps.toList) = false:=by decide +kernel
theorem Z7v:((Str.ofString "maybe").cps.toList == (Str.ofString "row").cps.toList) = false:=by decide +kernel
theorem Z99:((Str.ofString "maybe").cps.toList == (Str.ofString "or").cps.toList) = false:=by decide +kernel
theorem Z3b:((Str.ofString "maybe").cps.toList == (Str.ofString "many").cps.toList) = false:=by decide +kernel
theorem Z5z:((Str.ofString "maybe").cps.toList == (Str.ofString "maybe").cps.toList) = true:=beq_self_eq_true _
abbrev Pt:=Glu.Pat Nat
abbrev Pts:=Glu.Pats Nat
mutual
noncomputable def enc:Pt→V
 | .one s=>.tup [.str (Str.ofString "one").cps.toList,.str s]
 | .row ps=>.tup [.str (Str.ofString "row").cps.toList,.lst (encs ps)]
 | .or ps=>.tup [.str (Str.ofString "or").cps.toList,.lst (encs ps)]
 | .many p=>.tup [.str (Str.ofString "many").cps.toList,enc p]
 | .maybe p=>.tup [.str (Str.ofString "maybe").cps.toList,enc p]
noncomputable def encs:Pts→List V
 | .nil=>[]
 | .cons p ps=>enc p :: encs ps
end
mutual
noncomputable def ht:Pt→Nat
 | .one _=>0
 | .row ps=>hts ps + 1
 | .or ps=>hts ps + 1
 | .many p=>ht p + 1
 | .maybe p=>ht p + 1
noncomputable def hts:Pts→Nat
 | .nil=>0
 | .cons p ps=>max (ht p) (hts ps)
end
noncomputable def pLen:Pts→Nat
 | .nil=>0
 | .cons _ ps=>pLen ps + 1
structure LeafOk (s:List Nat):Prop where
 ne:s ≠ []
 nd:s.Nodup
 lt:s.all (· < 127) = true
 len:s.length ≤ 76
mutual
noncomputable def Fine:Pt→Prop
 | .one s=>LeafOk s
 | .row ps=>pLen ps ≤ 64∧Z4v ps
 | .or ps=>pLen ps ≤ 64∧0 < pLen ps∧Z4v ps
 | .many p=>Fine p
 | .maybe p=>Fine p
noncomputable def Z4v:Pts→Prop
 | .nil=>True
 | .cons p ps=>Fine p∧Z4v ps
end
noncomputable def Z02 (l:List Nat):List V:=l.map fun n:Nat=>V.int (n:Int)
theorem Zcl (a b:List Nat):Z02 (a++b) = Z02 a++Z02 b:=List.map_append
theorem Z4d (a:List Nat):(Z02 a).length = a.length:=List.length_map ..
theorem Z2m (a b:List Nat) (h:a.length + b.length ≤ 10000):Z2Y (.lst (Z02 a)) (.lst (Z02 b)) = some (.lst (Z02 (a++b))):=by
 rw [Zcl]; exact if_pos (by rw [Z4d,Z4d]; exact Nat.le_trans h (by decide))
noncomputable def dl (ws:List Nat):List (Int × V):=ws.map fun k:Nat=>((k:Int),V.bool true)
noncomputable def dV (ws:List Nat):O:=.idict (dl ws)
theorem Zf7 (ws:List Nat):(dl ws).length = ws.length:=List.length_map ..
theorem Zf8 (ws:List Nat) (k:Nat):((dl ws).any fun p=>p.1 = (k:Int)) = ws.contains k:=by
 rw [Bool.eq_iff_iff]
 simp only [dl,List.any_map,List.any_eq_true,List.contains_iff_mem,Function.comp_def,decide_eq_true_eq]
 constructor
 ·intro q0z
  refine El.x1_2 q0z fun x hx e=>?_
  have:x = k:=by lia
  exact this ▸ hx
 ·intro h; exact ⟨k,h,rfl⟩
theorem ZaN (ws:List Nat) (k:Nat):Z0K (dl ws) (k:Int) (.bool true) = dl (Glu.ins ws k):=by
 unfold Z0K Glu.ins
 rw [Zf8]
 split
 ·unfold dl
  rw [List.map_map]
  refine List.map_congr_left fun x _=>?_
  simp only [Function.comp]
  split <;> rfl
 ·unfold dl
  rw [List.map_append]; rfl
noncomputable def rowB (N n:Nat):List V:=(List.range n).map fun j=>.ref (N + 5 + j)
theorem Zcm (N n:Nat):(rowB N n).length = n:=by simp [rowB]
theorem ZaO (N n:Nat):rowB N (n + 1) = rowB N n++[.ref (N + 5 + n)]:=by simp [rowB,List.range_succ]
theorem Z8w {N n j:Nat} (h:j < n):(rowB N n)[j]? = some (.ref (N + 5 + j)):=by
 simp only [rowB,List.getElem?_map]; rw [List.getElem?_range h]; rfl
noncomputable def LS (σ:List O) (ss:List (List Nat)) (W:List (List Nat)) (fi em:V) (es:List (Int × V)):List O:=σ++Lv σ.length (ss.map .str) (rowB σ.length W.length) fi em es (W.map dV)
theorem ZaP (σ:List O) (ss W:List (List Nat)) (fi em:V) (es:List (Int × V)):(LS σ ss W fi em es).length = σ.length + 5 + W.length:=by unfold LS; rw [Zcj,List.length_map]
theorem Z1E (σ:List O) (ss ss' W W':List (List Nat)) (fi em fi' em':V) (es es':List (Int × V)) (r:V) (h:W.length ≤ W'.length) :
  (LS σ ss' W' fi' em' es').length = (LS σ ss W fi em es).length ∨ r.lo (LS σ ss W fi em es).length = false ∨ ∃ o ∈ (LS σ ss' W' fi' em' es').take (LS σ ss W fi em es).length,O.lo (LS σ ss W fi em es).length o = false:=by
 rw [ZaP,ZaP]
 rcases Nat.eq_or_lt_of_le h with e | e
 ·exact .inl (by rw [e])
 ·refine .inr (.inr ⟨.lst (rowB σ.length W'.length),List.mem_of_getElem? (i:=σ.length + 2) ?_,?_⟩)
  ·rw [List.getElem?_take,if_pos (by lia)]; exact lv2 ..
  ·exact Z4a (x:=.ref (σ.length + 5 + W.length)) (List.mem_of_getElem? (Z8w e)) (by rw [Z0R]; exact decide_eq_false (Nat.lt_irrefl _))
theorem Z07 {C:Nat} {H:Option (List Int) × Str→Int} {defs:List Def} {K n:Nat} {f:Str} {d:Def} (hc:f ≠ Z0g) (h:defs.find? (fun d=>d.name == f) = some d) (args:List V) (σ:List O):Z0c (C,H) defs K (n + 1) f args σ = Z0a (Z0c (C,H) defs K n) K d args σ:=by
 rw [Z4W]
 simp only [if_neg hc,h]; rfl
section
variable (F:Fn) (K C:Nat) (hC:clsF F = some (C:Int)) (σ:List O) (ss:List (List Nat)) (fi em:V) (es:List (Int × V))
include hC
theorem ZaQ (x:Nat) (a b:Option V):∀ (fs:List Nat) (W:List (List Nat)) (x4:Option V),x < W.length→W.length ≤ 60→Glu.Wf W→(∀ y ∈ fs,y < 60) →
  ∃ W' x4',forR (fun v st=>evSs F K Z5w (setV st 4 v)) (Z02 fs) (S5 (some (.inst C σ.length)) a b (some (.int x)) x4 (LS σ ss W fi em es)) = .ok .next (S5 (some (.inst C σ.length)) a b (some (.int x)) x4' (LS σ ss W' fi em es)) ∧
   Glu.Wf W'∧W'.length = W.length∧∀ p q,Glu.Rel W' p q↔Glu.Rel W p q ∨ (p = x∧q ∈ fs)
 | [],W,x4,hx,h60,hw,hf=>⟨W,x4,by rw [Z02,List.map_nil,Z0r],hw,rfl,fun p q=>by simp⟩
 | y :: fs,W,x4,hx,h60,hw,hf=>by
  have hy:=hf y (by simp)
  have q104y:=ZaQ x a b fs (Glu.link1 W x y) (some (.int y)) (by rw [Glu.link1_len]; exact hx) (by rw [Glu.link1_len]; exact h60) (Glu.wf_link1 hw hy) fun z hz=>hf z (by simp [hz])
  refine El.x2_4 q104y fun W' x4' e h1 h2 h3=>?_
  refine ⟨W',x4',?_,h1,by rw [h2,Glu.link1_len],fun p q=>?_⟩
  ·have hg:W.getD x [] = W[x]:=by simp [hx]
   have hwx:=(hw _ (List.getElem_mem hx))
   have hl:(dl W[x]).length < sizeLine:=by rw [Zf7]; have:=Glu.nodup_le hwx.1 hwx.2; unfold sizeLine; lia
   have a1:=Z30 (C:=C) (k:=1) hC (lv0 σ (ss.map .str) (rowB σ.length W.length) fi em es (W.map dV)) rfl
   have s1:Z28 (σ++Lv σ.length (ss.map .str) (rowB σ.length W.length) fi em es (W.map dV)) (.ref (σ.length + 2)) (.int x) = some (.ref (σ.length + 5 + x)):=by rw [ZeE (lv2 ..),Z0T _ (by lia),Z8w hx]
   have s2:∀ ρ,setI (.ref (σ.length + 5 + x)) (.int y) (.bool true) ⟨ρ,σ++Lv σ.length (ss.map .str) (rowB σ.length W.length) fi em es (W.map dV)⟩ = .ok .next ⟨ρ,σ++Lv σ.length (ss.map .str) (rowB σ.length W.length) fi em es ((Glu.link1 W x y).map dV)⟩:=fun ρ=>by
    rw [ZcI (es:=dl W[x]) (by rw [lvD,List.getElem?_map,List.getElem?_eq_getElem hx]; rfl) hl,lvsD,ZaN]
    unfold Glu.link1
    rw [hg,List.map_set]; rfl
   have hb:evSs F K Z5w (setV (S5 (some (.inst C σ.length)) a b (some (.int x)) x4 (LS σ ss W fi em es)) 4 (.int y)) = .ok .next (S5 (some (.inst C σ.length)) a b (some (.int x)) (some (.int y)) (LS σ ss (Glu.link1 W x y) fi em es)):=by
    unfold LS
    rw [Glu.link1_len]
    exact atS fun t=>t a1 s1 (s2 _)
   rw [Z02,List.map_cons,Z0l,hb,R.bind_ok]
   exact e
  ·rw [h3,Glu.rel_link1 hx,or_assoc,List.mem_cons]
   constructor
   ·rintro (q1 | ⟨q1,q2⟩ | ⟨q1,q2⟩)
    ·exact .inl q1
    ·exact .inr ⟨q1,.inl q2⟩
    ·exact .inr ⟨q1,.inr q2⟩
   ·rintro (q1 | ⟨q1,q2 | q2⟩)
    ·exact .inl q1
    ·exact .inr (.inl ⟨q1,q2⟩)
    ·exact .inr (.inr ⟨q1,q2⟩)
theorem Z8x (fs:List Nat) (hf:∀ y ∈ fs,y < 60) (a:Option V):∀ (ls:List Nat) (W:List (List Nat)) (x3 x4:Option V),(∀ x ∈ ls,x < W.length)→W.length ≤ 60→Glu.Wf W →
  ∃ W' x3' x4',forR (fun v st=>evSs F K Z5x (setV st 3 v)) (Z02 ls) (S5 (some (.inst C σ.length)) a (some (.lst (Z02 fs))) x3 x4 (LS σ ss W fi em es)) = .ok .next (S5 (some (.inst C σ.length)) a (some (.lst (Z02 fs))) x3' x4' (LS σ ss W' fi em es)) ∧
   Glu.Wf W'∧W'.length = W.length∧∀ p q,Glu.Rel W' p q↔Glu.Rel W p q ∨ (p ∈ ls∧q ∈ fs)
 | [],W,x3,x4,hx,h60,hw=>⟨W,x3,x4,by rw [Z02,List.map_nil,Z0r],hw,rfl,fun p q=>by simp⟩
 | x :: ls,W,x3,x4,hx,h60,hw=>by
  refine El.x2_4 (ZaQ F K C hC σ ss fi em es x a (some (.lst (Z02 fs))) fs W x4 (hx x (by simp)) h60 hw hf) fun W₁ y4 e1 h1 h2 h3=>?_
  have q137y:=Z8x fs hf a ls W₁ (some (.int x)) y4 (fun z hz=>by rw [h2]; exact hx z (by simp [hz])) (by rw [h2]; exact h60) h1
  refine El.x3_4 q137y fun W' x3' x4' e g1 g2 g3=>?_
  refine El.y3_4 W' x3' x4' ?_ g1 (by rw [g2,h2]) (fun p q=>?_)
  ·have hb:evSs F K Z5x (setV (S5 (some (.inst C σ.length)) a (some (.lst (Z02 fs))) x3 x4 (LS σ ss W fi em es)) 3 (.int x)) = .ok .next (S5 (some (.inst C σ.length)) a (some (.lst (Z02 fs))) (some (.int x)) y4 (LS σ ss W₁ fi em es)):=by
    exact atS fun t=>t rfl e1
   rw [Z02,List.map_cons,Z0l,hb,R.bind_ok]
   exact e
  ·rw [g3,h3,or_assoc,List.mem_cons]
   constructor
   ·rintro (q1 | ⟨q1,q2⟩ | ⟨q1,q2⟩)
    ·exact .inl q1
    ·exact .inr ⟨.inl q1,q2⟩
    ·exact .inr ⟨.inr q1,q2⟩
   ·rintro (q1 | ⟨q1 | q1,q2⟩)
    ·exact .inl q1
    ·exact .inr (.inl ⟨q1,q2⟩)
    ·exact .inr (.inr ⟨q1,q2⟩)
theorem Zcn (fs ls:List Nat) (W:List (List Nat)) (hf:∀ y ∈ fs,y < 60) (hx:∀ x ∈ ls,x < W.length) (h60:W.length ≤ 60) (hw:Glu.Wf W) :
  ∃ W',Z0a F K Z8s [.inst C σ.length,.lst (Z02 ls),.lst (Z02 fs)] (LS σ ss W fi em es) = .ok .none ⟨[],LS σ ss W' fi em es⟩ ∧
   Glu.Wf W'∧W'.length = W.length∧∀ p q,Glu.Rel W' p q↔Glu.Rel W p q ∨ (p ∈ ls∧q ∈ fs):=by
 refine El.x3_4 (Z8x F K C hC σ ss fi em es fs hf (some (.lst (Z02 ls))) ls W none none hx h60 hw) fun W' x3 x4 e h1 h2 h3=>?_
 refine ⟨W',?_,h1,h2,h3⟩
 have e':evSs F K ZaF (S5 (some (.inst C σ.length)) (some (.lst (Z02 ls))) (some (.lst (Z02 fs))) none none (LS σ ss W fi em es)) = .ok .next (S5 (some (.inst C σ.length)) (some (.lst (Z02 ls))) (some (.lst (Z02 fs))) x3 x4 (LS σ ss W' fi em es)):=by
  exact atS fun t=>t rfl e
 exact Z0x (d:=Z8s) (args:=[.inst C σ.length,.lst (Z02 ls),.lst (Z02 fs)]) (F:=F) (K:=K) rfl e' (Z1E _ _ _ _ _ _ _ _ _ _ _ _ (Nat.le_of_eq h2.symm))
end
noncomputable def PAll (Q:Pt→Prop):Pts→Prop
 | .nil=>True
 | .cons p ps=>Q p∧PAll Q ps
noncomputable def Z6l (F:Fn) (C:Nat) (p:Pt):Prop:=∀ (σ:List O) (ss W:List (List Nat)) (fi em:V) (es:List (Int × V)),W.length = ss.length→Glu.Wf W→ss.length + p.leaves.length ≤ 60 →
 ∃ b fs ls W',F "looked_at" [.inst C σ.length,enc p] (LS σ ss W fi em es) = .ok (.tup [.bool b,.lst (Z02 fs),.lst (Z02 ls)]) ⟨[],LS σ (ss++p.leaves) W' fi em es⟩∧Glu.Sh (p.aut W.length) p.leaves.length W b fs ls W'
noncomputable def Zeh (F:Fn) (C:Nat):Prop:=∀ (σ:List O) (ss:List (List Nat)) (fi em:V) (es:List (Int × V)) (fs ls:List Nat) (W:List (List Nat)),(∀ y ∈ fs,y < 60)→(∀ x ∈ ls,x < W.length)→W.length ≤ 60→Glu.Wf W →
  ∃ W',F "link" [.inst C σ.length,.lst (Z02 ls),.lst (Z02 fs)] (LS σ ss W fi em es) = .ok .none ⟨[],LS σ ss W' fi em es⟩∧Glu.Wf W'∧W'.length = W.length∧∀ p q,Glu.Rel W' p q↔Glu.Rel W p q ∨ (p ∈ ls∧q ∈ fs)
theorem as3 (ρ:List (Option V)) (σ:List O) (i j k:Nat) (a b c:V):asT [i,j,k] (.tup [a,b,c]) ⟨ρ,σ⟩ = .ok () ⟨((ρ.set i (some a)).set j (some b)).set k (some c),σ⟩:=rfl
theorem Z8y (F:Fn) (K C:Nat) (hk:Zeh F C) (σ:List O) (fi em:V) (es:List (Int × V)) (pv:Option V):∀ (ps:Pts),PAll (Z6l F C) ps→∀ (A:Glu.Aut) (c:Nat) (W₀ W ss:List (List Nat)) (b:Bool) (fs ls:List Nat) (x5 x6 x7 x8:Option V),
  W.length = ss.length→ss.length + ps.leaves.length ≤ 60→Glu.Sh A c W₀ b fs ls W →
  ∃ b' fs' ls' W' y5 y6 y7 y8,forR (fun x st=>evSs F K Z2P (setV st 5 x)) (encs ps) (S9 (some (.inst C σ.length)) pv (some (.bool b)) (some (.lst (Z02 fs))) (some (.lst (Z02 ls))) x5 x6 x7 x8 (LS σ ss W fi em es)) =
   .ok .next (S9 (some (.inst C σ.length)) pv (some (.bool b')) (some (.lst (Z02 fs'))) (some (.lst (Z02 ls'))) y5 y6 y7 y8 (LS σ (ss++ps.leaves) W' fi em es))∧Glu.Sh (ps.autR A W.length) (c + ps.leaves.length) W₀ b' fs' ls' W'
 | .nil,_,A,c,W₀,W,ss,b,fs,ls,x5,x6,x7,x8,hl,h60,sh=>⟨b,fs,ls,W,x5,x6,x7,x8,by rw [encs,Z0r,Glu.ls0,List.append_nil],by rw [Glu.ar0,Glu.ls0]; exact sh⟩
 | .cons p ps,hp,A,c,W₀,W,ss,b,fs,ls,x5,x6,x7,x8,hl,h60,sh=>by
  rw [Glu.ls1,List.length_append] at h60
  refine El.x4_2 (hp.1 σ ss W fi em es hl sh.wf (by lia)) fun b₁ fs₁ ls₁ W₁ e1 s1=>?_
  have hW1:=s1.len
  have q19y:=hk σ (ss++p.leaves) fi em es fs₁ ls W₁ (fun y hy=>by have:=s1.fb y hy; lia) (fun x hx=>by have:=sh.lb x hx; lia) (by lia) s1.wf
  refine El.x1_4 q19y fun W₂ e2 g1 g2 g3=>?_
  have sh':=sh.seq s1 g3 g1 g2
  have q21y:=Z8y F K C hk σ fi em es pv ps hp.2 _ _ W₀ W₂ (ss++p.leaves) _ _ _ (some (enc p)) (some (.bool b₁)) (some (.lst (Z02 fs₁))) (some (.lst (Z02 ls₁))) (by rw [List.length_append]; lia) (by rw [List.length_append]; lia) sh'
  refine El.x8_2 q21y fun b' fs' ls' W' y5 y6 y7 y8 e3 s3=>?_
  refine El.y8_2 b' fs' ls' W' y5 y6 y7 y8 ?_ ?_
  ·have q1:=Z2m fs fs₁ (by have:=sh.fl; have:=s1.fl; have:=sh.len; lia)
   have q2:=Z2m ls ls₁ (by have:=sh.ll; have:=s1.ll; have:=sh.len; lia)
   have hb:evSs F K Z2P (setV (S9 (some (.inst C σ.length)) pv (some (.bool b)) (some (.lst (Z02 fs))) (some (.lst (Z02 ls))) x5 x6 x7 x8 (LS σ ss W fi em es)) 5 (enc p)) =
     .ok .next (S9 (some (.inst C σ.length)) pv (some (.bool (b && b₁))) (some (.lst (Z02 (if b then fs++fs₁ else fs)))) (some (.lst (Z02 (if b₁ then ls++ls₁ else ls₁)))) (some (enc p)) (some (.bool b₁)) (some (.lst (Z02 fs₁))) (some (.lst (Z02 ls₁))) (LS σ (ss++p.leaves) W₂ fi em es)):=by
    cases b <;> cases b₁
    ·exact atS fun t=>t e1 rfl e2 rfl rfl rfl rfl rfl
    ·exact atS fun t=>t e1 rfl e2 rfl rfl q2 rfl rfl rfl
    ·exact atS fun t=>t e1 rfl e2 rfl q1 rfl rfl rfl rfl rfl
    ·exact atS fun t=>t e1 rfl e2 rfl q1 rfl rfl q2 rfl rfl rfl
   rw [encs,Z0l,hb,R.bind_ok]
   rw [Glu.ls1,← List.append_assoc]
   exact e3
  ·rw [Glu.ar1,Glu.ls1,List.length_append,← Nat.add_assoc]
   rw [g2,hW1] at s3
   exact s3
theorem Z9a (F:Fn) (K C:Nat) (hk:Zeh F C) (σ:List O) (fi em:V) (es:List (Int × V)) (ps:Pts) (hp:PAll (Z6l F C) ps) (W ss:List (List Nat)) (hl:W.length = ss.length) (hw:Glu.Wf W) (h60:ss.length + ps.leaves.length ≤ 60) :
  ∃ b fs ls W',Z0a F K Z3j [.inst C σ.length,.lst (encs ps)] (LS σ ss W fi em es) = .ok (.tup [.bool b,.lst (Z02 fs),.lst (Z02 ls)]) ⟨[],LS σ (ss++ps.leaves) W' fi em es⟩∧Glu.Sh (ps.autR Glu.nul W.length) ps.leaves.length W b fs ls W':=by
 refine El.x8_2 (Z8y F K C hk σ fi em es (some (.lst (encs ps))) ps hp Glu.nul 0 W W ss true [] [] none none none none hl h60 (.nul hw)) fun b fs ls W' y5 y6 y7 y8 e s=>?_
 rw [Nat.zero_add] at s
 refine El.y4_2 b fs ls W' ?_ s
 have hn:Z02 [] = []:=rfl
 rw [hn] at e
 have e':evSs F K Z6i (S9 (some (.inst C σ.length)) (some (.lst (encs ps))) none none none none none none none (LS σ ss W fi em es)) = .ok (.ret (.tup [.bool b,.lst (Z02 fs),.lst (Z02 ls)])) (S9 (some (.inst C σ.length)) (some (.lst (encs ps))) (some (.bool b)) (some (.lst (Z02 fs))) (some (.lst (Z02 ls))) y5 y6 y7 y8 (LS σ (ss++ps.leaves) W' fi em es)):=by
  exact atS fun t=>t rfl rfl rfl rfl e rfl
 exact Z0x (d:=Z3j) (args:=[.inst C σ.length,.lst (encs ps)]) (F:=F) (K:=K) rfl e' (Z1E _ _ _ _ _ _ _ _ _ _ _ _ (by rw [s.len]; lia))
theorem ZaR (F:Fn) (K C:Nat) (σ:List O) (fi em:V) (es:List (Int × V)) (pv:Option V):∀ (ps:Pts),PAll (Z6l F C) ps→∀ (A:Glu.Aut) (c:Nat) (W₀ W ss:List (List Nat)) (b:Bool) (fs ls:List Nat) (x5 x6 x7 x8:Option V),
  W.length = ss.length→ss.length + ps.leaves.length ≤ 60→Glu.Sh A c W₀ b fs ls W →
  ∃ b' fs' ls' W' y5 y6 y7 y8,forR (fun x st=>evSs F K Z1h (setV st 5 x)) (encs ps) (S9 (some (.inst C σ.length)) pv (some (.bool b)) (some (.lst (Z02 fs))) (some (.lst (Z02 ls))) x5 x6 x7 x8 (LS σ ss W fi em es)) =
   .ok .next (S9 (some (.inst C σ.length)) pv (some (.bool b')) (some (.lst (Z02 fs'))) (some (.lst (Z02 ls'))) y5 y6 y7 y8 (LS σ (ss++ps.leaves) W' fi em es))∧Glu.Sh (ps.autO A W.length) (c + ps.leaves.length) W₀ b' fs' ls' W'
 | .nil,_,A,c,W₀,W,ss,b,fs,ls,x5,x6,x7,x8,hl,h60,sh=>⟨b,fs,ls,W,x5,x6,x7,x8,by rw [encs,Z0r,Glu.ls0,List.append_nil],by rw [Glu.ao0,Glu.ls0]; exact sh⟩
 | .cons p ps,hp,A,c,W₀,W,ss,b,fs,ls,x5,x6,x7,x8,hl,h60,sh=>by
  rw [Glu.ls1,List.length_append] at h60
  refine El.x4_2 (hp.1 σ ss W fi em es hl sh.wf (by lia)) fun b₁ fs₁ ls₁ W₁ e1 s1=>?_
  have hW1:=s1.len
  have sh':=sh.alt s1
  have q54y:=ZaR F K C σ fi em es pv ps hp.2 _ _ W₀ W₁ (ss++p.leaves) _ _ _ (some (enc p)) (some (.bool b₁)) (some (.lst (Z02 fs₁))) (some (.lst (Z02 ls₁))) (by rw [List.length_append]; lia) (by rw [List.length_append]; lia) sh'
  refine El.x8_2 q54y fun b' fs' ls' W' y5 y6 y7 y8 e3 s3=>?_
  refine El.y8_2 b' fs' ls' W' y5 y6 y7 y8 ?_ ?_
  ·have q1:=Z2m fs fs₁ (by have:=sh.fl; have:=s1.fl; have:=sh.len; lia)
   have q2:=Z2m ls ls₁ (by have:=sh.ll; have:=s1.ll; have:=sh.len; lia)
   have hb:evSs F K Z1h (setV (S9 (some (.inst C σ.length)) pv (some (.bool b)) (some (.lst (Z02 fs))) (some (.lst (Z02 ls))) x5 x6 x7 x8 (LS σ ss W fi em es)) 5 (enc p)) =
     .ok .next (S9 (some (.inst C σ.length)) pv (some (.bool (b || b₁))) (some (.lst (Z02 (fs++fs₁)))) (some (.lst (Z02 (ls++ls₁)))) (some (enc p)) (some (.bool b₁)) (some (.lst (Z02 fs₁))) (some (.lst (Z02 ls₁))) (LS σ (ss++p.leaves) W₁ fi em es)):=by
    cases b <;> exact atS fun t=>t e1 (as3 _ _ _ _ _ _ _ _) rfl rfl q1 rfl q2 rfl
   rw [encs,Z0l,hb,R.bind_ok]
   rw [Glu.ls1,← List.append_assoc]
   exact e3
  ·rw [Glu.ao1,Glu.ls1,List.length_append,← Nat.add_assoc]
   rw [hW1] at s3
   exact s3
theorem Z5A (F:Fn) (K C:Nat) (σ:List O) (fi em:V) (es:List (Int × V)) (ps:Pts) (h0:0 < pLen ps) (hp:PAll (Z6l F C) ps) (W ss:List (List Nat)) (hl:W.length = ss.length) (hw:Glu.Wf W) (h60:ss.length + ps.leaves.length ≤ 60) :
  ∃ b fs ls W',Z0a F K Z1i [.inst C σ.length,.lst (encs ps)] (LS σ ss W fi em es) = .ok (.tup [.bool b,.lst (Z02 fs),.lst (Z02 ls)]) ⟨[],LS σ (ss++ps.leaves) W' fi em es⟩∧Glu.Sh (ps.autO Glu.non W.length) ps.leaves.length W b fs ls W':=by
 refine El.x8_2 (ZaR F K C σ fi em es (some (.lst (encs ps))) ps hp Glu.non 0 W W ss false [] [] none none none none hl h60 (.non hw)) fun b fs ls W' y5 y6 y7 y8 e s=>?_
 rw [Nat.zero_add] at s
 refine El.y4_2 b fs ls W' ?_ s
 have hn:Z02 [] = []:=rfl
 rw [hn] at e
 have ht:(encs ps).isEmpty = false:=by
  cases ps with
  | nil=>exact absurd h0 (by rw [pLen]; lia)
  | cons p ps=>rw [encs]; rfl
 have e':evSs F K Z38 (S9 (some (.inst C σ.length)) (some (.lst (encs ps))) none none none none none none none (LS σ ss W fi em es)) = .ok (.ret (.tup [.bool b,.lst (Z02 fs),.lst (Z02 ls)])) (S9 (some (.inst C σ.length)) (some (.lst (encs ps))) (some (.bool b)) (some (.lst (Z02 fs))) (some (.lst (Z02 ls))) y5 y6 y7 y8 (LS σ (ss++ps.leaves) W' fi em es)):=by
  exact atS fun t=>t (nn ht) rfl rfl rfl rfl e rfl
 exact Z0x (d:=Z1i) (args:=[.inst C σ.length,.lst (encs ps)]) (F:=F) (K:=K) rfl e' (Z1E _ _ _ _ _ _ _ _ _ _ _ _ (by rw [s.len]; lia))
theorem Zco (F:Fn) (K:Nat) (x:V) (s:List Nat) (σ τ:List O) (r:V) (ρ':List (Option V)) (h:F "leaf_of" [x,.str s] σ = .ok r ⟨ρ',τ⟩) (hb:τ.length = σ.length ∨ r.lo σ.length = false ∨ ∃ o ∈ τ.take σ.length,O.lo σ.length o = false) :
  Z0a F K Z0e [x,enc (.one s)] σ = .ok r ⟨[],τ⟩:=by
 rw [enc]
 have e:evSs F K Z0z (S5 (some x) (some (.tup [.str (Str.ofString "one").cps.toList,.str s])) none none none σ) = .ok (.ret r) (S5 (some x) (some (.tup [.str (Str.ofString "one").cps.toList,.str s])) none none none τ):=by
  exact atS fun t=>t rfl Z6j rfl h rfl
 exact Z0x (d:=Z0e) (args:=[x,_]) (F:=F) (K:=K) rfl e hb
theorem Zcp (F:Fn) (K:Nat) (x:V) (ps:Pts) (σ τ:List O) (r:V) (ρ':List (Option V)) (h:F "row_of" [x,.lst (encs ps)] σ = .ok r ⟨ρ',τ⟩) (hb:τ.length = σ.length ∨ r.lo σ.length = false ∨ ∃ o ∈ τ.take σ.length,O.lo σ.length o = false) :
  Z0a F K Z0e [x,enc (.row ps)] σ = .ok r ⟨[],τ⟩:=by
 rw [enc]
 have e:evSs F K Z0z (S5 (some x) (some (.tup [.str (Str.ofString "row").cps.toList,.lst (encs ps)])) none none none σ) = .ok (.ret r) (S5 (some x) (some (.tup [.str (Str.ofString "row").cps.toList,.lst (encs ps)])) none none none τ):=by
  exact atS fun t=>t rfl Z6k rfl ZaK rfl h rfl
 exact Z0x (d:=Z0e) (args:=[x,_]) (F:=F) (K:=K) rfl e hb
theorem Zei (F:Fn) (K:Nat) (x:V) (ps:Pts) (σ τ:List O) (r:V) (ρ':List (Option V)) (h:F "choice_of" [x,.lst (encs ps)] σ = .ok r ⟨ρ',τ⟩) (hb:τ.length = σ.length ∨ r.lo σ.length = false ∨ ∃ o ∈ τ.take σ.length,O.lo σ.length o = false) :
  Z0a F K Z0e [x,enc (.or ps)] σ = .ok r ⟨[],τ⟩:=by
 rw [enc]
 have e:evSs F K Z0z (S5 (some x) (some (.tup [.str (Str.ofString "or").cps.toList,.lst (encs ps)])) none none none σ) = .ok (.ret r) (S5 (some x) (some (.tup [.str (Str.ofString "or").cps.toList,.lst (encs ps)])) none none none τ):=by
  exact atS fun t=>t rfl Z8v rfl Zck rfl Zeg rfl h rfl
 exact Z0x (d:=Z0e) (args:=[x,_]) (F:=F) (K:=K) rfl e hb
theorem ZaS (F:Fn) (K:Nat) (x:V) (p:Pt) (σ τ τ':List O) (b:Bool) (fs ls:V) (h:F "looked_at" [x,enc p] σ = .ok (.tup [.bool b,fs,ls]) ⟨[],τ⟩) (h2:F "link" [x,ls,fs] τ = .ok .none ⟨[],τ'⟩) (hb:τ'.length = σ.length ∨ (V.tup [.bool true,fs,ls]).lo σ.length = false ∨ ∃ o ∈ τ'.take σ.length,O.lo σ.length o = false) :
  Z0a F K Z0e [x,enc (.many p)] σ = .ok (.tup [.bool true,fs,ls]) ⟨[],τ'⟩:=by
 rw [enc]
 have e:evSs F K Z0z (S5 (some x) (some (.tup [.str (Str.ofString "many").cps.toList,enc p])) none none none σ) = .ok (.ret (.tup [.bool true,fs,ls])) (S5 (some x) (some (.tup [.str (Str.ofString "many").cps.toList,enc p])) (some (.bool b)) (some fs) (some ls) τ'):=by
  exact atS fun t=>t rfl Z4S rfl Z98 rfl ZaM rfl h (as3 _ _ _ _ _ _ _ _) rfl Z4b h2 rfl
 exact Z0x (d:=Z0e) (args:=[x,_]) (F:=F) (K:=K) rfl e hb
theorem Z9b (F:Fn) (K:Nat) (x:V) (p:Pt) (σ τ:List O) (b:Bool) (fs ls:V) (h:F "looked_at" [x,enc p] σ = .ok (.tup [.bool b,fs,ls]) ⟨[],τ⟩) (hb:τ.length = σ.length ∨ (V.tup [.bool true,fs,ls]).lo σ.length = false ∨ ∃ o ∈ τ.take σ.length,O.lo σ.length o = false) :
  Z0a F K Z0e [x,enc (.maybe p)] σ = .ok (.tup [.bool true,fs,ls]) ⟨[],τ⟩:=by
 rw [enc]
 have e:evSs F K Z0z (S5 (some x) (some (.tup [.str (Str.ofString "maybe").cps.toList,enc p])) none none none σ) = .ok (.ret (.tup [.bool true,fs,ls])) (S5 (some x) (some (.tup [.str (Str.ofString "maybe").cps.toList,enc p])) (some (.bool b)) (some fs) (some ls) τ):=by
  exact atS fun t=>t rfl Z4c rfl Z7v rfl Z99 rfl h (as3 _ _ _ _ _ _ _ _) rfl Z3b rfl
 exact Z0x (d:=Z0e) (args:=[x,_]) (F:=F) (K:=K) rfl e hb
theorem an5:attrNames.length = 5:=rfl
theorem Z2n {q:Option Int} {C k:Nat} {σ L:List O} {xs ys:List V} {v:V} (hq:q = some (C:Int)) (hs:setAt xs k v = some ys) (hl:ys.length ≤ 5) (ρ:List (Option V)):setA q (.inst C σ.length) v k ⟨ρ,σ++.attrs xs :: L⟩ = .ok .next ⟨ρ,σ++.attrs ys :: L⟩:=by
 rw [Z9u (n:=σ.length) hq (by simp) hs hl,List.set_append_right _ _ (Nat.le_refl _),Nat.sub_self]; rfl
theorem Zcq (F:Fn) (K C:Nat) (hC:clsF F = some (C:Int)) (σ:List O) :
  Z0a F K Z8r [.inst C σ.length] (σ++[.attrs []]) = .ok .none ⟨[],σ++[.attrs [.ref (σ.length + 1),.ref (σ.length + 2),.lst [],.ref (σ.length + 3),.none],.lst [],.lst [],.idict []]⟩:=by
 have h0:∀ ρ,setA (clsF F) (.inst C σ.length) (.ref (σ.length + 1)) 0 ⟨ρ,σ++[.attrs [],.lst []]⟩ = .ok .next ⟨ρ,σ++[.attrs [.ref (σ.length + 1)],.lst []]⟩:=fun ρ=>Z2n hC rfl (by simp) ρ
 have h1:∀ ρ,setA (clsF F) (.inst C σ.length) (.ref (σ.length + 2)) 1 ⟨ρ,σ++[.attrs [.ref (σ.length + 1)],.lst [],.lst []]⟩ = .ok .next ⟨ρ,σ++[.attrs [.ref (σ.length + 1),.ref (σ.length + 2)],.lst [],.lst []]⟩:=fun ρ=>Z2n hC rfl (by simp) ρ
 have h2:∀ ρ,setA (clsF F) (.inst C σ.length) (.lst []) 2 ⟨ρ,σ++[.attrs [.ref (σ.length + 1),.ref (σ.length + 2)],.lst [],.lst []]⟩ = .ok .next ⟨ρ,σ++[.attrs [.ref (σ.length + 1),.ref (σ.length + 2),.lst []],.lst [],.lst []]⟩:=fun ρ=>Z2n hC rfl (by simp) ρ
 have h3:∀ ρ,setA (clsF F) (.inst C σ.length) (.ref (σ.length + 3)) 3 ⟨ρ,σ++[.attrs [.ref (σ.length + 1),.ref (σ.length + 2),.lst []],.lst [],.lst [],.idict []]⟩ = .ok .next ⟨ρ,σ++[.attrs [.ref (σ.length + 1),.ref (σ.length + 2),.lst [],.ref (σ.length + 3)],.lst [],.lst [],.idict []]⟩:=fun ρ=>Z2n hC rfl (by simp) ρ
 have h4:∀ ρ,setA (clsF F) (.inst C σ.length) .none 4 ⟨ρ,σ++[.attrs [.ref (σ.length + 1),.ref (σ.length + 2),.lst [],.ref (σ.length + 3)],.lst [],.lst [],.idict []]⟩ = .ok .next ⟨ρ,σ++[.attrs [.ref (σ.length + 1),.ref (σ.length + 2),.lst [],.ref (σ.length + 3),.none],.lst [],.lst [],.idict []]⟩:=fun ρ=>Z2n hC rfl (by simp) ρ
 have e:evSs F K ZaE ⟨[some (.inst C σ.length)],σ++[.attrs []]⟩ = .ok .next ⟨[some (.inst C σ.length)],σ++[.attrs [.ref (σ.length + 1),.ref (σ.length + 2),.lst [],.ref (σ.length + 3),.none],.lst [],.lst [],.idict []]⟩:=by
  exact atS fun t=>t List.length_append (List.append_assoc ..) (h0 _) List.length_append (List.append_assoc ..) (h1 _) (h2 _) List.length_append (List.append_assoc ..) (h3 _) (h4 _)
 refine Z0x (d:=Z8r) (args:=[.inst C σ.length]) (F:=F) (K:=K) rfl e (.inr (.inr ⟨.attrs [.ref (σ.length + 1),.ref (σ.length + 2),.lst [],.ref (σ.length + 3),.none],List.mem_of_getElem? (i:=σ.length) ?_,?_⟩))
 ·rw [List.getElem?_take,if_pos (by simp)]
  exact Z24 σ [O.attrs [.ref (σ.length + 1),.ref (σ.length + 2),.lst [],.ref (σ.length + 3),.none],.lst [],.lst [],.idict []] 0
 ·refine Z4a (x:=.ref (σ.length + 1)) (by simp) ?_
  rw [Z0R]; exact decide_eq_false (by simp)
theorem Zej {s:List Nat} (h:s.all (· < 127) = true):s.all (· < 128) = true:=List.all_eq_true.mpr fun c hc=>decide_eq_true (Nat.lt_succ_of_lt (of_decide_eq_true (List.all_eq_true.mp h c hc)))
theorem Zf9:defs.find? (fun d=>d.name == Z0B) = some Z8r:=by kernel_rfl
theorem Zfa:defs.find? (fun d=>d.name == Str.ofString "link") = some Z8s:=by kernel_rfl
theorem ZaT:defs.find? (fun d=>d.name == Str.ofString "leaf_of") = some Z2k:=by kernel_rfl
theorem Zcr:defs.find? (fun d=>d.name == Str.ofString "row_of") = some Z3j:=by kernel_rfl
theorem Z7w:defs.find? (fun d=>d.name == Str.ofString "choice_of") = some Z1i:=by kernel_rfl
theorem Z0Y:defs.find? (fun d=>d.name == Str.ofString "looked_at") = some Z0e:=by kernel_rfl
theorem Z7x:defs.find? (fun d=>d.name == Str.ofString "leaves_of") = some Z1l:=by kernel_rfl
theorem ZaU:defs.find? (fun d=>d.name == Str.ofString "_law_cell_at") = some Z42:=by kernel_rfl
theorem Z6m:defs.find? (fun d=>d.name == Str.ofString "_law_sign_by") = some Z43:=by kernel_rfl
theorem ZaV:defs.find? (fun d=>d.name == Str.ofString "_law_letters") = some Z2l:=by kernel_rfl
theorem ZaW:defs.find? (fun d=>d.name == Str.ofString "_law_some_of") = some Z44:=by kernel_rfl
theorem ZaX:defs.find? (fun d=>d.name == Str.ofString "_law_text_by") = some Z45:=by kernel_rfl
theorem Zek:defs.find? (fun d=>d.name == Str.ofString "_law_grown") = some Z46:=by kernel_rfl
theorem Zfb:defs.find? (fun d=>d.name == Str.ofString "_law_wide") = some ZaH:=by kernel_rfl
theorem Zel:defs.find? (fun d=>d.name == Str.ofString "_law_words") = some Z7n:=by kernel_rfl
theorem Zem:defs.find? (fun d=>d.name == Str.ofString "_law_loops") = some Z7o:=by kernel_rfl
theorem Zfc:defs.find? (fun d=>d.name == Str.ofString "_law_long") = some ZaI:=by kernel_rfl
theorem Z9c:defs.find? (fun d=>d.name == Str.ofString "_law_patterns") = some Z2R:=by kernel_rfl
theorem ZfB:defs.find? (fun d=>d.name == Str.ofString "law") = some Zf6:=by kernel_rfl
theorem Z4T:∀ {l:List Nat},l.Nodup→l.eraseDups = l
 | [],_=>rfl
 | a :: l,h=>by
  rw [List.nodup_cons] at h
  rw [List.eraseDups_cons]
  have:l.filter (fun b=>!b == a) = l:=by
   rw [List.filter_eq_self]
   intro b hb
   have:b ≠ a:=fun e=>h.1 (e ▸ hb)
   simp [this]
  rw [this,Z4T h.2]
section
variable (C K:Nat) {H:Option (List Int) × Str→Int}
theorem Zd5 (n:Nat):Zeh (Z0c (C,H) defs K (n + 2)) C:=fun σ ss fi em es fs ls W h1 h2 h3 h4=>by
 rw [Z07 (by decide) Zfa]
 exact Zcn _ _ _ (Z2N ..) σ ss fi em es fs ls W h1 h2 h3 h4
mutual
theorem Z3k:∀ (p:Pt),Fine p→∀ n,2 * ht p + 3 ≤ n→Z6l (Z0c (C,H) defs K n) C p
 | .one s,hf,n,hn=>fun σ ss W fi em es hl hw h60=>by
  rw [Fine] at hf
  have hle:(Glu.Pat.one s:Pt).leaves = [s]:=rfl
  rw [hle] at h60 ⊢
  obtain ⟨m,rfl⟩:∃ m,n = m + 3:=⟨n - 3,by lia⟩
  refine El.y4_2 false [W.length] [W.length] (W++[[]]) ?_ (by exact .leaf hw)
  have h:Z0c (C,H) defs K (m + 2) "leaf_of" [.inst C σ.length,.str s] (LS σ ss W fi em es) = .ok (.tup [.bool false,.lst (Z02 [W.length]),.lst (Z02 [W.length])]) ⟨[],LS σ (ss++[s]) (W++[[]]) fi em es⟩:=by
   rw [Z07 (by decide) ZaT]
   have h1:ss.length < 60:=by rw [List.length_singleton] at h60; lia
   have:=Z7t (Z0c (C,H) defs K (m + 1)) K C (Z2N ..) σ (ss.map .str) (rowB σ.length W.length) fi em es (W.map dV) s hf.ne (by rw [Z4T hf.nd]) ⟨by have:=hf.len; lia,Zej hf.lt⟩ (by rw [List.length_map]; exact h1) (by rw [Zcm,hl]; exact h1)
   rw [List.length_map,List.length_map,← hl,← ZaO] at this
   unfold LS
   rw [List.map_append,List.map_append,List.length_append]
   exact this
  rw [Z07 (by decide) Z0Y]
  exact Zco _ _ _ _ _ _ _ _ h (Z1E _ _ _ _ _ _ _ _ _ _ _ _ (by simp))
 | .row ps,hf,n,hn=>fun σ ss W fi em es hl hw h60=>by
  rw [Fine] at hf
  rw [ht] at hn
  have hle:(Glu.Pat.row ps:Pt).leaves = ps.leaves:=rfl
  rw [hle] at h60 ⊢
  obtain ⟨m,rfl⟩:∃ m,n = m + 4:=⟨n - 4,by lia⟩
  have hp:=Z4e ps hf.2 (m + 2) (by lia)
  refine El.x4_2 (Z9a (Z0c (C,H) defs K (m + 2)) K C (Zd5 (H:=H) C K m) σ fi em es ps hp W ss hl hw h60) fun b fs ls W' e s=>?_
  refine El.y4_2 b fs ls W' ?_ (by exact s)
  rw [Z07 (by decide) Z0Y]
  exact Zcp _ _ _ _ _ _ _ _ (by rw [Z07 (by decide) Zcr]; exact e) (Z1E _ _ _ _ _ _ _ _ _ _ _ _ (by rw [s.len]; lia))
 | .or ps,hf,n,hn=>fun σ ss W fi em es hl hw h60=>by
  rw [Fine] at hf
  rw [ht] at hn
  have hle:(Glu.Pat.or ps:Pt).leaves = ps.leaves:=rfl
  rw [hle] at h60 ⊢
  obtain ⟨m,rfl⟩:∃ m,n = m + 4:=⟨n - 4,by lia⟩
  have hp:=Z4e ps hf.2.2 (m + 2) (by lia)
  refine El.x4_2 (Z5A (Z0c (C,H) defs K (m + 2)) K C σ fi em es ps hf.2.1 hp W ss hl hw h60) fun b fs ls W' e s=>?_
  refine El.y4_2 b fs ls W' ?_ (by exact s)
  rw [Z07 (by decide) Z0Y]
  exact Zei _ _ _ _ _ _ _ _ (by rw [Z07 (by decide) Z7w]; exact e) (Z1E _ _ _ _ _ _ _ _ _ _ _ _ (by rw [s.len]; lia))
 | .many p,hf,n,hn=>fun σ ss W fi em es hl hw h60=>by
  rw [Fine] at hf
  rw [ht] at hn
  have hle:(Glu.Pat.many p:Pt).leaves = p.leaves:=rfl
  rw [hle] at h60 ⊢
  obtain ⟨m,rfl⟩:∃ m,n = m + 3:=⟨n - 3,by lia⟩
  refine El.x4_2 (Z3k p hf (m + 2) (by lia) σ ss W fi em es hl hw h60) fun b fs ls W₁ e s=>?_
  have hs:=s.len
  have q68y:=Zd5 (H:=H) C K m σ (ss++p.leaves) fi em es fs ls W₁ (fun y hy=>by have:=s.fb y hy; lia) s.lb (by lia) s.wf
  refine El.x1_4 q68y fun W' e' g1 g2 g3=>?_
  refine El.y4_2 true fs ls W' ?_ (by exact s.star g3 g1 g2)
  rw [Z07 (by decide) Z0Y]
  exact ZaS _ _ _ _ _ _ _ _ _ _ e e' (Z1E _ _ _ _ _ _ _ _ _ _ _ _ (by lia))
 | .maybe p,hf,n,hn=>fun σ ss W fi em es hl hw h60=>by
  rw [Fine] at hf
  rw [ht] at hn
  have hle:(Glu.Pat.maybe p:Pt).leaves = p.leaves:=rfl
  rw [hle] at h60 ⊢
  obtain ⟨m,rfl⟩:∃ m,n = m + 1:=⟨n - 1,by lia⟩
  refine El.x4_2 (Z3k p hf m (by lia) σ ss W fi em es hl hw h60) fun b fs ls W₁ e s=>?_
  have hs:=s.len
  refine El.y4_2 true fs ls W₁ ?_ (by exact s.opt)
  rw [Z07 (by decide) Z0Y]
  exact Z9b _ _ _ _ _ _ _ _ _ e (Z1E _ _ _ _ _ _ _ _ _ _ _ _ (by lia))
theorem Z4e:∀ (ps:Pts),Z4v ps→∀ n,2 * hts ps + 3 ≤ n→PAll (Z6l (Z0c (C,H) defs K n) C) ps
 | .nil,_,n,_=>by rw [PAll]; trivial
 | .cons p ps,hf,n,hn=>by
  rw [Z4v] at hf
  rw [hts] at hn
  rw [PAll]
  exact ⟨Z3k p hf.1 n (by lia),Z4e ps hf.2 n (by lia)⟩
end
theorem ZfC (n:Nat) (σ:List O):Z0c (C,H) defs K (n + 3) Z0g [] σ = .ok (.inst C σ.length) ⟨[],σ++[.attrs [.ref (σ.length + 1),.ref (σ.length + 2),.lst [],.ref (σ.length + 3),.none],.lst [],.lst [],.idict []]⟩:=by
 have h:Z0c (C,H) defs K (n + 2) Z0B [.inst C σ.length] (σ++[.attrs []]) = .ok .none ⟨[],σ++[.attrs [.ref (σ.length + 1),.ref (σ.length + 2),.lst [],.ref (σ.length + 3),.none],.lst [],.lst [],.idict []]⟩:=by
  rw [Z07 (by decide) Zf9]
  exact Zcq _ _ _ (Z2N ..) _
 rw [Z4W]
 simp only [if_true,List.isEmpty_nil]
 unfold newR
 rw [h,R.bind_ok]
end
noncomputable def eV (E:List (Nat × Nat)):List (Int × V):=E.map fun p=>((p.1:Int),V.int (p.2:Int))
theorem ZaY (E:List (Nat × Nat)) (x k:Nat):Z0K (eV E) (x:Int) (.int (k:Int)) = eV (Glu.stN E x k):=by
 have ha:((eV E).any fun p=>p.1 = (x:Int)) = E.any fun p=>p.1 = x:=by
  unfold eV
  rw [List.any_map]
  congr 1
  funext p
  simp only [Function.comp]
  rw [Bool.eq_iff_iff,decide_eq_true_eq,decide_eq_true_eq]; lia
 unfold Z0K Glu.stN
 rw [ha]
 split
 ·unfold eV
  rw [List.map_map,List.map_map]
  refine List.map_congr_left fun p _=>?_
  simp only [Function.comp]
  by_cases h:p.1 = x
  ·rw [if_pos h,if_pos (by lia)]
  ·rw [if_neg h,if_neg (by lia)]
 ·unfold eV
  rw [List.map_append]; rfl
noncomputable def oV:Option Nat→V
 | none=>.none
 | some k=>.int (k:Int)
theorem Z6n (F:Fn) (K C:Nat) (hC:clsF F = some (C:Int)) (σ:List O) (ss W:List (List Nat)) (fi em:V) (k:Nat) (x0 x3 x4 x5 x6:Option V):∀ (ls:List Nat) (E:List (Nat × Nat)) (x7:Option V),E.length + ls.length ≤ 1000 →
  ∃ y7,forR (fun x st=>evSs F K Z1j (setV st 7 x)) (Z02 ls) (S8 x0 (some (.inst C σ.length)) (some (.int (k:Int))) x3 x4 x5 x6 x7 (LS σ ss W fi em (eV E))) =
   .ok .next (S8 x0 (some (.inst C σ.length)) (some (.int (k:Int))) x3 x4 x5 x6 y7 (LS σ ss W fi em (eV (ls.foldl (fun E x=>Glu.stN E x k) E))))
 | [],E,x7,_=>⟨x7,by rw [Z02,List.map_nil,Z0r]; rfl⟩
 | x :: ls,E,x7,hl=>by
  rw [List.length_cons] at hl
  obtain ⟨y7,e⟩:=Z6n F K C hC σ ss W fi em k x0 x3 x4 x5 x6 ls (Glu.stN E x k) (some (.int (x:Int))) (by have:=Glu.stN_len E x k; lia)
  refine ⟨y7,?_⟩
  have a3:=Z30 (C:=C) (k:=3) hC (lv0 σ (ss.map .str) (rowB σ.length W.length) fi em (eV E) (W.map dV)) rfl
  have s3:∀ ρ,setI (.ref (σ.length + 3)) (.int (x:Int)) (.int (k:Int)) ⟨ρ,σ++Lv σ.length (ss.map .str) (rowB σ.length W.length) fi em (eV E) (W.map dV)⟩ = .ok .next ⟨ρ,σ++Lv σ.length (ss.map .str) (rowB σ.length W.length) fi em (eV (Glu.stN E x k)) (W.map dV)⟩:=fun ρ=>by
   rw [ZcI (lv3 σ (ss.map .str) (rowB σ.length W.length) fi em (eV E) (W.map dV)) (by rw [eV,List.length_map]; unfold sizeLine; lia),lvs3,ZaY]
  have hb:evSs F K Z1j (setV (S8 x0 (some (.inst C σ.length)) (some (.int (k:Int))) x3 x4 x5 x6 x7 (LS σ ss W fi em (eV E))) 7 (.int (x:Int))) = .ok .next (S8 x0 (some (.inst C σ.length)) (some (.int (k:Int))) x3 x4 x5 x6 (some (.int (x:Int))) (LS σ ss W fi em (eV (Glu.stN E x k)))):=by
   unfold LS
   exact atS fun t=>t a3 (s3 _)
  rw [Z02,List.map_cons,Z0l,hb,R.bind_ok]
  exact e
theorem as2 (ρ:List (Option V)) (σ:List O) (i j:Nat) (a b:V):asT [i,j] (.tup [a,b]) ⟨ρ,σ⟩ = .ok () ⟨(ρ.set i (some a)).set j (some b),σ⟩:=rfl
theorem Z6o (o:Option Nat):(oV o).isNone = o.isNone:=by cases o <;> rfl
theorem Z4f (F:Fn) (K C:Nat) (hC:clsF F = some (C:Int)) (σ:List O) (x0:Option V):∀ (ps d:List Pt) (W:List (List Nat)) (fi:List Nat) (em:Option Nat) (E:List (Nat × Nat)) (x2 x3 x4 x5 x6 x7:Option V),
  (∀ p ∈ ps,Z6l F C p)→(Glu.allLeaves (d++ps)).length ≤ 60→Glu.Lvd d W fi em E →
  ∃ W' fi' em' E' y2 y3 y4 y5 y6 y7,forR (fun x st=>(asT [2,3] x st).bind fun _ st=>evSs F K Z1k st) (Z2w d.length (ps.map enc)) (S8 x0 (some (.inst C σ.length)) x2 x3 x4 x5 x6 x7 (LS σ (Glu.allLeaves d) W (.lst (Z02 fi)) (oV em) (eV E))) =
   .ok .next (S8 x0 (some (.inst C σ.length)) y2 y3 y4 y5 y6 y7 (LS σ (Glu.allLeaves (d++ps)) W' (.lst (Z02 fi')) (oV em') (eV E')))∧Glu.Lvd (d++ps) W' fi' em' E'
 | [],d,W,fi,em,E,x2,x3,x4,x5,x6,x7,_,_,L=>⟨W,fi,em,E,x2,x3,x4,x5,x6,x7,by rw [List.map_nil,Z5R,Z0r,List.append_nil],by rw [List.append_nil]; exact L⟩
 | p :: ps,d,W,fi,em,E,x2,x3,x4,x5,x6,x7,hp,h60,L=>by
  have happ:d++p :: ps = (d++[p])++ps:=by simp
  rw [happ] at h60 ⊢
  have h60':(Glu.allLeaves d).length + p.leaves.length ≤ 60:=by
   have:(Glu.allLeaves (d++[p])).length ≤ (Glu.allLeaves (d++[p]++ps)).length:=by
    unfold Glu.allLeaves; rw [List.flatMap_append (xs:=d++[p]),List.length_append]; lia
   rw [Glu.all_snoc,List.length_append] at this
   lia
  refine El.x4_2 (hp p (by simp) σ (Glu.allLeaves d) W (.lst (Z02 fi)) (oV em) (eV E) L.len L.wf h60') fun b fs ls W₁ e1 s1=>?_
  have L1:=L.step s1
  obtain ⟨y7,e2⟩:=Z6n F K C hC σ (Glu.allLeaves d++p.leaves) W₁ (.lst (Z02 (fi++fs))) (oV em) d.length x0 (some (enc p)) (some (.bool b)) (some (.lst (Z02 fs))) (some (.lst (Z02 ls))) ls E x7 (by have:=L.el; have:=s1.ll; lia)
  refine El.x10_2 (Z4f F K C hC σ x0 ps (d++[p]) W₁ (fi++fs) _ _ (some (.int (d.length:Int))) (some (enc p)) (some (.bool b)) (some (.lst (Z02 fs))) (some (.lst (Z02 ls))) y7 (fun q hq=>hp q (by simp [hq])) h60 L1) fun W' fi' em' E' y2 y3 y4 y5 y6 y7' e3 L'=>?_
  refine ⟨W',fi',em',E',y2,y3,y4,y5,y6,y7',?_,L'⟩
  have q1:=Z2m fi fs (by have:=L.fl; have:=s1.fl; lia)
  have a2:Z1Y (clsF F) (LS σ (Glu.allLeaves d++p.leaves) W₁ (.lst (Z02 fi)) (oV em) (eV E)) (.inst C σ.length) 2 = some (.lst (Z02 fi)):=Z30 (C:=C) (k:=2) hC (lv0 ..) rfl
  have s2:∀ ρ,setA (clsF F) (.inst C σ.length) (.lst (Z02 (fi++fs))) 2 ⟨ρ,LS σ (Glu.allLeaves d++p.leaves) W₁ (.lst (Z02 fi)) (oV em) (eV E)⟩ = .ok .next ⟨ρ,LS σ (Glu.allLeaves d++p.leaves) W₁ (.lst (Z02 (fi++fs))) (oV em) (eV E)⟩:=fun ρ=>by
   unfold LS
   rw [Z9u hC (lv0 ..) rfl (by rw [an5]; simp)]
   exact congrArg (fun l=>R.ok Fl.next ⟨ρ,l⟩) (lvsF ..)
  have a4:Z1Y (clsF F) (LS σ (Glu.allLeaves d++p.leaves) W₁ (.lst (Z02 (fi++fs))) (oV em) (eV (ls.foldl (fun E x=>Glu.stN E x d.length) E))) (.inst C σ.length) 4 = some (oV em):=Z30 (C:=C) (k:=4) hC (lv0 ..) rfl
  have s4:∀ ρ v,setA (clsF F) (.inst C σ.length) v 4 ⟨ρ,LS σ (Glu.allLeaves d++p.leaves) W₁ (.lst (Z02 (fi++fs))) (oV em) (eV (ls.foldl (fun E x=>Glu.stN E x d.length) E))⟩ = .ok .next ⟨ρ,LS σ (Glu.allLeaves d++p.leaves) W₁ (.lst (Z02 (fi++fs))) v (eV (ls.foldl (fun E x=>Glu.stN E x d.length) E))⟩:=fun ρ v=>by
   unfold LS
   rw [Z9u hC (lv0 ..) rfl (by rw [an5]; simp)]
   exact congrArg (fun l=>R.ok Fl.next ⟨ρ,l⟩) (lvsE ..)
  have hb:((asT [2,3] (.tup [.int (d.length:Int),enc p]) (S8 x0 (some (.inst C σ.length)) x2 x3 x4 x5 x6 x7 (LS σ (Glu.allLeaves d) W (.lst (Z02 fi)) (oV em) (eV E)))).bind fun _ st=>evSs F K Z1k st) =
    .ok .next (S8 x0 (some (.inst C σ.length)) (some (.int (d.length:Int))) (some (enc p)) (some (.bool b)) (some (.lst (Z02 fs))) (some (.lst (Z02 ls))) y7 (LS σ (Glu.allLeaves d++p.leaves) W₁ (.lst (Z02 (fi++fs))) (oV (if b && em.isNone then some d.length else em)) (eV (ls.foldl (fun E x=>Glu.stN E x d.length) E)))):=by
   rw [as2]
   have hn:oV (some d.length) = .int (d.length:Int):=rfl
   cases b
   ·exact atS fun t=>t e1 (as3 _ _ _ _ _ _ _ _) a2 q1 (s2 _) rfl e2 rfl rfl
   ·cases hem:em.isNone
    ·have hi:(oV em).isNone = false:=by rw [Z6o,hem]
     exact atS fun t=>t e1 (as3 _ _ _ _ _ _ _ _) a2 q1 (s2 _) rfl e2 rfl a4 hi
    ·have hi:(oV em).isNone = true:=by rw [Z6o,hem]
     exact atS fun t=>t e1 (as3 _ _ _ _ _ _ _ _) a2 q1 (s2 _) rfl e2 rfl a4 hi (s4 _ _)
  rw [List.map_cons,Z8L,Z0l,hb,R.bind_ok]
  have hlen:(d++[p]).length = d.length + 1:=by simp
  rw [Glu.all_snoc,hlen] at e3
  exact e3
theorem Z5B (F:Fn) (K C:Nat) (hC:clsF F = some (C:Int)) (σ:List O) (ps:List Pt) (h0:ps ≠ []) (h8:ps.length ≤ 8) (hp:∀ p ∈ ps,Z6l F C p) (h60:(Glu.allLeaves ps).length ≤ 60)
  (hnew:F Z0g [] σ = .ok (.inst C σ.length) ⟨[],σ++[.attrs [.ref (σ.length + 1),.ref (σ.length + 2),.lst [],.ref (σ.length + 3),.none],.lst [],.lst [],.idict []]⟩) :
  ∃ W fi em E,Z0a F K Z1l [.lst (ps.map enc)] σ = .ok (.inst C σ.length) ⟨[],LS σ (Glu.allLeaves ps) W (.lst (Z02 fi)) (oV em) (eV E)⟩∧Glu.Lvd ps W fi em E:=by
 refine El.x10_2 (Z4f F K C hC σ (some (.lst (ps.map enc))) ps [] [] [] none [] none none none none none none hp (by simpa using h60) .nil) fun W fi em E y2 y3 y4 y5 y6 y7 e L=>?_
 rw [List.nil_append] at e L
 refine El.y4_2 W fi em E ?_ L
 have hpv:σ++[O.attrs [.ref (σ.length + 1),.ref (σ.length + 2),.lst [],.ref (σ.length + 3),.none],.lst [],.lst [],.idict []]++[.priv] = LS σ (Glu.allLeaves []) [] (.lst (Z02 [])) (oV none) (eV []):=by rw [List.append_assoc]; rfl
 have ht:(ps.map enc).isEmpty = false:=by cases ps with | nil=>exact absurd rfl h0 | cons a b=>rfl
 have c8:decide ((((ps.map enc).length:Nat):Int) > 8) = false:=decide_eq_false (by rw [List.length_map]; lia)
 have e':evSs F K Z39 (S8 (some (.lst (ps.map enc))) none none none none none none none σ) = .ok (.ret (.inst C σ.length)) (S8 (some (.lst (ps.map enc))) (some (.inst C σ.length)) y2 y3 y4 y5 y6 y7 (LS σ (Glu.allLeaves ps) W (.lst (Z02 fi)) (oV em) (eV E))):=by
  rw [List.length_nil] at e
  exact atS fun t=>t (nn ht) rfl c8 hnew rfl hpv e rfl
 exact Z0x (d:=Z1l) (args:=[.lst (ps.map enc)]) (F:=F) (K:=K) rfl e' (.inr (.inl (by show V.lo _ (.inst C σ.length) = false; rw [Z2y]; exact decide_eq_false (Nat.lt_irrefl _))))
theorem ZaZ {α:Type} (l r:List α) (x:α):(l++x :: r)[l.length]? = some x:=by simp
theorem Z7y {α:Type} (l r:List α) (x y:α):(l++x :: r).set l.length y = l++y :: r:=by simp
noncomputable def Cl (σ:List O):Prop:=σ.all (O.lo σ.length) = true
theorem atF {F:Fn} {K:Nat} {d:Def} {args:List V} {σ:List O} {r:V} (hl:args.length = d.params.length) (hσ:Cl σ) (t:(tlSs F K false d.body ⟨args.map some++List.replicate (d.slots - args.length) none,σ⟩ fun fl st'=>∀ ⦃τ⦄,st'.σ = σ++τ→fl.val.lo σ.length = true→Z0a F K d args σ = .ok fl.val ⟨[],σ⟩)→Z0a F K d args σ = .ok r ⟨[],σ⟩):Z0a F K d args σ = .ok r ⟨[],σ⟩:=by
 refine t (Z7l F K false _ _ _ fun fl st' e τ h1 h2=>?_)
 unfold Z0a
 rw [if_pos hl,e]
 have h3:(σ++τ).take σ.length = σ:=List.take_left' rfl
 have h4:σ.all (O.lo σ.length) = true:=hσ
 rw [R.bind_ok,h1,h3,h2,h4]; rfl
theorem app0 {σ:List O}:σ = σ++[]:=(List.append_nil σ).symm
theorem Cl.snoc {σ:List O} (h:Cl σ) {xs:List V} (hx:V.los 0 xs = true):Cl (σ++[.lst xs]):=by
 unfold Cl
 rw [List.all_append,List.length_append,Bool.and_eq_true]
 refine ⟨List.all_eq_true.mpr fun o ho=>O.lo_mono (Nat.le_add_right _ _) (List.all_eq_true.mp h o ho),?_⟩
 simp only [List.all_cons,List.all_nil,Bool.and_true]
 exact V.los_mono (Nat.zero_le _) _ hx
theorem Cl.dead {σ:List O} (h:Cl σ):Cl (σ++[.dead]):=by
 unfold Cl
 rw [List.all_append,List.length_append,Bool.and_eq_true]
 exact ⟨List.all_eq_true.mpr fun o ho=>O.lo_mono (Nat.le_add_right _ _) (List.all_eq_true.mp h o ho),rfl⟩
theorem Zen (n:Nat) (l:List Nat):V.los n (Z02 l) = true:=Z1W fun x hx=>by obtain ⟨k,_,rfl⟩:=List.mem_map.mp hx; exact Z1u _
theorem Zb0 {σ:List O} (h:Cl σ) (ss W:List (List Nat)) (fi:List Nat) (em:Option Nat) (E:List (Nat × Nat)):Cl (LS σ ss W (.lst (Z02 fi)) (oV em) (eV E)):=by
 unfold Cl
 rw [ZaP]
 unfold LS
 rw [List.all_append,Bool.and_eq_true]
 refine ⟨List.all_eq_true.mpr fun o ho=>O.lo_mono (by lia) (List.all_eq_true.mp h o ho),List.all_eq_true.mpr fun o ho=>?_⟩
 unfold Lv at ho
 simp only [List.mem_cons] at ho
 have he:(oV em).lo (σ.length + 5 + W.length) = true:=by cases em; exact Z4z; exact Z1u _
 rcases ho with rfl | rfl | rfl | rfl | rfl | ho
 ·show V.los _ _ = true
  simp only [Z03,Z0f,Z0R,Z0w,Zen,he,Bool.and_true,Bool.true_and,Bool.and_eq_true,decide_eq_true_eq]
  lia
 ·exact Z1W fun x hx=>by obtain ⟨k,_,rfl⟩:=List.mem_map.mp hx; exact Z09 _
 ·refine Z1W fun x hx=>?_
  refine El.x1_2 (List.mem_map.mp hx) fun k hk q0z=>?_
  obtain rfl:=q0z
  rw [Z0R]
  have:=List.mem_range.mp hk
  exact decide_eq_true (by lia)
 ·refine Z1W fun x hx=>?_
  unfold eV at hx
  rw [List.map_map] at hx
  refine El.x1_2 (List.mem_map.mp hx) fun k hk q1z=>?_
  obtain rfl:=q1z
  exact Z1u _
 ·rfl
 ·refine El.x1_2 (List.mem_map.mp ho) fun ws hw q2z=>?_
  obtain rfl:=q2z
  refine Z1W fun x hx=>?_
  unfold dl at hx
  rw [List.map_map] at hx
  refine El.x1_2 (List.mem_map.mp hx) fun k hk q3z=>?_
  obtain rfl:=q3z
  exact Z2x _
noncomputable def hits (ss:List (List Nat)) (c x:Nat):Bool:=(ss.getD x []).contains c
section
variable (F:Fn) (K C:Nat) (hC:clsF F = some (C:Int)) (σ:List O) (ss:List (List Nat)) (bs:List V) (fi em:V) (es:List (Int × V))
include hC
end
noncomputable def insN (i:Nat):List Nat→List Nat
 | []=>[i]
 | j :: r=>if i ≤ j then i :: j :: r else j :: insN i r
noncomputable def ZfI (l:List Nat):List Nat:=l.foldr insN []
noncomputable def TS (σ:List O) (ps:List Pt) (W:List (List Nat)) (fi:List Nat) (em:Option Nat) (E:List (Nat × Nat)):List O:=LS σ (Glu.allLeaves ps) W (.lst (Z02 fi)) (oV em) (eV E)
section
variable (F:Fn) (K C:Nat) (hC:clsF F = some (C:Int)) {σ:List O} (hσ:Cl σ) {ps:List Pt} {W:List (List Nat)} {fi:List Nat} {em:Option Nat} {E:List (Nat × Nat)} (L:Glu.Lvd ps W fi em E) (h60:(Glu.allLeaves ps).length ≤ 60) {X:List O} (hX:Cl (TS σ ps W fi em E++X))
include hC hσ L h60 hX
end
theorem Zeo {n:Nat} {a b:List V} (ha:V.los n a = true) (hb:V.los n b = true):V.los n (a++b) = true:=by
 induction a with
 | nil=>exact hb
 | cons x a ih=>
  rw [Z03,Bool.and_eq_true] at ha
  rw [List.cons_append,Z03,ha.1,ih ha.2]; rfl
theorem Z8z {F:Fn} {elt:Ex} {ifs:Exs} {ρ₀:List (Option V)} {σ:List O} {k:Nat} (f:V→Option V):∀ (xs:List V),(∀ x ∈ xs,∀ y,f x = some y→y.lo 0 = true) →
  (∀ x ∈ xs,∀ acc,V.los 0 acc = true→evTs F ifs ⟨ρ₀.set k (some x),σ++[.lst acc]⟩ = .ok (f x).isSome ⟨ρ₀.set k (some x),σ++[.lst acc]⟩∧∀ y,f x = some y→evE F elt ⟨ρ₀.set k (some x),σ++[.lst acc]⟩ = .ok y ⟨ρ₀.set k (some x),σ++[.lst acc]⟩) →
  ∀ (acc:List V) (v:Option V),V.los 0 acc = true→acc.length + xs.length ≤ sizeLine →
  ∃ v',Z3c k σ.length (evTs F ifs) (evE F elt) xs ⟨ρ₀.set k v,σ++[.lst acc]⟩ = .ok () ⟨ρ₀.set k v',σ++[.lst (acc++xs.filterMap f)]⟩
 | [],_,_,acc,v,_,_=>⟨v,by rw [Z9t,List.filterMap_nil,List.append_nil]⟩
 | x :: xs,hf,h,acc,v,ha,hl=>by
  refine El.x0_2 (h x (by simp) acc ha) fun h1 h2=>?_
  have hl':acc.length + (xs.length + 1) ≤ sizeLine:=hl
  have hset:setV ⟨ρ₀.set k v,σ++[.lst acc]⟩ k x = ⟨ρ₀.set k (some x),σ++[.lst acc]⟩:=by rw [qset,List.set_set]
  have ih:=fun acc=>Z8z f xs (fun y hy=>hf y (by simp [hy])) (fun z hz=>h z (by simp [hz])) acc (some x)
  rw [Z4y,hset,h1,R.bind_ok]
  cases hx:f x with
  | none=>
   refine El.x1_1 (ih acc ha (by omega)) fun v' e=>?_
   refine ⟨v',?_⟩
   rw [List.filterMap_cons_none hx]
   simp only [Option.isSome_none,Bool.false_eq_true,if_false]
   exact e
  | some y=>
   obtain ⟨v',e⟩:=ih (acc++[y]) (Zeo ha (by rw [Z03,hf x (by simp) y hx,Z0f]; rfl)) (by rw [List.length_append,List.length_singleton]; omega)
   refine ⟨v',?_⟩
   rw [List.filterMap_cons_some hx]
   simp only [Option.isSome_some,if_true]
   rw [h2 y hx,R.bind_ok]
   have hg:(σ++[O.lst acc])[σ.length]? = some (.lst acc):=by simp
   have hs:(σ++[O.lst acc]).set σ.length (.lst (acc++[y])) = σ++[.lst (acc++[y])]:=by simp
   simp only [hg,hs]
   rw [if_pos (by omega),e]
   simp
theorem Zep {F:Fn} {elt:Ex} {ifs:Exs} {ρ₀:List (Option V)} {σ:List O} {k:Nat} {it:It} {xs:List V} (f:V→Option V) (hf:∀ x ∈ xs,∀ y,f x = some y→y.lo 0 = true) (hit:evIt F it ⟨ρ₀,σ⟩ = .ok xs ⟨ρ₀,σ⟩) (hl:xs.length ≤ sizeLine)
  (h:∀ x ∈ xs,∀ acc,V.los 0 acc = true→evTs F ifs ⟨ρ₀.set k (some x),σ++[.lst acc]⟩ = .ok (f x).isSome ⟨ρ₀.set k (some x),σ++[.lst acc]⟩∧∀ y,f x = some y→evE F elt ⟨ρ₀.set k (some x),σ++[.lst acc]⟩ = .ok y ⟨ρ₀.set k (some x),σ++[.lst acc]⟩) :
  evE F (.comp elt k it ifs) ⟨ρ₀,σ⟩ = .ok (.lst (xs.filterMap f)) ⟨ρ₀.set k none,σ++[.dead]⟩:=by
 refine El.x1_1 (Z8z f xs hf h [] none Z0f (by simpa using hl)) fun v' h1=>?_
 rw [Z7Q,hit,R.bind_ok]
 dsimp only
 rw [h1,R.bind_ok]
 simp
theorem Z3l {F:Fn} {elt:Ex} {ρ₀:List (Option V)} {σ:List O} {k:Nat} {it:It} {xs:List V} (f:V→V) (hf:∀ x ∈ xs,(f x).lo 0 = true) (hit:evIt F it ⟨ρ₀,σ⟩ = .ok xs ⟨ρ₀,σ⟩) (hl:xs.length ≤ sizeLine)
  (h:∀ x ∈ xs,∀ acc,V.los 0 acc = true→evE F elt ⟨ρ₀.set k (some x),σ++[.lst acc]⟩ = .ok (f x) ⟨ρ₀.set k (some x),σ++[.lst acc]⟩) :
  evE F (.comp elt k it .nil) ⟨ρ₀,σ⟩ = .ok (.lst (xs.map f)) ⟨ρ₀.set k none,σ++[.dead]⟩:=by
 have:=Zep (F:=F) (elt:=elt) (ifs:=.nil) (ρ₀:=ρ₀) (σ:=σ) (k:=k) (it:=it) (xs:=xs) (fun x=>some (f x)) (fun x hx y e=>by cases e; exact hf x hx) hit hl fun x hx acc ha=>⟨by rw [Zbu]; rfl,fun y e=>by cases e; exact h x hx acc ha⟩
 have e:xs.filterMap (fun x=>some (f x)) = xs.map f:=by
  have:=congrFun (List.filterMap_eq_map (f:=f)) xs
  exact this
 rw [e] at this
 exact this
section
variable (F:Fn) (K C:Nat) (hC:clsF F = some (C:Int)) {σ:List O} (hσ:Cl σ) {ps:List Pt} {W:List (List Nat)} {fi:List Nat} {em:Option Nat} {E:List (Nat × Nat)} {X:List O} (hX:Cl (TS σ ps W fi em E++X))
include hC hσ hX
end
noncomputable def s1:Str:=Str.ofString " !\"#$&'()*+,-./0123456789:;<=>?@ABCDEFGHIJKLMNOPQRSTUVWXYZ[\\]^_`"
noncomputable def s2:Str:=Str.ofString "abcdefghijklmnopqrstuvwxyz{|}~\n\t"
noncomputable def signs:List Nat:=s1.cps.toList++s2.cps.toList
theorem Zeq (a b:Int) (h:(Z0s a || Z0s b) = true):Z3o .mul (.int a) (.int b) = some (.int (a * b)):=Z1V a b h
theorem Z6p:signs.length = 96:=by decide +kernel
theorem Zcs:signs.Nodup:=by decide +kernel
theorem Zct:signs.all (· < 127) = true:=by decide +kernel
noncomputable def Z0D (i:Int):Nat:=signs.getD (i.emod 96).toNat 0
theorem Z2S (i:Int):(i.emod 96).toNat < 96∧((i.emod 96).toNat:Int) = i.emod 96:=by
 have h1:=Int.emod_nonneg i (show (96:Int) ≠ 0 by decide)
 have h2:=Int.emod_lt_of_pos i (show (0:Int) < 96 by decide)
 change 0 ≤ i.emod 96 at h1
 change i.emod 96 < 96 at h2
 lia
theorem Z1N (i:Int):signs[(i.emod 96).toNat]? = some (Z0D i):=by
 have h:=(Z2S i).1
 unfold Z0D
 rw [List.getD_eq_getElem?_getD,List.getElem?_eq_getElem (by rw [Z6p]; exact h)]; rfl
theorem Z6q (i:Int):Z0D i < 127:=by
 have:=List.all_eq_true.mp Zct (Z0D i) (List.mem_of_getElem? (Z1N i))
 exact of_decide_eq_true this
theorem Z9d {i j:Int} (h:Z0D i = Z0D j):i.emod 96 = j.emod 96:=by
 have h1:=Z1N i
 have h2:=Z1N j
 rw [← h] at h2
 have h3:=(List.getElem?_inj (by rw [Z6p]; exact (Z2S i).1) Zcs).mp (h1.trans h2.symm)
 have h4:=(Z2S i).2
 have h5:=(Z2S j).2
 rw [← h4,← h5,h3]
theorem Z4g (F:Fn) (K:Nat) (i:Int) (σ:List O) (hσ:Cl σ):Z0a F K Z43 [.int i] σ = .ok (.str [Z0D i]) ⟨[],σ⟩:=by
 have hl1:s1.cps.toList.length = 64:=by decide +kernel
 have hl2:s2.cps.toList.length = 32:=by decide +kernel
 have hb:Z2Q = .cons (.asg 1 (.str s1)) (.cons (.asg 1 (.bin .add (.loc 1) (.str s2))) (.cons (.ret (.sub (.loc 1) (.bin .mod (.loc 0) (.int 96)))) .nil)):=rfl
 have hg:=Z1N i
 have hlt:=(Z2S i).1
 have hm:Int.fmod i 96 = (((i.emod 96).toNat:Nat):Int):=by rw [(Z2S i).2,Int.fmod_eq_emod_of_nonneg _ (by decide)]; rfl
 have hc':Z0n (s1.cps.toList++s2.cps.toList) (i.fmod 96) = some (Z0D i):=by rw [hm,Z0T _ (by lia)]; exact hg
 have hsz:s1.cps.toList.length + s2.cps.toList.length ≤ sizeLine:=by rw [hl1,hl2]; decide
 refine Z2c rfl ?_ (Z09 _) hσ
 show Ret (evSs F K Z2Q ⟨[some (.int i),none],σ⟩) _ _
 refine Ret.mk0 (ρ:=[some (.int i),some (.str (s1.cps.toList++s2.cps.toList))]) ?_
 rw [hb]
 exact atS fun t=>t rfl (Z6G _ _ hsz) rfl rfl (Zch hc') rfl
theorem Z1O {n:Nat} {x:V} (h:x ∈ upTo 0 n):∃ k:Nat,k < n∧x = .int k:=by
 unfold upTo at h
 refine El.x1_2 (List.mem_map.mp h) fun k hk q0z=>?_
 obtain rfl:=q0z
 have:=List.mem_range.mp hk
 exact ⟨k,by lia,by simp⟩
theorem Z5C (n:Nat) (f:V→V):(upTo 0 n).map f = (List.range n).map fun k:Nat=>f (.int (k:Int)):=by
 unfold upTo
 rw [List.map_map]
 have:((n:Int) - 0).toNat = n:=by lia
 rw [this]
 exact List.map_congr_left fun k _=>by simp
theorem Z0y (n:Nat):(upTo 0 n).length = n:=by simp [upTo]
theorem Z0q {n:Nat} (h:n < 2 ^ 31):Z0O (n:Int) = true:=by
 have h1:(-(2 ^ 62):Int) ≤ (n:Int):=by lia
 have h2:((n:Int):Int) < 2 ^ 62:=by lia
 unfold Z0O
 rw [decide_eq_true h1,decide_eq_true h2]; rfl
theorem Z2o:∀ (l:List Nat),Z1o (l.map fun c=>V.str [c]) = some (l.map fun c=>[c])
 | []=>rfl
 | c :: l=>(congrArg (Option.map ([c] :: ·)) (Z2o l):_)
theorem Z1F:∀ (l:List Nat),(l.map fun c=>[c]).flatten = l
 | []=>rfl
 | c :: l=>by rw [List.map_cons,List.flatten_cons,Z1F l]; rfl
theorem Z8A (n i:Nat):clipAt n (i:Int) = min i n:=by
 unfold clipAt
 rw [if_neg (Int.not_lt.mpr (Int.natCast_nonneg i))]
 rcases Nat.le_total i n with h | h
 ·rw [Int.min_eq_left (Int.ofNat_le.mpr h),Nat.min_eq_left h,Int.max_eq_right (Int.natCast_nonneg _),Int.toNat_natCast]
 ·rw [Int.min_eq_right (Int.ofNat_le.mpr h),Nat.min_eq_right h,Int.max_eq_right (Int.natCast_nonneg _),Int.toNat_natCast]
theorem Zer {α:Type} (xs:List α) (a b:Nat) (hab:a ≤ b) (hb:b ≤ xs.length):cutL xs (some (a:Int)) (some (b:Int)) = (xs.drop a).take (b - a):=by
 unfold cutL
 simp only [Option.elim_some,Z8A]
 rw [Nat.min_eq_left hb,Nat.min_eq_left (Nat.le_trans hab hb)]
theorem Z0Z {i:Int} (h1:-1000000 ≤ i) (h2:i ≤ 1000000):Z0s i = true:=by
 unfold Z0s
 rw [decide_eq_true (by lia),decide_eq_true (by lia)]; rfl
theorem Z0d (a:Int) (n:Nat) (hn:0 < n):∃ k:Nat,Int.fmod a n = k∧k < n:=by
 have h1:0 ≤ Int.fmod a n:=by rw [Int.fmod_eq_emod_of_nonneg _ (by lia)]; exact Int.emod_nonneg _ (by lia)
 have h2:Int.fmod a n < n:=by rw [Int.fmod_eq_emod_of_nonneg _ (by lia)]; exact Int.emod_lt_of_pos _ (by lia)
 refine El.x1_1 (Int.eq_ofNat_of_zero_le h1) fun k hk=>?_
 exact ⟨k,hk,by rw [hk] at h2; lia⟩
noncomputable def Z4w (cell g:Int) (z:Nat):List Nat:=(List.range (5 * z)).map fun j:Nat=>Z0D (cell + (j:Int) * g)
theorem Z6r (cell g:Int) (z:Nat):(Z4w cell g z).length = 5 * z:=by simp [Z4w]
theorem Zcu {cell g:Int} {z c:Nat} (h:c ∈ Z4w cell g z):c < 127:=by
 obtain ⟨j,_,rfl⟩:=List.mem_map.mp h; exact Z6q _
theorem gap1 {g g' q cell i j:Int} (e:g * g' = 96 * q + 1) (h:(cell + i * g) % 96 = (cell + j * g) % 96):∃ m,i - j = 96 * m:=by
 have h1:i * g - j * g = 96 * ((cell + i * g) / 96 - (cell + j * g) / 96):=by
  generalize i * g = a at h ⊢
  generalize j * g = b at h ⊢
  lia
 refine ⟨((cell + i * g) / 96 - (cell + j * g) / 96) * g' - (i - j) * q,?_⟩
 have h2:(i - j) * (g * g') = 96 * (((cell + i * g) / 96 - (cell + j * g) / 96) * g'):=by
  rw [← Int.mul_assoc,Int.sub_mul,h1,Int.mul_assoc]
 rw [e,Int.mul_add,Int.mul_one,Int.mul_left_comm] at h2
 rw [Int.mul_sub,← h2]
 rw [Int.add_comm]; exact (Int.add_sub_cancel ..).symm
theorem Zes {g cell:Int} (hg:g ∈ ([1,5,7,11,13,17,19,23]:List Int)) {i j:Nat} (hi:i < 96) (hj:j < 96) (h:(cell + (i:Int) * g) % 96 = (cell + (j:Int) * g) % 96):i = j:=by
 have key:∀ g' q:Int,g * g' = 96 * q + 1→i = j:=fun g' q e=>El.x1_1 (gap1 e h) fun m hm=>by lia
 simp only [List.mem_cons,List.not_mem_nil,or_false] at hg
 rcases hg with rfl | rfl | rfl | rfl | rfl | rfl | rfl | rfl
 ·exact key 1 0 (by decide)
 ·exact key 77 4 (by decide)
 ·exact key 55 4 (by decide)
 ·exact key 35 4 (by decide)
 ·exact key 37 5 (by decide)
 ·exact key 17 3 (by decide)
 ·exact key 91 18 (by decide)
 ·exact key 71 17 (by decide)
theorem Zcv {cell g:Int} {z:Nat} (hz:z ≤ 19) (hg:g ∈ ([1,5,7,11,13,17,19,23]:List Int)):(Z4w cell g z).Nodup:=by
 unfold Z4w
 rw [List.nodup_iff_pairwise_ne,List.pairwise_map]
 refine List.Pairwise.imp_of_mem (fun {i j} hi hj hne e=>hne ?_) List.nodup_range
 have h1:=List.mem_range.mp hi
 have h2:=List.mem_range.mp hj
 exact Zes hg (by lia) (by lia) (Z9d e)
noncomputable def word (L:List Nat) (z k:Nat):List Nat:=(L.drop (k * z)).take z
noncomputable def Z06 (L:List Nat) (z:Nat):List V:=(List.range 5).map fun k=>.str (word L z k)
theorem Z1n {L:List Nat} {z k:Nat} (hk:k < 5) (hL:L.length = 5 * z):(word L z k).length = z:=by
 unfold word
 rw [List.length_take,List.length_drop,hL]
 have:(k + 1) * z ≤ 5 * z:=Nat.mul_le_mul_right z (by lia)
 rw [Nat.add_mul] at this; lia
theorem Z3m {L:List Nat} {z k:Nat}:∀ c ∈ word L z k,c ∈ L:=fun c h=>List.mem_of_mem_drop (List.mem_of_mem_take h)
theorem Zb1 {L:List Nat} {z k:Nat} (h:L.Nodup):(word L z k).Nodup:=(h.sublist (List.drop_sublist _ _)).sublist (List.take_sublist _ _)
theorem Z8B {L:List Nat} {z k:Nat} {c:Nat} (h:c ∈ word L z k):∃ i,i < z∧L[k * z + i]? = some c:=by
 refine El.x1_1 (List.mem_iff_getElem?.mp h) fun i hi=>?_
 unfold word at hi
 rw [List.getElem?_take] at hi
 split at hi
 ·rename_i hz
  rw [List.getElem?_drop] at hi
  exact ⟨i,hz,hi⟩
 ·cases hi
theorem Zb2 {L:List Nat} {z j k c:Nat} (h:L.Nodup) (hjk:j < k) (hj:c ∈ word L z j) (hk:c ∈ word L z k):False:=by
 refine El.x1_2 (Z8B hj) fun i hi e1=>?_
 refine El.x1_2 (Z8B hk) fun i' hi' e2=>?_
 have:=(List.getElem?_inj (List.getElem?_eq_some_iff.mp e1).1 h).mp (e1.trans e2.symm)
 have h1:(j + 1) * z ≤ k * z:=Nat.mul_le_mul_right z hjk
 rw [Nat.add_mul] at h1
 lia
theorem Z6s (F:Fn) (K:Nat) (cell g:Int) (z:Nat) (h1:1 ≤ z) (h2:z ≤ 19) (σ:List O) (hσ:Cl σ) (hF:∀ i τ,Cl τ→F "_law_sign_by" [.int i] τ = .ok (.str [Z0D i]) ⟨[],τ⟩) :
  Ret (evSs F K (.cons (.asg 3 (.comp Z0W 4 (.range1 (.bin .mul (.int 5) (.loc 2))) .nil)) (.cons (.ret (.comp Z0X 5 (.range1 (.int 5)) .nil)) .nil)) ⟨[some (.int cell),some (.int g),some (.int z),none,none,none],σ⟩) (.lst (Z06 (Z4w cell g z) z)) σ:=by
 have hz5:(5:Int) * (z:Int) = ((5 * z:Nat):Int):=by lia
 have s5:Z0s 5 = true:=Z0Z (by lia) (by lia)
 have r5:Z0O 5 = true:=Z0q (n:=5) (by lia)
 have e1:=Z3l (F:=F) (elt:=Z0W) (k:=4) (ρ₀:=[some (.int cell),some (.int g),some (.int z),none,none,none]) (σ:=σ) (it:=.range1 (.bin .mul (.int 5) (.loc 2))) (xs:=upTo 0 (5 * z:Nat))
  (fun x=>match x with | .int k=>.str [Z0D (cell + k * g)] | _=>.none) (fun x hx=>by obtain ⟨k,_,rfl⟩:=Z1O hx; exact Z09 _)
  (by
   rw [Z3t,Z9s,Z4X,R.bind_ok,Z3r]
   simp only [List.getElem?_cons_zero,List.getElem?_cons_succ,R.bind_ok]
   rw [Zeq _ _ (by rw [s5]; rfl),R.lift_some,R.bind_ok,hz5]
   simp only [Z0q (show 5 * z < 2 ^ 31 by lia),if_true])
  (by rw [Z0y]; unfold sizeLine; lia)
  (fun x hx acc ha=>by
   refine El.x1_2 (Z1O hx) fun k hk q0z=>?_
   obtain rfl:=q0z
   have sk:Z0s (k:Int) = true:=Z2b (by lia)
   have hc:=hF (cell + (k:Int) * g) (σ++[.lst acc]) (hσ.snoc ha)
   have hm:=Z1V (k:Int) g (by rw [sk]; rfl)
   exact atE fun t=>t hm hc)
 have ey:(upTo 0 (5 * z:Nat)).map (fun x=>match x with | .int k=>V.str [Z0D (cell + k * g)] | _=>.none) = (Z4w cell g z).map fun c=>V.str [c]:=by
  rw [Z5C]
  unfold Z4w
  rw [List.map_map]
  rfl
 rw [ey] at e1
 have hL:=Z6r cell g z
 generalize Z4w cell g z = L at e1 hL
 have e2:=Z3l (F:=F) (elt:=Z0X) (k:=5) (ρ₀:=[some (.int cell),some (.int g),some (.int z),some (.lst (L.map fun c=>V.str [c])),none,none]) (σ:=σ++[.dead]) (it:=.range1 (.int 5)) (xs:=upTo 0 (5:Nat))
  (fun x=>match x with | .int k=>.str (word L z k.toNat) | _=>.none) (fun x hx=>by obtain ⟨k,_,rfl⟩:=Z1O hx; exact Z09 _)
  (by
   rw [Z3t,Z4X,R.bind_ok]
   simp only [r5,if_true]
   rfl)
  (by rw [Z0y]; unfold sizeLine; lia)
  (fun x hx acc ha=>by
   refine El.x1_2 (Z1O hx) fun k hk q1z=>?_
   obtain rfl:=q1z
   have sk:Z0s (k:Int) = true:=Z2b (by lia)
   have hkz:(k:Int) * (z:Int) = ((k * z:Nat):Int):=by simp
   have hkz2:((k * z:Nat):Int) + (z:Int) = ((k * z + z:Nat):Int):=by simp
   have hle:k * z + z ≤ 5 * z:=by
    have:(k + 1) * z ≤ 5 * z:=Nat.mul_le_mul_right z (by lia)
    rw [Nat.add_mul] at this; lia
   have hcut:cutL (L.map fun c=>V.str [c]) (some ((k * z:Nat):Int)) (some ((k * z + z:Nat):Int)) = (word L z k).map fun c=>V.str [c]:=by
    rw [Zer _ _ _ (by lia) (by rw [List.length_map,hL]; exact hle),Nat.add_sub_cancel_left]
    unfold word
    rw [List.map_take,List.map_drop]
   have hm:=Z1V (k:Int) z (by rw [sk]; rfl)
   rw [hkz] at hm
   have hsl:Z0A (σ++[O.dead]++[O.lst acc]) (.lst (L.map fun c=>V.str [c])) (.int ((k * z:Nat):Int)) (.int (((k * z:Nat):Int) + (z:Int))) = some (.lst ((word L z k).map fun c=>V.str [c])):=by
    rw [hkz2,Zdl,hcut]
   have hj:∀ st,Z1p .join (.str []) (.lst ((word L z k).map fun c=>V.str [c])) st = .ok (.str (word L z k)) st:=fun st=>by
    have:=Z6F (Z2o (word L z k)) (by rw [Z1F,Z1n hk hL]; unfold sizeLine; lia) st
    rwa [Z1F] at this
   exact atE fun t=>t rfl hm hm hsl (hj _))
 have ew:(upTo 0 (5:Nat)).map (fun x=>match x with | .int k=>V.str (word L z k.toNat) | _=>.none) = Z06 L z:=by
  rw [Z5C]; rfl
 rw [ew] at e2
 refine ⟨[some (.int cell),some (.int g),some (.int z),some (.lst (L.map fun c=>V.str [c])),none,none],[.dead,.dead],?_⟩
 rw [Z15,Z6E,e1,R.bind_ok,qset,R.bind_ok]
 simp only [List.set_cons_succ,List.set_cons_zero]
 rw [Z15,Zdk,e2,R.bind_ok,R.bind_ok]
 simp only [List.append_assoc,List.cons_append,List.nil_append]
 rfl
structure Lets (L:List Nat) (z:Nat):Prop where
 len:L.length = 5 * z
 z1:1 ≤ z
 z19:z ≤ 19
 nd:L.Nodup
 lt:∀ c ∈ L,c < 127
theorem Zcw (L:List Nat) (z n:Nat):(V.lst (Z06 L z)).lo n = true:=by
 rw [Z0w]; exact Z1W fun y hy=>by unfold Z06 at hy; obtain ⟨k,_,rfl⟩:=List.mem_map.mp hy; exact Z09 _
theorem Z7z (F:Fn) (K:Nat) (cell:Int):∃ L z,Lets L z∧∀ (σ:List O),Cl σ→(∀ i τ,Cl τ→F "_law_sign_by" [.int i] τ = .ok (.str [Z0D i]) ⟨[],τ⟩) →
  Z0a F K Z2l [.int cell] σ = .ok (.lst (Z06 L z)) ⟨[],σ⟩:=by
 refine El.x1_2 (Z6H (([1,5,7,11,13,17,19,23]:List Int).map V.int) (i:=Int.fdiv cell 96) (n:=8) (by lia) (by lia) (by decide)) fun x hx hm=>?_
 refine El.x1_2 (List.mem_map.mp hm) fun g hgm q2z=>?_
 obtain rfl:=q2z
 have hx':Z0n [V.int 1,V.int 5,V.int 7,V.int 11,V.int 13,V.int 17,V.int 19,V.int 23] ((cell.fdiv 96).fmod 8) = some (.int g):=hx
 have hs:∀ σ,evSs F K Z1b ⟨[some (.int cell),none,none,none,none,none],σ⟩ =
   evSs F K (.cons (.ifte (.cmp .eq (.bin .mod (.bin .fdiv (.loc 0) (.int 768)) (.int 4)) (.int 1)) (.cons (.asg 2 (.bin .add (.bin .add (.int 2) (.bin .mod (.bin .fdiv (.loc 0) (.int 3072)) (.int 8))) (.bin .mul (.int 10) (.bin .mod (.bin .fdiv (.loc 0) (.int 24576)) (.int 2))))) .nil) .nil)
    (.cons (.asg 3 (.comp Z0W 4 (.range1 (.bin .mul (.int 5) (.loc 2))) .nil)) (.cons (.ret (.comp Z0X 5 (.range1 (.int 5)) .nil)) .nil))) ⟨[some (.int cell),some (.int g),some (.int 1),none,none,none],σ⟩:=by
  intro σ
  have h8:(8:Nat) ≤ sizeLine:=by decide
  unfold Z1b
  rw [Z15,Z6E,Zdj,Zbs]
  simp only [Z3s,Zbt,Z4X,R.bind_ok,List.length_cons,List.length_nil,Nat.zero_add,Nat.reduceAdd,if_pos h8,Z9s,Z3r,List.getElem?_cons_zero,R.lift_some,Zdm _ _ (show (96:Int) ≠ 0 by decide),Z9v _ _ (show (8:Int) ≠ 0 by decide),Z1v,hx',qset,List.set_cons_succ,List.set_cons_zero]
  rw [Z15,Z6E,Z4X,R.bind_ok,qset,R.bind_ok]
  rfl
 have fin:∀ (z:Nat),1 ≤ z→z ≤ 19→(∀ σ,evSs F K Z1b ⟨[some (.int cell),none,none,none,none,none],σ⟩ =
   evSs F K (.cons (.asg 3 (.comp Z0W 4 (.range1 (.bin .mul (.int 5) (.loc 2))) .nil)) (.cons (.ret (.comp Z0X 5 (.range1 (.int 5)) .nil)) .nil)) ⟨[some (.int cell),some (.int g),some (.int z),none,none,none],σ⟩) →
   ∃ L z,Lets L z∧∀ (σ:List O),Cl σ→(∀ i τ,Cl τ→F "_law_sign_by" [.int i] τ = .ok (.str [Z0D i]) ⟨[],τ⟩)→Z0a F K Z2l [.int cell] σ = .ok (.lst (Z06 L z)) ⟨[],σ⟩:=by
  intro z h1 h2 he
  refine ⟨Z4w cell g z,z,⟨Z6r _ _ _,h1,h2,Zcv h2 hgm,fun c h=>Zcu h⟩,fun σ hσ hF=>Z2c rfl ?_ (Zcw _ _ _) hσ⟩
  show Ret (evSs F K Z1b ⟨[some (.int cell),none,none,none,none,none],σ⟩) _ _
  rw [he]; exact Z6s F K cell g z h1 h2 σ hσ hF
 by_cases hc:(cell.fdiv 768).fmod 4 = 1
 ·refine El.x1_2 (Z0d (cell.fdiv 3072) 8 (by lia)) fun a ha ha8=>?_
  refine El.x1_2 (Z0d (cell.fdiv 24576) 2 (by lia)) fun b hb hb2=>?_
  have ha':(cell.fdiv 3072).fmod 8 = a:=ha
  have hb':(cell.fdiv 24576).fmod 2 = b:=hb
  refine fin (2 + a + 10 * b) (by lia) (by lia) fun σ=>?_
  rw [hs,Z15]
  have hm:=Z1V 10 ((cell.fdiv 24576).fmod 2) (by rw [Z0Z (i:=10) (by lia) (by lia)]; rfl)
  have e:(2:Int) + (cell.fdiv 3072).fmod 8 + 10 * (cell.fdiv 24576).fmod 2 = ((2 + a + 10 * b:Nat):Int):=by rw [ha',hb']; lia
  have hst:evS F K (.ifte (.cmp .eq (.bin .mod (.bin .fdiv (.loc 0) (.int 768)) (.int 4)) (.int 1)) (.cons (.asg 2 (.bin .add (.bin .add (.int 2) (.bin .mod (.bin .fdiv (.loc 0) (.int 3072)) (.int 8))) (.bin .mul (.int 10) (.bin .mod (.bin .fdiv (.loc 0) (.int 24576)) (.int 2))))) .nil) .nil) ⟨[some (.int cell),some (.int g),some (.int 1),none,none,none],σ⟩ =
    .ok .next ⟨[some (.int cell),some (.int g),some (.int ((2 + a + 10 * b:Nat):Int)),none,none,none],σ⟩:=by
   exact at1 fun t=>t rfl rfl (beq_iff_eq.mpr hc) rfl rfl rfl rfl hm (congrArg V.int e)
  rw [hst,R.bind_ok]
 ·refine fin 1 (by lia) (by lia) fun σ=>?_
  rw [hs,Z15]
  have hst:evS F K (.ifte (.cmp .eq (.bin .mod (.bin .fdiv (.loc 0) (.int 768)) (.int 4)) (.int 1)) (.cons (.asg 2 (.bin .add (.bin .add (.int 2) (.bin .mod (.bin .fdiv (.loc 0) (.int 3072)) (.int 8))) (.bin .mul (.int 10) (.bin .mod (.bin .fdiv (.loc 0) (.int 24576)) (.int 2))))) .nil) .nil) ⟨[some (.int cell),some (.int g),some (.int 1),none,none,none],σ⟩ =
    .ok .next ⟨[some (.int cell),some (.int g),some (.int 1),none,none,none],σ⟩:=by
   have d1:((cell.fdiv 768).fmod 4 == 1) = false:=by rw [beq_eq_false_iff_ne]; exact hc
   exact at1 fun t=>t rfl rfl d1
  rw [hst,R.bind_ok]
  rfl
noncomputable def Z3n (W:Nat→List Nat) (i:Nat) (p:Nat × List Nat):Nat × List Nat:=(p.1 / 2,if p.1 % 2 = 1 then W i++p.2 else p.2)
noncomputable def Z2T (W:Nat→List Nat) (m:Nat):Nat→Nat × List Nat
 | 0=>(m,[])
 | i + 1=>Z3n W i (Z2T W m i)
noncomputable def Z12 (W:Nat→List Nat) (m:Nat):List Nat:=(Z2T W m 4).2
structure SomeOk (L:List Nat) (z m i:Nat) (p:Nat × List Nat):Prop where
 mm:p.1 = m / 2 ^ i
 nd:p.2.Nodup
 sub:∀ c ∈ p.2,∃ k,k < i∧c ∈ word L z k
 ne:p.2 = []→m % 2 ^ i = 0
 len:p.2.length ≤ 19 * i
theorem Z7A {L:List Nat} {z:Nat} (h:Lets L z) (m:Nat):∀ i,i ≤ 4→SomeOk L z m i (Z2T (word L z) m i)
 | 0,_=>⟨(Nat.div_one m).symm,List.nodup_nil,(fun _ h=>by cases h),fun _=>Nat.mod_one m,Nat.zero_le _⟩
 | i + 1,hi=>by
  have ih:=Z7A h m i (by lia)
  have hp:(2:Nat) ^ (i + 1) = 2 ^ i * 2:=Nat.pow_succ ..
  have hmod:m % 2 ^ (i + 1) = m % 2 ^ i + 2 ^ i * (m / 2 ^ i % 2):=by rw [hp,Nat.mod_mul]
  have hwl:=Z1n (k:=i) (by lia) h.len
  show SomeOk L z m (i + 1) (Z3n (word L z) i (Z2T (word L z) m i))
  generalize Z2T (word L z) m i = p at ih ⊢
  unfold Z3n
  refine ⟨?_,?_,?_,?_,?_⟩
  ·show p.1 / 2 = _
   rw [ih.mm,Nat.div_div_eq_div_mul,hp]
  ·show (if p.1 % 2 = 1 then word L z i++p.2 else p.2).Nodup
   split
   ·rw [List.nodup_append]
    refine ⟨Zb1 h.nd,ih.nd,fun a ha b hb e=>?_⟩
    subst e
    refine El.x1_2 (ih.sub a hb) fun k hk hc=>?_
    exact Zb2 h.nd hk hc ha
   ·exact ih.nd
  ·show ∀ c ∈ (if p.1 % 2 = 1 then word L z i++p.2 else p.2),_
   intro c hc
   split at hc
   ·rcases List.mem_append.mp hc with hc | hc
    ·exact ⟨i,by lia,hc⟩
    ·obtain ⟨k,hk,hc⟩:=ih.sub c hc; exact ⟨k,by lia,hc⟩
   ·obtain ⟨k,hk,hc⟩:=ih.sub c hc; exact ⟨k,by lia,hc⟩
  ·show (if p.1 % 2 = 1 then word L z i++p.2 else p.2) = []→_
   intro hc
   split at hc
   ·have:=congrArg List.length hc
    rw [List.length_append,hwl,List.length_nil] at this
    have:=h.z1
    lia
   ·rename_i hb
    have h0:=ih.ne hc
    rw [ih.mm] at hb
    rw [hmod,h0]
    have:m / 2 ^ i % 2 = 0:=by lia
    rw [this]
    rfl
  ·show (if p.1 % 2 = 1 then word L z i++p.2 else p.2).length ≤ _
   have:=ih.len
   have:=h.z19
   split
   ·rw [List.length_append,hwl]; lia
   ·lia
theorem Z7B {L:List Nat} {z:Nat} (h:Lets L z) {m:Nat} (h1:1 ≤ m) (h2:m ≤ 15):LeafOk (Z12 (word L z) m):=by
 have o:=Z7A h m 4 (Nat.le_refl _)
 refine ⟨fun e=>?_,o.nd,List.all_eq_true.mpr fun c hc=>?_,o.len⟩
 ·have:=o.ne e
  have h16:m % 2 ^ 4 = m:=Nat.mod_eq_of_lt (by lia)
  lia
 ·refine El.x1_2 (o.sub c hc) fun k _ hk=>?_
  exact decide_eq_true (h.lt c (Z3m c hk))
theorem Z5D (m n:Nat):Int.fdiv (m:Int) (n:Int) = ((m / n:Nat):Int):=by
 rw [Int.fdiv_eq_ediv_of_nonneg _ (by lia)]; rfl
theorem Z6t (m n:Nat):Int.fmod (m:Int) (n:Int) = ((m % n:Nat):Int):=by
 rw [Int.fmod_eq_emod_of_nonneg _ (by lia)]; rfl
theorem Z6u {L:List Nat} {z k:Nat} (hk:k < 5):(Z06 L z)[k]? = some (.str (word L z k)):=by
 unfold Z06
 rw [List.getElem?_map,List.getElem?_range hk]; rfl
theorem Z7C (F:Fn) (K:Nat) {L:List Nat} {z:Nat} (h:Lets L z) (m:Nat) (σ:List O) (hσ:Cl σ):Z0a F K Z44 [.lst (Z06 L z),.int m] σ = .ok (.str (Z12 (word L z) m)) ⟨[],σ⟩:=by
 obtain ⟨st,e,x3,rfl⟩:=Z7S (step:=fun x st=>evSs F K Z22 (setV st 3 x))
  (fun i st=>∃ x3,st = ⟨[some (.lst (Z06 L z)),some (.int ((Z2T (word L z) m i).1:Nat)),some (.str (Z2T (word L z) m i).2),x3],σ⟩)
  (upTo 0 (4:Nat)) 0 ⟨[some (.lst (Z06 L z)),some (.int m),some (.str []),none],σ⟩ (by
   intro i x st hx q0z
   refine El.x1_1 q0z fun x3 q1z=>?_
   obtain rfl:=q1z
   rw [Nat.zero_add] at *
   have hi:i < 4:=by have:=(List.getElem?_eq_some_iff.mp hx).1; rwa [Z0y] at this
   have hxi:x = .int (i:Int):=by
    unfold upTo at hx
    rw [List.getElem?_map] at hx
    refine El.x1_2 (Option.map_eq_some_iff.mp hx) fun k hk q2z=>?_
    obtain rfl:=q2z
    refine El.x1_1 (List.getElem?_eq_some_iff.mp hk) fun hk1 q3z=>?_
    obtain rfl:=q3z
    simp
   subst hxi
   have o:=Z7A h m i (by lia)
   have hwl:=Z1n (k:=i) (by lia) h.len
   refine ⟨⟨[some (.lst (Z06 L z)),some (.int ((Z2T (word L z) m (i + 1)).1:Nat)),some (.str (Z2T (word L z) m (i + 1)).2),some (.int i)],σ⟩,?_,_,rfl⟩
   rw [Z2T]
   generalize Z2T (word L z) m i = p at o
   have hd:=Z5D p.1 2
   have hm:=Z6t p.1 2
   have hd':Int.fdiv (p.1:Int) 2 = ((p.1 / 2:Nat):Int):=hd
   have hm':Int.fmod (p.1:Int) 2 = ((p.1 % 2:Nat):Int):=hm
   have hi5:Z0n (Z06 L z) (i:Int) = some (.str (word L z i)):=by rw [Z0T _ (by lia),Z6u (by lia)]
   have hz:=h.z19
   have hol:=o.len
   have ha:=Z6G (word L z i) p.2 (by unfold sizeLine; lia)
   unfold Z3n
   by_cases hb:p.1 % 2 = 1
   ·have hc:(Int.fmod (p.1:Int) 2 == 1) = true:=by rw [hm',hb]; rfl
    rw [if_pos hb]
    exact atS fun t=>t rfl hc ((Z1v _ _ _).trans hi5) ha rfl rfl (congrArg V.int hd')
   ·have hc:(Int.fmod (p.1:Int) 2 == 1) = false:=by rw [hm',beq_eq_false_iff_ne]; lia
    rw [if_neg hb]
    exact atS fun t=>t rfl hc rfl (congrArg V.int hd'))
  ⟨none,rfl⟩
 rw [Z0y] at e
 refine Z2c rfl ?_ (Z09 _) hσ
 show Ret (evSs F K Z4P ⟨[some (.lst (Z06 L z)),some (.int m),none,none],σ⟩) _ _
 refine Ret.mk0 (ρ:=[some (.lst (Z06 L z)),some (.int ((Z2T (word L z) m 4).1:Nat)),some (.str (Z12 (word L z) m)),x3]) ?_
 have e':forR (fun x st=>evSs F K Z22 (setV st 3 x)) (upTo 0 4) ⟨[some (.lst (Z06 L z)),some (.int m),some (.str []),none],σ⟩ = .ok .next ⟨[some (.lst (Z06 L z)),some (.int ((Z2T (word L z) m 4).1:Nat)),some (.str (Z12 (word L z) m)),x3],σ⟩:=e
 have r4:Z0O 4 = true:=Z0q (n:=4) (by lia)
 exact atS fun t=>t rfl rfl r4 e' rfl
theorem Zb3 {S:Type} {step:V→St→R Fl} (render:S→List O→St) (P:Nat→S→Prop):∀ (xs:List V) (k:Nat) (s:S),(∀ i x s,xs[i]? = some x→P (k + i) s→∃ s',P (k + i + 1) s'∧∀ σ,Cl σ→step x (render s σ) = .ok .next (render s' σ))→P k s →
  ∃ s',P (k + xs.length) s'∧∀ σ,Cl σ→forR step xs (render s σ) = .ok .next (render s' σ)
 | [],k,s,_,h=>⟨s,h,fun σ _=>by rw [Z0r]⟩
 | x :: xs,k,s,hs,h=>by
  refine El.x1_2 (hs 0 x s rfl h) fun s₁ h1 e1=>?_
  have q6y:=Zb3 render P xs (k + 1) s₁ (fun i y s' hy hP=>by
   have:=hs (i + 1) y s' (by simpa using hy) (by rw [show k + (i + 1) = k + 1 + i by lia]; exact hP)
   rw [show k + (i + 1) + 1 = k + 1 + i + 1 by lia] at this
   exact this) h1
  refine El.x1_2 q6y fun s₂ h2 e2=>?_
  refine ⟨s₂,by rw [List.length_cons,show k + (xs.length + 1) = k + 1 + xs.length by lia]; exact h2,fun σ hσ=>?_⟩
  rw [Z0l,e1 σ hσ,R.bind_ok]
  exact e2 σ hσ
noncomputable def gl (l:List (Option V)) (k:Nat):Option V:=(l[k]?).getD none
theorem Z5E {A B C:Type} {step:V→St→R Fl} (render:A→B→C→(Nat→Option V)→List O→St) (P:Nat→A→B→Prop) (xs:List V) (a:A) (b:B) (c:C) (g:Nat→Option V)
  (hs:∀ i x a b c g,xs[i]? = some x→P i a b→∃ a' b' c' g',P (i + 1) a' b'∧∀ σ,Cl σ→step x (render a b c g σ) = .ok .next (render a' b' c' g' σ)) (h:P 0 a b) :
  ∃ a' b' c' g',P xs.length a' b'∧∀ σ,Cl σ→forR step xs (render a b c g σ) = .ok .next (render a' b' c' g' σ):=by
 refine El.x1_2 (Zb3 (S:=A × B × C × (Nat→Option V)) (step:=step) (fun s σ=>render s.1 s.2.1 s.2.2.1 s.2.2.2 σ) (fun i s=>P i s.1 s.2.1) xs 0 (a,b,c,g) (fun i x s hx hp=>?_) h) fun s h1 h2=>?_
 ·rw [Nat.zero_add] at hp ⊢
  exact El.x4_2 (hs i x _ _ _ s.2.2.2 hx hp) fun a b c g h e=>⟨(a,b,c,g),h,e⟩
 ·rw [Nat.zero_add] at h1
  exact El.y4_2 _ _ _ _ h1 h2
theorem Z1P {n i:Nat} {x:V} (h:(upTo 0 n)[i]? = some x):x = .int (i:Int)∧i < n:=by
 have hi:i < n:=by have:=(List.getElem?_eq_some_iff.mp h).1; rwa [Z0y] at this
 unfold upTo at h
 rw [List.getElem?_map] at h
 refine El.x1_2 (Option.map_eq_some_iff.mp h) fun k hk q0z=>?_
 obtain rfl:=q0z
 refine El.x1_1 (List.getElem?_eq_some_iff.mp hk) fun hk1 q1z=>?_
 obtain rfl:=q1z
 exact ⟨by simp,hi⟩
structure Grps (gs:List (List Nat)):Prop where
 ne:gs ≠ []
 g:∀ g ∈ gs,g ≠ []∧g.length ≤ 100
 few:gs.length ≤ 100
theorem draw {α:Type} {gs:List α} (h0:gs ≠ []) (hl:gs.length ≤ 100) (i:Int):∃ g,Z0n gs (Int.fmod i (gs.length:Nat)) = some g∧g ∈ gs:=Z6H gs (n:=gs.length) (by cases gs with | nil=>exact absurd rfl h0 | cons a b=>simp) (by lia) (Nat.le_refl _)
noncomputable def sV (gs:List (List Nat)):V:=.lst (gs.map .str)
theorem Z7D (F:Fn) (K:Nat) (cell:Int) (n:Nat) (hn:n ≤ 100) (gs:List (List Nat)) (h:Grps gs) :
  ∃ t:List Nat,t.length = n∧(∀ c ∈ t,∃ g ∈ gs,c ∈ g)∧∀ σ,Cl σ→Z0a F K Z45 [.int cell,.int (n:Int),sV gs] σ = .ok (.str t) ⟨[],σ⟩:=by
 have sm:∀ i:Int,(Z0s i || Z0s 48271) = true:=fun i=>by rw [Z0Z (i:=48271) (by lia) (by lia),Bool.or_true]
 refine El.x4_2 (Z5E (step:=fun x st=>evSs F K Z23 (setV st 5 x))
  (fun (t:List Nat) (num:Int) (_:Unit) u σ=>(S7 (some (.int cell)) (some (.int (n:Int))) (some (sV gs)) (some (.str t)) (some (.int num)) (u 0) (u 1) σ)) (fun i t _=>t.length = i∧∀ c ∈ t,∃ g ∈ gs,c ∈ g) (upTo 0 n) [] (Int.fmod cell 2147483647) () (fun _=>none)
  (by
   intro i x t num _ u hx q3z
   refine El.x0_2 q3z fun h1 h2=>?_
   refine El.x0_2 (Z1P hx) fun q4z hi=>?_
   obtain rfl:=q4z
   have hne:=h.ne
   have hgl:gs.length ≠ 0:=fun e=>hne (List.length_eq_zero_iff.mp e)
   refine El.x1_2 (draw (gs:=gs) h.ne h.few (Int.fdiv (Int.fmod (num * 48271 + 11) 2147483647) 7)) fun g hg hgm=>?_
   have hg':Z0n (gs.map V.str) (Int.fmod (Int.fdiv (Int.fmod (num * 48271 + 11) 2147483647) 7) (gs.length:Nat)) = some (.str g):=by
    refine El.x1_2 (Z0d (Int.fdiv (Int.fmod (num * 48271 + 11) 2147483647) 7) gs.length (by lia)) fun k hk hk2=>?_
    have:=h.few
    rw [hk,Z0T _ (by lia)] at hg ⊢
    rw [List.getElem?_map,hg]; rfl
   refine El.x0_2 (h.g g hgm) fun g0 g1=>?_
   have hgl2:g.length ≠ 0:=fun e=>g0 (List.length_eq_zero_iff.mp e)
   refine El.x1_2 (draw (gs:=g) g0 g1 (Int.fdiv (Int.fmod (num * 48271 + 11) 2147483647) 700)) fun c hc hcm=>?_
   refine El.y4_2 (t++[c]) (Int.fmod (num * 48271 + 11) 2147483647) (()) (gl [some (.int (i:Int)),some (.str g)]) ⟨by simp [h1],fun d hd=>?_⟩ (fun σ hσ=>?_)
   ·rcases List.mem_append.mp hd with hd | hd
    ·exact h2 d hd
    ·rw [List.mem_singleton.mp hd]; exact ⟨g,hgm,hcm⟩
   ·have hm:=Z1V num 48271 (sm num)
    have ha:=Z6G t [c] (by rw [h1,List.length_singleton]; unfold sizeLine; lia)
    have z1:((gs.length:Nat):Int) ≠ 0:=by lia
    have z2:((g.length:Nat):Int) ≠ 0:=by lia
    have m1:=Z9v (Int.fdiv (Int.fmod (num * 48271 + 11) 2147483647) 7) ((gs.length:Nat):Int) z1
    have m2:=Z9v (Int.fdiv (Int.fmod (num * 48271 + 11) 2147483647) 700) ((g.length:Nat):Int) z2
    show evSs F K Z23 _ = .ok .next (S7 (some (.int cell)) (some (.int (n:Int))) (some (sV gs)) (some (.str (t++[c]))) (some (.int (Int.fmod (num * 48271 + 11) 2147483647))) (some (.int (i:Int))) (some (.str g)) σ)
    have hlen:Z4p σ .len (sV gs) = some (.int ((gs.length:Nat):Int)):=congrArg (fun n:Nat=>some (V.int (n:Int))) (List.length_map ..)
    exact atS fun t=>t hm rfl rfl rfl hlen (nz z1) hg' rfl rfl rfl (nz z2) (Zch hc) ha rfl)
  ⟨rfl,fun _ h=>by cases h⟩) fun t num _ u q5z e=>?_
 refine El.x0_2 q5z fun h1 h2=>?_
 rw [Z0y] at h1
 refine ⟨t,h1,h2,fun σ hσ=>?_⟩
 refine Z2c rfl ?_ (Z09 _) hσ
 show Ret (evSs F K Z4Q (S7 (some (.int cell)) (some (.int (n:Int))) (some (sV gs)) none none none none σ)) _ _
 refine Ret.mk0 (ρ:=[some (.int cell),some (.int (n:Int)),some (sV gs),some (.str t),some (.int num),u 0,u 1]) ?_
 have e:=e σ hσ
 exact atS fun t=>t rfl rfl rfl rfl (Z0q (show n < 2 ^ 31 by lia)) e rfl
noncomputable def ZfJ (F:Fn) (p:Pt):Prop:=∃ k:Nat,∀ σ,Cl σ→F "_law_over" [enc p] σ = .ok (.int (k:Int)) ⟨[],σ⟩
structure GOk (R d:Nat) (held:List Pt) (room:Nat):Prop where
 fine:∀ p ∈ held,Fine p∧ht p ≤ d
 few:held.length ≤ 8
 sum:(Glu.allLeaves held).length + room ≤ R
theorem Z0i (a b:List Pt):(Glu.allLeaves (a++b)).length = (Glu.allLeaves a).length + (Glu.allLeaves b).length:=by unfold Glu.allLeaves; rw [List.flatMap_append,List.length_append]
theorem Z0b (p:Pt):(Glu.allLeaves [p]).length = p.leaves.length:=by unfold Glu.allLeaves; simp
mutual
theorem Z8C:∀ p:Pt,(enc p).lo 0 = true
 | .one s=>by rw [enc,Z0J,Z03,Z03,Z09,Z09,Z0f]; rfl
 | .row ps=>by rw [enc,Z0J,Z03,Z03,Z09,Z0w,Z7E ps,Z0f]; rfl
 | .or ps=>by rw [enc,Z0J,Z03,Z03,Z09,Z0w,Z7E ps,Z0f]; rfl
 | .many p=>by rw [enc,Z0J,Z03,Z03,Z09,Z8C p,Z0f]; rfl
 | .maybe p=>by rw [enc,Z0J,Z03,Z03,Z09,Z8C p,Z0f]; rfl
theorem Z7E:∀ ps:Pts,V.los 0 (encs ps) = true
 | .nil=>by rw [encs,Z0f]
 | .cons p ps=>by rw [encs,Z03,Z8C p,Z7E ps]; rfl
end
theorem Z26 (ps:List Pt):V.los 0 (ps.map enc) = true:=Z1W fun x hx=>by obtain ⟨p,_,rfl⟩:=List.mem_map.mp hx; exact Z8C p
noncomputable def ofL:List Pt→Pts
 | []=>.nil
 | p :: ps=>.cons p (ofL ps)
theorem Z5F:∀ ps:List Pt,encs (ofL ps) = ps.map enc
 | []=>rfl
 | p :: ps=>by rw [ofL,encs,Z5F ps]; rfl
theorem Z5G:∀ ps:List Pt,pLen (ofL ps) = ps.length
 | []=>rfl
 | p :: ps=>by rw [ofL,pLen,Z5G ps]; rfl
theorem Z2U:∀ ps:List Pt,(ofL ps).leaves = Glu.allLeaves ps
 | []=>rfl
 | p :: ps=>by rw [ofL,Glu.ls1,Z2U ps]; rfl
theorem Z4h:∀ {ps:List Pt},(∀ p ∈ ps,Fine p)→Z4v (ofL ps)
 | [],_=>by rw [ofL,Z4v]; trivial
 | p :: ps,h=>by rw [ofL,Z4v]; exact ⟨h p (by simp),Z4h fun q hq=>h q (by simp [hq])⟩
theorem Z7F {d:Nat}:∀ {ps:List Pt},(∀ p ∈ ps,ht p ≤ d)→hts (ofL ps) ≤ d
 | [],_=>by rw [ofL,hts]; exact Nat.zero_le _
 | p :: ps,h=>by
  rw [ofL,hts]
  have h1:=h p (by simp)
  have h2:=Z7F (ps:=ps) fun q hq=>h q (by simp [hq])
  lia
theorem Z0N {d:Nat} {ps:List Pt} (h:∀ p ∈ ps,Fine p∧ht p ≤ d) (hl:ps.length ≤ 64):Fine (.row (ofL ps))∧ht (.row (ofL ps)) ≤ d + 1:=by
 rw [Fine,ht,Z5G]
 exact ⟨⟨hl,Z4h fun p hp=>(h p hp).1⟩,Nat.succ_le_succ (Z7F fun p hp=>(h p hp).2)⟩
theorem Z4i {d:Nat} {ps:List Pt} (h:∀ p ∈ ps,Fine p∧ht p ≤ d) (hl:ps.length ≤ 64) (h0:0 < ps.length):Fine (.or (ofL ps))∧ht (.or (ofL ps)) ≤ d + 1:=by
 rw [Fine,ht,Z5G]
 exact ⟨⟨hl,h0,Z4h fun p hp=>(h p hp).1⟩,Nat.succ_le_succ (Z7F fun p hp=>(h p hp).2)⟩
theorem Z4j (ps:List Pt):enc (.row (ofL ps)) = .tup [.str (Str.ofString "row").cps.toList,.lst (ps.map enc)]:=by rw [enc,Z5F]
theorem Z8D (ps:List Pt):enc (.or (ofL ps)) = .tup [.str (Str.ofString "or").cps.toList,.lst (ps.map enc)]:=by rw [enc,Z5F]
theorem Z5H (s:List Nat):enc (.one s) = .tup [.str (Str.ofString "one").cps.toList,.str s]:=rfl
theorem Z5I (p:Pt):enc (.many p) = .tup [.str (Str.ofString "many").cps.toList,enc p]:=rfl
theorem Z4k (p:Pt):enc (.maybe p) = .tup [.str (Str.ofString "maybe").cps.toList,enc p]:=rfl
theorem Z1X (s:List Nat):(Glu.Pat.one s:Pt).leaves = [s]:=rfl
theorem Z2p (ps:List Pt):(Glu.Pat.row (ofL ps):Pt).leaves = Glu.allLeaves ps:=Z2U ps
theorem Zb4 (ps:List Pt):(Glu.Pat.or (ofL ps):Pt).leaves = Glu.allLeaves ps:=Z2U ps
theorem Z4l (p:Pt):(Glu.Pat.many p:Pt).leaves = p.leaves:=rfl
theorem Z2q (p:Pt):(Glu.Pat.maybe p:Pt).leaves = p.leaves:=rfl
theorem Zb5 {σ:List O} {n:Nat} {xs:List V} (h:σ[n]? = some (.lst xs)):V.truthy σ (.ref n) = some (!xs.isEmpty):=by
 show (lstO σ[n]?).bind (fun xs=>some (!xs.isEmpty)) = _
 rw [h]; rfl
theorem Z4m {α:Type} {l:List α} (h:l ≠ []):∃ a x,l = a++[x]:=⟨l.dropLast,l.getLast h,(List.dropLast_concat_getLast h).symm⟩
theorem Zfd {τ:List O} {n:Nat} {o o':O} (h:τ[n]? = some o):(τ.set n o')[n]? = some o':=List.getElem?_set_self (List.getElem?_eq_some_iff.mp h).1
theorem Zd6 {τ:List O} {n:Nat} {xs:List V} (h:τ[n]? = some (.lst xs)) (hl:xs.length < 1000) (ρ:List (Option V)) (v:V):Z1p .append (.ref n) v ⟨ρ,τ⟩ = .ok .none ⟨ρ,τ.set n (.lst (xs++[v]))⟩:=Z1t ρ τ n xs v h (by unfold sizeLine; lia)
theorem Z5J (a:List Pt) (x:Pt):(a++[x]).map enc = a.map enc++[enc x]:=by rw [List.map_append]; rfl
theorem Z7G (x y:List V) (h:x.length + y.length ≤ 1000):Z2Y (.lst x) (.lst y) = some (.lst (x++y)):=if_pos (by unfold sizeLine; lia)
section
variable {τ:List O} {n:Nat} (hn:n < τ.length) (a:List Pt) (ρ:List (Option V))
include hn
theorem gtS (o:O):(τ.set n o)[n]? = some o:=List.getElem?_set_self hn
theorem recS:Z5Q (τ.set n (.lst (a.map enc))) .append (.ref n) = true:=Z0I _ _ _ (gtS hn _)
theorem lenS:Z4p (τ.set n (.lst (a.map enc))) .len (.ref n) = some (.int (a.length:Int)):=(ZcJ _ _ _ (gtS hn _)).trans (by rw [List.length_map])
theorem truS:V.truthy (τ.set n (.lst (a.map enc))) (.ref n) = some (!a.isEmpty):=(Zb5 (gtS hn _)).trans (by cases a <;> rfl)
theorem popS (x:Pt):popR (.ref n) ⟨ρ,τ.set n (.lst ((a++[x]).map enc))⟩ = .ok (enc x) ⟨ρ,τ.set n (.lst (a.map enc))⟩:=by
 have:=Zfo (ρ:=ρ) (σ:=τ.set n (.lst ((a++[x]).map enc))) (n:=n) (xs:=a.map enc) (x:=enc x) (by rw [gtS hn,Z5J])
 rw [List.set_set] at this
 exact this
theorem appS (hl:a.length ≤ 100) (q:Pt):Z1p .append (.ref n) (enc q) ⟨ρ,τ.set n (.lst (a.map enc))⟩ = .ok .none ⟨ρ,τ.set n (.lst ((a++[q]).map enc))⟩:=by
 have:=Zd6 (gtS hn (.lst (a.map enc))) (by rw [List.length_map]; lia) ρ (enc q)
 rw [List.set_set,← Z5J] at this
 exact this
end
noncomputable def gS (n:Nat) (cell m:Int) (w room:Nat) (lv:V) (x6 x7:Option V) (τ:List O):St:=(S8 (some (.ref n)) (some (.int cell)) (some lv) (some (.int (room:Int))) (some (.int (w:Int))) (some (.int m)) x6 x7 τ)
noncomputable def cB:Ex:=.band (.cmp .eq (.loc 4) (.int 0)) (.cmp .lt (.bi .len (.loc 0)) (.int 8))
noncomputable def cC:Ex:=(.band (.cmp .eq (.loc 4) (.int 1)) (.loc 0))
noncomputable def cD:Ex:=.band (.cmp .eq (.loc 4) (.int 2)) (.loc 0)
noncomputable def cE:Ex:=.band (.cmp .gt (.loc 4) (.int 2)) (.cmp .gt (.bi .len (.loc 0)) (.int 1))
noncomputable def cA:Ex:=.band (.cmp .gt (.loc 4) (.int 5)) (.band (.cmp .gt (.loc 3) (.int 0)) (.cmp .lt (.bi .len (.loc 0)) (.int 8)))
noncomputable def tB:Sms:=.cons (.expr (.me .append (.loc 0) (.tup (.cons (.str "row") (.cons (.list .nil) .nil))))) .nil
noncomputable def tC:Sms:=.cons (.expr (.me .append (.loc 0) (.tup (.cons (.str "many") (.cons (.pop (.loc 0)) .nil))))) .nil
noncomputable def tD:Sms:=.cons (.expr (.me .append (.loc 0) (.tup (.cons (.str "maybe") (.cons (.pop (.loc 0)) .nil))))) .nil
noncomputable def cF:Ex:=.band (.cmp .eq (.bin .mod (.loc 5) (.int 3)) (.int 1)) (.loc 0)
noncomputable def tF:Sms:=.cons (.asg 7 (.bin .add (.list (.cons (.pop (.loc 0)) .nil)) (.loc 7))) .nil
noncomputable def tE:Sms:=.cons (.asg 6 (.pop (.loc 0))) (.cons (.asg 7 (.list (.cons (.pop (.loc 0)) (.cons (.loc 6) .nil)))) (.cons (.ifte cF tF .nil)
 (.cons (.expr (.me .append (.loc 0) (.tup (.cons (.sub (.list (.cons (.str "row") (.cons (.str "or") .nil))) (.bin .mod (.bin .fdiv (.loc 4) (.int 2)) (.int 2))) (.cons (.loc 7) .nil))))) .nil)))
noncomputable def sBE:Sm:=.ifte cB tB (.cons (.ifte cC tC (.cons (.ifte cD tD (.cons (.ifte cE tE .nil) .nil)) .nil)) .nil)
section
variable (F:Fn) (K:Nat) {Rm d:Nat} {held:List Pt} {room:Nat} (g:GOk Rm d held room) (cell m:Int) (w:Nat) (lv:V)
section
variable {τ:List O} {n:Nat} (hn:n < τ.length)
include hn
theorem evA:Z0h (evE F cA (gS n cell m w room lv none none (τ.set n (.lst (held.map enc))))) = .ok (decide ((w:Int) > 5) && (decide ((room:Int) > 0) && decide ((held.length:Int) < 8))) (gS n cell m w room lv none none (τ.set n (.lst (held.map enc)))):=by
 cases h1:decide ((w:Int) > 5) with
 | false=>exact atQ fun t=>t h1
 | true=>
  cases h2:decide ((room:Int) > 0) with
  | false=>exact atQ fun t=>t h1 h2
  | true=>exact atQ fun t=>t h1 h2 (lenS hn held)
theorem evB:Z0h (evE F cB (gS n cell m w room lv none none (τ.set n (.lst (held.map enc))))) = .ok ((w:Int) == 0 && decide ((held.length:Int) < 8)) (gS n cell m w room lv none none (τ.set n (.lst (held.map enc)))):=by
 cases h1:((w:Int) == 0) with
 | false=>exact atQ fun t=>t h1
 | true=>exact atQ fun t=>t h1 (lenS hn held)
theorem evD:Z0h (evE F cD (gS n cell m w room lv none none (τ.set n (.lst (held.map enc))))) = .ok ((w:Int) == 2 && !held.isEmpty) (gS n cell m w room lv none none (τ.set n (.lst (held.map enc)))):=by
 cases h1:((w:Int) == 2) with
 | false=>exact atQ fun t=>t h1
 | true=>exact atQ fun t=>t h1 (truS hn held)
theorem evEE:Z0h (evE F cE (gS n cell m w room lv none none (τ.set n (.lst (held.map enc))))) = .ok (decide ((w:Int) > 2) && decide ((held.length:Int) > 1)) (gS n cell m w room lv none none (τ.set n (.lst (held.map enc)))):=by
 cases h1:decide ((w:Int) > 2) with
 | false=>exact atQ fun t=>t h1
 | true=>exact atQ fun t=>t h1 (lenS hn held)
end
include g
theorem evC:∃ b:Bool,(b = true→held ≠ [])∧∀ (τ:List O) (n:Nat),n < τ.length→Cl (τ.set n (.lst (held.map enc)))→Z0h (evE F cC (gS n cell m w room lv none none (τ.set n (.lst (held.map enc))))) = .ok b (gS n cell m w room lv none none (τ.set n (.lst (held.map enc)))):=by
 cases h1:((w:Int) == 1) with
 | false=>exact ⟨false,fun h=>(by cases h),fun τ n _ _=>atQ fun t=>t h1⟩
 | true=>exact ⟨!held.isEmpty,fun h e=>(by subst e; cases h),fun τ n hn _=>atQ fun t=>t h1 (truS hn held)⟩
end
theorem Zcx {τ:List O} {n:Nat} {o:O} (h:τ[n]? = some o):τ.set n o = τ:=by
 refine List.ext_getElem? fun i=>?_
 by_cases hi:n = i
 ·subst hi; rw [Zfd h,h]
 ·rw [List.getElem?_set_ne hi]
theorem GOk.mono {Rm d:Nat} {held:List Pt} {room:Nat} (g:GOk Rm d held room):GOk Rm (d + 1) held room:=⟨fun p hp=>⟨(g.fine p hp).1,Nat.le_succ_of_le (g.fine p hp).2⟩,g.few,g.sum⟩
theorem GOk.snoc {Rm d:Nat} {a:List Pt} {x:Pt} {room:Nat} (h1:∀ p ∈ a,Fine p∧ht p ≤ d) (h2:Fine x∧ht x ≤ d + 1) (h3:a.length < 8) (h4:(Glu.allLeaves a).length + x.leaves.length + room ≤ Rm):GOk Rm (d + 1) (a++[x]) room :=
 ⟨fun p hp=>by
  rcases List.mem_append.mp hp with hp | hp
  ·exact ⟨(h1 p hp).1,Nat.le_succ_of_le (h1 p hp).2⟩
  ·rw [List.mem_singleton.mp hp]; exact h2,by rw [List.length_append,List.length_singleton]; lia,by rw [Z0i,Z0b]; exact h4⟩
theorem Zet (F:Fn) (K:Nat) (cell m:Int) (w room:Nat) (lv:V):∃ (b3 b2:Bool),∀ {a:List Pt} {x y:Pt},a.length ≤ 8→∃ (a' ps:List Pt),(a'++ps = a++[x]++[y]∧2 ≤ ps.length∧ps.length ≤ 3)∧∃ x6 x7,∀ (τ:List O) (n:Nat),n < τ.length →
  evSs F K tE (gS n cell m w room lv none none (τ.set n (.lst ((a++[x]++[y]).map enc)))) = .ok .next (gS n cell m w room lv x6 x7 (τ.set n (.lst ((a'++[if b2 then (Glu.Pat.or (ofL ps):Pt) else Glu.Pat.row (ofL ps)]).map enc)))):=by
 refine El.x1_2 (Z0d (Int.fdiv (w:Int) 2) 2 (by lia)) fun k hk hk2=>?_
 have hk':Int.fmod (Int.fdiv (w:Int) 2) 2 = (k:Int):=hk
 have hkd:∃ kd b2,(∀ σ,Z28 σ (.lst [V.str (Str.ofString "row").cps.toList,V.str (Str.ofString "or").cps.toList]) (.int (Int.fmod (Int.fdiv (w:Int) 2) 2)) = some (.str kd))∧∀ ps:List Pt,V.tup [.str kd,.lst (ps.map enc)] = enc (if b2 = true then (Glu.Pat.or (ofL ps):Pt) else Glu.Pat.row (ofL ps)):=by
  rw [hk']
  have:k = 0 ∨ k = 1:=by lia
  rcases this with rfl | rfl
  ·exact ⟨_,false,fun _=>rfl,fun ps=>(Z4j ps).symm⟩
  ·exact ⟨_,true,fun _=>rfl,fun ps=>(Z8D ps).symm⟩
 refine El.x2_2 hkd fun kd b2 hkd hv=>?_
 have hap:∀ {τ:List O} {n:Nat} {a ps:List Pt},n < τ.length→a.length ≤ 8→∀ ρ,Z1p .append (.ref n) (.tup [.str kd,.lst (ps.map enc)]) ⟨ρ,τ.set n (.lst (a.map enc))⟩ = .ok .none ⟨ρ,τ.set n (.lst ((a++[if b2 = true then (Glu.Pat.or (ofL ps):Pt) else Glu.Pat.row (ofL ps)]).map enc))⟩:=fun hn hl ρ=>by rw [hv]; exact appS hn _ ρ (by lia) _
 refine ⟨true,b2,fun {a x y} hl=>?_⟩
 cases h3:(Int.fmod m 3 == 1) with
 | false=>exact ⟨a,[x,y],⟨by simp,by simp,by simp⟩,some (enc y),some (.lst ([x,y].map enc)),fun τ n hn=>atC fun t=>t (popS hn _ _ y) rfl (popS hn _ _ x) rfl (atQ fun t=>t rfl h3) (recS hn _) rfl rfl (hkd _) (hap (ps:=[x,y]) hn hl _)⟩
 | true=>
  by_cases h0:a = []
  ·subst h0
   exact ⟨[],[x,y],⟨by simp,by simp,by simp⟩,some (enc y),some (.lst ([x,y].map enc)),fun τ n hn=>atC fun t=>t (popS hn _ _ y) rfl (popS hn [] _ x) rfl (atQ fun t=>t rfl h3 (truS hn [])) (recS hn []) rfl rfl (hkd _) (hap (ps:=[x,y]) hn hl _)⟩
  ·refine El.x2_1 (Z4m h0) fun b z e=>?_
   subst e
   rw [List.length_append] at hl
   have e0:(!(b++[z]).isEmpty) = true:=by cases b <;> rfl
   exact ⟨b,[z,x,y],⟨by simp,by simp,by simp⟩,some (enc y),some (.lst ([z,x,y].map enc)),fun τ n hn=>atC fun t=>t (popS hn _ _ y) rfl (popS hn _ _ x) rfl (okb (atQ fun t=>t rfl h3 (truS hn _)) e0) (popS hn _ _ z) (Z7G [enc z] [enc x,enc y] (by simp)) rfl (recS hn _) rfl rfl (hkd _) (hap (ps:=[z,x,y]) hn (by lia) _)⟩
theorem Z2r {s:List Nat} (h:LeafOk s) (d:Nat):Fine (.one s)∧ht (.one s) ≤ d:=⟨by rw [Fine]; exact h,by rw [ht]; exact Nat.zero_le _⟩
theorem Z2s {d:Nat} {p:Pt} (h:Fine p∧ht p ≤ d):Fine (.many p)∧ht (.many p) ≤ d + 1:=⟨by rw [Fine]; exact h.1,by rw [ht]; exact Nat.succ_le_succ h.2⟩
theorem Z1Q {d:Nat} {p:Pt} (h:Fine p∧ht p ≤ d):Fine (.maybe p)∧ht (.maybe p) ≤ d + 1:=⟨by rw [Fine]; exact h.1,by rw [ht]; exact Nat.succ_le_succ h.2⟩
theorem Zb6 (F:Fn) (K:Nat) {Rm d:Nat} {held:List Pt} {room:Nat} (g:GOk Rm d held room) (cell m:Int) (w:Nat) (lv:V) :
  ∃ held' x6 x7,GOk Rm (d + 1) held' room∧∀ (τ:List O) (n:Nat),n < τ.length→Cl (τ.set n (.lst (held.map enc)))→evS F K sBE (gS n cell m w room lv none none (τ.set n (.lst (held.map enc)))) = .ok .next (gS n cell m w room lv x6 x7 (τ.set n (.lst (held'.map enc)))):=by
 refine El.x1_2 (evC F g cell m w lv) fun bC hC0 hC=>?_
 have gs:=g.sum
 have gf:=g.few
 cases hB:((w:Int) == 0 && decide ((held.length:Int) < 8)) with
 | true=>
  have h8:(held.length:Int) < 8:=of_decide_eq_true (Bool.and_eq_true_iff.mp hB).2
  exact El.y3_2 (held++[(Glu.Pat.row (ofL []):Pt)]) none none (.snoc g.fine (Z0N (d:=d) (ps:=[]) (fun _ h=>by cases h) (by simp)) (by lia) (by rw [Z2p]; simpa [Glu.allLeaves] using gs)) fun τ n hn hcl=>at1C fun t=>t (okb (evB F cell m w lv hn) hB) (recS hn _) (appS hn _ _ (by lia) (.row (ofL [])))
 | false=>
  cases hbc:bC with
  | true=>
   rw [hbc] at hC hC0
   refine El.x2_1 (Z4m (hC0 rfl)) fun a x e=>?_
   subst e
   rw [Z0i,Z0b] at gs
   rw [List.length_append,List.length_singleton] at gf
   exact El.y3_2 (a++[(Glu.Pat.many x:Pt)]) none none (.snoc (fun p hp=>g.fine p (by simp [hp])) (Z2s (g.fine x (by simp))) (by lia) (by rw [Z4l]; exact gs)) fun τ n hn hcl=>at1C fun t=>t (okb (evB F cell m w lv hn) hB) (hC τ n hn hcl) (recS hn _) (popS hn _ _ x) (appS hn _ _ (by lia) (.many x))
  | false=>
   rw [hbc] at hC
   cases hD:((w:Int) == 2 && !held.isEmpty) with
   | true=>
    refine El.x2_1 (Z4m (l:=held) fun e=>by rw [e] at hD; simp at hD) fun a x e=>?_
    subst e
    rw [Z0i,Z0b] at gs
    rw [List.length_append,List.length_singleton] at gf
    exact El.y3_2 (a++[(Glu.Pat.maybe x:Pt)]) none none (.snoc (fun p hp=>g.fine p (by simp [hp])) (Z1Q (g.fine x (by simp))) (by lia) (by rw [Z2q]; exact gs)) fun τ n hn hcl=>at1C fun t=>t (okb (evB F cell m w lv hn) hB) (hC τ n hn hcl) (okb (evD F cell m w lv hn) hD) (recS hn _) (popS hn _ _ x) (appS hn _ _ (by lia) (.maybe x))
   | false=>
    cases hE:(decide ((w:Int) > 2) && decide ((held.length:Int) > 1)) with
    | false=>exact El.y3_2 held none none g.mono fun τ n hn hcl=>at1C fun t=>t (okb (evB F cell m w lv hn) hB) (hC τ n hn hcl) (okb (evD F cell m w lv hn) hD) (okb (evEE F cell m w lv hn) hE)
    | true=>
     have h2l:(held.length:Int) > 1:=of_decide_eq_true (Bool.and_eq_true_iff.mp hE).2
     refine El.x2_1 (Z4m (l:=held) fun e=>by rw [e] at h2l; simp at h2l) fun b y e=>?_
     subst e
     refine El.x2_1 (Z4m (l:=b) fun e=>by rw [e] at h2l; simp at h2l) fun a x e=>?_
     subst e
     refine El.x2_1 (Zet F K cell m w room lv) fun _ b2 hrun=>?_
     obtain ⟨a',ps,⟨q1,q2,q3⟩,x6,x7,hrun⟩:=hrun (a:=a) (x:=x) (y:=y) (by rw [List.length_append,List.length_append] at gf; lia)
     have hfp:∀ p ∈ ps,Fine p∧ht p ≤ d:=fun p hp=>g.fine p (by rw [← q1]; simp [hp])
     have hfa:∀ p ∈ a',Fine p∧ht p ≤ d:=fun p hp=>g.fine p (by rw [← q1]; simp [hp])
     rw [← q1,Z0i] at gs
     rw [← q1,List.length_append] at gf
     refine El.y3_2 (a'++[if b2 then (Glu.Pat.or (ofL ps):Pt) else Glu.Pat.row (ofL ps)]) x6 x7 (.snoc hfa ?_ (by lia) ?_) fun τ n hn hcl=>(if_f (okb (evB F cell m w lv hn) hB)).trans (one1 ((if_f (hC τ n hn hcl)).trans (one1 ((if_f (okb (evD F cell m w lv hn) hD)).trans (one1 ((if_t (okb (evEE F cell m w lv hn) hE)).trans (hrun τ n hn)))))))
     ·cases b2
      ·exact Z0N hfp (by lia)
      ·exact Z4i hfp (by lia) (by lia)
     ·cases b2
      ·show _ + (Glu.Pat.row (ofL ps):Pt).leaves.length + _ ≤ _
       rw [Z2p]; exact gs
      ·show _ + (Glu.Pat.or (ofL ps):Pt).leaves.length + _ ≤ _
       rw [Zb4]; exact gs
theorem Zb7 (F:Fn) (K:Nat) {L:List Nat} {z:Nat} (hL:Lets L z) (hsome:∀ (m:Nat) (τ:List O),Cl τ→F "_law_some_of" [.lst (Z06 L z),.int (m:Int)] τ = .ok (.str (Z12 (word L z) m)) ⟨[],τ⟩)
  {Rm d:Nat} {held:List Pt} {room:Nat} (g:GOk Rm d held room) (cell:Int) :
  ∃ held' room',GOk Rm (d + 1) held' room'∧∀ (τ:List O) (n:Nat),Cl τ→τ[n]? = some (.lst (held.map enc))→Z0a F K Z46 [.ref n,.int cell,.lst (Z06 L z),.int (room:Int)] τ = .ok (.int (room':Int)) ⟨[],τ.set n (.lst (held'.map enc))⟩:=by
 refine El.x1_2 (Z0d cell 10 (by lia)) fun w hw hw2=>?_
 have hw':Int.fmod cell 10 = (w:Int):=hw
 have keep:∀ {held':List Pt} {room':Nat},(∀ (τ:List O) (n:Nat),n < τ.length→Cl (τ.set n (.lst (held.map enc)))→∃ ρ,evSs F K Z8t ⟨[some (.ref n),some (.int cell),some (.lst (Z06 L z)),some (.int (room:Int)),none,none,none,none],τ.set n (.lst (held.map enc))⟩ = .ok (.ret (.int (room':Int))) ⟨ρ,τ.set n (.lst (held'.map enc))⟩) →
   ∀ (τ:List O) (n:Nat),Cl τ→τ[n]? = some (.lst (held.map enc))→Z0a F K Z46 [.ref n,.int cell,.lst (Z06 L z),.int (room:Int)] τ = .ok (.int (room':Int)) ⟨[],τ.set n (.lst (held'.map enc))⟩:=fun h τ n hcl hτ=>by
  have e:=Zcx hτ
  refine El.x1_1 (h τ n (List.getElem?_eq_some_iff.mp hτ).1 (by rw [e]; exact hcl)) fun ρ h=>?_
  rw [e] at h
  exact Z0x (d:=Z46) (args:=[.ref n,.int cell,.lst (Z06 L z),.int (room:Int)]) (F:=F) (K:=K) rfl h (.inl (List.length_set ..))
 have gs:=g.sum
 cases hA:(decide ((w:Int) > 5) && (decide ((room:Int) > 0) && decide ((held.length:Int) < 8))) with
 | true=>
  have hA2:=Bool.and_eq_true_iff.mp (Bool.and_eq_true_iff.mp hA).2
  have hr:=of_decide_eq_true hA2.1
  have h8:=of_decide_eq_true hA2.2
  refine El.x1_2 (Z0d (Int.fdiv cell 10) 15 (by lia)) fun k hk hk2=>?_
  have hk':(1:Int) + Int.fmod (Int.fdiv cell 10) 15 = ((1 + k:Nat):Int):=by
   have:Int.fmod (Int.fdiv cell 10) 15 = (k:Int):=hk
   rw [this]; lia
  have hrm:(room:Int) - 1 = ((room - 1:Nat):Int):=by lia
  have hs:∀ τ:List O,Cl τ→F "_law_some_of" [.lst (Z06 L z),.int (1 + Int.fmod (Int.fdiv cell 10) 15)] τ = .ok (.str (Z12 (word L z) (1 + k))) ⟨[],τ⟩:=fun τ h=>by rw [hk']; exact hsome _ τ h
  exact ⟨held++[(Glu.Pat.one (Z12 (word L z) (1 + k)):Pt)],room - 1,.snoc g.fine (Z2r (Z7B hL (by lia) (by lia)) _) (by lia) (by rw [Z1X,List.length_singleton]; lia),keep fun τ n hn hcl=>
   ⟨_,atC fun t=>t rfl (congrArg V.int hw') rfl rfl (okb (evA F cell (Int.fdiv cell 10) w (.lst (Z06 L z)) hn) hA) (recS hn _) rfl (hs _ hcl) (appS hn _ _ (by lia) (.one _)) (congrArg V.int hrm)⟩⟩
 | false=>
  refine El.x3_2 (Zb6 F K g cell (Int.fdiv cell 10) w (.lst (Z06 L z))) fun held' x6 x7 g' hrun=>?_
  refine ⟨held',room,g',keep fun τ n hn hcl=>⟨[some (.ref n),some (.int cell),some (.lst (Z06 L z)),some (.int (room:Int)),some (.int (w:Int)),some (.int (Int.fdiv cell 10)),x6,x7],?_⟩⟩
  exact Eq.trans (atPC 3 fun t=>t rfl (congrArg V.int hw') rfl rfl (okb (evA F cell (Int.fdiv cell 10) w (.lst (Z06 L z)) hn) hA)) (Eq.trans (Zf5 (hrun τ n hn hcl)) (atS (ss:=.cons (.ret (.loc 3)) .nil) fun t=>t rfl))
structure PsOk (ps:List Pt):Prop where
 ne:ps ≠ []
 few:ps.length ≤ 8
 sum:(Glu.allLeaves ps).length ≤ 60
 fine:∀ p ∈ ps,Fine p∧ht p ≤ 14
structure Ones (gs:List (List Nat)):Prop where
 ne:gs ≠ []
 few:gs.length ≤ 100
 one:∀ g ∈ gs,∃ c,g = [c]∧c < 127
theorem Ones.grps {gs:List (List Nat)} (h:Ones gs):Grps gs:=⟨h.ne,fun g hg=>by obtain ⟨c,rfl,_⟩:=h.one g hg; exact ⟨by simp,by simp⟩,h.few⟩
theorem Zeu (i:Int):∃ g:Int,Z0n [V.int 1,V.int 5,V.int 7,V.int 11,V.int 13,V.int 17,V.int 19,V.int 23] (Int.fmod i 8) = some (.int g):=by
 refine El.x1_2 (Z6H [V.int 1,V.int 5,V.int 7,V.int 11,V.int 13,V.int 17,V.int 19,V.int 23] (i:=i) (n:=8) (by lia) (by lia) (by simp)) fun x hx hm=>?_
 simp only [List.mem_cons,List.not_mem_nil,or_false] at hm
 rcases hm with rfl | rfl | rfl | rfl | rfl | rfl | rfl | rfl <;> exact ⟨_,hx⟩
theorem Zcy (F:Fn) (K:Nat) (hF:∀ i τ,Cl τ→F "_law_sign_by" [.int i] τ = .ok (.str [Z0D i]) ⟨[],τ⟩) (cell:Int):∃ gs,Ones gs∧∀ σ,Cl σ→Z0a F K ZaH [.int cell] σ = .ok (sV gs) ⟨[],σ⟩:=by
 refine El.x1_1 (Zeu (Int.fdiv cell 96)) fun g hg=>?_
 refine El.x1_2 (Z0d (Int.fdiv cell 768) 60 (by lia)) fun k hk hk2=>?_
 have hk':(2:Int) + Int.fmod (Int.fdiv cell 768) 60 = ((2 + k:Nat):Int):=by
  have:Int.fmod (Int.fdiv cell 768) 60 = (k:Int):=hk
  rw [this]; lia
 refine ⟨(List.range (2 + k)).map fun j:Nat=>[Z0D (cell + (j:Int) * g)],⟨fun e=>?_,by rw [List.length_map,List.length_range]; lia,fun x hx=>?_⟩,fun σ hσ=>?_⟩
 ·have:=congrArg List.length e
  rw [List.length_map,List.length_range,List.length_nil] at this
  lia
 ·refine El.x1_2 (List.mem_map.mp hx) fun j _ q0z=>?_
  obtain rfl:=q0z
  exact ⟨_,rfl,Z6q _⟩
 ·have hc:=Z3l (F:=F) (elt:=Z8u) (k:=2) (ρ₀:=[some (.int cell),some (.int g),none]) (σ:=σ) (it:=.range1 (.bin .add (.int 2) (.bin .mod (.bin .fdiv (.loc 0) (.int 768)) (.int 60)))) (xs:=upTo 0 (2 + k:Nat))
   (fun x=>match x with | .int j=>.str [Z0D (cell + j * g)] | _=>.none) (fun x hx=>by obtain ⟨j,_,rfl⟩:=Z1O hx; exact Z09 _)
   (by exact atI fun t=>t rfl rfl hk' (Z0q (show 2 + k < 2 ^ 31 by lia)))
   (by rw [Z0y]; unfold sizeLine; lia)
   (fun x hx acc ha=>by
    refine El.x1_2 (Z1O hx) fun j hj q1z=>?_
    obtain rfl:=q1z
    have hm:=Z1V (j:Int) g (by rw [Z2b (by lia)]; rfl)
    exact atE fun t=>t hm (hF _ _ (hσ.snoc ha)))
  have e:(upTo 0 (2 + k:Nat)).map (fun x=>match x with | .int j=>V.str [Z0D (cell + j * g)] | _=>.none) = ((List.range (2 + k)).map fun j:Nat=>[Z0D (cell + (j:Int) * g)]).map .str:=by
   rw [Z5C,List.map_map]; rfl
  rw [e] at hc
  refine Z2c rfl ?_ (by unfold sV; rw [Z0w]; exact Z1W fun x hx=>by obtain ⟨y,_,rfl⟩:=List.mem_map.mp hx; exact Z09 _) hσ
  show Ret (evSs F K ZaG ⟨[some (.int cell),none,none],σ⟩) _ _
  refine Ret.mk (ρ:=[some (.int cell),some (.int g),none]) (τ:=[.dead]) ?_
  have s8:(8:Nat) ≤ sizeLine:=by decide
  simp only [List.set_cons_succ,List.set_cons_zero] at hc
  exact atS fun t=>t rfl rfl hg rfl hc rfl
noncomputable def HS (σ:List O) (held:List Pt) (k:Nat):List O:=σ++.lst (held.map enc) :: List.replicate k .dead
theorem Z0F (σ:List O) (held:List Pt) (k:Nat):(HS σ held k)[σ.length]? = some (.lst (held.map enc)):=ZaZ ..
theorem Zb8 (σ:List O) (held held':List Pt) (k:Nat):(HS σ held k).set σ.length (.lst (held'.map enc)) = HS σ held' k:=Z7y ..
theorem Z7H (σ:List O) (held:List Pt) (k:Nat):HS σ held k++[.dead] = HS σ held (k + 1):=by
 unfold HS
 rw [List.append_assoc,List.cons_append,List.replicate_succ']
theorem Zb9 {σ:List O} (h:Cl σ):∀ k:Nat,Cl (σ++List.replicate k .dead)
 | 0=>by rw [List.replicate_zero,List.append_nil]; exact h
 | k + 1=>by rw [List.replicate_succ',← List.append_assoc]; exact (Zb9 h k).dead
theorem Z3e {σ:List O} (h:Cl σ) (held:List Pt) (k:Nat):Cl (HS σ held k):=by
 have:=Zb9 (h.snoc (Z26 held)) k
 rwa [List.append_assoc] at this
theorem Z4U (σ:List O) (held:List Pt) (k:Nat) (hl:held.length ≤ 100) {v:V} {q:Pt} (hv:v = enc q) (ρ:List (Option V)):Z1p .append (.ref σ.length) v ⟨ρ,HS σ held k⟩ = .ok .none ⟨ρ,HS σ (held++[q]) k⟩:=by
 rw [Zd6 (Z0F σ held k) (by rw [List.length_map]; lia),hv,← Z5J,Zb8]
noncomputable def Z2V (t:List Nat):Pt:=.row (ofL (t.map fun c=>Glu.Pat.one [c]))
theorem Z2W {t:List Nat} (hl:t.length ≤ 64) (h:∀ c ∈ t,c < 127):Fine (Z2V t)∧ht (Z2V t) ≤ 1 :=
 Z0N (d:=0) (fun p hp=>by
  refine El.x1_2 (List.mem_map.mp hp) fun c hc q2z=>?_
  obtain rfl:=q2z
  rw [Fine,ht]
  exact ⟨⟨by simp,by simp,by simpa using h c hc,by simp⟩,Nat.le_refl _⟩) (by rw [List.length_map]; exact hl)
theorem Z13:∀ t:List Nat,(Z2V t).leaves.length = t.length:=fun t=>by
 unfold Z2V
 rw [Z2p]
 unfold Glu.allLeaves
 rw [List.flatMap_map]
 induction t with
 | nil=>rfl
 | cons c t ih=>rw [List.flatMap_cons,List.length_append,ih,Z1X,List.length_singleton,List.length_cons]; lia
theorem Z2t (t:List Nat):enc (Z2V t) = .tup [.str (Str.ofString "row").cps.toList,.lst (t.map fun c=>.tup [.str (Str.ofString "one").cps.toList,.str [c]])]:=by
 unfold Z2V
 rw [Z4j,List.map_map]
 have:(enc ∘ fun c=>(Glu.Pat.one [c]:Pt)) = fun c=>V.tup [.str (Str.ofString "one").cps.toList,.str [c]]:=by
  funext c
  exact Z5H [c]
 rw [this]
theorem Z4n (F:Fn) (k i:Nat) (ρ:List (Option V)) (hk:k < ρ.length) (t:List Nat) (hl:t.length ≤ 100) (hi:ρ[i]? = some (some (.str t))) (σ:List O) :
  evE F (.comp (.tup (.cons (.str "one") (.cons (.loc k) .nil))) k (.val (.loc i)) .nil) ⟨ρ,σ⟩ = .ok (.lst (t.map fun c=>.tup [.str (Str.ofString "one").cps.toList,.str [c]])) ⟨ρ.set k none,σ++[.dead]⟩:=by
 have s2:(2:Nat) ≤ sizeLine:=by decide
 have hc:=Z3l (F:=F) (elt:=.tup (.cons (.str "one") (.cons (.loc k) .nil))) (k:=k) (ρ₀:=ρ) (σ:=σ) (it:=.val (.loc i)) (xs:=t.map fun c=>.str [c]) (fun x=>.tup [.str (Str.ofString "one").cps.toList,x])
  (fun x hx=>by
   refine El.x1_2 (List.mem_map.mp hx) fun c _ q3z=>?_
   obtain rfl:=q3z
   rw [Z0J,Z03,Z03,Z09,Z09,Z0f]; rfl)
  (Zf4 hi rfl)
  (by rw [List.length_map]; unfold sizeLine; lia)
  (fun x hx acc ha=>by
   have hx':(ρ.set k (some x))[k]? = some (some x):=List.getElem?_set_self hk
   rw [Zdi,Z3s,Zdh,R.bind_ok,Z3s,Zf3 (F:=F) (st:=⟨ρ.set k (some x),σ++[O.lst acc]⟩) hx']
   exact if_pos (e:=R.stuck) s2)
 rw [hc,List.map_map]; rfl
noncomputable def scV (is:List Int):V:=.lst (is.map .int)
noncomputable def Z5K (F:Fn) (is:List Int):Prop:=∀ (k:Nat) (τ:List O),k < 100→Cl τ→F "_law_cell_at" [scV is,.int (k:Int)] τ = .ok (.int (is.getD k 0)) ⟨[],τ⟩
noncomputable def Z9e (F:Fn):Prop:=∀ (cell:Int) (n:Nat) (gs:List (List Nat)),n ≤ 100→Grps gs→∃ t:List Nat,t.length = n∧(∀ c ∈ t,∃ g ∈ gs,c ∈ g)∧∀ σ,Cl σ→F "_law_text_by" [.int cell,.int (n:Int),sV gs] σ = .ok (.str t) ⟨[],σ⟩
theorem Zba {gs:List (List Nat)} (h:Ones gs) {t:List Nat} (ht:∀ c ∈ t,∃ g ∈ gs,c ∈ g):∀ c ∈ t,c < 127:=fun c hc=>by
 refine El.x1_2 (ht c hc) fun g hg hcg=>?_
 refine El.x1_2 (h.one g hg) fun d q4z hd=>?_
 obtain rfl:=q4z
 rw [List.mem_singleton.mp hcg]; exact hd
theorem Z9f (F:Fn) (K:Nat) (is:List Int) (hcell:Z5K F is) (htext:Z9e F) {gs:List (List Nat)} (hgs:Ones gs) (x2 x3:Option V) (M:Nat) (hM:M ≤ 40) (i:Nat) (held:List Pt) (num:Int) (nd:Nat) (x7 x8 x9:Option V)
  (h1:held.length = i) (hi:i ≤ 64) (h2:∀ p ∈ held,Fine p∧ht p ≤ 1) (h3:(Glu.allLeaves held).length ≤ i * M) :
  ∃ held' num' y8 y9,(held'.length = i + 1∧(∀ p ∈ held',Fine p∧ht p ≤ 1)∧(Glu.allLeaves held').length ≤ (i + 1) * M)∧∀ σ,Cl σ→evSs F K Z47 (setV (S11 (some (scV is)) (some (sV gs)) x2 x3 (some (.int (M:Int))) (some (.int num)) (some (.ref σ.length)) x7 x8 x9 none (HS σ held nd)) 7 (.int (i:Int))) =
   .ok .next (S11 (some (scV is)) (some (sV gs)) x2 x3 (some (.int (M:Int))) (some (.int num')) (some (.ref σ.length)) (some (.int (i:Int))) y8 y9 none (HS σ held' (nd + 1))):=by
 have sm:(Z0s num || Z0s 48271) = true:=by rw [Z0Z (i:=48271) (by lia) (by lia),Bool.or_true]
 refine El.x1_2 (Z0d (Int.fdiv (Int.fmod (num * 48271 + 11) 2147483647) 7) (M + 1) (by lia)) fun k hk hk2=>?_
 have hM1:(M:Int) + 1 = ((M + 1:Nat):Int):=by lia
 have hM0:(M:Int) + 1 ≠ 0:=by lia
 have hkM:Int.fmod (Int.fdiv (Int.fmod (num * 48271 + 11) 2147483647) 7) ((M:Int) + 1) = (k:Int):=by rw [hM1]; exact hk
 have hsz:∃ n:Nat,n ≤ M∧(if (Int.fmod (is.getD 4 0) 3 == 1) then (M:Int) - Int.fdiv (k:Int) 3 else (k:Int)) = (n:Int):=by
  have hd:Int.fdiv (k:Int) 3 = ((k / 3:Nat):Int):=Z5D k 3
  by_cases h:(Int.fmod (is.getD 4 0) 3 == 1) = true
  ·exact ⟨M - k / 3,by lia,by rw [if_pos h,hd]; lia⟩
  ·exact ⟨k,by lia,by rw [if_neg h]⟩
 refine El.x1_2 hsz fun n hn hn'=>?_
 refine El.x1_3 (htext (Int.fmod (num * 48271 + 11) 2147483647) n gs (by lia) hgs.grps) fun t ht1 ht2 ht3=>?_
 have hlt:=Zba hgs ht2
 refine El.y4_2 (held++[Z2V t]) (Int.fmod (num * 48271 + 11) 2147483647) (some (.int (n:Int))) (some (.str t)) ⟨by simp [h1],fun p hp=>?_,?_⟩ (fun σ hσ=>?_)
 ·rcases List.mem_append.mp hp with hp | hp
  ·exact h2 p hp
  ·rw [List.mem_singleton.mp hp]; exact Z2W (by lia) hlt
 ·rw [Z0i,Z0b,Z13,Nat.add_mul,Nat.one_mul]; lia
 ·have hcl:=Z3e hσ held nd
  have hm:=Z1V num 48271 sm
  have c4:=hcell 4 _ (by lia) hcl
  have t1:=ht3 _ hcl
  have cc:=Z4n F 10 9 [some (scV is),some (sV gs),x2,x3,some (.int (M:Int)),some (.int (Int.fmod (num * 48271 + 11) 2147483647)),some (.ref σ.length),some (.int (i:Int)),some (.int (n:Int)),some (.str t),none] (by simp) t (by lia) rfl (HS σ held nd)
  simp only [List.set_cons_succ,List.set_cons_zero] at cc
  rw [Z7H] at cc
  have r0:=Z0I _ _ _ (Z0F σ held nd)
  have c4':F "_law_cell_at" [scV is,.int 4] (HS σ held nd) = .ok (.int (is.getD 4 0)) ⟨[],HS σ held nd⟩:=c4
  cases hb:(Int.fmod (is.getD 4 0) 3 == 1) with
  | true=>
   rw [hb,if_pos rfl] at hn'
   exact atS fun t=>t hm rfl rfl rfl (nz hM0) (congrArg V.int hkM) c4' rfl hb rfl (congrArg V.int hn') t1 rfl r0 cc (Z4U σ held (nd + 1) (by lia) (Z2t _).symm _)
  | false=>
   rw [hb,if_neg Bool.false_ne_true] at hn'
   exact atS fun t=>t hm rfl rfl rfl (nz hM0) (congrArg V.int (hkM.trans hn')) c4' rfl hb t1 rfl r0 cc (Z4U σ held (nd + 1) (by lia) (Z2t _).symm _)
theorem Z7I (c2:Int):∃ sh c M:Nat,sh < 4∧Int.fmod c2 4 = (sh:Int)∧1 ≤ c∧c ≤ 58∧M ≤ 40∧c * M ≤ 58∧(sh % 2 = 0→c ≤ 8) ∧
  (∃ N:Int,N ≠ 0∧Z0n [V.int 8,V.int 8,V.int 3,V.int 58] (sh:Int) = some (.int N)∧(1:Int) + Int.fmod (Int.fdiv c2 4) N = (c:Int)) ∧
  Z0n [V.int 6,V.int 6,V.int (if Int.fdiv 58 (c:Int) < 40 then Int.fdiv 58 (c:Int) else 40),V.int (if Int.fdiv 58 (c:Int) < 40 then Int.fdiv 58 (c:Int) else 40)] (sh:Int) = some (.int (M:Int)):=by
 refine El.x1_2 (Z0d c2 4 (by lia)) fun sh hs hs4=>?_
 have hs':Int.fmod c2 4 = (sh:Int):=hs
 have key:∀ N:Nat,0 < N→∃ c:Nat,1 ≤ c∧c ≤ N∧(1:Int) + Int.fmod (Int.fdiv c2 4) (N:Int) = (c:Int):=fun N hN=>by
  refine El.x1_2 (Z0d (Int.fdiv c2 4) N hN) fun k hk hk2=>?_
  exact ⟨1 + k,by lia,by lia,by rw [hk]; lia⟩
 have hdiv:∀ c:Nat,Int.fdiv 58 (c:Int) = ((58 / c:Nat):Int):=fun c=>Z5D 58 c
 have hmin:∀ c:Nat,1 ≤ c→∃ M:Nat,M ≤ 40∧c * M ≤ 58∧(if Int.fdiv 58 (c:Int) < 40 then Int.fdiv 58 (c:Int) else 40) = (M:Int):=fun c hc=>by
  rw [hdiv]
  have h1:c * (58 / c) ≤ 58:=Nat.mul_div_le 58 c
  by_cases h:58 / c < 40
  ·exact ⟨58 / c,by lia,h1,by rw [if_pos (by lia)]⟩
  ·refine ⟨40,by lia,?_,by rw [if_neg (by lia)]; rfl⟩
   have h2:c * 40 ≤ c * (58 / c):=Nat.mul_le_mul_left c (by lia)
   lia
 have h0123:sh = 0 ∨ sh = 1 ∨ sh = 2 ∨ sh = 3:=by lia
 rcases h0123 with rfl | rfl | rfl | rfl
 ·refine El.x1_3 (key 8 (by lia)) fun c h1 h2 h3=>?_
  exact ⟨0,c,6,by lia,hs',h1,by lia,by lia,by lia,fun _=>h2,⟨8,by lia,rfl,h3⟩,rfl⟩
 ·refine El.x1_3 (key 8 (by lia)) fun c h1 h2 h3=>?_
  exact ⟨1,c,6,by lia,hs',h1,by lia,by lia,by lia,fun _=>h2,⟨8,by lia,rfl,h3⟩,rfl⟩
 ·refine El.x1_3 (key 3 (by lia)) fun c h1 h2 h3=>?_
  refine El.x1_3 (hmin c h1) fun M m1 m2 m3=>?_
  exact ⟨2,c,M,by lia,hs',h1,by lia,m1,m2,fun _=>by lia,⟨3,by lia,rfl,h3⟩,by rw [m3]; rfl⟩
 ·refine El.x1_3 (key 58 (by lia)) fun c h1 h2 h3=>?_
  refine El.x1_3 (hmin c h1) fun M m1 m2 m3=>?_
  exact ⟨3,c,M,by lia,hs',h1,by lia,m1,m2,fun h=>by lia,⟨58,by lia,rfl,h3⟩,by rw [m3]; rfl⟩
theorem Z9g (σ:List O) (held:List Pt) (k:Nat):(HS σ held k).set σ.length .dead = σ++.dead :: List.replicate k .dead:=Z7y ..
theorem Zbb (F:Fn) (K:Nat) (is:List Int) (hcell:Z5K F is) (htext:Z9e F) (hwide:∀ cell:Int,∃ gs,Ones gs∧∀ σ,Cl σ→F "_law_wide" [.int cell] σ = .ok (sV gs) ⟨[],σ⟩) :
  ∃ ps,PsOk ps∧∀ σ,Cl σ→Z0a F K Z7n [scV is] σ = .ok (.lst (ps.map enc)) ⟨[],σ⟩:=by
 refine El.x1_2 (hwide (is.getD 20 0)) fun gs hgs hw=>?_
 refine El.x3_9 (Z7I (is.getD 2 0)) fun sh c M hsh e1 c1 c58 hM hcM hc8 q0z e4=>?_
 refine El.x1_3 q0z fun N hN e2 e3=>?_
 refine El.x4_2 (Z5E (step:=fun x st=>evSs F K Z47 (setV st 7 x))
  (fun (held:List Pt) (num:Int) (nd:Nat) u σ=>(S11 (some (scV is)) (some (sV gs)) (some (.int (sh:Int))) (some (.int (c:Int))) (some (.int (M:Int))) (some (.int num)) (some (.ref σ.length)) (u 0) (u 1) (u 2) none (HS σ held nd)))
  (fun i held _=>held.length = i∧(∀ p ∈ held,Fine p∧ht p ≤ 1)∧(Glu.allLeaves held).length ≤ i * M) (upTo 0 c) [] (Int.fmod (is.getD 3 0) 2147483647) 0 (fun _=>none)
  (by
   intro i x held num nd u hx q2z
   refine El.x0_3 q2z fun h1 h2 h3=>?_
   refine El.x0_2 (Z1P hx) fun q3z hi=>?_
   obtain rfl:=q3z
   refine El.x4_2 (Z9f F K is hcell htext hgs (some (.int (sh:Int))) (some (.int (c:Int))) M hM i held num nd (u 0) (u 1) (u 2) h1 (by lia) h2 h3) fun held' num' y8 y9 hinv hrun=>?_
   exact ⟨held',num',nd + 1,gl [some (.int (i:Int)),y8,y9],hinv,hrun⟩)
  ⟨rfl,fun _ h=>(by cases h),by simp [Glu.allLeaves]⟩) fun held num nd u q9z e=>?_
 refine El.x0_3 q9z fun h1 h2 h3=>?_
 rw [Z0y] at h1 h3
 have c0:(c:Int) ≠ 0:=by lia
 have hm2:Int.fmod (sh:Int) 2 = ((sh % 2:Nat):Int):=Z6t sh 2
 have k:∀ k σ,k < 100→Cl σ→F "_law_cell_at" [scV is,.int (k:Nat)] σ = .ok (.int (is.getD k 0)) ⟨[],σ⟩:=fun k σ=>hcell k σ
 have hs:=Z0q (show c < 2 ^ 31 by lia)
 by_cases hodd:sh % 2 = 1
 ·have hb:(Int.fmod (sh:Int) 2 == 1) = true:=by rw [hm2,hodd]; rfl
  refine ⟨[.or (ofL held)],⟨by simp,by simp,?_,fun p hp=>?_⟩,fun σ hσ=>?_⟩
  ·rw [Z0b,Zb4]; lia
  ·rw [List.mem_singleton.mp hp]
   have:=Z4i (d:=1) h2 (by lia) (by lia)
   exact ⟨this.1,by lia⟩
  ·exact atF rfl hσ fun t=>t (k 20 σ (by lia) hσ) (hw σ hσ) rfl (k 2 σ (by lia) hσ) rfl (congrArg V.int e1) (k 2 σ (by lia) hσ) rfl ((Z1v _ _ _).trans e2) (nz hN) (congrArg V.int e3) (nz c0) (nz c0) ((Z1v _ _ _).trans e4) rfl (k 3 σ (by lia) hσ) rfl rfl rfl rfl rfl rfl hs (e σ hσ) rfl hb (Z0F σ held nd) (Z9g σ held nd) (congrArg (fun v=>V.lst [v]) (Z8D held).symm) rfl (V.los_mono (Nat.zero_le _) _ (Z26 _))
 ·have hb:(Int.fmod (sh:Int) 2 == 1) = false:=by rw [hm2,beq_eq_false_iff_ne]; lia
  refine ⟨held,⟨fun h0=>?_,?_,?_,fun p hp=>⟨(h2 p hp).1,by have:=(h2 p hp).2; lia⟩⟩,fun σ hσ=>?_⟩
  ·rw [h0] at h1; simp at h1; lia
  ·have:=hc8 (by lia); lia
  ·lia
  ·exact atF rfl hσ fun t=>t (k 20 σ (by lia) hσ) (hw σ hσ) rfl (k 2 σ (by lia) hσ) rfl (congrArg V.int e1) (k 2 σ (by lia) hσ) rfl ((Z1v _ _ _).trans e2) (nz hN) (congrArg V.int e3) (nz c0) (nz c0) ((Z1v _ _ _).trans e4) rfl (k 3 σ (by lia) hσ) rfl rfl rfl rfl rfl rfl hs (e σ hσ) rfl hb (Z0F σ held nd) (Z9g σ held nd) rfl rfl (V.los_mono (Nat.zero_le _) _ (Z26 _))
theorem Z7J {S E:Type} {step:V→St→R Fl} (G:E→Prop) (render:S→E→St) (P:Nat→S→Prop):∀ (xs:List V) (k:Nat) (s:S),(∀ i x s,xs[i]? = some x→P (k + i) s→∃ s',P (k + i + 1) s'∧∀ e,G e→step x (render s e) = .ok .next (render s' e))→P k s →
  ∃ s',P (k + xs.length) s'∧∀ e,G e→forR step xs (render s e) = .ok .next (render s' e)
 | [],k,s,_,h=>⟨s,h,fun e _=>by rw [Z0r]⟩
 | x :: xs,k,s,hs,h=>by
  refine El.x1_2 (hs 0 x s rfl h) fun s₁ h1 e1=>?_
  have q6y:=Z7J G render P xs (k + 1) s₁ (fun i y s' hy hP=>by
   have:=hs (i + 1) y s' (by simpa using hy) (by rw [show k + (i + 1) = k + 1 + i by lia]; exact hP)
   rw [show k + (i + 1) + 1 = k + 1 + i + 1 by lia] at this
   exact this) h1
  refine El.x1_2 q6y fun s₂ h2 e2=>?_
  refine ⟨s₂,by rw [List.length_cons,show k + (xs.length + 1) = k + 1 + xs.length by lia]; exact h2,fun e he=>?_⟩
  rw [Z0l,e1 e he,R.bind_ok]
  exact e2 e he
noncomputable def Z6v (L:List Nat) (z:Nat):List Nat:=(word L z 0++(word L z 1++(word L z 2++(word L z 3++[])))).take 12
theorem Zbc {L:List Nat} {z:Nat} (h:Lets L z):Ones ((Z6v L z).map fun c=>[c]):=by
 refine ⟨fun e=>?_,?_,fun g hg=>?_⟩
 ·have h1:=congrArg List.length e
  have h2:=Z1n (k:=0) (by lia) h.len
  have h3:=h.z1
  rw [List.length_map,List.length_nil] at h1
  unfold Z6v at h1
  rw [List.length_take,List.length_append] at h1
  lia
 ·rw [List.length_map]
  unfold Z6v
  rw [List.length_take]
  lia
 ·refine El.x1_2 (List.mem_map.mp hg) fun c hc q0z=>?_
  obtain rfl:=q0z
  refine ⟨c,rfl,?_⟩
  have:=List.mem_of_mem_take hc
  simp only [List.mem_append,List.not_mem_nil,or_false] at this
  rcases this with q | q | q | q <;> exact h.lt c (Z3m c q)
theorem Zfe {L:List Nat} {z:Nat} (σ:List O):Z0A σ (.lst (Z06 L z)) .none (.int 4) = some (.lst [.str (word L z 0),.str (word L z 1),.str (word L z 2),.str (word L z 3)]):=rfl
theorem Zff {L:List Nat} {z:Nat} (h:Lets L z) (st:St):Z1p .join (.str []) (.lst [.str (word L z 0),.str (word L z 1),.str (word L z 2),.str (word L z 3)]) st = .ok (.str (word L z 0++(word L z 1++(word L z 2++(word L z 3++[]))))) st:=by
 have hl:∀ k,k < 5→(word L z k).length = z:=fun k hk=>Z1n hk h.len
 have hz:=h.z19
 exact Z6F (xs:=[.str (word L z 0),.str (word L z 1),.str (word L z 2),.str (word L z 3)]) (l:=[word L z 0,word L z 1,word L z 2,word L z 3]) rfl (by
  simp only [List.flatten_cons,List.flatten_nil,List.length_append,List.length_nil,hl 0 (by lia),hl 1 (by lia),hl 2 (by lia),hl 3 (by lia)]
  unfold sizeLine; lia) st
theorem Z8E {α:Type} (xs:List α) (k:Nat):cutL xs none (some (k:Int)) = xs.take k:=by
 unfold cutL
 simp only [Option.elim_none,Option.elim_some,List.drop_zero,Nat.sub_zero]
 rw [Z8A xs.length k]
 rcases Nat.le_total k xs.length with q | q
 ·rw [Nat.min_eq_left q]
 ·rw [Nat.min_eq_right q,List.take_length,List.take_of_length_le q]
theorem Zfg (l:List Nat) (σ:List O):Z0A σ (.lst (l.map fun c=>V.str [c])) .none (.int 12) = some (sV ((l.take 12).map fun c=>[c])):=by
 refine (congrArg (fun l=>some (V.lst l)) (Z8E (l.map fun c=>V.str [c]) 12)).trans ?_
 rw [← List.map_take]; unfold sV; rw [List.map_map]; rfl
theorem Z9h (F:Fn) (K:Nat) (htext:Z9e F) {gs:List (List Nat)} (hgs:Ones gs) (x0 x1:Option V) (i:Nat) (held:List Pt) (num:Int) (nd:Nat) (x5 x6:Option V)
  (h1:held.length = i) (hi:i ≤ 64) (h2:∀ p ∈ held,Fine p∧ht p ≤ 1) (h3:(Glu.allLeaves held).length ≤ i * 6) :
  ∃ held' num' y6,(held'.length = i + 1∧(∀ p ∈ held',Fine p∧ht p ≤ 1)∧(Glu.allLeaves held').length ≤ (i + 1) * 6)∧∀ σ,Cl σ→evSs F K Z48 (setV (S12 x0 x1 (some (sV gs)) (some (.int num)) (some (.ref σ.length)) x5 x6 none none none none none (HS σ held nd)) 5 (.int (i:Int))) =
   .ok .next (S12 x0 x1 (some (sV gs)) (some (.int num')) (some (.ref σ.length)) (some (.int (i:Int))) y6 none none none none none (HS σ held' (nd + 1))):=by
 have sm:(Z0s num || Z0s 48271) = true:=by rw [Z0Z (i:=48271) (by lia) (by lia),Bool.or_true]
 refine El.x1_2 (Z0d (Int.fdiv (Int.fmod (num * 48271 + 11) 2147483647) 7) 4 (by lia)) fun k hk hk2=>?_
 have hk':(3:Int) + Int.fmod (Int.fdiv (Int.fmod (num * 48271 + 11) 2147483647) 7) 4 = ((3 + k:Nat):Int):=by
  have:Int.fmod (Int.fdiv (Int.fmod (num * 48271 + 11) 2147483647) 7) 4 = (k:Int):=hk
  rw [this]; lia
 refine El.x1_3 (htext (Int.fmod (num * 48271 + 11) 2147483647) (3 + k) gs (by lia) hgs.grps) fun t ht1 ht2 ht3=>?_
 have hlt:=Zba hgs ht2
 refine El.y3_2 (held++[Z2V t]) (Int.fmod (num * 48271 + 11) 2147483647) (some (.str t)) ⟨by simp [h1],fun p hp=>?_,?_⟩ (fun σ hσ=>?_)
 ·rcases List.mem_append.mp hp with hp | hp
  ·exact h2 p hp
  ·rw [List.mem_singleton.mp hp]; exact Z2W (by lia) hlt
 ·rw [Z0i,Z0b,Z13]; lia
 ·have hcl:=Z3e hσ held nd
  have hm:=Z1V num 48271 sm
  have t1:=ht3 _ hcl
  have cc:=Z4n F 10 6 [x0,x1,some (sV gs),some (.int (Int.fmod (num * 48271 + 11) 2147483647)),some (.ref σ.length),some (.int (i:Int)),some (.str t),none,none,none,none,none] (by simp) t (by lia) rfl (HS σ held nd)
  simp only [List.set_cons_succ,List.set_cons_zero] at cc
  rw [Z7H] at cc
  have r0:=Z0I _ _ _ (Z0F σ held nd)
  rw [← hk'] at t1
  exact atS fun t=>t hm rfl rfl rfl rfl t1 rfl r0 cc (Z4U σ held (nd + 1) (by lia) (Z2t _).symm _)
noncomputable def Zbd (F:Fn) (lv:V) (D:Nat):Prop:=∀ {Rm d:Nat} {held:List Pt} {room:Nat},d ≤ D→GOk Rm d held room→∀ cell:Int,∃ held' room',GOk Rm (d + 1) held' room'∧∀ (τ:List O) (n:Nat),Cl τ→τ[n]? = some (.lst (held.map enc))→F "_law_grown" [.ref n,.int cell,lv,.int (room:Int)] τ = .ok (.int (room':Int)) ⟨[],τ.set n (.lst (held'.map enc))⟩
theorem Z7K (ps:List Pt) (k:Nat):(Glu.allLeaves (ps.take k)).length ≤ (Glu.allLeaves ps).length:=by
 have:=Z0i (ps.take k) (ps.drop k)
 rw [List.take_append_drop] at this
 lia
inductive LoopEnd | kept (lh:List Pt) (k:Nat) | cut (lh lo:List Pt)
noncomputable def LoopEnd.v (S:List O):LoopEnd→V
 | .kept _ _=>.ref S.length
 | .cut lh _=>.lst (lh.map enc)
noncomputable def LoopEnd.st (S:List O):LoopEnd→List O
 | .kept lh k=>HS S lh k
 | .cut _ lo=>HS S lo 0
noncomputable def LoopEnd.ps:LoopEnd→List Pt
 | .kept lh _=>lh
 | .cut lh _=>lh
theorem Zbe (F:Fn) (K:Nat) (is:List Int) (hcell:Z5K F is) (htext:Z9e F) {gs:List (List Nat)} (hgs:Ones gs) (lv:V) (hg:Zbd F lv 8) (x3 x5 x6:Option V) :
  ∃ (q:LoopEnd) (y5 y6 y8 y9:Option V),(q.ps.length ≤ 2∧(Glu.allLeaves q.ps).length ≤ 12∧∀ p ∈ q.ps,Fine p∧ht p ≤ 14)∧∀ (S:List O) (x4:Option V),Cl S →
   evS F K (.ifte (.cmp .eq (.bin .mod (.bin .fdiv (.call "_law_cell_at" (.cons (.loc 0) (.cons (.int 2) .nil))) (.int 6)) (.int 2)) (.int 1)) (.cons (.asg 6 (.call "_law_text_by" (.cons (.call "_law_cell_at" (.cons (.loc 0) (.cons (.int 21) .nil))) (.cons (.bin .add (.int 1) (.bin .mod (.call "_law_cell_at" (.cons (.loc 0) (.cons (.int 22) .nil))) (.int 12))) (.cons (.loc 2) .nil)))))
 (.cons (.asg 8 (.tup (.cons (.str "row") (.cons (.comp Z4R 11 (.val (.loc 6)) .nil) .nil))))
 (.cons (.expr (.me .append (.loc 7) (.sub (.list (.cons (.tup (.cons (.str "many") (.cons (.loc 8) .nil))) (.cons (.tup (.cons (.str "maybe") (.cons (.loc 8) .nil))) .nil))) (.bi .int (.cmp .eq (.bin .mod (.call "_law_cell_at" (.cons (.loc 0) (.cons (.int 23) .nil))) (.int 3)) (.int 0))))))
 .nil))) (.cons (.asg 9 (.int 4))
 (.cons (.for1 5 (.range1 (.int 8)) Z49)
 (.cons (.asg 7 (.slice (.loc 7) .none (.some (.int 2))))
 .nil)))) (S12 (some (scV is)) (some lv) (some (sV gs)) x3 x4 x5 x6 (some (.ref S.length)) none none none none (HS S [] 0)) =
   .ok .next (S12 (some (scV is)) (some lv) (some (sV gs)) x3 x4 y5 y6 (some (q.v S)) y8 y9 none none (q.st S)):=by
 have s2:(2:Nat) ≤ sizeLine:=by decide
 cases hb:(Int.fmod (Int.fdiv (is.getD 2 0) 6) 2 == 1) with
 | true=>
  refine El.x1_2 (Z0d (is.getD 22 0) 12 (by lia)) fun k hk hk2=>?_
  have hk':(1:Int) + Int.fmod (is.getD 22 0) 12 = ((1 + k:Nat):Int):=by
   have:Int.fmod (is.getD 22 0) 12 = (k:Int):=hk
   rw [this]; lia
  refine El.x1_3 (htext (is.getD 21 0) (1 + k) gs (by lia) hgs.grps) fun t ht1 ht2 ht3=>?_
  have hlt:=Zba hgs ht2
  have hf:=Z2W (t:=t) (by lia) hlt
  have hx:∃ x:Pt,(Fine x∧ht x ≤ 14)∧x.leaves.length = t.length∧Z0n [V.tup [.str (Str.ofString "many").cps.toList,enc (Z2V t)],V.tup [.str (Str.ofString "maybe").cps.toList,enc (Z2V t)]] (if (Int.fmod (is.getD 23 0) 3 == 0) then 1 else 0:Int) = some (enc x):=by
   cases hc:(Int.fmod (is.getD 23 0) 3 == 0)
   ·exact ⟨.many (Z2V t),⟨by rw [Fine]; exact hf.1,by rw [ht]; lia⟩,by rw [Z4l,Z13],by simp only [Bool.false_eq_true,if_false,Z5I]; rfl⟩
   ·exact ⟨.maybe (Z2V t),⟨by rw [Fine]; exact hf.1,by rw [ht]; lia⟩,by rw [Z2q,Z13],by simp only [if_true,Z4k]; rfl⟩
  refine El.x1_3 hx fun x hx1 hx2 hx3=>?_
  refine El.y5_2 (.kept [x] 1) x5 (some (.str t)) (some (enc (Z2V t))) none ⟨by simp [LoopEnd.ps],by rw [LoopEnd.ps,Z0b,hx2]; lia,fun p hp=>by rw [LoopEnd.ps] at hp; rw [List.mem_singleton.mp hp]; exact hx1⟩ (fun S x4 hS=>?_)
  have hcl:=Z3e hS [] 0
  have hcl1:=Z3e hS [] 1
  have k2:F "_law_cell_at" [scV is,.int 2] (HS S [] 0) = _:=hcell 2 _ (by lia) hcl
  have k21:F "_law_cell_at" [scV is,.int 21] (HS S [] 0) = _:=hcell 21 _ (by lia) hcl
  have k22:F "_law_cell_at" [scV is,.int 22] (HS S [] 0) = _:=hcell 22 _ (by lia) hcl
  have k23:F "_law_cell_at" [scV is,.int 23] (HS S [] 1) = _:=hcell 23 _ (by lia) hcl1
  have t1:=ht3 _ hcl
  have cc:=Z4n F 11 6 [some (scV is),some lv,some (sV gs),x3,x4,x5,some (.str t),some (.ref S.length),none,none,none,none] (by simp) t (by lia) rfl (HS S [] 0)
  simp only [List.set_cons_succ,List.set_cons_zero] at cc
  rw [Z7H] at cc
  have r0:=Z0I _ _ _ (Z0F S [] 1)
  rw [← hk'] at t1
  exact at1 fun T=>T k2 rfl rfl hb k21 k22 rfl t1 rfl cc (Z2t t).symm r0 k23 rfl rfl hx3 (Z4U S [] 1 (by simp) rfl _)
 | false=>
  obtain ⟨⟨lh,room,y5⟩,⟨hG,hy5⟩,e⟩:=Z7J (S:=List Pt × Nat × Option V) (E:=List O × Option V) (step:=fun x st=>evSs F K Z49 (setV st 5 x)) (fun e=>Cl e.1)
   (fun s e=>(S12 (some (scV is)) (some lv) (some (sV gs)) x3 e.2 s.2.2 x6 (some (.ref e.1.length)) none (some (.int (s.2.1:Int))) none none (HS e.1 s.1 0)))
   (fun i s=>GOk 4 i s.1 s.2.1∧True) (upTo 0 (8:Nat)) 0 ([],4,x5)
   (by
    intro i x q1z hx q2z
    obtain ⟨lh,room,y5⟩:=q1z
    refine El.x0_2 q2z fun hG _=>?_
    refine El.x0_2 (Z1P hx) fun q3z hi=>?_
    obtain rfl:=q3z
    rw [Nat.zero_add] at hG ⊢
    refine El.x2_2 (hg (by lia) hG (is.getD (21 + i) 0)) fun lh' room' hG' hrun=>?_
    refine ⟨(lh',room',some (.int (i:Int))),⟨hG',trivial⟩,fun e he=>?_⟩
    have hcl:=Z3e he lh 0
    have hi21:(21:Int) + (i:Int) = ((21 + i:Nat):Int):=by lia
    have kk:=hcell (21 + i) _ (by lia) hcl
    have gr:=hrun _ _ hcl (Z0F e.1 lh 0)
    rw [Zb8] at gr
    exact atS fun t=>t kk gr rfl)
   ⟨⟨fun _ h=>(by cases h),by simp,by simp [Glu.allLeaves]⟩,trivial⟩
  rw [Z0y,Nat.zero_add] at hG
  dsimp only at hG e
  have hsum:=hG.sum
  refine El.y5_2 (.cut (lh.take 2) lh) y5 x6 none (some (.int (room:Int))) ⟨by rw [LoopEnd.ps,List.length_take]; lia,by rw [LoopEnd.ps]; have:=Z7K lh 2; lia,fun p hp=>?_⟩ (fun S x4 hS=>?_)
  ·rw [LoopEnd.ps] at hp
   have:=hG.fine p (List.mem_of_mem_take hp)
   exact ⟨this.1,by lia⟩
  ·have hcl:=Z3e hS [] 0
   have k2:F "_law_cell_at" [scV is,.int 2] (HS S [] 0) = _:=hcell 2 _ (by lia) hcl
   have e:=e (S,x4) hS
   have r8:Z0O 8 = true:=Z0q (n:=8) (by lia)
   have u8:upTo 0 8 = upTo 0 ((8:Nat):Int):=rfl
   have n4:V.int 4 = V.int ((4:Nat):Int):=rfl
   have hsl:Z0A (HS S lh 0) (.ref S.length) .none (.int 2) = some (.lst ((lh.take 2).map enc)):=by
    show (lstO (HS S lh 0)[S.length]?).bind _ = _
    rw [Z0F]
    exact (congrArg (fun l=>some (V.lst l)) (Z8E (lh.map enc) 2)).trans (by rw [← List.map_take])
   dsimp only at e
   rw [← u8,← n4] at e
   exact at1 fun t=>t k2 rfl rfl hb rfl rfl r8 e hsl rfl
noncomputable def Sms.drop:Nat→Sms→Sms
 | 0,s=>s
 | n + 1,.cons _ s=>Sms.drop n s
 | _,.nil=>.nil
noncomputable def Sms.nth:Nat→Sms→Sm
 | 0,.cons s _=>s
 | n + 1,.cons _ s=>Sms.nth n s
 | _,.nil=>.brk
theorem Z8F (a b:List Pt) (h:a.length + b.length ≤ 100):Z2Y (.lst (a.map enc)) (.lst (b.map enc)) = some (.lst ((a++b).map enc)):=by
 rw [List.map_append]; exact Z7G _ _ (by rw [List.length_map,List.length_map]; lia)
theorem Z1R (σ:List O) (held:List Pt) (k:Nat) (y:List O):(HS σ held k++y)[σ.length]? = some (.lst (held.map enc)):=by
 rw [List.getElem?_append_left (by unfold HS; simp),Z0F]
theorem Z1S (σ:List O) (held:List Pt) (k:Nat) (y:List O) (o:O):(HS σ held k++y).set σ.length o = σ++(o :: List.replicate k .dead++y):=by
 unfold HS
 rw [List.append_assoc,List.cons_append,Z7y]; rfl
theorem Zbf (F:Fn) (K:Nat) (q:LoopEnd) (hq:q.ps.length ≤ 2) (held:List Pt) (hh:held.length ≤ 6) (nd:Nat) (is:List Int) (hcell:Z5K F is) (x1 x2 x3 x5 x6 x8 x9:Option V) :
  ∃ b:Bool,∀ σ,Cl σ→Cl (q.st (HS σ held nd))→Ret (evSs F K (d_loopsB.drop 6) (S12 (some (scV is)) x1 x2 x3 (some (.ref σ.length)) x5 x6 (some (q.v (HS σ held nd))) x8 x9 none none (q.st (HS σ held nd)))) (.lst ((if b then q.ps++held else held++q.ps).map enc)) σ:=by
 refine ⟨(Int.fmod (Int.fdiv (is.getD 2 0) 12) 2 == 1),fun σ hσ hcl=>?_⟩
 have k2:F "_law_cell_at" [scV is,.int 2] (q.st (HS σ held nd)) = _:=hcell 2 _ (by lia) hcl
 cases hb:(Int.fmod (Int.fdiv (is.getD 2 0) 12) 2 == 1) with
 | true=>
  have ha:=Z8F q.ps held (by lia)
  cases q with
  | kept lh k=>exact Ret.mk (atS fun t=>t k2 rfl rfl hb (Z0F (HS σ held nd) lh k) (Z9g (HS σ held nd) lh k) (Z1R σ held nd _) (Z1S σ held nd _ _) ha rfl)
  | cut lh lo=>exact Ret.mk (atS fun t=>t k2 rfl rfl hb (Z1R σ held nd _) (Z1S σ held nd _ _) ha rfl)
 | false=>
  have ha:=Z8F held q.ps (by lia)
  cases q with
  | kept lh k=>
   have hl2:(HS σ held nd).length = σ.length + (O.dead :: List.replicate nd O.dead).length:=by unfold HS; simp
   have g7:(σ++((O.dead :: List.replicate nd O.dead)++O.lst (lh.map enc) :: List.replicate k O.dead))[(HS σ held nd).length]? = some (.lst (lh.map enc)):=by rw [hl2,Z24,ZaZ]
   have f7:(σ++((O.dead :: List.replicate nd O.dead)++O.lst (lh.map enc) :: List.replicate k O.dead)).set (HS σ held nd).length O.dead = σ++((O.dead :: List.replicate nd O.dead)++O.lst (lh.map enc) :: List.replicate k O.dead).set (O.dead :: List.replicate nd O.dead).length O.dead:=by rw [hl2,Z25]
   exact Ret.mk (atS fun t=>t k2 rfl rfl hb (Z1R σ held nd _) (Z1S σ held nd _ _) g7 f7 ha rfl)
  | cut lh lo=>exact Ret.mk (atS fun t=>t k2 rfl rfl hb (Z1R σ held nd _) (Z1S σ held nd _ _) ha rfl)
theorem LoopEnd.cl {S:List O} (h:Cl S) (q:LoopEnd):Cl (q.st S):=by
 cases q with
 | kept lh k=>exact Z3e h lh k
 | cut lh lo=>exact Z3e h lo 0
theorem Zbg (F:Fn) (K:Nat) (is:List Int) (hcell:Z5K F is) (htext:Z9e F) {L:List Nat} {z:Nat} (hL:Lets L z) (hg:Zbd F (.lst (Z06 L z)) 8) :
  ∃ ps,PsOk ps∧∀ σ,Cl σ→Z0a F K Z7o [scV is,.lst (Z06 L z)] σ = .ok (.lst (ps.map enc)) ⟨[],σ⟩:=by
 have hgs:=Zbc hL
 refine El.x1_2 (Z0d (is.getD 2 0) 6 (by lia)) fun c hc hc6=>?_
 have hc':(1:Int) + Int.fmod (is.getD 2 0) 6 = ((1 + c:Nat):Int):=by
  have:Int.fmod (is.getD 2 0) 6 = (c:Int):=hc
  rw [this]; lia
 refine El.x4_2 (Z5E (step:=fun x st=>evSs F K Z48 (setV st 5 x))
  (fun (held:List Pt) (num:Int) (nd:Nat) u σ=>(S12 (some (scV is)) (some (.lst (Z06 L z))) (some (sV ((Z6v L z).map fun c=>[c]))) (some (.int num)) (some (.ref σ.length)) (u 0) (u 1) none none none none none (HS σ held nd)))
  (fun i held _=>held.length = i∧(∀ p ∈ held,Fine p∧ht p ≤ 1)∧(Glu.allLeaves held).length ≤ i * 6) (upTo 0 (1 + c:Nat)) [] (Int.fmod (is.getD 3 0) 2147483647) 0 (fun _=>none)
  (by
   intro i x held num nd u hx q1z
   refine El.x0_3 q1z fun h1 h2 h3=>?_
   refine El.x0_2 (Z1P hx) fun q2z hi=>?_
   obtain rfl:=q2z
   refine El.x3_2 (Z9h F K htext hgs (some (scV is)) (some (.lst (Z06 L z))) i held num nd (u 0) (u 1) h1 (by lia) h2 h3) fun held' num' y6 hinv hrun=>?_
   exact ⟨held',num',nd + 1,gl [some (.int (i:Int)),y6],hinv,hrun⟩)
  ⟨rfl,fun _ h=>(by cases h),by simp [Glu.allLeaves]⟩) fun held num nd u q9z e=>?_
 refine El.x0_3 q9z fun h1 h2 h3=>?_
 rw [Z0y] at h1 h3
 refine El.x5_2 (Zbe F K is hcell htext hgs (.lst (Z06 L z)) hg (some (.int num)) (u 0) (u 1)) fun q y5 y6 y8 y9 q3z hq=>?_
 refine El.x0_3 q3z fun q1 q2 q3=>?_
 refine El.x1_1 (Zbf F K q q1 held (by lia) nd is hcell (some (.lst (Z06 L z))) (some (sV ((Z6v L z).map fun c=>[c]))) (some (.int num)) y5 y6 y8 y9) fun b hend=>?_
 have hsum:(Glu.allLeaves (if b then q.ps++held else held++q.ps)).length = (Glu.allLeaves q.ps).length + (Glu.allLeaves held).length:=by cases b <;> simp only [Bool.false_eq_true,if_false,if_true,Z0i] <;> lia
 have hlen:(if b then q.ps++held else held++q.ps).length = q.ps.length + held.length:=by cases b <;> simp only [Bool.false_eq_true,if_false,if_true,List.length_append] <;> lia
 refine ⟨if b then q.ps++held else held++q.ps,⟨fun h0=>?_,by lia,by lia,fun p hp=>?_⟩,fun σ hσ=>?_⟩
 ·rw [h0] at hlen; simp at hlen; lia
 ·have:p ∈ q.ps ∨ p ∈ held:=by cases b <;> simp only [Bool.false_eq_true,if_false,if_true,List.mem_append] at hp <;> first | exact hp | exact hp.symm
  rcases this with hp | hp
  ·exact q3 p hp
  ·exact ⟨(h2 p hp).1,by have:=(h2 p hp).2; lia⟩
 ·refine Z2c rfl ?_ (by rw [Z0w]; exact V.los_mono (Nat.zero_le _) _ (Z26 _)) hσ
  show Ret (evSs F K d_loopsB (S12 (some (scV is)) (some (.lst (Z06 L z))) none none none none none none none none none none σ)) _ _
  have he:=hend σ hσ (q.cl (Z3e hσ held nd))
  refine El.x2_1 he fun ρ' τ' he=>?_
  refine Ret.mk (ρ:=ρ') (τ:=τ') (Eq.trans ?_ he)
  have k2:F "_law_cell_at" [scV is,.int 2] (σ++[.lst []]) = _:=hcell 2 _ (by lia) (hσ.snoc Z0f)
  have k3:F "_law_cell_at" [scV is,.int 3] σ = _:=hcell 3 σ (by lia) hσ
  exact Eq.trans (atP 5 fun t=>t rfl (Zfe σ) (Zff hL _) rfl (Zfg _ σ) rfl k3 rfl rfl rfl rfl rfl k2 rfl hc' (Z0q (show 1 + c < 2 ^ 31 by lia)) (e σ hσ) rfl rfl rfl) (Zf5 (hq (HS σ held nd) (some (.ref σ.length)) (Z3e hσ held nd)))
noncomputable def lp (s1 s2:List Nat):List Pt:=[.row (ofL []),.one s1,.many (.one s1),.maybe (.one s1),.row (ofL [.one s1,.one s2]),.or (ofL [.one s1,.one s2]),.maybe (.row (ofL [.one s1,.many (.one s2)])),.or (ofL [.row (ofL [.one s1,.one s2]),.one s1])]
noncomputable def lz:List Nat:=[0,1,1,1,2,2,2,3]
theorem Z0E {d e:Nat} {p:Pt} (h:Fine p∧ht p ≤ d) (he:d ≤ e):Fine p∧ht p ≤ e:=⟨h.1,Nat.le_trans h.2 he⟩
theorem Zfh {s1 s2:List Nat} (h1:LeafOk s1) (h2:LeafOk s2) (q:Nat) (hq:q < 8):∃ p z,(lp s1 s2)[q]? = some p∧lz[q]? = some z∧(Fine p∧ht p ≤ 3)∧p.leaves.length = z:=by
 have f1:=Z2r h1 0
 have f2:=Z2r h2 0
 have f12:∀ p ∈ [Glu.Pat.one s1,(Glu.Pat.one s2:Pt)],Fine p∧ht p ≤ 0:=fun p hp=>by
  simp only [List.mem_cons,List.not_mem_nil,or_false] at hp
  rcases hp with rfl | rfl
  ·exact f1
  ·exact f2
 have l12:(Glu.allLeaves [Glu.Pat.one s1,(Glu.Pat.one s2:Pt)]).length = 2:=by simp [Glu.allLeaves,Z1X]
 have h0123:q = 0 ∨ q = 1 ∨ q = 2 ∨ q = 3 ∨ q = 4 ∨ q = 5 ∨ q = 6 ∨ q = 7:=by lia
 rcases h0123 with rfl | rfl | rfl | rfl | rfl | rfl | rfl | rfl
 ·exact ⟨_,_,rfl,rfl,Z0E (Z0N (d:=0) (ps:=[]) (fun _ h=>by cases h) (by simp)) (by lia),by rw [Z2p]; rfl⟩
 ·exact ⟨_,_,rfl,rfl,Z0E f1 (by lia),by rw [Z1X]; rfl⟩
 ·exact ⟨_,_,rfl,rfl,Z0E (Z2s f1) (by lia),by rw [Z4l,Z1X]; rfl⟩
 ·exact ⟨_,_,rfl,rfl,Z0E (Z1Q f1) (by lia),by rw [Z2q,Z1X]; rfl⟩
 ·exact ⟨_,_,rfl,rfl,Z0E (Z0N f12 (by simp)) (by lia),by rw [Z2p]; exact l12⟩
 ·exact ⟨_,_,rfl,rfl,Z0E (Z4i f12 (by simp) (by simp)) (by lia),by rw [Zb4]; exact l12⟩
 ·refine ⟨_,_,rfl,rfl,Z0E (Z1Q (Z0N (d:=1) (fun p hp=>?_) (by simp))) (by lia),?_⟩
  ·simp only [List.mem_cons,List.not_mem_nil,or_false] at hp
   rcases hp with rfl | rfl
   ·exact Z0E f1 (by lia)
   ·exact Z2s f2
  ·rw [Z2q,Z2p]; simp [Glu.allLeaves,Z1X,Z4l]
 ·refine ⟨_,_,rfl,rfl,Z0E (Z4i (d:=1) (fun p hp=>?_) (by simp) (by simp)) (by lia),?_⟩
  ·simp only [List.mem_cons,List.not_mem_nil,or_false] at hp
   rcases hp with rfl | rfl
   ·exact Z0N f12 (by simp)
   ·exact Z0E f1 (by lia)
  ·rw [Zb4]; simp [Glu.allLeaves,Z1X,Z2p]
theorem Zbh {s1 s2:List Nat} (h1:LeafOk s1) (h2:LeafOk s2) (q room:Nat) (hq:q < 8):∃ (z:Nat) (p:Pt) (q' z':Nat),Z0n [V.int 0,V.int 1,V.int 1,V.int 1,V.int 2,V.int 2,V.int 2,V.int 3] (q:Int) = some (.int (z:Int)) ∧
  Z0n [V.int 0,V.int (q:Int)] (if decide ((z:Int) ≤ (room:Int)) then 1 else 0:Int) = some (.int (q':Int))∧Z0n ((lp s1 s2).map enc) (q':Int) = some (enc p)∧Z0n [V.int 0,V.int (z:Int)] (if decide ((z:Int) ≤ (room:Int)) then 1 else 0:Int) = some (.int (z':Int))∧(Fine p∧ht p ≤ 3)∧p.leaves.length = z'∧z' ≤ room:=by
 refine El.x2_4 (Zfh h1 h2 q hq) fun p z e1 e2 e3 e4=>?_
 refine El.x2_4 (Zfh h1 h2 0 (by lia)) fun p0 z0 g1 g2 g3 g4=>?_
 have hz0:z0 = 0:=by cases g2; rfl
 have hzz:Z0n [V.int 0,V.int 1,V.int 1,V.int 1,V.int 2,V.int 2,V.int 2,V.int 3] (q:Int) = some (.int (z:Int)):=by
  have hl:[V.int 0,V.int 1,V.int 1,V.int 1,V.int 2,V.int 2,V.int 2,V.int 3] = lz.map fun n:Nat=>V.int (n:Int):=rfl
  rw [hl,Z0T _ (by lia),List.getElem?_map,e2]; rfl
 by_cases h:(z:Int) ≤ (room:Int)
 ·refine ⟨z,p,q,z,hzz,by rw [decide_eq_true h]; rfl,by rw [Z0T _ (by lia),List.getElem?_map,e1]; rfl,by rw [decide_eq_true h]; rfl,e3,e4,by lia⟩
 ·refine ⟨z,p0,0,0,hzz,by rw [decide_eq_false h]; rfl,by rw [Z0T _ (by lia),List.getElem?_map,g1]; rfl,by rw [decide_eq_false h]; rfl,g3,by rw [g4,hz0],Nat.zero_le _⟩
theorem Zfi (s1 s2:List Nat):([V.tup [.str (Str.ofString "row").cps.toList,.lst []],.tup [.str (Str.ofString "one").cps.toList,.str s1],.tup [.str (Str.ofString "many").cps.toList,.tup [.str (Str.ofString "one").cps.toList,.str s1]],.tup [.str (Str.ofString "maybe").cps.toList,.tup [.str (Str.ofString "one").cps.toList,.str s1]],.tup [.str (Str.ofString "row").cps.toList,.lst [.tup [.str (Str.ofString "one").cps.toList,.str s1],.tup [.str (Str.ofString "one").cps.toList,.str s2]]],.tup [.str (Str.ofString "or").cps.toList,.lst [.tup [.str (Str.ofString "one").cps.toList,.str s1],.tup [.str (Str.ofString "one").cps.toList,.str s2]]]] ++
  [V.tup [.str (Str.ofString "maybe").cps.toList,.tup [.str (Str.ofString "row").cps.toList,.lst [.tup [.str (Str.ofString "one").cps.toList,.str s1],.tup [.str (Str.ofString "many").cps.toList,.tup [.str (Str.ofString "one").cps.toList,.str s2]]]]],.tup [.str (Str.ofString "or").cps.toList,.lst [.tup [.str (Str.ofString "row").cps.toList,.lst [.tup [.str (Str.ofString "one").cps.toList,.str s1],.tup [.str (Str.ofString "one").cps.toList,.str s2]]],.tup [.str (Str.ofString "one").cps.toList,.str s1]]]]) = (lp s1 s2).map enc:=by
 simp only [lp,List.map_cons,List.map_nil,Z4j,Z8D,Z5H,Z5I,Z4k,List.cons_append,List.nil_append]
noncomputable def Zev (F:Fn) (L:List Nat) (z:Nat):Prop:=∀ (m:Nat) (τ:List O),Cl τ→F "_law_some_of" [.lst (Z06 L z),.int (m:Int)] τ = .ok (.str (Z12 (word L z) m)) ⟨[],τ⟩
theorem Zbi (F:Fn) (K:Nat) (is:List Int) (hcell:Z5K F is) {L:List Nat} {z:Nat} (hL:Lets L z) (hsome:Zev F L z) (x2:Option V) (i:Nat) (hi:i ≤ 8) (Rm:Nat) (parts:List Pt) (room:Nat) (x5 x6 x7 x8 x9 x10 x11:Option V)
  (h1:parts.length = i) (h2:∀ p ∈ parts,Fine p∧ht p ≤ 3) (h3:(Glu.allLeaves parts).length + room ≤ Rm) :
  ∃ parts' room' y6 y7 y8 y9 y10 y11,(parts'.length = i + 1∧(∀ p ∈ parts',Fine p∧ht p ≤ 3)∧(Glu.allLeaves parts').length + room' ≤ Rm)∧∀ σ,Cl σ→evSs F K Z5y (setV (S14 (some (scV is)) (some (.lst (Z06 L z))) x2 (some (.int (room:Int))) (some (.ref σ.length)) x5 x6 x7 x8 x9 x10 x11 none none (HS σ parts 0)) 5 (.int (i:Int))) =
   .ok .next (S14 (some (scV is)) (some (.lst (Z06 L z))) x2 (some (.int (room':Int))) (some (.ref σ.length)) (some (.int (i:Int))) y6 y7 y8 y9 y10 y11 none none (HS σ parts' 0)):=by
 have hi3:(3:Int) + (i:Int) = ((3 + i:Nat):Int):=by lia
 refine El.x1_2 (Z0d (Int.fdiv (is.getD (3 + i) 0) 8) 15 (by lia)) fun a ha ha2=>?_
 have ha':(1:Int) + Int.fmod (Int.fdiv (is.getD (3 + i) 0) 8) 15 = ((1 + a:Nat):Int):=by
  have:Int.fmod (Int.fdiv (is.getD (3 + i) 0) 8) 15 = (a:Int):=ha
  rw [this]; lia
 refine El.x1_2 (Z0d (Int.fdiv (is.getD (3 + i) 0) 120) 15 (by lia)) fun b hb hb2=>?_
 have hb':(1:Int) + Int.fmod (Int.fdiv (is.getD (3 + i) 0) 120) 15 = ((1 + b:Nat):Int):=by
  have:Int.fmod (Int.fdiv (is.getD (3 + i) 0) 120) 15 = (b:Int):=hb
  rw [this]; lia
 refine El.x1_2 (Z0d (is.getD (3 + i) 0) 8 (by lia)) fun q hq hq2=>?_
 have hq':Int.fmod (is.getD (3 + i) 0) 8 = (q:Int):=hq
 refine El.x4_7 (Zbh (Z7B hL (m:=1 + a) (by lia) (by lia)) (Z7B hL (m:=1 + b) (by lia) (by lia)) q room hq2) fun sz p q' z' e1 e2 e3 e4 e5 e6 e7=>?_
 refine El.y8_2 (parts++[p]) (room - z') (some (.int (is.getD (3 + i) 0))) (some (.tup [.str (Str.ofString "one").cps.toList,.str (Z12 (word L z) (1 + a))])) (some (.tup [.str (Str.ofString "one").cps.toList,.str (Z12 (word L z) (1 + b))])) (some (.tup [.str (Str.ofString "row").cps.toList,.lst [.tup [.str (Str.ofString "one").cps.toList,.str (Z12 (word L z) (1 + a))],.tup [.str (Str.ofString "one").cps.toList,.str (Z12 (word L z) (1 + b))]]])) (some (.lst ((lp (Z12 (word L z) (1 + a)) (Z12 (word L z) (1 + b))).map enc))) (some (.int (sz:Int))) ⟨by simp [h1],fun x hx=>?_,?_⟩ (fun σ hσ=>?_)
 ·rcases List.mem_append.mp hx with hx | hx
  ·exact h2 x hx
  ·rw [List.mem_singleton.mp hx]; exact e5
 ·rw [Z0i,Z0b]; lia
 ·have hcl:=Z3e hσ parts 0
  have kk:=hcell (3 + i) _ (by lia) hcl
  have sa:=hsome (1 + a) _ hcl
  have sb:=hsome (1 + b) _ hcl
  have r0:=Z0I _ _ _ (Z0F σ parts 0)
  have hrm:(room:Int) - (z':Int) = ((room - z':Nat):Int):=by lia
  rw [← hi3] at kk
  rw [← ha'] at sa
  rw [← hb'] at sb
  rw [← hq'] at e1 e2
  exact atS fun t=>t kk rfl rfl rfl sa rfl rfl rfl sb rfl rfl rfl rfl (congrArg V.lst (Zfi _ _)) rfl ((Z1v _ _ _).trans e1) rfl r0 rfl rfl ((Z1v _ _ _).trans e2) ((Z1v _ _ _).trans e3) (Z4U σ parts 0 (by lia) rfl _) rfl ((Z1v _ _ _).trans e4) (congrArg V.int hrm)
theorem Z5L {L:List Nat} {z:Nat} (h:Lets L z) (k:Nat) (hk:k < 5):∃ c,Z0n (Z06 L z) (k:Int) = some (.str (word L z k))∧Z0n (word L z k) 0 = some c∧c < 127:=by
 have hl:=Z1n hk h.len
 have hz:=h.z1
 have hp:0 < (word L z k).length:=by lia
 refine ⟨(word L z k)[0],by rw [Z0T _ (by lia),Z6u hk],by rw [idx0]; exact List.getElem?_eq_getElem hp,h.lt _ (Z3m _ (List.getElem_mem hp))⟩
theorem Z6w {c:Nat} (h:c < 127) (d:Nat):Fine (.one [c])∧ht (.one [c]) ≤ d:=Z2r ⟨by simp,by simp,by simpa using h,by simp⟩ d
theorem Z9i (parts:List Pt) (h0:0 < parts.length) (h8:parts.length ≤ 64) (h2:∀ p ∈ parts,Fine p∧ht p ≤ 3) (i j:Int):∃ kd:List Nat,∃ W:Pt,Z0n [V.str (Str.ofString "row").cps.toList,V.str (Str.ofString "or").cps.toList] (Int.fmod i 2) = some (.str kd) ∧
  Z0n [V.tup [.str kd,.lst (parts.map enc)],V.tup [.str (Str.ofString "many").cps.toList,V.tup [.str kd,.lst (parts.map enc)]],V.tup [.str (Str.ofString "maybe").cps.toList,V.tup [.str kd,.lst (parts.map enc)]]] (Int.fmod j 3) = some (enc W)∧(Fine W∧ht W ≤ 5)∧W.leaves = Glu.allLeaves parts:=by
 refine El.x1_2 (Z0d i 2 (by lia)) fun a ha ha2=>?_
 refine El.x1_2 (Z0d j 3 (by lia)) fun b hb hb3=>?_
 have ha':Int.fmod i 2 = (a:Int):=ha
 have hb':Int.fmod j 3 = (b:Int):=hb
 rw [ha',hb']
 have key:∃ kd:List Nat,∃ W:Pt,Z0n [V.str (Str.ofString "row").cps.toList,V.str (Str.ofString "or").cps.toList] (a:Int) = some (.str kd)∧V.tup [.str kd,.lst (parts.map enc)] = enc W∧(Fine W∧ht W ≤ 4)∧W.leaves = Glu.allLeaves parts:=by
  have:a = 0 ∨ a = 1:=by lia
  rcases this with rfl | rfl
  ·exact ⟨_,.row (ofL parts),rfl,(Z4j _).symm,Z0N h2 h8,Z2p _⟩
  ·exact ⟨_,.or (ofL parts),rfl,(Z8D _).symm,Z4i h2 h8 h0,Zb4 _⟩
 refine El.x2_4 key fun kd W e1 e2 e3 e4=>?_
 refine ⟨kd,?_⟩
 rw [e2]
 have:b = 0 ∨ b = 1 ∨ b = 2:=by lia
 rcases this with rfl | rfl | rfl
 ·exact ⟨W,e1,rfl,Z0E e3 (by lia),e4⟩
 ·exact ⟨.many W,e1,by rw [Z5I]; rfl,Z2s e3,by rw [Z4l,e4]⟩
 ·exact ⟨.maybe W,e1,by rw [Z4k]; rfl,Z1Q e3,by rw [Z2q,e4]⟩
theorem Zcz (W S:Pt) (h g:Nat) (hh:h < 2) (hg:g < 2):∃ ps:List Pt,Z0n [V.lst [enc W],V.lst [enc W],V.lst [enc S,enc W],V.lst [enc W,enc S]] ((h:Int) * 2 + (g:Int)) = some (.lst (ps.map enc))∧(ps = [W] ∨ ps = [S,W] ∨ ps = [W,S]):=by
 have h01:h = 0 ∨ h = 1:=by lia
 have g01:g = 0 ∨ g = 1:=by lia
 rcases h01 with rfl | rfl <;> rcases g01 with rfl | rfl
 ·exact ⟨[W],rfl,.inl rfl⟩
 ·exact ⟨[W],rfl,.inl rfl⟩
 ·exact ⟨[S,W],rfl,.inr (.inl rfl)⟩
 ·exact ⟨[W,S],rfl,.inr (.inr rfl)⟩
theorem ZcA (F:Fn) (K:Nat) (is:List Int) (hcell:Z5K F is) {L:List Nat} {z:Nat} (hL:Lets L z) (hsome:Zev F L z) :
  ∃ ps,PsOk ps∧∀ σ,Cl σ→Z0a F K ZaI [scV is,.lst (Z06 L z)] σ = .ok (.lst (ps.map enc)) ⟨[],σ⟩:=by
 refine El.x1_2 (Z0d (Int.fdiv (is.getD 2 0) 36) 2 (by lia)) fun h hh hh2=>?_
 have hh':Int.fmod (Int.fdiv (is.getD 2 0) 36) 2 = (h:Int):=hh
 refine El.x1_2 (Z0d (Int.fdiv (is.getD 2 0) 72) 2 (by lia)) fun g hg hg2=>?_
 have hg':Int.fmod (Int.fdiv (is.getD 2 0) 72) 2 = (g:Int):=hg
 refine El.x1_2 (Z0d (is.getD 2 0) 6 (by lia)) fun c hc hc6=>?_
 have hc':(3:Int) + Int.fmod (is.getD 2 0) 6 = ((3 + c:Nat):Int):=by
  have:Int.fmod (is.getD 2 0) 6 = (c:Int):=hc
  rw [this]; lia
 have hrm:(6:Int) - 2 * (h:Int) = ((6 - 2 * h:Nat):Int):=by lia
 refine El.x4_2 (Z5E (step:=fun x st=>evSs F K Z5y (setV st 5 x))
  (fun (parts:List Pt) (room:Nat) (_:Unit) u σ=>(S14 (some (scV is)) (some (.lst (Z06 L z))) (some (.int (is.getD 2 0))) (some (.int (room:Int))) (some (.ref σ.length)) (u 0) (u 1) (u 2) (u 3) (u 4) (u 5) (u 6) none none (HS σ parts 0)))
  (fun i parts room=>parts.length = i∧(∀ p ∈ parts,Fine p∧ht p ≤ 3)∧(Glu.allLeaves parts).length + room ≤ 6) (upTo 0 (3 + c:Nat)) [] (6 - 2 * h) () (fun _=>none)
  (by
   intro i x parts room _ u hx q1z
   refine El.x0_3 q1z fun h1 h2 h3=>?_
   refine El.x0_2 (Z1P hx) fun q2z hi=>?_
   obtain rfl:=q2z
   refine El.x8_2 (Zbi F K is hcell hL hsome (some (.int (is.getD 2 0))) i (by lia) 6 parts room (u 0) (u 1) (u 2) (u 3) (u 4) (u 5) (u 6) h1 h2 h3) fun parts' room' y6 y7 y8 y9 y10 y11 hinv hrun=>?_
   exact ⟨parts',room',(),gl [some (.int (i:Int)),y6,y7,y8,y9,y10,y11],hinv,hrun⟩)
  ⟨rfl,fun _ h=>(by cases h),by show (Glu.allLeaves ([]:List Pt)).length + (6 - 2 * h) ≤ 6; simp [Glu.allLeaves]⟩) fun parts room _ u q9z e=>?_
 refine El.x0_3 q9z fun h1 h2 h3=>?_
 rw [Z0y] at h1
 refine El.x2_4 (Z9i parts (by lia) (by lia) h2 (Int.fdiv (is.getD 2 0) 6) (Int.fdiv (is.getD 2 0) 12)) fun kd W w1 w2 w3 w4=>?_
 refine El.x1_3 (Z5L hL 0 (by lia)) fun c0 a1 a2 a3=>?_
 refine El.x1_3 (Z5L hL 1 (by lia)) fun c1 b1 b2 b3=>?_
 have hS:Fine (.row (ofL [.one [c0],.one [c1]]))∧ht (.row (ofL [.one [c0],.one [c1]])) ≤ 1:=Z0N (d:=0) (fun p hp=>by
  simp only [List.mem_cons,List.not_mem_nil,or_false] at hp
  rcases hp with rfl | rfl
  ·exact Z6w a3 0
  ·exact Z6w b3 0) (by simp)
 have lS:(Glu.Pat.row (ofL [.one [c0],.one [c1]]):Pt).leaves.length = 2:=by rw [Z2p]; simp [Glu.allLeaves,Z1X]
 have eS:enc (.row (ofL [.one [c0],.one [c1]])) = .tup [.str (Str.ofString "row").cps.toList,.lst [.tup [.str (Str.ofString "one").cps.toList,.str [c0]],.tup [.str (Str.ofString "one").cps.toList,.str [c1]]]]:=by rw [Z4j,List.map_cons,List.map_cons,List.map_nil,Z5H,Z5H]
 have lW:W.leaves.length ≤ 6:=by rw [w4]; lia
 refine El.x1_2 (Zcz W (.row (ofL [.one [c0],.one [c1]])) h g hh2 hg2) fun ps o1 o2=>?_
 have hps:PsOk ps:=by
  have fW:Fine W∧ht W ≤ 14:=Z0E w3 (by lia)
  have fS:=Z0E hS (show 1 ≤ 14 by lia)
  rcases o2 with rfl | rfl | rfl
  ·exact ⟨by simp,by simp,by rw [Z0b]; lia,fun p hp=>by rw [List.mem_singleton.mp hp]; exact fW⟩
  ·refine ⟨by simp,by simp,?_,fun p hp=>?_⟩
   ·have:=Z0i [.row (ofL [.one [c0],.one [c1]])] [W]
    rw [Z0b,Z0b] at this
    show (Glu.allLeaves ([.row (ofL [.one [c0],.one [c1]])]++[W])).length ≤ 60
    lia
   ·simp only [List.mem_cons,List.not_mem_nil,or_false] at hp
    rcases hp with rfl | rfl
    ·exact fS
    ·exact fW
  ·refine ⟨by simp,by simp,?_,fun p hp=>?_⟩
   ·have:=Z0i [W] [.row (ofL [.one [c0],.one [c1]])]
    rw [Z0b,Z0b] at this
    show (Glu.allLeaves ([W]++[.row (ofL [.one [c0],.one [c1]])])).length ≤ 60
    lia
   ·simp only [List.mem_cons,List.not_mem_nil,or_false] at hp
    rcases hp with rfl | rfl
    ·exact fW
    ·exact fS
 refine ⟨ps,hps,fun σ hσ=>?_⟩
 have m2:Z4x (.int 2) (.int (Int.fmod (Int.fdiv (is.getD 2 0) 36) 2)) = some (.int (2 * (h:Int))):=by rw [hh']; exact Z1V 2 (h:Int) (by rw [Z0Z (i:=2) (by lia) (by lia)]; rfl)
 have m3:Z4x (.int (Int.fmod (Int.fdiv (is.getD 2 0) 36) 2)) (.int 2) = some (.int ((h:Int) * 2)):=by rw [hh']; exact Z1V (h:Int) 2 (by rw [Z0Z (i:=2) (by lia) (by lia),Bool.or_true])
 rw [eS,← hg'] at o1
 exact atF rfl hσ fun t=>t (hcell 2 σ (by lia) hσ) rfl rfl rfl m2 (congrArg V.int hrm) rfl rfl rfl rfl hc' (Z0q (show 3 + c < 2 ^ 31 by lia)) (e σ hσ) rfl rfl w1 (Z0F σ parts 0) (Z9g σ parts 0) rfl rfl rfl w2 rfl a1 (Zch a2) b1 (Zch b2) rfl rfl rfl m3 rfl rfl o1 rfl rfl (V.los_mono (Nat.zero_le _) _ (Z26 _))
theorem Z6x (F:Fn) (K:Nat) (is:List Int) (hcell:Z5K F is) {L:List Nat} {z:Nat} (hL:Lets L z) (hg:Zbd F (.lst (Z06 L z)) 12)
  (hw:∃ ps,PsOk ps∧∀ σ,Cl σ→F "_law_words" [scV is] σ = .ok (.lst (ps.map enc)) ⟨[],σ⟩) (hlo:∃ ps,PsOk ps∧∀ σ,Cl σ→F "_law_loops" [scV is,.lst (Z06 L z)] σ = .ok (.lst (ps.map enc)) ⟨[],σ⟩) (hln:∃ ps,PsOk ps∧∀ σ,Cl σ→F "_law_long" [scV is,.lst (Z06 L z)] σ = .ok (.lst (ps.map enc)) ⟨[],σ⟩) :
  ∃ ps,PsOk ps∧∀ σ,Cl σ→Z0a F K Z2R [scV is,.lst (Z06 L z)] σ = .ok (.lst (ps.map enc)) ⟨[],σ⟩:=by
 have k1:∀ σ,Cl σ→F "_law_cell_at" [scV is,.int 1] σ = .ok (.int (is.getD 1 0)) ⟨[],σ⟩:=fun σ hσ=>hcell 1 σ (by lia) hσ
 have lo:∀ (ps:List Pt) (σ:List O),V.lo σ.length (.lst (ps.map enc)) = true:=fun ps σ=>V.los_mono (Nat.zero_le _) _ (Z26 _)
 cases b1:(Int.fmod (is.getD 1 0) 4 == 1) with
 | true=>exact El.x1_2 hw fun ps h1 h2=>⟨ps,h1,fun σ hσ=>atF rfl hσ fun t=>t (k1 σ hσ) rfl b1 (h2 σ hσ) rfl app0 (lo _ _)⟩
 | false=>
  cases b3:(Int.fmod (is.getD 1 0) 4 == 3) with
  | true=>exact El.x1_2 hlo fun ps h1 h2=>⟨ps,h1,fun σ hσ=>atF rfl hσ fun t=>t (k1 σ hσ) rfl b1 (k1 σ hσ) rfl b3 (h2 σ hσ) rfl app0 (lo _ _)⟩
  | false=>
   cases b4:(Int.fmod (is.getD 1 0) 8 == 4) with
   | true=>exact El.x1_2 hln fun ps h1 h2=>⟨ps,h1,fun σ hσ=>atF rfl hσ fun t=>t (k1 σ hσ) rfl b1 (k1 σ hσ) rfl b3 (k1 σ hσ) rfl b4 (h2 σ hσ) rfl app0 (lo _ _)⟩
   | false=>
    obtain ⟨⟨held,room,y4⟩,⟨hG,_⟩,e⟩:=Z7J (S:=List Pt × Nat × Option V) (E:=List O) (step:=fun x st=>evSs F K Z3a (setV st 4 x)) (fun e=>Cl e)
     (fun s e=>(S5 (some (scV is)) (some (.lst (Z06 L z))) (some (.ref e.length)) (some (.int (s.2.1:Int))) s.2.2 (HS e s.1 0)))
     (fun i s=>GOk 6 i s.1 s.2.1∧True) (upTo 0 (12:Nat)) 0 ([],6,none)
     (by
      intro i x q3z hx q4z
      obtain ⟨lh,room,y5⟩:=q3z
      refine El.x0_2 q4z fun hG _=>?_
      refine El.x0_2 (Z1P hx) fun q5z hi=>?_
      obtain rfl:=q5z
      rw [Nat.zero_add] at hG ⊢
      refine El.x2_2 (hg (by lia) hG (is.getD (2 + i) 0)) fun lh' room' hG' hrun=>?_
      refine ⟨(lh',room',some (.int (i:Int))),⟨hG',trivial⟩,fun e he=>?_⟩
      have hcl:=Z3e he lh 0
      have hi21:(2:Int) + (i:Int) = ((2 + i:Nat):Int):=by lia
      have kk:=hcell (2 + i) _ (by lia) hcl
      have gr:=hrun _ _ hcl (Z0F e lh 0)
      rw [Zb8] at gr
      exact atS fun t=>t kk gr rfl)
     ⟨⟨fun _ h=>(by cases h),by simp,by simp [Glu.allLeaves]⟩,trivial⟩
    rw [Z0y,Nat.zero_add] at hG
    dsimp only at hG e
    have hsum:=hG.sum
    have r12:Z0O 12 = true:=Z0q (n:=12) (by lia)
    by_cases h0:held = []
    ·subst h0
     refine El.x1_3 (Z5L hL 0 (by lia)) fun c0 a1 a2 a3=>?_
     have hlf:LeafOk (word L z 0):=⟨fun q=>by rw [q] at a2; simp [Z0n] at a2,Zb1 hL.nd,List.all_eq_true.mpr fun c hc=>decide_eq_true (hL.lt c (Z3m c hc)),by rw [Z1n (by lia) hL.len]; have:=hL.z19; lia⟩
     refine ⟨[.one (word L z 0)],⟨by simp,by simp,by rw [Z0b,Z1X]; simp,fun p hp=>by rw [List.mem_singleton.mp hp]; exact Z2r hlf 14⟩,fun σ hσ=>atF rfl hσ fun t=>t (k1 σ hσ) rfl b1 (k1 σ hσ) rfl b3 (k1 σ hσ) rfl b4 rfl rfl rfl rfl rfl r12 (e σ hσ) (Zb5 (Z0F σ [] 0)) rfl (Z0I _ _ _ (Z0F σ [] 0)) a1 (Z4U σ [] 0 (by simp) (q:=.one (word L z 0)) rfl _) (Z0F σ [.one (word L z 0)] 0) (Z9g σ _ 0) rfl rfl (lo _ _)⟩
    ·refine ⟨held,⟨h0,hG.few,by lia,fun p hp=>Z0E (hG.fine p hp) (by lia)⟩,fun σ hσ=>?_⟩
     have e0:(held.map enc).isEmpty = false:=by cases held with | nil=>exact absurd rfl h0 | cons a b=>rfl
     exact atF rfl hσ fun t=>t (k1 σ hσ) rfl b1 (k1 σ hσ) rfl b3 (k1 σ hσ) rfl b4 rfl rfl rfl rfl rfl r12 (e σ hσ) (Zb5 (Z0F σ held 0)) (nn e0) (Z0F σ held 0) (Z9g σ held 0) rfl rfl (lo _ _)
noncomputable def tsV (l:List (List Nat)):V:=.lst (l.map .str)
theorem Zbj (n:Nat) (l:List (List Nat)):(tsV l).lo n = true:=by
 unfold tsV; rw [Z0w]; exact Z1W fun x hx=>by obtain ⟨y,_,rfl⟩:=List.mem_map.mp hx; exact Z09 _
noncomputable def Z14 (F:Fn) (p:Pt):Prop:=∀ σ,Cl σ→F "_law_leaves" [enc p] σ = .ok (tsV p.leaves) ⟨[],σ⟩
theorem Zd7 (a b:List (List Nat)) (h:a.length + b.length ≤ 1000):Z2Y (tsV a) (tsV b) = some (tsV (a++b)) :=
 (Z7G _ _ (by rw [List.length_map,List.length_map]; exact h)).trans (by unfold tsV; rw [List.map_append])
theorem Z7L (F:Fn) (K:Nat) (x0 x1:Option V):∀ (ps:Pts) (acc:List (List Nat)) (x3:Option V),PAll (Z14 F) ps→acc.length + ps.leaves.length ≤ 1000→∀ σ,Cl σ →
  ∃ y3,forR (fun x st=>evSs F K Z1c (setV st 3 x)) (encs ps) ⟨[x0,x1,some (tsV acc),x3],σ⟩ = .ok .next ⟨[x0,x1,some (tsV (acc++ps.leaves)),y3],σ⟩
 | .nil,acc,x3,_,_,σ,_=>⟨x3,by rw [encs,Z0r,Glu.ls0,List.append_nil]⟩
 | .cons p ps,acc,x3,hp,hl,σ,hσ=>by
  rw [PAll] at hp
  rw [Glu.ls1,List.length_append] at hl
  obtain ⟨y3,e⟩:=Z7L F K x0 x1 ps (acc++p.leaves) (some (enc p)) hp.2 (by rw [List.length_append]; omega) σ hσ
  have hb:evSs F K Z1c (setV ⟨[x0,x1,some (tsV acc),x3],σ⟩ 3 (enc p)) = .ok .next ⟨[x0,x1,some (tsV (acc++p.leaves)),some (enc p)],σ⟩:=atS fun t=>t (hp.1 σ hσ) (Zd7 _ _ (by omega)) rfl
  refine ⟨y3,?_⟩
  rw [encs,Z0l,hb,R.bind_ok,Glu.ls1,← List.append_assoc]; exact e
theorem Zew (F:Fn) (K:Nat) (s:List Nat) {σ:List O} (hσ:Cl σ):Z0a F K Z1m [enc (.one s)] σ = .ok (tsV [s]) ⟨[],σ⟩:=by
 rw [enc]
 exact atF rfl hσ fun t=>t rfl Z6j rfl rfl app0 (Zbj _ [s])
theorem Zex (F:Fn) (K:Nat) (ps:Pts) {σ:List O} (hσ:Cl σ) (hp:PAll (Z14 F) ps) (hl:ps.leaves.length ≤ 1000):Z0a F K Z1m [enc (.row ps)] σ = .ok (tsV ps.leaves) ⟨[],σ⟩:=by
 obtain ⟨y,e⟩:=Z7L F K (some (enc (.row ps))) (some (.lst (encs ps))) ps [] none hp (by rw [List.length_nil,Nat.zero_add]; exact hl) σ hσ
 rw [enc] at e ⊢
 exact atF rfl hσ fun t=>t rfl Z6k rfl rfl rfl Z96 rfl Z7u rfl rfl e rfl app0 (Zbj _ _)
theorem Zfj (F:Fn) (K:Nat) (ps:Pts) {σ:List O} (hσ:Cl σ) (hp:PAll (Z14 F) ps) (hl:ps.leaves.length ≤ 1000):Z0a F K Z1m [enc (.or ps)] σ = .ok (tsV ps.leaves) ⟨[],σ⟩:=by
 obtain ⟨y,e⟩:=Z7L F K (some (enc (.or ps))) (some (.lst (encs ps))) ps [] none hp (by rw [List.length_nil,Nat.zero_add]; exact hl) σ hσ
 rw [enc] at e ⊢
 exact atF rfl hσ fun t=>t rfl Z8v rfl rfl rfl ZaL rfl Z97 rfl rfl e rfl app0 (Zbj _ _)
theorem Z6y (F:Fn) (K:Nat) (x0 x1:Option V) {p:Pt} (hp:Z14 F p) (hl:p.leaves.length ≤ 1000) {σ:List O} (hσ:Cl σ) :
  forR (fun x st=>evSs F K Z1c (setV st 3 x)) [enc p] ⟨[x0,x1,some (tsV []),none],σ⟩ = .ok .next ⟨[x0,x1,some (tsV p.leaves),some (enc p)],σ⟩:=by
 have hb:evSs F K Z1c (setV ⟨[x0,x1,some (tsV []),none],σ⟩ 3 (enc p)) = .ok .next ⟨[x0,x1,some (tsV p.leaves),some (enc p)],σ⟩:=atS fun t=>t (hp σ hσ) (Zd7 [] _ (by rw [List.length_nil,Nat.zero_add]; exact hl)) rfl
 rw [Z0l,hb,R.bind_ok]
 exact Z0r ..
theorem ZcB (F:Fn) (K:Nat) (p:Pt) {σ:List O} (hσ:Cl σ) (hp:Z14 F p) (hl:p.leaves.length ≤ 1000):Z0a F K Z1m [enc (.many p)] σ = .ok (tsV p.leaves) ⟨[],σ⟩:=by
 have e:=Z6y F K (some (enc (.many p))) (some (.lst [enc p])) hp hl hσ
 rw [enc] at e ⊢
 exact atF rfl hσ fun t=>t rfl Z4S rfl rfl rfl Z4b rfl rfl rfl rfl rfl e rfl app0 (Zbj _ _)
theorem Zbk (F:Fn) (K:Nat) (p:Pt) {σ:List O} (hσ:Cl σ) (hp:Z14 F p) (hl:p.leaves.length ≤ 1000):Z0a F K Z1m [enc (.maybe p)] σ = .ok (tsV p.leaves) ⟨[],σ⟩:=by
 have e:=Z6y F K (some (enc (.maybe p))) (some (.lst [enc p])) hp hl hσ
 rw [enc] at e ⊢
 exact atF rfl hσ fun t=>t rfl Z4c rfl rfl rfl Z3b rfl Z5z rfl rfl rfl rfl e rfl app0 (Zbj _ _)
theorem Z2u:defs.find? (fun d=>d.name == Str.ofString "_law_leaves") = some Z1m:=by kernel_rfl
theorem Z9j:defs.find? (fun d=>d.name == Str.ofString "signs_in") = some Z4M:=by kernel_rfl
theorem Z9k:defs.find? (fun d=>d.name == Str.ofString "signs_of") = some Z4N:=by kernel_rfl
section
variable (C K:Nat) {H:Option (List Int) × Str→Int}
mutual
theorem Z1T:∀ (p:Pt),p.leaves.length ≤ 60→∀ n,ht p + 1 ≤ n→Z14 (Z0c (C,H) defs K n) p
 | .one s,_,n,hn=>fun σ hσ=>by
  obtain ⟨m,rfl⟩:∃ m,n = m + 1:=⟨n - 1,by omega⟩
  rw [Z07 (by decide) Z2u]; exact Zew _ K s hσ
 | .row ps,hl,n,hn=>fun σ hσ=>by
  rw [ht] at hn
  obtain ⟨m,rfl⟩:∃ m,n = m + 1:=⟨n - 1,by omega⟩
  rw [Z07 (by decide) Z2u]; exact Zex _ K ps hσ (Z27 ps hl m (by omega)) (Nat.le_trans hl (by decide))
 | .or ps,hl,n,hn=>fun σ hσ=>by
  rw [ht] at hn
  obtain ⟨m,rfl⟩:∃ m,n = m + 1:=⟨n - 1,by omega⟩
  rw [Z07 (by decide) Z2u]; exact Zfj _ K ps hσ (Z27 ps hl m (by omega)) (Nat.le_trans hl (by decide))
 | .many p,hl,n,hn=>fun σ hσ=>by
  rw [ht] at hn
  obtain ⟨m,rfl⟩:∃ m,n = m + 1:=⟨n - 1,by omega⟩
  rw [Z07 (by decide) Z2u]; exact ZcB _ K p hσ (Z1T p hl m (by omega)) (Nat.le_trans hl (by decide))
 | .maybe p,hl,n,hn=>fun σ hσ=>by
  rw [ht] at hn
  obtain ⟨m,rfl⟩:∃ m,n = m + 1:=⟨n - 1,by omega⟩
  rw [Z07 (by decide) Z2u]; exact Zbk _ K p hσ (Z1T p hl m (by omega)) (Nat.le_trans hl (by decide))
theorem Z27:∀ (ps:Pts),ps.leaves.length ≤ 60→∀ n,hts ps + 1 ≤ n→PAll (Z14 (Z0c (C,H) defs K n)) ps
 | .nil,_,n,_=>by rw [PAll]; trivial
 | .cons p ps,hl,n,hn=>by
  rw [hts] at hn
  rw [Glu.ls1,List.length_append] at hl
  rw [PAll]
  exact ⟨Z1T p (by omega) n (by omega),Z27 ps (by omega) n (by omega)⟩
end
end
noncomputable def addC (d:List Nat) (c:Nat):List Nat:=if d.contains c then d else d++[c]
theorem Zey (d:List Nat) (c:Nat):((d.map fun c=>[c]).any (· == [c])) = d.contains c:=by
 rw [Bool.eq_iff_iff]
 simp only [List.any_map,List.any_eq_true,List.contains_iff_mem,Function.comp_def,beq_iff_eq,List.cons.injEq,and_true,exists_eq_right]
theorem Zfk {d:List Nat} {c:Nat} (h:d.Nodup):(addC d c).Nodup:=by
 unfold addC
 split
 ·exact h
 ·rename_i q
  exact List.nodup_append.mpr ⟨h,List.nodup_cons.mpr ⟨List.not_mem_nil,List.nodup_nil⟩,fun a ha b hb e=>q (List.contains_iff_mem.mpr (List.mem_singleton.mp hb ▸ e ▸ ha))⟩
theorem Zez {d:List Nat} {c x:Nat}:x ∈ addC d c↔x ∈ d ∨ x = c:=by
 unfold addC
 split
 ·rename_i q
  exact ⟨.inl,fun h=>h.elim id fun e=>e ▸ List.contains_iff_mem.mp q⟩
 ·rw [List.mem_append,List.mem_singleton]
theorem Z7M (d:List Nat) (c:Nat):(addC d c).length ≤ d.length + 1:=by
 unfold addC
 split
 ·exact Nat.le_succ _
 ·rw [List.length_append]; exact Nat.le_refl _
theorem Z7N:∀ (s d:List Nat),d.Nodup→(s.foldl addC d).Nodup
 | [],_,h=>h
 | c :: s,d,h=>Z7N s _ (Zfk h)
theorem Z8G:∀ (s d:List Nat) (x:Nat),x ∈ s.foldl addC d↔x ∈ d ∨ x ∈ s
 | [],d,x=>by rw [List.foldl_nil]; exact ⟨.inl,fun h=>h.elim id fun q=>by cases q⟩
 | c :: s,d,x=>by rw [List.foldl_cons,Z8G s,Zez,List.mem_cons,or_assoc]
theorem ZcC (F:Fn) (K:Nat) (x0 x1 x2 x4 x5 x6 x7:Option V) (d:List Nat) (c:Nat) (hl:d.length < 100000) :
  evSs F K Z7q (setV ⟨[x0,x1,x2,some (.ref 0),x4,x5,x6,x7],[.lst (Z0o d)]⟩ 6 (.str [c])) = .ok .next ⟨[x0,x1,x2,some (.ref 0),x4,x5,some (.str [c]),x7],[.lst (Z0o (addC d c))]⟩:=by
 have hi:inD [.lst (Z0o d)] (.str [c]) (.ref 0) = some (d.contains c):=(Zfm (xs:=Z0o d) rfl (Z2o d)).trans (by rw [Zey])
 have ha:=Z1t [x0,x1,x2,some (.ref 0),x4,x5,some (.str [c]),x7] [.lst (Z0o d)] 0 (Z0o d) (.str [c]) rfl (by unfold Z0o sizeLine; rw [List.length_map]; omega)
 unfold addC
 cases hc:d.contains c with
 | true=>rw [hc] at hi; exact atS fun t=>t hi rfl
 | false=>
  rw [hc] at hi
  have e:Z0o d++[.str [c]] = Z0o (d++[c]):=by unfold Z0o; rw [List.map_append]; rfl
  rw [e] at ha
  exact atS fun t=>t hi rfl rfl ha
theorem Zd8 (F:Fn) (K:Nat) (x0 x1 x2 x4 x5 x7:Option V):∀ (s d:List Nat) (x6:Option V),d.length + s.length ≤ 100000 →
  ∃ y6,forR (fun x st=>evSs F K Z7q (setV st 6 x)) (s.map fun c=>.str [c]) ⟨[x0,x1,x2,some (.ref 0),x4,x5,x6,x7],[.lst (Z0o d)]⟩ = .ok .next ⟨[x0,x1,x2,some (.ref 0),x4,x5,y6,x7],[.lst (Z0o (s.foldl addC d))]⟩
 | [],d,x6,_=>⟨x6,by rw [List.map_nil,Z0r]; rfl⟩
 | c :: s,d,x6,hl=>by
  rw [List.length_cons] at hl
  obtain ⟨y,e⟩:=Zd8 F K x0 x1 x2 x4 x5 x7 s (addC d c) (some (.str [c])) (by have:=Z7M d c; omega)
  refine ⟨y,?_⟩
  rw [List.map_cons,Z0l,ZcC F K x0 x1 x2 x4 x5 x6 x7 d c (by omega),R.bind_ok]; exact e
theorem Zbl (F:Fn) (K:Nat) (x0 x1 x2 x4 x7:Option V):∀ (ss:List (List Nat)) (d:List Nat) (x5 x6:Option V),d.length + ss.flatten.length ≤ 100000 →
  ∃ y5 y6,forR (fun x st=>evSs F K Z7r (setV st 5 x)) (ss.map .str) ⟨[x0,x1,x2,some (.ref 0),x4,x5,x6,x7],[.lst (Z0o d)]⟩ = .ok .next ⟨[x0,x1,x2,some (.ref 0),x4,y5,y6,x7],[.lst (Z0o (ss.flatten.foldl addC d))]⟩
 | [],d,x5,x6,_=>⟨x5,x6,by rw [List.map_nil,Z0r]; rfl⟩
 | s :: ss,d,x5,x6,hl=>by
  rw [List.flatten_cons,List.length_append] at hl
  have hfl:(s.foldl addC d).length ≤ d.length + s.length:=by
   clear hl
   induction s generalizing d with
   | nil=>exact Nat.le_refl _
   | cons c s ih=>rw [List.foldl_cons,List.length_cons]; have:=ih (addC d c); have:=Z7M d c; omega
  obtain ⟨y6,e1⟩:=Zd8 F K x0 x1 x2 x4 (some (.str s)) x7 s d x6 (by omega)
  obtain ⟨y5,y6',e⟩:=Zbl F K x0 x1 x2 x4 x7 ss (s.foldl addC d) (some (.str s)) y6 (by omega)
  refine ⟨y5,y6',?_⟩
  have hb:evSs F K Z7r (setV ⟨[x0,x1,x2,some (.ref 0),x4,x5,x6,x7],[.lst (Z0o d)]⟩ 5 (.str s)) = .ok .next ⟨[x0,x1,x2,some (.ref 0),x4,some (.str s),y6,x7],[.lst (Z0o (s.foldl addC d))]⟩:=atS fun t=>t rfl e1
  rw [List.map_cons,Z0l,hb,R.bind_ok,List.flatten_cons,List.foldl_append]; exact e
theorem Zbm (d:List Nat):Cl [.lst (Z0o d)]:=by
 show ([O.lst (Z0o d)].all (O.lo 1)) = true
 rw [List.all_cons,List.all_nil,Bool.and_true]
 show V.los 1 (Z0o d) = true
 exact Z1W fun x hx=>by obtain ⟨y,_,rfl⟩:=List.mem_map.mp hx; exact Z09 _
theorem Z8H:∀ (s d:List Nat),(s.foldl addC d).length ≤ d.length + s.length
 | [],d=>Nat.le_refl _
 | c :: s,d=>by rw [List.foldl_cons,List.length_cons]; have:=Z8H s (addC d c); have:=Z7M d c; omega
theorem Zbn (F:Fn) (K:Nat) (x0 x1 x2 x7:Option V):∀ (ps:List Pt) (d:List Nat) (x4 x5 x6:Option V),(∀ p ∈ ps,Z14 F p)→d.length + (Glu.allLeaves ps).flatten.length ≤ 100000 →
  ∃ y4 y5 y6,forR (fun x st=>evSs F K Z7s (setV st 4 x)) (ps.map enc) ⟨[x0,x1,x2,some (.ref 0),x4,x5,x6,x7],[.lst (Z0o d)]⟩ = .ok .next ⟨[x0,x1,x2,some (.ref 0),y4,y5,y6,x7],[.lst (Z0o ((Glu.allLeaves ps).flatten.foldl addC d))]⟩
 | [],d,x4,x5,x6,_,_=>⟨x4,x5,x6,by rw [List.map_nil,Z0r]; rfl⟩
 | p :: ps,d,x4,x5,x6,hp,hl=>by
  have ea:Glu.allLeaves (p :: ps) = p.leaves++Glu.allLeaves ps:=by unfold Glu.allLeaves; rw [List.flatMap_cons]
  rw [ea,List.flatten_append,List.length_append] at hl
  have hfl:=Z8H p.leaves.flatten d
  obtain ⟨y5,y6,e1⟩:=Zbl F K x0 x1 x2 (some (enc p)) x7 p.leaves d x5 x6 (by omega)
  obtain ⟨z4,z5,z6,e⟩:=Zbn F K x0 x1 x2 x7 ps (p.leaves.flatten.foldl addC d) (some (enc p)) y5 y6 (fun q hq=>hp q (List.mem_cons_of_mem _ hq)) (by omega)
  refine ⟨z4,z5,z6,?_⟩
  have hb:evSs F K Z7s (setV ⟨[x0,x1,x2,some (.ref 0),x4,x5,x6,x7],[.lst (Z0o d)]⟩ 4 (enc p)) = .ok .next ⟨[x0,x1,x2,some (.ref 0),some (enc p),y5,y6,x7],[.lst (Z0o (p.leaves.flatten.foldl addC d))]⟩:=atS fun t=>t (hp p (List.mem_cons_self ..) _ (Zbm d)) rfl e1
  rw [List.map_cons,Z0l,hb,R.bind_ok,ea,List.flatten_append,List.foldl_append]; exact e
theorem Z8I:∀ ts:List (List Nat),Z1o (ts.map V.str) = some ts
 | []=>rfl
 | t :: ts=>(congrArg (Option.map (t :: ·)) (Z8I ts):_)
noncomputable def sgs (ss:List (List Nat)):List Nat:=Z4o ss.flatten.eraseDups
theorem Z6z {st:St} (l:List Nat) (hz:l.length ≤ sizeLine):Z1p .join (.str []) (.lst (Z0o l)) st = .ok (.str l) st:=by
 have:=Z6F (xs:=Z0o l) (Z2o l) (by rw [Z1F]; exact hz) st
 rwa [Z1F] at this
theorem Z8J {l:List Nat} (h:∀ c ∈ l,c < 127):l.eraseDups.length < 128:=by
 have:=List.Nodup.length_le_of_subset (l₂:=List.range 127) (Z1M l) fun c hc=>List.mem_range.mpr (h c (List.mem_eraseDups.mp hc))
 rw [List.length_range] at this
 exact Nat.lt_succ_of_le this
theorem Z6A (F:Fn) (K C:Nat) (hC:clsF F = some (C:Int)) (σ:List O) (ss W:List (List Nat)) (fi em:V) (es:List (Int × V)) (hz:ss.flatten.length ≤ sizeLine) (h7:∀ c ∈ ss.flatten,c < 127) :
  evSs F K Z41 ⟨[some (.inst C σ.length)],LS σ ss W fi em es⟩ = .ok (.ret (.str (sgs ss))) ⟨[some (.inst C σ.length)],LS σ ss W fi em es⟩:=by
 have a0:Z1Y (clsF F) (LS σ ss W fi em es) (.inst C σ.length) 0 = some (.ref (σ.length + 1)):=Z30 (C:=C) (k:=0) hC (lv0 ..) rfl
 have hy:itL (LS σ ss W fi em es) (.ref (σ.length + 1)) = some (ss.map .str):=by
  show lstO (LS σ ss W fi em es)[σ.length + 1]? = _
  unfold LS
  rw [lv1]; rfl
 have j1:Z1p .join (.str []) (.ref (σ.length + 1)) ⟨[some (.inst C σ.length)],LS σ ss W fi em es⟩ = .ok (.str ss.flatten) ⟨[some (.inst C σ.length)],LS σ ss W fi em es⟩:=Z7R hy (Z8I ss) hz
 have hd:=Z8J h7
 have s1:Z3q (.str ss.flatten) = some (.lst (Z0o (sgs ss))):=if_pos ⟨List.all_eq_true.mpr fun c hc=>decide_eq_true (Nat.lt_succ_of_lt (h7 c hc)),hd⟩
 have j2:=Z6z (st:=⟨[some (.inst C σ.length)],LS σ ss W fi em es⟩) (sgs ss) (by unfold sgs; rw [(Z17 _).length_eq]; exact Nat.le_trans (Nat.le_of_lt hd) (by decide))
 exact atS fun t=>t rfl rfl a0 j1 s1 j2 rfl
theorem Z7O (F:Fn) (K:Nat) (is:List Int) (k:Nat) (hk:k < 100) (σ:List O) (hσ:Cl σ):Z0a F K Z42 [scV is,.int (k:Int)] σ = .ok (.int (is.getD k 0)) ⟨[],σ⟩:=by
 refine Z2c (r:=.int (is.getD k 0)) rfl ?_ (Z1u _) hσ
 show Ret (evSs F K Z4O ⟨[some (.lst (is.map .int)),some (.int (k:Int))],σ⟩) _ _
 refine Ret.mk0 (ρ:=[some (.lst (is.map .int)),some (.int (k:Int))]) ?_
 have hsub:k < is.length→Z0n (is.map V.int) (k:Int) = some (.int (is.getD k 0)):=fun h=>by rw [Z0T _ (by lia),List.getElem?_map,List.getElem?_eq_getElem h,List.getD_eq_getElem?_getD,List.getElem?_eq_getElem h]; rfl
 by_cases h:k < is.length
 ·exact atS fun t=>t rfl (decide_eq_true (by rw [List.length_map]; exact Int.ofNat_lt.mpr h)) ((Z1v _ _ _).trans (hsub h)) rfl
 ·exact atS fun t=>t rfl (decide_eq_false (by rw [List.length_map]; exact fun w=>h (Int.ofNat_lt.mp w))) (by rw [List.getD_eq_getElem?_getD,List.getElem?_eq_none (by lia)]; rfl)
mutual
theorem Z5M:∀ p:Pt,∃ d,(enc p).depth? = some d∧d ≤ 2 * ht p + 2
 | .one s=>⟨1,by rw [enc,Z2a,Z0k,Z0k,Z0S,Z1H,Z1H]; rfl,by lia⟩
 | .row ps=>by
  refine El.x1_2 (Z5N ps) fun d h1 h2=>?_
  refine ⟨d + 2,?_,by rw [ht]; lia⟩
  rw [enc,Z2a,Z0k,Z0k,Z0S,Z1H,Z4Y,h1]
  simp
 | .or ps=>by
  refine El.x1_2 (Z5N ps) fun d h1 h2=>?_
  refine ⟨d + 2,?_,by rw [ht]; lia⟩
  rw [enc,Z2a,Z0k,Z0k,Z0S,Z1H,Z4Y,h1]
  simp
 | .many p=>by
  refine El.x1_2 (Z5M p) fun d h1 h2=>?_
  refine ⟨d + 1,?_,by rw [ht]; lia⟩
  rw [enc,Z2a,Z0k,Z0k,Z0S,Z1H,h1]
  simp
 | .maybe p=>by
  refine El.x1_2 (Z5M p) fun d h1 h2=>?_
  refine ⟨d + 1,?_,by rw [ht]; lia⟩
  rw [enc,Z2a,Z0k,Z0k,Z0S,Z1H,h1]
  simp
theorem Z5N:∀ ps:Pts,∃ d,V.depths? (encs ps) = some d∧d ≤ 2 * hts ps + 2
 | .nil=>⟨0,by rw [encs,Z0S],by lia⟩
 | .cons p ps=>by
  refine El.x1_2 (Z5M p) fun d h1 h2=>?_
  refine El.x1_2 (Z5N ps) fun e h3 h4=>?_
  exact ⟨max d e,by rw [encs,Z0k,h1,h3]; rfl,by rw [hts]; lia⟩
end
theorem Z8K:∀ (ps:List Pt),(∀ p ∈ ps,ht p ≤ 14)→∃ d,V.depths? (ps.map enc) = some d∧d ≤ 30
 | [],_=>⟨0,Z0S,by lia⟩
 | p :: ps,h=>by
  refine El.x1_2 (Z5M p) fun d h1 h2=>?_
  refine El.x1_2 (Z8K ps fun q hq=>h q (by simp [hq])) fun e h3 h4=>?_
  have:=h p (by simp)
  exact ⟨max d e,by rw [List.map_cons,Z0k,h1,h3]; rfl,by lia⟩
theorem ZfD (σ:List O) (ps:List Pt) (h:∀ p ∈ ps,ht p ≤ 14):Z1U σ .eq (.lst (ps.map enc)) (.lst (ps.map enc)) = some true:=by
 refine El.x1_2 (Z8K ps h) fun d h1 h2=>?_
 have hf:(V.lst (ps.map enc)).flat64 = true:=by
  unfold V.flat64
  rw [Z4Y,h1]
  exact decide_eq_true (show d + 1 ≤ 64 by lia)
 rw [Zfn _ _ _ hf hf,V.eqb_refl _ (by rw [Z0w]; exact Z26 ps)]
mutual
theorem Z2v:∀ (p:Pt),Fine p→∀ s ∈ p.leaves,LeafOk s
 | .one s,hf,t,ht=>by
  rw [Fine] at hf
  have:t = s:=List.mem_singleton.mp ht
  exact this ▸ hf
 | .row ps,hf,t,ht=>by rw [Fine] at hf; exact Z2X ps hf.2 t ht
 | .or ps,hf,t,ht=>by rw [Fine] at hf; exact Z2X ps hf.2.2 t ht
 | .many p,hf,t,ht=>by rw [Fine] at hf; exact Z2v p hf t ht
 | .maybe p,hf,t,ht=>by rw [Fine] at hf; exact Z2v p hf t ht
theorem Z2X:∀ (ps:Pts),Z4v ps→∀ s ∈ ps.leaves,LeafOk s
 | .nil,_,t,ht=>by cases ht
 | .cons p ps,hf,t,ht=>by
  rw [Z4v] at hf
  rw [Glu.ls1] at ht
  exact (List.mem_append.mp ht).elim (Z2v p hf.1 t) (Z2X ps hf.2 t)
end
section
variable (C K:Nat) {H:Option (List Int) × Str→Int}
theorem Z6B (is:List Int) (n:Nat):Z5K (Z0c (C,H) defs K (n + 1)) is:=fun k τ hk hτ=>by
 rw [Z07 (by decide) ZaU]
 exact Z7O _ _ is k hk τ hτ
theorem Zd9 (n:Nat):Z9e (Z0c (C,H) defs K (n + 1)):=fun cell m gs hm hgs=>by
 refine El.x1_3 (Z7D (Z0c (C,H) defs K n) K cell m hm gs hgs) fun t h1 h2 h3=>?_
 exact ⟨t,h1,h2,fun σ hσ=>by rw [Z07 (by decide) ZaX]; exact h3 σ hσ⟩
theorem Zda {L:List Nat} {z:Nat} (hL:Lets L z) (n:Nat):Zev (Z0c (C,H) defs K (n + 1)) L z:=fun m τ hτ=>by
 rw [Z07 (by decide) ZaW]
 exact Z7C _ _ hL m τ hτ
theorem Zdb {L:List Nat} {z:Nat} (hL:Lets L z) (n:Nat) (hn:20 ≤ n):Zbd (Z0c (C,H) defs K n) (.lst (Z06 L z)) 12:=fun {Rm d held room} hd g cell=>by
 obtain ⟨m,rfl⟩:∃ m,n = m + 2:=⟨n - 2,by lia⟩
 have q22y:=Zb7 (Z0c (C,H) defs K (m + 1)) K hL (Zda (H:=H) C K hL m) g cell
 refine El.x2_2 q22y fun held' room' g' h=>?_
 exact ⟨held',room',g',fun τ i hτ hi=>by rw [Z07 (by decide) Zek]; exact h τ i hτ hi⟩
theorem Z9l (is:List Int) {L:List Nat} {z:Nat} (hL:Lets L z) (n:Nat):∃ ps,PsOk ps∧∀ σ,Cl σ→Z0c (C,H) defs K (n + 30) "_law_patterns" [scV is,.lst (Z06 L z)] σ = .ok (.lst (ps.map enc)) ⟨[],σ⟩:=by
 have hg:Zbd (Z0c (C,H) defs K (n + 29)) (.lst (Z06 L z)) 12:=Zdb (H:=H) C K hL (n + 29) (by lia)
 have hw:∃ ps,PsOk ps∧∀ σ,Cl σ→Z0c (C,H) defs K (n + 29) "_law_words" [scV is] σ = .ok (.lst (ps.map enc)) ⟨[],σ⟩:=by
  have q27y:=Zbb (Z0c (C,H) defs K (n + 28)) K is (Z6B (H:=H) C K is _) (Zd9 (H:=H) C K _) fun cell=>by
   obtain ⟨gs,h1,h2⟩:=Zcy (Z0c (C,H) defs K (n + 27)) K (fun i τ hτ=>by rw [Z07 (by decide) Z6m]; exact Z4g _ _ i τ hτ) cell
   exact ⟨gs,h1,fun σ hσ=>by rw [Z07 (by decide) Zfb]; exact h2 σ hσ⟩
  refine El.x1_2 q27y fun ps h1 h2=>?_
  exact ⟨ps,h1,fun σ hσ=>by rw [Z07 (by decide) Zel]; exact h2 σ hσ⟩
 have hlo:∃ ps,PsOk ps∧∀ σ,Cl σ→Z0c (C,H) defs K (n + 29) "_law_loops" [scV is,.lst (Z06 L z)] σ = .ok (.lst (ps.map enc)) ⟨[],σ⟩:=by
  refine El.x1_2 (Zbg (Z0c (C,H) defs K (n + 28)) K is (Z6B (H:=H) C K is _) (Zd9 (H:=H) C K _) hL (fun {Rm d held room} hd g=>Zdb (H:=H) C K hL (n + 28) (by lia) (Nat.le_trans hd (by lia)) g)) fun ps h1 h2=>?_
  exact ⟨ps,h1,fun σ hσ=>by rw [Z07 (by decide) Zem]; exact h2 σ hσ⟩
 have hln:∃ ps,PsOk ps∧∀ σ,Cl σ→Z0c (C,H) defs K (n + 29) "_law_long" [scV is,.lst (Z06 L z)] σ = .ok (.lst (ps.map enc)) ⟨[],σ⟩:=by
  refine El.x1_2 (ZcA (Z0c (C,H) defs K (n + 28)) K is (Z6B (H:=H) C K is _) hL (Zda (H:=H) C K hL _)) fun ps h1 h2=>?_
  exact ⟨ps,h1,fun σ hσ=>by rw [Z07 (by decide) Zfc]; exact h2 σ hσ⟩
 refine El.x1_2 (Z6x (Z0c (C,H) defs K (n + 29)) K is (Z6B (H:=H) C K is _) hL hg hw hlo hln) fun ps h1 h2=>?_
 exact ⟨ps,h1,fun σ hσ=>by rw [Z07 (by decide) Z9c]; exact h2 σ hσ⟩
theorem ZeA (n:Nat) {σ:List O} (hσ:Cl σ) (ps:List Pt) (h0:ps ≠ []) (h8:ps.length ≤ 8) (h60:(Glu.allLeaves ps).length ≤ 60) (hf:∀ p ∈ ps,Fine p∧2 * ht p + 6 ≤ n) (hz:(Glu.allLeaves ps).flatten.length ≤ sizeLine) (h7:∀ c ∈ (Glu.allLeaves ps).flatten,c < 127) :
  Z0c (C,H) defs K n "signs_of" [.lst (ps.map enc)] σ = .ok (.str (sgs (Glu.allLeaves ps))) ⟨[],σ⟩:=by
 obtain ⟨m,rfl⟩:∃ m,n = m + 6:=by
  cases ps with
  | nil=>exact absurd rfl h0
  | cons p ps=>exact ⟨n - 6,by have:=(hf p (by simp)).2; lia⟩
 obtain ⟨W,fi,em,E,e,L⟩:=Z5B (Z0c (C,H) defs K (m + 4)) K C (Z2N ..) σ ps h0 h8 (fun p hp=>Z3k (H:=H) C K p (hf p hp).1 (m + 4) (by have:=(hf p hp).2; lia)) h60 (ZfC (H:=H) C K (m + 1) σ)
 have e':Z0c (C,H) defs K (m + 5) "leaves_of" [.lst (ps.map enc)] σ = _:=(Z07 (by decide) Z7x _ _).trans e
 have hs:Z0c (C,H) defs K (m + 5) "signs_in" [.inst C σ.length] (LS σ (Glu.allLeaves ps) W (.lst (Z02 fi)) (oV em) (eV E)) = .ok (.str (sgs (Glu.allLeaves ps))) ⟨[],LS σ (Glu.allLeaves ps) W (.lst (Z02 fi)) (oV em) (eV E)⟩:=by
  rw [Z07 (by decide) Z9j]
  exact Z2c rfl (Ret.mk0 (Z6A _ K C (Z2N ..) σ _ W _ _ _ hz h7)) (Z09 _) (Zb0 hσ ..)
 rw [Z07 (by decide) Z9k]
 exact atF rfl hσ fun t=>t e' hs rfl rfl (Z09 _)
end
theorem Z6C:∀ (ps:List Pt) (p:Pt),p ∈ ps→p.leaves.length ≤ (Glu.allLeaves ps).length
 | [],_,h=>by cases h
 | q :: ps,p,h=>by
  have ea:Glu.allLeaves (q :: ps) = q.leaves++Glu.allLeaves ps:=by unfold Glu.allLeaves; rw [List.flatMap_cons]
  rw [ea,List.length_append]
  rcases List.mem_cons.mp h with rfl | h
  ·exact Nat.le_add_right _ _
  ·exact Nat.le_trans (Z6C ps p h) (Nat.le_add_left _ _)
theorem Zbo:∀ (ss:List (List Nat)),(∀ s ∈ ss,s.length ≤ 76)→ss.flatten.length ≤ 76 * ss.length
 | [],_=>Nat.le_refl _
 | s :: ss,h=>by
  rw [List.flatten_cons,List.length_append,List.length_cons]
  have:=h s (List.mem_cons_self ..)
  have:=Zbo ss fun s q=>h s (List.mem_cons_of_mem _ q)
  omega
theorem Zbp:∀ l:List Nat,Z3p (Z0o l) = some l
 | []=>rfl
 | c :: l=>by
  show (Z3p (Z0o l)).bind _ = _
  rw [Zbp l]; rfl
theorem ZcD (l:List Nat):(l.foldl addC []).Perm l.eraseDups :=
 (List.perm_ext_iff_of_nodup (Z7N l [] List.nodup_nil) (Z1M l)).mpr fun x=>by
  rw [Z8G,List.mem_eraseDups]
  exact ⟨fun h=>h.elim (fun q=>by cases q) id,.inr⟩
theorem ZcE {σ:List O} {x y:V} {b:Bool} (h:Z1U σ .eq x y = some b):Z1U σ .ne x y = some (!b):=by
 by_cases hc:(x.flat64 && y.flat64) = true
 ·have h:(if (x.flat64 && y.flat64) = true then some (V.eqb x y) else none) = some b:=h
  show (if (x.flat64 && y.flat64) = true then some (!V.eqb x y) else none) = some (!b)
  rw [if_pos hc] at h ⊢
  rw [Option.some.inj h]
 ·have h:(if (x.flat64 && y.flat64) = true then some (V.eqb x y) else none) = some b:=h
  rw [if_neg hc] at h; cases h
theorem law_pure (C:Nat) (H:Option (List Int) × Str→Int) (is:List Int) (hl:is.length ≤ 63):∃ K n st,n ≤ 500∧Z0c (C,H) defs K n "law" [.lst (is.map .int)] [] = .ok (.bool true) st:=by
 refine El.y3_2 110 (40 + 1) ⟨[],[]⟩ (by lia) ?_
 have cl0:Cl []:=rfl
 refine El.x2_2 (Z7z (Z0c (C,H) defs 110 39) 110 (is.getD 0 0)) fun L z hL hlet=>?_
 have hlet':Z0c (C,H) defs 110 40 "_law_letters" [.int (is.getD 0 0)] [] = .ok (.lst (Z06 L z)) ⟨[],[]⟩:=by
  rw [Z07 (by decide) ZaV]
  exact hlet [] cl0 fun i τ hτ=>by rw [Z07 (by decide) Z6m]; exact Z4g _ _ i τ hτ
 refine El.x1_2 (Z9l (H:=H) C 110 is hL 10) fun ps hp hpr=>?_
 have hcell:=Z6B (H:=H) C 110 is 39
 have k0:Z0c (C,H) defs 110 40 "_law_cell_at" [scV is,.int 0] [] = _:=hcell 0 [] (by lia) cl0
 have hlv:∀ p ∈ ps,Z14 (Z0c (C,H) defs 110 40) p:=fun p q=>Z1T (H:=H) C 110 p (Nat.le_trans (Z6C ps p q) hp.sum) 40 (by have:=(hp.fine p q).2; omega)
 have hlf:∀ s ∈ Glu.allLeaves ps,LeafOk s:=fun s hs=>by
  obtain ⟨p,q,hs⟩:=List.mem_flatMap.mp hs
  exact Z2v p (hp.fine p q).1 s hs
 have hfl:(Glu.allLeaves ps).flatten.length ≤ 4560:=Nat.le_trans (Zbo _ fun s q=>(hlf s q).len) (Nat.mul_le_mul_left 76 hp.sum)
 have h7:∀ c ∈ (Glu.allLeaves ps).flatten,c < 127:=fun c hc=>by
  obtain ⟨s,hs,hc⟩:=List.mem_flatten.mp hc
  exact of_decide_eq_true (List.all_eq_true.mp (hlf s hs).lt c hc)
 obtain ⟨y4,y5,y6,e1⟩:=Zbn (Z0c (C,H) defs 110 40) 110 (some (scV is)) (some (.lst (Z06 L z))) (some (.lst (ps.map enc))) none ps [] none none none hlv (by rw [List.length_nil]; omega)
 have hpm:=ZcD (Glu.allLeaves ps).flatten
 have hnd:=Z7N (Glu.allLeaves ps).flatten [] List.nodup_nil
 generalize (Glu.allLeaves ps).flatten.foldl addC [] = due at e1 hpm hnd
 have hlen:due.length < 128:=by rw [hpm.length_eq]; exact Z8J h7
 have hcl:=Zbm due
 have e2:=ZeA (H:=H) C 110 40 hcl ps hp.ne hp.few hp.sum (fun p q=>⟨(hp.fine p q).1,by have:=(hp.fine p q).2; omega⟩) (Nat.le_trans hfl (by decide)) h7
 have heq:=ZcE (ZfD [.lst (Z0o due)] ps fun p q=>(hp.fine p q).2)
 have hso:Z4p [.lst (Z0o due)] .sorted (.ref 0) = some (.lst (Z0o (Z4o due))):=by
  show (Z3p (Z0o due)).bind _ = _
  rw [Zbp]; exact if_pos ⟨hnd,hlen⟩
 have hsg:Z4o due = sgs (Glu.allLeaves ps):=Z56 ((Z17 due).trans hpm) (Z1y due)
 rw [hsg] at hso
 have hj:∀ st:St,Z1p .join (.str []) (.lst (Z0o (sgs (Glu.allLeaves ps)))) st = .ok (.str (sgs (Glu.allLeaves ps))) st:=fun st=>Z6z _ (by rw [← hsg,(Z17 due).length_eq]; exact Nat.le_trans (Nat.le_of_lt hlen) (by decide))
 have hself:((sgs (Glu.allLeaves ps)) == sgs (Glu.allLeaves ps)) = true:=beq_self_eq_true _
 rw [Z07 (by decide) ZfB]
 refine Z2c rfl ?_ (Z2x _) cl0
 show Ret (evSs _ 110 Zd4 (S8 (some (scV is)) none none none none none none none ([]))) _ _
 refine Ret.mk (ρ:=[some (scV is),some (.lst (Z06 L z)),some (.lst (ps.map enc)),some (.ref 0),y4,y5,y6,some (.str (sgs (Glu.allLeaves ps)))]) (τ:=[.lst (Z0o due)]) ?_
 rw [List.nil_append]
 exact atS fun q=>q k0 hlet' rfl (hpr [] cl0) rfl rfl rfl rfl rfl e1 e2 rfl (hpr _ hcl) heq rfl rfl rfl rfl hso (hj _) (congrArg V.bool hself)
end Mine
open PySem PySem.W PyProof.Rows
namespace Mine
noncomputable def qv:Program:=view PySem.Challenge.pw_uf030006_01 [1,2,3,5,6,7,8,9,10,11,12,13,14,16,18,19,20,21,22,23,24,25,26,27,28,29,30]
theorem ZcF (w:World) (os:OsState):(Z21 (PySem.W.Fast.tw6613529449190102663 (boot_heap w.params).objs.size ((boot_heap w.params).nsMap mainGlobals "__annotations__")) (PySem.W.Fast.tw10156331382660048174 (PySem.W.Fast.tw11892475500146522536 treeTable) PySem.Challenge.pw_uf030006_01 w) 3258 (Zcc w.params os) (topStub PySem.Challenge.pw_uf030006_01)).map (fun s=>
   (staticsOk (importedModules PySem.Challenge.pw_uf030006_01.main.body) (boot_heap w.params) s.abs.heap && namesBound PySem.Challenge.pw_uf030006_01 s.abs.heap && gensDone s.abs && laidKept (boot_heap w.params) s.abs.heap,openSeen qv [] (importedModules PySem.Challenge.pw_uf030006_01.main.body) (fun s=>xlAt qv [] s && recOk (RowW.records PySem.Challenge.rw_uf030006_01.row.toRowW) s) true s.abs,Hook.obs Hook.none s.abs)) = some (true,openGood qv [],Hook.val Hook.none w):=by kernel_rfl
theorem left_qv:LeftO PySem.Challenge.pw_uf030006_01 qv [] (fun s=>xlAt qv [] s && recOk (RowW.records PySem.Challenge.rw_uf030006_01.row.toRowW) s) (Hook.obs Hook.none) (Hook.val Hook.none) 3258 :=
 Zau (by rfl) (by rfl) (fun _=>rfl) fun w os=>by rw [Zav]; exact ZcF w os
theorem ok_qv:Ze1 qv defs = true:=by decide +kernel
theorem eq_qv:eqOk qv defs:=by unfold eqOk; kernel_rfl
end Mine
theorem PySem.Challenge.cw_uf030006_01_holds : PySem.Challenge.rw_uf030006_01.Holds := by
  w_on
  refine holds_law (by decide +kernel) fun said => ?_
  refine holds_open (q := Mine.qv) (loose := []) (Xt := fun s => xlAt Mine.qv [] s && recOk (RowW.records PySem.Challenge.rw_uf030006_01.row.toRowW) s) (XP := XL Mine.qv []) (Yf := Hook.obs Hook.none) (Ya := Hook.val Hook.none) (YP := Hook.says Hook.none) (N := 3258) Mine.left_qv (Hook.of Hook.none) (Hook.keeps Hook.none) (fun s e => xl_of s (Bool.and_eq_true_iff.mp e).1) XL.keeps (by rfl) (by rfl) (by rfl) (fun s e => recFacts_of (Bool.and_eq_true_iff.mp e).2) (by rfl) (by first | assumption | decide +kernel) (by decide +kernel) ⟨rfl, rfl, rfl, rfl, rfl, by decide +kernel⟩ ?hw ?hc
  (case hw => w_witness2)
  exact Mine.law_walk Mine.defs Mine.ok_qv Mine.eq_qv rfl rfl Mine.law_pure rfl
