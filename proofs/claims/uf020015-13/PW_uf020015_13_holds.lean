import PyProof.Rows.All
import PySem.Builtin.Int.Common
import PyProof.Methods
import PyProof.FString5
import PyProof.SliceSyntax
import PyProof.SliceList
import PyProof.Cells
import PyProof.CompFree
import PyProof.Conv_int_bool
import PyProof.ListOps
import PyProof.DictRoads
import PyProof.DictFindH
import PyProof.DictRoadsH
import PyProof.DictWalks
import PyProof.Draws
import PyProof.P3Statements
import PyProof.P3Eq
import PyProof.NeData
import PyProof.StationsW
import PyProof.WalksMore
import PyProof.RangeFor
import PyProof.IsiHeapPairs
import PyProof.IsiNone
import PyProof.IsiPairs
import PyProof.ListCopy
import PyProof.ListIndexNeg
import PyProof.ListTruth
import PyProof.WalkInts
import PyProof.RulesAs
import PyProof.P3In
import PyProof.Rows.Globals
import PyProof.Rows.Lst
import PyProof.Rows.IntRules
import PyProof.Rows.DictRows
import PyProof.ZipIter
import PyProof.TupleCall
import PyProof.Truth
import PyProof.Rows.Own
import PyProof.Rows.Exc
import PyProof.Rows.Catch
import PyProof.Rows.Chain
import PyProof.Rows.Nodes
import PyProof.Rows.RuleU_int
import PyProof.Rows.RuleB_mul
import PyProof.Rows.RuleB_pow
import PyProof.Rows.RuleB_floordiv
import PyProof.Rows.RuleB_mod
import PyProof.Rows.StrTemp
import PyProof.Rows.ListMul
import PyProof.Rows.RuleC_int
import PyProof.Rows.RuleIs
import PyProof.Rows.TupMore
import PyProof.Rows.StrRules
import PyProof.Rows.TopTwo
import PyProof.Rows.SeqMore
import PyProof.TupleOfSeq
import OpenK.KCall
import KE.KDictList
import KE.KDictOf
import KE.KEqDict
import KE.KRevIter
import KE.KSortTup
import Wide.FinOn
import OpenK.AllK
import Wide.All
import PySem.Challenge.RW_uf020015_13
set_option tactic.hygienic false
set_option Elab.async false
set_option genSizeOf false
set_option backward.eqns.nonrecursive false
set_option linter.all false
local macro_rules | `(tactic| bv_omega) => `(tactic| first | with_reducible assumption | lia | omega)
section
namespace Mini
theorem elAA  {P0:Prop} {P1:Prop} {Q:Prop} {R:Prop} (h:P0∧P1∧Q) (k:P0→P1→Q→R):R:=k h.1 h.2.1 h.2.2
theorem elAAA  {P0:Prop} {P1:Prop} {P2:Prop} {Q:Prop} {R:Prop} (h:P0∧P1∧P2∧Q) (k:P0→P1→P2→Q→R):R:=k h.1 h.2.1 h.2.2.1 h.2.2.2
theorem elAE.{u1} {α1:Sort u1} {P0:Prop} {Q:α1→Prop} {R:Prop} (h:P0∧∃ x1,Q x1) (k:P0→∀ x1,Q x1→R):R:=(h.2).elim fun x1 h1=>k h.1 x1 h1
theorem elAEEA.{u1,u2} {α1:Sort u1} {α2:Sort u2} {P0:Prop} {P3:α1→α2→Prop} {Q:α1→α2→Prop} {R:Prop} (h:P0∧∃ x1,∃ x2,P3 x1 x2∧Q x1 x2) (k:P0→∀ x1,∀ x2,P3 x1 x2→Q x1 x2→R):R:=(h.2).elim fun x1 h1=>h1.elim fun x2 h2=>k h.1 x1 x2 h2.1 h2.2
theorem elAEEAA.{u1,u2} {α1:Sort u1} {α2:Sort u2} {P0:Prop} {P3:α1→α2→Prop} {P4:α1→α2→Prop} {Q:α1→α2→Prop} {R:Prop} (h:P0∧∃ x1,∃ x2,P3 x1 x2∧P4 x1 x2∧Q x1 x2) (k:P0→∀ x1,∀ x2,P3 x1 x2→P4 x1 x2→Q x1 x2→R):R:=(h.2).elim fun x1 h1=>h1.elim fun x2 h2=>k h.1 x1 x2 h2.1 h2.2.1 h2.2.2
theorem elAEEEA.{u1,u2,u3} {α1:Sort u1} {α2:Sort u2} {α3:Sort u3} {P0:Prop} {P4:α1→α2→α3→Prop} {Q:α1→α2→α3→Prop} {R:Prop} (h:P0∧∃ x1,∃ x2,∃ x3,P4 x1 x2 x3∧Q x1 x2 x3) (k:P0→∀ x1,∀ x2,∀ x3,P4 x1 x2 x3→Q x1 x2 x3→R):R:=(h.2).elim fun x1 h1=>h1.elim fun x2 h2=>h2.elim fun x3 h3=>k h.1 x1 x2 x3 h3.1 h3.2
theorem elAEEEAA.{u1,u2,u3} {α1:Sort u1} {α2:Sort u2} {α3:Sort u3} {P0:Prop} {P4:α1→α2→α3→Prop} {P5:α1→α2→α3→Prop} {Q:α1→α2→α3→Prop} {R:Prop} (h:P0∧∃ x1,∃ x2,∃ x3,P4 x1 x2 x3∧P5 x1 x2 x3∧Q x1 x2 x3) (k:P0→∀ x1,∀ x2,∀ x3,P4 x1 x2 x3→P5 x1 x2 x3→Q x1 x2 x3→R):R:=(h.2).elim fun x1 h1=>h1.elim fun x2 h2=>h2.elim fun x3 h3=>k h.1 x1 x2 x3 h3.1 h3.2.1 h3.2.2
theorem elAEEEAAA.{u1,u2,u3} {α1:Sort u1} {α2:Sort u2} {α3:Sort u3} {P0:Prop} {P4:α1→α2→α3→Prop} {P5:α1→α2→α3→Prop} {P6:α1→α2→α3→Prop} {Q:α1→α2→α3→Prop} {R:Prop} (h:P0∧∃ x1,∃ x2,∃ x3,P4 x1 x2 x3∧P5 x1 x2 x3∧P6 x1 x2 x3∧Q x1 x2 x3) (k:P0→∀ x1,∀ x2,∀ x3,P4 x1 x2 x3→P5 x1 x2 x3→P6 x1 x2 x3→Q x1 x2 x3→R):R:=(h.2).elim fun x1 h1=>h1.elim fun x2 h2=>h2.elim fun x3 h3=>k h.1 x1 x2 x3 h3.1 h3.2.1 h3.2.2.1 h3.2.2.2
theorem elAEEEAAEEAA.{u1,u2,u3,u6,u7} {α1:Sort u1} {α2:Sort u2} {α3:Sort u3} {α6:Sort u6} {α7:Sort u7} {P0:Prop} {P4:α1→α2→α3→Prop} {P5:α1→α2→α3→Prop} {P8:α1→α2→α3→α6→α7→Prop} {P9:α1→α2→α3→α6→α7→Prop} {Q:α1→α2→α3→α6→α7→Prop} {R:Prop} (h:P0∧∃ x1,∃ x2,∃ x3,P4 x1 x2 x3∧P5 x1 x2 x3∧∃ x6,∃ x7,P8 x1 x2 x3 x6 x7∧P9 x1 x2 x3 x6 x7∧Q x1 x2 x3 x6 x7) (k:P0→∀ x1,∀ x2,∀ x3,P4 x1 x2 x3→P5 x1 x2 x3→∀ x6,∀ x7,P8 x1 x2 x3 x6 x7→P9 x1 x2 x3 x6 x7→Q x1 x2 x3 x6 x7→R):R:=(h.2).elim fun x1 h1=>h1.elim fun x2 h2=>h2.elim fun x3 h3=>(h3.2.2).elim fun x6 h6=>h6.elim fun x7 h7=>k h.1 x1 x2 x3 h3.1 h3.2.1 x6 x7 h7.1 h7.2.1 h7.2.2
theorem elAEEEEAA.{u1,u2,u3,u4} {α1:Sort u1} {α2:Sort u2} {α3:Sort u3} {α4:Sort u4} {P0:Prop} {P5:α1→α2→α3→α4→Prop} {P6:α1→α2→α3→α4→Prop} {Q:α1→α2→α3→α4→Prop} {R:Prop} (h:P0∧∃ x1,∃ x2,∃ x3,∃ x4,P5 x1 x2 x3 x4∧P6 x1 x2 x3 x4∧Q x1 x2 x3 x4) (k:P0→∀ x1,∀ x2,∀ x3,∀ x4,P5 x1 x2 x3 x4→P6 x1 x2 x3 x4→Q x1 x2 x3 x4→R):R:=(h.2).elim fun x1 h1=>h1.elim fun x2 h2=>h2.elim fun x3 h3=>h3.elim fun x4 h4=>k h.1 x1 x2 x3 x4 h4.1 h4.2.1 h4.2.2
theorem elAEEEEAAAA.{u1,u2,u3,u4} {α1:Sort u1} {α2:Sort u2} {α3:Sort u3} {α4:Sort u4} {P0:Prop} {P5:α1→α2→α3→α4→Prop} {P6:α1→α2→α3→α4→Prop} {P7:α1→α2→α3→α4→Prop} {P8:α1→α2→α3→α4→Prop} {Q:α1→α2→α3→α4→Prop} {R:Prop} (h:P0∧∃ x1,∃ x2,∃ x3,∃ x4,P5 x1 x2 x3 x4∧P6 x1 x2 x3 x4∧P7 x1 x2 x3 x4∧P8 x1 x2 x3 x4∧Q x1 x2 x3 x4) (k:P0→∀ x1,∀ x2,∀ x3,∀ x4,P5 x1 x2 x3 x4→P6 x1 x2 x3 x4→P7 x1 x2 x3 x4→P8 x1 x2 x3 x4→Q x1 x2 x3 x4→R):R:=(h.2).elim fun x1 h1=>h1.elim fun x2 h2=>h2.elim fun x3 h3=>h3.elim fun x4 h4=>k h.1 x1 x2 x3 x4 h4.1 h4.2.1 h4.2.2.1 h4.2.2.2.1 h4.2.2.2.2
theorem elEA.{u0} {α0:Sort u0} {P1:α0→Prop} {Q:α0→Prop} {R:Prop} (h:∃ x0,P1 x0∧Q x0) (k:∀ x0,P1 x0→Q x0→R):R:=h.elim fun x0 h0=>k x0 h0.1 h0.2
theorem elEAA.{u0} {α0:Sort u0} {P1:α0→Prop} {P2:α0→Prop} {Q:α0→Prop} {R:Prop} (h:∃ x0,P1 x0∧P2 x0∧Q x0) (k:∀ x0,P1 x0→P2 x0→Q x0→R):R:=h.elim fun x0 h0=>k x0 h0.1 h0.2.1 h0.2.2
theorem elEAAA.{u0} {α0:Sort u0} {P1:α0→Prop} {P2:α0→Prop} {P3:α0→Prop} {Q:α0→Prop} {R:Prop} (h:∃ x0,P1 x0∧P2 x0∧P3 x0∧Q x0) (k:∀ x0,P1 x0→P2 x0→P3 x0→Q x0→R):R:=h.elim fun x0 h0=>k x0 h0.1 h0.2.1 h0.2.2.1 h0.2.2.2
theorem elEAAAAA.{u0} {α0:Sort u0} {P1:α0→Prop} {P2:α0→Prop} {P3:α0→Prop} {P4:α0→Prop} {P5:α0→Prop} {Q:α0→Prop} {R:Prop} (h:∃ x0,P1 x0∧P2 x0∧P3 x0∧P4 x0∧P5 x0∧Q x0) (k:∀ x0,P1 x0→P2 x0→P3 x0→P4 x0→P5 x0→Q x0→R):R:=h.elim fun x0 h0=>k x0 h0.1 h0.2.1 h0.2.2.1 h0.2.2.2.1 h0.2.2.2.2.1 h0.2.2.2.2.2
theorem elEAAE.{u0,u3} {α0:Sort u0} {α3:Sort u3} {P1:α0→Prop} {P2:α0→Prop} {Q:α0→α3→Prop} {R:Prop} (h:∃ x0,P1 x0∧P2 x0∧∃ x3,Q x0 x3) (k:∀ x0,P1 x0→P2 x0→∀ x3,Q x0 x3→R):R:=h.elim fun x0 h0=>(h0.2.2).elim fun x3 h3=>k x0 h0.1 h0.2.1 x3 h3
theorem elEAE.{u0,u2} {α0:Sort u0} {α2:Sort u2} {P1:α0→Prop} {Q:α0→α2→Prop} {R:Prop} (h:∃ x0,P1 x0∧∃ x2,Q x0 x2) (k:∀ x0,P1 x0→∀ x2,Q x0 x2→R):R:=h.elim fun x0 h0=>(h0.2).elim fun x2 h2=>k x0 h0.1 x2 h2
theorem elEAEA.{u0,u2} {α0:Sort u0} {α2:Sort u2} {P1:α0→Prop} {P3:α0→α2→Prop} {Q:α0→α2→Prop} {R:Prop} (h:∃ x0,P1 x0∧∃ x2,P3 x0 x2∧Q x0 x2) (k:∀ x0,P1 x0→∀ x2,P3 x0 x2→Q x0 x2→R):R:=h.elim fun x0 h0=>(h0.2).elim fun x2 h2=>k x0 h0.1 x2 h2.1 h2.2
theorem elEAEE.{u0,u2,u3} {α0:Sort u0} {α2:Sort u2} {α3:Sort u3} {P1:α0→Prop} {Q:α0→α2→α3→Prop} {R:Prop} (h:∃ x0,P1 x0∧∃ x2,∃ x3,Q x0 x2 x3) (k:∀ x0,P1 x0→∀ x2,∀ x3,Q x0 x2 x3→R):R:=h.elim fun x0 h0=>(h0.2).elim fun x2 h2=>h2.elim fun x3 h3=>k x0 h0.1 x2 x3 h3
theorem elEAEEA.{u0,u2,u3} {α0:Sort u0} {α2:Sort u2} {α3:Sort u3} {P1:α0→Prop} {P4:α0→α2→α3→Prop} {Q:α0→α2→α3→Prop} {R:Prop} (h:∃ x0,P1 x0∧∃ x2,∃ x3,P4 x0 x2 x3∧Q x0 x2 x3) (k:∀ x0,P1 x0→∀ x2,∀ x3,P4 x0 x2 x3→Q x0 x2 x3→R):R:=h.elim fun x0 h0=>(h0.2).elim fun x2 h2=>h2.elim fun x3 h3=>k x0 h0.1 x2 x3 h3.1 h3.2
theorem elEAEEAAA.{u0,u2,u3} {α0:Sort u0} {α2:Sort u2} {α3:Sort u3} {P1:α0→Prop} {P4:α0→α2→α3→Prop} {P5:α0→α2→α3→Prop} {P6:α0→α2→α3→Prop} {Q:α0→α2→α3→Prop} {R:Prop} (h:∃ x0,P1 x0∧∃ x2,∃ x3,P4 x0 x2 x3∧P5 x0 x2 x3∧P6 x0 x2 x3∧Q x0 x2 x3) (k:∀ x0,P1 x0→∀ x2,∀ x3,P4 x0 x2 x3→P5 x0 x2 x3→P6 x0 x2 x3→Q x0 x2 x3→R):R:=h.elim fun x0 h0=>(h0.2).elim fun x2 h2=>h2.elim fun x3 h3=>k x0 h0.1 x2 x3 h3.1 h3.2.1 h3.2.2.1 h3.2.2.2
theorem elEAEEAAAA.{u0,u2,u3} {α0:Sort u0} {α2:Sort u2} {α3:Sort u3} {P1:α0→Prop} {P4:α0→α2→α3→Prop} {P5:α0→α2→α3→Prop} {P6:α0→α2→α3→Prop} {P7:α0→α2→α3→Prop} {Q:α0→α2→α3→Prop} {R:Prop} (h:∃ x0,P1 x0∧∃ x2,∃ x3,P4 x0 x2 x3∧P5 x0 x2 x3∧P6 x0 x2 x3∧P7 x0 x2 x3∧Q x0 x2 x3) (k:∀ x0,P1 x0→∀ x2,∀ x3,P4 x0 x2 x3→P5 x0 x2 x3→P6 x0 x2 x3→P7 x0 x2 x3→Q x0 x2 x3→R):R:=h.elim fun x0 h0=>(h0.2).elim fun x2 h2=>h2.elim fun x3 h3=>k x0 h0.1 x2 x3 h3.1 h3.2.1 h3.2.2.1 h3.2.2.2.1 h3.2.2.2.2
theorem elEAEEE.{u0,u2,u3,u4} {α0:Sort u0} {α2:Sort u2} {α3:Sort u3} {α4:Sort u4} {P1:α0→Prop} {Q:α0→α2→α3→α4→Prop} {R:Prop} (h:∃ x0,P1 x0∧∃ x2,∃ x3,∃ x4,Q x0 x2 x3 x4) (k:∀ x0,P1 x0→∀ x2,∀ x3,∀ x4,Q x0 x2 x3 x4→R):R:=h.elim fun x0 h0=>(h0.2).elim fun x2 h2=>h2.elim fun x3 h3=>h3.elim fun x4 h4=>k x0 h0.1 x2 x3 x4 h4
theorem elEAEEEA.{u0,u2,u3,u4} {α0:Sort u0} {α2:Sort u2} {α3:Sort u3} {α4:Sort u4} {P1:α0→Prop} {P5:α0→α2→α3→α4→Prop} {Q:α0→α2→α3→α4→Prop} {R:Prop} (h:∃ x0,P1 x0∧∃ x2,∃ x3,∃ x4,P5 x0 x2 x3 x4∧Q x0 x2 x3 x4) (k:∀ x0,P1 x0→∀ x2,∀ x3,∀ x4,P5 x0 x2 x3 x4→Q x0 x2 x3 x4→R):R:=h.elim fun x0 h0=>(h0.2).elim fun x2 h2=>h2.elim fun x3 h3=>h3.elim fun x4 h4=>k x0 h0.1 x2 x3 x4 h4.1 h4.2
theorem elEAEEEAAAA.{u0,u2,u3,u4} {α0:Sort u0} {α2:Sort u2} {α3:Sort u3} {α4:Sort u4} {P1:α0→Prop} {P5:α0→α2→α3→α4→Prop} {P6:α0→α2→α3→α4→Prop} {P7:α0→α2→α3→α4→Prop} {P8:α0→α2→α3→α4→Prop} {Q:α0→α2→α3→α4→Prop} {R:Prop} (h:∃ x0,P1 x0∧∃ x2,∃ x3,∃ x4,P5 x0 x2 x3 x4∧P6 x0 x2 x3 x4∧P7 x0 x2 x3 x4∧P8 x0 x2 x3 x4∧Q x0 x2 x3 x4) (k:∀ x0,P1 x0→∀ x2,∀ x3,∀ x4,P5 x0 x2 x3 x4→P6 x0 x2 x3 x4→P7 x0 x2 x3 x4→P8 x0 x2 x3 x4→Q x0 x2 x3 x4→R):R:=h.elim fun x0 h0=>(h0.2).elim fun x2 h2=>h2.elim fun x3 h3=>h3.elim fun x4 h4=>k x0 h0.1 x2 x3 x4 h4.1 h4.2.1 h4.2.2.1 h4.2.2.2.1 h4.2.2.2.2
theorem elEAEEEEA.{u0,u2,u3,u4,u5} {α0:Sort u0} {α2:Sort u2} {α3:Sort u3} {α4:Sort u4} {α5:Sort u5} {P1:α0→Prop} {P6:α0→α2→α3→α4→α5→Prop} {Q:α0→α2→α3→α4→α5→Prop} {R:Prop} (h:∃ x0,P1 x0∧∃ x2,∃ x3,∃ x4,∃ x5,P6 x0 x2 x3 x4 x5∧Q x0 x2 x3 x4 x5) (k:∀ x0,P1 x0→∀ x2,∀ x3,∀ x4,∀ x5,P6 x0 x2 x3 x4 x5→Q x0 x2 x3 x4 x5→R):R:=h.elim fun x0 h0=>(h0.2).elim fun x2 h2=>h2.elim fun x3 h3=>h3.elim fun x4 h4=>h4.elim fun x5 h5=>k x0 h0.1 x2 x3 x4 x5 h5.1 h5.2
theorem elEAEEEEEA.{u0,u2,u3,u4,u5,u6} {α0:Sort u0} {α2:Sort u2} {α3:Sort u3} {α4:Sort u4} {α5:Sort u5} {α6:Sort u6} {P1:α0→Prop} {P7:α0→α2→α3→α4→α5→α6→Prop} {Q:α0→α2→α3→α4→α5→α6→Prop} {R:Prop} (h:∃ x0,P1 x0∧∃ x2,∃ x3,∃ x4,∃ x5,∃ x6,P7 x0 x2 x3 x4 x5 x6∧Q x0 x2 x3 x4 x5 x6) (k:∀ x0,P1 x0→∀ x2,∀ x3,∀ x4,∀ x5,∀ x6,P7 x0 x2 x3 x4 x5 x6→Q x0 x2 x3 x4 x5 x6→R):R:=h.elim fun x0 h0=>(h0.2).elim fun x2 h2=>h2.elim fun x3 h3=>h3.elim fun x4 h4=>h4.elim fun x5 h5=>h5.elim fun x6 h6=>k x0 h0.1 x2 x3 x4 x5 x6 h6.1 h6.2
theorem elEAEEEEEEEAA.{u0,u2,u3,u4,u5,u6,u7,u8} {α0:Sort u0} {α2:Sort u2} {α3:Sort u3} {α4:Sort u4} {α5:Sort u5} {α6:Sort u6} {α7:Sort u7} {α8:Sort u8} {P1:α0→Prop} {P9:α0→α2→α3→α4→α5→α6→α7→α8→Prop} {P10:α0→α2→α3→α4→α5→α6→α7→α8→Prop} {Q:α0→α2→α3→α4→α5→α6→α7→α8→Prop} {R:Prop} (h:∃ x0,P1 x0∧∃ x2,∃ x3,∃ x4,∃ x5,∃ x6,∃ x7,∃ x8,P9 x0 x2 x3 x4 x5 x6 x7 x8∧P10 x0 x2 x3 x4 x5 x6 x7 x8∧Q x0 x2 x3 x4 x5 x6 x7 x8) (k:∀ x0,P1 x0→∀ x2,∀ x3,∀ x4,∀ x5,∀ x6,∀ x7,∀ x8,P9 x0 x2 x3 x4 x5 x6 x7 x8→P10 x0 x2 x3 x4 x5 x6 x7 x8→Q x0 x2 x3 x4 x5 x6 x7 x8→R):R:=h.elim fun x0 h0=>(h0.2).elim fun x2 h2=>h2.elim fun x3 h3=>h3.elim fun x4 h4=>h4.elim fun x5 h5=>h5.elim fun x6 h6=>h6.elim fun x7 h7=>h7.elim fun x8 h8=>k x0 h0.1 x2 x3 x4 x5 x6 x7 x8 h8.1 h8.2.1 h8.2.2
theorem elEE.{u0,u1} {α0:Sort u0} {α1:Sort u1} {Q:α0→α1→Prop} {R:Prop} (h:∃ x0,∃ x1,Q x0 x1) (k:∀ x0,∀ x1,Q x0 x1→R):R:=h.elim fun x0 h0=>h0.elim fun x1 h1=>k x0 x1 h1
theorem elEEA.{u0,u1} {α0:Sort u0} {α1:Sort u1} {P2:α0→α1→Prop} {Q:α0→α1→Prop} {R:Prop} (h:∃ x0,∃ x1,P2 x0 x1∧Q x0 x1) (k:∀ x0,∀ x1,P2 x0 x1→Q x0 x1→R):R:=h.elim fun x0 h0=>h0.elim fun x1 h1=>k x0 x1 h1.1 h1.2
theorem elEEAA.{u0,u1} {α0:Sort u0} {α1:Sort u1} {P2:α0→α1→Prop} {P3:α0→α1→Prop} {Q:α0→α1→Prop} {R:Prop} (h:∃ x0,∃ x1,P2 x0 x1∧P3 x0 x1∧Q x0 x1) (k:∀ x0,∀ x1,P2 x0 x1→P3 x0 x1→Q x0 x1→R):R:=h.elim fun x0 h0=>h0.elim fun x1 h1=>k x0 x1 h1.1 h1.2.1 h1.2.2
theorem elEEAAA.{u0,u1} {α0:Sort u0} {α1:Sort u1} {P2:α0→α1→Prop} {P3:α0→α1→Prop} {P4:α0→α1→Prop} {Q:α0→α1→Prop} {R:Prop} (h:∃ x0,∃ x1,P2 x0 x1∧P3 x0 x1∧P4 x0 x1∧Q x0 x1) (k:∀ x0,∀ x1,P2 x0 x1→P3 x0 x1→P4 x0 x1→Q x0 x1→R):R:=h.elim fun x0 h0=>h0.elim fun x1 h1=>k x0 x1 h1.1 h1.2.1 h1.2.2.1 h1.2.2.2
theorem elEEAAAA.{u0,u1} {α0:Sort u0} {α1:Sort u1} {P2:α0→α1→Prop} {P3:α0→α1→Prop} {P4:α0→α1→Prop} {P5:α0→α1→Prop} {Q:α0→α1→Prop} {R:Prop} (h:∃ x0,∃ x1,P2 x0 x1∧P3 x0 x1∧P4 x0 x1∧P5 x0 x1∧Q x0 x1) (k:∀ x0,∀ x1,P2 x0 x1→P3 x0 x1→P4 x0 x1→P5 x0 x1→Q x0 x1→R):R:=h.elim fun x0 h0=>h0.elim fun x1 h1=>k x0 x1 h1.1 h1.2.1 h1.2.2.1 h1.2.2.2.1 h1.2.2.2.2
theorem elEEAAAAA.{u0,u1} {α0:Sort u0} {α1:Sort u1} {P2:α0→α1→Prop} {P3:α0→α1→Prop} {P4:α0→α1→Prop} {P5:α0→α1→Prop} {P6:α0→α1→Prop} {Q:α0→α1→Prop} {R:Prop} (h:∃ x0,∃ x1,P2 x0 x1∧P3 x0 x1∧P4 x0 x1∧P5 x0 x1∧P6 x0 x1∧Q x0 x1) (k:∀ x0,∀ x1,P2 x0 x1→P3 x0 x1→P4 x0 x1→P5 x0 x1→P6 x0 x1→Q x0 x1→R):R:=h.elim fun x0 h0=>h0.elim fun x1 h1=>k x0 x1 h1.1 h1.2.1 h1.2.2.1 h1.2.2.2.1 h1.2.2.2.2.1 h1.2.2.2.2.2
theorem elEEE.{u0,u1,u2} {α0:Sort u0} {α1:Sort u1} {α2:Sort u2} {Q:α0→α1→α2→Prop} {R:Prop} (h:∃ x0,∃ x1,∃ x2,Q x0 x1 x2) (k:∀ x0,∀ x1,∀ x2,Q x0 x1 x2→R):R:=h.elim fun x0 h0=>h0.elim fun x1 h1=>h1.elim fun x2 h2=>k x0 x1 x2 h2
theorem elEEEA.{u0,u1,u2} {α0:Sort u0} {α1:Sort u1} {α2:Sort u2} {P3:α0→α1→α2→Prop} {Q:α0→α1→α2→Prop} {R:Prop} (h:∃ x0,∃ x1,∃ x2,P3 x0 x1 x2∧Q x0 x1 x2) (k:∀ x0,∀ x1,∀ x2,P3 x0 x1 x2→Q x0 x1 x2→R):R:=h.elim fun x0 h0=>h0.elim fun x1 h1=>h1.elim fun x2 h2=>k x0 x1 x2 h2.1 h2.2
theorem elEEEAA.{u0,u1,u2} {α0:Sort u0} {α1:Sort u1} {α2:Sort u2} {P3:α0→α1→α2→Prop} {P4:α0→α1→α2→Prop} {Q:α0→α1→α2→Prop} {R:Prop} (h:∃ x0,∃ x1,∃ x2,P3 x0 x1 x2∧P4 x0 x1 x2∧Q x0 x1 x2) (k:∀ x0,∀ x1,∀ x2,P3 x0 x1 x2→P4 x0 x1 x2→Q x0 x1 x2→R):R:=h.elim fun x0 h0=>h0.elim fun x1 h1=>h1.elim fun x2 h2=>k x0 x1 x2 h2.1 h2.2.1 h2.2.2
theorem elEEEAAA.{u0,u1,u2} {α0:Sort u0} {α1:Sort u1} {α2:Sort u2} {P3:α0→α1→α2→Prop} {P4:α0→α1→α2→Prop} {P5:α0→α1→α2→Prop} {Q:α0→α1→α2→Prop} {R:Prop} (h:∃ x0,∃ x1,∃ x2,P3 x0 x1 x2∧P4 x0 x1 x2∧P5 x0 x1 x2∧Q x0 x1 x2) (k:∀ x0,∀ x1,∀ x2,P3 x0 x1 x2→P4 x0 x1 x2→P5 x0 x1 x2→Q x0 x1 x2→R):R:=h.elim fun x0 h0=>h0.elim fun x1 h1=>h1.elim fun x2 h2=>k x0 x1 x2 h2.1 h2.2.1 h2.2.2.1 h2.2.2.2
theorem elEEEAAAA.{u0,u1,u2} {α0:Sort u0} {α1:Sort u1} {α2:Sort u2} {P3:α0→α1→α2→Prop} {P4:α0→α1→α2→Prop} {P5:α0→α1→α2→Prop} {P6:α0→α1→α2→Prop} {Q:α0→α1→α2→Prop} {R:Prop} (h:∃ x0,∃ x1,∃ x2,P3 x0 x1 x2∧P4 x0 x1 x2∧P5 x0 x1 x2∧P6 x0 x1 x2∧Q x0 x1 x2) (k:∀ x0,∀ x1,∀ x2,P3 x0 x1 x2→P4 x0 x1 x2→P5 x0 x1 x2→P6 x0 x1 x2→Q x0 x1 x2→R):R:=h.elim fun x0 h0=>h0.elim fun x1 h1=>h1.elim fun x2 h2=>k x0 x1 x2 h2.1 h2.2.1 h2.2.2.1 h2.2.2.2.1 h2.2.2.2.2
theorem elEEEEA.{u0,u1,u2,u3} {α0:Sort u0} {α1:Sort u1} {α2:Sort u2} {α3:Sort u3} {P4:α0→α1→α2→α3→Prop} {Q:α0→α1→α2→α3→Prop} {R:Prop} (h:∃ x0,∃ x1,∃ x2,∃ x3,P4 x0 x1 x2 x3∧Q x0 x1 x2 x3) (k:∀ x0,∀ x1,∀ x2,∀ x3,P4 x0 x1 x2 x3→Q x0 x1 x2 x3→R):R:=h.elim fun x0 h0=>h0.elim fun x1 h1=>h1.elim fun x2 h2=>h2.elim fun x3 h3=>k x0 x1 x2 x3 h3.1 h3.2
theorem elEEEEAAA.{u0,u1,u2,u3} {α0:Sort u0} {α1:Sort u1} {α2:Sort u2} {α3:Sort u3} {P4:α0→α1→α2→α3→Prop} {P5:α0→α1→α2→α3→Prop} {P6:α0→α1→α2→α3→Prop} {Q:α0→α1→α2→α3→Prop} {R:Prop} (h:∃ x0,∃ x1,∃ x2,∃ x3,P4 x0 x1 x2 x3∧P5 x0 x1 x2 x3∧P6 x0 x1 x2 x3∧Q x0 x1 x2 x3) (k:∀ x0,∀ x1,∀ x2,∀ x3,P4 x0 x1 x2 x3→P5 x0 x1 x2 x3→P6 x0 x1 x2 x3→Q x0 x1 x2 x3→R):R:=h.elim fun x0 h0=>h0.elim fun x1 h1=>h1.elim fun x2 h2=>h2.elim fun x3 h3=>k x0 x1 x2 x3 h3.1 h3.2.1 h3.2.2.1 h3.2.2.2
theorem elEEEEEA.{u0,u1,u2,u3,u4} {α0:Sort u0} {α1:Sort u1} {α2:Sort u2} {α3:Sort u3} {α4:Sort u4} {P5:α0→α1→α2→α3→α4→Prop} {Q:α0→α1→α2→α3→α4→Prop} {R:Prop} (h:∃ x0,∃ x1,∃ x2,∃ x3,∃ x4,P5 x0 x1 x2 x3 x4∧Q x0 x1 x2 x3 x4) (k:∀ x0,∀ x1,∀ x2,∀ x3,∀ x4,P5 x0 x1 x2 x3 x4→Q x0 x1 x2 x3 x4→R):R:=h.elim fun x0 h0=>h0.elim fun x1 h1=>h1.elim fun x2 h2=>h2.elim fun x3 h3=>h3.elim fun x4 h4=>k x0 x1 x2 x3 x4 h4.1 h4.2
theorem elEEEEEAAA.{u0,u1,u2,u3,u4} {α0:Sort u0} {α1:Sort u1} {α2:Sort u2} {α3:Sort u3} {α4:Sort u4} {P5:α0→α1→α2→α3→α4→Prop} {P6:α0→α1→α2→α3→α4→Prop} {P7:α0→α1→α2→α3→α4→Prop} {Q:α0→α1→α2→α3→α4→Prop} {R:Prop} (h:∃ x0,∃ x1,∃ x2,∃ x3,∃ x4,P5 x0 x1 x2 x3 x4∧P6 x0 x1 x2 x3 x4∧P7 x0 x1 x2 x3 x4∧Q x0 x1 x2 x3 x4) (k:∀ x0,∀ x1,∀ x2,∀ x3,∀ x4,P5 x0 x1 x2 x3 x4→P6 x0 x1 x2 x3 x4→P7 x0 x1 x2 x3 x4→Q x0 x1 x2 x3 x4→R):R:=h.elim fun x0 h0=>h0.elim fun x1 h1=>h1.elim fun x2 h2=>h2.elim fun x3 h3=>h3.elim fun x4 h4=>k x0 x1 x2 x3 x4 h4.1 h4.2.1 h4.2.2.1 h4.2.2.2
theorem elEEEEEAAAAA.{u0,u1,u2,u3,u4} {α0:Sort u0} {α1:Sort u1} {α2:Sort u2} {α3:Sort u3} {α4:Sort u4} {P5:α0→α1→α2→α3→α4→Prop} {P6:α0→α1→α2→α3→α4→Prop} {P7:α0→α1→α2→α3→α4→Prop} {P8:α0→α1→α2→α3→α4→Prop} {P9:α0→α1→α2→α3→α4→Prop} {Q:α0→α1→α2→α3→α4→Prop} {R:Prop} (h:∃ x0,∃ x1,∃ x2,∃ x3,∃ x4,P5 x0 x1 x2 x3 x4∧P6 x0 x1 x2 x3 x4∧P7 x0 x1 x2 x3 x4∧P8 x0 x1 x2 x3 x4∧P9 x0 x1 x2 x3 x4∧Q x0 x1 x2 x3 x4) (k:∀ x0,∀ x1,∀ x2,∀ x3,∀ x4,P5 x0 x1 x2 x3 x4→P6 x0 x1 x2 x3 x4→P7 x0 x1 x2 x3 x4→P8 x0 x1 x2 x3 x4→P9 x0 x1 x2 x3 x4→Q x0 x1 x2 x3 x4→R):R:=h.elim fun x0 h0=>h0.elim fun x1 h1=>h1.elim fun x2 h2=>h2.elim fun x3 h3=>h3.elim fun x4 h4=>k x0 x1 x2 x3 x4 h4.1 h4.2.1 h4.2.2.1 h4.2.2.2.1 h4.2.2.2.2.1 h4.2.2.2.2.2
theorem elEEEEEEEEAAAA.{u0,u1,u2,u3,u4,u5,u6,u7} {α0:Sort u0} {α1:Sort u1} {α2:Sort u2} {α3:Sort u3} {α4:Sort u4} {α5:Sort u5} {α6:Sort u6} {α7:Sort u7} {P8:α0→α1→α2→α3→α4→α5→α6→α7→Prop} {P9:α0→α1→α2→α3→α4→α5→α6→α7→Prop} {P10:α0→α1→α2→α3→α4→α5→α6→α7→Prop} {P11:α0→α1→α2→α3→α4→α5→α6→α7→Prop} {Q:α0→α1→α2→α3→α4→α5→α6→α7→Prop} {R:Prop} (h:∃ x0,∃ x1,∃ x2,∃ x3,∃ x4,∃ x5,∃ x6,∃ x7,P8 x0 x1 x2 x3 x4 x5 x6 x7∧P9 x0 x1 x2 x3 x4 x5 x6 x7∧P10 x0 x1 x2 x3 x4 x5 x6 x7∧P11 x0 x1 x2 x3 x4 x5 x6 x7∧Q x0 x1 x2 x3 x4 x5 x6 x7) (k:∀ x0,∀ x1,∀ x2,∀ x3,∀ x4,∀ x5,∀ x6,∀ x7,P8 x0 x1 x2 x3 x4 x5 x6 x7→P9 x0 x1 x2 x3 x4 x5 x6 x7→P10 x0 x1 x2 x3 x4 x5 x6 x7→P11 x0 x1 x2 x3 x4 x5 x6 x7→Q x0 x1 x2 x3 x4 x5 x6 x7→R):R:=h.elim fun x0 h0=>h0.elim fun x1 h1=>h1.elim fun x2 h2=>h2.elim fun x3 h3=>h3.elim fun x4 h4=>h4.elim fun x5 h5=>h5.elim fun x6 h6=>h6.elim fun x7 h7=>k x0 x1 x2 x3 x4 x5 x6 x7 h7.1 h7.2.1 h7.2.2.1 h7.2.2.2.1 h7.2.2.2.2
theorem elE {α:Sort u} {Q:α→Prop} {R:Prop} (h:∃ x,Q x) (k:∀ x,Q x→R):R:=Exists.elim h k
theorem bK1 {α β:Type} {x:Option α} {f:α→Option β} {b:β} {P:Prop} (h:x.bind f=some b) (k:∀ a,x=some a→f a=some b→P):P:=by
 cases x with
 | none=>cases h
 | some a=>exact k a rfl h
theorem bK2 {α γ β:Type} {x:Option (α×γ)} {f:α×γ→Option β} {b:β} {P:Prop} (h:x.bind f=some b) (k:∀ a c,x=some (a,c)→f (a,c)=some b→P):P:=bK1 h fun a=>k a.1 a.2
theorem bK3 {α γ δ β:Type} {x:Option (α×γ×δ)} {f:α×γ×δ→Option β} {b:β} {P:Prop} (h:x.bind f=some b) (k:∀ a c d,x=some (a,c,d)→f (a,c,d)=some b→P):P:=bK1 h fun a=>k a.1 a.2.1 a.2.2
@[elab_as_elim] theorem sm1 {α:Type} {a a':α} {P:α→Prop} (e:some a=some a') (p:P a):P a':=Option.some.inj e▸p
@[elab_as_elim] theorem sm2 {α β:Type} {a a':α} {b b':β} {P:α→β→Prop} (e:some (a,b)=some (a',b')) (p:P a b):P a' b':=sm1 (P:=fun q=>P q.1 q.2) e p
@[elab_as_elim] theorem sm3 {α β γ:Type} {a a':α} {b b':β} {c c':γ} {P:α→β→γ→Prop} (e:some (a,b,c)=some (a',b',c')) (p:P a b c):P a' b' c':=sm1 (P:=fun q=>P q.1 q.2.1 q.2.2) e p
end Mini
end
section
namespace Mini
open PySem
set_option backward.match.sparseCases false
noncomputable abbrev D:=PyData
inductive AV where
 | val (d:D)|own (d:D)
noncomputable abbrev Sg:=List (Option AV)
inductive Prim where
 | len|sorted|tuple|list|dict|min|max|int
 deriving DecidableEq
noncomputable def Prim.name:Prim→Str
 | .len => "len" | .sorted => "sorted" | .tuple => "tuple" | .list => "list" | .dict => "dict" | .min => "min" | .max => "max" | .int => "int"
set_option genInjectivity false in
inductive I where
 | omit|nil|cons (a b:I)
 | cnone|cbool (b:Bool)|cint (i:Int)|cstr (s:Str)
 | var (k:Nat)|brw (k:Nat)|glob (x:Str)
 | bin (op:Operator) (a b:I)
 | neg (a:I)|not (a:I)|and (l:I)|or (l:I)
 | cmp (op:CmpOp) (a b:I)|cmp2 (o1 o2:CmpOp) (a b c:I)
 | ite (c a b:I)
 | tup (l:I)|lst (l:I)|dct0
 | comp1 (elt src cond:I)
 | call (g:Str) (l:I)|prim1 (p:Prim) (a:I)|isi (a:I) (ty:Str)
 | prim2 (p:Prim) (a b:I)
 | idx (a i:I)|slc (a lo hi:I)|pop (k:Nat)
 | rng1 (b:I)|rng (a b:I)|rev (a:I)
 | asg (k:Nat) (e:I)
 | sto (k:Nat) (key e:I)
 | app (k:Nat) (e:I)|ext (k:Nat) (e:I)|clr (k:Nat)
 | exp (e:I)|iff (c t e:I)|whl (c b:I)|for1 (k:Nat) (src b:I)
 | ret (e:I)|rais|pass
 | asgs (ks:List Nat) (e:I)
 | fors (ks:List Nat) (src b:I)
 | compT (m:Nat) (elt src cond:I)
 | zip (a b:I)
 | rem (k:Nat) (e:I)
noncomputable def brwK:I→Option Nat
 | .brw k=>some k
 | _=>none
noncomputable def isBrw (i:I):Bool:=(brwK i).isSome
noncomputable def isOmit:I→Bool
 | .omit=>true
 | _=>false
noncomputable def okd (d:D):Bool:=d.canLay0&&decide (d.depth≤1000)
noncomputable def deqD (_ _:D):Option Bool:=none
noncomputable def eqD (a b:D):Option Bool:=if okd a&&okd b then some (PyData.eqv a b) else deqD a b
mutual
noncomputable def ltD:D→D→Option Bool
 | .int i,.int j=>some (decide (i<j))
 | .str x,.str y=>some (decide (x.cps.toList<y.cps.toList))
 | .tuple xs,.tuple ys=>ltL xs ys
 | _,_=>none
noncomputable def ltL:List D→List D→Option Bool
 | [],[]=>some false
 | [],_::_=>some true
 | _::_,[]=>some false
 | x::xs,y::ys=>if PyData.eqv x y then ltL xs ys else ltD x y
end
noncomputable def size:Nat:=16777216
noncomputable def zx5:D→Option Bool
 | .none=>some false
 | .bool b=>some b
 | .int i=>some (i != 0)
 | .list l=>some (!l.isEmpty)
 | .tuple l=>some (!l.isEmpty)
 | _=>none
noncomputable def isI:D→Bool
 | .int _=>true
 | .bool _=>true
 | _=>false
noncomputable def isB:D→Bool
 | .bool _=>true
 | _=>false
noncomputable def isS:D→Bool
 | .str _=>true
 | _=>false
noncomputable def isT:D→Bool
 | .tuple _=>true
 | _=>false
noncomputable def isL:D→Bool
 | .list _=>true
 | _=>false
noncomputable def isK:D→Bool
 | .dict _=>true
 | _=>false
noncomputable def isiD (d:D) (ty:Str):Option Bool :=
 if ty == "int" then some (isI d) else if ty == "bool" then some (isB d) else if ty == "str" then some (isS d)
 else if ty == "tuple" then some (isT d) else if ty == "list" then some (isL d) else if ty == "dict" then some (isK d) else none
noncomputable def mkL (l:List D):Option (D×Bool):=if l.length≤size then some (.list l,true) else none
noncomputable def mkT (l:List D):Option (D×Bool):=if l.length≤size then some (.tuple l,false) else none
noncomputable def zy9 (i:Int):Bool:=decide (i.natAbs<2^62)
noncomputable def zr7:D→Option Int
 | .int i=>some i
 | _=>none
noncomputable def asNone:D→Option Unit
 | .none=>some ()
 | _=>none
noncomputable def addD:D→D→Option (D×Bool)
 | .int a,.int b=>some (.int (a+b),false)
 | .list a,.list b=>mkL (a++b)
 | .tuple a,.tuple b=>mkT (a++b)
 | _,_=>none
noncomputable def int2 (f:Int→Int→Option (D×Bool)) (a b:D):Option (D×Bool):=(zr7 a).bind fun x=>(zr7 b).bind fun y=>f x y
noncomputable def binD (op:Operator) (a b:D):Option (D×Bool):=match op with
 | .Add=>addD a b
 | .Sub=>int2 (fun a b=>some (.int (a - b),false)) a b
 | .FloorDiv=>int2 (fun a b=>if b != 0&&zy9 b then some (.int (a.fdiv b),false) else none) a b
 | .Mod=>int2 (fun a b=>if b != 0&&zy9 b then some (.int (a.fmod b),false) else none) a b
 | _=>none
mutual
noncomputable def zz5:D→Bool
 | .int _=>true
 | .str _=>true
 | .tuple l=>zt7 l
 | _=>false
noncomputable def zt7:List D→Bool
 | []=>true
 | x::r=>zz5 x&&zt7 r
end
mutual
noncomputable def lev:D→Nat
 | .tuple l=>levL l+1
 | _=>0
noncomputable def levL:List D→Nat
 | []=>0
 | x::r=>max (lev x) (levL r)
end
noncomputable def tkey (d:D):Bool:=(match d with|.tuple _=>true|_=>false)&&zz5 d&&okd d&&decide (lev d≤8)
noncomputable def zp6:D→Option Nat
 | .int _=>some 0
 | .tuple l=>if tkey (.tuple l) then some 1 else none
 | _=>none
noncomputable def zj0 (kvs:List (D×D)):Bool:=kvs.all fun p=>zp6 p.1==some 0
noncomputable def zp2 (k:D) (kvs:List (D×D)):Bool:=(zp6 k).isSome&&kvs.all fun p=>zp6 p.1==zp6 k
noncomputable def zj3 (k:D) (kvs:List (D×D)):Bool:=zp2 k kvs
noncomputable def zs1 (kvs:List (D×D)) (k:D):Option D:=(kvs.find? fun p=>PyData.eqv p.1 k).map (·.2)
noncomputable def dput:List (D×D)→D→D→List (D×D)
 | [],k,v=>[(k,v)]
 | p::r,k,v=>if PyData.eqv p.1 k then (p.1,v)::r else p::dput r k v
noncomputable def inD (x:D):D→Option Bool
 | .list l=>if okd x&&l.all okd then some (l.any fun y=>PyData.eqv y x) else none
 | .tuple l=>if okd x&&l.all okd then some (l.any fun y=>PyData.eqv y x) else none
 | .dict kvs=>if zj3 x kvs&&!tkey x then some (zs1 kvs x).isSome else none
 | _=>none
noncomputable def isNoneD:D→Bool
 | .none=>true
 | _=>false
noncomputable def orS {α:Type} (a b:Option α):Option α:=match a with
 | some x=>some x
 | none=>b
noncomputable def gtD:D→D→Option Bool
 | .int a,.int b=>some (decide (b<a))
 | .str a,.str b=>some (decide (b.cps.toList<a.cps.toList))
 | _,_=>none
noncomputable def cmpD (op:CmpOp) (a b:D):Option Bool:=match op with
 | .Eq=>eqD a b
 | .NotEq=>(eqD a b).bind fun r=>some (!r)
 | .Lt=>if okd a&&okd b then ltD a b else none
 | .Gt=>gtD a b
 | .LtE=>(zr7 a).bind fun x=>(zr7 b).bind fun y=>some (decide (x≤y))
 | .GtE=>(zr7 a).bind fun x=>(zr7 b).bind fun y=>some (decide (y≤x))
 | .Is=>(asNone b).bind fun _=>some (isNoneD a)
 | .In=>inD a b
 | .NotIn=>(inD a b).bind fun r=>some (!r)
 | _=>none
noncomputable def idxD:D→D→Option D
 | .list l,.int i=>if 0≤i then l[i.toNat]? else none
 | .tuple l,.int i=>if 0≤i then l[i.toNat]? else none
 | .dict kvs,k=>if zj3 k kvs then zs1 kvs k else none
 | _,_=>none
noncomputable def clampI (n:Nat) (i:Int):Nat:=if i<0 then (i+n).toNat else min i.toNat n
noncomputable def zv0 (l:List α) (lo hi:Option Int):List α :=
 (l.take (match hi with|some j=>clampI l.length j|none=>l.length)).drop (match lo with|some i=>clampI l.length i|none=>0)
noncomputable def sliceD (d:D) (lo hi:Option Int):Option (D×Bool) :=
 match d with
 | .list l=>some (.list (zv0 l lo hi),true)
 | .tuple l=>match lo,hi with
  | some i,none=>if 1≤i∧i≤l.length then some (.tuple (l.drop i.toNat),false) else none
  | _,_=>none
 | _=>none
noncomputable def insD (x:D):List D→List D
 | []=>[x]
 | y::r=>if ltD y x==some true then y::insD x r else x::y::r
noncomputable def zx6:List D→List D
 | []=>[]
 | x::r=>insD x (zx6 r)
noncomputable def isIntD:D→Bool
 | .int _=>true
 | _=>false
noncomputable def tupStr:D→Bool
 | .tuple (.str _::_)=>true
 | _=>false
noncomputable def tupTup:D→Bool
 | .tuple (.tuple _::_)=>true
 | _=>false
noncomputable def sortable (l:List D):Bool:=l.all okd&&l.all zz5&&(l.all isIntD||l.all tupStr||l.all tupTup)&&l.all fun a=>l.all fun b=>(ltD a b).isSome
noncomputable def sortD (l:List D):Option (D×Bool):=if decide (l.length<2)||(sortable l&&decide (l.length<64)) then some (.list (zx6 l),true) else none
noncomputable def lenD:D→Option (D×Bool)
 | .list l=>some (.int l.length,false)
 | .tuple l=>some (.int l.length,false)
 | _=>none
noncomputable def sortedD:D→Option (D×Bool)
 | .list l=>sortD l
 | .dict kvs=>sortD (kvs.map (·.1))
 | _=>none
noncomputable def seqD:D→Option (List D)
 | .list l=>some l
 | .tuple l=>some l
 | _=>none
noncomputable def extD:D→Option (List D)
 | .list l=>some l
 | .tuple l=>some l
 | _=>none
noncomputable def intD:D→Option (D×Bool)
 | .bool b=>some (.int (if b then 1 else 0),false)
 | _=>none
noncomputable def asList:D→Option (List D)
 | .list l=>some l
 | _=>none
noncomputable def asTup:D→Option (List D)
 | .tuple l=>some l
 | _=>none
noncomputable def keysL:D→Option (D×Bool)
 | .dict kvs=>some (.list (kvs.map (·.1)),true)
 | _=>none
noncomputable def copyD:D→Option (D×Bool)
 | .dict kvs=>if zj0 kvs then some (.dict kvs,true) else none
 | _=>none
noncomputable def restD (p:Prim) (d:D):Option (D×Bool):=match p with
 | .sorted=>sortedD d
 | .list=>keysL d
 | .dict=>copyD d
 | _=>none
noncomputable def prim1D (p:Prim) (d:D):Option (D×Bool):=match p with
 | .len=>lenD d
 | .sorted=>restD .sorted d
 | .tuple=>(seqD d).bind fun l=>some (.tuple l,false)
 | .list=>orS ((seqD d).bind fun l=>some (.list l,true)) (restD .list d)
 | .dict=>restD .dict d
 | .int=>intD d
 | _=>none
noncomputable def prim2D (p:Prim) (a b:D):Option (D×Bool):=(zr7 a).bind fun x=>(zr7 b).bind fun y=>match p with
 | .min=>some (.int (min x y),false)
 | .max=>some (.int (max x y),false)
 | _=>none
noncomputable def itemsD:D→Option (List D)
 | .list l=>some l
 | .tuple l=>some l
 | .dict l=>some (l.map (·.1))
 | _=>none
noncomputable def zs9 (a b:Int):List D:=(List.range (b - a).toNat).map fun (k:Nat)=>.int (a+(k:Int))
noncomputable def zipL (xs ys:List D):List D:=(xs.zip ys).map fun p=>.tuple [p.1,p.2]
noncomputable abbrev Ev:=Sg→Option (D×Bool×Sg)
inductive Out where
 | next (σ:Sg)
 | ret (d:D) (fresh:Bool)
noncomputable def look (σ:Sg) (k:Nat):Option D:=match σ[k]? with
 | some (some (.val d))=>some d
 | some (some (.own d))=>some d
 | _=>none
inductive Opnd where
 | slot (k:Nat)|dat (d:D)
noncomputable def res:Opnd→Sg→Option D
 | .slot k,σ=>look σ k
 | .dat d,_=>some d
noncomputable def opn (i:I) (e:Ev) (σ:Sg):Option (Opnd×Sg):=match brwK i with
 | some k=>(look σ k).bind fun _=>some (.slot k,σ)
 | none=>(e σ).bind fun p=>some (.dat p.1,p.2.2)
noncomputable def uno (i:I) (e:Ev) (σ:Sg):Option (D×Sg):=(opn i e σ).bind fun p=>(res p.1 p.2).bind fun d=>some (d,p.2)
noncomputable def duo (i:I) (e:Ev) (j:I) (f:Ev) (σ:Sg):Option (D×D×Sg):=(opn i e σ).bind fun p=>(opn j f p.2).bind fun q=>(res p.1 q.2).bind fun a=>(res q.1 q.2).bind fun b=>some (a,b,q.2)
noncomputable def useS (σ:Sg) (k:Nat):Option (D×Bool×Sg):=match σ[k]? with
 | some (some (.val d))=>some (d,false,σ)
 | some (some (.own d))=>some (d,false,σ.set k (some (.val d)))
 | _=>none
noncomputable def put (σ:Sg) (k:Nat) (d:D) (fresh:Bool):Sg:=σ.set k (some (if fresh then .own d else .val d))
noncomputable def ownL (σ:Sg) (k:Nat):Option (List D):=match σ[k]? with
 | some (some (.own (.list l)))=>some l
 | _=>none
noncomputable def ownD (σ:Sg) (k:Nat):Option (List (D×D)):=match σ[k]? with
 | some (some (.own (.dict l)))=>some l
 | _=>none
noncomputable def zj4 (σ:Sg) (k:Nat):Bool:=match σ[k]? with
 | some (some (.own _))=>true
 | _=>false
noncomputable def bndD:D→Option Int
 | .int i=>if i.natAbs<2^62 then some i else none
 | _=>none
noncomputable def stepO (k:Sg→Option Out):Out→Option Out
 | .next σ=>k σ
 | .ret d f=>some (.ret d f)
noncomputable def forN (bnd:D→Sg→Option Sg) (body:Sg→Option Out):List D→Sg→Option Out
 | [],σ=>some (.next σ)
 | d::r,σ=>(bnd d σ).bind fun σ'=>(body σ').bind (stepO (forN bnd body r))
noncomputable def zp8 (test:Sg→Option (D×Sg)) (body:Sg→Option Out):Nat→Sg→Option Out
 | 0,_=>none
 | n+1,σ=>(test σ).bind fun p=>(zx5 p.1).bind fun b=>bif b then (body p.2).bind (stepO (zp8 test body n)) else some (.next p.2)
noncomputable def zi9 (n:Nat) (cond:Sg→Option (D×Sg)) (elt:Ev):List D→Sg→Option (List D×Sg)
 | [],σ=>some ([],σ)
 | d::r,σ=>(cond (σ++[some (.val d)])).bind fun p=>(zx5 p.1).bind fun b =>
  bif b then (elt p.2).bind fun x=>(zi9 n cond elt r (x.2.2.take n)).bind fun q=>some (x.1::q.1,q.2) else zi9 n cond elt r (p.2.take n)
noncomputable def zj2 (n:Nat) (bc:D→Option (List D)) (cond:Sg→Option (D×Sg)) (elt:Ev):List D→Sg→Option (List D×Sg)
 | [],σ=>some ([],σ)
 | d::r,σ=>(bc d).bind fun ws=>(cond (σ++ws.map fun x=>some (.val x))).bind fun p=>(zx5 p.1).bind fun b =>
  bif b then (elt p.2).bind fun x=>(zj2 n bc cond elt r (x.2.2.take n)).bind fun q=>some (x.1::q.1,q.2) else zj2 n bc cond elt r (p.2.take n)
noncomputable def bc1 (d:D):Option (List D):=some [d]
theorem zr6 {n:Nat} {cond:Sg→Option (D×Sg)} {elt:Ev}:∀ {l:List D} {σ:Sg},zi9 n cond elt l σ=zj2 n bc1 cond elt l σ
 | [],σ=>rfl
 | d::r,σ=>by
  simp only [zi9,zj2,bc1,Option.bind_some,List.map_cons,List.map_nil,zr6 (l:=r)]
noncomputable def tupN (m:Nat):D→Option (List D)
 | .tuple l=>if l.length=m then some l else none
 | _=>none
noncomputable def zu2 (k:Nat) (d:D) (σ:Sg):Option Sg:=some (σ.set k (some (.val d)))
noncomputable def bndE (i:I) (e:Ev) (σ:Sg):Option (Option Int×Sg):=bif isOmit i then some (none,σ) else (e σ).bind fun p=>(bndD p.1).bind fun j=>some (some j,p.2.2)
noncomputable def zp5 (i:I) (e:Ev) (σ:Sg):Option (D×Sg):=bif isOmit i then some (.bool true,σ) else (e σ).bind fun p=>some (p.1,p.2.2)
noncomputable def srcE (e:Ev) (σ:Sg):Option (List D×Sg):=(e σ).bind fun p=>(itemsD p.1).bind fun l=>some (l,p.2.2)
structure Env where
 call:Str→List D→Option (D×Bool)
 glob:Str→Option D
 fuel:Nat
noncomputable abbrev mkEnv (c:Str→List D→Option (D×Bool)) (g:Str→Option D) (n:Nat):Env:=⟨c,g,n⟩
mutual
noncomputable def ev (Γ:Env):I→Ev
 | .cnone,σ=>some (.none,false,σ)
 | .cbool b,σ=>some (.bool b,false,σ)
 | .cint i,σ=>some (.int i,false,σ)
 | .cstr s,σ=>some (.str s,false,σ)
 | .var k,σ=>useS σ k
 | .glob x,σ=>(Γ.glob x).bind fun d=>some (d,false,σ)
 | .bin op a b,σ=>(duo a (ev Γ a) b (ev Γ b) σ).bind fun p=>(binD op p.1 p.2.1).bind fun q=>some (q.1,q.2,p.2.2)
 | .neg a,σ=>(ev Γ a σ).bind fun p=>(zr7 p.1).bind fun i=>some (.int (-i),false,p.2.2)
 | .not a,σ=>(uno a (ev Γ a) σ).bind fun p=>(zx5 p.1).bind fun b=>some (.bool (!b),false,p.2)
 | .and l,σ=>(evAnd Γ l σ).bind fun p=>some (p.1,false,p.2)
 | .or l,σ=>(evOr Γ l σ).bind fun p=>some (p.1,false,p.2)
 | .cmp op a b,σ=>(duo a (ev Γ a) b (ev Γ b) σ).bind fun p=>(cmpD op p.1 p.2.1).bind fun r=>some (.bool r,false,p.2.2)
 | .cmp2 o1 o2 a b c,σ=>(ev Γ a σ).bind fun x=>(ev Γ b x.2.2).bind fun y=>(cmpD o1 x.1 y.1).bind fun r =>
  bif r then (ev Γ c y.2.2).bind fun z=>(cmpD o2 y.1 z.1).bind fun q=>some (.bool q,false,z.2.2) else some (.bool false,false,y.2.2)
 | .ite c a b,σ=>(uno c (ev Γ c) σ).bind fun p=>(zx5 p.1).bind fun r=>bif r then ev Γ a p.2 else ev Γ b p.2
 | .tup l,σ=>(evs Γ l σ).bind fun p=>(mkT p.1).bind fun q=>some (q.1,q.2,p.2)
 | .lst l,σ=>(evs Γ l σ).bind fun p=>(mkL p.1).bind fun q=>some (q.1,q.2,p.2)
 | .dct0,σ=>some (.dict [],true,σ)
 | .comp1 elt s cond,σ=>(srcE (ev Γ s) σ).bind fun p=>(zi9 σ.length (zp5 cond (ev Γ cond)) (ev Γ elt) p.1 p.2).bind fun q=>(mkL q.1).bind fun r=>some (r.1,r.2,q.2)
 | .compT m elt s cond,σ=>(srcE (ev Γ s) σ).bind fun p=>(zj2 σ.length (tupN m) (zp5 cond (ev Γ cond)) (ev Γ elt) p.1 p.2).bind fun q=>(mkL q.1).bind fun r=>some (r.1,r.2,q.2)
 | .zip a b,σ=>(ev Γ a σ).bind fun p=>(asList p.1).bind fun xs=>(ev Γ b p.2.2).bind fun q=>(asTup q.1).bind fun ys=>some (.list (zipL xs ys),false,q.2.2)
 | .call g l,σ=>(evs Γ l σ).bind fun p=>(Γ.call g p.1).bind fun q=>some (q.1,q.2,p.2)
 | .prim1 p a,σ=>(uno a (ev Γ a) σ).bind fun x=>(prim1D p x.1).bind fun q=>some (q.1,q.2,x.2)
 | .prim2 p a b,σ=>(ev Γ a σ).bind fun x=>(ev Γ b x.2.2).bind fun y=>(prim2D p x.1 y.1).bind fun q=>some (q.1,q.2,y.2.2)
 | .isi a ty,σ=>(uno a (ev Γ a) σ).bind fun p=>(isiD p.1 ty).bind fun b=>some (.bool b,false,p.2)
 | .idx a i,σ=>(duo a (ev Γ a) i (ev Γ i) σ).bind fun p=>(idxD p.1 p.2.1).bind fun d=>some (d,false,p.2.2)
 | .slc a lo hi,σ=>(opn a (ev Γ a) σ).bind fun o=>(bndE lo (ev Γ lo) o.2).bind fun l=>(bndE hi (ev Γ hi) l.2).bind fun h=>(res o.1 h.2).bind fun d=>(sliceD d l.1 h.1).bind fun r=>some (r.1,r.2,h.2)
 | .pop k,σ=>(ownL σ k).bind fun l=>l.getLast?.bind fun d=>some (d,false,σ.set k (some (.own (.list l.dropLast))))
 | .rng1 b,σ=>(ev Γ b σ).bind fun p=>(zr7 p.1).bind fun y=>if zy9 y&&decide (y.toNat≤size) then some (.list (zs9 0 y),false,p.2.2) else none
 | .rng a b,σ=>(ev Γ a σ).bind fun p=>(zr7 p.1).bind fun x=>(ev Γ b p.2.2).bind fun q=>(zr7 q.1).bind fun y =>
  if zy9 x&&zy9 y&&decide ((y - x).toNat≤size) then some (.list (zs9 x y),false,q.2.2) else none
 | .rev a,σ=>(ev Γ a σ).bind fun p=>(asList p.1).bind fun l=>some (.list l.reverse,false,p.2.2)
 | _,_=>none
noncomputable def evs (Γ:Env):I→Sg→Option (List D×Sg)
 | .nil,σ=>some ([],σ)
 | .cons a r,σ=>(ev Γ a σ).bind fun p=>(evs Γ r p.2.2).bind fun q=>some (p.1::q.1,q.2)
 | _,_=>none
noncomputable def evAnd (Γ:Env):I→Sg→Option (D×Sg)
 | .cons a .nil,σ=>(ev Γ a σ).bind fun p=>some (p.1,p.2.2)
 | .cons a r,σ=>(ev Γ a σ).bind fun p=>(zx5 p.1).bind fun b=>bif b then evAnd Γ r p.2.2 else some (p.1,p.2.2)
 | _,_=>none
noncomputable def evOr (Γ:Env):I→Sg→Option (D×Sg)
 | .cons a .nil,σ=>(ev Γ a σ).bind fun p=>some (p.1,p.2.2)
 | .cons a r,σ=>(ev Γ a σ).bind fun p=>(zx5 p.1).bind fun b=>bif b then some (p.1,p.2.2) else evOr Γ r p.2.2
 | _,_=>none
end
noncomputable def tupD:D→Option (List D)
 | .tuple l=>some l
 | _=>none
noncomputable def putAll (σ:Sg):List Nat→List D→Sg
 | k::ks,d::ds=>putAll (put σ k d false) ks ds
 | _,_=>σ
noncomputable def bindT (ks:List Nat) (d:D) (σ:Sg):Option Sg:=(tupD d).bind fun ds=>if ds.length=ks.length then some (putAll σ ks ds) else none
noncomputable def appD (σ:Sg) (k:Nat) (r:List D):Option Out:=(ownL σ k).bind fun l=>if l.length+r.length<size then some (.next (σ.set k (some (.own (.list (l++r)))))) else none
noncomputable def remL (l:List D) (x:D):Option (List D):=if okd x&&l.all okd&&(l.any fun y=>PyData.eqv y x) then some (l.eraseIdx (l.findIdx fun y=>PyData.eqv y x)) else none
noncomputable def ex (Γ:Env):I→Sg→Option Out
 | .nil,σ=>some (.next σ)
 | .pass,σ=>some (.next σ)
 | .cons a b,σ=>(ex Γ a σ).bind (stepO (ex Γ b))
 | .asg k e,σ=>(ev Γ e σ).bind fun p=>some (.next (put p.2.2 k p.1 p.2.1))
 | .sto k key e,σ=>(ev Γ e σ).bind fun v=>if zj4 v.2.2 k then (ev Γ key v.2.2).bind fun x=>(ownD x.2.2 k).bind fun kvs =>
   if zp2 x.1 kvs&&decide (kvs.length<size) then some (.next (x.2.2.set k (some (.own (.dict (dput kvs x.1 v.1)))))) else none
  else none
 | .app k e,σ=>(ownL σ k).bind fun _=>(ev Γ e σ).bind fun p=>appD p.2.2 k [p.1]
 | .ext k e,σ=>(ownL σ k).bind fun _=>(ev Γ e σ).bind fun p=>(extD p.1).bind fun r=>appD p.2.2 k r
 | .clr k,σ=>(ownL σ k).bind fun _=>some (.next (σ.set k (some (.own (.list [])))))
 | .exp e,σ=>(ev Γ e σ).bind fun p=>(zr7 p.1).bind fun _=>some (.next p.2.2)
 | .iff c t e,σ=>(uno c (ev Γ c) σ).bind fun p=>(zx5 p.1).bind fun b=>bif b then ex Γ t p.2 else ex Γ e p.2
 | .whl c b,σ=>zp8 (uno c (ev Γ c)) (ex Γ b) Γ.fuel σ
 | .for1 k s b,σ=>(srcE (ev Γ s) σ).bind fun p=>forN (zu2 k) (ex Γ b) p.1 p.2
 | .rem k e,σ=>(ownL σ k).bind fun _=>(ev Γ e σ).bind fun p=>(ownL p.2.2 k).bind fun l=>(remL l p.1).bind fun l'=>some (.next (p.2.2.set k (some (.own (.list l')))))
 | .fors ks s b,σ=>(srcE (ev Γ s) σ).bind fun p=>forN (bindT ks) (ex Γ b) p.1 p.2
 | .asgs ks e,σ=>(ev Γ e σ).bind fun p=>(tupD p.1).bind fun ds=>if ds.length=ks.length then some (.next (putAll p.2.2 ks ds)) else none
 | .ret e,σ=>(ev Γ e σ).bind fun p=>some (.ret p.1 p.2.1)
 | _,_=>none
theorem noS {α:Type} {a:α} (h:(none:Option α)=some a):False:=nomatch h
theorem asInt_some {d:D} {i:Int} (h:zr7 d=some i):d=.int i:=by
 cases d<;>first|(exact (noS h).elim)|(cases h; rfl)
@[elab_as_elim] theorem asIntK {d:D} {i:Int} {P:D→Prop} (h:zr7 d=some i) (k:P (.int i)):P d:=asInt_some h▸k
theorem asNone_some {d:D} {i:Unit} (h:asNone d=some i):d=.none:=by
 cases d<;>first|(exact (noS h).elim)|rfl
theorem ifS {α:Type} {c:Prop} [Decidable c] {a b:α} (h:(if c then some a else none)=some b):c∧a=b:=by
 by_cases hc:c
 ·rw [if_pos hc] at h; exact ⟨hc,Option.some.inj h⟩
 ·rw [if_neg hc] at h; cases h
@[elab_as_elim] theorem ifK {α:Type} {c:Prop} [Decidable c] {a b:α} {P:α→Prop} (h:(if c then some a else none)=some b) (k:c→P a):P b:=(ifS h).2▸k (ifS h).1
@[elab_as_elim] theorem addK {x y:D} {r:D×Bool} {P:D→D→D×Bool→Prop} (e:addD x y=some r) (h1:∀ i j,P (.int i) (.int j) (.int (i+j),false)) (h2:∀ a b,(a++b).length≤size→P (.list a) (.list b) (.list (a++b),true))
  (h3:∀ a b,(a++b).length≤size→P (.tuple a) (.tuple b) (.tuple (a++b),false)):P x y r:=by
 cases x<;>(try exact (noS e).elim)<;>cases y<;>try exact (noS e).elim
 ·exact Option.some.inj e▸h1 _ _
 ·exact ifK e (h2 _ _)
 ·exact ifK e (h3 _ _)
@[elab_as_elim] theorem as2K {β:Type} {g:Int→Int→Option β} {x y:D} {r:β} {P:D→D→Prop} (e:((zr7 x).bind fun i=>(zr7 y).bind fun j=>g i j)=some r) (k:∀ i j,g i j=some r→P (.int i) (.int j)):P x y:=by
 cases x<;>(try exact (noS e).elim)<;>cases y<;>first|exact (noS e).elim|exact k _ _ e
@[elab_as_elim] theorem int2K {g:Int→Int→Option (D×Bool)} {x y:D} {r:D×Bool} {P:D→D→Prop} (e:int2 g x y=some r) (k:∀ i j,g i j=some r→P (.int i) (.int j)):P x y:=as2K (x:=x) (y:=y) (P:=P) e k
@[elab_as_elim] theorem gtK {x y:D} {b:Bool} {P:D→D→Bool→Prop} (e:gtD x y=some b) (h1:∀ i j:Int,P (.int i) (.int j) (decide (j<i))) (h2:∀ i j:Str,P (.str i) (.str j) (decide (j.cps.toList<i.cps.toList))):P x y b:=by
 cases x<;>(try exact (noS e).elim)<;>cases y<;>try exact (noS e).elim
 ·exact Option.some.inj e▸h1 _ _
 ·exact Option.some.inj e▸h2 _ _
@[elab_as_elim] theorem inK {x y:D} {b:Bool} {P:D→Bool→Prop} (e:inD x y=some b) (h1:∀ l,okd x=true→l.all okd=true→P (.list l) (l.any fun y=>PyData.eqv y x))
  (h2:∀ l,okd x=true→l.all okd=true→P (.tuple l) (l.any fun y=>PyData.eqv y x)) (h3:∀ l,(zj3 x l&&!tkey x)=true→P (.dict l) (zs1 l x).isSome):P y b:=by
 cases y<;>try exact (noS e).elim
 ·exact ifK e fun h=>h1 _ (Bool.and_eq_true_iff.mp h).1 (Bool.and_eq_true_iff.mp h).2
 ·exact ifK e fun h=>h2 _ (Bool.and_eq_true_iff.mp h).1 (Bool.and_eq_true_iff.mp h).2
 ·exact ifK e fun h=>h3 _ h
@[elab_as_elim] theorem idxK {x y d:D} {P:D→D→Prop} (e:idxD x y=some d) (h1:∀ (l:List D) (i:Int),0≤i→l[i.toNat]?=some d→P (.list l) (.int i)) (h2:∀ (l:List D) (i:Int),0≤i→l[i.toNat]?=some d→P (.tuple l) (.int i))
  (h3:∀ l k,zj3 k l=true→zs1 l k=some d→P (.dict l) k):P x y:=by
 have ite:∀ {c:Prop} [Decidable c] {o:Option D} {Q:Prop},(if c then o else none)=some d→(c→o=some d→Q)→Q:=fun {c} _ o Q e k=>by
  by_cases h:c
  ·exact k h ((if_pos h).symm.trans e)
  ·exact (noS ((if_neg h).symm.trans e)).elim
 cases x with
 | list l=>cases y<;>first|exact (noS e).elim|exact ite e (h1 _ _)
 | tuple l=>cases y<;>first|exact (noS e).elim|exact ite e (h2 _ _)
 | dict l=>exact ite e (h3 _ _)
 | _=>exact (noS e).elim
@[elab_as_elim] theorem sliceK {x:D} {lo hi:Option Int} {r:D×Bool} {P:D→Option Int→Option Int→D×Bool→Prop} (e:sliceD x lo hi=some r) (h1:∀ l lo hi,P (.list l) lo hi (.list (zv0 l lo hi),true))
  (h2:∀ l i,1≤i∧i≤(l.length:Int)→P (.tuple l) (some i) none (.tuple (l.drop i.toNat),false)):P x lo hi r:=by
 cases x with
 | list l=>exact Option.some.inj e▸h1 _ _ _
 | tuple l=>cases lo<;>cases hi<;>first|exact (noS e).elim|exact ifK e (h2 _ _)
 | _=>exact (noS e).elim
@[elab_as_elim] theorem lenK {x:D} {r:D×Bool} {P:D→D×Bool→Prop} (e:lenD x=some r) (h1:∀ l,P (.list l) (.int l.length,false)) (h2:∀ l,P (.tuple l) (.int l.length,false)):P x r:=by
 cases x<;>first|exact (noS e).elim|exact Option.some.inj e▸h1 _|exact Option.some.inj e▸h2 _
@[elab_as_elim] theorem seqK {x:D} {l:List D} {P:D→Prop} (e:seqD x=some l) (h1:P (.list l)) (h2:P (.tuple l)):P x:=by
 cases x<;>first|exact (noS e).elim|exact Option.some.inj e▸h1|exact Option.some.inj e▸h2
@[elab_as_elim] theorem extK {x:D} {l:List D} {P:D→Prop} (e:extD x=some l) (h1:P (.list l))
  (h2:P (.tuple l))
  : P x:=by
 cases x<;>first|exact (noS e).elim|exact Option.some.inj e▸h1|exact Option.some.inj e▸h2
theorem iteS {α:Type} {c:Prop} [Decidable c] {a b:Option α} {r:α} {P:Prop} (e:(if c then a else b)=some r) (h1:c→a=some r→P) (h2:b=some r→P):P:=by
 by_cases h:c
 ·exact h1 h ((if_pos h).symm.trans e)
 ·exact h2 ((if_neg h).symm.trans e)
structure Fn where
 params:Nat
 slots:Nat
 body:I
noncomputable abbrev Fns:=List (Str×Fn)
noncomputable def retO:Out→D×Bool
 | .ret d f=>(d,f)
 | .next _=>(.none,false)
noncomputable def run (F:Fns) (gl:Str→Option D) (fuel:Nat):Nat→Str→List D→Option (D×Bool)
 | 0,_,_=>none
 | n+1,g,args=>(F.lookup g).bind fun fn=>if args.length=fn.params then
   (ex (mkEnv (run F gl fuel n) gl fuel) fn.body (args.map (fun d=>some (.val d))++List.replicate (fn.slots - fn.params) none)).bind fun o=>some (retO o)
  else none
theorem zj7 {i j:Int}:ltD (.int i) (.int j)=some (decide (i<j)):=rfl
theorem lt_ss {x y:Str}:ltD (.str x) (.str y)=some (decide (x.cps.toList<y.cps.toList)):=rfl
theorem lt_tt {x y:List D}:ltD (.tuple x) (.tuple y)=ltL x y:=rfl
@[elab_as_elim] theorem ltK {x y:D} {b:Bool} {P:D→D→Bool→Prop} (e:ltD x y=some b) (h1:∀ i j:Int,P (.int i) (.int j) (decide (i<j))) (h2:∀ i j:Str,P (.str i) (.str j) (decide (i.cps.toList<j.cps.toList)))
  (h3:∀ i j b,ltL i j=some b→P (.tuple i) (.tuple j) b)
  : P x y b:=by
 cases x<;>(try exact (noS e).elim)<;>cases y<;>try exact (noS e).elim
 ·exact Option.some.inj e▸h1 _ _
 ·exact Option.some.inj e▸h2 _ _
 ·exact h3 _ _ _ e
theorem eq_ev_cint {Γ:Env} {σ:Sg} {i:Int}:ev Γ (.cint i) σ=some (.int i,false,σ):=rfl
theorem eq_ev_var {Γ:Env} {σ:Sg} {k:Nat}:ev Γ (.var k) σ=useS σ k:=rfl
theorem eq_ev_bin {Γ:Env} {σ:Sg} {op:Operator} {a b:I}:ev Γ (.bin op a b) σ=(duo a (ev Γ a) b (ev Γ b) σ).bind fun p=>(binD op p.1 p.2.1).bind fun q=>some (q.1,q.2,p.2.2):=rfl
theorem eq_ev_and {Γ:Env} {σ:Sg} {l:I}:ev Γ (.and l) σ=(evAnd Γ l σ).bind fun p=>some (p.1,false,p.2):=rfl
theorem eq_ev_cmp {Γ:Env} {σ:Sg} {op:CmpOp} {a b:I}:ev Γ (.cmp op a b) σ=(duo a (ev Γ a) b (ev Γ b) σ).bind fun p=>(cmpD op p.1 p.2.1).bind fun r=>some (.bool r,false,p.2.2):=rfl
theorem eq_ev_cmp2 {Γ:Env} {σ:Sg} {o1 o2:CmpOp} {a b c:I}:ev Γ (.cmp2 o1 o2 a b c) σ=(ev Γ a σ).bind fun x=>(ev Γ b x.2.2).bind fun y=>(cmpD o1 x.1 y.1).bind fun r=>bif r then (ev Γ c y.2.2).bind fun z=>(cmpD o2 y.1 z.1).bind fun q=>some (.bool q,false,z.2.2) else some (.bool false,false,y.2.2):=rfl
theorem zv7 {Γ:Env} {σ:Sg} {elt s cond:I}:ev Γ (.comp1 elt s cond) σ=(srcE (ev Γ s) σ).bind fun p=>(zi9 σ.length (zp5 cond (ev Γ cond)) (ev Γ elt) p.1 p.2).bind fun q=>(mkL q.1).bind fun r=>some (r.1,r.2,q.2):=rfl
theorem eq_ev_compT {Γ:Env} {σ:Sg} {m:Nat} {elt s cond:I}:ev Γ (.compT m elt s cond) σ=(srcE (ev Γ s) σ).bind fun p=>(zj2 σ.length (tupN m) (zp5 cond (ev Γ cond)) (ev Γ elt) p.1 p.2).bind fun q=>(mkL q.1).bind fun r=>some (r.1,r.2,q.2):=rfl
theorem eq_ev_zip {Γ:Env} {σ:Sg} {a b:I}:ev Γ (.zip a b) σ=(ev Γ a σ).bind fun p=>(asList p.1).bind fun xs=>(ev Γ b p.2.2).bind fun q=>(asTup q.1).bind fun ys=>some (.list (zipL xs ys),false,q.2.2):=rfl
theorem eq_ev_call {Γ:Env} {σ:Sg} {g:Str} {l:I}:ev Γ (.call g l) σ=(evs Γ l σ).bind fun p=>(Γ.call g p.1).bind fun q=>some (q.1,q.2,p.2):=rfl
theorem zm2 {Γ:Env} {σ:Sg} {p:Prim} {a:I}:ev Γ (.prim1 p a) σ=(uno a (ev Γ a) σ).bind fun x=>(prim1D p x.1).bind fun q=>some (q.1,q.2,x.2):=rfl
theorem zw9 {Γ:Env} {σ:Sg} {a lo hi:I}:ev Γ (.slc a lo hi) σ=(opn a (ev Γ a) σ).bind fun o=>(bndE lo (ev Γ lo) o.2).bind fun l=>(bndE hi (ev Γ hi) l.2).bind fun h=>(res o.1 h.2).bind fun d=>(sliceD d l.1 h.1).bind fun r=>some (r.1,r.2,h.2):=rfl
theorem eq_evs_nil {Γ:Env} {σ:Sg}:evs Γ (.nil) σ=some ([],σ):=rfl
theorem eq_evs_cons {Γ:Env} {σ:Sg} {a r:I}:evs Γ (.cons a r) σ=(ev Γ a σ).bind fun p=>(evs Γ r p.2.2).bind fun q=>some (p.1::q.1,q.2):=rfl
theorem eq_evAnd_last {Γ:Env} {σ:Sg} {a:I}:evAnd Γ (.cons a .nil) σ=(ev Γ a σ).bind fun p=>some (p.1,p.2.2):=rfl
theorem eq_evAnd_more {Γ:Env} {σ:Sg} {a a2 r:I}:evAnd Γ (.cons a (.cons a2 r)) σ=(ev Γ a σ).bind fun p=>(zx5 p.1).bind fun b=>bif b then evAnd Γ (.cons a2 r) p.2.2 else some (p.1,p.2.2):=rfl
theorem zz1 {Γ:Env} {σ:Sg} {a b:I}:ex Γ (.cons a b) σ=(ex Γ a σ).bind (stepO (ex Γ b)):=rfl
theorem zk3 {Γ:Env} {σ:Sg} {k:Nat} {e:I}:ex Γ (.asg k e) σ=(ev Γ e σ).bind fun p=>some (.next (put p.2.2 k p.1 p.2.1)):=rfl
theorem eq_ex_sto {Γ:Env} {σ:Sg} {k:Nat} {key e:I}:ex Γ (.sto k key e) σ=(ev Γ e σ).bind fun v=>if zj4 v.2.2 k then (ev Γ key v.2.2).bind fun x=>(ownD x.2.2 k).bind fun kvs=>if zp2 x.1 kvs&&decide (kvs.length<size) then some (.next (x.2.2.set k (some (.own (.dict (dput kvs x.1 v.1)))))) else none else none:=rfl
theorem eq_ex_clr {Γ:Env} {σ:Sg} {k:Nat}:ex Γ (.clr k) σ=(ownL σ k).bind fun _=>some (.next (σ.set k (some (.own (.list []))))):=rfl
theorem eq_ex_exp {Γ:Env} {σ:Sg} {e:I}:ex Γ (.exp e) σ=(ev Γ e σ).bind fun p=>(zr7 p.1).bind fun _=>some (.next p.2.2):=rfl
theorem zz6 {Γ:Env} {σ:Sg} {c t e:I}:ex Γ (.iff c t e) σ=(uno c (ev Γ c) σ).bind fun p=>(zx5 p.1).bind fun b=>bif b then ex Γ t p.2 else ex Γ e p.2:=rfl
theorem eq_ex_whl {Γ:Env} {σ:Sg} {c b:I}:ex Γ (.whl c b) σ=zp8 (uno c (ev Γ c)) (ex Γ b) Γ.fuel σ:=rfl
theorem zz4 {Γ:Env} {σ:Sg} {k:Nat} {s b:I}:ex Γ (.for1 k s b) σ=(srcE (ev Γ s) σ).bind fun p=>forN (zu2 k) (ex Γ b) p.1 p.2:=rfl
theorem eq_ex_asgs {Γ:Env} {σ:Sg} {ks:List Nat} {e:I}:ex Γ (.asgs ks e) σ=(ev Γ e σ).bind fun p=>(tupD p.1).bind fun ds=>if ds.length=ks.length then some (.next (putAll p.2.2 ks ds)) else none:=rfl
theorem zo8 {Γ:Env} {σ:Sg} {ks:List Nat} {s b:I}:ex Γ (.fors ks s b) σ=(srcE (ev Γ s) σ).bind fun p=>forN (bindT ks) (ex Γ b) p.1 p.2:=rfl
theorem eq_ex_rem {Γ:Env} {σ:Sg} {k:Nat} {e:I}:ex Γ (.rem k e) σ=(ownL σ k).bind fun _=>(ev Γ e σ).bind fun p=>(ownL p.2.2 k).bind fun l=>(remL l p.1).bind fun l'=>some (.next (p.2.2.set k (some (.own (.list l'))))):=rfl
theorem zr5 {Γ:Env} {σ:Sg} {e:I}:ex Γ (.ret e) σ=(ev Γ e σ).bind fun p=>some (.ret p.1 p.2.1):=rfl
end Mini
end
section
namespace Mini
open PySem
mutual
theorem zw1:∀ {a b:D},zz5 a=true→zz5 b=true→(PyData.eqv a b=true↔a=b)
 | .int i,.int j,_,_=>(beq_iff_eq (a:=i) (b:=j)).trans ⟨congrArg _,PyData.int.inj⟩
 | .str i,.str j,_,_=>(beq_iff_eq (a:=i) (b:=j)).trans ⟨congrArg _,PyData.str.inj⟩
 | .tuple _,.tuple _,ha,hb=>(zp4 ha hb).trans ⟨congrArg _,PyData.tuple.inj⟩
 | .int _,.str _,_,_=>⟨fun h=>(Bool.false_ne_true h).elim,nofun⟩
 | .int _,.tuple _,_,_=>⟨fun h=>(Bool.false_ne_true h).elim,nofun⟩
 | .str _,.int _,_,_=>⟨fun h=>(Bool.false_ne_true h).elim,nofun⟩
 | .str _,.tuple _,_,_=>⟨fun h=>(Bool.false_ne_true h).elim,nofun⟩
 | .tuple _,.int _,_,_=>⟨fun h=>(Bool.false_ne_true h).elim,nofun⟩
 | .tuple _,.str _,_,_=>⟨fun h=>(Bool.false_ne_true h).elim,nofun⟩
 | .none,_,h,_=>(Bool.false_ne_true h).elim
 | .bool _,_,h,_=>(Bool.false_ne_true h).elim
 | .list _,_,h,_=>(Bool.false_ne_true h).elim
 | .dict _,_,h,_=>(Bool.false_ne_true h).elim
 | _,.none,_,h=>(Bool.false_ne_true h).elim
 | _,.bool _,_,h=>(Bool.false_ne_true h).elim
 | _,.list _,_,h=>(Bool.false_ne_true h).elim
 | _,.dict _,_,h=>(Bool.false_ne_true h).elim
theorem zp4:∀ {xs ys:List D},zt7 xs=true→zt7 ys=true→(PyData.eqvAll xs ys=true↔xs=ys)
 | [],[],_,_=>⟨fun _=>rfl,fun _=>rfl⟩
 | [],_::_,_,_=>⟨fun h=>(Bool.false_ne_true h).elim,nofun⟩
 | _::_,[],_,_=>⟨fun h=>(Bool.false_ne_true h).elim,nofun⟩
 | x::xs,y::ys,ha,hb=>by
  have ha:=Bool.and_eq_true_iff.mp ha
  have hb:=Bool.and_eq_true_iff.mp hb
  show (PyData.eqv x y&&PyData.eqvAll xs ys)=true↔_
  rw [Bool.and_eq_true,zw1 ha.1 hb.1,zp4 ha.2 hb.2,List.cons.injEq]
end
theorem zo1 {a:D} (h:zz5 a=true):PyData.eqv a a=true:=(zw1 h h).mpr rfl
mutual
theorem lt_irrefl:∀ {a:D},zz5 a=true→ltD a a≠some true
 | .int i,_=>by simp [zj7,lt_ss,lt_tt]
 | .str i,_=>by simp [zj7,lt_ss,lt_tt]
 | .tuple xs,h=>by
  simp only [zj7,lt_ss,lt_tt,zz5] at *
  exact ltL_irrefl h
 | .none,h=>(Bool.false_ne_true h).elim
 | .bool _,h=>(Bool.false_ne_true h).elim
 | .list _,h=>(Bool.false_ne_true h).elim
 | .dict _,h=>(Bool.false_ne_true h).elim
theorem ltL_irrefl:∀ {xs:List D},zt7 xs=true→ltL xs xs≠some true
 | [],_=>by simp [ltL]
 | x::xs,h=>by
  simp only [zt7,Bool.and_eq_true] at h
  simp only [ltL,zo1 h.1,if_true]
  exact ltL_irrefl h.2
end
theorem lt_i {i:Int} {b:D} {r:Bool} (h:ltD (.int i) b=some r):∃ j,b=.int j:=by
 cases b<;>first|exact (noS h).elim|exact ⟨_,rfl⟩
theorem lt_s {i:Str} {b:D} {r:Bool} (h:ltD (.str i) b=some r):∃ j,b=.str j:=by
 cases b<;>first|exact (noS h).elim|exact ⟨_,rfl⟩
theorem lt_t {i:List D} {b:D} {r:Bool} (h:ltD (.tuple i) b=some r):∃ j,b=.tuple j:=by
 cases b<;>first|exact (noS h).elim|exact ⟨_,rfl⟩
mutual
theorem lt_trans:∀ {a b c:D},zz5 a=true→zz5 b=true→zz5 c=true→ltD a b=some true→ltD b c=some true→ltD a c=some true
 | .int i,b,c,_,_,_,h1,h2=>by
  obtain ⟨j,rfl⟩:=lt_i h1
  obtain ⟨k,rfl⟩:=lt_i h2
  simp only [zj7,Option.some.injEq,decide_eq_true_eq] at *
  bv_omega
 | .str i,b,c,_,_,_,h1,h2=>by
  obtain ⟨j,rfl⟩:=lt_s h1
  obtain ⟨k,rfl⟩:=lt_s h2
  simp only [lt_ss,Option.some.injEq,decide_eq_true_eq] at *
  exact List.lt_trans h1 h2
 | .tuple xs,b,c,ha,hb,hc,h1,h2=>by
  obtain ⟨ys,rfl⟩:=lt_t h1
  obtain ⟨zs,rfl⟩:=lt_t h2
  exact ltL_trans (xs:=xs) ha hb hc h1 h2
 | .none,_,_,h,_,_,_,_=>(Bool.false_ne_true h).elim
 | .bool _,_,_,h,_,_,_,_=>(Bool.false_ne_true h).elim
 | .list _,_,_,h,_,_,_,_=>(Bool.false_ne_true h).elim
 | .dict _,_,_,h,_,_,_,_=>(Bool.false_ne_true h).elim
theorem ltL_trans:∀ {xs ys zs:List D},zt7 xs=true→zt7 ys=true→zt7 zs=true→ltL xs ys=some true→ltL ys zs=some true→ltL xs zs=some true
 | [],_,[],_,_,_,h1,h2=>by
  cases ‹List D› with
  | nil=>simp [ltL] at h1
  | cons _ _=>simp [ltL] at h2
 | [],_,_::_,_,_,_,_,_=>by simp [ltL]
 | _::_,[],_,_,_,_,h1,_=>by simp [ltL] at h1
 | _::_,_::_,[],_,_,_,_,h2=>by simp [ltL] at h2
 | x::xs,y::ys,z::zs,ha,hb,hc,h1,h2=>by
  simp only [zt7,Bool.and_eq_true] at ha hb hc
  simp only [ltL] at *
  by_cases e1:PyData.eqv x y=true
  ·rw [if_pos e1] at h1
   have e1':=(zw1 ha.1 hb.1).mp e1
   subst e1'
   by_cases e2:PyData.eqv x z=true
   ·rw [if_pos e2] at h2 ⊢
    exact ltL_trans ha.2 hb.2 hc.2 h1 h2
   ·rw [if_neg e2] at h2 ⊢
    exact h2
  ·rw [if_neg e1] at h1
   by_cases e2:PyData.eqv y z=true
   ·have e2':=(zw1 hb.1 hc.1).mp e2
    subst e2'
    rw [if_neg e1]; exact h1
   ·rw [if_neg e2] at h2
    have h3:=lt_trans ha.1 hb.1 hc.1 h1 h2
    have e3:¬ PyData.eqv x z=true:=fun e=>by
     have e':=(zw1 ha.1 hc.1).mp e
     subst e'
     exact lt_irrefl ha.1 h3
    rw [if_neg e3]; exact h3
end
mutual
theorem lt_total:∀ {a b:D},zz5 a=true→zz5 b=true→ltD a b=some false→a≠b→ltD b a=some true
 | .int i,b,_,_,h,hn=>by
  obtain ⟨j,rfl⟩:=lt_i h
  simp only [zj7,lt_ss,lt_tt,Option.some.injEq,decide_eq_false_iff_not,decide_eq_true_eq] at *
  have:i≠j:=fun e=>hn (by rw [e])
  bv_omega
 | .str i,b,_,_,h,hn=>by
  obtain ⟨j,rfl⟩:=lt_s h
  simp only [zj7,lt_ss,lt_tt,Option.some.injEq,decide_eq_false_iff_not,decide_eq_true_eq] at *
  have hne:i.cps.toList≠j.cps.toList:=fun e=>hn (by
   obtain ⟨ci⟩:=i
   obtain ⟨cj⟩:=j
   have:ci=cj:=Array.toList_inj.mp e
   rw [this])
  by_cases q:j.cps.toList<i.cps.toList
  ·exact q
  ·exact absurd (List.le_antisymm (List.not_lt.mp q) (List.not_lt.mp h)) hne
 | .tuple xs,b,ha,hb,h,hn=>by
  obtain ⟨ys,rfl⟩:=lt_t h
  simp only [zj7,lt_ss,lt_tt,zz5] at *
  exact ltL_total ha hb h (fun e=>hn (by rw [e]))
 | .none,_,h,_,_,_=>(Bool.false_ne_true h).elim
 | .bool _,_,h,_,_,_=>(Bool.false_ne_true h).elim
 | .list _,_,h,_,_,_=>(Bool.false_ne_true h).elim
 | .dict _,_,h,_,_,_=>(Bool.false_ne_true h).elim
theorem ltL_total:∀ {xs ys:List D},zt7 xs=true→zt7 ys=true→ltL xs ys=some false→xs≠ys→ltL ys xs=some true
 | [],[],_,_,_,hn=>absurd rfl hn
 | [],_::_,_,_,h,_=>by simp [ltL] at h
 | _::_,[],_,_,_,_=>by simp [ltL]
 | x::xs,y::ys,ha,hb,h,hn=>by
  simp only [zt7,Bool.and_eq_true] at ha hb
  simp only [ltL] at *
  by_cases e1:PyData.eqv x y=true
  ·rw [if_pos e1] at h
   have e1':=(zw1 ha.1 hb.1).mp e1
   subst e1'
   rw [if_pos (zo1 ha.1)]
   exact ltL_total ha.2 hb.2 h (fun e=>hn (by rw [e]))
  ·rw [if_neg e1] at h
   have e2:¬ PyData.eqv y x=true:=fun e=>e1 (by rw [(zw1 hb.1 ha.1).mp e]; exact zo1 ha.1)
   rw [if_neg e2]
   exact lt_total ha.1 hb.1 h (fun e=>e1 (by rw [e]; exact zo1 hb.1))
end
noncomputable def leD (a b:D):Prop:=ltD b a≠some true
structure Cmp (l:List D):Prop where
 plain:∀ a∈l,zz5 a=true
 some_:∀ a∈l,∀ b∈l,(ltD a b).isSome=true
theorem Cmp.tail {x:D} {l:List D} (h:Cmp (x::l)):Cmp l:=⟨fun a ha=>h.plain a (List.mem_cons_of_mem _ ha),fun a ha b hb=>h.some_ a (List.mem_cons_of_mem _ ha) b (List.mem_cons_of_mem _ hb)⟩
theorem Cmp.perm {l l':List D} (h:Cmp l) (p:l'.Perm l):Cmp l':=⟨fun a ha=>h.plain a (p.mem_iff.mp ha),fun a ha b hb=>h.some_ a (p.mem_iff.mp ha) b (p.mem_iff.mp hb)⟩
theorem Cmp.lt_or {l:List D} (h:Cmp l) {a b:D} (ha:a∈l) (hb:b∈l) (hn:ltD a b≠some true):ltD b a=some true∨a=b:=by
 by_cases e:a=b
 ·exact .inr e
 ·left
  obtain ⟨c,hc⟩:=Option.isSome_iff_exists.mp (h.some_ a ha b hb)
  cases c with
  | true=>exact absurd hc hn
  | false=>exact lt_total (h.plain a ha) (h.plain b hb) hc e
theorem Cmp.le_trans {l:List D} (h:Cmp l) {a b c:D} (ha:a∈l) (hb:b∈l) (hc:c∈l) (h1:leD a b) (h2:leD b c):leD a c:=by
 intro h3
 rcases h.lt_or hb ha h1 with q|rfl
 ·exact h2 (lt_trans (h.plain c hc) (h.plain a ha) (h.plain b hb) h3 q)
 ·exact h2 h3
theorem Cmp.antisymm {l:List D} (h:Cmp l) {a b:D} (ha:a∈l) (hb:b∈l) (h1:leD a b) (h2:leD b a):a=b:=by
 rcases h.lt_or hb ha h1 with q|q
 ·exact absurd q h2
 ·exact q.symm
theorem ins_perm (x:D):∀ l:List D,(insD x l).Perm (x::l)
 | []=>List.Perm.refl _
 | y::r=>by
  unfold insD
  split
  ·exact ((ins_perm x r).cons y).trans (List.Perm.swap x y r)
  ·exact List.Perm.refl _
theorem zz2:∀ l:List D,(zx6 l).Perm l
 | []=>List.Perm.refl _
 | x::r=>(ins_perm x _).trans ((zz2 r).cons x)
set_option tactic.hygienic true in
theorem ins_sorted {x:D}:∀ {l:List D},Cmp (x::l)→l.Pairwise leD→(insD x l).Pairwise leD
 | [],_,_=>by simp [insD]
 | y::r,h,hs=>by
  rw [List.pairwise_cons] at hs
  unfold insD
  split
  ·rename_i hlt
   simp only [beq_iff_eq] at hlt
   have hc:Cmp (x::r):=⟨fun a ha=>h.plain a (by rcases List.mem_cons.mp ha with e|e<;>simp [e]),fun a ha b hb=>h.some_ a (by rcases List.mem_cons.mp ha with e|e<;>simp [e]) b (by rcases List.mem_cons.mp hb with e|e<;>simp [e])⟩
   rw [List.pairwise_cons]
   refine ⟨fun z hz=>?_,ins_sorted hc hs.2⟩
   have hz':=(ins_perm x r).mem_iff.mp hz
   rcases List.mem_cons.mp hz' with rfl|hz'
   ·intro q
    exact lt_irrefl (h.plain z (by simp)) (lt_trans (h.plain z (by simp)) (h.plain y (by simp)) (h.plain z (by simp)) q hlt)
   ·exact hs.1 z hz'
  ·rename_i hlt
   simp only [beq_iff_eq] at hlt
   rw [List.pairwise_cons]
   refine ⟨fun z hz=>?_,List.pairwise_cons.mpr hs⟩
   rcases List.mem_cons.mp hz with rfl|hz
   ·exact hlt
   ·exact h.le_trans (b:=y) (by simp) (by simp) (by simp [hz]) hlt (hs.1 z hz)
theorem zu3:∀ {l:List D},Cmp l→(zx6 l).Pairwise leD
 | [],_=>List.Pairwise.nil
 | x::r,h=>ins_sorted (h.perm ((zz2 r).cons x)) (zu3 h.tail)
theorem zt3:∀ {l l':List D},Cmp l→l.Pairwise leD→l'.Pairwise leD→l.Perm l'→l=l'
 | [],l',_,_,_,p=>by rw [List.nil_perm] at p; exact p.symm
 | x::r,[],_,_,_,p=>by have:=p.length_eq; simp at this
 | x::r,y::t,h,hs,hs',p=>by
  rw [List.pairwise_cons] at hs hs'
  have hx:x∈y::t:=p.mem_iff.mp (by simp)
  have hy:y∈x::r:=p.mem_iff.mpr (by simp)
  have e:x=y:=by
   rcases List.mem_cons.mp hx with e|hx'
   ·exact e
   ·rcases List.mem_cons.mp hy with e|hy'
    ·exact e.symm
    ·exact h.antisymm (by simp) (by simp [hy']) (hs.1 y hy') (hs'.1 x hx')
  subst e
  rw [zt3 h.tail hs.2 hs'.2 ((List.perm_cons x).mp p)]
theorem zo9 {l l':List D} (h:Cmp l) (p:l'.Perm l) (hs:l'.Pairwise leD):l'=zx6 l :=
 zt3 (h.perm p) hs (zu3 h) (p.trans (zz2 l).symm)
theorem zm4 {l:List D} (h:sortable l=true):Cmp l:=by
 unfold sortable at h
 simp only [Bool.and_eq_true,List.all_eq_true] at h
 exact ⟨h.1.1.2,fun a ha b hb=>h.2 a ha b hb⟩
noncomputable def zl6 (l:List D) (d:D):Nat:=(l.filter fun x=>ltD x d==some true).length
theorem filter_sub {α:Type} {p q:α→Bool}:∀ {l:List α},(∀ x∈l,p x=true→q x=true)→(l.filter p).length≤(l.filter q).length
 | [],_=>Nat.le_refl _
 | x::r,h=>by
  have ih:=filter_sub (l:=r) fun y hy=>h y (List.mem_cons_of_mem _ hy)
  by_cases hp:p x=true
  ·simp [List.filter_cons,hp,h x (by simp) hp,ih]
  ·by_cases hq:q x=true<;>simp [List.filter_cons,hp,hq]<;>bv_omega
theorem filter_lt {α:Type} {p q:α→Bool} {a:α}:∀ {l:List α},(∀ x∈l,p x=true→q x=true)→a∈l→p a=false→q a=true→(l.filter p).length<(l.filter q).length
 | [],_,h,_,_=>by simp at h
 | x::r,h,ha,hp,hq=>by
  have hs:=filter_sub (l:=r) fun y hy=>h y (List.mem_cons_of_mem _ hy)
  rcases List.mem_cons.mp ha with rfl|ha
  ·simp [List.filter_cons,hp,hq]; bv_omega
  ·have ih:=filter_lt (l:=r) (fun y hy=>h y (List.mem_cons_of_mem _ hy)) ha hp hq
   by_cases hp':p x=true
   ·simp [List.filter_cons,hp',h x (by simp) hp',ih]
   ·by_cases hq':q x=true<;>simp [List.filter_cons,hp',hq']<;>bv_omega
theorem rank_lt {l:List D} (h:Cmp l) {a b:D} (ha:a∈l) (hb:b∈l):ltD a b=some (decide (zl6 l a<zl6 l b)):=by
 obtain ⟨c,hc⟩:=Option.isSome_iff_exists.mp (h.some_ a ha b hb)
 cases c with
 | true =>
  have:zl6 l a<zl6 l b:=filter_lt (a:=a) (fun x hx hp=>by
   simp only [beq_iff_eq] at hp ⊢
   exact lt_trans (h.plain x hx) (h.plain a ha) (h.plain b hb) hp hc) ha (by
    have:=lt_irrefl (h.plain a ha)
    simpa using this) (by simpa using hc)
  rw [hc,decide_eq_true this]
 | false =>
  have:¬ zl6 l a<zl6 l b:=Nat.not_lt.mpr (filter_sub fun x hx hp=>by
   simp only [beq_iff_eq] at hp ⊢
   rcases h.lt_or ha hb (by rw [hc]; simp) with q|rfl
   ·exact lt_trans (h.plain x hx) (h.plain b hb) (h.plain a ha) hp q
   ·exact hp)
  rw [hc,decide_eq_false this]
end Mini
end
section
namespace Mini
open PySem
noncomputable abbrev Nu:=Str→Option Nat
noncomputable def zk1 (x:Str):Bool:=x != "__debug__" && x != "__classdict__"
noncomputable def zw5 (sc:Scope) (ν:Nu) (x:Str):Bool:=sc.names.lookup x==some .globalImplicit&&(ν x).isNone&&zk1 x
noncomputable def zk4 (outer:Scope) (ν:Nu) (xs:List Str) (csc:Scope):Bool :=
 csc.kind==.function&&xs.all (fun x=>csc.names.lookup x==some .local&&zk1 x&&x != ".0") &&
 csc.names.all fun p=>p.2 != .cell&&p.2 != .globalExplicit&&csc.names.lookup p.1==some p.2 &&
  (p.2 != .free||(outer.names.lookup p.1==some .cell&&zk1 p.1&&(ν p.1).isSome))
noncomputable def zw4 (n:Nat) (ν:Nu) (xs:List Str) (csc:Scope):Nu:=fun y =>
 match xs.idxOf? y with
 | some i=>some (n+i)
 | none=>if csc.names.lookup y==some .free then ν y else none
set_option genInjectivity false in
inductive Tg where
 | ex (t:Bool) (e:Expr)|exs (es:List Expr)|opt (o:Option Expr)|ifs (l:List Expr)|st (s:Stmt)|sts (l:List Stmt)
structure Sl (ν:Nu) (k:Nat) (x:Str):Prop where
 at':ν x=some k
 ok:zk1 x=true
noncomputable def okE:Expr→Bool
 | .Set _ _ _=>false
 | .Starred _ _=>false
 | .Slice _ _ _ _=>false
 | .SetComp _ _ _ _=>false
 | .DictComp _ _ _ _ _=>false
 | _=>true
noncomputable def okT:Tg→Prop
 | .ex _ e=>okE e=true
 | .exs es=>∀ e∈es,okE e=true
 | _=>True
end Mini
end
section
namespace Snd
open PySem Mini
theorem wpM {α:Type} {M:Model} {A:Around} {E:Value→Shared→Prop} {s:Shared} {t:Sem α} {Q Q':α→Shared→Prop} (h:wpAny M A t Q E s) (hQ:∀ a s,Q a s→Q' a s):wpAny M A t Q' E s:=wpAny_mono h hQ fun _ _ x=>x
noncomputable abbrev Fz:=Addr→Option Obj
noncomputable def Fz.In (F:Fz) (h:Heap):Prop:=∀ a o,F a=some o→h.get? a=some o
noncomputable def Fz.le (F G:Fz):Prop:=∀ a o,F a=some o→G a=some o
noncomputable def Fz.add (F:Fz) (a:Addr) (o:Obj):Fz:=fun b=>if b=a then some o else F b
theorem Fz.le_refl (F:Fz):F.le F:=fun _ _ e=>e
theorem Fz.le.trans {F G H:Fz} (x:F.le G) (y:G.le H):F.le H:=fun a o e=>y a o (x a o e)
theorem Fz.add_self (F:Fz) (a:Addr) (o:Obj):F.add a o a=some o:=by simp [Fz.add]
theorem Fz.add_other (F:Fz) {a b:Addr} (o:Obj) (h:b≠a):F.add a o b=F b:=by simp [Fz.add,h]
theorem Fz.le_add {F:Fz} {a:Addr} (o:Obj) (h:F a=none):F.le (F.add a o):=fun b p e=>by
 by_cases hb:b=a
 ·subst hb; rw [h] at e; cases e
 ·rw [Fz.add_other F o hb]; exact e
theorem Fz.in_add {F:Fz} {h:Heap} {a:Addr} {o:Obj} (x:F.In h) (e:h.get? a=some o):(F.add a o).In h:=fun b p q=>by
 by_cases hb:b=a
 ·subst hb; rw [Fz.add_self] at q; cases q; exact e
 ·rw [Fz.add_other F o hb] at q; exact x b p q
mutual
noncomputable def hashD (w:World):D→Int
 | .int i=>hashInt i
 | .str s=>if s.cps.isEmpty then 0 else reduceHash (w.params.strHash s.cps)
 | .tuple l=>reduceHash (Builtin.Tuple.tupleHashOf (hashL w l))
 | _=>0
noncomputable def hashL (w:World):List D→List Int
 | []=>[]
 | x::r=>hashD w x::hashL w r
end
noncomputable abbrev lobj (vs:Array Value) (n:Nat):Obj:={ cls:=.type "list", data:=.seq vs n }
noncomputable abbrev tobj (vs:Array Value) (n:Nat):Obj:={ cls:=.type "tuple", data:=.seq vs n }
noncomputable abbrev dobj (es:Array DictEntry) (n:Nat):Obj:={ cls:=.type "dict", data:=.dict es n }
noncomputable def DKeys (kvs:List (D×D)):Prop:=kvs.length≤size∧(kvs.map (·.1)).Nodup
mutual
noncomputable def Rep (w:World) (F:Fz):D→Value→Prop
 | .none,v=>v=.none
 | .bool b,v=>v=.bool b
 | .int i,v=>∃ t,v=.int i t
 | .str s,v=>∃ t,v=.str s t
 | .list xs,v=>xs.length≤size∧∃ a o vs n,v=.ref a∧F a=some o∧o.cls=.type "list" ∧ o.data=.seq vs n∧RepL w F xs vs.toList
 | .tuple xs,v=>xs.length≤size∧∃ a vs n,v=.ref a∧F a=some (tobj vs n)∧RepL w F xs vs.toList
 | .dict kvs,v=>DKeys kvs∧∃ a es n,v=.ref a∧F a=some (dobj es n)∧RepKV w F kvs es.toList∧sysModules<a
noncomputable def RepL (w:World) (F:Fz):List D→List Value→Prop
 | [],vs=>vs=[]
 | d::ds,vs=>∃ v r,vs=v::r∧Rep w F d v∧RepL w F ds r
noncomputable def RepKV (w:World) (F:Fz):List (D×D)→List DictEntry→Prop
 | [],es=>es=[]
 | p::r,es=>∃ e t,es=e::t∧RepP w F p e∧RepKV w F r t
noncomputable def RepP (w:World) (F:Fz):D×D→DictEntry→Prop
 | (k,v),e=>e.hash=hashD w k∧Rep w F k e.key∧Rep w F v e.val
end
theorem rep_tup {w:World} {F:Fz} {xs:List D} {a:Addr} {vs:Array Value} {n:Nat} (hz:xs.length≤size) (h:F a=some (tobj vs n)) (r:RepL w F xs vs.toList):Rep w F (.tuple xs) (.ref a) :=
 show _∧_ from ⟨hz,a,vs,n,rfl,h,r⟩
theorem rep_int {w:World} {F:Fz} {i:Int} {t:Tok}:Rep w F (.int i) (.int i t):=show ∃ _,_ from ⟨t,rfl⟩
mutual
theorem Rep.mono {w:World} {F G:Fz} (l:F.le G):∀ (d:D) {v:Value},Rep w F d v→Rep w G d v
 | .none,_,h=>by simpa [Rep] using h
 | .bool _,_,h=>by simpa [Rep] using h
 | .int _,_,h=>by simpa [Rep] using h
 | .str _,_,h=>by simpa [Rep] using h
 | .list xs,_,h=>by
  simp only [Rep] at h ⊢
  refine elAEEEEAAAA (h) fun hz a o vs n e h1 hc hd h4=>?_
  exact ⟨hz,a,o,vs,n,e,l _ _ h1,hc,hd,RepL.mono l xs h4⟩
 | .tuple xs,_,h=>by
  simp only [Rep] at h ⊢
  refine elAEEEAA (h) fun hz a vs n e h1 h4=>?_
  exact ⟨hz,a,vs,n,e,l _ _ h1,RepL.mono l xs h4⟩
 | .dict xs,_,h=>by
  simp only [Rep] at h ⊢
  refine elAEEEAA (h) fun hz a vs n e h1 h4=>?_
  exact ⟨hz,a,vs,n,e,l _ _ h1,RepKV.mono l xs h4.1,h4.2⟩
theorem RepL.mono {w:World} {F G:Fz} (l:F.le G):∀ (ds:List D) {vs:List Value},RepL w F ds vs→RepL w G ds vs
 | [],_,h=>by simpa [RepL] using h
 | d::ds,_,h=>by
  simp only [RepL] at h ⊢
  refine elEEAA (h) fun v r e h1 h2=>?_
  exact ⟨v,r,e,Rep.mono l d h1,RepL.mono l ds h2⟩
theorem RepKV.mono {w:World} {F G:Fz} (l:F.le G):∀ (ds:List (D×D)) {vs:List DictEntry},RepKV w F ds vs→RepKV w G ds vs
 | [],_,h=>by simpa [RepKV] using h
 | d::ds,_,h=>by
  simp only [RepKV] at h ⊢
  refine elEEAA (h) fun v r e h1 h2=>?_
  exact ⟨v,r,e,RepP.mono l d h1,RepKV.mono l ds h2⟩
theorem RepP.mono {w:World} {F G:Fz} (l:F.le G):∀ (d:D×D) {e:DictEntry},RepP w F d e→RepP w G d e
 | (k,v),_,h=>by
  simp only [RepP] at h ⊢
  exact ⟨h.1,Rep.mono l k h.2.1,Rep.mono l v h.2.2⟩
end
theorem RepL.length {w:World} {F:Fz}:∀ {ds:List D} {vs:List Value},RepL w F ds vs→vs.length=ds.length
 | [],_,h=>by simp only [RepL] at h; subst h; rfl
 | _::_,_,h=>by
  simp only [RepL] at h
  (refine elEEAA (h) fun v r e_2 _ h2=>?_; subst e_2)
  simp [RepL.length h2]
theorem RepKV.length {w:World} {F:Fz}:∀ {ds:List (D×D)} {vs:List DictEntry},RepKV w F ds vs→vs.length=ds.length
 | [],_,h=>by simp only [RepKV] at h; subst h; rfl
 | _::_,_,h=>by
  simp only [RepKV] at h
  (refine elEEAA (h) fun v r e_2 _ h2=>?_; subst e_2)
  simp [RepKV.length h2]
noncomputable def Shal (w:World) (F:Fz) (h:Heap):D→Addr→Prop
 | .list xs,a=>xs.length≤size∧∃ vs n,h.get? a=some (lobj vs n)∧RepL w F xs vs.toList
 | .dict kvs,a=>DKeys kvs∧∃ es n,h.get? a=some (dobj es n)∧RepKV w F kvs es.toList∧sysModules<a
 | _,_=>False
theorem Shal.mono {w:World} {F G:Fz} {h h':Heap} (l:F.le G) {d:D} {a:Addr} (e:∀ o,h.get? a=some o→h'.get? a=some o) (x:Shal w F h d a):Shal w G h' d a:=by
 cases d with
 | list xs=>refine elAEEA (x) fun hz vs n h1 h4=>?_; exact ⟨hz,vs,n,e _ h1,RepL.mono l _ h4⟩
 | dict xs=>refine elAEEA (x) fun hz vs n h1 h4=>?_; exact ⟨hz,vs,n,e _ h1,RepKV.mono l _ h4.1,h4.2⟩
 | _=>exact x.elim
theorem Shal.there {w:World} {F:Fz} {h:Heap} {d:D} {a:Addr} (x:Shal w F h d a):∃ o,h.get? a=some o:=by
 cases d with
 | list xs=>refine elAEEA (x) fun _ _ _ h1 _=>?_; exact ⟨_,h1⟩
 | dict xs=>refine elAEEA (x) fun _ _ _ h1 _=>?_; exact ⟨_,h1⟩
 | _=>exact x.elim
theorem Shal.freeze {w:World} {F:Fz} {h:Heap} {d:D} {a:Addr} (x:Shal w F h d a) (hf:F a=none):∃ o,h.get? a=some o∧Rep w (F.add a o) d (.ref a):=by
 cases d with
 | list xs =>
  refine elAEEA (x) fun hz vs n h1 h4=>?_
  exact ⟨_,h1,by simp only [Rep]; exact ⟨hz,a,_,vs,n,rfl,Fz.add_self ..,rfl,rfl,RepL.mono (Fz.le_add _ hf) _ h4⟩⟩
 | dict xs =>
  refine elAEEA (x) fun hz vs n h1 h4=>?_
  exact ⟨_,h1,by simp only [Rep]; exact ⟨hz,a,vs,n,rfl,Fz.add_self ..,RepKV.mono (Fz.le_add _ hf) _ h4.1,h4.2⟩⟩
 | _=>exact x.elim
noncomputable def Top (w:World) (F:Fz) (h:Heap) (d:D) (v:Value):Prop:=Rep w F d v∨∃ a,v=.ref a∧Shal w F h d a
inductive Place where
 | loc (L:Addr) (x:Str)|cell (c:Addr)
noncomputable def Place.addr:Place→Addr
 | .loc L _=>L
 | .cell c=>c
noncomputable def Place.has (h:Heap):Place→Option Value→Prop
 | .loc L x,ov=>∃ m,h.Ns L m∧m x=ov
 | .cell c,ov=>h.IsCell c ov
theorem Place.has_keep {h h':Heap} {p:Place} {ov:Option Value} (x:p.has h ov) (e:∀ o,h.get? p.addr=some o→h'.get? p.addr=some o):p.has h' ov:=by
 cases p with
 | loc L y=>obtain ⟨m,⟨o,es,ep,ho,r⟩,q⟩:=x; exact ⟨m,⟨o,es,ep,e _ ho,r⟩,q⟩
 | cell c=>refine elEA (x) fun o ho r=>?_; exact ⟨o,e _ ho,r⟩
theorem Place.has_there {h:Heap} {p:Place} {ov:Option Value} (x:p.has h ov):∃ o,h.get? p.addr=some o:=by
 cases p with
 | loc L y=>obtain ⟨m,⟨o,es,ep,ho,r⟩,q⟩:=x; exact ⟨o,ho⟩
 | cell c=>refine elEA (x) fun o ho r=>?_; exact ⟨o,ho⟩
noncomputable def SlotOk (w:World) (F:Fz) (h:Heap) (ov:Option Value):Option AV→Prop
 | none=>True
 | some (.val d)=>∃ v,ov=some v∧Rep w F d v
 | some (.own d)=>∃ a,ov=some (.ref a)∧F a=none∧Shal w F h d a
noncomputable def zs2 (vs:List (Option Value)) (σ:Sg) (k:Nat) (a:Addr):Prop:=vs[k]?=some (some (.ref a))∧∃ d,σ[k]?=some (some (.own d))
structure Cx where
 prog:Program
 w:World
 H:Heap
 F0:Fz
 mg:Str→Option Value
 mb:Str→Option Value
structure St (C:Cx) (X:Addr→Prop) (F:Fz) (h:Heap) (P:List Place) (vs:List (Option Value)) (σ:Sg):Prop where
 sub:F.In h
 low:C.F0.le F
 base:∀ a o,C.H.get? a=some o→h.get? a=some o
 cov:∀ a o,C.H.get? a=some o→X a∨F a≠none
 xf:∀ a,X a→F a=none
 xal:∀ a,X a→∃ o,h.get? a=some o
 lenP:P.length=vs.length
 lenS:σ.length=vs.length
 has:∀ (k:Nat) (p:Place) (ov:Option Value),P[k]?=some p→vs[k]?=some ov→p.has h ov
 slot:∀ (k:Nat) (ov:Option Value) (av:Option AV),vs[k]?=some ov→σ[k]?=some av→SlotOk C.w F h ov av
 nodup:P.Nodup
 cont:∀ p∈P,F p.addr=none∧¬ X p.addr
 own:∀ k a,zs2 vs σ k a→¬ X a∧∀ p∈P,a≠p.addr
 inj:∀ j k a,zs2 vs σ j a→zs2 vs σ k a→j=k
noncomputable def ResOk (w:World) (X:Addr→Prop) (F:Fz) (h:Heap) (P:List Place) (vs:List (Option Value)) (σ:Sg) (v:Value) (d:D) (f:Bool):Prop :=
 if f then ∃ a,v=.ref a∧F a=none∧¬ X a∧(∀ p∈P,a≠p.addr)∧(∀ k,¬ zs2 vs σ k a)∧Shal w F h d a
 else Rep w F d v
noncomputable def XSame (X:Addr→Prop) (h h':Heap):Prop:=∀ a,X a→h'.get? a=h.get? a
theorem XSame.refl {X:Addr→Prop} {h:Heap}:XSame X h h:=fun _ _=>rfl
theorem XSame.trans {X:Addr→Prop} {h h' h'':Heap} (x:XSame X h h') (y:XSame X h' h''):XSame X h h'':=fun a e=>(y a e).trans (x a e)
theorem XSame.of_keep {X:Addr→Prop} {h h':Heap} (xal:∀ a,X a→∃ o,h.get? a=some o) (k:∀ a o,h.get? a=some o→h'.get? a=some o):XSame X h h' :=
 fun a e=>by obtain ⟨o,ho⟩:=xal a e; rw [ho,k a o ho]
section
variable {C:Cx} {w:World} {X:Addr→Prop} {F F':Fz} {h h':Heap} {P:List Place} {vs:List (Option Value)} {σ:Sg}
theorem SlotOk.mono {ov:Option Value} {av:Option AV} (l:F.le F') (x:SlotOk w F h ov av) (e:∀ a d,ov=some (.ref a)→av=some (.own d)→F' a=none∧∀ o,h.get? a=some o→h'.get? a=some o):SlotOk w F' h' ov av:=by
 cases av with
 | none=>exact trivial
 | some av =>
  cases av with
  | val d=>refine elEA (x) fun v e1 r=>?_; exact ⟨v,e1,Rep.mono l d r⟩
  | own d=>refine elEAA (x) fun a e1 r q=>?_; exact ⟨a,e1,(e a d e1 rfl).1,q.mono l (e a d e1 rfl).2⟩
theorem St.grow (S:St C X F h P vs σ) (k:∀ a o,h.get? a=some o→h'.get? a=some o) (l:F.le F') (hin:F'.In h') (hnew:∀ a,F' a≠none→F a≠none∨h.get? a=none) :
  St C X F' h' P vs σ where
 sub:=hin
 low:=Fz.le.trans S.low l
 base:=fun a o e=>k a o (S.base a o e)
 cov:=fun a o e=>(S.cov a o e).imp id fun q=>by
  cases hq:F a with
  | none=>exact absurd hq q
  | some o'=>rw [l a o' hq]; exact fun x=>nomatch x
 xf:=fun a e=>by
  cases hq:F' a with
  | none=>rfl
  | some o' =>
   rcases hnew a (by rw [hq]; exact fun x=>nomatch x) with q|q
   ·exact absurd (S.xf a e) q
   ·obtain ⟨o,ho⟩:=S.xal a e; rw [q] at ho; cases ho
 xal:=fun a e=>let ⟨o,ho⟩:=S.xal a e; ⟨o,k a o ho⟩
 lenP:=S.lenP
 lenS:=S.lenS
 has:=fun i p ov e1 e2=>Place.has_keep (S.has i p ov e1 e2) fun o e=>k _ _ e
 slot:=fun i ov av e1 e2=>(S.slot i ov av e1 e2).mono l fun a d q1 q2=>by
  refine ⟨?_,fun o e=>k a o e⟩
  subst q1 q2
  refine elEAA (S.slot i _ _ e1 e2) fun a' e' r q=>?_
  cases e'
  cases hq:F' a with
  | none=>rfl
  | some o' =>
   rcases hnew a (by rw [hq]; exact fun x=>nomatch x) with q'|q'
   ·exact absurd r q'
   ·obtain ⟨o,ho⟩:=q.there
    rw [q'] at ho; exact nomatch ho
 nodup:=S.nodup
 cont:=fun p hp=>by
  refine ⟨?_,(S.cont p hp).2⟩
  cases hq:F' p.addr with
  | none=>rfl
  | some o' =>
   rcases hnew p.addr (by rw [hq]; exact fun x=>nomatch x) with q|q
   ·exact absurd (S.cont p hp).1 q
   ·obtain ⟨i,hi⟩:=List.mem_iff_getElem?.mp hp
    have hlt:i<vs.length:=by
     rw [← S.lenP]
     exact (List.getElem?_eq_some_iff.mp hi).1
    obtain ⟨o,ho⟩:=Place.has_there (S.has i p vs[i] hi (List.getElem?_eq_getElem hlt))
    rw [q] at ho; exact nomatch ho
 own:=S.own
 inj:=S.inj
theorem St.grow0 (S:St C X F h P vs σ) (k:∀ a o,h.get? a=some o→h'.get? a=some o):St C X F h' P vs σ :=
 S.grow k (Fz.le_refl F) (fun a o e=>k a o (S.sub a o e)) fun _ e=>.inl e
theorem St.freeze (S:St C X F h P vs σ) {a:Addr} {o:Obj} (ho:h.get? a=some o) (hf:F a=none) (hx:¬ X a) (hp:∀ p∈P,a≠p.addr) (hw:∀ k,¬ zs2 vs σ k a) :
  St C X (F.add a o) h P vs σ where
 sub:=Fz.in_add S.sub ho
 low:=Fz.le.trans S.low (Fz.le_add o hf)
 base:=S.base
 cov:=fun b o' e=>(S.cov b o' e).imp id fun q=>by
  by_cases hb:b=a
  ·subst hb; rw [Fz.add_self]; exact fun x=>nomatch x
  ·rw [Fz.add_other F o hb]; exact q
 xf:=fun b e=>by rw [Fz.add_other F o (by rintro rfl; exact hx e)]; exact S.xf b e
 xal:=S.xal
 lenP:=S.lenP
 lenS:=S.lenS
 has:=S.has
 slot:=fun i ov av e1 e2=>(S.slot i ov av e1 e2).mono (Fz.le_add o hf) fun b d q1 q2=>⟨by
  subst q1 q2
  refine elEAA (S.slot i _ _ e1 e2) fun a' e' r q=>?_
  cases e'
  rw [Fz.add_other F o (by rintro rfl; exact hw i ⟨e1,_,e2⟩)]; exact r,fun o e=>e⟩
 nodup:=S.nodup
 cont:=fun p hp'=>⟨by rw [Fz.add_other F o (Ne.symm (hp p hp'))]; exact (S.cont p hp').1,(S.cont p hp').2⟩
 own:=S.own
 inj:=S.inj
theorem St.freezeSlot (S:St C X F h P vs σ) {k:Nat} {a:Addr} {d:D} (hv:vs[k]?=some (some (.ref a))) (hs:σ[k]?=some (some (.own d))) :
  ∃ o,St C X (F.add a o) h P vs (σ.set k (some (.val d)))∧Rep C.w (F.add a o) d (.ref a)∧F.le (F.add a o):=by
 refine elEAA (S.slot k _ _ hv hs) fun a' e' hf q=>?_
 cases e'
 refine elEA (q.freeze hf) fun o ho hr=>?_
 have hO:zs2 vs σ k a:=⟨hv,d,hs⟩
 have hklt:k<σ.length:=(List.getElem?_eq_some_iff.mp hs).1
 refine ⟨o,?_,hr,Fz.le_add o hf⟩
 have hsub:∀ i b,zs2 vs (σ.set k (some (.val d))) i b→i≠k∧zs2 vs σ i b:=by
  rintro i b ⟨h1,d',h2⟩
  by_cases hi:i=k
  ·subst hi; rw [List.getElem?_set_self hklt] at h2; cases h2
  ·rw [List.getElem?_set_ne (Ne.symm hi)] at h2; exact ⟨hi,h1,d',h2⟩
 exact {
  sub:=Fz.in_add S.sub ho
  low:=Fz.le.trans S.low (Fz.le_add o hf)
  base:=S.base
  cov:=fun b o' e=>(S.cov b o' e).imp id fun q=>by
   by_cases hb:b=a
   ·subst hb; rw [Fz.add_self]; exact fun x=>nomatch x
   ·rw [Fz.add_other F o hb]; exact q
  xf:=fun b e=>by rw [Fz.add_other F o (by rintro rfl; exact (S.own k _ hO).1 e)]; exact S.xf b e
  xal:=S.xal
  lenP:=S.lenP
  lenS:=by rw [List.length_set]; exact S.lenS
  has:=S.has
  slot:=fun i ov av e1 e2=>by
   by_cases hi:i=k
   ·subst hi
    rw [List.getElem?_set_self hklt] at e2
    rw [hv] at e1
    cases e1; cases e2
    exact ⟨_,rfl,hr⟩
   ·rw [List.getElem?_set_ne (Ne.symm hi)] at e2
    refine (S.slot i ov av e1 e2).mono (Fz.le_add o hf) fun b d' q1 q2=>⟨?_,fun o e=>e⟩
    subst q1 q2
    refine elEAA (S.slot i _ _ e1 e2) fun a' e' r _=>?_
    cases e'
    rw [Fz.add_other F o (by rintro rfl; exact hi (S.inj i k _ ⟨e1,_,e2⟩ hO))]; exact r
  nodup:=S.nodup
  cont:=fun p hp'=>⟨by rw [Fz.add_other F o (Ne.symm ((S.own k a hO).2 p hp'))]; exact (S.cont p hp').1,(S.cont p hp').2⟩
  own:=fun i b hb=>S.own i b (hsub i b hb).2
  inj:=fun i j b hi hj=>S.inj i j b (hsub i b hi).2 (hsub j b hj).2 }
theorem St.upd (S:St C X F h P vs σ) {k:Nat} {a:Addr} {d d':D} (hv:vs[k]?=some (some (.ref a))) (hs:σ[k]?=some (some (.own d)))
  (hsame:∀ b,b≠a→h'.get? b=h.get? b) (hd:Shal C.w F h' d' a) (hH:C.H.get? a=none):St C X F h' P vs (σ.set k (some (.own d'))):=by
 refine elEAA (S.slot k _ _ hv hs) fun a' e' hf q=>?_
 cases e'
 have hO:zs2 vs σ k a:=⟨hv,d,hs⟩
 have hklt:k<σ.length:=(List.getElem?_eq_some_iff.mp hs).1
 have hsub:∀ i b,zs2 vs (σ.set k (some (.own d'))) i b→zs2 vs σ i b:=by
  rintro i b ⟨h1,d'',h2⟩
  by_cases hi:i=k
  ·subst hi; rw [hv] at h1; cases h1; exact hO
  ·rw [List.getElem?_set_ne (Ne.symm hi)] at h2; exact ⟨h1,d'',h2⟩
 exact {
  sub:=fun b o e=>by rw [hsame b (fun q=>by subst q; rw [hf] at e; cases e)]; exact S.sub b o e
  low:=S.low
  base:=fun b o e=>by rw [hsame b (fun q=>by subst q; rw [hH] at e; cases e)]; exact S.base b o e
  cov:=S.cov
  xf:=S.xf
  xal:=fun b e=>by rw [hsame b (by rintro rfl; exact (S.own k _ hO).1 e)]; exact S.xal b e
  lenP:=S.lenP
  lenS:=by rw [List.length_set]; exact S.lenS
  has:=fun i p ov e1 e2=>Place.has_keep (S.has i p ov e1 e2) fun o e=>by
   rw [hsame _ (Ne.symm ((S.own k a hO).2 p (List.mem_of_getElem? e1)))]; exact e
  slot:=fun i ov av e1 e2=>by
   by_cases hi:i=k
   ·subst hi
    rw [List.getElem?_set_self hklt] at e2
    rw [hv] at e1
    cases e1; cases e2
    exact ⟨_,rfl,hf,hd⟩
   ·rw [List.getElem?_set_ne (Ne.symm hi)] at e2
    refine (S.slot i ov av e1 e2).mono (Fz.le_refl F) fun b d'' q1 q2=>?_
    subst q1 q2
    refine elEAA (S.slot i _ _ e1 e2) fun a' e' r _=>?_
    cases e'
    exact ⟨r,fun o e=>by rw [hsame _ (by rintro rfl; exact hi (S.inj i k _ ⟨e1,_,e2⟩ hO))]; exact e⟩
  nodup:=S.nodup
  cont:=S.cont
  own:=fun i b hb=>S.own i b (hsub i b hb)
  inj:=fun i j b hi hj=>S.inj i j b (hsub i b hi) (hsub j b hj) }
set_option tactic.hygienic true in
theorem St.look (S:St C X F h P vs σ) {k:Nat} {d:D} (e:look σ k=some d):∃ v,vs[k]?=some (some v)∧Top C.w F h d v:=by
 unfold Mini.look at e
 split at e
 ·rename_i d' hs
  cases e
  have hlt:k<vs.length:=by rw [← S.lenS]; exact (List.getElem?_eq_some_iff.mp hs).1
  refine elEA (S.slot k vs[k] _ (List.getElem?_eq_getElem hlt) hs) fun v e1 r=>?_
  exact ⟨v,by rw [List.getElem?_eq_getElem hlt,e1],.inl r⟩
 ·rename_i d' hs
  cases e
  have hlt:k<vs.length:=by rw [← S.lenS]; exact (List.getElem?_eq_some_iff.mp hs).1
  refine elEAA (S.slot k vs[k] _ (List.getElem?_eq_getElem hlt) hs) fun a e1 _ r=>?_
  exact ⟨.ref a,by rw [List.getElem?_eq_getElem hlt,e1],.inr ⟨a,rfl,r⟩⟩
 ·cases e
theorem ResOk.freeze (S:St C X F h P vs σ) {v:Value} {d:D} {f:Bool} (r:ResOk C.w X F h P vs σ v d f):∃ F',F.le F'∧St C X F' h P vs σ∧Rep C.w F' d v:=by
 cases f with
 | false=>exact ⟨F,Fz.le_refl F,S,r⟩
 | true =>
  (refine elEAAAAA (r) fun a e_1 hf hx hp hw q=>?_; subst e_1)
  refine elEA (q.freeze hf) fun o ho hr=>?_
  exact ⟨F.add a o,Fz.le_add o hf,S.freeze ho hf hx hp hw,hr⟩
end
end Snd
end
section
namespace Snd
open PySem Mini
section
variable {C:Cx} {X Y:Addr→Prop} {F F':Fz} {h h':Heap} {P:List Place} {vs:List (Option Value)} {σ:Sg}
theorem St.noH_place (S:St C X F h P vs σ) {p:Place} (hp:p∈P):C.H.get? p.addr=none:=by
 cases e:C.H.get? p.addr with
 | none=>rfl
 | some o=>exact (S.cov _ _ e).elim (fun q=>absurd q (S.cont p hp).2) fun q=>absurd (S.cont p hp).1 q
theorem St.own_free (S:St C X F h P vs σ) {k:Nat} {a:Addr} (ho:zs2 vs σ k a):F a=none∧C.H.get? a=none:=by
 refine elAE (ho) fun h1 d h2=>?_
 refine elEAA (S.slot k _ _ h1 h2) fun a' e' hf _=>?_
 cases e'
 refine ⟨hf,?_⟩
 cases e:C.H.get? a with
 | none=>rfl
 | some o=>exact (S.cov _ _ e).elim (fun q=>absurd q (S.own k a ⟨h1,d,h2⟩).1) fun q=>absurd hf q
theorem St.placeAt (S:St C X F h P vs σ) {k:Nat} {p:Place} (hp:P[k]?=some p):∃ ov,vs[k]?=some ov∧p.has h ov:=by
 have hlt:k<vs.length:=by rw [← S.lenP]; exact (List.getElem?_eq_some_iff.mp hp).1
 exact ⟨vs[k],List.getElem?_eq_getElem hlt,S.has k p _ hp (List.getElem?_eq_getElem hlt)⟩
theorem put_get_self {σ:Sg} {k:Nat} {d:D} {f:Bool} (h:k<σ.length):(put σ k d f)[k]?=some (some (if f then .own d else .val d)):=by
 unfold Mini.put; rw [List.getElem?_set_self h]
theorem put_get_ne {σ:Sg} {k i:Nat} {d:D} {f:Bool} (h:i≠k):(put σ k d f)[i]?=σ[i]?:=by
 unfold Mini.put; rw [List.getElem?_set_ne (Ne.symm h)]
theorem St.store (S:St C X F h P vs σ) {k:Nat} {p:Place} {v:Value} {d:D} {f:Bool} (hp:P[k]?=some p) (r:ResOk C.w X F h P vs σ v d f)
  (hsame:∀ b,b≠p.addr→h'.get? b=h.get? b) (hk:p.has h' (some v)) (ho:∀ i q ov,i≠k→P[i]?=some q→q.addr=p.addr→q.has h ov→q.has h' ov) :
  St C X F h' P (vs.set k (some v)) (put σ k d f):=by
 have hpm:p∈P:=List.mem_of_getElem? hp
 have hklt:k<vs.length:=by rw [← S.lenP]; exact (List.getElem?_eq_some_iff.mp hp).1
 have hklt':k<σ.length:=by rw [S.lenS]; exact hklt
 have hne:∀ a,F a≠none→a≠p.addr:=fun a e q=>e (q▸(S.cont p hpm).1)
 have hshal:∀ a dd,(∀ q∈P,a≠q.addr)→Shal C.w F h dd a→Shal C.w F h' dd a:=fun a dd hq x=>x.mono (Fz.le_refl F) fun o e=>by rw [hsame a (hq p hpm)]; exact e
 have hsub:∀ i a,zs2 (vs.set k (some v)) (put σ k d f) i a→(i≠k∧zs2 vs σ i a)∨(i=k∧v=.ref a∧f=true):=by
  rintro i a ⟨h1,d',h2⟩
  by_cases hi:i=k
  ·subst hi
   rw [put_get_self hklt'] at h2
   rw [List.getElem?_set_self hklt] at h1
   cases f with
   | false=>cases h2
   | true=>cases h1; exact .inr ⟨rfl,rfl,rfl⟩
  ·rw [put_get_ne hi] at h2
   rw [List.getElem?_set_ne (Ne.symm hi)] at h1
   exact .inl ⟨hi,h1,d',h2⟩
 have hnew:∀ a,v=.ref a→f=true→F a=none∧¬ X a∧(∀ q∈P,a≠q.addr)∧(∀ i,¬ zs2 vs σ i a)∧Shal C.w F h d a:=by
  rintro a rfl rfl
  (refine elEA (r) fun a' e' r_n=>?_; clear r; revert r_n; intro r)
  cases e'; exact r
 exact {
  sub:=fun a o e=>by rw [hsame a (hne a (by rw [e]; exact fun x=>nomatch x))]; exact S.sub a o e
  low:=S.low
  base:=fun a o e=>by rw [hsame a (by rintro rfl; rw [S.noH_place hpm] at e; cases e)]; exact S.base a o e
  cov:=S.cov
  xf:=S.xf
  xal:=fun a e=>by rw [hsame a (by rintro rfl; exact (S.cont p hpm).2 e)]; exact S.xal a e
  lenP:=by rw [List.length_set]; exact S.lenP
  lenS:=by unfold Mini.put; rw [List.length_set,List.length_set]; exact S.lenS
  has:=fun i q ov e1 e2=>by
   by_cases hi:i=k
   ·subst hi
    rw [hp] at e1
    rw [List.getElem?_set_self hklt] at e2
    cases e1; cases e2; exact hk
   ·rw [List.getElem?_set_ne (Ne.symm hi)] at e2
    by_cases hq:q.addr=p.addr
    ·exact ho i q ov hi e1 hq (S.has i q ov e1 e2)
    ·exact Place.has_keep (S.has i q ov e1 e2) fun o e=>by rw [hsame _ hq]; exact e
  slot:=fun i ov av e1 e2=>by
   by_cases hi:i=k
   ·subst hi
    rw [put_get_self hklt'] at e2
    rw [List.getElem?_set_self hklt] at e1
    cases e1; cases e2
    cases f with
    | false=>exact ⟨v,rfl,r⟩
    | true =>
     (refine elEAAAAA (r) fun a e_1 r1 _ r3 _ r5=>?_; subst e_1)
     exact ⟨a,rfl,r1,hshal a d r3 r5⟩
   ·rw [put_get_ne hi] at e2
    rw [List.getElem?_set_ne (Ne.symm hi)] at e1
    refine (S.slot i ov av e1 e2).mono (Fz.le_refl F) fun a d' q1 q2=>?_
    subst q1 q2
    have hO:zs2 vs σ i a:=⟨e1,_,e2⟩
    exact ⟨(S.own_free hO).1,fun o e=>by rw [hsame _ ((S.own i a hO).2 p hpm)]; exact e⟩
  nodup:=S.nodup
  cont:=S.cont
  own:=fun i a hO=>by
   rcases hsub i a hO with ⟨_,q⟩|⟨_,q1,q2⟩
   ·exact S.own i a q
   ·exact ⟨(hnew a q1 q2).2.1,(hnew a q1 q2).2.2.1⟩
  inj:=fun i j a hi hj=>by
   rcases hsub i a hi with ⟨q0,q⟩|⟨q0,q1,q2⟩<;>rcases hsub j a hj with ⟨p0,p'⟩|⟨p0,p1,p2⟩
   ·exact S.inj i j a q p'
   ·exact absurd q ((hnew a p1 p2).2.2.2.1 i)
   ·exact absurd p' ((hnew a q1 q2).2.2.2.1 j)
   ·rw [q0,p0] }
theorem St.addX (S:St C X F h P vs σ) (hy:∀ a,Y a→X a∨(F a=none∧(∃ o,h.get? a=some o)∧(∀ p∈P,a≠p.addr)∧∀ k,¬ zs2 vs σ k a)) (hxy:∀ a,X a→Y a):St C Y F h P vs σ where
 sub:=S.sub
 low:=S.low
 base:=S.base
 cov:=fun a o e=>(S.cov a o e).imp (hxy a) id
 xf:=fun a e=>(hy a e).elim (S.xf a) fun q=>q.1
 xal:=fun a e=>(hy a e).elim (S.xal a) fun q=>q.2.1
 lenP:=S.lenP
 lenS:=S.lenS
 has:=S.has
 slot:=S.slot
 nodup:=S.nodup
 cont:=fun p hp=>⟨(S.cont p hp).1,fun e=>(hy _ e).elim (S.cont p hp).2 fun q=>q.2.2.1 p hp rfl⟩
 own:=fun k a ho=>⟨fun e=>(hy _ e).elim (S.own k a ho).1 fun q=>q.2.2.2 k ho,(S.own k a ho).2⟩
 inj:=S.inj
theorem St.dropX (S:St C Y F h P vs σ) (hxy:∀ a,X a→Y a) (hc:∀ a o,C.H.get? a=some o→X a∨F a≠none):St C X F h P vs σ where
 sub:=S.sub
 low:=S.low
 base:=S.base
 cov:=hc
 xf:=fun a e=>S.xf a (hxy a e)
 xal:=fun a e=>S.xal a (hxy a e)
 lenP:=S.lenP
 lenS:=S.lenS
 has:=S.has
 slot:=S.slot
 nodup:=S.nodup
 cont:=fun p hp=>⟨(S.cont p hp).1,fun e=>(S.cont p hp).2 (hxy _ e)⟩
 own:=fun k a ho=>⟨fun e=>(S.own k a ho).1 (hxy _ e),(S.own k a ho).2⟩
 inj:=S.inj
theorem cov_mono {G:Fz} (l:F.le G) (hc:∀ a o,C.H.get? a=some o→X a∨F a≠none):∀ a o,C.H.get? a=some o→X a∨G a≠none :=
 fun a o e=>(hc a o e).imp id fun q=>by
  cases hq:F a with
  | none=>exact absurd hq q
  | some o'=>rw [l a o' hq]; exact fun x=>nomatch x
theorem zq9 {ws:List (Option Value)} {τ:Sg} (hl:σ.length=vs.length) (ht:∀ av∈τ,∀ d,av≠some (.own d)) {k:Nat} {a:Addr} (ho:zs2 (vs++ws) (σ++τ) k a):zs2 vs σ k a:=by
 refine elAE (ho) fun h1 d h2=>?_
 by_cases hk:k<vs.length
 ·rw [List.getElem?_append_left hk] at h1
  rw [List.getElem?_append_left (by rw [hl]; exact hk)] at h2
  exact ⟨h1,d,h2⟩
 ·rw [List.getElem?_append_right (by rw [hl]; bv_omega)] at h2
  exact absurd rfl (ht _ (List.mem_of_getElem? h2) d)
theorem St.extend (S:St C X F h P vs σ) {Q:List Place} {ws:List (Option Value)} {τ:Sg} (hl:Q.length=ws.length) (hl':τ.length=ws.length)
  (hh:∀ (i:Nat) (q:Place) (ov:Option Value),Q[i]?=some q→ws[i]?=some ov→q.has h ov) (hs:∀ (i:Nat) (ov:Option Value) (av:Option AV),ws[i]?=some ov→τ[i]?=some av→SlotOk C.w F h ov av)
  (ht:∀ av∈τ,∀ d,av≠some (.own d)) (hn:(P++Q).Nodup) (hc:∀ q∈Q,F q.addr=none∧¬ X q.addr) (ho:∀ k a,zs2 vs σ k a→∀ q∈Q,a≠q.addr) :
  St C X F h (P++Q) (vs++ws) (σ++τ) where
 sub:=S.sub
 low:=S.low
 base:=S.base
 cov:=S.cov
 xf:=S.xf
 xal:=S.xal
 lenP:=by simp [S.lenP,hl]
 lenS:=by simp [S.lenS,hl']
 has:=fun i p ov e1 e2=>by
  by_cases hi:i<vs.length
  ·rw [List.getElem?_append_left (by rw [S.lenP]; exact hi)] at e1
   rw [List.getElem?_append_left hi] at e2
   exact S.has i p ov e1 e2
  ·rw [List.getElem?_append_right (by rw [S.lenP]; bv_omega),S.lenP] at e1
   rw [List.getElem?_append_right (by bv_omega)] at e2
   exact hh _ p ov e1 e2
 slot:=fun i ov av e1 e2=>by
  by_cases hi:i<vs.length
  ·rw [List.getElem?_append_left hi] at e1
   rw [List.getElem?_append_left (by rw [S.lenS]; exact hi)] at e2
   exact S.slot i ov av e1 e2
  ·rw [List.getElem?_append_right (by bv_omega)] at e1
   rw [List.getElem?_append_right (by rw [S.lenS]; bv_omega),S.lenS] at e2
   exact hs _ ov av e1 e2
 nodup:=hn
 cont:=fun p hp=>(List.mem_append.mp hp).elim (S.cont p) (hc p)
 own:=fun k a hO=>by
  have q:=zq9 S.lenS ht hO
  exact ⟨(S.own k a q).1,fun p hp=>(List.mem_append.mp hp).elim ((S.own k a q).2 p) (ho k a q p)⟩
 inj:=fun i j a hi hj=>S.inj i j a (zq9 S.lenS ht hi) (zq9 S.lenS ht hj)
theorem owned_take {ws:List (Option Value)} {n:Nat} (hn:n=vs.length) {k:Nat} {a:Addr} (ho:zs2 vs (σ.take n) k a):zs2 (vs++ws) σ k a:=by
 refine elAE (ho) fun h1 d h2=>?_
 have hk:k<n:=by
  by_cases hk:k<n
  ·exact hk
  ·rw [List.getElem?_eq_none (by simp; exact Nat.le_trans (Nat.min_le_left ..) (Nat.le_of_not_lt hk))] at h2; cases h2
 rw [List.getElem?_take_of_lt hk] at h2
 exact ⟨by rw [List.getElem?_append_left (by bv_omega)]; exact h1,d,h2⟩
theorem St.shrink {Q:List Place} {ws:List (Option Value)} (S:St C X F h (P++Q) (vs++ws) σ) (hl:P.length=vs.length) {n:Nat} (hn:n=vs.length):St C X F h P vs (σ.take n) where
 sub:=S.sub
 low:=S.low
 base:=S.base
 cov:=S.cov
 xf:=S.xf
 xal:=S.xal
 lenP:=hl
 lenS:=by rw [List.length_take,S.lenS]; simp; bv_omega
 has:=fun i p ov e1 e2=>S.has i p ov (by rw [List.getElem?_append_left (List.getElem?_eq_some_iff.mp e1).1]; exact e1) (by rw [List.getElem?_append_left (List.getElem?_eq_some_iff.mp e2).1]; exact e2)
 slot:=fun i ov av e1 e2=>by
  have hi:=(List.getElem?_eq_some_iff.mp e1).1
  rw [List.getElem?_take_of_lt (by bv_omega)] at e2
  exact S.slot i ov av (by rw [List.getElem?_append_left hi]; exact e1) e2
 nodup:=(List.nodup_append.mp S.nodup).1
 cont:=fun p hp=>S.cont p (List.mem_append_left _ hp)
 own:=fun k a ho=>by
  have q:=owned_take (ws:=ws) hn ho
  exact ⟨(S.own k a q).1,fun p hp=>(S.own k a q).2 p (List.mem_append_left _ hp)⟩
 inj:=fun i j a hi hj=>S.inj i j a (owned_take hn hi) (owned_take hn hj)
noncomputable def Hold (F:Fz) (h:Heap):Addr→Prop:=fun a=>F a=none∧∃ o,h.get? a=some o
theorem St.bare (S:St C X F h P vs σ):St C (Hold F h) F h [] [] [] where
 sub:=S.sub
 low:=S.low
 base:=S.base
 cov:=fun a o e=>by
  cases hq:F a with
  | none=>exact .inl ⟨hq,o,S.base a o e⟩
  | some o'=>exact .inr (fun x=>nomatch x)
 xf:=fun a e=>e.1
 xal:=fun a e=>e.2
 lenP:=rfl
 lenS:=rfl
 has:=fun i p ov e1 _=>by simp at e1
 slot:=fun i p ov e1 _=>by simp at e1
 nodup:=List.nodup_nil
 cont:=fun p hp=>nomatch hp
 own:=fun k a ho=>by simp [zs2] at ho
 inj:=fun i j a ho _=>by simp [zs2] at ho
theorem St.back (S:St C X F h P vs σ) (S':St C (Hold F h) F' h' [] [] []) (l:F.le F') (x:XSame (Hold F h) h h'):St C X F' h' P vs σ:=by
 refine S.grow (fun a o e=>?_) l S'.sub fun a e=>?_
 ·cases hq:F a with
  | none=>rw [x a ⟨hq,o,e⟩]; exact e
  | some o' =>
   have:=S.sub a o' hq
   rw [this] at e; cases e
   exact S'.sub a _ (l a _ hq)
 ·cases hq:F a with
  | some o'=>exact .inl (fun y=>nomatch y)
  | none =>
   right
   cases hh:h.get? a with
   | none=>rfl
   | some o=>exact absurd (S'.xf a ⟨hq,o,hh⟩) e
theorem XSame.back (S:St C X F h P vs σ) (x:XSame (Hold F h) h h'):XSame X h h':=fun a e=>x a ⟨S.xf a e,S.xal a e⟩
theorem ResOk.back (S:St C X F h P vs σ) {v:Value} {d:D} {f:Bool} (r:ResOk C.w (Hold F h) F' h' [] [] [] v d f):ResOk C.w X F' h' P vs σ v d f:=by
 cases f with
 | false=>exact r
 | true =>
  (refine elEAAAAA (r) fun a e_1 h1 h2 _ _ h5=>?_; subst e_1)
  have hno:F a=none→h.get? a=none:=fun q=>by
   cases hh:h.get? a with
   | none=>rfl
   | some o=>exact absurd ⟨q,o,hh⟩ h2
  refine ⟨a,rfl,h1,fun e=>h2 ⟨S.xf a e,S.xal a e⟩,fun p hp q=>?_,fun k ho=>?_,h5⟩
  ·subst q
   obtain ⟨i,hi⟩:=List.mem_iff_getElem?.mp hp
   refine elEA (S.placeAt hi) fun ov _ hh=>?_
   obtain ⟨o,ho⟩:=Place.has_there hh
   exact h2 ⟨(S.cont p hp).1,o,ho⟩
  ·refine elAE (ho) fun q1 d' q2=>?_
   refine elEAA (S.slot k _ _ q1 q2) fun a' e' hf q=>?_
   cases e'
   obtain ⟨o,ho⟩:=q.there
   exact h2 ⟨hf,o,ho⟩
end
structure EnvOk (env:PySem.Env) (sc:Scope) (ν:Nu) (P:List Place):Prop where
 kind:env.scope.kind=.function
 glob:env.globals=mainGlobals
 blt:env.builtins=builtinsNs
 slot:∀ (x:Str) (k:Nat),ν x=some k→(env.kindOf x=some .local∧P[k]?=some (.loc env.locals x)) ∨
  ((env.kindOf x=some .cell∨env.kindOf x=some .free)∧∃ c,env.cells.lookup x=some c∧P[k]?=some (.cell c))
 gl:∀ x,sc.names.lookup x=some .globalImplicit→env.kindOf x=some .globalImplicit
 cell:∀ x,sc.names.lookup x=some .cell→env.kindOf x=some .cell∧∃ c,env.cells.lookup x=some c
theorem ns_unique {h:Heap} {a:Addr} {m m':Str→Option Value} (x:h.Ns a m) (y:h.Ns a m'):m=m':=by
 refine elEEEAAA (x) fun o es ep h1 h2 _ h4=>?_
 refine elEEEAAA (y) fun o' es' ep' k1 k2 _ k4=>?_
 rw [h1] at k1; cases k1
 rw [h2] at k2; cases k2
 funext n; rw [← h4,← k4]
section
variable {C:Cx} {M:Model} {A:Around} {E:Value→Shared→Prop} {s:Shared} {env:PySem.Env} {sc:Scope} {ν:Nu} {X:Addr→Prop} {F:Fz} {P:List Place} {vs:List (Option Value)} {σ:Sg}
theorem zi1 {x:Str} (h:zk1 x=true):(x==("__debug__" : Str))=false:=by
 unfold zk1 at h; simp only [Bool.and_eq_true,bne_iff_ne,ne_eq] at h; simpa using h.1
theorem okName_classdict {x:Str} (h:zk1 x=true):(x==("__classdict__" : Str))=false:=by
 unfold zk1 at h; simp only [Bool.and_eq_true,bne_iff_ne,ne_eq] at h; simpa using h.2
theorem load_slot (O:EnvOk env sc ν P) (S:St C X F s.heap P vs σ) {x:Str} {k:Nat} {v:Value} (hx:ν x=some k) (hv:vs[k]?=some (some v)) (hn:zk1 x=true) {Q:Value→Shared→Prop} (h:Q v s) :
  wpAny M A (loadName env x) Q E s:=by
 rcases O.slot x k hx with ⟨h1,h2⟩|⟨h1,c,h2,h3⟩
 ·refine elEA (S.has k _ _ h2 hv) fun m hns hm=>?_
  exact wpAny_loadName_local O.kind h1 hns hm h
 ·have hc:s.heap.IsCell c (some v):=S.has k _ _ h3 hv
  rcases h1 with h1|h1
  ·exact wpAny_loadName_cell O.kind h1 h2 hc h
  ·exact wpAny_loadName_free O.kind h1 h2 hc h (okName_classdict hn)
theorem zm1 (O:EnvOk env sc ν P) (S:St C X F s.heap P vs σ) {x:Str} {k:Nat} {v:Value} {pos:Pos} (hx:ν x=some k) (hv:vs[k]?=some (some v)) (hn:zk1 x=true) {Q:Value→Shared→Prop} (h:Q v s) :
  wpAny M A (eval (.Name x pos) env) Q E s:=wpAny_Name (load_slot O S hx hv hn h) (zi1 hn)
theorem zo4 (O:EnvOk env sc ν P) (S:St C X F s.heap P vs σ) {x:Str} {k:Nat} {v:Value} {d:D} {f:Bool} (hx:ν x=some k) (r:ResOk C.w X F s.heap P vs σ v d f)
  (hfree:env.kindOf x≠some .free) {Q:Unit→Shared→Prop}
  (h:∀ h' tk,St C X F h' P (vs.set k (some v)) (put σ k d f)→XSame X s.heap h'→Q () { s with heap:=h',toks:=tk }):wpAny M A (storeName env x v) Q E s:=by
 rcases O.slot x k hx with ⟨h1,h2⟩|⟨h1,c,h2,h3⟩
 ·refine elEAEA (S.placeAt h2) fun ov hov m hns hm=>?_
  refine wpAny_storeName_local h1 hns (fun h' hns' hsb=>?_) (by rw [O.kind]; rfl)
  refine h h' _ (S.store h2 r (fun b hb=>hsb.2 b hb) ⟨_,hns',by simp⟩ fun i q ov hi hq ha hh=>?_) fun a ha=>hsb.2 a ?_
  ·cases q with
   | cell c =>
    refine elEA (hh) fun o ho hd=>?_
    refine elEEEAA (hns) fun o' es ep ho' hd' _=>?_
    have ha:c=env.locals:=ha
    subst ha
    rw [ho'] at ho; cases ho; rw [hd'] at hd; cases hd
   | loc L y =>
    have ha:L=env.locals:=ha
    subst ha
    refine elEA (hh) fun m' hns2 hm2=>?_
    have:=ns_unique hns hns2
    subst this
    refine ⟨_,hns',?_⟩
    have hy:y≠x:=by
     rintro rfl
     have hlt:=(List.getElem?_eq_some_iff.mp hq).1
     exact hi ((List.getElem?_inj hlt S.nodup).mp (hq.trans h2.symm))
    simp only [if_neg hy]; exact hm2
  ·rintro rfl
   exact (S.cont _ (List.mem_of_getElem? h2)).2 ha
 ·have h1:env.kindOf x=some .cell:=h1.resolve_right hfree
  refine elEA (S.placeAt h3) fun ov hov hc=>?_
  refine wpAny_storeName_cell O.kind h1 h2 hc fun h' hc' hsb=>?_
  refine h h' s.toks (S.store h3 r (fun b hb=>hsb.2 b hb) hc' fun i q ov hi hq ha hh=>?_) fun a ha=>hsb.2 a ?_
  ·cases q with
   | cell c' =>
    have ha:c'=c:=ha
    subst ha
    have hlt:=(List.getElem?_eq_some_iff.mp hq).1
    exact absurd ((List.getElem?_inj hlt S.nodup).mp (hq.trans h3.symm)) hi
   | loc L y =>
    have ha:L=c:=ha
    subst ha
    obtain ⟨m',⟨o,es,ep,ho,hd,_⟩,_⟩:=hh
    refine elEA (hc) fun o' ho' hd'=>?_
    rw [ho] at ho'; cases ho'; rw [hd] at hd'; cases hd'
  ·rintro rfl
   exact (S.cont _ (List.mem_of_getElem? h3)).2 ha
end
end Snd
end
section
namespace Snd
open PySem Mini
section
variable {w:World} {F:Fz} {h:Heap}
theorem top_of_rep {d:D} {v:Value} (r:Rep w F d v):Top w F h d v:=.inl r
@[elab_as_elim] theorem Top.noneK {v:Value} (x:Top w F h .none v) {P:Value→Prop} (k:P .none):P v :=
 x.elim (fun r=>Eq.symm r▸k) fun ⟨_,_,q⟩=>q.elim
@[elab_as_elim] theorem Top.boolK {v:Value} {b:Bool} (x:Top w F h (.bool b) v) {P:Value→Prop} (k:P (.bool b)):P v :=
 x.elim (fun r=>Eq.symm r▸k) fun ⟨_,_,q⟩=>q.elim
@[elab_as_elim] theorem Top.intK {v:Value} {i:Int} (x:Top w F h (.int i) v) {P:Value→Prop} (k:∀ t,P (.int i t)):P v :=
 x.elim (fun r=>Exists.elim r fun t e=>e▸k t) fun ⟨_,_,q⟩=>q.elim
@[elab_as_elim] theorem Top.strK {v:Value} {i:Str} (x:Top w F h (.str i) v) {P:Value→Prop} (k:∀ t,P (.str i t)):P v :=
 x.elim (fun r=>Exists.elim r fun t e=>e▸k t) fun ⟨_,_,q⟩=>q.elim
@[elab_as_elim] theorem Top.listK {v:Value} {xs:List D} (x:Top w F h (.list xs) v) (hin:F.In h) {P:Value→Prop} (k:xs.length≤size→∀ a o vs n,h.get? a=some o→o.cls=.type "list" → o.data=.seq vs n→RepL w F xs vs.toList→P (.ref a)):P v :=
 x.elim (fun r=>elAEEEEAAAA r fun hz a o vs n e h1 hc hd h2=>Eq.symm e▸k hz a o vs n (hin _ _ h1) hc hd h2)
  fun r=>elEA r fun a e q=>elAEEA q fun hz vs n h1 h2=>Eq.symm e▸k hz a _ vs n h1 rfl rfl h2
@[elab_as_elim] theorem Top.lisK {v:Value} {xs:List D} (x:Top w F h (.list xs) v) (hin:F.In h) {P:Value→Prop} (k:xs.length≤size→∀ a dd sl vs n,h.get? a=some ⟨.type "list", dd,.seq vs n,sl⟩→RepL w F xs vs.toList→P (.ref a)):P v :=
 x.listK hin fun hz a o vs n h1 hc hd h2=>k hz a o.dict o.slots vs n (by rw [h1,← hc,← hd]) h2
@[elab_as_elim] theorem Top.tupK {v:Value} {xs:List D} (x:Top w F h (.tuple xs) v) (hin:F.In h) {P:Value→Prop} (k:xs.length≤size→∀ a vs n,F a=some (tobj vs n)→h.get? a=some (tobj vs n)→RepL w F xs vs.toList→P (.ref a)):P v :=
 x.elim (fun r=>elAEEEAA r fun hz a vs n e h1 h2=>Eq.symm e▸k hz a vs n h1 (hin _ _ h1) h2) fun ⟨_,_,q⟩=>q.elim
@[elab_as_elim] theorem Top.dicK {v:Value} {xs:List (D×D)} (x:Top w F h (.dict xs) v) (hin:F.In h) {P:Value→Prop} (k:DKeys xs→∀ a es n,h.get? a=some (dobj es n)→RepKV w F xs es.toList→sysModules<a→P (.ref a)):P v :=
 x.elim (fun r=>elAEEEAAA r fun hz a vs n e h1 h2 h3=>Eq.symm e▸k hz a vs n (hin _ _ h1) h2 h3)
  fun r=>elEA r fun a e q=>elAEEAA q fun hz vs n h1 h2 h3=>Eq.symm e▸k hz a vs n h1 h2 h3
mutual
theorem Rep.reads (hin:F.In h):∀ (d:D) {v:Value},Rep w F d v→∃ as,Reads h v d as
 | .none,_,r=>by simp only [Rep] at r; subst r; exact ⟨_,.none⟩
 | .bool _,_,r=>by simp only [Rep] at r; subst r; exact ⟨_,.bool _⟩
 | .int _,_,r=>by simp only [Rep] at r; obtain ⟨t,rfl⟩:=r; exact ⟨_,.int _ _⟩
 | .str _,_,r=>by simp only [Rep] at r; obtain ⟨t,rfl⟩:=r; exact ⟨_,.str _ _⟩
 | .list xs,_,r=>by
  simp only [Rep] at r
  (refine elAEEEEAAAA (r) fun _ a o vs n e_5 h1 hc hd h2=>?_; subst e_5)
  obtain ⟨as,q⟩:=RepL.reads hin xs h2
  exact ⟨_,.list (hin _ _ h1) hc hd q⟩
 | .tuple xs,_,r=>by
  simp only [Rep] at r
  (refine elAEEEAA (r) fun _ a vs n e_4 h1 h2=>?_; subst e_4)
  obtain ⟨as,q⟩:=RepL.reads hin xs h2
  exact ⟨_,.tuple (hin _ _ h1) rfl rfl q⟩
 | .dict kvs,_,r=>by
  simp only [Rep] at r
  (refine elAEEEAAA (r) fun _ a es n e_4 h1 h2 _=>?_; subst e_4)
  obtain ⟨⟨as,q⟩,bs,q'⟩:=RepKV.reads hin kvs h2
  exact ⟨_,.dict (hin _ _ h1) rfl rfl q q'⟩
theorem RepL.reads (hin:F.In h):∀ (ds:List D) {vs:List Value},RepL w F ds vs→∃ as,ReadsAll h vs ds as
 | [],_,r=>by simp only [RepL] at r; subst r; exact ⟨_,.nil⟩
 | d::ds,_,r=>by
  simp only [RepL] at r
  (refine elEEAA (r) fun v t e_2 h1 h2=>?_; subst e_2)
  obtain ⟨as,q⟩:=Rep.reads hin d h1
  obtain ⟨bs,q'⟩:=RepL.reads hin ds h2
  exact ⟨_,.cons q q'⟩
theorem RepKV.reads (hin:F.In h):∀ (ds:List (D×D)) {es:List DictEntry},RepKV w F ds es→(∃ as,ReadsAll h (es.map (·.key)) (ds.map (·.1)) as)∧∃ bs,ReadsAll h (es.map (·.val)) (ds.map (·.2)) bs
 | [],_,r=>by simp only [RepKV] at r; subst r; exact ⟨⟨_,.nil⟩,_,.nil⟩
 | p::ds,_,r=>by
  simp only [RepKV] at r
  (refine elEEAA (r) fun e t e_2 h1 h2=>?_; subst e_2)
  obtain ⟨⟨as,q⟩,bs,q'⟩:=RepP.reads hin p h1
  obtain ⟨⟨as',p1⟩,bs',p2⟩:=RepKV.reads hin ds h2
  exact ⟨⟨_,.cons q p1⟩,_,.cons q' p2⟩
theorem RepP.reads (hin:F.In h):∀ (d:D×D) {e:DictEntry},RepP w F d e→(∃ as,Reads h e.key d.1 as)∧∃ bs,Reads h e.val d.2 bs
 | (k,v),_,r=>by
  simp only [RepP] at r
  exact ⟨Rep.reads hin k r.2.1,Rep.reads hin v r.2.2⟩
end
theorem Top.reads (hin:F.In h) {d:D} {v:Value} (x:Top w F h d v):∃ as,Reads h v d as:=by
 rcases x with r|⟨a,rfl,q⟩
 ·exact Rep.reads hin d r
 ·cases d with
  | list xs =>
   refine elAEEA (q) fun _ vs n h1 h2=>?_
   obtain ⟨as,q⟩:=RepL.reads hin xs h2
   exact ⟨_,.list h1 rfl rfl q⟩
  | dict kvs =>
   refine elAEEAA (q) fun _ vs n h1 h2 _=>?_
   obtain ⟨⟨as,q⟩,bs,q'⟩:=RepKV.reads hin kvs h2
   exact ⟨_,.dict h1 rfl rfl q q'⟩
  | _=>exact q.elim
theorem Top.mono {F':Fz} {h':Heap} {d:D} {v:Value} (l:F.le F') (k:∀ a o,h.get? a=some o→h'.get? a=some o) (x:Top w F h d v):Top w F' h' d v:=by
 rcases x with r|⟨a,rfl,q⟩
 ·exact .inl (Rep.mono l d r)
 ·exact .inr ⟨a,rfl,q.mono l fun o e=>k a o e⟩
theorem RepL.append:∀ {ds es:List D} {vs ws:List Value},RepL w F ds vs→RepL w F es ws→RepL w F (ds++es) (vs++ws)
 | [],_,_,_,r,q=>by simp only [RepL] at r; subst r; simpa using q
 | d::ds,_,_,_,r,q=>by
  simp only [RepL] at r
  (refine elEEAA (r) fun v t e_2 h1 h2=>?_; subst e_2)
  simp only [List.cons_append,RepL]
  exact ⟨v,t++_,rfl,h1,RepL.append h2 q⟩
theorem RepL.get:∀ {ds:List D} {vs:List Value} {i:Nat} {d:D},RepL w F ds vs→ds[i]?=some d→∃ v,vs[i]?=some v∧Rep w F d v
 | [],_,_,_,_,e=>by simp at e
 | x::ds,_,i,d,r,e=>by
  simp only [RepL] at r
  (refine elEEAA (r) fun v t e_2 h1 h2=>?_; subst e_2)
  cases i with
  | zero=>simp at e; subst e; exact ⟨v,rfl,h1⟩
  | succ i=>simp at e; simpa using RepL.get h2 e
theorem RepL.take:∀ {ds:List D} {vs:List Value} (n:Nat),RepL w F ds vs→RepL w F (ds.take n) (vs.take n)
 | _,_,0,_=>by simp [RepL]
 | [],_,n+1,r=>by simp only [RepL] at r; subst r; simp [RepL]
 | _::ds,_,n+1,r=>by
  simp only [RepL] at r
  (refine elEEAA (r) fun v t e_2 h1 h2=>?_; subst e_2)
  simp only [List.take_succ_cons,RepL]
  exact ⟨v,_,rfl,h1,RepL.take n h2⟩
theorem RepL.drop:∀ {ds:List D} {vs:List Value} (n:Nat),RepL w F ds vs→RepL w F (ds.drop n) (vs.drop n)
 | _,_,0,r=>by simpa using r
 | [],_,n+1,r=>by simp only [RepL] at r; subst r; simp [RepL]
 | _::ds,_,n+1,r=>by
  simp only [RepL] at r
  (refine elEEAA (r) fun v t e_2 h1 h2=>?_; subst e_2)
  simpa using RepL.drop n h2
theorem RepL.nil_:RepL w F [] []:=by simp [RepL]
theorem RepL.cons_ {d:D} {ds:List D} {v:Value} {vs:List Value} (r:Rep w F d v) (q:RepL w F ds vs):RepL w F (d::ds) (v::vs):=by
 simp only [RepL]; exact ⟨v,vs,rfl,r,q⟩
end
noncomputable def Grown (w:World) (F:Fz) (s:Shared) (d:D) (f:Bool) (v:Value) (s':Shared):Prop :=
 ∃ h' tk,s'={ s with heap:=h',toks:=tk }∧(∀ a o,s.heap.get? a=some o→h'.get? a=some o) ∧
  if f then ∃ a,v=.ref a∧s.heap.get? a=none∧Shal w F h' d a
  else ∃ F',F.le F'∧F'.In h'∧(∀ a,F' a≠none→F a≠none∨s.heap.get? a=none)∧Rep w F' d v
section
variable {w:World} {F:Fz} {s:Shared}
theorem Grown.old {d:D} {v:Value} {tk:Nat} (hin:F.In s.heap) (r:Rep w F d v):Grown w F s d false v { s with toks:=tk } :=
 ⟨s.heap,tk,rfl,fun _ _ e=>e,F,Fz.le_refl F,hin,fun _ e=>.inl e,r⟩
theorem zy4 (h:Heap):h.get? h.objs.size=none:=by
 cases e:h.get? h.objs.size with
 | none=>rfl
 | some o=>exact absurd (Heap.lt_size e) (Nat.lt_irrefl _)
theorem Grown.list {xs:List D} {vs:Array Value} {n:Nat} {tk:Nat} (hz:xs.length≤size) (r:RepL w F xs vs.toList) :
  Grown w F s (.list xs) true (.ref s.heap.objs.size) { s with heap:=s.heap.push (lobj vs n),toks:=tk } :=
 ⟨_,tk,rfl,fun _ _ e=>Heap.get?_push_of_some _ e,_,rfl,zy4 _,hz,vs,n,Heap.get?_push_size _ rfl,r⟩
theorem Grown.dict {xs:List (D×D)} {es:Array DictEntry} {n:Nat} {tk:Nat} (hz:DKeys xs) (r:RepKV w F xs es.toList) (hb:sysModules<s.heap.objs.size) :
  Grown w F s (.dict xs) true (.ref s.heap.objs.size) { s with heap:=s.heap.push (dobj es n),toks:=tk } :=
 ⟨_,tk,rfl,fun _ _ e=>Heap.get?_push_of_some _ e,_,rfl,zy4 _,hz,es,n,Heap.get?_push_size _ rfl,r,hb⟩
theorem Grown.tuple {xs:List D} {vs:Array Value} {n:Nat} {tk:Nat} (hin:F.In s.heap) (hz:xs.length≤size) (r:RepL w F xs vs.toList) :
  Grown w F s (.tuple xs) false (.ref s.heap.objs.size) { s with heap:=s.heap.push (tobj vs n),toks:=tk }:=by
 have hf:F s.heap.objs.size=none:=by
  cases e:F s.heap.objs.size with
  | none=>rfl
  | some o=>exact absurd (Heap.lt_size (hin _ _ e)) (Nat.lt_irrefl _)
 refine ⟨_,tk,rfl,fun _ _ e=>Heap.get?_push_of_some _ e,F.add s.heap.objs.size (tobj vs n),Fz.le_add _ hf,?_,fun a e=>?_,?_⟩
 ·exact Fz.in_add (fun a o e=>Heap.get?_push_of_some _ (hin a o e)) (Heap.get?_push_size _ rfl)
 ·by_cases ha:a=s.heap.objs.size
  ·subst ha; exact .inr (zy4 _)
  ·rw [Fz.add_other F _ ha] at e; exact .inl e
 ·simp only [Rep]
  exact ⟨hz,_,vs,n,rfl,Fz.add_self ..,RepL.mono (Fz.le_add _ hf) _ r⟩
theorem Grown.from {s₁:Shared} {h₁:Heap} {tk₁:Nat} {d:D} {f:Bool} {v:Value} {s':Shared} (e:s₁={ s with heap:=h₁,toks:=tk₁ }) (k:∀ a o,s.heap.get? a=some o→h₁.get? a=some o)
  (g:Grown w F s₁ d f v s'):Grown w F s d f v s':=by
 subst e
 (refine elEEAA (g) fun h' tk e_2 k' r=>?_; subst e_2)
 refine ⟨h',tk,rfl,fun a o e=>k' a o (k a o e),?_⟩
 have none_of:∀ a,h₁.get? a=none→s.heap.get? a=none:=fun a e=>by
  cases q:s.heap.get? a with
  | none=>rfl
  | some o=>rw [k a o q] at e; cases e
 cases f with
 | true=>(refine elEAA (r) fun a e q r_n=>?_; clear r; revert r_n; intro r); exact ⟨a,e,none_of a q,r⟩
 | false=>(refine elEAAA (r) fun F' l i q r_n=>?_; clear r; revert r_n; intro r); exact ⟨F',l,i,fun a e=>(q a e).imp id (none_of a),r⟩
end
theorem zl0:sizeLine=size:=rfl
theorem size_lt:(size:Int)<2^63:=by unfold size; decide
structure Room (n:Nat) (A:Around):Prop where
 handled:A.handled=none
 depth:A.depth+n<recursionLimit
 units:A.units+3*n+3000<cLine
theorem Room.u {n:Nat} {A:Around} (R:Room n A):A.units<cLine:=by have:=R.units; bv_omega
theorem Room.le {n m:Nat} {A:Around} (R:Room n A) (h:m≤n):Room m A:=⟨R.handled,by have:=R.depth; bv_omega,by have:=R.units; bv_omega⟩
theorem zx9 {d:D} (h:okd d=true):d.canLay0=true∧d.depth≤1000:=by
 unfold okd at h; simpa using h
theorem Room.two {n:Nat} {A:Around} (R:Room n A) {a b:D} (ha:okd a=true):A.units+min a.depth b.depth<cLine:=by
 exact Nat.lt_of_le_of_lt (Nat.add_le_add (Nat.le_add_right ..) (Nat.le_trans (Nat.min_le_left ..) (Nat.le_trans (zx9 ha).2 (by decide)))) R.units
theorem room_in1 {u n a b c:Nat} (h:u+3*n+3000<c) (ha:a≤1000):u+1+min a b<c:=Nat.lt_of_le_of_lt (Nat.le_trans (Nat.le_of_eq (Nat.add_assoc ..)) (Nat.add_le_add (Nat.le_add_right u (3*n)) (Nat.le_trans (Nat.add_le_add_left (Nat.le_trans (Nat.min_le_left a b) ha) 1) (by decide)))) h
section
variable {prog:Program} {w:World} {A:Around} {E:Value→Shared→Prop} {s:Shared} {F:Fz} {n:Nat}
theorem noPylong {a b:Int} (h0:b≠0) (h:zy9 b=true):Builtin.divisionGoesByPylong a b=false:=by
 refine PyProof.noPylong_of_log2 ?_
 have h0':b.natAbs≠0:=by bv_omega
 have:=(Nat.log2_lt (k:=62) h0').mpr (by simpa [zy9] using h)
 bv_omega
theorem zn8 (hin:F.In s.heap) {i:Int} {t:Tok} {tk:Nat}:Grown w F s (.int i) false (.int i t) { s with toks:=tk }:=Grown.old hin rep_int
theorem add_ok (hin:F.In s.heap) {x y:D} {r:D×Bool} {a b:Value} (e:addD x y=some r):Top w F s.heap x a→Top w F s.heap y b→wpAny (model prog w) A (binaryOp .Add a b) (Grown w F s r.1 r.2) E s:=by
 refine addK e (fun i j ha hb=>?_) (fun xs ys hz ha hb=>?_) fun xs ys hz ha hb=>?_
 ·exact ha.intK fun t=>hb.intK fun u=>PyProof.Rows.add_int (zn8 hin)
 ·refine ha.lisK hin fun _ a dd1 sl1 vs m h1 h2=>hb.lisK hin fun _ b dd2 sl2 ws m' h3 h4=>?_
  have hsz:vs.size+ws.size≤sizeLine:=by rw [List.length_append,← h2.length,← h4.length] at hz; exact hz
  exact concat_meets ⟨_,h1,rfl⟩ ⟨_,h3,rfl⟩ noFill_list_add seq_list_add PySem.F.slot_list_add PySem.F.entry_list_add (PySem.F.args_list_add_2 _ _)
   (PyProof.Rows.list_addW _ _ vs ws m m' dd1 dd2 sl1 sl2 hsz) ⟨h1,h3,Grown.list hz (Array.toList_append.symm▸h2.append h4)⟩
 ·refine ha.tupK hin fun _ a vs m hF h1 h2=>hb.tupK hin fun _ b ws m' hF' h3 h4=>?_
  have nil:∀ {xs:List D} {vs:Array Value},RepL w F xs vs.toList→vs.isEmpty=true→xs=[]:=fun h2 c0=>List.eq_nil_of_length_eq_zero (h2.length.symm.trans (Array.isEmpty_iff_size_eq_zero.mp c0))
  by_cases c0:vs.isEmpty=true
  ·exact concat_meets ⟨_,h1,rfl⟩ ⟨_,h3,rfl⟩ noFill_tuple_add seq_tuple_add PySem.F.slot_tuple_add PySem.F.entry_tuple_add (PySem.F.args_tuple_add_2 _ _)
    (PyProof.Rows.tuple_addW0 _ _ vs ws m m' none none #[] #[] c0) ⟨h1,h3,Grown.old (tk:=s.toks) hin (rep_tup hz hF' (by rw [nil h2 c0]; exact h4))⟩
  ·by_cases c1:ws.isEmpty=true
   ·exact concat_meets ⟨_,h1,rfl⟩ ⟨_,h3,rfl⟩ noFill_tuple_add seq_tuple_add PySem.F.slot_tuple_add PySem.F.entry_tuple_add (PySem.F.args_tuple_add_2 _ _)
     (PyProof.Rows.tuple_addW1 _ _ vs ws m m' none none #[] #[] c0 c1) ⟨h1,h3,Grown.old (tk:=s.toks) hin (rep_tup hz hF (by rw [nil h4 c1,List.append_nil]; exact h2))⟩
   ·have hsz:vs.size+ws.size≤sizeLine:=by rw [List.length_append,← h2.length,← h4.length] at hz; exact hz
    exact concat_meets ⟨_,h1,rfl⟩ ⟨_,h3,rfl⟩ noFill_tuple_add seq_tuple_add PySem.F.slot_tuple_add PySem.F.entry_tuple_add (PySem.F.args_tuple_add_2 _ _)
     (PyProof.Rows.tuple_addW2 _ _ vs ws m m' none none #[] #[] c0 c1 hsz) ⟨h1,h3,Grown.tuple hin hz (Array.toList_append.symm▸h2.append h4)⟩
theorem bin_ok (hin:F.In s.heap) {op:Operator} {x y d:D} {f:Bool} {a b:Value} (ha:Top w F s.heap x a) (hb:Top w F s.heap y b) (e:binD op x y=some (d,f)) :
  wpAny (model prog w) A (binaryOp op a b) (Grown w F s d f) E s:=by
 cases op with
 | Add=>exact add_ok hin e ha hb
 | Sub=>revert ha hb; exact int2K e fun i j e ha hb=>ha.intK fun t=>hb.intK fun u=>sm2 e (PyProof.Rows.sub_int (zn8 hin))
 | FloorDiv =>
  revert ha hb
  refine int2K e fun i j e ha hb=>ha.intK fun t=>hb.intK fun u=>?_
  obtain ⟨h0,e⟩:=ifS e
  rw [Bool.and_eq_true,bne_iff_ne] at h0
  exact sm2 (congrArg some e) (PyProof.Rows.floordiv_int h0.1 (zn8 hin) (.inl (noPylong h0.1 h0.2)))
 | Mod =>
  revert ha hb
  refine int2K e fun i j e ha hb=>ha.intK fun t=>hb.intK fun u=>?_
  obtain ⟨h0,e⟩:=ifS e
  rw [Bool.and_eq_true,bne_iff_ne] at h0
  exact sm2 (congrArg some e) (PyProof.Rows.mod_int' h0.1 (zn8 hin))
 | _=>exact (noS e).elim
end
end Snd
end
section
namespace Snd
open PySem Mini PySem.SeqAt
open AutoSeq1 (wpAny_loadPart')
open MeetsSeq MeetsSeq2 MeetsSeq3 SeqRoads2
noncomputable def RcLtAt (A:Around) (s:Shared) (y x:Value) (b:Bool):Prop :=
 ∀ (prog:Program) (w:World) (E:Value→Shared→Prop) (Q:Value→Shared→Prop),Q (.bool b) s→wpAny (model prog w) A (richCompare .Lt y x) Q E s
noncomputable def LtZ (A:Around) (s:Shared) (fin r:Bool):List (Value×Value)→Prop
 | []=>fin=r
 | p::t=>∃ c,EqAt A s p.1 p.2 c∧bif c then LtZ A s fin r t else RcLtAt A s p.1 p.2 r
theorem tuple_ltAt (l b:Addr) (items items2:Array Value) (n n2:Nat) (dd dd2:Option Addr) (sl sl2:Array (Option Value)) (r:Bool) :
  Meets (Builtin.«tuple.__lt__» ⟨[.ref l,.ref b],[]⟩)
   (fun A R s=>s.heap.get? l=some { cls:=.type "tuple", dict:=dd,data:=.seq items n,slots:=sl }∧s.heap.get? b=some { cls:=.type "tuple", dict:=dd2,data:=.seq items2 n2,slots:=sl2 } ∧
    LtZ A.in1 s (decide (items.size<items2.size)) r (items.toList.zip items2.toList)∧R (.ok (.ret (.bool r))) s) :=
 .of_wp fun prog w A R s h=>by
  obtain ⟨hp,g,d,tk,os⟩:=s
  refine elAAA h fun hl hb hz h'=>?_
  clear h
  have f2:=AutoSeq1.sub_tuple_tuple
  wp_walk using wpAny_loadPart' hl,wpAny_loadPart' hb,wpAny_forIn_list _ (fun rest b s'=>b.1=none∧s'=⟨hp,g,d,tk,os⟩∧LtZ A.in1 ⟨hp,g,d,tk,os⟩ (decide (items.size<items2.size)) r rest) _
  case turn =>
   rintro ⟨y,x⟩ rest b s' ⟨hb',rfl,c,he,hr⟩
   refine wpAny_bind (he prog w _ _ ?_)
   cases c with
   | true=>wp_walk; exact ⟨rfl,rfl,hr⟩
   | false =>
    simp only [Bool.not_false,if_true]
    exact wpAny_bind (wpAny_rule (wpAny_bind (hr prog w _ _ (wpAny_bind (wpAny_pure (wpAny_pure (wpAny_pure ⟨_,rfl,h'⟩)))))))
  case fin =>
   rintro ⟨b1,b2⟩ s' ⟨hb',rfl,hz'⟩
   simp only at hb'
   subst hb'
   wp_walk
   exact ⟨_,rfl,by simpa [Builtin.Tuple.tupleCompareSizes,show _=r from hz'] using h'⟩
  case h=>exact ⟨rfl,rfl,hz⟩
@[elab_as_elim] theorem rdI {h:Heap} {v:Value} {i:Int} {as:List Addr} (r:Reads h v (.int i) as) {P:Value→Prop} (k:∀ t,P (.int i t)):P v:=by cases r; exact k _
@[elab_as_elim] theorem rdS {h:Heap} {v:Value} {i:Str} {as:List Addr} (r:Reads h v (.str i) as) {P:Value→Prop} (k:∀ t,P (.str i t)):P v:=by cases r; exact k _
@[elab_as_elim] theorem rdT {h:Heap} {v:Value} {xs:List D} {as:List Addr} (r:Reads h v (.tuple xs) as) {P:Value→Prop} (k:∀ l dd vs m sl bs,h.get? l=some ⟨.type "tuple", dd,.seq vs m,sl⟩→ReadsAll h vs.toList xs bs→P (.ref l)):P v:=by
 cases r with
 | @tuple l o vs m _ _ h1 h2 h3 h4=>exact k l o.dict vs m o.slots _ (by rw [h1,← h2,← h3]) h4
noncomputable def LtOk (n:Nat):Prop:=∀ (x y:D) (b:Bool),x.depth<n→ltD x y=some b→∀ (A:Around) (s:Shared) (v u:Value) (as bs:List Addr),Reads s.heap v x as→Reads s.heap u y bs→x.canLay0=true→y.canLay0=true →
  A.units+min x.depth y.depth<cLine→RcLtAt A s v u b
theorem ltz_ok {n:Nat} (ih:LtOk n) {A:Around} {s:Shared} {b:Bool}:∀ (xs ys:List D) {vs us:List Value} {as bs:List Addr},ReadsAll s.heap vs xs as→ReadsAll s.heap us ys bs→PyData.canLayAll0 xs=true→PyData.canLayAll0 ys=true →
  PyData.depthAll xs<n→A.units+min (PyData.depthAll xs) (PyData.depthAll ys)<cLine→ltL xs ys=some b→LtZ A s (decide (xs.length<ys.length)) b (vs.zip us):=by
 intro xs
 induction xs with
 | nil =>
  intro ys vs us as bs ra rb _ _ _ _ h
  cases ra
  cases ys with
  | nil=>exact Option.some.inj h
  | cons y ys=>exact Option.some.inj h
 | cons x xs iht =>
  intro ys vs us as bs ra rb hx hy hn hu h
  cases ys with
  | nil =>
   cases rb
   rw [List.zip_nil_right]
   exact Option.some.inj h
  | cons y ys =>
   cases ra with
   | cons r1 r2 =>
   cases rb with
   | cons q1 q2 =>
   have hx:=Bool.and_eq_true_iff.mp hx
   have hy:=Bool.and_eq_true_iff.mp hy
   have hn:max x.depth (PyData.depthAll xs)<n:=hn
   refine ⟨PyData.eqv x y,eqAt_reads x y A s _ _ _ _ r1 q1 hx.1 hy.1 (room_head hu),?_⟩
   change (if PyData.eqv x y then ltL xs ys else ltD x y)=_ at h
   cases e:PyData.eqv x y with
   | true =>
    rw [e] at h
    have hd:decide ((x::xs).length<(y::ys).length)=decide (xs.length<ys.length):=decide_eq_decide.mpr Nat.succ_lt_succ_iff
    rw [hd]
    exact iht ys r2 q2 hx.2 hy.2 (Nat.lt_of_le_of_lt (Nat.le_max_right _ _) hn) (room_tail hu) h
   | false =>
    rw [e] at h
    exact ih x y b (Nat.lt_of_le_of_lt (Nat.le_max_left _ _) hn) h A s _ _ _ _ r1 q1 hx.1 hy.1 (room_head hu)
theorem lt_ok (n:Nat):LtOk n:=by
 induction n with
 | zero=>exact fun _ _ _ h=>absurd h (Nat.not_lt_zero _)
 | succ n ih =>
  intro x y b hn h
  revert hn
  refine ltK h ?_ ?_ ?_
  ·exact fun i j _ A s v u as bs rx ry _ _ _=>rdI rx fun t=>rdI ry fun t' prog w E Q hq=>PyProof.Rows.lt_int hq
  ·exact fun i j _ A s v u as bs rx ry _ _ _=>rdS rx fun t=>rdS ry fun t' prog w E Q hq=>PyProof.Rows.lt_str hq
  ·intro xs ys b h hn A s v u as bs rx ry ha hb hu
   refine rdT rx fun l dd vs m sl as' h1 h4=>rdT ry fun l' dd' ws m' sl' bs' k1 k4=>?_
   have n1:vs.size=xs.length:=ReadsAll.length _ _ _ h4
   have n2:ws.size=ys.length:=ReadsAll.length _ _ _ k4
   intro prog w E Q hq
   refine richCompare_meets_room (op:=.Lt) ⟨_,h1,rfl⟩ ⟨_,k1,rfl⟩ F.slot_tuple_lt F.entry_tuple_lt (F.args_tuple_lt_2 _ _)
    (tuple_ltAt l l' vs ws m m' dd dd' sl sl' b) ⟨h1,k1,?_,(fun x=>nomatch x),hq⟩ (room_here hu)
   rw [n1,n2]
   exact ltz_ok ih xs ys h4 k4 ha hb (Nat.lt_of_succ_lt_succ hn) (room_in hu) h
theorem rcLt_reads {x y:D} {b:Bool} (h:ltD x y=some b) {A:Around} {s:Shared} {v u:Value} {as bs:List Addr} (rx:Reads s.heap v x as) (ry:Reads s.heap u y bs) (hx:x.canLay0=true) (hy:y.canLay0=true)
  (hu:A.units+min x.depth y.depth<cLine):RcLtAt A s v u b:=lt_ok _ x y b (Nat.lt_succ_self _) h A s v u as bs rx ry hx hy hu
section
variable {prog:Program} {w:World} {A:Around} {E:Value→Shared→Prop} {s:Shared} {F:Fz} {n:Nat}
noncomputable def Says (s:Shared) (b:Bool) (r:Bool) (s':Shared):Prop:=r=b∧∃ tk,s'={ s with toks:=tk }
theorem truthy_ok (hin:F.In s.heap) {d:D} {v:Value} {b:Bool} (x:Top w F s.heap d v) (e:zx5 d=some b):wpAny (model prog w) A (truthy v) (Says s b) E s:=by
 have hn:∀ {l:List D} {vs:Array Value},RepL w F l vs.toList→(!vs.isEmpty)=!l.isEmpty:=fun {l vs} r=>by
  have e:vs.size=l.length:=r.length
  rw [Array.isEmpty,e]
  cases l<;>rfl
 have hs:∀ {l:List D} {vs:Array Value},RepL w F l vs.toList→l.length≤size→(vs.size:Int)<2^63:=fun {l vs} r hz=>by
  have e:vs.size=l.length:=r.length
  exact Int.lt_of_le_of_lt (Int.ofNat_le.mpr (Nat.le_trans (Nat.le_of_eq e) hz)) size_lt
 cases d with
 | none=>exact x.noneK (sm1 e (PyProof.Rows.truthy_none ⟨rfl,s.toks,rfl⟩))
 | bool c=>exact x.boolK (sm1 e (wpAny_truthy_bool ⟨rfl,s.toks,rfl⟩))
 | int i=>exact x.intK fun t=>sm1 e (PyProof.Rows.truthy_int ⟨rfl,s.toks,rfl⟩)
 | list l=>exact x.listK hin fun hz a ob vs m h1 hcl hdt h2=>sm1 e (wpAny_truthy_list ⟨_,h1,hcl,_,hdt⟩ (hs h2 hz) ⟨hn h2,_,rfl⟩)
 | tuple l=>exact x.tupK hin fun hz a vs m _ h1 h2=>sm1 e (PyProof.Rows.truthy_tuple ⟨_,h1,rfl,_,rfl⟩ (hs h2 hz) ⟨hn h2,_,rfl⟩)
 | _=>exact (noS e).elim
theorem isNone_beq (hin:F.In s.heap) {d:D} {v:Value} (x:Top w F s.heap d v):(v==Value.none)=isNoneD d:=by
 cases d with
 | none=>exact x.noneK rfl
 | bool c=>exact x.boolK rfl
 | int i=>exact x.intK fun t=>rfl
 | str i=>exact x.strK fun t=>rfl
 | list l=>exact x.listK hin fun _ _ _ _ _ _ _ _ _=>rfl
 | tuple l=>exact x.tupK hin fun _ _ _ _ _ _ _=>rfl
 | dict l=>exact x.dicK hin fun _ _ _ _ _ _ _=>rfl
theorem all_okd {l:List D} (h:l.all okd=true):PyData.canLayAll0 l=true∧PyData.depthAll l≤1000:=by
 induction l with
 | nil=>exact ⟨rfl,Nat.zero_le _⟩
 | cons x r ih =>
  simp only [List.all_cons,Bool.and_eq_true] at h
  have h1:=zx9 h.1
  have h2:=ih h.2
  simp only [PyData.canLayAll0,PyData.depthAll,Bool.and_eq_true]
  exact ⟨⟨h1.1,h2.1⟩,Nat.max_le.mpr ⟨h1.2,h2.2⟩⟩
noncomputable def SayV (s:Shared) (r:Bool) (v:Value) (s':Shared):Prop:=v=.bool r∧∃ tk,s'={ s with toks:=tk }
theorem say {r:Bool} {tk:Nat}:SayV s r (.bool r) { s with toks:=tk }:=⟨rfl,tk,rfl⟩
noncomputable def DictInP (w:World):Prop:=∀ (prog:Program) (A:Around) (E:Value→Shared→Prop) (s:Shared) (F:Fz) (n:Nat),Room n A→F.In s.heap→∀ {x:D} {kvs:List (D×D)} {a b:Value},Top w F s.heap x a→Top w F s.heap (.dict kvs) b→(zj3 x kvs&&!tkey x)=true →
 wpAny (model prog w) A (compareOp .In a b) (SayV s (zs1 kvs x).isSome) E s ∧
 wpAny (model prog w) A (compareOp .NotIn a b) (SayV s (!(zs1 kvs x).isSome)) E s
structure DictIn (w:World):Prop where
 inn:DictInP w
theorem eqs_ok (di:DictIn w) (R:Room n A) (hin:F.In s.heap) {x y:D} {r:Bool} {a b:Value} (ha:Top w F s.heap x a) (hb:Top w F s.heap y b) (e:eqD x y=some r) :
  wpAny (model prog w) A (compareOp .Eq a b) (SayV s r) E s∧wpAny (model prog w) A (compareOp .NotEq a b) (SayV s (!r)) E s:=by
 by_cases ho:(okd x&&okd y)=true
 ·have e:=(if_pos ho).symm.trans e
  have ho:=Bool.and_eq_true_iff.mp ho
  refine (ha.reads hin).elim fun as ra=>(hb.reads hin).elim fun bs rb=>sm1 e ?_
  exact ⟨compareEq_reads ra rb (zx9 ho.1).1 (zx9 ho.2).1 (R.two ho.1) say,compareNe_reads ra rb (zx9 ho.1).1 (zx9 ho.2).1 (R.two ho.1) say⟩
 ·exact (noS ((if_neg ho).symm.trans e)).elim
theorem ins_ok (di:DictIn w) (R:Room n A) (hin:F.In s.heap) {x y:D} {r:Bool} {a b:Value} (ha:Top w F s.heap x a) (hb:Top w F s.heap y b) (e:inD x y=some r) :
  wpAny (model prog w) A (compareOp .In a b) (SayV s r) E s∧wpAny (model prog w) A (compareOp .NotIn a b) (SayV s (!r)) E s:=by
 refine (ha.reads hin).elim fun as ra=>?_
 have hu:∀ {l:List D},l.all okd=true→A.units+1+min (PyData.depthAll l) x.depth<cLine:=fun h=>room_in1 R.units (all_okd h).2
 revert hb
 refine inK e (fun l h1 h2 hb=>?_) (fun l h1 h2 hb=>?_) (fun l h hb=>?_)
 ·exact (hb.reads hin).elim fun bs rb=>⟨in_list_reads rb ra (all_okd h2).1 (zx9 h1).1 (hu h2) say,notIn_list_reads rb ra (all_okd h2).1 (zx9 h1).1 (hu h2) say⟩
 ·exact (hb.reads hin).elim fun bs rb=>⟨in_tuple_reads rb ra (all_okd h2).1 (zx9 h1).1 (hu h2) say,notIn_tuple_reads rb ra (all_okd h2).1 (zx9 h1).1 (hu h2) say⟩
 ·exact di.inn prog A E s F n R hin ha hb h
theorem cmp_ok (di:DictIn w) (R:Room n A) (hin:F.In s.heap) {op:CmpOp} {x y:D} {r:Bool} {a b:Value} (ha:Top w F s.heap x a) (hb:Top w F s.heap y b) (e:cmpD op x y=some r) :
  wpAny (model prog w) A (compareOp op a b) (SayV s r) E s:=by
 cases op with
 | Eq=>exact (eqs_ok di R hin ha hb e).1
 | NotEq=>exact bK1 e fun q hq e=>sm1 e (eqs_ok di R hin ha hb hq).2
 | Lt =>
  by_cases ho:(okd x&&okd y)=true
  ·have e:=(if_pos ho).symm.trans e
   have ho:=Bool.and_eq_true_iff.mp ho
   exact (ha.reads hin).elim fun as ra=>(hb.reads hin).elim fun bs rb=>rcLt_reads e ra rb (zx9 ho.1).1 (zx9 ho.2).1 (R.two ho.1) _ _ _ _ say
  ·exact (noS ((if_neg ho).symm.trans e)).elim
 | Gt =>
  revert ha hb
  exact gtK e (fun i j ha hb=>ha.intK fun t=>hb.intK fun u=>PyProof.Rows.gt_int say) (fun i j ha hb=>ha.strK fun t=>hb.strK fun u=>PySem.P.gt_str say)
 | LtE=>revert ha hb; exact as2K (x:=x) (y:=y) (g:=fun i j=>some (decide (i≤j))) e fun i j e ha hb=>ha.intK fun t=>hb.intK fun u=>sm1 e (PyProof.Rows.le_int say)
 | GtE=>revert ha hb; exact as2K (x:=x) (y:=y) (g:=fun i j=>some (decide (j≤i))) e fun i j e ha hb=>ha.intK fun t=>hb.intK fun u=>sm1 e (PyProof.Rows.ge_int say)
 | Is =>
  refine bK1 e fun q hq e=>sm1 e ?_
  obtain rfl:=asNone_some hq
  exact hb.noneK (PyProof.Rows.is_none_gen (isNone_beq hin ha▸say))
 | In=>exact (ins_ok di R hin ha hb e).1
 | NotIn=>exact bK1 e fun q hq e=>sm1 e (ins_ok di R hin ha hb hq).2
 | _=>exact (noS e).elim
end
end Snd
end
section
namespace Snd
open PySem Mini PySem.SeqAt
set_option tactic.hygienic true in
theorem sliceL_pick {items:Array Value} {lo hi:Option Int}:(slicePick items lo hi none).toList=zv0 items.toList lo hi:=by
 have key:∀ (i:Int) (n:Nat),(max 0 (min (if i<0 then i+n else i) n)).toNat=clampI n i:=by
  have z:∀ x:Int,(max 0 x).toNat=x.toNat:=fun x=>by
   rcases Int.le_total 0 x with h|h
   ·rw [Int.max_eq_right h]
   ·rw [Int.max_eq_left h,Int.toNat_of_nonpos h]; rfl
  intro i n
  unfold clampI
  rw [z]
  split
  ·rw [Int.min_eq_left (by bv_omega)]
  ·next q =>
   rcases Int.le_total i n with h|h
   ·rw [Int.min_eq_left h,Nat.min_eq_left (Int.toNat_le.mpr h)]
   ·rw [Int.min_eq_right h,Int.toNat_natCast,Nat.min_eq_right ((Int.le_toNat (Int.not_lt.mp q)).mpr h)]
 have gen:∀ (a b:Nat),((sliceRange (a:Int) (b:Int) 1).filterMap (items[·]?))=(items.toList.take b).drop a:=by
  intro a b
  have e:sliceRange (a:Int) (b:Int) 1=(List.range (b - a)).map (a+·):=by
   unfold sliceRange
   simp only [show (1:Int) > 0 by decide,if_true]
   have:(if (a:Int)<b then ((b:Int) - a+1 - 1) / 1 else 0).toNat=b - a:=by
    split<;>bv_omega
   rw [this]
   refine List.map_congr_left fun k hk=>?_
   bv_omega
  rw [e,pick_run,List.drop_take]
 have nn:∀ (i:Int) (n:Nat),0≤max 0 (min (if i<0 then i+n else i) n):=fun i n=>Int.le_max_left _ _
 have nat:∀ x:Int,0≤x→x=((x.toNat:Nat):Int):=fun x h=>by bv_omega
 unfold slicePick zv0 sliceBounds
 simp only [Option.getD_none,show (1:Int) > 0 by decide,if_true,Array.length_toList]
 cases lo with
 | none =>
  cases hi with
  | none=>exact (gen 0 items.size)
  | some j =>
   dsimp only
   rw [nat _ (nn j items.size),key]
   exact gen 0 _
 | some i =>
  cases hi with
  | none =>
   dsimp only
   rw [nat _ (nn i items.size),key]
   exact gen _ items.size
  | some j =>
   dsimp only
   rw [nat _ (nn i items.size),nat _ (nn j items.size),key,key]
   exact gen _ _
section
variable {w:World} {F:Fz}
theorem RepL.slice {ds:List D} {vs:List Value} (lo hi:Option Int) (r:RepL w F ds vs):RepL w F (zv0 ds lo hi) (zv0 vs lo hi):=by
 unfold zv0
 rw [r.length]
 exact (r.take _).drop _
theorem sliceL_length_le {α:Type} (l:List α) (lo hi:Option Int):(zv0 l lo hi).length≤l.length:=by
 unfold zv0
 rw [List.length_drop,List.length_take]; exact Nat.le_trans (Nat.sub_le _ _) (Nat.min_le_right _ _)
end
section
variable {prog:Program} {w:World} {A:Around} {E:Value→Shared→Prop} {s:Shared} {F:Fz} {n:Nat}
noncomputable def GotV (w:World) (F:Fz) (s:Shared) (d:D) (r:Value) (s':Shared):Prop:=Rep w F d r∧∃ tk,s'={ s with toks:=tk }
noncomputable def DictGet (w:World):Prop:=∀ (prog:Program) (A:Around) (E:Value→Shared→Prop) (s:Shared) (F:Fz) (n:Nat),Room n A→F.In s.heap→∀ {x v:D} {kvs:List (D×D)} {a b:Value},Top w F s.heap x a→Top w F s.heap (.dict kvs) b→zj3 x kvs=true→zs1 kvs x=some v →
 wpAny (model prog w) A (getItem b a) (GotV w F s v) E s
theorem small_of {l:List D} {j:Nat} {i:Int} {d:D} (hz:l.length≤size) (hj:i=(j:Int)) (e:l[j]?=some d):i<2^63:=by
 have:=(List.getElem?_eq_some_iff.mp e).1
 have:=size_lt
 bv_omega
theorem getItem_ok (dg:DictGet w) (R:Room n A) (hin:F.In s.heap) {x y d:D} {a b:Value} (ha:Top w F s.heap x a) (hb:Top w F s.heap y b) (e:idxD x y=some d) :
  wpAny (model prog w) A (getItem a b) (GotV w F s d) E s:=by
 revert ha hb
 refine idxK e (fun l i h0 e ha hb=>?_) (fun l i h0 e ha hb=>?_) (fun kvs k hk e ha hb=>dg prog A E s F n R hin hb ha hk e)
 ·exact ha.listK hin fun hz a ob vs m h1 hcl hdt h2=>hb.intK fun t=>elEA (h2.get e) fun v hv r =>
   wpAny_getItem_list ⟨_,h1,hcl,_,hdt⟩ h0 (small_of hz (Int.toNat_of_nonneg h0).symm e) (Array.getElem?_toList.symm.trans hv) ⟨r,s.toks,rfl⟩
 ·refine ha.tupK hin fun hz a vs m _ h1 h2=>hb.intK fun t=>elEA (h2.get e) fun v hv r =>
   PyProof.Rows.getItem_tuple (j:=i.toNat) ⟨_,h1,rfl,_,rfl⟩ (Int.le_trans (by decide) h0) (small_of hz (Int.toNat_of_nonneg h0).symm e) ?_ (Array.getElem?_toList.symm.trans hv) ⟨r,s.toks,rfl⟩
  have hlt:=(List.getElem?_eq_some_iff.mp hv).1
  have hs:vs.toList.length=vs.size:=Array.length_toList
  unfold seqIndex?
  rw [if_neg (Int.not_lt.mpr h0)]
  exact if_pos (Bool.and_eq_true_iff.mpr ⟨decide_eq_true h0,decide_eq_true (by bv_omega)⟩)
theorem subTail_ok (dg:DictGet w) (R:Room n A) (hin:F.In s.heap) {value slice:Expr} {x y d:D} {a b:Value} (ha:Top w F s.heap x a) (hb:Top w F s.heap y b) (e:idxD x y=some d)
  (hs:∀ o i,subscripted slice false o i=operate [o,i] (getItem o i)) :
  wpAny (model prog w) A (PyProof.Rows.subscriptTail value slice a b) (GotV w F s d) E s:=by
 have h:=getItem_ok (prog:=prog) (A:=A) (E:=E) dg R hin ha hb e
 revert h
 cases x with
 | list l=>exact ha.listK hin fun hz a ob vs m h1 hcl hdt h2 h=>PyProof.Rows.tail_any ⟨_,h1,hcl⟩ PySem.F.slot_list_getitem.lookup h (hs _ _)
 | tuple l=>exact ha.tupK hin fun hz a vs m _ h1 h2 h=>PyProof.Rows.tail_any ⟨_,h1,rfl⟩ PySem.F.slot_tuple_getitem.lookup h (hs _ _)
 | dict l=>exact ha.dicK hin fun hz a vs m h1 h2 _ h=>PyProof.Rows.tail_any ⟨_,h1,rfl⟩ PySem.F.slot_dict_getitem.lookup h (hs _ _)
 | _=>exact (noS e).elim
theorem Grown.keep {d:D} {v:Value} {h':Heap} {tk:Nat} (hin:F.In s.heap) (k:∀ a o,s.heap.get? a=some o→h'.get? a=some o) (r:Rep w F d v):Grown w F s d false v { s with heap:=h',toks:=tk } :=
 ⟨h',tk,rfl,k,F,Fz.le_refl F,fun a o e=>k a o (hin a o e),fun _ e=>.inl e,r⟩
theorem sizeL {xs:List D} {vs:Array Value} (h:RepL w F xs vs.toList) (hz:xs.length≤size):vs.size≤sizeLine:=Nat.le_trans (Nat.le_of_eq h.length) hz
theorem sizeI {xs:List D} {vs:Array Value} (h:RepL w F xs vs.toList) (hz:xs.length≤size):(vs.size:Int)<2^63:=by
 have:=sizeL h hz
 rw [zl0] at this
 have:=size_lt
 bv_omega
theorem slcTail_ok (hin:F.In s.heap) {value:Expr} {l u:Option Expr} {p:Pos} {d r:D} {f:Bool} {a vl vu:Value} {lo hi:Option Int} (ha:Top w F s.heap d a) (pl:IsPart vl lo) (pu:IsPart vu hi) (e:sliceD d lo hi=some (r,f)) :
  wpAny (model prog w) A (newFields "slice" [vl,vu,.none]) (fun i s₁=>wpAny (model prog w) A (PyProof.Rows.subscriptTail value (.Slice l u none p) a i) (Grown w F s r f) E s₁) E s:=by
 refine wpAny_newObj_type ?_
 generalize hh:s.heap.push { cls:=.type "slice", data:=.fields [vl,vu,Value.none].toArray }=h₁
 have k:∀ b o,s.heap.get? b=some o→h₁.get? b=some o:=fun b o e=>hh▸Heap.get?_push_of_some _ e
 have hS:h₁.IsSliceOf s.heap.objs.size vl vu .none:=hh▸⟨_,Heap.get?_push_size _ rfl,rfl,rfl⟩
 clear hh
 revert ha pl pu
 refine sliceK (P:=fun d lo hi r=>Top w F s.heap d a→IsPart vl lo→IsPart vu hi→wpAny (model prog w) A (PyProof.Rows.subscriptTail value (.Slice l u none p) a (.ref s.heap.objs.size)) (Grown w F s r.1 r.2) E { s with heap:=h₁ }) e (fun xs lo hi ha pl pu=>?_) (fun xs i h0 ha pl pu=>?_)
 ·refine ha.listK hin fun hz a ob vs m h1 hcl hdt h2=>PyProof.Rows.tail_any ⟨_,k _ _ h1,hcl⟩ PySem.F.slot_list_getitem.lookup
   (wpAny_getItem_list_slice ⟨_,k _ _ h1,hcl,_,hdt⟩ hS pl pu .none (fun x=>nomatch x) (Grown.from (s:=s) (h₁:=h₁) (tk₁:=s.toks) rfl k ?_) (sizeL h2 hz)) rfl
  exact Grown.list (tk:=s.toks) (Nat.le_trans (sliceL_length_le _ _ _) hz) (sliceL_pick▸h2.slice lo hi)
 ·refine ha.tupK hin fun hz a vs m _ h1 h2=>?_
  cases pu
  cases pl with
  | int i t =>
  have e1:vs.size=xs.length:=h2.length
  obtain ⟨j,rfl⟩:=Int.eq_ofNat_of_zero_le (Int.le_trans (by decide) h0.1)
  refine PyProof.Rows.tail_any ⟨_,k _ _ h1,rfl⟩ PySem.F.slot_tuple_getitem.lookup (PyProof.Rows.getItem_tuple_from ⟨_,k _ _ h1,rfl,_,rfl⟩ hS (Int.ofNat_le.mp h0.1) (e1▸Int.ofNat_le.mp h0.2)
   (Grown.from (s:=s) (h₁:=h₁) (tk₁:=s.toks) rfl k (Grown.tuple (tk:=s.toks) (fun b o e=>k b o (hin b o e)) (Nat.le_trans (List.length_drop▸Nat.sub_le _ _) hz) ?_)) (sizeL h2 hz)) rfl
  exact h2.drop j
noncomputable def primVal:Prim→Value
 | .len=>.builtin "len" | .sorted=>.builtin "sorted" | .min=>.builtin "min" | .max=>.builtin "max"
 | .tuple=>.type "tuple" | .list=>.type "list" | .dict=>.type "dict" | .int=>.type "int"
noncomputable def PrimRest (w:World):Prop:=∀ (prog:Program) (A:Around) (E:Value→Shared→Prop) (s:Shared) (F:Fz) (n:Nat),Room n A→F.In s.heap→∀ {p:Prim} {x d:D} {f:Bool} {v:Value},Top w F s.heap x v→restD p x=some (d,f) →
 wpAny (model prog w) A (call (primVal p) [v]) (Grown w F s d f) E s
theorem list_ok (hin:F.In s.heap) {x:D} {l:List D} {v:Value} (hv:Top w F s.heap x v) (e:seqD x=some l):wpAny (model prog w) A (call (.type "list") [v]) (Grown w F s (.list l) true) E s:=by
 revert hv
 refine seqK e (fun hv=>?_) (fun hv=>?_)
 ·exact hv.listK hin fun hz a ob vs m h1 hcl hdt h2=>call_list_seq a (.inl rfl) h1 hcl hdt (fun h' c k hn=>⟨h',s.toks,rfl,k,_,rfl,zy4 _,hz,vs,c,hn,h2⟩) (sizeL h2 hz)
 ·exact hv.tupK hin fun hz a vs m _ h1 h2=>call_list_seq a (.inr rfl) h1 rfl rfl (fun h' c k hn=>⟨h',s.toks,rfl,k,_,rfl,zy4 _,hz,vs,c,hn,h2⟩) (sizeL h2 hz)
theorem tuple_ok (hin:F.In s.heap) {x:D} {l:List D} {v:Value} (hv:Top w F s.heap x v) (e:seqD x=some l):wpAny (model prog w) A (call (.type "tuple") [v]) (Grown w F s (.tuple l) false) E s:=by
 revert hv
 refine seqK e (fun hv=>?_) (fun hv=>?_)
 ·exact hv.listK hin fun hz a ob vs m h1 hcl hdt h2=>call_tuple_list ⟨_,h1,hcl,_,hdt⟩ (fun h' k=>Grown.from (s:=s) (h₁:=h') (tk₁:=s.toks) rfl k (Grown.tuple (s:={ s with heap:=h' }) (tk:=s.toks) (fun b o e=>k b o (hin b o e)) hz h2)) (sizeL h2 hz)
 ·exact hv.tupK hin fun hz a vs m hF h1 h2=>call_tuple_same ⟨_,h1,rfl,_,rfl⟩ (Grown.old (tk:=s.toks) hin (rep_tup hz hF h2))
theorem len_ok (hin:F.In s.heap) {x:D} {r:D×Bool} {v:Value} (hv:Top w F s.heap x v) (e:lenD x=some r):wpAny (model prog w) A (call (.builtin "len") [v]) (Grown w F s r.1 r.2) E s:=by
 revert hv
 refine lenK e (fun l hv=>?_) (fun l hv=>?_)
 ·refine hv.listK hin fun hz a ob vs m h1 hcl hdt h2=>PyProof.Rows.len_list ⟨_,h1,hcl,_,hdt⟩ (sizeI h2 hz) ?_
  rw [show vs.size=l.length from h2.length]; exact zn8 hin
 ·refine hv.tupK hin fun hz a vs m _ h1 h2=>PyProof.Rows.len_tuple ⟨_,h1,rfl,_,rfl⟩ (sizeI h2 hz) ?_
  rw [show vs.size=l.length from h2.length]; exact zn8 hin
theorem prim1_ok (pr:PrimRest w) (R:Room n A) (hin:F.In s.heap) {p:Prim} {x d:D} {f:Bool} {v:Value} (hv:Top w F s.heap x v) (e:prim1D p x=some (d,f)) :
  wpAny (model prog w) A (call (primVal p) [v]) (Grown w F s d f) E s:=by
 cases p with
 | len=>exact len_ok hin hv e
 | sorted=>exact pr prog A E s F n R hin (p:=.sorted) hv e
 | tuple=>exact bK1 e fun l hl e=>sm2 e (tuple_ok hin hv hl)
 | list =>
  change orS ((seqD x).bind _) _=_ at e
  cases hl:seqD x with
  | none=>rw [hl] at e; exact pr prog A E s F n R hin (p:=.list) hv e
  | some l=>rw [hl] at e; exact sm2 e (list_ok hin hv hl)
 | int =>
  cases x with
  | bool c=>exact hv.boolK (sm2 e (call_int_bool (zn8 hin)))
  | _=>exact (noS e).elim
 | dict=>exact pr prog A E s F n R hin (p:=.dict) hv e
 | _=>exact (noS e).elim
theorem prim2_ok (R:Room n A) (hin:F.In s.heap) {p:Prim} {x y d:D} {f:Bool} {v u:Value} (hv:Top w F s.heap x v) (hu:Top w F s.heap y u) (e:prim2D p x y=some (d,f)) :
  wpAny (model prog w) A (call (primVal p) [v,u]) (Grown w F s d f) E s:=by
 revert hv hu
 refine as2K (x:=x) (y:=y) e fun i j e hv hu=>hv.intK fun t=>hu.intK fun t'=>?_
 cases p<;>try exact (noS e).elim
 ·refine sm2 e (min_two_ints R.handled fun h' tk k=>Grown.keep hin k ?_)
  by_cases hc:j<i
  ·rw [if_pos hc,Int.min_eq_right (by bv_omega)]; exact rep_int
  ·rw [if_neg hc,Int.min_eq_left (by bv_omega)]; exact rep_int
 ·refine sm2 e (max_two_ints R.handled fun h' tk k=>Grown.keep hin k ?_)
  by_cases hc:j > i
  ·rw [if_pos hc,Int.max_eq_right (by bv_omega)]; exact rep_int
  ·rw [if_neg hc,Int.max_eq_left (by bv_omega)]; exact rep_int
noncomputable def bltTab:List (Str×Value):=[("len", .builtin "len"),("sorted", .builtin "sorted"),("min", .builtin "min"),("max", .builtin "max"),("isinstance", .builtin "isinstance"),("tuple", .type "tuple"),("list", .type "list"),("dict", .type "dict"),
 ("int", .type "int"),("bool", .type "bool"),("str", .type "str"),("range", .type "range"),("reversed", .type "reversed"),("zip", .type "zip"),("ValueError", .type "ValueError")]
noncomputable def bltVal (x:Str):Option Value:=bltTab.lookup x
theorem isi_int (hin:F.In s.heap) {d:D} {v:Value} (ha:Top w F s.heap d v):wpAny (model prog w) A (call (.builtin "isinstance") [v,.type "int"]) (SayV s (isI d)) E s:=by
 cases d with
 | none=>exact ha.noneK (IsiPair.NoneType_int say)
 | bool _=>exact ha.boolK (IsiPair.bool_int say)
 | int _=>exact ha.intK fun t=>(IsiPair.int_int say)
 | str _=>exact ha.strK fun t=>(IsiPair.str_int say)
 | list _=>exact ha.listK hin fun _ a ob _ _ h1 hcl _ _=>(IsiPair.list_int h1 hcl say)
 | tuple _=>exact ha.tupK hin fun _ a _ _ _ h1 _=>(IsiPair.tuple_int h1 rfl say)
 | dict _=>exact ha.dicK hin fun _ a _ _ h1 _ _=>(IsiPair.dict_int h1 rfl say)
theorem isi_bool (hin:F.In s.heap) {d:D} {v:Value} (ha:Top w F s.heap d v):wpAny (model prog w) A (call (.builtin "isinstance") [v,.type "bool"]) (SayV s (isB d)) E s:=by
 cases d with
 | none=>exact ha.noneK (IsiPair.NoneType_bool say)
 | bool _=>exact ha.boolK (IsiPair.bool_bool say)
 | int _=>exact ha.intK fun t=>(IsiPair.int_bool say)
 | str _=>exact ha.strK fun t=>(IsiPair.str_bool say)
 | list _=>exact ha.listK hin fun _ a ob _ _ h1 hcl _ _=>(IsiPair.list_bool h1 hcl say)
 | tuple _=>exact ha.tupK hin fun _ a _ _ _ h1 _=>(IsiPair.tuple_bool h1 rfl say)
 | dict _=>exact ha.dicK hin fun _ a _ _ h1 _ _=>(IsiPair.dict_bool h1 rfl say)
theorem isi_str (hin:F.In s.heap) {d:D} {v:Value} (ha:Top w F s.heap d v):wpAny (model prog w) A (call (.builtin "isinstance") [v,.type "str"]) (SayV s (isS d)) E s:=by
 cases d with
 | none=>exact ha.noneK (IsiPair.NoneType_str say)
 | bool _=>exact ha.boolK (IsiPair.bool_str say)
 | int _=>exact ha.intK fun t=>(IsiPair.int_str say)
 | str _=>exact ha.strK fun t=>(IsiPair.str_str say)
 | list _=>exact ha.listK hin fun _ a ob _ _ h1 hcl _ _=>(IsiPair.list_str h1 hcl say)
 | tuple _=>exact ha.tupK hin fun _ a _ _ _ h1 _=>(IsiPair.tuple_str h1 rfl say)
 | dict _=>exact ha.dicK hin fun _ a _ _ h1 _ _=>(IsiPair.dict_str h1 rfl say)
theorem isi_tuple (hin:F.In s.heap) {d:D} {v:Value} (ha:Top w F s.heap d v):wpAny (model prog w) A (call (.builtin "isinstance") [v,.type "tuple"]) (SayV s (isT d)) E s:=by
 cases d with
 | none=>exact ha.noneK (IsiPair.NoneType_tuple say)
 | bool _=>exact ha.boolK (IsiPair.bool_tuple say)
 | int _=>exact ha.intK fun t=>(IsiPair.int_tuple say)
 | str _=>exact ha.strK fun t=>(IsiPair.str_tuple say)
 | list _=>exact ha.listK hin fun _ a ob _ _ h1 hcl _ _=>(IsiPair.list_tuple h1 hcl say)
 | tuple _=>exact ha.tupK hin fun _ a _ _ _ h1 _=>(IsiPair.tuple_tuple h1 rfl say)
 | dict _=>exact ha.dicK hin fun _ a _ _ h1 _ _=>(IsiPair.dict_tuple h1 rfl say)
theorem isi_list (hin:F.In s.heap) {d:D} {v:Value} (ha:Top w F s.heap d v):wpAny (model prog w) A (call (.builtin "isinstance") [v,.type "list"]) (SayV s (isL d)) E s:=by
 cases d with
 | none=>exact ha.noneK (IsiPair.NoneType_list say)
 | bool _=>exact ha.boolK (IsiPair.bool_list say)
 | int _=>exact ha.intK fun t=>(IsiPair.int_list say)
 | str _=>exact ha.strK fun t=>(IsiPair.str_list say)
 | list _=>exact ha.listK hin fun _ a ob _ _ h1 hcl _ _=>(IsiPair.list_list h1 hcl say)
 | tuple _=>exact ha.tupK hin fun _ a _ _ _ h1 _=>(IsiPair.tuple_list h1 rfl say)
 | dict _=>exact ha.dicK hin fun _ a _ _ h1 _ _=>(IsiPair.dict_list h1 rfl say)
theorem isi_dict (hin:F.In s.heap) {d:D} {v:Value} (ha:Top w F s.heap d v):wpAny (model prog w) A (call (.builtin "isinstance") [v,.type "dict"]) (SayV s (isK d)) E s:=by
 cases d with
 | none=>exact ha.noneK (IsiPair.NoneType_dict say)
 | bool _=>exact ha.boolK (IsiPair.bool_dict say)
 | int _=>exact ha.intK fun t=>(IsiPair.int_dict say)
 | str _=>exact ha.strK fun t=>(IsiPair.str_dict say)
 | list _=>exact ha.listK hin fun _ a ob _ _ h1 hcl _ _=>(IsiPair.list_dict h1 hcl say)
 | tuple _=>exact ha.tupK hin fun _ a _ _ _ h1 _=>(IsiPair.tuple_dict h1 rfl say)
 | dict _=>exact ha.dicK hin fun _ a _ _ h1 _ _=>(IsiPair.dict_dict h1 rfl say)
theorem isi_ok (hin:F.In s.heap) {d:D} {ty:Str} {v:Value} {b:Bool} (ha:Top w F s.heap d v) (e:isiD d ty=some b) :
  ∃ T,bltVal ty=some (.type T)∧wpAny (model prog w) A (call (.builtin "isinstance") [v,.type T]) (SayV s b) E s:=by
 have k:∀ {x:Str} {T:String} {c:Bool},bltVal x=some (.type T)→wpAny (model prog w) A (call (.builtin "isinstance") [v,.type T]) (SayV s c) E s→(ty==x)=true→some c=some b→∃ T,bltVal ty=some (.type T)∧wpAny (model prog w) A (call (.builtin "isinstance") [v,.type T]) (SayV s b) E s :=
  fun h1 h2 h3 h4=>⟨_,eq_of_beq h3▸h1,Option.some.inj h4▸h2⟩
 exact iteS e (k rfl (isi_int hin ha)) fun e=>iteS e (k rfl (isi_bool hin ha)) fun e=>iteS e (k rfl (isi_str hin ha)) fun e =>
  iteS e (k rfl (isi_tuple hin ha)) fun e=>iteS e (k rfl (isi_list hin ha)) fun e=>iteS e (k rfl (isi_dict hin ha)) fun e=>(noS e).elim
end
end Snd
end
section
namespace Snd
open PySem Mini
structure Step (C:Cx) (X:Addr→Prop) (P:List Place) (vs:List (Option Value)) (F:Fz) (s:Shared) (σ:Sg) (F':Fz) (s':Shared):Prop where
 eq:∃ h' tk,s'={ s with heap:=h',toks:=tk }
 le:F.le F'
 st:St C X F' s'.heap P vs σ
 same:XSame X s.heap s'.heap
noncomputable def OpndOk (w:World) (F:Fz) (vs:List (Option Value)) (v:Value):Opnd→Prop
 | .slot k=>vs[k]?=some (some v)
 | .dat d=>Rep w F d v
inductive Post (C:Cx) (X:Addr→Prop) (P:List Place) (vs:List (Option Value)) (F:Fz) (s:Shared) (σ:Sg) (d:D) (f:Bool) (v:Value) (s':Shared):Prop
 | mk (F':Fz) (st:Step C X P vs F s σ F' s') (r:ResOk C.w X F' s'.heap P vs σ v d f)
inductive PostZ (C:Cx) (X:Addr→Prop) (P:List Place) (vs:List (Option Value)) (F:Fz) (s:Shared) (σ:Sg) (d:D) (v:Value) (s':Shared):Prop
 | mk (F':Fz) (st:Step C X P vs F s σ F' s') (r:Rep C.w F' d v)
inductive PostO (C:Cx) (X:Addr→Prop) (P:List Place) (vs:List (Option Value)) (F:Fz) (s:Shared) (σ:Sg) (o:Opnd) (v:Value) (s':Shared):Prop
 | mk (F':Fz) (st:Step C X P vs F s σ F' s') (r:OpndOk C.w F' vs v o)
inductive PostB (C:Cx) (X:Addr→Prop) (P:List Place) (vs:List (Option Value)) (F:Fz) (s:Shared) (σ:Sg) (b:Bool) (r:Bool) (s':Shared):Prop
 | mk (e:r=b) (F':Fz) (st:Step C X P vs F s σ F' s')
inductive PostL (C:Cx) (X:Addr→Prop) (P:List Place) (vs:List (Option Value)) (F:Fz) (s:Shared) (σ:Sg) (ds:List D) (ws:List Value) (s':Shared):Prop
 | mk (F':Fz) (st:Step C X P vs F s σ F' s') (r:RepL C.w F' ds ws)
inductive PostD (C:Cx) (X:Addr→Prop) (P:List Place) (vs:List (Option Value)) (F:Fz) (s:Shared) (σ:Sg) (x y:D) (a b:Value) (s':Shared):Prop
 | mk (F':Fz) (st:Step C X P vs F s σ F' s') (ta:Top C.w F' s'.heap x a) (tb:Top C.w F' s'.heap y b)
inductive PostU (C:Cx) (X:Addr→Prop) (P:List Place) (vs:List (Option Value)) (F:Fz) (s:Shared) (σ:Sg) (x:D) (a:Value) (s':Shared):Prop
 | mk (F':Fz) (st:Step C X P vs F s σ F' s') (ta:Top C.w F' s'.heap x a)
section
variable {C:Cx} {X:Addr→Prop} {P:List Place} {vs:List (Option Value)} {F F' F'':Fz} {s s' s'':Shared} {σ σ' σ'':Sg}
theorem Step.trans (a:Step C X P vs F s σ' F' s') (b:Step C X P vs F' s' σ'' F'' s''):Step C X P vs F s σ'' F'' s'' where
 eq:=by
  (refine elEE (a.eq) fun h1 t1 e_2=>?_; subst e_2)
  (refine elEE (b.eq) fun h2 t2 e_2=>?_; subst e_2)
  exact ⟨h2,t2,rfl⟩
 le:=Fz.le.trans a.le b.le
 st:=b.st
 same:=XSame.trans a.same b.same
theorem Step.refl (S:St C X F s.heap P vs σ):Step C X P vs F s σ F s:=⟨⟨s.heap,s.toks,rfl⟩,Fz.le_refl F,S,XSame.refl⟩
theorem Step.toks (S:St C X F s.heap P vs σ) (tk:Nat):Step C X P vs F s σ F { s with toks:=tk }:=⟨⟨s.heap,tk,rfl⟩,Fz.le_refl F,S,XSame.refl⟩
theorem Step.then (a:Step C X P vs F s σ' F' s') {tk:Nat} (e:s''={ s' with toks:=tk }):Step C X P vs F s σ' F' s'':=by
 subst e; exact a.trans (Step.toks a.st tk)
theorem OpndOk.mono {w:World} {v:Value} {o:Opnd} (l:F.le F') (x:OpndOk w F vs v o):OpndOk w F' vs v o:=by
 cases o with
 | slot k=>exact x
 | dat d=>exact Rep.mono l d x
theorem OpndOk.top {v:Value} {o:Opnd} {d:D} (S:St C X F s.heap P vs σ) (x:OpndOk C.w F vs v o) (e:res o σ=some d):Top C.w F s.heap d v:=by
 cases o with
 | slot k =>
  refine elEA (S.look e) fun v' h1 h2=>?_
  rw [show vs[k]?=_ from x] at h1; cases h1
  exact h2
 | dat d'=>cases e; exact .inl x
theorem Post.trans {d:D} {f:Bool} {v:Value} (a:Step C X P vs F s σ' F' s') (b:Post C X P vs F' s' σ'' d f v s''):Post C X P vs F s σ'' d f v s'':=by
 obtain ⟨G,st,r⟩:=b
 exact ⟨G,a.trans st,r⟩
theorem Post.freeze {d:D} {f:Bool} {v:Value} (x:Post C X P vs F s σ d f v s'):PostZ C X P vs F s σ d v s':=by
 obtain ⟨G,st,r⟩:=x
 refine elEAA (r.freeze st.st) fun G' l S' r'=>?_
 exact ⟨G',⟨st.eq,Fz.le.trans st.le l,S',st.same⟩,r'⟩
theorem Post.old {d:D} {v:Value} (a:Step C X P vs F s σ F' s') (r:Rep C.w F' d v):Post C X P vs F s σ d false v s':=⟨F',a,r⟩
theorem Grown.post {d:D} {f:Bool} {v:Value} (S:St C X F s.heap P vs σ) (g:Grown C.w F s d f v s'):Post C X P vs F s σ d f v s':=by
 (refine elEEAA (g) fun h' tk e_2 k r=>?_; subst e_2)
 cases f with
 | false =>
  (refine elEAAA (r) fun F' l i q r_n=>?_; clear r; revert r_n; intro r)
  exact ⟨F',⟨⟨h',tk,rfl⟩,l,S.grow k l i q,XSame.of_keep S.xal k⟩,r⟩
 | true =>
  (refine elEAA (r) fun a e_1 hn r_n=>?_; clear r; revert r_n; intro r; subst e_1)
  have hF:F a=none:=by
   cases e:F a with
   | none=>rfl
   | some o=>have:=S.sub a o e; rw [hn] at this; cases this
  refine ⟨F,⟨⟨h',tk,rfl⟩,Fz.le_refl F,S.grow0 k,XSame.of_keep S.xal k⟩,a,rfl,hF,fun e=>?_,fun p hp e=>?_,fun i ho=>?_,r⟩
  ·obtain ⟨o,ho⟩:=S.xal a e; rw [hn] at ho; cases ho
  ·obtain ⟨i,hi⟩:=List.mem_iff_getElem?.mp hp
   refine elEA (S.placeAt hi) fun ov _ hh=>?_
   obtain ⟨o,ho⟩:=Place.has_there hh
   rw [← e,hn] at ho; cases ho
  ·refine elAE (ho) fun h1 d' h2=>?_
   refine elEAA (S.slot i _ _ h1 h2) fun a' e' _ q=>?_
   cases e'
   obtain ⟨o,ho⟩:=q.there
   rw [hn] at ho; cases ho
end
inductive CallOk (C:Cx) (N:Nat) (g:Str) (ds:List D) (d:D) (f:Bool):Prop
 | mk (a:Addr) (o:Obj) (fd:FuncData) (h1:C.mg g=some (.ref a)) (h2:C.H.get? a=some o) (h3:o.data=.func fd)
  (h4:∀ (A:Around) (E:Value→Shared→Prop) (s:Shared) (F:Fz) (X:Addr→Prop) (ws:List Value),Room N A→St C X F s.heap [] [] []→RepL C.w F ds ws →
   wpAny (model C.prog C.w) A (call (.ref a) ws) (Post C X [] [] F s [] d f) E s)
structure Ground (C:Cx) (Γ:Mini.Env) (N:Nat):Prop where
 di:DictIn C.w
 dg:DictGet C.w
 pr:PrimRest C.w
 ns:C.H.Ns mainGlobals C.mg
 nb:C.H.Ns builtinsNs C.mb
 glob:∀ x d,Γ.glob x=some d→∃ v,C.mg x=some v∧Rep C.w C.F0 d v
 blt:∀ x v,bltVal x=some v→C.mg x=none∧C.mb x=some v
 call:∀ g ds d f,Γ.call g ds=some (d,f)→CallOk C N g ds d f
structure Cn (Γ:Mini.Env) (N:Nat) (env:PySem.Env) (sc:Scope) (ν:Nu) (P:List Place) (n:Nat) (A:Around):Prop where
 O:EnvOk env sc ν P
 hn:n=P.length
 R:Room N A
section
variable (C:Cx) (Γ:Mini.Env) (N:Nat)
noncomputable def PE (i:I) (n:Nat) (sc:Scope) (ν:Nu) (e:Expr):Prop:=∀ {env:PySem.Env} {P:List Place} {vs:List (Option Value)} {σ σ':Sg} {X:Addr→Prop} {F:Fz} {s:Shared} {A:Around} {E:Value→Shared→Prop} {d:D} {f:Bool},
 Cn Γ N env sc ν P n A→St C X F s.heap P vs σ→ev Γ i σ=some (d,f,σ')→wpAny (model C.prog C.w) A (eval e env) (Post C X P vs F s σ' d f) E s
noncomputable def PO (i:I) (n:Nat) (sc:Scope) (ν:Nu) (e:Expr):Prop:=∀ {env:PySem.Env} {P:List Place} {vs:List (Option Value)} {σ σ':Sg} {X:Addr→Prop} {F:Fz} {s:Shared} {A:Around} {E:Value→Shared→Prop} {o:Opnd},
 Cn Γ N env sc ν P n A→St C X F s.heap P vs σ→opn i (ev Γ i) σ=some (o,σ')→wpAny (model C.prog C.w) A (eval e env) (PostO C X P vs F s σ' o) E s
noncomputable def PT (i:I) (n:Nat) (sc:Scope) (ν:Nu) (e:Expr):Prop:=∀ {env:PySem.Env} {P:List Place} {vs:List (Option Value)} {σ σ':Sg} {X:Addr→Prop} {F:Fz} {s:Shared} {A:Around} {E:Value→Shared→Prop} {d:D} {b:Bool},
 Cn Γ N env sc ν P n A→St C X F s.heap P vs σ→uno i (ev Γ i) σ=some (d,σ')→zx5 d=some b→wpAny (model C.prog C.w) A (isTrue e env (eval e env)) (PostB C X P vs F s σ' b) E s
noncomputable def PES (i:I) (n:Nat) (sc:Scope) (ν:Nu) (es:List Expr):Prop:=∀ {env:PySem.Env} {P:List Place} {vs:List (Option Value)} {σ σ':Sg} {X:Addr→Prop} {F:Fz} {s:Shared} {A:Around} {E:Value→Shared→Prop} {ds:List D} {pos:Pos},
 Cn Γ N env sc ν P n A→St C X F s.heap P vs σ→evs Γ i σ=some (ds,σ')→wpAny (model C.prog C.w) A (spliced (backTo pos (starEach es env))) (PostL C X P vs F s σ' ds) E s
noncomputable def PAnd (i:I) (n:Nat) (sc:Scope) (ν:Nu) (es:List Expr):Prop:=∀ {env:PySem.Env} {P:List Place} {vs:List (Option Value)} {σ σ':Sg} {X:Addr→Prop} {F:Fz} {s:Shared} {A:Around} {E:Value→Shared→Prop} {d:D} {pos:Pos},
 Cn Γ N env sc ν P n A→St C X F s.heap P vs σ→evAnd Γ i σ=some (d,σ')→wpAny (model C.prog C.w) A (eval (.BoolOp .And es pos) env) (PostZ C X P vs F s σ' d) E s ∧
  ∀ b whole,zx5 d=some b→wpAny (model C.prog C.w) A (isTrue (.BoolOp .And es pos) env whole) (PostB C X P vs F s σ' b) E s
noncomputable def POr (i:I) (n:Nat) (sc:Scope) (ν:Nu) (es:List Expr):Prop:=∀ {env:PySem.Env} {P:List Place} {vs:List (Option Value)} {σ σ':Sg} {X:Addr→Prop} {F:Fz} {s:Shared} {A:Around} {E:Value→Shared→Prop} {d:D} {pos:Pos},
 Cn Γ N env sc ν P n A→St C X F s.heap P vs σ→evOr Γ i σ=some (d,σ')→wpAny (model C.prog C.w) A (eval (.BoolOp .Or es pos) env) (PostZ C X P vs F s σ' d) E s ∧
  ∀ b whole,zx5 d=some b→wpAny (model C.prog C.w) A (isTrue (.BoolOp .Or es pos) env whole) (PostB C X P vs F s σ' b) E s
end
section
variable {C:Cx} {Γ:Mini.Env} {N:Nat} {n:Nat} {sc:Scope} {ν:Nu} {env:PySem.Env} {P:List Place} {vs:List (Option Value)} {σ σ':Sg} {X:Addr→Prop} {F:Fz} {s:Shared} {A:Around} {E:Value→Shared→Prop}
theorem opn_of {i:I} (h:isBrw i=false) (e:Ev) (σ:Sg):opn i e σ=(e σ).bind fun p=>some (.dat p.1,p.2.2):=by
 unfold isBrw at h
 unfold opn
 cases hb:brwK i with
 | none=>rfl
 | some k=>rw [hb] at h; exact absurd h.symm Bool.false_ne_true
theorem PE.opnd {i:I} {e:Expr} (hb:isBrw i=false) (h:PE C Γ N i n sc ν e):PO C Γ N i n sc ν e:=by
 intro env P vs σ σ' X F s A E o K S hv
 rw [opn_of hb] at hv
 refine bK1 (hv) fun p he hv=>?_
 refine sm2 hv ?_
 exact wpM (h K S he) (fun v s' hp=>let ⟨G,st,r⟩:=hp.freeze; ⟨G,st,r⟩)
theorem PO.brw {k:Nat} {x:Str} {p:Pos} (hx:Sl ν k x):PO C Γ N (.brw k) n sc ν (.Name x p):=by
 intro env P vs σ σ' X F s A E o K S hv
 refine bK1 (hv) fun d hl hv=>?_
 refine sm2 hv ?_
 refine elEA (S.look hl) fun v h1 h2=>?_
 exact zm1 K.O S hx.at' h1 hx.ok ⟨F,Step.refl S,h1⟩
theorem PE.frozen {i:I} {e:Expr} (h:PE C Γ N i n sc ν e) {d:D} {f:Bool} (K:Cn Γ N env sc ν P n A) (S:St C X F s.heap P vs σ) (hv:ev Γ i σ=some (d,f,σ')) :
  wpAny (model C.prog C.w) A (eval e env) (PostZ C X P vs F s σ' d) E s :=
 wpM (h K S hv) (fun v s' hp=>hp.freeze)
theorem duo_ok {i j:I} {l r:Expr} (hi:PO C Γ N i n sc ν l) (hj:PO C Γ N j n sc ν r) {x y:D}
  (K:Cn Γ N env sc ν P n A) (S:St C X F s.heap P vs σ) (hv:duo i (ev Γ i) j (ev Γ j) σ=some (x,y,σ')) :
  wpAny (model C.prog C.w) A (eval l env) (fun a s₁=>wpAny (model C.prog C.w) A (eval r env) (PostD C X P vs F s σ' x y a) E s₁) E s:=by
 refine bK2 (hv) fun o σ1 ho hv=>?_
 refine bK2 (hv) fun p σ2 hp hv=>?_
 refine bK1 (hv) fun a ha hv=>?_
 refine bK1 (hv) fun b hb hv=>?_
 refine sm3 hv ?_
 refine wpM (hi K S ho) (fun u s₁ q=>?_)
 obtain ⟨F1,st1,r1⟩:=q
 refine wpM (hj K st1.st hp) (fun v s₂ q=>?_)
 obtain ⟨F2,st2,r2⟩:=q
 exact ⟨F2,st1.trans st2,(r1.mono st2.le).top st2.st ha,r2.top st2.st hb⟩
theorem uno_ok {i:I} {l:Expr} (hi:PO C Γ N i n sc ν l) {x:D} (K:Cn Γ N env sc ν P n A) (S:St C X F s.heap P vs σ) (hv:uno i (ev Γ i) σ=some (x,σ')) :
  wpAny (model C.prog C.w) A (eval l env) (PostU C X P vs F s σ' x) E s:=by
 refine bK2 (hv) fun o σ1 ho hv=>?_
 refine bK1 (hv) fun d hd hv=>?_
 refine sm2 hv ?_
 refine wpM (hi K S ho) (fun u s₁ q=>?_)
 obtain ⟨F1,st1,r1⟩:=q
 exact ⟨F1,st1,r1.top st1.st hd⟩
theorem ok_marks {e:Expr} {op:CmpOp} (h:okE e=true):behindInMarks op e=false:=by
 cases e<;>first|rfl|(exact absurd h Bool.false_ne_true)
theorem zv4 {e:Expr} {rest:List Expr} (h:okE e=true):starEach (e::rest) env=(false,eval e env)::starEach rest env:=by
 cases e<;>first|rfl|(exact absurd h Bool.false_ne_true)
theorem PE.cnone {k:Nat} {p:Pos}:PE C Γ N .cnone n sc ν (.Constant .none k p):=by
 intro env P vs σ σ' X F s A E d f K S hv
 refine sm3 hv ?_
 exact PyProof.Rows.Constant_none (Post.old (Step.refl S) (by simp [Rep]))
theorem PE.cbool {b:Bool} {k:Nat} {p:Pos}:PE C Γ N (.cbool b) n sc ν (.Constant (.bool b) k p):=by
 intro env P vs σ σ' X F s A E d f K S hv
 refine sm3 hv ?_
 exact PyProof.Rows.Constant_bool (Post.old (Step.refl S) (by simp [Rep]))
theorem PE.cint {b:Int} {k:Nat} {p:Pos}:PE C Γ N (.cint b) n sc ν (.Constant (.int b) k p):=by
 intro env P vs σ σ' X F s A E d f K S hv
 refine sm3 hv ?_
 exact wpAny_Constant_int (Post.old (Step.toks S _) (by simp [Rep]))
theorem PE.cstr {b:Str} {k:Nat} {p:Pos}:PE C Γ N (.cstr b) n sc ν (.Constant (.str b) k p):=by
 intro env P vs σ σ' X F s A E d f K S hv
 refine sm3 hv ?_
 exact wpAny_Constant_str (Post.old (Step.toks S _) (by simp [Rep]))
theorem useS_some {k:Nat} {d:D} {f:Bool} (h:useS σ k=some (d,f,σ')):f=false∧((σ[k]?=some (some (.val d))∧σ'=σ)∨(σ[k]?=some (some (.own d))∧σ'=σ.set k (some (.val d)))):=by
 unfold useS at h
 split at h
 ·refine sm3 h ?_; exact ⟨rfl,.inl ⟨by assumption,rfl⟩⟩
 ·refine sm3 h ?_; exact ⟨rfl,.inr ⟨by assumption,rfl⟩⟩
 ·cases h
theorem PE.var {k:Nat} {x:Str} {p:Pos} (hx:Sl ν k x):PE C Γ N (.var k) n sc ν (.Name x p):=by
 intro env P vs σ σ' X F s A E d f K S hv
 obtain ⟨rfl,⟨hs,rfl⟩|⟨hs,rfl⟩⟩:=useS_some hv
 ·have hlt:k<vs.length:=by rw [← S.lenS]; exact (List.getElem?_eq_some_iff.mp hs).1
  refine elEA (S.slot k vs[k] _ (List.getElem?_eq_getElem hlt) hs) fun v e1 r=>?_
  exact zm1 K.O S hx.at' (by rw [List.getElem?_eq_getElem hlt,e1]) hx.ok (Post.old (Step.refl S) r)
 ·have hlt:k<vs.length:=by rw [← S.lenS]; exact (List.getElem?_eq_some_iff.mp hs).1
  refine elEAA (S.slot k vs[k] _ (List.getElem?_eq_getElem hlt) hs) fun a e1 _ r=>?_
  have hv:vs[k]?=some (some (.ref a)):=by rw [List.getElem?_eq_getElem hlt,e1]
  refine elEAA (S.freezeSlot hv hs) fun o S' r' l=>?_
  exact zm1 K.O S hx.at' hv hx.ok ⟨_,⟨⟨s.heap,s.toks,rfl⟩,l,S',XSame.refl⟩,r'⟩
theorem Ground.big (G:Ground C Γ N) {h:Heap} (S:St C X F h P vs σ):sysModules<h.objs.size:=by
 refine elEEEA (G.ns) fun o _ _ h1 _=>?_
 have:=Heap.lt_size (S.base _ _ h1)
 exact Nat.lt_trans (by decide) this
theorem zm8 {x:Str} (h:zw5 sc ν x=true):sc.names.lookup x=some .globalImplicit∧zk1 x=true:=by
 unfold zw5 at h
 simp only [Bool.and_eq_true,beq_iff_eq] at h
 exact ⟨h.1.1,h.2⟩
theorem ns_base {h:Heap} {a:Addr} {m:Str→Option Value} (S:St C X F h P vs σ) (x:C.H.Ns a m):h.Ns a m:=by
 refine elEEEA (x) fun o es ep h1 h2=>?_
 exact ⟨o,es,ep,S.base _ _ h1,h2⟩
theorem load_glob (G:Ground C Γ N) (O:EnvOk env sc ν P) (S:St C X F s.heap P vs σ) {x:Str} {v:Value} {pos:Pos} (hg:zw5 sc ν x=true) (hv:C.mg x=some v) {Q:Value→Shared→Prop} (h:Q v s) :
  wpAny (model C.prog C.w) A (eval (.Name x pos) env) Q E s :=
 Calls.Name_function_global O.kind (O.gl x (zm8 hg).1) (Calls.loadGlobal_global (by rw [O.glob]; exact ns_base S G.ns) hv h) (zi1 (zm8 hg).2)
theorem zk8 (G:Ground C Γ N) (O:EnvOk env sc ν P) (S:St C X F s.heap P vs σ) {x:Str} {v:Value} {pos:Pos} (hg:zw5 sc ν x=true) (hv:bltVal x=some v) {Q:Value→Shared→Prop} (h:Q v s) :
  wpAny (model C.prog C.w) A (eval (.Name x pos) env) Q E s :=
 Calls.Name_function_global O.kind (O.gl x (zm8 hg).1) (Calls.loadGlobal_builtin (by rw [O.glob]; exact ns_base S G.ns) (G.blt x v hv).1 (by rw [O.blt]; exact ns_base S G.nb) (G.blt x v hv).2 h) (zi1 (zm8 hg).2)
theorem PE.glob (G:Ground C Γ N) {x:Str} {p:Pos} (hg:zw5 sc ν x=true):PE C Γ N (.glob x) n sc ν (.Name x p):=by
 intro env P vs σ σ' X F s A E d f K S hv
 refine bK1 (hv) fun d' hd hv=>?_
 refine sm3 hv ?_
 refine elEA (G.glob _ _ hd) fun v h1 h2=>?_
 exact load_glob G K.O S hg h1 (Post.old (Step.refl S) (Rep.mono S.low _ h2))
theorem PE.bin {op:Operator} {a b:I} {l r:Expr} {p:Pos} (ha:PO C Γ N a n sc ν l) (hb:PO C Γ N b n sc ν r):PE C Γ N (.bin op a b) n sc ν (.BinOp l op r p):=by
 intro env P vs σ σ' X F s A E d f K S hv
 refine bK3 (hv) fun x y σ1 hd hv=>?_
 refine bK2 (hv) fun d' f' hb' hv=>?_
 refine sm3 hv ?_
 refine wpAny_BinOp (wpM (duo_ok ha hb K S hd) (fun u s₁ q=>wpM q (fun v s₂ q=>?_)))
 obtain ⟨F',st,ta,tb⟩:=q
 exact wpM (bin_ok st.st.sub ta tb hb') (fun v s₃ g=>Post.trans st (g.post st.st))
theorem PE.cmp (G:Ground C Γ N) {op:CmpOp} {a b:I} {l r:Expr} {p:Pos} (ha:PO C Γ N a n sc ν l) (hb:PO C Γ N b n sc ν r) (hr:okE r=true):PE C Γ N (.cmp op a b) n sc ν (.Compare l [op] [r] p):=by
 intro env P vs σ σ' X F s A E d f K S hv
 refine bK3 (hv) fun x y σ1 hd hv=>?_
 refine bK1 (hv) fun r' hb' hv=>?_
 refine sm3 hv ?_
 refine wpAny_Compare1 (wpM (duo_ok ha hb K S hd) (fun u s₁ q=>wpM q (fun v s₂ q=>?_))) (ok_marks hr)
 obtain ⟨F',st,ta,tb⟩:=q
 refine wpM (cmp_ok G.di K.R st.st.sub ta tb hb') (fun v s₃ g=>?_)
 (refine elAE (g) fun e_0 tk e=>?_; subst e_0)
 exact ⟨F',st.then e,by simp [ResOk,Rep]⟩
end
end Snd
end
section
namespace Snd
open PySem Mini
section
variable {C:Cx} {Γ:Mini.Env} {N:Nat} {n:Nat} {sc:Scope} {ν:Nu} {env:PySem.Env} {P:List Place} {vs:List (Option Value)} {σ σ':Sg} {X:Addr→Prop} {F:Fz} {s:Shared} {A:Around} {E:Value→Shared→Prop}
theorem uno_of {i:I} (hb:isBrw i=false) {d:D}:uno i (ev Γ i) σ=some (d,σ')↔∃ f,ev Γ i σ=some (d,f,σ'):=by
 unfold uno
 rw [opn_of hb]
 constructor
 ·intro h
  refine bK1 (h) fun p h h2=>?_
  refine bK1 (h) fun q h3 h=>?_
  cases h
  cases h2
  exact ⟨q.2.1,h3⟩
 ·rintro ⟨f,h⟩
  rw [h]; rfl
theorem ev_uno {i:I} {d:D} {f:Bool} (h:ev Γ i σ=some (d,f,σ')):uno i (ev Γ i) σ=some (d,σ'):=by
 refine (uno_of ?_).mpr ⟨f,h⟩
 cases i<;>first|rfl|exact (noS h).elim
theorem PT.plain {i:I} {e:Expr} (h:PO C Γ N i n sc ν e) (hp:∀ env whole,isTrue e env whole=(do let v ← whole; standAt e.pos; holding [v] (truthy v))):PT C Γ N i n sc ν e:=by
 intro env P vs σ σ' X F s A E d b K S hv ht
 refine PyProof.Rows.isTrue_plain (wpM (uno_ok h K S hv) (fun u s₁ q=>?_)) (hp _ _)
 obtain ⟨F1,st,t⟩:=q
 refine wpM (truthy_ok st.st.sub t ht) (fun r s₂ q=>?_)
 (refine elAE (q) fun e_0 tk e=>?_; subst e_0)
 exact ⟨rfl,F1,st.then e⟩
theorem PE.not {a:I} {e:Expr} {p:Pos} (ha:PO C Γ N a n sc ν e):PE C Γ N (.not a) n sc ν (.UnaryOp .Not e p):=by
 intro env P vs σ σ' X F s A E d f K S hv
 refine bK2 (hv) fun x σ1 he hv=>?_
 refine bK1 (hv) fun b hb hv=>?_
 refine sm3 hv ?_
 refine PyProof.Rows.UnaryOp_ (wpM (uno_ok ha K S he) (fun v s₁ q=>?_))
 obtain ⟨F1,st,t⟩:=q
 refine PyProof.Rows.not_of (wpM (truthy_ok st.st.sub t hb) (fun r s₂ q=>?_))
 (refine elAE (q) fun e_0 tk e=>?_; subst e_0)
 exact ⟨F1,st.then e,by simp [ResOk,Rep]⟩
theorem PT.not {a:I} {e:Expr} {p:Pos} (ha:PT C Γ N a n sc ν e):PT C Γ N (.not a) n sc ν (.UnaryOp .Not e p):=by
 intro env P vs σ σ' X F s A E d b K S hv ht
 obtain ⟨f,hv⟩:=(uno_of rfl).mp hv
 refine bK2 (hv) fun x σ1 he hv=>?_
 refine bK1 (hv) fun b hb hv=>?_
 cases hv
 cases ht
 refine PyProof.Rows.isTrue_not (wpM (ha K S he hb) (fun r s₂ q=>?_))
 obtain ⟨e,F1,st⟩:=q
 exact ⟨by rw [e],F1,st⟩
theorem isTrue_Compare1 {M:Model} {A:Around} {E:Value→Shared→Prop} {s:Shared} {env:PySem.Env} {l:Expr} {op:CmpOp} {r:Expr} {pos:Pos} {whole:Sem Value} {Q:Bool→Shared→Prop}
  (h:wpAny M A (eval l env) (fun a s₁=>wpAny M A (eval r env) (fun b s₂=>wpAny M A (compareOp op a b) (fun c s₃=>wpAny M A (truthy c) Q E s₃) E s₂) E s₁) E s)
  (hm:behindInMarks op r=false):wpAny M A (isTrue (.Compare l [op] [r] pos) env whole) Q E s:=by
 show wpAny M A (do testChain pos (← eval l env) [op] (markedEach [op] [r] (evalEach [r] env))) Q E s
 rw [PyProof.Rows.markedEach_of_false _ _ _ (by simpa [lastMarks] using hm)]
 exact wpAny_bind (wpM h (fun a s₁ h₁=>PyProof.Rows.test_last h₁))
theorem PT.cmp (G:Ground C Γ N) {op:CmpOp} {a b:I} {l r:Expr} {p:Pos} (ha:PO C Γ N a n sc ν l) (hb:PO C Γ N b n sc ν r) (hr:okE r=true):PT C Γ N (.cmp op a b) n sc ν (.Compare l [op] [r] p):=by
 intro env P vs σ σ' X F s A E d b K S hv ht
 obtain ⟨f,hv⟩:=(uno_of rfl).mp hv
 refine bK3 (hv) fun x y σ1 hd hv=>?_
 refine bK1 (hv) fun r' hb' hv=>?_
 cases hv
 cases ht
 refine isTrue_Compare1 (wpM (duo_ok ha hb K S hd) (fun u s₁ q=>wpM q (fun v s₂ q=>?_))) (ok_marks hr)
 obtain ⟨F',st,ta,tb⟩:=q
 refine wpM (cmp_ok G.di K.R st.st.sub ta tb hb') (fun v s₃ g=>?_)
 (refine elAE (g) fun e_0 tk e=>?_; subst e_0)
 exact wpAny_truthy_bool ⟨rfl,F',st.then e⟩
theorem cmp2_walk (G:Ground C Γ N) {o1 o2:CmpOp} {a b c:I} {l r1 r2:Expr} (ha:PE C Γ N a n sc ν l) (hb:PE C Γ N b n sc ν r1) (hc:PE C Γ N c n sc ν r2) {d:D} {f:Bool}
  (K:Cn Γ N env sc ν P n A) (S:St C X F s.heap P vs σ) (hv:ev Γ (.cmp2 o1 o2 a b c) σ=some (d,f,σ')) :
  ∃ t,d=.bool t∧f=false∧wpAny (model C.prog C.w) A (eval l env) (fun u s₁=>wpAny (model C.prog C.w) A (eval r1 env) (fun v s₂=>wpAny (model C.prog C.w) A (compareOp o1 u v) (fun q s₃ =>
   (q=.bool false∧t=false∧∃ F',Step C X P vs F s σ' F' s₃) ∨
   (q=.bool true∧wpAny (model C.prog C.w) A (eval r2 env) (fun x s₄=>wpAny (model C.prog C.w) A (compareOp o2 v x) (fun q s₅=>q=.bool t∧∃ F',Step C X P vs F s σ' F' s₅) E s₄) E s₃)) E s₂) E s₁) E s:=by
 refine bK3 (hv) fun x fx σ1 e1 hv=>?_
 refine bK3 (hv) fun y fy σ2 e2 hv=>?_
 refine bK1 (hv) fun q hq hv=>?_
 have fin:∀ (T:Value→Value→Shared→Prop),(∀ u v s₂ F2,Step C X P vs F s σ2 F2 s₂→Rep C.w F2 x u→Rep C.w F2 y v→∀ tk,T (.bool q) v { s₂ with toks:=tk }) →
   wpAny (model C.prog C.w) A (eval l env) (fun u s₁=>wpAny (model C.prog C.w) A (eval r1 env) (fun v s₂=>wpAny (model C.prog C.w) A (compareOp o1 u v) (fun c s₃=>T c v s₃) E s₂) E s₁) E s:=by
  intro T hT
  refine wpM (ha.frozen K S e1) (fun u s₁ p=>?_)
  obtain ⟨F1,st1,ru⟩:=p
  refine wpM (hb.frozen K st1.st e2) (fun v s₂ p=>?_)
  obtain ⟨F2,st2,rv⟩:=p
  have ru':=Rep.mono st2.le _ ru
  refine wpM (cmp_ok G.di K.R st2.st.sub (.inl ru') (.inl rv) hq) (fun c s₃ p=>?_)
  (refine elAE (p) fun e_0 tk e_2=>?_; subst e_0; subst e_2)
  exact hT u v s₂ F2 (st1.trans st2) ru' rv tk
 cases q with
 | true =>
  refine bK3 (hv) fun z fz σ3 e3 hv=>?_
  refine bK1 (hv) fun r hr hv=>?_
  refine sm3 hv ?_
  refine ⟨r,rfl,rfl,fin (fun c v s₃=>_) fun u v s₂ F2 st ru rv tk=>.inr ⟨rfl,?_⟩⟩
  have st':Step C X P vs F s σ2 F2 { s₂ with toks:=tk }:=st.then rfl
  refine wpM (hc.frozen K st'.st e3) (fun x s₄ p=>?_)
  obtain ⟨F3,st3,rx⟩:=p
  refine wpM (cmp_ok G.di K.R st3.st.sub (.inl (Rep.mono st3.le _ rv)) (.inl rx) hr) (fun c s₅ p=>?_)
  (refine elAE (p) fun e_0 tk' e=>?_; subst e_0)
  exact ⟨rfl,F3,(st'.trans st3).then e⟩
 | false =>
  refine sm3 hv ?_
  exact ⟨false,rfl,rfl,fin (fun c v s₃=>_) fun u v s₂ F2 st ru rv tk=>.inl ⟨rfl,rfl,F2,st.then rfl⟩⟩
theorem PE.cmp2 (G:Ground C Γ N) {o1 o2:CmpOp} {a b c:I} {l r1 r2:Expr} {p:Pos} (ha:PE C Γ N a n sc ν l) (hb:PE C Γ N b n sc ν r1) (hc:PE C Γ N c n sc ν r2) (h2:okE r2=true):PE C Γ N (.cmp2 o1 o2 a b c) n sc ν (.Compare l [o1,o2] [r1,r2] p):=by
 intro env P vs σ σ' X F s A E d f K S hv
 (refine elEAA (cmp2_walk (E:=E) G ha hb hc K S hv) fun t e_1 e_2 hw=>?_; subst e_1; subst e_2)
 refine PyProof.Rows.Compare_chain (wpM hw (fun u s₁ q=>PyProof.Rows.chain_link (wpM q (fun v s₂ q=>wpM q (fun c s₃ q=>?_))))) (by simpa [lastMarks] using ok_marks h2)
 rcases q with ⟨rfl,rfl,F',st⟩|⟨rfl,q⟩
 ·exact wpAny_truthy_bool ⟨F',st,by simp [ResOk,Rep]⟩
 ·refine wpAny_truthy_bool (PyProof.Rows.chain_last (wpM q (fun x s₄ q=>wpM q (fun c s₅ q=>?_))))
  (refine elAE (q) fun e_0 F' st=>?_; subst e_0)
  exact ⟨F',st,by simp [ResOk,Rep]⟩
theorem PT.cmp2 (G:Ground C Γ N) {o1 o2:CmpOp} {a b c:I} {l r1 r2:Expr} {p:Pos} (ha:PE C Γ N a n sc ν l) (hb:PE C Γ N b n sc ν r1) (hc:PE C Γ N c n sc ν r2) (h2:okE r2=true):PT C Γ N (.cmp2 o1 o2 a b c) n sc ν (.Compare l [o1,o2] [r1,r2] p):=by
 intro env P vs σ σ' X F s A E d bb K S hv ht
 obtain ⟨f,hv⟩:=(uno_of rfl).mp hv
 (refine elEAA (cmp2_walk (E:=E) G ha hb hc K S hv) fun t e_1 e_2 hw=>?_; subst e_1; subst e_2)
 cases ht
 refine PyProof.Rows.isTrue_chain (wpM hw (fun u s₁ q=>PyProof.Rows.test_link (wpM q (fun v s₂ q=>wpM q (fun c s₃ q=>?_))))) (by simpa [lastMarks] using ok_marks h2)
 rcases q with ⟨rfl,rfl,F',st⟩|⟨rfl,q⟩
 ·exact wpAny_truthy_bool ⟨rfl,F',st⟩
 ·refine wpAny_truthy_bool (PyProof.Rows.test_last (wpM q (fun x s₄ q=>wpM q (fun c s₅ q=>?_))))
  (refine elAE (q) fun e_0 F' st=>?_; subst e_0)
  exact wpAny_truthy_bool ⟨rfl,F',st⟩
theorem PostB.trans {X:Addr→Prop} {P:List Place} {vs:List (Option Value)} {F F':Fz} {s s' s'':Shared} {σ' σ'':Sg} {b r:Bool} (a:Step C X P vs F s σ' F' s') (q:PostB C X P vs F' s' σ'' b r s''):PostB C X P vs F s σ'' b r s'' :=
 let ⟨e,F2,st2⟩:=q; ⟨e,F2,a.trans st2⟩
theorem PostZ.trans {X:Addr→Prop} {P:List Place} {vs:List (Option Value)} {F F':Fz} {s s' s'':Shared} {σ' σ'':Sg} {d:D} {v:Value} (a:Step C X P vs F s σ' F' s') (q:PostZ C X P vs F' s' σ'' d v s''):PostZ C X P vs F s σ'' d v s'' :=
 let ⟨F2,st2,r⟩:=q; ⟨F2,a.trans st2,r⟩
theorem PE.ite {c a b:I} {q x y:Expr} {p:Pos} (hc:PT C Γ N c n sc ν q) (ha:PE C Γ N a n sc ν x) (hb:PE C Γ N b n sc ν y):PE C Γ N (.ite c a b) n sc ν (.IfExp q x y p):=by
 intro env P vs σ σ' X F s A E d f K S hv
 refine bK2 (hv) fun d' σ1 he hv=>?_
 refine bK1 (hv) fun r hb' hv=>?_
 refine PyProof.Rows.IfExp_ (wpM (hc K S he hb') (fun r' s₁ q=>?_))
 obtain ⟨rfl,F1,st⟩:=q
 cases r'
 ·exact wpM (hb K st.st hv) (fun v s₂ q=>Post.trans st q)
 ·exact wpM (ha K st.st hv) (fun v s₂ q=>Post.trans st q)
theorem PT.ite {c a b:I} {q x y:Expr} {p:Pos} (hc:PT C Γ N c n sc ν q) (ha:PT C Γ N a n sc ν x) (hb:PT C Γ N b n sc ν y):PT C Γ N (.ite c a b) n sc ν (.IfExp q x y p):=by
 intro env P vs σ σ' X F s A E d bb K S hv ht
 obtain ⟨f,hv⟩:=(uno_of rfl).mp hv
 refine bK2 (hv) fun d' σ1 he hv=>?_
 refine bK1 (hv) fun r hb' hv=>?_
 refine PyProof.Rows.isTrue_IfExp (wpM (hc K S he hb') (fun r' s₁ q=>?_))
 obtain ⟨rfl,F1,st⟩:=q
 cases r'
 ·exact wpM (hb K st.st (ev_uno hv) ht) (fun v s₂ q=>q.trans st)
 ·exact wpM (ha K st.st (ev_uno hv) ht) (fun v s₂ q=>q.trans st)
theorem PAnd.last {a:I} {e:Expr} (ha:PE C Γ N a n sc ν e) (ta:PT C Γ N a n sc ν e):PAnd C Γ N (.cons a .nil) n sc ν [e]:=by
 intro env P vs σ σ' X F s A E d pos K S hv
 refine bK3 (hv) fun d' f σ1 he hv=>?_
 refine sm2 hv ?_
 refine ⟨PyProof.Rows.BoolOp_one (ha.frozen K S he),fun b whole hb2=>?_⟩
 refine PyProof.Rows.isTrue_and (wpM (ta K S (ev_uno he) hb2) (fun c s₁ q=>?_))
 obtain ⟨rfl,F1,st⟩:=q
 cases c
 ·exact ⟨rfl,F1,st⟩
 ·exact PyProof.Rows.isTrue_and_nil ⟨rfl,F1,st⟩
theorem PAnd.more {a a2 r2:I} {e e2:Expr} {es:List Expr} (ha:PE C Γ N a n sc ν e) (ta:PT C Γ N a n sc ν e) (hr:PAnd C Γ N (.cons a2 r2) n sc ν (e2::es)):PAnd C Γ N (.cons a (.cons a2 r2)) n sc ν (e::e2::es):=by
 intro env P vs σ σ' X F s A E d pos K S hv
 refine bK3 (hv) fun d' f σ1 he hv=>?_
 refine bK1 (hv) fun c0 hc0 hv=>?_
 have hu:=ev_uno he
 refine ⟨PyProof.Rows.BoolOp_and (wpM (ha.frozen K S he) (fun v s₁ q=>?_)),fun b whole hb2=>?_⟩
 ·obtain ⟨F1,st,r⟩:=q
  refine wpM (truthy_ok st.st.sub (.inl r) hc0) (fun c s₂ q=>?_)
  (refine elAE (q) fun e_0 tk e=>?_; subst e_0)
  have st':=st.then e
  cases c with
  | true=>exact wpAny_mono (hr K st'.st hv).1 (fun v s₃ q=>q.trans st') fun _ _ x=>x
  | false=>cases hv; exact ⟨F1,st',r⟩
 ·refine PyProof.Rows.isTrue_and (wpM (ta K S hu hc0) (fun c s₁ q=>?_))
  obtain ⟨rfl,F1,st⟩:=q
  cases c with
  | true=>exact wpM ((hr K st.st hv).2 b whole hb2) (fun v s₃ q=>q.trans st)
  | false=>cases hv; rw [hc0] at hb2; cases hb2; exact ⟨rfl,F1,st⟩
theorem POr.last {a:I} {e:Expr} (ha:PE C Γ N a n sc ν e) (ta:PT C Γ N a n sc ν e):POr C Γ N (.cons a .nil) n sc ν [e]:=by
 intro env P vs σ σ' X F s A E d pos K S hv
 refine bK3 (hv) fun d' f σ1 he hv=>?_
 refine sm2 hv ?_
 refine ⟨PyProof.Rows.BoolOp_one (ha.frozen K S he),fun b whole hb2=>?_⟩
 refine PyProof.Rows.isTrue_or (wpM (ta K S (ev_uno he) hb2) (fun c s₁ q=>?_))
 obtain ⟨rfl,F1,st⟩:=q
 cases c
 ·exact PyProof.Rows.isTrue_or_nil ⟨rfl,F1,st⟩
 ·exact ⟨rfl,F1,st⟩
theorem POr.more {a a2 r2:I} {e e2:Expr} {es:List Expr} (ha:PE C Γ N a n sc ν e) (ta:PT C Γ N a n sc ν e) (hr:POr C Γ N (.cons a2 r2) n sc ν (e2::es)):POr C Γ N (.cons a (.cons a2 r2)) n sc ν (e::e2::es):=by
 intro env P vs σ σ' X F s A E d pos K S hv
 refine bK3 (hv) fun d' f σ1 he hv=>?_
 refine bK1 (hv) fun c0 hc0 hv=>?_
 have hu:=ev_uno he
 refine ⟨PyProof.Rows.BoolOp_or (wpM (ha.frozen K S he) (fun v s₁ q=>?_)),fun b whole hb2=>?_⟩
 ·obtain ⟨F1,st,r⟩:=q
  refine wpM (truthy_ok st.st.sub (.inl r) hc0) (fun c s₂ q=>?_)
  (refine elAE (q) fun e_0 tk e=>?_; subst e_0)
  have st':=st.then e
  cases c with
  | false=>exact wpAny_mono (hr K st'.st hv).1 (fun v s₃ q=>q.trans st') fun _ _ x=>x
  | true=>cases hv; exact ⟨F1,st',r⟩
 ·refine PyProof.Rows.isTrue_or (wpM (ta K S hu hc0) (fun c s₁ q=>?_))
  obtain ⟨rfl,F1,st⟩:=q
  cases c with
  | false=>exact wpM ((hr K st.st hv).2 b whole hb2) (fun v s₃ q=>q.trans st)
  | true=>cases hv; rw [hc0] at hb2; cases hb2; exact ⟨rfl,F1,st⟩
theorem PE.and {l:I} {es:List Expr} {p:Pos} (h:PAnd C Γ N l n sc ν es):PE C Γ N (.and l) n sc ν (.BoolOp .And es p):=by
 intro env P vs σ σ' X F s A E d f K S hv
 refine bK2 (hv) fun d' σ1 he hv=>?_
 refine sm3 hv ?_
 exact wpAny_mono (h K S he).1 (fun v s₁ q=>let ⟨F1,st,r⟩:=q; ⟨F1,st,r⟩) fun _ _ x=>x
theorem PT.and {l:I} {es:List Expr} {p:Pos} (h:PAnd C Γ N l n sc ν es):PT C Γ N (.and l) n sc ν (.BoolOp .And es p):=by
 intro env P vs σ σ' X F s A E d b K S hv ht
 obtain ⟨f,hv⟩:=(uno_of rfl).mp hv
 refine bK2 (hv) fun d' σ1 he hv=>?_
 cases hv
 exact (h K S he).2 _ _ ht
theorem PE.or {l:I} {es:List Expr} {p:Pos} (h:POr C Γ N l n sc ν es):PE C Γ N (.or l) n sc ν (.BoolOp .Or es p):=by
 intro env P vs σ σ' X F s A E d f K S hv
 refine bK2 (hv) fun d' σ1 he hv=>?_
 refine sm3 hv ?_
 exact wpAny_mono (h K S he).1 (fun v s₁ q=>let ⟨F1,st,r⟩:=q; ⟨F1,st,r⟩) fun _ _ x=>x
theorem PT.or {l:I} {es:List Expr} {p:Pos} (h:POr C Γ N l n sc ν es):PT C Γ N (.or l) n sc ν (.BoolOp .Or es p):=by
 intro env P vs σ σ' X F s A E d b K S hv ht
 obtain ⟨f,hv⟩:=(uno_of rfl).mp hv
 refine bK2 (hv) fun d' σ1 he hv=>?_
 cases hv
 exact (h K S he).2 _ _ ht
theorem PES.nil:PES C Γ N .nil n sc ν []:=by
 intro env P vs σ σ' X F s A E ds pos K S hv
 cases hv
 exact PyProof.Rows.args_nil ⟨F,Step.refl S,RepL.nil_⟩
theorem PES.cons {a r:I} {e:Expr} {es:List Expr} (ha:PE C Γ N a n sc ν e) (h0:okE e=true) (hr:PES C Γ N r n sc ν es):PES C Γ N (.cons a r) n sc ν (e::es):=by
 intro env P vs σ σ' X F s A E ds pos K S hv
 refine bK3 (hv) fun d f σ1 he hv=>?_
 refine bK2 (hv) fun ds' σ2 hes hv=>?_
 refine sm2 hv ?_
 refine PyProof.Rows.args_cons (wpM (ha.frozen K S he) (fun v s₁ q=>?_)) (zv4 h0)
 obtain ⟨F1,st,r⟩:=q
 refine wpM (hr K st.st hes) (fun vs s₂ q=>?_)
 obtain ⟨F2,st2,r2⟩:=q
 exact ⟨F2,st.trans st2,RepL.cons_ (Rep.mono st2.le _ r) r2⟩
theorem PE.tup {l:I} {es:List Expr} {q:Nat} {p:Pos} (h:PES C Γ N l n sc ν es):PE C Γ N (.tup l) n sc ν (.Tuple es q p):=by
 intro env P vs σ σ' X F s A E d f K S hv
 refine bK2 (hv) fun ds σ1 he hv=>?_
 refine bK2 (hv) fun d' f' hm hv=>?_
 refine sm3 hv ?_
 obtain ⟨hz,hm⟩:=ifS hm
 cases hm
 refine wpAny_Tuple (wpM (h K S he) (fun ws s₁ q=>?_))
 obtain ⟨F1,st,r⟩:=q
 refine ⟨by rw [r.length,zl0]; exact hz,?_⟩
 exact Post.trans st ((Grown.tuple (tk:=s₁.toks) st.st.sub hz (by simpa using r)).post st.st)
theorem PE.lst {l:I} {es:List Expr} {p:Pos} (h:PES C Γ N l n sc ν es):PE C Γ N (.lst l) n sc ν (.List es p):=by
 intro env P vs σ σ' X F s A E d f K S hv
 refine bK2 (hv) fun ds σ1 he hv=>?_
 refine bK2 (hv) fun d' f' hm hv=>?_
 refine sm3 hv ?_
 obtain ⟨hz,hm⟩:=ifS hm
 cases hm
 refine wpAny_List (wpM (h K S he) (fun ws s₁ q=>?_))
 obtain ⟨F1,st,r⟩:=q
 refine ⟨by rw [r.length,zl0]; exact hz,?_⟩
 exact Post.trans st ((Grown.list (tk:=s₁.toks) hz (by simpa using r)).post st.st)
theorem PE.dct0 (G:Ground C Γ N) {p:Pos}:PE C Γ N .dct0 n sc ν (.Dict [] [] p):=by
 intro env P vs σ σ' X F s A E d f K S hv
 refine sm3 hv ?_
 exact wpAny_Dict_empty ((Grown.dict (tk:=s.toks) (xs:=[]) ⟨Nat.zero_le _,List.nodup_nil⟩ (by simp [RepKV]) (G.big S)).post S)
theorem Post.back {X:Addr→Prop} {P:List Place} {vs:List (Option Value)} {F:Fz} {s s':Shared} {σ:Sg} {d:D} {f:Bool} {v:Value} (S:St C X F s.heap P vs σ) (q:Post C (Hold F s.heap) [] [] F s [] d f v s'):Post C X P vs F s σ d f v s':=by
 obtain ⟨F',st,r⟩:=q
 exact ⟨F',⟨st.eq,st.le,S.back st.st st.le st.same,XSame.back S st.same⟩,ResOk.back S r⟩
theorem PE.call (G:Ground C Γ N) {g:Str} {l:I} {e:Expr} {es:List Expr} {px p:Pos} (hg:zw5 sc ν g=true) (h:PES C Γ N l n sc ν (e::es)) (h0:okE e=true):PE C Γ N (.call g l) n sc ν (.Call (.Name g px) (e::es) [] p):=by
 intro env P vs σ σ' X F s A E d f K S hv
 refine bK2 (hv) fun ds σ1 he hv=>?_
 refine bK2 (hv) fun d' f' hc hv=>?_
 refine sm3 hv ?_
 obtain ⟨a,o,fd,h1,h2,h3,h4⟩:=G.call _ _ _ _ hc
 refine PyProof.Rows.Call_ (load_glob G K.O S hg h1 ?_)
 refine PyProof.Rows.callWith_def (o:=o) (fd:=fd) h3 (wpM (h K S he) (fun ws s₁ q=>?_)) (zv4 h0)
 obtain ⟨F1,st,r⟩:=q
 refine ⟨st.st.base _ _ h2,wpM (h4 A E s₁ F1 _ ws K.R st.st.bare r) (fun v s₂ q=>?_)⟩
 exact Post.trans st (Post.back st.st q)
theorem ok_sub {r:Expr} (h:okE r=true) (o i:Value):subscripted r false o i=operate [o,i] (getItem o i):=by
 cases r<;>first|rfl|(exact absurd h Bool.false_ne_true)
theorem PE.idx (G:Ground C Γ N) {a i:I} {l r:Expr} {p:Pos} (ha:PO C Γ N a n sc ν l) (hi:PO C Γ N i n sc ν r) (h0:okE r=true):PE C Γ N (.idx a i) n sc ν (.Subscript l r p):=by
 intro env P vs σ σ' X F s A E d f K S hv
 refine bK3 (hv) fun x y σ1 hd hv=>?_
 refine bK1 (hv) fun d' hb' hv=>?_
 refine sm3 hv ?_
 refine PyProof.Rows.Subscript_ (wpM (duo_ok ha hi K S hd) (fun u s₁ q=>wpM q (fun v s₂ q=>?_)))
 obtain ⟨F',st,ta,tb⟩:=q
 refine wpM (subTail_ok G.dg K.R st.st.sub ta tb hb' (ok_sub h0)) (fun v s₃ g=>?_)
 refine elAE (g) fun r tk e=>?_
 exact ⟨F',st.then e,r⟩
end
end Snd
end
section
namespace Snd
open PySem Mini
section
variable {C:Cx} {Γ:Mini.Env} {N:Nat} {n:Nat} {sc:Scope} {ν:Nu} {env:PySem.Env} {P:List Place} {vs:List (Option Value)} {σ σ':Sg} {X:Addr→Prop} {F:Fz} {s:Shared} {A:Around} {E:Value→Shared→Prop}
theorem primName_val (p:Prim):bltVal p.name=some (primVal p):=by cases p<;>decide
theorem callWith_prim {A:Around} {E:Value→Shared→Prop} {s:Shared} {env:PySem.Env} {pos:Pos} {p:Prim} {e:Expr} {rest:List Expr} {Q:Value→Shared→Prop}
  (h:wpAny (model C.prog C.w) A (spliced (backTo pos (starEach (e::rest) env))) (fun vs s₁=>wpAny (model C.prog C.w) A (call (primVal p) vs) Q E s₁) E s)
  (he:starEach (e::rest) env=(false,eval e env)::starEach rest env) (hplain:(backTo pos (starEach rest env)).any (·.1)=false) :
  wpAny (model C.prog C.w) A (callWith pos (primVal p) [] (backTo pos (starEach (e::rest) env)) []) Q E s:=by
 cases p with
 | len=>exact PyProof.Rows.callWith_builtin1 (id := "len") h he hplain
 | sorted=>exact PyProof.Rows.callWith_builtin1 (id := "sorted") h he hplain
 | min=>exact PyProof.Rows.callWith_builtin1 (id := "min") h he hplain
 | max=>exact PyProof.Rows.callWith_builtin1 (id := "max") h he hplain
 | tuple=>exact PyProof.Rows.callWith_type1 (T := "tuple") h he hplain
 | list=>exact PyProof.Rows.callWith_type1 (T := "list") h he hplain
 | dict=>exact PyProof.Rows.callWith_type1 (T := "dict") h he hplain
 | int=>exact PyProof.Rows.callWith_type1 (T := "int") h he hplain
theorem PE.prim1 (G:Ground C Γ N) {q:Prim} {a:I} {e:Expr} {px p:Pos} (hg:zw5 sc ν q.name=true) (ha:PO C Γ N a n sc ν e) (h0:okE e=true):PE C Γ N (.prim1 q a) n sc ν (.Call (.Name q.name px) [e] [] p):=by
 intro env P vs σ σ' X F s A E d f K S hv
 refine bK2 (hv) fun x σ1 hx hv=>?_
 refine bK2 (hv) fun d' f' hp hv=>?_
 refine sm3 hv ?_
 refine PyProof.Rows.Call_ (zk8 G K.O S hg (primName_val q) ?_)
 refine callWith_prim (PyProof.Rows.args_cons (wpM (uno_ok ha K S hx) (fun v s₁ q=>PyProof.Rows.args_nil ?_)) (zv4 h0)) (zv4 h0) rfl
 obtain ⟨F1,st,t⟩:=q
 exact wpM (prim1_ok G.pr K.R st.st.sub t hp) (fun v s₂ g=>Post.trans st (g.post st.st))
theorem PE.prim2 (G:Ground C Γ N) {q:Prim} {a b:I} {e1 e2:Expr} {px p:Pos} (hg:zw5 sc ν q.name=true) (ha:PE C Γ N a n sc ν e1) (hb:PE C Γ N b n sc ν e2) (h1:okE e1=true) (h2:okE e2=true) :
  PE C Γ N (.prim2 q a b) n sc ν (.Call (.Name q.name px) [e1,e2] [] p):=by
 intro env P vs σ σ' X F s A E d f K S hv
 refine bK3 (hv) fun x fx σ1 hx hv=>?_
 refine bK3 (hv) fun y fy σ2 hy hv=>?_
 refine bK2 (hv) fun d' f' hp hv=>?_
 refine sm3 hv ?_
 refine PyProof.Rows.Call_ (zk8 G K.O S hg (primName_val q) ?_)
 refine callWith_prim (PyProof.Rows.args_cons (wpM (ha.frozen K S hx) (fun v s₁ q=>PyProof.Rows.args_cons ?_ (zv4 h2))) (zv4 h1)) (zv4 h1) (by rw [zv4 h2]; rfl)
 obtain ⟨F1,st,r⟩:=q
 refine wpM (hb.frozen K st.st hy) (fun u s₂ q=>PyProof.Rows.args_nil ?_)
 obtain ⟨F2,st2,r2⟩:=q
 have st3:=st.trans st2
 exact wpM (prim2_ok K.R st3.st.sub (.inl (Rep.mono st2.le _ r)) (.inl r2) hp) (fun v s₂ g=>Post.trans st3 (g.post st3.st))
theorem PE.isi (G:Ground C Γ N) {a:I} {ty:Str} {e:Expr} {px py p:Pos} (hg:zw5 sc ν "isinstance" = true) (ha:PO C Γ N a n sc ν e) (h0:okE e=true) (hg':zw5 sc ν ty=true):PE C Γ N (.isi a ty) n sc ν (.Call (.Name "isinstance" px) [e,.Name ty py] [] p):=by
 intro env P vs σ σ' X F s A E d f K S hv
 refine bK2 (hv) fun x σ1 he hv=>?_
 refine bK1 (hv) fun b hb hv=>?_
 refine sm3 hv ?_
 refine PyProof.Rows.Call_ (zk8 (v:=.builtin "isinstance") G K.O S hg (by decide) ?_)
 refine PyProof.Rows.callWith_builtin1 (PyProof.Rows.args_cons (wpM (uno_ok ha K S he) (fun v s₁ q=>PyProof.Rows.args_cons ?_ (by rfl))) (zv4 h0)) (zv4 h0) (by rfl)
 obtain ⟨F1,st,t⟩:=q
 refine elEA (isi_ok (prog:=C.prog) (A:=A) (E:=E) st.st.sub t hb) fun T hT hw=>?_
 refine zk8 G K.O st.st hg' hT (PyProof.Rows.args_nil (wpM hw (fun r s₂ q=>?_)))
 (refine elAE (q) fun e_0 tk e=>?_; subst e_0)
 exact ⟨F1,st.then e,by simp [ResOk,Rep]⟩
inductive PostI (C:Cx) (X:Addr→Prop) (P:List Place) (vs:List (Option Value)) (F:Fz) (s:Shared) (σ:Sg) (b:Option Int) (v:Value) (s':Shared):Prop
 | mk (p:IsPart v b) (F':Fz) (st:Step C X P vs F s σ F' s')
noncomputable def PB (C:Cx) (Γ:Mini.Env) (N:Nat) (i:I) (n:Nat) (sc:Scope) (ν:Nu) (oe:Option Expr):Prop:=∀ {env:PySem.Env} {P:List Place} {vs:List (Option Value)} {σ σ':Sg} {X:Addr→Prop} {F:Fz} {s:Shared} {A:Around} {E:Value→Shared→Prop} {b:Option Int},
 Cn Γ N env sc ν P n A→St C X F s.heap P vs σ→bndE i (ev Γ i) σ=some (b,σ')→wpAny (model C.prog C.w) A (valueOrNone (evalOpt oe env)) (PostI C X P vs F s σ' b) E s
theorem PB.none:PB C Γ N .omit n sc ν none:=by
 intro env P vs σ σ' X F s A E b K S hv
 cases hv
 exact wpAny_pure ⟨.none,F,Step.refl S⟩
theorem bndE_of {i:I} (h:isOmit i=false) (e:Ev) (σ:Sg):bndE i e σ=(e σ).bind fun p=>(bndD p.1).bind fun j=>some (some j,p.2.2):=by
 unfold bndE; rw [h]; rfl
theorem bndD_some {d:D} {j:Int} (h:bndD d=some j):d=.int j:=by
 cases d<;>first|(exact (noS h).elim)|(obtain ⟨_,rfl⟩:=ifS h; rfl)
theorem PB.some {i:I} {e:Expr} (h0:isOmit i=false) (h:PE C Γ N i n sc ν e):PB C Γ N i n sc ν (some e):=by
 intro env P vs σ σ' X F s A E b K S hv
 rw [bndE_of h0] at hv
 refine bK3 (hv) fun d f σ1 he hv=>?_
 refine bK1 (hv) fun j hj hv=>?_
 refine sm2 hv ?_
 obtain rfl:=bndD_some hj
 refine wpM (h.frozen K S he) (fun v s₁ q=>?_)
 obtain ⟨F1,st,r⟩:=q
 simp only [Rep] at r
 obtain ⟨t,rfl⟩:=r
 exact ⟨.int _ _,F1,st⟩
theorem PE.slc {a lo hi:I} {v:Expr} {l h:Option Expr} {p p':Pos} (ha:PO C Γ N a n sc ν v) (hlo:PB C Γ N lo n sc ν l) (hhi:PB C Γ N hi n sc ν h):PE C Γ N (.slc a lo hi) n sc ν (.Subscript v (.Slice l h none p') p):=by
 intro env P vs σ σ' X F s A E d f K S hv
 refine bK2 (hv) fun o σ1 ho hv=>?_
 refine bK2 (hv) fun bl σ2 hl hv=>?_
 refine bK2 (hv) fun bh σ3 hh hv=>?_
 refine bK1 (hv) fun dd hd hv=>?_
 refine bK2 (hv) fun r f' hr hv=>?_
 refine sm3 hv ?_
 refine PyProof.Rows.Subscript_ (wpM (ha K S ho) (fun v s₁ q=>?_))
 obtain ⟨F1,st1,r1⟩:=q
 rw [arm_eval_Slice]
 refine wpAny_bind (wpM (hlo K st1.st hl) (fun vl s₂ q=>?_))
 obtain ⟨pl,F2,st2⟩:=q
 refine wpAny_bind (wpAny_holding (wpM (hhi K st2.st hh) (fun vu s₃ q=>?_)))
 obtain ⟨pu,F3,st3⟩:=q
 refine wpAny_bind (wpAny_holding (wpAny_pure ?_))
 have stt:=(st1.trans st2).trans st3
 have t:=((r1.mono st2.le).mono st3.le).top st3.st hd
 exact wpM (slcTail_ok st3.st.sub t pl pu hr) (fun i s₄ q=>wpM q (fun v s₅ g=>Post.trans stt (g.post st3.st)))
theorem zk0 {σ:Sg} {k:Nat} {l:List D} (h:ownL σ k=some l):σ[k]?=some (some (.own (.list l))):=by
 unfold ownL at h
 split at h
 ·cases h; assumption
 ·cases h
theorem ownD_some {σ:Sg} {k:Nat} {l:List (D×D)} (h:ownD σ k=some l):σ[k]?=some (some (.own (.dict l))):=by
 unfold ownD at h
 split at h
 ·cases h; assumption
 ·cases h
inductive OwnAt (C:Cx) (X:Addr→Prop) (F:Fz) (h:Heap) (vs:List (Option Value)) (k:Nat) (d:D):Prop
 | mk (a:Addr) (hv:vs[k]?=some (some (.ref a))) (hf:F a=none) (r:Shal C.w F h d a) (hH:C.H.get? a=none) (hX:¬ X a)
section
theorem St.own_at (S:St C X F s.heap P vs σ) {k:Nat} {d:D} (h:σ[k]?=some (some (.own d))):OwnAt C X F s.heap vs k d:=by
 have hlt:k<vs.length:=by rw [← S.lenS]; exact (List.getElem?_eq_some_iff.mp h).1
 refine elEAA (S.slot k vs[k] _ (List.getElem?_eq_getElem hlt) h) fun a e1 hf r=>?_
 have hv:vs[k]?=some (some (.ref a)):=by rw [List.getElem?_eq_getElem hlt,e1]
 exact ⟨a,hv,hf,r,(S.own_free ⟨hv,d,h⟩).2,(S.own k a ⟨hv,d,h⟩).1⟩
theorem Step.update (S:St C X F s.heap P vs σ) {k:Nat} {l l':List D} {a:Addr} {ws:Array Value} {m:Nat} (hs:σ[k]?=some (some (.own (.list l)))) (hv:vs[k]?=some (some (.ref a)))
  (h1:s.heap.get? a=some (lobj ws m)) (g:Array Value→Array Value) (hz:l'.length≤size) (r:RepL C.w F l' (g ws).toList) {tk:Nat} :
  Step C X P vs F s (σ.set k (some (.own (.list l')))) F { s with heap:=s.heap.update a (Obj.mapSeq g),toks:=tk }:=by
 obtain ⟨a',hv',hf,_,hH,hX⟩:=S.own_at hs
 rw [hv] at hv'; cases hv'
 have hself:(s.heap.update a (Obj.mapSeq g)).get? a=some (lobj (g ws) (if (g ws).size==ws.size then m else m+1)):=Heap.get?_update_self _ h1 rfl
 refine ⟨⟨_,tk,rfl⟩,Fz.le_refl F,S.upd (h':=s.heap.update a (Obj.mapSeq g)) hv hs (fun b hb=>Heap.get?_update_other _ _ (Ne.symm hb)) ⟨hz,_,_,hself,r⟩ hH,fun b hb=>?_⟩
 exact Heap.get?_update_other _ _ (by rintro rfl; exact hX hb)
end
theorem RepL.dropLast_ {w:World} {F:Fz} {ds:List D} {ws:List Value} (r:RepL w F ds ws):RepL w F ds.dropLast ws.dropLast:=by
 rw [List.dropLast_eq_take,List.dropLast_eq_take,r.length]; exact r.take _
theorem PE.pop {k:Nat} {x:Str} {px ap cp:Pos} (hline:ap.endLine=cp.line) (hx:Sl ν k x):PE C Γ N (.pop k) n sc ν (.Call (.Attribute (.Name x px) "pop" ap) [] [] cp):=by
 intro env P vs σ σ' X F s A E d f K S hv
 refine bK1 (hv) fun l hl hv=>?_
 refine bK1 (hv) fun d' hd hv=>?_
 cases hv
 have hs:=zk0 hl
 obtain ⟨a,hv,hf,⟨hz,ws,c,h1,r⟩,hH,hX⟩:=S.own_at hs
 refine wpAny_Call_method (T := "list") (id := "list.pop") rfl (by rfl) (by simpa using hline) PySem.F.plainAttrs_list PySem.F.slot_list_pop PySem.F.type_list_pop (zm1 K.O S hx.at' hv hx.ok ?_)
 refine ⟨⟨_,h1,rfl⟩,fun b hb=>⟨_,by cases hb; exact h1,rfl⟩,?_⟩
 have e1:=r.length
 simp at e1
 have hlast:l[l.length - 1]?=some d:=by rw [← List.getLast?_eq_getElem?]; exact hd
 refine elEA (r.get hlast) fun v hv' rv=>?_
 refine PySem.P.pop_list (y:=v) (n:=c) h1 (by simpa [e1] using hv') ?_ (by rw [zl0]; bv_omega)
 have stp:=Step.update S (l':=l.dropLast) (tk:=s.toks) hs hv h1 (fun xs=>xs.eraseIdxIfInBounds (ws.size - 1)) (by simp; bv_omega) ?_
 ·exact ⟨F,stp,rv⟩
 ·have hpos:0<ws.size:=by
   have:=(List.getElem?_eq_some_iff.mp hlast).1; bv_omega
  have:(ws.eraseIdxIfInBounds (ws.size - 1)).toList=ws.toList.dropLast:=by
   rw [Array.eraseIdxIfInBounds,dif_pos (Nat.sub_lt hpos (by decide)),Array.toList_eraseIdx,List.dropLast_eq_take,List.eraseIdx_eq_take_drop_succ]
   simp
   exact Nat.le_of_eq (Nat.sub_add_cancel hpos).symm
  rw [this]; exact r.dropLast_
end
end Snd
end
section
namespace Snd
open PySem Mini
structure Nob (C:Cx) (X:Addr→Prop) (F:Fz) (P:List Place) (vs:List (Option Value)) (σ:Sg) (a:Addr):Prop where
 f:F a=none
 x:¬ X a
 p:∀ p∈P,a≠p.addr
 o:∀ k,¬ zs2 vs σ k a
 h:C.H.get? a=none
noncomputable def Or' (X W:Addr→Prop):Addr→Prop:=fun a=>X a∨W a
section
variable {C:Cx} {X W:Addr→Prop} {F F':Fz} {h h':Heap} {P:List Place} {vs:List (Option Value)} {σ:Sg}
theorem St.change (S:St C X F h P vs σ) (keep:∀ a o,¬ W a→h.get? a=some o→h'.get? a=some o) (hW:∀ a,W a→Nob C X F P vs σ a):St C X F h' P vs σ where
 sub:=fun a o e=>keep a o (fun q=>by rw [(hW a q).f] at e; cases e) (S.sub a o e)
 low:=S.low
 base:=fun a o e=>keep a o (fun q=>by rw [(hW a q).h] at e; cases e) (S.base a o e)
 cov:=S.cov
 xf:=S.xf
 xal:=fun a e=>let ⟨o,ho⟩:=S.xal a e; ⟨o,keep a o (fun q=>(hW a q).x e) ho⟩
 lenP:=S.lenP
 lenS:=S.lenS
 has:=fun i p ov e1 e2=>Place.has_keep (S.has i p ov e1 e2) fun o e=>keep _ _ (fun q=>(hW _ q).p p (List.mem_of_getElem? e1) rfl) e
 slot:=fun i ov av e1 e2=>(S.slot i ov av e1 e2).mono (Fz.le_refl F) fun a d q1 q2=>by
  subst q1 q2
  refine elEAA (S.slot i _ _ e1 e2) fun a' e' r q=>?_
  cases e'
  exact ⟨r,fun o e=>keep a o (fun q=>(hW a q).o i ⟨e1,d,e2⟩) e⟩
 nodup:=S.nodup
 cont:=S.cont
 own:=S.own
 inj:=S.inj
theorem St.protect (S:St C X F h P vs σ) (hW:∀ a,W a→Nob C X F P vs σ a∧∃ o,h.get? a=some o):St C (Or' X W) F h P vs σ :=
 S.addX (fun a e=>e.imp id fun q=>⟨(hW a q).1.f,(hW a q).2,(hW a q).1.p,(hW a q).1.o⟩) fun a e=>.inl e
theorem St.release (S:St C (Or' X W) F h P vs σ) (hc:∀ a o,C.H.get? a=some o→X a∨F a≠none):St C X F h P vs σ:=S.dropX (fun a e=>.inl e) hc
theorem Nob.back {vs':List (Option Value)} {σ':Sg} {P':List Place} (S:St C (Or' X W) F' h' P' vs' σ') {a:Addr} (ha:W a) (hx:¬ X a) (hh:C.H.get? a=none):Nob C X F' P' vs' σ' a where
 f:=S.xf a (.inr ha)
 x:=hx
 p:=fun p hp e=>(S.cont p hp).2 (e▸.inr ha)
 o:=fun k ho=>(S.own k a ho).1 (.inr ha)
 h:=hh
theorem St.nob_new (S:St C X F h P vs σ) {a:Addr} (hn:h.get? a=none):Nob C X F P vs σ a where
 f:=by
  cases e:F a with
  | none=>rfl
  | some o=>have:=S.sub a o e; rw [hn] at this; cases this
 x:=fun e=>by obtain ⟨o,ho⟩:=S.xal a e; rw [hn] at ho; cases ho
 p:=fun p hp e=>by
  obtain ⟨i,hi⟩:=List.mem_iff_getElem?.mp hp
  refine elEA (S.placeAt hi) fun ov _ hh=>?_
  obtain ⟨o,ho⟩:=Place.has_there hh
  rw [← e,hn] at ho; cases ho
 o:=fun i ho=>by
  refine elAE (ho) fun h1 d' h2=>?_
  refine elEAA (S.slot i _ _ h1 h2) fun a' e' _ q=>?_
  cases e'
  obtain ⟨o,ho⟩:=q.there
  rw [hn] at ho; cases ho
 h:=by
  cases e:C.H.get? a with
  | none=>rfl
  | some o=>have:=S.base a o e; rw [hn] at this; cases this
theorem Nob.mono {a:Addr} (x:Nob C X F P vs σ a) (hf:F' a=none):Nob C X F' P vs σ a:=⟨hf,x.x,x.p,x.o,x.h⟩
theorem Nob.res {a:Addr} {w:World} {d:D} (x:Nob C X F P vs σ a) (q:Shal w F h d a):ResOk w X F h P vs σ (.ref a) d true:=⟨a,rfl,x.f,x.x,x.p,x.o,q⟩
theorem XSame.left {X W:Addr→Prop} {h h':Heap} (x:XSame (Or' X W) h h'):XSame X h h':=fun a e=>x a (.inl e)
end
noncomputable def owned (n:String):Bool:=["enumerate", "zip", "dict_itemiterator", "dict_reverseitemiterator", "odict_iterator", "itertools.zip_longest", "itertools.pairwise"].contains n
theorem go_plain {prog:Program} {w:World} {A:Around} {E:Value→Shared→Prop} {s:Shared} {J:Addr} {o:Obj} {n:String} {tg:Expr} {v:Value} {Q:Unit→Shared→Prop} (ho:s.heap.get? J=some o) (hc:o.cls=.type n) (hn:owned n=false) (h:Q () s):wpAny (model prog w) A (letOwnedTupleGo tg (.ref J) v) Q E s:=by
 have go:wpAny (model prog w) A (do
   let (.ref r,.ref a):=(Value.ref J,v)|return
   let o ← load r
   match o.cls,o.data with
   | .type n,.fields vs =>
    if ["enumerate", "zip", "dict_itemiterator", "dict_reverseitemiterator", "odict_iterator", "itertools.zip_longest", "itertools.pairwise"].contains n&&vs[0]?==some (rawInt a) then
     rule "for.unpacks-the-owned-tuple"
     updateField r 0 .none
   | _,_=>pure ()) Q E s:=by
  cases v<;>try exact wpAny_pure h
  refine wpAny_bind (wpAny_load ho ?_)
  rw [hc]
  cases o.data<;>try exact wpAny_pure h
  unfold owned at hn
  dsimp only
  rw [hn,Bool.false_and]
  exact wpAny_pure h
 cases tg<;>first|exact go|exact wpAny_pure h
structure WalkG (gt:Expr→Prop) (prog:Program) (w:World) (A:Around) (F0:Fz) (J:Addr) (W:Addr→Prop) (ds:List D) (T:Nat→Heap→Prop):Prop where
 self:W J
 alive:∀ i h a,T i h→W a→∃ o,h.get? a=some o
 frame:∀ i h h',T i h→F0.In h→(∀ a o,W a→h.get? a=some o→h'.get? a=some o)→F0.In h'→T i h'
 item:∀ i d (tg:Expr) (s:Shared) (E:Value→Shared→Prop),gt tg→ds[i]?=some d→T i s.heap→wpAny (model prog w) A (pyNext (.ref J)) (fun r s₁=>∃ v,r=some v∧wpAny (model prog w) A (letOwnedTupleGo tg (.ref J) v) (fun _ s'=>∃ h' tk,s'={ s with heap:=h',toks:=tk }∧T (i+1) h' ∧
  (∀ a o,¬ W a→s.heap.get? a=some o→h'.get? a=some o) ∧
  ∀ F,F0.le F→F.In s.heap→(∀ a,W a→F a=none)→∃ F2,F.le F2∧F2.In h'∧(∀ a,F2 a≠none→F a≠none∨s.heap.get? a=none)∧Rep w F2 d v) E s₁) E s
 done:∀ (s:Shared) (E:Value→Shared→Prop),T ds.length s.heap→wpAny (model prog w) A (pyNext (.ref J)) (fun r s'=>r=none∧∃ h' tk,s'={ s with heap:=h',toks:=tk }∧∀ a o,¬ W a→s.heap.get? a=some o→h'.get? a=some o) E s
 iter:∀ i (s:Shared) (Q:Value→Shared→Prop) (E:Value→Shared→Prop),T i s.heap→Q (.ref J) s→wpAny (model prog w) A (pyIter (.ref J)) Q E s
noncomputable abbrev Walk:=WalkG fun _=>True
theorem Walk.of {prog:Program} {w:World} {A:Around} {F0:Fz} {J:Addr} {fp wr:List Addr} {n:Nat} {p:Nat→Value→Prop} {T:Nat→Heap→Prop} {ds:List D} (K:Walks prog w A J fp wr n p T)
  (hn:ds.length=n) (hJ:J∈wr) (hal:∀ i h a,T i h→a∈wr→∃ o,h.get? a=some o) (hfp:∀ b∈fp,b∈wr∨F0 b≠none) (hp:∀ i v d,ds[i]?=some d→p i v→∀ F,F0.le F→Rep w F d v) (hgo:∀ i h,T i h→∃ o n,h.get? J=some o∧o.cls=.type n∧owned n=false) :
  Walk prog w A F0 J (fun a=>a∈wr) ds T where
 self:=hJ
 alive:=hal
 frame:=fun i h h' t hin k hin'=>K.frame i h h' t fun b hb o e=>by
  rcases hfp b hb with q|q
  ·exact k b o q e
  ·cases hq:F0 b with
   | none=>exact absurd hq q
   | some o' =>
    have:=hin b o' hq
    rw [e] at this; cases this
    exact hin' b _ hq
 item:=fun i d tg s E _ hd t=>K.item i s _ _ (by rw [← hn]; exact (List.getElem?_eq_some_iff.mp hd).1) t fun v h' tk pv t' k =>
  let ⟨_,_,ho,hc,hn⟩:=hgo _ _ t'
  ⟨v,rfl,go_plain (s:={ s with heap:=h',toks:=tk }) ho hc hn ⟨h',tk,rfl,t',fun a o ha e=>k a o ha e,fun F l hin hw=>⟨F,Fz.le_refl F,fun a o e=>k a o (fun q=>by rw [hw a q] at e; cases e) (hin a o e),fun a e=>.inl e,hp i v d hd pv F l⟩⟩⟩
 done:=fun s E t=>K.done s _ _ (by rw [← hn]; exact t) fun h' tk k=>⟨rfl,h',tk,rfl,fun a o ha e=>k a o ha e⟩
 iter:=fun i s Q E t q=>K.self i s Q E t q
inductive PostG (gt:Expr→Prop) (C:Cx) (X:Addr→Prop) (P:List Place) (vs:List (Option Value)) (F:Fz) (s:Shared) (σ:Sg) (A:Around) (ds:List D) (it:Value) (s':Shared):Prop
 | mk (F':Fz) (J:Addr) (W:Addr→Prop) (T:Nat→Heap→Prop) (e:it=.ref J) (st:Step C X P vs F s σ F' s') (hW:WalkG gt C.prog C.w A F' J W ds T) (ht:T 0 s'.heap) (hz:ds.length≤size) (hn:∀ a,W a→Nob C X F' P vs σ a)
noncomputable abbrev PostW:=PostG fun _=>True
noncomputable def DictIter (w:World):Prop:=∀ (prog:Program) (A:Around) (E:Value→Shared→Prop) (s:Shared) (F:Fz) (n:Nat),Room n A→F.In s.heap→∀ {kvs:List (D×D)} {v:Value},Rep w F (.dict kvs) v →
 wpAny (model prog w) A (pyIter v) (fun it s'=>∃ J W T h' tk,it=.ref J∧s'={ s with heap:=h',toks:=tk }∧(∀ a o,s.heap.get? a=some o→h'.get? a=some o)∧Walk prog w A F J W (kvs.map (·.1)) T∧T 0 h'∧∀ a,W a→s.heap.get? a=none) E s
section
variable {C:Cx} {Γ:Mini.Env} {N:Nat} {X:Addr→Prop} {P:List Place} {vs:List (Option Value)} {F:Fz} {s s₁:Shared} {σ:Sg} {A:Around} {E:Value→Shared→Prop}
theorem Step.grow (S:St C X F s.heap P vs σ) {h':Heap} {tk:Nat} (k:∀ a o,s.heap.get? a=some o→h'.get? a=some o):Step C X P vs F s σ F { s with heap:=h',toks:=tk } :=
 ⟨⟨h',tk,rfl⟩,Fz.le_refl F,S.grow0 k,XSame.of_keep S.xal k⟩
theorem Walk.seq {prog:Program} {w:World} {A:Around} {F:Fz} {it a:Addr} {ws:Array Value} {l:List D} {T:Nat→Heap→Prop} (K:Walks prog w A it [it,a] [it] ws.size (fun i x=>ws[i]?=some x) T) (r:RepL w F l ws.toList) (hF:F a≠none)
  (hgo:∀ i h,T i h→∃ o n,h.get? it=some o∧o.cls=.type n∧owned n=false):Walk prog w A F it (fun b=>b∈[it]) l T :=
 Walk.of K r.length.symm (List.mem_singleton.mpr rfl) (fun i h b t hb=>(hgo i h t).elim fun o ho=>ho.elim fun _ q=>⟨o,List.mem_singleton.mp hb▸q.1⟩)
  (fun b hb=>(List.mem_cons.mp hb).elim (fun e=>.inl (List.mem_singleton.mpr e)) fun hb=>.inr (List.mem_singleton.mp hb▸hF))
  (fun i v d hd hv G l=>elEA (r.get hd) fun u hu ru=>by
   rw [Array.getElem?_toList] at hu
   exact Option.some.inj (hu.symm.trans hv)▸Rep.mono l _ ru) hgo
theorem iter_frozen (di:DictIter C.w) (R:Room N A) (S:St C X F s.heap P vs σ) {d:D} {v:Value} {ds:List D} (r:Rep C.w F d v) (e:itemsD d=some ds) :
  wpAny (model C.prog C.w) A (pyIter v) (PostW C X P vs F s σ A ds) E s:=by
 have nob:∀ b∈[s.heap.objs.size],Nob C X F P vs σ b:=fun b hb=>List.mem_singleton.mp hb▸S.nob_new (zy4 _)
 cases d with
 | list l =>
  refine sm1 e ?_
  refine elAEEEEAAAA (show _∧_ from r) fun hz a ob ws m ev hF hcl hdt r=>?_
  rw [ev]
  have h1:=S.sub _ _ hF
  refine wpAny_pyIter_list ⟨_,h1,hcl,_,hdt⟩ ?_
  exact ⟨F,s.heap.objs.size,_,_,rfl,Step.grow (tk:=s.toks) S (h':=s.heap.push { cls:=.type "list_iterator", data:=.fields #[.ref a,.int 0 0] }) fun b o e=>Heap.get?_push_of_some _ e,
   Walk.seq (Walks.list R.handled _ a (Nat.ne_of_lt (Heap.lt_size h1)) ws) r (by rw [hF]; exact fun x=>nomatch x) (fun _ _ t=>let ⟨o,ho,hc,_⟩:=t.1; ⟨o,_,ho,hc,rfl⟩),⟨⟨_,Heap.get?_push_size _ rfl,rfl,rfl⟩,⟨_,Heap.get?_push_of_some _ h1,hcl,_,hdt⟩⟩,hz,nob⟩
 | tuple l =>
  refine sm1 e ?_
  refine elAEEEAA (show _∧_ from r) fun hz a ws m ev hF r=>?_
  rw [ev]
  have h1:=S.sub _ _ hF
  refine wpAny_pyIter_tuple ⟨_,h1,rfl,_,rfl⟩ ?_
  exact ⟨F,s.heap.objs.size,_,_,rfl,Step.grow (tk:=s.toks) S (h':=s.heap.push { cls:=.type "tuple_iterator", data:=.fields #[.ref a,.int 0 0] }) fun b o e=>Heap.get?_push_of_some _ e,
   Walk.seq (Walks.tuple R.handled _ a (Nat.ne_of_lt (Heap.lt_size h1)) ws) r (by rw [hF]; exact fun x=>nomatch x) (fun _ _ t=>let ⟨o,ho,hc,_⟩:=t.1; ⟨o,_,ho,hc,rfl⟩),⟨⟨_,Heap.get?_push_size _ rfl,rfl,rfl⟩,⟨_,Heap.get?_push_of_some _ h1,rfl,_,rfl⟩⟩,hz,nob⟩
 | dict kvs =>
  refine sm1 e ?_
  refine wpM (di C.prog A E s F N R S.sub r) (fun it s' q=>?_)
  (refine elEEEEEAAAAA (q) fun J W T h' tk e_5 e_6 k K t hn=>?_; subst e_5; subst e_6)
  refine ⟨F,J,W,T,rfl,Step.grow S k,K,t,?_,fun a ha=>S.nob_new (hn a ha)⟩
  simp only [Rep] at r
  simpa using r.1.1
 | _=>exact (noS e).elim
end
section
variable (C:Cx) (Γ:Mini.Env) (N:Nat)
noncomputable def PWg (gt:Expr→Prop) (i:I) (n:Nat) (sc:Scope) (ν:Nu) (e:Expr):Prop:=∀ {env:PySem.Env} {P:List Place} {vs:List (Option Value)} {σ σ':Sg} {X:Addr→Prop} {F:Fz} {s:Shared} {A:Around} {E:Value→Shared→Prop} {ds:List D},
 Cn Γ N env sc ν P n A→St C X F s.heap P vs σ→srcE (ev Γ i) σ=some (ds,σ') →
  wpAny (model C.prog C.w) A (eval e env) (fun v s₁=>wpAny (model C.prog C.w) A (pyIter v) (PostG gt C X P vs F s σ' A ds) E s₁) E s
noncomputable abbrev PW:=PWg C Γ N fun _=>True
end
section
variable {C:Cx} {Γ:Mini.Env} {N:Nat} {n:Nat} {sc:Scope} {ν:Nu}
theorem PostG.trans {gt:Expr→Prop} {X:Addr→Prop} {P:List Place} {vs:List (Option Value)} {F F':Fz} {s s' s'':Shared} {σ' σ'':Sg} {A:Around} {ds:List D} {it:Value} (a:Step C X P vs F s σ' F' s') (q:PostG gt C X P vs F' s' σ'' A ds it s''):PostG gt C X P vs F s σ'' A ds it s'':=by
 obtain ⟨G,J,W,T,e,st,r1,r2,r3,r4⟩:=q
 exact ⟨G,J,W,T,e,a.trans st,r1,r2,r3,r4⟩
theorem PW.plain (di:DictIter C.w) {i:I} {e:Expr} (h:PE C Γ N i n sc ν e):PW C Γ N i n sc ν e:=by
 intro env P vs σ σ' X F s A E ds K S hv
 refine bK3 (hv) fun d f σ1 he hv=>?_
 refine bK1 (hv) fun l hi hv=>?_
 refine sm2 hv ?_
 refine wpM (h.frozen K S he) (fun v s₁ q=>?_)
 obtain ⟨F1,st,r⟩:=q
 exact wpM (iter_frozen di K.R st.st r hi) (fun it s₂ q=>q.trans st)
theorem Walk.ints {prog:Program} {w:World} {A:Around} {F0:Fz} (hh:A.handled=none) {J:Addr} {a b:Int} {N:Nat} (hN:N=(b - a).toNat):Walk prog w A F0 J (fun x=>x∈[J]) (zs9 a b) (fun i h=>IsRangeIter h J (a+(i:Nat)*1) ((N:Int) - (i:Nat)) 1):=by
 refine Walk.of (Walks.range hh J a 1 N) (by simp [zs9,hN]) (by simp) (fun i h x t hx=>?_) (fun b hb=>.inl hb) (fun i v d hd hv F l=>?_) (fun _ _ t=>⟨_,_,t,rfl,rfl⟩)
 ·simp only [List.mem_singleton] at hx; subst hx; exact ⟨_,t⟩
 ·obtain ⟨t,rfl⟩:=hv
  have hlt:=(List.getElem?_eq_some_iff.mp hd).1
  rw [zs9,List.length_map,List.length_range] at hlt
  rw [zs9,List.getElem?_map,List.getElem?_range hlt] at hd
  cases hd
  simp [Rep]
theorem smallI_lt {i:Int} (h:zy9 i=true):-(2^62)≤i∧i<2^62:=by
 have h:i.natAbs<2^62:=of_decide_eq_true h
 exact ⟨Int.neg_le_of_neg_le (Int.le_trans (Int.natAbs_neg i▸Int.le_natAbs (a:=-i)) (Int.ofNat_le.mpr (Nat.le_of_lt h))),Int.lt_of_le_of_lt Int.le_natAbs (Int.ofNat_lt.mpr h)⟩
theorem iter_range {X:Addr→Prop} {P:List Place} {vs:List (Option Value)} {F:Fz} {s:Shared} {σ:Sg} {A:Around} {E:Value→Shared→Prop} (R:Room N A) (S:St C X F s.heap P vs σ) {r:Addr} {a b:Int} {t u v:Tok}
  (hr:IsRange s.heap r a b 1 t u v) (ha:zy9 a=true) (hb:zy9 b=true) (hz:(b - a).toNat≤size):wpAny (model C.prog C.w) A (pyIter (.ref r)) (PostW C X P vs F s σ A (zs9 a b)) E s:=by
 have h1:=smallI_lt ha
 have h2:=smallI_lt hb
 refine wpAny_pyIter_range hr (small_one h1.1 h1.2 h2.1 h2.2) ?_
 have st:=Step.grow (tk:=s.toks) S (h':=s.heap.push { cls:=.type "range_iterator", data:=.fields #[rawInt a,rawInt (Builtin.Range.rangeSize a b 1),rawInt 1] }) fun b o e=>Heap.get?_push_of_some _ e
 refine ⟨F,s.heap.objs.size,_,_,rfl,st,Walk.ints R.handled rfl,?_,by simpa [zs9] using hz,fun x hx=>?_⟩
 ·have e1:(a+((0:Nat):Int)*1)=a:=by simp
  have e2:(((b - a).toNat:Int) - ((0:Nat):Int))=Builtin.Range.rangeSize a b 1:=by rw [rangeSize_one]; split<;>bv_omega
  rw [e1,e2]
  exact Heap.get?_push_size _ rfl
 ·simp only [List.mem_singleton] at hx; subst hx
  exact S.nob_new (zy4 _)
@[elab_as_elim] theorem rng1_inv {b:I} {σ σ':Sg} {ds:List D} {P:List D→Prop} (hv:srcE (ev Γ (.rng1 b)) σ=some (ds,σ')) (k:∀ y fy,ev Γ b σ=some (.int y,fy,σ')→zy9 y=true→y.toNat≤size→P (zs9 0 y)):P ds:=by
 refine bK3 (hv) fun d f σ1 he hv=>bK3 (he) fun y' fy σ2 hy he=>bK1 (he) fun y hyi he=>?_
 obtain ⟨hc,he⟩:=ifS he
 have hc:=Bool.and_eq_true_iff.mp hc
 revert hv hy
 refine sm3 (congrArg some he) fun hv=>?_
 have hv:some (zs9 0 y,σ2)=some (ds,σ'):=hv
 revert k
 have hyi:zr7 y'=some y:=hyi
 exact sm2 hv fun k=>asIntK hyi fun hy=>k y fy hy hc.1 (of_decide_eq_true hc.2)
theorem PW.rng1 (G:Ground C Γ N) {b:I} {e:Expr} {px p:Pos} (hg:zw5 sc ν "range" = true) (hb:PE C Γ N b n sc ν e) (h0:okE e=true):PW C Γ N (.rng1 b) n sc ν (.Call (.Name "range" px) [e] [] p):=by
 intro env P vs σ σ' X F s A E ds K S hv
 refine rng1_inv hv fun y fy hy c1 c2=>?_
 refine PyProof.Rows.Call_ (zk8 (v:=.type "range") G K.O S hg (by decide) ?_)
 refine PyProof.Rows.callWith_type1 (PyProof.Rows.args_cons (wpM (hb.frozen K S hy) (fun v s₁ q=>PyProof.Rows.args_nil ?_)) (zv4 h0)) (zv4 h0) rfl
 obtain ⟨F1,st,r⟩:=q
 refine Top.intK (h:=s₁.heap) (.inl r) fun t=>call_range_1 ?_
 have st2:=Step.grow (tk:=s₁.toks+1+1) st.st (h':=s₁.heap.push { cls:=.type "range", data:=.fields #[.int 0 s₁.toks,.int y t,.int 1 (s₁.toks+1)] }) fun b o e=>Heap.get?_push_of_some _ e
 exact wpM (iter_range K.R st2.st (IsRange.new ..) (by decide) c1 (by simpa using c2)) (fun it s₂ q=>q.trans (st.trans st2))
@[elab_as_elim] theorem rng_inv {a b:I} {σ σ':Sg} {ds:List D} {P:List D→Prop} (hv:srcE (ev Γ (.rng a b)) σ=some (ds,σ')) (k:∀ x fx σ1 y fy,ev Γ a σ=some (.int x,fx,σ1)→ev Γ b σ1=some (.int y,fy,σ')→zy9 x=true→zy9 y=true→(y - x).toNat≤size→P (zs9 x y)):P ds:=by
 refine bK3 (hv) fun d f σ1 he hv=>bK3 (he) fun x' fx σ2 hx he=>bK1 (he) fun x hxi he=>bK3 (he) fun y' fy σ3 hy he=>bK1 (he) fun y hyi he=>?_
 obtain ⟨hc,he⟩:=ifS he
 have hc:=Bool.and_eq_true_iff.mp hc
 have hc1:=Bool.and_eq_true_iff.mp hc.1
 revert hv hy hx
 refine sm3 (congrArg some he) fun hv=>?_
 have hv:some (zs9 x y,σ3)=some (ds,σ'):=hv
 revert k
 have hyi:zr7 y'=some y:=hyi
 have hxi:zr7 x'=some x:=hxi
 exact sm2 hv fun k=>asIntK hxi (asIntK hyi fun hx hy=>k x fx σ2 y fy hx hy hc1.1 hc1.2 (of_decide_eq_true hc.2))
theorem PW.rng (G:Ground C Γ N) {a b:I} {e1 e2:Expr} {px p:Pos} (hg:zw5 sc ν "range" = true) (ha:PE C Γ N a n sc ν e1) (hb:PE C Γ N b n sc ν e2) (h1:okE e1=true) (h2:okE e2=true):PW C Γ N (.rng a b) n sc ν (.Call (.Name "range" px) [e1,e2] [] p):=by
 intro env P vs σ σ' X F s A E ds K S hv
 refine rng_inv hv fun x fx σ1 y fy hx hy c1 c2 c3=>?_
 refine PyProof.Rows.Call_ (zk8 (v:=.type "range") G K.O S hg (by decide) ?_)
 refine PyProof.Rows.callWith_type1 (PyProof.Rows.args_cons (wpM (ha.frozen K S hx) (fun v s₁ q=>PyProof.Rows.args_cons ?_ (zv4 h2))) (zv4 h1)) (zv4 h1) (by rw [zv4 h2]; rfl)
 obtain ⟨F1,st,r⟩:=q
 refine wpM (hb.frozen K st.st hy) (fun u s₂ q=>PyProof.Rows.args_nil ?_)
 obtain ⟨F2,st2,r2⟩:=q
 refine Top.intK (h:=s₁.heap) (.inl r) fun t=>Top.intK (h:=s₁.heap) (.inl r2) fun t2=>call_range_2 ?_
 have st3:=Step.grow (tk:=s₂.toks+1) st2.st (h':=s₂.heap.push { cls:=.type "range", data:=.fields #[.int x t,.int y t2,.int 1 s₂.toks] }) fun b o e=>Heap.get?_push_of_some _ e
 exact wpM (iter_range K.R st3.st (IsRange.new ..) c1 c2 c3) (fun it s₂ q=>q.trans ((st.trans st2).trans st3))
end
end Snd
end
section
namespace Snd
open PySem Mini
section
variable {prog:Program} {w:World} {A:Around} {E:Value→Shared→Prop} {s:Shared}
theorem nextOf_tuple_item {it t:Addr} {i:Nat} {items:Array Value} {x:Value} {Q:Value→Shared→Prop} (hit:s.heap.IsTupleIter it t i)
  (ht:s.heap.IsTuple t items) (hx:items[i]?=some x) (hQ:∀ h',h'.IsTupleIter it t (i+1)→Heap.SameBut it s.heap h'→Q x { s with heap:=h' }) :
  wpAny (model prog w) A (Builtin.SmallTypes.nextOf (.ref it)) Q E s:=by
 refine elEAA (id hit) fun o ho hc hd=>?_
 refine elEAAE (ht) fun ol hol _ nl hdl=>?_
 unfold Builtin.SmallTypes.nextOf
 refine wpAny_bind (wpAny_callSpecial?_slot (name:=Str.ofString "__next__") hit.typeIs F.slot_tuple_iterator_next
  (wpAny_call_entry F.slot_tuple_iterator_next hit.typeIs F.entry_tuple_iterator_next ?_ (F.args_tuple_iterator_next_1 _)))
 show wpAny _ _ (field (.ref it) 0 >>= _) _ _ s
 refine wpAny_bind (wpAny_field ho hd (x:=.ref t) rfl ?_)
 show wpAny _ _ (if (Value.ref t==Value.none)=true then _ else _) _ _ s
 rw [if_neg (show ¬ ((Value.ref t==Value.none)=true) from Bool.false_ne_true)]
 show wpAny _ _ (field (.ref it) 1 >>= _) _ _ s
 refine wpAny_bind (wpAny_field ho hd (x:=.int i 0) rfl ?_)
 show wpAny _ _ (seqItems? (.ref t) >>= _) _ _ s
 refine wpAny_bind (wpAny_seqItems hol hdl ?_)
 simp only [Int.toNat_natCast,hx]
 refine wpAny_bind (wpAny_setField ho hd (by simp) (wpAny_pure ⟨x,rfl,wpAny_pure (hQ _ ?_ (Heap.SameBut.update ..))⟩))
 exact ⟨_,Heap.get?_update_self _ ho (Obj.isFreed_of_fields (Obj.data_mapFields hd _)),(Obj.cls_mapFields ..).trans hc,by
  rw [Obj.data_mapFields hd]; simp [rawInt]⟩
theorem nextOf_tuple_end {it t:Addr} {i:Nat} {items:Array Value} {Q:Value→Shared→Prop} (hh:A.handled=none)
  (hit:s.heap.IsTupleIter it t i) (ht:s.heap.IsTuple t items) (hx:items[i]?=none)
  (hE:∀ h' e,Heap.ExtBut it s.heap h'→(∃ o,h'.get? e=some o∧o.cls=.type "StopIteration")→E (.ref e) { s with heap:=h' }) :
  wpAny (model prog w) A (Builtin.SmallTypes.nextOf (.ref it)) Q E s:=by
 refine elEAA (id hit) fun o ho hc hd=>?_
 refine elEAAE (ht) fun ol hol _ nl hdl=>?_
 unfold Builtin.SmallTypes.nextOf
 refine wpAny_bind (wpAny_callSpecial?_slot (name:=Str.ofString "__next__") hit.typeIs F.slot_tuple_iterator_next
  (wpAny_call_entry F.slot_tuple_iterator_next hit.typeIs F.entry_tuple_iterator_next ?_ (F.args_tuple_iterator_next_1 _)))
 show wpAny _ _ (field (.ref it) 0 >>= _) _ _ s
 refine wpAny_bind (wpAny_field ho hd (x:=.ref t) rfl ?_)
 show wpAny _ _ (if (Value.ref t==Value.none)=true then _ else _) _ _ s
 rw [if_neg (show ¬ ((Value.ref t==Value.none)=true) from Bool.false_ne_true)]
 show wpAny _ _ (field (.ref it) 1 >>= _) _ _ s
 refine wpAny_bind (wpAny_field ho hd (x:=.int i 0) rfl ?_)
 show wpAny _ _ (seqItems? (.ref t) >>= _) _ _ s
 refine wpAny_bind (wpAny_seqItems hol hdl ?_)
 simp only [Int.toNat_natCast,hx]
 refine wpAny_bind (wpAny_rule (wpAny_bind (wpAny_setField ho hd (by simp) ?_)))
 show wpAny _ _ (newExc (.type "StopIteration") [] >>= _) _ _ _
 refine wpAny_bind ?_
 simp only [newExc,newTuple]
 refine wpAny_bind (wpAny_newObj_type ?_ (by size_fits))
 refine wpAny_bind (m:=firstArgMember _ _) (wpAny_of_eq (a:=Value.none) (by first|rfl|(simp only [firstArgMember]; rfl)) ?_)
 refine wpAny_newObj_type ?_ (by size_fits)
 simp only [raiseNew]
 refine wpAny_bind (wpAny_handled ?_)
 first|rw [show A.in1.handled=none from hh]|rw [hh]
 refine wpAny_bind (wpAny_pure (wpAny_throw ?_))
 exact hE _ _ (((Heap.SameBut.update ..).extBut.push _).push _) ⟨_,Heap.get?_push_size _ rfl,rfl⟩
theorem Draws.tup (hh:A.handled=none) (it t:Addr) (hne:t≠it) (items:Array Value):Draws prog w A it [it,t] items.size (fun i x=>items[i]?=some x) (fun i h=>h.IsTupleIter it t i∧h.IsTuple t items) where
 live:=fun i h st=>let ⟨o,ho,_⟩:=st.1; ⟨o,ho⟩
 frame:=fun i h h' st k=>by
  obtain ⟨⟨o,ho,q⟩,⟨o',ho',q'⟩⟩:=st
  exact ⟨⟨o,k it (by simp) o ho,q⟩,⟨o',k t (by simp) o' ho',q'⟩⟩
 item:=fun i s Q E hi st hQ=>nextOf_tuple_item st.1 st.2 (x:=items[i]) (by simp [hi]) fun h' hit hs=>by
  refine elEA (st.2) fun o' ho' q'=>?_
  exact hQ items[i] h' s.toks (by simp [hi]) ⟨hit,⟨o',hs.extBut _ _ hne ho',q'⟩⟩ hs
 done:=fun s Q E st hE=>nextOf_tuple_end hh st.1 st.2 (by simp) hE
structure ZA (z TI TO i1 i2:Addr) (fp1 fp2:List Addr):Prop where
 TIz:TI≠z
 TOz:TO≠z
 i1z:i1≠z
 i2z:i2≠z
 TITO:TI≠TO
 TIi1:TI≠i1
 TIi2:TI≠i2
 TOi1:TO≠i1
 TOi2:TO≠i2
 i12:i1≠i2
 f1:∀ b∈fp1,b≠z∧b≠TO∧b≠i2
 f2:∀ b∈fp2,b≠z∧b≠TO∧b≠i1
variable {z TI TO i1 i2:Addr} {fp1 fp2:List Addr} {n1 n2 k:Nat} {P1 P2:Nat→Value→Prop} {S1 S2:Nat→Heap→Prop}
theorem zip_item (D:ZA z TI TO i1 i2 fp1 fp2) (D1:Draws prog w A i1 fp1 n1 P1 S1) (D2:Draws prog w A i2 fp2 n2 P2 S2) {a b:Value} {Q:Value→Shared→Prop}
  (hz:IsZip s.heap z TI TO .none) (hTI:IsPair s.heap TI (.ref i1) (.ref i2)) (hTO:IsPair s.heap TO a b) (s1:S1 k s.heap) (s2:S2 k s.heap) (k1:k<n1) (k2:k<n2)
  (hQ:∀ x y h' tk,P1 k x→P2 k y→IsZip h' z TI TO (rawInt s.heap.objs.size)→IsPair h' TO x y→S1 (k+1) h'→S2 (k+1) h'→IsPair h' s.heap.objs.size x y →
   (∀ c o,c≠z→c≠TO→c≠i1→c≠i2→s.heap.get? c=some o→h'.get? c=some o)→Q (.ref s.heap.objs.size) { s with heap:=h',toks:=tk }) :
  wpAny (model prog w) A (Builtin.«zip.__next__» ⟨[.ref z],[]⟩) (fun fin s'=>∃ v,fin=.done (.ret v)∧Q v s') E s:=by
 show wpAny _ _ (field (.ref z) 2 >>= _) _ _ _
 refine wpAny_bind (wpAny_field hz rfl (x:=.bool false) rfl ?_)
 show wpAny _ _ (field (.ref z) 3 >>= _) _ _ _
 refine wpAny_bind (wpAny_field hz rfl (x:=.ref TI) rfl ?_)
 refine wpAny_bind (wpAny_seqItems hTI rfl ?_)
 show wpAny _ _ (Builtin.SmallTypes.ownedTupleIsFree (.ref z) >>= _) _ _ _
 refine wpAny_bind ?_
 unfold Builtin.SmallTypes.ownedTupleIsFree
 refine wpAny_bind (wpAny_field hz rfl (x:=.none) rfl (wpAny_pure ?_))
 simp only [if_true]
 refine wpAny_bind (wpAny_rule ?_)
 refine wpAny_bind (wpAny_field hz rfl (x:=.ref TO) rfl ?_)
 refine wpAny_bind (wpAny_setField_rec hz (by simp) fun h₁ hz₁ hs₁=>?_)
 replace hz₁:IsZip h₁ z TI TO .ellipsis:=hz₁
 refine wpAny_bind ?_
 simp only [List.zipIdx_cons,List.zipIdx_nil,List.forIn_cons,List.forIn_nil]
 refine wpAny_bind (wpAny_bind (wpAny_onRaise ?_))
 show wpAny _ _ (Builtin.SmallTypes.nextOf (.ref i1) >>= _) _ _ _
 have s1₁:S1 k h₁:=D1.frame _ _ _ s1 fun b hb o e=>hs₁.extBut _ _ (D.f1 b hb).1 e
 have s2₁:S2 k h₁:=D2.frame _ _ _ s2 fun b hb o e=>hs₁.extBut _ _ (D.f2 b hb).1 e
 refine wpAny_bind (D1.item k _ _ _ k1 s1₁ fun x h₂ tk₂ hx s1₂ hs₂=>wpAny_pure ?_)
 have hTO₂:IsPair h₂ TO a b:=hs₂.extBut _ _ D.TOi1 (hs₁.extBut _ _ D.TOz hTO)
 refine wpAny_bind (wpAny_seqItems (s:={ s with heap:=h₂,toks:=tk₂ }) hTO₂ rfl ?_)
 refine wpAny_bind (wpAny_updateSeq_pair (s:={ s with heap:=h₂,toks:=tk₂ }) hTO₂ fun h₃ hTO₃ hs₃=>?_)
 replace hTO₃:IsPair h₃ TO x b:=hTO₃
 refine wpAny_bind (wpAny_letGo (wpAny_pure ?_))
 refine wpAny_bind (wpAny_bind (wpAny_onRaise ?_))
 show wpAny _ _ (Builtin.SmallTypes.nextOf (.ref i2) >>= _) _ _ _
 have s1₃:S1 (k+1) h₃:=D1.frame _ _ _ s1₂ fun b hb o e=>hs₃.extBut _ _ (D.f1 b hb).2.1 e
 have s2₃:S2 k h₃:=D2.frame _ _ _ s2₁ fun b hb o e=>hs₃.extBut _ _ (D.f2 b hb).2.1 (hs₂.extBut _ _ (D.f2 b hb).2.2 e)
 refine wpAny_bind (D2.item k _ _ _ k2 s2₃ fun y h₄ tk₄ hy s2₄ hs₄=>wpAny_pure ?_)
 have hTO₄:IsPair h₄ TO x b:=hs₄.extBut _ _ D.TOi2 hTO₃
 refine wpAny_bind (wpAny_seqItems (s:={ s with heap:=h₄,toks:=tk₄ }) hTO₄ rfl ?_)
 refine wpAny_bind (wpAny_updateSeq_pair (s:={ s with heap:=h₄,toks:=tk₄ }) hTO₄ fun h₅ hTO₅ hs₅=>?_)
 replace hTO₅:IsPair h₅ TO x y:=hTO₅
 refine wpAny_bind (wpAny_letGo (wpAny_pure (wpAny_pure ?_)))
 refine wpAny_bind (wpAny_seqItems (s:={ s with heap:=h₅,toks:=tk₄ }) hTO₅ rfl ?_)
 refine wpAny_bind (wpAny_newTuple ?_)
 have hsz:h₅.objs.size=s.heap.objs.size:=by rw [hs₅.1,hs₄.1,hs₃.1,hs₂.1,hs₁.1]
 have hz₅:IsZip h₅ z TI TO .ellipsis:=hs₅.extBut _ _ D.TOz.symm (hs₄.extBut _ _ D.i2z.symm (hs₃.extBut _ _ D.TOz.symm (hs₂.extBut _ _ D.i1z.symm hz₁)))
 have hk₅:∀ c o,c≠z→c≠TO→c≠i1→c≠i2→s.heap.get? c=some o→h₅.get? c=some o:=fun c o c1 c2 c3 c4 e =>
  hs₅.extBut _ _ c2 (hs₄.extBut _ _ c4 (hs₃.extBut _ _ c2 (hs₂.extBut _ _ c3 (hs₁.extBut _ _ c1 e))))
 have s1₅:S1 (k+1) h₅:=D1.frame _ _ _ s1₃ fun b hb o e=>hs₅.extBut _ _ (D.f1 b hb).2.1 (hs₄.extBut _ _ (D.f1 b hb).2.2 e)
 have s2₅:S2 (k+1) h₅:=D2.frame _ _ _ s2₄ fun b hb o e=>hs₅.extBut _ _ (D.f2 b hb).2.1 e
 have hzlt:z<h₅.objs.size:=Heap.lt_size hz₅
 show wpAny _ _ (Builtin.SmallTypes.ownedTupleHandOut (.ref z) (.ref h₅.objs.size) >>= _) _ _ _
 refine wpAny_bind ?_
 unfold Builtin.SmallTypes.ownedTupleHandOut
 have hz₆:IsZip (h₅.push { cls:=.type "tuple", data:=.seq #[x,y] }) z TI TO .ellipsis:=Heap.get?_push_of_some _ hz₅
 refine wpAny_bind (wpAny_setField_rec hz₆ (by simp) fun h₇ hz₇ hs₇=>?_)
 replace hz₇:IsZip h₇ z TI TO (rawInt h₅.objs.size):=hz₇
 refine wpAny_setField_rec hz₇ (by simp) fun h₈ hz₈ hs₈=>?_
 replace hz₈:IsZip h₈ z TI TO (rawInt h₅.objs.size):=hz₈
 have up:∀ c o,c≠z→h₅.get? c=some o→h₈.get? c=some o:=fun c o c1 e=>hs₈.extBut _ _ c1 (hs₇.extBut _ _ c1 (Heap.get?_push_of_some _ e))
 have hT₈:IsPair h₈ h₅.objs.size x y:=hs₈.extBut _ _ (Nat.ne_of_gt hzlt) (hs₇.extBut _ _ (Nat.ne_of_gt hzlt) (Heap.get?_push_size _ rfl))
 rw [hsz] at hz₈ hT₈
 refine wpAny_pure ⟨_,rfl,?_⟩
 show Q (.ref h₅.objs.size) _
 rw [hsz]
 exact hQ x y h₈ tk₄ hx hy hz₈ (up _ _ D.TOz hTO₅) (D1.frame _ _ _ s1₅ fun b hb o e=>up _ _ (D.f1 b hb).1 e) (D2.frame _ _ _ s2₅ fun b hb o e=>up _ _ (D.f2 b hb).1 e) hT₈ fun c o c1 c2 c3 c4 e=>up c o c1 (hk₅ c o c1 c2 c3 c4 e)
theorem zip_end (D:ZA z TI TO i1 i2 fp1 fp2) (D1:Draws prog w A i1 fp1 n1 P1 S1) (D2:Draws prog w A i2 fp2 n2 P2 S2) {a b:Value} {Q:Fin→Shared→Prop}
  (hz:IsZip s.heap z TI TO .none) (hTI:IsPair s.heap TI (.ref i1) (.ref i2)) (hTO:IsPair s.heap TO a b) (s1:S1 k s.heap) (s2:S2 k s.heap) (hend:k=n1∨(k<n1∧k=n2))
  (hE:∀ h' e tk,(∀ c o,c≠z→c≠TO→c≠i1→c≠i2→s.heap.get? c=some o→h'.get? c=some o)→(∃ o,h'.get? e=some o∧o.cls=.type "StopIteration")→E (.ref e) { s with heap:=h',toks:=tk }) :
  wpAny (model prog w) A (Builtin.«zip.__next__» ⟨[.ref z],[]⟩) Q E s:=by
 show wpAny _ _ (field (.ref z) 2 >>= _) _ _ _
 refine wpAny_bind (wpAny_field hz rfl (x:=.bool false) rfl ?_)
 show wpAny _ _ (field (.ref z) 3 >>= _) _ _ _
 refine wpAny_bind (wpAny_field hz rfl (x:=.ref TI) rfl ?_)
 refine wpAny_bind (wpAny_seqItems hTI rfl ?_)
 show wpAny _ _ (Builtin.SmallTypes.ownedTupleIsFree (.ref z) >>= _) _ _ _
 refine wpAny_bind ?_
 unfold Builtin.SmallTypes.ownedTupleIsFree
 refine wpAny_bind (wpAny_field hz rfl (x:=.none) rfl (wpAny_pure ?_))
 simp only [if_true]
 refine wpAny_bind (wpAny_rule ?_)
 refine wpAny_bind (wpAny_field hz rfl (x:=.ref TO) rfl ?_)
 refine wpAny_bind (wpAny_setField_rec hz (by simp) fun h₁ hz₁ hs₁=>?_)
 replace hz₁:IsZip h₁ z TI TO .ellipsis:=hz₁
 refine wpAny_bind ?_
 simp only [List.zipIdx_cons,List.zipIdx_nil,List.forIn_cons,List.forIn_nil]
 refine wpAny_bind (wpAny_bind (wpAny_onRaise ?_))
 show wpAny _ _ (Builtin.SmallTypes.nextOf (.ref i1) >>= _) _ _ _
 have s1₁:S1 k h₁:=D1.frame _ _ _ s1 fun b hb o e=>hs₁.extBut _ _ (D.f1 b hb).1 e
 have s2₁:S2 k h₁:=D2.frame _ _ _ s2 fun b hb o e=>hs₁.extBut _ _ (D.f2 b hb).1 e
 rcases hend with rfl|⟨k1,rfl⟩
 ·refine wpAny_bind (D1.done { s with heap:=h₁ } _ _ s1₁ fun h₂ e hs₂ he=>?_)
  refine elEA (he) fun oe hoe hce=>?_
  have hz₂:IsZip h₂ z TI TO .ellipsis:=hs₂ _ _ D.i1z.symm hz₁
  have hez:e≠z:=fun x=>by subst x; rw [hz₂] at hoe; cases hoe; simp at hce
  refine wpAny_setField_rec hz₂ (by simp) fun h₃ _ hs₃=>hE h₃ e s.toks (fun c o c1 _ c3 _ x=>hs₃.extBut _ _ c1 (hs₂ _ _ c3 (hs₁.extBut _ _ c1 x))) ⟨oe,hs₃.extBut _ _ hez hoe,hce⟩
 ·refine wpAny_bind (D1.item k { s with heap:=h₁ } _ _ k1 s1₁ fun x h₂ tk₂ hx s1₂ hs₂=>wpAny_pure ?_)
  have hTO₂:IsPair h₂ TO a b:=hs₂.extBut _ _ D.TOi1 (hs₁.extBut _ _ D.TOz hTO)
  refine wpAny_bind (wpAny_seqItems (s:={ s with heap:=h₂,toks:=tk₂ }) hTO₂ rfl ?_)
  refine wpAny_bind (wpAny_updateSeq_pair (s:={ s with heap:=h₂,toks:=tk₂ }) hTO₂ fun h₃ hTO₃ hs₃=>?_)
  refine wpAny_bind (wpAny_letGo (wpAny_pure ?_))
  refine wpAny_bind (wpAny_bind (wpAny_onRaise ?_))
  show wpAny _ _ (Builtin.SmallTypes.nextOf (.ref i2) >>= _) _ _ _
  have s2₃:S2 k h₃:=D2.frame _ _ _ s2₁ fun b hb o e=>hs₃.extBut _ _ (D.f2 b hb).2.1 (hs₂.extBut _ _ (D.f2 b hb).2.2 e)
  refine wpAny_bind (D2.done { s with heap:=h₃,toks:=tk₂ } _ _ s2₃ fun h₄ e hs₄ he=>?_)
  refine elEA (he) fun oe hoe hce=>?_
  have hz₄:IsZip h₄ z TI TO .ellipsis:=hs₄ _ _ D.i2z.symm (hs₃.extBut _ _ D.TOz.symm (hs₂.extBut _ _ D.i1z.symm hz₁))
  have hez:e≠z:=fun x=>by subst x; rw [hz₄] at hoe; cases hoe; simp at hce
  refine wpAny_setField_rec (s:={ s with heap:=h₄,toks:=tk₂ }) hz₄ (by simp) fun h₅ _ hs₅=>hE h₅ e tk₂ (fun c o c1 c2 c3 c4 x=>hs₅.extBut _ _ c1 (hs₄ _ _ c4 (hs₃.extBut _ _ c2 (hs₂.extBut _ _ c3 (hs₁.extBut _ _ c1 x))))) ⟨oe,hs₅.extBut _ _ hez hoe,hce⟩
theorem next_item (D:ZA z TI TO i1 i2 fp1 fp2) (D1:∀ A:Around,A.handled=none→Draws prog w A i1 fp1 n1 P1 S1) (D2:∀ A:Around,A.handled=none→Draws prog w A i2 fp2 n2 P2 S2) (hh:A.handled=none) {a b:Value} {Q:Option Value→Shared→Prop}
  (hz:IsZip s.heap z TI TO .none) (hTI:IsPair s.heap TI (.ref i1) (.ref i2)) (hTO:IsPair s.heap TO a b) (s1:S1 k s.heap) (s2:S2 k s.heap) (k1:k<n1) (k2:k<n2)
  (hQ:∀ x y h' tk,P1 k x→P2 k y→IsZip h' z TI TO (rawInt s.heap.objs.size)→IsPair h' TO x y→S1 (k+1) h'→S2 (k+1) h'→IsPair h' s.heap.objs.size x y →
   (∀ c o,c≠z→c≠TO→c≠i1→c≠i2→s.heap.get? c=some o→h'.get? c=some o)→Q (some (.ref s.heap.objs.size)) { s with heap:=h',toks:=tk }) :
  wpAny (model prog w) A (pyNext (.ref z)) Q E s:=by
 have hT:s.TypeIs (.ref z) "zip" := ⟨_,hz,rfl⟩
 unfold pyNext
 exact wpAny_bind (wpAny_attempt (wpAny_callSpecial?_slot (name:=Str.ofString "__next__") hT F.slot_zip_next
  (wpAny_call_entry F.slot_zip_next hT F.entry_zip_next
   (zip_item D (D1 A.in1 hh) (D2 A.in1 hh) hz hTI hTO s1 s2 k1 k2 fun x y h' tk a1 a2 a3 a4 a5 a6 a7 a8=>wpAny_pure (hQ x y h' tk a1 a2 a3 a4 a5 a6 a7 a8)) (F.args_zip_next_1 _))))
theorem min_or (x y:Nat):min x y=x∨(min x y<x∧min x y=y):=(Nat.lt_or_ge y x).elim (fun h=>.inr ⟨Nat.lt_of_le_of_lt (Nat.min_le_right ..) h,Nat.min_eq_right (Nat.le_of_lt h)⟩) fun h=>.inl (Nat.min_eq_left h)
theorem next_end (D:ZA z TI TO i1 i2 fp1 fp2) (D1:∀ A:Around,A.handled=none→Draws prog w A i1 fp1 n1 P1 S1) (D2:∀ A:Around,A.handled=none→Draws prog w A i2 fp2 n2 P2 S2) (hh:A.handled=none) {a b:Value} {Q:Option Value→Shared→Prop}
  (hz:IsZip s.heap z TI TO .none) (hTI:IsPair s.heap TI (.ref i1) (.ref i2)) (hTO:IsPair s.heap TO a b) (s1:S1 k s.heap) (s2:S2 k s.heap) (hend:k=n1∨(k<n1∧k=n2))
  (hQ:∀ h' tk,(∀ c o,c≠z→c≠TO→c≠i1→c≠i2→s.heap.get? c=some o→h'.get? c=some o)→Q none { s with heap:=h',toks:=tk }) :
  wpAny (model prog w) A (pyNext (.ref z)) Q E s:=by
 have hT:s.TypeIs (.ref z) "zip" := ⟨_,hz,rfl⟩
 unfold pyNext
 refine wpAny_bind (wpAny_attempt (wpAny_callSpecial?_slot (name:=Str.ofString "__next__") hT F.slot_zip_next
  (wpAny_call_entry F.slot_zip_next hT F.entry_zip_next (zip_end D (D1 A.in1 hh) (D2 A.in1 hh) hz hTI hTO s1 s2 hend fun h' e tk hk he=>?_) (F.args_zip_next_1 _))))
 refine elEA (he) fun o ho hc=>?_
 refine wpAny_bind (wpAny_isInstance (T := "StopIteration") (b:=true) ⟨o,ho,hc⟩ isSubtype_stop ?_)
 exact wpAny_pure (hQ _ _ hk)
noncomputable abbrev zH (h:Heap) (l t:Addr):Heap:=((((h.push { cls:=.type "list_iterator", data:=.fields #[.ref l,.int 0 0] }).push { cls:=.type "tuple_iterator", data:=.fields #[.ref t,.int 0 0] }).push
 { cls:=.type "tuple", data:=.seq #[.ref h.objs.size,.ref (h.push { cls:=.type "list_iterator", data:=.fields #[.ref l,.int 0 0] }).objs.size] }).push { cls:=.type "tuple", data:=.seq #[.none,.none] })
theorem zip_new (l t:Addr) (xs ys:Array Value) :
  Meets (Builtin.«zip.__new__» ⟨[.type "zip", .ref l,.ref t],[]⟩) (fun _ R s=>s.heap.IsList l xs∧s.heap.IsTuple t ys ∧
   R (.ok (.ret (.ref (zH s.heap l t).objs.size))) { s with heap:=(zH s.heap l t).push { cls:=.type "zip", data:=.fields #[.none,.bool false,.bool false,.ref ((s.heap.push { cls:=.type "list_iterator", data:=.fields #[.ref l,.int 0 0] }).push { cls:=.type "tuple_iterator", data:=.fields #[.ref t,.int 0 0] }).objs.size,
    .ref (((s.heap.push { cls:=.type "list_iterator", data:=.fields #[.ref l,.int 0 0] }).push { cls:=.type "tuple_iterator", data:=.fields #[.ref t,.int 0 0] }).push
     { cls:=.type "tuple", data:=.seq #[.ref s.heap.objs.size,.ref (s.heap.push { cls:=.type "list_iterator", data:=.fields #[.ref l,.int 0 0] }).objs.size] }).objs.size] } }) :=
 .of_wp fun prog w A R s h=>by
  obtain ⟨hp,g,d,tk,os⟩:=s; (refine elAA (h) fun hl1 hl2 h_n=>?_; clear h; revert h_n; intro h)
  have hsub:=sub_zip
  have hL1:Heap.IsList (Shared.heap ⟨hp,g,d,tk,os⟩) l xs:=hl1
  have hL2:Heap.IsTuple (Shared.heap ⟨hp.push { cls:=.type "list_iterator", data:=.fields #[.ref l,.int 0 0] },g,d,tk,os⟩) t ys:=by
   refine elEA (hl2) fun o ho q=>?_; exact ⟨o,Heap.get?_push_of_some _ ho,q⟩
  wp_walk using wpAny_pyIter_list hL1,wpAny_pyIter_tuple hL2
  exact ⟨_,rfl,h⟩
theorem call_zip {l t:Addr} {xs ys:Array Value} {Q:Value→Shared→Prop} (hl:s.heap.IsList l xs) (ht:s.heap.IsTuple t ys)
  (h:∀ h',IsZip h' (s.heap.objs.size+4) (s.heap.objs.size+2) (s.heap.objs.size+3) .none→IsPair h' (s.heap.objs.size+2) (.ref s.heap.objs.size) (.ref (s.heap.objs.size+1)) →
   IsPair h' (s.heap.objs.size+3) .none .none→h'.IsListIter s.heap.objs.size l 0→h'.IsTupleIter (s.heap.objs.size+1) t 0 →
   (∀ c o,s.heap.get? c=some o→h'.get? c=some o)→Q (.ref (s.heap.objs.size+4)) { s with heap:=h' }) :
  wpAny (model prog w) A (call (.type "zip") [.ref l,.ref t]) Q E s:=by
 refine callType_new F.called_zip (by decide) (F.typeCall_zip_2 _ _) (F.newCall_zip_2 _ _) (fun obj=>F.args_object_init_3 obj _ _) F.entry_zip_new
  (zip_new l t xs ys) ⟨hl,ht,?_⟩
 generalize hA1:s.heap.push { cls:=.type "list_iterator", data:=.fields #[.ref l,.int 0 0] }=H1
 generalize hA2:H1.push { cls:=.type "tuple_iterator", data:=.fields #[.ref t,.int 0 0] }=H2
 generalize hA3:H2.push { cls:=.type "tuple", data:=.seq #[.ref s.heap.objs.size,.ref H1.objs.size] }=H3
 generalize hA4:H3.push { cls:=.type "tuple", data:=.seq #[.none,.none] }=H4
 generalize hA5:H4.push { cls:=.type "zip", data:=.fields #[.none,.bool false,.bool false,.ref H2.objs.size,.ref H3.objs.size] }=H5
 have z1:H1.objs.size=s.heap.objs.size+1:=by rw [← hA1,Heap.size_push]
 have z2:H2.objs.size=s.heap.objs.size+2:=by rw [← hA2,Heap.size_push,z1]
 have z3:H3.objs.size=s.heap.objs.size+3:=by rw [← hA3,Heap.size_push,z2]
 have z4:H4.objs.size=s.heap.objs.size+4:=by rw [← hA4,Heap.size_push,z3]
 have u5:∀ c o,H4.get? c=some o→H5.get? c=some o:=fun c o e=>by rw [← hA5]; exact Heap.get?_push_of_some _ e
 have u4:∀ c o,H3.get? c=some o→H5.get? c=some o:=fun c o e=>u5 c o (by rw [← hA4]; exact Heap.get?_push_of_some _ e)
 have u3:∀ c o,H2.get? c=some o→H5.get? c=some o:=fun c o e=>u4 c o (by rw [← hA3]; exact Heap.get?_push_of_some _ e)
 have u2:∀ c o,H1.get? c=some o→H5.get? c=some o:=fun c o e=>u3 c o (by rw [← hA2]; exact Heap.get?_push_of_some _ e)
 have u1:∀ c o,s.heap.get? c=some o→H5.get? c=some o:=fun c o e=>u2 c o (by rw [← hA1]; exact Heap.get?_push_of_some _ e)
 have g5:H5.get? H4.objs.size=some { cls:=.type "zip", data:=.fields #[.none,.bool false,.bool false,.ref H2.objs.size,.ref H3.objs.size] }:=by rw [← hA5]; exact Heap.get?_push_size _ rfl
 have g4:H5.get? H3.objs.size=some { cls:=.type "tuple", data:=.seq #[.none,.none] }:=u5 _ _ (by rw [← hA4]; exact Heap.get?_push_size _ rfl)
 have g3:H5.get? H2.objs.size=some { cls:=.type "tuple", data:=.seq #[.ref s.heap.objs.size,.ref H1.objs.size] }:=u4 _ _ (by rw [← hA3]; exact Heap.get?_push_size _ rfl)
 have g2:H5.get? H1.objs.size=some { cls:=.type "tuple_iterator", data:=.fields #[.ref t,.int 0 0] }:=u3 _ _ (by rw [← hA2]; exact Heap.get?_push_size _ rfl)
 have g1:H5.get? s.heap.objs.size=some { cls:=.type "list_iterator", data:=.fields #[.ref l,.int 0 0] }:=u2 _ _ (by rw [← hA1]; exact Heap.get?_push_size _ rfl)
 have e4:zH s.heap l t=H4:=by rw [← hA4,← hA3,← hA2,← hA1]
 show _∧_
 rw [z2,z3,z4] at g5
 rw [z1,z2] at g3
 rw [z3] at g4
 rw [z1] at g2
 rw [e4,hA5,z4]
 exact ⟨⟨_,g5,rfl⟩,h _ g5 g3 g4 ⟨_,g1,rfl,rfl⟩ ⟨_,g2,rfl,rfl⟩ u1⟩
end
noncomputable def isTupE (e:Expr):Prop:=∃ es k p,e=.Tuple es k p
noncomputable def ZT (z TI TO i1 i2 l t:Addr) (xs ys:Array Value) (k:Nat) (h:Heap):Prop:=IsZip h z TI TO .none∧IsPair h TI (.ref i1) (.ref i2)∧(∃ a b,IsPair h TO a b)∧(h.IsListIter i1 l k∧h.IsList l xs)∧(h.IsTupleIter i2 t k∧h.IsTuple t ys)
theorem ZA.new {n l t:Nat} (h1:l<n) (h2:t<n):ZA (n+4) (n+2) (n+3) n (n+1) [n,l] [n+1,t]:=by
 refine ⟨?_,?_,?_,?_,?_,?_,?_,?_,?_,?_,fun b hb=>?_,fun b hb=>?_⟩
 all_goals first
  | (simp only [List.mem_cons,List.not_mem_nil,or_false] at hb; rcases hb with rfl|rfl<;>(refine ⟨?_,?_,?_⟩<;>(intro e; have e:(_:Nat)=_:=e; bv_omega)))
  | (intro e; have e:(_:Nat)=_:=e; bv_omega)
theorem Walk.zip {prog:Program} {w:World} {A:Around} {F0:Fz} (hh:A.handled=none) {z TI TO i1 i2 l t:Addr} (Z:ZA z TI TO i1 i2 [i1,l] [i2,t]) (hl1:l≠i1) (ht2:t≠i2) {xs ys:Array Value} {ds es:List D} (rl:RepL w F0 ds xs.toList) (rt:RepL w F0 es ys.toList)
  (hl:F0 l≠none) (ht:F0 t≠none) (hsz:es.length≤size):WalkG isTupE prog w A F0 z (fun a=>a∈[z,TI,TO,i1,i2]) (zipL ds es) (ZT z TI TO i1 i2 l t xs ys):=by
 have D1:∀ A:Around,A.handled=none→Draws prog w A i1 [i1,l] xs.size (fun i x=>xs[i]?=some x) (fun i h=>h.IsListIter i1 l i∧h.IsList l xs):=fun A hA=>Draws.list hA i1 l hl1 xs
 have D2:∀ A:Around,A.handled=none→Draws prog w A i2 [i2,t] ys.size (fun i x=>ys[i]?=some x) (fun i h=>h.IsTupleIter i2 t i∧h.IsTuple t ys):=fun A hA=>Draws.tup hA i2 t ht2 ys
 have e1:=rl.length
 have e2:=rt.length
 simp only [Array.length_toList] at e1 e2
 have hlen:(zipL ds es).length=min xs.size ys.size:=by simp [zipL,e1,e2]
 have old:∀ {b:Addr} {h h':Heap},F0 b≠none→F0.In h→F0.In h'→∀ o,h.get? b=some o→h'.get? b=some o:=fun {b h h'} hb hin hin' o e=>by
  cases hq:F0 b with
  | none=>exact absurd hq hb
  | some o'=>have:=hin b o' hq; rw [e] at this; cases this; exact hin' b _ hq
 refine ⟨by simp,fun i h a t ha=>?_,fun i h h' t hin k hin'=>?_,fun i d tg s E hg hd st=>?_,fun s E st=>?_,fun i s Q E st hQ=>wpAny_pyIter_zip st.1 hQ⟩
 ·obtain ⟨hz,hTI,⟨a',b',hTO⟩,⟨⟨o1,h1,_⟩,_⟩,⟨⟨o2,h2,_⟩,_⟩⟩:=t
  simp only [List.mem_cons,List.not_mem_nil,or_false] at ha
  rcases ha with rfl|rfl|rfl|rfl|rfl
  ·exact ⟨_,hz⟩
  ·exact ⟨_,hTI⟩
  ·exact ⟨_,hTO⟩
  ·exact ⟨_,h1⟩
  ·exact ⟨_,h2⟩
 ·obtain ⟨hz,hTI,⟨a',b',hTO⟩,s1,s2⟩:=t
  refine ⟨k _ _ (by simp) hz,k _ _ (by simp) hTI,⟨a',b',k _ _ (by simp) hTO⟩,(D1 A hh).frame _ _ _ s1 fun b hb o e=>?_,(D2 A hh).frame _ _ _ s2 fun b hb o e=>?_⟩
  ·simp only [List.mem_cons,List.not_mem_nil,or_false] at hb
   rcases hb with rfl|rfl
   ·exact k _ _ (by simp) e
   ·exact old hl hin hin' o e
  ·simp only [List.mem_cons,List.not_mem_nil,or_false] at hb
   rcases hb with rfl|rfl
   ·exact k _ _ (by simp) e
   ·exact old ht hin hin' o e
 ·(refine elEEE (hg) fun tes tk0 tp e_3=>?_; subst e_3)
  obtain ⟨hz,hTI,⟨a',b',hTO⟩,s1,s2⟩:=st
  have hi:=(List.getElem?_eq_some_iff.mp hd).1
  rw [hlen] at hi
  refine next_item Z D1 D2 hh hz hTI hTO s1 s2 (Nat.lt_of_lt_of_le hi (Nat.min_le_left ..)) (Nat.lt_of_lt_of_le hi (Nat.min_le_right ..)) fun x y h' tk hx hy z' o' s1' s2' hp kp=>⟨_,rfl,?_⟩
  refine wpAny_letOwnedTupleGo_zip (s:={ s with heap:=h',toks:=tk }) z' fun h2 hz2 hs2=>?_
  have nT:s.heap.get? s.heap.objs.size=none:=zy4 _
  have nz:s.heap.objs.size≠z:=Nat.ne_of_gt (Heap.lt_size hz)
  have hp2:IsPair h2 s.heap.objs.size x y:=hs2.extBut _ _ nz hp
  have kp2:∀ a o,¬ a∈[z,TI,TO,i1,i2]→s.heap.get? a=some o→h2.get? a=some o:=fun a o ha e=>by
   simp only [List.mem_cons,List.not_mem_nil,or_false,not_or] at ha
   exact hs2.extBut _ _ ha.1 (kp a o ha.1 ha.2.2.1 ha.2.2.2.1 ha.2.2.2.2 e)
  refine ⟨h2,tk,rfl,⟨hz2,hs2.extBut _ _ Z.TIz (kp _ _ Z.TIz Z.TITO Z.TIi1 Z.TIi2 hTI),⟨x,y,hs2.extBut _ _ Z.TOz o'⟩,(D1 A hh).frame _ _ _ s1' fun b hb o e=>hs2.extBut _ _ (Z.f1 b hb).1 e,(D2 A hh).frame _ _ _ s2' fun b hb o e=>hs2.extBut _ _ (Z.f2 b hb).1 e⟩,kp2,fun F le hin hW=>?_⟩
  have fT:F s.heap.objs.size=none:=by
   cases e:F s.heap.objs.size with
   | none=>rfl
   | some o=>have:=hin _ _ e; rw [nT] at this; cases this
  have hinF:F.In h2:=fun a o e=>kp2 a o (fun ha=>by rw [hW a ha] at e; cases e) (hin a o e)
  refine ⟨F.add s.heap.objs.size (tobj #[x,y] 0),Fz.le_add _ fT,Fz.in_add hinF hp2,fun a e=>?_,?_⟩
  ·by_cases ha:a=s.heap.objs.size
   ·exact .inr (ha▸nT)
   ·left; rwa [Fz.add_other F _ ha] at e
  ·have hle:F0.le (F.add s.heap.objs.size (tobj #[x,y] 0)):=Fz.le.trans le (Fz.le_add _ fT)
   rw [zipL,List.getElem?_map] at hd
   (refine elEA (Option.map_eq_some_iff.mp hd) fun p hp' e_2=>?_; subst e_2)
   obtain ⟨q1,q2⟩:=List.getElem?_zip_eq_some.mp hp'
   refine elEA (rl.get q1) fun u hu ru=>?_
   refine elEA (rt.get q2) fun v hv rv=>?_
   simp at hu hv
   rw [hx] at hu; cases hu
   rw [hy] at hv; cases hv
   simp only [Rep]
   exact ⟨by simp only [List.length_cons,List.length_nil]; unfold size; decide,s.heap.objs.size,#[x,y],0,rfl,Fz.add_self ..,RepL.cons_ (Rep.mono hle _ ru) (RepL.cons_ (Rep.mono hle _ rv) RepL.nil_)⟩
 ·obtain ⟨hz,hTI,⟨a',b',hTO⟩,s1,s2⟩:=st
  rw [hlen] at s1 s2
  refine next_end Z D1 D2 hh hz hTI hTO s1 s2 (min_or ..) fun h' tk kp=>⟨rfl,h',tk,rfl,fun a o ha e=>?_⟩
  simp only [List.mem_cons,List.not_mem_nil,or_false,not_or] at ha
  exact kp a o ha.1 ha.2.2.1 ha.2.2.2.1 ha.2.2.2.2 e
theorem asTup_some {d:D} {l:List D} (h:asTup d=some l):d=.tuple l:=by
 cases d<;>first|(exact (noS h).elim)|(cases h; rfl)
theorem asL_some {d:D} {l:List D} (h:asList d=some l):d=.list l:=by
 cases d<;>first|(exact (noS h).elim)|(cases h; rfl)
section
variable {C:Cx} {Γ:Mini.Env} {N:Nat} {n:Nat} {sc:Scope} {ν:Nu}
theorem PWg.zip (G:Ground C Γ N) {a b:I} {ea eb:Expr} {px p:Pos} (hg:zw5 sc ν "zip" = true) (ha:PE C Γ N a n sc ν ea) (hb:PE C Γ N b n sc ν eb) (h1:okE ea=true) (h2:okE eb=true):PWg C Γ N isTupE (.zip a b) n sc ν (.Call (.Name "zip" px) [ea,eb] [] p):=by
 intro env P vs σ σ' X F s A E ds K S hv
 refine bK3 (hv) fun d f σ1 he hv=>?_
 refine bK3 (he) fun x' fx σ2 hx he=>?_
 refine bK1 (he) fun x hxi he=>?_
 refine bK3 (he) fun y' fy σ3 hy he=>?_
 refine bK1 (he) fun y hyi he=>?_
 obtain rfl:=asL_some hxi
 obtain rfl:=asTup_some hyi
 cases he
 cases hv
 refine PyProof.Rows.Call_ (zk8 (v:=.type "zip") G K.O S hg (by decide) ?_)
 refine PyProof.Rows.callWith_type1 (PyProof.Rows.args_cons (wpM (ha.frozen K S hx) (fun v s₁ q=>PyProof.Rows.args_cons ?_ (zv4 h2))) (zv4 h1)) (zv4 h1) (by rw [zv4 h2]; rfl)
 obtain ⟨F1,st,r⟩:=q
 refine wpM (hb.frozen K st.st hy) (fun u s₂ q=>PyProof.Rows.args_nil ?_)
 obtain ⟨F2,st2,r2⟩:=q
 have r1:=Rep.mono st2.le _ r
 simp only [Rep] at r1 r2
 (refine elAEEEEAAAA (r1) fun hz1 l ob ws m e_5 hF1 hcl hdt r1_n=>?_; clear r1; revert r1_n; intro r1; subst e_5)
 (refine elAEEEAA (r2) fun hz2 t us m2 e_4 hF2 r2_n=>?_; clear r2; revert r2_n; intro r2; subst e_4)
 have hl1:=st2.st.sub _ _ hF1
 have hl2:=st2.st.sub _ _ hF2
 have b1:=Heap.lt_size hl1
 have b2:=Heap.lt_size hl2
 refine call_zip (xs:=ws) (ys:=us) ⟨_,hl1,hcl,_,hdt⟩ ⟨_,hl2,rfl,_,rfl⟩ fun h' hz hTI hTO hi1 hi2 keep=>?_
 have st3:=Step.grow (tk:=s₂.toks) st2.st keep
 have t0:ZT (s₂.heap.objs.size+4) (s₂.heap.objs.size+2) (s₂.heap.objs.size+3) s₂.heap.objs.size (s₂.heap.objs.size+1) l t ws us 0 h' :=
  ⟨hz,hTI,⟨_,_,hTO⟩,⟨hi1,⟨_,keep _ _ hl1,hcl,_,hdt⟩⟩,⟨hi2,⟨_,keep _ _ hl2,rfl,_,rfl⟩⟩⟩
 refine wpAny_pyIter_zip (s:={ s₂ with heap:=h' }) hz ?_
 refine ⟨F2,_,_,_,rfl,(st.trans st2).trans st3,Walk.zip K.R.handled (ZA.new b1 b2) (Nat.ne_of_lt b1) (Nat.ne_of_lt (Nat.lt_succ_of_lt b2)) r1 r2 (by rw [hF1]; exact fun x=>nomatch x) (by rw [hF2]; exact fun x=>nomatch x) hz2,t0,?_,fun b hb=>?_⟩
 ·simp only [zipL,List.length_map,List.length_zip]; exact Nat.le_trans (Nat.min_le_left ..) hz1
 ·have:s₂.heap.get? b=none:=by
   cases e:s₂.heap.get? b with
   | none=>rfl
   | some o =>
    have hlt:(b:Nat)<s₂.heap.objs.size:=Heap.lt_size e
    have hge:s₂.heap.objs.size≤(b:Nat):=by
     simp only [List.mem_cons,List.not_mem_nil,or_false] at hb
     rcases hb with rfl|rfl|rfl|rfl|rfl
     ·exact Nat.le_add_right _ _
     ·exact Nat.le_add_right _ _
     ·exact Nat.le_add_right _ _
     ·exact Nat.le_refl _
     ·exact Nat.le_add_right _ _
    exact absurd hlt (Nat.not_lt.mpr hge)
  exact st2.st.nob_new this
end
end Snd
end
section
namespace Snd
open PySem Mini
section
variable {C:Cx} {X W:Addr→Prop} {F F':Fz} {h h':Heap} {P:List Place} {vs:List (Option Value)} {σ:Sg}
theorem St.change2 (S:St C X F h P vs σ) (keep:∀ a o,¬ W a→h.get? a=some o→h'.get? a=some o) (hW:∀ a,W a→Nob C X F P vs σ a) (l:F.le F') (hin:F'.In h') (hnew:∀ a,F' a≠none→F a≠none∨h.get? a=none):St C X F' h' P vs σ:=by
 have S1:St C X F h' P vs σ:=S.change keep hW
 have hno:∀ a o,h.get? a=some o→F a=none→F' a=none:=fun a o e q=>by
  cases hq:F' a with
  | none=>rfl
  | some o' =>
   rcases hnew a (by rw [hq]; exact fun x=>nomatch x) with q'|q'
   ·exact absurd q q'
   ·rw [q'] at e; cases e
 exact {
  sub:=hin
  low:=Fz.le.trans S.low l
  base:=S1.base
  cov:=cov_mono l S.cov
  xf:=fun a e=>let ⟨o,ho⟩:=S.xal a e; hno a o ho (S.xf a e)
  xal:=S1.xal
  lenP:=S.lenP
  lenS:=S.lenS
  has:=S1.has
  slot:=fun i ov av e1 e2=>(S1.slot i ov av e1 e2).mono l fun a d q1 q2=>by
   subst q1 q2
   refine elEAA (S.slot i _ _ e1 e2) fun a' e' r q=>?_
   cases e'
   obtain ⟨o,ho⟩:=q.there
   exact ⟨hno a o ho r,fun o e=>e⟩
  nodup:=S.nodup
  cont:=fun p hp=>by
   obtain ⟨i,hi⟩:=List.mem_iff_getElem?.mp hp
   refine elEA (S.placeAt hi) fun ov _ hh=>?_
   obtain ⟨o,ho⟩:=Place.has_there hh
   exact ⟨hno _ o ho (S.cont p hp).1,(S.cont p hp).2⟩
  own:=S.own
  inj:=S.inj }
theorem St.forget (S:St C X F h P vs σ) {τ:Sg} (hl:τ.length=σ.length) (ht:∀ (k:Nat) av,τ[k]?=some av→σ[k]?=some av∨av=none):St C X F h P vs τ:=by
 have hsub:∀ k a,zs2 vs τ k a→zs2 vs σ k a:=fun k a ⟨h1,d,h2⟩=>⟨h1,d,(ht k _ h2).resolve_right (fun x=>nomatch x)⟩
 exact {
  sub:=S.sub
  low:=S.low
  base:=S.base
  cov:=S.cov
  xf:=S.xf
  xal:=S.xal
  lenP:=S.lenP
  lenS:=hl.trans S.lenS
  has:=S.has
  slot:=fun i ov av e1 e2=>by
   rcases ht i av e2 with q|rfl
   ·exact S.slot i ov av e1 q
   ·exact trivial
  nodup:=S.nodup
  cont:=S.cont
  own:=fun k a ho=>S.own k a (hsub k a ho)
  inj:=fun i j a hi hj=>S.inj i j a (hsub i a hi) (hsub j a hj) }
end
set_option tactic.hygienic true in
theorem closure_ok {env:PySem.Env} {csc:Scope} (h:∀ p∈csc.names,p.2=.free→∃ c,env.cells.lookup p.1=some c) :
  ∃ cl,closureFor csc env=pure cl∧∀ x,(x,NameKind.free)∈csc.names→cl.lookup x=env.cells.lookup x:=by
 have gen:∀ (names:List (Str×NameKind)),(∀ p∈names,p.2=.free→∃ c,env.cells.lookup p.1=some c)→∀ acc:List (Str×Addr),(∀ x c,acc.lookup x=some c→env.cells.lookup x=some c) →
   ∃ cl,(forIn names acc fun p r=>if (p.2==NameKind.free)=true then do let a ← cellOf env p.1; pure (ForInStep.yield ((p.1,a)::r)) else pure (ForInStep.yield r):Sem (List (Str×Addr)))=pure cl ∧
    (∀ x c,cl.lookup x=some c→env.cells.lookup x=some c)∧∀ x,((x,NameKind.free)∈names∨(acc.lookup x).isSome)→(cl.lookup x).isSome:=by
  intro names
  induction names with
  | nil=>exact fun _ acc ha=>⟨acc,by simp,ha,fun x hx=>hx.resolve_left (by simp)⟩
  | cons p r ih =>
   intro hp acc ha
   by_cases hk:p.2=.free
   ·obtain ⟨c,hc⟩:=hp p List.mem_cons_self hk
    refine elEAA (ih (fun q hq=>hp q (List.mem_cons_of_mem _ hq)) ((p.1,c)::acc) (fun x c' hx=>by
     rw [List.lookup_cons] at hx
     split at hx
     ·rename_i hb; cases hx; rw [eq_of_beq hb]; exact hc
     ·exact ha x c' hx)) fun cl e1 e2 e3=>?_
    refine ⟨cl,?_,e2,fun x hx=>e3 x ?_⟩
    ·rw [List.forIn_cons]
     have:cellOf env p.1=pure c:=by unfold cellOf; rw [hc]
     simp only [hk,beq_self_eq_true,if_true,this]
     exact e1
    ·rcases hx with hx|hx
     ·rcases List.mem_cons.mp hx with e|hx
      ·right; rw [← e]; simp [List.lookup_cons]
      ·exact .inl hx
     ·right
      rw [List.lookup_cons]
      split
      ·rfl
      ·exact hx
   ·refine elEAA (ih (fun q hq=>hp q (List.mem_cons_of_mem _ hq)) acc ha) fun cl e1 e2 e3=>?_
    refine ⟨cl,?_,e2,fun x hx=>e3 x ?_⟩
    ·rw [List.forIn_cons]
     have:(p.2==NameKind.free)=false:=by simpa using hk
     simp only [this,Bool.false_eq_true,if_false]
     exact e1
    ·rcases hx with hx|hx
     ·rcases List.mem_cons.mp hx with e|hx
      ·rw [← e] at hk; exact absurd rfl hk
      ·exact .inl hx
     ·exact .inr hx
 refine elEAA (gen csc.names h [] (by simp)) fun cl e1 e2 e3=>?_
 refine ⟨cl,?_,fun x hx=>?_⟩
 ·have e0:closureFor csc env=(forIn csc.names ([]:List (Str×Addr)) fun p r=>if (p.2==NameKind.free)=true then do let a ← cellOf env p.1; pure (ForInStep.yield ((p.1,a)::r)) else pure (ForInStep.yield r)) >>= fun cs=>pure cs:=rfl
  rw [e0,e1]
  rfl
 ·have:=e3 x (.inl hx)
  obtain ⟨c,hc⟩:=Option.isSome_iff_exists.mp this
  rw [hc,e2 x c hc]
theorem zl3 {env:PySem.Env}:∀ (names:List (Str×NameKind)) (x:Str),
  (names.map fun (n,k)=>if (k==NameKind.free&&env.scope.kind==.function&&env.kindOf n==some .cell) then (n,NameKind.cell) else (n,k)).lookup x =
   (names.lookup x).map fun k=>if (k==NameKind.free&&env.scope.kind==.function&&env.kindOf x==some .cell) then NameKind.cell else k
 | [],_=>rfl
 | (n,k)::r,x=>by
  have ih:=zl3 (env:=env) r x
  show List.lookup x ((if (k==NameKind.free&&env.scope.kind==.function&&env.kindOf n==some .cell)=true then (n,NameKind.cell) else (n,k))::_)=_
  cases hx:x==n with
  | true =>
   have hx':x=n:=eq_of_beq hx
   subst hx'
   by_cases hc:(k==NameKind.free&&env.scope.kind==.function&&env.kindOf x==some .cell)=true
   ·rw [if_pos hc]; simp only [List.lookup_cons,beq_self_eq_true,Option.map_some]; rw [if_pos hc]
   ·rw [if_neg hc]; simp only [List.lookup_cons,beq_self_eq_true,Option.map_some]; rw [if_neg hc]
  | false =>
   by_cases hc:(k==NameKind.free&&env.scope.kind==.function&&env.kindOf n==some .cell)=true
   ·rw [if_pos hc]; simp only [List.lookup_cons,hx]; exact ih
   ·rw [if_neg hc]; simp only [List.lookup_cons,hx]; exact ih
section
variable {sc csc:Scope} {ν:Nu} {env:PySem.Env} {P:List Place} {n:Nat} {x:Str} {cl:List (Str×Addr)} {B:Addr}
structure CompOk (outer:Scope) (ν:Nu) (xs:List Str) (csc:Scope):Prop where
 kind:csc.kind=.function
 loc:∀ x∈xs,csc.names.lookup x=some .local∧zk1 x=true
 cell:∀ p∈csc.names,p.2≠.cell
 look:∀ p∈csc.names,csc.names.lookup p.1=some p.2
 free:∀ p∈csc.names,p.2=.free→outer.names.lookup p.1=some .cell
theorem zi8 {outer:Scope} {xs:List Str} (h:zk4 outer ν xs csc=true):CompOk outer ν xs csc:=by
 unfold zk4 at h
 simp only [Bool.and_eq_true,beq_iff_eq,List.all_eq_true,bne_iff_ne,ne_eq,Bool.or_eq_true] at h
 obtain ⟨⟨h1,h2⟩,h3⟩:=h
 refine ⟨h1,fun x hx=>⟨(h2 x hx).1.1,(h2 x hx).1.2⟩,fun p hp=>(h3 p hp).1.1.1,fun p hp=>(h3 p hp).1.2,fun p hp hf=>?_⟩
 rcases (h3 p hp).2 with q|q
 ·exact absurd hf q
 ·exact q.1.1
set_option tactic.hygienic true in
theorem mem_of_lookup {α β:Type} [BEq α] [LawfulBEq α]:∀ {l:List (α×β)} {a:α} {b:β},l.lookup a=some b→(a,b)∈l
 | (a',b')::l,a,b,h=>by
  rw [List.lookup_cons] at h
  split at h
  ·rename_i e; cases h; rw [eq_of_beq e]; exact List.mem_cons_self
  ·exact List.mem_cons_of_mem _ (mem_of_lookup h)
theorem idx_get {xs:List Str} {y:Str} {i:Nat} (h:xs.idxOf? y=some i):xs[i]?=some y:=by
 unfold List.idxOf? at h
 refine elEA (List.findIdx?_eq_some_iff_getElem.mp h) fun hi he _=>?_
 rw [List.getElem?_eq_getElem hi,eq_of_beq he]
set_option tactic.hygienic true in
theorem comp_env {xs:List Str} (O:EnvOk env sc ν P) (hn:n=P.length) (K:CompOk sc ν xs csc) (hcl:∀ y,(y,NameKind.free)∈csc.names→cl.lookup y=env.cells.lookup y) :
  EnvOk (compEnvC csc cl B env) csc (zw4 n ν xs csc) (P++xs.map (.loc B)) where
 kind:=by simp [compEnvC,relabel,K.kind]
 glob:=O.glob
 blt:=O.blt
 slot:=fun y k hk=>by
  unfold zw4 at hk
  cases hi:xs.idxOf? y with
  | some i =>
   rw [hi] at hk
   have hk:n+i=k:=Option.some.inj hk
   subst hk
   have hg:=idx_get hi
   left
   refine ⟨lookup_relabel_local (K.loc _ (List.mem_of_getElem? hg)).1,?_⟩
   rw [hn,List.getElem?_append_right (Nat.le_add_right _ _),Nat.add_sub_cancel_left,List.getElem?_map,hg]
   simp [compEnvC]
  | none =>
   rw [hi] at hk
   simp only [beq_iff_eq] at hk
   split at hk
   ·rename_i hf
    right
    have hm:=mem_of_lookup hf
    have hc:=O.cell y (K.free _ hm rfl)
    refine ⟨.inl ?_,?_⟩
    ·show (relabel csc env).names.lookup y=_
     unfold relabel
     rw [zl3,hf]
     simp [O.kind,hc.1]
    ·rcases O.slot y k hk with ⟨q,_⟩|⟨_,c,q1,q2⟩
     ·rw [hc.1] at q; cases q
     ·refine ⟨c,(hcl y hm).trans q1,?_⟩
      rw [List.getElem?_append_left (List.getElem?_eq_some_iff.mp q2).1]; exact q2
   ·cases hk
 gl:=fun y hy=>by
  show (relabel csc env).names.lookup y=_
  unfold relabel
  rw [zl3,hy]
  simp
 cell:=fun y hy=>absurd rfl (K.cell _ (mem_of_lookup hy))
end
section
variable {C:Cx} {Γ:Mini.Env} {N:Nat}
noncomputable abbrev vals (ws:List D):Sg:=ws.map fun x=>some (.val x)
theorem compB_cons {n:Nat} {bc:D→Option (List D)} {cond:Sg→Option (D×Sg)} {elt:Ev} {d:D} {r:List D} {σ σ':Sg} {xs:List D} (h:zj2 n bc cond elt (d::r) σ=some (xs,σ')) :
  ∃ ws c σ1,bc d=some ws∧cond (σ++vals ws)=some (c,σ1)∧((zx5 c=some false∧zj2 n bc cond elt r (σ1.take n)=some (xs,σ')) ∨
   (zx5 c=some true∧∃ x f σ2 ys,elt σ1=some (x,f,σ2)∧zj2 n bc cond elt r (σ2.take n)=some (ys,σ')∧xs=x::ys)):=by
 refine bK1 (h) fun ws hw h=>?_
 refine bK2 (h) fun c σ1 hc h=>?_
 refine bK1 (h) fun b hb h=>?_
 refine ⟨ws,c,σ1,hw,hc,?_⟩
 cases b with
 | false=>exact .inl ⟨hb,h⟩
 | true =>
  refine bK3 (h) fun x f σ2 he h=>?_
  refine bK2 (h) fun ys σ3 hr h=>?_
  refine sm2 h ?_
  exact .inr ⟨hb,x,f,σ2,ys,he,hr,rfl⟩
noncomputable def PC (C:Cx) (Γ:Mini.Env) (N:Nat) (i:I) (n:Nat) (sc:Scope) (ν:Nu) (ifs:List Expr):Prop:=∀ {env:PySem.Env} {P:List Place} {vs:List (Option Value)} {σ σ':Sg} {X:Addr→Prop} {F:Fz} {s:Shared} {A:Around} {E:Value→Shared→Prop} {c:D} {b:Bool},
 Cn Γ N env sc ν P n A→St C X F s.heap P vs σ→zp5 i (ev Γ i) σ=some (c,σ')→zx5 c=some b →
  wpAny (model C.prog C.w) A (forIn ifs true fun c r=>if r=true then do let ok ← isTrue c env (eval c env); pure (ForInStep.yield ok) else pure (ForInStep.yield r)) (PostB C X P vs F s σ' b) E s
theorem PC.none {n:Nat} {sc:Scope} {ν:Nu}:PC C Γ N .omit n sc ν []:=by
 intro env P vs σ σ' X F s A E c b K S hv hb
 cases hv
 cases hb
 exact wpAny_tests_nil ⟨rfl,F,Step.refl S⟩
theorem condE_of {i:I} (h:isOmit i=false) (e:Ev) (σ:Sg):zp5 i e σ=(e σ).bind fun p=>some (p.1,p.2.2):=by
 unfold zp5; rw [h]; rfl
theorem PC.one {n:Nat} {sc:Scope} {ν:Nu} {i:I} {e:Expr} (h0:isOmit i=false) (h:PT C Γ N i n sc ν e):PC C Γ N i n sc ν [e]:=by
 intro env P vs σ σ' X F s A E c b K S hv hb
 rw [condE_of h0] at hv
 refine bK3 (hv) fun d f σ1 he hv=>?_
 cases hv
 exact wpAny_tests_one (h K S (ev_uno he) hb)
noncomputable abbrev nones (m:Nat):Sg:=List.replicate m none
theorem take_forget {σ:Sg} {n m:Nat} (h:σ.length=n+m):(σ.take n++nones m).length=σ.length∧∀ (k:Nat) av,(σ.take n++nones m)[k]?=some av→σ[k]?=some av∨av=none:=by
 have hl:(List.take n σ).length=n:=by rw [List.length_take,h]; exact Nat.min_eq_left (Nat.le_add_right ..)
 refine ⟨by rw [List.length_append,hl,h]; simp,fun k av e=>?_⟩
 by_cases hk:k<n
 ·rw [List.getElem?_append_left (by bv_omega),List.getElem?_take_of_lt hk] at e; exact .inl e
 ·rw [List.getElem?_append_right (by bv_omega)] at e
  exact .inr (List.mem_replicate.mp (List.mem_of_getElem? e)).2
theorem take_left {σ:Sg} {n:Nat} {τ:Sg} (h:σ.length=n):(σ++τ).take n=σ:=by subst h; exact List.take_left
noncomputable def PBc (C:Cx) (bc:D→Option (List D)) (n:Nat) (xs:List Str) (csc:Scope) (ν:Nu) (tg:Expr):Prop:=∀ {cenv:PySem.Env} {P:List Place} {vs ov:List (Option Value)} {σ:Sg} {X:Addr→Prop} {F:Fz} {s:Shared} {A:Around} {E:Value→Shared→Prop} {d:D} {ws:List D} {v:Value},
 A.handled=none→EnvOk cenv csc (zw4 n ν xs csc) P→(∀ x∈xs,cenv.kindOf x=some .local)→vs.length=n→σ.length=n→ov.length=xs.length→St C X F s.heap P (vs++ov) (σ++nones xs.length)→Rep C.w F d v→bc d=some ws →
  wpAny (model C.prog C.w) A (assign tg cenv v) (fun _ s'=>∃ ov',ov'.length=xs.length∧Step C X P (vs++ov') F s (σ++vals ws) F s') E s
noncomputable def NxC (M:Model) (A:Around) (E:Value→Shared→Prop) (tg:Expr) (it:Value) (V:Value→Shared→Prop) (Z:Shared→Prop) (r:Option Value) (s:Shared):Prop:=match r with
 | none=>Z s
 | some v=>wpAny M A (letOwnedTupleGo tg it v) (fun _ s₀=>V v s₀) E s
inductive ItemOk (C:Cx) (X W W':Addr→Prop) (T:Nat→Heap→Prop) (P:List Place) (vs:List (Option Value)) (F:Fz) (s:Shared) (σ:Sg) (i:Nat) (d:D) (v:Value) (s₀:Shared):Prop
 | mk (F2:Fz) (h':Heap) (tk:Nat) (e:s₀={ s with heap:=h',toks:=tk }) (t:T (i+1) h') (le:F.le F2) (S:St C (Or' X W') F2 h' P vs σ) (same:XSame X s.heap h') (rv:Rep C.w F2 d v) (keep:∀ a o,¬ W a→s.heap.get? a=some o→h'.get? a=some o)
theorem walk_item {gt:Expr→Prop} {A:Around} {E:Value→Shared→Prop} {F₂ F:Fz} {J:Addr} {X W W':Addr→Prop} {ds:List D} {T:Nat→Heap→Prop} {P:List Place} {vs:List (Option Value)} {s:Shared} {σ:Sg} {i:Nat} {d:D} {tg:Expr} {V:Value→Shared→Prop} {Z:Shared→Prop}
  (hW:WalkG gt C.prog C.w A F₂ J W ds T) (hg:gt tg) (hsub:∀ a,W a→W' a) (hW':∀ a,W' a→¬ X a∧C.H.get? a=none) (le:F₂.le F) (hcov:∀ a o,C.H.get? a=some o→X a∨F a≠none) (S:St C (Or' X W') F s.heap P vs σ) (t:T i s.heap) (hd:ds[i]?=some d)
  (k:∀ v s₀,ItemOk C X W W' T P vs F s σ i d v s₀→V v s₀):wpAny (model C.prog C.w) A (pyNext (.ref J)) (NxC (model C.prog C.w) A E tg (.ref J) V Z) E s:=by
 have S0:=S.release hcov
 refine wpM (hW.item i d tg s E hg hd t) fun r s₁ q=>?_
 refine elEA q fun v e q'=>?_
 rw [e]
 refine wpM q' fun _ s₀ q=>?_
 refine elEEAAA q fun h' tk' e t' keep hF=>?_
 refine elEAAA (hF F le S.sub fun a ha=>S.xf a (.inr (hsub a ha))) fun F2 le2 hin2 hnew2 rv=>k v s₀ ⟨F2,h',tk',e,t',le2,?_,?_,rv,keep⟩
 ·refine (S0.change2 keep (fun a ha=>Nob.back S (hsub a ha) (hW' a (hsub a ha)).1 (hW' a (hsub a ha)).2) le2 hin2 hnew2).protect fun a ha=>?_
  have q:=Nob.back S ha (hW' a ha).1 (hW' a ha).2
  refine (S.xal a (.inr ha)).elim fun o ho=>⟨q.mono ?_,?_⟩
  ·cases hq:F2 a with
   | none=>rfl
   | some o' =>
    exact (hnew2 a (by rw [hq]; exact fun x=>nomatch x)).elim (fun q'=>absurd q.f q') fun q'=>(noS (q'.symm.trans ho)).elim
  ·by_cases hw:W a
   ·exact hW.alive (i+1) _ a t' hw
   ·exact ⟨o,keep a o hw ho⟩
 ·exact fun a e=>(S0.xal a e).elim fun o ho=>(keep a o (fun hw=>(hW' a (hsub a hw)).1 e) ho).trans ho.symm
theorem walk_done {gt:Expr→Prop} {A:Around} {E:Value→Shared→Prop} {F₂:Fz} {J:Addr} {W:Addr→Prop} {ds:List D} {T:Nat→Heap→Prop} {s:Shared} {tg:Expr} {V:Value→Shared→Prop} {Z:Shared→Prop} (hW:WalkG gt C.prog C.w A F₂ J W ds T) (t:T ds.length s.heap)
  (k:∀ h' tk,(∀ a o,¬ W a→s.heap.get? a=some o→h'.get? a=some o)→Z { s with heap:=h',toks:=tk }):wpAny (model C.prog C.w) A (pyNext (.ref J)) (NxC (model C.prog C.w) A E tg (.ref J) V Z) E s:=by
 refine wpM (hW.done s E t) fun r s₁ q=>elAEEA q fun e h' tk e2 keep=>?_
 rw [e,e2]
 exact k h' tk keep
section
variable (M:Model) (A:Around) (E:Value→Shared→Prop) (tg ee:Expr) (ifs:List Expr) (env:PySem.Env) (it acc:Value) (Q:Shared→Prop)
noncomputable def CkT (ok:Bool) (s:Shared):Prop:=bif ok then wpAny M A (eval ee env) (fun x s₄=>wpAny M A (call (.builtin "list.append") [acc,x]) (fun _ s₅=>Q s₅) E s₄) E s else Q s
noncomputable def CkA (_:Unit) (s:Shared):Prop:=wpAny M A (forIn ifs true fun c r=>if r=true then do let ok ← isTrue c env (eval c env); pure (ForInStep.yield ok) else pure (ForInStep.yield r)) (CkT M A E ee env acc Q) E s
noncomputable def CkV (v:Value) (s:Shared):Prop:=wpAny M A (assign tg env v) (CkA M A E ee ifs env acc Q) E s
end
theorem compLoop_go {prog:Program} {w:World} {A:Around} {R:Result→Shared→Prop} {s:Shared} {elt target iter:Expr} {ifs:List Expr} {scope:Scope} {pos:Pos} {it acc:Value} {env:PySem.Env} (I:Nat→Shared→Prop)
  (turn:∀ E n s,I n s→wpAny (model prog w) A (pyNext it) (NxC (model prog w) A E target it (CkV (model prog w) A E target elt ifs env acc fun s₅=>∃ m,m<n∧I m s₅) fun s₁=>R (.ok .next) s₁) E s)
  (n:Nat) (h:I n s) :
  codeAny (model prog w) A (.compLoop (.ListComp elt [⟨target,iter,ifs,0⟩] scope pos) 0 it acc env) R s:=by
 refine codeAny_loop rfl I (fun n s hI=>?_) n h
 show wpAny _ A ((compTurn (.ListComp elt [⟨target,iter,ifs,0⟩] scope pos) 0 it acc env).onRaise (fun x=>do noteFrame x env; theTreesLotGoes x)) _ _ s
 refine wpAny_noted ?_
 rw [compTurn_list]
 refine wpAny_bind (wpAny_standAt (wpAny_bind (wpAny_mono (turn _ n s hI) (fun r s₁ h₁=>?_) fun _ _ h'=>h')))
 cases r with
 | none=>exact wpAny_pure h₁
 | some v =>
  refine wpAny_bind (wpAny_mono h₁ (fun _ s₀ h₀=>wpAny_bind (wpAny_mono h₀ (fun _ s₂ h₂=>wpAny_bind (wpAny_mono h₂ (fun ok s₃ h₃=>?_) fun _ _ h'=>h')) fun _ _ h'=>h')) fun _ _ h'=>h')
  cases ok with
  | false=>exact wpAny_pure ⟨rfl,h₃⟩
  | true =>
   exact wpAny_bind (wpAny_bind (wpAny_mono h₃ (fun x s₄ h₄=>wpAny_bind (wpAny_mono h₄ (fun _ s₅ h₅=>wpAny_pure (wpAny_pure ⟨rfl,h₅⟩)) fun _ _ h'=>h')) fun _ _ h'=>h'))
inductive CompInv (C:Cx) (Γ:Mini.Env) (X W':Addr→Prop) (T:Nat→Heap→Prop) (P:List Place) (vs:List (Option Value)) (F₂:Fz) (s:Shared) (ds xs:List D) (Dn:Addr) (n m0:Nat) (bc:D→Option (List D)) (cond elt:I) (σ':Sg) (k:Nat) (s':Shared):Prop
 | mk (F':Fz) (i:Nat) (σi:Sg) (ov:List (Option Value)) (hov:ov.length=m0) (done rest:List D) (ys:Array Value) (m:Nat) (ek:k=ds.length+1 - i) (hi:i≤ds.length) (es:∃ h' tk,s'={ s with heap:=h',toks:=tk }) (le:F₂.le F') (same:XSame X s.heap s'.heap)
  (S:St C (Or' X W') F' s'.heap P (vs++ov) (σi++nones m0)) (t:T i s'.heap) (hacc:s'.heap.get? Dn=some (lobj ys m)) (rd:RepL C.w F' done ys.toList)
  (hc:zj2 n bc (zp5 cond (ev Γ cond)) (ev Γ elt) (ds.drop i) σi=some (rest,σ')) (hdone:done++rest=xs)
theorem comp_block {n:Nat} {sc csc:Scope} {ν:Nu} {env:PySem.Env} {P:List Place} {vs:List (Option Value)} {σ₂ σ':Sg} {X:Addr→Prop} {F F₂:Fz} {s s₂:Shared} {A:Around} {E:Value→Shared→Prop} {ds xs:List D}
  {elt cond:I} {ee it:Expr} {ifs:List Expr} {nm:List Str} {tg:Expr} {bc:D→Option (List D)} {pos:Pos} {cl:List (Str×Addr)} {J:Addr} {W:Addr→Prop} {T:Nat→Heap→Prop} {RR:Value→Addr→Result→Shared→Prop}
  (hBc:PBc C bc n nm csc ν tg) (hnm:nm.Nodup) (hne:nm≠[]) (hE:PE C Γ N elt (n+nm.length) csc (zw4 n ν nm csc) ee) (hT:PC C Γ N cond (n+nm.length) csc (zw4 n ν nm csc) ifs)
  (K:CompOk sc ν nm csc) (hcl:∀ y,(y,NameKind.free)∈csc.names→cl.lookup y=env.cells.lookup y) (KN:Cn Γ N env sc ν P n A)
  (st:Step C X P vs F s σ₂ F₂ s₂) (hW:Walk C.prog C.w A F₂ J W ds T) (ht:T 0 s₂.heap) (hz:ds.length≤size) (hnob:∀ a,W a→Nob C X F₂ P vs σ₂ a)
  (hv:zj2 n bc (zp5 cond (ev Γ cond)) (ev Γ elt) ds σ₂=some (xs,σ')) (hzx:xs.length≤size)
  (hRR:∀ B Dn F' s' m,Step C X P vs F s σ' F' s'→Nob C X F' P vs σ' B→B≠Dn→s'.heap.Ns B m→ResOk C.w X F' s'.heap P vs σ' (.ref Dn) (.list xs) true→RR (.ref Dn) B (.ok .next) s') :
  wpAny (model C.prog C.w) A (newList []) (fun acc s₃=>wpAny (model C.prog C.w) A (newFunctionEnv csc env.globals cl [] env.qual none .none (some env)) (fun cenv s₄ =>
   codeAny (model C.prog C.w) A (.compStart (.ListComp ee [⟨tg,it,ifs,0⟩] csc pos) 0 (.ref J) acc { cenv with scope:=relabel csc env }) (RR acc cenv.locals) s₄) E s₃) E s₂:=by
 have O:=KN.O
 have hn:=KN.hn
 have R:=KN.R
 have S₂:=st.st
 have hPl:P.length=vs.length:=S₂.lenP
 refine wpAny_newObj_type (wpAny_newFunctionEnv K.cell (by intro y hy; simp at hy) (fun h₁ hns₁ hsb₁=>?_) K.kind)
 dsimp only at hns₁ hsb₁ ⊢
 generalize hH2:s₂.heap.push { cls:=.type "list", dict:=none,data:=.seq ([]:List Value).toArray }=H2 at hns₁ hsb₁ ⊢
 have hC:H2.objs.size=s₂.heap.objs.size+1:=by rw [← hH2,Heap.size_push]
 generalize hB:H2.objs.size=B at *
 generalize hD:s₂.heap.objs.size=Dn at *
 have hDB:Dn≠B:=by rw [hC]; exact Nat.ne_of_lt (Nat.lt_succ_self _)
 have nD:s₂.heap.get? Dn=none:=by rw [← hD]; exact zy4 _
 have nB:s₂.heap.get? B=none:=by
  cases e:s₂.heap.get? B with
  | none=>rfl
  | some o=>exact absurd (hD▸Heap.lt_size e) (by rw [hC]; exact Nat.not_lt.mpr (Nat.le_succ _))
 have old:∀ b o,s₂.heap.get? b=some o→h₁.get? b=some o:=fun b o e=>hsb₁.extBut b o (by rintro rfl; rw [nB] at e; cases e) (Heap.get?_push_of_some _ (hH2▸Heap.get?_push_of_some _ e))
 have hacc:h₁.get? Dn=some (lobj #[] 0):=hsb₁.extBut _ _ hDB (Heap.get?_push_of_some _ (hH2▸hD▸Heap.get?_push_size _ rfl))
 have fB:=S₂.nob_new nB
 have fD:=S₂.nob_new nD
 have S₃:St C X F₂ h₁ P vs σ₂:=S₂.grow0 old
 have hWD:∀ a,W a→a≠Dn∧a≠B:=fun a ha=>by
  obtain ⟨o,ho⟩:=hW.alive 0 _ a ht ha
  exact ⟨(by rintro rfl; rw [nD] at ho; cases ho),(by rintro rfl; rw [nB] at ho; cases ho)⟩
 have hqB:∀ {q:Place},q∈nm.map (Place.loc B)→q.addr=B:=fun hq=>by
  (refine elEA (List.mem_map.mp hq) fun y _ e_2=>?_; subst e_2); rfl
 have hnd:(P++nm.map (Place.loc B)).Nodup:=by
  rw [List.nodup_append]
  refine ⟨S₂.nodup,?_,fun p hp q hq=>?_⟩
  ·unfold List.Nodup
   rw [List.pairwise_map]
   exact hnm.imp fun h e=>h (by cases e; rfl)
  ·rintro rfl
   exact fB.p _ hp (hqB hq).symm
 have S₄:St C X F₂ h₁ (P++nm.map (Place.loc B)) (vs++List.replicate nm.length none) (σ₂++nones nm.length):=by
  refine S₃.extend (by simp) (by simp) (fun i q ov e1 e2=>?_) (fun i ov av e1 e2=>?_) (fun av hav d e=>?_) hnd (fun q hq=>?_) (fun k a ho q hq=>?_)
  ·(refine elEA (List.mem_map.mp (List.mem_of_getElem? e1)) fun y _ e_2=>?_; subst e_2)
   obtain rfl:=(List.mem_replicate.mp (List.mem_of_getElem? e2)).2
   exact ⟨_,hns₁,rfl⟩
  ·obtain rfl:=(List.mem_replicate.mp (List.mem_of_getElem? e2)).2
   exact trivial
  ·obtain rfl:=(List.mem_replicate.mp hav).2; cases e
  ·rw [hqB hq]; exact ⟨fB.f,fB.x⟩
  ·rw [hqB hq]; rintro rfl; exact fB.o k ho
 have O':EnvOk (compEnvC csc cl B env) csc (zw4 n ν nm csc) (P++nm.map (Place.loc B)):=comp_env O hn K hcl
 have hxk:∀ y∈nm,(compEnvC csc cl B env).kindOf y=some .local:=fun y hy=>lookup_relabel_local (K.loc y hy).1
 have hnone:∀ av∈nones nm.length,∀ d,av≠some (.own d):=fun av hav d e=>by obtain rfl:=(List.mem_replicate.mp hav).2; cases e
 have hn':n+nm.length=(P++nm.map (Place.loc B)).length:=by simp [hn]
 have hvl:vs.length=n:=by rw [hn,hPl]
 let W':Addr→Prop:=fun a=>W a∨a=Dn
 have hW':∀ a,W' a→¬ X a∧C.H.get? a=none:=by
  rintro a (ha|rfl)
  ·exact ⟨(hnob a ha).x,(hnob a ha).h⟩
  ·exact ⟨fD.x,fD.h⟩
 have t₁:T 0 h₁:=hW.frame 0 _ _ ht S₂.sub (fun a o _ e=>old a o e) S₃.sub
 have S₅:St C (Or' X W') F₂ h₁ (P++nm.map (Place.loc B)) (vs++List.replicate nm.length none) (σ₂++nones nm.length):=by
  refine S₄.protect fun a ha=>?_
  rcases ha with ha|rfl
  ·have q:=hnob a ha
   refine ⟨⟨q.f,q.x,fun p hp=>?_,fun k ho=>q.o k (zq9 S₂.lenS hnone ho),q.h⟩,hW.alive 0 _ a t₁ ha⟩
   rcases List.mem_append.mp hp with hp|hp
   ·exact q.p p hp
   ·rw [hqB hp]; exact (hWD a ha).2
  ·refine ⟨⟨fD.f,fD.x,fun p hp=>?_,fun k ho=>fD.o k (zq9 S₂.lenS hnone ho),fD.h⟩,_,hacc⟩
   rcases List.mem_append.mp hp with hp|hp
   ·exact fD.p p hp
   ·rw [hqB hp]; exact hDB
 have loop:∀ s₃:Shared,s₃={ s₂ with heap:=h₁,toks:=s₂.toks+([]:List (Str×Value)).length } →
   codeAny (model C.prog C.w) A (.compLoop (.ListComp ee [⟨tg,it,ifs,0⟩] csc pos) 0 (.ref J) (.ref Dn) (compEnvC csc cl B env)) (RR (.ref Dn) B) s₃:=by
  rintro s₃ rfl
  generalize hce:compEnvC csc cl B env=ce at O' hxk ⊢
  generalize hP':P++nm.map (Place.loc B)=P' at S₅ O' hn'
  clear S₄ hnd
  have hqP:∀ p∈P,p∈P':=fun p hp=>hP'▸List.mem_append_left _ hp
  obtain ⟨Inv,hInv⟩:∃ Inv,Inv=CompInv C Γ X W' T P' vs F₂ s ds xs Dn n nm.length bc cond elt σ':=⟨_,rfl⟩
  refine compLoop_go Inv ?_ (ds.length+1) ?_
  rotate_left
  ·refine elEE (st.eq) fun h0 t0 e0=>?_
   rw [hInv]
   refine ⟨F₂,0,σ₂,List.replicate nm.length none,by simp,[],xs,#[],0,rfl,Nat.zero_le _,⟨h₁,_,by rw [e0]⟩,Fz.le_refl _,?_,S₅,t₁,hacc,RepL.nil_,hv,rfl⟩
   exact XSame.trans st.same (XSame.of_keep S₂.xal old)
  intro E k s' hInv'
  obtain ⟨F',i,σi,ov,hov,done,rest,ys,m,rfl,hi,⟨hh,tk,hs'⟩,le,same,S,t,hacc',rd,hc,hdone⟩:=hInv▸hInv'
  clear hInv'
  have hcov:∀ a o,C.H.get? a=some o→X a∨F' a≠none:=cov_mono le S₂.cov
  have hσi:σi.length=n:=by have:=S.lenS; simp at this; bv_omega
  by_cases hlt:i<ds.length
  ·-- an item
   have hdrop:ds.drop i=ds[i]::ds.drop (i+1):=List.drop_eq_getElem_cons hlt
   rw [hdrop] at hc
   refine elEEEAA (compB_cons hc) fun wv c σ1 hbc hcd hrest=>?_
   refine walk_item (W':=W') hW trivial (fun a ha=>.inl ha) hW' le hcov S t (List.getElem?_eq_getElem hlt) fun v s₀ q=>?_
   obtain ⟨F2,h',tk',rfl,t',le2,S2,same0,rv,keep⟩:=q
   have same1:XSame X s.heap h':=XSame.trans same same0
   have hD':h'.get? Dn=some (lobj ys m):=keep _ _ (fun hw=>(hWD _ hw).1 rfl) hacc'
   refine wpM (hBc (s:={ s' with heap:=h',toks:=tk' }) R.handled O' hxk hvl hσi hov S2 rv hbc) (fun _ s₃ q=>?_)
   obtain ⟨ov2,hov2,⟨h₂,tk₂,rfl⟩,_,S3,same3⟩:=q
   have t2:T (i+1) h₂:=hW.frame _ _ _ t' (fun a o e=>S2.sub a o ((Fz.le.trans le le2) a o e)) (fun a o ha e=>by rw [same3 a (.inr (.inl ha))]; exact e) fun a o e=>S3.sub a o ((Fz.le.trans le le2) a o e)
   have hD2:h₂.get? Dn=some (lobj ys m):=by rw [same3 Dn (.inr (.inr rfl))]; exact hD'
   have same2:XSame X s.heap h₂:=XSame.trans same1 same3.left
   have K':Cn Γ N (ce) csc (zw4 n ν nm csc) P' (n+nm.length) A:=⟨O',hn',R⟩
   obtain ⟨b0,hb0⟩:∃ b,zx5 c=some b:=by rcases hrest with ⟨q,_⟩|⟨q,_⟩<;>exact ⟨_,q⟩
   refine wpM (hT K' S3 hcd hb0) (fun ok s₃ q=>?_)
   obtain ⟨hok,F3,st3⟩:=q
   subst hok
   have hok:=hb0
   have S4:=st3.st
   have e3:∃ h' tk,s₃={ s with heap:=h',toks:=tk }:=by
    (refine elEE (st3.eq) fun h3 t3 e_2=>?_; subst e_2); exact ⟨h3,t3,by rw [hs']⟩
   have le3:F₂.le F3:=Fz.le.trans (Fz.le.trans le le2) st3.le
   have t3:T (i+1) s₃.heap:=hW.frame _ _ _ t2 (fun a o e=>S3.sub a o ((Fz.le.trans le le2) a o e)) (fun a o ha e=>by rw [st3.same a (.inr (.inl ha))]; exact e) fun a o e=>S4.sub a o (le3 a o e)
   have hD3:s₃.heap.get? Dn=some (lobj ys m):=by rw [st3.same Dn (.inr (.inr rfl))]; exact hD2
   have same4:XSame X s.heap s₃.heap:=XSame.trans same2 st3.same.left
   rcases hrest with hrest|hrest
   ·obtain ⟨q,hr⟩:=hrest
    obtain rfl:=Option.some.inj (hok.symm.trans q)
    have hl:σ1.length=n+nm.length:=by have:=S4.lenS; simp at this; bv_omega
    obtain ⟨f1,f2⟩:=take_forget hl
    exact show ∃ m,m<ds.length+1 - i∧_ from ⟨ds.length+1 - (i+1),Nat.sub_lt_sub_left (Nat.lt_succ_of_lt hlt) (Nat.lt_succ_self i),hInv▸⟨F3,i+1,σ1.take n,ov2,hov2,done,rest,ys,m,rfl,hlt,e3,le3,same4,S4.forget f1 f2,t3,hD3,RepL.mono (Fz.le.trans le2 st3.le) _ rd,hr,hdone⟩⟩
   ·refine elAEEEEAA hrest fun q y fy σ2 zs hel hr hrs=>?_
    obtain rfl:=Option.some.inj (hok.symm.trans q)
    refine wpM (hE.frozen K' S4 hel) (fun u s₄ q=>?_)
    obtain ⟨F4,st4,ru⟩:=q
    have S5:=st4.st
    have hD4:s₄.heap.get? Dn=some (lobj ys m):=by rw [st4.same Dn (.inr (.inr rfl))]; exact hD3
    have le4:F₂.le F4:=Fz.le.trans le3 st4.le
    have t4:T (i+1) s₄.heap:=hW.frame _ _ _ t3 (fun a o e=>S4.sub a o (le3 a o e)) (fun a o ha e=>by rw [st4.same a (.inr (.inl ha))]; exact e) fun a o e=>S5.sub a o (le4 a o e)
    have same5:XSame X s.heap s₄.heap:=XSame.trans same4 st4.same.left
    have rd4:RepL C.w F4 done ys.toList:=RepL.mono (Fz.le.trans (Fz.le.trans le2 st3.le) st4.le) _ rd
    have hys:ys.size≤sizeLine:=by
     have:=rd4.length
     have hl2:xs.length=done.length+rest.length:=by rw [← hdone,List.length_append]
     simp at this
     rw [zl0]; bv_omega
    refine wpAny_list_append_plain (hsz:=hys) ⟨m,hD4⟩ fun h₅ hl₅ hs₅=>?_
    obtain ⟨m5,hD5⟩:=hl₅
    have hcov4:∀ a o,C.H.get? a=some o→X a∨F4 a≠none:=cov_mono le4 S₂.cov
    have S6:St C X F4 h₅ P' (vs++ov2) σ2:=(S5.release hcov4).change (W:=fun a=>a=Dn) (fun a o ha e=>by rw [hs₅.2 a ha]; exact e) fun a ha=>Nob.back S5 (.inr ha) (hW' a (.inr ha)).1 (hW' a (.inr ha)).2
    have S7:St C (Or' X W') F4 h₅ P' (vs++ov2) σ2:=S6.protect fun a ha=>by
     refine ⟨Nob.back S5 ha (hW' a ha).1 (hW' a ha).2,?_⟩
     obtain ⟨o,ho⟩:=S5.xal a (.inr ha)
     by_cases hd:a=Dn
     ·exact ⟨_,hd▸hD5⟩
     ·exact ⟨o,by rw [hs₅.2 a hd]; exact ho⟩
    have hl:σ2.length=n+nm.length:=by have:=S5.lenS; simp at this; bv_omega
    obtain ⟨f1,f2⟩:=take_forget hl
    refine ⟨ds.length+1 - (i+1),Nat.sub_lt_sub_left (Nat.lt_succ_of_lt hlt) (Nat.lt_succ_self i),?_⟩
    rw [hInv]
    refine ⟨F4,i+1,σ2.take n,ov2,hov2,done++[y],zs,ys.push u,m5,rfl,hlt,?_,le4,?_,S7.forget f1 f2,?_,hD5,?_,hr,?_⟩
    ·(refine elEE (e3) fun h3 k3 e_2=>?_; subst e_2)
     (refine elEE (st4.eq) fun h4 k4 e_2=>?_; subst e_2)
     exact ⟨h₅,k4,rfl⟩
    ·exact XSame.trans same5 fun a e=>hs₅.2 a fun q=>(hW' a (.inr q)).1 e
    ·exact hW.frame _ _ _ t4 (fun a o e=>S5.sub a o (le4 a o e)) (fun a o ha e=>by rw [hs₅.2 a (hWD a ha).1]; exact e) fun a o e=>S6.sub a o (le4 a o e)
    ·rw [Array.toList_push]; exact rd4.append (RepL.cons_ ru RepL.nil_)
    ·rw [List.append_assoc,List.singleton_append,← hrs]; exact hdone
  ·-- the end
   subst hP'
   have hin:i=ds.length:=by bv_omega
   subst hin
   rw [List.drop_length] at hc
   simp only [zj2] at hc
   obtain ⟨hr1,hr2⟩:=Prod.mk.inj (Option.some.inj hc)
   subst hr1
   subst hr2
   rw [List.append_nil] at hdone
   subst hdone
   refine walk_done hW t fun h' tk' keep=>?_
   have hnb:∀ a,W' a→Nob C X F' (P++nm.map (Place.loc B)) (vs++ov) (σi++nones nm.length) a:=fun a ha=>Nob.back S ha (hW' a ha).1 (hW' a ha).2
   have S1:St C X F' h' (P++nm.map (Place.loc B)) (vs++ov) (σi++nones nm.length):=(S.release hcov).change keep fun a ha=>hnb a (.inl ha)
   have S2:=S1.shrink hPl (n:=n) hvl.symm
   have htk:(σi++nones nm.length).take n=σi:=take_left hσi
   rw [htk] at S2
   have own0:∀ k a,zs2 vs σi k a→zs2 (vs++ov) (σi++nones nm.length) k a:=fun k a ho=>owned_take (n:=n) hvl.symm (by rw [htk]; exact ho)
   obtain ⟨y0,hy0⟩:=List.exists_mem_of_ne_nil nm hne
   have hmB:Place.loc B y0∈P++nm.map (Place.loc B):=List.mem_append_right _ (List.mem_map.mpr ⟨y0,hy0,rfl⟩)
   obtain ⟨kB,hkB⟩:=List.mem_iff_getElem?.mp hmB
   refine elEAEA (S1.placeAt hkB) fun ovB hovB mB hnsB _=>?_
   have hD':h'.get? Dn=some (lobj ys m):=keep _ _ (fun hw=>(hWD _ hw).1 rfl) hacc'
   refine hRR B Dn F' _ mB ⟨?_,Fz.le.trans st.le le,S2,?_⟩ ⟨(S1.cont _ hmB).1,(S1.cont _ hmB).2,fun p hp=>fB.p p hp,fun k ho=>(S1.own k _ (own0 k _ ho)).2 _ hmB rfl,fB.h⟩ (Ne.symm hDB) hnsB ?_
   ·exact ⟨h',tk',by rw [hs']⟩
   ·exact XSame.trans same fun a e=>by
     obtain ⟨o,ho⟩:=(S.release hcov).xal a e
     rw [ho]
     exact keep a o (fun hw=>(hW' a (.inl hw)).1 e) ho
   ·have q:=hnb Dn (.inr rfl)
    exact ⟨Dn,rfl,q.f,q.x,fun p hp=>q.p p (List.mem_append_left _ hp),fun k ho=>q.o k (own0 k _ ho),hzx,ys,m,hD',rd⟩
 exact codeAny_compStart_list (loop _ rfl) (hW.iter 0 _ _ _ t₁ (loop _ rfl))
end
end Snd
end
section
namespace Snd
open PySem Mini
section
variable {C:Cx} {Γ:Mini.Env} {N:Nat} {n:Nat} {sc:Scope} {ν:Nu} {env:PySem.Env} {P:List Place} {vs:List (Option Value)} {σ σ':Sg} {X:Addr→Prop} {F:Fz} {s:Shared} {A:Around} {E:Value→Shared→Prop}
theorem ok_folded {e:Expr} (h:okE e=true):∀ x,foldedSetIterable e env x=pure x:=by
 intro x
 cases e<;>first|rfl|(exact absurd h Bool.false_ne_true)
noncomputable def compEv (Γ:Mini.Env) (bc:D→Option (List D)) (elt sr cond:I) (σ:Sg):Option (D×Bool×Sg):=(srcE (ev Γ sr) σ).bind fun p=>(zj2 σ.length bc (zp5 cond (ev Γ cond)) (ev Γ elt) p.1 p.2).bind fun q=>(mkL q.1).bind fun r=>some (r.1,r.2,q.2)
theorem compEv1 {elt sr cond:I} (σ:Sg):ev Γ (.comp1 elt sr cond) σ=compEv Γ bc1 elt sr cond σ:=by
 simp only [zv7,compEv,zr6]
theorem ev_comp1 {bc:D→Option (List D)} {elt sr cond:I} {d:D} {f:Bool} (hv:compEv Γ bc elt sr cond σ=some (d,f,σ')) :
  ∃ ds σ1 xs,srcE (ev Γ sr) σ=some (ds,σ1)∧zj2 σ.length bc (zp5 cond (ev Γ cond)) (ev Γ elt) ds σ1=some (xs,σ')∧xs.length≤size∧d=.list xs∧f=true:=by
 refine bK2 (hv) fun ds σ1 hs hv=>?_
 refine bK2 (hv) fun xs σ2 hc hv=>?_
 refine bK2 (hv) fun d' f' hm hv=>?_
 cases hv
 obtain ⟨hz,hm⟩:=ifS hm
 cases hm
 exact ⟨ds,σ1,xs,hs,hc,hz,rfl,rfl⟩
theorem comp_use {elt sr cond:I} {ee it:Expr} {nm:List Str} {tg:Expr} {bc:D→Option (List D)} {ifs:List Expr} {csc:Scope} {pos ipos:Pos} (hBc:PBc C bc n nm csc ν tg) (hnm:nm.Nodup) (hne:nm≠[]) (hS:PW C Γ N sr n sc ν it) (hE:PE C Γ N elt (n+nm.length) csc (zw4 n ν nm csc) ee) (hT:PC C Γ N cond (n+nm.length) csc (zw4 n ν nm csc) ifs) (h0:okE it=true)
  {d:D} {f:Bool} {use:Option (Value→Sem Unit)} {Q:Value→Shared→Prop}
  (KC:CompOk sc ν nm csc) (K:Cn Γ N env sc ν P n A) (S:St C X F s.heap P vs σ) (hv:compEv Γ bc elt sr cond σ=some (d,f,σ'))
  (hQ:∀ B Dn F' s' m,Step C X P vs F s σ' F' s'→Nob C X F' P vs σ' B→B≠Dn→s'.heap.Ns B m→ResOk C.w X F' s'.heap P vs σ' (.ref Dn) d f→compPost (model C.prog C.w) A E use Q (.ref Dn) B (.ok .next) s') :
  wpAny (model C.prog C.w) A (comprehension (.ListComp ee [⟨tg,it,ifs,0⟩] csc pos) csc env ipos (newList []) false (eval it env) use) Q E s:=by
 (refine elEEEAAAA (ev_comp1 hv) fun ds σ1 xs hs hc hz e_6 e_7=>?_; subst e_6; subst e_7)
 refine elEA (closure_ok (env:=env) (csc:=csc) fun p hp hf=>(K.O.cell p.1 (KC.free p hp hf)).2) fun cl hcl hlk=>?_
 refine wpAny_comprehension_free rfl (ok_folded h0) hcl KC.kind (fun y hy hl=>by have:=KC.look y hy; rw [hl] at this; exact this) (wpM (hS K S hs) (fun v s₁ q=>wpM q (fun it s₂ q=>?_)))
 obtain ⟨F₂,J,W,T,rfl,st,hW,ht,hzd,hnob⟩:=q
 have hσ:σ.length=n:=by rw [S.lenS,← S.lenP,K.hn]
 rw [hσ] at hc
 exact comp_block (RR:=fun acc B=>compPost (model C.prog C.w) A E use Q acc B) hBc hnm hne hE hT KC hlk K st hW ht hzd hnob hc hz hQ
theorem PE.compG {i elt sr cond:I} {ee it:Expr} {nm:List Str} {tg:Expr} {bc:D→Option (List D)} {ifs:List Expr} {csc:Scope} {pos:Pos} (hev:∀ σ,ev Γ i σ=compEv Γ bc elt sr cond σ) (hBc:PBc C bc n nm csc ν tg) (hnm:nm.Nodup) (hne:nm≠[]) (hS:PW C Γ N sr n sc ν it) (hE:PE C Γ N elt (n+nm.length) csc (zw4 n ν nm csc) ee) (hT:PC C Γ N cond (n+nm.length) csc (zw4 n ν nm csc) ifs) (h0:okE it=true) (KC:CompOk sc ν nm csc) :
  PE C Γ N i n sc ν (.ListComp ee [⟨tg,it,ifs,0⟩] csc pos):=by
 intro env P vs σ σ' X F s A E d f K S hv
 rw [hev] at hv
 refine elEEEAAAA (ev_comp1 hv) fun ds σ1 xs hs hc hz hd hf=>?_
 rw [eval_ListComp]
 refine comp_use (use:=none) hBc hnm hne hS hE hT h0 KC K S hv fun B Dn F' s' m st nb hne hns r=>⟨m,hns,fun h' hs'=>?_⟩
 have S':=st.st.change (W:=fun a=>a=B) (h':=h') (fun a o ha e=>by rw [hs'.2 a ha]; exact e) (fun a ha=>ha▸nb)
 refine ⟨F',⟨?_,st.le,S',?_⟩,?_⟩
 ·(refine elEE (st.eq) fun h0 t0 e_2=>?_; subst e_2); exact ⟨h',t0,rfl⟩
 ·exact XSame.trans st.same fun a e=>hs'.2 a (by rintro rfl; exact nb.x e)
 ·subst hf
  refine elEAAAAA (r) fun a e r1 r2 r3 r4 r5=>?_
  cases e
  exact ⟨Dn,rfl,r1,r2,r3,r4,r5.mono (Fz.le_refl _) fun o e=>by rw [hs'.2 Dn (Ne.symm hne)]; exact e⟩
theorem PBc.name {x:Str} {px:Pos} {csc:Scope}:PBc C bc1 n [x] csc ν (.Name x px):=by
 intro cenv P vs ov σ X F s A E d ws v hA O hk hv hσ ho S r hb
 cases hb
 obtain ⟨o,rfl⟩:=List.length_eq_one_iff.mp ho
 have hxn:zw4 n ν [x] csc x=some n:=by simp [zw4,List.idxOf?]
 refine wpAny_assign_Name (zo4 O S hxn (d:=d) (f:=false) r (by rw [hk x (by simp)]; exact fun x=>nomatch x) fun h' tk S' same=>⟨[some v],rfl,⟨h',tk,rfl⟩,Fz.le_refl _,?_,same⟩)
 have e1:(vs++[o]).set n (some v)=vs++[some v]:=by subst hv; simp
 have e2:put (σ++nones 1) n d false=σ++vals [d]:=by unfold put; subst hσ; simp
 rw [e1] at S'
 exact e2▸S'
noncomputable abbrev nmE (q:Str×Pos):Expr:=.Name q.1 q.2
theorem zu1 {env:PySem.Env}:∀ l:List (Str×Pos),assignEach (l.map nmE) env=l.map fun q=>(false,assign (nmE q) env)
 | []=>rfl
 | q::r=>by
  show (false,assign (nmE q) env)::assignEach (r.map nmE) env=_
  rw [zu1 r]; rfl
theorem names_star {env:PySem.Env} (l:List (Str×Pos)):(l.map fun q=>((false,assign (nmE q) env):Bool×(Value→Sem Unit))).findIdx? (·.1)=none:=by
 rw [List.findIdx?_eq_none_iff]
 intro x hx
 (refine elEA (List.mem_map.mp hx) fun q _ e_2=>?_; subst e_2)
 rfl
noncomputable def plainE:Expr→Bool
 | .UnaryOp .Not _ _=>false
 | .BoolOp _ _ _=>false
 | .IfExp _ _ _ _=>false
 | .Compare _ _ _ _=>false
 | _=>true
set_option tactic.hygienic true in
theorem isTrue_plainE {e:Expr} (h:plainE e=true) (env:PySem.Env) (whole:Sem Value):isTrue e env whole=(do let v ← whole; standAt e.pos; holding [v] (truthy v)):=by
 cases e<;>first|rfl|(exact absurd h Bool.false_ne_true)|(rename_i op x p; cases op<;>first|rfl|(exact absurd h Bool.false_ne_true))
end
inductive PostN (C:Cx) (X:Addr→Prop) (P:List Place) (F:Fz) (s:Shared) (σ':Sg) (fl:Flow) (s':Shared):Prop
 | mk (e:fl=.next) (vs':List (Option Value)) (F':Fz) (st:Step C X P vs' F s σ' F' s')
inductive PostR (C:Cx) (X:Addr→Prop) (P:List Place) (F:Fz) (s:Shared) (d:D) (f:Bool) (fl:Flow) (s':Shared):Prop
 | mk (v:Value) (e:fl=.ret v) (vs':List (Option Value)) (σ':Sg) (F':Fz) (st:Step C X P vs' F s σ' F' s') (r:ResOk C.w X F' s'.heap P vs' σ' v d f)
noncomputable def PostS (C:Cx) (X:Addr→Prop) (P:List Place) (F:Fz) (s:Shared):Out→Flow→Shared→Prop
 | .next σ'=>PostN C X P F s σ'
 | .ret d f=>PostR C X P F s d f
section
variable {C:Cx} {X:Addr→Prop} {P:List Place} {vs vs':List (Option Value)} {F F' F'':Fz} {s s' s'':Shared} {σ σ' σ'':Sg}
theorem Step.trans' (a:Step C X P vs F s σ' F' s') (b:Step C X P vs' F' s' σ'' F'' s''):Step C X P vs' F s σ'' F'' s'' where
 eq:=by
  (refine elEE (a.eq) fun h1 t1 e_2=>?_; subst e_2)
  (refine elEE (b.eq) fun h2 t2 e_2=>?_; subst e_2)
  exact ⟨h2,t2,rfl⟩
 le:=Fz.le.trans a.le b.le
 st:=b.st
 same:=XSame.trans a.same b.same
theorem PostS.trans {o:Out} {fl:Flow} (a:Step C X P vs F s σ' F' s') (q:PostS C X P F' s' o fl s''):PostS C X P F s o fl s'':=by
 cases o with
 | next σ=>obtain ⟨e,vs',G,st⟩:=q; exact ⟨e,vs',G,a.trans' st⟩
 | ret d f=>obtain ⟨v,e,vs',σ',G,st,r⟩:=q; exact ⟨v,e,vs',σ',G,a.trans' st,r⟩
end
section
variable {C:Cx} {Γ:Mini.Env} {N:Nat} {n:Nat} {sc:Scope} {ν:Nu} {env:PySem.Env} {P:List Place} {vs:List (Option Value)} {σ σ':Sg} {X:Addr→Prop} {F:Fz} {s:Shared} {A:Around} {E:Value→Shared→Prop}
theorem idxOf_mid {xs:List Str} {y:Str} {r:List Str} (h:y∉xs):(xs++y::r).idxOf? y=some xs.length:=by
 induction xs with
 | nil=>simp [List.idxOf?,List.findIdx?_cons]
 | cons x t ih =>
  have hx:(x==y)=false:=by
   rw [← Bool.not_eq_true]; intro e; exact h (by rw [eq_of_beq e]; exact List.mem_cons_self)
  have:=ih fun hm=>h (List.mem_cons_of_mem _ hm)
  simp only [List.idxOf?,List.cons_append,List.findIdx?_cons,hx] at this ⊢
  simp [this]
theorem stores_at {csc:Scope} {cenv:PySem.Env} {xs:List Str} (O:EnvOk cenv csc (zw4 n ν xs csc) P) (hk:∀ x∈xs,cenv.kindOf x=some .local) (hnd:xs.Nodup) (hv:vs.length=n) (hσ:σ.length=n) :
  ∀ (l:List (Str×Pos)) (pre:List Str) (w1 ds:List D) (ws:List Value) (ov:List (Option Value)) (s:Shared),xs=pre++l.map (·.1)→w1.length=pre.length→ds.length=l.length→ov.length=xs.length→RepL C.w F ds ws →
   St C X F s.heap P (vs++ov) (σ++(vals w1++nones l.length)) →
   wpAny (model C.prog C.w) A (assignInOrder (l.map fun q=>assign (nmE q) cenv) ws) (fun _ s'=>∃ ov',ov'.length=xs.length∧Step C X P (vs++ov') F s (σ++vals (w1++ds)) F s') E s
 | [],pre,w1,ds,ws,ov,s,hx,h1,h2,ho,r,S=>by
  obtain rfl:=List.length_eq_zero_iff.mp h2
  refine wpAny_pure ⟨ov,ho,?_⟩
  have e:σ++(vals w1++nones ([]:List (Str×Pos)).length)=σ++vals (w1++[]):=by simp
  exact e▸Step.refl S
 | q::l,pre,w1,ds,ws,ov,s,hx,h1,h2,ho,r,S=>by
  cases ds with
  | nil=>simp at h2
  | cons d ds =>
   simp only [RepL] at r
   (refine elEEAA (r) fun v rest e_2 r1 r2=>?_; subst e_2)
   have hq:q.1∈xs:=by rw [hx]; simp
   have hnot:q.1∉pre:=by
    rw [hx,List.nodup_append] at hnd
    exact fun hm=>hnd.2.2 q.1 hm q.1 (by simp) rfl
   have hxn:zw4 n ν xs csc q.1=some (n+pre.length):=by
    have:=idxOf_mid (xs:=pre) (y:=q.1) (r:=l.map (·.1)) hnot
    unfold zw4
    rw [hx,List.map_cons,this]
   have hol:pre.length<ov.length:=by rw [ho,hx]; simp
   show wpAny _ A (do holding rest (assign (.Name _ _) cenv v); assignInOrder _ rest) _ _ s
   refine wpAny_bind (wpAny_holding (wpAny_assign_Name (zo4 O S hxn (d:=d) (f:=false) r1 (by rw [hk _ hq]; exact fun x=>nomatch x) fun h' tk S' same=>?_)))
   have e1:(vs++ov).set (n+pre.length) (some v)=vs++ov.set pre.length (some v):=by
    rw [List.set_append,if_neg (by bv_omega),hv,Nat.add_sub_cancel_left]
   have e2:put (σ++(vals w1++nones (q::l).length)) (n+pre.length) d false=σ++(vals (w1++[d])++nones l.length):=by
    unfold put
    rw [List.set_append,if_neg (by bv_omega),hσ,Nat.add_sub_cancel_left,List.set_append,if_neg (by simp; bv_omega)]
    have:pre.length - (vals w1).length=0:=by simp only [List.length_map,vals]; exact Nat.sub_eq_zero_of_le (Nat.le_of_eq h1.symm)
    rw [this]
    simp [List.replicate_succ]
   rw [e1,e2] at S'
   have st1:Step C X P _ F s _ F { s with heap:=h',toks:=tk }:=⟨⟨h',tk,rfl⟩,Fz.le_refl F,S',same⟩
   refine wpM (stores_at O hk hnd hv hσ l (pre++[q.1]) (w1++[d]) ds rest _ { s with heap:=h',toks:=tk } (by rw [hx]; simp) (by simp [h1]) (by simpa using h2) (by simpa using ho) r2 S') (fun _ s' w=>?_)
   refine elEA (w) fun ov' ho' st2=>?_
   refine ⟨ov',ho',?_⟩
   have e3:w1++d::ds=w1++[d]++ds:=by simp
   rw [e3]
   exact st1.trans' st2
theorem PBc.tup {l:List (Str×Pos)} {q:Nat} {tp:Pos} {csc:Scope} (hnd:(l.map (·.1)).Nodup):PBc C (tupN (l.map (·.1)).length) n (l.map (·.1)) csc ν (.Tuple (l.map nmE) q tp):=by
 intro cenv P vs ov σ X F s A E d ws v hA O hk hv hσ ho S r hb
 cases d<;>try exact (noS hb).elim
 obtain ⟨hl,hb⟩:=ifS hb
 cases hb
 simp only [Rep] at r
 (refine elAEEEAA (r) fun hz a ws' m e_4 hF r_n=>?_; clear r; revert r_n; intro r; subst e_4)
 have h1:=S.sub _ _ hF
 have e1:=r.length
 simp only [Array.length_toList] at e1
 simp only [List.length_map] at hl
 refine PyProof.Rows.assign_Tuple_tuple hA (items:=ws') ⟨_,h1,rfl,_,rfl⟩ ?_ ?_ fun h' he'=>?_
 ·rw [zu1,List.length_map,← hl,e1]
 ·rw [zu1]; exact names_star l
 ·rw [zu1,List.map_map]
  have k:∀ b o,s.heap.get? b=some o→h'.get? b=some o:=fun b o e=>he' b o (Nat.ne_of_lt (Heap.lt_size e)) e
  have st2:=Step.grow (tk:=s.toks) S k
  refine wpM (stores_at O hk hnd hv hσ l [] [] _ _ ov { s with heap:=h' } (by simp) rfl hl ho r (by simpa using st2.st)) (fun _ s' w=>?_)
  refine elEA (w) fun ov' ho' st3=>?_
  exact ⟨ov',ho',st2.trans' st3⟩
end
noncomputable def PU (C:Cx) (Γ:Mini.Env) (N:Nat) (i:I) (n:Nat) (sc:Scope) (ν:Nu) (v:Expr):Prop:=∀ {k:Nat} {x:Str} {px pos:Pos} {env:PySem.Env} {P:List Place} {vs:List (Option Value)} {σ σ':Sg} {X:Addr→Prop} {F:Fz} {s:Shared} {A:Around} {E:Value→Shared→Prop} {d:D} {f:Bool},
 Sl ν k x→Cn Γ N env sc ν P n A→(∀ x,env.kindOf x≠some .free)→St C X F s.heap P vs σ→ev Γ i σ=some (d,f,σ')→wpAny (model C.prog C.w) A (exec (.Assign [.Name x px] v pos) env) (PostS C X P F s (.next (put σ' k d f))) E s
structure GE (C:Cx) (Γ:Mini.Env) (N:Nat) (i:I) (n:Nat) (sc:Scope) (ν:Nu) (x:Expr):Prop where
 e:PE C Γ N i n sc ν x
 o:PO C Γ N i n sc ν x
 t:PT C Γ N i n sc ν x
 u:PU C Γ N i n sc ν x
noncomputable def noComp:Expr→Bool
 | .ListComp _ _ _ _=>false
 | .SetComp _ _ _ _=>false
 | .DictComp _ _ _ _ _=>false
 | _=>true
section
variable {C:Cx} {Γ:Mini.Env} {N:Nat} {n:Nat} {sc:Scope} {ν:Nu}
theorem swaps_none {value:Expr} {x:Str} {p:Pos} {line:Nat} {env:PySem.Env} (h:noComp value=true):swapsWith value (some (.Name x p)) line env=pure false:=by
 cases value<;>first|rfl|(exact absurd h Bool.false_ne_true)
theorem PU.store {i:I} {v:Expr} (h:PE C Γ N i n sc ν v) {k:Nat} {x:Str} {px pos:Pos} {env:PySem.Env} {P:List Place} {vs:List (Option Value)} {σ σ':Sg} {X:Addr→Prop} {F:Fz} {s:Shared} {A:Around} {E:Value→Shared→Prop} {d:D} {f:Bool}
  (hx:Sl ν k x) (K:Cn Γ N env sc ν P n A) (hf:∀ x,env.kindOf x≠some .free) (S:St C X F s.heap P vs σ) (he:ev Γ i σ=some (d,f,σ')) (hsw:swapsWith v (some (.Name x px)) pos.line env=pure false) :
  wpAny (model C.prog C.w) A (exec (.Assign [.Name x px] v pos) env) (PostS C X P F s (.next (put σ' k d f))) E s:=by
 refine wpAny_Assign_Name (wpM (h K S he) (fun v s₁ q=>?_)) hsw
 obtain ⟨F1,st1,r⟩:=q
 refine zo4 K.O st1.st hx.at' r (hf x) fun h' tk S' same=>?_
 refine ⟨rfl,_,F1,⟨?_,st1.le,S',XSame.trans st1.same same⟩⟩
 (refine elEE (st1.eq) fun h0 t0 e_2=>?_; subst e_2); exact ⟨h',tk,rfl⟩
theorem PU.plain {i:I} {v:Expr} (h:PE C Γ N i n sc ν v) (hc:noComp v=true):PU C Γ N i n sc ν v:=by
 intro k x px pos env P vs σ σ' X F s A E d f hx K hf S he
 exact PU.store h hx K hf S he (swaps_none hc)
theorem swaps_comp {e:Expr} {g:List Comprehension} {cs:Scope} {p':Pos} {x:Str} {p:Pos} {line:Nat} {env:PySem.Env} :
  swapsWith (.ListComp e g cs p') (some (.Name x p)) line env=pure false∨(swapsWith (.ListComp e g cs p') (some (.Name x p)) line env=pure true∧env.kindOf x=some .local):=by
 have e0:swapsWith (.ListComp e g cs p') (some (.Name x p)) line env=pure (env.blockKind==.function&&env.kindOf x==some .local&&p.line==(Expr.ListComp e g cs p').pos.line
  && !(cs.names.any fun (n,k)=>n==x&&(k==.local||k==.cell))):=rfl
 rw [e0]
 cases hb:(env.blockKind==.function&&env.kindOf x==some .local&&p.line==(Expr.ListComp e g cs p').pos.line&&!(cs.names.any fun (n,k)=>n==x&&(k==.local||k==.cell))) with
 | false=>exact .inl rfl
 | true =>
  simp only [Bool.and_eq_true,beq_iff_eq] at hb
  exact .inr ⟨rfl,hb.1.1.2⟩
theorem PU.compG {i elt sr cond:I} {ee it:Expr} {nm:List Str} {tg:Expr} {bc:D→Option (List D)} {ifs:List Expr} {csc:Scope} {cpos:Pos} (hev:∀ σ,ev Γ i σ=compEv Γ bc elt sr cond σ) (hBc:PBc C bc n nm csc ν tg) (hnm:nm.Nodup) (hne:nm≠[]) (hS:PW C Γ N sr n sc ν it) (hE:PE C Γ N elt (n+nm.length) csc (zw4 n ν nm csc) ee) (hT:PC C Γ N cond (n+nm.length) csc (zw4 n ν nm csc) ifs) (h0:okE it=true) (KC:CompOk sc ν nm csc) :
  PU C Γ N i n sc ν (.ListComp ee [⟨tg,it,ifs,0⟩] csc cpos):=by
 intro k x px pos env P vs σ σ1 X F s A E d f hx K hf S he
 have he0:=he
 rw [hev] at he
 rcases swaps_comp (x:=x) (p:=px) (line:=pos.line) (env:=env) with hsw|⟨hsw,hloc⟩
 ·exact PU.store (PE.compG hev hBc hnm hne hS hE hT h0 KC) hx K hf S he0 hsw
 ·rw [exec_Assign_Name_used _ _ _ _ hsw]
  refine wpAny_bind (wpAny_standAt (wpAny_bind ?_))
  show wpAny _ A (do let _ ← comprehension (.ListComp ee [⟨tg,it,ifs,0⟩] csc cpos) csc env _ (newList []) false (eval it env) (some (assign (.Name x px) env))) _ _ s
  refine wpAny_bind (wpM (comp_use (use:=some (assign (.Name x px) env)) (Q:=fun _ s'=>PostS C X P F s (.next (put σ1 k d f)) .next s') hBc hnm hne hS hE hT h0 KC K S he fun B Dn F' s' m st' nb hne hns r=>?_) (fun _ s' hq=>wpAny_pure (wpAny_pure hq)))
  show wpAny _ A (assign (.Name x px) env (.ref Dn)) _ _ _
  have nbB:∃ o,s'.heap.get? B=some o:=by refine elEEEA (hns) fun o _ _ ho _=>?_; exact ⟨o,ho⟩
  have S1:St C (Or' X fun a=>a=B) F' s'.heap P vs σ1:=st'.st.protect fun a ha=>ha▸⟨nb,nbB⟩
  have r1:ResOk C.w (Or' X fun a=>a=B) F' s'.heap P vs σ1 (.ref Dn) d f:=by
   cases f with
   | false=>exact r
   | true =>
    refine elEAAAAA (r) fun a' e' q1 q2 q3 q4 q5=>?_
    cases e'
    exact ⟨Dn,rfl,q1,fun q=>q.elim q2 fun q=>hne q.symm,q3,q4,q5⟩
  refine wpAny_assign_Name (zo4 K.O S1 hx.at' r1 (hf x) fun h' tk S' same=>?_)
  refine ⟨m,?_,fun h'' hs''=>⟨rfl,vs.set k (some (.ref Dn)),F',?_⟩⟩
  ·refine elEEEA (hns) fun o es ep ho q=>?_
   exact ⟨o,es,ep,by rw [same B (.inr rfl)]; exact ho,q⟩
  ·have S2:=S'.release st'.st.cov
   have nb2:Nob C X F' P _ _ B:=Nob.back S' rfl nb.x nb.h
   refine ⟨?_,st'.le,S2.change (W:=fun a=>a=B) (h':=h'') (fun a o ha e=>by rw [hs''.2 a ha]; exact e) (fun a ha=>ha▸nb2),?_⟩
   ·(refine elEE (st'.eq) fun h0 t0 e_2=>?_; subst e_2); exact ⟨h'',tk,rfl⟩
   ·exact XSame.trans st'.same fun a e=>(hs''.2 a (by rintro rfl; exact nb.x e)).trans (same a (.inl e))
theorem GE.plain {i:I} {e:Expr} (h:PE C Γ N i n sc ν e) (hb:isBrw i=false) (hp:plainE e=true) (hc:noComp e=true):GE C Γ N i n sc ν e :=
 ⟨h,h.opnd hb,PT.plain (h.opnd hb) (isTrue_plainE hp),PU.plain h hc⟩
end
end Snd
end
section
namespace Snd
open PySem Mini
noncomputable def DictSet (w:World):Prop:=∀ (prog:Program) (A:Around) (E:Value→Shared→Prop) (s:Shared) (F:Fz) (n:Nat),Room n A→F.In s.heap→∀ {x v:D} {kvs:List (D×D)} {a:Addr} {key val:Value},
 Rep w F x key→Rep w F v val→Shal w F s.heap (.dict kvs) a→F a=none→zp2 x kvs=true→kvs.length<size →
 wpAny (model prog w) A (setItem (.ref a) key val) (fun _ s'=>∃ h' tk,s'={ s with heap:=h',toks:=tk }∧(∀ b,b≠a→h'.get? b=s.heap.get? b)∧Shal w F h' (.dict (dput kvs x v)) a) E s
section
variable (C:Cx) (Γ:Mini.Env) (N:Nat)
noncomputable def PX (i:I) (n:Nat) (sc:Scope) (ν:Nu) (body:List Stmt):Prop:=∀ {env:PySem.Env} {P:List Place} {vs:List (Option Value)} {σ:Sg} {X:Addr→Prop} {F:Fz} {s:Shared} {A:Around} {E:Value→Shared→Prop} {o:Out},
 Cn Γ N env sc ν P n A→(∀ x,env.kindOf x≠some .free)→St C X F s.heap P vs σ→ex Γ i σ=some o→wpAny (model C.prog C.w) A (execs body env) (PostS C X P F s o) E s
noncomputable def PS (i:I) (n:Nat) (sc:Scope) (ν:Nu) (st:Stmt):Prop:=∀ {env:PySem.Env} {P:List Place} {vs:List (Option Value)} {σ:Sg} {X:Addr→Prop} {F:Fz} {s:Shared} {A:Around} {E:Value→Shared→Prop} {o:Out},
 Cn Γ N env sc ν P n A→(∀ x,env.kindOf x≠some .free)→St C X F s.heap P vs σ→ex Γ i σ=some o→wpAny (model C.prog C.w) A (exec st env) (PostS C X P F s o) E s
end
section
variable {C:Cx} {Γ:Mini.Env} {N:Nat} {n:Nat} {sc:Scope} {ν:Nu}
theorem PX.nil:PX C Γ N .nil n sc ν []:=by
 intro env P vs σ X F s A E o K hf S hv
 cases hv
 exact wpAny_execs_nil ⟨rfl,vs,F,Step.refl S⟩
theorem PX.cons {a b:I} {st:Stmt} {rest:List Stmt} (ha:PS C Γ N a n sc ν st) (hb:PX C Γ N b n sc ν rest):PX C Γ N (.cons a b) n sc ν (st::rest):=by
 intro env P vs σ X F s A E o K hf S hv
 refine bK1 (hv) fun o1 h1 hv=>?_
 refine wpAny_execs_cons (wpM (ha K hf S h1) (fun fl s₁ q=>?_))
 cases o1 with
 | next σ1 =>
  obtain ⟨rfl,vs',F1,st1⟩:=q
  exact wpM (hb K hf st1.st hv) (fun fl s₂ q=>q.trans st1)
 | ret d f =>
  cases hv
  obtain ⟨v,rfl,vs',σ',F',st',r'⟩:=q
  exact ⟨v,rfl,vs',σ',F',st',r'⟩
theorem zl2 {env:PySem.Env} {sc:Scope} {ν:Nu} {P:List Place} (O:EnvOk env sc ν P):interactive env=false:=by
 unfold interactive; rw [O.kind]; rfl
theorem PS.pass {p:Pos}:PS C Γ N .pass n sc ν (.Pass p):=by
 intro env P vs σ X F s A E o K hf S hv
 cases hv
 exact wpAny_Pass ⟨rfl,vs,F,Step.refl S⟩
theorem PS.asg {k:Nat} {e:I} {x:Str} {v:Expr} {px p:Pos} (hx:Sl ν k x) (h:PU C Γ N e n sc ν v):PS C Γ N (.asg k e) n sc ν (.Assign [.Name x px] v p):=by
 intro env P vs σ X F s A E o K hf S hv
 refine bK3 (hv) fun d f σ1 he hv=>?_
 cases hv
 exact h hx K hf S he
theorem PS.exp {e:I} {g:Expr} {as:List Expr} {ks:List Keyword} {q p:Pos} (h:PE C Γ N e n sc ν (.Call g as ks q)):PS C Γ N (.exp e) n sc ν (.Expr (.Call g as ks q) p):=by
 intro env P vs σ X F s A E o K hf S hv
 refine bK3 (hv) fun d f σ1 he hv=>?_
 refine bK1 (hv) fun i hi hv=>?_
 cases hv
 obtain rfl:=asInt_some hi
 refine wpAny_Expr (wpM (h.frozen K S he) (fun v s₁ q=>?_)) (zl2 K.O) (by rfl)
 obtain ⟨F1,st,r⟩:=q
 simp only [Rep] at r
 obtain ⟨t,rfl⟩:=r
 exact ⟨rfl,vs,F1,st⟩
theorem PS.ret {e:I} {v:Expr} {p:Pos} (h:PE C Γ N e n sc ν v):PS C Γ N (.ret e) n sc ν (.Return (some v) p):=by
 intro env P vs σ X F s A E o K hf S hv
 refine bK3 (hv) fun d f σ1 he hv=>?_
 cases hv
 refine wpAny_Return_some (wpM (h K S he) (fun v s₁ q=>?_))
 obtain ⟨F1,st,r⟩:=q
 exact ⟨v,rfl,vs,σ1,F1,st,r⟩
theorem PS.iff {c t e:I} {q:Expr} {bt be:List Stmt} {p:Pos} (hc:PT C Γ N c n sc ν q) (ht:PX C Γ N t n sc ν bt) (he:PX C Γ N e n sc ν be):PS C Γ N (.iff c t e) n sc ν (.If q bt be p):=by
 intro env P vs σ X F s A E o K hf S hv
 refine bK2 (hv) fun d σ1 hd hv=>?_
 refine bK1 (hv) fun b hb hv=>?_
 refine wpAny_If (wpM (hc K S hd hb) (fun r s₁ q=>?_))
 obtain ⟨rfl,F1,st⟩:=q
 cases r
 ·exact wpM (he K hf st.st hv) (fun fl s₂ q=>q.trans st)
 ·exact wpM (ht K hf st.st hv) (fun fl s₂ q=>q.trans st)
inductive ForInv (C:Cx) (Γ:Mini.Env) (X W:Addr→Prop) (T:Nat→Heap→Prop) (P:List Place) (F₂:Fz) (s:Shared) (ds:List D) (bnd:D→Sg→Option Sg) (b:I) (o:Out) (m:Nat) (s':Shared):Prop
 | mk (F':Fz) (i:Nat) (σi:Sg) (vs':List (Option Value)) (em:m=ds.length+1 - i) (hi:i≤ds.length) (es:∃ h' tk,s'={ s with heap:=h',toks:=tk }) (le:F₂.le F') (same:XSame X s.heap s'.heap)
  (S:St C (Or' X W) F' s'.heap P vs' σi) (t:T i s'.heap) (hf:forN bnd (ex Γ b) (ds.drop i) σi=some o)
inductive WhlInv (C:Cx) (Γ:Mini.Env) (X:Addr→Prop) (P:List Place) (F:Fz) (s:Shared) (c b:I) (o:Out) (k:Nat) (s':Shared):Prop
 | mk (vs':List (Option Value)) (σi:Sg) (F':Fz) (st:Step C X P vs' F s σi F' s') (hw:zp8 (uno c (ev Γ c)) (ex Γ b) k σi=some o)
theorem PS.whl {c b:I} {q:Expr} {bd:List Stmt} {p:Pos} (hc:PT C Γ N c n sc ν q) (hb:PX C Γ N b n sc ν bd):PS C Γ N (.whl c b) n sc ν (.While q bd [] p):=by
 intro env P vs σ X F s A E o K hf S hv
 refine wpAny_While (codeAny_whileLoop (WhlInv C Γ X P F s c b o) ?_ Γ.fuel ⟨vs,σ,F,Step.refl S,hv⟩)
 rintro k s' ⟨vs',σi,F',st,hw⟩
 cases k with
 | zero=>exact (noS hw).elim
 | succ k =>
  refine bK2 (hw) fun d σ1 hd hw=>?_
  refine bK1 (hw) fun t ht hw=>?_
  refine wpM (hc K st.st hd ht) (fun r s₁ q=>?_)
  obtain ⟨rfl,F1,st1⟩:=q
  cases r with
  | true =>
   simp only [if_true]
   refine bK1 (hw) fun o1 hx hw=>?_
   refine wpM (hb K hf st1.st hx) (fun fl s₂ q=>?_)
   cases o1 with
   | next σ2 =>
    obtain ⟨rfl,vs2,F2,st2⟩:=q
    exact ⟨k,Nat.lt_succ_self _,vs2,σ2,F2,(st.trans st1).trans' st2,hw⟩
   | ret d' f' =>
    cases hw
    obtain ⟨v,rfl,vs2,σ2,F2,st2,r⟩:=q
    exact ⟨v,rfl,vs2,σ2,F2,(st.trans st1).trans' st2,r⟩
  | false =>
   cases hw
   simp only [Bool.false_eq_true,if_false]
   exact wpAny_execs_nil ⟨rfl,vs',F1,st.trans st1⟩
theorem forN_cons {bnd:D→Sg→Option Sg} {body:Sg→Option Out} {d:D} {r:List D} {σ:Sg} {o:Out} (h:forN bnd body (d::r) σ=some o) :
  ∃ σ1,bnd d σ=some σ1∧((∃ σ2,body σ1=some (.next σ2)∧forN bnd body r σ2=some o)∨(∃ v f,body σ1=some (.ret v f)∧o=.ret v f)):=by
 refine bK1 (h) fun σ1 hb h=>?_
 refine bK1 (h) fun o1 hx h=>?_
 refine ⟨σ1,hb,?_⟩
 cases o1 with
 | next σ2=>exact .inl ⟨σ2,hx,h⟩
 | ret v f=>cases h; exact .inr ⟨v,f,hx,rfl⟩
noncomputable def FkF (Q:Shared→Prop) (R:Result→Shared→Prop) (f:Flow) (s:Shared):Prop:=match f with
 | .next|.cont=>Q s
 | .brk=>R (.ok .next) s
 | .ret v=>R (.ok (.ret v)) s
noncomputable def FkV (M:Model) (A:Around) (E:Value→Shared→Prop) (tg:Expr) (bd:List Stmt) (env:PySem.Env) (Q:Shared→Prop) (R:Result→Shared→Prop) (v:Value) (s:Shared):Prop :=
 wpAny M A (assign tg env v) (fun _ s₂=>wpAny M A (execs bd env) (FkF Q R) E s₂) E s
theorem forLoop_go {prog:Program} {w:World} {A:Around} {s:Shared} {R:Result→Shared→Prop} {target it body orelse env} (I:Nat→Shared→Prop)
  (turn:∀ E n s,I n s→wpAny (model prog w) A (pyNext it) (NxC (model prog w) A E target it (FkV (model prog w) A E target body env (fun s₃=>∃ m,m<n∧I m s₃) R) fun s₁=>wpAny (model prog w) A (execs orelse env) (fun f s₃=>R (.ok f) s₃) E s₁) E s)
  (n:Nat) (h:I n s):codeAny (model prog w) A (.forLoop target it body orelse env) R s:=by
 refine codeAny_loop' rfl I (fun n s hI=>?_) n h
 show wpAny _ _ ((forTurn target it body orelse env).onRaise (fun x=>do noteFrame x env; theTreesLotGoes x)) _ _ s
 refine wpAny_noted ?_
 simp only [forTurn]
 refine wpAny_bind (wpAny_standAt (wpAny_bind (wpAny_onRaise (wpAny_mono (turn _ n s hI) (fun r s₁ h₁=>?_) fun _ _ h'=>wpAny_standAt h'))))
 cases r with
 | none=>exact wpAny_pure (.inr ⟨rfl,codeAny_block h₁⟩)
 | some v =>
  refine wpAny_bind (wpAny_mono h₁ (fun _ s₀ h₀=>wpAny_bind (wpAny_mono h₀ (fun _ s₂ h₂=>wpAny_bind (wpAny_mono h₂ (fun f s₃ h₃=>?_) fun _ _ h'=>h')) fun _ _ h'=>h')) fun _ _ h'=>h')
  cases f with
  | next=>exact wpAny_pure (.inl ⟨rfl,h₃⟩)
  | cont=>exact wpAny_pure (.inl ⟨rfl,h₃⟩)
  | brk=>exact wpAny_pure h₃
  | ret v=>exact wpAny_pure h₃
noncomputable def PBd (C:Cx) (Γ:Mini.Env) (N:Nat) (bnd:D→Sg→Option Sg) (n:Nat) (sc:Scope) (ν:Nu) (tg:Expr):Prop:=∀ {env:PySem.Env} {P:List Place} {vs:List (Option Value)} {σ σ':Sg} {X:Addr→Prop} {F:Fz} {s:Shared} {A:Around} {E:Value→Shared→Prop} {d:D} {v:Value},
 Cn Γ N env sc ν P n A→(∀ x,env.kindOf x≠some .free)→St C X F s.heap P vs σ→Rep C.w F d v→bnd d σ=some σ'→wpAny (model C.prog C.w) A (assign tg env v) (fun _ s'=>∃ vs',Step C X P vs' F s σ' F s') E s
theorem PS.forB {bnd:D→Sg→Option Sg} {sr b:I} {tg it:Expr} {bd:List Stmt} {p:Pos} (hB:PBd C Γ N bnd n sc ν tg) {gt:Expr→Prop} (hg:gt tg) (hS:PWg C Γ N gt sr n sc ν it) (h0:okE it=true) (hb:PX C Γ N b n sc ν bd) {env:PySem.Env} {P:List Place} {vs:List (Option Value)} {σ:Sg} {X:Addr→Prop} {F:Fz} {s:Shared} {A:Around} {E:Value→Shared→Prop} {o:Out}
  (K:Cn Γ N env sc ν P n A) (hf:∀ x,env.kindOf x≠some .free) (S:St C X F s.heap P vs σ) (hv:((srcE (ev Γ sr) σ).bind fun p=>forN bnd (ex Γ b) p.1 p.2)=some o):wpAny (model C.prog C.w) A (exec (.For tg it bd [] p) env) (PostS C X P F s o) E s:=by
 refine bK2 (hv) fun ds σ1 hs hv=>?_
 refine wpAny_For (wpM (hS K S hs) (fun v s₁ q=>wpM q (fun it s₂ q=>?_))) (ok_folded h0)
 obtain ⟨F₂,J,W,T,rfl,st,hW,ht,hzd,hnob⟩:=q
 have hW':∀ a,W a→¬ X a∧C.H.get? a=none:=fun a ha=>⟨(hnob a ha).x,(hnob a ha).h⟩
 have S2:St C (Or' X W) F₂ s₂.heap P vs σ1:=st.st.protect fun a ha=>⟨hnob a ha,hW.alive 0 _ a ht ha⟩
 obtain ⟨Inv,hI⟩:∃ Inv,Inv=ForInv C Γ X W T P F₂ s ds bnd b o:=⟨_,rfl⟩
 refine forLoop_go Inv ?_ (ds.length+1) (hI▸⟨F₂,0,σ1,vs,rfl,Nat.zero_le _,st.eq,Fz.le_refl _,st.same,S2,ht,hv⟩)
 intro E m s' hI'
 obtain ⟨F',i,σi,vs',rfl,hi,⟨hh,tk,hs'⟩,le,same,S',t,hfor⟩:=hI▸hI'
 clear hI'
 have hcov:∀ a o,C.H.get? a=some o→X a∨F' a≠none:=cov_mono le st.st.cov
 by_cases hlt:i<ds.length
 ·have hdrop:ds.drop i=ds[i]::ds.drop (i+1):=List.drop_eq_getElem_cons hlt
  refine elEA (forN_cons (hdrop▸hfor)) fun σb hbnd hrest=>?_
  refine walk_item (W':=W) hW hg (fun a ha=>ha) hW' le hcov S' t (List.getElem?_eq_getElem hlt) fun v s₀ q=>?_
  obtain ⟨F2,h',tk',rfl,t',le2,S3,same0,rv,keep⟩:=q
  refine wpM (hB (s:={ s' with heap:=h',toks:=tk' }) K hf S3 rv hbnd) (fun _ s₄ w=>?_)
  obtain ⟨vs4,⟨h₂,tk₂,e4⟩,_,S4,same4⟩:=w
  have le':=Fz.le.trans le le2
  have t2:T (i+1) s₄.heap:=hW.frame _ _ _ t' (fun a o e=>S3.sub a o (le' a o e)) (fun a o ha e=>by rw [same4 a (.inr ha)]; exact e) fun a o e=>S4.sub a o (le' a o e)
  have same2:XSame X s.heap s₄.heap:=XSame.trans (XSame.trans same same0) same4.left
  have eqs:∀ {s₃:Shared},(∃ h3 k3,s₃={ s₄ with heap:=h3,toks:=k3 })→∃ h3 k3,s₃={ s with heap:=h3,toks:=k3 }:=fun h=>elEE h fun h3 k3 e=>⟨h3,k3,by rw [e,e4,hs']⟩
  rcases hrest with hrest|hrest
  ·refine elEA hrest fun σ2 hx2 hfor2=>wpM (hb K hf S4 hx2) (fun fl s₃ q=>?_)
   obtain ⟨rfl,vs2,F3,st3⟩:=q
   have le3:F₂.le F3:=Fz.le.trans le' st3.le
   exact show ∃ m,m<ds.length+1 - i∧_ from ⟨ds.length+1 - (i+1),Nat.sub_lt_sub_left (Nat.lt_succ_of_lt hlt) (Nat.lt_succ_self i),hI▸⟨F3,i+1,σ2,vs2,rfl,hlt,eqs st3.eq,le3,XSame.trans same2 st3.same.left,st3.st,
    hW.frame _ _ _ t2 (fun a o e=>S4.sub a o (le' a o e)) (fun a o ha e=>by rw [st3.same a (.inr ha)]; exact e) fun a o e=>st3.st.sub a o (le3 a o e),hfor2⟩⟩
  ·refine elEEA hrest fun d f hx2 ho=>wpM (hb K hf S4 hx2) (fun fl s₃ q=>?_)
   obtain ⟨u,rfl,vs2,σ2,F3,st3,r⟩:=q
   have le3:F₂.le F3:=Fz.le.trans le' st3.le
   rw [ho]
   refine ⟨u,rfl,vs2,σ2,F3,⟨eqs st3.eq,Fz.le.trans st.le le3,st3.st.release (cov_mono le3 st.st.cov),XSame.trans same2 st3.same.left⟩,?_⟩
   cases f with
   | false=>exact r
   | true=>exact elEAAAAA (r) fun a' e' q1 q2 q3 q4 q5=>⟨a',e',q1,fun q=>q2 (.inl q),q3,q4,q5⟩
 ·have hin:i=ds.length:=by bv_omega
  subst hin
  rw [List.drop_length] at hfor
  refine sm1 hfor ?_
  refine walk_done hW t fun h' tk' keep=>?_
  have S1:=S'.release hcov
  exact wpAny_execs_nil ⟨rfl,vs',F',⟨⟨h',tk',by rw [hs']⟩,Fz.le.trans st.le le,S1.change keep fun a ha=>Nob.back S' ha (hW' a ha).1 (hW' a ha).2,
   XSame.trans same fun a e=>(S1.xal a e).elim fun o ho=>(keep a o (fun hw=>(hW' a hw).1 e) ho).trans ho.symm⟩⟩
theorem PS.for1 {k:Nat} {sr b:I} {x:Str} {it:Expr} {bd:List Stmt} {px p:Pos} (hx:Sl ν k x) (hS:PW C Γ N sr n sc ν it) (h0:okE it=true) (hb:PX C Γ N b n sc ν bd):PS C Γ N (.for1 k sr b) n sc ν (.For (.Name x px) it bd [] p) :=
 fun K hf S hv=>PS.forB (fun K hf S r e=>by
  cases e
  exact wpAny_assign_Name (zo4 K.O S hx.at' (f:=false) r (hf x) fun h' tk S' same=>⟨_,⟨h',tk,rfl⟩,Fz.le_refl _,S',same⟩)) trivial hS h0 hb K hf S hv
inductive Sls (ν:Nu):List Nat→List (Str×Pos)→Prop
 | nil:Sls ν [] []
 | cons {k:Nat} {q:Str×Pos} {ks:List Nat} {l:List (Str×Pos)}:Sl ν k q.1→Sls ν ks l→Sls ν (k::ks) (q::l)
theorem Sls.length {ν:Nu} {ks:List Nat} {l:List (Str×Pos)} (h:Sls ν ks l):ks.length=l.length:=by
 induction h with
 | nil=>rfl
 | cons _ _ ih=>simp [ih]
theorem stores_ok {env:PySem.Env} {P:List Place} {X:Addr→Prop} {A:Around} {E:Value→Shared→Prop} (O:EnvOk env sc ν P) (hf:∀ x,env.kindOf x≠some .free) {ks:List Nat} {l:List (Str×Pos)} (h:Sls ν ks l) :
  ∀ {vs:List (Option Value)} {σ:Sg} {F:Fz} {s:Shared} {ds:List D} {ws:List Value},St C X F s.heap P vs σ→RepL C.w F ds ws→ds.length=ks.length →
   wpAny (model C.prog C.w) A (assignInOrder (l.map fun q=>assign (nmE q) env) ws) (fun _ s'=>∃ vs',Step C X P vs' F s (putAll σ ks ds) F s') E s:=by
 induction h with
 | nil =>
  intro vs σ F s ds ws S r hl
  cases ds with
  | nil=>exact wpAny_pure ⟨vs,Step.refl S⟩
  | cons d ds=>simp at hl
 | cons hx _ ih =>
  intro vs σ F s ds ws S r hl
  cases ds with
  | nil=>simp at hl
  | cons d ds =>
   simp only [RepL] at r
   (refine elEEAA (r) fun v rest e_2 r1 r2=>?_; subst e_2)
   show wpAny _ A (do holding rest (assign (.Name _ _) env v); assignInOrder _ rest) _ _ s
   refine wpAny_bind (wpAny_holding (wpAny_assign_Name (zo4 O S hx.at' (d:=d) (f:=false) r1 (hf _) fun h' tk S' same=>?_)))
   have st1:Step C X P _ F s _ F { s with heap:=h',toks:=tk }:=⟨⟨h',tk,rfl⟩,Fz.le_refl F,S',same⟩
   refine wpM (ih (s:={ s with heap:=h',toks:=tk }) S' r2 (by simpa using hl)) (fun _ s' q=>?_)
   obtain ⟨vs',st2⟩:=q
   exact ⟨vs',st1.trans' st2⟩
set_option tactic.hygienic true in
theorem PS.asgs {ks:List Nat} {e:I} {l:List (Str×Pos)} {q:Nat} {y:Str} {py tp p:Pos} (hx:Sls ν ks l) (h:PE C Γ N e n sc ν (.Name y py)):PS C Γ N (.asgs ks e) n sc ν (.Assign [.Tuple (l.map nmE) q tp] (.Name y py) p):=by
 intro env P vs σ X F s A E o K hf S hv
 refine bK3 (hv) fun d f σ1 he hv=>?_
 refine bK1 (hv) fun ds hd hv=>?_
 obtain ⟨hl,hv⟩:=ifS hv
 cases hv
 cases d<;>try exact (noS hd).elim
 rename_i ds'
 cases hd
 refine PyProof.Rows.Assign_Tuple (wpM (h.frozen K S he) (fun v s₁ w=>?_)) rfl rfl
 obtain ⟨F1,st,r⟩:=w
 simp only [Rep] at r
 (refine elAEEEAA (r) fun hz a ws m e_4 hF r_n=>?_; clear r; revert r_n; intro r; subst e_4)
 have h1:=st.st.sub _ _ hF
 have e1:=r.length
 simp only [Array.length_toList] at e1
 refine PyProof.Rows.assign_Tuple_tuple K.R.handled (items:=ws) ⟨_,h1,rfl,_,rfl⟩ ?_ ?_ fun h' he'=>?_
 ·rw [zu1,List.length_map,← hx.length,← hl,e1]
 ·rw [zu1]; exact names_star l
 ·rw [zu1,List.map_map]
  have k:∀ b o,s₁.heap.get? b=some o→h'.get? b=some o:=fun b o e=>he' b o (Nat.ne_of_lt (Heap.lt_size e)) e
  have st2:=Step.grow (tk:=s₁.toks) st.st k
  refine wpM (stores_ok K.O hf hx (s:={ s₁ with heap:=h' }) st2.st r hl) (fun _ s' w=>?_)
  obtain ⟨vs',st3⟩:=w
  exact ⟨rfl,vs',F1,(st.trans st2).trans' st3⟩
theorem PS.fors {ks:List Nat} {sr b:I} {l:List (Str×Pos)} {q:Nat} {it:Expr} {bd:List Stmt} {tp p:Pos} {gt:Expr→Prop} (hg:gt (.Tuple (l.map nmE) q tp)) (hx:Sls ν ks l) (hS:PWg C Γ N gt sr n sc ν it) (h0:okE it=true) (hb:PX C Γ N b n sc ν bd):PS C Γ N (.fors ks sr b) n sc ν (.For (.Tuple (l.map nmE) q tp) it bd [] p) :=
 fun K hf S hv=>PS.forB (fun {env P vs σ σ' X F s A E d v} K hf S r e=>by
  refine bK1 (e) fun ds hd e=>?_
  obtain ⟨hl,e⟩:=ifS e
  cases e
  cases d<;>try exact (noS hd).elim
  cases hd
  simp only [Rep] at r
  (refine elAEEEAA (r) fun hz a ws m e_4 hF r_n=>?_; clear r; revert r_n; intro r; subst e_4)
  have h1:=S.sub _ _ hF
  have e1:=r.length
  simp only [Array.length_toList] at e1
  refine PyProof.Rows.assign_Tuple_tuple K.R.handled (items:=ws) ⟨_,h1,rfl,_,rfl⟩ ?_ ?_ fun h' he'=>?_
  ·rw [zu1,List.length_map,← hx.length,← hl,e1]
  ·rw [zu1]; exact names_star l
  ·rw [zu1,List.map_map]
   have k:∀ b o,s.heap.get? b=some o→h'.get? b=some o:=fun b o e=>he' b o (Nat.ne_of_lt (Heap.lt_size e)) e
   have st2:=Step.grow (tk:=s.toks) S k
   refine wpM (stores_ok K.O hf hx (s:={ s with heap:=h' }) st2.st r hl) (fun _ s' w=>?_)
   obtain ⟨vs',st3⟩:=w
   exact ⟨vs',st2.trans' st3⟩) hg hS h0 hb K hf S hv
set_option tactic.hygienic true in
theorem hasOwn_some {σ:Sg} {k:Nat} (h:zj4 σ k=true):∃ d,σ[k]?=some (some (.own d)):=by
 unfold zj4 at h
 split at h
 ·rename_i d hd; exact ⟨d,hd⟩
 ·cases h
theorem St.own_ref {X:Addr→Prop} {P:List Place} {vs:List (Option Value)} {F:Fz} {h:Heap} {σ:Sg} (S:St C X F h P vs σ) {k:Nat} (ho:zj4 σ k=true):∃ a,vs[k]?=some (some (.ref a)):=by
 obtain ⟨d,hd⟩:=hasOwn_some ho
 have hlt:k<vs.length:=by rw [← S.lenS]; exact (List.getElem?_eq_some_iff.mp hd).1
 refine elEA (S.slot k vs[k] _ (List.getElem?_eq_getElem hlt) hd) fun a e1 _=>?_
 exact ⟨a,by rw [List.getElem?_eq_getElem hlt,e1]⟩
theorem swaps_sub {v a b:Expr} {q:Pos} {l:Nat} {env:PySem.Env}:swapsWith v (some (.Subscript a b q)) l env=pure false:=by cases v<;>rfl
theorem PS.sto (ds:DictSet C.w) {k:Nat} {key e:I} {x:Str} {ix v:Expr} {px ps p:Pos} (hx:Sl ν k x) (hk:PE C Γ N key n sc ν ix) (he':PE C Γ N e n sc ν v):PS C Γ N (.sto k key e) n sc ν (.Assign [.Subscript (.Name x px) ix ps] v p):=by
 intro env P vs σ X F s A E o K hf S hv
 refine bK3 (hv) fun dv fv σ1 he hv=>?_
 by_cases hown:zj4 σ1 k=true
 ·have hv:=(if_pos hown).symm.trans hv
  refine bK3 (hv) fun dx fx σ2 hx2 hv=>?_
  refine bK1 (hv) fun kvs ho hv=>?_
  obtain ⟨hko,hv⟩:=ifS hv
  have hko:=Bool.and_eq_true_iff.mp hko
  have hv:Out.next (σ2.set k (some (.own (.dict (dput kvs dx dv)))))=o:=hv
  refine sm1 (congrArg some hv) ?_
  have hs:=ownD_some ho
  refine wpAny_Assign_Subscript (wpM (he'.frozen K S he) (fun vv s₁ q=>?_)) swaps_sub
  obtain ⟨F1,st1,r1⟩:=q
  obtain ⟨a,hv⟩:=st1.st.own_ref hown
  refine zm1 K.O st1.st hx.at' hv hx.ok (wpM (hk.frozen K st1.st hx2) (fun kv s₂ q=>?_))
  obtain ⟨F2,st2,r2⟩:=q
  obtain ⟨a',hv',hfa,q,hH,hX⟩:=st2.st.own_at hs
  rw [hv] at hv'; cases hv'
  refine wpM (ds C.prog A E s₂ F2 N K.R st2.st.sub r2 (Rep.mono st2.le _ r1) q hfa hko.1 (of_decide_eq_true hko.2)) (fun _ s₃ q=>?_)
  (refine elEEAA (q) fun h' tk e_2 hsame hsh=>?_; subst e_2)
  have st3:=st1.trans st2
  exact ⟨rfl,vs,F2,st3.trans ⟨⟨h',tk,rfl⟩,Fz.le_refl _,st2.st.upd hv hs hsame hsh hH,fun b hb=>hsame b (by rintro rfl; exact hX hb)⟩⟩
 ·exact (noS ((if_neg hown).symm.trans hv)).elim
theorem method1 {env:PySem.Env} {P:List Place} {vs:List (Option Value)} {σ:Sg} {X:Addr→Prop} {F:Fz} {s:Shared} {A:Around} {E:Value→Shared→Prop} {Q:Flow→Shared→Prop}
  {x m:Str} {px ap cp pos:Pos} {a:Expr} {k:Nat} {l:Addr} {id:String} (O:EnvOk env sc ν P) (S:St C X F s.heap P vs σ) (hx:Sl ν k x) (hline:ap.endLine=cp.line) (hc:okE a=true)
  (slot:Slot "list" m id) (hty:typeOf (.builtin id)=pure (.type "method_descriptor")) (hv:vs[k]?=some (some (.ref l))) {ws:Array Value} {c:Nat} (h1:s.heap.get? l=some (lobj ws c))
  (h:wpAny (model C.prog C.w) A (callWith cp (.builtin id) [.ref l] [(false,eval a env)] []) (fun v s'=>v=.none∧Q .next s') E s) :
  wpAny (model C.prog C.w) A (exec (.Expr (.Call (.Attribute (.Name x px) m ap) [a] [] cp) pos) env) Q E s:=by
 have hst:backTo cp (starEach [a] env)=[(false,eval a env)]:=by rw [zv4 hc]; rfl
 refine wpAny_Expr ?_ (zl2 O) (by rfl)
 refine wpAny_Call_method (T := "list") (id:=id) rfl (by rw [hst]; rfl) (by simpa using hline) PySem.F.plainAttrs_list slot hty (zm1 O S hx.at' hv hx.ok ?_)
 refine ⟨⟨_,h1,rfl⟩,fun b hb=>⟨_,by cases hb; exact h1,rfl⟩,?_⟩
 rw [hst]
 refine wpM h (fun v s' q=>?_)
 obtain ⟨rfl,q⟩:=q
 exact q
theorem noTooLong {a b:Nat} (h:a+b<size):¬ ((!decide (a=0))&&Builtin.List.listTooLong (a+b))=true:=by
 have:Builtin.List.listTooLong (a+b)=false:=by
  rw [← zl0] at h
  simp [Builtin.List.listTooLong]; bv_omega
 rw [this]; simp
theorem own_list {X:Addr→Prop} {P:List Place} {vs:List (Option Value)} {F:Fz} {s:Shared} {σ:Sg} (S:St C X F s.heap P vs σ) {k:Nat} {l:List D} (hl:ownL σ k=some l) :
  ∃ a ws c,vs[k]?=some (some (.ref a))∧s.heap.get? a=some (lobj ws c):=by
 obtain ⟨a,hv,_,⟨_,ws,c,h1,_⟩,_⟩:=S.own_at (zk0 hl)
 exact ⟨a,ws,c,hv,h1⟩
theorem ownLK {X:Addr→Prop} {P:List Place} {vs:List (Option Value)} {F:Fz} {s:Shared} {σ:Sg} (S:St C X F s.heap P vs σ) {k:Nat} {l:List D} {a:Addr} (hs:σ[k]?=some (some (.own (.list l)))) (hv:vs[k]?=some (some (.ref a))) {R:Prop}
  (h:l.length≤size→∀ ws c,s.heap.get? a=some (lobj ws c)→RepL C.w F l ws.toList→ws.size=l.length→R):R:=by
 obtain ⟨a',hv',_,⟨hz,ws,c,h1,r⟩,_⟩:=S.own_at hs
 have e:a'=a:=by rw [hv] at hv'; cases hv'; rfl
 exact h hz ws c (e▸h1) r r.length
theorem post_next {X:Addr→Prop} {P:List Place} {vs:List (Option Value)} {F F1:Fz} {s s':Shared} {σ:Sg} (st:Step C X P vs F s σ F1 s'):Value.none=Value.none∧PostS C X P F s (.next σ) .next s':=⟨rfl,rfl,vs,F1,st⟩
theorem PS.app {k:Nat} {e:I} {x:Str} {a:Expr} {px ap cp p:Pos} (hline:ap.endLine=cp.line) (hx:Sl ν k x) (h:PE C Γ N e n sc ν a) (h0:okE a=true):PS C Γ N (.app k e) n sc ν (.Expr (.Call (.Attribute (.Name x px) "append" ap) [a] [] cp) p):=by
 intro env P vs σ X F s A E o K hf S hv
 refine bK1 (hv) fun l0 hl0 hv=>?_
 refine bK3 (hv) fun d f σ1 he hv=>?_
 refine bK1 (hv) fun l hl hv=>?_
 obtain ⟨hz,hv⟩:=ifS hv
 have hv:Out.next (σ1.set k (some (.own (.list (l++[d])))))=o:=hv
 refine sm1 (congrArg some hv) ?_
 refine elEEEA (own_list S hl0) fun a' ws c hv' h1=>?_
 have hs:=zk0 hl
 refine method1 K.O S hx hline h0 PySem.F.slot_list_append PySem.F.type_list_append hv' h1 ?_
 refine PySem.P.append_list (wpM (h.frozen K S he) (fun v s₁ q=>?_))
 obtain ⟨F1,st1,r⟩:=q
 have hz:l.length+1<size:=hz
 refine ownLK st1.st hs hv' fun _ ws2 c2 h2 r2 e1=>⟨ws2,c2,by rw [zl0]; bv_omega,h2,post_next (st1.trans (Step.update (tk:=s₁.toks) st1.st (l':=l++[d]) hs hv' h2 (fun xs=>xs.push v) (by rw [List.length_append]; exact Nat.le_of_lt hz) ?_))⟩
 rw [Array.toList_push]; exact r2.append (RepL.cons_ r RepL.nil_)
theorem list_extendG (l:Addr) (items:Array Value) (n:Nat) (b:Addr) (items2:Array Value) (n2:Nat) (dd:Option Addr) (sl:Array (Option Value)) (hc0:¬(!items.isEmpty&&Builtin.List.listTooLong (items.size+items2.size))=true) (hc1:items.size≤sizeLine) (hs2:items.size+items2.size≤sizeLine+1) :
  Meets (Builtin.«list.extend» ⟨[.ref l,.ref b],[]⟩) (fun _ R s=>s.heap.get? l=some { cls:=.type "list", dict:=none,data:=.seq items n,slots:=#[] }∧s.heap.get? b=some { cls:=.type "list", dict:=dd,data:=.seq items2 n2,slots:=sl }∧R (.ok (.ret Value.none)) { s with heap:=s.heap.update l (Obj.mapSeq fun x=>x++items2),toks:=s.toks }) :=
 .of_wp fun prog w A R s h=>by
  obtain ⟨hp,g,d,tk,os⟩:=s; (refine elAA (h) fun hl hb h_n=>?_; clear h; revert h_n; intro h)
  have f3:=AutoSeq1.sub_list_list
  have hz':(items++items2).size≤sizeLine+1:=by rw [Array.size_append]; exact hs2
  wp_walk using (wpAny_updateSeq hl rfl (hz:=hc1) (_hz':=hz')),AutoSeq1.wpAny_loadPart' hl,AutoSeq1.wpAny_loadPart' hb
  exact ⟨_,rfl,h⟩
inductive ExtOk (ob:Array Value→Nat→Obj→Prop) (l:Addr) (Q:Value→Shared→Prop) (v:Value) (s:Shared):Prop
 | mk (b:Addr) (items items2:Array Value) (n n2:Nat) (o:Obj) (hz:items.size+items2.size≤sizeLine) (hd:¬(!items.isEmpty&&Builtin.List.listTooLong (items.size+items2.size))=true) (e:v=.ref b) (hl:s.heap.get? l=some (lobj items n)) (hb:s.heap.get? b=some o) (ho:ob items2 n2 o)
  (hq:Q .none { s with heap:=s.heap.update l (Obj.mapSeq fun xs=>xs++items2) })
noncomputable def isLO (items:Array Value) (n:Nat) (o:Obj):Prop:=∃ dd sl,o={ cls:=.type "list", dict:=dd,data:=.seq items n,slots:=sl }
theorem extend_listG {A:Around} {E:Value→Shared→Prop} {s:Shared} {pos:Pos} {l:Addr} {x:Sem Value} {Q:Value→Shared→Prop} (h:wpAny (model C.prog C.w) A x (ExtOk isLO l Q) E s) :
  wpAny (model C.prog C.w) A (callWith pos (.builtin "list.extend") [.ref l] [(false,x)] []) Q E s :=
 seqMethod1_meets PySem.F.slot_list_extend PySem.F.entry_list_extend (wpM h (fun v s₁ h₁=>by
  obtain ⟨b,items,items2,n,n2,o,hz,hd,rfl,hl,hb,⟨dd,sl,rfl⟩,hq⟩:=h₁
  exact ⟨⟨_,hl,rfl⟩,PySem.F.args_list_extend_2 _ _,_,list_extendG l items n b items2 n2 dd sl hd (Nat.le_trans (Nat.le_add_right _ _) hz) (Nat.le_succ_of_le hz),hl,hb,hq⟩))
noncomputable def isTO (items:Array Value) (n:Nat) (o:Obj):Prop:=o=tobj items n
theorem extend_tuple {A:Around} {E:Value→Shared→Prop} {s:Shared} {pos:Pos} {l:Addr} {x:Sem Value} {Q:Value→Shared→Prop} (h:wpAny (model C.prog C.w) A x (ExtOk isTO l Q) E s) :
  wpAny (model C.prog C.w) A (callWith pos (.builtin "list.extend") [.ref l] [(false,x)] []) Q E s :=
 seqMethod1_meets PySem.F.slot_list_extend PySem.F.entry_list_extend (wpM h (fun v s₁ h₁=>by
  obtain ⟨b,items,items2,n,n2,o,hz,hd,rfl,hl,hb,ho,hq⟩:=h₁
  exact ⟨⟨_,hl,rfl⟩,PySem.F.args_list_extend_2 _ _,_,AutoSeq1.list_extend_list_tuple_0 l items n b items2 n2 hd (Nat.le_trans (Nat.le_add_right _ _) hz) (Nat.le_succ_of_le hz),hl,hb.trans (congrArg some ho),hq⟩))
theorem ext_fin {X:Addr→Prop} {P:List Place} {vs:List (Option Value)} {F F1:Fz} {s s₁:Shared} {σ1:Sg} {k:Nat} {l r:List D} {a b:Addr} {ws3:Array Value} {c3:Nat} {o:Obj} {ob:Array Value→Nat→Obj→Prop} (st1:Step C X P vs F s σ1 F1 s₁) (hs:σ1[k]?=some (some (.own (.list l)))) (hv:vs[k]?=some (some (.ref a)))
  (hz:l.length+r.length<size) (r3:RepL C.w F1 r ws3.toList) (hb:s₁.heap.get? b=some o) (ho:ob ws3 c3 o):ExtOk ob a (fun v s'=>v=.none∧PostS C X P F s (.next (σ1.set k (some (.own (.list (l++r)))))) .next s') (.ref b) s₁:=by
 refine ownLK st1.st hs hv fun _ ws2 c2 h2 r2 e1=>?_
 have e2:ws3.size=r.length:=r3.length
 have hz':ws2.size+ws3.size<size:=by rw [e1,e2]; exact hz
 have hd:=noTooLong hz'
 refine ⟨b,ws2,ws3,c2,c3,o,Nat.le_of_lt hz',by simpa [Array.isEmpty] using hd,rfl,h2,hb,ho,post_next (st1.trans (Step.update (tk:=s₁.toks) st1.st (l':=l++r) hs hv h2 (fun xs=>xs++ws3) (by rw [List.length_append]; exact Nat.le_of_lt hz) ?_))⟩
 rw [Array.toList_append]; exact r2.append r3
theorem PS.ext {k:Nat} {e:I} {x:Str} {a:Expr} {px ap cp p:Pos} (hline:ap.endLine=cp.line) (hx:Sl ν k x) (h:PE C Γ N e n sc ν a) (h0:okE a=true):PS C Γ N (.ext k e) n sc ν (.Expr (.Call (.Attribute (.Name x px) "extend" ap) [a] [] cp) p):=by
 intro env P vs σ X F s A E o K hf S hv
 refine bK1 (hv) fun l0 hl0 hv=>?_
 refine bK3 (hv) fun d f σ1 he hv=>?_
 refine bK1 (hv) fun r hr hv=>?_
 refine bK1 (hv) fun l hl hv=>?_
 obtain ⟨hz,hv⟩:=ifS hv
 have hv:Out.next (σ1.set k (some (.own (.list (l++r)))))=o:=hv
 refine sm1 (congrArg some hv) ?_
 refine elEEEA (own_list S hl0) fun a' ws c hv' h1=>?_
 have hs:=zk0 hl
 refine method1 K.O S hx hline h0 PySem.F.slot_list_extend PySem.F.type_list_extend hv' h1 ?_
 have hr:extD d=some r:=hr
 revert he
 refine extK hr (fun he=>?_)
  (fun he=>?_)
 ·refine extend_listG (wpM (h.frozen K S he) (fun v s₁ q=>?_))
  obtain ⟨F1,st1,rr⟩:=q
  refine Top.lisK (.inl rr) st1.st.sub fun _ b dd sl ws3 c3 h3 r3=>?_
  exact ext_fin (ob:=isLO) st1 hs hv' hz r3 h3 ⟨dd,sl,rfl⟩
 ·refine extend_tuple (wpM (h.frozen K S he) (fun v s₁ q=>?_))
  obtain ⟨F1,st1,rr⟩:=q
  refine Top.tupK (.inl rr) st1.st.sub fun _ b ws3 c3 _ h3 r3=>?_
  exact ext_fin (ob:=isTO) st1 hs hv' hz r3 h3 rfl
theorem PS.clr {k:Nat} {x:Str} {px ap cp p:Pos} (hline:ap.endLine=cp.line) (hx:Sl ν k x):PS C Γ N (.clr k) n sc ν (.Expr (.Call (.Attribute (.Name x px) "clear" ap) [] [] cp) p):=by
 intro env P vs σ X F s A E o K hf S hv
 refine bK1 (hv) fun l hl hv=>?_
 cases hv
 have hs:=zk0 hl
 obtain ⟨a',hv',hf2,⟨hz2,ws,c,h1,r2⟩,hH,hX⟩:=S.own_at hs
 have e1:=r2.length
 simp at e1
 refine wpAny_Expr ?_ (zl2 K.O) (by rfl)
 refine wpAny_Call_method (T := "list") (id := "list.clear") rfl (by rfl) (by simpa using hline) PySem.F.plainAttrs_list PySem.F.slot_list_clear PySem.F.type_list_clear (zm1 K.O S hx.at' hv' hx.ok ?_)
 refine ⟨⟨_,h1,rfl⟩,fun b hb=>⟨_,by cases hb; exact h1,rfl⟩,?_⟩
 refine PySem.P.clear_list (n:=c) h1 ?_ (by rw [zl0]; bv_omega)
 exact ⟨rfl,vs,F,Step.update (tk:=s.toks) S (l':=[]) hs hv' h1 (fun _=>#[]) (Nat.zero_le _) RepL.nil_⟩
structure GL (C:Cx) (Γ:Mini.Env) (N:Nat) (i:I) (n:Nat) (sc:Scope) (ν:Nu) (l:List Expr):Prop where
 es:PES C Γ N i n sc ν l
 an:PAnd C Γ N i n sc ν l
 or:POr C Γ N i n sc ν l
 sh:(i=.nil∧l=[])∨∃ a r x t,i=.cons a r∧l=x::t
noncomputable def GT (C:Cx) (Γ:Mini.Env) (N:Nat) (i:I) (n:Nat) (sc:Scope) (ν:Nu):Tg→Prop
 | .ex t e=>PW C Γ N i n sc ν e∧(t=false→GE C Γ N i n sc ν e)
 | .exs es=>GL C Γ N i n sc ν es
 | .opt o=>PB C Γ N i n sc ν o
 | .ifs l=>PC C Γ N i n sc ν l
 | .st s=>PS C Γ N i n sc ν s
 | .sts l=>PX C Γ N i n sc ν l
theorem GE.of {i:I} {e:Expr} (h:PE C Γ N i n sc ν e) (hb:isBrw i=false) (t:PT C Γ N i n sc ν e) (hc:noComp e=true):GE C Γ N i n sc ν e:=⟨h,PE.opnd hb h,t,PU.plain h hc⟩
theorem GE.tg (di:DictIter C.w) {i:I} {t:Bool} {e:Expr} (h:GE C Γ N i n sc ν e):GT C Γ N i n sc ν (.ex t e):=⟨PW.plain di h.e,fun _=>h⟩
theorem GE.brw {k:Nat} {x:Str} {p:Pos} (hx:Sl ν k x):GE C Γ N (.brw k) n sc ν (.Name x p) :=
 ⟨fun _ _ hv=>(noS hv).elim,PO.brw hx,PT.plain (PO.brw hx) fun _ _=>rfl,fun _ _ _ _ hv=>(noS hv).elim⟩
theorem GE.compG {i elt sr cond:I} {ee it:Expr} {nm:List Str} {tg:Expr} {bc:D→Option (List D)} {ifs:List Expr} {csc:Scope} {pos:Pos} (hi:isBrw i=false) (hev:∀ σ,ev Γ i σ=compEv Γ bc elt sr cond σ) (hBc:PBc C bc n nm csc ν tg) (hnm:nm.Nodup) (hne:nm≠[]) (hS:PW C Γ N sr n sc ν it) (hE:PE C Γ N elt (n+nm.length) csc (zw4 n ν nm csc) ee) (hT:PC C Γ N cond (n+nm.length) csc (zw4 n ν nm csc) ifs) (h0:okE it=true) (KC:CompOk sc ν nm csc) :
  GE C Γ N i n sc ν (.ListComp ee [⟨tg,it,ifs,0⟩] csc pos) :=
 ⟨PE.compG hev hBc hnm hne hS hE hT h0 KC,PE.opnd hi (PE.compG hev hBc hnm hne hS hE hT h0 KC),PT.plain (PE.opnd hi (PE.compG hev hBc hnm hne hS hE hT h0 KC)) (isTrue_plainE rfl),PU.compG hev hBc hnm hne hS hE hT h0 KC⟩
theorem GE.comp1 {elt sr cond:I} {ee it:Expr} {x:Str} {px:Pos} {ifs:List Expr} {csc:Scope} {pos:Pos} (hS:PW C Γ N sr n sc ν it) (hE:PE C Γ N elt (n+1) csc (zw4 n ν [x] csc) ee) (hT:PC C Γ N cond (n+1) csc (zw4 n ν [x] csc) ifs) (h0:okE it=true) (KC:CompOk sc ν [x] csc) :
  GE C Γ N (.comp1 elt sr cond) n sc ν (.ListComp ee [⟨.Name x px,it,ifs,0⟩] csc pos):=GE.compG (bc:=bc1) rfl compEv1 PBc.name (by simp) (by simp) hS hE hT h0 KC
theorem GE.compT {elt sr cond:I} {ee it:Expr} {l:List (Str×Pos)} {q:Nat} {tp:Pos} {ifs:List Expr} {csc:Scope} {pos:Pos} (hnm:(l.map (·.1)).Nodup) (hne:l.map (·.1)≠[]) (hS:PW C Γ N sr n sc ν it) (hE:PE C Γ N elt (n+(l.map (·.1)).length) csc (zw4 n ν (l.map (·.1)) csc) ee) (hT:PC C Γ N cond (n+(l.map (·.1)).length) csc (zw4 n ν (l.map (·.1)) csc) ifs) (h0:okE it=true) (KC:CompOk sc ν (l.map (·.1)) csc) :
  GE C Γ N (.compT (l.map (·.1)).length elt sr cond) n sc ν (.ListComp ee [⟨.Tuple (l.map nmE) q tp,it,ifs,0⟩] csc pos):=GE.compG rfl (fun _=>rfl) (PBc.tup hnm) hnm hne hS hE hT h0 KC
theorem GL.cons {a r:I} {e:Expr} {es:List Expr} (ha:GE C Γ N a n sc ν e) (h0:okE e=true) (hr:GL C Γ N r n sc ν es):GL C Γ N (.cons a r) n sc ν (e::es):=by
 obtain ⟨rfl,rfl⟩|⟨_,_,_,_,rfl,rfl⟩:=hr.sh
 ·exact ⟨PES.cons ha.e h0 hr.es,PAnd.last ha.e ha.t,POr.last ha.e ha.t,.inr ⟨_,_,_,_,rfl,rfl⟩⟩
 ·exact ⟨PES.cons ha.e h0 hr.es,PAnd.more ha.e ha.t hr.an,POr.more ha.e ha.t hr.or,.inr ⟨_,_,_,_,rfl,rfl⟩⟩
end
end Snd
end
section
namespace Snd
open PySem Mini PySem.SeqAt
open AutoSeq1 (wpAny_loadPart')
open MeetsSeq MeetsSeq2 MeetsSeq3 SeqRoads2
theorem remove_at (l:Addr) (items:Array Value) (n:Nat) (x:Value) (j:Nat) (hj:j<items.size) (hs1:items.size≤sizeLine) (k:Nat) :
  ∀ i:Nat,j - i=k→i≤j→Meets (Builtin.«list.remove.loop» ⟨[.ref l,x,rawInt i],[]⟩)
   (fun A R s=>s.heap.get? l=some { cls:=.type "list", dict:=none,data:=.seq items n,slots:=#[] }∧(∀ m (h:m<items.size),m≤j→EqAt A.in1 s items[m] x (decide (m=j))) ∧
    R (.ok (.ret .none)) { s with heap:=s.heap.update l (Obj.mapSeq fun xs=>xs.eraseIdxIfInBounds j) }):=by
 induction k with
 | zero =>
  intro i hk hij prog w A R s h
  obtain ⟨hp,g,d,tk,os⟩:=s
  (refine elAA (h) fun hl he h_n=>?_; clear h; revert h_n; intro h)
  have e:i=j:=Nat.le_antisymm hij (Nat.le_of_sub_eq_zero hk)
  subst e
  wp_walk using wpAny_loadPart' hl
  rw [show items[((i:Nat):Int).toNat]?=some items[i] by simp [hj]]
  refine wpAny_bind (he i hj (Nat.le_refl _) prog w _ _ ?_)
  rw [decide_eq_true rfl]
  have hz':(items.eraseIdxIfInBounds i).size≤sizeLine+1:=Nat.le_trans (size_erased items _) (Nat.le_succ_of_le hs1)
  wp_walk using (wpAny_updateSeq hl rfl (hz:=hs1) (_hz':=hz')),wpAny_loadPart' hl
  simpa using h
 | succ k ih =>
  intro i hk hij prog w A R s h
  obtain ⟨hp,g,d,tk,os⟩:=s
  (refine elAA (h) fun hl he h_n=>?_; clear h; revert h_n; intro h)
  have hlt:i<items.size:=by bv_omega
  wp_walk using wpAny_loadPart' hl
  rw [show items[((i:Nat):Int).toNat]?=some items[i] by simp [hlt]]
  refine wpAny_bind (he i hlt hij prog w _ _ ?_)
  rw [decide_eq_false (show ¬ i=j from Nat.ne_of_lt (Nat.lt_of_sub_pos (hk▸Nat.succ_pos k)))]
  wp_walk
  rw [show ((i:Int)+1)=((i+1:Nat):Int) by push_cast; rfl]
  exact ⟨plainId_quiet plain_remove_loop _,codeAny_builtin entry_remove_loop (by
   rw [Around.under_plainId plain_remove_loop _]
   exact ih (i+1) (congrArg Nat.pred hk) (Nat.lt_of_sub_pos (hk▸Nat.succ_pos k)) prog w A R _ ⟨hl,he,h⟩)⟩
theorem RepL.erase {w:World} {F:Fz}:∀ {ds:List D} {vs:List Value} (j:Nat),RepL w F ds vs→RepL w F (ds.eraseIdx j) (vs.eraseIdx j)
 | [],vs,j,r=>by simp only [RepL] at r; subst r; simp [RepL]
 | d::ds,vs,0,r=>by simp only [RepL] at r; (refine elEEAA (r) fun v t e_2 _ r2=>?_; subst e_2); exact r2
 | d::ds,vs,j+1,r=>by
  simp only [RepL] at r
  (refine elEEAA (r) fun v t e_2 r1 r2=>?_; subst e_2)
  exact RepL.cons_ r1 (RepL.erase j r2)
variable {C:Cx} {Γ:Mini.Env} {N:Nat} {n:Nat} {sc:Scope} {ν:Nu}
inductive RemOk (A:Around) (l:Addr) (Q:Value→Shared→Prop) (v:Value) (s:Shared):Prop
 | mk (items:Array Value) (m j:Nat) (hj:j<items.size) (hz:items.size≤sizeLine) (hl:s.heap.get? l=some (lobj items m)) (he:∀ i (h:i<items.size),i≤j→EqAt A.in1 s items[i] v (decide (i=j)))
  (hq:Q .none { s with heap:=s.heap.update l (Obj.mapSeq fun xs=>xs.eraseIdxIfInBounds j) })
theorem remove_list {A:Around} {E:Value→Shared→Prop} {s:Shared} {pos:Pos} {l:Addr} {x:Sem Value} {Q:Value→Shared→Prop} (h:wpAny (model C.prog C.w) A x (RemOk A l Q) E s) :
  wpAny (model C.prog C.w) A (callWith pos (.builtin "list.remove") [.ref l] [(false,x)] []) Q E s :=
 seqMethod1_meets PySem.F.slot_list_remove PySem.F.entry_list_remove (wpM h (fun v s₁ h₁=>by
  obtain ⟨items,m,j,hj,hsz,hl,he,hq⟩:=h₁
  refine ⟨⟨_,hl,rfl⟩,PySem.F.args_list_remove_2 _ _,fun A R s=>s.heap.get? l=some (lobj items m)∧(∀ i (h:i<items.size),i≤j→EqAt A.in1 s items[i] v (decide (i=j)))∧R (.ok (.ret .none)) { s with heap:=s.heap.update l (Obj.mapSeq fun xs=>xs.eraseIdxIfInBounds j) },?_,hl,he,hq⟩
  clear hq he hl
  intro prog w A R s h
  obtain ⟨hp,g,d,tk,os⟩:=s
  obtain ⟨hl,he,h⟩:=h
  wp_walk using wpAny_loadPart' hl
  exact ⟨plainId_quiet plain_remove_loop _,codeAny_builtin entry_remove_loop (by
   rw [Around.under_plainId plain_remove_loop _]
   exact remove_at l items m v j hj hsz _ 0 rfl (Nat.zero_le _) prog w A R _ ⟨hl,he,h⟩)⟩))
theorem find_eq {l:List D} {d:D} {i:Nat} (hi:i<l.length) (hj:(l.findIdx fun y=>PyData.eqv y d)<l.length) (hij:i≤l.findIdx fun y=>PyData.eqv y d):PyData.eqv l[i] d=decide (i=l.findIdx fun y=>PyData.eqv y d):=by
 by_cases hq:i=l.findIdx fun y=>PyData.eqv y d
 ·rw [decide_eq_true hq]
  subst hq
  exact List.findIdx_getElem (w:=hj)
 ·rw [decide_eq_false hq]
  have:=List.not_of_lt_findIdx (p:=fun y=>PyData.eqv y d) (xs:=l) (i:=i) (Nat.lt_of_le_of_ne hij hq)
  simpa using this
theorem PS.rem {k:Nat} {e:I} {x:Str} {a:Expr} {px ap cp p:Pos} (hline:ap.endLine=cp.line) (hx:Sl ν k x) (h:PE C Γ N e n sc ν a) (h0:okE a=true):PS C Γ N (.rem k e) n sc ν (.Expr (.Call (.Attribute (.Name x px) "remove" ap) [a] [] cp) p):=by
 intro env P vs σ X F s A E o K hf S hv
 refine bK1 (hv) fun l0 hl0 hv=>?_
 refine bK3 (hv) fun d f σ1 he hv=>?_
 refine bK1 (hv) fun l hl hv=>?_
 refine bK1 (hv) fun l' hr hv=>?_
 refine sm1 hv ?_
 refine ifK hr fun hr=>?_
 have hr2:=Bool.and_eq_true_iff.mp hr
 have hr1:=Bool.and_eq_true_iff.mp hr2.1
 have hj:(l.findIdx fun y=>PyData.eqv y d)<l.length:=List.findIdx_lt_length_of_exists (List.any_eq_true.mp hr2.2)
 refine elEEEA (own_list S hl0) fun a' ws c hv' h1=>?_
 have hs:=zk0 hl
 refine method1 K.O S hx hline h0 PySem.F.slot_list_remove PySem.F.type_list_remove hv' h1 ?_
 refine remove_list (wpM (h.frozen K S he) (fun v s₁ q=>?_))
 obtain ⟨F1,st1,r⟩:=q
 refine ownLK st1.st hs hv' fun hz2 ws2 c2 h2 r2 e1=>⟨ws2,c2,_,by rw [e1]; exact hj,by rw [e1]; exact hz2,h2,fun i hi hij=>?_,post_next (st1.trans (Step.update (tk:=s₁.toks) st1.st (l':=l.eraseIdx _) hs hv' h2 (fun xs=>xs.eraseIdxIfInBounds _) (Nat.le_trans (List.length_eraseIdx_le (l:=l) (i:=l.findIdx fun y=>PyData.eqv y d)) hz2) ?_))⟩
 ·have hil:i<l.length:=e1▸hi
  refine elEA (r2.get (List.getElem?_eq_getElem hil)) fun u hu ru=>?_
  have hu:ws2[i]=u:=Option.some.inj ((Array.getElem?_eq_getElem hi).symm.trans (Array.getElem?_toList.symm.trans hu))
  refine (Rep.reads st1.st.sub _ ru).elim fun as q1=>(Rep.reads st1.st.sub _ r).elim fun bs q2=>?_
  have o1:=zx9 (List.all_eq_true.mp hr1.2 _ (List.getElem_mem hil))
  have hun:=K.R.units
  have:=eqAt_reads _ _ A.in1 s₁ _ _ as bs q1 q2 o1.1 (zx9 hr1.1).1 (room_in1 hun o1.2)
  rwa [find_eq hil hj hij,← hu] at this
 ·rw [Array.eraseIdxIfInBounds,dif_pos (by rw [e1]; exact hj),Array.toList_eraseIdx]
  exact r2.erase _
end Snd
end
section
namespace Snd
open PySem Mini
structure Tie (i:I) (n:Nat) (sc:Scope) (ν:Nu) (g:Tg):Prop where
 ok:okT g
 gt:∀ {C:Cx} {Γ:Mini.Env} {N:Nat},Ground C Γ N→DictIter C.w→DictSet C.w→GT C Γ N i n sc ν g
theorem Tie.okE {i:I} {n:Nat} {sc:Scope} {ν:Nu} {t:Bool} {e:Expr} (h:Tie i n sc ν (.ex t e)):okE e=true:=h.ok
theorem Tie.okH {i:I} {n:Nat} {sc:Scope} {ν:Nu} {e:Expr} {es:List Expr} (h:Tie i n sc ν (.exs (e::es))):Mini.okE e=true:=h.ok e (List.mem_cons_self ..)
theorem Tie.cnone {n:Nat} {sc:Scope} {ν:Nu} {t:Bool} {k:Nat} {p:Pos}:Tie .cnone n sc ν (.ex t (.Constant .none k p)):=⟨rfl,fun G di ds=>GE.tg di (GE.plain PE.cnone rfl rfl rfl)⟩
theorem Tie.cbool {n:Nat} {sc:Scope} {ν:Nu} {t:Bool} {b:Bool} {k:Nat} {p:Pos}:Tie (.cbool b) n sc ν (.ex t (.Constant (.bool b) k p)):=⟨rfl,fun G di ds=>GE.tg di (GE.plain PE.cbool rfl rfl rfl)⟩
theorem Tie.cint {n:Nat} {sc:Scope} {ν:Nu} {t:Bool} {b:Int} {k:Nat} {p:Pos}:Tie (.cint b) n sc ν (.ex t (.Constant (.int b) k p)):=⟨rfl,fun G di ds=>GE.tg di (GE.plain PE.cint rfl rfl rfl)⟩
theorem Tie.cstr {n:Nat} {sc:Scope} {ν:Nu} {t:Bool} {b:Str} {k:Nat} {p:Pos}:Tie (.cstr b) n sc ν (.ex t (.Constant (.str b) k p)):=⟨rfl,fun G di ds=>GE.tg di (GE.plain PE.cstr rfl rfl rfl)⟩
theorem Tie.var {n:Nat} {sc:Scope} {ν:Nu} {t:Bool} {k:Nat} {x:Str} {p:Pos} (h0:Sl ν k x):Tie (.var k) n sc ν (.ex t (.Name x p)):=⟨rfl,fun G di ds=>GE.tg di (GE.plain (PE.var h0) rfl rfl rfl)⟩
theorem Tie.brw {n:Nat} {sc:Scope} {ν:Nu} {t:Bool} {k:Nat} {x:Str} {p:Pos} (h0:Sl ν k x):Tie (.brw k) n sc ν (.ex t (.Name x p)):=⟨rfl,fun G di ds=>GE.tg di (GE.brw h0)⟩
theorem Tie.glob {n:Nat} {sc:Scope} {ν:Nu} {t:Bool} {x:Str} {p:Pos} (h0:zw5 sc ν x=true):Tie (.glob x) n sc ν (.ex t (.Name x p)):=⟨rfl,fun G di ds=>GE.tg di (GE.plain (PE.glob G h0) rfl rfl rfl)⟩
theorem Tie.bin {n:Nat} {sc:Scope} {ν:Nu} {t:Bool} {op:Operator} {a b:I} {l r:Expr} {p:Pos} (h0:Tie a n sc ν (.ex false l)) (h1:Tie b n sc ν (.ex false r)):Tie (.bin op a b) n sc ν (.ex t (.BinOp l op r p)):=⟨rfl,fun G di ds=>GE.tg di (GE.plain (PE.bin ((h0.gt G di ds).2 rfl).o ((h1.gt G di ds).2 rfl).o) rfl rfl rfl)⟩
theorem Tie.not {n:Nat} {sc:Scope} {ν:Nu} {t:Bool} {a:I} {e:Expr} {p:Pos} (h0:Tie a n sc ν (.ex false e)):Tie (.not a) n sc ν (.ex t (.UnaryOp .Not e p)):=⟨rfl,fun G di ds=>GE.tg di (GE.of (PE.not ((h0.gt G di ds).2 rfl).o) rfl (PT.not ((h0.gt G di ds).2 rfl).t) rfl)⟩
theorem Tie.and {n:Nat} {sc:Scope} {ν:Nu} {t:Bool} {l:I} {es:List Expr} {p:Pos} (h0:Tie l n sc ν (.exs es)):Tie (.and l) n sc ν (.ex t (.BoolOp .And es p)):=⟨rfl,fun G di ds=>GE.tg di (GE.of (PE.and (h0.gt G di ds).an) rfl (PT.and (h0.gt G di ds).an) rfl)⟩
theorem Tie.or {n:Nat} {sc:Scope} {ν:Nu} {t:Bool} {l:I} {es:List Expr} {p:Pos} (h0:Tie l n sc ν (.exs es)):Tie (.or l) n sc ν (.ex t (.BoolOp .Or es p)):=⟨rfl,fun G di ds=>GE.tg di (GE.of (PE.or (h0.gt G di ds).or) rfl (PT.or (h0.gt G di ds).or) rfl)⟩
theorem Tie.cmp {n:Nat} {sc:Scope} {ν:Nu} {t:Bool} {op:CmpOp} {a b:I} {l r:Expr} {p:Pos} (h0:Tie a n sc ν (.ex false l)) (h1:Tie b n sc ν (.ex false r)):Tie (.cmp op a b) n sc ν (.ex t (.Compare l [op] [r] p)):=⟨rfl,fun G di ds=>GE.tg di (GE.of (PE.cmp G ((h0.gt G di ds).2 rfl).o ((h1.gt G di ds).2 rfl).o h1.okE) rfl (PT.cmp G ((h0.gt G di ds).2 rfl).o ((h1.gt G di ds).2 rfl).o h1.okE) rfl)⟩
theorem Tie.cmp2 {n:Nat} {sc:Scope} {ν:Nu} {t:Bool} {o1 o2:CmpOp} {a b c:I} {l r1 r2:Expr} {p:Pos} (h0:Tie a n sc ν (.ex false l)) (h1:Tie b n sc ν (.ex false r1)) (h2:Tie c n sc ν (.ex false r2)):Tie (.cmp2 o1 o2 a b c) n sc ν (.ex t (.Compare l [o1,o2] [r1,r2] p)):=⟨rfl,fun G di ds=>GE.tg di (GE.of (PE.cmp2 G ((h0.gt G di ds).2 rfl).e ((h1.gt G di ds).2 rfl).e ((h2.gt G di ds).2 rfl).e h2.okE) rfl (PT.cmp2 G ((h0.gt G di ds).2 rfl).e ((h1.gt G di ds).2 rfl).e ((h2.gt G di ds).2 rfl).e h2.okE) rfl)⟩
theorem Tie.ite {n:Nat} {sc:Scope} {ν:Nu} {t:Bool} {c a b:I} {q x y:Expr} {p:Pos} (h0:Tie c n sc ν (.ex false q)) (h1:Tie a n sc ν (.ex false x)) (h2:Tie b n sc ν (.ex false y)):Tie (.ite c a b) n sc ν (.ex t (.IfExp q x y p)):=⟨rfl,fun G di ds=>GE.tg di (GE.of (PE.ite ((h0.gt G di ds).2 rfl).t ((h1.gt G di ds).2 rfl).e ((h2.gt G di ds).2 rfl).e) rfl (PT.ite ((h0.gt G di ds).2 rfl).t ((h1.gt G di ds).2 rfl).t ((h2.gt G di ds).2 rfl).t) rfl)⟩
theorem Tie.tup {n:Nat} {sc:Scope} {ν:Nu} {t:Bool} {l:I} {es:List Expr} {q:Nat} {p:Pos} (h0:Tie l n sc ν (.exs es)):Tie (.tup l) n sc ν (.ex t (.Tuple es q p)):=⟨rfl,fun G di ds=>GE.tg di (GE.plain (PE.tup (h0.gt G di ds).es) rfl rfl rfl)⟩
theorem Tie.lst {n:Nat} {sc:Scope} {ν:Nu} {t:Bool} {l:I} {es:List Expr} {p:Pos} (h0:Tie l n sc ν (.exs es)):Tie (.lst l) n sc ν (.ex t (.List es p)):=⟨rfl,fun G di ds=>GE.tg di (GE.plain (PE.lst (h0.gt G di ds).es) rfl rfl rfl)⟩
theorem Tie.dct0 {n:Nat} {sc:Scope} {ν:Nu} {t:Bool} {p:Pos}:Tie .dct0 n sc ν (.ex t (.Dict [] [] p)):=⟨rfl,fun G di ds=>GE.tg di (GE.plain (PE.dct0 G) rfl rfl rfl)⟩
theorem Tie.comp1 {n:Nat} {sc:Scope} {ν:Nu} {t:Bool} {elt s cond:I} {e it:Expr} {x:Str} {px:Pos} {ifs:List Expr} {csc:Scope} {p:Pos} (h0:zk4 sc ν [x] csc=true) (h1:Tie s n sc ν (.ex true it)) (h2:Tie cond (n+1) csc (zw4 n ν [x] csc) (.ifs ifs)) (h3:Tie elt (n+1) csc (zw4 n ν [x] csc) (.ex false e)):Tie (.comp1 elt s cond) n sc ν (.ex t (.ListComp e [⟨.Name x px,it,ifs,0⟩] csc p)):=⟨rfl,fun G di ds=>GE.tg di (GE.comp1 (h1.gt G di ds).1 ((h3.gt G di ds).2 rfl).e (h2.gt G di ds) h1.okE (zi8 h0))⟩
theorem Tie.compT {n:Nat} {sc:Scope} {ν:Nu} {t:Bool} {m:Nat} {elt s cond:I} {e it:Expr} {l:List (Str×Pos)} {q:Nat} {tp:Pos} {ifs:List Expr} {csc:Scope} {p:Pos} (hm:(l.map (·.1)).length=m) (h1:zk4 sc ν (l.map (·.1)) csc=true) (h2:(decide (l.map (·.1)).Nodup&&!(l.map (·.1)).isEmpty)=true) (h3:Tie s n sc ν (.ex true it)) (h4:Tie cond (n+(l.map (·.1)).length) csc (zw4 n ν (l.map (·.1)) csc) (.ifs ifs)) (h5:Tie elt (n+(l.map (·.1)).length) csc (zw4 n ν (l.map (·.1)) csc) (.ex false e)) :
  Tie (.compT m elt s cond) n sc ν (.ex t (.ListComp e [⟨.Tuple (l.map nmE) q tp,it,ifs,0⟩] csc p)) :=
 ⟨rfl,fun G di ds=>by
  subst hm
  simp only [Bool.and_eq_true,decide_eq_true_eq,Bool.not_eq_true',List.isEmpty_eq_false_iff] at h2
  exact GE.tg di (GE.compT h2.1 h2.2 (h3.gt G di ds).1 ((h5.gt G di ds).2 rfl).e (h4.gt G di ds) h3.okE (zi8 h1))⟩
theorem Tie.call {n:Nat} {sc:Scope} {ν:Nu} {t:Bool} {g:Str} {l:I} {e:Expr} {es:List Expr} {px p:Pos} (h0:zw5 sc ν g=true) (h1:Tie l n sc ν (.exs (e::es))):Tie (.call g l) n sc ν (.ex t (.Call (.Name g px) (e::es) [] p)):=⟨rfl,fun G di ds=>GE.tg di (GE.plain (PE.call G h0 (h1.gt G di ds).es h1.okH) rfl rfl rfl)⟩
theorem Tie.prim1 {n:Nat} {sc:Scope} {ν:Nu} {t:Bool} {q:Prim} {a:I} {e:Expr} {px p:Pos} (h0:zw5 sc ν q.name=true) (h1:Tie a n sc ν (.ex false e)):Tie (.prim1 q a) n sc ν (.ex t (.Call (.Name q.name px) [e] [] p)):=⟨rfl,fun G di ds=>GE.tg di (GE.plain (PE.prim1 G h0 ((h1.gt G di ds).2 rfl).o h1.okE) rfl rfl rfl)⟩
theorem Tie.prim2 {n:Nat} {sc:Scope} {ν:Nu} {t:Bool} {q:Prim} {a b:I} {e f:Expr} {px p:Pos} (h0:zw5 sc ν q.name=true) (h1:Tie a n sc ν (.ex false e)) (h2:Tie b n sc ν (.ex false f)):Tie (.prim2 q a b) n sc ν (.ex t (.Call (.Name q.name px) [e,f] [] p)):=⟨rfl,fun G di ds=>GE.tg di (GE.plain (PE.prim2 G h0 ((h1.gt G di ds).2 rfl).e ((h2.gt G di ds).2 rfl).e h1.okE h2.okE) rfl rfl rfl)⟩
theorem Tie.isi {n:Nat} {sc:Scope} {ν:Nu} {t:Bool} {a:I} {ty:Str} {e:Expr} {px py p:Pos} (h0:zw5 sc ν "isinstance" = true) (h1:Tie a n sc ν (.ex false e)) (h2:zw5 sc ν ty=true):Tie (.isi a ty) n sc ν (.ex t (.Call (.Name "isinstance" px) [e,.Name ty py] [] p)):=⟨rfl,fun G di ds=>GE.tg di (GE.plain (PE.isi G h0 ((h1.gt G di ds).2 rfl).o h1.okE h2) rfl rfl rfl)⟩
theorem Tie.idx {n:Nat} {sc:Scope} {ν:Nu} {t:Bool} {a i:I} {v s:Expr} {p:Pos} (h0:Tie a n sc ν (.ex false v)) (h1:Tie i n sc ν (.ex false s)):Tie (.idx a i) n sc ν (.ex t (.Subscript v s p)):=⟨rfl,fun G di ds=>GE.tg di (GE.plain (PE.idx G ((h0.gt G di ds).2 rfl).o ((h1.gt G di ds).2 rfl).o h1.okE) rfl rfl rfl)⟩
theorem Tie.slc {n:Nat} {sc:Scope} {ν:Nu} {t:Bool} {a lo hi:I} {v:Expr} {l h:Option Expr} {p q:Pos} (h0:Tie a n sc ν (.ex false v)) (h1:Tie lo n sc ν (.opt l)) (h2:Tie hi n sc ν (.opt h)):Tie (.slc a lo hi) n sc ν (.ex t (.Subscript v (.Slice l h none q) p)):=⟨rfl,fun G di ds=>GE.tg di (GE.plain (PE.slc ((h0.gt G di ds).2 rfl).o (h1.gt G di ds) (h2.gt G di ds)) rfl rfl rfl)⟩
theorem Tie.pop {n:Nat} {sc:Scope} {ν:Nu} {t:Bool} {k:Nat} {x:Str} {px ap cp:Pos} (h0:ap.endLine=cp.line) (h1:Sl ν k x):Tie (.pop k) n sc ν (.ex t (.Call (.Attribute (.Name x px) "pop" ap) [] [] cp)):=⟨rfl,fun G di ds=>GE.tg di (GE.plain (PE.pop h0 h1) rfl rfl rfl)⟩
theorem Tie.rng1 {n:Nat} {sc:Scope} {ν:Nu} {b:I} {e:Expr} {px p:Pos} (h0:zw5 sc ν "range" = true) (h1:Tie b n sc ν (.ex false e)):Tie (.rng1 b) n sc ν (.ex true (.Call (.Name "range" px) [e] [] p)):=⟨rfl,fun G di ds=>⟨PW.rng1 G h0 ((h1.gt G di ds).2 rfl).e h1.okE,fun e=>nomatch e⟩⟩
theorem Tie.rng {n:Nat} {sc:Scope} {ν:Nu} {a b:I} {e f:Expr} {px p:Pos} (h0:zw5 sc ν "range" = true) (h1:Tie a n sc ν (.ex false e)) (h2:Tie b n sc ν (.ex false f)):Tie (.rng a b) n sc ν (.ex true (.Call (.Name "range" px) [e,f] [] p)):=⟨rfl,fun G di ds=>⟨PW.rng G h0 ((h1.gt G di ds).2 rfl).e ((h2.gt G di ds).2 rfl).e h1.okE h2.okE,fun e=>nomatch e⟩⟩
theorem Tie.nil {n:Nat} {sc:Scope} {ν:Nu}:Tie .nil n sc ν (.exs []):=⟨(fun e he=>nomatch he),fun G di ds=>⟨PES.nil,fun _ _ hv=>(noS hv).elim,fun _ _ hv=>(noS hv).elim,.inl ⟨rfl,rfl⟩⟩⟩
theorem Tie.cons {n:Nat} {sc:Scope} {ν:Nu} {a r:I} {e:Expr} {es:List Expr} (h0:Tie a n sc ν (.ex false e)) (h1:Tie r n sc ν (.exs es)):Tie (.cons a r) n sc ν (.exs (e::es)):=⟨(fun e he=>(List.mem_cons.mp he).elim (fun q=>q▸h0.ok) fun q=>h1.ok e q),fun G di ds=>GL.cons ((h0.gt G di ds).2 rfl) h0.okE (h1.gt G di ds)⟩
theorem Tie.onone {n:Nat} {sc:Scope} {ν:Nu}:Tie .omit n sc ν (.opt none):=⟨trivial,fun G di ds=>PB.none⟩
theorem Tie.osome {n:Nat} {sc:Scope} {ν:Nu} {i:I} {e:Expr} (h0:isOmit i=false) (h1:Tie i n sc ν (.ex false e)):Tie i n sc ν (.opt (some e)):=⟨trivial,fun G di ds=>PB.some h0 ((h1.gt G di ds).2 rfl).e⟩
theorem Tie.inone {n:Nat} {sc:Scope} {ν:Nu}:Tie .omit n sc ν (.ifs []):=⟨trivial,fun G di ds=>PC.none⟩
theorem Tie.ione {n:Nat} {sc:Scope} {ν:Nu} {i:I} {e:Expr} (h0:isOmit i=false) (h1:Tie i n sc ν (.ex false e)):Tie i n sc ν (.ifs [e]):=⟨trivial,fun G di ds=>PC.one h0 ((h1.gt G di ds).2 rfl).t⟩
theorem Tie.pass {n:Nat} {sc:Scope} {ν:Nu} {p:Pos}:Tie .pass n sc ν (.st (.Pass p)):=⟨trivial,fun G di ds=>PS.pass⟩
theorem Tie.asg {n:Nat} {sc:Scope} {ν:Nu} {k:Nat} {e:I} {x:Str} {v:Expr} {px p:Pos} (h0:Sl ν k x) (h1:Tie e n sc ν (.ex false v)):Tie (.asg k e) n sc ν (.st (.Assign [.Name x px] v p)):=⟨trivial,fun G di ds=>PS.asg h0 ((h1.gt G di ds).2 rfl).u⟩
theorem Tie.sto {n:Nat} {sc:Scope} {ν:Nu} {k:Nat} {key e:I} {x:Str} {s v:Expr} {px ps p:Pos} (h0:Sl ν k x) (h1:Tie key n sc ν (.ex false s)) (h2:Tie e n sc ν (.ex false v)):Tie (.sto k key e) n sc ν (.st (.Assign [.Subscript (.Name x px) s ps] v p)):=⟨trivial,fun G di ds=>PS.sto ds h0 ((h1.gt G di ds).2 rfl).e ((h2.gt G di ds).2 rfl).e⟩
theorem Tie.app {n:Nat} {sc:Scope} {ν:Nu} {k:Nat} {e:I} {x:Str} {a:Expr} {px ap cp p:Pos} (h0:ap.endLine=cp.line) (h1:Sl ν k x) (h2:Tie e n sc ν (.ex false a)):Tie (.app k e) n sc ν (.st (.Expr (.Call (.Attribute (.Name x px) "append" ap) [a] [] cp) p)):=⟨trivial,fun G di ds=>PS.app h0 h1 ((h2.gt G di ds).2 rfl).e h2.okE⟩
theorem Tie.ext {n:Nat} {sc:Scope} {ν:Nu} {k:Nat} {e:I} {x:Str} {a:Expr} {px ap cp p:Pos} (h0:ap.endLine=cp.line) (h1:Sl ν k x) (h2:Tie e n sc ν (.ex false a)):Tie (.ext k e) n sc ν (.st (.Expr (.Call (.Attribute (.Name x px) "extend" ap) [a] [] cp) p)):=⟨trivial,fun G di ds=>PS.ext h0 h1 ((h2.gt G di ds).2 rfl).e h2.okE⟩
theorem Tie.clr {n:Nat} {sc:Scope} {ν:Nu} {k:Nat} {x:Str} {px ap cp p:Pos} (h0:ap.endLine=cp.line) (h1:Sl ν k x):Tie (.clr k) n sc ν (.st (.Expr (.Call (.Attribute (.Name x px) "clear" ap) [] [] cp) p)):=⟨trivial,fun G di ds=>PS.clr h0 h1⟩
theorem Tie.exp {n:Nat} {sc:Scope} {ν:Nu} {e:I} {f:Expr} {as:List Expr} {ks:List Keyword} {q p:Pos} (h0:Tie e n sc ν (.ex false (.Call f as ks q))):Tie (.exp e) n sc ν (.st (.Expr (.Call f as ks q) p)):=⟨trivial,fun G di ds=>PS.exp ((h0.gt G di ds).2 rfl).e⟩
theorem Tie.iff {n:Nat} {sc:Scope} {ν:Nu} {c t e:I} {q:Expr} {bt be:List Stmt} {p:Pos} (h0:Tie c n sc ν (.ex false q)) (h1:Tie t n sc ν (.sts bt)) (h2:Tie e n sc ν (.sts be)):Tie (.iff c t e) n sc ν (.st (.If q bt be p)):=⟨trivial,fun G di ds=>PS.iff ((h0.gt G di ds).2 rfl).t (h1.gt G di ds) (h2.gt G di ds)⟩
theorem Tie.whl {n:Nat} {sc:Scope} {ν:Nu} {c b:I} {q:Expr} {bd:List Stmt} {p:Pos} (h0:Tie c n sc ν (.ex false q)) (h1:Tie b n sc ν (.sts bd)):Tie (.whl c b) n sc ν (.st (.While q bd [] p)):=⟨trivial,fun G di ds=>PS.whl ((h0.gt G di ds).2 rfl).t (h1.gt G di ds)⟩
theorem Tie.for1 {n:Nat} {sc:Scope} {ν:Nu} {k:Nat} {s b:I} {x:Str} {it:Expr} {bd:List Stmt} {px p:Pos} (h0:Sl ν k x) (h1:Tie s n sc ν (.ex true it)) (h2:Tie b n sc ν (.sts bd)):Tie (.for1 k s b) n sc ν (.st (.For (.Name x px) it bd [] p)):=⟨trivial,fun G di ds=>PS.for1 h0 (h1.gt G di ds).1 h1.okE (h2.gt G di ds)⟩
theorem Tie.rem {n:Nat} {sc:Scope} {ν:Nu} {k:Nat} {e:I} {x:Str} {a:Expr} {px ap cp p:Pos} (h0:ap.endLine=cp.line) (h1:Sl ν k x) (h2:Tie e n sc ν (.ex false a)):Tie (.rem k e) n sc ν (.st (.Expr (.Call (.Attribute (.Name x px) "remove" ap) [a] [] cp) p)):=⟨trivial,fun G di ds=>PS.rem h0 h1 ((h2.gt G di ds).2 rfl).e h2.okE⟩
theorem Tie.fors {n:Nat} {sc:Scope} {ν:Nu} {ks:List Nat} {s b:I} {l:List (Str×Pos)} {q:Nat} {it:Expr} {bd:List Stmt} {tp p:Pos} (h0:Sls ν ks l) (h1:Tie s n sc ν (.ex true it)) (h2:Tie b n sc ν (.sts bd)):Tie (.fors ks s b) n sc ν (.st (.For (.Tuple (l.map nmE) q tp) it bd [] p)):=⟨trivial,fun G di ds=>PS.fors (gt:=fun _=>True) trivial h0 (h1.gt G di ds).1 h1.okE (h2.gt G di ds)⟩
theorem Tie.forsZ {n:Nat} {sc:Scope} {ν:Nu} {ks:List Nat} {a c b:I} {l:List (Str×Pos)} {q:Nat} {ea ec:Expr} {bd:List Stmt} {px cp tp p:Pos} (h0:Sls ν ks l) (hg:zw5 sc ν "zip" = true) (h1:Tie a n sc ν (.ex false ea)) (h2:Tie c n sc ν (.ex false ec)) (h3:Tie b n sc ν (.sts bd)):Tie (.fors ks (.zip a c) b) n sc ν (.st (.For (.Tuple (l.map nmE) q tp) (.Call (.Name "zip" px) [ea,ec] [] cp) bd [] p)):=⟨trivial,fun G di ds=>PS.fors (gt:=isTupE) ⟨_,_,_,rfl⟩ h0 (PWg.zip G hg ((h1.gt G di ds).2 rfl).e ((h2.gt G di ds).2 rfl).e h1.okE h2.okE) rfl (h3.gt G di ds)⟩
theorem Tie.asgs {n:Nat} {sc:Scope} {ν:Nu} {ks:List Nat} {e:I} {l:List (Str×Pos)} {q:Nat} {y:Str} {py tp p:Pos} (h0:Sls ν ks l) (h1:Tie e n sc ν (.ex false (.Name y py))):Tie (.asgs ks e) n sc ν (.st (.Assign [.Tuple (l.map nmE) q tp] (.Name y py) p)):=⟨trivial,fun G di ds=>PS.asgs h0 ((h1.gt G di ds).2 rfl).e⟩
theorem Tie.ret {n:Nat} {sc:Scope} {ν:Nu} {e:I} {v:Expr} {p:Pos} (h0:Tie e n sc ν (.ex false v)):Tie (.ret e) n sc ν (.st (.Return (some v) p)):=⟨trivial,fun G di ds=>PS.ret ((h0.gt G di ds).2 rfl).e⟩
theorem Tie.rais {n:Nat} {sc:Scope} {ν:Nu} {x y:Option Expr} {p:Pos}:Tie .rais n sc ν (.st (.Raise x y p)):=⟨trivial,fun G di ds=>fun _ _ _ hv=>(noS hv).elim⟩
theorem Tie.snil {n:Nat} {sc:Scope} {ν:Nu}:Tie .nil n sc ν (.sts []):=⟨trivial,fun G di ds=>PX.nil⟩
theorem Tie.scons {n:Nat} {sc:Scope} {ν:Nu} {a r:I} {e:Stmt} {es:List Stmt} (h0:Tie a n sc ν (.st e)) (h1:Tie r n sc ν (.sts es)):Tie (.cons a r) n sc ν (.sts (e::es)):=⟨trivial,fun G di ds=>PX.cons (h0.gt G di ds) (h1.gt G di ds)⟩
end Snd
namespace Mini
open PySem Snd
noncomputable abbrev Fd (p:Prop):=Option (PLift p)
noncomputable def one {p r:Prop} (f:p→r):Fd p→Fd r
 | some x=>some ⟨f x.down⟩
 | none=>none
noncomputable def two {p q r:Prop} (f:p→q→r) (x:Fd p) (y:Fd q):Fd r:=match x with
 | some a=>one (f a.down) y
 | none=>none
noncomputable def three {p q r s:Prop} (f:p→q→r→s) (x:Fd p) (y:Fd q) (z:Fd r):Fd s:=match x with
 | some a=>two (f a.down) y z
 | none=>none
noncomputable def tt (b:Bool):Fd (b=true):=match b with
 | true=>some ⟨rfl⟩
 | false=>none
noncomputable def ff (b:Bool):Fd (b=false):=match b with
 | false=>some ⟨rfl⟩
 | true=>none
set_option genInjectivity false
structure KE (τ:Expr→Type) where
 C:∀ c k p,τ (.Constant c k p)
 N:∀ x p,τ (.Name x p)
 B:∀ l o r p,τ (.BinOp l o r p)
 U:∀ o x p,τ (.UnaryOp o x p)
 O:∀ o l p,τ (.BoolOp o l p)
 M:∀ l o r p,τ (.Compare l o r p)
 I:∀ q x y p,τ (.IfExp q x y p)
 T:∀ l q p,τ (.Tuple l q p)
 L:∀ l p,τ (.List l p)
 D:∀ a b p,τ (.Dict a b p)
 P:∀ x g s p,τ (.ListComp x g s p)
 F:∀ f a k p,τ (.Call f a k p)
 S:∀ v s p,τ (.Subscript v s p)
 A:∀ v a p,τ (.Attribute v a p)
 Z:∀ a b c p,τ (.Slice a b c p)
 other:∀ e,τ e
noncomputable def fE {τ:Expr→Type} (K:KE τ) (e:Expr):τ e:=match e with
 | .Constant c k p=>K.C c k p
 | .Name x p=>K.N x p
 | .BinOp l o r p=>K.B l o r p
 | .UnaryOp o x p=>K.U o x p
 | .BoolOp o l p=>K.O o l p
 | .Compare l o r p=>K.M l o r p
 | .IfExp q x y p=>K.I q x y p
 | .Tuple l q p=>K.T l q p
 | .List l p=>K.L l p
 | .Dict a b p=>K.D a b p
 | .ListComp x g s p=>K.P x g s p
 | .Call f a k p=>K.F f a k p
 | .Subscript v s p=>K.S v s p
 | .Attribute v a p=>K.A v a p
 | .Slice a b c p=>K.Z a b c p
 | e=>K.other e
noncomputable def fE0 {τ:Expr→Type} (d:∀ e,τ e):KE τ:=⟨fun _ _ _=>d _,fun _ _=>d _,fun _ _ _ _=>d _,fun _ _ _=>d _,fun _ _ _=>d _,fun _ _ _ _=>d _,fun _ _ _ _=>d _,fun _ _ _=>d _,fun _ _=>d _,fun _ _ _=>d _,fun _ _ _ _=>d _,fun _ _ _ _=>d _,fun _ _ _=>d _,fun _ _ _=>d _,fun _ _ _ _=>d _,d⟩
@[elab_as_elim] noncomputable def gC {τ:Expr→Type} (e:Expr) (d:∀ e,τ e) (k:∀ c k p,τ (.Constant c k p)):τ e:=fE { fE0 d with C:=k } e
@[elab_as_elim] noncomputable def gN {τ:Expr→Type} (e:Expr) (d:∀ e,τ e) (k:∀ x p,τ (.Name x p)):τ e:=fE { fE0 d with N:=k } e
@[elab_as_elim] noncomputable def gB {τ:Expr→Type} (e:Expr) (d:∀ e,τ e) (k:∀ l o r p,τ (.BinOp l o r p)):τ e:=fE { fE0 d with B:=k } e
@[elab_as_elim] noncomputable def gU {τ:Expr→Type} (e:Expr) (d:∀ e,τ e) (k:∀ o x p,τ (.UnaryOp o x p)):τ e:=fE { fE0 d with U:=k } e
@[elab_as_elim] noncomputable def gO {τ:Expr→Type} (e:Expr) (d:∀ e,τ e) (k:∀ o l p,τ (.BoolOp o l p)):τ e:=fE { fE0 d with O:=k } e
@[elab_as_elim] noncomputable def gM {τ:Expr→Type} (e:Expr) (d:∀ e,τ e) (k:∀ l o r p,τ (.Compare l o r p)):τ e:=fE { fE0 d with M:=k } e
@[elab_as_elim] noncomputable def gI {τ:Expr→Type} (e:Expr) (d:∀ e,τ e) (k:∀ q x y p,τ (.IfExp q x y p)):τ e:=fE { fE0 d with I:=k } e
@[elab_as_elim] noncomputable def gT {τ:Expr→Type} (e:Expr) (d:∀ e,τ e) (k:∀ l q p,τ (.Tuple l q p)):τ e:=fE { fE0 d with T:=k } e
@[elab_as_elim] noncomputable def gL {τ:Expr→Type} (e:Expr) (d:∀ e,τ e) (k:∀ l p,τ (.List l p)):τ e:=fE { fE0 d with L:=k } e
@[elab_as_elim] noncomputable def gD {τ:Expr→Type} (e:Expr) (d:∀ e,τ e) (k:∀ a b p,τ (.Dict a b p)):τ e:=fE { fE0 d with D:=k } e
@[elab_as_elim] noncomputable def gP {τ:Expr→Type} (e:Expr) (d:∀ e,τ e) (k:∀ x g s p,τ (.ListComp x g s p)):τ e:=fE { fE0 d with P:=k } e
@[elab_as_elim] noncomputable def gF {τ:Expr→Type} (e:Expr) (d:∀ e,τ e) (k:∀ f a k p,τ (.Call f a k p)):τ e:=fE { fE0 d with F:=k } e
@[elab_as_elim] noncomputable def gS {τ:Expr→Type} (e:Expr) (d:∀ e,τ e) (k:∀ v s p,τ (.Subscript v s p)):τ e:=fE { fE0 d with S:=k } e
@[elab_as_elim] noncomputable def gA {τ:Expr→Type} (e:Expr) (d:∀ e,τ e) (k:∀ v a p,τ (.Attribute v a p)):τ e:=fE { fE0 d with A:=k } e
@[elab_as_elim] noncomputable def gZ {τ:Expr→Type} (e:Expr) (d:∀ e,τ e) (k:∀ a b c p,τ (.Slice a b c p)):τ e:=fE { fE0 d with Z:=k } e
structure KS (τ:Stmt→Type) where
 A:∀ ts v p,τ (.Assign ts v p)
 X:∀ e p,τ (.Expr e p)
 I:∀ q a b p,τ (.If q a b p)
 W:∀ q b o p,τ (.While q b o p)
 F:∀ t i b o p,τ (.For t i b o p)
 R:∀ v p,τ (.Return v p)
 Z:∀ x y p,τ (.Raise x y p)
 P:∀ p,τ (.Pass p)
 other:∀ e,τ e
noncomputable def fS {τ:Stmt→Type} (K:KS τ) (e:Stmt):τ e:=match e with
 | .Assign ts v p=>K.A ts v p
 | .Expr e p=>K.X e p
 | .If q a b p=>K.I q a b p
 | .While q b o p=>K.W q b o p
 | .For t i b o p=>K.F t i b o p
 | .Return v p=>K.R v p
 | .Raise x y p=>K.Z x y p
 | .Pass p=>K.P p
 | e=>K.other e
noncomputable def fS0 {τ:Stmt→Type} (d:∀ e,τ e):KS τ:=⟨fun _ _ _=>d _,fun _ _=>d _,fun _ _ _ _=>d _,fun _ _ _ _=>d _,fun _ _ _ _ _=>d _,fun _ _=>d _,fun _ _ _=>d _,fun _=>d _,d⟩
@[elab_as_elim] noncomputable def sA {τ:Stmt→Type} (e:Stmt) (d:∀ e,τ e) (k:∀ ts v p,τ (.Assign ts v p)):τ e:=fS { fS0 d with A:=k } e
@[elab_as_elim] noncomputable def sX {τ:Stmt→Type} (e:Stmt) (d:∀ e,τ e) (k:∀ e p,τ (.Expr e p)):τ e:=fS { fS0 d with X:=k } e
@[elab_as_elim] noncomputable def sI {τ:Stmt→Type} (e:Stmt) (d:∀ e,τ e) (k:∀ q a b p,τ (.If q a b p)):τ e:=fS { fS0 d with I:=k } e
@[elab_as_elim] noncomputable def sW {τ:Stmt→Type} (e:Stmt) (d:∀ e,τ e) (k:∀ q b o p,τ (.While q b o p)):τ e:=fS { fS0 d with W:=k } e
@[elab_as_elim] noncomputable def sF {τ:Stmt→Type} (e:Stmt) (d:∀ e,τ e) (k:∀ t i b o p,τ (.For t i b o p)):τ e:=fS { fS0 d with F:=k } e
@[elab_as_elim] noncomputable def sR {τ:Stmt→Type} (e:Stmt) (d:∀ e,τ e) (k:∀ v p,τ (.Return v p)):τ e:=fS { fS0 d with R:=k } e
@[elab_as_elim] noncomputable def sZ {τ:Stmt→Type} (e:Stmt) (d:∀ e,τ e) (k:∀ x y p,τ (.Raise x y p)):τ e:=fS { fS0 d with Z:=k } e
@[elab_as_elim] noncomputable def sP {τ:Stmt→Type} (e:Stmt) (d:∀ e,τ e) (k:∀ p,τ (.Pass p)):τ e:=fS { fS0 d with P:=k } e
set_option genInjectivity true
@[elab_as_elim] noncomputable def eqK {β:Type} [DecidableEq β] {τ:β→Type} (b:β) (a:β) (d:∀ e,τ e) (k:τ a):τ b:=if h:a=b then h▸k else d b
@[elab_as_elim] noncomputable def omK {τ:I→Type} (i:I) (d:∀ e,τ e) (k:τ .omit):τ i:=match i with
 | .omit=>k
 | i=>d i
@[elab_as_elim] noncomputable def noK {β:Type} {τ:Option β→Type} (o:Option β) (d:∀ e,τ e) (k:τ none):τ o:=match o with
 | none=>k
 | o=>d o
@[elab_as_elim] noncomputable def soK {β:Type} {τ:Option β→Type} (o:Option β) (d:∀ e,τ e) (k:∀ a,τ (some a)):τ o:=match o with
 | some a=>k a
 | o=>d o
@[elab_as_elim] noncomputable def l0 {β:Type} {τ:List β→Type} (l:List β) (d:∀ e,τ e) (k:τ []):τ l:=match l with
 | []=>k
 | l=>d l
@[elab_as_elim] noncomputable def lc {β:Type} {τ:List β→Type} (l:List β) (d:∀ e,τ e) (k:∀ a r,τ (a::r)):τ l:=match l with
 | a::r=>k a r
 | l=>d l
@[elab_as_elim] noncomputable def l1 {β:Type} {τ:List β→Type} (l:List β) (d:∀ e,τ e) (k:∀ a,τ [a]):τ l:=lc l d fun a r=>l0 r (fun _=>d _) (k a)
@[elab_as_elim] noncomputable def l2 {β:Type} {τ:List β→Type} (l:List β) (d:∀ e,τ e) (k:∀ a b,τ [a,b]):τ l:=lc l d fun a r=>l1 r (fun _=>d _) (k a)
@[elab_as_elim] noncomputable def gG {τ:Expr→Type} (e:Expr) (d:∀ e,τ e) (k:∀ x px as p,τ (.Call (.Name x px) as [] p)):τ e:=gF e d fun f as ks p=>l0 ks (fun _=>d _) (gN f (fun _=>d _) fun x px=>k x px as p)
@[elab_as_elim] noncomputable def gH {τ:Expr→Type} (e:Expr) (m:Str) (d:∀ e,τ e) (k:∀ x px ap as cp,ap.endLine=cp.line→τ (.Call (.Attribute (.Name x px) m ap) as [] cp)):τ e :=
 gF e d fun f as ks cp=>l0 ks (fun _=>d _) (gA f (fun _=>d _) fun v m' ap=>gN v (fun _=>d _) fun x px=>if hh:ap.endLine=cp.line∧x ≠ "super" then eqK m' m (fun _=>d _) (k x px ap as cp hh.1) else d _)
@[elab_as_elim] noncomputable def nmK {τ:List Expr→Type} (es:List Expr) (d:∀ e,τ e) (k:∀ l:List (Str×Pos),τ (l.map nmE)):τ es:=match es with
 | []=>k []
 | e::r=>gN e (fun _=>d _) fun x p=>nmK (τ:=fun r=>τ (.Name x p::r)) r (fun _=>d _) fun l=>k ((x,p)::l)
noncomputable def sl (ν:Nu) (k:Nat) (x:Str):Fd (Sl ν k x):=if h:ν x=some k then one (fun q=>⟨h,q⟩) (tt (zk1 x)) else none
noncomputable def slAll (ν:Nu):(ks:List Nat)→(l:List (Str×Pos))→Fd (Sls ν ks l)
 | [],[]=>some ⟨.nil⟩
 | k::ks,q::l=>two .cons (sl ν k q.1) (slAll ν ks l)
 | _,_=>none
noncomputable def ckO {n:Nat} {sc:Scope} {ν:Nu} (i:I) (f:∀ e,Fd (Tie i n sc ν (.ex false e))):(o:Option Expr)→Fd (Tie i n sc ν (.opt o))
 | none=>omK i (fun _=>none) (some ⟨Tie.onone⟩)
 | some e=>two Tie.osome (ff (isOmit i)) (f e)
noncomputable def ckI {n:Nat} {sc:Scope} {ν:Nu} (i:I) (f:∀ e,Fd (Tie i n sc ν (.ex false e))):(l:List Expr)→Fd (Tie i n sc ν (.ifs l))
 | []=>omK i (fun _=>none) (some ⟨Tie.inone⟩)
 | l=>l1 l (fun _=>none) fun e=>two Tie.ione (ff (isOmit i)) (f e)
mutual
noncomputable def ckE:(i:I)→(n:Nat)→(sc:Scope)→(ν:Nu)→(t:Bool)→(e:Expr)→Fd (Tie i n sc ν (.ex t e))
 | .cnone,_,_,_,_,e=>gC e (fun _=>none) fun c _ _=>eqK c .none (fun _=>none) (some ⟨Tie.cnone⟩)
 | .cbool b,_,_,_,_,e=>gC e (fun _=>none) fun c _ _=>eqK c (.bool b) (fun _=>none) (some ⟨Tie.cbool⟩)
 | .cint b,_,_,_,_,e=>gC e (fun _=>none) fun c _ _=>eqK c (.int b) (fun _=>none) (some ⟨Tie.cint⟩)
 | .cstr b,_,_,_,_,e=>gC e (fun _=>none) fun c _ _=>eqK c (.str b) (fun _=>none) (some ⟨Tie.cstr⟩)
 | .var k,_,_,ν,_,e=>gN e (fun _=>none) fun x _=>one Tie.var (sl ν k x)
 | .brw k,_,_,ν,_,e=>gN e (fun _=>none) fun x _=>one Tie.brw (sl ν k x)
 | .glob g,_,sc,ν,_,e=>gN e (fun _=>none) fun x _=>eqK x g (fun _=>none) (one Tie.glob (tt (zw5 sc ν g)))
 | .bin op a b,n,sc,ν,_,e=>gB e (fun _=>none) fun l o r _=>eqK o op (fun _=>none) (two Tie.bin (ckE a n sc ν false l) (ckE b n sc ν false r))
 | .not a,n,sc,ν,_,e=>gU e (fun _=>none) fun o x _=>eqK o .Not (fun _=>none) (one Tie.not (ckE a n sc ν false x))
 | .and l,n,sc,ν,_,e=>gO e (fun _=>none) fun o vs _=>eqK o .And (fun _=>none) (one Tie.and (ckL l n sc ν vs))
 | .or l,n,sc,ν,_,e=>gO e (fun _=>none) fun o vs _=>eqK o .Or (fun _=>none) (one Tie.or (ckL l n sc ν vs))
 | .cmp op a b,n,sc,ν,_,e=>gM e (fun _=>none) fun l os rs _=>eqK os [op] (fun _=>none) (l1 rs (fun _=>none) fun r=>two Tie.cmp (ckE a n sc ν false l) (ckE b n sc ν false r))
 | .cmp2 o1 o2 a b c,n,sc,ν,_,e=>gM e (fun _=>none) fun l os rs _=>eqK os [o1,o2] (fun _=>none) (l2 rs (fun _=>none) fun r1 r2=>three Tie.cmp2 (ckE a n sc ν false l) (ckE b n sc ν false r1) (ckE c n sc ν false r2))
 | .ite c a b,n,sc,ν,_,e=>gI e (fun _=>none) fun q x y _=>three Tie.ite (ckE c n sc ν false q) (ckE a n sc ν false x) (ckE b n sc ν false y)
 | .tup l,n,sc,ν,_,e=>gT e (fun _=>none) fun es _ _=>one Tie.tup (ckL l n sc ν es)
 | .lst l,n,sc,ν,_,e=>gL e (fun _=>none) fun es _=>one Tie.lst (ckL l n sc ν es)
 | .dct0,_,_,_,_,e=>gD e (fun _=>none) fun a b _=>l0 a (fun _=>none) (l0 b (fun _=>none) (some ⟨Tie.dct0⟩))
 | .comp1 elt s cond,n,sc,ν,_,e=>gP e (fun _=>none) fun x gs csc _=>l1 gs (fun _=>none) fun g=>match g with
  | ⟨tg,it,ifs,a⟩=>gN tg (fun _=>none) fun y _=>eqK a 0 (fun _=>none) (two (fun p q=>Tie.comp1 p.1 p.2 q.1 q.2) (two And.intro (tt (zk4 sc ν [y] csc)) (ckE s n sc ν true it))
   (two And.intro (ckI cond (ckE cond (n+1) csc (zw4 n ν [y] csc) false) ifs) (ckE elt (n+1) csc (zw4 n ν [y] csc) false x)))
 | .compT m elt s cond,n,sc,ν,_,e=>gP e (fun _=>none) fun x gs csc _=>l1 gs (fun _=>none) fun g=>match g with
  | ⟨tg,it,ifs,a⟩=>gT tg (fun _=>none) fun es _ _=>eqK a 0 (fun _=>none) (nmK es (fun _=>none) fun l=>if hm:(l.map (·.1)).length=m then two (fun p q=>Tie.compT hm p.1 p.2.1 p.2.2 q.1 q.2) (two And.intro (tt (zk4 sc ν (l.map (·.1)) csc)) (two And.intro (tt (decide (l.map (·.1)).Nodup&&!(l.map (·.1)).isEmpty)) (ckE s n sc ν true it)))
   (two And.intro (ckI cond (ckE cond (n+(l.map (·.1)).length) csc (zw4 n ν (l.map (·.1)) csc) false) ifs) (ckE elt (n+(l.map (·.1)).length) csc (zw4 n ν (l.map (·.1)) csc) false x)) else none)
 | .call g l,n,sc,ν,_,e=>gG e (fun _=>none) fun x _ as _=>lc as (fun _=>none) fun e1 es=>eqK x g (fun _=>none) (two Tie.call (tt (zw5 sc ν g)) (ckL l n sc ν (e1::es)))
 | .prim1 p a,n,sc,ν,_,e=>gG e (fun _=>none) fun x _ as _=>l1 as (fun _=>none) fun e1=>eqK x p.name (fun _=>none) (two Tie.prim1 (tt (zw5 sc ν p.name)) (ckE a n sc ν false e1))
 | .prim2 p a b,n,sc,ν,_,e=>gG e (fun _=>none) fun x _ as _=>l2 as (fun _=>none) fun e1 e2=>eqK x p.name (fun _=>none) (three Tie.prim2 (tt (zw5 sc ν p.name)) (ckE a n sc ν false e1) (ckE b n sc ν false e2))
 | .isi a ty,n,sc,ν,_,e=>gG e (fun _=>none) fun x _ as _=>l2 as (fun _=>none) fun e1 e2=>gN e2 (fun _=>none) fun y _=>eqK x "isinstance" (fun _=>none) (eqK y ty (fun _=>none) (three Tie.isi (tt (zw5 sc ν "isinstance")) (ckE a n sc ν false e1) (tt (zw5 sc ν ty))))
 | .slc a lo hi,n,sc,ν,_,e=>gS e (fun _=>none) fun v s _=>gZ s (fun _=>none) fun l u st _=>noK st (fun _=>none) (three Tie.slc (ckE a n sc ν false v) (ckO lo (ckE lo n sc ν false) l) (ckO hi (ckE hi n sc ν false) u))
 | .idx a i,n,sc,ν,_,e=>gS e (fun _=>none) fun v s _=>two Tie.idx (ckE a n sc ν false v) (ckE i n sc ν false s)
 | .pop k,_,_,ν,_,e=>gH e "pop" (fun _=>none) fun x _ _ as _ hl=>l0 as (fun _=>none) (one (Tie.pop hl) (sl ν k x))
 | .rng1 b,n,sc,ν,t,e=>gG e (fun _=>none) fun x _ as _=>l1 as (fun _=>none) fun e1=>eqK t true (fun _=>none) (eqK x "range" (fun _=>none) (two Tie.rng1 (tt (zw5 sc ν "range")) (ckE b n sc ν false e1)))
 | .rng a b,n,sc,ν,t,e=>gG e (fun _=>none) fun x _ as _=>l2 as (fun _=>none) fun e1 e2=>eqK t true (fun _=>none) (eqK x "range" (fun _=>none) (three Tie.rng (tt (zw5 sc ν "range")) (ckE a n sc ν false e1) (ckE b n sc ν false e2)))
 | _,_,_,_,_,_=>none
noncomputable def ckL:(i:I)→(n:Nat)→(sc:Scope)→(ν:Nu)→(es:List Expr)→Fd (Tie i n sc ν (.exs es))
 | .nil,_,_,_,es=>l0 es (fun _=>none) (some ⟨Tie.nil⟩)
 | .cons a r,n,sc,ν,es=>lc es (fun _=>none) fun e es=>two Tie.cons (ckE a n sc ν false e) (ckL r n sc ν es)
 | _,_,_,_,_=>none
end
mutual
noncomputable def ckS:(i:I)→(n:Nat)→(sc:Scope)→(ν:Nu)→(s:Stmt)→Fd (Tie i n sc ν (.st s))
 | .pass,_,_,_,s=>sP s (fun _=>none) fun _=>some ⟨Tie.pass⟩
 | .asg k e,n,sc,ν,s=>sA s (fun _=>none) fun ts v _=>l1 ts (fun _=>none) fun t=>gN t (fun _=>none) fun x _=>two Tie.asg (sl ν k x) (ckE e n sc ν false v)
 | .sto k key e,n,sc,ν,s=>sA s (fun _=>none) fun ts v _=>l1 ts (fun _=>none) fun t=>gS t (fun _=>none) fun a b _=>gN a (fun _=>none) fun x _=>three Tie.sto (sl ν k x) (ckE key n sc ν false b) (ckE e n sc ν false v)
 | .app k e,n,sc,ν,s=>sX s (fun _=>none) fun c _=>gH c "append" (fun _=>none) fun x _ _ as _ hl=>l1 as (fun _=>none) fun a=>two (Tie.app hl) (sl ν k x) (ckE e n sc ν false a)
 | .rem k e,n,sc,ν,s=>sX s (fun _=>none) fun c _=>gH c "remove" (fun _=>none) fun x _ _ as _ hl=>l1 as (fun _=>none) fun a=>two (Tie.rem hl) (sl ν k x) (ckE e n sc ν false a)
 | .ext k e,n,sc,ν,s=>sX s (fun _=>none) fun c _=>gH c "extend" (fun _=>none) fun x _ _ as _ hl=>l1 as (fun _=>none) fun a=>two (Tie.ext hl) (sl ν k x) (ckE e n sc ν false a)
 | .clr k,_,_,ν,s=>sX s (fun _=>none) fun c _=>gH c "clear" (fun _=>none) fun x _ _ as _ hl=>l0 as (fun _=>none) (one (Tie.clr hl) (sl ν k x))
 | .exp e,n,sc,ν,s=>sX s (fun _=>none) fun c _=>gF c (fun _=>none) fun f as ks p=>one Tie.exp (ckE e n sc ν false (.Call f as ks p))
 | .iff c t e,n,sc,ν,s=>sI s (fun _=>none) fun q bt be _=>three Tie.iff (ckE c n sc ν false q) (ckSs t n sc ν bt) (ckSs e n sc ν be)
 | .whl c b,n,sc,ν,s=>sW s (fun _=>none) fun q bd o _=>l0 o (fun _=>none) (two Tie.whl (ckE c n sc ν false q) (ckSs b n sc ν bd))
 | .for1 k s b,n,sc,ν,st=>sF st (fun _=>none) fun t it bd o _=>l0 o (fun _=>none) (gN t (fun _=>none) fun x _=>three Tie.for1 (sl ν k x) (ckE s n sc ν true it) (ckSs b n sc ν bd))
 | .fors ks (.zip a c) b,n,sc,ν,st=>sF st (fun _=>none) fun t it bd o _=>l0 o (fun _=>none) (gT t (fun _=>none) fun es _ _=>gG it (fun _=>none) fun x _ as _=>l2 as (fun _=>none) fun ea ec=>eqK x "zip" (fun _=>none) (nmK es (fun _=>none) fun l =>
   two (fun u v=>Tie.forsZ u.1 u.2 v.1 v.2.1 v.2.2) (two And.intro (slAll ν ks l) (tt (zw5 sc ν "zip"))) (two And.intro (ckE a n sc ν false ea) (two And.intro (ckE c n sc ν false ec) (ckSs b n sc ν bd)))))
 | .fors ks s b,n,sc,ν,st=>sF st (fun _=>none) fun t it bd o _=>l0 o (fun _=>none) (gT t (fun _=>none) fun es _ _=>nmK es (fun _=>none) fun l=>three Tie.fors (slAll ν ks l) (ckE s n sc ν true it) (ckSs b n sc ν bd))
 | .ret e,n,sc,ν,s=>sR s (fun _=>none) fun v _=>soK v (fun _=>none) fun v=>one Tie.ret (ckE e n sc ν false v)
 | .asgs ks e,n,sc,ν,s=>sA s (fun _=>none) fun ts v _=>l1 ts (fun _=>none) fun t=>gT t (fun _=>none) fun es _ _=>gN v (fun _=>none) fun y py=>nmK es (fun _=>none) fun l=>two Tie.asgs (slAll ν ks l) (ckE e n sc ν false (.Name y py))
 | .rais,n,sc,ν,s=>sZ s (fun _=>none) fun _ _ _=>some ⟨Tie.rais⟩
 | _,_,_,_,_=>none
noncomputable def ckSs:(i:I)→(n:Nat)→(sc:Scope)→(ν:Nu)→(l:List Stmt)→Fd (Tie i n sc ν (.sts l))
 | .nil,_,_,_,l=>l0 l (fun _=>none) (some ⟨Tie.snil⟩)
 | .cons a r,n,sc,ν,l=>lc l (fun _=>none) fun e es=>two Tie.scons (ckS a n sc ν e) (ckSs r n sc ν es)
 | _,_,_,_,_=>none
end
noncomputable def zx8 (sc:Scope):List Str:=(sc.names.filter fun p=>p.2==.local||p.2==.cell).map (·.1)
noncomputable def fnNu (sc:Scope):Nu:=fun x=>(zx8 sc).idxOf? x
noncomputable def chkFn (fn:Fn) (ps:Arguments) (sc:Scope) (body:List Stmt):Bool :=
 sc.kind==.function&&!sc.isGenerator&&!sc.isCoroutine&&decide (zx8 sc).Nodup&&(zx8 sc).length==fn.slots &&
 sc.names.all (fun p=>sc.names.lookup p.1==some p.2&&(p.2==.local||p.2==.cell||p.2==.globalImplicit)) &&
 decide ((zx8 sc).take fn.params=ps.args.map (·.arg))&&ps.args.length==fn.params&&ps.posonlyargs.isEmpty&&ps.vararg.isNone&&ps.kwonlyargs.isEmpty&&ps.kwarg.isNone&&ps.defaults.isEmpty &&
 (ckSs fn.body fn.slots sc (fnNu sc) body).isSome
end Mini
end
section
namespace Snd
open PySem Mini
theorem lookup_zip_cons {n m:Str} {v:Value} {z:List (Str×Value)} (h:m≠n):List.lookup m ((n,v)::z)=List.lookup m z:=by
 rw [List.lookup_cons]
 have:(m==n)=false:=by simpa using h
 rw [this]
theorem filterMap_zip:∀ (names:List Str) (vals:List Value),names.Nodup→names.length=vals.length→names.filterMap (fun n=>(List.lookup n (names.zip vals)).map (n,·))=names.zip vals
 | [],[],_,_=>rfl
 | n::ns,v::vs,hn,hl=>by
  rw [List.nodup_cons] at hn
  rw [List.zip_cons_cons,List.filterMap_cons]
  rw [List.lookup_cons]
  simp only [beq_self_eq_true,Option.map_some]
  congr 1
  have ih:=filterMap_zip ns vs hn.2 (by simpa using hl)
  have gen:∀ l:List Str,(∀ m∈l,m≠n)→l.filterMap (fun m=>(List.lookup m ((n,v)::ns.zip vs)).map (m,·))=l.filterMap (fun m=>(List.lookup m (ns.zip vs)).map (m,·)):=by
   intro l
   induction l with
   | nil=>intro _; rfl
   | cons a r ihr =>
    intro h
    rw [List.filterMap_cons,List.filterMap_cons,lookup_zip_cons (h a List.mem_cons_self),ihr fun m hm=>h m (List.mem_cons_of_mem _ hm)]
  rw [gen ns fun m hm=>by rintro rfl; exact hn.1 hm]
  exact ih
 | [],_::_,_,h=>by simp at h
 | _::_,[],_,h=>by simp at h
set_option tactic.hygienic true in
theorem zi4:∀ (names:List Str) (vals:List Value),names.length=vals.length→∀ n∈names,(List.lookup n (names.zip vals)).isNone=false
 | [],_,_,n,hm=>by simp at hm
 | m::ns,v::vs,hl,n,hm=>by
  rw [List.zip_cons_cons,List.lookup_cons]
  split
  ·rfl
  ·rename_i hb
   rcases List.mem_cons.mp hm with rfl|hm
   ·simp at hb
   ·exact zi4 ns vs (by simpa using hl) n hm
 | _::_,[],h,_,_=>by simp at h
theorem bindArgs_plain {name:Str} {params:Arguments} {body:List Stmt} {scope:Scope} {pm cd doc:Value} {vals:List Value} (h1:params.posonlyargs=[]) (h2:params.vararg=none) (h3:params.kwonlyargs=[]) (h4:params.kwarg=none)
  (hn:(params.args.map (·.arg)).Nodup) (hl:params.args.length=vals.length):bindArgs (Calls.docDef name params body scope pm cd doc) ⟨vals,[]⟩=pure ((params.args.map (·.arg)).zip vals):=by
 obtain ⟨po,ar,va,ko,kd,kw,df⟩:=params
 dsimp only at h1 h2 h3 h4 hn hl ⊢
 subst h1 h2 h3 h4
 have hlen:(ar.map (·.arg)).length=vals.length:=by simpa using hl
 have hmiss:((ar.map (·.arg)).take (ar.map (·.arg)).length).filter (fun n=>(List.lookup n ((ar.map (·.arg)).zip vals)).isNone)=[]:=by
  rw [List.take_length]
  exact List.filter_eq_nil_iff.mpr fun n hm=>by rw [zi4 _ _ hlen n hm]; simp
 have hz:=filterMap_zip _ _ hn hlen
 refine Eq.trans (b:=if (decide (vals.length > (ar.map (·.arg)).length)&&true)=true then _ else _) (Eq.refl _) ?_
 refine (if_neg (by simp; bv_omega)).trans ?_
 have hdn:List.drop (([]:List Value).length - (ar.map (·.arg)).length) ([]:List Value)=[]:=List.drop_nil
 refine (if_neg ?_).trans ?_
 ·show ¬ ((!(((ar.map (·.arg)).take ((ar.map (·.arg)).length - (List.drop (([]:List Value).length - (ar.map (·.arg)).length) ([]:List Value)).length)).filter (fun n=>(List.lookup n ((ar.map (·.arg)).zip vals)).isNone)).isEmpty)=true)
  rw [hdn]; show ¬ ((!(((ar.map (·.arg)).take (ar.map (·.arg)).length).filter (fun n=>(List.lookup n ((ar.map (·.arg)).zip vals)).isNone)).isEmpty)=true)
  rw [hmiss]; exact Bool.false_ne_true
 refine Eq.trans (b:=(forIn ([]:List (Str×Value)) _ _:Sem _) >>= _) (congrArg (fun l=>(forIn l _ _:Sem _) >>= _) (?_:_=[])) ?_
 ·show List.zip _ (List.drop (([]:List Value).length - (ar.map (·.arg)).length) ([]:List Value))=[]
  rw [hdn]; exact List.zip_nil_right
 exact (congrArg (fun l=>(pure (List.filterMap (fun n=>Option.map (fun x=>(n,x)) (List.lookup n ((ar.map (·.arg)).zip vals))) l):Sem _)) (List.append_nil _)).trans (congrArg pure hz)
theorem mem_zip_fst {ns:List Str} {us:List Value} {n:Str} (h:n∈(ns.zip us).map (·.1)):n∈ns:=by
 (refine elEA (List.mem_map.mp h) fun p hp e_2=>?_; subst e_2)
 exact (List.of_mem_zip hp).1
theorem bindL_other {k:Str→Option NameKind}:∀ (binds:List (Str×Value)) (m:Str→Option Value) (x:Str),x∉binds.map (·.1)→bindL k binds m x=m x
 | [],_,_,_=>rfl
 | (n,v)::r,m,x,h=>by
  simp only [List.map_cons,List.mem_cons,not_or] at h
  rw [bindL,bindL_other r _ x h.2]
  split
  ·exact if_neg h.1
  ·rfl
theorem bindC_other {k:Str→Option NameKind}:∀ (binds:List (Str×Value)) (m:Str→Option Value) (x:Str),x∉binds.map (·.1)→bindC k binds m x=m x
 | [],_,_,_=>rfl
 | (n,v)::r,m,x,h=>by
  simp only [List.map_cons,List.mem_cons,not_or] at h
  rw [bindC,bindC_other r _ x h.2]
  split
  ·rfl
  ·exact if_neg h.1
theorem bindL_get {k:Str→Option NameKind}:∀ (names:List Str) (vals:List Value) (m:Str→Option Value) (i:Nat) (x:Str) (v:Value),names.Nodup→names[i]?=some x→vals[i]?=some v→k x=some .local →
  bindL k (names.zip vals) m x=some v
 | [],_,_,i,_,_,_,h,_,_=>by simp at h
 | _::_,[],_,i,_,_,_,_,h,_=>by simp at h
 | n::ns,u::us,m,0,x,v,hn,hx,hv,hk=>by
  simp at hx hv
  subst hx hv
  rw [List.nodup_cons] at hn
  rw [List.zip_cons_cons,bindL,bindL_other _ _ _ (fun h=>hn.1 (mem_zip_fst h)),if_pos hk]
  exact if_pos rfl
 | n::ns,u::us,m,i+1,x,v,hn,hx,hv,hk=>by
  rw [List.nodup_cons] at hn
  rw [List.zip_cons_cons,bindL]
  exact bindL_get ns us _ i x v hn.2 (by simpa using hx) (by simpa using hv) hk
theorem bindC_get {k:Str→Option NameKind}:∀ (names:List Str) (vals:List Value) (m:Str→Option Value) (i:Nat) (x:Str) (v:Value),names.Nodup→names[i]?=some x→vals[i]?=some v→k x≠some .local →
  bindC k (names.zip vals) m x=some v
 | [],_,_,i,_,_,_,h,_,_=>by simp at h
 | _::_,[],_,i,_,_,_,_,h,_=>by simp at h
 | n::ns,u::us,m,0,x,v,hn,hx,hv,hk=>by
  simp at hx hv
  subst hx hv
  rw [List.nodup_cons] at hn
  rw [List.zip_cons_cons,bindC,bindC_other _ _ _ (fun h=>hn.1 (mem_zip_fst h)),if_neg hk]
  exact if_pos rfl
 | n::ns,u::us,m,i+1,x,v,hn,hx,hv,hk=>by
  rw [List.nodup_cons] at hn
  rw [List.zip_cons_cons,bindC]
  exact bindC_get ns us _ i x v hn.2 (by simpa using hx) (by simpa using hv) hk
end Snd
end
section
namespace Snd
open PySem Mini
noncomputable def FnAt (C:Cx) (g:Str) (fn:Fn):Prop :=
 ∃ a o params body scope pm cd doc,C.mg g=some (.ref a)∧C.H.get? a=some o∧o.data=.func (Calls.docDef g params body scope pm cd doc)∧C.H.CodeRec cd g∧chkFn fn params scope body=true
structure Base (C:Cx) (Fs:Fns) (gl:Str→Option D):Prop where
 di:DictIn C.w
 dg:DictGet C.w
 pr:PrimRest C.w
 dw:DictIter C.w
 ds:DictSet C.w
 ns:C.H.Ns mainGlobals C.mg
 nb:C.H.Ns builtinsNs C.mb
 glob:∀ x d,gl x=some d→∃ v,C.mg x=some v∧Rep C.w C.F0 d v
 blt:∀ x v,bltVal x=some v→C.mg x=none∧C.mb x=some v
 nolimit:C.H.NoLimit
 fn:∀ g fn,Fs.lookup g=some fn→FnAt C g fn
structure FnOk (fn:Fn) (ps:Arguments) (sc:Scope) (body:List Stmt):Prop where
 kind:sc.kind=.function
 gen:sc.isGenerator=false
 co:sc.isCoroutine=false
 nodup:(zx8 sc).Nodup
 len:(zx8 sc).length=fn.slots
 names:∀ p∈sc.names,sc.names.lookup p.1=some p.2∧(p.2=.local∨p.2=.cell∨p.2=.globalImplicit)
 take:(zx8 sc).take fn.params=ps.args.map (·.arg)
 plen:ps.args.length=fn.params
 h1:ps.posonlyargs=[]
 h2:ps.vararg=none
 h3:ps.kwonlyargs=[]
 h4:ps.kwarg=none
 chk:Tie fn.body fn.slots sc (fnNu sc) (.sts body)
theorem chkFn_parts {fn:Fn} {ps:Arguments} {sc:Scope} {body:List Stmt} (h:chkFn fn ps sc body=true):FnOk fn ps sc body:=by
 unfold chkFn at h
 simp only [Bool.and_eq_true,beq_iff_eq,Bool.not_eq_true',decide_eq_true_eq,List.all_eq_true,Bool.or_eq_true,List.isEmpty_iff,Option.isNone_iff_eq_none] at h
 obtain ⟨⟨⟨⟨⟨⟨⟨⟨⟨⟨⟨⟨⟨q1,q2⟩,q3⟩,q4⟩,q5⟩,q6⟩,q7⟩,q8⟩,q9⟩,q10⟩,q11⟩,q12⟩,q13⟩,q14⟩:=h
 exact ⟨q1,q2,q3,q4,q5,fun p hp=>⟨(q6 p hp).1,by rcases (q6 p hp).2 with (q|q)|q<;>simp [q]⟩,q7,q8,q9,q10,q11,q12,let ⟨x,_⟩:=Option.isSome_iff_exists.mp q14; x.down⟩
theorem slot_kind {fn:Fn} {ps:Arguments} {sc:Scope} {body:List Stmt} (K:FnOk fn ps sc body) {x:Str} (h:x∈zx8 sc):sc.names.lookup x=some .local∨sc.names.lookup x=some .cell:=by
 unfold zx8 at h
 (refine elEA (List.mem_map.mp h) fun p hp e_2=>?_; subst e_2)
 obtain ⟨hm,hk⟩:=List.mem_filter.mp hp
 have:=(K.names p hm).1
 simp only [Bool.or_eq_true,beq_iff_eq] at hk
 rcases hk with e|e
 ·left; rw [this,e]
 ·right; rw [this,e]
set_option tactic.hygienic true in
theorem cells_of:∀ (names:List (Str×NameKind)) (n:Nat) (acc:List (Str×Addr)) (x:Str),((x,NameKind.cell)∈names∨(acc.lookup x).isSome)→((cellsFrom n names acc).lookup x).isSome
 | [],_,_,_,h=>h.resolve_left (by simp)
 | (y,k)::r,n,acc,x,h=>by
  unfold cellsFrom
  split
  ·rename_i hk
   refine cells_of r _ _ x ?_
   rcases h with h|h
   ·rcases List.mem_cons.mp h with e|h
    ·right; cases e; simp [List.lookup_cons]
    ·exact .inl h
   ·right
    rw [List.lookup_cons]
    split
    ·rfl
    ·exact h
  ·rename_i hk
   refine cells_of r _ _ x ?_
   rcases h with h|h
   ·rcases List.mem_cons.mp h with e|h
    ·cases e; simp at hk
    ·exact .inl h
   ·exact .inr h
theorem idxOf_get {l:List Str} {x:Str} {k:Nat} (h:l.idxOf? x=some k):l[k]?=some x:=by
 unfold List.idxOf? at h
 refine elEA (List.findIdx?_eq_some_iff_getElem.mp h) fun hlt hb _=>?_
 rw [List.getElem?_eq_getElem hlt]
 exact congrArg some (eq_of_beq hb)
theorem nodup_map {α β:Type} {f:α→β}:∀ {l:List α},(∀ x∈l,∀ y∈l,f x=f y→x=y)→l.Nodup→(l.map f).Nodup
 | [],_,_=>List.nodup_nil
 | a::r,h,hn=>by
  rw [List.nodup_cons] at hn
  rw [List.map_cons,List.nodup_cons]
  refine ⟨fun hm=>?_,nodup_map (fun x hx y hy=>h x (List.mem_cons_of_mem _ hx) y (List.mem_cons_of_mem _ hy)) hn.2⟩
  refine elEA (List.mem_map.mp hm) fun b hb e=>?_
  exact hn.1 (h b (List.mem_cons_of_mem _ hb) a List.mem_cons_self e▸hb)
section
variable {C:Cx} {Fs:Fns} {gl:Str→Option D}
noncomputable def zn0 (sc:Scope) (L:Addr) (cs:List (Str×Addr)) (x:Str):Place:=if sc.names.lookup x=some .local then .loc L x else .cell ((cs.lookup x).getD 0)
noncomputable def valAt (sc:Scope) (m cm:Str→Option Value) (x:Str):Option Value:=if sc.names.lookup x=some .local then m x else cm x
@[elab_as_elim] theorem mapGet {α β:Type} {l:List α} {f:α→β} {i:Nat} {q:β} {P:β→Prop} (e:(l.map f)[i]?=some q) (k:∀ x,l[i]?=some x→P (f x)):P q:=by
 rw [List.getElem?_map] at e
 cases hx:l[i]? with
 | none=>rw [hx] at e; exact (noS e).elim
 | some x=>rw [hx] at e; exact Option.some.inj e▸k x hx
theorem same_get {α:Type} {l:List α} {i:Nat} {x y:α} (h:l[i]?=some x) (h':l[i]?=some y):x=y:=Option.some.inj (h.symm.trans h')
set_option tactic.hygienic true in
theorem frame_ok {fn:Fn} {ps:Arguments} {sc:Scope} {body:List Stmt} (K:FnOk fn ps sc body) {X:Addr→Prop} {F:Fz} {s s₁:Shared} {ds:List D} {ws:List Value} (S:St C X F s.heap [] [] []) (r:RepL C.w F ds ws) (hl:ds.length=fn.params)
  {env:PySem.Env} {L:Addr} (hL:env.locals=L) (hLs:L=s.heap.objs.size) (hsc:env.scope=sc) (hcs:env.cells=cellsFrom (L+1) sc.names []) (hg:env.globals=mainGlobals) (hb:env.builtins=builtinsNs)
  (I:InCallC s env.locals (bindL env.kindOf ((ps.args.map (·.arg)).zip ws) fun _=>none) env.cells (bindC env.kindOf ((ps.args.map (·.arg)).zip ws) fun _=>none) s₁) :
  ∃ P vs,EnvOk env sc (fnNu sc) P∧P.length=fn.slots∧St C X F s₁.heap P vs (ds.map (fun d=>some (.val d))++List.replicate (fn.slots - fn.params) none)∧XSame X s.heap s₁.heap:=by
 have keep:=I.toInCall.keep
 have S1:St C X F s₁.heap [] [] []:=S.grow0 keep
 have hkind:∀ x,env.kindOf x=sc.names.lookup x:=fun x=>by unfold Env.kindOf; rw [hsc]
 have hcell:∀ x∈zx8 sc,sc.names.lookup x≠some .local→∃ c,env.cells.lookup x=some c:=fun x hx hn=>by
  rcases slot_kind K hx with e|e
  ·exact absurd e hn
  ·rw [hcs]; exact Option.isSome_iff_exists.mp (cells_of _ _ _ _ (.inl (mem_of_lookup e)))
 have hnew:∀ x∈zx8 sc,s.heap.get? (zn0 sc L env.cells x).addr=none:=fun x hx=>by
  have:s.heap.objs.size≤(zn0 sc L env.cells x).addr:=by
   unfold zn0
   split
   ·rw [hLs]; exact Nat.le_refl _
   ·rename_i hn
    obtain ⟨c,hc⟩:=hcell x hx hn
    rw [hc]
    have:=I.above x c (PySem.mem_of_lookup hc)
    rw [hL,hLs] at this
    exact Nat.le_of_lt this
  cases e:s.heap.get? (zn0 sc L env.cells x).addr with
  | none=>rfl
  | some o=>exact absurd (Heap.lt_size e) (Nat.not_lt.mpr this)
 have hwl:ws.length=fn.params:=by rw [r.length,hl]
 have hple:fn.params≤(zx8 sc).length:=by
  have:=congrArg List.length K.take
  rw [List.length_take,List.length_map,K.plen] at this
  bv_omega
 refine ⟨(zx8 sc).map (zn0 sc L env.cells),(zx8 sc).map (valAt sc (bindL env.kindOf ((ps.args.map (·.arg)).zip ws) fun _=>none) (bindC env.kindOf ((ps.args.map (·.arg)).zip ws) fun _=>none)),?_,by simp [K.len],?_,?_⟩
 ·exact {
   kind:=by rw [hsc]; exact K.kind
   glob:=hg
   blt:=hb
   slot:=fun x k hx=>by
    have hget:=idxOf_get hx
    have hm:x∈zx8 sc:=List.mem_of_getElem? hget
    have hP:((zx8 sc).map (zn0 sc L env.cells))[k]?=some (zn0 sc L env.cells x):=by rw [List.getElem?_map,hget]; rfl
    by_cases hloc:sc.names.lookup x=some .local
    ·left
     refine ⟨by rw [hkind,hloc],?_⟩
     rw [hP]; unfold zn0; rw [if_pos hloc,hL]
    ·right
     obtain ⟨c,hc⟩:=hcell x hm hloc
     refine ⟨.inl (by rw [hkind]; exact (slot_kind K hm).resolve_left hloc),c,hc,?_⟩
     rw [hP]; unfold zn0; rw [if_neg hloc,hc]; rfl
   gl:=fun x hx=>by rw [hkind,hx]
   cell:=fun x hx=>⟨by rw [hkind,hx],by rw [hcs]; exact Option.isSome_iff_exists.mp (cells_of _ _ _ _ (.inl (mem_of_lookup hx)))⟩ }
 ·refine S1.extend (P:=[]) (vs:=[]) (σ:=[]) (by simp) ?_ ?_ ?_ ?_ ?_ ?_ ?_
  ·have:=K.len
   show (ds.map (fun d=>some (AV.val d))++List.replicate (fn.slots - fn.params) none).length=_
   simp [hl]; bv_omega
  ·intro i q ov e1 e2
   revert e2
   refine mapGet e1 fun x hx e2=>mapGet e2 fun y hy=>?_
   rw [same_get hy hx]
   unfold zn0 valAt
   by_cases hloc:sc.names.lookup x=some .local
   ·rw [if_pos hloc,if_pos hloc]
    exact ⟨_,hL▸I.toInCall.ns,rfl⟩
   ·rw [if_neg hloc,if_neg hloc]
    refine (hcell x (List.mem_of_getElem? hx) hloc).elim fun c hc=>?_
    rw [hc]
    exact I.cell x c hc
  ·intro i ov av e1 e2
   have e2:(ds.map (fun d=>some (AV.val d))++List.replicate (fn.slots - fn.params) none)[i]?=some av:=e2
   by_cases hi:i<fn.params
   ·rw [List.getElem?_append_left (by simp [hl,hi])] at e2
    revert e1
    refine mapGet e2 fun d hd e1=>mapGet e1 fun x hx=>?_
    refine elEA (r.get hd) fun v hv rv=>?_
    have hn:(ps.args.map (·.arg))[i]?=some x:=by rw [← K.take,List.getElem?_take_of_lt hi]; exact hx
    have hnd:(ps.args.map (·.arg)).Nodup:=by rw [← K.take]; exact List.Sublist.nodup (List.take_sublist _ _) K.nodup
    refine ⟨v,?_,rv⟩
    unfold valAt
    by_cases hloc:sc.names.lookup x=some .local
    ·rw [if_pos hloc]; exact bindL_get _ _ _ i x v hnd hn hv (by rw [hkind]; exact hloc)
    ·rw [if_neg hloc]; exact bindC_get _ _ _ i x v hnd hn hv (by rw [hkind]; exact hloc)
   ·rw [List.getElem?_append_right (by simp [hl]; bv_omega)] at e2
    have:=List.mem_of_getElem? e2
    rw [List.mem_replicate] at this
    rw [this.2]; exact trivial
  ·intro av hav d e
   exact (List.mem_append.mp hav).elim (fun h=>elEA (List.mem_map.mp h) fun d' _ e'=>nomatch e'.trans e) fun h=>nomatch (List.mem_replicate.mp h).2.symm.trans e
  ·rw [List.nil_append]
   refine nodup_map ?_ K.nodup
   intro x hx y hy e
   unfold zn0 at e
   by_cases h1:sc.names.lookup x=some .local<;>by_cases h2:sc.names.lookup y=some .local
   ·rw [if_pos h1,if_pos h2] at e; cases e; rfl
   ·rw [if_pos h1,if_neg h2] at e; cases e
   ·rw [if_neg h1,if_pos h2] at e; cases e
   ·rw [if_neg h1,if_neg h2] at e
    obtain ⟨c,hc⟩:=hcell x hx h1
    obtain ⟨c',hc'⟩:=hcell y hy h2
    rw [hc,hc'] at e
    simp at e
    subst e
    exact name_of_addr I.apart (PySem.mem_of_lookup hc) (PySem.mem_of_lookup hc')
  ·intro q hq
   (refine elEA (List.mem_map.mp hq) fun x hx e_2=>?_; subst e_2)
   have:=S.nob_new (hnew x hx)
   exact ⟨this.f,this.x⟩
  ·intro k a ho
   simp [zs2] at ho
 ·exact XSame.of_keep S.xal keep
theorem Room.deeper {n:Nat} {A:Around} (R:Room (n+1) A) (env:PySem.Env):Room n (A.deeper env) :=
 ⟨R.handled,by have:=R.depth; show A.depth+1+n<_; bv_omega,by have:=R.units; show A.units+3+3*n+3000<_; bv_omega⟩
theorem St.drop {X:Addr→Prop} {F:Fz} {h:Heap} {P:List Place} {vs:List (Option Value)} {σ:Sg} (S:St C X F h P vs σ):St C X F h [] [] []:=by
 have:=St.shrink (C:=C) (P:=[]) (Q:=P) (vs:=[]) (ws:=vs) (n:=0) (by simpa using S) rfl rfl
 simpa using this
theorem run_ok (B:Base C Fs gl) (fuel:Nat):∀ (n:Nat) (g:Str) (ds:List D) (d:D) (f:Bool),Mini.run Fs gl fuel n g ds=some (d,f)→CallOk C n g ds d f:=by
 intro n
 induction n with
 | zero=>intro g ds d f h; exact (noS h).elim
 | succ n ih =>
  intro g ds d f h
  refine bK1 (h) fun fn hfn h=>?_
  by_cases hl:ds.length=fn.params
  ·have h:=(if_pos hl).symm.trans h
   refine bK1 (h) fun o1 hx h=>?_
   refine elEEEEEEEEAAAA (B.fn g fn hfn) fun a o params body scope pm cd doc h1 h2 h3 h4 h5=>?_
   have K:=chkFn_parts h5
   refine ⟨a,o,_,h1,h2,h3,fun A E s F X ws R S r=>?_⟩
   have G:Ground C (mkEnv (Mini.run Fs gl fuel n) gl fuel) n:=⟨B.di,B.dg,B.pr,B.ns,B.nb,B.glob,B.blt,ih⟩
   have gs:PX C (mkEnv (Mini.run Fs gl fuel n) gl fuel) n fn.body fn.slots scope (fnNu scope) body:=K.chk.gt G B.dw B.ds
   have hwl:ws.length=fn.params:=by rw [r.length,hl]
   have hnd:(params.args.map (·.arg)).Nodup:=by rw [← K.take]; exact List.Sublist.nodup (List.take_sublist _ _) K.nodup
   refine wpAny_call (codeAny_call_cells (fd:=Calls.docDef g params body scope pm cd doc) (by have:=R.depth; bv_omega) (S.base _ _ h2) h3 (B.nolimit.keeps S.base) (h4.keeps S.base) rfl
    (bindArgs_plain K.h1 K.h2 K.h3 K.h4 hnd (by rw [K.plen,hwl])) rfl (fun x hx=>?_) (fun s₁ I=>?_) K.co K.gen K.kind)
   ·have hm:x.1∈zx8 scope:=by
     have:=(List.of_mem_zip hx).1
     rw [← K.take] at this
     exact List.mem_of_mem_take this
    rcases slot_kind K hm with e|e
    ·exact .inl e
    ·exact .inr ⟨e,cells_of _ _ _ _ (.inl (mem_of_lookup e))⟩
   ·refine elEEAAA (frame_ok K S r hl (env:=callEnvC (Calls.docDef g params body scope pm cd doc) s.heap.objs.size a) rfl rfl rfl rfl rfl rfl I) fun P vs O hP S1 same=>?_
    refine elEE (I.toInCall.same) fun hh tk hs1=>?_
    have hfree:∀ x,(callEnvC (Calls.docDef g params body scope pm cd doc) s.heap.objs.size a).kindOf x≠some .free:=fun x e=>by
     have:=(K.names _ (mem_of_lookup (show scope.names.lookup x=some .free from e))).2
     simp at this
    revert O hfree
    generalize callEnvC (Calls.docDef g params body scope pm cd doc) s.heap.objs.size a=env
    intro O hfree
    have eqs:∀ {s':Shared},(∃ h3 k3,s'={ s₁ with heap:=h3,toks:=k3 })→∃ h3 k3,s'={ s with heap:=h3,toks:=k3 }:=fun h=>elEE h fun h3 k3 e=>⟨h3,k3,by rw [e,hs1]⟩
    refine wpM (gs ⟨O,hP.symm,R.deeper _⟩ hfree S1 hx) (fun fl s' q=>?_)
    cases o1 with
    | ret d' f' =>
     refine sm2 h ?_
     obtain ⟨v,rfl,vs',σ',F',st,rr⟩:=q
     refine ⟨F',⟨eqs st.eq,st.le,st.st.drop,XSame.trans same st.same⟩,?_⟩
     ·cases f' with
      | false=>exact rr
      | true =>
       exact elEAAAAA (rr) fun a' e' q1 q2 q3 q4 q5=>⟨a',e',q1,q2,fun p hp=>absurd hp List.not_mem_nil,fun k ho=>(noS ho.1).elim,q5⟩
    | next σ' =>
     refine sm2 h ?_
     obtain ⟨rfl,vs',F',st⟩:=q
     exact ⟨F',⟨eqs st.eq,st.le,st.st.drop,XSame.trans same st.same⟩,by simp [ResOk,Rep]⟩
  ·exact (noS ((if_neg hl).symm.trans h)).elim
end
end Snd
end
section
namespace Snd
open PySem Mini
noncomputable def tups (h:Heap):Fz:=fun a=>match h.get? a with
 | some o=>match o.data with
  | .seq _ _=>if o.cls==.type "tuple" then some o else none
  | _=>none
 | none=>none
theorem tups_in (h:Heap):(tups h).In h:=fun a o e=>by
 unfold tups at e
 cases hg:h.get? a with
 | none=>rw [hg] at e; cases e
 | some o' =>
  rw [hg] at e
  dsimp only at e
  split at e
  ·split at e
   ·exact e
   ·cases e
  ·cases e
theorem tups_get {h:Heap} {a:Addr} {vs:Array Value} {n:Nat} (e:h.get? a=some (tobj vs n)):tups h a=some (tobj vs n):=by
 unfold tups; rw [e]; rfl
section
variable {w:World} {F:Fz} {h:Heap}
mutual
theorem Rep.tups (hin:F.In h):∀ (d:D) {v:Value},zz5 d=true→Rep w F d v→Rep w (tups h) d v
 | .int _,_,_,r=>by simpa [Rep] using r
 | .str _,_,_,r=>by simpa [Rep] using r
 | .tuple xs,_,p,r=>by
  simp only [Rep] at r ⊢
  refine elAEEEAA (r) fun hz a vs n e h1 h2=>?_
  simp only [zz5] at p
  exact ⟨hz,a,vs,n,e,tups_get (hin _ _ h1),RepL.tups hin xs p h2⟩
 | .none,_,p,_=>(Bool.false_ne_true p).elim
 | .bool _,_,p,_=>(Bool.false_ne_true p).elim
 | .list _,_,p,_=>(Bool.false_ne_true p).elim
 | .dict _,_,p,_=>(Bool.false_ne_true p).elim
theorem RepL.tups (hin:F.In h):∀ (ds:List D) {vs:List Value},zt7 ds=true→RepL w F ds vs→RepL w (tups h) ds vs
 | [],_,_,r=>by simpa [RepL] using r
 | d::ds,_,p,r=>by
  simp only [RepL] at r ⊢
  refine elEEAA (r) fun v t e h1 h2=>?_
  simp only [zt7,Bool.and_eq_true] at p
  exact ⟨v,t,e,Rep.tups hin d p.1 h1,RepL.tups hin ds p.2 h2⟩
end
end
mutual
noncomputable def draw:D→Nat
 | .tuple l=>drawL l+1
 | _=>1
noncomputable def drawL:List D→Nat
 | []=>0
 | x::r=>draw x+drawL r
end
section
variable {prog:Program} {w:World} {F:Fz} {E:Value→Shared→Prop}
@[elab_as_elim] theorem plainK {d:D} {P:D→Prop} (p:zz5 d=true) (h1:∀ i,P (.int i)) (h2:∀ x,P (.str x)) (h3:∀ l,zt7 l=true→P (.tuple l)):P d:=by
 cases d<;>first|exact (Bool.false_ne_true p).elim|exact h1 _|exact h2 _|exact h3 _ p
@[elab_as_elim] theorem RepL.consK {x:Value} {rest:List Value} {ds:List D} (r:RepL w F ds (x::rest)) {P:List D→Prop} (k:∀ d ds,Rep w F d x→RepL w F ds rest→P (d::ds)):P ds:=by
 cases ds with
 | nil=>exact nomatch (show x::rest=[] from r)
 | cons d ds =>
  refine elEEAA (show ∃ v t,x::rest=v::t∧Rep w F d v∧RepL w F ds t from r) fun v t e q1 q2=>?_
  injection e with e1 e2
  exact k d ds (e1▸q1) (e2▸q2)
theorem RepL.nilK {ds:List D} (r:RepL w F ds []):ds=[]:=List.eq_nil_of_length_eq_zero r.length.symm
theorem quiet_flat {n:Nat} {v:Value} {A:Around} {s:Shared} {Q:Bool→Shared→Prop} (h:eqIsQuiet n v=pure true) (q:Q true s):wpAny (model prog w) A (eqIsQuiet n v) Q E s:=by
 rw [h]; exact wpAny_pure q
theorem quiet_ok:∀ (n:Nat) (d:D) {v:Value} {A:Around} {s:Shared} {Q:Bool→Shared→Prop},zz5 d=true→lev d≤n→F.In s.heap→Rep w F d v→Q true s→wpAny (model prog w) A (eqIsQuiet n v) Q E s:=by
 intro n
 induction n with
 | zero =>
  intro d v A s Q p hl hin r q
  revert hl r
  exact plainK p (fun i _ r=>Exists.elim r fun t e=>e▸quiet_flat (eqIsQuiet_byValue _ rfl) q) (fun i _ r=>Exists.elim r fun t e=>e▸quiet_flat (eqIsQuiet_byValue _ rfl) q) fun l _ hl=>absurd hl (Nat.not_succ_le_zero _)
 | succ n ih =>
  intro d v A s Q p hl hin r q
  revert hl r
  refine plainK p (fun i _ r=>Exists.elim r fun t e=>e▸quiet_flat (eqIsQuiet_byValue _ rfl) q) (fun i _ r=>Exists.elim r fun t e=>e▸quiet_flat (eqIsQuiet_byValue _ rfl) q) fun xs p hl r=>?_
  refine Top.tupK (.inl r) hin fun _ a vs m _ ho h2=>?_
  have hl:=Nat.le_of_succ_le_succ hl
  have hT:s.TypeIs (.ref a) "tuple" := ⟨_,ho,rfl⟩
  unfold eqIsQuiet
  refine wpAny_bind (wpAny_specialOf hT PySem.F.slot_tuple_eq.lookup ?_)
  show wpAny _ _ (isInstance (.ref a) (.type "tuple") >>= _) _ _ s
  refine wpAny_bind (wpAny_isInstance hT isSubtype_tuple_tuple ?_)
  simp only [Bool.not_true,Bool.false_eq_true,if_false]
  refine wpAny_bind (wpAny_seqItems ho rfl ?_)
  refine wpAny_bind ?_
  show wpAny _ _ (forIn vs _ _) _ _ s
  rw [← Array.forIn_toList]
  refine wpAny_forIn_list _ (fun rest r s'=>r.1=none∧s'=s∧∃ ds,zt7 ds=true∧levL ds≤n∧RepL w F ds rest) _ ?_ ?_ _ _ ⟨rfl,rfl,xs,p,hl,h2⟩
  ·rintro v rest r s' ⟨hr,rfl,ds,p1,l1,r1⟩
   revert p1 l1
   refine r1.consK fun d ds q1 q2 p1 l1=>?_
   have p1:=Bool.and_eq_true_iff.mp p1
   have l1:=Nat.max_le.mp l1
   refine wpAny_bind (ih d p1.1 l1.1 hin q1 ?_)
   simp only [Bool.not_true,Bool.false_eq_true,if_false]
   exact wpAny_pure ⟨rfl,rfl,ds,p1.2,l1.2,q2⟩
  ·rintro ⟨r1,r2⟩ s' ⟨hr,rfl,_⟩
   simp only at hr
   subst hr
   exact wpAny_pure q
theorem hashL_snoc (x:D):∀ l:List D,hashL w (l++[x])=hashL w l++[hashD w x]
 | []=>rfl
 | y::l=>by simp only [List.cons_append,hashL,hashL_snoc x l]
theorem drawL_snoc (x:D):∀ l:List D,drawL (l++[x])=drawL l+draw x
 | []=>by simp [drawL]
 | y::l=>by simp only [List.cons_append,drawL,drawL_snoc x l]; bv_omega
inductive HashInv (w:World) (F:Fz) (xs:List D) (n:Nat) (s:Shared) (rest:List Value) (b:Array Int) (s':Shared):Prop
 | mk (done left:List D) (e:xs=done++left) (pl:zt7 left=true) (ll:levL left≤n) (rl:RepL w F left rest) (hb:b.toList=hashL w done) (es:s'={ s with toks:=s.toks+drawL done })
theorem HashInv.next {xs:List D} {n:Nat} {s s':Shared} {x:Value} {rest:List Value} {b:Array Int} (h:HashInv w F xs n s (x::rest) b s') {R:Prop}
  (k:∀ d,zz5 d=true→lev d≤n→Rep w F d x→HashInv w F xs n s rest (b.push (hashD w d)) { s' with toks:=s'.toks+draw d }→R):R:=by
 obtain ⟨done,left,rfl,pl,ll,rl,hb,rfl⟩:=h
 revert pl ll k
 refine rl.consK fun d ds q1 q2 pl ll k=>?_
 have pl:=Bool.and_eq_true_iff.mp pl
 have ll:=Nat.max_le.mp ll
 exact k d pl.1 ll.1 q1 ⟨done++[d],ds,by rw [List.append_assoc]; rfl,pl.2,ll.2,q2,by rw [hashL_snoc,Array.toList_push,hb],by rw [drawL_snoc,Nat.add_assoc]⟩
theorem hash_i {i:Int} {v:Value} {A:Around} {s:Shared} {Q:Int→Shared→Prop} (r:Rep w F (.int i) v) (q:Q (hashInt i) { s with toks:=s.toks+1 }):wpAny (model prog w) A (pyHash v) Q E s :=
 Exists.elim r fun t e=>e▸(intKind prog w).pyHash (k:=i) (by simp [intKind,Value.isInt]) q
theorem hash_s {x:Str} {v:Value} {A:Around} {s:Shared} {Q:Int→Shared→Prop} (r:Rep w F (.str x) v) (q:Q (hashD w (.str x)) { s with toks:=s.toks+1 }):wpAny (model prog w) A (pyHash v) Q E s :=
 Exists.elim r fun t e=>e▸(strKind prog w).pyHash (k:=x) (by simp [strKind,Value.isStrOf]) q
theorem hash_ok:∀ (n:Nat) (d:D) {v:Value} {A:Around} {s:Shared} {Q:Int→Shared→Prop},zz5 d=true→lev d≤n→A.units+2*n<cLine→F.In s.heap→Rep w F d v→Q (hashD w d) { s with toks:=s.toks+draw d }→wpAny (model prog w) A (pyHash v) Q E s:=by
 intro n
 induction n with
 | zero =>
  intro d v A s Q p hl hu hin r q
  revert hl r q
  exact plainK p (fun i _ r q=>hash_i r q) (fun x _ r q=>hash_s r q) fun l _ hl=>absurd hl (Nat.not_succ_le_zero _)
 | succ n ih =>
  intro d v A s Q p hl hu hin r q
  revert hl r q
  refine plainK p (fun i _ r q=>hash_i r q) (fun x _ r q=>hash_s r q) fun xs p hl r q=>?_
  revert q
  refine Top.tupK (.inl r) hin fun _ a vs m _ ho h2 q=>?_
  have hl:=Nat.le_of_succ_le_succ hl
  have hT:s.TypeIs (.ref a) "tuple" := ⟨_,ho,rfl⟩
  unfold pyHash
  unfold pyHashByItsType
  refine wpAny_bind (wpAny_cRoomFor_or (.inr (by bv_omega)) ?_)
  refine wpAny_bind (wpAny_specialOf hT PySem.F.slot_tuple_hash.lookup ?_)
  show wpAny _ _ (if (some (Value.builtin "tuple.__hash__")==some Value.none)=true then _ else _) Q E s
  rw [if_neg (by rw [beq_builtin_none]; exact Bool.false_ne_true)]
  refine wpAny_bind (wpAny_specialOf hT PySem.F.slot_tuple_hash.lookup ?_)
  show wpAny _ _ (callSpecialIfBoundUnlessNone? (.ref a) "__hash__" _ >>= _) Q E s
  refine wpAny_bind (wpAny_callSpecialIfBoundUnlessNone?_slot hT PySem.F.slot_tuple_hash (wpAny_call_entry PySem.F.slot_tuple_hash hT PySem.F.entry_tuple_hash ?_ (PySem.F.args_tuple_hash_1 _)))
  show wpAny _ _ (Builtin.Tuple.tupleItemsOf (.ref a) >>= _) _ _ s
  refine wpAny_bind (wpAny_tupleItemsOf ho rfl ?_)
  refine wpAny_bind ?_
  rw [← Array.forIn_toList]
  refine wpAny_forIn_list _ (HashInv w F xs n s) _ ?_ ?_ _ _ ⟨[],xs,rfl,p,hl,h2,rfl,rfl⟩
  ·intro x rest b s' hI
   refine hI.next fun d pd ld q1 fin=>?_
   have hin':F.In s'.heap:=by obtain ⟨_,_,_,_,_,_,_,rfl⟩:=hI; exact hin
   refine wpAny_bind (ih d pd ld (by show A.units+1+2*n<cLine; bv_omega) hin' q1 ?_)
   first
    | exact wpAny_pure fin
    | exact wpAny_bind (wpAny_pure (wpAny_pure fin))
  ·rintro b s' ⟨done,left,e,pl,ll,rl,hb,rfl⟩
   rw [rl.nilK,List.append_nil] at e
   subst e
   show wpAny _ _ (retInt (Builtin.Tuple.tupleHashOf b.toList)) _ _ _
   rw [hb]
   refine wpAny_ret_mkInt ?_
   show wpAny _ _ (if (decide (-(2:Int)^63≤Builtin.Tuple.tupleHashOf (hashL w xs))&&decide (Builtin.Tuple.tupleHashOf (hashL w xs)<2^63))=true then _ else _) Q E _
   change Q (reduceHash (Builtin.Tuple.tupleHashOf (hashL w xs))) { s with toks:=s.toks+(drawL xs+1) } at q
   unfold reduceHash at q
   by_cases hr:(decide (-(2:Int)^63≤Builtin.Tuple.tupleHashOf (hashL w xs))&&decide (Builtin.Tuple.tupleHashOf (hashL w xs)<2^63))=true
   ·rw [if_pos hr]
    rw [if_pos hr] at q
    exact wpAny_pure (by rw [← Nat.add_assoc] at q; exact q)
   ·rw [if_neg hr]
    rw [if_neg hr] at q
    exact wpAny_bind (wpAny_rule (wpAny_pure (by rw [← Nat.add_assoc] at q; exact q)))
theorem zx3 {d:D} (h:tkey d=true):(∃ l,d=.tuple l)∧zz5 d=true∧okd d=true∧lev d≤8:=by
 unfold tkey at h
 simp only [Bool.and_eq_true,decide_eq_true_eq] at h
 refine ⟨?_,h.1.1.2,h.1.2,h.2⟩
 cases d<;>first|exact ⟨_,rfl⟩|exact absurd h.1.1.1 Bool.false_ne_true
end
theorem tups_le {h h':Heap} {d:Addr} {o:Obj} {es:Array DictEntry} {ep:Nat} (ho:h.get? d=some o) (hd:o.data=.dict es ep) (hs:Heap.SameBut d h h'):(tups h).le (tups h'):=fun a x e=>by
 have hg:=tups_in h a x e
 have hne:a≠d:=by
  rintro rfl
  rw [ho] at hg
  cases hg
  unfold tups at e
  rw [ho] at e
  dsimp only at e
  rw [hd] at e
  cases e
 unfold tups at e ⊢
 rw [hs.2 a hne]
 exact e
theorem eqv_dec {x y:D} [Decidable (x=y)] (p1:zz5 x=true) (p2:zz5 y=true):PyData.eqv x y=decide (x=y):=by
 by_cases hxy:x=y
 ·rw [decide_eq_true hxy]; exact (zw1 p1 p2).mpr hxy
 ·rw [decide_eq_false hxy]
  cases ee:PyData.eqv x y with
  | false=>rfl
  | true=>exact absurd ((zw1 p1 p2).mp ee) hxy
open Classical in
noncomputable def tupKind (prog:Program) (w:World):HeapKind prog w D where
 is:=fun h k a=>tkey k=true∧Rep w (tups h) k (.ref a)
 hash:=hashD w
 draws:=draw
 room:=fun A=>A.units+1100<cLine
 inj:=fun hx hy=>by
  obtain ⟨as,r1⟩:=Rep.reads (tups_in _) _ hx.2
  obtain ⟨bs,r2⟩:=Rep.reads (tups_in _) _ hy.2
  exact (Reads.unique r1 _ _ r2).1
 keeps:=fun hx ho hd hs=>⟨hx.1,Rep.mono (tups_le ho hd hs) _ hx.2⟩
 pyHash:=fun hu hx q=>hash_ok 8 _ (zx3 hx.1).2.1 (zx3 hx.1).2.2.2 (Nat.lt_of_le_of_lt (Nat.add_le_add_left (by decide) _) hu) (tups_in _) hx.2 q
 eqBool:=fun hu hx hy q=>by
  obtain ⟨as,r1⟩:=Rep.reads (tups_in _) _ hx.2
  obtain ⟨bs,r2⟩:=Rep.reads (tups_in _) _ hy.2
  refine elAAA (zx3 hx.1) fun _ p1 o1 _=>?_
  refine elAAA (zx3 hy.1) fun _ p2 o2 _=>?_
  have c1:=zx9 o1
  have c2:=zx9 o2
  refine SeqAt.eqAt_reads _ _ _ _ _ _ as bs r1 r2 c1.1 c2.1 (Nat.lt_of_le_of_lt (Nat.add_le_add_left (Nat.le_trans (Nat.min_le_left ..) (Nat.le_trans c1.2 (by decide))) _) hu) prog w _ _ ?_
  rw [eqv_dec p1 p2]
  exact q
 quiet:=fun hx q=>quiet_ok 8 _ (zx3 hx.1).2.1 (zx3 hx.1).2.2.2 (tups_in _) hx.2 q
end Snd
end
section
namespace Snd
open PySem Mini
noncomputable def RowsAt (h:Heap) (d:Addr) (es:Array DictEntry) (ep:Nat):Prop:=∃ o,h.get? d=some o∧o.ExactDict∧o.data=.dict es ep
theorem RowsAt.type {s:Shared} {d:Addr} {es:Array DictEntry} {ep:Nat} (x:RowsAt s.heap d es ep):s.TypeIs (.ref d) "dict" := let ⟨o,ho,hc,_⟩:=x; ⟨o,ho,hc.1⟩
section
variable {prog:Program} {w:World} {A:Around} {E:Value→Shared→Prop} {s:Shared} {d it:Addr} {es:Array DictEntry} {ep i:Nat}
theorem iter_rows {Q:Value→Shared→Prop} (lo:(d==sysModules)=false) (x:RowsAt s.heap d es ep)
  (h:Q (.ref s.heap.objs.size) { s with heap:=s.heap.push { cls:=.type "dict_keyiterator", data:=.fields #[.ref d,.int 0 0,.int es.size 0,.int ep 0] } }):wpAny (model prog w) A (pyIter (.ref d)) Q E s:=by
 have hT:=x.type
 refine elEAA (x) fun o ho hc hd=>?_
 refine wpAny_pyIter_slot hT PySem.F.slot_dict_iter (wpAny_call_entry PySem.F.slot_dict_iter hT PySem.F.entry_dict_iter ?_ (PySem.F.args_dict_iter_1 _))
 unfold Builtin.«dict.__iter__» Builtin.Dict.dictSlotNone
 refine wpAny_bind (wpAny_bind (wpAny_notOrdered_dict hT ?_))
 show wpAny _ _ (pure (Value.ref d)) _ _ s
 refine wpAny_pure ?_
 show wpAny _ _ (Builtin.Dict.showsAll d >>= _) _ _ s
 unfold Builtin.Dict.showsAll
 rw [if_neg (by rw [lo]; exact Bool.false_ne_true)]
 refine wpAny_bind (wpAny_pure (wpAny_bind (wpAny_dictEntries ho hd (wpAny_bind (wpAny_dictEpoch ho hd ?_)))))
 refine wpAny_bind (wpAny_newObj_type (wpAny_pure ⟨_,rfl,"dict_keyiterator", _,⟨_,Heap.get?_push_size _ rfl,rfl⟩,PySem.F.slot_dict_keyiterator_next.lookup,?_⟩))
 simpa [rawInt] using h
theorem wpN {α:Type} {M:Model} {A:Around} {Q:α→Shared→Prop} {E:Value→Shared→Prop} {s:Shared} {c:Prop} [Decidable c] {t e:Sem α} (h:¬ c) (k:wpAny M A e Q E s):wpAny M A (if c then t else e) Q E s:=by rw [if_neg h]; exact k
theorem next_rows {Q:Option Value→Shared→Prop} (hit:s.heap.IsKeyIter it d i es.size ep) (x:RowsAt s.heap d es ep) (hi:i<es.size)
  (h:∀ h',h'.IsKeyIter it d (i+1) es.size ep→Heap.SameBut it s.heap h'→Q (some es[i].key) { s with heap:=h' }):wpAny (model prog w) A (pyNext (.ref it)) Q E s:=by
 refine elEAA (id hit) fun o ho hc hd=>?_
 refine elEAA (id x) fun od hod hcd hdd=>?_
 unfold pyNext
 refine wpAny_bind (wpAny_attempt (wpAny_callSpecial?_slot (name:=Str.ofString "__next__") hit.typeIs PySem.F.slot_dict_keyiterator_next
  (wpAny_call_entry PySem.F.slot_dict_keyiterator_next hit.typeIs PySem.F.entry_dict_keyiterator_next ?_ (PySem.F.args_dict_keyiterator_next_1 _))))
 refine wpAny_bind (wpAny_pure (wpAny_bind (wpAny_bind ?_)))
 refine wpAny_bind (wpAny_typeNameOfWhole_keyiter hit.typeIs (wpAny_pure ?_))
 refine wpAny_bind (wpAny_fieldsOf ho hd ?_)
 refine wpN (c:=(Value.ref d==Value.none)=true) Bool.false_ne_true ?_
 refine wpAny_bind (wpAny_pure (wpAny_bind (wpAny_dictEntries hod hdd ?_)))
 refine wpN (by simp) ?_
 refine wpAny_bind (wpAny_pure (wpAny_bind (wpAny_dictEpoch hod hdd ?_)))
 refine wpN (by simp) ?_
 refine wpAny_pure ?_
 simp only [show ¬ ((i:Int)<0) from by bv_omega,if_false,Int.toNat_natCast,Array.getElem?_eq_getElem hi]
 refine wpAny_bind (wpAny_bind (wpAny_typeNameOfWhole_keyiter hit.typeIs (wpAny_pure ?_)))
 refine wpAny_bind (wpAny_isOneOf_keyiter hit.typeIs ?_)
 show wpAny _ _ (setField (.ref it) 1 (rawInt ((i:Int)+1)) >>= _) _ _ s
 refine wpAny_bind (wpAny_setField ho hd (by simp) ?_)
 have hit':(s.heap.update it (Obj.mapFields (·.setIfInBounds 1 (rawInt ((i:Int)+1))))).IsKeyIter it d (i+1) es.size ep :=
  ⟨_,Heap.get?_update_self _ ho (Obj.isFreed_of_fields (Obj.data_mapFields hd _)),(Obj.cls_mapFields ..).trans hc,by rw [Obj.data_mapFields hd]; simp [rawInt]⟩
 refine wpAny_bind (wpAny_holding ?_)
 refine wpAny_bind (wpAny_isOneOf_keyiter (s:={ s with heap:=s.heap.update it (Obj.mapFields (·.setIfInBounds 1 (rawInt ((i:Int)+1)))) }) hit'.typeIs ?_)
 show wpAny _ _ (pure es[i].key) _ _ _
 exact wpAny_pure (wpAny_pure ⟨_,rfl,wpAny_pure (h _ hit' (Heap.SameBut.update ..))⟩)
theorem end_rows {Q:Option Value→Shared→Prop} (hh:A.handled=none) (hit:s.heap.IsKeyIter it d es.size es.size ep) (x:RowsAt s.heap d es ep)
  (h:∀ h',Heap.ExtBut it s.heap h'→Q none { s with heap:=h' }):wpAny (model prog w) A (pyNext (.ref it)) Q E s:=by
 refine elEAA (id hit) fun o ho hc hd=>?_
 refine elEAA (id x) fun od hod hcd hdd=>?_
 unfold pyNext
 refine wpAny_bind (wpAny_attempt (wpAny_callSpecial?_slot (name:=Str.ofString "__next__") hit.typeIs PySem.F.slot_dict_keyiterator_next
  (wpAny_call_entry PySem.F.slot_dict_keyiterator_next hit.typeIs PySem.F.entry_dict_keyiterator_next ?_ (PySem.F.args_dict_keyiterator_next_1 _))))
 refine wpAny_bind (wpAny_pure (wpAny_bind (wpAny_bind ?_)))
 refine wpAny_bind (wpAny_typeNameOfWhole_keyiter hit.typeIs (wpAny_pure ?_))
 refine wpAny_bind (wpAny_fieldsOf ho hd ?_)
 refine wpN (c:=(Value.ref d==Value.none)=true) Bool.false_ne_true ?_
 refine wpAny_bind (wpAny_pure (wpAny_bind (wpAny_dictEntries hod hdd ?_)))
 refine wpN (by simp) ?_
 refine wpAny_bind (wpAny_pure (wpAny_bind (wpAny_dictEpoch hod hdd ?_)))
 refine wpN (by simp) ?_
 refine wpAny_pure ?_
 simp only [show ¬ ((es.size:Int)<0) from by bv_omega,if_false,Int.toNat_natCast,Array.getElem?_eq_none (Nat.le_refl es.size)]
 refine wpAny_bind (wpAny_bind (wpAny_typeNameOfWhole_keyiter hit.typeIs (wpAny_pure ?_)))
 show wpAny _ _ (setField (.ref it) 0 .none >>= _) _ _ s
 refine wpAny_bind (wpAny_setField ho hd (by simp) ?_)
 show wpAny _ _ (newExc (.type "StopIteration") [] >>= _) _ _ _
 refine wpAny_bind ?_
 simp only [newExc,newTuple]
 refine wpAny_bind (wpAny_newObj_type ?_ (by size_fits))
 refine wpAny_bind (m:=firstArgMember _ _) (wpAny_of_eq (a:=Value.none) (by first|rfl|(simp only [firstArgMember]; rfl)) ?_)
 refine wpAny_newObj_type ?_ (by size_fits)
 simp only [raiseNew]
 refine wpAny_bind (wpAny_handled ?_)
 rw [show A.in1.handled=none from hh]
 refine wpAny_bind (wpAny_pure (wpAny_throw ?_))
 refine wpAny_bind (wpAny_isInstance (T := "StopIteration") (b:=true) ⟨_,Heap.get?_push_size _ rfl,rfl⟩ isSubtype_stop ?_)
 exact wpAny_pure (h _ (((Heap.SameBut.update ..).extBut.push _).push _))
theorem RowsAt.at {h h':Heap} (x:RowsAt h d es ep) (e:∀ o,h.get? d=some o→h'.get? d=some o):RowsAt h' d es ep:=let ⟨o,ho,r⟩:=x; ⟨o,e _ ho,r⟩
theorem walk_rows (hh:A.handled=none) (I d:Addr) (hne:d≠I) (es:Array DictEntry) (ep:Nat) :
  Walks prog w A I [I,d] [I] es.size (fun i v=>∃ e,es[i]?=some e∧v=e.key) (fun i h=>h.IsKeyIter I d i es.size ep∧RowsAt h d es ep) where
 sub:=fun b hb=>by simp at hb; simp [hb]
 frame:=fun _ _ _ st hk=>⟨st.1.at fun o e=>hk I (by simp) o e,st.2.at fun o e=>hk d (by simp) o e⟩
 item:=fun i s Q E hi st hQ=>by
  refine next_rows st.1 st.2 hi fun h' hit' hs'=>?_
  exact hQ _ h' s.toks ⟨es[i],Array.getElem?_eq_getElem hi,rfl⟩ ⟨hit',st.2.at fun o e=>by rw [hs'.2 d hne]; exact e⟩ fun b o hb e=>hs'.extBut b o (fun h=>hb (by simp [h])) e
 done:=fun s Q E st hQ=>end_rows hh st.1 st.2 fun h' he'=>hQ h' s.toks fun b o hb e=>he' b o (fun h=>hb (by simp [h])) e
 self:=fun _ _ _ _ st hQ=>wpAny_pyIter_keyiter st.1 hQ
end
end Snd
end
section
namespace Snd
open PySem Mini Classical
inductive AbsH (w:World) (F:Fz):List (D×D)→List (D×Addr×Value)→Prop
 | nil:AbsH w F [] []
 | cons {k d:D} {a:Addr} {v:Value} {r:List (D×D)} {t:List (D×Addr×Value)}:tkey k=true→Rep w F k (.ref a)→Rep w F d v→AbsH w F r t→AbsH w F ((k,d)::r) ((k,a,v)::t)
section
variable {w:World} {F:Fz} {prog:Program}
theorem AbsH.keys {kvs:List (D×D)} {t:List (D×Addr×Value)} (h:AbsH w F kvs t):t.map (·.1)=kvs.map (·.1):=by
 induction h with
 | nil=>rfl
 | cons _ _ _ _ ih=>simp [ih]
theorem AbsH.length {kvs:List (D×D)} {t:List (D×Addr×Value)} (h:AbsH w F kvs t):t.length=kvs.length:=by
 have:=congrArg List.length h.keys; simpa using this
theorem AbsH.all {kvs:List (D×D)} {t:List (D×Addr×Value)} (h:AbsH w F kvs t):∀ x∈t,tkey x.1=true∧Rep w F x.1 (.ref x.2.1):=by
 induction h with
 | nil=>simp
 | cons a b _ _ ih =>
  intro x hx
  rcases List.mem_cons.mp hx with rfl|hx
  ·exact ⟨a,b⟩
  ·exact ih x hx
theorem tkeys_abs:∀ {kvs:List (D×D)} {es:List DictEntry},(kvs.all fun p=>tkey p.1)=true→RepKV w F kvs es→∃ t,AbsH w F kvs t∧es=t.map (entryOfKey (tupKind prog w))
 | [],es,_,r=>by
  simp only [RepKV] at r; subst r
  exact ⟨[],.nil,rfl⟩
 | (k,d)::kvs,es,h,r=>by
  simp only [RepKV,RepP] at r
  obtain ⟨e,t,rfl,⟨h1,h2,h3⟩,h4⟩:=r
  simp only [List.all_cons,Bool.and_eq_true] at h
  refine elEA (tkeys_abs (kvs:=kvs) h.2 h4) fun t' a q=>?_
  obtain ⟨⟨l,rfl⟩,_⟩:=zx3 h.1
  have h2':=h2
  simp only [Rep] at h2
  refine elAEEEA (h2) fun _ b vs n e1 _=>?_
  rw [e1] at h2'
  refine ⟨(.tuple l,b,e.val)::t',.cons h.1 h2' h3 a,?_⟩
  obtain ⟨eh,ek,ev⟩:=e
  simp only at e1 h1
  subst e1 h1 q
  rfl
theorem abs_tkeys:∀ {kvs:List (D×D)} {t:List (D×Addr×Value)},AbsH w F kvs t→RepKV w F kvs (t.map (entryOfKey (tupKind prog w))):=fun a=>by
 induction a with
 | nil=>simp [RepKV]
 | cons hk r1 r2 a ih =>
  simp only [List.map_cons,RepKV,RepP]
  exact ⟨_,_,rfl,⟨rfl,r1,r2⟩,ih⟩
theorem to_dictH {h:Heap} {kvs:List (D×D)} {a:Addr} {es:Array DictEntry} {n:Nat} (hin:F.In h) (hk:(kvs.all fun p=>tkey p.1)=true) (hd:DKeys kvs) (h1:h.get? a=some (dobj es n)) (r:RepKV w F kvs es.toList) :
  ∃ t,AbsH w F kvs t∧h.DictOfH (tupKind prog w) a t:=by
 refine elEA (tkeys_abs (prog:=prog) hk r) fun t ab e=>?_
 exact ⟨t,ab,_,es,n,h1,⟨rfl,rfl,rfl⟩,rfl,e,fun x hx=>⟨(ab.all x hx).1,Rep.tups hin _ (zx3 (ab.all x hx).1).2.1 (ab.all x hx).2⟩,by rw [ab.keys]; exact hd.2⟩
theorem of_dictH {h:Heap} {kvs:List (D×D)} {a:Addr} {t:List (D×Addr×Value)} (ab:AbsH w F kvs t) (hz:kvs.length≤size) (hb:sysModules<a) (h1:h.DictOfH (tupKind prog w) a t):Shal w F h (.dict kvs) a:=by
 obtain ⟨o,es,n,ho,⟨c1,c2,c3⟩,hd,he,_,hn⟩:=h1
 refine ⟨⟨hz,by rw [← ab.keys]; exact hn⟩,es,n,?_,by rw [he]; exact abs_tkeys ab,hb⟩
 rw [ho]
 obtain ⟨cls,dict,data,slots⟩:=o
 simp only at c1 c2 c3 hd
 subst c1 c2 c3 hd
 rfl
set_option tactic.hygienic true in
theorem atKey_find {k:D} (hk:tkey k=true):∀ {kvs:List (D×D)} {t:List (D×Addr×Value)},AbsH w F kvs t→(∀ d,zs1 kvs k=some d→∃ p,atKey t k=some p∧Rep w F d p.2)∧(zs1 kvs k=none→atKey t k=none)
 | _,_,.nil=>⟨fun d h=>by simp [zs1] at h,fun _=>rfl⟩
 | _,_,.cons hk' r1 r2 a=>by
  rename_i k' d b v kvs t
  have ih:=atKey_find hk a
  unfold zs1 atKey at *
  simp only [List.find?_cons,eqv_dec (zx3 hk').2.1 (zx3 hk).2.1]
  by_cases e:k'=k
  ·simp only [e,decide_true,Option.map_some]
   exact ⟨fun d' h=>by cases h; exact ⟨_,rfl,r2⟩,fun h=>by cases h⟩
  ·simp only [e,decide_false]
   exact ih
set_option tactic.hygienic true in
theorem storedH_dput {k d:D} {a:Addr} {v:Value} (hk:tkey k=true) (r1:Rep w F k (.ref a)) (r2:Rep w F d v):∀ {kvs:List (D×D)} {t:List (D×Addr×Value)},AbsH w F kvs t→(t.map (·.1)).Nodup→AbsH w F (dput kvs k d) (storedH t k a v):=by
 intro kvs t ab
 induction ab with
 | nil=>intro _; simp only [dput]; exact .cons hk r1 r2 .nil
 | cons hk' q1 q2 ab ih0 =>
  intro hn
  rename_i k' d' a' v' kvs t
  rw [List.map_cons,List.nodup_cons] at hn
  have ih:=ih0 hn.2
  unfold dput
  rw [eqv_dec (zx3 hk').2.1 (zx3 hk).2.1]
  by_cases e:k'=k
  ·subst e
   simp only [decide_true,if_true]
   have:storedH ((k',a',v')::t) k' a v=(k',a',v)::t:=by
    unfold storedH
    rw [if_pos (by simp [atKey])]
    simp only [List.map_cons]
    rw [map_putAt_of_not_mem t k' v hn.1]
    simp [putAt]
   rw [this]
   exact .cons hk' q1 r2 ab
  ·simp only [e,decide_false,Bool.false_eq_true,if_false]
   have:storedH ((k',a',v')::t) k a v=(k',a',v')::storedH t k a v:=by
    unfold storedH
    have e1:atKey ((k',a',v')::t) k=atKey t k:=by simp [atKey,List.find?_cons,e]
    rw [e1]
    split
    ·simp [putAt,e]
    ·rfl
   rw [this]
   exact .cons hk' q1 q2 ih
theorem top_tkey {h:Heap} {k:D} {v:Value} (hin:F.In h) (hk:tkey k=true) (x:Top w F h k v):∃ a,v=.ref a∧Rep w F k (.ref a):=by
 obtain ⟨⟨l,rfl⟩,_⟩:=zx3 hk
 refine x.tupK hin fun hz a vs n h0 h1 h2=>?_
 exact ⟨a,rfl,by simp only [Rep]; exact ⟨hz,a,vs,n,rfl,h0,h2⟩⟩
theorem RepKV.key {kvs:List (D×D)} {es:List DictEntry} (r:RepKV w F kvs es) {i:Nat} {d:D} {e:DictEntry} (hd:(kvs.map (·.1))[i]?=some d) (he:es[i]?=some e):Rep w F d e.key:=by
 induction kvs generalizing es i with
 | nil=>simp at hd
 | cons p kvs ih =>
  obtain ⟨k,x⟩:=p
  simp only [RepKV,RepP] at r
  obtain ⟨e',t,rfl,⟨_,h2,_⟩,h4⟩:=r
  cases i with
  | zero=>simp at hd he; subst hd he; exact h2
  | succ i=>exact ih h4 (by simpa using hd) (by simpa using he)
theorem RepL.of_get:∀ {ds:List D} {vs:List Value},vs.length=ds.length→(∀ (i:Nat) (d:D) (v:Value),ds[i]?=some d→vs[i]?=some v→Rep w F d v)→RepL w F ds vs:=by
 intro ds
 induction ds with
 | nil =>
  intro vs hl _
  rw [List.length_eq_zero_iff.mp hl]; exact RepL.nil_
 | cons d ds ih =>
  intro vs hl h
  cases vs with
  | nil=>cases hl
  | cons v vs=>exact RepL.cons_ (h 0 d v rfl rfl) (ih (Nat.succ.inj hl) fun i d v h1 h2=>h (i+1) d v h1 h2)
end
end Snd
end
section
namespace Snd
open PySem Mini
inductive Abs (w:World) (F:Fz):List (D×D)→List (Int×Value)→Prop
 | nil:Abs w F [] []
 | cons {k:Int} {d:D} {v:Value} {r:List (D×D)} {t:List (Int×Value)}:Rep w F d v→Abs w F r t→Abs w F ((.int k,d)::r) ((k,v)::t)
section
variable {w:World} {F:Fz} {prog:Program}
theorem Abs.keys {kvs:List (D×D)} {t:List (Int×Value)} (h:Abs w F kvs t):kvs.map (·.1)=(t.map (·.1)).map PyData.int:=by
 induction h with
 | nil=>rfl
 | cons _ _ ih=>simp [ih]
theorem Abs.length {kvs:List (D×D)} {t:List (Int×Value)} (h:Abs w F kvs t):t.length=kvs.length:=by
 induction h with
 | nil=>rfl
 | cons _ _ ih=>simp [ih]
theorem Abs.nodup {kvs:List (D×D)} {t:List (Int×Value)} (h:Abs w F kvs t) (hn:(kvs.map (·.1)).Nodup):(t.map (·.1)).Nodup:=by
 rw [h.keys] at hn
 exact List.Pairwise.of_map _ (fun a b hab e=>hab (by rw [e])) hn
theorem Abs.nodup' {kvs:List (D×D)} {t:List (Int×Value)} (h:Abs w F kvs t) (hn:(t.map (·.1)).Nodup):(kvs.map (·.1)).Nodup:=by
 rw [h.keys]
 exact nodup_map (fun a _ b _ e=>by cases e; rfl) hn
theorem kk_inv {k:D} (h:zp6 k=some 0):∃ i,k=.int i:=by
 cases k with
 | int i=>exact ⟨i,rfl⟩
 | tuple l =>
  by_cases q:tkey (.tuple l)=true
  ·cases (if_pos q).symm.trans h
  ·exact (noS ((if_neg q).symm.trans h)).elim
 | _=>exact (noS h).elim
theorem intKeys_abs:∀ {kvs:List (D×D)} {es:List DictEntry},zj0 kvs=true→RepKV w F kvs es→∃ t,Abs w F kvs t∧Pairs (intKind prog w) es t∧∀ e∈es,∃ k,(intKind prog w).is k e.key=true∧e.hash=(intKind prog w).hash k
 | [],es,_,r=>by
  simp only [RepKV] at r; subst r
  exact ⟨[],.nil,.nil,by simp⟩
 | (k,d)::kvs,es,h,r=>by
  simp only [RepKV,RepP] at r
  obtain ⟨e,t,rfl,⟨h1,h2,h3⟩,h4⟩:=r
  simp only [zj0,List.all_cons,Bool.and_eq_true,beq_iff_eq] at h
  refine elEAA (intKeys_abs (kvs:=kvs) h.2 h4) fun t' a p q=>?_
  obtain ⟨i,rfl⟩:=kk_inv h.1
  simp only [Rep] at h2
  obtain ⟨u,hu⟩:=h2
  have his:(intKind prog w).is i e.key=true:=by rw [hu]; simp [intKind,Value.isInt]
  refine ⟨(i,e.val)::t',.cons h3 a,.cons his rfl p,fun e' he'=>?_⟩
  rcases List.mem_cons.mp he' with rfl|he'
  ·exact ⟨i,his,by rw [h1]; rfl⟩
  ·exact q e' he'
set_option tactic.hygienic true in
theorem abs_intKeys:∀ {kvs:List (D×D)} {t:List (Int×Value)} {es:List DictEntry},Abs w F kvs t→Pairs (intKind prog w) es t→(∀ e∈es,∃ k,(intKind prog w).is k e.key=true∧e.hash=(intKind prog w).hash k)→RepKV w F kvs es:=by
 intro kvs t es a
 induction a generalizing es with
 | nil=>intro p _; cases p; simp [RepKV]
 | cons r a ih =>
  intro p q
  cases p with
  | cons his hv p =>
  rename_i k d v kvs t e es
  simp only [RepKV,RepP]
  refine ⟨e,es,rfl,⟨?_,?_,?_⟩,ih p fun e' he'=>q e' (List.mem_cons_of_mem _ he')⟩
  ·refine elEA (q e (by simp)) fun k' h1 h2=>?_
   have:k'=k:=(intKind prog w).inj _ _ _ h1 his
   rw [h2,this]; rfl
  ·simp only [Rep]
   exact Value.isInt_shape his
  ·simp only at hv
   rw [hv]; exact r
theorem to_dictOf {h:Heap} {kvs:List (D×D)} {a:Addr} {es:Array DictEntry} {n:Nat} (hk:zj0 kvs=true) (hd:DKeys kvs) (h1:h.get? a=some (dobj es n)) (r:RepKV w F kvs es.toList) :
  ∃ t,Abs w F kvs t∧h.DictAt (intKind prog w) a t n:=by
 refine elEAA (intKeys_abs (prog:=prog) hk r) fun t a' p q=>?_
 exact ⟨t,a',_,es,h1,⟨rfl,rfl,rfl⟩,rfl,fun e he=>q e (Array.mem_toList_iff.mpr he),p,a'.nodup hd.2⟩
theorem of_dictOf {h:Heap} {kvs:List (D×D)} {a:Addr} {t:List (Int×Value)} (ha:Abs w F kvs t) (hz:kvs.length≤size) (hb:sysModules<a) (h1:h.DictOf (intKind prog w) a t):Shal w F h (.dict kvs) a:=by
 obtain ⟨o,es,n,ho,⟨c1,c2,c3⟩,hd,hk,p,hn⟩:=h1
 refine ⟨⟨hz,ha.nodup' hn⟩,es,n,?_,abs_intKeys ha p fun e he=>hk e (Array.mem_toList_iff.mp he),hb⟩
 rw [ho]
 obtain ⟨cls,dict,data,slots⟩:=o
 simp only at c1 c2 c3 hd
 subst c1 c2 c3 hd
 rfl
theorem eqv_int {a b:Int}:PyData.eqv (.int a) (.int b)=decide (a=b):=by
 show (a==b)=_
 by_cases h:a=b<;>simp [h]
set_option tactic.hygienic true in
theorem valueAt_find {k:Int}:∀ {kvs:List (D×D)} {t:List (Int×Value)},Abs w F kvs t→(∀ d,zs1 kvs (.int k)=some d→∃ v,valueAt t k=some v∧Rep w F d v)∧(zs1 kvs (.int k)=none→valueAt t k=none):=by
 intro kvs t a
 induction a with
 | nil=>exact ⟨fun d h=>by simp [zs1] at h,fun _=>rfl⟩
 | cons r a ih =>
  rename_i k' d v kvs t
  unfold zs1 valueAt at *
  simp only [List.find?_cons,eqv_int]
  by_cases e:k'=k
  ·subst e
   simp only [decide_true,Option.map_some]
   exact ⟨fun d' h=>by cases h; exact ⟨v,rfl,r⟩,fun h=>by cases h⟩
  ·simp only [e,decide_false]
   exact ih
set_option tactic.hygienic true in
theorem stored_dput {k:Int} {d:D} {v:Value} (r:Rep w F d v):∀ {kvs:List (D×D)} {t:List (Int×Value)},Abs w F kvs t→(t.map (·.1)).Nodup→Abs w F (dput kvs (.int k) d) (stored t k v):=by
 intro kvs t a
 induction a with
 | nil=>intro _; simp only [dput,stored]; exact .cons r .nil
 | cons r' a ih0 =>
  intro hn
  rename_i k' d' v' kvs t
  rw [List.map_cons,List.nodup_cons] at hn
  have ih:=ih0 hn.2
  unfold dput
  rw [eqv_int]
  by_cases e:k'=k
  ·subst e
   simp only [decide_true,if_true]
   have:stored ((k',v')::t) k' v=(k',v)::t:=by
    unfold stored
    rw [if_pos (by simp)]
    simp only [List.map_cons,if_true]
    rw [map_store_of_not_mem t k' v hn.1]
   rw [this]
   exact .cons r a
  ·simp only [e,decide_false,Bool.false_eq_true,if_false]
   have:stored ((k',v')::t) k v=(k',v')::stored t k v:=by
    unfold stored
    simp only [List.any_cons,e,decide_false,Bool.false_or,List.map_cons,if_false]
    split<;>rfl
   rw [this]
   exact .cons r' ih
theorem dput_length {k:D} {v:D}:∀ {kvs:List (D×D)},(dput kvs k v).length≤kvs.length+1
 | []=>by simp [dput]
 | p::r=>by
  unfold dput
  split
  ·simp
  ·have:=dput_length (k:=k) (v:=v) (kvs:=r)
   simp; bv_omega
set_option tactic.hygienic true in
theorem zi5 {x:D} {kvs:List (D×D)} (h:zp2 x kvs=true):(∃ i,x=.int i∧zj0 kvs=true)∨(tkey x=true∧(kvs.all fun p=>tkey p.1)=true):=by
 unfold zp2 at h
 simp only [Bool.and_eq_true] at h
 cases x<;>try exact absurd h.1 Bool.false_ne_true
 ·rename_i i
  exact .inl ⟨i,rfl,by simpa [zj0,zp6] using h⟩
 ·rename_i l
  by_cases hl:tkey (.tuple l)=true
  ·refine .inr ⟨hl,List.all_eq_true.mpr fun p hp=>?_⟩
   have q:=List.all_eq_true.mp h.2 p hp
   obtain ⟨k,d⟩:=p
   have e:zp6 (.tuple l)=some 1:=if_pos hl
   rw [e] at q
   cases k with
   | tuple m =>
    by_cases hm:tkey (.tuple m)=true
    ·exact hm
    ·exact absurd q (by rw [show zp6 (.tuple m)=none from if_neg hm]; decide)
   | _=>exact absurd q Bool.false_ne_true
  ·simp [zp6,hl] at h
theorem big_ne {a:Addr} (h:sysModules<a):(a==sysModules)=false:=by
 simp only [beq_eq_false_iff_ne,ne_eq]
 exact Nat.ne_of_gt h
end
theorem dictInP (w:World):DictInP w:=by
 intro prog A E s F n R hin x kvs a b ha hb ho
 rw [Bool.and_eq_true] at ho
 obtain ⟨ho,hnt⟩:=ho
 refine hb.dicK hin fun hd c es m h1 r hbig=>?_
 rcases zi5 ho with ⟨i,rfl,hk⟩|⟨hx,hk⟩
 rotate_left
 ·rw [hx] at hnt; exact absurd hnt Bool.false_ne_true
 refine ha.intK fun t=>?_
 refine elEA (to_dictOf (prog:=prog) hk hd h1 r) fun tt ab dt=>?_
 have hv:=valueAt_find (k:=i) ab
 have he:(valueAt tt i).isSome=(zs1 kvs (.int i)).isSome:=by
  cases hf:zs1 kvs (.int i) with
  | none=>rw [hv.2 hf]; rfl
  | some d=>refine elEA (hv.1 d hf) fun v q _=>?_; rw [q]; rfl
 constructor
 ·refine wpAny_in_of (knd:=intKind prog w) (k:=i) (by simp [intKind,Value.isInt]) (big_ne hbig) dt.dictOf.mapOf ⟨?_,_,rfl⟩
  rw [he]
 ·refine wpAny_notIn_of (knd:=intKind prog w) (k:=i) (by simp [intKind,Value.isInt]) (big_ne hbig) dt.dictOf.mapOf ⟨?_,_,rfl⟩
  rw [he]
theorem dictIn (w:World):DictIn w:=⟨dictInP w⟩
open Classical in
theorem dictGet (w:World):DictGet w:=by
 intro prog A E s F n R hin x v kvs a b ha hb ho hf
 refine hb.dicK hin fun hd c es m h1 r hbig=>?_
 rcases zi5 ho with ⟨i,rfl,hk⟩|⟨hx,hk⟩
 rotate_left
 ·refine elEA (to_dictH (prog:=prog) hin hk hd h1 r) fun tt ab dt=>?_
  (refine elEA (top_tkey hin hx ha) fun b e_1 rb=>?_; subst e_1)
  refine elEA ((atKey_find hx ab).1 _ hf) fun p hp rp=>?_
  exact wpAny_getItem_heap (knd:=tupKind prog w) (by have:=R.units; show A.units+1+1100<cLine; bv_omega) ⟨hx,Rep.tups hin _ (zx3 hx).2.1 rb⟩ dt hp ⟨rp,_,rfl⟩
 refine ha.intK fun t=>?_
 refine elEA (to_dictOf (prog:=prog) hk hd h1 r) fun tt ab dt=>?_
 refine elEA ((valueAt_find (k:=i) ab).1 _ hf) fun u hu ru=>?_
 exact wpAny_getItem_of (knd:=intKind prog w) (k:=i) (by simp [intKind,Value.isInt]) dt.dictOf.mapOf hu ⟨ru,_,rfl⟩
open Classical in
theorem dictSet (w:World):DictSet w:=by
 intro prog A E s F n R hin x v kvs a key val hx hv hsh hf ho hz
 refine elAEEAA (hsh) fun hd es m h1 r hbig=>?_
 rcases zi5 ho with ⟨i,rfl,hk⟩|⟨hkx,hk⟩
 rotate_left
 ·refine elEA (to_dictH (prog:=prog) hin hk hd h1 r) fun tt ab dt=>?_
  (refine elEA (top_tkey hin hkx (top_of_rep hx)) fun b e_1 rb=>?_; subst e_1)
  refine wpAny_setItem_heap (knd:=tupKind prog w) (by have:=R.units; show A.units+1+1100<cLine; bv_omega) ⟨hkx,Rep.tups hin _ (zx3 hkx).2.1 rb⟩ dt (fun h' q hs=>?_) (by rw [ab.length,zl0]; bv_omega)
  refine ⟨h',_,rfl,fun c hc=>hs.2 c hc,?_⟩
  exact of_dictH (storedH_dput hkx rb hv ab (by rw [ab.keys]; exact hd.2)) (by have:=dput_length (k:=x) (v:=v) (kvs:=kvs); bv_omega) hbig q
 simp only [Rep] at hx
 obtain ⟨t,rfl⟩:=hx
 refine elEA (to_dictOf (prog:=prog) hk hd h1 r) fun tt ab dt=>?_
 refine wpAny_setItem_pairs (knd:=intKind prog w) (k:=i) (by simp [intKind,Value.isInt]) dt.dictOf (fun h' q hs=>?_) (by rw [ab.length,zl0]; bv_omega)
 refine ⟨h',_,rfl,fun b hb=>hs.2 b hb,?_⟩
 exact of_dictOf (stored_dput hv ab (ab.nodup hd.2)) (by have:=dput_length (k:=.int i) (v:=v) (kvs:=kvs); bv_omega) hbig q
theorem dictIter (w:World):DictIter w:=by
 intro prog A E s F n R hin kvs v r
 simp only [Rep] at r
 (refine elAEEEAAA (r) fun hd a es m e_4 hF r_n hbig=>?_; clear r; revert r_n; intro r; subst e_4)
 have h1:=hin _ _ hF
 have hne:a≠s.heap.objs.size:=Nat.ne_of_lt (Heap.lt_size h1)
 have x:RowsAt s.heap a es m:=⟨_,h1,⟨rfl,rfl,rfl⟩,rfl⟩
 have hl:=r.length
 rw [Array.length_toList] at hl
 refine iter_rows (big_ne hbig) x ?_
 refine ⟨s.heap.objs.size,_,_,_,s.toks,rfl,rfl,fun b o e=>Heap.get?_push_of_some _ e,Walk.of (walk_rows R.handled s.heap.objs.size a hne es m) (by simp [hl]) (by simp) (fun i h b t hb=>?_) (fun b hb=>?_) (fun i v d hdd hv G l=>?_) (fun _ _ t=>let ⟨o,ho,hc,_⟩:=t.1; ⟨o,_,ho,hc,rfl⟩),
  ⟨⟨_,Heap.get?_push_size _ rfl,rfl,rfl⟩,x.at fun o e=>Heap.get?_push_of_some _ e⟩,fun b hb=>?_⟩
 ·simp only [List.mem_singleton] at hb; subst hb
  refine elEA (t.1) fun o ho _=>?_; exact ⟨o,ho⟩
 ·simp only [List.mem_cons,List.not_mem_nil,or_false] at hb
  rcases hb with rfl|rfl
  ·left; simp
  ·right; rw [hF]; exact fun x=>nomatch x
 ·(refine elEA (hv) fun e he e_2=>?_; subst e_2)
  exact Rep.mono l _ (r.key hdd (by rw [Array.getElem?_toList]; exact he))
 ·simp only [List.mem_singleton] at hb; subst hb
  exact zy4 _
end Snd
end
section
namespace Snd
open PySem PySem.W PyProof.Rows
noncomputable def Okt {α:Type} (r:Nat→Nat) (n:Nat):KasT α→(α→Prop)→Prop
 | .ret a,R=>R a
 | .ask i j k,R=>i<n∧j<n∧Okt r n (k (decide (r i<r j))) R
theorem Okt.bind {α β:Type} {r:Nat→Nat} {n:Nat} {f:α→KasT β} {R:β→Prop}:∀ {t:KasT α},Okt r n t (fun a=>Okt r n (f a) R)→Okt r n (t.bind f) R
 | .ret _,h=>h
 | .ask _ _ k,h=>⟨h.1,h.2.1,Okt.bind (t:=k _) h.2.2⟩
theorem Okt.mono {α:Type} {r:Nat→Nat} {n:Nat} {R R':α→Prop} (hr:∀ a,R a→R' a):∀ {t:KasT α},Okt r n t R→Okt r n t R'
 | .ret _,h=>hr _ h
 | .ask _ _ k,h=>⟨h.1,h.2.1,Okt.mono hr (t:=k _) h.2.2⟩
variable {r:Nat→Nat} {n:Nat}
noncomputable def At (r:Nat→Nat) (p:Array Nat) (k:Nat):Nat:=r (p.getD k 0)
structure Is (n:Nat) (p:Array Nat):Prop where
 perm:p.Perm (List.toArray (List.range n))
theorem Is.size {p:Array Nat} (h:Is n p):p.size=n:=by rw [h.perm.size_eq]; simp
theorem Is.lt {p:Array Nat} (h:Is n p) {k:Nat} (hk:k<n):p.getD k 0<n:=by
 have hk':k<p.size:=by rw [h.size]; exact hk
 rw [Array.getD_eq_getD_getElem?,Array.getElem?_eq_getElem hk']
 have:p[k]∈List.toArray (List.range n):=h.perm.mem_iff.mp (Array.getElem_mem hk')
 simpa using this
theorem Is.rev {p:Array Nat} (h:Is n p) (i j:Nat):Is n (kas_rev p i j):=⟨(mirror_perm _ _ _ _).trans h.perm⟩
theorem Is.bub {p:Array Nat} (h:Is n p) (i j:Nat):Is n (bubble p i j):=⟨(bubble_perm _ _ _).trans h.perm⟩
theorem zh0 {p q:Array Nat} {i j:Nat} (h:p[i]?=q[j]?):At r p i=At r q j:=by
 unfold At; rw [Array.getD_eq_getD_getElem?,Array.getD_eq_getD_getElem?,h]
set_option tactic.hygienic true in
theorem rev_at {p:Array Nat} {i j:Nat} (hj:j≤p.size) (k:Nat):At r (kas_rev p i j) k=if i≤k∧k<j then At r p (i+j - 1 - k) else At r p k:=by
 have h:=getElem?_mirror_all (xs:=p) (i:=i) hj k
 unfold kas_rev
 split
 ·rename_i hc
  rw [if_pos hc] at h
  exact zh0 h
 ·rename_i hc
  rw [if_neg hc] at h
  exact zh0 h
set_option tactic.hygienic true in
theorem rev_same {p:Array Nat} {i j:Nat} {c:Nat} (hj:j≤p.size) (he:∀ k,i≤k→k<j→At r p k=c) (k:Nat):At r (kas_rev p i j) k=At r p k:=by
 rw [rev_at hj]
 split
 ·rename_i hc
  rw [he k hc.1 hc.2,he _ (Nat.le_sub_of_add_le (Nat.le_sub_of_add_le (Nat.add_le_add_left hc.2 i))) (Nat.sub_lt_left_of_lt_add (Nat.le_sub_of_add_le (Nat.le_trans hc.2 (Nat.le_add_left ..))) (Nat.lt_of_lt_of_le (Nat.sub_lt (Nat.lt_of_lt_of_le (Nat.zero_lt_of_lt hc.2) (Nat.le_add_left ..)) (by decide)) (Nat.add_le_add_right hc.1 j)))]
 ·rfl
set_option tactic.hygienic true in
theorem bub_at {p:Array Nat} {k l:Nat} (hk:k<p.size) (hl:l≤k) (i:Nat):At r (bubble p k (k - l)) i=if i=l then At r p k else if l<i∧i≤k then At r p (i - 1) else At r p i:=by
 have h:=getElem?_bubble hk (k - l) (Nat.sub_le ..) i
 have e:k - (k - l)=l:=Nat.sub_sub_self hl
 rw [e] at h
 split
 ·rename_i hc
  rw [if_pos hc] at h
  exact zh0 h
 ·rename_i hc
  rw [if_neg hc] at h
  split
  ·rename_i hc2
   rw [if_pos hc2] at h
   exact zh0 h
  ·rename_i hc2
   rw [if_neg hc2] at h
   exact zh0 h
noncomputable def Up (r:Nat→Nat) (p:Array Nat) (m:Nat):Prop:=∀ i j,i≤j→j<m→At r p i≤At r p j
noncomputable def Dn (r:Nat→Nat) (p:Array Nat) (m:Nat):Prop:=∀ i j,i≤j→j<m→At r p j≤At r p i
theorem Up.succ {p:Array Nat} {m:Nat} (h:Up r p m) (h1:1≤m) (hs:At r p (m - 1)≤At r p m):Up r p (m+1):=by
 intro i j hij hj
 by_cases e:j=m
 ·subst e
  by_cases e2:i=j
  ·subst e2; exact Nat.le_refl _
  ·exact Nat.le_trans (h i (j - 1) (Nat.le_sub_one_of_lt (Nat.lt_of_le_of_ne hij e2)) (Nat.sub_lt h1 (by decide))) hs
 ·exact h i j hij (by bv_omega)
theorem Dn.succ {p:Array Nat} {m:Nat} (h:Dn r p m) (h1:1≤m) (hs:At r p m≤At r p (m - 1)):Dn r p (m+1):=by
 intro i j hij hj
 by_cases e:j=m
 ·subst e
  by_cases e2:i=j
  ·subst e2; exact Nat.le_refl _
  ·exact Nat.le_trans hs (h i (j - 1) (by bv_omega) (by bv_omega))
 ·exact h i j hij (by bv_omega)
theorem asc_ok {p:Array Nat} (hp:Is n p):∀ (f m:Nat),1≤m→m+f≤n→Up r p m →
  Okt r n (kas_asc p f m) (fun m'=>m≤m'∧m'≤m+f∧Up r p m'∧(m'<m+f→At r p m'<At r p (m' - 1)))
 | 0,m,h1,hf,hu=>⟨Nat.le_refl _,by bv_omega,hu,fun h=>by bv_omega⟩
 | f+1,m,h1,hf,hu=>by
  have hm:=Nat.lt_of_lt_of_le (Nat.lt_add_of_pos_right (Nat.succ_pos f)) hf
  refine ⟨hp.lt hm,hp.lt (Nat.lt_of_le_of_lt (Nat.sub_le ..) hm),?_⟩
  by_cases hc:r (p.getD m 0)<r (p.getD (m - 1) 0)
  ·rw [decide_eq_true hc]
   exact ⟨Nat.le_refl _,by bv_omega,hu,fun _=>hc⟩
  ·rw [decide_eq_false hc]
   refine Okt.mono (fun m' q=>?_) (asc_ok hp f (m+1) (by bv_omega) (by bv_omega) (hu.succ h1 (Nat.le_of_not_lt hc)))
   exact ⟨Nat.le_of_succ_le q.1,Nat.le_trans q.2.1 (Nat.le_of_eq (Nat.succ_add m f)),q.2.2.1,fun h=>q.2.2.2 (Nat.lt_of_lt_of_le h (Nat.le_of_eq (Nat.succ_add m f).symm))⟩
theorem rev_up {p:Array Nat} {k:Nat} (hk:k≤p.size) (h:Dn r p k):Up r (kas_rev p 0 k) k:=by
 intro i j hij hj
 rw [rev_at hk,rev_at hk,if_pos ⟨Nat.zero_le _,by bv_omega⟩,if_pos ⟨Nat.zero_le _,hj⟩]
 exact h _ _ (Nat.sub_le_sub_left hij _) (Nat.lt_of_le_of_lt (Nat.sub_le ..) (by rw [Nat.zero_add]; exact Nat.sub_lt (Nat.zero_lt_of_lt hj) (by decide)))
theorem tail3_ok {p:Array Nat} (hp:Is n p) {k:Nat} (h1:1≤k) (hk:k≤n) (hd:Dn r p k):Okt r n (kas_tail3 k n p) (fun q=>1≤q.1∧q.1≤n∧Is n q.2∧Up r q.2 q.1):=by
 unfold kas_tail3
 refine Okt.bind (Okt.mono (fun m q=>?_) (asc_ok (hp.rev 0 k) (n - k) k h1 (Nat.le_of_eq (Nat.add_sub_of_le hk)) (rev_up (by rw [hp.size]; exact hk) hd)))
 exact ⟨Nat.le_trans h1 q.1,Nat.le_trans q.2.1 (Nat.le_of_eq (Nat.add_sub_of_le hk)),hp.rev 0 k,q.2.2.1⟩
theorem desc_ok:∀ (f:Nat) (p:Array Nat) (k q:Nat),Is n p→q+1≤k→k+f≤n→Dn r p k→(∀ i,k - (q+1)≤i→i<k→At r p i=At r p (k - 1)) →
  Okt r n (kas_desc f p k q) (fun x=>Is n x.1∧x.2.2+1≤x.2.1∧x.2.1≤n∧Dn r x.1 x.2.1∧∀ i,x.2.1 - (x.2.2+1)≤i→i<x.2.1→At r x.1 i=At r x.1 (x.2.1 - 1))
 | 0,p,k,q,hp,hq,hf,hd,he=>⟨hp,hq,by show k≤n; bv_omega,hd,he⟩
 | f+1,p,k,q,hp,hq,hf,hd,he=>by
  have hm:=Nat.lt_of_lt_of_le (Nat.lt_add_of_pos_right (Nat.succ_pos f)) hf
  refine ⟨hp.lt hm,hp.lt (Nat.lt_of_le_of_lt (Nat.sub_le ..) hm),?_⟩
  by_cases hc:r (p.getD k 0)<r (p.getD (k - 1) 0)
  ·rw [decide_eq_true hc]
   simp only [if_true]
   split
   ·have hsame:=rev_same (r:=r) (p:=p) (i:=k - (q+1)) (j:=k) (by rw [hp.size]; bv_omega) he
    refine desc_ok f _ (k+1) 0 (hp.rev _ _) (by bv_omega) (by bv_omega) ?_ ?_
    ·intro i j hij hj
     rw [hsame,hsame]
     exact (hd.succ (by bv_omega) (Nat.le_of_lt hc)) i j hij hj
    ·intro i h1 h2
     have:i=k:=by bv_omega
     subst this; rfl
   ·refine desc_ok f _ (k+1) 0 hp (by bv_omega) (by bv_omega) (hd.succ (by bv_omega) (Nat.le_of_lt hc)) ?_
    intro i h1 h2
    have:i=k:=by bv_omega
    subst this; rfl
  ·rw [decide_eq_false hc]
   simp only [Bool.false_eq_true,if_false]
   refine ⟨hp.lt (Nat.lt_of_le_of_lt (Nat.sub_le ..) hm),hp.lt hm,?_⟩
   by_cases hc2:r (p.getD (k - 1) 0)<r (p.getD k 0)
   ·rw [decide_eq_true hc2]
    simp only [if_true]
    exact ⟨hp,hq,by show k≤n; bv_omega,hd,he⟩
   ·rw [decide_eq_false hc2]
    simp only [Bool.false_eq_true,if_false]
    have heq:At r p k=At r p (k - 1):=Nat.le_antisymm (Nat.le_of_not_lt hc2) (Nat.le_of_not_lt hc)
    refine desc_ok f p (k+1) (q+1) hp (by bv_omega) (by bv_omega) (hd.succ (by bv_omega) (Nat.le_of_eq heq)) ?_
    intro i h1 h2
    show At r p i=At r p k
    by_cases e:i=k
    ·subst e; rfl
    ·rw [heq]; exact he i (by bv_omega) (by bv_omega)
theorem descPart_ok {p:Array Nat} (hp:Is n p) {m:Nat} (h1:1≤m) (hm:m+1≤n) (hd:Dn r p (m+1)):Okt r n (kas_descPart m n p) (fun q=>1≤q.1∧q.1≤n∧Is n q.2∧Up r q.2 q.1):=by
 unfold kas_descPart
 refine Okt.bind (Okt.mono (fun x q=>?_) (desc_ok (n - (m+1)) p (m+1) 0 hp (Nat.le_add_left ..) (Nat.le_of_eq (Nat.add_sub_of_le hm)) hd (fun i h1 h2=>by
  have:i=m:=by bv_omega
  subst this; rfl)))
 obtain ⟨q1,q2,q3,q4,q5⟩:=q
 split
 ·have hsame:=rev_same (r:=r) (p:=x.1) (i:=x.2.1 - (x.2.2+1)) (j:=x.2.1) (by rw [q1.size]; bv_omega) q5
  refine tail3_ok (q1.rev _ _) (by bv_omega) q3 ?_
  intro i j hij hj
  rw [hsame,hsame]
  exact q4 i j hij hj
 ·exact tail3_ok q1 (by bv_omega) q3 q4
set_option tactic.hygienic true in
theorem count_ok {p:Array Nat} (hp:Is n p) (h1:1≤n):Okt r n (kas_count n p) (fun q=>1≤q.1∧q.1≤n∧Is n q.2∧Up r q.2 q.1):=by
 unfold kas_count
 refine Okt.bind (Okt.mono (fun m q=>?_) (asc_ok hp (n - 1) 1 (Nat.le_refl _) (by bv_omega) (fun i j hij hj=>by
  have:i=j:=by bv_omega
  subst this; exact Nat.le_refl _)))
 obtain ⟨q1,q2,q3,q4⟩:=q
 split
 ·exact ⟨q1,by show m≤n; bv_omega,hp,q3⟩
 ·rename_i hne
  have hlt:m<n:=by
   have:m≠n:=fun e=>hne (by rw [e]; exact beq_self_eq_true _)
   exact Nat.lt_of_le_of_ne (Nat.le_trans q2 (Nat.le_of_eq (Nat.add_sub_of_le h1))) this
  have hdesc:=q4 (Nat.lt_of_lt_of_le hlt (Nat.le_of_eq (Nat.add_sub_of_le h1).symm))
  split
  ·refine ⟨hp.lt (by bv_omega),hp.lt (Nat.lt_of_le_of_lt (Nat.sub_le ..) hlt),?_⟩
   by_cases hc:r (p.getD 0 0)<r (p.getD (m - 1) 0)
   ·rw [decide_eq_true hc]
    simp only [if_true]
    exact ⟨q1,by show m≤n; bv_omega,hp,q3⟩
   ·rw [decide_eq_false hc]
    simp only [Bool.false_eq_true,if_false]
    have hc':At r p (m - 1)≤At r p 0:=Nat.le_of_not_lt hc
    have hall:∀ k,0≤k→k<m→At r p k=At r p 0:=fun k _ hk=>Nat.le_antisymm (Nat.le_trans (q3 k (m - 1) (Nat.le_sub_one_of_lt hk) (Nat.sub_lt q1 (by decide))) hc') (q3 0 k (Nat.zero_le _) hk)
    have hsame:=rev_same (r:=r) (p:=p) (i:=0) (j:=m) (by rw [hp.size]; bv_omega) hall
    refine descPart_ok (hp.rev _ _) q1 hlt ?_
    intro i j hij hj
    rw [hsame,hsame]
    by_cases e:j=m
    ·subst e
     by_cases e2:i=j
     ·subst e2; exact Nat.le_refl _
     ·rw [hall i (Nat.zero_le _) (by bv_omega),← hall (j - 1) (Nat.zero_le _) (by bv_omega)]
      exact Nat.le_of_lt hdesc
    ·rw [hall i (Nat.zero_le _) (by bv_omega),hall j (Nat.zero_le _) (by bv_omega)]; exact Nat.le_refl _
  ·have e1:m=1:=by bv_omega
   subst e1
   refine descPart_ok hp (Nat.le_refl _) hlt ?_
   intro i j hij hj
   by_cases e:i=j
   ·subst e; exact Nat.le_refl _
   ·have e1:i=0:=by bv_omega
    have e2:j=1:=by bv_omega
    subst e1 e2
    exact Nat.le_of_lt hdesc
theorem half_in {l u:Nat} (h:l<u):l≤(l+u) / 2∧(l+u) / 2<u:=⟨(Nat.le_div_iff_mul_le (by decide)).mpr (Nat.mul_two l▸Nat.add_le_add_left (Nat.le_of_lt h) l),(Nat.div_lt_iff_lt_mul (by decide)).mpr (Nat.mul_two u▸Nat.add_lt_add_right h u)⟩
set_option tactic.hygienic true in
theorem place_ok {p:Array Nat} (hp:Is n p) {k:Nat} (hk:k<n) (hu:Up r p k):∀ (f l u:Nat),u≤k→l≤u→u - l≤f→(∀ i,i<l→At r p i≤At r p k)→(∀ i,u≤i→i<k→At r p k<At r p i) →
  Okt r n (kas_place p k f l u) (fun m=>m≤k∧(∀ i,i<m→At r p i≤At r p k)∧∀ i,m≤i→i<k→At r p k<At r p i)
 | 0,l,u,h1,h2,hf,hl,hh=>⟨by bv_omega,hl,fun i hi hk'=>hh i (Nat.le_trans (Nat.le_of_sub_eq_zero (Nat.le_zero.mp hf)) hi) hk'⟩
 | f+1,l,u,h1,h2,hf,hl,hh=>by
  unfold kas_place
  split
  ·exact ⟨by bv_omega,hl,fun i hi hk'=>hh i (by bv_omega) hk'⟩
  ·rename_i hlu
   have hm:=half_in (Nat.lt_of_not_le hlu)
   refine ⟨hp.lt hk,hp.lt (Nat.lt_trans (Nat.lt_of_lt_of_le hm.2 h1) hk),?_⟩
   by_cases hc:r (p.getD k 0)<r (p.getD ((l+u) / 2) 0)
   ·rw [decide_eq_true hc]
    simp only [if_true]
    refine place_ok hp hk hu f l ((l+u) / 2) (Nat.le_trans (Nat.le_of_lt hm.2) h1) hm.1 (Nat.le_of_lt_succ (Nat.lt_of_lt_of_le (Nat.sub_lt_sub_right hm.1 hm.2) hf)) hl fun i hi hk'=>?_
    exact Nat.lt_of_lt_of_le hc (hu _ i hi hk')
   ·rw [decide_eq_false hc]
    simp only [Bool.false_eq_true,if_false]
    refine place_ok hp hk hu f ((l+u) / 2+1) u h1 hm.2 (Nat.le_trans (Nat.sub_le_sub_left (Nat.succ_le_succ hm.1) u) (Nat.sub_le_sub_right hf 1)) (fun i hi=>?_) hh
    exact Nat.le_trans (hu i ((l+u) / 2) (Nat.le_of_lt_succ hi) (Nat.lt_of_lt_of_le hm.2 h1)) (Nat.le_of_not_lt hc)
theorem bin_sorted:∀ (f:Nat) (p:Array Nat) (k:Nat),Is n p→1≤k→k+f=n→Up r p k→Okt r n (kas_bin f p k) (fun q=>Is n q∧Up r q n)
 | 0,p,k,hp,h1,hf,hu=>⟨hp,by rw [← hf]; exact hu⟩
 | f+1,p,k,hp,h1,hf,hu=>by
  unfold kas_bin
  refine Okt.bind (Okt.mono (fun l q=>?_) (place_ok hp (by bv_omega) hu k 0 k (Nat.le_refl _) (Nat.zero_le _) (by bv_omega) (fun i hi=>by bv_omega) fun i hi hk'=>by bv_omega))
  obtain ⟨q1,q2,q3⟩:=q
  refine bin_sorted f _ (k+1) (hp.bub _ _) (by bv_omega) (by bv_omega) ?_
  have hs:k<p.size:=by rw [hp.size]; bv_omega
  intro i j hij hj
  rw [bub_at hs q1,bub_at hs q1]
  by_cases ei:i=l<;>by_cases ej:j=l
  ·rw [if_pos ei,if_pos ej]; exact Nat.le_refl _
  ·have hlj:l<j:=Nat.lt_of_le_of_ne (ei▸hij) (Ne.symm ej)
   rw [if_pos ei,if_neg ej,if_pos ⟨hlj,Nat.le_of_lt_succ hj⟩]; exact Nat.le_of_lt (q3 (j - 1) (Nat.le_sub_one_of_lt hlj) (Nat.lt_of_lt_of_le (Nat.sub_lt (Nat.zero_lt_of_lt hlj) (by decide)) (Nat.le_of_lt_succ hj)))
  ·rw [if_neg ei,if_pos ej,if_neg (by bv_omega)]; exact q2 i (by bv_omega)
  ·rw [if_neg ei,if_neg ej]
   by_cases ci:l<i∧i≤k<;>by_cases cj:l<j∧j≤k
   ·rw [if_pos ci,if_pos cj]; exact hu _ _ (Nat.sub_le_sub_right hij 1) (Nat.lt_of_lt_of_le (Nat.sub_lt (Nat.zero_lt_of_lt cj.1) (by decide)) cj.2)
   ·exact absurd ⟨Nat.lt_of_lt_of_le ci.1 hij,Nat.le_of_lt_succ hj⟩ cj
   ·rw [if_neg ci,if_pos cj]; exact hu _ _ (Nat.le_sub_one_of_lt (Nat.lt_of_le_of_lt (Nat.le_of_not_lt fun h=>ci ⟨h,Nat.le_trans hij cj.2⟩) cj.1)) (Nat.lt_of_lt_of_le (Nat.sub_lt (Nat.zero_lt_of_lt cj.1) (by decide)) cj.2)
   ·rw [if_neg ci,if_neg cj]; exact hu _ _ hij (by bv_omega)
theorem sort_ok (h1:1≤n):Okt r n (kas_sort n) (fun q=>Is n q∧Up r q n):=by
 unfold kas_sort
 refine Okt.bind (Okt.mono (fun q h=>?_) (count_ok (p:=List.toArray (List.range n)) ⟨Array.Perm.refl _⟩ h1))
 obtain ⟨q1,q2,q3,q4⟩:=h
 split
 ·have e:max q.1 1=q.1:=Nat.max_eq_left q1
  rw [e]
  exact bin_sorted _ _ _ q3 q1 (Nat.add_sub_of_le q2) q4
 ·have e:q.1=n:=by bv_omega
  rw [e] at q4
  exact ⟨q3,q4⟩
end Snd
end
section
namespace Snd
open PySem Mini PySem.W PyProof.Rows PySem.SeqAt
theorem isInt_inv {d:D} (h:isIntD d=true):∃ i,d=.int i:=by
 cases d<;>first|exact (Bool.false_ne_true h).elim|exact ⟨_,rfl⟩
theorem tup_inv {d:D} {f:D→Bool} (hf:∀ d,(∀ l,d≠.tuple l)→f d=false) (h0:f (.tuple [])=false) (h:f d=true):∃ x l,d=.tuple (x::l):=by
 by_cases q:∃ l,d=.tuple l
 ·obtain ⟨l,rfl⟩:=q
  cases l with
  | nil=>rw [h0] at h; exact (Bool.false_ne_true h).elim
  | cons x l=>exact ⟨x,l,rfl⟩
 ·rw [hf d fun l e=>q ⟨l,e⟩] at h; exact (Bool.false_ne_true h).elim
theorem zh2 {d:D} (h:tupStr d=true):∃ s l,d=.tuple (.str s::l):=by
 refine elEE (tup_inv (f:=tupStr) (fun d q=>by cases d<;>first|rfl|exact absurd rfl (q _)) rfl h) fun x l e=>?_
 subst e
 cases x<;>first|exact (Bool.false_ne_true h).elim|exact ⟨_,_,rfl⟩
theorem tupTup_inv {d:D} (h:tupTup d=true):∃ s l,d=.tuple (.tuple s::l):=by
 refine elEE (tup_inv (f:=tupTup) (fun d q=>by cases d<;>first|rfl|exact absurd rfl (q _)) rfl h) fun x l e=>?_
 subst e
 cases x<;>first|exact (Bool.false_ne_true h).elim|exact ⟨_,_,rfl⟩
section
variable {prog:Program} {w:World} {A:Around} {E:Value→Shared→Prop} {s:Shared} {F:Fz}
theorem katlex_ok {b:Bool} {Q:Bool→Shared→Prop} (hin:F.In s.heap):∀ (xs ys:List D) (vs us:List Value) (i:Nat) (c:Bool),RepL w F xs vs→RepL w F ys us→PyData.canLayAll0 xs=true→PyData.canLayAll0 ys=true →
  A.units+PyData.depthAll xs<cLine→(i=0→b=true→∀ x y xs' ys',xs=x::xs'→ys=y::ys'→∃ p q,x=.str p∧y=.str q)→ltL xs ys=some c→Q c s →
  KatLex prog w A b (decide (xs.length<ys.length)) Q (vs.zip us) i s
 | [],ys,vs,us,i,c,rx,ry,_,_,_,_,h,q=>by
  simp only [RepL] at rx; subst rx
  rw [List.zip_nil_left]
  refine kat_nil ?_
  cases ys with
  | nil=>simp only [ltL] at h; cases h; exact q
  | cons y ys=>simp only [ltL] at h; cases h; simpa using q
 | x::xs,[],vs,us,i,c,rx,ry,_,_,_,_,h,q=>by
  simp only [RepL] at ry; subst ry
  rw [List.zip_nil_right]
  refine kat_nil ?_
  simp only [ltL] at h; cases h; simpa using q
 | x::xs,y::ys,vs,us,i,c,rx,ry,hx,hy,hu,hb,h,q=>by
  simp only [RepL] at rx ry
  (refine elEEAA (rx) fun v vt e_2 r1 r2=>?_; subst e_2)
  (refine elEEAA (ry) fun u ut e_2 r3 r4=>?_; subst e_2)
  simp only [PyData.canLayAll0,Bool.and_eq_true] at hx hy
  simp only [PyData.depthAll] at hu
  obtain ⟨as,rd1⟩:=Rep.reads hin x r1
  obtain ⟨bs,rd2⟩:=Rep.reads hin y r3
  rw [List.zip_cons_cons]
  have hd:decide ((x::xs).length<(y::ys).length)=decide (xs.length<ys.length):=by simp
  rw [hd]
  refine kat_cons (eqAt_reads x y A s v u as bs rd1 rd2 hx.1 hy.1 (Nat.lt_of_le_of_lt (Nat.add_le_add_left (Nat.le_trans (Nat.min_le_left ..) (Nat.le_max_left ..)) _) hu) prog w _ _ ?_)
  simp only [ltL] at h
  by_cases e:PyData.eqv x y=true
  ·rw [e]
   rw [if_pos e] at h
   refine kat_yes (katlex_ok hin xs ys vt ut (i+1) c r2 r4 hx.2 hy.2 (Nat.lt_of_le_of_lt (Nat.add_le_add_left (Nat.le_max_right ..) _) hu) (fun h0=>by bv_omega) h q)
  ·have e':PyData.eqv x y=false:=by simpa using e
   rw [e']
   rw [if_neg e] at h
   refine kat_no ?_
   by_cases hbi:(b&&i==0)=true
   ·rw [hbi]
    simp only [Bool.and_eq_true,beq_iff_eq] at hbi
    (refine elEEA (hb hbi.2 hbi.1 _ _ _ _ rfl rfl) fun p p' e_2 e_3=>?_; subst e_2; subst e_3)
    simp only [Rep] at r1 r3
    obtain ⟨t1,rfl⟩:=r1
    obtain ⟨t2,rfl⟩:=r3
    simp only [zj7,lt_ss,lt_tt] at h; cases h
    exact oneLt_str q
   ·have hbi':(b&&i==0)=false:=by simpa using hbi
    rw [hbi']
    refine kat_one v u ?_
    exact rcLt_reads h rd1 rd2 hx.1 hy.1 (Nat.lt_of_le_of_lt (Nat.add_le_add_left (Nat.le_trans (Nat.min_le_left ..) (Nat.le_max_left ..)) _) hu) _ _ _ _ q
theorem okd_tuple {l:List D} (h:okd (.tuple l)=true):PyData.canLayAll0 l=true∧PyData.depthAll l≤1000:=by
 have:=zx9 h
 simp only [PyData.canLay0,PyData.depth] at this
 exact ⟨this.1,by bv_omega⟩
structure Kinded (prog:Program) (w:World) (A:Around) (F:Fz) (ds:List D) (vs:List Value) (s:Shared) (κ:SortKind):Prop where
 kind:∀ (E:Value→Shared→Prop) (Q:SortKind→Shared→Prop),Q κ s→wpAny (model prog w) A (keyKind' vs.toArray) Q E s
 ask:∀ i j,i<ds.length→j<ds.length→∀ C:Bool→Shared→Prop,C (decide (zl6 ds (ds.getD i .none)<zl6 ds (ds.getD j .none))) s→kas_ask prog w A κ vs i j C s
theorem RepL.getD_ {ds:List D} {vs:List Value} (r:RepL w F ds vs) {i:Nat} (hi:i<ds.length):Rep w F (ds.getD i .none) (vs.getD i .none):=by
 refine elEA (r.get (List.getElem?_eq_getElem hi)) fun v hv rv=>?_
 rw [List.getD_eq_getElem?_getD,List.getD_eq_getElem?_getD,hv,List.getElem?_eq_getElem hi]
 exact rv
theorem getD_mem {ds:List D} {i:Nat} (hi:i<ds.length):ds.getD i .none∈ds:=by
 rw [List.getD_eq_getElem?_getD,List.getElem?_eq_getElem hi]; exact List.getElem_mem hi
theorem tups_ok {f:D→Bool} {T:Value} (hin:F.In s.heap) (hT2:(T==T)=true) (hf:∀ d v,f d=true→Rep w F d v→∃ a o xs n u,v=.ref a∧s.heap.get? a=some o∧o.cls=.type "tuple" ∧ o.data=.seq xs n∧xs[0]?=some u∧Looks (model prog w) s.heap (typeOf u) T) :
  ∀ {ds:List D} {vs:List Value},RepL w F ds vs→ds.all f=true→∃ fs,KatTups s.heap vs fs∧fs.length=vs.length∧∀ u∈fs,Looks (model prog w) s.heap (typeOf u) T
 | [],vs,r,_=>by simp only [RepL] at r; subst r; exact ⟨[],.nil,rfl,by simp⟩
 | d::ds,vs,r,h=>by
  simp only [RepL] at r
  (refine elEEAA (r) fun v t e_2 r1 r2=>?_; subst e_2)
  simp only [List.all_cons,Bool.and_eq_true] at h
  refine elEAA (tups_ok hin hT2 hf r2 h.2) fun fs k hl hL=>?_
  (refine elEEEEEAAAAA (hf d v h.1 r1) fun a o xs n u e_5 h1 h2 h3 h4 h5=>?_; subst e_5)
  refine ⟨u::fs,KatTups.cons h1 h2 h3 h4 k,by simp [hl],fun y hy=>?_⟩
  rcases List.mem_cons.mp hy with rfl|hy
  ·exact h5
  ·exact hL y hy
theorem ask_tuples {ds:List D} {vs:List Value} {b:Bool} (hin:F.In s.heap) (r:RepL w F ds vs) (hs:Mini.sortable ds=true) (hu:A.units+1500<cLine)
  (hb:b=true→ds.all tupStr=true) (ht:∀ d∈ds,∃ l,d=.tuple l):∀ i j,i<ds.length→j<ds.length→∀ C:Bool→Shared→Prop,C (decide (zl6 ds (ds.getD i .none)<zl6 ds (ds.getD j .none))) s→kas_ask prog w A (tuples' b) vs i j C s:=by
 intro i j hi hj C hC
 have hc:=zm4 hs
 have mi:=getD_mem hi
 have mj:=getD_mem hj
 have r1:=r.getD_ hi
 have r2:=r.getD_ hj
 have hlt:=rank_lt hc mi mj
 unfold Mini.sortable at hs
 simp only [Bool.and_eq_true,List.all_eq_true] at hs
 have o1:=hs.1.1.1 _ mi
 have o2:=hs.1.1.1 _ mj
 have hb1:b=true→tupStr (ds.getD i .none)=true:=fun q=>List.all_eq_true.mp (hb q) _ mi
 have hb2:b=true→tupStr (ds.getD j .none)=true:=fun q=>List.all_eq_true.mp (hb q) _ mj
 obtain ⟨l1,e1⟩:=ht _ mi
 obtain ⟨l2,e2⟩:=ht _ mj
 unfold kas_ask
 generalize ds.getD i .none=d1 at *
 generalize ds.getD j .none=d2 at *
 subst e1 e2
 simp only [Rep] at r1 r2
 refine elAEEEAA (r1) fun _ a1 xs n1 h1 k1 q1=>?_
 refine elAEEEAA (r2) fun _ a2 ys n2 h2 k2 q2=>?_
 rw [h1,h2]
 simp only [zj7,lt_ss,lt_tt] at hlt
 have c1:=okd_tuple o1
 have c2:=okd_tuple o2
 refine kat_lt (hin _ _ k1) rfl (hin _ _ k2) rfl ?_
 have e1:=q1.length
 have e2:=q2.length
 simp at e1 e2
 rw [e1,e2]
 refine katlex_ok hin l1 l2 _ _ 0 _ q1 q2 c1.1 c2.1 (Nat.lt_of_le_of_lt (Nat.add_le_add_left (Nat.le_trans c1.2 (by decide)) _) hu) (fun _ hbt x y xs' ys' ex ey=>?_) hlt hC
 subst ex ey
 have t1:=hb1 hbt
 have t2:=hb2 hbt
 refine elEE (zh2 t1) fun p _ e1=>elEE (zh2 t2) fun q _ e2=>?_
 cases e1; cases e2
 exact ⟨_,_,rfl,rfl⟩
theorem ints_are {ds:List D} {vs:List Value} (r:RepL w F ds vs) (h:ds.all isIntD=true):∃ ns,IntsAre vs ns:=by
 induction ds generalizing vs with
 | nil=>simp only [RepL] at r; subst r; exact ⟨[],.nil⟩
 | cons d ds ih =>
  simp only [RepL] at r
  (refine elEEAA (r) fun v t e_2 r1 r2=>?_; subst e_2)
  simp only [List.all_cons,Bool.and_eq_true] at h
  obtain ⟨ns,q⟩:=ih r2 h.2
  obtain ⟨_,rfl⟩:=isInt_inv h.1
  simp only [Rep] at r1
  obtain ⟨u,rfl⟩:=r1
  exact ⟨_::ns,.cons _ _ q⟩
theorem kinded {ds:List D} {vs:List Value} (hin:F.In s.heap) (r:RepL w F ds vs) (hs:Mini.sortable ds=true) (h2:2≤ds.length) (hu:A.units+1500<cLine):∃ κ,Kinded prog w A F ds vs s κ:=by
 have hs':=hs
 have hc:=zm4 hs
 have hlen:=r.length
 unfold Mini.sortable at hs
 simp only [Bool.and_eq_true,Bool.or_eq_true] at hs
 rcases hs.1.2 with (hi|ht)|ht
 ·obtain ⟨ns,hI⟩:=ints_are r hi
  refine ⟨oneType',fun E Q q=>?_,fun i j hi' hj' C hC=>?_⟩
  ·obtain ⟨v₁,v₂,rest,rfl⟩:∃ v₁ v₂ rest,vs=v₁::v₂::rest:=by
    match vs,hlen with
    | [],e=>simp at e; bv_omega
    | [_],e=>simp at e; bv_omega
    | v₁::v₂::rest,_=>exact ⟨v₁,v₂,rest,rfl⟩
   exact wpAny_of_eq (keyKind_ints hI) q
  ·have mi:=getD_mem hi'
   have mj:=getD_mem hj'
   have r1:=r.getD_ hi'
   have r2:=r.getD_ hj'
   have hlt:=rank_lt hc mi mj
   have i1:=List.all_eq_true.mp hi _ mi
   have i2:=List.all_eq_true.mp hi _ mj
   unfold kas_ask
   rw [keyLt'_oneType]
   generalize ds.getD i .none=d1 at *
   generalize ds.getD j .none=d2 at *
   obtain ⟨_,rfl⟩:=isInt_inv i1
   obtain ⟨_,rfl⟩:=isInt_inv i2
   simp only [Rep] at r1 r2
   obtain ⟨t1,h1⟩:=r1
   obtain ⟨t2,h2⟩:=r2
   rw [h1,h2]
   simp only [zj7,lt_ss,lt_tt,Option.some.injEq] at hlt
   rw [← hlt] at hC
   exact oneLt_int hC
 ·obtain ⟨fs,k,hl,hL⟩:=tups_ok (prog:=prog) (f:=tupStr) (T:=Value.type "str") hin (by rfl) (fun d v hd rv=>by
    refine elEE (zh2 hd) fun ss l e=>?_
    subst e
    simp only [Rep,RepL] at rv
    (refine elAEEEAAEEAA (rv) fun _ a xs n e_4 k1 u t hx ru _=>?_; subst e_4)
    obtain ⟨tt,rfl⟩:=ru
    refine ⟨a,_,xs,n,.str ss tt,rfl,hin _ _ k1,rfl,rfl,?_,Looks.of_pure rfl⟩
    rw [← Array.getElem?_toList,hx]; rfl) r ht
  refine ⟨tuples' (Value.type "str" != Value.type "tuple"),fun E Q q=>kat_kind k (by bv_omega) hL (by rfl) q,ask_tuples hin r hs' hu (fun _=>ht) fun d hd=>?_⟩
  have:=List.all_eq_true.mp ht d hd
  exact elEE (zh2 this) fun _ _ e=>⟨_,e⟩
 ·obtain ⟨fs,k,hl,hL⟩:=tups_ok (prog:=prog) (f:=tupTup) (T:=Value.type "tuple") hin (by rfl) (fun d v hd rv=>by
    refine elEE (tupTup_inv hd) fun ss l e=>?_
    subst e
    simp only [Rep,RepL] at rv
    (refine elAEEEAAEEAA (rv) fun _ a xs n e_4 k1 u t hx ru _=>?_; subst e_4)
    (refine elAEEEAA (ru) fun _ a2 xs2 n2 e_4 k2 _=>?_; subst e_4)
    refine ⟨a,_,xs,n,_,rfl,hin _ _ k1,rfl,rfl,?_,show Looks (model prog w) s.heap (typeOf (.ref a2)) (tobj xs2 n2).cls from (Looks.ld (hin _ _ k2)).andThen .now⟩
    rw [← Array.getElem?_toList,hx]; rfl) r ht
  refine ⟨tuples' (Value.type "tuple" != Value.type "tuple"),fun E Q q=>kat_kind k (by bv_omega) hL (by rfl) q,ask_tuples hin r hs' hu (fun q=>?_) fun d hd=>?_⟩
  ·exact absurd q (by decide)
  ·have:=List.all_eq_true.mp ht d hd
   exact elEE (tupTup_inv this) fun _ _ e=>⟨_,e⟩
end
end Snd
end
section
namespace Snd
open PySem Mini PySem.W PyProof.Rows PySem.SeqAt
section
variable {prog:Program} {w:World} {A:Around} {E:Value→Shared→Prop} {s:Shared} {F:Fz}
theorem kasWp_of {α:Type} {κ:SortKind} {vs:List Value} {r:Nat→Nat} {n:Nat} {R:α→Prop} (hask:∀ i j,i<n→j<n→∀ C:Bool→Shared→Prop,C (decide (r i<r j)) s→kas_ask prog w A κ vs i j C s) :
  ∀ {t:KasT α},Okt r n t R→t.kasWp (kas_ask prog w A κ vs) (fun a s'=>s'=s∧R a) s
 | .ret a,h=>⟨rfl,h⟩
 | .ask i j k,h=>hask i j h.1 h.2.1 _ (kasWp_of hask (t:=k _) h.2.2)
theorem out_ok {ds:List D} {vs:List Value} {p:Array Nat} (r:RepL w F ds vs) (hc:Cmp ds) (hp:Is ds.length p) (hu:Up (fun i=>zl6 ds (ds.getD i .none)) p ds.length):RepL w F (zx6 ds) (p.toList.map fun i=>vs.getD i .none):=by
 have hmem:∀ i∈p.toList,i<ds.length:=fun i hi=>by
  have:=hp.perm.mem_iff.mp (Array.mem_toList_iff.mp hi)
  simpa using this
 have hperm:(p.toList.map fun i=>ds.getD i .none).Perm ds:=by
  have h1:p.toList.Perm (List.range ds.length):=by simpa using (Array.perm_iff_toList_perm.mp hp.perm)
  have h2:=h1.map fun i=>ds.getD i .none
  have h3:(List.range ds.length).map (fun i=>ds.getD i .none)=ds:=by
   apply List.ext_getElem
   ·simp
   ·intro i h1 h2
    simp [List.getD_eq_getElem?_getD,List.getElem?_eq_getElem h2]
  rwa [h3] at h2
 have hsorted:(p.toList.map fun i=>ds.getD i .none).Pairwise leD:=by
  rw [List.pairwise_iff_getElem]
  intro i j hi hj hij
  simp only [List.length_map,Array.length_toList] at hi hj
  have hps:p.size=ds.length:=hp.size
  simp only [List.getElem_map,Array.getElem_toList]
  have hui:=hu i j (Nat.le_of_lt hij) (by bv_omega)
  unfold At at hui
  have g1:p.getD i 0=p[i]:=by rw [Array.getD_eq_getD_getElem?,Array.getElem?_eq_getElem hi]; rfl
  have g2:p.getD j 0=p[j]:=by rw [Array.getD_eq_getD_getElem?,Array.getElem?_eq_getElem hj]; rfl
  rw [g1,g2] at hui
  have m1:p[i]<ds.length:=hmem _ (by simp)
  have m2:p[j]<ds.length:=hmem _ (by simp)
  intro hlt
  rw [rank_lt hc (getD_mem m2) (getD_mem m1)] at hlt
  simp only [Option.some.injEq,decide_eq_true_eq] at hlt
  exact absurd hlt (Nat.not_lt.mpr hui)
 rw [← zo9 hc hperm hsorted]
 have gen:∀ l:List Nat,(∀ i∈l,i<ds.length)→RepL w F (l.map fun i=>ds.getD i .none) (l.map fun i=>vs.getD i .none):=by
  intro l
  induction l with
  | nil=>intro _; exact RepL.nil_
  | cons i l ih=>intro h; exact RepL.cons_ (r.getD_ (h i (by simp))) (ih fun j hj=>h j (by simp [hj]))
 exact gen _ hmem
end
end Snd
end
section
namespace Snd
open PySem Mini PySem.W PyProof.Rows
section
variable {prog:Program} {w:World} {A:Around} {E:Value→Shared→Prop} {s:Shared} {F:Fz}
theorem sortL_short {ds:List D} (h:ds.length<2):zx6 ds=ds:=by
 match ds,h with
 | [],_=>rfl
 | [x],_=>rfl
 | _::_::_,h=>simp at h; bv_omega
theorem list_sort_data {a:Addr} {ds:List D} {vs:List Value} {n:Nat} {P:PySem.Fin→Shared→Prop} (hin:F.In s.heap) (hfa:F a=none) (ho:s.heap.get? a=some (seqObj "list" vs.toArray n)) (r:RepL w F ds vs)
  (hs:ds.length<2∨Mini.sortable ds=true) (h64:ds.length<64) (hu:A.units+1500<cLine)
  (h:∀ out:List Value,RepL w F (zx6 ds) out→P (.done (.ret .none)) { s with heap:=sortedHeap s.heap a vs out.toArray }):wpAny (model prog w) A (Builtin.«list.sort» ⟨[.ref a],[]⟩) P E s:=by
 have hlen:=r.length
 rw [list_sort_plain]
 have ha:a<s.heap.objs.size:=Heap.lt_size ho
 refine wpAny_bind (listItems_at ho rfl ?_)
 refine wpAny_bind (listUpdate_at ho rfl ?_ (by rw [List.size_toArray,sizeLine_eq]; bv_omega) (Nat.zero_le _))
 obtain ⟨e1,ho1⟩:∃ e1,(s.heap.update a (Obj.mapSeq fun _=>(#[]:Array Value))).get? a=some (seqObj "list" #[] e1):=⟨_,get?_update_seq ho fun _=>#[]⟩
 refine wpAny_bind (seqEpoch_at ho1 rfl ?_)
 refine wpAny_bind (wpAny_newTuple ?_ (by show vs.length≤_; rw [sizeLine_eq]; bv_omega))
 refine wpAny_bind (wpAny_newList ?_ (Nat.zero_le _))
 refine wpAny_holding ?_
 have ho6:(((s.heap.update a (Obj.mapSeq fun _=>(#[]:Array Value))).push (seqObj "tuple" vs.toArray 0)).push (seqObj "list" #[] 0)).get? a=some (seqObj "list" #[] e1) :=
  Heap.get?_push_of_some _ (Heap.get?_push_of_some _ ho1)
 have hin6:F.In (((s.heap.update a (Obj.mapSeq fun _=>(#[]:Array Value))).push (seqObj "tuple" vs.toArray 0)).push (seqObj "list" #[] 0)):=fun b o e=>by
  refine Heap.get?_push_of_some _ (Heap.get?_push_of_some _ ?_)
  rw [Heap.get?_update_other _ _ (by rintro rfl; rw [hfa] at e; cases e)]
  exact hin b o e
 show wpAny (model prog w) A _ P E { s with heap:=((s.heap.update a (Obj.mapSeq fun _=>(#[]:Array Value))).push (seqObj "tuple" vs.toArray 0)).push (seqObj "list" #[] 0) }
 dsimp only
 by_cases h2:vs.toArray.size<2
 ·rw [if_pos h2,if_pos h2]
  refine wpAny_bind (wpAny_pure ?_)
  rw [StateT.run_pure]
  refine wpAny_bind (wpAny_pure ?_)
  dsimp only
  have e2:(arrOf (SortSt.mk' general' (vs.toArray.zip vs.toArray) #[] 7 none)).map (·.2)=vs.toArray:=by
   show (vs.toArray.zip vs.toArray).map (·.2)=vs.toArray
   apply Array.toList_inj.mp
   simp [List.map_snd_zip]
  refine wpAny_bind (seqEpoch_at ho6 rfl ?_)
  rw [e2]
  refine wpAny_bind (listUpdate_at ho6 rfl ?_ (Nat.zero_le _) (by show vs.toArray.size≤_; rw [List.size_toArray,sizeLine_eq]; bv_omega))
  simp only [bne_self_eq_false,Bool.false_eq_true,if_false]
  exact wpAny_pure (h vs (by rw [sortL_short (by rw [List.size_toArray] at h2; bv_omega)]; exact r))
 ·rw [if_neg h2,if_neg h2]
  rw [List.size_toArray] at h2
  have hs':Mini.sortable ds=true:=hs.resolve_left (by bv_omega)
  obtain ⟨κ,kd⟩:=kinded (prog:=prog) (A:=A) (s:={ s with heap:=((s.heap.update a (Obj.mapSeq fun _=>(#[]:Array Value))).push (seqObj "tuple" vs.toArray 0)).push (seqObj "list" #[] 0) }) hin6 r hs' (by bv_omega) hu
  refine wpAny_bind (kd.kind E _ ?_)
  have hok:=sort_ok (r:=fun i=>zl6 ds (ds.getD i .none)) (n:=ds.length) (by bv_omega)
  have hw:=kasWp_of kd.ask hok
  rw [← hlen] at hw
  refine wpAny_bind (wpM (kat_run (ks:=vs) (Q:=fun st' s'=>s'={ s with heap:=((s.heap.update a (Obj.mapSeq fun _=>(#[]:Array Value))).push (seqObj "tuple" vs.toArray 0)).push (seqObj "list" #[] 0) }∧failedOf st'=none ∧
   ∃ p:Array Nat,arrOf st'=p.map (kas_item (vs.toArray.zip vs.toArray))∧Is vs.length p∧Up (fun i=>zl6 ds (ds.getD i .none)) p vs.length) rfl (by bv_omega) (by bv_omega) (fun p' st' s' a1 a2 a3 a4=>⟨a4.1,a3,p',a2,a4.2.1,a4.2.2⟩) hw) ?_)
  rintro ⟨⟨⟩,st'⟩ s' ⟨rfl,hf,p,har,hp,hup⟩
  dsimp only
  have hout:=kat_snds rfl har
  have hsz:(List.toArray (p.toList.map fun i=>vs.getD i Value.none)).size=vs.length:=by rw [List.size_toArray,List.length_map,Array.length_toList,hp.size]
  rw [hout]
  refine wpAny_bind (seqEpoch_at ho6 rfl ?_)
  refine wpAny_bind (listUpdate_at ho6 rfl ?_ (Nat.zero_le _) (Nat.le_trans (Nat.le_of_eq hsz) (by rw [sizeLine_eq]; bv_omega)))
  rw [hf]
  simp only [bne_self_eq_false,Bool.false_eq_true,if_false]
  rw [hlen] at hp hup
  exact wpAny_pure (h _ (out_ok r (zm4 hs') hp hup))
theorem sorted_list {l:Addr} {ds:List D} {vs:List Value} (hin:F.In s.heap) (hl:s.heap.IsList l vs.toArray) (r:RepL w F ds vs)
  (hs:ds.length<2∨Mini.sortable ds=true) (h64:ds.length<64) (hu:A.units+1600<cLine):wpAny (model prog w) A (call (.builtin "sorted") [.ref l]) (Grown w F s (.list (zx6 ds)) true) E s:=by
 have hlen:=r.length
 refine Calls.call_function_entry kind_sorted plain_sorted entry_sorted (args_sorted1 _) ?_
 unfold Builtin.«sorted»
 refine wpAny_bind (m:=checkCount "sorted" 1 1 _) (wpAny_pure ?_)
 refine wpAny_bind (collect_list hl ?_ (by rw [sizeLine_eq]; bv_omega))
 refine wpAny_bind (wpAny_newList ?_ (by rw [sizeLine_eq]; bv_omega))
 have hsz:((s.heap.push (seqObj "list" #[] 0)).update s.heap.objs.size (Obj.mapSeq (·++vs.toArray))).objs.size=s.heap.objs.size+1:=by
  rw [Heap.size_update,size_push']
 have hoL:(((s.heap.push (seqObj "list" #[] 0)).update s.heap.objs.size (Obj.mapSeq (·++vs.toArray))).push (seqObj "list" vs.toArray 0)).get? (s.heap.objs.size+1)=some (seqObj "list" vs.toArray 0):=by
  rw [← hsz]; exact Heap.get?_push_size _ rfl
 have keep:∀ b o,s.heap.get? b=some o→(((s.heap.push (seqObj "list" #[] 0)).update s.heap.objs.size (Obj.mapSeq (·++vs.toArray))).push (seqObj "list" vs.toArray 0)).get? b=some o:=fun b o q=>by
  have hlt:b<s.heap.objs.size:=Heap.lt_size q
  refine Heap.get?_push_of_some _ ?_
  rw [Heap.get?_update_other _ _ (Nat.ne_of_gt hlt)]
  exact Heap.get?_push_of_some _ q
 have hnew:s.heap.get? (s.heap.objs.size+1)=none:=by
  cases e:s.heap.get? (s.heap.objs.size+1) with
  | none=>rfl
  | some o=>exact absurd (Heap.lt_size e) (Nat.not_lt.mpr (Nat.le_succ _))
 have hfa:F (s.heap.objs.size+1)=none:=by
  cases e:F (s.heap.objs.size+1) with
  | none=>rfl
  | some o=>have:=hin _ _ e; rw [hnew] at this; cases this
 show wpAny _ _ _ _ _ { s with heap:=((s.heap.push (seqObj "list" #[] 0)).update s.heap.objs.size (Obj.mapSeq (·++vs.toArray))).push (seqObj "list" vs.toArray 0) }
 rw [hsz]
 refine wpAny_bind (wpAny_holding (wpAny_call_entry slot_list_sort ⟨_,hoL,rfl⟩ entry_list_sort (list_sort_data (s:={ s with heap:=((s.heap.push (seqObj "list" #[] 0)).update s.heap.objs.size (Obj.mapSeq (·++vs.toArray))).push (seqObj "list" vs.toArray 0) })
  (fun b o e=>keep b o (hin b o e)) hfa hoL r hs h64 ?hu fun out rout=>⟨_,rfl,?_⟩) (args_list_sort _)))
 case hu=>show A.units+1+1+1500<cLine; bv_omega
 refine wpAny_pure ⟨_,rfl,?_⟩
 refine ⟨_,s.toks,rfl,fun b o e=>?_,_,rfl,hnew,?_⟩
 ·have hlt:b<s.heap.objs.size:=Heap.lt_size e
  rw [sortedHeap_old (Nat.ne_of_lt (Nat.lt_succ_of_lt hlt)) (Heap.lt_size (keep b o e))]
  exact keep b o e
 ·obtain ⟨c,hc⟩:=sortedHeap_at (out:=out.toArray) hoL
  have hz:(zx6 ds).length≤size:=by
   have:=(zz2 ds).length_eq
   rw [this]; unfold size; bv_omega
  exact ⟨hz,out.toArray,c,hc,by simpa using rout⟩
theorem sorted_after {ds:List D} {vs:List Value} {h1:Heap} {tk1:Nat} {Ag:Around} {f:List Value→Sem PySem.Fin} {P:PySem.Fin→Shared→Prop} (hin:F.In s.heap) (keep1:∀ b o,s.heap.get? b=some o→h1.get? b=some o) (r:RepL w F ds vs)
  (hs:ds.length<2∨Mini.sortable ds=true) (h64:ds.length<64) (hu:Ag.units+1550<cLine)
  (hf:f=fun xs=>(do let l ← newList xs; let _ ← holding [l] (call (.builtin "list.sort") [l] []); ret l))
  (hP:∀ v s',Grown w F s (.list (zx6 ds)) true v s'→P (.done (.ret v)) s'):wpAny (model prog w) Ag (f vs) P E { s with heap:=h1,toks:=tk1 }:=by
 subst hf
 have hlen:=r.length
 refine wpAny_bind (wpAny_newList ?_ (by rw [sizeLine_eq]; bv_omega))
 have hoL:(h1.push (seqObj "list" vs.toArray 0)).get? h1.objs.size=some (seqObj "list" vs.toArray 0):=Heap.get?_push_size _ rfl
 have keep:∀ b o,s.heap.get? b=some o→(h1.push (seqObj "list" vs.toArray 0)).get? b=some o:=fun b o q=>Heap.get?_push_of_some _ (keep1 b o q)
 have hnew1:h1.get? h1.objs.size=none:=zy4 _
 have hnew:s.heap.get? h1.objs.size=none:=by
  cases e:s.heap.get? h1.objs.size with
  | none=>rfl
  | some o=>have:=keep1 _ _ e; rw [hnew1] at this; cases this
 have hfa:F h1.objs.size=none:=by
  cases e:F h1.objs.size with
  | none=>rfl
  | some o=>have:=hin _ _ e; rw [hnew] at this; cases this
 refine wpAny_bind (wpAny_holding (wpAny_call_entry slot_list_sort ⟨_,hoL,rfl⟩ entry_list_sort (list_sort_data (s:={ s with heap:=h1.push (seqObj "list" vs.toArray 0),toks:=tk1 })
  (fun b o e=>keep b o (hin b o e)) hfa hoL r hs h64 ?hu fun out rout=>⟨_,rfl,?_⟩) (args_list_sort _)))
 case hu=>show Ag.units+1+1500<cLine; bv_omega
 refine wpAny_pure (hP _ _ ?_)
 refine ⟨_,tk1,rfl,fun b o e=>?_,_,rfl,hnew,?_⟩
 ·have hne:b≠h1.objs.size:=fun q=>by rw [q,hnew] at e; cases e
  rw [sortedHeap_old hne (Heap.lt_size (keep b o e))]
  exact keep b o e
 ·obtain ⟨c,hc⟩:=sortedHeap_at (out:=out.toArray) hoL
  have hz:(zx6 ds).length≤size:=by
   have:=(zz2 ds).length_eq
   rw [this]; unfold size; bv_omega
  exact ⟨hz,out.toArray,c,hc,by simpa using rout⟩
theorem rows_src {d:Addr} {es:Array DictEntry} {ep:Nat} (lo:(d==sysModules)=false):KdlSrc prog w "dict" d d es.size (fun i v=>∃ e,es[i]?=some e∧v=e.key) (fun h=>RowsAt h d es ep) where
 type:=fun _ x=>x.type
 there:=fun _ x=>let ⟨_,ho,_⟩:=x; ⟨Heap.lt_size ho,Heap.lt_size ho⟩
 keep:=fun _ _ x hk=>x.at fun o e=>hk d (.inl rfl) o e
 notList:=by decide
 notTuple:=by decide
 hint:=fun _ _ _ _ x q=>kdl_hint_dict x.type q
 iter:=fun _ _ hh x=>⟨_,_,(fun _ _ hq=>iter_rows lo x hq),walk_rows hh _ d (Nat.ne_of_lt (let ⟨_,ho,_⟩:=x; Heap.lt_size ho)) es ep,⟨⟨_,Heap.get?_push_size _ rfl,rfl,rfl⟩,x.at fun o e=>Heap.get?_push_of_some _ e⟩⟩
theorem collect_rows {d:Addr} {es:Array DictEntry} {ep:Nat} {Q:List Value→Shared→Prop} (lo:(d==sysModules)=false) (hh:A.handled=none) (x:RowsAt s.heap d es ep) (hn:es.size≤sizeLine)
  (h:∀ h' tk (acc:Array Value),(∀ b o,s.heap.get? b=some o→h'.get? b=some o)→ItemsOf (fun i v=>∃ e,es[i]?=some e∧v=e.key) acc es.size→Q acc.toList { s with heap:=h',toks:=tk }) :
  wpAny (model prog w) A (collect (.ref d)) Q E s:=by
 have hlt:d<s.heap.objs.size:=let ⟨_,ho,_⟩:=x; Heap.lt_size ho
 unfold collect
 refine wpAny_bind (wpAny_runValue (codeAny_builtin PySem.F.entry_proto_collect ?_))
 rw [Around.under_plainId PySem.F.plain_proto_collect _]
 show wpAny _ A.in1 (newList [] >>= fun l=>again (.builtin "list.__iadd__" ⟨[l,.ref d],[]⟩)) _ _ s
 refine wpAny_bind (wpAny_newObj_type ?_)
 refine wpAny_pure ⟨plainId_quiet PySem.F.plain_list_iadd _,codeAny_builtin PySem.F.entry_list_iadd ?_⟩
 rw [Around.under_plainId PySem.F.plain_list_iadd _]
 show wpAny _ A.in1 (Builtin.List.listExtendWith (.ref s.heap.objs.size) (.ref d) (.ref s.heap.objs.size)) _ _ _
 have hS:(s.heap.push { cls:=.type "list", data:=.seq #[] }).get? s.heap.objs.size=some { cls:=.type "list", data:=.seq #[] }:=Heap.get?_push_size _ rfl
 refine kdl_extend (A:=A) (R:=wants (fun v s'=>wpAny (model prog w) A (match v with|.ref a=>(load a >>= fun o=>match o.data with|.seq xs _=>pure xs.toList|_=>unsupported "internal:collect")|_=>unsupported "internal:collect") Q E s') E) (s:={ s with heap:=s.heap.push { cls:=.type "list", data:=.seq #[] } }) (rows_src (ep:=ep) lo) hh (x.at fun o e=>Heap.get?_push_of_some _ e) s.heap.objs.size (Nat.ne_of_gt hlt) (Nat.ne_of_gt hlt) (.ref s.heap.objs.size) 0 hS (fun h' tk acc' c' hk hS' hacc=>?_) hn
 show wpAny _ A (load s.heap.objs.size >>= _) _ _ _
 refine wpAny_bind (wpAny_load hS' ?_)
 exact wpAny_pure (h h' tk acc' (fun b o e=>hk b o (Nat.ne_of_lt (Heap.lt_size e)) (Heap.get?_push_of_some _ e)) hacc)
theorem keys_rep {kvs:List (D×D)} {es:Array DictEntry} (r:RepKV w F kvs es.toList) {acc:Array Value} (hacc:ItemsOf (fun i v=>∃ e,es[i]?=some e∧v=e.key) acc es.size):RepL w F (kvs.map (·.1)) acc.toList:=by
 have hl:=r.length
 have h1:=hacc.1
 refine RepL.of_get (by simp at hl ⊢; bv_omega) fun i d v hd hv=>?_
 (refine elEA (hacc.2 i v (by rw [← Array.getElem?_toList]; exact hv)) fun e he e_2=>?_; subst e_2)
 exact r.key hd (by rw [Array.getElem?_toList]; exact he)
end
theorem sortD_some {l:List D} {d:D} {f:Bool} (e:sortD l=some (d,f)):(l.length<2∨Mini.sortable l=true)∧l.length<64∧d=.list (zx6 l)∧f=true:=by
 obtain ⟨hs,e⟩:=ifS e
 cases e
 simp only [Bool.or_eq_true,decide_eq_true_eq,Bool.and_eq_true] at hs
 exact ⟨hs.imp id fun q=>q.1,hs.elim (fun q=>Nat.lt_trans q (by decide)) fun q=>q.2,rfl,rfl⟩
set_option tactic.hygienic true in
theorem primRest (w:World):PrimRest w:=by
 intro prog A E s F n R hin p x d f v hv e
 cases p<;>try exact (noS e).elim
 ·cases x<;>try exact (noS e).elim
  ·(refine elAAA (sortD_some e) fun hs h64 e_2 e_3=>?_; subst e_2; subst e_3)
   refine hv.listK hin fun hz a ob ws m h1 hcl hdt r=>?_
   exact sorted_list hin (l:=a) (vs:=ws.toList) (by simpa using ⟨_,h1,hcl,_,hdt⟩) r hs h64 (by have:=R.units; bv_omega)
  ·rename_i kvs
   (refine elAAA (sortD_some e) fun hs h64 e_2 e_3=>?_; subst e_2; subst e_3)
   refine hv.dicK hin fun hz a es m h1 r hb=>?_
   have hl:=r.length
   rw [Array.length_toList] at hl
   show wpAny _ _ (call (.builtin "sorted") [.ref a]) _ _ _
   refine Calls.call_function_entry kind_sorted plain_sorted entry_sorted (args_sorted1 _) ?_
   unfold Builtin.«sorted»
   refine wpAny_bind (m:=checkCount "sorted" 1 1 _) (wpAny_pure ?_)
   refine wpAny_bind (collect_rows (es:=es) (ep:=m) (beq_eq_false_iff_ne.mpr (Nat.ne_of_gt hb)) (by exact R.handled) ⟨_,h1,⟨rfl,rfl,rfl⟩,rfl⟩ (by simp at h64; rw [sizeLine_eq]; bv_omega) fun h' tk acc keep hacc=>?_)
   exact sorted_after (prog:=prog) (w:=w) (s:=s) hin keep (keys_rep r hacc) hs h64 (by have:=R.units; show A.units+1+1550<cLine; bv_omega) rfl fun v s' g=>⟨_,rfl,g⟩
 ·cases x<;>try exact (noS e).elim
  rename_i kvs
  cases e
  refine hv.dicK hin fun hz a es m h1 r hb=>?_
  have hl:=r.length
  rw [Array.length_toList] at hl
  have hz1:=hz.1
  refine kdl_call (rows_src (es:=es) (ep:=m) (beq_eq_false_iff_ne.mpr (Nat.ne_of_gt hb))) R.handled ⟨_,h1,⟨rfl,rfl,rfl⟩,rfl⟩ (by rw [sizeLine_eq,hl]; exact hz1) fun h' tk acc c keep ho hacc=>?_
  exact ⟨h',tk,rfl,keep,_,rfl,zy4 _,by simpa using hz1,acc,c,ho,keys_rep r hacc⟩
 ·cases x<;>try exact (noS e).elim
  rename_i kvs
  obtain ⟨hik,e⟩:=ifS e
  cases e
  refine hv.dicK hin fun hz a es m h1 r hb=>?_
  refine elEA (to_dictOf (prog:=prog) hik hz h1 r) fun t ab hm=>?_
  have ha:=Heap.lt_size h1
  have hz1:=hz.1
  refine kt_call_dict (beq_eq_false_iff_ne.mpr (Nat.ne_of_gt hb)) hm.dictOf (by rw [sizeLine_eq,ab.length]; exact hz1) fun h' q hs=>?_
  exact ⟨h',s.toks,rfl,fun b o e=>by rw [hs.2 b (Nat.ne_of_lt (Heap.lt_size e))]; exact Heap.get?_push_of_some _ e,_,rfl,zy4 _,of_dictOf ab hz1 (Nat.lt_trans hb ha) q⟩
end Snd
end
section
namespace Snd
open PySem Mini PySem.W PyProof.Rows
structure JoinsAt (K:Frag) (a:Addr) (t u:Tok) (n:Nat):Prop where
 ns:nsIn K mainGlobals "JOINS" = some (some (.ref a))
 at':K.lookup a=some (tobj #[.str "sum" t,.str "mul" u] n)
set_option tactic.hygienic true in
theorem ns_of_in {K:Frag} {h:Heap} {a:Addr} {m:Str→Option Value} {x:Str} {v:Value} (X:K.In h) (N:h.Ns a m) (e:nsIn K a x=some (some v)):m x=some v:=by
 unfold nsIn at e
 split at e
 ·rename_i c d es ep sl hl
  refine elEEEAAA (N) fun o es' ep' ho hd hk hm=>?_
  have:=X _ _ hl
  rw [ho] at this; cases this
  simp only at hd
  cases hd
  split at e
  ·rename_i en hf
   cases e
   rw [← hm x]
   show (es.find? fun e=>e.key.isStr x).map (·.val)=_
   rw [← Array.find?_toList,hf]; rfl
  ·split at e<;>cases e
 ·cases e
noncomputable def bltNames:List Str:=["len", "sorted", "min", "max", "isinstance", "tuple", "list", "dict", "int", "bool", "str", "range", "reversed", "zip", "ValueError"]
theorem blt_all:∀ p∈bltTab,p.1∈bltNames∧bootBuiltins p.1=some p.2∧p.1 ≠ "__name__" := by
 intro p hp
 simp only [bltTab,List.mem_cons,List.not_mem_nil,or_false] at hp
 rcases hp with rfl|rfl|rfl|rfl|rfl|rfl|rfl|rfl|rfl|rfl|rfl|rfl|rfl|rfl|rfl
 all_goals exact ⟨by decide,by rfl,by decide⟩
theorem blt_names {x:Str} {v:Value} (h:bltVal x=some v):x∈bltNames∧bootBuiltins x=some v∧x ≠ "__name__" := blt_all _ (mem_of_lookup h)
set_option tactic.hygienic true in
theorem const_int {p:Program} {loose:List Str} {mean:ExcName→Option Value} {mg mb:Str→Option Value} {h:Heap} (T:PyProof.Rows.Top p loose mean mg mb h) {x:Str} {i:Int} (e:(match valOf p x with|some (.int j)=>j==i|_=>false)=true):∃ t,mg x=some (.int i t):=by
 split at e
 ·rename_i j hj
  refine elEA (T.const x _ hj) fun v h1 h2=>?_
  refine elEA (reads_int_inv (h2 {})) fun t q _=>?_
  rw [eq_of_beq e] at q
  exact ⟨t,by rw [h1,q]⟩
 ·cases e
theorem room_caller:Room 600 callerA:=⟨rfl,by decide,by decide⟩
section
variable {w:World}
theorem ints_rep {F:Fz}:∀ {vs:List Value} {ns:List Int},IntsAre vs ns→RepL w F (ns.map PyData.int) vs:=fun h=>by
 induction h with
 | nil=>exact RepL.nil_
 | cons n t h ih=>exact RepL.cons_ (by simp [Rep]) ih
end
theorem post_true (l:OpenLaw) (args:List WData):l.row.toRowW.claim.post args (.bool true) args=true:=by
 with_unfolding_all rfl
end Snd
end
section
namespace Snd
open PySem Mini PySem.W PyProof.Rows
noncomputable def glo (x:Str):Option D :=
 if x == "JOINS" then some (.tuple [.str "sum", .str "mul"]) else if x == "LEAVES" then some (.int 40) else if x == "GREATEST" then some (.int 1000000000) else if x == "OPENS" then some (.int 10) else none
noncomputable def topOk (Fs:Fns) (p:Program) (loose:List Str):Bool :=
 (Fs.all fun q=>(recsOf p).any fun d=>d.name==q.1&&chkFn q.2 d.params d.scope d.body) &&
 (bltNames.all fun x=>!startupNames.contains x&&!(looseW p loose).contains x&&!((recsOf p).map (·.name)).contains x&&!((litsOf p).map (·.1)).contains x&&!((clssOf p (looseW p loose)).map (·.name)).contains x) &&
 (match valOf p "LEAVES" with|some (.int i)=>i==40|_=>false)&&(match valOf p "GREATEST" with|some (.int i)=>i==1000000000|_=>false)&&(match valOf p "OPENS" with|some (.int i)=>i==10|_=>false)
section
variable {p:Program} {loose:List Str} {R:WRecords} {XP:(Str→Option Value)→Heap→Prop} {w:World} {s₀ s₁:Shared} {mg mb:Str→Option Value} {prog:Program} {Fs:Fns}
set_option tactic.hygienic true in
theorem base_ok (G:W.Ground p loose R XP w s₀ mg mb s₁.heap) {K:Frag} (KX:K.In s₁.heap) {aj:Addr} {tj uj:Tok} {nj:Nat} (hj:JoinsAt K aj tj uj nj) (hc:topOk Fs p loose=true) {F0:Fz}
  (hF:F0 aj=s₁.heap.get? aj):Base { prog:=prog,w:=w,H:=s₁.heap,F0:=F0,mg:=mg,mb:=mb } Fs glo:=by
 have T:=G.T
 unfold topOk at hc
 simp only [Bool.and_eq_true] at hc
 obtain ⟨⟨⟨⟨c1,c2⟩,c3⟩,c4⟩,c5⟩:=hc
 exact {
  di:=dictIn w
  dg:=dictGet w
  pr:=primRest w
  dw:=dictIter w
  ds:=dictSet w
  ns:=T.g
  nb:=T.b
  glob:=fun x d hx=>by
   unfold glo at hx
   split at hx
   ·rename_i e
    cases hx
    have e:=eq_of_beq e
    subst e
    refine ⟨.ref aj,ns_of_in KX T.g hj.ns,?_⟩
    have h3:F0 aj=some (tobj #[.str "sum" tj,.str "mul" uj] nj):=by rw [hF]; exact KX _ _ hj.at'
    simp only [Rep,RepL]
    refine ⟨by unfold size; decide,aj,_,nj,rfl,h3,_,_,rfl,⟨tj,rfl⟩,_,_,rfl,⟨uj,rfl⟩,rfl⟩
   ·split at hx
    ·rename_i e
     cases hx
     have e:=eq_of_beq e
     subst e
     obtain ⟨t,q⟩:=const_int T c3
     exact ⟨_,q,by simp [Rep]⟩
    ·split at hx
     ·rename_i e
      cases hx
      have e:=eq_of_beq e
      subst e
      obtain ⟨t,q⟩:=const_int T c4
      exact ⟨_,q,by simp [Rep]⟩
     ·split at hx
      ·rename_i e
       cases hx
       have e:=eq_of_beq e
       subst e
       obtain ⟨t,q⟩:=const_int T c5
       exact ⟨_,q,by simp [Rep]⟩
      ·cases hx
  blt:=fun x v hx=>by
   refine elAA (blt_names hx) fun q1 q2 q3=>?_
   have:=List.all_eq_true.mp c2 x q1
   simp only [Bool.and_eq_true,Bool.not_eq_true',List.contains_eq_mem,decide_eq_false_iff_not] at this
   obtain ⟨⟨⟨⟨a1,a2⟩,a3⟩,a4⟩,a5⟩:=this
   exact ⟨T.free x a1 a2 a3 a4 a5,(T.builtins x q3).trans q2⟩
  nolimit:=T.nolimit
  fn:=fun g fn hg=>by
   have:=List.all_eq_true.mp c1 _ (mem_of_lookup hg)
   refine elEA (List.any_eq_true.mp this) fun d hd hq=>?_
   simp only [Bool.and_eq_true,beq_iff_eq] at hq
   refine elEEEEEAAA (T.fn d hd) fun a o pm code doc h1 h2 h3 h4=>?_
   obtain ⟨e,hq⟩:=hq
   subst e
   exact ⟨a,o,d.params,d.body,d.scope,pm,code,doc,h1,h2,h3,h4,hq⟩ }
set_option tactic.hygienic true in
theorem law_true (G:W.Ground p loose R XP w s₀ mg mb s₁.heap) {K:Frag} (KX:K.In s₁.heap) {aj:Addr} {tj uj:Tok} {nj:Nat} (hj:JoinsAt K aj tj uj nj) (hc:topOk Fs p loose=true) {fa l:Addr} {vs:List Value} {ns:List Int} {name:Str} (hmg:mg name=some (.ref fa))
  (hL:s₁.heap.IsList l vs.toArray) (hI:IntsAre vs ns) (hlen:ns.length≤63) {fuel n:Nat} (hn:n≤600) {f:Bool} (hrun:Mini.run Fs glo fuel n name [.list (ns.map .int)]=some (.bool true,f)) {E:Value→Shared→Prop} :
  wpAny (model prog w) callerA (call (.ref fa) [.ref l]) (fun v s'=>v=.bool true∧(∀ b o,s₁.heap.get? b=some o→s'.heap.get? b=some o)∧∃ h' tk,s'={ s₁ with heap:=h',toks:=tk }) E s₁:=by
 refine elEAAE (hL) fun ol hol hcl m hdt=>?_
 let F0:Fz:=fun a=>if a=l then some ol else if a=aj then s₁.heap.get? aj else none
 have hin:F0.In s₁.heap:=fun a o e=>by
  simp only [F0] at e
  split at e
  ·rename_i q; subst q; cases e; exact hol
  ·split at e
   ·rename_i q; subst q; exact e
   ·cases e
 have B:Base { prog:=prog,w:=w,H:=s₁.heap,F0:=F0,mg:=mg,mb:=mb } Fs glo:=base_ok G KX hj hc (by
  simp only [F0]
  split
  ·rename_i q; rw [q]; exact hol.symm
  ·simp)
 obtain ⟨a,o,fd,e1,e2,e3,hcall⟩:=run_ok B fuel n name _ _ _ hrun
 have:a=fa:=by
  have e1':mg name=some (.ref a):=e1
  rw [hmg] at e1'; cases e1'; rfl
 subst this
 have S:St { prog:=prog,w:=w,H:=s₁.heap,F0:=F0,mg:=mg,mb:=mb } (Hold F0 s₁.heap) F0 s₁.heap [] [] []:={
  sub:=hin
  low:=Fz.le_refl _
  base:=fun a o e=>e
  cov:=fun a o e=>by
   cases hq:F0 a with
   | none=>exact .inl ⟨hq,o,e⟩
   | some o'=>exact .inr (fun x=>nomatch x)
  xf:=fun a e=>e.1
  xal:=fun a e=>e.2
  lenP:=rfl
  lenS:=rfl
  has:=fun i p ov e1 _=>by simp at e1
  slot:=fun i p ov e1 _=>by simp at e1
  nodup:=List.nodup_nil
  cont:=fun p hp=>nomatch hp
  own:=fun k a ho=>by simp [zs2] at ho
  inj:=fun i j a ho _=>by simp [zs2] at ho }
 have r:RepL w F0 [PyData.list (ns.map .int)] [.ref l]:=by
  refine RepL.cons_ ?_ RepL.nil_
  simp only [Rep]
  refine ⟨by rw [List.length_map]; unfold size; bv_omega,l,ol,vs.toArray,m,rfl,by simp [F0],hcl,hdt,?_⟩
  simpa using ints_rep hI
 refine wpM (hcall callerA E s₁ F0 _ [.ref l] (room_caller.le hn) S r) (fun v s' q=>?_)
 obtain ⟨F',st,rr⟩:=q
 refine ⟨?_,fun b o e=>st.st.base b o e,st.eq⟩
 cases f with
 | false=>simpa [ResOk,Rep] using rr
 | true =>
  refine elEAAAAA (rr) fun a' _ _ _ _ _ q=>?_
  exact q.elim
end
end Snd
end
section
namespace Mini
open PySem
set_option backward.match.sparseCases false
section
variable {Γ:Env} {σ τ:Sg} {a b c i l r e s t:I} {d x y:D} {f g:Bool}
noncomputable def kq (σ:Sg) (p:D×Bool):Option (D×Bool×Sg):=some (p.1,p.2,σ)
@[simp] theorem kq_:kq σ (d,f)=some (d,f,σ):=rfl
noncomputable def kb (σ:Sg) (b:Bool):Option (D×Bool×Sg):=some (.bool b,false,σ)
@[simp] theorem kb_ {p:Bool}:kb σ p=some (.bool p,false,σ):=rfl
noncomputable def kd (σ:Sg) (d:D):Option (D×Bool×Sg):=some (d,false,σ)
@[simp] theorem kd_:kd σ d=some (d,false,σ):=rfl
noncomputable def knb (σ:Sg) (b:Bool):Option (D×Bool×Sg):=some (.bool (!b),false,σ)
@[simp] theorem knb_ {p:Bool}:knb σ p=some (.bool (!p),false,σ):=rfl
noncomputable def knot (p:D×Sg):Option (D×Bool×Sg):=(zx5 p.1).bind (knb p.2)
@[simp] theorem knot_:knot (d,σ)=(zx5 d).bind (knb σ):=rfl
noncomputable def kff (p:D×Sg):Option (D×Bool×Sg):=some (p.1,false,p.2)
@[simp] theorem kff_:kff (d,σ)=some (d,false,σ):=rfl
noncomputable def kbin (op:Operator) (p:D×D×Sg):Option (D×Bool×Sg):=(binD op p.1 p.2.1).bind (kq p.2.2)
@[simp] theorem kbin_ {op:Operator}:kbin op (x,y,σ)=(binD op x y).bind (kq σ):=rfl
noncomputable def kcmp (op:CmpOp) (p:D×D×Sg):Option (D×Bool×Sg):=(cmpD op p.1 p.2.1).bind (kb p.2.2)
@[simp] theorem kcmp_ {op:CmpOp}:kcmp op (x,y,σ)=(cmpD op x y).bind (kb σ):=rfl
noncomputable def kidx (p:D×D×Sg):Option (D×Bool×Sg):=(idxD p.1 p.2.1).bind (kd p.2.2)
@[simp] theorem kidx_:kidx (x,y,σ)=(idxD x y).bind (kd σ):=rfl
noncomputable def kbr {α:Type} (h k:Sg→Option α) (σ:Sg):Bool→Option α
 | true=>h σ
 | false=>k σ
@[simp] theorem kbr_t {α:Type} {h k:Sg→Option α}:kbr h k σ true=h σ:=rfl
@[simp] theorem kbr_f {α:Type} {h k:Sg→Option α}:kbr h k σ false=k σ:=rfl
noncomputable def kif {α:Type} (h k:Sg→Option α) (p:D×Sg):Option α:=(zx5 p.1).bind (kbr h k p.2)
@[simp] theorem kif_ {α:Type} {h k:Sg→Option α}:kif h k (d,σ)=(zx5 d).bind (kbr h k σ):=rfl
noncomputable def kmT (p:List D×Sg):Option (D×Bool×Sg):=(mkT p.1).bind (kq p.2)
@[simp] theorem kmT_ {ds:List D}:kmT (ds,σ)=(mkT ds).bind (kq σ):=rfl
noncomputable def kmL (p:List D×Sg):Option (D×Bool×Sg):=(mkL p.1).bind (kq p.2)
@[simp] theorem kmL_ {ds:List D}:kmL (ds,σ)=(mkL ds).bind (kq σ):=rfl
noncomputable def kco (n:Nat) (h:Sg→Option (D×Sg)) (k:Ev) (p:List D×Sg):Option (D×Bool×Sg):=(zi9 n h k p.1 p.2).bind kmL
@[simp] theorem kco_ {n:Nat} {h:Sg→Option (D×Sg)} {k:Ev} {ds:List D}:kco n h k (ds,σ)=(zi9 n h k ds σ).bind kmL:=rfl
noncomputable def kcT (n m:Nat) (h:Sg→Option (D×Sg)) (k:Ev) (p:List D×Sg):Option (D×Bool×Sg):=(zj2 n (tupN m) h k p.1 p.2).bind kmL
@[simp] theorem kcT_ {n m:Nat} {h:Sg→Option (D×Sg)} {k:Ev} {ds:List D}:kcT n m h k (ds,σ)=(zj2 n (tupN m) h k ds σ).bind kmL:=rfl
noncomputable def kca (Γ:Env) (g:Str) (p:List D×Sg):Option (D×Bool×Sg):=(Γ.call g p.1).bind (kq p.2)
@[simp] theorem kca_ {g:Str} {ds:List D}:kca Γ g (ds,σ)=(Γ.call g ds).bind (kq σ):=rfl
noncomputable def kp1 (p:Prim) (x:D×Sg):Option (D×Bool×Sg):=(prim1D p x.1).bind (kq x.2)
@[simp] theorem kp1_ {p:Prim}:kp1 p (d,σ)=(prim1D p d).bind (kq σ):=rfl
noncomputable def kp2b (p:Prim) (x:D) (q:D×Bool×Sg):Option (D×Bool×Sg):=(prim2D p x q.1).bind (kq q.2.2)
@[simp] theorem kp2b_ {p:Prim}:kp2b p x (y,f,σ)=(prim2D p x y).bind (kq σ):=rfl
noncomputable def kp2 (p:Prim) (h:Ev) (x:D×Bool×Sg):Option (D×Bool×Sg):=(h x.2.2).bind (kp2b p x.1)
@[simp] theorem kp2_ {p:Prim} {h:Ev}:kp2 p h (x,f,σ)=(h σ).bind (kp2b p x):=rfl
noncomputable def kis (ty:Str) (p:D×Sg):Option (D×Bool×Sg):=(isiD p.1 ty).bind (kb p.2)
@[simp] theorem kis_ {ty:Str}:kis ty (d,σ)=(isiD d ty).bind (kb σ):=rfl
noncomputable def kpob (σ:Sg) (k:Nat) (l:List D) (d:D):Option (D×Bool×Sg):=some (d,false,σ.set k (some (.own (.list l.dropLast))))
@[simp] theorem kpob_ {k:Nat} {ds:List D}:kpob σ k ds d=some (d,false,σ.set k (some (.own (.list ds.dropLast)))):=rfl
noncomputable def kpo (σ:Sg) (k:Nat) (l:List D):Option (D×Bool×Sg):=l.getLast?.bind (kpob σ k l)
@[simp] theorem kpo_ {k:Nat} {ds:List D}:kpo σ k ds=ds.getLast?.bind (kpob σ k ds):=rfl
noncomputable def kr1b (σ:Sg) (y:Int):Option (D×Bool×Sg):=if zy9 y&&decide (y.toNat≤size) then some (.list (zs9 0 y),false,σ) else none
@[simp] theorem kr1b_ {y:Int}:kr1b σ y=if zy9 y&&decide (y.toNat≤size) then some (.list (zs9 0 y),false,σ) else none:=rfl
noncomputable def kr1 (p:D×Bool×Sg):Option (D×Bool×Sg):=(zr7 p.1).bind (kr1b p.2.2)
@[simp] theorem kr1_:kr1 (d,f,σ)=(zr7 d).bind (kr1b σ):=rfl
noncomputable def krc (x:Int) (σ:Sg) (y:Int):Option (D×Bool×Sg):=if zy9 x&&zy9 y&&decide ((y - x).toNat≤size) then some (.list (zs9 x y),false,σ) else none
@[simp] theorem krc_ {x y:Int}:krc x σ y=if zy9 x&&zy9 y&&decide ((y - x).toNat≤size) then some (.list (zs9 x y),false,σ) else none:=rfl
noncomputable def krb (x:Int) (q:D×Bool×Sg):Option (D×Bool×Sg):=(zr7 q.1).bind (krc x q.2.2)
@[simp] theorem krb_ {i:Int}:krb i (d,f,σ)=(zr7 d).bind (krc i σ):=rfl
noncomputable def kra (h:Ev) (σ:Sg) (x:Int):Option (D×Bool×Sg):=(h σ).bind (krb x)
@[simp] theorem kra_ {h:Ev} {i:Int}:kra h σ i=(h σ).bind (krb i):=rfl
noncomputable def kr (h:Ev) (p:D×Bool×Sg):Option (D×Bool×Sg):=(zr7 p.1).bind (kra h p.2.2)
@[simp] theorem kr_ {h:Ev}:kr h (d,f,σ)=(zr7 d).bind (kra h σ):=rfl
noncomputable def kc1 (d:D) (q:List D×Sg):Option (List D×Sg):=some (d::q.1,q.2)
@[simp] theorem kc1_ {ds:List D}:kc1 d (ds,σ)=some (d::ds,σ):=rfl
noncomputable def kc (h:Sg→Option (List D×Sg)) (p:D×Bool×Sg):Option (List D×Sg):=(h p.2.2).bind (kc1 p.1)
@[simp] theorem kc_ {h:Sg→Option (List D×Sg)}:kc h (d,f,σ)=(h σ).bind (kc1 d):=rfl
noncomputable def kl (p:D×Bool×Sg):Option (D×Sg):=some (p.1,p.2.2)
@[simp] theorem kl_:kl (d,f,σ)=some (d,σ):=rfl
noncomputable def kpr (d:D) (σ:Sg):Option (D×Sg):=some (d,σ)
@[simp] theorem kpr_:kpr d σ=some (d,σ):=rfl
noncomputable def kan (h:Sg→Option (D×Sg)) (p:D×Bool×Sg):Option (D×Sg):=(zx5 p.1).bind (kbr h (kpr p.1) p.2.2)
@[simp] theorem kan_ {h:Sg→Option (D×Sg)}:kan h (d,f,σ)=(zx5 d).bind (kbr h (kpr d) σ):=rfl
noncomputable def ko (h:Sg→Option (D×Sg)) (p:D×Bool×Sg):Option (D×Sg):=(zx5 p.1).bind (kbr (kpr p.1) h p.2.2)
@[simp] theorem ko_ {h:Sg→Option (D×Sg)}:ko h (d,f,σ)=(zx5 d).bind (kbr (kpr d) h σ):=rfl
noncomputable def kas (k:Nat) (p:D×Bool×Sg):Option Out:=some (.next (put p.2.2 k p.1 p.2.1))
@[simp] theorem kas_ {k:Nat}:kas k (d,f,σ)=some (.next (put σ k d f)):=rfl
noncomputable def kapb (k:Nat) (p:D×Bool×Sg):Option Out:=appD p.2.2 k [p.1]
@[simp] theorem kapb_ {k:Nat}:kapb k (d,f,σ)=appD σ k [d]:=rfl
noncomputable def kap (k:Nat) (h:Ev) (σ:Sg) (_:List D):Option Out:=(h σ).bind (kapb k)
@[simp] theorem kap_ {k:Nat} {h:Ev} {ds:List D}:kap k h σ ds=(h σ).bind (kapb k):=rfl
noncomputable def kexb (k:Nat) (p:D×Bool×Sg):Option Out:=(extD p.1).bind (appD p.2.2 k)
@[simp] theorem kexb_ {k:Nat}:kexb k (d,f,σ)=(extD d).bind (appD σ k):=rfl
noncomputable def kex (k:Nat) (h:Ev) (σ:Sg) (_:List D):Option Out:=(h σ).bind (kexb k)
@[simp] theorem kex_ {k:Nat} {h:Ev} {ds:List D}:kex k h σ ds=(h σ).bind (kexb k):=rfl
noncomputable def kst3 (k:Nat) (v key:D) (σ:Sg) (kvs:List (D×D)):Option Out:=if zp2 key kvs&&decide (kvs.length<size) then some (.next (σ.set k (some (.own (.dict (dput kvs key v)))))) else none
@[simp] theorem kst3_ {k:Nat} {kvs:List (D×D)}:kst3 k d x σ kvs=if zp2 x kvs&&decide (kvs.length<size) then some (.next (σ.set k (some (.own (.dict (dput kvs x d)))))) else none:=rfl
noncomputable def kst2 (k:Nat) (v:D) (x:D×Bool×Sg):Option Out:=(ownD x.2.2 k).bind (kst3 k v x.1 x.2.2)
@[simp] theorem kst2_ {k:Nat}:kst2 k d (x,f,σ)=(ownD σ k).bind (kst3 k d x σ):=rfl
noncomputable def kst1 (k:Nat) (h:Ev) (v:D) (σ:Sg):Bool→Option Out
 | true=>(h σ).bind (kst2 k v)
 | false=>none
@[simp] theorem kst1_ {k:Nat} {h:Ev}:kst1 k h d σ true=(h σ).bind (kst2 k d):=rfl
noncomputable def kst (k:Nat) (h:Ev) (v:D×Bool×Sg):Option Out:=kst1 k h v.1 v.2.2 (zj4 v.2.2 k)
@[simp] theorem kst_ {k:Nat} {h:Ev}:kst k h (d,f,σ)=kst1 k h d σ (zj4 σ k):=rfl
noncomputable def kfo (k:D→Sg→Option Sg) (h:Sg→Option Out) (p:List D×Sg):Option Out:=forN k h p.1 p.2
@[simp] theorem kfo_ {k:D→Sg→Option Sg} {h:Sg→Option Out} {ds:List D}:kfo k h (ds,σ)=forN k h ds σ:=rfl
noncomputable def kre (p:D×Bool×Sg):Option Out:=some (.ret p.1 p.2.1)
@[simp] theorem kre_:kre (d,f,σ)=some (.ret d f):=rfl
noncomputable def kun1 (σ:Sg) (d:D):Option (D×Sg):=some (d,σ)
@[simp] theorem kun1_:kun1 σ d=some (d,σ):=rfl
noncomputable def kun (p:Opnd×Sg):Option (D×Sg):=(res p.1 p.2).bind (kun1 p.2)
@[simp] theorem kun_ {o:Opnd}:kun (o,σ)=(res o σ).bind (kun1 σ):=rfl
noncomputable def kdu3 (σ:Sg) (x y:D):Option (D×D×Sg):=some (x,y,σ)
@[simp] theorem kdu3_:kdu3 σ x y=some (x,y,σ):=rfl
noncomputable def kdu2 (o:Opnd) (σ:Sg) (x:D):Option (D×D×Sg):=(res o σ).bind (kdu3 σ x)
@[simp] theorem kdu2_ {o:Opnd}:kdu2 o σ x=(res o σ).bind (kdu3 σ x):=rfl
noncomputable def kdu1 (o:Opnd) (q:Opnd×Sg):Option (D×D×Sg):=(res o q.2).bind (kdu2 q.1 q.2)
@[simp] theorem kdu1_ {o u:Opnd}:kdu1 o (u,σ)=(res o σ).bind (kdu2 u σ):=rfl
noncomputable def kdu (j:I) (h:Ev) (p:Opnd×Sg):Option (D×D×Sg):=(opn j h p.2).bind (kdu1 p.1)
@[simp] theorem kdu_ {j:I} {h:Ev} {o:Opnd}:kdu j h (o,σ)=(opn j h σ).bind (kdu1 o):=rfl
noncomputable def kdat (p:D×Bool×Sg):Option (Opnd×Sg):=some (.dat p.1,p.2.2)
@[simp] theorem kdat_:kdat (d,f,σ)=some (.dat d,σ):=rfl
noncomputable def kslo (k:Nat) (σ:Sg) (_:D):Option (Opnd×Sg):=some (.slot k,σ)
@[simp] theorem kslo_ {k:Nat}:kslo k σ d=some (.slot k,σ):=rfl
noncomputable def ksr1 (σ:Sg) (l:List D):Option (List D×Sg):=some (l,σ)
@[simp] theorem ksr1_ {ds:List D}:ksr1 σ ds=some (ds,σ):=rfl
noncomputable def ksr (p:D×Bool×Sg):Option (List D×Sg):=(itemsD p.1).bind (ksr1 p.2.2)
@[simp] theorem ksr_:ksr (d,f,σ)=(itemsD d).bind (ksr1 σ):=rfl
@[simp] theorem kstO_n {h:Sg→Option Out}:stepO h (.next σ)=h σ:=rfl
@[simp] theorem kstO_r {h:Sg→Option Out}:stepO h (.ret d f)=some (.ret d f):=rfl
@[simp] theorem q_glob {x:Str}:ev Γ (.glob x) σ=(Γ.glob x).bind (kd σ):=rfl
@[simp] theorem q_bin {op:Operator}:ev Γ (.bin op a b) σ=(duo a (ev Γ a) b (ev Γ b) σ).bind (kbin op):=rfl
@[simp] theorem q_not:ev Γ (.not a) σ=(uno a (ev Γ a) σ).bind knot:=rfl
@[simp] theorem q_and:ev Γ (.and l) σ=(evAnd Γ l σ).bind kff:=rfl
@[simp] theorem q_or:ev Γ (.or l) σ=(evOr Γ l σ).bind kff:=rfl
@[simp] theorem q_cmp {op:CmpOp}:ev Γ (.cmp op a b) σ=(duo a (ev Γ a) b (ev Γ b) σ).bind (kcmp op):=rfl
@[simp] theorem q_ite:ev Γ (.ite c a b) σ=(uno c (ev Γ c) σ).bind (kif (ev Γ a) (ev Γ b)):=rfl
@[simp] theorem q_tup:ev Γ (.tup l) σ=(evs Γ l σ).bind kmT:=rfl
@[simp] theorem q_lst:ev Γ (.lst l) σ=(evs Γ l σ).bind kmL:=rfl
@[simp] theorem q_comp1 {elt s cond:I}:ev Γ (.comp1 elt s cond) σ=(srcE (ev Γ s) σ).bind (kco σ.length (zp5 cond (ev Γ cond)) (ev Γ elt)):=rfl
@[simp] theorem q_compT {m:Nat} {elt s cond:I}:ev Γ (.compT m elt s cond) σ=(srcE (ev Γ s) σ).bind (kcT σ.length m (zp5 cond (ev Γ cond)) (ev Γ elt)):=rfl
@[simp] theorem q_call {g:Str}:ev Γ (.call g l) σ=(evs Γ l σ).bind (kca Γ g):=rfl
@[simp] theorem q_prim1 {p:Prim}:ev Γ (.prim1 p a) σ=(uno a (ev Γ a) σ).bind (kp1 p):=rfl
@[simp] theorem q_prim2 {p:Prim}:ev Γ (.prim2 p a b) σ=(ev Γ a σ).bind (kp2 p (ev Γ b)):=rfl
@[simp] theorem q_isi {ty:Str}:ev Γ (.isi a ty) σ=(uno a (ev Γ a) σ).bind (kis ty):=rfl
@[simp] theorem q_idx:ev Γ (.idx a i) σ=(duo a (ev Γ a) i (ev Γ i) σ).bind kidx:=rfl
@[simp] theorem q_pop {k:Nat}:ev Γ (.pop k) σ=(ownL σ k).bind (kpo σ k):=rfl
@[simp] theorem q_rng1:ev Γ (.rng1 b) σ=(ev Γ b σ).bind kr1:=rfl
@[simp] theorem q_rng:ev Γ (.rng a b) σ=(ev Γ a σ).bind (kr (ev Γ b)):=rfl
@[simp] theorem q_cons:evs Γ (.cons a r) σ=(ev Γ a σ).bind (kc (evs Γ r)):=rfl
@[simp] theorem q_al:evAnd Γ (.cons a .nil) σ=(ev Γ a σ).bind kl:=rfl
@[simp] theorem q_am:evAnd Γ (.cons a (.cons b r)) σ=(ev Γ a σ).bind (kan (evAnd Γ (.cons b r))):=rfl
@[simp] theorem q_ol:evOr Γ (.cons a .nil) σ=(ev Γ a σ).bind kl:=rfl
@[simp] theorem q_om:evOr Γ (.cons a (.cons b r)) σ=(ev Γ a σ).bind (ko (evOr Γ (.cons b r))):=rfl
@[simp] theorem q_asg {k:Nat}:ex Γ (.asg k e) σ=(ev Γ e σ).bind (kas k):=rfl
@[simp] theorem q_sto {k:Nat} {key:I}:ex Γ (.sto k key e) σ=(ev Γ e σ).bind (kst k (ev Γ key)):=by
 rw [eq_ex_sto]; congr 1; funext v; unfold kst
 cases zj4 v.2.2 k<;>rfl
@[simp] theorem q_app {k:Nat}:ex Γ (.app k e) σ=(ownL σ k).bind (kap k (ev Γ e) σ):=rfl
@[simp] theorem q_ext {k:Nat}:ex Γ (.ext k e) σ=(ownL σ k).bind (kex k (ev Γ e) σ):=rfl
@[simp] theorem q_iff:ex Γ (.iff c t e) σ=(uno c (ev Γ c) σ).bind (kif (ex Γ t) (ex Γ e)):=rfl
@[simp] theorem q_for1 {k:Nat}:ex Γ (.for1 k s b) σ=(srcE (ev Γ s) σ).bind (kfo (zu2 k) (ex Γ b)):=rfl
@[simp] theorem q_fors {ks:List Nat}:ex Γ (.fors ks s b) σ=(srcE (ev Γ s) σ).bind (kfo (bindT ks) (ex Γ b)):=rfl
@[simp] theorem q_ret:ex Γ (.ret e) σ=(ev Γ e σ).bind kre:=rfl
@[simp] theorem q_uno {h:Ev}:uno a h σ=(opn a h σ).bind kun:=rfl
@[simp] theorem q_duo {h k:Ev}:duo a h b k σ=(opn a h σ).bind (kdu b k):=rfl
@[simp] theorem q_brw {k:Nat} {h:Ev}:opn (.brw k) h σ=(look σ k).bind (kslo k σ):=rfl
@[simp] theorem q_src {h:Ev}:srcE h σ=(h σ).bind ksr:=rfl
@[simp] theorem put_t {k:Nat}:put σ k d true=σ.set k (some (.own d)):=rfl
@[simp] theorem put_f {k:Nat}:put σ k d false=σ.set k (some (.val d)):=rfl
theorem mkT1:mkT [x]=some (.tuple [x],false):=rfl
theorem mkT2:mkT [x,y]=some (.tuple [x,y],false):=rfl
theorem mkT3:mkT [x,y,d]=some (.tuple [x,y,d],false):=rfl
theorem mkL0:mkL []=some (.list [],true):=rfl
theorem mkL1:mkL [x]=some (.list [x],true):=rfl
theorem mkL2:mkL [x,y]=some (.list [x,y],true):=rfl
theorem b_sub {i j:Int}:binD .Sub (.int i) (.int j)=some (.int (i - j),false):=rfl
theorem b_add {i j:Int}:binD .Add (.int i) (.int j)=some (.int (i+j),false):=rfl
theorem b_mod {i j:Int}:binD .Mod (.int i) (.int j)=if j != 0&&zy9 j then some (.int (i.fmod j),false) else none:=rfl
theorem b_div {i j:Int}:binD .FloorDiv (.int i) (.int j)=if j != 0&&zy9 j then some (.int (i.fdiv j),false) else none:=rfl
theorem c_gt {i j:Int}:cmpD .Gt (.int i) (.int j)=some (decide (j<i)):=rfl
theorem c_le {i j:Int}:cmpD .LtE (.int i) (.int j)=some (decide (i≤j)):=rfl
theorem c_ge {i j:Int}:cmpD .GtE (.int i) (.int j)=some (decide (j≤i)):=rfl
theorem c_is:cmpD .Is d .none=some (isNoneD d):=rfl
noncomputable def sq (σ:Sg) (k:Nat):Option (Option AV):=σ[k]?
noncomputable def useK (σ:Sg) (k:Nat):Option (Option AV)→Option (D×Bool×Sg)
 | some (some (.val d))=>some (d,false,σ)
 | some (some (.own d))=>some (d,false,σ.set k (some (.val d)))
 | _=>none
noncomputable def lookK:Option (Option AV)→Option D
 | some (some (.val d))=>some d
 | some (some (.own d))=>some d
 | _=>none
noncomputable def ownLK:Option (Option AV)→Option (List D)
 | some (some (.own (.list l)))=>some l
 | _=>none
noncomputable def ownDK:Option (Option AV)→Option (List (D×D))
 | some (some (.own (.dict l)))=>some l
 | _=>none
noncomputable def hasK:Option (Option AV)→Bool
 | some (some (.own _))=>true
 | _=>false
@[simp] theorem q_use {k:Nat}:useS σ k=useK σ k (sq σ k):=rfl
@[simp] theorem q_look {k:Nat}:look σ k=lookK (sq σ k):=rfl
@[simp] theorem q_oL {k:Nat}:ownL σ k=ownLK (sq σ k):=rfl
@[simp] theorem q_oD {k:Nat}:ownD σ k=ownDK (sq σ k):=rfl
@[simp] theorem q_has {k:Nat}:zj4 σ k=hasK (sq σ k):=rfl
@[simp] theorem use_v {k:Nat}:useK σ k (some (some (.val d)))=some (d,false,σ):=rfl
@[simp] theorem use_o {k:Nat}:useK σ k (some (some (.own d)))=some (d,false,σ.set k (some (.val d))):=rfl
@[simp] theorem look_v:lookK (some (some (.val d)))=some d:=rfl
@[simp] theorem look_o:lookK (some (some (.own d)))=some d:=rfl
@[simp] theorem oL_ {ds:List D}:ownLK (some (some (.own (.list ds))))=some ds:=rfl
@[simp] theorem oD_ {ds:List (D×D)}:ownDK (some (some (.own (.dict ds))))=some ds:=rfl
@[simp] theorem has_o:hasK (some (some (.own d)))=true:=rfl
@[simp] theorem sl0 {a0:Option AV}:sq (a0::σ) 0=some a0:=rfl
@[simp] theorem sl1 {a0 a1:Option AV}:sq (a0::a1::σ) 1=some a1:=rfl
@[simp] theorem sl2 {a0 a1 a2:Option AV}:sq (a0::a1::a2::σ) 2=some a2:=rfl
@[simp] theorem sl3 {a0 a1 a2 a3:Option AV}:sq (a0::a1::a2::a3::σ) 3=some a3:=rfl
@[simp] theorem sl4 {a0 a1 a2 a3 a4:Option AV}:sq (a0::a1::a2::a3::a4::σ) 4=some a4:=rfl
@[simp] theorem sl5 {a0 a1 a2 a3 a4 a5:Option AV}:sq (a0::a1::a2::a3::a4::a5::σ) 5=some a5:=rfl
@[simp] theorem sl6 {a0 a1 a2 a3 a4 a5 a6:Option AV}:sq (a0::a1::a2::a3::a4::a5::a6::σ) 6=some a6:=rfl
@[simp] theorem sl7 {a0 a1 a2 a3 a4 a5 a6 a7:Option AV}:sq (a0::a1::a2::a3::a4::a5::a6::a7::σ) 7=some a7:=rfl
@[simp] theorem sl8 {a0 a1 a2 a3 a4 a5 a6 a7 a8:Option AV}:sq (a0::a1::a2::a3::a4::a5::a6::a7::a8::σ) 8=some a8:=rfl
@[simp] theorem sl9 {a0 a1 a2 a3 a4 a5 a6 a7 a8 a9:Option AV}:sq (a0::a1::a2::a3::a4::a5::a6::a7::a8::a9::σ) 9=some a9:=rfl
@[simp] theorem sl10 {a0 a1 a2 a3 a4 a5 a6 a7 a8 a9 a10:Option AV}:sq (a0::a1::a2::a3::a4::a5::a6::a7::a8::a9::a10::σ) 10=some a10:=rfl
@[simp] theorem sl11 {a0 a1 a2 a3 a4 a5 a6 a7 a8 a9 a10 a11:Option AV}:sq (a0::a1::a2::a3::a4::a5::a6::a7::a8::a9::a10::a11::σ) 11=some a11:=rfl
@[simp] theorem sl12 {a0 a1 a2 a3 a4 a5 a6 a7 a8 a9 a10 a11 a12:Option AV}:sq (a0::a1::a2::a3::a4::a5::a6::a7::a8::a9::a10::a11::a12::σ) 12=some a12:=rfl
theorem mkT_ {ds:List D}:mkT ds=if ds.length≤size then some (.tuple ds,false) else none:=rfl
theorem mkL_ {ds:List D}:mkL ds=if ds.length≤size then some (.list ds,true) else none:=rfl
noncomputable def kno (b:Bool):Option Bool:=some (!b)
@[simp] theorem kno_ {p:Bool}:kno p=some (!p):=rfl
theorem c_eq:cmpD .Eq x y=eqD x y:=rfl
theorem c_ne:cmpD .NotEq x y=(eqD x y).bind kno:=rfl
theorem c_lt:cmpD .Lt x y=if okd x&&okd y then ltD x y else none:=rfl
theorem c_in:cmpD .In x y=inD x y:=rfl
theorem c_ni:cmpD .NotIn x y=(inD x y).bind kno:=rfl
theorem b_ad:binD .Add x y=addD x y:=rfl
theorem ix_l0 {ds:List D}:idxD (.list (x::ds)) (.int 0)=some x:=rfl
theorem zy2 {ds:List D}:idxD (.tuple (x::ds)) (.int 0)=some x:=rfl
theorem zr8 {ds:List D}:idxD (.tuple (x::y::ds)) (.int 1)=some y:=rfl
theorem ix_t2 {ds:List D}:idxD (.tuple (x::y::d::ds)) (.int 2)=some d:=rfl
noncomputable def kapd (σ:Sg) (k:Nat) (r l:List D):Option Out:=if l.length+r.length<size then some (.next (σ.set k (some (.own (.list (l++r)))))) else none
@[simp] theorem kapd_ {k:Nat} {r l:List D}:kapd σ k r l=if l.length+r.length<size then some (.next (σ.set k (some (.own (.list (l++r)))))) else none:=rfl
@[simp] theorem q_appD {k:Nat} {r:List D}:appD σ k r=(ownL σ k).bind (kapd σ k r):=rfl
@[simp] theorem o_var {k:Nat} {h:Ev}:opn (.var k) h σ=(h σ).bind kdat:=rfl
@[simp] theorem o_cint {k:Int} {h:Ev}:opn (.cint k) h σ=(h σ).bind kdat:=rfl
@[simp] theorem o_cstr {k:Str} {h:Ev}:opn (.cstr k) h σ=(h σ).bind kdat:=rfl
@[simp] theorem o_cbool {k:Bool} {h:Ev}:opn (.cbool k) h σ=(h σ).bind kdat:=rfl
@[simp] theorem o_glob {k:Str} {h:Ev}:opn (.glob k) h σ=(h σ).bind kdat:=rfl
@[simp] theorem o_pop {k:Nat} {h:Ev}:opn (.pop k) h σ=(h σ).bind kdat:=rfl
@[simp] theorem o_not {k:I} {h:Ev}:opn (.not k) h σ=(h σ).bind kdat:=rfl
@[simp] theorem o_and {k:I} {h:Ev}:opn (.and k) h σ=(h σ).bind kdat:=rfl
@[simp] theorem o_or {k:I} {h:Ev}:opn (.or k) h σ=(h σ).bind kdat:=rfl
@[simp] theorem o_tup {k:I} {h:Ev}:opn (.tup k) h σ=(h σ).bind kdat:=rfl
@[simp] theorem o_lst {k:I} {h:Ev}:opn (.lst k) h σ=(h σ).bind kdat:=rfl
@[simp] theorem o_rng1 {k:I} {h:Ev}:opn (.rng1 k) h σ=(h σ).bind kdat:=rfl
@[simp] theorem o_bin {k:Operator} {h:Ev}:opn (.bin k a b) h σ=(h σ).bind kdat:=rfl
@[simp] theorem o_cmp {k:CmpOp} {h:Ev}:opn (.cmp k a b) h σ=(h σ).bind kdat:=rfl
@[simp] theorem o_call {k:Str} {h:Ev}:opn (.call k a) h σ=(h σ).bind kdat:=rfl
@[simp] theorem o_prim1 {k:Prim} {h:Ev}:opn (.prim1 k a) h σ=(h σ).bind kdat:=rfl
@[simp] theorem o_isi {k:Str} {h:Ev}:opn (.isi a k) h σ=(h σ).bind kdat:=rfl
@[simp] theorem o_idx {h:Ev}:opn (.idx a b) h σ=(h σ).bind kdat:=rfl
theorem bm2 {i:Int}:binD .Mod (.int i) (.int 2)=some (.int (i.fmod 2),false):=rfl
theorem bd2 {i:Int}:binD .FloorDiv (.int i) (.int 2)=some (.int (i.fdiv 2),false):=rfl
theorem bm3 {i:Int}:binD .Mod (.int i) (.int 3)=some (.int (i.fmod 3),false):=rfl
theorem bd3 {i:Int}:binD .FloorDiv (.int i) (.int 3)=some (.int (i.fdiv 3),false):=rfl
theorem bm4 {i:Int}:binD .Mod (.int i) (.int 4)=some (.int (i.fmod 4),false):=rfl
theorem bd4 {i:Int}:binD .FloorDiv (.int i) (.int 4)=some (.int (i.fdiv 4),false):=rfl
theorem bm8 {i:Int}:binD .Mod (.int i) (.int 8)=some (.int (i.fmod 8),false):=rfl
theorem bd8 {i:Int}:binD .FloorDiv (.int i) (.int 8)=some (.int (i.fdiv 8),false):=rfl
theorem bd24 {i:Int}:binD .FloorDiv (.int i) (.int 24)=some (.int (i.fdiv 24),false):=rfl
@[simp] theorem o_slc {h:Ev}:opn (.slc a b c) h σ=(h σ).bind kdat:=rfl
@[simp] theorem o_comp1 {h:Ev}:opn (.comp1 a b c) h σ=(h σ).bind kdat:=rfl
@[simp] theorem o_compT {n:Nat} {h:Ev}:opn (.compT n a b c) h σ=(h σ).bind kdat:=rfl
@[simp] theorem o_ite {h:Ev}:opn (.ite a b c) h σ=(h σ).bind kdat:=rfl
@[simp] theorem o_rng {h:Ev}:opn (.rng a b) h σ=(h σ).bind kdat:=rfl
@[simp] theorem o_cnone {h:Ev}:opn .cnone h σ=(h σ).bind kdat:=rfl
@[simp] theorem o_dct0 {h:Ev}:opn .dct0 h σ=(h σ).bind kdat:=rfl
@[simp] theorem o_cmp2 {u v:CmpOp} {h:Ev}:opn (.cmp2 u v a b c) h σ=(h σ).bind kdat:=rfl
end
theorem zad1 {a b:List D}:addD (.list a) (.list b)=mkL (a++b):=rfl
theorem zad2 {a b:List D}:addD (.tuple a) (.tuple b)=mkT (a++b):=rfl
@[simp] theorem ztr1 {b:Bool}:zx5 (.bool b)=some b:=rfl
theorem ztr2 {l:List D}:zx5 (.list l)=some (!l.isEmpty):=rfl
theorem zix1 {l:List D} {i:Int}:idxD (.list l) (.int i)=if 0≤i then l[i.toNat]? else none:=rfl
theorem zix2 {l:List D} {i:Int}:idxD (.tuple l) (.int i)=if 0≤i then l[i.toNat]? else none:=rfl
theorem zix3 {l:List (D×D)} {k:D}:idxD (.dict l) k=if zj3 k l then zs1 l k else none:=rfl
theorem zsl1 {l:List D} {i j:Option Int}:sliceD (.list l) i j=some (.list (zv0 l i j),true):=rfl
theorem zsl2 {l:List D} {i:Int}:sliceD (.tuple l) (some i) none=if 1≤i∧i≤l.length then some (.tuple (l.drop i.toNat),false) else none:=rfl
theorem zse1 {l:List D}:seqD (.list l)=some l:=rfl
theorem zse2 {l:List D}:seqD (.tuple l)=some l:=rfl
theorem zse3 {l:List (D×D)}:seqD (.dict l)=none:=rfl
theorem zex1 {l:List D}:extD (.list l)=some l:=rfl
theorem zex2 {l:List D}:extD (.tuple l)=some l:=rfl
theorem zle1 {l:List D}:lenD (.list l)=some (.int l.length,false):=rfl
theorem zle2 {l:List D}:lenD (.tuple l)=some (.int l.length,false):=rfl
theorem zai {i:Int}:zr7 (.int i)=some i:=rfl
theorem zal {l:List D}:asList (.list l)=some l:=rfl
theorem zat {l:List D}:asTup (.tuple l)=some l:=rfl
theorem zit1 {l:List D}:itemsD (.list l)=some l:=rfl
theorem zit3 {l:List (D×D)}:itemsD (.dict l)=some (l.map (·.1)):=rfl
theorem zco {l:List (D×D)}:copyD (.dict l)=if zj0 l then some (.dict l,true) else none:=rfl
theorem zso1 {l:List D}:sortedD (.list l)=sortD l:=rfl
theorem zso2 {l:List (D×D)}:sortedD (.dict l)=sortD (l.map (·.1)):=rfl
theorem zin2 {x:D} {l:List D}:inD x (.tuple l)=if okd x&&l.all okd then some (l.any fun y=>PyData.eqv y x) else none:=rfl
theorem zin3 {x:D} {l:List (D×D)}:inD x (.dict l)=if zj3 x l&&!tkey x then some (zs1 l x).isSome else none:=rfl
theorem zr2 {d:D}:prim1D .len d=lenD d:=rfl
theorem p_tup {d:D}:prim1D .tuple d=(seqD d).bind fun l=>some (.tuple l,false):=rfl
theorem p_lst {d:D}:prim1D .list d=orS ((seqD d).bind fun l=>some (.list l,true)) (restD .list d):=rfl
theorem p_srt {d:D}:prim1D .sorted d=restD .sorted d:=rfl
theorem p_dct {d:D}:prim1D .dict d=restD .dict d:=rfl
theorem r_srt {d:D}:restD .sorted d=sortedD d:=rfl
theorem r_lst {d:D}:restD .list d=keysL d:=rfl
theorem r_dct {d:D}:restD .dict d=copyD d:=rfl
theorem bD_ {i:Int}:bndD (.int i)=if i.natAbs<2^62 then some i else none:=rfl
noncomputable def kbe2 (σ:Sg) (j:Int):Option (Option Int×Sg):=some (some j,σ)
@[simp] theorem kbe2_ {σ:Sg} {j:Int}:kbe2 σ j=some (some j,σ):=rfl
noncomputable def kbe (p:D×Bool×Sg):Option (Option Int×Sg):=(bndD p.1).bind (kbe2 p.2.2)
@[simp] theorem kbe_ {d:D} {f:Bool} {σ:Sg}:kbe (d,f,σ)=(bndD d).bind (kbe2 σ):=rfl
theorem bE_o {h:Ev} {σ:Sg}:bndE .omit h σ=some (none,σ):=rfl
theorem bE_c {i:Int} {h:Ev} {σ:Sg}:bndE (.cint i) h σ=(h σ).bind kbe:=rfl
theorem bE_v {k:Nat} {h:Ev} {σ:Sg}:bndE (.var k) h σ=(h σ).bind kbe:=rfl
theorem bE_b {o:Operator} {a b:I} {h:Ev} {σ:Sg}:bndE (.bin o a b) h σ=(h σ).bind kbe:=rfl
theorem cE_c {o:CmpOp} {a b:I} {h:Ev} {σ:Sg}:zp5 (.cmp o a b) h σ=(h σ).bind kl:=rfl
theorem cE_k {g:Str} {a:I} {h:Ev} {σ:Sg}:zp5 (.call g a) h σ=(h σ).bind kl:=rfl
theorem kk_i {i:Int}:zp6 (.int i)=some 0:=rfl
theorem kk_t {l:List D}:zp6 (.tuple l)=if tkey (.tuple l) then some 1 else none:=rfl
theorem pa_n {σ:Sg}:putAll σ [] []=σ:=rfl
theorem pa_c {σ:Sg} {k:Nat} {ks:List Nat} {d:D} {ds:List D}:putAll σ (k::ks) (d::ds)=putAll (put σ k d false) ks ds:=rfl
theorem in_n:isNoneD .none=true:=rfl
theorem in_l {l:List D}:isNoneD (.list l)=false:=rfl
theorem zat2 {l:List D}:tupD (.tuple l)=some l:=rfl
theorem bT_ {ks:List Nat} {d:D} {σ:Sg}:bindT ks d σ=(tupD d).bind fun ds=>if ds.length=ks.length then some (putAll σ ks ds) else none:=rfl
section
variable {Γ:Env} {σ:Sg}
@[simp] theorem w_cnone:ev Γ .cnone σ=some (.none,false,σ):=rfl
@[simp] theorem w_cbool {b:Bool}:ev Γ (.cbool b) σ=some (.bool b,false,σ):=rfl
@[simp] theorem w_cint {i:Int}:ev Γ (.cint i) σ=some (.int i,false,σ):=rfl
@[simp] theorem w_cstr {s:Str}:ev Γ (.cstr s) σ=some (.str s,false,σ):=rfl
@[simp] theorem w_var {k:Nat}:ev Γ (.var k) σ=useS σ k:=rfl
@[simp] theorem w_dct0:ev Γ .dct0 σ=some (.dict [],true,σ):=rfl
@[simp] theorem w_nil:evs Γ .nil σ=some ([],σ):=rfl
@[simp] theorem x_nil:ex Γ .nil σ=some (.next σ):=rfl
@[simp] theorem res_s {k:Nat}:res (.slot k) σ=look σ k:=rfl
@[simp] theorem res_d {d:D}:res (.dat d) σ=some d:=rfl
end
end Mini
end
section
namespace Pl
open Mini
theorem qt {a b c:Nat} (h:a≤b) (k:b≤c):a≤c:=Nat.le_trans h k
theorem ql {a b c:Nat} (h:a≤b) (k:b<c):a<c:=Nat.lt_of_le_of_lt h k
theorem qa {a b c d:Nat} (h:a≤b) (k:c≤d):a+c≤b+d:=Nat.add_le_add h k
theorem qx {a k m:Nat} (h:a≤k) (hk:k<m:=by decide):a<m:=Nat.lt_of_le_of_lt h hk
theorem qy {a k m:Nat} (h:a≤k) (hk:k≤m:=by decide):a≤m:=Nat.le_trans h hk
theorem qr {a b c:Nat} (h:a+b≤c):b≤c:=Nat.le_trans (Nat.le_add_left ..) h
theorem qf {a b c:Nat} (h:a+b≤c):a≤c:=Nat.le_trans (Nat.le_add_right ..) h
theorem qg {a b c:Nat} (h:a+b<c):a<c:=Nat.lt_of_le_of_lt (Nat.le_add_right ..) h
theorem na62 {n k:Nat} (h:n≤k) (hk:k<4611686018427387904:=by decide):(n:Int).natAbs<4611686018427387904:=Nat.lt_of_le_of_lt h hk
theorem na63 {n k:Nat} (h:n+1≤k) (hk:k<4611686018427387904:=by decide):((n:Int)+1).natAbs<4611686018427387904:=Nat.lt_of_le_of_lt h hk
theorem nsc {n k x m c K:Nat} (h:x≤m) (hk:m≤k:=by decide) (e:k+c=K:=by rfl):n+k - x+x+c=n+K:=by
 rw [Nat.sub_add_cancel (Nat.le_trans h (Nat.le_add_left_of_le hk)),Nat.add_assoc,e]
theorem nc1 {a b:Nat} (h:1≤a):a+b - 1+1=a+b:=Nat.sub_add_cancel (Nat.le_add_right_of_le h)
theorem nc2 {n a b:Nat} (h:1≤a):n+a+b - 1+1=n+a+b:=Nat.sub_add_cancel (Nat.le_add_right_of_le (Nat.le_add_left_of_le h))
theorem nc3 {n a b:Nat} (h:1≤a):n+a - 1+b+1=n+a+b:=by
 rw [Nat.add_right_comm,Nat.sub_add_cancel (Nat.le_add_left_of_le h)]
theorem nc4 {n a b:Nat} (h:1≤b):n+b - 1+a+1=n+a+b:=(nc3 h).trans (Nat.add_right_comm ..)
theorem nlb {a b:Nat} (h:1≤b):a≤a+b - 1:=Nat.le_sub_of_add_le (Nat.add_le_add_left h a)
theorem nla {a b:Nat} (h:1≤a):b≤a+b - 1:=Nat.add_comm b a▸nlb h
theorem nlm {m a b:Nat} (h:1≤a):m+b≤m+a+b - 1:=by
 rw [Nat.add_right_comm]; exact nlb h
theorem nmx {x y k:Nat} (h1:x<k) (h2:y<k):max 0 (max x (max y 0))+1≤k :=
 Nat.max_lt.mpr ⟨Nat.zero_lt_of_lt h1,Nat.max_lt.mpr ⟨h1,Nat.max_lt.mpr ⟨h2,Nat.zero_lt_of_lt h1⟩⟩⟩
theorem nmk {x y k:Nat} (h1:x≤k) (h2:y≤k):max x y≤k:=Nat.max_le.mpr ⟨h1,h2⟩
theorem nmo {n:Nat} (h:n≤2):(5:Int) - max 1 (n:Int)=((5 - max 1 n:Nat):Int)∧5 - max 1 n≤4∧(2≤n→5 - max 1 n≤3):=by
 revert n; decide
theorem nab {a x k:Int} (h:0≤x∧x<k) (ha:0≤a:=by decide) (hk:a+k≤4611686018427387904:=by decide):(a+x).natAbs<4611686018427387904 :=
 Int.natAbs_lt_natAbs_of_nonneg_of_lt (b:=4611686018427387904) (Int.add_nonneg ha h.1) (Int.lt_of_lt_of_le (Int.add_lt_add_left h.2 a) hk)
theorem nir {x k m:Int} (h:0≤x∧x<k) (hk:k≤m+1:=by decide):0≤x∧x≤m:=⟨h.1,Int.le_of_lt_add_one (Int.lt_of_lt_of_le h.2 hk)⟩
theorem nia {a x k m:Int} (h:0≤x∧x<k) (ha:0≤a:=by decide) (hk:a+k≤m:=by decide):0≤a+x∧a+x≤m:=⟨Int.add_nonneg ha h.1,Int.le_trans (Int.add_le_add_left (Int.le_of_lt h.2) a) hk⟩
theorem nis {a x k:Int} (h:0≤x∧x<k) (ha:k≤a:=by decide):0≤a - x∧a - x≤a:=⟨Int.sub_nonneg_of_le (Int.le_trans (Int.le_of_lt h.2) ha),Int.sub_le_self a h.1⟩
theorem n4s {k:Nat} (h:k<4):k=0∨k=1∨k=2∨k=3:=by
 revert k; decide
theorem n14 {k:Nat} (h:k<5) (p:1≤k):k=1∨k=2∨k=3∨k=4:=by
 revert k; decide
theorem n24 {k:Nat} (h:k<5) (p:2≤k):k=2∨k=3∨k=4:=by
 revert k; decide
theorem nsu {n:Nat} (h:2≤n):n - 1=(n - 2).succ:=(Nat.sub_add_cancel (n:=n - 1) (Nat.le_sub_of_add_le h)).symm
theorem nst {p f u d r:Nat} (h1:r≤16) (h2:p≤4*64) (h3:d+1≤r) (h4:f≤d*64) (h5:u≤64):p+f+u<size :=
 qx (qa (qa h2 (qt h4 (Nat.mul_le_mul_right 64 (qt (qf h3) h1)))) h5)
theorem n84 {w b c P p q:Nat} (h:w≤484) (h0:1≤P) (m1:b≤484*p) (m2:c≤484*q) (q1:17*p≤P) (q2:17*q≤P):w+b+c≤484*P:=by lia
theorem n86 {w p P q:Nat} (h:w≤484) (h0:1≤P) (e:P=17*q) (r:p≤16*(484*q)):w+p≤484*P:=by lia
theorem ntr {R X B w l r k:Nat} (h:R+7*X≤B+6*(w+1)) (h1:r≤R+k) (h6:k+6≤6*l):r+7*X≤B+6*(w+l):=by lia
theorem ntn {R W v B w r:Nat} (h:R+7*(W+v)≤B+6*(w+1)) (h1:r≤R+1) (h6:1≤v):r+7*W≤B+6*w:=by lia
theorem ntb {R W v B w:Nat} (h:R+7*(W+v)≤B+6*(w+1)) (hB:B≤1000) (hw:w≤W):R+v+w≤1006:=by lia
theorem nci {a b n t:Nat} (h:a+b≤n) (hn:n≤t) (h3:t≤3) (pa:1≤a) (pb:1≤b) (h1:¬ b=1):a=1:=by lia
theorem n13 {k:Nat} (h:k<4) (p:1≤k):k=1∨k=2∨k=3:=by
 revert k; decide
theorem n4i {x:Int} (h:0≤x∧x<4):x=0∨x=1∨x=2∨x=3:=by
 obtain ⟨k,rfl⟩:=Int.eq_ofNat_of_zero_le h.1
 exact (n4s (Int.ofNat_lt.mp h.2)).imp (congrArg Nat.cast) (Or.imp (congrArg Nat.cast) (Or.imp (congrArg Nat.cast) (congrArg Nat.cast)))
theorem n2i {x:Int} (h:0≤x∧x<2):x=0∨x=1:=by
 obtain ⟨k,rfl⟩:=Int.eq_ofNat_of_zero_le h.1
 exact (Nat.le_one_iff_eq_zero_or_eq_one.mp (Nat.le_of_lt_succ (Int.ofNat_lt.mp h.2))).imp (congrArg Nat.cast) (congrArg Nat.cast)
theorem n3x {x y z:Nat} (hy:1≤y) (hz:1≤z) (h:x+(y+z)≤4):x<3:=Nat.le_of_succ_le_succ (qt (Nat.add_le_add_left (qa hy hz) x) h)
theorem n3y {x y z:Nat} (hx:1≤x) (hz:1≤z) (h:x+(y+z)≤4):y<3:=n3x hx hz (Nat.add_left_comm ..▸h)
theorem nad {a d r s:Nat} (h:a+(d+(r+1))<s):a+d+1<s:=ql (Nat.add_le_add_left (Nat.add_le_add_left (Nat.le_add_left 1 r) d) a) h
theorem nsw {a b s f:Nat} (h:1+a+b+s<f+1):b+(a+s)<f:=by
 rw [Nat.add_left_comm,← Nat.add_assoc]
 exact Nat.lt_of_add_lt_add_left (n:=1) (by rw [← Nat.add_assoc,← Nat.add_assoc,Nat.add_comm 1 f]; exact h)
theorem nmc {x y k:Nat} (h1:x≤k) (h2:y≤k):max 0 (max x (max y 0))+1≤k+1:=nmx (Nat.lt_succ_of_le h1) (Nat.lt_succ_of_le h2)
section
variable {α:Type} {x y:α} {a b l r L:List α}
theorem mh:x∈x::l:=List.mem_cons_self
theorem mt (h:x∈l):x∈y::l:=List.mem_cons_of_mem _ h
theorem ml (h:x∈l):x∈l++r:=List.mem_append_left _ h
theorem mr (h:x∈r):x∈l++r:=List.mem_append_right _ h
theorem mm (e:L=a++x::b):x∈L:=e▸mr mh
theorem mml (e:L=a++x::b) (h:y∈a):y∈L:=e▸ml h
theorem mmr (e:L=a++x::b) (h:y∈b):y∈L:=e▸mr (mt h)
theorem lm (e:L=a++x::b):L.length=a.length+(b.length+1):=e▸List.length_append
theorem lm1 (e:L=a++x::b):a.length+1≤L.length:=(lm e).symm▸Nat.add_le_add_left (Nat.le_add_left 1 _) _
end
end Pl
end
section
namespace Pl
set_option backward.match.sparseCases false
open Mini PySem
inductive Sn where
 | sum|mul|pair
 deriving DecidableEq
noncomputable def Sn.str:Sn→Str
 | .sum => "sum" | .mul => "mul" | .pair => "pair"
inductive Tm where
 | leaf (o:Bool) (n:Int)
 | node (s:Sn) (a b:Tm)
 deriving DecidableEq
noncomputable def lstr (o:Bool):Str:=if o then "open" else "name"
noncomputable def enc:Tm→D
 | .leaf o n=>.tuple [.str (lstr o),.int n]
 | .node s a b=>.tuple [.str s.str,enc a,enc b]
noncomputable def most (o:Bool):Int:=if o then 9 else 1000000000
noncomputable def ok:Tm→Prop
 | .leaf o n=>0≤n∧n≤most o
 | .node _ a b=>ok a∧ok b
noncomputable def num:Tm→Nat
 | .leaf _ _=>1
 | .node _ a b=>num a+num b
theorem zp1:((("name" : Str))==("open" : Str))=false:=by decide
theorem ne_name_sum:((("name" : Str))==("sum" : Str))=false:=by decide
theorem ne_name_mul:((("name" : Str))==("mul" : Str))=false:=by decide
theorem zp0:((("name" : Str))==("pair" : Str))=false:=by decide
theorem ne_open_name:((("open" : Str))==("name" : Str))=false:=by decide
theorem ne_open_pair:((("open" : Str))==("pair" : Str))=false:=by decide
theorem zs5:((("sum" : Str))==("name" : Str))=false:=by decide
theorem zq1:((("sum" : Str))==("open" : Str))=false:=by decide
theorem zn1:((("sum" : Str))==("pair" : Str))=false:=by decide
theorem zs6:((("mul" : Str))==("name" : Str))=false:=by decide
theorem zq2:((("mul" : Str))==("open" : Str))=false:=by decide
theorem ne_mul_sum:((("mul" : Str))==("sum" : Str))=false:=by decide
theorem zn2:((("mul" : Str))==("pair" : Str))=false:=by decide
theorem zm5:((("pair" : Str))==("name" : Str))=false:=by decide
theorem zi2:((("pair" : Str))==("open" : Str))=false:=by decide
theorem ne_pair_sum:((("pair" : Str))==("sum" : Str))=false:=by decide
theorem ne_pair_mul:((("pair" : Str))==("mul" : Str))=false:=by decide
noncomputable def zt0:I:=(.cons (.ret (.and (.cons (.isi (.var 0) "int") (.cons (.not (.isi (.var 0) "bool")) (.cons (.cmp2 .LtE .LtE (.cint 0) (.var 0) (.var 1)) .nil))))) .nil)
noncomputable def zr0:I:=(.cons (.iff (.cmp .NotEq (.prim1 .len (.var 0)) (.cint 2)) (.cons (.ret (.cbool false)) .nil) .nil) (.cons (.iff (.cmp .Eq (.idx (.var 0) (.cint 0)) (.cstr "name")) (.cons (.ret (.call "is_whole" (.cons (.idx (.var 0) (.cint 1)) (.cons (.glob "GREATEST") .nil)))) .nil) .nil) (.cons (.ret (.and (.cons (.cmp .Eq (.idx (.var 0) (.cint 0)) (.cstr "open")) (.cons (.call "is_whole" (.cons (.idx (.var 0) (.cint 1)) (.cons (.bin .Sub (.glob "OPENS") (.cint 1)) .nil))) .nil)))) .nil)))
noncomputable def ir_leaves:I:=(.cons (.asg 1 (.lst (.cons (.var 0) .nil))) (.cons (.asg 2 (.cint 0)) (.cons (.whl (.brw 1) (.cons (.asg 3 (.pop 1)) (.cons (.iff (.or (.cons (.not (.isi (.var 3) "tuple")) (.cons (.cmp .Eq (.prim1 .len (.var 3)) (.cint 0)) (.cons (.not (.isi (.idx (.var 3) (.cint 0)) "str")) .nil)))) (.cons .rais .nil) .nil) (.cons (.iff (.and (.cons (.cmp .Eq (.prim1 .len (.var 3)) (.cint 3)) (.cons (.or (.cons (.cmp .In (.idx (.var 3) (.cint 0)) (.glob "JOINS")) (.cons (.cmp .Eq (.idx (.var 3) (.cint 0)) (.cstr "pair")) .nil))) .nil))) (.cons (.app 1 (.idx (.var 3) (.cint 1))) (.cons (.app 1 (.idx (.var 3) (.cint 2))) .nil)) (.cons (.iff (.call "is_leaf" (.cons (.var 3) .nil)) (.cons (.asg 2 (.bin .Add (.var 2) (.cint 1))) .nil) (.cons .rais .nil)) .nil)) .nil)))) (.cons (.iff (.cmp .Gt (.var 2) (.glob "LEAVES")) (.cons .rais .nil) .nil) (.cons (.ret (.var 2)) .nil)))))
noncomputable def zx1:I:=(.cons (.iff (.cmp .Eq (.idx (.var 1) (.cint 0)) (.var 0)) (.cons (.ret (.prim1 .list (.slc (.var 1) (.cint 1) .omit))) .nil) .nil) (.cons (.ret (.lst (.cons (.var 1) .nil))) .nil))
noncomputable def zw8:I:=(.cons (.asg 2 (.lst .nil)) (.cons (.for1 3 (.var 1) (.cons (.ext 2 (.call "parts_in" (.cons (.var 0) (.cons (.var 3) .nil)))) .nil)) (.cons (.ret (.prim1 .tuple (.bin .Add (.lst (.cons (.var 0) .nil)) (.prim1 .sorted (.brw 2))))) .nil)))
noncomputable def zn4:I:=(.cons (.iff (.cmp .In (.idx (.var 0) (.cint 0)) (.glob "JOINS")) (.cons (.ret (.call "joined" (.cons (.idx (.var 0) (.cint 0)) (.cons (.lst (.cons (.call "shaped" (.cons (.idx (.var 0) (.cint 1)) .nil)) (.cons (.call "shaped" (.cons (.idx (.var 0) (.cint 2)) .nil)) .nil))) .nil)))) .nil) .nil) (.cons (.iff (.cmp .Eq (.idx (.var 0) (.cint 0)) (.cstr "pair")) (.cons (.ret (.tup (.cons (.cstr "pair") (.cons (.call "shaped" (.cons (.idx (.var 0) (.cint 1)) .nil)) (.cons (.call "shaped" (.cons (.idx (.var 0) (.cint 2)) .nil)) .nil))))) .nil) .nil) (.cons (.ret (.var 0)) .nil)))
noncomputable def zt9:I:=(.cons (.iff (.cmp .Lt (.var 1) (.prim1 .len (.var 0))) (.cons (.ret (.idx (.var 0) (.var 1))) .nil) .nil) (.cons (.ret (.cint 0)) .nil))
variable {Fs:Fns} {fuel:Nat}
noncomputable def glo (x:Str):Option D :=
 if x == "JOINS" then some (.tuple [.str "sum", .str "mul"]) else if x == "LEAVES" then some (.int 40) else if x == "GREATEST" then some (.int 1000000000) else if x == "OPENS" then some (.int 10) else none
theorem zw2:glo "JOINS" = some (.tuple [.str "sum", .str "mul"]):=by rfl
theorem glo_leaves:glo "LEAVES" = some (.int 40):=by rfl
theorem glo_greatest:glo "GREATEST" = some (.int 1000000000):=by rfl
theorem glo_opens:glo "OPENS" = some (.int 10):=by rfl
theorem isi_int (d:D):isiD d "int" = some (match d with|.int _=>true|.bool _=>true|_=>false):=by rfl
theorem isi_bool (d:D):isiD d "bool" = some (match d with|.bool _=>true|_=>false):=by rfl
theorem isi_str (d:D):isiD d "str" = some (match d with|.str _=>true|_=>false):=by rfl
theorem isi_tuple (d:D):isiD d "tuple" = some (match d with|.tuple _=>true|_=>false):=by rfl
theorem isi_list (d:D):isiD d "list" = some (match d with|.list _=>true|_=>false):=by rfl
noncomputable def Has (Fs:Fns) (g:Str) (fn:Fn):Prop:=Fs.lookup g=some fn
noncomputable abbrev Ga (Fs:Fns) (fuel n:Nat):Mini.Env:=mkEnv (run Fs glo fuel n) glo fuel
theorem zs3 {g:Str} {fn:Fn} {args:List D} {n:Nat} (h:Has Fs g fn) (hl:args.length=fn.params) :
  run Fs glo fuel (n+1) g args=match ex (Ga Fs fuel n) fn.body (args.map (fun d=>some (.val d))++List.replicate (fn.slots - fn.params) none) with
   | some (.ret d f)=>some (d,f)
   | some (.next _)=>some (.none,false)
   | none=>none:=by
 unfold Has at h
 show ((Fs.lookup g).bind fun fn=>if args.length=fn.params then (ex (Ga Fs fuel n) fn.body (args.map (fun d=>some (.val d))++List.replicate (fn.slots - fn.params) none)).bind fun o=>some (retO o) else none)=_
 rw [h]
 show (if args.length=fn.params then (ex (Ga Fs fuel n) fn.body (args.map (fun d=>some (.val d))++List.replicate (fn.slots - fn.params) none)).bind fun o=>some (retO o) else none)=_
 rw [if_pos hl]
 cases ex (Ga Fs fuel n) fn.body (args.map (fun d=>some (.val d))++List.replicate (fn.slots - fn.params) none) with
 | none=>rfl
 | some o=>cases o<;>rfl
theorem zw0 (i:Int):okd (.int i)=true:=by rfl
theorem zx7:okd (.str "name")=true:=by decide +kernel
theorem zv8:okd (.str "open")=true:=by decide +kernel
theorem zv9:okd (.str "sum")=true:=by decide +kernel
theorem zu5:okd (.str "mul")=true:=by decide +kernel
theorem zx0:okd (.str "pair")=true:=by decide +kernel
theorem okd_lstr (o:Bool):okd (.str (lstr o))=true:=by cases o<;>decide +kernel
theorem zu4 (s:Sn):okd (.str s.str)=true:=by cases s<;>decide +kernel
theorem zr1 (a b:Int):PyData.eqv (.int a) (.int b)=(a==b):=rfl
theorem zy1 (a b:Str):PyData.eqv (.str a) (.str b)=(a==b):=rfl
theorem run_is_whole (h:Has Fs "is_whole" ⟨2,2,zt0⟩) (n:Nat) (k m:Int):run Fs glo fuel (n+1) "is_whole" [.int k,.int m]=some (.bool (decide (0≤k)&&decide (k≤m)),false):=by
 rw [zs3 h rfl]
 by_cases h0:0≤k<;>by_cases h1:k≤m <;>
 simp [zt0,eq_ev_cmp2,zz1,c_le,isi_int,isi_bool,h0,h1]
theorem run_is_leaf (h1:Has Fs "is_whole" ⟨2,2,zt0⟩) (h2:Has Fs "is_leaf" ⟨1,1,zr0⟩) (n:Nat) {o:Bool} {k:Int} (hk:ok (.leaf o k)) :
  run Fs glo fuel (n+2) "is_leaf" [enc (.leaf o k)]=some (.bool true,false):=by
 rw [zs3 h2 rfl]
 have hw:=run_is_whole (fuel:=fuel) h1 n
 have h3:decide (0≤k)=true:=decide_eq_true hk.1
 cases o with
 | true =>
  have h4:decide (k≤9)=true:=decide_eq_true hk.2
  simp [zr0,enc,lstr,zz1,c_eq,c_ne,eqD,b_sub,zr2,zle2,↓zy2,↓zr8,zw0,zv8,zx7,zr1,zy1,ne_open_name,glo_opens,hw,h3,h4]
 | false =>
  have h4:decide (k≤1000000000)=true:=decide_eq_true hk.2
  simp [zr0,enc,lstr,zz1,c_eq,c_ne,eqD,zr2,zle2,↓zy2,↓zr8,zw0,zx7,zr1,zy1,glo_greatest,hw,h3,h4]
theorem size_three:(3:Nat)≤size:=by unfold size; decide
end Pl
end
section
namespace Pl
open Mini PySem
variable {Fs:Fns} {fuel:Nat}
noncomputable def nds:Tm→Nat
 | .leaf _ _=>1
 | .node _ a b=>1+nds a+nds b
theorem nds_num (t:Tm):nds t+1=2*num t:=by
 induction t with
 | leaf _ _=>rfl
 | node _ a b ha hb=>simp only [nds,num]; rw [Nat.mul_add,← ha,← hb,Nat.add_comm 1,Nat.add_assoc]
theorem nds_pos (t:Tm):1≤nds t:=by cases t<;>simp only [nds]<;>bv_omega
noncomputable def zv6:I:=(.cons (.asg 3 (.pop 1)) (.cons (.iff (.or (.cons (.not (.isi (.var 3) "tuple")) (.cons (.cmp .Eq (.prim1 .len (.var 3)) (.cint 0)) (.cons (.not (.isi (.idx (.var 3) (.cint 0)) "str")) .nil)))) (.cons .rais .nil) .nil) (.cons (.iff (.and (.cons (.cmp .Eq (.prim1 .len (.var 3)) (.cint 3)) (.cons (.or (.cons (.cmp .In (.idx (.var 3) (.cint 0)) (.glob "JOINS")) (.cons (.cmp .Eq (.idx (.var 3) (.cint 0)) (.cstr "pair")) .nil))) .nil))) (.cons (.app 1 (.idx (.var 3) (.cint 1))) (.cons (.app 1 (.idx (.var 3) (.cint 2))) .nil)) (.cons (.iff (.call "is_leaf" (.cons (.var 3) .nil)) (.cons (.asg 2 (.bin .Add (.var 2) (.cint 1))) .nil) (.cons .rais .nil)) .nil)) .nil)))
theorem sn_join (s:Sn):((PyData.eqv (.str "sum") (.str s.str)||PyData.eqv (.str "mul") (.str s.str))=true∧s≠.pair)∨((PyData.eqv (.str "sum") (.str s.str)||PyData.eqv (.str "mul") (.str s.str))=false∧s=.pair):=by
 cases s
 ·left; decide
 ·left; decide
 ·right; decide
theorem zo2 {test:Mini.Sg→Option (D×Mini.Sg)} {body:Mini.Sg→Option Out} {n:Nat} {σ σ' σ'':Mini.Sg} {d:D} (h1:test σ=some (d,σ')) (h2:zx5 d=some true) (h3:body σ'=some (.next σ'')):zp8 test body (n+1) σ=zp8 test body n σ'':=by
 show ((test σ).bind fun p=>(zx5 p.1).bind fun b=>bif b then (body p.2).bind (stepO (zp8 test body n)) else some (.next p.2))=_
 rw [h1]
 show ((zx5 d).bind fun b=>bif b then (body σ').bind (stepO (zp8 test body n)) else some (.next σ'))=_
 rw [h2]
 show (body σ').bind (stepO (zp8 test body n))=_
 rw [h3]; rfl
theorem zk5 {test:Mini.Sg→Option (D×Mini.Sg)} {body:Mini.Sg→Option Out} {n:Nat} {σ σ':Mini.Sg} {d:D} (h1:test σ=some (d,σ')) (h2:zx5 d=some false):zp8 test body (n+1) σ=some (.next σ'):=by
 show ((test σ).bind fun p=>(zx5 p.1).bind fun b=>bif b then (body p.2).bind (stepO (zp8 test body n)) else some (.next p.2))=_
 rw [h1]
 show ((zx5 d).bind fun b=>bif b then (body σ').bind (stepO (zp8 test body n)) else some (.next σ'))=_
 rw [h2]; rfl
theorem for_next {bnd:D→Mini.Sg→Option Mini.Sg} {body:Mini.Sg→Option Out} {d:D} {r:List D} {σ σ1 σ2:Mini.Sg} (h1:bnd d σ=some σ1) (h2:body σ1=some (.next σ2)):forN bnd body (d::r) σ=forN bnd body r σ2:=by
 show ((bnd d σ).bind fun σ'=>(body σ').bind (stepO (forN bnd body r)))=_
 rw [h1]
 show (body σ1).bind (stepO (forN bnd body r))=_
 rw [h2]; rfl
theorem zz0 {Γ:Mini.Env} {a b:I} {σ σ':Mini.Sg} (h:ex Γ a σ=some (.next σ')):ex Γ (.cons a b) σ=ex Γ b σ':=by rw [zz1,h]; rfl
theorem zy0 {Γ:Mini.Env} {a b:I} {σ:Mini.Sg} {d:D} {f:Bool} (h:ex Γ a σ=some (.ret d f)):ex Γ (.cons a b) σ=some (.ret d f):=by rw [zz1,h]; rfl
theorem leaves_leaf (h1:Has Fs "is_whole" ⟨2,2,zt0⟩) (h2:Has Fs "is_leaf" ⟨1,1,zr0⟩) (n:Nat) (t0:D) (l:List D) (o:Bool) (k:Int) (c:Int) (x:Option AV) (hk:ok (.leaf o k)) :
  ex (Ga Fs fuel (n+2)) zv6 [some (.val t0),some (.own (.list (l++[enc (.leaf o k)]))),some (.val (.int c)),x]=some (.next [some (.val t0),some (.own (.list l)),some (.val (.int (c+1))),some (.val (enc (.leaf o k)))]):=by
 have hl':run Fs glo fuel (n+2) "is_leaf" [.tuple [.str (lstr o),.int k]]=some (.bool true,false):=run_is_leaf (fuel:=fuel) h1 h2 n hk
 simp [zv6,enc,zz1,c_eq,eqD,↓b_add,zr2,zle2,↓zy2,zw0,zr1,isi_tuple,isi_str,hl']
theorem in_joins {s:Sn} (h:s≠.pair):inD (.str s.str) (.tuple [.str "sum", .str "mul"])=some true:=by
 have ho:okd (.str s.str)=true:=zu4 s
 rcases sn_join s with q|q
 ·have e:([PyData.str "sum", .str "mul"].any fun y=>PyData.eqv y (.str s.str))=true:=by simpa using q.1
  simp only [zin2,ho,List.all_cons,List.all_nil,zv9,zu5,Bool.and_self,if_true,e]
 ·exact absurd q.2 h
theorem in_joins_pair:inD (.str "pair") (.tuple [.str "sum", .str "mul"])=some false:=by
 simp [zin2,zv9,zu5,zx0,zy1,zn1,zn2]
theorem leaves_node (n:Nat) (t0:D) (l:List D) (s:Sn) (a b:Tm) (c:Int) (x:Option AV) (hz0:l.length+2<size) :
  ex (Ga Fs fuel (n+2)) zv6 [some (.val t0),some (.own (.list (l++[enc (.node s a b)]))),some (.val (.int c)),x]=some (.next [some (.val t0),some (.own (.list (l++[enc a,enc b]))),some (.val (.int c)),some (.val (enc (.node s a b)))]):=by
 have hz'':l.length+1<size:=by exact Nat.lt_of_succ_lt hz0
 have hz:l.length+1+1<size:=by exact hz0
 have hor:ev (Ga Fs fuel (n+2)) (.or (.cons (.cmp .In (.idx (.var 3) (.cint 0)) (.glob "JOINS")) (.cons (.cmp .Eq (.idx (.var 3) (.cint 0)) (.cstr "pair")) .nil))) [some (.val t0),some (.own (.list l)),some (.val (.int c)),some (.val (.tuple [.str s.str,enc a,enc b]))]=some (.bool true,false,[some (.val t0),some (.own (.list l)),some (.val (.int c)),some (.val (.tuple [.str s.str,enc a,enc b]))]):=by
  by_cases hs:s=.pair
  ·subst hs
   simp [c_eq,c_in,eqD,↓zy2,Sn.str,in_joins_pair,zx0,zy1,zw2]
  ·simp [c_in,↓zy2,in_joins hs,zw2]
 rw [zv6,zz0 (σ':=[some (.val t0),some (.own (.list l)),some (.val (.int c)),some (.val (.tuple [.str s.str,enc a,enc b]))]) (by simp [enc]),
  zz0 (σ':=[some (.val t0),some (.own (.list l)),some (.val (.int c)),some (.val (.tuple [.str s.str,enc a,enc b]))]) (by simp [c_eq,eqD,zr2,zle2,↓zy2,zw0,zr1,isi_tuple,isi_str])]
 have hc:uno (.and (.cons (.cmp .Eq (.prim1 .len (.var 3)) (.cint 3)) (.cons (.or (.cons (.cmp .In (.idx (.var 3) (.cint 0)) (.glob "JOINS")) (.cons (.cmp .Eq (.idx (.var 3) (.cint 0)) (.cstr "pair")) .nil))) .nil))) (ev (Ga Fs fuel (n+2)) (.and (.cons (.cmp .Eq (.prim1 .len (.var 3)) (.cint 3)) (.cons (.or (.cons (.cmp .In (.idx (.var 3) (.cint 0)) (.glob "JOINS")) (.cons (.cmp .Eq (.idx (.var 3) (.cint 0)) (.cstr "pair")) .nil))) .nil)))) [some (.val t0),some (.own (.list l)),some (.val (.int c)),some (.val (.tuple [.str s.str,enc a,enc b]))]=some (.bool true,[some (.val t0),some (.own (.list l)),some (.val (.int c)),some (.val (.tuple [.str s.str,enc a,enc b]))]):=by
  simp [eq_ev_cmp,zm2,eq_ev_and,eq_evAnd_more,eq_evAnd_last,uno,duo,zr2,zle2,cmpD,eqD,zw0,zr1,hor]
 rw [zz0 (σ':=[some (.val t0),some (.own (.list (l++[enc a,enc b]))),some (.val (.int c)),some (.val (.tuple [.str s.str,enc a,enc b]))])]
 ·rfl
 ·rw [zz6,hc]
  simp [zz1,↓zr8,↓ix_t2,hz,hz'']
theorem leaves_loop (h1:Has Fs "is_whole" ⟨2,2,zt0⟩) (h2:Has Fs "is_leaf" ⟨1,1,zr0⟩) (n:Nat) (t0:D):∀ (f:Nat) (ts:List Tm) (c:Int) (x:Option AV),(∀ t∈ts,ok t)→(ts.map nds).sum<f→ts.length+(ts.map nds).sum≤10000 →
  ∃ y,zp8 (uno (.brw 1) (ev (Ga Fs fuel (n+2)) (.brw 1))) (ex (Ga Fs fuel (n+2)) zv6) f [some (.val t0),some (.own (.list (ts.reverse.map enc))),some (.val (.int c)),x] =
   some (.next [some (.val t0),some (.own (.list [])),some (.val (.int (c+(ts.map num).sum))),y])
 | 0,_,_,_,_,h,_=>absurd h (Nat.not_lt_zero _)
 | f+1,[],c,x,_,_,_=>⟨x,by
  rw [zk5 (d:=.list []) (σ':=[some (.val t0),some (.own (.list [])),some (.val (.int c)),x])]
  ·simp
  ·simp [uno]
  ·rfl⟩
 | f+1,t::r,c,x,hok,hf,hz=>by
  have ht:uno (.brw 1) (ev (Ga Fs fuel (n+2)) (.brw 1)) [some (.val t0),some (.own (.list (((t::r).reverse).map enc))),some (.val (.int c)),x]=some (.list (r.reverse.map enc++[enc t]),[some (.val t0),some (.own (.list (r.reverse.map enc++[enc t]))),some (.val (.int c)),x]):=by
   simp [uno]
  have hd:zx5 (.list (r.reverse.map enc++[enc t]))=some true:=by simp [ztr2]
  cases t with
  | leaf o k =>
   obtain ⟨y,ih⟩:=leaves_loop h1 h2 n t0 f r (c+1) (some (.val (enc (.leaf o k)))) (fun t ht=>hok t (List.mem_cons_of_mem _ ht)) (by simp [nds] at hf; exact Nat.lt_of_add_lt_add_left (n:=1) (Nat.add_comm 1 f▸hf)) (by simp [nds] at hz; exact qt (qa (Nat.le_add_right ..) (Nat.le_add_left ..)) hz)
   refine ⟨y,?_⟩
   have e:c+1+((r.map num).sum:Int)=c+(((Tm.leaf o k::r).map num).sum:Nat):=by simp [num]; bv_omega
   rw [e] at ih
   rw [zo2 ht hd (leaves_leaf h1 h2 n t0 _ o k c x (hok _ List.mem_cons_self)),ih]
  | node s a b =>
   have hok':=hok _ List.mem_cons_self
   obtain ⟨y,ih⟩:=leaves_loop h1 h2 n t0 f (b::a::r) c (some (.val (enc (.node s a b)))) (fun t ht=>by
    rcases List.mem_cons.mp ht with rfl|ht
    ·exact hok'.2
    ·rcases List.mem_cons.mp ht with rfl|ht
     ·exact hok'.1
     ·exact hok t (List.mem_cons_of_mem _ ht)) (by simp [nds] at hf ⊢; exact nsw hf) (by simp [nds] at hz ⊢; bv_omega)
   refine ⟨y,?_⟩
   have e:c+(((b::a::r).map num).sum:Nat)=c+(((Tm.node s a b::r).map num).sum:Nat):=by simp [num]; bv_omega
   rw [e] at ih
   rw [zo2 ht hd (leaves_node n t0 _ s a b c x (by simp at hz ⊢; unfold size; exact qx (Nat.succ_le_succ (qf hz))))]
   have e2:List.map enc (b::a::r).reverse=List.map enc r.reverse++[enc a,enc b]:=by simp
   rw [e2] at ih
   exact ih
theorem run_leaves (h1:Has Fs "is_whole" ⟨2,2,zt0⟩) (h2:Has Fs "is_leaf" ⟨1,1,zr0⟩) (h3:Has Fs "leaves" ⟨1,4,ir_leaves⟩) (n:Nat) {t:Tm} (hk:ok t) (hn:num t≤40) (hf:100≤fuel) :
  run Fs glo fuel (n+3) "leaves" [enc t]=some (.int (num t),false):=by
 rw [zs3 h3 rfl]
 have hnd:=nds_num t
 obtain ⟨y,hl⟩:=leaves_loop (fuel:=fuel) h1 h2 n (enc t) fuel [t] 0 none (by simpa using hk) (by simp; exact Nat.lt_of_lt_of_le (qt (Nat.le_of_eq hnd) (Nat.mul_le_mul_left 2 hn)) (qt (by decide) hf)) (by simp; bv_omega)
 have hgt:¬ ((40:Int)<(num t:Int)):=by bv_omega
 have hz:(1:Nat)≤size:=by unfold size; decide
 simp only [List.map_cons,List.map_nil,List.sum_cons,List.sum_nil,List.reverse_cons,List.reverse_nil,List.nil_append,Nat.add_zero,Int.zero_add] at hl
 have hl':ex (Ga Fs fuel (n+2)) (.whl (.brw 1) zv6) [some (.val (enc t)),some (.own (.list [enc t])),some (.val (.int 0)),none]=some (.next [some (.val (enc t)),some (.own (.list [])),some (.val (.int (num t))),y]):=by
  rw [eq_ex_whl]; exact hl
 have e:ir_leaves=.cons (.asg 1 (.lst (.cons (.var 0) .nil))) (.cons (.asg 2 (.cint 0)) (.cons (.whl (.brw 1) zv6) (.cons (.iff (.cmp .Gt (.var 2) (.glob "LEAVES")) (.cons .rais .nil) .nil) (.cons (.ret (.var 2)) .nil)))):=rfl
 rw [e]
 show (match ex (Ga Fs fuel (n+2)) (.cons _ _) [some (.val (enc t)),none,none,none] with|some (.ret d f)=>some (d,f)|some (.next _)=>some (.none,false)|none=>none)=_
 rw [zz0 (σ':=[some (.val (enc t)),some (.own (.list [enc t])),none,none]) (by simp [↓mkL1]),
  zz0 (σ':=[some (.val (enc t)),some (.own (.list [enc t])),some (.val (.int 0)),none]) (by simp),
  zz0 hl',zz0 (σ':=[some (.val (enc t)),some (.own (.list [])),some (.val (.int (num t))),y]) (by simp [c_gt,glo_leaves,hgt]),
  zy0 (d:=.int (num t)) (f:=false) (by simp)]
end Pl
end
section
namespace Pl
open Mini PySem
theorem zu0 {l:List D} (h:∀ x∈l,zz5 x=true):zt7 l=true:=by
 induction l with
 | nil=>rfl
 | cons x r ih=>simp [zt7,h x mh,ih fun y hy=>h y (mt hy)]
theorem canAll_of {l:List D} (h:∀ x∈l,PyData.canLay0 x=true):PyData.canLayAll0 l=true:=by
 induction l with
 | nil=>rfl
 | cons x r ih=>simp [PyData.canLayAll0,h x mh,ih fun y hy=>h y (mt hy)]
theorem can_str {x:Str} (h:okd (.str x)=true):PyData.canLay0 (.str x)=true:=by
 simp only [okd,Bool.and_eq_true] at h; exact h.1
theorem zj1 {k:Nat} {l:List D} (h:∀ x∈l,PyData.depth x≤k):PyData.depthAll l≤k:=by
 induction l with
 | nil=>simp [PyData.depthAll]
 | cons x r ih=>simp only [PyData.depthAll]; have:=h x mh; have:=ih fun y hy=>h y (mt hy); exact nmk ‹_› ‹_›
theorem zo6 {s s':Sn} (h:s.str=s'.str):s=s':=by
 cases s<;>cases s'<;>first|rfl|(exact absurd h (by decide))
theorem zx4 (o:Bool) (s:Sn):lstr o≠s.str:=by
 cases o<;>cases s<;>decide
theorem zm7 (o:Bool):lstr o ≠ "pair" := zx4 o .pair
theorem zs8 {s:Sn} (h:s≠.pair):s.str ≠ "pair" := fun e=>h (zo6 (s':=.pair) e)
theorem zw3 (t:Tm):1≤num t:=by induction t<;>simp only [num]<;>bv_omega
end Pl
end
section
namespace Pl
open Mini PySem
noncomputable def parts (s:Sn) (d:D):List D:=match d with
 | .tuple (.str x::r)=>if x==s.str then r else [d]
 | _=>[d]
noncomputable def shp:Tm→D
 | .leaf o n=>enc (.leaf o n)
 | .node s a b=>if s=.pair then .tuple [.str "pair", shp a,shp b] else .tuple (.str s.str::zx6 (parts s (shp a)++parts s (shp b)))
inductive Shp:Nat→D→Prop
 | leaf (k:Nat) (o:Bool) (n:Int):Shp (k+1) (.tuple [.str (lstr o),.int n])
 | pair {k:Nat} {a b:D}:Shp k a→Shp k b→Shp (k+1) (.tuple [.str "pair", a,b])
 | join {k:Nat} {s:Sn} {l:List D}:s≠.pair→l.length≤k+1→(∀ x∈l,Shp k x)→Shp (k+1) (.tuple (.str s.str::l))
theorem Shp.mono {k:Nat} {d:D} (h:Shp k d):∀ {j:Nat},k≤j→Shp j d:=by
 induction h with
 | leaf k o n=>intro j hj; obtain ⟨j,rfl⟩:∃ i,j=i+1:=⟨j - 1,by exact (Nat.sub_add_cancel (qr hj)).symm⟩; exact .leaf j o n
 | pair _ _ iha ihb=>intro j hj; obtain ⟨j,rfl⟩:∃ i,j=i+1:=⟨j - 1,by exact (Nat.sub_add_cancel (qr hj)).symm⟩; exact .pair (iha (by bv_omega)) (ihb (by bv_omega))
 | join hs hl _ ih=>intro j hj; obtain ⟨j,rfl⟩:∃ i,j=i+1:=⟨j - 1,by exact (Nat.sub_add_cancel (qr hj)).symm⟩; exact .join hs (by bv_omega) fun x hx=>ih x hx (by bv_omega)
theorem Shp.plain {k:Nat} {d:D} (h:Shp k d):zz5 d=true:=by
 induction h with
 | leaf k o n=>rfl
 | pair _ _ iha ihb=>simp [zz5,zt7,iha,ihb]
 | join hs _ _ ih=>simp [zz5,zt7,zu0 ih]
theorem Shp.lay {k:Nat} {d:D} (h:Shp k d):d.canLay0=true:=by
 induction h with
 | leaf k o n=>simp [PyData.canLay0,PyData.canLayAll0]; have:=can_str (okd_lstr o); simpa [PyData.canLay0] using this
 | pair _ _ iha ihb=>simp [PyData.canLay0,PyData.canLayAll0,iha,ihb]; have:=can_str zx0; simpa [PyData.canLay0] using this
 | @join k s l hs _ _ ih=>simp [PyData.canLay0,PyData.canLayAll0,canAll_of ih]; have:=can_str (zu4 s); simpa [PyData.canLay0] using this
theorem Shp.dep {k:Nat} {d:D} (h:Shp k d):d.depth≤k:=by
 induction h with
 | leaf k o n=>simp [PyData.depth,PyData.depthAll]
 | pair _ _ iha ihb=>simp only [PyData.depth,PyData.depthAll]; exact nmc iha ihb
 | @join k s l hs _ _ ih=>have:=zj1 ih; simp only [PyData.depth,PyData.depthAll]; exact Nat.succ_le_succ (nmk (Nat.zero_le _) this)
theorem Shp.okd {k:Nat} {d:D} (h:Shp k d) (hk:k≤1000):okd d=true:=by
 have:=h.dep
 simp only [Mini.okd,h.lay,Bool.true_and,decide_eq_true_eq]; exact qt this hk
theorem ltL_str (x y:Str) (l r:List D):ltL (.str x::l) (.str y::r)=if x=y then ltL l r else some (decide (x.cps.toList<y.cps.toList)):=by
 simp only [ltL,zy1,beq_iff_eq,lt_ss]
theorem ltL_some:∀ {l r:List D},(∀ x∈l,∀ y∈r,(ltD x y).isSome=true)→(ltL l r).isSome=true
 | [],[],_=>rfl
 | [],_::_,_=>rfl
 | _::_,[],_=>rfl
 | x::l,y::r,h=>by
  simp only [ltL]
  split
  ·exact ltL_some fun a ha b hb=>h a (mt ha) b (mt hb)
  ·exact h x mh y mh
set_option tactic.hygienic true in
theorem Shp.lt_some {k:Nat} {a:D} (h:Shp k a):∀ {j:Nat} {b:D},Shp j b→(ltD a b).isSome=true:=by
 induction h with
 | leaf k o n =>
  intro j b hb
  cases hb<;>simp only [lt_tt,ltL_str]<;>split<;>first|rfl|skip
  ·exact ltL_some (by simp [zj7])
  ·rename_i e; exact absurd e (zm7 _)
  ·rename_i e; exact absurd e (zx4 _ _)
 | pair _ _ iha ihb =>
  intro j b hb
  cases hb<;>simp only [lt_tt,ltL_str]<;>split<;>first|rfl|skip
  ·rename_i e; exact absurd e.symm (zm7 _)
  ·rename_i h1 h2 _
   exact ltL_some (by simp [iha h1,iha h2,ihb h1,ihb h2])
  ·rename_i hs _ _ e; exact absurd e.symm (zs8 hs)
 | join hs _ _ ih =>
  intro j b hb
  cases hb<;>simp only [lt_tt,ltL_str]<;>split<;>first|rfl|skip
  ·rename_i e; exact absurd e.symm (zx4 _ _)
  ·rename_i e; exact absurd e (zs8 hs)
  ·rename_i hl _
   exact ltL_some fun x hx y hy=>ih x hx (hl y hy)
theorem Shp.tup {k:Nat} {d:D} (h:Shp k d):tupStr d=true:=by cases h<;>rfl
theorem cmp_shp {k:Nat} {l:List D} (h:∀ x∈l,Shp k x):Cmp l:=⟨fun a ha=>(h a ha).plain,fun a ha b hb=>(h a ha).lt_some (h b hb)⟩
theorem sortable_shp {k:Nat} {l:List D} (h:∀ x∈l,Shp k x) (hk:k≤1000):sortable l=true:=by
 simp only [sortable,Bool.and_eq_true,List.all_eq_true,Bool.or_eq_true]
 exact ⟨⟨⟨fun x hx=>(h x hx).okd hk,fun x hx=>(h x hx).plain⟩,.inl (.inr fun x hx=>(h x hx).tup)⟩,fun a ha b hb=>(h a ha).lt_some (h b hb)⟩
theorem sortD_shp {k:Nat} {l:List D} (h:∀ x∈l,Shp k x) (hk:k≤1000) (hl:l.length<64):sortD l=some (.list (zx6 l),true):=by
 simp [sortD,sortable_shp h hk,hl]
theorem zl9 (s:Sn) (o:Bool) (n:Int):parts s (.tuple [.str (lstr o),.int n])=[.tuple [.str (lstr o),.int n]]:=by
 simp [parts,zx4]
theorem zo7 {s:Sn} (h:s≠.pair) (a b:D):parts s (.tuple [.str "pair", a,b])=[.tuple [.str "pair", a,b]]:=by
 simp [parts,(zs8 h).symm]
theorem zt4 (s:Sn) (l:List D):parts s (.tuple (.str s.str::l))=l:=by simp [parts]
theorem zq0 {s s':Sn} (h:s'≠s) (l:List D):parts s (.tuple (.str s'.str::l))=[.tuple (.str s'.str::l)]:=by
 simp [parts,show ¬ s'.str=s.str from fun e=>h (zo6 e)]
theorem parts_shp {k:Nat} {s:Sn} (hs:s≠.pair) {d:D} (h:Shp k d):∀ x∈parts s d,Shp k x:=by
 cases h with
 | leaf k o n=>intro x hx; rw [zl9] at hx; simp at hx; subst hx; exact .leaf _ _ _
 | pair ha hb=>intro x hx; rw [zo7 hs] at hx; simp at hx; subst hx; exact .pair ha hb
 | @join k s' l hs' hll hl =>
  intro x hx
  by_cases e:s'=s
  ·subst e; rw [zt4] at hx; exact (hl x hx).mono (by bv_omega)
  ·rw [zq0 e] at hx; simp at hx; subst hx; exact .join hs' hll hl
theorem zh3 (a b:Tm):shp (.node .pair a b)=.tuple [.str "pair", shp a,shp b]:=by simp [shp]
theorem shp_join {s:Sn} (hs:s≠.pair) (a b:Tm):shp (.node s a b)=.tuple (.str s.str::zx6 (parts s (shp a)++parts s (shp b))):=by simp [shp,hs]
theorem zl8 {s:Sn} (hs:s≠.pair) (t:Tm):(parts s (shp t)).length≤num t:=by
 induction t with
 | leaf o n=>rw [show shp (.leaf o n)=.tuple [.str (lstr o),.int n] from rfl,zl9]; simp [num]
 | node s' a b iha ihb =>
  have ha:=zw3 (.node s' a b)
  by_cases hp:s'=.pair
  ·subst hp; rw [zh3,zo7 hs]; exact ha
  ·rw [shp_join hp]
   by_cases e:s'=s
   ·subst e; rw [zt4,(zz2 _).length_eq,List.length_append]; simp only [num]; exact qa iha ihb
   ·rw [zq0 e]; exact ha
theorem shp_ok (t:Tm):Shp (num t) (shp t):=by
 induction t with
 | leaf o n=>exact .leaf 0 o n
 | node s a b iha ihb =>
  have ha:=zw3 a
  have hb:=zw3 b
  have iha':Shp (num a+num b - 1) (shp a):=iha.mono (by exact nlb hb)
  have ihb':Shp (num a+num b - 1) (shp b):=ihb.mono (by exact nla ha)
  have e:num (.node s a b)=num a+num b - 1+1:=by simp only [num]; exact (nc1 ha).symm
  rw [e]
  by_cases hs:s=.pair
  ·subst hs; rw [zh3]; exact .pair iha' ihb'
  ·rw [shp_join hs]
   have pa:=zl8 hs a
   have pb:=zl8 hs b
   refine .join hs (by rw [(zz2 _).length_eq,List.length_append]; exact qt (qa pa pb) (Nat.le_of_eq (nc1 ha).symm)) fun x hx=>?_
   have hx':=(zz2 _).mem_iff.mp hx
   rcases List.mem_append.mp hx' with q|q
   ·exact parts_shp hs iha' x q
   ·exact parts_shp hs ihb' x q
noncomputable def under (s:Sn) (a b:Tm):List D:=parts s (shp a)++parts s (shp b)
theorem under_len {s:Sn} (hs:s≠.pair) (a b:Tm):(under s a b).length≤num a+num b:=by
 have:=zl8 hs a
 have:=zl8 hs b
 simp only [under,List.length_append]; exact qa ‹_› this
end Pl
end
section
namespace Pl
open Mini PySem
variable {Fs:Fns} {fuel:Nat}
theorem Shp.head {k:Nat} {d:D} (h:Shp k d):∃ x r,d=.tuple (.str x::r)∧Mini.okd (.str x)=true:=by
 cases h with
 | leaf k o n=>exact ⟨_,_,rfl,okd_lstr o⟩
 | pair _ _=>exact ⟨_,_,rfl,zx0⟩
 | join _ _ _=>exact ⟨_,_,rfl,zu4 _⟩
theorem zq8 (h:Has Fs "parts_in" ⟨2,2,zx1⟩) (n:Nat) (s:Sn) {k:Nat} {d:D} (hd:Shp k d) :
  run Fs glo fuel (n+1) "parts_in" [.str s.str,d]=some (.list (parts s d),true):=by
 rw [zs3 h rfl]
 (refine elEEA (hd.head) fun x r e_2 hx=>?_; subst e_2)
 have hr:(1:Int)≤(r.length:Int)+1:=by bv_omega
 by_cases e:x=s.str
 ·subst e
  simp [zx1,parts,zw9,zz1,c_eq,eqD,p_lst,zse2,↓zy2,bE_o,bE_c,zsl2,bD_,orS,zu4,zy1,hr]
 ·have e':(x==s.str)=false:=by simpa using e
  simp [zx1,parts,zz1,c_eq,eqD,↓mkL1,↓zy2,zu4,zy1,hx,e']
theorem run_joined (h:Has Fs "parts_in" ⟨2,2,zx1⟩) (h2:Has Fs "joined" ⟨2,4,zw8⟩) (n:Nat) (s:Sn) (hs:s≠.pair) {k:Nat} {a b:D} (ha:Shp k a) (hb:Shp k b) (hk:k≤1000) (hl:(parts s a++parts s b).length<64) :
  run Fs glo fuel (n+2) "joined" [.str s.str,.list [a,b]]=some (.tuple (.str s.str::zx6 (parts s a++parts s b)),false):=by
 rw [zs3 h2 rfl]
 have ea:=zq8 (fuel:=fuel) h n s ha
 have eb:=zq8 (fuel:=fuel) h n s hb
 have hsz:∀ m,m<64→m<size:=fun m hm=>by unfold size; exact Nat.lt_trans hm (by decide)
 have hla:(parts s a).length<size:=hsz _ (by simp at hl; exact qg hl)
 have hlb:(parts s a).length+(parts s b).length<size:=hsz _ (by simpa using hl)
 have hso:sortD (parts s a++parts s b)=some (.list (zx6 (parts s a++parts s b)),true):=sortD_shp (k:=k) (fun x hx=>by
  rcases List.mem_append.mp hx with q|q
  ·exact parts_shp hs ha x q
  ·exact parts_shp hs hb x q) hk hl
 have hlc:(zx6 (parts s a++parts s b)).length+1≤size:=by rw [(zz2 _).length_eq]; unfold size; exact qy hl
 have hlc':1+(zx6 (parts s a++parts s b)).length≤size:=by bv_omega
 simp [zw8,forN,zu2,zz1,b_ad,zad1,↓mkL0,↓mkL1,mkL_,p_tup,p_srt,zso1,zse1,zex1,zit1,r_srt,ea,eb,hla,hlb,hso,hlc]
theorem run_shaped (h:Has Fs "parts_in" ⟨2,2,zx1⟩) (h2:Has Fs "joined" ⟨2,4,zw8⟩) (h3:Has Fs "shaped" ⟨1,1,zn4⟩) :
  ∀ (t:Tm) (n:Nat),num t≤40→run Fs glo fuel (n+num t+2) "shaped" [enc t]=some (shp t,false)
 | .leaf o k,n,_=>by
  rw [zs3 h3 rfl]
  cases o <;>
  simp [zn4,shp,enc,lstr,zz1,c_eq,c_in,eqD,zin2,↓zy2,zv8,zx7,zv9,zu5,zx0,zy1,zw2,zp0,ne_open_pair,zs5,zs6,zq1,zq2]
 | .node s a b,n,hn=>by
  have pa:=zw3 a
  have pb:=zw3 b
  have hn':num a+num b≤40:=hn
  obtain ⟨j,hj⟩:∃ j,n+num (.node s a b)+2=j+num a+2+1:=⟨n+num b - 1,by simp only [num]; exact congrArg (·+2) ((Nat.add_assoc ..).symm.trans (nc4 pb).symm)⟩
  obtain ⟨i,hi⟩:∃ i,j+num a+2=i+num b+2:=⟨n+num a - 1,by simp only [num] at hj; exact Nat.succ.inj (hj.symm.trans (congrArg (·+2) ((Nat.add_assoc ..).symm.trans (nc3 pa).symm)))⟩
  have ea:=run_shaped h h2 h3 a j (by exact qf hn')
  have eb:=run_shaped h h2 h3 b i (by bv_omega)
  rw [← hi] at eb
  rw [hj,zs3 h3 rfl]
  by_cases hs:s=.pair
  ·subst hs
   simp [zn4,shp,enc,Sn.str,zz1,c_eq,c_in,eqD,zin2,↓mkT3,↓zy2,↓zr8,↓ix_t2,zv9,zu5,zx0,zy1,zw2,zn1,zn2,ea,eb]
  ·have hju:=run_joined (fuel:=fuel) h h2 (j+num a) s hs (k:=40) ((shp_ok a).mono (by bv_omega)) ((shp_ok b).mono (by bv_omega)) (by bv_omega) (by have:=under_len hs a b; simp only [under] at this; exact qx (qt this hn'))
   have hin:(PyData.eqv (.str "sum") (.str s.str)||PyData.eqv (.str "mul") (.str s.str))=true:=by
    rcases sn_join s with q|q
    ·exact q.1
    ·exact absurd q.2 hs
   have hin2:((("sum" : Str)==s.str)||(("mul" : Str)==s.str))=true:=hin
   simp [zn4,shp,hs,enc,zz1,c_in,zin2,↓mkL2,↓zy2,↓zr8,↓ix_t2,zv9,zu5,zu4,zw2,ea,eb,hin,hju]
end Pl
end
section
namespace Pl
open Mini PySem
mutual
noncomputable def lv:D→Nat
 | .int _=>1
 | .tuple l=>lvL l
 | _=>0
noncomputable def lvL:List D→Nat
 | []=>0
 | x::r=>lv x+lvL r
end
theorem zz8:∀ (a b:List D),lvL (a++b)=lvL a+lvL b
 | [],b=>by simp [lvL]
 | x::a,b=>by simp only [List.cons_append,lvL,zz8 a b]; bv_omega
theorem zm6 {a b:List D} (h:a.Perm b):lvL a=lvL b:=by
 induction h with
 | nil=>rfl
 | cons x _ ih=>simp only [lvL,ih]
 | swap x y l=>simp only [lvL]; bv_omega
 | trans _ _ i j=>exact i.trans j
theorem lvL_mem {x:D} {l:List D} (h:x∈l):lv x≤lvL l:=by
 induction l with
 | nil=>cases h
 | cons y r ih =>
  simp only [lvL]
  rcases List.mem_cons.mp h with rfl|h
  ·bv_omega
  ·have:=ih h; bv_omega
theorem zn3 {a b:List D} (h:a.Sublist b):lvL a≤lvL b:=by
 induction h with
 | slnil=>exact Nat.le_refl _
 | cons _ _ ih=>simp only [lvL]; bv_omega
 | cons_cons _ _ ih=>simp only [lvL]; bv_omega
inductive Can:Nat→D→Prop
 | leaf (k:Nat) (o:Bool) (n:Int):Can (k+1) (.tuple [.str (lstr o),.int n])
 | pair {k:Nat} {a b:D}:Can k a→Can k b→Can (k+1) (.tuple [.str "pair", a,b])
 | join {k:Nat} {s:Sn} {l:List D}:s≠.pair→2≤l.length→l.length≤20→(∀ x∈l,Can k x)→(∀ x∈l,parts s x=[x])→l.Pairwise leD→Can (k+1) (.tuple (.str s.str::l))
theorem Can.mono {k:Nat} {d:D} (h:Can k d):∀ {j:Nat},k≤j→Can j d:=by
 induction h with
 | leaf k o n=>intro j hj; obtain ⟨j,rfl⟩:∃ i,j=i+1:=⟨j - 1,by exact (Nat.sub_add_cancel (qr hj)).symm⟩; exact .leaf j o n
 | pair _ _ iha ihb=>intro j hj; obtain ⟨j,rfl⟩:∃ i,j=i+1:=⟨j - 1,by exact (Nat.sub_add_cancel (qr hj)).symm⟩; exact .pair (iha (by bv_omega)) (ihb (by bv_omega))
 | join hs h2 hl _ hp hw ih=>intro j hj; obtain ⟨j,rfl⟩:∃ i,j=i+1:=⟨j - 1,by exact (Nat.sub_add_cancel (qr hj)).symm⟩; exact .join hs h2 hl (fun x hx=>ih x hx (by bv_omega)) hp hw
theorem Can.shp {k:Nat} {d:D} (h:Can k d):Shp (k+20) d:=by
 induction h with
 | leaf k o n=>exact (Shp.leaf (k+20) o n).mono (by bv_omega)
 | pair _ _ iha ihb=>exact (Shp.pair iha ihb).mono (by bv_omega)
 | join hs _ hl _ _ _ ih=>exact (Shp.join hs (by bv_omega) ih).mono (by bv_omega)
theorem levL_of {k:Nat} {l:List D} (h:∀ x∈l,lev x≤k):levL l≤k:=by
 induction l with
 | nil=>simp [levL]
 | cons x r ih=>have:=ih fun y hy=>h y (mt hy); have:=h x mh; simp only [levL]; exact nmk ‹_› ‹_›
theorem Can.lev {k:Nat} {d:D} (h:Can k d):lev d≤k:=by
 induction h with
 | leaf k o n=>simp [Mini.lev,levL]
 | pair _ _ iha ihb=>simp only [Mini.lev,levL]; exact nmc iha ihb
 | join hs _ _ _ _ _ ih=>have:=levL_of ih; simp only [Mini.lev,levL]; bv_omega
theorem Can.lv_pos {k:Nat} {d:D} (h:Can k d):1≤lv d:=by
 induction h with
 | leaf k o n=>simp [lv,lvL]
 | pair _ _ iha ihb=>simp only [lv,lvL]; bv_omega
 | @join k s l hs h2 _ _ _ _ ih =>
  cases l with
  | nil=>simp at h2
  | cons x r=>have:=ih x mh; simp only [lv,lvL]; exact qt (Nat.le_add_right_of_le this) (Nat.le_add_left ..)
theorem Can.okd {k:Nat} {d:D} (h:Can k d) (hk:k≤100):Mini.okd d=true:=h.shp.okd (by exact qy (Nat.add_le_add_right hk 20))
theorem Can.plain {k:Nat} {d:D} (h:Can k d):zz5 d=true:=h.shp.plain
theorem zp7 {k:Nat} {l:List D} (h:∀ x∈l,Can k x):Cmp l:=cmp_shp fun x hx=>(h x hx).shp
theorem Can.lt_some {k:Nat} {a:D} (h:Can k a) {j:Nat} {b:D} (hb:Can j b):(ltD a b).isSome=true:=h.shp.lt_some hb.shp
theorem Can.tkey {k:Nat} {d:D} (h:Can k d) (hk:k≤8):tkey d=true:=by
 have h1:=h.plain
 have h2:=h.okd (by bv_omega)
 have h3:=h.lev
 cases h<;>simp [Mini.tkey,h1,h2,Nat.le_trans h3 hk]
theorem Can.cons {k:Nat} {s:Sn} {l:List D} (h:Can k (.tuple (.str s.str::l))):(∀ x∈l,Can k x)∧2≤l.length∧l.length≤20∧(s≠.pair→(∀ x∈l,Pl.parts s x=[x])∧l.Pairwise leD):=by
 generalize hd:(PyData.tuple (.str s.str::l))=d at h
 cases h with
 | leaf k o n=>simp at hd; exact absurd hd.1.symm (zx4 o s)
 | pair ha hb =>
  simp at hd
  obtain ⟨e,rfl⟩:=hd
  obtain rfl:s=.pair:=zo6 (s':=.pair) e
  refine ⟨fun x hx=>?_,Nat.le_refl 2,(show 2≤20 by decide),fun h=>absurd rfl h⟩
  simp at hx
  exact hx.elim (fun e=>e▸ha.mono (Nat.le_succ _)) fun e=>e▸hb.mono (Nat.le_succ _)
 | @join k s' l' hs' h2 h20 hc hp hw =>
  simp at hd
  obtain ⟨e,rfl⟩:=hd
  obtain rfl:=zo6 e
  exact ⟨fun x hx=>(hc x hx).mono (Nat.le_succ _),h2,h20,fun _=>⟨hp,hw⟩⟩
theorem Can.two {k:Nat} {s:Sn} {l:List D} (h:Can k (.tuple (.str s.str::l))):2≤l.length:=h.cons.2.1
theorem Can.open_inv {k:Nat} {r:List D} (h:Can k (.tuple (.str "open" :: r))):∃ i,r=[.int i]:=by
 generalize hd:(PyData.tuple (.str "open" :: r))=d at h
 cases h with
 | leaf k o n=>simp at hd; exact ⟨n,hd.2⟩
 | pair _ _=>simp at hd; exact absurd hd.1 (zm7 true)
 | join hs'=>simp at hd; exact absurd hd.1 (zx4 true _)
theorem Can.parts {k:Nat} {s:Sn} (hs:s≠.pair) {d:D} (h:Can k d):(parts s d=[d])∨(∃ l,d=.tuple (.str s.str::l)∧parts s d=l∧2≤l.length∧l.length≤20∧(∀ x∈l,Can (k - 1) x)∧(∀ x∈l,Pl.parts s x=[x])∧l.Pairwise leD):=by
 cases h with
 | leaf k o n=>exact .inl (zl9 s o n)
 | pair ha hb=>exact .inl (zo7 hs _ _)
 | @join k s' l hs' h2 hl hc hp hw =>
  by_cases e:s'=s
  ·subst e; exact .inr ⟨l,rfl,zt4 _ _,h2,hl,by simpa using hc,hp,hw⟩
  ·exact .inl (zq0 e l)
theorem Can.parts_can {k:Nat} {s:Sn} (hs:s≠.pair) {d:D} (h:Can k d):∀ x∈Pl.parts s d,Can k x:=by
 rcases h.parts hs with e|⟨l,_,e,_,_,hc,_,_⟩<;>rw [e]<;>intro x hx
 ·simp at hx; subst hx; exact h
 ·exact (hc x hx).mono (by exact Nat.sub_le ..)
theorem Can.parts_non {k:Nat} {s:Sn} (hs:s≠.pair) {d:D} (h:Can k d):∀ x∈Pl.parts s d,Pl.parts s x=[x]:=by
 rcases h.parts hs with e|⟨l,_,e,_,_,_,hp,_⟩<;>rw [e]<;>intro x hx
 ·simp at hx; subst hx; exact e
 ·exact hp x hx
theorem Can.parts_sorted {k:Nat} {s:Sn} (hs:s≠.pair) {d:D} (h:Can k d):(Pl.parts s d).Pairwise leD:=by
 rcases h.parts hs with e|⟨l,_,e,_,_,_,_,hw⟩<;>rw [e]
 ·simp
 ·exact hw
theorem Can.parts_pos {k:Nat} {s:Sn} (hs:s≠.pair) {d:D} (h:Can k d):1≤(Pl.parts s d).length∧(Pl.parts s d).length≤20:=by
 rcases h.parts hs with e|⟨l,_,e,h1,h2,_,_,_⟩<;>rw [e]
 ·simp
 ·exact ⟨qt (by decide) h1,h2⟩
theorem zo0 {k:Nat} {s:Sn} (hs:s≠.pair) {d:D} (h:Can k d):lvL (Pl.parts s d)=lv d:=by
 rcases h.parts hs with e|⟨l,e1,e,_⟩
 ·rw [e]; simp [lvL]
 ·rw [e,e1]; simp [lv,lvL]
noncomputable def zy3 (s:Sn):List D→D
 | [x]=>x
 | l=>.tuple (.str s.str::l)
theorem zy5 {s:Sn} {l:List D} (h:l.length≠1):zy3 s l=.tuple (.str s.str::l):=by
 match l,h with
 | [],_=>rfl
 | [x],h=>exact absurd rfl h
 | _::_::_,_=>rfl
theorem zr3 {k:Nat} {s:Sn} (hs:s≠.pair) {d:D} (h:Can k d):zy3 s (Pl.parts s d)=d:=by
 rcases h.parts hs with e|⟨l,e1,e,h2,_⟩
 ·rw [e]; rfl
 ·rw [e,zy5 (by bv_omega),e1]
theorem ofParts_can {k:Nat} {s:Sn} (hs:s≠.pair) {l:List D} (h1:l≠[]) (h2:l.length≤20) (hc:∀ x∈l,Can k x) (hp:∀ x∈l,Pl.parts s x=[x]) (hw:l.Pairwise leD):Can (k+1) (zy3 s l)∧Pl.parts s (zy3 s l)=l:=by
 match l,h1,h2,hc,hp,hw with
 | [x],_,_,hc,hp,_=>exact ⟨(hc x mh).mono (by bv_omega),hp x mh⟩
 | a::b::r,_,h2,hc,hp,hw=>exact ⟨.join hs (by simp) h2 hc hp hw,zt4 _ _⟩
mutual
noncomputable def fill (f:Int→D):D→D
 | .tuple (.str x::r)=>if x == "open" then (match r with|[.int k]=>f k|_=>.none) else if x == "name" then .tuple (.str x::r) else if x == "pair" then .tuple (.str x::fillL f r)
  else if x == "sum" then .tuple (.str x::zx6 ((fillL f r).flatMap (parts .sum))) else .tuple (.str x::zx6 ((fillL f r).flatMap (parts .mul)))
 | d=>d
noncomputable def fillL (f:Int→D):List D→List D
 | []=>[]
 | x::r=>fill f x::fillL f r
end
theorem fillL_map (f:Int→D):∀ l:List D,fillL f l=l.map (fill f)
 | []=>rfl
 | x::r=>by simp only [fillL,List.map_cons,fillL_map f r]
theorem zt1 (f:Int→D) (k:Int):fill f (.tuple [.str "open", .int k])=f k:=by simp [fill]
theorem zi7 (f:Int→D) (k:Int):fill f (.tuple [.str "name", .int k])=.tuple [.str "name", .int k]:=by simp [fill,zp1]
theorem zn9 (f:Int→D) (a b:D):fill f (.tuple [.str "pair", a,b])=.tuple [.str "pair", fill f a,fill f b]:=by simp [fill,fillL,zi2,zm5]
theorem zm0 (f:Int→D) {s:Sn} (hs:s≠.pair) (l:List D):fill f (.tuple (.str s.str::l))=.tuple (.str s.str::zx6 ((l.map (fill f)).flatMap (parts s))):=by
 cases s with
 | sum=>simp [fill,Sn.str,fillL_map,zq1,zs5,zn1]
 | mul=>simp [fill,Sn.str,fillL_map,zq2,zs6,zn2,ne_mul_sum]
 | pair=>exact absurd rfl hs
inductive Opn:Int→D→Prop
 | self (k:Int):Opn k (.tuple [.str "open", .int k])
 | part {k:Int} {x:D} {s:Sn} {l:List D}:x∈l→Opn k x→Opn k (.tuple (.str s.str::l))
theorem fill_congr {f g:Int→D} {k:Nat} {d:D} (h:Can k d):(∀ i,Opn i d→f i=g i)→fill f d=fill g d:=by
 induction h with
 | leaf k o n =>
  intro e
  cases o
  ·rw [show lstr false = "name" from rfl,zi7,zi7]
  ·rw [show lstr true = "open" from rfl,zt1,zt1]; exact e n (.self n)
 | @pair k a b ha hb iha ihb =>
  intro e
  rw [zn9,zn9,iha fun i hi=>e i (.part (s:=.pair) (l:=[a,b]) mh hi),ihb fun i hi=>e i (.part (s:=.pair) (l:=[a,b]) (mt mh) hi)]
 | @join k s l hs _ _ hc _ _ ih =>
  intro e
  rw [zm0 f hs,zm0 g hs,List.map_congr_left fun x hx=>ih x hx fun i hi=>e i (.part hx hi)]
inductive Tri:D→D→Prop
 | self (S:D):Tri S S
 | part {s:Sn} {l:List D} {x v:D}:x∈l→Tri x v→Tri (.tuple (.str s.str::l)) v
 | some {s:Sn} {l t:List D}:s≠.pair→t.Sublist l→t≠[]→Tri (.tuple (.str s.str::l)) (zy3 s t)
theorem Tri.can {k:Nat} {S v:D} (h:Tri S v):Can k S→Can k v:=by
 induction h generalizing k with
 | self S=>exact id
 | @part s l x v hx _ ih =>
  intro c
  generalize hd:(PyData.tuple (.str s.str::l))=d at c
  cases c with
  | leaf k o n=>simp at hd; exact absurd hd.1.symm (zx4 o s)
  | pair ha hb =>
   simp at hd
   obtain ⟨_,rfl⟩:=hd
   simp at hx
   rcases hx with rfl|rfl
   ·exact (ih ha).mono (by bv_omega)
   ·exact (ih hb).mono (by bv_omega)
  | @join k s' l' hs' _ _ hc _ _ =>
   simp at hd
   obtain ⟨_,rfl⟩:=hd
   exact (ih (hc x hx)).mono (by bv_omega)
 | @some s l t hs ht hn =>
  intro c
  generalize hd:(PyData.tuple (.str s.str::l))=d at c
  cases c with
  | leaf k o n=>simp at hd; exact absurd hd.1.symm (zx4 o s)
  | pair ha hb =>
   simp at hd
   exact absurd hd.1 (zs8 hs)
  | @join k s' l' hs' h2 hl hc hp hw =>
   simp at hd
   obtain ⟨e,rfl⟩:=hd
   obtain rfl:=zo6 e
   exact (ofParts_can hs hn (Nat.le_trans ht.length_le hl) (fun x hx=>hc x (ht.subset hx)) (fun x hx=>hp x (ht.subset hx)) (hw.sublist ht)).1
end Pl
end
section
namespace Pl
open Mini PySem
theorem zy7 {α:Type} {bnd:D→Mini.Sg→Option Mini.Sg} {body:Mini.Sg→Option Out} (g:α→D) (J:List α→Mini.Sg→Prop) {L:List α} {σ:Mini.Sg} (h:J [] σ)
  (hs:∀ done a rest σ,L=done++a::rest→J done σ→∃ σ1 σ2,bnd (g a) σ=some σ1∧body σ1=some (.next σ2)∧J (done++[a]) σ2) :
  ∃ σ',forN bnd body (L.map g) σ=some (.next σ')∧J L σ':=by
 have gen:∀ (l pre:List α) (σ:Mini.Sg),L=pre++l→J pre σ→∃ σ',forN bnd body (l.map g) σ=some (.next σ')∧J L σ':=by
  intro l
  induction l with
  | nil=>intro pre σ e h; rw [List.append_nil] at e; subst e; exact ⟨σ,rfl,h⟩
  | cons a r ih =>
   intro pre σ e h
   refine elEEAA (hs pre a r σ e h) fun σ1 σ2 h1 h2 h3=>?_
   refine elEA (ih (pre++[a]) σ2 (by rw [e]; simp) h3) fun σ' e' j=>?_
   exact ⟨σ',(for_next h1 h2).trans e',j⟩
 exact gen L [] σ rfl h
theorem zt2 {n:Nat} {bc:D→Option (List D)} {cond:Mini.Sg→Option (D×Mini.Sg)} {elt:Mini.Ev} {σ:Mini.Sg} {c:D→Bool} {F:D→D} (hn:σ.length=n):∀ {ds:List D},
  (∀ d∈ds,∃ ws,bc d=some ws∧cond (σ++ws.map fun x=>some (.val x))=some (.bool (c d),σ++ws.map fun x=>some (.val x))∧(c d=true→∃ f,elt (σ++ws.map fun x=>some (.val x))=some (F d,f,σ++ws.map fun x=>some (.val x)))) →
  zj2 n bc cond elt ds σ=some ((ds.filter c).map F,σ)
 | [],_=>rfl
 | d::r,h=>by
  refine elEAA (h d mh) fun ws h1 h2 h3=>?_
  have ht:(σ++ws.map fun x=>some (AV.val x)).take n=σ:=by subst hn; simp
  have ih:=zt2 (n:=n) (bc:=bc) (cond:=cond) (elt:=elt) (σ:=σ) (c:=c) (F:=F) hn (ds:=r) fun x hx=>h x (mt hx)
  simp only [zj2,h1,h2,Option.bind_some,ztr1]
  cases hc:c d with
  | false=>simp only [cond_false,ht,ih,List.filter_cons,hc]; rfl
  | true =>
   obtain ⟨f,h3⟩:=h3 hc
   simp only [cond_true,h3,Option.bind_some,ht,ih,List.filter_cons,hc,if_true,List.map_cons]
noncomputable def zx2 {α:Type} (g:α→Nat):List α→Nat
 | []=>0
 | x::r=>g x+zx2 g r
theorem zo3 {α:Type} (g:α→Nat):∀ (a b:List α),zx2 g (a++b)=zx2 g a+zx2 g b
 | [],b=>by simp [zx2]
 | x::a,b=>by simp only [List.cons_append,zx2,zo3 g a b]; bv_omega
theorem sum_le {α:Type} {g h:α→Nat}:∀ {l:List α},(∀ x∈l,g x≤h x)→zx2 g l≤zx2 h l
 | [],_=>Nat.le_refl _
 | x::r,e=>Nat.add_le_add (e x mh) (sum_le fun y hy=>e y (mt hy))
theorem sum_one {α:Type}:∀ l:List α,zx2 (fun _=>1) l=l.length
 | []=>rfl
 | x::r=>by simp only [zx2,sum_one r,List.length_cons]; bv_omega
theorem sum_filter {α:Type} (g:α→Nat) (p:α→Bool):∀ l:List α,zx2 g (l.filter p)≤zx2 g l
 | []=>Nat.le_refl _
 | x::r=>by
  have:=sum_filter g p r
  simp only [List.filter_cons]
  split<;>simp only [zx2]<;>bv_omega
theorem sum_map {α β:Type} (g:β→Nat) (f:α→β):∀ l:List α,zx2 g (l.map f)=zx2 (fun x=>g (f x)) l
 | []=>rfl
 | x::r=>by simp only [List.map_cons,zx2,sum_map g f r]
theorem sum_const {α:Type} (c:Nat):∀ l:List α,zx2 (fun _=>c) l=l.length*c
 | []=>by simp [zx2]
 | x::r=>by simp only [zx2,sum_const c r,List.length_cons,Nat.add_mul]; bv_omega
theorem len_le_sum {α:Type} {g:α→Nat} {l:List α} (h:∀ x∈l,1≤g x):l.length≤zx2 g l:=by
 rw [← sum_one]; exact sum_le h
theorem pow_add_le (a b:Nat):∀ n:Nat,1≤n→a^n+b^n≤(a+b)^n
 | 1,_=>by simp
 | n+2,_=>by
  have ih:=pow_add_le a b (n+1) (by bv_omega)
  rw [Nat.pow_succ a (n+1),Nat.pow_succ b (n+1),Nat.pow_succ (a+b) (n+1)]
  have h1:=Nat.mul_le_mul_right (a+b) ih
  have h2:a^(n+1)*a+b^(n+1)*b≤(a^(n+1)+b^(n+1))*(a+b):=by
   rw [Nat.add_mul,Nat.mul_add,Nat.mul_add]; exact qa (Nat.le_add_right ..) (Nat.le_add_left ..)
  exact qt h2 h1
theorem one_le_pow' (x n:Nat):x^n+1≤(x+1)^n∨n=0:=by
 rcases Nat.eq_zero_or_pos n with h|h
 ·exact .inr h
 ·have:=pow_add_le x 1 n h; rw [Nat.one_pow] at this; exact .inl this
noncomputable def zm3 (p:D) (q:List D×List D):List (List D×List D):=[(q.1++[p],q.2),(q.1,q.2++[p])]
noncomputable def zz9 (found:List (List D×List D)):List D→List (List D×List D)
 | []=>found
 | p::r=>zz9 (found.flatMap (zm3 p)) r
theorem more_len (p:D) (found:List (List D×List D)):(found.flatMap (zm3 p)).length=2*found.length:=by
 induction found with
 | nil=>rfl
 | cons q r ih=>simp only [List.flatMap_cons,List.length_append,ih,zm3,List.length_cons,List.length_nil]; bv_omega
theorem zr9:∀ (ps:List D) (found:List (List D×List D)),(zz9 found ps).length=2^ps.length*found.length
 | [],found=>by simp [zz9]
 | p::r,found=>by
  rw [zz9,zr9 r,more_len,List.length_cons,Nat.pow_succ]
  rw [Nat.mul_assoc]
theorem splitsF_snoc:∀ (ps:List D) (p:D) (found:List (List D×List D)),zz9 found (ps++[p])=(zz9 found ps).flatMap (zm3 p)
 | [],p,found=>rfl
 | x::r,p,found=>by rw [List.cons_append,zz9,zz9,splitsF_snoc r]
theorem zl5:∀ (ps:List D) (found:List (List D×List D)) (t l:List D),(t,l)∈zz9 found ps→∃ q∈found,∃ t' l',t=q.1++t'∧l=q.2++l'∧t'.Sublist ps∧l'.Sublist ps∧(t'++l').Perm ps
 | [],found,t,l,h=>⟨(t,l),h,[],[],by simp,by simp,by simp,by simp,by simp⟩
 | p::r,found,t,l,h=>by
  refine elEAEEAAAA (zl5 r _ t l h) fun q hq t' l' e1 e2 h1 h2 h3=>?_
  refine elEA (List.mem_flatMap.mp hq) fun q0 hq0 hq=>?_
  simp only [zm3,List.mem_cons,List.not_mem_nil,or_false] at hq
  rcases hq with rfl|rfl
  ·exact ⟨q0,hq0,p::t',l',by simp [e1],e2,h1.cons_cons p,h2.cons p,by simpa using h3⟩
  ·refine ⟨q0,hq0,t',p::l',e1,by simp [e2],h1.cons p,h2.cons_cons p,?_⟩
   exact List.perm_middle.trans (h3.cons p)
theorem zs7:∀ (ps:List D) (found:List (List D×List D)) (q:List D×List D),q∈found→∀ {a b:List D},(a++b).Perm ps→∃ t l,(q.1++t,q.2++l)∈zz9 found ps∧t.Perm a∧l.Perm b
 | [],found,q,hq,a,b,h=>by
  have:=h.length_eq
  simp at this
  exact ⟨[],[],by simpa [zz9] using hq,by simp [this.1],by simp [this.2]⟩
 | p::r,found,q,hq,a,b,h=>by
  have hp:p∈a++b:=h.mem_iff.mpr mh
  rcases List.mem_append.mp hp with hp|hp
  ·(refine elEE (List.append_of_mem hp) fun a1 a2 e_2=>?_; subst e_2)
   have h':((a1++a2)++b).Perm r:=by
    have:(p::((a1++a2)++b)).Perm (p::r):=by
     refine List.Perm.trans ?_ h
     simp only [List.append_assoc,List.cons_append]
     exact List.perm_middle.symm
    exact List.Perm.cons_inv this
   refine elEEAA (zs7 r (found.flatMap (zm3 p)) (q.1++[p],q.2) (List.mem_flatMap.mpr ⟨q,hq,by simp [zm3]⟩) h') fun t l hm h1 h2=>?_
   exact ⟨p::t,l,by simpa [zz9] using hm,(h1.cons p).trans List.perm_middle.symm,h2⟩
  ·(refine elEE (List.append_of_mem hp) fun b1 b2 e_2=>?_; subst e_2)
   have h':(a++(b1++b2)).Perm r:=by
    have:(p::(a++(b1++b2))).Perm (p::r):=by
     refine List.Perm.trans ?_ h
     rw [← List.append_assoc,← List.append_assoc]
     exact List.perm_middle.symm
    exact List.Perm.cons_inv this
   refine elEEAA (zs7 r (found.flatMap (zm3 p)) (q.1,q.2++[p]) (List.mem_flatMap.mpr ⟨q,hq,by simp [zm3]⟩) h') fun t l hm h1 h2=>?_
   exact ⟨t,p::l,by simpa [zz9] using hm,h1,(h2.cons p).trans List.perm_middle.symm⟩
theorem splits_sum (x:Nat):∀ (ps:List D),(∀ p∈ps,1≤lv p)→∀ (found:List (List D×List D)),zx2 (fun q=>x^lvL q.2) (zz9 found ps)≤zx2 (fun q=>x^lvL q.2) found*(x+1)^lvL ps
 | [],_,found=>by simp [zz9,lvL]
 | p::r,hp,found=>by
  have hx:x^lv p+1≤(x+1)^lv p:=(one_le_pow' x (lv p)).resolve_right (by have:=hp p mh; bv_omega)
  have e:zx2 (fun q=>x^lvL q.2) (found.flatMap (zm3 p))≤zx2 (fun q=>x^lvL q.2) found*(x+1)^lv p:=by
   clear hp
   induction found with
   | nil=>simp [zx2]
   | cons q fs ih =>
    rw [List.flatMap_cons,zo3]
    simp only [zm3,zx2,zz8,lvL,Nat.add_zero,Nat.pow_add,Nat.add_mul]
    have:=Nat.mul_le_mul_left (x^lvL q.2) hx
    rw [Nat.mul_add,Nat.mul_one] at this
    exact qa (qt (Nat.le_of_eq (Nat.add_comm ..)) this) ih
  have ih:=splits_sum x r (fun y hy=>hp y (mt hy)) (found.flatMap (zm3 p))
  rw [zz9]
  refine Nat.le_trans ih ?_
  have:=Nat.mul_le_mul_right ((x+1)^lvL r) e
  rw [lvL,Nat.pow_add,← Nat.mul_assoc]
  exact this
end Pl
end
section
namespace Pl
open Mini PySem
variable {Fs:Fns} {fuel:Nat}
theorem okd_tup {k:Nat} {t:List D} (h:∀ x∈t,Can k x) (hk:k≤100):okd (.tuple t)=true:=by
 have h1:=canAll_of fun x hx=>(h x hx).shp.lay
 have h2:=zj1 fun x hx=>(h x hx).shp.dep
 simp only [okd,PyData.canLay0,PyData.depth,h1,Bool.true_and]; exact decide_eq_true (by exact qt (Nat.succ_le_succ (qt h2 (Nat.add_le_add_right hk 20))) (by decide))
theorem zi0 {k:Nat} {t:List D} (h:∀ x∈t,Can k x) (hk:k≤100):okd (.list t)=true:=by
 have h1:=canAll_of fun x hx=>(h x hx).shp.lay
 have h2:=zj1 fun x hx=>(h x hx).shp.dep
 simp only [okd,PyData.canLay0,PyData.depth,h1,Bool.true_and]; exact decide_eq_true (by exact qt (Nat.succ_le_succ (qt h2 (Nat.add_le_add_right hk 20))) (by decide))
theorem tkey_tup {t:List D} (h:∀ x∈t,Can 7 x):tkey (.tuple t)=true:=by
 have h1:=okd_tup h (by bv_omega)
 have h2:=zu0 fun x hx=>(h x hx).plain
 have h3:=levL_of fun x hx=>(h x hx).lev
 simp only [tkey,zz5,h1,h2,lev,Bool.and_self,Bool.true_and]; exact decide_eq_true (by exact Nat.succ_le_succ h3)
noncomputable abbrev prD (q:List D×List D):D:=.tuple [.list q.1,.list q.2]
noncomputable def enP (q:List D×List D):D×D:=(.tuple q.1,.list q.2)
noncomputable def pput:List (List D×List D)→List D×List D→List (List D×List D)
 | [],q=>[q]
 | p::r,q=>if PyData.eqvAll p.1 q.1 then (p.1,q.2)::r else p::pput r q
theorem dput_enP (q:List D×List D):∀ R:List (List D×List D),dput (R.map enP) (.tuple q.1) (.list q.2)=(pput R q).map enP
 | []=>rfl
 | p::r=>by
  simp only [List.map_cons,dput,pput]
  have e:PyData.eqv (enP p).1 (.tuple q.1)=PyData.eqvAll p.1 q.1:=rfl
  rw [e]
  split
  ·rfl
  ·rw [List.map_cons,dput_enP q r]
theorem pput_len (q:List D×List D):∀ R,(pput R q).length≤R.length+1
 | []=>by simp [pput]
 | p::r=>by have:=pput_len q r; simp only [pput]; split<;>simp only [List.length_cons]<;>bv_omega
theorem pput_sum (g:List D→Nat) (q:List D×List D):∀ R,zx2 (fun q=>g q.2) (pput R q)≤zx2 (fun q=>g q.2) R+g q.2
 | []=>by simp [pput,zx2]
 | p::r=>by have:=pput_sum g q r; simp only [pput]; split<;>simp only [zx2]<;>bv_omega
set_option tactic.hygienic true in
theorem pput_mem {q:List D×List D} (hq:∀ x∈q.1,zz5 x=true):∀ {R:List (List D×List D)},(∀ p∈R,∀ x∈p.1,zz5 x=true)→(∀ p∈pput R q,p∈R∨p=q)∧(∃ p∈pput R q,p.1=q.1)∧∀ p∈R,∃ p'∈pput R q,p'.1=p.1
 | [],_=>⟨fun p hp=>by simp [pput] at hp; exact .inr hp,⟨q,by simp [pput],rfl⟩,fun p hp=>by simp at hp⟩
 | p::r,h=>by
  have ⟨i1,⟨p0,i2,i3⟩,i4⟩:=pput_mem hq (R:=r) fun p hp=>h p (mt hp)
  simp only [pput]
  split
  ·rename_i e
   have e:=(zp4 (zu0 (h p mh)) (zu0 hq)).mp e
   refine ⟨fun p' hp=>?_,⟨(p.1,q.2),by simp,e⟩,fun p' hp=>?_⟩
   ·rcases List.mem_cons.mp hp with rfl|hp
    ·exact .inr (by rw [e])
    ·exact .inl (mt hp)
   ·rcases List.mem_cons.mp hp with rfl|hp
    ·exact ⟨(p'.1,q.2),by simp,rfl⟩
    ·exact ⟨p',by simp [hp],rfl⟩
  ·refine ⟨fun p' hp=>?_,⟨p0,by simp [i2],i3⟩,fun p' hp=>?_⟩
   ·rcases List.mem_cons.mp hp with rfl|hp
    ·exact .inl mh
    ·exact (i1 p' hp).imp (fun q=>by simp [q]) id
   ·rcases List.mem_cons.mp hp with rfl|hp
    ·exact ⟨p',by simp,rfl⟩
    ·refine elEA (i4 p' hp) fun p1 h1 h2=>?_; exact ⟨p1,by simp [h1],h2⟩
set_option tactic.hygienic true in
theorem pput_keys {q:List D×List D} (hq:∀ x∈q.1,zz5 x=true):∀ {R:List (List D×List D)},(∀ p∈R,∀ x∈p.1,zz5 x=true)→(pput R q).map (·.1)=R.map (·.1)∨((pput R q).map (·.1)=R.map (·.1)++[q.1]∧q.1∉R.map (·.1))
 | [],_=>.inr ⟨rfl,by simp⟩
 | p::r,h=>by
  simp only [pput]
  split
  ·exact .inl rfl
  ·rename_i e
   rcases pput_keys hq (R:=r) fun p hp=>h p (mt hp) with i|⟨i,j⟩
   ·exact .inl (by simp only [List.map_cons,i])
   ·refine .inr ⟨by simp only [List.map_cons,i,List.cons_append],fun m=>?_⟩
    rcases List.mem_cons.mp m with m|m
    ·exact e ((zp4 (zu0 (h p mh)) (zu0 hq)).mpr m.symm)
    ·exact j m
structure Seen (qs R:List (List D×List D)):Prop where
 mem:∀ q∈R,q∈qs
 all:∀ q∈qs,∃ q'∈R,q'.1=q.1
 sum:∀ g:List D→Nat,zx2 (fun q=>g q.2) R≤zx2 (fun q=>g q.2) qs
 len:R.length≤qs.length
 nodup:(R.map (·.1)).Nodup
theorem Seen.put {qs R:List (List D×List D)} {q:List D×List D} (h:Seen qs R) (hp:∀ p∈qs++[q],∀ x∈p.1,zz5 x=true):Seen (qs++[q]) (pput R q):=by
 have ⟨i1,i2,i3⟩:=pput_mem (R:=R) (hp q (mr mh)) fun p hq=>hp p (by simp [h.mem p hq])
 refine ⟨fun p hq=>?_,fun p hq=>?_,fun g=>?_,?_,?_⟩
 ·rcases i1 p hq with e|e
  ·simp [h.mem p e]
  ·simp [e]
 ·rcases List.mem_append.mp hq with e|e
  ·refine elEA (h.all p e) fun p1 e1 e2=>?_
   refine elEA (i3 p1 e1) fun p2 e3 e4=>?_
   exact ⟨p2,e3,e4.trans e2⟩
  ·simp at e; subst e; exact i2
 ·have a1:=h.sum g
  have a2:=pput_sum g q R
  rw [zo3]
  simp only [zx2]; exact qt a2 (Nat.add_le_add_right a1 _)
 ·have:=pput_len q R
  have:=h.len
  rw [List.length_append]; simp only [List.length_cons,List.length_nil]; exact qt ‹(pput R q).length≤_› (Nat.succ_le_succ this)
 ·rcases pput_keys (R:=R) (hp q (mr mh)) fun p hq=>hp p (by simp [h.mem p hq]) with e|⟨e,e2⟩
  ·rw [e]; exact h.nodup
  ·rw [e,List.nodup_append]
   refine ⟨h.nodup,by simp,fun a ha b hb=>?_⟩
   simp at hb; subst hb
   rintro rfl; exact e2 ha
noncomputable def ch_in:I:=(.cons (.app 3 (.tup (.cons (.bin .Add (.var 4) (.lst (.cons (.var 2) .nil))) (.cons (.var 5) .nil)))) (.cons (.app 3 (.tup (.cons (.var 4) (.cons (.bin .Add (.var 5) (.lst (.cons (.var 2) .nil))) .nil)))) .nil))
noncomputable def ch_body:I:=(.cons (.asg 3 (.lst .nil)) (.cons (.fors [4,5] (.var 1) ch_in) (.cons (.asg 1 (.var 3)) .nil)))
noncomputable def ch_seen:I:=(.cons (.sto 6 (.prim1 .tuple (.var 4)) (.var 5)) .nil)
noncomputable def ch_last:I:=(.comp1 (.tup (.cons (.prim1 .list (.var 7)) (.cons (.idx (.brw 6) (.var 7)) .nil))) (.var 6) .omit)
noncomputable def zq6:I:=(.cons (.asg 1 (.lst (.cons (.tup (.cons (.lst .nil) (.cons (.lst .nil) .nil))) .nil))) (.cons (.for1 2 (.var 0) ch_body) (.cons (.asg 6 .dct0) (.cons (.fors [4,5] (.var 1) ch_seen) (.cons (.ret ch_last) .nil)))))
noncomputable abbrev vl (d:D):Option AV:=some (.val d)
noncomputable abbrev ow (d:D):Option AV:=some (.own d)
theorem bindT2 {q:List D×List D} {v0 v1 v2 v3 v4 v5 v6:Option AV}:bindT [4,5] (prD q) [v0,v1,v2,v3,v4,v5,v6]=some [v0,v1,v2,v3,vl (.list q.1),vl (.list q.2),v6]:=by
 simp [bT_,zat2,pa_n,pa_c,put]
theorem ch_in_step {Γ:Mini.Env} {v0 v1 v6:Option AV} {p:D} {acc t l:List D} (h1:acc.length+2<size) (h2:t.length<size) (h3:l.length<size) :
  ex Γ ch_in [v0,v1,vl p,ow (.list acc),vl (.list t),vl (.list l),v6]=some (.next [v0,v1,vl p,ow (.list (acc++[prD (t++[p],l)]++[prD (t,l++[p])])),vl (.list t),vl (.list l),v6]):=by
 have e1:t.length+1≤size:=h2
 have e2:l.length+1≤size:=h3
 have e3:acc.length+1<size:=by exact Nat.lt_of_succ_lt h1
 have e4:acc.length+1+1<size:=by exact h1
 rw [ch_in,zz0 (σ':=[v0,v1,vl p,ow (.list (acc++[prD (t++[p],l)])),vl (.list t),vl (.list l),v6]) (by simp [b_ad,zad1,↓mkT2,↓mkL1,mkL_,e1,e3]),
  zz0 (σ':=[v0,v1,vl p,ow (.list (acc++[prD (t++[p],l)]++[prD (t,l++[p])])),vl (.list t),vl (.list l),v6]) (by simp [b_ad,zad1,↓mkT2,↓mkL1,mkL_,e2,e4])]
 rfl
theorem ch_body_step {Γ:Mini.Env} {v0 v6:Option AV} {p:D} {found:List (List D×List D)} {x1 x3 x4 x5:Option AV} (hx1:x1=vl (.list (found.map prD))∨x1=ow (.list (found.map prD))) (h1:2*found.length<size) (h2:∀ q∈found,q.1.length<size∧q.2.length<size) :
  ∃ y4 y5,ex Γ ch_body [v0,x1,vl p,x3,x4,x5,v6]=some (.next [v0,vl (.list ((found.flatMap (zm3 p)).map prD)),vl p,vl (.list ((found.flatMap (zm3 p)).map prD)),y4,y5,v6]):=by
 have loop:∃ σ',forN (bindT [4,5]) (ex Γ ch_in) (found.map prD) [v0,vl (.list (found.map prD)),vl p,ow (.list []),x4,x5,v6]=some (.next σ') ∧
   ∃ y4 y5,σ'=[v0,vl (.list (found.map prD)),vl p,ow (.list ((found.flatMap (zm3 p)).map prD)),y4,y5,v6]:=by
  refine zy7 prD (fun done σ=>∃ y4 y5,σ=[v0,vl (.list (found.map prD)),vl p,ow (.list ((done.flatMap (zm3 p)).map prD)),y4,y5,v6]) ⟨x4,x5,rfl⟩ ?_
  rintro done q rest σ e ⟨y4,y5,rfl⟩
  have hq:=h2 q (by exact mm e)
  have hl:((done.flatMap (zm3 p)).map prD).length+2<size:=by
   rw [List.length_map,more_len]
   have:found.length=done.length+(rest.length+1):=by exact lm e
   exact ql (Nat.mul_le_mul_left 2 (Nat.succ_le_succ (Nat.le_add_right ..))) (this▸h1)
  refine ⟨_,_,bindT2,ch_in_step hl hq.1 hq.2,vl (.list q.1),vl (.list q.2),?_⟩
  simp [zm3]
 (refine elEAEE (loop) fun σ' e y4 y5 e_4=>?_; subst e_4)
 refine ⟨y4,y5,?_⟩
 rw [ch_body,zz0 (σ':=[v0,x1,vl p,ow (.list []),x4,x5,v6]) (by simp [↓mkL0]),
  zz0 (σ':=[v0,vl (.list (found.map prD)),vl p,ow (.list ((found.flatMap (zm3 p)).map prD)),y4,y5,v6]) (by
   rw [zo8,show srcE (ev Γ (.var 1)) [v0,x1,vl p,ow (.list []),x4,x5,v6]=some (found.map prD,[v0,vl (.list (found.map prD)),vl p,ow (.list []),x4,x5,v6]) by rcases hx1 with rfl|rfl<;>rfl]
   exact e)]
 rfl
theorem keysOk_tup {t:List D} (h:∀ x∈t,Can 7 x) {R:List (List D×List D)} (hR:∀ q∈R,∀ x∈q.1,Can 7 x):zp2 (.tuple t) (R.map enP)=true:=by
 simp only [zp2,kk_t,tkey_tup h,if_true,Option.isSome_some,Bool.true_and,List.all_eq_true,List.mem_map]
 rintro _ ⟨q,hq,rfl⟩
 simp [enP,kk_t,tkey_tup (hR q hq)]
theorem find_enP {R:List (List D×List D)} (hR:∀ q∈R,∀ x∈q.1,Can 7 x) (hn:(R.map (·.1)).Nodup) {q:List D×List D} (hq:q∈R):zs1 (R.map enP) (.tuple q.1)=some (.list q.2):=by
 induction R with
 | nil=>cases hq
 | cons p r ih =>
  have e:PyData.eqv (enP p).1 (.tuple q.1)=PyData.eqvAll p.1 q.1:=rfl
  have ew:=zp4 (zu0 fun x hx=>(hR p mh x hx).plain) (zu0 fun x hx=>(hR q hq x hx).plain)
  simp only [List.map_cons,List.nodup_cons] at hn
  simp only [zs1,List.map_cons,List.find?_cons,e]
  rcases List.mem_cons.mp hq with rfl|hq'
  ·rw [ew.mpr rfl]; rfl
  ·cases hp:PyData.eqvAll p.1 q.1 with
   | true=>exact absurd (List.mem_map.mpr ⟨q,hq',(ew.mp hp).symm⟩) hn.1
   | false=>exact ih (fun q hq=>hR q (mt hq)) hn.2 hq'
noncomputable def chF (R:List (List D×List D)):D→D
 | .tuple t=>.tuple [.list t,(zs1 (R.map enP) (.tuple t)).getD .none]
 | d=>d
theorem zz7 {g:Str} {fn:Fn} {args:List D} {n:Nat} {d:D} {f:Bool} (h:Has Fs g fn) (hl:args.length=fn.params) (e:ex (Ga Fs fuel n) fn.body (args.map (fun d=>some (.val d))++List.replicate (fn.slots - fn.params) none)=some (.ret d f)) :
  run Fs glo fuel (n+1) g args=some (d,f):=by rw [zs3 h hl,e]
theorem run_choices (h:Has Fs "choices" ⟨1,7,zq6⟩) (n:Nat) {ps:List D} (hps:∀ x∈ps,Can 7 x) (hl:ps.length≤20) :
  ∃ R:List (List D×List D),run Fs glo fuel (n+1) "choices" [.list ps]=some (.list (R.map prD),true)∧Seen (zz9 [([],[])] ps) R:=by
 have hz:∀ m,m≤2^20→2*m<size:=fun m hm=>by unfold size; exact qx (Nat.mul_le_mul_left 2 hm)
 have hlen:∀ done rest p,ps=done++p::rest→(zz9 [([],[])] done).length≤2^20:=fun done rest p e=>by
  rw [zr9]
  have:done.length≤20:=by rw [e] at hl; simp at hl; exact qf hl
  simpa using Nat.pow_le_pow_right (by bv_omega) this
 have hin:∀ (qs:List D),qs.length≤20→∀ q∈zz9 [([],[])] qs,q.1.Sublist qs∧q.2.Sublist qs:=fun qs hq q hm=>by
  refine elEAEEAAAA (zl5 qs _ q.1 q.2 hm) fun q0 h0 t' l' e1 e2 h1 h2 _=>?_
  simp at h0; subst h0
  simp at e1 e2
  exact ⟨e1▸h1,e2▸h2⟩
 have loop:∃ σ',forN (zu2 2) (ex (Ga Fs fuel n) ch_body) (ps.map id) [vl (.list ps),ow (.list ([([],[])].map prD)),none,none,none,none,none]=some (.next σ') ∧
   ∃ y1 y2 y3 y4 y5,(y1=vl (.list ((zz9 [([],[])] ps).map prD))∨y1=ow (.list ((zz9 [([],[])] ps).map prD)))∧σ'=[vl (.list ps),y1,y2,y3,y4,y5,none]:=by
  refine zy7 id (fun done σ=>∃ y1 y2 y3 y4 y5,(y1=vl (.list ((zz9 [([],[])] done).map prD))∨y1=ow (.list ((zz9 [([],[])] done).map prD)))∧σ=[vl (.list ps),y1,y2,y3,y4,y5,none]) ⟨_,_,_,_,_,.inr rfl,rfl⟩ ?_
  rintro done p rest σ e ⟨y1,y2,y3,y4,y5,hy1,rfl⟩
  have hd:done.length≤20:=by rw [e] at hl; simp at hl; exact qf hl
  refine elEE (ch_body_step (Γ:=Ga Fs fuel n) (v0:=vl (.list ps)) (v6:=none) (p:=p) (found:=zz9 [([],[])] done) (x3:=y3) (x4:=y4) (x5:=y5) hy1 (hz _ (hlen done rest p e)) fun q hq=>by
   have ⟨a,b⟩:=hin done hd q hq
   have:=a.length_le
   have:=b.length_le
   unfold size; exact ⟨qx (qt a.length_le hd),qx (qt b.length_le hd)⟩) fun z4 z5 e2=>?_
  refine ⟨_,_,rfl,e2,vl (.list (((zz9 [([],[])] done).flatMap (zm3 p)).map prD)),vl p,vl (.list (((zz9 [([],[])] done).flatMap (zm3 p)).map prD)),z4,z5,.inl ?_,rfl⟩
  rw [splitsF_snoc]
 rw [List.map_id] at loop
 (refine elEAEEEEEA (loop) fun σ1 e1 y1 y2 y3 y4 y5 hy1 e_8=>?_; subst e_8)
 generalize hF:zz9 [([],[])] ps=found at *
 have hfl:found.length≤2^20:=by
  rw [← hF,zr9]; simpa using Nat.pow_le_pow_right (by bv_omega) hl
 have hfc:∀ q∈found,∀ x∈q.1,Can 7 x:=fun q hq x hx=>by
  rw [← hF] at hq
  exact hps x ((hin ps hl q hq).1.subset hx)
 have hfq:∀ q∈found,q.1.length≤20:=fun q hq=>by
  rw [← hF] at hq
  exact Nat.le_trans (hin ps hl q hq).1.length_le hl
 have loop2:∃ σ',forN (bindT [4,5]) (ex (Ga Fs fuel n) ch_seen) (found.map prD) [vl (.list ps),vl (.list (found.map prD)),y2,y3,y4,y5,ow (.dict [])]=some (.next σ') ∧
   ∃ R z4 z5,Seen found R∧σ'=[vl (.list ps),vl (.list (found.map prD)),y2,y3,z4,z5,ow (.dict (R.map enP))]:=by
  refine zy7 prD (fun done σ=>∃ R z4 z5,Seen done R∧σ=[vl (.list ps),vl (.list (found.map prD)),y2,y3,z4,z5,ow (.dict (R.map enP))]) ⟨[],_,_,⟨by simp,by simp,fun g=>Nat.le_refl _,Nat.le_refl _,by simp⟩,rfl⟩ ?_
  rintro done q rest σ e ⟨R,z4,z5,hs,rfl⟩
  have hdn:∀ p∈done++[q],p∈found:=fun p hp=>by
   rw [e]
   rcases List.mem_append.mp hp with hp|hp
   ·simp [hp]
   ·simp at hp; simp [hp]
  have hk:=keysOk_tup (hfc q (hdn q (mr mh))) (R:=R) fun p hp=>hfc p (hdn p (by simp [hs.mem p hp]))
  have hle:R.length<size:=by
   have a1:=hs.len
   have a2:found.length=done.length+(rest.length+1):=by exact lm e
   unfold size; exact qx (qt a1 (qf (a2▸hfl)))
  refine ⟨_,_,bindT2,?_,pput R q,vl (.list q.1),vl (.list q.2),hs.put fun p hp x hx=>(hfc p (hdn p hp) x hx).plain,rfl⟩
  rw [ch_seen,zz0 (σ':=[vl (.list ps),vl (.list (found.map prD)),y2,y3,vl (.list q.1),vl (.list q.2),ow (.dict (dput (R.map enP) (.tuple q.1) (.list q.2)))]) (by
   simp [p_tup,zse1,hk,hle])]
  rw [dput_enP]; rfl
 (refine elEAEEEA (loop2) fun σ2 e2 R z4 z5 hs e_6=>?_; subst e_6)
 have hRc:∀ q∈R,∀ x∈q.1,Can 7 x:=fun q hq=>hfc q (hs.mem q hq)
 have hsrc:srcE (ev (Ga Fs fuel n) (.var 6)) [vl (.list ps),vl (.list (found.map prD)),y2,y3,z4,z5,ow (.dict (R.map enP))]=some (R.map fun q=>.tuple q.1,[vl (.list ps),vl (.list (found.map prD)),y2,y3,z4,z5,vl (.dict (R.map enP))]):=by
  simp [zit3,enP,Function.comp_def]
 have hc:=zt2 (n:=7) (bc:=bc1) (cond:=zp5 .omit (ev (Ga Fs fuel n) .omit)) (elt:=ev (Ga Fs fuel n) (.tup (.cons (.prim1 .list (.var 7)) (.cons (.idx (.brw 6) (.var 7)) .nil)))) (σ:=[vl (.list ps),vl (.list (found.map prD)),y2,y3,z4,z5,vl (.dict (R.map enP))])
  (c:=fun _=>true) (F:=chF R) rfl (ds:=R.map fun q=>.tuple q.1) fun d hd=>by
   (refine elEA (List.mem_map.mp hd) fun q hq e_2=>?_; subst e_2)
   have hk:=keysOk_tup (hRc q hq) hRc
   have hk':zj3 (.tuple q.1) (R.map enP)=true:=by simp [zj3,hk]
   refine ⟨[.tuple q.1],rfl,rfl,fun _=>⟨false,?_⟩⟩
   simp [↓mkT2,p_lst,zse2,zix3,orS,chF,hk',find_enP hRc hs.nodup hq]
 refine ⟨R,?_,hs⟩
 have hres:(R.map fun q=>PyData.tuple q.1).map (chF R)=R.map prD:=by
  rw [List.map_map]
  refine List.map_congr_left fun q hq=>?_
  simp [chF,find_enP hRc hs.nodup hq]
 rw [List.filter_eq_self.mpr (by simp),hres] at hc
 have hRl:R.length≤size:=by have:=hs.len; unfold size; exact qy (qt this hfl)
 have hlast:ev (Ga Fs fuel n) ch_last [vl (.list ps),vl (.list (found.map prD)),y2,y3,z4,z5,ow (.dict (R.map enP))]=some (.list (R.map prD),true,[vl (.list ps),vl (.list (found.map prD)),y2,y3,z4,z5,vl (.dict (R.map enP))]):=by
  rw [ch_last,zv7,hsrc]
  show ((zi9 7 _ _ _ _).bind _)=_
  rw [zr6,hc]
  simp [mkL,hRl]
 have hbody:ex (Ga Fs fuel n) zq6 [vl (.list ps),none,none,none,none,none,none]=some (.ret (.list (R.map prD)) true):=by
  rw [zq6,zz0 (σ':=[vl (.list ps),ow (.list ([([],[])].map prD)),none,none,none,none,none]) (by simp [↓mkT2,↓mkL0,↓mkL1]),
  zz0 (σ':=[vl (.list ps),y1,y2,y3,y4,y5,none]) (by rw [zz4]; exact e1),
  zz0 (σ':=[vl (.list ps),y1,y2,y3,y4,y5,ow (.dict [])]) (by simp),
  zz0 (σ':=[vl (.list ps),vl (.list (found.map prD)),y2,y3,z4,z5,ow (.dict (R.map enP))]) (by
   rw [zo8,show srcE (ev (Ga Fs fuel n) (.var 1)) [vl (.list ps),y1,y2,y3,y4,y5,ow (.dict [])]=some (found.map prD,[vl (.list ps),vl (.list (found.map prD)),y2,y3,y4,y5,ow (.dict [])]) by rcases hy1 with rfl|rfl<;>rfl]
   exact e2),
  zy0 (d:=.list (R.map prD)) (f:=true) (by rw [zr5,hlast]; rfl)]
 exact zz7 h rfl hbody
end Pl
end
section
namespace Pl
open Mini PySem
variable {Fs:Fns} {fuel:Nat}
noncomputable def wo_body:I:=(.cons (.iff (.cmp .NotIn (.var 3) (.brw 2)) (.cons (.ret .cnone) .nil) .nil) (.cons (.rem 2 (.var 3)) .nil))
noncomputable def zt5:I:=(.cons (.asg 2 (.prim1 .list (.var 0))) (.cons (.for1 3 (.var 1) wo_body) (.cons (.ret (.var 2)) .nil)))
theorem inD_list (x:D) (l:List D):inD x (.list l)=if okd x&&l.all okd then some (l.any fun y=>PyData.eqv y x) else none:=rfl
theorem any_eqv {g:D} (hg:zz5 g=true) {l:List D} (hl:∀ x∈l,zz5 x=true):(l.any fun y=>PyData.eqv y g)=true↔g∈l:=by
 rw [List.any_eq_true]
 constructor
 ·rintro ⟨x,hx,e⟩; rw [← (zw1 (hl x hx) hg).mp e]; exact hx
 ·exact fun h=>⟨g,h,zo1 hg⟩
theorem rem_perm {g:D} (hg:zz5 g=true) {l:List D} (hl:∀ x∈l,zz5 x=true) (hm:g∈l):(g::l.eraseIdx (l.findIdx fun y=>PyData.eqv y g)).Perm l:=by
 have hlt:(l.findIdx fun y=>PyData.eqv y g)<l.length:=List.findIdx_lt_length.mpr ⟨g,hm,zo1 hg⟩
 have e:=List.findIdx_getElem (w:=hlt)
 have e:=(zw1 (hl _ (List.getElem_mem hlt)) hg).mp e
 have h1:l=l.take (l.findIdx fun y=>PyData.eqv y g)++l[l.findIdx fun y=>PyData.eqv y g]::l.drop ((l.findIdx fun y=>PyData.eqv y g)+1):=by
  rw [← List.drop_eq_getElem_cons hlt,List.take_append_drop]
 rw [List.eraseIdx_eq_take_drop_succ]
 refine List.Perm.trans List.perm_middle.symm ?_
 rw [e] at h1
 exact List.Perm.of_eq h1.symm
theorem wo_loop {Γ:Mini.Env} {k:Nat} (hk:k≤100) {v0 v1:Option AV}:∀ (gs left:List D) (v3:Option AV),(∀ x∈gs,Can k x)→(∀ x∈left,Can k x) →
  (forN (zu2 3) (ex Γ wo_body) gs [v0,v1,ow (.list left),v3]=some (.ret .none false)∧¬ ∃ l,(gs++l).Perm left) ∨
  ∃ left' v3',forN (zu2 3) (ex Γ wo_body) gs [v0,v1,ow (.list left),v3]=some (.next [v0,v1,ow (.list left'),v3'])∧(gs++left').Perm left∧left'.Sublist left
 | [],left,v3,_,_=>.inr ⟨left,v3,rfl,List.Perm.refl _,List.Sublist.refl _⟩
 | g::gs,left,v3,hg,hl=>by
  have og:=(hg g mh).okd hk
  have ol:left.all okd=true:=List.all_eq_true.mpr fun x hx=>(hl x hx).okd hk
  have ol':∀ x∈left,okd x=true:=fun x hx=>(hl x hx).okd hk
  have pg:=(hg g mh).plain
  have pl:∀ x∈left,zz5 x=true:=fun x hx=>(hl x hx).plain
  by_cases hm:g∈left
  ·have ha:=(any_eqv pg pl).mpr hm
   have hp:=rem_perm pg pl hm
   have hs:=List.eraseIdx_sublist left (left.findIdx fun y=>PyData.eqv y g)
   generalize he:left.eraseIdx (left.findIdx fun y=>PyData.eqv y g)=l1 at hp hs
   have hin:inD g (.list left)=some true:=by rw [inD_list,og,ol,ha]; rfl
   have hrm:remL left g=some l1:=by rw [remL,og,ol,ha,he]; rfl
   have hb:ex Γ wo_body [v0,v1,ow (.list left),vl g]=some (.next [v0,v1,ow (.list l1),vl g]):=by
    rw [wo_body,zz0 (σ':=[v0,v1,ow (.list left),vl g]) (by simp [c_ni,hin]),
     zz0 (σ':=[v0,v1,ow (.list l1),vl g]) (by simp [eq_ex_rem,hrm])]
    rfl
   rcases wo_loop hk gs l1 (vl g) (fun x hx=>hg x (mt hx)) (fun x hx=>hl x (hs.subset hx)) with ⟨e,hn⟩|⟨l2,v3',e,h1,h2⟩
   ·refine .inl ⟨(for_next rfl hb).trans e,fun h=>h.elim fun l h=>hn ⟨l,?_⟩⟩
    exact List.Perm.cons_inv (h.trans hp.symm)
   ·exact .inr ⟨l2,v3',(for_next rfl hb).trans e,(h1.cons g).trans hp,h2.trans hs⟩
  ·have ha:(left.any fun y=>PyData.eqv y g)=false:=by
    rw [← Bool.not_eq_true]; exact fun e=>hm ((any_eqv pg pl).mp e)
   refine .inl ⟨?_,fun h=>h.elim fun l h=>hm (h.mem_iff.mp mh)⟩
   have hb:ex Γ wo_body [v0,v1,ow (.list left),vl g]=some (.ret .none false):=by
    have hin:inD g (.list left)=some false:=by rw [inD_list,og,ol,ha]; rfl
    rw [wo_body,zy0]
    simp [zz1,c_ni,hin]
   show (some [v0,v1,ow (.list left),vl g]).bind _=_
   simp only [Option.bind_some,hb,stepO]
theorem run_without (h:Has Fs "without" ⟨2,4,zt5⟩) (n:Nat) {k:Nat} (hk:k≤100) {ps gs:List D} (hp:∀ x∈ps,Can k x) (hg:∀ x∈gs,Can k x) :
  (run Fs glo fuel (n+1) "without" [.list ps,.list gs]=some (.none,false)∧¬ ∃ l,(gs++l).Perm ps) ∨
  ∃ l,run Fs glo fuel (n+1) "without" [.list ps,.list gs]=some (.list l,false)∧(gs++l).Perm ps∧l.Sublist ps:=by
 have e0:ex (Ga Fs fuel n) (.asg 2 (.prim1 .list (.var 0))) [vl (.list ps),vl (.list gs),none,none]=some (.next [vl (.list ps),vl (.list gs),ow (.list ps),none]):=by simp [p_lst,zse1,orS]
 rcases wo_loop (Γ:=Ga Fs fuel n) hk (v0:=vl (.list ps)) (v1:=vl (.list gs)) gs ps none hg hp with ⟨e,hn⟩|⟨l,v3,e,h1,h2⟩
 ·refine .inl ⟨zz7 h rfl ?_,hn⟩
  show ex (Ga Fs fuel n) zt5 [vl (.list ps),vl (.list gs),none,none]=_
  rw [zt5,zz0 e0,zy0]
  rw [zz4]; exact e
 ·refine .inr ⟨l,zz7 h rfl ?_,h1,h2⟩
  show ex (Ga Fs fuel n) zt5 [vl (.list ps),vl (.list gs),none,none]=_
  rw [zt5,zz0 e0,zz0 (by rw [zz4]; exact e)]
  rfl
theorem run_joinedL (h:Has Fs "parts_in" ⟨2,2,zx1⟩) (h2:Has Fs "joined" ⟨2,4,zw8⟩) (n:Nat) (s:Sn) {k:Nat} (hk:k≤100) {xs:List D} (hc:∀ x∈xs,Can k x) (hp:∀ x∈xs,parts s x=[x]) (hw:xs.Pairwise leD) (hl:xs.length≤20) :
  run Fs glo fuel (n+2) "joined" [.str s.str,.list xs]=some (.tuple (.str s.str::xs),false):=by
 have loop:∃ σ',forN (zu2 3) (ex (Ga Fs fuel (n+1)) (.cons (.ext 2 (.call "parts_in" (.cons (.var 0) (.cons (.var 3) .nil)))) .nil)) (xs.map id) [vl (.str s.str),vl (.list xs),ow (.list []),none]=some (.next σ') ∧
   ∃ y3,σ'=[vl (.str s.str),vl (.list xs),ow (.list xs),y3]:=by
  refine zy7 id (fun done σ=>∃ y3,σ=[vl (.str s.str),vl (.list xs),ow (.list done),y3]) ⟨_,rfl⟩ ?_
  rintro done x rest σ e ⟨y3,rfl⟩
  have hx:x∈xs:=by exact mm e
  have hr:=zq8 (fuel:=fuel) h n s (hc x hx).shp
  rw [hp x hx] at hr
  have hz:done.length+1<size:=by rw [e] at hl; simp at hl; unfold size; exact ql (Nat.succ_le_succ (Nat.le_add_right ..)) (qx hl)
  refine ⟨_,_,rfl,?_,vl x,rfl⟩
  rw [zz0 (σ':=[vl (.str s.str),vl (.list xs),ow (.list (done++[x])),vl x]) (by simp [zex1,hr,hz])]
  rfl
 rw [List.map_id] at loop
 (refine elEAE (loop) fun σ' e y3 e_3=>?_; subst e_3)
 have hsl:zx6 xs=xs:=(zo9 (zp7 hc) (List.Perm.refl _) hw).symm
 have hso:sortD xs=some (.list xs,true):=by
  have:=sortD_shp (l:=xs) (fun x hx=>(hc x hx).shp) (by exact qy (Nat.add_le_add_right hk 20)) (by exact qx hl)
  rw [this,hsl]
 have hz1:xs.length+1≤size:=by unfold size; exact qt (Nat.succ_le_succ hl) (by decide)
 have hz2:1+xs.length≤size:=by unfold size; exact qt (Nat.add_le_add_left hl 1) (by decide)
 refine zz7 h2 rfl ?_
 show ex (Ga Fs fuel (n+1)) zw8 [vl (.str s.str),vl (.list xs),none,none]=_
 rw [zw8,zz0 (σ':=[vl (.str s.str),vl (.list xs),ow (.list []),none]) (by simp [↓mkL0]),zz0 (by rw [zz4]; exact e),zy0 (d:=.tuple (.str s.str::xs)) (f:=false) (by simp [b_ad,zad1,↓mkL1,mkL_,p_tup,p_srt,zso1,zse1,r_srt,hso,hz1])]
noncomputable abbrev Kn:=List (Int×D)
noncomputable def enK (p:Int×D):D×D:=(.int p.1,p.2)
noncomputable abbrev dK (κ:Kn):D:=.dict (κ.map enK)
noncomputable def lk (κ:Kn) (i:Int):Option D:=(κ.find? fun p=>p.1==i).map (·.2)
theorem zm9 (κ:Kn) (i:Int):zs1 (κ.map enK) (.int i)=lk κ i:=by
 induction κ with
 | nil=>rfl
 | cons p r ih =>
  have e:PyData.eqv (enK p).1 (.int i)=(p.1==i):=rfl
  simp only [zs1,lk,List.map_cons,List.find?_cons,e] at ih ⊢
  cases hp:p.1==i with
  | true=>rfl
  | false=>exact ih
theorem dput_enK (κ:Kn) {i:Int} (v:D) (h:lk κ i=none):dput (κ.map enK) (.int i) v=(κ++[(i,v)]).map enK:=by
 induction κ with
 | nil=>rfl
 | cons p r ih =>
  have e:PyData.eqv (enK p).1 (.int i)=(p.1==i):=rfl
  simp only [lk,List.find?_cons] at h ih
  cases hp:p.1==i with
  | true=>rw [hp] at h; simp at h
  | false =>
   rw [hp] at h
   simp only [List.map_cons,dput,e,hp,Bool.false_eq_true,if_false,List.cons_append]
   rw [ih h]
theorem keys_enK (κ:Kn) (i:Int):zp2 (.int i) (κ.map enK)=true:=by
 simp only [zp2,kk_i,Option.isSome_some,Bool.true_and,List.all_eq_true,List.mem_map]
 rintro _ ⟨p,_,rfl⟩
 rfl
theorem zq3 (κ:Kn) (i:Int):zj3 (.int i) (κ.map enK)=true:=by simp [zj3,keys_enK]
theorem intKeys_enK (κ:Kn):zj0 (κ.map enK)=true:=by
 simp only [zj0,List.all_eq_true,List.mem_map]
 rintro _ ⟨p,_,rfl⟩
 simp [enK,kk_i]
theorem lk_mem {κ:Kn} {i:Int} {v:D} (h:lk κ i=some v):(i,v)∈κ:=by
 induction κ with
 | nil=>cases h
 | cons p r ih =>
  simp only [lk,List.find?_cons] at h ih
  cases hp:p.1==i with
  | true=>rw [hp] at h; simp at h hp; subst h hp; simp
  | false=>rw [hp] at h; exact List.mem_cons_of_mem _ (ih h)
theorem lk_none {κ:Kn} {i:Int} (h:lk κ i=none):∀ p∈κ,p.1≠i:=by
 intro p hp e
 simp only [lk,Option.map_eq_none_iff,List.find?_eq_none] at h
 exact h p hp (by simp [e])
theorem mem_lk {κ:Kn} (hn:(κ.map (·.1)).Nodup) {i:Int} {v:D} (h:(i,v)∈κ):lk κ i=some v:=by
 induction κ with
 | nil=>cases h
 | cons p r ih =>
  simp only [List.map_cons,List.nodup_cons] at hn
  simp only [lk,List.find?_cons] at ih ⊢
  rcases List.mem_cons.mp h with rfl|h
  ·simp
  ·cases hp:p.1==i with
   | true=>simp at hp; subst hp; exact absurd (List.mem_map.mpr ⟨_,h,rfl⟩) hn.1
   | false=>exact ih hn.2 h
noncomputable def Ag (f:Int→D) (κ:Kn):Prop:=∀ p∈κ,f p.1=p.2
theorem Ag.sub {f:Int→D} {κ κ':Kn} (h:Ag f κ') (hs:∀ x∈κ,x∈κ'):Ag f κ:=fun p hp=>h p (hs p hp)
theorem Ag.snoc {f:Int→D} {κ:Kn} {i:Int} {v:D} (h:Ag f κ) (e:f i=v):Ag f (κ++[(i,v)]):=fun p hp=>by
 rcases List.mem_append.mp hp with hp|hp
 ·exact h p hp
 ·simp at hp; subst hp; exact e
structure Ext (S P:D) (κ κ':Kn):Prop where
 sub:∀ x∈κ,x∈κ'
 nod:(κ'.map (·.1)).Nodup
 val:∀ x∈κ',x∈κ∨Tri S x.2
 dom:∀ i,Opn i P→∃ v,(i,v)∈κ'
 len:κ'.length≤κ.length+lv P
theorem opn_open {i j:Int} (h:Opn j (.tuple [.str "open", .int i])):j=i:=by
 generalize hd:(PyData.tuple [.str "open", .int i])=d at h
 cases h with
 | self=>simp at hd; exact hd.symm
 | @part x s l hx hy=>simp at hd; exact absurd hd.1 (zx4 true s)
theorem Ext.old {S:D} {κ:Kn} (hn:(κ.map (·.1)).Nodup) {i:Int} {v:D} (h:lk κ i=some v):Ext S (.tuple [.str "open", .int i]) κ κ :=
 ⟨fun x h=>h,hn,fun x h=>.inl h,fun j hj=>by rw [opn_open hj]; exact ⟨v,lk_mem h⟩,by simp⟩
theorem nod_snoc {κ:Kn} (hn:(κ.map (·.1)).Nodup) {i:Int} {v:D} (h:lk κ i=none):((κ++[(i,v)]).map (·.1)).Nodup:=by
 rw [List.map_append,List.nodup_append]
 refine ⟨hn,by simp,fun a ha b hb=>?_⟩
 simp at hb; subst hb
 (refine elEA (List.mem_map.mp ha) fun p hp e_2=>?_; subst e_2)
 exact lk_none h p hp
theorem Ext.new {S:D} {κ:Kn} (hn:(κ.map (·.1)).Nodup) {i:Int} {v:D} (h:lk κ i=none) (hv:Tri S v):Ext S (.tuple [.str "open", .int i]) κ (κ++[(i,v)]):=by
 refine ⟨fun x h=>List.mem_append_left _ h,nod_snoc hn h,fun x hx=>?_,fun j hj=>by rw [opn_open hj]; exact ⟨v,by simp⟩,by simp [lv,lvL]⟩
 rcases List.mem_append.mp hx with hx|hx
 ·exact .inl hx
 ·simp at hx; subst hx; exact .inr hv
end Pl
end
section
namespace Pl
open Mini PySem
variable {Fs:Fns} {fuel:Nat}
noncomputable abbrev prK (q:List D×Kn):D:=.tuple [.list q.1,dK q.2]
structure Stp (s:Sn) (T:List D) (p:D) (ps:List D) (w:Nat) (κ:Kn) (R:List (List D×Kn)):Prop where
 ext:∀ q∈R,Ext (.tuple (.str s.str::T)) p κ q.2
 sub:∀ q∈R,q.1.Sublist ps
 sound:∀ q∈R,∀ f,Ag f q.2→(parts s (fill f p)++q.1).Perm ps
 compl:∀ f,Ag f κ→(∀ i,Opn i p→∃ k,Can k (f i))→∀ l,(parts s (fill f p)++l).Perm ps→w≤l.length→∃ q∈R,Ag f q.2∧q.1.Perm l
 size:∀ x,zx2 (fun q=>x^lvL q.1) R≤(x+lv p)^lvL ps
noncomputable def om_known:I:=(.cons (.asg 5 (.call "without" (.cons (.var 2) (.cons (.call "parts_in" (.cons (.var 0) (.cons (.idx (.var 4) (.var 1)) .nil))) .nil)))) (.cons (.ret (.ite (.cmp .Is (.var 5) .cnone) (.lst .nil) (.lst (.cons (.tup (.cons (.var 5) (.cons (.var 4) .nil))) .nil)))) .nil))
noncomputable def om_add:I:=(.cons (.asg 8 (.prim1 .dict (.var 4))) (.cons (.sto 8 (.var 1) (.ite (.cmp .Eq (.prim1 .len (.var 7)) (.cint 1)) (.idx (.var 7) (.cint 0)) (.call "joined" (.cons (.var 0) (.cons (.var 7) .nil))))) (.cons (.app 6 (.tup (.cons (.var 5) (.cons (.var 8) .nil)))) .nil)))
noncomputable def om_body:I:=(.cons (.iff (.and (.cons (.cmp .NotEq (.var 7) (.lst .nil)) (.cons (.cmp .GtE (.prim1 .len (.var 5)) (.var 3)) .nil))) om_add .nil) .nil)
noncomputable def zw6:I:=(.cons (.iff (.cmp .In (.var 1) (.var 4)) om_known .nil) (.cons (.asg 6 (.lst .nil)) (.cons (.fors [7,5] (.call "choices" (.cons (.var 2) .nil)) om_body) (.cons (.ret (.var 6)) .nil))))
noncomputable def omP (w:Nat) (q:List D×List D):Bool:=!q.1.isEmpty&&decide (w≤q.2.length)
noncomputable def omQ (s:Sn) (i:Int) (κ:Kn) (q:List D×List D):List D×Kn:=(q.2,κ++[(i,zy3 s q.1)])
theorem in_enK (κ:Kn) (i:Int):inD (.int i) (dK κ)=some (lk κ i).isSome:=by
 simp [zin3,zq3,tkey,zm9]
theorem zs4:okd (.list [])=true:=by decide +kernel
theorem zt6 (l:List D):PyData.eqv (.list l) (.list [])=l.isEmpty:=by cases l<;>rfl
section
variable {s:Sn} {i:Int} {ps:List D} {w:Nat} {κ:Kn} {n:Nat}
noncomputable abbrev omS (s:Sn) (i:Int) (ps:List D) (w:Nat) (κ:Kn) (a b c d:Option AV):Mini.Sg:=[vl (.str s.str),vl (.int i),vl (.list ps),vl (.int w),vl (dK κ),a,b,c,d]
theorem om_body_step (h:Has Fs "parts_in" ⟨2,2,zx1⟩) (h2:Has Fs "joined" ⟨2,4,zw8⟩) {q:List D×List D} {acc:List (List D×Kn)} {x:Option AV} (hn:lk κ i=none) (hκ:κ.length<size) (hc:∀ x∈q.1,Can 7 x) (hp:∀ x∈q.1,parts s x=[x]) (hw:q.1.Pairwise leD) (hl:q.1.length≤20) (ha:acc.length+1<size) :
  ∃ y,ex (Ga Fs fuel (n+2)) om_body (omS s i ps w κ (vl (.list q.2)) (ow (.list (acc.map prK))) (vl (.list q.1)) x)=some (.next (omS s i ps w κ (vl (.list q.2)) (ow (.list ((acc++(if omP w q then [omQ s i κ q] else [])).map prK))) (vl (.list q.1)) y)):=by
 have o1:okd (.list q.1)=true:=zi0 hc (by bv_omega)
 have hcond:uno (.and (.cons (.cmp .NotEq (.var 7) (.lst .nil)) (.cons (.cmp .GtE (.prim1 .len (.var 5)) (.var 3)) .nil))) (ev (Ga Fs fuel (n+2)) (.and (.cons (.cmp .NotEq (.var 7) (.lst .nil)) (.cons (.cmp .GtE (.prim1 .len (.var 5)) (.var 3)) .nil)))) (omS s i ps w κ (vl (.list q.2)) (ow (.list (acc.map prK))) (vl (.list q.1)) x) =
   some (.bool (omP w q),omS s i ps w κ (vl (.list q.2)) (ow (.list (acc.map prK))) (vl (.list q.1)) x):=by
  cases he:q.1.isEmpty<;>simp [c_ge,c_ne,eqD,↓mkL0,zr2,zle1,omP,o1,zs4,zt6,he]
 cases hP:omP w q with
 | false =>
  refine ⟨x,?_⟩
  rw [om_body,zz0 (σ':=omS s i ps w κ (vl (.list q.2)) (ow (.list (acc.map prK))) (vl (.list q.1)) x) (by rw [zz6,hcond,hP]; rfl)]
  simp
 | true =>
  have hv:ev (Ga Fs fuel (n+2)) (.ite (.cmp .Eq (.prim1 .len (.var 7)) (.cint 1)) (.idx (.var 7) (.cint 0)) (.call "joined" (.cons (.var 0) (.cons (.var 7) .nil)))) (omS s i ps w κ (vl (.list q.2)) (ow (.list (acc.map prK))) (vl (.list q.1)) (ow (dK κ))) =
    some (zy3 s q.1,false,omS s i ps w κ (vl (.list q.2)) (ow (.list (acc.map prK))) (vl (.list q.1)) (ow (dK κ))):=by
   have hj:=run_joinedL (fuel:=fuel) h h2 n s (by bv_omega) hc hp hw hl
   match hq:q.1,hj with
   | [],hj=>simp [omP,hq] at hP
   | [y],_=>simp [c_eq,eqD,zr2,zle1,↓ix_l0,zw0,zr1,zy3]
   | y::z::r,hj =>
    have e:((r.length:Int)+1+1==1)=false:=by simp; bv_omega
    simp [c_eq,eqD,zr2,zle1,zw0,zr1,zy3,hj,e]
  have hk:=keys_enK κ i
  have hz:κ.length<size:=hκ
  refine ⟨vl (dK (κ++[(i,zy3 s q.1)])),?_⟩
  rw [om_body,zz0 (σ':=omS s i ps w κ (vl (.list q.2)) (ow (.list ((acc++[omQ s i κ q]).map prK))) (vl (.list q.1)) (vl (dK (κ++[(i,zy3 s q.1)])))),if_pos rfl]
  ·rfl
  rw [zz6,hcond,hP]
  show ex _ om_add _=_
  rw [om_add,zz0 (σ':=omS s i ps w κ (vl (.list q.2)) (ow (.list (acc.map prK))) (vl (.list q.1)) (ow (dK κ))) (by simp [p_dct,r_dct,zco,intKeys_enK]),
   zz0 (σ':=omS s i ps w κ (vl (.list q.2)) (ow (.list (acc.map prK))) (vl (.list q.1)) (ow (dK (κ++[(i,zy3 s q.1)])))) (by
    rw [eq_ex_sto,hv]
    simp [hk,hz,dput_enK κ _ hn]),
   zz0 (σ':=omS s i ps w κ (vl (.list q.2)) (ow (.list ((acc++[omQ s i κ q]).map prK))) (vl (.list q.1)) (vl (dK (κ++[(i,zy3 s q.1)])))) (by simp [↓mkT2,ha,omQ])]
  rfl
theorem bindT75 {q:List D×List D} {v0 v1 v2 v3 v4 v5 v6 v7 v8:Option AV}:bindT [7,5] (prD q) [v0,v1,v2,v3,v4,v5,v6,v7,v8]=some [v0,v1,v2,v3,v4,vl (.list q.2),v6,vl (.list q.1),v8]:=by
 simp [bT_,zat2,pa_n,pa_c,put]
theorem flat_filter {α β:Type} (p:α→Bool) (g:α→β):∀ l:List α,(l.flatMap fun x=>if p x then [g x] else [])=(l.filter p).map g
 | []=>rfl
 | x::r=>by
  rw [List.flatMap_cons,flat_filter p g r,List.filter_cons]
  split<;>rfl
theorem run_open_new (h:Has Fs "parts_in" ⟨2,2,zx1⟩) (h2:Has Fs "joined" ⟨2,4,zw8⟩) (h3:Has Fs "choices" ⟨1,7,zq6⟩) (h4:Has Fs "open_met" ⟨5,9,zw6⟩)
  (hn:lk κ i=none) (hκ:κ.length<size) (hc:∀ x∈ps,Can 7 x) (hp:∀ x∈ps,parts s x=[x]) (hw:ps.Pairwise leD) (hl:ps.length≤20) :
  ∃ R:List (List D×List D),Seen (zz9 [([],[])] ps) R∧run Fs glo fuel (n+3) "open_met" [.str s.str,.int i,.list ps,.int w,dK κ]=some (.list (((R.filter (omP w)).map (omQ s i κ)).map prK),false):=by
 refine elEA (run_choices (fuel:=fuel) h3 (n+1) hc hl) fun R hR hS=>?_
 refine ⟨R,hS,?_⟩
 have hRs:∀ q∈R,q.1.Sublist ps:=fun q hq=>by
  refine elEAEEAAA (zl5 ps _ q.1 q.2 (hS.mem q hq)) fun q0 h0 t' l' e1 e2 h1 _=>?_
  simp at h0; subst h0; simp at e1; exact e1▸h1
 have hRl:R.length≤2^20:=by
  have:=hS.len
  rw [zr9] at this
  have h2:=Nat.pow_le_pow_right (n:=2) (by bv_omega) hl
  simp at this; exact qt this h2
 have loop:∃ σ',forN (bindT [7,5]) (ex (Ga Fs fuel (n+2)) om_body) (R.map prD) (omS s i ps w κ none (ow (.list [])) none none)=some (.next σ') ∧
   ∃ a c d,σ'=omS s i ps w κ a (ow (.list ((R.flatMap fun q=>if omP w q then [omQ s i κ q] else []).map prK))) c d:=by
  refine zy7 prD (fun done σ=>∃ a c d,σ=omS s i ps w κ a (ow (.list ((done.flatMap fun q=>if omP w q then [omQ s i κ q] else []).map prK))) c d) ⟨_,_,_,rfl⟩ ?_
  rintro done q rest σ e ⟨a,c,d,rfl⟩
  have hq:q∈R:=by exact mm e
  have hs:=hRs q hq
  have hz:(done.flatMap fun q=>if omP w q then [omQ s i κ q] else []).length+1<size:=by
   rw [flat_filter,List.length_map]
   have:=List.length_filter_le (omP w) done
   have:R.length=done.length+(rest.length+1):=by exact lm e
   unfold size; exact ql (Nat.succ_le_succ (qt ‹_› (Nat.le_add_right done.length rest.length))) (qx (this▸hRl))
  obtain ⟨y,ey⟩:=om_body_step (fuel:=fuel) (n:=n) (i:=i) (ps:=ps) (w:=w) (κ:=κ) h h2 (q:=q) (x:=d) hn hκ (fun x hx=>hc x (hs.subset hx)) (fun x hx=>hp x (hs.subset hx)) (hw.sublist hs) (Nat.le_trans hs.length_le hl) hz
  refine ⟨_,_,bindT75,ey,vl (.list q.2),vl (.list q.1),y,?_⟩
  simp [List.flatMap_append]
 (refine elEAEEE (loop) fun σ' e a c d e_5=>?_; subst e_5)
 rw [flat_filter] at e
 refine zz7 h4 rfl ?_
 show ex (Ga Fs fuel (n+2)) zw6 (omS s i ps w κ none none none none)=_
 rw [zw6,zz0 (σ':=omS s i ps w κ none none none none) (by simp [c_in,in_enK,hn]),
  zz0 (σ':=omS s i ps w κ none (ow (.list [])) none none) (by simp [↓mkL0]),
  zz0 (by rw [zo8,show srcE (ev (Ga Fs fuel (n+2)) (.call "choices" (.cons (.var 2) .nil))) (omS s i ps w κ none (ow (.list [])) none none)=some (R.map prD,omS s i ps w κ none (ow (.list [])) none none) by simp [zit1,hR]]; exact e),
  zy0 (d:=.list (((R.filter (omP w)).map (omQ s i κ)).map prK)) (f:=false) (by simp)]
theorem run_open_old (h:Has Fs "parts_in" ⟨2,2,zx1⟩) (h3:Has Fs "without" ⟨2,4,zt5⟩) (h4:Has Fs "open_met" ⟨5,9,zw6⟩) {v:D} {k:Nat} (hk:k≤100) (hs:s≠.pair)
  (hn:lk κ i=some v) (hv:Can k v) (hc:∀ x∈ps,Can k x) :
  ∃ R:List (List D×Kn),run Fs glo fuel (n+2) "open_met" [.str s.str,.int i,.list ps,.int w,dK κ]=some (.list (R.map prK),true) ∧
   ((R=[]∧¬ ∃ l,(parts s v++l).Perm ps)∨∃ l,R=[(l,κ)]∧(parts s v++l).Perm ps∧l.Sublist ps):=by
 have hr:=zq8 (fuel:=fuel) h n s hv.shp
 have e0:ex (Ga Fs fuel (n+1)) (.iff (.cmp .In (.var 1) (.var 4)) om_known .nil) (omS s i ps w κ none none none none)=ex (Ga Fs fuel (n+1)) om_known (omS s i ps w κ none none none none):=by
  simp [c_in,in_enK,hn]
 rcases run_without (fuel:=fuel) h3 n hk hc (hv.parts_can hs) with ⟨e,hno⟩|⟨l,e,h1,h2⟩
 ·refine ⟨[],zz7 h4 rfl ?_,.inl ⟨rfl,hno⟩⟩
  show ex (Ga Fs fuel (n+1)) zw6 (omS s i ps w κ none none none none)=_
  rw [zw6]
  refine zy0 (d:=.list []) (f:=true) ?_
  rw [e0,om_known,zz0 (σ':=omS s i ps w κ (vl .none) none none none) (by simp [zix3,zq3,zm9,hn,hr,e]),zy0]
  simp [c_is,↓mkL0,in_n]
 ·refine ⟨[(l,κ)],zz7 h4 rfl ?_,.inr ⟨l,rfl,h1,h2⟩⟩
  show ex (Ga Fs fuel (n+1)) zw6 (omS s i ps w κ none none none none)=_
  rw [zw6]
  refine zy0 (d:=.list ([(l,κ)].map prK)) (f:=true) ?_
  rw [e0,om_known,zz0 (σ':=omS s i ps w κ (vl (.list l)) none none none) (by simp [zix3,zq3,zm9,hn,hr,e]),zy0]
  simp [c_is,↓mkT2,↓mkL1,in_l]
end
end Pl
end
section
namespace Pl
open Mini PySem
variable {Fs:Fns} {fuel:Nat}
theorem pow_grow {x a m n:Nat} (h:m≤n):x^m≤(x+a+1)^n :=
 Nat.le_trans (Nat.pow_le_pow_left (by bv_omega) m) (Nat.pow_le_pow_right (by bv_omega) h)
structure Lft (s:Sn) (T ps:List D):Prop where
 sub:ps.Sublist T
 can:∀ x∈T,Can 7 x
 non:∀ x∈T,parts s x=[x]
 srt:T.Pairwise leD
 len:T.length≤20
structure Knw (κ:Kn):Prop where
 nod:(κ.map (·.1)).Nodup
 can:∀ p∈κ,Can 7 p.2
theorem zo5 {ps:List D} {q:List D×List D} (h:q∈zz9 [([],[])] ps):q.1.Sublist ps∧q.2.Sublist ps∧(q.1++q.2).Perm ps:=by
 refine elEAEEAAAA (zl5 ps _ q.1 q.2 h) fun q0 h0 t' l' e1 e2 h1 h2 h3=>?_
 simp at h0; subst h0; simp at e1 e2; subst e1 e2; exact ⟨h1,h2,h3⟩
theorem open_met_ok (h:Has Fs "parts_in" ⟨2,2,zx1⟩) (h2:Has Fs "joined" ⟨2,4,zw8⟩) (h3:Has Fs "choices" ⟨1,7,zq6⟩) (h4:Has Fs "open_met" ⟨5,9,zw6⟩) (h5:Has Fs "without" ⟨2,4,zt5⟩)
  {s:Sn} (hs:s≠.pair) {T ps:List D} (L:Lft s T ps) {κ:Kn} (K:Knw κ) (hκ:κ.length<size) (i:Int) (w n:Nat) :
  ∃ R fl,run Fs glo fuel (n+3) "open_met" [.str s.str,.int i,.list ps,.int w,dK κ]=some (.list (R.map prK),fl)∧Stp s T (.tuple [.str "open", .int i]) ps w κ R:=by
 have hc:∀ x∈ps,Can 7 x:=fun x hx=>L.can x (L.sub.subset hx)
 have hp:∀ x∈ps,parts s x=[x]:=fun x hx=>L.non x (L.sub.subset hx)
 have hw:ps.Pairwise leD:=L.srt.sublist L.sub
 have hl:ps.length≤20:=Nat.le_trans L.sub.length_le L.len
 cases hk:lk κ i with
 | some v =>
  have hm:=lk_mem hk
  have hv:=K.can _ hm
  have hf:∀ f,Ag f κ→fill f (.tuple [.str "open", .int i])=v:=fun f ha=>(zt1 f i).trans (ha _ hm)
  refine elEA (run_open_old (fuel:=fuel) (n:=n+1) (w:=w) h h5 h4 (by bv_omega) hs hk hv hc) fun R e hR=>?_
  refine ⟨R,true,e,?_⟩
  rcases hR with ⟨rfl,hno⟩|⟨l,rfl,h1,hsb⟩
  ·refine ⟨by simp,by simp,by simp,fun f ha _ l hl' _=>?_,fun x=>Nat.zero_le _⟩
   rw [hf f ha] at hl'
   exact absurd ⟨l,hl'⟩ hno
  ·refine ⟨fun q hq=>?_,fun q hq=>?_,fun q hq f ha=>?_,fun f ha _ l' hl' _=>?_,fun x=>?_⟩
   ·simp at hq; subst hq; exact Ext.old K.nod hk
   ·simp at hq; subst hq; exact hsb
   ·simp at hq; subst hq; rw [hf f ha]; exact h1
   ·rw [hf f ha] at hl'
    exact ⟨(l,κ),by simp,ha,(List.perm_append_left_iff _).mp (h1.trans hl'.symm)⟩
   ·simp only [zx2,lv,lvL]
    exact pow_grow (a:=0) (zn3 hsb)
 | none =>
  refine elEA (run_open_new (fuel:=fuel) (n:=n) (w:=w) h h2 h3 h4 hk hκ hc hp hw hl) fun R hS e=>?_
  refine ⟨_,false,e,?_⟩
  have hmem:∀ q∈(R.filter (omP w)).map (omQ s i κ),∃ p∈zz9 [([],[])] ps,p.1≠[]∧q=omQ s i κ p:=fun q hq=>by
   (refine elEA (List.mem_map.mp hq) fun p hp e_2=>?_; subst e_2)
   obtain ⟨hp1,hp2⟩:=List.mem_filter.mp hp
   refine ⟨p,hS.mem p hp1,fun e=>?_,rfl⟩
   simp [omP,e] at hp2
  have hof:∀ {t:List D},t.Sublist ps→t≠[]→parts s (zy3 s t)=t:=fun {t} ht hn =>
   (ofParts_can hs hn (Nat.le_trans ht.length_le hl) (fun x hx=>hc x (ht.subset hx)) (fun x hx=>hp x (ht.subset hx)) (hw.sublist ht)).2
  refine ⟨fun q hq=>?_,fun q hq=>?_,fun q hq f ha=>?_,fun f ha hcf l hl' hwl=>?_,fun x=>?_⟩
  ·(refine elEAA (hmem q hq) fun p hp hne e_3=>?_; subst e_3)
   exact Ext.new K.nod hk (.some hs ((zo5 hp).1.trans L.sub) hne)
  ·(refine elEAA (hmem q hq) fun p hp hne e_3=>?_; subst e_3)
   exact (zo5 hp).2.1
  ·(refine elEAA (hmem q hq) fun p hp hne e_3=>?_; subst e_3)
   have hfi:f i=zy3 s p.1:=ha (i,zy3 s p.1) (mr mh)
   rw [zt1,hfi,hof (zo5 hp).1 hne]
   exact (zo5 hp).2.2
  ·obtain ⟨k,hcf⟩:=hcf i (.self i)
   rw [zt1] at hl'
   refine elEEAA (zs7 ps [([],[])] ([],[]) mh hl') fun t l0 hm ht hl0=>?_
   simp only [List.nil_append] at hm
   have hts:=(zo5 hm).1
   have htc:∀ x∈t,Can 7 x:=fun x hx=>hc x (hts.subset hx)
   have hte:t=parts s (f i):=zt3 (zp7 htc) (hw.sublist hts) (hcf.parts_sorted hs) ht
   refine elEA (hS.all _ hm) fun q' hq' e1=>?_
   simp only at e1
   have hq'':=zo5 (hS.mem _ hq')
   have hp2:q'.2.Perm l:=(List.perm_append_left_iff (parts s (f i))).mp (by
    rw [← hte,← e1]
    refine hq''.2.2.trans ?_
    rw [e1,hte]
    exact hl'.symm)
   have htn:t≠[]:=by
    rintro rfl
    have:=(hcf.parts_pos hs).1
    rw [← hte] at this; simp at this
   refine ⟨omQ s i κ q',List.mem_map.mpr ⟨q',List.mem_filter.mpr ⟨hq',?_⟩,rfl⟩,ha.snoc ?_,hp2⟩
   ·have:=hp2.length_eq
    have hne:q'.1.isEmpty=false:=by rw [e1]; cases t with|nil=>exact absurd rfl htn|cons _ _=>rfl
    simp only [omP,hne,Bool.not_false,Bool.true_and,decide_eq_true_eq]
    exact qt hwl (Nat.le_of_eq this.symm)
   ·rw [e1,hte]; exact (zr3 hs hcf).symm
  ·have hpos:∀ p∈ps,1≤lv p:=fun p hp=>(hc p hp).lv_pos
   have a1:=splits_sum x ps hpos [([],[])]
   have a2:=hS.sum fun l=>x^lvL l
   have a3:=sum_filter (fun q:List D×List D=>x^lvL q.2) (omP w) R
   rw [sum_map]
   simp only [omQ]
   have e1:lv (.tuple [.str "open", .int i])=1:=by simp [lv,lvL]
   rw [e1]
   simp only [zx2,lvL,Nat.pow_zero,Nat.add_zero,Nat.one_mul] at a1
   exact Nat.le_trans a3 (Nat.le_trans a2 a1)
structure Met (P S:D) (κ:Kn) (R:List Kn):Prop where
 ext:∀ κ'∈R,Ext S P κ κ'
 sound:∀ κ'∈R,∀ f,Ag f κ'→fill f P=S
 compl:∀ f,Ag f κ→(∀ i,Opn i P→∃ k,Can k (f i))→fill f P=S→∃ κ'∈R,Ag f κ'
 size:R.length≤lv P^lv S
noncomputable def pm_in:I:=(.cons (.app 3 (.tup (.cons (.bin .Add (.slc (.var 1) .omit (.var 4)) (.slc (.var 1) (.bin .Add (.var 4) (.cint 1)) .omit)) (.cons (.var 5) .nil)))) .nil)
noncomputable def pm_if:I:=(.iff (.cmp .NotIn (.idx (.var 1) (.var 4)) (.slc (.var 1) .omit (.var 4))) (.cons (.for1 5 (.call "met" (.cons (.var 0) (.cons (.idx (.var 1) (.var 4)) (.cons (.var 2) .nil)))) pm_in) .nil) .nil)
noncomputable def zn6:I:=(.cons (.asg 3 (.lst .nil)) (.cons (.for1 4 (.rng1 (.prim1 .len (.var 1))) (.cons pm_if .nil)) (.cons (.ret (.var 3)) .nil)))
noncomputable abbrev pmS (p:D) (ps:List D) (κ:Kn) (a b c:Option AV):Mini.Sg:=[vl p,vl (.list ps),vl (dK κ),a,b,c]
theorem slice_pre {α:Type} (pre post:List α) (j:Int) (hj:j=(pre.length:Int)):zv0 (pre++post) none (some j)=pre:=by
 subst hj
 have e:clampI (pre++post).length (pre.length:Int)=pre.length:=by
  simp only [clampI,List.length_append]
  rw [if_neg (by bv_omega)]
  simp
 simp only [zv0,e]
 simp
theorem slice_post {α:Type} (pre post:List α) (j:Int) (hj:j=(pre.length:Int)):zv0 (pre++post) (some j) none=post:=by
 subst hj
 have e:clampI (pre++post).length (pre.length:Int)=pre.length:=by
  simp only [clampI,List.length_append]
  rw [if_neg (by bv_omega)]
  simp
 simp only [zv0,e]
 rw [List.take_length,List.drop_left]
theorem pm_in_step {Γ:Mini.Env} {p d:D} {pre post:List D} {κ κ':Kn} {acc:List (List D×Kn)} (hl:(pre++d::post).length≤20) (ha:acc.length+1<size) :
  ex Γ pm_in (pmS p (pre++d::post) κ (ow (.list (acc.map prK))) (vl (.int pre.length)) (vl (dK κ')))=some (.next (pmS p (pre++d::post) κ (ow (.list ((acc++[(pre++post,κ')]).map prK))) (vl (.int pre.length)) (vl (dK κ')))):=by
 have hl':pre.length+(post.length+1)≤20:=by simpa using hl
 have e1:=slice_pre pre (d::post) (pre.length:Int) rfl
 have e2:zv0 (pre++d::post) (some ((pre.length:Int)+1)) none=post:=by
  have:=slice_post (pre++[d]) post ((pre.length:Int)+1) (by simp)
  simpa using this
 have z1:pre.length+post.length≤size:=by unfold size; exact qy (qt (Nat.add_le_add_left (Nat.le_add_right ..) _) hl')
 have z2:(pre.length:Int).natAbs<2^62:=by exact na62 (qf hl')
 have z3:((pre.length:Int)+1).natAbs<2^62:=by exact na63 (qt (qa (Nat.le_refl _) (Nat.le_add_left ..)) hl')
 rw [pm_in,zz0 (σ':=pmS p (pre++d::post) κ (ow (.list ((acc++[(pre++post,κ')]).map prK))) (vl (.int pre.length)) (vl (dK κ'))) (by
  simp only [q_app,sl3,q_oL,oL_]
  simp only [eq_ev_cint,eq_ev_var,q_bin,q_tup,zw9,q_cons,o_var,o_cint,o_slc,q_duo,q_use,use_v,res,q_look,sl1,sl4,↓b_add,b_ad,zad1,mkL_,bE_o,bE_v,bE_b,kbe_,kbe2_,zsl1,bD_,kq_,kbin_,kap_,kdu3_,kdu2_,kdu1_,kdu_,kdat_,Option.bind_some,bD_,z2,z3,if_true,e1,e2]
  simp [↓mkT2,z1,ha])]
 rfl
end Pl
end
section
namespace Pl
open Mini PySem
variable {Fs:Fns} {fuel:Nat}
noncomputable def pw (a x:Nat):List D→Nat
 | []=>0
 | d::r=>a^lv d*x^lvL r+x^lv d*pw a x r
theorem pw_le (a x:Nat):∀ {l:List D},(∀ d∈l,1≤lv d)→pw a x l≤(x+a)^lvL l
 | [],_=>Nat.zero_le _
 | d::r,h=>by
  have ih:=pw_le a x (l:=r) fun y hy=>h y (mt hy)
  have h1:=pow_add_le a x (lv d) (h d mh)
  rw [pw,lvL,Nat.pow_add]
  have h2:x^lvL r≤(x+a)^lvL r:=Nat.pow_le_pow_left (by bv_omega) _
  have h3:=Nat.mul_le_mul_left (a^lv d) h2
  have h4:=Nat.mul_le_mul_left (x^lv d) ih
  have h5:=Nat.mul_le_mul_right ((x+a)^lvL r) h1
  rw [Nat.add_mul,Nat.add_comm a x] at h5
  exact qt (qa h3 h4) h5
theorem pw_snoc (a x:Nat) (d:D):∀ l:List D,pw a x (l++[d])=pw a x l*x^lv d+x^lvL l*a^lv d
 | []=>by simp [pw,lvL]
 | y::r=>by
  simp only [List.cons_append,pw,pw_snoc a x d r,zz8,lvL,Nat.add_zero,Nat.pow_add,Nat.mul_add,Nat.add_mul]
  simp only [Nat.mul_comm,Nat.mul_left_comm,Nat.add_assoc]
theorem range_at {N:Nat} {done rest:List Nat} {a:Nat} (h:List.range N=done++a::rest):a=done.length∧a<N:=by
 have hl:done.length<N:=by have:=congrArg List.length h; simp at this; exact this▸Nat.lt_add_of_pos_right (Nat.succ_pos _)
 have:=congrArg (fun l=>l[done.length]?) h
 simp [List.getElem?_range hl] at this
 exact ⟨this.symm,this▸hl⟩
theorem pm_in_loop {Γ:Mini.Env} {p d:D} {pre post:List D} {κ:Kn} {acc:List (List D×Kn)} {c:Option AV} (hl:(pre++d::post).length≤20) (K:List Kn) (ha:acc.length+K.length<size) :
  ∃ c',forN (zu2 5) (ex Γ pm_in) (K.map dK) (pmS p (pre++d::post) κ (ow (.list (acc.map prK))) (vl (.int pre.length)) c)=some (.next (pmS p (pre++d::post) κ (ow (.list ((acc++K.map fun κ'=>(pre++post,κ')).map prK))) (vl (.int pre.length)) c')):=by
 have loop:=zy7 (bnd:=zu2 5) (body:=ex Γ pm_in) dK (fun done σ=>∃ c',σ=pmS p (pre++d::post) κ (ow (.list ((acc++done.map fun κ'=>(pre++post,κ')).map prK))) (vl (.int pre.length)) c') (L:=K)
  (σ:=pmS p (pre++d::post) κ (ow (.list (acc.map prK))) (vl (.int pre.length)) c) ⟨c,by simp⟩ (by
   rintro done κ' rest σ e ⟨c',rfl⟩
   have hz:(acc++done.map fun κ'=>(pre++post,κ')).length+1<size:=by
    have:K.length=done.length+(rest.length+1):=by exact lm e
    simp; exact nad (this▸ha)
   refine ⟨_,_,rfl,pm_in_step hl hz,vl (dK κ'),?_⟩
   simp)
 (refine elEAE (loop) fun σ' e c' e_3=>?_; subst e_3)
 exact ⟨c',e⟩
structure Pmv (s:Sn) (T:List D) (p:D) (ps:List D) (κ:Kn) (j:Nat) (R:List (List D×Kn)):Prop where
 ext:∀ q∈R,Ext (.tuple (.str s.str::T)) p κ q.2
 sub:∀ q∈R,q.1.Sublist ps
 sound:∀ q∈R,∀ f,Ag f q.2→(fill f p::q.1).Perm ps
 compl:∀ f,Ag f κ→(∀ i,Opn i p→∃ k,Can k (f i))→fill f p∈ps.take j→∃ q∈R,Ag f q.2
 size:∀ x,zx2 (fun q=>x^lvL q.1) R≤pw (lv p) x (ps.take j)*x^lvL (ps.drop j)
theorem pmv_step {s:Sn} {T:List D} {p d:D} {pre post:List D} {κ:Kn} {R:List (List D×Kn)} (hd:(pre++d::post).Sublist T) (h:Pmv s T p (pre++d::post) κ pre.length R)
  {K:List Kn} (hK:(d∈pre∧K=[])∨(d∉pre∧Met p d κ K)):Pmv s T p (pre++d::post) κ (pre.length+1) (R++K.map fun κ'=>(pre++post,κ')):=by
 have hdT:d∈T:=hd.subset (mr mh)
 have ht:(pre++d::post).take (pre.length+1)=pre++[d]:=by
  rw [show pre++d::post=(pre++[d])++post by simp,List.take_left' (by simp)]
 have ht0:(pre++d::post).take pre.length=pre:=List.take_left
 have hr:(pre++d::post).drop (pre.length+1)=post:=by
  rw [show pre++d::post=(pre++[d])++post by simp,List.drop_left' (by simp)]
 have hr0:(pre++d::post).drop pre.length=d::post:=List.drop_left
 refine ⟨fun q hq=>?_,fun q hq=>?_,fun q hq f ha=>?_,fun f ha hc hm=>?_,fun x=>?_⟩
 ·rcases List.mem_append.mp hq with hq|hq
  ·exact h.ext q hq
  ·(refine elEA (List.mem_map.mp hq) fun κ' hk e_2=>?_; subst e_2)
   rcases hK with ⟨_,rfl⟩|⟨_,M⟩
   ·cases hk
   ·have e:=M.ext κ' hk
    exact ⟨e.sub,e.nod,fun x hx=>(e.val x hx).imp id fun t=>.part hdT t,e.dom,e.len⟩
 ·rcases List.mem_append.mp hq with hq|hq
  ·exact h.sub q hq
  ·(refine elEA (List.mem_map.mp hq) fun κ' hk e_2=>?_; subst e_2)
   exact (List.Sublist.refl pre).append (List.sublist_cons_self d post)
 ·rcases List.mem_append.mp hq with hq|hq
  ·exact h.sound q hq f ha
  ·(refine elEA (List.mem_map.mp hq) fun κ' hk e_2=>?_; subst e_2)
   rcases hK with ⟨_,rfl⟩|⟨_,M⟩
   ·cases hk
   ·rw [M.sound κ' hk f ha]
    exact List.perm_middle.symm
 ·rw [ht] at hm
  rcases List.mem_append.mp hm with hm|hm
  ·refine elEA (h.compl f ha hc (by rw [ht0]; exact hm)) fun q hq e=>?_
   exact ⟨q,List.mem_append_left _ hq,e⟩
  ·simp at hm
   rcases hK with ⟨hin,_⟩|⟨_,M⟩
   ·refine elEA (h.compl f ha hc (by rw [ht0,hm]; exact hin)) fun q hq e=>?_
    exact ⟨q,List.mem_append_left _ hq,e⟩
   ·refine elEA (M.compl f ha hc hm) fun κ' hk e=>?_
    exact ⟨(pre++post,κ'),List.mem_append_right _ (List.mem_map.mpr ⟨κ',hk,rfl⟩),e⟩
 ·have a1:=h.size x
  rw [ht0,hr0] at a1
  rw [ht,hr,pw_snoc,zo3,sum_map]
  have a2:zx2 (fun _:Kn=>x^lvL (pre++post)) K≤lv p^lv d*x^lvL (pre++post):=by
   rw [sum_const]
   refine Nat.mul_le_mul_right _ ?_
   rcases hK with ⟨_,rfl⟩|⟨_,M⟩
   ·exact Nat.zero_le _
   ·exact M.size
  rw [zz8,Nat.pow_add] at a2
  rw [lvL,Nat.pow_add] at a1
  have e1:(pw (lv p) x pre*x^lv d+x^lvL pre*lv p^lv d)*x^lvL post=pw (lv p) x pre*(x^lv d*x^lvL post)+lv p^lv d*(x^lvL pre*x^lvL post):=by
   rw [Nat.add_mul]
   simp only [Nat.mul_comm,Nat.mul_assoc,Nat.mul_left_comm]
  rw [e1]
  simp only [zz8,Nat.pow_add]
  exact qa a1 a2
theorem part_met_ok (h:Has Fs "part_met" ⟨3,6,zn6⟩) {m:Nat} {s:Sn} {T ps:List D} (L:Lft s T ps) {κ:Kn} {p:D} (hz:(1+lv p)^lvL T<size)
  (hm:∀ x∈T,∃ K fl,run Fs glo fuel m "met" [p,x,dK κ]=some (.list (K.map dK),fl)∧Met p x κ K) (hpf:∀ f,parts s (fill f p)=[fill f p]) (w:Nat) :
  ∃ R fl,run Fs glo fuel (m+1) "part_met" [p,.list ps,dK κ]=some (.list (R.map prK),fl)∧Stp s T p ps w κ R:=by
 have hc:∀ x∈ps,Can 7 x:=fun x hx=>L.can x (L.sub.subset hx)
 have hl:ps.length≤20:=Nat.le_trans L.sub.length_le L.len
 have hpos:∀ x∈ps,1≤lv x:=fun x hx=>(hc x hx).lv_pos
 have hlen:∀ {j:Nat} {R:List (List D×Kn)},Pmv s T p ps κ j R→R.length<size:=fun {j R} V=>by
  have a:=V.size 1
  simp only [Nat.one_pow,sum_one,Nat.mul_one] at a
  have b:=pw_le (lv p) 1 (l:=ps.take j) fun d hd=>hpos d (List.mem_of_mem_take hd)
  have c:lvL (ps.take j)≤lvL T:=zn3 ((List.take_sublist j ps).trans L.sub)
  have d:=Nat.pow_le_pow_right (n:=1+lv p) (by bv_omega) c
  exact ql (qt a (qt b d)) hz
 have loop:=zy7 (bnd:=zu2 4) (body:=ex (Ga Fs fuel m) (.cons pm_if .nil)) (fun k:Nat=>PyData.int (0+(k:Int))) (fun done σ=>∃ R a c,Pmv s T p ps κ done.length R∧σ=pmS p ps κ (ow (.list (R.map prK))) a c) (L:=List.range ps.length)
  (σ:=pmS p ps κ (ow (.list [])) none none) ⟨[],none,none,⟨by simp,by simp,by simp,by simp,fun x=>Nat.zero_le _⟩,rfl⟩ (by
   rintro done a rest σ e ⟨R,b,c,V,rfl⟩
   obtain ⟨ea,hlt⟩:=range_at e
   rw [← ea] at V
   have hsp:ps=ps.take a++ps[a]::ps.drop (a+1):=by rw [← List.drop_eq_getElem_cons hlt,List.take_append_drop]
   have hpl:(ps.take a).length=a:=by simp; exact Nat.min_eq_left (Nat.le_of_lt hlt)
   generalize hpre:ps.take a=pre at *
   generalize hpost:ps.drop (a+1)=post at *
   generalize hd:ps[a]=d at *
   rw [← hpl] at V
   have hdm:d∈ps:=by rw [← hd]; exact List.getElem_mem hlt
   refine elEEA (hm d (L.sub.subset hdm)) fun K fl eK M=>?_
   have okp:∀ x∈pre,okd x=true:=fun x hx=>(hc x (by exact mml hsp hx)).okd (by bv_omega)
   have okd':=(hc d hdm).okd (by bv_omega)
   have pp:∀ x∈pre,zz5 x=true:=fun x hx=>(hc x (by exact mml hsp hx)).plain
   have hal:pre.all okd=true:=List.all_eq_true.mpr okp
   have hz2:(a:Int).natAbs<2^62:=by exact na62 (qt (Nat.le_of_lt hlt) hl)
   have hz3:a<4611686018427387904:=by exact qx (qt (Nat.le_of_lt hlt) hl)
   have hidx:(pre++d::post)[a]?=some d:=by rw [← hpl]; simp
   have hslc:zv0 (pre++d::post) none (some (a:Int))=pre:=slice_pre pre (d::post) a (by rw [hpl])
   have hdone:(done++[a]).length=pre.length+1:=by simp [hpl,ea]
   subst hsp
   by_cases hin:d∈pre
   ·have hnin:inD d (.list pre)=some true:=by rw [inD_list,okd',hal,(any_eqv (hc d hdm).plain pp).mpr hin]; rfl
    refine ⟨_,pmS p (pre++d::post) κ (ow (.list (R.map prK))) (vl (.int a)) c,by rw [Int.zero_add]; rfl,?_,R++[].map fun κ'=>(pre++post,κ'),vl (.int a),c,?_,by simp⟩
    ·rw [zz0 (σ':=pmS p (pre++d::post) κ (ow (.list (R.map prK))) (vl (.int a)) c) (by
      rw [pm_if,zz6]
      simp [zw9,zz1,c_ni,zix1,bE_o,bE_v,zsl1,bD_,hidx,hz3,hslc,hnin])]
     rfl
    ·rw [hdone]; exact pmv_step L.sub V (.inl ⟨hin,rfl⟩)
   ·have hnin:inD d (.list pre)=some false:=by
     have hf:(pre.any fun y=>PyData.eqv y d)=false:=by
      rw [← Bool.not_eq_true]; exact fun e=>hin ((any_eqv (hc d hdm).plain pp).mp e)
     rw [inD_list,okd',hal,hf]; rfl
    have V':=pmv_step L.sub V (.inr ⟨hin,M⟩)
    have hzz:=hlen V'
    simp only [List.length_append,List.length_map] at hzz
    obtain ⟨c',ec⟩:=pm_in_loop (Γ:=Ga Fs fuel m) (p:=p) (d:=d) (pre:=pre) (post:=post) (κ:=κ) (acc:=R) (c:=c) hl K hzz
    rw [hpl] at ec
    refine ⟨_,_,by rw [Int.zero_add]; rfl,?_,_,vl (.int a),c',by rw [hdone]; exact V',rfl⟩
    rw [zz0 (σ':=pmS p (pre++d::post) κ (ow (.list ((R++K.map fun κ'=>(pre++post,κ')).map prK))) (vl (.int a)) c') (by
     rw [pm_if,zz6]
     have hcond:uno (.cmp .NotIn (.idx (.var 1) (.var 4)) (.slc (.var 1) .omit (.var 4))) (ev (Ga Fs fuel m) (.cmp .NotIn (.idx (.var 1) (.var 4)) (.slc (.var 1) .omit (.var 4)))) (pmS p (pre++d::post) κ (ow (.list (R.map prK))) (vl (.int a)) c)=some (.bool true,pmS p (pre++d::post) κ (ow (.list (R.map prK))) (vl (.int a)) c):=by
      simp [zw9,c_ni,zix1,bE_o,bE_v,zsl1,bD_,hidx,hz3,hslc,hnin]
     show (uno _ _ (pmS p (pre++d::post) κ (ow (.list (R.map prK))) (vl (.int a)) c)).bind _=_
     rw [hcond]
     show ex _ (.cons _ .nil) _=_
     rw [zz0 (σ':=pmS p (pre++d::post) κ (ow (.list ((R++K.map fun κ'=>(pre++post,κ')).map prK))) (vl (.int a)) c')]
     ·rfl
     rw [zz4,show srcE (ev (Ga Fs fuel m) (.call "met" (.cons (.var 0) (.cons (.idx (.var 1) (.var 4)) (.cons (.var 2) .nil))))) (pmS p (pre++d::post) κ (ow (.list (R.map prK))) (vl (.int a)) c)=some (K.map dK,pmS p (pre++d::post) κ (ow (.list (R.map prK))) (vl (.int a)) c) by simp [zix1,zit1,hidx,eK]]
     exact ec)]
    rfl)
 (refine elEAEEEA (loop) fun σ' e R b c V e_6=>?_; subst e_6)
 rw [List.length_range] at V
 refine ⟨R,false,zz7 h rfl ?_,V.ext,V.sub,fun q hq f ha=>?_,fun f ha hcf l hl' _=>?_,fun x=>?_⟩
 ·show ex (Ga Fs fuel m) zn6 (pmS p ps κ none none none)=_
  have hsz:zy9 (ps.length:Int)=true:=by simp only [zy9,decide_eq_true_eq]; exact na62 hl
  have hsz2:ps.length≤size:=by unfold size; exact qy hl
  rw [zn6,zz0 (σ':=pmS p ps κ (ow (.list [])) none none) (by simp [↓mkL0]),
   zz0 (by
    rw [zz4,show srcE (ev (Ga Fs fuel m) (.rng1 (.prim1 .len (.var 1)))) (pmS p ps κ (ow (.list [])) none none)=some ((List.range ps.length).map fun k:Nat=>PyData.int (0+(k:Int)),pmS p ps κ (ow (.list [])) none none) by
     simp [zr2,zle1,zai,zit1,hsz,hsz2,zs9]]
    exact e),
   zy0 (d:=.list (R.map prK)) (f:=false) (by simp)]
 ·rw [hpf]; exact V.sound q hq f ha
 ·rw [hpf] at hl'
  have hmem:fill f p∈ps:=hl'.mem_iff.mp mh
  refine elEA (V.compl f ha hcf (by rw [List.take_length]; exact hmem)) fun q hq e=>?_
  exact ⟨q,hq,e,List.Perm.cons_inv ((V.sound q hq f e).trans hl'.symm)⟩
 ·have a:=V.size x
  rw [List.take_length,List.drop_length] at a
  simp only [lvL,Nat.pow_zero,Nat.mul_one] at a
  exact Nat.le_trans a (pw_le (lv p) x hpos)
end Pl
end
section
namespace Pl
open Mini PySem
theorem opn_cons {i:Int} {s:Sn} {l:List D} (h:Opn i (.tuple (.str s.str::l))):∃ p∈l,Opn i p:=by
 generalize hd:(PyData.tuple (.str s.str::l))=d at h
 cases h with
 | self=>simp at hd; exact absurd hd.1.symm (zx4 true s)
 | @part x s' l' hx hy=>simp at hd; obtain ⟨_,rfl⟩:=hd; exact ⟨x,hx,hy⟩
theorem zv5 (s:Str) (l:List D):lv (.tuple (.str s::l))=lvL l:=by simp [lv,lvL]
theorem Ext.join {S p:D} {s:Sn} {done:List D} {κ κ1 κ2:Kn} (h1:Ext S (.tuple (.str s.str::done)) κ κ1) (h2:Ext S p κ1 κ2):Ext S (.tuple (.str s.str::(done++[p]))) κ κ2 where
 sub:=fun x hx=>h2.sub x (h1.sub x hx)
 nod:=h2.nod
 val:=fun x hx=>by
  rcases h2.val x hx with q|q
  ·exact h1.val x q
  ·exact .inr q
 dom:=fun i hi=>by
  refine elEA (opn_cons hi) fun y hy ho=>?_
  rcases List.mem_append.mp hy with hy|hy
  ·obtain ⟨v,hv⟩:=h1.dom i (.part hy ho)
   exact ⟨v,h2.sub _ hv⟩
  ·simp at hy; subst hy; exact h2.dom i ho
 len:=by
  have a:=h1.len
  have b:=h2.len
  rw [zv5] at a ⊢
  rw [zz8]
  simp only [lvL]
  exact qt b (qt (Nat.add_le_add_right a _) (Nat.le_of_eq (Nat.add_assoc ..)))
noncomputable def Cf (f:Int→D) (p:D):Prop:=∀ i,Opn i p→∃ k,Can k (f i)
noncomputable def fl (s:Sn) (f:Int→D) (l:List D):List D:=l.flatMap fun p=>parts s (fill f p)
theorem zi6 (s:Sn) (f:Int→D) (a b:List D):fl s f (a++b)=fl s f a++fl s f b:=by simp [fl]
theorem fl_one (s:Sn) (f:Int→D) (p:D):fl s f [p]=parts s (fill f p):=by simp [fl]
theorem fl_len {s:Sn} {f:Int→D}:∀ {l:List D},(∀ p∈l,1≤(parts s (fill f p)).length)→l.length≤(fl s f l).length
 | [],_=>Nat.zero_le _
 | p::r,h=>by
  have:=fl_len (l:=r) fun p hp=>h p (mt hp)
  have:=h p mh
  simp only [fl,List.flatMap_cons,List.length_append,List.length_cons] at *
  exact qt (Nat.le_of_eq (Nat.add_comm ..)) (qa this ‹_›)
structure Acc (s:Sn) (S p:D) (w:Nat) (qs acc:List (List D×Kn)):Prop where
 back:∀ q'∈acc,∃ q∈qs,Ext S p q.2 q'.2∧q'.1.Sublist q.1∧∀ f,Ag f q'.2→(parts s (fill f p)++q'.1).Perm q.1
 forth:∀ q∈qs,∀ f,Ag f q.2→Cf f p→∀ l,(parts s (fill f p)++l).Perm q.1→w≤l.length→∃ q'∈acc,Ag f q'.2∧q'.1.Perm l
 size:∀ x,zx2 (fun q=>x^lvL q.1) acc≤zx2 (fun q=>(x+lv p)^lvL q.1) qs
theorem Acc.nil {s:Sn} {S p:D} {w:Nat}:Acc s S p w [] []:=⟨by simp,by simp,fun x=>Nat.le_refl _⟩
theorem Acc.snoc {s:Sn} {T:List D} {p:D} {w:Nat} {qs acc R:List (List D×Kn)} {q:List D×Kn} (h:Acc s (.tuple (.str s.str::T)) p w qs acc) (hR:Stp s T p q.1 w q.2 R):Acc s (.tuple (.str s.str::T)) p w (qs++[q]) (acc++R):=by
 refine ⟨fun q' hq=>?_,fun q0 hq f ha hc l hl hw=>?_,fun x=>?_⟩
 ·rcases List.mem_append.mp hq with hq|hq
  ·refine elEA (h.back q' hq) fun q0 h0 e=>?_
   exact ⟨q0,by simp [h0],e⟩
  ·exact ⟨q,by simp,hR.ext q' hq,hR.sub q' hq,hR.sound q' hq⟩
 ·rcases List.mem_append.mp hq with hq|hq
  ·refine elEA (h.forth q0 hq f ha hc l hl hw) fun q' h1 h2=>?_
   exact ⟨q',by simp [h1],h2⟩
  ·simp at hq; subst hq
   refine elEA (hR.compl f ha hc l hl hw) fun q' h1 h2=>?_
   exact ⟨q',by simp [h1],h2⟩
 ·rw [zo3,zo3]
  have a:=h.size x
  have b:=hR.size x
  simp only [zx2]
  exact qa a b
structure Sts (s:Sn) (T l:List D) (κ:Kn) (done:List D) (sts:List (List D×Kn)):Prop where
 ext:∀ q∈sts,Ext (.tuple (.str s.str::T)) (.tuple (.str s.str::done)) κ q.2
 sub:∀ q∈sts,q.1.Sublist T
 sound:∀ q∈sts,∀ f,Ag f q.2→(fl s f done++q.1).Perm T
 compl:∀ f,Ag f κ→Cf f (.tuple (.str s.str::l))→(fl s f l).Perm T→∃ q∈sts,Ag f q.2∧(fl s f done++q.1).Perm T
 size:∀ x,zx2 (fun q=>x^lvL q.1) sts≤(x+lvL done)^lvL T
theorem Sts.init {s:Sn} {T l:List D} {κ:Kn} (hn:(κ.map (·.1)).Nodup):Sts s T l κ [] [(T,κ)]:=by
 refine ⟨fun q hq=>?_,fun q hq=>?_,fun q hq f ha=>?_,fun f ha _ _=>⟨_,List.mem_singleton.mpr rfl,ha,by simp [fl]⟩,fun x=>by simp [zx2,lvL]⟩
 ·simp at hq; subst hq
  refine ⟨fun x h=>h,hn,fun x h=>.inl h,fun i hi=>?_,by simp⟩
  refine elEA (opn_cons hi) fun p hp _=>?_
  cases hp
 ·simp at hq; subst hq; exact List.Sublist.refl _
 ·simp at hq; subst hq; simp [fl]
theorem Sts.next {s:Sn} {T l:List D} {κ:Kn} {done rest:List D} {p:D} {sts acc:List (List D×Kn)} (h:Sts s T l κ done sts) (e:l=done++p::rest) (hA:Acc s (.tuple (.str s.str::T)) p rest.length sts acc)
  (hne:∀ f,Cf f (.tuple (.str s.str::l))→∀ p∈l,1≤(parts s (fill f p)).length):Sts s T l κ (done++[p]) acc:=by
 refine ⟨fun q hq=>?_,fun q hq=>?_,fun q hq f ha=>?_,fun f ha hc hp=>?_,fun x=>?_⟩
 ·refine elEAA (hA.back q hq) fun q0 h0 h1 _=>?_
  exact (h.ext q0 h0).join h1
 ·refine elEAAA (hA.back q hq) fun q0 h0 _ h2 _=>?_
  exact h2.trans (h.sub q0 h0)
 ·refine elEAAA (hA.back q hq) fun q0 h0 h1 h2 h3=>?_
  have a:=h.sound q0 h0 f (ha.sub h1.sub)
  rw [zi6,fl_one,List.append_assoc]
  exact ((h3 f ha).append_left _).trans a
 ·refine elEAA (h.compl f ha hc hp) fun q hq ha' hp'=>?_
  have e1:fl s f l=fl s f done++(parts s (fill f p)++fl s f rest):=by
   rw [e,zi6,show p::rest=[p]++rest from rfl,zi6,fl_one]
  have h1:(parts s (fill f p)++fl s f rest).Perm q.1:=(List.perm_append_left_iff (fl s f done)).mp ((e1▸hp).trans hp'.symm)
  have hw:rest.length≤(fl s f rest).length:=fl_len fun p hp=>hne f hc p (by exact mmr e hp)
  refine elEAA (hA.forth q hq f ha' (fun i hi=>hc i (.part (by exact mm e) hi)) _ h1 hw) fun q' hq' a1 a2=>?_
  refine ⟨q',hq',a1,?_⟩
  rw [zi6,fl_one,List.append_assoc]
  exact ((a2.append_left _).append_left _).trans (e1▸hp)
 ·refine Nat.le_trans (hA.size x) (Nat.le_trans (h.size (x+lv p)) ?_)
  rw [zz8]
  simp only [lvL,Nat.add_zero]
  exact Nat.le_of_eq (by rw [show x+lv p+lvL done=x+(lvL done+lv p) by bv_omega])
theorem fill_nonopen {k:Nat} {s:Sn} {p:D} (hp:Can k p) (hn:parts s p=[p]) (hs:s≠.pair) (ho:∀ i,p≠.tuple [.str "open", .int i]) (f:Int→D):parts s (fill f p)=[fill f p]:=by
 cases hp with
 | leaf k o n =>
  cases o with
  | true=>exact absurd rfl (ho n)
  | false=>rw [show lstr false = "name" from rfl,zi7]; exact zl9 s false n
 | pair _ _=>rw [zn9]; exact zo7 hs _ _
 | @join k s' l hs' h2 _ _ _ _ =>
  rw [zm0 f hs']
  refine zq0 ?_ _
  rintro rfl
  rw [zt4] at hn
  have:=congrArg List.length hn
  simp at this; bv_omega
theorem Sts.met {s:Sn} (hs:s≠.pair) {T l:List D} {κ:Kn} {sts:List (List D×Kn)} (h:Sts s T l κ l sts) (hc:∀ x∈T,Can 7 x) (hw:T.Pairwise leD):Met (.tuple (.str s.str::l)) (.tuple (.str s.str::T)) κ ((sts.filter fun q=>q.1.isEmpty).map (·.2)):=by
 have key:∀ f,fill f (.tuple (.str s.str::l))=.tuple (.str s.str::zx6 (fl s f l)):=fun f=>by
  rw [zm0 f hs]
  simp [fl,List.flatMap_map]
 refine ⟨fun κ' hk=>?_,fun κ' hk f ha=>?_,fun f ha hcf e=>?_,?_⟩
 ·(refine elEA (List.mem_map.mp hk) fun q hq e_2=>?_; subst e_2)
  exact h.ext q (List.mem_filter.mp hq).1
 ·(refine elEA (List.mem_map.mp hk) fun q hq e_2=>?_; subst e_2)
  obtain ⟨hq1,hq2⟩:=List.mem_filter.mp hq
  have hp:=h.sound q hq1 f ha
  rw [List.isEmpty_iff.mp hq2,List.append_nil] at hp
  rw [key,← zo9 ((zp7 hc).perm hp) hp.symm hw]
 ·rw [key] at e
  have e:zx6 (fl s f l)=T:=by simpa using e
  have hp:(fl s f l).Perm T:=e▸(zz2 _).symm
  refine elEAA (h.compl f ha hcf hp) fun q hq h1 h2=>?_
  refine ⟨q.2,List.mem_map.mpr ⟨q,List.mem_filter.mpr ⟨hq,?_⟩,rfl⟩,h1⟩
  have a:=h2.length_eq
  have b:=hp.length_eq
  rw [List.length_append] at a
  rw [List.isEmpty_iff,← List.length_eq_zero_iff]
  bv_omega
 ·have a:=h.size 0
  rw [zv5,zv5,List.length_map,Nat.zero_add] at *
  refine Nat.le_trans ?_ a
  refine Nat.le_trans (len_le_sum (g:=fun q:List D×Kn=>0^lvL q.1) fun q hq=>?_) (sum_filter _ _ _)
  rw [List.isEmpty_iff.mp (List.mem_filter.mp hq).2]
  simp [lvL]
end Pl
end
section
namespace Pl
open Mini PySem
variable {Fs:Fns} {fuel:Nat}
theorem sum_sub {α:Type} (g:α→Nat) {a b:List α} (h:a.Sublist b):zx2 g a≤zx2 g b:=by
 induction h with
 | slnil=>exact Nat.le_refl _
 | cons _ _ ih=>simp only [zx2]; bv_omega
 | cons_cons _ _ ih=>simp only [zx2]; bv_omega
noncomputable def jm_open:I:=(.ext 6 (.call "open_met" (.cons (.idx (.var 0) (.cint 0)) (.cons (.idx (.var 5) (.cint 1)) (.cons (.var 7) (.cons (.bin .Sub (.bin .Sub (.prim1 .len (.var 0)) (.cint 1)) (.var 4)) (.cons (.var 8) .nil)))))))
noncomputable def jm_part:I:=(.ext 6 (.call "part_met" (.cons (.var 5) (.cons (.var 7) (.cons (.var 8) .nil)))))
noncomputable def jm_in:I:=(.cons (.iff (.cmp .Eq (.idx (.var 5) (.cint 0)) (.cstr "open")) (.cons jm_open .nil) (.cons jm_part .nil)) .nil)
noncomputable def jm_body:I:=(.cons (.asg 5 (.idx (.var 0) (.var 4))) (.cons (.asg 6 (.lst .nil)) (.cons (.fors [7,8] (.var 3) jm_in) (.cons (.asg 3 (.var 6)) .nil))))
noncomputable def jm_last:I:=(.compT 2 (.var 10) (.var 3) (.cmp .Eq (.var 9) (.lst .nil)))
noncomputable def jm_head:I:=(.iff (.cmp .NotEq (.idx (.var 1) (.cint 0)) (.idx (.var 0) (.cint 0))) (.cons (.ret (.lst .nil)) .nil) .nil)
noncomputable def zu9:I:=(.cons jm_head (.cons (.asg 3 (.lst (.cons (.tup (.cons (.prim1 .list (.slc (.var 1) (.cint 1) .omit)) (.cons (.var 2) .nil))) .nil))) (.cons (.for1 4 (.rng (.cint 1) (.prim1 .len (.var 0))) jm_body) (.cons (.ret jm_last) .nil))))
section
variable {s:Sn} {l:List D} {S:D} {κ:Kn} {m:Nat}
noncomputable abbrev jmS (s:Sn) (l:List D) (S:D) (κ:Kn) (a b c d e g:Option AV):Mini.Sg:=[vl (.tuple (.str s.str::l)),vl S,vl (dK κ),a,b,c,d,e,g]
noncomputable def PartR (Fs:Fns) (fuel m:Nat) (s:Sn) (p:D) (w:Nat) (q:List D×Kn) (R:List (List D×Kn)):Prop :=
 (∃ i f,p=.tuple [.str "open", .int i]∧run Fs glo fuel m "open_met" [.str s.str,.int i,.list q.1,.int w,dK q.2]=some (.list (R.map prK),f)) ∨
 (∃ x r f,p=.tuple (.str x::r)∧okd (.str x)=true∧(x == "open")=false∧run Fs glo fuel m "part_met" [p,.list q.1,dK q.2]=some (.list (R.map prK),f))
theorem jm_in_step {a:Option AV} {p:D} {w j:Nat} {q:List D×Kn} {acc R:List (List D×Kn)} (hw:l.length=j+w) (h:PartR Fs fuel m s p w q R) (hz:acc.length+R.length<size) :
  ex (Ga Fs fuel m) jm_in (jmS s l S κ a (vl (.int j)) (vl p) (ow (.list (acc.map prK))) (vl (.list q.1)) (vl (dK q.2)))=some (.next (jmS s l S κ a (vl (.int j)) (vl p) (ow (.list ((acc++R).map prK))) (vl (.list q.1)) (vl (dK q.2)))):=by
 have hz':(acc.map prK).length+(R.map prK).length<size:=by simpa using hz
 rcases h with ⟨i,f,rfl,e⟩|⟨x,r,f,rfl,h1,h2,e⟩
 ·have ew:((l.length:Int)+1 - 1 - (j:Int))=(w:Int):=by rw [Int.add_sub_cancel,hw]; exact Int.sub_eq_iff_eq_add'.mpr rfl
  rw [jm_in,zz0 (σ':=jmS s l S κ a (vl (.int j)) (vl (.tuple [.str "open", .int i])) (ow (.list ((acc++R).map prK))) (vl (.list q.1)) (vl (dK q.2)))]
  ·rfl
  rw [zz6,show uno (.cmp .Eq (.idx (.var 5) (.cint 0)) (.cstr "open")) (ev (Ga Fs fuel m) (.cmp .Eq (.idx (.var 5) (.cint 0)) (.cstr "open"))) (jmS s l S κ a (vl (.int j)) (vl (.tuple [.str "open", .int i])) (ow (.list (acc.map prK))) (vl (.list q.1)) (vl (dK q.2)))=some (.bool true,jmS s l S κ a (vl (.int j)) (vl (.tuple [.str "open", .int i])) (ow (.list (acc.map prK))) (vl (.list q.1)) (vl (dK q.2))) by
   simp [c_eq,eqD,↓zy2,zv8,zy1]]
  show ex _ (.cons jm_open .nil) _=_
  rw [zz0 (σ':=jmS s l S κ a (vl (.int j)) (vl (.tuple [.str "open", .int i])) (ow (.list ((acc++R).map prK))) (vl (.list q.1)) (vl (dK q.2)))]
  ·rfl
  rw [jm_open]
  have ew2:((l.length:Int) - (j:Int))=(w:Int):=by bv_omega
  simp [b_sub,zr2,zle2,zex1,↓zy2,↓zr8,ew2,e,hz]
 ·rw [jm_in,zz0 (σ':=jmS s l S κ a (vl (.int j)) (vl (.tuple (.str x::r))) (ow (.list ((acc++R).map prK))) (vl (.list q.1)) (vl (dK q.2)))]
  ·rfl
  rw [zz6,show uno (.cmp .Eq (.idx (.var 5) (.cint 0)) (.cstr "open")) (ev (Ga Fs fuel m) (.cmp .Eq (.idx (.var 5) (.cint 0)) (.cstr "open"))) (jmS s l S κ a (vl (.int j)) (vl (.tuple (.str x::r))) (ow (.list (acc.map prK))) (vl (.list q.1)) (vl (dK q.2)))=some (.bool false,jmS s l S κ a (vl (.int j)) (vl (.tuple (.str x::r))) (ow (.list (acc.map prK))) (vl (.list q.1)) (vl (dK q.2))) by
   simp [c_eq,eqD,↓zy2,zv8,zy1,h1,h2]]
  show ex _ (.cons jm_part .nil) _=_
  rw [zz0 (σ':=jmS s l S κ a (vl (.int j)) (vl (.tuple (.str x::r))) (ow (.list ((acc++R).map prK))) (vl (.list q.1)) (vl (dK q.2)))]
  ·rfl
  rw [jm_part]
  simp [zex1,e,hz]
theorem bindT78 {q:List D×Kn} {v0 v1 v2 v3 v4 v5 v6 v7 v8:Option AV}:bindT [7,8] (prK q) [v0,v1,v2,v3,v4,v5,v6,v7,v8]=some [v0,v1,v2,v3,v4,v5,v6,vl (.list q.1),vl (dK q.2)]:=by
 simp [bT_,zat2,pa_n,pa_c,put]
noncomputable def jmc:D→Bool
 | .tuple [.list t,_]=>t.isEmpty
 | _=>false
noncomputable def jmf:D→D
 | .tuple [_,y]=>y
 | y=>y
theorem jmc_ {q:List D×Kn}:jmc (prK q)=q.1.isEmpty:=rfl
theorem join_met_ok (h:Has Fs "join_met" ⟨3,9,zu9⟩) (hs:s≠.pair) {T:List D} (L:Lft s T T) (hlen:l.length≤20) (hne:∀ f,Cf f (.tuple (.str s.str::l))→∀ p∈l,1≤(parts s (fill f p)).length)
  (hn:(κ.map (·.1)).Nodup) (hz:(1+lvL l)^lvL T<size)
  (hp:∀ done p rest,l=done++p::rest→∀ q:List D×Kn,q.1.Sublist T→Ext (.tuple (.str s.str::T)) (.tuple (.str s.str::done)) κ q.2→∃ R,PartR Fs fuel m s p rest.length q R∧Stp s T p q.1 rest.length q.2 R) :
  ∃ K f,run Fs glo fuel (m+1) "join_met" [.tuple (.str s.str::l),.tuple (.str s.str::T),dK κ]=some (.list (K.map dK),f)∧Met (.tuple (.str s.str::l)) (.tuple (.str s.str::T)) κ K:=by
 have hpos:∀ x∈T,1≤lv x:=fun x hx=>(L.can x hx).lv_pos
 have body:∀ done p rest sts,l=done++p::rest→Sts s T l κ done sts→∀ (a c d e g:Option AV),(a=vl (.list (sts.map prK))∨a=ow (.list (sts.map prK))) →
   ∃ acc c' d' e' g',ex (Ga Fs fuel m) jm_body (jmS s l (.tuple (.str s.str::T)) κ a (vl (.int ((done.length+1:Nat):Int))) c d e g)=some (.next (jmS s l (.tuple (.str s.str::T)) κ (vl (.list (acc.map prK))) (vl (.int ((done.length+1:Nat):Int))) c' d' e' g'))∧Sts s T l κ (done++[p]) acc:=by
  intro done p rest sts el hS a c d e g hx
  have hwl:l.length=(done.length+1)+rest.length:=by rw [el]; simp; bv_omega
  have htot:∀ qs acc,Acc s (.tuple (.str s.str::T)) p rest.length qs acc→qs.Sublist sts→acc.length<size:=fun qs acc A hsub=>by
   have a1:=A.size 1
   simp only [Nat.one_pow,sum_one] at a1
   have a2:zx2 (fun q:List D×Kn=>(1+lv p)^lvL q.1) qs≤zx2 (fun q:List D×Kn=>(1+lv p)^lvL q.1) sts:=sum_sub _ hsub
   have a3:=hS.size (1+lv p)
   have a4:1+lv p+lvL done≤1+lvL l:=by rw [el,zz8]; simp only [lvL]; rw [Nat.add_assoc]; exact Nat.add_le_add_left (qt (Nat.le_of_eq (Nat.add_comm ..)) (Nat.add_le_add_left (Nat.le_add_right ..) _)) 1
   have a5:=Nat.pow_le_pow_left a4 (lvL T)
   exact ql (qt a1 (qt a2 (qt a3 a5))) hz
  have loop:=zy7 (bnd:=bindT [7,8]) (body:=ex (Ga Fs fuel m) jm_in) prK (fun qs σ=>∃ acc e' g',Acc s (.tuple (.str s.str::T)) p rest.length qs acc∧σ=jmS s l (.tuple (.str s.str::T)) κ (vl (.list (sts.map prK))) (vl (.int ((done.length+1:Nat):Int))) (vl p) (ow (.list (acc.map prK))) e' g') (L:=sts)
   (σ:=jmS s l (.tuple (.str s.str::T)) κ (vl (.list (sts.map prK))) (vl (.int ((done.length+1:Nat):Int))) (vl p) (ow (.list [])) e g) ⟨[],e,g,Acc.nil,rfl⟩ (by
    rintro qs q rq σ eq ⟨acc,e',g',A,rfl⟩
    have hq:q∈sts:=by exact mm eq
    obtain ⟨R,hR,hstp⟩:=hp done p rest el q (hS.sub q hq) (hS.ext q hq)
    have A':=A.snoc hstp
    have hzz:=htot (qs++[q]) (acc++R) A' (by rw [eq,show qs++q::rq=(qs++[q])++rq by simp]; exact List.sublist_append_left _ _)
    rw [List.length_append] at hzz
    exact ⟨_,_,bindT78,jm_in_step hwl hR hzz,acc++R,vl (.list q.1),vl (dK q.2),A',rfl⟩)
  obtain ⟨σ',eloop,acc,e',g',A,rfl⟩:=loop
  refine ⟨acc,vl p,vl (.list (acc.map prK)),e',g',?_,hS.next el A hne⟩
  have hidx:l[done.length]?=some p:=by rw [el]; simp
  have ei:((done.length:Int)+1).toNat=done.length+1:=by rfl
  have ei0:(0:Int)≤(done.length:Int)+1:=by exact Int.add_nonneg (Int.natCast_nonneg _) (by decide)
  rw [jm_body,zz0 (σ':=jmS s l (.tuple (.str s.str::T)) κ a (vl (.int ((done.length+1:Nat):Int))) (vl p) d e g) (by simp [zix2,hidx,ei,ei0]),
   zz0 (σ':=jmS s l (.tuple (.str s.str::T)) κ a (vl (.int ((done.length+1:Nat):Int))) (vl p) (ow (.list [])) e g) (by simp [↓mkL0]),
   zz0 (by
    rw [zo8,show srcE (ev (Ga Fs fuel m) (.var 3)) (jmS s l (.tuple (.str s.str::T)) κ a (vl (.int ((done.length+1:Nat):Int))) (vl p) (ow (.list [])) e g)=some (sts.map prK,jmS s l (.tuple (.str s.str::T)) κ (vl (.list (sts.map prK))) (vl (.int ((done.length+1:Nat):Int))) (vl p) (ow (.list [])) e g) by rcases hx with rfl|rfl<;>rfl]
    exact eloop)]
  simp [zz1]
 have loop:=zy7 (bnd:=zu2 4) (body:=ex (Ga Fs fuel m) jm_body) (fun k:Nat=>PyData.int (1+(k:Int))) (fun dn σ=>∃ sts a b c d e g,Sts s T l κ (l.take dn.length) sts∧(a=vl (.list (sts.map prK))∨a=ow (.list (sts.map prK)))∧σ=jmS s l (.tuple (.str s.str::T)) κ a b c d e g) (L:=List.range l.length)
  (σ:=jmS s l (.tuple (.str s.str::T)) κ (ow (.list ([(T,κ)].map prK))) none none none none none) ⟨[(T,κ)],_,_,_,_,_,_,Sts.init hn,.inr rfl,rfl⟩ (by
   rintro dn k rest σ e ⟨sts,a,b,c,d,e',g,hS,hx,rfl⟩
   obtain ⟨ek,hlt⟩:=range_at e
   rw [← ek] at hS
   have hsp:l=l.take k++l[k]::l.drop (k+1):=by rw [← List.drop_eq_getElem_cons hlt,List.take_append_drop]
   have hkl:(l.take k).length=k:=by simp; exact Nat.min_eq_left (Nat.le_of_lt hlt)
   obtain ⟨acc,c2,d2,e2,g2,eb,hS'⟩:=body _ _ _ sts hsp hS a c d e' g hx
   rw [hkl] at eb
   have ht:l.take (dn++[k]).length=l.take k++[l[k]]:=by
    rw [List.length_append,← ek,List.length_singleton,List.take_add_one,List.getElem?_eq_getElem hlt]; rfl
   have ei:(1+(k:Int))=((k+1:Nat):Int):=by bv_omega
   refine ⟨_,_,by rw [ei]; rfl,eb,acc,vl (.list (acc.map prK)),vl (.int ((k+1:Nat):Int)),c2,d2,e2,g2,ht▸hS',.inl rfl,rfl⟩)
 obtain ⟨σ',eloop,sts,a,b,c,d,e,g,hS,hx,rfl⟩:=loop
 rw [List.length_range,List.take_length] at hS
 have hstl:sts.length<size:=by
  have a1:=hS.size 1
  simp only [Nat.one_pow,sum_one] at a1
  exact ql a1 hz
 have hM:=hS.met hs L.can L.srt
 refine ⟨_,true,zz7 h rfl ?_,hM⟩
 show ex (Ga Fs fuel m) zu9 (jmS s l (.tuple (.str s.str::T)) κ none none none none none none)=_
 have hcomp:=zt2 (n:=9) (bc:=tupN 2) (cond:=zp5 (.cmp .Eq (.var 9) (.lst .nil)) (ev (Ga Fs fuel m) (.cmp .Eq (.var 9) (.lst .nil)))) (elt:=ev (Ga Fs fuel m) (.var 10)) (σ:=jmS s l (.tuple (.str s.str::T)) κ (vl (.list (sts.map prK))) b c d e g)
  (c:=jmc) (F:=jmf) rfl (ds:=sts.map prK) fun x hx=>by
   obtain ⟨q,hq,rfl⟩:=List.mem_map.mp hx
   have hok:okd (.list q.1)=true:=zi0 (fun y hy=>L.can y ((hS.sub q hq).subset hy)) (by bv_omega)
   refine ⟨[.list q.1,dK q.2],rfl,?_,fun _=>⟨false,rfl⟩⟩
   simp [c_eq,eqD,↓mkL0,cE_c,hok,zs4,zt6,jmc_]
 have hmap:((sts.map prK).filter jmc).map jmf=((sts.filter fun q=>q.1.isEmpty).map (·.2)).map dK:=by
  rw [List.filter_map,List.map_map,List.map_map]
  rfl
 have hKl:(((sts.filter fun q=>q.1.isEmpty).map (·.2)).map dK).length≤size:=by
  rw [List.length_map,List.length_map]
  have:=List.length_filter_le (fun q:List D×Kn=>q.1.isEmpty) sts
  exact qt this (Nat.le_of_lt hstl)
 have hlast:ex (Ga Fs fuel m) (.ret jm_last) (jmS s l (.tuple (.str s.str::T)) κ a b c d e g)=some (.ret (.list (((sts.filter fun q=>q.1.isEmpty).map (·.2)).map dK)) true):=by
  rw [zr5,jm_last,eq_ev_compT,show srcE (ev (Ga Fs fuel m) (.var 3)) (jmS s l (.tuple (.str s.str::T)) κ a b c d e g)=some (sts.map prK,jmS s l (.tuple (.str s.str::T)) κ (vl (.list (sts.map prK))) b c d e g) by rcases hx with rfl|rfl<;>rfl]
  show (((zj2 9 (tupN 2) _ _ _ _).bind _).bind _)=_
  rw [hcomp,hmap]
  simp only [Option.bind_some,mkL,hKl,if_true]
 have hsz:zy9 ((l.length:Int)+1)=true:=by simp only [zy9,decide_eq_true_eq]; exact na63 (Nat.succ_le_succ hlen)
 have hsz2:l.length≤size:=by unfold size; exact qy hlen
 have hTl:1≤((T.length:Int)+1):=by bv_omega
 rw [zu9,zz0 (σ':=jmS s l (.tuple (.str s.str::T)) κ none none none none none none) (by rw [jm_head]; simp [c_ne,eqD,↓zy2,zu4,zy1]),
  zz0 (σ':=jmS s l (.tuple (.str s.str::T)) κ (ow (.list ([(T,κ)].map prK))) none none none none none) (by simp [zw9,↓mkT2,↓mkL1,p_lst,zse2,bE_o,bE_c,zsl2,bD_,orS,hTl]),
  zz0 (by
   rw [zz4,show srcE (ev (Ga Fs fuel m) (.rng (.cint 1) (.prim1 .len (.var 0)))) (jmS s l (.tuple (.str s.str::T)) κ (ow (.list ([(T,κ)].map prK))) none none none none none)=some ((List.range l.length).map fun k:Nat=>PyData.int (1+(k:Int)),jmS s l (.tuple (.str s.str::T)) κ (ow (.list ([(T,κ)].map prK))) none none none none none) by
    have e1:((l.length:Int)+1 - 1).toNat=l.length:=by rw [Int.add_sub_cancel]; rfl
    have e2:zy9 1=true:=by decide
    simp [zr2,zle2,zai,zit1,hsz,e2,hsz2,zs9]]
   exact eloop),
  zy0 hlast]
end
end Pl
end
section
namespace Pl
open Mini PySem
variable {Fs:Fns} {fuel:Nat}
noncomputable def met_join:I:=(.cons (.ret (.call "join_met" (.cons (.var 0) (.cons (.var 1) (.cons (.var 2) .nil))))) .nil)
noncomputable def met_open:I:=(.cons (.iff (.cmp .In (.idx (.var 0) (.cint 1)) (.var 2)) (.cons (.ret (.ite (.cmp .Eq (.idx (.var 2) (.idx (.var 0) (.cint 1))) (.var 1)) (.lst (.cons (.var 2) .nil)) (.lst .nil))) .nil) .nil) (.cons (.asg 3 (.prim1 .dict (.var 2))) (.cons (.sto 3 (.idx (.var 0) (.cint 1)) (.var 1)) (.cons (.ret (.lst (.cons (.var 3) .nil))) .nil))))
noncomputable def met_name:I:=(.iff (.or (.cons (.cmp .Eq (.idx (.var 0) (.cint 0)) (.cstr "name")) (.cons (.cmp .NotEq (.idx (.var 1) (.cint 0)) (.cstr "pair")) .nil))) (.cons (.ret (.ite (.cmp .Eq (.var 0) (.var 1)) (.lst (.cons (.var 2) .nil)) (.lst .nil))) .nil) .nil)
noncomputable def met_in:I:=(.cons (.ext 4 (.call "met" (.cons (.idx (.var 0) (.cint 2)) (.cons (.idx (.var 1) (.cint 2)) (.cons (.var 5) .nil))))) .nil)
noncomputable def met_pair:I:=(.cons (.asg 4 (.lst .nil)) (.cons (.for1 5 (.call "met" (.cons (.idx (.var 0) (.cint 1)) (.cons (.idx (.var 1) (.cint 1)) (.cons (.var 2) .nil)))) met_in) (.cons (.ret (.var 4)) .nil)))
noncomputable def zp9:I:=(.cons (.iff (.cmp .In (.idx (.var 0) (.cint 0)) (.glob "JOINS")) met_join .nil) (.cons (.iff (.cmp .Eq (.idx (.var 0) (.cint 0)) (.cstr "open")) met_open .nil) (.cons met_name met_pair)))
noncomputable abbrev mtS (P S:D) (κ:Kn) (a b c:Option AV):Mini.Sg:=[vl P,vl S,vl (dK κ),a,b,c]
theorem in_joins_no {x:Str} (h:okd (.str x)=true) (h1:(("sum" : Str)==x)=false) (h2:(("mul" : Str)==x)=false):inD (.str x) (.tuple [.str "sum", .str "mul"])=some false:=by
 simp [zin2,h,zv9,zu5,zy1,h1,h2]
theorem Can.head {k:Nat} {d:D} (h:Can k d):∃ x r,d=.tuple (.str x::r)∧Mini.okd (.str x)=true:=h.shp.head
section
variable {S:D} {κ:Kn} {m:Nat} {i:Int}
theorem met_open_ok (h:Has Fs "met" ⟨3,6,zp9⟩) (hS:Can 7 S) (K:Knw κ) (hκ:κ.length<size) :
  ∃ R f,run Fs glo fuel (m+1) "met" [.tuple [.str "open", .int i],S,dK κ]=some (.list (R.map dK),f)∧Met (.tuple [.str "open", .int i]) S κ R:=by
 have e1:lv (.tuple [.str "open", .int i])=1:=by simp [lv,lvL]
 have hno:=in_joins_no zv8 zq1 zq2
 have hpre:∀ (d:D) (fl:Bool),ex (Ga Fs fuel m) met_open (mtS (.tuple [.str "open", .int i]) S κ none none none)=some (.ret d fl)→ex (Ga Fs fuel m) zp9 (mtS (.tuple [.str "open", .int i]) S κ none none none)=some (.ret d fl):=fun d fl ho=>by
  rw [zp9,zz0 (σ':=mtS (.tuple [.str "open", .int i]) S κ none none none) (by simp [c_in,↓zy2,zw2,hno])]
  refine zy0 ?_
  rw [zz6,show uno (.cmp .Eq (.idx (.var 0) (.cint 0)) (.cstr "open")) (ev (Ga Fs fuel m) (.cmp .Eq (.idx (.var 0) (.cint 0)) (.cstr "open"))) (mtS (.tuple [.str "open", .int i]) S κ none none none)=some (.bool true,mtS (.tuple [.str "open", .int i]) S κ none none none) by simp [c_eq,eqD,↓zy2,zv8,zy1]]
  exact ho
 cases hk:lk κ i with
 | some v =>
  have hm:=lk_mem hk
  have hv:=K.can _ hm
  have ov:=hv.okd (by bv_omega)
  have oS:=hS.okd (by bv_omega)
  have hc:ev (Ga Fs fuel m) (.ite (.cmp .Eq (.idx (.var 2) (.idx (.var 0) (.cint 1))) (.var 1)) (.lst (.cons (.var 2) .nil)) (.lst .nil)) (mtS (.tuple [.str "open", .int i]) S κ none none none)=some (.list ((if PyData.eqv v S then [κ] else []).map dK),true,mtS (.tuple [.str "open", .int i]) S κ none none none):=by
   cases he:PyData.eqv v S<;>simp [c_eq,eqD,↓mkL0,↓mkL1,↓zr8,zix3,zq3,zm9,hk,ov,oS,he]
  refine ⟨if PyData.eqv v S then [κ] else [],true,zz7 h rfl (hpre _ _ ?_),?_⟩
  ·rw [met_open]
   refine zy0 ?_
   rw [zz6,show uno (.cmp .In (.idx (.var 0) (.cint 1)) (.var 2)) (ev (Ga Fs fuel m) (.cmp .In (.idx (.var 0) (.cint 1)) (.var 2))) (mtS (.tuple [.str "open", .int i]) S κ none none none)=some (.bool true,mtS (.tuple [.str "open", .int i]) S κ none none none) by simp [c_in,↓zr8,in_enK,hk]]
   show ex _ (.cons (.ret _) .nil) _=_
   exact zy0 (by rw [zr5,hc]; rfl)
  ·have hq:=zw1 hv.plain hS.plain
   by_cases he:PyData.eqv v S=true
   ·rw [if_pos he]
    have hvS:=hq.mp he
    refine ⟨fun κ' hκ'=>?_,fun κ' hκ' f ha=>?_,fun f ha _ _=>⟨κ,by simp,ha⟩,by rw [e1]; simp⟩
    ·simp at hκ'; subst hκ'; exact Ext.old K.nod hk
    ·simp at hκ'; subst hκ'; rw [zt1,ha _ hm]; exact hvS
   ·rw [if_neg he]
    refine ⟨by simp,by simp,fun f ha _ e=>absurd (hq.mpr ?_) he,Nat.zero_le _⟩
    rw [zt1] at e; rw [← e]; exact (ha _ hm).symm
 | none =>
  refine ⟨[κ++[(i,S)]],true,zz7 h rfl (hpre _ _ ?_),?_⟩
  ·have hkk:=keys_enK κ i
   rw [met_open,zz0 (σ':=mtS (.tuple [.str "open", .int i]) S κ none none none) (by simp [c_in,↓zr8,in_enK,hk]),
    zz0 (σ':=mtS (.tuple [.str "open", .int i]) S κ (ow (dK κ)) none none) (by simp [p_dct,r_dct,zco,intKeys_enK]),
    zz0 (σ':=mtS (.tuple [.str "open", .int i]) S κ (ow (dK (κ++[(i,S)]))) none none) (by simp [↓zr8,hkk,hκ,dput_enK κ _ hk])]
   exact zy0 (by simp [↓mkL1])
  ·refine ⟨fun κ' hκ'=>?_,fun κ' hκ' f ha=>?_,fun f ha _ e=>⟨κ++[(i,S)],by simp,ha.snoc (by rw [← e,zt1])⟩,by rw [e1]; simp⟩
   ·simp at hκ'; subst hκ'; exact Ext.new K.nod hk (.self S)
   ·simp at hκ'; subst hκ'; rw [zt1]; exact ha (i,S) (mr mh)
theorem met_name_ok (h:Has Fs "met" ⟨3,6,zp9⟩) (hS:Can 7 S) (K:Knw κ) :
  ∃ R f,run Fs glo fuel (m+1) "met" [.tuple [.str "name", .int i],S,dK κ]=some (.list (R.map dK),f)∧Met (.tuple [.str "name", .int i]) S κ R:=by
 have e1:lv (.tuple [.str "name", .int i])=1:=by simp [lv,lvL]
 have hno:=in_joins_no zx7 zs5 zs6
 have oS:=hS.okd (by bv_omega)
 have hP:Can 7 (.tuple [.str "name", .int i]):=.leaf 6 false i
 have oP:=hP.okd (by bv_omega)
 have hc:ev (Ga Fs fuel m) (.ite (.cmp .Eq (.var 0) (.var 1)) (.lst (.cons (.var 2) .nil)) (.lst .nil)) (mtS (.tuple [.str "name", .int i]) S κ none none none)=some (.list ((if PyData.eqv (.tuple [.str "name", .int i]) S then [κ] else []).map dK),true,mtS (.tuple [.str "name", .int i]) S κ none none none):=by
  cases he:PyData.eqv (.tuple [.str "name", .int i]) S<;>simp [c_eq,eqD,↓mkL0,↓mkL1,oP,oS,he]
 refine ⟨if PyData.eqv (.tuple [.str "name", .int i]) S then [κ] else [],true,zz7 h rfl ?_,?_⟩
 ·show ex (Ga Fs fuel m) zp9 (mtS (.tuple [.str "name", .int i]) S κ none none none)=_
  rw [zp9,zz0 (σ':=mtS (.tuple [.str "name", .int i]) S κ none none none) (by simp [c_in,↓zy2,zw2,hno]),
   zz0 (σ':=mtS (.tuple [.str "name", .int i]) S κ none none none) (by simp [c_eq,eqD,↓zy2,zv8,zx7,zy1,zp1])]
  refine zy0 ?_
  rw [met_name,zz6,show uno (.or (.cons (.cmp .Eq (.idx (.var 0) (.cint 0)) (.cstr "name")) (.cons (.cmp .NotEq (.idx (.var 1) (.cint 0)) (.cstr "pair")) .nil))) (ev (Ga Fs fuel m) (.or (.cons (.cmp .Eq (.idx (.var 0) (.cint 0)) (.cstr "name")) (.cons (.cmp .NotEq (.idx (.var 1) (.cint 0)) (.cstr "pair")) .nil)))) (mtS (.tuple [.str "name", .int i]) S κ none none none)=some (.bool true,mtS (.tuple [.str "name", .int i]) S κ none none none) by simp [c_eq,eqD,↓zy2,zx7,zy1]]
  show ex _ (.cons (.ret _) .nil) _=_
  exact zy0 (by rw [zr5,hc]; rfl)
 ·have hq:=zw1 hP.plain hS.plain
  by_cases he:PyData.eqv (.tuple [.str "name", .int i]) S=true
  ·rw [if_pos he]
   have hvS:=hq.mp he
   refine ⟨fun κ' hκ'=>?_,fun κ' hκ' f ha=>?_,fun f ha _ _=>⟨κ,by simp,ha⟩,by rw [e1]; simp⟩
   ·simp at hκ'; subst hκ'
    refine ⟨fun x h=>h,K.nod,fun x h=>.inl h,fun j hj=>?_,by bv_omega⟩
    generalize hd:(PyData.tuple [.str "name", .int i])=d at hj
    cases hj with
    | self=>simp at hd; exact absurd hd.1 (by decide)
    | @part x s l hx hy=>simp at hd; exact absurd hd.1 (zx4 false s)
   ·rw [zi7]; exact hvS
  ·rw [if_neg he]
   refine ⟨by simp,by simp,fun f ha _ e=>absurd (hq.mpr ?_) he,Nat.zero_le _⟩
   rw [zi7] at e; exact e
end
section
variable {a b Sa Sb:D} {κ:Kn} {m:Nat}
structure Pra (b Sb:D) (done acc:List Kn):Prop where
 back:∀ κ''∈acc,∃ κ'∈done,Ext Sb b κ' κ''∧∀ f,Ag f κ''→fill f b=Sb
 forth:∀ κ'∈done,∀ f,Ag f κ'→Cf f b→fill f b=Sb→∃ κ''∈acc,Ag f κ''
 size:acc.length≤done.length*lv b^lv Sb
theorem Pra.snoc {b Sb:D} {done acc K:List Kn} {κ':Kn} (h:Pra b Sb done acc) (M:Met b Sb κ' K):Pra b Sb (done++[κ']) (acc++K):=by
 refine ⟨fun k hk=>?_,fun k hk f ha hc e=>?_,?_⟩
 ·rcases List.mem_append.mp hk with hk|hk
  ·refine elEA (h.back k hk) fun k0 h0 e=>?_; exact ⟨k0,by simp [h0],e⟩
  ·exact ⟨κ',by simp,M.ext k hk,M.sound k hk⟩
 ·rcases List.mem_append.mp hk with hk|hk
  ·refine elEA (h.forth k hk f ha hc e) fun k0 h0 e=>?_; exact ⟨k0,by simp [h0],e⟩
  ·simp at hk; subst hk
   refine elEA (M.compl f ha hc e) fun k0 h0 e=>?_; exact ⟨k0,by simp [h0],e⟩
 ·have:=h.size
  have:=M.size
  simp only [List.length_append,List.length_singleton,Nat.add_mul,Nat.one_mul]
  exact qa h.size M.size
theorem zu6 (a b:D):lv (.tuple [.str "pair", a,b])=lv a+lv b:=by simp [lv,lvL]
theorem opn_pair {i:Int} {a b:D} (h:Opn i (.tuple [.str "pair", a,b])):Opn i a∨Opn i b:=by
 refine elEA (opn_cons (s:=.pair) h) fun p hp ho=>?_
 simp at hp
 rcases hp with rfl|rfl
 ·exact .inl ho
 ·exact .inr ho
theorem opn_l {i:Int} {a b:D} (h:Opn i a):Opn i (.tuple [.str "pair", a,b]):=.part (s:=.pair) (l:=[a,b]) mh h
theorem opn_r {i:Int} {a b:D} (h:Opn i b):Opn i (.tuple [.str "pair", a,b]):=.part (s:=.pair) (l:=[a,b]) (mt mh) h
theorem tri_l {v a b:D} (h:Tri a v):Tri (.tuple [.str "pair", a,b]) v:=.part (s:=.pair) (l:=[a,b]) mh h
theorem tri_r {v a b:D} (h:Tri b v):Tri (.tuple [.str "pair", a,b]) v:=.part (s:=.pair) (l:=[a,b]) (mt mh) h
theorem mul_pow_le (a b m n:Nat):a^m*b^n≤(a+b)^(m+n):=by
 rw [Nat.pow_add]
 exact Nat.mul_le_mul (Nat.pow_le_pow_left (by bv_omega) m) (Nat.pow_le_pow_left (by bv_omega) n)
theorem Pra.met {Ka acc:List Kn} (M:Met a Sa κ Ka) (h:Pra b Sb Ka acc):Met (.tuple [.str "pair", a,b]) (.tuple [.str "pair", Sa,Sb]) κ acc:=by
 refine ⟨fun k hk=>?_,fun k hk f ha=>?_,fun f ha hc e=>?_,?_⟩
 ·refine elEAA (h.back k hk) fun k0 h0 e2 _=>?_
  have e1:=M.ext k0 h0
  refine ⟨fun x hx=>e2.sub x (e1.sub x hx),e2.nod,fun x hx=>?_,fun i hi=>?_,?_⟩
  ·rcases e2.val x hx with q|q
   ·exact (e1.val x q).imp id tri_l
   ·exact .inr (tri_r q)
  ·rcases opn_pair hi with q|q
   ·obtain ⟨v,hv⟩:=e1.dom i q; exact ⟨v,e2.sub _ hv⟩
   ·exact e2.dom i q
  ·have:=e1.len
   have:=e2.len
   rw [zu6]; exact qt e2.len (qt (Nat.add_le_add_right e1.len _) (Nat.le_of_eq (Nat.add_assoc ..)))
 ·refine elEAA (h.back k hk) fun k0 h0 e2 e3=>?_
  rw [zn9,M.sound k0 h0 f (ha.sub e2.sub),e3 f ha]
 ·rw [zn9] at e
  have e:fill f a=Sa∧fill f b=Sb:=by simpa using e
  refine elEA (M.compl f ha (fun i hi=>hc i (opn_l hi)) e.1) fun k0 h0 h1=>?_
  exact h.forth k0 h0 f h1 (fun i hi=>hc i (opn_r hi)) e.2
 ·rw [zu6,zu6]
  refine Nat.le_trans h.size (Nat.le_trans (Nat.mul_le_mul_right _ M.size) (mul_pow_le _ _ _ _))
theorem met_pre_pair {S:D} (hno:True):ex (Ga Fs fuel m) zp9 (mtS (.tuple [.str "pair", a,b]) S κ none none none)=ex (Ga Fs fuel m) (.cons met_name met_pair) (mtS (.tuple [.str "pair", a,b]) S κ none none none):=by
 have hno:=in_joins_no zx0 zn1 zn2
 rw [zp9,zz0 (σ':=mtS (.tuple [.str "pair", a,b]) S κ none none none) (by simp [c_in,↓zy2,zw2,hno]),
  zz0 (σ':=mtS (.tuple [.str "pair", a,b]) S κ none none none) (by simp [c_eq,eqD,↓zy2,zv8,zx0,zy1,zi2])]
theorem met_pair_ok (h:Has Fs "met" ⟨3,6,zp9⟩) (hz:(1+(lv a+lv b))^(lv Sa+lv Sb)<size)
  (ha:∃ K f,run Fs glo fuel m "met" [a,Sa,dK κ]=some (.list (K.map dK),f)∧Met a Sa κ K)
  (hb:∀ κ',Ext Sa a κ κ'→∃ K f,run Fs glo fuel m "met" [b,Sb,dK κ']=some (.list (K.map dK),f)∧Met b Sb κ' K) :
  ∃ R f,run Fs glo fuel (m+1) "met" [.tuple [.str "pair", a,b],.tuple [.str "pair", Sa,Sb],dK κ]=some (.list (R.map dK),f)∧Met (.tuple [.str "pair", a,b]) (.tuple [.str "pair", Sa,Sb]) κ R:=by
 refine elEEA (ha) fun Ka fa ea Ma=>?_
 have htot:Ka.length*lv b^lv Sb<size:=by
  refine Nat.lt_of_le_of_lt (Nat.mul_le_mul_right _ Ma.size) (Nat.lt_of_le_of_lt (mul_pow_le _ _ _ _) (Nat.lt_of_le_of_lt (Nat.pow_le_pow_left ?_ _) hz))
  bv_omega
 have loop:=zy7 (bnd:=zu2 5) (body:=ex (Ga Fs fuel m) met_in) dK (fun done σ=>∃ acc c,Pra b Sb done acc∧σ=mtS (.tuple [.str "pair", a,b]) (.tuple [.str "pair", Sa,Sb]) κ none (ow (.list (acc.map dK))) c) (L:=Ka)
  (σ:=mtS (.tuple [.str "pair", a,b]) (.tuple [.str "pair", Sa,Sb]) κ none (ow (.list [])) none) ⟨[],none,⟨by simp,by simp,by simp⟩,rfl⟩ (by
   rintro done κ' rest σ e ⟨acc,c,hA,rfl⟩
   refine elEEA (hb κ' (Ma.ext κ' (by exact mm e))) fun K fk ek M=>?_
   have hA':=hA.snoc M
   have hzz:acc.length+K.length<size:=by
    have a1:=hA'.size
    rw [List.length_append] at a1
    refine Nat.lt_of_le_of_lt a1 (Nat.lt_of_le_of_lt (Nat.mul_le_mul_right _ ?_) htot)
    rw [e]; simp
   refine ⟨_,_,rfl,?_,acc++K,vl (dK κ'),hA',rfl⟩
   rw [met_in,zz0 (σ':=mtS (.tuple [.str "pair", a,b]) (.tuple [.str "pair", Sa,Sb]) κ none (ow (.list ((acc++K).map dK))) (vl (dK κ'))) (by simp [zex1,↓ix_t2,ek,hzz])]
   rfl)
 (refine elEAEEA (loop) fun σ' eloop acc c hA e_5=>?_; subst e_5)
 refine ⟨acc,false,zz7 h rfl ?_,hA.met Ma⟩
 show ex (Ga Fs fuel m) zp9 (mtS (.tuple [.str "pair", a,b]) (.tuple [.str "pair", Sa,Sb]) κ none none none)=_
 rw [met_pre_pair trivial,zz0 (σ':=mtS (.tuple [.str "pair", a,b]) (.tuple [.str "pair", Sa,Sb]) κ none none none) (by rw [met_name]; simp [c_eq,c_ne,eqD,↓zy2,zx0,zx7,zy1,zm5]),
  met_pair,zz0 (σ':=mtS (.tuple [.str "pair", a,b]) (.tuple [.str "pair", Sa,Sb]) κ none (ow (.list [])) none) (by simp [↓mkL0]),
  zz0 (by
   rw [zz4,show srcE (ev (Ga Fs fuel m) (.call "met" (.cons (.idx (.var 0) (.cint 1)) (.cons (.idx (.var 1) (.cint 1)) (.cons (.var 2) .nil))))) (mtS (.tuple [.str "pair", a,b]) (.tuple [.str "pair", Sa,Sb]) κ none (ow (.list [])) none)=some (Ka.map dK,mtS (.tuple [.str "pair", a,b]) (.tuple [.str "pair", Sa,Sb]) κ none (ow (.list [])) none) by simp [↓zr8,zit1,ea]]
   exact eloop)]
 exact zy0 (by simp)
theorem met_pair_no (h:Has Fs "met" ⟨3,6,zp9⟩) {k:Nat} {S:D} (hP:Can k (.tuple [.str "pair", a,b])) (hk:k≤100) (hS:Can 7 S) (hno:∀ c d,S≠.tuple [.str "pair", c,d]) :
  ∃ R f,run Fs glo fuel (m+1) "met" [.tuple [.str "pair", a,b],S,dK κ]=some (.list (R.map dK),f)∧Met (.tuple [.str "pair", a,b]) S κ R:=by
 have oS:=hS.okd (by bv_omega)
 have oP:=hP.okd hk
 have hne:PyData.eqv (.tuple [.str "pair", a,b]) S=false:=by
  rw [← Bool.not_eq_true]
  exact fun e=>hno a b ((zw1 hP.plain hS.plain).mp e).symm
 have hx:∃ x r,S=.tuple (.str x::r)∧okd (.str x)=true∧(x == "pair")=false:=by
  cases hS with
  | leaf k o n=>exact ⟨_,_,rfl,okd_lstr o,by simpa using zm7 o⟩
  | pair _ _=>exact absurd rfl (hno _ _)
  | join hs=>exact ⟨_,_,rfl,zu4 _,by simpa using zs8 hs⟩
 (refine elEEAA (hx) fun x r e_2 ox hxp=>?_; subst e_2)
 refine ⟨[],true,zz7 h rfl ?_,by simp,by simp,fun f _ _ e=>absurd (by rw [← e,zn9]) (hno (fill f a) (fill f b)),Nat.zero_le _⟩
 show ex (Ga Fs fuel m) zp9 (mtS (.tuple [.str "pair", a,b]) (.tuple (.str x::r)) κ none none none)=_
 rw [met_pre_pair trivial]
 refine zy0 ?_
 rw [met_name,zz6,show uno (.or (.cons (.cmp .Eq (.idx (.var 0) (.cint 0)) (.cstr "name")) (.cons (.cmp .NotEq (.idx (.var 1) (.cint 0)) (.cstr "pair")) .nil))) (ev (Ga Fs fuel m) (.or (.cons (.cmp .Eq (.idx (.var 0) (.cint 0)) (.cstr "name")) (.cons (.cmp .NotEq (.idx (.var 1) (.cint 0)) (.cstr "pair")) .nil)))) (mtS (.tuple [.str "pair", a,b]) (.tuple (.str x::r)) κ none none none)=some (.bool true,mtS (.tuple [.str "pair", a,b]) (.tuple (.str x::r)) κ none none none) by simp [c_eq,c_ne,eqD,↓zy2,zx0,zx7,zy1,zm5,ox,hxp]]
 show ex _ (.cons (.ret _) .nil) _=_
 refine zy0 ?_
 simp [c_eq,eqD,↓mkL0,oP,oS,hne]
end
end Pl
end
section
namespace Pl
open Mini PySem
variable {Fs:Fns} {fuel:Nat}
structure Hm (Fs:Fns):Prop where
 parts_in:Has Fs "parts_in" ⟨2,2,zx1⟩
 joined:Has Fs "joined" ⟨2,4,zw8⟩
 choices:Has Fs "choices" ⟨1,7,zq6⟩
 without:Has Fs "without" ⟨2,4,zt5⟩
 open_met:Has Fs "open_met" ⟨5,9,zw6⟩
 part_met:Has Fs "part_met" ⟨3,6,zn6⟩
 join_met:Has Fs "join_met" ⟨3,9,zu9⟩
 met:Has Fs "met" ⟨3,6,zp9⟩
theorem Ext.knw {S P:D} {κ κ':Kn} (h:Ext S P κ κ') (K:Knw κ) (hS:Can 7 S):Knw κ' :=
 ⟨h.nod,fun p hp=>(h.val p hp).elim (K.can p) fun t=>t.can hS⟩
theorem pow_mono {a b m n:Nat} (h:a≤b) (h2:m≤n):(1+a)^m≤(1+b)^n :=
 Nat.le_trans (Nat.pow_le_pow_left (by bv_omega) m) (Nat.pow_le_pow_right (by bv_omega) h2)
theorem met_pre_join {s:Sn} (hs:s≠.pair) {l:List D} {S:D} {κ:Kn} {m:Nat} {d:D} {f:Bool} (e:run Fs glo fuel m "join_met" [.tuple (.str s.str::l),S,dK κ]=some (d,f)) :
  ex (Ga Fs fuel m) zp9 (mtS (.tuple (.str s.str::l)) S κ none none none)=some (.ret d f):=by
 have hj:=in_joins hs
 rw [zp9]
 refine zy0 ?_
 rw [zz6,show uno (.cmp .In (.idx (.var 0) (.cint 0)) (.glob "JOINS")) (ev (Ga Fs fuel m) (.cmp .In (.idx (.var 0) (.cint 0)) (.glob "JOINS"))) (mtS (.tuple (.str s.str::l)) S κ none none none)=some (.bool true,mtS (.tuple (.str s.str::l)) S κ none none none) by simp [c_in,↓zy2,zw2,hj]]
 show ex _ met_join _=_
 rw [met_join]
 refine zy0 ?_
 simp [e]
theorem join_met_no (h:Has Fs "join_met" ⟨3,9,zu9⟩) {s:Sn} (hs:s≠.pair) {l:List D} {S:D} {κ:Kn} {m:Nat} (hS:Can 7 S) (hno:∀ T,S≠.tuple (.str s.str::T)) :
  run Fs glo fuel (m+1) "join_met" [.tuple (.str s.str::l),S,dK κ]=some (.list [],true):=by
 (refine elEEA (hS.head) fun x r e_2 ox=>?_; subst e_2)
 have hx:(x==s.str)=false:=by
  rw [← Bool.not_eq_true]; intro e; simp at e; subst e; exact hno r rfl
 refine zz7 h rfl ?_
 show ex (Ga Fs fuel m) zu9 (jmS s l (.tuple (.str x::r)) κ none none none none none none)=_
 rw [zu9]
 refine zy0 ?_
 rw [jm_head]
 simp [zz1,c_ne,eqD,↓mkL0,↓zy2,zu4,ox,zy1,hx]
theorem met_ok (H:Hm Fs) {k:Nat} {P:D} (hP:Can k P):k≤100→∀ (n:Nat) (S:D) (κ:Kn),Can 7 S→Knw κ→κ.length+lv P<size→(1+lv P)^lv S<size →
  ∃ K f,run Fs glo fuel (n+3*k+4) "met" [P,S,dK κ]=some (.list (K.map dK),f)∧Met P S κ K:=by
 induction hP with
 | leaf k o i =>
  intro _ n S κ hS K hκ hz
  cases o with
  | true=>exact met_open_ok (m:=n+3*(k+1)+3) H.met hS K (by exact qg hκ)
  | false=>exact met_name_ok (m:=n+3*(k+1)+3) H.met hS K
 | @pair k a b ha hb iha ihb =>
  intro hk n S κ hS K hκ hz
  have e:n+3*(k+1)+4=(n+2+3*k+4)+1:=by bv_omega
  rw [e]
  rw [zu6] at hκ hz
  by_cases hp:∃ c d,S=.tuple [.str "pair", c,d]
  ·(refine elEE (hp) fun c d e_2=>?_; subst e_2)
   have hcd':=(Can.cons (s:=.pair) (l:=[c,d]) hS).1
   have hcd:Can 7 c∧Can 7 d:=⟨hcd' c (List.mem_cons_self ..),hcd' d (List.mem_cons_of_mem _ (List.mem_cons_self ..))⟩
   rw [zu6] at hz
   refine met_pair_ok H.met hz (iha (by bv_omega) (n+2) c κ hcd.1 K (by exact ql (Nat.add_le_add_left (Nat.le_add_right ..) _) hκ) (Nat.lt_of_le_of_lt (pow_mono (by bv_omega) (by bv_omega)) hz)) fun κ' he=>?_
   have:=he.len
   exact ihb (by bv_omega) (n+2) d κ' hcd.2 (he.knw K hcd.1) (by exact ql (qt (Nat.add_le_add_right this _) (Nat.le_of_eq (Nat.add_assoc ..))) hκ) (Nat.lt_of_le_of_lt (pow_mono (by bv_omega) (by bv_omega)) hz)
  ·exact met_pair_no H.met (.pair ha hb) hk hS fun c d e=>hp ⟨c,d,e⟩
 | @join k s l hs h2 h20 hc hnon hsrt ih =>
  intro hk n S κ hS K hκ hz
  have e:n+3*(k+1)+4=(n+3*k+4+1)+1+1:=by bv_omega
  rw [e]
  rw [zv5] at hκ hz
  by_cases hp:∃ T,S=.tuple (.str s.str::T)
  ·obtain ⟨T,rfl⟩:=hp
   have hT:=hS.cons
   have L:Lft s T T:=⟨List.Sublist.refl _,hT.1,(hT.2.2.2 hs).1,(hT.2.2.2 hs).2,hT.2.2.1⟩
   rw [zv5] at hz
   have hne:∀ f,Cf f (.tuple (.str s.str::l))→∀ p∈l,1≤(parts s (fill f p)).length:=fun f hcf p hp=>by
    by_cases ho:∃ i,p=.tuple [.str "open", .int i]
    ·obtain ⟨i,rfl⟩:=ho
     obtain ⟨k',hcan⟩:=hcf i (.part hp (.self i))
     rw [zt1]; exact (hcan.parts_pos hs).1
    ·rw [fill_nonopen (hc p hp) (hnon p hp) hs (fun i e=>ho ⟨i,e⟩) f]; simp
   obtain ⟨R,f,er,M⟩:=join_met_ok (m:=n+3*k+4+1) (fuel:=fuel) H.join_met hs L h20 hne K.nod hz (fun done p rest el q hq hext=>by
    have hpl:p∈l:=by exact mm el
    have Kq:=hext.knw K hS
    have hlen:=hext.len
    rw [zv5] at hlen
    have hll:lvL l=lvL done+(lv p+lvL rest):=by rw [el,zz8]; rfl
    have Lq:Lft s T q.1:=⟨hq,L.can,L.non,L.srt,L.len⟩
    by_cases ho:∃ i,p=.tuple [.str "open", .int i]
    ·obtain ⟨i,rfl⟩:=ho
     refine elEEA (open_met_ok (fuel:=fuel) H.parts_in H.joined H.choices H.open_met H.without hs Lq Kq (ql hlen (ql (Nat.add_le_add_left (qf (Nat.le_of_eq hll.symm)) _) hκ)) i rest.length (n+3*k+2)) fun R f er hR=>?_
     exact ⟨R,.inl ⟨i,f,rfl,er⟩,hR⟩
    ·have hpf:=fill_nonopen (hc p hpl) (hnon p hpl) hs fun i e=>ho ⟨i,e⟩
     refine elEEA (part_met_ok (fuel:=fuel) (m:=n+3*k+4) H.part_met Lq (κ:=q.2) (p:=p) (Nat.lt_of_le_of_lt (pow_mono (by exact qt (Nat.le_add_right ..) (qt (Nat.le_add_left ..) (Nat.le_of_eq hll.symm))) (Nat.le_refl _)) hz)
      (fun x hx=>ih p hpl (by bv_omega) n x q.2 (L.can x hx) Kq (ql (Nat.add_le_add_right hlen _) (ql (qt (Nat.le_of_eq (Nat.add_assoc ..)) (Nat.add_le_add_left (qt (Nat.add_le_add_left (Nat.le_add_right ..) _) (Nat.le_of_eq hll.symm)) _)) hκ)) (Nat.lt_of_le_of_lt (pow_mono (by exact qt (Nat.le_add_right ..) (qt (Nat.le_add_left ..) (Nat.le_of_eq hll.symm))) (lvL_mem hx)) hz)) hpf rest.length) fun R f er hR=>?_
     refine ⟨R,.inr ?_,hR⟩
     (refine elEEA ((hc p hpl).head) fun x r e_2 ox=>?_; subst e_2)
     refine ⟨x,r,f,rfl,ox,?_,er⟩
     rw [← Bool.not_eq_true]
     intro e
     simp at e; subst e
     exact (hc _ hpl).open_inv.elim fun i e=>ho ⟨i,e▸rfl⟩)
   exact ⟨R,f,zz7 H.met rfl (met_pre_join hs er),M⟩
  ·refine ⟨[],true,zz7 H.met rfl (met_pre_join hs (join_met_no H.join_met hs hS fun T e=>hp ⟨T,e⟩)),by simp,by simp,fun f _ _ e=>absurd ⟨zx6 (fl s f l),?_⟩ hp,Nat.zero_le _⟩
   rw [← e,zm0 f hs]
   simp [fl,List.flatMap_map]
end Pl
end
section
namespace Pl
open Mini PySem
variable {Fs:Fns} {fuel:Nat}
noncomputable def zq4:I:=(.cons (.asg 3 (.pop 2)) (.cons (.iff (.cmp .Eq (.idx (.var 3) (.cint 0)) (.cstr "open")) (.cons (.sto 1 (.idx (.var 3) (.cint 1)) (.cbool true)) .nil) (.cons (.iff (.cmp .NotEq (.idx (.var 3) (.cint 0)) (.cstr "name")) (.cons (.ext 2 (.slc (.var 3) (.cint 1) .omit)) .nil) .nil) .nil)) .nil))
noncomputable def zu8:I:=(.cons (.asg 1 .dct0) (.cons (.asg 2 (.lst (.cons (.var 0) .nil))) (.cons (.whl (.brw 2) zq4) (.cons (.ret (.prim1 .sorted (.brw 1))) .nil))))
noncomputable def opl:Tm→List Int
 | .leaf o n=>if o then [n] else []
 | .node _ a b=>opl a++opl b
noncomputable def dk (ks:List Int):List (D×D):=ks.map fun k=>(.int k,.bool true)
noncomputable def addk (ks:List Int) (k:Int):List Int:=if k∈ks then ks else ks++[k]
theorem dput_dk (ks:List Int) (k:Int):dput (dk ks) (.int k) (.bool true)=dk (addk ks k):=by
 induction ks with
 | nil=>rfl
 | cons x r ih =>
  simp only [dk,List.map_cons,dput,zr1]
  by_cases e:x=k
  ·subst e; simp [addk]
  ·have e':(x==k)=false:=by simpa using e
   have e2:¬ k=x:=fun q=>e q.symm
   simp only [e',Bool.false_eq_true,if_false]
   simp only [dk] at ih
   rw [ih]
   unfold addk
   by_cases m:k∈r
   ·simp [m]
   ·simp [m,e2]
theorem keysOk_dk (ks:List Int) (k:Int):zp2 (.int k) (dk ks)=true:=by
 simp [zp2,kk_i,dk]
set_option tactic.hygienic true in
theorem addk_mem {ks:List Int} {k x:Int}:x∈addk ks k↔x∈ks∨x=k:=by
 unfold addk
 split
 ·rename_i h; constructor
  ·exact .inl
  ·rintro (q|rfl)
   ·exact q
   ·exact h
 ·simp
set_option tactic.hygienic true in
theorem addk_nodup {ks:List Int} {k:Int} (h:ks.Nodup):(addk ks k).Nodup:=by
 unfold addk
 split
 ·exact h
 ·rename_i hk
  rw [List.nodup_append]
  exact ⟨h,by simp,fun a ha b hb=>by simp at hb; subst hb; exact fun e=>hk (e▸ha)⟩
theorem addk_len (ks:List Int) (k:Int):(addk ks k).length≤ks.length+1:=by unfold addk; split<;>simp
theorem ow_leaf {m:Nat} (t0:D) (ks:List Int) (l:List D) (o:Bool) (k:Int) (x:Option AV) (hz:ks.length<10000) :
  ex (Ga Fs fuel m) zq4 [some (.val t0),some (.own (.dict (dk ks))),some (.own (.list (l++[enc (.leaf o k)]))),x]=some (.next [some (.val t0),some (.own (.dict (dk (if o then addk ks k else ks)))),some (.own (.list l)),some (.val (enc (.leaf o k)))]):=by
 have hz':(dk ks).length<size:=by simp [dk,size]; exact Nat.lt_trans hz (by decide)
 cases o with
 | true=>simp [zq4,enc,lstr,zz1,c_eq,eqD,↓zy2,↓zr8,zv8,zy1,keysOk_dk,hz',dput_dk]
 | false=>simp [zq4,enc,lstr,zz1,c_eq,c_ne,eqD,↓zy2,zv8,zx7,zy1,zp1]
theorem ow_node {m:Nat} (t0:D) (ks:List Int) (l:List D) (s:Sn) (a b:Tm) (x:Option AV) (hz:l.length<10000) :
  ex (Ga Fs fuel m) zq4 [some (.val t0),some (.own (.dict (dk ks))),some (.own (.list (l++[enc (.node s a b)]))),x]=some (.next [some (.val t0),some (.own (.dict (dk ks))),some (.own (.list (l++[enc a,enc b]))),some (.val (enc (.node s a b)))]):=by
 have hz':l.length+2<size:=by unfold size; exact qx (Nat.succ_le_succ hz)
 cases s <;>
 simp [zq4,enc,Sn.str,zw9,zz1,c_eq,c_ne,eqD,zex2,↓zy2,bE_o,bE_c,zsl2,bD_,zv8,zx7,zv9,zu5,zx0,zy1,zq1,zs5,zq2,zs6,zi2,zm5,hz']
theorem ow_loop {m:Nat} (t0:D):∀ (f:Nat) (ts:List Tm) (ks:List Int) (x:Option AV),ks.Nodup→(ts.map nds).sum<f→ts.length+ks.length+(ts.map nds).sum≤5000 →
  ∃ (ks':List Int) (y:Option AV),zp8 (uno (.brw 2) (ev (Ga Fs fuel m) (.brw 2))) (ex (Ga Fs fuel m) zq4) f [some (.val t0),some (.own (.dict (dk ks))),some (.own (.list (ts.reverse.map enc))),x] =
   some (.next [some (.val t0),some (.own (.dict (dk ks'))),some (.own (.list [])),y])∧ks'.Nodup∧(∀ k,k∈ks'↔k∈ks∨∃ t∈ts,k∈opl t)∧ks'.length≤ks.length+(ts.map num).sum
 | 0,_,_,_,_,h,_=>absurd h (Nat.not_lt_zero _)
 | f+1,[],ks,x,hn,_,_=>⟨ks,x,by
  rw [zk5 (d:=.list []) (σ':=[some (.val t0),some (.own (.dict (dk ks))),some (.own (.list [])),x])]
  ·simp [uno]
  ·rfl,hn,by simp,by simp⟩
 | f+1,t::r,ks,x,hn,hf,hz=>by
  have ht:uno (.brw 2) (ev (Ga Fs fuel m) (.brw 2)) [some (.val t0),some (.own (.dict (dk ks))),some (.own (.list (((t::r).reverse).map enc))),x]=some (.list (r.reverse.map enc++[enc t]),[some (.val t0),some (.own (.dict (dk ks))),some (.own (.list (r.reverse.map enc++[enc t]))),x]):=by
   simp [uno]
  have hd:zx5 (.list (r.reverse.map enc++[enc t]))=some true:=by simp [ztr2]
  cases t with
  | leaf o k =>
   have hal:=addk_len ks k
   obtain ⟨ks',y,ih,h1,h2,h3⟩:=ow_loop t0 f r (if o then addk ks k else ks) (some (.val (enc (.leaf o k)))) (by cases o; exact hn; exact addk_nodup hn) (by simp [nds] at hf; exact Nat.lt_of_add_lt_add_left (n:=1) (Nat.add_comm 1 f▸hf)) (by cases o<;>simp [nds] at hz ⊢<;>bv_omega)
   refine ⟨ks',y,?_,h1,fun j=>?_,?_⟩
   ·rw [zo2 ht hd (ow_leaf t0 ks _ o k x (by simp at hz; bv_omega)),ih]
   ·rw [h2]
    cases o
    ·simp [opl]
    ·simp only [if_true,addk_mem,List.mem_cons,exists_eq_or_imp,opl,List.not_mem_nil,or_false,or_assoc]
   ·cases o<;>simp [num] at h3 ⊢<;>bv_omega
  | node s a b =>
   obtain ⟨ks',y,ih,h1,h2,h3⟩:=ow_loop t0 f (b::a::r) ks (some (.val (enc (.node s a b)))) hn (by simp [nds] at hf ⊢; exact nsw hf) (by simp [nds] at hz ⊢; bv_omega)
   refine ⟨ks',y,?_,h1,fun j=>?_,?_⟩
   ·rw [zo2 ht hd (ow_node t0 ks _ s a b x (by simp at hz ⊢; bv_omega))]
    have e2:List.map enc (b::a::r).reverse=List.map enc r.reverse++[enc a,enc b]:=by simp
    rw [e2] at ih
    exact ih
   ·rw [h2]
    simp only [List.mem_cons,exists_eq_or_imp,opl,List.mem_append]
    constructor
    ·rintro (q|q|q|q)
     ·exact .inl q
     ·exact .inr (.inl (.inr q))
     ·exact .inr (.inl (.inl q))
     ·exact .inr (.inr q)
    ·rintro (q|(q|q)|q)
     ·exact .inl q
     ·exact .inr (.inr (.inl q))
     ·exact .inr (.inl q)
     ·exact .inr (.inr (.inr q))
   ·simp [num] at h3 ⊢; exact qt h3 (Nat.le_of_eq (by rw [Nat.add_left_comm (num b),← Nat.add_assoc (num a)]))
theorem int_sortable (ks:List Int):sortable (ks.map .int)=true:=by
 simp only [sortable,Bool.and_eq_true,List.all_eq_true,Bool.or_eq_true,List.mem_map,forall_exists_index,and_imp,forall_apply_eq_imp_iff₂]
 exact ⟨⟨⟨fun a _=>zw0 a,fun a _=>rfl⟩,.inl (.inl fun a _=>rfl)⟩,fun a _ b _=>rfl⟩
theorem run_ow (h:Has Fs "opens_within" ⟨1,4,zu8⟩) (n:Nat) {t:Tm} (hn:num t≤40) (hf:100≤fuel) :
  ∃ ks:List Int,ks.Nodup∧(∀ k,k∈ks↔k∈opl t)∧run Fs glo fuel (n+1) "opens_within" [enc t]=some (.list (zx6 (ks.map .int)),true):=by
 have hnd:=nds_num t
 refine elEEAAA (ow_loop (Fs:=Fs) (fuel:=fuel) (m:=n) (enc t) fuel [t] [] none List.nodup_nil (by simp; exact Nat.lt_of_lt_of_le (qt (Nat.le_of_eq hnd) (Nat.mul_le_mul_left 2 hn)) (qt (by decide) hf)) (by simp; bv_omega)) fun ks y hl h1 h2 h3=>?_
 refine ⟨ks,h1,fun k=>by simpa using h2 k,?_⟩
 rw [zs3 h rfl]
 have hso:sortD (ks.map .int)=some (.list (zx6 (ks.map .int)),true):=by
  have:ks.length<64:=by simp at h3; exact qx (qt h3 hn)
  simp [sortD,int_sortable,this]
 have hdk:(dk ks).map (·.1)=ks.map .int:=by simp [dk]
 show (match ex (Ga Fs fuel n) (.cons _ _) [some (.val (enc t)),none,none,none] with|some (.ret d f)=>some (d,f)|some (.next _)=>some (.none,false)|none=>none)=_
 rw [zz0 (σ':=[some (.val (enc t)),some (.own (.dict [])),none,none]) (by simp),
  zz0 (σ':=[some (.val (enc t)),some (.own (.dict [])),some (.own (.list [enc t])),none]) (by simp [↓mkL1]),
  zz0 (σ':=[some (.val (enc t)),some (.own (.dict (dk ks))),some (.own (.list [])),y]) (by rw [eq_ex_whl]; simpa [dk] using hl)]
 simp [zz1,p_srt,zso2,r_srt,hdk,hso]
theorem int_list:∀ {l:List D} {ks:List Int},l.Perm (ks.map .int)→∃ ns:List Int,l=ns.map .int∧ns.Perm ks:=by
 intro l ks h
 have hall:∀ x∈l,∃ k:Int,x=.int k:=fun x hx=>by
  refine elEA (List.mem_map.mp (h.mem_iff.mp hx)) fun k _ e=>?_; exact ⟨k,e.symm⟩
 have:∃ ns:List Int,l=ns.map .int:=by
  clear h
  induction l with
  | nil=>exact ⟨[],rfl⟩
  | cons x r ih =>
   obtain ⟨k,rfl⟩:=hall x mh
   obtain ⟨ns,rfl⟩:=ih fun y hy=>hall y (mt hy)
   exact ⟨k::ns,rfl⟩
 obtain ⟨ns,rfl⟩:=this
 refine ⟨ns,rfl,?_⟩
 have h2:=h.map fun d:D=>(match d with|.int k=>k|_=>0:Int)
 simpa [List.map_map,Function.comp_def] using h2
theorem cmp_ints (ks:List Int):Cmp (ks.map .int):=zm4 (int_sortable ks)
theorem run_nums (h:Has Fs "opens_within" ⟨1,4,zu8⟩) (n:Nat) {t:Tm} (hn:num t≤40) (hf:100≤fuel) :
  ∃ ns:List Int,ns.Nodup∧ns.Pairwise (·≤·)∧(∀ k,k∈ns↔k∈opl t)∧run Fs glo fuel (n+1) "opens_within" [enc t]=some (.list (ns.map .int),true):=by
 refine elEAA (run_ow (fuel:=fuel) h n hn hf) fun ks h1 h2 e=>?_
 refine elEA (int_list (zz2 (ks.map .int))) fun ns e2 hp=>?_
 have hs:=zu3 (cmp_ints ks)
 rw [e2] at e hs
 refine ⟨ns,hp.nodup_iff.mpr h1,?_,fun k=>(hp.mem_iff).trans (h2 k),e⟩
 rw [List.pairwise_map] at hs
 exact hs.imp fun {a b} h=>by
  simp only [leD,zj7,ne_eq,Option.some.injEq,decide_eq_true_eq] at h; exact Int.not_lt.mp h
theorem opl_num (t:Tm):(opl t).length≤num t:=by
 induction t with
 | leaf o k=>cases o<;>simp [opl,num]
 | node s a b iha ihb=>simp only [opl,num,List.length_append]; exact qa iha ihb
theorem opn_parts {s:Sn} (hs:s≠.pair) {k:Nat} {d:D} (h:Shp k d) (i:Int):(∃ p∈parts s d,Opn i p)↔Opn i d:=by
 cases h with
 | leaf k o n=>rw [zl9]; simp
 | pair _ _=>rw [zo7 hs]; simp
 | @join k s' l hs' _ _ =>
  by_cases e:s'=s
  ·subst e
   rw [zt4]
   exact ⟨fun h=>elEA h fun p hp ho=>.part hp ho,opn_cons⟩
  ·rw [zq0 e]; simp
theorem opn_shp (t:Tm) (i:Int):Opn i (shp t)↔i∈opl t:=by
 induction t with
 | leaf o k =>
  cases o with
  | true =>
   simp only [opl]
   constructor
   ·intro h; have:=opn_open (i:=k) (j:=i) h; simp [this]
   ·intro h; simp at h; subst h; exact .self i
  | false =>
   simp only [opl]
   constructor
   ·intro h
    generalize hd:shp (.leaf false k)=d at h
    cases h with
    | self=>simp [shp,enc,lstr] at hd; exact absurd hd.1 (by decide)
    | @part x s l hx hy=>simp [shp,enc] at hd; exact absurd hd.1 (zx4 false s)
   ·intro h; simp at h
 | node s a b iha ihb =>
  by_cases hs:s=.pair
  ·subst hs
   rw [zh3]
   constructor
   ·intro h
    simp only [opl,List.mem_append]
    exact (opn_pair h).imp iha.mp ihb.mp
   ·intro h
    simp only [opl,List.mem_append] at h
    rcases h with h|h
    ·exact opn_l (iha.mpr h)
    ·exact opn_r (ihb.mpr h)
  ·rw [shp_join hs]
   simp only [opl,List.mem_append,← iha,← ihb,← opn_parts hs (shp_ok a) i,← opn_parts hs (shp_ok b) i]
   constructor
   ·intro h
    refine elEA (opn_cons h) fun p hp ho=>?_
    rcases List.mem_append.mp ((zz2 _).mem_iff.mp hp) with q|q
    ·exact .inl ⟨p,q,ho⟩
    ·exact .inr ⟨p,q,ho⟩
   ·rintro (⟨p,hp,ho⟩|⟨p,hp,ho⟩)
    ·exact .part ((zz2 _).mem_iff.mpr (List.mem_append_left _ hp)) ho
    ·exact .part ((zz2 _).mem_iff.mpr (List.mem_append_right _ hp)) ho
end Pl
end
section
namespace Pl
open Mini PySem
variable {Fs:Fns} {fuel:Nat}
theorem zk6:∀ (t:Tm),num t≤20→Can (num t) (shp t)∧lv (shp t)=num t
 | .leaf o k,_=>⟨.leaf 0 o k,by simp [shp,enc,lv,lvL,num]⟩
 | .node s a b,h=>by
  have pa:=zw3 a
  have pb:=zw3 b
  have hn:num (.node s a b)=num a+num b:=rfl
  obtain ⟨ca,la⟩:=zk6 a (by exact qf (hn▸h))
  obtain ⟨cb,lb⟩:=zk6 b (by exact qr (hn▸h))
  have e:num (.node s a b)=num a+num b - 1+1:=by rw [hn]; exact (nc1 pa).symm
  have ca':Can (num a+num b - 1) (shp a):=ca.mono (by exact nlb pb)
  have cb':Can (num a+num b - 1) (shp b):=cb.mono (by exact nla pa)
  by_cases hs:s=.pair
  ·subst hs
   rw [e,zh3,zu6,la,lb]
   exact ⟨.pair ca' cb',by exact (nc1 pa).symm⟩
  ·rw [shp_join hs,zv5,zm6 (zz2 _),zz8,zo0 hs ca,zo0 hs cb,la,lb]
   refine ⟨?_,rfl⟩
   rw [e]
   have hl:=(zz2 (parts s (shp a)++parts s (shp b))).length_eq
   rw [List.length_append] at hl
   have h1:=ca.parts_pos hs
   have h2:=cb.parts_pos hs
   have h3:=zl8 hs a
   have h4:=zl8 hs b
   have hm:∀ x∈zx6 (parts s (shp a)++parts s (shp b)),x∈parts s (shp a)∨x∈parts s (shp b):=fun x hx=>List.mem_append.mp ((zz2 _).mem_iff.mp hx)
   have hcan:∀ x∈parts s (shp a)++parts s (shp b),Can (num a+num b - 1) x:=fun x hx=>(List.mem_append.mp hx).elim (ca'.parts_can hs x) (cb'.parts_can hs x)
   exact .join hs (by exact hl▸qa h1.1 h2.1) (by exact hl▸qt (qa h3 h4) (hn▸h)) (fun x hx=>hcan x ((zz2 _).mem_iff.mp hx)) (fun x hx=>(hm x hx).elim (ca.parts_non hs x) (cb.parts_non hs x)) (zu3 (zp7 hcan))
noncomputable def enR (d:D):D×D:=(d,.bool true)
noncomputable def radd:List D→D→List D
 | [],d=>[d]
 | p::r,d=>if PyData.eqv p d then p::r else p::radd r d
theorem dput_enR (d:D):∀ R:List D,dput (R.map enR) d (.bool true)=(radd R d).map enR
 | []=>rfl
 | p::r=>by
  simp only [List.map_cons,dput,radd,enR]
  split
  ·rfl
  ·rw [List.map_cons]; exact congrArg _ (dput_enR d r)
set_option tactic.hygienic true in
theorem radd_mem {d:D} (hd:zz5 d=true):∀ {R:List D},(∀ p∈R,zz5 p=true)→∀ x,x∈radd R d↔x∈R∨x=d
 | [],_,x=>by simp [radd]
 | p::r,h,x=>by
  simp only [radd]
  have ih:=radd_mem hd (R:=r) (fun p hp=>h p (mt hp)) x
  split
  ·rename_i e
   have e:=(zw1 (h p mh) hd).mp e
   subst e
   simp only [List.mem_cons]
   exact ⟨.inl,fun q=>q.elim id fun q=>.inl q⟩
  ·simp only [List.mem_cons,ih,or_assoc]
set_option tactic.hygienic true in
theorem zl7 {d:D} (hd:zz5 d=true):∀ {R:List D},(∀ p∈R,zz5 p=true)→R.Nodup→(radd R d).Nodup
 | [],_,_=>by simp [radd]
 | p::r,h,hn=>by
  simp only [radd]
  simp only [List.nodup_cons] at hn
  split
  ·simp only [List.nodup_cons]; exact hn
  ·rename_i e
   simp only [List.nodup_cons]
   refine ⟨fun m=>?_,zl7 hd (fun p hp=>h p (mt hp)) hn.2⟩
   rcases (radd_mem hd (fun p hp=>h p (mt hp)) p).mp m with q|q
   ·exact hn.1 q
   ·exact e ((zw1 (h p mh) hd).mpr q)
theorem radd_len (d:D):∀ R:List D,(radd R d).length≤R.length+1
 | []=>by simp [radd]
 | p::r=>by have:=radd_len d r; simp only [radd]; split<;>simp only [List.length_cons]<;>bv_omega
theorem keys_enR {d:D} (hd:tkey d=true) {R:List D} (h:∀ p∈R,tkey p=true):zp2 d (R.map enR)=true:=by
 have key:∀ x:D,tkey x=true→zp6 x=some 1:=fun x hx=>by
  cases x with
  | tuple l=>simp only [kk_t,hx,if_true]
  | _=>simp [tkey] at hx
 simp only [zp2,key d hd,Option.isSome_some,Bool.true_and,List.all_eq_true,List.mem_map]
 rintro _ ⟨p,hp,rfl⟩
 simp [enR,key p (h p hp)]
theorem keysOf_enR (R:List D):(R.map enR).map (·.1)=R:=by simp [enR,Function.comp_def]
noncomputable def zj6 (ns:List Int) (κ:Kn):List D:=ns.map fun i=>(lk κ i).getD .none
noncomputable def fn (ns:List Int) (r:List D):Int→D:=fun i=>(lk (ns.zip r) i).getD .none
theorem fn_map:∀ {ns:List Int} {r:List D},ns.Nodup→r.length=ns.length→ns.map (fn ns r)=r
 | [],[],_,_=>rfl
 | n::ns,v::r,hn,hl=>by
  simp only [List.nodup_cons] at hn
  have e0:fn (n::ns) (v::r) n=v:=by simp [fn,lk]
  have e1:ns.map (fn (n::ns) (v::r))=ns.map (fn ns r):=List.map_congr_left fun i hi=>by
   have:(n==i)=false:=by simp; rintro rfl; exact hn.1 hi
   simp [fn,lk,this]
  rw [List.map_cons,e0,e1,fn_map hn.2 (by simpa using hl)]
theorem fn_mem {ns:List Int} {r:List D} (hn:ns.Nodup) (hl:r.length=ns.length) {i:Int} (hi:i∈ns):fn ns r i∈r:=by
 have:=fn_map hn hl
 rw [← this]
 exact List.mem_map.mpr ⟨i,hi,by rw [this]⟩
theorem fn_row {ns:List Int} (hn:ns.Nodup) (κ:Kn) {i:Int} (hi:i∈ns):fn ns (zj6 ns κ) i=(lk κ i).getD .none:=by
 have:=fn_map hn (r:=zj6 ns κ) (by simp [zj6])
 simp only [zj6] at this ⊢
 exact List.map_inj_left.mp this i hi
noncomputable def Row (ns:List Int) (P S:D) (r:List D):Prop:=r.length=ns.length∧(∀ v∈r,Tri S v)∧fill (fn ns r) P=S
theorem rows_iff {ns:List Int} {k:Nat} {P S:D} {K:List Kn} (hn:ns.Nodup) (hP:Can k P) (hS:Can 7 S) (ho:∀ i,i∈ns↔Opn i P) (M:Met P S [] K) (r:List D):(∃ κ∈K,r=zj6 ns κ)↔Row ns P S r:=by
 constructor
 ·rintro ⟨κ,hκ,rfl⟩
  have E:=M.ext κ hκ
  refine ⟨by simp [zj6],fun v hv=>?_,?_⟩
  ·(refine elEA (List.mem_map.mp hv) fun i hi e_2=>?_; subst e_2)
   obtain ⟨v,hv⟩:=E.dom i ((ho i).mp hi)
   rw [mem_lk E.nod hv]
   exact (E.val _ hv).resolve_left (by simp)
  ·rw [← M.sound κ hκ (fun i=>(lk κ i).getD .none) fun p hp=>by show (lk κ p.1).getD .none=p.2; rw [mem_lk E.nod (i:=p.1) (v:=p.2) hp]; rfl]
   exact fill_congr hP fun i hi=>fn_row hn κ ((ho i).mpr hi)
 ·rintro ⟨h1,h2,h3⟩
  refine elEA (M.compl (fn ns r) (by intro p hp; cases hp) (fun i hi=>⟨7,(h2 _ (fn_mem hn h1 ((ho i).mpr hi))).can hS⟩) h3) fun κ hκ ha=>?_
  refine ⟨κ,hκ,?_⟩
  rw [← fn_map hn h1]
  refine List.map_congr_left fun i hi=>?_
  have E:=M.ext κ hκ
  obtain ⟨v,hv⟩:=E.dom i ((ho i).mp hi)
  rw [mem_lk E.nod hv]
  exact ha _ hv
end Pl
end
section
namespace Pl
open Mini PySem
variable {Fs:Fns} {fuel:Nat}
noncomputable def fo_row:I:=(.cons (.sto 3 (.prim1 .tuple (.comp1 (.idx (.var 4) (.var 10)) (.var 2) .omit)) (.cbool true)) .nil)
noncomputable def fo_zip:I:=(.cons (.sto 8 (.var 5) (.var 9)) .nil)
noncomputable def fo_fill:I:=(.cons (.asg 8 .dct0) (.cons (.fors [5,9] (.zip (.var 2) (.var 7)) fo_zip) (.cons (.app 6 (.var 8)) .nil)))
noncomputable def zs0:I:=(.cons (.asg 2 (.call "opens_within" (.cons (.var 0) .nil))) (.cons (.asg 3 .dct0) (.cons (.for1 4 (.call "met" (.cons (.call "shaped" (.cons (.var 0) .nil)) (.cons (.var 1) (.cons .dct0 .nil)))) fo_row) (.cons (.asg 6 (.lst .nil)) (.cons (.for1 7 (.prim1 .sorted (.brw 3)) fo_fill) (.cons (.ret (.var 6)) .nil))))))
noncomputable abbrev foS (t S:D) (c d e f g h i j:Option AV):Mini.Sg:=[vl t,vl S,c,d,e,f,g,h,i,j]
theorem bindT59 {i:Int} {v:D} {v0 v1 v2 v3 v4 v5 v6 v7 v8 v9:Option AV}:bindT [5,9] (.tuple [.int i,v]) [v0,v1,v2,v3,v4,v5,v6,v7,v8,v9]=some [v0,v1,v2,v3,v4,vl (.int i),v6,v7,v8,vl v]:=by
 simp [bT_,zat2,pa_n,pa_c,put]
theorem zipL_map (ns:List Int) (r:List D):zipL (ns.map .int) r=(ns.zip r).map fun p=>.tuple [.int p.1,p.2]:=by
 induction ns generalizing r with
 | nil=>simp [zipL]
 | cons n ns ih =>
  cases r with
  | nil=>simp [zipL]
  | cons v r=>simp only [zipL,List.map_cons,List.zip_cons_cons] at ih ⊢; rw [ih]
theorem lk_not {κ:Kn} {i:Int} (h:i∉κ.map (·.1)):lk κ i=none:=by
 cases e:lk κ i with
 | none=>rfl
 | some v=>exact absurd (List.mem_map.mpr ⟨_,lk_mem e,rfl⟩) h
theorem zh1 {ns:List Int} {r:List D} (h:r.length=ns.length):(ns.zip r).map (·.1)=ns:=by
 exact List.map_fst_zip (l₁:=ns) (l₂:=r) (by exact Nat.le_of_eq h.symm)
theorem sto_set {Γ:Mini.Env} {σ σ':Mini.Sg} {k:Nat} {key:I} {kd:D} {f:Bool} {R:List D} (hk0:zj4 σ k=true) (hk:σ'[k]?=some (ow (.dict (R.map enR)))) (he:ev Γ key σ=some (kd,f,σ')) (hkk:zp2 kd (R.map enR)=true) (hz:R.length<size) :
  ex Γ (.sto k key (.cbool true)) σ=some (.next (σ'.set k (ow (.dict ((radd R kd).map enR))))):=by
 have ho:ownD σ' k=some (R.map enR):=(congrArg ownDK hk).trans oD_
 rw [q_sto]
 show kst1 k (ev Γ key) (.bool true) σ (zj4 σ k)=_
 rw [hk0]
 show (ev Γ key σ).bind _=_
 rw [he]
 show (ownD σ' k).bind _=_
 rw [ho,← dput_enR]
 exact if_pos (by rw [hkk,List.length_map]; exact decide_eq_true hz)
theorem ev_tuple {Γ:Mini.Env} {σ σ':Mini.Sg} {a:I} {l:List D} {f:Bool} (hb:opn a (ev Γ a) σ=(ev Γ a σ).bind kdat) (h:ev Γ a σ=some (.list l,f,σ')):ev Γ (.prim1 .tuple a) σ=some (.tuple l,false,σ'):=by
 rw [q_prim1,q_uno,hb,h]; rfl
section
variable {t S:D} {m:Nat} {ns:List Int}
theorem fo_fill_step {r:List D} (hn:ns.Nodup) (hl:r.length=ns.length) (hz:ns.length<size) {acc:List D} (ha:acc.length+1<size) {c d e f i j:Option AV} (hcc:c=vl (.list (ns.map .int))∨c=ow (.list (ns.map .int))) :
  ∃ f' i' j',ex (Ga Fs fuel m) fo_fill (foS t S c d e f (ow (.list acc)) (vl (.tuple r)) i j)=some (.next (foS t S (vl (.list (ns.map .int))) d e f' (ow (.list (acc++[dK (ns.zip r)]))) (vl (.tuple r)) i' j')):=by
 have hk:=zh1 hl
 have loop:=zy7 (bnd:=bindT [5,9]) (body:=ex (Ga Fs fuel m) fo_zip) (fun p:Int×D=>.tuple [.int p.1,p.2]) (fun dn σ=>∃ f' j',σ=foS t S (vl (.list (ns.map .int))) d e f' (ow (.list acc)) (vl (.tuple r)) (ow (dK dn)) j') (L:=ns.zip r)
  (σ:=foS t S (vl (.list (ns.map .int))) d e f (ow (.list acc)) (vl (.tuple r)) (ow (dK [])) j) ⟨f,j,rfl⟩ (by
   rintro dn p rest σ el ⟨f',j',rfl⟩
   have hnot:lk dn p.1=none:=lk_not fun hm=>by
    rw [el,List.map_append,List.map_cons] at hk
    rw [← hk,List.nodup_append] at hn
    exact hn.2.2 p.1 hm p.1 mh rfl
   have hlen:dn.length<size:=by
    have h1:=congrArg List.length el
    have h2:(ns.zip r).length=ns.length:=by rw [List.length_zip]; exact hl▸Nat.min_self _
    rw [h2] at h1; simp at h1; exact ql (Nat.le_add_right ..) (h1▸hz)
   refine ⟨_,_,bindT59,?_,vl (.int p.1),vl p.2,rfl⟩
   have hkk:=keys_enK dn p.1
   rw [fo_zip,zz0 (σ':=foS t S (vl (.list (ns.map .int))) d e (vl (.int p.1)) (ow (.list acc)) (vl (.tuple r)) (ow (dK (dn++[p]))) (vl p.2)) (by simp [hkk,hlen,dput_enK dn p.2 hnot])]
   rfl)
 (refine elEAEE (loop) fun σ' eloop f' j' e_4=>?_; subst e_4)
 refine ⟨f',vl (dK (ns.zip r)),j',?_⟩
 rw [fo_fill,zz0 (σ':=foS t S c d e f (ow (.list acc)) (vl (.tuple r)) (ow (dK [])) j) (by simp),
  zz0 (by
   rw [zo8,show srcE (ev (Ga Fs fuel m) (.zip (.var 2) (.var 7))) (foS t S c d e f (ow (.list acc)) (vl (.tuple r)) (ow (dK [])) j)=some ((ns.zip r).map fun p:Int×D=>.tuple [.int p.1,p.2],foS t S (vl (.list (ns.map .int))) d e f (ow (.list acc)) (vl (.tuple r)) (ow (dK [])) j) by
    rcases hcc with rfl|rfl<;>simp [zal,zit1,eq_ev_zip,zat,zipL_map]]
   exact eloop),
  zz0 (σ':=foS t S (vl (.list (ns.map .int))) d e f' (ow (.list (acc++[dK (ns.zip r)]))) (vl (.tuple r)) (vl (dK (ns.zip r))) j') (by simp [ha])]
 rfl
theorem fo_row_step {κ:Kn} (hd:∀ i∈ns,∃ v,lk κ i=some v) (hc:∀ v∈zj6 ns κ,Can 7 v) {R:List D} (hR:∀ p∈R,tkey p=true) (hz:R.length<size) (hnz:ns.length≤size) {c f g h i j:Option AV} (hcc:c=vl (.list (ns.map .int))∨c=ow (.list (ns.map .int))) :
  ex (Ga Fs fuel m) fo_row (foS t S c (ow (.dict (R.map enR))) (vl (dK κ)) f g h i j)=some (.next (foS t S (vl (.list (ns.map .int))) (ow (.dict ((radd R (.tuple (zj6 ns κ))).map enR))) (vl (dK κ)) f g h i j)):=by
 have hcomp:=zt2 (n:=10) (bc:=bc1) (cond:=zp5 .omit (ev (Ga Fs fuel m) .omit)) (elt:=ev (Ga Fs fuel m) (.idx (.var 4) (.var 10))) (σ:=foS t S (vl (.list (ns.map .int))) (ow (.dict (R.map enR))) (vl (dK κ)) f g h i j)
  (c:=fun _=>true) (F:=fun d=>match d with|.int i=>(lk κ i).getD .none|d=>d) rfl (ds:=ns.map .int) fun d hd'=>by
   (refine elEA (List.mem_map.mp hd') fun n hn e_2=>?_; subst e_2)
   obtain ⟨v,hv⟩:=hd n hn
   refine ⟨[.int n],rfl,rfl,fun _=>⟨false,?_⟩⟩
   simp [zix3,zq3,zm9,hv]
 rw [List.filter_eq_self.mpr (by simp),List.map_map] at hcomp
 have hrow:ns.map ((fun d=>match d with|PyData.int i=>(lk κ i).getD .none|d=>d)∘PyData.int)=zj6 ns κ:=rfl
 have hcl:(zj6 ns κ).length≤size:=by simpa [zj6] using hnz
 have hev:ev (Ga Fs fuel m) (.comp1 (.idx (.var 4) (.var 10)) (.var 2) .omit) (foS t S c (ow (.dict (R.map enR))) (vl (dK κ)) f g h i j)=some (.list (zj6 ns κ),true,foS t S (vl (.list (ns.map .int))) (ow (.dict (R.map enR))) (vl (dK κ)) f g h i j):=by
  rw [zv7,show srcE (ev (Ga Fs fuel m) (.var 2)) (foS t S c (ow (.dict (R.map enR))) (vl (dK κ)) f g h i j)=some (ns.map .int,foS t S (vl (.list (ns.map .int))) (ow (.dict (R.map enR))) (vl (dK κ)) f g h i j) by rcases hcc with rfl|rfl<;>rfl]
  show ((zi9 10 _ _ (ns.map .int) (foS t S (vl (.list (ns.map .int))) (ow (.dict (R.map enR))) (vl (dK κ)) f g h i j)).bind _)=_
  rw [zr6,hcomp]
  simp only [Option.bind_some,mkL]
  rw [if_pos (by simpa [zj6] using hnz)]
  rfl
 have hkk:=keys_enR (tkey_tup hc) hR
 rw [fo_row,zz0 (sto_set (R:=R) rfl rfl (ev_tuple rfl hev) hkk hz)]
 rfl
end
theorem tupTup_row {r:List D} (h:∀ v∈r,Can 7 v) (hn:r≠[]):tupTup (.tuple r)=true:=by
 cases r with
 | nil=>exact absurd rfl hn
 | cons v r=>(refine elEEA ((h v mh).head) fun x l e_2 _=>?_; subst e_2); rfl
theorem row_lt_some {r r':List D} (h:∀ v∈r,Can 7 v) (h':∀ v∈r',Can 7 v):(ltD (.tuple r) (.tuple r')).isSome=true:=by
 simp only [lt_tt]; exact ltL_some fun x hx y hy=>(h x hx).lt_some (h' y hy)
theorem cmp_rows {L:List (List D)} (h:∀ r∈L,∀ v∈r,Can 7 v):Cmp (L.map .tuple):=by
 refine ⟨fun a ha=>?_,fun a ha b hb=>?_⟩
 ·(refine elEA (List.mem_map.mp ha) fun r hr e_2=>?_; subst e_2)
  simp only [zz5]; exact zu0 fun v hv=>(h r hr v hv).plain
 ·(refine elEA (List.mem_map.mp ha) fun r hr e_2=>?_; subst e_2)
  (refine elEA (List.mem_map.mp hb) fun r' hr' e_2=>?_; subst e_2)
  exact row_lt_some (h r hr) (h r' hr')
theorem sortD_rows {L:List (List D)} {w:Nat} (h:∀ r∈L,∀ v∈r,Can 7 v) (hw:∀ r∈L,r.length=w) (hn:L.Nodup) (hz:L.length<64):sortD (L.map .tuple)=some (.list (zx6 (L.map .tuple)),true):=by
 by_cases hl:L.length<2
 ·simp [sortD,hl]
 ·have hne:∀ r∈L,r≠[]:=by
   rintro r hr rfl
   have e0:w=0:=(hw [] hr).symm
   apply hl
   have hall:∀ r∈L,r=[]:=fun r hr=>by have:=hw r hr; rw [e0] at this; exact List.length_eq_zero_iff.mp this
   match L,hn,hall with
   | [],_,_=>simp
   | [x],_,_=>simp
   | x::y::l,hn,hall =>
    have a:=hall x mh
    have b:=hall y (mt mh)
    subst a b
    simp at hn
  have hs:sortable (L.map .tuple)=true:=by
   simp only [sortable,Bool.and_eq_true,List.all_eq_true,Bool.or_eq_true,List.mem_map,forall_exists_index,and_imp,forall_apply_eq_imp_iff₂]
   exact ⟨⟨⟨fun a ha=>okd_tup (h a ha) (by bv_omega),fun a ha=>by simp only [zz5]; exact zu0 fun v hv=>(h a ha v hv).plain⟩,.inr fun a ha=>tupTup_row (h a ha) (hne a ha)⟩,fun a ha b hb=>row_lt_some (h a ha) (h b hb)⟩
  simp [sortD,hs,hz]
theorem tup_list:∀ {l:List D} {L:List (List D)},l.Perm (L.map .tuple)→∃ L':List (List D),l=L'.map .tuple∧L'.Perm L:=by
 intro l L h
 have hall:∀ x∈l,∃ k:List D,x=.tuple k:=fun x hx=>by
  refine elEA (List.mem_map.mp (h.mem_iff.mp hx)) fun k _ e=>?_; exact ⟨k,e.symm⟩
 have:∃ L':List (List D),l=L'.map .tuple:=by
  clear h
  induction l with
  | nil=>exact ⟨[],rfl⟩
  | cons x r ih =>
   obtain ⟨k,rfl⟩:=hall x mh
   obtain ⟨ns,rfl⟩:=ih fun y hy=>hall y (mt hy)
   exact ⟨k::ns,rfl⟩
 obtain ⟨ns,rfl⟩:=this
 refine ⟨ns,rfl,?_⟩
 have h2:=h.map fun d:D=>(match d with|.tuple k=>k|_=>[]:List D)
 simpa [List.map_map,Function.comp_def] using h2
end Pl
end
section
namespace Pl
open Mini PySem
variable {Fs:Fns} {fuel:Nat}
theorem all_tup {l:List D} (hall:∀ x∈l,∃ k:List D,x=.tuple k):∃ L':List (List D),l=L'.map .tuple:=by
 induction l with
 | nil=>exact ⟨[],rfl⟩
 | cons x r ih =>
  obtain ⟨k,rfl⟩:=hall x mh
  obtain ⟨ns,rfl⟩:=ih fun y hy=>hall y (mt hy)
  exact ⟨k::ns,rfl⟩
theorem nodup_tup {L:List (List D)}:(L.map PyData.tuple).Nodup↔L.Nodup:=by
 unfold List.Nodup
 rw [List.pairwise_map]
 exact ⟨fun h=>h.imp fun h e=>h (by rw [e]),fun h=>h.imp fun h e=>h (by simpa using e)⟩
structure Fills (ns:List Int) (P S:D) (L:List (List D)):Prop where
 srt:(L.map PyData.tuple).Pairwise leD
 nod:L.Nodup
 mem:∀ r,r∈L↔Row ns P S r
 len:L.length<size
noncomputable def Few (t:Tm) (S:D):Prop:=∀ (ns:List Int) (L:List (List D)),ns.Nodup→(∀ k,k∈ns↔k∈opl t)→L.Nodup→(∀ r∈L,Row ns (shp t) S r)→L.length<64
theorem run_fillings_of (H:Hm Fs) (h1:Has Fs "opens_within" ⟨1,4,zu8⟩) (h2:Has Fs "shaped" ⟨1,1,zn4⟩) (h3:Has Fs "fillings_of" ⟨2,10,zs0⟩) (n:Nat) {t:Tm} {S:D} (hn:num t≤20) (hf:100≤fuel) (hS:Can 7 S) (hz:(1+num t)^lv S<size) (hb:Few t S) :
  ∃ ns L,ns.Nodup∧ns.Pairwise (·≤·)∧(∀ k,k∈ns↔k∈opl t)∧run Fs glo fuel (n+3*num t+5) "fillings_of" [enc t,S]=some (.list (L.map fun r=>dK (ns.zip r)),false)∧Fills ns (shp t) S L:=by
 refine elEAAA (run_nums (fuel:=fuel) h1 (n+3*num t+3) (by exact qy hn:num t≤40) hf) fun ns n1 n2 n3 e1=>?_
 have e2:=run_shaped (fuel:=fuel) H.parts_in H.joined h2 t (n+2*num t+2) (by exact qy hn)
 rw [show n+2*num t+2+num t+2=n+3*num t+4 by bv_omega] at e2
 obtain ⟨hP,hlv⟩:=zk6 t hn
 have hsz:size=16777216:=rfl
 have hnl:ns.length≤20:=by
  have hp:ns.length≤(opl t).length:=by
   exact List.Nodup.length_le_of_subset n1 fun k hk=>(n3 k).mp hk
  have:=opl_num t
  exact qt hp (qt this hn)
 refine elEEA (met_ok (fuel:=fuel) H hP (by bv_omega) n S [] hS ⟨by simp,by simp⟩ (by rw [hlv,hsz]; simp; bv_omega) (by rw [hlv]; exact hz)) fun K f e3 M=>?_
 have ho:∀ i,i∈ns↔Opn i (shp t):=fun i=>(n3 i).trans (opn_shp t i).symm
 have hK:K.length<size:=by
  have:=M.size
  rw [hlv] at this
  exact Nat.lt_of_le_of_lt this (Nat.lt_of_le_of_lt (Nat.pow_le_pow_left (by bv_omega) _) hz)
 have hri:=rows_iff n1 hP hS ho M
 have hrc:∀ κ∈K,∀ v∈zj6 ns κ,Can 7 v:=fun κ hκ v hv=>(((hri _).mp ⟨κ,hκ,rfl⟩).2.1 v hv).can hS
 have hrd:∀ κ∈K,∀ i∈ns,∃ v,lk κ i=some v:=fun κ hκ i hi=>by
  obtain ⟨v,hv⟩:=(M.ext κ hκ).dom i ((ho i).mp hi)
  exact ⟨v,mem_lk (M.ext κ hκ).nod hv⟩
 have loop:=zy7 (bnd:=zu2 4) (body:=ex (Ga Fs fuel (n+3*num t+4)) fo_row) dK (fun done σ=>∃ R c a,(c=vl (.list (ns.map .int))∨c=ow (.list (ns.map .int)))∧R.Nodup∧(∀ p,p∈R↔∃ κ∈done,p=.tuple (zj6 ns κ))∧R.length≤done.length∧σ=foS (enc t) S c (ow (.dict (R.map enR))) a none none none none none) (L:=K)
  (σ:=foS (enc t) S (ow (.list (ns.map .int))) (ow (.dict [])) none none none none none none) ⟨[],_,none,.inr rfl,by simp,by simp,by simp,rfl⟩ (by
   rintro done κ rest σ e ⟨R,c,a,hcc,r1,r2,r3,rfl⟩
   have hκ:κ∈K:=by exact mm e
   have hmem:∀ p∈R,∃ κ'∈K,p=.tuple (zj6 ns κ'):=fun p hp=>by
    refine elEA ((r2 p).mp hp) fun κ' h' e'=>?_
    exact ⟨κ',by exact mml e h',e'⟩
   have hRt:∀ p∈R,tkey p=true:=fun p hp=>by
    (refine elEA (hmem p hp) fun κ' h' e_2=>?_; subst e_2)
    exact tkey_tup (hrc κ' h')
   have hRp:∀ p∈R,zz5 p=true:=fun p hp=>by
    (refine elEA (hmem p hp) fun κ' h' e_2=>?_; subst e_2)
    simp only [zz5]; exact zu0 fun v hv=>(hrc κ' h' v hv).plain
   have hpl:zz5 (.tuple (zj6 ns κ))=true:=by simp only [zz5]; exact zu0 fun v hv=>(hrc κ hκ v hv).plain
   have hdl:done.length<K.length:=by exact lm1 e
   refine ⟨_,_,rfl,fo_row_step (hrd κ hκ) (hrc κ hκ) hRt (by exact ql (qt r3 (Nat.le_of_lt hdl)) hK) (by rw [hsz]; bv_omega) hcc,_,vl (.list (ns.map .int)),vl (dK κ),.inl rfl,zl7 hpl hRp r1,fun p=>?_,?_,rfl⟩
   ·rw [radd_mem hpl hRp,r2]
    simp only [List.mem_append,List.mem_singleton]
    constructor
    ·rintro (⟨κ',h',e'⟩|e')
     ·exact ⟨κ',.inl h',e'⟩
     ·exact ⟨κ,.inr rfl,e'⟩
    ·rintro ⟨κ',h'|rfl,e'⟩
     ·exact .inl ⟨κ',h',e'⟩
     ·exact .inr e'
   ·have:=radd_len (.tuple (zj6 ns κ)) R
    rw [List.length_append]; simp; exact qt this (Nat.succ_le_succ r3))
 (refine elEAEEEAAAA (loop) fun σ' eloop R c a hcc r1 r2 r3 e_9=>?_; subst e_9)
 obtain ⟨L0,rfl⟩:=all_tup (l:=R) fun x hx=>by
  refine elEA ((r2 x).mp hx) fun κ _ e=>?_; exact ⟨_,e⟩
 have hL0:∀ r,r∈L0↔Row ns (shp t) S r:=fun r=>by
  rw [← hri r]
  constructor
  ·intro h
   refine elEA ((r2 (.tuple r)).mp (List.mem_map.mpr ⟨r,h,rfl⟩)) fun κ hκ e=>?_
   exact ⟨κ,hκ,by simpa using e⟩
  ·rintro ⟨κ,hκ,rfl⟩
   refine elEA (List.mem_map.mp ((r2 _).mpr ⟨κ,hκ,rfl⟩)) fun r' hr' e=>?_
   simp at e; subst e; exact hr'
 have hLc:∀ r∈L0,∀ v∈r,Can 7 v:=fun r hr v hv=>(((hL0 r).mp hr).2.1 v hv).can hS
 have hLl:∀ r∈L0,r.length=ns.length:=fun r hr=>((hL0 r).mp hr).1
 have hL0n:L0.Nodup:=nodup_tup.mp r1
 have hL0z:L0.length<size:=by rw [List.length_map] at r3; exact ql r3 hK
 have hso:=sortD_rows hLc hLl hL0n (hb ns L0 n1 n3 hL0n fun r hr=>(hL0 r).mp hr)
 have hss:=zu3 (cmp_rows hLc)
 refine elEA (tup_list (zz2 (L0.map .tuple))) fun L eL pL=>?_
 rw [eL] at hso hss
 have hLz:L.length<size:=by rw [pL.length_eq]; exact hL0z
 have loop2:=zy7 (bnd:=zu2 7) (body:=ex (Ga Fs fuel (n+3*num t+4)) fo_fill) PyData.tuple (fun done σ=>∃ c f h i j,(c=vl (.list (ns.map .int))∨c=ow (.list (ns.map .int)))∧σ=foS (enc t) S c (ow (.dict ((L0.map PyData.tuple).map enR))) a f (ow (.list (done.map fun r=>dK (ns.zip r)))) h i j) (L:=L)
  (σ:=foS (enc t) S c (ow (.dict ((L0.map PyData.tuple).map enR))) a none (ow (.list [])) none none none) ⟨_,_,_,_,_,hcc,rfl⟩ (by
   rintro done r rest σ e ⟨c',f,h,i,j,hc',rfl⟩
   have hr:r∈L0:=pL.mem_iff.mp (by exact mm e)
   have hdl:done.length<L.length:=by exact lm1 e
   refine elEEE (fo_fill_step (Fs:=Fs) (fuel:=fuel) (t:=enc t) (S:=S) (m:=n+3*num t+4) n1 (hLl r hr) (by rw [hsz]; exact qx hnl) (acc:=done.map fun r=>dK (ns.zip r)) (by rw [List.length_map]; exact ql hdl hLz) (d:=ow (.dict ((L0.map PyData.tuple).map enR))) (e:=a) (f:=f) (i:=i) (j:=j) hc') fun f' i' j' es=>?_
   exact ⟨_,_,rfl,es,vl (.list (ns.map .int)),f',vl (.tuple r),i',j',.inl rfl,by simp⟩)
 (refine elEAEEEEEA (loop2) fun σ' eloop2 c2 f2 h2' i2 j2 hc2 e_8=>?_; subst e_8)
 refine ⟨ns,L,n1,n2,n3,zz7 h3 rfl ?_,hss,pL.nodup_iff.mpr hL0n,fun r=>pL.mem_iff.trans (hL0 r),hLz⟩
 show ex (Ga Fs fuel (n+3*num t+4)) zs0 (foS (enc t) S none none none none none none none none)=_
 rw [zs0,zz0 (σ':=foS (enc t) S (ow (.list (ns.map .int))) none none none none none none none) (by simp [e1]),
  zz0 (σ':=foS (enc t) S (ow (.list (ns.map .int))) (ow (.dict [])) none none none none none none) (by simp),
  zz0 (by
   rw [zz4,show srcE (ev (Ga Fs fuel (n+3*num t+4)) (.call "met" (.cons (.call "shaped" (.cons (.var 0) .nil)) (.cons (.var 1) (.cons .dct0 .nil))))) (foS (enc t) S (ow (.list (ns.map .int))) (ow (.dict [])) none none none none none none)=some (K.map dK,foS (enc t) S (ow (.list (ns.map .int))) (ow (.dict [])) none none none none none none) by
    have e3':run Fs glo fuel (n+3*num t+4) "met" [shp t,S,.dict []]=some (.list (K.map dK),f):=e3
    simp [zit1,e2,e3']]
   exact eloop),
  zz0 (σ':=foS (enc t) S c (ow (.dict ((L0.map PyData.tuple).map enR))) a none (ow (.list [])) none none none) (by simp [↓mkL0]),
  zz0 (by
   rw [zz4,show srcE (ev (Ga Fs fuel (n+3*num t+4)) (.prim1 .sorted (.brw 3))) (foS (enc t) S c (ow (.dict ((L0.map PyData.tuple).map enR))) a none (ow (.list [])) none none none)=some (L.map PyData.tuple,foS (enc t) S c (ow (.dict ((L0.map PyData.tuple).map enR))) a none (ow (.list [])) none none none) by
    have hke:=keysOf_enR (L0.map PyData.tuple)
    rw [srcE,zm2]
    show (((some (PyData.dict ((L0.map PyData.tuple).map enR),_)).bind _).bind _)=_
    simp only [Option.bind_some,p_srt,r_srt,zso2,hke,hso,zit1]]
   exact eloop2)]
 exact zy0 (by simp)
end Pl
end
section
namespace Pl
open Mini PySem
variable {Fs:Fns} {fuel:Nat}
theorem len_lv {k:Nat}:∀ {l:List D},(∀ x∈l,Can k x)→l.length≤lvL l
 | [],_=>Nat.zero_le _
 | x::r,h=>by
  have:=(h x mh).lv_pos
  have:=len_lv (l:=r) fun y hy=>h y (mt hy)
  simp only [lvL,List.length_cons]; exact qt (Nat.le_of_eq (Nat.add_comm ..)) (qa ‹_› this)
theorem parts_len {k:Nat} {s:Sn} (hs:s≠.pair) {d:D} (h:Can k d):(parts s d).length≤lv d:=by
 rw [← zo0 hs h]; exact len_lv (h.parts_can hs)
theorem sort_congr2 {k:Nat} {l r:List D} (h:∀ x∈r,Can k x) (p:l.Perm r):zx6 l=zx6 r:=by
 have hl:∀ x∈l,Can k x:=fun x hx=>h x (p.mem_iff.mp hx)
 exact zo9 (zp7 h) ((zz2 l).trans p) (zu3 (zp7 hl))
theorem sortD_can {k:Nat} {l:List D} (h:∀ x∈l,Can k x) (hk:k≤100) (hl:l.length<64):sortD l=some (.list (zx6 l),true):=by
 simp [sortD,sortable_shp (fun x hx=>(h x hx).shp) (by exact qy (Nat.add_le_add_right hk 20):k+20≤1000),hl]
noncomputable def lj_body:I:=(.cons (.iff (.cmp .Eq (.idx (.var 3) (.cint 0)) (.var 0)) (.cons (.asg 2 (.bin .Add (.brw 2) (.prim1 .list (.slc (.var 3) (.cint 1) .omit)))) .nil) (.cons (.app 2 (.var 3)) .nil)) .nil)
noncomputable def zy6:I:=(.cons (.asg 2 (.lst .nil)) (.cons (.for1 3 (.var 1) lj_body) (.cons (.iff (.cmp .Eq (.prim1 .len (.brw 2)) (.cint 1)) (.cons (.ret (.idx (.brw 2) (.cint 0))) .nil) .nil) (.cons (.ret (.bin .Add (.tup (.cons (.var 0) .nil)) (.prim1 .tuple (.prim1 .sorted (.brw 2))))) .nil))))
theorem lj_step {Γ:Mini.Env} {s:Sn} {v1:Option AV} {acc:List D} {k:Nat} {d:D} (hd:Can k d) (hz:acc.length+(parts s d).length<size) :
  ex Γ lj_body [vl (.str s.str),v1,ow (.list acc),vl d]=some (.next [vl (.str s.str),v1,ow (.list (acc++parts s d)),vl d]):=by
 (refine elEEA (hd.head) fun x r e_2 ox=>?_; subst e_2)
 have hr:(1:Int)≤(r.length:Int)+1:=by bv_omega
 by_cases e:x=s.str
 ·subst e
  rw [zt4] at hz ⊢
  have hz':acc.length+r.length≤size:=by exact Nat.le_of_lt hz
  rw [lj_body,zz0 (σ':=[vl (.str s.str),v1,ow (.list (acc++r)),vl (.tuple (.str s.str::r))]) (by simp [zw9,zz1,c_eq,eqD,b_ad,zad1,mkL_,p_lst,zse2,↓zy2,bE_o,bE_c,zsl2,bD_,orS,zu4,zy1,hr,hz'])]
  rfl
 ·have e':(x==s.str)=false:=by simpa using e
  have hp:parts s (.tuple (.str x::r))=[.tuple (.str x::r)]:=by simp [parts,e]
  rw [hp] at hz ⊢
  have hz':acc.length+1<size:=by simpa using hz
  rw [lj_body,zz0 (σ':=[vl (.str s.str),v1,ow (.list (acc++[.tuple (.str x::r)])),vl (.tuple (.str x::r))]) (by simp [zz1,c_eq,eqD,↓zy2,zu4,ox,zy1,e',hz'])]
  rfl
theorem zl1 (h:Has Fs "_law_joined" ⟨2,4,zy6⟩) (n:Nat) (s:Sn) (hs:s≠.pair) {k:Nat} (hk:k≤100) {xs:List D} (hc:∀ x∈xs,Can k x) (hz:lvL xs<64) :
  run Fs glo fuel (n+1) "_law_joined" [.str s.str,.list xs]=some (zy3 s (zx6 (xs.flatMap (parts s))),false):=by
 have hsz:size=16777216:=rfl
 have hpl:∀ ys:List D,(∀ x∈ys,Can k x)→(ys.flatMap (parts s)).length≤lvL ys:=fun ys=>by
  induction ys with
  | nil=>intro _; simp
  | cons y r ih =>
   intro h
   have a:=parts_len hs (h y mh)
   have b:=ih fun x hx=>h x (mt hx)
   simp only [List.flatMap_cons,List.length_append,lvL]; exact qa a b
 have loop:=zy7 (bnd:=zu2 3) (body:=ex (Ga Fs fuel n) lj_body) id (fun done σ=>∃ y,σ=[vl (.str s.str),vl (.list xs),ow (.list (done.flatMap (parts s))),y]) (L:=xs)
  (σ:=[vl (.str s.str),vl (.list xs),ow (.list []),none]) ⟨none,rfl⟩ (by
   rintro done d rest σ e ⟨y,rfl⟩
   have hd:Can k d:=hc d (by exact mm e)
   have a:=hpl (done++[d]) fun x hx=>hc x (by
    rw [e]; rcases List.mem_append.mp hx with q|q
    ·simp [q]
    ·simp at q; simp [q])
   have b:lvL (done++[d])≤lvL xs:=zn3 (by rw [e,show done++d::rest=(done++[d])++rest by simp]; exact List.sublist_append_left _ _)
   refine ⟨_,_,rfl,lj_step (d:=d) hd ?_,vl d,by simp⟩
   simp only [List.flatMap_append,List.length_append,List.flatMap_cons,List.flatMap_nil,List.append_nil] at a
   exact qx (qt a (qt b (Nat.le_of_lt hz))))
 rw [List.map_id] at loop
 (refine elEAE (loop) fun σ' e y e_3=>?_; subst e_3)
 have hlen:=hpl xs hc
 have hcp:∀ x∈xs.flatMap (parts s),Can k x:=fun x hx=>by
  refine elEA (List.mem_flatMap.mp hx) fun y hy hx=>?_
  exact (hc y hy).parts_can hs x hx
 generalize hR:xs.flatMap (parts s)=R at *
 have hso:=sortD_can hcp hk (by exact ql hlen hz)
 refine zz7 h rfl ?_
 show ex (Ga Fs fuel n) zy6 [vl (.str s.str),vl (.list xs),none,none]=_
 rw [zy6,zz0 (σ':=[vl (.str s.str),vl (.list xs),ow (.list []),none]) (by simp [↓mkL0]),zz0 (by rw [zz4]; exact e)]
 by_cases h1:R.length=1
 ·obtain ⟨x,rfl⟩:=List.length_eq_one_iff.mp h1
  refine zy0 ?_
  simp [zz1,c_eq,eqD,zr2,zle1,↓ix_l0,zw0,zr1,zx6,insD,zy3]
 ·have h1':((R.length:Int)==1)=false:=by simpa using (by bv_omega:¬ (R.length:Int)=1)
  have hl:(zx6 R).length=R.length:=(zz2 R).length_eq
  have hz1:R.length+1≤size:=by exact qt (Nat.succ_le_succ (qt hlen (Nat.le_of_lt hz))) (by decide)
  have hz2:1+R.length≤size:=by exact qt (qa (Nat.le_refl 1) (qt hlen (Nat.le_of_lt hz))) (by decide)
  rw [zy5 (by rw [hl]; exact h1),zz0 (σ':=[vl (.str s.str),vl (.list xs),ow (.list R),y]) (by simp [c_eq,eqD,zr2,zle1,zw0,zr1,h1'])]
  refine zy0 ?_
  simp [b_ad,zad2,↓mkT1,mkT_,p_tup,p_srt,zso1,zse1,r_srt,hso,hl,hz1]
noncomputable def zz3 (f:Int→D):Tm→D
 | .leaf o k=>if o then f k else enc (.leaf o k)
 | .node s a b=>if s=.pair then .tuple [.str "pair", zz3 f a,zz3 f b] else zy3 s (zx6 (parts s (zz3 f a)++parts s (zz3 f b)))
theorem ofParts_lv {k:Nat} {s:Sn} {l:List D} (hc:∀ x∈l,Can k x):lv (zy3 s l)=lvL l:=by
 match l with
 | []=>simp [zy3,lv,lvL]
 | [x]=>simp [zy3,lvL]
 | a::b::r=>rw [zy5 (by simp),zv5]
noncomputable def Vals (c:Nat) (f:Int→D) (t:Tm):Prop:=∀ i∈opl t,Can 7 (f i)∧lv (f i)≤c
theorem lfill_canK {c m:Nat} {f:Int→D} (hc:1≤c):∀ (t:Tm),c*num t≤20→(∀ i∈opl t,Can m (f i)∧lv (f i)≤c)→Can (m+num t) (zz3 f t)∧lv (zz3 f t)≤c*num t
 | .leaf o k,h,hv=>by
  cases o with
  | true =>
   have:=hv k mh
   simp only [zz3,if_true,num,Nat.mul_one]
   exact ⟨this.1.mono (by bv_omega),this.2⟩
  | false=>simp only [zz3,num,enc]; exact ⟨.leaf m false k,by simp [lv,lvL]; bv_omega⟩
 | .node s a b,h,hv=>by
  have pa:=zw3 a
  have pb:=zw3 b
  have hn:num (.node s a b)=num a+num b:=rfl
  rw [hn,Nat.mul_add] at h ⊢
  obtain ⟨ca,la⟩:=lfill_canK hc a (by exact qf h) fun i hi=>hv i (ml hi)
  obtain ⟨cb,lb⟩:=lfill_canK hc b (by exact qr h) fun i hi=>hv i (mr hi)
  have ca':Can (m+num a+num b - 1) (zz3 f a):=ca.mono (by exact nlb pb)
  have cb':Can (m+num a+num b - 1) (zz3 f b):=cb.mono (by exact nlm pa)
  rw [show m+(num a+num b)=m+num a+num b - 1+1 by exact (Nat.add_assoc ..).symm.trans (nc2 pa).symm]
  by_cases hs:s=.pair
  ·subst hs
   simp only [zz3,if_true]
   exact ⟨.pair ca' cb',by rw [zu6]; exact qa la lb⟩
  ·simp only [zz3,hs,if_false]
   have hl:=(zz2 (parts s (zz3 f a)++parts s (zz3 f b))).length_eq
   rw [List.length_append] at hl
   have h1:=(ca.parts_pos hs).1
   have h2:=parts_len hs ca
   have h3:=(cb.parts_pos hs).1
   have h4:=parts_len hs cb
   have hm:∀ x∈zx6 (parts s (zz3 f a)++parts s (zz3 f b)),x∈parts s (zz3 f a)∨x∈parts s (zz3 f b):=fun x hx=>List.mem_append.mp ((zz2 _).mem_iff.mp hx)
   have hcan:∀ x∈parts s (zz3 f a)++parts s (zz3 f b),Can (m+num a+num b - 1) x:=fun x hx=>(List.mem_append.mp hx).elim (ca'.parts_can hs x) (cb'.parts_can hs x)
   have hcs:∀ x∈zx6 (parts s (zz3 f a)++parts s (zz3 f b)),Can (m+num a+num b - 1) x:=fun x hx=>hcan x ((zz2 _).mem_iff.mp hx)
   refine ⟨?_,?_⟩
   ·rw [zy5 (by bv_omega)]
    exact .join hs (by exact hl▸qa h1 h3) (by exact hl▸qt (qa (qt h2 la) (qt h4 lb)) h) hcs (fun x hx=>(hm x hx).elim (ca.parts_non hs x) (cb.parts_non hs x)) (zu3 (zp7 hcan))
   ·rw [ofParts_lv hcs,zm6 (zz2 _),zz8,zo0 hs ca,zo0 hs cb]; exact qa la lb
theorem zv1 {c:Nat} {f:Int→D} (hc:1≤c) (t:Tm) (h:c*num t≤20) (hv:Vals c f t):Can (7+num t) (zz3 f t)∧lv (zz3 f t)≤c*num t:=lfill_canK hc t h hv
theorem fl_parts {k:Nat} {s:Sn} (hs:s≠.pair) (f:Int→D) {P:D} (h:Can k P):(fl s f (parts s P)).Perm (parts s (fill f P)):=by
 rcases h.parts hs with e|⟨l,e1,e,_⟩
 ·rw [e,fl_one]
 ·rw [e,e1,zm0 f hs,zt4]
  refine List.Perm.trans ?_ (zz2 _).symm
  simp [fl,List.flatMap_map]
theorem zk2 {c:Nat} {f:Int→D} (hc:1≤c):∀ (t:Tm),c*num t≤20→Vals c f t→zz3 f t=fill f (shp t)
 | .leaf o k,h,hv=>by
  cases o with
  | true=>simp only [zz3,if_true,shp,enc,lstr,zt1]
  | false=>simp only [zz3,shp,enc,lstr]; rfl
 | .node s a b,h,hv=>by
  have hn:num (.node s a b)=num a+num b:=rfl
  rw [hn,Nat.mul_add] at h
  have hva:Vals c f a:=fun i hi=>hv i (ml hi)
  have hvb:Vals c f b:=fun i hi=>hv i (mr hi)
  have ea:=zk2 hc a (by bv_omega) hva
  have eb:=zk2 hc b (by bv_omega) hvb
  have hca:num a≤c*num a:=Nat.le_mul_of_pos_left _ hc
  have hcb:num b≤c*num b:=Nat.le_mul_of_pos_left _ hc
  by_cases hs:s=.pair
  ·subst hs; simp only [zz3,if_true,zh3,zn9,ea,eb]
  ·have ca:=zv1 hc a (by bv_omega) hva
   have cb:=zv1 hc b (by bv_omega) hvb
   simp only [zz3,hs,if_false]
   have h1:=(ca.1.parts_pos hs).1
   have h2:=(cb.1.parts_pos hs).1
   have hl:=(zz2 (parts s (zz3 f a)++parts s (zz3 f b))).length_eq
   rw [List.length_append] at hl
   rw [zy5 (by bv_omega),shp_join hs,zm0 f hs]
   congr 2
   have hcan:∀ x∈parts s (zz3 f a)++parts s (zz3 f b),Can (7+num a+num b) x:=fun x hx=>(List.mem_append.mp hx).elim ((ca.1.mono (by exact Nat.le_add_right ..)).parts_can hs x) ((cb.1.mono (by exact Nat.add_le_add_right (Nat.le_add_right ..) _)).parts_can hs x)
   symm
   refine sort_congr2 hcan ?_
   have p1:((zx6 (parts s (shp a)++parts s (shp b))).map (fill f)).flatMap (parts s)=fl s f (zx6 (parts s (shp a)++parts s (shp b))):=by simp [fl,List.flatMap_map]
   rw [p1]
   have p2:(fl s f (zx6 (parts s (shp a)++parts s (shp b)))).Perm (fl s f (parts s (shp a)++parts s (shp b))):=(zz2 _).flatMap_right _
   refine p2.trans ?_
   rw [zi6,ea,eb]
   exact (fl_parts hs f (zk6 a (by exact qt hca (qf h))).1).append (fl_parts hs f (zk6 b (by exact qt hcb (qr h))).1)
theorem lfill_none (f:Int→D):∀ (t:Tm),num t≤20→opl t=[]→zz3 f t=shp t
 | .leaf o k,_,h=>by
  cases o with
  | true=>simp [opl] at h
  | false=>rfl
 | .node s a b,hn,h=>by
  have hn':num a+num b≤20:=hn
  simp only [opl,List.append_eq_nil_iff] at h
  have ea:=lfill_none f a (by bv_omega) h.1
  have eb:=lfill_none f b (by bv_omega) h.2
  by_cases hs:s=.pair
  ·subst hs; simp only [zz3,if_true,zh3,ea,eb]
  ·simp only [zz3,hs,if_false,ea,eb]
   have h1:=((zk6 a (by bv_omega)).1.parts_pos hs).1
   have h2:=((zk6 b (by bv_omega)).1.parts_pos hs).1
   have hl:=(zz2 (parts s (shp a)++parts s (shp b))).length_eq
   rw [List.length_append] at hl
   rw [zy5 (by bv_omega),shp_join hs]
end Pl
end
section
namespace Pl
open Mini PySem
variable {Fs:Fns} {fuel:Nat}
noncomputable def lf_join:I:=(.cons (.ret (.call "_law_joined" (.cons (.idx (.var 0) (.cint 0)) (.cons (.lst (.cons (.var 2) (.cons (.var 3) .nil))) .nil)))) .nil)
noncomputable def lf_pair:I:=(.iff (.cmp .Eq (.idx (.var 0) (.cint 0)) (.cstr "pair")) (.cons (.ret (.tup (.cons (.cstr "pair") (.cons (.var 2) (.cons (.var 3) .nil))))) .nil) .nil)
noncomputable def lf_node:I:=(.cons (.asg 2 (.call "_law_filled" (.cons (.idx (.var 0) (.cint 1)) (.cons (.var 1) .nil)))) (.cons (.asg 3 (.call "_law_filled" (.cons (.idx (.var 0) (.cint 2)) (.cons (.var 1) .nil)))) (.cons lf_pair lf_join)))
noncomputable def zv3:I:=(.cons (.iff (.cmp .Eq (.idx (.var 0) (.cint 0)) (.cstr "open")) (.cons (.ret (.idx (.var 1) (.idx (.var 0) (.cint 1)))) .nil) .nil) (.cons (.iff (.cmp .Eq (.idx (.var 0) (.cint 0)) (.cstr "name")) (.cons (.ret (.var 0)) .nil) .nil) lf_node))
theorem zq7 (hj:Has Fs "_law_joined" ⟨2,4,zy6⟩) (h:Has Fs "_law_filled" ⟨2,4,zv3⟩) {c:Nat} {f:Int→D} {κ:Kn} (hc:1≤c) :
  ∀ (t:Tm) (n:Nat),c*num t≤20→Vals c f t→(∀ i∈opl t,lk κ i=some (f i))→run Fs glo fuel (n+num t+1) "_law_filled" [enc t,dK κ]=some (zz3 f t,false)
 | .leaf o k,n,_,hv,hk=>by
  refine zz7 h rfl ?_
  show ex (Ga Fs fuel (n+1)) zv3 [vl (enc (.leaf o k)),vl (dK κ),none,none]=_
  cases o with
  | true =>
   have:=hk k mh
   rw [zv3]
   refine zy0 ?_
   simp [zz1,c_eq,eqD,↓zy2,↓zr8,zix3,enc,lstr,zz3,zv8,zy1,zq3,zm9,this]
  | false =>
   rw [zv3,zz0 (σ':=[vl (enc (.leaf false k)),vl (dK κ),none,none]) (by simp [c_eq,eqD,↓zy2,enc,lstr,zv8,zx7,zy1,zp1])]
   refine zy0 ?_
   simp [zz1,c_eq,eqD,↓zy2,enc,lstr,zz3,zx7,zy1]
 | .node s a b,n,hn,hv,hk=>by
  have pa:=zw3 a
  have pb:=zw3 b
  have hnn:num (.node s a b)=num a+num b:=rfl
  rw [hnn,Nat.mul_add] at hn
  have hva:Vals c f a:=fun i hi=>hv i (ml hi)
  have hvb:Vals c f b:=fun i hi=>hv i (mr hi)
  have ea:=zq7 hj h hc a (n+num b - 1) (by exact qf hn) hva fun i hi=>hk i (ml hi)
  have eb:=zq7 hj h hc b (n+num a - 1) (by exact qr hn) hvb fun i hi=>hk i (mr hi)
  rw [show n+num b - 1+num a+1=n+num a+num b by exact nc4 pb] at ea
  rw [show n+num a - 1+num b+1=n+num a+num b by exact nc3 pa] at eb
  rw [hnn,show n+(num a+num b)+1=n+num a+num b+1 by bv_omega]
  refine zz7 h rfl ?_
  show ex (Ga Fs fuel (n+num a+num b)) zv3 [vl (enc (.node s a b)),vl (dK κ),none,none]=_
  have o1:(s.str==("open" : Str))=false:=by cases s<;>decide
  have o2:(s.str==("name" : Str))=false:=by cases s<;>decide
  rw [zv3,zz0 (σ':=[vl (enc (.node s a b)),vl (dK κ),none,none]) (by simp [c_eq,eqD,↓zy2,enc,zv8,zu4,zy1,o1]),
   zz0 (σ':=[vl (enc (.node s a b)),vl (dK κ),none,none]) (by simp [c_eq,eqD,↓zy2,enc,zx7,zu4,zy1,o2]),
   lf_node,zz0 (σ':=[vl (enc (.node s a b)),vl (dK κ),vl (zz3 f a),none]) (by simp [↓zr8,enc,ea]),
   zz0 (σ':=[vl (enc (.node s a b)),vl (dK κ),vl (zz3 f a),vl (zz3 f b)]) (by simp [↓ix_t2,enc,eb])]
  by_cases hs:s=.pair
  ·subst hs
   refine zy0 ?_
   rw [lf_pair]
   simp [zz1,c_eq,eqD,↓mkT3,↓zy2,enc,Sn.str,zz3,zx0,zy1]
  ·have o3:(s.str==("pair" : Str))=false:=by simpa using zs8 hs
   have ca:=zv1 hc a (by exact qf hn) hva
   have cb:=zv1 hc b (by bv_omega) hvb
   have hca:num a≤c*num a:=Nat.le_mul_of_pos_left _ hc
   have hcb:num b≤c*num b:=Nat.le_mul_of_pos_left _ hc
   have e:=zl1 (fuel:=fuel) hj (n+num a+num b - 1) s hs (k:=50) (by bv_omega) (xs:=[zz3 f a,zz3 f b]) (fun x hx=>by
    simp at hx
    rcases hx with rfl|rfl
    ·exact ca.1.mono (by exact qy (Nat.add_le_add_left (qt hca (qf hn)) 7))
    ·exact cb.1.mono (by exact qy (Nat.add_le_add_left (qt hcb (qr hn)) 7))) (by simp only [lvL]; exact qx (qt (qa ca.2 cb.2) hn))
   rw [show n+num a+num b - 1+1=n+num a+num b by exact nc2 pa] at e
   have e':[zz3 f a,zz3 f b].flatMap (parts s)=parts s (zz3 f a)++parts s (zz3 f b):=by simp
   rw [e'] at e
   rw [zz0 (σ':=[vl (enc (.node s a b)),vl (dK κ),vl (zz3 f a),vl (zz3 f b)]) (by rw [lf_pair]; simp [c_eq,eqD,↓zy2,enc,zx0,zu4,zy1,o3]),lf_join]
   refine zy0 ?_
   simp [↓mkL2,↓zy2,enc,e,zz3,hs]
noncomputable def zq5:I:=(.cons (.iff (.cmp .Eq (.prim1 .len (.var 0)) (.cint 2)) (.cons (.ret (.cmp .Eq (.var 0) (.tup (.cons (.cstr "open") (.cons (.var 1) .nil))))) .nil) .nil) (.cons (.ret (.or (.cons (.call "_law_has" (.cons (.idx (.var 0) (.cint 1)) (.cons (.var 1) .nil))) (.cons (.call "_law_has" (.cons (.idx (.var 0) (.cint 2)) (.cons (.var 1) .nil))) .nil)))) .nil))
theorem okd_leaf (o:Bool) (k:Int):okd (.tuple [.str (lstr o),.int k])=true:=(Can.leaf 0 o k).okd (by bv_omega)
theorem run_law_has (h:Has Fs "_law_has" ⟨2,2,zq5⟩) (i:Int):∀ (t:Tm) (n:Nat),run Fs glo fuel (n+num t) "_law_has" [enc t,.int i]=some (.bool (decide (i∈opl t)),false)
 | .leaf o k,n=>by
  refine zz7 h rfl ?_
  show ex (Ga Fs fuel n) zq5 [vl (enc (.leaf o k)),vl (.int i)]=_
  rw [zq5]
  refine zy0 ?_
  have o1:=okd_leaf o k
  have o2:okd (.tuple [.str "open", .int i])=true:=okd_leaf true i
  have e:PyData.eqv (.tuple [.str (lstr o),.int k]) (.tuple [.str "open", .int i])=decide (i∈opl (.leaf o k)):=by
   cases o with
   | true=>show (("open" : Str) == "open" && (k==i&&true))=decide (i∈[k]); rw [Bool.eq_iff_iff]; simp; exact eq_comm
   | false=>show (("name" : Str) == "open" && (k==i&&true))=decide (i∈[]); rw [show (("name" : Str) == "open")=false by decide]; simp
  simp only [enc] at *
  simp [zz1,c_eq,eqD,↓mkT2,zr2,zle2,zw0,zr1,o1,o2,e]
 | .node s a b,n=>by
  have pa:=zw3 a
  have pb:=zw3 b
  have hnn:num (.node s a b)=num a+num b:=rfl
  have ea:=run_law_has h i a (n+num b - 1)
  have eb:=run_law_has h i b (n+num a - 1)
  rw [show n+num b - 1+num a=n+num a+num b - 1 by exact Nat.succ.inj ((nc4 pb).trans (nc2 pa).symm)] at ea
  rw [show n+num a - 1+num b=n+num a+num b - 1 by exact Nat.succ.inj ((nc3 pa).trans (nc2 pa).symm)] at eb
  rw [hnn,show n+(num a+num b)=n+num a+num b - 1+1 by exact (Nat.add_assoc ..).symm.trans (nc2 pa).symm]
  refine zz7 h rfl ?_
  show ex (Ga Fs fuel (n+num a+num b - 1)) zq5 [vl (enc (.node s a b)),vl (.int i)]=_
  rw [zq5,zz0 (σ':=[vl (enc (.node s a b)),vl (.int i)]) (by simp [c_eq,eqD,zr2,zle2,enc,zw0,zr1])]
  refine zy0 ?_
  by_cases hia:i∈opl a
  ·simp [↓zr8,enc,ea,opl,hia]
  ·simp [↓zr8,↓ix_t2,enc,ea,eb,opl,hia]
end Pl
end
section
namespace Pl
open Mini PySem
variable {Fs:Fns} {fuel:Nat}
theorem lv_less {k:Nat} {l:List D} (hc:∀ x∈l,Can k x) (h2:2≤l.length) {x:D} (hx:x∈l):lv x+1≤lvL l:=by
 obtain ⟨a,b,rfl⟩:=List.append_of_mem hx
 have h:=len_lv (k:=k) (l:=a++b) fun y hy=>hc y (by rcases List.mem_append.mp hy with q|q<;>simp [q])
 simp only [zz8,lvL,List.length_append,List.length_cons] at *
 rw [Nat.add_left_comm]; exact Nat.add_le_add_left (qt (Nat.le_of_succ_le_succ h2) h) _
theorem Can.deep {k:Nat} {d:D} (h:Can k d):Can (lv d) d:=by
 induction h with
 | leaf k o n=>simp only [lv,lvL]; exact .leaf 0 o n
 | @pair k a b ha hb iha ihb =>
  have:=ha.lv_pos
  have:=hb.lv_pos
  rw [zu6,show lv a+lv b=lv a+lv b - 1+1 by exact (nc1 ‹_›).symm]
  exact .pair (iha.mono (by exact nlb this)) (ihb.mono (by exact nla ‹_›))
 | @join k s l hs h2 h20 hc hp hw ih =>
  have hl:=len_lv hc
  rw [zv5,show lvL l=lvL l - 1+1 by exact (Nat.sub_add_cancel (qt (by decide) (qt h2 hl))).symm]
  exact .join hs h2 h20 (fun x hx=>(ih x hx).mono (by have:=lv_less hc h2 hx; exact Nat.le_sub_of_add_le this)) hp hw
noncomputable def jn (s:Sn) (xs:List D):D:=.tuple (.str s.str::zx6 (xs.flatMap (parts s)))
theorem run_joinedM (h:Has Fs "parts_in" ⟨2,2,zx1⟩) (h2:Has Fs "joined" ⟨2,4,zw8⟩) (n:Nat) (s:Sn) (hs:s≠.pair) {k:Nat} (hk:k≤100) {xs:List D} (hc:∀ x∈xs,Can k x) (hz:(xs.flatMap (parts s)).length<64) :
  run Fs glo fuel (n+2) "joined" [.str s.str,.list xs]=some (jn s xs,false):=by
 have hsz:size=16777216:=rfl
 have loop:=zy7 (bnd:=zu2 3) (body:=ex (Ga Fs fuel (n+1)) (.cons (.ext 2 (.call "parts_in" (.cons (.var 0) (.cons (.var 3) .nil)))) .nil)) id (fun done σ=>∃ y3,σ=[vl (.str s.str),vl (.list xs),ow (.list (done.flatMap (parts s))),y3]) (L:=xs)
  (σ:=[vl (.str s.str),vl (.list xs),ow (.list []),none]) ⟨none,rfl⟩ (by
   rintro done x rest σ e ⟨y3,rfl⟩
   have hr:=zq8 (fuel:=fuel) h n s (hc x (by exact mm e)).shp
   have hz:(done.flatMap (parts s)).length+(parts s x).length<size:=by
    rw [e] at hz; simp only [List.flatMap_append,List.flatMap_cons,List.length_append] at hz; exact ql (Nat.add_le_add_left (Nat.le_add_right ..) _) (Nat.lt_trans hz (by decide))
   refine ⟨_,_,rfl,?_,vl x,by rw [List.flatMap_append,List.flatMap_singleton]⟩
   generalize done.flatMap (parts s)=A at hz
   rw [zz0 (σ':=[vl (.str s.str),vl (.list xs),ow (.list (A++parts s x)),vl x]) (by simp [zex1,hr,hz])]
   rfl)
 rw [List.map_id] at loop
 (refine elEAE (loop) fun σ' e y3 e_3=>?_; subst e_3)
 have hcp:∀ x∈xs.flatMap (parts s),Can k x:=fun x hx=>by
  refine elEA (List.mem_flatMap.mp hx) fun y hy hx=>?_
  exact (hc y hy).parts_can hs x hx
 have hso:=sortD_can hcp hk hz
 have hl:=(zz2 (xs.flatMap (parts s))).length_eq
 have hz1:(zx6 (xs.flatMap (parts s))).length+1≤size:=by exact qt (qt (Nat.le_of_eq (congrArg Nat.succ hl)) hz) (by decide)
 refine zz7 h2 rfl ?_
 show ex (Ga Fs fuel (n+1)) zw8 [vl (.str s.str),vl (.list xs),none,none]=_
 rw [zw8,zz0 (σ':=[vl (.str s.str),vl (.list xs),ow (.list []),none]) (by simp [↓mkL0]),zz0 (by rw [zz4]; exact e),zy0 (d:=jn s xs) (f:=false) (by simp [b_ad,zad1,↓mkL1,mkL_,p_tup,p_srt,zso1,zse1,r_srt,hso,hz1,jn])]
theorem jn_perm {k:Nat} {s:Sn} (hs:s≠.pair) {xs ys:List D} (hc:∀ x∈ys,Can k x) (p:xs.Perm ys):jn s xs=jn s ys:=by
 rw [jn,jn,sort_congr2 (k:=k) (r:=ys.flatMap (parts s)) (fun x hx=>?_) (p.flatMap_right _)]
 refine elEA (List.mem_flatMap.mp hx) fun y hy hx=>?_
 exact (hc y hy).parts_can hs x hx
theorem jn_len {k:Nat} {s:Sn} (hs:s≠.pair):∀ {xs:List D},(∀ x∈xs,Can k x)→xs.length≤(xs.flatMap (parts s)).length∧(xs.flatMap (parts s)).length≤lvL xs
 | [],_=>by simp [lvL]
 | x::r,h=>by
  have a:=parts_len hs (h x mh)
  have b:=((h x mh).parts_pos hs).1
  have:=jn_len hs (xs:=r) fun y hy=>h y (mt hy)
  simp only [List.flatMap_cons,List.length_append,lvL,List.length_cons]; exact ⟨qt (Nat.le_of_eq (Nat.add_comm ..)) (qa b this.1),qa a this.2⟩
theorem jn_can {k:Nat} {s:Sn} (hs:s≠.pair) {xs:List D} (hc:∀ x∈xs,Can k x) (h2:2≤xs.length) (hl:lvL xs≤20):Can (k+1) (jn s xs)∧lv (jn s xs)=lvL xs:=by
 have hp:=zz2 (xs.flatMap (parts s))
 have hle:=hp.length_eq
 have hn:=jn_len hs hc
 have hcp:∀ x∈xs.flatMap (parts s),Can k x∧parts s x=[x]:=fun x hx=>by
  refine elEA (List.mem_flatMap.mp hx) fun y hy hx=>?_
  exact ⟨(hc y hy).parts_can hs x hx,(hc y hy).parts_non hs x hx⟩
 refine ⟨.join hs (by exact hle▸qt h2 hn.1) (by exact hle▸qt hn.2 hl) (fun x hx=>(hcp x (hp.mem_iff.mp hx)).1) (fun x hx=>(hcp x (hp.mem_iff.mp hx)).2) (zu3 (zp7 fun x hx=>(hcp x hx).1)),?_⟩
 have:∀ ys:List D,(∀ x∈ys,Can k x)→lvL (ys.flatMap (parts s))=lvL ys:=fun ys=>by
  induction ys with
  | nil=>exact fun _=>rfl
  | cons y r ih =>
   intro h
   rw [List.flatMap_cons,zz8,zo0 hs (h y mh),ih fun x hx=>h x (mt hx)]; rfl
 rw [jn,zv5,zm6 hp,this xs hc]
theorem jn_self {k:Nat} {s:Sn} {xs:List D} (hc:∀ x∈xs,Can k x) (hp:∀ x∈xs,parts s x=[x]) (hw:xs.Pairwise leD):jn s xs=.tuple (.str s.str::xs):=by
 have flat:∀ {l:List D},(∀ x∈l,parts s x=[x])→l.flatMap (parts s)=l:=fun {l} h=>by
  induction l with
  | nil=>rfl
  | cons x r ih=>rw [List.flatMap_cons,h x mh,ih fun y hy=>h y (mt hy)]; rfl
 rw [jn,flat hp,← zo9 (zp7 hc) (List.Perm.refl _) hw]
theorem run_law_jn (h:Has Fs "_law_joined" ⟨2,4,zy6⟩) (n:Nat) (s:Sn) (hs:s≠.pair) {k:Nat} (hk:k≤100) {xs:List D} (hc:∀ x∈xs,Can k x) (h2:2≤xs.length) (hz:lvL xs<64) :
  run Fs glo fuel (n+1) "_law_joined" [.str s.str,.list xs]=some (jn s xs,false):=by
 have:=(jn_len hs hc).1
 rw [zl1 h n s hs hk hc hz,zy5 (by rw [(zz2 _).length_eq]; bv_omega)]; rfl
noncomputable def zn5:I:=(.cons (.iff (.cmp .In (.idx (.var 0) (.cint 0)) (.glob "JOINS")) (.cons (.ret (.call "joined" (.cons (.idx (.var 0) (.cint 0)) (.cons (.lst (.cons (.call "put_in" (.cons (.idx (.var 0) (.cint 1)) (.cons (.var 1) .nil))) (.cons (.call "put_in" (.cons (.idx (.var 0) (.cint 2)) (.cons (.var 1) .nil))) .nil))) .nil)))) .nil) .nil) (.cons (.iff (.cmp .Eq (.idx (.var 0) (.cint 0)) (.cstr "pair")) (.cons (.ret (.tup (.cons (.cstr "pair") (.cons (.call "put_in" (.cons (.idx (.var 0) (.cint 1)) (.cons (.var 1) .nil))) (.cons (.call "put_in" (.cons (.idx (.var 0) (.cint 2)) (.cons (.var 1) .nil))) .nil))))) .nil) .nil) (.cons (.iff (.cmp .Eq (.idx (.var 0) (.cint 0)) (.cstr "open")) (.cons (.ret (.idx (.var 1) (.idx (.var 0) (.cint 1)))) .nil) .nil) (.cons (.ret (.var 0)) .nil))))
theorem run_put_in (h:Has Fs "parts_in" ⟨2,2,zx1⟩) (h2:Has Fs "joined" ⟨2,4,zw8⟩) (h3:Has Fs "put_in" ⟨2,2,zn5⟩) {c:Nat} {f:Int→D} {κ:Kn} (hc:1≤c) :
  ∀ (t:Tm) (n:Nat),c*num t≤20→Vals c f t→(∀ i∈opl t,lk κ i=some (f i))→run Fs glo fuel (n+num t+2) "put_in" [enc t,dK κ]=some (zz3 f t,false)
 | .leaf o k,n,_,hv,hk=>by
  rw [zs3 h3 rfl]
  cases o with
  | true =>
   have:=hk k mh
   simp [zn5,zz3,enc,lstr,zz1,c_eq,c_in,eqD,zin2,zix3,↓zy2,↓zr8,zv8,zx7,zv9,zu5,zx0,zy1,zw2,zp0,ne_open_pair,zs5,zs6,zq1,zq2,zq3,zm9,this]
  | false=>simp [zn5,zz3,enc,lstr,zz1,c_eq,c_in,eqD,zin2,↓zy2,zv8,zx7,zv9,zu5,zx0,zy1,zw2,zp0,zp1,zs5,zs6,zq1,zq2]
 | .node s a b,n,hn,hv,hk=>by
  have pa:=zw3 a
  have pb:=zw3 b
  have hnn:num (.node s a b)=num a+num b:=rfl
  rw [hnn,Nat.mul_add] at hn
  have hva:Vals c f a:=fun i hi=>hv i (ml hi)
  have hvb:Vals c f b:=fun i hi=>hv i (mr hi)
  have ea:=run_put_in h h2 h3 hc a (n+num b - 1) (by bv_omega) hva fun i hi=>hk i (ml hi)
  have eb:=run_put_in h h2 h3 hc b (n+num a - 1) (by exact qr hn) hvb fun i hi=>hk i (mr hi)
  rw [show n+num b - 1+num a+2=n+num a+num b+1 by exact congrArg Nat.succ (nc4 pb)] at ea
  rw [show n+num a - 1+num b+2=n+num a+num b+1 by exact congrArg Nat.succ (nc3 pa)] at eb
  rw [hnn,show n+(num a+num b)+2=n+num a+num b+1+1 by bv_omega,zs3 h3 rfl]
  by_cases hs:s=.pair
  ·subst hs
   simp [zn5,zz3,enc,Sn.str,zz1,c_eq,c_in,eqD,zin2,↓mkT3,↓zy2,↓zr8,↓ix_t2,zv9,zu5,zx0,zy1,zw2,zn1,zn2,ea,eb]
  ·have ca:=zv1 hc a (by bv_omega) hva
   have cb:=zv1 hc b (by bv_omega) hvb
   have hca:num a≤c*num a:=Nat.le_mul_of_pos_left _ hc
   have hcb:num b≤c*num b:=Nat.le_mul_of_pos_left _ hc
   have hcan:∀ x∈[zz3 f a,zz3 f b],Can 50 x:=fun x hx=>by
    simp at hx
    rcases hx with rfl|rfl
    ·exact ca.1.mono (by exact qy (Nat.add_le_add_left (qt hca (qf hn)) 7))
    ·exact cb.1.mono (by exact qy (Nat.add_le_add_left (qt hcb (qr hn)) 7))
   have hlen:=jn_len hs hcan
   have hju:=run_joinedM (fuel:=fuel) h h2 (n+num a+num b - 1) s hs (by bv_omega) hcan (by simp only [lvL] at hlen; exact qx (qt hlen.2 (qt (qa ca.2 cb.2) hn)))
   rw [show n+num a+num b - 1+2=n+num a+num b+1 by exact congrArg Nat.succ (nc2 pa)] at hju
   have ej:jn s [zz3 f a,zz3 f b]=zz3 f (.node s a b):=by
    simp only [zz3,hs,if_false]
    have e:[zz3 f a,zz3 f b].flatMap (parts s)=parts s (zz3 f a)++parts s (zz3 f b):=by simp
    rw [e] at hlen
    rw [jn,e,zy5 (by rw [(zz2 _).length_eq]; simp at hlen ⊢; exact fun e=>absurd (e▸hlen.1) (by decide))]
   rw [ej] at hju
   have hin:(PyData.eqv (.str "sum") (.str s.str)||PyData.eqv (.str "mul") (.str s.str))=true:=by
    rcases sn_join s with q|q
    ·exact q.1
    ·exact absurd q.2 hs
   simp [zn5,enc,zz1,c_in,zin2,↓mkL2,↓zy2,↓zr8,↓ix_t2,zv9,zu5,zu4,zw2,ea,eb,hin,hju]
end Pl
end
section
namespace Pl
open Mini PySem
theorem nd_cancel {k:Nat} {s:Sn} {X X' Y Y':D} (hX:Can k X) (hX':Can k X') (hY:Can k Y) (hY':Can k Y')
  (h:(if s=.pair then PyData.tuple [.str "pair", X,Y] else zy3 s (zx6 (parts s X++parts s Y)))=if s=.pair then .tuple [.str "pair", X',Y'] else zy3 s (zx6 (parts s X'++parts s Y'))):(Y=Y'→X=X')∧(X=X'→Y=Y'):=by
 by_cases hs:s=.pair
 ·simp only [hs,if_true,PyData.tuple.injEq,List.cons.injEq,and_true,true_and] at h
  exact ⟨fun _=>h.1,fun _=>h.2⟩
 ·simp only [hs,if_false] at h
  have l1:=(zz2 (parts s X++parts s Y)).length_eq
  have l2:=(zz2 (parts s X'++parts s Y')).length_eq
  rw [List.length_append] at l1 l2
  have a1:=(hX.parts_pos hs).1
  have a2:=(hX'.parts_pos hs).1
  have a3:=(hY.parts_pos hs).1
  have a4:=(hY'.parts_pos hs).1
  rw [zy5 (by bv_omega),zy5 (by bv_omega)] at h
  simp only [PyData.tuple.injEq,List.cons.injEq,true_and] at h
  have p:(parts s X++parts s Y).Perm (parts s X'++parts s Y'):=(zz2 _).symm.trans (h▸zz2 _)
  have one:∀ {A B:D},Can k A→Can k B→(parts s A).Perm (parts s B)→A=B:=fun hA hB q=>by
   have e:=zt3 (zp7 (hA.parts_can hs)) (hA.parts_sorted hs) (hB.parts_sorted hs) q
   rw [← zr3 hs hA,e,zr3 hs hB]
  constructor
  ·rintro rfl; exact one hX hX' ((List.perm_append_right_iff _).mp p)
  ·rintro rfl; exact one hY hY' ((List.perm_append_left_iff _).mp p)
theorem zu7 {f g:Int→D}:∀ (t:Tm),(∀ k∈opl t,f k=g k)→zz3 f t=zz3 g t
 | .leaf o k,h=>by
  cases o with
  | true=>exact h k mh
  | false=>rfl
 | .node s a b,h=>by
  simp only [zz3,zu7 a fun k hk=>h k (ml hk),zu7 b fun k hk=>h k (mr hk)]
theorem lfill_inj {c:Nat} {f g:Int→D} (hc:1≤c) {j:Int}:∀ (t:Tm),c*num t≤20→Vals c f t→Vals c g t→(opl t).count j=1→(∀ k∈opl t,k≠j→f k=g k)→zz3 f t=zz3 g t→f j=g j
 | .leaf o k,h,hf,hg,h1,he,e=>by
  cases o with
  | true =>
   have:k=j:=by
    by_cases q:k=j
    ·exact q
    ·simp [opl,q] at h1
   subst this; exact e
  | false=>simp [opl] at h1
 | .node s a b,h,hf,hg,h1,he,e=>by
  have hn:num (.node s a b)=num a+num b:=rfl
  rw [hn,Nat.mul_add] at h
  have ho:opl (.node s a b)=opl a++opl b:=rfl
  have hfa:Vals c f a:=fun i hi=>hf i (ml hi)
  have hfb:Vals c f b:=fun i hi=>hf i (mr hi)
  have hga:Vals c g a:=fun i hi=>hg i (ml hi)
  have hgb:Vals c g b:=fun i hi=>hg i (mr hi)
  have hca:num a≤c*num a:=Nat.le_mul_of_pos_left _ hc
  have hcb:num b≤c*num b:=Nat.le_mul_of_pos_left _ hc
  rw [ho,List.count_append] at h1
  have cn:=nd_cancel (k:=40) ((zv1 hc a (by bv_omega) hfa).1.mono (by bv_omega)) ((zv1 hc a (by bv_omega) hga).1.mono (by bv_omega)) ((zv1 hc b (by bv_omega) hfb).1.mono (by exact qy (Nat.add_le_add_left (qt hcb (qr h)) 7))) ((zv1 hc b (by bv_omega) hgb).1.mono (by exact qy (Nat.add_le_add_left (qt hcb (qr h)) 7))) e
  have ne:∀ {u:Tm},(opl u).count j=0→∀ k∈opl u,k≠j:=by
   rintro u y k hk rfl; exact List.count_eq_zero.mp y hk
  rcases (by exact (Nat.add_eq_one_iff.mp h1).symm:(opl a).count j=1∧(opl b).count j=0∨(opl a).count j=0∧(opl b).count j=1) with ⟨x,y⟩|⟨x,y⟩
  ·exact lfill_inj hc a (by bv_omega) hfa hga x (fun k hk=>he k (ml hk)) (cn.1 (zu7 b fun k hk=>he k (mr hk) (ne y k hk)))
  ·exact lfill_inj hc b (by bv_omega) hfb hgb y (fun k hk=>he k (mr hk)) (cn.2 (zu7 a fun k hk=>he k (ml hk) (ne x k hk)))
theorem count2 {i j:Int} (h:i≠j):∀ l:List Int,l.count i+l.count j≤l.length
 | []=>by simp
 | x::l=>by
  have:=count2 h l
  simp only [List.count_cons,List.length_cons,beq_iff_eq]
  by_cases a:x=i
  ·have b:¬ x=j:=a▸h
   simp only [a,if_true,if_neg h]; bv_omega
  ·simp only [if_neg a]; split<;>bv_omega
theorem Tri.lv {k:Nat} {S v:D} (h:Tri S v):Can k S→Pl.lv v≤Pl.lv S:=by
 induction h generalizing k with
 | self S=>exact fun _=>Nat.le_refl _
 | @part s l x v hx _ ih =>
  intro c
  have:=ih (c.cons.1 x hx)
  have:=lvL_mem hx
  rw [zv5]; exact qt ‹_› this
 | @some s l t hs ht hn =>
  intro c
  rw [ofParts_lv fun x hx=>c.cons.1 x (ht.subset hx),zv5]
  exact zn3 ht
theorem half {A B C:List D} (h:(A++(A++C)).Perm (B++(B++C))):A.Perm B:=by
 classical
 rw [List.perm_iff_count] at *
 intro x
 have:=h x
 simp only [List.count_append] at this
 bv_omega
theorem third {A B:List D} (h:(A++(A++A)).Perm (B++(B++B))):A.Perm B:=by
 classical
 rw [List.perm_iff_count] at *
 intro x
 have:=h x
 simp only [List.count_append] at this
 bv_omega
theorem of_parts {k:Nat} {s:Sn} (hs:s≠.pair) {A B:D} (hA:Can k A) (hB:Can k B) (q:(parts s A).Perm (parts s B)):A=B:=by
 have e:=zt3 (zp7 (hA.parts_can hs)) (hA.parts_sorted hs) (hB.parts_sorted hs) q
 rw [← zr3 hs hA,e,zr3 hs hB]
noncomputable def j2 (s:Sn) (X Y:D):D:=if s=.pair then .tuple [.str "pair", X,Y] else zy3 s (zx6 (parts s X++parts s Y))
theorem j2_perm {k:Nat} {s:Sn} (hs:s≠.pair) {X X' Y Y':D} (hX:Can k X) (hX':Can k X') (hY:Can k Y) (hY':Can k Y') (h:j2 s X Y=j2 s X' Y'):(parts s X++parts s Y).Perm (parts s X'++parts s Y'):=by
 simp only [j2,hs,if_false] at h
 have l1:=(zz2 (parts s X++parts s Y)).length_eq
 have l2:=(zz2 (parts s X'++parts s Y')).length_eq
 rw [List.length_append] at l1 l2
 have a1:=(hX.parts_pos hs).1
 have a2:=(hX'.parts_pos hs).1
 have a3:=(hY.parts_pos hs).1
 have a4:=(hY'.parts_pos hs).1
 rw [zy5 (by bv_omega),zy5 (by bv_omega)] at h
 simp only [PyData.tuple.injEq,List.cons.injEq,true_and] at h
 exact (zz2 _).symm.trans (h▸zz2 _)
theorem j2_or {k:Nat} {s:Sn} {X X' Y Y':D} (hX:Can k X) (hX':Can k X') (hY:Can k Y) (hY':Can k Y') (h:j2 s X Y=j2 s X' Y'):(s=.pair∧X=X'∧Y=Y')∨(s≠.pair∧(parts s X++parts s Y).Perm (parts s X'++parts s Y')):=by
 by_cases hs:s=.pair
 ·simp only [j2,hs,if_true,PyData.tuple.injEq,List.cons.injEq,and_true,true_and] at h
  exact .inl ⟨hs,h.1,h.2⟩
 ·exact .inr ⟨hs,j2_perm hs hX hX' hY hY' h⟩
theorem j2_parts {k:Nat} {s s':Sn} (hs:s≠.pair) {X Y:D} (hX:Can k X) (hY:Can k Y):(s'=s→(parts s (j2 s' X Y)).Perm (parts s X++parts s Y))∧(s'≠s→parts s (j2 s' X Y)=[j2 s' X Y]):=by
 by_cases hp:s'=.pair
 ·simp only [j2,hp,if_true]; exact ⟨fun e=>absurd e.symm hs,fun _=>zo7 hs _ _⟩
 ·have l1:=(zz2 (parts s' X++parts s' Y)).length_eq
  rw [List.length_append] at l1
  have a1:=(hX.parts_pos hp).1
  have a2:=(hY.parts_pos hp).1
  simp only [j2,hp,if_false]
  rw [zy5 (by bv_omega)]
  exact ⟨fun e=>by subst e; rw [zt4]; exact zz2 _,fun e=>zq0 e _⟩
theorem j2_lv {k:Nat} (s:Sn) {X Y:D} (hX:Can k X) (hY:Can k Y):lv (j2 s X Y)=lv X+lv Y:=by
 by_cases hp:s=.pair
 ·simp only [j2,hp,if_true,zu6]
 ·have hc:∀ x∈parts s X++parts s Y,Can k x:=fun x hx=>(List.mem_append.mp hx).elim (hX.parts_can hp x) (hY.parts_can hp x)
  simp only [j2,hp,if_false]
  rw [ofParts_lv (k:=k) fun x hx=>hc x ((zz2 _).mem_iff.mp hx),zm6 (zz2 _),zz8,zo0 hp hX,zo0 hp hY]
theorem mix {k:Nat} {s s':Sn} {a b P P' Q Q':D} (ha:Can k a) (hb:Can k b) (hP:Can k P) (hP':Can k P') (hQ:Can k Q) (hQ':Can k Q') (eP:P=a∧P'=b∨P=P') (eQ:Q=a∧Q'=b∨Q=Q')
  (h:(s=.pair∧a=b)∨(s≠.pair∧(parts s a++parts s (j2 s' P Q)).Perm (parts s b++parts s (j2 s' P' Q')))) (hl:lv a=lv b):a=b:=by
 rcases h with h|⟨hs,h⟩
 ·exact h.2
 refine of_parts hs ha hb ?_
 have same:P=P'→Q=Q'→(parts s a).Perm (parts s b):=by
  rintro rfl rfl; exact (List.perm_append_right_iff _).mp h
 have p:=j2_parts (s':=s') hs hP hQ
 have p':=j2_parts (s':=s') hs hP' hQ'
 by_cases e:s'=s
 ·subst e
  have q:=((p.1 rfl).append_left (parts s' a)).symm.trans (h.trans ((p'.1 rfl).append_left (parts s' b)))
  rcases eP with ⟨rfl,rfl⟩|rfl<;>rcases eQ with ⟨rfl,rfl⟩|rfl
  ·exact third q
  ·exact half q
  ·exact half (((List.perm_append_comm.append_left _).trans q).trans (List.perm_append_comm.append_left _))
  ·exact (List.perm_append_right_iff _).mp q
 ·rw [p.2 e,p'.2 e] at h
  by_cases em:j2 s' P Q=j2 s' P' Q'
  ·rw [em] at h; exact (List.perm_append_right_iff _).mp h
  ·have hm:j2 s' P Q∈parts s b:=by
    have:=h.mem_iff (a:=j2 s' P Q) |>.mp (mr mh)
    simpa [em] using this
   have h1:=lvL_mem hm
   rw [zo0 hs hb,j2_lv s' hP hQ] at h1
   have:=hP.lv_pos
   have:=hQ.lv_pos
   rcases eP with ⟨rfl,rfl⟩|rfl
   ·bv_omega
   ·rcases eQ with ⟨rfl,rfl⟩|rfl
    ·bv_omega
    ·exact absurd rfl em
theorem lfill_lv {c:Nat} {f:Int→D} (hc:1≤c) {j:Int}:∀ (t:Tm),c*num t≤20→Vals c f t→(∀ k∈opl t,k=j)→lv (zz3 f t)+(opl t).length=(opl t).length*lv (f j)+num t
 | .leaf o k,h,hv,h1=>by
  cases o with
  | true=>obtain rfl:=h1 k mh; simp [zz3,opl,num]
  | false=>simp [zz3,opl,num,enc,lv,lvL]
 | .node s x y,h,hv,h1=>by
  have hn:num (.node s x y)=num x+num y:=rfl
  have ho:opl (.node s x y)=opl x++opl y:=rfl
  rw [hn,Nat.mul_add] at h
  have vx:Vals c f x:=fun i hi=>hv i (ml hi)
  have vy:Vals c f y:=fun i hi=>hv i (mr hi)
  have ex:=lfill_lv hc x (by bv_omega) vx fun k hk=>h1 k (ml hk)
  have ey:=lfill_lv hc y (by bv_omega) vy fun k hk=>h1 k (mr hk)
  have:=Nat.le_mul_of_pos_left (num x) hc
  have:=Nat.le_mul_of_pos_left (num y) hc
  have e:lv (zz3 f (.node s x y))=lv (zz3 f x)+lv (zz3 f y):=j2_lv (k:=40) s ((zv1 hc x (by bv_omega) vx).1.mono (by bv_omega)) ((zv1 hc y (by bv_omega) vy).1.mono (by bv_omega))
  rw [e,hn,ho,List.length_append,Nat.add_mul]; rw [Nat.add_add_add_comm,ex,ey,Nat.add_add_add_comm]
theorem lfill_one {c:Nat} {f g:Int→D} (hc:1≤c) {j:Int}:∀ (t:Tm),num t≤3→c*num t≤20→Vals c f t→Vals c g t→(∀ k∈opl t,k=j)→j∈opl t→zz3 f t=zz3 g t→f j=g j
 | .leaf o k,_,h,hf,hg,h1,hj,e=>by
  cases o with
  | true=>obtain rfl:=h1 k mh; exact e
  | false=>simp [opl] at hj
 | .node s x y,h3,h,hf,hg,h1,hj,e=>by
  have hn:num (.node s x y)=num x+num y:=rfl
  rw [hn,Nat.mul_add] at h
  rw [hn] at h3
  have px:=zw3 x
  have py:=zw3 y
  have ho:opl (.node s x y)=opl x++opl y:=rfl
  have hfx:Vals c f x:=fun i hi=>hf i (ml hi)
  have hfy:Vals c f y:=fun i hi=>hf i (mr hi)
  have hgx:Vals c g x:=fun i hi=>hg i (ml hi)
  have hgy:Vals c g y:=fun i hi=>hg i (mr hi)
  have can:∀ (u:Tm) (f:Int→D),c*num u≤20→Vals c f u→Can 40 (zz3 f u):=fun u f h hv=>(zv1 hc u h hv).1.mono (by
   have:=Nat.le_mul_of_pos_left (num u) hc
   bv_omega)
  have cfx:=can x f (by bv_omega) hfx
  have cfy:=can y f (by bv_omega) hfy
  have cgx:=can x g (by bv_omega) hgx
  have cgy:=can y g (by bv_omega) hgy
  have cn:=nd_cancel cfx cgx cfy cgy e
  by_cases jx:j∈opl x
  ·by_cases jy:j∈opl y
   ·have hcj:∀ u:Tm,num u=1→j∈opl u→u=.leaf true j:=fun u hu hj=>by
     cases u with
     | node s a b=>have:=zw3 a; have:=zw3 b; simp [num] at hu; bv_omega
     | leaf o k =>
      cases o with
      | false=>simp [opl] at hj
      | true=>simp [opl] at hj; rw [hj]
    have vf:∀ u:Tm,num u=1→(∀ k∈opl u,k=j)→(zz3 f u=f j∧zz3 g u=g j)∨zz3 f u=zz3 g u:=fun u hu h=>by
     by_cases q:j∈opl u
     ·rw [hcj u hu q]; exact .inl ⟨rfl,rfl⟩
     ·exact .inr (zu7 u fun k hk=>absurd (h k hk▸hk) q)
    have hl:lv (f j)=lv (g j):=by
     have e1:=lfill_lv hc _ (by rw [hn,Nat.mul_add]; exact h) hf h1
     rw [e,lfill_lv hc _ (by rw [hn,Nat.mul_add]; exact h) hg h1] at e1
     exact (Nat.eq_of_mul_eq_mul_left (List.length_pos_of_mem hj) (Nat.add_right_cancel e1)).symm
    have ca:Can 40 (f j):=((hf j hj).1).mono (by bv_omega)
    have cb:Can 40 (g j):=((hg j hj).1).mono (by bv_omega)
    have go:∀ u:Tm,num u≤2→c*num u≤20→j∈opl u→(∀ k∈opl u,k=j)→Vals c f u→Vals c g u→((s=.pair∧f j=g j)∨(s≠.pair∧(parts s (f j)++parts s (zz3 f u)).Perm (parts s (g j)++parts s (zz3 g u))))→f j=g j:=fun u hu hcu hj h1 vu wu h=>by
     cases u with
     | leaf o k =>
      rw [hcj _ rfl hj] at h
      refine h.elim (·.2) fun h=>of_parts h.1 ca cb (half (C:=[]) ?_)
      simpa [zz3] using h.2
     | node s' p q =>
      have:=zw3 p
      have:=zw3 q
      have hpq:num p+num q≤2:=hu
      have hcu:c*(num p+num q)≤20:=hcu
      rw [Nat.mul_add] at hcu
      have hop:∀ k∈opl p,k∈opl (.node s' p q):=fun k hk=>by simp [opl,hk]
      have hoq:∀ k∈opl q,k∈opl (.node s' p q):=fun k hk=>by simp [opl,hk]
      exact mix (P:=zz3 f p) (P':=zz3 g p) (Q:=zz3 f q) (Q':=zz3 g q) (s':=s') ca cb (can p f (by bv_omega) fun i hi=>vu i (hop i hi)) (can p g (by bv_omega) fun i hi=>wu i (hop i hi)) (can q f (by bv_omega) fun i hi=>vu i (hoq i hi)) (can q g (by bv_omega) fun i hi=>wu i (hoq i hi))
       (vf p (by bv_omega) fun k hk=>h1 k (hop k hk)) (vf q (by bv_omega) fun k hk=>h1 k (hoq k hk)) h hl
    have hor:=j2_or cfx cgx cfy cgy e
    by_cases q:num x=1
    ·obtain rfl:=hcj x q jx
     exact go y (by bv_omega) (by bv_omega) jy (fun k hk=>h1 k (mt hk)) hfy hgy (hor.imp (fun h=>⟨h.1,h.2.1⟩) id)
    ·obtain rfl:=hcj y (by bv_omega) jy
     exact go x (by bv_omega) (by bv_omega) jx (fun k hk=>h1 k (ml hk)) hfx hgx (hor.imp (fun h=>⟨h.1,h.2.2⟩) fun h=>⟨h.1,List.perm_append_comm.trans (h.2.trans List.perm_append_comm)⟩)
   ·exact lfill_one hc x (by bv_omega) (by bv_omega) hfx hgx (fun k hk=>h1 k (ml hk)) jx (cn.1 (zu7 y fun k hk=>absurd (h1 k (mr hk)▸hk) jy))
  ·have jy:j∈opl y:=by rw [ho] at hj; exact (List.mem_append.mp hj).resolve_left jx
   exact lfill_one hc y (by bv_omega) (by bv_omega) hfy hgy (fun k hk=>h1 k (mr hk)) jy (cn.2 (zu7 x fun k hk=>absurd (h1 k (ml hk)▸hk) jx))
theorem all_one {α:Type} {L:List α} (hn:L.Nodup) (h:∀ a∈L,∀ b∈L,a=b):L.length≤1:=by
 match L,hn,h with
 | [],_,_=>simp
 | [_],_,_=>simp
 | a::b::r,hn,h =>
  simp only [List.nodup_cons,List.mem_cons] at hn
  exact absurd (.inl (h a mh b (mt mh))) hn.1
theorem rows_le {t:Tm} {S:D} {V:List D} {c:Nat} (hc1:1≤c) (hct:c*num t≤20) (hS:Can 7 S) (hl:lv S≤c) (h3:num t≤3) (hV:∀ v,Tri S v→v∈V) {ns:List Int} {L:List (List D)} (hn:ns.Nodup) (ho:∀ k,k∈ns↔k∈opl t) (hL:L.Nodup) (hr:∀ r∈L,Row ns (shp t) S r) (hns:ns.length≤2) :
  L.length≤if ns.length≤1 then 1 else V.length:=by
 have hVals:∀ r∈L,Vals c (fn ns r) t:=fun r h i hi=>by
  have q:=(hr r h).2.1 _ (fn_mem hn (hr r h).1 ((ho i).mpr hi))
  exact ⟨q.can hS,Nat.le_trans (q.lv hS) hl⟩
 have hfl:∀ r∈L,zz3 (fn ns r) t=S:=fun r h=>by rw [zk2 hc1 t hct (hVals r h)]; exact (hr r h).2.2
 have key:∀ G:List D→D,(∀ r∈L,Tri S (G r))→(∀ r∈L,∀ r'∈L,G r=G r'→r=r')→L.length≤V.length:=fun G h1 h2=>by
  have hnd:(L.map G).Nodup:=List.pairwise_map.mpr (hL.imp_of_mem fun ha hb hne e=>hne (h2 _ ha _ hb e))
  have:=List.Nodup.length_le_of_subset hnd (fun v hv=>by (refine elEA (List.mem_map.mp hv) fun r h e_2=>?_; subst e_2); exact hV _ (h1 r h))
  rwa [List.length_map] at this
 rcases ns with _|⟨i,_|⟨j,_|⟨k,r⟩⟩⟩
 ·refine all_one hL fun r h r' h'=>?_
  rw [List.length_eq_zero_iff.mp (hr r h).1,List.length_eq_zero_iff.mp (hr r' h').1]
 ·refine all_one hL fun r h r' h'=>?_
  obtain ⟨a,rfl⟩:=List.length_eq_one_iff.mp (hr r h).1
  obtain ⟨b,rfl⟩:=List.length_eq_one_iff.mp (hr r' h').1
  have:=lfill_one hc1 t h3 hct (hVals _ h) (hVals _ h') (j:=i) (fun k hk=>by simpa using (ho k).mpr hk) ((ho i).mp mh) ((hfl _ h).trans (hfl _ h').symm)
  simpa [fn,lk] using this
 ·have hij:i≠j:=by simp at hn; exact hn
  have sh:∀ r∈L,∃ a b,r=[a,b]:=fun r h=>by
   match r,(hr r h).1 with
   | [a,b],_=>exact ⟨a,b,rfl⟩
  have f1:∀ a b:D,fn [i,j] [a,b] i=a:=fun a b=>by simp [fn,lk]
  have f2:∀ a b:D,fn [i,j] [a,b] j=b:=fun a b=>by
   have:(i==j)=false:=by simpa using hij
   simp [fn,lk,this]
  have hc2:=count2 hij (opl t)
  have hlen:=opl_num t
  have ci:1≤(opl t).count i:=List.count_pos_iff.mpr ((ho i).mp mh)
  have cj:1≤(opl t).count j:=List.count_pos_iff.mpr ((ho j).mp (mt mh))
  have hm:∀ k∈opl t,k=i∨k=j:=fun k hk=>by simpa using (ho k).mpr hk
  by_cases h1:(opl t).count j=1
  ·refine key (fun r=>r.headD .none) (fun r h=>?_) fun r h r' h' e=>?_
   ·(refine elEE (sh r h) fun a b e_2=>?_; subst e_2); exact (hr _ h).2.1 a mh
   ·(refine elEE (sh r h) fun a b e_2=>?_; subst e_2); (refine elEE (sh r' h') fun a' b' e_2=>?_; subst e_2)
    obtain rfl:a=a':=e
    have q:=lfill_inj hc1 t hct (hVals _ h) (hVals _ h') h1 (fun k hk hne=>by
     rcases hm k hk with rfl|rfl
     ·rw [f1,f1]
     ·exact absurd rfl hne) ((hfl _ h).trans (hfl _ h').symm)
    rw [f2,f2] at q; rw [q]
  ·refine key (fun r=>r.getLastD .none) (fun r h=>?_) fun r h r' h' e=>?_
   ·(refine elEE (sh r h) fun a b e_2=>?_; subst e_2); exact (hr _ h).2.1 b (mt mh)
   ·(refine elEE (sh r h) fun a b e_2=>?_; subst e_2); (refine elEE (sh r' h') fun a' b' e_2=>?_; subst e_2)
    obtain rfl:b=b':=e
    have q:=lfill_inj hc1 t hct (hVals _ h) (hVals _ h') (j:=i) (by exact nci hc2 hlen h3 ci cj h1) (fun k hk hne=>by
     rcases hm k hk with rfl|rfl
     ·exact absurd rfl hne
     ·rw [f2,f2]) ((hfl _ h).trans (hfl _ h').symm)
    rw [f1,f1] at q; rw [q]
 ·simp at hns
noncomputable def Use (t u:Tm) (S w:D):Prop:=∃ f:Int→D,(∀ i∈opl t,Tri S (f i))∧fill f (shp t)=S∧w=zz3 f u
theorem fn_self {ns:List Int} (hn:ns.Nodup) (f:Int→D) {i:Int} (hi:i∈ns):fn ns (ns.map f) i=f i :=
 List.map_inj_left.mp (fn_map hn (r:=ns.map f) (by simp)) i hi
theorem use_iff {t u:Tm} (ht:num t≤20) {S:D} {ns:List Int} (hn:ns.Nodup) (ho:∀ k,k∈ns↔k∈opl t) (hu:∀ k∈opl u,k∈opl t) (w:D):Use t u S w↔∃ r,Row ns (shp t) S r∧w=zz3 (fn ns r) u:=by
 constructor
 ·rintro ⟨f,h1,h2,rfl⟩
  refine ⟨ns.map f,⟨by simp,fun v hv=>?_,?_⟩,zu7 u fun k hk=>(fn_self hn f ((ho k).mpr (hu k hk))).symm⟩
  ·(refine elEA (List.mem_map.mp hv) fun i hi e=>?_; subst e); exact h1 i ((ho i).mp hi)
  ·rw [fill_congr (g:=f) (zk6 t ht).1 fun i hi=>fn_self hn f ((ho i).mpr ((opn_shp t i).mp hi))]; exact h2
 ·rintro ⟨r,⟨h1,h2,h3⟩,rfl⟩
  exact ⟨fn ns r,fun i hi=>h2 _ (fn_mem hn h1 ((ho i).mpr hi)),h3,rfl⟩
theorem Use.can {t u:Tm} {S w:D} {c:Nat} (h:Use t u S w) (hS:Can 7 S) (hl:lv S≤c) (hc:c≤4) (hu:num u≤3) (ho:∀ k∈opl u,k∈opl t):Can (lv S+3) w∧lv w≤3*lv S:=by
 (refine elEAA (h) fun f h1 _ e_3=>?_; subst e_3)
 have hp:=hS.lv_pos
 have:=lfill_canK (c:=lv S) (m:=lv S) (f:=f) hp u (by
  have:=Nat.mul_le_mul hl hu
  bv_omega) fun i hi=>by
   have q:=h1 i (ho i hi)
   have:=q.lv hS
   exact ⟨(q.can hS).deep.mono this,this⟩
 refine ⟨this.1.mono (by bv_omega),Nat.le_trans this.2 ?_⟩
 rw [Nat.mul_comm]; exact Nat.mul_le_mul_right _ hu
end Pl
end
section
namespace Pl
open Mini PySem
variable {Fs:Fns} {fuel:Nat}
noncomputable def lc1 (p:D) (q:List D×List D):List D×List D:=(q.1++[p],q.2)
noncomputable def lc2 (p:D) (q:List D×List D):List D×List D:=(q.1,q.2++[p])
noncomputable def chL (found:List (List D×List D)):List D→List (List D×List D)
 | []=>found
 | p::r=>chL (found.map (lc1 p)++found.map (lc2 p)) r
theorem chL_snoc:∀ (ps:List D) (p:D) (found:List (List D×List D)),chL found (ps++[p])=(chL found ps).map (lc1 p)++(chL found ps).map (lc2 p)
 | [],p,found=>rfl
 | x::r,p,found=>by rw [List.cons_append,chL,chL,chL_snoc r]
theorem splits_perm:∀ (ps:List D) {a b:List (List D×List D)},a.Perm b→(zz9 a ps).Perm (zz9 b ps)
 | [],_,_,h=>h
 | p::r,_,_,h=>splits_perm r (h.flatMap_right _)
theorem more_perm (p:D):∀ found:List (List D×List D),(found.map (lc1 p)++found.map (lc2 p)).Perm (found.flatMap (zm3 p))
 | []=>.refl _
 | q::r=>by
  simp only [List.map_cons,List.cons_append,List.flatMap_cons]
  refine (List.Perm.cons _ (List.perm_middle.trans (List.Perm.cons _ (more_perm p r)))).trans ?_
  exact List.Perm.refl _
theorem chL_perm:∀ (ps:List D) (found:List (List D×List D)),(chL found ps).Perm (zz9 found ps)
 | [],_=>.refl _
 | p::r,found=>(chL_perm r _).trans (splits_perm r (more_perm p found))
theorem sp_mem {ps:List D} {q:List D×List D} (hm:q∈zz9 [([],[])] ps):q.1.Sublist ps∧q.2.Sublist ps∧(q.1++q.2).Perm ps:=by
 refine elEAEEAAAA (zl5 ps _ q.1 q.2 hm) fun q0 h0 t' l' e1 e2 h1 h2 h3=>?_
 simp at h0; subst h0
 simp at e1 e2
 exact ⟨e1▸h1,e2▸h2,by rw [e1,e2]; exact h3⟩
noncomputable def lc_e1:I:=(.tup (.cons (.bin .Add (.idx (.var 3) (.cint 0)) (.lst (.cons (.var 2) .nil))) (.cons (.idx (.var 3) (.cint 1)) .nil)))
noncomputable def lc_e2:I:=(.tup (.cons (.idx (.var 3) (.cint 0)) (.cons (.bin .Add (.idx (.var 3) (.cint 1)) (.lst (.cons (.var 2) .nil))) .nil)))
noncomputable def lc_body:I:=(.cons (.asg 1 (.bin .Add (.comp1 lc_e1 (.var 1) .omit) (.comp1 lc_e2 (.var 1) .omit))) .nil)
noncomputable def lc_cond:I:=(.cmp .NotEq (.idx (.var 3) (.cint 0)) (.lst .nil))
noncomputable def zy8:I:=(.cons (.asg 1 (.lst (.cons (.tup (.cons (.lst .nil) (.cons (.lst .nil) .nil))) .nil))) (.cons (.for1 2 (.var 0) lc_body) (.cons (.ret (.comp1 (.var 3) (.var 1) lc_cond)) .nil)))
noncomputable def onPr (g:List D×List D→List D×List D):D→D
 | .tuple [.list a,.list b]=>prD (g (a,b))
 | d=>d
theorem comp_pr {Γ:Mini.Env} {v0 x:Option AV} {e:I} {p:D} {found:List (List D×List D)} {g:List D×List D→List D×List D} (hx:x=vl (.list (found.map prD))∨x=ow (.list (found.map prD))) (hz:found.length≤size)
  (he:∀ q∈found,∃ f,ev Γ e [v0,vl (.list (found.map prD)),vl p,vl (prD q)]=some (prD (g q),f,[v0,vl (.list (found.map prD)),vl p,vl (prD q)])) :
  ev Γ (.comp1 e (.var 1) .omit) [v0,x,vl p]=some (.list ((found.map g).map prD),true,[v0,vl (.list (found.map prD)),vl p]):=by
 have hcomp:=zt2 (n:=3) (bc:=bc1) (cond:=zp5 .omit (ev Γ .omit)) (elt:=ev Γ e) (σ:=[v0,vl (.list (found.map prD)),vl p]) (c:=fun _=>true) (F:=onPr g) rfl (ds:=found.map prD) fun d hd=>by
  (refine elEA (List.mem_map.mp hd) fun q hq e_2=>?_; subst e_2)
  exact ⟨[prD q],rfl,rfl,fun _=>he q hq⟩
 have e1:(found.map prD).map (onPr g)=(found.map g).map prD:=by rw [List.map_map,List.map_map]; rfl
 rw [List.filter_eq_self.mpr (by simp),e1] at hcomp
 rw [zv7,show srcE (ev Γ (.var 1)) [v0,x,vl p]=some (found.map prD,[v0,vl (.list (found.map prD)),vl p]) by rcases hx with rfl|rfl<;>rfl]
 show ((zi9 3 _ _ _ _).bind _)=_
 rw [zr6,hcomp]
 simp only [Option.bind_some,mkL]
 rw [if_pos (by simpa using hz)]
 rfl
theorem lc_step {Γ:Mini.Env} {v0 x:Option AV} {p:D} {found:List (List D×List D)} (hx:x=vl (.list (found.map prD))∨x=ow (.list (found.map prD))) (hz:2*found.length≤size) (hl:∀ q∈found,q.1.length<size∧q.2.length<size) :
  ex Γ lc_body [v0,x,vl p]=some (.next [v0,ow (.list ((found.map (lc1 p)++found.map (lc2 p)).map prD)),vl p]):=by
 have c1:=comp_pr (Γ:=Γ) (v0:=v0) (e:=lc_e1) (p:=p) (g:=lc1 p) hx (by exact qt (Nat.le_mul_of_pos_left _ (by decide)) hz) fun q hq=>⟨false,by
  have:q.1.length+1≤size:=(hl q hq).1
  rw [lc_e1]; simp [b_ad,zad1,↓mkL1,↓mkT2,mkL_,↓zy2,↓zr8,this,lc1]⟩
 have c2:=comp_pr (Γ:=Γ) (v0:=v0) (e:=lc_e2) (p:=p) (g:=lc2 p) (found:=found) (.inl rfl) (by bv_omega) fun q hq=>⟨false,by
  have:q.2.length+1≤size:=(hl q hq).2
  rw [lc_e2]; simp [b_ad,zad1,↓mkL1,↓mkT2,mkL_,↓zy2,↓zr8,this,lc2]⟩
 have hz':((found.map (lc1 p)).map prD++(found.map (lc2 p)).map prD).length≤size:=by simp; exact qt (Nat.le_of_eq (Nat.two_mul _).symm) hz
 rw [lc_body,zz0 (σ':=[v0,ow (.list ((found.map (lc1 p)++found.map (lc2 p)).map prD)),vl p])]
 ·rfl
 rw [zk3,eq_ev_bin]
 simp only [duo,o_comp1,kdat_,c1,c2,Option.bind_some,res,b_ad,zad1,mkL]
 rw [if_pos hz']
 simp [put]
theorem zj9 (h:Has Fs "_law_choices" ⟨1,3,zy8⟩) (n:Nat) {ps:List D} (hps:∀ x∈ps,Can 7 x) (hl:ps.length≤20) :
  ∃ C:List (List D×List D),run Fs glo fuel (n+1) "_law_choices" [.tuple ps]=some (.list (C.map prD),true)∧C.length≤2^ps.length∧∀ q,q∈C↔q∈zz9 [([],[])] ps∧q.1≠[]:=by
 have hsz:size=16777216:=rfl
 have hlen:∀ qs:List D,(chL [([],[])] qs).length=2^qs.length:=fun qs=>by rw [(chL_perm qs _).length_eq,zr9]; simp
 have h20:∀ m,m≤20→2^m≤1048576:=fun m hm=>Nat.pow_le_pow_right (n:=2) (by bv_omega) hm
 have loop:=zy7 (bnd:=zu2 2) (body:=ex (Ga Fs fuel n) lc_body) id (fun done σ=>∃ y1 y2,(y1=vl (.list ((chL [([],[])] done).map prD))∨y1=ow (.list ((chL [([],[])] done).map prD)))∧σ=[vl (.tuple ps),y1,y2]) (L:=ps)
  (σ:=[vl (.tuple ps),ow (.list ([([],[])].map prD)),none]) ⟨_,_,.inr rfl,rfl⟩ (by
   rintro done p rest σ e ⟨y1,y2,hy1,rfl⟩
   have hd:done.length≤20:=by rw [e] at hl; simp at hl; exact qf hl
   have:=h20 _ hd
   refine ⟨_,_,rfl,lc_step hy1 (by rw [hlen]; exact qy (Nat.mul_le_mul_left 2 this)) fun q hq=>?_,ow (.list ((chL [([],[])] (done++[p])).map prD)),vl p,.inr rfl,by rw [chL_snoc]; rfl⟩
   refine elAA (sp_mem ((chL_perm done _).mem_iff.mp hq)) fun a b _=>?_
   have:=a.length_le
   have:=b.length_le
   exact ⟨qx (qt a.length_le hd),qx (qt b.length_le hd)⟩)
 rw [List.map_id] at loop
 (refine elEAEEA (loop) fun σ' e y1 y2 hy1 e_5=>?_; subst e_5)
 have hfl:((chL [([],[])] ps).filter fun q=>!q.1.isEmpty).length≤2^ps.length:=by rw [← hlen]; exact List.length_filter_le _ _
 refine ⟨(chL [([],[])] ps).filter fun q=>!q.1.isEmpty,zz7 h rfl ?_,hfl,fun q=>by rw [List.mem_filter,(chL_perm ps _).mem_iff]; simp⟩
 have hcomp:=zt2 (n:=3) (bc:=bc1) (cond:=zp5 lc_cond (ev (Ga Fs fuel n) lc_cond)) (elt:=ev (Ga Fs fuel n) (.var 3)) (σ:=[vl (.tuple ps),vl (.list ((chL [([],[])] ps).map prD)),y2])
  (c:=fun d=>match d with|.tuple [.list a,_]=>!a.isEmpty|_=>false) (F:=id) rfl (ds:=(chL [([],[])] ps).map prD) fun d hd=>by
   (refine elEA (List.mem_map.mp hd) fun q hq e_2=>?_; subst e_2)
   have hs:=(sp_mem ((chL_perm ps _).mem_iff.mp hq)).1
   have o1:okd (.list q.1)=true:=zi0 (fun x hx=>hps x (hs.subset hx)) (by bv_omega)
   refine ⟨[prD q],rfl,?_,fun _=>⟨false,rfl⟩⟩
   rw [lc_cond]
   cases he:q.1.isEmpty<;>simp [cE_c,c_ne,eqD,↓mkL0,↓zy2,o1,zs4,zt6,he]
 have hmap:(((chL [([],[])] ps).map prD).filter fun d=>match d with|.tuple [.list a,_]=>!a.isEmpty|_=>false).map id=((chL [([],[])] ps).filter fun q=>!q.1.isEmpty).map prD:=by
  rw [List.map_id,List.filter_map]; rfl
 rw [hmap] at hcomp
 show ex (Ga Fs fuel n) zy8 [vl (.tuple ps),none,none]=_
 rw [zy8,zz0 (σ':=[vl (.tuple ps),ow (.list ([([],[])].map prD)),none]) (by simp [↓mkT2,↓mkL0,↓mkL1]),zz0 (by rw [zz4]; exact e)]
 refine zy0 ?_
 rw [zr5,zv7,show srcE (ev (Ga Fs fuel n) (.var 1)) [vl (.tuple ps),y1,y2]=some ((chL [([],[])] ps).map prD,[vl (.tuple ps),vl (.list ((chL [([],[])] ps).map prD)),y2]) by rcases hy1 with rfl|rfl<;>rfl]
 show (((zi9 3 _ _ _ _).bind _).bind _)=_
 rw [zr6,hcomp]
 have:=h20 _ hl
 simp only [Option.bind_some,mkL]
 rw [if_pos (by rw [List.length_map]; exact qy (qt hfl this))]
 rfl
end Pl
end
section
namespace Pl
open Mini PySem
variable {Fs:Fns} {fuel:Nat}
mutual
noncomputable def nd:D→Nat
 | .tuple l=>1+ndL l
 | _=>0
noncomputable def ndL:List D→Nat
 | []=>0
 | x::r=>nd x+ndL r
end
theorem ndL_append:∀ a b:List D,ndL (a++b)=ndL a+ndL b
 | [],b=>by simp [ndL]
 | x::a,b=>by simp only [List.cons_append,ndL,ndL_append a b]; bv_omega
theorem nd_cons (x:Str) (l:List D):nd (.tuple (.str x::l))=1+ndL l:=by simp [nd,ndL]
theorem ndL_le {k:Nat}:∀ {l:List D},(∀ x∈l,nd x+1≤2*lv x)→ndL l+l.length≤2*lvL l
 | [],_=>by simp [ndL,lvL]
 | x::r,h=>by
  have:=h x mh
  have:=ndL_le (k:=k) (l:=r) fun y hy=>h y (mt hy)
  simp only [ndL,lvL,List.length_cons]; rw [Nat.mul_add,Nat.add_comm r.length 1,Nat.add_add_add_comm]; exact qa ‹_› ‹_›
theorem Can.nd {k:Nat} {d:D} (h:Can k d):Pl.nd d+1≤2*lv d:=by
 induction h with
 | leaf k o n=>simp [Pl.nd,ndL,lv,lvL]
 | pair _ _ iha ihb=>simp only [Pl.nd,ndL,lv,lvL]; lia
 | @join k s l hs h2 _ _ _ _ ih =>
  have:=ndL_le (k:=k) ih
  rw [nd_cons,zv5]; exact qt (Nat.le_of_eq (congrArg Nat.succ (Nat.add_comm ..))) (qt (Nat.add_le_add_left h2 _) this)
theorem Can.nd_pos {k:Nat} {d:D} (h:Can k d):1≤Pl.nd d:=by cases h<;>simp [Pl.nd]<;>bv_omega
theorem slc_tuple {Γ:Mini.Env} {σ:Mini.Sg} {k:Nat} {x:D} {l:List D} (h:ev Γ (.var k) σ=some (.tuple (x::l),false,σ)):ev Γ (.slc (.var k) (.cint 1) .omit) σ=some (.tuple l,false,σ):=by
 rw [zw9]
 have e1:opn (.var k) (ev Γ (.var k)) σ=some (.dat (.tuple (x::l)),σ):=by simp only [o_var,kdat_,h,Option.bind_some]
 have h1:(1:Int)≤(l.length:Int)+1:=by bv_omega
 rw [e1]
 simp [bE_o,bE_c,bD_,zsl2,h1]
theorem radd_list {α:Type} {P:List α} {R:List D} {g:α→D} (hg:∀ t∈P,zz5 (g t)=true) (hR:∀ p∈R,zz5 p=true) (hn:R.Nodup) :
  (∀ v,v∈P.foldl (fun R t=>radd R (g t)) R↔v∈R∨∃ t∈P,v=g t)∧(P.foldl (fun R t=>radd R (g t)) R).Nodup∧(P.foldl (fun R t=>radd R (g t)) R).length≤R.length+P.length:=by
 induction P generalizing R with
 | nil=>exact ⟨fun v=>by simp,hn,by simp⟩
 | cons t P ih =>
  have hm:=radd_mem (hg t mh) hR
  have hp:∀ p∈radd R (g t),zz5 p=true:=fun p hp=>((hm p).mp hp).elim (hR p) fun e=>e▸hg t mh
  refine elAA (ih (fun t ht=>hg t (mt ht)) hp (zl7 (hg t mh) hR hn)) fun a b c=>?_
  refine ⟨fun v=>?_,b,?_⟩
  ·rw [List.foldl_cons,a v,hm v]
   simp only [List.mem_cons]
   constructor
   ·rintro ((h|h)|⟨t',ht,h⟩)
    ·exact .inl h
    ·exact .inr ⟨t,.inl rfl,h⟩
    ·exact .inr ⟨t',.inr ht,h⟩
   ·rintro (h|⟨t',rfl|ht,h⟩)
    ·exact .inl (.inl h)
    ·exact .inl (.inr h)
    ·exact .inr ⟨t',ht,h⟩
  ·have:=radd_len (g t) R
   rw [List.foldl_cons,List.length_cons]; exact qt c (qt (Nat.add_le_add_right this _) (Nat.le_of_eq (by rw [Nat.add_assoc,Nat.add_comm 1])))
noncomputable def tr_put:I:=(.cons (.sto 1 (.call "_law_joined" (.cons (.idx (.var 3) (.cint 0)) (.cons (.idx (.var 4) (.cint 0)) .nil))) (.cbool true)) .nil)
noncomputable def tr_join:I:=(.cons (.for1 4 (.call "_law_choices" (.cons (.slc (.var 3) (.cint 1) .omit) .nil)) tr_put) .nil)
noncomputable def tr_more:I:=(.iff (.cmp .NotEq (.idx (.var 3) (.cint 0)) (.cstr "name")) (.cons (.asg 2 (.bin .Add (.brw 2) (.prim1 .list (.slc (.var 3) (.cint 1) .omit)))) .nil) .nil)
noncomputable def tr_if:I:=(.iff (.or (.cons (.cmp .Eq (.idx (.var 3) (.cint 0)) (.cstr "sum")) (.cons (.cmp .Eq (.idx (.var 3) (.cint 0)) (.cstr "mul")) .nil))) tr_join .nil)
noncomputable def tr_body:I:=(.cons (.asg 3 (.pop 2)) (.cons (.sto 1 (.var 3) (.cbool true)) (.cons tr_more (.cons tr_if .nil))))
noncomputable def tr_test:I:=(.cmp .NotEq (.brw 2) (.lst .nil))
noncomputable def zp3:I:=(.cons (.asg 1 .dct0) (.cons (.asg 2 (.lst (.cons (.var 0) .nil))) (.cons (.whl tr_test tr_body) (.cons (.ret (.prim1 .list (.brw 1))) .nil))))
noncomputable abbrev trS (S:D) (R ws:List D) (c d:Option AV):Mini.Sg:=[vl S,ow (.dict (R.map enR)),ow (.list ws),c,d]
theorem sp_sub {k:Nat} {l t:List D} (hc:∀ x∈l,Can k x) (hw:l.Pairwise leD) (ht:t.Sublist l):∃ q∈zz9 [([],[])] l,q.1=t:=by
 obtain ⟨r,hr⟩:=ht.exists_perm_append
 refine elEEAA (zs7 l [([],[])] ([],[]) mh hr.symm) fun t' l' hm h1 _=>?_
 refine ⟨_,hm,?_⟩
 have hs:=(sp_mem hm).1
 exact zt3 (zp7 fun x hx=>hc x (hs.subset hx)) (hw.sublist hs) (hw.sublist ht) h1
section
variable {S:D} {R ws:List D} {m:Nat} {s:Sn} {l:List D}
theorem tr_join_step (hj:Has Fs "_law_joined" ⟨2,4,zy6⟩) (hch:Has Fs "_law_choices" ⟨1,3,zy8⟩) {c:Nat} (hc20:c≤20) (hs:s≠.pair) (hc:∀ x∈l,Can 7 x) (hS7:Can 7 (.tuple (.str s.str::l))) (hp:∀ x∈l,parts s x=[x]) (hw:l.Pairwise leD) (hl:l.length≤c) (hll:lvL l≤c) (hR:∀ p∈R,Can 7 p) (hn:R.Nodup) (hz:R.length+2^c<size) {d:Option AV} :
  ∃ R' d',ex (Ga Fs fuel (m+1)) tr_join (trS S R ws (vl (.tuple (.str s.str::l))) d)=some (.next (trS S R' ws (vl (.tuple (.str s.str::l))) d'))∧(∀ v,v∈R'↔v∈R∨∃ t:List D,t.Sublist l∧t≠[]∧v=zy3 s t)∧R'.Nodup∧R'.length≤R.length+2^l.length:=by
 refine elEAA (zj9 (fuel:=fuel) hch m hc (by exact qt hl hc20)) fun C eC hCl hC=>?_
 have hpow:2^l.length≤2^c:=Nat.pow_le_pow_right (by bv_omega) hl
 have hsub:∀ q∈C,q.1.Sublist l∧q.1≠[]:=fun q hq=>⟨(sp_mem ((hC q).mp hq).1).1,((hC q).mp hq).2⟩
 have hval:∀ q∈C,Can 7 (zy3 s q.1)∧run Fs glo fuel (m+1) "_law_joined" [.str s.str,.list q.1]=some (zy3 s q.1,false):=fun q hq=>by
  obtain ⟨h1,h2⟩:=hsub q hq
  refine ⟨Tri.can (.some hs h1 h2) hS7,?_⟩
  rw [zl1 (fuel:=fuel) hj m s hs (k:=7) (by bv_omega) (fun x hx=>hc x (h1.subset hx)) (by have:=zn3 h1; exact qx (qt this (qt hll hc20)))]
  have e:=jn_self (fun x hx=>hc x (h1.subset hx)) (fun x hx=>hp x (h1.subset hx)) (hw.sublist h1)
  simp only [jn,PyData.tuple.injEq,List.cons.injEq,true_and] at e
  rw [e]
 have hRp:∀ p∈R,zz5 p=true:=fun p hp=>(hR p hp).plain
 have hfold:∀ P:List (List D×List D),(∀ t∈P,t∈C)→_:=fun P hP=>radd_list (P:=P) (R:=R) (g:=fun q=>zy3 s q.1) (fun t ht=>(hval t (hP t ht)).1.plain) hRp hn
 have loop2:=zy7 (bnd:=zu2 4) (body:=ex (Ga Fs fuel (m+1)) tr_put) prD (fun done σ=>∃ f',σ=trS S (done.foldl (fun R q=>radd R (zy3 s q.1)) R) ws (vl (.tuple (.str s.str::l))) f') (L:=C)
  (σ:=trS S R ws (vl (.tuple (.str s.str::l))) d) ⟨d,rfl⟩ (by
   rintro done t rst σ el ⟨f',rfl⟩
   refine elAA (hfold done fun t ht=>by exact mml el ht) fun a1 a2 a3=>?_
   have hdl:done.length+1≤C.length:=by exact lm1 el
   generalize hRd:done.foldl (fun R q=>radd R (zy3 s q.1)) R=Rd at *
   have hv:=hval t (by exact mm el)
   have htk:∀ p∈Rd,tkey p=true:=fun p hp=>by
    rcases (a1 p).mp hp with q|⟨t',ht',rfl⟩
    ·exact (hR p q).tkey (by bv_omega)
    ·exact (hval t' (by exact mml el ht')).1.tkey (by bv_omega)
   have hk:=keys_enR (hv.1.tkey (by bv_omega)) htk
   refine ⟨_,_,rfl,?_,vl (prD t),by rw [List.foldl_append,hRd,List.foldl_cons,List.foldl_nil]⟩
   rw [tr_put,zz0 (sto_set (σ':=trS S Rd ws (vl (.tuple (.str s.str::l))) (vl (prD t))) (R:=Rd) (kd:=zy3 s t.1) (f:=false) rfl rfl (by simp [↓zy2,hv.2]) hk (by exact ql a3 (ql (Nat.add_le_add_left (qt (qf hdl) (qt hCl hpow)) _) hz)))]
   rfl)
 (refine elEAE (loop2) fun σ' eloop2 f' e_3=>?_; subst e_3)
 refine elAA (hfold C fun t ht=>ht) fun a1 a2 a3=>?_
 refine ⟨C.foldl (fun R q=>radd R (zy3 s q.1)) R,f',?_,fun v=>?_,a2,by exact qt a3 (Nat.add_le_add_left hCl _)⟩
 ·rw [tr_join,zz0 (by
    rw [zz4,show srcE (ev (Ga Fs fuel (m+1)) (.call "_law_choices" (.cons (.slc (.var 3) (.cint 1) .omit) .nil))) (trS S R ws (vl (.tuple (.str s.str::l))) d)=some (C.map prD,trS S R ws (vl (.tuple (.str s.str::l))) d) by
     rw [srcE,eq_ev_call]; simp only [eq_evs_cons,eq_evs_nil,slc_tuple (Γ:=Ga Fs fuel (m+1)) (σ:=trS S R ws (vl (.tuple (.str s.str::l))) d) (k:=3) rfl,Option.bind_some]; simp [eC,zit1]]
    exact eloop2)]
  rfl
 ·rw [a1 v]
  refine or_congr Iff.rfl ⟨fun h=>elEA h fun q hq e=>⟨q.1,(hsub q hq).1,(hsub q hq).2,e⟩,fun h=>?_⟩
  refine elEAA h fun t h1 h2 e=>?_
  refine elEA (sp_sub hc hw h1) fun q hq et=>?_
  exact ⟨q,(hC q).mpr ⟨hq,et▸h2⟩,et▸e⟩
end
theorem tri_name {k:Int} {v:D} (h:Tri (.tuple [.str "name", .int k]) v):v=.tuple [.str "name", .int k]:=by
 generalize hd:(PyData.tuple [.str "name", .int k])=d at h
 cases h with
 | self=>rfl
 | part hx ht=>simp at hd; exact absurd hd.1 (zx4 false _)
 | some hs ht hn=>simp at hd; exact absurd hd.1 (zx4 false _)
theorem tri_cons {s:Sn} {l:List D} {v:D} (h:Tri (.tuple (.str s.str::l)) v):v=.tuple (.str s.str::l)∨(∃ x∈l,Tri x v)∨(s≠.pair∧∃ t:List D,t.Sublist l∧t≠[]∧v=zy3 s t):=by
 generalize hd:(PyData.tuple (.str s.str::l))=d at h
 cases h with
 | self=>exact .inl rfl
 | part hx ht=>simp at hd; obtain ⟨_,rfl⟩:=hd; exact .inr (.inl ⟨_,hx,ht⟩)
 | some hs ht hn=>simp at hd; obtain ⟨e,rfl⟩:=hd; obtain rfl:=zo6 e; exact .inr (.inr ⟨hs,_,ht,hn,rfl⟩)
noncomputable def zj5 (d:D):Prop:=∀ i,¬ Opn i d
structure Trv (S:D) (c B:Nat) (R ws:List D):Prop where
 snd:∀ v∈R,Tri S v
 cpl:∀ v,Tri S v→v∈R∨∃ x∈ws,Tri x v
 wsx:∀ x∈ws,Can 7 x∧lv x≤c∧zj5 x∧∀ v,Tri x v→Tri S v
 nod:R.Nodup
 len:R.length+7*lvL ws≤B+6*ws.length
theorem can_cases {k:Nat} {d:D} (h:Can k d) (hn:zj5 d):(∃ i,d=.tuple [.str "name", .int i])∨∃ (s:Sn) (l:List D),d=.tuple (.str s.str::l):=by
 cases h with
 | leaf k o n =>
  cases o with
  | true=>exact absurd (Opn.self n) (hn n)
  | false=>exact .inl ⟨n,rfl⟩
 | pair _ _=>exact .inr ⟨.pair,_,rfl⟩
 | join _=>exact .inr ⟨_,_,rfl⟩
inductive TrSt (Fs:Fns) (fuel m:Nat) (S:D) (c B:Nat) (σ:Mini.Sg) (k:Nat):Prop
 | mk (R ws:List D) (a d:Option AV) (es:ex (Ga Fs fuel (m+1)) tr_body σ=some (.next (trS S R ws a d))) (V:Trv S c B R ws) (lt:ndL ws<k)
theorem sn_name (s:Sn):(s.str==("name" : Str))=false:=by cases s<;>decide
theorem tr_pre {S x:D} {m:Nat} {R ws:List D} (cx:Can 7 x) (hRc:∀ p∈R,Can 7 p) (hz:R.length<size) {a d:Option AV} :
  ex (Ga Fs fuel (m+1)) tr_body (trS S R (ws++[x]) a d)=ex (Ga Fs fuel (m+1)) (.cons tr_more (.cons tr_if .nil)) (trS S (radd R x) ws (vl x) d):=by
 have s1:ex (Ga Fs fuel (m+1)) (.asg 3 (.pop 2)) (trS S R (ws++[x]) a d)=some (.next (trS S R ws (vl x) d)):=by simp
 exact (zz0 s1).trans (zz0 (sto_set (σ':=trS S R ws (vl x) d) (R:=R) (kd:=x) (f:=false) rfl rfl rfl (keys_enR (cx.tkey (by bv_omega)) fun p hp=>(hRc p hp).tkey (by bv_omega)) hz))
theorem tr_more_name {S:D} {m:Nat} {i:Int} {R ws:List D} {d:Option AV} :
  ex (Ga Fs fuel (m+1)) (.cons tr_more (.cons tr_if .nil)) (trS S R ws (vl (.tuple [.str "name", .int i])) d)=some (.next (trS S R ws (vl (.tuple [.str "name", .int i])) d)):=by
 rw [tr_more,tr_if]
 simp [zz1,c_ne,c_eq,eqD,↓zy2,zx7,zv9,zu5,zy1,ne_name_sum,ne_name_mul]
theorem tr_more_cons {S:D} {m:Nat} {s:Sn} {l:List D} {R ws:List D} {d:Option AV} (hz:ws.length+l.length≤size) :
  ex (Ga Fs fuel (m+1)) tr_more (trS S R ws (vl (.tuple (.str s.str::l))) d)=some (.next (trS S R (ws++l) (vl (.tuple (.str s.str::l))) d)):=by
 have h1:(1:Int)≤(l.length:Int)+1:=by bv_omega
 rw [tr_more]; simp [zw9,zz1,c_ne,eqD,b_ad,zad1,mkL_,p_lst,zse2,↓zy2,bE_c,bE_o,zsl2,bD_,orS,kbe_,kbe2_,zx7,zu4,zy1,sn_name,h1,hz]
theorem tr_or {S:D} {m:Nat} {s:Sn} {l:List D} {R ws:List D} {d:Option AV} {b:Bool} (hb:(s.str==("sum" : Str)||s.str==("mul" : Str))=b) :
  ex (Ga Fs fuel (m+1)) tr_if (trS S R ws (vl (.tuple (.str s.str::l))) d)=bif b then ex (Ga Fs fuel (m+1)) tr_join (trS S R ws (vl (.tuple (.str s.str::l))) d) else some (.next (trS S R ws (vl (.tuple (.str s.str::l))) d)):=by
 rw [tr_if]
 cases h1:(s.str==("sum" : Str)) with
 | true=>rw [h1] at hb; subst hb; simp [c_eq,eqD,↓zy2,zu4,zv9,zy1,h1]
 | false=>cases h2:(s.str==("mul" : Str))<;>rw [h1,h2] at hb<;>subst hb<;>simp [c_eq,eqD,↓zy2,zu4,zv9,zu5,zy1,h1,h2]
section
variable {S:D} {c B:Nat} {R ws:List D}
theorem Trv.wsl {x:D} (V:Trv S c B R (ws++[x])):∀ y∈ws,Can 7 y∧lv y≤c∧zj5 y∧∀ v,Tri y v→Tri S v:=fun y hy=>V.wsx y (List.mem_append_left _ hy)
theorem Trv.last {x:D} (V:Trv S c B R (ws++[x])):Can 7 x∧lv x≤c∧zj5 x∧∀ v,Tri x v→Tri S v:=V.wsx x (List.mem_append_right _ (List.mem_singleton.mpr rfl))
theorem Trv.len' {x:D} (V:Trv S c B R (ws++[x])):R.length+7*(lvL ws+lv x)≤B+6*(ws.length+1):=by
 have h:=V.len
 rw [zz8,List.length_append] at h
 exact h
theorem Trv.cpl' {x:D} (V:Trv S c B R (ws++[x])) (v:D) (hv:Tri S v):v∈R∨(∃ y∈ws,Tri y v)∨Tri x v :=
 (V.cpl v hv).imp id fun h=>elEA h fun y hy q=>(List.mem_append.mp hy).elim (fun h=>.inl ⟨y,h,q⟩) fun h=>.inr ((List.mem_singleton.mp h:y=x)▸q)
theorem tr_name_step {m:Nat} {i:Int} (hS:Can 7 S) (hB:B≤1000) (V:Trv S c B R (ws++[.tuple [.str "name", .int i]])) {a d:Option AV}:TrSt Fs fuel m S c B (trS S R (ws++[.tuple [.str "name", .int i]]) a d) (ndL (ws++[.tuple [.str "name", .int i]])):=by
 refine elAAA V.last fun cx _ _ tx=>?_
 have hsz:size=16777216:=rfl
 have hlen:=V.len'
 have hwl:ws.length≤lvL ws:=len_lv fun y hy=>(V.wsl y hy).1
 have hxlv:=cx.lv_pos
 have hRc:∀ p∈R,Can 7 p:=fun p hp=>(V.snd p hp).can hS
 have hRp:∀ p∈R,zz5 p=true:=fun p hp=>(hRc p hp).plain
 have hm1:=radd_mem cx.plain hRp
 have hl1:=radd_len (.tuple [.str "name", .int i]) R
 refine ⟨_,ws,_,d,(tr_pre cx hRc (by exact qx (qf (qf (ntb hlen hB hwl))))).trans tr_more_name,⟨fun v hv=>((hm1 v).mp hv).elim (V.snd v) fun q=>q▸tx _ (.self _),fun v hv=>?_,V.wsl,zl7 cx.plain hRp V.nod,by exact ntn hlen hl1 hxlv⟩,?_⟩
 ·exact (V.cpl' v hv).elim (fun q=>.inl ((hm1 v).mpr (.inl q))) fun q=>q.elim .inr fun q=>.inl ((hm1 v).mpr (.inr (tri_name q)))
 ·rw [ndL_append]; simp only [ndL]; have:=cx.nd_pos; exact Nat.lt_add_of_pos_right this
theorem tr_cons_step (hj:Has Fs "_law_joined" ⟨2,4,zy6⟩) (hch:Has Fs "_law_choices" ⟨1,3,zy8⟩) {m:Nat} {s:Sn} {l:List D} (hc20:c≤4) (hS:Can 7 S) (hB:B≤1000) (V:Trv S c B R (ws++[.tuple (.str s.str::l)])) {a d:Option AV}:TrSt Fs fuel m S c B (trS S R (ws++[.tuple (.str s.str::l)]) a d) (ndL (ws++[.tuple (.str s.str::l)])):=by
 refine elAAA V.last fun cx lx nx tx=>?_
 have hsz:size=16777216:=rfl
 have hlen:=V.len'
 have hwl:ws.length≤lvL ws:=len_lv fun y hy=>(V.wsl y hy).1
 have hRc:∀ p∈R,Can 7 p:=fun p hp=>(V.snd p hp).can hS
 have hRp:∀ p∈R,zz5 p=true:=fun p hp=>(hRc p hp).plain
 have hm1:=radd_mem cx.plain hRp
 have hn1:=zl7 cx.plain hRp V.nod
 have hl1:=radd_len (.tuple (.str s.str::l)) R
 have hR1:∀ p∈radd R (.tuple (.str s.str::l)),Can 7 p:=fun p hp=>((hm1 p).mp hp).elim (hRc p) fun e=>e▸cx
 have hcons:=cx.cons
 rw [zv5] at lx hlen
 have hll:=len_lv hcons.1
 have h2l:=hcons.2.1
 have hws2:∀ y∈ws++l,Can 7 y∧lv y≤c∧zj5 y∧∀ v,Tri y v→Tri S v:=fun y hy=>(List.mem_append.mp hy).elim (V.wsl y) fun hy =>
  ⟨hcons.1 y hy,Nat.le_trans (lvL_mem hy) lx,fun i hi=>nx i (.part hy hi),fun v hv=>tx v (.part hy hv)⟩
 have hnd2:ndL (ws++l)<ndL (ws++[.tuple (.str s.str::l)]):=by
  rw [ndL_append,ndL_append]; simp only [ndL,nd_cons]; bv_omega
 have hcpl:∀ v,Tri S v→v∈radd R (.tuple (.str s.str::l))∨(∃ y∈ws++l,Tri y v)∨(s≠.pair∧∃ t:List D,t.Sublist l∧t≠[]∧v=zy3 s t):=fun v hv =>
  (V.cpl' v hv).elim (fun q=>.inl ((hm1 v).mpr (.inl q))) fun q=>q.elim (fun h=>elEA h fun y hy q=>.inr (.inl ⟨y,List.mem_append_left _ hy,q⟩)) fun q =>
   (tri_cons q).elim (fun q=>.inl ((hm1 v).mpr (.inr q))) fun q=>q.elim (fun h=>elEA h fun z hz q=>.inr (.inl ⟨z,List.mem_append_right _ hz,q⟩)) fun q=>.inr (.inr q)
 have hsnd:∀ v∈radd R (.tuple (.str s.str::l)),Tri S v:=fun v hv=>((hm1 v).mp hv).elim (V.snd v) fun q=>q▸tx _ (.self _)
 have s3:=(tr_pre (Fs:=Fs) (fuel:=fuel) (S:=S) (m:=m) (ws:=ws) (a:=a) (d:=d) cx hRc (by exact qx (qf (qf (ntb hlen hB hwl))))).trans (zz0 (b:=.cons tr_if .nil) (tr_more_cons (by exact qt (qt (qa (Nat.le_refl _) hll) (qt (Nat.le_of_eq (Nat.add_comm ..)) (qr (a:=R.length) (qt (Nat.le_of_eq (Nat.add_assoc ..).symm) (ntb hlen hB hwl))))) (by decide))))
 by_cases hs:s=.pair
 ·refine ⟨_,ws++l,_,d,s3.trans ((zz0 (tr_or (b:=false) (by rw [hs]; decide))).trans rfl),⟨hsnd,fun v hv=>?_,hws2,hn1,?_⟩,hnd2⟩
  ·exact (hcpl v hv).elim .inl fun q=>q.elim .inr fun q=>absurd hs q.1
  ·rw [zz8,List.length_append]; exact ntr hlen hl1 (qt (by decide) (Nat.mul_le_mul_left 6 h2l))
 ·have hj2:=hcons.2.2.2 hs
  have h6:2^l.length+7≤6*l.length:=by
   have:l.length=2∨l.length=3∨l.length=4:=by exact n24 (qx (qt hll (qt lx ‹_›))) h2l
   rcases this with q|q|q<;>rw [q]<;>decide
  have hc16:2^c≤16:=Nat.pow_le_pow_right (n:=2) (by bv_omega) hc20
  refine elEEAAA (tr_join_step (fuel:=fuel) (S:=S) (R:=radd R (.tuple (.str s.str::l))) (ws:=ws++l) (m:=m) (d:=d) hj hch (by bv_omega) hs hcons.1 cx hj2.1 hj2.2 (Nat.le_trans hll lx) lx hR1 hn1 (by exact qx (qa (qt hl1 (Nat.succ_le_succ (qf (qf (ntb hlen hB hwl))))) hc16))) fun R' d' es r1 r2 r3=>?_
  refine ⟨R',ws++l,_,d',s3.trans ((zz0 ((tr_or (b:=true) (by cases s<;>first|rfl|exact absurd rfl hs)).trans es)).trans rfl),⟨fun v hv=>?_,fun v hv=>?_,hws2,r2,?_⟩,hnd2⟩
  ·exact ((r1 v).mp hv).elim (hsnd v) fun h=>elEAA h fun t h1 h2 e=>e▸tx _ (.some hs h1 h2)
  ·exact (hcpl v hv).elim (fun q=>.inl ((r1 v).mpr (.inl q))) fun q=>q.elim .inr fun q=>.inl ((r1 v).mpr (.inr q.2))
  ·rw [zz8,List.length_append]; exact ntr hlen (qt r3 (qt (Nat.add_le_add_right hl1 _) (Nat.le_of_eq (Nat.add_assoc ..)))) (qt (Nat.le_of_eq (by rw [Nat.add_comm 1])) h6)
end
theorem tr_body_step (hj:Has Fs "_law_joined" ⟨2,4,zy6⟩) (hch:Has Fs "_law_choices" ⟨1,3,zy8⟩) {S:D} {c B m:Nat} (hc20:c≤4) (hS:Can 7 S) (hB:B≤1000) {R ws:List D} {x:D} (V:Trv S c B R (ws++[x])) {a d:Option AV} :
  TrSt Fs fuel m S c B (trS S R (ws++[x]) a d) (ndL (ws++[x])):=by
 refine (can_cases V.last.1 V.last.2.2.1).elim (fun h=>h.elim fun i e=>?_) fun h=>elEE h fun s l e=>?_
 ·subst e; exact tr_name_step hS hB V
 ·subst e; exact tr_cons_step hj hch hc20 hS hB V
theorem tr_loop (hj:Has Fs "_law_joined" ⟨2,4,zy6⟩) (hch:Has Fs "_law_choices" ⟨1,3,zy8⟩) {S:D} {c B m:Nat} (hc20:c≤4) (hS:Can 7 S) (hB:B≤1000):∀ (g:Nat) (R ws:List D) (a d:Option AV),Trv S c B R ws→ndL ws<g →
  ∃ R' a' d',zp8 (uno tr_test (ev (Ga Fs fuel (m+1)) tr_test)) (ex (Ga Fs fuel (m+1)) tr_body) g (trS S R ws a d)=some (.next (trS S R' [] a' d'))∧Trv S c B R' []
 | 0,_,_,_,_,_,h=>by bv_omega
 | g+1,R,ws,a,d,V,h=>by
  have ok:okd (.list ws)=true:=zi0 (fun x hx=>(V.wsx x hx).1) (by bv_omega)
  rcases List.eq_nil_or_concat ws with rfl|⟨ws',x,rfl⟩
  ·refine ⟨R,a,d,zk5 (d:=.bool false) ?_ rfl,V⟩
   rw [tr_test]; simp [c_ne,eqD,↓mkL0,zs4,zt6]
  ·rw [List.concat_eq_append] at *
   obtain ⟨R',ws2,a',d',es,V',hlt⟩:=tr_body_step (fuel:=fuel) (m:=m) (a:=a) (d:=d) hj hch hc20 hS hB V
   obtain ⟨R3,a3,d3,el,V3⟩:=tr_loop hj hch hc20 hS hB g R' ws2 a' d' V' (by exact Nat.lt_of_lt_of_le hlt (Nat.le_of_lt_succ h))
   refine ⟨R3,a3,d3,?_,V3⟩
   rw [zo2 (d:=.bool true) (σ':=trS S R (ws'++[x]) a d) (by rw [tr_test]; simp [c_ne,eqD,↓mkL0,ok,zs4,zt6]) rfl es]
   exact el
theorem run_law_tries (hj:Has Fs "_law_joined" ⟨2,4,zy6⟩) (hch:Has Fs "_law_choices" ⟨1,3,zy8⟩) (h:Has Fs "_law_tries" ⟨1,5,zp3⟩) (n:Nat) {S:D} (hc:lv S≤4) (hS:Can 7 S) (hno:zj5 S) (hf:100≤fuel) :
  ∃ V:List D,run Fs glo fuel (n+2) "_law_tries" [S]=some (.list V,true)∧(∀ v,v∈V↔Tri S v)∧V.length+6≤7*lv S:=by
 have hnd:=hS.nd
 have hp:=hS.lv_pos
 refine elEEEA (tr_loop (fuel:=fuel) (m:=n) hj hch hc hS (B:=7*lv S - 6) (by exact qt (Nat.sub_le ..) (qy (Nat.mul_le_mul_left 7 hc))) fuel [] [S] none none
  ⟨by simp,fun v hv=>.inr ⟨S,by simp,hv⟩,fun x hx=>by simp at hx; subst hx; exact ⟨hS,Nat.le_refl _,hno,fun v hv=>hv⟩,by simp,by simp only [lvL,Nat.add_zero,List.length_nil,Nat.zero_add,List.length_singleton]; exact Nat.le_add_of_sub_le (Nat.le_refl _)⟩ (by simp only [ndL]; exact Nat.lt_of_lt_of_le (qt hnd (Nat.mul_le_mul_left 2 hc)) (qt (by decide) hf))) fun R a d el V=>?_
 have hlen:=V.len
 simp only [lvL,List.length_nil,Nat.mul_zero,Nat.add_zero] at hlen
 refine ⟨R,zz7 h rfl ?_,fun v=>⟨V.snd v,fun hv=>(V.cpl v hv).resolve_right (by simp)⟩,by exact qt (Nat.add_le_add_right hlen 6) (Nat.le_of_eq (Nat.sub_add_cancel (qt (by decide) (Nat.mul_le_mul_left 7 hp))))⟩
 show ex (Ga Fs fuel (n+1)) zp3 [vl S,none,none,none,none]=_
 have hke:=keysOf_enR R
 rw [zp3,zz0 (σ':=[vl S,ow (.dict []),none,none,none]) (by simp),
  zz0 (σ':=trS S [] [S] none none) (by simp [↓mkL1]),zz0 (by rw [eq_ex_whl]; exact el)]
 refine zy0 ?_
 rw [zr5,zm2]
 show (((some (PyData.dict (R.map enR),trS S R [] a d)).bind _).bind _)=_
 simp [p_lst,zse3,r_lst,keysL,orS,hke]
end Pl
end
section
namespace Pl
open Mini PySem
variable {Fs:Fns} {fuel:Nat}
noncomputable def prodL (V:List D):Nat→List (List D)
 | 0=>[[]]
 | n+1=>(prodL V n).flatMap fun r=>V.map fun v=>r++[v]
theorem prod_len (V:List D):∀ n,(prodL V n).length=V.length^n
 | 0=>rfl
 | n+1=>by
  rw [prodL,List.length_flatMap,Nat.pow_succ,← prod_len V n]
  simp [List.map_const',List.sum_replicate_nat]
theorem zk7 (V:List D):∀ n (r:List D),r∈prodL V n↔r.length=n∧∀ v∈r,v∈V
 | 0,r=>by
  simp only [prodL,List.mem_singleton]
  exact ⟨fun e=>by subst e; simp,fun h=>List.length_eq_zero_iff.mp h.1⟩
 | n+1,r=>by
  simp only [prodL,List.mem_flatMap,List.mem_map,zk7 V n]
  constructor
  ·rintro ⟨a,⟨h1,h2⟩,v,hv,rfl⟩
   refine ⟨by simp [h1],fun x hx=>?_⟩
   rcases List.mem_append.mp hx with q|q
   ·exact h2 x q
   ·simp at q; subst q; exact hv
  ·rintro ⟨h1,h2⟩
   rcases List.eq_nil_or_concat r with rfl|⟨a,v,rfl⟩
   ·simp at h1
   ·rw [List.concat_eq_append] at *
    exact ⟨a,⟨by simpa using h1,fun x hx=>h2 x (ml hx)⟩,v,h2 v (mr mh),rfl⟩
noncomputable def al_one:I:=(.cons (.asg 9 (.prim1 .dict (.var 7))) (.cons (.sto 9 (.var 5) (.var 8)) (.cons (.app 6 (.var 9)) .nil)))
noncomputable def al_row:I:=(.cons (.for1 8 (.var 3) al_one) .nil)
noncomputable def al_num:I:=(.cons (.asg 6 (.lst .nil)) (.cons (.for1 7 (.var 4) al_row) (.cons (.asg 4 (.var 6)) .nil)))
noncomputable abbrev alS (t S N:D) (a b c d e f g:Option AV):Mini.Sg:=[vl t,vl S,vl N,a,b,c,d,e,f,g]
section
variable {t S N:D} {m:Nat} {V:List D} {i:Int}
theorem al_one_step {κ:Kn} {v:D} {acc:List Kn} {a b g:Option AV} (hn:lk κ i=none) (hz:κ.length<size) (ha:acc.length+1<size) :
  ex (Ga Fs fuel m) al_one (alS t S N a b (vl (.int i)) (ow (.list (acc.map dK))) (vl (dK κ)) (vl v) g)=some (.next (alS t S N a b (vl (.int i)) (ow (.list ((acc++[κ++[(i,v)]]).map dK))) (vl (dK κ)) (vl v) (vl (dK (κ++[(i,v)]))))):=by
 have hk:=keys_enK κ i
 rw [al_one,zz0 (σ':=alS t S N a b (vl (.int i)) (ow (.list (acc.map dK))) (vl (dK κ)) (vl v) (ow (dK κ))) (by simp [p_dct,r_dct,zco,intKeys_enK]),
  zz0 (σ':=alS t S N a b (vl (.int i)) (ow (.list (acc.map dK))) (vl (dK κ)) (vl v) (ow (dK (κ++[(i,v)])))) (by simp [hk,hz,dput_enK κ _ hn]),
  zz0 (σ':=alS t S N a b (vl (.int i)) (ow (.list ((acc++[κ++[(i,v)]]).map dK))) (vl (dK κ)) (vl v) (vl (dK (κ++[(i,v)])))) (by simp [ha])]
 rfl
theorem al_row_step {κ:Kn} {acc:List Kn} {a b f g:Option AV} (hA:a=vl (.list V)∨a=ow (.list V)) (hn:lk κ i=none) (hz:κ.length<size) (ha:acc.length+V.length<size) :
  ∃ f' g',ex (Ga Fs fuel m) al_row (alS t S N a b (vl (.int i)) (ow (.list (acc.map dK))) (vl (dK κ)) f g)=some (.next (alS t S N (vl (.list V)) b (vl (.int i)) (ow (.list ((acc++V.map fun v=>κ++[(i,v)]).map dK))) (vl (dK κ)) f' g')):=by
 have loop:=zy7 (bnd:=zu2 8) (body:=ex (Ga Fs fuel m) al_one) id (fun done σ=>∃ f' g',σ=alS t S N (vl (.list V)) b (vl (.int i)) (ow (.list ((acc++done.map fun v=>κ++[(i,v)]).map dK))) (vl (dK κ)) f' g') (L:=V)
  (σ:=alS t S N (vl (.list V)) b (vl (.int i)) (ow (.list (acc.map dK))) (vl (dK κ)) f g) ⟨f,g,by simp⟩ (by
   rintro done v rest σ e ⟨f',g',rfl⟩
   have hd:(acc++done.map fun v=>κ++[(i,v)]).length+1<size:=by
    have:done.length+1≤V.length:=by exact lm1 e
    simp; exact ql (qt (Nat.le_of_eq (Nat.add_assoc ..)) (Nat.add_le_add_left this _)) ha
   exact ⟨_,_,rfl,al_one_step hn hz hd,vl v,vl (dK (κ++[(i,v)])),by simp⟩)
 rw [List.map_id] at loop
 (refine elEAEE (loop) fun σ' e f' g' e_4=>?_; subst e_4)
 refine ⟨f',g',?_⟩
 rw [al_row,zz0 (by
  rw [zz4,show srcE (ev (Ga Fs fuel m) (.var 3)) (alS t S N a b (vl (.int i)) (ow (.list (acc.map dK))) (vl (dK κ)) f g)=some (V,alS t S N (vl (.list V)) b (vl (.int i)) (ow (.list (acc.map dK))) (vl (dK κ)) f g) by rcases hA with rfl|rfl<;>rfl]
  exact e)]
 rfl
theorem al_num_step {rows:List Kn} {a b d e f g:Option AV} (hA:a=vl (.list V)∨a=ow (.list V)) (hB:b=vl (.list (rows.map dK))∨b=ow (.list (rows.map dK))) (hn:∀ κ∈rows,lk κ i=none∧κ.length<size) (hz:rows.length*V.length<size) :
  ∃ a' d' e' f' g',(a'=vl (.list V)∨a'=ow (.list V))∧ex (Ga Fs fuel m) al_num (alS t S N a b (vl (.int i)) d e f g)=some (.next (alS t S N a' (vl (.list ((rows.flatMap fun κ=>V.map fun v=>κ++[(i,v)]).map dK))) (vl (.int i)) d' e' f' g')):=by
 have hfl:∀ rs:List Kn,(rs.flatMap fun κ=>V.map fun v=>κ++[(i,v)]).length=rs.length*V.length:=fun rs=>by
  rw [List.length_flatMap]
  simp [List.map_const',List.sum_replicate_nat]
 have loop:=zy7 (bnd:=zu2 7) (body:=ex (Ga Fs fuel m) al_row) dK (fun done σ=>∃ a' e' f' g',(a'=vl (.list V)∨a'=ow (.list V))∧σ=alS t S N a' (vl (.list (rows.map dK))) (vl (.int i)) (ow (.list ((done.flatMap fun κ=>V.map fun v=>κ++[(i,v)]).map dK))) e' f' g') (L:=rows)
  (σ:=alS t S N a (vl (.list (rows.map dK))) (vl (.int i)) (ow (.list [])) e f g) ⟨a,e,f,g,hA,rfl⟩ (by
   rintro done κ rest σ er ⟨a',e',f',g',hA',rfl⟩
   obtain ⟨h1,h2⟩:=hn κ (by exact mm er)
   have hd:(done.flatMap fun κ=>V.map fun v=>κ++[(i,v)]).length+V.length<size:=by
    rw [hfl]
    have h3:done.length+1≤rows.length:=by exact lm1 er
    have h4:=Nat.mul_le_mul_right V.length h3
    rw [Nat.add_mul,Nat.one_mul] at h4
    exact ql h4 hz
   refine elEE (al_row_step (Fs:=Fs) (fuel:=fuel) (t:=t) (S:=S) (N:=N) (m:=m) (b:=vl (.list (rows.map dK))) (f:=f') (g:=g') hA' h1 h2 hd) fun f2 g2 es=>?_
   exact ⟨_,_,rfl,es,vl (.list V),vl (dK κ),f2,g2,.inl rfl,by simp⟩)
 (refine elEAEEEEA (loop) fun σ' el a' e' f' g' hA' e_7=>?_; subst e_7)
 refine ⟨a',vl (.list ((rows.flatMap fun κ=>V.map fun v=>κ++[(i,v)]).map dK)),e',f',g',hA',?_⟩
 rw [al_num,zz0 (σ':=alS t S N a b (vl (.int i)) (ow (.list [])) e f g) (by simp [↓mkL0]),
  zz0 (by
   rw [zz4,show srcE (ev (Ga Fs fuel m) (.var 4)) (alS t S N a b (vl (.int i)) (ow (.list [])) e f g)=some (rows.map dK,alS t S N a (vl (.list (rows.map dK))) (vl (.int i)) (ow (.list [])) e f g) by rcases hB with rfl|rfl<;>rfl]
   exact el)]
 simp [zz1]
end
noncomputable def pk (V:List D) (ns:List Int):List Kn:=(prodL V ns.length).map fun r=>ns.zip r
theorem flatMap_congr' {α β:Type} {f g:α→List β}:∀ {l:List α},(∀ x∈l,f x=g x)→l.flatMap f=l.flatMap g
 | [],_=>rfl
 | x::r,h=>by rw [List.flatMap_cons,List.flatMap_cons,h x mh,flatMap_congr' fun y hy=>h y (mt hy)]
theorem pk_snoc (V:List D) (ns:List Int) (i:Int):(pk V ns).flatMap (fun κ=>V.map fun v=>κ++[(i,v)])=pk V (ns++[i]):=by
 simp only [pk,List.length_append,List.length_singleton,prodL,List.flatMap_map,List.map_flatMap]
 refine flatMap_congr' fun r hr=>?_
 rw [List.map_map]
 refine List.map_congr_left fun v _=>?_
 have:=((zk7 V ns.length r).mp hr).1
 rw [Function.comp_apply,List.zip_append (by bv_omega)]; rfl
noncomputable def us_cond:I:=(.cmp .Eq (.call "_law_filled" (.cons (.idx (.var 0) (.cint 0)) (.cons (.var 10) .nil))) (.var 2))
noncomputable def us_elt:I:=(.call "_law_filled" (.cons (.idx (.var 0) (.cint 1)) (.cons (.var 10) .nil)))
noncomputable def zk9:I:=(.cons (.asg 3 (.call "_law_tries" (.cons (.var 2) .nil))) (.cons (.asg 4 (.lst (.cons .dct0 .nil))) (.cons (.for1 5 (.var 1) al_num) (.cons (.ret (.comp1 us_elt (.var 4) us_cond)) .nil))))
structure Hu (Fs:Fns):Prop where
 ljoined:Has Fs "_law_joined" ⟨2,4,zy6⟩
 filled:Has Fs "_law_filled" ⟨2,4,zv3⟩
 lchoices:Has Fs "_law_choices" ⟨1,3,zy8⟩
 tries:Has Fs "_law_tries" ⟨1,5,zp3⟩
 uses:Has Fs "_law_uses" ⟨3,10,zk9⟩
structure Rule (t u:Tm) (ns:List Int):Prop where
 tn:num t≤3
 un:num u≤3
 nod:ns.Nodup
 two:ns.length≤2
 op:∀ k,k∈ns↔k∈opl t
 ou:∀ k∈opl u,k∈opl t
noncomputable def onK (g:(Int→D)→D):D→D
 | .dict κ=>g fun i=>(zs1 κ (.int i)).getD .none
 | _=>.none
theorem fn_eq (ns:List Int) (r:List D):(fun i=>(zs1 ((ns.zip r).map enK) (.int i)).getD .none)=fn ns r:=by funext i; rw [zm9]; rfl
theorem run_law_uses (H:Hu Fs) (n:Nat) {t u:Tm} {S:D} {ns:List Int} (Q:Rule t u ns) (hl:lv S≤4) (hS:Can 7 S) (hno:zj5 S) (hf:100≤fuel) :
  ∃ W V:List D,run Fs glo fuel (n+8) "_law_uses" [.tuple [enc t,enc u],.list (ns.map .int),S]=some (.list W,true)∧(∀ w,w∈W↔Use t u S w)∧W.length≤484∧(∀ v,Tri S v→v∈V)∧V.length+6≤7*lv S:=by
 refine elEAA (run_law_tries (fuel:=fuel) H.ljoined H.lchoices H.tries (n+5) hl hS hno hf) fun V eV hV hVl=>?_
 have hsz:size=16777216:=rfl
 have hpl:∀ m,m≤2→V.length^m≤484:=fun m hm =>
  Nat.le_trans (Nat.pow_le_pow_left (by bv_omega:V.length≤22) m) (Nat.pow_le_pow_right (n:=22) (by bv_omega) hm)
 have hVals:∀ (x:Tm) r,(∀ k∈opl x,k∈opl t)→r∈prodL V ns.length→Vals 4 (fn ns r) x∧∀ i∈opl x,lk (ns.zip r) i=some (fn ns r i):=fun x r hx hr=>by
  obtain ⟨h1,h2⟩:=(zk7 V ns.length r).mp hr
  refine ⟨fun i hi=>?_,fun i hi=>?_⟩
  ·have q:=(hV _).mp (h2 _ (fn_mem Q.nod h1 ((Q.op i).mpr (hx i hi))))
   exact ⟨q.can hS,Nat.le_trans (q.lv hS) hl⟩
  ·have hm:i∈(ns.zip r).map (·.1):=by rw [zh1 h1]; exact (Q.op i).mpr (hx i hi)
   (refine elEA (List.mem_map.mp hm) fun p hp e_2=>?_; subst e_2)
   have:=mem_lk (κ:=ns.zip r) (by rw [zh1 h1]; exact Q.nod) hp
   rw [fn,this]; rfl
 have hrun:∀ (x:Tm) r,num x≤3→(∀ k∈opl x,k∈opl t)→r∈prodL V ns.length→run Fs glo fuel (n+7) "_law_filled" [enc x,dK (ns.zip r)]=some (zz3 (fn ns r) x,false)∧Can 10 (zz3 (fn ns r) x):=fun x r h3 hx hr=>by
  have er:=zq7 (fuel:=fuel) (κ:=ns.zip r) H.ljoined H.filled (c:=4) (by bv_omega) x (n+6 - num x) (by exact qy (Nat.mul_le_mul_left 4 h3)) (hVals x r hx hr).1 (hVals x r hx hr).2
  rw [show n+6 - num x+num x+1=n+7 by exact nsc h3] at er
  exact ⟨er,(zv1 (by bv_omega) x (by bv_omega) (hVals x r hx hr).1).1.mono (by exact Nat.add_le_add_left h3 7)⟩
 have loop:=zy7 (bnd:=zu2 5) (body:=ex (Ga Fs fuel (n+7)) al_num) PyData.int (fun done σ=>∃ a b c d e f g,(a=vl (.list V)∨a=ow (.list V))∧(b=vl (.list ((pk V done).map dK))∨b=ow (.list ((pk V done).map dK)))∧σ=alS (.tuple [enc t,enc u]) (.list (ns.map .int)) S a b c d e f g) (L:=ns)
  (σ:=alS (.tuple [enc t,enc u]) (.list (ns.map .int)) S (ow (.list V)) (ow (.list [dK []])) none none none none none) ⟨_,_,_,_,_,_,_,.inr rfl,.inr rfl,rfl⟩ (by
   rintro done i rest σ e ⟨a,b,c',d,e',f,g,hA,hB,rfl⟩
   have hdl:done.length+1≤ns.length:=by exact lm1 e
   have htw:=Q.two
   have hni:i∉done:=by
    have hnn:=Q.nod
    rw [e,List.nodup_append] at hnn
    exact fun hm=>hnn.2.2 i hm i mh rfl
   have hrows:∀ κ∈pk V done,lk κ i=none∧κ.length<size:=fun κ hκ=>by
    (refine elEA (List.mem_map.mp hκ) fun r hr e_2=>?_; subst e_2)
    have hrl:=((zk7 V done.length r).mp hr).1
    refine ⟨lk_not ?_,?_⟩
    ·rw [zh1 hrl]; exact hni
    ·rw [List.length_zip]; exact qx (qt (Nat.min_le_left ..) (qt (qf hdl) htw))
   have hzz:(pk V done).length*V.length<size:=by
    have:=hpl (done.length+1) (by exact qt hdl htw)
    rw [Nat.pow_succ] at this
    rw [pk,List.length_map,prod_len]; exact qx this
   refine elEEEEEA (al_num_step (Fs:=Fs) (fuel:=fuel) (t:=.tuple [enc t,enc u]) (S:=.list (ns.map .int)) (N:=S) (m:=n+7) (d:=d) (e:=e') (f:=f) (g:=g) hA hB hrows hzz) fun a2 d2 e2 f2 g2 hA2 es=>?_
   rw [pk_snoc] at es
   exact ⟨_,_,rfl,es,a2,_,vl (.int i),d2,e2,f2,g2,hA2,.inl rfl,rfl⟩)
 (refine elEAEEEEEEEAA (loop) fun σ' el a b c' d e f g hA hB e_11=>?_; subst e_11)
 have hcomp:=zt2 (n:=10) (bc:=bc1) (cond:=zp5 us_cond (ev (Ga Fs fuel (n+7)) us_cond)) (elt:=ev (Ga Fs fuel (n+7)) us_elt) (σ:=alS (.tuple [enc t,enc u]) (.list (ns.map .int)) S a (vl (.list ((pk V ns).map dK))) c' d e f g)
  (c:=fun x=>PyData.eqv (onK (zz3 · t) x) S) (F:=onK (zz3 · u)) rfl (ds:=(pk V ns).map dK) fun x hx=>by
   (refine elEA (List.mem_map.mp hx) fun κ hκ e_2=>?_; subst e_2)
   (refine elEA (List.mem_map.mp hκ) fun r hr e_2=>?_; subst e_2)
   have et:=hrun t r Q.tn (fun k hk=>hk) hr
   have eu:=hrun u r Q.un Q.ou hr
   have okl:=et.2.okd (by bv_omega)
   have oks:=hS.okd (by bv_omega)
   refine ⟨[dK (ns.zip r)],rfl,?_,fun _=>⟨false,?_⟩⟩
   ·show zp5 us_cond (ev (Ga Fs fuel (n+7)) us_cond) _=some (.bool (PyData.eqv (zz3 (fun i=>(zs1 ((ns.zip r).map enK) (.int i)).getD .none) t) S),_)
    rw [fn_eq]
    simp [us_cond,c_eq,eqD,cE_c,↓zy2,et.1,okl,oks]
   ·show _=some (zz3 (fun i=>(zs1 ((ns.zip r).map enK) (.int i)).getD .none) u,_)
    rw [fn_eq]
    simp [us_elt,↓zr8,eu.1]
 have hmap:(((pk V ns).map dK).filter fun x=>PyData.eqv (onK (zz3 · t) x) S).map (onK (zz3 · u))=((prodL V ns.length).filter fun r=>PyData.eqv (zz3 (fn ns r) t) S).map fun r=>zz3 (fn ns r) u:=by
  rw [pk,List.map_map,List.filter_map,List.map_map]
  have e1:((fun x:D=>PyData.eqv (onK (zz3 · t) x) S)∘(dK∘fun r=>ns.zip r))=fun r=>PyData.eqv (zz3 (fn ns r) t) S:=by
   funext r; show PyData.eqv (zz3 (fun i=>(zs1 ((ns.zip r).map enK) (.int i)).getD .none) t) S=_; rw [fn_eq]
  have e2:(onK (zz3 · u)∘(dK∘fun r=>ns.zip r))=fun r=>zz3 (fn ns r) u:=by
   funext r; show zz3 (fun i=>(zs1 ((ns.zip r).map enK) (.int i)).getD .none) u=_; rw [fn_eq]
  rw [e1,e2]
 rw [hmap] at hcomp
 have hres:(((prodL V ns.length).filter fun r=>PyData.eqv (zz3 (fn ns r) t) S).map fun r=>zz3 (fn ns r) u).length≤484:=by
  rw [List.length_map]
  have a1:=List.length_filter_le (fun r=>PyData.eqv (zz3 (fn ns r) t) S) (prodL V ns.length)
  rw [prod_len] at a1
  exact Nat.le_trans a1 (hpl _ Q.two)
 have htn:=Q.tn
 refine ⟨_,V,zz7 H.uses rfl ?_,fun w=>?_,hres,fun v hv=>(hV v).mpr hv,hVl⟩
 ·show ex (Ga Fs fuel (n+7)) zk9 (alS (.tuple [enc t,enc u]) (.list (ns.map .int)) S none none none none none none none)=_
  rw [zk9,zz0 (σ':=alS (.tuple [enc t,enc u]) (.list (ns.map .int)) S (ow (.list V)) none none none none none none) (by simp [eV]),
   zz0 (σ':=alS (.tuple [enc t,enc u]) (.list (ns.map .int)) S (ow (.list V)) (ow (.list [dK []])) none none none none none) (by simp [↓mkL1]),
   zz0 (by rw [zz4]; exact el)]
  refine zy0 ?_
  rw [zr5,zv7,show srcE (ev (Ga Fs fuel (n+7)) (.var 4)) (alS (.tuple [enc t,enc u]) (.list (ns.map .int)) S a b c' d e f g)=some ((pk V ns).map dK,alS (.tuple [enc t,enc u]) (.list (ns.map .int)) S a (vl (.list ((pk V ns).map dK))) c' d e f g) by rcases hB with rfl|rfl<;>rfl]
  show (((zi9 10 _ _ _ _).bind _).bind _)=_
  rw [zr6,hcomp]
  simp only [Option.bind_some,mkL]
  rw [if_pos (by bv_omega)]
  rfl
 ·rw [use_iff (by bv_omega) Q.nod Q.op Q.ou]
  simp only [List.mem_map,List.mem_filter,zk7]
  constructor
  ·rintro ⟨r,⟨hr,hg⟩,rfl⟩
   have hr':=(zk7 V ns.length r).mpr hr
   have hv:=(hVals t r (fun k hk=>hk) hr').1
   refine ⟨r,⟨hr.1,fun v hv=>(hV v).mp (hr.2 v hv),?_⟩,rfl⟩
   rw [← zk2 (by bv_omega) t (by bv_omega) hv]
   exact (zw1 (hrun t r Q.tn (fun k hk=>hk) hr').2.plain hS.plain).mp hg
  ·rintro ⟨r,⟨h1,h2,h3⟩,rfl⟩
   have hr:r.length=ns.length∧∀ v∈r,v∈V:=⟨h1,fun v hv=>(hV v).mpr (h2 v hv)⟩
   have hr':=(zk7 V ns.length r).mpr hr
   refine ⟨r,⟨hr,?_⟩,rfl⟩
   rw [zk2 (by bv_omega) t (by bv_omega) (hVals t r (fun k hk=>hk) hr').1,h3]
   exact zo1 hS.plain
end Pl
end
section
namespace Pl
open Mini PySem
variable {Fs:Fns} {fuel:Nat}
noncomputable def ir_at_top:I:=(.cons (.ret (.comp1 (.call "put_in" (.cons (.var 1) (.cons (.var 3) .nil))) (.call "fillings_of" (.cons (.var 0) (.cons (.var 2) .nil))) .omit)) .nil)
structure Ht (Fs:Fns):Prop extends Hm Fs where
 opens_within:Has Fs "opens_within" ⟨1,4,zu8⟩
 shaped:Has Fs "shaped" ⟨1,1,zn4⟩
 fillings_of:Has Fs "fillings_of" ⟨2,10,zs0⟩
 put_in:Has Fs "put_in" ⟨2,2,zn5⟩
 at_top:Has Fs "at_top" ⟨3,3,ir_at_top⟩
theorem run_at_top (H:Ht Fs) (n:Nat) {t u:Tm} {S:D} {ns:List Int} (Q:Rule t u ns) (hl:lv S≤4) (hS:Can 7 S) (hf:100≤fuel) {V:List D} (hV:∀ v,Tri S v→v∈V) (hVl:V.length<64) :
  ∃ W:List D,run Fs glo fuel (n+15) "at_top" [enc t,enc u,S]=some (.list W,true)∧(∀ w,w∈W↔Use t u S w)∧W.length≤if ns.length≤1 then 1 else V.length:=by
 have htn:=Q.tn
 have hsz:size=16777216:=rfl
 have hlen:∀ ms:List Int,ms.Nodup→(∀ k,k∈ms↔k∈opl t)→ms.length=ns.length:=fun ms h1 h2=>((List.perm_ext_iff_of_nodup h1 Q.nod).mpr fun k=>(h2 k).trans (Q.op k).symm).length_eq
 have hle:∀ (ms:List Int) (L:List (List D)),ms.Nodup→(∀ k,k∈ms↔k∈opl t)→L.Nodup→(∀ r∈L,Row ms (shp t) S r)→L.length≤if ns.length≤1 then 1 else V.length:=fun ms L h1 h2 h3 h4=>by
  have htw:=Q.two
  have e:=hlen ms h1 h2
  have:=rows_le (c:=4) (by bv_omega) (by exact qy (Nat.mul_le_mul_left 4 htn)) hS hl htn hV h1 h2 h3 h4 (by exact qt (Nat.le_of_eq e) htw)
  rwa [e] at this
 refine elEEAAAA (run_fillings_of (fuel:=fuel) H.toHm H.opens_within H.shaped H.fillings_of (n+9 - 3*num t) (by exact qy htn) hf hS (Nat.lt_of_le_of_lt (Nat.le_trans (Nat.pow_le_pow_left (by exact Nat.add_le_add_left htn 1:1+num t≤4) _) (Nat.pow_le_pow_right (n:=4) (by bv_omega) hl)) (by rw [hsz]; decide)) fun ms L h1 h2 h3 h4=>by
  have:=hle ms L h1 h2 h3 h4
  split at this<;>bv_omega) fun ms L m1 m2 m3 e F=>?_
 rw [show n+9 - 3*num t+3*num t+5=n+14 by exact nsc (Nat.mul_le_mul_left 3 htn)] at e
 have hLl:=hle ms L m1 m3 F.nod fun r hr=>(F.mem r).mp hr
 have hcomp:=zt2 (n:=3) (bc:=bc1) (cond:=zp5 .omit (ev (Ga Fs fuel (n+14)) .omit)) (elt:=ev (Ga Fs fuel (n+14)) (.call "put_in" (.cons (.var 1) (.cons (.var 3) .nil)))) (σ:=[vl (enc t),vl (enc u),vl S])
  (c:=fun _=>true) (F:=onK (zz3 · u)) rfl (ds:=L.map fun r=>dK (ms.zip r)) fun d hd=>by
   (refine elEA (List.mem_map.mp hd) fun r hr e_2=>?_; subst e_2)
   obtain ⟨h1,h2,h3⟩:=(F.mem r).mp hr
   refine ⟨[dK (ms.zip r)],rfl,rfl,fun _=>⟨false,?_⟩⟩
   have hun:=Q.un
   have er:=run_put_in (fuel:=fuel) (κ:=ms.zip r) (f:=fn ms r) H.parts_in H.joined H.put_in (c:=4) (by bv_omega) u (n+12 - num u) (by exact qy (Nat.mul_le_mul_left 4 hun)) (fun i hi=>by
     have q:=h2 _ (fn_mem m1 h1 ((m3 i).mpr (Q.ou i hi)))
     exact ⟨q.can hS,Nat.le_trans (q.lv hS) hl⟩) fun i hi=>by
     have hm:i∈(ms.zip r).map (·.1):=by rw [zh1 h1]; exact (m3 i).mpr (Q.ou i hi)
     (refine elEA (List.mem_map.mp hm) fun p hp e_2=>?_; subst e_2)
     have:=mem_lk (κ:=ms.zip r) (by rw [zh1 h1]; exact m1) hp
     rw [fn,this]; rfl
   rw [show n+12 - num u+num u+2=n+14 by exact nsc hun] at er
   show _=some (zz3 (fun i=>(zs1 ((ms.zip r).map enK) (.int i)).getD .none) u,_)
   rw [fn_eq]
   simp [er]
 have hmap:(L.map fun r=>dK (ms.zip r)).map (onK (zz3 · u))=L.map fun r=>zz3 (fn ms r) u:=by
  rw [List.map_map]
  refine List.map_congr_left fun r _=>?_
  show zz3 (fun i=>(zs1 ((ms.zip r).map enK) (.int i)).getD .none) u=_
  rw [fn_eq]
 rw [List.filter_eq_self.mpr (by simp),hmap] at hcomp
 have hFl:=F.len
 refine ⟨L.map fun r=>zz3 (fn ms r) u,zz7 H.at_top rfl ?_,fun w=>?_,by rw [List.length_map]; exact hLl⟩
 ·show ex (Ga Fs fuel (n+14)) ir_at_top [vl (enc t),vl (enc u),vl S]=_
  rw [ir_at_top]
  refine zy0 ?_
  rw [zr5,zv7,show srcE (ev (Ga Fs fuel (n+14)) (.call "fillings_of" (.cons (.var 0) (.cons (.var 2) .nil)))) [vl (enc t),vl (enc u),vl S]=some (L.map fun r=>dK (ms.zip r),[vl (enc t),vl (enc u),vl S]) by simp [zit1,e]]
  show (((zi9 3 _ _ _ _).bind _).bind _)=_
  rw [zr6,hcomp]
  simp only [Option.bind_some,mkL]
  rw [if_pos (by rw [List.length_map]; exact Nat.le_of_lt hFl)]
  rfl
 ·rw [use_iff (by bv_omega) m1 m3 Q.ou,List.mem_map]
  exact ⟨fun h=>elEA h fun r hr e=>⟨r,(F.mem r).mp hr,e.symm⟩,fun h=>elEA h fun r hr e=>⟨r,(F.mem r).mpr hr,e.symm⟩⟩
end Pl
end
section
namespace Pl
open Mini PySem
variable {Fs:Fns} {fuel:Nat}
theorem choose_fun {α β:Type} [Inhabited β] {p:α→Prop} {P:α→β→Prop} (h:∀ x,p x→∃ b,P x b):∃ F:α→β,∀ x,p x→P x (F x):=by
 classical
 refine ⟨fun x=>if hx:p x then Classical.choose (h x hx) else default,fun x hx=>?_⟩
 simp only [hx,dite_true]
 exact Classical.choose_spec (h x hx)
noncomputable def E1 (s:Sn) (l:List D) (A:D→List D) (w:D):Prop:=∃ x l' w',(x::l').Perm l∧w'∈A x∧w=jn s (w'::l')
noncomputable def E2 (t u:Tm) (s:Sn) (l:List D) (w:D):Prop:=∃ a l' w',(a++l').Perm l∧2≤a.length∧l'≠[]∧Use t u (jn s a) w'∧w=jn s (w'::l')
noncomputable def wj_a6:I:=(.cons (.app 4 (.call "joined" (.cons (.idx (.var 2) (.cint 0)) (.cons (.bin .Add (.var 6) (.lst (.cons (.var 7) .nil))) .nil)))) .nil)
noncomputable def wj_a9:I:=(.cons (.app 4 (.call "joined" (.cons (.idx (.var 2) (.cint 0)) (.cons (.bin .Add (.var 9) (.lst (.cons (.var 7) .nil))) .nil)))) .nil)
noncomputable def wj_rest:I:=(.asg 6 (.bin .Add (.slc (.var 3) .omit (.var 5)) (.slc (.var 3) (.bin .Add (.var 5) (.cint 1)) .omit)))
noncomputable def wj_b1:I:=(.cons wj_rest (.cons (.for1 7 (.call "steps" (.cons (.var 0) (.cons (.var 1) (.cons (.idx (.var 3) (.var 5)) .nil)))) wj_a6) .nil))
noncomputable def wj_if:I:=(.and (.cons (.cmp .Gt (.prim1 .len (.var 8)) (.cint 1)) (.cons (.cmp .NotEq (.var 9) (.lst .nil)) .nil)))
noncomputable def wj_top:I:=(.call "at_top" (.cons (.var 0) (.cons (.var 1) (.cons (.call "joined" (.cons (.idx (.var 2) (.cint 0)) (.cons (.var 8) .nil))) .nil))))
noncomputable def wj_b2:I:=(.cons (.iff wj_if (.cons (.for1 7 wj_top wj_a9) .nil) .nil) .nil)
noncomputable def zt8:I:=(.cons (.asg 3 (.prim1 .list (.slc (.var 2) (.cint 1) .omit))) (.cons (.asg 4 (.lst .nil)) (.cons (.for1 5 (.rng1 (.prim1 .len (.var 3))) wj_b1) (.cons (.fors [8,9] (.call "choices" (.cons (.var 3) .nil)) wj_b2) (.cons (.ret (.var 4)) .nil)))))
noncomputable abbrev wjS (t u:Tm) (s:Sn) (l:List D) (acc:List D) (a b c d e:Option AV):Mini.Sg:=[vl (enc t),vl (enc u),vl (.tuple (.str s.str::l)),vl (.list l),ow (.list acc),a,b,c,d,e]
section
variable {t u:Tm} {s:Sn} {l:List D} {m:Nat}
theorem wj_l6 {r W acc:List D} {a b c d e:Option AV} (hb:b=vl (.list r)∨b=ow (.list r)) (hr:r.length+1≤size) (hW:∀ w∈W,run Fs glo fuel m "joined" [.str s.str,.list (r++[w])]=some (jn s (r++[w]),false)) (hz:acc.length+W.length<size) :
  ∃ b' c',forN (zu2 7) (ex (Ga Fs fuel m) wj_a6) W (wjS t u s l acc a b c d e)=some (.next (wjS t u s l (acc++W.map fun w=>jn s (r++[w])) a b' c' d e)):=by
 have loop:=zy7 (bnd:=zu2 7) (body:=ex (Ga Fs fuel m) wj_a6) id (fun done σ=>∃ b' c',(b'=vl (.list r)∨b'=ow (.list r))∧σ=wjS t u s l (acc++done.map fun w=>jn s (r++[w])) a b' c' d e) (L:=W) (σ:=wjS t u s l acc a b c d e) ⟨b,c,hb,by simp⟩ (by
  rintro done w rest σ el ⟨b',c',hb',rfl⟩
  have hw:=hW w (by exact mm el)
  have hd:(acc++done.map fun w=>jn s (r++[w])).length+1<size:=by rw [el] at hz; simp at hz ⊢; exact nad hz
  refine ⟨_,wjS t u s l ((acc++done.map fun w=>jn s (r++[w]))++[jn s (r++[w])]) a (vl (.list r)) (vl w) d e,rfl,?_,vl (.list r),vl w,.inl rfl,by simp⟩
  generalize acc++done.map (fun w=>jn s (r++[w]))=Z at hd
  rw [wj_a6,zz0 (σ':=wjS t u s l (Z++[jn s (r++[w])]) a (vl (.list r)) (vl w) d e)]
  ·rfl
  rcases hb' with rfl|rfl<;>simp [b_ad,zad1,↓mkL1,mkL_,↓zy2,hr,hw,hd])
 rw [List.map_id] at loop
 (refine elEAEEA (loop) fun σ' el b' c' _ e_5=>?_; subst e_5)
 exact ⟨b',c',el⟩
theorem wj_l9 {r W acc:List D} {a b c d:Option AV} (hr:r.length+1≤size) (hW:∀ w∈W,run Fs glo fuel m "joined" [.str s.str,.list (r++[w])]=some (jn s (r++[w]),false)) (hz:acc.length+W.length<size) :
  ∃ c',forN (zu2 7) (ex (Ga Fs fuel m) wj_a9) W (wjS t u s l acc a b c d (vl (.list r)))=some (.next (wjS t u s l (acc++W.map fun w=>jn s (r++[w])) a b c' d (vl (.list r)))):=by
 have loop:=zy7 (bnd:=zu2 7) (body:=ex (Ga Fs fuel m) wj_a9) id (fun done σ=>∃ c',σ=wjS t u s l (acc++done.map fun w=>jn s (r++[w])) a b c' d (vl (.list r))) (L:=W) (σ:=wjS t u s l acc a b c d (vl (.list r))) ⟨c,by simp⟩ (by
  rintro done w rest σ el ⟨c',rfl⟩
  have hw:=hW w (by exact mm el)
  have hd:(acc++done.map fun w=>jn s (r++[w])).length+1<size:=by rw [el] at hz; simp at hz ⊢; exact nad hz
  refine ⟨_,wjS t u s l ((acc++done.map fun w=>jn s (r++[w]))++[jn s (r++[w])]) a b (vl w) d (vl (.list r)),rfl,?_,vl w,by simp⟩
  generalize acc++done.map (fun w=>jn s (r++[w]))=Z at hd
  rw [wj_a9,zz0 (σ':=wjS t u s l (Z++[jn s (r++[w])]) a b (vl w) d (vl (.list r)))]
  ·rfl
  simp [b_ad,zad1,↓mkL1,mkL_,↓zy2,hr,hw,hd])
 rw [List.map_id] at loop
 (refine elEAE (loop) fun σ' el c' e_5=>?_; subst e_5)
 exact ⟨c',el⟩
theorem wj_s1 {k:Nat} {A:D→List D} {acc:List D} {b c d e:Option AV} (hk:k<l.length) (hl:l.length≤20) (hA:run Fs glo fuel m "steps" [enc t,enc u,l[k]]=some (.list (A l[k]),false)) (hW:∀ w∈A l[k],run Fs glo fuel m "joined" [.str s.str,.list (l.eraseIdx k++[w])]=some (jn s (l.eraseIdx k++[w]),false)) (hz:acc.length+(A l[k]).length<size) :
  ∃ b' c',ex (Ga Fs fuel m) wj_b1 (wjS t u s l acc (vl (.int k)) b c d e)=some (.next (wjS t u s l (acc++(A l[k]).map fun w=>jn s (l.eraseIdx k++[w])) (vl (.int k)) b' c' d e)):=by
 have hsz:size=16777216:=rfl
 have hsp:l=l.take k++l[k]::l.drop (k+1):=by rw [← List.drop_eq_getElem_cons hk,List.take_append_drop]
 have hpl:(l.take k).length=k:=by simp; exact Nat.min_eq_left (Nat.le_of_lt hk)
 have h1:zv0 l none (some (k:Int))=l.take k:=by
  have:=slice_pre (l.take k) (l[k]::l.drop (k+1)) (k:Int) (by rw [hpl])
  rwa [← hsp] at this
 have h2:zv0 l (some ((k:Int)+1)) none=l.drop (k+1):=by
  have:=slice_post (l.take k++[l[k]]) (l.drop (k+1)) ((k:Int)+1) (by rw [List.length_append,hpl]; simp)
  rwa [List.append_assoc,List.singleton_append,← hsp] at this
 have hidx:l[k]?=some l[k]:=List.getElem?_eq_getElem hk
 have hz1:(l.eraseIdx k).length+1≤size:=by rw [List.length_eraseIdx,if_pos hk]; exact qt (Nat.le_of_eq (Nat.sub_add_cancel (Nat.zero_lt_of_lt hk))) (qy hl)
 have hz2:(l.take k++l.drop (k+1)).length≤size:=by rw [← List.eraseIdx_eq_take_drop_succ]; exact qf hz1
 have hz3:k<4611686018427387904:=by exact qx (qt (Nat.le_of_lt hk) hl)
 have hz4:((k:Int)+1).natAbs<4611686018427387904:=by exact na63 (qt hk hl)
 have s1:ex (Ga Fs fuel m) wj_rest (wjS t u s l acc (vl (.int k)) b c d e)=some (.next (wjS t u s l acc (vl (.int k)) (ow (.list (l.eraseIdx k))) c d e)):=by
  rw [wj_rest,List.eraseIdx_eq_take_drop_succ]
  clear hsp hpl hz1
  generalize l.take k=P at *
  generalize l.drop (k+1)=Q at *
  rw [List.length_append] at hz2
  simp [zw9,bE_o,bE_v,bE_b,zsl1,bD_,h1,h2,hz3,hz4,↓b_add,b_ad,zad1,mkL_,kbe_,kbe2_,hz2]
 refine elEE (wj_l6 (Fs:=Fs) (fuel:=fuel) (t:=t) (u:=u) (s:=s) (l:=l) (m:=m) (r:=l.eraseIdx k) (W:=A l[k]) (acc:=acc) (a:=vl (.int k)) (c:=c) (d:=d) (e:=e) (.inr rfl) hz1 hW hz) fun b' c' el=>?_
 refine ⟨b',c',?_⟩
 rw [wj_b1,zz0 s1,zz0 (by
  rw [zz4,show srcE (ev (Ga Fs fuel m) (.call "steps" (.cons (.var 0) (.cons (.var 1) (.cons (.idx (.var 3) (.var 5)) .nil))))) (wjS t u s l acc (vl (.int k)) (ow (.list (l.eraseIdx k))) c d e)=some (A l[k],wjS t u s l acc (vl (.int k)) (ow (.list (l.eraseIdx k))) c d e) by simp [zix1,zit1,hidx,hz3,hA]]
  exact el)]
 rfl
noncomputable def wjP (q:List D×List D):Bool:=decide (1<q.1.length)&&!q.2.isEmpty
theorem bindT89 {q:List D×List D} {v0 v1 v2 v3 v4 v5 v6 v7 v8 v9:Option AV}:bindT [8,9] (prD q) [v0,v1,v2,v3,v4,v5,v6,v7,v8,v9]=some [v0,v1,v2,v3,v4,v5,v6,v7,vl (.list q.1),vl (.list q.2)]:=by
 simp [bT_,zat2,pa_n,pa_c,put]
theorem wj_s2 {q:List D×List D} {W acc:List D} {a b c:Option AV} (ok2:okd (.list q.2)=true) (hr:q.2.length+1≤size) (hj:wjP q=true→run Fs glo fuel m "joined" [.str s.str,.list q.1]=some (jn s q.1,false)) (ht:wjP q=true→run Fs glo fuel m "at_top" [enc t,enc u,jn s q.1]=some (.list W,true)) (hW:wjP q=true→∀ w∈W,run Fs glo fuel m "joined" [.str s.str,.list (q.2++[w])]=some (jn s (q.2++[w]),false)) (hz:acc.length+W.length<size) :
  ∃ c',ex (Ga Fs fuel m) wj_b2 (wjS t u s l acc a b c (vl (.list q.1)) (vl (.list q.2)))=some (.next (wjS t u s l (acc++if wjP q then W.map fun w=>jn s (q.2++[w]) else []) a b c' (vl (.list q.1)) (vl (.list q.2)))):=by
 have hcond:uno wj_if (ev (Ga Fs fuel m) wj_if) (wjS t u s l acc a b c (vl (.list q.1)) (vl (.list q.2)))=some (.bool (wjP q),wjS t u s l acc a b c (vl (.list q.1)) (vl (.list q.2))):=by
  rw [wj_if]
  by_cases h1:1<q.1.length
  ·have h1':(1:Int)<(q.1.length:Int):=by exact Int.ofNat_lt.mpr h1
   cases he:q.2.isEmpty<;>simp [c_gt,c_ne,eqD,↓mkL0,zr2,zle1,wjP,ok2,zs4,zt6,he,h1,h1']
  ·have h1':¬ (1:Int)<(q.1.length:Int):=by bv_omega
   simp [c_gt,zr2,zle1,wjP,h1,h1']
 cases hP:wjP q with
 | false =>
  refine ⟨c,?_⟩
  rw [wj_b2,zz0 (σ':=wjS t u s l acc a b c (vl (.list q.1)) (vl (.list q.2))) (by rw [zz6,hcond,hP]; rfl)]
  simp
 | true =>
  obtain ⟨c',el⟩:=wj_l9 (Fs:=Fs) (fuel:=fuel) (t:=t) (u:=u) (s:=s) (l:=l) (m:=m) (r:=q.2) (W:=W) (acc:=acc) (a:=a) (b:=b) (c:=c) (d:=vl (.list q.1)) hr (hW hP) hz
  refine ⟨c',?_⟩
  rw [wj_b2,zz0 (σ':=wjS t u s l (acc++W.map fun w=>jn s (q.2++[w])) a b c' (vl (.list q.1)) (vl (.list q.2))),if_pos rfl]
  ·rfl
  rw [zz6,hcond,hP]
  show ex _ (.cons _ .nil) _=_
  rw [zz0 (by
   rw [zz4,show srcE (ev (Ga Fs fuel m) wj_top) (wjS t u s l acc a b c (vl (.list q.1)) (vl (.list q.2)))=some (W,wjS t u s l acc a b c (vl (.list q.1)) (vl (.list q.2))) by rw [wj_top]; simp [↓zy2,zit1,hj hP,ht hP]]
   exact el)]
  rfl
end
theorem flat_len {α β:Type} {F:α→List β} {B:Nat}:∀ {L:List α},(∀ x∈L,(F x).length≤B)→(L.flatMap F).length≤L.length*B
 | [],_=>by simp
 | x::r,h=>by
  have a:=h x mh
  have b:=flat_len (L:=r) fun y hy=>h y (mt hy)
  rw [List.flatMap_cons,List.length_append,List.length_cons,Nat.add_mul]; exact qt (Nat.le_of_eq (Nat.add_comm ..)) (qa b (qt a (Nat.le_of_eq (Nat.one_mul _).symm)))
theorem flat_sum {α β:Type} (F:α→List β):∀ L:List α,(L.flatMap F).length=zx2 (fun x=>(F x).length) L
 | []=>rfl
 | x::r=>by rw [List.flatMap_cons,List.length_append,flat_sum F r]; rfl
theorem range_self (l:List D):(List.range l.length).map (fun i=>l[i]?.getD .none)=l:=by
 refine List.ext_getElem (by simp) fun i h1 h2=>?_
 simp [h2]
theorem erase_perm {l:List D} {i:Nat} (h:i<l.length):(l[i]::l.eraseIdx i).Perm l:=by
 rw [List.eraseIdx_eq_take_drop_succ]
 refine List.perm_middle.symm.trans (List.Perm.of_eq ?_)
 rw [← List.drop_eq_getElem_cons h,List.take_append_drop]
structure Jo (s:Sn) (l:List D):Prop where
 ns:s≠.pair
 can:Can 7 (.tuple (.str s.str::l))
 lv:lvL l≤4
theorem Jo.len {s:Sn} {l:List D} (J:Jo s l):l.length≤4:=Nat.le_trans (len_lv J.can.cons.1) J.lv
theorem Jo.new {s:Sn} {l:List D} (J:Jo s l) {x l':List D} (p:(x++l').Perm l) (hx:x≠[]) (hn:l'≠[]) {w:D} (hw:Can 7 w) (h12:Pl.lv w≤12):(∀ y∈l'++[w],Can 7 y)∧2≤(l'++[w]).length∧lvL (l'++[w])≤16:=by
 have hc:=J.can.cons.1
 have h1:=zm6 p
 have h4:=J.lv
 have:=List.length_pos_iff.mpr hn
 rw [zz8] at h1
 refine ⟨fun y hy=>?_,by simp; exact this,by rw [zz8]; simp only [lvL]; exact qt (qa (qt (qr (Nat.le_of_eq h1)) h4) h12) (by decide)⟩
 rcases List.mem_append.mp hy with q|q
 ·exact hc y (p.mem_iff.mp (List.mem_append_right _ q))
 ·simp at q; rw [q]; exact hw
theorem Jo.jn_cons {s:Sn} {l:List D} (J:Jo s l) {x l':List D} (p:(x++l').Perm l) (hx:x≠[]) (hn:l'≠[]) {w:D} (hw:Can 7 w) (h12:Pl.lv w≤12) {l2:List D} (p2:l2.Perm l'):jn s (l2++[w])=jn s (w::l'):=by
 refine jn_perm (k:=7) J.ns (fun y hy=>?_) (List.perm_append_comm.trans (p2.cons w))
 exact (J.new p hx hn hw h12).1 y (by simp at hy ⊢; exact hy.elim .inr .inl)
set_option tactic.hygienic true in
theorem run_within_join (H:Ht Fs) (hwj:Has Fs "within_join" ⟨3,10,zt8⟩) {m:Nat} {t u:Tm} {s:Sn} {l:List D} (J:Jo s l) {A:D→List D} {U:List D→List D}
  (hA:∀ x∈l,run Fs glo fuel (m+2) "steps" [enc t,enc u,x]=some (.list (A x),false)∧(∀ w∈A x,Can 7 w∧lv w≤12)∧(A x).length≤64)
  (hU:∀ a,a.Sublist l→2≤a.length→run Fs glo fuel (m+2) "at_top" [enc t,enc u,jn s a]=some (.list (U a),true)∧(∀ w,w∈U a↔Use t u (jn s a) w)∧(∀ w∈U a,Can 7 w∧lv w≤12)∧(U a).length≤64) :
  ∃ P:List D,run Fs glo fuel (m+3) "within_join" [enc t,enc u,.tuple (.str s.str::l)]=some (.list P,false)∧(∀ w,w∈P↔E1 s l A w∨E2 t u s l w) ∧
   ∀ g:List D→Nat,(∀ q∈zz9 [([],[])] l,wjP q=true→(U q.1).length≤g q.2)→P.length≤zx2 (fun x=>(A x).length) l+zx2 (fun q=>g q.2) (zz9 [([],[])] l):=by
 have hsz:size=16777216:=rfl
 have hc:=J.can.cons
 have hcj:=hc.2.2.2 J.ns
 have h4:=J.len
 refine elEA (run_choices (fuel:=fuel) H.choices (m+1) hc.1 (by bv_omega)) fun R eR SR=>?_
 have hRl:R.length≤16:=by
  have:=SR.len
  rw [zr9] at this
  have h2:2^l.length≤2^4:=Nat.pow_le_pow_right (by bv_omega) h4
  simp at this; exact qt this h2
 have hjn:∀ {xs:List D},(∀ x∈xs,Can 7 x)→lvL xs≤16→run Fs glo fuel (m+2) "joined" [.str s.str,.list xs]=some (jn s xs,false):=fun {xs} h1 h2 =>
  run_joinedM H.parts_in H.joined m s J.ns (by bv_omega) h1 (by have:=jn_len J.ns h1; exact qx (qt this.2 h2))
 have hone:∀ k (hk:k<l.length),∀ w∈A l[k],jn s (l.eraseIdx k++[w])=jn s (w::l.eraseIdx k)∧run Fs glo fuel (m+2) "joined" [.str s.str,.list (l.eraseIdx k++[w])]=some (jn s (l.eraseIdx k++[w]),false):=fun k hk w hw=>by
  have hp:([l[k]]++l.eraseIdx k).Perm l:=erase_perm hk
  have hne:l.eraseIdx k≠[]:=fun e=>by
   have:=hp.length_eq
   rw [e] at this; simp at this; exact absurd (this▸hc.2.1) (by decide)
  have cw:=(hA l[k] (List.getElem_mem hk)).2.1 w hw
  have:=J.new hp (List.cons_ne_nil _ _) hne cw.1 cw.2
  exact ⟨J.jn_cons hp (List.cons_ne_nil _ _) hne cw.1 cw.2 (.refl _),hjn this.1 this.2.2⟩
 have loop1:=zy7 (bnd:=zu2 5) (body:=ex (Ga Fs fuel (m+2)) wj_b1) (fun k:Nat=>PyData.int (0+(k:Int))) (fun done σ=>∃ a b c,σ=wjS t u s l (done.flatMap fun k=>(A (l[k]?.getD .none)).map fun w=>jn s (l.eraseIdx k++[w])) a b c none none) (L:=List.range l.length)
  (σ:=wjS t u s l [] none none none none none) ⟨_,_,_,rfl⟩ (by
   rintro done k rest σ e ⟨a,b,c,rfl⟩
   obtain ⟨ek,hk⟩:=range_at e
   have hlx:l[k]?.getD .none=l[k]:=by simp [hk]
   have hzz:(done.flatMap fun k=>(A (l[k]?.getD .none)).map fun w=>jn s (l.eraseIdx k++[w])).length≤done.length*64:=flat_len fun i hi=>by
    have hil:i<l.length:=List.mem_range.mp (by exact mml e hi)
    rw [List.length_map]
    simp only [List.getElem?_eq_getElem hil,Option.getD_some]
    exact (hA _ (List.getElem_mem hil)).2.2
   have:=(hA l[k] (List.getElem_mem hk)).2.2
   refine elEE (wj_s1 (Fs:=Fs) (fuel:=fuel) (t:=t) (u:=u) (s:=s) (l:=l) (m:=m+2) (k:=k) (A:=A) (b:=b) (c:=c) (d:=none) (e:=none) hk (by bv_omega) (hA _ (List.getElem_mem hk)).1 (fun w hw=>(hone k hk w hw).2) (acc:=done.flatMap fun k=>(A (l[k]?.getD .none)).map fun w=>jn s (l.eraseIdx k++[w])) (by exact qx (qa (qt hzz (Nat.mul_le_mul_right 64 (ek▸qt (Nat.le_of_lt hk) h4))) this))) fun b' c' es=>?_
   refine ⟨_,_,by rw [Int.zero_add]; rfl,es,vl (.int k),b',c',?_⟩
   rw [List.flatMap_append,List.flatMap_singleton,hlx])
 (refine elEAEEE (loop1) fun σ' el1 a1 b1 c1 e_5=>?_; subst e_5)
 generalize hP1:((List.range l.length).flatMap fun k=>(A (l[k]?.getD .none)).map fun w=>jn s (l.eraseIdx k++[w]))=P1 at el1
 have hl1:P1.length=zx2 (fun x=>(A x).length) l:=by
  rw [← hP1,flat_sum]
  simp only [List.length_map]
  rw [← sum_map (fun x=>(A x).length) (fun i:Nat=>l[i]?.getD .none),range_self]
 have hl1':P1.length≤4*64:=by
  rw [hl1]
  refine Nat.le_trans (sum_le (h:=fun _=>64) fun x hx=>(hA x hx).2.2) ?_
  rw [sum_const]; exact Nat.mul_le_mul_right 64 h4
 have hq:∀ q∈R,wjP q=true→q.1.Sublist l∧2≤q.1.length∧q.1≠[]∧q.2≠[]∧(q.1++q.2).Perm l:=fun q hq hP=>by
  refine elAA (sp_mem (SR.mem q hq)) fun h1 h2 h3=>?_
  simp only [wjP,Bool.and_eq_true,decide_eq_true_eq,Bool.not_eq_true'] at hP
  exact ⟨h1,hP.1,fun e=>by rw [e] at hP; simp at hP,fun e=>by rw [e] at hP; simp at hP,h3⟩
 have loop2:=zy7 (bnd:=bindT [8,9]) (body:=ex (Ga Fs fuel (m+2)) wj_b2) prD (fun done σ=>∃ c d e,σ=wjS t u s l (P1++done.flatMap fun q=>if wjP q then (U q.1).map fun w=>jn s (q.2++[w]) else []) a1 b1 c d e) (L:=R)
  (σ:=wjS t u s l P1 a1 b1 c1 none none) ⟨_,_,_,by rw [List.flatMap_nil,List.append_nil]⟩ (by
   rintro done q rest σ e ⟨c,d,f,rfl⟩
   have hqR:q∈R:=by exact mm e
   have hdl:done.length+1≤R.length:=by exact lm1 e
   have hs:=sp_mem (SR.mem q hqR)
   have hzz:(done.flatMap fun q=>if wjP q then (U q.1).map fun w=>jn s (q.2++[w]) else []).length≤done.length*64:=flat_len fun q' hq'=>by
    split
    ·rename_i hP
     have:=hq q' (by exact mml e hq') hP
     rw [List.length_map]; exact (hU q'.1 this.1 this.2.1).2.2.2
    ·simp
   by_cases hP:wjP q=true
   ·obtain ⟨h1,h2,h3,h5,h6⟩:=hq q hqR hP
    obtain ⟨u1,u2,u3,u4⟩:=hU q.1 h1 h2
    have hcq:∀ x∈q.1,Can 7 x:=fun x hx=>hc.1 x (h1.subset hx)
    refine elE (wj_s2 (Fs:=Fs) (fuel:=fuel) (t:=t) (u:=u) (s:=s) (l:=l) (m:=m+2) (q:=q) (W:=U q.1) (a:=a1) (b:=b1) (c:=c) (zi0 (fun x hx=>hc.1 x (hs.2.1.subset hx)) (by bv_omega:7≤100)) (by have:=hs.2.1.length_le; exact qy (Nat.succ_le_succ (qt this h4))) (fun _=>hjn hcq (by have:=zn3 h1; have:=J.lv; exact qy (qt ‹_› this))) (fun _=>u1) (fun _ w hw=>by
      have:=J.new h6 h3 h5 (u3 w hw).1 (u3 w hw).2
      exact hjn this.1 this.2.2) (acc:=P1++done.flatMap fun q=>if wjP q then (U q.1).map fun w=>jn s (q.2++[w]) else []) (by rw [List.length_append]; exact nst hRl hl1' hdl hzz u4)) fun c' es=>?_
    exact ⟨_,_,bindT89,es,c',vl (.list q.1),vl (.list q.2),by rw [List.flatMap_append,List.flatMap_singleton,List.append_assoc]⟩
   ·refine elE (wj_s2 (Fs:=Fs) (fuel:=fuel) (t:=t) (u:=u) (s:=s) (l:=l) (m:=m+2) (q:=q) (W:=[]) (a:=a1) (b:=b1) (c:=c) (zi0 (fun x hx=>hc.1 x (hs.2.1.subset hx)) (by bv_omega:7≤100)) (by have:=hs.2.1.length_le; bv_omega) (fun h=>absurd h hP) (fun h=>absurd h hP) (fun h=>absurd h hP) (acc:=P1++done.flatMap fun q=>if wjP q then (U q.1).map fun w=>jn s (q.2++[w]) else []) (by rw [List.length_append,List.length_nil]; exact nst (u:=0) hRl hl1' hdl hzz (by decide))) fun c' es=>?_
    refine ⟨_,_,bindT89,es,c',vl (.list q.1),vl (.list q.2),?_⟩
    rw [List.flatMap_append,List.flatMap_singleton,← List.append_assoc,if_neg hP,if_neg hP])
 (refine elEAEEE (loop2) fun σ' el2 c2 d2 f2 e_5=>?_; subst e_5)
 refine ⟨P1++R.flatMap fun q=>if wjP q then (U q.1).map fun w=>jn s (q.2++[w]) else [],zz7 hwj rfl ?_,fun w=>?_,fun g hg=>?_⟩
 ·have hr:(1:Int)≤(l.length:Int)+1:=by exact Int.le_add_of_nonneg_left (Int.natCast_nonneg _)
  have hs1:zy9 (l.length:Int)=true:=by simp only [zy9,decide_eq_true_eq]; exact na62 h4
  have hs2:l.length≤size:=by exact qy h4
  have eR':run Fs glo fuel (m+2) "choices" [.list l]=some (.list (R.map prD),true):=eR
  show ex (Ga Fs fuel (m+2)) zt8 [vl (enc t),vl (enc u),vl (.tuple (.str s.str::l)),none,none,none,none,none,none,none]=_
  rw [zt8,zz0 (σ':=[vl (enc t),vl (enc u),vl (.tuple (.str s.str::l)),ow (.list l),none,none,none,none,none,none]) (by simp [zw9,p_lst,zse2,bE_o,bE_c,zsl2,bD_,orS,hr]),
   zz0 (σ':=[vl (enc t),vl (enc u),vl (.tuple (.str s.str::l)),ow (.list l),ow (.list []),none,none,none,none,none]) (by simp [↓mkL0]),
   zz0 (by
    rw [zz4,show srcE (ev (Ga Fs fuel (m+2)) (.rng1 (.prim1 .len (.var 3)))) [vl (enc t),vl (enc u),vl (.tuple (.str s.str::l)),ow (.list l),ow (.list []),none,none,none,none,none]=some ((List.range l.length).map fun k:Nat=>PyData.int (0+(k:Int)),wjS t u s l [] none none none none none) by
     simp [zr2,zle1,zai,zit1,hs1,hs2,zs9]]
    exact el1),
   zz0 (by
    rw [zo8,show srcE (ev (Ga Fs fuel (m+2)) (.call "choices" (.cons (.var 3) .nil))) (wjS t u s l P1 a1 b1 c1 none none)=some (R.map prD,wjS t u s l P1 a1 b1 c1 none none) by simp [zit1,eR']]
    exact el2)]
  exact zy0 rfl
 ·rw [List.mem_append]
  refine or_congr ⟨fun h=>?_,fun h=>?_⟩ ⟨fun h=>?_,fun h=>?_⟩
  ·rw [← hP1] at h
   refine elEA (List.mem_flatMap.mp h) fun k hk hw=>?_
   have hk:=List.mem_range.mp hk
   simp only [List.getElem?_eq_getElem hk,Option.getD_some] at hw
   (refine elEA (List.mem_map.mp hw) fun w' hw' e=>?_; subst e)
   exact ⟨l[k],l.eraseIdx k,w',erase_perm hk,hw',(hone k hk w' hw').1⟩
  ·refine elEEEAA h fun x l' w' h1 h2 h3=>?_
   obtain ⟨k,hk,rfl⟩:=List.getElem_of_mem (h1.mem_iff.mp mh:x∈l)
   have cw:=(hA l[k] (List.getElem_mem hk)).2.1 w' h2
   rw [← hP1]
   refine List.mem_flatMap.mpr ⟨k,List.mem_range.mpr hk,?_⟩
   simp only [List.getElem?_eq_getElem hk,Option.getD_some]
   refine List.mem_map.mpr ⟨w',h2,?_⟩
   rw [h3]
   exact J.jn_cons (x:=[l[k]]) h1 (List.cons_ne_nil _ _) (fun e=>by
    have:=h1.length_eq
    rw [e] at this; simp at this; exact absurd (this▸hc.2.1) (by decide)) cw.1 cw.2 (List.Perm.cons_inv ((erase_perm hk).trans h1.symm))
  ·refine elEA (List.mem_flatMap.mp h) fun q hqR hw=>?_
   split at hw
   ·rename_i hP
    obtain ⟨h1,h2,h3,h5,h6⟩:=hq q hqR hP
    obtain ⟨u1,u2,u3,u4⟩:=hU q.1 h1 h2
    (refine elEA (List.mem_map.mp hw) fun w' hw' e=>?_; subst e)
    exact ⟨q.1,q.2,w',h6,h2,h5,(u2 w').mp hw',J.jn_cons h6 h3 h5 (u3 w' hw').1 (u3 w' hw').2 (.refl _)⟩
   ·cases hw
  ·refine elEEEAA h fun a l' w' h1 h2 h3=>?_
   refine elAA h3 fun h3 h5 h6=>?_
   refine elEEAA (zs7 l [([],[])] ([],[]) mh h1) fun t1 l1 hm p1 p2=>?_
   refine elEA (SR.all _ hm) fun q hqR e=>?_
   simp only [List.nil_append] at e
   refine elAA (sp_mem (SR.mem q hqR)) fun s1 s2 s3=>?_
   rw [e] at s1 s3
   have hq2:q.2.Perm l':=(List.perm_append_left_iff t1).mp (s3.trans (h1.symm.trans (p1.symm.append_right l')))
   have hl2:2≤t1.length:=by rw [p1.length_eq]; exact h2
   have hP:wjP q=true:=by
    simp only [wjP,e,Bool.and_eq_true,decide_eq_true_eq,Bool.not_eq_true']
    refine ⟨hl2,?_⟩
    cases hq':q.2 with
    | nil=>rw [hq'] at hq2; exact absurd (List.nil_perm.mp hq2) h3
    | cons _ _=>rfl
   have ej:jn s t1=jn s a:=jn_perm (k:=7) J.ns (fun x hx=>hc.1 x (h1.mem_iff.mp (List.mem_append_left _ hx))) p1
   obtain ⟨u1,u2,u3,u4⟩:=hU t1 s1 hl2
   have hw':=(u2 w').mpr (by rw [ej]; exact h5)
   refine List.mem_flatMap.mpr ⟨q,hqR,?_⟩
   rw [if_pos hP,e]
   refine List.mem_map.mpr ⟨w',hw',?_⟩
   rw [h6]
   exact J.jn_cons h1 (fun e=>by rw [e] at h2; simp at h2) h3 (u3 w' hw').1 (u3 w' hw').2 hq2
 ·rw [List.length_append,hl1,flat_sum]
  refine Nat.add_le_add_left (Nat.le_trans (sum_le (h:=fun q=>g q.2) fun q hqR=>?_) (SR.sum g)) _
  split
  ·rename_i hP; rw [List.length_map]; exact hg q (SR.mem q hqR) hP
  ·exact Nat.zero_le _
end Pl
end
section
namespace Pl
open Mini PySem
variable {Fs:Fns} {fuel:Nat}
noncomputable def lo_elt:I:=(.call "_law_joined" (.cons (.idx (.var 2) (.cint 0)) (.cons (.bin .Add (.lst (.cons (.var 6) .nil)) (.idx (.var 4) (.cint 1))) .nil)))
noncomputable def lo_cat:I:=(.asg 3 (.bin .Add (.var 3) (.comp1 lo_elt (.var 5) .omit)))
noncomputable def lo_c1:I:=(.cmp .Eq (.prim1 .len (.idx (.var 4) (.cint 0))) (.cint 1))
noncomputable def lo_c2:I:=(.cmp .NotEq (.idx (.var 4) (.cint 1)) (.lst .nil))
noncomputable def lo_r1:I:=(.asg 5 (.call "_law_ones" (.cons (.var 0) (.cons (.var 1) (.cons (.idx (.idx (.var 4) (.cint 0)) (.cint 0)) .nil)))))
noncomputable def lo_r2:I:=(.asg 5 (.call "_law_uses" (.cons (.var 0) (.cons (.var 1) (.cons (.call "_law_joined" (.cons (.idx (.var 2) (.cint 0)) (.cons (.idx (.var 4) (.cint 0)) .nil))) .nil)))))
noncomputable def lo_if:I:=(.iff lo_c1 (.cons lo_r1 .nil) (.cons (.iff lo_c2 (.cons lo_r2 .nil) .nil) .nil))
noncomputable def lo_body:I:=(.cons (.asg 5 (.lst .nil)) (.cons lo_if (.cons lo_cat .nil)))
noncomputable abbrev loS (ru N:D) (s:Sn) (l acc:List D) (a b:Option AV):Mini.Sg:=[vl ru,vl N,vl (.tuple (.str s.str::l)),ow (.list acc),a,b]
section
variable {ru N:D} {s:Sn} {l:List D} {m:Nat}
theorem lo_cat_step {q:List D×List D} {Z acc:List D} {b:Option AV} (hb:b=vl (.list Z)∨b=ow (.list Z)) (hr:q.2.length+1≤size) (hZ:∀ w∈Z,run Fs glo fuel m "_law_joined" [.str s.str,.list (w::q.2)]=some (jn s (w::q.2),false)) (hz:acc.length+Z.length≤size) :
  ex (Ga Fs fuel m) lo_cat (loS ru N s l acc (vl (prD q)) b)=some (.next (loS ru N s l (acc++Z.map fun w=>jn s (w::q.2)) (vl (prD q)) (vl (.list Z)))):=by
 have hr':1+q.2.length≤size:=by bv_omega
 have hcomp:=zt2 (n:=6) (bc:=bc1) (cond:=zp5 .omit (ev (Ga Fs fuel m) .omit)) (elt:=ev (Ga Fs fuel m) lo_elt) (σ:=[vl ru,vl N,vl (.tuple (.str s.str::l)),vl (.list acc),vl (prD q),vl (.list Z)])
  (c:=fun _=>true) (F:=fun w=>jn s (w::q.2)) rfl (ds:=Z) fun w hw=>by
   refine ⟨[w],rfl,rfl,fun _=>⟨false,?_⟩⟩
   rw [lo_elt]; simp [b_ad,zad1,↓mkL1,mkL_,↓zy2,↓zr8,hr,hr',hZ w hw]
 rw [List.filter_eq_self.mpr (by simp)] at hcomp
 have hev:ev (Ga Fs fuel m) (.comp1 lo_elt (.var 5) .omit) [vl ru,vl N,vl (.tuple (.str s.str::l)),vl (.list acc),vl (prD q),b]=some (.list (Z.map fun w=>jn s (w::q.2)),true,[vl ru,vl N,vl (.tuple (.str s.str::l)),vl (.list acc),vl (prD q),vl (.list Z)]):=by
  rw [zv7,show srcE (ev (Ga Fs fuel m) (.var 5)) [vl ru,vl N,vl (.tuple (.str s.str::l)),vl (.list acc),vl (prD q),b]=some (Z,[vl ru,vl N,vl (.tuple (.str s.str::l)),vl (.list acc),vl (prD q),vl (.list Z)]) by rcases hb with rfl|rfl<;>rfl]
  show ((zi9 6 _ _ _ _).bind _)=_
  rw [zr6,hcomp]
  simp only [Option.bind_some,mkL]
  rw [if_pos (by rw [List.length_map]; exact qr hz)]
  rfl
 have hu:ev (Ga Fs fuel m) (.var 3) (loS ru N s l acc (vl (prD q)) b)=some (.list acc,false,[vl ru,vl N,vl (.tuple (.str s.str::l)),vl (.list acc),vl (prD q),b]):=rfl
 rw [lo_cat,zk3,eq_ev_bin]
 simp only [duo,o_var,o_comp1,kdat_,hu,hev,Option.bind_some,res,b_ad,zad1,mkL]
 rw [if_pos (by rw [List.length_append,List.length_map]; exact hz)]
 rfl
theorem lo_step {q:List D×List D} {Z acc:List D} {b:Option AV} (o2:okd (.list q.2)=true) (hr:q.2.length+1≤size)
  (h1:∀ x,q.1=[x]→∃ f,run Fs glo fuel m "_law_ones" [ru,N,x]=some (.list Z,f)) (h2:q.1.length≠1→q.2≠[]→run Fs glo fuel m "_law_joined" [.str s.str,.list q.1]=some (jn s q.1,false)∧run Fs glo fuel m "_law_uses" [ru,N,jn s q.1]=some (.list Z,true)) (h3:q.1.length≠1→q.2=[]→Z=[])
  (hZ:∀ w∈Z,run Fs glo fuel m "_law_joined" [.str s.str,.list (w::q.2)]=some (jn s (w::q.2),false)) (hz:acc.length+Z.length≤size) :
  ex (Ga Fs fuel m) lo_body (loS ru N s l acc (vl (prD q)) b)=some (.next (loS ru N s l (acc++Z.map fun w=>jn s (w::q.2)) (vl (prD q)) (vl (.list Z)))):=by
 have key:∃ b',(b'=vl (.list Z)∨b'=ow (.list Z))∧ex (Ga Fs fuel m) lo_if (loS ru N s l acc (vl (prD q)) (ow (.list [])))=some (.next (loS ru N s l acc (vl (prD q)) b')):=by
  have hc1:uno lo_c1 (ev (Ga Fs fuel m) lo_c1) (loS ru N s l acc (vl (prD q)) (ow (.list [])))=some (.bool ((q.1.length:Int)==1),loS ru N s l acc (vl (prD q)) (ow (.list []))):=by
   rw [lo_c1]; simp [c_eq,eqD,zr2,zle1,↓zy2,zw0,zr1]
  by_cases e1:q.1.length=1
  ·obtain ⟨x,hx⟩:=List.length_eq_one_iff.mp e1
   obtain ⟨f,hf⟩:=h1 x hx
   have e1':((q.1.length:Int)==1)=true:=by rw [e1]; rfl
   have hr1:ex (Ga Fs fuel m) lo_r1 (loS ru N s l acc (vl (prD q)) (ow (.list [])))=some (.next (loS ru N s l acc (vl (prD q)) (if f then ow (.list Z) else vl (.list Z)))):=by
    rw [lo_r1]
    cases f<;>simp [↓zy2,hx,↓ix_l0,hf]
   refine ⟨if f then ow (.list Z) else vl (.list Z),by cases f<;>simp,?_⟩
   rw [lo_if,zz6,hc1,e1']
   show ex _ (.cons lo_r1 .nil) _=_
   rw [zz0 hr1]; rfl
  ·have e1':((q.1.length:Int)==1)=false:=by simpa using (by bv_omega:¬ (q.1.length:Int)=1)
   have hc2:uno lo_c2 (ev (Ga Fs fuel m) lo_c2) (loS ru N s l acc (vl (prD q)) (ow (.list [])))=some (.bool (!q.2.isEmpty),loS ru N s l acc (vl (prD q)) (ow (.list []))):=by
    rw [lo_c2]; cases he:q.2.isEmpty<;>simp [c_ne,eqD,↓mkL0,↓zr8,o2,zs4,zt6,he]
   by_cases e2:q.2=[]
   ·rw [h3 e1 e2]
    refine ⟨ow (.list []),.inr rfl,?_⟩
    rw [lo_if,zz6,hc1,e1']
    show ex _ (.cons _ .nil) _=_
    rw [zz0 (σ':=loS ru N s l acc (vl (prD q)) (ow (.list []))) (by rw [zz6,hc2,e2]; rfl)]; rfl
   ·have e2':(!q.2.isEmpty)=true:=by simpa using e2
    have hr2:ex (Ga Fs fuel m) lo_r2 (loS ru N s l acc (vl (prD q)) (ow (.list [])))=some (.next (loS ru N s l acc (vl (prD q)) (ow (.list Z)))):=by
     rw [lo_r2]
     simp [↓zy2,h2 e1 e2]
    refine ⟨ow (.list Z),.inr rfl,?_⟩
    rw [lo_if,zz6,hc1,e1']
    show ex _ (.cons _ .nil) _=_
    rw [zz0 (σ':=loS ru N s l acc (vl (prD q)) (ow (.list Z)))]
    ·rfl
    rw [zz6,hc2,e2']
    show ex _ (.cons lo_r2 .nil) _=_
    rw [zz0 hr2]; rfl
 obtain ⟨b',hb',ek⟩:=key
 rw [lo_body,zz0 (σ':=loS ru N s l acc (vl (prD q)) (ow (.list []))) (by simp [↓mkL0]),zz0 ek,zz0 (lo_cat_step hb' hr hZ hz)]
 rfl
end
theorem Jo.jn_same {s:Sn} {l:List D} (J:Jo s l) {x l':List D} (p:(x++l').Perm l) (hx:x≠[]) (hn:l'≠[]) {w:D} (hw:Can 7 w) (h12:Pl.lv w≤12) {l2:List D} (p2:l2.Perm l'):jn s (w::l2)=jn s (w::l') :=
 jn_perm (k:=7) J.ns (fun y hy=>(J.new p hx hn hw h12).1 y (by simp at hy ⊢; exact hy.elim .inr .inl)) (p2.cons w)
noncomputable def loZ (B:D→List D) (U:List D→List D) (q:List D×List D):List D:=match q.1 with
 | [x]=>B x
 | _=>if q.2=[] then [] else U q.1
theorem law_join (G:Hu Fs) {n:Nat} {ru N:D} {t u:Tm} {s:Sn} {l:List D} (J:Jo s l) {M:Nat} {B:D→List D} {U:List D→List D} (hM:M≤1000000)
  (hB:∀ x∈l,(∃ f,run Fs glo fuel (n+1) "_law_ones" [ru,N,x]=some (.list (B x),f))∧(∀ w∈B x,Can 7 w∧lv w≤12)∧(B x).length≤M)
  (hU:∀ a,a.Sublist l→2≤a.length→run Fs glo fuel (n+1) "_law_uses" [ru,N,jn s a]=some (.list (U a),true)∧(∀ w,w∈U a↔Use t u (jn s a) w)∧(∀ w∈U a,Can 7 w∧lv w≤12)∧(U a).length≤M) {acc:List D} (ha:acc.length≤1000) :
  ∃ (C:List (List D×List D)) (P:List D) (a b:Option AV),run Fs glo fuel (n+1) "_law_choices" [.tuple l]=some (.list (C.map prD),true)∧forN (zu2 4) (ex (Ga Fs fuel (n+1)) lo_body) (C.map prD) (loS ru N s l acc none none)=some (.next (loS ru N s l (acc++P) a b))∧(∀ w,w∈P↔E1 s l B w∨E2 t u s l w)∧P.length≤16*M:=by
 have hsz:size=16777216:=rfl
 have hc:=J.can.cons
 have h4:=J.len
 have hlv:=J.lv
 refine elEAA (zj9 (fuel:=fuel) G.lchoices n hc.1 (by exact qy h4)) fun C eC hCl hC=>?_
 have hC16:C.length≤16:=Nat.le_trans hCl (Nat.pow_le_pow_right (n:=2) (by bv_omega) h4)
 have hq:∀ q∈C,q.1.Sublist l∧q.2.Sublist l∧q.1≠[]∧(q.1++q.2).Perm l∧((∃ x∈l,q.1=[x]∧loZ B U q=B x∧q.2≠[])∨(2≤q.1.length∧(q.2=[]∧loZ B U q=[]∨q.2≠[]∧loZ B U q=U q.1))):=fun q hqC=>by
  obtain ⟨h1,h2⟩:=(hC q).mp hqC
  refine elAA (sp_mem h1) fun s1 s2 s3=>?_
  refine ⟨s1,s2,h2,s3,?_⟩
  match e:q.1 with
  | []=>exact absurd e h2
  | [x] =>
   refine .inl ⟨x,s1.subset (by rw [e]; simp),rfl,by simp only [loZ,e],fun e2=>?_⟩
   have:=s3.length_eq
   rw [e,e2] at this; simp at this; exact absurd (this▸hc.2.1) (by decide)
  | x::y::r =>
   refine .inr ⟨by simp,?_⟩
   by_cases e2:q.2=[]
   ·exact .inl ⟨e2,by simp only [loZ,e,e2,if_true]⟩
   ·exact .inr ⟨e2,by simp only [loZ,e,e2,if_false]⟩
 have hZ:∀ q∈C,(loZ B U q).length≤M∧∀ w∈loZ B U q,q.2≠[]∧Can 7 w∧lv w≤12:=fun q hqC=>by
  obtain ⟨s1,s2,h2,s3,h⟩:=hq q hqC
  rcases h with ⟨x,hx,e,ez,hn⟩|⟨h5,⟨e2,ez⟩|⟨e2,ez⟩⟩<;>rw [ez]
  ·exact ⟨(hB x hx).2.2,fun w hw=>⟨hn,(hB x hx).2.1 w hw⟩⟩
  ·exact ⟨Nat.zero_le _,fun w hw=>by cases hw⟩
  ·exact ⟨(hU q.1 s1 h5).2.2.2,fun w hw=>⟨e2,(hU q.1 s1 h5).2.2.1 w hw⟩⟩
 have hflat:∀ D1:List (List D×List D),(∀ q∈D1,q∈C)→(D1.flatMap fun q=>(loZ B U q).map fun w=>jn s (w::q.2)).length≤D1.length*M:=fun D1 h=>flat_len fun q hqD=>by
  rw [List.length_map]; exact (hZ q (h q hqD)).1
 have loop:=zy7 (bnd:=zu2 4) (body:=ex (Ga Fs fuel (n+1)) lo_body) prD (fun done σ=>∃ a b,σ=loS ru N s l (acc++done.flatMap fun q=>(loZ B U q).map fun w=>jn s (w::q.2)) a b) (L:=C)
  (σ:=loS ru N s l acc none none) ⟨_,_,by rw [List.flatMap_nil,List.append_nil]⟩ (by
   rintro done q rest σ e ⟨a,b,rfl⟩
   have hqC:q∈C:=by exact mm e
   have hdl:done.length+1≤C.length:=by exact lm1 e
   obtain ⟨s1,s2,h2,s3,h⟩:=hq q hqC
   have hfl:=hflat done fun q hq=>by exact mml e hq
   have hdm:done.length*M≤15*M:=Nat.mul_le_mul_right _ (by exact Nat.le_of_succ_le_succ (qt hdl hC16))
   have hzl:=hZ q hqC
   have hq2:=s2.length_le
   refine ⟨_,_,rfl,lo_step (Z:=loZ B U q) (zi0 (fun x hx=>hc.1 x (s2.subset hx)) (by bv_omega:7≤100)) (by exact qy (Nat.succ_le_succ (qt hq2 h4))) (fun x hx=>?_) (fun n1 n2=>?_) (fun n1 n2=>?_) (fun w hw=>?_) (by rw [List.length_append]; exact qy (qa (qa ha (qt hfl (qt hdm (Nat.mul_le_mul_left 15 hM)))) (qt hzl.1 hM))),vl (prD q),vl (.list (loZ B U q)),by rw [List.flatMap_append,List.flatMap_singleton,List.append_assoc]⟩
   ·rcases h with ⟨y,hy,e1,ez,_⟩|⟨h5,_⟩
    ·rw [hx] at e1; simp at e1; subst e1; rw [ez]; exact (hB x hy).1
    ·rw [hx] at h5; simp at h5
   ·rcases h with ⟨y,hy,e1,ez,_⟩|⟨h5,⟨e2,ez⟩|⟨e2,ez⟩⟩
    ·rw [e1] at n1; simp at n1
    ·exact absurd e2 n2
    ·rw [ez]
     exact ⟨run_law_jn G.ljoined n s J.ns (k:=7) (by bv_omega) (fun x hx=>hc.1 x (s1.subset hx)) h5 (by have:=zn3 s1; exact qx (qt this hlv)),(hU q.1 s1 h5).1⟩
   ·rcases h with ⟨y,hy,e1,ez,_⟩|⟨h5,⟨e2,ez⟩|⟨e2,ez⟩⟩
    ·rw [e1] at n1; simp at n1
    ·exact ez
    ·exact absurd n2 e2
   ·obtain ⟨hn,cw,lw⟩:=hzl.2 w hw
    have:=J.new s3 h2 hn cw lw
    exact run_law_jn G.ljoined n s J.ns (k:=7) (by bv_omega) (fun y hy=>this.1 y (by simp at hy ⊢; exact hy.elim .inr .inl)) (by have:=List.length_pos_iff.mpr hn; simp; exact this) (by have:=this.2.2; rw [zz8] at this; simp only [lvL] at this ⊢; exact qx (qt (Nat.le_of_eq (Nat.add_comm ..)) this)))
 (refine elEAEE (loop) fun σ' el a b e_5=>?_; subst e_5)
 refine ⟨C,C.flatMap fun q=>(loZ B U q).map fun w=>jn s (w::q.2),a,b,eC,el,fun w=>?_,Nat.le_trans (hflat C fun q h=>h) (Nat.mul_le_mul_right _ hC16)⟩
 simp only [List.mem_flatMap,List.mem_map]
 constructor
 ·rintro ⟨q,hqC,w',hw',rfl⟩
  obtain ⟨s1,s2,h2,s3,h⟩:=hq q hqC
  rcases h with ⟨x,hx,e,ez,hn⟩|⟨h5,⟨e2,ez⟩|⟨e2,ez⟩⟩<;>rw [ez] at hw'
  ·rw [e] at s3; exact .inl ⟨x,q.2,w',s3,hw',rfl⟩
  ·cases hw'
  ·exact .inr ⟨q.1,q.2,w',s3,h5,e2,((hU q.1 s1 h5).2.1 w').mp hw',rfl⟩
 ·rintro (⟨x,l',w',h1,h2,rfl⟩|⟨a',l',w',h1,h2,h3,h5,rfl⟩)
  ·refine elEEAA (zs7 l [([],[])] ([],[]) mh (a:=[x]) (b:=l') h1) fun t1 l1 hm p1 p2=>?_
   simp only [List.nil_append] at hm
   have ht1:=List.perm_singleton.mp p1
   subst ht1
   have hx:x∈l:=h1.mem_iff.mp mh
   have cw:=(hB x hx).2.1 w' h2
   have hn:l'≠[]:=fun e=>by have:=h1.length_eq; rw [e] at this; simp at this; exact absurd (this▸hc.2.1) (by decide)
   exact ⟨([x],l1),(hC _).mpr ⟨hm,by simp⟩,w',h2,J.jn_same (x:=[x]) h1 (List.cons_ne_nil _ _) hn cw.1 cw.2 p2⟩
  ·refine elEEAA (zs7 l [([],[])] ([],[]) mh h1) fun t1 l1 hm p1 p2=>?_
   simp only [List.nil_append] at hm
   have hl2:2≤t1.length:=by rw [p1.length_eq]; exact h2
   have hne:t1≠[]:=fun e=>by rw [e] at hl2; simp at hl2
   have ht:(t1,l1)∈C:=(hC _).mpr ⟨hm,hne⟩
   have hl1:l1≠[]:=fun e=>by rw [e] at p2; exact h3 (List.nil_perm.mp p2)
   have s1:=(hq _ ht).1
   have ej:jn s t1=jn s a':=jn_perm (k:=7) J.ns (fun x hx=>hc.1 x (h1.mem_iff.mp (List.mem_append_left _ hx))) p1
   have hw':=((hU t1 s1 hl2).2.1 w').mpr (by rw [ej]; exact h5)
   have cw:=(hU t1 s1 hl2).2.2.1 w' hw'
   refine ⟨(t1,l1),ht,w',?_,J.jn_same h1 (fun e=>by rw [e] at h2; simp at h2) h3 cw.1 cw.2 p2⟩
   rcases (hq _ ht).2.2.2.2 with ⟨x,_,e,_⟩|⟨_,⟨e2,_⟩|⟨_,ez⟩⟩
   ·have e:t1=[x]:=e; rw [e] at hl2; simp at hl2
   ·exact absurd e2 hl1
   ·rw [ez]; exact hw'
end Pl
end
section
namespace Pl
open Mini PySem
variable {Fs:Fns} {fuel:Nat}
noncomputable def st_j:I:=(.iff (.cmp .In (.idx (.var 2) (.cint 0)) (.glob "JOINS")) (.cons (.ext 3 (.call "within_join" (.cons (.var 0) (.cons (.var 1) (.cons (.var 2) .nil))))) .nil) .nil)
noncomputable def st_1:I:=(.cons (.app 3 (.tup (.cons (.cstr "pair") (.cons (.var 4) (.cons (.idx (.var 2) (.cint 2)) .nil))))) .nil)
noncomputable def st_2:I:=(.cons (.app 3 (.tup (.cons (.cstr "pair") (.cons (.idx (.var 2) (.cint 1)) (.cons (.var 4) .nil))))) .nil)
noncomputable def st_l:I:=(.cons (.for1 4 (.call "steps" (.cons (.var 0) (.cons (.var 1) (.cons (.idx (.var 2) (.cint 1)) .nil)))) st_1) (.cons (.for1 4 (.call "steps" (.cons (.var 0) (.cons (.var 1) (.cons (.idx (.var 2) (.cint 2)) .nil)))) st_2) .nil))
noncomputable def st_p:I:=(.iff (.cmp .Eq (.idx (.var 2) (.cint 0)) (.cstr "pair")) st_l .nil)
noncomputable def zr4:I:=(.cons (.asg 3 (.call "at_top" (.cons (.var 0) (.cons (.var 1) (.cons (.var 2) .nil))))) (.cons st_j (.cons st_p (.cons (.ret (.var 3)) .nil))))
noncomputable def on_1:I:=(.tup (.cons (.cstr "pair") (.cons (.var 6) (.cons (.idx (.var 2) (.cint 2)) .nil))))
noncomputable def on_2:I:=(.tup (.cons (.cstr "pair") (.cons (.idx (.var 2) (.cint 1)) (.cons (.var 6) .nil))))
noncomputable def on_c1:I:=(.comp1 on_1 (.call "_law_ones" (.cons (.var 0) (.cons (.var 1) (.cons (.idx (.var 2) (.cint 1)) .nil)))) .omit)
noncomputable def on_c2:I:=(.comp1 on_2 (.call "_law_ones" (.cons (.var 0) (.cons (.var 1) (.cons (.idx (.var 2) (.cint 2)) .nil)))) .omit)
noncomputable def on_p:I:=(.iff (.cmp .Eq (.idx (.var 2) (.cint 0)) (.cstr "pair")) (.cons (.asg 3 (.bin .Add (.var 3) on_c1)) (.cons (.asg 3 (.bin .Add (.var 3) on_c2)) .nil)) .nil)
noncomputable def on_j:I:=(.iff (.or (.cons (.cmp .Eq (.idx (.var 2) (.cint 0)) (.cstr "sum")) (.cons (.cmp .Eq (.idx (.var 2) (.cint 0)) (.cstr "mul")) .nil))) (.cons (.for1 4 (.call "_law_choices" (.cons (.slc (.var 2) (.cint 1) .omit) .nil)) lo_body) .nil) .nil)
noncomputable def zw7:I:=(.cons (.asg 3 (.call "_law_uses" (.cons (.var 0) (.cons (.var 1) (.cons (.var 2) .nil))))) (.cons on_p (.cons on_j (.cons (.ret (.var 3)) .nil))))
noncomputable def ub (o:Bool) (m:Nat):Nat:=if o then 1 else 7*m - 6
noncomputable def sb:Bool→Nat→Nat
 | true,0=>0|true,1=>1|true,2=>3|true,3=>7|true,_=>15
 | false,0=>0|false,1=>1|false,2=>10|false,_=>42
theorem sb_le (o:Bool) (m:Nat):sb o m≤42:=by unfold sb; split<;>bv_omega
theorem ub_sb {o:Bool} {m:Nat} (h:1≤m) (h4:m≤4) (ho:o=false→m≤3):ub o m≤sb o m∧ub o m≤22:=by
 have:m=1∨m=2∨m=3∨m=4:=by exact n14 (qx h4) h
 rcases this with rfl|rfl|rfl|rfl<;>cases o<;>first|decide|(have:=ho rfl; bv_omega)
theorem sb_pair {o:Bool} {a b:Nat} (ha:1≤a) (hb:1≤b) (h4:a+b≤4) (ho:o=false→a+b≤3):ub o (a+b)+sb o a+sb o b≤sb o (a+b):=by
 have h1:a=1∨a=2∨a=3:=by exact n13 (Nat.lt_of_lt_of_le (Nat.lt_add_of_pos_right hb) h4) ha
 have h2:b=1∨b=2∨b=3:=by exact n13 (Nat.lt_of_lt_of_le (Nat.lt_add_of_pos_left ha) h4) hb
 rcases h1 with rfl|rfl|rfl<;>rcases h2 with rfl|rfl|rfl<;>cases o<;>first|decide|(have:=ho rfl; bv_omega)|bv_omega
noncomputable def gl (o:Bool) (l left:List D):Nat:=bif left.isEmpty||Nat.ble l.length (left.length+1) then 0 else ub o (lvL l - lvL left)
noncomputable def t3 (o:Bool) (a b c:Nat):Nat:=ub o (a+(b+(c+0)))+(sb o a+(sb o b+(sb o c+0)))+(0+(ub o (a+(b+(c+0)) - (c+0))+(ub o (a+(b+(c+0)) - (b+0))+(0+(ub o (a+(b+(c+0)) - (a+0))+(0+(0+(0+(0)))))))))
noncomputable def t4 (o:Bool) (a b c d:Nat):Nat:=ub o (a+(b+(c+(d+0))))+(sb o a+(sb o b+(sb o c+(sb o d+0))))+(0+(ub o (a+(b+(c+(d+0))) - (d+0))+(ub o (a+(b+(c+(d+0))) - (c+0))+(ub o (a+(b+(c+(d+0))) - (c+(d+0)))+(ub o (a+(b+(c+(d+0))) - (b+0))+(ub o (a+(b+(c+(d+0))) - (b+(d+0)))+(ub o (a+(b+(c+(d+0))) - (b+(c+0)))+(0+(ub o (a+(b+(c+(d+0))) - (a+0))+(ub o (a+(b+(c+(d+0))) - (a+(d+0)))+(ub o (a+(b+(c+(d+0))) - (a+(c+0)))+(0+(ub o (a+(b+(c+(d+0))) - (a+(b+0)))+(0+(0+(0+(0)))))))))))))))))
theorem sb3:∀ (o:Bool) (a b c:Fin 3),1≤a.1→1≤b.1→1≤c.1→a.1+(b.1+c.1)≤4→(o=false→a.1+(b.1+c.1)≤3)→t3 o a.1 b.1 c.1≤sb o (a.1+(b.1+c.1)):=by decide
theorem sb_join {o:Bool} {l:List D} (hp:∀ x∈l,1≤lv x) (h2:2≤l.length) (h4:lvL l≤4) (ho:o=false→lvL l≤3):ub o (lvL l)+zx2 (fun x=>sb o (lv x)) l+zx2 (fun q=>gl o l q.2) (zz9 [([],[])] l)≤sb o (lvL l):=by
 match l,h2 with
 | [x,y],_ =>
  have e:∀ a b c:Nat,a+(b+(c+0))+0=a+b+c:=fun a b c=>(Nat.add_assoc a b c).symm
  exact Nat.le_trans (Nat.le_of_eq (e _ _ _)) (sb_pair (hp x mh) (hp y (mt mh)) h4 ho)
 | [x,y,z],_ =>
  have hx:=hp x mh
  have hy:=hp y (mt mh)
  have hz:=hp z (mt (mt mh))
  have h4':lv x+(lv y+lv z)≤4:=h4
  exact sb3 o ⟨lv x,by exact n3x hy hz h4'⟩ ⟨lv y,by exact n3y hx hz h4'⟩ ⟨lv z,by bv_omega⟩ hx hy hz h4 ho
 | [x,y,z,v],_ =>
  have hx:=hp x mh
  have hy:=hp y (mt mh)
  have hz:=hp z (mt (mt mh))
  have hv:=hp v (mt (mt (mt mh)))
  have h4':lv x+(lv y+(lv z+lv v))≤4:=h4
  have ho':o=false→lv x+(lv y+(lv z+lv v))≤3:=ho
  show t4 o (lv x) (lv y) (lv z) (lv v)≤sb o (lv x+(lv y+(lv z+lv v)))
  rw [show lv x=1 by bv_omega,show lv y=1 by bv_omega,show lv z=1 by bv_omega,show lv v=1 by bv_omega]
  cases o with
  | true=>decide
  | false=>have:=ho' rfl; exact absurd (qt (qa hx (qa hy (qa hz hv))) this) (by decide)
 | x::y::z::v::w::r,_ =>
  have hx:=hp x mh
  have hy:=hp y (mt mh)
  have hz:=hp z (mt (mt mh))
  have hv:=hp v (mt (mt (mt mh)))
  have hw:=hp w (mt (mt (mt (mt mh))))
  simp only [lvL] at h4
  exact absurd (qt (qa hx (qa hy (qa hz (qa hv (Nat.le_add_right_of_le hw))))) h4) (by decide)
end Pl
end
section
namespace Pl
open Mini PySem
variable {Fs:Fns} {fuel:Nat}
noncomputable def pr1 (b w:D):D:=.tuple [.str "pair", w,b]
noncomputable def pr2 (a w:D):D:=.tuple [.str "pair", a,w]
section
variable {t u:Tm} {ru N:D} {m:Nat}
noncomputable abbrev stS (t u:Tm) (S:D) (acc:List D) (a:Option AV):Mini.Sg:=[vl (enc t),vl (enc u),vl S,ow (.list acc),a]
theorem st_leaf {k:Int} {W:List D} (h:Has Fs "steps" ⟨3,5,zr4⟩) (e:run Fs glo fuel m "at_top" [enc t,enc u,.tuple [.str "name", .int k]]=some (.list W,true)):run Fs glo fuel (m+1) "steps" [enc t,enc u,.tuple [.str "name", .int k]]=some (.list W,false):=by
 refine zz7 h rfl ?_
 show ex (Ga Fs fuel m) zr4 [vl (enc t),vl (enc u),vl (.tuple [.str "name", .int k]),none,none]=_
 rw [zr4,zz0 (σ':=stS t u (.tuple [.str "name", .int k]) W none) (by simp [e]),
  zz0 (σ':=stS t u (.tuple [.str "name", .int k]) W none) (by rw [st_j]; simp [c_in,zin2,↓zy2,zx7,zv9,zu5,zy1,zw2,zs5,zs6]),
  zz0 (σ':=stS t u (.tuple [.str "name", .int k]) W none) (by rw [st_p]; simp [c_eq,eqD,↓zy2,zx7,zx0,zy1,zp0])]
 exact zy0 rfl
theorem st_join {s:Sn} (hs:s≠.pair) {l W P:List D} (h:Has Fs "steps" ⟨3,5,zr4⟩) (e:run Fs glo fuel m "at_top" [enc t,enc u,.tuple (.str s.str::l)]=some (.list W,true)) (e2:run Fs glo fuel m "within_join" [enc t,enc u,.tuple (.str s.str::l)]=some (.list P,false)) (hz:W.length+P.length<size):run Fs glo fuel (m+1) "steps" [enc t,enc u,.tuple (.str s.str::l)]=some (.list (W++P),false):=by
 have o3:(s.str==("pair" : Str))=false:=by simpa using zs8 hs
 refine zz7 h rfl ?_
 show ex (Ga Fs fuel m) zr4 [vl (enc t),vl (enc u),vl (.tuple (.str s.str::l)),none,none]=_
 rw [zr4,zz0 (σ':=stS t u (.tuple (.str s.str::l)) W none) (by simp [e]),
  zz0 (σ':=stS t u (.tuple (.str s.str::l)) (W++P) none) (by rw [st_j]; simp [zz1,c_in,↓zy2,in_joins hs,zw2,e2,zex1,hz]),
  zz0 (σ':=stS t u (.tuple (.str s.str::l)) (W++P) none) (by rw [st_p]; simp [c_eq,eqD,↓zy2,zu4,zx0,zy1,o3])]
 exact zy0 rfl
theorem st_loop {S:D} {body:I} {F:D→D} {A acc:List D} {x:Option AV} (hb:∀ (acc:List D) (w:D),acc.length+1<size→ex (Ga Fs fuel m) body (stS t u S acc (vl w))=some (.next (stS t u S (acc++[F w]) (vl w)))) (hz:acc.length+A.length<size) :
  ∃ x',forN (zu2 4) (ex (Ga Fs fuel m) body) A (stS t u S acc x)=some (.next (stS t u S (acc++A.map F) x')):=by
 have loop:=zy7 (bnd:=zu2 4) (body:=ex (Ga Fs fuel m) body) id (fun done σ=>∃ x',σ=stS t u S (acc++done.map F) x') (L:=A) (σ:=stS t u S acc x) ⟨x,by simp⟩ (by
  rintro done w rest σ e ⟨x',rfl⟩
  exact ⟨_,_,rfl,hb _ w (by rw [e] at hz; simp at hz ⊢; exact ql (Nat.le_of_eq (Nat.add_assoc ..)) (ql (Nat.add_le_add_left (Nat.succ_le_succ (Nat.le_add_right ..)) _) hz)),vl w,by simp⟩)
 rw [List.map_id] at loop
 (refine elEAE (loop) fun σ' e x' e_3=>?_; subst e_3)
 exact ⟨x',e⟩
theorem st_pair {a b:D} {W A1 A2:List D} (h:Has Fs "steps" ⟨3,5,zr4⟩) (e:run Fs glo fuel m "at_top" [enc t,enc u,.tuple [.str "pair", a,b]]=some (.list W,true)) (e1:run Fs glo fuel m "steps" [enc t,enc u,a]=some (.list A1,false)) (e2:run Fs glo fuel m "steps" [enc t,enc u,b]=some (.list A2,false)) (hz:W.length+A1.length+A2.length<size) :
  run Fs glo fuel (m+1) "steps" [enc t,enc u,.tuple [.str "pair", a,b]]=some (.list (W++A1.map (pr1 b)++A2.map (pr2 a)),false):=by
 obtain ⟨x1,l1⟩:=st_loop (Fs:=Fs) (fuel:=fuel) (t:=t) (u:=u) (m:=m) (S:=.tuple [.str "pair", a,b]) (body:=st_1) (F:=pr1 b) (A:=A1) (acc:=W) (x:=none) (fun acc w hz=>by
  rw [st_1,zz0 (σ':=stS t u (.tuple [.str "pair", a,b]) (acc++[pr1 b w]) (vl w)) (by simp [↓mkT3,↓ix_t2,hz,pr1])]; rfl) (by exact qg hz)
 obtain ⟨x2,l2⟩:=st_loop (Fs:=Fs) (fuel:=fuel) (t:=t) (u:=u) (m:=m) (S:=.tuple [.str "pair", a,b]) (body:=st_2) (F:=pr2 a) (A:=A2) (acc:=W++A1.map (pr1 b)) (x:=x1) (fun acc w hz=>by
  rw [st_2,zz0 (σ':=stS t u (.tuple [.str "pair", a,b]) (acc++[pr2 a w]) (vl w)) (by simp [↓mkT3,↓zr8,hz,pr2])]; rfl) (by simp; exact hz)
 refine zz7 h rfl ?_
 show ex (Ga Fs fuel m) zr4 [vl (enc t),vl (enc u),vl (.tuple [.str "pair", a,b]),none,none]=_
 rw [zr4,zz0 (σ':=stS t u (.tuple [.str "pair", a,b]) W none) (by simp [e]),
  zz0 (σ':=stS t u (.tuple [.str "pair", a,b]) W none) (by rw [st_j]; simp [c_in,↓zy2,in_joins_pair,zw2]),
  zz0 (σ':=stS t u (.tuple [.str "pair", a,b]) (W++A1.map (pr1 b)++A2.map (pr2 a)) x2)]
 ·exact zy0 rfl
 rw [st_p,zz6,show uno (.cmp .Eq (.idx (.var 2) (.cint 0)) (.cstr "pair")) (ev (Ga Fs fuel m) (.cmp .Eq (.idx (.var 2) (.cint 0)) (.cstr "pair"))) (stS t u (.tuple [.str "pair", a,b]) W none)=some (.bool true,stS t u (.tuple [.str "pair", a,b]) W none) by simp [c_eq,eqD,↓zy2,zx0,zy1]]
 show ex _ st_l _=_
 rw [st_l,zz0 (by
   rw [zz4,show srcE (ev (Ga Fs fuel m) (.call "steps" (.cons (.var 0) (.cons (.var 1) (.cons (.idx (.var 2) (.cint 1)) .nil))))) (stS t u (.tuple [.str "pair", a,b]) W none)=some (A1,stS t u (.tuple [.str "pair", a,b]) W none) by simp [↓zr8,zit1,e1]]
   exact l1),
  zz0 (by
   rw [zz4,show srcE (ev (Ga Fs fuel m) (.call "steps" (.cons (.var 0) (.cons (.var 1) (.cons (.idx (.var 2) (.cint 2)) .nil))))) (stS t u (.tuple [.str "pair", a,b]) (W++A1.map (pr1 b)) x1)=some (A2,stS t u (.tuple [.str "pair", a,b]) (W++A1.map (pr1 b)) x1) by simp [↓ix_t2,zit1,e2]]
   exact l2)]
 rfl
noncomputable abbrev onS (ru N S:D) (acc:List D) (a b:Option AV):Mini.Sg:=[vl ru,vl N,vl S,ow (.list acc),a,b]
theorem on_leaf {k:Int} {W:List D} (h:Has Fs "_law_ones" ⟨3,6,zw7⟩) (e:run Fs glo fuel m "_law_uses" [ru,N,.tuple [.str "name", .int k]]=some (.list W,true)):run Fs glo fuel (m+1) "_law_ones" [ru,N,.tuple [.str "name", .int k]]=some (.list W,false):=by
 refine zz7 h rfl ?_
 show ex (Ga Fs fuel m) zw7 [vl ru,vl N,vl (.tuple [.str "name", .int k]),none,none,none]=_
 rw [zw7,zz0 (σ':=onS ru N (.tuple [.str "name", .int k]) W none none) (by simp [e]),
  zz0 (σ':=onS ru N (.tuple [.str "name", .int k]) W none none) (by rw [on_p]; simp [c_eq,eqD,↓zy2,zx7,zx0,zy1,zp0]),
  zz0 (σ':=onS ru N (.tuple [.str "name", .int k]) W none none) (by rw [on_j]; simp [c_eq,eqD,↓zy2,zx7,zv9,zu5,zy1,ne_name_sum,ne_name_mul])]
 exact zy0 rfl
theorem on_cat {S:D} {F:D→D} {elt src:I} {acc Z:List D} (h:∃ f,ev (Ga Fs fuel m) src [vl ru,vl N,vl S,vl (.list acc),none,none]=some (.list Z,f,[vl ru,vl N,vl S,vl (.list acc),none,none])) (he:∀ w,ev (Ga Fs fuel m) elt [vl ru,vl N,vl S,vl (.list acc),none,none,vl w]=some (F w,false,[vl ru,vl N,vl S,vl (.list acc),none,none,vl w])) (hz:acc.length+Z.length≤size) :
  ex (Ga Fs fuel m) (.asg 3 (.bin .Add (.var 3) (.comp1 elt src .omit))) (onS ru N S acc none none)=some (.next (onS ru N S (acc++Z.map F) none none)):=by
 have hcomp:=zt2 (n:=6) (bc:=bc1) (cond:=zp5 .omit (ev (Ga Fs fuel m) .omit)) (elt:=ev (Ga Fs fuel m) elt) (σ:=[vl ru,vl N,vl S,vl (.list acc),none,none])
  (c:=fun _=>true) (F:=F) rfl (ds:=Z) fun w hw=>⟨[w],rfl,rfl,fun _=>⟨false,he w⟩⟩
 rw [List.filter_eq_self.mpr (by simp)] at hcomp
 have hev:ev (Ga Fs fuel m) (.comp1 elt src .omit) [vl ru,vl N,vl S,vl (.list acc),none,none]=some (.list (Z.map F),true,[vl ru,vl N,vl S,vl (.list acc),none,none]):=by
  obtain ⟨f,h⟩:=h
  rw [zv7,srcE,h]
  show ((zi9 6 _ _ Z _).bind _)=_
  rw [zr6,hcomp]
  simp only [Option.bind_some,mkL]
  rw [if_pos (by rw [List.length_map]; exact qr hz)]
  rfl
 have hu:ev (Ga Fs fuel m) (.var 3) (onS ru N S acc none none)=some (.list acc,false,[vl ru,vl N,vl S,vl (.list acc),none,none]):=rfl
 rw [zk3,eq_ev_bin]
 simp only [duo,o_var,o_comp1,kdat_,hu,hev,Option.bind_some,res,b_ad,zad1,mkL]
 rw [if_pos (by rw [List.length_append,List.length_map]; exact hz)]
 rfl
theorem on_pair {a b:D} {W A1 A2:List D} (h:Has Fs "_law_ones" ⟨3,6,zw7⟩) (e:run Fs glo fuel m "_law_uses" [ru,N,.tuple [.str "pair", a,b]]=some (.list W,true)) (e1:run Fs glo fuel m "_law_ones" [ru,N,a]=some (.list A1,false)) (e2:run Fs glo fuel m "_law_ones" [ru,N,b]=some (.list A2,false)) (hz:W.length+A1.length+A2.length≤size) :
  run Fs glo fuel (m+1) "_law_ones" [ru,N,.tuple [.str "pair", a,b]]=some (.list (W++A1.map (pr1 b)++A2.map (pr2 a)),false):=by
 have l1:=on_cat (Fs:=Fs) (fuel:=fuel) (ru:=ru) (N:=N) (m:=m) (S:=.tuple [.str "pair", a,b]) (F:=pr1 b) (elt:=on_1) (src:=.call "_law_ones" (.cons (.var 0) (.cons (.var 1) (.cons (.idx (.var 2) (.cint 1)) .nil)))) (acc:=W) (Z:=A1) ⟨false,by simp [↓zr8,e1]⟩ (fun w=>by rw [on_1]; simp [↓mkT3,↓ix_t2,pr1]) (by exact qf hz)
 have l2:=on_cat (Fs:=Fs) (fuel:=fuel) (ru:=ru) (N:=N) (m:=m) (S:=.tuple [.str "pair", a,b]) (F:=pr2 a) (elt:=on_2) (src:=.call "_law_ones" (.cons (.var 0) (.cons (.var 1) (.cons (.idx (.var 2) (.cint 2)) .nil)))) (acc:=W++A1.map (pr1 b)) (Z:=A2) ⟨false,by simp [↓ix_t2,e2]⟩ (fun w=>by rw [on_2]; simp [↓mkT3,↓zr8,pr2]) (by simp; bv_omega)
 refine zz7 h rfl ?_
 show ex (Ga Fs fuel m) zw7 [vl ru,vl N,vl (.tuple [.str "pair", a,b]),none,none,none]=_
 rw [zw7,zz0 (σ':=onS ru N (.tuple [.str "pair", a,b]) W none none) (by simp [e]),
  zz0 (σ':=onS ru N (.tuple [.str "pair", a,b]) (W++A1.map (pr1 b)++A2.map (pr2 a)) none none),
  zz0 (σ':=onS ru N (.tuple [.str "pair", a,b]) (W++A1.map (pr1 b)++A2.map (pr2 a)) none none) (by rw [on_j]; simp [c_eq,eqD,↓zy2,zx0,zv9,zu5,zy1,ne_pair_sum,ne_pair_mul])]
 ·exact zy0 rfl
 rw [on_p,zz6,show uno (.cmp .Eq (.idx (.var 2) (.cint 0)) (.cstr "pair")) (ev (Ga Fs fuel m) (.cmp .Eq (.idx (.var 2) (.cint 0)) (.cstr "pair"))) (onS ru N (.tuple [.str "pair", a,b]) W none none)=some (.bool true,onS ru N (.tuple [.str "pair", a,b]) W none none) by simp [c_eq,eqD,↓zy2,zx0,zy1]]
 show ex _ (.cons _ (.cons _ .nil)) _=_
 rw [on_c1,on_c2,zz0 l1,zz0 l2]
 rfl
theorem on_join {s:Sn} (hs:s≠.pair) {l W P:List D} {C:List (List D×List D)} {a b:Option AV} (h:Has Fs "_law_ones" ⟨3,6,zw7⟩) (e:run Fs glo fuel m "_law_uses" [ru,N,.tuple (.str s.str::l)]=some (.list W,true)) (e1:run Fs glo fuel m "_law_choices" [.tuple l]=some (.list (C.map prD),true)) (e2:forN (zu2 4) (ex (Ga Fs fuel m) lo_body) (C.map prD) (loS ru N s l W none none)=some (.next (loS ru N s l (W++P) a b))) :
  run Fs glo fuel (m+1) "_law_ones" [ru,N,.tuple (.str s.str::l)]=some (.list (W++P),false):=by
 have o3:(s.str==("pair" : Str))=false:=by simpa using zs8 hs
 refine zz7 h rfl ?_
 show ex (Ga Fs fuel m) zw7 [vl ru,vl N,vl (.tuple (.str s.str::l)),none,none,none]=_
 rw [zw7,zz0 (σ':=onS ru N (.tuple (.str s.str::l)) W none none) (by simp [e]),
  zz0 (σ':=onS ru N (.tuple (.str s.str::l)) W none none) (by rw [on_p]; simp [c_eq,eqD,↓zy2,zu4,zx0,zy1,o3]),
  zz0 (σ':=onS ru N (.tuple (.str s.str::l)) (W++P) a b)]
 ·exact zy0 rfl
 have hsl:=slc_tuple (Γ:=Ga Fs fuel m) (σ:=onS ru N (.tuple (.str s.str::l)) W none none) (k:=2) rfl
 have fin:ex (Ga Fs fuel m) (.cons (.for1 4 (.call "_law_choices" (.cons (.slc (.var 2) (.cint 1) .omit) .nil)) lo_body) .nil) (onS ru N (.tuple (.str s.str::l)) W none none)=some (.next (onS ru N (.tuple (.str s.str::l)) (W++P) a b)):=by
  rw [zz0 (by
   rw [zz4,show srcE (ev (Ga Fs fuel m) (.call "_law_choices" (.cons (.slc (.var 2) (.cint 1) .omit) .nil))) (onS ru N (.tuple (.str s.str::l)) W none none)=some (C.map prD,onS ru N (.tuple (.str s.str::l)) W none none) by
    rw [srcE,eq_ev_call]; simp only [eq_evs_cons,eq_evs_nil,hsl,Option.bind_some]; simp [e1,zit1]]
   exact e2)]
  rfl
 rw [on_j,zz6]
 cases h1:(s.str==("sum" : Str)) with
 | true=>simp [c_eq,eqD,↓zy2,zu4,zv9,zy1,h1,fin]
 | false =>
  have h2:(s.str==("mul" : Str))=true:=by cases s<;>first|rfl|exact absurd rfl hs|exact absurd h1 (by decide)
  simp [c_eq,eqD,↓zy2,zu4,zv9,zu5,zy1,h1,h2,fin]
end
end Pl
end
section
namespace Pl
open Mini PySem
variable {Fs:Fns} {fuel:Nat}
structure H13 (Fs:Fns):Prop extends Ht Fs,Hu Fs where
 within_join:Has Fs "within_join" ⟨3,10,zt8⟩
 steps:Has Fs "steps" ⟨3,5,zr4⟩
 ones:Has Fs "_law_ones" ⟨3,6,zw7⟩
structure Both (Fs:Fns) (fuel n n2:Nat) (t u:Tm) (ns:List Int) (S:D) (A B:List D):Prop where
 code:run Fs glo fuel n "steps" [enc t,enc u,S]=some (.list A,false)
 law:run Fs glo fuel n2 "_law_ones" [.tuple [enc t,enc u],.list (ns.map .int),S]=some (.list B,false)
 same:∀ w,w∈A↔w∈B
 la:A.length≤sb (decide (ns.length≤1)) (lv S)
 lb:B.length≤484*17^(lv S - 1)
 can:∀ w∈A,Can (lv S+3) w∧lv w≤3*lv S
theorem e1_congr {s:Sn} {l:List D} {A B:D→List D} (h:∀ x∈l,∀ w,w∈A x↔w∈B x) (w:D):E1 s l A w↔E1 s l B w:=by
 constructor
 ·rintro ⟨x,l',w',h1,h2,h3⟩; exact ⟨x,l',w',h1,(h x (h1.mem_iff.mp mh) w').mp h2,h3⟩
 ·rintro ⟨x,l',w',h1,h2,h3⟩; exact ⟨x,l',w',h1,(h x (h1.mem_iff.mp mh) w').mpr h2,h3⟩
theorem both (H:H13 Fs) {t u:Tm} {ns:List Int} (Q:Rule t u ns) (hf:100≤fuel):∀ (m:Nat) (S:D) (n n2:Nat),lv S≤m→lv S≤4→(2≤ns.length→lv S≤3)→Can 7 S→zj5 S→∃ A B,Both Fs fuel (n+16+2*m) (n2+16+2*m) t u ns S A B
 | 0,S,n,n2,h,_,_,hS,_=>by have:=hS.lv_pos; bv_omega
 | m+1,S,n,n2,hm,h4,h3,hS,hno=>by
  have hsz:size=16777216:=rfl
  have htop:∀ (T:D) (j j2:Nat),lv T≤4→Can 7 T→zj5 T→∃ W W':List D,run Fs glo fuel (j+15) "at_top" [enc t,enc u,T]=some (.list W,true)∧run Fs glo fuel (j2+15) "_law_uses" [.tuple [enc t,enc u],.list (ns.map .int),T]=some (.list W',true)∧(∀ w,w∈W↔Use t u T w)∧(∀ w,w∈W'↔Use t u T w)∧W.length≤ub (decide (ns.length≤1)) (lv T)∧W'.length≤484:=fun T j j2 hT4 hT hTn=>by
   refine elEEAAAA (run_law_uses (fuel:=fuel) H.toHu (j2+7) Q hT4 hT hTn hf) fun W' V e1 e2 e3 e4 e5=>?_
   refine elEAA (run_at_top (fuel:=fuel) H.toHt j Q hT4 hT hf e4 (by exact qx (qf (qt e5 (Nat.mul_le_mul_left 7 hT4))))) fun W f1 f2 f3=>?_
   refine ⟨W,W',f1,e1,f2,e2,Nat.le_trans f3 ?_,e3⟩
   unfold ub
   by_cases q:ns.length≤1<;>simp only [q,if_true,if_false,decide_true,decide_false,Bool.false_eq_true]<;>first|exact Nat.le_refl _|exact Nat.le_sub_of_add_le e5
  have hcan:∀ (T w:D),lv T≤4→Can 7 T→Use t u T w→Can (lv T+3) w∧lv w≤3*lv T:=fun T w hT4 hT h=>h.can hT hT4 (by bv_omega) Q.un Q.ou
  have hpos:=hS.lv_pos
  have hob:decide (ns.length≤1)=false→lv S≤3:=fun h=>h3 (by simp at h; bv_omega)
  have hpw:∀ j,j+1≤lv S - 1→17*17^j≤17^(lv S - 1):=fun j hj=>by
   rw [Nat.mul_comm,← Nat.pow_succ]; exact Nat.pow_le_pow_right (by bv_omega) hj
  have hp4:17^(lv S - 1)≤4913:=Nat.pow_le_pow_right (n:=17) (by bv_omega) (by exact Nat.sub_le_sub_right h4 1:lv S - 1≤3)
  have hp0:1≤17^(lv S - 1):=Nat.pow_pos (by bv_omega)
  refine elEEAAAAA (htop S (n+2+2*m) (n2+2+2*m) h4 hS hno) fun W W' w1 w2 w3 w4 w5 w6=>?_
  rw [show n+2+2*m+15=n+17+2*m by bv_omega] at w1
  rw [show n2+2+2*m+15=n2+17+2*m by bv_omega] at w2
  rw [show n+16+2*(m+1)=n+17+2*m+1 by bv_omega,show n2+16+2*(m+1)=n2+17+2*m+1 by bv_omega]
  have hub:=ub_sb hpos h4 hob
  cases hS with
  | leaf k o i =>
   cases o with
   | true=>exact absurd (Opn.self i) (hno i)
   | false=>exact ⟨W,W',st_leaf H.steps w1,on_leaf H.ones w2,fun w=>(w3 w).trans (w4 w).symm,Nat.le_trans w5 hub.1,Nat.le_trans w6 (Nat.le_mul_of_pos_right _ hp0),fun w hw=>hcan _ w h4 (.leaf 6 false i) ((w3 w).mp hw)⟩
  | @pair _ a b ha hb =>
   have pa:=ha.lv_pos
   have pb:=hb.lv_pos
   have ha7:Can 7 a:=ha.mono (by bv_omega)
   have hb7:Can 7 b:=hb.mono (by bv_omega)
   rw [zu6] at *
   obtain ⟨A1,B1,b1⟩:=both H Q hf m a (n+1) (n2+1) (by exact Nat.le_of_succ_le_succ (qt (Nat.add_le_add_left pb _) hm)) (by exact qf h4) (fun h=>by have:=h3 h; bv_omega) ha7 fun i hi=>hno i (.part (s:=.pair) (l:=[a,b]) mh hi)
   obtain ⟨A2,B2,b2⟩:=both H Q hf m b (n+1) (n2+1) (by exact Nat.le_of_succ_le_succ (qt (qt (Nat.add_le_add_left pa _) (Nat.le_of_eq (Nat.add_comm ..))) hm)) (by exact qr h4) (fun h=>by have:=h3 h; exact qr this) hb7 fun i hi=>hno i (.part (s:=.pair) (l:=[a,b]) (mt mh) hi)
   have c1:=b1.code
   have c2:=b2.code
   have d1:=b1.law
   have d2:=b2.law
   rw [show n+1+16+2*m=n+17+2*m by bv_omega] at c1 c2
   rw [show n2+1+16+2*m=n2+17+2*m by bv_omega] at d1 d2
   have s1:=sb_le (decide (ns.length≤1)) (lv a)
   have s2:=sb_le (decide (ns.length≤1)) (lv b)
   have hsp:=sb_pair pa pb h4 hob
   have l1:=b1.la
   have l2:=b2.la
   have m1:=b1.lb
   have m2:=b2.lb
   have q1:=hpw (lv a - 1) (by exact Nat.le_trans (Nat.le_of_eq (Nat.sub_add_cancel pa)) (nlb pb))
   have q2:=hpw (lv b - 1) (by exact Nat.le_trans (Nat.le_of_eq (Nat.sub_add_cancel pb)) (nla pa))
   refine ⟨_,_,st_pair H.steps w1 c1 c2 (by exact qx (qa (qa (qt w5 hub.2) (qt l1 s1)) (qt l2 s2))),on_pair H.ones w2 d1 d2 (by exact qt (n84 w6 hp0 m1 m2 q1 q2) (qy (Nat.mul_le_mul_left 484 hp4))),fun w=>?_,?_,?_,fun w hw=>?_⟩
   ·simp only [List.mem_append,List.mem_map,w3,w4,b1.same,b2.same]
   ·simp only [List.length_append,List.length_map,zu6]; exact qt (qa (qa w5 l1) l2) hsp
   ·simp only [List.length_append,List.length_map,zu6]; exact n84 w6 hp0 m1 m2 q1 q2
   ·rw [zu6]
    rcases List.mem_append.mp hw with hw|hw
    ·rcases List.mem_append.mp hw with hw|hw
     ·have:=hcan _ w (by rw [zu6]; bv_omega) (.pair ha hb) ((w3 w).mp hw)
      rwa [zu6] at this
     ·(refine elEA (List.mem_map.mp hw) fun w' hw' e=>?_; subst e)
      have:=b1.can w' hw'
      simp only [pr1,zu6]
      exact ⟨.pair (this.1.mono (by exact Nat.add_le_add_right (Nat.add_le_add_left pb _) 2)) (hb.deep.mono (by bv_omega)),by exact qt (qa this.2 (Nat.le_mul_of_pos_left _ (by decide:0<3))) (Nat.le_of_eq (Nat.mul_add ..).symm)⟩
    ·(refine elEA (List.mem_map.mp hw) fun w' hw' e=>?_; subst e)
     have:=b2.can w' hw'
     simp only [pr2,zu6]
     exact ⟨.pair (ha.deep.mono (by bv_omega)) (this.1.mono (by exact Nat.add_le_add_right (qt (Nat.le_of_eq (Nat.add_comm ..)) (Nat.add_le_add_right pa _)) 2)),by exact qt (qa (Nat.le_mul_of_pos_left _ (by decide:0<3)) this.2) (Nat.le_of_eq (Nat.mul_add ..).symm)⟩
  | @join _ s l hs hl2 hl20 hc hp hw =>
   have hS:Can 7 (.tuple (.str s.str::l)):=.join hs hl2 hl20 hc hp hw
   have hc7:∀ x∈l,Can 7 x:=fun x hx=>(hc x hx).mono (by bv_omega)
   rw [zv5] at *
   have J:Jo s l:=⟨hs,hS,h4⟩
   have hlen:=len_lv hc7
   have hno':∀ x∈l,zj5 x:=fun x hx i hi=>hno i (.part hx hi)
   have hlt:∀ x∈l,lv x+1≤lvL l:=fun x hx=>lv_less hc7 hl2 hx
   refine elE (choose_fun (β:=List D×List D) (p:=fun x=>x∈l) (P:=fun x b=>Both Fs fuel (n+16+2*m) (n2+17+2*m) t u ns x b.1 b.2) fun x hx=>by
    have:=hlt x hx
    obtain ⟨A,B,b⟩:=both H Q hf m x n (n2+1) (by bv_omega) (by bv_omega) (fun h=>by have:=h3 h; exact qf (qt ‹lv x+1≤lvL l› this)) (hc7 x hx) (hno' x hx)
    rw [show n2+1+16+2*m=n2+17+2*m by bv_omega] at b
    exact ⟨(A,B),b⟩) fun F hF=>?_
   have hjs:∀ a:List D,a.Sublist l→2≤a.length→jn s a=.tuple (.str s.str::a):=fun a ha h2=>jn_self (fun x hx=>hc7 x (ha.subset hx)) (fun x hx=>hp x (ha.subset hx)) (hw.sublist ha)
   have hT:∀ a:List D,a.Sublist l→2≤a.length→lv (jn s a)=lvL a∧Can 7 (jn s a)∧zj5 (jn s a):=fun a ha h2=>by
    have hne:a≠[]:=fun e=>by rw [e] at h2; simp at h2
    have:=Tri.can (.some hs ha hne) hS
    rw [zy5 (by bv_omega)] at this
    rw [hjs a ha h2,zv5]
    refine ⟨rfl,this,fun i hi=>?_⟩
    generalize hd:(PyData.tuple (.str s.str::a))=d at hi
    cases hi with
    | self=>simp at hd; exact absurd hd.1.symm (zx4 true s)
    | part hx ho=>simp at hd; obtain ⟨_,rfl⟩:=hd; exact hno' _ (ha.subset hx) i ho
   refine elE (choose_fun (β:=List D×List D) (p:=fun a:List D=>a.Sublist l∧2≤a.length) (P:=fun a b=>run Fs glo fuel (n+16+2*m) "at_top" [enc t,enc u,jn s a]=some (.list b.1,true)∧run Fs glo fuel (n2+17+2*m) "_law_uses" [.tuple [enc t,enc u],.list (ns.map .int),jn s a]=some (.list b.2,true)∧(∀ w,w∈b.1↔Use t u (jn s a) w)∧(∀ w,w∈b.2↔Use t u (jn s a) w)∧b.1.length≤ub (decide (ns.length≤1)) (lvL a)∧b.2.length≤484) fun a ⟨ha,h2⟩=>by
    obtain ⟨t1,t2,t3⟩:=hT a ha h2
    have:=zn3 ha
    refine elEEA (htop (jn s a) (n+1+2*m) (n2+2+2*m) (by exact qt (Nat.le_of_eq t1) (qt this h4)) t2 t3) fun W W' q1 q2=>?_
    rw [show n+1+2*m+15=n+16+2*m by bv_omega] at q1
    rw [show n2+2+2*m+15=n2+17+2*m by bv_omega,t1] at q2
    exact ⟨(W,W'),q1,q2⟩) fun U hU=>?_
   have hUc:∀ a:List D,a.Sublist l→2≤a.length→∀ w,Use t u (jn s a) w→Can (lvL a+3) w∧lv w≤3*lvL a:=fun a ha h2 w h=>by
    obtain ⟨t1,t2,t3⟩:=hT a ha h2
    have:=zn3 ha
    have:=hcan (jn s a) w (by exact qt (Nat.le_of_eq t1) (qt this h4)) t2 h
    rwa [t1] at this
   have hFc:∀ x∈l,∀ w∈(F x).1,Can 7 w∧lv w≤12:=fun x hx w hw=>by
    have:=(hF x hx).can w hw
    have:=hlt x hx
    exact ⟨‹Can _ w∧_›.1.mono (by exact qt (Nat.add_le_add_right this 2) (Nat.add_le_add_right h4 2 |> fun h=>qy h)),by bv_omega⟩
   have hUc7:∀ a:List D,a.Sublist l→2≤a.length→∀ w,Use t u (jn s a) w→Can 7 w∧lv w≤12:=fun a ha h2 w h=>by
    have q:=hUc a ha h2 w h
    have:=zn3 ha
    exact ⟨q.1.mono (by bv_omega),by bv_omega⟩
   have hub22:∀ a:List D,a.Sublist l→2≤a.length→(U a).1.length≤22:=fun a ha h2=>by
    have:=(hU a ⟨ha,h2⟩).2.2.2.2.1
    have:=zn3 ha
    have:=(hT a ha h2).2.1.lv_pos
    rw [(hT a ha h2).1] at this
    have:=(ub_sb (o:=decide (ns.length≤1)) (m:=lvL a) (by bv_omega) (by exact qt ‹_› h4) fun h=>by have:=hob h; exact qt ‹lvL a≤lvL l› this).2
    exact qt ‹_› this
   refine elEAA (run_within_join (fuel:=fuel) (m:=n+14+2*m) (t:=t) (u:=u) H.toHt H.within_join J (A:=fun x=>(F x).1) (U:=fun a=>(U a).1) (fun x hx=>⟨?_,hFc x hx,?_⟩) fun a ha h2=>⟨?_,(hU a ⟨ha,h2⟩).2.2.1,fun w hw=>hUc7 a ha h2 w (((hU a ⟨ha,h2⟩).2.2.1 w).mp hw),?_⟩) fun P p1 p2 p3=>?_
   ·have:=(hF x hx).code
    rwa [show n+14+2*m+2=n+16+2*m by bv_omega]
   ·have:=(hF x hx).la
    have:=sb_le (decide (ns.length≤1)) (lv x)
    exact qy (qt ‹_› this)
   ·rw [show n+14+2*m+2=n+16+2*m by bv_omega]; exact (hU a ⟨ha,h2⟩).1
   ·have:=hub22 a ha h2; exact qy this
   rw [show n+14+2*m+3=n+17+2*m by bv_omega] at p1
   have hM17:17^(lvL l - 1)=17*17^(lvL l - 2):=by rw [Nat.mul_comm,← Nat.pow_succ]; congr 1; exact nsu (qt hl2 hlen)
   have hM1:17^(lvL l - 2)≤289:=Nat.pow_le_pow_right (n:=17) (by bv_omega) (by exact Nat.sub_le_sub_right h4 2:lvL l - 2≤2)
   have hM0:1≤17^(lvL l - 2):=Nat.pow_pos (by bv_omega)
   refine elEEEEAAA (law_join (fuel:=fuel) (n:=n2+16+2*m) (ru:=.tuple [enc t,enc u]) (N:=.list (ns.map .int)) (t:=t) (u:=u) H.toHu J (M:=484*17^(lvL l - 2)) (B:=fun x=>(F x).2) (U:=fun a=>(U a).2) (by lia) (fun x hx=>⟨⟨false,?_⟩,fun w hw=>hFc x hx w (((hF x hx).same w).mpr hw),?_⟩) (fun a ha h2=>⟨?_,(hU a ⟨ha,h2⟩).2.2.2.1,fun w hw=>hUc7 a ha h2 w (((hU a ⟨ha,h2⟩).2.2.2.1 w).mp hw),?_⟩) (acc:=W') (by bv_omega)) fun C P' a b r1 r2 r3 r4=>?_
   ·have:=(hF x hx).law
    rwa [show n2+16+2*m+1=n2+17+2*m by bv_omega]
   ·refine Nat.le_trans (hF x hx).lb (Nat.mul_le_mul_left _ (Nat.pow_le_pow_right (by bv_omega) ?_))
    have:=hlt x hx
    exact Nat.sub_le_sub_right (Nat.le_sub_of_add_le this) 1
   ·rw [show n2+16+2*m+1=n2+17+2*m by bv_omega]; exact (hU a ⟨ha,h2⟩).2.1
   ·have:=(hU a ⟨ha,h2⟩).2.2.2.2.2; exact qt this (Nat.le_mul_of_pos_right _ (Nat.pow_pos (by decide)))
   rw [show n2+16+2*m+1=n2+17+2*m by bv_omega] at r1 r2
   have hPl:=p3 (gl (decide (ns.length≤1)) l) fun q hq hP=>by
    refine elAA (sp_mem hq) fun s1 s2 s3=>?_
    simp only [wjP,Bool.and_eq_true,decide_eq_true_eq,Bool.not_eq_true'] at hP
    have e1:=zm6 s3
    have e2:=s3.length_eq
    rw [zz8] at e1
    rw [List.length_append] at e2
    have hb1:Nat.ble l.length (q.2.length+1)=false:=by
     cases h:Nat.ble l.length (q.2.length+1) with
     | false=>rfl
     | true=>have:=Nat.le_of_ble_eq_true h; bv_omega
    rw [gl,hP.2,hb1,show lvL l - lvL q.2=lvL q.1 by exact Nat.sub_eq_of_eq_add e1.symm]
    exact (hU q.1 ⟨s1,by exact hP.1⟩).2.2.2.2.1
   have hsum:zx2 (fun x=>(F x).1.length) l≤zx2 (fun x=>sb (decide (ns.length≤1)) (lv x)) l:=sum_le fun x hx=>(hF x hx).la
   have hsj:=sb_join (fun x hx=>(hc7 x hx).lv_pos) hl2 h4 hob
   have h42:=sb_le (decide (ns.length≤1)) (lvL l)
   refine ⟨W++P,W'++P',st_join hs H.steps w1 p1 (by exact qx (qt (qa w5 (qt hPl (Nat.add_le_add_right hsum _))) (qt (Nat.le_of_eq (Nat.add_assoc ..).symm) (qt hsj h42)))),on_join hs H.ones w2 r1 r2,fun w=>?_,by rw [List.length_append,zv5]; exact qt (qa w5 (qt hPl (Nat.add_le_add_right hsum _))) (qt (Nat.le_of_eq (Nat.add_assoc ..).symm) hsj),by rw [List.length_append,zv5]; exact n86 w6 hp0 hM17 r4,fun w hw=>?_⟩
   ·rw [List.mem_append,List.mem_append,w3,w4,p2,r3,e1_congr fun x hx=>(hF x hx).same]
   ·rw [zv5]
    have fin:∀ (a l':List D) (w':D),(a++l').Perm l→l'≠[]→a≠[]→Can (lvL a+3) w'→lv w'≤3*lvL a→Can (lvL l+3) (jn s (w'::l'))∧lv (jn s (w'::l'))≤3*lvL l:=fun a l' w' hp hn hna cw lw=>by
     have e1:=zm6 hp
     rw [zz8] at e1
     have hcl:∀ y∈l',Can 7 y:=fun y hy=>hc7 y (hp.mem_iff.mp (List.mem_append_right _ hy))
     have hl':=len_lv hcl
     have:=List.length_pos_iff.mpr hn
     have q:=jn_can (k:=lvL l+2) hs (xs:=w'::l') (fun y hy=>by
      rcases List.mem_cons.mp hy with rfl|hy
      ·exact cw.mono (by exact Nat.add_le_add_right (qt (Nat.add_le_add_left (qt this hl') _) (Nat.le_of_eq e1)) 2)
      ·have:=lvL_mem hy
       exact (hcl y hy).deep.mono (by exact qt this (qt (qr (Nat.le_of_eq e1)) (Nat.le_add_right ..)))) (by simp; exact this) (by simp only [lvL]; exact qy (qt (qa lw (Nat.le_mul_of_pos_left _ (by decide:0<3))) (qt (Nat.le_of_eq (Nat.mul_add 3 ..).symm) (Nat.mul_le_mul_left 3 (qt (Nat.le_of_eq e1) h4)))))
     rw [q.2]
     exact ⟨q.1,by simp only [lvL]; exact qt (qa lw (Nat.le_mul_of_pos_left _ (by decide:0<3))) (qt (Nat.le_of_eq (Nat.mul_add 3 ..).symm) (Nat.mul_le_mul_left 3 (Nat.le_of_eq e1)))⟩
    rcases List.mem_append.mp hw with hw|hw
    ·have:=hcan _ w (by rw [zv5]; exact h4) hS ((w3 w).mp hw)
     rwa [zv5] at this
    ·rcases (p2 w).mp hw with ⟨x,l',w',h1,h2,rfl⟩|⟨a,l',w',h1,h2,h3',h5,rfl⟩
     ·have hx:x∈l:=h1.mem_iff.mp mh
      have:=(hF x hx).can w' h2
      exact fin [x] l' w' h1 (fun e=>by have:=h1.length_eq; rw [e] at this; simp at this; bv_omega) (List.cons_ne_nil _ _) (by simp only [lvL,Nat.add_zero]; exact this.1) (by simp only [lvL,Nat.add_zero]; exact this.2)
     ·refine elEEAA (zs7 l [([],[])] ([],[]) mh h1) fun t1 l1 hm q1 q2=>?_
      simp only [List.nil_append] at hm
      have s1:=(sp_mem hm).1
      have ej:jn s t1=jn s a:=jn_perm (k:=7) hs (fun x hx=>hc7 x (h1.mem_iff.mp (List.mem_append_left _ hx))) q1
      have:=hUc t1 s1 (by rw [q1.length_eq]; exact h2) w' (by rw [ej]; exact h5)
      rw [zm6 q1] at this
      exact fin a l' w' h1 h3' (fun e=>by rw [e] at h2; simp at h2) this.1 this.2
end Pl
end
section
namespace Pl
open Mini PySem
variable {Fs:Fns} {fuel:Nat}
noncomputable def dd (P:List D):List D:=P.foldl (fun R x=>radd R (id x)) []
theorem dd_ok {P:List D} (h:∀ x∈P,zz5 x=true):(∀ v,v∈dd P↔v∈P)∧(dd P).Nodup∧(dd P).length≤P.length:=by
 refine elAA (radd_list (P:=P) (R:=[]) (g:=id) h (by simp) (by simp)) fun a b c=>?_
 refine ⟨fun v=>(a v).trans ⟨fun h=>?_,fun h=>.inr ⟨v,h,rfl⟩⟩,b,by simpa [dd] using c⟩
 rcases h with h|⟨t,ht,e⟩
 ·cases h
 ·rw [e]; exact ht
theorem dd_snoc (P:List D) (x:D):dd (P++[x])=radd (dd P) x:=by simp [dd,List.foldl_append]
theorem dd_sort {P P':List D} (hc:∀ x∈P,Can 7 x) (h:∀ w,w∈P↔w∈P'):zx6 (dd P)=zx6 (dd P')∧(dd P').length=(dd P).length:=by
 have h1:=dd_ok fun x hx=>(hc x hx).plain
 have h2:=dd_ok (P:=P') fun x hx=>(hc x ((h x).mpr hx)).plain
 have p:(dd P).Perm (dd P'):=(List.perm_ext_iff_of_nodup h1.2.1 h2.2.1).mpr fun w=>(h1.1 w).trans ((h w).trans (h2.1 w).symm)
 exact ⟨sort_congr2 (k:=7) (fun x hx=>hc x ((h x).mpr ((h2.1 x).mp hx))) p,p.length_eq.symm⟩
noncomputable def ma_in:I:=(.cons (.iff (.cmp .NotIn (.var 5) (.var 4)) (.cons .rais .nil) .nil) .nil)
noncomputable def ma_sto:I:=(.cons (.sto 6 (.var 7) (.cbool true)) .nil)
noncomputable def ma_end:I:=(.cons (.asg 6 .dct0) (.cons (.for1 7 (.call "steps" (.cons (.var 2) (.cons (.var 3) (.cons (.call "shaped" (.cons (.var 1) .nil)) .nil)))) ma_sto) (.cons (.ret (.prim1 .sorted (.brw 6))) .nil)))
noncomputable def ir_made:I:=(.cons (.asgs [2,3] (.var 0)) (.cons (.exp (.call "leaves" (.cons (.var 2) .nil))) (.cons (.exp (.call "leaves" (.cons (.var 3) .nil))) (.cons (.exp (.call "leaves" (.cons (.var 1) .nil))) (.cons (.asg 4 (.call "opens_within" (.cons (.var 2) .nil))) (.cons (.for1 5 (.call "opens_within" (.cons (.var 3) .nil)) ma_in) (.cons (.iff (.cmp .NotEq (.call "opens_within" (.cons (.var 1) .nil)) (.lst .nil)) (.cons .rais .nil) .nil) ma_end)))))))
noncomputable abbrev maS (t u v:Tm) (a b c d:Option AV):Mini.Sg:=[vl (.tuple [enc t,enc u]),vl (enc v),vl (enc t),vl (enc u),a,b,c,d]
structure Hd (Fs:Fns):Prop extends H13 Fs where
 is_whole:Has Fs "is_whole" ⟨2,2,zt0⟩
 is_leaf:Has Fs "is_leaf" ⟨1,1,zr0⟩
 leaves:Has Fs "leaves" ⟨1,4,ir_leaves⟩
 made:Has Fs "made" ⟨2,8,ir_made⟩
theorem in_ints {k:Int} {ms:List Int} (h:k∈ms):inD (.int k) (.list (ms.map .int))=some true:=by
 have h1:(ms.map PyData.int).all okd=true:=by simp [zw0]
 have h2:((ms.map PyData.int).any fun y=>PyData.eqv y (.int k))=true:=List.any_eq_true.mpr ⟨.int k,List.mem_map.mpr ⟨k,h,rfl⟩,by simp [zr1]⟩
 rw [inD_list,h1,h2]; rfl
theorem run_made (H:Hd Fs) (n:Nat) {t u v:Tm} {A:List D} (kt:ok t) (ku:ok u) (kv:ok v) (nt:num t≤3) (nu:num u≤3) (nv:num v≤4) (ou:∀ k∈opl u,k∈opl t) (ov:opl v=[]) (hf:100≤fuel) (hA:run Fs glo fuel (n+10) "steps" [enc t,enc u,shp v]=some (.list A,false)) (hc:∀ w∈A,Can 7 w) (hl:A.length≤42) :
  run Fs glo fuel (n+11) "made" [.tuple [enc t,enc u],enc v]=some (.list (zx6 (dd A)),true):=by
 have hsz:size=16777216:=rfl
 have l1:=run_leaves (fuel:=fuel) H.is_whole H.is_leaf H.leaves (n+7) kt (by exact qy nt) hf
 have l2:=run_leaves (fuel:=fuel) H.is_whole H.is_leaf H.leaves (n+7) ku (by bv_omega) hf
 have l3:=run_leaves (fuel:=fuel) H.is_whole H.is_leaf H.leaves (n+7) kv (by bv_omega) hf
 refine elEAAA (run_nums (fuel:=fuel) H.opens_within (n+9) (by bv_omega:num t≤40) hf) fun ms m1 m2 m3 e1=>?_
 refine elEAAA (run_nums (fuel:=fuel) H.opens_within (n+9) (by bv_omega:num u≤40) hf) fun ks k1 k2 k3 e2=>?_
 refine elEAAA (run_nums (fuel:=fuel) H.opens_within (n+9) (by bv_omega:num v≤40) hf) fun js j1 j2 j3 e3=>?_
 have hjs:js=[]:=by
  cases js with
  | nil=>rfl
  | cons k r=>have:=(j3 k).mp mh; rw [ov] at this; cases this
 subst hjs
 have e4:=run_shaped (fuel:=fuel) H.parts_in H.joined H.shaped v (n+8 - num v) (by bv_omega)
 rw [show n+8 - num v+num v+2=n+10 by exact nsc nv] at e4
 have loop1:=zy7 (bnd:=zu2 5) (body:=ex (Ga Fs fuel (n+10)) ma_in) PyData.int (fun done σ=>∃ a b,(a=vl (.list (ms.map .int))∨a=ow (.list (ms.map .int)))∧σ=maS t u v a b none none) (L:=ks) (σ:=maS t u v (ow (.list (ms.map .int))) none none none) ⟨_,_,.inr rfl,rfl⟩ (by
  rintro done k rest σ e ⟨a,b,ha,rfl⟩
  have hk:k∈ms:=(m3 k).mpr (ou k ((k3 k).mp (by exact mm e)))
  refine ⟨_,maS t u v (vl (.list (ms.map .int))) (vl (.int k)) none none,rfl,?_,_,_,.inl rfl,rfl⟩
  rw [ma_in,zz0 (σ':=maS t u v (vl (.list (ms.map .int))) (vl (.int k)) none none)]
  ·rfl
  rcases ha with rfl|rfl<;>simp [c_ni,in_ints hk])
 (refine elEAEEA (loop1) fun σ' el1 a b ha e_5=>?_; subst e_5)
 have hdd:∀ P:List D,(∀ x∈P,x∈A)→_:=fun P hP=>dd_ok (P:=P) fun x hx=>(hc x (hP x hx)).plain
 have loop2:=zy7 (bnd:=zu2 7) (body:=ex (Ga Fs fuel (n+10)) ma_sto) id (fun done σ=>∃ d,σ=maS t u v a b (ow (.dict ((dd done).map enR))) d) (L:=A) (σ:=maS t u v a b (ow (.dict [])) none) ⟨_,rfl⟩ (by
  rintro done w rest σ e ⟨d,rfl⟩
  have hin:∀ x∈done,x∈A:=fun x hx=>by exact mml e hx
  refine elAA (hdd done hin) fun a1 a2 a3=>?_
  have hdl:done.length+1≤A.length:=by exact lm1 e
  have hk:=keys_enR ((hc w (by exact mm e)).tkey (by bv_omega)) fun p hp=>(hc p (hin p ((a1 p).mp hp))).tkey (by bv_omega)
  refine ⟨_,_,rfl,?_,vl w,rfl⟩
  rw [dd_snoc,ma_sto,zz0 (sto_set (σ':=maS t u v a b (ow (.dict ((dd done).map enR))) (vl w)) (R:=dd done) (kd:=w) (f:=false) rfl rfl rfl hk (by exact qx (qt a3 (qt (qf hdl) hl))))]
  rfl)
 rw [List.map_id] at loop2
 (refine elEAE (loop2) fun σ' el2 d e_5=>?_; subst e_5)
 refine elAA (hdd A fun x hx=>hx) fun a1 a2 a3=>?_
 have hso:=sortD_can (l:=dd A) (k:=7) (fun x hx=>hc x ((a1 x).mp hx)) (by bv_omega) (by exact qx (qt a3 hl))
 have hke:=keysOf_enR (dd A)
 refine zz7 H.made rfl ?_
 show ex (Ga Fs fuel (n+10)) ir_made [vl (.tuple [enc t,enc u]),vl (enc v),none,none,none,none,none,none]=_
 rw [ir_made,zz0 (σ':=maS t u v none none none none) (by simp [eq_ex_asgs,bT_,zat2,pa_n,pa_c,put]),
  zz0 (σ':=maS t u v none none none none) (by simp [eq_ex_exp,zai,l1]),zz0 (σ':=maS t u v none none none none) (by simp [eq_ex_exp,zai,l2]),zz0 (σ':=maS t u v none none none none) (by simp [eq_ex_exp,zai,l3]),
  zz0 (σ':=maS t u v (ow (.list (ms.map .int))) none none none) (by simp [e1]),
  zz0 (by
   rw [zz4,show srcE (ev (Ga Fs fuel (n+10)) (.call "opens_within" (.cons (.var 3) .nil))) (maS t u v (ow (.list (ms.map .int))) none none none)=some (ks.map .int,maS t u v (ow (.list (ms.map .int))) none none none) by simp [zit1,e2]]
   exact el1),
  zz0 (σ':=maS t u v a b none none) (by simp [c_ne,eqD,↓mkL0,e3,zs4,zt6]),ma_end,
  zz0 (σ':=maS t u v a b (ow (.dict [])) none) (by simp),
  zz0 (by
   rw [zz4,show srcE (ev (Ga Fs fuel (n+10)) (.call "steps" (.cons (.var 2) (.cons (.var 3) (.cons (.call "shaped" (.cons (.var 1) .nil)) .nil))))) (maS t u v a b (ow (.dict [])) none)=some (A,maS t u v a b (ow (.dict [])) none) by simp [zit1,e4,hA]]
   exact el2)]
 refine zy0 ?_
 rw [zr5,zm2]
 show (((some (PyData.dict ((dd A).map enR),maS t u v a b (ow (.dict ((dd A).map enR))) d)).bind _).bind _)=_
 simp only [Option.bind_some,p_srt,r_srt,zso2,hke,hso]
end Pl
end
section
namespace Pl
open Mini PySem
variable {Fs:Fns} {fuel:Nat}
theorem okd_ints (ns:List Int):okd (.list (ns.map .int))=true:=by
 have h1:=canAll_of (l:=ns.map PyData.int) fun x hx=>by (refine elEA (List.mem_map.mp hx) fun k _ e_2=>?_; subst e_2); rfl
 have h2:=zj1 (k:=0) (l:=ns.map PyData.int) fun x hx=>by (refine elEA (List.mem_map.mp hx) fun k _ e_2=>?_; subst e_2); exact Nat.le_refl _
 simp only [okd,PyData.canLay0,PyData.depth,h1,Bool.true_and]
 exact decide_eq_true (by bv_omega)
theorem zl4 (c:Int) {b:Int} (h:0<b):0≤c.fmod b∧c.fmod b<b:=by
 rw [Int.fmod_eq_emod_of_nonneg _ (by bv_omega)]
 exact ⟨Int.emod_nonneg _ (by bv_omega),Int.emod_lt_of_pos _ h⟩
noncomputable def sgOf:Nat→Sn
 | 0=>.sum|1=>.mul|2=>.sum|_=>.pair
noncomputable def md_n (j:Nat):I:=(.idx (.var j) (.bin .Mod (.bin .FloorDiv (.var 5) (.cint 24)) (.prim1 .len (.var j))))
noncomputable def md_c:I:=(.and (.cons (.cmp .NotEq (.var 1) (.lst .nil)) (.cons (.cmp .Gt (.bin .Mod (.bin .FloorDiv (.var 5) (.cint 8)) (.cint 3)) (.cint 0)) .nil)))
noncomputable def md_leaf:I:=(.cons (.asg 2 (.bin .Sub (.var 2) (.cint 1))) (.cons (.asg 6 (.tup (.cons (.cstr "name") (.cons (md_n 3) .nil)))) (.cons (.iff md_c (.cons (.asg 6 (.tup (.cons (.cstr "open") (.cons (md_n 1) .nil)))) .nil) .nil) (.cons (.app 4 (.var 6)) .nil))))
noncomputable def md_cond:I:=(.and (.cons (.or (.cons (.cmp .Lt (.bin .Mod (.var 5) (.cint 8)) (.cint 4)) (.cons (.cmp .Lt (.prim1 .len (.brw 4)) (.cint 2)) .nil))) (.cons (.cmp .Gt (.var 2) (.cint 0)) .nil)))
noncomputable def md_join:I:=(.cons (.asg 7 (.pop 4)) (.cons (.app 4 (.tup (.cons (.idx (.lst (.cons (.cstr "sum") (.cons (.cstr "mul") (.cons (.cstr "sum") (.cons (.cstr "pair") .nil))))) (.bin .Mod (.var 5) (.cint 4))) (.cons (.pop 4) (.cons (.var 7) .nil))))) .nil))
noncomputable def zi3:I:=(.cmp .Gt (.prim1 .len (.brw 4)) (.cint 1))
noncomputable def md_body:I:=(.cons (.iff md_cond md_leaf (.cons (.iff zi3 md_join .nil) .nil)) .nil)
noncomputable def md_last:I:=(.cons (.asg 7 (.pop 4)) (.cons (.app 4 (.tup (.cons (.cstr "sum") (.cons (.pop 4) (.cons (.var 7) .nil))))) .nil))
noncomputable def md_end:I:=(.cons (.iff (.cmp .Eq (.brw 4) (.lst .nil)) (.cons (.ret (.tup (.cons (.cstr "name") (.cons (.idx (.var 3) (.cint 0)) .nil)))) .nil) .nil) (.cons (.ret (.idx (.brw 4) (.cint 0))) .nil))
noncomputable def zn7:I:=(.cons (.asg 4 (.lst .nil)) (.cons (.for1 5 (.var 0) md_body) (.cons (.whl zi3 md_last) md_end)))
structure Pile (nums:List Int) (B M:Nat) (ts:List Tm):Prop where
 ok:∀ t∈ts,ok t
 op:∀ t∈ts,∀ k∈opl t,k∈nums
 sum:(ts.map num).sum+M≤B
 len:ts.length≤B
theorem enc_lay' (t:Tm):(enc t).canLay0=true:=by
 induction t with
 | leaf o n=>have:=can_str (okd_lstr o); simpa [enc,PyData.canLay0,PyData.canLayAll0] using this
 | node s a b ha hb=>have:=can_str (zu4 s); simp only [enc,PyData.canLay0,PyData.canLayAll0,ha,hb]; simpa [PyData.canLay0] using this
theorem enc_dep' (t:Tm):(enc t).depth≤num t:=by
 induction t with
 | leaf o n=>simp [enc,PyData.depth,PyData.depthAll,num]
 | node s a b ha hb =>
  have:=zw3 a
  have:=zw3 b
  simp only [enc,PyData.depth,PyData.depthAll,num]; exact nmx (ql ha (Nat.lt_add_of_pos_right this)) (ql hb (Nat.lt_add_of_pos_left ‹_›))
theorem enc_okl {t:Tm} (h:num t≤900):okd (.list [enc t])=true:=by
 have:=enc_dep' t
 simp only [okd,PyData.canLay0,PyData.canLayAll0,enc_lay',Bool.true_and,Bool.and_self,PyData.depth,PyData.depthAll]
 exact decide_eq_true (by exact Nat.succ_le_succ (nmk (qt this (qy h)) (by decide)))
theorem run_cell (h:Has Fs "_law_cell_at" ⟨2,2,zt9⟩) (n:Nat) (ns:List Int) (k:Nat) :
  run Fs glo fuel (n+1) "_law_cell_at" [.list (ns.map .int),.int k]=some (.int (ns.getD k 0),false):=by
 rw [zs3 h rfl]
 by_cases hk:k<ns.length
 ·have hk':(k:Int)<(ns.length:Int):=by exact Int.ofNat_lt.mpr hk
  simp [zt9,zz1,c_lt,zr2,zle1,zix1,zw0,zj7,hk,hk']
 ·have hk':¬ (k:Int)<(ns.length:Int):=by exact fun h=>hk (Int.ofNat_lt.mp h)
  simp [zt9,zz1,c_lt,zr2,zle1,zw0,zj7,hk,hk']
section
variable {m:Nat} {v0:Option AV} {nm nums:List Int} {B:Nat}
noncomputable abbrev mdS (v0:Option AV) (nm nums:List Int) (M:Nat) (ts:List Tm) (a b c:Option AV):Mini.Sg:=[v0,vl (.list (nums.map .int)),vl (.int M),vl (.list (nm.map .int)),ow (.list (ts.map enc)),a,b,c]
theorem pile_two {ts:List Tm} (h:2≤ts.length):∃ r a b,ts=r++[a,b]:=by
 rcases List.eq_nil_or_concat ts with rfl|⟨r,b,rfl⟩
 ·simp at h
 ·rcases List.eq_nil_or_concat r with rfl|⟨r,a,rfl⟩
  ·simp at h
  ·exact ⟨r,a,b,by simp⟩
theorem Pile.join {M:Nat} {r:List Tm} {a b:Tm} (P:Pile nums B M (r++[a,b])) (s:Sn):Pile nums B M (r++[.node s a b]):=by
 refine ⟨fun t ht=>?_,fun t ht=>?_,?_,?_⟩
 ·rcases List.mem_append.mp ht with q|q
  ·exact P.ok t (ml q)
  ·simp at q; subst q; exact ⟨P.ok a (mr mh),P.ok b (mr (mt mh))⟩
 ·rcases List.mem_append.mp ht with q|q
  ·exact P.op t (ml q)
  ·simp at q; subst q
   intro k hk
   simp only [opl,List.mem_append] at hk
   exact hk.elim (P.op a (mr mh) k) (P.op b (mr (mt mh)) k)
 ·have:=P.sum; simp [num] at this ⊢; exact this
 ·have:=P.len; simp at this ⊢; exact Nat.le_of_succ_le this
theorem md_cond_ev {M:Nat} {ts:List Tm} {c:Int} {x y:Option AV}:uno md_cond (ev (Ga Fs fuel m) md_cond) (mdS v0 nm nums M ts (vl (.int c)) x y)=some (.bool ((decide (c.fmod 8<4)||decide (ts.length<2))&&decide (0<M)),mdS v0 nm nums M ts (vl (.int c)) x y):=by
 by_cases e1:c.fmod 8<4<;>by_cases e2:ts.length<2
 ·simp [md_cond,c_gt,c_lt,↓bm8,zw0,zj7,e1,e2]
 ·simp [md_cond,c_gt,c_lt,↓bm8,zw0,zj7,e1,e2]
 ·have e2':(ts.length:Int)<2:=by exact Int.ofNat_lt.mpr e2
  simp [md_cond,c_gt,c_lt,↓bm8,zr2,zle1,zw0,zj7,e1,e2,e2']
 ·have e2':¬ (ts.length:Int)<2:=by bv_omega
  simp [md_cond,c_lt,↓bm8,zr2,zle1,zw0,zj7,e1,e2,e2']
theorem md_test_ev {M:Nat} {ts:List Tm} {x y z:Option AV}:uno zi3 (ev (Ga Fs fuel m) zi3) (mdS v0 nm nums M ts x y z)=some (.bool (decide (1<ts.length)),mdS v0 nm nums M ts x y z):=by
 by_cases e:1<ts.length
 ·have e':(1:Int)<(ts.length:Int):=by bv_omega
  simp [zi3,c_gt,zr2,zle1,e,e']
 ·have e':¬ (1:Int)<(ts.length:Int):=by exact fun h=>e (Int.ofNat_lt.mp h)
  simp [zi3,c_gt,zr2,zle1,e,e']
theorem md_n_ev {M:Nat} {ts:List Tm} {c:Int} {x y:Option AV} {j:Nat} {L:List Int} (hj:j=3∧L=nm∨j=1∧L=nums) (hn:L≠[]) (hl:L.length≤10) :
  ∃ k∈L,ev (Ga Fs fuel m) (md_n j) (mdS v0 nm nums M ts (vl (.int c)) x y)=some (.int k,false,mdS v0 nm nums M ts (vl (.int c)) x y):=by
 have hp:=List.length_pos_iff.mpr hn
 have hm:=zl4 (c.fdiv 24) (b:=(L.length:Int)) (by exact Int.ofNat_lt.mpr hp)
 have hs:zy9 (L.length:Int)=true:=by simp only [zy9,decide_eq_true_eq]; exact na62 hl
 have h0:¬ (L.length:Int)=0:=by bv_omega
 obtain ⟨i,hi⟩:∃ i:Nat,(c.fdiv 24).fmod (L.length:Int)=i:=⟨((c.fdiv 24).fmod (L.length:Int)).toNat,by exact (Int.toNat_of_nonneg hm.1).symm⟩
 have hlt:i<L.length:=by exact Int.ofNat_lt.mp (hi▸hm.2)
 have hidx:L[i]?=some L[i]:=List.getElem?_eq_getElem hlt
 refine ⟨L[i],List.getElem_mem hlt,?_⟩
 rcases hj with ⟨rfl,rfl⟩|⟨rfl,rfl⟩<;>simp [md_n,b_mod,↓bd24,zr2,zle1,zix1,hs,h0,hi,hidx,hn]
theorem md_leaf_step {M:Nat} {ts:List Tm} {c:Int} {x y:Option AV} (hm:nm≠[]) (hml:nm.length≤10) (hnl:nums.length≤10) (hz:ts.length+1<size) :
  ∃ o k y7,(o=false∧k∈nm∨o=true∧k∈nums)∧ex (Ga Fs fuel m) md_leaf (mdS v0 nm nums (M+1) ts (vl (.int c)) x y)=some (.next (mdS v0 nm nums M (ts++[.leaf o k]) (vl (.int c)) y7 y)):=by
 have eM:((M:Int)+1 - 1)=(M:Int):=by bv_omega
 have st1:ex (Ga Fs fuel m) (.asg 2 (.bin .Sub (.var 2) (.cint 1))) (mdS v0 nm nums (M+1) ts (vl (.int c)) x y)=some (.next (mdS v0 nm nums M ts (vl (.int c)) x y)):=by
  simp [b_sub,eM]
 obtain ⟨k,hk,ek⟩:=md_n_ev (Fs:=Fs) (fuel:=fuel) (m:=m) (v0:=v0) (nm:=nm) (nums:=nums) (M:=M) (ts:=ts) (c:=c) (x:=x) (y:=y) (.inl ⟨rfl,rfl⟩) hm hml
 have st2:ex (Ga Fs fuel m) (.asg 6 (.tup (.cons (.cstr "name") (.cons (md_n 3) .nil)))) (mdS v0 nm nums M ts (vl (.int c)) x y)=some (.next (mdS v0 nm nums M ts (vl (.int c)) (vl (enc (.leaf false k))) y)):=by
  simp [↓mkT2,ek,enc,lstr]
 have app:∀ (o:Bool) (k:Int),ex (Ga Fs fuel m) (.app 4 (.var 6)) (mdS v0 nm nums M ts (vl (.int c)) (vl (enc (.leaf o k))) y)=some (.next (mdS v0 nm nums M (ts++[.leaf o k]) (vl (.int c)) (vl (enc (.leaf o k))) y)):=fun o k=>by
  simp [hz]
 have okl:=okd_ints nums
 have hne:PyData.eqv (.list (nums.map .int)) (.list [])=decide (nums=[]):=by cases nums<;>simp [zt6]
 have hcond:uno md_c (ev (Ga Fs fuel m) md_c) (mdS v0 nm nums M ts (vl (.int c)) (vl (enc (.leaf false k))) y)=some (.bool (!decide (nums=[])&&decide (0<(c.fdiv 8).fmod 3)),mdS v0 nm nums M ts (vl (.int c)) (vl (enc (.leaf false k))) y):=by
  by_cases e1:nums=[]
  ·simp [md_c,c_ne,eqD,↓mkL0,okl,zs4,zt6,e1]
  ·by_cases e2:0<(c.fdiv 8).fmod 3<;>simp [md_c,c_gt,c_ne,eqD,↓bm3,↓bd8,↓mkL0,okl,zs4,zt6,hne,e1,e2]
 cases hb:(!decide (nums=[])&&decide (0<(c.fdiv 8).fmod 3)) with
 | true =>
  rw [hb] at hcond
  have hn0:nums≠[]:=by
   simp only [Bool.and_eq_true,Bool.not_eq_true',decide_eq_false_iff_not] at hb
   exact hb.1
  obtain ⟨k',hk',ek'⟩:=md_n_ev (Fs:=Fs) (fuel:=fuel) (m:=m) (v0:=v0) (nm:=nm) (nums:=nums) (M:=M) (ts:=ts) (c:=c) (x:=vl (enc (.leaf false k))) (y:=y) (.inr ⟨rfl,rfl⟩) hn0 hnl
  have st3:ex (Ga Fs fuel m) (.asg 6 (.tup (.cons (.cstr "open") (.cons (md_n 1) .nil)))) (mdS v0 nm nums M ts (vl (.int c)) (vl (enc (.leaf false k))) y)=some (.next (mdS v0 nm nums M ts (vl (.int c)) (vl (enc (.leaf true k'))) y)):=by
   generalize vl (enc (.leaf false k))=z at ek'
   simp [↓mkT2,ek',enc,lstr]
  refine ⟨true,k',vl (enc (.leaf true k')),.inr ⟨rfl,hk'⟩,?_⟩
  rw [md_leaf,zz0 st1,zz0 st2,zz0 (σ':=mdS v0 nm nums M ts (vl (.int c)) (vl (enc (.leaf true k'))) y),zz0 (app true k')]
  ·rfl
  rw [zz6,hcond]
  show ex _ (.cons _ .nil) _=_
  rw [zz0 st3]
  rfl
 | false =>
  rw [hb] at hcond
  refine ⟨false,k,vl (enc (.leaf false k)),.inl ⟨rfl,hk⟩,?_⟩
  rw [md_leaf,zz0 st1,zz0 st2,zz0 (σ':=mdS v0 nm nums M ts (vl (.int c)) (vl (enc (.leaf false k))) y),zz0 (app false k)]
  ·rfl
  rw [zz6,hcond]; rfl
theorem md_join_step {M:Nat} {r:List Tm} {a b:Tm} {c:Int} {x y:Option AV} (hz:r.length+1<size) :
  ∃ s',ex (Ga Fs fuel m) md_join (mdS v0 nm nums M (r++[a,b]) (vl (.int c)) x y)=some (.next (mdS v0 nm nums M (r++[.node s' a b]) (vl (.int c)) x (vl (enc b)))):=by
 have s4:zy9 4=true:=by decide
 have z4:(4:Nat)≤size:=by unfold size; decide
 have m4:=zl4 c (b:=4) (by decide)
 obtain ⟨k,hk,hk'⟩:∃ k:Nat,k<4∧c.fmod 4=k:=⟨(c.fmod 4).toNat,by exact (Int.toNat_lt m4.1).mpr m4.2,by exact (Int.toNat_of_nonneg m4.1).symm⟩
 have hk0:(0:Int)≤k:=by exact Int.natCast_nonneg k
 refine ⟨sgOf k,?_⟩
 have hi:([PyData.str "sum", .str "mul", .str "sum", .str "pair"])[k]?=some (.str (sgOf k).str):=by
  have:k=0∨k=1∨k=2∨k=3:=by exact n4s hk
  rcases this with rfl|rfl|rfl|rfl<;>rfl
 rw [md_join,zz0 (σ':=mdS v0 nm nums M (r++[a]) (vl (.int c)) x (vl (enc b))) (by simp),
  zz0 (σ':=mdS v0 nm nums M (r++[.node (sgOf k) a b]) (vl (.int c)) x (vl (enc b))) (by simp [↓bm4,↓mkT3,mkL_,zix1,hk',hk0,hi,hz,z4,enc])]
 rfl
theorem md_last_step {M:Nat} {r:List Tm} {a b:Tm} {x y z:Option AV} (hz:r.length+1<size) :
  ex (Ga Fs fuel m) md_last (mdS v0 nm nums M (r++[a,b]) x y z)=some (.next (mdS v0 nm nums M (r++[.node .sum a b]) x y (vl (enc b)))):=by
 rw [md_last,zz0 (σ':=mdS v0 nm nums M (r++[a]) x y (vl (enc b))) (by simp),
  zz0 (σ':=mdS v0 nm nums M (r++[.node .sum a b]) x y (vl (enc b))) (by simp [↓mkT3,hz,enc,Sn.str])]
 rfl
theorem md_step {M:Nat} {ts:List Tm} {c:Int} {x y:Option AV} (hm:nm≠[]) (hml:nm.length≤10) (hnl:nums.length≤10) (h0:∀ k∈nm,ok (.leaf false k)) (hk:∀ k∈nums,ok (.leaf true k)) (hB:B≤1000) (P:Pile nums B M ts) :
  ∃ M' ts' x' y',ex (Ga Fs fuel m) md_body (mdS v0 nm nums M ts (vl (.int c)) x y)=some (.next (mdS v0 nm nums M' ts' (vl (.int c)) x' y'))∧Pile nums B M' ts':=by
 have hsz:∀ j,j≤1000→j+1<size:=fun j hj=>by unfold size; exact qx (Nat.succ_le_succ hj)
 have hc:=md_cond_ev (Fs:=Fs) (fuel:=fuel) (m:=m) (v0:=v0) (nm:=nm) (nums:=nums) (M:=M) (ts:=ts) (c:=c) (x:=x) (y:=y)
 have ht:=md_test_ev (Fs:=Fs) (fuel:=fuel) (m:=m) (v0:=v0) (nm:=nm) (nums:=nums) (M:=M) (ts:=ts) (x:=vl (.int c)) (y:=x) (z:=y)
 have hlen:=P.len
 cases hb:((decide (c.fmod 8<4)||decide (ts.length<2))&&decide (0<M)) with
 | true =>
  rw [hb] at hc
  simp only [Bool.and_eq_true,decide_eq_true_eq] at hb
  obtain ⟨M,rfl⟩:∃ j,M=j+1:=⟨M - 1,by exact (Nat.sub_add_cancel hb.2).symm⟩
  refine elEEEA (md_leaf_step (Fs:=Fs) (fuel:=fuel) (m:=m) (v0:=v0) (nm:=nm) (M:=M) (ts:=ts) (c:=c) (x:=x) (y:=y) hm hml hnl (hsz _ (by exact qt hlen hB))) fun o k y7 ho e=>?_
  have hok:ok (.leaf o k):=by
   rcases ho with ⟨rfl,h⟩|⟨rfl,h⟩
   ·exact h0 k h
   ·exact hk k h
  refine ⟨M,ts++[.leaf o k],y7,y,?_,⟨fun t ht=>?_,fun t ht=>?_,?_,?_⟩⟩
  ·rw [md_body,zz0 (σ':=mdS v0 nm nums M (ts++[.leaf o k]) (vl (.int c)) y7 y)]
   ·rfl
   rw [zz6,hc]; exact e
  ·rcases List.mem_append.mp ht with q|q
   ·exact P.ok t q
   ·simp at q; subst q; exact hok
  ·rcases List.mem_append.mp ht with q|q
   ·exact P.op t q
   ·simp at q; subst q
    intro k' hk'
    rcases ho with ⟨rfl,_⟩|⟨rfl,h⟩
    ·simp [opl] at hk'
    ·simp [opl] at hk'; subst hk'; exact h
  ·have:=P.sum; simp [num] at this ⊢; bv_omega
  ·have h3:=P.sum
   have:ts.length≤(ts.map num).sum:=by
    clear h3 e hc ht hlen P hb
    induction ts with
    | nil=>simp
    | cons t r ih=>have:=zw3 t; simp; exact qt (Nat.le_of_eq (Nat.add_comm ..)) (qa this ih)
   simp; exact qt (qa this (Nat.le_add_left 1 M)) h3
 | false =>
  rw [hb] at hc
  by_cases h2:2≤ts.length
  ·(refine elEEE (pile_two h2) fun r a b e_3=>?_; subst e_3)
   obtain ⟨s',e⟩:=md_join_step (Fs:=Fs) (fuel:=fuel) (m:=m) (v0:=v0) (nm:=nm) (nums:=nums) (M:=M) (r:=r) (a:=a) (b:=b) (c:=c) (x:=x) (y:=y) (hsz _ (by simp at hlen; exact qt (qf hlen) hB))
   refine ⟨M,r++[.node s' a b],x,vl (enc b),?_,P.join s'⟩
   rw [md_body,zz0 (σ':=mdS v0 nm nums M (r++[.node s' a b]) (vl (.int c)) x (vl (enc b)))]
   ·rfl
   rw [zz6,hc]
   show ex _ (.cons _ .nil) _=_
   rw [zz0 (σ':=mdS v0 nm nums M (r++[.node s' a b]) (vl (.int c)) x (vl (enc b)))]
   ·rfl
   have h1':decide (1<(r++[a,b]).length)=true:=decide_eq_true h2
   rw [zz6,ht,h1']; exact e
  ·refine ⟨M,ts,x,y,?_,P⟩
   rw [md_body,zz0 (σ':=mdS v0 nm nums M ts (vl (.int c)) x y)]
   ·rfl
   rw [zz6,hc]
   show ex _ (.cons _ .nil) _=_
   rw [zz0 (σ':=mdS v0 nm nums M ts (vl (.int c)) x y)]
   ·rfl
   have h1':decide (1<ts.length)=false:=decide_eq_false (by bv_omega)
   rw [zz6,ht,h1']; rfl
theorem md_whl {M:Nat} (hB:B≤1000):∀ (f:Nat) (ts:List Tm) (x y z:Option AV),Pile nums B M ts→ts.length<f →
  ∃ ts' z',zp8 (uno zi3 (ev (Ga Fs fuel m) zi3)) (ex (Ga Fs fuel m) md_last) f (mdS v0 nm nums M ts x y z)=some (.next (mdS v0 nm nums M ts' x y z'))∧Pile nums B M ts'∧ts'.length≤1
 | 0,_,_,_,_,_,h=>absurd h (Nat.not_lt_zero _)
 | f+1,ts,x,y,z,P,hf=>by
  have ht:=md_test_ev (Fs:=Fs) (fuel:=fuel) (m:=m) (v0:=v0) (nm:=nm) (nums:=nums) (M:=M) (ts:=ts) (x:=x) (y:=y) (z:=z)
  by_cases h2:2≤ts.length
  ·(refine elEEE (pile_two h2) fun r a b e_3=>?_; subst e_3)
   have hlen:=P.len
   have h1':decide (1<(r++[a,b]).length)=true:=decide_eq_true h2
   rw [h1'] at ht
   refine elEEAA (md_whl hB f (r++[.node .sum a b]) x y (vl (enc b)) (P.join .sum) (by simp at hf ⊢; exact Nat.lt_of_succ_lt_succ hf)) fun ts' z' e P' hl=>?_
   refine ⟨ts',z',?_,P',hl⟩
   rw [zo2 ht rfl (md_last_step (by simp at hlen; unfold size; exact qx (qt (Nat.le_of_succ_le hlen) hB)))]
   exact e
  ·have h1':decide (1<ts.length)=false:=decide_eq_false (by bv_omega)
   rw [h1'] at ht
   exact ⟨ts,z,zk5 ht rfl,P,by bv_omega⟩
end
theorem zj8 (h:Has Fs "_law_made" ⟨4,8,zn7⟩) (m:Nat) (cs:List Int) {nm nums:List Int} {M:Nat} (hm:nm≠[]) (hml:nm.length≤10) (hnl:nums.length≤10) (h0:∀ k∈nm,ok (.leaf false k)) (hk:∀ k∈nums,ok (.leaf true k)) (hM:M≤100) (hf:1000≤fuel) :
  ∃ t,ok t∧(∀ k∈opl t,k∈nums)∧num t≤max 1 M∧run Fs glo fuel (m+1) "_law_made" [.list (cs.map .int),.list (nums.map .int),.int M,.list (nm.map .int)]=some (enc t,false):=by
 have loop:=zy7 (bnd:=zu2 5) (body:=ex (Ga Fs fuel m) md_body) PyData.int (fun done σ=>∃ M' ts x y z,Pile nums M M' ts∧σ=mdS (vl (.list (cs.map .int))) nm nums M' ts x y z) (L:=cs)
  (σ:=mdS (vl (.list (cs.map .int))) nm nums M [] none none none) ⟨M,[],none,none,none,⟨by simp,by simp,by simp,by simp⟩,rfl⟩ (by
   rintro done c rest σ e ⟨M',ts,x,y,z,P,rfl⟩
   refine elEEEEA (md_step (Fs:=Fs) (fuel:=fuel) (m:=m) (v0:=vl (.list (cs.map .int))) (nm:=nm) (c:=c) (x:=y) (y:=z) hm hml hnl h0 hk (by bv_omega) P) fun M2 ts2 x2 y2 es P2=>?_
   exact ⟨_,_,rfl,es,M2,ts2,vl (.int c),x2,y2,P2,rfl⟩)
 (refine elEAEEEEEA (loop) fun σ' el M' ts x y z P e_8=>?_; subst e_8)
 have hlen:=P.len
 refine elEEAA (md_whl (Fs:=Fs) (fuel:=fuel) (m:=m) (v0:=vl (.list (cs.map .int))) (nm:=nm) (M:=M') (by bv_omega:M≤1000) fuel ts x y z P (by exact Nat.lt_of_le_of_lt (qt hlen hM) (Nat.lt_of_lt_of_le (by decide) hf))) fun ts' z' ew P' hl=>?_
 have hs:∀ d f,ex (Ga Fs fuel m) md_end (mdS (vl (.list (cs.map .int))) nm nums M' ts' x y z')=some (.ret d f)→run Fs glo fuel (m+1) "_law_made" [.list (cs.map .int),.list (nums.map .int),.int M,.list (nm.map .int)]=some (d,f):=fun d f hd=>by
  refine zz7 h rfl ?_
  show ex (Ga Fs fuel m) zn7 [vl (.list (cs.map .int)),vl (.list (nums.map .int)),vl (.int M),vl (.list (nm.map .int)),none,none,none,none]=_
  rw [zn7,zz0 (σ':=mdS (vl (.list (cs.map .int))) nm nums M [] none none none) (by simp [↓mkL0]),zz0 (by rw [zz4]; exact el),zz0 (by rw [eq_ex_whl]; exact ew),hd]
 cases ts' with
 | nil =>
  obtain ⟨n0,r,rfl⟩:=List.exists_cons_of_ne_nil hm
  refine ⟨.leaf false n0,h0 n0 mh,by simp [opl],by simp [num]; exact Nat.le_max_left ..,hs _ _ ?_⟩
  rw [md_end]
  refine zy0 ?_
  simp [zz1,c_eq,eqD,↓mkT2,↓mkL0,↓ix_l0,zs4,zt6,enc,lstr]
 | cons t r =>
  obtain rfl:r=[]:=by cases r with|nil=>rfl|cons _ _=>simp at hl
  have hsum:=P'.sum
  simp at hsum
  refine ⟨t,P'.ok t mh,P'.op t mh,by exact qt (qf hsum) (Nat.le_max_right ..),hs _ _ ?_⟩
  have hsh:=enc_okl (t:=t) (by exact qy (qt (qf hsum) hM))
  rw [md_end,zz0 (σ':=mdS (vl (.list (cs.map .int))) nm nums M' [t] x y z') (by simp [c_eq,eqD,↓mkL0,hsh,zs4,zt6])]
  refine zy0 ?_
  simp [↓ix_l0]
noncomputable def zv2:I:=(.cons (.iff (.cmp .Eq (.bin .Mod (.var 0) (.cint 3)) (.cint 1)) (.cons (.ret (.lst (.cons (.bin .Mod (.bin .FloorDiv (.var 0) (.cint 3)) (.cint 1000000001)) (.cons (.bin .Sub (.cint 1000000000) (.bin .Mod (.bin .FloorDiv (.var 0) (.cint 3)) (.cint 7))) (.cons (.bin .Mod (.bin .FloorDiv (.var 0) (.cint 3)) (.cint 40)) .nil))))) .nil) .nil) (.cons (.iff (.cmp .Eq (.bin .Mod (.var 0) (.cint 3)) (.cint 2)) (.cons (.ret (.lst (.cons (.bin .Add (.cint 100000000) (.bin .Mod (.bin .FloorDiv (.var 0) (.cint 3)) (.cint 900))) (.cons (.bin .Mod (.bin .FloorDiv (.var 0) (.cint 3)) (.cint 900)) (.cons (.bin .Add (.cint 200000000) (.bin .Mod (.bin .FloorDiv (.var 0) (.cint 3)) (.cint 900))) .nil))))) .nil) .nil) (.cons (.ret (.lst (.cons (.cint 0) (.cons (.cint 1) (.cons (.cint 2) .nil))))) .nil)))
theorem run_law_names (h:Has Fs "_law_names" ⟨1,1,zv2⟩) (n:Nat) (c:Int):∃ n0 n1 n2:Int,(∀ k∈[n0,n1,n2],ok (.leaf false k))∧run Fs glo fuel (n+1) "_law_names" [.int c]=some (.list [.int n0,.int n1,.int n2],true):=by
 have s7:zy9 7=true:=by decide
 have s40:zy9 40=true:=by decide
 have s900:zy9 900=true:=by decide
 have sg:zy9 1000000001=true:=by decide
 have z3:(3:Nat)≤size:=size_three
 have a7:=zl4 (c.fdiv 3) (b:=7) (by decide)
 have a40:=zl4 (c.fdiv 3) (b:=40) (by decide)
 have a9:=zl4 (c.fdiv 3) (b:=900) (by decide)
 have ag:=zl4 (c.fdiv 3) (b:=1000000001) (by decide)
 have key:∀ n0 n1 n2:Int,0≤n0∧n0≤1000000000→0≤n1∧n1≤1000000000→0≤n2∧n2≤1000000000→∀ k∈[n0,n1,n2],ok (.leaf false k):=fun n0 n1 n2 h0 h1 h2 k hk=>by
  simp at hk
  rcases hk with rfl|rfl|rfl
  ·exact h0
  ·exact h1
  ·exact h2
 by_cases e1:c.fmod 3=1
 ·refine ⟨(c.fdiv 3).fmod 1000000001,1000000000 - (c.fdiv 3).fmod 7,(c.fdiv 3).fmod 40,key _ _ _ (by exact nir ag) (by exact nis a7) (by exact nir a40),zz7 h rfl ?_⟩
  show ex (Ga Fs fuel n) zv2 [vl (.int c)]=_
  rw [zv2]
  refine zy0 ?_
  simp [zz1,c_eq,eqD,b_sub,b_mod,↓bm3,↓bd3,mkL_,z3,sg,s7,s40,e1,zw0,zr1]
 ·have e1b:(c.fmod 3==1)=false:=by simpa using e1
  by_cases e2:c.fmod 3=2
  ·refine ⟨100000000+(c.fdiv 3).fmod 900,(c.fdiv 3).fmod 900,200000000+(c.fdiv 3).fmod 900,key _ _ _ (by exact nia a9) (by exact nir a9) (by exact nia a9),zz7 h rfl ?_⟩
   show ex (Ga Fs fuel n) zv2 [vl (.int c)]=_
   rw [zv2,zz0 (σ':=[vl (.int c)]) (by simp [c_eq,eqD,↓bm3,e1b,zw0,zr1])]
   refine zy0 ?_
   simp [zz1,c_eq,eqD,↓b_add,b_mod,↓bm3,↓bd3,mkL_,z3,s900,e2,zw0,zr1]
  ·have e2b:(c.fmod 3==2)=false:=by simpa using e2
   refine ⟨0,1,2,key _ _ _ (by bv_omega) (by bv_omega) (by bv_omega),zz7 h rfl ?_⟩
   show ex (Ga Fs fuel n) zv2 [vl (.int c)]=_
   rw [zv2,zz0 (σ':=[vl (.int c)]) (by simp [c_eq,eqD,↓bm3,e1b,zw0,zr1]),zz0 (σ':=[vl (.int c)]) (by simp [c_eq,eqD,↓bm3,e2b,zw0,zr1])]
   refine zy0 ?_
   simp [mkL_,z3]
end Pl
end
section
namespace Pl
open Mini PySem
variable {Fs:Fns} {fuel:Nat}
@[simp] theorem sl13 {a0 a1 a2 a3 a4 a5 a6 a7 a8 a9 a10 a11 a12 a13:Option AV} {σ:Mini.Sg}:sq (a0::a1::a2::a3::a4::a5::a6::a7::a8::a9::a10::a11::a12::a13::σ) 13=some a13:=rfl
@[simp] theorem sl14 {a0 a1 a2 a3 a4 a5 a6 a7 a8 a9 a10 a11 a12 a13 a14:Option AV} {σ:Mini.Sg}:sq (a0::a1::a2::a3::a4::a5::a6::a7::a8::a9::a10::a11::a12::a13::a14::σ) 14=some a14:=rfl
noncomputable def lw_sto:I:=(.cons (.sto 10 (.var 11) (.cbool true)) .nil)
noncomputable def lw_ones:I:=(.call "_law_ones" (.cons (.var 8) (.cons (.var 7) (.cons (.call "_law_filled" (.cons (.var 9) (.cons .dct0 .nil))) .nil))))
noncomputable def lw_made:I:=(.call "made" (.cons (.var 8) (.cons (.var 9) .nil)))
noncomputable def lw_len:I:=(.iff (.or (.cons (.not (.isi (.brw 13) "list")) (.cons (.cmp .NotEq (.prim1 .len (.brw 13)) (.prim1 .len (.var 12))) .nil))) (.cons (.ret (.cbool false)) .nil) .nil)
noncomputable def lw_if:I:=(.iff (.or (.cons (.not (.isi (.idx (.brw 13) (.var 6)) "tuple")) (.cons (.cmp .NotEq (.idx (.brw 13) (.var 6)) (.idx (.var 12) (.var 6))) .nil))) (.cons (.ret (.cbool false)) .nil) .nil)
noncomputable def lw_end:I:=(.cons (.asg 10 .dct0) (.cons (.for1 11 lw_ones lw_sto) (.cons (.asg 12 (.prim1 .sorted (.brw 10))) (.cons (.asg 13 lw_made) (.cons lw_len (.cons (.for1 6 (.rng1 (.prim1 .len (.var 12))) (.cons lw_if .nil)) (.cons (.clr 13) (.cons (.ret (.cmp .Eq lw_made (.var 12))) .nil))))))))
theorem eqv_list {l:List D} (h:∀ x∈l,zz5 x=true):PyData.eqv (.list l) (.list l)=true:=by
 show PyData.eqvAll l l=true
 induction l with
 | nil=>rfl
 | cons x r ih=>exact Bool.and_eq_true_iff.mpr ⟨zo1 (h x mh),ih fun y hy=>h y (mt hy)⟩
structure Hl (Fs:Fns):Prop extends Hd Fs where
 cell_at:Has Fs "_law_cell_at" ⟨2,2,zt9⟩
 names:Has Fs "_law_names" ⟨1,1,zv2⟩
 lmade:Has Fs "_law_made" ⟨4,8,zn7⟩
 has:Has Fs "_law_has" ⟨2,2,zq5⟩
noncomputable abbrev lwS (v0 v1 v2 v3 v4:Option AV) (t u v:Tm) (ns:List Int) (v6 a b c d:Option AV):Mini.Sg:=[v0,v1,v2,v3,v4,vl (enc t),v6,vl (.list (ns.map .int)),vl (.tuple [enc t,enc u]),vl (enc v),a,b,c,d]
theorem lw_end_ok (H:Hl Fs) (n:Nat) (hf:1000≤fuel) {t u v:Tm} {ns:List Int} (Q:Rule t u ns) (kt:ok t) (ku:ok u) (kv:ok v) (nv:num v≤4) (n3:2≤ns.length→num v≤3) (ov:opl v=[]) {v0 v1 v2 v3 v4:Option AV} :
  ex (Ga Fs fuel (n+26)) lw_end (lwS v0 v1 v2 v3 v4 t u v ns none none none none none)=some (.ret (.bool true) false):=by
 have hsz:size=16777216:=rfl
 have hcan:=zk6 v (by bv_omega)
 have hS:Can 7 (shp v):=hcan.1.mono (by bv_omega)
 have hno:zj5 (shp v):=fun i hi=>by have:=(opn_shp v i).mp hi; rw [ov] at this; cases this
 obtain ⟨A,B,b⟩:=both H.toH13 Q (by exact qt (by decide) hf:100≤fuel) 4 (shp v) (n+1) (n+2) (by exact hcan.2▸nv) (by bv_omega) (fun h=>by have:=n3 h; exact hcan.2▸this) hS hno
 have hA7:∀ w∈A,Can 7 w:=fun w hw=>(b.can w hw).1.mono (by exact Nat.succ_le_succ (Nat.succ_le_succ (Nat.succ_le_succ (hcan.2▸nv))))
 have hB7:∀ w∈B,Can 7 w:=fun w hw=>hA7 w ((b.same w).mpr hw)
 have hAl:A.length≤42:=Nat.le_trans b.la (sb_le _ _)
 have hBl:B.length<size:=by
  have h1:=b.lb
  have h2:17^(lv (shp v) - 1)≤4913:=Nat.pow_le_pow_right (n:=17) (by bv_omega) (by exact Nat.sub_le_sub_right (hcan.2▸nv) 1:lv (shp v) - 1≤3)
  exact qx (qt h1 (Nat.mul_le_mul_left 484 h2))
 have em:=run_made (fuel:=fuel) H.toHd (n+15) kt ku kv Q.tn Q.un nv Q.ou ov (by bv_omega) b.code hA7 hAl
 have hds:=dd_sort hA7 b.same
 have hda:=dd_ok fun w hw=>(hA7 w hw).plain
 have eo:=b.law
 rw [show n+2+16+2*4=n+26 by exact rfl] at eo
 rw [show n+15+11=n+26 by bv_omega] at em
 have ef:=zq7 (fuel:=fuel) (κ:=[]) (f:=fun _=>.none) (c:=1) H.ljoined H.filled (by bv_omega) v (n+25 - num v) (by bv_omega) (fun i hi=>by rw [ov] at hi; cases hi) (fun i hi=>by rw [ov] at hi; cases hi)
 rw [lfill_none _ v (by bv_omega) ov,show n+25 - num v+num v+1=n+26 by exact nsc nv] at ef
 have ef':run Fs glo fuel (n+26) "_law_filled" [enc v,.dict []]=some (shp v,false):=ef
 have loop:=zy7 (bnd:=zu2 11) (body:=ex (Ga Fs fuel (n+26)) lw_sto) id (fun done σ=>∃ d,σ=lwS v0 v1 v2 v3 v4 t u v ns none (ow (.dict ((dd done).map enR))) d none none) (L:=B) (σ:=lwS v0 v1 v2 v3 v4 t u v ns none (ow (.dict [])) none none none) ⟨_,rfl⟩ (by
  rintro done w rest σ e ⟨d,rfl⟩
  have hin:∀ x∈done,x∈B:=fun x hx=>by exact mml e hx
  refine elAA (dd_ok (P:=done) fun x hx=>(hB7 x (hin x hx)).plain) fun a1 a2 a3=>?_
  have hdl:done.length+1≤B.length:=by exact lm1 e
  have hk:=keys_enR ((hB7 w (by exact mm e)).tkey (by bv_omega)) fun p hp=>(hB7 p (hin p ((a1 p).mp hp))).tkey (by bv_omega)
  refine ⟨_,_,rfl,?_,vl w,rfl⟩
  rw [dd_snoc,lw_sto,zz0 (sto_set (σ':=lwS v0 v1 v2 v3 v4 t u v ns none (ow (.dict ((dd done).map enR))) (vl w) none none) (R:=dd done) (kd:=w) (f:=false) rfl rfl rfl hk (by exact ql (qt a3 (qf hdl)) hBl))]
  rfl)
 rw [List.map_id] at loop
 (refine elEAE (loop) fun σ' el d e_5=>?_; subst e_5)
 have hdb:=dd_ok fun w hw=>(hB7 w hw).plain
 have hso:=sortD_can (l:=dd B) (k:=7) (fun x hx=>hB7 x ((hdb.1 x).mp hx)) (by bv_omega) (by exact qx (hds.2▸qt hda.2.2 hAl))
 rw [← hds.1] at hso
 have hke:=keysOf_enR (dd B)
 have hX:∀ x∈zx6 (dd A),Can 7 x:=fun x hx=>hA7 x ((hda.1 x).mp ((zz2 _).mem_iff.mp hx))
 have hXl:(zx6 (dd A)).length≤42:=by rw [(zz2 _).length_eq]; exact qt hda.2.2 hAl
 generalize zx6 (dd A)=X at *
 generalize hR:ow (.dict ((dd B).map enR))=R at *
 have okX:okd (.list X)=true:=zi0 hX (by bv_omega)
 have eqX:=eqv_list fun x hx=>(hX x hx).plain
 have loop2:=zy7 (bnd:=zu2 6) (body:=ex (Ga Fs fuel (n+26)) (.cons lw_if .nil)) (fun k:Nat=>PyData.int (0+(k:Int))) (fun done σ=>∃ v6,σ=lwS v0 v1 v2 v3 v4 t u v ns v6 R d (vl (.list X)) (ow (.list X))) (L:=List.range X.length)
  (σ:=lwS v0 v1 v2 v3 v4 t u v ns none R d (vl (.list X)) (ow (.list X))) ⟨_,rfl⟩ (by
   rintro done a rest σ e ⟨v6,rfl⟩
   obtain ⟨_,hlt⟩:=range_at e
   have hidx:X[a]?=some X[a]:=List.getElem?_eq_getElem hlt
   have hx:=hX X[a] (List.getElem_mem hlt)
   have o1:=hx.okd (by bv_omega)
   have q1:=zo1 hx.plain
   (refine elEEA (hx.head) fun y r e_2 _=>?_)
   have hisi:isiD X[a] "tuple" = some true:=by rw [e_2]; rfl
   refine ⟨_,_,by rw [Int.zero_add]; rfl,?_,vl (.int a),rfl⟩
   generalize X[a]=x at *
   rw [zz0 (σ':=lwS v0 v1 v2 v3 v4 t u v ns (vl (.int a)) R d (vl (.list X)) (ow (.list X)))]
   ·rfl
   rw [lw_if]
   simp [c_ne,eqD,zix1,hidx,hisi,o1,q1])
 (refine elEAE (loop2) fun σ' el2 v6 e_5=>?_; subst e_5)
 have hs1:zy9 (X.length:Int)=true:=by simp only [zy9,decide_eq_true_eq]; exact na62 hXl
 have hs2:X.length≤size:=by exact qy hXl
 rw [lw_end,zz0 (σ':=lwS v0 v1 v2 v3 v4 t u v ns none (ow (.dict [])) none none none) (by simp),
  zz0 (by
   rw [zz4,show srcE (ev (Ga Fs fuel (n+26)) lw_ones) (lwS v0 v1 v2 v3 v4 t u v ns none (ow (.dict [])) none none none)=some (B,lwS v0 v1 v2 v3 v4 t u v ns none (ow (.dict [])) none none none) by rw [lw_ones]; simp [zit1,ef',eo]]
   exact el),
  zz0 (σ':=lwS v0 v1 v2 v3 v4 t u v ns none R d (ow (.list X)) none) (by
   subst hR
   rw [zk3,zm2]
   show (((some (PyData.dict ((dd B).map enR),lwS v0 v1 v2 v3 v4 t u v ns none (ow (.dict ((dd B).map enR))) d none none)).bind _).bind _)=_
   simp only [Option.bind_some,p_srt,r_srt,zso2,hke,hso]
   rfl),
  zz0 (σ':=lwS v0 v1 v2 v3 v4 t u v ns none R d (ow (.list X)) (ow (.list X))) (by rw [lw_made]; simp [em]),
  zz0 (σ':=lwS v0 v1 v2 v3 v4 t u v ns none R d (vl (.list X)) (ow (.list X))) (by rw [lw_len]; simp [c_ne,eqD,zr2,zle1,isi_list,zw0,zr1]),
  zz0 (by
   rw [zz4,show srcE (ev (Ga Fs fuel (n+26)) (.rng1 (.prim1 .len (.var 12)))) (lwS v0 v1 v2 v3 v4 t u v ns none R d (vl (.list X)) (ow (.list X)))=some ((List.range X.length).map fun k:Nat=>PyData.int (0+(k:Int)),lwS v0 v1 v2 v3 v4 t u v ns none R d (vl (.list X)) (ow (.list X))) by
    simp [zr2,zle1,zai,zit1,hs1,hs2,zs9]]
   exact el2),
  zz0 (σ':=lwS v0 v1 v2 v3 v4 t u v ns v6 R d (vl (.list X)) (ow (.list []))) (by rw [eq_ex_clr]; rfl)]
 refine zy0 ?_
 rw [lw_made]; simp [c_eq,eqD,em,okX,eqX]
end Pl
end
section
namespace Pl
open Mini PySem
variable {Fs:Fns} {fuel:Nat}
noncomputable def lw_two:I:=(.slc (.var 3) .omit (.cint 2))
noncomputable def lw_all:I:=(.lst (.cons (.lst (.cons (.cint 0) (.cons (.cint 1) .nil))) (.cons (.lst (.cons (.cint 0) (.cons (.cint 9) .nil))) (.cons (.lst (.cons (.cint 3) (.cons (.cint 8) .nil))) (.cons (.lst (.cons (.cint 5) (.cons (.cint 6) .nil))) .nil)))))
noncomputable def lw_spots:I:=(.slc (.idx lw_all (.bin .Mod (.var 2) (.cint 4))) .omit (.bin .Add (.cint 1) (.bin .Mod (.var 1) (.cint 2))))
noncomputable def lw_c1:I:=(.slc (.var 0) (.cint 1) (.bin .Add (.cint 2) (.bin .Mod (.bin .FloorDiv (.var 1) (.cint 2)) (.cint 5))))
noncomputable def lw_c2:I:=(.slc (.var 0) (.cint 6) (.bin .Add (.cint 7) (.bin .Mod (.bin .FloorDiv (.var 1) (.cint 10)) (.cint 4))))
noncomputable def lw_c3:I:=(.slc (.var 0) (.cint 10) (.cint 16))
noncomputable def lw_p:I:=(.call "_law_made" (.cons lw_c1 (.cons (.var 4) (.cons (.cint 3) (.cons lw_two .nil)))))
noncomputable def lw_nums:I:=(.comp1 (.var 14) (.var 4) (.call "_law_has" (.cons (.var 5) (.cons (.var 14) .nil))))
noncomputable def lw_r:I:=(.call "_law_made" (.cons lw_c2 (.cons (.var 7) (.cons (.cint 3) (.cons (.var 3) .nil)))))
noncomputable def lw_most:I:=(.bin .Sub (.cint 5) (.prim2 .max (.cint 1) (.prim1 .len (.var 7))))
noncomputable def lw_t:I:=(.call "_law_made" (.cons lw_c3 (.cons (.lst .nil) (.cons lw_most (.cons lw_two .nil)))))
noncomputable def ir_law:I:=(.cons (.asg 1 (.call "_law_cell_at" (.cons (.var 0) (.cons (.cint 0) .nil)))) (.cons (.asg 2 (.call "_law_cell_at" (.cons (.var 0) (.cons (.cint 16) .nil)))) (.cons (.asg 3 (.call "_law_names" (.cons (.bin .FloorDiv (.var 2) (.cint 4)) .nil))) (.cons (.asg 4 lw_spots) (.cons (.asg 5 lw_p) (.cons (.asg 7 lw_nums) (.cons (.asg 8 (.tup (.cons (.var 5) (.cons lw_r .nil)))) (.cons (.asg 9 lw_t) lw_end))))))))
noncomputable abbrev lbS (v0 v1 v2 v3 v4 v5 v7 v8 v9:Option AV):Mini.Sg:=[v0,v1,v2,v3,v4,v5,none,v7,v8,v9,none,none,none,none]
noncomputable def isOp (t:Tm):D→Bool
 | .int k=>decide (k∈opl t)
 | _=>false
theorem o_prim2 {p:Prim} {a b:I} {h:Ev} {σ:Mini.Sg}:opn (.prim2 p a b) h σ=(h σ).bind kdat:=rfl
theorem slice_ints (ns:List Int) (a b:Option Int):zv0 (ns.map PyData.int) a b=(zv0 ns a b).map .int:=by simp [zv0,List.map_drop,List.map_take]
section
variable {m:Nat} {v0 v1 v2 v3 v4 v5:Option AV} {c d n0 n1 n2:Int} {N L:List D} {r:D}
theorem lw_s1 (h:run Fs glo fuel m "_law_cell_at" [.list N,.int 0]=some (r,false)):ex (Ga Fs fuel m) (.asg 1 (.call "_law_cell_at" (.cons (.var 0) (.cons (.cint 0) .nil)))) (lbS (vl (.list N)) v1 v2 v3 v4 v5 none none none)=some (.next (lbS (vl (.list N)) (vl r) v2 v3 v4 v5 none none none)):=by simp [h]
theorem lw_s2 (h:run Fs glo fuel m "_law_cell_at" [.list N,.int 16]=some (r,false)):ex (Ga Fs fuel m) (.asg 2 (.call "_law_cell_at" (.cons (.var 0) (.cons (.cint 16) .nil)))) (lbS (vl (.list N)) v1 v2 v3 v4 v5 none none none)=some (.next (lbS (vl (.list N)) v1 (vl r) v3 v4 v5 none none none)):=by simp [h]
theorem lw_s3 (h:run Fs glo fuel m "_law_names" [.int (d.fdiv 4)]=some (r,true)):ex (Ga Fs fuel m) (.asg 3 (.call "_law_names" (.cons (.bin .FloorDiv (.var 2) (.cint 4)) .nil))) (lbS v0 v1 (vl (.int d)) v3 v4 v5 none none none)=some (.next (lbS v0 v1 (vl (.int d)) (ow r) v4 v5 none none none)):=by simp [↓bd4,h]
noncomputable def lwZ (x y:Int):Option (D×Bool):=(idxD (.list [.list [.int 0,.int 1],.list [.int 0,.int 9],.list [.int 3,.int 8],.list [.int 5,.int 6]]) (.int x)).bind fun l=>(bndD (.int (1+y))).bind fun j=>sliceD l none (some j)
theorem lw_sp {x y:Int} {l:List D} (e:d.fmod 4=x) (q:c.fmod 2=y) (z:lwZ x y=some (.list l,true)):ex (Ga Fs fuel m) (.asg 4 lw_spots) (lbS v0 (vl (.int c)) (vl (.int d)) v3 none none none none none)=some (.next (lbS v0 (vl (.int c)) (vl (.int d)) v3 (ow (.list l)) none none none none)):=by
 subst e; subst q
 have z4:(4:Nat)≤size:=by unfold size; decide
 rw [zk3,lw_spots,zw9,o_idx]
 have h1:ev (Ga Fs fuel m) (.idx lw_all (.bin .Mod (.var 2) (.cint 4))) (lbS v0 (vl (.int c)) (vl (.int d)) v3 none none none none none)=(idxD (.list [.list [.int 0,.int 1],.list [.int 0,.int 9],.list [.int 3,.int 8],.list [.int 5,.int 6]]) (.int (d.fmod 4))).bind (kd (lbS v0 (vl (.int c)) (vl (.int d)) v3 none none none none none)):=by
  rw [lw_all]; simp [↓bm4,↓mkL2,mkL_,z4]
 rw [h1]
 unfold lwZ at z
 cases hi:idxD (.list [.list [.int 0,.int 1],.list [.int 0,.int 9],.list [.int 3,.int 8],.list [.int 5,.int 6]]) (.int (d.fmod 4)) with
 | none=>rw [hi] at z; exact (noS z).elim
 | some l' =>
  rw [hi] at z
  cases hj:bndD (.int (1+c.fmod 2)) with
  | none=>rw [Option.bind_some,hj] at z; exact (noS z).elim
  | some j =>
   rw [Option.bind_some,hj,Option.bind_some] at z
   simp [↓bm2,↓b_add,bE_o,bE_b,kbe_,hj,z]
theorem lw_k {x y:Int} (sp:List Int) (e:d.fmod 4=x) (q:c.fmod 2=y) (h:sp.Nodup∧sp.length≤2∧∀ k∈sp,0≤k∧k≤9) (z:lwZ x y=some (.list (sp.map .int),true)):∃ sp:List Int,sp.Nodup∧sp.length≤2∧(∀ k∈sp,ok (.leaf true k))∧ex (Ga Fs fuel m) (.asg 4 lw_spots) (lbS v0 (vl (.int c)) (vl (.int d)) v3 none none none none none)=some (.next (lbS v0 (vl (.int c)) (vl (.int d)) v3 (ow (.list (sp.map .int))) none none none none)):=⟨sp,h.1,h.2.1,h.2.2,lw_sp e q z⟩
theorem lw_s4:∃ sp:List Int,sp.Nodup∧sp.length≤2∧(∀ k∈sp,ok (.leaf true k))∧ex (Ga Fs fuel m) (.asg 4 lw_spots) (lbS v0 (vl (.int c)) (vl (.int d)) v3 none none none none none)=some (.next (lbS v0 (vl (.int c)) (vl (.int d)) v3 (ow (.list (sp.map .int))) none none none none)):=by
 rcases n4i (zl4 d (b:=4) (by decide)) with e|e|e|e<;>rcases n2i (zl4 c (b:=2) (by decide)) with q|q
 ·exact lw_k [0] e q (by decide) rfl
 ·exact lw_k [0,1] e q (by decide) rfl
 ·exact lw_k [0] e q (by decide) rfl
 ·exact lw_k [0,9] e q (by decide) rfl
 ·exact lw_k [3] e q (by decide) rfl
 ·exact lw_k [3,8] e q (by decide) rfl
 ·exact lw_k [5] e q (by decide) rfl
 ·exact lw_k [5,6] e q (by decide) rfl
theorem lw_s5 (hb:(2+(c.fdiv 2).fmod 5).natAbs<4611686018427387904) (hr:run Fs glo fuel m "_law_made" [.list (zv0 N (some 1) (some (2+(c.fdiv 2).fmod 5))),.list L,.int 3,.list [.int n0,.int n1]]=some (r,false)) :
  ex (Ga Fs fuel m) (.asg 5 lw_p) (lbS (vl (.list N)) (vl (.int c)) v2 (ow (.list [.int n0,.int n1,.int n2])) (ow (.list L)) none none none none)=some (.next (lbS (vl (.list N)) (vl (.int c)) v2 (vl (.list [.int n0,.int n1,.int n2])) (vl (.list L)) (vl r) none none none)):=by
 have hn2:zv0 [PyData.int n0,.int n1,.int n2] none (some 2)=[.int n0,.int n1]:=rfl
 rw [lw_p,lw_c1,lw_two]
 simp [zw9,bE_c,bE_b,bE_o,kbe_,zsl1,bD_,↓b_add,b_mod,↓bd2,zy9,hb,hn2,hr]
theorem lw_s7 {sp:List Int} {t:Tm} (hl:sp.length≤2) (has:∀ k,run Fs glo fuel m "_law_has" [enc t,.int k]=some (.bool (decide (k∈opl t)),false)) :
  ex (Ga Fs fuel m) (.asg 7 lw_nums) (lbS v0 v1 v2 v3 (vl (.list (sp.map .int))) (vl (enc t)) none none none)=some (.next (lbS v0 v1 v2 v3 (vl (.list (sp.map .int))) (vl (enc t)) (ow (.list ((sp.filter fun k=>decide (k∈opl t)).map .int))) none none)):=by
 have hcomp:=zt2 (n:=14) (bc:=bc1) (cond:=zp5 (.call "_law_has" (.cons (.var 5) (.cons (.var 14) .nil))) (ev (Ga Fs fuel m) (.call "_law_has" (.cons (.var 5) (.cons (.var 14) .nil))))) (elt:=ev (Ga Fs fuel m) (.var 14)) (σ:=lbS v0 v1 v2 v3 (vl (.list (sp.map .int))) (vl (enc t)) none none none)
  (c:=isOp t) (F:=id) rfl (ds:=sp.map .int) fun x hx=>by
   (refine elEA (List.mem_map.mp hx) fun k hk e_2=>?_; subst e_2)
   refine ⟨[.int k],rfl,?_,fun _=>⟨false,rfl⟩⟩
   simp [cE_k,isOp,has k]
 rw [List.map_id,List.filter_map] at hcomp
 rw [zk3,lw_nums,zv7]
 show ((((zi9 14 _ _ (sp.map .int) (lbS v0 v1 v2 v3 (vl (.list (sp.map .int))) (vl (enc t)) none none none)).bind _)).bind _)=_
 rw [zr6,hcomp]
 simp only [Option.bind_some,mkL]
 rw [if_pos (by rw [List.length_map]; exact qy (qt (List.length_filter_le ..) hl))]
 rfl
theorem lw_s8 {t:D} (hb:(7+(c.fdiv 10).fmod 4).natAbs<4611686018427387904) (hr:run Fs glo fuel m "_law_made" [.list (zv0 N (some 6) (some (7+(c.fdiv 10).fmod 4))),.list L,.int 3,.list [.int n0,.int n1,.int n2]]=some (r,false)) :
  ex (Ga Fs fuel m) (.asg 8 (.tup (.cons (.var 5) (.cons lw_r .nil)))) (lbS (vl (.list N)) (vl (.int c)) v2 (vl (.list [.int n0,.int n1,.int n2])) v4 (vl t) (ow (.list L)) none none)=some (.next (lbS (vl (.list N)) (vl (.int c)) v2 (vl (.list [.int n0,.int n1,.int n2])) v4 (vl t) (vl (.list L)) (vl (.tuple [t,r])) none)):=by
 rw [lw_r,lw_c2]
 simp [zw9,bE_c,bE_b,kbe_,zsl1,bD_,↓b_add,↓bm4,b_div,zy9,hb,hr,↓mkT2]
theorem lw_s9 {M:Nat} {ms:List Int} {v8:Option AV} (hM:(5:Int) - max 1 (ms.length:Int)=M) (hr:run Fs glo fuel m "_law_made" [.list (zv0 N (some 10) (some 16)),.list [],.int M,.list [.int n0,.int n1]]=some (r,false)) :
  ex (Ga Fs fuel m) (.asg 9 lw_t) (lbS (vl (.list N)) v1 v2 (vl (.list [.int n0,.int n1,.int n2])) v4 v5 (vl (.list (ms.map .int))) v8 none)=some (.next (lbS (vl (.list N)) v1 v2 (vl (.list [.int n0,.int n1,.int n2])) v4 v5 (vl (.list (ms.map .int))) v8 (vl r))):=by
 have hn2:zv0 [PyData.int n0,.int n1,.int n2] none (some 2)=[.int n0,.int n1]:=rfl
 rw [lw_t,lw_c3,lw_most,lw_two]
 simp [zw9,bE_c,bE_o,kbe_,zsl1,bD_,↓mkL0,o_prim2,b_sub,prim2D,zr7,zr2,zle1,hM,hn2,hr]
end
theorem run_law (H:Hl Fs) (hlaw:Has Fs "law" ⟨1,14,ir_law⟩) (n:Nat) (hf:1000≤fuel) (ns:List Int):run Fs glo fuel (n+27) "law" [.list (ns.map .int)]=some (.bool true,false):=by
 refine zz7 hlaw rfl ?_
 show ex (Ga Fs fuel (n+26)) ir_law (lbS (vl (.list (ns.map .int))) none none none none none none none none)=_
 have e1:=run_cell (fuel:=fuel) H.cell_at (n+25) ns 0
 have e2:=run_cell (fuel:=fuel) H.cell_at (n+25) ns 16
 generalize ns.getD 0 0=c at e1
 generalize ns.getD 16 0=d at e2
 refine elEEEA (run_law_names (fuel:=fuel) H.names (n+25) (d.fdiv 4)) fun n0 n1 n2 o0 e3=>?_
 refine elEAAA (lw_s4 (Fs:=Fs) (fuel:=fuel) (m:=n+26) (v0:=vl (.list (ns.map .int))) (v3:=ow (.list [.int n0,.int n1,.int n2])) (c:=c) (d:=d)) fun sp hsn hsl hso s4=>?_
 have o2:∀ k∈[n0,n1],ok (.leaf false k):=fun k hk=>o0 k (List.mem_append_left [n2] hk)
 refine elEAAA (zj8 (fuel:=fuel) H.lmade (n+25) (zv0 ns (some 1) (some (2+(c.fdiv 2).fmod 5))) (nm:=[n0,n1]) (nums:=sp) (M:=3) (List.cons_ne_nil _ _) (show 2≤10 by decide) (qy hsl) o2 hso (by decide) hf) fun t t1 t2 t3 e5=>?_
 rw [← slice_ints] at e5
 obtain ⟨ms,hms⟩:∃ ms,ms=sp.filter fun k=>decide (k∈opl t):=⟨_,rfl⟩
 have hnn:ms.Nodup:=by rw [hms]; exact List.Pairwise.filter _ hsn
 have hml:ms.length≤2:=by rw [hms]; exact Nat.le_trans (List.length_filter_le _ _) hsl
 have hmm:∀ k,k∈ms↔k∈opl t:=fun k=>by
  rw [hms,List.mem_filter,decide_eq_true_eq]
  exact ⟨fun h=>h.2,fun h=>⟨t2 k h,h⟩⟩
 have t3':num t≤3:=qt t3 (by decide)
 have s7:=lw_s7 (Fs:=Fs) (fuel:=fuel) (m:=n+26) (v0:=vl (.list (ns.map .int))) (v1:=vl (.int c)) (v2:=vl (.int d)) (v3:=vl (.list [.int n0,.int n1,.int n2])) (t:=t) hsl fun k=>by
  have er:=run_law_has (fuel:=fuel) H.has k t (n+26 - num t)
  rwa [show n+26 - num t+num t=n+26 from nsc (c:=0) t3'] at er
 rw [← hms] at s7
 refine elEAAA (zj8 (fuel:=fuel) H.lmade (n+25) (zv0 ns (some 6) (some (7+(c.fdiv 10).fmod 4))) (nm:=[n0,n1,n2]) (nums:=ms) (M:=3) (List.cons_ne_nil _ _) (show 3≤10 by decide) (qy hml) o0 (fun k hk=>hso k (by rw [hms] at hk; exact (List.mem_filter.mp hk).1)) (by decide) hf) fun u u1 u2 u3 e8=>?_
 rw [← slice_ints] at e8
 obtain ⟨M,hM,hM3⟩:∃ M:Nat,(5:Int) - max 1 (ms.length:Int)=M∧M≤4∧(2≤ms.length→M≤3):=⟨_,nmo hml⟩
 refine elEAAA (zj8 (fuel:=fuel) H.lmade (n+25) (zv0 ns (some 10) (some 16)) (nm:=[n0,n1]) (nums:=[]) (M:=M) (List.cons_ne_nil _ _) (show 2≤10 by decide) (by decide) o2 (fun k h=>nomatch h) (qy hM3.1) hf) fun v v1 v2 v3 e9=>?_
 rw [← slice_ints] at e9
 have ov:opl v=[]:=List.eq_nil_iff_forall_not_mem.mpr fun k hk=>nomatch v2 k hk
 rw [ir_law,zz0 (lw_s1 e1),zz0 (lw_s2 e2),zz0 (lw_s3 e3),zz0 s4,zz0 (lw_s5 (nab (zl4 (c.fdiv 2) (b:=5) (by decide))) e5),zz0 s7,zz0 (lw_s8 (nab (zl4 (c.fdiv 10) (b:=4) (by decide))) e8),zz0 (lw_s9 hM e9)]
 exact lw_end_ok H n hf ⟨t3',qt u3 (by decide),hnn,hml,hmm,fun k hk=>(hmm k).mp (u2 k hk)⟩ t1 u1 v1 (qt v3 (nmk (by decide) hM3.1)) (fun h=>qt v3 (nmk (by decide) (hM3.2 h))) ov
end Pl
end
section
namespace L13
open Mini PySem Pl
noncomputable def fns:Fns:=[("is_whole", ⟨2,2,zt0⟩),
 ("is_leaf", ⟨1,1,zr0⟩),
 ("leaves", ⟨1,4,ir_leaves⟩),
 ("opens_within", ⟨1,4,zu8⟩),
 ("parts_in", ⟨2,2,zx1⟩),
 ("joined", ⟨2,4,zw8⟩),
 ("shaped", ⟨1,1,zn4⟩),
 ("put_in", ⟨2,2,zn5⟩),
 ("choices", ⟨1,7,zq6⟩),
 ("without", ⟨2,4,zt5⟩),
 ("open_met", ⟨5,9,zw6⟩),
 ("part_met", ⟨3,6,zn6⟩),
 ("join_met", ⟨3,9,zu9⟩),
 ("met", ⟨3,6,zp9⟩),
 ("fillings_of", ⟨2,10,zs0⟩),
 ("at_top", ⟨3,3,ir_at_top⟩),
 ("within_join", ⟨3,10,zt8⟩),
 ("steps", ⟨3,5,zr4⟩),
 ("made", ⟨2,8,ir_made⟩),
 ("_law_cell_at", ⟨2,2,zt9⟩),
 ("_law_names", ⟨1,1,zv2⟩),
 ("_law_made", ⟨4,8,zn7⟩),
 ("_law_joined", ⟨2,4,zy6⟩),
 ("_law_filled", ⟨2,4,zv3⟩),
 ("_law_choices", ⟨1,3,zy8⟩),
 ("_law_tries", ⟨1,5,zp3⟩),
 ("_law_uses", ⟨3,10,zk9⟩),
 ("_law_ones", ⟨3,6,zw7⟩),
 ("_law_has", ⟨2,2,zq5⟩),
 ("law", ⟨1,14,ir_law⟩)]
theorem hs:Hl fns where
 parts_in:=by rfl
 joined:=by rfl
 choices:=by rfl
 without:=by rfl
 open_met:=by rfl
 part_met:=by rfl
 join_met:=by rfl
 met:=by rfl
 opens_within:=by rfl
 shaped:=by rfl
 fillings_of:=by rfl
 put_in:=by rfl
 at_top:=by rfl
 ljoined:=by rfl
 filled:=by rfl
 lchoices:=by rfl
 tries:=by rfl
 uses:=by rfl
 within_join:=by rfl
 steps:=by rfl
 ones:=by rfl
 is_whole:=by rfl
 is_leaf:=by rfl
 leaves:=by rfl
 made:=by rfl
 cell_at:=by rfl
 names:=by rfl
 lmade:=by rfl
 has:=by rfl
theorem run13 (ns:List Int):Mini.run fns glo 1000 500 "law" [.list (ns.map .int)]=some (.bool true,false):=run_law hs (by rfl) 473 (by bv_omega) ns
end L13
end
theorem Pl.glo_same:Pl.glo=Snd.glo:=rfl
open PySem in
noncomputable def Snd.topK (P:Params):W.Frag:=[(3,{ cls:=Value.type "dict", data:=Data.dict #[{ hash:=PyData.keyHash P (Str.ofString "__name__"),key:=Value.str (Str.ofString "__name__") 165,val:=Value.str (Str.ofString "law_uf020015_13") 470 },{ hash:=PyData.keyHash P (Str.ofString "__doc__"),key:=Value.str (Str.ofString "__doc__") 166,val:=Value.none },{ hash:=PyData.keyHash P (Str.ofString "__package__"),key:=Value.str (Str.ofString "__package__") 167,val:=Value.none },{ hash:=PyData.keyHash P (Str.ofString "__loader__"),key:=Value.str (Str.ofString "__loader__") 168,val:=Value.builtin "__main__.__loader__#opaque" },{ hash:=PyData.keyHash P (Str.ofString "__spec__"),key:=Value.str (Str.ofString "__spec__") 169,val:=Value.none },{ hash:=PyData.keyHash P (Str.ofString "__annotations__"),key:=Value.str (Str.ofString "__annotations__") 170,val:=Value.ref 6 },{ hash:=PyData.keyHash P (Str.ofString "__builtins__"),key:=Value.str (Str.ofString "__builtins__") 171,val:=Value.ref 4 },{ hash:=PyData.keyHash P (Str.ofString "__file__"),key:=Value.str (Str.ofString "__file__") 173,val:=Value.str (Str.ofString "/claim/cut.py") 172 },{ hash:=PyData.keyHash P (Str.ofString "__cached__"),key:=Value.str (Str.ofString "__cached__") 174,val:=Value.none },{ hash:=PyData.keyHash P (Str.ofString "TermError"),key:=Value.str (Str.ofString "TermError") 206,val:=Value.ref 24 },{ hash:=PyData.keyHash P (Str.ofString "NoTerm"),key:=Value.str (Str.ofString "NoTerm") 222,val:=Value.ref 37 },{ hash:=PyData.keyHash P (Str.ofString "TooGreat"),key:=Value.str (Str.ofString "TooGreat") 238,val:=Value.ref 49 },{ hash:=PyData.keyHash P (Str.ofString "HasOpen"),key:=Value.str (Str.ofString "HasOpen") 254,val:=Value.ref 61 },{ hash:=PyData.keyHash P (Str.ofString "NoRule"),key:=Value.str (Str.ofString "NoRule") 270,val:=Value.ref 73 },{ hash:=PyData.keyHash P (Str.ofString "LEAVES"),key:=Value.str (Str.ofString "LEAVES") 274,val:=Value.int 40 273 },{ hash:=PyData.keyHash P (Str.ofString "GREATEST"),key:=Value.str (Str.ofString "GREATEST") 276,val:=Value.int 1000000000 275 },{ hash:=PyData.keyHash P (Str.ofString "OPENS"),key:=Value.str (Str.ofString "OPENS") 278,val:=Value.int 10 277 },{ hash:=PyData.keyHash P (Str.ofString "JOINS"),key:=Value.str (Str.ofString "JOINS") 281,val:=Value.ref 76 },{ hash:=PyData.keyHash P (Str.ofString "is_whole"),key:=Value.str (Str.ofString "is_whole") 289,val:=Value.ref 83 },{ hash:=PyData.keyHash P (Str.ofString "is_leaf"),key:=Value.str (Str.ofString "is_leaf") 296,val:=Value.ref 90 },{ hash:=PyData.keyHash P (Str.ofString "leaves"),key:=Value.str (Str.ofString "leaves") 306,val:=Value.ref 97 },{ hash:=PyData.keyHash P (Str.ofString "opens_within"),key:=Value.str (Str.ofString "opens_within") 316,val:=Value.ref 104 },{ hash:=PyData.keyHash P (Str.ofString "parts_in"),key:=Value.str (Str.ofString "parts_in") 326,val:=Value.ref 111 },{ hash:=PyData.keyHash P (Str.ofString "joined"),key:=Value.str (Str.ofString "joined") 336,val:=Value.ref 118 },{ hash:=PyData.keyHash P (Str.ofString "shaped"),key:=Value.str (Str.ofString "shaped") 343,val:=Value.ref 125 },{ hash:=PyData.keyHash P (Str.ofString "put_in"),key:=Value.str (Str.ofString "put_in") 353,val:=Value.ref 132 },{ hash:=PyData.keyHash P (Str.ofString "choices"),key:=Value.str (Str.ofString "choices") 359,val:=Value.ref 137 },{ hash:=PyData.keyHash P (Str.ofString "without"),key:=Value.str (Str.ofString "without") 369,val:=Value.ref 144 },{ hash:=PyData.keyHash P (Str.ofString "open_met"),key:=Value.str (Str.ofString "open_met") 384,val:=Value.ref 151 },{ hash:=PyData.keyHash P (Str.ofString "part_met"),key:=Value.str (Str.ofString "part_met") 396,val:=Value.ref 158 },{ hash:=PyData.keyHash P (Str.ofString "join_met"),key:=Value.str (Str.ofString "join_met") 402,val:=Value.ref 163 },{ hash:=PyData.keyHash P (Str.ofString "met"),key:=Value.str (Str.ofString "met") 414,val:=Value.ref 170 },{ hash:=PyData.keyHash P (Str.ofString "fillings_of"),key:=Value.str (Str.ofString "fillings_of") 420,val:=Value.ref 175 },{ hash:=PyData.keyHash P (Str.ofString "at_top"),key:=Value.str (Str.ofString "at_top") 428,val:=Value.ref 180 },{ hash:=PyData.keyHash P (Str.ofString "within_join"),key:=Value.str (Str.ofString "within_join") 444,val:=Value.ref 187 },{ hash:=PyData.keyHash P (Str.ofString "steps"),key:=Value.str (Str.ofString "steps") 455,val:=Value.ref 194 },{ hash:=PyData.keyHash P (Str.ofString "made"),key:=Value.str (Str.ofString "made") 469,val:=Value.ref 201 },{ hash:=PyData.keyHash P (Str.ofString "_law_cell_at"),key:=Value.str (Str.ofString "_law_cell_at") 479,val:=Value.ref 208 },{ hash:=PyData.keyHash P (Str.ofString "_law_names"),key:=Value.str (Str.ofString "_law_names") 486,val:=Value.ref 215 },{ hash:=PyData.keyHash P (Str.ofString "_law_made"),key:=Value.str (Str.ofString "_law_made") 500,val:=Value.ref 222 },{ hash:=PyData.keyHash P (Str.ofString "_law_joined"),key:=Value.str (Str.ofString "_law_joined") 510,val:=Value.ref 229 },{ hash:=PyData.keyHash P (Str.ofString "_law_filled"),key:=Value.str (Str.ofString "_law_filled") 520,val:=Value.ref 236 },{ hash:=PyData.keyHash P (Str.ofString "_law_choices"),key:=Value.str (Str.ofString "_law_choices") 526,val:=Value.ref 241 },{ hash:=PyData.keyHash P (Str.ofString "_law_tries"),key:=Value.str (Str.ofString "_law_tries") 537,val:=Value.ref 248 },{ hash:=PyData.keyHash P (Str.ofString "_law_uses"),key:=Value.str (Str.ofString "_law_uses") 543,val:=Value.ref 253 },{ hash:=PyData.keyHash P (Str.ofString "_law_ones"),key:=Value.str (Str.ofString "_law_ones") 549,val:=Value.ref 258 },{ hash:=PyData.keyHash P (Str.ofString "_law_has"),key:=Value.str (Str.ofString "_law_has") 557,val:=Value.ref 265 },{ hash:=PyData.keyHash P (Str.ofString "law"),key:=Value.str (Str.ofString "law") 563,val:=Value.ref 270 }] 48 }),
 (76,{ cls:=Value.type "tuple", data:=Data.seq #[Value.str (Str.ofString "sum") 279,Value.str (Str.ofString "mul") 280] })]
open PySem PySem.W PyProof.Rows
noncomputable abbrev Snd.topQ:Program:=view PySem.Challenge.pw_uf020015_13 [1,2,3,4,5,7,8,9,10,11,12,13,14,16,17,18,20,21,22,23,24,25,26,27,29,30,31,32,34,35,36,37,38,39,40,41,42,43,44]
noncomputable abbrev Snd.topH:=kHook Snd.topK [3,76] (fun _=>by kernel_rfl)
noncomputable abbrev Snd.topX (s:Shared):Bool:=xlAt Snd.topQ [] s&&recOk (RowW.records (OpenRow.toRowW (OpenLaw.row PySem.Challenge.rw_uf020015_13))) s
set_option maxRecDepth 100000 in
theorem Snd.topLeft:LeftO PySem.Challenge.pw_uf020015_13 Snd.topQ [] Snd.topX (Hook.obs Snd.topH) (Hook.val Snd.topH) 4000:=by
 intro w
 kernel_rfl
set_option maxRecDepth 100000 in
theorem Snd.said:OpenLaw.wellSaid PySem.Challenge.rw_uf020015_13=true:=by kernel_rfl
set_option maxRecDepth 100000 in
set_option maxHeartbeats 8000000 in
theorem PySem.Challenge.cw_uf020015_13_holds : PySem.Challenge.rw_uf020015_13.Holds := by
 refine holds_law Snd.said fun said=>?_
 refine holds_open (q:=Snd.topQ) (loose:=[]) (Xt:=Snd.topX) (XP:=XL Snd.topQ []) (Yf:=Hook.obs Snd.topH) (Ya:=Hook.val Snd.topH) (YP:=Hook.says Snd.topH) (N:=4000) Snd.topLeft (Hook.of Snd.topH) (Hook.keeps Snd.topH) (fun s e=>xl_of s (Bool.and_eq_true_iff.mp e).1) XL.keeps (by rfl) (by rfl) (by rfl) (fun s e=>recFacts_of (Bool.and_eq_true_iff.mp e).2) (by rfl) (by assumption) (by decide +kernel) ⟨rfl,rfl,rfl,rfl,rfl,by decide +kernel⟩ ?hw ?hc
 (case hw=>w_witness2)
 intro w s₀ s₁ mg mb G Y fa o pm cd doc dV kV ho hd hcd hD hmg hg args vals as hpre hlay hrd hwl hlo
 have KX:=kIn_of Y
 clear hd hcd hD ho
 have hmg':mg "law" = some (.ref fa):=hmg
 clear hmg
 wrow_args hpre hlay hrd hwl hlo
 rename IntsAre _ _=>hI
 rename Heap.IsList _ _ _=>hL
 rename ¬ _<_=>hlen
 rename PyData.layable0 _=true=>hlayd
 have hrun:=L13.run13
 rw [Pl.glo_same] at hrun
 refine wpAny_mono (Snd.law_true G KX (aj:=76) (tj:=279) (uj:=280) (nj:=0) ⟨by kernel_rfl,by rfl⟩ (by decide +kernel) hmg' hL hI (by omega) (by decide) (hrun _)) (fun v s' q=>?_) fun _ _ x=>x
 obtain ⟨rfl,keep,h',tk,rfl⟩:=q
 exact GoodW.toG ⟨.inl ⟨_,.bool true,[],rfl,fun cls=>by rfl,.bool _,Snd.post_true _ _,fun _=>⟨List.nodup_nil,by simp⟩⟩,keep,rfl,hg⟩
