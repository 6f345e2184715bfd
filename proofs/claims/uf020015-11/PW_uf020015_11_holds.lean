import PyProof.Rows.All
import PySem.Builtin.Int.Common
import PyProof.Methods
import PyProof.FString5
import PyProof.SliceSyntax
import PyProof.SliceList
import PyProof.Cells
import PyProof.CompFree
import PyProof.Conv_int_bool
import PyProof.ListOps
import PyProof.DictRoads
import PyProof.DictFindH
import PyProof.DictRoadsH
import PyProof.DictWalks
import PyProof.Draws
import PyProof.P3Statements
import PyProof.P3Eq
import PyProof.NeData
import PyProof.StationsW
import PyProof.WalksMore
import PyProof.RangeFor
import PyProof.IsiHeapPairs
import PyProof.IsiNone
import PyProof.IsiPairs
import PyProof.ListCopy
import PyProof.ListIndexNeg
import PyProof.ListTruth
import PyProof.WalkInts
import PyProof.RulesAs
import PyProof.P3In
import PyProof.Rows.Globals
import PyProof.Rows.Lst
import PyProof.Rows.IntRules
import PyProof.Rows.DictRows
import PyProof.ZipIter
import PyProof.TupleCall
import PyProof.Truth
import PyProof.Rows.Own
import PyProof.Rows.Exc
import PyProof.Rows.Catch
import PyProof.Rows.Chain
import PyProof.Rows.Nodes
import PyProof.Rows.RuleU_int
import PyProof.Rows.RuleB_mul
import PyProof.Rows.RuleB_pow
import PyProof.Rows.RuleB_floordiv
import PyProof.Rows.RuleB_mod
import PyProof.Rows.StrTemp
import PyProof.Rows.ListMul
import PyProof.Rows.RuleC_int
import PyProof.Rows.RuleIs
import PyProof.Rows.TupMore
import PyProof.Rows.StrRules
import PyProof.Rows.TopTwo
import PyProof.Rows.SeqMore
import PyProof.TupleOfSeq
import PyProof.Rows.SortRuns
import OpenK.KCall
import KE.KDictList
import KE.KDictOf
import KE.KEqDict
import KE.KRevIter
import KE.KSortTup
import Wide.FinOn
import OpenK.AllK
import Wide.All
import PySem.Challenge.RW_uf020015_11
set_option tactic.hygienic false
set_option Elab.async false
set_option genSizeOf false
set_option backward.eqns.nonrecursive false
set_option linter.all false
open PySem renaming Value→qq,wpAny_bind→qz,Shared→qv,wpAny_pure→z8,wpAny→zx,model→zQ,Around→xx,Scope→xj,Env→w0,World→wy,Program→vw,DictEntry→j9,wpAny_mono→k5,NameKind→kx,wpAny_call_entry→kQ,wpAny_newObj_type→yX,wpAny_callSpecial?_slot→yW,intKind→uk,wpAny_field→uZ,wpAny_seqItems→uV,sysModules→uJ,wpAny_truthy_bool→Q8,IsPair→Qv,wpAny_typeNameOfWhole_keyiter→QZ,sizeLine_eq→QX,wpAny_setField_rec→QV,wpAny_rule→QJ,wpAny_holding→Z2,PyData→Z3,sizeLine→Z9,compareOp→Zq
open Nat renaming le_trans→qw,le_add_right→qQ,add_le_add_left→qZ,lt_of_le_of_lt→z7,le_of_lt→zq,le_of_not_lt→zk,le_of_eq→zX,le_refl→zW,succ_le_succ→zJ,add_assoc→x9,add_le_add_right→xv,mul_le_mul_left→w5,le_add_left→w7,sub_add_cancel→w8,zero_le→wx,le_sub_one_of_lt→ww,add_comm→wk,add_sub_of_le→wX,min_eq_left→vX,add_lt_of_lt_sub'→vK,pow_le_pow_left→j0,lt_of_le_of_ne→j7,pow_le_pow_right→jy,lt_of_lt_of_le→jQ,ne_of_lt→jV,lt_of_succ_lt→jK,min_le_left→k8,le_antisymm→k9,le_of_succ_le_succ→kW,lt_of_not_le→yz,mul_le_mul_right→yw,le_succ_of_le→yv,le_of_lt_succ→yj,add_sub_cancel_left→yk,add_lt_add_left→yZ,zero_add→u8,ne_of_gt→u9,mul_add→uq,sub_le→uy,add_le_of_le_sub'→uX,lt_trans→Q5,lt_succ_self→Qx,le_max_right→Qw,mul_one→Qj,not_lt→Qk,add_right_comm→Qy,sub_pos_of_lt→Z0,lt_succ_of_lt→Z1,pow_add→Z4,add_le_add→Z5,min_le_right→Z7
open Bool renaming false_ne_true→qj,and_eq_true_iff→zw,and_eq_true→zj,false_eq_true→j6,or_eq_true→Q0,true_and→Q7,not_eq_true→Z6
open PySem.Str renaming ofString→qk
open PySem.PyData renaming eqv→qX,keyHash→zz,canLayAll0→wQ,tuple→wV,depthAll→vz,eqvAll→vj,int→vy,canLay0→vQ
open List renaming mem_append→qW,getElem?_eq_getElem→qJ,mem_cons→z0,getElem?_eq_some_iff→z6,length_append→z9,mem_map→zy,mem_singleton→xq,map_cons→xz,length_map→xw,append_assoc→xk,mem_cons_of_mem→xX,getElem?_append_left→xV,all_eq_true→xJ,mem_of_getElem?→w9,getElem?_append_right→wW,Perm→wK,pairwise_append→vq,nodup_cons→vx,length_cons→vZ,lookup_cons→j4,mem_cons_self→j5,not_mem_nil→jz,cons_append→jx,replicate→jv,mem_append_left→jj,getElem_mem→jZ,append_eq_nil_iff→jX,count→jJ,find?_cons→k7,length_eq_zero_iff→kj,getElem?_set_ne→kk,getElem?_set_self→kX,zip_cons_cons→y9,filter_cons→yq,map_congr_left→yQ,map_map→yV,mem_replicate→ux,getD_eq_getElem?_getD→uw,mem_iff_getElem?→uQ,drop_eq_getElem_cons→uW,mem_filter→uK,nodup_append→Q2,lookup→Q3,getElem?_map→Q4,perm_middle→Qq,nodup_nil→Qz,perm_append_comm→QW
open PySem.Heap renaming get?_push_of_some→qV,get?_push_size→xy,lt_size→wq
open PyProof.Rows renaming Keyed→qK,arrOf→zv,wpS_bind→zZ,pendingOf→zV,wpS_pure→zK,SortSt→x8,args_cons→j3,callWith_type1→j8,wpS_mono→jW,failedOf→kz,callWith_builtin1→kZ,elem'→y6,args_nil→yy,wpS_modify→yJ,seqObj→yK,Call_→Q6,tail_any→Q9
open PySem.Value renaming str→xQ,ref→xK,none→wz
open Array renaming getElem?_eq_getElem→xZ,getD_eq_getD_getElem?→w3,toList_append→w6,getElem?_toList→wj,length_toList→vk,getElem?_extract_of_lt→QQ
open Option.some renaming inj→xW,injEq→uz
open Option renaming some→w4,bind_some→vJ,isSome_iff_exists→y7
open ForInStep renaming yield→wZ,done→vV
open PySem.Builtin.Int renaming intBits→wJ
open PySem.Builtin.SmallTypes renaming nextOf→vW,ownedTupleIsFree→kK
open PySem.Builtin.Tuple renaming tupleHashOf→jw
open PySem.Obj renaming mapSeq→jk
open PySem.F renaming slot_dict_keyiterator_next→k6,slot_tuple_iterator_next→Z8
open PySem.NameKind renaming free→ky
open Int renaming ofNat_lt→kJ
open List.Perm renaming trans→yx
open PySem.Builtin.List renaming listTooLong→uv
open PyProof.Rows.SortSt renaming mk'→Q1
open Nat.succ renaming inj→QK
local macro_rules | `(tactic| bv_omega) => `(tactic| first | with_reducible assumption | lia | omega)
namespace Internal
section
namespace Mini
theorem elAA  {P0:Prop} {P1:Prop} {Q:Prop} {R:Prop} (h:P0/\P1/\Q) (k:P0->P1->Q->R):R:=k h.1 h.2.1 h.2.2
theorem elAAA  {P0:Prop} {P1:Prop} {P2:Prop} {Q:Prop} {R:Prop} (h:P0/\P1/\P2/\Q) (k:P0->P1->P2->Q->R):R:=k h.1 h.2.1 h.2.2.1 h.2.2.2
theorem elAAAAAA {P0 P1 P2 P3 P4 P5 Q R:Prop} (h:P0/\P1/\P2/\P3/\P4/\P5/\Q) (k:P0->P1->P2->P3->P4->P5->Q->R):R:=k h.1 h.2.1 h.2.2.1 h.2.2.2.1 h.2.2.2.2.1 h.2.2.2.2.2.1 h.2.2.2.2.2.2
theorem elAE.{u1} {α1:Sort u1} {P0:Prop} {Q:α1->Prop} {R:Prop} (h:P0/\∃ x1,Q x1) (k:P0->∀ x1,Q x1->R):R:=(h.2).elim fun x1 h1=>k h.1 x1 h1
theorem elAEEA.{u1,u2} {α1:Sort u1} {α2:Sort u2} {P0:Prop} {P3:α1->α2->Prop} {Q:α1->α2->Prop} {R:Prop} (h:P0/\∃ x1,∃ x2,P3 x1 x2/\Q x1 x2) (k:P0->∀ x1,∀ x2,P3 x1 x2->Q x1 x2->R):R:=(h.2).elim fun x1 h1=>h1.elim fun x2 h2=>k h.1 x1 x2 h2.1 h2.2
theorem elAEEAA.{u1,u2} {α1:Sort u1} {α2:Sort u2} {P0:Prop} {P3:α1->α2->Prop} {P4:α1->α2->Prop} {Q:α1->α2->Prop} {R:Prop} (h:P0/\∃ x1,∃ x2,P3 x1 x2/\P4 x1 x2/\Q x1 x2) (k:P0->∀ x1,∀ x2,P3 x1 x2->P4 x1 x2->Q x1 x2->R):R:=(h.2).elim fun x1 h1=>h1.elim fun x2 h2=>k h.1 x1 x2 h2.1 h2.2.1 h2.2.2
theorem elAEEEA.{u1,u2,u3} {α1:Sort u1} {α2:Sort u2} {α3:Sort u3} {P0:Prop} {P4:α1->α2->α3->Prop} {Q:α1->α2->α3->Prop} {R:Prop} (h:P0/\∃ x1,∃ x2,∃ x3,P4 x1 x2 x3/\Q x1 x2 x3) (k:P0->∀ x1,∀ x2,∀ x3,P4 x1 x2 x3->Q x1 x2 x3->R):R:=(h.2).elim fun x1 h1=>h1.elim fun x2 h2=>h2.elim fun x3 h3=>k h.1 x1 x2 x3 h3.1 h3.2
theorem elAEEEAA.{u1,u2,u3} {α1:Sort u1} {α2:Sort u2} {α3:Sort u3} {P0:Prop} {P4:α1->α2->α3->Prop} {P5:α1->α2->α3->Prop} {Q:α1->α2->α3->Prop} {R:Prop} (h:P0/\∃ x1,∃ x2,∃ x3,P4 x1 x2 x3/\P5 x1 x2 x3/\Q x1 x2 x3) (k:P0->∀ x1,∀ x2,∀ x3,P4 x1 x2 x3->P5 x1 x2 x3->Q x1 x2 x3->R):R:=(h.2).elim fun x1 h1=>h1.elim fun x2 h2=>h2.elim fun x3 h3=>k h.1 x1 x2 x3 h3.1 h3.2.1 h3.2.2
theorem elAEEEAAA.{u1,u2,u3} {α1:Sort u1} {α2:Sort u2} {α3:Sort u3} {P0:Prop} {P4:α1->α2->α3->Prop} {P5:α1->α2->α3->Prop} {P6:α1->α2->α3->Prop} {Q:α1->α2->α3->Prop} {R:Prop} (h:P0/\∃ x1,∃ x2,∃ x3,P4 x1 x2 x3/\P5 x1 x2 x3/\P6 x1 x2 x3/\Q x1 x2 x3) (k:P0->∀ x1,∀ x2,∀ x3,P4 x1 x2 x3->P5 x1 x2 x3->P6 x1 x2 x3->Q x1 x2 x3->R):R:=(h.2).elim fun x1 h1=>h1.elim fun x2 h2=>h2.elim fun x3 h3=>k h.1 x1 x2 x3 h3.1 h3.2.1 h3.2.2.1 h3.2.2.2
theorem elAEEEAAEEAA.{u1,u2,u3,u6,u7} {α1:Sort u1} {α2:Sort u2} {α3:Sort u3} {α6:Sort u6} {α7:Sort u7} {P0:Prop} {P4:α1->α2->α3->Prop} {P5:α1->α2->α3->Prop} {P8:α1->α2->α3->α6->α7->Prop} {P9:α1->α2->α3->α6->α7->Prop} {Q:α1->α2->α3->α6->α7->Prop} {R:Prop} (h:P0/\∃ x1,∃ x2,∃ x3,P4 x1 x2 x3/\P5 x1 x2 x3/\∃ x6,∃ x7,P8 x1 x2 x3 x6 x7/\P9 x1 x2 x3 x6 x7/\Q x1 x2 x3 x6 x7) (k:P0->∀ x1,∀ x2,∀ x3,P4 x1 x2 x3->P5 x1 x2 x3->∀ x6,∀ x7,P8 x1 x2 x3 x6 x7->P9 x1 x2 x3 x6 x7->Q x1 x2 x3 x6 x7->R):R:=(h.2).elim fun x1 h1=>h1.elim fun x2 h2=>h2.elim fun x3 h3=>(h3.2.2).elim fun x6 h6=>h6.elim fun x7 h7=>k h.1 x1 x2 x3 h3.1 h3.2.1 x6 x7 h7.1 h7.2.1 h7.2.2
theorem elAEEEEAA.{u1,u2,u3,u4} {α1:Sort u1} {α2:Sort u2} {α3:Sort u3} {α4:Sort u4} {P0:Prop} {P5:α1->α2->α3->α4->Prop} {P6:α1->α2->α3->α4->Prop} {Q:α1->α2->α3->α4->Prop} {R:Prop} (h:P0/\∃ x1,∃ x2,∃ x3,∃ x4,P5 x1 x2 x3 x4/\P6 x1 x2 x3 x4/\Q x1 x2 x3 x4) (k:P0->∀ x1,∀ x2,∀ x3,∀ x4,P5 x1 x2 x3 x4->P6 x1 x2 x3 x4->Q x1 x2 x3 x4->R):R:=(h.2).elim fun x1 h1=>h1.elim fun x2 h2=>h2.elim fun x3 h3=>h3.elim fun x4 h4=>k h.1 x1 x2 x3 x4 h4.1 h4.2.1 h4.2.2
theorem elAEEEEAAAA.{u1,u2,u3,u4} {α1:Sort u1} {α2:Sort u2} {α3:Sort u3} {α4:Sort u4} {P0:Prop} {P5:α1->α2->α3->α4->Prop} {P6:α1->α2->α3->α4->Prop} {P7:α1->α2->α3->α4->Prop} {P8:α1->α2->α3->α4->Prop} {Q:α1->α2->α3->α4->Prop} {R:Prop} (h:P0/\∃ x1,∃ x2,∃ x3,∃ x4,P5 x1 x2 x3 x4/\P6 x1 x2 x3 x4/\P7 x1 x2 x3 x4/\P8 x1 x2 x3 x4/\Q x1 x2 x3 x4) (k:P0->∀ x1,∀ x2,∀ x3,∀ x4,P5 x1 x2 x3 x4->P6 x1 x2 x3 x4->P7 x1 x2 x3 x4->P8 x1 x2 x3 x4->Q x1 x2 x3 x4->R):R:=(h.2).elim fun x1 h1=>h1.elim fun x2 h2=>h2.elim fun x3 h3=>h3.elim fun x4 h4=>k h.1 x1 x2 x3 x4 h4.1 h4.2.1 h4.2.2.1 h4.2.2.2.1 h4.2.2.2.2
theorem elEA.{u0} {α0:Sort u0} {P1:α0->Prop} {Q:α0->Prop} {R:Prop} (h:∃ x0,P1 x0/\Q x0) (k:∀ x0,P1 x0->Q x0->R):R:=h.elim fun x0 h0=>k x0 h0.1 h0.2
theorem elEAA.{u0} {α0:Sort u0} {P1:α0->Prop} {P2:α0->Prop} {Q:α0->Prop} {R:Prop} (h:∃ x0,P1 x0/\P2 x0/\Q x0) (k:∀ x0,P1 x0->P2 x0->Q x0->R):R:=h.elim fun x0 h0=>k x0 h0.1 h0.2.1 h0.2.2
theorem elEAAA.{u0} {α0:Sort u0} {P1:α0->Prop} {P2:α0->Prop} {P3:α0->Prop} {Q:α0->Prop} {R:Prop} (h:∃ x0,P1 x0/\P2 x0/\P3 x0/\Q x0) (k:∀ x0,P1 x0->P2 x0->P3 x0->Q x0->R):R:=h.elim fun x0 h0=>k x0 h0.1 h0.2.1 h0.2.2.1 h0.2.2.2
theorem elEAAAAA.{u0} {α0:Sort u0} {P1:α0->Prop} {P2:α0->Prop} {P3:α0->Prop} {P4:α0->Prop} {P5:α0->Prop} {Q:α0->Prop} {R:Prop} (h:∃ x0,P1 x0/\P2 x0/\P3 x0/\P4 x0/\P5 x0/\Q x0) (k:∀ x0,P1 x0->P2 x0->P3 x0->P4 x0->P5 x0->Q x0->R):R:=h.elim fun x0 h0=>k x0 h0.1 h0.2.1 h0.2.2.1 h0.2.2.2.1 h0.2.2.2.2.1 h0.2.2.2.2.2
theorem elEAAE.{u0,u3} {α0:Sort u0} {α3:Sort u3} {P1:α0->Prop} {P2:α0->Prop} {Q:α0->α3->Prop} {R:Prop} (h:∃ x0,P1 x0/\P2 x0/\∃ x3,Q x0 x3) (k:∀ x0,P1 x0->P2 x0->∀ x3,Q x0 x3->R):R:=h.elim fun x0 h0=>(h0.2.2).elim fun x3 h3=>k x0 h0.1 h0.2.1 x3 h3
theorem elEAE.{u0,u2} {α0:Sort u0} {α2:Sort u2} {P1:α0->Prop} {Q:α0->α2->Prop} {R:Prop} (h:∃ x0,P1 x0/\∃ x2,Q x0 x2) (k:∀ x0,P1 x0->∀ x2,Q x0 x2->R):R:=h.elim fun x0 h0=>(h0.2).elim fun x2 h2=>k x0 h0.1 x2 h2
theorem elEAEA.{u0,u2} {α0:Sort u0} {α2:Sort u2} {P1:α0->Prop} {P3:α0->α2->Prop} {Q:α0->α2->Prop} {R:Prop} (h:∃ x0,P1 x0/\∃ x2,P3 x0 x2/\Q x0 x2) (k:∀ x0,P1 x0->∀ x2,P3 x0 x2->Q x0 x2->R):R:=h.elim fun x0 h0=>(h0.2).elim fun x2 h2=>k x0 h0.1 x2 h2.1 h2.2
theorem elEAEE.{u0,u2,u3} {α0:Sort u0} {α2:Sort u2} {α3:Sort u3} {P1:α0->Prop} {Q:α0->α2->α3->Prop} {R:Prop} (h:∃ x0,P1 x0/\∃ x2,∃ x3,Q x0 x2 x3) (k:∀ x0,P1 x0->∀ x2,∀ x3,Q x0 x2 x3->R):R:=h.elim fun x0 h0=>(h0.2).elim fun x2 h2=>h2.elim fun x3 h3=>k x0 h0.1 x2 x3 h3
theorem elEAEEA.{u0,u2,u3} {α0:Sort u0} {α2:Sort u2} {α3:Sort u3} {P1:α0->Prop} {P4:α0->α2->α3->Prop} {Q:α0->α2->α3->Prop} {R:Prop} (h:∃ x0,P1 x0/\∃ x2,∃ x3,P4 x0 x2 x3/\Q x0 x2 x3) (k:∀ x0,P1 x0->∀ x2,∀ x3,P4 x0 x2 x3->Q x0 x2 x3->R):R:=h.elim fun x0 h0=>(h0.2).elim fun x2 h2=>h2.elim fun x3 h3=>k x0 h0.1 x2 x3 h3.1 h3.2
theorem elEAEEAAA.{u0,u2,u3} {α0:Sort u0} {α2:Sort u2} {α3:Sort u3} {P1:α0->Prop} {P4:α0->α2->α3->Prop} {P5:α0->α2->α3->Prop} {P6:α0->α2->α3->Prop} {Q:α0->α2->α3->Prop} {R:Prop} (h:∃ x0,P1 x0/\∃ x2,∃ x3,P4 x0 x2 x3/\P5 x0 x2 x3/\P6 x0 x2 x3/\Q x0 x2 x3) (k:∀ x0,P1 x0->∀ x2,∀ x3,P4 x0 x2 x3->P5 x0 x2 x3->P6 x0 x2 x3->Q x0 x2 x3->R):R:=h.elim fun x0 h0=>(h0.2).elim fun x2 h2=>h2.elim fun x3 h3=>k x0 h0.1 x2 x3 h3.1 h3.2.1 h3.2.2.1 h3.2.2.2
theorem elEAEEAAAA.{u0,u2,u3} {α0:Sort u0} {α2:Sort u2} {α3:Sort u3} {P1:α0->Prop} {P4:α0->α2->α3->Prop} {P5:α0->α2->α3->Prop} {P6:α0->α2->α3->Prop} {P7:α0->α2->α3->Prop} {Q:α0->α2->α3->Prop} {R:Prop} (h:∃ x0,P1 x0/\∃ x2,∃ x3,P4 x0 x2 x3/\P5 x0 x2 x3/\P6 x0 x2 x3/\P7 x0 x2 x3/\Q x0 x2 x3) (k:∀ x0,P1 x0->∀ x2,∀ x3,P4 x0 x2 x3->P5 x0 x2 x3->P6 x0 x2 x3->P7 x0 x2 x3->Q x0 x2 x3->R):R:=h.elim fun x0 h0=>(h0.2).elim fun x2 h2=>h2.elim fun x3 h3=>k x0 h0.1 x2 x3 h3.1 h3.2.1 h3.2.2.1 h3.2.2.2.1 h3.2.2.2.2
theorem elEAEEE.{u0,u2,u3,u4} {α0:Sort u0} {α2:Sort u2} {α3:Sort u3} {α4:Sort u4} {P1:α0->Prop} {Q:α0->α2->α3->α4->Prop} {R:Prop} (h:∃ x0,P1 x0/\∃ x2,∃ x3,∃ x4,Q x0 x2 x3 x4) (k:∀ x0,P1 x0->∀ x2,∀ x3,∀ x4,Q x0 x2 x3 x4->R):R:=h.elim fun x0 h0=>(h0.2).elim fun x2 h2=>h2.elim fun x3 h3=>h3.elim fun x4 h4=>k x0 h0.1 x2 x3 x4 h4
theorem elEAEEEA.{u0,u2,u3,u4} {α0:Sort u0} {α2:Sort u2} {α3:Sort u3} {α4:Sort u4} {P1:α0->Prop} {P5:α0->α2->α3->α4->Prop} {Q:α0->α2->α3->α4->Prop} {R:Prop} (h:∃ x0,P1 x0/\∃ x2,∃ x3,∃ x4,P5 x0 x2 x3 x4/\Q x0 x2 x3 x4) (k:∀ x0,P1 x0->∀ x2,∀ x3,∀ x4,P5 x0 x2 x3 x4->Q x0 x2 x3 x4->R):R:=h.elim fun x0 h0=>(h0.2).elim fun x2 h2=>h2.elim fun x3 h3=>h3.elim fun x4 h4=>k x0 h0.1 x2 x3 x4 h4.1 h4.2
theorem elEAEEEAAAA.{u0,u2,u3,u4} {α0:Sort u0} {α2:Sort u2} {α3:Sort u3} {α4:Sort u4} {P1:α0->Prop} {P5:α0->α2->α3->α4->Prop} {P6:α0->α2->α3->α4->Prop} {P7:α0->α2->α3->α4->Prop} {P8:α0->α2->α3->α4->Prop} {Q:α0->α2->α3->α4->Prop} {R:Prop} (h:∃ x0,P1 x0/\∃ x2,∃ x3,∃ x4,P5 x0 x2 x3 x4/\P6 x0 x2 x3 x4/\P7 x0 x2 x3 x4/\P8 x0 x2 x3 x4/\Q x0 x2 x3 x4) (k:∀ x0,P1 x0->∀ x2,∀ x3,∀ x4,P5 x0 x2 x3 x4->P6 x0 x2 x3 x4->P7 x0 x2 x3 x4->P8 x0 x2 x3 x4->Q x0 x2 x3 x4->R):R:=h.elim fun x0 h0=>(h0.2).elim fun x2 h2=>h2.elim fun x3 h3=>h3.elim fun x4 h4=>k x0 h0.1 x2 x3 x4 h4.1 h4.2.1 h4.2.2.1 h4.2.2.2.1 h4.2.2.2.2
theorem elEAEEEEA.{u0,u2,u3,u4,u5} {α0:Sort u0} {α2:Sort u2} {α3:Sort u3} {α4:Sort u4} {α5:Sort u5} {P1:α0->Prop} {P6:α0->α2->α3->α4->α5->Prop} {Q:α0->α2->α3->α4->α5->Prop} {R:Prop} (h:∃ x0,P1 x0/\∃ x2,∃ x3,∃ x4,∃ x5,P6 x0 x2 x3 x4 x5/\Q x0 x2 x3 x4 x5) (k:∀ x0,P1 x0->∀ x2,∀ x3,∀ x4,∀ x5,P6 x0 x2 x3 x4 x5->Q x0 x2 x3 x4 x5->R):R:=h.elim fun x0 h0=>(h0.2).elim fun x2 h2=>h2.elim fun x3 h3=>h3.elim fun x4 h4=>h4.elim fun x5 h5=>k x0 h0.1 x2 x3 x4 x5 h5.1 h5.2
theorem elEAEEEEEA.{u0,u2,u3,u4,u5,u6} {α0:Sort u0} {α2:Sort u2} {α3:Sort u3} {α4:Sort u4} {α5:Sort u5} {α6:Sort u6} {P1:α0->Prop} {P7:α0->α2->α3->α4->α5->α6->Prop} {Q:α0->α2->α3->α4->α5->α6->Prop} {R:Prop} (h:∃ x0,P1 x0/\∃ x2,∃ x3,∃ x4,∃ x5,∃ x6,P7 x0 x2 x3 x4 x5 x6/\Q x0 x2 x3 x4 x5 x6) (k:∀ x0,P1 x0->∀ x2,∀ x3,∀ x4,∀ x5,∀ x6,P7 x0 x2 x3 x4 x5 x6->Q x0 x2 x3 x4 x5 x6->R):R:=h.elim fun x0 h0=>(h0.2).elim fun x2 h2=>h2.elim fun x3 h3=>h3.elim fun x4 h4=>h4.elim fun x5 h5=>h5.elim fun x6 h6=>k x0 h0.1 x2 x3 x4 x5 x6 h6.1 h6.2
theorem elEE.{u0,u1} {α0:Sort u0} {α1:Sort u1} {Q:α0->α1->Prop} {R:Prop} (h:∃ x0,∃ x1,Q x0 x1) (k:∀ x0,∀ x1,Q x0 x1->R):R:=h.elim fun x0 h0=>h0.elim fun x1 h1=>k x0 x1 h1
theorem elEEA.{u0,u1} {α0:Sort u0} {α1:Sort u1} {P2:α0->α1->Prop} {Q:α0->α1->Prop} {R:Prop} (h:∃ x0,∃ x1,P2 x0 x1/\Q x0 x1) (k:∀ x0,∀ x1,P2 x0 x1->Q x0 x1->R):R:=h.elim fun x0 h0=>h0.elim fun x1 h1=>k x0 x1 h1.1 h1.2
theorem elEEAA.{u0,u1} {α0:Sort u0} {α1:Sort u1} {P2:α0->α1->Prop} {P3:α0->α1->Prop} {Q:α0->α1->Prop} {R:Prop} (h:∃ x0,∃ x1,P2 x0 x1/\P3 x0 x1/\Q x0 x1) (k:∀ x0,∀ x1,P2 x0 x1->P3 x0 x1->Q x0 x1->R):R:=h.elim fun x0 h0=>h0.elim fun x1 h1=>k x0 x1 h1.1 h1.2.1 h1.2.2
theorem elEEAAA.{u0,u1} {α0:Sort u0} {α1:Sort u1} {P2:α0->α1->Prop} {P3:α0->α1->Prop} {P4:α0->α1->Prop} {Q:α0->α1->Prop} {R:Prop} (h:∃ x0,∃ x1,P2 x0 x1/\P3 x0 x1/\P4 x0 x1/\Q x0 x1) (k:∀ x0,∀ x1,P2 x0 x1->P3 x0 x1->P4 x0 x1->Q x0 x1->R):R:=h.elim fun x0 h0=>h0.elim fun x1 h1=>k x0 x1 h1.1 h1.2.1 h1.2.2.1 h1.2.2.2
theorem elEEAAAA.{u0,u1} {α0:Sort u0} {α1:Sort u1} {P2:α0->α1->Prop} {P3:α0->α1->Prop} {P4:α0->α1->Prop} {P5:α0->α1->Prop} {Q:α0->α1->Prop} {R:Prop} (h:∃ x0,∃ x1,P2 x0 x1/\P3 x0 x1/\P4 x0 x1/\P5 x0 x1/\Q x0 x1) (k:∀ x0,∀ x1,P2 x0 x1->P3 x0 x1->P4 x0 x1->P5 x0 x1->Q x0 x1->R):R:=h.elim fun x0 h0=>h0.elim fun x1 h1=>k x0 x1 h1.1 h1.2.1 h1.2.2.1 h1.2.2.2.1 h1.2.2.2.2
theorem elEEE.{u0,u1,u2} {α0:Sort u0} {α1:Sort u1} {α2:Sort u2} {Q:α0->α1->α2->Prop} {R:Prop} (h:∃ x0,∃ x1,∃ x2,Q x0 x1 x2) (k:∀ x0,∀ x1,∀ x2,Q x0 x1 x2->R):R:=h.elim fun x0 h0=>h0.elim fun x1 h1=>h1.elim fun x2 h2=>k x0 x1 x2 h2
theorem elEEEA.{u0,u1,u2} {α0:Sort u0} {α1:Sort u1} {α2:Sort u2} {P3:α0->α1->α2->Prop} {Q:α0->α1->α2->Prop} {R:Prop} (h:∃ x0,∃ x1,∃ x2,P3 x0 x1 x2/\Q x0 x1 x2) (k:∀ x0,∀ x1,∀ x2,P3 x0 x1 x2->Q x0 x1 x2->R):R:=h.elim fun x0 h0=>h0.elim fun x1 h1=>h1.elim fun x2 h2=>k x0 x1 x2 h2.1 h2.2
theorem elEEEAA.{u0,u1,u2} {α0:Sort u0} {α1:Sort u1} {α2:Sort u2} {P3:α0->α1->α2->Prop} {P4:α0->α1->α2->Prop} {Q:α0->α1->α2->Prop} {R:Prop} (h:∃ x0,∃ x1,∃ x2,P3 x0 x1 x2/\P4 x0 x1 x2/\Q x0 x1 x2) (k:∀ x0,∀ x1,∀ x2,P3 x0 x1 x2->P4 x0 x1 x2->Q x0 x1 x2->R):R:=h.elim fun x0 h0=>h0.elim fun x1 h1=>h1.elim fun x2 h2=>k x0 x1 x2 h2.1 h2.2.1 h2.2.2
theorem elEEEAAA.{u0,u1,u2} {α0:Sort u0} {α1:Sort u1} {α2:Sort u2} {P3:α0->α1->α2->Prop} {P4:α0->α1->α2->Prop} {P5:α0->α1->α2->Prop} {Q:α0->α1->α2->Prop} {R:Prop} (h:∃ x0,∃ x1,∃ x2,P3 x0 x1 x2/\P4 x0 x1 x2/\P5 x0 x1 x2/\Q x0 x1 x2) (k:∀ x0,∀ x1,∀ x2,P3 x0 x1 x2->P4 x0 x1 x2->P5 x0 x1 x2->Q x0 x1 x2->R):R:=h.elim fun x0 h0=>h0.elim fun x1 h1=>h1.elim fun x2 h2=>k x0 x1 x2 h2.1 h2.2.1 h2.2.2.1 h2.2.2.2
theorem elEEEAAAA.{u0,u1,u2} {α0:Sort u0} {α1:Sort u1} {α2:Sort u2} {P3:α0->α1->α2->Prop} {P4:α0->α1->α2->Prop} {P5:α0->α1->α2->Prop} {P6:α0->α1->α2->Prop} {Q:α0->α1->α2->Prop} {R:Prop} (h:∃ x0,∃ x1,∃ x2,P3 x0 x1 x2/\P4 x0 x1 x2/\P5 x0 x1 x2/\P6 x0 x1 x2/\Q x0 x1 x2) (k:∀ x0,∀ x1,∀ x2,P3 x0 x1 x2->P4 x0 x1 x2->P5 x0 x1 x2->P6 x0 x1 x2->Q x0 x1 x2->R):R:=h.elim fun x0 h0=>h0.elim fun x1 h1=>h1.elim fun x2 h2=>k x0 x1 x2 h2.1 h2.2.1 h2.2.2.1 h2.2.2.2.1 h2.2.2.2.2
theorem elEEEEA.{u0,u1,u2,u3} {α0:Sort u0} {α1:Sort u1} {α2:Sort u2} {α3:Sort u3} {P4:α0->α1->α2->α3->Prop} {Q:α0->α1->α2->α3->Prop} {R:Prop} (h:∃ x0,∃ x1,∃ x2,∃ x3,P4 x0 x1 x2 x3/\Q x0 x1 x2 x3) (k:∀ x0,∀ x1,∀ x2,∀ x3,P4 x0 x1 x2 x3->Q x0 x1 x2 x3->R):R:=h.elim fun x0 h0=>h0.elim fun x1 h1=>h1.elim fun x2 h2=>h2.elim fun x3 h3=>k x0 x1 x2 x3 h3.1 h3.2
theorem elEEEEEAAA.{u0,u1,u2,u3,u4} {α0:Sort u0} {α1:Sort u1} {α2:Sort u2} {α3:Sort u3} {α4:Sort u4} {P5:α0->α1->α2->α3->α4->Prop} {P6:α0->α1->α2->α3->α4->Prop} {P7:α0->α1->α2->α3->α4->Prop} {Q:α0->α1->α2->α3->α4->Prop} {R:Prop} (h:∃ x0,∃ x1,∃ x2,∃ x3,∃ x4,P5 x0 x1 x2 x3 x4/\P6 x0 x1 x2 x3 x4/\P7 x0 x1 x2 x3 x4/\Q x0 x1 x2 x3 x4) (k:∀ x0,∀ x1,∀ x2,∀ x3,∀ x4,P5 x0 x1 x2 x3 x4->P6 x0 x1 x2 x3 x4->P7 x0 x1 x2 x3 x4->Q x0 x1 x2 x3 x4->R):R:=h.elim fun x0 h0=>h0.elim fun x1 h1=>h1.elim fun x2 h2=>h2.elim fun x3 h3=>h3.elim fun x4 h4=>k x0 x1 x2 x3 x4 h4.1 h4.2.1 h4.2.2.1 h4.2.2.2
theorem elEEEEEAAAAA.{u0,u1,u2,u3,u4} {α0:Sort u0} {α1:Sort u1} {α2:Sort u2} {α3:Sort u3} {α4:Sort u4} {P5:α0->α1->α2->α3->α4->Prop} {P6:α0->α1->α2->α3->α4->Prop} {P7:α0->α1->α2->α3->α4->Prop} {P8:α0->α1->α2->α3->α4->Prop} {P9:α0->α1->α2->α3->α4->Prop} {Q:α0->α1->α2->α3->α4->Prop} {R:Prop} (h:∃ x0,∃ x1,∃ x2,∃ x3,∃ x4,P5 x0 x1 x2 x3 x4/\P6 x0 x1 x2 x3 x4/\P7 x0 x1 x2 x3 x4/\P8 x0 x1 x2 x3 x4/\P9 x0 x1 x2 x3 x4/\Q x0 x1 x2 x3 x4) (k:∀ x0,∀ x1,∀ x2,∀ x3,∀ x4,P5 x0 x1 x2 x3 x4->P6 x0 x1 x2 x3 x4->P7 x0 x1 x2 x3 x4->P8 x0 x1 x2 x3 x4->P9 x0 x1 x2 x3 x4->Q x0 x1 x2 x3 x4->R):R:=h.elim fun x0 h0=>h0.elim fun x1 h1=>h1.elim fun x2 h2=>h2.elim fun x3 h3=>h3.elim fun x4 h4=>k x0 x1 x2 x3 x4 h4.1 h4.2.1 h4.2.2.1 h4.2.2.2.1 h4.2.2.2.2.1 h4.2.2.2.2.2
theorem elEEEEEEEEAAAA.{u0,u1,u2,u3,u4,u5,u6,u7} {α0:Sort u0} {α1:Sort u1} {α2:Sort u2} {α3:Sort u3} {α4:Sort u4} {α5:Sort u5} {α6:Sort u6} {α7:Sort u7} {P8:α0->α1->α2->α3->α4->α5->α6->α7->Prop} {P9:α0->α1->α2->α3->α4->α5->α6->α7->Prop} {P10:α0->α1->α2->α3->α4->α5->α6->α7->Prop} {P11:α0->α1->α2->α3->α4->α5->α6->α7->Prop} {Q:α0->α1->α2->α3->α4->α5->α6->α7->Prop} {R:Prop} (h:∃ x0,∃ x1,∃ x2,∃ x3,∃ x4,∃ x5,∃ x6,∃ x7,P8 x0 x1 x2 x3 x4 x5 x6 x7/\P9 x0 x1 x2 x3 x4 x5 x6 x7/\P10 x0 x1 x2 x3 x4 x5 x6 x7/\P11 x0 x1 x2 x3 x4 x5 x6 x7/\Q x0 x1 x2 x3 x4 x5 x6 x7) (k:∀ x0,∀ x1,∀ x2,∀ x3,∀ x4,∀ x5,∀ x6,∀ x7,P8 x0 x1 x2 x3 x4 x5 x6 x7->P9 x0 x1 x2 x3 x4 x5 x6 x7->P10 x0 x1 x2 x3 x4 x5 x6 x7->P11 x0 x1 x2 x3 x4 x5 x6 x7->Q x0 x1 x2 x3 x4 x5 x6 x7->R):R:=h.elim fun x0 h0=>h0.elim fun x1 h1=>h1.elim fun x2 h2=>h2.elim fun x3 h3=>h3.elim fun x4 h4=>h4.elim fun x5 h5=>h5.elim fun x6 h6=>h6.elim fun x7 h7=>k x0 x1 x2 x3 x4 x5 x6 x7 h7.1 h7.2.1 h7.2.2.1 h7.2.2.2.1 h7.2.2.2.2
theorem bK1 {α β:Type} {x:Option α} {f:α->Option β} {b:β} {P:Prop} (h:x.bind f=some b) (k:∀ a,x=some a->f a=some b->P):P:=by
 cases x with
 | none=>cases h
 | some a=>exact k a rfl h
theorem bK2 {α γ β:Type} {x:Option (α×γ)} {f:α×γ->Option β} {b:β} {P:Prop} (h:x.bind f=some b) (k:∀ a c,x=some (a,c)->f (a,c)=some b->P):P:=bK1 h fun a=>k a.1 a.2
theorem bK3 {α γ δ β:Type} {x:Option (α×γ×δ)} {f:α×γ×δ->Option β} {b:β} {P:Prop} (h:x.bind f=some b) (k:∀ a c d,x=some (a,c,d)->f (a,c,d)=some b->P):P:=bK1 h fun a=>k a.1 a.2.1 a.2.2
@[elab_as_elim] theorem sm1 {α:Type} {a a':α} {P:α->Prop} (e:some a=some a') (p:P a):P a':=xW e▸p
@[elab_as_elim] theorem sm2 {α β:Type} {a a':α} {b b':β} {P:α->β->Prop} (e:some (a,b)=some (a',b')) (p:P a b):P a' b':=sm1 (P:=fun q=>P q.1 q.2) e p
@[elab_as_elim] theorem sm3 {α β γ:Type} {a a':α} {b b':β} {c c':γ} {P:α->β->γ->Prop} (e:some (a,b,c)=some (a',b',c')) (p:P a b c):P a' b' c':=sm1 (P:=fun q=>P q.1 q.2.1 q.2.2) e p
open PySem
set_option backward.match.sparseCases false
noncomputable abbrev D:=PyData
inductive AV where
 | val (d:D)|own (d:D)
noncomputable abbrev Sg:=List (Option AV)
inductive Prim where
 | len|sorted|tuple|list|dict|min|max|int
 deriving DecidableEq
noncomputable def Prim.name:Prim->Str
 | .len => "len" | .sorted => "sorted" | .tuple => "tuple" | .list => "list" | .dict => "dict" | .min => "min" | .max => "max" | .int => "int"
set_option genCtorIdx false in
set_option genInjectivity false in
inductive I where
 | omit|nil|cons (a b:I)
 | cnone|cbool (b:Bool)|cint (i:Int)|cstr (s:Str)
 | var (k:Nat)|brw (k:Nat)|glob (x:Str)
 | bin (op:Operator) (a b:I)
 | neg (a:I)|not (a:I)|and (l:I)|or (l:I)
 | cmp (op:CmpOp) (a b:I)|cmp2 (o1 o2:CmpOp) (a b c:I)
 | ite (c a b:I)
 | tup (l:I)|lst (l:I)|dct0
 | comp1 (elt src cond:I)
 | call (g:Str) (l:I)|prim1 (p:Prim) (a:I)|isi (a:I) (ty:Str)
 | idx (a i:I)|slc (a lo hi:I)|pop (k:Nat)
 | rng1 (b:I)|rng (a b:I)|rev (a:I)
 | asg (k:Nat) (e:I)
 | sto (k:Nat) (key e:I)
 | app (k:Nat) (e:I)|ext (k:Nat) (e:I)|clr (k:Nat)
 | exp (e:I)|iff (c t e:I)|whl (c b:I)|for1 (k:Nat) (src b:I)
 | ret (e:I)|rais|pass
 | fors (ks:List Nat) (src b:I)
 | compT (m:Nat) (elt src cond:I)
 | zip (a b:I)
 | rem (k:Nat) (e:I)
noncomputable def brwK:I->Option Nat
 | .brw k=>some k
 | _=>none
noncomputable def xz4 (i:I):Bool:=(brwK i).isSome
noncomputable def zf8:I->Bool
 | .omit=>true
 | _=>false
noncomputable def okd (d:D):Bool:=d.canLay0&&decide (d.depth<=1000)
noncomputable def deqD (_ _:D):Option Bool:=none
noncomputable def eqD (a b:D):Option Bool:=if okd a&&okd b then some (qX a b) else deqD a b
mutual
noncomputable def ltD:D->D->Option Bool
 | .int i,.int j=>some (decide (i<j))
 | .str x,.str y=>some (decide (x.cps.toList<y.cps.toList))
 | .tuple xs,.tuple ys=>ltL xs ys
 | _,_=>none
noncomputable def ltL:List D->List D->Option Bool
 | [],[]=>some false
 | [],_::_=>some true
 | _::_,[]=>some false
 | x::xs,y::ys=>if qX x y then ltL xs ys else ltD x y
end
theorem ltL_a:ltL [] []=some false:=rfl
theorem ltL_b {x r}:ltL [] (x::r)=some true:=rfl
theorem ws1 {x r}:ltL (x::r) []=some false:=rfl
theorem xk6 {x xs y ys}:ltL (x::xs) (y::ys)=if qX x y then ltL xs ys else ltD x y:=rfl
noncomputable def size:Nat:=16777216
noncomputable def zy2:D->Option Bool
 | .none=>some false
 | .bool b=>some b
 | .int i=>some (i != 0)
 | .list l=>some (!l.isEmpty)
 | .tuple l=>some (!l.isEmpty)
 | _=>none
noncomputable def isI:D->Bool
 | .int _=>true
 | .bool _=>true
 | _=>false
noncomputable def isB:D->Bool
 | .bool _=>true
 | _=>false
noncomputable def isS:D->Bool
 | .str _=>true
 | _=>false
noncomputable def isT:D->Bool
 | .tuple _=>true
 | _=>false
noncomputable def isL:D->Bool
 | .list _=>true
 | _=>false
noncomputable def isK:D->Bool
 | .dict _=>true
 | _=>false
noncomputable def isiD (d:D) (ty:Str):Option Bool :=
 if ty == "int" then some (isI d) else if ty == "bool" then some (isB d) else if ty == "str" then some (isS d)
 else if ty == "tuple" then some (isT d) else if ty == "list" then some (isL d) else if ty == "dict" then some (isK d) else none
noncomputable def mkL (l:List D):Option (D×Bool):=if l.length<=size then some (.list l,true) else none
noncomputable def mkT (l:List D):Option (D×Bool):=if l.length<=size then some (.tuple l,false) else none
noncomputable def zz9 (i:Int):Bool:=decide (i.natAbs<2^62)
noncomputable def zq6:D->Option Int
 | .int i=>some i
 | _=>none
noncomputable def ww9:D->Option Unit
 | .none=>some ()
 | _=>none
noncomputable def addD:D->D->Option (D×Bool)
 | .int a,.int b=>some (.int (a+b),false)
 | .list a,.list b=>mkL (a++b)
 | .tuple a,.tuple b=>mkT (a++b)
 | _,_=>none
noncomputable def mulD:D->D->Option (D×Bool)
 | .int a,.int b=>if zz9 a&&zz9 b then some (.int (a*b),false) else none
 | _,_=>none
noncomputable def int2 (f:Int->Int->Option (D×Bool)) (a b:D):Option (D×Bool):=(zq6 a).bind fun x=>(zq6 b).bind fun y=>f x y
noncomputable def binD (op:Operator) (a b:D):Option (D×Bool):=match op with
 | .Add=>addD a b
 | .Sub=>int2 (fun a b=>some (.int (a - b),false)) a b
 | .Mult=>mulD a b
 | .FloorDiv=>int2 (fun a b=>if b != 0&&zz9 b then some (.int (a.fdiv b),false) else none) a b
 | .Mod=>int2 (fun a b=>if b != 0&&zz9 b then some (.int (a.fmod b),false) else none) a b
 | .Pow=>int2 (fun a n=>if 0<=n/\(wJ a:Int)*n<=2^27 then some (.int (a^n.toNat),false) else none) a b
 | _=>none
mutual
noncomputable def zz8:D->Bool
 | .int _=>true
 | .str _=>true
 | .tuple l=>zt7 l
 | _=>false
noncomputable def zt7:List D->Bool
 | []=>true
 | x::r=>zz8 x&&zt7 r
end
theorem xd1:zt7 []=true:=rfl
theorem zg2 {x r}:zt7 (x::r)=(zz8 x&&zt7 r):=rfl
theorem xw8 {s}:zz8 (.str s)=true:=rfl
theorem zp4 {l}:zz8 (.tuple l)=zt7 l:=rfl
mutual
noncomputable def lev:D->Nat
 | .tuple l=>levL l+1
 | _=>0
noncomputable def levL:List D->Nat
 | []=>0
 | x::r=>max (lev x) (levL r)
end
theorem xk9:levL []=0:=rfl
theorem xv8 {x r}:levL (x::r)=max (lev x) (levL r):=rfl
theorem lev_i {i}:lev (.int i)=0:=rfl
theorem ws9 {s}:lev (.str s)=0:=rfl
theorem xc7 {l}:lev (.tuple l)=levL l+1:=rfl
noncomputable def tkey (d:D):Bool:=(match d with|.tuple _=>true|_=>false)&&zz8 d&&okd d&&decide (lev d<=8)
noncomputable def zq7:D->Option Nat
 | .int _=>some 0
 | .tuple l=>if tkey (.tuple l) then some 1 else none
 | _=>none
noncomputable def zj3 (kvs:List (D×D)):Bool:=kvs.all fun p=>zq7 p.1==some 0
noncomputable def zs3 (k:D) (kvs:List (D×D)):Bool:=(zq7 k).isSome&&kvs.all fun p=>zq7 p.1==zq7 k
noncomputable def zj8 (k:D) (kvs:List (D×D)):Bool:=zs3 k kvs
noncomputable def zq8 (kvs:List (D×D)) (k:D):Option D:=(kvs.find? fun p=>qX p.1 k).map (·.2)
noncomputable def dput:List (D×D)->D->D->List (D×D)
 | [],k,v=>[(k,v)]
 | p::r,k,v=>if qX p.1 k then (p.1,v)::r else p::dput r k v
theorem xt4 {p r k v}:dput (p::r) k v=if qX p.1 k then (p.1,v)::r else p::dput r k v:=rfl
noncomputable def inD (x:D):D->Option Bool
 | .list l=>if okd x&&l.all okd then some (l.any fun y=>qX y x) else none
 | .tuple l=>if okd x&&l.all okd then some (l.any fun y=>qX y x) else none
 | .dict kvs=>if zj8 x kvs&&!tkey x then some (zq8 kvs x).isSome else none
 | _=>none
noncomputable def xj6:D->Bool
 | .none=>true
 | _=>false
noncomputable def orS {α:Type} (a b:Option α):Option α:=match a with
 | some x=>some x
 | none=>b
noncomputable def gtD:D->D->Option Bool
 | .int a,.int b=>some (decide (b<a))
 | .str a,.str b=>some (decide (b.cps.toList<a.cps.toList))
 | _,_=>none
noncomputable def cmpD (op:CmpOp) (a b:D):Option Bool:=match op with
 | .Eq=>eqD a b
 | .NotEq=>(eqD a b).bind fun r=>some (!r)
 | .Lt=>if okd a&&okd b then ltD a b else none
 | .Gt=>gtD a b
 | .LtE=>(zq6 a).bind fun x=>(zq6 b).bind fun y=>some (decide (x<=y))
 | .GtE=>(zq6 a).bind fun x=>(zq6 b).bind fun y=>some (decide (y<=x))
 | .Is=>(ww9 b).bind fun _=>some (xj6 a)
 | .In=>inD a b
 | .NotIn=>(inD a b).bind fun r=>some (!r)
 | _=>none
noncomputable def idxD:D->D->Option D
 | .list l,.int i=>if 0<=i then l[i.toNat]? else none
 | .tuple l,.int i=>if 0<=i then l[i.toNat]? else none
 | .dict kvs,k=>if zj8 k kvs then zq8 kvs k else none
 | _,_=>none
noncomputable def yy5 (n:Nat) (i:Int):Nat:=if i<0 then (i+n).toNat else min i.toNat n
noncomputable def zv8 (l:List α) (lo hi:Option Int):List α :=
 (l.take (match hi with|some j=>yy5 l.length j|none=>l.length)).drop (match lo with|some i=>yy5 l.length i|none=>0)
noncomputable def yr8 (d:D) (lo hi:Option Int):Option (D×Bool) :=
 match d with
 | .list l=>some (.list (zv8 l lo hi),true)
 | .tuple l=>match lo,hi with
  | some i,none=>if 1<=i/\i<=l.length then some (.tuple (l.drop i.toNat),false) else none
  | _,_=>none
 | _=>none
noncomputable def insD (x:D):List D->List D
 | []=>[x]
 | y::r=>if ltD y x==some true then y::insD x r else x::y::r
theorem insD_a {x}:insD x []=[x]:=rfl
theorem wx7 {x y r}:insD x (y::r)=if ltD y x==some true then y::insD x r else x::y::r:=rfl
noncomputable def zx4:List D->List D
 | []=>[]
 | x::r=>insD x (zx4 r)
noncomputable def xj7:D->Bool
 | .int _=>true
 | _=>false
noncomputable def yz5:D->Bool
 | .tuple (.str _::_)=>true
 | _=>false
noncomputable def yk2:D->Bool
 | .tuple (.tuple _::_)=>true
 | _=>false
noncomputable def sortable (l:List D):Bool:=l.all okd&&l.all zz8&&(l.all xj7||l.all yz5||l.all yk2)&&l.all fun a=>l.all fun b=>(ltD a b).isSome
noncomputable def zc3:Nat:=size
theorem yb3 {n:Nat} (h:n<64):n<zc3:=jQ h (by decide)
noncomputable def zi0 (l:List D):Option (D×Bool):=if decide (l.length<2)||(sortable l&&decide (l.length<zc3)) then some (.list (zx4 l),true) else none
noncomputable def lenD:D->Option (D×Bool)
 | .list l=>some (.int l.length,false)
 | .tuple l=>some (.int l.length,false)
 | _=>none
noncomputable def yo9:D->Option (D×Bool)
 | .list l=>zi0 l
 | .dict kvs=>zi0 (kvs.map (·.1))
 | _=>none
noncomputable def seqD:D->Option (List D)
 | .list l=>some l
 | .tuple l=>some l
 | _=>none
noncomputable def extD:D->Option (List D)
 | .list l=>some l
 | .tuple l=>some l
 | _=>none
noncomputable def intD:D->Option (D×Bool)
 | .bool b=>some (.int (if b then 1 else 0),false)
 | _=>none
noncomputable def ye0:D->Option (List D)
 | .list l=>some l
 | _=>none
noncomputable def wz3:D->Option (List D)
 | .tuple l=>some l
 | _=>none
noncomputable def keysL:D->Option (D×Bool)
 | .dict kvs=>some (.list (kvs.map (·.1)),true)
 | _=>none
noncomputable def wp1:D->Option (D×Bool)
 | .dict kvs=>if zj3 kvs then some (.dict kvs,true) else none
 | _=>none
noncomputable def yn3 (p:Prim) (d:D):Option (D×Bool):=match p with
 | .sorted=>yo9 d
 | .list=>keysL d
 | .dict=>wp1 d
 | _=>none
noncomputable def zn7 (p:Prim) (d:D):Option (D×Bool):=match p with
 | .len=>lenD d
 | .sorted=>yn3 .sorted d
 | .tuple=>(seqD d).bind fun l=>some (.tuple l,false)
 | .list=>orS ((seqD d).bind fun l=>some (.list l,true)) (yn3 .list d)
 | .dict=>yn3 .dict d
 | .int=>intD d
 | _=>none
noncomputable def yp5:D->Option (List D)
 | .list l=>some l
 | .tuple l=>some l
 | .dict l=>some (l.map (·.1))
 | _=>none
noncomputable def zt6 (a b:Int):List D:=(List.range (b - a).toNat).map fun (k:Nat)=>.int (a+(k:Int))
noncomputable def zipL (xs ys:List D):List D:=(xs.zip ys).map fun p=>.tuple [p.1,p.2]
noncomputable abbrev Ev:=Sg->Option (D×Bool×Sg)
inductive Out where
 | next (σ:Sg)
 | ret (d:D) (fresh:Bool)
noncomputable def look (σ:Sg) (k:Nat):Option D:=match σ[k]? with
 | some (some (.val d))=>some d
 | some (some (.own d))=>some d
 | _=>none
inductive Opnd where
 | slot (k:Nat)|dat (d:D)
noncomputable def res:Opnd->Sg->Option D
 | .slot k,σ=>look σ k
 | .dat d,_=>some d
noncomputable def opn (i:I) (e:Ev) (σ:Sg):Option (Opnd×Sg):=match brwK i with
 | some k=>(look σ k).bind fun _=>some (.slot k,σ)
 | none=>(e σ).bind fun p=>some (.dat p.1,p.2.2)
noncomputable def uno (i:I) (e:Ev) (σ:Sg):Option (D×Sg):=(opn i e σ).bind fun p=>(res p.1 p.2).bind fun d=>some (d,p.2)
noncomputable def duo (i:I) (e:Ev) (j:I) (f:Ev) (σ:Sg):Option (D×D×Sg):=(opn i e σ).bind fun p=>(opn j f p.2).bind fun q=>(res p.1 q.2).bind fun a=>(res q.1 q.2).bind fun b=>some (a,b,q.2)
noncomputable def useS (σ:Sg) (k:Nat):Option (D×Bool×Sg):=match σ[k]? with
 | some (some (.val d))=>some (d,false,σ)
 | some (some (.own d))=>some (d,false,σ.set k (some (.val d)))
 | _=>none
noncomputable def put (σ:Sg) (k:Nat) (d:D) (fresh:Bool):Sg:=σ.set k (some (if fresh then .own d else .val d))
noncomputable def ownL (σ:Sg) (k:Nat):Option (List D):=match σ[k]? with
 | some (some (.own (.list l)))=>some l
 | _=>none
noncomputable def ownD (σ:Sg) (k:Nat):Option (List (D×D)):=match σ[k]? with
 | some (some (.own (.dict l)))=>some l
 | _=>none
noncomputable def zm3 (σ:Sg) (k:Nat):Bool:=match σ[k]? with
 | some (some (.own _))=>true
 | _=>false
noncomputable def bndD:D->Option Int
 | .int i=>if i.natAbs<2^62 then some i else none
 | _=>none
noncomputable def zl9 (k:Sg->Option Out):Out->Option Out
 | .next σ=>k σ
 | .ret d f=>some (.ret d f)
noncomputable def forN (bnd:D->Sg->Option Sg) (body:Sg->Option Out):List D->Sg->Option Out
 | [],σ=>some (.next σ)
 | d::r,σ=>(bnd d σ).bind fun σ'=>(body σ').bind (zl9 (forN bnd body r))
theorem forN_a {bnd body σ}:forN bnd body [] σ=some (.next σ):=rfl
theorem forN_b {bnd body d r σ}:forN bnd body (d::r) σ=(bnd d σ).bind fun σ'=>(body σ').bind (zl9 (forN bnd body r)):=rfl
noncomputable def zp1 (test:Sg->Option (D×Sg)) (body:Sg->Option Out):Nat->Sg->Option Out
 | 0,_=>none
 | n+1,σ=>(test σ).bind fun p=>(zy2 p.1).bind fun b=>bif b then (body p.2).bind (zl9 (zp1 test body n)) else some (.next p.2)
noncomputable def zf3 (n:Nat) (cond:Sg->Option (D×Sg)) (elt:Ev):List D->Sg->Option (List D×Sg)
 | [],σ=>some ([],σ)
 | d::r,σ=>(cond (σ++[some (.val d)])).bind fun p=>(zy2 p.1).bind fun b =>
  bif b then (elt p.2).bind fun x=>(zf3 n cond elt r (x.2.2.take n)).bind fun q=>some (x.1::q.1,q.2) else zf3 n cond elt r (p.2.take n)
theorem wp3 {n cond elt σ}:zf3 n cond elt [] σ=some ([],σ):=rfl
theorem wp2 {n cond elt d r σ}:zf3 n cond elt (d::r) σ=(cond (σ++[some (.val d)])).bind fun p=>(zy2 p.1).bind fun b=>bif b then (elt p.2).bind fun x=>(zf3 n cond elt r (x.2.2.take n)).bind fun q=>some (x.1::q.1,q.2) else zf3 n cond elt r (p.2.take n):=rfl
noncomputable def zq9 (n:Nat) (bc:D->Option (List D)) (cond:Sg->Option (D×Sg)) (elt:Ev):List D->Sg->Option (List D×Sg)
 | [],σ=>some ([],σ)
 | d::r,σ=>(bc d).bind fun ws=>(cond (σ++ws.map fun x=>some (.val x))).bind fun p=>(zy2 p.1).bind fun b =>
  bif b then (elt p.2).bind fun x=>(zq9 n bc cond elt r (x.2.2.take n)).bind fun q=>some (x.1::q.1,q.2) else zq9 n bc cond elt r (p.2.take n)
theorem wp5 {n bc cond elt σ}:zq9 n bc cond elt [] σ=some ([],σ):=rfl
theorem xh7 {n bc cond elt d r σ}:zq9 n bc cond elt (d::r) σ=(bc d).bind fun ws=>(cond (σ++ws.map fun x=>some (.val x))).bind fun p=>(zy2 p.1).bind fun b=>bif b then (elt p.2).bind fun x=>(zq9 n bc cond elt r (x.2.2.take n)).bind fun q=>some (x.1::q.1,q.2) else zq9 n bc cond elt r (p.2.take n):=rfl
noncomputable def bc1 (d:D):Option (List D):=some [d]
theorem zj6 {n:Nat} {cond:Sg->Option (D×Sg)} {elt:Ev}:∀ {l:List D} {σ:Sg},zf3 n cond elt l σ=zq9 n bc1 cond elt l σ
 | [],σ=>rfl
 | d::r,σ=>by
  simp only [wp3,wp2,wp5,xh7,bc1,vJ,xz,List.map_nil,zj6 (l:=r)]
noncomputable def tupN (m:Nat):D->Option (List D)
 | .tuple l=>if l.length=m then some l else none
 | _=>none
noncomputable def zn4 (k:Nat) (d:D) (σ:Sg):Option Sg:=some (σ.set k (some (.val d)))
noncomputable def bndE (i:I) (e:Ev) (σ:Sg):Option (Option Int×Sg):=bif zf8 i then some (none,σ) else (e σ).bind fun p=>(bndD p.1).bind fun j=>some (some j,p.2.2)
noncomputable def zs7 (i:I) (e:Ev) (σ:Sg):Option (D×Sg):=bif zf8 i then some (.bool true,σ) else (e σ).bind fun p=>some (p.1,p.2.2)
noncomputable def srcE (e:Ev) (σ:Sg):Option (List D×Sg):=(e σ).bind fun p=>(yp5 p.1).bind fun l=>some (l,p.2.2)
structure Env where
 call:Str->List D->Option (D×Bool)
 glob:Str->Option D
 fuel:Nat
noncomputable abbrev xc1 (c:Str->List D->Option (D×Bool)) (g:Str->Option D) (n:Nat):Env:=⟨c,g,n⟩
mutual
noncomputable def ev (Γ:Env):I->Ev
 | .cnone,σ=>some (.none,false,σ)
 | .cbool b,σ=>some (.bool b,false,σ)
 | .cint i,σ=>some (.int i,false,σ)
 | .cstr s,σ=>some (.str s,false,σ)
 | .var k,σ=>useS σ k
 | .glob x,σ=>(Γ.glob x).bind fun d=>some (d,false,σ)
 | .bin op a b,σ=>(duo a (ev Γ a) b (ev Γ b) σ).bind fun p=>(binD op p.1 p.2.1).bind fun q=>some (q.1,q.2,p.2.2)
 | .neg a,σ=>(ev Γ a σ).bind fun p=>(zq6 p.1).bind fun i=>some (.int (-i),false,p.2.2)
 | .not a,σ=>(uno a (ev Γ a) σ).bind fun p=>(zy2 p.1).bind fun b=>some (.bool (!b),false,p.2)
 | .and l,σ=>(yt6 Γ l σ).bind fun p=>some (p.1,false,p.2)
 | .or l,σ=>(evOr Γ l σ).bind fun p=>some (p.1,false,p.2)
 | .cmp op a b,σ=>(duo a (ev Γ a) b (ev Γ b) σ).bind fun p=>(cmpD op p.1 p.2.1).bind fun r=>some (.bool r,false,p.2.2)
 | .cmp2 o1 o2 a b c,σ=>(ev Γ a σ).bind fun x=>(ev Γ b x.2.2).bind fun y=>(cmpD o1 x.1 y.1).bind fun r =>
  bif r then (ev Γ c y.2.2).bind fun z=>(cmpD o2 y.1 z.1).bind fun q=>some (.bool q,false,z.2.2) else some (.bool false,false,y.2.2)
 | .ite c a b,σ=>(uno c (ev Γ c) σ).bind fun p=>(zy2 p.1).bind fun r=>bif r then ev Γ a p.2 else ev Γ b p.2
 | .tup l,σ=>(evs Γ l σ).bind fun p=>(mkT p.1).bind fun q=>some (q.1,q.2,p.2)
 | .lst l,σ=>(evs Γ l σ).bind fun p=>(mkL p.1).bind fun q=>some (q.1,q.2,p.2)
 | .dct0,σ=>some (.dict [],true,σ)
 | .comp1 elt s cond,σ=>(srcE (ev Γ s) σ).bind fun p=>(zf3 σ.length (zs7 cond (ev Γ cond)) (ev Γ elt) p.1 p.2).bind fun q=>(mkL q.1).bind fun r=>some (r.1,r.2,q.2)
 | .compT m elt s cond,σ=>(srcE (ev Γ s) σ).bind fun p=>(zq9 σ.length (tupN m) (zs7 cond (ev Γ cond)) (ev Γ elt) p.1 p.2).bind fun q=>(mkL q.1).bind fun r=>some (r.1,r.2,q.2)
 | .zip a b,σ=>(ev Γ a σ).bind fun p=>(ye0 p.1).bind fun xs=>(ev Γ b p.2.2).bind fun q=>(wz3 q.1).bind fun ys=>some (.list (zipL xs ys),false,q.2.2)
 | .call g l,σ=>(evs Γ l σ).bind fun p=>(Γ.call g p.1).bind fun q=>some (q.1,q.2,p.2)
 | .prim1 p a,σ=>(uno a (ev Γ a) σ).bind fun x=>(zn7 p x.1).bind fun q=>some (q.1,q.2,x.2)
 | .isi a ty,σ=>(uno a (ev Γ a) σ).bind fun p=>(isiD p.1 ty).bind fun b=>some (.bool b,false,p.2)
 | .idx a i,σ=>(duo a (ev Γ a) i (ev Γ i) σ).bind fun p=>(idxD p.1 p.2.1).bind fun d=>some (d,false,p.2.2)
 | .slc a lo hi,σ=>(opn a (ev Γ a) σ).bind fun o=>(bndE lo (ev Γ lo) o.2).bind fun l=>(bndE hi (ev Γ hi) l.2).bind fun h=>(res o.1 h.2).bind fun d=>(yr8 d l.1 h.1).bind fun r=>some (r.1,r.2,h.2)
 | .pop k,σ=>(ownL σ k).bind fun l=>l.getLast?.bind fun d=>some (d,false,σ.set k (some (.own (.list l.dropLast))))
 | .rng1 b,σ=>(ev Γ b σ).bind fun p=>(zq6 p.1).bind fun y=>if zz9 y&&decide (y.toNat<=size) then some (.list (zt6 0 y),false,p.2.2) else none
 | .rng a b,σ=>(ev Γ a σ).bind fun p=>(zq6 p.1).bind fun x=>(ev Γ b p.2.2).bind fun q=>(zq6 q.1).bind fun y =>
  if zz9 x&&zz9 y&&decide ((y - x).toNat<=size) then some (.list (zt6 x y),false,q.2.2) else none
 | .rev a,σ=>(ev Γ a σ).bind fun p=>(ye0 p.1).bind fun l=>some (.list l.reverse,false,p.2.2)
 | _,_=>none
noncomputable def evs (Γ:Env):I->Sg->Option (List D×Sg)
 | .nil,σ=>some ([],σ)
 | .cons a r,σ=>(ev Γ a σ).bind fun p=>(evs Γ r p.2.2).bind fun q=>some (p.1::q.1,q.2)
 | _,_=>none
noncomputable def yt6 (Γ:Env):I->Sg->Option (D×Sg)
 | .cons a .nil,σ=>(ev Γ a σ).bind fun p=>some (p.1,p.2.2)
 | .cons a r,σ=>(ev Γ a σ).bind fun p=>(zy2 p.1).bind fun b=>bif b then yt6 Γ r p.2.2 else some (p.1,p.2.2)
 | _,_=>none
noncomputable def evOr (Γ:Env):I->Sg->Option (D×Sg)
 | .cons a .nil,σ=>(ev Γ a σ).bind fun p=>some (p.1,p.2.2)
 | .cons a r,σ=>(ev Γ a σ).bind fun p=>(zy2 p.1).bind fun b=>bif b then some (p.1,p.2.2) else evOr Γ r p.2.2
 | _,_=>none
end
noncomputable def tupD:D->Option (List D)
 | .tuple l=>some l
 | _=>none
noncomputable def xm4 (σ:Sg):List Nat->List D->Sg
 | k::ks,d::ds=>xm4 (put σ k d false) ks ds
 | _,_=>σ
noncomputable def yx0 (ks:List Nat) (d:D) (σ:Sg):Option Sg:=(tupD d).bind fun ds=>if ds.length=ks.length then some (xm4 σ ks ds) else none
noncomputable def appD (σ:Sg) (k:Nat) (r:List D):Option Out:=(ownL σ k).bind fun l=>if l.length+r.length<size then some (.next (σ.set k (some (.own (.list (l++r)))))) else none
noncomputable def remL (l:List D) (x:D):Option (List D):=if okd x&&l.all okd&&(l.any fun y=>qX y x) then some (l.eraseIdx (l.findIdx fun y=>qX y x)) else none
noncomputable def ex (Γ:Env):I->Sg->Option Out
 | .nil,σ=>some (.next σ)
 | .pass,σ=>some (.next σ)
 | .cons a b,σ=>(ex Γ a σ).bind (zl9 (ex Γ b))
 | .asg k e,σ=>(ev Γ e σ).bind fun p=>some (.next (put p.2.2 k p.1 p.2.1))
 | .sto k key e,σ=>(ev Γ e σ).bind fun v=>if zm3 v.2.2 k then (ev Γ key v.2.2).bind fun x=>(ownD x.2.2 k).bind fun kvs =>
   if zs3 x.1 kvs&&decide (kvs.length<size) then some (.next (x.2.2.set k (some (.own (.dict (dput kvs x.1 v.1)))))) else none
  else none
 | .app k e,σ=>(ownL σ k).bind fun _=>(ev Γ e σ).bind fun p=>appD p.2.2 k [p.1]
 | .ext k e,σ=>(ownL σ k).bind fun _=>(ev Γ e σ).bind fun p=>(extD p.1).bind fun r=>appD p.2.2 k r
 | .clr k,σ=>(ownL σ k).bind fun _=>some (.next (σ.set k (some (.own (.list [])))))
 | .exp e,σ=>(ev Γ e σ).bind fun p=>(zq6 p.1).bind fun _=>some (.next p.2.2)
 | .iff c t e,σ=>(uno c (ev Γ c) σ).bind fun p=>(zy2 p.1).bind fun b=>bif b then ex Γ t p.2 else ex Γ e p.2
 | .whl c b,σ=>zp1 (uno c (ev Γ c)) (ex Γ b) Γ.fuel σ
 | .for1 k s b,σ=>(srcE (ev Γ s) σ).bind fun p=>forN (zn4 k) (ex Γ b) p.1 p.2
 | .rem k e,σ=>(ownL σ k).bind fun _=>(ev Γ e σ).bind fun p=>(ownL p.2.2 k).bind fun l=>(remL l p.1).bind fun l'=>some (.next (p.2.2.set k (some (.own (.list l')))))
 | .fors ks s b,σ=>(srcE (ev Γ s) σ).bind fun p=>forN (yx0 ks) (ex Γ b) p.1 p.2
 | .ret e,σ=>(ev Γ e σ).bind fun p=>some (.ret p.1 p.2.1)
 | _,_=>none
theorem noS {α:Type} {a:α} (h:(none:Option α)=some a):False:=nomatch h
theorem yo4 {d:D} {i:Int} (h:zq6 d=some i):d=.int i:=by
 cases d<;>first|(exact (noS h).elim)|(cases h; rfl)
@[elab_as_elim] theorem xg7 {d:D} {i:Int} {P:D->Prop} (h:zq6 d=some i) (k:P (.int i)):P d:=yo4 h▸k
theorem xy5 {d:D} {i:Unit} (h:ww9 d=some i):d=.none:=by
 cases d<;>first|(exact (noS h).elim)|rfl
theorem ifS {α:Type} {c:Prop} [Decidable c] {a b:α} (h:(if c then some a else none)=some b):c/\a=b:=by
 by_cases hc:c
 ·rw [if_pos hc] at h; exact ⟨hc,xW h⟩
 ·rw [if_neg hc] at h; cases h
@[elab_as_elim] theorem ifK {α:Type} {c:Prop} [Decidable c] {a b:α} {P:α->Prop} (h:(if c then some a else none)=some b) (k:c->P a):P b:=(ifS h).2▸k (ifS h).1
@[elab_as_elim] theorem addK {x y:D} {r:D×Bool} {P:D->D->D×Bool->Prop} (e:addD x y=some r) (h1:∀ i j,P (.int i) (.int j) (.int (i+j),false)) (h2:∀ a b,(a++b).length<=size->P (.list a) (.list b) (.list (a++b),true))
  (h3:∀ a b,(a++b).length<=size->P (.tuple a) (.tuple b) (.tuple (a++b),false)):P x y r:=by
 cases x<;>(try exact (noS e).elim)<;>cases y<;>try exact (noS e).elim
 ·exact xW e▸h1 _ _
 ·exact ifK e (h2 _ _)
 ·exact ifK e (h3 _ _)
@[elab_as_elim] theorem as2K {β:Type} {g:Int->Int->Option β} {x y:D} {r:β} {P:D->D->Prop} (e:((zq6 x).bind fun i=>(zq6 y).bind fun j=>g i j)=some r) (k:∀ i j,g i j=some r->P (.int i) (.int j)):P x y:=by
 cases x<;>(try exact (noS e).elim)<;>cases y<;>first|exact (noS e).elim|exact k _ _ e
@[elab_as_elim] theorem xb5 {g:Int->Int->Option (D×Bool)} {x y:D} {r:D×Bool} {P:D->D->Prop} (e:int2 g x y=some r) (k:∀ i j,g i j=some r->P (.int i) (.int j)):P x y:=as2K (x:=x) (y:=y) (P:=P) e k
@[elab_as_elim] theorem gtK {x y:D} {b:Bool} {P:D->D->Bool->Prop} (e:gtD x y=some b) (h1:∀ i j:Int,P (.int i) (.int j) (decide (j<i))) (h2:∀ i j:Str,P (.str i) (.str j) (decide (j.cps.toList<i.cps.toList))):P x y b:=by
 cases x<;>(try exact (noS e).elim)<;>cases y<;>try exact (noS e).elim
 ·exact xW e▸h1 _ _
 ·exact xW e▸h2 _ _
@[elab_as_elim] theorem inK {x y:D} {b:Bool} {P:D->Bool->Prop} (e:inD x y=some b) (h1:∀ l,okd x=true->l.all okd=true->P (.list l) (l.any fun y=>qX y x))
  (h2:∀ l,okd x=true->l.all okd=true->P (.tuple l) (l.any fun y=>qX y x)) (h3:∀ l,(zj8 x l&&!tkey x)=true->P (.dict l) (zq8 l x).isSome):P y b:=by
 cases y<;>try exact (noS e).elim
 ·exact ifK e fun h=>h1 _ (zw.mp h).1 (zw.mp h).2
 ·exact ifK e fun h=>h2 _ (zw.mp h).1 (zw.mp h).2
 ·exact ifK e fun h=>h3 _ h
@[elab_as_elim] theorem idxK {x y d:D} {P:D->D->Prop} (e:idxD x y=some d) (h1:∀ (l:List D) (i:Int),0<=i->l[i.toNat]?=some d->P (.list l) (.int i)) (h2:∀ (l:List D) (i:Int),0<=i->l[i.toNat]?=some d->P (.tuple l) (.int i))
  (h3:∀ l k,zj8 k l=true->zq8 l k=some d->P (.dict l) k):P x y:=by
 have ite:∀ {c:Prop} [Decidable c] {o:Option D} {Q:Prop},(if c then o else none)=some d->(c->o=some d->Q)->Q:=fun {c} _ o Q e k=>by
  by_cases h:c
  ·exact k h ((if_pos h).symm.trans e)
  ·exact (noS ((if_neg h).symm.trans e)).elim
 cases x with
 | list l=>cases y<;>first|exact (noS e).elim|exact ite e (h1 _ _)
 | tuple l=>cases y<;>first|exact (noS e).elim|exact ite e (h2 _ _)
 | dict l=>exact ite e (h3 _ _)
 | _=>exact (noS e).elim
@[elab_as_elim] theorem wn8 {x:D} {lo hi:Option Int} {r:D×Bool} {P:D->Option Int->Option Int->D×Bool->Prop} (e:yr8 x lo hi=some r) (h1:∀ l lo hi,P (.list l) lo hi (.list (zv8 l lo hi),true))
  (h2:∀ l i,1<=i/\i<=(l.length:Int)->P (.tuple l) (some i) none (.tuple (l.drop i.toNat),false)):P x lo hi r:=by
 cases x with
 | list l=>exact xW e▸h1 _ _ _
 | tuple l=>cases lo<;>cases hi<;>first|exact (noS e).elim|exact ifK e (h2 _ _)
 | _=>exact (noS e).elim
@[elab_as_elim] theorem lenK {x:D} {r:D×Bool} {P:D->D×Bool->Prop} (e:lenD x=some r) (h1:∀ l,P (.list l) (.int l.length,false)) (h2:∀ l,P (.tuple l) (.int l.length,false)):P x r:=by
 cases x<;>first|exact (noS e).elim|exact xW e▸h1 _|exact xW e▸h2 _
@[elab_as_elim] theorem seqK {x:D} {l:List D} {P:D->Prop} (e:seqD x=some l) (h1:P (.list l)) (h2:P (.tuple l)):P x:=by
 cases x<;>first|exact (noS e).elim|exact xW e▸h1|exact xW e▸h2
@[elab_as_elim] theorem extK {x:D} {l:List D} {P:D->Prop} (e:extD x=some l) (h1:P (.list l))
  (h2:P (.tuple l))
  : P x:=by
 cases x<;>first|exact (noS e).elim|exact xW e▸h1|exact xW e▸h2
theorem iteS {α:Type} {c:Prop} [Decidable c] {a b:Option α} {r:α} {P:Prop} (e:(if c then a else b)=some r) (h1:c->a=some r->P) (h2:b=some r->P):P:=by
 by_cases h:c
 ·exact h1 h ((if_pos h).symm.trans e)
 ·exact h2 ((if_neg h).symm.trans e)
structure Fn where
 params:Nat
 slots:Nat
 body:I
noncomputable abbrev Fns:=List (Str×Fn)
noncomputable def retO:Out->D×Bool
 | .ret d f=>(d,f)
 | .next _=>(.none,false)
noncomputable def run (F:Fns) (gl:Str->Option D) (fuel:Nat):Nat->Str->List D->Option (D×Bool)
 | 0,_,_=>none
 | n+1,g,args=>(F.lookup g).bind fun fn=>if args.length=fn.params then
   (ex (xc1 (run F gl fuel n) gl fuel) fn.body (args.map (fun d=>some (.val d))++jv (fn.slots - fn.params) none)).bind fun o=>some (retO o)
  else none
theorem zd0 {i j:Int}:ltD (.int i) (.int j)=some (decide (i<j)):=rfl
theorem yu5 {x y:Str}:ltD (.str x) (.str y)=some (decide (x.cps.toList<y.cps.toList)):=rfl
theorem za5 {x y:List D}:ltD (.tuple x) (.tuple y)=ltL x y:=rfl
@[elab_as_elim] theorem ltK {x y:D} {b:Bool} {P:D->D->Bool->Prop} (e:ltD x y=some b) (h1:∀ i j:Int,P (.int i) (.int j) (decide (i<j))) (h2:∀ i j:Str,P (.str i) (.str j) (decide (i.cps.toList<j.cps.toList)))
  (h3:∀ i j b,ltL i j=some b->P (.tuple i) (.tuple j) b)
  : P x y b:=by
 cases x<;>(try exact (noS e).elim)<;>cases y<;>try exact (noS e).elim
 ·exact xW e▸h1 _ _
 ·exact xW e▸h2 _ _
 ·exact h3 _ _ _ e
theorem xp4 {Γ:Env} {σ:Sg} {i:Int}:ev Γ (.cint i) σ=some (.int i,false,σ):=rfl
theorem xh2 {Γ:Env} {σ:Sg} {k:Nat}:ev Γ (.var k) σ=useS σ k:=rfl
theorem xh4 {Γ:Env} {σ:Sg} {l:I}:ev Γ (.and l) σ=(yt6 Γ l σ).bind fun p=>some (p.1,false,p.2):=rfl
theorem xh3 {Γ:Env} {σ:Sg} {op:CmpOp} {a b:I}:ev Γ (.cmp op a b) σ=(duo a (ev Γ a) b (ev Γ b) σ).bind fun p=>(cmpD op p.1 p.2.1).bind fun r=>some (.bool r,false,p.2.2):=rfl
theorem xp3 {Γ:Env} {σ:Sg} {o1 o2:CmpOp} {a b c:I}:ev Γ (.cmp2 o1 o2 a b c) σ=(ev Γ a σ).bind fun x=>(ev Γ b x.2.2).bind fun y=>(cmpD o1 x.1 y.1).bind fun r=>bif r then (ev Γ c y.2.2).bind fun z=>(cmpD o2 y.1 z.1).bind fun q=>some (.bool q,false,z.2.2) else some (.bool false,false,y.2.2):=rfl
theorem zr5 {Γ:Env} {σ:Sg} {elt s cond:I}:ev Γ (.comp1 elt s cond) σ=(srcE (ev Γ s) σ).bind fun p=>(zf3 σ.length (zs7 cond (ev Γ cond)) (ev Γ elt) p.1 p.2).bind fun q=>(mkL q.1).bind fun r=>some (r.1,r.2,q.2):=rfl
theorem xz9 {Γ:Env} {σ:Sg} {m:Nat} {elt s cond:I}:ev Γ (.compT m elt s cond) σ=(srcE (ev Γ s) σ).bind fun p=>(zq9 σ.length (tupN m) (zs7 cond (ev Γ cond)) (ev Γ elt) p.1 p.2).bind fun q=>(mkL q.1).bind fun r=>some (r.1,r.2,q.2):=rfl
theorem xh1 {Γ:Env} {σ:Sg} {a b:I}:ev Γ (.zip a b) σ=(ev Γ a σ).bind fun p=>(ye0 p.1).bind fun xs=>(ev Γ b p.2.2).bind fun q=>(wz3 q.1).bind fun ys=>some (.list (zipL xs ys),false,q.2.2):=rfl
theorem yt8 {Γ:Env} {σ:Sg} {p:Prim} {a:I}:ev Γ (.prim1 p a) σ=(uno a (ev Γ a) σ).bind fun x=>(zn7 p x.1).bind fun q=>some (q.1,q.2,x.2):=rfl
theorem zu3 {Γ:Env} {σ:Sg} {a lo hi:I}:ev Γ (.slc a lo hi) σ=(opn a (ev Γ a) σ).bind fun o=>(bndE lo (ev Γ lo) o.2).bind fun l=>(bndE hi (ev Γ hi) l.2).bind fun h=>(res o.1 h.2).bind fun d=>(yr8 d l.1 h.1).bind fun r=>some (r.1,r.2,h.2):=rfl
theorem yl1 {Γ:Env} {σ:Sg} {a:I}:yt6 Γ (.cons a .nil) σ=(ev Γ a σ).bind fun p=>some (p.1,p.2.2):=rfl
theorem yl0 {Γ:Env} {σ:Sg} {a a2 r:I}:yt6 Γ (.cons a (.cons a2 r)) σ=(ev Γ a σ).bind fun p=>(zy2 p.1).bind fun b=>bif b then yt6 Γ (.cons a2 r) p.2.2 else some (p.1,p.2.2):=rfl
theorem zz1 {Γ:Env} {σ:Sg} {a b:I}:ex Γ (.cons a b) σ=(ex Γ a σ).bind (zl9 (ex Γ b)):=rfl
theorem yt7 {Γ:Env} {σ:Sg} {k:Nat} {e:I}:ex Γ (.asg k e) σ=(ev Γ e σ).bind fun p=>some (.next (put p.2.2 k p.1 p.2.1)):=rfl
theorem yf2 {Γ:Env} {σ:Sg} {k:Nat} {key e:I}:ex Γ (.sto k key e) σ=(ev Γ e σ).bind fun v=>if zm3 v.2.2 k then (ev Γ key v.2.2).bind fun x=>(ownD x.2.2 k).bind fun kvs=>if zs3 x.1 kvs&&decide (kvs.length<size) then some (.next (x.2.2.set k (some (.own (.dict (dput kvs x.1 v.1)))))) else none else none:=rfl
theorem yf3 {Γ:Env} {σ:Sg} {e:I}:ex Γ (.exp e) σ=(ev Γ e σ).bind fun p=>(zq6 p.1).bind fun _=>some (.next p.2.2):=rfl
theorem zz2 {Γ:Env} {σ:Sg} {c t e:I}:ex Γ (.iff c t e) σ=(uno c (ev Γ c) σ).bind fun p=>(zy2 p.1).bind fun b=>bif b then ex Γ t p.2 else ex Γ e p.2:=rfl
theorem eq_ex_whl {Γ:Env} {σ:Sg} {c b:I}:ex Γ (.whl c b) σ=zp1 (uno c (ev Γ c)) (ex Γ b) Γ.fuel σ:=rfl
theorem zy4 {Γ:Env} {σ:Sg} {k:Nat} {s b:I}:ex Γ (.for1 k s b) σ=(srcE (ev Γ s) σ).bind fun p=>forN (zn4 k) (ex Γ b) p.1 p.2:=rfl
theorem zl4 {Γ:Env} {σ:Sg} {ks:List Nat} {s b:I}:ex Γ (.fors ks s b) σ=(srcE (ev Γ s) σ).bind fun p=>forN (yx0 ks) (ex Γ b) p.1 p.2:=rfl
theorem xh0 {Γ:Env} {σ:Sg} {k:Nat} {e:I}:ex Γ (.rem k e) σ=(ownL σ k).bind fun _=>(ev Γ e σ).bind fun p=>(ownL p.2.2 k).bind fun l=>(remL l p.1).bind fun l'=>some (.next (p.2.2.set k (some (.own (.list l'))))):=rfl
theorem zb6 {Γ:Env} {σ:Sg} {e:I}:ex Γ (.ret e) σ=(ev Γ e σ).bind fun p=>some (.ret p.1 p.2.1):=rfl
end Mini
end
section
namespace Mini
open PySem
mutual
theorem zx0:∀ {a b:D},zz8 a=true->zz8 b=true->(qX a b=true↔a=b)
 | .int i,.int j,_,_=>(beq_iff_eq (a:=i) (b:=j)).trans ⟨congrArg _,vy.inj⟩
 | .str i,.str j,_,_=>(beq_iff_eq (a:=i) (b:=j)).trans ⟨congrArg _,PyData.str.inj⟩
 | .tuple _,.tuple _,ha,hb=>(zq4 ha hb).trans ⟨congrArg _,wV.inj⟩
 | .int _,.str _,_,_=>⟨fun h=>(qj h).elim,nofun⟩
 | .int _,.tuple _,_,_=>⟨fun h=>(qj h).elim,nofun⟩
 | .str _,.int _,_,_=>⟨fun h=>(qj h).elim,nofun⟩
 | .str _,.tuple _,_,_=>⟨fun h=>(qj h).elim,nofun⟩
 | .tuple _,.int _,_,_=>⟨fun h=>(qj h).elim,nofun⟩
 | .tuple _,.str _,_,_=>⟨fun h=>(qj h).elim,nofun⟩
 | .none,_,h,_=>(qj h).elim
 | .bool _,_,h,_=>(qj h).elim
 | .list _,_,h,_=>(qj h).elim
 | .dict _,_,h,_=>(qj h).elim
 | _,.none,_,h=>(qj h).elim
 | _,.bool _,_,h=>(qj h).elim
 | _,.list _,_,h=>(qj h).elim
 | _,.dict _,_,h=>(qj h).elim
theorem zq4:∀ {xs ys:List D},zt7 xs=true->zt7 ys=true->(vj xs ys=true↔xs=ys)
 | [],[],_,_=>⟨fun _=>rfl,fun _=>rfl⟩
 | [],_::_,_,_=>⟨fun h=>(qj h).elim,nofun⟩
 | _::_,[],_,_=>⟨fun h=>(qj h).elim,nofun⟩
 | x::xs,y::ys,ha,hb=>by
  have ha:=zw.mp ha
  have hb:=zw.mp hb
  show (qX x y&&vj xs ys)=true↔_
  rw [zj,zx0 ha.1 hb.1,zq4 ha.2 hb.2,List.cons.injEq]
end
theorem zg9 {a:D} (h:zz8 a=true):qX a a=true:=(zx0 h h).mpr rfl
mutual
theorem lt_irrefl:∀ {a:D},zz8 a=true->ltD a a≠some true
 | .int i,_=>by simp [zd0,yu5,za5]
 | .str i,_=>by simp [zd0,yu5,za5]
 | .tuple xs,h=>by
  simp only [zd0,yu5,za5,zp4] at *
  exact yq9 h
 | .none,h=>(qj h).elim
 | .bool _,h=>(qj h).elim
 | .list _,h=>(qj h).elim
 | .dict _,h=>(qj h).elim
theorem yq9:∀ {xs:List D},zt7 xs=true->ltL xs xs≠some true
 | [],_=>by simp [ltL_a]
 | x::xs,h=>by
  simp only [zg2,zj] at h
  simp only [xk6,zg9 h.1,if_true]
  exact yq9 h.2
end
theorem lt_i {i:Int} {b:D} {r:Bool} (h:ltD (.int i) b=some r):∃ j,b=.int j:=by
 cases b<;>first|exact (noS h).elim|exact ⟨_,rfl⟩
theorem lt_s {i:Str} {b:D} {r:Bool} (h:ltD (.str i) b=some r):∃ j,b=.str j:=by
 cases b<;>first|exact (noS h).elim|exact ⟨_,rfl⟩
theorem lt_t {i:List D} {b:D} {r:Bool} (h:ltD (.tuple i) b=some r):∃ j,b=.tuple j:=by
 cases b<;>first|exact (noS h).elim|exact ⟨_,rfl⟩
mutual
theorem lt_trans:∀ {a b c:D},zz8 a=true->zz8 b=true->zz8 c=true->ltD a b=some true->ltD b c=some true->ltD a c=some true
 | .int i,b,c,_,_,_,h1,h2=>by
  obtain ⟨j,rfl⟩:=lt_i h1
  obtain ⟨k,rfl⟩:=lt_i h2
  simp only [zd0,uz,decide_eq_true_eq] at *
  bv_omega
 | .str i,b,c,_,_,_,h1,h2=>by
  obtain ⟨j,rfl⟩:=lt_s h1
  obtain ⟨k,rfl⟩:=lt_s h2
  simp only [yu5,uz,decide_eq_true_eq] at *
  exact List.lt_trans h1 h2
 | .tuple xs,b,c,ha,hb,hc,h1,h2=>by
  obtain ⟨ys,rfl⟩:=lt_t h1
  obtain ⟨zs,rfl⟩:=lt_t h2
  exact yh7 (xs:=xs) ha hb hc h1 h2
 | .none,_,_,h,_,_,_,_=>(qj h).elim
 | .bool _,_,_,h,_,_,_,_=>(qj h).elim
 | .list _,_,_,h,_,_,_,_=>(qj h).elim
 | .dict _,_,_,h,_,_,_,_=>(qj h).elim
theorem yh7:∀ {xs ys zs:List D},zt7 xs=true->zt7 ys=true->zt7 zs=true->ltL xs ys=some true->ltL ys zs=some true->ltL xs zs=some true
 | [],_,[],_,_,_,h1,h2=>by
  cases ‹List D› with
  | nil=>simp [ltL_a] at h1
  | cons _ _=>simp [ws1] at h2
 | [],_,_::_,_,_,_,_,_=>rfl
 | _::_,[],_,_,_,_,h1,_=>by simp [ws1] at h1
 | _::_,_::_,[],_,_,_,_,h2=>by simp [ws1] at h2
 | x::xs,y::ys,z::zs,ha,hb,hc,h1,h2=>by
  simp only [zg2,zj] at ha hb hc
  simp only [xk6] at *
  by_cases e1:qX x y=true
  ·rw [if_pos e1] at h1
   have e1':=(zx0 ha.1 hb.1).mp e1
   subst e1'
   by_cases e2:qX x z=true
   ·rw [if_pos e2] at h2 |-
    exact yh7 ha.2 hb.2 hc.2 h1 h2
   ·rw [if_neg e2] at h2 |-
    exact h2
  ·rw [if_neg e1] at h1
   by_cases e2:qX y z=true
   ·have e2':=(zx0 hb.1 hc.1).mp e2
    subst e2'
    rw [if_neg e1]; exact h1
   ·rw [if_neg e2] at h2
    have h3:=lt_trans ha.1 hb.1 hc.1 h1 h2
    have e3:¬ qX x z=true:=fun e=>by
     have e':=(zx0 ha.1 hc.1).mp e
     subst e'
     exact lt_irrefl ha.1 h3
    rw [if_neg e3]; exact h3
end
mutual
theorem xv6:∀ {a b:D},zz8 a=true->zz8 b=true->ltD a b=some false->a≠b->ltD b a=some true
 | .int i,b,_,_,h,hn=>by
  obtain ⟨j,rfl⟩:=lt_i h
  simp only [zd0,yu5,za5,uz,decide_eq_false_iff_not,decide_eq_true_eq] at *
  have:i≠j:=fun e=>hn (by rw [e])
  bv_omega
 | .str i,b,_,_,h,hn=>by
  obtain ⟨j,rfl⟩:=lt_s h
  simp only [zd0,yu5,za5,uz,decide_eq_false_iff_not,decide_eq_true_eq] at *
  have hne:i.cps.toList≠j.cps.toList:=fun e=>hn (by
   obtain ⟨ci⟩:=i
   obtain ⟨cj⟩:=j
   have:ci=cj:=Array.toList_inj.mp e
   rw [this])
  by_cases q:j.cps.toList<i.cps.toList
  ·exact q
  ·exact absurd (List.le_antisymm (List.not_lt.mp q) (List.not_lt.mp h)) hne
 | .tuple xs,b,ha,hb,h,hn=>by
  obtain ⟨ys,rfl⟩:=lt_t h
  simp only [zd0,yu5,za5,zp4] at *
  exact yh8 ha hb h (fun e=>hn (by rw [e]))
 | .none,_,h,_,_,_=>(qj h).elim
 | .bool _,_,h,_,_,_=>(qj h).elim
 | .list _,_,h,_,_,_=>(qj h).elim
 | .dict _,_,h,_,_,_=>(qj h).elim
theorem yh8:∀ {xs ys:List D},zt7 xs=true->zt7 ys=true->ltL xs ys=some false->xs≠ys->ltL ys xs=some true
 | [],[],_,_,_,hn=>absurd rfl hn
 | [],_::_,_,_,h,_=>by simp [ltL_b] at h
 | _::_,[],_,_,_,_=>rfl
 | x::xs,y::ys,ha,hb,h,hn=>by
  simp only [zg2,zj] at ha hb
  simp only [xk6] at *
  by_cases e1:qX x y=true
  ·rw [if_pos e1] at h
   have e1':=(zx0 ha.1 hb.1).mp e1
   subst e1'
   rw [if_pos (zg9 ha.1)]
   exact yh8 ha.2 hb.2 h (fun e=>hn (by rw [e]))
  ·rw [if_neg e1] at h
   have e2:¬ qX y x=true:=fun e=>e1 (by rw [(zx0 hb.1 ha.1).mp e]; exact zg9 ha.1)
   rw [if_neg e2]
   exact xv6 ha.1 hb.1 h (fun e=>e1 (by rw [e]; exact zg9 hb.1))
end
noncomputable def leD (a b:D):Prop:=ltD b a≠some true
structure Cmp (l:List D):Prop where
 plain:∀ a∈l,zz8 a=true
 some_:∀ a∈l,∀ b∈l,(ltD a b).isSome=true
theorem Cmp.tail {x:D} {l:List D} (h:Cmp (x::l)):Cmp l:=⟨fun a ha=>h.plain a (xX _ ha),fun a ha b hb=>h.some_ a (xX _ ha) b (xX _ hb)⟩
theorem Cmp.perm {l l':List D} (h:Cmp l) (p:l'.Perm l):Cmp l':=⟨fun a ha=>h.plain a (p.mem_iff.mp ha),fun a ha b hb=>h.some_ a (p.mem_iff.mp ha) b (p.mem_iff.mp hb)⟩
theorem Cmp.lt_or {l:List D} (h:Cmp l) {a b:D} (ha:a∈l) (hb:b∈l) (hn:ltD a b≠some true):ltD b a=some true\/a=b:=by
 by_cases e:a=b
 ·exact .inr e
 ·left
  obtain ⟨c,hc⟩:=y7.mp (h.some_ a ha b hb)
  cases c with
  | true=>exact absurd hc hn
  | false=>exact xv6 (h.plain a ha) (h.plain b hb) hc e
theorem Cmp.le_trans {l:List D} (h:Cmp l) {a b c:D} (ha:a∈l) (hb:b∈l) (hc:c∈l) (h1:leD a b) (h2:leD b c):leD a c:=by
 intro h3
 rcases h.lt_or hb ha h1 with q|rfl
 ·exact h2 (lt_trans (h.plain c hc) (h.plain a ha) (h.plain b hb) h3 q)
 ·exact h2 h3
theorem Cmp.antisymm {l:List D} (h:Cmp l) {a b:D} (ha:a∈l) (hb:b∈l) (h1:leD a b) (h2:leD b a):a=b:=by
 rcases h.lt_or hb ha h1 with q|q
 ·exact absurd q h2
 ·exact q.symm
theorem ym6 (x:D):∀ l:List D,(insD x l).Perm (x::l)
 | []=>wK.refl _
 | y::r=>by
  rw [wx7]
  split
  ·exact ((ym6 x r).cons y).trans (wK.swap x y r)
  ·exact wK.refl _
theorem zz3:∀ l:List D,(zx4 l).Perm l
 | []=>wK.refl _
 | x::r=>(ym6 x _).trans ((zz3 r).cons x)
set_option tactic.hygienic true in
theorem yp6 {x:D}:∀ {l:List D},Cmp (x::l)->l.Pairwise leD->(insD x l).Pairwise leD
 | [],_,_=>by simp [insD_a]
 | y::r,h,hs=>by
  rw [List.pairwise_cons] at hs
  rw [wx7]
  split
  ·rename_i hlt
   simp only [beq_iff_eq] at hlt
   have hc:Cmp (x::r):=⟨fun a ha=>h.plain a (by rcases z0.mp ha with e|e<;>simp [e]),fun a ha b hb=>h.some_ a (by rcases z0.mp ha with e|e<;>simp [e]) b (by rcases z0.mp hb with e|e<;>simp [e])⟩
   rw [List.pairwise_cons]
   refine ⟨fun z hz=>?_,yp6 hc hs.2⟩
   have hz':=(ym6 x r).mem_iff.mp hz
   rcases z0.mp hz' with rfl|hz'
   ·intro q
    exact lt_irrefl (h.plain z (by simp)) (lt_trans (h.plain z (by simp)) (h.plain y (by simp)) (h.plain z (by simp)) q hlt)
   ·exact hs.1 z hz'
  ·rename_i hlt
   simp only [beq_iff_eq] at hlt
   rw [List.pairwise_cons]
   refine ⟨fun z hz=>?_,List.pairwise_cons.mpr hs⟩
   rcases z0.mp hz with rfl|hz
   ·exact hlt
   ·exact h.le_trans (b:=y) (by simp) (by simp) (by simp [hz]) hlt (hs.1 z hz)
theorem zv7:∀ {l:List D},Cmp l->(zx4 l).Pairwise leD
 | [],_=>List.Pairwise.nil
 | x::r,h=>yp6 (h.perm ((zz3 r).cons x)) (zv7 h.tail)
theorem zk1:∀ {l l':List D},Cmp l->l.Pairwise leD->l'.Pairwise leD->l.Perm l'->l=l'
 | [],l',_,_,_,p=>by rw [List.nil_perm] at p; exact p.symm
 | x::r,[],_,_,_,p=>by have:=p.length_eq; simp at this
 | x::r,y::t,h,hs,hs',p=>by
  rw [List.pairwise_cons] at hs hs'
  have hx:x∈y::t:=p.mem_iff.mp (by simp)
  have hy:y∈x::r:=p.mem_iff.mpr (by simp)
  have e:x=y:=by
   rcases z0.mp hx with e|hx'
   ·exact e
   ·rcases z0.mp hy with e|hy'
    ·exact e.symm
    ·exact h.antisymm (by simp) (by simp [hy']) (hs.1 y hy') (hs'.1 x hx')
  subst e
  rw [zk1 h.tail hs.2 hs'.2 ((List.perm_cons x).mp p)]
theorem zo2 {l l':List D} (h:Cmp l) (p:l'.Perm l) (hs:l'.Pairwise leD):l'=zx4 l :=
 zk1 (h.perm p) hs (zv7 h) (p.trans (zz3 l).symm)
theorem zn5 {l:List D} (h:sortable l=true):Cmp l:=by
 unfold sortable at h
 simp only [zj,xJ] at h
 exact ⟨h.1.1.2,fun a ha b hb=>h.2 a ha b hb⟩
noncomputable def zi2 (l:List D) (d:D):Nat:=(l.filter fun x=>ltD x d==some true).length
theorem yz1 {α:Type} {p q:α->Bool}:∀ {l:List α},(∀ x∈l,p x=true->q x=true)->(l.filter p).length<=(l.filter q).length
 | [],_=>zW _
 | x::r,h=>by
  have ih:=yz1 (l:=r) fun y hy=>h y (xX _ hy)
  by_cases hp:p x=true
  ·simp [yq,hp,h x (by simp) hp,ih]
  ·by_cases hq:q x=true<;>simp [yq,hp,hq]<;>bv_omega
theorem yg9 {α:Type} {p q:α->Bool} {a:α}:∀ {l:List α},(∀ x∈l,p x=true->q x=true)->a∈l->p a=false->q a=true->(l.filter p).length<(l.filter q).length
 | [],_,h,_,_=>by simp at h
 | x::r,h,ha,hp,hq=>by
  have hs:=yz1 (l:=r) fun y hy=>h y (xX _ hy)
  rcases z0.mp ha with rfl|ha
  ·simp [yq,hp,hq]; bv_omega
  ·have ih:=yg9 (l:=r) (fun y hy=>h y (xX _ hy)) ha hp hq
   by_cases hp':p x=true
   ·simp [yq,hp',h x (by simp) hp',ih]
   ·by_cases hq':q x=true<;>simp [yq,hp',hq']<;>bv_omega
theorem yc5 {l:List D} (h:Cmp l) {a b:D} (ha:a∈l) (hb:b∈l):ltD a b=some (decide (zi2 l a<zi2 l b)):=by
 obtain ⟨c,hc⟩:=y7.mp (h.some_ a ha b hb)
 cases c with
 | true =>
  have:zi2 l a<zi2 l b:=yg9 (a:=a) (fun x hx hp=>by
   simp only [beq_iff_eq] at hp |-
   exact lt_trans (h.plain x hx) (h.plain a ha) (h.plain b hb) hp hc) ha (by
    have:=lt_irrefl (h.plain a ha)
    simpa using this) (by simpa using hc)
  rw [hc,decide_eq_true this]
 | false =>
  have:¬ zi2 l a<zi2 l b:=Qk.mpr (yz1 fun x hx hp=>by
   simp only [beq_iff_eq] at hp |-
   rcases h.lt_or ha hb (by rw [hc]; simp) with q|rfl
   ·exact lt_trans (h.plain x hx) (h.plain b hb) (h.plain a ha) hp q
   ·exact hp)
  rw [hc,decide_eq_false this]
noncomputable abbrev Nu:=Str->Option Nat
noncomputable def zl2 (x:Str):Bool:=x != "__debug__" && x != "__classdict__"
noncomputable def zw4 (sc:xj) (ν:Nu) (x:Str):Bool:=sc.names.lookup x==some .globalImplicit&&(ν x).isNone&&zl2 x
noncomputable def zl7 (outer:xj) (ν:Nu) (xs:List Str) (csc:xj):Bool :=
 csc.kind==.function&&xs.all (fun x=>csc.names.lookup x==some .local&&zl2 x&&x != ".0") &&
 csc.names.all fun p=>p.2 != .cell&&p.2 != .globalExplicit&&csc.names.lookup p.1==some p.2 &&
  (p.2 != .free||(outer.names.lookup p.1==some .cell&&zl2 p.1&&(ν p.1).isSome))
noncomputable def zx7 (n:Nat) (ν:Nu) (xs:List Str) (csc:xj):Nu:=fun y =>
 match xs.idxOf? y with
 | some i=>some (n+i)
 | none=>if csc.names.lookup y==some .free then ν y else none
set_option genInjectivity false in
set_option genCtorIdx false in
inductive Tg where
 | ex (t:Bool) (e:Expr)|exs (es:List Expr)|opt (o:Option Expr)|ifs (l:List Expr)|st (s:Stmt)|sts (l:List Stmt)
structure Sl (ν:Nu) (k:Nat) (x:Str):Prop where
 at':ν x=some k
 ok:zl2 x=true
noncomputable def okE:Expr->Bool
 | .Set _ _ _=>false
 | .Starred _ _=>false
 | .Slice _ _ _ _=>false
 | .SetComp _ _ _ _=>false
 | .DictComp _ _ _ _ _=>false
 | _=>true
noncomputable def okT:Tg->Prop
 | .ex _ e=>okE e=true
 | .exs es=>∀ e∈es,okE e=true
 | _=>True
end Mini
end
section
namespace Snd
open PySem Mini
theorem wpM {α:Type} {M:Model} {A:xx} {E:qq->qv->Prop} {s:qv} {t:Sem α} {Q Q':α->qv->Prop} (h:zx M A t Q E s) (hQ:∀ a s,Q a s->Q' a s):zx M A t Q' E s:=k5 h hQ fun _ _ x=>x
noncomputable abbrev Fz:=Addr->Option Obj
noncomputable def Fz.In (F:Fz) (h:Heap):Prop:=∀ a o,F a=some o->h.get? a=some o
noncomputable def Fz.le (F G:Fz):Prop:=∀ a o,F a=some o->G a=some o
noncomputable def Fz.add (F:Fz) (a:Addr) (o:Obj):Fz:=fun b=>if b=a then some o else F b
theorem Fz.le_refl (F:Fz):F.le F:=fun _ _ e=>e
theorem Fz.le.trans {F G H:Fz} (x:F.le G) (y:G.le H):F.le H:=fun a o e=>y a o (x a o e)
theorem Fz.add_self (F:Fz) (a:Addr) (o:Obj):F.add a o a=some o:=by simp [Fz.add]
theorem Fz.add_other (F:Fz) {a b:Addr} (o:Obj) (h:b≠a):F.add a o b=F b:=by simp [Fz.add,h]
theorem Fz.le_add {F:Fz} {a:Addr} (o:Obj) (h:F a=none):F.le (F.add a o):=fun b p e=>by
 by_cases hb:b=a
 ·subst hb; rw [h] at e; cases e
 ·rw [Fz.add_other F o hb]; exact e
theorem Fz.in_add {F:Fz} {h:Heap} {a:Addr} {o:Obj} (x:F.In h) (e:h.get? a=some o):(F.add a o).In h:=fun b p q=>by
 by_cases hb:b=a
 ·subst hb; rw [Fz.add_self] at q; cases q; exact e
 ·rw [Fz.add_other F o hb] at q; exact x b p q
mutual
noncomputable def yg5 (w:wy):D->Int
 | .int i=>hashInt i
 | .str s=>if s.cps.isEmpty then 0 else reduceHash (w.params.strHash s.cps)
 | .tuple l=>reduceHash (jw (yt2 w l))
 | _=>0
noncomputable def yt2 (w:wy):List D->List Int
 | []=>[]
 | x::r=>yg5 w x::yt2 w r
end
noncomputable abbrev lobj (vs:Array qq) (n:Nat):Obj:={ cls:=.type "list", data:=.seq vs n }
noncomputable abbrev tobj (vs:Array qq) (n:Nat):Obj:={ cls:=.type "tuple", data:=.seq vs n }
noncomputable abbrev dobj (es:Array j9) (n:Nat):Obj:={ cls:=.type "dict", data:=.dict es n }
noncomputable def xy8 (kvs:List (D×D)):Prop:=kvs.length<=size/\(kvs.map (·.1)).Nodup
mutual
noncomputable def Rep (w:wy) (F:Fz):D->qq->Prop
 | .none,v=>v=.none
 | .bool b,v=>v=.bool b
 | .int i,v=>∃ t,v=.int i t
 | .str s,v=>∃ t,v=.str s t
 | .list xs,v=>xs.length<=size/\∃ a o vs n,v=.ref a/\F a=some o/\o.cls=.type "list" /\ o.data=.seq vs n/\RepL w F xs vs.toList
 | .tuple xs,v=>xs.length<=size/\∃ a vs n,v=.ref a/\F a=some (tobj vs n)/\RepL w F xs vs.toList
 | .dict kvs,v=>xy8 kvs/\∃ a es n,v=.ref a/\F a=some (dobj es n)/\RepKV w F kvs es.toList/\uJ<a
noncomputable def RepL (w:wy) (F:Fz):List D->List qq->Prop
 | [],vs=>vs=[]
 | d::ds,vs=>∃ v r,vs=v::r/\Rep w F d v/\RepL w F ds r
noncomputable def RepKV (w:wy) (F:Fz):List (D×D)->List j9->Prop
 | [],es=>es=[]
 | p::r,es=>∃ e t,es=e::t/\RepP w F p e/\RepKV w F r t
noncomputable def RepP (w:wy) (F:Fz):D×D->j9->Prop
 | (k,v),e=>e.hash=yg5 w k/\Rep w F k e.key/\Rep w F v e.val
end
theorem ys7 {w F k v e}:RepP w F (k,v) e=(e.hash=yg5 w k/\Rep w F k e.key/\Rep w F v e.val):=rfl
theorem zd9 {w F es}:RepKV w F [] es=(es=[]):=rfl
theorem zj7 {w F p r es}:RepKV w F (p::r) es=(∃ e t,es=e::t/\RepP w F p e/\RepKV w F r t):=rfl
theorem zp3 {w F vs}:RepL w F [] vs=(vs=[]):=rfl
theorem zu5 {w F d ds vs}:RepL w F (d::ds) vs=(∃ v r,vs=v::r/\Rep w F d v/\RepL w F ds r):=rfl
theorem yz2 {w F v}:Rep w F .none v=(v=.none):=rfl
theorem yz3 {w F b v}:Rep w F (.bool b) v=(v=.bool b):=rfl
theorem zn1 {w F i v}:Rep w F (.int i) v=(∃ t,v=.int i t):=rfl
theorem zf4 {w F s v}:Rep w F (.str s) v=(∃ t,v=.str s t):=rfl
theorem zf5 {w F xs v}:Rep w F (.list xs) v=(xs.length<=size/\∃ a o vs n,v=.ref a/\F a=some o/\o.cls=.type "list" /\ o.data=.seq vs n/\RepL w F xs vs.toList):=rfl
theorem zp0 {w F xs v}:Rep w F (.tuple xs) v=(xs.length<=size/\∃ a vs n,v=.ref a/\F a=some (tobj vs n)/\RepL w F xs vs.toList):=rfl
theorem zh6 {w F kvs v}:Rep w F (.dict kvs) v=(xy8 kvs/\∃ a es n,v=.ref a/\F a=some (dobj es n)/\RepKV w F kvs es.toList/\uJ<a):=rfl
theorem yc3 {w:wy} {F:Fz} {xs:List D} {a:Addr} {vs:Array qq} {n:Nat} (hz:xs.length<=size) (h:F a=some (tobj vs n)) (r:RepL w F xs vs.toList):Rep w F (.tuple xs) (.ref a) :=
 show _/\_ from ⟨hz,a,vs,n,rfl,h,r⟩
theorem wu4 {w:wy} {F:Fz} {i:Int} {t:Tok}:Rep w F (.int i) (.int i t):=show ∃ _,_ from ⟨t,rfl⟩
mutual
theorem Rep.mono {w:wy} {F G:Fz} (l:F.le G):∀ (d:D) {v:qq},Rep w F d v->Rep w G d v
 | .none,_,h=>by simpa [yz2,yz3,zn1,zf4,zf5,zp0,zh6] using h
 | .bool _,_,h=>by simpa [yz2,yz3,zn1,zf4,zf5,zp0,zh6] using h
 | .int _,_,h=>by simpa [yz2,yz3,zn1,zf4,zf5,zp0,zh6] using h
 | .str _,_,h=>by simpa [yz2,yz3,zn1,zf4,zf5,zp0,zh6] using h
 | .list xs,_,h=>by
  simp only [zf5] at h |-
  refine elAEEEEAAAA (h) fun hz a o vs n e h1 hc hd h4=>?_
  exact ⟨hz,a,o,vs,n,e,l _ _ h1,hc,hd,RepL.mono l xs h4⟩
 | .tuple xs,_,h=>by
  simp only [zp0] at h |-
  refine elAEEEAA (h) fun hz a vs n e h1 h4=>?_
  exact ⟨hz,a,vs,n,e,l _ _ h1,RepL.mono l xs h4⟩
 | .dict xs,_,h=>by
  simp only [zh6] at h |-
  refine elAEEEAA (h) fun hz a vs n e h1 h4=>?_
  exact ⟨hz,a,vs,n,e,l _ _ h1,RepKV.mono l xs h4.1,h4.2⟩
theorem RepL.mono {w:wy} {F G:Fz} (l:F.le G):∀ (ds:List D) {vs:List qq},RepL w F ds vs->RepL w G ds vs
 | [],_,h=>by simpa [zp3,zu5] using h
 | d::ds,_,h=>by
  simp only [zu5] at h |-
  refine elEEAA (h) fun v r e h1 h2=>?_
  exact ⟨v,r,e,Rep.mono l d h1,RepL.mono l ds h2⟩
theorem RepKV.mono {w:wy} {F G:Fz} (l:F.le G):∀ (ds:List (D×D)) {vs:List j9},RepKV w F ds vs->RepKV w G ds vs
 | [],_,h=>by simpa [zd9,zj7] using h
 | d::ds,_,h=>by
  simp only [zj7] at h |-
  refine elEEAA (h) fun v r e h1 h2=>?_
  exact ⟨v,r,e,RepP.mono l d h1,RepKV.mono l ds h2⟩
theorem RepP.mono {w:wy} {F G:Fz} (l:F.le G):∀ (d:D×D) {e:j9},RepP w F d e->RepP w G d e
 | (k,v),_,h=>by
  simp only [ys7] at h |-
  exact ⟨h.1,Rep.mono l k h.2.1,Rep.mono l v h.2.2⟩
end
theorem RepL.length {w:wy} {F:Fz}:∀ {ds:List D} {vs:List qq},RepL w F ds vs->vs.length=ds.length
 | [],_,h=>by simp only [zp3] at h; subst h; rfl
 | _::_,_,h=>by
  simp only [zu5] at h
  (refine elEEAA (h) fun v r e_2 _ h2=>?_; subst e_2)
  simp [RepL.length h2]
theorem RepKV.length {w:wy} {F:Fz}:∀ {ds:List (D×D)} {vs:List j9},RepKV w F ds vs->vs.length=ds.length
 | [],_,h=>by simp only [zd9] at h; subst h; rfl
 | _::_,_,h=>by
  simp only [zj7] at h
  (refine elEEAA (h) fun v r e_2 _ h2=>?_; subst e_2)
  simp [RepKV.length h2]
noncomputable def Shal (w:wy) (F:Fz) (h:Heap):D->Addr->Prop
 | .list xs,a=>xs.length<=size/\∃ vs n,h.get? a=some (lobj vs n)/\RepL w F xs vs.toList
 | .dict kvs,a=>xy8 kvs/\∃ es n,h.get? a=some (dobj es n)/\RepKV w F kvs es.toList/\uJ<a
 | _,_=>False
theorem Shal.mono {w:wy} {F G:Fz} {h h':Heap} (l:F.le G) {d:D} {a:Addr} (e:∀ o,h.get? a=some o->h'.get? a=some o) (x:Shal w F h d a):Shal w G h' d a:=by
 cases d with
 | list xs=>refine elAEEA (x) fun hz vs n h1 h4=>?_; exact ⟨hz,vs,n,e _ h1,RepL.mono l _ h4⟩
 | dict xs=>refine elAEEA (x) fun hz vs n h1 h4=>?_; exact ⟨hz,vs,n,e _ h1,RepKV.mono l _ h4.1,h4.2⟩
 | _=>exact x.elim
theorem Shal.there {w:wy} {F:Fz} {h:Heap} {d:D} {a:Addr} (x:Shal w F h d a):∃ o,h.get? a=some o:=by
 cases d with
 | list xs=>refine elAEEA (x) fun _ _ _ h1 _=>?_; exact ⟨_,h1⟩
 | dict xs=>refine elAEEA (x) fun _ _ _ h1 _=>?_; exact ⟨_,h1⟩
 | _=>exact x.elim
theorem Shal.freeze {w:wy} {F:Fz} {h:Heap} {d:D} {a:Addr} (x:Shal w F h d a) (hf:F a=none):∃ o,h.get? a=some o/\Rep w (F.add a o) d (.ref a):=by
 cases d with
 | list xs =>
  refine elAEEA (x) fun hz vs n h1 h4=>?_
  exact ⟨_,h1,by simp only [zf5]; exact ⟨hz,a,_,vs,n,rfl,Fz.add_self ..,rfl,rfl,RepL.mono (Fz.le_add _ hf) _ h4⟩⟩
 | dict xs =>
  refine elAEEA (x) fun hz vs n h1 h4=>?_
  exact ⟨_,h1,by simp only [zh6]; exact ⟨hz,a,vs,n,rfl,Fz.add_self ..,RepKV.mono (Fz.le_add _ hf) _ h4.1,h4.2⟩⟩
 | _=>exact x.elim
noncomputable def Top (w:wy) (F:Fz) (h:Heap) (d:D) (v:qq):Prop:=Rep w F d v\/∃ a,v=.ref a/\Shal w F h d a
inductive Place where
 | loc (L:Addr) (x:Str)|cell (c:Addr)
noncomputable def Place.addr:Place->Addr
 | .loc L _=>L
 | .cell c=>c
noncomputable def Place.has (h:Heap):Place->Option qq->Prop
 | .loc L x,ov=>∃ m,h.Ns L m/\m x=ov
 | .cell c,ov=>h.IsCell c ov
theorem Place.has_keep {h h':Heap} {p:Place} {ov:Option qq} (x:p.has h ov) (e:∀ o,h.get? p.addr=some o->h'.get? p.addr=some o):p.has h' ov:=by
 cases p with
 | loc L y=>obtain ⟨m,⟨o,es,ep,ho,r⟩,q⟩:=x; exact ⟨m,⟨o,es,ep,e _ ho,r⟩,q⟩
 | cell c=>refine elEA (x) fun o ho r=>?_; exact ⟨o,e _ ho,r⟩
theorem Place.has_there {h:Heap} {p:Place} {ov:Option qq} (x:p.has h ov):∃ o,h.get? p.addr=some o:=by
 cases p with
 | loc L y=>obtain ⟨m,⟨o,es,ep,ho,r⟩,q⟩:=x; exact ⟨o,ho⟩
 | cell c=>refine elEA (x) fun o ho r=>?_; exact ⟨o,ho⟩
noncomputable def SlotOk (w:wy) (F:Fz) (h:Heap) (ov:Option qq):Option AV->Prop
 | none=>True
 | some (.val d)=>∃ v,ov=some v/\Rep w F d v
 | some (.own d)=>∃ a,ov=some (.ref a)/\F a=none/\Shal w F h d a
noncomputable def zt2 (vs:List (Option qq)) (σ:Sg) (k:Nat) (a:Addr):Prop:=vs[k]?=some (some (.ref a))/\∃ d,σ[k]?=some (some (.own d))
structure Cx where
 prog:vw
 w:wy
 H:Heap
 F0:Fz
 mg:Str->Option qq
 mb:Str->Option qq
structure St (C:Cx) (X:Addr->Prop) (F:Fz) (h:Heap) (P:List Place) (vs:List (Option qq)) (σ:Sg):Prop where
 sub:F.In h
 low:C.F0.le F
 base:∀ a o,C.H.get? a=some o->h.get? a=some o
 cov:∀ a o,C.H.get? a=some o->X a\/F a≠none
 xf:∀ a,X a->F a=none
 xal:∀ a,X a->∃ o,h.get? a=some o
 lenP:P.length=vs.length
 lenS:σ.length=vs.length
 has:∀ (k:Nat) (p:Place) (ov:Option qq),P[k]?=some p->vs[k]?=some ov->p.has h ov
 slot:∀ (k:Nat) (ov:Option qq) (av:Option AV),vs[k]?=some ov->σ[k]?=some av->SlotOk C.w F h ov av
 nodup:P.Nodup
 cont:∀ p∈P,F p.addr=none/\¬ X p.addr
 own:∀ k a,zt2 vs σ k a->¬ X a/\∀ p∈P,a≠p.addr
 inj:∀ j k a,zt2 vs σ j a->zt2 vs σ k a->j=k
noncomputable def ResOk (w:wy) (X:Addr->Prop) (F:Fz) (h:Heap) (P:List Place) (vs:List (Option qq)) (σ:Sg) (v:qq) (d:D) (f:Bool):Prop :=
 if f then ∃ a,v=.ref a/\F a=none/\¬ X a/\(∀ p∈P,a≠p.addr)/\(∀ k,¬ zt2 vs σ k a)/\Shal w F h d a
 else Rep w F d v
noncomputable def XSame (X:Addr->Prop) (h h':Heap):Prop:=∀ a,X a->h'.get? a=h.get? a
theorem XSame.refl {X:Addr->Prop} {h:Heap}:XSame X h h:=fun _ _=>rfl
theorem XSame.trans {X:Addr->Prop} {h h' h'':Heap} (x:XSame X h h') (y:XSame X h' h''):XSame X h h'':=fun a e=>(y a e).trans (x a e)
theorem XSame.of_keep {X:Addr->Prop} {h h':Heap} (xal:∀ a,X a->∃ o,h.get? a=some o) (k:∀ a o,h.get? a=some o->h'.get? a=some o):XSame X h h' :=
 fun a e=>by obtain ⟨o,ho⟩:=xal a e; rw [ho,k a o ho]
section
variable {C:Cx} {w:wy} {X:Addr->Prop} {F F':Fz} {h h':Heap} {P:List Place} {vs:List (Option qq)} {σ:Sg}
theorem SlotOk.mono {ov:Option qq} {av:Option AV} (l:F.le F') (x:SlotOk w F h ov av) (e:∀ a d,ov=some (.ref a)->av=some (.own d)->F' a=none/\∀ o,h.get? a=some o->h'.get? a=some o):SlotOk w F' h' ov av:=by
 cases av with
 | none=>exact trivial
 | some av =>
  cases av with
  | val d=>refine elEA (x) fun v e1 r=>?_; exact ⟨v,e1,Rep.mono l d r⟩
  | own d=>refine elEAA (x) fun a e1 r q=>?_; exact ⟨a,e1,(e a d e1 rfl).1,q.mono l (e a d e1 rfl).2⟩
theorem St.grow (S:St C X F h P vs σ) (k:∀ a o,h.get? a=some o->h'.get? a=some o) (l:F.le F') (hin:F'.In h') (hnew:∀ a,F' a≠none->F a≠none\/h.get? a=none) :
  St C X F' h' P vs σ where
 sub:=hin
 low:=Fz.le.trans S.low l
 base:=fun a o e=>k a o (S.base a o e)
 cov:=fun a o e=>(S.cov a o e).imp id fun q=>by
  cases hq:F a with
  | none=>exact absurd hq q
  | some o'=>rw [l a o' hq]; exact fun x=>nomatch x
 xf:=fun a e=>by
  cases hq:F' a with
  | none=>rfl
  | some o' =>
   rcases hnew a (by rw [hq]; exact fun x=>nomatch x) with q|q
   ·exact absurd (S.xf a e) q
   ·obtain ⟨o,ho⟩:=S.xal a e; rw [q] at ho; cases ho
 xal:=fun a e=>let ⟨o,ho⟩:=S.xal a e; ⟨o,k a o ho⟩
 lenP:=S.lenP
 lenS:=S.lenS
 has:=fun i p ov e1 e2=>Place.has_keep (S.has i p ov e1 e2) fun o e=>k _ _ e
 slot:=fun i ov av e1 e2=>(S.slot i ov av e1 e2).mono l fun a d q1 q2=>by
  refine ⟨?_,fun o e=>k a o e⟩
  subst q1 q2
  refine elEAA (S.slot i _ _ e1 e2) fun a' e' r q=>?_
  cases e'
  cases hq:F' a with
  | none=>rfl
  | some o' =>
   rcases hnew a (by rw [hq]; exact fun x=>nomatch x) with q'|q'
   ·exact absurd r q'
   ·obtain ⟨o,ho⟩:=q.there
    rw [q'] at ho; exact nomatch ho
 nodup:=S.nodup
 cont:=fun p hp=>by
  refine ⟨?_,(S.cont p hp).2⟩
  cases hq:F' p.addr with
  | none=>rfl
  | some o' =>
   rcases hnew p.addr (by rw [hq]; exact fun x=>nomatch x) with q|q
   ·exact absurd (S.cont p hp).1 q
   ·obtain ⟨i,hi⟩:=uQ.mp hp
    have hlt:i<vs.length:=by
     rw [<- S.lenP]
     exact (z6.mp hi).1
    obtain ⟨o,ho⟩:=Place.has_there (S.has i p vs[i] hi (qJ hlt))
    rw [q] at ho; exact nomatch ho
 own:=S.own
 inj:=S.inj
theorem St.grow0 (S:St C X F h P vs σ) (k:∀ a o,h.get? a=some o->h'.get? a=some o):St C X F h' P vs σ :=
 S.grow k (Fz.le_refl F) (fun a o e=>k a o (S.sub a o e)) fun _ e=>.inl e
theorem St.freeze (S:St C X F h P vs σ) {a:Addr} {o:Obj} (ho:h.get? a=some o) (hf:F a=none) (hx:¬ X a) (hp:∀ p∈P,a≠p.addr) (hw:∀ k,¬ zt2 vs σ k a) :
  St C X (F.add a o) h P vs σ where
 sub:=Fz.in_add S.sub ho
 low:=Fz.le.trans S.low (Fz.le_add o hf)
 base:=S.base
 cov:=fun b o' e=>(S.cov b o' e).imp id fun q=>by
  by_cases hb:b=a
  ·subst hb; rw [Fz.add_self]; exact fun x=>nomatch x
  ·rw [Fz.add_other F o hb]; exact q
 xf:=fun b e=>by rw [Fz.add_other F o (by rintro rfl; exact hx e)]; exact S.xf b e
 xal:=S.xal
 lenP:=S.lenP
 lenS:=S.lenS
 has:=S.has
 slot:=fun i ov av e1 e2=>(S.slot i ov av e1 e2).mono (Fz.le_add o hf) fun b d q1 q2=>⟨by
  subst q1 q2
  refine elEAA (S.slot i _ _ e1 e2) fun a' e' r q=>?_
  cases e'
  rw [Fz.add_other F o (by rintro rfl; exact hw i ⟨e1,_,e2⟩)]; exact r,fun o e=>e⟩
 nodup:=S.nodup
 cont:=fun p hp'=>⟨by rw [Fz.add_other F o (Ne.symm (hp p hp'))]; exact (S.cont p hp').1,(S.cont p hp').2⟩
 own:=S.own
 inj:=S.inj
theorem St.freezeSlot (S:St C X F h P vs σ) {k:Nat} {a:Addr} {d:D} (hv:vs[k]?=some (some (.ref a))) (hs:σ[k]?=some (some (.own d))) :
  ∃ o,St C X (F.add a o) h P vs (σ.set k (some (.val d)))/\Rep C.w (F.add a o) d (.ref a)/\F.le (F.add a o):=by
 refine elEAA (S.slot k _ _ hv hs) fun a' e' hf q=>?_
 cases e'
 refine elEA (q.freeze hf) fun o ho hr=>?_
 have hO:zt2 vs σ k a:=⟨hv,d,hs⟩
 have hklt:k<σ.length:=(z6.mp hs).1
 refine ⟨o,?_,hr,Fz.le_add o hf⟩
 have hsub:∀ i b,zt2 vs (σ.set k (some (.val d))) i b->i≠k/\zt2 vs σ i b:=by
  rintro i b ⟨h1,d',h2⟩
  by_cases hi:i=k
  ·subst hi; rw [kX hklt] at h2; cases h2
  ·rw [kk (Ne.symm hi)] at h2; exact ⟨hi,h1,d',h2⟩
 exact {
  sub:=Fz.in_add S.sub ho
  low:=Fz.le.trans S.low (Fz.le_add o hf)
  base:=S.base
  cov:=fun b o' e=>(S.cov b o' e).imp id fun q=>by
   by_cases hb:b=a
   ·subst hb; rw [Fz.add_self]; exact fun x=>nomatch x
   ·rw [Fz.add_other F o hb]; exact q
  xf:=fun b e=>by rw [Fz.add_other F o (by rintro rfl; exact (S.own k _ hO).1 e)]; exact S.xf b e
  xal:=S.xal
  lenP:=S.lenP
  lenS:=by rw [List.length_set]; exact S.lenS
  has:=S.has
  slot:=fun i ov av e1 e2=>by
   by_cases hi:i=k
   ·subst hi
    rw [kX hklt] at e2
    rw [hv] at e1
    cases e1; cases e2
    exact ⟨_,rfl,hr⟩
   ·rw [kk (Ne.symm hi)] at e2
    refine (S.slot i ov av e1 e2).mono (Fz.le_add o hf) fun b d' q1 q2=>⟨?_,fun o e=>e⟩
    subst q1 q2
    refine elEAA (S.slot i _ _ e1 e2) fun a' e' r _=>?_
    cases e'
    rw [Fz.add_other F o (by rintro rfl; exact hi (S.inj i k _ ⟨e1,_,e2⟩ hO))]; exact r
  nodup:=S.nodup
  cont:=fun p hp'=>⟨by rw [Fz.add_other F o (Ne.symm ((S.own k a hO).2 p hp'))]; exact (S.cont p hp').1,(S.cont p hp').2⟩
  own:=fun i b hb=>S.own i b (hsub i b hb).2
  inj:=fun i j b hi hj=>S.inj i j b (hsub i b hi).2 (hsub j b hj).2 }
theorem St.upd (S:St C X F h P vs σ) {k:Nat} {a:Addr} {d d':D} (hv:vs[k]?=some (some (.ref a))) (hs:σ[k]?=some (some (.own d)))
  (hsame:∀ b,b≠a->h'.get? b=h.get? b) (hd:Shal C.w F h' d' a) (hH:C.H.get? a=none):St C X F h' P vs (σ.set k (some (.own d'))):=by
 refine elEAA (S.slot k _ _ hv hs) fun a' e' hf q=>?_
 cases e'
 have hO:zt2 vs σ k a:=⟨hv,d,hs⟩
 have hklt:k<σ.length:=(z6.mp hs).1
 have hsub:∀ i b,zt2 vs (σ.set k (some (.own d'))) i b->zt2 vs σ i b:=by
  rintro i b ⟨h1,d'',h2⟩
  by_cases hi:i=k
  ·subst hi; rw [hv] at h1; cases h1; exact hO
  ·rw [kk (Ne.symm hi)] at h2; exact ⟨h1,d'',h2⟩
 exact {
  sub:=fun b o e=>by rw [hsame b (fun q=>by subst q; rw [hf] at e; cases e)]; exact S.sub b o e
  low:=S.low
  base:=fun b o e=>by rw [hsame b (fun q=>by subst q; rw [hH] at e; cases e)]; exact S.base b o e
  cov:=S.cov
  xf:=S.xf
  xal:=fun b e=>by rw [hsame b (by rintro rfl; exact (S.own k _ hO).1 e)]; exact S.xal b e
  lenP:=S.lenP
  lenS:=by rw [List.length_set]; exact S.lenS
  has:=fun i p ov e1 e2=>Place.has_keep (S.has i p ov e1 e2) fun o e=>by
   rw [hsame _ (Ne.symm ((S.own k a hO).2 p (w9 e1)))]; exact e
  slot:=fun i ov av e1 e2=>by
   by_cases hi:i=k
   ·subst hi
    rw [kX hklt] at e2
    rw [hv] at e1
    cases e1; cases e2
    exact ⟨_,rfl,hf,hd⟩
   ·rw [kk (Ne.symm hi)] at e2
    refine (S.slot i ov av e1 e2).mono (Fz.le_refl F) fun b d'' q1 q2=>?_
    subst q1 q2
    refine elEAA (S.slot i _ _ e1 e2) fun a' e' r _=>?_
    cases e'
    exact ⟨r,fun o e=>by rw [hsame _ (by rintro rfl; exact hi (S.inj i k _ ⟨e1,_,e2⟩ hO))]; exact e⟩
  nodup:=S.nodup
  cont:=S.cont
  own:=fun i b hb=>S.own i b (hsub i b hb)
  inj:=fun i j b hi hj=>S.inj i j b (hsub i b hi) (hsub j b hj) }
theorem St.look (S:St C X F h P vs σ) {k:Nat} {d:D} (e:look σ k=some d):∃ v,vs[k]?=some (some v)/\Top C.w F h d v:=by
 unfold Mini.look at e
 cases hs:σ[k]? with
 | none=>rw [hs] at e; cases e
 | some o =>
 rw [hs] at e
 cases o with
 | none=>cases e
 | some a =>
 cases a with
 | val d' =>
  cases e
  have hlt:k<vs.length:=by rw [<- S.lenS]; exact (z6.mp hs).1
  refine elEA (S.slot k vs[k] _ (qJ hlt) hs) fun v e1 r=>?_
  exact ⟨v,by rw [qJ hlt,e1],.inl r⟩
 | own d' =>
  cases e
  have hlt:k<vs.length:=by rw [<- S.lenS]; exact (z6.mp hs).1
  refine elEAA (S.slot k vs[k] _ (qJ hlt) hs) fun a e1 _ r=>?_
  exact ⟨.ref a,by rw [qJ hlt,e1],.inr ⟨a,rfl,r⟩⟩
theorem ResOk.freeze (S:St C X F h P vs σ) {v:qq} {d:D} {f:Bool} (r:ResOk C.w X F h P vs σ v d f):∃ F',F.le F'/\St C X F' h P vs σ/\Rep C.w F' d v:=by
 cases f with
 | false=>exact ⟨F,Fz.le_refl F,S,r⟩
 | true =>
  (refine elEAAAAA (r) fun a e_1 hf hx hp hw q=>?_; subst e_1)
  refine elEA (q.freeze hf) fun o ho hr=>?_
  exact ⟨F.add a o,Fz.le_add o hf,S.freeze ho hf hx hp hw,hr⟩
end
section
variable {C:Cx} {X Y:Addr->Prop} {F F':Fz} {h h':Heap} {P:List Place} {vs:List (Option qq)} {σ:Sg}
theorem St.noH_place (S:St C X F h P vs σ) {p:Place} (hp:p∈P):C.H.get? p.addr=none:=by
 cases e:C.H.get? p.addr with
 | none=>rfl
 | some o=>exact (S.cov _ _ e).elim (fun q=>absurd q (S.cont p hp).2) fun q=>absurd (S.cont p hp).1 q
theorem St.own_free (S:St C X F h P vs σ) {k:Nat} {a:Addr} (ho:zt2 vs σ k a):F a=none/\C.H.get? a=none:=by
 refine elAE (ho) fun h1 d h2=>?_
 refine elEAA (S.slot k _ _ h1 h2) fun a' e' hf _=>?_
 cases e'
 refine ⟨hf,?_⟩
 cases e:C.H.get? a with
 | none=>rfl
 | some o=>exact (S.cov _ _ e).elim (fun q=>absurd q (S.own k a ⟨h1,d,h2⟩).1) fun q=>absurd hf q
theorem St.placeAt (S:St C X F h P vs σ) {k:Nat} {p:Place} (hp:P[k]?=some p):∃ ov,vs[k]?=some ov/\p.has h ov:=by
 have hlt:k<vs.length:=by rw [<- S.lenP]; exact (z6.mp hp).1
 exact ⟨vs[k],qJ hlt,S.has k p _ hp (qJ hlt)⟩
theorem yz9 {σ:Sg} {k:Nat} {d:D} {f:Bool} (h:k<σ.length):(put σ k d f)[k]?=some (some (if f then .own d else .val d)):=by
 unfold Mini.put; rw [kX h]
theorem yq5 {σ:Sg} {k i:Nat} {d:D} {f:Bool} (h:i≠k):(put σ k d f)[i]?=σ[i]?:=by
 unfold Mini.put; rw [kk (Ne.symm h)]
theorem St.store (S:St C X F h P vs σ) {k:Nat} {p:Place} {v:qq} {d:D} {f:Bool} (hp:P[k]?=some p) (r:ResOk C.w X F h P vs σ v d f)
  (hsame:∀ b,b≠p.addr->h'.get? b=h.get? b) (hk:p.has h' (some v)) (ho:∀ i q ov,i≠k->P[i]?=some q->q.addr=p.addr->q.has h ov->q.has h' ov) :
  St C X F h' P (vs.set k (some v)) (put σ k d f):=by
 have hpm:p∈P:=w9 hp
 have hklt:k<vs.length:=by rw [<- S.lenP]; exact (z6.mp hp).1
 have hklt':k<σ.length:=by rw [S.lenS]; exact hklt
 have hne:∀ a,F a≠none->a≠p.addr:=fun a e q=>e (q▸(S.cont p hpm).1)
 have hshal:∀ a dd,(∀ q∈P,a≠q.addr)->Shal C.w F h dd a->Shal C.w F h' dd a:=fun a dd hq x=>x.mono (Fz.le_refl F) fun o e=>by rw [hsame a (hq p hpm)]; exact e
 have hsub:∀ i a,zt2 (vs.set k (some v)) (put σ k d f) i a->(i≠k/\zt2 vs σ i a)\/(i=k/\v=.ref a/\f=true):=by
  rintro i a ⟨h1,d',h2⟩
  by_cases hi:i=k
  ·subst hi
   rw [yz9 hklt'] at h2
   rw [kX hklt] at h1
   cases f with
   | false=>cases h2
   | true=>cases h1; exact .inr ⟨rfl,rfl,rfl⟩
  ·rw [yq5 hi] at h2
   rw [kk (Ne.symm hi)] at h1
   exact .inl ⟨hi,h1,d',h2⟩
 have hnew:∀ a,v=.ref a->f=true->F a=none/\¬ X a/\(∀ q∈P,a≠q.addr)/\(∀ i,¬ zt2 vs σ i a)/\Shal C.w F h d a:=by
  rintro a rfl rfl
  (refine elEA (r) fun a' e' r_n=>?_; clear r; revert r_n; intro r)
  cases e'; exact r
 exact {
  sub:=fun a o e=>by rw [hsame a (hne a (by rw [e]; exact fun x=>nomatch x))]; exact S.sub a o e
  low:=S.low
  base:=fun a o e=>by rw [hsame a (by rintro rfl; rw [S.noH_place hpm] at e; cases e)]; exact S.base a o e
  cov:=S.cov
  xf:=S.xf
  xal:=fun a e=>by rw [hsame a (by rintro rfl; exact (S.cont p hpm).2 e)]; exact S.xal a e
  lenP:=by rw [List.length_set]; exact S.lenP
  lenS:=by unfold Mini.put; rw [List.length_set,List.length_set]; exact S.lenS
  has:=fun i q ov e1 e2=>by
   by_cases hi:i=k
   ·subst hi
    rw [hp] at e1
    rw [kX hklt] at e2
    cases e1; cases e2; exact hk
   ·rw [kk (Ne.symm hi)] at e2
    by_cases hq:q.addr=p.addr
    ·exact ho i q ov hi e1 hq (S.has i q ov e1 e2)
    ·exact Place.has_keep (S.has i q ov e1 e2) fun o e=>by rw [hsame _ hq]; exact e
  slot:=fun i ov av e1 e2=>by
   by_cases hi:i=k
   ·subst hi
    rw [yz9 hklt'] at e2
    rw [kX hklt] at e1
    cases e1; cases e2
    cases f with
    | false=>exact ⟨v,rfl,r⟩
    | true =>
     (refine elEAAAAA (r) fun a e_1 r1 _ r3 _ r5=>?_; subst e_1)
     exact ⟨a,rfl,r1,hshal a d r3 r5⟩
   ·rw [yq5 hi] at e2
    rw [kk (Ne.symm hi)] at e1
    refine (S.slot i ov av e1 e2).mono (Fz.le_refl F) fun a d' q1 q2=>?_
    subst q1 q2
    have hO:zt2 vs σ i a:=⟨e1,_,e2⟩
    exact ⟨(S.own_free hO).1,fun o e=>by rw [hsame _ ((S.own i a hO).2 p hpm)]; exact e⟩
  nodup:=S.nodup
  cont:=S.cont
  own:=fun i a hO=>by
   rcases hsub i a hO with ⟨_,q⟩|⟨_,q1,q2⟩
   ·exact S.own i a q
   ·exact ⟨(hnew a q1 q2).2.1,(hnew a q1 q2).2.2.1⟩
  inj:=fun i j a hi hj=>by
   rcases hsub i a hi with ⟨q0,q⟩|⟨q0,q1,q2⟩<;>rcases hsub j a hj with ⟨p0,p'⟩|⟨p0,p1,p2⟩
   ·exact S.inj i j a q p'
   ·exact absurd q ((hnew a p1 p2).2.2.2.1 i)
   ·exact absurd p' ((hnew a q1 q2).2.2.2.1 j)
   ·rw [q0,p0] }
theorem St.addX (S:St C X F h P vs σ) (hy:∀ a,Y a->X a\/(F a=none/\(∃ o,h.get? a=some o)/\(∀ p∈P,a≠p.addr)/\∀ k,¬ zt2 vs σ k a)) (hxy:∀ a,X a->Y a):St C Y F h P vs σ where
 sub:=S.sub
 low:=S.low
 base:=S.base
 cov:=fun a o e=>(S.cov a o e).imp (hxy a) id
 xf:=fun a e=>(hy a e).elim (S.xf a) fun q=>q.1
 xal:=fun a e=>(hy a e).elim (S.xal a) fun q=>q.2.1
 lenP:=S.lenP
 lenS:=S.lenS
 has:=S.has
 slot:=S.slot
 nodup:=S.nodup
 cont:=fun p hp=>⟨(S.cont p hp).1,fun e=>(hy _ e).elim (S.cont p hp).2 fun q=>q.2.2.1 p hp rfl⟩
 own:=fun k a ho=>⟨fun e=>(hy _ e).elim (S.own k a ho).1 fun q=>q.2.2.2 k ho,(S.own k a ho).2⟩
 inj:=S.inj
theorem St.dropX (S:St C Y F h P vs σ) (hxy:∀ a,X a->Y a) (hc:∀ a o,C.H.get? a=some o->X a\/F a≠none):St C X F h P vs σ where
 sub:=S.sub
 low:=S.low
 base:=S.base
 cov:=hc
 xf:=fun a e=>S.xf a (hxy a e)
 xal:=fun a e=>S.xal a (hxy a e)
 lenP:=S.lenP
 lenS:=S.lenS
 has:=S.has
 slot:=S.slot
 nodup:=S.nodup
 cont:=fun p hp=>⟨(S.cont p hp).1,fun e=>(S.cont p hp).2 (hxy _ e)⟩
 own:=fun k a ho=>⟨fun e=>(S.own k a ho).1 (hxy _ e),(S.own k a ho).2⟩
 inj:=S.inj
theorem zb7 {G:Fz} (l:F.le G) (hc:∀ a o,C.H.get? a=some o->X a\/F a≠none):∀ a o,C.H.get? a=some o->X a\/G a≠none :=
 fun a o e=>(hc a o e).imp id fun q=>by
  cases hq:F a with
  | none=>exact absurd hq q
  | some o'=>rw [l a o' hq]; exact fun x=>nomatch x
theorem zr8 {ws:List (Option qq)} {τ:Sg} (hl:σ.length=vs.length) (ht:∀ av∈τ,∀ d,av≠some (.own d)) {k:Nat} {a:Addr} (ho:zt2 (vs++ws) (σ++τ) k a):zt2 vs σ k a:=by
 refine elAE (ho) fun h1 d h2=>?_
 by_cases hk:k<vs.length
 ·rw [xV hk] at h1
  rw [xV (by rw [hl]; exact hk)] at h2
  exact ⟨h1,d,h2⟩
 ·rw [wW (by rw [hl]; exact zk hk)] at h2
  exact absurd rfl (ht _ (w9 h2) d)
theorem St.extend (S:St C X F h P vs σ) {Q:List Place} {ws:List (Option qq)} {τ:Sg} (hl:Q.length=ws.length) (hl':τ.length=ws.length)
  (hh:∀ (i:Nat) (q:Place) (ov:Option qq),Q[i]?=some q->ws[i]?=some ov->q.has h ov) (hs:∀ (i:Nat) (ov:Option qq) (av:Option AV),ws[i]?=some ov->τ[i]?=some av->SlotOk C.w F h ov av)
  (ht:∀ av∈τ,∀ d,av≠some (.own d)) (hn:(P++Q).Nodup) (hc:∀ q∈Q,F q.addr=none/\¬ X q.addr) (ho:∀ k a,zt2 vs σ k a->∀ q∈Q,a≠q.addr) :
  St C X F h (P++Q) (vs++ws) (σ++τ) where
 sub:=S.sub
 low:=S.low
 base:=S.base
 cov:=S.cov
 xf:=S.xf
 xal:=S.xal
 lenP:=by simp [S.lenP,hl]
 lenS:=by simp [S.lenS,hl']
 has:=fun i p ov e1 e2=>by
  by_cases hi:i<vs.length
  ·rw [xV (by rw [S.lenP]; exact hi)] at e1
   rw [xV hi] at e2
   exact S.has i p ov e1 e2
  ·rw [wW (by rw [S.lenP]; exact zk hi),S.lenP] at e1
   rw [wW (zk hi)] at e2
   exact hh _ p ov e1 e2
 slot:=fun i ov av e1 e2=>by
  by_cases hi:i<vs.length
  ·rw [xV hi] at e1
   rw [xV (by rw [S.lenS]; exact hi)] at e2
   exact S.slot i ov av e1 e2
  ·rw [wW (zk hi)] at e1
   rw [wW (by rw [S.lenS]; exact zk hi),S.lenS] at e2
   exact hs _ ov av e1 e2
 nodup:=hn
 cont:=fun p hp=>(qW.mp hp).elim (S.cont p) (hc p)
 own:=fun k a hO=>by
  have q:=zr8 S.lenS ht hO
  exact ⟨(S.own k a q).1,fun p hp=>(qW.mp hp).elim ((S.own k a q).2 p) (ho k a q p)⟩
 inj:=fun i j a hi hj=>S.inj i j a (zr8 S.lenS ht hi) (zr8 S.lenS ht hj)
theorem zg3 {ws:List (Option qq)} {n:Nat} (hn:n=vs.length) {k:Nat} {a:Addr} (ho:zt2 vs (σ.take n) k a):zt2 (vs++ws) σ k a:=by
 refine elAE (ho) fun h1 d h2=>?_
 have hk:k<n:=by
  by_cases hk:k<n
  ·exact hk
  ·rw [List.getElem?_eq_none (by simp; exact qw (k8 ..) (zk hk))] at h2; cases h2
 rw [List.getElem?_take_of_lt hk] at h2
 exact ⟨by rw [xV (hn▸hk)]; exact h1,d,h2⟩
theorem St.shrink {Q:List Place} {ws:List (Option qq)} (S:St C X F h (P++Q) (vs++ws) σ) (hl:P.length=vs.length) {n:Nat} (hn:n=vs.length):St C X F h P vs (σ.take n) where
 sub:=S.sub
 low:=S.low
 base:=S.base
 cov:=S.cov
 xf:=S.xf
 xal:=S.xal
 lenP:=hl
 lenS:=by rw [List.length_take,S.lenS]; simp; rw [hn]; exact vX (qQ ..)
 has:=fun i p ov e1 e2=>S.has i p ov (by rw [xV (z6.mp e1).1]; exact e1) (by rw [xV (z6.mp e2).1]; exact e2)
 slot:=fun i ov av e1 e2=>by
  have hi:=(z6.mp e1).1
  rw [List.getElem?_take_of_lt (hn▸hi)] at e2
  exact S.slot i ov av (by rw [xV hi]; exact e1) e2
 nodup:=(Q2.mp S.nodup).1
 cont:=fun p hp=>S.cont p (jj _ hp)
 own:=fun k a ho=>by
  have q:=zg3 (ws:=ws) hn ho
  exact ⟨(S.own k a q).1,fun p hp=>(S.own k a q).2 p (jj _ hp)⟩
 inj:=fun i j a hi hj=>S.inj i j a (zg3 hn hi) (zg3 hn hj)
noncomputable def Hold (F:Fz) (h:Heap):Addr->Prop:=fun a=>F a=none/\∃ o,h.get? a=some o
theorem St.bare (S:St C X F h P vs σ):St C (Hold F h) F h [] [] [] where
 sub:=S.sub
 low:=S.low
 base:=S.base
 cov:=fun a o e=>by
  cases hq:F a with
  | none=>exact .inl ⟨hq,o,S.base a o e⟩
  | some o'=>exact .inr (fun x=>nomatch x)
 xf:=fun a e=>e.1
 xal:=fun a e=>e.2
 lenP:=rfl
 lenS:=rfl
 has:=fun i p ov e1 _=>by simp at e1
 slot:=fun i p ov e1 _=>by simp at e1
 nodup:=Qz
 cont:=fun p hp=>nomatch hp
 own:=fun k a ho=>by simp [zt2] at ho
 inj:=fun i j a ho _=>by simp [zt2] at ho
theorem St.back (S:St C X F h P vs σ) (S':St C (Hold F h) F' h' [] [] []) (l:F.le F') (x:XSame (Hold F h) h h'):St C X F' h' P vs σ:=by
 refine S.grow (fun a o e=>?_) l S'.sub fun a e=>?_
 ·cases hq:F a with
  | none=>rw [x a ⟨hq,o,e⟩]; exact e
  | some o' =>
   have:=S.sub a o' hq
   rw [this] at e; cases e
   exact S'.sub a _ (l a _ hq)
 ·cases hq:F a with
  | some o'=>exact .inl (fun y=>nomatch y)
  | none =>
   right
   cases hh:h.get? a with
   | none=>rfl
   | some o=>exact absurd (S'.xf a ⟨hq,o,hh⟩) e
theorem XSame.back (S:St C X F h P vs σ) (x:XSame (Hold F h) h h'):XSame X h h':=fun a e=>x a ⟨S.xf a e,S.xal a e⟩
theorem ResOk.back (S:St C X F h P vs σ) {v:qq} {d:D} {f:Bool} (r:ResOk C.w (Hold F h) F' h' [] [] [] v d f):ResOk C.w X F' h' P vs σ v d f:=by
 cases f with
 | false=>exact r
 | true =>
  (refine elEAAAAA (r) fun a e_1 h1 h2 _ _ h5=>?_; subst e_1)
  have hno:F a=none->h.get? a=none:=fun q=>by
   cases hh:h.get? a with
   | none=>rfl
   | some o=>exact absurd ⟨q,o,hh⟩ h2
  refine ⟨a,rfl,h1,fun e=>h2 ⟨S.xf a e,S.xal a e⟩,fun p hp q=>?_,fun k ho=>?_,h5⟩
  ·subst q
   obtain ⟨i,hi⟩:=uQ.mp hp
   refine elEA (S.placeAt hi) fun ov _ hh=>?_
   obtain ⟨o,ho⟩:=Place.has_there hh
   exact h2 ⟨(S.cont p hp).1,o,ho⟩
  ·refine elAE (ho) fun q1 d' q2=>?_
   refine elEAA (S.slot k _ _ q1 q2) fun a' e' hf q=>?_
   cases e'
   obtain ⟨o,ho⟩:=q.there
   exact h2 ⟨hf,o,ho⟩
end
structure EnvOk (env:w0) (sc:xj) (ν:Nu) (P:List Place):Prop where
 kind:env.scope.kind=.function
 glob:env.globals=mainGlobals
 blt:env.builtins=builtinsNs
 slot:∀ (x:Str) (k:Nat),ν x=some k->(env.kindOf x=some .local/\P[k]?=some (.loc env.locals x)) \/
  ((env.kindOf x=some .cell\/env.kindOf x=some .free)/\∃ c,env.cells.lookup x=some c/\P[k]?=some (.cell c))
 gl:∀ x,sc.names.lookup x=some .globalImplicit->env.kindOf x=some .globalImplicit
 cell:∀ x,sc.names.lookup x=some .cell->env.kindOf x=some .cell/\∃ c,env.cells.lookup x=some c
theorem xl4 {h:Heap} {a:Addr} {m m':Str->Option qq} (x:h.Ns a m) (y:h.Ns a m'):m=m':=by
 refine elEEEAAA (x) fun o es ep h1 h2 _ h4=>?_
 refine elEEEAAA (y) fun o' es' ep' k1 k2 _ k4=>?_
 rw [h1] at k1; cases k1
 rw [h2] at k2; cases k2
 funext n; rw [<- h4,<- k4]
section
variable {C:Cx} {M:Model} {A:xx} {E:qq->qv->Prop} {s:qv} {env:w0} {sc:xj} {ν:Nu} {X:Addr->Prop} {F:Fz} {P:List Place} {vs:List (Option qq)} {σ:Sg}
theorem zi5 {x:Str} (h:zl2 x=true):(x==("__debug__" : Str))=false:=by
 unfold zl2 at h; simp only [zj,bne_iff_ne,ne_eq] at h; simpa using h.1
theorem yy8 {x:Str} (h:zl2 x=true):(x==("__classdict__" : Str))=false:=by
 unfold zl2 at h; simp only [zj,bne_iff_ne,ne_eq] at h; simpa using h.2
theorem xk7 (O:EnvOk env sc ν P) (S:St C X F s.heap P vs σ) {x:Str} {k:Nat} {v:qq} (hx:ν x=some k) (hv:vs[k]?=some (some v)) (hn:zl2 x=true) {Q:qq->qv->Prop} (h:Q v s) :
  zx M A (loadName env x) Q E s:=by
 rcases O.slot x k hx with ⟨h1,h2⟩|⟨h1,c,h2,h3⟩
 ·refine elEA (S.has k _ _ h2 hv) fun m hns hm=>?_
  exact wpAny_loadName_local O.kind h1 hns hm h
 ·have hc:s.heap.IsCell c (some v):=S.has k _ _ h3 hv
  rcases h1 with h1|h1
  ·exact wpAny_loadName_cell O.kind h1 h2 hc h
  ·exact wpAny_loadName_free O.kind h1 h2 hc h (yy8 hn)
theorem zl3 (O:EnvOk env sc ν P) (S:St C X F s.heap P vs σ) {x:Str} {k:Nat} {v:qq} {pos:Pos} (hx:ν x=some k) (hv:vs[k]?=some (some v)) (hn:zl2 x=true) {Q:qq->qv->Prop} (h:Q v s) :
  zx M A (eval (.Name x pos) env) Q E s:=wpAny_Name (xk7 O S hx hv hn h) (zi5 hn)
theorem zp7 (O:EnvOk env sc ν P) (S:St C X F s.heap P vs σ) {x:Str} {k:Nat} {v:qq} {d:D} {f:Bool} (hx:ν x=some k) (r:ResOk C.w X F s.heap P vs σ v d f)
  (hfree:env.kindOf x≠some .free) {Q:Unit->qv->Prop}
  (h:∀ h' tk,St C X F h' P (vs.set k (some v)) (put σ k d f)->XSame X s.heap h'->Q () { s with heap:=h',toks:=tk }):zx M A (storeName env x v) Q E s:=by
 rcases O.slot x k hx with ⟨h1,h2⟩|⟨h1,c,h2,h3⟩
 ·refine elEAEA (S.placeAt h2) fun ov hov m hns hm=>?_
  refine wpAny_storeName_local h1 hns (fun h' hns' hsb=>?_) (by rw [O.kind]; rfl)
  refine h h' _ (S.store h2 r (fun b hb=>hsb.2 b hb) ⟨_,hns',by simp⟩ fun i q ov hi hq ha hh=>?_) fun a ha=>hsb.2 a ?_
  ·cases q with
   | cell c =>
    refine elEA (hh) fun o ho hd=>?_
    refine elEEEAA (hns) fun o' es ep ho' hd' _=>?_
    have ha:c=env.locals:=ha
    subst ha
    rw [ho'] at ho; cases ho; rw [hd'] at hd; cases hd
   | loc L y =>
    have ha:L=env.locals:=ha
    subst ha
    refine elEA (hh) fun m' hns2 hm2=>?_
    have:=xl4 hns hns2
    subst this
    refine ⟨_,hns',?_⟩
    have hy:y≠x:=by
     rintro rfl
     have hlt:=(z6.mp hq).1
     exact hi ((List.getElem?_inj hlt S.nodup).mp (hq.trans h2.symm))
    simp only [if_neg hy]; exact hm2
  ·rintro rfl
   exact (S.cont _ (w9 h2)).2 ha
 ·have h1:env.kindOf x=some .cell:=h1.resolve_right hfree
  refine elEA (S.placeAt h3) fun ov hov hc=>?_
  refine wpAny_storeName_cell O.kind h1 h2 hc fun h' hc' hsb=>?_
  refine h h' s.toks (S.store h3 r (fun b hb=>hsb.2 b hb) hc' fun i q ov hi hq ha hh=>?_) fun a ha=>hsb.2 a ?_
  ·cases q with
   | cell c' =>
    have ha:c'=c:=ha
    subst ha
    have hlt:=(z6.mp hq).1
    exact absurd ((List.getElem?_inj hlt S.nodup).mp (hq.trans h3.symm)) hi
   | loc L y =>
    have ha:L=c:=ha
    subst ha
    obtain ⟨m',⟨o,es,ep,ho,hd,_⟩,_⟩:=hh
    refine elEA (hc) fun o' ho' hd'=>?_
    rw [ho] at ho'; cases ho'; rw [hd] at hd'; cases hd'
  ·rintro rfl
   exact (S.cont _ (w9 h3)).2 ha
end
section
variable {w:wy} {F:Fz} {h:Heap}
theorem xs3 {d:D} {v:qq} (r:Rep w F d v):Top w F h d v:=.inl r
@[elab_as_elim] theorem Top.noneK {v:qq} (x:Top w F h .none v) {P:qq->Prop} (k:P .none):P v :=
 x.elim (fun r=>Eq.symm r▸k) fun ⟨_,_,q⟩=>q.elim
@[elab_as_elim] theorem Top.boolK {v:qq} {b:Bool} (x:Top w F h (.bool b) v) {P:qq->Prop} (k:P (.bool b)):P v :=
 x.elim (fun r=>Eq.symm r▸k) fun ⟨_,_,q⟩=>q.elim
@[elab_as_elim] theorem Top.intK {v:qq} {i:Int} (x:Top w F h (.int i) v) {P:qq->Prop} (k:∀ t,P (.int i t)):P v :=
 x.elim (fun r=>Exists.elim r fun t e=>e▸k t) fun ⟨_,_,q⟩=>q.elim
@[elab_as_elim] theorem Top.strK {v:qq} {i:Str} (x:Top w F h (.str i) v) {P:qq->Prop} (k:∀ t,P (.str i t)):P v :=
 x.elim (fun r=>Exists.elim r fun t e=>e▸k t) fun ⟨_,_,q⟩=>q.elim
@[elab_as_elim] theorem Top.listK {v:qq} {xs:List D} (x:Top w F h (.list xs) v) (hin:F.In h) {P:qq->Prop} (k:xs.length<=size->∀ a o vs n,h.get? a=some o->o.cls=.type "list" -> o.data=.seq vs n->RepL w F xs vs.toList->P (.ref a)):P v :=
 x.elim (fun r=>elAEEEEAAAA r fun hz a o vs n e h1 hc hd h2=>Eq.symm e▸k hz a o vs n (hin _ _ h1) hc hd h2)
  fun r=>elEA r fun a e q=>elAEEA q fun hz vs n h1 h2=>Eq.symm e▸k hz a _ vs n h1 rfl rfl h2
@[elab_as_elim] theorem Top.lisK {v:qq} {xs:List D} (x:Top w F h (.list xs) v) (hin:F.In h) {P:qq->Prop} (k:xs.length<=size->∀ a dd sl vs n,h.get? a=some ⟨.type "list", dd,.seq vs n,sl⟩->RepL w F xs vs.toList->P (.ref a)):P v :=
 x.listK hin fun hz a o vs n h1 hc hd h2=>k hz a o.dict o.slots vs n (by rw [h1,<- hc,<- hd]) h2
@[elab_as_elim] theorem Top.tupK {v:qq} {xs:List D} (x:Top w F h (.tuple xs) v) (hin:F.In h) {P:qq->Prop} (k:xs.length<=size->∀ a vs n,F a=some (tobj vs n)->h.get? a=some (tobj vs n)->RepL w F xs vs.toList->P (.ref a)):P v :=
 x.elim (fun r=>elAEEEAA r fun hz a vs n e h1 h2=>Eq.symm e▸k hz a vs n h1 (hin _ _ h1) h2) fun ⟨_,_,q⟩=>q.elim
@[elab_as_elim] theorem Top.dicK {v:qq} {xs:List (D×D)} (x:Top w F h (.dict xs) v) (hin:F.In h) {P:qq->Prop} (k:xy8 xs->∀ a es n,h.get? a=some (dobj es n)->RepKV w F xs es.toList->uJ<a->P (.ref a)):P v :=
 x.elim (fun r=>elAEEEAAA r fun hz a vs n e h1 h2 h3=>Eq.symm e▸k hz a vs n (hin _ _ h1) h2 h3)
  fun r=>elEA r fun a e q=>elAEEAA q fun hz vs n h1 h2 h3=>Eq.symm e▸k hz a vs n h1 h2 h3
mutual
theorem Rep.reads (hin:F.In h):∀ (d:D) {v:qq},Rep w F d v->∃ as,Reads h v d as
 | .none,_,r=>by simp only [yz2] at r; subst r; exact ⟨_,.none⟩
 | .bool _,_,r=>by simp only [yz3] at r; subst r; exact ⟨_,.bool _⟩
 | .int _,_,r=>by simp only [zn1] at r; obtain ⟨t,rfl⟩:=r; exact ⟨_,.int _ _⟩
 | .str _,_,r=>by simp only [zf4] at r; obtain ⟨t,rfl⟩:=r; exact ⟨_,.str _ _⟩
 | .list xs,_,r=>by
  simp only [zf5] at r
  (refine elAEEEEAAAA (r) fun _ a o vs n e_5 h1 hc hd h2=>?_; subst e_5)
  obtain ⟨as,q⟩:=RepL.reads hin xs h2
  exact ⟨_,.list (hin _ _ h1) hc hd q⟩
 | .tuple xs,_,r=>by
  simp only [zp0] at r
  (refine elAEEEAA (r) fun _ a vs n e_4 h1 h2=>?_; subst e_4)
  obtain ⟨as,q⟩:=RepL.reads hin xs h2
  exact ⟨_,.tuple (hin _ _ h1) rfl rfl q⟩
 | .dict kvs,_,r=>by
  simp only [zh6] at r
  (refine elAEEEAAA (r) fun _ a es n e_4 h1 h2 _=>?_; subst e_4)
  obtain ⟨⟨as,q⟩,bs,q'⟩:=RepKV.reads hin kvs h2
  exact ⟨_,.dict (hin _ _ h1) rfl rfl q q'⟩
theorem RepL.reads (hin:F.In h):∀ (ds:List D) {vs:List qq},RepL w F ds vs->∃ as,ReadsAll h vs ds as
 | [],_,r=>by simp only [zp3] at r; subst r; exact ⟨_,.nil⟩
 | d::ds,_,r=>by
  simp only [zu5] at r
  (refine elEEAA (r) fun v t e_2 h1 h2=>?_; subst e_2)
  obtain ⟨as,q⟩:=Rep.reads hin d h1
  obtain ⟨bs,q'⟩:=RepL.reads hin ds h2
  exact ⟨_,.cons q q'⟩
theorem RepKV.reads (hin:F.In h):∀ (ds:List (D×D)) {es:List j9},RepKV w F ds es->(∃ as,ReadsAll h (es.map (·.key)) (ds.map (·.1)) as)/\∃ bs,ReadsAll h (es.map (·.val)) (ds.map (·.2)) bs
 | [],_,r=>by simp only [zd9] at r; subst r; exact ⟨⟨_,.nil⟩,_,.nil⟩
 | p::ds,_,r=>by
  simp only [zj7] at r
  (refine elEEAA (r) fun e t e_2 h1 h2=>?_; subst e_2)
  obtain ⟨⟨as,q⟩,bs,q'⟩:=RepP.reads hin p h1
  obtain ⟨⟨as',p1⟩,bs',p2⟩:=RepKV.reads hin ds h2
  exact ⟨⟨_,.cons q p1⟩,_,.cons q' p2⟩
theorem RepP.reads (hin:F.In h):∀ (d:D×D) {e:j9},RepP w F d e->(∃ as,Reads h e.key d.1 as)/\∃ bs,Reads h e.val d.2 bs
 | (k,v),_,r=>by
  simp only [ys7] at r
  exact ⟨Rep.reads hin k r.2.1,Rep.reads hin v r.2.2⟩
end
theorem Top.reads (hin:F.In h) {d:D} {v:qq} (x:Top w F h d v):∃ as,Reads h v d as:=by
 rcases x with r|⟨a,rfl,q⟩
 ·exact Rep.reads hin d r
 ·cases d with
  | list xs =>
   refine elAEEA (q) fun _ vs n h1 h2=>?_
   obtain ⟨as,q⟩:=RepL.reads hin xs h2
   exact ⟨_,.list h1 rfl rfl q⟩
  | dict kvs =>
   refine elAEEAA (q) fun _ vs n h1 h2 _=>?_
   obtain ⟨⟨as,q⟩,bs,q'⟩:=RepKV.reads hin kvs h2
   exact ⟨_,.dict h1 rfl rfl q q'⟩
  | _=>exact q.elim
theorem Top.mono {F':Fz} {h':Heap} {d:D} {v:qq} (l:F.le F') (k:∀ a o,h.get? a=some o->h'.get? a=some o) (x:Top w F h d v):Top w F' h' d v:=by
 rcases x with r|⟨a,rfl,q⟩
 ·exact .inl (Rep.mono l d r)
 ·exact .inr ⟨a,rfl,q.mono l fun o e=>k a o e⟩
theorem RepL.append:∀ {ds es:List D} {vs ws:List qq},RepL w F ds vs->RepL w F es ws->RepL w F (ds++es) (vs++ws)
 | [],_,_,_,r,q=>by simp only [zp3] at r; subst r; simpa using q
 | d::ds,_,_,_,r,q=>by
  simp only [zu5] at r
  (refine elEEAA (r) fun v t e_2 h1 h2=>?_; subst e_2)
  simp only [jx,zu5]
  exact ⟨v,t++_,rfl,h1,RepL.append h2 q⟩
theorem RepL.get:∀ {ds:List D} {vs:List qq} {i:Nat} {d:D},RepL w F ds vs->ds[i]?=some d->∃ v,vs[i]?=some v/\Rep w F d v
 | [],_,_,_,_,e=>by simp at e
 | x::ds,_,i,d,r,e=>by
  simp only [zu5] at r
  (refine elEEAA (r) fun v t e_2 h1 h2=>?_; subst e_2)
  cases i with
  | zero=>simp at e; subst e; exact ⟨v,rfl,h1⟩
  | succ i=>simp at e; simpa using RepL.get h2 e
theorem RepL.take:∀ {ds:List D} {vs:List qq} (n:Nat),RepL w F ds vs->RepL w F (ds.take n) (vs.take n)
 | _,_,0,_=>rfl
 | [],_,n+1,r=>by simp only [zp3] at r; subst r; simp [zp3]
 | _::ds,_,n+1,r=>by
  simp only [zu5] at r
  (refine elEEAA (r) fun v t e_2 h1 h2=>?_; subst e_2)
  simp only [List.take_succ_cons,zu5]
  exact ⟨v,_,rfl,h1,RepL.take n h2⟩
theorem RepL.drop:∀ {ds:List D} {vs:List qq} (n:Nat),RepL w F ds vs->RepL w F (ds.drop n) (vs.drop n)
 | _,_,0,r=>by simpa using r
 | [],_,n+1,r=>by simp only [zp3] at r; subst r; simp [zp3]
 | _::ds,_,n+1,r=>by
  simp only [zu5] at r
  (refine elEEAA (r) fun v t e_2 h1 h2=>?_; subst e_2)
  simpa using RepL.drop n h2
theorem RepL.nil_:RepL w F [] []:=rfl
theorem RepL.cons_ {d:D} {ds:List D} {v:qq} {vs:List qq} (r:Rep w F d v) (q:RepL w F ds vs):RepL w F (d::ds) (v::vs):=by
 simp only [zu5]; exact ⟨v,vs,rfl,r,q⟩
end
noncomputable def Grown (w:wy) (F:Fz) (s:qv) (d:D) (f:Bool) (v:qq) (s':qv):Prop :=
 ∃ h' tk,s'={ s with heap:=h',toks:=tk }/\(∀ a o,s.heap.get? a=some o->h'.get? a=some o) /\
  if f then ∃ a,v=.ref a/\s.heap.get? a=none/\Shal w F h' d a
  else ∃ F',F.le F'/\F'.In h'/\(∀ a,F' a≠none->F a≠none\/s.heap.get? a=none)/\Rep w F' d v
section
variable {w:wy} {F:Fz} {s:qv}
theorem Grown.old {d:D} {v:qq} {tk:Nat} (hin:F.In s.heap) (r:Rep w F d v):Grown w F s d false v { s with toks:=tk } :=
 ⟨s.heap,tk,rfl,fun _ _ e=>e,F,Fz.le_refl F,hin,fun _ e=>.inl e,r⟩
theorem zz7 (h:Heap):h.get? h.objs.size=none:=by
 cases e:h.get? h.objs.size with
 | none=>rfl
 | some o=>exact absurd (wq e) (Nat.lt_irrefl _)
theorem Grown.list {xs:List D} {vs:Array qq} {n:Nat} {tk:Nat} (hz:xs.length<=size) (r:RepL w F xs vs.toList) :
  Grown w F s (.list xs) true (.ref s.heap.objs.size) { s with heap:=s.heap.push (lobj vs n),toks:=tk } :=
 ⟨_,tk,rfl,fun _ _ e=>qV _ e,_,rfl,zz7 _,hz,vs,n,xy _ rfl,r⟩
theorem Grown.dict {xs:List (D×D)} {es:Array j9} {n:Nat} {tk:Nat} (hz:xy8 xs) (r:RepKV w F xs es.toList) (hb:uJ<s.heap.objs.size) :
  Grown w F s (.dict xs) true (.ref s.heap.objs.size) { s with heap:=s.heap.push (dobj es n),toks:=tk } :=
 ⟨_,tk,rfl,fun _ _ e=>qV _ e,_,rfl,zz7 _,hz,es,n,xy _ rfl,r,hb⟩
theorem Grown.tuple {xs:List D} {vs:Array qq} {n:Nat} {tk:Nat} (hin:F.In s.heap) (hz:xs.length<=size) (r:RepL w F xs vs.toList) :
  Grown w F s (.tuple xs) false (.ref s.heap.objs.size) { s with heap:=s.heap.push (tobj vs n),toks:=tk }:=by
 have hf:F s.heap.objs.size=none:=by
  cases e:F s.heap.objs.size with
  | none=>rfl
  | some o=>exact absurd (wq (hin _ _ e)) (Nat.lt_irrefl _)
 refine ⟨_,tk,rfl,fun _ _ e=>qV _ e,F.add s.heap.objs.size (tobj vs n),Fz.le_add _ hf,?_,fun a e=>?_,?_⟩
 ·exact Fz.in_add (fun a o e=>qV _ (hin a o e)) (xy _ rfl)
 ·by_cases ha:a=s.heap.objs.size
  ·subst ha; exact .inr (zz7 _)
  ·rw [Fz.add_other F _ ha] at e; exact .inl e
 ·simp only [zp0]
  exact ⟨hz,_,vs,n,rfl,Fz.add_self ..,RepL.mono (Fz.le_add _ hf) _ r⟩
theorem Grown.from {s₁:qv} {h₁:Heap} {tk₁:Nat} {d:D} {f:Bool} {v:qq} {s':qv} (e:s₁={ s with heap:=h₁,toks:=tk₁ }) (k:∀ a o,s.heap.get? a=some o->h₁.get? a=some o)
  (g:Grown w F s₁ d f v s'):Grown w F s d f v s':=by
 subst e
 (refine elEEAA (g) fun h' tk e_2 k' r=>?_; subst e_2)
 refine ⟨h',tk,rfl,fun a o e=>k' a o (k a o e),?_⟩
 have none_of:∀ a,h₁.get? a=none->s.heap.get? a=none:=fun a e=>by
  cases q:s.heap.get? a with
  | none=>rfl
  | some o=>rw [k a o q] at e; cases e
 cases f with
 | true=>(refine elEAA (r) fun a e q r_n=>?_; clear r; revert r_n; intro r); exact ⟨a,e,none_of a q,r⟩
 | false=>(refine elEAAA (r) fun F' l i q r_n=>?_; clear r; revert r_n; intro r); exact ⟨F',l,i,fun a e=>(q a e).imp id (none_of a),r⟩
end
theorem ze3:Z9=size:=rfl
theorem yd5:(size:Int)<2^63:=by unfold size; decide
structure Room (n:Nat) (A:xx):Prop where
 handled:A.handled=none
 depth:A.depth+n<recursionLimit
 units:A.units+3*n+3000<cLine
theorem Room.u {n:Nat} {A:xx} (R:Room n A):A.units<cLine:=by have:=R.units; exact z7 (qw (qQ ..) (qQ ..)) this
theorem Room.le {n m:Nat} {A:xx} (R:Room n A) (h:m<=n):Room m A:=⟨R.handled,z7 (qZ h _) R.depth,z7 (xv (qZ (w5 3 h) _) _) R.units⟩
theorem zy9 {d:D} (h:okd d=true):d.canLay0=true/\d.depth<=1000:=by
 unfold okd at h; simpa using h
theorem Room.two {n:Nat} {A:xx} (R:Room n A) {a b:D} (ha:okd a=true):A.units+min a.depth b.depth<cLine:=by
 exact z7 (Z5 (qQ ..) (qw (k8 ..) (qw (zy9 ha).2 (by decide)))) R.units
theorem xx6 {u n a b c:Nat} (h:u+3*n+3000<c) (ha:a<=1000):u+1+min a b<c:=z7 (qw (zX (x9 ..)) (Z5 (qQ u (3*n)) (qw (qZ (qw (k8 a b) ha) 1) (by decide)))) h
section
variable {prog:vw} {w:wy} {A:xx} {E:qq->qv->Prop} {s:qv} {F:Fz} {n:Nat}
theorem xd9 {a b:Int} (h0:b≠0) (h:zz9 b=true):Builtin.divisionGoesByPylong a b=false:=by
 refine PyProof.noPylong_of_log2 ?_
 have h0':b.natAbs≠0:=Int.natAbs_ne_zero.mpr h0
 have:=(Nat.log2_lt (k:=62) h0').mpr (by simpa [zz9] using h)
 exact Q5 this (by decide)
theorem zs4 (hin:F.In s.heap) {i:Int} {t:Tok} {tk:Nat}:Grown w F s (.int i) false (.int i t) { s with toks:=tk }:=Grown.old hin wu4
theorem add_ok (hin:F.In s.heap) {x y:D} {r:D×Bool} {a b:qq} (e:addD x y=some r):Top w F s.heap x a->Top w F s.heap y b->zx (zQ prog w) A (binaryOp .Add a b) (Grown w F s r.1 r.2) E s:=by
 refine addK e (fun i j ha hb=>?_) (fun xs ys hz ha hb=>?_) fun xs ys hz ha hb=>?_
 ·exact ha.intK fun t=>hb.intK fun u=>PyProof.Rows.add_int (zs4 hin)
 ·refine ha.lisK hin fun _ a dd1 sl1 vs m h1 h2=>hb.lisK hin fun _ b dd2 sl2 ws m' h3 h4=>?_
  have hsz:vs.size+ws.size<=Z9:=by rw [z9,<- h2.length,<- h4.length] at hz; exact hz
  exact concat_meets ⟨_,h1,rfl⟩ ⟨_,h3,rfl⟩ noFill_list_add seq_list_add PySem.F.slot_list_add PySem.F.entry_list_add (PySem.F.args_list_add_2 _ _)
   (PyProof.Rows.list_addW _ _ vs ws m m' dd1 dd2 sl1 sl2 hsz) ⟨h1,h3,Grown.list hz (w6.symm▸h2.append h4)⟩
 ·refine ha.tupK hin fun _ a vs m hF h1 h2=>hb.tupK hin fun _ b ws m' hF' h3 h4=>?_
  have nil:∀ {xs:List D} {vs:Array qq},RepL w F xs vs.toList->vs.isEmpty=true->xs=[]:=fun h2 c0=>List.eq_nil_of_length_eq_zero (h2.length.symm.trans (Array.isEmpty_iff_size_eq_zero.mp c0))
  by_cases c0:vs.isEmpty=true
  ·exact concat_meets ⟨_,h1,rfl⟩ ⟨_,h3,rfl⟩ noFill_tuple_add seq_tuple_add PySem.F.slot_tuple_add PySem.F.entry_tuple_add (PySem.F.args_tuple_add_2 _ _)
    (PyProof.Rows.tuple_addW0 _ _ vs ws m m' none none #[] #[] c0) ⟨h1,h3,Grown.old (tk:=s.toks) hin (yc3 hz hF' (by rw [nil h2 c0]; exact h4))⟩
  ·by_cases c1:ws.isEmpty=true
   ·exact concat_meets ⟨_,h1,rfl⟩ ⟨_,h3,rfl⟩ noFill_tuple_add seq_tuple_add PySem.F.slot_tuple_add PySem.F.entry_tuple_add (PySem.F.args_tuple_add_2 _ _)
     (PyProof.Rows.tuple_addW1 _ _ vs ws m m' none none #[] #[] c0 c1) ⟨h1,h3,Grown.old (tk:=s.toks) hin (yc3 hz hF (by rw [nil h4 c1,List.append_nil]; exact h2))⟩
   ·have hsz:vs.size+ws.size<=Z9:=by rw [z9,<- h2.length,<- h4.length] at hz; exact hz
    exact concat_meets ⟨_,h1,rfl⟩ ⟨_,h3,rfl⟩ noFill_tuple_add seq_tuple_add PySem.F.slot_tuple_add PySem.F.entry_tuple_add (PySem.F.args_tuple_add_2 _ _)
     (PyProof.Rows.tuple_addW2 _ _ vs ws m m' none none #[] #[] c0 c1 hsz) ⟨h1,h3,Grown.tuple hin hz (w6.symm▸h2.append h4)⟩
set_option tactic.hygienic true in
theorem wl8 (hin:F.In s.heap) {x y d:D} {f:Bool} {a b:qq} (ha:Top w F s.heap x a) (hb:Top w F s.heap y b) (e:mulD x y=some (d,f)):zx (zQ prog w) A (binaryOp .Mult a b) (Grown w F s d f) E s:=by
  cases x<;>(try exact (noS e).elim)<;>cases y<;>try exact (noS e).elim
  ·refine ha.intK fun t=>hb.intK fun u=>?_
   rename_i i j
   obtain ⟨hs,e⟩:=ifS e
   refine sm2 (congrArg some e) ?_
   refine PyProof.Rows.mul_int (zs4 hin) (IntMulOk.of_left ?_)
   simp only [zz9,zj,decide_eq_true_eq] at hs
   unfold wJ
   split
   ·exact wx _
   ·rename_i h0
    have h0':i.natAbs≠0:=by simpa using h0
    exact qw ((Nat.log2_lt (k:=62) h0').mpr hs.1) (by decide)
theorem bin_ok (hin:F.In s.heap) {op:Operator} {x y d:D} {f:Bool} {a b:qq} (ha:Top w F s.heap x a) (hb:Top w F s.heap y b) (e:binD op x y=some (d,f)) :
  zx (zQ prog w) A (binaryOp op a b) (Grown w F s d f) E s:=by
 cases op with
 | Add=>exact add_ok hin e ha hb
 | Sub=>revert ha hb; exact xb5 e fun i j e ha hb=>ha.intK fun t=>hb.intK fun u=>sm2 e (PyProof.Rows.sub_int (zs4 hin))
 | Mult=>exact wl8 hin ha hb e
 | FloorDiv =>
  revert ha hb
  refine xb5 e fun i j e ha hb=>ha.intK fun t=>hb.intK fun u=>?_
  obtain ⟨h0,e⟩:=ifS e
  rw [zj,bne_iff_ne] at h0
  exact sm2 (congrArg some e) (PyProof.Rows.floordiv_int h0.1 (zs4 hin) (.inl (xd9 h0.1 h0.2)))
 | Mod =>
  revert ha hb
  refine xb5 e fun i j e ha hb=>ha.intK fun t=>hb.intK fun u=>?_
  obtain ⟨h0,e⟩:=ifS e
  rw [zj,bne_iff_ne] at h0
  exact sm2 (congrArg some e) (PyProof.Rows.mod_int' h0.1 (zs4 hin))
 | Pow =>
  revert ha hb
  refine xb5 e fun i j e ha hb=>ha.intK fun t=>hb.intK fun u=>?_
  obtain ⟨h0,e⟩:=ifS e
  exact sm2 (congrArg some e) (PyProof.Rows.pow_int h0.1 h0.2 (zs4 hin))
 | _=>exact (noS e).elim
end
end Snd
end
section
namespace Snd
open PySem Mini PySem.SeqAt
open AutoSeq1 (wpAny_loadPart')
open MeetsSeq MeetsSeq2 MeetsSeq3 SeqRoads2
noncomputable def xg9 (A:xx) (s:qv) (y x:qq) (b:Bool):Prop :=
 ∀ (prog:vw) (w:wy) (E:qq->qv->Prop) (Q:qq->qv->Prop),Q (.bool b) s->zx (zQ prog w) A (richCompare .Lt y x) Q E s
noncomputable def LtZ (A:xx) (s:qv) (fin r:Bool):List (qq×qq)->Prop
 | []=>fin=r
 | p::t=>∃ c,EqAt A s p.1 p.2 c/\bif c then LtZ A s fin r t else xg9 A s p.1 p.2 r
theorem xs0 (l b:Addr) (items items2:Array qq) (n n2:Nat) (dd dd2:Option Addr) (sl sl2:Array (Option qq)) (r:Bool) :
  Meets (Builtin.«tuple.__lt__» ⟨[.ref l,.ref b],[]⟩)
   (fun A R s=>s.heap.get? l=some { cls:=.type "tuple", dict:=dd,data:=.seq items n,slots:=sl }/\s.heap.get? b=some { cls:=.type "tuple", dict:=dd2,data:=.seq items2 n2,slots:=sl2 } /\
    LtZ A.in1 s (decide (items.size<items2.size)) r (items.toList.zip items2.toList)/\R (.ok (.ret (.bool r))) s) :=
 .of_wp fun prog w A R s h=>by
  obtain ⟨hp,g,d,tk,os⟩:=s
  refine elAAA h fun hl hb hz h'=>?_
  clear h
  have f2:=AutoSeq1.sub_tuple_tuple
  wp_walk using wpAny_loadPart' hl,wpAny_loadPart' hb,wpAny_forIn_list _ (fun rest b s'=>b.1=none/\s'=⟨hp,g,d,tk,os⟩/\LtZ A.in1 ⟨hp,g,d,tk,os⟩ (decide (items.size<items2.size)) r rest) _
  case turn =>
   rintro ⟨y,x⟩ rest b s' ⟨hb',rfl,c,he,hr⟩
   refine qz (he prog w _ _ ?_)
   cases c with
   | true=>wp_walk; exact ⟨rfl,rfl,hr⟩
   | false =>
    simp only [Bool.not_false,if_true]
    exact qz (QJ (qz (hr prog w _ _ (qz (z8 (z8 (z8 ⟨_,rfl,h'⟩)))))))
  case fin =>
   rintro ⟨b1,b2⟩ s' ⟨hb',rfl,hz'⟩
   simp only at hb'
   subst hb'
   wp_walk
   exact ⟨_,rfl,by simpa [Builtin.Tuple.tupleCompareSizes,show _=r from hz'] using h'⟩
  case h=>exact ⟨rfl,rfl,hz⟩
@[elab_as_elim] theorem rdI {h:Heap} {v:qq} {i:Int} {as:List Addr} (r:Reads h v (.int i) as) {P:qq->Prop} (k:∀ t,P (.int i t)):P v:=by cases r; exact k _
@[elab_as_elim] theorem rdS {h:Heap} {v:qq} {i:Str} {as:List Addr} (r:Reads h v (.str i) as) {P:qq->Prop} (k:∀ t,P (.str i t)):P v:=by cases r; exact k _
@[elab_as_elim] theorem rdT {h:Heap} {v:qq} {xs:List D} {as:List Addr} (r:Reads h v (.tuple xs) as) {P:qq->Prop} (k:∀ l dd vs m sl bs,h.get? l=some ⟨.type "tuple", dd,.seq vs m,sl⟩->ReadsAll h vs.toList xs bs->P (.ref l)):P v:=by
 cases r with
 | @tuple l o vs m _ _ h1 h2 h3 h4=>exact k l o.dict vs m o.slots _ (by rw [h1,<- h2,<- h3]) h4
noncomputable def LtOk (n:Nat):Prop:=∀ (x y:D) (b:Bool),x.depth<n->ltD x y=some b->∀ (A:xx) (s:qv) (v u:qq) (as bs:List Addr),Reads s.heap v x as->Reads s.heap u y bs->x.canLay0=true->y.canLay0=true ->
  A.units+min x.depth y.depth<cLine->xg9 A s v u b
theorem ltz_ok {n:Nat} (ih:LtOk n) {A:xx} {s:qv} {b:Bool}:∀ (xs ys:List D) {vs us:List qq} {as bs:List Addr},ReadsAll s.heap vs xs as->ReadsAll s.heap us ys bs->wQ xs=true->wQ ys=true ->
  vz xs<n->A.units+min (vz xs) (vz ys)<cLine->ltL xs ys=some b->LtZ A s (decide (xs.length<ys.length)) b (vs.zip us):=by
 intro xs
 induction xs with
 | nil =>
  intro ys vs us as bs ra rb _ _ _ _ h
  cases ra
  cases ys with
  | nil=>exact xW h
  | cons y ys=>exact xW h
 | cons x xs iht =>
  intro ys vs us as bs ra rb hx hy hn hu h
  cases ys with
  | nil =>
   cases rb
   rw [List.zip_nil_right]
   exact xW h
  | cons y ys =>
   cases ra with
   | cons r1 r2 =>
   cases rb with
   | cons q1 q2 =>
   have hx:=zw.mp hx
   have hy:=zw.mp hy
   have hn:max x.depth (vz xs)<n:=hn
   refine ⟨qX x y,eqAt_reads x y A s _ _ _ _ r1 q1 hx.1 hy.1 (room_head hu),?_⟩
   change (if qX x y then ltL xs ys else ltD x y)=_ at h
   cases e:qX x y with
   | true =>
    rw [e] at h
    have hd:decide ((x::xs).length<(y::ys).length)=decide (xs.length<ys.length):=decide_eq_decide.mpr Nat.succ_lt_succ_iff
    rw [hd]
    exact iht ys r2 q2 hx.2 hy.2 (z7 (Qw _ _) hn) (room_tail hu) h
   | false =>
    rw [e] at h
    exact ih x y b (z7 (Nat.le_max_left _ _) hn) h A s _ _ _ _ r1 q1 hx.1 hy.1 (room_head hu)
theorem lt_ok (n:Nat):LtOk n:=by
 induction n with
 | zero=>exact fun _ _ _ h=>absurd h (Nat.not_lt_zero _)
 | succ n ih =>
  intro x y b hn h
  revert hn
  refine ltK h ?_ ?_ ?_
  ·exact fun i j _ A s v u as bs rx ry _ _ _=>rdI rx fun t=>rdI ry fun t' prog w E Q hq=>PyProof.Rows.lt_int hq
  ·exact fun i j _ A s v u as bs rx ry _ _ _=>rdS rx fun t=>rdS ry fun t' prog w E Q hq=>PyProof.Rows.lt_str hq
  ·intro xs ys b h hn A s v u as bs rx ry ha hb hu
   refine rdT rx fun l dd vs m sl as' h1 h4=>rdT ry fun l' dd' ws m' sl' bs' k1 k4=>?_
   have n1:vs.size=xs.length:=ReadsAll.length _ _ _ h4
   have n2:ws.size=ys.length:=ReadsAll.length _ _ _ k4
   intro prog w E Q hq
   refine richCompare_meets_room (op:=.Lt) ⟨_,h1,rfl⟩ ⟨_,k1,rfl⟩ F.slot_tuple_lt F.entry_tuple_lt (F.args_tuple_lt_2 _ _)
    (xs0 l l' vs ws m m' dd dd' sl sl' b) ⟨h1,k1,?_,(fun x=>nomatch x),hq⟩ (room_here hu)
   rw [n1,n2]
   exact ltz_ok ih xs ys h4 k4 ha hb (Nat.lt_of_succ_lt_succ hn) (room_in hu) h
theorem yq3 {x y:D} {b:Bool} (h:ltD x y=some b) {A:xx} {s:qv} {v u:qq} {as bs:List Addr} (rx:Reads s.heap v x as) (ry:Reads s.heap u y bs) (hx:x.canLay0=true) (hy:y.canLay0=true)
  (hu:A.units+min x.depth y.depth<cLine):xg9 A s v u b:=lt_ok _ x y b (Qx _) h A s v u as bs rx ry hx hy hu
section
variable {prog:vw} {w:wy} {A:xx} {E:qq->qv->Prop} {s:qv} {F:Fz} {n:Nat}
noncomputable def Says (s:qv) (b:Bool) (r:Bool) (s':qv):Prop:=r=b/\∃ tk,s'={ s with toks:=tk }
theorem zc0 (hin:F.In s.heap) {d:D} {v:qq} {b:Bool} (x:Top w F s.heap d v) (e:zy2 d=some b):zx (zQ prog w) A (truthy v) (Says s b) E s:=by
 have hn:∀ {l:List D} {vs:Array qq},RepL w F l vs.toList->(!vs.isEmpty)=!l.isEmpty:=fun {l vs} r=>by
  have e:vs.size=l.length:=r.length
  rw [Array.isEmpty,e]
  cases l<;>rfl
 have hs:∀ {l:List D} {vs:Array qq},RepL w F l vs.toList->l.length<=size->(vs.size:Int)<2^63:=fun {l vs} r hz=>by
  have e:vs.size=l.length:=r.length
  exact Int.lt_of_le_of_lt (Int.ofNat_le.mpr (qw (zX e) hz)) yd5
 cases d with
 | none=>exact x.noneK (sm1 e (PyProof.Rows.truthy_none ⟨rfl,s.toks,rfl⟩))
 | bool c=>exact x.boolK (sm1 e (Q8 ⟨rfl,s.toks,rfl⟩))
 | int i=>exact x.intK fun t=>sm1 e (PyProof.Rows.truthy_int ⟨rfl,s.toks,rfl⟩)
 | list l=>exact x.listK hin fun hz a ob vs m h1 hcl hdt h2=>sm1 e (wpAny_truthy_list ⟨_,h1,hcl,_,hdt⟩ (hs h2 hz) ⟨hn h2,_,rfl⟩)
 | tuple l=>exact x.tupK hin fun hz a vs m _ h1 h2=>sm1 e (PyProof.Rows.truthy_tuple ⟨_,h1,rfl,_,rfl⟩ (hs h2 hz) ⟨hn h2,_,rfl⟩)
 | _=>exact (noS e).elim
theorem xq6 (hin:F.In s.heap) {d:D} {v:qq} (x:Top w F s.heap d v):(v==wz)=xj6 d:=by
 cases d with
 | none=>exact x.noneK rfl
 | bool c=>exact x.boolK rfl
 | int i=>exact x.intK fun t=>rfl
 | str i=>exact x.strK fun t=>rfl
 | list l=>exact x.listK hin fun _ _ _ _ _ _ _ _ _=>rfl
 | tuple l=>exact x.tupK hin fun _ _ _ _ _ _ _=>rfl
 | dict l=>exact x.dicK hin fun _ _ _ _ _ _ _=>rfl
theorem ys6 {l:List D} (h:l.all okd=true):wQ l=true/\vz l<=1000:=by
 induction l with
 | nil=>exact ⟨rfl,wx _⟩
 | cons x r ih =>
  simp only [List.all_cons,zj] at h
  have h1:=zy9 h.1
  have h2:=ih h.2
  simp only [wQ,vz,zj]
  exact ⟨⟨h1.1,h2.1⟩,Nat.max_le.mpr ⟨h1.2,h2.2⟩⟩
noncomputable def SayV (s:qv) (r:Bool) (v:qq) (s':qv):Prop:=v=.bool r/\∃ tk,s'={ s with toks:=tk }
theorem say {r:Bool} {tk:Nat}:SayV s r (.bool r) { s with toks:=tk }:=⟨rfl,tk,rfl⟩
noncomputable def xf0 (w:wy):Prop:=∀ (prog:vw) (A:xx) (E:qq->qv->Prop) (s:qv) (F:Fz) (n:Nat),Room n A->F.In s.heap->∀ {x:D} {kvs:List (D×D)} {a b:qq},Top w F s.heap x a->Top w F s.heap (.dict kvs) b->(zj8 x kvs&&!tkey x)=true ->
 zx (zQ prog w) A (Zq .In a b) (SayV s (zq8 kvs x).isSome) E s /\
 zx (zQ prog w) A (Zq .NotIn a b) (SayV s (!(zq8 kvs x).isSome)) E s
structure DictIn (w:wy):Prop where
 inn:xf0 w
theorem ww6 (di:DictIn w) (R:Room n A) (hin:F.In s.heap) {x y:D} {r:Bool} {a b:qq} (ha:Top w F s.heap x a) (hb:Top w F s.heap y b) (e:eqD x y=some r) :
  zx (zQ prog w) A (Zq .Eq a b) (SayV s r) E s/\zx (zQ prog w) A (Zq .NotEq a b) (SayV s (!r)) E s:=by
 by_cases ho:(okd x&&okd y)=true
 ·have e:=(if_pos ho).symm.trans e
  have ho:=zw.mp ho
  refine (ha.reads hin).elim fun as ra=>(hb.reads hin).elim fun bs rb=>sm1 e ?_
  exact ⟨compareEq_reads ra rb (zy9 ho.1).1 (zy9 ho.2).1 (R.two ho.1) say,compareNe_reads ra rb (zy9 ho.1).1 (zy9 ho.2).1 (R.two ho.1) say⟩
 ·exact (noS ((if_neg ho).symm.trans e)).elim
theorem wx6 (di:DictIn w) (R:Room n A) (hin:F.In s.heap) {x y:D} {r:Bool} {a b:qq} (ha:Top w F s.heap x a) (hb:Top w F s.heap y b) (e:inD x y=some r) :
  zx (zQ prog w) A (Zq .In a b) (SayV s r) E s/\zx (zQ prog w) A (Zq .NotIn a b) (SayV s (!r)) E s:=by
 refine (ha.reads hin).elim fun as ra=>?_
 have hu:∀ {l:List D},l.all okd=true->A.units+1+min (vz l) x.depth<cLine:=fun h=>xx6 R.units (ys6 h).2
 revert hb
 refine inK e (fun l h1 h2 hb=>?_) (fun l h1 h2 hb=>?_) (fun l h hb=>?_)
 ·exact (hb.reads hin).elim fun bs rb=>⟨in_list_reads rb ra (ys6 h2).1 (zy9 h1).1 (hu h2) say,notIn_list_reads rb ra (ys6 h2).1 (zy9 h1).1 (hu h2) say⟩
 ·exact (hb.reads hin).elim fun bs rb=>⟨in_tuple_reads rb ra (ys6 h2).1 (zy9 h1).1 (hu h2) say,notIn_tuple_reads rb ra (ys6 h2).1 (zy9 h1).1 (hu h2) say⟩
 ·exact di.inn prog A E s F n R hin ha hb h
theorem xt6 (di:DictIn w) (R:Room n A) (hin:F.In s.heap) {op:CmpOp} {x y:D} {r:Bool} {a b:qq} (ha:Top w F s.heap x a) (hb:Top w F s.heap y b) (e:cmpD op x y=some r) :
  zx (zQ prog w) A (Zq op a b) (SayV s r) E s:=by
 cases op with
 | Eq=>exact (ww6 di R hin ha hb e).1
 | NotEq=>exact bK1 e fun q hq e=>sm1 e (ww6 di R hin ha hb hq).2
 | Lt =>
  by_cases ho:(okd x&&okd y)=true
  ·have e:=(if_pos ho).symm.trans e
   have ho:=zw.mp ho
   exact (ha.reads hin).elim fun as ra=>(hb.reads hin).elim fun bs rb=>yq3 e ra rb (zy9 ho.1).1 (zy9 ho.2).1 (R.two ho.1) _ _ _ _ say
  ·exact (noS ((if_neg ho).symm.trans e)).elim
 | Gt =>
  revert ha hb
  exact gtK e (fun i j ha hb=>ha.intK fun t=>hb.intK fun u=>PyProof.Rows.gt_int say) (fun i j ha hb=>ha.strK fun t=>hb.strK fun u=>PySem.P.gt_str say)
 | LtE=>revert ha hb; exact as2K (x:=x) (y:=y) (g:=fun i j=>some (decide (i<=j))) e fun i j e ha hb=>ha.intK fun t=>hb.intK fun u=>sm1 e (PyProof.Rows.le_int say)
 | GtE=>revert ha hb; exact as2K (x:=x) (y:=y) (g:=fun i j=>some (decide (j<=i))) e fun i j e ha hb=>ha.intK fun t=>hb.intK fun u=>sm1 e (PyProof.Rows.ge_int say)
 | Is =>
  refine bK1 e fun q hq e=>sm1 e ?_
  obtain rfl:=xy5 hq
  exact hb.noneK (PyProof.Rows.is_none_gen (xq6 hin ha▸say))
 | In=>exact (wx6 di R hin ha hb e).1
 | NotIn=>exact bK1 e fun q hq e=>sm1 e (wx6 di R hin ha hb hq).2
 | _=>exact (noS e).elim
end
set_option tactic.hygienic true in
theorem yd4 {items:Array qq} {lo hi:Option Int}:(slicePick items lo hi none).toList=zv8 items.toList lo hi:=by
 have key:∀ (i:Int) (n:Nat),(max 0 (min (if i<0 then i+n else i) n)).toNat=yy5 n i:=by
  have z:∀ x:Int,(max 0 x).toNat=x.toNat:=fun x=>by
   rcases Int.le_total 0 x with h|h
   ·rw [Int.max_eq_right h]
   ·rw [Int.max_eq_left h,Int.toNat_of_nonpos h]; rfl
  intro i n
  unfold yy5
  rw [z]
  split
  ·next q=>rw [Int.min_eq_left (Int.le_trans (Int.add_le_add_right (Int.le_of_lt q) n) (Int.le_of_eq (Int.zero_add _)))]
  ·next q =>
   rcases Int.le_total i n with h|h
   ·rw [Int.min_eq_left h,vX (Int.toNat_le.mpr h)]
   ·rw [Int.min_eq_right h,Int.toNat_natCast,Nat.min_eq_right ((Int.le_toNat (Int.not_lt.mp q)).mpr h)]
 have gen:∀ (a b:Nat),((sliceRange (a:Int) (b:Int) 1).filterMap (items[·]?))=(items.toList.take b).drop a:=by
  intro a b
  have e:sliceRange (a:Int) (b:Int) 1=(List.range (b - a)).map (a+·):=by
   unfold sliceRange
   simp only [show (1:Int) > 0 by decide,if_true]
   have:(if (a:Int)<b then ((b:Int) - a+1 - 1) / 1 else 0).toNat=b - a:=by
    split
    ·rw [Int.add_sub_cancel,Int.ediv_one]; exact Int.toNat_sub b a
    ·next q=>exact (Nat.sub_eq_zero_of_le (Int.ofNat_le.mp (Int.not_lt.mp q))).symm
   rw [this]
   refine yQ fun k hk=>?_
   rw [Int.one_mul]; rfl
  rw [e,pick_run,List.drop_take]
 have nn:∀ (i:Int) (n:Nat),0<=max 0 (min (if i<0 then i+n else i) n):=fun i n=>Int.le_max_left _ _
 have nat:∀ x:Int,0<=x->x=((x.toNat:Nat):Int):=fun x h=>(Int.toNat_of_nonneg h).symm
 unfold slicePick zv8 sliceBounds
 simp only [Option.getD_none,show (1:Int) > 0 by decide,if_true,vk]
 cases lo with
 | none =>
  cases hi with
  | none=>exact (gen 0 items.size)
  | some j =>
   dsimp only
   rw [nat _ (nn j items.size),key]
   exact gen 0 _
 | some i =>
  cases hi with
  | none =>
   dsimp only
   rw [nat _ (nn i items.size),key]
   exact gen _ items.size
  | some j =>
   dsimp only
   rw [nat _ (nn i items.size),nat _ (nn j items.size),key,key]
   exact gen _ _
section
variable {w:wy} {F:Fz}
theorem RepL.slice {ds:List D} {vs:List qq} (lo hi:Option Int) (r:RepL w F ds vs):RepL w F (zv8 ds lo hi) (zv8 vs lo hi):=by
 unfold zv8
 rw [r.length]
 exact (r.take _).drop _
theorem yy7 {α:Type} (l:List α) (lo hi:Option Int):(zv8 l lo hi).length<=l.length:=by
 unfold zv8
 rw [List.length_drop,List.length_take]; exact qw (uy _ _) (Z7 _ _)
end
section
variable {prog:vw} {w:wy} {A:xx} {E:qq->qv->Prop} {s:qv} {F:Fz} {n:Nat}
noncomputable def GotV (w:wy) (F:Fz) (s:qv) (d:D) (r:qq) (s':qv):Prop:=Rep w F d r/\∃ tk,s'={ s with toks:=tk }
noncomputable def ys8 (w:wy):Prop:=∀ (prog:vw) (A:xx) (E:qq->qv->Prop) (s:qv) (F:Fz) (n:Nat),Room n A->F.In s.heap->∀ {x v:D} {kvs:List (D×D)} {a b:qq},Top w F s.heap x a->Top w F s.heap (.dict kvs) b->zj8 x kvs=true->zq8 kvs x=some v ->
 zx (zQ prog w) A (getItem b a) (GotV w F s v) E s
theorem xx3 {l:List D} {j:Nat} {i:Int} {d:D} (hz:l.length<=size) (hj:i=(j:Int)) (e:l[j]?=some d):i<2^63 :=
 hj▸Int.lt_trans (kJ.mpr (jQ (z6.mp e).1 hz)) yd5
theorem xq8 (dg:ys8 w) (R:Room n A) (hin:F.In s.heap) {x y d:D} {a b:qq} (ha:Top w F s.heap x a) (hb:Top w F s.heap y b) (e:idxD x y=some d) :
  zx (zQ prog w) A (getItem a b) (GotV w F s d) E s:=by
 revert ha hb
 refine idxK e (fun l i h0 e ha hb=>?_) (fun l i h0 e ha hb=>?_) (fun kvs k hk e ha hb=>dg prog A E s F n R hin hb ha hk e)
 ·exact ha.listK hin fun hz a ob vs m h1 hcl hdt h2=>hb.intK fun t=>elEA (h2.get e) fun v hv r =>
   wpAny_getItem_list ⟨_,h1,hcl,_,hdt⟩ h0 (xx3 hz (Int.toNat_of_nonneg h0).symm e) (wj.symm.trans hv) ⟨r,s.toks,rfl⟩
 ·refine ha.tupK hin fun hz a vs m _ h1 h2=>hb.intK fun t=>elEA (h2.get e) fun v hv r =>
   PyProof.Rows.getItem_tuple (j:=i.toNat) ⟨_,h1,rfl,_,rfl⟩ (Int.le_trans (by decide) h0) (xx3 hz (Int.toNat_of_nonneg h0).symm e) ?_ (wj.symm.trans hv) ⟨r,s.toks,rfl⟩
  have hlt:=(z6.mp hv).1
  have hs:vs.toList.length=vs.size:=vk
  unfold seqIndex?
  rw [if_neg (Int.not_lt.mpr h0)]
  exact if_pos (zw.mpr ⟨decide_eq_true h0,decide_eq_true ((Int.toNat_lt h0).mp (hs▸hlt))⟩)
theorem xs6 (dg:ys8 w) (R:Room n A) (hin:F.In s.heap) {value slice:Expr} {x y d:D} {a b:qq} (ha:Top w F s.heap x a) (hb:Top w F s.heap y b) (e:idxD x y=some d)
  (hs:∀ o i,subscripted slice false o i=operate [o,i] (getItem o i)) :
  zx (zQ prog w) A (PyProof.Rows.subscriptTail value slice a b) (GotV w F s d) E s:=by
 have h:=xq8 (prog:=prog) (A:=A) (E:=E) dg R hin ha hb e
 revert h
 cases x with
 | list l=>exact ha.listK hin fun hz a ob vs m h1 hcl hdt h2 h=>Q9 ⟨_,h1,hcl⟩ PySem.F.slot_list_getitem.lookup h (hs _ _)
 | tuple l=>exact ha.tupK hin fun hz a vs m _ h1 h2 h=>Q9 ⟨_,h1,rfl⟩ PySem.F.slot_tuple_getitem.lookup h (hs _ _)
 | dict l=>exact ha.dicK hin fun hz a vs m h1 h2 _ h=>Q9 ⟨_,h1,rfl⟩ PySem.F.slot_dict_getitem.lookup h (hs _ _)
 | _=>exact (noS e).elim
theorem Grown.keep {d:D} {v:qq} {h':Heap} {tk:Nat} (hin:F.In s.heap) (k:∀ a o,s.heap.get? a=some o->h'.get? a=some o) (r:Rep w F d v):Grown w F s d false v { s with heap:=h',toks:=tk } :=
 ⟨h',tk,rfl,k,F,Fz.le_refl F,fun a o e=>k a o (hin a o e),fun _ e=>.inl e,r⟩
theorem xr1 {xs:List D} {vs:Array qq} (h:RepL w F xs vs.toList) (hz:xs.length<=size):vs.size<=Z9:=qw (zX h.length) hz
theorem wn9 {xs:List D} {vs:Array qq} (h:RepL w F xs vs.toList) (hz:xs.length<=size):(vs.size:Int)<2^63:=Int.lt_of_le_of_lt (Int.ofNat_le.mpr (xr1 h hz)) yd5
theorem xr0 (hin:F.In s.heap) {value:Expr} {l u:Option Expr} {p:Pos} {d r:D} {f:Bool} {a vl vu:qq} {lo hi:Option Int} (ha:Top w F s.heap d a) (pl:IsPart vl lo) (pu:IsPart vu hi) (e:yr8 d lo hi=some (r,f)) :
  zx (zQ prog w) A (newFields "slice" [vl,vu,.none]) (fun i s₁=>zx (zQ prog w) A (PyProof.Rows.subscriptTail value (.Slice l u none p) a i) (Grown w F s r f) E s₁) E s:=by
 refine yX ?_
 generalize hh:s.heap.push { cls:=.type "slice", data:=.fields [vl,vu,wz].toArray }=h₁
 have k:∀ b o,s.heap.get? b=some o->h₁.get? b=some o:=fun b o e=>hh▸qV _ e
 have hS:h₁.IsSliceOf s.heap.objs.size vl vu .none:=hh▸⟨_,xy _ rfl,rfl,rfl⟩
 clear hh
 revert ha pl pu
 refine wn8 (P:=fun d lo hi r=>Top w F s.heap d a->IsPart vl lo->IsPart vu hi->zx (zQ prog w) A (PyProof.Rows.subscriptTail value (.Slice l u none p) a (.ref s.heap.objs.size)) (Grown w F s r.1 r.2) E { s with heap:=h₁ }) e (fun xs lo hi ha pl pu=>?_) (fun xs i h0 ha pl pu=>?_)
 ·refine ha.listK hin fun hz a ob vs m h1 hcl hdt h2=>Q9 ⟨_,k _ _ h1,hcl⟩ PySem.F.slot_list_getitem.lookup
   (wpAny_getItem_list_slice ⟨_,k _ _ h1,hcl,_,hdt⟩ hS pl pu .none (fun x=>nomatch x) (Grown.from (s:=s) (h₁:=h₁) (tk₁:=s.toks) rfl k ?_) (xr1 h2 hz)) rfl
  exact Grown.list (tk:=s.toks) (qw (yy7 _ _ _) hz) (yd4▸h2.slice lo hi)
 ·refine ha.tupK hin fun hz a vs m _ h1 h2=>?_
  cases pu
  cases pl with
  | int i t =>
  have e1:vs.size=xs.length:=h2.length
  obtain ⟨j,rfl⟩:=Int.eq_ofNat_of_zero_le (Int.le_trans (by decide) h0.1)
  refine Q9 ⟨_,k _ _ h1,rfl⟩ PySem.F.slot_tuple_getitem.lookup (PyProof.Rows.getItem_tuple_from ⟨_,k _ _ h1,rfl,_,rfl⟩ hS (Int.ofNat_le.mp h0.1) (e1▸Int.ofNat_le.mp h0.2)
   (Grown.from (s:=s) (h₁:=h₁) (tk₁:=s.toks) rfl k (Grown.tuple (tk:=s.toks) (fun b o e=>k b o (hin b o e)) (qw (List.length_drop▸uy _ _) hz) ?_)) (xr1 h2 hz)) rfl
  exact h2.drop j
noncomputable def yv8:Prim->qq
 | .len=>.builtin "len" | .sorted=>.builtin "sorted" | .min=>.builtin "min" | .max=>.builtin "max"
 | .tuple=>.type "tuple" | .list=>.type "list" | .dict=>.type "dict" | .int=>.type "int"
noncomputable def yw1 (w:wy):Prop:=∀ (prog:vw) (A:xx) (E:qq->qv->Prop) (s:qv) (F:Fz) (n:Nat),Room n A->F.In s.heap->∀ {p:Prim} {x d:D} {f:Bool} {v:qq},Top w F s.heap x v->yn3 p x=some (d,f) ->
 zx (zQ prog w) A (call (yv8 p) [v]) (Grown w F s d f) E s
theorem ws8 (hin:F.In s.heap) {x:D} {l:List D} {v:qq} (hv:Top w F s.heap x v) (e:seqD x=some l):zx (zQ prog w) A (call (.type "list") [v]) (Grown w F s (.list l) true) E s:=by
 revert hv
 refine seqK e (fun hv=>?_) (fun hv=>?_)
 ·exact hv.listK hin fun hz a ob vs m h1 hcl hdt h2=>call_list_seq a (.inl rfl) h1 hcl hdt (fun h' c k hn=>⟨h',s.toks,rfl,k,_,rfl,zz7 _,hz,vs,c,hn,h2⟩) (xr1 h2 hz)
 ·exact hv.tupK hin fun hz a vs m _ h1 h2=>call_list_seq a (.inr rfl) h1 rfl rfl (fun h' c k hn=>⟨h',s.toks,rfl,k,_,rfl,zz7 _,hz,vs,c,hn,h2⟩) (xr1 h2 hz)
theorem xf5 (hin:F.In s.heap) {x:D} {l:List D} {v:qq} (hv:Top w F s.heap x v) (e:seqD x=some l):zx (zQ prog w) A (call (.type "tuple") [v]) (Grown w F s (.tuple l) false) E s:=by
 revert hv
 refine seqK e (fun hv=>?_) (fun hv=>?_)
 ·exact hv.listK hin fun hz a ob vs m h1 hcl hdt h2=>call_tuple_list ⟨_,h1,hcl,_,hdt⟩ (fun h' k=>Grown.from (s:=s) (h₁:=h') (tk₁:=s.toks) rfl k (Grown.tuple (s:={ s with heap:=h' }) (tk:=s.toks) (fun b o e=>k b o (hin b o e)) hz h2)) (xr1 h2 hz)
 ·exact hv.tupK hin fun hz a vs m hF h1 h2=>call_tuple_same ⟨_,h1,rfl,_,rfl⟩ (Grown.old (tk:=s.toks) hin (yc3 hz hF h2))
theorem len_ok (hin:F.In s.heap) {x:D} {r:D×Bool} {v:qq} (hv:Top w F s.heap x v) (e:lenD x=some r):zx (zQ prog w) A (call (.builtin "len") [v]) (Grown w F s r.1 r.2) E s:=by
 revert hv
 refine lenK e (fun l hv=>?_) (fun l hv=>?_)
 ·refine hv.listK hin fun hz a ob vs m h1 hcl hdt h2=>PyProof.Rows.len_list ⟨_,h1,hcl,_,hdt⟩ (wn9 h2 hz) ?_
  rw [show vs.size=l.length from h2.length]; exact zs4 hin
 ·refine hv.tupK hin fun hz a vs m _ h1 h2=>PyProof.Rows.len_tuple ⟨_,h1,rfl,_,rfl⟩ (wn9 h2 hz) ?_
  rw [show vs.size=l.length from h2.length]; exact zs4 hin
theorem xe8 (pr:yw1 w) (R:Room n A) (hin:F.In s.heap) {p:Prim} {x d:D} {f:Bool} {v:qq} (hv:Top w F s.heap x v) (e:zn7 p x=some (d,f)) :
  zx (zQ prog w) A (call (yv8 p) [v]) (Grown w F s d f) E s:=by
 cases p with
 | len=>exact len_ok hin hv e
 | sorted=>exact pr prog A E s F n R hin (p:=.sorted) hv e
 | tuple=>exact bK1 e fun l hl e=>sm2 e (xf5 hin hv hl)
 | list =>
  change orS ((seqD x).bind _) _=_ at e
  cases hl:seqD x with
  | none=>rw [hl] at e; exact pr prog A E s F n R hin (p:=.list) hv e
  | some l=>rw [hl] at e; exact sm2 e (ws8 hin hv hl)
 | int =>
  cases x with
  | bool c=>exact hv.boolK (sm2 e (call_int_bool (zs4 hin)))
  | _=>exact (noS e).elim
 | dict=>exact pr prog A E s F n R hin (p:=.dict) hv e
 | _=>exact (noS e).elim
noncomputable def bltTab:List (Str×qq):=[("len", .builtin "len"),("sorted", .builtin "sorted"),("min", .builtin "min"),("max", .builtin "max"),("isinstance", .builtin "isinstance"),("tuple", .type "tuple"),("list", .type "list"),("dict", .type "dict"),
 ("int", .type "int"),("bool", .type "bool"),("str", .type "str"),("range", .type "range"),("reversed", .type "reversed"),("zip", .type "zip"),("ValueError", .type "ValueError")]
noncomputable def yy6 (x:Str):Option qq:=bltTab.lookup x
theorem isi_int (hin:F.In s.heap) {d:D} {v:qq} (ha:Top w F s.heap d v):zx (zQ prog w) A (call (.builtin "isinstance") [v,.type "int"]) (SayV s (isI d)) E s:=by
 cases d with
 | none=>exact ha.noneK (IsiPair.NoneType_int say)
 | bool _=>exact ha.boolK (IsiPair.bool_int say)
 | int _=>exact ha.intK fun t=>(IsiPair.int_int say)
 | str _=>exact ha.strK fun t=>(IsiPair.str_int say)
 | list _=>exact ha.listK hin fun _ a ob _ _ h1 hcl _ _=>(IsiPair.list_int h1 hcl say)
 | tuple _=>exact ha.tupK hin fun _ a _ _ _ h1 _=>(IsiPair.tuple_int h1 rfl say)
 | dict _=>exact ha.dicK hin fun _ a _ _ h1 _ _=>(IsiPair.dict_int h1 rfl say)
theorem isi_bool (hin:F.In s.heap) {d:D} {v:qq} (ha:Top w F s.heap d v):zx (zQ prog w) A (call (.builtin "isinstance") [v,.type "bool"]) (SayV s (isB d)) E s:=by
 cases d with
 | none=>exact ha.noneK (IsiPair.NoneType_bool say)
 | bool _=>exact ha.boolK (IsiPair.bool_bool say)
 | int _=>exact ha.intK fun t=>(IsiPair.int_bool say)
 | str _=>exact ha.strK fun t=>(IsiPair.str_bool say)
 | list _=>exact ha.listK hin fun _ a ob _ _ h1 hcl _ _=>(IsiPair.list_bool h1 hcl say)
 | tuple _=>exact ha.tupK hin fun _ a _ _ _ h1 _=>(IsiPair.tuple_bool h1 rfl say)
 | dict _=>exact ha.dicK hin fun _ a _ _ h1 _ _=>(IsiPair.dict_bool h1 rfl say)
theorem isi_str (hin:F.In s.heap) {d:D} {v:qq} (ha:Top w F s.heap d v):zx (zQ prog w) A (call (.builtin "isinstance") [v,.type "str"]) (SayV s (isS d)) E s:=by
 cases d with
 | none=>exact ha.noneK (IsiPair.NoneType_str say)
 | bool _=>exact ha.boolK (IsiPair.bool_str say)
 | int _=>exact ha.intK fun t=>(IsiPair.int_str say)
 | str _=>exact ha.strK fun t=>(IsiPair.str_str say)
 | list _=>exact ha.listK hin fun _ a ob _ _ h1 hcl _ _=>(IsiPair.list_str h1 hcl say)
 | tuple _=>exact ha.tupK hin fun _ a _ _ _ h1 _=>(IsiPair.tuple_str h1 rfl say)
 | dict _=>exact ha.dicK hin fun _ a _ _ h1 _ _=>(IsiPair.dict_str h1 rfl say)
theorem isi_tuple (hin:F.In s.heap) {d:D} {v:qq} (ha:Top w F s.heap d v):zx (zQ prog w) A (call (.builtin "isinstance") [v,.type "tuple"]) (SayV s (isT d)) E s:=by
 cases d with
 | none=>exact ha.noneK (IsiPair.NoneType_tuple say)
 | bool _=>exact ha.boolK (IsiPair.bool_tuple say)
 | int _=>exact ha.intK fun t=>(IsiPair.int_tuple say)
 | str _=>exact ha.strK fun t=>(IsiPair.str_tuple say)
 | list _=>exact ha.listK hin fun _ a ob _ _ h1 hcl _ _=>(IsiPair.list_tuple h1 hcl say)
 | tuple _=>exact ha.tupK hin fun _ a _ _ _ h1 _=>(IsiPair.tuple_tuple h1 rfl say)
 | dict _=>exact ha.dicK hin fun _ a _ _ h1 _ _=>(IsiPair.dict_tuple h1 rfl say)
theorem isi_list (hin:F.In s.heap) {d:D} {v:qq} (ha:Top w F s.heap d v):zx (zQ prog w) A (call (.builtin "isinstance") [v,.type "list"]) (SayV s (isL d)) E s:=by
 cases d with
 | none=>exact ha.noneK (IsiPair.NoneType_list say)
 | bool _=>exact ha.boolK (IsiPair.bool_list say)
 | int _=>exact ha.intK fun t=>(IsiPair.int_list say)
 | str _=>exact ha.strK fun t=>(IsiPair.str_list say)
 | list _=>exact ha.listK hin fun _ a ob _ _ h1 hcl _ _=>(IsiPair.list_list h1 hcl say)
 | tuple _=>exact ha.tupK hin fun _ a _ _ _ h1 _=>(IsiPair.tuple_list h1 rfl say)
 | dict _=>exact ha.dicK hin fun _ a _ _ h1 _ _=>(IsiPair.dict_list h1 rfl say)
theorem xb2 (hin:F.In s.heap) {d:D} {v:qq} (ha:Top w F s.heap d v):zx (zQ prog w) A (call (.builtin "isinstance") [v,.type "dict"]) (SayV s (isK d)) E s:=by
 cases d with
 | none=>exact ha.noneK (IsiPair.NoneType_dict say)
 | bool _=>exact ha.boolK (IsiPair.bool_dict say)
 | int _=>exact ha.intK fun t=>(IsiPair.int_dict say)
 | str _=>exact ha.strK fun t=>(IsiPair.str_dict say)
 | list _=>exact ha.listK hin fun _ a ob _ _ h1 hcl _ _=>(IsiPair.list_dict h1 hcl say)
 | tuple _=>exact ha.tupK hin fun _ a _ _ _ h1 _=>(IsiPair.tuple_dict h1 rfl say)
 | dict _=>exact ha.dicK hin fun _ a _ _ h1 _ _=>(IsiPair.dict_dict h1 rfl say)
theorem isi_ok (hin:F.In s.heap) {d:D} {ty:Str} {v:qq} {b:Bool} (ha:Top w F s.heap d v) (e:isiD d ty=some b) :
  ∃ T,yy6 ty=some (.type T)/\zx (zQ prog w) A (call (.builtin "isinstance") [v,.type T]) (SayV s b) E s:=by
 have k:∀ {x:Str} {T:String} {c:Bool},yy6 x=some (.type T)->zx (zQ prog w) A (call (.builtin "isinstance") [v,.type T]) (SayV s c) E s->(ty==x)=true->some c=some b->∃ T,yy6 ty=some (.type T)/\zx (zQ prog w) A (call (.builtin "isinstance") [v,.type T]) (SayV s b) E s :=
  fun h1 h2 h3 h4=>⟨_,eq_of_beq h3▸h1,xW h4▸h2⟩
 exact iteS e (k rfl (isi_int hin ha)) fun e=>iteS e (k rfl (isi_bool hin ha)) fun e=>iteS e (k rfl (isi_str hin ha)) fun e =>
  iteS e (k rfl (isi_tuple hin ha)) fun e=>iteS e (k rfl (isi_list hin ha)) fun e=>iteS e (k rfl (xb2 hin ha)) fun e=>(noS e).elim
end
open PySem Mini
structure Step (C:Cx) (X:Addr->Prop) (P:List Place) (vs:List (Option qq)) (F:Fz) (s:qv) (σ:Sg) (F':Fz) (s':qv):Prop where
 eq:∃ h' tk,s'={ s with heap:=h',toks:=tk }
 le:F.le F'
 st:St C X F' s'.heap P vs σ
 same:XSame X s.heap s'.heap
noncomputable def OpndOk (w:wy) (F:Fz) (vs:List (Option qq)) (v:qq):Opnd->Prop
 | .slot k=>vs[k]?=some (some v)
 | .dat d=>Rep w F d v
inductive Post (C:Cx) (X:Addr->Prop) (P:List Place) (vs:List (Option qq)) (F:Fz) (s:qv) (σ:Sg) (d:D) (f:Bool) (v:qq) (s':qv):Prop
 | mk (F':Fz) (st:Step C X P vs F s σ F' s') (r:ResOk C.w X F' s'.heap P vs σ v d f)
inductive PostZ (C:Cx) (X:Addr->Prop) (P:List Place) (vs:List (Option qq)) (F:Fz) (s:qv) (σ:Sg) (d:D) (v:qq) (s':qv):Prop
 | mk (F':Fz) (st:Step C X P vs F s σ F' s') (r:Rep C.w F' d v)
inductive PostO (C:Cx) (X:Addr->Prop) (P:List Place) (vs:List (Option qq)) (F:Fz) (s:qv) (σ:Sg) (o:Opnd) (v:qq) (s':qv):Prop
 | mk (F':Fz) (st:Step C X P vs F s σ F' s') (r:OpndOk C.w F' vs v o)
inductive PostB (C:Cx) (X:Addr->Prop) (P:List Place) (vs:List (Option qq)) (F:Fz) (s:qv) (σ:Sg) (b:Bool) (r:Bool) (s':qv):Prop
 | mk (e:r=b) (F':Fz) (st:Step C X P vs F s σ F' s')
inductive PostL (C:Cx) (X:Addr->Prop) (P:List Place) (vs:List (Option qq)) (F:Fz) (s:qv) (σ:Sg) (ds:List D) (ws:List qq) (s':qv):Prop
 | mk (F':Fz) (st:Step C X P vs F s σ F' s') (r:RepL C.w F' ds ws)
inductive PostD (C:Cx) (X:Addr->Prop) (P:List Place) (vs:List (Option qq)) (F:Fz) (s:qv) (σ:Sg) (x y:D) (a b:qq) (s':qv):Prop
 | mk (F':Fz) (st:Step C X P vs F s σ F' s') (ta:Top C.w F' s'.heap x a) (tb:Top C.w F' s'.heap y b)
inductive PostU (C:Cx) (X:Addr->Prop) (P:List Place) (vs:List (Option qq)) (F:Fz) (s:qv) (σ:Sg) (x:D) (a:qq) (s':qv):Prop
 | mk (F':Fz) (st:Step C X P vs F s σ F' s') (ta:Top C.w F' s'.heap x a)
section
variable {C:Cx} {X:Addr->Prop} {P:List Place} {vs:List (Option qq)} {F F' F'':Fz} {s s' s'':qv} {σ σ' σ'':Sg}
theorem Step.trans (a:Step C X P vs F s σ' F' s') (b:Step C X P vs F' s' σ'' F'' s''):Step C X P vs F s σ'' F'' s'' where
 eq:=by
  (refine elEE (a.eq) fun h1 t1 e_2=>?_; subst e_2)
  (refine elEE (b.eq) fun h2 t2 e_2=>?_; subst e_2)
  exact ⟨h2,t2,rfl⟩
 le:=Fz.le.trans a.le b.le
 st:=b.st
 same:=XSame.trans a.same b.same
theorem Step.refl (S:St C X F s.heap P vs σ):Step C X P vs F s σ F s:=⟨⟨s.heap,s.toks,rfl⟩,Fz.le_refl F,S,XSame.refl⟩
theorem Step.toks (S:St C X F s.heap P vs σ) (tk:Nat):Step C X P vs F s σ F { s with toks:=tk }:=⟨⟨s.heap,tk,rfl⟩,Fz.le_refl F,S,XSame.refl⟩
theorem Step.then (a:Step C X P vs F s σ' F' s') {tk:Nat} (e:s''={ s' with toks:=tk }):Step C X P vs F s σ' F' s'':=by
 subst e; exact a.trans (Step.toks a.st tk)
theorem OpndOk.mono {w:wy} {v:qq} {o:Opnd} (l:F.le F') (x:OpndOk w F vs v o):OpndOk w F' vs v o:=by
 cases o with
 | slot k=>exact x
 | dat d=>exact Rep.mono l d x
theorem OpndOk.top {v:qq} {o:Opnd} {d:D} (S:St C X F s.heap P vs σ) (x:OpndOk C.w F vs v o) (e:res o σ=some d):Top C.w F s.heap d v:=by
 cases o with
 | slot k =>
  refine elEA (S.look e) fun v' h1 h2=>?_
  rw [show vs[k]?=_ from x] at h1; cases h1
  exact h2
 | dat d'=>cases e; exact .inl x
theorem Post.trans {d:D} {f:Bool} {v:qq} (a:Step C X P vs F s σ' F' s') (b:Post C X P vs F' s' σ'' d f v s''):Post C X P vs F s σ'' d f v s'':=by
 obtain ⟨G,st,r⟩:=b
 exact ⟨G,a.trans st,r⟩
theorem Post.freeze {d:D} {f:Bool} {v:qq} (x:Post C X P vs F s σ d f v s'):PostZ C X P vs F s σ d v s':=by
 obtain ⟨G,st,r⟩:=x
 refine elEAA (r.freeze st.st) fun G' l S' r'=>?_
 exact ⟨G',⟨st.eq,Fz.le.trans st.le l,S',st.same⟩,r'⟩
theorem Post.old {d:D} {v:qq} (a:Step C X P vs F s σ F' s') (r:Rep C.w F' d v):Post C X P vs F s σ d false v s':=⟨F',a,r⟩
theorem Grown.post {d:D} {f:Bool} {v:qq} (S:St C X F s.heap P vs σ) (g:Grown C.w F s d f v s'):Post C X P vs F s σ d f v s':=by
 (refine elEEAA (g) fun h' tk e_2 k r=>?_; subst e_2)
 cases f with
 | false =>
  (refine elEAAA (r) fun F' l i q r_n=>?_; clear r; revert r_n; intro r)
  exact ⟨F',⟨⟨h',tk,rfl⟩,l,S.grow k l i q,XSame.of_keep S.xal k⟩,r⟩
 | true =>
  (refine elEAA (r) fun a e_1 hn r_n=>?_; clear r; revert r_n; intro r; subst e_1)
  have hF:F a=none:=by
   cases e:F a with
   | none=>rfl
   | some o=>have:=S.sub a o e; rw [hn] at this; cases this
  refine ⟨F,⟨⟨h',tk,rfl⟩,Fz.le_refl F,S.grow0 k,XSame.of_keep S.xal k⟩,a,rfl,hF,fun e=>?_,fun p hp e=>?_,fun i ho=>?_,r⟩
  ·obtain ⟨o,ho⟩:=S.xal a e; rw [hn] at ho; cases ho
  ·obtain ⟨i,hi⟩:=uQ.mp hp
   refine elEA (S.placeAt hi) fun ov _ hh=>?_
   obtain ⟨o,ho⟩:=Place.has_there hh
   rw [<- e,hn] at ho; cases ho
  ·refine elAE (ho) fun h1 d' h2=>?_
   refine elEAA (S.slot i _ _ h1 h2) fun a' e' _ q=>?_
   cases e'
   obtain ⟨o,ho⟩:=q.there
   rw [hn] at ho; cases ho
end
inductive CallOk (C:Cx) (N:Nat) (g:Str) (ds:List D) (d:D) (f:Bool):Prop
 | mk (a:Addr) (o:Obj) (fd:FuncData) (h1:C.mg g=some (.ref a)) (h2:C.H.get? a=some o) (h3:o.data=.func fd)
  (h4:∀ (A:xx) (E:qq->qv->Prop) (s:qv) (F:Fz) (X:Addr->Prop) (ws:List qq),Room N A->St C X F s.heap [] [] []->RepL C.w F ds ws ->
   zx (zQ C.prog C.w) A (call (.ref a) ws) (Post C X [] [] F s [] d f) E s)
structure Ground (C:Cx) (Γ:Mini.Env) (N:Nat):Prop where
 di:DictIn C.w
 dg:ys8 C.w
 pr:yw1 C.w
 ns:C.H.Ns mainGlobals C.mg
 nb:C.H.Ns builtinsNs C.mb
 glob:∀ x d,Γ.glob x=some d->∃ v,C.mg x=some v/\Rep C.w C.F0 d v
 blt:∀ x v,yy6 x=some v->C.mg x=none/\C.mb x=some v
 call:∀ g ds d f,Γ.call g ds=some (d,f)->CallOk C N g ds d f
structure Cn (Γ:Mini.Env) (N:Nat) (env:w0) (sc:xj) (ν:Nu) (P:List Place) (n:Nat) (A:xx):Prop where
 O:EnvOk env sc ν P
 hn:n=P.length
 R:Room N A
section
variable (C:Cx) (Γ:Mini.Env) (N:Nat)
noncomputable def PE (i:I) (n:Nat) (sc:xj) (ν:Nu) (e:Expr):Prop:=∀ {env:w0} {P:List Place} {vs:List (Option qq)} {σ σ':Sg} {X:Addr->Prop} {F:Fz} {s:qv} {A:xx} {E:qq->qv->Prop} {d:D} {f:Bool},
 Cn Γ N env sc ν P n A->St C X F s.heap P vs σ->ev Γ i σ=some (d,f,σ')->zx (zQ C.prog C.w) A (eval e env) (Post C X P vs F s σ' d f) E s
noncomputable def PO (i:I) (n:Nat) (sc:xj) (ν:Nu) (e:Expr):Prop:=∀ {env:w0} {P:List Place} {vs:List (Option qq)} {σ σ':Sg} {X:Addr->Prop} {F:Fz} {s:qv} {A:xx} {E:qq->qv->Prop} {o:Opnd},
 Cn Γ N env sc ν P n A->St C X F s.heap P vs σ->opn i (ev Γ i) σ=some (o,σ')->zx (zQ C.prog C.w) A (eval e env) (PostO C X P vs F s σ' o) E s
noncomputable def PT (i:I) (n:Nat) (sc:xj) (ν:Nu) (e:Expr):Prop:=∀ {env:w0} {P:List Place} {vs:List (Option qq)} {σ σ':Sg} {X:Addr->Prop} {F:Fz} {s:qv} {A:xx} {E:qq->qv->Prop} {d:D} {b:Bool},
 Cn Γ N env sc ν P n A->St C X F s.heap P vs σ->uno i (ev Γ i) σ=some (d,σ')->zy2 d=some b->zx (zQ C.prog C.w) A (isTrue e env (eval e env)) (PostB C X P vs F s σ' b) E s
noncomputable def PES (i:I) (n:Nat) (sc:xj) (ν:Nu) (es:List Expr):Prop:=∀ {env:w0} {P:List Place} {vs:List (Option qq)} {σ σ':Sg} {X:Addr->Prop} {F:Fz} {s:qv} {A:xx} {E:qq->qv->Prop} {ds:List D} {pos:Pos},
 Cn Γ N env sc ν P n A->St C X F s.heap P vs σ->evs Γ i σ=some (ds,σ')->zx (zQ C.prog C.w) A (spliced (backTo pos (starEach es env))) (PostL C X P vs F s σ' ds) E s
noncomputable def PAnd (i:I) (n:Nat) (sc:xj) (ν:Nu) (es:List Expr):Prop:=∀ {env:w0} {P:List Place} {vs:List (Option qq)} {σ σ':Sg} {X:Addr->Prop} {F:Fz} {s:qv} {A:xx} {E:qq->qv->Prop} {d:D} {pos:Pos},
 Cn Γ N env sc ν P n A->St C X F s.heap P vs σ->yt6 Γ i σ=some (d,σ')->zx (zQ C.prog C.w) A (eval (.BoolOp .And es pos) env) (PostZ C X P vs F s σ' d) E s /\
  ∀ b whole,zy2 d=some b->zx (zQ C.prog C.w) A (isTrue (.BoolOp .And es pos) env whole) (PostB C X P vs F s σ' b) E s
noncomputable def POr (i:I) (n:Nat) (sc:xj) (ν:Nu) (es:List Expr):Prop:=∀ {env:w0} {P:List Place} {vs:List (Option qq)} {σ σ':Sg} {X:Addr->Prop} {F:Fz} {s:qv} {A:xx} {E:qq->qv->Prop} {d:D} {pos:Pos},
 Cn Γ N env sc ν P n A->St C X F s.heap P vs σ->evOr Γ i σ=some (d,σ')->zx (zQ C.prog C.w) A (eval (.BoolOp .Or es pos) env) (PostZ C X P vs F s σ' d) E s /\
  ∀ b whole,zy2 d=some b->zx (zQ C.prog C.w) A (isTrue (.BoolOp .Or es pos) env whole) (PostB C X P vs F s σ' b) E s
end
section
variable {C:Cx} {Γ:Mini.Env} {N:Nat} {n:Nat} {sc:xj} {ν:Nu} {env:w0} {P:List Place} {vs:List (Option qq)} {σ σ':Sg} {X:Addr->Prop} {F:Fz} {s:qv} {A:xx} {E:qq->qv->Prop}
theorem wy6 {i:I} (h:xz4 i=false) (e:Ev) (σ:Sg):opn i e σ=(e σ).bind fun p=>some (.dat p.1,p.2.2):=by
 unfold xz4 at h
 unfold opn
 cases hb:brwK i with
 | none=>rfl
 | some k=>rw [hb] at h; exact absurd h.symm qj
theorem PE.opnd {i:I} {e:Expr} (hb:xz4 i=false) (h:PE C Γ N i n sc ν e):PO C Γ N i n sc ν e:=by
 intro env P vs σ σ' X F s A E o K S hv
 rw [wy6 hb] at hv
 refine bK1 (hv) fun p he hv=>?_
 refine sm2 hv ?_
 exact wpM (h K S he) (fun v s' hp=>let ⟨G,st,r⟩:=hp.freeze; ⟨G,st,r⟩)
theorem PO.brw {k:Nat} {x:Str} {p:Pos} (hx:Sl ν k x):PO C Γ N (.brw k) n sc ν (.Name x p):=by
 intro env P vs σ σ' X F s A E o K S hv
 refine bK1 (hv) fun d hl hv=>?_
 refine sm2 hv ?_
 refine elEA (S.look hl) fun v h1 h2=>?_
 exact zl3 K.O S hx.at' h1 hx.ok ⟨F,Step.refl S,h1⟩
theorem PE.frozen {i:I} {e:Expr} (h:PE C Γ N i n sc ν e) {d:D} {f:Bool} (K:Cn Γ N env sc ν P n A) (S:St C X F s.heap P vs σ) (hv:ev Γ i σ=some (d,f,σ')) :
  zx (zQ C.prog C.w) A (eval e env) (PostZ C X P vs F s σ' d) E s :=
 wpM (h K S hv) (fun v s' hp=>hp.freeze)
theorem xt1 {i j:I} {l r:Expr} (hi:PO C Γ N i n sc ν l) (hj:PO C Γ N j n sc ν r) {x y:D}
  (K:Cn Γ N env sc ν P n A) (S:St C X F s.heap P vs σ) (hv:duo i (ev Γ i) j (ev Γ j) σ=some (x,y,σ')) :
  zx (zQ C.prog C.w) A (eval l env) (fun a s₁=>zx (zQ C.prog C.w) A (eval r env) (PostD C X P vs F s σ' x y a) E s₁) E s:=by
 refine bK2 (hv) fun o σ1 ho hv=>?_
 refine bK2 (hv) fun p σ2 hp hv=>?_
 refine bK1 (hv) fun a ha hv=>?_
 refine bK1 (hv) fun b hb hv=>?_
 refine sm3 hv ?_
 refine wpM (hi K S ho) (fun u s₁ q=>?_)
 obtain ⟨F1,st1,r1⟩:=q
 refine wpM (hj K st1.st hp) (fun v s₂ q=>?_)
 obtain ⟨F2,st2,r2⟩:=q
 exact ⟨F2,st1.trans st2,(r1.mono st2.le).top st2.st ha,r2.top st2.st hb⟩
theorem xy9 {i:I} {l:Expr} (hi:PO C Γ N i n sc ν l) {x:D} (K:Cn Γ N env sc ν P n A) (S:St C X F s.heap P vs σ) (hv:uno i (ev Γ i) σ=some (x,σ')) :
  zx (zQ C.prog C.w) A (eval l env) (PostU C X P vs F s σ' x) E s:=by
 refine bK2 (hv) fun o σ1 ho hv=>?_
 refine bK1 (hv) fun d hd hv=>?_
 refine sm2 hv ?_
 refine wpM (hi K S ho) (fun u s₁ q=>?_)
 obtain ⟨F1,st1,r1⟩:=q
 exact ⟨F1,st1,r1.top st1.st hd⟩
theorem yx6 {e:Expr} {op:CmpOp} (h:okE e=true):behindInMarks op e=false:=by
 cases e<;>first|rfl|(exact absurd h qj)
theorem zv9 {e:Expr} {rest:List Expr} (h:okE e=true):starEach (e::rest) env=(false,eval e env)::starEach rest env:=by
 cases e<;>first|rfl|(exact absurd h qj)
theorem PE.cnone {k:Nat} {p:Pos}:PE C Γ N .cnone n sc ν (.Constant .none k p):=by
 intro env P vs σ σ' X F s A E d f K S hv
 refine sm3 hv ?_
 exact PyProof.Rows.Constant_none (Post.old (Step.refl S) (rfl))
theorem PE.cbool {b:Bool} {k:Nat} {p:Pos}:PE C Γ N (.cbool b) n sc ν (.Constant (.bool b) k p):=by
 intro env P vs σ σ' X F s A E d f K S hv
 refine sm3 hv ?_
 exact PyProof.Rows.Constant_bool (Post.old (Step.refl S) (rfl))
theorem PE.cint {b:Int} {k:Nat} {p:Pos}:PE C Γ N (.cint b) n sc ν (.Constant (.int b) k p):=by
 intro env P vs σ σ' X F s A E d f K S hv
 refine sm3 hv ?_
 exact wpAny_Constant_int (Post.old (Step.toks S _) (by simp [zn1]))
theorem PE.cstr {b:Str} {k:Nat} {p:Pos}:PE C Γ N (.cstr b) n sc ν (.Constant (.str b) k p):=by
 intro env P vs σ σ' X F s A E d f K S hv
 refine sm3 hv ?_
 exact wpAny_Constant_str (Post.old (Step.toks S _) (by simp [zf4]))
theorem xo4 {k:Nat} {d:D} {f:Bool} (h:useS σ k=some (d,f,σ')):f=false/\((σ[k]?=some (some (.val d))/\σ'=σ)\/(σ[k]?=some (some (.own d))/\σ'=σ.set k (some (.val d)))):=by
 unfold useS at h
 generalize e:σ[k]?=o at h |-
 cases o with
 | none=>cases h
 | some o =>
  cases o with
  | none=>cases h
  | some a =>
   cases a with
   | val d=>refine sm3 h ?_; exact ⟨rfl,.inl ⟨rfl,rfl⟩⟩
   | own d=>refine sm3 h ?_; exact ⟨rfl,.inr ⟨rfl,rfl⟩⟩
theorem PE.var {k:Nat} {x:Str} {p:Pos} (hx:Sl ν k x):PE C Γ N (.var k) n sc ν (.Name x p):=by
 intro env P vs σ σ' X F s A E d f K S hv
 obtain ⟨rfl,⟨hs,rfl⟩|⟨hs,rfl⟩⟩:=xo4 hv
 ·have hlt:k<vs.length:=by rw [<- S.lenS]; exact (z6.mp hs).1
  refine elEA (S.slot k vs[k] _ (qJ hlt) hs) fun v e1 r=>?_
  exact zl3 K.O S hx.at' (by rw [qJ hlt,e1]) hx.ok (Post.old (Step.refl S) r)
 ·have hlt:k<vs.length:=by rw [<- S.lenS]; exact (z6.mp hs).1
  refine elEAA (S.slot k vs[k] _ (qJ hlt) hs) fun a e1 _ r=>?_
  have hv:vs[k]?=some (some (.ref a)):=by rw [qJ hlt,e1]
  refine elEAA (S.freezeSlot hv hs) fun o S' r' l=>?_
  exact zl3 K.O S hx.at' hv hx.ok ⟨_,⟨⟨s.heap,s.toks,rfl⟩,l,S',XSame.refl⟩,r'⟩
theorem Ground.big (G:Ground C Γ N) {h:Heap} (S:St C X F h P vs σ):uJ<h.objs.size:=by
 refine elEEEA (G.ns) fun o _ _ h1 _=>?_
 have:=wq (S.base _ _ h1)
 exact Q5 (by decide) this
theorem zm0 {x:Str} (h:zw4 sc ν x=true):sc.names.lookup x=some .globalImplicit/\zl2 x=true:=by
 unfold zw4 at h
 simp only [zj,beq_iff_eq] at h
 exact ⟨h.1.1,h.2⟩
theorem yb0 {h:Heap} {a:Addr} {m:Str->Option qq} (S:St C X F h P vs σ) (x:C.H.Ns a m):h.Ns a m:=by
 refine elEEEA (x) fun o es ep h1 h2=>?_
 exact ⟨o,es,ep,S.base _ _ h1,h2⟩
theorem yh9 (G:Ground C Γ N) (O:EnvOk env sc ν P) (S:St C X F s.heap P vs σ) {x:Str} {v:qq} {pos:Pos} (hg:zw4 sc ν x=true) (hv:C.mg x=some v) {Q:qq->qv->Prop} (h:Q v s) :
  zx (zQ C.prog C.w) A (eval (.Name x pos) env) Q E s :=
 Calls.Name_function_global O.kind (O.gl x (zm0 hg).1) (Calls.loadGlobal_global (by rw [O.glob]; exact yb0 S G.ns) hv h) (zi5 (zm0 hg).2)
theorem zg5 (G:Ground C Γ N) (O:EnvOk env sc ν P) (S:St C X F s.heap P vs σ) {x:Str} {v:qq} {pos:Pos} (hg:zw4 sc ν x=true) (hv:yy6 x=some v) {Q:qq->qv->Prop} (h:Q v s) :
  zx (zQ C.prog C.w) A (eval (.Name x pos) env) Q E s :=
 Calls.Name_function_global O.kind (O.gl x (zm0 hg).1) (Calls.loadGlobal_builtin (by rw [O.glob]; exact yb0 S G.ns) (G.blt x v hv).1 (by rw [O.blt]; exact yb0 S G.nb) (G.blt x v hv).2 h) (zi5 (zm0 hg).2)
theorem PE.glob (G:Ground C Γ N) {x:Str} {p:Pos} (hg:zw4 sc ν x=true):PE C Γ N (.glob x) n sc ν (.Name x p):=by
 intro env P vs σ σ' X F s A E d f K S hv
 refine bK1 (hv) fun d' hd hv=>?_
 refine sm3 hv ?_
 refine elEA (G.glob _ _ hd) fun v h1 h2=>?_
 exact yh9 G K.O S hg h1 (Post.old (Step.refl S) (Rep.mono S.low _ h2))
theorem PE.bin {op:Operator} {a b:I} {l r:Expr} {p:Pos} (ha:PO C Γ N a n sc ν l) (hb:PO C Γ N b n sc ν r):PE C Γ N (.bin op a b) n sc ν (.BinOp l op r p):=by
 intro env P vs σ σ' X F s A E d f K S hv
 refine bK3 (hv) fun x y σ1 hd hv=>?_
 refine bK2 (hv) fun d' f' hb' hv=>?_
 refine sm3 hv ?_
 refine wpAny_BinOp (wpM (xt1 ha hb K S hd) (fun u s₁ q=>wpM q (fun v s₂ q=>?_)))
 obtain ⟨F',st,ta,tb⟩:=q
 exact wpM (bin_ok st.st.sub ta tb hb') (fun v s₃ g=>Post.trans st (g.post st.st))
theorem PE.cmp (G:Ground C Γ N) {op:CmpOp} {a b:I} {l r:Expr} {p:Pos} (ha:PO C Γ N a n sc ν l) (hb:PO C Γ N b n sc ν r) (hr:okE r=true):PE C Γ N (.cmp op a b) n sc ν (.Compare l [op] [r] p):=by
 intro env P vs σ σ' X F s A E d f K S hv
 refine bK3 (hv) fun x y σ1 hd hv=>?_
 refine bK1 (hv) fun r' hb' hv=>?_
 refine sm3 hv ?_
 refine wpAny_Compare1 (wpM (xt1 ha hb K S hd) (fun u s₁ q=>wpM q (fun v s₂ q=>?_))) (yx6 hr)
 obtain ⟨F',st,ta,tb⟩:=q
 refine wpM (xt6 G.di K.R st.st.sub ta tb hb') (fun v s₃ g=>?_)
 (refine elAE (g) fun e_0 tk e=>?_; subst e_0)
 exact ⟨F',st.then e,rfl⟩
end
section
variable {C:Cx} {Γ:Mini.Env} {N:Nat} {n:Nat} {sc:xj} {ν:Nu} {env:w0} {P:List Place} {vs:List (Option qq)} {σ σ':Sg} {X:Addr->Prop} {F:Fz} {s:qv} {A:xx} {E:qq->qv->Prop}
theorem yw3 {i:I} (hb:xz4 i=false) {d:D}:uno i (ev Γ i) σ=some (d,σ')↔∃ f,ev Γ i σ=some (d,f,σ'):=by
 unfold uno
 rw [wy6 hb]
 constructor
 ·intro h
  refine bK1 (h) fun p h h2=>?_
  refine bK1 (h) fun q h3 h=>?_
  cases h
  cases h2
  exact ⟨q.2.1,h3⟩
 ·rintro ⟨f,h⟩
  rw [h]; rfl
theorem yt5 {i:I} {d:D} {f:Bool} (h:ev Γ i σ=some (d,f,σ')):uno i (ev Γ i) σ=some (d,σ'):=by
 refine (yw3 ?_).mpr ⟨f,h⟩
 cases i<;>first|rfl|exact (noS h).elim
theorem PT.plain {i:I} {e:Expr} (h:PO C Γ N i n sc ν e) (hp:∀ env whole,isTrue e env whole=(do let v <- whole; standAt e.pos; holding [v] (truthy v))):PT C Γ N i n sc ν e:=by
 intro env P vs σ σ' X F s A E d b K S hv ht
 refine PyProof.Rows.isTrue_plain (wpM (xy9 h K S hv) (fun u s₁ q=>?_)) (hp _ _)
 obtain ⟨F1,st,t⟩:=q
 refine wpM (zc0 st.st.sub t ht) (fun r s₂ q=>?_)
 (refine elAE (q) fun e_0 tk e=>?_; subst e_0)
 exact ⟨rfl,F1,st.then e⟩
theorem PE.not {a:I} {e:Expr} {p:Pos} (ha:PO C Γ N a n sc ν e):PE C Γ N (.not a) n sc ν (.UnaryOp .Not e p):=by
 intro env P vs σ σ' X F s A E d f K S hv
 refine bK2 (hv) fun x σ1 he hv=>?_
 refine bK1 (hv) fun b hb hv=>?_
 refine sm3 hv ?_
 refine PyProof.Rows.UnaryOp_ (wpM (xy9 ha K S he) (fun v s₁ q=>?_))
 obtain ⟨F1,st,t⟩:=q
 refine PyProof.Rows.not_of (wpM (zc0 st.st.sub t hb) (fun r s₂ q=>?_))
 (refine elAE (q) fun e_0 tk e=>?_; subst e_0)
 exact ⟨F1,st.then e,rfl⟩
theorem PT.not {a:I} {e:Expr} {p:Pos} (ha:PT C Γ N a n sc ν e):PT C Γ N (.not a) n sc ν (.UnaryOp .Not e p):=by
 intro env P vs σ σ' X F s A E d b K S hv ht
 obtain ⟨f,hv⟩:=(yw3 rfl).mp hv
 refine bK2 (hv) fun x σ1 he hv=>?_
 refine bK1 (hv) fun b hb hv=>?_
 cases hv
 cases ht
 refine PyProof.Rows.isTrue_not (wpM (ha K S he hb) (fun r s₂ q=>?_))
 obtain ⟨e,F1,st⟩:=q
 exact ⟨by rw [e],F1,st⟩
theorem yu7 {M:Model} {A:xx} {E:qq->qv->Prop} {s:qv} {env:w0} {l:Expr} {op:CmpOp} {r:Expr} {pos:Pos} {whole:Sem qq} {Q:Bool->qv->Prop}
  (h:zx M A (eval l env) (fun a s₁=>zx M A (eval r env) (fun b s₂=>zx M A (Zq op a b) (fun c s₃=>zx M A (truthy c) Q E s₃) E s₂) E s₁) E s)
  (hm:behindInMarks op r=false):zx M A (isTrue (.Compare l [op] [r] pos) env whole) Q E s:=by
 show zx M A (do testChain pos (<- eval l env) [op] (markedEach [op] [r] (evalEach [r] env))) Q E s
 rw [PyProof.Rows.markedEach_of_false _ _ _ (by simpa [lastMarks] using hm)]
 exact qz (wpM h (fun a s₁ h₁=>PyProof.Rows.test_last h₁))
theorem PT.cmp (G:Ground C Γ N) {op:CmpOp} {a b:I} {l r:Expr} {p:Pos} (ha:PO C Γ N a n sc ν l) (hb:PO C Γ N b n sc ν r) (hr:okE r=true):PT C Γ N (.cmp op a b) n sc ν (.Compare l [op] [r] p):=by
 intro env P vs σ σ' X F s A E d b K S hv ht
 obtain ⟨f,hv⟩:=(yw3 rfl).mp hv
 refine bK3 (hv) fun x y σ1 hd hv=>?_
 refine bK1 (hv) fun r' hb' hv=>?_
 cases hv
 cases ht
 refine yu7 (wpM (xt1 ha hb K S hd) (fun u s₁ q=>wpM q (fun v s₂ q=>?_))) (yx6 hr)
 obtain ⟨F',st,ta,tb⟩:=q
 refine wpM (xt6 G.di K.R st.st.sub ta tb hb') (fun v s₃ g=>?_)
 (refine elAE (g) fun e_0 tk e=>?_; subst e_0)
 exact Q8 ⟨rfl,F',st.then e⟩
theorem yf6 (G:Ground C Γ N) {o1 o2:CmpOp} {a b c:I} {l r1 r2:Expr} (ha:PE C Γ N a n sc ν l) (hb:PE C Γ N b n sc ν r1) (hc:PE C Γ N c n sc ν r2) {d:D} {f:Bool}
  (K:Cn Γ N env sc ν P n A) (S:St C X F s.heap P vs σ) (hv:ev Γ (.cmp2 o1 o2 a b c) σ=some (d,f,σ')) :
  ∃ t,d=.bool t/\f=false/\zx (zQ C.prog C.w) A (eval l env) (fun u s₁=>zx (zQ C.prog C.w) A (eval r1 env) (fun v s₂=>zx (zQ C.prog C.w) A (Zq o1 u v) (fun q s₃ =>
   (q=.bool false/\t=false/\∃ F',Step C X P vs F s σ' F' s₃) \/
   (q=.bool true/\zx (zQ C.prog C.w) A (eval r2 env) (fun x s₄=>zx (zQ C.prog C.w) A (Zq o2 v x) (fun q s₅=>q=.bool t/\∃ F',Step C X P vs F s σ' F' s₅) E s₄) E s₃)) E s₂) E s₁) E s:=by
 refine bK3 (hv) fun x fx σ1 e1 hv=>?_
 refine bK3 (hv) fun y fy σ2 e2 hv=>?_
 refine bK1 (hv) fun q hq hv=>?_
 have fin:∀ (T:qq->qq->qv->Prop),(∀ u v s₂ F2,Step C X P vs F s σ2 F2 s₂->Rep C.w F2 x u->Rep C.w F2 y v->∀ tk,T (.bool q) v { s₂ with toks:=tk }) ->
   zx (zQ C.prog C.w) A (eval l env) (fun u s₁=>zx (zQ C.prog C.w) A (eval r1 env) (fun v s₂=>zx (zQ C.prog C.w) A (Zq o1 u v) (fun c s₃=>T c v s₃) E s₂) E s₁) E s:=by
  intro T hT
  refine wpM (ha.frozen K S e1) (fun u s₁ p=>?_)
  obtain ⟨F1,st1,ru⟩:=p
  refine wpM (hb.frozen K st1.st e2) (fun v s₂ p=>?_)
  obtain ⟨F2,st2,rv⟩:=p
  have ru':=Rep.mono st2.le _ ru
  refine wpM (xt6 G.di K.R st2.st.sub (.inl ru') (.inl rv) hq) (fun c s₃ p=>?_)
  (refine elAE (p) fun e_0 tk e_2=>?_; subst e_0; subst e_2)
  exact hT u v s₂ F2 (st1.trans st2) ru' rv tk
 cases q with
 | true =>
  refine bK3 (hv) fun z fz σ3 e3 hv=>?_
  refine bK1 (hv) fun r hr hv=>?_
  refine sm3 hv ?_
  refine ⟨r,rfl,rfl,fin (fun c v s₃=>_) fun u v s₂ F2 st ru rv tk=>.inr ⟨rfl,?_⟩⟩
  have st':Step C X P vs F s σ2 F2 { s₂ with toks:=tk }:=st.then rfl
  refine wpM (hc.frozen K st'.st e3) (fun x s₄ p=>?_)
  obtain ⟨F3,st3,rx⟩:=p
  refine wpM (xt6 G.di K.R st3.st.sub (.inl (Rep.mono st3.le _ rv)) (.inl rx) hr) (fun c s₅ p=>?_)
  (refine elAE (p) fun e_0 tk' e=>?_; subst e_0)
  exact ⟨rfl,F3,(st'.trans st3).then e⟩
 | false =>
  refine sm3 hv ?_
  exact ⟨false,rfl,rfl,fin (fun c v s₃=>_) fun u v s₂ F2 st ru rv tk=>.inl ⟨rfl,rfl,F2,st.then rfl⟩⟩
theorem PE.cmp2 (G:Ground C Γ N) {o1 o2:CmpOp} {a b c:I} {l r1 r2:Expr} {p:Pos} (ha:PE C Γ N a n sc ν l) (hb:PE C Γ N b n sc ν r1) (hc:PE C Γ N c n sc ν r2) (h2:okE r2=true):PE C Γ N (.cmp2 o1 o2 a b c) n sc ν (.Compare l [o1,o2] [r1,r2] p):=by
 intro env P vs σ σ' X F s A E d f K S hv
 (refine elEAA (yf6 (E:=E) G ha hb hc K S hv) fun t e_1 e_2 hw=>?_; subst e_1; subst e_2)
 refine PyProof.Rows.Compare_chain (wpM hw (fun u s₁ q=>PyProof.Rows.chain_link (wpM q (fun v s₂ q=>wpM q (fun c s₃ q=>?_))))) (by simpa [lastMarks] using yx6 h2)
 rcases q with ⟨rfl,rfl,F',st⟩|⟨rfl,q⟩
 ·exact Q8 ⟨F',st,rfl⟩
 ·refine Q8 (PyProof.Rows.chain_last (wpM q (fun x s₄ q=>wpM q (fun c s₅ q=>?_))))
  (refine elAE (q) fun e_0 F' st=>?_; subst e_0)
  exact ⟨F',st,rfl⟩
theorem PT.cmp2 (G:Ground C Γ N) {o1 o2:CmpOp} {a b c:I} {l r1 r2:Expr} {p:Pos} (ha:PE C Γ N a n sc ν l) (hb:PE C Γ N b n sc ν r1) (hc:PE C Γ N c n sc ν r2) (h2:okE r2=true):PT C Γ N (.cmp2 o1 o2 a b c) n sc ν (.Compare l [o1,o2] [r1,r2] p):=by
 intro env P vs σ σ' X F s A E d bb K S hv ht
 obtain ⟨f,hv⟩:=(yw3 rfl).mp hv
 (refine elEAA (yf6 (E:=E) G ha hb hc K S hv) fun t e_1 e_2 hw=>?_; subst e_1; subst e_2)
 cases ht
 refine PyProof.Rows.isTrue_chain (wpM hw (fun u s₁ q=>PyProof.Rows.test_link (wpM q (fun v s₂ q=>wpM q (fun c s₃ q=>?_))))) (by simpa [lastMarks] using yx6 h2)
 rcases q with ⟨rfl,rfl,F',st⟩|⟨rfl,q⟩
 ·exact Q8 ⟨rfl,F',st⟩
 ·refine Q8 (PyProof.Rows.test_last (wpM q (fun x s₄ q=>wpM q (fun c s₅ q=>?_))))
  (refine elAE (q) fun e_0 F' st=>?_; subst e_0)
  exact Q8 ⟨rfl,F',st⟩
theorem PostB.trans {X:Addr->Prop} {P:List Place} {vs:List (Option qq)} {F F':Fz} {s s' s'':qv} {σ' σ'':Sg} {b r:Bool} (a:Step C X P vs F s σ' F' s') (q:PostB C X P vs F' s' σ'' b r s''):PostB C X P vs F s σ'' b r s'' :=
 let ⟨e,F2,st2⟩:=q; ⟨e,F2,a.trans st2⟩
theorem PostZ.trans {X:Addr->Prop} {P:List Place} {vs:List (Option qq)} {F F':Fz} {s s' s'':qv} {σ' σ'':Sg} {d:D} {v:qq} (a:Step C X P vs F s σ' F' s') (q:PostZ C X P vs F' s' σ'' d v s''):PostZ C X P vs F s σ'' d v s'' :=
 let ⟨F2,st2,r⟩:=q; ⟨F2,a.trans st2,r⟩
theorem PE.ite {c a b:I} {q x y:Expr} {p:Pos} (hc:PT C Γ N c n sc ν q) (ha:PE C Γ N a n sc ν x) (hb:PE C Γ N b n sc ν y):PE C Γ N (.ite c a b) n sc ν (.IfExp q x y p):=by
 intro env P vs σ σ' X F s A E d f K S hv
 refine bK2 (hv) fun d' σ1 he hv=>?_
 refine bK1 (hv) fun r hb' hv=>?_
 refine PyProof.Rows.IfExp_ (wpM (hc K S he hb') (fun r' s₁ q=>?_))
 obtain ⟨rfl,F1,st⟩:=q
 cases r'
 ·exact wpM (hb K st.st hv) (fun v s₂ q=>Post.trans st q)
 ·exact wpM (ha K st.st hv) (fun v s₂ q=>Post.trans st q)
theorem PT.ite {c a b:I} {q x y:Expr} {p:Pos} (hc:PT C Γ N c n sc ν q) (ha:PT C Γ N a n sc ν x) (hb:PT C Γ N b n sc ν y):PT C Γ N (.ite c a b) n sc ν (.IfExp q x y p):=by
 intro env P vs σ σ' X F s A E d bb K S hv ht
 obtain ⟨f,hv⟩:=(yw3 rfl).mp hv
 refine bK2 (hv) fun d' σ1 he hv=>?_
 refine bK1 (hv) fun r hb' hv=>?_
 refine PyProof.Rows.isTrue_IfExp (wpM (hc K S he hb') (fun r' s₁ q=>?_))
 obtain ⟨rfl,F1,st⟩:=q
 cases r'
 ·exact wpM (hb K st.st (yt5 hv) ht) (fun v s₂ q=>q.trans st)
 ·exact wpM (ha K st.st (yt5 hv) ht) (fun v s₂ q=>q.trans st)
theorem PAnd.last {a:I} {e:Expr} (ha:PE C Γ N a n sc ν e) (ta:PT C Γ N a n sc ν e):PAnd C Γ N (.cons a .nil) n sc ν [e]:=by
 intro env P vs σ σ' X F s A E d pos K S hv
 refine bK3 (hv) fun d' f σ1 he hv=>?_
 refine sm2 hv ?_
 refine ⟨PyProof.Rows.BoolOp_one (ha.frozen K S he),fun b whole hb2=>?_⟩
 refine PyProof.Rows.isTrue_and (wpM (ta K S (yt5 he) hb2) (fun c s₁ q=>?_))
 obtain ⟨rfl,F1,st⟩:=q
 cases c
 ·exact ⟨rfl,F1,st⟩
 ·exact PyProof.Rows.isTrue_and_nil ⟨rfl,F1,st⟩
theorem PAnd.more {a a2 r2:I} {e e2:Expr} {es:List Expr} (ha:PE C Γ N a n sc ν e) (ta:PT C Γ N a n sc ν e) (hr:PAnd C Γ N (.cons a2 r2) n sc ν (e2::es)):PAnd C Γ N (.cons a (.cons a2 r2)) n sc ν (e::e2::es):=by
 intro env P vs σ σ' X F s A E d pos K S hv
 refine bK3 (hv) fun d' f σ1 he hv=>?_
 refine bK1 (hv) fun c0 hc0 hv=>?_
 have hu:=yt5 he
 refine ⟨PyProof.Rows.BoolOp_and (wpM (ha.frozen K S he) (fun v s₁ q=>?_)),fun b whole hb2=>?_⟩
 ·obtain ⟨F1,st,r⟩:=q
  refine wpM (zc0 st.st.sub (.inl r) hc0) (fun c s₂ q=>?_)
  (refine elAE (q) fun e_0 tk e=>?_; subst e_0)
  have st':=st.then e
  cases c with
  | true=>exact k5 (hr K st'.st hv).1 (fun v s₃ q=>q.trans st') fun _ _ x=>x
  | false=>cases hv; exact ⟨F1,st',r⟩
 ·refine PyProof.Rows.isTrue_and (wpM (ta K S hu hc0) (fun c s₁ q=>?_))
  obtain ⟨rfl,F1,st⟩:=q
  cases c with
  | true=>exact wpM ((hr K st.st hv).2 b whole hb2) (fun v s₃ q=>q.trans st)
  | false=>cases hv; rw [hc0] at hb2; cases hb2; exact ⟨rfl,F1,st⟩
theorem POr.last {a:I} {e:Expr} (ha:PE C Γ N a n sc ν e) (ta:PT C Γ N a n sc ν e):POr C Γ N (.cons a .nil) n sc ν [e]:=by
 intro env P vs σ σ' X F s A E d pos K S hv
 refine bK3 (hv) fun d' f σ1 he hv=>?_
 refine sm2 hv ?_
 refine ⟨PyProof.Rows.BoolOp_one (ha.frozen K S he),fun b whole hb2=>?_⟩
 refine PyProof.Rows.isTrue_or (wpM (ta K S (yt5 he) hb2) (fun c s₁ q=>?_))
 obtain ⟨rfl,F1,st⟩:=q
 cases c
 ·exact PyProof.Rows.isTrue_or_nil ⟨rfl,F1,st⟩
 ·exact ⟨rfl,F1,st⟩
theorem POr.more {a a2 r2:I} {e e2:Expr} {es:List Expr} (ha:PE C Γ N a n sc ν e) (ta:PT C Γ N a n sc ν e) (hr:POr C Γ N (.cons a2 r2) n sc ν (e2::es)):POr C Γ N (.cons a (.cons a2 r2)) n sc ν (e::e2::es):=by
 intro env P vs σ σ' X F s A E d pos K S hv
 refine bK3 (hv) fun d' f σ1 he hv=>?_
 refine bK1 (hv) fun c0 hc0 hv=>?_
 have hu:=yt5 he
 refine ⟨PyProof.Rows.BoolOp_or (wpM (ha.frozen K S he) (fun v s₁ q=>?_)),fun b whole hb2=>?_⟩
 ·obtain ⟨F1,st,r⟩:=q
  refine wpM (zc0 st.st.sub (.inl r) hc0) (fun c s₂ q=>?_)
  (refine elAE (q) fun e_0 tk e=>?_; subst e_0)
  have st':=st.then e
  cases c with
  | false=>exact k5 (hr K st'.st hv).1 (fun v s₃ q=>q.trans st') fun _ _ x=>x
  | true=>cases hv; exact ⟨F1,st',r⟩
 ·refine PyProof.Rows.isTrue_or (wpM (ta K S hu hc0) (fun c s₁ q=>?_))
  obtain ⟨rfl,F1,st⟩:=q
  cases c with
  | false=>exact wpM ((hr K st.st hv).2 b whole hb2) (fun v s₃ q=>q.trans st)
  | true=>cases hv; rw [hc0] at hb2; cases hb2; exact ⟨rfl,F1,st⟩
theorem PE.and {l:I} {es:List Expr} {p:Pos} (h:PAnd C Γ N l n sc ν es):PE C Γ N (.and l) n sc ν (.BoolOp .And es p):=by
 intro env P vs σ σ' X F s A E d f K S hv
 refine bK2 (hv) fun d' σ1 he hv=>?_
 refine sm3 hv ?_
 exact k5 (h K S he).1 (fun v s₁ q=>let ⟨F1,st,r⟩:=q; ⟨F1,st,r⟩) fun _ _ x=>x
theorem PT.and {l:I} {es:List Expr} {p:Pos} (h:PAnd C Γ N l n sc ν es):PT C Γ N (.and l) n sc ν (.BoolOp .And es p):=by
 intro env P vs σ σ' X F s A E d b K S hv ht
 obtain ⟨f,hv⟩:=(yw3 rfl).mp hv
 refine bK2 (hv) fun d' σ1 he hv=>?_
 cases hv
 exact (h K S he).2 _ _ ht
theorem PE.or {l:I} {es:List Expr} {p:Pos} (h:POr C Γ N l n sc ν es):PE C Γ N (.or l) n sc ν (.BoolOp .Or es p):=by
 intro env P vs σ σ' X F s A E d f K S hv
 refine bK2 (hv) fun d' σ1 he hv=>?_
 refine sm3 hv ?_
 exact k5 (h K S he).1 (fun v s₁ q=>let ⟨F1,st,r⟩:=q; ⟨F1,st,r⟩) fun _ _ x=>x
theorem PT.or {l:I} {es:List Expr} {p:Pos} (h:POr C Γ N l n sc ν es):PT C Γ N (.or l) n sc ν (.BoolOp .Or es p):=by
 intro env P vs σ σ' X F s A E d b K S hv ht
 obtain ⟨f,hv⟩:=(yw3 rfl).mp hv
 refine bK2 (hv) fun d' σ1 he hv=>?_
 cases hv
 exact (h K S he).2 _ _ ht
theorem PES.nil:PES C Γ N .nil n sc ν []:=by
 intro env P vs σ σ' X F s A E ds pos K S hv
 cases hv
 exact yy ⟨F,Step.refl S,RepL.nil_⟩
theorem PES.cons {a r:I} {e:Expr} {es:List Expr} (ha:PE C Γ N a n sc ν e) (h0:okE e=true) (hr:PES C Γ N r n sc ν es):PES C Γ N (.cons a r) n sc ν (e::es):=by
 intro env P vs σ σ' X F s A E ds pos K S hv
 refine bK3 (hv) fun d f σ1 he hv=>?_
 refine bK2 (hv) fun ds' σ2 hes hv=>?_
 refine sm2 hv ?_
 refine j3 (wpM (ha.frozen K S he) (fun v s₁ q=>?_)) (zv9 h0)
 obtain ⟨F1,st,r⟩:=q
 refine wpM (hr K st.st hes) (fun vs s₂ q=>?_)
 obtain ⟨F2,st2,r2⟩:=q
 exact ⟨F2,st.trans st2,RepL.cons_ (Rep.mono st2.le _ r) r2⟩
theorem PE.tup {l:I} {es:List Expr} {q:Nat} {p:Pos} (h:PES C Γ N l n sc ν es):PE C Γ N (.tup l) n sc ν (.Tuple es q p):=by
 intro env P vs σ σ' X F s A E d f K S hv
 refine bK2 (hv) fun ds σ1 he hv=>?_
 refine bK2 (hv) fun d' f' hm hv=>?_
 refine sm3 hv ?_
 obtain ⟨hz,hm⟩:=ifS hm
 cases hm
 refine wpAny_Tuple (wpM (h K S he) (fun ws s₁ q=>?_))
 obtain ⟨F1,st,r⟩:=q
 refine ⟨by rw [r.length,ze3]; exact hz,?_⟩
 exact Post.trans st ((Grown.tuple (tk:=s₁.toks) st.st.sub hz (by simpa using r)).post st.st)
theorem PE.lst {l:I} {es:List Expr} {p:Pos} (h:PES C Γ N l n sc ν es):PE C Γ N (.lst l) n sc ν (.List es p):=by
 intro env P vs σ σ' X F s A E d f K S hv
 refine bK2 (hv) fun ds σ1 he hv=>?_
 refine bK2 (hv) fun d' f' hm hv=>?_
 refine sm3 hv ?_
 obtain ⟨hz,hm⟩:=ifS hm
 cases hm
 refine wpAny_List (wpM (h K S he) (fun ws s₁ q=>?_))
 obtain ⟨F1,st,r⟩:=q
 refine ⟨by rw [r.length,ze3]; exact hz,?_⟩
 exact Post.trans st ((Grown.list (tk:=s₁.toks) hz (by simpa using r)).post st.st)
theorem PE.dct0 (G:Ground C Γ N) {p:Pos}:PE C Γ N .dct0 n sc ν (.Dict [] [] p):=by
 intro env P vs σ σ' X F s A E d f K S hv
 refine sm3 hv ?_
 exact wpAny_Dict_empty ((Grown.dict (tk:=s.toks) (xs:=[]) ⟨wx _,Qz⟩ (rfl) (G.big S)).post S)
theorem Post.back {X:Addr->Prop} {P:List Place} {vs:List (Option qq)} {F:Fz} {s s':qv} {σ:Sg} {d:D} {f:Bool} {v:qq} (S:St C X F s.heap P vs σ) (q:Post C (Hold F s.heap) [] [] F s [] d f v s'):Post C X P vs F s σ d f v s':=by
 obtain ⟨F',st,r⟩:=q
 exact ⟨F',⟨st.eq,st.le,S.back st.st st.le st.same,XSame.back S st.same⟩,ResOk.back S r⟩
theorem PE.call (G:Ground C Γ N) {g:Str} {l:I} {e:Expr} {es:List Expr} {px p:Pos} (hg:zw4 sc ν g=true) (h:PES C Γ N l n sc ν (e::es)) (h0:okE e=true):PE C Γ N (.call g l) n sc ν (.Call (.Name g px) (e::es) [] p):=by
 intro env P vs σ σ' X F s A E d f K S hv
 refine bK2 (hv) fun ds σ1 he hv=>?_
 refine bK2 (hv) fun d' f' hc hv=>?_
 refine sm3 hv ?_
 obtain ⟨a,o,fd,h1,h2,h3,h4⟩:=G.call _ _ _ _ hc
 refine Q6 (yh9 G K.O S hg h1 ?_)
 refine PyProof.Rows.callWith_def (o:=o) (fd:=fd) h3 (wpM (h K S he) (fun ws s₁ q=>?_)) (zv9 h0)
 obtain ⟨F1,st,r⟩:=q
 refine ⟨st.st.base _ _ h2,wpM (h4 A E s₁ F1 _ ws K.R st.st.bare r) (fun v s₂ q=>?_)⟩
 exact Post.trans st (Post.back st.st q)
theorem wl4 {r:Expr} (h:okE r=true) (o i:qq):subscripted r false o i=operate [o,i] (getItem o i):=by
 cases r<;>first|rfl|(exact absurd h qj)
theorem PE.idx (G:Ground C Γ N) {a i:I} {l r:Expr} {p:Pos} (ha:PO C Γ N a n sc ν l) (hi:PO C Γ N i n sc ν r) (h0:okE r=true):PE C Γ N (.idx a i) n sc ν (.Subscript l r p):=by
 intro env P vs σ σ' X F s A E d f K S hv
 refine bK3 (hv) fun x y σ1 hd hv=>?_
 refine bK1 (hv) fun d' hb' hv=>?_
 refine sm3 hv ?_
 refine PyProof.Rows.Subscript_ (wpM (xt1 ha hi K S hd) (fun u s₁ q=>wpM q (fun v s₂ q=>?_)))
 obtain ⟨F',st,ta,tb⟩:=q
 refine wpM (xs6 G.dg K.R st.st.sub ta tb hb' (wl4 h0)) (fun v s₃ g=>?_)
 refine elAE (g) fun r tk e=>?_
 exact ⟨F',st.then e,r⟩
end
section
variable {C:Cx} {Γ:Mini.Env} {N:Nat} {n:Nat} {sc:xj} {ν:Nu} {env:w0} {P:List Place} {vs:List (Option qq)} {σ σ':Sg} {X:Addr->Prop} {F:Fz} {s:qv} {A:xx} {E:qq->qv->Prop}
theorem yj9 (p:Prim):yy6 p.name=some (yv8 p):=by cases p<;>decide
theorem yl5 {A:xx} {E:qq->qv->Prop} {s:qv} {env:w0} {pos:Pos} {p:Prim} {e:Expr} {rest:List Expr} {Q:qq->qv->Prop}
  (h:zx (zQ C.prog C.w) A (spliced (backTo pos (starEach (e::rest) env))) (fun vs s₁=>zx (zQ C.prog C.w) A (call (yv8 p) vs) Q E s₁) E s)
  (he:starEach (e::rest) env=(false,eval e env)::starEach rest env) (hplain:(backTo pos (starEach rest env)).any (·.1)=false) :
  zx (zQ C.prog C.w) A (callWith pos (yv8 p) [] (backTo pos (starEach (e::rest) env)) []) Q E s:=by
 cases p with
 | len=>exact kZ (id := "len") h he hplain
 | sorted=>exact kZ (id := "sorted") h he hplain
 | min=>exact kZ (id := "min") h he hplain
 | max=>exact kZ (id := "max") h he hplain
 | tuple=>exact j8 (T := "tuple") h he hplain
 | list=>exact j8 (T := "list") h he hplain
 | dict=>exact j8 (T := "dict") h he hplain
 | int=>exact j8 (T := "int") h he hplain
theorem PE.prim1 (G:Ground C Γ N) {q:Prim} {a:I} {e:Expr} {px p:Pos} (hg:zw4 sc ν q.name=true) (ha:PO C Γ N a n sc ν e) (h0:okE e=true):PE C Γ N (.prim1 q a) n sc ν (.Call (.Name q.name px) [e] [] p):=by
 intro env P vs σ σ' X F s A E d f K S hv
 refine bK2 (hv) fun x σ1 hx hv=>?_
 refine bK2 (hv) fun d' f' hp hv=>?_
 refine sm3 hv ?_
 refine Q6 (zg5 G K.O S hg (yj9 q) ?_)
 refine yl5 (j3 (wpM (xy9 ha K S hx) (fun v s₁ q=>yy ?_)) (zv9 h0)) (zv9 h0) rfl
 obtain ⟨F1,st,t⟩:=q
 exact wpM (xe8 G.pr K.R st.st.sub t hp) (fun v s₂ g=>Post.trans st (g.post st.st))
theorem PE.isi (G:Ground C Γ N) {a:I} {ty:Str} {e:Expr} {px py p:Pos} (hg:zw4 sc ν "isinstance" = true) (ha:PO C Γ N a n sc ν e) (h0:okE e=true) (hg':zw4 sc ν ty=true):PE C Γ N (.isi a ty) n sc ν (.Call (.Name "isinstance" px) [e,.Name ty py] [] p):=by
 intro env P vs σ σ' X F s A E d f K S hv
 refine bK2 (hv) fun x σ1 he hv=>?_
 refine bK1 (hv) fun b hb hv=>?_
 refine sm3 hv ?_
 refine Q6 (zg5 (v:=.builtin "isinstance") G K.O S hg (by decide) ?_)
 refine kZ (j3 (wpM (xy9 ha K S he) (fun v s₁ q=>j3 ?_ (by rfl))) (zv9 h0)) (zv9 h0) (by rfl)
 obtain ⟨F1,st,t⟩:=q
 refine elEA (isi_ok (prog:=C.prog) (A:=A) (E:=E) st.st.sub t hb) fun T hT hw=>?_
 refine zg5 G K.O st.st hg' hT (yy (wpM hw (fun r s₂ q=>?_)))
 (refine elAE (q) fun e_0 tk e=>?_; subst e_0)
 exact ⟨F1,st.then e,rfl⟩
inductive PostI (C:Cx) (X:Addr->Prop) (P:List Place) (vs:List (Option qq)) (F:Fz) (s:qv) (σ:Sg) (b:Option Int) (v:qq) (s':qv):Prop
 | mk (p:IsPart v b) (F':Fz) (st:Step C X P vs F s σ F' s')
noncomputable def PB (C:Cx) (Γ:Mini.Env) (N:Nat) (i:I) (n:Nat) (sc:xj) (ν:Nu) (oe:Option Expr):Prop:=∀ {env:w0} {P:List Place} {vs:List (Option qq)} {σ σ':Sg} {X:Addr->Prop} {F:Fz} {s:qv} {A:xx} {E:qq->qv->Prop} {b:Option Int},
 Cn Γ N env sc ν P n A->St C X F s.heap P vs σ->bndE i (ev Γ i) σ=some (b,σ')->zx (zQ C.prog C.w) A (valueOrNone (evalOpt oe env)) (PostI C X P vs F s σ' b) E s
theorem PB.none:PB C Γ N .omit n sc ν none:=by
 intro env P vs σ σ' X F s A E b K S hv
 cases hv
 exact z8 ⟨.none,F,Step.refl S⟩
theorem wp6 {i:I} (h:zf8 i=false) (e:Ev) (σ:Sg):bndE i e σ=(e σ).bind fun p=>(bndD p.1).bind fun j=>some (some j,p.2.2):=by
 unfold bndE; rw [h]; rfl
theorem xg0 {d:D} {j:Int} (h:bndD d=some j):d=.int j:=by
 cases d<;>first|(exact (noS h).elim)|(obtain ⟨_,rfl⟩:=ifS h; rfl)
theorem PB.some {i:I} {e:Expr} (h0:zf8 i=false) (h:PE C Γ N i n sc ν e):PB C Γ N i n sc ν (some e):=by
 intro env P vs σ σ' X F s A E b K S hv
 rw [wp6 h0] at hv
 refine bK3 (hv) fun d f σ1 he hv=>?_
 refine bK1 (hv) fun j hj hv=>?_
 refine sm2 hv ?_
 obtain rfl:=xg0 hj
 refine wpM (h.frozen K S he) (fun v s₁ q=>?_)
 obtain ⟨F1,st,r⟩:=q
 simp only [zn1] at r
 obtain ⟨t,rfl⟩:=r
 exact ⟨.int _ _,F1,st⟩
theorem PE.slc {a lo hi:I} {v:Expr} {l h:Option Expr} {p p':Pos} (ha:PO C Γ N a n sc ν v) (hlo:PB C Γ N lo n sc ν l) (hhi:PB C Γ N hi n sc ν h):PE C Γ N (.slc a lo hi) n sc ν (.Subscript v (.Slice l h none p') p):=by
 intro env P vs σ σ' X F s A E d f K S hv
 refine bK2 (hv) fun o σ1 ho hv=>?_
 refine bK2 (hv) fun bl σ2 hl hv=>?_
 refine bK2 (hv) fun bh σ3 hh hv=>?_
 refine bK1 (hv) fun dd hd hv=>?_
 refine bK2 (hv) fun r f' hr hv=>?_
 refine sm3 hv ?_
 refine PyProof.Rows.Subscript_ (wpM (ha K S ho) (fun v s₁ q=>?_))
 obtain ⟨F1,st1,r1⟩:=q
 rw [arm_eval_Slice]
 refine qz (wpM (hlo K st1.st hl) (fun vl s₂ q=>?_))
 obtain ⟨pl,F2,st2⟩:=q
 refine qz (Z2 (wpM (hhi K st2.st hh) (fun vu s₃ q=>?_)))
 obtain ⟨pu,F3,st3⟩:=q
 refine qz (Z2 (z8 ?_))
 have stt:=(st1.trans st2).trans st3
 have t:=((r1.mono st2.le).mono st3.le).top st3.st hd
 exact wpM (xr0 st3.st.sub t pl pu hr) (fun i s₄ q=>wpM q (fun v s₅ g=>Post.trans stt (g.post st3.st)))
theorem zi3 {σ:Sg} {k:Nat} {l:List D} (h:ownL σ k=some l):σ[k]?=some (some (.own (.list l))):=by
 unfold ownL at h
 generalize σ[k]?=o at h |-
 cases o with
 | none=>cases h
 | some o =>
  cases o with
  | none=>cases h
  | some a =>
   cases a with
   | val d=>cases h
   | own d=>cases d<;>first|(cases h; done)|(cases h; rfl)
theorem xm8 {σ:Sg} {k:Nat} {l:List (D×D)} (h:ownD σ k=some l):σ[k]?=some (some (.own (.dict l))):=by
 unfold ownD at h
 generalize σ[k]?=o at h |-
 cases o with
 | none=>cases h
 | some o =>
  cases o with
  | none=>cases h
  | some a =>
   cases a with
   | val d=>cases h
   | own d=>cases d<;>first|(cases h; done)|(cases h; rfl)
inductive OwnAt (C:Cx) (X:Addr->Prop) (F:Fz) (h:Heap) (vs:List (Option qq)) (k:Nat) (d:D):Prop
 | mk (a:Addr) (hv:vs[k]?=some (some (.ref a))) (hf:F a=none) (r:Shal C.w F h d a) (hH:C.H.get? a=none) (hX:¬ X a)
section
theorem St.own_at (S:St C X F s.heap P vs σ) {k:Nat} {d:D} (h:σ[k]?=some (some (.own d))):OwnAt C X F s.heap vs k d:=by
 have hlt:k<vs.length:=by rw [<- S.lenS]; exact (z6.mp h).1
 refine elEAA (S.slot k vs[k] _ (qJ hlt) h) fun a e1 hf r=>?_
 have hv:vs[k]?=some (some (.ref a)):=by rw [qJ hlt,e1]
 exact ⟨a,hv,hf,r,(S.own_free ⟨hv,d,h⟩).2,(S.own k a ⟨hv,d,h⟩).1⟩
theorem Step.update (S:St C X F s.heap P vs σ) {k:Nat} {l l':List D} {a:Addr} {ws:Array qq} {m:Nat} (hs:σ[k]?=some (some (.own (.list l)))) (hv:vs[k]?=some (some (.ref a)))
  (h1:s.heap.get? a=some (lobj ws m)) (g:Array qq->Array qq) (hz:l'.length<=size) (r:RepL C.w F l' (g ws).toList) {tk:Nat} :
  Step C X P vs F s (σ.set k (some (.own (.list l')))) F { s with heap:=s.heap.update a (jk g),toks:=tk }:=by
 obtain ⟨a',hv',hf,_,hH,hX⟩:=S.own_at hs
 rw [hv] at hv'; cases hv'
 have hself:(s.heap.update a (jk g)).get? a=some (lobj (g ws) (if (g ws).size==ws.size then m else m+1)):=Heap.get?_update_self _ h1 rfl
 refine ⟨⟨_,tk,rfl⟩,Fz.le_refl F,S.upd (h':=s.heap.update a (jk g)) hv hs (fun b hb=>Heap.get?_update_other _ _ (Ne.symm hb)) ⟨hz,_,_,hself,r⟩ hH,fun b hb=>?_⟩
 exact Heap.get?_update_other _ _ (by rintro rfl; exact hX hb)
end
theorem RepL.dropLast_ {w:wy} {F:Fz} {ds:List D} {ws:List qq} (r:RepL w F ds ws):RepL w F ds.dropLast ws.dropLast:=by
 rw [List.dropLast_eq_take,List.dropLast_eq_take,r.length]; exact r.take _
theorem PE.pop {k:Nat} {x:Str} {px ap cp:Pos} (hline:ap.endLine=cp.line) (hx:Sl ν k x):PE C Γ N (.pop k) n sc ν (.Call (.Attribute (.Name x px) "pop" ap) [] [] cp):=by
 intro env P vs σ σ' X F s A E d f K S hv
 refine bK1 (hv) fun l hl hv=>?_
 refine bK1 (hv) fun d' hd hv=>?_
 cases hv
 have hs:=zi3 hl
 obtain ⟨a,hv,hf,⟨hz,ws,c,h1,r⟩,hH,hX⟩:=S.own_at hs
 refine wpAny_Call_method (T := "list") (id := "list.pop") rfl (by rfl) (by simpa using hline) PySem.F.plainAttrs_list PySem.F.slot_list_pop PySem.F.type_list_pop (zl3 K.O S hx.at' hv hx.ok ?_)
 refine ⟨⟨_,h1,rfl⟩,fun b hb=>⟨_,by cases hb; exact h1,rfl⟩,?_⟩
 have e1:=r.length
 simp at e1
 have hlast:l[l.length - 1]?=some d:=by rw [<- List.getLast?_eq_getElem?]; exact hd
 refine elEA (r.get hlast) fun v hv' rv=>?_
 refine PySem.P.pop_list (y:=v) (n:=c) h1 (by simpa [e1] using hv') ?_ (e1▸hz)
 have stp:=Step.update S (l':=l.dropLast) (tk:=s.toks) hs hv h1 (fun xs=>xs.eraseIdxIfInBounds (ws.size - 1)) (by simp; exact yv hz) ?_
 ·exact ⟨F,stp,rv⟩
 ·have hpos:0<ws.size:=e1▸Nat.zero_lt_of_lt (z6.mp hlast).1
  have:(ws.eraseIdxIfInBounds (ws.size - 1)).toList=ws.toList.dropLast:=by
   rw [Array.eraseIdxIfInBounds,dif_pos (Nat.sub_lt hpos (by decide)),Array.toList_eraseIdx,List.dropLast_eq_take,List.eraseIdx_eq_take_drop_succ]
   simp
   exact zX (w8 hpos).symm
  rw [this]; exact r.dropLast_
end
structure Nob (C:Cx) (X:Addr->Prop) (F:Fz) (P:List Place) (vs:List (Option qq)) (σ:Sg) (a:Addr):Prop where
 f:F a=none
 x:¬ X a
 p:∀ p∈P,a≠p.addr
 o:∀ k,¬ zt2 vs σ k a
 h:C.H.get? a=none
noncomputable def Or' (X W:Addr->Prop):Addr->Prop:=fun a=>X a\/W a
section
variable {C:Cx} {X W:Addr->Prop} {F F':Fz} {h h':Heap} {P:List Place} {vs:List (Option qq)} {σ:Sg}
theorem St.change (S:St C X F h P vs σ) (keep:∀ a o,¬ W a->h.get? a=some o->h'.get? a=some o) (hW:∀ a,W a->Nob C X F P vs σ a):St C X F h' P vs σ where
 sub:=fun a o e=>keep a o (fun q=>by rw [(hW a q).f] at e; cases e) (S.sub a o e)
 low:=S.low
 base:=fun a o e=>keep a o (fun q=>by rw [(hW a q).h] at e; cases e) (S.base a o e)
 cov:=S.cov
 xf:=S.xf
 xal:=fun a e=>let ⟨o,ho⟩:=S.xal a e; ⟨o,keep a o (fun q=>(hW a q).x e) ho⟩
 lenP:=S.lenP
 lenS:=S.lenS
 has:=fun i p ov e1 e2=>Place.has_keep (S.has i p ov e1 e2) fun o e=>keep _ _ (fun q=>(hW _ q).p p (w9 e1) rfl) e
 slot:=fun i ov av e1 e2=>(S.slot i ov av e1 e2).mono (Fz.le_refl F) fun a d q1 q2=>by
  subst q1 q2
  refine elEAA (S.slot i _ _ e1 e2) fun a' e' r q=>?_
  cases e'
  exact ⟨r,fun o e=>keep a o (fun q=>(hW a q).o i ⟨e1,d,e2⟩) e⟩
 nodup:=S.nodup
 cont:=S.cont
 own:=S.own
 inj:=S.inj
theorem St.protect (S:St C X F h P vs σ) (hW:∀ a,W a->Nob C X F P vs σ a/\∃ o,h.get? a=some o):St C (Or' X W) F h P vs σ :=
 S.addX (fun a e=>e.imp id fun q=>⟨(hW a q).1.f,(hW a q).2,(hW a q).1.p,(hW a q).1.o⟩) fun a e=>.inl e
theorem St.release (S:St C (Or' X W) F h P vs σ) (hc:∀ a o,C.H.get? a=some o->X a\/F a≠none):St C X F h P vs σ:=S.dropX (fun a e=>.inl e) hc
theorem Nob.back {vs':List (Option qq)} {σ':Sg} {P':List Place} (S:St C (Or' X W) F' h' P' vs' σ') {a:Addr} (ha:W a) (hx:¬ X a) (hh:C.H.get? a=none):Nob C X F' P' vs' σ' a where
 f:=S.xf a (.inr ha)
 x:=hx
 p:=fun p hp e=>(S.cont p hp).2 (e▸.inr ha)
 o:=fun k ho=>(S.own k a ho).1 (.inr ha)
 h:=hh
theorem St.nob_new (S:St C X F h P vs σ) {a:Addr} (hn:h.get? a=none):Nob C X F P vs σ a where
 f:=by
  cases e:F a with
  | none=>rfl
  | some o=>have:=S.sub a o e; rw [hn] at this; cases this
 x:=fun e=>by obtain ⟨o,ho⟩:=S.xal a e; rw [hn] at ho; cases ho
 p:=fun p hp e=>by
  obtain ⟨i,hi⟩:=uQ.mp hp
  refine elEA (S.placeAt hi) fun ov _ hh=>?_
  obtain ⟨o,ho⟩:=Place.has_there hh
  rw [<- e,hn] at ho; cases ho
 o:=fun i ho=>by
  refine elAE (ho) fun h1 d' h2=>?_
  refine elEAA (S.slot i _ _ h1 h2) fun a' e' _ q=>?_
  cases e'
  obtain ⟨o,ho⟩:=q.there
  rw [hn] at ho; cases ho
 h:=by
  cases e:C.H.get? a with
  | none=>rfl
  | some o=>have:=S.base a o e; rw [hn] at this; cases this
theorem Nob.mono {a:Addr} (x:Nob C X F P vs σ a) (hf:F' a=none):Nob C X F' P vs σ a:=⟨hf,x.x,x.p,x.o,x.h⟩
theorem Nob.res {a:Addr} {w:wy} {d:D} (x:Nob C X F P vs σ a) (q:Shal w F h d a):ResOk w X F h P vs σ (.ref a) d true:=⟨a,rfl,x.f,x.x,x.p,x.o,q⟩
theorem XSame.left {X W:Addr->Prop} {h h':Heap} (x:XSame (Or' X W) h h'):XSame X h h':=fun a e=>x a (.inl e)
end
noncomputable def owned (n:String):Bool:=["enumerate", "zip", "dict_itemiterator", "dict_reverseitemiterator", "odict_iterator", "itertools.zip_longest", "itertools.pairwise"].contains n
theorem xb9 {prog:vw} {w:wy} {A:xx} {E:qq->qv->Prop} {s:qv} {J:Addr} {o:Obj} {n:String} {tg:Expr} {v:qq} {Q:Unit->qv->Prop} (ho:s.heap.get? J=some o) (hc:o.cls=.type n) (hn:owned n=false) (h:Q () s):zx (zQ prog w) A (letOwnedTupleGo tg (.ref J) v) Q E s:=by
 have go:zx (zQ prog w) A (do
   let (.ref r,.ref a):=(xK J,v)|return
   let o <- load r
   match o.cls,o.data with
   | .type n,.fields vs =>
    if ["enumerate", "zip", "dict_itemiterator", "dict_reverseitemiterator", "odict_iterator", "itertools.zip_longest", "itertools.pairwise"].contains n&&vs[0]?==some (rawInt a) then
     rule "for.unpacks-the-owned-tuple"
     updateField r 0 .none
   | _,_=>pure ()) Q E s:=by
  cases v<;>try exact z8 h
  refine qz (wpAny_load ho ?_)
  rw [hc]
  cases o.data<;>try exact z8 h
  unfold owned at hn
  dsimp only
  rw [hn,Bool.false_and]
  exact z8 h
 cases tg<;>first|exact go|exact z8 h
structure WalkG (gt:Expr->Prop) (prog:vw) (w:wy) (A:xx) (F0:Fz) (J:Addr) (W:Addr->Prop) (ds:List D) (T:Nat->Heap->Prop):Prop where
 self:W J
 alive:∀ i h a,T i h->W a->∃ o,h.get? a=some o
 frame:∀ i h h',T i h->F0.In h->(∀ a o,W a->h.get? a=some o->h'.get? a=some o)->F0.In h'->T i h'
 item:∀ i d (tg:Expr) (s:qv) (E:qq->qv->Prop),gt tg->ds[i]?=some d->T i s.heap->zx (zQ prog w) A (pyNext (.ref J)) (fun r s₁=>∃ v,r=some v/\zx (zQ prog w) A (letOwnedTupleGo tg (.ref J) v) (fun _ s'=>∃ h' tk,s'={ s with heap:=h',toks:=tk }/\T (i+1) h' /\
  (∀ a o,¬ W a->s.heap.get? a=some o->h'.get? a=some o) /\
  ∀ F,F0.le F->F.In s.heap->(∀ a,W a->F a=none)->∃ F2,F.le F2/\F2.In h'/\(∀ a,F2 a≠none->F a≠none\/s.heap.get? a=none)/\Rep w F2 d v) E s₁) E s
 done:∀ (s:qv) (E:qq->qv->Prop),T ds.length s.heap->zx (zQ prog w) A (pyNext (.ref J)) (fun r s'=>r=none/\∃ h' tk,s'={ s with heap:=h',toks:=tk }/\∀ a o,¬ W a->s.heap.get? a=some o->h'.get? a=some o) E s
 iter:∀ i (s:qv) (Q:qq->qv->Prop) (E:qq->qv->Prop),T i s.heap->Q (.ref J) s->zx (zQ prog w) A (pyIter (.ref J)) Q E s
noncomputable abbrev Walk:=WalkG fun _=>True
theorem Walk.of {prog:vw} {w:wy} {A:xx} {F0:Fz} {J:Addr} {fp wr:List Addr} {n:Nat} {p:Nat->qq->Prop} {T:Nat->Heap->Prop} {ds:List D} (K:Walks prog w A J fp wr n p T)
  (hn:ds.length=n) (hJ:J∈wr) (hal:∀ i h a,T i h->a∈wr->∃ o,h.get? a=some o) (hfp:∀ b∈fp,b∈wr\/F0 b≠none) (hp:∀ i v d,ds[i]?=some d->p i v->∀ F,F0.le F->Rep w F d v) (hgo:∀ i h,T i h->∃ o n,h.get? J=some o/\o.cls=.type n/\owned n=false) :
  Walk prog w A F0 J (fun a=>a∈wr) ds T where
 self:=hJ
 alive:=hal
 frame:=fun i h h' t hin k hin'=>K.frame i h h' t fun b hb o e=>by
  rcases hfp b hb with q|q
  ·exact k b o q e
  ·cases hq:F0 b with
   | none=>exact absurd hq q
   | some o' =>
    have:=hin b o' hq
    rw [e] at this; cases this
    exact hin' b _ hq
 item:=fun i d tg s E _ hd t=>K.item i s _ _ (by rw [<- hn]; exact (z6.mp hd).1) t fun v h' tk pv t' k =>
  let ⟨_,_,ho,hc,hn⟩:=hgo _ _ t'
  ⟨v,rfl,xb9 (s:={ s with heap:=h',toks:=tk }) ho hc hn ⟨h',tk,rfl,t',fun a o ha e=>k a o ha e,fun F l hin hw=>⟨F,Fz.le_refl F,fun a o e=>k a o (fun q=>by rw [hw a q] at e; cases e) (hin a o e),fun a e=>.inl e,hp i v d hd pv F l⟩⟩⟩
 done:=fun s E t=>K.done s _ _ (by rw [<- hn]; exact t) fun h' tk k=>⟨rfl,h',tk,rfl,fun a o ha e=>k a o ha e⟩
 iter:=fun i s Q E t q=>K.self i s Q E t q
inductive PostG (gt:Expr->Prop) (C:Cx) (X:Addr->Prop) (P:List Place) (vs:List (Option qq)) (F:Fz) (s:qv) (σ:Sg) (A:xx) (ds:List D) (it:qq) (s':qv):Prop
 | mk (F':Fz) (J:Addr) (W:Addr->Prop) (T:Nat->Heap->Prop) (e:it=.ref J) (st:Step C X P vs F s σ F' s') (hW:WalkG gt C.prog C.w A F' J W ds T) (ht:T 0 s'.heap) (hz:ds.length<=size) (hn:∀ a,W a->Nob C X F' P vs σ a)
noncomputable abbrev PostW:=PostG fun _=>True
noncomputable def zf1 (w:wy):Prop:=∀ (prog:vw) (A:xx) (E:qq->qv->Prop) (s:qv) (F:Fz) (n:Nat),Room n A->F.In s.heap->∀ {kvs:List (D×D)} {v:qq},Rep w F (.dict kvs) v ->
 zx (zQ prog w) A (pyIter v) (fun it s'=>∃ J W T h' tk,it=.ref J/\s'={ s with heap:=h',toks:=tk }/\(∀ a o,s.heap.get? a=some o->h'.get? a=some o)/\Walk prog w A F J W (kvs.map (·.1)) T/\T 0 h'/\∀ a,W a->s.heap.get? a=none) E s
section
variable {C:Cx} {Γ:Mini.Env} {N:Nat} {X:Addr->Prop} {P:List Place} {vs:List (Option qq)} {F:Fz} {s s₁:qv} {σ:Sg} {A:xx} {E:qq->qv->Prop}
theorem Step.grow (S:St C X F s.heap P vs σ) {h':Heap} {tk:Nat} (k:∀ a o,s.heap.get? a=some o->h'.get? a=some o):Step C X P vs F s σ F { s with heap:=h',toks:=tk } :=
 ⟨⟨h',tk,rfl⟩,Fz.le_refl F,S.grow0 k,XSame.of_keep S.xal k⟩
theorem Walk.seq {prog:vw} {w:wy} {A:xx} {F:Fz} {it a:Addr} {ws:Array qq} {l:List D} {T:Nat->Heap->Prop} (K:Walks prog w A it [it,a] [it] ws.size (fun i x=>ws[i]?=some x) T) (r:RepL w F l ws.toList) (hF:F a≠none)
  (hgo:∀ i h,T i h->∃ o n,h.get? it=some o/\o.cls=.type n/\owned n=false):Walk prog w A F it (fun b=>b∈[it]) l T :=
 Walk.of K r.length.symm (xq.mpr rfl) (fun i h b t hb=>(hgo i h t).elim fun o ho=>ho.elim fun _ q=>⟨o,xq.mp hb▸q.1⟩)
  (fun b hb=>(z0.mp hb).elim (fun e=>.inl (xq.mpr e)) fun hb=>.inr (xq.mp hb▸hF))
  (fun i v d hd hv G l=>elEA (r.get hd) fun u hu ru=>by
   rw [wj] at hu
   exact xW (hu.symm.trans hv)▸Rep.mono l _ ru) hgo
theorem xz3 (di:zf1 C.w) (R:Room N A) (S:St C X F s.heap P vs σ) {d:D} {v:qq} {ds:List D} (r:Rep C.w F d v) (e:yp5 d=some ds) :
  zx (zQ C.prog C.w) A (pyIter v) (PostW C X P vs F s σ A ds) E s:=by
 have nob:∀ b∈[s.heap.objs.size],Nob C X F P vs σ b:=fun b hb=>xq.mp hb▸S.nob_new (zz7 _)
 cases d with
 | list l =>
  refine sm1 e ?_
  refine elAEEEEAAAA (show _/\_ from r) fun hz a ob ws m ev hF hcl hdt r=>?_
  rw [ev]
  have h1:=S.sub _ _ hF
  refine wpAny_pyIter_list ⟨_,h1,hcl,_,hdt⟩ ?_
  exact ⟨F,s.heap.objs.size,_,_,rfl,Step.grow (tk:=s.toks) S (h':=s.heap.push { cls:=.type "list_iterator", data:=.fields #[.ref a,.int 0 0] }) fun b o e=>qV _ e,
   Walk.seq (Walks.list R.handled _ a (jV (wq h1)) ws) r (by rw [hF]; exact fun x=>nomatch x) (fun _ _ t=>let ⟨o,ho,hc,_⟩:=t.1; ⟨o,_,ho,hc,rfl⟩),⟨⟨_,xy _ rfl,rfl,rfl⟩,⟨_,qV _ h1,hcl,_,hdt⟩⟩,hz,nob⟩
 | tuple l =>
  refine sm1 e ?_
  refine elAEEEAA (show _/\_ from r) fun hz a ws m ev hF r=>?_
  rw [ev]
  have h1:=S.sub _ _ hF
  refine wpAny_pyIter_tuple ⟨_,h1,rfl,_,rfl⟩ ?_
  exact ⟨F,s.heap.objs.size,_,_,rfl,Step.grow (tk:=s.toks) S (h':=s.heap.push { cls:=.type "tuple_iterator", data:=.fields #[.ref a,.int 0 0] }) fun b o e=>qV _ e,
   Walk.seq (Walks.tuple R.handled _ a (jV (wq h1)) ws) r (by rw [hF]; exact fun x=>nomatch x) (fun _ _ t=>let ⟨o,ho,hc,_⟩:=t.1; ⟨o,_,ho,hc,rfl⟩),⟨⟨_,xy _ rfl,rfl,rfl⟩,⟨_,qV _ h1,rfl,_,rfl⟩⟩,hz,nob⟩
 | dict kvs =>
  refine sm1 e ?_
  refine wpM (di C.prog A E s F N R S.sub r) (fun it s' q=>?_)
  (refine elEEEEEAAAAA (q) fun J W T h' tk e_5 e_6 k K t hn=>?_; subst e_5; subst e_6)
  refine ⟨F,J,W,T,rfl,Step.grow S k,K,t,?_,fun a ha=>S.nob_new (hn a ha)⟩
  simp only [zh6] at r
  simpa using r.1.1
 | _=>exact (noS e).elim
end
section
variable (C:Cx) (Γ:Mini.Env) (N:Nat)
noncomputable def PWg (gt:Expr->Prop) (i:I) (n:Nat) (sc:xj) (ν:Nu) (e:Expr):Prop:=∀ {env:w0} {P:List Place} {vs:List (Option qq)} {σ σ':Sg} {X:Addr->Prop} {F:Fz} {s:qv} {A:xx} {E:qq->qv->Prop} {ds:List D},
 Cn Γ N env sc ν P n A->St C X F s.heap P vs σ->srcE (ev Γ i) σ=some (ds,σ') ->
  zx (zQ C.prog C.w) A (eval e env) (fun v s₁=>zx (zQ C.prog C.w) A (pyIter v) (PostG gt C X P vs F s σ' A ds) E s₁) E s
noncomputable abbrev PW:=PWg C Γ N fun _=>True
end
section
variable {C:Cx} {Γ:Mini.Env} {N:Nat} {n:Nat} {sc:xj} {ν:Nu}
theorem PostG.trans {gt:Expr->Prop} {X:Addr->Prop} {P:List Place} {vs:List (Option qq)} {F F':Fz} {s s' s'':qv} {σ' σ'':Sg} {A:xx} {ds:List D} {it:qq} (a:Step C X P vs F s σ' F' s') (q:PostG gt C X P vs F' s' σ'' A ds it s''):PostG gt C X P vs F s σ'' A ds it s'':=by
 obtain ⟨G,J,W,T,e,st,r1,r2,r3,r4⟩:=q
 exact ⟨G,J,W,T,e,a.trans st,r1,r2,r3,r4⟩
theorem PW.plain (di:zf1 C.w) {i:I} {e:Expr} (h:PE C Γ N i n sc ν e):PW C Γ N i n sc ν e:=by
 intro env P vs σ σ' X F s A E ds K S hv
 refine bK3 (hv) fun d f σ1 he hv=>?_
 refine bK1 (hv) fun l hi hv=>?_
 refine sm2 hv ?_
 refine wpM (h.frozen K S he) (fun v s₁ q=>?_)
 obtain ⟨F1,st,r⟩:=q
 exact wpM (xz3 di K.R st.st r hi) (fun it s₂ q=>q.trans st)
theorem Walk.ints {prog:vw} {w:wy} {A:xx} {F0:Fz} (hh:A.handled=none) {J:Addr} {a b:Int} {N:Nat} (hN:N=(b - a).toNat):Walk prog w A F0 J (fun x=>x∈[J]) (zt6 a b) (fun i h=>IsRangeIter h J (a+(i:Nat)*1) ((N:Int) - (i:Nat)) 1):=by
 refine Walk.of (Walks.range hh J a 1 N) (by simp [zt6,hN]) (by simp) (fun i h x t hx=>?_) (fun b hb=>.inl hb) (fun i v d hd hv F l=>?_) (fun _ _ t=>⟨_,_,t,rfl,rfl⟩)
 ·simp only [xq] at hx; subst hx; exact ⟨_,t⟩
 ·obtain ⟨t,rfl⟩:=hv
  have hlt:=(z6.mp hd).1
  rw [zt6,xw,List.length_range] at hlt
  rw [zt6,Q4,List.getElem?_range hlt] at hd
  cases hd
  simp [zn1]
theorem yj0 {i:Int} (h:zz9 i=true):-(2^62)<=i/\i<2^62:=by
 have h:i.natAbs<2^62:=of_decide_eq_true h
 exact ⟨Int.neg_le_of_neg_le (Int.le_trans (Int.natAbs_neg i▸Int.le_natAbs (a:=-i)) (Int.ofNat_le.mpr (zq h))),Int.lt_of_le_of_lt Int.le_natAbs (kJ.mpr h)⟩
theorem yp4 {X:Addr->Prop} {P:List Place} {vs:List (Option qq)} {F:Fz} {s:qv} {σ:Sg} {A:xx} {E:qq->qv->Prop} (R:Room N A) (S:St C X F s.heap P vs σ) {r:Addr} {a b:Int} {t u v:Tok}
  (hr:IsRange s.heap r a b 1 t u v) (ha:zz9 a=true) (hb:zz9 b=true) (hz:(b - a).toNat<=size):zx (zQ C.prog C.w) A (pyIter (.ref r)) (PostW C X P vs F s σ A (zt6 a b)) E s:=by
 have h1:=yj0 ha
 have h2:=yj0 hb
 refine wpAny_pyIter_range hr (small_one h1.1 h1.2 h2.1 h2.2) ?_
 have st:=Step.grow (tk:=s.toks) S (h':=s.heap.push { cls:=.type "range_iterator", data:=.fields #[rawInt a,rawInt (Builtin.Range.rangeSize a b 1),rawInt 1] }) fun b o e=>qV _ e
 refine ⟨F,s.heap.objs.size,_,_,rfl,st,Walk.ints R.handled rfl,?_,by simpa [zt6] using hz,fun x hx=>?_⟩
 ·have e1:(a+((0:Nat):Int)*1)=a:=by simp
  have e2:(((b - a).toNat:Int) - ((0:Nat):Int))=Builtin.Range.rangeSize a b 1:=by rw [rangeSize_one]; split<;>bv_omega
  rw [e1,e2]
  exact xy _ rfl
 ·simp only [xq] at hx; subst hx
  exact S.nob_new (zz7 _)
@[elab_as_elim] theorem xe3 {b:I} {σ σ':Sg} {ds:List D} {P:List D->Prop} (hv:srcE (ev Γ (.rng1 b)) σ=some (ds,σ')) (k:∀ y fy,ev Γ b σ=some (.int y,fy,σ')->zz9 y=true->y.toNat<=size->P (zt6 0 y)):P ds:=by
 refine bK3 (hv) fun d f σ1 he hv=>bK3 (he) fun y' fy σ2 hy he=>bK1 (he) fun y hyi he=>?_
 obtain ⟨hc,he⟩:=ifS he
 have hc:=zw.mp hc
 revert hv hy
 refine sm3 (congrArg some he) fun hv=>?_
 have hv:some (zt6 0 y,σ2)=some (ds,σ'):=hv
 revert k
 have hyi:zq6 y'=some y:=hyi
 exact sm2 hv fun k=>xg7 hyi fun hy=>k y fy hy hc.1 (of_decide_eq_true hc.2)
theorem PW.rng1 (G:Ground C Γ N) {b:I} {e:Expr} {px p:Pos} (hg:zw4 sc ν "range" = true) (hb:PE C Γ N b n sc ν e) (h0:okE e=true):PW C Γ N (.rng1 b) n sc ν (.Call (.Name "range" px) [e] [] p):=by
 intro env P vs σ σ' X F s A E ds K S hv
 refine xe3 hv fun y fy hy c1 c2=>?_
 refine Q6 (zg5 (v:=.type "range") G K.O S hg (by decide) ?_)
 refine j8 (j3 (wpM (hb.frozen K S hy) (fun v s₁ q=>yy ?_)) (zv9 h0)) (zv9 h0) rfl
 obtain ⟨F1,st,r⟩:=q
 refine Top.intK (h:=s₁.heap) (.inl r) fun t=>call_range_1 ?_
 have st2:=Step.grow (tk:=s₁.toks+1+1) st.st (h':=s₁.heap.push { cls:=.type "range", data:=.fields #[.int 0 s₁.toks,.int y t,.int 1 (s₁.toks+1)] }) fun b o e=>qV _ e
 exact wpM (yp4 K.R st2.st (IsRange.new ..) (by decide) c1 (by simpa using c2)) (fun it s₂ q=>q.trans (st.trans st2))
@[elab_as_elim] theorem wu3 {a b:I} {σ σ':Sg} {ds:List D} {P:List D->Prop} (hv:srcE (ev Γ (.rng a b)) σ=some (ds,σ')) (k:∀ x fx σ1 y fy,ev Γ a σ=some (.int x,fx,σ1)->ev Γ b σ1=some (.int y,fy,σ')->zz9 x=true->zz9 y=true->(y - x).toNat<=size->P (zt6 x y)):P ds:=by
 refine bK3 (hv) fun d f σ1 he hv=>bK3 (he) fun x' fx σ2 hx he=>bK1 (he) fun x hxi he=>bK3 (he) fun y' fy σ3 hy he=>bK1 (he) fun y hyi he=>?_
 obtain ⟨hc,he⟩:=ifS he
 have hc:=zw.mp hc
 have hc1:=zw.mp hc.1
 revert hv hy hx
 refine sm3 (congrArg some he) fun hv=>?_
 have hv:some (zt6 x y,σ3)=some (ds,σ'):=hv
 revert k
 have hyi:zq6 y'=some y:=hyi
 have hxi:zq6 x'=some x:=hxi
 exact sm2 hv fun k=>xg7 hxi (xg7 hyi fun hx hy=>k x fx σ2 y fy hx hy hc1.1 hc1.2 (of_decide_eq_true hc.2))
theorem PW.rng (G:Ground C Γ N) {a b:I} {e1 e2:Expr} {px p:Pos} (hg:zw4 sc ν "range" = true) (ha:PE C Γ N a n sc ν e1) (hb:PE C Γ N b n sc ν e2) (h1:okE e1=true) (h2:okE e2=true):PW C Γ N (.rng a b) n sc ν (.Call (.Name "range" px) [e1,e2] [] p):=by
 intro env P vs σ σ' X F s A E ds K S hv
 refine wu3 hv fun x fx σ1 y fy hx hy c1 c2 c3=>?_
 refine Q6 (zg5 (v:=.type "range") G K.O S hg (by decide) ?_)
 refine j8 (j3 (wpM (ha.frozen K S hx) (fun v s₁ q=>j3 ?_ (zv9 h2))) (zv9 h1)) (zv9 h1) (by rw [zv9 h2]; rfl)
 obtain ⟨F1,st,r⟩:=q
 refine wpM (hb.frozen K st.st hy) (fun u s₂ q=>yy ?_)
 obtain ⟨F2,st2,r2⟩:=q
 refine Top.intK (h:=s₁.heap) (.inl r) fun t=>Top.intK (h:=s₁.heap) (.inl r2) fun t2=>call_range_2 ?_
 have st3:=Step.grow (tk:=s₂.toks+1) st2.st (h':=s₂.heap.push { cls:=.type "range", data:=.fields #[.int x t,.int y t2,.int 1 s₂.toks] }) fun b o e=>qV _ e
 exact wpM (yp4 K.R st3.st (IsRange.new ..) c1 c2 c3) (fun it s₂ q=>q.trans ((st.trans st2).trans st3))
end
section
variable {prog:vw} {w:wy} {A:xx} {E:qq->qv->Prop} {s:qv}
theorem za3 {it t:Addr} {i:Nat} {items:Array qq} {x:qq} {Q:qq->qv->Prop} (hit:s.heap.IsTupleIter it t i)
  (ht:s.heap.IsTuple t items) (hx:items[i]?=some x) (hQ:∀ h',h'.IsTupleIter it t (i+1)->Heap.SameBut it s.heap h'->Q x { s with heap:=h' }) :
  zx (zQ prog w) A (vW (.ref it)) Q E s:=by
 refine elEAA (id hit) fun o ho hc hd=>?_
 refine elEAAE (ht) fun ol hol _ nl hdl=>?_
 unfold vW
 refine qz (yW (name:=qk "__next__") hit.typeIs Z8
  (kQ Z8 hit.typeIs F.entry_tuple_iterator_next ?_ (F.args_tuple_iterator_next_1 _)))
 show zx _ _ (field (.ref it) 0 >>= _) _ _ s
 refine qz (uZ ho hd (x:=.ref t) rfl ?_)
 show zx _ _ (if (xK t==wz)=true then _ else _) _ _ s
 rw [if_neg (show ¬ ((xK t==wz)=true) from qj)]
 show zx _ _ (field (.ref it) 1 >>= _) _ _ s
 refine qz (uZ ho hd (x:=.int i 0) rfl ?_)
 show zx _ _ (seqItems? (.ref t) >>= _) _ _ s
 refine qz (uV hol hdl ?_)
 simp only [Int.toNat_natCast,hx]
 refine qz (wpAny_setField ho hd (by simp) (z8 ⟨x,rfl,z8 (hQ _ ?_ (Heap.SameBut.update ..))⟩))
 exact ⟨_,Heap.get?_update_self _ ho (Obj.isFreed_of_fields (Obj.data_mapFields hd _)),(Obj.cls_mapFields ..).trans hc,by
  rw [Obj.data_mapFields hd]; simp [rawInt]⟩
theorem yy9 {it t:Addr} {i:Nat} {items:Array qq} {Q:qq->qv->Prop} (hh:A.handled=none)
  (hit:s.heap.IsTupleIter it t i) (ht:s.heap.IsTuple t items) (hx:items[i]?=none)
  (hE:∀ h' e,Heap.ExtBut it s.heap h'->(∃ o,h'.get? e=some o/\o.cls=.type "StopIteration")->E (.ref e) { s with heap:=h' }) :
  zx (zQ prog w) A (vW (.ref it)) Q E s:=by
 refine elEAA (id hit) fun o ho hc hd=>?_
 refine elEAAE (ht) fun ol hol _ nl hdl=>?_
 unfold vW
 refine qz (yW (name:=qk "__next__") hit.typeIs Z8
  (kQ Z8 hit.typeIs F.entry_tuple_iterator_next ?_ (F.args_tuple_iterator_next_1 _)))
 show zx _ _ (field (.ref it) 0 >>= _) _ _ s
 refine qz (uZ ho hd (x:=.ref t) rfl ?_)
 show zx _ _ (if (xK t==wz)=true then _ else _) _ _ s
 rw [if_neg (show ¬ ((xK t==wz)=true) from qj)]
 show zx _ _ (field (.ref it) 1 >>= _) _ _ s
 refine qz (uZ ho hd (x:=.int i 0) rfl ?_)
 show zx _ _ (seqItems? (.ref t) >>= _) _ _ s
 refine qz (uV hol hdl ?_)
 simp only [Int.toNat_natCast,hx]
 refine qz (QJ (qz (wpAny_setField ho hd (by simp) ?_)))
 show zx _ _ (newExc (.type "StopIteration") [] >>= _) _ _ _
 refine qz ?_
 simp only [newExc,newTuple]
 refine qz (yX ?_ (by size_fits))
 refine qz (m:=firstArgMember _ _) (wpAny_of_eq (a:=wz) (by first|rfl|(simp only [firstArgMember]; rfl)) ?_)
 refine yX ?_ (by size_fits)
 simp only [raiseNew]
 refine qz (wpAny_handled ?_)
 first|rw [show A.in1.handled=none from hh]|rw [hh]
 refine qz (z8 (wpAny_throw ?_))
 exact hE _ _ (((Heap.SameBut.update ..).extBut.push _).push _) ⟨_,xy _ rfl,rfl⟩
theorem Draws.tup (hh:A.handled=none) (it t:Addr) (hne:t≠it) (items:Array qq):Draws prog w A it [it,t] items.size (fun i x=>items[i]?=some x) (fun i h=>h.IsTupleIter it t i/\h.IsTuple t items) where
 live:=fun i h st=>let ⟨o,ho,_⟩:=st.1; ⟨o,ho⟩
 frame:=fun i h h' st k=>by
  obtain ⟨⟨o,ho,q⟩,⟨o',ho',q'⟩⟩:=st
  exact ⟨⟨o,k it (by simp) o ho,q⟩,⟨o',k t (by simp) o' ho',q'⟩⟩
 item:=fun i s Q E hi st hQ=>za3 st.1 st.2 (x:=items[i]) (by simp [hi]) fun h' hit hs=>by
  refine elEA (st.2) fun o' ho' q'=>?_
  exact hQ items[i] h' s.toks (by simp [hi]) ⟨hit,⟨o',hs.extBut _ _ hne ho',q'⟩⟩ hs
 done:=fun s Q E st hE=>yy9 hh st.1 st.2 (by simp) hE
structure ZA (z TI TO i1 i2:Addr) (fp1 fp2:List Addr):Prop where
 TIz:TI≠z
 TOz:TO≠z
 i1z:i1≠z
 i2z:i2≠z
 TITO:TI≠TO
 TIi1:TI≠i1
 TIi2:TI≠i2
 TOi1:TO≠i1
 TOi2:TO≠i2
 i12:i1≠i2
 f1:∀ b∈fp1,b≠z/\b≠TO/\b≠i2
 f2:∀ b∈fp2,b≠z/\b≠TO/\b≠i1
variable {z TI TO i1 i2:Addr} {fp1 fp2:List Addr} {n1 n2 k:Nat} {P1 P2:Nat->qq->Prop} {S1 S2:Nat->Heap->Prop}
theorem xf2 (D:ZA z TI TO i1 i2 fp1 fp2) (D1:Draws prog w A i1 fp1 n1 P1 S1) (D2:Draws prog w A i2 fp2 n2 P2 S2) {a b:qq} {Q:qq->qv->Prop}
  (hz:IsZip s.heap z TI TO .none) (hTI:Qv s.heap TI (.ref i1) (.ref i2)) (hTO:Qv s.heap TO a b) (s1:S1 k s.heap) (s2:S2 k s.heap) (k1:k<n1) (k2:k<n2)
  (hQ:∀ x y h' tk,P1 k x->P2 k y->IsZip h' z TI TO (rawInt s.heap.objs.size)->Qv h' TO x y->S1 (k+1) h'->S2 (k+1) h'->Qv h' s.heap.objs.size x y ->
   (∀ c o,c≠z->c≠TO->c≠i1->c≠i2->s.heap.get? c=some o->h'.get? c=some o)->Q (.ref s.heap.objs.size) { s with heap:=h',toks:=tk }) :
  zx (zQ prog w) A (Builtin.«zip.__next__» ⟨[.ref z],[]⟩) (fun fin s'=>∃ v,fin=.done (.ret v)/\Q v s') E s:=by
 show zx _ _ (field (.ref z) 2 >>= _) _ _ _
 refine qz (uZ hz rfl (x:=.bool false) rfl ?_)
 show zx _ _ (field (.ref z) 3 >>= _) _ _ _
 refine qz (uZ hz rfl (x:=.ref TI) rfl ?_)
 refine qz (uV hTI rfl ?_)
 show zx _ _ (kK (.ref z) >>= _) _ _ _
 refine qz ?_
 unfold kK
 refine qz (uZ hz rfl (x:=.none) rfl (z8 ?_))
 simp only [if_true]
 refine qz (QJ ?_)
 refine qz (uZ hz rfl (x:=.ref TO) rfl ?_)
 refine qz (QV hz (by simp) fun h₁ hz₁ hs₁=>?_)
 replace hz₁:IsZip h₁ z TI TO .ellipsis:=hz₁
 refine qz ?_
 simp only [List.zipIdx_cons,List.zipIdx_nil,List.forIn_cons,List.forIn_nil]
 refine qz (qz (wpAny_onRaise ?_))
 show zx _ _ (vW (.ref i1) >>= _) _ _ _
 have s1₁:S1 k h₁:=D1.frame _ _ _ s1 fun b hb o e=>hs₁.extBut _ _ (D.f1 b hb).1 e
 have s2₁:S2 k h₁:=D2.frame _ _ _ s2 fun b hb o e=>hs₁.extBut _ _ (D.f2 b hb).1 e
 refine qz (D1.item k _ _ _ k1 s1₁ fun x h₂ tk₂ hx s1₂ hs₂=>z8 ?_)
 have hTO₂:Qv h₂ TO a b:=hs₂.extBut _ _ D.TOi1 (hs₁.extBut _ _ D.TOz hTO)
 refine qz (uV (s:={ s with heap:=h₂,toks:=tk₂ }) hTO₂ rfl ?_)
 refine qz (wpAny_updateSeq_pair (s:={ s with heap:=h₂,toks:=tk₂ }) hTO₂ fun h₃ hTO₃ hs₃=>?_)
 replace hTO₃:Qv h₃ TO x b:=hTO₃
 refine qz (wpAny_letGo (z8 ?_))
 refine qz (qz (wpAny_onRaise ?_))
 show zx _ _ (vW (.ref i2) >>= _) _ _ _
 have s1₃:S1 (k+1) h₃:=D1.frame _ _ _ s1₂ fun b hb o e=>hs₃.extBut _ _ (D.f1 b hb).2.1 e
 have s2₃:S2 k h₃:=D2.frame _ _ _ s2₁ fun b hb o e=>hs₃.extBut _ _ (D.f2 b hb).2.1 (hs₂.extBut _ _ (D.f2 b hb).2.2 e)
 refine qz (D2.item k _ _ _ k2 s2₃ fun y h₄ tk₄ hy s2₄ hs₄=>z8 ?_)
 have hTO₄:Qv h₄ TO x b:=hs₄.extBut _ _ D.TOi2 hTO₃
 refine qz (uV (s:={ s with heap:=h₄,toks:=tk₄ }) hTO₄ rfl ?_)
 refine qz (wpAny_updateSeq_pair (s:={ s with heap:=h₄,toks:=tk₄ }) hTO₄ fun h₅ hTO₅ hs₅=>?_)
 replace hTO₅:Qv h₅ TO x y:=hTO₅
 refine qz (wpAny_letGo (z8 (z8 ?_)))
 refine qz (uV (s:={ s with heap:=h₅,toks:=tk₄ }) hTO₅ rfl ?_)
 refine qz (wpAny_newTuple ?_)
 have hsz:h₅.objs.size=s.heap.objs.size:=by rw [hs₅.1,hs₄.1,hs₃.1,hs₂.1,hs₁.1]
 have hz₅:IsZip h₅ z TI TO .ellipsis:=hs₅.extBut _ _ D.TOz.symm (hs₄.extBut _ _ D.i2z.symm (hs₃.extBut _ _ D.TOz.symm (hs₂.extBut _ _ D.i1z.symm hz₁)))
 have hk₅:∀ c o,c≠z->c≠TO->c≠i1->c≠i2->s.heap.get? c=some o->h₅.get? c=some o:=fun c o c1 c2 c3 c4 e =>
  hs₅.extBut _ _ c2 (hs₄.extBut _ _ c4 (hs₃.extBut _ _ c2 (hs₂.extBut _ _ c3 (hs₁.extBut _ _ c1 e))))
 have s1₅:S1 (k+1) h₅:=D1.frame _ _ _ s1₃ fun b hb o e=>hs₅.extBut _ _ (D.f1 b hb).2.1 (hs₄.extBut _ _ (D.f1 b hb).2.2 e)
 have s2₅:S2 (k+1) h₅:=D2.frame _ _ _ s2₄ fun b hb o e=>hs₅.extBut _ _ (D.f2 b hb).2.1 e
 have hzlt:z<h₅.objs.size:=wq hz₅
 show zx _ _ (Builtin.SmallTypes.ownedTupleHandOut (.ref z) (.ref h₅.objs.size) >>= _) _ _ _
 refine qz ?_
 unfold Builtin.SmallTypes.ownedTupleHandOut
 have hz₆:IsZip (h₅.push { cls:=.type "tuple", data:=.seq #[x,y] }) z TI TO .ellipsis:=qV _ hz₅
 refine qz (QV hz₆ (by simp) fun h₇ hz₇ hs₇=>?_)
 replace hz₇:IsZip h₇ z TI TO (rawInt h₅.objs.size):=hz₇
 refine QV hz₇ (by simp) fun h₈ hz₈ hs₈=>?_
 replace hz₈:IsZip h₈ z TI TO (rawInt h₅.objs.size):=hz₈
 have up:∀ c o,c≠z->h₅.get? c=some o->h₈.get? c=some o:=fun c o c1 e=>hs₈.extBut _ _ c1 (hs₇.extBut _ _ c1 (qV _ e))
 have hT₈:Qv h₈ h₅.objs.size x y:=hs₈.extBut _ _ (u9 hzlt) (hs₇.extBut _ _ (u9 hzlt) (xy _ rfl))
 rw [hsz] at hz₈ hT₈
 refine z8 ⟨_,rfl,?_⟩
 show Q (.ref h₅.objs.size) _
 rw [hsz]
 exact hQ x y h₈ tk₄ hx hy hz₈ (up _ _ D.TOz hTO₅) (D1.frame _ _ _ s1₅ fun b hb o e=>up _ _ (D.f1 b hb).1 e) (D2.frame _ _ _ s2₅ fun b hb o e=>up _ _ (D.f2 b hb).1 e) hT₈ fun c o c1 c2 c3 c4 e=>up c o c1 (hk₅ c o c1 c2 c3 c4 e)
theorem wv1 (D:ZA z TI TO i1 i2 fp1 fp2) (D1:Draws prog w A i1 fp1 n1 P1 S1) (D2:Draws prog w A i2 fp2 n2 P2 S2) {a b:qq} {Q:Fin->qv->Prop}
  (hz:IsZip s.heap z TI TO .none) (hTI:Qv s.heap TI (.ref i1) (.ref i2)) (hTO:Qv s.heap TO a b) (s1:S1 k s.heap) (s2:S2 k s.heap) (hend:k=n1\/(k<n1/\k=n2))
  (hE:∀ h' e tk,(∀ c o,c≠z->c≠TO->c≠i1->c≠i2->s.heap.get? c=some o->h'.get? c=some o)->(∃ o,h'.get? e=some o/\o.cls=.type "StopIteration")->E (.ref e) { s with heap:=h',toks:=tk }) :
  zx (zQ prog w) A (Builtin.«zip.__next__» ⟨[.ref z],[]⟩) Q E s:=by
 show zx _ _ (field (.ref z) 2 >>= _) _ _ _
 refine qz (uZ hz rfl (x:=.bool false) rfl ?_)
 show zx _ _ (field (.ref z) 3 >>= _) _ _ _
 refine qz (uZ hz rfl (x:=.ref TI) rfl ?_)
 refine qz (uV hTI rfl ?_)
 show zx _ _ (kK (.ref z) >>= _) _ _ _
 refine qz ?_
 unfold kK
 refine qz (uZ hz rfl (x:=.none) rfl (z8 ?_))
 simp only [if_true]
 refine qz (QJ ?_)
 refine qz (uZ hz rfl (x:=.ref TO) rfl ?_)
 refine qz (QV hz (by simp) fun h₁ hz₁ hs₁=>?_)
 replace hz₁:IsZip h₁ z TI TO .ellipsis:=hz₁
 refine qz ?_
 simp only [List.zipIdx_cons,List.zipIdx_nil,List.forIn_cons,List.forIn_nil]
 refine qz (qz (wpAny_onRaise ?_))
 show zx _ _ (vW (.ref i1) >>= _) _ _ _
 have s1₁:S1 k h₁:=D1.frame _ _ _ s1 fun b hb o e=>hs₁.extBut _ _ (D.f1 b hb).1 e
 have s2₁:S2 k h₁:=D2.frame _ _ _ s2 fun b hb o e=>hs₁.extBut _ _ (D.f2 b hb).1 e
 rcases hend with rfl|⟨k1,rfl⟩
 ·refine qz (D1.done { s with heap:=h₁ } _ _ s1₁ fun h₂ e hs₂ he=>?_)
  refine elEA (he) fun oe hoe hce=>?_
  have hz₂:IsZip h₂ z TI TO .ellipsis:=hs₂ _ _ D.i1z.symm hz₁
  have hez:e≠z:=fun x=>by subst x; rw [hz₂] at hoe; cases hoe; simp at hce
  refine QV hz₂ (by simp) fun h₃ _ hs₃=>hE h₃ e s.toks (fun c o c1 _ c3 _ x=>hs₃.extBut _ _ c1 (hs₂ _ _ c3 (hs₁.extBut _ _ c1 x))) ⟨oe,hs₃.extBut _ _ hez hoe,hce⟩
 ·refine qz (D1.item k { s with heap:=h₁ } _ _ k1 s1₁ fun x h₂ tk₂ hx s1₂ hs₂=>z8 ?_)
  have hTO₂:Qv h₂ TO a b:=hs₂.extBut _ _ D.TOi1 (hs₁.extBut _ _ D.TOz hTO)
  refine qz (uV (s:={ s with heap:=h₂,toks:=tk₂ }) hTO₂ rfl ?_)
  refine qz (wpAny_updateSeq_pair (s:={ s with heap:=h₂,toks:=tk₂ }) hTO₂ fun h₃ hTO₃ hs₃=>?_)
  refine qz (wpAny_letGo (z8 ?_))
  refine qz (qz (wpAny_onRaise ?_))
  show zx _ _ (vW (.ref i2) >>= _) _ _ _
  have s2₃:S2 k h₃:=D2.frame _ _ _ s2₁ fun b hb o e=>hs₃.extBut _ _ (D.f2 b hb).2.1 (hs₂.extBut _ _ (D.f2 b hb).2.2 e)
  refine qz (D2.done { s with heap:=h₃,toks:=tk₂ } _ _ s2₃ fun h₄ e hs₄ he=>?_)
  refine elEA (he) fun oe hoe hce=>?_
  have hz₄:IsZip h₄ z TI TO .ellipsis:=hs₄ _ _ D.i2z.symm (hs₃.extBut _ _ D.TOz.symm (hs₂.extBut _ _ D.i1z.symm hz₁))
  have hez:e≠z:=fun x=>by subst x; rw [hz₄] at hoe; cases hoe; simp at hce
  refine QV (s:={ s with heap:=h₄,toks:=tk₂ }) hz₄ (by simp) fun h₅ _ hs₅=>hE h₅ e tk₂ (fun c o c1 c2 c3 c4 x=>hs₅.extBut _ _ c1 (hs₄ _ _ c4 (hs₃.extBut _ _ c2 (hs₂.extBut _ _ c3 (hs₁.extBut _ _ c1 x))))) ⟨oe,hs₅.extBut _ _ hez hoe,hce⟩
theorem xl9 (D:ZA z TI TO i1 i2 fp1 fp2) (D1:∀ A:xx,A.handled=none->Draws prog w A i1 fp1 n1 P1 S1) (D2:∀ A:xx,A.handled=none->Draws prog w A i2 fp2 n2 P2 S2) (hh:A.handled=none) {a b:qq} {Q:Option qq->qv->Prop}
  (hz:IsZip s.heap z TI TO .none) (hTI:Qv s.heap TI (.ref i1) (.ref i2)) (hTO:Qv s.heap TO a b) (s1:S1 k s.heap) (s2:S2 k s.heap) (k1:k<n1) (k2:k<n2)
  (hQ:∀ x y h' tk,P1 k x->P2 k y->IsZip h' z TI TO (rawInt s.heap.objs.size)->Qv h' TO x y->S1 (k+1) h'->S2 (k+1) h'->Qv h' s.heap.objs.size x y ->
   (∀ c o,c≠z->c≠TO->c≠i1->c≠i2->s.heap.get? c=some o->h'.get? c=some o)->Q (some (.ref s.heap.objs.size)) { s with heap:=h',toks:=tk }) :
  zx (zQ prog w) A (pyNext (.ref z)) Q E s:=by
 have hT:s.TypeIs (.ref z) "zip" := ⟨_,hz,rfl⟩
 unfold pyNext
 exact qz (wpAny_attempt (yW (name:=qk "__next__") hT F.slot_zip_next
  (kQ F.slot_zip_next hT F.entry_zip_next
   (xf2 D (D1 A.in1 hh) (D2 A.in1 hh) hz hTI hTO s1 s2 k1 k2 fun x y h' tk a1 a2 a3 a4 a5 a6 a7 a8=>z8 (hQ x y h' tk a1 a2 a3 a4 a5 a6 a7 a8)) (F.args_zip_next_1 _))))
theorem wk0 (x y:Nat):min x y=x\/(min x y<x/\min x y=y):=(Nat.lt_or_ge y x).elim (fun h=>.inr ⟨z7 (Z7 ..) h,Nat.min_eq_right (zq h)⟩) fun h=>.inl (vX h)
theorem xc0 (D:ZA z TI TO i1 i2 fp1 fp2) (D1:∀ A:xx,A.handled=none->Draws prog w A i1 fp1 n1 P1 S1) (D2:∀ A:xx,A.handled=none->Draws prog w A i2 fp2 n2 P2 S2) (hh:A.handled=none) {a b:qq} {Q:Option qq->qv->Prop}
  (hz:IsZip s.heap z TI TO .none) (hTI:Qv s.heap TI (.ref i1) (.ref i2)) (hTO:Qv s.heap TO a b) (s1:S1 k s.heap) (s2:S2 k s.heap) (hend:k=n1\/(k<n1/\k=n2))
  (hQ:∀ h' tk,(∀ c o,c≠z->c≠TO->c≠i1->c≠i2->s.heap.get? c=some o->h'.get? c=some o)->Q none { s with heap:=h',toks:=tk }) :
  zx (zQ prog w) A (pyNext (.ref z)) Q E s:=by
 have hT:s.TypeIs (.ref z) "zip" := ⟨_,hz,rfl⟩
 unfold pyNext
 refine qz (wpAny_attempt (yW (name:=qk "__next__") hT F.slot_zip_next
  (kQ F.slot_zip_next hT F.entry_zip_next (wv1 D (D1 A.in1 hh) (D2 A.in1 hh) hz hTI hTO s1 s2 hend fun h' e tk hk he=>?_) (F.args_zip_next_1 _))))
 refine elEA (he) fun o ho hc=>?_
 refine qz (wpAny_isInstance (T := "StopIteration") (b:=true) ⟨o,ho,hc⟩ isSubtype_stop ?_)
 exact z8 (hQ _ _ hk)
noncomputable abbrev zH (h:Heap) (l t:Addr):Heap:=((((h.push { cls:=.type "list_iterator", data:=.fields #[.ref l,.int 0 0] }).push { cls:=.type "tuple_iterator", data:=.fields #[.ref t,.int 0 0] }).push
 { cls:=.type "tuple", data:=.seq #[.ref h.objs.size,.ref (h.push { cls:=.type "list_iterator", data:=.fields #[.ref l,.int 0 0] }).objs.size] }).push { cls:=.type "tuple", data:=.seq #[.none,.none] })
theorem wv0 (l t:Addr) (xs ys:Array qq) :
  Meets (Builtin.«zip.__new__» ⟨[.type "zip", .ref l,.ref t],[]⟩) (fun _ R s=>s.heap.IsList l xs/\s.heap.IsTuple t ys /\
   R (.ok (.ret (.ref (zH s.heap l t).objs.size))) { s with heap:=(zH s.heap l t).push { cls:=.type "zip", data:=.fields #[.none,.bool false,.bool false,.ref ((s.heap.push { cls:=.type "list_iterator", data:=.fields #[.ref l,.int 0 0] }).push { cls:=.type "tuple_iterator", data:=.fields #[.ref t,.int 0 0] }).objs.size,
    .ref (((s.heap.push { cls:=.type "list_iterator", data:=.fields #[.ref l,.int 0 0] }).push { cls:=.type "tuple_iterator", data:=.fields #[.ref t,.int 0 0] }).push
     { cls:=.type "tuple", data:=.seq #[.ref s.heap.objs.size,.ref (s.heap.push { cls:=.type "list_iterator", data:=.fields #[.ref l,.int 0 0] }).objs.size] }).objs.size] } }) :=
 .of_wp fun prog w A R s h=>by
  obtain ⟨hp,g,d,tk,os⟩:=s; (refine elAA (h) fun hl1 hl2 h_n=>?_; clear h; revert h_n; intro h)
  have hsub:=sub_zip
  have hL1:Heap.IsList (qv.heap ⟨hp,g,d,tk,os⟩) l xs:=hl1
  have hL2:Heap.IsTuple (qv.heap ⟨hp.push { cls:=.type "list_iterator", data:=.fields #[.ref l,.int 0 0] },g,d,tk,os⟩) t ys:=by
   refine elEA (hl2) fun o ho q=>?_; exact ⟨o,qV _ ho,q⟩
  wp_walk using wpAny_pyIter_list hL1,wpAny_pyIter_tuple hL2
  exact ⟨_,rfl,h⟩
theorem wz2 {l t:Addr} {xs ys:Array qq} {Q:qq->qv->Prop} (hl:s.heap.IsList l xs) (ht:s.heap.IsTuple t ys)
  (h:∀ h',IsZip h' (s.heap.objs.size+4) (s.heap.objs.size+2) (s.heap.objs.size+3) .none->Qv h' (s.heap.objs.size+2) (.ref s.heap.objs.size) (.ref (s.heap.objs.size+1)) ->
   Qv h' (s.heap.objs.size+3) .none .none->h'.IsListIter s.heap.objs.size l 0->h'.IsTupleIter (s.heap.objs.size+1) t 0 ->
   (∀ c o,s.heap.get? c=some o->h'.get? c=some o)->Q (.ref (s.heap.objs.size+4)) { s with heap:=h' }) :
  zx (zQ prog w) A (call (.type "zip") [.ref l,.ref t]) Q E s:=by
 refine callType_new F.called_zip (by decide) (F.typeCall_zip_2 _ _) (F.newCall_zip_2 _ _) (fun obj=>F.args_object_init_3 obj _ _) F.entry_zip_new
  (wv0 l t xs ys) ⟨hl,ht,?_⟩
 generalize hA1:s.heap.push { cls:=.type "list_iterator", data:=.fields #[.ref l,.int 0 0] }=H1
 generalize hA2:H1.push { cls:=.type "tuple_iterator", data:=.fields #[.ref t,.int 0 0] }=H2
 generalize hA3:H2.push { cls:=.type "tuple", data:=.seq #[.ref s.heap.objs.size,.ref H1.objs.size] }=H3
 generalize hA4:H3.push { cls:=.type "tuple", data:=.seq #[.none,.none] }=H4
 generalize hA5:H4.push { cls:=.type "zip", data:=.fields #[.none,.bool false,.bool false,.ref H2.objs.size,.ref H3.objs.size] }=H5
 have z1:H1.objs.size=s.heap.objs.size+1:=by rw [<- hA1,Heap.size_push]
 have z2:H2.objs.size=s.heap.objs.size+2:=by rw [<- hA2,Heap.size_push,z1]
 have z3:H3.objs.size=s.heap.objs.size+3:=by rw [<- hA3,Heap.size_push,z2]
 have z4:H4.objs.size=s.heap.objs.size+4:=by rw [<- hA4,Heap.size_push,z3]
 have u5:∀ c o,H4.get? c=some o->H5.get? c=some o:=fun c o e=>by rw [<- hA5]; exact qV _ e
 have u4:∀ c o,H3.get? c=some o->H5.get? c=some o:=fun c o e=>u5 c o (by rw [<- hA4]; exact qV _ e)
 have u3:∀ c o,H2.get? c=some o->H5.get? c=some o:=fun c o e=>u4 c o (by rw [<- hA3]; exact qV _ e)
 have u2:∀ c o,H1.get? c=some o->H5.get? c=some o:=fun c o e=>u3 c o (by rw [<- hA2]; exact qV _ e)
 have u1:∀ c o,s.heap.get? c=some o->H5.get? c=some o:=fun c o e=>u2 c o (by rw [<- hA1]; exact qV _ e)
 have g5:H5.get? H4.objs.size=some { cls:=.type "zip", data:=.fields #[.none,.bool false,.bool false,.ref H2.objs.size,.ref H3.objs.size] }:=by rw [<- hA5]; exact xy _ rfl
 have g4:H5.get? H3.objs.size=some { cls:=.type "tuple", data:=.seq #[.none,.none] }:=u5 _ _ (by rw [<- hA4]; exact xy _ rfl)
 have g3:H5.get? H2.objs.size=some { cls:=.type "tuple", data:=.seq #[.ref s.heap.objs.size,.ref H1.objs.size] }:=u4 _ _ (by rw [<- hA3]; exact xy _ rfl)
 have g2:H5.get? H1.objs.size=some { cls:=.type "tuple_iterator", data:=.fields #[.ref t,.int 0 0] }:=u3 _ _ (by rw [<- hA2]; exact xy _ rfl)
 have g1:H5.get? s.heap.objs.size=some { cls:=.type "list_iterator", data:=.fields #[.ref l,.int 0 0] }:=u2 _ _ (by rw [<- hA1]; exact xy _ rfl)
 have e4:zH s.heap l t=H4:=by rw [<- hA4,<- hA3,<- hA2,<- hA1]
 show _/\_
 rw [z2,z3,z4] at g5
 rw [z1,z2] at g3
 rw [z3] at g4
 rw [z1] at g2
 rw [e4,hA5,z4]
 exact ⟨⟨_,g5,rfl⟩,h _ g5 g3 g4 ⟨_,g1,rfl,rfl⟩ ⟨_,g2,rfl,rfl⟩ u1⟩
end
noncomputable def xj5 (e:Expr):Prop:=∃ es k p,e=.Tuple es k p
noncomputable def ZT (z TI TO i1 i2 l t:Addr) (xs ys:Array qq) (k:Nat) (h:Heap):Prop:=IsZip h z TI TO .none/\Qv h TI (.ref i1) (.ref i2)/\(∃ a b,Qv h TO a b)/\(h.IsListIter i1 l k/\h.IsList l xs)/\(h.IsTupleIter i2 t k/\h.IsTuple t ys)
theorem ZA.new {n l t:Nat} (h1:l<n) (h2:t<n):ZA (n+4) (n+2) (n+3) n (n+1) [n,l] [n+1,t]:=by
 refine ⟨?_,?_,?_,?_,?_,?_,?_,?_,?_,?_,fun b hb=>?_,fun b hb=>?_⟩
 all_goals first
  | (simp only [z0,jz,or_false] at hb; rcases hb with rfl|rfl<;>(refine ⟨?_,?_,?_⟩<;>(intro e; have e:(_:Nat)=_:=e; bv_omega)))
  | (intro e; have e:(_:Nat)=_:=e; bv_omega)
theorem Walk.zip {prog:vw} {w:wy} {A:xx} {F0:Fz} (hh:A.handled=none) {z TI TO i1 i2 l t:Addr} (Z:ZA z TI TO i1 i2 [i1,l] [i2,t]) (hl1:l≠i1) (ht2:t≠i2) {xs ys:Array qq} {ds es:List D} (rl:RepL w F0 ds xs.toList) (rt:RepL w F0 es ys.toList)
  (hl:F0 l≠none) (ht:F0 t≠none) (hsz:es.length<=size):WalkG xj5 prog w A F0 z (fun a=>a∈[z,TI,TO,i1,i2]) (zipL ds es) (ZT z TI TO i1 i2 l t xs ys):=by
 have D1:∀ A:xx,A.handled=none->Draws prog w A i1 [i1,l] xs.size (fun i x=>xs[i]?=some x) (fun i h=>h.IsListIter i1 l i/\h.IsList l xs):=fun A hA=>Draws.list hA i1 l hl1 xs
 have D2:∀ A:xx,A.handled=none->Draws prog w A i2 [i2,t] ys.size (fun i x=>ys[i]?=some x) (fun i h=>h.IsTupleIter i2 t i/\h.IsTuple t ys):=fun A hA=>Draws.tup hA i2 t ht2 ys
 have e1:=rl.length
 have e2:=rt.length
 simp only [vk] at e1 e2
 have hlen:(zipL ds es).length=min xs.size ys.size:=by simp [zipL,e1,e2]
 have old:∀ {b:Addr} {h h':Heap},F0 b≠none->F0.In h->F0.In h'->∀ o,h.get? b=some o->h'.get? b=some o:=fun {b h h'} hb hin hin' o e=>by
  cases hq:F0 b with
  | none=>exact absurd hq hb
  | some o'=>have:=hin b o' hq; rw [e] at this; cases this; exact hin' b _ hq
 refine ⟨by simp,fun i h a t ha=>?_,fun i h h' t hin k hin'=>?_,fun i d tg s E hg hd st=>?_,fun s E st=>?_,fun i s Q E st hQ=>wpAny_pyIter_zip st.1 hQ⟩
 ·obtain ⟨hz,hTI,⟨a',b',hTO⟩,⟨⟨o1,h1,_⟩,_⟩,⟨⟨o2,h2,_⟩,_⟩⟩:=t
  simp only [z0,jz,or_false] at ha
  rcases ha with rfl|rfl|rfl|rfl|rfl
  ·exact ⟨_,hz⟩
  ·exact ⟨_,hTI⟩
  ·exact ⟨_,hTO⟩
  ·exact ⟨_,h1⟩
  ·exact ⟨_,h2⟩
 ·obtain ⟨hz,hTI,⟨a',b',hTO⟩,s1,s2⟩:=t
  refine ⟨k _ _ (by simp) hz,k _ _ (by simp) hTI,⟨a',b',k _ _ (by simp) hTO⟩,(D1 A hh).frame _ _ _ s1 fun b hb o e=>?_,(D2 A hh).frame _ _ _ s2 fun b hb o e=>?_⟩
  ·simp only [z0,jz,or_false] at hb
   rcases hb with rfl|rfl
   ·exact k _ _ (by simp) e
   ·exact old hl hin hin' o e
  ·simp only [z0,jz,or_false] at hb
   rcases hb with rfl|rfl
   ·exact k _ _ (by simp) e
   ·exact old ht hin hin' o e
 ·(refine elEEE (hg) fun tes tk0 tp e_3=>?_; subst e_3)
  obtain ⟨hz,hTI,⟨a',b',hTO⟩,s1,s2⟩:=st
  have hi:=(z6.mp hd).1
  rw [hlen] at hi
  refine xl9 Z D1 D2 hh hz hTI hTO s1 s2 (jQ hi (k8 ..)) (jQ hi (Z7 ..)) fun x y h' tk hx hy z' o' s1' s2' hp kp=>⟨_,rfl,?_⟩
  refine wpAny_letOwnedTupleGo_zip (s:={ s with heap:=h',toks:=tk }) z' fun h2 hz2 hs2=>?_
  have nT:s.heap.get? s.heap.objs.size=none:=zz7 _
  have nz:s.heap.objs.size≠z:=u9 (wq hz)
  have hp2:Qv h2 s.heap.objs.size x y:=hs2.extBut _ _ nz hp
  have kp2:∀ a o,¬ a∈[z,TI,TO,i1,i2]->s.heap.get? a=some o->h2.get? a=some o:=fun a o ha e=>by
   simp only [z0,jz,or_false,not_or] at ha
   exact hs2.extBut _ _ ha.1 (kp a o ha.1 ha.2.2.1 ha.2.2.2.1 ha.2.2.2.2 e)
  refine ⟨h2,tk,rfl,⟨hz2,hs2.extBut _ _ Z.TIz (kp _ _ Z.TIz Z.TITO Z.TIi1 Z.TIi2 hTI),⟨x,y,hs2.extBut _ _ Z.TOz o'⟩,(D1 A hh).frame _ _ _ s1' fun b hb o e=>hs2.extBut _ _ (Z.f1 b hb).1 e,(D2 A hh).frame _ _ _ s2' fun b hb o e=>hs2.extBut _ _ (Z.f2 b hb).1 e⟩,kp2,fun F le hin hW=>?_⟩
  have fT:F s.heap.objs.size=none:=by
   cases e:F s.heap.objs.size with
   | none=>rfl
   | some o=>have:=hin _ _ e; rw [nT] at this; cases this
  have hinF:F.In h2:=fun a o e=>kp2 a o (fun ha=>by rw [hW a ha] at e; cases e) (hin a o e)
  refine ⟨F.add s.heap.objs.size (tobj #[x,y] 0),Fz.le_add _ fT,Fz.in_add hinF hp2,fun a e=>?_,?_⟩
  ·by_cases ha:a=s.heap.objs.size
   ·exact .inr (ha▸nT)
   ·left; rwa [Fz.add_other F _ ha] at e
  ·have hle:F0.le (F.add s.heap.objs.size (tobj #[x,y] 0)):=Fz.le.trans le (Fz.le_add _ fT)
   rw [zipL,Q4] at hd
   (refine elEA (Option.map_eq_some_iff.mp hd) fun p hp' e_2=>?_; subst e_2)
   obtain ⟨q1,q2⟩:=List.getElem?_zip_eq_some.mp hp'
   refine elEA (rl.get q1) fun u hu ru=>?_
   refine elEA (rt.get q2) fun v hv rv=>?_
   simp at hu hv
   rw [hx] at hu; cases hu
   rw [hy] at hv; cases hv
   simp only [zp0]
   exact ⟨by simp only [vZ,List.length_nil]; unfold size; decide,s.heap.objs.size,#[x,y],0,rfl,Fz.add_self ..,RepL.cons_ (Rep.mono hle _ ru) (RepL.cons_ (Rep.mono hle _ rv) RepL.nil_)⟩
 ·obtain ⟨hz,hTI,⟨a',b',hTO⟩,s1,s2⟩:=st
  rw [hlen] at s1 s2
  refine xc0 Z D1 D2 hh hz hTI hTO s1 s2 (wk0 ..) fun h' tk kp=>⟨rfl,h',tk,rfl,fun a o ha e=>?_⟩
  simp only [z0,jz,or_false,not_or] at ha
  exact kp a o ha.1 ha.2.2.1 ha.2.2.2.1 ha.2.2.2.2 e
theorem xp9 {d:D} {l:List D} (h:wz3 d=some l):d=.tuple l:=by
 cases d<;>first|(exact (noS h).elim)|(cases h; rfl)
theorem wz4 {d:D} {l:List D} (h:ye0 d=some l):d=.list l:=by
 cases d<;>first|(exact (noS h).elim)|(cases h; rfl)
section
variable {C:Cx} {Γ:Mini.Env} {N:Nat} {n:Nat} {sc:xj} {ν:Nu}
theorem PWg.zip (G:Ground C Γ N) {a b:I} {ea eb:Expr} {px p:Pos} (hg:zw4 sc ν "zip" = true) (ha:PE C Γ N a n sc ν ea) (hb:PE C Γ N b n sc ν eb) (h1:okE ea=true) (h2:okE eb=true):PWg C Γ N xj5 (.zip a b) n sc ν (.Call (.Name "zip" px) [ea,eb] [] p):=by
 intro env P vs σ σ' X F s A E ds K S hv
 refine bK3 (hv) fun d f σ1 he hv=>?_
 refine bK3 (he) fun x' fx σ2 hx he=>?_
 refine bK1 (he) fun x hxi he=>?_
 refine bK3 (he) fun y' fy σ3 hy he=>?_
 refine bK1 (he) fun y hyi he=>?_
 obtain rfl:=wz4 hxi
 obtain rfl:=xp9 hyi
 cases he
 cases hv
 refine Q6 (zg5 (v:=.type "zip") G K.O S hg (by decide) ?_)
 refine j8 (j3 (wpM (ha.frozen K S hx) (fun v s₁ q=>j3 ?_ (zv9 h2))) (zv9 h1)) (zv9 h1) (by rw [zv9 h2]; rfl)
 obtain ⟨F1,st,r⟩:=q
 refine wpM (hb.frozen K st.st hy) (fun u s₂ q=>yy ?_)
 obtain ⟨F2,st2,r2⟩:=q
 have r1:=Rep.mono st2.le _ r
 simp only [zf5,zp0] at r1 r2
 (refine elAEEEEAAAA (r1) fun hz1 l ob ws m e_5 hF1 hcl hdt r1_n=>?_; clear r1; revert r1_n; intro r1; subst e_5)
 (refine elAEEEAA (r2) fun hz2 t us m2 e_4 hF2 r2_n=>?_; clear r2; revert r2_n; intro r2; subst e_4)
 have hl1:=st2.st.sub _ _ hF1
 have hl2:=st2.st.sub _ _ hF2
 have b1:=wq hl1
 have b2:=wq hl2
 refine wz2 (xs:=ws) (ys:=us) ⟨_,hl1,hcl,_,hdt⟩ ⟨_,hl2,rfl,_,rfl⟩ fun h' hz hTI hTO hi1 hi2 keep=>?_
 have st3:=Step.grow (tk:=s₂.toks) st2.st keep
 have t0:ZT (s₂.heap.objs.size+4) (s₂.heap.objs.size+2) (s₂.heap.objs.size+3) s₂.heap.objs.size (s₂.heap.objs.size+1) l t ws us 0 h' :=
  ⟨hz,hTI,⟨_,_,hTO⟩,⟨hi1,⟨_,keep _ _ hl1,hcl,_,hdt⟩⟩,⟨hi2,⟨_,keep _ _ hl2,rfl,_,rfl⟩⟩⟩
 refine wpAny_pyIter_zip (s:={ s₂ with heap:=h' }) hz ?_
 refine ⟨F2,_,_,_,rfl,(st.trans st2).trans st3,Walk.zip K.R.handled (ZA.new b1 b2) (jV b1) (jV (Z1 b2)) r1 r2 (by rw [hF1]; exact fun x=>nomatch x) (by rw [hF2]; exact fun x=>nomatch x) hz2,t0,?_,fun b hb=>?_⟩
 ·simp only [zipL,xw,List.length_zip]; exact qw (k8 ..) hz1
 ·have:s₂.heap.get? b=none:=by
   cases e:s₂.heap.get? b with
   | none=>rfl
   | some o =>
    have hlt:(b:Nat)<s₂.heap.objs.size:=wq e
    have hge:s₂.heap.objs.size<=(b:Nat):=by
     simp only [z0,jz,or_false] at hb
     rcases hb with rfl|rfl|rfl|rfl|rfl
     ·exact qQ _ _
     ·exact qQ _ _
     ·exact qQ _ _
     ·exact zW _
     ·exact qQ _ _
    exact absurd hlt (Qk.mpr hge)
  exact st2.st.nob_new this
end
section
variable {C:Cx} {X W:Addr->Prop} {F F':Fz} {h h':Heap} {P:List Place} {vs:List (Option qq)} {σ:Sg}
theorem St.change2 (S:St C X F h P vs σ) (keep:∀ a o,¬ W a->h.get? a=some o->h'.get? a=some o) (hW:∀ a,W a->Nob C X F P vs σ a) (l:F.le F') (hin:F'.In h') (hnew:∀ a,F' a≠none->F a≠none\/h.get? a=none):St C X F' h' P vs σ:=by
 have S1:St C X F h' P vs σ:=S.change keep hW
 have hno:∀ a o,h.get? a=some o->F a=none->F' a=none:=fun a o e q=>by
  cases hq:F' a with
  | none=>rfl
  | some o' =>
   rcases hnew a (by rw [hq]; exact fun x=>nomatch x) with q'|q'
   ·exact absurd q q'
   ·rw [q'] at e; cases e
 exact {
  sub:=hin
  low:=Fz.le.trans S.low l
  base:=S1.base
  cov:=zb7 l S.cov
  xf:=fun a e=>let ⟨o,ho⟩:=S.xal a e; hno a o ho (S.xf a e)
  xal:=S1.xal
  lenP:=S.lenP
  lenS:=S.lenS
  has:=S1.has
  slot:=fun i ov av e1 e2=>(S1.slot i ov av e1 e2).mono l fun a d q1 q2=>by
   subst q1 q2
   refine elEAA (S.slot i _ _ e1 e2) fun a' e' r q=>?_
   cases e'
   obtain ⟨o,ho⟩:=q.there
   exact ⟨hno a o ho r,fun o e=>e⟩
  nodup:=S.nodup
  cont:=fun p hp=>by
   obtain ⟨i,hi⟩:=uQ.mp hp
   refine elEA (S.placeAt hi) fun ov _ hh=>?_
   obtain ⟨o,ho⟩:=Place.has_there hh
   exact ⟨hno _ o ho (S.cont p hp).1,(S.cont p hp).2⟩
  own:=S.own
  inj:=S.inj }
theorem St.forget (S:St C X F h P vs σ) {τ:Sg} (hl:τ.length=σ.length) (ht:∀ (k:Nat) av,τ[k]?=some av->σ[k]?=some av\/av=none):St C X F h P vs τ:=by
 have hsub:∀ k a,zt2 vs τ k a->zt2 vs σ k a:=fun k a ⟨h1,d,h2⟩=>⟨h1,d,(ht k _ h2).resolve_right (fun x=>nomatch x)⟩
 exact {
  sub:=S.sub
  low:=S.low
  base:=S.base
  cov:=S.cov
  xf:=S.xf
  xal:=S.xal
  lenP:=S.lenP
  lenS:=hl.trans S.lenS
  has:=S.has
  slot:=fun i ov av e1 e2=>by
   rcases ht i av e2 with q|rfl
   ·exact S.slot i ov av e1 q
   ·exact trivial
  nodup:=S.nodup
  cont:=S.cont
  own:=fun k a ho=>S.own k a (hsub k a ho)
  inj:=fun i j a hi hj=>S.inj i j a (hsub i a hi) (hsub j a hj) }
end
set_option tactic.hygienic true in
theorem xp7 {env:w0} {csc:xj} (h:∀ p∈csc.names,p.2=.free->∃ c,env.cells.lookup p.1=some c) :
  ∃ cl,closureFor csc env=pure cl/\∀ x,(x,ky)∈csc.names->cl.lookup x=env.cells.lookup x:=by
 have gen:∀ (names:List (Str×kx)),(∀ p∈names,p.2=.free->∃ c,env.cells.lookup p.1=some c)->∀ acc:List (Str×Addr),(∀ x c,acc.lookup x=some c->env.cells.lookup x=some c) ->
   ∃ cl,(forIn names acc fun p r=>if (p.2==ky)=true then do let a <- cellOf env p.1; pure (wZ ((p.1,a)::r)) else pure (wZ r):Sem (List (Str×Addr)))=pure cl /\
    (∀ x c,cl.lookup x=some c->env.cells.lookup x=some c)/\∀ x,((x,ky)∈names\/(acc.lookup x).isSome)->(cl.lookup x).isSome:=by
  intro names
  induction names with
  | nil=>exact fun _ acc ha=>⟨acc,by simp,ha,fun x hx=>hx.resolve_left (by simp)⟩
  | cons p r ih =>
   intro hp acc ha
   by_cases hk:p.2=.free
   ·obtain ⟨c,hc⟩:=hp p j5 hk
    refine elEAA (ih (fun q hq=>hp q (xX _ hq)) ((p.1,c)::acc) (fun x c' hx=>by
     rw [j4] at hx
     split at hx
     ·rename_i hb; cases hx; rw [eq_of_beq hb]; exact hc
     ·exact ha x c' hx)) fun cl e1 e2 e3=>?_
    refine ⟨cl,?_,e2,fun x hx=>e3 x ?_⟩
    ·rw [List.forIn_cons]
     have:cellOf env p.1=pure c:=by unfold cellOf; rw [hc]
     simp only [hk,beq_self_eq_true,if_true,this]
     exact e1
    ·rcases hx with hx|hx
     ·rcases z0.mp hx with e|hx
      ·right; rw [<- e]; simp [j4]
      ·exact .inl hx
     ·right
      rw [j4]
      split
      ·rfl
      ·exact hx
   ·refine elEAA (ih (fun q hq=>hp q (xX _ hq)) acc ha) fun cl e1 e2 e3=>?_
    refine ⟨cl,?_,e2,fun x hx=>e3 x ?_⟩
    ·rw [List.forIn_cons]
     have:(p.2==ky)=false:=by simpa using hk
     simp only [this,j6,if_false]
     exact e1
    ·rcases hx with hx|hx
     ·rcases z0.mp hx with e|hx
      ·rw [<- e] at hk; exact absurd rfl hk
      ·exact .inl hx
     ·exact .inr hx
 refine elEAA (gen csc.names h [] (by simp)) fun cl e1 e2 e3=>?_
 refine ⟨cl,?_,fun x hx=>?_⟩
 ·have e0:closureFor csc env=(forIn csc.names ([]:List (Str×Addr)) fun p r=>if (p.2==ky)=true then do let a <- cellOf env p.1; pure (wZ ((p.1,a)::r)) else pure (wZ r)) >>= fun cs=>pure cs:=rfl
  rw [e0,e1]
  rfl
 ·have:=e3 x (.inl hx)
  obtain ⟨c,hc⟩:=y7.mp this
  rw [hc,e2 x c hc]
theorem zm7 {env:w0}:∀ (names:List (Str×kx)) (x:Str),
  (names.map fun (n,k)=>if (k==ky&&env.scope.kind==.function&&env.kindOf n==some .cell) then (n,kx.cell) else (n,k)).lookup x =
   (names.lookup x).map fun k=>if (k==ky&&env.scope.kind==.function&&env.kindOf x==some .cell) then kx.cell else k
 | [],_=>rfl
 | (n,k)::r,x=>by
  have ih:=zm7 (env:=env) r x
  show Q3 x ((if (k==ky&&env.scope.kind==.function&&env.kindOf n==some .cell)=true then (n,kx.cell) else (n,k))::_)=_
  cases hx:x==n with
  | true =>
   have hx':x=n:=eq_of_beq hx
   subst hx'
   by_cases hc:(k==ky&&env.scope.kind==.function&&env.kindOf x==some .cell)=true
   ·rw [if_pos hc]; simp only [j4,beq_self_eq_true,Option.map_some]; rw [if_pos hc]
   ·rw [if_neg hc]; simp only [j4,beq_self_eq_true,Option.map_some]; rw [if_neg hc]
  | false =>
   by_cases hc:(k==ky&&env.scope.kind==.function&&env.kindOf n==some .cell)=true
   ·rw [if_pos hc]; simp only [j4,hx]; exact ih
   ·rw [if_neg hc]; simp only [j4,hx]; exact ih
section
variable {sc csc:xj} {ν:Nu} {env:w0} {P:List Place} {n:Nat} {x:Str} {cl:List (Str×Addr)} {B:Addr}
structure CompOk (outer:xj) (ν:Nu) (xs:List Str) (csc:xj):Prop where
 kind:csc.kind=.function
 loc:∀ x∈xs,csc.names.lookup x=some .local/\zl2 x=true
 cell:∀ p∈csc.names,p.2≠.cell
 look:∀ p∈csc.names,csc.names.lookup p.1=some p.2
 free:∀ p∈csc.names,p.2=.free->outer.names.lookup p.1=some .cell
theorem zh5 {outer:xj} {xs:List Str} (h:zl7 outer ν xs csc=true):CompOk outer ν xs csc:=by
 unfold zl7 at h
 simp only [zj,beq_iff_eq,xJ,bne_iff_ne,ne_eq,Q0] at h
 obtain ⟨⟨h1,h2⟩,h3⟩:=h
 refine ⟨h1,fun x hx=>⟨(h2 x hx).1.1,(h2 x hx).1.2⟩,fun p hp=>(h3 p hp).1.1.1,fun p hp=>(h3 p hp).1.2,fun p hp hf=>?_⟩
 rcases (h3 p hp).2 with q|q
 ·exact absurd hf q
 ·exact q.1.1
set_option tactic.hygienic true in
theorem mem_of_lookup {α β:Type} [BEq α] [LawfulBEq α]:∀ {l:List (α×β)} {a:α} {b:β},l.lookup a=some b->(a,b)∈l
 | (a',b')::l,a,b,h=>by
  rw [j4] at h
  split at h
  ·rename_i e; cases h; rw [eq_of_beq e]; exact j5
  ·exact xX _ (mem_of_lookup h)
theorem wr9 {xs:List Str} {y:Str} {i:Nat} (h:xs.idxOf? y=some i):xs[i]?=some y:=by
 unfold List.idxOf? at h
 refine elEA (List.findIdx?_eq_some_iff_getElem.mp h) fun hi he _=>?_
 rw [qJ hi,eq_of_beq he]
set_option tactic.hygienic true in
theorem xa7 {xs:List Str} (O:EnvOk env sc ν P) (hn:n=P.length) (K:CompOk sc ν xs csc) (hcl:∀ y,(y,ky)∈csc.names->cl.lookup y=env.cells.lookup y) :
  EnvOk (compEnvC csc cl B env) csc (zx7 n ν xs csc) (P++xs.map (.loc B)) where
 kind:=by simp [compEnvC,relabel,K.kind]
 glob:=O.glob
 blt:=O.blt
 slot:=fun y k hk=>by
  unfold zx7 at hk
  cases hi:xs.idxOf? y with
  | some i =>
   rw [hi] at hk
   have hk:n+i=k:=xW hk
   subst hk
   have hg:=wr9 hi
   left
   refine ⟨lookup_relabel_local (K.loc _ (w9 hg)).1,?_⟩
   rw [hn,wW (qQ _ _),yk,Q4,hg]
   rfl
  | none =>
   rw [hi] at hk
   simp only [beq_iff_eq] at hk
   split at hk
   ·rename_i hf
    right
    have hm:=mem_of_lookup hf
    have hc:=O.cell y (K.free _ hm rfl)
    refine ⟨.inl ?_,?_⟩
    ·show (relabel csc env).names.lookup y=_
     unfold relabel
     rw [zm7,hf]
     simp [O.kind,hc.1]
    ·rcases O.slot y k hk with ⟨q,_⟩|⟨_,c,q1,q2⟩
     ·rw [hc.1] at q; cases q
     ·refine ⟨c,(hcl y hm).trans q1,?_⟩
      rw [xV (z6.mp q2).1]; exact q2
   ·cases hk
 gl:=fun y hy=>by
  show (relabel csc env).names.lookup y=_
  unfold relabel
  rw [zm7,hy]
  simp
 cell:=fun y hy=>absurd rfl (K.cell _ (mem_of_lookup hy))
end
section
variable {C:Cx} {Γ:Mini.Env} {N:Nat}
noncomputable abbrev vals (ws:List D):Sg:=ws.map fun x=>some (.val x)
theorem xp6 {n:Nat} {bc:D->Option (List D)} {cond:Sg->Option (D×Sg)} {elt:Ev} {d:D} {r:List D} {σ σ':Sg} {xs:List D} (h:zq9 n bc cond elt (d::r) σ=some (xs,σ')) :
  ∃ ws c σ1,bc d=some ws/\cond (σ++vals ws)=some (c,σ1)/\((zy2 c=some false/\zq9 n bc cond elt r (σ1.take n)=some (xs,σ')) \/
   (zy2 c=some true/\∃ x f σ2 ys,elt σ1=some (x,f,σ2)/\zq9 n bc cond elt r (σ2.take n)=some (ys,σ')/\xs=x::ys)):=by
 refine bK1 (h) fun ws hw h=>?_
 refine bK2 (h) fun c σ1 hc h=>?_
 refine bK1 (h) fun b hb h=>?_
 refine ⟨ws,c,σ1,hw,hc,?_⟩
 cases b with
 | false=>exact .inl ⟨hb,h⟩
 | true =>
  refine bK3 (h) fun x f σ2 he h=>?_
  refine bK2 (h) fun ys σ3 hr h=>?_
  refine sm2 h ?_
  exact .inr ⟨hb,x,f,σ2,ys,he,hr,rfl⟩
noncomputable def PC (C:Cx) (Γ:Mini.Env) (N:Nat) (i:I) (n:Nat) (sc:xj) (ν:Nu) (ifs:List Expr):Prop:=∀ {env:w0} {P:List Place} {vs:List (Option qq)} {σ σ':Sg} {X:Addr->Prop} {F:Fz} {s:qv} {A:xx} {E:qq->qv->Prop} {c:D} {b:Bool},
 Cn Γ N env sc ν P n A->St C X F s.heap P vs σ->zs7 i (ev Γ i) σ=some (c,σ')->zy2 c=some b ->
  zx (zQ C.prog C.w) A (forIn ifs true fun c r=>if r=true then do let ok <- isTrue c env (eval c env); pure (wZ ok) else pure (wZ r)) (PostB C X P vs F s σ' b) E s
theorem PC.none {n:Nat} {sc:xj} {ν:Nu}:PC C Γ N .omit n sc ν []:=by
 intro env P vs σ σ' X F s A E c b K S hv hb
 cases hv
 cases hb
 exact wpAny_tests_nil ⟨rfl,F,Step.refl S⟩
theorem xa6 {i:I} (h:zf8 i=false) (e:Ev) (σ:Sg):zs7 i e σ=(e σ).bind fun p=>some (p.1,p.2.2):=by
 unfold zs7; rw [h]; rfl
theorem PC.one {n:Nat} {sc:xj} {ν:Nu} {i:I} {e:Expr} (h0:zf8 i=false) (h:PT C Γ N i n sc ν e):PC C Γ N i n sc ν [e]:=by
 intro env P vs σ σ' X F s A E c b K S hv hb
 rw [xa6 h0] at hv
 refine bK3 (hv) fun d f σ1 he hv=>?_
 cases hv
 exact wpAny_tests_one (h K S (yt5 he) hb)
noncomputable abbrev zf2 (m:Nat):Sg:=jv m none
theorem yw5 {σ:Sg} {n m:Nat} (h:σ.length=n+m):(σ.take n++zf2 m).length=σ.length/\∀ (k:Nat) av,(σ.take n++zf2 m)[k]?=some av->σ[k]?=some av\/av=none:=by
 have hl:(List.take n σ).length=n:=by rw [List.length_take,h]; exact vX (qQ ..)
 refine ⟨by rw [z9,hl,h]; simp,fun k av e=>?_⟩
 by_cases hk:k<n
 ·rw [xV (by bv_omega),List.getElem?_take_of_lt hk] at e; exact .inl e
 ·rw [wW (by bv_omega)] at e
  exact .inr (ux.mp (w9 e)).2
theorem take_left {σ:Sg} {n:Nat} {τ:Sg} (h:σ.length=n):(σ++τ).take n=σ:=by subst h; exact List.take_left
noncomputable def PBc (C:Cx) (bc:D->Option (List D)) (n:Nat) (xs:List Str) (csc:xj) (ν:Nu) (tg:Expr):Prop:=∀ {cenv:w0} {P:List Place} {vs ov:List (Option qq)} {σ:Sg} {X:Addr->Prop} {F:Fz} {s:qv} {A:xx} {E:qq->qv->Prop} {d:D} {ws:List D} {v:qq},
 A.handled=none->EnvOk cenv csc (zx7 n ν xs csc) P->(∀ x∈xs,cenv.kindOf x=some .local)->vs.length=n->σ.length=n->ov.length=xs.length->St C X F s.heap P (vs++ov) (σ++zf2 xs.length)->Rep C.w F d v->bc d=some ws ->
  zx (zQ C.prog C.w) A (assign tg cenv v) (fun _ s'=>∃ ov',ov'.length=xs.length/\Step C X P (vs++ov') F s (σ++vals ws) F s') E s
noncomputable def NxC (M:Model) (A:xx) (E:qq->qv->Prop) (tg:Expr) (it:qq) (V:qq->qv->Prop) (Z:qv->Prop) (r:Option qq) (s:qv):Prop:=match r with
 | none=>Z s
 | some v=>zx M A (letOwnedTupleGo tg it v) (fun _ s₀=>V v s₀) E s
inductive ItemOk (C:Cx) (X W W':Addr->Prop) (T:Nat->Heap->Prop) (P:List Place) (vs:List (Option qq)) (F:Fz) (s:qv) (σ:Sg) (i:Nat) (d:D) (v:qq) (s₀:qv):Prop
 | mk (F2:Fz) (h':Heap) (tk:Nat) (e:s₀={ s with heap:=h',toks:=tk }) (t:T (i+1) h') (le:F.le F2) (S:St C (Or' X W') F2 h' P vs σ) (same:XSame X s.heap h') (rv:Rep C.w F2 d v) (keep:∀ a o,¬ W a->s.heap.get? a=some o->h'.get? a=some o)
theorem yk0 {gt:Expr->Prop} {A:xx} {E:qq->qv->Prop} {F₂ F:Fz} {J:Addr} {X W W':Addr->Prop} {ds:List D} {T:Nat->Heap->Prop} {P:List Place} {vs:List (Option qq)} {s:qv} {σ:Sg} {i:Nat} {d:D} {tg:Expr} {V:qq->qv->Prop} {Z:qv->Prop}
  (hW:WalkG gt C.prog C.w A F₂ J W ds T) (hg:gt tg) (hsub:∀ a,W a->W' a) (hW':∀ a,W' a->¬ X a/\C.H.get? a=none) (le:F₂.le F) (hcov:∀ a o,C.H.get? a=some o->X a\/F a≠none) (S:St C (Or' X W') F s.heap P vs σ) (t:T i s.heap) (hd:ds[i]?=some d)
  (k:∀ v s₀,ItemOk C X W W' T P vs F s σ i d v s₀->V v s₀):zx (zQ C.prog C.w) A (pyNext (.ref J)) (NxC (zQ C.prog C.w) A E tg (.ref J) V Z) E s:=by
 have S0:=S.release hcov
 refine wpM (hW.item i d tg s E hg hd t) fun r s₁ q=>?_
 refine elEA q fun v e q'=>?_
 rw [e]
 refine wpM q' fun _ s₀ q=>?_
 refine elEEAAA q fun h' tk' e t' keep hF=>?_
 refine elEAAA (hF F le S.sub fun a ha=>S.xf a (.inr (hsub a ha))) fun F2 le2 hin2 hnew2 rv=>k v s₀ ⟨F2,h',tk',e,t',le2,?_,?_,rv,keep⟩
 ·refine (S0.change2 keep (fun a ha=>Nob.back S (hsub a ha) (hW' a (hsub a ha)).1 (hW' a (hsub a ha)).2) le2 hin2 hnew2).protect fun a ha=>?_
  have q:=Nob.back S ha (hW' a ha).1 (hW' a ha).2
  refine (S.xal a (.inr ha)).elim fun o ho=>⟨q.mono ?_,?_⟩
  ·cases hq:F2 a with
   | none=>rfl
   | some o' =>
    exact (hnew2 a (by rw [hq]; exact fun x=>nomatch x)).elim (fun q'=>absurd q.f q') fun q'=>(noS (q'.symm.trans ho)).elim
  ·by_cases hw:W a
   ·exact hW.alive (i+1) _ a t' hw
   ·exact ⟨o,keep a o hw ho⟩
 ·exact fun a e=>(S0.xal a e).elim fun o ho=>(keep a o (fun hw=>(hW' a (hsub a hw)).1 e) ho).trans ho.symm
theorem yk1 {gt:Expr->Prop} {A:xx} {E:qq->qv->Prop} {F₂:Fz} {J:Addr} {W:Addr->Prop} {ds:List D} {T:Nat->Heap->Prop} {s:qv} {tg:Expr} {V:qq->qv->Prop} {Z:qv->Prop} (hW:WalkG gt C.prog C.w A F₂ J W ds T) (t:T ds.length s.heap)
  (k:∀ h' tk,(∀ a o,¬ W a->s.heap.get? a=some o->h'.get? a=some o)->Z { s with heap:=h',toks:=tk }):zx (zQ C.prog C.w) A (pyNext (.ref J)) (NxC (zQ C.prog C.w) A E tg (.ref J) V Z) E s:=by
 refine wpM (hW.done s E t) fun r s₁ q=>elAEEA q fun e h' tk e2 keep=>?_
 rw [e,e2]
 exact k h' tk keep
section
variable (M:Model) (A:xx) (E:qq->qv->Prop) (tg ee:Expr) (ifs:List Expr) (env:w0) (it acc:qq) (Q:qv->Prop)
noncomputable def CkT (ok:Bool) (s:qv):Prop:=bif ok then zx M A (eval ee env) (fun x s₄=>zx M A (call (.builtin "list.append") [acc,x]) (fun _ s₅=>Q s₅) E s₄) E s else Q s
noncomputable def CkA (_:Unit) (s:qv):Prop:=zx M A (forIn ifs true fun c r=>if r=true then do let ok <- isTrue c env (eval c env); pure (wZ ok) else pure (wZ r)) (CkT M A E ee env acc Q) E s
noncomputable def CkV (v:qq) (s:qv):Prop:=zx M A (assign tg env v) (CkA M A E ee ifs env acc Q) E s
end
theorem xy1 {prog:vw} {w:wy} {A:xx} {R:Result->qv->Prop} {s:qv} {elt target iter:Expr} {ifs:List Expr} {scope:xj} {pos:Pos} {it acc:qq} {env:w0} (I:Nat->qv->Prop)
  (turn:∀ E n s,I n s->zx (zQ prog w) A (pyNext it) (NxC (zQ prog w) A E target it (CkV (zQ prog w) A E target elt ifs env acc fun s₅=>∃ m,m<n/\I m s₅) fun s₁=>R (.ok .next) s₁) E s)
  (n:Nat) (h:I n s) :
  codeAny (zQ prog w) A (.compLoop (.ListComp elt [⟨target,iter,ifs,0⟩] scope pos) 0 it acc env) R s:=by
 refine codeAny_loop rfl I (fun n s hI=>?_) n h
 show zx _ A ((compTurn (.ListComp elt [⟨target,iter,ifs,0⟩] scope pos) 0 it acc env).onRaise (fun x=>do noteFrame x env; theTreesLotGoes x)) _ _ s
 refine wpAny_noted ?_
 rw [compTurn_list]
 refine qz (wpAny_standAt (qz (k5 (turn _ n s hI) (fun r s₁ h₁=>?_) fun _ _ h'=>h')))
 cases r with
 | none=>exact z8 h₁
 | some v =>
  refine qz (k5 h₁ (fun _ s₀ h₀=>qz (k5 h₀ (fun _ s₂ h₂=>qz (k5 h₂ (fun ok s₃ h₃=>?_) fun _ _ h'=>h')) fun _ _ h'=>h')) fun _ _ h'=>h')
  cases ok with
  | false=>exact z8 ⟨rfl,h₃⟩
  | true =>
   exact qz (qz (k5 h₃ (fun x s₄ h₄=>qz (k5 h₄ (fun _ s₅ h₅=>z8 (z8 ⟨rfl,h₅⟩)) fun _ _ h'=>h')) fun _ _ h'=>h'))
inductive CompInv (C:Cx) (Γ:Mini.Env) (X W':Addr->Prop) (T:Nat->Heap->Prop) (P:List Place) (vs:List (Option qq)) (F₂:Fz) (s:qv) (ds xs:List D) (Dn:Addr) (n m0:Nat) (bc:D->Option (List D)) (cond elt:I) (σ':Sg) (k:Nat) (s':qv):Prop
 | mk (F':Fz) (i:Nat) (σi:Sg) (ov:List (Option qq)) (hov:ov.length=m0) (done rest:List D) (ys:Array qq) (m:Nat) (ek:k=ds.length+1 - i) (hi:i<=ds.length) (es:∃ h' tk,s'={ s with heap:=h',toks:=tk }) (le:F₂.le F') (same:XSame X s.heap s'.heap)
  (S:St C (Or' X W') F' s'.heap P (vs++ov) (σi++zf2 m0)) (t:T i s'.heap) (hacc:s'.heap.get? Dn=some (lobj ys m)) (rd:RepL C.w F' done ys.toList)
  (hc:zq9 n bc (zs7 cond (ev Γ cond)) (ev Γ elt) (ds.drop i) σi=some (rest,σ')) (hdone:done++rest=xs)
theorem xp5 {n:Nat} {sc csc:xj} {ν:Nu} {env:w0} {P:List Place} {vs:List (Option qq)} {σ₂ σ':Sg} {X:Addr->Prop} {F F₂:Fz} {s s₂:qv} {A:xx} {E:qq->qv->Prop} {ds xs:List D}
  {elt cond:I} {ee it:Expr} {ifs:List Expr} {nm:List Str} {tg:Expr} {bc:D->Option (List D)} {pos:Pos} {cl:List (Str×Addr)} {J:Addr} {W:Addr->Prop} {T:Nat->Heap->Prop} {RR:qq->Addr->Result->qv->Prop}
  (hBc:PBc C bc n nm csc ν tg) (hnm:nm.Nodup) (hne:nm≠[]) (hE:PE C Γ N elt (n+nm.length) csc (zx7 n ν nm csc) ee) (hT:PC C Γ N cond (n+nm.length) csc (zx7 n ν nm csc) ifs)
  (K:CompOk sc ν nm csc) (hcl:∀ y,(y,ky)∈csc.names->cl.lookup y=env.cells.lookup y) (KN:Cn Γ N env sc ν P n A)
  (st:Step C X P vs F s σ₂ F₂ s₂) (hW:Walk C.prog C.w A F₂ J W ds T) (ht:T 0 s₂.heap) (hz:ds.length<=size) (hnob:∀ a,W a->Nob C X F₂ P vs σ₂ a)
  (hv:zq9 n bc (zs7 cond (ev Γ cond)) (ev Γ elt) ds σ₂=some (xs,σ')) (hzx:xs.length<=size)
  (hRR:∀ B Dn F' s' m,Step C X P vs F s σ' F' s'->Nob C X F' P vs σ' B->B≠Dn->s'.heap.Ns B m->ResOk C.w X F' s'.heap P vs σ' (.ref Dn) (.list xs) true->RR (.ref Dn) B (.ok .next) s') :
  zx (zQ C.prog C.w) A (newList []) (fun acc s₃=>zx (zQ C.prog C.w) A (newFunctionEnv csc env.globals cl [] env.qual none .none (some env)) (fun cenv s₄ =>
   codeAny (zQ C.prog C.w) A (.compStart (.ListComp ee [⟨tg,it,ifs,0⟩] csc pos) 0 (.ref J) acc { cenv with scope:=relabel csc env }) (RR acc cenv.locals) s₄) E s₃) E s₂:=by
 have O:=KN.O
 have hn:=KN.hn
 have R:=KN.R
 have S₂:=st.st
 have hPl:P.length=vs.length:=S₂.lenP
 refine yX (wpAny_newFunctionEnv K.cell (by intro y hy; simp at hy) (fun h₁ hns₁ hsb₁=>?_) K.kind)
 dsimp only at hns₁ hsb₁ |-
 generalize hH2:s₂.heap.push { cls:=.type "list", dict:=none,data:=.seq ([]:List qq).toArray }=H2 at hns₁ hsb₁ |-
 have hC:H2.objs.size=s₂.heap.objs.size+1:=by rw [<- hH2,Heap.size_push]
 generalize hB:H2.objs.size=B at *
 generalize hD:s₂.heap.objs.size=Dn at *
 have hDB:Dn≠B:=by rw [hC]; exact jV (Qx _)
 have nD:s₂.heap.get? Dn=none:=by rw [<- hD]; exact zz7 _
 have nB:s₂.heap.get? B=none:=by
  cases e:s₂.heap.get? B with
  | none=>rfl
  | some o=>exact absurd (hD▸wq e) (by rw [hC]; exact Qk.mpr (Nat.le_succ _))
 have old:∀ b o,s₂.heap.get? b=some o->h₁.get? b=some o:=fun b o e=>hsb₁.extBut b o (by rintro rfl; rw [nB] at e; cases e) (qV _ (hH2▸qV _ e))
 have hacc:h₁.get? Dn=some (lobj #[] 0):=hsb₁.extBut _ _ hDB (qV _ (hH2▸hD▸xy _ rfl))
 have fB:=S₂.nob_new nB
 have fD:=S₂.nob_new nD
 have S₃:St C X F₂ h₁ P vs σ₂:=S₂.grow0 old
 have hWD:∀ a,W a->a≠Dn/\a≠B:=fun a ha=>by
  obtain ⟨o,ho⟩:=hW.alive 0 _ a ht ha
  exact ⟨(by rintro rfl; rw [nD] at ho; cases ho),(by rintro rfl; rw [nB] at ho; cases ho)⟩
 have hqB:∀ {q:Place},q∈nm.map (Place.loc B)->q.addr=B:=fun hq=>by
  (refine elEA (zy.mp hq) fun y _ e_2=>?_; subst e_2); rfl
 have hnd:(P++nm.map (Place.loc B)).Nodup:=by
  rw [Q2]
  refine ⟨S₂.nodup,?_,fun p hp q hq=>?_⟩
  ·unfold List.Nodup
   rw [List.pairwise_map]
   exact hnm.imp fun h e=>h (by cases e; rfl)
  ·rintro rfl
   exact fB.p _ hp (hqB hq).symm
 have S₄:St C X F₂ h₁ (P++nm.map (Place.loc B)) (vs++jv nm.length none) (σ₂++zf2 nm.length):=by
  refine S₃.extend (by simp) (by simp) (fun i q ov e1 e2=>?_) (fun i ov av e1 e2=>?_) (fun av hav d e=>?_) hnd (fun q hq=>?_) (fun k a ho q hq=>?_)
  ·(refine elEA (zy.mp (w9 e1)) fun y _ e_2=>?_; subst e_2)
   obtain rfl:=(ux.mp (w9 e2)).2
   exact ⟨_,hns₁,rfl⟩
  ·obtain rfl:=(ux.mp (w9 e2)).2
   exact trivial
  ·obtain rfl:=(ux.mp hav).2; cases e
  ·rw [hqB hq]; exact ⟨fB.f,fB.x⟩
  ·rw [hqB hq]; rintro rfl; exact fB.o k ho
 have O':EnvOk (compEnvC csc cl B env) csc (zx7 n ν nm csc) (P++nm.map (Place.loc B)):=xa7 O hn K hcl
 have hxk:∀ y∈nm,(compEnvC csc cl B env).kindOf y=some .local:=fun y hy=>lookup_relabel_local (K.loc y hy).1
 have hnone:∀ av∈zf2 nm.length,∀ d,av≠some (.own d):=fun av hav d e=>by obtain rfl:=(ux.mp hav).2; cases e
 have hn':n+nm.length=(P++nm.map (Place.loc B)).length:=by simp [hn]
 have hvl:vs.length=n:=by rw [hn,hPl]
 let W':Addr->Prop:=fun a=>W a\/a=Dn
 have hW':∀ a,W' a->¬ X a/\C.H.get? a=none:=by
  rintro a (ha|rfl)
  ·exact ⟨(hnob a ha).x,(hnob a ha).h⟩
  ·exact ⟨fD.x,fD.h⟩
 have t₁:T 0 h₁:=hW.frame 0 _ _ ht S₂.sub (fun a o _ e=>old a o e) S₃.sub
 have S₅:St C (Or' X W') F₂ h₁ (P++nm.map (Place.loc B)) (vs++jv nm.length none) (σ₂++zf2 nm.length):=by
  refine S₄.protect fun a ha=>?_
  rcases ha with ha|rfl
  ·have q:=hnob a ha
   refine ⟨⟨q.f,q.x,fun p hp=>?_,fun k ho=>q.o k (zr8 S₂.lenS hnone ho),q.h⟩,hW.alive 0 _ a t₁ ha⟩
   rcases qW.mp hp with hp|hp
   ·exact q.p p hp
   ·rw [hqB hp]; exact (hWD a ha).2
  ·refine ⟨⟨fD.f,fD.x,fun p hp=>?_,fun k ho=>fD.o k (zr8 S₂.lenS hnone ho),fD.h⟩,_,hacc⟩
   rcases qW.mp hp with hp|hp
   ·exact fD.p p hp
   ·rw [hqB hp]; exact hDB
 have loop:∀ s₃:qv,s₃={ s₂ with heap:=h₁,toks:=s₂.toks+([]:List (Str×qq)).length } ->
   codeAny (zQ C.prog C.w) A (.compLoop (.ListComp ee [⟨tg,it,ifs,0⟩] csc pos) 0 (.ref J) (.ref Dn) (compEnvC csc cl B env)) (RR (.ref Dn) B) s₃:=by
  rintro s₃ rfl
  generalize hce:compEnvC csc cl B env=ce at O' hxk |-
  generalize hP':P++nm.map (Place.loc B)=P' at S₅ O' hn'
  clear S₄ hnd
  have hqP:∀ p∈P,p∈P':=fun p hp=>hP'▸jj _ hp
  obtain ⟨Inv,hInv⟩:∃ Inv,Inv=CompInv C Γ X W' T P' vs F₂ s ds xs Dn n nm.length bc cond elt σ':=⟨_,rfl⟩
  refine xy1 Inv ?_ (ds.length+1) ?_
  rotate_left
  ·refine elEE (st.eq) fun h0 t0 e0=>?_
   rw [hInv]
   refine ⟨F₂,0,σ₂,jv nm.length none,by simp,[],xs,#[],0,rfl,wx _,⟨h₁,_,by rw [e0]⟩,Fz.le_refl _,?_,S₅,t₁,hacc,RepL.nil_,hv,rfl⟩
   exact XSame.trans st.same (XSame.of_keep S₂.xal old)
  intro E k s' hInv'
  obtain ⟨F',i,σi,ov,hov,done,rest,ys,m,rfl,hi,⟨hh,tk,hs'⟩,le,same,S,t,hacc',rd,hc,hdone⟩:=hInv▸hInv'
  clear hInv'
  have hcov:∀ a o,C.H.get? a=some o->X a\/F' a≠none:=zb7 le S₂.cov
  have hσi:σi.length=n:=by have:=S.lenS; simp at this; rw [hov] at this; exact (Nat.add_right_cancel this).trans (hPl.symm.trans hn.symm)
  by_cases hlt:i<ds.length
  ·-- an item
   have hdrop:ds.drop i=ds[i]::ds.drop (i+1):=uW hlt
   rw [hdrop] at hc
   refine elEEEAA (xp6 hc) fun wv c σ1 hbc hcd hrest=>?_
   refine yk0 (W':=W') hW trivial (fun a ha=>.inl ha) hW' le hcov S t (qJ hlt) fun v s₀ q=>?_
   obtain ⟨F2,h',tk',rfl,t',le2,S2,same0,rv,keep⟩:=q
   have same1:XSame X s.heap h':=XSame.trans same same0
   have hD':h'.get? Dn=some (lobj ys m):=keep _ _ (fun hw=>(hWD _ hw).1 rfl) hacc'
   refine wpM (hBc (s:={ s' with heap:=h',toks:=tk' }) R.handled O' hxk hvl hσi hov S2 rv hbc) (fun _ s₃ q=>?_)
   obtain ⟨ov2,hov2,⟨h₂,tk₂,rfl⟩,_,S3,same3⟩:=q
   have t2:T (i+1) h₂:=hW.frame _ _ _ t' (fun a o e=>S2.sub a o ((Fz.le.trans le le2) a o e)) (fun a o ha e=>by rw [same3 a (.inr (.inl ha))]; exact e) fun a o e=>S3.sub a o ((Fz.le.trans le le2) a o e)
   have hD2:h₂.get? Dn=some (lobj ys m):=by rw [same3 Dn (.inr (.inr rfl))]; exact hD'
   have same2:XSame X s.heap h₂:=XSame.trans same1 same3.left
   have K':Cn Γ N (ce) csc (zx7 n ν nm csc) P' (n+nm.length) A:=⟨O',hn',R⟩
   obtain ⟨b0,hb0⟩:∃ b,zy2 c=some b:=by rcases hrest with ⟨q,_⟩|⟨q,_⟩<;>exact ⟨_,q⟩
   refine wpM (hT K' S3 hcd hb0) (fun ok s₃ q=>?_)
   obtain ⟨hok,F3,st3⟩:=q
   subst hok
   have hok:=hb0
   have S4:=st3.st
   have e3:∃ h' tk,s₃={ s with heap:=h',toks:=tk }:=by
    (refine elEE (st3.eq) fun h3 t3 e_2=>?_; subst e_2); exact ⟨h3,t3,by rw [hs']⟩
   have le3:F₂.le F3:=Fz.le.trans (Fz.le.trans le le2) st3.le
   have t3:T (i+1) s₃.heap:=hW.frame _ _ _ t2 (fun a o e=>S3.sub a o ((Fz.le.trans le le2) a o e)) (fun a o ha e=>by rw [st3.same a (.inr (.inl ha))]; exact e) fun a o e=>S4.sub a o (le3 a o e)
   have hD3:s₃.heap.get? Dn=some (lobj ys m):=by rw [st3.same Dn (.inr (.inr rfl))]; exact hD2
   have same4:XSame X s.heap s₃.heap:=XSame.trans same2 st3.same.left
   rcases hrest with hrest|hrest
   ·obtain ⟨q,hr⟩:=hrest
    obtain rfl:=xW (hok.symm.trans q)
    have hl:σ1.length=n+nm.length:=by have:=S4.lenS; simp at this; bv_omega
    obtain ⟨f1,f2⟩:=yw5 hl
    exact show ∃ m,m<ds.length+1 - i/\_ from ⟨ds.length+1 - (i+1),Nat.sub_lt_sub_left (Z1 hlt) (Qx i),hInv▸⟨F3,i+1,σ1.take n,ov2,hov2,done,rest,ys,m,rfl,hlt,e3,le3,same4,S4.forget f1 f2,t3,hD3,RepL.mono (Fz.le.trans le2 st3.le) _ rd,hr,hdone⟩⟩
   ·refine elAEEEEAA hrest fun q y fy σ2 zs hel hr hrs=>?_
    obtain rfl:=xW (hok.symm.trans q)
    refine wpM (hE.frozen K' S4 hel) (fun u s₄ q=>?_)
    obtain ⟨F4,st4,ru⟩:=q
    have S5:=st4.st
    have hD4:s₄.heap.get? Dn=some (lobj ys m):=by rw [st4.same Dn (.inr (.inr rfl))]; exact hD3
    have le4:F₂.le F4:=Fz.le.trans le3 st4.le
    have t4:T (i+1) s₄.heap:=hW.frame _ _ _ t3 (fun a o e=>S4.sub a o (le3 a o e)) (fun a o ha e=>by rw [st4.same a (.inr (.inl ha))]; exact e) fun a o e=>S5.sub a o (le4 a o e)
    have same5:XSame X s.heap s₄.heap:=XSame.trans same4 st4.same.left
    have rd4:RepL C.w F4 done ys.toList:=RepL.mono (Fz.le.trans (Fz.le.trans le2 st3.le) st4.le) _ rd
    have hys:ys.size<=Z9:=by
     have:=rd4.length
     have hl2:xs.length=done.length+rest.length:=by rw [<- hdone,z9]
     simp at this
     rw [ze3]; exact qw (zX this) (qw (qQ ..) (hl2▸hzx))
    refine wpAny_list_append_plain (hsz:=hys) ⟨m,hD4⟩ fun h₅ hl₅ hs₅=>?_
    obtain ⟨m5,hD5⟩:=hl₅
    have hcov4:∀ a o,C.H.get? a=some o->X a\/F4 a≠none:=zb7 le4 S₂.cov
    have S6:St C X F4 h₅ P' (vs++ov2) σ2:=(S5.release hcov4).change (W:=fun a=>a=Dn) (fun a o ha e=>by rw [hs₅.2 a ha]; exact e) fun a ha=>Nob.back S5 (.inr ha) (hW' a (.inr ha)).1 (hW' a (.inr ha)).2
    have S7:St C (Or' X W') F4 h₅ P' (vs++ov2) σ2:=S6.protect fun a ha=>by
     refine ⟨Nob.back S5 ha (hW' a ha).1 (hW' a ha).2,?_⟩
     obtain ⟨o,ho⟩:=S5.xal a (.inr ha)
     by_cases hd:a=Dn
     ·exact ⟨_,hd▸hD5⟩
     ·exact ⟨o,by rw [hs₅.2 a hd]; exact ho⟩
    have hl:σ2.length=n+nm.length:=by have:=S5.lenS; simp at this; bv_omega
    obtain ⟨f1,f2⟩:=yw5 hl
    refine ⟨ds.length+1 - (i+1),Nat.sub_lt_sub_left (Z1 hlt) (Qx i),?_⟩
    rw [hInv]
    refine ⟨F4,i+1,σ2.take n,ov2,hov2,done++[y],zs,ys.push u,m5,rfl,hlt,?_,le4,?_,S7.forget f1 f2,?_,hD5,?_,hr,?_⟩
    ·(refine elEE (e3) fun h3 k3 e_2=>?_; subst e_2)
     (refine elEE (st4.eq) fun h4 k4 e_2=>?_; subst e_2)
     exact ⟨h₅,k4,rfl⟩
    ·exact XSame.trans same5 fun a e=>hs₅.2 a fun q=>(hW' a (.inr q)).1 e
    ·exact hW.frame _ _ _ t4 (fun a o e=>S5.sub a o (le4 a o e)) (fun a o ha e=>by rw [hs₅.2 a (hWD a ha).1]; exact e) fun a o e=>S6.sub a o (le4 a o e)
    ·rw [Array.toList_push]; exact rd4.append (RepL.cons_ ru RepL.nil_)
    ·rw [xk,List.singleton_append,<- hrs]; exact hdone
  ·-- the end
   subst hP'
   have hin:i=ds.length:=by bv_omega
   subst hin
   rw [List.drop_length] at hc
   simp only [zq9] at hc
   obtain ⟨hr1,hr2⟩:=Prod.mk.inj (xW hc)
   subst hr1
   subst hr2
   rw [List.append_nil] at hdone
   subst hdone
   refine yk1 hW t fun h' tk' keep=>?_
   have hnb:∀ a,W' a->Nob C X F' (P++nm.map (Place.loc B)) (vs++ov) (σi++zf2 nm.length) a:=fun a ha=>Nob.back S ha (hW' a ha).1 (hW' a ha).2
   have S1:St C X F' h' (P++nm.map (Place.loc B)) (vs++ov) (σi++zf2 nm.length):=(S.release hcov).change keep fun a ha=>hnb a (.inl ha)
   have S2:=S1.shrink hPl (n:=n) hvl.symm
   have htk:(σi++zf2 nm.length).take n=σi:=take_left hσi
   rw [htk] at S2
   have own0:∀ k a,zt2 vs σi k a->zt2 (vs++ov) (σi++zf2 nm.length) k a:=fun k a ho=>zg3 (n:=n) hvl.symm (by rw [htk]; exact ho)
   obtain ⟨y0,hy0⟩:=List.exists_mem_of_ne_nil nm hne
   have hmB:Place.loc B y0∈P++nm.map (Place.loc B):=List.mem_append_right _ (zy.mpr ⟨y0,hy0,rfl⟩)
   obtain ⟨kB,hkB⟩:=uQ.mp hmB
   refine elEAEA (S1.placeAt hkB) fun ovB hovB mB hnsB _=>?_
   have hD':h'.get? Dn=some (lobj ys m):=keep _ _ (fun hw=>(hWD _ hw).1 rfl) hacc'
   refine hRR B Dn F' _ mB ⟨?_,Fz.le.trans st.le le,S2,?_⟩ ⟨(S1.cont _ hmB).1,(S1.cont _ hmB).2,fun p hp=>fB.p p hp,fun k ho=>(S1.own k _ (own0 k _ ho)).2 _ hmB rfl,fB.h⟩ (Ne.symm hDB) hnsB ?_
   ·exact ⟨h',tk',by rw [hs']⟩
   ·exact XSame.trans same fun a e=>by
     obtain ⟨o,ho⟩:=(S.release hcov).xal a e
     rw [ho]
     exact keep a o (fun hw=>(hW' a (.inl hw)).1 e) ho
   ·have q:=hnb Dn (.inr rfl)
    exact ⟨Dn,rfl,q.f,q.x,fun p hp=>q.p p (jj _ hp),fun k ho=>q.o k (own0 k _ ho),hzx,ys,m,hD',rd⟩
 exact codeAny_compStart_list (loop _ rfl) (hW.iter 0 _ _ _ t₁ (loop _ rfl))
end
section
variable {C:Cx} {Γ:Mini.Env} {N:Nat} {n:Nat} {sc:xj} {ν:Nu} {env:w0} {P:List Place} {vs:List (Option qq)} {σ σ':Sg} {X:Addr->Prop} {F:Fz} {s:qv} {A:xx} {E:qq->qv->Prop}
theorem yi6 {e:Expr} (h:okE e=true):∀ x,foldedSetIterable e env x=pure x:=by
 intro x
 cases e<;>first|rfl|(exact absurd h qj)
noncomputable def ys1 (Γ:Mini.Env) (bc:D->Option (List D)) (elt sr cond:I) (σ:Sg):Option (D×Bool×Sg):=(srcE (ev Γ sr) σ).bind fun p=>(zq9 σ.length bc (zs7 cond (ev Γ cond)) (ev Γ elt) p.1 p.2).bind fun q=>(mkL q.1).bind fun r=>some (r.1,r.2,q.2)
theorem wp4 {elt sr cond:I} (σ:Sg):ev Γ (.comp1 elt sr cond) σ=ys1 Γ bc1 elt sr cond σ:=by
 simp only [zr5,ys1,zj6]
theorem xu8 {bc:D->Option (List D)} {elt sr cond:I} {d:D} {f:Bool} (hv:ys1 Γ bc elt sr cond σ=some (d,f,σ')) :
  ∃ ds σ1 xs,srcE (ev Γ sr) σ=some (ds,σ1)/\zq9 σ.length bc (zs7 cond (ev Γ cond)) (ev Γ elt) ds σ1=some (xs,σ')/\xs.length<=size/\d=.list xs/\f=true:=by
 refine bK2 (hv) fun ds σ1 hs hv=>?_
 refine bK2 (hv) fun xs σ2 hc hv=>?_
 refine bK2 (hv) fun d' f' hm hv=>?_
 cases hv
 obtain ⟨hz,hm⟩:=ifS hm
 cases hm
 exact ⟨ds,σ1,xs,hs,hc,hz,rfl,rfl⟩
theorem xt5 {elt sr cond:I} {ee it:Expr} {nm:List Str} {tg:Expr} {bc:D->Option (List D)} {ifs:List Expr} {csc:xj} {pos ipos:Pos} (hBc:PBc C bc n nm csc ν tg) (hnm:nm.Nodup) (hne:nm≠[]) (hS:PW C Γ N sr n sc ν it) (hE:PE C Γ N elt (n+nm.length) csc (zx7 n ν nm csc) ee) (hT:PC C Γ N cond (n+nm.length) csc (zx7 n ν nm csc) ifs) (h0:okE it=true)
  {d:D} {f:Bool} {use:Option (qq->Sem Unit)} {Q:qq->qv->Prop}
  (KC:CompOk sc ν nm csc) (K:Cn Γ N env sc ν P n A) (S:St C X F s.heap P vs σ) (hv:ys1 Γ bc elt sr cond σ=some (d,f,σ'))
  (hQ:∀ B Dn F' s' m,Step C X P vs F s σ' F' s'->Nob C X F' P vs σ' B->B≠Dn->s'.heap.Ns B m->ResOk C.w X F' s'.heap P vs σ' (.ref Dn) d f->compPost (zQ C.prog C.w) A E use Q (.ref Dn) B (.ok .next) s') :
  zx (zQ C.prog C.w) A (comprehension (.ListComp ee [⟨tg,it,ifs,0⟩] csc pos) csc env ipos (newList []) false (eval it env) use) Q E s:=by
 (refine elEEEAAAA (xu8 hv) fun ds σ1 xs hs hc hz e_6 e_7=>?_; subst e_6; subst e_7)
 refine elEA (xp7 (env:=env) (csc:=csc) fun p hp hf=>(K.O.cell p.1 (KC.free p hp hf)).2) fun cl hcl hlk=>?_
 refine wpAny_comprehension_free rfl (yi6 h0) hcl KC.kind (fun y hy hl=>by have:=KC.look y hy; rw [hl] at this; exact this) (wpM (hS K S hs) (fun v s₁ q=>wpM q (fun it s₂ q=>?_)))
 obtain ⟨F₂,J,W,T,rfl,st,hW,ht,hzd,hnob⟩:=q
 have hσ:σ.length=n:=by rw [S.lenS,<- S.lenP,K.hn]
 rw [hσ] at hc
 exact xp5 (RR:=fun acc B=>compPost (zQ C.prog C.w) A E use Q acc B) hBc hnm hne hE hT KC hlk K st hW ht hzd hnob hc hz hQ
theorem PE.compG {i elt sr cond:I} {ee it:Expr} {nm:List Str} {tg:Expr} {bc:D->Option (List D)} {ifs:List Expr} {csc:xj} {pos:Pos} (hev:∀ σ,ev Γ i σ=ys1 Γ bc elt sr cond σ) (hBc:PBc C bc n nm csc ν tg) (hnm:nm.Nodup) (hne:nm≠[]) (hS:PW C Γ N sr n sc ν it) (hE:PE C Γ N elt (n+nm.length) csc (zx7 n ν nm csc) ee) (hT:PC C Γ N cond (n+nm.length) csc (zx7 n ν nm csc) ifs) (h0:okE it=true) (KC:CompOk sc ν nm csc) :
  PE C Γ N i n sc ν (.ListComp ee [⟨tg,it,ifs,0⟩] csc pos):=by
 intro env P vs σ σ' X F s A E d f K S hv
 rw [hev] at hv
 refine elEEEAAAA (xu8 hv) fun ds σ1 xs hs hc hz hd hf=>?_
 rw [eval_ListComp]
 refine xt5 (use:=none) hBc hnm hne hS hE hT h0 KC K S hv fun B Dn F' s' m st nb hne hns r=>⟨m,hns,fun h' hs'=>?_⟩
 have S':=st.st.change (W:=fun a=>a=B) (h':=h') (fun a o ha e=>by rw [hs'.2 a ha]; exact e) (fun a ha=>ha▸nb)
 refine ⟨F',⟨?_,st.le,S',?_⟩,?_⟩
 ·(refine elEE (st.eq) fun h0 t0 e_2=>?_; subst e_2); exact ⟨h',t0,rfl⟩
 ·exact XSame.trans st.same fun a e=>hs'.2 a (by rintro rfl; exact nb.x e)
 ·subst hf
  refine elEAAAAA (r) fun a e r1 r2 r3 r4 r5=>?_
  cases e
  exact ⟨Dn,rfl,r1,r2,r3,r4,r5.mono (Fz.le_refl _) fun o e=>by rw [hs'.2 Dn (Ne.symm hne)]; exact e⟩
theorem PBc.name {x:Str} {px:Pos} {csc:xj}:PBc C bc1 n [x] csc ν (.Name x px):=by
 intro cenv P vs ov σ X F s A E d ws v hA O hk hv hσ ho S r hb
 cases hb
 obtain ⟨o,rfl⟩:=List.length_eq_one_iff.mp ho
 have hxn:zx7 n ν [x] csc x=some n:=by simp [zx7,List.idxOf?]
 refine wpAny_assign_Name (zp7 O S hxn (d:=d) (f:=false) r (by rw [hk x (by simp)]; exact fun x=>nomatch x) fun h' tk S' same=>⟨[some v],rfl,⟨h',tk,rfl⟩,Fz.le_refl _,?_,same⟩)
 have e1:(vs++[o]).set n (some v)=vs++[some v]:=by subst hv; simp
 have e2:put (σ++zf2 1) n d false=σ++vals [d]:=by unfold put; subst hσ; simp
 rw [e1] at S'
 exact e2▸S'
noncomputable abbrev nmE (q:Str×Pos):Expr:=.Name q.1 q.2
theorem zr6 {env:w0}:∀ l:List (Str×Pos),assignEach (l.map nmE) env=l.map fun q=>(false,assign (nmE q) env)
 | []=>rfl
 | q::r=>by
  show (false,assign (nmE q) env)::assignEach (r.map nmE) env=_
  rw [zr6 r]; rfl
theorem yq6 {env:w0} (l:List (Str×Pos)):(l.map fun q=>((false,assign (nmE q) env):Bool×(qq->Sem Unit))).findIdx? (·.1)=none:=by
 rw [List.findIdx?_eq_none_iff]
 intro x hx
 (refine elEA (zy.mp hx) fun q _ e_2=>?_; subst e_2)
 rfl
noncomputable def wy5:Expr->Bool
 | .UnaryOp .Not _ _=>false
 | .BoolOp _ _ _=>false
 | .IfExp _ _ _ _=>false
 | .Compare _ _ _ _=>false
 | _=>true
set_option tactic.hygienic true in
theorem zb3 {e:Expr} (h:wy5 e=true) (env:w0) (whole:Sem qq):isTrue e env whole=(do let v <- whole; standAt e.pos; holding [v] (truthy v)):=by
 cases e<;>first|rfl|(exact absurd h qj)|(rename_i op x p; cases op<;>first|rfl|(exact absurd h qj))
end
inductive PostN (C:Cx) (X:Addr->Prop) (P:List Place) (F:Fz) (s:qv) (σ':Sg) (fl:Flow) (s':qv):Prop
 | mk (e:fl=.next) (vs':List (Option qq)) (F':Fz) (st:Step C X P vs' F s σ' F' s')
inductive PostR (C:Cx) (X:Addr->Prop) (P:List Place) (F:Fz) (s:qv) (d:D) (f:Bool) (fl:Flow) (s':qv):Prop
 | mk (v:qq) (e:fl=.ret v) (vs':List (Option qq)) (σ':Sg) (F':Fz) (st:Step C X P vs' F s σ' F' s') (r:ResOk C.w X F' s'.heap P vs' σ' v d f)
noncomputable def PostS (C:Cx) (X:Addr->Prop) (P:List Place) (F:Fz) (s:qv):Out->Flow->qv->Prop
 | .next σ'=>PostN C X P F s σ'
 | .ret d f=>PostR C X P F s d f
section
variable {C:Cx} {X:Addr->Prop} {P:List Place} {vs vs':List (Option qq)} {F F' F'':Fz} {s s' s'':qv} {σ σ' σ'':Sg}
theorem Step.trans' (a:Step C X P vs F s σ' F' s') (b:Step C X P vs' F' s' σ'' F'' s''):Step C X P vs' F s σ'' F'' s'' where
 eq:=by
  (refine elEE (a.eq) fun h1 t1 e_2=>?_; subst e_2)
  (refine elEE (b.eq) fun h2 t2 e_2=>?_; subst e_2)
  exact ⟨h2,t2,rfl⟩
 le:=Fz.le.trans a.le b.le
 st:=b.st
 same:=XSame.trans a.same b.same
theorem PostS.trans {o:Out} {fl:Flow} (a:Step C X P vs F s σ' F' s') (q:PostS C X P F' s' o fl s''):PostS C X P F s o fl s'':=by
 cases o with
 | next σ=>obtain ⟨e,vs',G,st⟩:=q; exact ⟨e,vs',G,a.trans' st⟩
 | ret d f=>obtain ⟨v,e,vs',σ',G,st,r⟩:=q; exact ⟨v,e,vs',σ',G,a.trans' st,r⟩
end
section
variable {C:Cx} {Γ:Mini.Env} {N:Nat} {n:Nat} {sc:xj} {ν:Nu} {env:w0} {P:List Place} {vs:List (Option qq)} {σ σ':Sg} {X:Addr->Prop} {F:Fz} {s:qv} {A:xx} {E:qq->qv->Prop}
theorem xi0 {xs:List Str} {y:Str} {r:List Str} (h:y∉xs):(xs++y::r).idxOf? y=some xs.length:=by
 induction xs with
 | nil=>simp [List.idxOf?,List.findIdx?_cons]
 | cons x t ih =>
  have hx:(x==y)=false:=by
   rw [<- Z6]; intro e; exact h (by rw [eq_of_beq e]; exact j5)
  have:=ih fun hm=>h (xX _ hm)
  simp only [List.idxOf?,jx,List.findIdx?_cons,hx] at this |-
  simp [this]
theorem yk6 {csc:xj} {cenv:w0} {xs:List Str} (O:EnvOk cenv csc (zx7 n ν xs csc) P) (hk:∀ x∈xs,cenv.kindOf x=some .local) (hnd:xs.Nodup) (hv:vs.length=n) (hσ:σ.length=n) :
  ∀ (l:List (Str×Pos)) (pre:List Str) (w1 ds:List D) (ws:List qq) (ov:List (Option qq)) (s:qv),xs=pre++l.map (·.1)->w1.length=pre.length->ds.length=l.length->ov.length=xs.length->RepL C.w F ds ws ->
   St C X F s.heap P (vs++ov) (σ++(vals w1++zf2 l.length)) ->
   zx (zQ C.prog C.w) A (assignInOrder (l.map fun q=>assign (nmE q) cenv) ws) (fun _ s'=>∃ ov',ov'.length=xs.length/\Step C X P (vs++ov') F s (σ++vals (w1++ds)) F s') E s
 | [],pre,w1,ds,ws,ov,s,hx,h1,h2,ho,r,S=>by
  obtain rfl:=kj.mp h2
  refine z8 ⟨ov,ho,?_⟩
  have e:σ++(vals w1++zf2 ([]:List (Str×Pos)).length)=σ++vals (w1++[]):=by simp
  exact e▸Step.refl S
 | q::l,pre,w1,ds,ws,ov,s,hx,h1,h2,ho,r,S=>by
  cases ds with
  | nil=>simp at h2
  | cons d ds =>
   simp only [zu5] at r
   (refine elEEAA (r) fun v rest e_2 r1 r2=>?_; subst e_2)
   have hq:q.1∈xs:=by rw [hx]; simp
   have hnot:q.1∉pre:=by
    rw [hx,Q2] at hnd
    exact fun hm=>hnd.2.2 q.1 hm q.1 (by simp) rfl
   have hxn:zx7 n ν xs csc q.1=some (n+pre.length):=by
    have:=xi0 (xs:=pre) (y:=q.1) (r:=l.map (·.1)) hnot
    unfold zx7
    rw [hx,xz,this]
   have hol:pre.length<ov.length:=by rw [ho,hx]; simp
   show zx _ A (do holding rest (assign (.Name _ _) cenv v); assignInOrder _ rest) _ _ s
   refine qz (Z2 (wpAny_assign_Name (zp7 O S hxn (d:=d) (f:=false) r1 (by rw [hk _ hq]; exact fun x=>nomatch x) fun h' tk S' same=>?_)))
   have e1:(vs++ov).set (n+pre.length) (some v)=vs++ov.set pre.length (some v):=by
    rw [List.set_append,if_neg (by bv_omega),hv,yk]
   have e2:put (σ++(vals w1++zf2 (q::l).length)) (n+pre.length) d false=σ++(vals (w1++[d])++zf2 l.length):=by
    unfold put
    rw [List.set_append,if_neg (by bv_omega),hσ,yk,List.set_append,if_neg (by simp; bv_omega)]
    have:pre.length - (vals w1).length=0:=by simp only [xw,vals]; exact Nat.sub_eq_zero_of_le (zX h1.symm)
    rw [this]
    simp [List.replicate_succ]
   rw [e1,e2] at S'
   have st1:Step C X P _ F s _ F { s with heap:=h',toks:=tk }:=⟨⟨h',tk,rfl⟩,Fz.le_refl F,S',same⟩
   refine wpM (yk6 O hk hnd hv hσ l (pre++[q.1]) (w1++[d]) ds rest _ { s with heap:=h',toks:=tk } (by rw [hx]; simp) (by simp [h1]) (by simpa using h2) (by simpa using ho) r2 S') (fun _ s' w=>?_)
   refine elEA (w) fun ov' ho' st2=>?_
   refine ⟨ov',ho',?_⟩
   have e3:w1++d::ds=w1++[d]++ds:=by simp
   rw [e3]
   exact st1.trans' st2
theorem PBc.tup {l:List (Str×Pos)} {q:Nat} {tp:Pos} {csc:xj} (hnd:(l.map (·.1)).Nodup):PBc C (tupN (l.map (·.1)).length) n (l.map (·.1)) csc ν (.Tuple (l.map nmE) q tp):=by
 intro cenv P vs ov σ X F s A E d ws v hA O hk hv hσ ho S r hb
 cases d<;>try exact (noS hb).elim
 obtain ⟨hl,hb⟩:=ifS hb
 cases hb
 simp only [zp0] at r
 (refine elAEEEAA (r) fun hz a ws' m e_4 hF r_n=>?_; clear r; revert r_n; intro r; subst e_4)
 have h1:=S.sub _ _ hF
 have e1:=r.length
 simp only [vk] at e1
 simp only [xw] at hl
 refine PyProof.Rows.assign_Tuple_tuple hA (items:=ws') ⟨_,h1,rfl,_,rfl⟩ ?_ ?_ fun h' he'=>?_
 ·rw [zr6,xw,<- hl,e1]
 ·rw [zr6]; exact yq6 l
 ·rw [zr6,yV]
  have k:∀ b o,s.heap.get? b=some o->h'.get? b=some o:=fun b o e=>he' b o (jV (wq e)) e
  have st2:=Step.grow (tk:=s.toks) S k
  refine wpM (yk6 O hk hnd hv hσ l [] [] _ _ ov { s with heap:=h' } (by simp) rfl hl ho r (by simpa using st2.st)) (fun _ s' w=>?_)
  refine elEA (w) fun ov' ho' st3=>?_
  exact ⟨ov',ho',st2.trans' st3⟩
end
noncomputable def PU (C:Cx) (Γ:Mini.Env) (N:Nat) (i:I) (n:Nat) (sc:xj) (ν:Nu) (v:Expr):Prop:=∀ {k:Nat} {x:Str} {px pos:Pos} {env:w0} {P:List Place} {vs:List (Option qq)} {σ σ':Sg} {X:Addr->Prop} {F:Fz} {s:qv} {A:xx} {E:qq->qv->Prop} {d:D} {f:Bool},
 Sl ν k x->Cn Γ N env sc ν P n A->(∀ x,env.kindOf x≠some .free)->St C X F s.heap P vs σ->ev Γ i σ=some (d,f,σ')->zx (zQ C.prog C.w) A (exec (.Assign [.Name x px] v pos) env) (PostS C X P F s (.next (put σ' k d f))) E s
structure GE (C:Cx) (Γ:Mini.Env) (N:Nat) (i:I) (n:Nat) (sc:xj) (ν:Nu) (x:Expr):Prop where
 e:PE C Γ N i n sc ν x
 o:PO C Γ N i n sc ν x
 t:PT C Γ N i n sc ν x
 u:PU C Γ N i n sc ν x
noncomputable def xv2:Expr->Bool
 | .ListComp _ _ _ _=>false
 | .SetComp _ _ _ _=>false
 | .DictComp _ _ _ _ _=>false
 | _=>true
section
variable {C:Cx} {Γ:Mini.Env} {N:Nat} {n:Nat} {sc:xj} {ν:Nu}
theorem xs4 {value:Expr} {x:Str} {p:Pos} {line:Nat} {env:w0} (h:xv2 value=true):swapsWith value (some (.Name x p)) line env=pure false:=by
 cases value<;>first|rfl|(exact absurd h qj)
theorem PU.store {i:I} {v:Expr} (h:PE C Γ N i n sc ν v) {k:Nat} {x:Str} {px pos:Pos} {env:w0} {P:List Place} {vs:List (Option qq)} {σ σ':Sg} {X:Addr->Prop} {F:Fz} {s:qv} {A:xx} {E:qq->qv->Prop} {d:D} {f:Bool}
  (hx:Sl ν k x) (K:Cn Γ N env sc ν P n A) (hf:∀ x,env.kindOf x≠some .free) (S:St C X F s.heap P vs σ) (he:ev Γ i σ=some (d,f,σ')) (hsw:swapsWith v (some (.Name x px)) pos.line env=pure false) :
  zx (zQ C.prog C.w) A (exec (.Assign [.Name x px] v pos) env) (PostS C X P F s (.next (put σ' k d f))) E s:=by
 refine wpAny_Assign_Name (wpM (h K S he) (fun v s₁ q=>?_)) hsw
 obtain ⟨F1,st1,r⟩:=q
 refine zp7 K.O st1.st hx.at' r (hf x) fun h' tk S' same=>?_
 refine ⟨rfl,_,F1,⟨?_,st1.le,S',XSame.trans st1.same same⟩⟩
 (refine elEE (st1.eq) fun h0 t0 e_2=>?_; subst e_2); exact ⟨h',tk,rfl⟩
theorem PU.plain {i:I} {v:Expr} (h:PE C Γ N i n sc ν v) (hc:xv2 v=true):PU C Γ N i n sc ν v:=by
 intro k x px pos env P vs σ σ' X F s A E d f hx K hf S he
 exact PU.store h hx K hf S he (xs4 hc)
theorem xs5 {e:Expr} {g:List Comprehension} {cs:xj} {p':Pos} {x:Str} {p:Pos} {line:Nat} {env:w0} :
  swapsWith (.ListComp e g cs p') (some (.Name x p)) line env=pure false\/(swapsWith (.ListComp e g cs p') (some (.Name x p)) line env=pure true/\env.kindOf x=some .local):=by
 have e0:swapsWith (.ListComp e g cs p') (some (.Name x p)) line env=pure (env.blockKind==.function&&env.kindOf x==some .local&&p.line==(Expr.ListComp e g cs p').pos.line
  && !(cs.names.any fun (n,k)=>n==x&&(k==.local||k==.cell))):=rfl
 rw [e0]
 cases hb:(env.blockKind==.function&&env.kindOf x==some .local&&p.line==(Expr.ListComp e g cs p').pos.line&&!(cs.names.any fun (n,k)=>n==x&&(k==.local||k==.cell))) with
 | false=>exact .inl rfl
 | true =>
  simp only [zj,beq_iff_eq] at hb
  exact .inr ⟨rfl,hb.1.1.2⟩
theorem PU.compG {i elt sr cond:I} {ee it:Expr} {nm:List Str} {tg:Expr} {bc:D->Option (List D)} {ifs:List Expr} {csc:xj} {cpos:Pos} (hev:∀ σ,ev Γ i σ=ys1 Γ bc elt sr cond σ) (hBc:PBc C bc n nm csc ν tg) (hnm:nm.Nodup) (hne:nm≠[]) (hS:PW C Γ N sr n sc ν it) (hE:PE C Γ N elt (n+nm.length) csc (zx7 n ν nm csc) ee) (hT:PC C Γ N cond (n+nm.length) csc (zx7 n ν nm csc) ifs) (h0:okE it=true) (KC:CompOk sc ν nm csc) :
  PU C Γ N i n sc ν (.ListComp ee [⟨tg,it,ifs,0⟩] csc cpos):=by
 intro k x px pos env P vs σ σ1 X F s A E d f hx K hf S he
 have he0:=he
 rw [hev] at he
 rcases xs5 (x:=x) (p:=px) (line:=pos.line) (env:=env) with hsw|⟨hsw,hloc⟩
 ·exact PU.store (PE.compG hev hBc hnm hne hS hE hT h0 KC) hx K hf S he0 hsw
 ·rw [exec_Assign_Name_used _ _ _ _ hsw]
  refine qz (wpAny_standAt (qz ?_))
  show zx _ A (do let _ <- comprehension (.ListComp ee [⟨tg,it,ifs,0⟩] csc cpos) csc env _ (newList []) false (eval it env) (some (assign (.Name x px) env))) _ _ s
  refine qz (wpM (xt5 (use:=some (assign (.Name x px) env)) (Q:=fun _ s'=>PostS C X P F s (.next (put σ1 k d f)) .next s') hBc hnm hne hS hE hT h0 KC K S he fun B Dn F' s' m st' nb hne hns r=>?_) (fun _ s' hq=>z8 (z8 hq)))
  show zx _ A (assign (.Name x px) env (.ref Dn)) _ _ _
  have nbB:∃ o,s'.heap.get? B=some o:=by refine elEEEA (hns) fun o _ _ ho _=>?_; exact ⟨o,ho⟩
  have S1:St C (Or' X fun a=>a=B) F' s'.heap P vs σ1:=st'.st.protect fun a ha=>ha▸⟨nb,nbB⟩
  have r1:ResOk C.w (Or' X fun a=>a=B) F' s'.heap P vs σ1 (.ref Dn) d f:=by
   cases f with
   | false=>exact r
   | true =>
    refine elEAAAAA (r) fun a' e' q1 q2 q3 q4 q5=>?_
    cases e'
    exact ⟨Dn,rfl,q1,fun q=>q.elim q2 fun q=>hne q.symm,q3,q4,q5⟩
  refine wpAny_assign_Name (zp7 K.O S1 hx.at' r1 (hf x) fun h' tk S' same=>?_)
  refine ⟨m,?_,fun h'' hs''=>⟨rfl,vs.set k (some (.ref Dn)),F',?_⟩⟩
  ·refine elEEEA (hns) fun o es ep ho q=>?_
   exact ⟨o,es,ep,by rw [same B (.inr rfl)]; exact ho,q⟩
  ·have S2:=S'.release st'.st.cov
   have nb2:Nob C X F' P _ _ B:=Nob.back S' rfl nb.x nb.h
   refine ⟨?_,st'.le,S2.change (W:=fun a=>a=B) (h':=h'') (fun a o ha e=>by rw [hs''.2 a ha]; exact e) (fun a ha=>ha▸nb2),?_⟩
   ·(refine elEE (st'.eq) fun h0 t0 e_2=>?_; subst e_2); exact ⟨h'',tk,rfl⟩
   ·exact XSame.trans st'.same fun a e=>(hs''.2 a (by rintro rfl; exact nb.x e)).trans (same a (.inl e))
theorem GE.plain {i:I} {e:Expr} (h:PE C Γ N i n sc ν e) (hb:xz4 i=false) (hp:wy5 e=true) (hc:xv2 e=true):GE C Γ N i n sc ν e :=
 ⟨h,h.opnd hb,PT.plain (h.opnd hb) (zb3 hp),PU.plain h hc⟩
end
noncomputable def yl7 (w:wy):Prop:=∀ (prog:vw) (A:xx) (E:qq->qv->Prop) (s:qv) (F:Fz) (n:Nat),Room n A->F.In s.heap->∀ {x v:D} {kvs:List (D×D)} {a:Addr} {key val:qq},
 Rep w F x key->Rep w F v val->Shal w F s.heap (.dict kvs) a->F a=none->zs3 x kvs=true->kvs.length<size ->
 zx (zQ prog w) A (setItem (.ref a) key val) (fun _ s'=>∃ h' tk,s'={ s with heap:=h',toks:=tk }/\(∀ b,b≠a->h'.get? b=s.heap.get? b)/\Shal w F h' (.dict (dput kvs x v)) a) E s
section
variable (C:Cx) (Γ:Mini.Env) (N:Nat)
noncomputable def PX (i:I) (n:Nat) (sc:xj) (ν:Nu) (body:List Stmt):Prop:=∀ {env:w0} {P:List Place} {vs:List (Option qq)} {σ:Sg} {X:Addr->Prop} {F:Fz} {s:qv} {A:xx} {E:qq->qv->Prop} {o:Out},
 Cn Γ N env sc ν P n A->(∀ x,env.kindOf x≠some .free)->St C X F s.heap P vs σ->ex Γ i σ=some o->zx (zQ C.prog C.w) A (execs body env) (PostS C X P F s o) E s
noncomputable def PS (i:I) (n:Nat) (sc:xj) (ν:Nu) (st:Stmt):Prop:=∀ {env:w0} {P:List Place} {vs:List (Option qq)} {σ:Sg} {X:Addr->Prop} {F:Fz} {s:qv} {A:xx} {E:qq->qv->Prop} {o:Out},
 Cn Γ N env sc ν P n A->(∀ x,env.kindOf x≠some .free)->St C X F s.heap P vs σ->ex Γ i σ=some o->zx (zQ C.prog C.w) A (exec st env) (PostS C X P F s o) E s
end
section
variable {C:Cx} {Γ:Mini.Env} {N:Nat} {n:Nat} {sc:xj} {ν:Nu}
theorem PX.nil:PX C Γ N .nil n sc ν []:=by
 intro env P vs σ X F s A E o K hf S hv
 cases hv
 exact wpAny_execs_nil ⟨rfl,vs,F,Step.refl S⟩
theorem PX.cons {a b:I} {st:Stmt} {rest:List Stmt} (ha:PS C Γ N a n sc ν st) (hb:PX C Γ N b n sc ν rest):PX C Γ N (.cons a b) n sc ν (st::rest):=by
 intro env P vs σ X F s A E o K hf S hv
 refine bK1 (hv) fun o1 h1 hv=>?_
 refine wpAny_execs_cons (wpM (ha K hf S h1) (fun fl s₁ q=>?_))
 cases o1 with
 | next σ1 =>
  obtain ⟨rfl,vs',F1,st1⟩:=q
  exact wpM (hb K hf st1.st hv) (fun fl s₂ q=>q.trans st1)
 | ret d f =>
  cases hv
  obtain ⟨v,rfl,vs',σ',F',st',r'⟩:=q
  exact ⟨v,rfl,vs',σ',F',st',r'⟩
theorem zf6 {env:w0} {sc:xj} {ν:Nu} {P:List Place} (O:EnvOk env sc ν P):interactive env=false:=by
 unfold interactive; rw [O.kind]; rfl
theorem PS.pass {p:Pos}:PS C Γ N .pass n sc ν (.Pass p):=by
 intro env P vs σ X F s A E o K hf S hv
 cases hv
 exact wpAny_Pass ⟨rfl,vs,F,Step.refl S⟩
theorem PS.asg {k:Nat} {e:I} {x:Str} {v:Expr} {px p:Pos} (hx:Sl ν k x) (h:PU C Γ N e n sc ν v):PS C Γ N (.asg k e) n sc ν (.Assign [.Name x px] v p):=by
 intro env P vs σ X F s A E o K hf S hv
 refine bK3 (hv) fun d f σ1 he hv=>?_
 cases hv
 exact h hx K hf S he
theorem PS.exp {e:I} {g:Expr} {as:List Expr} {ks:List Keyword} {q p:Pos} (h:PE C Γ N e n sc ν (.Call g as ks q)):PS C Γ N (.exp e) n sc ν (.Expr (.Call g as ks q) p):=by
 intro env P vs σ X F s A E o K hf S hv
 refine bK3 (hv) fun d f σ1 he hv=>?_
 refine bK1 (hv) fun i hi hv=>?_
 cases hv
 obtain rfl:=yo4 hi
 refine wpAny_Expr (wpM (h.frozen K S he) (fun v s₁ q=>?_)) (zf6 K.O) (by rfl)
 obtain ⟨F1,st,r⟩:=q
 simp only [zn1] at r
 obtain ⟨t,rfl⟩:=r
 exact ⟨rfl,vs,F1,st⟩
theorem PS.ret {e:I} {v:Expr} {p:Pos} (h:PE C Γ N e n sc ν v):PS C Γ N (.ret e) n sc ν (.Return (some v) p):=by
 intro env P vs σ X F s A E o K hf S hv
 refine bK3 (hv) fun d f σ1 he hv=>?_
 cases hv
 refine wpAny_Return_some (wpM (h K S he) (fun v s₁ q=>?_))
 obtain ⟨F1,st,r⟩:=q
 exact ⟨v,rfl,vs,σ1,F1,st,r⟩
theorem PS.iff {c t e:I} {q:Expr} {bt be:List Stmt} {p:Pos} (hc:PT C Γ N c n sc ν q) (ht:PX C Γ N t n sc ν bt) (he:PX C Γ N e n sc ν be):PS C Γ N (.iff c t e) n sc ν (.If q bt be p):=by
 intro env P vs σ X F s A E o K hf S hv
 refine bK2 (hv) fun d σ1 hd hv=>?_
 refine bK1 (hv) fun b hb hv=>?_
 refine wpAny_If (wpM (hc K S hd hb) (fun r s₁ q=>?_))
 obtain ⟨rfl,F1,st⟩:=q
 cases r
 ·exact wpM (he K hf st.st hv) (fun fl s₂ q=>q.trans st)
 ·exact wpM (ht K hf st.st hv) (fun fl s₂ q=>q.trans st)
inductive ForInv (C:Cx) (Γ:Mini.Env) (X W:Addr->Prop) (T:Nat->Heap->Prop) (P:List Place) (F₂:Fz) (s:qv) (ds:List D) (bnd:D->Sg->Option Sg) (b:I) (o:Out) (m:Nat) (s':qv):Prop
 | mk (F':Fz) (i:Nat) (σi:Sg) (vs':List (Option qq)) (em:m=ds.length+1 - i) (hi:i<=ds.length) (es:∃ h' tk,s'={ s with heap:=h',toks:=tk }) (le:F₂.le F') (same:XSame X s.heap s'.heap)
  (S:St C (Or' X W) F' s'.heap P vs' σi) (t:T i s'.heap) (hf:forN bnd (ex Γ b) (ds.drop i) σi=some o)
inductive WhlInv (C:Cx) (Γ:Mini.Env) (X:Addr->Prop) (P:List Place) (F:Fz) (s:qv) (c b:I) (o:Out) (k:Nat) (s':qv):Prop
 | mk (vs':List (Option qq)) (σi:Sg) (F':Fz) (st:Step C X P vs' F s σi F' s') (hw:zp1 (uno c (ev Γ c)) (ex Γ b) k σi=some o)
theorem PS.whl {c b:I} {q:Expr} {bd:List Stmt} {p:Pos} (hc:PT C Γ N c n sc ν q) (hb:PX C Γ N b n sc ν bd):PS C Γ N (.whl c b) n sc ν (.While q bd [] p):=by
 intro env P vs σ X F s A E o K hf S hv
 refine wpAny_While (codeAny_whileLoop (WhlInv C Γ X P F s c b o) ?_ Γ.fuel ⟨vs,σ,F,Step.refl S,hv⟩)
 rintro k s' ⟨vs',σi,F',st,hw⟩
 cases k with
 | zero=>exact (noS hw).elim
 | succ k =>
  refine bK2 (hw) fun d σ1 hd hw=>?_
  refine bK1 (hw) fun t ht hw=>?_
  refine wpM (hc K st.st hd ht) (fun r s₁ q=>?_)
  obtain ⟨rfl,F1,st1⟩:=q
  cases r with
  | true =>
   simp only [if_true]
   refine bK1 (hw) fun o1 hx hw=>?_
   refine wpM (hb K hf st1.st hx) (fun fl s₂ q=>?_)
   cases o1 with
   | next σ2 =>
    obtain ⟨rfl,vs2,F2,st2⟩:=q
    exact ⟨k,Qx _,vs2,σ2,F2,(st.trans st1).trans' st2,hw⟩
   | ret d' f' =>
    cases hw
    obtain ⟨v,rfl,vs2,σ2,F2,st2,r⟩:=q
    exact ⟨v,rfl,vs2,σ2,F2,(st.trans st1).trans' st2,r⟩
  | false =>
   cases hw
   simp only [j6,if_false]
   exact wpAny_execs_nil ⟨rfl,vs',F1,st.trans st1⟩
theorem xi4 {bnd:D->Sg->Option Sg} {body:Sg->Option Out} {d:D} {r:List D} {σ:Sg} {o:Out} (h:forN bnd body (d::r) σ=some o) :
  ∃ σ1,bnd d σ=some σ1/\((∃ σ2,body σ1=some (.next σ2)/\forN bnd body r σ2=some o)\/(∃ v f,body σ1=some (.ret v f)/\o=.ret v f)):=by
 refine bK1 (h) fun σ1 hb h=>?_
 refine bK1 (h) fun o1 hx h=>?_
 refine ⟨σ1,hb,?_⟩
 cases o1 with
 | next σ2=>exact .inl ⟨σ2,hx,h⟩
 | ret v f=>cases h; exact .inr ⟨v,f,hx,rfl⟩
noncomputable def FkF (Q:qv->Prop) (R:Result->qv->Prop) (f:Flow) (s:qv):Prop:=match f with
 | .next|.cont=>Q s
 | .brk=>R (.ok .next) s
 | .ret v=>R (.ok (.ret v)) s
noncomputable def FkV (M:Model) (A:xx) (E:qq->qv->Prop) (tg:Expr) (bd:List Stmt) (env:w0) (Q:qv->Prop) (R:Result->qv->Prop) (v:qq) (s:qv):Prop :=
 zx M A (assign tg env v) (fun _ s₂=>zx M A (execs bd env) (FkF Q R) E s₂) E s
theorem xp1 {prog:vw} {w:wy} {A:xx} {s:qv} {R:Result->qv->Prop} {target it body orelse env} (I:Nat->qv->Prop)
  (turn:∀ E n s,I n s->zx (zQ prog w) A (pyNext it) (NxC (zQ prog w) A E target it (FkV (zQ prog w) A E target body env (fun s₃=>∃ m,m<n/\I m s₃) R) fun s₁=>zx (zQ prog w) A (execs orelse env) (fun f s₃=>R (.ok f) s₃) E s₁) E s)
  (n:Nat) (h:I n s):codeAny (zQ prog w) A (.forLoop target it body orelse env) R s:=by
 refine codeAny_loop' rfl I (fun n s hI=>?_) n h
 show zx _ _ ((forTurn target it body orelse env).onRaise (fun x=>do noteFrame x env; theTreesLotGoes x)) _ _ s
 refine wpAny_noted ?_
 simp only [forTurn]
 refine qz (wpAny_standAt (qz (wpAny_onRaise (k5 (turn _ n s hI) (fun r s₁ h₁=>?_) fun _ _ h'=>wpAny_standAt h'))))
 cases r with
 | none=>exact z8 (.inr ⟨rfl,codeAny_block h₁⟩)
 | some v =>
  refine qz (k5 h₁ (fun _ s₀ h₀=>qz (k5 h₀ (fun _ s₂ h₂=>qz (k5 h₂ (fun f s₃ h₃=>?_) fun _ _ h'=>h')) fun _ _ h'=>h')) fun _ _ h'=>h')
  cases f with
  | next=>exact z8 (.inl ⟨rfl,h₃⟩)
  | cont=>exact z8 (.inl ⟨rfl,h₃⟩)
  | brk=>exact z8 h₃
  | ret v=>exact z8 h₃
noncomputable def PBd (C:Cx) (Γ:Mini.Env) (N:Nat) (bnd:D->Sg->Option Sg) (n:Nat) (sc:xj) (ν:Nu) (tg:Expr):Prop:=∀ {env:w0} {P:List Place} {vs:List (Option qq)} {σ σ':Sg} {X:Addr->Prop} {F:Fz} {s:qv} {A:xx} {E:qq->qv->Prop} {d:D} {v:qq},
 Cn Γ N env sc ν P n A->(∀ x,env.kindOf x≠some .free)->St C X F s.heap P vs σ->Rep C.w F d v->bnd d σ=some σ'->zx (zQ C.prog C.w) A (assign tg env v) (fun _ s'=>∃ vs',Step C X P vs' F s σ' F s') E s
theorem PS.forB {bnd:D->Sg->Option Sg} {sr b:I} {tg it:Expr} {bd:List Stmt} {p:Pos} (hB:PBd C Γ N bnd n sc ν tg) {gt:Expr->Prop} (hg:gt tg) (hS:PWg C Γ N gt sr n sc ν it) (h0:okE it=true) (hb:PX C Γ N b n sc ν bd) {env:w0} {P:List Place} {vs:List (Option qq)} {σ:Sg} {X:Addr->Prop} {F:Fz} {s:qv} {A:xx} {E:qq->qv->Prop} {o:Out}
  (K:Cn Γ N env sc ν P n A) (hf:∀ x,env.kindOf x≠some .free) (S:St C X F s.heap P vs σ) (hv:((srcE (ev Γ sr) σ).bind fun p=>forN bnd (ex Γ b) p.1 p.2)=some o):zx (zQ C.prog C.w) A (exec (.For tg it bd [] p) env) (PostS C X P F s o) E s:=by
 refine bK2 (hv) fun ds σ1 hs hv=>?_
 refine wpAny_For (wpM (hS K S hs) (fun v s₁ q=>wpM q (fun it s₂ q=>?_))) (yi6 h0)
 obtain ⟨F₂,J,W,T,rfl,st,hW,ht,hzd,hnob⟩:=q
 have hW':∀ a,W a->¬ X a/\C.H.get? a=none:=fun a ha=>⟨(hnob a ha).x,(hnob a ha).h⟩
 have S2:St C (Or' X W) F₂ s₂.heap P vs σ1:=st.st.protect fun a ha=>⟨hnob a ha,hW.alive 0 _ a ht ha⟩
 obtain ⟨Inv,hI⟩:∃ Inv,Inv=ForInv C Γ X W T P F₂ s ds bnd b o:=⟨_,rfl⟩
 refine xp1 Inv ?_ (ds.length+1) (hI▸⟨F₂,0,σ1,vs,rfl,wx _,st.eq,Fz.le_refl _,st.same,S2,ht,hv⟩)
 intro E m s' hI'
 obtain ⟨F',i,σi,vs',rfl,hi,⟨hh,tk,hs'⟩,le,same,S',t,hfor⟩:=hI▸hI'
 clear hI'
 have hcov:∀ a o,C.H.get? a=some o->X a\/F' a≠none:=zb7 le st.st.cov
 by_cases hlt:i<ds.length
 ·have hdrop:ds.drop i=ds[i]::ds.drop (i+1):=uW hlt
  refine elEA (xi4 (hdrop▸hfor)) fun σb hbnd hrest=>?_
  refine yk0 (W':=W) hW hg (fun a ha=>ha) hW' le hcov S' t (qJ hlt) fun v s₀ q=>?_
  obtain ⟨F2,h',tk',rfl,t',le2,S3,same0,rv,keep⟩:=q
  refine wpM (hB (s:={ s' with heap:=h',toks:=tk' }) K hf S3 rv hbnd) (fun _ s₄ w=>?_)
  obtain ⟨vs4,⟨h₂,tk₂,e4⟩,_,S4,same4⟩:=w
  have le':=Fz.le.trans le le2
  have t2:T (i+1) s₄.heap:=hW.frame _ _ _ t' (fun a o e=>S3.sub a o (le' a o e)) (fun a o ha e=>by rw [same4 a (.inr ha)]; exact e) fun a o e=>S4.sub a o (le' a o e)
  have same2:XSame X s.heap s₄.heap:=XSame.trans (XSame.trans same same0) same4.left
  have eqs:∀ {s₃:qv},(∃ h3 k3,s₃={ s₄ with heap:=h3,toks:=k3 })->∃ h3 k3,s₃={ s with heap:=h3,toks:=k3 }:=fun h=>elEE h fun h3 k3 e=>⟨h3,k3,by rw [e,e4,hs']⟩
  rcases hrest with hrest|hrest
  ·refine elEA hrest fun σ2 hx2 hfor2=>wpM (hb K hf S4 hx2) (fun fl s₃ q=>?_)
   obtain ⟨rfl,vs2,F3,st3⟩:=q
   have le3:F₂.le F3:=Fz.le.trans le' st3.le
   exact show ∃ m,m<ds.length+1 - i/\_ from ⟨ds.length+1 - (i+1),Nat.sub_lt_sub_left (Z1 hlt) (Qx i),hI▸⟨F3,i+1,σ2,vs2,rfl,hlt,eqs st3.eq,le3,XSame.trans same2 st3.same.left,st3.st,
    hW.frame _ _ _ t2 (fun a o e=>S4.sub a o (le' a o e)) (fun a o ha e=>by rw [st3.same a (.inr ha)]; exact e) fun a o e=>st3.st.sub a o (le3 a o e),hfor2⟩⟩
  ·refine elEEA hrest fun d f hx2 ho=>wpM (hb K hf S4 hx2) (fun fl s₃ q=>?_)
   obtain ⟨u,rfl,vs2,σ2,F3,st3,r⟩:=q
   have le3:F₂.le F3:=Fz.le.trans le' st3.le
   rw [ho]
   refine ⟨u,rfl,vs2,σ2,F3,⟨eqs st3.eq,Fz.le.trans st.le le3,st3.st.release (zb7 le3 st.st.cov),XSame.trans same2 st3.same.left⟩,?_⟩
   cases f with
   | false=>exact r
   | true=>exact elEAAAAA (r) fun a' e' q1 q2 q3 q4 q5=>⟨a',e',q1,fun q=>q2 (.inl q),q3,q4,q5⟩
 ·have hin:i=ds.length:=by bv_omega
  subst hin
  rw [List.drop_length] at hfor
  refine sm1 hfor ?_
  refine yk1 hW t fun h' tk' keep=>?_
  have S1:=S'.release hcov
  exact wpAny_execs_nil ⟨rfl,vs',F',⟨⟨h',tk',by rw [hs']⟩,Fz.le.trans st.le le,S1.change keep fun a ha=>Nob.back S' ha (hW' a ha).1 (hW' a ha).2,
   XSame.trans same fun a e=>(S1.xal a e).elim fun o ho=>(keep a o (fun hw=>(hW' a hw).1 e) ho).trans ho.symm⟩⟩
theorem PS.for1 {k:Nat} {sr b:I} {x:Str} {it:Expr} {bd:List Stmt} {px p:Pos} (hx:Sl ν k x) (hS:PW C Γ N sr n sc ν it) (h0:okE it=true) (hb:PX C Γ N b n sc ν bd):PS C Γ N (.for1 k sr b) n sc ν (.For (.Name x px) it bd [] p) :=
 fun K hf S hv=>PS.forB (fun K hf S r e=>by
  cases e
  exact wpAny_assign_Name (zp7 K.O S hx.at' (f:=false) r (hf x) fun h' tk S' same=>⟨_,⟨h',tk,rfl⟩,Fz.le_refl _,S',same⟩)) trivial hS h0 hb K hf S hv
inductive Sls (ν:Nu):List Nat->List (Str×Pos)->Prop
 | nil:Sls ν [] []
 | cons {k:Nat} {q:Str×Pos} {ks:List Nat} {l:List (Str×Pos)}:Sl ν k q.1->Sls ν ks l->Sls ν (k::ks) (q::l)
theorem Sls.length {ν:Nu} {ks:List Nat} {l:List (Str×Pos)} (h:Sls ν ks l):ks.length=l.length:=by
 induction h with
 | nil=>rfl
 | cons _ _ ih=>simp [ih]
theorem xn1 {env:w0} {P:List Place} {X:Addr->Prop} {A:xx} {E:qq->qv->Prop} (O:EnvOk env sc ν P) (hf:∀ x,env.kindOf x≠some .free) {ks:List Nat} {l:List (Str×Pos)} (h:Sls ν ks l) :
  ∀ {vs:List (Option qq)} {σ:Sg} {F:Fz} {s:qv} {ds:List D} {ws:List qq},St C X F s.heap P vs σ->RepL C.w F ds ws->ds.length=ks.length ->
   zx (zQ C.prog C.w) A (assignInOrder (l.map fun q=>assign (nmE q) env) ws) (fun _ s'=>∃ vs',Step C X P vs' F s (xm4 σ ks ds) F s') E s:=by
 induction h with
 | nil =>
  intro vs σ F s ds ws S r hl
  cases ds with
  | nil=>exact z8 ⟨vs,Step.refl S⟩
  | cons d ds=>simp at hl
 | cons hx _ ih =>
  intro vs σ F s ds ws S r hl
  cases ds with
  | nil=>simp at hl
  | cons d ds =>
   simp only [zu5] at r
   (refine elEEAA (r) fun v rest e_2 r1 r2=>?_; subst e_2)
   show zx _ A (do holding rest (assign (.Name _ _) env v); assignInOrder _ rest) _ _ s
   refine qz (Z2 (wpAny_assign_Name (zp7 O S hx.at' (d:=d) (f:=false) r1 (hf _) fun h' tk S' same=>?_)))
   have st1:Step C X P _ F s _ F { s with heap:=h',toks:=tk }:=⟨⟨h',tk,rfl⟩,Fz.le_refl F,S',same⟩
   refine wpM (ih (s:={ s with heap:=h',toks:=tk }) S' r2 (by simpa using hl)) (fun _ s' q=>?_)
   obtain ⟨vs',st2⟩:=q
   exact ⟨vs',st1.trans' st2⟩
theorem PS.fors {ks:List Nat} {sr b:I} {l:List (Str×Pos)} {q:Nat} {it:Expr} {bd:List Stmt} {tp p:Pos} {gt:Expr->Prop} (hg:gt (.Tuple (l.map nmE) q tp)) (hx:Sls ν ks l) (hS:PWg C Γ N gt sr n sc ν it) (h0:okE it=true) (hb:PX C Γ N b n sc ν bd):PS C Γ N (.fors ks sr b) n sc ν (.For (.Tuple (l.map nmE) q tp) it bd [] p) :=
 fun K hf S hv=>PS.forB (fun {env P vs σ σ' X F s A E d v} K hf S r e=>by
  refine bK1 (e) fun ds hd e=>?_
  obtain ⟨hl,e⟩:=ifS e
  cases e
  cases d<;>try exact (noS hd).elim
  cases hd
  simp only [zp0] at r
  (refine elAEEEAA (r) fun hz a ws m e_4 hF r_n=>?_; clear r; revert r_n; intro r; subst e_4)
  have h1:=S.sub _ _ hF
  have e1:=r.length
  simp only [vk] at e1
  refine PyProof.Rows.assign_Tuple_tuple K.R.handled (items:=ws) ⟨_,h1,rfl,_,rfl⟩ ?_ ?_ fun h' he'=>?_
  ·rw [zr6,xw,<- hx.length,<- hl,e1]
  ·rw [zr6]; exact yq6 l
  ·rw [zr6,yV]
   have k:∀ b o,s.heap.get? b=some o->h'.get? b=some o:=fun b o e=>he' b o (jV (wq e)) e
   have st2:=Step.grow (tk:=s.toks) S k
   refine wpM (xn1 K.O hf hx (s:={ s with heap:=h' }) st2.st r hl) (fun _ s' w=>?_)
   obtain ⟨vs',st3⟩:=w
   exact ⟨vs',st2.trans' st3⟩) hg hS h0 hb K hf S hv
set_option tactic.hygienic true in
theorem xz5 {σ:Sg} {k:Nat} (h:zm3 σ k=true):∃ d,σ[k]?=some (some (.own d)):=by
 unfold zm3 at h
 split at h
 ·rename_i d hd; exact ⟨d,hd⟩
 ·cases h
theorem St.own_ref {X:Addr->Prop} {P:List Place} {vs:List (Option qq)} {F:Fz} {h:Heap} {σ:Sg} (S:St C X F h P vs σ) {k:Nat} (ho:zm3 σ k=true):∃ a,vs[k]?=some (some (.ref a)):=by
 obtain ⟨d,hd⟩:=xz5 ho
 have hlt:k<vs.length:=by rw [<- S.lenS]; exact (z6.mp hd).1
 refine elEA (S.slot k vs[k] _ (qJ hlt) hd) fun a e1 _=>?_
 exact ⟨a,by rw [qJ hlt,e1]⟩
theorem xn0 {v a b:Expr} {q:Pos} {l:Nat} {env:w0}:swapsWith v (some (.Subscript a b q)) l env=pure false:=by cases v<;>rfl
theorem PS.sto (ds:yl7 C.w) {k:Nat} {key e:I} {x:Str} {ix v:Expr} {px ps p:Pos} (hx:Sl ν k x) (hk:PE C Γ N key n sc ν ix) (he':PE C Γ N e n sc ν v):PS C Γ N (.sto k key e) n sc ν (.Assign [.Subscript (.Name x px) ix ps] v p):=by
 intro env P vs σ X F s A E o K hf S hv
 refine bK3 (hv) fun dv fv σ1 he hv=>?_
 by_cases hown:zm3 σ1 k=true
 ·have hv:=(if_pos hown).symm.trans hv
  refine bK3 (hv) fun dx fx σ2 hx2 hv=>?_
  refine bK1 (hv) fun kvs ho hv=>?_
  obtain ⟨hko,hv⟩:=ifS hv
  have hko:=zw.mp hko
  have hv:Out.next (σ2.set k (some (.own (.dict (dput kvs dx dv)))))=o:=hv
  refine sm1 (congrArg some hv) ?_
  have hs:=xm8 ho
  refine wpAny_Assign_Subscript (wpM (he'.frozen K S he) (fun vv s₁ q=>?_)) xn0
  obtain ⟨F1,st1,r1⟩:=q
  obtain ⟨a,hv⟩:=st1.st.own_ref hown
  refine zl3 K.O st1.st hx.at' hv hx.ok (wpM (hk.frozen K st1.st hx2) (fun kv s₂ q=>?_))
  obtain ⟨F2,st2,r2⟩:=q
  obtain ⟨a',hv',hfa,q,hH,hX⟩:=st2.st.own_at hs
  rw [hv] at hv'; cases hv'
  refine wpM (ds C.prog A E s₂ F2 N K.R st2.st.sub r2 (Rep.mono st2.le _ r1) q hfa hko.1 (of_decide_eq_true hko.2)) (fun _ s₃ q=>?_)
  (refine elEEAA (q) fun h' tk e_2 hsame hsh=>?_; subst e_2)
  have st3:=st1.trans st2
  exact ⟨rfl,vs,F2,st3.trans ⟨⟨h',tk,rfl⟩,Fz.le_refl _,st2.st.upd hv hs hsame hsh hH,fun b hb=>hsame b (by rintro rfl; exact hX hb)⟩⟩
 ·exact (noS ((if_neg hown).symm.trans hv)).elim
theorem yb4 {env:w0} {P:List Place} {vs:List (Option qq)} {σ:Sg} {X:Addr->Prop} {F:Fz} {s:qv} {A:xx} {E:qq->qv->Prop} {Q:Flow->qv->Prop}
  {x m:Str} {px ap cp pos:Pos} {a:Expr} {k:Nat} {l:Addr} {id:String} (O:EnvOk env sc ν P) (S:St C X F s.heap P vs σ) (hx:Sl ν k x) (hline:ap.endLine=cp.line) (hc:okE a=true)
  (slot:Slot "list" m id) (hty:typeOf (.builtin id)=pure (.type "method_descriptor")) (hv:vs[k]?=some (some (.ref l))) {ws:Array qq} {c:Nat} (h1:s.heap.get? l=some (lobj ws c))
  (h:zx (zQ C.prog C.w) A (callWith cp (.builtin id) [.ref l] [(false,eval a env)] []) (fun v s'=>v=.none/\Q .next s') E s) :
  zx (zQ C.prog C.w) A (exec (.Expr (.Call (.Attribute (.Name x px) m ap) [a] [] cp) pos) env) Q E s:=by
 have hst:backTo cp (starEach [a] env)=[(false,eval a env)]:=by rw [zv9 hc]; rfl
 refine wpAny_Expr ?_ (zf6 O) (by rfl)
 refine wpAny_Call_method (T := "list") (id:=id) rfl (by rw [hst]; rfl) (by simpa using hline) PySem.F.plainAttrs_list slot hty (zl3 O S hx.at' hv hx.ok ?_)
 refine ⟨⟨_,h1,rfl⟩,fun b hb=>⟨_,by cases hb; exact h1,rfl⟩,?_⟩
 rw [hst]
 refine wpM h (fun v s' q=>?_)
 obtain ⟨rfl,q⟩:=q
 exact q
theorem xl6 {a b:Nat} (h:a+b<size):¬ ((!decide (a=0))&&uv (a+b))=true:=by
 have:uv (a+b)=false:=by
  rw [<- ze3] at h
  simp [uv]; bv_omega
 rw [this]; simp
theorem yn5 {X:Addr->Prop} {P:List Place} {vs:List (Option qq)} {F:Fz} {s:qv} {σ:Sg} (S:St C X F s.heap P vs σ) {k:Nat} {l:List D} (hl:ownL σ k=some l) :
  ∃ a ws c,vs[k]?=some (some (.ref a))/\s.heap.get? a=some (lobj ws c):=by
 obtain ⟨a,hv,_,⟨_,ws,c,h1,_⟩,_⟩:=S.own_at (zi3 hl)
 exact ⟨a,ws,c,hv,h1⟩
theorem ownLK {X:Addr->Prop} {P:List Place} {vs:List (Option qq)} {F:Fz} {s:qv} {σ:Sg} (S:St C X F s.heap P vs σ) {k:Nat} {l:List D} {a:Addr} (hs:σ[k]?=some (some (.own (.list l)))) (hv:vs[k]?=some (some (.ref a))) {R:Prop}
  (h:l.length<=size->∀ ws c,s.heap.get? a=some (lobj ws c)->RepL C.w F l ws.toList->ws.size=l.length->R):R:=by
 obtain ⟨a',hv',_,⟨hz,ws,c,h1,r⟩,_⟩:=S.own_at hs
 have e:a'=a:=by rw [hv] at hv'; cases hv'; rfl
 exact h hz ws c (e▸h1) r r.length
theorem yv9 {X:Addr->Prop} {P:List Place} {vs:List (Option qq)} {F F1:Fz} {s s':qv} {σ:Sg} (st:Step C X P vs F s σ F1 s'):wz=wz/\PostS C X P F s (.next σ) .next s':=⟨rfl,rfl,vs,F1,st⟩
theorem PS.app {k:Nat} {e:I} {x:Str} {a:Expr} {px ap cp p:Pos} (hline:ap.endLine=cp.line) (hx:Sl ν k x) (h:PE C Γ N e n sc ν a) (h0:okE a=true):PS C Γ N (.app k e) n sc ν (.Expr (.Call (.Attribute (.Name x px) "append" ap) [a] [] cp) p):=by
 intro env P vs σ X F s A E o K hf S hv
 refine bK1 (hv) fun l0 hl0 hv=>?_
 refine bK3 (hv) fun d f σ1 he hv=>?_
 refine bK1 (hv) fun l hl hv=>?_
 obtain ⟨hz,hv⟩:=ifS hv
 have hv:Out.next (σ1.set k (some (.own (.list (l++[d])))))=o:=hv
 refine sm1 (congrArg some hv) ?_
 refine elEEEA (yn5 S hl0) fun a' ws c hv' h1=>?_
 have hs:=zi3 hl
 refine yb4 K.O S hx hline h0 PySem.F.slot_list_append PySem.F.type_list_append hv' h1 ?_
 refine PySem.P.append_list (wpM (h.frozen K S he) (fun v s₁ q=>?_))
 obtain ⟨F1,st1,r⟩:=q
 have hz:l.length+1<size:=hz
 refine ownLK st1.st hs hv' fun _ ws2 c2 h2 r2 e1=>⟨ws2,c2,by rw [ze3]; bv_omega,h2,yv9 (st1.trans (Step.update (tk:=s₁.toks) st1.st (l':=l++[d]) hs hv' h2 (fun xs=>xs.push v) (by rw [z9]; exact zq hz) ?_))⟩
 rw [Array.toList_push]; exact r2.append (RepL.cons_ r RepL.nil_)
theorem yg0 (l:Addr) (items:Array qq) (n:Nat) (b:Addr) (items2:Array qq) (n2:Nat) (dd:Option Addr) (sl:Array (Option qq)) (hc0:¬(!items.isEmpty&&uv (items.size+items2.size))=true) (hc1:items.size<=Z9) (hs2:items.size+items2.size<=Z9+1) :
  Meets (Builtin.«list.extend» ⟨[.ref l,.ref b],[]⟩) (fun _ R s=>s.heap.get? l=some { cls:=.type "list", dict:=none,data:=.seq items n,slots:=#[] }/\s.heap.get? b=some { cls:=.type "list", dict:=dd,data:=.seq items2 n2,slots:=sl }/\R (.ok (.ret wz)) { s with heap:=s.heap.update l (jk fun x=>x++items2),toks:=s.toks }) :=
 .of_wp fun prog w A R s h=>by
  obtain ⟨hp,g,d,tk,os⟩:=s; (refine elAA (h) fun hl hb h_n=>?_; clear h; revert h_n; intro h)
  have f3:=AutoSeq1.sub_list_list
  have hz':(items++items2).size<=Z9+1:=by rw [Array.size_append]; exact hs2
  wp_walk using (wpAny_updateSeq hl rfl (hz:=hc1) (_hz':=hz')),AutoSeq1.wpAny_loadPart' hl,AutoSeq1.wpAny_loadPart' hb
  exact ⟨_,rfl,h⟩
inductive ExtOk (ob:Array qq->Nat->Obj->Prop) (l:Addr) (Q:qq->qv->Prop) (v:qq) (s:qv):Prop
 | mk (b:Addr) (items items2:Array qq) (n n2:Nat) (o:Obj) (hz:items.size+items2.size<=Z9) (hd:¬(!items.isEmpty&&uv (items.size+items2.size))=true) (e:v=.ref b) (hl:s.heap.get? l=some (lobj items n)) (hb:s.heap.get? b=some o) (ho:ob items2 n2 o)
  (hq:Q .none { s with heap:=s.heap.update l (jk fun xs=>xs++items2) })
noncomputable def isLO (items:Array qq) (n:Nat) (o:Obj):Prop:=∃ dd sl,o={ cls:=.type "list", dict:=dd,data:=.seq items n,slots:=sl }
theorem yf1 {A:xx} {E:qq->qv->Prop} {s:qv} {pos:Pos} {l:Addr} {x:Sem qq} {Q:qq->qv->Prop} (h:zx (zQ C.prog C.w) A x (ExtOk isLO l Q) E s) :
  zx (zQ C.prog C.w) A (callWith pos (.builtin "list.extend") [.ref l] [(false,x)] []) Q E s :=
 seqMethod1_meets PySem.F.slot_list_extend PySem.F.entry_list_extend (wpM h (fun v s₁ h₁=>by
  obtain ⟨b,items,items2,n,n2,o,hz,hd,rfl,hl,hb,⟨dd,sl,rfl⟩,hq⟩:=h₁
  exact ⟨⟨_,hl,rfl⟩,PySem.F.args_list_extend_2 _ _,_,yg0 l items n b items2 n2 dd sl hd (qw (qQ _ _) hz) (yv hz),hl,hb,hq⟩))
noncomputable def isTO (items:Array qq) (n:Nat) (o:Obj):Prop:=o=tobj items n
theorem yf0 {A:xx} {E:qq->qv->Prop} {s:qv} {pos:Pos} {l:Addr} {x:Sem qq} {Q:qq->qv->Prop} (h:zx (zQ C.prog C.w) A x (ExtOk isTO l Q) E s) :
  zx (zQ C.prog C.w) A (callWith pos (.builtin "list.extend") [.ref l] [(false,x)] []) Q E s :=
 seqMethod1_meets PySem.F.slot_list_extend PySem.F.entry_list_extend (wpM h (fun v s₁ h₁=>by
  obtain ⟨b,items,items2,n,n2,o,hz,hd,rfl,hl,hb,ho,hq⟩:=h₁
  exact ⟨⟨_,hl,rfl⟩,PySem.F.args_list_extend_2 _ _,_,AutoSeq1.list_extend_list_tuple_0 l items n b items2 n2 hd (qw (qQ _ _) hz) (yv hz),hl,hb.trans (congrArg some ho),hq⟩))
theorem xi8 {X:Addr->Prop} {P:List Place} {vs:List (Option qq)} {F F1:Fz} {s s₁:qv} {σ1:Sg} {k:Nat} {l r:List D} {a b:Addr} {ws3:Array qq} {c3:Nat} {o:Obj} {ob:Array qq->Nat->Obj->Prop} (st1:Step C X P vs F s σ1 F1 s₁) (hs:σ1[k]?=some (some (.own (.list l)))) (hv:vs[k]?=some (some (.ref a)))
  (hz:l.length+r.length<size) (r3:RepL C.w F1 r ws3.toList) (hb:s₁.heap.get? b=some o) (ho:ob ws3 c3 o):ExtOk ob a (fun v s'=>v=.none/\PostS C X P F s (.next (σ1.set k (some (.own (.list (l++r)))))) .next s') (.ref b) s₁:=by
 refine ownLK st1.st hs hv fun _ ws2 c2 h2 r2 e1=>?_
 have e2:ws3.size=r.length:=r3.length
 have hz':ws2.size+ws3.size<size:=by rw [e1,e2]; exact hz
 have hd:=xl6 hz'
 refine ⟨b,ws2,ws3,c2,c3,o,zq hz',by simpa [Array.isEmpty] using hd,rfl,h2,hb,ho,yv9 (st1.trans (Step.update (tk:=s₁.toks) st1.st (l':=l++r) hs hv h2 (fun xs=>xs++ws3) (by rw [z9]; exact zq hz) ?_))⟩
 rw [w6]; exact r2.append r3
theorem PS.ext {k:Nat} {e:I} {x:Str} {a:Expr} {px ap cp p:Pos} (hline:ap.endLine=cp.line) (hx:Sl ν k x) (h:PE C Γ N e n sc ν a) (h0:okE a=true):PS C Γ N (.ext k e) n sc ν (.Expr (.Call (.Attribute (.Name x px) "extend" ap) [a] [] cp) p):=by
 intro env P vs σ X F s A E o K hf S hv
 refine bK1 (hv) fun l0 hl0 hv=>?_
 refine bK3 (hv) fun d f σ1 he hv=>?_
 refine bK1 (hv) fun r hr hv=>?_
 refine bK1 (hv) fun l hl hv=>?_
 obtain ⟨hz,hv⟩:=ifS hv
 have hv:Out.next (σ1.set k (some (.own (.list (l++r)))))=o:=hv
 refine sm1 (congrArg some hv) ?_
 refine elEEEA (yn5 S hl0) fun a' ws c hv' h1=>?_
 have hs:=zi3 hl
 refine yb4 K.O S hx hline h0 PySem.F.slot_list_extend PySem.F.type_list_extend hv' h1 ?_
 have hr:extD d=some r:=hr
 revert he
 refine extK hr (fun he=>?_)
  (fun he=>?_)
 ·refine yf1 (wpM (h.frozen K S he) (fun v s₁ q=>?_))
  obtain ⟨F1,st1,rr⟩:=q
  refine Top.lisK (.inl rr) st1.st.sub fun _ b dd sl ws3 c3 h3 r3=>?_
  exact xi8 (ob:=isLO) st1 hs hv' hz r3 h3 ⟨dd,sl,rfl⟩
 ·refine yf0 (wpM (h.frozen K S he) (fun v s₁ q=>?_))
  obtain ⟨F1,st1,rr⟩:=q
  refine Top.tupK (.inl rr) st1.st.sub fun _ b ws3 c3 _ h3 r3=>?_
  exact xi8 (ob:=isTO) st1 hs hv' hz r3 h3 rfl
structure GL (C:Cx) (Γ:Mini.Env) (N:Nat) (i:I) (n:Nat) (sc:xj) (ν:Nu) (l:List Expr):Prop where
 es:PES C Γ N i n sc ν l
 an:PAnd C Γ N i n sc ν l
 or:POr C Γ N i n sc ν l
 sh:(i=.nil/\l=[])\/∃ a r x t,i=.cons a r/\l=x::t
noncomputable def GT (C:Cx) (Γ:Mini.Env) (N:Nat) (i:I) (n:Nat) (sc:xj) (ν:Nu):Tg->Prop
 | .ex t e=>PW C Γ N i n sc ν e/\(t=false->GE C Γ N i n sc ν e)
 | .exs es=>GL C Γ N i n sc ν es
 | .opt o=>PB C Γ N i n sc ν o
 | .ifs l=>PC C Γ N i n sc ν l
 | .st s=>PS C Γ N i n sc ν s
 | .sts l=>PX C Γ N i n sc ν l
theorem GE.of {i:I} {e:Expr} (h:PE C Γ N i n sc ν e) (hb:xz4 i=false) (t:PT C Γ N i n sc ν e) (hc:xv2 e=true):GE C Γ N i n sc ν e:=⟨h,PE.opnd hb h,t,PU.plain h hc⟩
theorem GE.tg (di:zf1 C.w) {i:I} {t:Bool} {e:Expr} (h:GE C Γ N i n sc ν e):GT C Γ N i n sc ν (.ex t e):=⟨PW.plain di h.e,fun _=>h⟩
theorem GE.brw {k:Nat} {x:Str} {p:Pos} (hx:Sl ν k x):GE C Γ N (.brw k) n sc ν (.Name x p) :=
 ⟨fun _ _ hv=>(noS hv).elim,PO.brw hx,PT.plain (PO.brw hx) fun _ _=>rfl,fun _ _ _ _ hv=>(noS hv).elim⟩
theorem GE.compG {i elt sr cond:I} {ee it:Expr} {nm:List Str} {tg:Expr} {bc:D->Option (List D)} {ifs:List Expr} {csc:xj} {pos:Pos} (hi:xz4 i=false) (hev:∀ σ,ev Γ i σ=ys1 Γ bc elt sr cond σ) (hBc:PBc C bc n nm csc ν tg) (hnm:nm.Nodup) (hne:nm≠[]) (hS:PW C Γ N sr n sc ν it) (hE:PE C Γ N elt (n+nm.length) csc (zx7 n ν nm csc) ee) (hT:PC C Γ N cond (n+nm.length) csc (zx7 n ν nm csc) ifs) (h0:okE it=true) (KC:CompOk sc ν nm csc) :
  GE C Γ N i n sc ν (.ListComp ee [⟨tg,it,ifs,0⟩] csc pos) :=
 ⟨PE.compG hev hBc hnm hne hS hE hT h0 KC,PE.opnd hi (PE.compG hev hBc hnm hne hS hE hT h0 KC),PT.plain (PE.opnd hi (PE.compG hev hBc hnm hne hS hE hT h0 KC)) (zb3 rfl),PU.compG hev hBc hnm hne hS hE hT h0 KC⟩
theorem GE.comp1 {elt sr cond:I} {ee it:Expr} {x:Str} {px:Pos} {ifs:List Expr} {csc:xj} {pos:Pos} (hS:PW C Γ N sr n sc ν it) (hE:PE C Γ N elt (n+1) csc (zx7 n ν [x] csc) ee) (hT:PC C Γ N cond (n+1) csc (zx7 n ν [x] csc) ifs) (h0:okE it=true) (KC:CompOk sc ν [x] csc) :
  GE C Γ N (.comp1 elt sr cond) n sc ν (.ListComp ee [⟨.Name x px,it,ifs,0⟩] csc pos):=GE.compG (bc:=bc1) rfl wp4 PBc.name (by simp) (by simp) hS hE hT h0 KC
theorem GE.compT {elt sr cond:I} {ee it:Expr} {l:List (Str×Pos)} {q:Nat} {tp:Pos} {ifs:List Expr} {csc:xj} {pos:Pos} (hnm:(l.map (·.1)).Nodup) (hne:l.map (·.1)≠[]) (hS:PW C Γ N sr n sc ν it) (hE:PE C Γ N elt (n+(l.map (·.1)).length) csc (zx7 n ν (l.map (·.1)) csc) ee) (hT:PC C Γ N cond (n+(l.map (·.1)).length) csc (zx7 n ν (l.map (·.1)) csc) ifs) (h0:okE it=true) (KC:CompOk sc ν (l.map (·.1)) csc) :
  GE C Γ N (.compT (l.map (·.1)).length elt sr cond) n sc ν (.ListComp ee [⟨.Tuple (l.map nmE) q tp,it,ifs,0⟩] csc pos):=GE.compG rfl (fun _=>rfl) (PBc.tup hnm) hnm hne hS hE hT h0 KC
theorem GL.cons {a r:I} {e:Expr} {es:List Expr} (ha:GE C Γ N a n sc ν e) (h0:okE e=true) (hr:GL C Γ N r n sc ν es):GL C Γ N (.cons a r) n sc ν (e::es):=by
 obtain ⟨rfl,rfl⟩|⟨_,_,_,_,rfl,rfl⟩:=hr.sh
 ·exact ⟨PES.cons ha.e h0 hr.es,PAnd.last ha.e ha.t,POr.last ha.e ha.t,.inr ⟨_,_,_,_,rfl,rfl⟩⟩
 ·exact ⟨PES.cons ha.e h0 hr.es,PAnd.more ha.e ha.t hr.an,POr.more ha.e ha.t hr.or,.inr ⟨_,_,_,_,rfl,rfl⟩⟩
end
end Snd
end
section
namespace Snd
open PySem Mini PySem.SeqAt
open AutoSeq1 (wpAny_loadPart')
open MeetsSeq MeetsSeq2 MeetsSeq3 SeqRoads2
theorem xm0 (l:Addr) (items:Array qq) (n:Nat) (x:qq) (j:Nat) (hj:j<items.size) (hs1:items.size<=Z9) (k:Nat) :
  ∀ i:Nat,j - i=k->i<=j->Meets (Builtin.«list.remove.loop» ⟨[.ref l,x,rawInt i],[]⟩)
   (fun A R s=>s.heap.get? l=some { cls:=.type "list", dict:=none,data:=.seq items n,slots:=#[] }/\(∀ m (h:m<items.size),m<=j->EqAt A.in1 s items[m] x (decide (m=j))) /\
    R (.ok (.ret .none)) { s with heap:=s.heap.update l (jk fun xs=>xs.eraseIdxIfInBounds j) }):=by
 induction k with
 | zero =>
  intro i hk hij prog w A R s h
  obtain ⟨hp,g,d,tk,os⟩:=s
  (refine elAA (h) fun hl he h_n=>?_; clear h; revert h_n; intro h)
  have e:i=j:=k9 hij (Nat.le_of_sub_eq_zero hk)
  subst e
  wp_walk using wpAny_loadPart' hl
  rw [show items[((i:Nat):Int).toNat]?=some items[i] by simp [hj]]
  refine qz (he i hj (zW _) prog w _ _ ?_)
  rw [decide_eq_true rfl]
  have hz':(items.eraseIdxIfInBounds i).size<=Z9+1:=qw (size_erased items _) (yv hs1)
  wp_walk using (wpAny_updateSeq hl rfl (hz:=hs1) (_hz':=hz')),wpAny_loadPart' hl
  simpa using h
 | succ k ih =>
  intro i hk hij prog w A R s h
  obtain ⟨hp,g,d,tk,os⟩:=s
  (refine elAA (h) fun hl he h_n=>?_; clear h; revert h_n; intro h)
  have hlt:i<items.size:=by bv_omega
  wp_walk using wpAny_loadPart' hl
  rw [show items[((i:Nat):Int).toNat]?=some items[i] by simp [hlt]]
  refine qz (he i hlt hij prog w _ _ ?_)
  rw [decide_eq_false (show ¬ i=j from jV (Nat.lt_of_sub_pos (hk▸Nat.succ_pos k)))]
  wp_walk
  rw [show ((i:Int)+1)=((i+1:Nat):Int) by push_cast; rfl]
  exact ⟨plainId_quiet plain_remove_loop _,codeAny_builtin entry_remove_loop (by
   rw [xx.under_plainId plain_remove_loop _]
   exact ih (i+1) (congrArg Nat.pred hk) (Nat.lt_of_sub_pos (hk▸Nat.succ_pos k)) prog w A R _ ⟨hl,he,h⟩)⟩
theorem RepL.erase {w:wy} {F:Fz}:∀ {ds:List D} {vs:List qq} (j:Nat),RepL w F ds vs->RepL w F (ds.eraseIdx j) (vs.eraseIdx j)
 | [],vs,j,r=>by simp only [zp3] at r; subst r; simp [zp3]
 | d::ds,vs,0,r=>by simp only [zu5] at r; (refine elEEAA (r) fun v t e_2 _ r2=>?_; subst e_2); exact r2
 | d::ds,vs,j+1,r=>by
  simp only [zu5] at r
  (refine elEEAA (r) fun v t e_2 r1 r2=>?_; subst e_2)
  exact RepL.cons_ r1 (RepL.erase j r2)
variable {C:Cx} {Γ:Mini.Env} {N:Nat} {n:Nat} {sc:xj} {ν:Nu}
inductive RemOk (A:xx) (l:Addr) (Q:qq->qv->Prop) (v:qq) (s:qv):Prop
 | mk (items:Array qq) (m j:Nat) (hj:j<items.size) (hz:items.size<=Z9) (hl:s.heap.get? l=some (lobj items m)) (he:∀ i (h:i<items.size),i<=j->EqAt A.in1 s items[i] v (decide (i=j)))
  (hq:Q .none { s with heap:=s.heap.update l (jk fun xs=>xs.eraseIdxIfInBounds j) })
theorem yc4 {A:xx} {E:qq->qv->Prop} {s:qv} {pos:Pos} {l:Addr} {x:Sem qq} {Q:qq->qv->Prop} (h:zx (zQ C.prog C.w) A x (RemOk A l Q) E s) :
  zx (zQ C.prog C.w) A (callWith pos (.builtin "list.remove") [.ref l] [(false,x)] []) Q E s :=
 seqMethod1_meets PySem.F.slot_list_remove PySem.F.entry_list_remove (wpM h (fun v s₁ h₁=>by
  obtain ⟨items,m,j,hj,hsz,hl,he,hq⟩:=h₁
  refine ⟨⟨_,hl,rfl⟩,PySem.F.args_list_remove_2 _ _,fun A R s=>s.heap.get? l=some (lobj items m)/\(∀ i (h:i<items.size),i<=j->EqAt A.in1 s items[i] v (decide (i=j)))/\R (.ok (.ret .none)) { s with heap:=s.heap.update l (jk fun xs=>xs.eraseIdxIfInBounds j) },?_,hl,he,hq⟩
  clear hq he hl
  intro prog w A R s h
  obtain ⟨hp,g,d,tk,os⟩:=s
  obtain ⟨hl,he,h⟩:=h
  wp_walk using wpAny_loadPart' hl
  exact ⟨plainId_quiet plain_remove_loop _,codeAny_builtin entry_remove_loop (by
   rw [xx.under_plainId plain_remove_loop _]
   exact xm0 l items m v j hj hsz _ 0 rfl (wx _) prog w A R _ ⟨hl,he,h⟩)⟩))
theorem wq4 {l:List D} {d:D} {i:Nat} (hi:i<l.length) (hj:(l.findIdx fun y=>qX y d)<l.length) (hij:i<=l.findIdx fun y=>qX y d):qX l[i] d=decide (i=l.findIdx fun y=>qX y d):=by
 by_cases hq:i=l.findIdx fun y=>qX y d
 ·rw [decide_eq_true hq]
  subst hq
  exact List.findIdx_getElem (w:=hj)
 ·rw [decide_eq_false hq]
  have:=List.not_of_lt_findIdx (p:=fun y=>qX y d) (xs:=l) (i:=i) (j7 hij hq)
  simpa using this
theorem PS.rem {k:Nat} {e:I} {x:Str} {a:Expr} {px ap cp p:Pos} (hline:ap.endLine=cp.line) (hx:Sl ν k x) (h:PE C Γ N e n sc ν a) (h0:okE a=true):PS C Γ N (.rem k e) n sc ν (.Expr (.Call (.Attribute (.Name x px) "remove" ap) [a] [] cp) p):=by
 intro env P vs σ X F s A E o K hf S hv
 refine bK1 (hv) fun l0 hl0 hv=>?_
 refine bK3 (hv) fun d f σ1 he hv=>?_
 refine bK1 (hv) fun l hl hv=>?_
 refine bK1 (hv) fun l' hr hv=>?_
 refine sm1 hv ?_
 refine ifK hr fun hr=>?_
 have hr2:=zw.mp hr
 have hr1:=zw.mp hr2.1
 have hj:(l.findIdx fun y=>qX y d)<l.length:=List.findIdx_lt_length_of_exists (List.any_eq_true.mp hr2.2)
 refine elEEEA (yn5 S hl0) fun a' ws c hv' h1=>?_
 have hs:=zi3 hl
 refine yb4 K.O S hx hline h0 PySem.F.slot_list_remove PySem.F.type_list_remove hv' h1 ?_
 refine yc4 (wpM (h.frozen K S he) (fun v s₁ q=>?_))
 obtain ⟨F1,st1,r⟩:=q
 refine ownLK st1.st hs hv' fun hz2 ws2 c2 h2 r2 e1=>⟨ws2,c2,_,by rw [e1]; exact hj,by rw [e1]; exact hz2,h2,fun i hi hij=>?_,yv9 (st1.trans (Step.update (tk:=s₁.toks) st1.st (l':=l.eraseIdx _) hs hv' h2 (fun xs=>xs.eraseIdxIfInBounds _) (qw (List.length_eraseIdx_le (l:=l) (i:=l.findIdx fun y=>qX y d)) hz2) ?_))⟩
 ·have hil:i<l.length:=e1▸hi
  refine elEA (r2.get (qJ hil)) fun u hu ru=>?_
  have hu:ws2[i]=u:=xW ((xZ hi).symm.trans (wj.symm.trans hu))
  refine (Rep.reads st1.st.sub _ ru).elim fun as q1=>(Rep.reads st1.st.sub _ r).elim fun bs q2=>?_
  have o1:=zy9 (xJ.mp hr1.2 _ (jZ hil))
  have hun:=K.R.units
  have:=eqAt_reads _ _ A.in1 s₁ _ _ as bs q1 q2 o1.1 (zy9 hr1.1).1 (xx6 hun o1.2)
  rwa [wq4 hil hj hij,<- hu] at this
 ·rw [Array.eraseIdxIfInBounds,dif_pos (by rw [e1]; exact hj),Array.toList_eraseIdx]
  exact r2.erase _
end Snd
end
section
namespace Snd
open PySem Mini
structure Tie (i:I) (n:Nat) (sc:xj) (ν:Nu) (g:Tg):Prop where
 ok:okT g
 gt:∀ {C:Cx} {Γ:Mini.Env} {N:Nat},Ground C Γ N->zf1 C.w->yl7 C.w->GT C Γ N i n sc ν g
theorem Tie.okE {i:I} {n:Nat} {sc:xj} {ν:Nu} {t:Bool} {e:Expr} (h:Tie i n sc ν (.ex t e)):okE e=true:=h.ok
theorem Tie.okH {i:I} {n:Nat} {sc:xj} {ν:Nu} {e:Expr} {es:List Expr} (h:Tie i n sc ν (.exs (e::es))):Mini.okE e=true:=h.ok e (j5 ..)
theorem Tie.cnone {n:Nat} {sc:xj} {ν:Nu} {t:Bool} {k:Nat} {p:Pos}:Tie .cnone n sc ν (.ex t (.Constant .none k p)):=⟨rfl,fun G di ds=>GE.tg di (GE.plain PE.cnone rfl rfl rfl)⟩
theorem Tie.cbool {n:Nat} {sc:xj} {ν:Nu} {t:Bool} {b:Bool} {k:Nat} {p:Pos}:Tie (.cbool b) n sc ν (.ex t (.Constant (.bool b) k p)):=⟨rfl,fun G di ds=>GE.tg di (GE.plain PE.cbool rfl rfl rfl)⟩
theorem Tie.cint {n:Nat} {sc:xj} {ν:Nu} {t:Bool} {b:Int} {k:Nat} {p:Pos}:Tie (.cint b) n sc ν (.ex t (.Constant (.int b) k p)):=⟨rfl,fun G di ds=>GE.tg di (GE.plain PE.cint rfl rfl rfl)⟩
theorem Tie.cstr {n:Nat} {sc:xj} {ν:Nu} {t:Bool} {b:Str} {k:Nat} {p:Pos}:Tie (.cstr b) n sc ν (.ex t (.Constant (.str b) k p)):=⟨rfl,fun G di ds=>GE.tg di (GE.plain PE.cstr rfl rfl rfl)⟩
theorem Tie.var {n:Nat} {sc:xj} {ν:Nu} {t:Bool} {k:Nat} {x:Str} {p:Pos} (h0:Sl ν k x):Tie (.var k) n sc ν (.ex t (.Name x p)):=⟨rfl,fun G di ds=>GE.tg di (GE.plain (PE.var h0) rfl rfl rfl)⟩
theorem Tie.brw {n:Nat} {sc:xj} {ν:Nu} {t:Bool} {k:Nat} {x:Str} {p:Pos} (h0:Sl ν k x):Tie (.brw k) n sc ν (.ex t (.Name x p)):=⟨rfl,fun G di ds=>GE.tg di (GE.brw h0)⟩
theorem Tie.glob {n:Nat} {sc:xj} {ν:Nu} {t:Bool} {x:Str} {p:Pos} (h0:zw4 sc ν x=true):Tie (.glob x) n sc ν (.ex t (.Name x p)):=⟨rfl,fun G di ds=>GE.tg di (GE.plain (PE.glob G h0) rfl rfl rfl)⟩
theorem Tie.bin {n:Nat} {sc:xj} {ν:Nu} {t:Bool} {op:Operator} {a b:I} {l r:Expr} {p:Pos} (h0:Tie a n sc ν (.ex false l)) (h1:Tie b n sc ν (.ex false r)):Tie (.bin op a b) n sc ν (.ex t (.BinOp l op r p)):=⟨rfl,fun G di ds=>GE.tg di (GE.plain (PE.bin ((h0.gt G di ds).2 rfl).o ((h1.gt G di ds).2 rfl).o) rfl rfl rfl)⟩
theorem Tie.not {n:Nat} {sc:xj} {ν:Nu} {t:Bool} {a:I} {e:Expr} {p:Pos} (h0:Tie a n sc ν (.ex false e)):Tie (.not a) n sc ν (.ex t (.UnaryOp .Not e p)):=⟨rfl,fun G di ds=>GE.tg di (GE.of (PE.not ((h0.gt G di ds).2 rfl).o) rfl (PT.not ((h0.gt G di ds).2 rfl).t) rfl)⟩
theorem Tie.and {n:Nat} {sc:xj} {ν:Nu} {t:Bool} {l:I} {es:List Expr} {p:Pos} (h0:Tie l n sc ν (.exs es)):Tie (.and l) n sc ν (.ex t (.BoolOp .And es p)):=⟨rfl,fun G di ds=>GE.tg di (GE.of (PE.and (h0.gt G di ds).an) rfl (PT.and (h0.gt G di ds).an) rfl)⟩
theorem Tie.or {n:Nat} {sc:xj} {ν:Nu} {t:Bool} {l:I} {es:List Expr} {p:Pos} (h0:Tie l n sc ν (.exs es)):Tie (.or l) n sc ν (.ex t (.BoolOp .Or es p)):=⟨rfl,fun G di ds=>GE.tg di (GE.of (PE.or (h0.gt G di ds).or) rfl (PT.or (h0.gt G di ds).or) rfl)⟩
theorem Tie.cmp {n:Nat} {sc:xj} {ν:Nu} {t:Bool} {op:CmpOp} {a b:I} {l r:Expr} {p:Pos} (h0:Tie a n sc ν (.ex false l)) (h1:Tie b n sc ν (.ex false r)):Tie (.cmp op a b) n sc ν (.ex t (.Compare l [op] [r] p)):=⟨rfl,fun G di ds=>GE.tg di (GE.of (PE.cmp G ((h0.gt G di ds).2 rfl).o ((h1.gt G di ds).2 rfl).o h1.okE) rfl (PT.cmp G ((h0.gt G di ds).2 rfl).o ((h1.gt G di ds).2 rfl).o h1.okE) rfl)⟩
theorem Tie.cmp2 {n:Nat} {sc:xj} {ν:Nu} {t:Bool} {o1 o2:CmpOp} {a b c:I} {l r1 r2:Expr} {p:Pos} (h0:Tie a n sc ν (.ex false l)) (h1:Tie b n sc ν (.ex false r1)) (h2:Tie c n sc ν (.ex false r2)):Tie (.cmp2 o1 o2 a b c) n sc ν (.ex t (.Compare l [o1,o2] [r1,r2] p)):=⟨rfl,fun G di ds=>GE.tg di (GE.of (PE.cmp2 G ((h0.gt G di ds).2 rfl).e ((h1.gt G di ds).2 rfl).e ((h2.gt G di ds).2 rfl).e h2.okE) rfl (PT.cmp2 G ((h0.gt G di ds).2 rfl).e ((h1.gt G di ds).2 rfl).e ((h2.gt G di ds).2 rfl).e h2.okE) rfl)⟩
theorem Tie.ite {n:Nat} {sc:xj} {ν:Nu} {t:Bool} {c a b:I} {q x y:Expr} {p:Pos} (h0:Tie c n sc ν (.ex false q)) (h1:Tie a n sc ν (.ex false x)) (h2:Tie b n sc ν (.ex false y)):Tie (.ite c a b) n sc ν (.ex t (.IfExp q x y p)):=⟨rfl,fun G di ds=>GE.tg di (GE.of (PE.ite ((h0.gt G di ds).2 rfl).t ((h1.gt G di ds).2 rfl).e ((h2.gt G di ds).2 rfl).e) rfl (PT.ite ((h0.gt G di ds).2 rfl).t ((h1.gt G di ds).2 rfl).t ((h2.gt G di ds).2 rfl).t) rfl)⟩
theorem Tie.tup {n:Nat} {sc:xj} {ν:Nu} {t:Bool} {l:I} {es:List Expr} {q:Nat} {p:Pos} (h0:Tie l n sc ν (.exs es)):Tie (.tup l) n sc ν (.ex t (.Tuple es q p)):=⟨rfl,fun G di ds=>GE.tg di (GE.plain (PE.tup (h0.gt G di ds).es) rfl rfl rfl)⟩
theorem Tie.lst {n:Nat} {sc:xj} {ν:Nu} {t:Bool} {l:I} {es:List Expr} {p:Pos} (h0:Tie l n sc ν (.exs es)):Tie (.lst l) n sc ν (.ex t (.List es p)):=⟨rfl,fun G di ds=>GE.tg di (GE.plain (PE.lst (h0.gt G di ds).es) rfl rfl rfl)⟩
theorem Tie.dct0 {n:Nat} {sc:xj} {ν:Nu} {t:Bool} {p:Pos}:Tie .dct0 n sc ν (.ex t (.Dict [] [] p)):=⟨rfl,fun G di ds=>GE.tg di (GE.plain (PE.dct0 G) rfl rfl rfl)⟩
theorem Tie.comp1 {n:Nat} {sc:xj} {ν:Nu} {t:Bool} {elt s cond:I} {e it:Expr} {x:Str} {px:Pos} {ifs:List Expr} {csc:xj} {p:Pos} (h0:zl7 sc ν [x] csc=true) (h1:Tie s n sc ν (.ex true it)) (h2:Tie cond (n+1) csc (zx7 n ν [x] csc) (.ifs ifs)) (h3:Tie elt (n+1) csc (zx7 n ν [x] csc) (.ex false e)):Tie (.comp1 elt s cond) n sc ν (.ex t (.ListComp e [⟨.Name x px,it,ifs,0⟩] csc p)):=⟨rfl,fun G di ds=>GE.tg di (GE.comp1 (h1.gt G di ds).1 ((h3.gt G di ds).2 rfl).e (h2.gt G di ds) h1.okE (zh5 h0))⟩
theorem Tie.compT {n:Nat} {sc:xj} {ν:Nu} {t:Bool} {m:Nat} {elt s cond:I} {e it:Expr} {l:List (Str×Pos)} {q:Nat} {tp:Pos} {ifs:List Expr} {csc:xj} {p:Pos} (hm:(l.map (·.1)).length=m) (h1:zl7 sc ν (l.map (·.1)) csc=true) (h2:(decide (l.map (·.1)).Nodup&&!(l.map (·.1)).isEmpty)=true) (h3:Tie s n sc ν (.ex true it)) (h4:Tie cond (n+(l.map (·.1)).length) csc (zx7 n ν (l.map (·.1)) csc) (.ifs ifs)) (h5:Tie elt (n+(l.map (·.1)).length) csc (zx7 n ν (l.map (·.1)) csc) (.ex false e)) :
  Tie (.compT m elt s cond) n sc ν (.ex t (.ListComp e [⟨.Tuple (l.map nmE) q tp,it,ifs,0⟩] csc p)) :=
 ⟨rfl,fun G di ds=>by
  subst hm
  simp only [zj,decide_eq_true_eq,Bool.not_eq_true',List.isEmpty_eq_false_iff] at h2
  exact GE.tg di (GE.compT h2.1 h2.2 (h3.gt G di ds).1 ((h5.gt G di ds).2 rfl).e (h4.gt G di ds) h3.okE (zh5 h1))⟩
theorem Tie.call {n:Nat} {sc:xj} {ν:Nu} {t:Bool} {g:Str} {l:I} {e:Expr} {es:List Expr} {px p:Pos} (h0:zw4 sc ν g=true) (h1:Tie l n sc ν (.exs (e::es))):Tie (.call g l) n sc ν (.ex t (.Call (.Name g px) (e::es) [] p)):=⟨rfl,fun G di ds=>GE.tg di (GE.plain (PE.call G h0 (h1.gt G di ds).es h1.okH) rfl rfl rfl)⟩
theorem Tie.prim1 {n:Nat} {sc:xj} {ν:Nu} {t:Bool} {q:Prim} {a:I} {e:Expr} {px p:Pos} (h0:zw4 sc ν q.name=true) (h1:Tie a n sc ν (.ex false e)):Tie (.prim1 q a) n sc ν (.ex t (.Call (.Name q.name px) [e] [] p)):=⟨rfl,fun G di ds=>GE.tg di (GE.plain (PE.prim1 G h0 ((h1.gt G di ds).2 rfl).o h1.okE) rfl rfl rfl)⟩
theorem Tie.isi {n:Nat} {sc:xj} {ν:Nu} {t:Bool} {a:I} {ty:Str} {e:Expr} {px py p:Pos} (h0:zw4 sc ν "isinstance" = true) (h1:Tie a n sc ν (.ex false e)) (h2:zw4 sc ν ty=true):Tie (.isi a ty) n sc ν (.ex t (.Call (.Name "isinstance" px) [e,.Name ty py] [] p)):=⟨rfl,fun G di ds=>GE.tg di (GE.plain (PE.isi G h0 ((h1.gt G di ds).2 rfl).o h1.okE h2) rfl rfl rfl)⟩
theorem Tie.idx {n:Nat} {sc:xj} {ν:Nu} {t:Bool} {a i:I} {v s:Expr} {p:Pos} (h0:Tie a n sc ν (.ex false v)) (h1:Tie i n sc ν (.ex false s)):Tie (.idx a i) n sc ν (.ex t (.Subscript v s p)):=⟨rfl,fun G di ds=>GE.tg di (GE.plain (PE.idx G ((h0.gt G di ds).2 rfl).o ((h1.gt G di ds).2 rfl).o h1.okE) rfl rfl rfl)⟩
theorem Tie.slc {n:Nat} {sc:xj} {ν:Nu} {t:Bool} {a lo hi:I} {v:Expr} {l h:Option Expr} {p q:Pos} (h0:Tie a n sc ν (.ex false v)) (h1:Tie lo n sc ν (.opt l)) (h2:Tie hi n sc ν (.opt h)):Tie (.slc a lo hi) n sc ν (.ex t (.Subscript v (.Slice l h none q) p)):=⟨rfl,fun G di ds=>GE.tg di (GE.plain (PE.slc ((h0.gt G di ds).2 rfl).o (h1.gt G di ds) (h2.gt G di ds)) rfl rfl rfl)⟩
theorem Tie.pop {n:Nat} {sc:xj} {ν:Nu} {t:Bool} {k:Nat} {x:Str} {px ap cp:Pos} (h0:ap.endLine=cp.line) (h1:Sl ν k x):Tie (.pop k) n sc ν (.ex t (.Call (.Attribute (.Name x px) "pop" ap) [] [] cp)):=⟨rfl,fun G di ds=>GE.tg di (GE.plain (PE.pop h0 h1) rfl rfl rfl)⟩
theorem Tie.rng1 {n:Nat} {sc:xj} {ν:Nu} {b:I} {e:Expr} {px p:Pos} (h0:zw4 sc ν "range" = true) (h1:Tie b n sc ν (.ex false e)):Tie (.rng1 b) n sc ν (.ex true (.Call (.Name "range" px) [e] [] p)):=⟨rfl,fun G di ds=>⟨PW.rng1 G h0 ((h1.gt G di ds).2 rfl).e h1.okE,fun e=>nomatch e⟩⟩
theorem Tie.rng {n:Nat} {sc:xj} {ν:Nu} {a b:I} {e f:Expr} {px p:Pos} (h0:zw4 sc ν "range" = true) (h1:Tie a n sc ν (.ex false e)) (h2:Tie b n sc ν (.ex false f)):Tie (.rng a b) n sc ν (.ex true (.Call (.Name "range" px) [e,f] [] p)):=⟨rfl,fun G di ds=>⟨PW.rng G h0 ((h1.gt G di ds).2 rfl).e ((h2.gt G di ds).2 rfl).e h1.okE h2.okE,fun e=>nomatch e⟩⟩
theorem Tie.nil {n:Nat} {sc:xj} {ν:Nu}:Tie .nil n sc ν (.exs []):=⟨(fun e he=>nomatch he),fun G di ds=>⟨PES.nil,fun _ _ hv=>(noS hv).elim,fun _ _ hv=>(noS hv).elim,.inl ⟨rfl,rfl⟩⟩⟩
theorem Tie.cons {n:Nat} {sc:xj} {ν:Nu} {a r:I} {e:Expr} {es:List Expr} (h0:Tie a n sc ν (.ex false e)) (h1:Tie r n sc ν (.exs es)):Tie (.cons a r) n sc ν (.exs (e::es)):=⟨(fun e he=>(z0.mp he).elim (fun q=>q▸h0.ok) fun q=>h1.ok e q),fun G di ds=>GL.cons ((h0.gt G di ds).2 rfl) h0.okE (h1.gt G di ds)⟩
theorem Tie.onone {n:Nat} {sc:xj} {ν:Nu}:Tie .omit n sc ν (.opt none):=⟨trivial,fun G di ds=>PB.none⟩
theorem Tie.osome {n:Nat} {sc:xj} {ν:Nu} {i:I} {e:Expr} (h0:zf8 i=false) (h1:Tie i n sc ν (.ex false e)):Tie i n sc ν (.opt (some e)):=⟨trivial,fun G di ds=>PB.some h0 ((h1.gt G di ds).2 rfl).e⟩
theorem Tie.inone {n:Nat} {sc:xj} {ν:Nu}:Tie .omit n sc ν (.ifs []):=⟨trivial,fun G di ds=>PC.none⟩
theorem Tie.ione {n:Nat} {sc:xj} {ν:Nu} {i:I} {e:Expr} (h0:zf8 i=false) (h1:Tie i n sc ν (.ex false e)):Tie i n sc ν (.ifs [e]):=⟨trivial,fun G di ds=>PC.one h0 ((h1.gt G di ds).2 rfl).t⟩
theorem Tie.pass {n:Nat} {sc:xj} {ν:Nu} {p:Pos}:Tie .pass n sc ν (.st (.Pass p)):=⟨trivial,fun G di ds=>PS.pass⟩
theorem Tie.asg {n:Nat} {sc:xj} {ν:Nu} {k:Nat} {e:I} {x:Str} {v:Expr} {px p:Pos} (h0:Sl ν k x) (h1:Tie e n sc ν (.ex false v)):Tie (.asg k e) n sc ν (.st (.Assign [.Name x px] v p)):=⟨trivial,fun G di ds=>PS.asg h0 ((h1.gt G di ds).2 rfl).u⟩
theorem Tie.sto {n:Nat} {sc:xj} {ν:Nu} {k:Nat} {key e:I} {x:Str} {s v:Expr} {px ps p:Pos} (h0:Sl ν k x) (h1:Tie key n sc ν (.ex false s)) (h2:Tie e n sc ν (.ex false v)):Tie (.sto k key e) n sc ν (.st (.Assign [.Subscript (.Name x px) s ps] v p)):=⟨trivial,fun G di ds=>PS.sto ds h0 ((h1.gt G di ds).2 rfl).e ((h2.gt G di ds).2 rfl).e⟩
theorem Tie.app {n:Nat} {sc:xj} {ν:Nu} {k:Nat} {e:I} {x:Str} {a:Expr} {px ap cp p:Pos} (h0:ap.endLine=cp.line) (h1:Sl ν k x) (h2:Tie e n sc ν (.ex false a)):Tie (.app k e) n sc ν (.st (.Expr (.Call (.Attribute (.Name x px) "append" ap) [a] [] cp) p)):=⟨trivial,fun G di ds=>PS.app h0 h1 ((h2.gt G di ds).2 rfl).e h2.okE⟩
theorem Tie.ext {n:Nat} {sc:xj} {ν:Nu} {k:Nat} {e:I} {x:Str} {a:Expr} {px ap cp p:Pos} (h0:ap.endLine=cp.line) (h1:Sl ν k x) (h2:Tie e n sc ν (.ex false a)):Tie (.ext k e) n sc ν (.st (.Expr (.Call (.Attribute (.Name x px) "extend" ap) [a] [] cp) p)):=⟨trivial,fun G di ds=>PS.ext h0 h1 ((h2.gt G di ds).2 rfl).e h2.okE⟩
theorem Tie.exp {n:Nat} {sc:xj} {ν:Nu} {e:I} {f:Expr} {as:List Expr} {ks:List Keyword} {q p:Pos} (h0:Tie e n sc ν (.ex false (.Call f as ks q))):Tie (.exp e) n sc ν (.st (.Expr (.Call f as ks q) p)):=⟨trivial,fun G di ds=>PS.exp ((h0.gt G di ds).2 rfl).e⟩
theorem Tie.iff {n:Nat} {sc:xj} {ν:Nu} {c t e:I} {q:Expr} {bt be:List Stmt} {p:Pos} (h0:Tie c n sc ν (.ex false q)) (h1:Tie t n sc ν (.sts bt)) (h2:Tie e n sc ν (.sts be)):Tie (.iff c t e) n sc ν (.st (.If q bt be p)):=⟨trivial,fun G di ds=>PS.iff ((h0.gt G di ds).2 rfl).t (h1.gt G di ds) (h2.gt G di ds)⟩
theorem Tie.whl {n:Nat} {sc:xj} {ν:Nu} {c b:I} {q:Expr} {bd:List Stmt} {p:Pos} (h0:Tie c n sc ν (.ex false q)) (h1:Tie b n sc ν (.sts bd)):Tie (.whl c b) n sc ν (.st (.While q bd [] p)):=⟨trivial,fun G di ds=>PS.whl ((h0.gt G di ds).2 rfl).t (h1.gt G di ds)⟩
theorem Tie.for1 {n:Nat} {sc:xj} {ν:Nu} {k:Nat} {s b:I} {x:Str} {it:Expr} {bd:List Stmt} {px p:Pos} (h0:Sl ν k x) (h1:Tie s n sc ν (.ex true it)) (h2:Tie b n sc ν (.sts bd)):Tie (.for1 k s b) n sc ν (.st (.For (.Name x px) it bd [] p)):=⟨trivial,fun G di ds=>PS.for1 h0 (h1.gt G di ds).1 h1.okE (h2.gt G di ds)⟩
theorem Tie.rem {n:Nat} {sc:xj} {ν:Nu} {k:Nat} {e:I} {x:Str} {a:Expr} {px ap cp p:Pos} (h0:ap.endLine=cp.line) (h1:Sl ν k x) (h2:Tie e n sc ν (.ex false a)):Tie (.rem k e) n sc ν (.st (.Expr (.Call (.Attribute (.Name x px) "remove" ap) [a] [] cp) p)):=⟨trivial,fun G di ds=>PS.rem h0 h1 ((h2.gt G di ds).2 rfl).e h2.okE⟩
theorem Tie.fors {n:Nat} {sc:xj} {ν:Nu} {ks:List Nat} {s b:I} {l:List (Str×Pos)} {q:Nat} {it:Expr} {bd:List Stmt} {tp p:Pos} (h0:Sls ν ks l) (h1:Tie s n sc ν (.ex true it)) (h2:Tie b n sc ν (.sts bd)):Tie (.fors ks s b) n sc ν (.st (.For (.Tuple (l.map nmE) q tp) it bd [] p)):=⟨trivial,fun G di ds=>PS.fors (gt:=fun _=>True) trivial h0 (h1.gt G di ds).1 h1.okE (h2.gt G di ds)⟩
theorem Tie.forsZ {n:Nat} {sc:xj} {ν:Nu} {ks:List Nat} {a c b:I} {l:List (Str×Pos)} {q:Nat} {ea ec:Expr} {bd:List Stmt} {px cp tp p:Pos} (h0:Sls ν ks l) (hg:zw4 sc ν "zip" = true) (h1:Tie a n sc ν (.ex false ea)) (h2:Tie c n sc ν (.ex false ec)) (h3:Tie b n sc ν (.sts bd)):Tie (.fors ks (.zip a c) b) n sc ν (.st (.For (.Tuple (l.map nmE) q tp) (.Call (.Name "zip" px) [ea,ec] [] cp) bd [] p)):=⟨trivial,fun G di ds=>PS.fors (gt:=xj5) ⟨_,_,_,rfl⟩ h0 (PWg.zip G hg ((h1.gt G di ds).2 rfl).e ((h2.gt G di ds).2 rfl).e h1.okE h2.okE) rfl (h3.gt G di ds)⟩
theorem Tie.ret {n:Nat} {sc:xj} {ν:Nu} {e:I} {v:Expr} {p:Pos} (h0:Tie e n sc ν (.ex false v)):Tie (.ret e) n sc ν (.st (.Return (some v) p)):=⟨trivial,fun G di ds=>PS.ret ((h0.gt G di ds).2 rfl).e⟩
theorem Tie.rais {n:Nat} {sc:xj} {ν:Nu} {x y:Option Expr} {p:Pos}:Tie .rais n sc ν (.st (.Raise x y p)):=⟨trivial,fun G di ds=>fun _ _ _ hv=>(noS hv).elim⟩
theorem Tie.snil {n:Nat} {sc:xj} {ν:Nu}:Tie .nil n sc ν (.sts []):=⟨trivial,fun G di ds=>PX.nil⟩
theorem Tie.scons {n:Nat} {sc:xj} {ν:Nu} {a r:I} {e:Stmt} {es:List Stmt} (h0:Tie a n sc ν (.st e)) (h1:Tie r n sc ν (.sts es)):Tie (.cons a r) n sc ν (.sts (e::es)):=⟨trivial,fun G di ds=>PX.cons (h0.gt G di ds) (h1.gt G di ds)⟩
end Snd
namespace Mini
open PySem Snd
noncomputable abbrev Fd (p:Prop):=Option (PLift p)
noncomputable def one {p r:Prop} (f:p->r):Fd p->Fd r
 | some x=>some ⟨f x.down⟩
 | none=>none
noncomputable def two {p q r:Prop} (f:p->q->r) (x:Fd p) (y:Fd q):Fd r:=match x with
 | some a=>one (f a.down) y
 | none=>none
noncomputable def yo6 {p q r s:Prop} (f:p->q->r->s) (x:Fd p) (y:Fd q) (z:Fd r):Fd s:=match x with
 | some a=>two (f a.down) y z
 | none=>none
noncomputable def tt (b:Bool):Fd (b=true):=match b with
 | true=>some ⟨rfl⟩
 | false=>none
noncomputable def ff (b:Bool):Fd (b=false):=match b with
 | false=>some ⟨rfl⟩
 | true=>none
set_option genInjectivity false
structure KE (τ:Expr->Type) where
 C:∀ c k p,τ (.Constant c k p)
 N:∀ x p,τ (.Name x p)
 B:∀ l o r p,τ (.BinOp l o r p)
 U:∀ o x p,τ (.UnaryOp o x p)
 O:∀ o l p,τ (.BoolOp o l p)
 M:∀ l o r p,τ (.Compare l o r p)
 I:∀ q x y p,τ (.IfExp q x y p)
 T:∀ l q p,τ (.Tuple l q p)
 L:∀ l p,τ (.List l p)
 D:∀ a b p,τ (.Dict a b p)
 P:∀ x g s p,τ (.ListComp x g s p)
 F:∀ f a k p,τ (.Call f a k p)
 S:∀ v s p,τ (.Subscript v s p)
 A:∀ v a p,τ (.Attribute v a p)
 Z:∀ a b c p,τ (.Slice a b c p)
 other:∀ e,τ e
noncomputable def fE {τ:Expr->Type} (K:KE τ) (e:Expr):τ e:=match e with
 | .Constant c k p=>K.C c k p
 | .Name x p=>K.N x p
 | .BinOp l o r p=>K.B l o r p
 | .UnaryOp o x p=>K.U o x p
 | .BoolOp o l p=>K.O o l p
 | .Compare l o r p=>K.M l o r p
 | .IfExp q x y p=>K.I q x y p
 | .Tuple l q p=>K.T l q p
 | .List l p=>K.L l p
 | .Dict a b p=>K.D a b p
 | .ListComp x g s p=>K.P x g s p
 | .Call f a k p=>K.F f a k p
 | .Subscript v s p=>K.S v s p
 | .Attribute v a p=>K.A v a p
 | .Slice a b c p=>K.Z a b c p
 | e=>K.other e
noncomputable def fE0 {τ:Expr->Type} (d:∀ e,τ e):KE τ:=⟨fun _ _ _=>d _,fun _ _=>d _,fun _ _ _ _=>d _,fun _ _ _=>d _,fun _ _ _=>d _,fun _ _ _ _=>d _,fun _ _ _ _=>d _,fun _ _ _=>d _,fun _ _=>d _,fun _ _ _=>d _,fun _ _ _ _=>d _,fun _ _ _ _=>d _,fun _ _ _=>d _,fun _ _ _=>d _,fun _ _ _ _=>d _,d⟩
@[elab_as_elim] noncomputable def gC {τ:Expr->Type} (e:Expr) (d:∀ e,τ e) (k:∀ c k p,τ (.Constant c k p)):τ e:=fE { fE0 d with C:=k } e
@[elab_as_elim] noncomputable def gN {τ:Expr->Type} (e:Expr) (d:∀ e,τ e) (k:∀ x p,τ (.Name x p)):τ e:=fE { fE0 d with N:=k } e
@[elab_as_elim] noncomputable def gB {τ:Expr->Type} (e:Expr) (d:∀ e,τ e) (k:∀ l o r p,τ (.BinOp l o r p)):τ e:=fE { fE0 d with B:=k } e
@[elab_as_elim] noncomputable def gU {τ:Expr->Type} (e:Expr) (d:∀ e,τ e) (k:∀ o x p,τ (.UnaryOp o x p)):τ e:=fE { fE0 d with U:=k } e
@[elab_as_elim] noncomputable def gO {τ:Expr->Type} (e:Expr) (d:∀ e,τ e) (k:∀ o l p,τ (.BoolOp o l p)):τ e:=fE { fE0 d with O:=k } e
@[elab_as_elim] noncomputable def gM {τ:Expr->Type} (e:Expr) (d:∀ e,τ e) (k:∀ l o r p,τ (.Compare l o r p)):τ e:=fE { fE0 d with M:=k } e
@[elab_as_elim] noncomputable def gI {τ:Expr->Type} (e:Expr) (d:∀ e,τ e) (k:∀ q x y p,τ (.IfExp q x y p)):τ e:=fE { fE0 d with I:=k } e
@[elab_as_elim] noncomputable def gT {τ:Expr->Type} (e:Expr) (d:∀ e,τ e) (k:∀ l q p,τ (.Tuple l q p)):τ e:=fE { fE0 d with T:=k } e
@[elab_as_elim] noncomputable def gL {τ:Expr->Type} (e:Expr) (d:∀ e,τ e) (k:∀ l p,τ (.List l p)):τ e:=fE { fE0 d with L:=k } e
@[elab_as_elim] noncomputable def gD {τ:Expr->Type} (e:Expr) (d:∀ e,τ e) (k:∀ a b p,τ (.Dict a b p)):τ e:=fE { fE0 d with D:=k } e
@[elab_as_elim] noncomputable def gP {τ:Expr->Type} (e:Expr) (d:∀ e,τ e) (k:∀ x g s p,τ (.ListComp x g s p)):τ e:=fE { fE0 d with P:=k } e
@[elab_as_elim] noncomputable def gF {τ:Expr->Type} (e:Expr) (d:∀ e,τ e) (k:∀ f a k p,τ (.Call f a k p)):τ e:=fE { fE0 d with F:=k } e
@[elab_as_elim] noncomputable def gS {τ:Expr->Type} (e:Expr) (d:∀ e,τ e) (k:∀ v s p,τ (.Subscript v s p)):τ e:=fE { fE0 d with S:=k } e
@[elab_as_elim] noncomputable def gA {τ:Expr->Type} (e:Expr) (d:∀ e,τ e) (k:∀ v a p,τ (.Attribute v a p)):τ e:=fE { fE0 d with A:=k } e
@[elab_as_elim] noncomputable def gZ {τ:Expr->Type} (e:Expr) (d:∀ e,τ e) (k:∀ a b c p,τ (.Slice a b c p)):τ e:=fE { fE0 d with Z:=k } e
structure KS (τ:Stmt->Type) where
 A:∀ ts v p,τ (.Assign ts v p)
 X:∀ e p,τ (.Expr e p)
 I:∀ q a b p,τ (.If q a b p)
 W:∀ q b o p,τ (.While q b o p)
 F:∀ t i b o p,τ (.For t i b o p)
 R:∀ v p,τ (.Return v p)
 Z:∀ x y p,τ (.Raise x y p)
 P:∀ p,τ (.Pass p)
 other:∀ e,τ e
noncomputable def fS {τ:Stmt->Type} (K:KS τ) (e:Stmt):τ e:=match e with
 | .Assign ts v p=>K.A ts v p
 | .Expr e p=>K.X e p
 | .If q a b p=>K.I q a b p
 | .While q b o p=>K.W q b o p
 | .For t i b o p=>K.F t i b o p
 | .Return v p=>K.R v p
 | .Raise x y p=>K.Z x y p
 | .Pass p=>K.P p
 | e=>K.other e
noncomputable def fS0 {τ:Stmt->Type} (d:∀ e,τ e):KS τ:=⟨fun _ _ _=>d _,fun _ _=>d _,fun _ _ _ _=>d _,fun _ _ _ _=>d _,fun _ _ _ _ _=>d _,fun _ _=>d _,fun _ _ _=>d _,fun _=>d _,d⟩
@[elab_as_elim] noncomputable def sA {τ:Stmt->Type} (e:Stmt) (d:∀ e,τ e) (k:∀ ts v p,τ (.Assign ts v p)):τ e:=fS { fS0 d with A:=k } e
@[elab_as_elim] noncomputable def sX {τ:Stmt->Type} (e:Stmt) (d:∀ e,τ e) (k:∀ e p,τ (.Expr e p)):τ e:=fS { fS0 d with X:=k } e
@[elab_as_elim] noncomputable def sI {τ:Stmt->Type} (e:Stmt) (d:∀ e,τ e) (k:∀ q a b p,τ (.If q a b p)):τ e:=fS { fS0 d with I:=k } e
@[elab_as_elim] noncomputable def sW {τ:Stmt->Type} (e:Stmt) (d:∀ e,τ e) (k:∀ q b o p,τ (.While q b o p)):τ e:=fS { fS0 d with W:=k } e
@[elab_as_elim] noncomputable def sF {τ:Stmt->Type} (e:Stmt) (d:∀ e,τ e) (k:∀ t i b o p,τ (.For t i b o p)):τ e:=fS { fS0 d with F:=k } e
@[elab_as_elim] noncomputable def sR {τ:Stmt->Type} (e:Stmt) (d:∀ e,τ e) (k:∀ v p,τ (.Return v p)):τ e:=fS { fS0 d with R:=k } e
@[elab_as_elim] noncomputable def sZ {τ:Stmt->Type} (e:Stmt) (d:∀ e,τ e) (k:∀ x y p,τ (.Raise x y p)):τ e:=fS { fS0 d with Z:=k } e
@[elab_as_elim] noncomputable def sP {τ:Stmt->Type} (e:Stmt) (d:∀ e,τ e) (k:∀ p,τ (.Pass p)):τ e:=fS { fS0 d with P:=k } e
set_option genInjectivity true
@[elab_as_elim] noncomputable def eqK {β:Type} [DecidableEq β] {τ:β->Type} (b:β) (a:β) (d:∀ e,τ e) (k:τ a):τ b:=if h:a=b then h▸k else d b
@[elab_as_elim] noncomputable def omK {τ:I->Type} (i:I) (d:∀ e,τ e) (k:τ .omit):τ i:=match i with
 | .omit=>k
 | i=>d i
@[elab_as_elim] noncomputable def noK {β:Type} {τ:Option β->Type} (o:Option β) (d:∀ e,τ e) (k:τ none):τ o:=match o with
 | none=>k
 | o=>d o
@[elab_as_elim] noncomputable def soK {β:Type} {τ:Option β->Type} (o:Option β) (d:∀ e,τ e) (k:∀ a,τ (some a)):τ o:=match o with
 | some a=>k a
 | o=>d o
@[elab_as_elim] noncomputable def l0 {β:Type} {τ:List β->Type} (l:List β) (d:∀ e,τ e) (k:τ []):τ l:=match l with
 | []=>k
 | l=>d l
@[elab_as_elim] noncomputable def lc {β:Type} {τ:List β->Type} (l:List β) (d:∀ e,τ e) (k:∀ a r,τ (a::r)):τ l:=match l with
 | a::r=>k a r
 | l=>d l
@[elab_as_elim] noncomputable def l1 {β:Type} {τ:List β->Type} (l:List β) (d:∀ e,τ e) (k:∀ a,τ [a]):τ l:=lc l d fun a r=>l0 r (fun _=>d _) (k a)
@[elab_as_elim] noncomputable def l2 {β:Type} {τ:List β->Type} (l:List β) (d:∀ e,τ e) (k:∀ a b,τ [a,b]):τ l:=lc l d fun a r=>l1 r (fun _=>d _) (k a)
@[elab_as_elim] noncomputable def gG {τ:Expr->Type} (e:Expr) (d:∀ e,τ e) (k:∀ x px as p,τ (.Call (.Name x px) as [] p)):τ e:=gF e d fun f as ks p=>l0 ks (fun _=>d _) (gN f (fun _=>d _) fun x px=>k x px as p)
@[elab_as_elim] noncomputable def gH {τ:Expr->Type} (e:Expr) (m:Str) (d:∀ e,τ e) (k:∀ x px ap as cp,ap.endLine=cp.line->τ (.Call (.Attribute (.Name x px) m ap) as [] cp)):τ e :=
 gF e d fun f as ks cp=>l0 ks (fun _=>d _) (gA f (fun _=>d _) fun v m' ap=>gN v (fun _=>d _) fun x px=>if hh:ap.endLine=cp.line/\x ≠ "super" then eqK m' m (fun _=>d _) (k x px ap as cp hh.1) else d _)
@[elab_as_elim] noncomputable def nmK {τ:List Expr->Type} (es:List Expr) (d:∀ e,τ e) (k:∀ l:List (Str×Pos),τ (l.map nmE)):τ es:=match es with
 | []=>k []
 | e::r=>gN e (fun _=>d _) fun x p=>nmK (τ:=fun r=>τ (.Name x p::r)) r (fun _=>d _) fun l=>k ((x,p)::l)
noncomputable def sl (ν:Nu) (k:Nat) (x:Str):Fd (Sl ν k x):=if h:ν x=some k then one (fun q=>⟨h,q⟩) (tt (zl2 x)) else none
noncomputable def wu1 (ν:Nu):(ks:List Nat)->(l:List (Str×Pos))->Fd (Sls ν ks l)
 | [],[]=>some ⟨.nil⟩
 | k::ks,q::l=>two .cons (sl ν k q.1) (wu1 ν ks l)
 | _,_=>none
noncomputable def ckO {n:Nat} {sc:xj} {ν:Nu} (i:I) (f:∀ e,Fd (Tie i n sc ν (.ex false e))):(o:Option Expr)->Fd (Tie i n sc ν (.opt o))
 | none=>omK i (fun _=>none) (some ⟨Tie.onone⟩)
 | some e=>two Tie.osome (ff (zf8 i)) (f e)
noncomputable def ckI {n:Nat} {sc:xj} {ν:Nu} (i:I) (f:∀ e,Fd (Tie i n sc ν (.ex false e))):(l:List Expr)->Fd (Tie i n sc ν (.ifs l))
 | []=>omK i (fun _=>none) (some ⟨Tie.inone⟩)
 | l=>l1 l (fun _=>none) fun e=>two Tie.ione (ff (zf8 i)) (f e)
mutual
noncomputable def ckE:(i:I)->(n:Nat)->(sc:xj)->(ν:Nu)->(t:Bool)->(e:Expr)->Fd (Tie i n sc ν (.ex t e))
 | .cnone,_,_,_,_,e=>gC e (fun _=>none) fun c _ _=>eqK c .none (fun _=>none) (some ⟨Tie.cnone⟩)
 | .cbool b,_,_,_,_,e=>gC e (fun _=>none) fun c _ _=>eqK c (.bool b) (fun _=>none) (some ⟨Tie.cbool⟩)
 | .cint b,_,_,_,_,e=>gC e (fun _=>none) fun c _ _=>eqK c (.int b) (fun _=>none) (some ⟨Tie.cint⟩)
 | .cstr b,_,_,_,_,e=>gC e (fun _=>none) fun c _ _=>eqK c (.str b) (fun _=>none) (some ⟨Tie.cstr⟩)
 | .var k,_,_,ν,_,e=>gN e (fun _=>none) fun x _=>one Tie.var (sl ν k x)
 | .brw k,_,_,ν,_,e=>gN e (fun _=>none) fun x _=>one Tie.brw (sl ν k x)
 | .glob g,_,sc,ν,_,e=>gN e (fun _=>none) fun x _=>eqK x g (fun _=>none) (one Tie.glob (tt (zw4 sc ν g)))
 | .bin op a b,n,sc,ν,_,e=>gB e (fun _=>none) fun l o r _=>eqK o op (fun _=>none) (two Tie.bin (ckE a n sc ν false l) (ckE b n sc ν false r))
 | .not a,n,sc,ν,_,e=>gU e (fun _=>none) fun o x _=>eqK o .Not (fun _=>none) (one Tie.not (ckE a n sc ν false x))
 | .and l,n,sc,ν,_,e=>gO e (fun _=>none) fun o vs _=>eqK o .And (fun _=>none) (one Tie.and (ckL l n sc ν vs))
 | .or l,n,sc,ν,_,e=>gO e (fun _=>none) fun o vs _=>eqK o .Or (fun _=>none) (one Tie.or (ckL l n sc ν vs))
 | .cmp op a b,n,sc,ν,_,e=>gM e (fun _=>none) fun l os rs _=>eqK os [op] (fun _=>none) (l1 rs (fun _=>none) fun r=>two Tie.cmp (ckE a n sc ν false l) (ckE b n sc ν false r))
 | .cmp2 o1 o2 a b c,n,sc,ν,_,e=>gM e (fun _=>none) fun l os rs _=>eqK os [o1,o2] (fun _=>none) (l2 rs (fun _=>none) fun r1 r2=>yo6 Tie.cmp2 (ckE a n sc ν false l) (ckE b n sc ν false r1) (ckE c n sc ν false r2))
 | .ite c a b,n,sc,ν,_,e=>gI e (fun _=>none) fun q x y _=>yo6 Tie.ite (ckE c n sc ν false q) (ckE a n sc ν false x) (ckE b n sc ν false y)
 | .tup l,n,sc,ν,_,e=>gT e (fun _=>none) fun es _ _=>one Tie.tup (ckL l n sc ν es)
 | .lst l,n,sc,ν,_,e=>gL e (fun _=>none) fun es _=>one Tie.lst (ckL l n sc ν es)
 | .dct0,_,_,_,_,e=>gD e (fun _=>none) fun a b _=>l0 a (fun _=>none) (l0 b (fun _=>none) (some ⟨Tie.dct0⟩))
 | .comp1 elt s cond,n,sc,ν,_,e=>gP e (fun _=>none) fun x gs csc _=>l1 gs (fun _=>none) fun g=>match g with
  | ⟨tg,it,ifs,a⟩=>gN tg (fun _=>none) fun y _=>eqK a 0 (fun _=>none) (two (fun p q=>Tie.comp1 p.1 p.2 q.1 q.2) (two And.intro (tt (zl7 sc ν [y] csc)) (ckE s n sc ν true it))
   (two And.intro (ckI cond (ckE cond (n+1) csc (zx7 n ν [y] csc) false) ifs) (ckE elt (n+1) csc (zx7 n ν [y] csc) false x)))
 | .compT m elt s cond,n,sc,ν,_,e=>gP e (fun _=>none) fun x gs csc _=>l1 gs (fun _=>none) fun g=>match g with
  | ⟨tg,it,ifs,a⟩=>gT tg (fun _=>none) fun es _ _=>eqK a 0 (fun _=>none) (nmK es (fun _=>none) fun l=>if hm:(l.map (·.1)).length=m then two (fun p q=>Tie.compT hm p.1 p.2.1 p.2.2 q.1 q.2) (two And.intro (tt (zl7 sc ν (l.map (·.1)) csc)) (two And.intro (tt (decide (l.map (·.1)).Nodup&&!(l.map (·.1)).isEmpty)) (ckE s n sc ν true it)))
   (two And.intro (ckI cond (ckE cond (n+(l.map (·.1)).length) csc (zx7 n ν (l.map (·.1)) csc) false) ifs) (ckE elt (n+(l.map (·.1)).length) csc (zx7 n ν (l.map (·.1)) csc) false x)) else none)
 | .call g l,n,sc,ν,_,e=>gG e (fun _=>none) fun x _ as _=>lc as (fun _=>none) fun e1 es=>eqK x g (fun _=>none) (two Tie.call (tt (zw4 sc ν g)) (ckL l n sc ν (e1::es)))
 | .prim1 p a,n,sc,ν,_,e=>gG e (fun _=>none) fun x _ as _=>l1 as (fun _=>none) fun e1=>eqK x p.name (fun _=>none) (two Tie.prim1 (tt (zw4 sc ν p.name)) (ckE a n sc ν false e1))
 | .isi a ty,n,sc,ν,_,e=>gG e (fun _=>none) fun x _ as _=>l2 as (fun _=>none) fun e1 e2=>gN e2 (fun _=>none) fun y _=>eqK x "isinstance" (fun _=>none) (eqK y ty (fun _=>none) (yo6 Tie.isi (tt (zw4 sc ν "isinstance")) (ckE a n sc ν false e1) (tt (zw4 sc ν ty))))
 | .slc a lo hi,n,sc,ν,_,e=>gS e (fun _=>none) fun v s _=>gZ s (fun _=>none) fun l u st _=>noK st (fun _=>none) (yo6 Tie.slc (ckE a n sc ν false v) (ckO lo (ckE lo n sc ν false) l) (ckO hi (ckE hi n sc ν false) u))
 | .idx a i,n,sc,ν,_,e=>gS e (fun _=>none) fun v s _=>two Tie.idx (ckE a n sc ν false v) (ckE i n sc ν false s)
 | .pop k,_,_,ν,_,e=>gH e "pop" (fun _=>none) fun x _ _ as _ hl=>l0 as (fun _=>none) (one (Tie.pop hl) (sl ν k x))
 | .rng1 b,n,sc,ν,t,e=>gG e (fun _=>none) fun x _ as _=>l1 as (fun _=>none) fun e1=>eqK t true (fun _=>none) (eqK x "range" (fun _=>none) (two Tie.rng1 (tt (zw4 sc ν "range")) (ckE b n sc ν false e1)))
 | .rng a b,n,sc,ν,t,e=>gG e (fun _=>none) fun x _ as _=>l2 as (fun _=>none) fun e1 e2=>eqK t true (fun _=>none) (eqK x "range" (fun _=>none) (yo6 Tie.rng (tt (zw4 sc ν "range")) (ckE a n sc ν false e1) (ckE b n sc ν false e2)))
 | _,_,_,_,_,_=>none
noncomputable def ckL:(i:I)->(n:Nat)->(sc:xj)->(ν:Nu)->(es:List Expr)->Fd (Tie i n sc ν (.exs es))
 | .nil,_,_,_,es=>l0 es (fun _=>none) (some ⟨Tie.nil⟩)
 | .cons a r,n,sc,ν,es=>lc es (fun _=>none) fun e es=>two Tie.cons (ckE a n sc ν false e) (ckL r n sc ν es)
 | _,_,_,_,_=>none
end
mutual
noncomputable def ckS:(i:I)->(n:Nat)->(sc:xj)->(ν:Nu)->(s:Stmt)->Fd (Tie i n sc ν (.st s))
 | .pass,_,_,_,s=>sP s (fun _=>none) fun _=>some ⟨Tie.pass⟩
 | .asg k e,n,sc,ν,s=>sA s (fun _=>none) fun ts v _=>l1 ts (fun _=>none) fun t=>gN t (fun _=>none) fun x _=>two Tie.asg (sl ν k x) (ckE e n sc ν false v)
 | .sto k key e,n,sc,ν,s=>sA s (fun _=>none) fun ts v _=>l1 ts (fun _=>none) fun t=>gS t (fun _=>none) fun a b _=>gN a (fun _=>none) fun x _=>yo6 Tie.sto (sl ν k x) (ckE key n sc ν false b) (ckE e n sc ν false v)
 | .app k e,n,sc,ν,s=>sX s (fun _=>none) fun c _=>gH c "append" (fun _=>none) fun x _ _ as _ hl=>l1 as (fun _=>none) fun a=>two (Tie.app hl) (sl ν k x) (ckE e n sc ν false a)
 | .rem k e,n,sc,ν,s=>sX s (fun _=>none) fun c _=>gH c "remove" (fun _=>none) fun x _ _ as _ hl=>l1 as (fun _=>none) fun a=>two (Tie.rem hl) (sl ν k x) (ckE e n sc ν false a)
 | .ext k e,n,sc,ν,s=>sX s (fun _=>none) fun c _=>gH c "extend" (fun _=>none) fun x _ _ as _ hl=>l1 as (fun _=>none) fun a=>two (Tie.ext hl) (sl ν k x) (ckE e n sc ν false a)
 | .exp e,n,sc,ν,s=>sX s (fun _=>none) fun c _=>gF c (fun _=>none) fun f as ks p=>one Tie.exp (ckE e n sc ν false (.Call f as ks p))
 | .iff c t e,n,sc,ν,s=>sI s (fun _=>none) fun q bt be _=>yo6 Tie.iff (ckE c n sc ν false q) (ckSs t n sc ν bt) (ckSs e n sc ν be)
 | .whl c b,n,sc,ν,s=>sW s (fun _=>none) fun q bd o _=>l0 o (fun _=>none) (two Tie.whl (ckE c n sc ν false q) (ckSs b n sc ν bd))
 | .for1 k s b,n,sc,ν,st=>sF st (fun _=>none) fun t it bd o _=>l0 o (fun _=>none) (gN t (fun _=>none) fun x _=>yo6 Tie.for1 (sl ν k x) (ckE s n sc ν true it) (ckSs b n sc ν bd))
 | .fors ks (.zip a c) b,n,sc,ν,st=>sF st (fun _=>none) fun t it bd o _=>l0 o (fun _=>none) (gT t (fun _=>none) fun es _ _=>gG it (fun _=>none) fun x _ as _=>l2 as (fun _=>none) fun ea ec=>eqK x "zip" (fun _=>none) (nmK es (fun _=>none) fun l =>
   two (fun u v=>Tie.forsZ u.1 u.2 v.1 v.2.1 v.2.2) (two And.intro (wu1 ν ks l) (tt (zw4 sc ν "zip"))) (two And.intro (ckE a n sc ν false ea) (two And.intro (ckE c n sc ν false ec) (ckSs b n sc ν bd)))))
 | .fors ks s b,n,sc,ν,st=>sF st (fun _=>none) fun t it bd o _=>l0 o (fun _=>none) (gT t (fun _=>none) fun es _ _=>nmK es (fun _=>none) fun l=>yo6 Tie.fors (wu1 ν ks l) (ckE s n sc ν true it) (ckSs b n sc ν bd))
 | .ret e,n,sc,ν,s=>sR s (fun _=>none) fun v _=>soK v (fun _=>none) fun v=>one Tie.ret (ckE e n sc ν false v)
 | .rais,n,sc,ν,s=>sZ s (fun _=>none) fun _ _ _=>some ⟨Tie.rais⟩
 | _,_,_,_,_=>none
noncomputable def ckSs:(i:I)->(n:Nat)->(sc:xj)->(ν:Nu)->(l:List Stmt)->Fd (Tie i n sc ν (.sts l))
 | .nil,_,_,_,l=>l0 l (fun _=>none) (some ⟨Tie.snil⟩)
 | .cons a r,n,sc,ν,l=>lc l (fun _=>none) fun e es=>two Tie.scons (ckS a n sc ν e) (ckSs r n sc ν es)
 | _,_,_,_,_=>none
end
noncomputable def zy8 (sc:xj):List Str:=(sc.names.filter fun p=>p.2==.local||p.2==.cell).map (·.1)
noncomputable def fnNu (sc:xj):Nu:=fun x=>(zy8 sc).idxOf? x
noncomputable def wz0 (fn:Fn) (ps:Arguments) (sc:xj) (body:List Stmt):Bool :=
 sc.kind==.function&&!sc.isGenerator&&!sc.isCoroutine&&decide (zy8 sc).Nodup&&(zy8 sc).length==fn.slots &&
 sc.names.all (fun p=>sc.names.lookup p.1==some p.2&&(p.2==.local||p.2==.cell||p.2==.globalImplicit)) &&
 decide ((zy8 sc).take fn.params=ps.args.map (·.arg))&&ps.args.length==fn.params&&ps.posonlyargs.isEmpty&&ps.vararg.isNone&&ps.kwonlyargs.isEmpty&&ps.kwarg.isNone&&ps.defaults.isEmpty &&
 (ckSs fn.body fn.slots sc (fnNu sc) body).isSome
end Mini
end
section
namespace Snd
open PySem Mini
theorem yu6 {n m:Str} {v:qq} {z:List (Str×qq)} (h:m≠n):Q3 m ((n,v)::z)=Q3 m z:=by
 rw [j4]
 have:(m==n)=false:=by simpa using h
 rw [this]
theorem zb4:∀ (names:List Str) (vals:List qq),names.Nodup->names.length=vals.length->names.filterMap (fun n=>(Q3 n (names.zip vals)).map (n,·))=names.zip vals
 | [],[],_,_=>rfl
 | n::ns,v::vs,hn,hl=>by
  rw [vx] at hn
  rw [y9,List.filterMap_cons]
  rw [j4]
  simp only [beq_self_eq_true,Option.map_some]
  congr 1
  have ih:=zb4 ns vs hn.2 (by simpa using hl)
  have gen:∀ l:List Str,(∀ m∈l,m≠n)->l.filterMap (fun m=>(Q3 m ((n,v)::ns.zip vs)).map (m,·))=l.filterMap (fun m=>(Q3 m (ns.zip vs)).map (m,·)):=by
   intro l
   induction l with
   | nil=>intro _; rfl
   | cons a r ihr =>
    intro h
    rw [List.filterMap_cons,List.filterMap_cons,yu6 (h a j5),ihr fun m hm=>h m (xX _ hm)]
  rw [gen ns fun m hm=>by rintro rfl; exact hn.1 hm]
  exact ih
 | [],_::_,_,h=>by simp at h
 | _::_,[],_,h=>by simp at h
set_option tactic.hygienic true in
theorem zi9:∀ (names:List Str) (vals:List qq),names.length=vals.length->∀ n∈names,(Q3 n (names.zip vals)).isNone=false
 | [],_,_,n,hm=>by simp at hm
 | m::ns,v::vs,hl,n,hm=>by
  rw [y9,j4]
  split
  ·rfl
  ·rename_i hb
   rcases z0.mp hm with rfl|hm
   ·simp at hb
   ·exact zi9 ns vs (by simpa using hl) n hm
 | _::_,[],h,_,_=>by simp at h
theorem yr1 {name:Str} {params:Arguments} {body:List Stmt} {scope:xj} {pm cd doc:qq} {vals:List qq} (h1:params.posonlyargs=[]) (h2:params.vararg=none) (h3:params.kwonlyargs=[]) (h4:params.kwarg=none)
  (hn:(params.args.map (·.arg)).Nodup) (hl:params.args.length=vals.length):bindArgs (Calls.docDef name params body scope pm cd doc) ⟨vals,[]⟩=pure ((params.args.map (·.arg)).zip vals):=by
 obtain ⟨po,ar,va,ko,kd,kw,df⟩:=params
 dsimp only at h1 h2 h3 h4 hn hl |-
 subst h1 h2 h3 h4
 have hlen:(ar.map (·.arg)).length=vals.length:=by simpa using hl
 have hmiss:((ar.map (·.arg)).take (ar.map (·.arg)).length).filter (fun n=>(Q3 n ((ar.map (·.arg)).zip vals)).isNone)=[]:=by
  rw [List.take_length]
  exact List.filter_eq_nil_iff.mpr fun n hm=>by rw [zi9 _ _ hlen n hm]; simp
 have hz:=zb4 _ _ hn hlen
 refine Eq.trans (b:=if (decide (vals.length > (ar.map (·.arg)).length)&&true)=true then _ else _) (Eq.refl _) ?_
 refine (if_neg (by simp; bv_omega)).trans ?_
 have hdn:List.drop (([]:List qq).length - (ar.map (·.arg)).length) ([]:List qq)=[]:=List.drop_nil
 refine (if_neg ?_).trans ?_
 ·show ¬ ((!(((ar.map (·.arg)).take ((ar.map (·.arg)).length - (List.drop (([]:List qq).length - (ar.map (·.arg)).length) ([]:List qq)).length)).filter (fun n=>(Q3 n ((ar.map (·.arg)).zip vals)).isNone)).isEmpty)=true)
  rw [hdn]; show ¬ ((!(((ar.map (·.arg)).take (ar.map (·.arg)).length).filter (fun n=>(Q3 n ((ar.map (·.arg)).zip vals)).isNone)).isEmpty)=true)
  rw [hmiss]; exact qj
 refine Eq.trans (b:=(forIn ([]:List (Str×qq)) _ _:Sem _) >>= _) (congrArg (fun l=>(forIn l _ _:Sem _) >>= _) (?_:_=[])) ?_
 ·show List.zip _ (List.drop (([]:List qq).length - (ar.map (·.arg)).length) ([]:List qq))=[]
  rw [hdn]; exact List.zip_nil_right
 exact (congrArg (fun l=>(pure (List.filterMap (fun n=>Option.map (fun x=>(n,x)) (Q3 n ((ar.map (·.arg)).zip vals))) l):Sem _)) (List.append_nil _)).trans (congrArg pure hz)
theorem yu3 {ns:List Str} {us:List qq} {n:Str} (h:n∈(ns.zip us).map (·.1)):n∈ns:=by
 (refine elEA (zy.mp h) fun p hp e_2=>?_; subst e_2)
 exact (List.of_mem_zip hp).1
theorem ys3 {k:Str->Option kx}:∀ (binds:List (Str×qq)) (m:Str->Option qq) (x:Str),x∉binds.map (·.1)->bindL k binds m x=m x
 | [],_,_,_=>rfl
 | (n,v)::r,m,x,h=>by
  simp only [xz,z0,not_or] at h
  rw [bindL,ys3 r _ x h.2]
  split
  ·exact if_neg h.1
  ·rfl
theorem ys4 {k:Str->Option kx}:∀ (binds:List (Str×qq)) (m:Str->Option qq) (x:Str),x∉binds.map (·.1)->bindC k binds m x=m x
 | [],_,_,_=>rfl
 | (n,v)::r,m,x,h=>by
  simp only [xz,z0,not_or] at h
  rw [bindC,ys4 r _ x h.2]
  split
  ·rfl
  ·exact if_neg h.1
theorem yf8 {k:Str->Option kx}:∀ (names:List Str) (vals:List qq) (m:Str->Option qq) (i:Nat) (x:Str) (v:qq),names.Nodup->names[i]?=some x->vals[i]?=some v->k x=some .local ->
  bindL k (names.zip vals) m x=some v
 | [],_,_,i,_,_,_,h,_,_=>by simp at h
 | _::_,[],_,i,_,_,_,_,h,_=>by simp at h
 | n::ns,u::us,m,0,x,v,hn,hx,hv,hk=>by
  simp at hx hv
  subst hx hv
  rw [vx] at hn
  rw [y9,bindL,ys3 _ _ _ (fun h=>hn.1 (yu3 h)),if_pos hk]
  exact if_pos rfl
 | n::ns,u::us,m,i+1,x,v,hn,hx,hv,hk=>by
  rw [vx] at hn
  rw [y9,bindL]
  exact yf8 ns us _ i x v hn.2 (by simpa using hx) (by simpa using hv) hk
theorem yf9 {k:Str->Option kx}:∀ (names:List Str) (vals:List qq) (m:Str->Option qq) (i:Nat) (x:Str) (v:qq),names.Nodup->names[i]?=some x->vals[i]?=some v->k x≠some .local ->
  bindC k (names.zip vals) m x=some v
 | [],_,_,i,_,_,_,h,_,_=>by simp at h
 | _::_,[],_,i,_,_,_,_,h,_=>by simp at h
 | n::ns,u::us,m,0,x,v,hn,hx,hv,hk=>by
  simp at hx hv
  subst hx hv
  rw [vx] at hn
  rw [y9,bindC,ys4 _ _ _ (fun h=>hn.1 (yu3 h)),if_neg hk]
  exact if_pos rfl
 | n::ns,u::us,m,i+1,x,v,hn,hx,hv,hk=>by
  rw [vx] at hn
  rw [y9,bindC]
  exact yf9 ns us _ i x v hn.2 (by simpa using hx) (by simpa using hv) hk
noncomputable def FnAt (C:Cx) (g:Str) (fn:Fn):Prop :=
 ∃ a o params body scope pm cd doc,C.mg g=some (.ref a)/\C.H.get? a=some o/\o.data=.func (Calls.docDef g params body scope pm cd doc)/\C.H.CodeRec cd g/\wz0 fn params scope body=true
structure Base (C:Cx) (Fs:Fns) (gl:Str->Option D):Prop where
 di:DictIn C.w
 dg:ys8 C.w
 pr:yw1 C.w
 dw:zf1 C.w
 ds:yl7 C.w
 ns:C.H.Ns mainGlobals C.mg
 nb:C.H.Ns builtinsNs C.mb
 glob:∀ x d,gl x=some d->∃ v,C.mg x=some v/\Rep C.w C.F0 d v
 blt:∀ x v,yy6 x=some v->C.mg x=none/\C.mb x=some v
 nolimit:C.H.NoLimit
 fn:∀ g fn,Fs.lookup g=some fn->FnAt C g fn
structure FnOk (fn:Fn) (ps:Arguments) (sc:xj) (body:List Stmt):Prop where
 kind:sc.kind=.function
 gen:sc.isGenerator=false
 co:sc.isCoroutine=false
 nodup:(zy8 sc).Nodup
 len:(zy8 sc).length=fn.slots
 names:∀ p∈sc.names,sc.names.lookup p.1=some p.2/\(p.2=.local\/p.2=.cell\/p.2=.globalImplicit)
 take:(zy8 sc).take fn.params=ps.args.map (·.arg)
 plen:ps.args.length=fn.params
 h1:ps.posonlyargs=[]
 h2:ps.vararg=none
 h3:ps.kwonlyargs=[]
 h4:ps.kwarg=none
 chk:Tie fn.body fn.slots sc (fnNu sc) (.sts body)
theorem xy2 {fn:Fn} {ps:Arguments} {sc:xj} {body:List Stmt} (h:wz0 fn ps sc body=true):FnOk fn ps sc body:=by
 unfold wz0 at h
 simp only [zj,beq_iff_eq,Bool.not_eq_true',decide_eq_true_eq,xJ,Q0,List.isEmpty_iff,Option.isNone_iff_eq_none] at h
 obtain ⟨⟨⟨⟨⟨⟨⟨⟨⟨⟨⟨⟨⟨q1,q2⟩,q3⟩,q4⟩,q5⟩,q6⟩,q7⟩,q8⟩,q9⟩,q10⟩,q11⟩,q12⟩,q13⟩,q14⟩:=h
 exact ⟨q1,q2,q3,q4,q5,fun p hp=>⟨(q6 p hp).1,by rcases (q6 p hp).2 with (q|q)|q<;>simp [q]⟩,q7,q8,q9,q10,q11,q12,let ⟨x,_⟩:=y7.mp q14; x.down⟩
theorem yw8 {fn:Fn} {ps:Arguments} {sc:xj} {body:List Stmt} (K:FnOk fn ps sc body) {x:Str} (h:x∈zy8 sc):sc.names.lookup x=some .local\/sc.names.lookup x=some .cell:=by
 unfold zy8 at h
 (refine elEA (zy.mp h) fun p hp e_2=>?_; subst e_2)
 obtain ⟨hm,hk⟩:=uK.mp hp
 have:=(K.names p hm).1
 simp only [Q0,beq_iff_eq] at hk
 rcases hk with e|e
 ·left; rw [this,e]
 ·right; rw [this,e]
set_option tactic.hygienic true in
theorem zb8:∀ (names:List (Str×kx)) (n:Nat) (acc:List (Str×Addr)) (x:Str),((x,kx.cell)∈names\/(acc.lookup x).isSome)->((cellsFrom n names acc).lookup x).isSome
 | [],_,_,_,h=>h.resolve_left (by simp)
 | (y,k)::r,n,acc,x,h=>by
  unfold cellsFrom
  split
  ·rename_i hk
   refine zb8 r _ _ x ?_
   rcases h with h|h
   ·rcases z0.mp h with e|h
    ·right; cases e; simp [j4]
    ·exact .inl h
   ·right
    rw [j4]
    split
    ·rfl
    ·exact h
  ·rename_i hk
   refine zb8 r _ _ x ?_
   rcases h with h|h
   ·rcases z0.mp h with e|h
    ·cases e; simp at hk
    ·exact .inl h
   ·exact .inr h
theorem xi1 {l:List Str} {x:Str} {k:Nat} (h:l.idxOf? x=some k):l[k]?=some x:=by
 unfold List.idxOf? at h
 refine elEA (List.findIdx?_eq_some_iff_getElem.mp h) fun hlt hb _=>?_
 rw [qJ hlt]
 exact congrArg some (eq_of_beq hb)
theorem yu2 {α β:Type} {f:α->β}:∀ {l:List α},(∀ x∈l,∀ y∈l,f x=f y->x=y)->l.Nodup->(l.map f).Nodup
 | [],_,_=>Qz
 | a::r,h,hn=>by
  rw [vx] at hn
  rw [xz,vx]
  refine ⟨fun hm=>?_,yu2 (fun x hx y hy=>h x (xX _ hx) y (xX _ hy)) hn.2⟩
  refine elEA (zy.mp hm) fun b hb e=>?_
  exact hn.1 (h b (xX _ hb) a j5 e▸hb)
section
variable {C:Cx} {Fs:Fns} {gl:Str->Option D}
noncomputable def zo3 (sc:xj) (L:Addr) (cs:List (Str×Addr)) (x:Str):Place:=if sc.names.lookup x=some .local then .loc L x else .cell ((cs.lookup x).getD 0)
noncomputable def wv2 (sc:xj) (m cm:Str->Option qq) (x:Str):Option qq:=if sc.names.lookup x=some .local then m x else cm x
@[elab_as_elim] theorem xv4 {α β:Type} {l:List α} {f:α->β} {i:Nat} {q:β} {P:β->Prop} (e:(l.map f)[i]?=some q) (k:∀ x,l[i]?=some x->P (f x)):P q:=by
 rw [Q4] at e
 cases hx:l[i]? with
 | none=>rw [hx] at e; exact (noS e).elim
 | some x=>rw [hx] at e; exact xW e▸k x hx
theorem xf8 {α:Type} {l:List α} {i:Nat} {x y:α} (h:l[i]?=some x) (h':l[i]?=some y):x=y:=xW (h.symm.trans h')
set_option tactic.hygienic true in
theorem xa0 {fn:Fn} {ps:Arguments} {sc:xj} {body:List Stmt} (K:FnOk fn ps sc body) {X:Addr->Prop} {F:Fz} {s s₁:qv} {ds:List D} {ws:List qq} (S:St C X F s.heap [] [] []) (r:RepL C.w F ds ws) (hl:ds.length=fn.params)
  {env:w0} {L:Addr} (hL:env.locals=L) (hLs:L=s.heap.objs.size) (hsc:env.scope=sc) (hcs:env.cells=cellsFrom (L+1) sc.names []) (hg:env.globals=mainGlobals) (hb:env.builtins=builtinsNs)
  (I:InCallC s env.locals (bindL env.kindOf ((ps.args.map (·.arg)).zip ws) fun _=>none) env.cells (bindC env.kindOf ((ps.args.map (·.arg)).zip ws) fun _=>none) s₁) :
  ∃ P vs,EnvOk env sc (fnNu sc) P/\P.length=fn.slots/\St C X F s₁.heap P vs (ds.map (fun d=>some (.val d))++jv (fn.slots - fn.params) none)/\XSame X s.heap s₁.heap:=by
 have keep:=I.toInCall.keep
 have S1:St C X F s₁.heap [] [] []:=S.grow0 keep
 have hkind:∀ x,env.kindOf x=sc.names.lookup x:=fun x=>by unfold Env.kindOf; rw [hsc]
 have hcell:∀ x∈zy8 sc,sc.names.lookup x≠some .local->∃ c,env.cells.lookup x=some c:=fun x hx hn=>by
  rcases yw8 K hx with e|e
  ·exact absurd e hn
  ·rw [hcs]; exact y7.mp (zb8 _ _ _ _ (.inl (mem_of_lookup e)))
 have hnew:∀ x∈zy8 sc,s.heap.get? (zo3 sc L env.cells x).addr=none:=fun x hx=>by
  have:s.heap.objs.size<=(zo3 sc L env.cells x).addr:=by
   unfold zo3
   split
   ·rw [hLs]; exact zW _
   ·rename_i hn
    obtain ⟨c,hc⟩:=hcell x hx hn
    rw [hc]
    have:=I.above x c (PySem.mem_of_lookup hc)
    rw [hL,hLs] at this
    exact zq this
  cases e:s.heap.get? (zo3 sc L env.cells x).addr with
  | none=>rfl
  | some o=>exact absurd (wq e) (Qk.mpr this)
 have hwl:ws.length=fn.params:=by rw [r.length,hl]
 have hple:fn.params<=(zy8 sc).length:=by
  have:=congrArg List.length K.take
  rw [List.length_take,xw,K.plen] at this
  exact qw (zX this.symm) (Z7 ..)
 refine ⟨(zy8 sc).map (zo3 sc L env.cells),(zy8 sc).map (wv2 sc (bindL env.kindOf ((ps.args.map (·.arg)).zip ws) fun _=>none) (bindC env.kindOf ((ps.args.map (·.arg)).zip ws) fun _=>none)),?_,by simp [K.len],?_,?_⟩
 ·exact {
   kind:=by rw [hsc]; exact K.kind
   glob:=hg
   blt:=hb
   slot:=fun x k hx=>by
    have hget:=xi1 hx
    have hm:x∈zy8 sc:=w9 hget
    have hP:((zy8 sc).map (zo3 sc L env.cells))[k]?=some (zo3 sc L env.cells x):=by rw [Q4,hget]; rfl
    by_cases hloc:sc.names.lookup x=some .local
    ·left
     refine ⟨by rw [hkind,hloc],?_⟩
     rw [hP]; unfold zo3; rw [if_pos hloc,hL]
    ·right
     obtain ⟨c,hc⟩:=hcell x hm hloc
     refine ⟨.inl (by rw [hkind]; exact (yw8 K hm).resolve_left hloc),c,hc,?_⟩
     rw [hP]; unfold zo3; rw [if_neg hloc,hc]; rfl
   gl:=fun x hx=>by rw [hkind,hx]
   cell:=fun x hx=>⟨by rw [hkind,hx],by rw [hcs]; exact y7.mp (zb8 _ _ _ _ (.inl (mem_of_lookup hx)))⟩ }
 ·refine S1.extend (P:=[]) (vs:=[]) (σ:=[]) (by simp) ?_ ?_ ?_ ?_ ?_ ?_ ?_
  ·have:=K.len
   show (ds.map (fun d=>some (AV.val d))++jv (fn.slots - fn.params) none).length=_
   simp [hl]; rw [<- this]; exact wX hple
  ·intro i q ov e1 e2
   revert e2
   refine xv4 e1 fun x hx e2=>xv4 e2 fun y hy=>?_
   rw [xf8 hy hx]
   unfold zo3 wv2
   by_cases hloc:sc.names.lookup x=some .local
   ·rw [if_pos hloc,if_pos hloc]
    exact ⟨_,hL▸I.toInCall.ns,rfl⟩
   ·rw [if_neg hloc,if_neg hloc]
    refine (hcell x (w9 hx) hloc).elim fun c hc=>?_
    rw [hc]
    exact I.cell x c hc
  ·intro i ov av e1 e2
   have e2:(ds.map (fun d=>some (AV.val d))++jv (fn.slots - fn.params) none)[i]?=some av:=e2
   by_cases hi:i<fn.params
   ·rw [xV (by simp [hl,hi])] at e2
    revert e1
    refine xv4 e2 fun d hd e1=>xv4 e1 fun x hx=>?_
    refine elEA (r.get hd) fun v hv rv=>?_
    have hn:(ps.args.map (·.arg))[i]?=some x:=by rw [<- K.take,List.getElem?_take_of_lt hi]; exact hx
    have hnd:(ps.args.map (·.arg)).Nodup:=by rw [<- K.take]; exact List.Sublist.nodup (List.take_sublist _ _) K.nodup
    refine ⟨v,?_,rv⟩
    unfold wv2
    by_cases hloc:sc.names.lookup x=some .local
    ·rw [if_pos hloc]; exact yf8 _ _ _ i x v hnd hn hv (by rw [hkind]; exact hloc)
    ·rw [if_neg hloc]; exact yf9 _ _ _ i x v hnd hn hv (by rw [hkind]; exact hloc)
   ·rw [wW (by simp [hl]; bv_omega)] at e2
    have:=w9 e2
    rw [ux] at this
    rw [this.2]; exact trivial
  ·intro av hav d e
   exact (qW.mp hav).elim (fun h=>elEA (zy.mp h) fun d' _ e'=>nomatch e'.trans e) fun h=>nomatch (ux.mp h).2.symm.trans e
  ·rw [List.nil_append]
   refine yu2 ?_ K.nodup
   intro x hx y hy e
   unfold zo3 at e
   by_cases h1:sc.names.lookup x=some .local<;>by_cases h2:sc.names.lookup y=some .local
   ·rw [if_pos h1,if_pos h2] at e; cases e; rfl
   ·rw [if_pos h1,if_neg h2] at e; cases e
   ·rw [if_neg h1,if_pos h2] at e; cases e
   ·rw [if_neg h1,if_neg h2] at e
    obtain ⟨c,hc⟩:=hcell x hx h1
    obtain ⟨c',hc'⟩:=hcell y hy h2
    rw [hc,hc'] at e
    simp at e
    subst e
    exact name_of_addr I.apart (PySem.mem_of_lookup hc) (PySem.mem_of_lookup hc')
  ·intro q hq
   (refine elEA (zy.mp hq) fun x hx e_2=>?_; subst e_2)
   have:=S.nob_new (hnew x hx)
   exact ⟨this.f,this.x⟩
  ·intro k a ho
   simp [zt2] at ho
 ·exact XSame.of_keep S.xal keep
theorem Room.deeper {n:Nat} {A:xx} (R:Room (n+1) A) (env:w0):Room n (A.deeper env) :=
 ⟨R.handled,by have:=R.depth; show A.depth+1+n<_; rw [x9,wk 1]; exact this,by have:=R.units; show A.units+3+3*n+3000<_; rw [x9 A.units,wk 3]; exact this⟩
theorem St.drop {X:Addr->Prop} {F:Fz} {h:Heap} {P:List Place} {vs:List (Option qq)} {σ:Sg} (S:St C X F h P vs σ):St C X F h [] [] []:=by
 have:=St.shrink (C:=C) (P:=[]) (Q:=P) (vs:=[]) (ws:=vs) (n:=0) (by simpa using S) rfl rfl
 simpa using this
theorem wm2 (B:Base C Fs gl) (fuel:Nat):∀ (n:Nat) (g:Str) (ds:List D) (d:D) (f:Bool),Mini.run Fs gl fuel n g ds=some (d,f)->CallOk C n g ds d f:=by
 intro n
 induction n with
 | zero=>intro g ds d f h; exact (noS h).elim
 | succ n ih =>
  intro g ds d f h
  refine bK1 (h) fun fn hfn h=>?_
  by_cases hl:ds.length=fn.params
  ·have h:=(if_pos hl).symm.trans h
   refine bK1 (h) fun o1 hx h=>?_
   refine elEEEEEEEEAAAA (B.fn g fn hfn) fun a o params body scope pm cd doc h1 h2 h3 h4 h5=>?_
   have K:=xy2 h5
   refine ⟨a,o,_,h1,h2,h3,fun A E s F X ws R S r=>?_⟩
   have G:Ground C (xc1 (Mini.run Fs gl fuel n) gl fuel) n:=⟨B.di,B.dg,B.pr,B.ns,B.nb,B.glob,B.blt,ih⟩
   have gs:PX C (xc1 (Mini.run Fs gl fuel n) gl fuel) n fn.body fn.slots scope (fnNu scope) body:=K.chk.gt G B.dw B.ds
   have hwl:ws.length=fn.params:=by rw [r.length,hl]
   have hnd:(params.args.map (·.arg)).Nodup:=by rw [<- K.take]; exact List.Sublist.nodup (List.take_sublist _ _) K.nodup
   refine wpAny_call (codeAny_call_cells (fd:=Calls.docDef g params body scope pm cd doc) (by have:=R.depth; exact z7 (qQ ..) this) (S.base _ _ h2) h3 (B.nolimit.keeps S.base) (h4.keeps S.base) rfl
    (yr1 K.h1 K.h2 K.h3 K.h4 hnd (by rw [K.plen,hwl])) rfl (fun x hx=>?_) (fun s₁ I=>?_) K.co K.gen K.kind)
   ·have hm:x.1∈zy8 scope:=by
     have:=(List.of_mem_zip hx).1
     rw [<- K.take] at this
     exact List.mem_of_mem_take this
    rcases yw8 K hm with e|e
    ·exact .inl e
    ·exact .inr ⟨e,zb8 _ _ _ _ (.inl (mem_of_lookup e))⟩
   ·refine elEEAAA (xa0 K S r hl (env:=callEnvC (Calls.docDef g params body scope pm cd doc) s.heap.objs.size a) rfl rfl rfl rfl rfl rfl I) fun P vs O hP S1 same=>?_
    refine elEE (I.toInCall.same) fun hh tk hs1=>?_
    have hfree:∀ x,(callEnvC (Calls.docDef g params body scope pm cd doc) s.heap.objs.size a).kindOf x≠some .free:=fun x e=>by
     have:=(K.names _ (mem_of_lookup (show scope.names.lookup x=some .free from e))).2
     simp at this
    revert O hfree
    generalize callEnvC (Calls.docDef g params body scope pm cd doc) s.heap.objs.size a=env
    intro O hfree
    have eqs:∀ {s':qv},(∃ h3 k3,s'={ s₁ with heap:=h3,toks:=k3 })->∃ h3 k3,s'={ s with heap:=h3,toks:=k3 }:=fun h=>elEE h fun h3 k3 e=>⟨h3,k3,by rw [e,hs1]⟩
    refine wpM (gs ⟨O,hP.symm,R.deeper _⟩ hfree S1 hx) (fun fl s' q=>?_)
    cases o1 with
    | ret d' f' =>
     refine sm2 h ?_
     obtain ⟨v,rfl,vs',σ',F',st,rr⟩:=q
     refine ⟨F',⟨eqs st.eq,st.le,st.st.drop,XSame.trans same st.same⟩,?_⟩
     ·cases f' with
      | false=>exact rr
      | true =>
       exact elEAAAAA (rr) fun a' e' q1 q2 q3 q4 q5=>⟨a',e',q1,q2,fun p hp=>absurd hp jz,fun k ho=>(noS ho.1).elim,q5⟩
    | next σ' =>
     refine sm2 h ?_
     obtain ⟨rfl,vs',F',st⟩:=q
     exact ⟨F',⟨eqs st.eq,st.le,st.st.drop,XSame.trans same st.same⟩,rfl⟩
  ·exact (noS ((if_neg hl).symm.trans h)).elim
end
noncomputable def tups (h:Heap):Fz:=fun a=>match h.get? a with
 | some o=>match o.data with
  | .seq _ _=>if o.cls==.type "tuple" then some o else none
  | _=>none
 | none=>none
theorem ze2 (h:Heap):(tups h).In h:=fun a o e=>by
 unfold tups at e
 cases hg:h.get? a with
 | none=>rw [hg] at e; cases e
 | some o' =>
  rw [hg] at e
  dsimp only at e
  split at e
  ·split at e
   ·exact e
   ·cases e
  ·cases e
theorem xf4 {h:Heap} {a:Addr} {vs:Array qq} {n:Nat} (e:h.get? a=some (tobj vs n)):tups h a=some (tobj vs n):=by
 unfold tups; rw [e]; rfl
section
variable {w:wy} {F:Fz} {h:Heap}
mutual
theorem Rep.tups (hin:F.In h):∀ (d:D) {v:qq},zz8 d=true->Rep w F d v->Rep w (tups h) d v
 | .int _,_,_,r=>by simpa [yz2,yz3,zn1,zf4,zf5,zp0,zh6] using r
 | .str _,_,_,r=>by simpa [yz2,yz3,zn1,zf4,zf5,zp0,zh6] using r
 | .tuple xs,_,p,r=>by
  simp only [zp0] at r |-
  refine elAEEEAA (r) fun hz a vs n e h1 h2=>?_
  simp only [zz8] at p
  exact ⟨hz,a,vs,n,e,xf4 (hin _ _ h1),RepL.tups hin xs p h2⟩
 | .none,_,p,_=>(qj p).elim
 | .bool _,_,p,_=>(qj p).elim
 | .list _,_,p,_=>(qj p).elim
 | .dict _,_,p,_=>(qj p).elim
theorem RepL.tups (hin:F.In h):∀ (ds:List D) {vs:List qq},zt7 ds=true->RepL w F ds vs->RepL w (tups h) ds vs
 | [],_,_,r=>by simpa [zp3,zu5] using r
 | d::ds,_,p,r=>by
  simp only [zu5] at r |-
  refine elEEAA (r) fun v t e h1 h2=>?_
  simp only [zt7,zj] at p
  exact ⟨v,t,e,Rep.tups hin d p.1 h1,RepL.tups hin ds p.2 h2⟩
end
end
mutual
noncomputable def draw:D->Nat
 | .tuple l=>yf4 l+1
 | _=>1
noncomputable def yf4:List D->Nat
 | []=>0
 | x::r=>draw x+yf4 r
end
section
variable {prog:vw} {w:wy} {F:Fz} {E:qq->qv->Prop}
@[elab_as_elim] theorem xw7 {d:D} {P:D->Prop} (p:zz8 d=true) (h1:∀ i,P (.int i)) (h2:∀ x,P (.str x)) (h3:∀ l,zt7 l=true->P (.tuple l)):P d:=by
 cases d<;>first|exact (qj p).elim|exact h1 _|exact h2 _|exact h3 _ p
@[elab_as_elim] theorem RepL.consK {x:qq} {rest:List qq} {ds:List D} (r:RepL w F ds (x::rest)) {P:List D->Prop} (k:∀ d ds,Rep w F d x->RepL w F ds rest->P (d::ds)):P ds:=by
 cases ds with
 | nil=>exact nomatch (show x::rest=[] from r)
 | cons d ds =>
  refine elEEAA (show ∃ v t,x::rest=v::t/\Rep w F d v/\RepL w F ds t from r) fun v t e q1 q2=>?_
  injection e with e1 e2
  exact k d ds (e1▸q1) (e2▸q2)
theorem RepL.nilK {ds:List D} (r:RepL w F ds []):ds=[]:=List.eq_nil_of_length_eq_zero r.length.symm
theorem zg1 {n:Nat} {v:qq} {A:xx} {s:qv} {Q:Bool->qv->Prop} (h:eqIsQuiet n v=pure true) (q:Q true s):zx (zQ prog w) A (eqIsQuiet n v) Q E s:=by
 rw [h]; exact z8 q
theorem xe5:∀ (n:Nat) (d:D) {v:qq} {A:xx} {s:qv} {Q:Bool->qv->Prop},zz8 d=true->lev d<=n->F.In s.heap->Rep w F d v->Q true s->zx (zQ prog w) A (eqIsQuiet n v) Q E s:=by
 intro n
 induction n with
 | zero =>
  intro d v A s Q p hl hin r q
  revert hl r
  exact xw7 p (fun i _ r=>Exists.elim r fun t e=>e▸zg1 (eqIsQuiet_byValue _ rfl) q) (fun i _ r=>Exists.elim r fun t e=>e▸zg1 (eqIsQuiet_byValue _ rfl) q) fun l _ hl=>absurd hl (Nat.not_succ_le_zero _)
 | succ n ih =>
  intro d v A s Q p hl hin r q
  revert hl r
  refine xw7 p (fun i _ r=>Exists.elim r fun t e=>e▸zg1 (eqIsQuiet_byValue _ rfl) q) (fun i _ r=>Exists.elim r fun t e=>e▸zg1 (eqIsQuiet_byValue _ rfl) q) fun xs p hl r=>?_
  refine Top.tupK (.inl r) hin fun _ a vs m _ ho h2=>?_
  have hl:=kW hl
  have hT:s.TypeIs (.ref a) "tuple" := ⟨_,ho,rfl⟩
  unfold eqIsQuiet
  refine qz (wpAny_specialOf hT PySem.F.slot_tuple_eq.lookup ?_)
  show zx _ _ (isInstance (.ref a) (.type "tuple") >>= _) _ _ s
  refine qz (wpAny_isInstance hT isSubtype_tuple_tuple ?_)
  simp only [Bool.not_true,j6,if_false]
  refine qz (uV ho rfl ?_)
  refine qz ?_
  show zx _ _ (forIn vs _ _) _ _ s
  rw [<- Array.forIn_toList]
  refine wpAny_forIn_list _ (fun rest r s'=>r.1=none/\s'=s/\∃ ds,zt7 ds=true/\levL ds<=n/\RepL w F ds rest) _ ?_ ?_ _ _ ⟨rfl,rfl,xs,p,hl,h2⟩
  ·rintro v rest r s' ⟨hr,rfl,ds,p1,l1,r1⟩
   revert p1 l1
   refine r1.consK fun d ds q1 q2 p1 l1=>?_
   have p1:=zw.mp p1
   have l1:=Nat.max_le.mp l1
   refine qz (ih d p1.1 l1.1 hin q1 ?_)
   simp only [Bool.not_true,j6,if_false]
   exact z8 ⟨rfl,rfl,ds,p1.2,l1.2,q2⟩
  ·rintro ⟨r1,r2⟩ s' ⟨hr,rfl,_⟩
   simp only at hr
   subst hr
   exact z8 q
theorem yp7 (x:D):∀ l:List D,yt2 w (l++[x])=yt2 w l++[yg5 w x]
 | []=>rfl
 | y::l=>by simp only [jx,yt2,yp7 x l]
theorem yo0 (x:D):∀ l:List D,yf4 (l++[x])=yf4 l+draw x
 | []=>by simp [yf4]
 | y::l=>by simp only [jx,yf4,yo0 x l]; bv_omega
inductive HashInv (w:wy) (F:Fz) (xs:List D) (n:Nat) (s:qv) (rest:List qq) (b:Array Int) (s':qv):Prop
 | mk (done left:List D) (e:xs=done++left) (pl:zt7 left=true) (ll:levL left<=n) (rl:RepL w F left rest) (hb:b.toList=yt2 w done) (es:s'={ s with toks:=s.toks+yf4 done })
theorem HashInv.next {xs:List D} {n:Nat} {s s':qv} {x:qq} {rest:List qq} {b:Array Int} (h:HashInv w F xs n s (x::rest) b s') {R:Prop}
  (k:∀ d,zz8 d=true->lev d<=n->Rep w F d x->HashInv w F xs n s rest (b.push (yg5 w d)) { s' with toks:=s'.toks+draw d }->R):R:=by
 obtain ⟨done,left,rfl,pl,ll,rl,hb,rfl⟩:=h
 revert pl ll k
 refine rl.consK fun d ds q1 q2 pl ll k=>?_
 have pl:=zw.mp pl
 have ll:=Nat.max_le.mp ll
 exact k d pl.1 ll.1 q1 ⟨done++[d],ds,by rw [xk]; rfl,pl.2,ll.2,q2,by rw [yp7,Array.toList_push,hb],by rw [yo0,x9]⟩
theorem ww2 {i:Int} {v:qq} {A:xx} {s:qv} {Q:Int->qv->Prop} (r:Rep w F (.int i) v) (q:Q (hashInt i) { s with toks:=s.toks+1 }):zx (zQ prog w) A (pyHash v) Q E s :=
 Exists.elim r fun t e=>e▸(uk prog w).pyHash (k:=i) (by simp [uk,qq.isInt]) q
theorem ww1 {x:Str} {v:qq} {A:xx} {s:qv} {Q:Int->qv->Prop} (r:Rep w F (.str x) v) (q:Q (yg5 w (.str x)) { s with toks:=s.toks+1 }):zx (zQ prog w) A (pyHash v) Q E s :=
 Exists.elim r fun t e=>e▸(strKind prog w).pyHash (k:=x) (by simp [strKind,qq.isStrOf]) q
theorem wq2:∀ (n:Nat) (d:D) {v:qq} {A:xx} {s:qv} {Q:Int->qv->Prop},zz8 d=true->lev d<=n->A.units+2*n<cLine->F.In s.heap->Rep w F d v->Q (yg5 w d) { s with toks:=s.toks+draw d }->zx (zQ prog w) A (pyHash v) Q E s:=by
 intro n
 induction n with
 | zero =>
  intro d v A s Q p hl hu hin r q
  revert hl r q
  exact xw7 p (fun i _ r q=>ww2 r q) (fun x _ r q=>ww1 r q) fun l _ hl=>absurd hl (Nat.not_succ_le_zero _)
 | succ n ih =>
  intro d v A s Q p hl hu hin r q
  revert hl r q
  refine xw7 p (fun i _ r q=>ww2 r q) (fun x _ r q=>ww1 r q) fun xs p hl r q=>?_
  revert q
  refine Top.tupK (.inl r) hin fun _ a vs m _ ho h2 q=>?_
  have hl:=kW hl
  have hT:s.TypeIs (.ref a) "tuple" := ⟨_,ho,rfl⟩
  unfold pyHash
  unfold pyHashByItsType
  refine qz (wpAny_cRoomFor_or (.inr (z7 (qQ ..) hu)) ?_)
  refine qz (wpAny_specialOf hT PySem.F.slot_tuple_hash.lookup ?_)
  show zx _ _ (if (some (qq.builtin "tuple.__hash__")==some wz)=true then _ else _) Q E s
  rw [if_neg (by rw [beq_builtin_none]; exact qj)]
  refine qz (wpAny_specialOf hT PySem.F.slot_tuple_hash.lookup ?_)
  show zx _ _ (callSpecialIfBoundUnlessNone? (.ref a) "__hash__" _ >>= _) Q E s
  refine qz (wpAny_callSpecialIfBoundUnlessNone?_slot hT PySem.F.slot_tuple_hash (kQ PySem.F.slot_tuple_hash hT PySem.F.entry_tuple_hash ?_ (PySem.F.args_tuple_hash_1 _)))
  show zx _ _ (Builtin.Tuple.tupleItemsOf (.ref a) >>= _) _ _ s
  refine qz (wpAny_tupleItemsOf ho rfl ?_)
  refine qz ?_
  rw [<- Array.forIn_toList]
  refine wpAny_forIn_list _ (HashInv w F xs n s) _ ?_ ?_ _ _ ⟨[],xs,rfl,p,hl,h2,rfl,rfl⟩
  ·intro x rest b s' hI
   refine hI.next fun d pd ld q1 fin=>?_
   have hin':F.In s'.heap:=by obtain ⟨_,_,_,_,_,_,_,rfl⟩:=hI; exact hin
   refine qz (ih d pd ld (by show A.units+1+2*n<cLine; rw [x9]; exact z7 (qZ (by rw [wk]; exact Nat.le_succ _) _) hu) hin' q1 ?_)
   first
    | exact z8 fin
    | exact qz (z8 (z8 fin))
  ·rintro b s' ⟨done,left,e,pl,ll,rl,hb,rfl⟩
   rw [rl.nilK,List.append_nil] at e
   subst e
   show zx _ _ (retInt (jw b.toList)) _ _ _
   rw [hb]
   refine wpAny_ret_mkInt ?_
   show zx _ _ (if (decide (-(2:Int)^63<=jw (yt2 w xs))&&decide (jw (yt2 w xs)<2^63))=true then _ else _) Q E _
   change Q (reduceHash (jw (yt2 w xs))) { s with toks:=s.toks+(yf4 xs+1) } at q
   unfold reduceHash at q
   by_cases hr:(decide (-(2:Int)^63<=jw (yt2 w xs))&&decide (jw (yt2 w xs)<2^63))=true
   ·rw [if_pos hr]
    rw [if_pos hr] at q
    exact z8 (by rw [<- x9] at q; exact q)
   ·rw [if_neg hr]
    rw [if_neg hr] at q
    exact qz (QJ (z8 (by rw [<- x9] at q; exact q)))
theorem zy6 {d:D} (h:tkey d=true):(∃ l,d=.tuple l)/\zz8 d=true/\okd d=true/\lev d<=8:=by
 unfold tkey at h
 simp only [zj,decide_eq_true_eq] at h
 refine ⟨?_,h.1.1.2,h.1.2,h.2⟩
 cases d<;>first|exact ⟨_,rfl⟩|exact absurd h.1.1.1 qj
end
theorem wv3 {h h':Heap} {d:Addr} {o:Obj} {es:Array j9} {ep:Nat} (ho:h.get? d=some o) (hd:o.data=.dict es ep) (hs:Heap.SameBut d h h'):(tups h).le (tups h'):=fun a x e=>by
 have hg:=ze2 h a x e
 have hne:a≠d:=by
  rintro rfl
  rw [ho] at hg
  cases hg
  unfold tups at e
  rw [ho] at e
  dsimp only at e
  rw [hd] at e
  cases e
 unfold tups at e |-
 rw [hs.2 a hne]
 exact e
theorem xz8 {x y:D} [Decidable (x=y)] (p1:zz8 x=true) (p2:zz8 y=true):qX x y=decide (x=y):=by
 by_cases hxy:x=y
 ·rw [decide_eq_true hxy]; exact (zx0 p1 p2).mpr hxy
 ·rw [decide_eq_false hxy]
  cases ee:qX x y with
  | false=>rfl
  | true=>exact absurd ((zx0 p1 p2).mp ee) hxy
open Classical in
noncomputable def zb9 (prog:vw) (w:wy):HeapKind prog w D where
 is:=fun h k a=>tkey k=true/\Rep w (tups h) k (.ref a)
 hash:=yg5 w
 draws:=draw
 room:=fun A=>A.units+1100<cLine
 inj:=fun hx hy=>by
  obtain ⟨as,r1⟩:=Rep.reads (ze2 _) _ hx.2
  obtain ⟨bs,r2⟩:=Rep.reads (ze2 _) _ hy.2
  exact (Reads.unique r1 _ _ r2).1
 keeps:=fun hx ho hd hs=>⟨hx.1,Rep.mono (wv3 ho hd hs) _ hx.2⟩
 pyHash:=fun hu hx q=>wq2 8 _ (zy6 hx.1).2.1 (zy6 hx.1).2.2.2 (z7 (qZ (by decide) _) hu) (ze2 _) hx.2 q
 eqBool:=fun hu hx hy q=>by
  obtain ⟨as,r1⟩:=Rep.reads (ze2 _) _ hx.2
  obtain ⟨bs,r2⟩:=Rep.reads (ze2 _) _ hy.2
  refine elAAA (zy6 hx.1) fun _ p1 o1 _=>?_
  refine elAAA (zy6 hy.1) fun _ p2 o2 _=>?_
  have c1:=zy9 o1
  have c2:=zy9 o2
  refine SeqAt.eqAt_reads _ _ _ _ _ _ as bs r1 r2 c1.1 c2.1 (z7 (qZ (qw (k8 ..) (qw c1.2 (by decide))) _) hu) prog w _ _ ?_
  rw [xz8 p1 p2]
  exact q
 quiet:=fun hx q=>xe5 8 _ (zy6 hx.1).2.1 (zy6 hx.1).2.2.2 (ze2 _) hx.2 q
noncomputable def RowsAt (h:Heap) (d:Addr) (es:Array j9) (ep:Nat):Prop:=∃ o,h.get? d=some o/\o.ExactDict/\o.data=.dict es ep
theorem RowsAt.type {s:qv} {d:Addr} {es:Array j9} {ep:Nat} (x:RowsAt s.heap d es ep):s.TypeIs (.ref d) "dict" := let ⟨o,ho,hc,_⟩:=x; ⟨o,ho,hc.1⟩
section
variable {prog:vw} {w:wy} {A:xx} {E:qq->qv->Prop} {s:qv} {d it:Addr} {es:Array j9} {ep i:Nat}
theorem yg4 {Q:qq->qv->Prop} (lo:(d==uJ)=false) (x:RowsAt s.heap d es ep)
  (h:Q (.ref s.heap.objs.size) { s with heap:=s.heap.push { cls:=.type "dict_keyiterator", data:=.fields #[.ref d,.int 0 0,.int es.size 0,.int ep 0] } }):zx (zQ prog w) A (pyIter (.ref d)) Q E s:=by
 have hT:=x.type
 refine elEAA (x) fun o ho hc hd=>?_
 refine wpAny_pyIter_slot hT PySem.F.slot_dict_iter (kQ PySem.F.slot_dict_iter hT PySem.F.entry_dict_iter ?_ (PySem.F.args_dict_iter_1 _))
 unfold Builtin.«dict.__iter__» Builtin.Dict.dictSlotNone
 refine qz (qz (wpAny_notOrdered_dict hT ?_))
 show zx _ _ (pure (xK d)) _ _ s
 refine z8 ?_
 show zx _ _ (Builtin.Dict.showsAll d >>= _) _ _ s
 unfold Builtin.Dict.showsAll
 rw [if_neg (by rw [lo]; exact qj)]
 refine qz (z8 (qz (wpAny_dictEntries ho hd (qz (wpAny_dictEpoch ho hd ?_)))))
 refine qz (yX (z8 ⟨_,rfl,"dict_keyiterator", _,⟨_,xy _ rfl,rfl⟩,k6.lookup,?_⟩))
 simpa [rawInt] using h
theorem wpN {α:Type} {M:Model} {A:xx} {Q:α->qv->Prop} {E:qq->qv->Prop} {s:qv} {c:Prop} [Decidable c] {t e:Sem α} (h:¬ c) (k:zx M A e Q E s):zx M A (if c then t else e) Q E s:=by rw [if_neg h]; exact k
theorem xl8 {Q:Option qq->qv->Prop} (hit:s.heap.IsKeyIter it d i es.size ep) (x:RowsAt s.heap d es ep) (hi:i<es.size)
  (h:∀ h',h'.IsKeyIter it d (i+1) es.size ep->Heap.SameBut it s.heap h'->Q (some es[i].key) { s with heap:=h' }):zx (zQ prog w) A (pyNext (.ref it)) Q E s:=by
 refine elEAA (id hit) fun o ho hc hd=>?_
 refine elEAA (id x) fun od hod hcd hdd=>?_
 unfold pyNext
 refine qz (wpAny_attempt (yW (name:=qk "__next__") hit.typeIs k6
  (kQ k6 hit.typeIs PySem.F.entry_dict_keyiterator_next ?_ (PySem.F.args_dict_keyiterator_next_1 _))))
 refine qz (z8 (qz (qz ?_)))
 refine qz (QZ hit.typeIs (z8 ?_))
 refine qz (wpAny_fieldsOf ho hd ?_)
 refine wpN (c:=(xK d==wz)=true) qj ?_
 refine qz (z8 (qz (wpAny_dictEntries hod hdd ?_)))
 refine wpN (by simp) ?_
 refine qz (z8 (qz (wpAny_dictEpoch hod hdd ?_)))
 refine wpN (by simp) ?_
 refine z8 ?_
 simp only [show ¬ ((i:Int)<0) from by bv_omega,if_false,Int.toNat_natCast,xZ hi]
 refine qz (qz (QZ hit.typeIs (z8 ?_)))
 refine qz (wpAny_isOneOf_keyiter hit.typeIs ?_)
 show zx _ _ (setField (.ref it) 1 (rawInt ((i:Int)+1)) >>= _) _ _ s
 refine qz (wpAny_setField ho hd (by simp) ?_)
 have hit':(s.heap.update it (Obj.mapFields (·.setIfInBounds 1 (rawInt ((i:Int)+1))))).IsKeyIter it d (i+1) es.size ep :=
  ⟨_,Heap.get?_update_self _ ho (Obj.isFreed_of_fields (Obj.data_mapFields hd _)),(Obj.cls_mapFields ..).trans hc,by rw [Obj.data_mapFields hd]; simp [rawInt]⟩
 refine qz (Z2 ?_)
 refine qz (wpAny_isOneOf_keyiter (s:={ s with heap:=s.heap.update it (Obj.mapFields (·.setIfInBounds 1 (rawInt ((i:Int)+1)))) }) hit'.typeIs ?_)
 show zx _ _ (pure es[i].key) _ _ _
 exact z8 (z8 ⟨_,rfl,z8 (h _ hit' (Heap.SameBut.update ..))⟩)
theorem xa4 {Q:Option qq->qv->Prop} (hh:A.handled=none) (hit:s.heap.IsKeyIter it d es.size es.size ep) (x:RowsAt s.heap d es ep)
  (h:∀ h',Heap.ExtBut it s.heap h'->Q none { s with heap:=h' }):zx (zQ prog w) A (pyNext (.ref it)) Q E s:=by
 refine elEAA (id hit) fun o ho hc hd=>?_
 refine elEAA (id x) fun od hod hcd hdd=>?_
 unfold pyNext
 refine qz (wpAny_attempt (yW (name:=qk "__next__") hit.typeIs k6
  (kQ k6 hit.typeIs PySem.F.entry_dict_keyiterator_next ?_ (PySem.F.args_dict_keyiterator_next_1 _))))
 refine qz (z8 (qz (qz ?_)))
 refine qz (QZ hit.typeIs (z8 ?_))
 refine qz (wpAny_fieldsOf ho hd ?_)
 refine wpN (c:=(xK d==wz)=true) qj ?_
 refine qz (z8 (qz (wpAny_dictEntries hod hdd ?_)))
 refine wpN (by simp) ?_
 refine qz (z8 (qz (wpAny_dictEpoch hod hdd ?_)))
 refine wpN (by simp) ?_
 refine z8 ?_
 simp only [show ¬ ((es.size:Int)<0) from by bv_omega,if_false,Int.toNat_natCast,Array.getElem?_eq_none (zW es.size)]
 refine qz (qz (QZ hit.typeIs (z8 ?_)))
 show zx _ _ (setField (.ref it) 0 .none >>= _) _ _ s
 refine qz (wpAny_setField ho hd (by simp) ?_)
 show zx _ _ (newExc (.type "StopIteration") [] >>= _) _ _ _
 refine qz ?_
 simp only [newExc,newTuple]
 refine qz (yX ?_ (by size_fits))
 refine qz (m:=firstArgMember _ _) (wpAny_of_eq (a:=wz) (by first|rfl|(simp only [firstArgMember]; rfl)) ?_)
 refine yX ?_ (by size_fits)
 simp only [raiseNew]
 refine qz (wpAny_handled ?_)
 rw [show A.in1.handled=none from hh]
 refine qz (z8 (wpAny_throw ?_))
 refine qz (wpAny_isInstance (T := "StopIteration") (b:=true) ⟨_,xy _ rfl,rfl⟩ isSubtype_stop ?_)
 exact z8 (h _ (((Heap.SameBut.update ..).extBut.push _).push _))
theorem RowsAt.at {h h':Heap} (x:RowsAt h d es ep) (e:∀ o,h.get? d=some o->h'.get? d=some o):RowsAt h' d es ep:=let ⟨o,ho,r⟩:=x; ⟨o,e _ ho,r⟩
theorem yl9 (hh:A.handled=none) (I d:Addr) (hne:d≠I) (es:Array j9) (ep:Nat) :
  Walks prog w A I [I,d] [I] es.size (fun i v=>∃ e,es[i]?=some e/\v=e.key) (fun i h=>h.IsKeyIter I d i es.size ep/\RowsAt h d es ep) where
 sub:=fun b hb=>by simp at hb; simp [hb]
 frame:=fun _ _ _ st hk=>⟨st.1.at fun o e=>hk I (by simp) o e,st.2.at fun o e=>hk d (by simp) o e⟩
 item:=fun i s Q E hi st hQ=>by
  refine xl8 st.1 st.2 hi fun h' hit' hs'=>?_
  exact hQ _ h' s.toks ⟨es[i],xZ hi,rfl⟩ ⟨hit',st.2.at fun o e=>by rw [hs'.2 d hne]; exact e⟩ fun b o hb e=>hs'.extBut b o (fun h=>hb (by simp [h])) e
 done:=fun s Q E st hQ=>xa4 hh st.1 st.2 fun h' he'=>hQ h' s.toks fun b o hb e=>he' b o (fun h=>hb (by simp [h])) e
 self:=fun _ _ _ _ st hQ=>wpAny_pyIter_keyiter st.1 hQ
end
open PySem Mini Classical
inductive AbsH (w:wy) (F:Fz):List (D×D)->List (D×Addr×qq)->Prop
 | nil:AbsH w F [] []
 | cons {k d:D} {a:Addr} {v:qq} {r:List (D×D)} {t:List (D×Addr×qq)}:tkey k=true->Rep w F k (.ref a)->Rep w F d v->AbsH w F r t->AbsH w F ((k,d)::r) ((k,a,v)::t)
section
variable {w:wy} {F:Fz} {prog:vw}
theorem AbsH.keys {kvs:List (D×D)} {t:List (D×Addr×qq)} (h:AbsH w F kvs t):t.map (·.1)=kvs.map (·.1):=by
 induction h with
 | nil=>rfl
 | cons _ _ _ _ ih=>simp [ih]
theorem AbsH.length {kvs:List (D×D)} {t:List (D×Addr×qq)} (h:AbsH w F kvs t):t.length=kvs.length:=by
 have:=congrArg List.length h.keys; simpa using this
theorem AbsH.all {kvs:List (D×D)} {t:List (D×Addr×qq)} (h:AbsH w F kvs t):∀ x∈t,tkey x.1=true/\Rep w F x.1 (.ref x.2.1):=by
 induction h with
 | nil=>simp
 | cons a b _ _ ih =>
  intro x hx
  rcases z0.mp hx with rfl|hx
  ·exact ⟨a,b⟩
  ·exact ih x hx
theorem yk3:∀ {kvs:List (D×D)} {es:List j9},(kvs.all fun p=>tkey p.1)=true->RepKV w F kvs es->∃ t,AbsH w F kvs t/\es=t.map (entryOfKey (zb9 prog w))
 | [],es,_,r=>by
  simp only [zd9] at r; subst r
  exact ⟨[],.nil,rfl⟩
 | (k,d)::kvs,es,h,r=>by
  simp only [zj7,ys7] at r
  obtain ⟨e,t,rfl,⟨h1,h2,h3⟩,h4⟩:=r
  simp only [List.all_cons,zj] at h
  refine elEA (yk3 (kvs:=kvs) h.2 h4) fun t' a q=>?_
  obtain ⟨⟨l,rfl⟩,_⟩:=zy6 h.1
  have h2':=h2
  simp only [zp0] at h2
  refine elAEEEA (h2) fun _ b vs n e1 _=>?_
  rw [e1] at h2'
  refine ⟨(.tuple l,b,e.val)::t',.cons h.1 h2' h3 a,?_⟩
  obtain ⟨eh,ek,ev⟩:=e
  simp only at e1 h1
  subst e1 h1 q
  rfl
theorem xg8:∀ {kvs:List (D×D)} {t:List (D×Addr×qq)},AbsH w F kvs t->RepKV w F kvs (t.map (entryOfKey (zb9 prog w))):=fun a=>by
 induction a with
 | nil=>simp [zd9]
 | cons hk r1 r2 a ih =>
  simp only [xz,zj7,ys7]
  exact ⟨_,_,rfl,⟨rfl,r1,r2⟩,ih⟩
theorem xx1 {h:Heap} {kvs:List (D×D)} {a:Addr} {es:Array j9} {n:Nat} (hin:F.In h) (hk:(kvs.all fun p=>tkey p.1)=true) (hd:xy8 kvs) (h1:h.get? a=some (dobj es n)) (r:RepKV w F kvs es.toList) :
  ∃ t,AbsH w F kvs t/\h.DictOfH (zb9 prog w) a t:=by
 refine elEA (yk3 (prog:=prog) hk r) fun t ab e=>?_
 exact ⟨t,ab,_,es,n,h1,⟨rfl,rfl,rfl⟩,rfl,e,fun x hx=>⟨(ab.all x hx).1,Rep.tups hin _ (zy6 (ab.all x hx).1).2.1 (ab.all x hx).2⟩,by rw [ab.keys]; exact hd.2⟩
theorem xd6 {h:Heap} {kvs:List (D×D)} {a:Addr} {t:List (D×Addr×qq)} (ab:AbsH w F kvs t) (hz:kvs.length<=size) (hb:uJ<a) (h1:h.DictOfH (zb9 prog w) a t):Shal w F h (.dict kvs) a:=by
 obtain ⟨o,es,n,ho,⟨c1,c2,c3⟩,hd,he,_,hn⟩:=h1
 refine ⟨⟨hz,by rw [<- ab.keys]; exact hn⟩,es,n,?_,by rw [he]; exact xg8 ab,hb⟩
 rw [ho]
 obtain ⟨cls,dict,data,slots⟩:=o
 simp only at c1 c2 c3 hd
 subst c1 c2 c3 hd
 rfl
set_option tactic.hygienic true in
theorem yo2 {k:D} (hk:tkey k=true):∀ {kvs:List (D×D)} {t:List (D×Addr×qq)},AbsH w F kvs t->(∀ d,zq8 kvs k=some d->∃ p,atKey t k=some p/\Rep w F d p.2)/\(zq8 kvs k=none->atKey t k=none)
 | _,_,.nil=>⟨fun d h=>by simp [zq8] at h,fun _=>rfl⟩
 | _,_,.cons hk' r1 r2 a=>by
  rename_i k' d b v kvs t
  have ih:=yo2 hk a
  unfold zq8 atKey at *
  simp only [k7,xz8 (zy6 hk').2.1 (zy6 hk).2.1]
  by_cases e:k'=k
  ·simp only [e,decide_true,Option.map_some]
   exact ⟨fun d' h=>by cases h; exact ⟨_,rfl,r2⟩,fun h=>by cases h⟩
  ·simp only [e,decide_false]
   exact ih
set_option tactic.hygienic true in
theorem yk7 {k d:D} {a:Addr} {v:qq} (hk:tkey k=true) (r1:Rep w F k (.ref a)) (r2:Rep w F d v):∀ {kvs:List (D×D)} {t:List (D×Addr×qq)},AbsH w F kvs t->(t.map (·.1)).Nodup->AbsH w F (dput kvs k d) (storedH t k a v):=by
 intro kvs t ab
 induction ab with
 | nil=>intro _; simp only [dput]; exact .cons hk r1 r2 .nil
 | cons hk' q1 q2 ab ih0 =>
  intro hn
  rename_i k' d' a' v' kvs t
  rw [xz,vx] at hn
  have ih:=ih0 hn.2
  unfold dput
  rw [xz8 (zy6 hk').2.1 (zy6 hk).2.1]
  by_cases e:k'=k
  ·subst e
   simp only [decide_true,if_true]
   have:storedH ((k',a',v')::t) k' a v=(k',a',v)::t:=by
    unfold storedH
    rw [if_pos (by simp [atKey])]
    simp only [xz]
    rw [map_putAt_of_not_mem t k' v hn.1]
    simp [putAt]
   rw [this]
   exact .cons hk' q1 r2 ab
  ·simp only [e,decide_false,j6,if_false]
   have:storedH ((k',a',v')::t) k a v=(k',a',v')::storedH t k a v:=by
    unfold storedH
    have e1:atKey ((k',a',v')::t) k=atKey t k:=by simp [atKey,k7,e]
    rw [e1]
    split
    ·simp [putAt,e]
    ·rfl
   rw [this]
   exact .cons hk' q1 q2 ih
theorem xx0 {h:Heap} {k:D} {v:qq} (hin:F.In h) (hk:tkey k=true) (x:Top w F h k v):∃ a,v=.ref a/\Rep w F k (.ref a):=by
 obtain ⟨⟨l,rfl⟩,_⟩:=zy6 hk
 refine x.tupK hin fun hz a vs n h0 h1 h2=>?_
 exact ⟨a,rfl,by simp only [zp0]; exact ⟨hz,a,vs,n,rfl,h0,h2⟩⟩
theorem RepKV.key {kvs:List (D×D)} {es:List j9} (r:RepKV w F kvs es) {i:Nat} {d:D} {e:j9} (hd:(kvs.map (·.1))[i]?=some d) (he:es[i]?=some e):Rep w F d e.key:=by
 induction kvs generalizing es i with
 | nil=>simp at hd
 | cons p kvs ih =>
  obtain ⟨k,x⟩:=p
  simp only [zj7,ys7] at r
  obtain ⟨e',t,rfl,⟨_,h2,_⟩,h4⟩:=r
  cases i with
  | zero=>simp at hd he; subst hd he; exact h2
  | succ i=>exact ih h4 (by simpa using hd) (by simpa using he)
theorem RepL.of_get:∀ {ds:List D} {vs:List qq},vs.length=ds.length->(∀ (i:Nat) (d:D) (v:qq),ds[i]?=some d->vs[i]?=some v->Rep w F d v)->RepL w F ds vs:=by
 intro ds
 induction ds with
 | nil =>
  intro vs hl _
  rw [kj.mp hl]; exact RepL.nil_
 | cons d ds ih =>
  intro vs hl h
  cases vs with
  | nil=>cases hl
  | cons v vs=>exact RepL.cons_ (h 0 d v rfl rfl) (ih (QK hl) fun i d v h1 h2=>h (i+1) d v h1 h2)
end
inductive Abs (w:wy) (F:Fz):List (D×D)->List (Int×qq)->Prop
 | nil:Abs w F [] []
 | cons {k:Int} {d:D} {v:qq} {r:List (D×D)} {t:List (Int×qq)}:Rep w F d v->Abs w F r t->Abs w F ((.int k,d)::r) ((k,v)::t)
section
variable {w:wy} {F:Fz} {prog:vw}
theorem Abs.keys {kvs:List (D×D)} {t:List (Int×qq)} (h:Abs w F kvs t):kvs.map (·.1)=(t.map (·.1)).map vy:=by
 induction h with
 | nil=>rfl
 | cons _ _ ih=>simp [ih]
theorem Abs.length {kvs:List (D×D)} {t:List (Int×qq)} (h:Abs w F kvs t):t.length=kvs.length:=by
 induction h with
 | nil=>rfl
 | cons _ _ ih=>simp [ih]
theorem Abs.nodup {kvs:List (D×D)} {t:List (Int×qq)} (h:Abs w F kvs t) (hn:(kvs.map (·.1)).Nodup):(t.map (·.1)).Nodup:=by
 rw [h.keys] at hn
 exact List.Pairwise.of_map _ (fun a b hab e=>hab (by rw [e])) hn
theorem Abs.nodup' {kvs:List (D×D)} {t:List (Int×qq)} (h:Abs w F kvs t) (hn:(t.map (·.1)).Nodup):(kvs.map (·.1)).Nodup:=by
 rw [h.keys]
 exact yu2 (fun a _ b _ e=>by cases e; rfl) hn
theorem kk_inv {k:D} (h:zq7 k=some 0):∃ i,k=.int i:=by
 cases k with
 | int i=>exact ⟨i,rfl⟩
 | tuple l =>
  by_cases q:tkey (.tuple l)=true
  ·cases (if_pos q).symm.trans h
  ·exact (noS ((if_neg q).symm.trans h)).elim
 | _=>exact (noS h).elim
theorem yt1:∀ {kvs:List (D×D)} {es:List j9},zj3 kvs=true->RepKV w F kvs es->∃ t,Abs w F kvs t/\Pairs (uk prog w) es t/\∀ e∈es,∃ k,(uk prog w).is k e.key=true/\e.hash=(uk prog w).hash k
 | [],es,_,r=>by
  simp only [zd9] at r; subst r
  exact ⟨[],.nil,.nil,by simp⟩
 | (k,d)::kvs,es,h,r=>by
  simp only [zj7,ys7] at r
  obtain ⟨e,t,rfl,⟨h1,h2,h3⟩,h4⟩:=r
  simp only [zj3,List.all_cons,zj,beq_iff_eq] at h
  refine elEAA (yt1 (kvs:=kvs) h.2 h4) fun t' a p q=>?_
  obtain ⟨i,rfl⟩:=kk_inv h.1
  simp only [zn1] at h2
  obtain ⟨u,hu⟩:=h2
  have his:(uk prog w).is i e.key=true:=by rw [hu]; simp [uk,qq.isInt]
  refine ⟨(i,e.val)::t',.cons h3 a,.cons his rfl p,fun e' he'=>?_⟩
  rcases z0.mp he' with rfl|he'
  ·exact ⟨i,his,by rw [h1]; rfl⟩
  ·exact q e' he'
set_option tactic.hygienic true in
theorem xy7:∀ {kvs:List (D×D)} {t:List (Int×qq)} {es:List j9},Abs w F kvs t->Pairs (uk prog w) es t->(∀ e∈es,∃ k,(uk prog w).is k e.key=true/\e.hash=(uk prog w).hash k)->RepKV w F kvs es:=by
 intro kvs t es a
 induction a generalizing es with
 | nil=>intro p _; cases p; simp [zd9]
 | cons r a ih =>
  intro p q
  cases p with
  | cons his hv p =>
  rename_i k d v kvs t e es
  simp only [zj7,ys7]
  refine ⟨e,es,rfl,⟨?_,?_,?_⟩,ih p fun e' he'=>q e' (xX _ he')⟩
  ·refine elEA (q e (by simp)) fun k' h1 h2=>?_
   have:k'=k:=(uk prog w).inj _ _ _ h1 his
   rw [h2,this]; rfl
  ·simp only [zn1]
   exact qq.isInt_shape his
  ·simp only at hv
   rw [hv]; exact r
theorem zc2 {h:Heap} {kvs:List (D×D)} {a:Addr} {es:Array j9} {n:Nat} (hk:zj3 kvs=true) (hd:xy8 kvs) (h1:h.get? a=some (dobj es n)) (r:RepKV w F kvs es.toList) :
  ∃ t,Abs w F kvs t/\h.DictAt (uk prog w) a t n:=by
 refine elEAA (yt1 (prog:=prog) hk r) fun t a' p q=>?_
 exact ⟨t,a',_,es,h1,⟨rfl,rfl,rfl⟩,rfl,fun e he=>q e (Array.mem_toList_iff.mpr he),p,a'.nodup hd.2⟩
theorem yi7 {h:Heap} {kvs:List (D×D)} {a:Addr} {t:List (Int×qq)} (ha:Abs w F kvs t) (hz:kvs.length<=size) (hb:uJ<a) (h1:h.DictOf (uk prog w) a t):Shal w F h (.dict kvs) a:=by
 obtain ⟨o,es,n,ho,⟨c1,c2,c3⟩,hd,hk,p,hn⟩:=h1
 refine ⟨⟨hz,ha.nodup' hn⟩,es,n,?_,xy7 ha p fun e he=>hk e (Array.mem_toList_iff.mp he),hb⟩
 rw [ho]
 obtain ⟨cls,dict,data,slots⟩:=o
 simp only at c1 c2 c3 hd
 subst c1 c2 c3 hd
 rfl
theorem xi9 {a b:Int}:qX (.int a) (.int b)=decide (a=b):=by
 show (a==b)=_
 by_cases h:a=b<;>simp [h]
set_option tactic.hygienic true in
theorem yz4 {k:Int}:∀ {kvs:List (D×D)} {t:List (Int×qq)},Abs w F kvs t->(∀ d,zq8 kvs (.int k)=some d->∃ v,valueAt t k=some v/\Rep w F d v)/\(zq8 kvs (.int k)=none->valueAt t k=none):=by
 intro kvs t a
 induction a with
 | nil=>exact ⟨fun d h=>by simp [zq8] at h,fun _=>rfl⟩
 | cons r a ih =>
  rename_i k' d v kvs t
  unfold zq8 valueAt at *
  simp only [k7,xi9]
  by_cases e:k'=k
  ·subst e
   simp only [decide_true,Option.map_some]
   exact ⟨fun d' h=>by cases h; exact ⟨v,rfl,r⟩,fun h=>by cases h⟩
  ·simp only [e,decide_false]
   exact ih
set_option tactic.hygienic true in
theorem ye9 {k:Int} {d:D} {v:qq} (r:Rep w F d v):∀ {kvs:List (D×D)} {t:List (Int×qq)},Abs w F kvs t->(t.map (·.1)).Nodup->Abs w F (dput kvs (.int k) d) (stored t k v):=by
 intro kvs t a
 induction a with
 | nil=>intro _; simp only [dput,stored]; exact .cons r .nil
 | cons r' a ih0 =>
  intro hn
  rename_i k' d' v' kvs t
  rw [xz,vx] at hn
  have ih:=ih0 hn.2
  unfold dput
  rw [xi9]
  by_cases e:k'=k
  ·subst e
   simp only [decide_true,if_true]
   have:stored ((k',v')::t) k' v=(k',v)::t:=by
    unfold stored
    rw [if_pos (by simp)]
    simp only [xz,if_true]
    rw [map_store_of_not_mem t k' v hn.1]
   rw [this]
   exact .cons r a
  ·simp only [e,decide_false,j6,if_false]
   have:stored ((k',v')::t) k v=(k',v')::stored t k v:=by
    unfold stored
    simp only [List.any_cons,e,decide_false,Bool.false_or,xz,if_false]
    split<;>rfl
   rw [this]
   exact .cons r' ih
theorem zd7 {k:D} {v:D}:∀ {kvs:List (D×D)},(dput kvs k v).length<=kvs.length+1
 | []=>by simp [dput]
 | p::r=>by
  unfold dput
  split
  ·simp
  ·have:=zd7 (k:=k) (v:=v) (kvs:=r)
   simp; bv_omega
set_option tactic.hygienic true in
theorem zh0 {x:D} {kvs:List (D×D)} (h:zs3 x kvs=true):(∃ i,x=.int i/\zj3 kvs=true)\/(tkey x=true/\(kvs.all fun p=>tkey p.1)=true):=by
 unfold zs3 at h
 simp only [zj] at h
 cases x<;>try exact absurd h.1 qj
 ·rename_i i
  exact .inl ⟨i,rfl,by simpa [zj3,zq7] using h⟩
 ·rename_i l
  by_cases hl:tkey (.tuple l)=true
  ·refine .inr ⟨hl,xJ.mpr fun p hp=>?_⟩
   have q:=xJ.mp h.2 p hp
   obtain ⟨k,d⟩:=p
   have e:zq7 (.tuple l)=some 1:=if_pos hl
   rw [e] at q
   cases k with
   | tuple m =>
    by_cases hm:tkey (.tuple m)=true
    ·exact hm
    ·exact absurd q (by rw [show zq7 (.tuple m)=none from if_neg hm]; decide)
   | _=>exact absurd q qj
  ·simp [zq7,hl] at h
theorem xg3 {a:Addr} (h:uJ<a):(a==uJ)=false:=by
 simp only [beq_eq_false_iff_ne,ne_eq]
 exact u9 h
end
theorem wq8 (w:wy):xf0 w:=by
 intro prog A E s F n R hin x kvs a b ha hb ho
 rw [zj] at ho
 obtain ⟨ho,hnt⟩:=ho
 refine hb.dicK hin fun hd c es m h1 r hbig=>?_
 rcases zh0 ho with ⟨i,rfl,hk⟩|⟨hx,hk⟩
 rotate_left
 ·rw [hx] at hnt; exact absurd hnt qj
 refine ha.intK fun t=>?_
 refine elEA (zc2 (prog:=prog) hk hd h1 r) fun tt ab dt=>?_
 have hv:=yz4 (k:=i) ab
 have he:(valueAt tt i).isSome=(zq8 kvs (.int i)).isSome:=by
  cases hf:zq8 kvs (.int i) with
  | none=>rw [hv.2 hf]; rfl
  | some d=>refine elEA (hv.1 d hf) fun v q _=>?_; rw [q]; rfl
 constructor
 ·refine wpAny_in_of (knd:=uk prog w) (k:=i) (by simp [uk,qq.isInt]) (xg3 hbig) dt.dictOf.mapOf ⟨?_,_,rfl⟩
  rw [he]
 ·refine wpAny_notIn_of (knd:=uk prog w) (k:=i) (by simp [uk,qq.isInt]) (xg3 hbig) dt.dictOf.mapOf ⟨?_,_,rfl⟩
  rw [he]
theorem dictIn (w:wy):DictIn w:=⟨wq8 w⟩
open Classical in
theorem wq9 (w:wy):ys8 w:=by
 intro prog A E s F n R hin x v kvs a b ha hb ho hf
 refine hb.dicK hin fun hd c es m h1 r hbig=>?_
 rcases zh0 ho with ⟨i,rfl,hk⟩|⟨hx,hk⟩
 rotate_left
 ·refine elEA (xx1 (prog:=prog) hin hk hd h1 r) fun tt ab dt=>?_
  (refine elEA (xx0 hin hx ha) fun b e_1 rb=>?_; subst e_1)
  refine elEA ((yo2 hx ab).1 _ hf) fun p hp rp=>?_
  exact wpAny_getItem_heap (knd:=zb9 prog w) (by have:=R.units; show A.units+1+1100<cLine; rw [x9]; exact z7 (Z5 (qQ ..) (by decide)) this) ⟨hx,Rep.tups hin _ (zy6 hx).2.1 rb⟩ dt hp ⟨rp,_,rfl⟩
 refine ha.intK fun t=>?_
 refine elEA (zc2 (prog:=prog) hk hd h1 r) fun tt ab dt=>?_
 refine elEA ((yz4 (k:=i) ab).1 _ hf) fun u hu ru=>?_
 exact wpAny_getItem_of (knd:=uk prog w) (k:=i) (by simp [uk,qq.isInt]) dt.dictOf.mapOf hu ⟨ru,_,rfl⟩
open Classical in
theorem wq7 (w:wy):yl7 w:=by
 intro prog A E s F n R hin x v kvs a key val hx hv hsh hf ho hz
 refine elAEEAA (hsh) fun hd es m h1 r hbig=>?_
 rcases zh0 ho with ⟨i,rfl,hk⟩|⟨hkx,hk⟩
 rotate_left
 ·refine elEA (xx1 (prog:=prog) hin hk hd h1 r) fun tt ab dt=>?_
  (refine elEA (xx0 hin hkx (xs3 hx)) fun b e_1 rb=>?_; subst e_1)
  refine wpAny_setItem_heap (knd:=zb9 prog w) (by have:=R.units; show A.units+1+1100<cLine; bv_omega) ⟨hkx,Rep.tups hin _ (zy6 hkx).2.1 rb⟩ dt (fun h' q hs=>?_) (by rw [ab.length,ze3]; bv_omega)
  refine ⟨h',_,rfl,fun c hc=>hs.2 c hc,?_⟩
  exact xd6 (yk7 hkx rb hv ab (by rw [ab.keys]; exact hd.2)) (by have:=zd7 (k:=x) (v:=v) (kvs:=kvs); exact qw this hz) hbig q
 simp only [zn1] at hx
 obtain ⟨t,rfl⟩:=hx
 refine elEA (zc2 (prog:=prog) hk hd h1 r) fun tt ab dt=>?_
 refine wpAny_setItem_pairs (knd:=uk prog w) (k:=i) (by simp [uk,qq.isInt]) dt.dictOf (fun h' q hs=>?_) (by rw [ab.length,ze3]; bv_omega)
 refine ⟨h',_,rfl,fun b hb=>hs.2 b hb,?_⟩
 exact yi7 (ye9 hv ab (ab.nodup hd.2)) (by have:=zd7 (k:=.int i) (v:=v) (kvs:=kvs); bv_omega) hbig q
theorem xa5 (w:wy):zf1 w:=by
 intro prog A E s F n R hin kvs v r
 simp only [zh6] at r
 (refine elAEEEAAA (r) fun hd a es m e_4 hF r_n hbig=>?_; clear r; revert r_n; intro r; subst e_4)
 have h1:=hin _ _ hF
 have hne:a≠s.heap.objs.size:=jV (wq h1)
 have x:RowsAt s.heap a es m:=⟨_,h1,⟨rfl,rfl,rfl⟩,rfl⟩
 have hl:=r.length
 rw [vk] at hl
 refine yg4 (xg3 hbig) x ?_
 refine ⟨s.heap.objs.size,_,_,_,s.toks,rfl,rfl,fun b o e=>qV _ e,Walk.of (yl9 R.handled s.heap.objs.size a hne es m) (by simp [hl]) (by simp) (fun i h b t hb=>?_) (fun b hb=>?_) (fun i v d hdd hv G l=>?_) (fun _ _ t=>let ⟨o,ho,hc,_⟩:=t.1; ⟨o,_,ho,hc,rfl⟩),
  ⟨⟨_,xy _ rfl,rfl,rfl⟩,x.at fun o e=>qV _ e⟩,fun b hb=>?_⟩
 ·simp only [xq] at hb; subst hb
  refine elEA (t.1) fun o ho _=>?_; exact ⟨o,ho⟩
 ·simp only [z0,jz,or_false] at hb
  rcases hb with rfl|rfl
  ·left; simp
  ·right; rw [hF]; exact fun x=>nomatch x
 ·(refine elEA (hv) fun e he e_2=>?_; subst e_2)
  exact Rep.mono l _ (r.key hdd (by rw [wj]; exact he))
 ·simp only [xq] at hb; subst hb
  exact zz7 _
open PySem Mini PySem.W PyProof.Rows PySem.SeqAt
theorem yu8 {d:D} (h:xj7 d=true):∃ i,d=.int i:=by
 cases d<;>first|exact (qj h).elim|exact ⟨_,rfl⟩
theorem xo7 {d:D} {f:D->Bool} (hf:∀ d,(∀ l,d≠.tuple l)->f d=false) (h0:f (.tuple [])=false) (h:f d=true):∃ x l,d=.tuple (x::l):=by
 by_cases q:∃ l,d=.tuple l
 ·obtain ⟨l,rfl⟩:=q
  cases l with
  | nil=>rw [h0] at h; exact (qj h).elim
  | cons x l=>exact ⟨x,l,rfl⟩
 ·rw [hf d fun l e=>q ⟨l,e⟩] at h; exact (qj h).elim
theorem zh7 {d:D} (h:yz5 d=true):∃ s l,d=.tuple (.str s::l):=by
 refine elEE (xo7 (f:=yz5) (fun d q=>by cases d<;>first|rfl|exact absurd rfl (q _)) rfl h) fun x l e=>?_
 subst e
 cases x<;>first|exact (qj h).elim|exact ⟨_,_,rfl⟩
theorem yr5 {d:D} (h:yk2 d=true):∃ s l,d=.tuple (.tuple s::l):=by
 refine elEE (xo7 (f:=yk2) (fun d q=>by cases d<;>first|rfl|exact absurd rfl (q _)) rfl h) fun x l e=>?_
 subst e
 cases x<;>first|exact (qj h).elim|exact ⟨_,_,rfl⟩
section
variable {prog:vw} {w:wy} {A:xx} {E:qq->qv->Prop} {s:qv} {F:Fz}
theorem yg2 {b:Bool} {Q:Bool->qv->Prop} (hin:F.In s.heap):∀ (xs ys:List D) (vs us:List qq) (i:Nat) (c:Bool),RepL w F xs vs->RepL w F ys us->wQ xs=true->wQ ys=true ->
  A.units+vz xs<cLine->(i=0->b=true->∀ x y xs' ys',xs=x::xs'->ys=y::ys'->∃ p q,x=.str p/\y=.str q)->ltL xs ys=some c->Q c s ->
  KatLex prog w A b (decide (xs.length<ys.length)) Q (vs.zip us) i s
 | [],ys,vs,us,i,c,rx,ry,_,_,_,_,h,q=>by
  simp only [zp3] at rx; subst rx
  rw [List.zip_nil_left]
  refine kat_nil ?_
  cases ys with
  | nil=>simp only [ltL] at h; cases h; exact q
  | cons y ys=>simp only [ltL] at h; cases h; simpa using q
 | x::xs,[],vs,us,i,c,rx,ry,_,_,_,_,h,q=>by
  simp only [zp3] at ry; subst ry
  rw [List.zip_nil_right]
  refine kat_nil ?_
  simp only [ltL] at h; cases h; simpa using q
 | x::xs,y::ys,vs,us,i,c,rx,ry,hx,hy,hu,hb,h,q=>by
  simp only [zu5] at rx ry
  (refine elEEAA (rx) fun v vt e_2 r1 r2=>?_; subst e_2)
  (refine elEEAA (ry) fun u ut e_2 r3 r4=>?_; subst e_2)
  simp only [wQ,zj] at hx hy
  simp only [vz] at hu
  obtain ⟨as,rd1⟩:=Rep.reads hin x r1
  obtain ⟨bs,rd2⟩:=Rep.reads hin y r3
  rw [y9]
  have hd:decide ((x::xs).length<(y::ys).length)=decide (xs.length<ys.length):=by simp
  rw [hd]
  refine kat_cons (eqAt_reads x y A s v u as bs rd1 rd2 hx.1 hy.1 (z7 (qZ (qw (k8 ..) (Nat.le_max_left ..)) _) hu) prog w _ _ ?_)
  simp only [ltL] at h
  by_cases e:qX x y=true
  ·rw [e]
   rw [if_pos e] at h
   refine kat_yes (yg2 hin xs ys vt ut (i+1) c r2 r4 hx.2 hy.2 (z7 (qZ (Qw ..) _) hu) (fun h0=>by bv_omega) h q)
  ·have e':qX x y=false:=by simpa using e
   rw [e']
   rw [if_neg e] at h
   refine kat_no ?_
   by_cases hbi:(b&&i==0)=true
   ·rw [hbi]
    simp only [zj,beq_iff_eq] at hbi
    (refine elEEA (hb hbi.2 hbi.1 _ _ _ _ rfl rfl) fun p p' e_2 e_3=>?_; subst e_2; subst e_3)
    simp only [zf4] at r1 r3
    obtain ⟨t1,rfl⟩:=r1
    obtain ⟨t2,rfl⟩:=r3
    simp only [zd0,yu5,za5] at h; cases h
    exact oneLt_str q
   ·have hbi':(b&&i==0)=false:=by simpa using hbi
    rw [hbi']
    refine kat_one v u ?_
    exact yq3 h rd1 rd2 hx.1 hy.1 (z7 (qZ (qw (k8 ..) (Nat.le_max_left ..)) _) hu) _ _ _ _ q
theorem yi5 {l:List D} (h:okd (.tuple l)=true):wQ l=true/\vz l<=1000:=by
 have:=zy9 h
 simp only [vQ,PyData.depth] at this
 exact ⟨this.1,by bv_omega⟩
structure Kinded (prog:vw) (w:wy) (A:xx) (F:Fz) (ds:List D) (vs:List qq) (s:qv) (κ:SortKind):Prop where
 kind:∀ (E:qq->qv->Prop) (Q:SortKind->qv->Prop),Q κ s->zx (zQ prog w) A (keyKind' vs.toArray) Q E s
 ask:∀ i j,i<ds.length->j<ds.length->∀ C:Bool->qv->Prop,C (decide (zi2 ds (ds.getD i .none)<zi2 ds (ds.getD j .none))) s->kas_ask prog w A κ vs i j C s
theorem RepL.getD_ {ds:List D} {vs:List qq} (r:RepL w F ds vs) {i:Nat} (hi:i<ds.length):Rep w F (ds.getD i .none) (vs.getD i .none):=by
 refine elEA (r.get (qJ hi)) fun v hv rv=>?_
 rw [uw,uw,hv,qJ hi]
 exact rv
theorem zg7 {ds:List D} {i:Nat} (hi:i<ds.length):ds.getD i .none∈ds:=by
 rw [uw,qJ hi]; exact jZ hi
theorem ye7 {f:D->Bool} {T:qq} (hin:F.In s.heap) (hT2:(T==T)=true) (hf:∀ d v,f d=true->Rep w F d v->∃ a o xs n u,v=.ref a/\s.heap.get? a=some o/\o.cls=.type "tuple" /\ o.data=.seq xs n/\xs[0]?=some u/\Looks (zQ prog w) s.heap (typeOf u) T) :
  ∀ {ds:List D} {vs:List qq},RepL w F ds vs->ds.all f=true->∃ fs,KatTups s.heap vs fs/\fs.length=vs.length/\∀ u∈fs,Looks (zQ prog w) s.heap (typeOf u) T
 | [],vs,r,_=>by simp only [zp3] at r; subst r; exact ⟨[],.nil,rfl,by simp⟩
 | d::ds,vs,r,h=>by
  simp only [zu5] at r
  (refine elEEAA (r) fun v t e_2 r1 r2=>?_; subst e_2)
  simp only [List.all_cons,zj] at h
  refine elEAA (ye7 hin hT2 hf r2 h.2) fun fs k hl hL=>?_
  (refine elEEEEEAAAAA (hf d v h.1 r1) fun a o xs n u e_5 h1 h2 h3 h4 h5=>?_; subst e_5)
  refine ⟨u::fs,KatTups.cons h1 h2 h3 h4 k,by simp [hl],fun y hy=>?_⟩
  rcases z0.mp hy with rfl|hy
  ·exact h5
  ·exact hL y hy
theorem yo3 {ds:List D} {vs:List qq} {b:Bool} (hin:F.In s.heap) (r:RepL w F ds vs) (hs:Mini.sortable ds=true) (hu:A.units+1500<cLine)
  (hb:b=true->ds.all yz5=true) (ht:∀ d∈ds,∃ l,d=.tuple l):∀ i j,i<ds.length->j<ds.length->∀ C:Bool->qv->Prop,C (decide (zi2 ds (ds.getD i .none)<zi2 ds (ds.getD j .none))) s->kas_ask prog w A (tuples' b) vs i j C s:=by
 intro i j hi hj C hC
 have hc:=zn5 hs
 have mi:=zg7 hi
 have mj:=zg7 hj
 have r1:=r.getD_ hi
 have r2:=r.getD_ hj
 have hlt:=yc5 hc mi mj
 unfold Mini.sortable at hs
 simp only [zj,xJ] at hs
 have o1:=hs.1.1.1 _ mi
 have o2:=hs.1.1.1 _ mj
 have hb1:b=true->yz5 (ds.getD i .none)=true:=fun q=>xJ.mp (hb q) _ mi
 have hb2:b=true->yz5 (ds.getD j .none)=true:=fun q=>xJ.mp (hb q) _ mj
 obtain ⟨l1,e1⟩:=ht _ mi
 obtain ⟨l2,e2⟩:=ht _ mj
 unfold kas_ask
 generalize ds.getD i .none=d1 at *
 generalize ds.getD j .none=d2 at *
 subst e1 e2
 simp only [zp0] at r1 r2
 refine elAEEEAA (r1) fun _ a1 xs n1 h1 k1 q1=>?_
 refine elAEEEAA (r2) fun _ a2 ys n2 h2 k2 q2=>?_
 rw [h1,h2]
 simp only [zd0,yu5,za5] at hlt
 have c1:=yi5 o1
 have c2:=yi5 o2
 refine kat_lt (hin _ _ k1) rfl (hin _ _ k2) rfl ?_
 have e1:=q1.length
 have e2:=q2.length
 simp at e1 e2
 rw [e1,e2]
 refine yg2 hin l1 l2 _ _ 0 _ q1 q2 c1.1 c2.1 (z7 (qZ (qw c1.2 (by decide)) _) hu) (fun _ hbt x y xs' ys' ex ey=>?_) hlt hC
 subst ex ey
 have t1:=hb1 hbt
 have t2:=hb2 hbt
 refine elEE (zh7 t1) fun p _ e1=>elEE (zh7 t2) fun q _ e2=>?_
 cases e1; cases e2
 exact ⟨_,_,rfl,rfl⟩
theorem xb4 {ds:List D} {vs:List qq} (r:RepL w F ds vs) (h:ds.all xj7=true):∃ ns,IntsAre vs ns:=by
 induction ds generalizing vs with
 | nil=>simp only [zp3] at r; subst r; exact ⟨[],.nil⟩
 | cons d ds ih =>
  simp only [zu5] at r
  (refine elEEAA (r) fun v t e_2 r1 r2=>?_; subst e_2)
  simp only [List.all_cons,zj] at h
  obtain ⟨ns,q⟩:=ih r2 h.2
  obtain ⟨_,rfl⟩:=yu8 h.1
  simp only [zn1] at r1
  obtain ⟨u,rfl⟩:=r1
  exact ⟨_::ns,.cons _ _ q⟩
theorem kinded {ds:List D} {vs:List qq} (hin:F.In s.heap) (r:RepL w F ds vs) (hs:Mini.sortable ds=true) (h2:2<=ds.length) (hu:A.units+1500<cLine):∃ κ,Kinded prog w A F ds vs s κ:=by
 have hs':=hs
 have hc:=zn5 hs
 have hlen:=r.length
 unfold Mini.sortable at hs
 simp only [zj,Q0] at hs
 rcases hs.1.2 with (hi|ht)|ht
 ·obtain ⟨ns,hI⟩:=xb4 r hi
  refine ⟨oneType',fun E Q q=>?_,fun i j hi' hj' C hC=>?_⟩
  ·obtain ⟨v₁,v₂,rest,rfl⟩:∃ v₁ v₂ rest,vs=v₁::v₂::rest:=by
    match vs,hlen with
    | [],e=>simp at e; bv_omega
    | [_],e=>simp at e; bv_omega
    | v₁::v₂::rest,_=>exact ⟨v₁,v₂,rest,rfl⟩
   exact wpAny_of_eq (keyKind_ints hI) q
  ·have mi:=zg7 hi'
   have mj:=zg7 hj'
   have r1:=r.getD_ hi'
   have r2:=r.getD_ hj'
   have hlt:=yc5 hc mi mj
   have i1:=xJ.mp hi _ mi
   have i2:=xJ.mp hi _ mj
   unfold kas_ask
   rw [keyLt'_oneType]
   generalize ds.getD i .none=d1 at *
   generalize ds.getD j .none=d2 at *
   obtain ⟨_,rfl⟩:=yu8 i1
   obtain ⟨_,rfl⟩:=yu8 i2
   simp only [zn1] at r1 r2
   obtain ⟨t1,h1⟩:=r1
   obtain ⟨t2,h2⟩:=r2
   rw [h1,h2]
   simp only [zd0,yu5,za5,uz] at hlt
   rw [<- hlt] at hC
   exact oneLt_int hC
 ·obtain ⟨fs,k,hl,hL⟩:=ye7 (prog:=prog) (f:=yz5) (T:=qq.type "str") hin (by rfl) (fun d v hd rv=>by
    refine elEE (zh7 hd) fun ss l e=>?_
    subst e
    simp only [zf4,zp0,zu5] at rv
    (refine elAEEEAAEEAA (rv) fun _ a xs n e_4 k1 u t hx ru _=>?_; subst e_4)
    obtain ⟨tt,rfl⟩:=ru
    refine ⟨a,_,xs,n,.str ss tt,rfl,hin _ _ k1,rfl,rfl,?_,Looks.of_pure rfl⟩
    rw [<- wj,hx]; rfl) r ht
  refine ⟨tuples' (qq.type "str" != qq.type "tuple"),fun E Q q=>kat_kind k (by bv_omega) hL (by rfl) q,yo3 hin r hs' hu (fun _=>ht) fun d hd=>?_⟩
  have:=xJ.mp ht d hd
  exact elEE (zh7 this) fun _ _ e=>⟨_,e⟩
 ·obtain ⟨fs,k,hl,hL⟩:=ye7 (prog:=prog) (f:=yk2) (T:=qq.type "tuple") hin (by rfl) (fun d v hd rv=>by
    refine elEE (yr5 hd) fun ss l e=>?_
    subst e
    simp only [zp0,zu5] at rv
    (refine elAEEEAAEEAA (rv) fun _ a xs n e_4 k1 u t hx ru _=>?_; subst e_4)
    (refine elAEEEAA (ru) fun _ a2 xs2 n2 e_4 k2 _=>?_; subst e_4)
    refine ⟨a,_,xs,n,_,rfl,hin _ _ k1,rfl,rfl,?_,show Looks (zQ prog w) s.heap (typeOf (.ref a2)) (tobj xs2 n2).cls from (Looks.ld (hin _ _ k2)).andThen .now⟩
    rw [<- wj,hx]; rfl) r ht
  refine ⟨tuples' (qq.type "tuple" != qq.type "tuple"),fun E Q q=>kat_kind k (by bv_omega) hL (by rfl) q,yo3 hin r hs' hu (fun q=>?_) fun d hd=>?_⟩
  ·exact absurd q (by decide)
  ·have:=xJ.mp ht d hd
   exact elEE (yr5 this) fun _ _ e=>⟨_,e⟩
end
variable {a b c i j k l m n p q r u x z h sa na nb off:Nat}
theorem t1 (h:a<b) (g:b<=c):a<c:=jQ h g
theorem t2 (h:a<=b) (g:b<c):a<c:=z7 h g
theorem bl (h:a<n) (g:b+n<=z):b+a<z:=t1 (yZ h b) g
theorem hf1 (h:¬l >= u):l+(u - l) / 2<u:=vK (Nat.div_lt_self (Z0 (yz h)) Nat.one_lt_two)
theorem hf2 (q:u - l<=n - x):u - (l+(u - l) / 2+1)<=n - (x+1):=by
 rw [x9,Nat.sub_add_eq,Nat.sub_add_eq n x 1]
 exact qw (Nat.sub_le_sub_left (w7 1 _) _) (Nat.sub_le_sub_right q 1)
theorem hf3 (h:¬l >= u) (q:u - l<=n - x):l+(u - l) / 2 - l<=n - (x+1):=by
 rw [yk,Nat.sub_add_eq n x 1]
 exact qw (ww (Nat.div_lt_self (Z0 (yz h)) Nat.one_lt_two)) (Nat.sub_le_sub_right q 1)
theorem hge (h:l<=r):(l+r) / 2=l+(r - l) / 2:=by
 have e:l+r=(r - l)+l*2:=by rw [Nat.mul_two,<- x9,w8 h,wk]
 rw [e,Nat.add_mul_div_right _ _ Nat.two_pos,wk]
theorem hg0 (h:¬l >= r):l<=(l+r) / 2:=by rw [hge (zq (yz h))]; exact qQ _ _
theorem hg1 (h:¬l >= r):(l+r) / 2<r:=by rw [hge (zq (yz h))]; exact hf1 h
theorem hg2 (h:¬l >= r) (q:r - l<=n - x):r - ((l+r) / 2+1)<=n - (x+1):=by rw [hge (zq (yz h))]; exact hf2 q
theorem hg3 (h:¬l >= r) (q:r - l<=n - x):(l+r) / 2 - l<=n - (x+1):=by rw [hge (zq (yz h))]; exact hf3 h q
theorem hfz (g:l<=u) (q:u - l<=n - max 0 n):l=u:=by
 rw [Nat.zero_max,Nat.sub_self] at q
 exact k9 g (Nat.le_of_sub_eq_zero (Nat.le_zero.mp q))
theorem hfc {P:Prop} (q:max 0 n+1<=u) (g:u<=n):P:=absurd (t1 q g) (Qk.mpr (Qw 0 n))
theorem gm1 (g:l<u) (q:l<n - h):h+l+1<=h+min u (n - h):=qZ (Nat.le_min.mpr ⟨g,q⟩) h
theorem gm2 (g:h<n):h+min u (n - h)<=n:=qw (qZ (Z7 ..) h) (zX (wX (zq g)))
theorem gm3 (g:h<n) (hi:h+min u (n - h)<=i) (hin:i<n):u<n - h:=yz fun f=>by
 rw [Nat.min_eq_right f,wX (zq g)] at hi; exact absurd hin (Qk.mpr hi)
theorem gm4 (hi:h+min u (n - h)<=i) (g:u<n - h):h+u<=i:=by rwa [vX (zq g)] at hi
theorem gm5 (g:l<u) (q:l<=h):h+1 - min u (h+1)<=h - l:=qw (Nat.sub_le_sub_left (Nat.le_min.mpr ⟨g,zJ q⟩) _) (zX (Nat.add_sub_add_right h 1 l))
theorem gm6 (hi:i<h+1 - min u (h+1)):u<=h:=zk fun g=>by rw [Nat.min_eq_right g,Nat.sub_self] at hi; exact Nat.not_lt_zero _ hi
theorem gm7 (hi:i<h+1 - min u (h+1)):i<=h - u:=by
 have g:=gm6 hi
 rw [vX (yv g),Nat.sub_add_comm g] at hi
 exact yj hi
theorem gs (g:¬u >= n - h):h+u<n:=vK (yz g)
theorem mi1 (g:k<j):i<=i+j - 1 - k:=Nat.le_sub_of_add_le (ww (yZ g i))
theorem mi2 (g:i<=k) (f:k<j):i+j - 1 - k<j:=Nat.sub_lt_left_of_lt_add (ww (t1 f (w7 j i)))
 (t1 (Nat.sub_lt (t1 (Nat.zero_lt_of_lt f) (w7 j i)) Nat.one_pos) (xv g j))
theorem p1 (h:1<=n):a+n - 1<a+n:=Nat.sub_lt (t1 h (w7 n a)) Nat.one_pos
theorem p2 (g:k<=n) (f:¬k=n):k<=n - 1:=ww (j7 g f)
theorem p3 (g:a<=i) (f:i<a+n):i - a<n:=Nat.sub_lt_left_of_lt_add g f
theorem p4 (g:a+k<=i) (f:i<a+n):i - a<n:=p3 (qw (qQ ..) g) f
theorem p5 (g:a+k<=j):k<=j - a:=Nat.le_sub_of_add_le' g
theorem p6 (g:a+k<=j):a+(j - a)=j:=wX (qw (qQ ..) g)
theorem p7 (g:a+b+c<=z):a+b<=z:=qw (qQ ..) g
theorem p8:n<=n+a+b:=qw (qQ ..) (qQ ..)
theorem p9 (h:1<=n):n - 1<n:=Nat.sub_lt h Nat.one_pos
theorem ls1 (g:l<a+(n+1)) (e:¬l=a+n):l<a+n:=j7 (yj g) e
theorem ls2 (g:a+(n+1) - (0+1)<=i) (f:i<a+(n+1)):i=a+(n+1) - 1:=k9 (yj f) g
theorem ls3 (g:q+1<=m):a<=a+m - (q+1):=Nat.le_sub_of_add_le (qZ g a)
theorem lg1 (g:¬k<off+n) (f:k<z):k - off - n<min z z - (off+n):=by rw [Nat.min_self,Nat.sub_sub]; exact Nat.sub_lt_sub_right (zk g) f
theorem lg2 (g:¬k<off+n):off+n+(k - off - n)=k:=by rw [Nat.sub_sub]; exact wX (zk g)
theorem lg3 (g:¬k<off+n) (f:¬k<z):z<=k - off - n+(off+n):=by rw [Nat.sub_sub,w8 (zk g)]; exact zk f
theorem lg4 (g:k<off) (f:off+n<=z):k<min off z - 0:=Nat.lt_min.mpr ⟨g,t1 (t1 g (qQ ..)) f⟩
theorem lg5 (g:i+k<j) (f:j<=z):k<min j z - i:=by rw [vX f]; exact Nat.lt_sub_of_add_lt (wk i k▸g)
theorem lg6 (g:k<min j z - i):i+k<j:=t1 (vK g) (k8 ..)
theorem lg7 (g:k<min j z - i):i+k<z:=t1 (vK g) (Z7 ..)
theorem ma2 (g:k<=na):sa+k+(na - k) - 1=sa+na - 1:=by rw [x9,wX g]
theorem ma1 (g:k<=na) (f:1<=na) (e:sa+na+nb<=z):sa+k+(na - k) - 1<z:=by rw [ma2 g]; exact t1 (p1 f) (p7 e)
theorem ma3 (e:sa+na+nb<=z):min (sa+na) z - (sa+k)=na - k:=by rw [vX (p7 e),Nat.add_sub_add_left]
theorem ma4 (e:sa+na+nb<=z) (g:m<=nb):min (sa+na+m) z - (sa+na)=m:=by rw [vX (qw (qZ g _) e),yk]
theorem ma5 (e:x=na - k) (g:j<x):sa+k+j<sa+na:=by rw [x9]; exact yZ (vK (e▸g)) sa
theorem ma6 (e:x=na - k) (g:k<=na) (f:na - k≠0):sa+k+(x - 1)=sa+na - 1:=by
 rw [e,<- Nat.add_sub_assoc (Nat.pos_of_ne_zero f),x9,wX g]
theorem ma7 (e:x=na - k+m) (g:k<=na):sa+k+x=sa+na+m:=by rw [e,x9,<- x9 k,wX g,x9]
theorem w1:∀ {n:Nat},¬n<=1->n - 2+1<n
 | 0,h=>absurd (wx 1) h
 | 1,h=>absurd (zW 1) h
 | n+2,_=>Qx (n+1)
theorem w2 (h:¬n<=1):n - 2 - 1+1<n:=t2 (zJ (uy ..)) (w1 h)
theorem ma8 (e:sa+k+x=b) (g:p<sa+k\/b<=p):¬(sa+k<=p/\p<sa+k+x):=fun w=>g.elim (fun f=>absurd w.1 (Nat.not_le.mpr f)) fun f=>absurd (e▸w.2) (Qk.mpr f)
theorem nbe {a b:Nat} (h:¬(a==b)=true):a≠b:=fun e=>h (beq_iff_eq.mpr e)
theorem cz {P:Prop} (h1:a+1<m) (h2:b<n) (h3:max 0 (m+n)<=a+b):P:=absurd (t1 (Nat.add_lt_add (jK h1) h2) (Qw 0 _)) (Qk.mpr h3)
theorem cy {P:Prop} (h1:1<=a) (h3:a+b+(n+max 0 z)<=z):P:=absurd h3 (Nat.not_le.mpr (t2 (qw (Qw 0 z) (w7 _ n)) (Nat.lt_add_of_pos_left (t1 h1 (qQ ..)))))
theorem cy2 {P:Prop} (h1:1<=a) (h3:a+b+(max 0 z+1)<=z):P:=cy (n:=1) h1 (by rw [wk 1]; exact h3)
theorem q2 (h:2<=n) (e:¬(n - 1==1)=true):2<=n - 1:=j7 (ww h) fun x=>nbe e x.symm
theorem q3 (e:¬(k==1)=true) (f:¬(k==0)=true):2<=k:=j7 (Nat.pos_of_ne_zero (nbe f)) (nbe e).symm
theorem eo (h:i<z):min (i+1) z - i=1:=by rw [vX (show i+1<=z from h)]; exact yk ..
theorem sz0 (h:¬n - k > 0):n<=k:=Nat.le_of_sub_eq_zero (Nat.le_zero.mp (zk h))
theorem ul1 (g:1+a<=b) (h:n+b<z):n+1+a<z:=by rw [x9]; exact t2 (qZ g n) h
theorem ul2 (g:2+a<=b) (h:n+b<z):n+1+1+a<z:=by rw [x9 n 1 1,x9]; exact t2 (qZ g n) h
theorem ul0 (h:n+k+b<z) (g:a<=b):n+a<z:=t2 (Z5 (qQ ..) g) h
theorem hi0 (h:1<=m):m - 1+n+(0+1)<=m+n:=zX (by rw [u8,Qy,w8 h])
theorem hdA (h:1<=a) (g:a+b+m<=z):a - 1+b+(m+1)<=z:=by
 rw [<- Nat.sub_add_comm h,wk m 1,<- x9,w8 (qw h (qQ ..))]; exact g
theorem hdC (h:1<=b) (g:a+b+m<=z):a+(b - 1)+(m+1)<=z:=by
 rw [<- Nat.add_sub_assoc h,wk m 1,<- x9,w8 (qw h (w7 ..))]; exact g
theorem jl1 (h:i+1=z) (g:i<=j) (f:j<z):j=z - 1:=k9 (ww f) (by rw [<- h]; exact g)
theorem bub {f:Nat->Nat} {X:Nat} (hs:∀ i j,a<=i->i<=j->j<q->f i<=f j) (h1:∀ i,a<=i->i<p->f i<=X) (h2:∀ i,p<=i->i<q->X<=f i) (hp:a<=p) (hpq:p<=q) (hi:a<=i) (hij:i<=j) (hj:j<q+1) :
  (if i=p then X else if p<i/\i<=q then f (i - 1) else f i)<=if j=p then X else if p<j/\j<=q then f (j - 1) else f j:=by
 have jq:j<=q:=yj hj
 have lo:∀ k,k<p->(if k=p then X else if p<k/\k<=q then f (k - 1) else f k)=f k:=fun k g=>by rw [if_neg (jV g),if_neg fun e=>absurd e.1 (Nat.lt_asymm g)]
 have up:∀ k,p<k->k<=q->(if k=p then X else if p<k/\k<=q then f (k - 1) else f k)=f (k - 1):=fun k g e=>by rw [if_neg (u9 g),if_pos ⟨g,e⟩]
 have jl:p<j->j - 1<q:=fun g=>t1 (p9 (Nat.zero_lt_of_lt g)) jq
 rcases Nat.lt_trichotomy i p with g|g|g
 ·rw [lo i g]
  rcases Nat.lt_trichotomy j p with e|e|e
  ·rw [lo j e]
   exact hs i j hi hij (t1 e hpq)
  ·rw [if_pos e]; exact h1 i hi g
  ·rw [up j e jq]; exact hs i _ hi (ww (Q5 g e)) (jl e)
 ·rw [if_pos g]
  rcases Nat.lt_or_eq_of_le (g▸hij:p<=j) with e|e
  ·rw [up j e jq]; exact h2 _ (ww e) (jl e)
  ·rw [if_pos e.symm]; exact zW _
 ·rw [up i g (qw hij jq),up j (t1 g hij) jq]
  exact hs _ _ (qw hp (ww g)) (Nat.sub_le_sub_right hij 1) (jl (t1 g hij))
end Snd
end
section
namespace Snd
open PySem PyProof.Rows
section
variable {σ:Type} {M:Model} {A:xx} {E:qq->qv->Prop} {s:qv}
theorem zw5 {β:Type} {a b:Nat} {f:Nat->β->StateT σ Sem (ForInStep β)} (I:Nat->β->σ->Prop) {Q:β->σ->Prop}
  (hstep:∀ g,g=f->∀ i c st,a<=i->i<b->I i c st->wpS M A E s (g i c) (fun r st'=>match r with|.done c'=>Q c' st'|.yield c'=>I (i+1) c' st') st)
  (hend:∀ c st,I (max a b) c st->Q c st) {c:β} {st:σ} (h:I a c st):wpS M A E s (forIn [a:b] c f) Q st:=wpS_forRange I (hstep f rfl) hend h
theorem zw2 {α β:Type} {m:StateT σ Sem α} {f:α->StateT σ Sem β} {Q:β->σ->Prop} {st:σ}
  (h:∀ g,g=f->wpS M A E s m (fun a st'=>wpS M A E s (g a) Q st') st):wpS M A E s (m >>= f) Q st:=zZ (h f rfl)
end
section
variable {σ α:Type} {M:Model} {A:xx} {E:qq->qv->Prop} {s:qv} {m m':StateT σ Sem α} {Q:α->σ->Prop} {st:σ} {c:Prop} [Decidable c]
set_option tactic.hygienic true in
theorem zz6 (h1:c->wpS M A E s m Q st) (h2:¬c->wpS M A E s m' Q st):wpS M A E s (if c then m else m') Q st:=by
 split
 ·rename_i h; exact h1 h
 ·rename_i h; exact h2 h
end
noncomputable def zr4:Bool->qK->Array qK->Nat->Nat->Nat->StateT x8 Sem (Option Nat):=sortPriv% PySem.Builtin.gallop
noncomputable def bey' (left:Bool) (key:qK) (arr:Array qK) (i:Nat):StateT x8 Sem (Option Bool):=do
 let x <- y6 arr i
 if left then lt' x key else return (<- lt' key x).map (!·)
noncomputable def yv0 (left:Bool) (key:qK) (arr:Array qK) (base n lo hi:Nat):StateT x8 Sem (Option Nat):=do
 let mut lo:=lo
 let mut hi:=hi
 for _ in [0:n] do
  if lo >= hi then break
  let m:=lo+(hi - lo) / 2
  let some more <- bey' left key arr (base+m)|return none
  if more then lo:=m+1 else hi:=m
 return some hi
noncomputable abbrev wz9:=Option (Option Nat)×Nat×Nat
noncomputable def galR (left:Bool) (key:qK) (arr:Array qK) (base n hint:Nat):StateT x8 Sem wz9 :=
 forIn [0:n] ((none,0,1):wz9) fun _ c =>
  if c.snd.snd >= n - hint then pure (vV (none,c.snd.fst,c.snd.snd))
  else do
   let x <- bey' left key arr (base+(hint+c.snd.snd))
   match x with
   | some more=>if (!more)=true then pure (vV (none,c.snd.fst,c.snd.snd)) else pure (wZ (none,c.snd.snd,2*c.snd.snd+1))
   | _=>pure (vV (some none,c.snd.fst,c.snd.snd))
noncomputable def galL (left:Bool) (key:qK) (arr:Array qK) (base n hint:Nat):StateT x8 Sem wz9 :=
 forIn [0:n] ((none,0,1):wz9) fun _ c =>
  if c.snd.snd >= hint+1 then pure (vV (none,c.snd.fst,c.snd.snd))
  else do
   let x <- bey' left key arr (base+(hint - c.snd.snd))
   match x with
   | some found=>if found=true then pure (vV (none,c.snd.fst,c.snd.snd)) else pure (wZ (none,c.snd.snd,2*c.snd.snd+1))
   | _=>pure (vV (some none,c.snd.fst,c.snd.snd))
theorem xq9 (left:Bool) (key:qK) (arr:Array qK) (base n hint:Nat):zr4 left key arr base n hint=(do
 let mut lastofs:=0
 let mut ofs:=1
 let mut lo:=0
 let mut hi:=0
 let some right <- bey' left key arr (base+hint)|return none
 if right then
  let maxofs:=n - hint
  for _ in [0:n] do
   if ofs >= maxofs then break
   let some more <- bey' left key arr (base+(hint+ofs))|return none
   if !more then break
   lastofs:=ofs
   ofs:=2*ofs+1
  lo:=hint+lastofs+1
  hi:=hint+min ofs maxofs
 else
  let maxofs:=hint+1
  for _ in [0:n] do
   if ofs >= maxofs then break
   let some found <- bey' left key arr (base+(hint - ofs))|return none
   if found then break
   lastofs:=ofs
   ofs:=2*ofs+1
  lo:=hint+1 - min ofs maxofs
  hi:=hint - lastofs
 for _ in [0:n] do
  if lo >= hi then break
  let m:=lo+(hi - lo) / 2
  let some more <- bey' left key arr (base+m)|return none
  if more then lo:=m+1 else hi:=m
 return some hi):=rfl
theorem xp0 (left:Bool) (key:qK) (arr:Array qK) (base n hint:Nat):zr4 left key arr base n hint=(do
 let x <- bey' left key arr (base+hint)
 match x with
 | some right =>
  if right=true then do
   let c <- galR left key arr base n hint
   match c.fst with
   | some r=>pure r
   | none=>yv0 left key arr base n (hint+c.snd.fst+1) (hint+min c.snd.snd (n - hint))
  else do
   let c <- galL left key arr base n hint
   match c.fst with
   | some r=>pure r
   | none=>yv0 left key arr base n (hint+1 - min c.snd.snd (hint+1)) (hint - c.snd.fst)
 | _=>pure none):=by
 rw [xq9]
 unfold galR galL yv0
 dsimp only
 congr 1
 funext x
 cases x with
 | none=>rfl
 | some r =>
  cases r with
  | true =>
   dsimp only
   rw [if_pos rfl,if_pos rfl]
   congr 1
   funext c
   obtain ⟨r,l,u⟩:=c
   cases r<;>rfl
  | false =>
   dsimp only
   rw [if_neg qj,if_neg qj]
   congr 1
   funext c
   obtain ⟨r,l,u⟩:=c
   cases r<;>rfl
section
variable {prog:vw} {w:wy} {A:xx} {E:qq->qv->Prop} {s:qv} {κ:SortKind} {T:qK->Prop} {rk:qK->Nat}
noncomputable def Asks (prog:vw) (w:wy) (A:xx) (s:qv) (κ:SortKind) (T:qK->Prop) (rk:qK->Nat):Prop :=
 ∀ x y,T x->T y->∀ Q:Bool->qv->Prop,Q (decide (rk x<rk y)) s->zx (zQ prog w) A (keyLt' κ x.1 y.1) Q (fun _ _=>False) s
theorem yl8 (ha:Asks prog w A s κ T rk) {st:x8} (hk:kindOf st=κ) {x y:qK} (tx:T x) (ty:T y) {Q:Option Bool->x8->Prop} (h:Q (some (decide (rk x<rk y))) st):wpS (zQ prog w) A E s (lt' x y) Q st:=by
 rw [lt'_eq]
 refine zZ (wpS_get ?_)
 rw [hk]
 refine zZ (wpS_lift (wpAny_attempt (k5 (ha x y tx ty (fun b s'=>s'=s/\b=decide (rk x<rk y)) ⟨rfl,rfl⟩) (fun b s' q=>⟨q.1,?_⟩) fun _ _ q=>q.elim)))
 rw [q.2]
 exact zK h
theorem zy1 {arr:Array qK} {i:Nat} {x:qK} {st:x8} (hi:arr[i]?=some x) {Q:qK->x8->Prop} (h:Q x st):wpS (zQ prog w) A E s (y6 arr i) Q st:=by
 rw [elem'_eq,hi]; exact zK h
noncomputable def Rk (rk:qK->Nat) (arr:Array qK) (i:Nat):Nat:=rk (arr.getD i (wz,wz))
theorem zy3 {arr:Array qK} {i:Nat} (h:i<arr.size):arr[i]?=some (arr.getD i (wz,wz)):=by
 rw [w3,xZ h]; rfl
noncomputable def Bey (rk:qK->Nat) (left:Bool) (key:qK) (arr:Array qK) (i:Nat):Bool:=if left then decide (Rk rk arr i<rk key) else !decide (rk key<Rk rk arr i)
theorem yo5 (ha:Asks prog w A s κ T rk) {left:Bool} {key:qK} {arr:Array qK} {st:x8} (hk:kindOf st=κ) (tk:T key) {i:Nat} (hi:i<arr.size) (ti:T (arr.getD i (wz,wz))) {Q:Option Bool->x8->Prop} (h:Q (some (Bey rk left key arr i)) st) :
  wpS (zQ prog w) A E s (bey' left key arr i) Q st:=by
 refine zZ (zy1 (zy3 hi) ?_)
 unfold Bey Rk at h
 cases left
 ·exact zZ (yl8 ha hk tk ti (zK h))
 ·exact yl8 ha hk ti tk h
theorem yr3 (ha:Asks prog w A s κ T rk) {left:Bool} {key:qK} {arr:Array qK} {st:x8} (hk:kindOf st=κ) (tk:T key) {base n lo hi:Nat} (hn:base+n<=arr.size)
  (ht:∀ i,i<n->T (arr.getD (base+i) (wz,wz))) (mono:∀ i j,i<=j->j<n->Bey rk left key arr (base+j)=true->Bey rk left key arr (base+i)=true)
  (h1:lo<=hi) (h2:hi<=n) (hl:∀ i,i<lo->Bey rk left key arr (base+i)=true) (hg:∀ i,hi<=i->i<n->Bey rk left key arr (base+i)=false) {Q:Option Nat->x8->Prop}
  (h:∀ k,k<=n->(∀ i,i<k->Bey rk left key arr (base+i)=true)->(∀ i,k<=i->i<n->Bey rk left key arr (base+i)=false)->Q (some k) st) :
  wpS (zQ prog w) A E s (yv0 left key arr base n lo hi) Q st:=by
 unfold yv0
 dsimp only
 refine zw2 fun gg hgg=>?_
 refine jW (zw5 (I:=fun x c st'=>st'=st/\c.1=none/\c.2.1<=c.2.2/\c.2.2<=n/\c.2.2 - c.2.1<=n - x/\(∀ i,i<c.2.1->Bey rk left key arr (base+i)=true)/\∀ i,c.2.2<=i->i<n->Bey rk left key arr (base+i)=false)
  (Q:=fun c st'=>st'=st/\c.1=none/\c.2.2<=n/\(∀ i,i<c.2.2->Bey rk left key arr (base+i)=true)/\∀ i,c.2.2<=i->i<n->Bey rk left key arr (base+i)=false) ?step ?fin ?init) ?post
 case init=>exact ⟨rfl,rfl,h1,h2,qw (uy _ _) h2,hl,hg⟩
 case fin =>
  rintro ⟨r,l,u⟩ st' ⟨e,e2,q1,q2,q3,q4,q5⟩
  dsimp only at q1 q2 q3 q4 q5 |-
  have:=hfz q1 q3
  subst this
  exact ⟨e,e2,q2,q4,q5⟩
 case post =>
  rintro ⟨r,l,u⟩ st' ⟨rfl,rfl,q2,q4,q5⟩
  subst hgg
  exact zK (h u q2 q4 q5)
 case step =>
  intro ff hff
  rintro x ⟨r,l,u⟩ st' _ hx ⟨rfl,rfl,q1,q2,q3,q4,q5⟩
  subst hff
  dsimp only at q1 q2 q3 q4 q5 |-
  refine zz6 (fun hc=>?_) fun hc=>?_
  ·have:l=u:=k9 q1 hc
   subst this
   exact zK ⟨rfl,rfl,q2,q4,q5⟩
  ·refine zZ (yo5 ha hk tk (bl (t1 (hf1 hc) q2) hn) (ht _ (t1 (hf1 hc) q2)) ?_)
   dsimp only
   cases e:Bey rk left key arr (base+(l+(u - l) / 2)) with
   | true =>
    exact zK ⟨rfl,rfl,hf1 hc,q2,hf2 q3,fun i hi=>mono i (l+(u - l) / 2) (yj hi) (t1 (hf1 hc) q2) e,q5⟩
   | false =>
    refine zK ⟨rfl,rfl,qQ ..,zq (t1 (hf1 hc) q2),hf3 hc q3,q4,fun i hi hin=>?_⟩
    cases e2:Bey rk left key arr (base+i) with
    | false=>rfl
    | true=>rw [mono (l+(u - l) / 2) i hi hin e2] at e; cases e
theorem zp6 (ha:Asks prog w A s κ T rk) {left:Bool} {key:qK} {arr:Array qK} {st:x8} (hk:kindOf st=κ) (tk:T key) {base n hint:Nat} (hh:hint<n) (hn:base+n<=arr.size)
  (ht:∀ i,i<n->T (arr.getD (base+i) (wz,wz))) (hs:∀ i j,i<=j->j<n->Rk rk arr (base+i)<=Rk rk arr (base+j)) {Q:Option Nat->x8->Prop}
  (h:∀ k,k<=n->(∀ i,i<k->Bey rk left key arr (base+i)=true)->(∀ i,k<=i->i<n->Bey rk left key arr (base+i)=false)->Q (some k) st) :
  wpS (zQ prog w) A E s (zr4 left key arr base n hint) Q st:=by
 have mono:∀ i j,i<=j->j<n->Bey rk left key arr (base+j)=true->Bey rk left key arr (base+i)=true:=by
  intro i j hij hj hb
  have:=hs i j hij hj
  unfold Bey at hb |-
  cases left
  ·simp only [j6,if_false,Bool.not_eq_true',decide_eq_false_iff_not] at hb |-; exact fun h=>hb (t1 h this)
  ·simp only [if_true,decide_eq_true_eq] at hb |-; exact t2 this hb
 have monf:∀ i j,i<=j->j<n->Bey rk left key arr (base+i)=false->Bey rk left key arr (base+j)=false:=by
  intro i j hij hj hb
  cases e:Bey rk left key arr (base+j) with
  | false=>rfl
  | true=>rw [mono i j hij hj e] at hb; cases hb
 rw [xp0]
 refine zZ (yo5 ha hk tk (bl hh hn) (ht _ hh) ?_)
 dsimp only
 cases e0:Bey rk left key arr (base+hint) with
 | true =>
  rw [if_pos rfl]
  refine zw2 fun gg hgg=>?_
  refine jW (zw5 (I:=fun x c st'=>st'=st/\c.1=none/\c.2.1<c.2.2/\x+1<=c.2.2/\c.2.1<n - hint/\Bey rk left key arr (base+(hint+c.2.1))=true)
   (Q:=fun c st'=>st'=st/\c.1=none/\c.2.1<c.2.2/\c.2.1<n - hint/\Bey rk left key arr (base+(hint+c.2.1))=true/\(c.2.2<n - hint->Bey rk left key arr (base+(hint+c.2.2))=false)) ?step ?fin ?init) ?post
  case init=>exact ⟨rfl,rfl,Nat.zero_lt_one,zW _,Z0 hh,e0⟩
  case fin =>
   rintro ⟨r,l,u⟩ st' ⟨e,e2,q1,q2,q3,q4⟩
   dsimp only at q1 q2 q3 q4 |-
   exact ⟨e,e2,q1,q3,q4,fun g=>hfc q2 (qw (zq g) (uy ..))⟩
  case post =>
   rintro ⟨r,l,u⟩ st' ⟨rfl,rfl,q1,q2,q3,q4⟩
   subst hgg
   dsimp only at q1 q2 q3 q4 |-
   refine yr3 ha hk tk hn ht mono (gm1 q1 q2) (gm2 hh) (fun i hi=>mono i (hint+l) (yj hi) (vK q2) q3) (fun i hi hin=>?_) h
   exact monf (hint+u) i (gm4 hi (gm3 hh hi hin)) hin (q4 (gm3 hh hi hin))
  case step =>
   intro ff hff
   rintro x ⟨r,l,u⟩ st' _ hx ⟨rfl,rfl,q1,q2,q3,q4⟩
   subst hff
   dsimp only at q1 q2 q3 q4 |-
   refine zz6 (fun hc=>?_) fun hc=>?_
   ·exact zK ⟨rfl,rfl,q1,q3,q4,fun hlt=>absurd hlt (Qk.mpr hc)⟩
   ·refine zZ (yo5 ha hk tk (bl (gs hc) hn) (ht _ (gs hc)) ?_)
    dsimp only
    cases e:Bey rk left key arr (base+(hint+u)) with
    | false=>exact zK ⟨rfl,rfl,q1,q3,q4,fun _=>e⟩
    | true=>exact zK ⟨rfl,rfl,by dsimp only; bv_omega,by dsimp only; exact zJ (qw q2 (Nat.le_mul_of_pos_left _ Nat.two_pos)),by dsimp only; bv_omega,e⟩
 | false =>
  rw [if_neg qj]
  refine zw2 fun gg hgg=>?_
  refine jW (zw5 (I:=fun x c st'=>st'=st/\c.1=none/\c.2.1<c.2.2/\x+1<=c.2.2/\c.2.1<=hint/\Bey rk left key arr (base+(hint - c.2.1))=false)
   (Q:=fun c st'=>st'=st/\c.1=none/\c.2.1<c.2.2/\c.2.1<=hint/\Bey rk left key arr (base+(hint - c.2.1))=false/\(c.2.2<=hint->Bey rk left key arr (base+(hint - c.2.2))=true)) ?step ?fin ?init) ?post
  case init=>exact ⟨rfl,rfl,Nat.zero_lt_one,zW _,wx _,e0⟩
  case fin =>
   rintro ⟨r,l,u⟩ st' ⟨e,e2,q1,q2,q3,q4⟩
   dsimp only at q1 q2 q3 q4 |-
   exact ⟨e,e2,q1,q3,q4,fun g=>hfc q2 (zq (t2 g hh))⟩
  case post =>
   rintro ⟨r,l,u⟩ st' ⟨rfl,rfl,q1,q2,q3,q4⟩
   subst hgg
   dsimp only at q1 q2 q3 q4 |-
   refine yr3 ha hk tk hn ht mono (gm5 q1 q2) (qw (uy ..) (zq hh)) (fun i hi=>?_) (fun i hi hin=>monf (hint - l) i hi hin q3) h
   exact mono i (hint - u) (gm7 hi) (t2 (uy ..) hh) (q4 (gm6 hi))
  case step =>
   intro ff hff
   rintro x ⟨r,l,u⟩ st' _ hx ⟨rfl,rfl,q1,q2,q3,q4⟩
   subst hff
   dsimp only at q1 q2 q3 q4 |-
   refine zz6 (fun hc=>?_) fun hc=>?_
   ·exact zK ⟨rfl,rfl,q1,q3,q4,fun hlt=>absurd hc (Nat.not_le.mpr (Nat.lt_succ_of_le hlt))⟩
   ·refine zZ (yo5 ha hk tk (bl (t2 (uy ..) hh) hn) (ht _ (t2 (uy ..) hh)) ?_)
    dsimp only
    cases e:Bey rk left key arr (base+(hint - u)) with
    | true=>exact zK ⟨rfl,rfl,q1,q3,q4,fun _=>e⟩
    | false=>exact zK ⟨rfl,rfl,by dsimp only; bv_omega,by dsimp only; bv_omega,by dsimp only; bv_omega,e⟩
end
noncomputable def zx5:Nat->StateT x8 Sem Unit:=sortPriv% PySem.Builtin.setMinGallop
theorem zt3 (g:Nat):zx5 g=modify fun s=>Q1 (kindOf s) (zv s) (zV s) g (kz s):=rfl
noncomputable def yx8:Array qK->Array qK->StateT x8 Sem (Array qK):=sortPriv% PySem.Builtin.mergeLo
theorem yb9 (a b:Array qK):yx8 a b=(do
 rule "list.sort.merge-lo"
 let total:=a.size+b.size
 let done (out:Array qK) (ia ib:Nat):=out++a.extract ia a.size++b.extract ib b.size
 let lastOfA (out:Array qK) (ia ib:Nat):=out++b.extract ib b.size++a.extract ia a.size
 let mut out:Array qK:=#[<- y6 b 0]
 let mut ia:=0
 let mut ib:=1
 if ib==b.size then return done out ia ib
 if ia+1==a.size then return lastOfA out ia ib
 let mut minGallop:=gallopOf (<- get)
 for _ in [0:total] do
  let mut acount:=0
  let mut bcount:=0
  for _ in [0:total] do
   let some bWins <- lt' (<- y6 b ib) (<- y6 a ia)|return done out ia ib
   if bWins then
    out:=out.push (<- y6 b ib); ib:=ib+1; bcount:=bcount+1; acount:=0
    if ib==b.size then return done out ia ib
    if bcount >= minGallop then break
   else
    out:=out.push (<- y6 a ia); ia:=ia+1; acount:=acount+1; bcount:=0
    if ia+1==a.size then return lastOfA out ia ib
    if acount >= minGallop then break
  rule "list.sort.gallop"
  minGallop:=minGallop+1
  for _ in [0:total] do
   if minGallop > 1 then minGallop:=minGallop - 1
   zx5 minGallop
   let some k <- zr4 false (<- y6 b ib) a ia (a.size - ia) 0|return done out ia ib
   acount:=k
   if k > 0 then
    out:=out++a.extract ia (ia+k); ia:=ia+k
    if ia+1==a.size then return lastOfA out ia ib
    if ia==a.size then return done out ia ib
   out:=out.push (<- y6 b ib); ib:=ib+1
   if ib==b.size then return done out ia ib
   let some k <- zr4 true (<- y6 a ia) b ib (b.size - ib) 0|return done out ia ib
   bcount:=k
   if k > 0 then
    out:=out++b.extract ib (ib+k); ib:=ib+k
    if ib==b.size then return done out ia ib
   out:=out.push (<- y6 a ia); ia:=ia+1
   if ia+1==a.size then return lastOfA out ia ib
   if acount<7&&bcount<7 then break
  minGallop:=minGallop+1
  zx5 minGallop
 unsupported "internal:list.sort.merge-bound"):=rfl
noncomputable abbrev LoSt:=Option (Array qK)×Array qK×Nat×Nat×Nat×Nat×Nat
noncomputable abbrev wn3:=Option (Array qK)×Array qK×Nat×Nat×Nat×Nat
noncomputable abbrev wz7:=Option (Array qK)×Array qK×Nat×Nat×Nat
noncomputable def zf9 (a b out:Array qK) (ia ib:Nat):Array qK:=out++a.extract ia a.size++b.extract ib b.size
noncomputable def yp0 (a b out:Array qK) (ia ib:Nat):Array qK:=out++b.extract ib b.size++a.extract ia a.size
noncomputable def lo4 (a b out:Array qK) (ia ib mg k k1:Nat):StateT x8 Sem (ForInStep LoSt):=do
 let x <- y6 a ia
 if (ia+1+1==a.size)=true then pure (.done (some (yp0 a b (out.push x) (ia+1) ib),out.push x,ia+1,ib,mg,k,k1))
 else if (decide (k<7)&&decide (k1<7))=true then pure (.done (none,out.push x,ia+1,ib,mg,k,k1)) else pure (.yield (none,out.push x,ia+1,ib,mg,k,k1))
noncomputable def lo3 (a b out:Array qK) (ia ib mg k bc:Nat):StateT x8 Sem (ForInStep LoSt):=do
 let y <- y6 a ia
 let z <- zr4 true y b ib (b.size - ib) 0
 match z with
 | some k1 =>
  if k1 > 0 then
   if (ib+k1==b.size)=true then pure (.done (some (zf9 a b (out++b.extract ib (ib+k1)) ia (ib+k1)),out++b.extract ib (ib+k1),ia,ib+k1,mg,k,k1))
   else lo4 a b (out++b.extract ib (ib+k1)) ia (ib+k1) mg k k1
  else lo4 a b out ia ib mg k k1
 | _=>pure (.done (some (zf9 a b out ia ib),out,ia,ib,mg,k,bc))
noncomputable def lo2 (a b out:Array qK) (ia ib mg k bc:Nat):StateT x8 Sem (ForInStep LoSt):=do
 let y <- y6 b ib
 if (ib+1==b.size)=true then pure (.done (some (zf9 a b (out.push y) ia (ib+1)),out.push y,ia,ib+1,mg,k,bc))
 else lo3 a b (out.push y) ia (ib+1) mg k bc
noncomputable def lo1 (a b out:Array qK) (ia ib mg ac bc:Nat):StateT x8 Sem (ForInStep LoSt):=do
 zx5 mg
 let y <- y6 b ib
 let z <- zr4 false y a ia (a.size - ia) 0
 match z with
 | some k =>
  if k > 0 then
   if (ia+k+1==a.size)=true then pure (.done (some (yp0 a b (out++a.extract ia (ia+k)) (ia+k) ib),out++a.extract ia (ia+k),ia+k,ib,mg,k,bc))
   else if (ia+k==a.size)=true then pure (.done (some (zf9 a b (out++a.extract ia (ia+k)) (ia+k) ib),out++a.extract ia (ia+k),ia+k,ib,mg,k,bc))
   else lo2 a b (out++a.extract ia (ia+k)) (ia+k) ib mg k bc
  else lo2 a b out ia ib mg k bc
 | _=>pure (.done (some (zf9 a b out ia ib),out,ia,ib,mg,ac,bc))
noncomputable def ws5 (a b:Array qK) (c:LoSt):StateT x8 Sem LoSt :=
 forIn [0:a.size+b.size] c fun _ c=>if c.2.2.2.2.1 > 1 then lo1 a b c.2.1 c.2.2.1 c.2.2.2.1 (c.2.2.2.2.1 - 1) c.2.2.2.2.2.1 c.2.2.2.2.2.2 else lo1 a b c.2.1 c.2.2.1 c.2.2.2.1 c.2.2.2.2.1 c.2.2.2.2.2.1 c.2.2.2.2.2.2
noncomputable def xc4 (a b:Array qK) (mg:Nat) (c:wn3):StateT x8 Sem wn3 :=
 forIn [0:a.size+b.size] c fun _ c=>do
  let y <- y6 b c.2.2.2.1
  let x <- y6 a c.2.2.1
  let r <- lt' y x
  match r with
  | some bWins =>
   if bWins=true then do
    let y <- y6 b c.2.2.2.1
    if (c.2.2.2.1+1==b.size)=true then pure (.done (some (zf9 a b (c.2.1.push y) c.2.2.1 (c.2.2.2.1+1)),c.2.1.push y,c.2.2.1,c.2.2.2.1+1,0,c.2.2.2.2.2+1))
    else if c.2.2.2.2.2+1 >= mg then pure (.done (none,c.2.1.push y,c.2.2.1,c.2.2.2.1+1,0,c.2.2.2.2.2+1)) else pure (.yield (none,c.2.1.push y,c.2.2.1,c.2.2.2.1+1,0,c.2.2.2.2.2+1))
   else do
    let x <- y6 a c.2.2.1
    if (c.2.2.1+1+1==a.size)=true then pure (.done (some (yp0 a b (c.2.1.push x) (c.2.2.1+1) c.2.2.2.1),c.2.1.push x,c.2.2.1+1,c.2.2.2.1,c.2.2.2.2.1+1,0))
    else if c.2.2.2.2.1+1 >= mg then pure (.done (none,c.2.1.push x,c.2.2.1+1,c.2.2.2.1,c.2.2.2.2.1+1,0)) else pure (.yield (none,c.2.1.push x,c.2.2.1+1,c.2.2.2.1,c.2.2.2.2.1+1,0))
  | _=>pure (.done (some (zf9 a b c.2.1 c.2.2.1 c.2.2.2.1),c.2.1,c.2.2.1,c.2.2.2.1,c.2.2.2.2.1,c.2.2.2.2.2))
noncomputable def ws6 (a b:Array qK) (c:wz7):StateT x8 Sem wz7 :=
 forIn [0:a.size+b.size] c fun _ c=>do
  let d <- xc4 a b c.2.2.2.2 (none,c.2.1,c.2.2.1,c.2.2.2.1,0,0)
  match d.fst with
  | some r=>pure (.done (some r,d.2.1,d.2.2.1,d.2.2.2.1,c.2.2.2.2))
  | none=>do
   liftM (rule "list.sort.gallop")
   let e <- ws5 a b (none,d.2.1,d.2.2.1,d.2.2.2.1,c.2.2.2.2+1,d.2.2.2.2.1,d.2.2.2.2.2)
   match e.fst with
   | some r=>pure (.done (some r,e.2.1,e.2.2.1,e.2.2.2.1,e.2.2.2.2.1))
   | none=>do
    zx5 (e.2.2.2.2.1+1)
    pure (.yield (none,e.2.1,e.2.2.1,e.2.2.2.1,e.2.2.2.2.1+1))
theorem xq0 (a b:Array qK):yx8 a b=(do
  liftM (rule "list.sort.merge-lo")
  let y <- y6 b 0
  if (1==b.size)=true then pure (zf9 a b #[y] 0 1)
  else if (0+1==a.size)=true then pure (yp0 a b #[y] 0 1)
  else do
   let st <- get
   let c <- ws6 a b (none,#[y],0,1,gallopOf st)
   match c.fst with
   | some r=>pure r
   | none=>unsupported "internal:list.sort.merge-bound"):=by
 rw [yb9]
 dsimp only
 refine bind_congr fun _=>bind_congr fun y=>ite_congr rfl (fun _=>rfl) fun _=>ite_congr rfl (fun _=>rfl) fun _=>bind_congr fun st=>?_
 unfold ws6
 congr 1
 ·congr 1
  funext _ c
  unfold xc4
  refine bind_congr fun d=>?_
  obtain ⟨r,d⟩:=d
  cases r with
  | some r=>rfl
  | none =>
   refine bind_congr fun _=>?_
   have hb:∀ {c c':LoSt} {f f':LoSt->StateT x8 Sem (ForInStep wz7)} {g g':Nat->LoSt->StateT x8 Sem (ForInStep LoSt)},c=c'->g=g'->f=f'->(forIn [0:a.size+b.size] c g >>= f)=(forIn [0:a.size+b.size] c' g' >>= f'):=by intro _ _ _ _ _ _ h1 h2 h3; subst h1 h2 h3; rfl
   refine hb rfl ?_ ?_
   ·funext _ e
    rfl
   ·funext e
    obtain ⟨r,e⟩:=e
    cases r<;>rfl
 ·funext c
  obtain ⟨r,c⟩:=c
  cases r<;>rfl
noncomputable abbrev Zk:qK:=(wz,wz)
noncomputable def Sd (rk:qK->Nat) (l:List qK):Prop:=l.Pairwise fun x y=>rk x<=rk y
noncomputable def Up' (rk:qK->Nat) (a:Array qK):Prop:=∀ i j,i<=j->j<a.size->Rk rk a i<=Rk rk a j
theorem zy5 {a:Array qK} {i j:Nat} {x:qK} (h:x∈(a.extract i j).toList):∃ k,i<=k/\k<j/\k<a.size/\x=a.getD k Zk:=by
 obtain ⟨k,hk,rfl⟩:=Array.mem_extract_iff_getElem.mp (Array.mem_toList_iff.mp h)
 have:i+k<a.size:=by bv_omega
 exact ⟨i+k,by bv_omega,lg6 hk,this,by rw [w3,xZ this]; rfl⟩
variable {rk:qK->Nat} {a b:Array qK}
theorem Up'.ext (h:Up' rk a) (i j:Nat):Sd rk (a.extract i j).toList:=by
 unfold Sd
 rw [List.pairwise_iff_getElem]
 intro p q hp hq hpq
 simp only [vk,Array.size_extract] at hp hq
 simp only [Array.getElem_toList,Array.getElem_extract]
 have:=h (i+p) (i+q) (by bv_omega) (lg7 hq)
 unfold Rk at this
 rw [w3,w3,xZ (lg7 hp),xZ (by bv_omega)] at this
 exact this
theorem zb5 {a:Array qK} {i k:Nat} (h:i+k<=a.size):(a.extract i a.size).toList=(a.extract i (i+k)).toList++(a.extract (i+k) a.size).toList:=by
 rw [<- w6,Array.extract_append_extract]
 congr 2
 ·bv_omega
 ·bv_omega
theorem xi7 {a:Array qK} {i:Nat} (h:i<a.size):a.extract i (i+1)=#[a.getD i Zk]:=by
 apply Array.ext
 ·simp; exact eo h
 ·intro k h1 h2
  simp at h2
  subst h2
  simp [w3,h]
theorem xw0 {a out:Array qK} {i:Nat} (h:i<a.size):out.push (a.getD i Zk)=out++a.extract i (i+1):=by
 rw [xi7 h]; simp
structure Mg (rk:qK->Nat) (a b out:Array qK) (ia ib:Nat):Prop where
 ha:ia<=a.size
 hb:ib<=b.size
 perm:(out.toList++((a.extract ia a.size).toList++(b.extract ib b.size).toList)).Perm (a.toList++b.toList)
 so:Sd rk out.toList
 la:∀ x∈out.toList,∀ i,ia<=i->i<a.size->rk x<=Rk rk a i
 lb:∀ x∈out.toList,∀ i,ib<=i->i<b.size->rk x<=Rk rk b i
noncomputable def zn2 (rk:qK->Nat) (a b r:Array qK):Prop:=r.toList.Perm (a.toList++b.toList)/\Sd rk r.toList
theorem Mg.moveA {out:Array qK} {ia ib k:Nat} (ua:Up' rk a) (m:Mg rk a b out ia ib) (hk:ia+k<=a.size) (h:∀ i,ia<=i->i<ia+k->∀ j,ib<=j->j<b.size->Rk rk a i<=Rk rk b j):Mg rk a b (out++a.extract ia (ia+k)) (ia+k) ib where
 ha:=hk
 hb:=m.hb
 perm:=by
  have:=m.perm
  rw [zb5 hk] at this
  simpa [xk] using this
 so:=by
  rw [w6]
  refine vq.mpr ⟨m.so,ua.ext _ _,fun x hx y hy=>?_⟩
  (refine Mini.elEAAA (zy5 hy) fun i h1 h2 h3 e_4=>?_; subst e_4)
  exact m.la x hx i h1 h3
 la:=fun x hx i h1 h2=>by
  rw [w6] at hx
  rcases qW.mp hx with hx|hx
  ·exact m.la x hx i (by bv_omega) h2
  ·(refine Mini.elEAAA (zy5 hx) fun j g1 g2 g3 e_4=>?_; subst e_4)
   exact ua j i (by bv_omega) h2
 lb:=fun x hx i h1 h2=>by
  rw [w6] at hx
  rcases qW.mp hx with hx|hx
  ·exact m.lb x hx i h1 h2
  ·(refine Mini.elEAAA (zy5 hx) fun j g1 g2 g3 e_4=>?_; subst e_4)
   exact h j g1 g2 i h1 h2
theorem Mg.moveB {out:Array qK} {ia ib k:Nat} (ub:Up' rk b) (m:Mg rk a b out ia ib) (hk:ib+k<=b.size) (h:∀ j,ib<=j->j<ib+k->∀ i,ia<=i->i<a.size->Rk rk b j<=Rk rk a i):Mg rk a b (out++b.extract ib (ib+k)) ia (ib+k) where
 ha:=m.ha
 hb:=hk
 perm:=by
  have:=m.perm
  rw [zb5 hk] at this
  refine yx ?_ this
  rw [w6,xk]
  refine wK.append_left _ ?_
  rw [<- xk,<- xk]
  exact wK.append_right _ QW
 so:=by
  rw [w6]
  refine vq.mpr ⟨m.so,ub.ext _ _,fun x hx y hy=>?_⟩
  (refine Mini.elEAAA (zy5 hy) fun i h1 h2 h3 e_4=>?_; subst e_4)
  exact m.lb x hx i h1 h3
 la:=fun x hx i h1 h2=>by
  rw [w6] at hx
  rcases qW.mp hx with hx|hx
  ·exact m.la x hx i h1 h2
  ·(refine Mini.elEAAA (zy5 hx) fun j g1 g2 g3 e_4=>?_; subst e_4)
   exact h j g1 g2 i h1 h2
 lb:=fun x hx i h1 h2=>by
  rw [w6] at hx
  rcases qW.mp hx with hx|hx
  ·exact m.lb x hx i (by bv_omega) h2
  ·(refine Mini.elEAAA (zy5 hx) fun j g1 g2 g3 e_4=>?_; subst e_4)
   exact ub j i (by bv_omega) h2
theorem Mg.one {out:Array qK} {ia ib:Nat} (ua:Up' rk a) (m:Mg rk a b out ia ib) (hk:ia<a.size) (h:∀ j,ib<=j->j<b.size->Rk rk a ia<=Rk rk b j):Mg rk a b (out.push (a.getD ia Zk)) (ia+1) ib:=by
 rw [xw0 hk]
 exact m.moveA ua (by bv_omega) fun i h1 h2 j h3 h4=>by
  have:i=ia:=by bv_omega
  subst this; exact h j h3 h4
theorem Mg.oneB {out:Array qK} {ia ib:Nat} (ub:Up' rk b) (m:Mg rk a b out ia ib) (hk:ib<b.size) (h:∀ i,ia<=i->i<a.size->Rk rk b ib<=Rk rk a i):Mg rk a b (out.push (b.getD ib Zk)) ia (ib+1):=by
 rw [xw0 hk]
 exact m.moveB ub (by bv_omega) fun i h1 h2 j h3 h4=>by
  have:i=ib:=by bv_omega
  subst this; exact h j h3 h4
theorem Mg.done {out:Array qK} {ia ib:Nat} (ua:Up' rk a) (ub:Up' rk b) (m:Mg rk a b out ia ib) (h:ia=a.size\/ib=b.size):zn2 rk a b (zf9 a b out ia ib):=by
 unfold zn2 zf9
 simp only [w6,xk]
 refine ⟨m.perm,vq.mpr ⟨m.so,vq.mpr ⟨ua.ext _ _,ub.ext _ _,fun x hx y hy=>?_⟩,fun x hx y hy=>?_⟩⟩
 ·(refine Mini.elEAAA (zy5 hx) fun i h1 h2 h3 e_4=>?_; subst e_4)
  (refine Mini.elEAAA (zy5 hy) fun j g1 g2 g3 e_4=>?_; subst e_4)
  bv_omega
 ·rcases qW.mp hy with hy|hy
  ·(refine Mini.elEAAA (zy5 hy) fun j g1 g2 g3 e_4=>?_; subst e_4)
   exact m.la x hx j g1 g3
  ·(refine Mini.elEAAA (zy5 hy) fun j g1 g2 g3 e_4=>?_; subst e_4)
   exact m.lb x hx j g1 g3
theorem Mg.last {out:Array qK} {ia ib:Nat} (ua:Up' rk a) (ub:Up' rk b) (m:Mg rk a b out ia ib) (h:ia+1=a.size) (hl:∀ j,j<b.size->Rk rk b j<=Rk rk a (a.size - 1)):zn2 rk a b (yp0 a b out ia ib):=by
 unfold zn2 yp0
 simp only [w6,xk]
 refine ⟨yx (wK.append_left _ QW) m.perm,vq.mpr ⟨m.so,vq.mpr ⟨ub.ext _ _,ua.ext _ _,fun x hx y hy=>?_⟩,fun x hx y hy=>?_⟩⟩
 ·(refine Mini.elEAAA (zy5 hx) fun i h1 h2 h3 e_4=>?_; subst e_4)
  (refine Mini.elEAAA (zy5 hy) fun j g1 g2 g3 e_4=>?_; subst e_4)
  have:j=a.size - 1:=jl1 h g1 g3
  subst this
  exact hl i h3
 ·rcases qW.mp hy with hy|hy
  ·(refine Mini.elEAAA (zy5 hy) fun j g1 g2 g3 e_4=>?_; subst e_4)
   exact m.lb x hx j g1 g3
  ·(refine Mini.elEAAA (zy5 hy) fun j g1 g2 g3 e_4=>?_; subst e_4)
   exact m.la x hx j g1 g3
end Snd
end
section
namespace Snd
open PySem PyProof.Rows
structure Same (st st':x8):Prop where
 kind:kindOf st'=kindOf st
 arr:zv st'=zv st
 pend:zV st'=zV st
 fail:kz st'=kz st
theorem Same.rfl' (st:x8):Same st st:=⟨rfl,rfl,rfl,rfl⟩
theorem Same.trans {x y z:x8} (h:Same x y) (g:Same y z):Same x z:=⟨g.kind.trans h.kind,g.arr.trans h.arr,g.pend.trans h.pend,g.fail.trans h.fail⟩
structure Two (T:qK->Prop) (rk:qK->Nat) (a b:Array qK):Prop where
 ta:∀ i,i<a.size->T (a.getD i Zk)
 tb:∀ i,i<b.size->T (b.getD i Zk)
 ua:Up' rk a
 ub:Up' rk b
 a1:1<=a.size
 b1:1<=b.size
 first:∀ i,i<a.size->Rk rk b 0<=Rk rk a i
 last:∀ j,j<b.size->Rk rk b j<=Rk rk a (a.size - 1)
section
variable {prog:vw} {w:wy} {A:xx} {E:qq->qv->Prop} {s:qv} {κ:SortKind} {T:qK->Prop} {rk:qK->Nat} {a b:Array qK}
noncomputable def LoOk (rk:qK->Nat) (a b:Array qK) (n:Nat) (r:Option (Array qK)) (out:Array qK) (ia ib:Nat):Prop:=match r with
 | some r=>zn2 rk a b r
 | none=>Mg rk a b out ia ib/\ia+1<a.size/\ib<b.size/\n<=ia+ib
noncomputable def LoP (rk:qK->Nat) (a b:Array qK) (n:Nat) (st:x8) (r:ForInStep LoSt) (st':x8):Prop:=Same st st'/\match r with
 | .done c=>LoOk rk a b n c.1 c.2.1 c.2.2.1 c.2.2.2.1
 | .yield c=>c.1=none/\LoOk rk a b n c.1 c.2.1 c.2.2.1 c.2.2.2.1
theorem wy9 (D:Two T rk a b) {st:x8} {out:Array qK} {ia ib mg k k1 n:Nat} (m:Mg rk a b out ia ib) (hia:ia+1<a.size) (hib:ib<b.size) (hn:n<=ia+ib+1) (hle:∀ j,ib<=j->j<b.size->Rk rk a ia<=Rk rk b j) :
  wpS (zQ prog w) A E s (lo4 a b out ia ib mg k k1) (LoP rk a b n st) st:=by
 have m':=m.one D.ua (by bv_omega) hle
 refine zZ (zy1 (zy3 (by bv_omega)) ?_)
 refine zz6 (fun h1=>?_) fun h1=>?_
 ·exact zK ⟨Same.rfl' _,m'.last D.ua D.ub (by simpa using h1) D.last⟩
 ·have h1':ia+1+1≠a.size:=by simpa using h1
  have ok:LoOk rk a b n none (out.push (a.getD ia Zk)) (ia+1) ib:=⟨m',j7 hia h1',hib,by bv_omega⟩
  split
  ·exact zK ⟨Same.rfl' _,ok⟩
  ·exact zK ⟨Same.rfl' _,rfl,ok⟩
theorem wo3 {key:qK} {arr:Array qK} {i:Nat} (h:Bey rk true key arr i=true):Rk rk arr i<rk key:=by simpa [Bey] using h
theorem xg4 {key:qK} {arr:Array qK} {i:Nat} (h:Bey rk true key arr i=false):rk key<=Rk rk arr i:=by simpa [Bey] using h
theorem wo4 {key:qK} {arr:Array qK} {i:Nat} (h:Bey rk false key arr i=true):Rk rk arr i<=rk key:=by simpa [Bey] using h
theorem xg5 {key:qK} {arr:Array qK} {i:Nat} (h:Bey rk false key arr i=false):rk key<Rk rk arr i:=by simpa [Bey] using h
theorem lo3_ok (ha:Asks prog w A s κ T rk) (D:Two T rk a b) {st:x8} (hk:kindOf st=κ) {out:Array qK} {ia ib mg k bc n:Nat} (m:Mg rk a b out ia ib) (hia:ia+1<a.size) (hib:ib<b.size) (hn:n<=ia+ib+1) :
  wpS (zQ prog w) A E s (lo3 a b out ia ib mg k bc) (LoP rk a b n st) st:=by
 refine zZ (zy1 (zy3 (by bv_omega)) ?_)
 refine zZ (zp6 ha hk (D.ta _ (jK hia)) (Z0 hib) (zX (wX (zq hib))) (fun i hi=>D.tb _ (vK hi)) (fun i j hij hj=>D.ub _ _ (qZ hij _) (vK hj)) fun k1 h1 h2 h3=>?_)
 dsimp only
 have hle:∀ j,ib+k1<=j->j<b.size->Rk rk a ia<=Rk rk b j:=fun j h4 h5=>by
  have:=xg4 (h3 (j - ib) (p5 h4) (Nat.sub_lt_sub_right (qw (qQ ..) h4) h5))
  rwa [p6 h4] at this
 refine zz6 (fun hp=>?_) fun hp=>?_
 ·have m':=m.moveB (k:=k1) D.ub (uX (zq hib) h1) fun j h4 h5 i h6 h7=>by
   have:=wo3 (h2 (j - ib) (p3 h4 h5))
   rw [wX h4] at this
   exact qw (zq this) (D.ua ia i h6 h7)
  refine zz6 (fun he=>?_) fun he=>?_
  ·exact zK ⟨Same.rfl' _,m'.done D.ua D.ub (.inr (by simpa using he))⟩
  ·have:ib+k1≠b.size:=by simpa using he
   exact wy9 D m' hia (j7 (uX (zq hib) h1) this) (by bv_omega) hle
 ·have:k1=0:=by bv_omega
  subst this
  exact wy9 D m hia hib hn hle
theorem wx0 (ha:Asks prog w A s κ T rk) (D:Two T rk a b) {st:x8} (hk:kindOf st=κ) {out:Array qK} {ia ib mg k bc n:Nat} (m:Mg rk a b out ia ib) (hia:ia+1<a.size) (hib:ib<b.size) (hn:n<=ia+ib+2) (hle:∀ i,ia<=i->i<a.size->Rk rk b ib<=Rk rk a i) :
  wpS (zQ prog w) A E s (lo2 a b out ia ib mg k bc) (LoP rk a b n st) st:=by
 have m':=m.oneB D.ub hib hle
 refine zZ (zy1 (zy3 (by bv_omega)) ?_)
 refine zz6 (fun he=>?_) fun he=>?_
 ·exact zK ⟨Same.rfl' _,m'.done D.ua D.ub (.inr (by simpa using he))⟩
 ·have:ib+1≠b.size:=by simpa using he
  exact lo3_ok ha D hk m' hia (by bv_omega) (by bv_omega)
theorem lo1_ok (ha:Asks prog w A s κ T rk) (D:Two T rk a b) {st:x8} (hk:kindOf st=κ) {out:Array qK} {ia ib mg ac bc n:Nat} (m:Mg rk a b out ia ib) (hia:ia+1<a.size) (hib:ib<b.size) (hn:n<=ia+ib+2) :
  wpS (zQ prog w) A E s (lo1 a b out ia ib mg ac bc) (LoP rk a b n st) st:=by
 unfold lo1
 rw [zt3]
 refine zZ (yJ ?_)
 have S:Same st (Q1 (kindOf st) (zv st) (zV st) mg (kz st)):=⟨rfl,rfl,rfl,rfl⟩
 refine jW (Q:=LoP rk a b n (Q1 (kindOf st) (zv st) (zV st) mg (kz st))) ?_ fun r st' h=>⟨S.trans h.1,h.2⟩
 refine zZ (zy1 (zy3 (by bv_omega)) ?_)
 refine zZ (zp6 ha (by exact hk) (D.tb _ hib) (Z0 (jK hia)) (zX (wX (zq (jK hia)))) (fun i hi=>D.ta _ (vK hi)) (fun i j hij hj=>D.ua _ _ (qZ hij _) (vK hj)) fun k h1 h2 h3=>?_)
 dsimp only
 have hle:∀ j,ia+k<=j->j<a.size->Rk rk b ib<=Rk rk a j:=fun j h4 h5=>by
  have:=xg5 (h3 (j - ia) (p5 h4) (Nat.sub_lt_sub_right (qw (qQ ..) h4) h5))
  rw [p6 h4] at this
  exact zq this
 refine zz6 (fun hp=>?_) fun hp=>?_
 ·have m':=m.moveA (k:=k) D.ua (uX (zq (jK hia)) h1) fun j h4 h5 i h6 h7=>by
   have:=wo4 (h2 (j - ia) (p3 h4 h5))
   rw [wX h4] at this
   exact qw this (D.ub ib i h6 h7)
  refine zz6 (fun he=>?_) fun he=>?_
  ·exact zK ⟨Same.rfl' _,m'.last D.ua D.ub (by simpa using he) D.last⟩
  ·have e1:ia+k+1≠a.size:=by simpa using he
   refine zz6 (fun he2=>?_) fun he2=>?_
   ·exact zK ⟨Same.rfl' _,m'.done D.ua D.ub (.inl (by simpa using he2))⟩
   ·have e2:ia+k≠a.size:=by simpa using he2
    exact wx0 (n:=n) ha D (st:=Q1 (kindOf st) (zv st) (zV st) mg (kz st)) hk m' (j7 (j7 (uX (zq (jK hia)) h1) e2) e1) hib (by bv_omega) hle
 ·have:k=0:=by bv_omega
  subst this
  exact wx0 (n:=n) ha D (st:=Q1 (kindOf st) (zv st) (zV st) mg (kz st)) hk m hia hib hn hle
theorem xc5 (ha:Asks prog w A s κ T rk) (D:Two T rk a b) {st:x8} (hk:kindOf st=κ) {out:Array qK} {ia ib mg ac bc n:Nat} (m:Mg rk a b out ia ib) (hia:ia+1<a.size) (hib:ib<b.size) (hn:n<=ia+ib) :
  wpS (zQ prog w) A E s (ws5 a b (none,out,ia,ib,mg,ac,bc)) (fun c st'=>Same st st'/\LoOk rk a b n c.1 c.2.1 c.2.2.1 c.2.2.2.1) st:=by
 unfold ws5
 refine zw5 (I:=fun x (c:LoSt) st'=>Same st st'/\c.1=none/\LoOk rk a b (n+x) c.1 c.2.1 c.2.2.1 c.2.2.2.1) ?_ ?_ ⟨Same.rfl' _,rfl,m,hia,hib,hn⟩
 ·intro ff hff
  rintro x ⟨r,out,ia,ib,mg,ac,bc⟩ st' _ hx ⟨S,rfl,m,h1,h2,h3⟩
  subst hff
  dsimp only at m h1 h2 h3 |-
  have go:∀ mg,wpS (zQ prog w) A E s (lo1 a b out ia ib mg ac bc) (LoP rk a b (n+(x+1)) st') st':=fun mg=>lo1_ok ha D (S.kind.trans hk) m h1 h2 (by bv_omega)
  refine jW (Q:=LoP rk a b (n+(x+1)) st') (by split; exact go _; exact go _) fun r st'' h=>?_
  obtain ⟨S',h⟩:=h
  cases r with
  | done c =>
   refine ⟨S.trans S',?_⟩
   obtain ⟨r,c⟩:=c
   cases r with
   | some r=>exact h
   | none=>exact ⟨h.1,h.2.1,h.2.2.1,by have:=h.2.2.2; exact qw (qQ ..) this⟩
  | yield c=>exact ⟨S.trans S',h⟩
 ·rintro ⟨r,out,ia,ib,mg,ac,bc⟩ st' ⟨S,rfl,m,h1,h2,h3⟩
  dsimp only at m h1 h2 h3 |-
  exact ⟨S,m,h1,h2,qw (qQ ..) h3⟩
theorem xc3 (ha:Asks prog w A s κ T rk) (D:Two T rk a b) {st:x8} (hk:kindOf st=κ) {out:Array qK} {ia ib mg:Nat} (m:Mg rk a b out ia ib) (hia:ia+1<a.size) (hib:ib<b.size) :
  wpS (zQ prog w) A E s (xc4 a b mg (none,out,ia,ib,0,0)) (fun c st'=>st'=st/\LoOk rk a b (ia+ib+1) c.1 c.2.1 c.2.2.1 c.2.2.2.1) st:=by
 unfold xc4
 refine zw5 (I:=fun x (c:wn3) st'=>st'=st/\c.1=none/\LoOk rk a b (ia+ib+x) c.1 c.2.1 c.2.2.1 c.2.2.2.1) ?_ ?_ ⟨rfl,rfl,m,hia,hib,zW _⟩
 ·intro ff hff
  rintro x ⟨r,out,ja,jb,ac,bc⟩ st' _ hx ⟨rfl,rfl,m,h1,h2,h3⟩
  subst hff
  dsimp only at m h1 h2 h3 |-
  refine zZ (zy1 (zy3 h2) ?_)
  refine zZ (zy1 (zy3 (by bv_omega)) ?_)
  refine zZ (yl8 ha hk (D.tb _ h2) (D.ta _ (by bv_omega)) ?_)
  dsimp only
  by_cases hw:rk (b.getD jb Zk)<rk (a.getD ja Zk)
  ·rw [decide_eq_true hw,if_pos rfl]
   refine zZ (zy1 (zy3 h2) ?_)
   have m':=m.oneB D.ub h2 fun i h4 h5=>qw (zq hw) (D.ua ja i h4 h5)
   refine zz6 (fun he=>?_) fun he=>?_
   ·exact zK ⟨rfl,m'.done D.ua D.ub (.inr (by simpa using he))⟩
   ·have e1:jb+1≠b.size:=by simpa using he
    refine zz6 (fun hc=>?_) fun hc=>?_
    ·exact zK ⟨rfl,m',h1,by dsimp only; bv_omega,by dsimp only; bv_omega⟩
    ·exact zK ⟨rfl,rfl,m',h1,by dsimp only; bv_omega,by dsimp only; bv_omega⟩
  ·rw [decide_eq_false hw,if_neg qj]
   refine zZ (zy1 (zy3 (by bv_omega)) ?_)
   have m':=m.one D.ua (by bv_omega) fun j h4 h5=>qw (zk hw) (D.ub jb j h4 h5)
   refine zz6 (fun he=>?_) fun he=>?_
   ·exact zK ⟨rfl,m'.last D.ua D.ub (by simpa using he) D.last⟩
   ·have e1:ja+1+1≠a.size:=by simpa using he
    refine zz6 (fun hc=>?_) fun hc=>?_
    ·exact zK ⟨rfl,m',by dsimp only; exact j7 h1 (nbe he),h2,by dsimp only; bv_omega⟩
    ·exact zK ⟨rfl,rfl,m',by dsimp only; bv_omega,h2,by dsimp only; bv_omega⟩
 ·rintro ⟨r,out,ja,jb,ac,bc⟩ st' ⟨rfl,rfl,m,h1,h2,h3⟩
  dsimp only at m h1 h2 h3 |-
  exact cz h1 h2 (qw (w7 ..) h3)
theorem ye4 (ha:Asks prog w A s κ T rk) (D:Two T rk a b) {st:x8} (hk:kindOf st=κ) {Q:Array qK->x8->Prop} (h:∀ r st',Same st st'->zn2 rk a b r->Q r st'):wpS (zQ prog w) A E s (yx8 a b) Q st:=by
 rw [xq0]
 refine zZ (wpS_lift (QJ ⟨rfl,?_⟩))
 refine zZ (zy1 (zy3 D.b1) ?_)
 have m0:Mg rk a b #[] 0 0:=⟨wx _,wx _,by simp,by simp [Sd],by simp,by simp⟩
 have m1:Mg rk a b #[b.getD 0 Zk] 0 1:=m0.oneB D.ub D.b1 fun i _ h5=>D.first i h5
 refine zz6 (fun he=>?_) fun he=>?_
 ·exact zK (h _ _ (Same.rfl' _) (m1.done D.ua D.ub (.inr (by simpa using he))))
 ·have e1:1≠b.size:=by simpa using he
  refine zz6 (fun he2=>?_) fun he2=>?_
  ·exact zK (h _ _ (Same.rfl' _) (m1.last D.ua D.ub (by simpa using he2) D.last))
  ·have e2:0+1≠a.size:=by simpa using he2
   have a1:=D.a1
   have b1:=D.b1
   refine zZ (wpS_get ?_)
   refine zZ (jW (Q:=fun c st'=>Same st st'/\∃ r,c.1=some r/\zn2 rk a b r) ?_ ?_)
   ·unfold ws6
    refine zw5 (I:=fun x (c:wz7) st'=>Same st st'/\c.1=none/\LoOk rk a b (x+1) c.1 c.2.1 c.2.2.1 c.2.2.2.1) ?_ ?_ ⟨Same.rfl' _,rfl,m1,by dsimp only; bv_omega,by dsimp only; bv_omega,by dsimp only; bv_omega⟩
    ·intro ff hff
     rintro x ⟨r,out,ia,ib,mg⟩ st' _ hx ⟨S,rfl,m,h1,h2,h3⟩
     subst hff
     dsimp only at m h1 h2 h3 |-
     refine zw2 fun gg0 hg0=>jW (xc3 ha D (S.kind.trans hk) m h1 h2) ?_
     rintro ⟨r,out,ja,jb,ac,bc⟩ st'' ⟨rfl,q⟩
     subst hg0
     cases r with
     | some r=>exact zK ⟨S,r,rfl,q⟩
     | none =>
      refine Mini.elAAA (q) fun m h4 h5 h6=>?_
      dsimp only at m h4 h5 h6 |-
      refine zZ (wpS_lift (QJ ⟨rfl,?_⟩))
      refine zw2 fun gg1 hg1=>jW (xc5 ha D (S.kind.trans hk) m h4 h5 h6) ?_
      rintro ⟨r,out,ka,kb,mg2,ac,bc⟩ st3 ⟨S2,q⟩
      subst hg1
      cases r with
      | some r=>exact zK ⟨S.trans S2,r,rfl,q⟩
      | none =>
       refine Mini.elAAA (q) fun m h7 h8 h9=>?_
       dsimp only at m h7 h8 h9 |-
       rw [zt3]
       refine zZ (yJ (zK ⟨S.trans (S2.trans ⟨rfl,rfl,rfl,rfl⟩),rfl,m,h7,h8,by dsimp only; exact qw (zJ h3) h9⟩))
    ·rintro ⟨r,out,ja,jb,ac⟩ st' ⟨S,rfl,m,h1,h2,h3⟩
     dsimp only at m h1 h2 h3 |-
     exact cz h1 h2 (Nat.le_of_succ_le h3)
   ·rintro ⟨r,c⟩ st' ⟨S,r',e,hm⟩
    dsimp only at e
    subst e
    exact zK (h _ _ S hm)
end
noncomputable def yx9:Array qK->Array qK->StateT x8 Sem (Array qK):=sortPriv% PySem.Builtin.mergeHi
theorem ya0 (a b:Array qK):yx9 a b=(do
 rule "list.sort.merge-hi"
 let total:=a.size+b.size
 let done (out:Array qK) (na nb:Nat):=a.extract 0 na++b.extract 0 nb++out.reverse
 let firstOfB (out:Array qK) (na nb:Nat):=b.extract 0 nb++a.extract 0 na++out.reverse
 let mut na:=a.size - 1
 let mut nb:=b.size
 let mut out:Array qK:=#[<- y6 a na]
 if na==0 then return done out na nb
 if nb==1 then return firstOfB out na nb
 let mut minGallop:=gallopOf (<- get)
 for _ in [0:total] do
  let mut acount:=0
  let mut bcount:=0
  for _ in [0:total] do
   let some aWins <- lt' (<- y6 b (nb - 1)) (<- y6 a (na - 1))|return done out na nb
   if aWins then
    na:=na - 1; out:=out.push (<- y6 a na); acount:=acount+1; bcount:=0
    if na==0 then return done out na nb
    if acount >= minGallop then break
   else
    nb:=nb - 1; out:=out.push (<- y6 b nb); bcount:=bcount+1; acount:=0
    if nb==1 then return firstOfB out na nb
    if bcount >= minGallop then break
  rule "list.sort.gallop"
  minGallop:=minGallop+1
  for _ in [0:total] do
   if minGallop > 1 then minGallop:=minGallop - 1
   zx5 minGallop
   let some at_ <- zr4 false (<- y6 b (nb - 1)) a 0 na (na - 1)|return done out na nb
   let k:=na - at_
   acount:=k
   if k > 0 then
    out:=out++(a.extract at_ na).reverse; na:=at_
    if na==0 then return done out na nb
   nb:=nb - 1; out:=out.push (<- y6 b nb)
   if nb==1 then return firstOfB out na nb
   let some at_ <- zr4 true (<- y6 a (na - 1)) b 0 nb (nb - 1)|return done out na nb
   let k:=nb - at_
   bcount:=k
   if k > 0 then
    out:=out++(b.extract at_ nb).reverse; nb:=at_
    if nb==1 then return firstOfB out na nb
    if nb==0 then return done out na nb
   na:=na - 1; out:=out.push (<- y6 a na)
   if na==0 then return done out na nb
   if acount<7&&bcount<7 then break
  minGallop:=minGallop+1
  zx5 minGallop
 unsupported "internal:list.sort.merge-bound"):=rfl
noncomputable abbrev HiSt:=Option (Array qK)×Nat×Nat×Array qK×Nat×Nat×Nat
noncomputable abbrev wn4:=Option (Array qK)×Nat×Nat×Array qK×Nat×Nat
noncomputable abbrev wz8:=Option (Array qK)×Nat×Nat×Array qK×Nat
noncomputable def ze0 (a b out:Array qK) (na nb:Nat):Array qK:=a.extract 0 na++b.extract 0 nb++out.reverse
noncomputable def yz0 (a b out:Array qK) (na nb:Nat):Array qK:=b.extract 0 nb++a.extract 0 na++out.reverse
noncomputable def hi4 (a b out:Array qK) (na nb mg k k1:Nat):StateT x8 Sem (ForInStep HiSt):=do
 let x <- y6 a (na - 1)
 if (na - 1==0)=true then pure (.done (some (ze0 a b (out.push x) (na - 1) nb),na - 1,nb,out.push x,mg,k,k1))
 else if (decide (k<7)&&decide (k1<7))=true then pure (.done (none,na - 1,nb,out.push x,mg,k,k1)) else pure (.yield (none,na - 1,nb,out.push x,mg,k,k1))
noncomputable def hi3 (a b out:Array qK) (na nb mg k bc:Nat):StateT x8 Sem (ForInStep HiSt):=do
 let y <- y6 a (na - 1)
 let z <- zr4 true y b 0 nb (nb - 1)
 match z with
 | some at_ =>
  if nb - at_ > 0 then
   if (at_==1)=true then pure (.done (some (yz0 a b (out++(b.extract at_ nb).reverse) na at_),na,at_,out++(b.extract at_ nb).reverse,mg,k,nb - at_))
   else if (at_==0)=true then pure (.done (some (ze0 a b (out++(b.extract at_ nb).reverse) na at_),na,at_,out++(b.extract at_ nb).reverse,mg,k,nb - at_))
   else hi4 a b (out++(b.extract at_ nb).reverse) na at_ mg k (nb - at_)
  else hi4 a b out na nb mg k (nb - at_)
 | _=>pure (.done (some (ze0 a b out na nb),na,nb,out,mg,k,bc))
noncomputable def hi2 (a b out:Array qK) (na nb mg k bc:Nat):StateT x8 Sem (ForInStep HiSt):=do
 let y <- y6 b (nb - 1)
 if (nb - 1==1)=true then pure (.done (some (yz0 a b (out.push y) na (nb - 1)),na,nb - 1,out.push y,mg,k,bc))
 else hi3 a b (out.push y) na (nb - 1) mg k bc
noncomputable def hi1 (a b out:Array qK) (na nb mg ac bc:Nat):StateT x8 Sem (ForInStep HiSt):=do
 zx5 mg
 let y <- y6 b (nb - 1)
 let z <- zr4 false y a 0 na (na - 1)
 match z with
 | some at_ =>
  if na - at_ > 0 then
   if (at_==0)=true then pure (.done (some (ze0 a b (out++(a.extract at_ na).reverse) at_ nb),at_,nb,out++(a.extract at_ na).reverse,mg,na - at_,bc))
   else hi2 a b (out++(a.extract at_ na).reverse) at_ nb mg (na - at_) bc
  else hi2 a b out na nb mg (na - at_) bc
 | _=>pure (.done (some (ze0 a b out na nb),na,nb,out,mg,ac,bc))
noncomputable def wq0 (a b:Array qK) (c:HiSt):StateT x8 Sem HiSt :=
 forIn [0:a.size+b.size] c fun _ c=>if c.2.2.2.2.1 > 1 then hi1 a b c.2.2.2.1 c.2.1 c.2.2.1 (c.2.2.2.2.1 - 1) c.2.2.2.2.2.1 c.2.2.2.2.2.2 else hi1 a b c.2.2.2.1 c.2.1 c.2.2.1 c.2.2.2.2.1 c.2.2.2.2.2.1 c.2.2.2.2.2.2
noncomputable def xb7 (a b:Array qK) (mg:Nat) (c:wn4):StateT x8 Sem wn4 :=
 forIn [0:a.size+b.size] c fun _ c=>do
  let y <- y6 b (c.2.2.1 - 1)
  let x <- y6 a (c.2.1 - 1)
  let r <- lt' y x
  match r with
  | some aWins =>
   if aWins=true then do
    let x <- y6 a (c.2.1 - 1)
    if (c.2.1 - 1==0)=true then pure (.done (some (ze0 a b (c.2.2.2.1.push x) (c.2.1 - 1) c.2.2.1),c.2.1 - 1,c.2.2.1,c.2.2.2.1.push x,c.2.2.2.2.1+1,0))
    else if c.2.2.2.2.1+1 >= mg then pure (.done (none,c.2.1 - 1,c.2.2.1,c.2.2.2.1.push x,c.2.2.2.2.1+1,0)) else pure (.yield (none,c.2.1 - 1,c.2.2.1,c.2.2.2.1.push x,c.2.2.2.2.1+1,0))
   else do
    let y <- y6 b (c.2.2.1 - 1)
    if (c.2.2.1 - 1==1)=true then pure (.done (some (yz0 a b (c.2.2.2.1.push y) c.2.1 (c.2.2.1 - 1)),c.2.1,c.2.2.1 - 1,c.2.2.2.1.push y,0,c.2.2.2.2.2+1))
    else if c.2.2.2.2.2+1 >= mg then pure (.done (none,c.2.1,c.2.2.1 - 1,c.2.2.2.1.push y,0,c.2.2.2.2.2+1)) else pure (.yield (none,c.2.1,c.2.2.1 - 1,c.2.2.2.1.push y,0,c.2.2.2.2.2+1))
  | _=>pure (.done (some (ze0 a b c.2.2.2.1 c.2.1 c.2.2.1),c.2.1,c.2.2.1,c.2.2.2.1,c.2.2.2.2.1,c.2.2.2.2.2))
noncomputable def wq1 (a b:Array qK) (c:wz8):StateT x8 Sem wz8 :=
 forIn [0:a.size+b.size] c fun _ c=>do
  let d <- xb7 a b c.2.2.2.2 (none,c.2.1,c.2.2.1,c.2.2.2.1,0,0)
  match d.fst with
  | some r=>pure (.done (some r,d.2.1,d.2.2.1,d.2.2.2.1,c.2.2.2.2))
  | none=>do
   liftM (rule "list.sort.gallop")
   let e <- wq0 a b (none,d.2.1,d.2.2.1,d.2.2.2.1,c.2.2.2.2+1,d.2.2.2.2.1,d.2.2.2.2.2)
   match e.fst with
   | some r=>pure (.done (some r,e.2.1,e.2.2.1,e.2.2.2.1,e.2.2.2.2.1))
   | none=>do
    zx5 (e.2.2.2.2.1+1)
    pure (.yield (none,e.2.1,e.2.2.1,e.2.2.2.1,e.2.2.2.2.1+1))
theorem xq1 (a b:Array qK):yx9 a b=(do
  liftM (rule "list.sort.merge-hi")
  let x <- y6 a (a.size - 1)
  if (a.size - 1==0)=true then pure (ze0 a b #[x] (a.size - 1) b.size)
  else if (b.size==1)=true then pure (yz0 a b #[x] (a.size - 1) b.size)
  else do
   let st <- get
   let c <- wq1 a b (none,a.size - 1,b.size,#[x],gallopOf st)
   match c.fst with
   | some r=>pure r
   | none=>unsupported "internal:list.sort.merge-bound"):=by
 rw [ya0]
 dsimp only
 refine bind_congr fun _=>bind_congr fun y=>ite_congr rfl (fun _=>rfl) fun _=>ite_congr rfl (fun _=>rfl) fun _=>bind_congr fun st=>?_
 unfold wq1
 congr 1
 ·congr 1
  funext _ c
  unfold xb7
  refine bind_congr fun d=>?_
  obtain ⟨r,d⟩:=d
  cases r with
  | some r=>rfl
  | none =>
   refine bind_congr fun _=>?_
   have hb:∀ {c c':HiSt} {f f':HiSt->StateT x8 Sem (ForInStep wz8)} {g g':Nat->HiSt->StateT x8 Sem (ForInStep HiSt)},c=c'->g=g'->f=f'->(forIn [0:a.size+b.size] c g >>= f)=(forIn [0:a.size+b.size] c' g' >>= f'):=by intro _ _ _ _ _ _ h1 h2 h3; subst h1 h2 h3; rfl
   refine hb rfl ?_ ?_
   ·funext _ e
    rfl
   ·funext e
    obtain ⟨r,e⟩:=e
    cases r<;>rfl
 ·funext c
  obtain ⟨r,c⟩:=c
  cases r<;>rfl
variable {rk:qK->Nat} {a b:Array qK}
theorem zg8 {a:Array qK} {i k:Nat} (h:i<=k) (hk:k<=a.size):(a.extract 0 k).toList=(a.extract 0 i).toList++(a.extract i k).toList:=by
 rw [<- w6,Array.extract_append_extract]
 congr 2
 bv_omega
structure Mh (rk:qK->Nat) (a b out:Array qK) (na nb:Nat):Prop where
 ha:na<=a.size
 hb:nb<=b.size
 perm:((a.extract 0 na).toList++((b.extract 0 nb).toList++out.reverse.toList)).Perm (a.toList++b.toList)
 so:Sd rk out.reverse.toList
 la:∀ x∈out.reverse.toList,∀ i,i<na->Rk rk a i<=rk x
 lb:∀ x∈out.reverse.toList,∀ i,i<nb->Rk rk b i<=rk x
theorem zi1 {out p:Array qK}:(out++p.reverse).reverse.toList=p.toList++out.reverse.toList:=by
 simp [List.reverse_append]
theorem Mh.moveA {out:Array qK} {na nb k:Nat} (ua:Up' rk a) (m:Mh rk a b out na nb) (hk:k<=na) (h:∀ i,k<=i->i<na->∀ j,j<nb->Rk rk b j<=Rk rk a i):Mh rk a b (out++(a.extract k na).reverse) k nb where
 ha:=qw hk m.ha
 hb:=m.hb
 perm:=by
  have:=m.perm
  rw [zg8 hk m.ha,xk] at this
  rw [zi1]
  refine yx (wK.append_left _ ?_) this
  rw [<- xk,<- xk]
  exact wK.append_right _ QW
 so:=by
  rw [zi1]
  refine vq.mpr ⟨ua.ext _ _,m.so,fun x hx y hy=>?_⟩
  (refine Mini.elEAAA (zy5 hx) fun i h1 h2 h3 e_4=>?_; subst e_4)
  exact m.la y hy i h2
 la:=fun x hx i h1=>by
  rw [zi1] at hx
  have:=m.ha
  rcases qW.mp hx with hx|hx
  ·(refine Mini.elEAAA (zy5 hx) fun j g1 g2 g3 e_4=>?_; subst e_4)
   exact ua i j (by bv_omega) g3
  ·exact m.la x hx i (by bv_omega)
 lb:=fun x hx i h1=>by
  rw [zi1] at hx
  rcases qW.mp hx with hx|hx
  ·(refine Mini.elEAAA (zy5 hx) fun j g1 g2 g3 e_4=>?_; subst e_4)
   exact h j g1 g2 i h1
  ·exact m.lb x hx i h1
theorem Mh.moveB {out:Array qK} {na nb k:Nat} (ub:Up' rk b) (m:Mh rk a b out na nb) (hk:k<=nb) (h:∀ j,k<=j->j<nb->∀ i,i<na->Rk rk a i<=Rk rk b j):Mh rk a b (out++(b.extract k nb).reverse) na k where
 ha:=m.ha
 hb:=qw hk m.hb
 perm:=by
  have:=m.perm
  rw [zg8 hk m.hb,xk] at this
  rw [zi1]
  exact this
 so:=by
  rw [zi1]
  refine vq.mpr ⟨ub.ext _ _,m.so,fun x hx y hy=>?_⟩
  (refine Mini.elEAAA (zy5 hx) fun i h1 h2 h3 e_4=>?_; subst e_4)
  exact m.lb y hy i h2
 la:=fun x hx i h1=>by
  rw [zi1] at hx
  rcases qW.mp hx with hx|hx
  ·(refine Mini.elEAAA (zy5 hx) fun j g1 g2 g3 e_4=>?_; subst e_4)
   exact h j g1 g2 i h1
  ·exact m.la x hx i h1
 lb:=fun x hx i h1=>by
  rw [zi1] at hx
  have:=m.hb
  rcases qW.mp hx with hx|hx
  ·(refine Mini.elEAAA (zy5 hx) fun j g1 g2 g3 e_4=>?_; subst e_4)
   exact ub i j (by bv_omega) g3
  ·exact m.lb x hx i (by bv_omega)
theorem yj8 {a out:Array qK} {n:Nat} (h:1<=n) (hn:n<=a.size):out.push (a.getD (n - 1) Zk)=out++(a.extract (n - 1) n).reverse:=by
 have:=xi7 (a:=a) (i:=n - 1) (t1 (p9 h) hn)
 rw [w8 h] at this
 rw [this]; simp
theorem Mh.one {out:Array qK} {na nb:Nat} (ua:Up' rk a) (m:Mh rk a b out na nb) (h1:1<=na) (h:∀ j,j<nb->Rk rk b j<=Rk rk a (na - 1)):Mh rk a b (out.push (a.getD (na - 1) Zk)) (na - 1) nb:=by
 rw [yj8 h1 m.ha]
 exact m.moveA ua (by bv_omega) fun i h1 h2 j h3=>by
  have:i=na - 1:=k9 (ww h2) h1
  subst this; exact h j h3
theorem Mh.oneB {out:Array qK} {na nb:Nat} (ub:Up' rk b) (m:Mh rk a b out na nb) (h1:1<=nb) (h:∀ i,i<na->Rk rk a i<=Rk rk b (nb - 1)):Mh rk a b (out.push (b.getD (nb - 1) Zk)) na (nb - 1):=by
 rw [yj8 h1 m.hb]
 exact m.moveB ub (by bv_omega) fun i h1 h2 j h3=>by
  have:i=nb - 1:=by bv_omega
  subst this; exact h j h3
theorem Mh.done {out:Array qK} {na nb:Nat} (ua:Up' rk a) (ub:Up' rk b) (m:Mh rk a b out na nb) (h:na=0\/nb=0):zn2 rk a b (ze0 a b out na nb):=by
 unfold zn2 ze0
 simp only [w6,xk]
 refine ⟨m.perm,vq.mpr ⟨ua.ext _ _,vq.mpr ⟨ub.ext _ _,m.so,fun x hx y hy=>?_⟩,fun x hx y hy=>?_⟩⟩
 ·(refine Mini.elEAAA (zy5 hx) fun i h1 h2 h3 e_4=>?_; subst e_4)
  exact m.lb y hy i h2
 ·(refine Mini.elEAAA (zy5 hx) fun i h1 h2 h3 e_4=>?_; subst e_4)
  rcases qW.mp hy with hy|hy
  ·(refine Mini.elEAAA (zy5 hy) fun j g1 g2 g3 e_4=>?_; subst e_4)
   bv_omega
  ·exact m.la y hy i h2
theorem Mh.first {out:Array qK} {na nb:Nat} (ua:Up' rk a) (ub:Up' rk b) (m:Mh rk a b out na nb) (h:nb=1) (hf:∀ i,i<a.size->Rk rk b 0<=Rk rk a i):zn2 rk a b (yz0 a b out na nb):=by
 unfold zn2 yz0
 simp only [w6,xk]
 refine ⟨yx ?_ m.perm,vq.mpr ⟨ub.ext _ _,vq.mpr ⟨ua.ext _ _,m.so,fun x hx y hy=>?_⟩,fun x hx y hy=>?_⟩⟩
 ·rw [<- xk,<- xk]
  exact wK.append_right _ QW
 ·(refine Mini.elEAAA (zy5 hx) fun i h1 h2 h3 e_4=>?_; subst e_4)
  exact m.la y hy i h2
 ·(refine Mini.elEAAA (zy5 hx) fun i h1 h2 h3 e_4=>?_; subst e_4)
  have:i=0:=by bv_omega
  subst this
  rcases qW.mp hy with hy|hy
  ·(refine Mini.elEAAA (zy5 hy) fun j g1 g2 g3 e_4=>?_; subst e_4)
   exact hf j g3
  ·exact m.lb y hy 0 (by bv_omega)
end Snd
end
section
namespace Snd
open PySem PyProof.Rows
section
variable {prog:vw} {w:wy} {A:xx} {E:qq->qv->Prop} {s:qv} {κ:SortKind} {T:qK->Prop} {rk:qK->Nat} {a b:Array qK}
noncomputable def HiOk (rk:qK->Nat) (a b:Array qK) (n:Nat) (r:Option (Array qK)) (out:Array qK) (na nb:Nat):Prop:=match r with
 | some r=>zn2 rk a b r
 | none=>Mh rk a b out na nb/\1<=na/\2<=nb/\na+nb+n<=a.size+b.size
noncomputable def HiP (rk:qK->Nat) (a b:Array qK) (n:Nat) (st:x8) (r:ForInStep HiSt) (st':x8):Prop:=Same st st'/\match r with
 | .done c=>HiOk rk a b n c.1 c.2.2.2.1 c.2.1 c.2.2.1
 | .yield c=>c.1=none/\HiOk rk a b n c.1 c.2.2.2.1 c.2.1 c.2.2.1
theorem wx9 (D:Two T rk a b) {st:x8} {out:Array qK} {na nb mg k k1 n:Nat} (m:Mh rk a b out na nb) (hna:1<=na) (hnb:2<=nb) (hn:na+nb+n<=a.size+b.size+1) (hle:∀ j,j<nb->Rk rk b j<=Rk rk a (na - 1)) :
  wpS (zQ prog w) A E s (hi4 a b out na nb mg k k1) (HiP rk a b n st) st:=by
 have m':=m.one D.ua hna hle
 have:=m.ha
 refine zZ (zy1 (zy3 (by bv_omega)) ?_)
 refine zz6 (fun h1=>?_) fun h1=>?_
 ·exact zK ⟨Same.rfl' _,m'.done D.ua D.ub (.inl (by simpa using h1))⟩
 ·have h1':na - 1≠0:=by simpa using h1
  have ok:HiOk rk a b n none (out.push (a.getD (na - 1) Zk)) (na - 1) nb:=⟨m',by bv_omega,hnb,kW (hdA hna hn)⟩
  refine zz6 (fun hc=>?_) fun hc=>?_
  ·exact zK ⟨Same.rfl' _,ok⟩
  ·exact zK ⟨Same.rfl' _,rfl,ok⟩
theorem hi3_ok (ha:Asks prog w A s κ T rk) (D:Two T rk a b) {st:x8} (hk:kindOf st=κ) {out:Array qK} {na nb mg k bc n:Nat} (m:Mh rk a b out na nb) (hna:1<=na) (hnb:2<=nb) (hn:na+nb+n<=a.size+b.size+1) :
  wpS (zQ prog w) A E s (hi3 a b out na nb mg k bc) (HiP rk a b n st) st:=by
 have ma:=m.ha
 have mb:=m.hb
 refine zZ (zy1 (zy3 (by bv_omega)) ?_)
 refine zZ (zp6 ha hk (D.ta _ (by bv_omega)) (by bv_omega) (by bv_omega) (fun i hi=>D.tb _ (by bv_omega)) (fun i j hij hj=>D.ub _ _ (by bv_omega) (by bv_omega)) fun k1 h1 h2 h3=>?_)
 dsimp only
 have hle:∀ j,j<k1->Rk rk b j<=Rk rk a (na - 1):=fun j h4=>by
  have:=wo3 (h2 j h4)
  rw [u8] at this
  exact zq this
 refine zz6 (fun hp=>?_) fun hp=>?_
 ·have m':=m.moveB (k:=k1) D.ub (by bv_omega) fun j h4 h5 i h6=>by
   have:=xg4 (h3 j h4 h5)
   rw [u8] at this
   exact qw (D.ua i (na - 1) (ww h6) (by bv_omega)) this
  refine zz6 (fun he=>?_) fun he=>?_
  ·exact zK ⟨Same.rfl' _,m'.first D.ua D.ub (by simpa using he) D.first⟩
  ·have e1:k1≠1:=by simpa using he
   refine zz6 (fun he2=>?_) fun he2=>?_
   ·exact zK ⟨Same.rfl' _,m'.done D.ua D.ub (.inr (by simpa using he2))⟩
   ·have e2:k1≠0:=by simpa using he2
    exact wx9 D m' hna (q3 he he2) (qw (xv (qZ h1 _) _) hn) hle
 ·exact wx9 D m hna hnb hn fun j hj=>hle j (t1 hj (sz0 hp))
theorem ww0 (ha:Asks prog w A s κ T rk) (D:Two T rk a b) {st:x8} (hk:kindOf st=κ) {out:Array qK} {na nb mg k bc n:Nat} (m:Mh rk a b out na nb) (hna:1<=na) (hnb:2<=nb) (hn:na+nb+n<=a.size+b.size+2) (hle:∀ i,i<na->Rk rk a i<=Rk rk b (nb - 1)) :
  wpS (zQ prog w) A E s (hi2 a b out na nb mg k bc) (HiP rk a b n st) st:=by
 have m':=m.oneB D.ub (by bv_omega) hle
 have mb:=m.hb
 refine zZ (zy1 (zy3 (by bv_omega)) ?_)
 refine zz6 (fun he=>?_) fun he=>?_
 ·exact zK ⟨Same.rfl' _,m'.first D.ua D.ub (by simpa using he) D.first⟩
 ·have:nb - 1≠1:=by simpa using he
  exact hi3_ok ha D hk m' hna (q2 hnb he) (kW (hdC (Nat.le_of_succ_le hnb) hn))
theorem hi1_ok (ha:Asks prog w A s κ T rk) (D:Two T rk a b) {st:x8} (hk:kindOf st=κ) {out:Array qK} {na nb mg ac bc n:Nat} (m:Mh rk a b out na nb) (hna:1<=na) (hnb:2<=nb) (hn:na+nb+n<=a.size+b.size+2) :
  wpS (zQ prog w) A E s (hi1 a b out na nb mg ac bc) (HiP rk a b n st) st:=by
 unfold hi1
 rw [zt3]
 refine zZ (yJ ?_)
 have S:Same st (Q1 (kindOf st) (zv st) (zV st) mg (kz st)):=⟨rfl,rfl,rfl,rfl⟩
 refine jW (Q:=HiP rk a b n (Q1 (kindOf st) (zv st) (zV st) mg (kz st))) ?_ fun r st' h=>⟨S.trans h.1,h.2⟩
 have ma:=m.ha
 have mb:=m.hb
 refine zZ (zy1 (zy3 (by bv_omega)) ?_)
 refine zZ (zp6 ha (by exact hk) (D.tb _ (by bv_omega)) (p9 hna) (by bv_omega) (fun i hi=>D.ta _ (by bv_omega)) (fun i j hij hj=>D.ua _ _ (by bv_omega) (by bv_omega)) fun k h1 h2 h3=>?_)
 dsimp only
 have hle:∀ i,i<k->Rk rk a i<=Rk rk b (nb - 1):=fun j h4=>by
  have:=wo4 (h2 j h4)
  rwa [u8] at this
 refine zz6 (fun hp=>?_) fun hp=>?_
 ·have m':=m.moveA (k:=k) D.ua (by bv_omega) fun i h4 h5 j h6=>by
   have:=xg5 (h3 i h4 h5)
   rw [u8] at this
   exact qw (D.ub j (nb - 1) (by bv_omega) (by bv_omega)) (zq this)
  refine zz6 (fun he=>?_) fun he=>?_
  ·exact zK ⟨Same.rfl' _,m'.done D.ua D.ub (.inl (by simpa using he))⟩
  ·have e1:k≠0:=by simpa using he
   exact ww0 (n:=n) ha D (st:=Q1 (kindOf st) (zv st) (zV st) mg (kz st)) hk m' (by bv_omega) hnb (qw (xv (xv h1 _) _) hn) hle
 ·exact ww0 (n:=n) ha D (st:=Q1 (kindOf st) (zv st) (zV st) mg (kz st)) hk m hna hnb hn fun i hi=>hle i (t1 hi (sz0 hp))
theorem xb8 (ha:Asks prog w A s κ T rk) (D:Two T rk a b) {st:x8} (hk:kindOf st=κ) {out:Array qK} {na nb mg ac bc n:Nat} (m:Mh rk a b out na nb) (hna:1<=na) (hnb:2<=nb) (hn:na+nb+n<=a.size+b.size) :
  wpS (zQ prog w) A E s (wq0 a b (none,na,nb,out,mg,ac,bc)) (fun c st'=>Same st st'/\HiOk rk a b n c.1 c.2.2.2.1 c.2.1 c.2.2.1) st:=by
 unfold wq0
 refine zw5 (I:=fun x (c:HiSt) st'=>Same st st'/\c.1=none/\HiOk rk a b (n+x) c.1 c.2.2.2.1 c.2.1 c.2.2.1) ?_ ?_ ⟨Same.rfl' _,rfl,m,hna,hnb,hn⟩
 ·intro ff hff
  rintro x ⟨r,na,nb,out,mg,ac,bc⟩ st' _ hx ⟨S,rfl,m,h1,h2,h3⟩
  subst hff
  dsimp only at m h1 h2 h3 |-
  have go:∀ mg,wpS (zQ prog w) A E s (hi1 a b out na nb mg ac bc) (HiP rk a b (n+(x+1)) st') st':=fun mg=>hi1_ok ha D (S.kind.trans hk) m h1 h2 (yv (zJ h3))
  refine jW (Q:=HiP rk a b (n+(x+1)) st') (by split; exact go _; exact go _) fun r st'' h=>?_
  obtain ⟨S',h⟩:=h
  cases r with
  | done c =>
   refine ⟨S.trans S',?_⟩
   obtain ⟨r,c⟩:=c
   cases r with
   | some r=>exact h
   | none=>exact ⟨h.1,h.2.1,h.2.2.1,by have:=h.2.2.2; exact qw (qZ (qQ ..) _) this⟩
  | yield c=>exact ⟨S.trans S',h⟩
 ·rintro ⟨r,na,nb,out,mg,ac,bc⟩ st' ⟨S,rfl,m,h1,h2,h3⟩
  dsimp only at m h1 h2 h3 |-
  exact ⟨S,m,h1,h2,qw (qZ (qQ ..) _) h3⟩
theorem xb6 (ha:Asks prog w A s κ T rk) (D:Two T rk a b) {st:x8} (hk:kindOf st=κ) {out:Array qK} {na nb mg n:Nat} (m:Mh rk a b out na nb) (hna:1<=na) (hnb:2<=nb) (hn:na+nb+n<=a.size+b.size) :
  wpS (zQ prog w) A E s (xb7 a b mg (none,na,nb,out,0,0)) (fun c st'=>st'=st/\HiOk rk a b (n+1) c.1 c.2.2.2.1 c.2.1 c.2.2.1) st:=by
 unfold xb7
 refine zw5 (I:=fun x (c:wn4) st'=>st'=st/\c.1=none/\HiOk rk a b (n+x) c.1 c.2.2.2.1 c.2.1 c.2.2.1) ?_ ?_ ⟨rfl,rfl,m,hna,hnb,hn⟩
 ·intro ff hff
  rintro x ⟨r,ja,jb,out,ac,bc⟩ st' _ hx ⟨rfl,rfl,m,h1,h2,h3⟩
  subst hff
  dsimp only at m h1 h2 h3 |-
  have ma:=m.ha
  have mb:=m.hb
  refine zZ (zy1 (zy3 (t1 (p9 (Nat.le_of_succ_le h2)) mb)) ?_)
  refine zZ (zy1 (zy3 (by bv_omega)) ?_)
  refine zZ (yl8 ha hk (D.tb _ (by bv_omega)) (D.ta _ (by bv_omega)) ?_)
  dsimp only
  by_cases hw:rk (b.getD (jb - 1) Zk)<rk (a.getD (ja - 1) Zk)
  ·rw [decide_eq_true hw,if_pos rfl]
   refine zZ (zy1 (zy3 (by bv_omega)) ?_)
   have m':=m.one D.ua h1 fun i h4=>qw (D.ub i (jb - 1) (by bv_omega) (by bv_omega)) (zq hw)
   refine zz6 (fun he=>?_) fun he=>?_
   ·exact zK ⟨rfl,m'.done D.ua D.ub (.inl (by simpa using he))⟩
   ·have e1:ja - 1≠0:=by simpa using he
    refine zz6 (fun hc=>?_) fun hc=>?_
    ·exact zK ⟨rfl,m',by dsimp only; bv_omega,h2,by dsimp only; exact hdA h1 (qw (qZ (qQ ..) _) h3)⟩
    ·exact zK ⟨rfl,rfl,m',by dsimp only; bv_omega,h2,by dsimp only; exact hdA h1 h3⟩
  ·rw [decide_eq_false hw,if_neg qj]
   refine zZ (zy1 (zy3 (by bv_omega)) ?_)
   have m':=m.oneB D.ub (by bv_omega) fun j h4=>qw (D.ua j (ja - 1) (by bv_omega) (by bv_omega)) (zk hw)
   refine zz6 (fun he=>?_) fun he=>?_
   ·exact zK ⟨rfl,m'.first D.ua D.ub (by simpa using he) D.first⟩
   ·have e1:jb - 1≠1:=by simpa using he
    refine zz6 (fun hc=>?_) fun hc=>?_
    ·exact zK ⟨rfl,m',h1,by dsimp only; bv_omega,by dsimp only; exact hdC (Nat.le_of_succ_le h2) (qw (qZ (qQ ..) _) h3)⟩
    ·exact zK ⟨rfl,rfl,m',h1,by dsimp only; bv_omega,by dsimp only; exact hdC (Nat.le_of_succ_le h2) h3⟩
 ·rintro ⟨r,ja,jb,out,ac,bc⟩ st' ⟨rfl,rfl,m,h1,h2,h3⟩
  dsimp only at m h1 h2 h3 |-
  exact cy h1 h3
theorem ye5 (ha:Asks prog w A s κ T rk) (D:Two T rk a b) {st:x8} (hk:kindOf st=κ) {Q:Array qK->x8->Prop} (h:∀ r st',Same st st'->zn2 rk a b r->Q r st'):wpS (zQ prog w) A E s (yx9 a b) Q st:=by
 have a1:=D.a1
 have b1:=D.b1
 rw [xq1]
 refine zZ (wpS_lift (QJ ⟨rfl,?_⟩))
 refine zZ (zy1 (zy3 (p9 a1)) ?_)
 have m0:Mh rk a b #[] a.size b.size:=⟨zW _,zW _,by simp,by simp [Sd],by simp,by simp⟩
 have m1:Mh rk a b #[a.getD (a.size - 1) Zk] (a.size - 1) b.size:=m0.one D.ua D.a1 fun j h5=>D.last j h5
 refine zz6 (fun he=>?_) fun he=>?_
 ·exact zK (h _ _ (Same.rfl' _) (m1.done D.ua D.ub (.inl (by simpa using he))))
 ·have e1:a.size - 1≠0:=by simpa using he
  refine zz6 (fun he2=>?_) fun he2=>?_
  ·exact zK (h _ _ (Same.rfl' _) (m1.first D.ua D.ub (by simpa using he2) D.first))
  ·have e2:b.size≠1:=by simpa using he2
   refine zZ (wpS_get ?_)
   refine zZ (jW (Q:=fun c st'=>Same st st'/\∃ r,c.1=some r/\zn2 rk a b r) ?_ ?_)
   ·unfold wq1
    refine zw5 (I:=fun x (c:wz8) st'=>Same st st'/\c.1=none/\HiOk rk a b (x+1) c.1 c.2.2.2.1 c.2.1 c.2.2.1) ?_ ?_ ⟨Same.rfl' _,rfl,m1,by dsimp only; bv_omega,by dsimp only; bv_omega,by dsimp only; exact hi0 a1⟩
    ·intro ff hff
     rintro x ⟨r,ia,ib,out,mg⟩ st' _ hx ⟨S,rfl,m,h1,h2,h3⟩
     subst hff
     dsimp only at m h1 h2 h3 |-
     refine zw2 fun gg0 hg0=>jW (xb6 ha D (S.kind.trans hk) m h1 h2 h3) ?_
     rintro ⟨r,ja,jb,out,ac,bc⟩ st'' ⟨rfl,q⟩
     subst hg0
     cases r with
     | some r=>exact zK ⟨S,r,rfl,q⟩
     | none =>
      refine Mini.elAAA (q) fun m h4 h5 h6=>?_
      dsimp only at m h4 h5 h6 |-
      refine zZ (wpS_lift (QJ ⟨rfl,?_⟩))
      refine zw2 fun gg1 hg1=>jW (xb8 ha D (S.kind.trans hk) m h4 h5 h6) ?_
      rintro ⟨r,ka,kb,out,mg2,ac,bc⟩ st3 ⟨S2,q⟩
      subst hg1
      cases r with
      | some r=>exact zK ⟨S.trans S2,r,rfl,q⟩
      | none =>
       refine Mini.elAAA (q) fun m h7 h8 h9=>?_
       dsimp only at m h7 h8 h9 |-
       rw [zt3]
       refine zZ (yJ (zK ⟨S.trans (S2.trans ⟨rfl,rfl,rfl,rfl⟩),rfl,m,h7,h8,by dsimp only; bv_omega⟩))
    ·rintro ⟨r,ja,jb,out,ac⟩ st' ⟨S,rfl,m,h1,h2,h3⟩
     dsimp only at m h1 h2 h3 |-
     exact cy2 h1 h3
   ·rintro ⟨r,c⟩ st' ⟨S,r',e,hm⟩
    dsimp only at e
    subst e
    exact zK (h _ _ S hm)
end
noncomputable def xo1 (lo a nrem:Nat):StateT x8 Sem AscSt :=
 forIn [a:nrem] ((none,a):AscSt) fun _ c=>do
  let x <- ltAt' (lo+c.snd) (lo+c.snd - 1)
  match x with
  | some smaller=>if smaller=true then pure (vV (none,c.snd)) else pure (wZ (none,c.snd+1))
  | _=>pure (vV (some none,c.snd))
noncomputable def yr2 (lo n nrem:Nat):StateT x8 Sem (Option Nat):=do
 reverseSlice' lo (lo+n)
 let c <- xo1 lo n nrem
 match c.fst with
 | some r=>pure r
 | none=>pure (some c.snd)
noncomputable def ye2 (lo n nrem:Nat):StateT x8 Sem DescSt :=
 forIn [n:nrem] ((none,n,0):DescSt) fun _ c=>do
  let x <- ltAt' (lo+c.snd.fst) (lo+c.snd.fst - 1)
  match x with
  | some smaller =>
   if smaller=true then
    if c.snd.snd > 0 then do
     reverseSlice' (lo+c.snd.fst - (c.snd.snd+1)) (lo+c.snd.fst)
     pure (wZ (none,c.snd.fst+1,0))
    else pure (wZ (none,c.snd.fst+1,0))
   else do
    let x <- ltAt' (lo+c.snd.fst - 1) (lo+c.snd.fst)
    match x with
    | some larger =>
     if larger=true then pure (vV (none,c.snd.fst,c.snd.snd))
     else pure (wZ (none,c.snd.fst+1,c.snd.snd+1))
    | _=>pure (vV (some none,c.snd.fst,c.snd.snd))
  | _=>pure (vV (some none,c.snd.fst,c.snd.snd))
noncomputable def ye1 (lo n nrem:Nat):StateT x8 Sem (Option Nat):=do
 liftM (rule "list.sort.descending-run")
 let c <- ye2 lo (n+1) nrem
 match c.fst with
 | some r=>pure r
 | none =>
  if c.snd.snd > 0 then do
   reverseSlice' (lo+c.snd.fst - (c.snd.snd+1)) (lo+c.snd.fst)
   yr2 lo c.snd.fst nrem
  else yr2 lo c.snd.fst nrem
theorem yx2 (lo n nrem:Nat) {f:AscSt->StateT x8 Sem (Option Nat)} (h:∀ r n,f (r,n)=match r with|some r=>pure r|none=>pure (some n)):(xo1 lo n nrem >>= f)=(do
 let c <- xo1 lo n nrem
 match c.fst with
 | some r=>pure r
 | none=>pure (some c.snd)):=bind_congr fun c=>by obtain ⟨r,n⟩:=c; rw [h]
theorem xy0 (lo nrem:Nat):countRun' lo nrem=(do
  let c <- xo1 lo 1 nrem
  match c.fst with
  | some r=>pure r
  | none =>
   if (c.snd==nrem)=true then pure (some c.snd)
   else if c.snd > 1 then do
    let x <- ltAt' lo (lo+c.snd - 1)
    match x with
    | some rose=>if rose=true then pure (some c.snd) else do
      reverseSlice' lo (lo+c.snd)
      ye1 lo c.snd nrem
    | _=>pure none
   else ye1 lo c.snd nrem):=by
 rw [countRun'_eq]
 dsimp only
 refine bind_congr fun c=>?_
 obtain ⟨r,n⟩:=c
 cases r with
 | some r=>rfl
 | none =>
  dsimp only
  refine ite_congr rfl (fun _=>rfl) fun _=>?_
  have key:∀ {f:Unit->StateT x8 Sem (Option Nat)},f=(fun _=>ye2 lo (n+1) nrem >>= fun c=>match c.fst with
    | some r=>pure r
    | none=>if c.snd.snd > 0 then do
      reverseSlice' (lo+c.snd.fst - (c.snd.snd+1)) (lo+c.snd.fst)
      yr2 lo c.snd.fst nrem
     else yr2 lo c.snd.fst nrem)->((liftM (rule "list.sort.descending-run"):StateT x8 Sem Unit) >>= f)=ye1 lo n nrem:=fun h=>by rw [h]; rfl
  have k2:∀ {g:DescSt->StateT x8 Sem (Option Nat)},(∀ r n q,g (r,n,q)=match r with
    | some r=>pure r
    | none=>if q > 0 then do
      reverseSlice' (lo+n - (q+1)) (lo+n)
      yr2 lo n nrem
     else yr2 lo n nrem)->(ye2 lo (n+1) nrem >>= g)=(ye2 lo (n+1) nrem >>= fun c=>match c.fst with
    | some r=>pure r
    | none=>if c.snd.snd > 0 then do
      reverseSlice' (lo+c.snd.fst - (c.snd.snd+1)) (lo+c.snd.fst)
      yr2 lo c.snd.fst nrem
     else yr2 lo c.snd.fst nrem):=fun h=>bind_congr fun c=>by obtain ⟨r,n,q⟩:=c; rw [h]
  refine ite_congr rfl (fun _=>bind_congr fun x=>?_) fun _=>?_
  ·cases x with
   | none=>rfl
   | some rose =>
    refine ite_congr rfl (fun _=>rfl) fun _=>bind_congr fun _=>?_
    refine key (funext fun _=>k2 fun r n q=>?_)
    cases r with
    | some r=>rfl
    | none=>exact ite_congr rfl (fun _=>bind_congr fun _=>bind_congr fun _=>yx2 lo n nrem fun r n=>by cases r<;>rfl) fun _=>bind_congr fun _=>yx2 lo n nrem fun r n=>by cases r<;>rfl
  ·refine key (funext fun _=>k2 fun r n q=>?_)
   cases r with
   | some r=>rfl
   | none=>exact ite_congr rfl (fun _=>bind_congr fun _=>bind_congr fun _=>yx2 lo n nrem fun r n=>by cases r<;>rfl) fun _=>bind_congr fun _=>yx2 lo n nrem fun r n=>by cases r<;>rfl
noncomputable def Seg (rk:qK->Nat) (a:Array qK) (i j:Nat):Prop:=∀ k l,i<=k->k<=l->l<j->Rk rk a k<=Rk rk a l
noncomputable def Fal (rk:qK->Nat) (a:Array qK) (i j:Nat):Prop:=∀ k l,i<=k->k<=l->l<j->Rk rk a l<=Rk rk a k
structure Pm (lo:Nat) (a a':Array qK):Prop where
 perm:a'.Perm a
 low:∀ k,k<lo->a'[k]?=a[k]?
theorem Pm.rfl' (lo:Nat) (a:Array qK):Pm lo a a:=⟨Array.Perm.refl _,fun _ _=>rfl⟩
theorem Pm.trans {lo:Nat} {a b c:Array qK} (h:Pm lo a b) (g:Pm lo b c):Pm lo a c:=⟨g.perm.trans h.perm,fun k hk=>(g.low k hk).trans (h.low k hk)⟩
theorem Pm.size {lo:Nat} {a b:Array qK} (h:Pm lo a b):b.size=a.size:=h.perm.size_eq
structure Kp (lo:Nat) (st st':x8):Prop where
 kind:kindOf st'=kindOf st
 pend:zV st'=zV st
 fail:kz st'=kz st
 pm:Pm lo (zv st) (zv st')
theorem Kp.rfl' (lo:Nat) (st:x8):Kp lo st st:=⟨rfl,rfl,rfl,Pm.rfl' _ _⟩
theorem Kp.trans {lo:Nat} {x y z:x8} (h:Kp lo x y) (g:Kp lo y z):Kp lo x z:=⟨g.kind.trans h.kind,g.pend.trans h.pend,g.fail.trans h.fail,h.pm.trans g.pm⟩
theorem Kp.set {lo:Nat} {st:x8} {xs:Array qK} (h:Pm lo (zv st) xs):Kp lo st (setArr st xs):=⟨rfl,rfl,rfl,h⟩
noncomputable def Tt (T:qK->Prop) (a:Array qK):Prop:=∀ x∈a.toList,T x
theorem Tt.get {T:qK->Prop} {a:Array qK} (h:Tt T a) {i:Nat} (hi:i<a.size):T (a.getD i Zk):=h _ (by rw [w3,xZ hi]; simp)
theorem Tt.perm {T:qK->Prop} {a b:Array qK} (h:Tt T a) (p:b.Perm a):Tt T b:=fun x hx=>h x ((Array.perm_iff_toList_perm.mp p).mem_iff.mp hx)
theorem zs2 {rk:qK->Nat} {a b:Array qK} {i j:Nat} (h:a[i]?=b[j]?):Rk rk a i=Rk rk b j:=by
 unfold Rk; rw [w3,w3,h]
set_option tactic.hygienic true in
theorem yv6 {rk:qK->Nat} {a:Array qK} {i j:Nat} (hj:j<=a.size) (k:Nat):Rk rk (mirror a i j ((j - i) / 2)) k=if i<=k/\k<j then Rk rk a (i+j - 1 - k) else Rk rk a k:=by
 have h:=getElem?_mirror_all (xs:=a) (i:=i) hj k
 split
 ·rename_i hc; rw [if_pos hc] at h; exact zs2 h
 ·rename_i hc; rw [if_neg hc] at h; exact zs2 h
set_option tactic.hygienic true in
theorem ze8 {rk:qK->Nat} {a:Array qK} {i j c:Nat} (hj:j<=a.size) (he:∀ k,i<=k->k<j->Rk rk a k=c) (k:Nat):Rk rk (mirror a i j ((j - i) / 2)) k=Rk rk a k:=by
 rw [yv6 hj]
 split
 ·rename_i hc
  rw [he k hc.1 hc.2,he _ (mi1 hc.2) (mi2 hc.1 hc.2)]
 ·rfl
theorem zc8 {lo:Nat} {a:Array qK} {i j:Nat} (hj:j<=a.size) (h:lo<=i):Pm lo a (mirror a i j ((j - i) / 2)):=⟨mirror_perm _ _ _ _,fun k hk=>by rw [getElem?_mirror_all hj,if_neg (by bv_omega)]⟩
set_option tactic.hygienic true in
theorem yj6 {rk:qK->Nat} {a:Array qK} {k l:Nat} (hk:k<a.size) (hl:l<=k) (i:Nat):Rk rk (bubble a k (k - l)) i=if i=l then Rk rk a k else if l<i/\i<=k then Rk rk a (i - 1) else Rk rk a i:=by
 have h:=getElem?_bubble hk (k - l) (uy ..) i
 rw [Nat.sub_sub_self hl] at h
 split
 ·rename_i hc; rw [if_pos hc] at h; exact zs2 h
 ·rename_i hc
  rw [if_neg hc] at h
  split
  ·rename_i hc2; rw [if_pos hc2] at h; exact zs2 h
  ·rename_i hc2; rw [if_neg hc2] at h; exact zs2 h
theorem xh9 {lo:Nat} {a:Array qK} {k l:Nat} (hk:k<a.size) (hl:l<=k) (h:lo<=l):Pm lo a (bubble a k (k - l)):=⟨bubble_perm _ _ _,fun i hi=>by rw [getElem?_bubble hk _ (uy ..),Nat.sub_sub_self hl,if_neg (jV (t1 hi h)),if_neg fun g=>absurd g.1 (Nat.lt_asymm (t1 hi h))]⟩
section
variable {prog:vw} {w:wy} {A:xx} {E:qq->qv->Prop} {s:qv} {κ:SortKind} {T:qK->Prop} {rk:qK->Nat}
theorem yw2 (ha:Asks prog w A s κ T rk) {st:x8} (hk:kindOf st=κ) (ht:Tt T (zv st)) {i j:Nat} (hi:i<(zv st).size) (hj:j<(zv st).size) {Q:Option Bool->x8->Prop} (h:Q (some (decide (Rk rk (zv st) i<Rk rk (zv st) j))) st):wpS (zQ prog w) A E s (ltAt' i j) Q st:=by
 rw [ltAt'_eq]
 refine zZ (wpS_get (zZ (zy1 (zy3 hi) (zZ (zy1 (zy3 hj) (yl8 ha hk (ht.get hi) (ht.get hj) h))))))
theorem xt7 (ha:Asks prog w A s κ T rk) {st:x8} (hk:kindOf st=κ) (ht:Tt T (zv st)) {lo a nrem:Nat} (h1:1<=a) (h2:a<=nrem) (hn:lo+nrem<=(zv st).size) (hs:Seg rk (zv st) lo (lo+a)) :
  wpS (zQ prog w) A E s (xo1 lo a nrem) (fun c st'=>st'=st/\c.1=none/\a<=c.2/\c.2<=nrem/\Seg rk (zv st) lo (lo+c.2)/\(c.2<nrem->Rk rk (zv st) (lo+c.2)<Rk rk (zv st) (lo+c.2 - 1))) st:=by
 unfold xo1
 refine zw5 (I:=fun x (c:AscSt) st'=>st'=st/\c.1=none/\c.2=x/\Seg rk (zv st) lo (lo+c.2)) ?_ ?_ ⟨rfl,rfl,rfl,hs⟩
 ·intro ff hff
  rintro x ⟨r,n⟩ st' h3 h4 ⟨rfl,rfl,rfl,hs⟩
  subst hff
  dsimp only at h3 h4 hs |-
  refine zZ (yw2 ha hk ht (bl h4 hn) (t2 (uy ..) (bl h4 hn)) ?_)
  dsimp only
  by_cases hc:Rk rk (zv st') (lo+n)<Rk rk (zv st') (lo+n - 1)
  ·rw [decide_eq_true hc]
   exact zK ⟨rfl,rfl,h3,zq h4,hs,fun _=>hc⟩
  ·rw [decide_eq_false hc]
   refine zK ⟨rfl,rfl,rfl,fun k l g1 g2 g3=>?_⟩
   dsimp only at g3
   by_cases e:l=lo+n
   ·subst e
    by_cases e2:k=lo+n
    ·subst e2; exact zW _
    ·exact qw (hs k (lo+n - 1) g1 (p2 g2 e2) (p1 (qw h1 h3))) (zk hc)
   ·exact hs k l g1 g2 (ls1 g3 e)
 ·rintro ⟨r,n⟩ st' ⟨rfl,rfl,e,hs⟩
  dsimp only at e hs |-
  exact ⟨rfl,rfl,by bv_omega,by bv_omega,hs,fun h=>by bv_omega⟩
noncomputable def wn2 (rk:qK->Nat) (lo nrem:Nat) (st:x8) (r:Option Nat) (st':x8):Prop:=∃ n,r=some n/\1<=n/\n<=nrem/\Kp lo st st'/\Seg rk (zv st') lo (lo+n)
theorem yk4 (ha:Asks prog w A s κ T rk) {st:x8} (hk:kindOf st=κ) (ht:Tt T (zv st)) {lo n nrem:Nat} (h1:1<=n) (h2:n<=nrem) (hn:lo+nrem<=(zv st).size) (hd:Fal rk (zv st) lo (lo+n)) :
  wpS (zQ prog w) A E s (yr2 lo n nrem) (wn2 rk lo nrem st) st:=by
 unfold yr2
 rw [reverseSlice'_eq]
 refine zZ (yJ ?_)
 have pm:Pm lo (zv st) (mirror (zv st) lo (lo+n) ((lo+n - lo) / 2)):=zc8 (by bv_omega) (zW _)
 refine zZ (jW (xt7 ha (st:=setArr st (mirror (zv st) lo (lo+n) ((lo+n - lo) / 2))) hk (ht.perm pm.perm) h1 h2 (by rw [pm.size]; exact hn) fun k l g1 g2 g3=>?_) ?_)
 ·rw [yv6 (by bv_omega),yv6 (by bv_omega),if_pos ⟨g1,by bv_omega⟩,if_pos ⟨by bv_omega,g3⟩]
  exact hd _ _ (mi1 g3) (Nat.sub_le_sub_left g2 _) (mi2 g1 (t2 g2 g3))
 ·rintro ⟨r,m⟩ st' ⟨rfl,rfl,q1,q2,q3,q4⟩
  exact zK ⟨m,rfl,qw h1 q1,q2,Kp.set pm,q3⟩
theorem yo1 (ha:Asks prog w A s κ T rk) {st:x8} (hk:kindOf st=κ) (ht:Tt T (zv st)) {lo n nrem:Nat} (h1:1<=n) (h2:n<nrem) (hn:lo+nrem<=(zv st).size) (hd:Fal rk (zv st) lo (lo+(n+1))) :
  wpS (zQ prog w) A E s (ye1 lo n nrem) (wn2 rk lo nrem st) st:=by
 unfold ye1
 refine zZ (wpS_lift (QJ ⟨rfl,?_⟩))
 refine zZ (jW (Q:=fun (c:DescSt) st'=>c.1=none/\Kp lo st st'/\c.2.2+1<=c.2.1/\c.2.1<=nrem/\Fal rk (zv st') lo (lo+c.2.1)/\∀ i,lo+c.2.1 - (c.2.2+1)<=i->i<lo+c.2.1->Rk rk (zv st') i=Rk rk (zv st') (lo+c.2.1 - 1)) ?_ ?_)
 ·unfold ye2
  refine zw5 (I:=fun x (c:DescSt) st'=>c.1=none/\c.2.1=x/\Kp lo st st'/\c.2.2+1<=c.2.1/\Fal rk (zv st') lo (lo+c.2.1)/\∀ i,lo+c.2.1 - (c.2.2+1)<=i->i<lo+c.2.1->Rk rk (zv st') i=Rk rk (zv st') (lo+c.2.1 - 1)) ?_ ?_ ⟨rfl,rfl,Kp.rfl' _ _,by dsimp only; bv_omega,hd,fun i g1 g2=>by dsimp only at g1 g2 |-; rw [ls2 g1 g2]⟩
  ·intro ff hff
   rintro x ⟨r,m,q⟩ st' h3 h4 ⟨rfl,rfl,K,hq,hd,he⟩
   subst hff
   dsimp only at h3 h4 hq hd he |-
   have hsz:=K.pm.size
   refine zZ (yw2 ha (K.kind.trans hk) (ht.perm K.pm.perm) (by bv_omega) (by bv_omega) ?_)
   dsimp only
   have grow:Rk rk (zv st') (lo+m)<=Rk rk (zv st') (lo+m - 1)->Fal rk (zv st') lo (lo+(m+1)):=fun hle k l g1 g2 g3=>by
    by_cases e:l=lo+m
    ·subst e
     by_cases e2:k=lo+m
     ·subst e2; exact zW _
     ·exact qw hle (hd k (lo+m - 1) g1 (p2 g2 e2) (p1 (qw (w7 1 n) h3)))
    ·exact hd k l g1 g2 (ls1 g3 e)
   by_cases hc:Rk rk (zv st') (lo+m)<Rk rk (zv st') (lo+m - 1)
   ·rw [decide_eq_true hc,if_pos rfl]
    have g:=grow (zq hc)
    refine zz6 (fun hp=>?_) fun hp=>?_
    ·rw [reverseSlice'_eq]
     have pm:Pm lo (zv st') (mirror (zv st') (lo+m - (q+1)) (lo+m) ((lo+m - (lo+m - (q+1))) / 2)):=zc8 (by bv_omega) (ls3 hq)
     have hsame:=ze8 (rk:=rk) (a:=zv st') (i:=lo+m - (q+1)) (j:=lo+m) (by bv_omega) he
     refine zZ (yJ (zK ⟨rfl,rfl,K.trans (Kp.set pm),by dsimp only; bv_omega,fun k l g1 g2 g3=>?_,fun i g1 g2=>?_⟩))
     ·rw [hsame,hsame]; exact g k l g1 g2 g3
     ·dsimp only at g1 g2 |-; rw [show i=lo+(m+1) - 1 from ls2 g1 g2]
    ·refine zK ⟨rfl,rfl,K,by dsimp only; bv_omega,g,fun i g1 g2=>?_⟩
     dsimp only at g1 g2 |-; rw [show i=lo+(m+1) - 1 by bv_omega]
   ·rw [decide_eq_false hc,if_neg qj]
    refine zZ (yw2 ha (K.kind.trans hk) (ht.perm K.pm.perm) (by bv_omega) (by bv_omega) ?_)
    dsimp only
    by_cases hc2:Rk rk (zv st') (lo+m - 1)<Rk rk (zv st') (lo+m)
    ·rw [decide_eq_true hc2,if_pos rfl]
     exact zK ⟨rfl,K,hq,by dsimp only; bv_omega,hd,he⟩
    ·rw [decide_eq_false hc2,if_neg qj]
     have heq:Rk rk (zv st') (lo+m)=Rk rk (zv st') (lo+m - 1):=k9 (zk hc2) (zk hc)
     refine zK ⟨rfl,rfl,K,by dsimp only; bv_omega,grow (zX heq),fun i g1 g2=>?_⟩
     dsimp only at g1 g2 |-
     rw [show lo+(m+1) - 1=lo+m by bv_omega]
     by_cases e:i=lo+m
     ·subst e; rfl
     ·rw [heq]; exact he i (by bv_omega) (by bv_omega)
  ·rintro ⟨r,m,q⟩ st' ⟨rfl,e,K,hq,hd,he⟩
   dsimp only at e hq hd he |-
   exact ⟨rfl,K,hq,by bv_omega,hd,he⟩
 ·rintro ⟨r,m,q⟩ st' ⟨rfl,K,hq,hm,hd,he⟩
  dsimp only at hq hm hd he |-
  have hsz:=K.pm.size
  refine zz6 (fun hp=>?_) fun hp=>?_
  ·rw [reverseSlice'_eq]
   have pm:Pm lo (zv st') (mirror (zv st') (lo+m - (q+1)) (lo+m) ((lo+m - (lo+m - (q+1))) / 2)):=zc8 (by bv_omega) (by bv_omega)
   have hsame:=ze8 (rk:=rk) (a:=zv st') (i:=lo+m - (q+1)) (j:=lo+m) (by bv_omega) he
   refine zZ (yJ ?_)
   refine jW (yk4 ha (st:=setArr st' (mirror (zv st') (lo+m - (q+1)) (lo+m) ((lo+m - (lo+m - (q+1))) / 2))) (K.kind.trans hk) ((ht.perm K.pm.perm).perm pm.perm) (by bv_omega) hm (by rw [pm.size]; bv_omega) fun k l g1 g2 g3=>?_) ?_
   ·rw [hsame,hsame]; exact hd k l g1 g2 g3
   ·rintro r st2 ⟨m',e,q1,q2,K2,q3⟩
    exact ⟨m',e,q1,q2,(K.trans (Kp.set pm)).trans K2,q3⟩
  ·refine jW (yk4 ha (K.kind.trans hk) (ht.perm K.pm.perm) (by bv_omega) hm (by bv_omega) hd) ?_
   rintro r st2 ⟨m',e,q1,q2,K2,q3⟩
   exact ⟨m',e,q1,q2,K.trans K2,q3⟩
theorem xo2 (ha:Asks prog w A s κ T rk) {st:x8} (hk:kindOf st=κ) (ht:Tt T (zv st)) {lo nrem:Nat} (h1:1<=nrem) (hn:lo+nrem<=(zv st).size) :
  wpS (zQ prog w) A E s (countRun' lo nrem) (wn2 rk lo nrem st) st:=by
 rw [xy0]
 refine zw2 fun gg0 hg0=>jW (xt7 ha hk ht (zW _) h1 hn fun k l g1 g2 g3=>by rw [show k=l by bv_omega]; exact zW _) ?_
 rintro ⟨r,n⟩ st' ⟨rfl,rfl,q1,q2,q3,q4⟩
 subst hg0
 dsimp only at q1 q2 q3 q4 |-
 refine zz6 (fun he=>?_) fun he=>?_
 ·exact zK ⟨n,rfl,q1,q2,Kp.rfl' _ _,q3⟩
 ·have e1:n≠nrem:=by simpa using he
  have hlt:=q4 (by bv_omega)
  refine zz6 (fun hp=>?_) fun hp=>?_
  ·refine zZ (yw2 ha hk ht (by bv_omega) (by bv_omega) ?_)
   dsimp only
   by_cases hc:Rk rk (zv st') lo<Rk rk (zv st') (lo+n - 1)
   ·rw [decide_eq_true hc,if_pos rfl]
    exact zK ⟨n,rfl,q1,q2,Kp.rfl' _ _,q3⟩
   ·rw [decide_eq_false hc,if_neg qj,reverseSlice'_eq]
    have hall:∀ k,lo<=k->k<lo+n->Rk rk (zv st') k=Rk rk (zv st') lo:=fun k g1 g2=>k9 (qw (q3 k (lo+n - 1) g1 (ww g2) (p1 q1)) (zk hc)) (q3 lo k (zW _) g1 g2)
    have pm:Pm lo (zv st') (mirror (zv st') lo (lo+n) ((lo+n - lo) / 2)):=zc8 (by bv_omega) (zW _)
    have hsame:=ze8 (rk:=rk) (a:=zv st') (i:=lo) (j:=lo+n) (by bv_omega) hall
    refine zZ (yJ ?_)
    refine jW (yo1 ha (st:=setArr st' (mirror (zv st') lo (lo+n) ((lo+n - lo) / 2))) hk (ht.perm pm.perm) q1 (by bv_omega) (by rw [pm.size]; bv_omega) fun k l g1 g2 g3=>?_) ?_
    ·rw [hsame,hsame]
     by_cases e:l=lo+n
     ·subst e
      by_cases e2:k=lo+n
      ·subst e2; exact zW _
      ·rw [hall k g1 (by bv_omega),<- hall (lo+n - 1) (ww (Nat.lt_add_of_pos_right q1)) (p1 q1)]; exact zq hlt
     ·rw [hall k g1 (by bv_omega),hall l (by bv_omega) (by bv_omega)]; exact zW _
    ·rintro r st2 ⟨m',e,q1,q2,K2,q3⟩
     exact ⟨m',e,q1,q2,(Kp.set pm).trans K2,q3⟩
  ·have e2:n=1:=by bv_omega
   subst e2
   refine yo1 ha hk ht (zW _) (by bv_omega) hn fun k l g1 g2 g3=>?_
   by_cases e:k=l
   ·subst e; exact zW _
   ·rw [show k=lo+1 - 1 by bv_omega,show l=lo+1 by bv_omega]; exact zq hlt
theorem xt8 (ha:Asks prog w A s κ T rk) {st:x8} (hk:kindOf st=κ) (ht:Tt T (zv st)) {lo n ok:Nat} (h1:1<=ok) (hok:ok<=n) (hn:lo+n<=(zv st).size) (hs:Seg rk (zv st) lo (lo+ok)) {Q:Bool->x8->Prop}
  (h:∀ st',Kp lo st st'->Seg rk (zv st') lo (lo+n)->Q true st'):wpS (zQ prog w) A E s (binarySort' lo n ok) Q st:=by
 rw [binarySort'_eq]
 refine zw2 fun gg hgg=>?_
 refine jW (zw5 (I:=fun k c st'=>c=(none,())/\Kp lo st st'/\Seg rk (zv st') lo (lo+k))
  (Q:=fun c st'=>c=(none,())/\Kp lo st st'/\Seg rk (zv st') lo (lo+n)) ?step ?fin ?init) ?post
 case post =>
  rintro c st' ⟨rfl,K,hs'⟩
  subst hgg
  exact zK (h st' K hs')
 case init=>exact ⟨rfl,Kp.rfl' _ _,by rw [Nat.max_eq_left h1]; exact hs⟩
 case fin =>
  rintro c st' ⟨hc,K,hs'⟩
  refine ⟨hc,K,?_⟩
  rwa [Nat.max_eq_left h1,Nat.max_eq_right hok] at hs'
 case step =>
  intro ff hff
  rintro k c st' hak hkn ⟨rfl,K,hs'⟩
  subst hff
  have hsz:=K.pm.size
  refine zw2 fun gg hgg=>?_
  refine jW (zw5 (I:=fun x c st''=>st''=st'/\∃ l r,c=(none,l,r)/\l<=r/\r<=k/\r - l<=k - x /\
    (∀ i,i<l->Rk rk (zv st') (lo+i)<=Rk rk (zv st') (lo+k))/\(∀ i,r<=i->i<k->Rk rk (zv st') (lo+k)<Rk rk (zv st') (lo+i)))
   (Q:=fun c st''=>st''=st'/\∃ l r,c=(none,l,r)/\l<=k /\
    (∀ i,i<l->Rk rk (zv st') (lo+i)<=Rk rk (zv st') (lo+k))/\(∀ i,l<=i->i<k->Rk rk (zv st') (lo+k)<Rk rk (zv st') (lo+i))) ?istep ?ifin ?iinit) ?ipost
  case iinit=>exact ⟨rfl,0,k,rfl,by bv_omega,by bv_omega,by bv_omega,fun i hi=>by bv_omega,fun i h1 h2=>by bv_omega⟩
  case ifin =>
   rintro c st'' ⟨rfl,l,r,rfl,hlr,hrk,hm,hlo,hhi⟩
   have:=hfz hlr hm
   subst this
   exact ⟨rfl,l,l,rfl,hrk,hlo,hhi⟩
  case istep =>
   intro ff hff
   rintro x c st'' _ hxk ⟨rfl,l,r,rfl,hlr,hrk,hm,hlo,hhi⟩
   subst hff
   dsimp only
   refine zz6 (fun hge=>?_) fun hge=>?_
   ·have:l=r:=k9 hlr hge
    subst this
    exact zK ⟨rfl,l,l,rfl,hrk,hlo,hhi⟩
   ·refine zZ (yw2 ha (K.kind.trans hk) (ht.perm K.pm.perm) (Nat.lt_of_lt_of_eq (bl hkn hn) hsz.symm) (Nat.lt_of_lt_of_eq (bl (t1 (hg1 hge) (qw hrk (zq hkn))) hn) hsz.symm) ?_)
    dsimp only
    by_cases hless:Rk rk (zv st'') (lo+k)<Rk rk (zv st'') (lo+(l+r) / 2)
    ·rw [decide_eq_true hless,if_pos rfl]
     refine zK ⟨rfl,l,(l+r) / 2,rfl,hg0 hge,zq (t1 (hg1 hge) hrk),hg3 hge hm,hlo,fun i h1 h2=>?_⟩
     exact jQ hless (hs' _ _ (by bv_omega) (by bv_omega) (by bv_omega))
    ·rw [decide_eq_false hless,if_neg qj]
     refine zK ⟨rfl,(l+r) / 2+1,r,rfl,hg1 hge,hrk,hg2 hge hm,fun i h1=>?_,hhi⟩
     exact qw (hs' (lo+i) (lo+(l+r) / 2) (qQ ..) (qZ (yj h1) _) (yZ (t1 (hg1 hge) hrk) _)) (zk hless)
  case ipost =>
   rintro c st'' ⟨rfl,l,r,rfl,hlk,hlo,hhi⟩
   subst hgg
   show wpS _ _ _ _ (do moveDown' (lo+k) (lo+l); pure (wZ (none,()))) _ _
   rw [moveDown'_eq]
   have pm:Pm lo (zv st'') (bubble (zv st'') (lo+k) (lo+k - (lo+l))):=xh9 (by bv_omega) (by bv_omega) (by bv_omega)
   refine zZ (yJ (zK ⟨rfl,K.trans (Kp.set pm),?_⟩))
   intro i j hi hij hj
   show Rk rk (bubble (zv st'') (lo+k) (lo+k - (lo+l))) i<=Rk rk (bubble (zv st'') (lo+k) (lo+k - (lo+l))) j
   rw [yj6 (by bv_omega) (by bv_omega),yj6 (by bv_omega) (by bv_omega)]
   have hlo':∀ i,lo<=i->i<lo+l->Rk rk (zv st'') i<=Rk rk (zv st'') (lo+k):=fun i g1 g2=>by
    have:=hlo (i - lo) (p3 g1 g2)
    rwa [wX g1] at this
   have hhi':∀ i,lo+l<=i->i<lo+k->Rk rk (zv st'') (lo+k)<=Rk rk (zv st'') i:=fun i g1 g2=>by
    have:=hhi (i - lo) (p5 g1) (p4 g1 g2)
    rw [p6 g1] at this
    exact zq this
   exact bub (f:=fun i=>Rk rk (zv st'') i) hs' hlo' hhi' (qQ ..) (qZ hlk _) hi hij hj
end
noncomputable def zb1 (a:Array qK) (off:Nat) (l:List qK):Array qK:=l.zipIdx.foldl (fun a (p,j)=>a.setIfInBounds (off+j) p) a
theorem ya1 (i:Nat):mergeAt' i=(do
 let st <- get
 let (some (sa,na,power),some (sb,nb,_)):=((zV st)[i]?,(zV st)[i+1]?)|unsupported "internal:list.sort.pending"
 set (setPending st (((zV st).setIfInBounds i (sa,na+nb,power)).eraseIdxIfInBounds (i+1)))
 let some k <- zr4 false (<- y6 (zv st) sb) (zv st) sa na 0|return false
 let (sa,na):=(sa+k,na - k)
 if na==0 then return true
 let some nb <- zr4 true (<- y6 (zv st) (sa+na - 1)) (zv st) sb nb (nb - 1)|return false
 if nb==0 then return true
 let x:=(zv st).extract sa sb
 let y:=(zv st).extract sb (sb+nb)
 let merged <- if na<=nb then yx8 x y else yx9 x y
 modify fun st=>setArr st (zb1 (zv st) sa merged.toList)
 return (kz (<- get)).isNone):=rfl
theorem wx3 (off:Nat):∀ (l:List qK) (n:Nat) (a:Array qK) (pre mid post:List qK),a.toList=pre++(mid++post)->pre.length=off+n->mid.length=l.length ->
  ((l.zipIdx n).foldl (fun a (p:qK×Nat)=>a.setIfInBounds (off+p.2) p.1) a).toList=pre++(l++post)
 | [],n,a,pre,mid,post,h,hp,hm=>by
  have:mid=[]:=kj.mp hm
  subst this
  simpa using h
 | p::l,n,a,pre,[],post,h,hp,hm=>by simp at hm
 | p::l,n,a,pre,m::mid,post,h,hp,hm=>by
  rw [List.zipIdx_cons,List.foldl_cons]
  have e:(a.setIfInBounds (off+n) p).toList=(pre++[p])++(mid++post):=by
   rw [Array.toList_setIfInBounds,h,<- hp]
   simp
  have:=wx3 off l (n+1) (a.setIfInBounds (off+n) p) (pre++[p]) mid post e (by simp; bv_omega) (by simpa using hm)
  rw [this]
  simp
theorem xv9 {a:Array qK} {off:Nat} {l:List qK} (h:off+l.length<=a.size):(zb1 a off l).toList=(a.extract 0 off).toList++(l++(a.extract (off+l.length) a.size).toList):=by
 unfold zb1
 refine wx3 off l 0 a (a.extract 0 off).toList (a.extract off (off+l.length)).toList _ ?_ (by simp; bv_omega) (by simp; exact vX (p5 h))
 have h1:=zg8 (a:=a) (i:=off) (k:=a.size) (by bv_omega) (zW _)
 have h2:=zb5 (a:=a) (i:=off) (k:=l.length) h
 rw [<- h2,<- h1]
 simp
theorem ya6 {a:Array qK} {off:Nat} {l:List qK} (h:off+l.length<=a.size) (k:Nat):(zb1 a off l)[k]?=if off<=k/\k<off+l.length then l[k - off]? else a[k]?:=by
 rw [<- wj,xv9 h]
 have l1:(a.extract 0 off).toList.length=off:=by simp; exact vX (qw (qQ ..) h)
 by_cases h1:k<off
 ·rw [if_neg (by bv_omega),xV (by rw [l1]; exact h1),wj,QQ (lg4 h1 h)]
  simp
 ·rw [wW (by rw [l1]; bv_omega),l1]
  by_cases h2:k<off+l.length
  ·rw [if_pos ⟨zk h1,h2⟩,xV (p3 (zk h1) h2)]
  ·rw [if_neg (by bv_omega),wW (p5 (zk h2)),wj]
   by_cases h3:k<a.size
   ·rw [QQ (lg1 h2 h3),<- xZ]
    congr 1
    exact lg2 h2
   ·rw [Array.getElem?_eq_none (by simp; exact lg3 h2 h3),Array.getElem?_eq_none (zk h3)]
theorem xc8 {a:Array qK} {off:Nat} {l:List qK} (h:off+l.length<=a.size) (hp:l.Perm (a.extract off (off+l.length)).toList):(zb1 a off l).Perm a:=by
 rw [Array.perm_iff_toList_perm,xv9 h]
 have h1:=zg8 (a:=a) (i:=off) (k:=a.size) (by bv_omega) (zW _)
 have h2:=zb5 (a:=a) (i:=off) (k:=l.length) h
 have e:a.toList=(a.extract 0 off).toList++((a.extract off (off+l.length)).toList++(a.extract (off+l.length) a.size).toList):=by
  rw [<- h2,<- h1]; simp
 exact yx (wK.append_left _ (wK.append_right _ hp)) (wK.of_eq e.symm)
section
variable {prog:vw} {w:wy} {A:xx} {E:qq->qv->Prop} {s:qv} {κ:SortKind} {T:qK->Prop} {rk:qK->Nat}
structure MA (rk:qK->Nat) (i sa e:Nat) (row:Nat×Nat×Nat) (st st':x8):Prop where
 kind:kindOf st'=kindOf st
 fail:kz st'=kz st
 pend:zV st'=((zV st).setIfInBounds i row).eraseIdxIfInBounds (i+1)
 perm:(zv st').Perm (zv st)
 seg:Seg rk (zv st') sa e
 out:∀ k,k<sa\/e<=k->(zv st')[k]?=(zv st)[k]?
theorem yz8 {a:Array qK} {i j k:Nat} (h:i+k<j) (hj:j<=a.size):Rk rk (a.extract i j) k=Rk rk a (i+k):=zs2 (by rw [QQ (lg5 h hj),xZ])
theorem xu3 {a:Array qK} {i j k:Nat} (h:i+k<j) (hj:j<=a.size):(a.extract i j).getD k Zk=a.getD (i+k) Zk:=by
 rw [w3,w3,QQ (lg5 h hj),xZ]
theorem ye6 (ha:Asks prog w A s κ T rk) {st:x8} (hk:kindOf st=κ) (hf:kz st=none) (ht:Tt T (zv st)) {i sa na pw sb nb q:Nat} (p1:(zV st)[i]?=some (sa,na,pw)) (p2:(zV st)[i+1]?=some (sb,nb,q))
  (e0:sb=sa+na) (n1:1<=na) (n2:1<=nb) (hz:sb+nb<=(zv st).size) (s1:Seg rk (zv st) sa sb) (s2:Seg rk (zv st) sb (sb+nb)) {Q:Bool->x8->Prop}
  (h:∀ st',MA rk i sa (sb+nb) (sa,na+nb,pw) st st'->Q true st'):wpS (zQ prog w) A E s (mergeAt' i) Q st:=by
 subst e0
 rw [ya1]
 refine zZ (wpS_get ?_)
 rw [p1,p2]
 dsimp only
 refine zZ (yJ (f:=fun _=>setPending st (((zV st).setIfInBounds i (sa,na+nb,pw)).eraseIdxIfInBounds (i+1))) ?_)
 refine zZ (zy1 (zy3 (bl n2 hz)) ?_)
 refine zZ (zp6 ha (by exact hk) (ht.get (bl n2 hz)) n1 (p7 hz) (fun j hj=>ht.get (bl hj (p7 hz))) (fun j l hjl hl=>s1 _ _ (qQ ..) (qZ hjl _) (yZ hl _)) fun k k1 k2 k3=>?_)
 dsimp only
 have low:∀ j,sa<=j->j<sa+k->Rk rk (zv st) j<=Rk rk (zv st) (sa+na):=fun j g1 g2=>by
  have:=wo4 (k2 (j - sa) (p3 g1 g2))
  rwa [wX g1] at this
 have high:∀ j,sa+k<=j->j<sa+na->Rk rk (zv st) (sa+na)<Rk rk (zv st) j:=fun j g1 g2=>by
  have:=xg5 (k3 (j - sa) (p5 g1) (p4 g1 g2))
  rwa [p6 g1] at this
 refine zz6 (fun hc=>?_) fun hc=>?_
 ·have ek:na - k=0:=by simpa using hc
  refine zK (h _ ⟨rfl,rfl,rfl,Array.Perm.refl _,fun p l g1 g2 g3=>?_,fun _ _=>rfl⟩)
  show Rk rk (zv st) p<=Rk rk (zv st) l
  by_cases c1:l<sa+na
  ·exact s1 p l g1 g2 c1
  ·by_cases c2:p<sa+na
   ·exact qw (low p g1 (t1 c2 (qZ (Nat.le_of_sub_eq_zero ek) _))) (s2 (sa+na) l (zW _) (zk c1) g3)
   ·exact s2 p l (zk c2) g2 g3
 ·have ek:na - k≠0:=by simpa using hc
  refine zZ (zy1 (zy3 (ma1 k1 n1 hz)) ?_)
  refine zZ (zp6 ha (by exact hk) (ht.get (ma1 k1 n1 hz)) (p9 n2) hz (fun j hj=>ht.get (bl hj hz)) (fun j l hjl hl=>s2 _ _ (qQ ..) (qZ hjl _) (yZ hl _)) fun m m1 m2 m3=>?_)
  dsimp only
  have blow:∀ j,sa+na<=j->j<sa+na+m->Rk rk (zv st) j<Rk rk (zv st) (sa+na - 1):=fun j g1 g2=>by
   have:=wo3 (m2 (j - (sa+na)) (p3 g1 g2))
   rwa [wX g1,show rk ((zv st).getD (sa+k+(na - k) - 1) (wz,wz))=Rk rk (zv st) (sa+k+(na - k) - 1) from rfl,ma2 k1] at this
  have bhigh:∀ j,sa+na+m<=j->j<sa+na+nb->Rk rk (zv st) (sa+na - 1)<=Rk rk (zv st) j:=fun j g1 g2=>by
   have:=xg4 (m3 (j - (sa+na)) (p5 g1) (p4 g1 g2))
   rwa [p6 g1,show rk ((zv st).getD (sa+k+(na - k) - 1) (wz,wz))=Rk rk (zv st) (sa+k+(na - k) - 1) from rfl,ma2 k1] at this
  refine zz6 (fun hc2=>?_) fun hc2=>?_
  ·have em:m=0:=by simpa using hc2
   refine zK (h _ ⟨rfl,rfl,rfl,Array.Perm.refl _,fun p l g1 g2 g3=>?_,fun _ _=>rfl⟩)
   show Rk rk (zv st) p<=Rk rk (zv st) l
   by_cases c1:l<sa+na
   ·exact s1 p l g1 g2 c1
   ·by_cases c2:p<sa+na
    ·exact qw (s1 p (sa+na - 1) g1 (ww c2) (Snd.p1 n1)) (bhigh l (by rw [em]; exact zk c1) g3)
    ·exact s2 p l (zk c2) g2 g3
  ·have em:m≠0:=by simpa using hc2
   have sx:((zv st).extract (sa+k) (sa+na)).size=na - k:=Array.size_extract.trans (ma3 hz)
   have sy:((zv st).extract (sa+na) (sa+na+m)).size=m:=Array.size_extract.trans (ma4 hz m1)
   have zm:sa+na+m<=(zv st).size:=qw (qZ m1 _) hz
   have my:∀ {j},j<((zv st).extract (sa+na) (sa+na+m)).size->sa+na+j<sa+na+m:=fun hj=>yZ (Nat.lt_of_lt_of_eq hj sy) _
   have x1:1<=((zv st).extract (sa+k) (sa+na)).size:=by rw [sx]; exact Nat.pos_of_ne_zero ek
   have y1:1<=((zv st).extract (sa+na) (sa+na+m)).size:=by rw [sy]; exact Nat.pos_of_ne_zero em
   have D:Two T rk ((zv st).extract (sa+k) (sa+na)) ((zv st).extract (sa+na) (sa+na+m)):=by
    refine ⟨fun j hj=>?_,fun j hj=>?_,fun j l hjl hl=>?_,fun j l hjl hl=>?_,x1,y1,fun j hj=>?_,fun j hj=>?_⟩
    ·rw [xu3 (ma5 sx hj) (p7 hz)]; exact ht.get (t1 (ma5 sx hj) (p7 hz))
    ·rw [xu3 (my hj) zm]; exact ht.get (t1 (my hj) zm)
    ·rw [yz8 (ma5 sx (t2 hjl hl)) (p7 hz),yz8 (ma5 sx hl) (p7 hz)]; exact s1 _ _ p8 (qZ hjl _) (ma5 sx hl)
    ·rw [yz8 (my (t2 hjl hl)) zm,yz8 (my hl) zm]; exact s2 _ _ (qQ ..) (qZ hjl _) (t1 (my hl) (qZ m1 _))
    ·rw [yz8 (my y1) zm,yz8 (ma5 sx hj) (p7 hz)]; exact zq (high _ (qQ ..) (ma5 sx hj))
    ·rw [yz8 (my hj) zm,yz8 (ma5 sx (p9 x1)) (p7 hz),ma6 sx k1 ek]
     exact zq (blow _ (qQ ..) (my hj))
   have fin:∀ r st',Same (setPending st (((zV st).setIfInBounds i (sa,na+nb,pw)).eraseIdxIfInBounds (i+1))) st'->zn2 rk ((zv st).extract (sa+k) (sa+na)) ((zv st).extract (sa+na) (sa+na+m)) r ->
     wpS (zQ prog w) A E s (do
      modify fun st=>setArr st (zb1 (zv st) (sa+k) r.toList)
      return (kz (<- get)).isNone) Q st':=by
    intro r st' S M
    obtain ⟨mp,ms⟩:=M
    have hlen:r.toList.length=na - k+m:=by rw [mp.length_eq,z9,vk,vk,sx,sy]
    have hfit:sa+k+r.toList.length<=(zv st).size:=by rw [ma7 hlen k1]; exact zm
    have ejoin:((zv st).extract (sa+k) (sa+k+r.toList.length)).toList=((zv st).extract (sa+k) (sa+na)).toList++((zv st).extract (sa+na) (sa+na+m)).toList:=by
     rw [<- w6,Array.extract_append_extract]
     congr 2
     ·bv_omega
     ·rw [ma7 hlen k1]; exact (Nat.max_eq_right (qQ ..)).symm
    refine zZ (yJ (zZ (wpS_get ?_)))
    have e1:kz (setArr st' (zb1 (zv st') (sa+k) r.toList))=none:=S.fail.trans hf
    rw [e1]
    refine zK (h _ ⟨S.kind,S.fail,S.pend,?_,?_,?_⟩)
    ·show (zb1 (zv st') (sa+k) r.toList).Perm (zv st)
     rw [S.arr]
     exact xc8 hfit (by rw [ejoin]; exact mp)
    ·show Seg rk (zb1 (zv st') (sa+k) r.toList) sa (sa+na+nb)
     rw [S.arr]
     show Seg rk (zb1 (zv st) (sa+k) r.toList) sa (sa+na+nb)
     have gout:∀ p,p<sa+k\/sa+na+m<=p->Rk rk (zb1 (zv st) (sa+k) r.toList) p=Rk rk (zv st) p:=fun p hp=>zs2 (by rw [ya6 hfit,if_neg (ma8 (ma7 hlen k1) hp)])
     have gin:∀ p,sa+k<=p->p<sa+na+m->∃ x,r.toList[p - (sa+k)]?=some x/\Rk rk (zb1 (zv st) (sa+k) r.toList) p=rk x:=fun p g1 g2=>by
      have g3:=Nat.lt_of_lt_of_eq g2 (ma7 hlen k1).symm
      have hp:p - (sa+k)<r.toList.length:=p3 g1 g3
      refine ⟨_,qJ hp,?_⟩
      unfold Rk
      rw [w3,ya6 hfit,if_pos ⟨g1,g3⟩,qJ hp]
      rfl
     have mem:∀ p x,r.toList[p]?=some x->(∃ j,sa+k<=j/\j<sa+na/\rk x=Rk rk (zv st) j)\/∃ j,sa+na<=j/\j<sa+na+m/\rk x=Rk rk (zv st) j:=fun p x hx=>by
      have hm:=mp.mem_iff.mp (w9 hx)
      rcases qW.mp hm with hm|hm
      ·(refine Mini.elEAAA (zy5 hm) fun j g1 g2 g3 e_4=>?_; subst e_4)
       exact .inl ⟨j,g1,g2,rfl⟩
      ·(refine Mini.elEAAA (zy5 hm) fun j g1 g2 g3 e_4=>?_; subst e_4)
       exact .inr ⟨j,g1,g2,rfl⟩
     intro p l g1 g2 g3
     by_cases c1:l<sa+k
     ·rw [gout p (.inl (t2 g2 c1)),gout l (.inl c1)]; exact s1 p l g1 g2 (t1 c1 (qZ k1 _))
     ·by_cases c2:l<sa+na+m
      ·refine Mini.elEA (gin l (zk c1) c2) fun y hy ey=>?_
       rw [ey]
       by_cases c3:p<sa+k
       ·rw [gout p (.inl c3)]
        rcases mem _ y hy with ⟨j,j1,j2,e⟩|⟨j,j1,j2,e⟩
        ·rw [e]; exact s1 p j g1 (zq (t1 c3 j1)) j2
        ·rw [e]; exact qw (low p g1 c3) (s2 (sa+na) j (zW _) j1 (t1 j2 (qZ m1 _)))
       ·refine Mini.elEA (gin p (zk c3) (t2 g2 c2)) fun x hx ex=>?_
        rw [ex]
        by_cases c4:p=l
        ·subst c4
         rw [hx] at hy
         cases hy
         exact zW _
        ·obtain ⟨q1,q2⟩:=z6.mp hx
         obtain ⟨q3,q4⟩:=z6.mp hy
         have:=(List.pairwise_iff_getElem.mp ms) (p - (sa+k)) (l - (sa+k)) q1 q3 (Nat.sub_lt_sub_right (zk c3) (j7 g2 c4))
         rwa [q2,q4] at this
      ·rw [gout l (.inr (zk c2))]
       by_cases c3:p<sa+k
       ·rw [gout p (.inl c3)]
        exact qw (low p g1 c3) (s2 (sa+na) l (zW _) (p7 (zk c2)) g3)
       ·by_cases c4:p<sa+na+m
        ·refine Mini.elEA (gin p (zk c3) c4) fun x hx ex=>?_
         rw [ex]
         rcases mem _ x hx with ⟨j,j1,j2,e⟩|⟨j,j1,j2,e⟩
         ·rw [e]; exact qw (s1 j (sa+na - 1) (qw (qQ ..) j1) (ww j2) (Snd.p1 n1)) (bhigh l (zk c2) g3)
         ·rw [e]; exact s2 j l j1 (zq (t1 j2 (zk c2))) g3
        ·rw [gout p (.inr (zk c4))]; exact s2 p l (p7 (zk c4)) g2 g3
    ·intro p hp
     show (zb1 (zv st') (sa+k) r.toList)[p]?=_
     rw [S.arr]
     show (zb1 (zv st) (sa+k) r.toList)[p]?=_
     rw [ya6 hfit,if_neg (ma8 (ma7 hlen k1) (hp.imp (fun f=>t1 f (qQ ..)) (qw (qZ m1 _))))]
   refine zz6 (fun hn=>?_) fun hn=>?_
   ·exact zZ (ye4 ha D (by exact hk) fin)
   ·exact zZ (ye5 ha D (by exact hk) fin)
end
noncomputable def Chn (rk:qK->Nat) (a:Array qK):List (Nat×Nat)->Nat->Nat->Prop
 | [],i,j=>i=j
 | (s,n)::l,i,j=>s=i/\1<=n/\Seg rk a s (s+n)/\Chn rk a l (s+n) j
theorem wy0 {rk a i j}:Chn rk a [] i j=(i=j):=rfl
theorem Chn.le {rk:qK->Nat} {a:Array qK}:∀ {l:List (Nat×Nat)} {i j:Nat},Chn rk a l i j->i+l.length<=j
 | [],i,j,h=>by simp only [wy0] at h; simp [h]
 | (s,n)::l,i,j,h=>by
  have:=Chn.le h.2.2.2
  have h1:=h.1
  have h2:=h.2.1
  simp only [vZ]; bv_omega
theorem Seg.congr {rk:qK->Nat} {a b:Array qK} {i j:Nat} (h:Seg rk a i j) (e:∀ k,i<=k->k<j->b[k]?=a[k]?):Seg rk b i j:=fun k l g1 g2 g3=>by
 rw [zs2 (e k g1 (by bv_omega)),zs2 (e l (by bv_omega) g3)]; exact h k l g1 g2 g3
theorem Chn.congr {rk:qK->Nat} {a b:Array qK}:∀ {l:List (Nat×Nat)} {i j:Nat},Chn rk a l i j->(∀ k,i<=k->k<j->b[k]?=a[k]?)->Chn rk b l i j
 | [],i,j,h,e=>h
 | (s,n)::l,i,j,h,e=>by
  (refine Mini.elAAA (h) fun e_0 h2 h3 h4=>?_; subst e_0)
  have:=h4.le
  exact ⟨rfl,h2,h3.congr fun k g1 g2=>e k g1 (by bv_omega),h4.congr fun k g1 g2=>e k (qw (qQ ..) g1) g2⟩
theorem Chn.split {rk:qK->Nat} {a:Array qK}:∀ {l m:List (Nat×Nat)} {i j:Nat},Chn rk a (l++m) i j->∃ k,Chn rk a l i k/\Chn rk a m k j
 | [],m,i,j,h=>⟨i,rfl,h⟩
 | (s,n)::l,m,i,j,h=>by
  refine Mini.elEA (Chn.split h.2.2.2) fun k h5 h6=>?_
  exact ⟨k,⟨h.1,h.2.1,h.2.2.1,h5⟩,h6⟩
theorem Chn.join {rk:qK->Nat} {a:Array qK}:∀ {l m:List (Nat×Nat)} {i k j:Nat},Chn rk a l i k->Chn rk a m k j->Chn rk a (l++m) i j
 | [],m,i,k,j,h,g=>by simp only [wy0] at h; subst h; exact g
 | (s,n)::l,m,i,k,j,h,g=>⟨h.1,h.2.1,h.2.2.1,Chn.join h.2.2.2 g⟩
noncomputable def pn (l:Array (Nat×Nat×Nat)):List (Nat×Nat):=l.toList.map fun p=>(p.1,p.2.1)
theorem xw5 (l:Array (Nat×Nat×Nat)):(pn l).length=l.size:=by simp [pn]
theorem xm5 (l:Array (Nat×Nat×Nat)) (i:Nat) (f:Nat×Nat×Nat->Nat×Nat×Nat) (hf:∀ p,(f p).1=p.1/\(f p).2.1=p.2.1):pn (l.modify i f)=pn l:=by
 unfold pn
 rw [Array.toList_modify]
 generalize l.toList=l
 induction l generalizing i with
 | nil=>simp
 | cons x l ih =>
  cases i with
  | zero=>simp [hf]
  | succ i=>simp [ih]
theorem wu8 (l:Array (Nat×Nat×Nat)) (p:Nat×Nat×Nat):pn (l.push p)=pn l++[(p.1,p.2.1)]:=by simp [pn]
theorem pn_at {l:Array (Nat×Nat×Nat)} {i:Nat} {p q:Nat×Nat×Nat} (h1:l[i]?=some p) (h2:l[i+1]?=some q) (row:Nat×Nat×Nat):∃ pre post,pn l=pre++(p.1,p.2.1)::(q.1,q.2.1)::post/\pn ((l.setIfInBounds i row).eraseIdxIfInBounds (i+1))=pre++(row.1,row.2.1)::post:=by
 have hi:i+1<l.size:=by
  rcases Nat.lt_or_ge (i+1) l.size with h|h
  ·exact h
  ·rw [Array.getElem?_eq_none h] at h2; cases h2
 have e1:l.toList=l.toList.take i++p::q::l.toList.drop (i+2):=by
  have a1:l.toList[i]?=some p:=by rw [wj]; exact h1
  have a2:l.toList[i+1]?=some q:=by rw [wj]; exact h2
  obtain ⟨b1,b2⟩:=z6.mp a1
  obtain ⟨c1,c2⟩:=z6.mp a2
  rw [<- b2,<- c2,List.getElem_cons_drop,List.getElem_cons_drop,List.take_append_drop]
 have hl:(l.toList.take i).length=i:=by simp; exact vX (zq (jK hi))
 refine ⟨(l.toList.take i).map fun p=>(p.1,p.2.1),(l.toList.drop (i+2)).map fun p=>(p.1,p.2.1),?_,?_⟩
 ·unfold pn
  conv=>lhs; rw [e1]
  simp
 ·unfold pn
  have e2:((l.setIfInBounds i row).eraseIdxIfInBounds (i+1)).toList=l.toList.take i++row::l.toList.drop (i+2):=by
   rw [Array.eraseIdxIfInBounds]
   rw [dif_pos (by simpa using hi),Array.toList_eraseIdx,Array.toList_setIfInBounds]
   conv=>lhs; rw [e1]
   generalize l.toList.drop (i+2)=post
   have:∀ (pre:List (Nat×Nat×Nat)) (i:Nat),pre.length=i->((pre++p::q::post).set i row).eraseIdx (i+1)=pre++row::post:=by
    intro pre
    induction pre with
    | nil=>intro i hi; simp at hi; subst hi; rfl
    | cons x pre ih =>
     intro i hi
     simp only [vZ] at hi
     subst hi
     simp only [jx,List.set_cons_succ,List.eraseIdx_cons_succ]
     rw [ih _ rfl]
   exact this _ _ hl
  rw [e2]
  simp
section
variable {prog:vw} {w:wy} {A:xx} {E:qq->qv->Prop} {s:qv} {κ:SortKind} {T:qK->Prop} {rk:qK->Nat} {a₀:Array qK}
structure Js (κ:SortKind) (rk:qK->Nat) (a₀:Array qK) (lo:Nat) (st:x8):Prop where
 kind:kindOf st=κ
 fail:kz st=none
 perm:(zv st).Perm a₀
 chn:Chn rk (zv st) (pn (zV st)) 0 lo
 lo:lo<=a₀.size
theorem yr4 (ha:Asks prog w A s κ T rk) (ht:Tt T a₀) {st:x8} {lo i:Nat} (J:Js κ rk a₀ lo st) (hi:i+1<(zV st).size) {Q:Bool->x8->Prop}
  (h:∀ st',Js κ rk a₀ lo st'->(zV st').size+1=(zV st).size->(∀ k,lo<=k->(zv st')[k]?=(zv st)[k]?)->Q true st'):wpS (zQ prog w) A E s (mergeAt' i) Q st:=by
 have g1:(zV st)[i]?=some (zV st)[i]:=xZ (by bv_omega)
 have g2:(zV st)[i+1]?=some (zV st)[i+1]:=xZ hi
 generalize (zV st)[i]=p1 at g1
 generalize (zV st)[i+1]=p2 at g2
 obtain ⟨sa,na,pw⟩:=p1
 obtain ⟨sb,nb,q⟩:=p2
 refine Mini.elEEA (pn_at g1 g2 (sa,na+nb,pw)) fun pre post e1 e2=>?_
 have hc:=J.chn
 rw [e1] at hc
 refine Mini.elEA (hc.split) fun k c1 c2=>?_
 change sa=k/\1<=na/\Seg rk (zv st) sa (sa+na)/\sb=sa+na/\1<=nb/\Seg rk (zv st) sb (sb+nb)/\Chn rk (zv st) post (sb+nb) lo at c2
 refine Mini.elAAAAAA (c2) fun r1 r2 r3 r4 r5 r6 r7=>?_
 subst r1 r4
 have hsz:=J.perm.size_eq
 have l7:=r7.le
 have l1:=c1.le
 have:=J.lo
 refine ye6 ha J.kind J.fail (ht.perm J.perm) g1 g2 rfl r2 r5 (by bv_omega) r3 r6 fun st' M=>?_
 refine h st' ⟨M.kind.trans J.kind,M.fail.trans J.fail,M.perm.trans J.perm,?_,J.lo⟩ ?_ fun p hp=>M.out p (.inr (by bv_omega))
 ·rw [M.pend,e2]
  refine (c1.congr fun p p1 p2=>M.out p (.inl p2)).join ⟨rfl,?_,?_,?_⟩
  ·show 1<=na+nb; bv_omega
  ·show Seg rk _ sa (sa+(na+nb)); rw [show sa+(na+nb)=sa+na+nb by bv_omega]; exact M.seg
  ·show Chn rk _ post (sa+(na+nb)) lo
   rw [show sa+(na+nb)=sa+na+nb by bv_omega]
   exact r7.congr fun p p1 p2=>M.out p (.inr p1)
 ·have q1:=congrArg List.length e1
  have q2:=congrArg List.length e2
  rw [<- M.pend,xw5] at q2
  rw [xw5] at q1
  simp only [z9,vZ] at q1 q2
  bv_omega
noncomputable def yn1 (size lo n:Nat):StateT x8 Sem (ForInStep (Option Unit×Nat)):=do
 let st <- get
 match (zV st).back? with
 | some (s1,n1,_)=>do
  let c <- forIn [0:size] ((none,()):Option Unit×Unit) fun _ _=>do
   let st <- get
   match (if (zV st).size > 1 then (zV st)[(zV st).size - 2]? else none) with
   | some (_,_,older) =>
    if older<=power' size (2*s1+n1) (2*s1+n1+n1+n) size then pure (vV (none,()))
    else do
     let b <- mergeAt' ((zV st).size - 2)
     if (!b)=true then pure (vV (some (),())) else pure (wZ (none,()))
   | _=>pure (vV (none,()))
  match c.fst with
  | some r=>pure (vV (some r,lo))
  | none=>do
   modify fun s=>setPending s ((zV s).modify ((zV s).size - 1) fun x=>(x.fst,x.2.fst,power' size (2*s1+n1) (2*s1+n1+n1+n) size))
   modify fun s=>setPending s ((zV s).push (lo,n,0))
   pure (wZ (none,lo+n))
 | _=>do
  modify fun s=>setPending s ((zV s).push (lo,n,0))
  pure (wZ (none,lo+n))
theorem Js.push {lo n:Nat} {st:x8} (J:Js κ rk a₀ lo st) (n1:1<=n) (n2:n<=a₀.size - lo) (sg:Seg rk (zv st) lo (lo+n)):Js κ rk a₀ (lo+n) (setPending st ((zV st).push (lo,n,0))):=by
 have:=J.lo
 refine ⟨J.kind,J.fail,J.perm,?_,uX this n2⟩
 show Chn rk (zv st) (pn ((zV st).push (lo,n,0))) 0 (lo+n)
 rw [wu8]
 exact J.chn.join ⟨rfl,n1,sg,rfl⟩
theorem yq2 (ha:Asks prog w A s κ T rk) (ht:Tt T a₀) {st:x8} {lo n:Nat} (J:Js κ rk a₀ lo st) (n1:1<=n) (n2:n<=a₀.size - lo) (sg:Seg rk (zv st) lo (lo+n)) {R:ForInStep (Option Unit×Nat)->x8->Prop}
  (h:∀ st',Js κ rk a₀ (lo+n) st'->R (.yield (none,lo+n)) st'):wpS (zQ prog w) A E s (yn1 a₀.size lo n) R st:=by
 unfold yn1
 refine zZ (wpS_get ?_)
 cases e:(zV st).back? with
 | none=>exact zZ (yJ (zK (h _ (J.push n1 n2 sg))))
 | some p =>
  obtain ⟨s1,m1,q⟩:=p
  dsimp only
  generalize power' a₀.size (2*s1+m1) (2*s1+m1+m1+n) a₀.size=pw
  refine zw2 fun gg hgg=>?_
  refine jW (zw5 (I:=fun x c st'=>c.1=none/\Js κ rk a₀ lo st'/\Seg rk (zv st') lo (lo+n)) (Q:=fun c st'=>c.1=none/\Js κ rk a₀ lo st'/\Seg rk (zv st') lo (lo+n)) ?step (fun _ _ h=>h) ⟨rfl,J,sg⟩) ?post
  case post =>
   rintro ⟨r,_⟩ st' ⟨rfl,J',sg'⟩
   subst hgg
   dsimp only
   refine zZ (yJ (zZ (yJ (zK (h _ (Js.push (st:=setPending st' ((zV st').modify ((zV st').size - 1) fun x=>(x.fst,x.2.fst,pw))) ⟨J'.kind,J'.fail,J'.perm,?_,J'.lo⟩ n1 n2 sg'))))))
   show Chn rk (zv st') (pn ((zV st').modify ((zV st').size - 1) fun x=>(x.fst,x.2.fst,pw))) 0 lo
   rw [xm5 (zV st') ((zV st').size - 1) (fun x=>(x.fst,x.2.fst,pw)) fun _=>⟨rfl,rfl⟩]
   exact J'.chn
  case step =>
   intro ff hff
   rintro x ⟨r,_⟩ st' _ hx ⟨rfl,J',sg'⟩
   subst hff
   refine zZ (wpS_get ?_)
   by_cases hc:(zV st').size > 1
   ·rw [if_pos hc,xZ (Nat.sub_lt (Q5 Nat.one_pos hc) Nat.two_pos)]
    generalize (zV st')[(zV st').size - 2]=p
    obtain ⟨x1,x2,older⟩:=p
    dsimp only
    refine zz6 (fun hp=>?_) fun hp=>?_
    ·exact zK ⟨rfl,J',sg'⟩
    ·refine zZ (yr4 ha ht J' (by bv_omega) fun st2 J2 _ keep=>?_)
     exact zK ⟨rfl,J2,sg'.congr fun k g1 _=>keep k g1⟩
   ·rw [if_neg hc]
    exact zK ⟨rfl,J',sg'⟩
theorem ye3 (ha:Asks prog w A s κ T rk) (ht:Tt T a₀) {st:x8} {Q:Unit->x8->Prop} (J:Js κ rk a₀ 0 st) (h2:1<=a₀.size)
  (h:∀ st',(zv st').Perm a₀->kz st'=none->Seg rk (zv st') 0 a₀.size->Q () st'):wpS (zQ prog w) A E s sortRuns' Q st:=by
 rw [sortRuns'_eq]
 refine zZ (wpS_get ?_)
 dsimp only
 have hsz:=J.perm.size_eq
 rw [hsz]
 generalize minRun' a₀.size a₀.size 0=mr
 refine zw2 fun gg hgg=>?_
 refine jW (zw5 (I:=fun x c st'=>c.1=none/\(x<=c.2\/c.2=a₀.size)/\Js κ rk a₀ c.2 st') (Q:=fun c st'=>c.1=none/\Js κ rk a₀ a₀.size st') ?step ?fin ?init) ?post
 case init=>exact ⟨rfl,.inl (zW _),J⟩
 case fin =>
  rintro ⟨r,lo⟩ st' ⟨rfl,q1,J'⟩
  dsimp only at q1 J' |-
  have e:lo=a₀.size:=q1.elim (fun g=>k9 J'.lo (qw (Qw ..) g)) id
  rw [<- e]
  exact ⟨rfl,by rw [e] at J' |-; exact J'⟩
 case step =>
  intro ff hff
  rintro x ⟨r,lo⟩ st' _ hx ⟨rfl,q1,J'⟩
  subst hff
  dsimp only at q1 J' |-
  have hlo:=J'.lo
  have hz:=J'.perm.size_eq
  refine zz6 (fun hc=>?_) fun hc=>?_
  ·have e:lo=a₀.size:=k9 hlo hc
   exact zK ⟨rfl,by rw [<- e]; exact J'⟩
  ·refine zw2 fun gg0 hg0=>jW (xo2 ha J'.kind (ht.perm J'.perm) (lo:=lo) (nrem:=a₀.size - lo) (Z0 (yz hc)) (by rw [hz]; exact zX (wX hlo))) ?_
   rintro r st2 ⟨n,rfl,n1,n2,K,sg⟩
   subst hg0
   dsimp only
   have J2:Js κ rk a₀ lo st2:=⟨K.kind.trans J'.kind,K.fail.trans J'.fail,K.pm.perm.trans J'.perm,by rw [K.pend]; exact J'.chn.congr fun k _ hk=>K.pm.low k hk,hlo⟩
   have next:∀ (m:Nat) (st3:x8),1<=m->Js κ rk a₀ (lo+m) st3->(none:Option Unit)=none/\(x+1<=lo+m\/lo+m=a₀.size)/\Js κ rk a₀ (lo+m) st3:=fun m st3 m1 J3=>⟨rfl,q1.elim (fun g=>.inl (Z5 g m1)) fun g=>absurd (zX g.symm) hc,J3⟩
   have tl:∀ {m m':StateT x8 Sem (ForInStep (Option Unit×Nat))} {R:ForInStep (Option Unit×Nat)->x8->Prop} {st3:x8},m=m'->wpS (zQ prog w) A E s m' R st3->wpS (zQ prog w) A E s m R st3:=fun e h=>e▸h
   have fe:∀ {g g':Nat->Option Unit×Unit->StateT x8 Sem (ForInStep (Option Unit×Unit))} {f f':Option Unit×Unit->StateT x8 Sem (ForInStep (Option Unit×Nat))},g=g'->f=f'->(forIn [0:a₀.size] ((none,()):Option Unit×Unit) g >>= f)=(forIn [0:a₀.size] ((none,()):Option Unit×Unit) g' >>= f'):=by intro _ _ _ _ h1 h2; subst h1 h2; rfl
   refine zz6 (fun hm=>?_) fun hm=>?_
   ·refine zZ (wpS_lift (QJ ⟨rfl,?_⟩))
    refine zZ (xt8 ha J2.kind (ht.perm J2.perm) n1 (Nat.le_min.mpr ⟨n2,zq hm⟩) (by rw [J2.perm.size_eq]; exact uX hlo (k8 ..)) sg fun st3 K3 sg3=>?_)
    have J3:Js κ rk a₀ lo st3:=⟨K3.kind.trans J2.kind,K3.fail.trans J2.fail,K3.pm.perm.trans J2.perm,by rw [K3.pend]; exact J2.chn.congr fun k _ hk=>K3.pm.low k hk,hlo⟩
    rw [if_neg (by simp)]
    refine tl (m':=yn1 a₀.size lo (min (a₀.size - lo) mr)) ?_ (yq2 ha ht J3 (qw n1 (Nat.le_min.mpr ⟨n2,zq hm⟩)) (k8 ..) sg3 ?_)
    ·refine bind_congr fun st=>?_
     cases (zV st).back? with
     | none=>rfl
     | some p =>
      refine fe (funext fun _=>funext fun _=>bind_congr fun st=>?_) (funext fun c=>?_)
      ·cases (if (zV st).size > 1 then (zV st)[(zV st).size - 2]? else none)<;>rfl
      ·obtain ⟨r,u⟩:=c
       cases r<;>rfl
    ·exact fun st4 J4=>next _ st4 (qw n1 (Nat.le_min.mpr ⟨n2,zq hm⟩)) J4
   ·refine tl (m':=yn1 a₀.size lo n) ?_ (yq2 ha ht J2 n1 n2 sg ?_)
    ·refine bind_congr fun st=>?_
     cases (zV st).back? with
     | none=>rfl
     | some p =>
      refine fe (funext fun _=>funext fun _=>bind_congr fun st=>?_) (funext fun c=>?_)
      ·cases (if (zV st).size > 1 then (zV st)[(zV st).size - 2]? else none)<;>rfl
      ·obtain ⟨r,u⟩:=c
       cases r<;>rfl
    ·exact fun st4 J4=>next _ st4 n1 J4
 case post =>
  rintro ⟨r,lo⟩ st' ⟨rfl,J'⟩
  subst hgg
  dsimp only
  have hp0:=J'.chn.le
  rw [xw5] at hp0
  refine zw2 fun gg hgg=>?_
  refine jW (zw5 (I:=fun x c st'=>c.1=none/\Js κ rk a₀ a₀.size st'/\(zV st').size+x<=a₀.size+1) (Q:=fun c st'=>c.1=none/\Js κ rk a₀ a₀.size st'/\(zV st').size<=1) ?step2 ?fin2 ⟨rfl,J',by bv_omega⟩) ?post2
  case fin2 =>
   rintro ⟨r,_⟩ st2 ⟨rfl,J2,q⟩
   exact ⟨rfl,J2,by bv_omega⟩
  case step2 =>
   intro ff hff
   rintro x ⟨r,_⟩ st2 _ hx ⟨rfl,J2,q⟩
   subst hff
   refine zZ (wpS_get ?_)
   refine zz6 (fun hc=>?_) fun hc=>?_
   ·exact zK ⟨rfl,J2,hc⟩
   ·refine zZ (yr4 ha ht J2 ?_ fun st3 J3 e3 _=>zK ⟨rfl,J3,by bv_omega⟩)
    have hb:∀ c:Bool,(if c=true then (zV st2).size - 2 - 1 else (zV st2).size - 2)+1<(zV st2).size:=fun c=>by
     cases c
     ·rw [if_neg qj]; exact w1 hc
     ·rw [if_pos rfl]; exact w2 hc
    exact hb _
  case post2 =>
   rintro ⟨r,_⟩ st2 ⟨rfl,J2,q⟩
   subst hgg
   refine zK (h st2 J2.perm J2.fail ?_)
   have hc:=J2.chn
   have hl:=xw5 (zV st2)
   generalize pn (zV st2)=l at hc hl
   match l,hc,hl with
   | [],hc,_=>simp only [wy0] at hc; bv_omega
   | [(a,n)],hc,_ =>
    (refine Mini.elAAA (hc) fun e_0 _ sg e=>?_; subst e_0)
    simp only [wy0] at e
    rw [<- e]
    exact sg
   | _::_::_,_,hl=>simp only [vZ] at hl; bv_omega
end
open PySem Mini PySem.W PyProof.Rows
section
variable {prog:vw} {w:wy} {A:xx} {E:qq->qv->Prop} {s:qv} {F:Fz}
theorem yj7 {h:Heap} (hin:F.In h):∀ {xs ys:List D} {vs:List qq},RepL w F xs vs->RepL w F ys vs->xs=ys
 | [],[],_,_,_=>rfl
 | [],_::_,vs,r,q=>by refine Mini.elEEA (q) fun v r' e _=>?_; cases r; cases e
 | _::_,[],vs,r,q=>by refine Mini.elEEA (r) fun v r' e _=>?_; cases q; cases e
 | x::xs,y::ys,vs,r,q=>by
  refine Mini.elEEAA (r) fun v r' e a1 a2=>?_
  refine Mini.elEEAA (q) fun u q' e2 b1 b2=>?_
  subst e
  obtain ⟨rfl,rfl⟩:=List.cons.inj e2
  obtain ⟨as,c1⟩:=Rep.reads hin _ a1
  obtain ⟨bs,c2⟩:=Rep.reads hin _ b1
  rw [(Reads.unique c1 _ _ c2).1,yj7 hin a2 b2]
theorem xe0 (hin:F.In s.heap) {ds:List D} {vs:List qq} {κ:SortKind} (r:RepL w F ds vs) (hc:Cmp ds) (kd:Kinded prog w A F ds vs s κ) (h1:1<=ds.length) {Q:x8->qv->Prop}
  (h:∀ st' out,kz st'=none->(zv st').map (·.2)=List.toArray out->RepL w F (zx4 ds) out->Q st' s) :
  zx (zQ prog w) A ((sortRuns').run (Q1 κ (vs.toArray.zip vs.toArray) #[] 7 none)) (fun r s'=>Q r.2 s') E s:=by
 classical
 have hlen:=r.length
 have idx:∀ v:qq,∃ i,v∈vs->i<vs.length/\vs.getD i .none=v:=fun v=>by
  by_cases hv:v∈vs
  ·obtain ⟨i,hi,e⟩:=List.getElem_of_mem hv
   exact ⟨i,fun _=>⟨hi,by rw [uw,qJ hi]; exact e⟩⟩
  ·exact ⟨0,fun q=>absurd q hv⟩
 obtain ⟨ix,hix⟩:=Classical.axiomOfChoice idx
 have pm:(vs.toArray.zip vs.toArray).toList=vs.zip vs:=by simp
 have hT:∀ x:qK,x∈vs.zip vs->x.1=x.2/\x.1∈vs:=fun x hx=>mem_zip_self hx
 have ha:Asks prog w A s κ (fun x=>x∈vs.zip vs) fun x=>zi2 ds (ds.getD (ix x.1) .none):=fun x y hx hy Q q=>by
  obtain ⟨i1,e1⟩:=hix x.1 (hT x hx).2
  obtain ⟨j1,e2⟩:=hix y.1 (hT y hy).2
  have:=kd.ask (ix x.1) (ix y.1) (by bv_omega) (by bv_omega) Q q
  unfold kas_ask at this
  rwa [e1,e2] at this
 have run:=ye3 (E:=E) (a₀:=vs.toArray.zip vs.toArray) (st:=Q1 κ (vs.toArray.zip vs.toArray) #[] 7 none) (Q:=fun _ st'=>Q st' s) ha (fun x hx=>by rwa [pm] at hx) ⟨rfl,rfl,Array.Perm.refl _,rfl,wx _⟩ (by simp; bv_omega) fun st' hp hf sg=>?_
 ·exact k5 run (fun r s' q=>by obtain ⟨rfl,q⟩:=q; exact q) fun _ _ e=>e
 ·have hp':(zv st').toList.Perm (vs.zip vs):=by rw [<- pm]; exact Array.perm_iff_toList_perm.mp hp
  have hmem:∀ x∈(zv st').toList,x.1=x.2/\x.1∈vs:=fun x hx=>hT x (hp'.mem_iff.mp hx)
  refine h st' ((zv st').toList.map (·.2)) hf (by apply Array.toList_inj.mp; simp) ?_
  have dat:∀ v∈vs,Rep w F (ds.getD (ix v) .none) v:=fun v hv=>by
   obtain ⟨i1,e1⟩:=hix v hv
   have:=r.getD_ (i:=ix v) (by bv_omega)
   rwa [e1] at this
  have gen:∀ l:List qq,(∀ v∈l,v∈vs)->RepL w F (l.map fun v=>ds.getD (ix v) .none) l:=fun l=>by
   induction l with
   | nil=>intro _; exact RepL.nil_
   | cons v l ih=>intro hl; exact RepL.cons_ (dat v (hl v (by simp))) (ih fun u hu=>hl u (by simp [hu]))
  have hvs:vs.map (fun v=>ds.getD (ix v) .none)=ds:=yj7 hin (gen vs fun _ h=>h) r
  have hperm:(((zv st').toList.map (·.2)).map fun v=>ds.getD (ix v) .none).Perm ds:=by
   have e1:=(hp'.map (·.2)).map fun v=>ds.getD (ix v) .none
   rw [List.map_snd_zip (by simp)] at e1
   exact e1.trans (wK.of_eq hvs)
  have hsorted:(((zv st').toList.map (·.2)).map fun v=>ds.getD (ix v) .none).Pairwise leD:=by
   rw [yV,List.pairwise_map,List.pairwise_iff_getElem]
   intro i j hi hj hij
   have hsz:=hp.size_eq
   simp only [vk] at hi hj
   have:=sg i j (wx _) (zq hij) (by bv_omega)
   unfold Rk at this
   rw [w3,w3,xZ hi,xZ hj] at this
   simp only [Option.getD_some] at this
   have m1:=hmem _ (jZ (l:=(zv st').toList) (by simpa using hi))
   have m2:=hmem _ (jZ (l:=(zv st').toList) (by simpa using hj))
   simp only [Function.comp,Array.getElem_toList] at m1 m2 |-
   rw [m1.1,m2.1] at this
   obtain ⟨i1,_⟩:=hix _ (m1.1▸m1.2)
   obtain ⟨j1,_⟩:=hix _ (m2.1▸m2.2)
   intro hlt
   rw [yc5 hc (zg7 (by bv_omega)) (zg7 (by bv_omega))] at hlt
   simp only [uz,decide_eq_true_eq] at hlt
   exact absurd hlt (Qk.mpr this)
  rw [<- zo2 hc hperm hsorted]
  refine gen _ fun v hv=>?_
  obtain ⟨x,hx,rfl⟩:=zy.mp hv
  have:=hmem x hx
  rw [<- this.1]; exact this.2
end
section
variable {prog:vw} {w:wy} {A:xx} {E:qq->qv->Prop} {s:qv} {F:Fz}
theorem yd3 {ds:List D} (h:ds.length<2):zx4 ds=ds:=by
 match ds,h with
 | [],_=>rfl
 | [x],_=>rfl
 | _::_::_,h=>simp at h; bv_omega
theorem zf7 {a:Addr} {ds:List D} {vs:List qq} {n:Nat} {P:PySem.Fin->qv->Prop} (hin:F.In s.heap) (hfa:F a=none) (ho:s.heap.get? a=some (yK "list" vs.toArray n)) (r:RepL w F ds vs)
  (hs:ds.length<2\/Mini.sortable ds=true) (h64:ds.length<=16777216) (hu:A.units+1500<cLine)
  (h:∀ out:List qq,RepL w F (zx4 ds) out->P (.done (.ret .none)) { s with heap:=sortedHeap s.heap a vs out.toArray }):zx (zQ prog w) A (Builtin.«list.sort» ⟨[.ref a],[]⟩) P E s:=by
 have hlen:=r.length
 rw [list_sort_plain]
 have ha:a<s.heap.objs.size:=wq ho
 refine qz (listItems_at ho rfl ?_)
 refine qz (listUpdate_at ho rfl ?_ (by rw [List.size_toArray,QX]; bv_omega) (wx _))
 obtain ⟨e1,ho1⟩:∃ e1,(s.heap.update a (jk fun _=>(#[]:Array qq))).get? a=some (yK "list" #[] e1):=⟨_,get?_update_seq ho fun _=>#[]⟩
 refine qz (seqEpoch_at ho1 rfl ?_)
 refine qz (wpAny_newTuple ?_ (by show vs.length<=_; rw [QX]; bv_omega))
 refine qz (wpAny_newList ?_ (wx _))
 refine Z2 ?_
 have ho6:(((s.heap.update a (jk fun _=>(#[]:Array qq))).push (yK "tuple" vs.toArray 0)).push (yK "list" #[] 0)).get? a=some (yK "list" #[] e1) :=
  qV _ (qV _ ho1)
 have hin6:F.In (((s.heap.update a (jk fun _=>(#[]:Array qq))).push (yK "tuple" vs.toArray 0)).push (yK "list" #[] 0)):=fun b o e=>by
  refine qV _ (qV _ ?_)
  rw [Heap.get?_update_other _ _ (by rintro rfl; rw [hfa] at e; cases e)]
  exact hin b o e
 show zx (zQ prog w) A _ P E { s with heap:=((s.heap.update a (jk fun _=>(#[]:Array qq))).push (yK "tuple" vs.toArray 0)).push (yK "list" #[] 0) }
 dsimp only
 by_cases h2:vs.toArray.size<2
 ·rw [if_pos h2,if_pos h2]
  refine qz (z8 ?_)
  rw [StateT.run_pure]
  refine qz (z8 ?_)
  dsimp only
  have e2:(zv (Q1 general' (vs.toArray.zip vs.toArray) #[] 7 none)).map (·.2)=vs.toArray:=by
   show (vs.toArray.zip vs.toArray).map (·.2)=vs.toArray
   apply Array.toList_inj.mp
   simp [List.map_snd_zip]
  refine qz (seqEpoch_at ho6 rfl ?_)
  rw [e2]
  refine qz (listUpdate_at ho6 rfl ?_ (wx _) (by show vs.toArray.size<=_; rw [List.size_toArray,QX]; exact hlen▸yv h64))
  simp only [bne_self_eq_false,j6,if_false]
  exact z8 (h vs (by rw [yd3 (by rw [List.size_toArray] at h2; exact t2 (zX hlen.symm) h2)]; exact r))
 ·rw [if_neg h2,if_neg h2]
  rw [List.size_toArray] at h2
  have hs':Mini.sortable ds=true:=hs.resolve_left (by bv_omega)
  obtain ⟨κ,kd⟩:=kinded (prog:=prog) (A:=A) (s:={ s with heap:=((s.heap.update a (jk fun _=>(#[]:Array qq))).push (yK "tuple" vs.toArray 0)).push (yK "list" #[] 0) }) hin6 r hs' (by bv_omega) hu
  refine qz (kd.kind E _ ?_)
  refine qz (wpM (xe0 hin6 r (zn5 hs') kd (by bv_omega) (Q:=fun st' s'=>s'={ s with heap:=((s.heap.update a (jk fun _=>(#[]:Array qq))).push (yK "tuple" vs.toArray 0)).push (yK "list" #[] 0) }/\kz st'=none /\
   ∃ out,(zv st').map (·.2)=List.toArray out/\RepL w F (zx4 ds) out) fun st' out q1 q2 q3=>⟨rfl,q1,out,q2,q3⟩) ?_)
  rintro ⟨⟨⟩,st'⟩ s' ⟨rfl,hf,out,hout,rout⟩
  dsimp only
  have hsz:(List.toArray out).size=vs.length:=by rw [List.size_toArray,rout.length,(zz3 ds).length_eq,hlen]
  rw [hout]
  refine qz (seqEpoch_at ho6 rfl ?_)
  refine qz (listUpdate_at ho6 rfl ?_ (wx _) (qw (zX hsz) (by rw [QX]; exact hlen▸yv h64)))
  rw [hf]
  simp only [bne_self_eq_false,j6,if_false]
  exact z8 (h _ rout)
theorem yd1 {l:Addr} {ds:List D} {vs:List qq} (hin:F.In s.heap) (hl:s.heap.IsList l vs.toArray) (r:RepL w F ds vs)
  (hs:ds.length<2\/Mini.sortable ds=true) (h64:ds.length<=16777216) (hu:A.units+1600<cLine):zx (zQ prog w) A (call (.builtin "sorted") [.ref l]) (Grown w F s (.list (zx4 ds)) true) E s:=by
 have hlen:=r.length
 refine Calls.call_function_entry kind_sorted plain_sorted entry_sorted (args_sorted1 _) ?_
 unfold Builtin.«sorted»
 refine qz (m:=checkCount "sorted" 1 1 _) (z8 ?_)
 refine qz (collect_list hl ?_ (by rw [QX]; exact qw (zX hlen) h64))
 refine qz (wpAny_newList ?_ (by rw [QX]; bv_omega))
 have hsz:((s.heap.push (yK "list" #[] 0)).update s.heap.objs.size (jk (·++vs.toArray))).objs.size=s.heap.objs.size+1:=by
  rw [Heap.size_update,size_push']
 have hoL:(((s.heap.push (yK "list" #[] 0)).update s.heap.objs.size (jk (·++vs.toArray))).push (yK "list" vs.toArray 0)).get? (s.heap.objs.size+1)=some (yK "list" vs.toArray 0):=by
  rw [<- hsz]; exact xy _ rfl
 have keep:∀ b o,s.heap.get? b=some o->(((s.heap.push (yK "list" #[] 0)).update s.heap.objs.size (jk (·++vs.toArray))).push (yK "list" vs.toArray 0)).get? b=some o:=fun b o q=>by
  have hlt:b<s.heap.objs.size:=wq q
  refine qV _ ?_
  rw [Heap.get?_update_other _ _ (u9 hlt)]
  exact qV _ q
 have hnew:s.heap.get? (s.heap.objs.size+1)=none:=by
  cases e:s.heap.get? (s.heap.objs.size+1) with
  | none=>rfl
  | some o=>exact absurd (wq e) (Qk.mpr (Nat.le_succ _))
 have hfa:F (s.heap.objs.size+1)=none:=by
  cases e:F (s.heap.objs.size+1) with
  | none=>rfl
  | some o=>have:=hin _ _ e; rw [hnew] at this; cases this
 show zx _ _ _ _ _ { s with heap:=((s.heap.push (yK "list" #[] 0)).update s.heap.objs.size (jk (·++vs.toArray))).push (yK "list" vs.toArray 0) }
 rw [hsz]
 refine qz (Z2 (kQ slot_list_sort ⟨_,hoL,rfl⟩ entry_list_sort (zf7 (s:={ s with heap:=((s.heap.push (yK "list" #[] 0)).update s.heap.objs.size (jk (·++vs.toArray))).push (yK "list" vs.toArray 0) })
  (fun b o e=>keep b o (hin b o e)) hfa hoL r hs h64 ?hu fun out rout=>⟨_,rfl,?_⟩) (args_list_sort _)))
 case hu=>show A.units+1+1+1500<cLine; exact ul2 (by decide) hu
 refine z8 ⟨_,rfl,?_⟩
 refine ⟨_,s.toks,rfl,fun b o e=>?_,_,rfl,hnew,?_⟩
 ·have hlt:b<s.heap.objs.size:=wq e
  rw [sortedHeap_old (jV (Z1 hlt)) (wq (keep b o e))]
  exact keep b o e
 ·obtain ⟨c,hc⟩:=sortedHeap_at (out:=out.toArray) hoL
  have hz:(zx4 ds).length<=size:=by
   have:=(zz3 ds).length_eq
   rw [this]; unfold size; bv_omega
  exact ⟨hz,out.toArray,c,hc,by simpa using rout⟩
theorem yk8 {ds:List D} {vs:List qq} {h1:Heap} {tk1:Nat} {Ag:xx} {f:List qq->Sem PySem.Fin} {P:PySem.Fin->qv->Prop} (hin:F.In s.heap) (keep1:∀ b o,s.heap.get? b=some o->h1.get? b=some o) (r:RepL w F ds vs)
  (hs:ds.length<2\/Mini.sortable ds=true) (h64:ds.length<=16777216) (hu:Ag.units+1550<cLine)
  (hf:f=fun xs=>(do let l <- newList xs; let _ <- holding [l] (call (.builtin "list.sort") [l] []); ret l))
  (hP:∀ v s',Grown w F s (.list (zx4 ds)) true v s'->P (.done (.ret v)) s'):zx (zQ prog w) Ag (f vs) P E { s with heap:=h1,toks:=tk1 }:=by
 subst hf
 have hlen:=r.length
 refine qz (wpAny_newList ?_ (by rw [QX]; exact qw (zX hlen) h64))
 have hoL:(h1.push (yK "list" vs.toArray 0)).get? h1.objs.size=some (yK "list" vs.toArray 0):=xy _ rfl
 have keep:∀ b o,s.heap.get? b=some o->(h1.push (yK "list" vs.toArray 0)).get? b=some o:=fun b o q=>qV _ (keep1 b o q)
 have hnew1:h1.get? h1.objs.size=none:=zz7 _
 have hnew:s.heap.get? h1.objs.size=none:=by
  cases e:s.heap.get? h1.objs.size with
  | none=>rfl
  | some o=>have:=keep1 _ _ e; rw [hnew1] at this; cases this
 have hfa:F h1.objs.size=none:=by
  cases e:F h1.objs.size with
  | none=>rfl
  | some o=>have:=hin _ _ e; rw [hnew] at this; cases this
 refine qz (Z2 (kQ slot_list_sort ⟨_,hoL,rfl⟩ entry_list_sort (zf7 (s:={ s with heap:=h1.push (yK "list" vs.toArray 0),toks:=tk1 })
  (fun b o e=>keep b o (hin b o e)) hfa hoL r hs h64 ?hu fun out rout=>⟨_,rfl,?_⟩) (args_list_sort _)))
 case hu=>show Ag.units+1+1500<cLine; exact ul1 (by decide) hu
 refine z8 (hP _ _ ?_)
 refine ⟨_,tk1,rfl,fun b o e=>?_,_,rfl,hnew,?_⟩
 ·have hne:b≠h1.objs.size:=fun q=>by rw [q,hnew] at e; cases e
  rw [sortedHeap_old hne (wq (keep b o e))]
  exact keep b o e
 ·obtain ⟨c,hc⟩:=sortedHeap_at (out:=out.toArray) hoL
  have hz:(zx4 ds).length<=size:=by
   have:=(zz3 ds).length_eq
   rw [this]; unfold size; bv_omega
  exact ⟨hz,out.toArray,c,hc,by simpa using rout⟩
theorem xx5 {d:Addr} {es:Array j9} {ep:Nat} (lo:(d==uJ)=false):KdlSrc prog w "dict" d d es.size (fun i v=>∃ e,es[i]?=some e/\v=e.key) (fun h=>RowsAt h d es ep) where
 type:=fun _ x=>x.type
 there:=fun _ x=>let ⟨_,ho,_⟩:=x; ⟨wq ho,wq ho⟩
 keep:=fun _ _ x hk=>x.at fun o e=>hk d (.inl rfl) o e
 notList:=by decide
 notTuple:=by decide
 hint:=fun _ _ _ _ x q=>kdl_hint_dict x.type q
 iter:=fun _ _ hh x=>⟨_,_,(fun _ _ hq=>yg4 lo x hq),yl9 hh _ d (jV (let ⟨_,ho,_⟩:=x; wq ho)) es ep,⟨⟨_,xy _ rfl,rfl,rfl⟩,x.at fun o e=>qV _ e⟩⟩
theorem yf5 {d:Addr} {es:Array j9} {ep:Nat} {Q:List qq->qv->Prop} (lo:(d==uJ)=false) (hh:A.handled=none) (x:RowsAt s.heap d es ep) (hn:es.size<=Z9)
  (h:∀ h' tk (acc:Array qq),(∀ b o,s.heap.get? b=some o->h'.get? b=some o)->ItemsOf (fun i v=>∃ e,es[i]?=some e/\v=e.key) acc es.size->Q acc.toList { s with heap:=h',toks:=tk }) :
  zx (zQ prog w) A (collect (.ref d)) Q E s:=by
 have hlt:d<s.heap.objs.size:=let ⟨_,ho,_⟩:=x; wq ho
 unfold collect
 refine qz (wpAny_runValue (codeAny_builtin PySem.F.entry_proto_collect ?_))
 rw [xx.under_plainId PySem.F.plain_proto_collect _]
 show zx _ A.in1 (newList [] >>= fun l=>again (.builtin "list.__iadd__" ⟨[l,.ref d],[]⟩)) _ _ s
 refine qz (yX ?_)
 refine z8 ⟨plainId_quiet PySem.F.plain_list_iadd _,codeAny_builtin PySem.F.entry_list_iadd ?_⟩
 rw [xx.under_plainId PySem.F.plain_list_iadd _]
 show zx _ A.in1 (Builtin.List.listExtendWith (.ref s.heap.objs.size) (.ref d) (.ref s.heap.objs.size)) _ _ _
 have hS:(s.heap.push { cls:=.type "list", data:=.seq #[] }).get? s.heap.objs.size=some { cls:=.type "list", data:=.seq #[] }:=xy _ rfl
 refine kdl_extend (A:=A) (R:=wants (fun v s'=>zx (zQ prog w) A (match v with|.ref a=>(load a >>= fun o=>match o.data with|.seq xs _=>pure xs.toList|_=>unsupported "internal:collect")|_=>unsupported "internal:collect") Q E s') E) (s:={ s with heap:=s.heap.push { cls:=.type "list", data:=.seq #[] } }) (xx5 (ep:=ep) lo) hh (x.at fun o e=>qV _ e) s.heap.objs.size (u9 hlt) (u9 hlt) (.ref s.heap.objs.size) 0 hS (fun h' tk acc' c' hk hS' hacc=>?_) hn
 show zx _ A (load s.heap.objs.size >>= _) _ _ _
 refine qz (wpAny_load hS' ?_)
 exact z8 (h h' tk acc' (fun b o e=>hk b o (jV (wq e)) (qV _ e)) hacc)
theorem xu0 {kvs:List (D×D)} {es:Array j9} (r:RepKV w F kvs es.toList) {acc:Array qq} (hacc:ItemsOf (fun i v=>∃ e,es[i]?=some e/\v=e.key) acc es.size):RepL w F (kvs.map (·.1)) acc.toList:=by
 have hl:=r.length
 have h1:=hacc.1
 refine RepL.of_get (by simp at hl |-; exact h1.trans hl) fun i d v hd hv=>?_
 (refine elEA (hacc.2 i v (by rw [<- wj]; exact hv)) fun e he e_2=>?_; subst e_2)
 exact r.key hd (by rw [wj]; exact he)
end
theorem yr7 {l:List D} {d:D} {f:Bool} (e:zi0 l=some (d,f)):(l.length<2\/Mini.sortable l=true)/\l.length<=16777216/\d=.list (zx4 l)/\f=true:=by
 obtain ⟨hs,e⟩:=ifS e
 cases e
 simp only [Q0,decide_eq_true_eq,zj] at hs
 exact ⟨hs.imp id fun q=>q.1,hs.elim (fun q=>zq (Q5 q (by decide))) fun q=>zq q.2,rfl,rfl⟩
set_option tactic.hygienic true in
theorem xe7 (w:wy):yw1 w:=by
 intro prog A E s F n R hin p x d f v hv e
 cases p<;>try exact (noS e).elim
 ·cases x<;>try exact (noS e).elim
  ·(refine elAAA (yr7 e) fun hs h64 e_2 e_3=>?_; subst e_2; subst e_3)
   refine hv.listK hin fun hz a ob ws m h1 hcl hdt r=>?_
   exact yd1 hin (l:=a) (vs:=ws.toList) (by simpa using ⟨_,h1,hcl,_,hdt⟩) r hs h64 (by have:=R.units; exact ul0 this (by decide))
  ·rename_i kvs
   (refine elAAA (yr7 e) fun hs h64 e_2 e_3=>?_; subst e_2; subst e_3)
   refine hv.dicK hin fun hz a es m h1 r hb=>?_
   have hl:=r.length
   rw [vk] at hl
   show zx _ _ (call (.builtin "sorted") [.ref a]) _ _ _
   refine Calls.call_function_entry kind_sorted plain_sorted entry_sorted (args_sorted1 _) ?_
   unfold Builtin.«sorted»
   refine qz (m:=checkCount "sorted" 1 1 _) (z8 ?_)
   refine qz (yf5 (es:=es) (ep:=m) (beq_eq_false_iff_ne.mpr (u9 hb)) (by exact R.handled) ⟨_,h1,⟨rfl,rfl,rfl⟩,rfl⟩ (by simp at h64; rw [QX]; exact qw (zX hl) h64) fun h' tk acc keep hacc=>?_)
   exact yk8 (prog:=prog) (w:=w) (s:=s) hin keep (xu0 r hacc) hs h64 (by have:=R.units; show A.units+1+1550<cLine; exact ul1 (b:=3000) (by decide) (ul0 this (zW _))) rfl fun v s' g=>⟨_,rfl,g⟩
 ·cases x<;>try exact (noS e).elim
  rename_i kvs
  cases e
  refine hv.dicK hin fun hz a es m h1 r hb=>?_
  have hl:=r.length
  rw [vk] at hl
  have hz1:=hz.1
  refine kdl_call (xx5 (es:=es) (ep:=m) (beq_eq_false_iff_ne.mpr (u9 hb))) R.handled ⟨_,h1,⟨rfl,rfl,rfl⟩,rfl⟩ (by rw [QX,hl]; exact hz1) fun h' tk acc c keep ho hacc=>?_
  exact ⟨h',tk,rfl,keep,_,rfl,zz7 _,by simpa using hz1,acc,c,ho,xu0 r hacc⟩
 ·cases x<;>try exact (noS e).elim
  rename_i kvs
  obtain ⟨hik,e⟩:=ifS e
  cases e
  refine hv.dicK hin fun hz a es m h1 r hb=>?_
  refine elEA (zc2 (prog:=prog) hik hz h1 r) fun t ab hm=>?_
  have ha:=wq h1
  have hz1:=hz.1
  refine kt_call_dict (beq_eq_false_iff_ne.mpr (u9 hb)) hm.dictOf (by rw [QX,ab.length]; exact hz1) fun h' q hs=>?_
  exact ⟨h',s.toks,rfl,fun b o e=>by rw [hs.2 b (jV (wq e))]; exact qV _ e,_,rfl,zz7 _,yi7 ab hz1 (Q5 hb ha) q⟩
structure JoinsAt (K:Frag) (a:Addr) (t u:Tok) (n:Nat):Prop where
 ns:nsIn K mainGlobals "JOINS" = some (some (.ref a))
 at':K.lookup a=some (tobj #[.str "sum" t,.str "mul" u] n)
set_option tactic.hygienic true in
theorem xd7 {K:Frag} {h:Heap} {a:Addr} {m:Str->Option qq} {x:Str} {v:qq} (X:K.In h) (N:h.Ns a m) (e:nsIn K a x=some (some v)):m x=some v:=by
 unfold nsIn at e
 split at e
 ·rename_i c d es ep sl hl
  refine elEEEAAA (N) fun o es' ep' ho hd hk hm=>?_
  have:=X _ _ hl
  rw [ho] at this; cases this
  simp only at hd
  cases hd
  split at e
  ·rename_i en hf
   cases e
   rw [<- hm x]
   show (es.find? fun e=>e.key.isStr x).map (·.val)=_
   rw [<- Array.find?_toList,hf]; rfl
  ·split at e<;>cases e
 ·cases e
noncomputable def bltNames:List Str:=["len", "sorted", "min", "max", "isinstance", "tuple", "list", "dict", "int", "bool", "str", "range", "reversed", "zip", "ValueError"]
theorem wp7:∀ p∈bltTab,p.1∈bltNames/\bootBuiltins p.1=some p.2/\p.1 ≠ "__name__" := by
 intro p hp
 simp only [bltTab,z0,jz,or_false] at hp
 rcases hp with rfl|rfl|rfl|rfl|rfl|rfl|rfl|rfl|rfl|rfl|rfl|rfl|rfl|rfl|rfl
 all_goals exact ⟨by decide,by rfl,by decide⟩
theorem xg1 {x:Str} {v:qq} (h:yy6 x=some v):x∈bltNames/\bootBuiltins x=some v/\x ≠ "__name__" := wp7 _ (mem_of_lookup h)
set_option tactic.hygienic true in
theorem ys0 {p:vw} {loose:List Str} {mean:ExcName->Option qq} {mg mb:Str->Option qq} {h:Heap} (T:PyProof.Rows.Top p loose mean mg mb h) {x:Str} {i:Int} (e:(match valOf p x with|some (.int j)=>j==i|_=>false)=true):∃ t,mg x=some (.int i t):=by
 split at e
 ·rename_i j hj
  refine elEA (T.const x _ hj) fun v h1 h2=>?_
  refine elEA (reads_int_inv (h2 {})) fun t q _=>?_
  rw [eq_of_beq e] at q
  exact ⟨t,by rw [h1,q]⟩
 ·cases e
theorem room_caller:Room 600 callerA:=⟨rfl,by decide,by decide⟩
section
variable {w:wy}
theorem xb3 {F:Fz}:∀ {vs:List qq} {ns:List Int},IntsAre vs ns->RepL w F (ns.map vy) vs:=fun h=>by
 induction h with
 | nil=>exact RepL.nil_
 | cons n t h ih=>exact RepL.cons_ (by simp [zn1]) ih
end
theorem post_true (l:OpenLaw) (args:List WData):l.row.toRowW.claim.post args (.bool true) args=true:=by
 with_unfolding_all rfl
noncomputable def glo (x:Str):Option D :=
 if x == "JOINS" then some (.tuple [.str "sum", .str "mul"]) else if x == "LEAVES" then some (.int 40) else if x == "GREATEST" then some (.int 1000000000) else if x == "OPENS" then some (.int 10) else none
noncomputable def wv4 (Fs:Fns) (p:vw) (loose:List Str):Bool :=
 (Fs.all fun q=>(recsOf p).any fun d=>d.name==q.1&&wz0 q.2 d.params d.scope d.body) &&
 (bltNames.all fun x=>!startupNames.contains x&&!(looseW p loose).contains x&&!((recsOf p).map (·.name)).contains x&&!((litsOf p).map (·.1)).contains x&&!((clssOf p (looseW p loose)).map (·.name)).contains x) &&
 (match valOf p "LEAVES" with|some (.int i)=>i==40|_=>false)&&(match valOf p "GREATEST" with|some (.int i)=>i==1000000000|_=>false)&&(match valOf p "OPENS" with|some (.int i)=>i==10|_=>false)
section
variable {p:vw} {loose:List Str} {R:WRecords} {XP:(Str->Option qq)->Heap->Prop} {w:wy} {s₀ s₁:qv} {mg mb:Str->Option qq} {prog:vw} {Fs:Fns}
set_option tactic.hygienic true in
theorem wo5 (G:W.Ground p loose R XP w s₀ mg mb s₁.heap) {K:Frag} (KX:K.In s₁.heap) {aj:Addr} {tj uj:Tok} {nj:Nat} (hj:JoinsAt K aj tj uj nj) (hc:wv4 Fs p loose=true) {F0:Fz}
  (hF:F0 aj=s₁.heap.get? aj):Base { prog:=prog,w:=w,H:=s₁.heap,F0:=F0,mg:=mg,mb:=mb } Fs glo:=by
 have T:=G.T
 unfold wv4 at hc
 simp only [zj] at hc
 obtain ⟨⟨⟨⟨c1,c2⟩,c3⟩,c4⟩,c5⟩:=hc
 exact {
  di:=dictIn w
  dg:=wq9 w
  pr:=xe7 w
  dw:=xa5 w
  ds:=wq7 w
  ns:=T.g
  nb:=T.b
  glob:=fun x d hx=>by
   unfold glo at hx
   split at hx
   ·rename_i e
    cases hx
    have e:=eq_of_beq e
    subst e
    refine ⟨.ref aj,xd7 KX T.g hj.ns,?_⟩
    have h3:F0 aj=some (tobj #[.str "sum" tj,.str "mul" uj] nj):=by rw [hF]; exact KX _ _ hj.at'
    simp only [yz2,yz3,zn1,zf4,zf5,zp0,zh6,zp3,zu5]
    refine ⟨by unfold size; decide,aj,_,nj,rfl,h3,_,_,rfl,⟨tj,rfl⟩,_,_,rfl,⟨uj,rfl⟩,rfl⟩
   ·split at hx
    ·rename_i e
     cases hx
     have e:=eq_of_beq e
     subst e
     obtain ⟨t,q⟩:=ys0 T c3
     exact ⟨_,q,by simp [yz2,yz3,zn1,zf4,zf5,zp0,zh6]⟩
    ·split at hx
     ·rename_i e
      cases hx
      have e:=eq_of_beq e
      subst e
      obtain ⟨t,q⟩:=ys0 T c4
      exact ⟨_,q,by simp [yz2,yz3,zn1,zf4,zf5,zp0,zh6]⟩
     ·split at hx
      ·rename_i e
       cases hx
       have e:=eq_of_beq e
       subst e
       obtain ⟨t,q⟩:=ys0 T c5
       exact ⟨_,q,by simp [yz2,yz3,zn1,zf4,zf5,zp0,zh6]⟩
      ·cases hx
  blt:=fun x v hx=>by
   refine elAA (xg1 hx) fun q1 q2 q3=>?_
   have:=xJ.mp c2 x q1
   simp only [zj,Bool.not_eq_true',List.contains_eq_mem,decide_eq_false_iff_not] at this
   obtain ⟨⟨⟨⟨a1,a2⟩,a3⟩,a4⟩,a5⟩:=this
   exact ⟨T.free x a1 a2 a3 a4 a5,(T.builtins x q3).trans q2⟩
  nolimit:=T.nolimit
  fn:=fun g fn hg=>by
   have:=xJ.mp c1 _ (mem_of_lookup hg)
   refine elEA (List.any_eq_true.mp this) fun d hd hq=>?_
   simp only [zj,beq_iff_eq] at hq
   refine elEEEEEAAA (T.fn d hd) fun a o pm code doc h1 h2 h3 h4=>?_
   obtain ⟨e,hq⟩:=hq
   subst e
   exact ⟨a,o,d.params,d.body,d.scope,pm,code,doc,h1,h2,h3,h4,hq⟩ }
set_option tactic.hygienic true in
theorem law_true (G:W.Ground p loose R XP w s₀ mg mb s₁.heap) {K:Frag} (KX:K.In s₁.heap) {aj:Addr} {tj uj:Tok} {nj:Nat} (hj:JoinsAt K aj tj uj nj) (hc:wv4 Fs p loose=true) {fa l:Addr} {vs:List qq} {ns:List Int} {name:Str} (hmg:mg name=some (.ref fa))
  (hL:s₁.heap.IsList l vs.toArray) (hI:IntsAre vs ns) (hlen:ns.length<=63) {fuel n:Nat} (hn:n<=600) {f:Bool} (hrun:Mini.run Fs glo fuel n name [.list (ns.map .int)]=some (.bool true,f)) {E:qq->qv->Prop} :
  zx (zQ prog w) callerA (call (.ref fa) [.ref l]) (fun v s'=>v=.bool true/\(∀ b o,s₁.heap.get? b=some o->s'.heap.get? b=some o)/\∃ h' tk,s'={ s₁ with heap:=h',toks:=tk }) E s₁:=by
 refine elEAAE (hL) fun ol hol hcl m hdt=>?_
 let F0:Fz:=fun a=>if a=l then some ol else if a=aj then s₁.heap.get? aj else none
 have hin:F0.In s₁.heap:=fun a o e=>by
  simp only [F0] at e
  split at e
  ·rename_i q; subst q; cases e; exact hol
  ·split at e
   ·rename_i q; subst q; exact e
   ·cases e
 have B:Base { prog:=prog,w:=w,H:=s₁.heap,F0:=F0,mg:=mg,mb:=mb } Fs glo:=wo5 G KX hj hc (by
  simp only [F0]
  split
  ·rename_i q; rw [q]; exact hol.symm
  ·simp)
 obtain ⟨a,o,fd,e1,e2,e3,hcall⟩:=wm2 B fuel n name _ _ _ hrun
 have:a=fa:=by
  have e1':mg name=some (.ref a):=e1
  rw [hmg] at e1'; cases e1'; rfl
 subst this
 have S:St { prog:=prog,w:=w,H:=s₁.heap,F0:=F0,mg:=mg,mb:=mb } (Hold F0 s₁.heap) F0 s₁.heap [] [] []:={
  sub:=hin
  low:=Fz.le_refl _
  base:=fun a o e=>e
  cov:=fun a o e=>by
   cases hq:F0 a with
   | none=>exact .inl ⟨hq,o,e⟩
   | some o'=>exact .inr (fun x=>nomatch x)
  xf:=fun a e=>e.1
  xal:=fun a e=>e.2
  lenP:=rfl
  lenS:=rfl
  has:=fun i p ov e1 _=>by simp at e1
  slot:=fun i p ov e1 _=>by simp at e1
  nodup:=Qz
  cont:=fun p hp=>nomatch hp
  own:=fun k a ho=>by simp [zt2] at ho
  inj:=fun i j a ho _=>by simp [zt2] at ho }
 have r:RepL w F0 [PyData.list (ns.map .int)] [.ref l]:=by
  refine RepL.cons_ ?_ RepL.nil_
  simp only [yz2,yz3,zn1,zf4,zf5,zp0,zh6]
  refine ⟨by rw [xw]; unfold size; bv_omega,l,ol,vs.toArray,m,rfl,by simp [F0],hcl,hdt,?_⟩
  simpa using xb3 hI
 refine wpM (hcall callerA E s₁ F0 _ [.ref l] (room_caller.le hn) S r) (fun v s' q=>?_)
 obtain ⟨F',st,rr⟩:=q
 refine ⟨?_,fun b o e=>st.st.base b o e,st.eq⟩
 cases f with
 | false=>simpa [ResOk,yz2,yz3,zn1,zf4,zf5,zp0,zh6] using rr
 | true =>
  refine elEAAAAA (rr) fun a' _ _ _ _ _ q=>?_
  exact q.elim
end
end Snd
end
section
namespace Mini
open PySem
set_option backward.match.sparseCases false
section
variable {Γ:Env} {σ τ:Sg} {a b c i l r e s t:I} {d x y:D} {f g:Bool}
noncomputable def kq (σ:Sg) (p:D×Bool):Option (D×Bool×Sg):=some (p.1,p.2,σ)
@[simp] theorem kq_:kq σ (d,f)=some (d,f,σ):=rfl
noncomputable def kb (σ:Sg) (b:Bool):Option (D×Bool×Sg):=some (.bool b,false,σ)
@[simp] theorem kb_ {p:Bool}:kb σ p=some (.bool p,false,σ):=rfl
noncomputable def kd (σ:Sg) (d:D):Option (D×Bool×Sg):=some (d,false,σ)
@[simp] theorem kd_:kd σ d=some (d,false,σ):=rfl
noncomputable def knb (σ:Sg) (b:Bool):Option (D×Bool×Sg):=some (.bool (!b),false,σ)
@[simp] theorem knb_ {p:Bool}:knb σ p=some (.bool (!p),false,σ):=rfl
noncomputable def knot (p:D×Sg):Option (D×Bool×Sg):=(zy2 p.1).bind (knb p.2)
@[simp] theorem knot_:knot (d,σ)=(zy2 d).bind (knb σ):=rfl
noncomputable def kff (p:D×Sg):Option (D×Bool×Sg):=some (p.1,false,p.2)
@[simp] theorem kff_:kff (d,σ)=some (d,false,σ):=rfl
noncomputable def kbin (op:Operator) (p:D×D×Sg):Option (D×Bool×Sg):=(binD op p.1 p.2.1).bind (kq p.2.2)
@[simp] theorem kbin_ {op:Operator}:kbin op (x,y,σ)=(binD op x y).bind (kq σ):=rfl
noncomputable def kcmp (op:CmpOp) (p:D×D×Sg):Option (D×Bool×Sg):=(cmpD op p.1 p.2.1).bind (kb p.2.2)
@[simp] theorem kcmp_ {op:CmpOp}:kcmp op (x,y,σ)=(cmpD op x y).bind (kb σ):=rfl
noncomputable def kidx (p:D×D×Sg):Option (D×Bool×Sg):=(idxD p.1 p.2.1).bind (kd p.2.2)
@[simp] theorem kidx_:kidx (x,y,σ)=(idxD x y).bind (kd σ):=rfl
noncomputable def kbr {α:Type} (h k:Sg->Option α) (σ:Sg):Bool->Option α
 | true=>h σ
 | false=>k σ
@[simp] theorem kbr_t {α:Type} {h k:Sg->Option α}:kbr h k σ true=h σ:=rfl
@[simp] theorem kbr_f {α:Type} {h k:Sg->Option α}:kbr h k σ false=k σ:=rfl
noncomputable def kif {α:Type} (h k:Sg->Option α) (p:D×Sg):Option α:=(zy2 p.1).bind (kbr h k p.2)
@[simp] theorem kif_ {α:Type} {h k:Sg->Option α}:kif h k (d,σ)=(zy2 d).bind (kbr h k σ):=rfl
noncomputable def kmT (p:List D×Sg):Option (D×Bool×Sg):=(mkT p.1).bind (kq p.2)
@[simp] theorem kmT_ {ds:List D}:kmT (ds,σ)=(mkT ds).bind (kq σ):=rfl
noncomputable def kmL (p:List D×Sg):Option (D×Bool×Sg):=(mkL p.1).bind (kq p.2)
@[simp] theorem kmL_ {ds:List D}:kmL (ds,σ)=(mkL ds).bind (kq σ):=rfl
noncomputable def kco (n:Nat) (h:Sg->Option (D×Sg)) (k:Ev) (p:List D×Sg):Option (D×Bool×Sg):=(zf3 n h k p.1 p.2).bind kmL
@[simp] theorem kco_ {n:Nat} {h:Sg->Option (D×Sg)} {k:Ev} {ds:List D}:kco n h k (ds,σ)=(zf3 n h k ds σ).bind kmL:=rfl
noncomputable def kcT (n m:Nat) (h:Sg->Option (D×Sg)) (k:Ev) (p:List D×Sg):Option (D×Bool×Sg):=(zq9 n (tupN m) h k p.1 p.2).bind kmL
@[simp] theorem kcT_ {n m:Nat} {h:Sg->Option (D×Sg)} {k:Ev} {ds:List D}:kcT n m h k (ds,σ)=(zq9 n (tupN m) h k ds σ).bind kmL:=rfl
noncomputable def kca (Γ:Env) (g:Str) (p:List D×Sg):Option (D×Bool×Sg):=(Γ.call g p.1).bind (kq p.2)
@[simp] theorem kca_ {g:Str} {ds:List D}:kca Γ g (ds,σ)=(Γ.call g ds).bind (kq σ):=rfl
noncomputable def kp1 (p:Prim) (x:D×Sg):Option (D×Bool×Sg):=(zn7 p x.1).bind (kq x.2)
@[simp] theorem kp1_ {p:Prim}:kp1 p (d,σ)=(zn7 p d).bind (kq σ):=rfl
noncomputable def kis (ty:Str) (p:D×Sg):Option (D×Bool×Sg):=(isiD p.1 ty).bind (kb p.2)
@[simp] theorem kis_ {ty:Str}:kis ty (d,σ)=(isiD d ty).bind (kb σ):=rfl
noncomputable def kpob (σ:Sg) (k:Nat) (l:List D) (d:D):Option (D×Bool×Sg):=some (d,false,σ.set k (some (.own (.list l.dropLast))))
@[simp] theorem kpob_ {k:Nat} {ds:List D}:kpob σ k ds d=some (d,false,σ.set k (some (.own (.list ds.dropLast)))):=rfl
noncomputable def kpo (σ:Sg) (k:Nat) (l:List D):Option (D×Bool×Sg):=l.getLast?.bind (kpob σ k l)
@[simp] theorem kpo_ {k:Nat} {ds:List D}:kpo σ k ds=ds.getLast?.bind (kpob σ k ds):=rfl
noncomputable def kr1b (σ:Sg) (y:Int):Option (D×Bool×Sg):=if zz9 y&&decide (y.toNat<=size) then some (.list (zt6 0 y),false,σ) else none
@[simp] theorem kr1b_ {y:Int}:kr1b σ y=if zz9 y&&decide (y.toNat<=size) then some (.list (zt6 0 y),false,σ) else none:=rfl
noncomputable def kr1 (p:D×Bool×Sg):Option (D×Bool×Sg):=(zq6 p.1).bind (kr1b p.2.2)
@[simp] theorem kr1_:kr1 (d,f,σ)=(zq6 d).bind (kr1b σ):=rfl
noncomputable def krc (x:Int) (σ:Sg) (y:Int):Option (D×Bool×Sg):=if zz9 x&&zz9 y&&decide ((y - x).toNat<=size) then some (.list (zt6 x y),false,σ) else none
@[simp] theorem krc_ {x y:Int}:krc x σ y=if zz9 x&&zz9 y&&decide ((y - x).toNat<=size) then some (.list (zt6 x y),false,σ) else none:=rfl
noncomputable def krb (x:Int) (q:D×Bool×Sg):Option (D×Bool×Sg):=(zq6 q.1).bind (krc x q.2.2)
@[simp] theorem krb_ {i:Int}:krb i (d,f,σ)=(zq6 d).bind (krc i σ):=rfl
noncomputable def kra (h:Ev) (σ:Sg) (x:Int):Option (D×Bool×Sg):=(h σ).bind (krb x)
@[simp] theorem kra_ {h:Ev} {i:Int}:kra h σ i=(h σ).bind (krb i):=rfl
noncomputable def kr (h:Ev) (p:D×Bool×Sg):Option (D×Bool×Sg):=(zq6 p.1).bind (kra h p.2.2)
@[simp] theorem kr_ {h:Ev}:kr h (d,f,σ)=(zq6 d).bind (kra h σ):=rfl
noncomputable def kc1 (d:D) (q:List D×Sg):Option (List D×Sg):=some (d::q.1,q.2)
@[simp] theorem kc1_ {ds:List D}:kc1 d (ds,σ)=some (d::ds,σ):=rfl
noncomputable def kc (h:Sg->Option (List D×Sg)) (p:D×Bool×Sg):Option (List D×Sg):=(h p.2.2).bind (kc1 p.1)
@[simp] theorem kc_ {h:Sg->Option (List D×Sg)}:kc h (d,f,σ)=(h σ).bind (kc1 d):=rfl
noncomputable def kl (p:D×Bool×Sg):Option (D×Sg):=some (p.1,p.2.2)
@[simp] theorem kl_:kl (d,f,σ)=some (d,σ):=rfl
noncomputable def kpr (d:D) (σ:Sg):Option (D×Sg):=some (d,σ)
@[simp] theorem kpr_:kpr d σ=some (d,σ):=rfl
noncomputable def kan (h:Sg->Option (D×Sg)) (p:D×Bool×Sg):Option (D×Sg):=(zy2 p.1).bind (kbr h (kpr p.1) p.2.2)
@[simp] theorem kan_ {h:Sg->Option (D×Sg)}:kan h (d,f,σ)=(zy2 d).bind (kbr h (kpr d) σ):=rfl
noncomputable def ko (h:Sg->Option (D×Sg)) (p:D×Bool×Sg):Option (D×Sg):=(zy2 p.1).bind (kbr (kpr p.1) h p.2.2)
@[simp] theorem ko_ {h:Sg->Option (D×Sg)}:ko h (d,f,σ)=(zy2 d).bind (kbr (kpr d) h σ):=rfl
noncomputable def kas (k:Nat) (p:D×Bool×Sg):Option Out:=some (.next (put p.2.2 k p.1 p.2.1))
@[simp] theorem kas_ {k:Nat}:kas k (d,f,σ)=some (.next (put σ k d f)):=rfl
noncomputable def kapb (k:Nat) (p:D×Bool×Sg):Option Out:=appD p.2.2 k [p.1]
@[simp] theorem kapb_ {k:Nat}:kapb k (d,f,σ)=appD σ k [d]:=rfl
noncomputable def kap (k:Nat) (h:Ev) (σ:Sg) (_:List D):Option Out:=(h σ).bind (kapb k)
@[simp] theorem kap_ {k:Nat} {h:Ev} {ds:List D}:kap k h σ ds=(h σ).bind (kapb k):=rfl
noncomputable def kexb (k:Nat) (p:D×Bool×Sg):Option Out:=(extD p.1).bind (appD p.2.2 k)
@[simp] theorem kexb_ {k:Nat}:kexb k (d,f,σ)=(extD d).bind (appD σ k):=rfl
noncomputable def kex (k:Nat) (h:Ev) (σ:Sg) (_:List D):Option Out:=(h σ).bind (kexb k)
@[simp] theorem kex_ {k:Nat} {h:Ev} {ds:List D}:kex k h σ ds=(h σ).bind (kexb k):=rfl
noncomputable def kst3 (k:Nat) (v key:D) (σ:Sg) (kvs:List (D×D)):Option Out:=if zs3 key kvs&&decide (kvs.length<size) then some (.next (σ.set k (some (.own (.dict (dput kvs key v)))))) else none
@[simp] theorem kst3_ {k:Nat} {kvs:List (D×D)}:kst3 k d x σ kvs=if zs3 x kvs&&decide (kvs.length<size) then some (.next (σ.set k (some (.own (.dict (dput kvs x d)))))) else none:=rfl
noncomputable def kst2 (k:Nat) (v:D) (x:D×Bool×Sg):Option Out:=(ownD x.2.2 k).bind (kst3 k v x.1 x.2.2)
@[simp] theorem kst2_ {k:Nat}:kst2 k d (x,f,σ)=(ownD σ k).bind (kst3 k d x σ):=rfl
noncomputable def kst1 (k:Nat) (h:Ev) (v:D) (σ:Sg):Bool->Option Out
 | true=>(h σ).bind (kst2 k v)
 | false=>none
@[simp] theorem kst1_ {k:Nat} {h:Ev}:kst1 k h d σ true=(h σ).bind (kst2 k d):=rfl
noncomputable def kst (k:Nat) (h:Ev) (v:D×Bool×Sg):Option Out:=kst1 k h v.1 v.2.2 (zm3 v.2.2 k)
@[simp] theorem kst_ {k:Nat} {h:Ev}:kst k h (d,f,σ)=kst1 k h d σ (zm3 σ k):=rfl
noncomputable def kfo (k:D->Sg->Option Sg) (h:Sg->Option Out) (p:List D×Sg):Option Out:=forN k h p.1 p.2
@[simp] theorem kfo_ {k:D->Sg->Option Sg} {h:Sg->Option Out} {ds:List D}:kfo k h (ds,σ)=forN k h ds σ:=rfl
noncomputable def kre (p:D×Bool×Sg):Option Out:=some (.ret p.1 p.2.1)
@[simp] theorem kre_:kre (d,f,σ)=some (.ret d f):=rfl
noncomputable def kun1 (σ:Sg) (d:D):Option (D×Sg):=some (d,σ)
@[simp] theorem kun1_:kun1 σ d=some (d,σ):=rfl
noncomputable def kun (p:Opnd×Sg):Option (D×Sg):=(res p.1 p.2).bind (kun1 p.2)
@[simp] theorem kun_ {o:Opnd}:kun (o,σ)=(res o σ).bind (kun1 σ):=rfl
noncomputable def kdu3 (σ:Sg) (x y:D):Option (D×D×Sg):=some (x,y,σ)
@[simp] theorem kdu3_:kdu3 σ x y=some (x,y,σ):=rfl
noncomputable def kdu2 (o:Opnd) (σ:Sg) (x:D):Option (D×D×Sg):=(res o σ).bind (kdu3 σ x)
@[simp] theorem kdu2_ {o:Opnd}:kdu2 o σ x=(res o σ).bind (kdu3 σ x):=rfl
noncomputable def kdu1 (o:Opnd) (q:Opnd×Sg):Option (D×D×Sg):=(res o q.2).bind (kdu2 q.1 q.2)
@[simp] theorem kdu1_ {o u:Opnd}:kdu1 o (u,σ)=(res o σ).bind (kdu2 u σ):=rfl
noncomputable def kdu (j:I) (h:Ev) (p:Opnd×Sg):Option (D×D×Sg):=(opn j h p.2).bind (kdu1 p.1)
@[simp] theorem kdu_ {j:I} {h:Ev} {o:Opnd}:kdu j h (o,σ)=(opn j h σ).bind (kdu1 o):=rfl
noncomputable def kdat (p:D×Bool×Sg):Option (Opnd×Sg):=some (.dat p.1,p.2.2)
@[simp] theorem kdat_:kdat (d,f,σ)=some (.dat d,σ):=rfl
noncomputable def kslo (k:Nat) (σ:Sg) (_:D):Option (Opnd×Sg):=some (.slot k,σ)
@[simp] theorem kslo_ {k:Nat}:kslo k σ d=some (.slot k,σ):=rfl
noncomputable def ksr1 (σ:Sg) (l:List D):Option (List D×Sg):=some (l,σ)
@[simp] theorem ksr1_ {ds:List D}:ksr1 σ ds=some (ds,σ):=rfl
noncomputable def ksr (p:D×Bool×Sg):Option (List D×Sg):=(yp5 p.1).bind (ksr1 p.2.2)
@[simp] theorem ksr_:ksr (d,f,σ)=(yp5 d).bind (ksr1 σ):=rfl
@[simp] theorem kstO_n {h:Sg->Option Out}:zl9 h (.next σ)=h σ:=rfl
@[simp] theorem kstO_r {h:Sg->Option Out}:zl9 h (.ret d f)=some (.ret d f):=rfl
@[simp] theorem q_glob {x:Str}:ev Γ (.glob x) σ=(Γ.glob x).bind (kd σ):=rfl
@[simp] theorem q_bin {op:Operator}:ev Γ (.bin op a b) σ=(duo a (ev Γ a) b (ev Γ b) σ).bind (kbin op):=rfl
@[simp] theorem q_not:ev Γ (.not a) σ=(uno a (ev Γ a) σ).bind knot:=rfl
@[simp] theorem wm8:ev Γ (.and l) σ=(yt6 Γ l σ).bind kff:=rfl
@[simp] theorem q_or:ev Γ (.or l) σ=(evOr Γ l σ).bind kff:=rfl
@[simp] theorem q_cmp {op:CmpOp}:ev Γ (.cmp op a b) σ=(duo a (ev Γ a) b (ev Γ b) σ).bind (kcmp op):=rfl
@[simp] theorem q_ite:ev Γ (.ite c a b) σ=(uno c (ev Γ c) σ).bind (kif (ev Γ a) (ev Γ b)):=rfl
@[simp] theorem q_tup:ev Γ (.tup l) σ=(evs Γ l σ).bind kmT:=rfl
@[simp] theorem q_lst:ev Γ (.lst l) σ=(evs Γ l σ).bind kmL:=rfl
@[simp] theorem q_comp1 {elt s cond:I}:ev Γ (.comp1 elt s cond) σ=(srcE (ev Γ s) σ).bind (kco σ.length (zs7 cond (ev Γ cond)) (ev Γ elt)):=rfl
@[simp] theorem q_compT {m:Nat} {elt s cond:I}:ev Γ (.compT m elt s cond) σ=(srcE (ev Γ s) σ).bind (kcT σ.length m (zs7 cond (ev Γ cond)) (ev Γ elt)):=rfl
@[simp] theorem q_call {g:Str}:ev Γ (.call g l) σ=(evs Γ l σ).bind (kca Γ g):=rfl
@[simp] theorem wu6 {p:Prim}:ev Γ (.prim1 p a) σ=(uno a (ev Γ a) σ).bind (kp1 p):=rfl
@[simp] theorem q_isi {ty:Str}:ev Γ (.isi a ty) σ=(uno a (ev Γ a) σ).bind (kis ty):=rfl
@[simp] theorem q_idx:ev Γ (.idx a i) σ=(duo a (ev Γ a) i (ev Γ i) σ).bind kidx:=rfl
@[simp] theorem q_pop {k:Nat}:ev Γ (.pop k) σ=(ownL σ k).bind (kpo σ k):=rfl
@[simp] theorem q_rng1:ev Γ (.rng1 b) σ=(ev Γ b σ).bind kr1:=rfl
@[simp] theorem q_rng:ev Γ (.rng a b) σ=(ev Γ a σ).bind (kr (ev Γ b)):=rfl
@[simp] theorem wm7:evs Γ (.cons a r) σ=(ev Γ a σ).bind (kc (evs Γ r)):=rfl
@[simp] theorem q_al:yt6 Γ (.cons a .nil) σ=(ev Γ a σ).bind kl:=rfl
@[simp] theorem q_am:yt6 Γ (.cons a (.cons b r)) σ=(ev Γ a σ).bind (kan (yt6 Γ (.cons b r))):=rfl
@[simp] theorem q_ol:evOr Γ (.cons a .nil) σ=(ev Γ a σ).bind kl:=rfl
@[simp] theorem q_om:evOr Γ (.cons a (.cons b r)) σ=(ev Γ a σ).bind (ko (evOr Γ (.cons b r))):=rfl
@[simp] theorem q_asg {k:Nat}:ex Γ (.asg k e) σ=(ev Γ e σ).bind (kas k):=rfl
@[simp] theorem wm5 {k:Nat} {key:I}:ex Γ (.sto k key e) σ=(ev Γ e σ).bind (kst k (ev Γ key)):=by
 rw [yf2]; congr 1; funext v; unfold kst
 cases zm3 v.2.2 k<;>rfl
@[simp] theorem q_app {k:Nat}:ex Γ (.app k e) σ=(ownL σ k).bind (kap k (ev Γ e) σ):=rfl
@[simp] theorem q_ext {k:Nat}:ex Γ (.ext k e) σ=(ownL σ k).bind (kex k (ev Γ e) σ):=rfl
@[simp] theorem q_iff:ex Γ (.iff c t e) σ=(uno c (ev Γ c) σ).bind (kif (ex Γ t) (ex Γ e)):=rfl
@[simp] theorem q_for1 {k:Nat}:ex Γ (.for1 k s b) σ=(srcE (ev Γ s) σ).bind (kfo (zn4 k) (ex Γ b)):=rfl
@[simp] theorem q_fors {ks:List Nat}:ex Γ (.fors ks s b) σ=(srcE (ev Γ s) σ).bind (kfo (yx0 ks) (ex Γ b)):=rfl
@[simp] theorem q_ret:ex Γ (.ret e) σ=(ev Γ e σ).bind kre:=rfl
@[simp] theorem wu5 {h:Ev}:uno a h σ=(opn a h σ).bind kun:=rfl
@[simp] theorem q_duo {h k:Ev}:duo a h b k σ=(opn a h σ).bind (kdu b k):=rfl
@[simp] theorem q_brw {k:Nat} {h:Ev}:opn (.brw k) h σ=(look σ k).bind (kslo k σ):=rfl
@[simp] theorem q_src {h:Ev}:srcE h σ=(h σ).bind ksr:=rfl
@[simp] theorem put_t {k:Nat}:put σ k d true=σ.set k (some (.own d)):=rfl
@[simp] theorem put_f {k:Nat}:put σ k d false=σ.set k (some (.val d)):=rfl
theorem mkT0:mkT []=some (.tuple [],false):=rfl
theorem mkT1:mkT [x]=some (.tuple [x],false):=rfl
theorem mkT2:mkT [x,y]=some (.tuple [x,y],false):=rfl
theorem mkT3:mkT [x,y,d]=some (.tuple [x,y,d],false):=rfl
theorem mkL0:mkL []=some (.list [],true):=rfl
theorem mkL1:mkL [x]=some (.list [x],true):=rfl
theorem mkL2:mkL [x,y]=some (.list [x,y],true):=rfl
theorem wo6 {i j:Int}:binD .Sub (.int i) (.int j)=some (.int (i - j),false):=rfl
theorem ys5 {i j:Int}:binD .Add (.int i) (.int j)=some (.int (i+j),false):=rfl
theorem wo7 {i j:Int}:binD .Mod (.int i) (.int j)=if j != 0&&zz9 j then some (.int (i.fmod j),false) else none:=rfl
theorem xg6 {i j:Int}:binD .FloorDiv (.int i) (.int j)=if j != 0&&zz9 j then some (.int (i.fdiv j),false) else none:=rfl
theorem c_gt {i j:Int}:cmpD .Gt (.int i) (.int j)=some (decide (j<i)):=rfl
theorem c_le {i j:Int}:cmpD .LtE (.int i) (.int j)=some (decide (i<=j)):=rfl
theorem c_ge {i j:Int}:cmpD .GtE (.int i) (.int j)=some (decide (j<=i)):=rfl
noncomputable def sq (σ:Sg) (k:Nat):Option (Option AV):=σ[k]?
noncomputable def useK (σ:Sg) (k:Nat):Option (Option AV)->Option (D×Bool×Sg)
 | some (some (.val d))=>some (d,false,σ)
 | some (some (.own d))=>some (d,false,σ.set k (some (.val d)))
 | _=>none
noncomputable def ws4:Option (Option AV)->Option D
 | some (some (.val d))=>some d
 | some (some (.own d))=>some d
 | _=>none
noncomputable def ownLK:Option (Option AV)->Option (List D)
 | some (some (.own (.list l)))=>some l
 | _=>none
noncomputable def wu9:Option (Option AV)->Option (List (D×D))
 | some (some (.own (.dict l)))=>some l
 | _=>none
noncomputable def hasK:Option (Option AV)->Bool
 | some (some (.own _))=>true
 | _=>false
@[simp] theorem q_use {k:Nat}:useS σ k=useK σ k (sq σ k):=rfl
@[simp] theorem wm6 {k:Nat}:look σ k=ws4 (sq σ k):=rfl
@[simp] theorem q_oL {k:Nat}:ownL σ k=ownLK (sq σ k):=rfl
@[simp] theorem q_oD {k:Nat}:ownD σ k=wu9 (sq σ k):=rfl
@[simp] theorem q_has {k:Nat}:zm3 σ k=hasK (sq σ k):=rfl
@[simp] theorem use_v {k:Nat}:useK σ k (some (some (.val d)))=some (d,false,σ):=rfl
@[simp] theorem use_o {k:Nat}:useK σ k (some (some (.own d)))=some (d,false,σ.set k (some (.val d))):=rfl
@[simp] theorem look_v:ws4 (some (some (.val d)))=some d:=rfl
@[simp] theorem look_o:ws4 (some (some (.own d)))=some d:=rfl
@[simp] theorem oL_ {ds:List D}:ownLK (some (some (.own (.list ds))))=some ds:=rfl
@[simp] theorem oD_ {ds:List (D×D)}:wu9 (some (some (.own (.dict ds))))=some ds:=rfl
@[simp] theorem has_o:hasK (some (some (.own d)))=true:=rfl
@[simp] theorem sl0 {a0:Option AV}:sq (a0::σ) 0=some a0:=rfl
@[simp] theorem sl1 {a0 a1:Option AV}:sq (a0::a1::σ) 1=some a1:=rfl
@[simp] theorem sl2 {a0 a1 a2:Option AV}:sq (a0::a1::a2::σ) 2=some a2:=rfl
@[simp] theorem sl3 {a0 a1 a2 a3:Option AV}:sq (a0::a1::a2::a3::σ) 3=some a3:=rfl
@[simp] theorem sl4 {a0 a1 a2 a3 a4:Option AV}:sq (a0::a1::a2::a3::a4::σ) 4=some a4:=rfl
@[simp] theorem sl5 {a0 a1 a2 a3 a4 a5:Option AV}:sq (a0::a1::a2::a3::a4::a5::σ) 5=some a5:=rfl
@[simp] theorem sl6 {a0 a1 a2 a3 a4 a5 a6:Option AV}:sq (a0::a1::a2::a3::a4::a5::a6::σ) 6=some a6:=rfl
@[simp] theorem sl7 {a0 a1 a2 a3 a4 a5 a6 a7:Option AV}:sq (a0::a1::a2::a3::a4::a5::a6::a7::σ) 7=some a7:=rfl
@[simp] theorem sl8 {a0 a1 a2 a3 a4 a5 a6 a7 a8:Option AV}:sq (a0::a1::a2::a3::a4::a5::a6::a7::a8::σ) 8=some a8:=rfl
@[simp] theorem sl9 {a0 a1 a2 a3 a4 a5 a6 a7 a8 a9:Option AV}:sq (a0::a1::a2::a3::a4::a5::a6::a7::a8::a9::σ) 9=some a9:=rfl
@[simp] theorem sl10 {a0 a1 a2 a3 a4 a5 a6 a7 a8 a9 a10:Option AV}:sq (a0::a1::a2::a3::a4::a5::a6::a7::a8::a9::a10::σ) 10=some a10:=rfl
@[simp] theorem sl11 {a0 a1 a2 a3 a4 a5 a6 a7 a8 a9 a10 a11:Option AV}:sq (a0::a1::a2::a3::a4::a5::a6::a7::a8::a9::a10::a11::σ) 11=some a11:=rfl
@[simp] theorem sl12 {a0 a1 a2 a3 a4 a5 a6 a7 a8 a9 a10 a11 a12:Option AV}:sq (a0::a1::a2::a3::a4::a5::a6::a7::a8::a9::a10::a11::a12::σ) 12=some a12:=rfl
theorem mkT_ {ds:List D}:mkT ds=if ds.length<=size then some (.tuple ds,false) else none:=rfl
theorem mkL_ {ds:List D}:mkL ds=if ds.length<=size then some (.list ds,true) else none:=rfl
noncomputable def kno (b:Bool):Option Bool:=some (!b)
@[simp] theorem kno_ {p:Bool}:kno p=some (!p):=rfl
theorem c_eq:cmpD .Eq x y=eqD x y:=rfl
theorem c_ne:cmpD .NotEq x y=(eqD x y).bind kno:=rfl
theorem c_lt:cmpD .Lt x y=if okd x&&okd y then ltD x y else none:=rfl
theorem c_in:cmpD .In x y=inD x y:=rfl
theorem c_ni:cmpD .NotIn x y=(inD x y).bind kno:=rfl
theorem b_ad:binD .Add x y=addD x y:=rfl
theorem b_mu:binD .Mult x y=mulD x y:=rfl
theorem b_po:binD .Pow x y=int2 (fun a n=>if 0<=n/\(wJ a:Int)*n<=2^27 then some (.int (a^n.toNat),false) else none) x y:=rfl
theorem xj4 {ds:List D}:idxD (.list (x::ds)) (.int 0)=some x:=rfl
theorem ix_l1 {ds:List D}:idxD (.list (x::y::ds)) (.int 1)=some y:=rfl
theorem zx1 {ds:List D}:idxD (.tuple (x::ds)) (.int 0)=some x:=rfl
theorem zq0 {ds:List D}:idxD (.tuple (x::y::ds)) (.int 1)=some y:=rfl
theorem zd2 {ds:List D}:idxD (.tuple (x::y::d::ds)) (.int 2)=some d:=rfl
noncomputable def kapd (σ:Sg) (k:Nat) (r l:List D):Option Out:=if l.length+r.length<size then some (.next (σ.set k (some (.own (.list (l++r)))))) else none
@[simp] theorem kapd_ {k:Nat} {r l:List D}:kapd σ k r l=if l.length+r.length<size then some (.next (σ.set k (some (.own (.list (l++r)))))) else none:=rfl
@[simp] theorem q_appD {k:Nat} {r:List D}:appD σ k r=(ownL σ k).bind (kapd σ k r):=rfl
@[simp] theorem o_var {k:Nat} {h:Ev}:opn (.var k) h σ=(h σ).bind kdat:=rfl
@[simp] theorem wl5 {k:Int} {h:Ev}:opn (.cint k) h σ=(h σ).bind kdat:=rfl
@[simp] theorem o_cstr {k:Str} {h:Ev}:opn (.cstr k) h σ=(h σ).bind kdat:=rfl
@[simp] theorem o_cbool {k:Bool} {h:Ev}:opn (.cbool k) h σ=(h σ).bind kdat:=rfl
@[simp] theorem o_glob {k:Str} {h:Ev}:opn (.glob k) h σ=(h σ).bind kdat:=rfl
@[simp] theorem o_pop {k:Nat} {h:Ev}:opn (.pop k) h σ=(h σ).bind kdat:=rfl
@[simp] theorem o_not {k:I} {h:Ev}:opn (.not k) h σ=(h σ).bind kdat:=rfl
@[simp] theorem wl6 {k:I} {h:Ev}:opn (.and k) h σ=(h σ).bind kdat:=rfl
@[simp] theorem o_or {k:I} {h:Ev}:opn (.or k) h σ=(h σ).bind kdat:=rfl
@[simp] theorem o_tup {k:I} {h:Ev}:opn (.tup k) h σ=(h σ).bind kdat:=rfl
@[simp] theorem o_lst {k:I} {h:Ev}:opn (.lst k) h σ=(h σ).bind kdat:=rfl
@[simp] theorem o_rng1 {k:I} {h:Ev}:opn (.rng1 k) h σ=(h σ).bind kdat:=rfl
@[simp] theorem o_bin {k:Operator} {h:Ev}:opn (.bin k a b) h σ=(h σ).bind kdat:=rfl
@[simp] theorem o_cmp {k:CmpOp} {h:Ev}:opn (.cmp k a b) h σ=(h σ).bind kdat:=rfl
@[simp] theorem o_call {k:Str} {h:Ev}:opn (.call k a) h σ=(h σ).bind kdat:=rfl
@[simp] theorem o_prim1 {k:Prim} {h:Ev}:opn (.prim1 k a) h σ=(h σ).bind kdat:=rfl
@[simp] theorem o_isi {k:Str} {h:Ev}:opn (.isi a k) h σ=(h σ).bind kdat:=rfl
@[simp] theorem o_idx {h:Ev}:opn (.idx a b) h σ=(h σ).bind kdat:=rfl
theorem bm2 {i:Int}:binD .Mod (.int i) (.int 2)=some (.int (i.fmod 2),false):=rfl
theorem bd2 {i:Int}:binD .FloorDiv (.int i) (.int 2)=some (.int (i.fdiv 2),false):=rfl
theorem bm3 {i:Int}:binD .Mod (.int i) (.int 3)=some (.int (i.fmod 3),false):=rfl
theorem bd3 {i:Int}:binD .FloorDiv (.int i) (.int 3)=some (.int (i.fdiv 3),false):=rfl
theorem bm4 {i:Int}:binD .Mod (.int i) (.int 4)=some (.int (i.fmod 4),false):=rfl
theorem bd4 {i:Int}:binD .FloorDiv (.int i) (.int 4)=some (.int (i.fdiv 4),false):=rfl
theorem bm5 {i:Int}:binD .Mod (.int i) (.int 5)=some (.int (i.fmod 5),false):=rfl
theorem bm8 {i:Int}:binD .Mod (.int i) (.int 8)=some (.int (i.fmod 8),false):=rfl
theorem bd8 {i:Int}:binD .FloorDiv (.int i) (.int 8)=some (.int (i.fdiv 8),false):=rfl
@[simp] theorem o_slc {h:Ev}:opn (.slc a b c) h σ=(h σ).bind kdat:=rfl
@[simp] theorem o_comp1 {h:Ev}:opn (.comp1 a b c) h σ=(h σ).bind kdat:=rfl
@[simp] theorem o_compT {n:Nat} {h:Ev}:opn (.compT n a b c) h σ=(h σ).bind kdat:=rfl
@[simp] theorem o_ite {h:Ev}:opn (.ite a b c) h σ=(h σ).bind kdat:=rfl
@[simp] theorem o_rng {h:Ev}:opn (.rng a b) h σ=(h σ).bind kdat:=rfl
@[simp] theorem o_cnone {h:Ev}:opn .cnone h σ=(h σ).bind kdat:=rfl
@[simp] theorem o_dct0 {h:Ev}:opn .dct0 h σ=(h σ).bind kdat:=rfl
@[simp] theorem o_cmp2 {u v:CmpOp} {h:Ev}:opn (.cmp2 u v a b c) h σ=(h σ).bind kdat:=rfl
end
theorem zad1 {a b:List D}:addD (.list a) (.list b)=mkL (a++b):=rfl
theorem zad2 {a b:List D}:addD (.tuple a) (.tuple b)=mkT (a++b):=rfl
@[simp] theorem ztr1 {b:Bool}:zy2 (.bool b)=some b:=rfl
theorem ztr2 {l:List D}:zy2 (.list l)=some (!l.isEmpty):=rfl
theorem zix1 {l:List D} {i:Int}:idxD (.list l) (.int i)=if 0<=i then l[i.toNat]? else none:=rfl
theorem zix2 {l:List D} {i:Int}:idxD (.tuple l) (.int i)=if 0<=i then l[i.toNat]? else none:=rfl
theorem zix3 {l:List (D×D)} {k:D}:idxD (.dict l) k=if zj8 k l then zq8 l k else none:=rfl
theorem zsl1 {l:List D} {i j:Option Int}:yr8 (.list l) i j=some (.list (zv8 l i j),true):=rfl
theorem zsl2 {l:List D} {i:Int}:yr8 (.tuple l) (some i) none=if 1<=i/\i<=l.length then some (.tuple (l.drop i.toNat),false) else none:=rfl
theorem zse1 {l:List D}:seqD (.list l)=some l:=rfl
theorem zse2 {l:List D}:seqD (.tuple l)=some l:=rfl
theorem zex1 {l:List D}:extD (.list l)=some l:=rfl
theorem zex2 {l:List D}:extD (.tuple l)=some l:=rfl
theorem zle1 {l:List D}:lenD (.list l)=some (.int l.length,false):=rfl
theorem zle2 {l:List D}:lenD (.tuple l)=some (.int l.length,false):=rfl
theorem zai {i:Int}:zq6 (.int i)=some i:=rfl
theorem zal {l:List D}:ye0 (.list l)=some l:=rfl
theorem zat {l:List D}:wz3 (.tuple l)=some l:=rfl
theorem zit1 {l:List D}:yp5 (.list l)=some l:=rfl
theorem zit3 {l:List (D×D)}:yp5 (.dict l)=some (l.map (·.1)):=rfl
theorem zco {l:List (D×D)}:wp1 (.dict l)=if zj3 l then some (.dict l,true) else none:=rfl
theorem zso1 {l:List D}:yo9 (.list l)=zi0 l:=rfl
theorem zso2 {l:List (D×D)}:yo9 (.dict l)=zi0 (l.map (·.1)):=rfl
theorem zin2 {x:D} {l:List D}:inD x (.tuple l)=if okd x&&l.all okd then some (l.any fun y=>qX y x) else none:=rfl
theorem zin3 {x:D} {l:List (D×D)}:inD x (.dict l)=if zj8 x l&&!tkey x then some (zq8 l x).isSome else none:=rfl
theorem zp5 {d:D}:zn7 .len d=lenD d:=rfl
theorem xd3 {d:D}:zn7 .tuple d=(seqD d).bind fun l=>some (.tuple l,false):=rfl
theorem xd4 {d:D}:zn7 .list d=orS ((seqD d).bind fun l=>some (.list l,true)) (yn3 .list d):=rfl
theorem xm7 {d:D}:zn7 .sorted d=yn3 .sorted d:=rfl
theorem wl0 {d:D}:zn7 .dict d=yn3 .dict d:=rfl
theorem p_int {d:D}:zn7 .int d=intD d:=rfl
theorem xm2 {d:D}:yn3 .sorted d=yo9 d:=rfl
theorem wm4 {d:D}:yn3 .dict d=wp1 d:=rfl
theorem bD_ {i:Int}:bndD (.int i)=if i.natAbs<2^62 then some i else none:=rfl
noncomputable def kbe2 (σ:Sg) (j:Int):Option (Option Int×Sg):=some (some j,σ)
@[simp] theorem kbe2_ {σ:Sg} {j:Int}:kbe2 σ j=some (some j,σ):=rfl
noncomputable def kbe (p:D×Bool×Sg):Option (Option Int×Sg):=(bndD p.1).bind (kbe2 p.2.2)
@[simp] theorem kbe_ {d:D} {f:Bool} {σ:Sg}:kbe (d,f,σ)=(bndD d).bind (kbe2 σ):=rfl
theorem bE_o {h:Ev} {σ:Sg}:bndE .omit h σ=some (none,σ):=rfl
theorem bE_c {i:Int} {h:Ev} {σ:Sg}:bndE (.cint i) h σ=(h σ).bind kbe:=rfl
theorem bE_v {k:Nat} {h:Ev} {σ:Sg}:bndE (.var k) h σ=(h σ).bind kbe:=rfl
theorem bE_b {o:Operator} {a b:I} {h:Ev} {σ:Sg}:bndE (.bin o a b) h σ=(h σ).bind kbe:=rfl
theorem cE_c {o:CmpOp} {a b:I} {h:Ev} {σ:Sg}:zs7 (.cmp o a b) h σ=(h σ).bind kl:=rfl
theorem cE_n {a:I} {h:Ev} {σ:Sg}:zs7 (.not a) h σ=(h σ).bind kl:=rfl
theorem cE_k {g:Str} {a:I} {h:Ev} {σ:Sg}:zs7 (.call g a) h σ=(h σ).bind kl:=rfl
theorem kk_i {i:Int}:zq7 (.int i)=some 0:=rfl
theorem kk_t {l:List D}:zq7 (.tuple l)=if tkey (.tuple l) then some 1 else none:=rfl
section
variable {Γ:Env} {σ:Sg}
@[simp] theorem w_cnone:ev Γ .cnone σ=some (.none,false,σ):=rfl
@[simp] theorem w_cbool {b:Bool}:ev Γ (.cbool b) σ=some (.bool b,false,σ):=rfl
@[simp] theorem w_cint {i:Int}:ev Γ (.cint i) σ=some (.int i,false,σ):=rfl
@[simp] theorem w_cstr {s:Str}:ev Γ (.cstr s) σ=some (.str s,false,σ):=rfl
@[simp] theorem w_var {k:Nat}:ev Γ (.var k) σ=useS σ k:=rfl
@[simp] theorem w_dct0:ev Γ .dct0 σ=some (.dict [],true,σ):=rfl
@[simp] theorem w_nil:evs Γ .nil σ=some ([],σ):=rfl
@[simp] theorem x_nil:ex Γ .nil σ=some (.next σ):=rfl
@[simp] theorem res_s {k:Nat}:res (.slot k) σ=look σ k:=rfl
@[simp] theorem res_d {d:D}:res (.dat d) σ=some d:=rfl
end
end Mini
end
section
namespace Pl
open Mini
theorem qt {a b c:Nat} (h:a<=b) (k:b<=c):a<=c:=qw h k
theorem ql {a b c:Nat} (h:a<=b) (k:b<c):a<c:=z7 h k
theorem qa {a b c d:Nat} (h:a<=b) (k:c<=d):a+c<=b+d:=Z5 h k
theorem qx {a k m:Nat} (h:a<=k) (hk:k<m:=by decide):a<m:=z7 h hk
theorem qy {a k m:Nat} (h:a<=k) (hk:k<=m:=by decide):a<=m:=qw h hk
theorem qr {a b c:Nat} (h:a+b<=c):b<=c:=qw (w7 ..) h
theorem qf {a b c:Nat} (h:a+b<=c):a<=c:=qw (qQ ..) h
theorem qg {a b c:Nat} (h:a+b<c):a<c:=z7 (qQ ..) h
theorem na62 {n k:Nat} (h:n<=k) (hk:k<4611686018427387904:=by decide):(n:Int).natAbs<4611686018427387904:=z7 h hk
theorem na63 {n k:Nat} (h:n+1<=k) (hk:k<4611686018427387904:=by decide):((n:Int)+1).natAbs<4611686018427387904:=z7 h hk
theorem nsc {n k x m c K:Nat} (h:x<=m) (hk:m<=k:=by decide) (e:k+c=K:=by rfl):n+k - x+x+c=n+K:=by
 rw [w8 (qw h (Nat.le_add_left_of_le hk)),x9,e]
theorem nc1 {a b:Nat} (h:1<=a):a+b - 1+1=a+b:=w8 (Nat.le_add_right_of_le h)
theorem nc2 {n a b:Nat} (h:1<=a):n+a+b - 1+1=n+a+b:=w8 (Nat.le_add_right_of_le (Nat.le_add_left_of_le h))
theorem nc3 {n a b:Nat} (h:1<=a):n+a - 1+b+1=n+a+b:=by
 rw [Qy,w8 (Nat.le_add_left_of_le h)]
theorem nc4 {n a b:Nat} (h:1<=b):n+b - 1+a+1=n+a+b:=(nc3 h).trans (Qy ..)
theorem nlb {a b:Nat} (h:1<=b):a<=a+b - 1:=Nat.le_sub_of_add_le (qZ h a)
theorem nla {a b:Nat} (h:1<=a):b<=a+b - 1:=wk b a▸nlb h
theorem nlm {m a b:Nat} (h:1<=a):m+b<=m+a+b - 1:=by
 rw [Qy]; exact nlb h
theorem nmx {x y k:Nat} (h1:x<k) (h2:y<k):max 0 (max x (max y 0))+1<=k :=
 Nat.max_lt.mpr ⟨Nat.zero_lt_of_lt h1,Nat.max_lt.mpr ⟨h1,Nat.max_lt.mpr ⟨h2,Nat.zero_lt_of_lt h1⟩⟩⟩
theorem nmk {x y k:Nat} (h1:x<=k) (h2:y<=k):max x y<=k:=Nat.max_le.mpr ⟨h1,h2⟩
theorem nir {x k m:Int} (h:0<=x/\x<k) (hk:k<=m+1:=by decide):0<=x/\x<=m:=⟨h.1,Int.le_of_lt_add_one (Int.lt_of_lt_of_le h.2 hk)⟩
theorem nia {a x k m:Int} (h:0<=x/\x<k) (ha:0<=a:=by decide) (hk:a+k<=m:=by decide):0<=a+x/\a+x<=m:=⟨Int.add_nonneg ha h.1,Int.le_trans (Int.add_le_add_left (Int.le_of_lt h.2) a) hk⟩
theorem nis {a x k:Int} (h:0<=x/\x<k) (ha:k<=a:=by decide):0<=a - x/\a - x<=a:=⟨Int.sub_nonneg_of_le (Int.le_trans (Int.le_of_lt h.2) ha),Int.sub_le_self a h.1⟩
theorem n4s {k:Nat} (h:k<4):k=0\/k=1\/k=2\/k=3:=by
 revert k; decide
theorem n4i {x:Int} (h:0<=x/\x<4):x=0\/x=1\/x=2\/x=3:=by
 obtain ⟨k,rfl⟩:=Int.eq_ofNat_of_zero_le h.1
 exact (n4s (kJ.mp h.2)).imp (congrArg Nat.cast) (Or.imp (congrArg Nat.cast) (Or.imp (congrArg Nat.cast) (congrArg Nat.cast)))
theorem n2i {x:Int} (h:0<=x/\x<2):x=0\/x=1:=by
 obtain ⟨k,rfl⟩:=Int.eq_ofNat_of_zero_le h.1
 exact (Nat.le_one_iff_eq_zero_or_eq_one.mp (yj (kJ.mp h.2))).imp (congrArg Nat.cast) (congrArg Nat.cast)
theorem nad {a d r s:Nat} (h:a+(d+(r+1))<s):a+d+1<s:=ql (qZ (qZ (w7 1 r) d) a) h
theorem nsw {a b s f:Nat} (h:1+a+b+s<f+1):b+(a+s)<f:=by
 rw [Nat.add_left_comm,<- x9]
 exact Nat.lt_of_add_lt_add_left (n:=1) (by rw [<- x9,<- x9,wk 1 f]; exact h)
theorem nmc {x y k:Nat} (h1:x<=k) (h2:y<=k):max 0 (max x (max y 0))+1<=k+1:=nmx (Nat.lt_succ_of_le h1) (Nat.lt_succ_of_le h2)
section
variable {α:Type} {x y:α} {a b l r L:List α}
theorem mh:x∈x::l:=j5
theorem mt (h:x∈l):x∈y::l:=xX _ h
theorem ml (h:x∈l):x∈l++r:=jj _ h
theorem mr (h:x∈r):x∈l++r:=List.mem_append_right _ h
theorem mm (e:L=a++x::b):x∈L:=e▸mr mh
theorem mml (e:L=a++x::b) (h:y∈a):y∈L:=e▸ml h
theorem mmr (e:L=a++x::b) (h:y∈b):y∈L:=e▸mr (mt h)
theorem lm (e:L=a++x::b):L.length=a.length+(b.length+1):=e▸z9
theorem lm1 (e:L=a++x::b):a.length+1<=L.length:=(lm e).symm▸qZ (w7 1 _) _
end
set_option backward.match.sparseCases false
open Mini PySem
inductive Sn where
 | sum|mul|pair
 deriving DecidableEq
noncomputable def Sn.str:Sn->Str
 | .sum => "sum" | .mul => "mul" | .pair => "pair"
set_option genCtorIdx false in
inductive Tm where
 | leaf (o:Bool) (n:Int)
 | node (s:Sn) (a b:Tm)
noncomputable def lstr (o:Bool):Str:=if o then "open" else "name"
noncomputable def enc:Tm->D
 | .leaf o n=>.tuple [.str (lstr o),.int n]
 | .node s a b=>.tuple [.str s.str,enc a,enc b]
theorem zo9 {o n}:enc (.leaf o n)=.tuple [.str (lstr o),.int n]:=rfl
theorem zl5 {s a b}:enc (.node s a b)=.tuple [.str s.str,enc a,enc b]:=rfl
noncomputable def most (o:Bool):Int:=if o then 9 else 1000000000
noncomputable def ok:Tm->Prop
 | .leaf o n=>0<=n/\n<=most o
 | .node _ a b=>ok a/\ok b
noncomputable def num:Tm->Nat
 | .leaf _ _=>1
 | .node _ a b=>num a+num b
theorem yi8 {o n}:num (.leaf o n)=1:=rfl
theorem ys9 {s a b}:num (.node s a b)=num a+num b:=rfl
theorem zi7:((("name" : Str))==("open" : Str))=false:=by decide
theorem yh1:((("name" : Str))==("pair" : Str))=false:=by decide
theorem yh0:((("open" : Str))==("name" : Str))=false:=by decide
theorem yi9:((("open" : Str))==("pair" : Str))=false:=by decide
theorem zk6:((("sum" : Str))==("name" : Str))=false:=by decide
theorem zk5:((("sum" : Str))==("open" : Str))=false:=by decide
theorem zk4:((("sum" : Str))==("pair" : Str))=false:=by decide
theorem zk9:((("mul" : Str))==("name" : Str))=false:=by decide
theorem zk8:((("mul" : Str))==("open" : Str))=false:=by decide
theorem xr9:((("mul" : Str))==("sum" : Str))=false:=by decide
theorem zk7:((("mul" : Str))==("pair" : Str))=false:=by decide
theorem zi6:((("pair" : Str))==("name" : Str))=false:=by decide
theorem yy0:((("pair" : Str))==("open" : Str))=false:=by decide
noncomputable def zv0:I:=(.cons (.ret (.and (.cons (.isi (.var 0) "int") (.cons (.not (.isi (.var 0) "bool")) (.cons (.cmp2 .LtE .LtE (.cint 0) (.var 0) (.var 1)) .nil))))) .nil)
noncomputable def zt0:I:=(.cons (.iff (.cmp .NotEq (.prim1 .len (.var 0)) (.cint 2)) (.cons (.ret (.cbool false)) .nil) .nil) (.cons (.iff (.cmp .Eq (.idx (.var 0) (.cint 0)) (.cstr "name")) (.cons (.ret (.call "is_whole" (.cons (.idx (.var 0) (.cint 1)) (.cons (.glob "GREATEST") .nil)))) .nil) .nil) (.cons (.ret (.and (.cons (.cmp .Eq (.idx (.var 0) (.cint 0)) (.cstr "open")) (.cons (.call "is_whole" (.cons (.idx (.var 0) (.cint 1)) (.cons (.bin .Sub (.glob "OPENS") (.cint 1)) .nil))) .nil)))) .nil)))
noncomputable def zh1:I:=(.cons (.asg 1 (.lst (.cons (.var 0) .nil))) (.cons (.asg 2 (.cint 0)) (.cons (.whl (.brw 1) (.cons (.asg 3 (.pop 1)) (.cons (.iff (.or (.cons (.not (.isi (.var 3) "tuple")) (.cons (.cmp .Eq (.prim1 .len (.var 3)) (.cint 0)) (.cons (.not (.isi (.idx (.var 3) (.cint 0)) "str")) .nil)))) (.cons .rais .nil) .nil) (.cons (.iff (.and (.cons (.cmp .Eq (.prim1 .len (.var 3)) (.cint 3)) (.cons (.or (.cons (.cmp .In (.idx (.var 3) (.cint 0)) (.glob "JOINS")) (.cons (.cmp .Eq (.idx (.var 3) (.cint 0)) (.cstr "pair")) .nil))) .nil))) (.cons (.app 1 (.idx (.var 3) (.cint 1))) (.cons (.app 1 (.idx (.var 3) (.cint 2))) .nil)) (.cons (.iff (.call "is_leaf" (.cons (.var 3) .nil)) (.cons (.asg 2 (.bin .Add (.var 2) (.cint 1))) .nil) (.cons .rais .nil)) .nil)) .nil)))) (.cons (.iff (.cmp .Gt (.var 2) (.glob "LEAVES")) (.cons .rais .nil) .nil) (.cons (.ret (.var 2)) .nil)))))
noncomputable def zx2:I:=(.cons (.iff (.cmp .Eq (.idx (.var 1) (.cint 0)) (.var 0)) (.cons (.ret (.prim1 .list (.slc (.var 1) (.cint 1) .omit))) .nil) .nil) (.cons (.ret (.lst (.cons (.var 1) .nil))) .nil))
noncomputable def zu0:I:=(.cons (.asg 2 (.lst .nil)) (.cons (.for1 3 (.var 1) (.cons (.ext 2 (.call "parts_in" (.cons (.var 0) (.cons (.var 3) .nil)))) .nil)) (.cons (.ret (.prim1 .tuple (.bin .Add (.lst (.cons (.var 0) .nil)) (.prim1 .sorted (.brw 2))))) .nil)))
noncomputable def zq1:I:=(.cons (.iff (.cmp .In (.idx (.var 0) (.cint 0)) (.glob "JOINS")) (.cons (.ret (.call "joined" (.cons (.idx (.var 0) (.cint 0)) (.cons (.lst (.cons (.call "shaped" (.cons (.idx (.var 0) (.cint 1)) .nil)) (.cons (.call "shaped" (.cons (.idx (.var 0) (.cint 2)) .nil)) .nil))) .nil)))) .nil) .nil) (.cons (.iff (.cmp .Eq (.idx (.var 0) (.cint 0)) (.cstr "pair")) (.cons (.ret (.tup (.cons (.cstr "pair") (.cons (.call "shaped" (.cons (.idx (.var 0) (.cint 1)) .nil)) (.cons (.call "shaped" (.cons (.idx (.var 0) (.cint 2)) .nil)) .nil))))) .nil) .nil) (.cons (.ret (.var 0)) .nil)))
noncomputable def zy7:I:=(.cons (.iff (.cmp .Lt (.var 1) (.prim1 .len (.var 0))) (.cons (.ret (.idx (.var 0) (.var 1))) .nil) .nil) (.cons (.ret (.cint 0)) .nil))
variable {Fs:Fns} {fuel:Nat}
noncomputable def glo (x:Str):Option D :=
 if x == "JOINS" then some (.tuple [.str "sum", .str "mul"]) else if x == "LEAVES" then some (.int 40) else if x == "GREATEST" then some (.int 1000000000) else if x == "OPENS" then some (.int 10) else none
theorem zs5:glo "JOINS" = some (.tuple [.str "sum", .str "mul"]):=by rfl
theorem xq7:glo "LEAVES" = some (.int 40):=by rfl
theorem yg6:glo "GREATEST" = some (.int 1000000000):=by rfl
theorem xi3:glo "OPENS" = some (.int 10):=by rfl
theorem isi_int (d:D):isiD d "int" = some (match d with|.int _=>true|.bool _=>true|_=>false):=by rfl
theorem isi_bool (d:D):isiD d "bool" = some (match d with|.bool _=>true|_=>false):=by rfl
theorem isi_str (d:D):isiD d "str" = some (match d with|.str _=>true|_=>false):=by rfl
theorem isi_tuple (d:D):isiD d "tuple" = some (match d with|.tuple _=>true|_=>false):=by rfl
theorem isi_list (d:D):isiD d "list" = some (match d with|.list _=>true|_=>false):=by rfl
noncomputable def Has (Fs:Fns) (g:Str) (fn:Fn):Prop:=Fs.lookup g=some fn
noncomputable abbrev Ga (Fs:Fns) (fuel n:Nat):Mini.Env:=xc1 (run Fs glo fuel n) glo fuel
theorem zr7 {g:Str} {fn:Fn} {args:List D} {n:Nat} (h:Has Fs g fn) (hl:args.length=fn.params) :
  run Fs glo fuel (n+1) g args=match ex (Ga Fs fuel n) fn.body (args.map (fun d=>some (.val d))++jv (fn.slots - fn.params) none) with
   | some (.ret d f)=>some (d,f)
   | some (.next _)=>some (.none,false)
   | none=>none:=by
 unfold Has at h
 show ((Fs.lookup g).bind fun fn=>if args.length=fn.params then (ex (Ga Fs fuel n) fn.body (args.map (fun d=>some (.val d))++jv (fn.slots - fn.params) none)).bind fun o=>some (retO o) else none)=_
 rw [h]
 show (if args.length=fn.params then (ex (Ga Fs fuel n) fn.body (args.map (fun d=>some (.val d))++jv (fn.slots - fn.params) none)).bind fun o=>some (retO o) else none)=_
 rw [if_pos hl]
 cases ex (Ga Fs fuel n) fn.body (args.map (fun d=>some (.val d))++jv (fn.slots - fn.params) none) with
 | none=>rfl
 | some o=>cases o<;>rfl
theorem zx9 (i:Int):okd (.int i)=true:=by rfl
theorem zu7:okd (.str "name")=true:=by decide +kernel
theorem zv6:okd (.str "open")=true:=by decide +kernel
theorem ze6:okd (.str "sum")=true:=by decide +kernel
theorem ze7:okd (.str "mul")=true:=by decide +kernel
theorem zw6:okd (.str "pair")=true:=by decide +kernel
theorem zg4 (o:Bool):okd (.str (lstr o))=true:=by cases o<;>decide +kernel
theorem zt1 (s:Sn):okd (.str s.str)=true:=by cases s<;>decide +kernel
theorem zs0 (a b:Int):qX (.int a) (.int b)=(a==b):=rfl
theorem zy0 (a b:Str):qX (.str a) (.str b)=(a==b):=rfl
theorem yj4 (h:Has Fs "is_whole" ⟨2,2,zv0⟩) (n:Nat) (k m:Int):run Fs glo fuel (n+1) "is_whole" [.int k,.int m]=some (.bool (decide (0<=k)&&decide (k<=m)),false):=by
 rw [zr7 h rfl]
 by_cases h0:0<=k<;>by_cases h1:k<=m <;>
 simp [zv0,xp3,zz1,c_le,isi_int,isi_bool,h0,h1]
theorem yc1 (h1:Has Fs "is_whole" ⟨2,2,zv0⟩) (h2:Has Fs "is_leaf" ⟨1,1,zt0⟩) (n:Nat) {o:Bool} {k:Int} (hk:ok (.leaf o k)) :
  run Fs glo fuel (n+2) "is_leaf" [enc (.leaf o k)]=some (.bool true,false):=by
 rw [zr7 h2 rfl]
 have hw:=yj4 (fuel:=fuel) h1 n
 have h3:decide (0<=k)=true:=decide_eq_true hk.1
 cases o with
 | true =>
  have h4:decide (k<=9)=true:=decide_eq_true hk.2
  simp [zt0,zo9,lstr,zz1,c_eq,c_ne,eqD,wo6,zp5,zle2,↓zx1,↓zq0,zx9,zv6,zu7,zs0,zy0,yh0,xi3,hw,h3,h4]
 | false =>
  have h4:decide (k<=1000000000)=true:=decide_eq_true hk.2
  simp [zt0,zo9,lstr,zz1,c_eq,c_ne,eqD,zp5,zle2,↓zx1,↓zq0,zx9,zu7,zs0,zy0,yg6,hw,h3,h4]
theorem yr9:(3:Nat)<=size:=by unfold size; decide
end Pl
end
section
namespace Pl
open Mini PySem
variable {Fs:Fns} {fuel:Nat}
noncomputable def nds:Tm->Nat
 | .leaf _ _=>1
 | .node _ a b=>1+nds a+nds b
theorem yb2 {o n}:nds (.leaf o n)=1:=rfl
theorem yh2 {s a b}:nds (.node s a b)=1+nds a+nds b:=rfl
theorem yb1 (t:Tm):nds t+1=2*num t:=by
 induction t with
 | leaf _ _=>rfl
 | node _ a b ha hb=>simp only [yh2,ys9]; rw [uq,<- ha,<- hb,wk 1,x9]
theorem nds_pos (t:Tm):1<=nds t:=by cases t<;>simp only [yb2,yh2]<;>bv_omega
noncomputable def zw3:I:=(.cons (.asg 3 (.pop 1)) (.cons (.iff (.or (.cons (.not (.isi (.var 3) "tuple")) (.cons (.cmp .Eq (.prim1 .len (.var 3)) (.cint 0)) (.cons (.not (.isi (.idx (.var 3) (.cint 0)) "str")) .nil)))) (.cons .rais .nil) .nil) (.cons (.iff (.and (.cons (.cmp .Eq (.prim1 .len (.var 3)) (.cint 3)) (.cons (.or (.cons (.cmp .In (.idx (.var 3) (.cint 0)) (.glob "JOINS")) (.cons (.cmp .Eq (.idx (.var 3) (.cint 0)) (.cstr "pair")) .nil))) .nil))) (.cons (.app 1 (.idx (.var 3) (.cint 1))) (.cons (.app 1 (.idx (.var 3) (.cint 2))) .nil)) (.cons (.iff (.call "is_leaf" (.cons (.var 3) .nil)) (.cons (.asg 2 (.bin .Add (.var 2) (.cint 1))) .nil) (.cons .rais .nil)) .nil)) .nil)))
theorem xn3 (s:Sn):((qX (.str "sum") (.str s.str)||qX (.str "mul") (.str s.str))=true/\s≠.pair)\/((qX (.str "sum") (.str s.str)||qX (.str "mul") (.str s.str))=false/\s=.pair):=by
 cases s
 ·left; decide
 ·left; decide
 ·right; decide
theorem zs9 {test:Mini.Sg->Option (D×Mini.Sg)} {body:Mini.Sg->Option Out} {n:Nat} {σ σ' σ'':Mini.Sg} {d:D} (h1:test σ=some (d,σ')) (h2:zy2 d=some true) (h3:body σ'=some (.next σ'')):zp1 test body (n+1) σ=zp1 test body n σ'':=by
 show ((test σ).bind fun p=>(zy2 p.1).bind fun b=>bif b then (body p.2).bind (zl9 (zp1 test body n)) else some (.next p.2))=_
 rw [h1]
 show ((zy2 d).bind fun b=>bif b then (body σ').bind (zl9 (zp1 test body n)) else some (.next σ'))=_
 rw [h2]
 show (body σ').bind (zl9 (zp1 test body n))=_
 rw [h3]; rfl
theorem zl8 {test:Mini.Sg->Option (D×Mini.Sg)} {body:Mini.Sg->Option Out} {n:Nat} {σ σ':Mini.Sg} {d:D} (h1:test σ=some (d,σ')) (h2:zy2 d=some false):zp1 test body (n+1) σ=some (.next σ'):=by
 show ((test σ).bind fun p=>(zy2 p.1).bind fun b=>bif b then (body p.2).bind (zl9 (zp1 test body n)) else some (.next p.2))=_
 rw [h1]
 show ((zy2 d).bind fun b=>bif b then (body σ').bind (zl9 (zp1 test body n)) else some (.next σ'))=_
 rw [h2]; rfl
theorem zv1 {bnd:D->Mini.Sg->Option Mini.Sg} {body:Mini.Sg->Option Out} {d:D} {r:List D} {σ σ1 σ2:Mini.Sg} (h1:bnd d σ=some σ1) (h2:body σ1=some (.next σ2)):forN bnd body (d::r) σ=forN bnd body r σ2:=by
 show ((bnd d σ).bind fun σ'=>(body σ').bind (zl9 (forN bnd body r)))=_
 rw [h1]
 show (body σ1).bind (zl9 (forN bnd body r))=_
 rw [h2]; rfl
theorem zz0 {Γ:Mini.Env} {a b:I} {σ σ':Mini.Sg} (h:ex Γ a σ=some (.next σ')):ex Γ (.cons a b) σ=ex Γ b σ':=by rw [zz1,h]; rfl
theorem zz5 {Γ:Mini.Env} {a b:I} {σ:Mini.Sg} {d:D} {f:Bool} (h:ex Γ a σ=some (.ret d f)):ex Γ (.cons a b) σ=some (.ret d f):=by rw [zz1,h]; rfl
theorem ya5 (h1:Has Fs "is_whole" ⟨2,2,zv0⟩) (h2:Has Fs "is_leaf" ⟨1,1,zt0⟩) (n:Nat) (t0:D) (l:List D) (o:Bool) (k:Int) (c:Int) (x:Option AV) (hk:ok (.leaf o k)) :
  ex (Ga Fs fuel (n+2)) zw3 [some (.val t0),some (.own (.list (l++[enc (.leaf o k)]))),some (.val (.int c)),x]=some (.next [some (.val t0),some (.own (.list l)),some (.val (.int (c+1))),some (.val (enc (.leaf o k)))]):=by
 have hl':run Fs glo fuel (n+2) "is_leaf" [.tuple [.str (lstr o),.int k]]=some (.bool true,false):=yc1 (fuel:=fuel) h1 h2 n hk
 simp [zw3,zo9,zz1,c_eq,eqD,↓ys5,zp5,zle2,↓zx1,zx9,zs0,isi_tuple,isi_str,hl']
theorem xu1 {s:Sn} (h:s≠.pair):inD (.str s.str) (.tuple [.str "sum", .str "mul"])=some true:=by
 have ho:okd (.str s.str)=true:=zt1 s
 rcases xn3 s with q|q
 ·have e:([PyData.str "sum", .str "mul"].any fun y=>qX y (.str s.str))=true:=by simpa using q.1
  simp only [zin2,ho,List.all_cons,List.all_nil,ze6,ze7,Bool.and_self,if_true,e]
 ·exact absurd q.2 h
theorem ym7:inD (.str "pair") (.tuple [.str "sum", .str "mul"])=some false:=by
 simp [zin2,ze6,ze7,zw6,zy0,zk4,zk7]
theorem ya4 (n:Nat) (t0:D) (l:List D) (s:Sn) (a b:Tm) (c:Int) (x:Option AV) (hz0:l.length+2<size) :
  ex (Ga Fs fuel (n+2)) zw3 [some (.val t0),some (.own (.list (l++[enc (.node s a b)]))),some (.val (.int c)),x]=some (.next [some (.val t0),some (.own (.list (l++[enc a,enc b]))),some (.val (.int c)),some (.val (enc (.node s a b)))]):=by
 have hz'':l.length+1<size:=by exact jK hz0
 have hz:l.length+1+1<size:=by exact hz0
 have hor:ev (Ga Fs fuel (n+2)) (.or (.cons (.cmp .In (.idx (.var 3) (.cint 0)) (.glob "JOINS")) (.cons (.cmp .Eq (.idx (.var 3) (.cint 0)) (.cstr "pair")) .nil))) [some (.val t0),some (.own (.list l)),some (.val (.int c)),some (.val (.tuple [.str s.str,enc a,enc b]))]=some (.bool true,false,[some (.val t0),some (.own (.list l)),some (.val (.int c)),some (.val (.tuple [.str s.str,enc a,enc b]))]):=by
  by_cases hs:s=.pair
  ·subst hs
   simp [c_eq,c_in,eqD,↓zx1,Sn.str,ym7,zw6,zy0,zs5]
  ·simp [c_in,↓zx1,xu1 hs,zs5]
 rw [zw3,zz0 (σ':=[some (.val t0),some (.own (.list l)),some (.val (.int c)),some (.val (.tuple [.str s.str,enc a,enc b]))]) (by simp [zl5]),
  zz0 (σ':=[some (.val t0),some (.own (.list l)),some (.val (.int c)),some (.val (.tuple [.str s.str,enc a,enc b]))]) (rfl)]
 have hc:uno (.and (.cons (.cmp .Eq (.prim1 .len (.var 3)) (.cint 3)) (.cons (.or (.cons (.cmp .In (.idx (.var 3) (.cint 0)) (.glob "JOINS")) (.cons (.cmp .Eq (.idx (.var 3) (.cint 0)) (.cstr "pair")) .nil))) .nil))) (ev (Ga Fs fuel (n+2)) (.and (.cons (.cmp .Eq (.prim1 .len (.var 3)) (.cint 3)) (.cons (.or (.cons (.cmp .In (.idx (.var 3) (.cint 0)) (.glob "JOINS")) (.cons (.cmp .Eq (.idx (.var 3) (.cint 0)) (.cstr "pair")) .nil))) .nil)))) [some (.val t0),some (.own (.list l)),some (.val (.int c)),some (.val (.tuple [.str s.str,enc a,enc b]))]=some (.bool true,[some (.val t0),some (.own (.list l)),some (.val (.int c)),some (.val (.tuple [.str s.str,enc a,enc b]))]):=by
  simp [xh3,yt8,xh4,yl0,yl1,uno,duo,zp5,zle2,cmpD,eqD,zx9,zs0,hor]
 rw [zz0 (σ':=[some (.val t0),some (.own (.list (l++[enc a,enc b]))),some (.val (.int c)),some (.val (.tuple [.str s.str,enc a,enc b]))])]
 ·rfl
 ·rw [zz2,hc]
  simp [zz1,↓zq0,↓zd2,hz,hz'']
theorem zd1 (h1:Has Fs "is_whole" ⟨2,2,zv0⟩) (h2:Has Fs "is_leaf" ⟨1,1,zt0⟩) (n:Nat) (t0:D):∀ (f:Nat) (ts:List Tm) (c:Int) (x:Option AV),(∀ t∈ts,ok t)->(ts.map nds).sum<f->ts.length+(ts.map nds).sum<=10000 ->
  ∃ y,zp1 (uno (.brw 1) (ev (Ga Fs fuel (n+2)) (.brw 1))) (ex (Ga Fs fuel (n+2)) zw3) f [some (.val t0),some (.own (.list (ts.reverse.map enc))),some (.val (.int c)),x] =
   some (.next [some (.val t0),some (.own (.list [])),some (.val (.int (c+(ts.map num).sum))),y])
 | 0,_,_,_,_,h,_=>absurd h (Nat.not_lt_zero _)
 | f+1,[],c,x,_,_,_=>⟨x,by
  rw [zl8 (d:=.list []) (σ':=[some (.val t0),some (.own (.list [])),some (.val (.int c)),x])]
  ·simp
  ·simp [uno]
  ·rfl⟩
 | f+1,t::r,c,x,hok,hf,hz=>by
  have ht:uno (.brw 1) (ev (Ga Fs fuel (n+2)) (.brw 1)) [some (.val t0),some (.own (.list (((t::r).reverse).map enc))),some (.val (.int c)),x]=some (.list (r.reverse.map enc++[enc t]),[some (.val t0),some (.own (.list (r.reverse.map enc++[enc t]))),some (.val (.int c)),x]):=by
   simp [uno]
  have hd:zy2 (.list (r.reverse.map enc++[enc t]))=some true:=by simp [ztr2]
  cases t with
  | leaf o k =>
   obtain ⟨y,ih⟩:=zd1 h1 h2 n t0 f r (c+1) (some (.val (enc (.leaf o k)))) (fun t ht=>hok t (xX _ ht)) (by simp [yb2] at hf; exact Nat.lt_of_add_lt_add_left (n:=1) (wk 1 f▸hf)) (by simp [yb2] at hz; exact qt (qa (qQ ..) (w7 ..)) hz)
   refine ⟨y,?_⟩
   have e:c+1+((r.map num).sum:Int)=c+(((Tm.leaf o k::r).map num).sum:Nat):=by simp [yi8]; bv_omega
   rw [e] at ih
   rw [zs9 ht hd (ya5 h1 h2 n t0 _ o k c x (hok _ j5)),ih]
  | node s a b =>
   have hok':=hok _ j5
   obtain ⟨y,ih⟩:=zd1 h1 h2 n t0 f (b::a::r) c (some (.val (enc (.node s a b)))) (fun t ht=>by
    rcases z0.mp ht with rfl|ht
    ·exact hok'.2
    ·rcases z0.mp ht with rfl|ht
     ·exact hok'.1
     ·exact hok t (xX _ ht)) (by simp [yh2] at hf |-; exact nsw hf) (by simp [yh2] at hz |-; bv_omega)
   refine ⟨y,?_⟩
   have e:c+(((b::a::r).map num).sum:Nat)=c+(((Tm.node s a b::r).map num).sum:Nat):=by simp [ys9]; bv_omega
   rw [e] at ih
   rw [zs9 ht hd (ya4 n t0 _ s a b c x (by simp at hz |-; unfold size; exact qx (zJ (qf hz))))]
   have e2:List.map enc (b::a::r).reverse=List.map enc r.reverse++[enc a,enc b]:=by simp
   rw [e2] at ih
   exact ih
theorem yq1 (h1:Has Fs "is_whole" ⟨2,2,zv0⟩) (h2:Has Fs "is_leaf" ⟨1,1,zt0⟩) (h3:Has Fs "leaves" ⟨1,4,zh1⟩) (n:Nat) {t:Tm} (hk:ok t) (hn:num t<=40) (hf:100<=fuel) :
  run Fs glo fuel (n+3) "leaves" [enc t]=some (.int (num t),false):=by
 rw [zr7 h3 rfl]
 have hnd:=yb1 t
 obtain ⟨y,hl⟩:=zd1 (fuel:=fuel) h1 h2 n (enc t) fuel [t] 0 none (by simpa using hk) (by simp; exact jQ (qt (zX hnd) (w5 2 hn)) (qt (by decide) hf)) (by simp; bv_omega)
 have hgt:¬ ((40:Int)<(num t:Int)):=by bv_omega
 have hz:(1:Nat)<=size:=by unfold size; decide
 simp only [xz,List.map_nil,List.sum_cons,List.sum_nil,List.reverse_cons,List.reverse_nil,List.nil_append,Nat.add_zero,Int.zero_add] at hl
 have hl':ex (Ga Fs fuel (n+2)) (.whl (.brw 1) zw3) [some (.val (enc t)),some (.own (.list [enc t])),some (.val (.int 0)),none]=some (.next [some (.val (enc t)),some (.own (.list [])),some (.val (.int (num t))),y]):=by
  rw [eq_ex_whl]; exact hl
 have e:zh1=.cons (.asg 1 (.lst (.cons (.var 0) .nil))) (.cons (.asg 2 (.cint 0)) (.cons (.whl (.brw 1) zw3) (.cons (.iff (.cmp .Gt (.var 2) (.glob "LEAVES")) (.cons .rais .nil) .nil) (.cons (.ret (.var 2)) .nil)))):=rfl
 rw [e]
 show (match ex (Ga Fs fuel (n+2)) (.cons _ _) [some (.val (enc t)),none,none,none] with|some (.ret d f)=>some (d,f)|some (.next _)=>some (.none,false)|none=>none)=_
 rw [zz0 (σ':=[some (.val (enc t)),some (.own (.list [enc t])),none,none]) (rfl),
  zz0 (σ':=[some (.val (enc t)),some (.own (.list [enc t])),some (.val (.int 0)),none]) (by simp),
  zz0 hl',zz0 (σ':=[some (.val (enc t)),some (.own (.list [])),some (.val (.int (num t))),y]) (by simp [c_gt,xq7,hgt]),
  zz5 (d:=.int (num t)) (f:=false) (by simp)]
end Pl
end
section
namespace Pl
open Mini PySem
theorem zf0:vz []=0:=rfl
theorem zl6 {x r}:vz (x::r)=max (PyData.depth x) (vz r):=rfl
theorem yt9 {l}:PyData.depth (.tuple l)=vz l+1:=rfl
theorem wp0 {l}:PyData.depth (.list l)=vz l+1:=rfl
theorem xh6 {i}:PyData.depth (.int i)=0:=rfl
theorem yl3 {s}:PyData.depth (.str s)=0:=rfl
theorem zv2 {l:List D} (h:∀ x∈l,zz8 x=true):zt7 l=true:=by
 induction l with
 | nil=>rfl
 | cons x r ih=>simp [zg2,h x mh,ih fun y hy=>h y (mt hy)]
theorem zq5 {l:List D} (h:∀ x∈l,vQ x=true):wQ l=true:=by
 induction l with
 | nil=>rfl
 | cons x r ih=>simp [wQ,h x mh,ih fun y hy=>h y (mt hy)]
theorem ys2 {x:Str} (h:okd (.str x)=true):vQ (.str x)=true:=by
 simp only [okd,zj] at h; exact h.1
theorem zu4 {k:Nat} {l:List D} (h:∀ x∈l,PyData.depth x<=k):vz l<=k:=by
 induction l with
 | nil=>simp [zf0]
 | cons x r ih=>simp only [zl6]; have:=h x mh; have:=ih fun y hy=>h y (mt hy); exact nmk ‹_› ‹_›
theorem zp9 {s s':Sn} (h:s.str=s'.str):s=s':=by
 cases s<;>cases s'<;>first|rfl|(exact absurd h (by decide))
theorem zx8 (o:Bool) (s:Sn):lstr o≠s.str:=by
 cases o<;>cases s<;>decide
theorem zn9 (o:Bool):lstr o ≠ "pair" := zx8 o .pair
theorem zr0 {s:Sn} (h:s≠.pair):s.str ≠ "pair" := fun e=>h (zp9 (s':=.pair) e)
theorem zx6 (t:Tm):1<=num t:=by induction t<;>simp only [yi8,ys9]<;>bv_omega
noncomputable def parts (s:Sn) (d:D):List D:=match d with
 | .tuple (.str x::r)=>if x==s.str then r else [d]
 | _=>[d]
theorem ze5 {s x r}:parts s (.tuple (.str x::r))=if x==s.str then r else [.tuple (.str x::r)]:=rfl
noncomputable def shp:Tm->D
 | .leaf o n=>enc (.leaf o n)
 | .node s a b=>if s=.pair then .tuple [.str "pair", shp a,shp b] else .tuple (.str s.str::zx4 (parts s (shp a)++parts s (shp b)))
theorem xr2 {o n}:shp (.leaf o n)=enc (.leaf o n):=rfl
theorem xf7 {s a b}:shp (.node s a b)=if s=.pair then .tuple [.str "pair", shp a,shp b] else .tuple (.str s.str::zx4 (parts s (shp a)++parts s (shp b))):=rfl
inductive Shp:Nat->D->Prop
 | leaf (k:Nat) (o:Bool) (n:Int):Shp (k+1) (.tuple [.str (lstr o),.int n])
 | pair {k:Nat} {a b:D}:Shp k a->Shp k b->Shp (k+1) (.tuple [.str "pair", a,b])
 | join {k:Nat} {s:Sn} {l:List D}:s≠.pair->l.length<=k+1->(∀ x∈l,Shp k x)->Shp (k+1) (.tuple (.str s.str::l))
theorem Shp.mono {k:Nat} {d:D} (h:Shp k d):∀ {j:Nat},k<=j->Shp j d:=by
 induction h with
 | leaf k o n=>intro j hj; obtain ⟨j,rfl⟩:∃ i,j=i+1:=⟨j - 1,by exact (w8 (qr hj)).symm⟩; exact .leaf j o n
 | pair _ _ iha ihb=>intro j hj; obtain ⟨j,rfl⟩:∃ i,j=i+1:=⟨j - 1,by exact (w8 (qr hj)).symm⟩; exact .pair (iha (by bv_omega)) (ihb (by bv_omega))
 | join hs hl _ ih=>intro j hj; obtain ⟨j,rfl⟩:∃ i,j=i+1:=⟨j - 1,by exact (w8 (qr hj)).symm⟩; exact .join hs (by bv_omega) fun x hx=>ih x hx (by bv_omega)
theorem Shp.plain {k:Nat} {d:D} (h:Shp k d):zz8 d=true:=by
 induction h with
 | leaf k o n=>rfl
 | pair _ _ iha ihb=>simp [xw8,zp4,xd1,zg2,iha,ihb]
 | join hs _ _ ih=>simp [xw8,zp4,zg2,zv2 ih]
theorem Shp.lay {k:Nat} {d:D} (h:Shp k d):d.canLay0=true:=by
 induction h with
 | leaf k o n=>simp [vQ,wQ]; have:=ys2 (zg4 o); simpa [vQ] using this
 | pair _ _ iha ihb=>simp [vQ,wQ,iha,ihb]; have:=ys2 zw6; simpa [vQ] using this
 | @join k s l hs _ _ ih=>simp [vQ,wQ,zq5 ih]; have:=ys2 (zt1 s); simpa [vQ] using this
theorem Shp.dep {k:Nat} {d:D} (h:Shp k d):d.depth<=k:=by
 induction h with
 | leaf k o n=>simp [yt9,xh6,yl3,zf0,zl6]
 | pair _ _ iha ihb=>simp only [yt9,yl3,zf0,zl6]; exact nmc iha ihb
 | @join k s l hs _ _ ih=>have:=zu4 ih; simp only [yt9,yl3,zl6]; exact zJ (nmk (wx _) this)
theorem Shp.okd {k:Nat} {d:D} (h:Shp k d) (hk:k<=1000):okd d=true:=by
 have:=h.dep
 simp only [Mini.okd,h.lay,Q7,decide_eq_true_eq]; exact qt this hk
theorem ya3 (x y:Str) (l r:List D):ltL (.str x::l) (.str y::r)=if x=y then ltL l r else some (decide (x.cps.toList<y.cps.toList)):=by
 simp only [xk6,zy0,beq_iff_eq,yu5]
theorem zb0:∀ {l r:List D},(∀ x∈l,∀ y∈r,(ltD x y).isSome=true)->(ltL l r).isSome=true
 | [],[],_=>rfl
 | [],_::_,_=>rfl
 | _::_,[],_=>rfl
 | x::l,y::r,h=>by
  simp only [xk6]
  split
  ·exact zb0 fun a ha b hb=>h a (mt ha) b (mt hb)
  ·exact h x mh y mh
set_option tactic.hygienic true in
theorem Shp.lt_some {k:Nat} {a:D} (h:Shp k a):∀ {j:Nat} {b:D},Shp j b->(ltD a b).isSome=true:=by
 induction h with
 | leaf k o n =>
  intro j b hb
  cases hb<;>simp only [za5,ya3]<;>split<;>first|rfl|skip
  ·exact zb0 (by simp [zd0])
  ·rename_i e; exact absurd e (zn9 _)
  ·rename_i e; exact absurd e (zx8 _ _)
 | pair _ _ iha ihb =>
  intro j b hb
  cases hb<;>simp only [za5,ya3]<;>split<;>first|rfl|skip
  ·rename_i e; exact absurd e.symm (zn9 _)
  ·rename_i h1 h2 _
   exact zb0 (by simp [iha h1,iha h2,ihb h1,ihb h2])
  ·rename_i hs _ _ e; exact absurd e.symm (zr0 hs)
 | join hs _ _ ih =>
  intro j b hb
  cases hb<;>simp only [za5,ya3]<;>split<;>first|rfl|skip
  ·rename_i e; exact absurd e.symm (zx8 _ _)
  ·rename_i e; exact absurd e (zr0 hs)
  ·rename_i hl _
   exact zb0 fun x hx y hy=>ih x hx (hl y hy)
theorem Shp.tup {k:Nat} {d:D} (h:Shp k d):yz5 d=true:=by cases h<;>rfl
theorem xh8 {k:Nat} {l:List D} (h:∀ x∈l,Shp k x):Cmp l:=⟨fun a ha=>(h a ha).plain,fun a ha b hb=>(h a ha).lt_some (h b hb)⟩
theorem yz7 {k:Nat} {l:List D} (h:∀ x∈l,Shp k x) (hk:k<=1000):sortable l=true:=by
 simp only [sortable,zj,xJ,Q0]
 exact ⟨⟨⟨fun x hx=>(h x hx).okd hk,fun x hx=>(h x hx).plain⟩,.inl (.inr fun x hx=>(h x hx).tup)⟩,fun a ha b hb=>(h a ha).lt_some (h b hb)⟩
theorem yk9 {k:Nat} {l:List D} (h:∀ x∈l,Shp k x) (hk:k<=1000) (hl:l.length<64):zi0 l=some (.list (zx4 l),true):=by
 simp [zi0,yz7 h hk,yb3 hl]
theorem zo0 (s:Sn) (o:Bool) (n:Int):parts s (.tuple [.str (lstr o),.int n])=[.tuple [.str (lstr o),.int n]]:=by
 simp [ze5,zx8]
theorem zm9 {s:Sn} (h:s≠.pair) (a b:D):parts s (.tuple [.str "pair", a,b])=[.tuple [.str "pair", a,b]]:=by
 simp [ze5,(zr0 h).symm]
theorem zv4 (s:Sn) (l:List D):parts s (.tuple (.str s.str::l))=l:=by simp [ze5]
theorem zo4 {s s':Sn} (h:s'≠s) (l:List D):parts s (.tuple (.str s'.str::l))=[.tuple (.str s'.str::l)]:=by
 simp [ze5,show ¬ s'.str=s.str from fun e=>h (zp9 e)]
theorem zm8 {k:Nat} {s:Sn} (hs:s≠.pair) {d:D} (h:Shp k d):∀ x∈parts s d,Shp k x:=by
 cases h with
 | leaf k o n=>intro x hx; rw [zo0] at hx; simp at hx; subst hx; exact .leaf _ _ _
 | pair ha hb=>intro x hx; rw [zm9 hs] at hx; simp at hx; subst hx; exact .pair ha hb
 | @join k s' l hs' hll hl =>
  intro x hx
  by_cases e:s'=s
  ·subst e; rw [zv4] at hx; exact (hl x hx).mono (by bv_omega)
  ·rw [zo4 e] at hx; simp at hx; subst hx; exact .join hs' hll hl
theorem zk2 (a b:Tm):shp (.node .pair a b)=.tuple [.str "pair", shp a,shp b]:=by simp [xf7]
theorem zs1 {s:Sn} (hs:s≠.pair) (a b:Tm):shp (.node s a b)=.tuple (.str s.str::zx4 (parts s (shp a)++parts s (shp b))):=by simp [xf7,hs]
theorem zl0 {s:Sn} (hs:s≠.pair) (t:Tm):(parts s (shp t)).length<=num t:=by
 induction t with
 | leaf o n=>rw [show shp (.leaf o n)=.tuple [.str (lstr o),.int n] from rfl,zo0]; simp [yi8]
 | node s' a b iha ihb =>
  have ha:=zx6 (.node s' a b)
  by_cases hp:s'=.pair
  ·subst hp; rw [zk2,zm9 hs]; exact ha
  ·rw [zs1 hp]
   by_cases e:s'=s
   ·subst e; rw [zv4,(zz3 _).length_eq,z9]; simp only [ys9]; exact qa iha ihb
   ·rw [zo4 e]; exact ha
theorem yq0 (t:Tm):Shp (num t) (shp t):=by
 induction t with
 | leaf o n=>exact .leaf 0 o n
 | node s a b iha ihb =>
  have ha:=zx6 a
  have hb:=zx6 b
  have iha':Shp (num a+num b - 1) (shp a):=iha.mono (by exact nlb hb)
  have ihb':Shp (num a+num b - 1) (shp b):=ihb.mono (by exact nla ha)
  have e:num (.node s a b)=num a+num b - 1+1:=by simp only [ys9]; exact (nc1 ha).symm
  rw [e]
  by_cases hs:s=.pair
  ·subst hs; rw [zk2]; exact .pair iha' ihb'
  ·rw [zs1 hs]
   have pa:=zl0 hs a
   have pb:=zl0 hs b
   refine .join hs (by rw [(zz3 _).length_eq,z9]; exact qt (qa pa pb) (zX (nc1 ha).symm)) fun x hx=>?_
   have hx':=(zz3 _).mem_iff.mp hx
   rcases qW.mp hx' with q|q
   ·exact zm8 hs iha' x q
   ·exact zm8 hs ihb' x q
noncomputable def xt9 (s:Sn) (a b:Tm):List D:=parts s (shp a)++parts s (shp b)
theorem xo5 {s:Sn} (hs:s≠.pair) (a b:Tm):∀ x∈xt9 s a b,Shp (num a+num b) x:=by
 intro x hx
 rcases qW.mp hx with q|q
 ·exact (zm8 hs (yq0 a) x q).mono (by bv_omega)
 ·exact (zm8 hs (yq0 b) x q).mono (by bv_omega)
theorem xo6 {s:Sn} (hs:s≠.pair) (a b:Tm):(xt9 s a b).length<=num a+num b:=by
 have:=zl0 hs a
 have:=zl0 hs b
 simp only [xt9,z9]; exact qa ‹_› this
variable {Fs:Fns} {fuel:Nat}
theorem Shp.head {k:Nat} {d:D} (h:Shp k d):∃ x r,d=.tuple (.str x::r)/\Mini.okd (.str x)=true:=by
 cases h with
 | leaf k o n=>exact ⟨_,_,rfl,zg4 o⟩
 | pair _ _=>exact ⟨_,_,rfl,zw6⟩
 | join _ _ _=>exact ⟨_,_,rfl,zt1 _⟩
theorem zn6 (h:Has Fs "parts_in" ⟨2,2,zx2⟩) (n:Nat) (s:Sn) {k:Nat} {d:D} (hd:Shp k d) :
  run Fs glo fuel (n+1) "parts_in" [.str s.str,d]=some (.list (parts s d),true):=by
 rw [zr7 h rfl]
 (refine elEEA (hd.head) fun x r e_2 hx=>?_; subst e_2)
 have hr:(1:Int)<=(r.length:Int)+1:=by bv_omega
 by_cases e:x=s.str
 ·subst e
  simp [zx2,ze5,zu3,zz1,c_eq,eqD,xd4,zse2,↓zx1,bE_o,bE_c,zsl2,bD_,orS,zt1,zy0,hr]
 ·have e':(x==s.str)=false:=by simpa using e
  simp [zx2,ze5,zz1,c_eq,eqD,↓mkL1,↓zx1,zt1,zy0,hx,e']
theorem xr4 (h:Has Fs "parts_in" ⟨2,2,zx2⟩) (h2:Has Fs "joined" ⟨2,4,zu0⟩) (n:Nat) (s:Sn) (hs:s≠.pair) {k:Nat} {a b:D} (ha:Shp k a) (hb:Shp k b) (hk:k<=1000) (hl:(parts s a++parts s b).length<64) :
  run Fs glo fuel (n+2) "joined" [.str s.str,.list [a,b]]=some (.tuple (.str s.str::zx4 (parts s a++parts s b)),false):=by
 rw [zr7 h2 rfl]
 have ea:=zn6 (fuel:=fuel) h n s ha
 have eb:=zn6 (fuel:=fuel) h n s hb
 have hsz:∀ m,m<64->m<size:=fun m hm=>by unfold size; exact Q5 hm (by decide)
 have hla:(parts s a).length<size:=hsz _ (by simp at hl; exact qg hl)
 have hlb:(parts s a).length+(parts s b).length<size:=hsz _ (by simpa using hl)
 have hso:zi0 (parts s a++parts s b)=some (.list (zx4 (parts s a++parts s b)),true):=yk9 (k:=k) (fun x hx=>by
  rcases qW.mp hx with q|q
  ·exact zm8 hs ha x q
  ·exact zm8 hs hb x q) hk hl
 have hlc:(zx4 (parts s a++parts s b)).length+1<=size:=by rw [(zz3 _).length_eq]; unfold size; exact qy hl
 have hlc':1+(zx4 (parts s a++parts s b)).length<=size:=by bv_omega
 simp [zu0,forN_a,forN_b,zn4,zz1,b_ad,zad1,↓mkL0,↓mkL1,mkL_,xd3,xm7,zso1,zse1,zex1,zit1,xm2,ea,eb,hla,hlb,hso,hlc]
theorem zh9 (h:Has Fs "parts_in" ⟨2,2,zx2⟩) (h2:Has Fs "joined" ⟨2,4,zu0⟩) (h3:Has Fs "shaped" ⟨1,1,zq1⟩) :
  ∀ (t:Tm) (n:Nat),num t<=40->run Fs glo fuel (n+num t+2) "shaped" [enc t]=some (shp t,false)
 | .leaf o k,n,_=>by
  rw [zr7 h3 rfl]
  cases o <;>
  simp [zq1,xr2,zo9,lstr,zz1,c_eq,c_in,eqD,zin2,↓zx1,zv6,zu7,ze6,ze7,zw6,zy0,zs5,yh1,yi9,zk6,zk9,zk5,zk8]
 | .node s a b,n,hn=>by
  have pa:=zx6 a
  have pb:=zx6 b
  have hn':num a+num b<=40:=hn
  obtain ⟨j,hj⟩:∃ j,n+num (.node s a b)+2=j+num a+2+1:=⟨n+num b - 1,by simp only [ys9]; exact congrArg (·+2) ((x9 ..).symm.trans (nc4 pb).symm)⟩
  obtain ⟨i,hi⟩:∃ i,j+num a+2=i+num b+2:=⟨n+num a - 1,by simp only [ys9] at hj; exact QK (hj.symm.trans (congrArg (·+2) ((x9 ..).symm.trans (nc3 pa).symm)))⟩
  have ea:=zh9 h h2 h3 a j (by exact qf hn')
  have eb:=zh9 h h2 h3 b i (by bv_omega)
  rw [<- hi] at eb
  rw [hj,zr7 h3 rfl]
  by_cases hs:s=.pair
  ·subst hs
   simp [zq1,xf7,zl5,Sn.str,zz1,c_eq,c_in,eqD,zin2,↓mkT3,↓zx1,↓zq0,↓zd2,ze6,ze7,zw6,zy0,zs5,zk4,zk7,ea,eb]
  ·have hju:=xr4 (fuel:=fuel) h h2 (j+num a) s hs (k:=40) ((yq0 a).mono (by bv_omega)) ((yq0 b).mono (by bv_omega)) (by bv_omega) (by have:=xo6 hs a b; simp only [xt9] at this; exact qx (qt this hn'))
   have hin:(qX (.str "sum") (.str s.str)||qX (.str "mul") (.str s.str))=true:=by
    rcases xn3 s with q|q
    ·exact q.1
    ·exact absurd q.2 hs
   have hin2:((("sum" : Str)==s.str)||(("mul" : Str)==s.str))=true:=hin
   simp [zq1,xf7,hs,zl5,zz1,c_in,zin2,↓mkL2,↓zx1,↓zq0,↓zd2,ze6,ze7,zt1,zs5,ea,eb,hin,hju]
end Pl
end
section
namespace Pl
open Mini PySem
mutual
noncomputable def lv:D->Nat
 | .int _=>1
 | .tuple l=>lvL l
 | _=>0
noncomputable def lvL:List D->Nat
 | []=>0
 | x::r=>lv x+lvL r
end
theorem zm6:lvL []=0:=rfl
theorem zs8 {x r}:lvL (x::r)=lv x+lvL r:=rfl
theorem lv_i {i}:lv (.int i)=1:=rfl
theorem lv_s {s}:lv (.str s)=0:=rfl
theorem lv_t {l}:lv (.tuple l)=lvL l:=rfl
theorem zw8:∀ (a b:List D),lvL (a++b)=lvL a+lvL b
 | [],b=>by simp [zm6]
 | x::a,b=>by simp only [jx,zs8,zw8 a b]; bv_omega
theorem xv5 {a b:List D} (h:a.Perm b):lvL a=lvL b:=by
 induction h with
 | nil=>rfl
 | cons x _ ih=>simp only [zs8,ih]
 | swap x y l=>simp only [zs8]; bv_omega
 | trans _ _ i j=>exact i.trans j
theorem wt9 {x:D} {l:List D} (h:x∈l):lv x<=lvL l:=by
 induction l with
 | nil=>cases h
 | cons y r ih =>
  simp only [zs8]
  rcases z0.mp h with rfl|h
  ·bv_omega
  ·have:=ih h; exact qw this (w7 ..)
theorem xk5 {a b:List D} (h:a.Sublist b):lvL a<=lvL b:=by
 induction h with
 | slnil=>exact zW _
 | cons _ _ ih=>simp only [zs8]; bv_omega
 | cons_cons _ _ ih=>simp only [zs8]; bv_omega
inductive Can:Nat->D->Prop
 | leaf (k:Nat) (o:Bool) (n:Int):Can (k+1) (.tuple [.str (lstr o),.int n])
 | pair {k:Nat} {a b:D}:Can k a->Can k b->Can (k+1) (.tuple [.str "pair", a,b])
 | join {k:Nat} {s:Sn} {l:List D}:s≠.pair->2<=l.length->l.length<=20->(∀ x∈l,Can k x)->(∀ x∈l,parts s x=[x])->l.Pairwise leD->Can (k+1) (.tuple (.str s.str::l))
theorem Can.mono {k:Nat} {d:D} (h:Can k d):∀ {j:Nat},k<=j->Can j d:=by
 induction h with
 | leaf k o n=>intro j hj; obtain ⟨j,rfl⟩:∃ i,j=i+1:=⟨j - 1,by exact (w8 (qr hj)).symm⟩; exact .leaf j o n
 | pair _ _ iha ihb=>intro j hj; obtain ⟨j,rfl⟩:∃ i,j=i+1:=⟨j - 1,by exact (w8 (qr hj)).symm⟩; exact .pair (iha (by bv_omega)) (ihb (by bv_omega))
 | join hs h2 hl _ hp hw ih=>intro j hj; obtain ⟨j,rfl⟩:∃ i,j=i+1:=⟨j - 1,by exact (w8 (qr hj)).symm⟩; exact .join hs h2 hl (fun x hx=>ih x hx (by bv_omega)) hp hw
theorem Can.shp {k:Nat} {d:D} (h:Can k d):Shp (k+20) d:=by
 induction h with
 | leaf k o n=>exact (Shp.leaf (k+20) o n).mono (by bv_omega)
 | pair _ _ iha ihb=>exact (Shp.pair iha ihb).mono (by bv_omega)
 | join hs _ hl _ _ _ ih=>exact (Shp.join hs (by bv_omega) ih).mono (by bv_omega)
theorem xk8 {k:Nat} {l:List D} (h:∀ x∈l,lev x<=k):levL l<=k:=by
 induction l with
 | nil=>simp [xk9]
 | cons x r ih=>have:=ih fun y hy=>h y (mt hy); have:=h x mh; simp only [xv8]; exact nmk ‹_› ‹_›
theorem Can.lev {k:Nat} {d:D} (h:Can k d):lev d<=k:=by
 induction h with
 | leaf k o n=>simp [lev_i,ws9,xc7,xk9,xv8]
 | pair _ _ iha ihb=>simp only [ws9,xc7,xk9,xv8]; exact nmc iha ihb
 | join hs _ _ _ _ _ ih=>have:=xk8 ih; simp only [ws9,xc7,xv8]; bv_omega
theorem Can.lv_pos {k:Nat} {d:D} (h:Can k d):1<=lv d:=by
 induction h with
 | leaf k o n=>simp [lv_i,lv_s,lv_t,zm6,zs8]
 | pair _ _ iha ihb=>simp only [lv_s,lv_t,zm6,zs8]; bv_omega
 | @join k s l hs h2 _ _ _ _ ih =>
  cases l with
  | nil=>simp at h2
  | cons x r=>have:=ih x mh; simp only [lv_s,lv_t,zs8]; exact qt (Nat.le_add_right_of_le this) (w7 ..)
theorem Can.okd {k:Nat} {d:D} (h:Can k d) (hk:k<=100):Mini.okd d=true:=h.shp.okd (by exact qy (xv hk 20))
theorem Can.plain {k:Nat} {d:D} (h:Can k d):zz8 d=true:=h.shp.plain
theorem zd8 {k:Nat} {l:List D} (h:∀ x∈l,Can k x):Cmp l:=xh8 fun x hx=>(h x hx).shp
theorem Can.lt_some {k:Nat} {a:D} (h:Can k a) {j:Nat} {b:D} (hb:Can j b):(ltD a b).isSome=true:=h.shp.lt_some hb.shp
theorem Can.tkey {k:Nat} {d:D} (h:Can k d) (hk:k<=8):tkey d=true:=by
 have h1:=h.plain
 have h2:=h.okd (by bv_omega)
 have h3:=h.lev
 cases h<;>simp [Mini.tkey,h1,h2,qw h3 hk]
theorem Can.cons {k:Nat} {s:Sn} {l:List D} (h:Can k (.tuple (.str s.str::l))):(∀ x∈l,Can k x)/\2<=l.length/\l.length<=20/\(s≠.pair->(∀ x∈l,Pl.parts s x=[x])/\l.Pairwise leD):=by
 generalize hd:(wV (.str s.str::l))=d at h
 cases h with
 | leaf k o n=>simp at hd; exact absurd hd.1.symm (zx8 o s)
 | pair ha hb =>
  simp at hd
  obtain ⟨e,rfl⟩:=hd
  obtain rfl:s=.pair:=zp9 (s':=.pair) e
  refine ⟨fun x hx=>?_,zW 2,(show 2<=20 by decide),fun h=>absurd rfl h⟩
  simp at hx
  exact hx.elim (fun e=>e▸ha.mono (Nat.le_succ _)) fun e=>e▸hb.mono (Nat.le_succ _)
 | @join k s' l' hs' h2 h20 hc hp hw =>
  simp at hd
  obtain ⟨e,rfl⟩:=hd
  obtain rfl:=zp9 e
  exact ⟨fun x hx=>(hc x hx).mono (Nat.le_succ _),h2,h20,fun _=>⟨hp,hw⟩⟩
theorem Can.two {k:Nat} {s:Sn} {l:List D} (h:Can k (.tuple (.str s.str::l))):2<=l.length:=h.cons.2.1
theorem Can.open_inv {k:Nat} {r:List D} (h:Can k (.tuple (.str "open" :: r))):∃ i,r=[.int i]:=by
 generalize hd:(wV (.str "open" :: r))=d at h
 cases h with
 | leaf k o n=>simp at hd; exact ⟨n,hd.2⟩
 | pair _ _=>simp at hd; exact absurd hd.1 (zn9 true)
 | join hs'=>simp at hd; exact absurd hd.1 (zx8 true _)
theorem Can.parts {k:Nat} {s:Sn} (hs:s≠.pair) {d:D} (h:Can k d):(parts s d=[d])\/(∃ l,d=.tuple (.str s.str::l)/\parts s d=l/\2<=l.length/\l.length<=20/\(∀ x∈l,Can (k - 1) x)/\(∀ x∈l,Pl.parts s x=[x])/\l.Pairwise leD):=by
 cases h with
 | leaf k o n=>exact .inl (zo0 s o n)
 | pair ha hb=>exact .inl (zm9 hs _ _)
 | @join k s' l hs' h2 hl hc hp hw =>
  by_cases e:s'=s
  ·subst e; exact .inr ⟨l,rfl,zv4 _ _,h2,hl,by simpa using hc,hp,hw⟩
  ·exact .inl (zo4 e l)
theorem Can.parts_can {k:Nat} {s:Sn} (hs:s≠.pair) {d:D} (h:Can k d):∀ x∈Pl.parts s d,Can k x:=by
 rcases h.parts hs with e|⟨l,_,e,_,_,hc,_,_⟩<;>rw [e]<;>intro x hx
 ·simp at hx; subst hx; exact h
 ·exact (hc x hx).mono (by exact uy ..)
theorem Can.parts_non {k:Nat} {s:Sn} (hs:s≠.pair) {d:D} (h:Can k d):∀ x∈Pl.parts s d,Pl.parts s x=[x]:=by
 rcases h.parts hs with e|⟨l,_,e,_,_,_,hp,_⟩<;>rw [e]<;>intro x hx
 ·simp at hx; subst hx; exact e
 ·exact hp x hx
theorem Can.parts_sorted {k:Nat} {s:Sn} (hs:s≠.pair) {d:D} (h:Can k d):(Pl.parts s d).Pairwise leD:=by
 rcases h.parts hs with e|⟨l,_,e,_,_,_,_,hw⟩<;>rw [e]
 ·simp
 ·exact hw
theorem Can.parts_pos {k:Nat} {s:Sn} (hs:s≠.pair) {d:D} (h:Can k d):1<=(Pl.parts s d).length/\(Pl.parts s d).length<=20:=by
 rcases h.parts hs with e|⟨l,_,e,h1,h2,_,_,_⟩<;>rw [e]
 ·simp
 ·exact ⟨qt (by decide) h1,h2⟩
theorem zc4 {k:Nat} {s:Sn} (hs:s≠.pair) {d:D} (h:Can k d):lvL (Pl.parts s d)=lv d:=by
 rcases h.parts hs with e|⟨l,e1,e,_⟩
 ·rw [e]; simp [zm6,zs8]
 ·rw [e,e1]; simp [lv_s,lv_t,zs8]
noncomputable def zw1 (s:Sn):List D->D
 | [x]=>x
 | l=>.tuple (.str s.str::l)
theorem zr9 {s:Sn} {l:List D} (h:l.length≠1):zw1 s l=.tuple (.str s.str::l):=by
 match l,h with
 | [],_=>rfl
 | [x],h=>exact absurd rfl h
 | _::_::_,_=>rfl
theorem yn8 {k:Nat} {s:Sn} (hs:s≠.pair) {d:D} (h:Can k d):zw1 s (Pl.parts s d)=d:=by
 rcases h.parts hs with e|⟨l,e1,e,h2,_⟩
 ·rw [e]; rfl
 ·rw [e,zr9 (by bv_omega),e1]
theorem yu1 {k:Nat} {s:Sn} (hs:s≠.pair) {l:List D} (h1:l≠[]) (h2:l.length<=20) (hc:∀ x∈l,Can k x) (hp:∀ x∈l,Pl.parts s x=[x]) (hw:l.Pairwise leD):Can (k+1) (zw1 s l)/\Pl.parts s (zw1 s l)=l:=by
 match l,h1,h2,hc,hp,hw with
 | [x],_,_,hc,hp,_=>exact ⟨(hc x mh).mono (by bv_omega),hp x mh⟩
 | a::b::r,_,h2,hc,hp,hw=>exact ⟨.join hs (by simp) h2 hc hp hw,zv4 _ _⟩
mutual
noncomputable def fill (f:Int->D):D->D
 | .tuple (.str x::r)=>if x == "open" then (match r with|[.int k]=>f k|_=>.none) else if x == "name" then .tuple (.str x::r) else if x == "pair" then .tuple (.str x::yr0 f r)
  else if x == "sum" then .tuple (.str x::zx4 ((yr0 f r).flatMap (parts .sum))) else .tuple (.str x::zx4 ((yr0 f r).flatMap (parts .mul)))
 | d=>d
noncomputable def yr0 (f:Int->D):List D->List D
 | []=>[]
 | x::r=>fill f x::yr0 f r
end
theorem wq5 {f x r}:yr0 f (x::r)=fill f x::yr0 f r:=rfl
theorem ww5 {f x r}:fill f (.tuple (.str x::r))=if x == "open" then (match r with|[.int k]=>f k|_=>.none) else if x == "name" then .tuple (.str x::r) else if x == "pair" then .tuple (.str x::yr0 f r)
  else if x == "sum" then .tuple (.str x::zx4 ((yr0 f r).flatMap (parts .sum))) else .tuple (.str x::zx4 ((yr0 f r).flatMap (parts .mul))):=rfl
theorem yt4 (f:Int->D):∀ l:List D,yr0 f l=l.map (fill f)
 | []=>rfl
 | x::r=>by simp only [wq5,xz,yt4 f r]
theorem zu2 (f:Int->D) (k:Int):fill f (.tuple [.str "open", .int k])=f k:=rfl
theorem zh4 (f:Int->D) (k:Int):fill f (.tuple [.str "name", .int k])=.tuple [.str "name", .int k]:=rfl
theorem zo7 (f:Int->D) (a b:D):fill f (.tuple [.str "pair", a,b])=.tuple [.str "pair", fill f a,fill f b]:=rfl
theorem zo8 (f:Int->D) {s:Sn} (hs:s≠.pair) (l:List D):fill f (.tuple (.str s.str::l))=.tuple (.str s.str::zx4 ((l.map (fill f)).flatMap (parts s))):=by
 cases s with
 | sum=>simp [ww5,Sn.str,yt4,zk5,zk6,zk4]
 | mul=>simp [ww5,Sn.str,yt4,zk8,zk9,zk7,xr9]
 | pair=>exact absurd rfl hs
inductive Opn:Int->D->Prop
 | self (k:Int):Opn k (.tuple [.str "open", .int k])
 | part {k:Int} {x:D} {s:Sn} {l:List D}:x∈l->Opn k x->Opn k (.tuple (.str s.str::l))
theorem xp2 {f g:Int->D} {k:Nat} {d:D} (h:Can k d):(∀ i,Opn i d->f i=g i)->fill f d=fill g d:=by
 induction h with
 | leaf k o n =>
  intro e
  cases o
  ·rw [show lstr false = "name" from rfl,zh4,zh4]
  ·rw [show lstr true = "open" from rfl,zu2,zu2]; exact e n (.self n)
 | @pair k a b ha hb iha ihb =>
  intro e
  rw [zo7,zo7,iha fun i hi=>e i (.part (s:=.pair) (l:=[a,b]) mh hi),ihb fun i hi=>e i (.part (s:=.pair) (l:=[a,b]) (mt mh) hi)]
 | @join k s l hs _ _ hc _ _ ih =>
  intro e
  rw [zo8 f hs,zo8 g hs,yQ fun x hx=>ih x hx fun i hi=>e i (.part hx hi)]
inductive Tri:D->D->Prop
 | self (S:D):Tri S S
 | part {s:Sn} {l:List D} {x v:D}:x∈l->Tri x v->Tri (.tuple (.str s.str::l)) v
 | some {s:Sn} {l t:List D}:s≠.pair->t.Sublist l->t≠[]->Tri (.tuple (.str s.str::l)) (zw1 s t)
theorem Tri.can {k:Nat} {S v:D} (h:Tri S v):Can k S->Can k v:=by
 induction h generalizing k with
 | self S=>exact id
 | @part s l x v hx _ ih =>
  intro c
  generalize hd:(wV (.str s.str::l))=d at c
  cases c with
  | leaf k o n=>simp at hd; exact absurd hd.1.symm (zx8 o s)
  | pair ha hb =>
   simp at hd
   obtain ⟨_,rfl⟩:=hd
   simp at hx
   rcases hx with rfl|rfl
   ·exact (ih ha).mono (by bv_omega)
   ·exact (ih hb).mono (by bv_omega)
  | @join k s' l' hs' _ _ hc _ _ =>
   simp at hd
   obtain ⟨_,rfl⟩:=hd
   exact (ih (hc x hx)).mono (by bv_omega)
 | @some s l t hs ht hn =>
  intro c
  generalize hd:(wV (.str s.str::l))=d at c
  cases c with
  | leaf k o n=>simp at hd; exact absurd hd.1.symm (zx8 o s)
  | pair ha hb =>
   simp at hd
   exact absurd hd.1 (zr0 hs)
  | @join k s' l' hs' h2 hl hc hp hw =>
   simp at hd
   obtain ⟨e,rfl⟩:=hd
   obtain rfl:=zp9 e
   exact (yu1 hs hn (qw ht.length_le hl) (fun x hx=>hc x (ht.subset hx)) (fun x hx=>hp x (ht.subset hx)) (hw.sublist ht)).1
theorem zs6 {α:Type} {bnd:D->Mini.Sg->Option Mini.Sg} {body:Mini.Sg->Option Out} (g:α->D) (J:List α->Mini.Sg->Prop) {L:List α} {σ:Mini.Sg} (h:J [] σ)
  (hs:∀ done a rest σ,L=done++a::rest->J done σ->∃ σ1 σ2,bnd (g a) σ=some σ1/\body σ1=some (.next σ2)/\J (done++[a]) σ2) :
  ∃ σ',forN bnd body (L.map g) σ=some (.next σ')/\J L σ':=by
 have gen:∀ (l pre:List α) (σ:Mini.Sg),L=pre++l->J pre σ->∃ σ',forN bnd body (l.map g) σ=some (.next σ')/\J L σ':=by
  intro l
  induction l with
  | nil=>intro pre σ e h; rw [List.append_nil] at e; subst e; exact ⟨σ,rfl,h⟩
  | cons a r ih =>
   intro pre σ e h
   refine elEEAA (hs pre a r σ e h) fun σ1 σ2 h1 h2 h3=>?_
   refine elEA (ih (pre++[a]) σ2 (by rw [e]; simp) h3) fun σ' e' j=>?_
   exact ⟨σ',(zv1 h1 h2).trans e',j⟩
 exact gen L [] σ rfl h
theorem zn0 {n:Nat} {bc:D->Option (List D)} {cond:Mini.Sg->Option (D×Mini.Sg)} {elt:Mini.Ev} {σ:Mini.Sg} {c:D->Bool} {F:D->D} (hn:σ.length=n):∀ {ds:List D},
  (∀ d∈ds,∃ ws,bc d=some ws/\cond (σ++ws.map fun x=>some (.val x))=some (.bool (c d),σ++ws.map fun x=>some (.val x))/\(c d=true->∃ f,elt (σ++ws.map fun x=>some (.val x))=some (F d,f,σ++ws.map fun x=>some (.val x)))) ->
  zq9 n bc cond elt ds σ=some ((ds.filter c).map F,σ)
 | [],_=>rfl
 | d::r,h=>by
  refine elEAA (h d mh) fun ws h1 h2 h3=>?_
  have ht:(σ++ws.map fun x=>some (AV.val x)).take n=σ:=by subst hn; simp
  have ih:=zn0 (n:=n) (bc:=bc) (cond:=cond) (elt:=elt) (σ:=σ) (c:=c) (F:=F) hn (ds:=r) fun x hx=>h x (mt hx)
  simp only [xh7,h1,h2,vJ,ztr1]
  cases hc:c d with
  | false=>simp only [cond_false,ht,ih,yq,hc]; rfl
  | true =>
   obtain ⟨f,h3⟩:=h3 hc
   simp only [cond_true,h3,vJ,ht,ih,yq,hc,if_true,xz]
noncomputable def zu6 {α:Type} (g:α->Nat):List α->Nat
 | []=>0
 | x::r=>g x+zu6 g r
theorem zm5 {α:Type} {g:α->Nat}:zu6 g []=0:=rfl
theorem zt4 {α:Type} {g:α->Nat} {x r}:zu6 g (x::r)=g x+zu6 g r:=rfl
theorem sum_append {α:Type} (g:α->Nat):∀ (a b:List α),zu6 g (a++b)=zu6 g a+zu6 g b
 | [],b=>by simp [zm5]
 | x::a,b=>by simp only [jx,zt4,sum_append g a b]; bv_omega
theorem wy1 {α:Type} {g h:α->Nat}:∀ {l:List α},(∀ x∈l,g x<=h x)->zu6 g l<=zu6 h l
 | [],_=>zW _
 | x::r,e=>Z5 (e x mh) (wy1 fun y hy=>e y (mt hy))
theorem yw6 {α:Type}:∀ l:List α,zu6 (fun _=>1) l=l.length
 | []=>rfl
 | x::r=>by simp only [zt4,yw6 r,vZ]; bv_omega
theorem za0 {α:Type} (g:α->Nat) (p:α->Bool):∀ l:List α,zu6 g (l.filter p)<=zu6 g l
 | []=>zW _
 | x::r=>by
  have:=za0 g p r
  simp only [yq]
  split<;>simp only [zt4]<;>bv_omega
theorem ye8 {α β:Type} (g:β->Nat) (f:α->β):∀ l:List α,zu6 g (l.map f)=zu6 (fun x=>g (f x)) l
 | []=>rfl
 | x::r=>by simp only [xz,zt4,ye8 g f r]
theorem yk5 {α:Type} (c:Nat):∀ l:List α,zu6 (fun _=>c) l=l.length*c
 | []=>by simp [zm5]
 | x::r=>by simp only [zt4,yk5 c r,vZ,Nat.add_mul]; bv_omega
theorem xq3 {α:Type} {g:α->Nat} {l:List α} (h:∀ x∈l,1<=g x):l.length<=zu6 g l:=by
 rw [<- yw6]; exact wy1 h
theorem za2 (a b:Nat):∀ n:Nat,1<=n->a^n+b^n<=(a+b)^n
 | 1,_=>by simp
 | n+2,_=>by
  have ih:=za2 a b (n+1) (by bv_omega)
  rw [Nat.pow_succ a (n+1),Nat.pow_succ b (n+1),Nat.pow_succ (a+b) (n+1)]
  have h1:=yw (a+b) ih
  have h2:a^(n+1)*a+b^(n+1)*b<=(a^(n+1)+b^(n+1))*(a+b):=by
   rw [Nat.add_mul,uq,uq]; exact qa (qQ ..) (w7 ..)
  exact qt h2 h1
theorem yc9 (x n:Nat):x^n+1<=(x+1)^n\/n=0:=by
 rcases Nat.eq_zero_or_pos n with h|h
 ·exact .inr h
 ·have:=za2 x 1 n h; rw [Nat.one_pow] at this; exact .inl this
noncomputable def zn3 (p:D) (q:List D×List D):List (List D×List D):=[(q.1++[p],q.2),(q.1,q.2++[p])]
noncomputable def zx3 (found:List (List D×List D)):List D->List (List D×List D)
 | []=>found
 | p::r=>zx3 (found.flatMap (zn3 p)) r
theorem zj9 {q}:zx3 q []=q:=rfl
theorem zo1 {q p r}:zx3 q (p::r)=zx3 (q.flatMap (zn3 p)) r:=rfl
theorem xv3 (p:D) (found:List (List D×List D)):(found.flatMap (zn3 p)).length=2*found.length:=by
 induction found with
 | nil=>rfl
 | cons q r ih=>simp only [List.flatMap_cons,z9,ih,zn3,vZ,List.length_nil]; bv_omega
theorem zk0:∀ (ps:List D) (found:List (List D×List D)),(zx3 found ps).length=2^ps.length*found.length
 | [],found=>by simp [zj9]
 | p::r,found=>by
  rw [zo1,zk0 r,xv3,vZ,Nat.pow_succ]
  rw [Nat.mul_assoc]
theorem yz6:∀ (ps:List D) (p:D) (found:List (List D×List D)),zx3 found (ps++[p])=(zx3 found ps).flatMap (zn3 p)
 | [],p,found=>rfl
 | x::r,p,found=>by rw [jx,zo1,zo1,yz6 r]
theorem zh8:∀ (ps:List D) (found:List (List D×List D)) (t l:List D),(t,l)∈zx3 found ps->∃ q∈found,∃ t' l',t=q.1++t'/\l=q.2++l'/\t'.Sublist ps/\l'.Sublist ps/\(t'++l').Perm ps
 | [],found,t,l,h=>⟨(t,l),h,[],[],by simp,by simp,by simp,by simp,by simp⟩
 | p::r,found,t,l,h=>by
  refine elEAEEAAAA (zh8 r _ t l h) fun q hq t' l' e1 e2 h1 h2 h3=>?_
  refine elEA (List.mem_flatMap.mp hq) fun q0 hq0 hq=>?_
  simp only [zn3,z0,jz,or_false] at hq
  rcases hq with rfl|rfl
  ·exact ⟨q0,hq0,p::t',l',by simp [e1],e2,h1.cons_cons p,h2.cons p,by simpa using h3⟩
  ·refine ⟨q0,hq0,t',p::l',e1,by simp [e2],h1.cons p,h2.cons_cons p,?_⟩
   exact Qq.trans (h3.cons p)
theorem za1:∀ (ps:List D) (found:List (List D×List D)) (q:List D×List D),q∈found->∀ {a b:List D},(a++b).Perm ps->∃ t l,(q.1++t,q.2++l)∈zx3 found ps/\t.Perm a/\l.Perm b
 | [],found,q,hq,a,b,h=>by
  have:=h.length_eq
  simp at this
  exact ⟨[],[],by simpa [zj9,zo1] using hq,by simp [this.1],by simp [this.2]⟩
 | p::r,found,q,hq,a,b,h=>by
  have hp:p∈a++b:=h.mem_iff.mpr mh
  rcases qW.mp hp with hp|hp
  ·(refine elEE (List.append_of_mem hp) fun a1 a2 e_2=>?_; subst e_2)
   have h':((a1++a2)++b).Perm r:=by
    have:(p::((a1++a2)++b)).Perm (p::r):=by
     refine yx ?_ h
     simp only [xk,jx]
     exact Qq.symm
    exact wK.cons_inv this
   refine elEEAA (za1 r (found.flatMap (zn3 p)) (q.1++[p],q.2) (List.mem_flatMap.mpr ⟨q,hq,by simp [zn3]⟩) h') fun t l hm h1 h2=>?_
   exact ⟨p::t,l,by simpa [zj9,zo1] using hm,(h1.cons p).trans Qq.symm,h2⟩
  ·(refine elEE (List.append_of_mem hp) fun b1 b2 e_2=>?_; subst e_2)
   have h':(a++(b1++b2)).Perm r:=by
    have:(p::(a++(b1++b2))).Perm (p::r):=by
     refine yx ?_ h
     rw [<- xk,<- xk]
     exact Qq.symm
    exact wK.cons_inv this
   refine elEEAA (za1 r (found.flatMap (zn3 p)) (q.1,q.2++[p]) (List.mem_flatMap.mpr ⟨q,hq,by simp [zn3]⟩) h') fun t l hm h1 h2=>?_
   exact ⟨t,p::l,by simpa [zj9,zo1] using hm,h1,(h2.cons p).trans Qq.symm⟩
theorem yr6 (x:Nat):∀ (ps:List D),(∀ p∈ps,1<=lv p)->∀ (found:List (List D×List D)),zu6 (fun q=>x^lvL q.2) (zx3 found ps)<=zu6 (fun q=>x^lvL q.2) found*(x+1)^lvL ps
 | [],_,found=>by simp [zj9,zm6]
 | p::r,hp,found=>by
  have hx:x^lv p+1<=(x+1)^lv p:=(yc9 x (lv p)).resolve_right (by have:=hp p mh; bv_omega)
  have e:zu6 (fun q=>x^lvL q.2) (found.flatMap (zn3 p))<=zu6 (fun q=>x^lvL q.2) found*(x+1)^lv p:=by
   clear hp
   induction found with
   | nil=>simp [zm5]
   | cons q fs ih =>
    rw [List.flatMap_cons,sum_append]
    simp only [zn3,zm5,zt4,zw8,zm6,zs8,Nat.add_zero,Z4,Nat.add_mul]
    have:=w5 (x^lvL q.2) hx
    rw [uq,Qj] at this
    exact qa (qt (zX (wk ..)) this) ih
  have ih:=yr6 x r (fun y hy=>hp y (mt hy)) (found.flatMap (zn3 p))
  rw [zo1]
  refine qw ih ?_
  have:=yw ((x+1)^lvL r) e
  rw [zs8,Z4,<- Nat.mul_assoc]
  exact this
variable {Fs:Fns} {fuel:Nat}
theorem xl1 {k:Nat} {t:List D} (h:∀ x∈t,Can k x) (hk:k<=100):okd (.tuple t)=true:=by
 have h1:=zq5 fun x hx=>(h x hx).shp.lay
 have h2:=zu4 fun x hx=>(h x hx).shp.dep
 simp only [okd,vQ,yt9,h1,Q7]; exact decide_eq_true (by exact qt (zJ (qt h2 (xv hk 20))) (by decide))
theorem xl2 {k:Nat} {t:List D} (h:∀ x∈t,Can k x) (hk:k<=100):okd (.list t)=true:=by
 have h1:=zq5 fun x hx=>(h x hx).shp.lay
 have h2:=zu4 fun x hx=>(h x hx).shp.dep
 simp only [okd,vQ,wp0,h1,Q7]; exact decide_eq_true (by exact qt (zJ (qt h2 (xv hk 20))) (by decide))
theorem yx1 {t:List D} (h:∀ x∈t,Can 7 x):tkey (.tuple t)=true:=by
 have h1:=xl1 h (by bv_omega)
 have h2:=zv2 fun x hx=>(h x hx).plain
 have h3:=xk8 fun x hx=>(h x hx).lev
 simp only [tkey,zp4,h1,h2,xc7,Bool.and_self,Q7]; exact decide_eq_true (by exact zJ h3)
noncomputable abbrev prD (q:List D×List D):D:=.tuple [.list q.1,.list q.2]
noncomputable def enP (q:List D×List D):D×D:=(.tuple q.1,.list q.2)
noncomputable def pput:List (List D×List D)->List D×List D->List (List D×List D)
 | [],q=>[q]
 | p::r,q=>if vj p.1 q.1 then (p.1,q.2)::r else p::pput r q
theorem xw4 {q}:pput [] q=[q]:=rfl
theorem yi1 {p r q}:pput (p::r) q=if vj p.1 q.1 then (p.1,q.2)::r else p::pput r q:=rfl
theorem xt3 (q:List D×List D):∀ R:List (List D×List D),dput (R.map enP) (.tuple q.1) (.list q.2)=(pput R q).map enP
 | []=>rfl
 | p::r=>by
  simp only [xz,xt4,yi1]
  have e:qX (enP p).1 (.tuple q.1)=vj p.1 q.1:=rfl
  rw [e]
  split
  ·rfl
  ·rw [xz,xt3 q r]
theorem xw3 (q:List D×List D):∀ R,(pput R q).length<=R.length+1
 | []=>by simp [xw4]
 | p::r=>by have:=xw3 q r; simp only [yi1]; split<;>simp only [vZ]<;>bv_omega
theorem xw1 (g:List D->Nat) (q:List D×List D):∀ R,zu6 (fun q=>g q.2) (pput R q)<=zu6 (fun q=>g q.2) R+g q.2
 | []=>by simp [xw4,zm5,zt4]
 | p::r=>by have:=xw1 g q r; simp only [yi1]; split<;>simp only [zt4]<;>bv_omega
set_option tactic.hygienic true in
theorem xw2 {q:List D×List D} (hq:∀ x∈q.1,zz8 x=true):∀ {R:List (List D×List D)},(∀ p∈R,∀ x∈p.1,zz8 x=true)->(∀ p∈pput R q,p∈R\/p=q)/\(∃ p∈pput R q,p.1=q.1)/\∀ p∈R,∃ p'∈pput R q,p'.1=p.1
 | [],_=>⟨fun p hp=>by simp [xw4] at hp; exact .inr hp,⟨q,by simp [xw4],rfl⟩,fun p hp=>by simp at hp⟩
 | p::r,h=>by
  have ⟨i1,⟨p0,i2,i3⟩,i4⟩:=xw2 hq (R:=r) fun p hp=>h p (mt hp)
  simp only [yi1]
  split
  ·rename_i e
   have e:=(zq4 (zv2 (h p mh)) (zv2 hq)).mp e
   refine ⟨fun p' hp=>?_,⟨(p.1,q.2),by simp,e⟩,fun p' hp=>?_⟩
   ·rcases z0.mp hp with rfl|hp
    ·exact .inr (by rw [e])
    ·exact .inl (mt hp)
   ·rcases z0.mp hp with rfl|hp
    ·exact ⟨(p'.1,q.2),by simp,rfl⟩
    ·exact ⟨p',by simp [hp],rfl⟩
  ·refine ⟨fun p' hp=>?_,⟨p0,by simp [i2],i3⟩,fun p' hp=>?_⟩
   ·rcases z0.mp hp with rfl|hp
    ·exact .inl mh
    ·exact (i1 p' hp).imp (fun q=>by simp [q]) id
   ·rcases z0.mp hp with rfl|hp
    ·exact ⟨p',by simp,rfl⟩
    ·refine elEA (i4 p' hp) fun p1 h1 h2=>?_; exact ⟨p1,by simp [h1],h2⟩
set_option tactic.hygienic true in
theorem yi0 {q:List D×List D} (hq:∀ x∈q.1,zz8 x=true):∀ {R:List (List D×List D)},(∀ p∈R,∀ x∈p.1,zz8 x=true)->(pput R q).map (·.1)=R.map (·.1)\/((pput R q).map (·.1)=R.map (·.1)++[q.1]/\q.1∉R.map (·.1))
 | [],_=>.inr ⟨rfl,by simp⟩
 | p::r,h=>by
  simp only [yi1]
  split
  ·exact .inl rfl
  ·rename_i e
   rcases yi0 hq (R:=r) fun p hp=>h p (mt hp) with i|⟨i,j⟩
   ·exact .inl (by simp only [xz,i])
   ·refine .inr ⟨by simp only [xz,i,jx],fun m=>?_⟩
    rcases z0.mp m with m|m
    ·exact e ((zq4 (zv2 (h p mh)) (zv2 hq)).mpr m.symm)
    ·exact j m
structure Seen (qs R:List (List D×List D)):Prop where
 mem:∀ q∈R,q∈qs
 all:∀ q∈qs,∃ q'∈R,q'.1=q.1
 sum:∀ g:List D->Nat,zu6 (fun q=>g q.2) R<=zu6 (fun q=>g q.2) qs
 len:R.length<=qs.length
 nodup:(R.map (·.1)).Nodup
theorem Seen.put {qs R:List (List D×List D)} {q:List D×List D} (h:Seen qs R) (hp:∀ p∈qs++[q],∀ x∈p.1,zz8 x=true):Seen (qs++[q]) (pput R q):=by
 have ⟨i1,i2,i3⟩:=xw2 (R:=R) (hp q (mr mh)) fun p hq=>hp p (by simp [h.mem p hq])
 refine ⟨fun p hq=>?_,fun p hq=>?_,fun g=>?_,?_,?_⟩
 ·rcases i1 p hq with e|e
  ·simp [h.mem p e]
  ·simp [e]
 ·rcases qW.mp hq with e|e
  ·refine elEA (h.all p e) fun p1 e1 e2=>?_
   refine elEA (i3 p1 e1) fun p2 e3 e4=>?_
   exact ⟨p2,e3,e4.trans e2⟩
  ·simp at e; subst e; exact i2
 ·have a1:=h.sum g
  have a2:=xw1 g q R
  rw [sum_append]
  simp only [zm5,zt4]; exact qt a2 (xv a1 _)
 ·have:=xw3 q R
  have:=h.len
  rw [z9]; simp only [vZ,List.length_nil]; exact qt ‹(pput R q).length<=_› (zJ this)
 ·rcases yi0 (R:=R) (hp q (mr mh)) fun p hq=>hp p (by simp [h.mem p hq]) with e|⟨e,e2⟩
  ·rw [e]; exact h.nodup
  ·rw [e,Q2]
   refine ⟨h.nodup,by simp,fun a ha b hb=>?_⟩
   simp at hb; subst hb
   rintro rfl; exact e2 ha
noncomputable def wz1:I:=(.cons (.app 3 (.tup (.cons (.bin .Add (.var 4) (.lst (.cons (.var 2) .nil))) (.cons (.var 5) .nil)))) (.cons (.app 3 (.tup (.cons (.var 4) (.cons (.bin .Add (.var 5) (.lst (.cons (.var 2) .nil))) .nil)))) .nil))
noncomputable def yl4:I:=(.cons (.asg 3 (.lst .nil)) (.cons (.fors [4,5] (.var 1) wz1) (.cons (.asg 1 (.var 3)) .nil)))
noncomputable def xy3:I:=(.cons (.sto 6 (.prim1 .tuple (.var 4)) (.var 5)) .nil)
noncomputable def xy4:I:=(.comp1 (.tup (.cons (.prim1 .list (.var 7)) (.cons (.idx (.brw 6) (.var 7)) .nil))) (.var 6) .omit)
noncomputable def zr3:I:=(.cons (.asg 1 (.lst (.cons (.tup (.cons (.lst .nil) (.cons (.lst .nil) .nil))) .nil))) (.cons (.for1 2 (.var 0) yl4) (.cons (.asg 6 .dct0) (.cons (.fors [4,5] (.var 1) xy3) (.cons (.ret xy4) .nil)))))
noncomputable abbrev vl (d:D):Option AV:=some (.val d)
noncomputable abbrev ow (d:D):Option AV:=some (.own d)
theorem ww8 {q:List D×List D} {v0 v1 v2 v3 v4 v5 v6:Option AV}:yx0 [4,5] (prD q) [v0,v1,v2,v3,v4,v5,v6]=some [v0,v1,v2,v3,vl (.list q.1),vl (.list q.2),v6]:=by
 rfl
theorem xp8 {Γ:Mini.Env} {v0 v1 v6:Option AV} {p:D} {acc t l:List D} (h1:acc.length+2<size) (h2:t.length<size) (h3:l.length<size) :
  ex Γ wz1 [v0,v1,vl p,ow (.list acc),vl (.list t),vl (.list l),v6]=some (.next [v0,v1,vl p,ow (.list (acc++[prD (t++[p],l)]++[prD (t,l++[p])])),vl (.list t),vl (.list l),v6]):=by
 have e1:t.length+1<=size:=h2
 have e2:l.length+1<=size:=h3
 have e3:acc.length+1<size:=by exact jK h1
 have e4:acc.length+1+1<size:=by exact h1
 rw [wz1,zz0 (σ':=[v0,v1,vl p,ow (.list (acc++[prD (t++[p],l)])),vl (.list t),vl (.list l),v6]) (by simp [b_ad,zad1,↓mkT2,↓mkL1,mkL_,e1,e3]),
  zz0 (σ':=[v0,v1,vl p,ow (.list (acc++[prD (t++[p],l)]++[prD (t,l++[p])])),vl (.list t),vl (.list l),v6]) (by simp [b_ad,zad1,↓mkT2,↓mkL1,mkL_,e2,e4])]
 rfl
theorem yf7 {Γ:Mini.Env} {v0 v6:Option AV} {p:D} {found:List (List D×List D)} {x1 x3 x4 x5:Option AV} (hx1:x1=vl (.list (found.map prD))\/x1=ow (.list (found.map prD))) (h1:2*found.length<size) (h2:∀ q∈found,q.1.length<size/\q.2.length<size) :
  ∃ y4 y5,ex Γ yl4 [v0,x1,vl p,x3,x4,x5,v6]=some (.next [v0,vl (.list ((found.flatMap (zn3 p)).map prD)),vl p,vl (.list ((found.flatMap (zn3 p)).map prD)),y4,y5,v6]):=by
 have loop:∃ σ',forN (yx0 [4,5]) (ex Γ wz1) (found.map prD) [v0,vl (.list (found.map prD)),vl p,ow (.list []),x4,x5,v6]=some (.next σ') /\
   ∃ y4 y5,σ'=[v0,vl (.list (found.map prD)),vl p,ow (.list ((found.flatMap (zn3 p)).map prD)),y4,y5,v6]:=by
  refine zs6 prD (fun done σ=>∃ y4 y5,σ=[v0,vl (.list (found.map prD)),vl p,ow (.list ((done.flatMap (zn3 p)).map prD)),y4,y5,v6]) ⟨x4,x5,rfl⟩ ?_
  rintro done q rest σ e ⟨y4,y5,rfl⟩
  have hq:=h2 q (by exact mm e)
  have hl:((done.flatMap (zn3 p)).map prD).length+2<size:=by
   rw [xw,xv3]
   have:found.length=done.length+(rest.length+1):=by exact lm e
   exact ql (w5 2 (zJ (qQ ..))) (this▸h1)
  refine ⟨_,_,ww8,xp8 hl hq.1 hq.2,vl (.list q.1),vl (.list q.2),?_⟩
  simp [zn3]
 (refine elEAEE (loop) fun σ' e y4 y5 e_4=>?_; subst e_4)
 refine ⟨y4,y5,?_⟩
 rw [yl4,zz0 (σ':=[v0,x1,vl p,ow (.list []),x4,x5,v6]) (rfl),
  zz0 (σ':=[v0,vl (.list (found.map prD)),vl p,ow (.list ((found.flatMap (zn3 p)).map prD)),y4,y5,v6]) (by
   rw [zl4,show srcE (ev Γ (.var 1)) [v0,x1,vl p,ow (.list []),x4,x5,v6]=some (found.map prD,[v0,vl (.list (found.map prD)),vl p,ow (.list []),x4,x5,v6]) by rcases hx1 with rfl|rfl<;>rfl]
   exact e)]
 rfl
theorem yp1 {t:List D} (h:∀ x∈t,Can 7 x) {R:List (List D×List D)} (hR:∀ q∈R,∀ x∈q.1,Can 7 x):zs3 (.tuple t) (R.map enP)=true:=by
 simp only [zs3,kk_t,yx1 h,if_true,Option.isSome_some,Q7,xJ,zy]
 rintro _ ⟨q,hq,rfl⟩
 simp [enP,kk_t,yx1 (hR q hq)]
theorem xu7 {R:List (List D×List D)} (hR:∀ q∈R,∀ x∈q.1,Can 7 x) (hn:(R.map (·.1)).Nodup) {q:List D×List D} (hq:q∈R):zq8 (R.map enP) (.tuple q.1)=some (.list q.2):=by
 induction R with
 | nil=>cases hq
 | cons p r ih =>
  have e:qX (enP p).1 (.tuple q.1)=vj p.1 q.1:=rfl
  have ew:=zq4 (zv2 fun x hx=>(hR p mh x hx).plain) (zv2 fun x hx=>(hR q hq x hx).plain)
  simp only [xz,vx] at hn
  simp only [zq8,xz,k7,e]
  rcases z0.mp hq with rfl|hq'
  ·rw [ew.mpr rfl]; rfl
  ·cases hp:vj p.1 q.1 with
   | true=>exact absurd (zy.mpr ⟨q,hq',(ew.mp hp).symm⟩) hn.1
   | false=>exact ih (fun q hq=>hR q (mt hq)) hn.2 hq'
noncomputable def chF (R:List (List D×List D)):D->D
 | .tuple t=>.tuple [.list t,(zq8 (R.map enP) (.tuple t)).getD .none]
 | d=>d
theorem chF_t {R t}:chF R (.tuple t)=.tuple [.list t,(zq8 (R.map enP) (.tuple t)).getD .none]:=rfl
theorem zz4 {g:Str} {fn:Fn} {args:List D} {n:Nat} {d:D} {f:Bool} (h:Has Fs g fn) (hl:args.length=fn.params) (e:ex (Ga Fs fuel n) fn.body (args.map (fun d=>some (.val d))++jv (fn.slots - fn.params) none)=some (.ret d f)) :
  run Fs glo fuel (n+1) g args=some (d,f):=by rw [zr7 h hl,e]
theorem yc2 (h:Has Fs "choices" ⟨1,7,zr3⟩) (n:Nat) {ps:List D} (hps:∀ x∈ps,Can 7 x) (hl:ps.length<=20) :
  ∃ R:List (List D×List D),run Fs glo fuel (n+1) "choices" [.list ps]=some (.list (R.map prD),true)/\Seen (zx3 [([],[])] ps) R:=by
 have hz:∀ m,m<=2^20->2*m<size:=fun m hm=>by unfold size; exact qx (w5 2 hm)
 have hlen:∀ done rest p,ps=done++p::rest->(zx3 [([],[])] done).length<=2^20:=fun done rest p e=>by
  rw [zk0]
  have:done.length<=20:=by rw [e] at hl; simp at hl; exact qf hl
  simpa using jy (by bv_omega) this
 have hin:∀ (qs:List D),qs.length<=20->∀ q∈zx3 [([],[])] qs,q.1.Sublist qs/\q.2.Sublist qs:=fun qs hq q hm=>by
  refine elEAEEAAAA (zh8 qs _ q.1 q.2 hm) fun q0 h0 t' l' e1 e2 h1 h2 _=>?_
  simp at h0; subst h0
  simp at e1 e2
  exact ⟨e1▸h1,e2▸h2⟩
 have loop:∃ σ',forN (zn4 2) (ex (Ga Fs fuel n) yl4) (ps.map id) [vl (.list ps),ow (.list ([([],[])].map prD)),none,none,none,none,none]=some (.next σ') /\
   ∃ y1 y2 y3 y4 y5,(y1=vl (.list ((zx3 [([],[])] ps).map prD))\/y1=ow (.list ((zx3 [([],[])] ps).map prD)))/\σ'=[vl (.list ps),y1,y2,y3,y4,y5,none]:=by
  refine zs6 id (fun done σ=>∃ y1 y2 y3 y4 y5,(y1=vl (.list ((zx3 [([],[])] done).map prD))\/y1=ow (.list ((zx3 [([],[])] done).map prD)))/\σ=[vl (.list ps),y1,y2,y3,y4,y5,none]) ⟨_,_,_,_,_,.inr rfl,rfl⟩ ?_
  rintro done p rest σ e ⟨y1,y2,y3,y4,y5,hy1,rfl⟩
  have hd:done.length<=20:=by rw [e] at hl; simp at hl; exact qf hl
  refine elEE (yf7 (Γ:=Ga Fs fuel n) (v0:=vl (.list ps)) (v6:=none) (p:=p) (found:=zx3 [([],[])] done) (x3:=y3) (x4:=y4) (x5:=y5) hy1 (hz _ (hlen done rest p e)) fun q hq=>by
   have ⟨a,b⟩:=hin done hd q hq
   have:=a.length_le
   have:=b.length_le
   unfold size; exact ⟨qx (qt a.length_le hd),qx (qt b.length_le hd)⟩) fun z4 z5 e2=>?_
  refine ⟨_,_,rfl,e2,vl (.list (((zx3 [([],[])] done).flatMap (zn3 p)).map prD)),vl p,vl (.list (((zx3 [([],[])] done).flatMap (zn3 p)).map prD)),z4,z5,.inl ?_,rfl⟩
  rw [yz6]
 rw [List.map_id] at loop
 (refine elEAEEEEEA (loop) fun σ1 e1 y1 y2 y3 y4 y5 hy1 e_8=>?_; subst e_8)
 generalize hF:zx3 [([],[])] ps=found at *
 have hfl:found.length<=2^20:=by
  rw [<- hF,zk0]; simpa using jy (by bv_omega) hl
 have hfc:∀ q∈found,∀ x∈q.1,Can 7 x:=fun q hq x hx=>by
  rw [<- hF] at hq
  exact hps x ((hin ps hl q hq).1.subset hx)
 have hfq:∀ q∈found,q.1.length<=20:=fun q hq=>by
  rw [<- hF] at hq
  exact qw (hin ps hl q hq).1.length_le hl
 have loop2:∃ σ',forN (yx0 [4,5]) (ex (Ga Fs fuel n) xy3) (found.map prD) [vl (.list ps),vl (.list (found.map prD)),y2,y3,y4,y5,ow (.dict [])]=some (.next σ') /\
   ∃ R z4 z5,Seen found R/\σ'=[vl (.list ps),vl (.list (found.map prD)),y2,y3,z4,z5,ow (.dict (R.map enP))]:=by
  refine zs6 prD (fun done σ=>∃ R z4 z5,Seen done R/\σ=[vl (.list ps),vl (.list (found.map prD)),y2,y3,z4,z5,ow (.dict (R.map enP))]) ⟨[],_,_,⟨by simp,by simp,fun g=>zW _,zW _,by simp⟩,rfl⟩ ?_
  rintro done q rest σ e ⟨R,z4,z5,hs,rfl⟩
  have hdn:∀ p∈done++[q],p∈found:=fun p hp=>by
   rw [e]
   rcases qW.mp hp with hp|hp
   ·simp [hp]
   ·simp at hp; simp [hp]
  have hk:=yp1 (hfc q (hdn q (mr mh))) (R:=R) fun p hp=>hfc p (hdn p (by simp [hs.mem p hp]))
  have hle:R.length<size:=by
   have a1:=hs.len
   have a2:found.length=done.length+(rest.length+1):=by exact lm e
   unfold size; exact qx (qt a1 (qf (a2▸hfl)))
  refine ⟨_,_,ww8,?_,pput R q,vl (.list q.1),vl (.list q.2),hs.put fun p hp x hx=>(hfc p (hdn p hp) x hx).plain,rfl⟩
  rw [xy3,zz0 (σ':=[vl (.list ps),vl (.list (found.map prD)),y2,y3,vl (.list q.1),vl (.list q.2),ow (.dict (dput (R.map enP) (.tuple q.1) (.list q.2)))]) (by
   simp [xd3,zse1,hk,hle])]
  rw [xt3]; rfl
 (refine elEAEEEA (loop2) fun σ2 e2 R z4 z5 hs e_6=>?_; subst e_6)
 have hRc:∀ q∈R,∀ x∈q.1,Can 7 x:=fun q hq=>hfc q (hs.mem q hq)
 have hsrc:srcE (ev (Ga Fs fuel n) (.var 6)) [vl (.list ps),vl (.list (found.map prD)),y2,y3,z4,z5,ow (.dict (R.map enP))]=some (R.map fun q=>.tuple q.1,[vl (.list ps),vl (.list (found.map prD)),y2,y3,z4,z5,vl (.dict (R.map enP))]):=by
  simp [zit3,enP,Function.comp_def]
 have hc:=zn0 (n:=7) (bc:=bc1) (cond:=zs7 .omit (ev (Ga Fs fuel n) .omit)) (elt:=ev (Ga Fs fuel n) (.tup (.cons (.prim1 .list (.var 7)) (.cons (.idx (.brw 6) (.var 7)) .nil)))) (σ:=[vl (.list ps),vl (.list (found.map prD)),y2,y3,z4,z5,vl (.dict (R.map enP))])
  (c:=fun _=>true) (F:=chF R) rfl (ds:=R.map fun q=>.tuple q.1) fun d hd=>by
   (refine elEA (zy.mp hd) fun q hq e_2=>?_; subst e_2)
   have hk:=yp1 (hRc q hq) hRc
   have hk':zj8 (.tuple q.1) (R.map enP)=true:=by simp [zj8,hk]
   refine ⟨[.tuple q.1],rfl,rfl,fun _=>⟨false,?_⟩⟩
   simp [↓mkT2,xd4,zse2,zix3,orS,chF_t,hk',xu7 hRc hs.nodup hq]
 refine ⟨R,?_,hs⟩
 have hres:(R.map fun q=>wV q.1).map (chF R)=R.map prD:=by
  rw [yV]
  refine yQ fun q hq=>?_
  simp [chF_t,xu7 hRc hs.nodup hq]
 rw [List.filter_eq_self.mpr (by simp),hres] at hc
 have hRl:R.length<=size:=by have:=hs.len; unfold size; exact qy (qt this hfl)
 have hlast:ev (Ga Fs fuel n) xy4 [vl (.list ps),vl (.list (found.map prD)),y2,y3,z4,z5,ow (.dict (R.map enP))]=some (.list (R.map prD),true,[vl (.list ps),vl (.list (found.map prD)),y2,y3,z4,z5,vl (.dict (R.map enP))]):=by
  rw [xy4,zr5,hsrc]
  show ((zf3 7 _ _ _ _).bind _)=_
  rw [zj6,hc]
  simp [mkL,hRl]
 have hbody:ex (Ga Fs fuel n) zr3 [vl (.list ps),none,none,none,none,none,none]=some (.ret (.list (R.map prD)) true):=by
  rw [zr3,zz0 (σ':=[vl (.list ps),ow (.list ([([],[])].map prD)),none,none,none,none,none]) (rfl),
  zz0 (σ':=[vl (.list ps),y1,y2,y3,y4,y5,none]) (by rw [zy4]; exact e1),
  zz0 (σ':=[vl (.list ps),y1,y2,y3,y4,y5,ow (.dict [])]) (by simp),
  zz0 (σ':=[vl (.list ps),vl (.list (found.map prD)),y2,y3,z4,z5,ow (.dict (R.map enP))]) (by
   rw [zl4,show srcE (ev (Ga Fs fuel n) (.var 1)) [vl (.list ps),y1,y2,y3,y4,y5,ow (.dict [])]=some (found.map prD,[vl (.list ps),vl (.list (found.map prD)),y2,y3,y4,y5,ow (.dict [])]) by rcases hy1 with rfl|rfl<;>rfl]
   exact e2),
  zz5 (d:=.list (R.map prD)) (f:=true) (by rw [zb6,hlast]; rfl)]
 exact zz4 h rfl hbody
end Pl
end
section
namespace Pl
open Mini PySem
variable {Fs:Fns} {fuel:Nat}
noncomputable def ze1:I:=(.cons (.iff (.cmp .NotIn (.var 3) (.brw 2)) (.cons (.ret .cnone) .nil) .nil) (.cons (.rem 2 (.var 3)) .nil))
noncomputable def zu8:I:=(.cons (.asg 2 (.prim1 .list (.var 0))) (.cons (.for1 3 (.var 1) ze1) (.cons (.ret (.var 2)) .nil)))
theorem yw0 (x:D) (l:List D):inD x (.list l)=if okd x&&l.all okd then some (l.any fun y=>qX y x) else none:=rfl
theorem yl6 {g:D} (hg:zz8 g=true) {l:List D} (hl:∀ x∈l,zz8 x=true):(l.any fun y=>qX y g)=true↔g∈l:=by
 rw [List.any_eq_true]
 constructor
 ·rintro ⟨x,hx,e⟩; rw [<- (zx0 (hl x hx) hg).mp e]; exact hx
 ·exact fun h=>⟨g,h,zg9 hg⟩
theorem xe4 {g:D} (hg:zz8 g=true) {l:List D} (hl:∀ x∈l,zz8 x=true) (hm:g∈l):(g::l.eraseIdx (l.findIdx fun y=>qX y g)).Perm l:=by
 have hlt:(l.findIdx fun y=>qX y g)<l.length:=List.findIdx_lt_length.mpr ⟨g,hm,zg9 hg⟩
 have e:=List.findIdx_getElem (w:=hlt)
 have e:=(zx0 (hl _ (jZ hlt)) hg).mp e
 have h1:l=l.take (l.findIdx fun y=>qX y g)++l[l.findIdx fun y=>qX y g]::l.drop ((l.findIdx fun y=>qX y g)+1):=by
  rw [<- uW hlt,List.take_append_drop]
 rw [List.eraseIdx_eq_take_drop_succ]
 refine yx Qq.symm ?_
 rw [e] at h1
 exact wK.of_eq h1.symm
theorem xo3 {Γ:Mini.Env} {k:Nat} (hk:k<=100) {v0 v1:Option AV}:∀ (gs left:List D) (v3:Option AV),(∀ x∈gs,Can k x)->(∀ x∈left,Can k x) ->
  (forN (zn4 3) (ex Γ ze1) gs [v0,v1,ow (.list left),v3]=some (.ret .none false)/\¬ ∃ l,(gs++l).Perm left) \/
  ∃ left' v3',forN (zn4 3) (ex Γ ze1) gs [v0,v1,ow (.list left),v3]=some (.next [v0,v1,ow (.list left'),v3'])/\(gs++left').Perm left/\left'.Sublist left
 | [],left,v3,_,_=>.inr ⟨left,v3,rfl,wK.refl _,List.Sublist.refl _⟩
 | g::gs,left,v3,hg,hl=>by
  have og:=(hg g mh).okd hk
  have ol:left.all okd=true:=xJ.mpr fun x hx=>(hl x hx).okd hk
  have ol':∀ x∈left,okd x=true:=fun x hx=>(hl x hx).okd hk
  have pg:=(hg g mh).plain
  have pl:∀ x∈left,zz8 x=true:=fun x hx=>(hl x hx).plain
  by_cases hm:g∈left
  ·have ha:=(yl6 pg pl).mpr hm
   have hp:=xe4 pg pl hm
   have hs:=List.eraseIdx_sublist left (left.findIdx fun y=>qX y g)
   generalize he:left.eraseIdx (left.findIdx fun y=>qX y g)=l1 at hp hs
   have hin:inD g (.list left)=some true:=by rw [yw0,og,ol,ha]; rfl
   have hrm:remL left g=some l1:=by rw [remL,og,ol,ha,he]; rfl
   have hb:ex Γ ze1 [v0,v1,ow (.list left),vl g]=some (.next [v0,v1,ow (.list l1),vl g]):=by
    rw [ze1,zz0 (σ':=[v0,v1,ow (.list left),vl g]) (by simp [c_ni,hin]),
     zz0 (σ':=[v0,v1,ow (.list l1),vl g]) (by simp [xh0,hrm])]
    rfl
   rcases xo3 hk gs l1 (vl g) (fun x hx=>hg x (mt hx)) (fun x hx=>hl x (hs.subset hx)) with ⟨e,hn⟩|⟨l2,v3',e,h1,h2⟩
   ·refine .inl ⟨(zv1 rfl hb).trans e,fun h=>h.elim fun l h=>hn ⟨l,?_⟩⟩
    exact wK.cons_inv (h.trans hp.symm)
   ·exact .inr ⟨l2,v3',(zv1 rfl hb).trans e,(h1.cons g).trans hp,h2.trans hs⟩
  ·have ha:(left.any fun y=>qX y g)=false:=by
    rw [<- Z6]; exact fun e=>hm ((yl6 pg pl).mp e)
   refine .inl ⟨?_,fun h=>h.elim fun l h=>hm (h.mem_iff.mp mh)⟩
   have hb:ex Γ ze1 [v0,v1,ow (.list left),vl g]=some (.ret .none false):=by
    have hin:inD g (.list left)=some false:=by rw [yw0,og,ol,ha]; rfl
    rw [ze1,zz5]
    simp [zz1,c_ni,hin]
   show (some [v0,v1,ow (.list left),vl g]).bind _=_
   simp only [vJ,hb,zl9]
theorem yd8 (h:Has Fs "without" ⟨2,4,zu8⟩) (n:Nat) {k:Nat} (hk:k<=100) {ps gs:List D} (hp:∀ x∈ps,Can k x) (hg:∀ x∈gs,Can k x) :
  (run Fs glo fuel (n+1) "without" [.list ps,.list gs]=some (.none,false)/\¬ ∃ l,(gs++l).Perm ps) \/
  ∃ l,run Fs glo fuel (n+1) "without" [.list ps,.list gs]=some (.list l,false)/\(gs++l).Perm ps/\l.Sublist ps:=by
 have e0:ex (Ga Fs fuel n) (.asg 2 (.prim1 .list (.var 0))) [vl (.list ps),vl (.list gs),none,none]=some (.next [vl (.list ps),vl (.list gs),ow (.list ps),none]):=rfl
 rcases xo3 (Γ:=Ga Fs fuel n) hk (v0:=vl (.list ps)) (v1:=vl (.list gs)) gs ps none hg hp with ⟨e,hn⟩|⟨l,v3,e,h1,h2⟩
 ·refine .inl ⟨zz4 h rfl ?_,hn⟩
  show ex (Ga Fs fuel n) zu8 [vl (.list ps),vl (.list gs),none,none]=_
  rw [zu8,zz0 e0,zz5]
  rw [zy4]; exact e
 ·refine .inr ⟨l,zz4 h rfl ?_,h1,h2⟩
  show ex (Ga Fs fuel n) zu8 [vl (.list ps),vl (.list gs),none,none]=_
  rw [zu8,zz0 e0,zz0 (by rw [zy4]; exact e)]
  rfl
theorem yc0 (h:Has Fs "parts_in" ⟨2,2,zx2⟩) (h2:Has Fs "joined" ⟨2,4,zu0⟩) (n:Nat) (s:Sn) {k:Nat} (hk:k<=100) {xs:List D} (hc:∀ x∈xs,Can k x) (hp:∀ x∈xs,parts s x=[x]) (hw:xs.Pairwise leD) (hl:xs.length<=20) :
  run Fs glo fuel (n+2) "joined" [.str s.str,.list xs]=some (.tuple (.str s.str::xs),false):=by
 have loop:∃ σ',forN (zn4 3) (ex (Ga Fs fuel (n+1)) (.cons (.ext 2 (.call "parts_in" (.cons (.var 0) (.cons (.var 3) .nil)))) .nil)) (xs.map id) [vl (.str s.str),vl (.list xs),ow (.list []),none]=some (.next σ') /\
   ∃ y3,σ'=[vl (.str s.str),vl (.list xs),ow (.list xs),y3]:=by
  refine zs6 id (fun done σ=>∃ y3,σ=[vl (.str s.str),vl (.list xs),ow (.list done),y3]) ⟨_,rfl⟩ ?_
  rintro done x rest σ e ⟨y3,rfl⟩
  have hx:x∈xs:=by exact mm e
  have hr:=zn6 (fuel:=fuel) h n s (hc x hx).shp
  rw [hp x hx] at hr
  have hz:done.length+1<size:=by rw [e] at hl; simp at hl; unfold size; exact ql (zJ (qQ ..)) (qx hl)
  refine ⟨_,_,rfl,?_,vl x,rfl⟩
  rw [zz0 (σ':=[vl (.str s.str),vl (.list xs),ow (.list (done++[x])),vl x]) (by simp [zex1,hr,hz])]
  rfl
 rw [List.map_id] at loop
 (refine elEAE (loop) fun σ' e y3 e_3=>?_; subst e_3)
 have hsl:zx4 xs=xs:=(zo2 (zd8 hc) (wK.refl _) hw).symm
 have hso:zi0 xs=some (.list xs,true):=by
  have:=yk9 (l:=xs) (fun x hx=>(hc x hx).shp) (by exact qy (xv hk 20)) (by exact qx hl)
  rw [this,hsl]
 have hz1:xs.length+1<=size:=by unfold size; exact qt (zJ hl) (by decide)
 have hz2:1+xs.length<=size:=by unfold size; exact qt (qZ hl 1) (by decide)
 refine zz4 h2 rfl ?_
 show ex (Ga Fs fuel (n+1)) zu0 [vl (.str s.str),vl (.list xs),none,none]=_
 rw [zu0,zz0 (σ':=[vl (.str s.str),vl (.list xs),ow (.list []),none]) (rfl),zz0 (by rw [zy4]; exact e),zz5 (d:=.tuple (.str s.str::xs)) (f:=false) (by simp [b_ad,zad1,↓mkL1,mkL_,xd3,xm7,zso1,zse1,xm2,hso,hz1])]
noncomputable abbrev Kn:=List (Int×D)
noncomputable def enK (p:Int×D):D×D:=(.int p.1,p.2)
noncomputable abbrev dK (κ:Kn):D:=.dict (κ.map enK)
noncomputable def lk (κ:Kn) (i:Int):Option D:=(κ.find? fun p=>p.1==i).map (·.2)
theorem zm4 (κ:Kn) (i:Int):zq8 (κ.map enK) (.int i)=lk κ i:=by
 induction κ with
 | nil=>rfl
 | cons p r ih =>
  have e:qX (enK p).1 (.int i)=(p.1==i):=rfl
  simp only [zq8,lk,xz,k7,e] at ih |-
  cases hp:p.1==i with
  | true=>rfl
  | false=>exact ih
theorem yl2 (κ:Kn) {i:Int} (v:D) (h:lk κ i=none):dput (κ.map enK) (.int i) v=(κ++[(i,v)]).map enK:=by
 induction κ with
 | nil=>rfl
 | cons p r ih =>
  have e:qX (enK p).1 (.int i)=(p.1==i):=rfl
  simp only [lk,k7] at h ih
  cases hp:p.1==i with
  | true=>rw [hp] at h; simp at h
  | false =>
   rw [hp] at h
   simp only [xz,xt4,e,hp,j6,if_false,jx]
   rw [ih h]
theorem zb2 (κ:Kn) (i:Int):zs3 (.int i) (κ.map enK)=true:=by
 simp only [zs3,kk_i,Option.isSome_some,Q7,xJ,zy]
 rintro _ ⟨p,_,rfl⟩
 rfl
theorem zt8 (κ:Kn) (i:Int):zj8 (.int i) (κ.map enK)=true:=by simp [zj8,zb2]
theorem yt0 (κ:Kn):zj3 (κ.map enK)=true:=by
 simp only [zj3,xJ,zy]
 rintro _ ⟨p,_,rfl⟩
 rfl
theorem xv7 {κ:Kn} {i:Int} {v:D} (h:lk κ i=some v):(i,v)∈κ:=by
 induction κ with
 | nil=>cases h
 | cons p r ih =>
  simp only [lk,k7] at h ih
  cases hp:p.1==i with
  | true=>rw [hp] at h; simp at h hp; subst h hp; simp
  | false=>rw [hp] at h; exact xX _ (ih h)
theorem ws7 {κ:Kn} {i:Int} (h:lk κ i=none):∀ p∈κ,p.1≠i:=by
 intro p hp e
 simp only [lk,Option.map_eq_none_iff,List.find?_eq_none] at h
 exact h p hp (by simp [e])
theorem yh4 {κ:Kn} (hn:(κ.map (·.1)).Nodup) {i:Int} {v:D} (h:(i,v)∈κ):lk κ i=some v:=by
 induction κ with
 | nil=>cases h
 | cons p r ih =>
  simp only [xz,vx] at hn
  simp only [lk,k7] at ih |-
  rcases z0.mp h with rfl|h
  ·simp
  ·cases hp:p.1==i with
   | true=>simp at hp; subst hp; exact absurd (zy.mpr ⟨_,h,rfl⟩) hn.1
   | false=>exact ih hn.2 h
noncomputable def Ag (f:Int->D) (κ:Kn):Prop:=∀ p∈κ,f p.1=p.2
theorem Ag.sub {f:Int->D} {κ κ':Kn} (h:Ag f κ') (hs:∀ x∈κ,x∈κ'):Ag f κ:=fun p hp=>h p (hs p hp)
theorem Ag.snoc {f:Int->D} {κ:Kn} {i:Int} {v:D} (h:Ag f κ) (e:f i=v):Ag f (κ++[(i,v)]):=fun p hp=>by
 rcases qW.mp hp with hp|hp
 ·exact h p hp
 ·simp at hp; subst hp; exact e
structure Ext (S P:D) (κ κ':Kn):Prop where
 sub:∀ x∈κ,x∈κ'
 nod:(κ'.map (·.1)).Nodup
 val:∀ x∈κ',x∈κ\/Tri S x.2
 dom:∀ i,Opn i P->∃ v,(i,v)∈κ'
 len:κ'.length<=κ.length+lv P
theorem yn7 {i j:Int} (h:Opn j (.tuple [.str "open", .int i])):j=i:=by
 generalize hd:(wV [.str "open", .int i])=d at h
 cases h with
 | self=>simp at hd; exact hd.symm
 | @part x s l hx hy=>simp at hd; exact absurd hd.1 (zx8 true s)
theorem Ext.old {S:D} {κ:Kn} (hn:(κ.map (·.1)).Nodup) {i:Int} {v:D} (h:lk κ i=some v):Ext S (.tuple [.str "open", .int i]) κ κ :=
 ⟨fun x h=>h,hn,fun x h=>.inl h,fun j hj=>by rw [yn7 hj]; exact ⟨v,xv7 h⟩,by simp⟩
theorem xd8 {κ:Kn} (hn:(κ.map (·.1)).Nodup) {i:Int} {v:D} (h:lk κ i=none):((κ++[(i,v)]).map (·.1)).Nodup:=by
 rw [List.map_append,Q2]
 refine ⟨hn,by simp,fun a ha b hb=>?_⟩
 simp at hb; subst hb
 (refine elEA (zy.mp ha) fun p hp e_2=>?_; subst e_2)
 exact ws7 h p hp
theorem Ext.new {S:D} {κ:Kn} (hn:(κ.map (·.1)).Nodup) {i:Int} {v:D} (h:lk κ i=none) (hv:Tri S v):Ext S (.tuple [.str "open", .int i]) κ (κ++[(i,v)]):=by
 refine ⟨fun x h=>jj _ h,xd8 hn h,fun x hx=>?_,fun j hj=>by rw [yn7 hj]; exact ⟨v,by simp⟩,by simp [lv_i,lv_s,lv_t,zm6,zs8]⟩
 rcases qW.mp hx with hx|hx
 ·exact .inl hx
 ·simp at hx; subst hx; exact .inr hv
end Pl
end
section
namespace Pl
open Mini PySem
variable {Fs:Fns} {fuel:Nat}
noncomputable abbrev prK (q:List D×Kn):D:=.tuple [.list q.1,dK q.2]
structure Stp (s:Sn) (T:List D) (p:D) (ps:List D) (w:Nat) (κ:Kn) (R:List (List D×Kn)):Prop where
 ext:∀ q∈R,Ext (.tuple (.str s.str::T)) p κ q.2
 sub:∀ q∈R,q.1.Sublist ps
 sound:∀ q∈R,∀ f,Ag f q.2->(parts s (fill f p)++q.1).Perm ps
 compl:∀ f,Ag f κ->(∀ i,Opn i p->∃ k,Can k (f i))->∀ l,(parts s (fill f p)++l).Perm ps->w<=l.length->∃ q∈R,Ag f q.2/\q.1.Perm l
 size:∀ x,zu6 (fun q=>x^lvL q.1) R<=(x+lv p)^lvL ps
noncomputable def zc7:I:=(.cons (.asg 5 (.call "without" (.cons (.var 2) (.cons (.call "parts_in" (.cons (.var 0) (.cons (.idx (.var 4) (.var 1)) .nil))) .nil)))) (.cons (.ret (.ite (.cmp .Is (.var 5) .cnone) (.lst .nil) (.lst (.cons (.tup (.cons (.var 5) (.cons (.var 4) .nil))) .nil)))) .nil))
noncomputable def xl0:I:=(.cons (.asg 8 (.prim1 .dict (.var 4))) (.cons (.sto 8 (.var 1) (.ite (.cmp .Eq (.prim1 .len (.var 7)) (.cint 1)) (.idx (.var 7) (.cint 0)) (.call "joined" (.cons (.var 0) (.cons (.var 7) .nil))))) (.cons (.app 6 (.tup (.cons (.var 5) (.cons (.var 8) .nil)))) .nil)))
noncomputable def yu0:I:=(.cons (.iff (.and (.cons (.cmp .NotEq (.var 7) (.lst .nil)) (.cons (.cmp .GtE (.prim1 .len (.var 5)) (.var 3)) .nil))) xl0 .nil) .nil)
noncomputable def zw0:I:=(.cons (.iff (.cmp .In (.var 1) (.var 4)) zc7 .nil) (.cons (.asg 6 (.lst .nil)) (.cons (.fors [7,5] (.call "choices" (.cons (.var 2) .nil)) yu0) (.cons (.ret (.var 6)) .nil))))
noncomputable def omP (w:Nat) (q:List D×List D):Bool:=!q.1.isEmpty&&decide (w<=q.2.length)
noncomputable def omQ (s:Sn) (i:Int) (κ:Kn) (q:List D×List D):List D×Kn:=(q.2,κ++[(i,zw1 s q.1)])
theorem xu2 (κ:Kn) (i:Int):inD (.int i) (dK κ)=some (lk κ i).isSome:=by
 simp [zin3,zt8,tkey,zm4]
theorem zn8:okd (.list [])=true:=by decide +kernel
theorem zj5 (l:List D):qX (.list l) (.list [])=l.isEmpty:=by cases l<;>rfl
section
variable {s:Sn} {i:Int} {ps:List D} {w:Nat} {κ:Kn} {n:Nat}
noncomputable abbrev omS (s:Sn) (i:Int) (ps:List D) (w:Nat) (κ:Kn) (a b c d:Option AV):Mini.Sg:=[vl (.str s.str),vl (.int i),vl (.list ps),vl (.int w),vl (dK κ),a,b,c,d]
theorem yi4 (h:Has Fs "parts_in" ⟨2,2,zx2⟩) (h2:Has Fs "joined" ⟨2,4,zu0⟩) {q:List D×List D} {acc:List (List D×Kn)} {x:Option AV} (hn:lk κ i=none) (hκ:κ.length<size) (hc:∀ x∈q.1,Can 7 x) (hp:∀ x∈q.1,parts s x=[x]) (hw:q.1.Pairwise leD) (hl:q.1.length<=20) (ha:acc.length+1<size) :
  ∃ y,ex (Ga Fs fuel (n+2)) yu0 (omS s i ps w κ (vl (.list q.2)) (ow (.list (acc.map prK))) (vl (.list q.1)) x)=some (.next (omS s i ps w κ (vl (.list q.2)) (ow (.list ((acc++(if omP w q then [omQ s i κ q] else [])).map prK))) (vl (.list q.1)) y)):=by
 have o1:okd (.list q.1)=true:=xl2 hc (by bv_omega)
 have hcond:uno (.and (.cons (.cmp .NotEq (.var 7) (.lst .nil)) (.cons (.cmp .GtE (.prim1 .len (.var 5)) (.var 3)) .nil))) (ev (Ga Fs fuel (n+2)) (.and (.cons (.cmp .NotEq (.var 7) (.lst .nil)) (.cons (.cmp .GtE (.prim1 .len (.var 5)) (.var 3)) .nil)))) (omS s i ps w κ (vl (.list q.2)) (ow (.list (acc.map prK))) (vl (.list q.1)) x) =
   some (.bool (omP w q),omS s i ps w κ (vl (.list q.2)) (ow (.list (acc.map prK))) (vl (.list q.1)) x):=by
  cases he:q.1.isEmpty<;>simp [c_ge,c_ne,eqD,↓mkL0,zp5,zle1,omP,o1,zn8,zj5,he]
 cases hP:omP w q with
 | false =>
  refine ⟨x,?_⟩
  rw [yu0,zz0 (σ':=omS s i ps w κ (vl (.list q.2)) (ow (.list (acc.map prK))) (vl (.list q.1)) x) (by rw [zz2,hcond,hP]; rfl)]
  simp
 | true =>
  have hv:ev (Ga Fs fuel (n+2)) (.ite (.cmp .Eq (.prim1 .len (.var 7)) (.cint 1)) (.idx (.var 7) (.cint 0)) (.call "joined" (.cons (.var 0) (.cons (.var 7) .nil)))) (omS s i ps w κ (vl (.list q.2)) (ow (.list (acc.map prK))) (vl (.list q.1)) (ow (dK κ))) =
    some (zw1 s q.1,false,omS s i ps w κ (vl (.list q.2)) (ow (.list (acc.map prK))) (vl (.list q.1)) (ow (dK κ))):=by
   have hj:=yc0 (fuel:=fuel) h h2 n s (by bv_omega) hc hp hw hl
   match hq:q.1,hj with
   | [],hj=>simp [omP,hq] at hP
   | [y],_=>simp [c_eq,eqD,zp5,zle1,↓xj4,zx9,zs0,zw1]
   | y::z::r,hj =>
    have e:((r.length:Int)+1+1==1)=false:=by simp; bv_omega
    simp [c_eq,eqD,zp5,zle1,zx9,zs0,zw1,hj,e]
  have hk:=zb2 κ i
  have hz:κ.length<size:=hκ
  refine ⟨vl (dK (κ++[(i,zw1 s q.1)])),?_⟩
  rw [yu0,zz0 (σ':=omS s i ps w κ (vl (.list q.2)) (ow (.list ((acc++[omQ s i κ q]).map prK))) (vl (.list q.1)) (vl (dK (κ++[(i,zw1 s q.1)])))),if_pos rfl]
  ·rfl
  rw [zz2,hcond,hP]
  show ex _ xl0 _=_
  rw [xl0,zz0 (σ':=omS s i ps w κ (vl (.list q.2)) (ow (.list (acc.map prK))) (vl (.list q.1)) (ow (dK κ))) (by simp [wl0,wm4,zco,yt0]),
   zz0 (σ':=omS s i ps w κ (vl (.list q.2)) (ow (.list (acc.map prK))) (vl (.list q.1)) (ow (dK (κ++[(i,zw1 s q.1)])))) (by
    rw [yf2,hv]
    simp [hk,hz,yl2 κ _ hn]),
   zz0 (σ':=omS s i ps w κ (vl (.list q.2)) (ow (.list ((acc++[omQ s i κ q]).map prK))) (vl (.list q.1)) (vl (dK (κ++[(i,zw1 s q.1)])))) (by simp [↓mkT2,ha,omQ])]
  rfl
theorem wo0 {q:List D×List D} {v0 v1 v2 v3 v4 v5 v6 v7 v8:Option AV}:yx0 [7,5] (prD q) [v0,v1,v2,v3,v4,v5,v6,v7,v8]=some [v0,v1,v2,v3,v4,vl (.list q.2),v6,vl (.list q.1),v8]:=by
 rfl
theorem zd6 {α β:Type} (p:α->Bool) (g:α->β):∀ l:List α,(l.flatMap fun x=>if p x then [g x] else [])=(l.filter p).map g
 | []=>rfl
 | x::r=>by
  rw [List.flatMap_cons,zd6 p g r,yq]
  split<;>rfl
theorem yj3 (h:Has Fs "parts_in" ⟨2,2,zx2⟩) (h2:Has Fs "joined" ⟨2,4,zu0⟩) (h3:Has Fs "choices" ⟨1,7,zr3⟩) (h4:Has Fs "open_met" ⟨5,9,zw0⟩)
  (hn:lk κ i=none) (hκ:κ.length<size) (hc:∀ x∈ps,Can 7 x) (hp:∀ x∈ps,parts s x=[x]) (hw:ps.Pairwise leD) (hl:ps.length<=20) :
  ∃ R:List (List D×List D),Seen (zx3 [([],[])] ps) R/\run Fs glo fuel (n+3) "open_met" [.str s.str,.int i,.list ps,.int w,dK κ]=some (.list (((R.filter (omP w)).map (omQ s i κ)).map prK),false):=by
 refine elEA (yc2 (fuel:=fuel) h3 (n+1) hc hl) fun R hR hS=>?_
 refine ⟨R,hS,?_⟩
 have hRs:∀ q∈R,q.1.Sublist ps:=fun q hq=>by
  refine elEAEEAAA (zh8 ps _ q.1 q.2 (hS.mem q hq)) fun q0 h0 t' l' e1 e2 h1 _=>?_
  simp at h0; subst h0; simp at e1; exact e1▸h1
 have hRl:R.length<=2^20:=by
  have:=hS.len
  rw [zk0] at this
  have h2:=jy (n:=2) (by bv_omega) hl
  simp at this; exact qt this h2
 have loop:∃ σ',forN (yx0 [7,5]) (ex (Ga Fs fuel (n+2)) yu0) (R.map prD) (omS s i ps w κ none (ow (.list [])) none none)=some (.next σ') /\
   ∃ a c d,σ'=omS s i ps w κ a (ow (.list ((R.flatMap fun q=>if omP w q then [omQ s i κ q] else []).map prK))) c d:=by
  refine zs6 prD (fun done σ=>∃ a c d,σ=omS s i ps w κ a (ow (.list ((done.flatMap fun q=>if omP w q then [omQ s i κ q] else []).map prK))) c d) ⟨_,_,_,rfl⟩ ?_
  rintro done q rest σ e ⟨a,c,d,rfl⟩
  have hq:q∈R:=by exact mm e
  have hs:=hRs q hq
  have hz:(done.flatMap fun q=>if omP w q then [omQ s i κ q] else []).length+1<size:=by
   rw [zd6,xw]
   have:=List.length_filter_le (omP w) done
   have:R.length=done.length+(rest.length+1):=by exact lm e
   unfold size; exact ql (zJ (qt ‹_› (qQ done.length rest.length))) (qx (this▸hRl))
  obtain ⟨y,ey⟩:=yi4 (fuel:=fuel) (n:=n) (i:=i) (ps:=ps) (w:=w) (κ:=κ) h h2 (q:=q) (x:=d) hn hκ (fun x hx=>hc x (hs.subset hx)) (fun x hx=>hp x (hs.subset hx)) (hw.sublist hs) (qw hs.length_le hl) hz
  refine ⟨_,_,wo0,ey,vl (.list q.2),vl (.list q.1),y,?_⟩
  simp [List.flatMap_append]
 (refine elEAEEE (loop) fun σ' e a c d e_5=>?_; subst e_5)
 rw [zd6] at e
 refine zz4 h4 rfl ?_
 show ex (Ga Fs fuel (n+2)) zw0 (omS s i ps w κ none none none none)=_
 rw [zw0,zz0 (σ':=omS s i ps w κ none none none none) (by simp [c_in,xu2,hn]),
  zz0 (σ':=omS s i ps w κ none (ow (.list [])) none none) (rfl),
  zz0 (by rw [zl4,show srcE (ev (Ga Fs fuel (n+2)) (.call "choices" (.cons (.var 2) .nil))) (omS s i ps w κ none (ow (.list [])) none none)=some (R.map prD,omS s i ps w κ none (ow (.list [])) none none) by simp [zit1,hR]]; exact e),
  zz5 (d:=.list (((R.filter (omP w)).map (omQ s i κ)).map prK)) (f:=false) (by simp)]
theorem yj2 (h:Has Fs "parts_in" ⟨2,2,zx2⟩) (h3:Has Fs "without" ⟨2,4,zu8⟩) (h4:Has Fs "open_met" ⟨5,9,zw0⟩) {v:D} {k:Nat} (hk:k<=100) (hs:s≠.pair)
  (hn:lk κ i=some v) (hv:Can k v) (hc:∀ x∈ps,Can k x) :
  ∃ R:List (List D×Kn),run Fs glo fuel (n+2) "open_met" [.str s.str,.int i,.list ps,.int w,dK κ]=some (.list (R.map prK),true) /\
   ((R=[]/\¬ ∃ l,(parts s v++l).Perm ps)\/∃ l,R=[(l,κ)]/\(parts s v++l).Perm ps/\l.Sublist ps):=by
 have hr:=zn6 (fuel:=fuel) h n s hv.shp
 have e0:ex (Ga Fs fuel (n+1)) (.iff (.cmp .In (.var 1) (.var 4)) zc7 .nil) (omS s i ps w κ none none none none)=ex (Ga Fs fuel (n+1)) zc7 (omS s i ps w κ none none none none):=by
  simp [c_in,xu2,hn]
 rcases yd8 (fuel:=fuel) h3 n hk hc (hv.parts_can hs) with ⟨e,hno⟩|⟨l,e,h1,h2⟩
 ·refine ⟨[],zz4 h4 rfl ?_,.inl ⟨rfl,hno⟩⟩
  show ex (Ga Fs fuel (n+1)) zw0 (omS s i ps w κ none none none none)=_
  rw [zw0]
  refine zz5 (d:=.list []) (f:=true) ?_
  rw [e0,zc7,zz0 (σ':=omS s i ps w κ (vl .none) none none none) (by simp [zix3,zt8,zm4,hn,hr,e]),zz5]
  rfl
 ·refine ⟨[(l,κ)],zz4 h4 rfl ?_,.inr ⟨l,rfl,h1,h2⟩⟩
  show ex (Ga Fs fuel (n+1)) zw0 (omS s i ps w κ none none none none)=_
  rw [zw0]
  refine zz5 (d:=.list ([(l,κ)].map prK)) (f:=true) ?_
  rw [e0,zc7,zz0 (σ':=omS s i ps w κ (vl (.list l)) none none none) (by simp [zix3,zt8,zm4,hn,hr,e]),zz5]
  rfl
end
end Pl
end
section
namespace Pl
open Mini PySem
variable {Fs:Fns} {fuel:Nat}
theorem xe9 {x a m n:Nat} (h:m<=n):x^m<=(x+a+1)^n :=
 qw (j0 (by bv_omega) m) (jy (by bv_omega) h)
structure Lft (s:Sn) (T ps:List D):Prop where
 sub:ps.Sublist T
 can:∀ x∈T,Can 7 x
 non:∀ x∈T,parts s x=[x]
 srt:T.Pairwise leD
 len:T.length<=20
structure Knw (κ:Kn):Prop where
 nod:(κ.map (·.1)).Nodup
 can:∀ p∈κ,Can 7 p.2
theorem zp8 {ps:List D} {q:List D×List D} (h:q∈zx3 [([],[])] ps):q.1.Sublist ps/\q.2.Sublist ps/\(q.1++q.2).Perm ps:=by
 refine elEAEEAAAA (zh8 ps _ q.1 q.2 h) fun q0 h0 t' l' e1 e2 h1 h2 h3=>?_
 simp at h0; subst h0; simp at e1 e2; subst e1 e2; exact ⟨h1,h2,h3⟩
theorem yc8 (h:Has Fs "parts_in" ⟨2,2,zx2⟩) (h2:Has Fs "joined" ⟨2,4,zu0⟩) (h3:Has Fs "choices" ⟨1,7,zr3⟩) (h4:Has Fs "open_met" ⟨5,9,zw0⟩) (h5:Has Fs "without" ⟨2,4,zu8⟩)
  {s:Sn} (hs:s≠.pair) {T ps:List D} (L:Lft s T ps) {κ:Kn} (K:Knw κ) (hκ:κ.length<size) (i:Int) (w n:Nat) :
  ∃ R fl,run Fs glo fuel (n+3) "open_met" [.str s.str,.int i,.list ps,.int w,dK κ]=some (.list (R.map prK),fl)/\Stp s T (.tuple [.str "open", .int i]) ps w κ R:=by
 have hc:∀ x∈ps,Can 7 x:=fun x hx=>L.can x (L.sub.subset hx)
 have hp:∀ x∈ps,parts s x=[x]:=fun x hx=>L.non x (L.sub.subset hx)
 have hw:ps.Pairwise leD:=L.srt.sublist L.sub
 have hl:ps.length<=20:=qw L.sub.length_le L.len
 cases hk:lk κ i with
 | some v =>
  have hm:=xv7 hk
  have hv:=K.can _ hm
  have hf:∀ f,Ag f κ->fill f (.tuple [.str "open", .int i])=v:=fun f ha=>(zu2 f i).trans (ha _ hm)
  refine elEA (yj2 (fuel:=fuel) (n:=n+1) (w:=w) h h5 h4 (by bv_omega) hs hk hv hc) fun R e hR=>?_
  refine ⟨R,true,e,?_⟩
  rcases hR with ⟨rfl,hno⟩|⟨l,rfl,h1,hsb⟩
  ·refine ⟨by simp,by simp,by simp,fun f ha _ l hl' _=>?_,fun x=>wx _⟩
   rw [hf f ha] at hl'
   exact absurd ⟨l,hl'⟩ hno
  ·refine ⟨fun q hq=>?_,fun q hq=>?_,fun q hq f ha=>?_,fun f ha _ l' hl' _=>?_,fun x=>?_⟩
   ·simp at hq; subst hq; exact Ext.old K.nod hk
   ·simp at hq; subst hq; exact hsb
   ·simp at hq; subst hq; rw [hf f ha]; exact h1
   ·rw [hf f ha] at hl'
    exact ⟨(l,κ),by simp,ha,(List.perm_append_left_iff _).mp (h1.trans hl'.symm)⟩
   ·simp only [zm5,zt4,lv_i,lv_s,lv_t,zm6,zs8]
    exact xe9 (a:=0) (xk5 hsb)
 | none =>
  refine elEA (yj3 (fuel:=fuel) (n:=n) (w:=w) h h2 h3 h4 hk hκ hc hp hw hl) fun R hS e=>?_
  refine ⟨_,false,e,?_⟩
  have hmem:∀ q∈(R.filter (omP w)).map (omQ s i κ),∃ p∈zx3 [([],[])] ps,p.1≠[]/\q=omQ s i κ p:=fun q hq=>by
   (refine elEA (zy.mp hq) fun p hp e_2=>?_; subst e_2)
   obtain ⟨hp1,hp2⟩:=uK.mp hp
   refine ⟨p,hS.mem p hp1,fun e=>?_,rfl⟩
   simp [omP,e] at hp2
  have hof:∀ {t:List D},t.Sublist ps->t≠[]->parts s (zw1 s t)=t:=fun {t} ht hn =>
   (yu1 hs hn (qw ht.length_le hl) (fun x hx=>hc x (ht.subset hx)) (fun x hx=>hp x (ht.subset hx)) (hw.sublist ht)).2
  refine ⟨fun q hq=>?_,fun q hq=>?_,fun q hq f ha=>?_,fun f ha hcf l hl' hwl=>?_,fun x=>?_⟩
  ·(refine elEAA (hmem q hq) fun p hp hne e_3=>?_; subst e_3)
   exact Ext.new K.nod hk (.some hs ((zp8 hp).1.trans L.sub) hne)
  ·(refine elEAA (hmem q hq) fun p hp hne e_3=>?_; subst e_3)
   exact (zp8 hp).2.1
  ·(refine elEAA (hmem q hq) fun p hp hne e_3=>?_; subst e_3)
   have hfi:f i=zw1 s p.1:=ha (i,zw1 s p.1) (mr mh)
   rw [zu2,hfi,hof (zp8 hp).1 hne]
   exact (zp8 hp).2.2
  ·obtain ⟨k,hcf⟩:=hcf i (.self i)
   rw [zu2] at hl'
   refine elEEAA (za1 ps [([],[])] ([],[]) mh hl') fun t l0 hm ht hl0=>?_
   simp only [List.nil_append] at hm
   have hts:=(zp8 hm).1
   have htc:∀ x∈t,Can 7 x:=fun x hx=>hc x (hts.subset hx)
   have hte:t=parts s (f i):=zk1 (zd8 htc) (hw.sublist hts) (hcf.parts_sorted hs) ht
   refine elEA (hS.all _ hm) fun q' hq' e1=>?_
   simp only at e1
   have hq'':=zp8 (hS.mem _ hq')
   have hp2:q'.2.Perm l:=(List.perm_append_left_iff (parts s (f i))).mp (by
    rw [<- hte,<- e1]
    refine hq''.2.2.trans ?_
    rw [e1,hte]
    exact hl'.symm)
   have htn:t≠[]:=by
    rintro rfl
    have:=(hcf.parts_pos hs).1
    rw [<- hte] at this; simp at this
   refine ⟨omQ s i κ q',zy.mpr ⟨q',uK.mpr ⟨hq',?_⟩,rfl⟩,ha.snoc ?_,hp2⟩
   ·have:=hp2.length_eq
    have hne:q'.1.isEmpty=false:=by rw [e1]; cases t with|nil=>exact absurd rfl htn|cons _ _=>rfl
    simp only [omP,hne,Bool.not_false,Q7,decide_eq_true_eq]
    exact qt hwl (zX this.symm)
   ·rw [e1,hte]; exact (yn8 hs hcf).symm
  ·have hpos:∀ p∈ps,1<=lv p:=fun p hp=>(hc p hp).lv_pos
   have a1:=yr6 x ps hpos [([],[])]
   have a2:=hS.sum fun l=>x^lvL l
   have a3:=za0 (fun q:List D×List D=>x^lvL q.2) (omP w) R
   rw [ye8]
   simp only [omQ]
   have e1:lv (.tuple [.str "open", .int i])=1:=by simp [lv_i,lv_s,lv_t,zm6,zs8]
   rw [e1]
   simp only [zm5,zt4,zm6,Nat.pow_zero,Nat.add_zero,Nat.one_mul] at a1
   exact qw a3 (qw a2 a1)
structure Met (P S:D) (κ:Kn) (R:List Kn):Prop where
 ext:∀ κ'∈R,Ext S P κ κ'
 sound:∀ κ'∈R,∀ f,Ag f κ'->fill f P=S
 compl:∀ f,Ag f κ->(∀ i,Opn i P->∃ k,Can k (f i))->fill f P=S->∃ κ'∈R,Ag f κ'
 size:R.length<=lv P^lv S
noncomputable def xm6:I:=(.cons (.app 3 (.tup (.cons (.bin .Add (.slc (.var 1) .omit (.var 4)) (.slc (.var 1) (.bin .Add (.var 4) (.cint 1)) .omit)) (.cons (.var 5) .nil)))) .nil)
noncomputable def xd0:I:=(.iff (.cmp .NotIn (.idx (.var 1) (.var 4)) (.slc (.var 1) .omit (.var 4))) (.cons (.for1 5 (.call "met" (.cons (.var 0) (.cons (.idx (.var 1) (.var 4)) (.cons (.var 2) .nil)))) xm6) .nil) .nil)
noncomputable def zo5:I:=(.cons (.asg 3 (.lst .nil)) (.cons (.for1 4 (.rng1 (.prim1 .len (.var 1))) (.cons xd0 .nil)) (.cons (.ret (.var 3)) .nil)))
noncomputable abbrev pmS (p:D) (ps:List D) (κ:Kn) (a b c:Option AV):Mini.Sg:=[vl p,vl (.list ps),vl (dK κ),a,b,c]
theorem yj1 {α:Type} (pre post:List α) (j:Int) (hj:j=(pre.length:Int)):zv8 (pre++post) none (some j)=pre:=by
 subst hj
 have e:yy5 (pre++post).length (pre.length:Int)=pre.length:=by
  simp only [yy5,z9]
  rw [if_neg (by bv_omega)]
  simp
 simp only [zv8,e]
 simp
theorem xs8 {α:Type} (pre post:List α) (j:Int) (hj:j=(pre.length:Int)):zv8 (pre++post) (some j) none=post:=by
 subst hj
 have e:yy5 (pre++post).length (pre.length:Int)=pre.length:=by
  simp only [yy5,z9]
  rw [if_neg (by bv_omega)]
  simp
 simp only [zv8,e]
 rw [List.take_length,List.drop_left]
theorem xr5 {Γ:Mini.Env} {p d:D} {pre post:List D} {κ κ':Kn} {acc:List (List D×Kn)} (hl:(pre++d::post).length<=20) (ha:acc.length+1<size) :
  ex Γ xm6 (pmS p (pre++d::post) κ (ow (.list (acc.map prK))) (vl (.int pre.length)) (vl (dK κ')))=some (.next (pmS p (pre++d::post) κ (ow (.list ((acc++[(pre++post,κ')]).map prK))) (vl (.int pre.length)) (vl (dK κ')))):=by
 have hl':pre.length+(post.length+1)<=20:=by simpa using hl
 have e1:=yj1 pre (d::post) (pre.length:Int) rfl
 have e2:zv8 (pre++d::post) (some ((pre.length:Int)+1)) none=post:=by
  have:=xs8 (pre++[d]) post ((pre.length:Int)+1) (by simp)
  simpa using this
 have z1:pre.length+post.length<=size:=by unfold size; exact qy (qt (qZ (qQ ..) _) hl')
 have z2:(pre.length:Int).natAbs<2^62:=by exact na62 (qf hl')
 have z3:((pre.length:Int)+1).natAbs<2^62:=by exact na63 (qt (qa (zW _) (w7 ..)) hl')
 rw [xm6,zz0 (σ':=pmS p (pre++d::post) κ (ow (.list ((acc++[(pre++post,κ')]).map prK))) (vl (.int pre.length)) (vl (dK κ'))) (by
  simp only [q_app,sl3,q_oL,oL_]
  simp only [xp4,xh2,q_bin,q_tup,zu3,wm7,o_var,wl5,o_slc,q_duo,q_use,use_v,res,wm6,sl1,sl4,↓ys5,b_ad,zad1,mkL_,bE_o,bE_v,bE_b,kbe_,kbe2_,zsl1,bD_,kq_,kbin_,kap_,kdu3_,kdu2_,kdu1_,kdu_,kdat_,vJ,bD_,z2,z3,if_true,e1,e2]
  simp [↓mkT2,z1,ha])]
 rfl
end Pl
end
section
namespace Pl
open Mini PySem
variable {Fs:Fns} {fuel:Nat}
noncomputable def pw (a x:Nat):List D->Nat
 | []=>0
 | d::r=>a^lv d*x^lvL r+x^lv d*pw a x r
theorem pw_a {a x}:pw a x []=0:=rfl
theorem pw_b {a x d r}:pw a x (d::r)=a^lv d*x^lvL r+x^lv d*pw a x r:=rfl
theorem wu7 (a x:Nat):∀ {l:List D},(∀ d∈l,1<=lv d)->pw a x l<=(x+a)^lvL l
 | [],_=>wx _
 | d::r,h=>by
  have ih:=wu7 a x (l:=r) fun y hy=>h y (mt hy)
  have h1:=za2 a x (lv d) (h d mh)
  rw [pw_b,zs8,Z4]
  have h2:x^lvL r<=(x+a)^lvL r:=j0 (by bv_omega) _
  have h3:=w5 (a^lv d) h2
  have h4:=w5 (x^lv d) ih
  have h5:=yw ((x+a)^lvL r) h1
  rw [Nat.add_mul,wk a x] at h5
  exact qt (qa h3 h4) h5
theorem xm3 (a x:Nat) (d:D):∀ l:List D,pw a x (l++[d])=pw a x l*x^lv d+x^lvL l*a^lv d
 | []=>by simp [pw_a,pw_b,zm6]
 | y::r=>by
  simp only [jx,pw_b,xm3 a x d r,zw8,zm6,zs8,Nat.add_zero,Z4,uq,Nat.add_mul]
  simp only [Nat.mul_comm,Nat.mul_left_comm,x9]
theorem xx7 {N:Nat} {done rest:List Nat} {a:Nat} (h:List.range N=done++a::rest):a=done.length/\a<N:=by
 have hl:done.length<N:=by have:=congrArg List.length h; simp at this; exact this▸Nat.lt_add_of_pos_right (Nat.succ_pos _)
 have:=congrArg (fun l=>l[done.length]?) h
 simp [List.getElem?_range hl] at this
 exact ⟨this.symm,this▸hl⟩
theorem xr6 {Γ:Mini.Env} {p d:D} {pre post:List D} {κ:Kn} {acc:List (List D×Kn)} {c:Option AV} (hl:(pre++d::post).length<=20) (K:List Kn) (ha:acc.length+K.length<size) :
  ∃ c',forN (zn4 5) (ex Γ xm6) (K.map dK) (pmS p (pre++d::post) κ (ow (.list (acc.map prK))) (vl (.int pre.length)) c)=some (.next (pmS p (pre++d::post) κ (ow (.list ((acc++K.map fun κ'=>(pre++post,κ')).map prK))) (vl (.int pre.length)) c')):=by
 have loop:=zs6 (bnd:=zn4 5) (body:=ex Γ xm6) dK (fun done σ=>∃ c',σ=pmS p (pre++d::post) κ (ow (.list ((acc++done.map fun κ'=>(pre++post,κ')).map prK))) (vl (.int pre.length)) c') (L:=K)
  (σ:=pmS p (pre++d::post) κ (ow (.list (acc.map prK))) (vl (.int pre.length)) c) ⟨c,by simp⟩ (by
   rintro done κ' rest σ e ⟨c',rfl⟩
   have hz:(acc++done.map fun κ'=>(pre++post,κ')).length+1<size:=by
    have:K.length=done.length+(rest.length+1):=by exact lm e
    simp; exact nad (this▸ha)
   refine ⟨_,_,rfl,xr5 hl hz,vl (dK κ'),?_⟩
   simp)
 (refine elEAE (loop) fun σ' e c' e_3=>?_; subst e_3)
 exact ⟨c',e⟩
structure Pmv (s:Sn) (T:List D) (p:D) (ps:List D) (κ:Kn) (j:Nat) (R:List (List D×Kn)):Prop where
 ext:∀ q∈R,Ext (.tuple (.str s.str::T)) p κ q.2
 sub:∀ q∈R,q.1.Sublist ps
 sound:∀ q∈R,∀ f,Ag f q.2->(fill f p::q.1).Perm ps
 compl:∀ f,Ag f κ->(∀ i,Opn i p->∃ k,Can k (f i))->fill f p∈ps.take j->∃ q∈R,Ag f q.2
 size:∀ x,zu6 (fun q=>x^lvL q.1) R<=pw (lv p) x (ps.take j)*x^lvL (ps.drop j)
theorem xw6 {s:Sn} {T:List D} {p d:D} {pre post:List D} {κ:Kn} {R:List (List D×Kn)} (hd:(pre++d::post).Sublist T) (h:Pmv s T p (pre++d::post) κ pre.length R)
  {K:List Kn} (hK:(d∈pre/\K=[])\/(d∉pre/\Met p d κ K)):Pmv s T p (pre++d::post) κ (pre.length+1) (R++K.map fun κ'=>(pre++post,κ')):=by
 have hdT:d∈T:=hd.subset (mr mh)
 have ht:(pre++d::post).take (pre.length+1)=pre++[d]:=by
  rw [show pre++d::post=(pre++[d])++post by simp,List.take_left' (by simp)]
 have ht0:(pre++d::post).take pre.length=pre:=List.take_left
 have hr:(pre++d::post).drop (pre.length+1)=post:=by
  rw [show pre++d::post=(pre++[d])++post by simp,List.drop_left' (by simp)]
 have hr0:(pre++d::post).drop pre.length=d::post:=List.drop_left
 refine ⟨fun q hq=>?_,fun q hq=>?_,fun q hq f ha=>?_,fun f ha hc hm=>?_,fun x=>?_⟩
 ·rcases qW.mp hq with hq|hq
  ·exact h.ext q hq
  ·(refine elEA (zy.mp hq) fun κ' hk e_2=>?_; subst e_2)
   rcases hK with ⟨_,rfl⟩|⟨_,M⟩
   ·cases hk
   ·have e:=M.ext κ' hk
    exact ⟨e.sub,e.nod,fun x hx=>(e.val x hx).imp id fun t=>.part hdT t,e.dom,e.len⟩
 ·rcases qW.mp hq with hq|hq
  ·exact h.sub q hq
  ·(refine elEA (zy.mp hq) fun κ' hk e_2=>?_; subst e_2)
   exact (List.Sublist.refl pre).append (List.sublist_cons_self d post)
 ·rcases qW.mp hq with hq|hq
  ·exact h.sound q hq f ha
  ·(refine elEA (zy.mp hq) fun κ' hk e_2=>?_; subst e_2)
   rcases hK with ⟨_,rfl⟩|⟨_,M⟩
   ·cases hk
   ·rw [M.sound κ' hk f ha]
    exact Qq.symm
 ·rw [ht] at hm
  rcases qW.mp hm with hm|hm
  ·refine elEA (h.compl f ha hc (by rw [ht0]; exact hm)) fun q hq e=>?_
   exact ⟨q,jj _ hq,e⟩
  ·simp at hm
   rcases hK with ⟨hin,_⟩|⟨_,M⟩
   ·refine elEA (h.compl f ha hc (by rw [ht0,hm]; exact hin)) fun q hq e=>?_
    exact ⟨q,jj _ hq,e⟩
   ·refine elEA (M.compl f ha hc hm) fun κ' hk e=>?_
    exact ⟨(pre++post,κ'),List.mem_append_right _ (zy.mpr ⟨κ',hk,rfl⟩),e⟩
 ·have a1:=h.size x
  rw [ht0,hr0] at a1
  rw [ht,hr,xm3,sum_append,ye8]
  have a2:zu6 (fun _:Kn=>x^lvL (pre++post)) K<=lv p^lv d*x^lvL (pre++post):=by
   rw [yk5]
   refine yw _ ?_
   rcases hK with ⟨_,rfl⟩|⟨_,M⟩
   ·exact wx _
   ·exact M.size
  rw [zw8,Z4] at a2
  rw [zs8,Z4] at a1
  have e1:(pw (lv p) x pre*x^lv d+x^lvL pre*lv p^lv d)*x^lvL post=pw (lv p) x pre*(x^lv d*x^lvL post)+lv p^lv d*(x^lvL pre*x^lvL post):=by
   rw [Nat.add_mul]
   simp only [Nat.mul_comm,Nat.mul_assoc,Nat.mul_left_comm]
  rw [e1]
  simp only [zw8,Z4]
  exact qa a1 a2
theorem yc6 (h:Has Fs "part_met" ⟨3,6,zo5⟩) {m:Nat} {s:Sn} {T ps:List D} (L:Lft s T ps) {κ:Kn} {p:D} (hz:(1+lv p)^lvL T<size)
  (hm:∀ x∈T,∃ K fl,run Fs glo fuel m "met" [p,x,dK κ]=some (.list (K.map dK),fl)/\Met p x κ K) (hpf:∀ f,parts s (fill f p)=[fill f p]) (w:Nat) :
  ∃ R fl,run Fs glo fuel (m+1) "part_met" [p,.list ps,dK κ]=some (.list (R.map prK),fl)/\Stp s T p ps w κ R:=by
 have hc:∀ x∈ps,Can 7 x:=fun x hx=>L.can x (L.sub.subset hx)
 have hl:ps.length<=20:=qw L.sub.length_le L.len
 have hpos:∀ x∈ps,1<=lv x:=fun x hx=>(hc x hx).lv_pos
 have hlen:∀ {j:Nat} {R:List (List D×Kn)},Pmv s T p ps κ j R->R.length<size:=fun {j R} V=>by
  have a:=V.size 1
  simp only [Nat.one_pow,yw6,Qj] at a
  have b:=wu7 (lv p) 1 (l:=ps.take j) fun d hd=>hpos d (List.mem_of_mem_take hd)
  have c:lvL (ps.take j)<=lvL T:=xk5 ((List.take_sublist j ps).trans L.sub)
  have d:=jy (n:=1+lv p) (by bv_omega) c
  exact ql (qt a (qt b d)) hz
 have loop:=zs6 (bnd:=zn4 4) (body:=ex (Ga Fs fuel m) (.cons xd0 .nil)) (fun k:Nat=>vy (0+(k:Int))) (fun done σ=>∃ R a c,Pmv s T p ps κ done.length R/\σ=pmS p ps κ (ow (.list (R.map prK))) a c) (L:=List.range ps.length)
  (σ:=pmS p ps κ (ow (.list [])) none none) ⟨[],none,none,⟨by simp,by simp,by simp,by simp,fun x=>wx _⟩,rfl⟩ (by
   rintro done a rest σ e ⟨R,b,c,V,rfl⟩
   obtain ⟨ea,hlt⟩:=xx7 e
   rw [<- ea] at V
   have hsp:ps=ps.take a++ps[a]::ps.drop (a+1):=by rw [<- uW hlt,List.take_append_drop]
   have hpl:(ps.take a).length=a:=by simp; exact vX (zq hlt)
   generalize hpre:ps.take a=pre at *
   generalize hpost:ps.drop (a+1)=post at *
   generalize hd:ps[a]=d at *
   rw [<- hpl] at V
   have hdm:d∈ps:=by rw [<- hd]; exact jZ hlt
   refine elEEA (hm d (L.sub.subset hdm)) fun K fl eK M=>?_
   have okp:∀ x∈pre,okd x=true:=fun x hx=>(hc x (by exact mml hsp hx)).okd (by bv_omega)
   have okd':=(hc d hdm).okd (by bv_omega)
   have pp:∀ x∈pre,zz8 x=true:=fun x hx=>(hc x (by exact mml hsp hx)).plain
   have hal:pre.all okd=true:=xJ.mpr okp
   have hz2:(a:Int).natAbs<2^62:=by exact na62 (qt (zq hlt) hl)
   have hz3:a<4611686018427387904:=by exact qx (qt (zq hlt) hl)
   have hidx:(pre++d::post)[a]?=some d:=by rw [<- hpl]; simp
   have hslc:zv8 (pre++d::post) none (some (a:Int))=pre:=yj1 pre (d::post) a (by rw [hpl])
   have hdone:(done++[a]).length=pre.length+1:=by simp [hpl,ea]
   subst hsp
   by_cases hin:d∈pre
   ·have hnin:inD d (.list pre)=some true:=by rw [yw0,okd',hal,(yl6 (hc d hdm).plain pp).mpr hin]; rfl
    refine ⟨_,pmS p (pre++d::post) κ (ow (.list (R.map prK))) (vl (.int a)) c,by rw [Int.zero_add]; rfl,?_,R++[].map fun κ'=>(pre++post,κ'),vl (.int a),c,?_,by simp⟩
    ·rw [zz0 (σ':=pmS p (pre++d::post) κ (ow (.list (R.map prK))) (vl (.int a)) c) (by
      rw [xd0,zz2]
      simp [zu3,zz1,c_ni,zix1,bE_o,bE_v,zsl1,bD_,hidx,hz3,hslc,hnin])]
     rfl
    ·rw [hdone]; exact xw6 L.sub V (.inl ⟨hin,rfl⟩)
   ·have hnin:inD d (.list pre)=some false:=by
     have hf:(pre.any fun y=>qX y d)=false:=by
      rw [<- Z6]; exact fun e=>hin ((yl6 (hc d hdm).plain pp).mp e)
     rw [yw0,okd',hal,hf]; rfl
    have V':=xw6 L.sub V (.inr ⟨hin,M⟩)
    have hzz:=hlen V'
    simp only [z9,xw] at hzz
    obtain ⟨c',ec⟩:=xr6 (Γ:=Ga Fs fuel m) (p:=p) (d:=d) (pre:=pre) (post:=post) (κ:=κ) (acc:=R) (c:=c) hl K hzz
    rw [hpl] at ec
    refine ⟨_,_,by rw [Int.zero_add]; rfl,?_,_,vl (.int a),c',by rw [hdone]; exact V',rfl⟩
    rw [zz0 (σ':=pmS p (pre++d::post) κ (ow (.list ((R++K.map fun κ'=>(pre++post,κ')).map prK))) (vl (.int a)) c') (by
     rw [xd0,zz2]
     have hcond:uno (.cmp .NotIn (.idx (.var 1) (.var 4)) (.slc (.var 1) .omit (.var 4))) (ev (Ga Fs fuel m) (.cmp .NotIn (.idx (.var 1) (.var 4)) (.slc (.var 1) .omit (.var 4)))) (pmS p (pre++d::post) κ (ow (.list (R.map prK))) (vl (.int a)) c)=some (.bool true,pmS p (pre++d::post) κ (ow (.list (R.map prK))) (vl (.int a)) c):=by
      simp [zu3,c_ni,zix1,bE_o,bE_v,zsl1,bD_,hidx,hz3,hslc,hnin]
     show (uno _ _ (pmS p (pre++d::post) κ (ow (.list (R.map prK))) (vl (.int a)) c)).bind _=_
     rw [hcond]
     show ex _ (.cons _ .nil) _=_
     rw [zz0 (σ':=pmS p (pre++d::post) κ (ow (.list ((R++K.map fun κ'=>(pre++post,κ')).map prK))) (vl (.int a)) c')]
     ·rfl
     rw [zy4,show srcE (ev (Ga Fs fuel m) (.call "met" (.cons (.var 0) (.cons (.idx (.var 1) (.var 4)) (.cons (.var 2) .nil))))) (pmS p (pre++d::post) κ (ow (.list (R.map prK))) (vl (.int a)) c)=some (K.map dK,pmS p (pre++d::post) κ (ow (.list (R.map prK))) (vl (.int a)) c) by simp [zix1,zit1,hidx,eK]]
     exact ec)]
    rfl)
 (refine elEAEEEA (loop) fun σ' e R b c V e_6=>?_; subst e_6)
 rw [List.length_range] at V
 refine ⟨R,false,zz4 h rfl ?_,V.ext,V.sub,fun q hq f ha=>?_,fun f ha hcf l hl' _=>?_,fun x=>?_⟩
 ·show ex (Ga Fs fuel m) zo5 (pmS p ps κ none none none)=_
  have hsz:zz9 (ps.length:Int)=true:=by simp only [zz9,decide_eq_true_eq]; exact na62 hl
  have hsz2:ps.length<=size:=by unfold size; exact qy hl
  rw [zo5,zz0 (σ':=pmS p ps κ (ow (.list [])) none none) (by simp [↓mkL0]),
   zz0 (by
    rw [zy4,show srcE (ev (Ga Fs fuel m) (.rng1 (.prim1 .len (.var 1)))) (pmS p ps κ (ow (.list [])) none none)=some ((List.range ps.length).map fun k:Nat=>vy (0+(k:Int)),pmS p ps κ (ow (.list [])) none none) by
     simp [zp5,zle1,zai,zit1,hsz,hsz2,zt6]]
    exact e),
   zz5 (d:=.list (R.map prK)) (f:=false) (by simp)]
 ·rw [hpf]; exact V.sound q hq f ha
 ·rw [hpf] at hl'
  have hmem:fill f p∈ps:=hl'.mem_iff.mp mh
  refine elEA (V.compl f ha hcf (by rw [List.take_length]; exact hmem)) fun q hq e=>?_
  exact ⟨q,hq,e,wK.cons_inv ((V.sound q hq f e).trans hl'.symm)⟩
 ·have a:=V.size x
  rw [List.take_length,List.drop_length] at a
  simp only [zm6,Nat.pow_zero,Qj] at a
  exact qw a (wu7 (lv p) x hpos)
end Pl
end
section
namespace Pl
open Mini PySem
theorem zc6 {i:Int} {s:Sn} {l:List D} (h:Opn i (.tuple (.str s.str::l))):∃ p∈l,Opn i p:=by
 generalize hd:(wV (.str s.str::l))=d at h
 cases h with
 | self=>simp at hd; exact absurd hd.1.symm (zx8 true s)
 | @part x s' l' hx hy=>simp at hd; obtain ⟨_,rfl⟩:=hd; exact ⟨x,hx,hy⟩
theorem zi8 (s:Str) (l:List D):lv (.tuple (.str s::l))=lvL l:=by simp [lv_s,lv_t,zs8]
theorem Ext.join {S p:D} {s:Sn} {done:List D} {κ κ1 κ2:Kn} (h1:Ext S (.tuple (.str s.str::done)) κ κ1) (h2:Ext S p κ1 κ2):Ext S (.tuple (.str s.str::(done++[p]))) κ κ2 where
 sub:=fun x hx=>h2.sub x (h1.sub x hx)
 nod:=h2.nod
 val:=fun x hx=>by
  rcases h2.val x hx with q|q
  ·exact h1.val x q
  ·exact .inr q
 dom:=fun i hi=>by
  refine elEA (zc6 hi) fun y hy ho=>?_
  rcases qW.mp hy with hy|hy
  ·obtain ⟨v,hv⟩:=h1.dom i (.part hy ho)
   exact ⟨v,h2.sub _ hv⟩
  ·simp at hy; subst hy; exact h2.dom i ho
 len:=by
  have a:=h1.len
  have b:=h2.len
  rw [zi8] at a |-
  rw [zw8]
  simp only [zm6,zs8]
  exact qt b (qt (xv a _) (zX (x9 ..)))
noncomputable def Cf (f:Int->D) (p:D):Prop:=∀ i,Opn i p->∃ k,Can k (f i)
noncomputable def fl (s:Sn) (f:Int->D) (l:List D):List D:=l.flatMap fun p=>parts s (fill f p)
theorem zh3 (s:Sn) (f:Int->D) (a b:List D):fl s f (a++b)=fl s f a++fl s f b:=by simp [fl]
theorem xu6 (s:Sn) (f:Int->D) (p:D):fl s f [p]=parts s (fill f p):=by simp [fl]
theorem ww4 {s:Sn} {f:Int->D}:∀ {l:List D},(∀ p∈l,1<=(parts s (fill f p)).length)->l.length<=(fl s f l).length
 | [],_=>wx _
 | p::r,h=>by
  have:=ww4 (l:=r) fun p hp=>h p (mt hp)
  have:=h p mh
  simp only [fl,List.flatMap_cons,z9,vZ] at *
  exact qt (zX (wk ..)) (qa this ‹_›)
structure Acc (s:Sn) (S p:D) (w:Nat) (qs acc:List (List D×Kn)):Prop where
 back:∀ q'∈acc,∃ q∈qs,Ext S p q.2 q'.2/\q'.1.Sublist q.1/\∀ f,Ag f q'.2->(parts s (fill f p)++q'.1).Perm q.1
 forth:∀ q∈qs,∀ f,Ag f q.2->Cf f p->∀ l,(parts s (fill f p)++l).Perm q.1->w<=l.length->∃ q'∈acc,Ag f q'.2/\q'.1.Perm l
 size:∀ x,zu6 (fun q=>x^lvL q.1) acc<=zu6 (fun q=>(x+lv p)^lvL q.1) qs
theorem Acc.nil {s:Sn} {S p:D} {w:Nat}:Acc s S p w [] []:=⟨by simp,by simp,fun x=>zW _⟩
theorem Acc.snoc {s:Sn} {T:List D} {p:D} {w:Nat} {qs acc R:List (List D×Kn)} {q:List D×Kn} (h:Acc s (.tuple (.str s.str::T)) p w qs acc) (hR:Stp s T p q.1 w q.2 R):Acc s (.tuple (.str s.str::T)) p w (qs++[q]) (acc++R):=by
 refine ⟨fun q' hq=>?_,fun q0 hq f ha hc l hl hw=>?_,fun x=>?_⟩
 ·rcases qW.mp hq with hq|hq
  ·refine elEA (h.back q' hq) fun q0 h0 e=>?_
   exact ⟨q0,by simp [h0],e⟩
  ·exact ⟨q,by simp,hR.ext q' hq,hR.sub q' hq,hR.sound q' hq⟩
 ·rcases qW.mp hq with hq|hq
  ·refine elEA (h.forth q0 hq f ha hc l hl hw) fun q' h1 h2=>?_
   exact ⟨q',by simp [h1],h2⟩
  ·simp at hq; subst hq
   refine elEA (hR.compl f ha hc l hl hw) fun q' h1 h2=>?_
   exact ⟨q',by simp [h1],h2⟩
 ·rw [sum_append,sum_append]
  have a:=h.size x
  have b:=hR.size x
  simp only [zm5,zt4]
  exact qa a b
structure Sts (s:Sn) (T l:List D) (κ:Kn) (done:List D) (sts:List (List D×Kn)):Prop where
 ext:∀ q∈sts,Ext (.tuple (.str s.str::T)) (.tuple (.str s.str::done)) κ q.2
 sub:∀ q∈sts,q.1.Sublist T
 sound:∀ q∈sts,∀ f,Ag f q.2->(fl s f done++q.1).Perm T
 compl:∀ f,Ag f κ->Cf f (.tuple (.str s.str::l))->(fl s f l).Perm T->∃ q∈sts,Ag f q.2/\(fl s f done++q.1).Perm T
 size:∀ x,zu6 (fun q=>x^lvL q.1) sts<=(x+lvL done)^lvL T
theorem Sts.init {s:Sn} {T l:List D} {κ:Kn} (hn:(κ.map (·.1)).Nodup):Sts s T l κ [] [(T,κ)]:=by
 refine ⟨fun q hq=>?_,fun q hq=>?_,fun q hq f ha=>?_,fun f ha _ _=>⟨_,xq.mpr rfl,ha,by simp [fl]⟩,fun x=>by simp [zm5,zt4,zm6]⟩
 ·simp at hq; subst hq
  refine ⟨fun x h=>h,hn,fun x h=>.inl h,fun i hi=>?_,by simp⟩
  refine elEA (zc6 hi) fun p hp _=>?_
  cases hp
 ·simp at hq; subst hq; exact List.Sublist.refl _
 ·simp at hq; subst hq; simp [fl]
theorem Sts.next {s:Sn} {T l:List D} {κ:Kn} {done rest:List D} {p:D} {sts acc:List (List D×Kn)} (h:Sts s T l κ done sts) (e:l=done++p::rest) (hA:Acc s (.tuple (.str s.str::T)) p rest.length sts acc)
  (hne:∀ f,Cf f (.tuple (.str s.str::l))->∀ p∈l,1<=(parts s (fill f p)).length):Sts s T l κ (done++[p]) acc:=by
 refine ⟨fun q hq=>?_,fun q hq=>?_,fun q hq f ha=>?_,fun f ha hc hp=>?_,fun x=>?_⟩
 ·refine elEAA (hA.back q hq) fun q0 h0 h1 _=>?_
  exact (h.ext q0 h0).join h1
 ·refine elEAAA (hA.back q hq) fun q0 h0 _ h2 _=>?_
  exact h2.trans (h.sub q0 h0)
 ·refine elEAAA (hA.back q hq) fun q0 h0 h1 h2 h3=>?_
  have a:=h.sound q0 h0 f (ha.sub h1.sub)
  rw [zh3,xu6,xk]
  exact ((h3 f ha).append_left _).trans a
 ·refine elEAA (h.compl f ha hc hp) fun q hq ha' hp'=>?_
  have e1:fl s f l=fl s f done++(parts s (fill f p)++fl s f rest):=by
   rw [e,zh3,show p::rest=[p]++rest from rfl,zh3,xu6]
  have h1:(parts s (fill f p)++fl s f rest).Perm q.1:=(List.perm_append_left_iff (fl s f done)).mp ((e1▸hp).trans hp'.symm)
  have hw:rest.length<=(fl s f rest).length:=ww4 fun p hp=>hne f hc p (by exact mmr e hp)
  refine elEAA (hA.forth q hq f ha' (fun i hi=>hc i (.part (by exact mm e) hi)) _ h1 hw) fun q' hq' a1 a2=>?_
  refine ⟨q',hq',a1,?_⟩
  rw [zh3,xu6,xk]
  exact ((a2.append_left _).append_left _).trans (e1▸hp)
 ·refine qw (hA.size x) (qw (h.size (x+lv p)) ?_)
  rw [zw8]
  simp only [zm6,zs8,Nat.add_zero]
  exact zX (by rw [show x+lv p+lvL done=x+(lvL done+lv p) by bv_omega])
theorem yy4 {k:Nat} {s:Sn} {p:D} (hp:Can k p) (hn:parts s p=[p]) (hs:s≠.pair) (ho:∀ i,p≠.tuple [.str "open", .int i]) (f:Int->D):parts s (fill f p)=[fill f p]:=by
 cases hp with
 | leaf k o n =>
  cases o with
  | true=>exact absurd rfl (ho n)
  | false=>rw [show lstr false = "name" from rfl,zh4]; exact zo0 s false n
 | pair _ _=>rw [zo7]; exact zm9 hs _ _
 | @join k s' l hs' h2 _ _ _ _ =>
  rw [zo8 f hs']
  refine zo4 ?_ _
  rintro rfl
  rw [zv4] at hn
  have:=congrArg List.length hn
  simp at this; bv_omega
theorem Sts.met {s:Sn} (hs:s≠.pair) {T l:List D} {κ:Kn} {sts:List (List D×Kn)} (h:Sts s T l κ l sts) (hc:∀ x∈T,Can 7 x) (hw:T.Pairwise leD):Met (.tuple (.str s.str::l)) (.tuple (.str s.str::T)) κ ((sts.filter fun q=>q.1.isEmpty).map (·.2)):=by
 have key:∀ f,fill f (.tuple (.str s.str::l))=.tuple (.str s.str::zx4 (fl s f l)):=fun f=>by
  rw [zo8 f hs]
  simp [fl,List.flatMap_map]
 refine ⟨fun κ' hk=>?_,fun κ' hk f ha=>?_,fun f ha hcf e=>?_,?_⟩
 ·(refine elEA (zy.mp hk) fun q hq e_2=>?_; subst e_2)
  exact h.ext q (uK.mp hq).1
 ·(refine elEA (zy.mp hk) fun q hq e_2=>?_; subst e_2)
  obtain ⟨hq1,hq2⟩:=uK.mp hq
  have hp:=h.sound q hq1 f ha
  rw [List.isEmpty_iff.mp hq2,List.append_nil] at hp
  rw [key,<- zo2 ((zd8 hc).perm hp) hp.symm hw]
 ·rw [key] at e
  have e:zx4 (fl s f l)=T:=by simpa using e
  have hp:(fl s f l).Perm T:=e▸(zz3 _).symm
  refine elEAA (h.compl f ha hcf hp) fun q hq h1 h2=>?_
  refine ⟨q.2,zy.mpr ⟨q,uK.mpr ⟨hq,?_⟩,rfl⟩,h1⟩
  have a:=h2.length_eq
  have b:=hp.length_eq
  rw [z9] at a
  rw [List.isEmpty_iff,<- kj]
  bv_omega
 ·have a:=h.size 0
  rw [zi8,zi8,xw,u8] at *
  refine qw ?_ a
  refine qw (xq3 (g:=fun q:List D×Kn=>0^lvL q.1) fun q hq=>?_) (za0 _ _ _)
  rw [List.isEmpty_iff.mp (uK.mp hq).2]
  simp [zm6]
variable {Fs:Fns} {fuel:Nat}
theorem wv7 {α:Type} (g:α->Nat) {a b:List α} (h:a.Sublist b):zu6 g a<=zu6 g b:=by
 induction h with
 | slnil=>exact zW _
 | cons _ _ ih=>simp only [zt4]; bv_omega
 | cons_cons _ _ ih=>simp only [zt4]; bv_omega
noncomputable def xz0:I:=(.ext 6 (.call "open_met" (.cons (.idx (.var 0) (.cint 0)) (.cons (.idx (.var 5) (.cint 1)) (.cons (.var 7) (.cons (.bin .Sub (.bin .Sub (.prim1 .len (.var 0)) (.cint 1)) (.var 4)) (.cons (.var 8) .nil)))))))
noncomputable def ya9:I:=(.ext 6 (.call "part_met" (.cons (.var 5) (.cons (.var 7) (.cons (.var 8) .nil)))))
noncomputable def xj3:I:=(.cons (.iff (.cmp .Eq (.idx (.var 5) (.cint 0)) (.cstr "open")) (.cons xz0 .nil) (.cons ya9 .nil)) .nil)
noncomputable def ym5:I:=(.cons (.asg 5 (.idx (.var 0) (.var 4))) (.cons (.asg 6 (.lst .nil)) (.cons (.fors [7,8] (.var 3) xj3) (.cons (.asg 3 (.var 6)) .nil))))
noncomputable def xz1:I:=(.compT 2 (.var 10) (.var 3) (.cmp .Eq (.var 9) (.lst .nil)))
noncomputable def xz2:I:=(.iff (.cmp .NotEq (.idx (.var 1) (.cint 0)) (.idx (.var 0) (.cint 0))) (.cons (.ret (.lst .nil)) .nil) .nil)
noncomputable def zu1:I:=(.cons xz2 (.cons (.asg 3 (.lst (.cons (.tup (.cons (.prim1 .list (.slc (.var 1) (.cint 1) .omit)) (.cons (.var 2) .nil))) .nil))) (.cons (.for1 4 (.rng (.cint 1) (.prim1 .len (.var 0))) ym5) (.cons (.ret xz1) .nil))))
section
variable {s:Sn} {l:List D} {S:D} {κ:Kn} {m:Nat}
noncomputable abbrev jmS (s:Sn) (l:List D) (S:D) (κ:Kn) (a b c d e g:Option AV):Mini.Sg:=[vl (.tuple (.str s.str::l)),vl S,vl (dK κ),a,b,c,d,e,g]
noncomputable def PartR (Fs:Fns) (fuel m:Nat) (s:Sn) (p:D) (w:Nat) (q:List D×Kn) (R:List (List D×Kn)):Prop :=
 (∃ i f,p=.tuple [.str "open", .int i]/\run Fs glo fuel m "open_met" [.str s.str,.int i,.list q.1,.int w,dK q.2]=some (.list (R.map prK),f)) \/
 (∃ x r f,p=.tuple (.str x::r)/\okd (.str x)=true/\(x == "open")=false/\run Fs glo fuel m "part_met" [p,.list q.1,dK q.2]=some (.list (R.map prK),f))
theorem xq5 {a:Option AV} {p:D} {w j:Nat} {q:List D×Kn} {acc R:List (List D×Kn)} (hw:l.length=j+w) (h:PartR Fs fuel m s p w q R) (hz:acc.length+R.length<size) :
  ex (Ga Fs fuel m) xj3 (jmS s l S κ a (vl (.int j)) (vl p) (ow (.list (acc.map prK))) (vl (.list q.1)) (vl (dK q.2)))=some (.next (jmS s l S κ a (vl (.int j)) (vl p) (ow (.list ((acc++R).map prK))) (vl (.list q.1)) (vl (dK q.2)))):=by
 have hz':(acc.map prK).length+(R.map prK).length<size:=by simpa using hz
 rcases h with ⟨i,f,rfl,e⟩|⟨x,r,f,rfl,h1,h2,e⟩
 ·have ew:((l.length:Int)+1 - 1 - (j:Int))=(w:Int):=by rw [Int.add_sub_cancel,hw]; exact Int.sub_eq_iff_eq_add'.mpr rfl
  rw [xj3,zz0 (σ':=jmS s l S κ a (vl (.int j)) (vl (.tuple [.str "open", .int i])) (ow (.list ((acc++R).map prK))) (vl (.list q.1)) (vl (dK q.2)))]
  ·rfl
  rw [zz2,show uno (.cmp .Eq (.idx (.var 5) (.cint 0)) (.cstr "open")) (ev (Ga Fs fuel m) (.cmp .Eq (.idx (.var 5) (.cint 0)) (.cstr "open"))) (jmS s l S κ a (vl (.int j)) (vl (.tuple [.str "open", .int i])) (ow (.list (acc.map prK))) (vl (.list q.1)) (vl (dK q.2)))=some (.bool true,jmS s l S κ a (vl (.int j)) (vl (.tuple [.str "open", .int i])) (ow (.list (acc.map prK))) (vl (.list q.1)) (vl (dK q.2))) by
   simp [c_eq,eqD,↓zx1,zv6,zy0]]
  show ex _ (.cons xz0 .nil) _=_
  rw [zz0 (σ':=jmS s l S κ a (vl (.int j)) (vl (.tuple [.str "open", .int i])) (ow (.list ((acc++R).map prK))) (vl (.list q.1)) (vl (dK q.2)))]
  ·rfl
  rw [xz0]
  have ew2:((l.length:Int) - (j:Int))=(w:Int):=by bv_omega
  simp [wo6,zp5,zle2,zex1,↓zx1,↓zq0,ew2,e,hz]
 ·rw [xj3,zz0 (σ':=jmS s l S κ a (vl (.int j)) (vl (.tuple (.str x::r))) (ow (.list ((acc++R).map prK))) (vl (.list q.1)) (vl (dK q.2)))]
  ·rfl
  rw [zz2,show uno (.cmp .Eq (.idx (.var 5) (.cint 0)) (.cstr "open")) (ev (Ga Fs fuel m) (.cmp .Eq (.idx (.var 5) (.cint 0)) (.cstr "open"))) (jmS s l S κ a (vl (.int j)) (vl (.tuple (.str x::r))) (ow (.list (acc.map prK))) (vl (.list q.1)) (vl (dK q.2)))=some (.bool false,jmS s l S κ a (vl (.int j)) (vl (.tuple (.str x::r))) (ow (.list (acc.map prK))) (vl (.list q.1)) (vl (dK q.2))) by
   simp [c_eq,eqD,↓zx1,zv6,zy0,h1,h2]]
  show ex _ (.cons ya9 .nil) _=_
  rw [zz0 (σ':=jmS s l S κ a (vl (.int j)) (vl (.tuple (.str x::r))) (ow (.list ((acc++R).map prK))) (vl (.list q.1)) (vl (dK q.2)))]
  ·rfl
  rw [ya9]
  simp [zex1,e,hz]
theorem wp9 {q:List D×Kn} {v0 v1 v2 v3 v4 v5 v6 v7 v8:Option AV}:yx0 [7,8] (prK q) [v0,v1,v2,v3,v4,v5,v6,v7,v8]=some [v0,v1,v2,v3,v4,v5,v6,vl (.list q.1),vl (dK q.2)]:=by
 rfl
noncomputable def jmc:D->Bool
 | .tuple [.list t,_]=>t.isEmpty
 | _=>false
noncomputable def jmf:D->D
 | .tuple [_,y]=>y
 | y=>y
theorem jmc_ {q:List D×Kn}:jmc (prK q)=q.1.isEmpty:=rfl
theorem ya7 (h:Has Fs "join_met" ⟨3,9,zu1⟩) (hs:s≠.pair) {T:List D} (L:Lft s T T) (hlen:l.length<=20) (hne:∀ f,Cf f (.tuple (.str s.str::l))->∀ p∈l,1<=(parts s (fill f p)).length)
  (hn:(κ.map (·.1)).Nodup) (hz:(1+lvL l)^lvL T<size)
  (hp:∀ done p rest,l=done++p::rest->∀ q:List D×Kn,q.1.Sublist T->Ext (.tuple (.str s.str::T)) (.tuple (.str s.str::done)) κ q.2->∃ R,PartR Fs fuel m s p rest.length q R/\Stp s T p q.1 rest.length q.2 R) :
  ∃ K f,run Fs glo fuel (m+1) "join_met" [.tuple (.str s.str::l),.tuple (.str s.str::T),dK κ]=some (.list (K.map dK),f)/\Met (.tuple (.str s.str::l)) (.tuple (.str s.str::T)) κ K:=by
 have hpos:∀ x∈T,1<=lv x:=fun x hx=>(L.can x hx).lv_pos
 have body:∀ done p rest sts,l=done++p::rest->Sts s T l κ done sts->∀ (a c d e g:Option AV),(a=vl (.list (sts.map prK))\/a=ow (.list (sts.map prK))) ->
   ∃ acc c' d' e' g',ex (Ga Fs fuel m) ym5 (jmS s l (.tuple (.str s.str::T)) κ a (vl (.int ((done.length+1:Nat):Int))) c d e g)=some (.next (jmS s l (.tuple (.str s.str::T)) κ (vl (.list (acc.map prK))) (vl (.int ((done.length+1:Nat):Int))) c' d' e' g'))/\Sts s T l κ (done++[p]) acc:=by
  intro done p rest sts el hS a c d e g hx
  have hwl:l.length=(done.length+1)+rest.length:=by rw [el]; simp; bv_omega
  have htot:∀ qs acc,Acc s (.tuple (.str s.str::T)) p rest.length qs acc->qs.Sublist sts->acc.length<size:=fun qs acc A hsub=>by
   have a1:=A.size 1
   simp only [Nat.one_pow,yw6] at a1
   have a2:zu6 (fun q:List D×Kn=>(1+lv p)^lvL q.1) qs<=zu6 (fun q:List D×Kn=>(1+lv p)^lvL q.1) sts:=wv7 _ hsub
   have a3:=hS.size (1+lv p)
   have a4:1+lv p+lvL done<=1+lvL l:=by rw [el,zw8]; simp only [zs8]; rw [x9]; exact qZ (qt (zX (wk ..)) (qZ (qQ ..) _)) 1
   have a5:=j0 a4 (lvL T)
   exact ql (qt a1 (qt a2 (qt a3 a5))) hz
  have loop:=zs6 (bnd:=yx0 [7,8]) (body:=ex (Ga Fs fuel m) xj3) prK (fun qs σ=>∃ acc e' g',Acc s (.tuple (.str s.str::T)) p rest.length qs acc/\σ=jmS s l (.tuple (.str s.str::T)) κ (vl (.list (sts.map prK))) (vl (.int ((done.length+1:Nat):Int))) (vl p) (ow (.list (acc.map prK))) e' g') (L:=sts)
   (σ:=jmS s l (.tuple (.str s.str::T)) κ (vl (.list (sts.map prK))) (vl (.int ((done.length+1:Nat):Int))) (vl p) (ow (.list [])) e g) ⟨[],e,g,Acc.nil,rfl⟩ (by
    rintro qs q rq σ eq ⟨acc,e',g',A,rfl⟩
    have hq:q∈sts:=by exact mm eq
    obtain ⟨R,hR,hstp⟩:=hp done p rest el q (hS.sub q hq) (hS.ext q hq)
    have A':=A.snoc hstp
    have hzz:=htot (qs++[q]) (acc++R) A' (by rw [eq,show qs++q::rq=(qs++[q])++rq by simp]; exact List.sublist_append_left _ _)
    rw [z9] at hzz
    exact ⟨_,_,wp9,xq5 hwl hR hzz,acc++R,vl (.list q.1),vl (dK q.2),A',rfl⟩)
  obtain ⟨σ',eloop,acc,e',g',A,rfl⟩:=loop
  refine ⟨acc,vl p,vl (.list (acc.map prK)),e',g',?_,hS.next el A hne⟩
  have hidx:l[done.length]?=some p:=by rw [el]; simp
  have ei:((done.length:Int)+1).toNat=done.length+1:=by rfl
  have ei0:(0:Int)<=(done.length:Int)+1:=by exact Int.add_nonneg (Int.natCast_nonneg _) (by decide)
  rw [ym5,zz0 (σ':=jmS s l (.tuple (.str s.str::T)) κ a (vl (.int ((done.length+1:Nat):Int))) (vl p) d e g) (by simp [zix2,hidx,ei,ei0]),
   zz0 (σ':=jmS s l (.tuple (.str s.str::T)) κ a (vl (.int ((done.length+1:Nat):Int))) (vl p) (ow (.list [])) e g) (rfl),
   zz0 (by
    rw [zl4,show srcE (ev (Ga Fs fuel m) (.var 3)) (jmS s l (.tuple (.str s.str::T)) κ a (vl (.int ((done.length+1:Nat):Int))) (vl p) (ow (.list [])) e g)=some (sts.map prK,jmS s l (.tuple (.str s.str::T)) κ (vl (.list (sts.map prK))) (vl (.int ((done.length+1:Nat):Int))) (vl p) (ow (.list [])) e g) by rcases hx with rfl|rfl<;>rfl]
    exact eloop)]
  rfl
 have loop:=zs6 (bnd:=zn4 4) (body:=ex (Ga Fs fuel m) ym5) (fun k:Nat=>vy (1+(k:Int))) (fun dn σ=>∃ sts a b c d e g,Sts s T l κ (l.take dn.length) sts/\(a=vl (.list (sts.map prK))\/a=ow (.list (sts.map prK)))/\σ=jmS s l (.tuple (.str s.str::T)) κ a b c d e g) (L:=List.range l.length)
  (σ:=jmS s l (.tuple (.str s.str::T)) κ (ow (.list ([(T,κ)].map prK))) none none none none none) ⟨[(T,κ)],_,_,_,_,_,_,Sts.init hn,.inr rfl,rfl⟩ (by
   rintro dn k rest σ e ⟨sts,a,b,c,d,e',g,hS,hx,rfl⟩
   obtain ⟨ek,hlt⟩:=xx7 e
   rw [<- ek] at hS
   have hsp:l=l.take k++l[k]::l.drop (k+1):=by rw [<- uW hlt,List.take_append_drop]
   have hkl:(l.take k).length=k:=by simp; exact vX (zq hlt)
   obtain ⟨acc,c2,d2,e2,g2,eb,hS'⟩:=body _ _ _ sts hsp hS a c d e' g hx
   rw [hkl] at eb
   have ht:l.take (dn++[k]).length=l.take k++[l[k]]:=by
    rw [z9,<- ek,List.length_singleton,List.take_add_one,qJ hlt]; rfl
   have ei:(1+(k:Int))=((k+1:Nat):Int):=by bv_omega
   refine ⟨_,_,by rw [ei]; rfl,eb,acc,vl (.list (acc.map prK)),vl (.int ((k+1:Nat):Int)),c2,d2,e2,g2,ht▸hS',.inl rfl,rfl⟩)
 obtain ⟨σ',eloop,sts,a,b,c,d,e,g,hS,hx,rfl⟩:=loop
 rw [List.length_range,List.take_length] at hS
 have hstl:sts.length<size:=by
  have a1:=hS.size 1
  simp only [Nat.one_pow,yw6] at a1
  exact ql a1 hz
 have hM:=hS.met hs L.can L.srt
 refine ⟨_,true,zz4 h rfl ?_,hM⟩
 show ex (Ga Fs fuel m) zu1 (jmS s l (.tuple (.str s.str::T)) κ none none none none none none)=_
 have hcomp:=zn0 (n:=9) (bc:=tupN 2) (cond:=zs7 (.cmp .Eq (.var 9) (.lst .nil)) (ev (Ga Fs fuel m) (.cmp .Eq (.var 9) (.lst .nil)))) (elt:=ev (Ga Fs fuel m) (.var 10)) (σ:=jmS s l (.tuple (.str s.str::T)) κ (vl (.list (sts.map prK))) b c d e g)
  (c:=jmc) (F:=jmf) rfl (ds:=sts.map prK) fun x hx=>by
   obtain ⟨q,hq,rfl⟩:=zy.mp hx
   have hok:okd (.list q.1)=true:=xl2 (fun y hy=>L.can y ((hS.sub q hq).subset hy)) (by bv_omega)
   refine ⟨[.list q.1,dK q.2],rfl,?_,fun _=>⟨false,rfl⟩⟩
   simp [c_eq,eqD,↓mkL0,cE_c,hok,zn8,zj5,jmc_]
 have hmap:((sts.map prK).filter jmc).map jmf=((sts.filter fun q=>q.1.isEmpty).map (·.2)).map dK:=by
  rw [List.filter_map,yV,yV]
  rfl
 have hKl:(((sts.filter fun q=>q.1.isEmpty).map (·.2)).map dK).length<=size:=by
  rw [xw,xw]
  have:=List.length_filter_le (fun q:List D×Kn=>q.1.isEmpty) sts
  exact qt this (zq hstl)
 have hlast:ex (Ga Fs fuel m) (.ret xz1) (jmS s l (.tuple (.str s.str::T)) κ a b c d e g)=some (.ret (.list (((sts.filter fun q=>q.1.isEmpty).map (·.2)).map dK)) true):=by
  rw [zb6,xz1,xz9,show srcE (ev (Ga Fs fuel m) (.var 3)) (jmS s l (.tuple (.str s.str::T)) κ a b c d e g)=some (sts.map prK,jmS s l (.tuple (.str s.str::T)) κ (vl (.list (sts.map prK))) b c d e g) by rcases hx with rfl|rfl<;>rfl]
  show (((zq9 9 (tupN 2) _ _ _ _).bind _).bind _)=_
  rw [hcomp,hmap]
  simp only [vJ,mkL,hKl,if_true]
 have hsz:zz9 ((l.length:Int)+1)=true:=by simp only [zz9,decide_eq_true_eq]; exact na63 (zJ hlen)
 have hsz2:l.length<=size:=by unfold size; exact qy hlen
 have hTl:1<=((T.length:Int)+1):=by bv_omega
 rw [zu1,zz0 (σ':=jmS s l (.tuple (.str s.str::T)) κ none none none none none none) (by rw [xz2]; simp [c_ne,eqD,↓zx1,zt1,zy0]),
  zz0 (σ':=jmS s l (.tuple (.str s.str::T)) κ (ow (.list ([(T,κ)].map prK))) none none none none none) (by simp [zu3,↓mkT2,↓mkL1,xd4,zse2,bE_o,bE_c,zsl2,bD_,orS,hTl]),
  zz0 (by
   rw [zy4,show srcE (ev (Ga Fs fuel m) (.rng (.cint 1) (.prim1 .len (.var 0)))) (jmS s l (.tuple (.str s.str::T)) κ (ow (.list ([(T,κ)].map prK))) none none none none none)=some ((List.range l.length).map fun k:Nat=>vy (1+(k:Int)),jmS s l (.tuple (.str s.str::T)) κ (ow (.list ([(T,κ)].map prK))) none none none none none) by
    have e1:((l.length:Int)+1 - 1).toNat=l.length:=by rw [Int.add_sub_cancel]; rfl
    have e2:zz9 1=true:=by decide
    simp [zp5,zle2,zai,zit1,hsz,e2,hsz2,zt6]]
   exact eloop),
  zz5 hlast]
end
end Pl
end
section
namespace Pl
open Mini PySem
variable {Fs:Fns} {fuel:Nat}
noncomputable def ym1:I:=(.cons (.ret (.call "join_met" (.cons (.var 0) (.cons (.var 1) (.cons (.var 2) .nil))))) .nil)
noncomputable def yx7:I:=(.cons (.iff (.cmp .In (.idx (.var 0) (.cint 1)) (.var 2)) (.cons (.ret (.ite (.cmp .Eq (.idx (.var 2) (.idx (.var 0) (.cint 1))) (.var 1)) (.lst (.cons (.var 2) .nil)) (.lst .nil))) .nil) .nil) (.cons (.asg 3 (.prim1 .dict (.var 2))) (.cons (.sto 3 (.idx (.var 0) (.cint 1)) (.var 1)) (.cons (.ret (.lst (.cons (.var 3) .nil))) .nil))))
noncomputable def zc9:I:=(.iff (.or (.cons (.cmp .Eq (.idx (.var 0) (.cint 0)) (.cstr "name")) (.cons (.cmp .NotEq (.idx (.var 1) (.cint 0)) (.cstr "pair")) .nil))) (.cons (.ret (.ite (.cmp .Eq (.var 0) (.var 1)) (.lst (.cons (.var 2) .nil)) (.lst .nil))) .nil) .nil)
noncomputable def xk3:I:=(.cons (.ext 4 (.call "met" (.cons (.idx (.var 0) (.cint 2)) (.cons (.idx (.var 1) (.cint 2)) (.cons (.var 5) .nil))))) .nil)
noncomputable def ym0:I:=(.cons (.asg 4 (.lst .nil)) (.cons (.for1 5 (.call "met" (.cons (.idx (.var 0) (.cint 1)) (.cons (.idx (.var 1) (.cint 1)) (.cons (.var 2) .nil)))) xk3) (.cons (.ret (.var 4)) .nil)))
noncomputable def zp2:I:=(.cons (.iff (.cmp .In (.idx (.var 0) (.cint 0)) (.glob "JOINS")) ym1 .nil) (.cons (.iff (.cmp .Eq (.idx (.var 0) (.cint 0)) (.cstr "open")) yx7 .nil) (.cons zc9 ym0)))
noncomputable abbrev mtS (P S:D) (κ:Kn) (a b c:Option AV):Mini.Sg:=[vl P,vl S,vl (dK κ),a,b,c]
theorem zd4 {x:Str} (h:okd (.str x)=true) (h1:(("sum" : Str)==x)=false) (h2:(("mul" : Str)==x)=false):inD (.str x) (.tuple [.str "sum", .str "mul"])=some false:=by
 simp [zin2,h,ze6,ze7,zy0,h1,h2]
theorem Can.head {k:Nat} {d:D} (h:Can k d):∃ x r,d=.tuple (.str x::r)/\Mini.okd (.str x)=true:=h.shp.head
section
variable {S:D} {κ:Kn} {m:Nat} {i:Int}
theorem yb7 (h:Has Fs "met" ⟨3,6,zp2⟩) (hS:Can 7 S) (K:Knw κ) (hκ:κ.length<size) :
  ∃ R f,run Fs glo fuel (m+1) "met" [.tuple [.str "open", .int i],S,dK κ]=some (.list (R.map dK),f)/\Met (.tuple [.str "open", .int i]) S κ R:=by
 have e1:lv (.tuple [.str "open", .int i])=1:=rfl
 have hno:=zd4 zv6 zk5 zk8
 have hpre:∀ (d:D) (fl:Bool),ex (Ga Fs fuel m) yx7 (mtS (.tuple [.str "open", .int i]) S κ none none none)=some (.ret d fl)->ex (Ga Fs fuel m) zp2 (mtS (.tuple [.str "open", .int i]) S κ none none none)=some (.ret d fl):=fun d fl ho=>by
  rw [zp2,zz0 (σ':=mtS (.tuple [.str "open", .int i]) S κ none none none) (by simp [c_in,↓zx1,zs5,hno])]
  refine zz5 ?_
  rw [zz2,show uno (.cmp .Eq (.idx (.var 0) (.cint 0)) (.cstr "open")) (ev (Ga Fs fuel m) (.cmp .Eq (.idx (.var 0) (.cint 0)) (.cstr "open"))) (mtS (.tuple [.str "open", .int i]) S κ none none none)=some (.bool true,mtS (.tuple [.str "open", .int i]) S κ none none none) by simp [c_eq,eqD,↓zx1,zv6,zy0]]
  exact ho
 cases hk:lk κ i with
 | some v =>
  have hm:=xv7 hk
  have hv:=K.can _ hm
  have ov:=hv.okd (by bv_omega)
  have oS:=hS.okd (by bv_omega)
  have hc:ev (Ga Fs fuel m) (.ite (.cmp .Eq (.idx (.var 2) (.idx (.var 0) (.cint 1))) (.var 1)) (.lst (.cons (.var 2) .nil)) (.lst .nil)) (mtS (.tuple [.str "open", .int i]) S κ none none none)=some (.list ((if qX v S then [κ] else []).map dK),true,mtS (.tuple [.str "open", .int i]) S κ none none none):=by
   cases he:qX v S<;>simp [c_eq,eqD,↓mkL0,↓mkL1,↓zq0,zix3,zt8,zm4,hk,ov,oS,he]
  refine ⟨if qX v S then [κ] else [],true,zz4 h rfl (hpre _ _ ?_),?_⟩
  ·rw [yx7]
   refine zz5 ?_
   rw [zz2,show uno (.cmp .In (.idx (.var 0) (.cint 1)) (.var 2)) (ev (Ga Fs fuel m) (.cmp .In (.idx (.var 0) (.cint 1)) (.var 2))) (mtS (.tuple [.str "open", .int i]) S κ none none none)=some (.bool true,mtS (.tuple [.str "open", .int i]) S κ none none none) by simp [c_in,↓zq0,xu2,hk]]
   show ex _ (.cons (.ret _) .nil) _=_
   exact zz5 (by rw [zb6,hc]; rfl)
  ·have hq:=zx0 hv.plain hS.plain
   by_cases he:qX v S=true
   ·rw [if_pos he]
    have hvS:=hq.mp he
    refine ⟨fun κ' hκ'=>?_,fun κ' hκ' f ha=>?_,fun f ha _ _=>⟨κ,by simp,ha⟩,by rw [e1]; simp⟩
    ·simp at hκ'; subst hκ'; exact Ext.old K.nod hk
    ·simp at hκ'; subst hκ'; rw [zu2,ha _ hm]; exact hvS
   ·rw [if_neg he]
    refine ⟨by simp,by simp,fun f ha _ e=>absurd (hq.mpr ?_) he,wx _⟩
    rw [zu2] at e; rw [<- e]; exact (ha _ hm).symm
 | none =>
  refine ⟨[κ++[(i,S)]],true,zz4 h rfl (hpre _ _ ?_),?_⟩
  ·have hkk:=zb2 κ i
   rw [yx7,zz0 (σ':=mtS (.tuple [.str "open", .int i]) S κ none none none) (by simp [c_in,↓zq0,xu2,hk]),
    zz0 (σ':=mtS (.tuple [.str "open", .int i]) S κ (ow (dK κ)) none none) (by simp [wl0,wm4,zco,yt0]),
    zz0 (σ':=mtS (.tuple [.str "open", .int i]) S κ (ow (dK (κ++[(i,S)]))) none none) (by simp [↓zq0,hkk,hκ,yl2 κ _ hk])]
   exact zz5 (rfl)
  ·refine ⟨fun κ' hκ'=>?_,fun κ' hκ' f ha=>?_,fun f ha _ e=>⟨κ++[(i,S)],by simp,ha.snoc (by rw [<- e,zu2])⟩,by rw [e1]; simp⟩
   ·simp at hκ'; subst hκ'; exact Ext.new K.nod hk (.self S)
   ·simp at hκ'; subst hκ'; rw [zu2]; exact ha (i,S) (mr mh)
theorem yb8 (h:Has Fs "met" ⟨3,6,zp2⟩) (hS:Can 7 S) (K:Knw κ) :
  ∃ R f,run Fs glo fuel (m+1) "met" [.tuple [.str "name", .int i],S,dK κ]=some (.list (R.map dK),f)/\Met (.tuple [.str "name", .int i]) S κ R:=by
 have e1:lv (.tuple [.str "name", .int i])=1:=rfl
 have hno:=zd4 zu7 zk6 zk9
 have oS:=hS.okd (by bv_omega)
 have hP:Can 7 (.tuple [.str "name", .int i]):=.leaf 6 false i
 have oP:=hP.okd (by bv_omega)
 have hc:ev (Ga Fs fuel m) (.ite (.cmp .Eq (.var 0) (.var 1)) (.lst (.cons (.var 2) .nil)) (.lst .nil)) (mtS (.tuple [.str "name", .int i]) S κ none none none)=some (.list ((if qX (.tuple [.str "name", .int i]) S then [κ] else []).map dK),true,mtS (.tuple [.str "name", .int i]) S κ none none none):=by
  cases he:qX (.tuple [.str "name", .int i]) S<;>simp [c_eq,eqD,↓mkL0,↓mkL1,oP,oS,he]
 refine ⟨if qX (.tuple [.str "name", .int i]) S then [κ] else [],true,zz4 h rfl ?_,?_⟩
 ·show ex (Ga Fs fuel m) zp2 (mtS (.tuple [.str "name", .int i]) S κ none none none)=_
  rw [zp2,zz0 (σ':=mtS (.tuple [.str "name", .int i]) S κ none none none) (by simp [c_in,↓zx1,zs5,hno]),
   zz0 (σ':=mtS (.tuple [.str "name", .int i]) S κ none none none) (by simp [c_eq,eqD,↓zx1,zv6,zu7,zy0,zi7])]
  refine zz5 ?_
  rw [zc9,zz2,show uno (.or (.cons (.cmp .Eq (.idx (.var 0) (.cint 0)) (.cstr "name")) (.cons (.cmp .NotEq (.idx (.var 1) (.cint 0)) (.cstr "pair")) .nil))) (ev (Ga Fs fuel m) (.or (.cons (.cmp .Eq (.idx (.var 0) (.cint 0)) (.cstr "name")) (.cons (.cmp .NotEq (.idx (.var 1) (.cint 0)) (.cstr "pair")) .nil)))) (mtS (.tuple [.str "name", .int i]) S κ none none none)=some (.bool true,mtS (.tuple [.str "name", .int i]) S κ none none none) by simp [c_eq,eqD,↓zx1,zu7,zy0]]
  show ex _ (.cons (.ret _) .nil) _=_
  exact zz5 (by rw [zb6,hc]; rfl)
 ·have hq:=zx0 hP.plain hS.plain
  by_cases he:qX (.tuple [.str "name", .int i]) S=true
  ·rw [if_pos he]
   have hvS:=hq.mp he
   refine ⟨fun κ' hκ'=>?_,fun κ' hκ' f ha=>?_,fun f ha _ _=>⟨κ,by simp,ha⟩,by rw [e1]; simp⟩
   ·simp at hκ'; subst hκ'
    refine ⟨fun x h=>h,K.nod,fun x h=>.inl h,fun j hj=>?_,by bv_omega⟩
    generalize hd:(wV [.str "name", .int i])=d at hj
    cases hj with
    | self=>simp at hd; exact absurd hd.1 (by decide)
    | @part x s l hx hy=>simp at hd; exact absurd hd.1 (zx8 false s)
   ·rw [zh4]; exact hvS
  ·rw [if_neg he]
   refine ⟨by simp,by simp,fun f ha _ e=>absurd (hq.mpr ?_) he,wx _⟩
   rw [zh4] at e; exact e
end
section
variable {a b Sa Sb:D} {κ:Kn} {m:Nat}
structure Pra (b Sb:D) (done acc:List Kn):Prop where
 back:∀ κ''∈acc,∃ κ'∈done,Ext Sb b κ' κ''/\∀ f,Ag f κ''->fill f b=Sb
 forth:∀ κ'∈done,∀ f,Ag f κ'->Cf f b->fill f b=Sb->∃ κ''∈acc,Ag f κ''
 size:acc.length<=done.length*lv b^lv Sb
theorem Pra.snoc {b Sb:D} {done acc K:List Kn} {κ':Kn} (h:Pra b Sb done acc) (M:Met b Sb κ' K):Pra b Sb (done++[κ']) (acc++K):=by
 refine ⟨fun k hk=>?_,fun k hk f ha hc e=>?_,?_⟩
 ·rcases qW.mp hk with hk|hk
  ·refine elEA (h.back k hk) fun k0 h0 e=>?_; exact ⟨k0,by simp [h0],e⟩
  ·exact ⟨κ',by simp,M.ext k hk,M.sound k hk⟩
 ·rcases qW.mp hk with hk|hk
  ·refine elEA (h.forth k hk f ha hc e) fun k0 h0 e=>?_; exact ⟨k0,by simp [h0],e⟩
  ·simp at hk; subst hk
   refine elEA (M.compl f ha hc e) fun k0 h0 e=>?_; exact ⟨k0,by simp [h0],e⟩
 ·have:=h.size
  have:=M.size
  simp only [z9,List.length_singleton,Nat.add_mul,Nat.one_mul]
  exact qa h.size M.size
theorem ze9 (a b:D):lv (.tuple [.str "pair", a,b])=lv a+lv b:=by simp [lv_s,lv_t,zm6,zs8]
theorem xv0 {i:Int} {a b:D} (h:Opn i (.tuple [.str "pair", a,b])):Opn i a\/Opn i b:=by
 refine elEA (zc6 (s:=.pair) h) fun p hp ho=>?_
 simp at hp
 rcases hp with rfl|rfl
 ·exact .inl ho
 ·exact .inr ho
theorem wl2 {i:Int} {a b:D} (h:Opn i a):Opn i (.tuple [.str "pair", a,b]):=.part (s:=.pair) (l:=[a,b]) mh h
theorem wl1 {i:Int} {a b:D} (h:Opn i b):Opn i (.tuple [.str "pair", a,b]):=.part (s:=.pair) (l:=[a,b]) (mt mh) h
theorem tri_l {v a b:D} (h:Tri a v):Tri (.tuple [.str "pair", a,b]) v:=.part (s:=.pair) (l:=[a,b]) mh h
theorem tri_r {v a b:D} (h:Tri b v):Tri (.tuple [.str "pair", a,b]) v:=.part (s:=.pair) (l:=[a,b]) (mt mh) h
theorem yq7 (a b m n:Nat):a^m*b^n<=(a+b)^(m+n):=by
 rw [Z4]
 exact Nat.mul_le_mul (j0 (by bv_omega) m) (j0 (by bv_omega) n)
theorem Pra.met {Ka acc:List Kn} (M:Met a Sa κ Ka) (h:Pra b Sb Ka acc):Met (.tuple [.str "pair", a,b]) (.tuple [.str "pair", Sa,Sb]) κ acc:=by
 refine ⟨fun k hk=>?_,fun k hk f ha=>?_,fun f ha hc e=>?_,?_⟩
 ·refine elEAA (h.back k hk) fun k0 h0 e2 _=>?_
  have e1:=M.ext k0 h0
  refine ⟨fun x hx=>e2.sub x (e1.sub x hx),e2.nod,fun x hx=>?_,fun i hi=>?_,?_⟩
  ·rcases e2.val x hx with q|q
   ·exact (e1.val x q).imp id tri_l
   ·exact .inr (tri_r q)
  ·rcases xv0 hi with q|q
   ·obtain ⟨v,hv⟩:=e1.dom i q; exact ⟨v,e2.sub _ hv⟩
   ·exact e2.dom i q
  ·have:=e1.len
   have:=e2.len
   rw [ze9]; exact qt e2.len (qt (xv e1.len _) (zX (x9 ..)))
 ·refine elEAA (h.back k hk) fun k0 h0 e2 e3=>?_
  rw [zo7,M.sound k0 h0 f (ha.sub e2.sub),e3 f ha]
 ·rw [zo7] at e
  have e:fill f a=Sa/\fill f b=Sb:=by simpa using e
  refine elEA (M.compl f ha (fun i hi=>hc i (wl2 hi)) e.1) fun k0 h0 h1=>?_
  exact h.forth k0 h0 f h1 (fun i hi=>hc i (wl1 hi)) e.2
 ·rw [ze9,ze9]
  refine qw h.size (qw (yw _ M.size) (yq7 _ _ _ _))
theorem yy1 {S:D} (hno:True):ex (Ga Fs fuel m) zp2 (mtS (.tuple [.str "pair", a,b]) S κ none none none)=ex (Ga Fs fuel m) (.cons zc9 ym0) (mtS (.tuple [.str "pair", a,b]) S κ none none none):=by
 have hno:=zd4 zw6 zk4 zk7
 rw [zp2,zz0 (σ':=mtS (.tuple [.str "pair", a,b]) S κ none none none) (by simp [c_in,↓zx1,zs5,hno]),
  zz0 (σ':=mtS (.tuple [.str "pair", a,b]) S κ none none none) (by simp [c_eq,eqD,↓zx1,zv6,zw6,zy0,yy0])]
theorem yb5 (h:Has Fs "met" ⟨3,6,zp2⟩) (hz:(1+(lv a+lv b))^(lv Sa+lv Sb)<size)
  (ha:∃ K f,run Fs glo fuel m "met" [a,Sa,dK κ]=some (.list (K.map dK),f)/\Met a Sa κ K)
  (hb:∀ κ',Ext Sa a κ κ'->∃ K f,run Fs glo fuel m "met" [b,Sb,dK κ']=some (.list (K.map dK),f)/\Met b Sb κ' K) :
  ∃ R f,run Fs glo fuel (m+1) "met" [.tuple [.str "pair", a,b],.tuple [.str "pair", Sa,Sb],dK κ]=some (.list (R.map dK),f)/\Met (.tuple [.str "pair", a,b]) (.tuple [.str "pair", Sa,Sb]) κ R:=by
 refine elEEA (ha) fun Ka fa ea Ma=>?_
 have htot:Ka.length*lv b^lv Sb<size:=by
  refine z7 (yw _ Ma.size) (z7 (yq7 _ _ _ _) (z7 (j0 ?_ _) hz))
  bv_omega
 have loop:=zs6 (bnd:=zn4 5) (body:=ex (Ga Fs fuel m) xk3) dK (fun done σ=>∃ acc c,Pra b Sb done acc/\σ=mtS (.tuple [.str "pair", a,b]) (.tuple [.str "pair", Sa,Sb]) κ none (ow (.list (acc.map dK))) c) (L:=Ka)
  (σ:=mtS (.tuple [.str "pair", a,b]) (.tuple [.str "pair", Sa,Sb]) κ none (ow (.list [])) none) ⟨[],none,⟨by simp,by simp,by simp⟩,rfl⟩ (by
   rintro done κ' rest σ e ⟨acc,c,hA,rfl⟩
   refine elEEA (hb κ' (Ma.ext κ' (by exact mm e))) fun K fk ek M=>?_
   have hA':=hA.snoc M
   have hzz:acc.length+K.length<size:=by
    have a1:=hA'.size
    rw [z9] at a1
    refine z7 a1 (z7 (yw _ ?_) htot)
    rw [e]; simp
   refine ⟨_,_,rfl,?_,acc++K,vl (dK κ'),hA',rfl⟩
   rw [xk3,zz0 (σ':=mtS (.tuple [.str "pair", a,b]) (.tuple [.str "pair", Sa,Sb]) κ none (ow (.list ((acc++K).map dK))) (vl (dK κ'))) (by simp [zex1,↓zd2,ek,hzz])]
   rfl)
 (refine elEAEEA (loop) fun σ' eloop acc c hA e_5=>?_; subst e_5)
 refine ⟨acc,false,zz4 h rfl ?_,hA.met Ma⟩
 show ex (Ga Fs fuel m) zp2 (mtS (.tuple [.str "pair", a,b]) (.tuple [.str "pair", Sa,Sb]) κ none none none)=_
 rw [yy1 trivial,zz0 (σ':=mtS (.tuple [.str "pair", a,b]) (.tuple [.str "pair", Sa,Sb]) κ none none none) (by rw [zc9]; simp [c_eq,c_ne,eqD,↓zx1,zw6,zu7,zy0,zi6]),
  ym0,zz0 (σ':=mtS (.tuple [.str "pair", a,b]) (.tuple [.str "pair", Sa,Sb]) κ none (ow (.list [])) none) (rfl),
  zz0 (by
   rw [zy4,show srcE (ev (Ga Fs fuel m) (.call "met" (.cons (.idx (.var 0) (.cint 1)) (.cons (.idx (.var 1) (.cint 1)) (.cons (.var 2) .nil))))) (mtS (.tuple [.str "pair", a,b]) (.tuple [.str "pair", Sa,Sb]) κ none (ow (.list [])) none)=some (Ka.map dK,mtS (.tuple [.str "pair", a,b]) (.tuple [.str "pair", Sa,Sb]) κ none (ow (.list [])) none) by simp [↓zq0,zit1,ea]]
   exact eloop)]
 exact zz5 (by simp)
theorem yb6 (h:Has Fs "met" ⟨3,6,zp2⟩) {k:Nat} {S:D} (hP:Can k (.tuple [.str "pair", a,b])) (hk:k<=100) (hS:Can 7 S) (hno:∀ c d,S≠.tuple [.str "pair", c,d]) :
  ∃ R f,run Fs glo fuel (m+1) "met" [.tuple [.str "pair", a,b],S,dK κ]=some (.list (R.map dK),f)/\Met (.tuple [.str "pair", a,b]) S κ R:=by
 have oS:=hS.okd (by bv_omega)
 have oP:=hP.okd hk
 have hne:qX (.tuple [.str "pair", a,b]) S=false:=by
  rw [<- Z6]
  exact fun e=>hno a b ((zx0 hP.plain hS.plain).mp e).symm
 have hx:∃ x r,S=.tuple (.str x::r)/\okd (.str x)=true/\(x == "pair")=false:=by
  cases hS with
  | leaf k o n=>exact ⟨_,_,rfl,zg4 o,by simpa using zn9 o⟩
  | pair _ _=>exact absurd rfl (hno _ _)
  | join hs=>exact ⟨_,_,rfl,zt1 _,by simpa using zr0 hs⟩
 (refine elEEAA (hx) fun x r e_2 ox hxp=>?_; subst e_2)
 refine ⟨[],true,zz4 h rfl ?_,by simp,by simp,fun f _ _ e=>absurd (by rw [<- e,zo7]) (hno (fill f a) (fill f b)),wx _⟩
 show ex (Ga Fs fuel m) zp2 (mtS (.tuple [.str "pair", a,b]) (.tuple (.str x::r)) κ none none none)=_
 rw [yy1 trivial]
 refine zz5 ?_
 rw [zc9,zz2,show uno (.or (.cons (.cmp .Eq (.idx (.var 0) (.cint 0)) (.cstr "name")) (.cons (.cmp .NotEq (.idx (.var 1) (.cint 0)) (.cstr "pair")) .nil))) (ev (Ga Fs fuel m) (.or (.cons (.cmp .Eq (.idx (.var 0) (.cint 0)) (.cstr "name")) (.cons (.cmp .NotEq (.idx (.var 1) (.cint 0)) (.cstr "pair")) .nil)))) (mtS (.tuple [.str "pair", a,b]) (.tuple (.str x::r)) κ none none none)=some (.bool true,mtS (.tuple [.str "pair", a,b]) (.tuple (.str x::r)) κ none none none) by simp [c_eq,c_ne,eqD,↓zx1,zw6,zu7,zy0,zi6,ox,hxp]]
 show ex _ (.cons (.ret _) .nil) _=_
 refine zz5 ?_
 simp [c_eq,eqD,↓mkL0,oP,oS,hne]
end
end Pl
end
section
namespace Pl
open Mini PySem
variable {Fs:Fns} {fuel:Nat}
structure Hm (Fs:Fns):Prop where
 parts_in:Has Fs "parts_in" ⟨2,2,zx2⟩
 joined:Has Fs "joined" ⟨2,4,zu0⟩
 choices:Has Fs "choices" ⟨1,7,zr3⟩
 without:Has Fs "without" ⟨2,4,zu8⟩
 open_met:Has Fs "open_met" ⟨5,9,zw0⟩
 part_met:Has Fs "part_met" ⟨3,6,zo5⟩
 join_met:Has Fs "join_met" ⟨3,9,zu1⟩
 met:Has Fs "met" ⟨3,6,zp2⟩
theorem Ext.knw {S P:D} {κ κ':Kn} (h:Ext S P κ κ') (K:Knw κ) (hS:Can 7 S):Knw κ' :=
 ⟨h.nod,fun p hp=>(h.val p hp).elim (K.can p) fun t=>t.can hS⟩
theorem yx3 {a b m n:Nat} (h:a<=b) (h2:m<=n):(1+a)^m<=(1+b)^n :=
 qw (j0 (by bv_omega) m) (jy (by bv_omega) h2)
theorem yy2 {s:Sn} (hs:s≠.pair) {l:List D} {S:D} {κ:Kn} {m:Nat} {d:D} {f:Bool} (e:run Fs glo fuel m "join_met" [.tuple (.str s.str::l),S,dK κ]=some (d,f)) :
  ex (Ga Fs fuel m) zp2 (mtS (.tuple (.str s.str::l)) S κ none none none)=some (.ret d f):=by
 have hj:=xu1 hs
 rw [zp2]
 refine zz5 ?_
 rw [zz2,show uno (.cmp .In (.idx (.var 0) (.cint 0)) (.glob "JOINS")) (ev (Ga Fs fuel m) (.cmp .In (.idx (.var 0) (.cint 0)) (.glob "JOINS"))) (mtS (.tuple (.str s.str::l)) S κ none none none)=some (.bool true,mtS (.tuple (.str s.str::l)) S κ none none none) by simp [c_in,↓zx1,zs5,hj]]
 show ex _ ym1 _=_
 rw [ym1]
 refine zz5 ?_
 simp [e]
theorem ya8 (h:Has Fs "join_met" ⟨3,9,zu1⟩) {s:Sn} (hs:s≠.pair) {l:List D} {S:D} {κ:Kn} {m:Nat} (hS:Can 7 S) (hno:∀ T,S≠.tuple (.str s.str::T)) :
  run Fs glo fuel (m+1) "join_met" [.tuple (.str s.str::l),S,dK κ]=some (.list [],true):=by
 (refine elEEA (hS.head) fun x r e_2 ox=>?_; subst e_2)
 have hx:(x==s.str)=false:=by
  rw [<- Z6]; intro e; simp at e; subst e; exact hno r rfl
 refine zz4 h rfl ?_
 show ex (Ga Fs fuel m) zu1 (jmS s l (.tuple (.str x::r)) κ none none none none none none)=_
 rw [zu1]
 refine zz5 ?_
 rw [xz2]
 simp [zz1,c_ne,eqD,↓mkL0,↓zx1,zt1,ox,zy0,hx]
theorem xk2 (H:Hm Fs) {k:Nat} {P:D} (hP:Can k P):k<=100->∀ (n:Nat) (S:D) (κ:Kn),Can 7 S->Knw κ->κ.length+lv P<size->(1+lv P)^lv S<size ->
  ∃ K f,run Fs glo fuel (n+3*k+4) "met" [P,S,dK κ]=some (.list (K.map dK),f)/\Met P S κ K:=by
 induction hP with
 | leaf k o i =>
  intro _ n S κ hS K hκ hz
  cases o with
  | true=>exact yb7 (m:=n+3*(k+1)+3) H.met hS K (by exact qg hκ)
  | false=>exact yb8 (m:=n+3*(k+1)+3) H.met hS K
 | @pair k a b ha hb iha ihb =>
  intro hk n S κ hS K hκ hz
  have e:n+3*(k+1)+4=(n+2+3*k+4)+1:=by bv_omega
  rw [e]
  rw [ze9] at hκ hz
  by_cases hp:∃ c d,S=.tuple [.str "pair", c,d]
  ·(refine elEE (hp) fun c d e_2=>?_; subst e_2)
   have hcd':=(Can.cons (s:=.pair) (l:=[c,d]) hS).1
   have hcd:Can 7 c/\Can 7 d:=⟨hcd' c (j5 ..),hcd' d (xX _ (j5 ..))⟩
   rw [ze9] at hz
   refine yb5 H.met hz (iha (by bv_omega) (n+2) c κ hcd.1 K (by exact ql (qZ (qQ ..) _) hκ) (z7 (yx3 (by bv_omega) (by bv_omega)) hz)) fun κ' he=>?_
   have:=he.len
   exact ihb (by bv_omega) (n+2) d κ' hcd.2 (he.knw K hcd.1) (by exact ql (qt (xv this _) (zX (x9 ..))) hκ) (z7 (yx3 (by bv_omega) (by bv_omega)) hz)
  ·exact yb6 H.met (.pair ha hb) hk hS fun c d e=>hp ⟨c,d,e⟩
 | @join k s l hs h2 h20 hc hnon hsrt ih =>
  intro hk n S κ hS K hκ hz
  have e:n+3*(k+1)+4=(n+3*k+4+1)+1+1:=by bv_omega
  rw [e]
  rw [zi8] at hκ hz
  by_cases hp:∃ T,S=.tuple (.str s.str::T)
  ·obtain ⟨T,rfl⟩:=hp
   have hT:=hS.cons
   have L:Lft s T T:=⟨List.Sublist.refl _,hT.1,(hT.2.2.2 hs).1,(hT.2.2.2 hs).2,hT.2.2.1⟩
   rw [zi8] at hz
   have hne:∀ f,Cf f (.tuple (.str s.str::l))->∀ p∈l,1<=(parts s (fill f p)).length:=fun f hcf p hp=>by
    by_cases ho:∃ i,p=.tuple [.str "open", .int i]
    ·obtain ⟨i,rfl⟩:=ho
     obtain ⟨k',hcan⟩:=hcf i (.part hp (.self i))
     rw [zu2]; exact (hcan.parts_pos hs).1
    ·rw [yy4 (hc p hp) (hnon p hp) hs (fun i e=>ho ⟨i,e⟩) f]; simp
   obtain ⟨R,f,er,M⟩:=ya7 (m:=n+3*k+4+1) (fuel:=fuel) H.join_met hs L h20 hne K.nod hz (fun done p rest el q hq hext=>by
    have hpl:p∈l:=by exact mm el
    have Kq:=hext.knw K hS
    have hlen:=hext.len
    rw [zi8] at hlen
    have hll:lvL l=lvL done+(lv p+lvL rest):=by rw [el,zw8]; rfl
    have Lq:Lft s T q.1:=⟨hq,L.can,L.non,L.srt,L.len⟩
    by_cases ho:∃ i,p=.tuple [.str "open", .int i]
    ·obtain ⟨i,rfl⟩:=ho
     refine elEEA (yc8 (fuel:=fuel) H.parts_in H.joined H.choices H.open_met H.without hs Lq Kq (ql hlen (ql (qZ (qf (zX hll.symm)) _) hκ)) i rest.length (n+3*k+2)) fun R f er hR=>?_
     exact ⟨R,.inl ⟨i,f,rfl,er⟩,hR⟩
    ·have hpf:=yy4 (hc p hpl) (hnon p hpl) hs fun i e=>ho ⟨i,e⟩
     refine elEEA (yc6 (fuel:=fuel) (m:=n+3*k+4) H.part_met Lq (κ:=q.2) (p:=p) (z7 (yx3 (by exact qt (qQ ..) (qt (w7 ..) (zX hll.symm))) (zW _)) hz)
      (fun x hx=>ih p hpl (by bv_omega) n x q.2 (L.can x hx) Kq (ql (xv hlen _) (ql (qt (zX (x9 ..)) (qZ (qt (qZ (qQ ..) _) (zX hll.symm)) _)) hκ)) (z7 (yx3 (by exact qt (qQ ..) (qt (w7 ..) (zX hll.symm))) (wt9 hx)) hz)) hpf rest.length) fun R f er hR=>?_
     refine ⟨R,.inr ?_,hR⟩
     (refine elEEA ((hc p hpl).head) fun x r e_2 ox=>?_; subst e_2)
     refine ⟨x,r,f,rfl,ox,?_,er⟩
     rw [<- Z6]
     intro e
     simp at e; subst e
     exact (hc _ hpl).open_inv.elim fun i e=>ho ⟨i,e▸rfl⟩)
   exact ⟨R,f,zz4 H.met rfl (yy2 hs er),M⟩
  ·refine ⟨[],true,zz4 H.met rfl (yy2 hs (ya8 H.join_met hs hS fun T e=>hp ⟨T,e⟩)),by simp,by simp,fun f _ _ e=>absurd ⟨zx4 (fl s f l),?_⟩ hp,wx _⟩
   rw [<- e,zo8 f hs]
   simp [fl,List.flatMap_map]
end Pl
end
section
namespace Pl
open Mini PySem
variable {Fs:Fns} {fuel:Nat}
noncomputable def zr1:I:=(.cons (.asg 3 (.pop 2)) (.cons (.iff (.cmp .Eq (.idx (.var 3) (.cint 0)) (.cstr "open")) (.cons (.sto 1 (.idx (.var 3) (.cint 1)) (.cbool true)) .nil) (.cons (.iff (.cmp .NotEq (.idx (.var 3) (.cint 0)) (.cstr "name")) (.cons (.ext 2 (.slc (.var 3) (.cint 1) .omit)) .nil) .nil) .nil)) .nil))
noncomputable def zw9:I:=(.cons (.asg 1 .dct0) (.cons (.asg 2 (.lst (.cons (.var 0) .nil))) (.cons (.whl (.brw 2) zr1) (.cons (.ret (.prim1 .sorted (.brw 1))) .nil))))
noncomputable def opl:Tm->List Int
 | .leaf o n=>if o then [n] else []
 | .node _ a b=>opl a++opl b
theorem xm9 {o n}:opl (.leaf o n)=if o then [n] else []:=rfl
theorem yi3 {s a b}:opl (.node s a b)=opl a++opl b:=rfl
noncomputable def dk (ks:List Int):List (D×D):=ks.map fun k=>(.int k,.bool true)
noncomputable def addk (ks:List Int) (k:Int):List Int:=if k∈ks then ks else ks++[k]
theorem wq6 (ks:List Int) (k:Int):dput (dk ks) (.int k) (.bool true)=dk (addk ks k):=by
 induction ks with
 | nil=>rfl
 | cons x r ih =>
  simp only [dk,xz,xt4,zs0]
  by_cases e:x=k
  ·subst e; simp [addk]
  ·have e':(x==k)=false:=by simpa using e
   have e2:¬ k=x:=fun q=>e q.symm
   simp only [e',j6,if_false]
   simp only [dk] at ih
   rw [ih]
   unfold addk
   by_cases m:k∈r
   ·simp [m]
   ·simp [m,e2]
theorem xj2 (ks:List Int) (k:Int):zs3 (.int k) (dk ks)=true:=by
 simp [zs3,kk_i,dk]
set_option tactic.hygienic true in
theorem wz5 {ks:List Int} {k x:Int}:x∈addk ks k↔x∈ks\/x=k:=by
 unfold addk
 split
 ·rename_i h; constructor
  ·exact .inl
  ·rintro (q|rfl)
   ·exact q
   ·exact h
 ·simp
set_option tactic.hygienic true in
theorem xo0 {ks:List Int} {k:Int} (h:ks.Nodup):(addk ks k).Nodup:=by
 unfold addk
 split
 ·exact h
 ·rename_i hk
  rw [Q2]
  exact ⟨h,by simp,fun a ha b hb=>by simp at hb; subst hb; exact fun e=>hk (e▸ha)⟩
theorem wz6 (ks:List Int) (k:Int):(addk ks k).length<=ks.length+1:=by unfold addk; split<;>simp
theorem wt1 {m:Nat} (t0:D) (ks:List Int) (l:List D) (o:Bool) (k:Int) (x:Option AV) (hz:ks.length<10000) :
  ex (Ga Fs fuel m) zr1 [some (.val t0),some (.own (.dict (dk ks))),some (.own (.list (l++[enc (.leaf o k)]))),x]=some (.next [some (.val t0),some (.own (.dict (dk (if o then addk ks k else ks)))),some (.own (.list l)),some (.val (enc (.leaf o k)))]):=by
 have hz':(dk ks).length<size:=by simp [dk,size]; exact Q5 hz (by decide)
 cases o with
 | true=>simp [zr1,zo9,lstr,zz1,c_eq,eqD,↓zx1,↓zq0,zv6,zy0,xj2,hz',wq6]
 | false=>simp [zr1,zo9,lstr,zz1,c_eq,c_ne,eqD,↓zx1,zv6,zu7,zy0,zi7]
theorem wt0 {m:Nat} (t0:D) (ks:List Int) (l:List D) (s:Sn) (a b:Tm) (x:Option AV) (hz:l.length<10000) :
  ex (Ga Fs fuel m) zr1 [some (.val t0),some (.own (.dict (dk ks))),some (.own (.list (l++[enc (.node s a b)]))),x]=some (.next [some (.val t0),some (.own (.dict (dk ks))),some (.own (.list (l++[enc a,enc b]))),some (.val (enc (.node s a b)))]):=by
 have hz':l.length+2<size:=by unfold size; exact qx (zJ hz)
 cases s <;>
 simp [zr1,zl5,Sn.str,zu3,zz1,c_eq,c_ne,eqD,zex2,↓zx1,bE_o,bE_c,zsl2,bD_,zv6,zu7,ze6,ze7,zw6,zy0,zk5,zk6,zk8,zk9,yy0,zi6,hz']
theorem yc7 {m:Nat} (t0:D):∀ (f:Nat) (ts:List Tm) (ks:List Int) (x:Option AV),ks.Nodup->(ts.map nds).sum<f->ts.length+ks.length+(ts.map nds).sum<=5000 ->
  ∃ (ks':List Int) (y:Option AV),zp1 (uno (.brw 2) (ev (Ga Fs fuel m) (.brw 2))) (ex (Ga Fs fuel m) zr1) f [some (.val t0),some (.own (.dict (dk ks))),some (.own (.list (ts.reverse.map enc))),x] =
   some (.next [some (.val t0),some (.own (.dict (dk ks'))),some (.own (.list [])),y])/\ks'.Nodup/\(∀ k,k∈ks'↔k∈ks\/∃ t∈ts,k∈opl t)/\ks'.length<=ks.length+(ts.map num).sum
 | 0,_,_,_,_,h,_=>absurd h (Nat.not_lt_zero _)
 | f+1,[],ks,x,hn,_,_=>⟨ks,x,by
  rw [zl8 (d:=.list []) (σ':=[some (.val t0),some (.own (.dict (dk ks))),some (.own (.list [])),x])]
  ·simp [uno]
  ·rfl,hn,by simp,by simp⟩
 | f+1,t::r,ks,x,hn,hf,hz=>by
  have ht:uno (.brw 2) (ev (Ga Fs fuel m) (.brw 2)) [some (.val t0),some (.own (.dict (dk ks))),some (.own (.list (((t::r).reverse).map enc))),x]=some (.list (r.reverse.map enc++[enc t]),[some (.val t0),some (.own (.dict (dk ks))),some (.own (.list (r.reverse.map enc++[enc t]))),x]):=by
   simp [uno]
  have hd:zy2 (.list (r.reverse.map enc++[enc t]))=some true:=by simp [ztr2]
  cases t with
  | leaf o k =>
   have hal:=wz6 ks k
   obtain ⟨ks',y,ih,h1,h2,h3⟩:=yc7 t0 f r (if o then addk ks k else ks) (some (.val (enc (.leaf o k)))) (by cases o; exact hn; exact xo0 hn) (by simp [yb2] at hf; exact Nat.lt_of_add_lt_add_left (n:=1) (wk 1 f▸hf)) (by cases o<;>simp [yb2] at hz |-<;>bv_omega)
   refine ⟨ks',y,?_,h1,fun j=>?_,?_⟩
   ·rw [zs9 ht hd (wt1 t0 ks _ o k x (by simp at hz; bv_omega)),ih]
   ·rw [h2]
    cases o
    ·simp [xm9]
    ·simp only [if_true,wz5,z0,exists_eq_or_imp,xm9,jz,or_false,or_assoc]
   ·cases o<;>simp [yi8] at h3 |-<;>bv_omega
  | node s a b =>
   obtain ⟨ks',y,ih,h1,h2,h3⟩:=yc7 t0 f (b::a::r) ks (some (.val (enc (.node s a b)))) hn (by simp [yh2] at hf |-; exact nsw hf) (by simp [yh2] at hz |-; bv_omega)
   refine ⟨ks',y,?_,h1,fun j=>?_,?_⟩
   ·rw [zs9 ht hd (wt0 t0 ks _ s a b x (by simp at hz |-; bv_omega))]
    have e2:List.map enc (b::a::r).reverse=List.map enc r.reverse++[enc a,enc b]:=by simp
    rw [e2] at ih
    exact ih
   ·rw [h2]
    simp only [z0,exists_eq_or_imp,yi3,qW]
    constructor
    ·rintro (q|q|q|q)
     ·exact .inl q
     ·exact .inr (.inl (.inr q))
     ·exact .inr (.inl (.inl q))
     ·exact .inr (.inr q)
    ·rintro (q|(q|q)|q)
     ·exact .inl q
     ·exact .inr (.inr (.inl q))
     ·exact .inr (.inl q)
     ·exact .inr (.inr (.inr q))
   ·simp [ys9] at h3 |-; exact qt h3 (zX (by rw [Nat.add_left_comm (num b),<- x9 (num a)]))
theorem yy3 (ks:List Int):sortable (ks.map .int)=true:=by
 simp only [sortable,zj,xJ,Q0,zy,forall_exists_index,and_imp,forall_apply_eq_imp_iff₂]
 exact ⟨⟨⟨fun a _=>zx9 a,fun a _=>rfl⟩,.inl (.inl fun a _=>rfl)⟩,fun a _ b _=>rfl⟩
theorem wm1 (h:Has Fs "opens_within" ⟨1,4,zw9⟩) (n:Nat) {t:Tm} (hn:num t<=40) (hf:100<=fuel) :
  ∃ ks:List Int,ks.Nodup/\(∀ k,k∈ks↔k∈opl t)/\run Fs glo fuel (n+1) "opens_within" [enc t]=some (.list (zx4 (ks.map .int)),true):=by
 have hnd:=yb1 t
 refine elEEAAA (yc7 (Fs:=Fs) (fuel:=fuel) (m:=n) (enc t) fuel [t] [] none Qz (by simp; exact jQ (qt (zX hnd) (w5 2 hn)) (qt (by decide) hf)) (by simp; bv_omega)) fun ks y hl h1 h2 h3=>?_
 refine ⟨ks,h1,fun k=>by simpa using h2 k,?_⟩
 rw [zr7 h rfl]
 have hso:zi0 (ks.map .int)=some (.list (zx4 (ks.map .int)),true):=by
  have:ks.length<zc3:=yb3 (by simp at h3; exact qx (qt h3 hn))
  simp [zi0,yy3,this]
 have hdk:(dk ks).map (·.1)=ks.map .int:=by simp [dk]
 show (match ex (Ga Fs fuel n) (.cons _ _) [some (.val (enc t)),none,none,none] with|some (.ret d f)=>some (d,f)|some (.next _)=>some (.none,false)|none=>none)=_
 rw [zz0 (σ':=[some (.val (enc t)),some (.own (.dict [])),none,none]) (by simp),
  zz0 (σ':=[some (.val (enc t)),some (.own (.dict [])),some (.own (.list [enc t])),none]) (rfl),
  zz0 (σ':=[some (.val (enc t)),some (.own (.dict (dk ks))),some (.own (.list [])),y]) (by rw [eq_ex_whl]; simpa [dk] using hl)]
 simp [zz1,xm7,zso2,xm2,hdk,hso]
theorem int_list:∀ {l:List D} {ks:List Int},l.Perm (ks.map .int)->∃ ns:List Int,l=ns.map .int/\ns.Perm ks:=by
 intro l ks h
 have hall:∀ x∈l,∃ k:Int,x=.int k:=fun x hx=>by
  refine elEA (zy.mp (h.mem_iff.mp hx)) fun k _ e=>?_; exact ⟨k,e.symm⟩
 have:∃ ns:List Int,l=ns.map .int:=by
  clear h
  induction l with
  | nil=>exact ⟨[],rfl⟩
  | cons x r ih =>
   obtain ⟨k,rfl⟩:=hall x mh
   obtain ⟨ns,rfl⟩:=ih fun y hy=>hall y (mt hy)
   exact ⟨k::ns,rfl⟩
 obtain ⟨ns,rfl⟩:=this
 refine ⟨ns,rfl,?_⟩
 have e:∀ m:List Int,(m.map vy).map (fun d:D=>(PyData.casesOn (motive_1:=fun _=>Int) d 0 (fun _=>0) (fun i=>i) (fun _=>0) (fun _=>0) (fun _=>0) fun _=>0))=m:=fun m=>by rw [yV]; exact List.map_id m
 have h2:=h.map fun d:D=>(PyData.casesOn (motive_1:=fun _=>Int) d 0 (fun _=>0) (fun i=>i) (fun _=>0) (fun _=>0) (fun _=>0) fun _=>0)
 rwa [e,e] at h2
theorem xa9 (ks:List Int):Cmp (ks.map .int):=zn5 (yy3 ks)
theorem xx4 (h:Has Fs "opens_within" ⟨1,4,zw9⟩) (n:Nat) {t:Tm} (hn:num t<=40) (hf:100<=fuel) :
  ∃ ns:List Int,ns.Nodup/\ns.Pairwise (·<=·)/\(∀ k,k∈ns↔k∈opl t)/\run Fs glo fuel (n+1) "opens_within" [enc t]=some (.list (ns.map .int),true):=by
 refine elEAA (wm1 (fuel:=fuel) h n hn hf) fun ks h1 h2 e=>?_
 refine elEA (int_list (zz3 (ks.map .int))) fun ns e2 hp=>?_
 have hs:=zv7 (xa9 ks)
 rw [e2] at e hs
 refine ⟨ns,hp.nodup_iff.mpr h1,?_,fun k=>(hp.mem_iff).trans (h2 k),e⟩
 rw [List.pairwise_map] at hs
 exact hs.imp fun {a b} h=>by
  simp only [leD,zd0,ne_eq,uz,decide_eq_true_eq] at h; exact Int.not_lt.mp h
theorem wt2 (t:Tm):(opl t).length<=num t:=by
 induction t with
 | leaf o k=>cases o<;>simp [xm9,yi8]
 | node s a b iha ihb=>simp only [yi3,ys9,z9]; exact qa iha ihb
theorem yi2 {s:Sn} (hs:s≠.pair) {k:Nat} {d:D} (h:Shp k d) (i:Int):(∃ p∈parts s d,Opn i p)↔Opn i d:=by
 cases h with
 | leaf k o n=>rw [zo0]; simp
 | pair _ _=>rw [zm9 hs]; simp
 | @join k s' l hs' _ _ =>
  by_cases e:s'=s
  ·subst e
   rw [zv4]
   exact ⟨fun h=>elEA h fun p hp ho=>.part hp ho,zc6⟩
  ·rw [zo4 e]; simp
theorem yn6 (t:Tm) (i:Int):Opn i (shp t)↔i∈opl t:=by
 induction t with
 | leaf o k =>
  cases o with
  | true =>
   simp only [xm9]
   constructor
   ·intro h; have:=yn7 (i:=k) (j:=i) h; simp [this]
   ·intro h; simp at h; subst h; exact .self i
  | false =>
   simp only [xm9]
   constructor
   ·intro h
    generalize hd:shp (.leaf false k)=d at h
    cases h with
    | self=>simp [xr2,zo9,lstr] at hd; exact absurd hd.1 (by decide)
    | @part x s l hx hy=>simp [xr2,zo9] at hd; exact absurd hd.1 (zx8 false s)
   ·intro h; simp at h
 | node s a b iha ihb =>
  by_cases hs:s=.pair
  ·subst hs
   rw [zk2]
   constructor
   ·intro h
    simp only [yi3,qW]
    exact (xv0 h).imp iha.mp ihb.mp
   ·intro h
    simp only [yi3,qW] at h
    rcases h with h|h
    ·exact wl2 (iha.mpr h)
    ·exact wl1 (ihb.mpr h)
  ·rw [zs1 hs]
   simp only [yi3,qW,<- iha,<- ihb,<- yi2 hs (yq0 a) i,<- yi2 hs (yq0 b) i]
   constructor
   ·intro h
    refine elEA (zc6 h) fun p hp ho=>?_
    rcases qW.mp ((zz3 _).mem_iff.mp hp) with q|q
    ·exact .inl ⟨p,q,ho⟩
    ·exact .inr ⟨p,q,ho⟩
   ·rintro (⟨p,hp,ho⟩|⟨p,hp,ho⟩)
    ·exact .part ((zz3 _).mem_iff.mpr (jj _ hp)) ho
    ·exact .part ((zz3 _).mem_iff.mpr (List.mem_append_right _ hp)) ho
end Pl
end
section
namespace Pl
open Mini PySem
variable {Fs:Fns} {fuel:Nat}
theorem zw7:∀ (t:Tm),num t<=20->Can (num t) (shp t)/\lv (shp t)=num t
 | .leaf o k,_=>⟨.leaf 0 o k,rfl⟩
 | .node s a b,h=>by
  have pa:=zx6 a
  have pb:=zx6 b
  have hn:num (.node s a b)=num a+num b:=rfl
  obtain ⟨ca,la⟩:=zw7 a (by exact qf (hn▸h))
  obtain ⟨cb,lb⟩:=zw7 b (by exact qr (hn▸h))
  have e:num (.node s a b)=num a+num b - 1+1:=by rw [hn]; exact (nc1 pa).symm
  have ca':Can (num a+num b - 1) (shp a):=ca.mono (by exact nlb pb)
  have cb':Can (num a+num b - 1) (shp b):=cb.mono (by exact nla pa)
  by_cases hs:s=.pair
  ·subst hs
   rw [e,zk2,ze9,la,lb]
   exact ⟨.pair ca' cb',by exact (nc1 pa).symm⟩
  ·rw [zs1 hs,zi8,xv5 (zz3 _),zw8,zc4 hs ca,zc4 hs cb,la,lb]
   refine ⟨?_,rfl⟩
   rw [e]
   have hl:=(zz3 (parts s (shp a)++parts s (shp b))).length_eq
   rw [z9] at hl
   have h1:=ca.parts_pos hs
   have h2:=cb.parts_pos hs
   have h3:=zl0 hs a
   have h4:=zl0 hs b
   have hm:∀ x∈zx4 (parts s (shp a)++parts s (shp b)),x∈parts s (shp a)\/x∈parts s (shp b):=fun x hx=>qW.mp ((zz3 _).mem_iff.mp hx)
   have hcan:∀ x∈parts s (shp a)++parts s (shp b),Can (num a+num b - 1) x:=fun x hx=>(qW.mp hx).elim (ca'.parts_can hs x) (cb'.parts_can hs x)
   exact .join hs (by exact hl▸qa h1.1 h2.1) (by exact hl▸qt (qa h3 h4) (hn▸h)) (fun x hx=>hcan x ((zz3 _).mem_iff.mp hx)) (fun x hx=>(hm x hx).elim (ca.parts_non hs x) (cb.parts_non hs x)) (zv7 (zd8 hcan))
noncomputable def enR (d:D):D×D:=(d,.bool true)
noncomputable def radd:List D->D->List D
 | [],d=>[d]
 | p::r,d=>if qX p d then p::r else p::radd r d
theorem xm1 {d}:radd [] d=[d]:=rfl
theorem xx9 {p r d}:radd (p::r) d=if qX p d then p::r else p::radd r d:=rfl
theorem xt2 (d:D):∀ R:List D,dput (R.map enR) d (.bool true)=(radd R d).map enR
 | []=>rfl
 | p::r=>by
  simp only [xz,xt4,xx9,enR]
  split
  ·rfl
  ·rw [xz]; exact congrArg _ (xt2 d r)
set_option tactic.hygienic true in
theorem yn4 {d:D} (hd:zz8 d=true):∀ {R:List D},(∀ p∈R,zz8 p=true)->∀ x,x∈radd R d↔x∈R\/x=d
 | [],_,x=>by simp [xm1]
 | p::r,h,x=>by
  simp only [xx9]
  have ih:=yn4 hd (R:=r) (fun p hp=>h p (mt hp)) x
  split
  ·rename_i e
   have e:=(zx0 (h p mh) hd).mp e
   subst e
   simp only [z0]
   exact ⟨.inl,fun q=>q.elim id fun q=>.inl q⟩
  ·simp only [z0,ih,or_assoc]
set_option tactic.hygienic true in
theorem yq4 {d:D} (hd:zz8 d=true):∀ {R:List D},(∀ p∈R,zz8 p=true)->R.Nodup->(radd R d).Nodup
 | [],_,_=>by simp [xm1]
 | p::r,h,hn=>by
  simp only [xx9]
  simp only [vx] at hn
  split
  ·simp only [vx]; exact hn
  ·rename_i e
   simp only [vx]
   refine ⟨fun m=>?_,yq4 hd (fun p hp=>h p (mt hp)) hn.2⟩
   rcases (yn4 hd (fun p hp=>h p (mt hp)) p).mp m with q|q
   ·exact hn.1 q
   ·exact e ((zx0 (h p mh) hd).mpr q)
theorem xx8 (d:D):∀ R:List D,(radd R d).length<=R.length+1
 | []=>by simp [xm1]
 | p::r=>by have:=xx8 d r; simp only [xx9]; split<;>simp only [vZ]<;>bv_omega
theorem xc9 {d:D} (hd:tkey d=true) {R:List D} (h:∀ p∈R,tkey p=true):zs3 d (R.map enR)=true:=by
 have key:∀ x:D,tkey x=true->zq7 x=some 1:=fun x hx=>by
  cases x with
  | tuple l=>simp only [kk_t,hx,if_true]
  | _=>simp [tkey] at hx
 simp only [zs3,key d hd,Option.isSome_some,Q7,xJ,zy]
 rintro _ ⟨p,hp,rfl⟩
 simp [enR,key p (h p hp)]
theorem xq4 (R:List D):(R.map enR).map (·.1)=R:=by simp [enR,Function.comp_def]
noncomputable def zk3 (ns:List Int) (κ:Kn):List D:=ns.map fun i=>(lk κ i).getD .none
noncomputable def fn (ns:List Int) (r:List D):Int->D:=fun i=>(lk (ns.zip r) i).getD .none
theorem yg8:∀ {ns:List Int} {r:List D},ns.Nodup->r.length=ns.length->ns.map (fn ns r)=r
 | [],[],_,_=>rfl
 | n::ns,v::r,hn,hl=>by
  simp only [vx] at hn
  have e0:fn (n::ns) (v::r) n=v:=by simp [fn,lk]
  have e1:ns.map (fn (n::ns) (v::r))=ns.map (fn ns r):=yQ fun i hi=>by
   have:(n==i)=false:=by simp; rintro rfl; exact hn.1 hi
   simp [fn,lk,this]
  rw [xz,e0,e1,yg8 hn.2 (by simpa using hl)]
theorem ww3 {ns:List Int} {r:List D} (hn:ns.Nodup) (hl:r.length=ns.length) {i:Int} (hi:i∈ns):fn ns r i∈r:=by
 have:=yg8 hn hl
 rw [<- this]
 exact zy.mpr ⟨i,hi,by rw [this]⟩
theorem fn_row {ns:List Int} (hn:ns.Nodup) (κ:Kn) {i:Int} (hi:i∈ns):fn ns (zk3 ns κ) i=(lk κ i).getD .none:=by
 have:=yg8 hn (r:=zk3 ns κ) (by simp [zk3])
 simp only [zk3] at this |-
 exact List.map_inj_left.mp this i hi
noncomputable def Row (ns:List Int) (P S:D) (r:List D):Prop:=r.length=ns.length/\(∀ v∈r,Tri S v)/\fill (fn ns r) P=S
theorem yn2 {ns:List Int} {k:Nat} {P S:D} {K:List Kn} (hn:ns.Nodup) (hP:Can k P) (hS:Can 7 S) (ho:∀ i,i∈ns↔Opn i P) (M:Met P S [] K) (r:List D):(∃ κ∈K,r=zk3 ns κ)↔Row ns P S r:=by
 constructor
 ·rintro ⟨κ,hκ,rfl⟩
  have E:=M.ext κ hκ
  refine ⟨by simp [zk3],fun v hv=>?_,?_⟩
  ·(refine elEA (zy.mp hv) fun i hi e_2=>?_; subst e_2)
   obtain ⟨v,hv⟩:=E.dom i ((ho i).mp hi)
   rw [yh4 E.nod hv]
   exact (E.val _ hv).resolve_left (by simp)
  ·rw [<- M.sound κ hκ (fun i=>(lk κ i).getD .none) fun p hp=>by show (lk κ p.1).getD .none=p.2; rw [yh4 E.nod (i:=p.1) (v:=p.2) hp]; rfl]
   exact xp2 hP fun i hi=>fn_row hn κ ((ho i).mpr hi)
 ·rintro ⟨h1,h2,h3⟩
  refine elEA (M.compl (fn ns r) (by intro p hp; cases hp) (fun i hi=>⟨7,(h2 _ (ww3 hn h1 ((ho i).mpr hi))).can hS⟩) h3) fun κ hκ ha=>?_
  refine ⟨κ,hκ,?_⟩
  rw [<- yg8 hn h1]
  refine yQ fun i hi=>?_
  have E:=M.ext κ hκ
  obtain ⟨v,hv⟩:=E.dom i ((ho i).mp hi)
  rw [yh4 E.nod hv]
  exact ha _ hv
end Pl
end
section
namespace Pl
open Mini PySem
variable {Fs:Fns} {fuel:Nat}
noncomputable def xu4:I:=(.cons (.sto 3 (.prim1 .tuple (.comp1 (.idx (.var 4) (.var 10)) (.var 2) .omit)) (.cbool true)) .nil)
noncomputable def xi5:I:=(.cons (.sto 8 (.var 5) (.var 9)) .nil)
noncomputable def ym9:I:=(.cons (.asg 8 .dct0) (.cons (.fors [5,9] (.zip (.var 2) (.var 7)) xi5) (.cons (.app 6 (.var 8)) .nil)))
noncomputable def zv5:I:=(.cons (.asg 2 (.call "opens_within" (.cons (.var 0) .nil))) (.cons (.asg 3 .dct0) (.cons (.for1 4 (.call "met" (.cons (.call "shaped" (.cons (.var 0) .nil)) (.cons (.var 1) (.cons .dct0 .nil)))) xu4) (.cons (.asg 6 (.lst .nil)) (.cons (.for1 7 (.prim1 .sorted (.brw 3)) ym9) (.cons (.ret (.var 6)) .nil))))))
noncomputable abbrev foS (t S:D) (c d e f g h i j:Option AV):Mini.Sg:=[vl t,vl S,c,d,e,f,g,h,i,j]
theorem wo1 {i:Int} {v:D} {v0 v1 v2 v3 v4 v5 v6 v7 v8 v9:Option AV}:yx0 [5,9] (.tuple [.int i,v]) [v0,v1,v2,v3,v4,v5,v6,v7,v8,v9]=some [v0,v1,v2,v3,v4,vl (.int i),v6,v7,v8,vl v]:=by
 rfl
theorem xf3 (ns:List Int) (r:List D):zipL (ns.map .int) r=(ns.zip r).map fun p=>.tuple [.int p.1,p.2]:=by
 induction ns generalizing r with
 | nil=>simp [zipL]
 | cons n ns ih =>
  cases r with
  | nil=>simp [zipL]
  | cons v r=>simp only [zipL,xz,y9] at ih |-; rw [ih]
theorem lk_not {κ:Kn} {i:Int} (h:i∉κ.map (·.1)):lk κ i=none:=by
 cases e:lk κ i with
 | none=>rfl
 | some v=>exact absurd (zy.mpr ⟨_,xv7 e,rfl⟩) h
theorem xf1 {ns:List Int} {r:List D} (h:r.length=ns.length):(ns.zip r).map (·.1)=ns:=by
 exact List.map_fst_zip (l₁:=ns) (l₂:=r) (by exact zX h.symm)
theorem wv8 {Γ:Mini.Env} {σ σ':Mini.Sg} {k:Nat} {key:I} {kd:D} {f:Bool} {R:List D} (hk0:zm3 σ k=true) (hk:σ'[k]?=some (ow (.dict (R.map enR)))) (he:ev Γ key σ=some (kd,f,σ')) (hkk:zs3 kd (R.map enR)=true) (hz:R.length<size) :
  ex Γ (.sto k key (.cbool true)) σ=some (.next (σ'.set k (ow (.dict ((radd R kd).map enR))))):=by
 have ho:ownD σ' k=some (R.map enR):=(congrArg wu9 hk).trans oD_
 rw [wm5]
 show kst1 k (ev Γ key) (.bool true) σ (zm3 σ k)=_
 rw [hk0]
 show (ev Γ key σ).bind _=_
 rw [he]
 show (ownD σ' k).bind _=_
 rw [ho,<- xt2]
 exact if_pos (by rw [hkk,xw]; exact decide_eq_true hz)
theorem xa2 {Γ:Mini.Env} {σ σ':Mini.Sg} {a:I} {l:List D} {f:Bool} (hb:opn a (ev Γ a) σ=(ev Γ a σ).bind kdat) (h:ev Γ a σ=some (.list l,f,σ')):ev Γ (.prim1 .tuple a) σ=some (.tuple l,false,σ'):=by
 rw [wu6,wu5,hb,h]; rfl
section
variable {t S:D} {m:Nat} {ns:List Int}
theorem yg7 {r:List D} (hn:ns.Nodup) (hl:r.length=ns.length) (hz:ns.length<size) {acc:List D} (ha:acc.length+1<size) {c d e f i j:Option AV} (hcc:c=vl (.list (ns.map .int))\/c=ow (.list (ns.map .int))) :
  ∃ f' i' j',ex (Ga Fs fuel m) ym9 (foS t S c d e f (ow (.list acc)) (vl (.tuple r)) i j)=some (.next (foS t S (vl (.list (ns.map .int))) d e f' (ow (.list (acc++[dK (ns.zip r)]))) (vl (.tuple r)) i' j')):=by
 have hk:=xf1 hl
 have loop:=zs6 (bnd:=yx0 [5,9]) (body:=ex (Ga Fs fuel m) xi5) (fun p:Int×D=>.tuple [.int p.1,p.2]) (fun dn σ=>∃ f' j',σ=foS t S (vl (.list (ns.map .int))) d e f' (ow (.list acc)) (vl (.tuple r)) (ow (dK dn)) j') (L:=ns.zip r)
  (σ:=foS t S (vl (.list (ns.map .int))) d e f (ow (.list acc)) (vl (.tuple r)) (ow (dK [])) j) ⟨f,j,rfl⟩ (by
   rintro dn p rest σ el ⟨f',j',rfl⟩
   have hnot:lk dn p.1=none:=lk_not fun hm=>by
    rw [el,List.map_append,xz] at hk
    rw [<- hk,Q2] at hn
    exact hn.2.2 p.1 hm p.1 mh rfl
   have hlen:dn.length<size:=by
    have h1:=congrArg List.length el
    have h2:(ns.zip r).length=ns.length:=by rw [List.length_zip]; exact hl▸Nat.min_self _
    rw [h2] at h1; simp at h1; exact ql (qQ ..) (h1▸hz)
   refine ⟨_,_,wo1,?_,vl (.int p.1),vl p.2,rfl⟩
   have hkk:=zb2 dn p.1
   rw [xi5,zz0 (σ':=foS t S (vl (.list (ns.map .int))) d e (vl (.int p.1)) (ow (.list acc)) (vl (.tuple r)) (ow (dK (dn++[p]))) (vl p.2)) (by simp [hkk,hlen,yl2 dn p.2 hnot])]
   rfl)
 (refine elEAEE (loop) fun σ' eloop f' j' e_4=>?_; subst e_4)
 refine ⟨f',vl (dK (ns.zip r)),j',?_⟩
 rw [ym9,zz0 (σ':=foS t S c d e f (ow (.list acc)) (vl (.tuple r)) (ow (dK [])) j) (by simp),
  zz0 (by
   rw [zl4,show srcE (ev (Ga Fs fuel m) (.zip (.var 2) (.var 7))) (foS t S c d e f (ow (.list acc)) (vl (.tuple r)) (ow (dK [])) j)=some ((ns.zip r).map fun p:Int×D=>.tuple [.int p.1,p.2],foS t S (vl (.list (ns.map .int))) d e f (ow (.list acc)) (vl (.tuple r)) (ow (dK [])) j) by
    rcases hcc with rfl|rfl<;>simp [zal,zit1,xh1,zat,xf3]]
   exact eloop),
  zz0 (σ':=foS t S (vl (.list (ns.map .int))) d e f' (ow (.list (acc++[dK (ns.zip r)]))) (vl (.tuple r)) (vl (dK (ns.zip r))) j') (by simp [ha])]
 rfl
theorem xz7 {κ:Kn} (hd:∀ i∈ns,∃ v,lk κ i=some v) (hc:∀ v∈zk3 ns κ,Can 7 v) {R:List D} (hR:∀ p∈R,tkey p=true) (hz:R.length<size) (hnz:ns.length<=size) {c f g h i j:Option AV} (hcc:c=vl (.list (ns.map .int))\/c=ow (.list (ns.map .int))) :
  ex (Ga Fs fuel m) xu4 (foS t S c (ow (.dict (R.map enR))) (vl (dK κ)) f g h i j)=some (.next (foS t S (vl (.list (ns.map .int))) (ow (.dict ((radd R (.tuple (zk3 ns κ))).map enR))) (vl (dK κ)) f g h i j)):=by
 have hcomp:=zn0 (n:=10) (bc:=bc1) (cond:=zs7 .omit (ev (Ga Fs fuel m) .omit)) (elt:=ev (Ga Fs fuel m) (.idx (.var 4) (.var 10))) (σ:=foS t S (vl (.list (ns.map .int))) (ow (.dict (R.map enR))) (vl (dK κ)) f g h i j)
  (c:=fun _=>true) (F:=fun d=>match d with|.int i=>(lk κ i).getD .none|d=>d) rfl (ds:=ns.map .int) fun d hd'=>by
   (refine elEA (zy.mp hd') fun n hn e_2=>?_; subst e_2)
   obtain ⟨v,hv⟩:=hd n hn
   refine ⟨[.int n],rfl,rfl,fun _=>⟨false,?_⟩⟩
   simp [zix3,zt8,zm4,hv]
 rw [List.filter_eq_self.mpr (by simp),yV] at hcomp
 have hrow:ns.map ((fun d=>match d with|vy i=>(lk κ i).getD .none|d=>d)∘vy)=zk3 ns κ:=rfl
 have hcl:(zk3 ns κ).length<=size:=by simpa [zk3] using hnz
 have hev:ev (Ga Fs fuel m) (.comp1 (.idx (.var 4) (.var 10)) (.var 2) .omit) (foS t S c (ow (.dict (R.map enR))) (vl (dK κ)) f g h i j)=some (.list (zk3 ns κ),true,foS t S (vl (.list (ns.map .int))) (ow (.dict (R.map enR))) (vl (dK κ)) f g h i j):=by
  rw [zr5,show srcE (ev (Ga Fs fuel m) (.var 2)) (foS t S c (ow (.dict (R.map enR))) (vl (dK κ)) f g h i j)=some (ns.map .int,foS t S (vl (.list (ns.map .int))) (ow (.dict (R.map enR))) (vl (dK κ)) f g h i j) by rcases hcc with rfl|rfl<;>rfl]
  show ((zf3 10 _ _ (ns.map .int) (foS t S (vl (.list (ns.map .int))) (ow (.dict (R.map enR))) (vl (dK κ)) f g h i j)).bind _)=_
  rw [zj6,hcomp]
  simp only [vJ,mkL]
  rw [if_pos (by simpa [zk3] using hnz)]
  rfl
 have hkk:=xc9 (yx1 hc) hR
 rw [xu4,zz0 (wv8 (R:=R) rfl rfl (xa2 rfl hev) hkk hz)]
 rfl
end
theorem xs1 {r:List D} (h:∀ v∈r,Can 7 v) (hn:r≠[]):yk2 (.tuple r)=true:=by
 cases r with
 | nil=>exact absurd rfl hn
 | cons v r=>(refine elEEA ((h v mh).head) fun x l e_2 _=>?_; subst e_2); rfl
theorem yv5 {r r':List D} (h:∀ v∈r,Can 7 v) (h':∀ v∈r',Can 7 v):(ltD (.tuple r) (.tuple r')).isSome=true:=by
 simp only [za5]; exact zb0 fun x hx y hy=>(h x hx).lt_some (h' y hy)
theorem xa8 {L:List (List D)} (h:∀ r∈L,∀ v∈r,Can 7 v):Cmp (L.map .tuple):=by
 refine ⟨fun a ha=>?_,fun a ha b hb=>?_⟩
 ·(refine elEA (zy.mp ha) fun r hr e_2=>?_; subst e_2)
  simp only [zp4]; exact zv2 fun v hv=>(h r hr v hv).plain
 ·(refine elEA (zy.mp ha) fun r hr e_2=>?_; subst e_2)
  (refine elEA (zy.mp hb) fun r' hr' e_2=>?_; subst e_2)
  exact yv5 (h r hr) (h r' hr')
theorem xs7 {L:List (List D)} {w:Nat} (h:∀ r∈L,∀ v∈r,Can 7 v) (hw:∀ r∈L,r.length=w) (hn:L.Nodup) (hz:L.length<zc3):zi0 (L.map .tuple)=some (.list (zx4 (L.map .tuple)),true):=by
 by_cases hl:L.length<2
 ·simp [zi0,hl]
 ·have hne:∀ r∈L,r≠[]:=by
   rintro r hr rfl
   have e0:w=0:=(hw [] hr).symm
   apply hl
   have hall:∀ r∈L,r=[]:=fun r hr=>by have:=hw r hr; rw [e0] at this; exact kj.mp this
   match L,hn,hall with
   | [],_,_=>simp
   | [x],_,_=>simp
   | x::y::l,hn,hall =>
    have a:=hall x mh
    have b:=hall y (mt mh)
    subst a b
    simp at hn
  have hs:sortable (L.map .tuple)=true:=by
   simp only [sortable,zj,xJ,Q0,zy,forall_exists_index,and_imp,forall_apply_eq_imp_iff₂]
   exact ⟨⟨⟨fun a ha=>xl1 (h a ha) (by bv_omega),fun a ha=>by simp only [zp4]; exact zv2 fun v hv=>(h a ha v hv).plain⟩,.inr fun a ha=>xs1 (h a ha) (hne a ha)⟩,fun a ha b hb=>yv5 (h a ha) (h b hb)⟩
  simp [zi0,hs,hz]
theorem xf6:∀ {l:List D} {L:List (List D)},l.Perm (L.map .tuple)->∃ L':List (List D),l=L'.map .tuple/\L'.Perm L:=by
 intro l L h
 have hall:∀ x∈l,∃ k:List D,x=.tuple k:=fun x hx=>by
  refine elEA (zy.mp (h.mem_iff.mp hx)) fun k _ e=>?_; exact ⟨k,e.symm⟩
 have:∃ L':List (List D),l=L'.map .tuple:=by
  clear h
  induction l with
  | nil=>exact ⟨[],rfl⟩
  | cons x r ih =>
   obtain ⟨k,rfl⟩:=hall x mh
   obtain ⟨ns,rfl⟩:=ih fun y hy=>hall y (mt hy)
   exact ⟨k::ns,rfl⟩
 obtain ⟨ns,rfl⟩:=this
 refine ⟨ns,rfl,?_⟩
 have h2:=h.map fun d:D=>(match d with|.tuple k=>k|_=>[]:List D)
 simpa [yV,Function.comp_def] using h2
end Pl
end
section
namespace Pl
open Mini PySem
variable {Fs:Fns} {fuel:Nat}
theorem wo8 {l:List D} (hall:∀ x∈l,∃ k:List D,x=.tuple k):∃ L':List (List D),l=L'.map .tuple:=by
 induction l with
 | nil=>exact ⟨[],rfl⟩
 | cons x r ih =>
  obtain ⟨k,rfl⟩:=hall x mh
  obtain ⟨ns,rfl⟩:=ih fun y hy=>hall y (mt hy)
  exact ⟨k::ns,rfl⟩
theorem nodup_tup {L:List (List D)}:(L.map wV).Nodup↔L.Nodup:=by
 unfold List.Nodup
 rw [List.pairwise_map]
 exact ⟨fun h=>h.imp fun h e=>h (by rw [e]),fun h=>h.imp fun h e=>h (by simpa using e)⟩
structure Fills (ns:List Int) (P S:D) (L:List (List D)):Prop where
 srt:(L.map wV).Pairwise leD
 nod:L.Nodup
 mem:∀ r,r∈L↔Row ns P S r
 len:L.length<size
noncomputable def Few (t:Tm) (S:D):Prop:=∀ (ns:List Int) (L:List (List D)),ns.Nodup->(∀ k,k∈ns↔k∈opl t)->L.Nodup->(∀ r∈L,Row ns (shp t) S r)->L.length<zc3
theorem yv4 (H:Hm Fs) (h1:Has Fs "opens_within" ⟨1,4,zw9⟩) (h2:Has Fs "shaped" ⟨1,1,zq1⟩) (h3:Has Fs "fillings_of" ⟨2,10,zv5⟩) (n:Nat) {t:Tm} {S:D} (hn:num t<=20) (hf:100<=fuel) (hS:Can 7 S) (hz:(1+num t)^lv S<size) (hb:Few t S) :
  ∃ ns L,ns.Nodup/\ns.Pairwise (·<=·)/\(∀ k,k∈ns↔k∈opl t)/\run Fs glo fuel (n+3*num t+5) "fillings_of" [enc t,S]=some (.list (L.map fun r=>dK (ns.zip r)),false)/\Fills ns (shp t) S L:=by
 refine elEAAA (xx4 (fuel:=fuel) h1 (n+3*num t+3) (by exact qy hn:num t<=40) hf) fun ns n1 n2 n3 e1=>?_
 have e2:=zh9 (fuel:=fuel) H.parts_in H.joined h2 t (n+2*num t+2) (by exact qy hn)
 rw [show n+2*num t+2+num t+2=n+3*num t+4 by bv_omega] at e2
 obtain ⟨hP,hlv⟩:=zw7 t hn
 have hsz:size=16777216:=rfl
 have hnl:ns.length<=20:=by
  have hp:ns.length<=(opl t).length:=by
   exact List.Nodup.length_le_of_subset n1 fun k hk=>(n3 k).mp hk
  have:=wt2 t
  exact qt hp (qt this hn)
 refine elEEA (xk2 (fuel:=fuel) H hP (by bv_omega) n S [] hS ⟨by simp,by simp⟩ (by rw [hlv,hsz]; simp; bv_omega) (by rw [hlv]; exact hz)) fun K f e3 M=>?_
 have ho:∀ i,i∈ns↔Opn i (shp t):=fun i=>(n3 i).trans (yn6 t i).symm
 have hK:K.length<size:=by
  have:=M.size
  rw [hlv] at this
  exact z7 this (z7 (j0 (by bv_omega) _) hz)
 have hri:=yn2 n1 hP hS ho M
 have hrc:∀ κ∈K,∀ v∈zk3 ns κ,Can 7 v:=fun κ hκ v hv=>(((hri _).mp ⟨κ,hκ,rfl⟩).2.1 v hv).can hS
 have hrd:∀ κ∈K,∀ i∈ns,∃ v,lk κ i=some v:=fun κ hκ i hi=>by
  obtain ⟨v,hv⟩:=(M.ext κ hκ).dom i ((ho i).mp hi)
  exact ⟨v,yh4 (M.ext κ hκ).nod hv⟩
 have loop:=zs6 (bnd:=zn4 4) (body:=ex (Ga Fs fuel (n+3*num t+4)) xu4) dK (fun done σ=>∃ R c a,(c=vl (.list (ns.map .int))\/c=ow (.list (ns.map .int)))/\R.Nodup/\(∀ p,p∈R↔∃ κ∈done,p=.tuple (zk3 ns κ))/\R.length<=done.length/\σ=foS (enc t) S c (ow (.dict (R.map enR))) a none none none none none) (L:=K)
  (σ:=foS (enc t) S (ow (.list (ns.map .int))) (ow (.dict [])) none none none none none none) ⟨[],_,none,.inr rfl,by simp,by simp,by simp,rfl⟩ (by
   rintro done κ rest σ e ⟨R,c,a,hcc,r1,r2,r3,rfl⟩
   have hκ:κ∈K:=by exact mm e
   have hmem:∀ p∈R,∃ κ'∈K,p=.tuple (zk3 ns κ'):=fun p hp=>by
    refine elEA ((r2 p).mp hp) fun κ' h' e'=>?_
    exact ⟨κ',by exact mml e h',e'⟩
   have hRt:∀ p∈R,tkey p=true:=fun p hp=>by
    (refine elEA (hmem p hp) fun κ' h' e_2=>?_; subst e_2)
    exact yx1 (hrc κ' h')
   have hRp:∀ p∈R,zz8 p=true:=fun p hp=>by
    (refine elEA (hmem p hp) fun κ' h' e_2=>?_; subst e_2)
    simp only [zp4]; exact zv2 fun v hv=>(hrc κ' h' v hv).plain
   have hpl:zz8 (.tuple (zk3 ns κ))=true:=by simp only [zp4]; exact zv2 fun v hv=>(hrc κ hκ v hv).plain
   have hdl:done.length<K.length:=by exact lm1 e
   refine ⟨_,_,rfl,xz7 (hrd κ hκ) (hrc κ hκ) hRt (by exact ql (qt r3 (zq hdl)) hK) (by rw [hsz]; bv_omega) hcc,_,vl (.list (ns.map .int)),vl (dK κ),.inl rfl,yq4 hpl hRp r1,fun p=>?_,?_,rfl⟩
   ·rw [yn4 hpl hRp,r2]
    simp only [qW,xq]
    constructor
    ·rintro (⟨κ',h',e'⟩|e')
     ·exact ⟨κ',.inl h',e'⟩
     ·exact ⟨κ,.inr rfl,e'⟩
    ·rintro ⟨κ',h'|rfl,e'⟩
     ·exact .inl ⟨κ',h',e'⟩
     ·exact .inr e'
   ·have:=xx8 (.tuple (zk3 ns κ)) R
    rw [z9]; simp; exact qt this (zJ r3))
 (refine elEAEEEAAAA (loop) fun σ' eloop R c a hcc r1 r2 r3 e_9=>?_; subst e_9)
 obtain ⟨L0,rfl⟩:=wo8 (l:=R) fun x hx=>by
  refine elEA ((r2 x).mp hx) fun κ _ e=>?_; exact ⟨_,e⟩
 have hL0:∀ r,r∈L0↔Row ns (shp t) S r:=fun r=>by
  rw [<- hri r]
  constructor
  ·intro h
   refine elEA ((r2 (.tuple r)).mp (zy.mpr ⟨r,h,rfl⟩)) fun κ hκ e=>?_
   exact ⟨κ,hκ,by simpa using e⟩
  ·rintro ⟨κ,hκ,rfl⟩
   refine elEA (zy.mp ((r2 _).mpr ⟨κ,hκ,rfl⟩)) fun r' hr' e=>?_
   simp at e; subst e; exact hr'
 have hLc:∀ r∈L0,∀ v∈r,Can 7 v:=fun r hr v hv=>(((hL0 r).mp hr).2.1 v hv).can hS
 have hLl:∀ r∈L0,r.length=ns.length:=fun r hr=>((hL0 r).mp hr).1
 have hL0n:L0.Nodup:=nodup_tup.mp r1
 have hL0z:L0.length<size:=by rw [xw] at r3; exact ql r3 hK
 have hso:=xs7 hLc hLl hL0n (hb ns L0 n1 n3 hL0n fun r hr=>(hL0 r).mp hr)
 have hss:=zv7 (xa8 hLc)
 refine elEA (xf6 (zz3 (L0.map .tuple))) fun L eL pL=>?_
 rw [eL] at hso hss
 have hLz:L.length<size:=by rw [pL.length_eq]; exact hL0z
 have loop2:=zs6 (bnd:=zn4 7) (body:=ex (Ga Fs fuel (n+3*num t+4)) ym9) wV (fun done σ=>∃ c f h i j,(c=vl (.list (ns.map .int))\/c=ow (.list (ns.map .int)))/\σ=foS (enc t) S c (ow (.dict ((L0.map wV).map enR))) a f (ow (.list (done.map fun r=>dK (ns.zip r)))) h i j) (L:=L)
  (σ:=foS (enc t) S c (ow (.dict ((L0.map wV).map enR))) a none (ow (.list [])) none none none) ⟨_,_,_,_,_,hcc,rfl⟩ (by
   rintro done r rest σ e ⟨c',f,h,i,j,hc',rfl⟩
   have hr:r∈L0:=pL.mem_iff.mp (by exact mm e)
   have hdl:done.length<L.length:=by exact lm1 e
   refine elEEE (yg7 (Fs:=Fs) (fuel:=fuel) (t:=enc t) (S:=S) (m:=n+3*num t+4) n1 (hLl r hr) (by rw [hsz]; exact qx hnl) (acc:=done.map fun r=>dK (ns.zip r)) (by rw [xw]; exact ql hdl hLz) (d:=ow (.dict ((L0.map wV).map enR))) (e:=a) (f:=f) (i:=i) (j:=j) hc') fun f' i' j' es=>?_
   exact ⟨_,_,rfl,es,vl (.list (ns.map .int)),f',vl (.tuple r),i',j',.inl rfl,by simp⟩)
 (refine elEAEEEEEA (loop2) fun σ' eloop2 c2 f2 h2' i2 j2 hc2 e_8=>?_; subst e_8)
 refine ⟨ns,L,n1,n2,n3,zz4 h3 rfl ?_,hss,pL.nodup_iff.mpr hL0n,fun r=>pL.mem_iff.trans (hL0 r),hLz⟩
 show ex (Ga Fs fuel (n+3*num t+4)) zv5 (foS (enc t) S none none none none none none none none)=_
 rw [zv5,zz0 (σ':=foS (enc t) S (ow (.list (ns.map .int))) none none none none none none none) (by simp [e1]),
  zz0 (σ':=foS (enc t) S (ow (.list (ns.map .int))) (ow (.dict [])) none none none none none none) (by simp),
  zz0 (by
   rw [zy4,show srcE (ev (Ga Fs fuel (n+3*num t+4)) (.call "met" (.cons (.call "shaped" (.cons (.var 0) .nil)) (.cons (.var 1) (.cons .dct0 .nil))))) (foS (enc t) S (ow (.list (ns.map .int))) (ow (.dict [])) none none none none none none)=some (K.map dK,foS (enc t) S (ow (.list (ns.map .int))) (ow (.dict [])) none none none none none none) by
    have e3':run Fs glo fuel (n+3*num t+4) "met" [shp t,S,.dict []]=some (.list (K.map dK),f):=e3
    simp [zit1,e2,e3']]
   exact eloop),
  zz0 (σ':=foS (enc t) S c (ow (.dict ((L0.map wV).map enR))) a none (ow (.list [])) none none none) (rfl),
  zz0 (by
   rw [zy4,show srcE (ev (Ga Fs fuel (n+3*num t+4)) (.prim1 .sorted (.brw 3))) (foS (enc t) S c (ow (.dict ((L0.map wV).map enR))) a none (ow (.list [])) none none none)=some (L.map wV,foS (enc t) S c (ow (.dict ((L0.map wV).map enR))) a none (ow (.list [])) none none none) by
    have hke:=xq4 (L0.map wV)
    rw [srcE,yt8]
    show (((some (PyData.dict ((L0.map wV).map enR),_)).bind _).bind _)=_
    simp only [vJ,xm7,xm2,zso2,hke,hso,zit1]]
   exact eloop2)]
 exact zz5 (by simp)
noncomputable def zo6:I:=(.cons (.exp (.call "leaves" (.cons (.var 0) .nil))) (.cons (.exp (.call "leaves" (.cons (.var 1) .nil))) (.cons (.iff (.cmp .NotEq (.call "opens_within" (.cons (.var 1) .nil)) (.lst .nil)) (.cons .rais .nil) .nil) (.cons (.ret (.call "fillings_of" (.cons (.var 0) (.cons (.call "shaped" (.cons (.var 1) .nil)) .nil)))) .nil))))
theorem yj5 (H:Hm Fs) (h1:Has Fs "opens_within" ⟨1,4,zw9⟩) (h2:Has Fs "shaped" ⟨1,1,zq1⟩) (h3:Has Fs "fillings_of" ⟨2,10,zv5⟩) (g1:Has Fs "is_whole" ⟨2,2,zv0⟩) (g2:Has Fs "is_leaf" ⟨1,1,zt0⟩) (g3:Has Fs "leaves" ⟨1,4,zh1⟩)
  (h4:Has Fs "fillings" ⟨2,2,zo6⟩) (n:Nat) {t u:Tm} (ht:ok t) (hu:ok u) (hn:num t<=20) (hm:num u<=20) (hf:100<=fuel) (hS:Can 7 (shp u)) (hz:(1+num t)^num u<size) (hb:Few t (shp u)) (hno:opl u=[]) :
  ∃ ns L,ns.Nodup/\ns.Pairwise (·<=·)/\(∀ k,k∈ns↔k∈opl t)/\run Fs glo fuel (n+86) "fillings" [enc t,enc u]=some (.list (L.map fun r=>dK (ns.zip r)),false)/\Fills ns (shp t) (shp u) L:=by
 refine elEEAAAA (yv4 (fuel:=fuel) H h1 h2 h3 (n+80 - 3*num t) hn hf hS (by rw [(zw7 u hm).2]; exact hz) hb) fun ns L n1 n2 n3 e F=>?_
 rw [show n+80 - 3*num t+3*num t+5=n+85 by exact nsc (w5 3 hn)] at e
 refine ⟨ns,L,n1,n2,n3,zz4 h4 rfl ?_,F⟩
 refine elEAAA (xx4 (fuel:=fuel) h1 (n+84) (by bv_omega:num u<=40) hf) fun ms m1 m2 m3 e1=>?_
 have hms:ms=[]:=by
  cases ms with
  | nil=>rfl
  | cons k r=>have:=(m3 k).mp mh; rw [hno] at this; cases this
 subst hms
 have e2:=zh9 (fuel:=fuel) H.parts_in H.joined h2 u (n+83 - num u) (by bv_omega)
 rw [show n+83 - num u+num u+2=n+85 by exact nsc hm] at e2
 have l1:=yq1 (fuel:=fuel) g1 g2 g3 (n+82) ht (by bv_omega) hf
 have l2:=yq1 (fuel:=fuel) g1 g2 g3 (n+82) hu (by bv_omega) hf
 show ex (Ga Fs fuel (n+85)) zo6 [vl (enc t),vl (enc u)]=_
 rw [zo6,zz0 (σ':=[vl (enc t),vl (enc u)]) (by simp [yf3,zai,l1]),zz0 (σ':=[vl (enc t),vl (enc u)]) (by simp [yf3,zai,l2]),
  zz0 (σ':=[vl (enc t),vl (enc u)]) (by simp [c_ne,eqD,↓mkL0,e1,zn8,zj5])]
 exact zz5 (by simp [e2,e])
end Pl
end
section
namespace Pl
open Mini PySem
variable {Fs:Fns} {fuel:Nat}
theorem wx2 {k:Nat}:∀ {l:List D},(∀ x∈l,Can k x)->l.length<=lvL l
 | [],_=>wx _
 | x::r,h=>by
  have:=(h x mh).lv_pos
  have:=wx2 (l:=r) fun y hy=>h y (mt hy)
  simp only [zs8,vZ]; exact qt (zX (wk ..)) (qa ‹_› this)
theorem zc5 {k:Nat} {s:Sn} (hs:s≠.pair) {d:D} (h:Can k d):(parts s d).length<=lv d:=by
 rw [<- zc4 hs h]; exact wx2 (h.parts_can hs)
theorem yd2 {k:Nat} {l r:List D} (h:∀ x∈r,Can k x) (p:l.Perm r):zx4 l=zx4 r:=by
 have hl:∀ x∈l,Can k x:=fun x hx=>h x (p.mem_iff.mp hx)
 exact zo2 (zd8 h) ((zz3 l).trans p) (zv7 (zd8 hl))
theorem xn2 {k:Nat} {l:List D} (h:∀ x∈l,Can k x) (hk:k<=100) (hl:l.length<64):zi0 l=some (.list (zx4 l),true):=by
 simp [zi0,yz7 (fun x hx=>(h x hx).shp) (by exact qy (xv hk 20):k+20<=1000),yb3 hl]
noncomputable def zv3 (f:Int->D):Tm->D
 | .leaf o k=>if o then f k else enc (.leaf o k)
 | .node s a b=>if s=.pair then .tuple [.str "pair", zv3 f a,zv3 f b] else zw1 s (zx4 (parts s (zv3 f a)++parts s (zv3 f b)))
theorem ym3 {f o k}:zv3 f (.leaf o k)=if o then f k else enc (.leaf o k):=rfl
theorem ym2 {f s a b}:zv3 f (.node s a b)=if s=.pair then .tuple [.str "pair", zv3 f a,zv3 f b] else zw1 s (zx4 (parts s (zv3 f a)++parts s (zv3 f b))):=rfl
theorem xr7 {k:Nat} {s:Sn} {l:List D} (hc:∀ x∈l,Can k x):lv (zw1 s l)=lvL l:=by
 match l with
 | []=>simp [zw1,lv_s,lv_t,zm6,zs8]
 | [x]=>simp [zw1,zm6,zs8]
 | a::b::r=>rw [zr9 (by simp),zi8]
noncomputable def Vals (c:Nat) (f:Int->D) (t:Tm):Prop:=∀ i∈opl t,Can 7 (f i)/\lv (f i)<=c
theorem zg6 {c m:Nat} {f:Int->D} (hc:1<=c):∀ (t:Tm),c*num t<=20->(∀ i∈opl t,Can m (f i)/\lv (f i)<=c)->Can (m+num t) (zv3 f t)/\lv (zv3 f t)<=c*num t
 | .leaf o k,h,hv=>by
  cases o with
  | true =>
   have:=hv k mh
   simp only [ym3,if_true,yi8,Qj]
   exact ⟨this.1.mono (by bv_omega),this.2⟩
  | false=>simp only [ym3,yi8,zo9]; exact ⟨.leaf m false k,by simp [lv_i,lv_s,lv_t,zm6,zs8]; bv_omega⟩
 | .node s a b,h,hv=>by
  have pa:=zx6 a
  have pb:=zx6 b
  have hn:num (.node s a b)=num a+num b:=rfl
  rw [hn,uq] at h |-
  obtain ⟨ca,la⟩:=zg6 hc a (by exact qf h) fun i hi=>hv i (ml hi)
  obtain ⟨cb,lb⟩:=zg6 hc b (by exact qr h) fun i hi=>hv i (mr hi)
  have ca':Can (m+num a+num b - 1) (zv3 f a):=ca.mono (by exact nlb pb)
  have cb':Can (m+num a+num b - 1) (zv3 f b):=cb.mono (by exact nlm pa)
  rw [show m+(num a+num b)=m+num a+num b - 1+1 by exact (x9 ..).symm.trans (nc2 pa).symm]
  by_cases hs:s=.pair
  ·subst hs
   simp only [ym2,if_true]
   exact ⟨.pair ca' cb',by rw [ze9]; exact qa la lb⟩
  ·simp only [ym2,hs,if_false]
   have hl:=(zz3 (parts s (zv3 f a)++parts s (zv3 f b))).length_eq
   rw [z9] at hl
   have h1:=(ca.parts_pos hs).1
   have h2:=zc5 hs ca
   have h3:=(cb.parts_pos hs).1
   have h4:=zc5 hs cb
   have hm:∀ x∈zx4 (parts s (zv3 f a)++parts s (zv3 f b)),x∈parts s (zv3 f a)\/x∈parts s (zv3 f b):=fun x hx=>qW.mp ((zz3 _).mem_iff.mp hx)
   have hcan:∀ x∈parts s (zv3 f a)++parts s (zv3 f b),Can (m+num a+num b - 1) x:=fun x hx=>(qW.mp hx).elim (ca'.parts_can hs x) (cb'.parts_can hs x)
   have hcs:∀ x∈zx4 (parts s (zv3 f a)++parts s (zv3 f b)),Can (m+num a+num b - 1) x:=fun x hx=>hcan x ((zz3 _).mem_iff.mp hx)
   refine ⟨?_,?_⟩
   ·rw [zr9 (by bv_omega)]
    exact .join hs (by exact hl▸qa h1 h3) (by exact hl▸qt (qa (qt h2 la) (qt h4 lb)) h) hcs (fun x hx=>(hm x hx).elim (ca.parts_non hs x) (cb.parts_non hs x)) (zv7 (zd8 hcan))
   ·rw [xr7 hcs,xv5 (zz3 _),zw8,zc4 hs ca,zc4 hs cb]; exact qa la lb
theorem yg1 {c:Nat} {f:Int->D} (hc:1<=c) (t:Tm) (h:c*num t<=20) (hv:Vals c f t):Can (7+num t) (zv3 f t)/\lv (zv3 f t)<=c*num t:=zg6 hc t h hv
theorem xu5 {k:Nat} {s:Sn} (hs:s≠.pair) (f:Int->D) {P:D} (h:Can k P):(fl s f (parts s P)).Perm (parts s (fill f P)):=by
 rcases h.parts hs with e|⟨l,e1,e,_⟩
 ·rw [e,xu6]
 ·rw [e,e1,zo8 f hs,zv4]
  refine yx ?_ (zz3 _).symm
  simp [fl,List.flatMap_map]
theorem za6 {c:Nat} {f:Int->D} (hc:1<=c):∀ (t:Tm),c*num t<=20->Vals c f t->zv3 f t=fill f (shp t)
 | .leaf o k,h,hv=>by
  cases o with
  | true=>simp only [ym3,if_true,xr2,zo9,lstr,zu2]
  | false=>simp only [ym3,xr2,zo9,lstr]; rfl
 | .node s a b,h,hv=>by
  have hn:num (.node s a b)=num a+num b:=rfl
  rw [hn,uq] at h
  have hva:Vals c f a:=fun i hi=>hv i (ml hi)
  have hvb:Vals c f b:=fun i hi=>hv i (mr hi)
  have ea:=za6 hc a (by bv_omega) hva
  have eb:=za6 hc b (by bv_omega) hvb
  have hca:num a<=c*num a:=Nat.le_mul_of_pos_left _ hc
  have hcb:num b<=c*num b:=Nat.le_mul_of_pos_left _ hc
  by_cases hs:s=.pair
  ·subst hs; simp only [ym2,if_true,zk2,zo7,ea,eb]
  ·have ca:=yg1 hc a (by bv_omega) hva
   have cb:=yg1 hc b (by bv_omega) hvb
   simp only [ym2,hs,if_false]
   have h1:=(ca.1.parts_pos hs).1
   have h2:=(cb.1.parts_pos hs).1
   have hl:=(zz3 (parts s (zv3 f a)++parts s (zv3 f b))).length_eq
   rw [z9] at hl
   rw [zr9 (by bv_omega),zs1 hs,zo8 f hs]
   congr 2
   have hcan:∀ x∈parts s (zv3 f a)++parts s (zv3 f b),Can (7+num a+num b) x:=fun x hx=>(qW.mp hx).elim ((ca.1.mono (by exact qQ ..)).parts_can hs x) ((cb.1.mono (by exact xv (qQ ..) _)).parts_can hs x)
   symm
   refine yd2 hcan ?_
   have p1:((zx4 (parts s (shp a)++parts s (shp b))).map (fill f)).flatMap (parts s)=fl s f (zx4 (parts s (shp a)++parts s (shp b))):=by simp [fl,List.flatMap_map]
   rw [p1]
   have p2:(fl s f (zx4 (parts s (shp a)++parts s (shp b)))).Perm (fl s f (parts s (shp a)++parts s (shp b))):=(zz3 _).flatMap_right _
   refine p2.trans ?_
   rw [zh3,ea,eb]
   exact (xu5 hs f (zw7 a (by exact qt hca (qf h))).1).append (xu5 hs f (zw7 b (by exact qt hcb (qr h))).1)
end Pl
end
section
namespace Pl
open Mini PySem
variable {Fs:Fns} {fuel:Nat}
noncomputable def zr2:I:=(.cons (.iff (.cmp .Eq (.prim1 .len (.var 0)) (.cint 2)) (.cons (.ret (.cmp .Eq (.var 0) (.tup (.cons (.cstr "open") (.cons (.var 1) .nil))))) .nil) .nil) (.cons (.ret (.or (.cons (.call "_law_has" (.cons (.idx (.var 0) (.cint 1)) (.cons (.var 1) .nil))) (.cons (.call "_law_has" (.cons (.idx (.var 0) (.cint 2)) (.cons (.var 1) .nil))) .nil)))) .nil))
theorem yx5 (o:Bool) (k:Int):okd (.tuple [.str (lstr o),.int k])=true:=(Can.leaf 0 o k).okd (by bv_omega)
theorem ze4 (h:Has Fs "_law_has" ⟨2,2,zr2⟩) (i:Int):∀ (t:Tm) (n:Nat),run Fs glo fuel (n+num t) "_law_has" [enc t,.int i]=some (.bool (decide (i∈opl t)),false)
 | .leaf o k,n=>by
  refine zz4 h rfl ?_
  show ex (Ga Fs fuel n) zr2 [vl (enc (.leaf o k)),vl (.int i)]=_
  rw [zr2]
  refine zz5 ?_
  have o1:=yx5 o k
  have o2:okd (.tuple [.str "open", .int i])=true:=yx5 true i
  have e:qX (.tuple [.str (lstr o),.int k]) (.tuple [.str "open", .int i])=decide (i∈opl (.leaf o k)):=by
   cases o with
   | true=>show (("open" : Str) == "open" && (k==i&&true))=decide (i∈[k]); rw [Bool.eq_iff_iff]; simp; exact eq_comm
   | false=>show (("name" : Str) == "open" && (k==i&&true))=decide (i∈[]); rw [show (("name" : Str) == "open")=false by decide]; simp
  simp only [zo9] at *
  simp [zz1,c_eq,eqD,↓mkT2,zp5,zle2,zx9,zs0,o1,o2,e]
 | .node s a b,n=>by
  have pa:=zx6 a
  have pb:=zx6 b
  have hnn:num (.node s a b)=num a+num b:=rfl
  have ea:=ze4 h i a (n+num b - 1)
  have eb:=ze4 h i b (n+num a - 1)
  rw [show n+num b - 1+num a=n+num a+num b - 1 by exact QK ((nc4 pb).trans (nc2 pa).symm)] at ea
  rw [show n+num a - 1+num b=n+num a+num b - 1 by exact QK ((nc3 pa).trans (nc2 pa).symm)] at eb
  rw [hnn,show n+(num a+num b)=n+num a+num b - 1+1 by exact (x9 ..).symm.trans (nc2 pa).symm]
  refine zz4 h rfl ?_
  show ex (Ga Fs fuel (n+num a+num b - 1)) zr2 [vl (enc (.node s a b)),vl (.int i)]=_
  rw [zr2,zz0 (σ':=[vl (enc (.node s a b)),vl (.int i)]) (rfl)]
  refine zz5 ?_
  by_cases hia:i∈opl a
  ·simp [↓zq0,zl5,ea,yi3,hia]
  ·simp [↓zq0,↓zd2,zl5,ea,eb,yi3,hia]
end Pl
end
section
namespace Pl
open Mini PySem
variable {Fs:Fns} {fuel:Nat}
theorem zj4 (c:Int) {b:Int} (h:0<b):0<=c.fmod b/\c.fmod b<b:=⟨Int.fmod_nonneg_of_pos c h,Int.fmod_lt_of_pos c h⟩
theorem zd5 (a:Int) {b:Nat} (hb:0<b):∃ k:Nat,k<b/\a.fmod b=k:=by
 have h:=zj4 a (b:=b) (kJ.mpr hb)
 exact ⟨(a.fmod b).toNat,(Int.toNat_lt h.1).mpr h.2,(Int.toNat_of_nonneg h.1).symm⟩
theorem xu9 (t:Tm):(enc t).canLay0=true:=by
 induction t with
 | leaf o n=>simp [zo9,vQ,wQ]; have:=ys2 (zg4 o); simpa [vQ] using this
 | node s a b ha hb=>simp [zl5,vQ,wQ,ha,hb]; have:=ys2 (zt1 s); simpa [vQ] using this
theorem xt0 (t:Tm):(enc t).depth<=num t:=by
 induction t with
 | leaf o n=>simp [zo9,yt9,xh6,yl3,zf0,zl6,yi8]
 | node s a b ha hb=>exact nmx (ql ha (Nat.lt_add_of_pos_right (zx6 b))) (ql hb (Nat.lt_add_of_pos_left (zx6 a)))
inductive Turn:Sn->Tm->Tm->Tm->Prop
 | swap (s:Sn) (a b:Tm):Turn s a b (.node s b a)
 | left (s:Sn) (a b c:Tm):Turn s a (.node s b c) (.node s (.node s a b) c)
 | right (s:Sn) (a b c:Tm):Turn s (.node s a b) c (.node s a (.node s b c))
theorem yw9 {s:Sn} (hs:s≠.pair) {a b c d:Tm} (p:(xt9 s a b).Perm (xt9 s c d)):shp (.node s a b)=shp (.node s c d):=by
 have hc:=xh8 (xo5 hs a b)
 have:=zo2 (hc.perm p.symm) ((zz3 _).trans p) (zv7 hc)
 rw [zs1 hs,zs1 hs]
 exact congrArg (fun l=>wV (.str s.str::l)) this
theorem zl1 {s:Sn} (hs:s≠.pair) (a b:Tm):(parts s (shp (.node s a b))).Perm (parts s (shp a)++parts s (shp b)):=by
 rw [zs1 hs,zv4]; exact zz3 _
theorem Turn.shp {s:Sn} (hs:s≠.pair) {a b t:Tm} (h:Turn s a b t):Pl.shp t=Pl.shp (.node s a b):=by
 cases h with
 | swap=>exact yw9 hs QW
 | left _ b c =>
  refine yw9 hs (((zl1 hs a b).append_right _).trans ?_)
  rw [xk]
  exact ((zl1 hs b c).append_left _).symm
 | right a b _ =>
  refine yw9 hs (((zl1 hs b _).append_left _).trans ?_)
  rw [<- xk]
  exact ((zl1 hs a b).append_right _).symm
theorem Turn.num {s:Sn} {a b t:Tm} (h:Turn s a b t):Pl.num t=Pl.num (.node s a b):=by
 cases h with
 | swap=>exact wk ..
 | left=>exact x9 ..
 | right=>exact (x9 ..).symm
theorem Turn.ok {s:Sn} {a b t:Tm} (h:Turn s a b t) (q:Pl.ok (.node s a b)):Pl.ok t:=by
 cases h with
 | swap=>exact ⟨q.2,q.1⟩
 | left=>exact ⟨⟨q.1,q.2.1⟩,q.2.2⟩
 | right=>exact ⟨q.1.1,q.1.2,q.2⟩
theorem Turn.opl {s:Sn} {a b t:Tm} (h:Turn s a b t) (q:Pl.opl (.node s a b)=[]):Pl.opl t=[]:=by
 cases h<;>simp [yi3] at q |-<;>simp [q]
noncomputable def hd:Tm->Str
 | .leaf o _=>lstr o
 | .node s _ _=>s.str
noncomputable def tl:Tm->List D
 | .leaf _ n=>[.int n]
 | .node _ a b=>[enc a,enc b]
theorem ww7 (t:Tm):enc t=.tuple (.str (hd t)::tl t):=by cases t<;>rfl
theorem wy7 (t:Tm):okd (.str (hd t))=true:=by
 cases t with
 | leaf o _=>exact zg4 o
 | node s _ _=>exact zt1 s
theorem xi2 {t:Tm} {s:Sn} (h:hd t=s.str):∃ a b,t=.node s a b:=by
 cases t with
 | leaf o _=>exact absurd h (zx8 o s)
 | node s' a b=>exact ⟨a,b,by rw [zp9 h]⟩
theorem yx4:okd (.str "left")=true:=by decide +kernel
theorem zi4:okd (.str "right")=true:=by decide +kernel
noncomputable def tu_l:I:=(.iff (.and (.cons (.cmp .Eq (.var 1) (.cstr "left")) (.cons (.cmp .Eq (.idx (.idx (.var 0) (.cint 2)) (.cint 0)) (.var 2)) .nil))) (.cons (.ret (.tup (.cons (.var 2) (.cons (.tup (.cons (.var 2) (.cons (.idx (.var 0) (.cint 1)) (.cons (.idx (.idx (.var 0) (.cint 2)) (.cint 1)) .nil)))) (.cons (.idx (.idx (.var 0) (.cint 2)) (.cint 2)) .nil))))) .nil) .nil)
noncomputable def tu_r:I:=(.iff (.and (.cons (.cmp .Eq (.var 1) (.cstr "right")) (.cons (.cmp .Eq (.idx (.idx (.var 0) (.cint 1)) (.cint 0)) (.var 2)) .nil))) (.cons (.ret (.tup (.cons (.var 2) (.cons (.idx (.idx (.var 0) (.cint 1)) (.cint 1)) (.cons (.tup (.cons (.var 2) (.cons (.idx (.idx (.var 0) (.cint 1)) (.cint 2)) (.cons (.idx (.var 0) (.cint 2)) .nil)))) .nil))))) .nil) .nil)
noncomputable def tu_s:I:=(.ret (.tup (.cons (.var 2) (.cons (.idx (.var 0) (.cint 2)) (.cons (.idx (.var 0) (.cint 1)) .nil)))))
noncomputable def zu9:I:=(.cons (.asg 2 (.idx (.var 0) (.cint 0))) (.cons tu_l (.cons tu_r (.cons tu_s .nil))))
section
variable {m:Nat} {s:Sn} {a b:Tm} {w:Str}
noncomputable abbrev tuS (s:Sn) (a b:Tm) (w:Str):Mini.Sg:=[vl (.tuple [.str s.str,enc a,enc b]),vl (.str w),vl (.str s.str)]
theorem wn6 (hw:okd (.str w)=true) (h:¬ (w = "left" /\ hd b=s.str)):ex (Ga Fs fuel m) tu_l (tuS s a b w)=some (.next (tuS s a b w)):=by
 rw [tu_l,tuS,ww7 b]
 by_cases q:w = "left"
 ·have q2:((hd b)==s.str)=false:=beq_eq_false_iff_ne.mpr fun e=>h ⟨q,e⟩
  subst q
  simp [c_eq,eqD,↓zx1,↓zd2,yx4,wy7,zt1,zy0,q2]
 ·have q2:(w==("left" : Str))=false:=beq_eq_false_iff_ne.mpr q
  simp [c_eq,eqD,hw,yx4,zy0,q2]
theorem tu_r0 (hw:okd (.str w)=true) (h:¬ (w = "right" /\ hd a=s.str)):ex (Ga Fs fuel m) tu_r (tuS s a b w)=some (.next (tuS s a b w)):=by
 rw [tu_r,tuS,ww7 a]
 by_cases q:w = "right"
 ·have q2:((hd a)==s.str)=false:=beq_eq_false_iff_ne.mpr fun e=>h ⟨q,e⟩
  subst q
  simp [c_eq,eqD,↓zx1,↓zq0,zi4,wy7,zt1,zy0,q2]
 ·have q2:(w==("right" : Str))=false:=beq_eq_false_iff_ne.mpr q
  simp [c_eq,eqD,hw,zi4,zy0,q2]
theorem tu_s0:ex (Ga Fs fuel m) tu_s (tuS s a b w)=some (.ret (enc (.node s b a)) false):=by
 rw [tu_s]; simp [↓zq0,↓zd2,↓mkT3,zl5]
theorem tu_l1 {c:Tm}:ex (Ga Fs fuel m) tu_l (tuS s a (.node s b c) "left")=some (.ret (enc (.node s (.node s a b) c)) false):=by
 rw [tu_l]; simp [zz1,c_eq,eqD,↓zx1,↓zq0,↓zd2,↓mkT3,zl5,yx4,zt1,zy0]
theorem tu_r1 {c:Tm}:ex (Ga Fs fuel m) tu_r (tuS s (.node s a b) c "right")=some (.ret (enc (.node s a (.node s b c))) false):=by
 rw [tu_r]; simp [zz1,c_eq,eqD,↓zx1,↓zq0,↓zd2,↓mkT3,zl5,zi4,zt1,zy0]
end
theorem xr3 (h:Has Fs "_law_turned" ⟨2,3,zu9⟩) (n:Nat) (s:Sn) (a b:Tm) {w:Str} (hw:okd (.str w)=true) :
  ∃ t,Turn s a b t/\run Fs glo fuel (n+1) "_law_turned" [enc (.node s a b),.str w]=some (enc t,false):=by
 have s1:ex (Ga Fs fuel n) (.asg 2 (.idx (.var 0) (.cint 0))) [vl (enc (.node s a b)),vl (.str w),none]=some (.next (tuS s a b w)):=rfl
 by_cases e1:w = "left" /\ hd b=s.str
 ·obtain ⟨rfl,e⟩:=e1
  (refine elEE (xi2 e) fun b1 b2 e_2=>?_; subst e_2)
  exact ⟨_,.left s a b1 b2,zz4 h rfl ((zz0 s1).trans (zz5 tu_l1))⟩
 ·by_cases e2:w = "right" /\ hd a=s.str
  ·obtain ⟨rfl,e⟩:=e2
   (refine elEE (xi2 e) fun a1 a2 e_2=>?_; subst e_2)
   exact ⟨_,.right s a1 a2 b,zz4 h rfl ((zz0 s1).trans ((zz0 (wn6 zi4 e1)).trans (zz5 tu_r1)))⟩
  ·exact ⟨_,.swap s a b,zz4 h rfl ((zz0 s1).trans ((zz0 (wn6 hw e1)).trans ((zz0 (tu_r0 hw e2)).trans (zz5 tu_s0))))⟩
end Pl
end
section
namespace Pl
open Mini PySem
variable {Fs:Fns} {fuel:Nat}
noncomputable def sub:Tm->List Bool->Option Tm
 | t,[]=>some t
 | .node _ a b,c::p=>sub (if c then b else a) p
 | .leaf _ _,_::_=>none
noncomputable def bit (c:Bool):D:=.int (if c then 1 else 0)
noncomputable def pth (p:List Bool):D:=.tuple (p.map bit)
theorem yw7:∀ {p:List Bool} {t u:Tm},sub t p=some u->p.length+num u<=num t
 | [],t,u,h=>by cases h; exact zX (u8 _)
 | c::p,.leaf _ _,u,h=>nomatch h
 | true::p,.node s a b,u,h=>by
  have ih:=yw7 (t:=b) h
  exact qt (zX (Qy ..)) (qt (zJ ih) (qt (zX (wk (num b) 1)) (xv (zx6 a) _)))
 | false::p,.node s a b,u,h=>by
  have ih:=yw7 (t:=a) h
  exact qt (zX (Qy ..)) (qa ih (zx6 b))
theorem yo8:∀ {p:List Bool} {t a b:Tm} {s:Sn} (c:Bool),sub t p=some (.node s a b)->sub t (p++[c])=some (if c then b else a)
 | [],t,a,b,s,c,h=>by cases h; rfl
 | d::p,.leaf _ _,a,b,s,c,h=>nomatch h
 | d::p,.node s' x y,a,b,s,c,h=>yo8 (t:=if d then y else x) c h
theorem yv7 (p:List Bool):(pth p).canLay0=true/\(pth p).depth<=1:=by
 refine ⟨zq5 (l:=p.map bit) fun x hx=>?_,zJ (zu4 (l:=p.map bit) fun x hx=>?_)⟩
 ·exact (zy.mp hx).elim fun c h=>h.2▸rfl
 ·exact (zy.mp hx).elim fun c h=>h.2▸zW _
theorem wm9 (p:List Bool):okd (pth p)=true:=zw.mpr ⟨(yv7 p).1,decide_eq_true (qy (yv7 p).2)⟩
noncomputable def wt (x:Tm×List Bool):D:=.tuple [enc x.1,pth x.2]
noncomputable def yp3 (c:Int):I:=(.app 2 (.tup (.cons (.idx (.idx (.var 3) (.cint 0)) (.cint (c+1))) (.cons (.bin .Add (.idx (.var 3) (.cint 1)) (.tup (.cons (.cint c) .nil))) .nil))))
noncomputable def xb1:I:=(.iff (.cmp .NotEq (.idx (.idx (.var 3) (.cint 0)) (.cint 0)) (.cstr "pair")) (.cons (.app 1 (.idx (.var 3) (.cint 1))) .nil) .nil)
noncomputable def wr6:I:=(.iff (.cmp .Eq (.prim1 .len (.idx (.var 3) (.cint 0))) (.cint 3)) (.cons xb1 (.cons (yp3 1) (.cons (yp3 0) .nil))) .nil)
noncomputable def za8:I:=(.cons (.asg 3 (.pop 2)) (.cons wr6 .nil))
noncomputable def za7:I:=(.cmp .NotEq (.brw 2) (.lst .nil))
noncomputable def zq3:I:=(.cons (.asg 1 (.lst .nil)) (.cons (.asg 2 (.lst (.cons (.tup (.cons (.var 0) (.cons (.tup .nil) .nil))) .nil))) (.cons (.whl za7 za8) (.cons (.ret (.var 1)) .nil))))
noncomputable abbrev joS (t0:D) (f l:List D) (x:Option AV):Mini.Sg:=[vl t0,ow (.list f),ow (.list l),x]
section
variable {m:Nat} {t0:D} {f l:List D} {x:Option AV} {s:Sn} {a b:Tm} {p:List Bool}
theorem yp2 (h:∀ y∈l,y.canLay0=true/\y.depth<=900):uno za7 (ev (Ga Fs fuel m) za7) (joS t0 f l x)=some (.bool (!l.isEmpty),joS t0 f l x):=by
 have ho:okd (.list l)=true:=zw.mpr ⟨zq5 fun y hy=>(h y hy).1,decide_eq_true (qt (zJ (zu4 fun y hy=>(h y hy).2)) (by decide))⟩
 rw [za7]; simp [c_ne,eqD,↓mkL0,ho,zn8,zj5]
theorem wr5 {o:Bool} {k:Int}:ex (Ga Fs fuel m) za8 (joS t0 f (l++[wt (.leaf o k,p)]) x)=some (.next (joS t0 f l (vl (wt (.leaf o k,p))))):=by
 rw [za8,zz0 (σ':=joS t0 f l (vl (wt (.leaf o k,p)))) (by simp),wr6]
 rfl
theorem xb0 (hz:f.length+1<size):ex (Ga Fs fuel m) xb1 (joS t0 f l (vl (wt (.node s a b,p))))=some (.next (joS t0 (if s=.pair then f else f++[pth p]) l (vl (wt (.node s a b,p))))):=by
 rw [xb1]
 by_cases hs:s=.pair
 ·subst hs
  simp [wt,zl5,Sn.str,c_ne,eqD,↓zx1,zw6,zy0]
 ·have e':(s.str==("pair" : Str))=false:=beq_eq_false_iff_ne.mpr (zr0 hs)
  simp [zz1,wt,zl5,c_ne,eqD,↓zx1,↓zq0,zw6,zt1,zy0,e',hs,hz]
theorem yg3 {c:Bool} (hz:l.length+1<size) (hp:p.length+1<=size):ex (Ga Fs fuel m) (yp3 (if c then 1 else 0)) (joS t0 f l (vl (wt (.node s a b,p))))=some (.next (joS t0 f (l++[wt (if c then b else a,p++[c])]) (vl (wt (.node s a b,p))))):=by
 rw [yp3]
 cases c<;>simp [wt,zl5,pth,bit,↓zx1,↓zq0,↓zd2,↓mkT1,↓mkT2,b_ad,zad2,mkT_,hz,hp]
theorem wr4 (hf:f.length+1<size) (hl:l.length+2<size) (hp:p.length+1<=size):ex (Ga Fs fuel m) za8 (joS t0 f (l++[wt (.node s a b,p)]) x)=some (.next (joS t0 (if s=.pair then f else f++[pth p]) (l++[wt (b,p++[true])]++[wt (a,p++[false])]) (vl (wt (.node s a b,p))))):=by
 rw [za8,zz0 (σ':=joS t0 f l (vl (wt (.node s a b,p)))) (by simp),zz0 (σ':=joS t0 (if s=.pair then f else f++[pth p]) (l++[wt (b,p++[true])]++[wt (a,p++[false])]) (vl (wt (.node s a b,p))))]
 ·rfl
 have e:uno (.cmp .Eq (.prim1 .len (.idx (.var 3) (.cint 0))) (.cint 3)) (ev (Ga Fs fuel m) (.cmp .Eq (.prim1 .len (.idx (.var 3) (.cint 0))) (.cint 3))) (joS t0 f l (vl (wt (.node s a b,p))))=some (.bool true,joS t0 f l (vl (wt (.node s a b,p)))):=by
  rfl
 rw [wr6,zz2,e]
 show ex _ (.cons xb1 (.cons (yp3 1) (.cons (yp3 0) .nil))) _=_
 exact (zz0 (xb0 hf)).trans ((zz0 (yg3 (c:=true) (jK hl) hp)).trans ((zz0 (yg3 (c:=false) (by rw [z9]; exact hl) hp)).trans rfl))
end
noncomputable def Jn (t:Tm) (p:List Bool):Prop:=∃ s a b,s≠.pair/\sub t p=some (.node s a b)
theorem wn5 {x:Tm×List Bool} (h:num x.1<=800):(wt x).canLay0=true/\(wt x).depth<=900:=by
 have h2:=yv7 x.2
 refine ⟨?_,?_⟩
 ·simp [wt,vQ,wQ,xu9,h2.1]
 ·exact qt (nmx (k:=802) (ql (qt (xt0 x.1) h) (by decide)) (ql h2.2 (by decide))) (by decide)
theorem ym4 {m:Nat} {T:Tm} (hT:num T<=100):∀ (f:Nat) (ws:List (Tm×List Bool)) (fs:List (List Bool)) (x:Option AV),(∀ y∈ws,sub T y.2=some y.1)->(∀ p∈fs,Jn T p)->(ws.map fun y=>nds y.1).sum<f->ws.length+fs.length+2*(ws.map fun y=>nds y.1).sum<=50000 ->
  ∃ (fs':List (List Bool)) (x':Option AV),zp1 (uno za7 (ev (Ga Fs fuel m) za7)) (ex (Ga Fs fuel m) za8) f (joS (enc T) (fs.map pth) (ws.reverse.map wt) x)=some (.next (joS (enc T) (fs'.map pth) [] x'))/\(∀ p∈fs',Jn T p)/\fs'.length<=100000:=by
 intro f
 induction f with
 | zero=>exact fun _ _ _ _ _ h _=>absurd h (Nat.not_lt_zero _)
 | succ f ym4 =>
  intro ws
  cases ws with
  | nil=>exact fun fs x _ hj _ hz=>⟨fs,x,zl8 (d:=.bool false) (yp2 fun y hy=>nomatch hy) rfl,hj,qt (qr (qf hz)) (by decide)⟩
  | cons tp r =>
  cases tp with
  | mk t p =>
  intro fs x hw hj hf hz
  have hsub:sub T p=some t:=hw (t,p) mh
  have hnum:=yw7 hsub
  have ht:=yp2 (Fs:=Fs) (fuel:=fuel) (m:=m) (t0:=enc T) (f:=fs.map pth) (l:=((t,p)::r).reverse.map wt) (x:=x) fun y hy=>(zy.mp hy).elim fun z h=>h.2▸wn5 (qt (qr (yw7 (hw z (List.mem_reverse.mp h.1)))) (qy hT))
  have er:((t,p)::r).reverse.map wt=r.reverse.map wt++[wt (t,p)]:=by simp
  rw [er] at ht |-
  have he:(r.reverse.map wt++[wt (t,p)]).isEmpty=false:=by simp
  rw [he] at ht
  cases t with
  | leaf o k =>
   obtain ⟨fs',x',ih,h1,h2⟩:=ym4 r fs (vl (wt (.leaf o k,p))) (fun y hy=>hw y (mt hy)) hj (by simp [yb2] at hf; bv_omega) (by simp [yb2] at hz; bv_omega)
   exact ⟨fs',x',(zs9 ht rfl wr5).trans ih,h1,h2⟩
  | node s a b =>
   have q1:=yo8 true hsub
   have q2:=yo8 false hsub
   obtain ⟨fs',x',ih,h1,h2⟩:=ym4 ((a,p++[false])::(b,p++[true])::r) (if s=.pair then fs else fs++[p]) (vl (wt (.node s a b,p))) (fun y hy=>by
    rcases z0.mp hy with rfl|hy
    ·exact q2
    ·rcases z0.mp hy with rfl|hy
     ·exact q1
     ·exact hw y (mt hy)) (fun y hy=>by
    by_cases hs:s=.pair
    ·rw [if_pos hs] at hy; exact hj y hy
    ·rw [if_neg hs] at hy
     rcases qW.mp hy with q|q
     ·exact hj y q
     ·rw [xq.mp q]; exact ⟨s,a,b,hs,hsub⟩) (by simp [yh2] at hf |-; bv_omega) (by by_cases hs:s=.pair<;>simp [yh2,hs] at hz |-<;>bv_omega)
   have hz1:(fs.map pth).length+1<size:=by rw [xw]; exact qx (zJ (qr (qf hz)))
   have hz2:(r.reverse.map wt).length+2<size:=by rw [xw,List.length_reverse]; exact qx (zJ (qf (qf hz)))
   have e1:((a,p++[false])::(b,p++[true])::r).reverse.map wt=r.reverse.map wt++[wt (b,p++[true])]++[wt (a,p++[false])]:=by simp
   have e2:(if s=.pair then fs else fs++[p]).map pth=(if s=.pair then fs.map pth else fs.map pth++[pth p]):=by split<;>simp
   rw [e1,e2] at ih
   exact ⟨fs',x',(zs9 ht rfl (wr4 hz1 hz2 (qt (zJ (qt (qf hnum) hT)) (by decide)))).trans ih,h1,h2⟩
theorem xn8 (h:Has Fs "_law_joins" ⟨1,4,zq3⟩) (n:Nat) {t:Tm} (hn:num t<=100) (hf:1000<=fuel) :
  ∃ fs:List (List Bool),(∀ p∈fs,Jn t p)/\fs.length<=100000/\run Fs glo fuel (n+1) "_law_joins" [enc t]=some (.list (fs.map pth),false):=by
 have hnd:=yb1 t
 refine elEEAA (ym4 (Fs:=Fs) (fuel:=fuel) (m:=n) hn fuel [(t,[])] [] none (fun y hy=>by rw [xq.mp hy]; rfl) (fun y hy=>nomatch hy) (by simp; bv_omega) (by simp; bv_omega)) fun fs x hl hj hlen=>?_
 refine ⟨fs,hj,hlen,zz4 h rfl ?_⟩
 refine (zz0 (σ':=[vl (enc t),ow (.list []),none,none]) rfl).trans ((zz0 (σ':=joS (enc t) [] [wt (t,[])] none) rfl).trans ((zz0 (σ':=joS (enc t) (fs.map pth) [] x) ?_).trans (zz5 rfl)))
 rw [eq_ex_whl]; exact hl
noncomputable def yn9:I:=(.asg 3 (.call "_law_moved" (.cons (.idx (.var 0) (.bin .Add (.cint 1) (.idx (.var 2) (.cint 0)))) (.cons (.var 1) (.cons (.slc (.var 2) (.cint 1) .omit) .nil)))))
noncomputable def yh3:I:=(.iff (.cmp .Eq (.var 2) (.tup .nil)) (.cons (.ret (.call "_law_turned" (.cons (.var 0) (.cons (.var 1) .nil)))) .nil) .nil)
noncomputable def mo_a:I:=(.iff (.cmp .Eq (.idx (.var 2) (.cint 0)) (.cint 0)) (.cons (.ret (.tup (.cons (.idx (.var 0) (.cint 0)) (.cons (.var 3) (.cons (.idx (.var 0) (.cint 2)) .nil))))) .nil) .nil)
noncomputable def mo_b:I:=(.ret (.tup (.cons (.idx (.var 0) (.cint 0)) (.cons (.idx (.var 0) (.cint 1)) (.cons (.var 3) .nil)))))
noncomputable def zq2:I:=(.cons yh3 (.cons yn9 (.cons mo_a (.cons mo_b .nil))))
theorem xv1:okd (.tuple [])=true:=by decide +kernel
noncomputable abbrev moS (s:Sn) (a b:Tm) (w:Str) (p:List D) (x:Option AV):Mini.Sg:=[vl (.tuple [.str s.str,enc a,enc b]),vl (.str w),vl (.tuple p),x]
section
variable {m:Nat} {s:Sn} {a b t:Tm} {w:Str} {p:List Bool} {c:Bool} {x:Option AV}
theorem wt7 (hr:run Fs glo fuel m "_law_turned" [enc (.node s a b),.str w]=some (enc t,false)):ex (Ga Fs fuel m) yh3 (moS s a b w [] x)=some (.ret (enc t) false):=by
 have hr':run Fs glo fuel m "_law_turned" [.tuple [.str s.str,enc a,enc b],.str w]=some (enc t,false):=hr
 have e:qX (.tuple []) (.tuple [])=true:=rfl
 rw [yh3]; simp [zz1,c_eq,eqD,↓mkT0,xv1,e,hr']
theorem xk1:ex (Ga Fs fuel m) yh3 (moS s a b w ((c::p).map bit) x)=some (.next (moS s a b w ((c::p).map bit) x)):=by
 have h:okd (.tuple (bit c::p.map bit))=true:=wm9 (c::p)
 have e:qX (.tuple (bit c::p.map bit)) (.tuple [])=false:=rfl
 rw [yh3]; simp [c_eq,eqD,↓mkT0,xv1,h,e]
theorem wl9 (hr:run Fs glo fuel m "_law_moved" [enc (if c then b else a),.str w,pth p]=some (enc t,false)):ex (Ga Fs fuel m) yn9 (moS s a b w ((c::p).map bit) x)=some (.next (moS s a b w ((c::p).map bit) (vl (enc t)))):=by
 have hb:(1:Int)<=(p.length:Int)+1:=Int.le_add_of_nonneg_left (Int.natCast_nonneg _)
 have hr':run Fs glo fuel m "_law_moved" [enc (if c then b else a),.str w,.tuple (p.map bit)]=some (enc t,false):=hr
 rw [yn9]
 cases c with
 | true=>simp [bit,↓zx1,↓ys5,↓zd2,zu3,bE_o,bE_c,zsl2,bD_,hb]; rw [show run Fs glo fuel m "_law_moved" [enc b,.str w,.tuple (p.map bit)]=some (enc t,false) from hr']; rfl
 | false=>simp [bit,↓zx1,↓ys5,↓zq0,zu3,bE_o,bE_c,zsl2,bD_,hb]; rw [show run Fs glo fuel m "_law_moved" [enc a,.str w,.tuple (p.map bit)]=some (enc t,false) from hr']; rfl
theorem mo_a1:ex (Ga Fs fuel m) mo_a (moS s a b w ((false::p).map bit) (vl (enc t)))=some (.ret (enc (.node s t b)) false):=by
 rw [mo_a]; simp [zz1,c_eq,eqD,bit,↓zx1,↓zd2,↓mkT3,zx9,zs0,zl5]
theorem mo_a0:ex (Ga Fs fuel m) mo_a (moS s a b w ((true::p).map bit) (vl (enc t)))=some (.next (moS s a b w ((true::p).map bit) (vl (enc t)))):=by
 rw [mo_a]; simp [c_eq,eqD,bit,↓zx1,zx9,zs0]
theorem mo_b0:ex (Ga Fs fuel m) mo_b (moS s a b w ((true::p).map bit) (vl (enc t)))=some (.ret (enc (.node s a t)) false):=by
 rw [mo_b]; simp [↓zx1,↓zq0,↓mkT3,zl5]
end
structure Kept (t t':Tm):Prop where
 shp:Pl.shp t'=Pl.shp t
 num:Pl.num t'=Pl.num t
 ok:Pl.ok t->Pl.ok t'
 opl:Pl.opl t=[]->Pl.opl t'=[]
theorem wy3 {s:Sn} {a b a' b':Tm} (h1:shp a=shp a') (h2:shp b=shp b'):shp (.node s a b)=shp (.node s a' b'):=by
 show (if s=.pair then _ else _)=(if s=.pair then _ else _)
 rw [h1,h2]
theorem yv2 (h:Has Fs "_law_turned" ⟨2,3,zu9⟩) (h2:Has Fs "_law_moved" ⟨3,4,zq2⟩) {w:Str} (hw:okd (.str w)=true):∀ (p:List Bool) (t:Tm) (n:Nat),Jn t p ->
  ∃ t',Kept t t'/\run Fs glo fuel (n+p.length+2) "_law_moved" [enc t,.str w,pth p]=some (enc t',false)
 | [],t,n,hj=>by
  refine elEEEA (hj) fun s a b hs e=>?_
  cases e
  refine elEA (xr3 (fuel:=fuel) h n s a b hw) fun t' ht hr=>?_
  exact ⟨t',⟨ht.shp hs,ht.num,ht.ok,ht.opl⟩,zz4 h2 rfl (zz5 (wt7 hr))⟩
 | c::p,.leaf _ _,n,hj=>by
  refine elEEEA (hj) fun s a b hs e=>?_
  cases e
 | true::p,.node s a b,n,hj=>by
  refine elEA (yv2 h h2 hw p b n hj) fun t' K hr=>?_
  exact ⟨.node s a t',⟨wy3 rfl K.shp,congrArg (num a+·) K.num,fun q=>⟨q.1,K.ok q.2⟩,fun q=>jX.mpr ⟨(jX.mp q).1,K.opl (jX.mp q).2⟩⟩,zz4 h2 rfl ((zz0 xk1).trans ((zz0 (wl9 (c:=true) hr)).trans ((zz0 mo_a0).trans (zz5 mo_b0))))⟩
 | false::p,.node s a b,n,hj=>by
  refine elEA (yv2 h h2 hw p a n hj) fun t' K hr=>?_
  exact ⟨.node s t' b,⟨wy3 K.shp rfl,congrArg (·+num b) K.num,fun q=>⟨K.ok q.1,q.2⟩,fun q=>jX.mpr ⟨K.opl (jX.mp q).1,(jX.mp q).2⟩⟩,zz4 h2 rfl ((zz0 xk1).trans ((zz0 (wl9 (c:=false) hr)).trans (zz5 mo_a1)))⟩
end Pl
end
section
namespace Pl
open Mini PySem
variable {Fs:Fns} {fuel:Nat}
theorem xl5 {a b n:Nat} (h:a+b<=n+1) (pa:1<=a) (pb:1<=b):∃ m,n=m+1/\a<=m+1/\b<=m+1:=by
 cases n with
 | zero=>exact absurd (qt (qa pa pb) h) (by decide)
 | succ m=>exact ⟨m,rfl,kW (qt (qZ pb a) h),kW (qt (zX (wk b 1)) (qt (xv pa b) h))⟩
noncomputable def zt9:I:=(.cons (.iff (.cmp .Eq (.prim1 .len (.var 0)) (.cint 2)) (.cons (.ret (.prim1 .int (.cmp .Eq (.var 0) (.var 1)))) .nil) .nil) (.cons (.ret (.bin .Add (.call "_law_times" (.cons (.idx (.var 0) (.cint 1)) (.cons (.var 1) .nil))) (.call "_law_times" (.cons (.idx (.var 0) (.cint 2)) (.cons (.var 1) .nil))))) .nil))
theorem xj0 (o:Bool) (k i:Int):qX (.tuple [.str (lstr o),.int k]) (.tuple [.str "open", .int i])=(o&&k==i):=by
 cases o with
 | true=>show (("open" : Str) == "open" && (k==i&&true))=_; rw [beq_self_eq_true,Bool.and_true]
 | false=>show (("name" : Str) == "open" && (k==i&&true))=_; rw [show (("name" : Str) == "open")=false by decide]; rfl
theorem yv1 (h:Has Fs "_law_times" ⟨2,2,zt9⟩) (i:Int):∀ (t:Tm) (n:Nat),num t<=n+1->run Fs glo fuel (n+1) "_law_times" [enc t,.tuple [.str "open", .int i]]=some (.int (jJ i (opl t):Nat),false)
 | .leaf o k,n,_=>by
  have e:=xj0 o k i
  have o1:=yx5 o k
  have o2:okd (.tuple [.str "open", .int i])=true:=yx5 true i
  refine zz4 h rfl (zz5 ?_)
  show ex (Ga Fs fuel n) _ [vl (.tuple [.str (lstr o),.int k]),vl (.tuple [.str "open", .int i])]=_
  have hi:((if (o&&k==i)=true then (1:Int) else 0))=((jJ i (opl (.leaf o k)):Nat):Int):=by
   cases o
   ·rfl
   ·show _=((jJ i [k]:Nat):Int)
    rw [List.count_singleton]
    by_cases q:k=i<;>simp [q]
  rw [<- hi]
  simp [zz1,c_eq,eqD,zp5,zle2,zx9,zs0,o1,o2,e,p_int,intD]
 | .node s a b,n,hn=>by
  (refine elEAA (xl5 hn (zx6 a) (zx6 b)) fun m e_1 ha hb=>?_; subst e_1)
  have ea:=yv1 h i a m ha
  have eb:=yv1 h i b m hb
  refine zz4 h rfl ?_
  show ex (Ga Fs fuel (m+1)) zt9 [vl (.tuple [.str s.str,enc a,enc b]),vl (.tuple [.str "open", .int i])]=_
  have hc:((jJ i (opl a):Nat):Int)+((jJ i (opl b):Nat):Int)=((jJ i (opl (.node s a b)):Nat):Int):=by
   show _=((jJ i (opl a++opl b):Nat):Int)
   rw [List.count_append]; rfl
  rw [zt9,zz0 (σ':=[vl (.tuple [.str s.str,enc a,enc b]),vl (.tuple [.str "open", .int i])]) (rfl),<- hc]
  refine zz5 ?_
  simp [↓zq0,↓zd2,ea,eb,↓ys5]
noncomputable def sbs (f:Int->Tm):Tm->Tm
 | .leaf true k=>f k
 | .leaf false k=>.leaf false k
 | .node s a b=>.node s (sbs f a) (sbs f b)
theorem sbs_a {f k}:sbs f (.leaf true k)=f k:=rfl
theorem sbs_c {f k}:sbs f (.leaf false k)=.leaf false k:=rfl
theorem sbs_b {f s a b}:sbs f (.node s a b)=.node s (sbs f a) (sbs f b):=rfl
noncomputable def pu_o:I:=(.iff (.cmp .Eq (.idx (.var 0) (.cint 0)) (.cstr "open")) (.cons (.ret (.idx (.var 1) (.idx (.var 0) (.cint 1)))) .nil) .nil)
noncomputable def pu_n:I:=(.iff (.cmp .Eq (.idx (.var 0) (.cint 0)) (.cstr "name")) (.cons (.ret (.var 0)) .nil) .nil)
noncomputable def pu_r:I:=(.ret (.tup (.cons (.idx (.var 0) (.cint 0)) (.cons (.call "_law_put" (.cons (.idx (.var 0) (.cint 1)) (.cons (.var 1) .nil))) (.cons (.call "_law_put" (.cons (.idx (.var 0) (.cint 2)) (.cons (.var 1) .nil))) .nil)))))
noncomputable def za9:I:=(.cons pu_o (.cons pu_n (.cons pu_r .nil)))
theorem yd9 (h:Has Fs "_law_put" ⟨2,2,za9⟩) {f:Int->Tm} {κ:Kn}:∀ (t:Tm) (n:Nat),num t<=n+1->(∀ i∈opl t,lk κ i=some (enc (f i)))->run Fs glo fuel (n+1) "_law_put" [enc t,dK κ]=some (enc (sbs f t),false)
 | .leaf true k,n,_,hk=>by
  have e:=hk k mh
  refine zz4 h rfl (zz5 ?_)
  show ex (Ga Fs fuel n) pu_o [vl (.tuple [.str "open", .int k]),vl (dK κ)]=_
  rw [pu_o]; simp [zz1,c_eq,eqD,↓zx1,↓zq0,zix3,sbs_a,zv6,zy0,zt8,zm4,e]
 | .leaf false k,n,_,hk=>by
  refine zz4 h rfl ((zz0 (σ':=[vl (.tuple [.str "name", .int k]),vl (dK κ)]) ?_).trans (zz5 ?_))
  ·show ex (Ga Fs fuel n) pu_o [vl (.tuple [.str "name", .int k]),vl (dK κ)]=_
   rw [pu_o]; simp [c_eq,eqD,↓zx1,zv6,zu7,zy0,zi7]
  ·rw [pu_n]; simp [zz1,c_eq,eqD,↓zx1,zu7,zy0,sbs_c,zo9,lstr]
 | .node s a b,n,hn,hk=>by
  (refine elEAA (xl5 hn (zx6 a) (zx6 b)) fun m e_1 ha hb=>?_; subst e_1)
  have ea:=yd9 h a m ha fun i hi=>hk i (ml hi)
  have eb:=yd9 h b m hb fun i hi=>hk i (mr hi)
  have o1:(s.str==("open" : Str))=false:=by cases s<;>decide
  have o2:(s.str==("name" : Str))=false:=by cases s<;>decide
  refine zz4 h rfl ((zz0 (σ':=[vl (.tuple [.str s.str,enc a,enc b]),vl (dK κ)]) ?_).trans ((zz0 (σ':=[vl (.tuple [.str s.str,enc a,enc b]),vl (dK κ)]) ?_).trans (zz5 ?_)))
  ·show ex (Ga Fs fuel (m+1)) pu_o [vl (.tuple [.str s.str,enc a,enc b]),vl (dK κ)]=_
   rw [pu_o]; simp [c_eq,eqD,↓zx1,zv6,zt1,zy0,o1]
  ·rw [pu_n]; simp [c_eq,eqD,↓zx1,zu7,zt1,zy0,o2]
  ·rw [pu_r]; simp [↓zx1,↓zq0,↓zd2,ea,eb,↓mkT3,sbs_b,zl5]
noncomputable def fo_b:I:=(.cons (.iff (.cmp .Eq (.idx (.var 4) (.cint 0)) (.idx (.var 0) (.cint 0))) (.cons (.asg 3 (.bin .Add (.brw 3) (.prim1 .list (.slc (.var 4) (.cint 1) .omit)))) .nil) (.cons (.app 3 (.var 4)) .nil)) .nil)
noncomputable def fo_0:I:=(.iff (.cmp .Eq (.prim1 .len (.var 0)) (.cint 2)) (.cons (.ret (.var 0)) .nil) .nil)
noncomputable def fo_p:I:=(.iff (.cmp .Eq (.idx (.var 0) (.cint 0)) (.cstr "pair")) (.cons (.ret (.tup (.cons (.cstr "pair") (.cons (.var 1) (.cons (.var 2) .nil))))) .nil) .nil)
noncomputable def fo_r:I:=(.ret (.bin .Add (.tup (.cons (.idx (.var 0) (.cint 0)) .nil)) (.prim1 .tuple (.prim1 .sorted (.brw 3)))))
noncomputable def zj2:I:=(.cons fo_0 (.cons (.asg 1 (.call "_law_form" (.cons (.idx (.var 0) (.cint 1)) .nil))) (.cons (.asg 2 (.call "_law_form" (.cons (.idx (.var 0) (.cint 2)) .nil))) (.cons fo_p (.cons (.asg 3 (.lst .nil)) (.cons (.for1 4 (.lst (.cons (.var 1) (.cons (.var 2) .nil))) fo_b) (.cons fo_r .nil)))))))
noncomputable abbrev frS (s:Sn) (x y u v:D) (acc:Option AV) (z:Option AV):Mini.Sg:=[vl (.tuple [.str s.str,x,y]),vl u,vl v,acc,z]
section
variable {m k:Nat} {s:Sn} {x y u v d:D} {acc:List D} {z:Option AV}
theorem xi6 (hd:Can k d) (hz:acc.length+(parts s d).length<size):ex (Ga Fs fuel m) fo_b (frS s x y u v (ow (.list acc)) (vl d))=some (.next (frS s x y u v (ow (.list (acc++parts s d))) (vl d))):=by
 (refine elEEA (hd.head) fun x r e_2 ox=>?_; subst e_2)
 have hr:(1:Int)<=(r.length:Int)+1:=Int.le_add_of_nonneg_left (Int.natCast_nonneg _)
 by_cases e:x=s.str
 ·subst e
  rw [zv4] at hz |-
  have hz':acc.length+r.length<=size:=zq hz
  rw [fo_b,zz0 (by simp [zu3,zz1,c_eq,eqD,b_ad,zad1,mkL_,xd4,zse2,↓zx1,bE_o,bE_c,zsl2,bD_,orS,zt1,zy0,hr,hz']; rfl)]
  rfl
 ·have e':(x==s.str)=false:=beq_eq_false_iff_ne.mpr e
  have hp:parts s (.tuple (.str x::r))=[.tuple (.str x::r)]:=by simp [ze5,e]
  rw [hp] at hz |-
  have hz':acc.length+1<size:=hz
  rw [fo_b,zz0 (by simp [zz1,c_eq,eqD,↓zx1,zt1,ox,zy0,e',hz']; rfl)]
  rfl
theorem fo_end {R:List D} (hso:zi0 R=some (.list (zx4 R),true)) (hl:R.length<64):ex (Ga Fs fuel m) fo_r (frS s x y u v (ow (.list R)) z)=some (.ret (.tuple (.str s.str::zx4 R)) false):=by
 have h1:(zx4 R).length+1<=size:=by rw [(zz3 R).length_eq]; exact qt hl (by decide)
 rw [fo_r]; simp [b_ad,zad2,↓zx1,↓mkT1,mkT_,xd3,xm7,zso1,zse1,xm2,hso,h1]
end
theorem yv3 (h:Has Fs "_law_form" ⟨1,5,zj2⟩):∀ (t:Tm) (n:Nat),num t<=n+1->num t<=20->run Fs glo fuel (n+1) "_law_form" [enc t]=some (shp t,false)
 | .leaf o k,n,_,_=>by
  refine zz4 h rfl (zz5 ?_)
  show ex (Ga Fs fuel n) fo_0 [vl (.tuple [.str (lstr o),.int k]),none,none,none,none]=_
  rw [fo_0]; simp [zz1,c_eq,eqD,zp5,zle2,zx9,zs0,xr2,zo9]
 | .node s a b,n,hn,h20=>by
  (refine elEAA (xl5 hn (zx6 a) (zx6 b)) fun m e_1 ha hb=>?_; subst e_1)
  have h20':num a+num b<=20:=h20
  have ea:=yv3 h a m ha (qf h20')
  have eb:=yv3 h b m hb (qr h20')
  have ca:=(zw7 a (qf h20')).1
  have cb:=(zw7 b (qr h20')).1
  refine zz4 h rfl ((zz0 (σ':=[vl (.tuple [.str s.str,enc a,enc b]),none,none,none,none]) ?_).trans ((zz0 (σ':=[vl (.tuple [.str s.str,enc a,enc b]),vl (shp a),none,none,none]) ?_).trans ((zz0 (σ':=frS s (enc a) (enc b) (shp a) (shp b) none none) ?_).trans ?_)))
  ·show ex (Ga Fs fuel (m+1)) fo_0 [vl (.tuple [.str s.str,enc a,enc b]),none,none,none,none]=_
   rw [fo_0]; simp [c_eq,eqD,zp5,zle2,zx9,zs0]
  ·simp [↓zq0,ea]
  ·simp [↓zd2,eb]
  by_cases hs:s=.pair
  ·subst hs
   refine zz5 ?_
   rw [fo_p]; simp [zz1,c_eq,eqD,↓zx1,↓mkT3,zw6,zy0,Sn.str,zk2]
  ·have o3:(s.str==("pair" : Str))=false:=beq_eq_false_iff_ne.mpr (zr0 hs)
   have la:=zc5 hs ca
   have lb:=zc5 hs cb
   rw [(zw7 a (qf h20')).2] at la
   rw [(zw7 b (qr h20')).2] at lb
   have hl:(parts s (shp a)++parts s (shp b)).length<64:=by rw [z9]; exact qx (qt (qa la lb) h20')
   have hso:=xn2 (k:=20) (l:=parts s (shp a)++parts s (shp b)) (fun x hx=>(qW.mp hx).elim (fun q=>(ca.parts_can hs x q).mono (qf h20')) fun q=>(cb.parts_can hs x q).mono (qr h20')) (by decide) hl
   rw [zs1 hs]
   refine (zz0 (σ':=frS s (enc a) (enc b) (shp a) (shp b) none none) (by rw [fo_p]; simp [c_eq,eqD,↓zx1,zw6,zt1,zy0,o3])).trans ((zz0 (σ':=frS s (enc a) (enc b) (shp a) (shp b) (ow (.list [])) none) rfl).trans ((zz0 (σ':=frS s (enc a) (enc b) (shp a) (shp b) (ow (.list (parts s (shp a)++parts s (shp b)))) (vl (shp b))) ?_).trans (zz5 (fo_end hso hl))))
   rw [zy4]
   show forN (zn4 4) (ex (Ga Fs fuel (m+1)) fo_b) [shp a,shp b] (frS s (enc a) (enc b) (shp a) (shp b) (ow (.list [])) none)=_
   rw [zv1 rfl (xi6 ca (by rw [List.length_nil,u8]; exact qx (qt la (qf h20')))),zv1 rfl (xi6 cb (by rw [List.nil_append]; exact qx (qt (qa la lb) h20')))]
   rfl
end Pl
end
section
namespace Pl
open Mini PySem
variable {Fs:Fns} {fuel:Nat}
noncomputable def Pd:Nat->D->Prop
 | _,.int _=>True
 | _,.str s=>okd (.str s)=true
 | n+1,.tuple l=>l.length<=100/\∀ x∈l,Pd n x
 | _,_=>False
theorem Pd.cases {P:D->Prop} {n:Nat} {d:D} (h:Pd n d) (hi:∀ i,P (.int i)) (hs:∀ s,okd (.str s)=true->P (.str s)) (ht:∀ m l,n=m+1->l.length<=100->(∀ x∈l,Pd m x)->P (.tuple l)):P d:=by
 cases d with
 | int i=>exact hi i
 | str s=>exact hs s (by cases n<;>exact h)
 | tuple l =>
  cases n with
  | zero=>exact (show False from h).elim
  | succ m=>exact ht m l rfl h.1 h.2
 | none=>cases n<;>exact (show False from h).elim
 | bool b=>cases n<;>exact (show False from h).elim
 | list l=>cases n<;>exact (show False from h).elim
 | dict l=>cases n<;>exact (show False from h).elim
noncomputable def sm_b:I:=(.cons (.iff (.not (.call "_law_same" (.cons (.idx (.var 0) (.var 2)) (.cons (.idx (.var 1) (.var 2)) .nil)))) (.cons (.ret (.cbool false)) .nil) .nil) .nil)
noncomputable def sm_l:I:=(.iff (.or (.cons (.not (.isi (.var 0) "tuple")) (.cons (.cmp .NotEq (.prim1 .len (.var 0)) (.prim1 .len (.var 1))) .nil))) (.cons (.ret (.cbool false)) .nil) .nil)
noncomputable def sm_t:I:=(.cons sm_l (.cons (.for1 2 (.rng1 (.prim1 .len (.var 1))) sm_b) (.cons (.ret (.cbool true)) .nil)))
noncomputable def sm_s:I:=(.iff (.isi (.var 1) "str") (.cons (.ret (.and (.cons (.isi (.var 0) "str") (.cons (.cmp .Eq (.var 0) (.var 1)) .nil)))) .nil) .nil)
noncomputable def sm_i:I:=(.ret (.and (.cons (.isi (.var 0) "int") (.cons (.not (.isi (.var 0) "bool")) (.cons (.cmp .Eq (.var 0) (.var 1)) .nil)))))
noncomputable def zt5:I:=(.cons (.iff (.isi (.var 1) "tuple") sm_t .nil) (.cons sm_s (.cons sm_i .nil)))
section
variable {m n:Nat}
theorem wq3 {bnd:D->Mini.Sg->Option Mini.Sg} {body:Mini.Sg->Option Out} {d e:D} {f:Bool} {r:List D} {σ σ1:Mini.Sg} (h1:bnd d σ=some σ1) (h2:body σ1=some (.ret e f)):forN bnd body (d::r) σ=some (.ret e f):=by
 show ((bnd d σ).bind fun σ'=>(body σ').bind (zl9 (forN bnd body r)))=_
 rw [h1]
 show (body σ1).bind (zl9 (forN bnd body r))=_
 rw [h2]; rfl
theorem wv9 {xs ys:List D} {x y:D} {k:Nat} {c:Bool} (hx:xs[k]?=some x) (hy:ys[k]?=some y) (hr:run Fs glo fuel m "_law_same" [x,y]=some (.bool c,false)):ex (Ga Fs fuel m) sm_b [vl (.tuple xs),vl (.tuple ys),vl (.int k)]=if c then some (.next [vl (.tuple xs),vl (.tuple ys),vl (.int k)]) else some (.ret (.bool false) false):=by
 rw [sm_b]
 cases c<;>simp [zz1,zix2,hx,hy,hr]
theorem xn4 (ih:∀ x d,Pd n x->Pd n d->run Fs glo fuel m "_law_same" [x,d]=some (.bool (qX x d),false)):∀ (xb yb xa ya:List D) (z:Option AV),xa.length=ya.length->xb.length=yb.length->(∀ x∈xb,Pd n x)->(∀ x∈yb,Pd n x) ->
  ∃ z',forN (zn4 2) (ex (Ga Fs fuel m) sm_b) ((List.range' xa.length yb.length).map fun k:Nat=>vy (0+(k:Int))) [vl (.tuple (xa++xb)),vl (.tuple (ya++yb)),z]=if vj xb yb then some (.next [vl (.tuple (xa++xb)),vl (.tuple (ya++yb)),z']) else some (.ret (.bool false) false)
 | [],[],xa,ya,z,_,_,_,_=>⟨z,rfl⟩
 | [],_::_,_,_,_,_,h,_,_=>nomatch h
 | _::_,[],_,_,_,_,h,_,_=>nomatch h
 | x::xb,y::yb,xa,ya,z,ha,hb,hx,hy=>by
  have e1:(xa++x::xb)[xa.length]?=some x:=by simp
  have e2:(ya++y::yb)[xa.length]?=some y:=by rw [ha]; simp
  have hs:=wv9 e1 e2 (ih x y (hx x mh) (hy y mh))
  rw [show (List.range' xa.length (y::yb).length)=xa.length::List.range' (xa.length+1) yb.length from rfl,xz]
  have hb1:zn4 2 (.int (0+(xa.length:Int))) [vl (.tuple (xa++x::xb)),vl (.tuple (ya++y::yb)),z]=some [vl (.tuple (xa++x::xb)),vl (.tuple (ya++y::yb)),vl (.int xa.length)]:=by rw [Int.zero_add]; rfl
  cases hc:qX x y with
  | false =>
   rw [hc] at hs
   refine ⟨z,?_⟩
   rw [wq3 hb1 hs,show vj (x::xb) (y::yb)=(qX x y&&vj xb yb) from rfl,hc]; rfl
  | true =>
   rw [hc] at hs
   obtain ⟨z',h⟩:=xn4 ih xb yb (xa++[x]) (ya++[y]) (vl (.int xa.length)) (by simp [ha]) (QK hb) (fun a h=>hx a (mt h)) fun a h=>hy a (mt h)
   rw [xk,xk,z9] at h
   refine ⟨z',?_⟩
   rw [zv1 hb1 hs,show vj (x::xb) (y::yb)=(qX x y&&vj xb yb) from rfl,hc,Q7]
   exact h
theorem yp9:∀ {xs ys:List D},xs.length≠ys.length->vj xs ys=false
 | [],[],h=>absurd rfl h
 | [],_::_,_=>rfl
 | _::_,[],_=>rfl
 | x::xs,y::ys,h=>by
  show (qX x y&&vj xs ys)=false
  rw [yp9 fun e=>h (congrArg Nat.succ e),Bool.and_false]
theorem wn7 (ih:∀ x d,Pd n x->Pd n d->run Fs glo fuel m "_law_same" [x,d]=some (.bool (qX x d),false)) {xs ys:List D} (h1:xs.length<=100) (h2:ys.length<=100) (hx:∀ x∈xs,Pd n x) (hy:∀ x∈ys,Pd n x) :
  ex (Ga Fs fuel m) sm_t [vl (.tuple xs),vl (.tuple ys),none]=some (.ret (.bool (vj xs ys)) false):=by
 by_cases hl:xs.length=ys.length
 ·obtain ⟨z',e⟩:=xn4 ih xs ys [] [] none rfl hl hx hy
  have hs1:zz9 (ys.length:Int)=true:=decide_eq_true (na62 h2)
  have hs2:ys.length<=size:=qy h2
  refine (zz0 (σ':=[vl (.tuple xs),vl (.tuple ys),none]) (by rw [sm_l]; simp [c_ne,eqD,zp5,zle2,zx9,zs0,isi_tuple,hl])).trans ?_
  have es:ex (Ga Fs fuel m) (.for1 2 (.rng1 (.prim1 .len (.var 1))) sm_b) [vl (.tuple xs),vl (.tuple ys),none]=if vj xs ys then some (.next [vl (.tuple xs),vl (.tuple ys),z']) else some (.ret (.bool false) false):=by
   rw [zy4,show srcE (ev (Ga Fs fuel m) (.rng1 (.prim1 .len (.var 1)))) [vl (.tuple xs),vl (.tuple ys),none]=some ((List.range' 0 ys.length).map fun k:Nat=>vy (0+(k:Int)),[vl (.tuple xs),vl (.tuple ys),none]) by
    simp [zp5,zle2,zai,zit1,hs1,hs2,zt6,List.range_eq_range']]
   exact e
  cases hq:vj xs ys with
  | true=>rw [hq] at es; exact (zz0 es).trans (zz5 rfl)
  | false=>rw [hq] at es; exact zz5 es
 ·have h0:((xs.length:Int)==(ys.length:Int))=false:=beq_eq_false_iff_ne.mpr fun e=>hl (Int.ofNat.inj e)
  rw [yp9 hl]
  refine zz5 ?_
  rw [sm_l]; simp [zz1,c_ne,eqD,zp5,zle2,zx9,zs0,isi_tuple,h0]
end
theorem xy6 {x:D} {Γ:Mini.Env} {d:D} {c:Bool} {z:Option AV} (h1:isI x=c) (h2:isB x=false) (h3:c=true->cmpD .Eq x d=some (qX x d)) (h4:c=false->qX x d=false):ex Γ sm_i [vl x,vl d,z]=some (.ret (.bool (qX x d)) false):=by
 have e1:isiD x "int" = some c:=by rw [<- h1]; rfl
 have e2:isiD x "bool" = some false:=by rw [<- h2]; rfl
 rw [sm_i]
 cases c with
 | true=>simp [e1,e2,h3 rfl]
 | false=>simp [e1,h4 rfl]
theorem wy2 {m n:Nat} (ih:∀ k,n=k+1->∀ x d,Pd k x->Pd k d->run Fs glo fuel m "_law_same" [x,d]=some (.bool (qX x d),false)) {x d:D} (hx:Pd n x) (hd:Pd n d):ex (Ga Fs fuel m) zt5 [vl x,vl d,none]=some (.ret (.bool (qX x d)) false):=by
 refine hd.cases (P:=fun d=>ex (Ga Fs fuel m) zt5 [vl x,vl d,none]=some (.ret (.bool (qX x d)) false)) (fun i=>?_) (fun s hs=>?_) fun k ys e hl hy=>?_
 ·refine (zz0 (σ':=[vl x,vl (.int i),none]) rfl).trans ((zz0 (σ':=[vl x,vl (.int i),none]) rfl).trans (zz5 ?_))
  refine hx.cases (P:=fun x=>ex (Ga Fs fuel m) sm_i [vl x,vl (.int i),none]=some (.ret (.bool (qX x (.int i))) false)) (fun j=>?_) (fun s hs=>xy6 (c:=false) rfl rfl nofun fun _=>rfl) fun k l _ _ _=>xy6 (c:=false) rfl rfl nofun fun _=>rfl
  exact xy6 (c:=true) rfl rfl (fun _=>rfl) nofun
 ·refine (zz0 (σ':=[vl x,vl (.str s),none]) rfl).trans (zz5 ?_)
  refine hx.cases (P:=fun x=>ex (Ga Fs fuel m) sm_s [vl x,vl (.str s),none]=some (.ret (.bool (qX x (.str s))) false)) (fun j=>rfl) (fun u hu=>?_) fun k l _ _ _=>rfl
  rw [sm_s]; simp [zz1,c_eq,eqD,isi_str,hs,hu]
 ·have h0:ex (Ga Fs fuel m) zt5 [vl x,vl (.tuple ys),none]=(ex (Ga Fs fuel m) sm_t [vl x,vl (.tuple ys),none]).bind (zl9 (ex (Ga Fs fuel m) (.cons sm_s (.cons sm_i .nil)))):=rfl
  rw [h0]
  refine hx.cases (P:=fun x=>(ex (Ga Fs fuel m) sm_t [vl x,vl (.tuple ys),none]).bind (zl9 (ex (Ga Fs fuel m) (.cons sm_s (.cons sm_i .nil))))=some (.ret (.bool (qX x (.tuple ys))) false)) (fun j=>rfl) (fun s hs=>rfl) fun k' xs e' hl' hx'=>?_
  obtain rfl:k'=k:=QK (e'.symm.trans e)
  rw [wn7 (ih k' e) hl' hl hx' hy]
  rfl
theorem xe1 (h:Has Fs "_law_same" ⟨2,3,zt5⟩) (m:Nat):∀ (n:Nat) (x d:D),Pd n x->Pd n d->run Fs glo fuel (m+n+1) "_law_same" [x,d]=some (.bool (qX x d),false):=by
 intro n
 induction n with
 | zero=>exact fun x d hx hd=>zz4 h rfl (wy2 (n:=0) (fun k e=>nomatch e) hx hd)
 | succ n ih=>exact fun x d hx hd=>zz4 h rfl (wy2 (n:=n+1) (fun k e=>by obtain rfl:n=k:=QK e; exact ih) hx hd)
end Pl
end
section
namespace Pl
open Mini PySem
variable {Fs:Fns} {fuel:Nat}
theorem Can.pd {k:Nat} {d:D} (h:Can k d):Pd k d:=by
 induction h with
 | leaf k o n=>exact ⟨qy (zW 2),fun x hx=>by
   rcases z0.mp hx with rfl|hx
   ·cases k<;>exact zg4 o
   ·rw [xq.mp hx]; cases k<;>trivial⟩
 | @pair k a b _ _ iha ihb=>exact ⟨qy (zW 3),fun x hx=>by
   rcases z0.mp hx with rfl|hx
   ·cases k<;>exact zw6
   ·rcases z0.mp hx with rfl|hx
    ·exact iha
    ·rw [xq.mp hx]; exact ihb⟩
 | @join k s l hs h2 hl _ _ _ ih=>exact ⟨qt (zJ hl) (by decide),fun x hx=>by
   rcases z0.mp hx with rfl|hx
   ·cases k<;>exact zt1 s
   ·exact ih x hx⟩
theorem xd5 (ns:List Int):okd (.list (ns.map .int))=true:=zw.mpr ⟨zq5 fun x hx=>(zy.mp hx).elim fun i h=>h.2▸rfl,decide_eq_true (qt (zJ (zu4 (k:=0) fun x hx=>(zy.mp hx).elim fun i h=>h.2▸zW _)) (by decide))⟩
theorem xa3 (ns:List Int):qX (.list (ns.map .int)) (.list (ns.map .int))=true:=by
 show vj (ns.map .int) (ns.map .int)=true
 induction ns with
 | nil=>rfl
 | cons n r ih=>exact zw.mpr ⟨beq_self_eq_true n,ih⟩
theorem wx1 {k:Int}:∀ {ns:List Int} {r:List D},r.length=ns.length->k∈ns->lk (ns.zip r) k=some (fn ns r k)
 | [],_,_,h=>nomatch h
 | n::ns,[],h,_=>nomatch h
 | n::ns,v::r,hl,hk=>by
  by_cases e:n=k
  ·subst e; simp [fn,lk]
  ·have e':(n==k)=false:=beq_eq_false_iff_ne.mpr e
   have ih:=wx1 (k:=k) (ns:=ns) (r:=r) (QK hl) ((z0.mp hk).resolve_left fun q=>e q.symm)
   have e1:lk ((n::ns).zip (v::r)) k=lk (ns.zip r) k:=by simp [lk,e']
   rw [fn,e1,ih]; rfl
noncomputable def cI (p:Int->Bool):D->Bool
 | .int k=>p k
 | _=>false
theorem yt3 (p:Int->Bool) (ns:List Int):(ns.map vy).filter (cI p)=(ns.filter p).map .int:=by rw [List.filter_map]; rfl
noncomputable def is_c:I:=(.not (.call "_law_same" (.cons (.idx (.var 0) (.var 3)) (.cons (.call "_law_form" (.cons (.idx (.var 2) (.var 3)) .nil)) .nil))))
noncomputable def is_d:I:=(.iff (.or (.cons (.not (.isi (.var 0) "dict")) (.cons (.cmp .NotEq (.prim1 .list (.var 0)) (.var 1)) .nil))) (.cons (.ret (.cbool false)) .nil) .nil)
noncomputable def yu9:I:=(.cons is_d (.cons (.ret (.cmp .Eq (.prim1 .len (.comp1 (.var 3) (.var 1) is_c)) (.cint 0))) .nil))
section
variable {m:Nat} {ns:List Int} {r:List D} {κ:Kn} {v:D}
noncomputable abbrev isS (ns:List Int) (r:List D) (κ:Kn):Mini.Sg:=[vl (dK (ns.zip r)),vl (.list (ns.map .int)),vl (dK κ)]
theorem wr7 (hl:r.length=ns.length):ex (Ga Fs fuel m) is_d (isS ns r κ)=some (.next (isS ns r κ)):=by
 have hk:((ns.zip r).map enK).map (·.1)=ns.map vy:=by
  rw [yV]
  show (ns.zip r).map (fun p=>vy p.1)=_
  rw [show (fun p:Int×D=>vy p.1)=vy∘Prod.fst from rfl,<- yV,List.map_fst_zip (zX hl.symm)]
 have e1:zn7 .list (dK (ns.zip r))=some (.list (ns.map .int),true):=by
  show some (PyData.list (((ns.zip r).map enK).map (·.1)),true)=_
  rw [hk]
 have e2:isiD (dK (ns.zip r)) "dict" = some true:=rfl
 rw [is_d]; simp [c_ne,eqD,e1,e2,xd5,xa3]
theorem wr8 {k:Int} {u d:D} {c:Bool} (h1:lk (ns.zip r) k=some v) (h2:lk κ k=some u) (h3:run Fs glo fuel m "_law_form" [u]=some (d,false)) (h4:run Fs glo fuel m "_law_same" [v,d]=some (.bool c,false)) :
  zs7 is_c (ev (Ga Fs fuel m) is_c) (isS ns r κ++[vl (.int k)])=some (.bool (!c),isS ns r κ++[vl (.int k)]):=by
 rw [is_c,cE_n]; simp [zix3,zt8,zm4,h1,h2,h3,h4]
end
theorem wm3 (h:Has Fs "_law_is" ⟨3,3,yu9⟩) (hs:Has Fs "_law_same" ⟨2,3,zt5⟩) (hf:Has Fs "_law_form" ⟨1,5,zj2⟩) (m:Nat) {ns:List Int} {r:List D} {κ:Kn} {f:Int->Tm} (hn:ns.Nodup) (hz:ns.length<=20) (hl:r.length=ns.length) (hr:∀ v∈r,Can 7 v) (hκ:∀ i∈ns,lk κ i=some (enc (f i))/\num (f i)<=7) :
  ∃ b,run Fs glo fuel (m+21) "_law_is" [dK (ns.zip r),.list (ns.map .int),dK κ]=some (.bool b,false)/\(b=true↔r=ns.map fun i=>shp (f i)):=by
 have key:∀ i∈ns,Can 7 (fn ns r i)/\Can 7 (shp (f i)):=fun i hi=>⟨hr _ (ww3 hn hl hi),(zw7 (f i) (qy (hκ i hi).2)).1.mono (hκ i hi).2⟩
 have hcomp:=zn0 (n:=3) (bc:=bc1) (cond:=zs7 is_c (ev (Ga Fs fuel (m+20)) is_c)) (elt:=ev (Ga Fs fuel (m+20)) (.var 3)) (σ:=isS ns r κ)
  (c:=cI fun k=>!qX (fn ns r k) (shp (f k))) (F:=id) rfl (ds:=ns.map .int) fun x hx=>by
   (refine elEA (zy.mp hx) fun k hk e_2=>?_; subst e_2)
   have hk2:=key k hk
   have e1:=yv3 (fuel:=fuel) hf (f k) (m+19) (qt (hκ k hk).2 (qt (by decide) (w7 20 m))) (qy (hκ k hk).2)
   have e2:=xe1 (fuel:=fuel) hs (m+12) 7 _ _ hk2.1.pd hk2.2.pd
   exact ⟨[.int k],rfl,wr8 (wx1 hl hk) (hκ k hk).1 e1 e2,fun _=>⟨false,rfl⟩⟩
 rw [List.map_id,yt3] at hcomp
 generalize hq:ns.filter (fun k=>!qX (fn ns r k) (shp (f k)))=q at hcomp
 have hlen:(q.map vy).length<=size:=by rw [xw,<- hq]; exact qt (List.length_filter_le ..) (qy hz)
 refine ⟨((q.length:Int)==0),zz4 h rfl ((zz0 (wr7 hl)).trans (zz5 ?_)),?_⟩
 ·have e:ev (Ga Fs fuel (m+20)) (.comp1 (.var 3) (.var 1) is_c) (isS ns r κ)=some (.list (q.map .int),true,isS ns r κ):=by
   rw [zr5]
   show ((zf3 3 _ _ (ns.map .int) (isS ns r κ)).bind _)=_
   rw [zj6,hcomp]
   simp only [vJ,mkL]
   rw [if_pos hlen]; rfl
  simp [c_eq,eqD,e,zp5,zle1,zx9,zs0]
 ·have h1:(((q.length:Int)==0)=true)↔q=[]:=by
   rw [beq_iff_eq]
   exact ⟨fun e=>kj.mp (Int.ofNat.inj e),fun e=>by rw [e]; rfl⟩
  rw [h1,<- hq,List.filter_eq_nil_iff]
  have h2:∀ i∈ns,(¬ (!qX (fn ns r i) (shp (f i)))=true)↔fn ns r i=shp (f i):=fun i hi=>by
   rw [<- zx0 (key i hi).1.plain (key i hi).2.plain,Bool.not_eq_true',Bool.not_eq_false]
  have h3:(r=ns.map fun i=>shp (f i))↔ns.map (fn ns r)=ns.map fun i=>shp (f i):=by rw [yg8 hn hl]
  rw [h3]
  exact ⟨fun k=>yQ fun i hi=>(h2 i hi).mp (k i hi),fun k i hi=>(h2 i hi).mpr (List.map_inj_left.mp k i hi)⟩
end Pl
end
section
namespace Pl
open Mini PySem
variable {Fs:Fns} {fuel:Nat}
theorem zg0 (h:Has Fs "_law_cell_at" ⟨2,2,zy7⟩) (n:Nat) (ns:List Int) (k:Nat) :
  run Fs glo fuel (n+1) "_law_cell_at" [.list (ns.map .int),.int k]=some (.int (ns.getD k 0),false):=by
 rw [zr7 h rfl]
 by_cases hk:k<ns.length
 ·have hk':(k:Int)<(ns.length:Int):=kJ.mpr hk
  simp [zy7,zz1,c_lt,zp5,zle1,zix1,zx9,zd0,hk,hk']
 ·have hk':¬ (k:Int)<(ns.length:Int):=fun h=>hk (kJ.mp h)
  simp [zy7,zz1,c_lt,zp5,zle1,zx9,zd0,hk,hk']
structure Pile (nums:List Int) (B M:Nat) (ts:List Tm):Prop where
 ok:∀ t∈ts,Pl.ok t
 op:∀ t∈ts,∀ k∈opl t,k∈nums
 sum:(ts.map num).sum+M<=B
theorem xd2 (ts:List Tm):ts.length<=(ts.map num).sum:=by
 induction ts with
 | nil=>exact zW _
 | cons t r ih=>rw [xz,List.sum_cons]; exact qt (zX (wk r.length 1)) (qa (zx6 t) ih)
theorem xw9 {ts:List Tm} (h:2<=ts.length):∃ r a b,ts=r++[a,b]:=by
 rcases List.eq_nil_or_concat ts with rfl|⟨r,b,rfl⟩
 ·exact absurd h (by decide)
 ·rcases List.eq_nil_or_concat r with rfl|⟨r,a,rfl⟩
  ·simp at h
  ·exact ⟨r,a,b,by simp⟩
section
variable {nums:List Int} {B M:Nat} {ts r:List Tm} {a b:Tm}
theorem Pile.len (P:Pile nums B M ts):ts.length<=B:=qt (xd2 ts) (qf P.sum)
theorem Pile.join (P:Pile nums B M (r++[a,b])) (s:Sn):Pile nums B M (r++[.node s a b]):=by
 have e:((r++[Tm.node s a b]).map num).sum=((r++[a,b]).map num).sum:=by simp [ys9]
 refine ⟨fun t ht=>?_,fun t ht=>?_,e▸P.sum⟩
 ·rcases qW.mp ht with q|q
  ·exact P.ok t (ml q)
  ·rw [xq.mp q]; exact ⟨P.ok a (mr mh),P.ok b (mr (mt mh))⟩
 ·rcases qW.mp ht with q|q
  ·exact P.op t (ml q)
  ·rw [xq.mp q]
   exact fun k hk=>(qW.mp hk).elim (P.op a (mr mh) k) (P.op b (mr (mt mh)) k)
theorem Pile.leaf {o:Bool} {k:Int} (P:Pile nums B (M+1) ts) (h1:Pl.ok (.leaf o k)) (h2:o=true->k∈nums):Pile nums B M (ts++[.leaf o k]):=by
 refine ⟨fun t ht=>?_,fun t ht=>?_,?_⟩
 ·rcases qW.mp ht with q|q
  ·exact P.ok t q
  ·rw [xq.mp q]; exact h1
 ·rcases qW.mp ht with q|q
  ·exact P.op t q
  ·rw [xq.mp q]
   intro k' hk'
   cases o with
   | true=>rw [xq.mp hk']; exact h2 rfl
   | false=>exact nomatch hk'
 ·have e:((ts++[Tm.leaf o k]).map num).sum+M=(ts.map num).sum+(M+1):=by rw [List.map_append,List.sum_append]; exact (x9 ..).trans (congrArg _ (wk 1 M))
  rw [e]; exact P.sum
end
noncomputable def yu4:I:=(.and (.cons (.or (.cons (.cmp .Lt (.bin .Mod (.var 6) (.cint 8)) (.cint 4)) (.cons (.cmp .Lt (.prim1 .len (.brw 5)) (.cint 2)) .nil))) (.cons (.cmp .Gt (.var 4) (.cint 0)) .nil)))
noncomputable def md_n (w:Str) (k:Nat):I:=(.tup (.cons (.cstr w) (.cons (.idx (.var k) (.bin .Mod (.bin .FloorDiv (.var 6) (.cint 16)) (.cint 4))) .nil)))
noncomputable def md_l:I:=(.app 5 (.idx (.lst (.cons (md_n "name" 1) (.cons (md_n "open" 2) .nil))) (.bin .Mod (.bin .FloorDiv (.var 6) (.cint 8)) (.cint 2))))
noncomputable def ya2:I:=(.cons (.asg 4 (.bin .Sub (.var 4) (.cint 1))) (.cons md_l .nil))
noncomputable def md_s (e:I):I:=(.cons (.asg 7 (.pop 5)) (.cons (.app 5 (.tup (.cons e (.cons (.pop 5) (.cons (.var 7) .nil))))) .nil))
noncomputable def xk4:I:=(.idx (.lst (.cons (.cstr "sum") (.cons (.cstr "mul") (.cons (.cstr "sum") (.cons (.cstr "pair") .nil))))) (.bin .Mod (.var 6) (.cint 4)))
noncomputable def zj0:I:=(.cmp .Gt (.prim1 .len (.brw 5)) (.cint 1))
noncomputable def za4:I:=(.cons (.iff yu4 ya2 (.cons (.iff zj0 (md_s xk4) .nil) .nil)) .nil)
noncomputable def md_0:I:=(.iff (.cmp .Eq (.brw 5) (.lst .nil)) (.cons (.ret (.tup (.cons (.cstr "open") (.cons (.idx (.var 2) (.cint 2)) .nil)))) .nil) .nil)
noncomputable def zd3:I:=(.cons (.asg 5 (.lst .nil)) (.cons (.for1 6 (.var 0) za4) (.cons (.whl zj0 (md_s (.var 3))) (.cons md_0 (.cons (.ret (.idx (.brw 5) (.cint 0))) .nil)))))
noncomputable def sgOf:Nat->Sn
 | 1=>.mul
 | 3=>.pair
 | _=>.sum
section
variable {m:Nat} {v0 v1 v2 v3 v6 v7:Option AV} {nm nums:List Int} {B M:Nat} {ts r:List Tm} {a b:Tm} {c:Int} {L:List D} {x:D} {e:I}
noncomputable abbrev mS (v0 v1 v2 v3:Option AV) (M:Nat) (L:List D) (v6 v7:Option AV):Mini.Sg:=[v0,v1,v2,v3,vl (.int M),ow (.list L),v6,v7]
theorem xq2:uno yu4 (ev (Ga Fs fuel m) yu4) (mS v0 v1 v2 v3 M L (vl (.int c)) v7)=some (.bool ((decide (c.fmod 8<4)||decide (L.length<2))&&decide (0<M)),mS v0 v1 v2 v3 M L (vl (.int c)) v7):=by
 have e2:decide ((L.length:Int)<2)=decide (L.length<2):=decide_eq_decide.mpr ⟨kJ.mp,kJ.mpr⟩
 have e3:decide ((0:Int)<(M:Int))=decide (0<M):=decide_eq_decide.mpr ⟨kJ.mp,kJ.mpr⟩
 rw [yu4]
 cases h1:decide (c.fmod 8<4)<;>cases h2:decide (L.length<2)<;>rw [h2] at e2<;>simp [c_gt,c_lt,↓bm8,zp5,zle1,zx9,zd0,h1,e2,e3]
theorem yq8:uno zj0 (ev (Ga Fs fuel m) zj0) (mS v0 v1 v2 v3 M L v6 v7)=some (.bool (decide (1<L.length)),mS v0 v1 v2 v3 M L v6 v7):=by
 have e2:decide ((1:Int)<(L.length:Int))=decide (1<L.length):=decide_eq_decide.mpr ⟨kJ.mp,kJ.mpr⟩
 rw [zj0]; simp [c_gt,zp5,zle1,e2]
theorem yh6 (h1:nm.length=4) (h2:nums.length=4) (hz:ts.length+1<size) :
  ∃ o k,(o=false/\k∈nm\/o=true/\k∈nums)/\ex (Ga Fs fuel m) ya2 (mS v0 (vl (.list (nm.map .int))) (vl (.list (nums.map .int))) v3 (M+1) (ts.map enc) (vl (.int c)) v7)=some (.next (mS v0 (vl (.list (nm.map .int))) (vl (.list (nums.map .int))) v3 M ((ts++[Tm.leaf o k]).map enc) (vl (.int c)) v7)):=by
 have eM:((M:Int)+1 - 1)=(M:Int):=Int.add_sub_cancel ..
 have s1:ex (Ga Fs fuel m) (.asg 4 (.bin .Sub (.var 4) (.cint 1))) (mS v0 (vl (.list (nm.map .int))) (vl (.list (nums.map .int))) v3 (M+1) (ts.map enc) (vl (.int c)) v7)=some (.next (mS v0 (vl (.list (nm.map .int))) (vl (.list (nums.map .int))) v3 M (ts.map enc) (vl (.int c)) v7)):=by
  simp [wo6,eM]
 refine elEA (zd5 (c.fdiv 16) (b:=4) (by decide)) fun i hi ei=>?_
 have ei':(c.fdiv 16).fmod 4=(i:Int):=ei
 have s16:zz9 16=true:=by decide
 have g1:nm[i]?=some (nm[i]'(h1▸hi)):=qJ _
 have g2:nums[i]?=some (nums[i]'(h2▸hi)):=qJ _
 have m1:nm[i]'(h1▸hi)∈nm:=jZ _
 have m2:nums[i]'(h2▸hi)∈nums:=jZ _
 generalize nm[i]'(h1▸hi)=k1 at g1 m1
 generalize nums[i]'(h2▸hi)=k2 at g2 m2
 have hz':(ts.map enc).length+1<size:=by rw [xw]; exact hz
 rcases n2i (zj4 (c.fdiv 8) (b:=2) (by decide)) with q|q
 ·refine ⟨false,k1,.inl ⟨rfl,m1⟩,(zz0 s1).trans ?_⟩
  rw [md_l,md_n,md_n,zz0 (σ':=mS v0 (vl (.list (nm.map .int))) (vl (.list (nums.map .int))) v3 M ((ts++[Tm.leaf false k1]).map enc) (vl (.int c)) v7)]
  ·rfl
  simp [xg6,↓bm4,↓bm2,↓bd8,zix1,s16,ei',q,g1,g2,↓mkT2,↓mkL2,↓xj4,hz,zo9,lstr]
 ·refine ⟨true,k2,.inr ⟨rfl,m2⟩,(zz0 s1).trans ?_⟩
  rw [md_l,md_n,md_n,zz0 (σ':=mS v0 (vl (.list (nm.map .int))) (vl (.list (nums.map .int))) v3 M ((ts++[Tm.leaf true k2]).map enc) (vl (.int c)) v7)]
  ·rfl
  simp [xg6,↓bm4,↓bm2,↓bd8,zix1,s16,ei',q,g1,g2,↓mkT2,↓mkL2,↓ix_l1,hz,zo9,lstr]
theorem yh5 {s:Sn} (he:∀ L v7,ev (Ga Fs fuel m) e (mS v0 v1 v2 v3 M L v6 v7)=some (.str s.str,false,mS v0 v1 v2 v3 M L v6 v7)) (hz:r.length+1<size) :
  ex (Ga Fs fuel m) (md_s e) (mS v0 v1 v2 v3 M ((r++[a,b]).map enc) v6 v7)=some (.next (mS v0 v1 v2 v3 M ((r++[Tm.node s a b]).map enc) v6 (vl (enc b)))):=by
 rw [md_s,zz0 (σ':=mS v0 v1 v2 v3 M ((r++[a]).map enc) v6 (vl (enc b))) (by simp),zz0 (σ':=mS v0 v1 v2 v3 M ((r++[Tm.node s a b]).map enc) v6 (vl (enc b)))]
 ·rfl
 simp [he,↓mkT3,hz,zl5]
theorem xc2:∃ s:Sn,∀ L v7,ev (Ga Fs fuel m) xk4 (mS v0 v1 v2 v3 M L (vl (.int c)) v7)=some (.str s.str,false,mS v0 v1 v2 v3 M L (vl (.int c)) v7):=by
 have z4:(4:Nat)<=size:=by unfold size; decide
 refine elEA (zd5 c (b:=4) (by decide)) fun k hk ek=>?_
 have ek':c.fmod 4=(k:Int):=ek
 have hi:([PyData.str "sum", .str "mul", .str "sum", .str "pair"])[k]?=some (.str (sgOf k).str):=by
  rcases n4s hk with rfl|rfl|rfl|rfl<;>rfl
 exact ⟨sgOf k,fun L v7=>by rw [xk4]; simp [↓bm4,mkL_,zix1,ek',hi,z4]⟩
theorem wt8 (h1:nm.length=4) (h2:nums.length=4) (h0:∀ k∈nm,ok (.leaf false k)) (hk:∀ k∈nums,ok (.leaf true k)) (hB:B<=1000) (P:Pile nums B M ts) :
  ∃ M' ts' v7',ex (Ga Fs fuel m) za4 (mS v0 (vl (.list (nm.map .int))) (vl (.list (nums.map .int))) v3 M (ts.map enc) (vl (.int c)) v7)=some (.next (mS v0 (vl (.list (nm.map .int))) (vl (.list (nums.map .int))) v3 M' (ts'.map enc) (vl (.int c)) v7'))/\Pile nums B M' ts':=by
 have hc:=xq2 (Fs:=Fs) (fuel:=fuel) (m:=m) (v0:=v0) (v1:=vl (.list (nm.map .int))) (v2:=vl (.list (nums.map .int))) (v3:=v3) (M:=M) (L:=ts.map enc) (c:=c) (v7:=v7)
 have ht:=yq8 (Fs:=Fs) (fuel:=fuel) (m:=m) (v0:=v0) (v1:=vl (.list (nm.map .int))) (v2:=vl (.list (nums.map .int))) (v3:=v3) (M:=M) (L:=ts.map enc) (v6:=vl (.int c)) (v7:=v7)
 have hlen:=qt P.len hB
 have key:∀ {σ:Mini.Sg},ex (Ga Fs fuel m) (.iff yu4 ya2 (.cons (.iff zj0 (md_s xk4) .nil) .nil)) (mS v0 (vl (.list (nm.map .int))) (vl (.list (nums.map .int))) v3 M (ts.map enc) (vl (.int c)) v7)=some (.next σ)->ex (Ga Fs fuel m) za4 (mS v0 (vl (.list (nm.map .int))) (vl (.list (nums.map .int))) v3 M (ts.map enc) (vl (.int c)) v7)=some (.next σ):=fun h=>(zz0 h).trans rfl
 cases hb:((decide (c.fmod 8<4)||decide ((ts.map enc).length<2))&&decide (0<M)) with
 | true =>
  rw [hb] at hc
  have hM:0<M:=of_decide_eq_true (zw.mp hb).2
  obtain ⟨M,rfl⟩:∃ j,M=j+1:=⟨M - 1,(w8 hM).symm⟩
  refine elEEA (yh6 (Fs:=Fs) (fuel:=fuel) (m:=m) (v0:=v0) (v3:=v3) (M:=M) (ts:=ts) (c:=c) (v7:=v7) h1 h2 (qx (zJ hlen))) fun o k ho e=>?_
  refine ⟨M,ts++[.leaf o k],v7,key (by rw [zz2,hc]; exact e),P.leaf ?_ fun q=>?_⟩
  ·rcases ho with ⟨rfl,h⟩|⟨rfl,h⟩
   ·exact h0 k h
   ·exact hk k h
  ·rcases ho with ⟨rfl,h⟩|⟨rfl,h⟩
   ·exact nomatch q
   ·exact h
 | false =>
  rw [hb] at hc
  have key2:∀ {σ:Mini.Sg},ex (Ga Fs fuel m) (.iff zj0 (md_s xk4) .nil) (mS v0 (vl (.list (nm.map .int))) (vl (.list (nums.map .int))) v3 M (ts.map enc) (vl (.int c)) v7)=some (.next σ)->ex (Ga Fs fuel m) za4 (mS v0 (vl (.list (nm.map .int))) (vl (.list (nums.map .int))) v3 M (ts.map enc) (vl (.int c)) v7)=some (.next σ):=fun h=>key (by
   rw [zz2,hc]
   exact (zz0 h).trans rfl)
  by_cases h2:2<=ts.length
  ·have h1':decide (1<(ts.map enc).length)=true:=decide_eq_true (by rw [xw]; exact h2)
   rw [h1'] at ht
   obtain ⟨s,hs⟩:=xc2 (Fs:=Fs) (fuel:=fuel) (m:=m) (v0:=v0) (v1:=vl (.list (nm.map .int))) (v2:=vl (.list (nums.map .int))) (v3:=v3) (M:=M) (c:=c)
   (refine elEEE (xw9 h2) fun r a b e_3=>?_; subst e_3)
   exact ⟨M,r++[.node s a b],vl (enc b),key2 (by rw [zz2,ht]; exact yh5 hs (qx (zJ (qt (by rw [z9]; exact qQ ..) hlen)))),P.join s⟩
  ·have h1':decide (1<(ts.map enc).length)=false:=decide_eq_false (by rw [xw]; exact h2)
   rw [h1'] at ht
   exact ⟨M,ts,v7,key2 (by rw [zz2,ht]; rfl),P⟩
theorem wy8 {s:Sn} (hB:B<=1000):∀ (f:Nat) (ts:List Tm) (v6 v7:Option AV),Pile nums B M ts->ts.length<f ->
  ∃ ts' v7',zp1 (uno zj0 (ev (Ga Fs fuel m) zj0)) (ex (Ga Fs fuel m) (md_s (.var 3))) f (mS v0 v1 v2 (vl (.str s.str)) M (ts.map enc) v6 v7)=some (.next (mS v0 v1 v2 (vl (.str s.str)) M (ts'.map enc) v6 v7'))/\Pile nums B M ts'/\ts'.length<=1
 | 0,_,_,_,_,h=>absurd h (Nat.not_lt_zero _)
 | f+1,ts,v6,v7,P,hf=>by
  have ht:=yq8 (Fs:=Fs) (fuel:=fuel) (m:=m) (v0:=v0) (v1:=v1) (v2:=v2) (v3:=vl (.str s.str)) (M:=M) (L:=ts.map enc) (v6:=v6) (v7:=v7)
  rw [xw] at ht
  by_cases h2:2<=ts.length
  ·rw [decide_eq_true (p:=1<ts.length) h2] at ht
   have hlen:=qt P.len hB
   (refine elEEE (xw9 h2) fun r a b e_3=>?_; subst e_3)
   obtain ⟨ts',v7',e,P',hl⟩:=wy8 hB f (r++[.node s a b]) v6 (vl (enc b)) (P.join s) (by rw [z9] at hf |-; exact Nat.lt_of_succ_lt_succ hf)
   exact ⟨ts',v7',(zs9 ht rfl (yh5 (fun L v7=>rfl) (qx (zJ (qt (by rw [z9]; exact qQ ..) hlen))))).trans e,P',hl⟩
  ·rw [decide_eq_false (p:=1<ts.length) h2] at ht
   exact ⟨ts,v7,zl8 ht rfl,P,zk h2⟩
end
theorem xe2 (h:Has Fs "_law_made" ⟨5,8,zd3⟩) (m:Nat) (cs:List Int) {nm nums:List Int} {s:Sn} {M:Nat} (h1:nm.length=4) (h2:nums.length=4) (h0:∀ k∈nm,ok (.leaf false k)) (hk:∀ k∈nums,ok (.leaf true k)) (hM:M<=100) (hf:1000<=fuel) :
  ∃ t,ok t/\(∀ k∈opl t,k∈nums)/\num t<=max 1 M/\run Fs glo fuel (m+1) "_law_made" [.list (cs.map .int),.list (nm.map .int),.list (nums.map .int),.str s.str,.int M]=some (enc t,false):=by
 have hB:M<=1000:=qy hM
 have loop:=zs6 (bnd:=zn4 6) (body:=ex (Ga Fs fuel m) za4) vy (fun done σ=>∃ M' ts x y,Pile nums M M' ts/\σ=mS (vl (.list (cs.map .int))) (vl (.list (nm.map .int))) (vl (.list (nums.map .int))) (vl (.str s.str)) M' (ts.map enc) x y) (L:=cs)
  (σ:=mS (vl (.list (cs.map .int))) (vl (.list (nm.map .int))) (vl (.list (nums.map .int))) (vl (.str s.str)) M [] none none) ⟨M,[],none,none,⟨(fun t h=>nomatch h),(fun t h=>nomatch h),zX (u8 _)⟩,rfl⟩ (by
   rintro done c rest σ e ⟨M',ts,x,y,P,rfl⟩
   refine elEEEA (wt8 (Fs:=Fs) (fuel:=fuel) (m:=m) (v0:=vl (.list (cs.map .int))) (v3:=vl (.str s.str)) (c:=c) (v7:=y) h1 h2 h0 hk hB P) fun M2 ts2 y2 es P2=>?_
   exact ⟨_,_,rfl,es,M2,ts2,vl (.int c),y2,P2,rfl⟩)
 (refine elEAEEEEA (loop) fun σ' el M' ts x y P e_7=>?_; subst e_7)
 refine elEEAA (wy8 (Fs:=Fs) (fuel:=fuel) (m:=m) (v0:=vl (.list (cs.map .int))) (v1:=vl (.list (nm.map .int))) (v2:=vl (.list (nums.map .int))) (s:=s) hB fuel ts x y P (z7 (qt P.len hM) (jQ (by decide) hf))) fun ts' y' ew P' hl=>?_
 have e1:=(zy4 (Γ:=Ga Fs fuel m) (k:=6) (s:=.var 0) (b:=za4) (σ:=mS (vl (.list (cs.map .int))) (vl (.list (nm.map .int))) (vl (.list (nums.map .int))) (vl (.str s.str)) M [] none none)).trans el
 have e2:=eq_ex_whl.trans ew
 have hs:∀ d f,ex (Ga Fs fuel m) (.cons md_0 (.cons (.ret (.idx (.brw 5) (.cint 0))) .nil)) (mS (vl (.list (cs.map .int))) (vl (.list (nm.map .int))) (vl (.list (nums.map .int))) (vl (.str s.str)) M' (ts'.map enc) x y')=some (.ret d f)->run Fs glo fuel (m+1) "_law_made" [.list (cs.map .int),.list (nm.map .int),.list (nums.map .int),.str s.str,.int M]=some (d,f):=fun d f hd=>by
  exact zz4 h rfl ((zz0 (σ':=mS (vl (.list (cs.map .int))) (vl (.list (nm.map .int))) (vl (.list (nums.map .int))) (vl (.str s.str)) M [] none none) rfl).trans ((zz0 e1).trans ((zz0 e2).trans hd)))
 cases ts' with
 | nil =>
  have g:nums[2]?=some (nums[2]'(h2▸by decide)):=qJ _
  have g2:nums[2]'(h2▸by decide)∈nums:=jZ _
  generalize nums[2]'(h2▸by decide)=c at g g2
  refine ⟨.leaf true c,hk c g2,fun k h=>by rw [xq.mp h]; exact g2,Nat.le_max_left ..,hs _ _ (zz5 ?_)⟩
  rw [md_0]; simp [zz1,c_eq,eqD,↓mkT2,↓mkL0,zix1,g,zn8,zj5,zo9,lstr]
 | cons t r =>
  obtain rfl:r=[]:=kj.mp (Nat.le_zero.mp (kW hl))
  have hsum:num t+M'<=M:=P'.sum
  have hokt:okd (.list [enc t])=true:=zw.mpr ⟨zq5 (l:=[enc t]) fun x hx=>by rw [xq.mp hx]; exact xu9 t,decide_eq_true (qt (zJ (zu4 (k:=900) (l:=[enc t]) fun x hx=>by rw [xq.mp hx]; exact qt (xt0 t) (qt (qf hsum) (qy hM)))) (by decide))⟩
  refine ⟨t,P'.ok t mh,P'.op t mh,qt (qf hsum) (Qw ..),hs _ _ ((zz0 (σ':=mS (vl (.list (cs.map .int))) (vl (.list (nm.map .int))) (vl (.list (nums.map .int))) (vl (.str s.str)) M' [enc t] x y') ?_).trans (zz5 ?_))⟩
  ·rw [md_0]; simp [c_eq,eqD,↓mkL0,hokt,zn8,zj5]
  ·simp [↓xj4]
end Pl
end
section
namespace Pl
open Mini PySem
variable {Fs:Fns} {fuel:Nat}
noncomputable def na_1:I:=(.iff (.cmp .Eq (.bin .Mod (.var 0) (.cint 3)) (.cint 1)) (.cons (.ret (.lst (.cons (.bin .Mod (.bin .FloorDiv (.var 0) (.cint 3)) (.cint 1000000001)) (.cons (.bin .Mod (.bin .FloorDiv (.var 0) (.cint 3)) (.cint 999999937)) (.cons (.bin .Sub (.cint 1000000000) (.bin .Mod (.bin .FloorDiv (.var 0) (.cint 3)) (.cint 7))) (.cons (.bin .Mod (.bin .FloorDiv (.var 0) (.cint 3)) (.cint 50)) .nil)))))) .nil) .nil)
noncomputable def na_2:I:=(.iff (.cmp .Eq (.bin .Mod (.var 0) (.cint 3)) (.cint 2)) (.cons (.ret (.comp1 (.bin .Add (.bin .Mod (.bin .FloorDiv (.var 0) (.cint 3)) (.cint 900)) (.bin .Mult (.cint 100000000) (.var 1))) (.rng1 (.cint 4)) .omit)) .nil) .nil)
noncomputable def zh2:I:=(.cons na_1 (.cons na_2 (.cons (.ret (.lst (.cons (.cint 0) (.cons (.cint 1) (.cons (.cint 2) (.cons (.cint 3) .nil)))))) .nil)))
theorem xz6 {a b c d:Int} (ha:0<=a/\a<=1000000000) (hb:0<=b/\b<=1000000000) (hc:0<=c/\c<=1000000000) (hd:0<=d/\d<=1000000000):∀ k∈[a,b,c,d],ok (.leaf false k):=by
 intro k hk
 rcases z0.mp hk with rfl|hk
 ·exact ha
 ·rcases z0.mp hk with rfl|hk
  ·exact hb
  ·rcases z0.mp hk with rfl|hk
   ·exact hc
   ·rw [xq.mp hk]; exact hd
theorem xn7 (h:Has Fs "_law_names" ⟨1,1,zh2⟩) (n:Nat) (c:Int):∃ nm:List Int,nm.length=4/\(∀ k∈nm,ok (.leaf false k))/\run Fs glo fuel (n+1) "_law_names" [.int c]=some (.list (nm.map .int),true):=by
 have c1:uno (.cmp .Eq (.bin .Mod (.var 0) (.cint 3)) (.cint 1)) (ev (Ga Fs fuel n) (.cmp .Eq (.bin .Mod (.var 0) (.cint 3)) (.cint 1))) [vl (.int c)]=some (.bool (c.fmod 3==1),[vl (.int c)]):=by
  rfl
 have c2:uno (.cmp .Eq (.bin .Mod (.var 0) (.cint 3)) (.cint 2)) (ev (Ga Fs fuel n) (.cmp .Eq (.bin .Mod (.var 0) (.cint 3)) (.cint 2))) [vl (.int c)]=some (.bool (c.fmod 3==2),[vl (.int c)]):=by
  rfl
 cases e1:c.fmod 3==1 with
 | true =>
  rw [e1] at c1
  refine ⟨[(c.fdiv 3).fmod 1000000001,(c.fdiv 3).fmod 999999937,1000000000 - (c.fdiv 3).fmod 7,(c.fdiv 3).fmod 50],rfl,xz6 (nir (zj4 _ (by decide))) (nir (zj4 _ (by decide))) (nis (zj4 _ (by decide))) (nir (zj4 _ (by decide))),zz4 h rfl (zz5 ?_)⟩
  show ex (Ga Fs fuel n) na_1 [vl (.int c)]=_
  rw [na_1,zz2,c1]
  rfl
 | false =>
  rw [e1] at c1
  have s1:ex (Ga Fs fuel n) na_1 [vl (.int c)]=some (.next [vl (.int c)]):=by rw [na_1,zz2,c1]; rfl
  cases e2:c.fmod 3==2 with
  | true =>
   rw [e2] at c2
   have a9:=zj4 (c.fdiv 3) (b:=900) (by decide)
   refine ⟨[(c.fdiv 3).fmod 900+0,(c.fdiv 3).fmod 900+100000000,(c.fdiv 3).fmod 900+200000000,(c.fdiv 3).fmod 900+300000000],rfl,?_,zz4 h rfl ((zz0 s1).trans (zz5 ?_))⟩
   ·rw [Int.add_comm,Int.add_comm _ 100000000,Int.add_comm _ 200000000,Int.add_comm _ 300000000]
    exact xz6 (nia a9) (nia a9) (nia a9) (nia a9)
   ·rw [na_2,zz2,c2]
    rfl
  | false =>
   rw [e2] at c2
   have s2:ex (Ga Fs fuel n) na_2 [vl (.int c)]=some (.next [vl (.int c)]):=by rw [na_2,zz2,c2]; rfl
   exact ⟨[0,1,2,3],rfl,xz6 (by decide) (by decide) (by decide) (by decide),zz4 h rfl ((zz0 s1).trans ((zz0 s2).trans rfl))⟩
inductive Fl (s:Sn):Tm->Prop
 | leaf (k:Int):Fl s (.leaf false k)
 | node {a b:Tm}:Fl s a->Fl s b->Fl s (.node s a b)
theorem Fl.opl {s:Sn} {t:Tm} (h:Fl s t):Pl.opl t=[]:=by
 induction h with
 | leaf=>rfl
 | node _ _ iha ihb=>exact jX.mpr ⟨iha,ihb⟩
theorem Fl.parts {s:Sn} (hs:s≠.pair) {t:Tm} (h:Fl s t):∀ x∈Pl.parts s (shp t),Can 1 x:=by
 induction h with
 | leaf k =>
  intro x hx
  have e:Pl.parts s (shp (.leaf false k))=[.tuple [.str (lstr false),.int k]]:=zo0 s false k
  rw [e] at hx; rw [xq.mp hx]; exact .leaf 0 false k
 | @node a b _ _ iha ihb=>exact fun x hx=>(qW.mp ((zl1 hs a b).mem_iff.mp hx)).elim (iha x) (ihb x)
theorem Fl.can {s:Sn} (hs:s≠.pair) {t:Tm} (h:Fl s t) (hn:num t<=20):Can 2 (shp t):=by
 cases h with
 | leaf k=>exact .leaf 1 false k
 | @node a b ha hb =>
  have hc:=(zw7 (.node s a b) hn).1
  have hp:=(Fl.node ha hb).parts hs
  rw [zs1 hs] at hc hp |-
  rw [zv4] at hp
  have h2:=hc.cons
  exact .join hs h2.2.1 h2.2.2.1 hp (h2.2.2.2 hs).1 (h2.2.2.2 hs).2
structure In (c:Nat) (t:Tm):Prop where
 ok:Pl.ok t
 opl:Pl.opl t=[]
 num:Pl.num t<=c
 can:Can 2 (shp t)
theorem xj9 {k:Int} {c:Nat} (h:Pl.ok (.leaf false k)) (hc:1<=c):In c (.leaf false k):=⟨h,rfl,hc,.leaf 1 false k⟩
end Pl
end
section
namespace Pl
open Mini PySem
variable {Fs:Fns} {fuel:Nat}
theorem n5s {k:Nat} (h:k<5):k=0\/k=1\/k=2\/k=3\/k=4:=by
 revert k; decide
theorem xr8 {nm:List Int} (h:nm.length=4) (x:Int):∃ k∈nm,idxD (.list (nm.map .int)) (.int (x.fmod 4))=some (.int k):=by
 refine elEA (zd5 x (b:=4) (by decide)) fun i hi ei=>?_
 have ei':x.fmod 4=(i:Int):=ei
 have g:nm[i]?=some (nm[i]'(h▸hi)):=qJ _
 refine ⟨nm[i]'(h▸hi),jZ _,?_⟩
 rw [zix1,ei',if_pos (Int.natCast_nonneg _)]
 show (nm.map vy)[i]?=_
 rw [Q4,g]; rfl
noncomputable def s2 (x:Int):Sn:=if x.fmod 2=0 then .sum else .mul
theorem wm0 (x:Int):s2 x≠.pair:=by unfold s2; split<;>decide
theorem xf9 (x:Int):idxD (.list [.str "sum", .str "mul"]) (.int (x.fmod 2))=some (.str (s2 x).str):=by
 unfold s2
 rcases n2i (zj4 x (b:=2) (by decide)) with e|e<;>rw [e]<;>rfl
noncomputable def nmI (v:Int):I:=(.tup (.cons (.cstr "name") (.cons (.idx (.var 1) (.bin .Mod (.bin .FloorDiv (.var 0) (.cint v)) (.cint 4))) .nil)))
noncomputable def sl_3:I:=(.iff (.cmp .Eq (.bin .Mod (.var 0) (.cint 5)) (.cint 3)) (.cons (.ret (.var 2)) .nil) .nil)
noncomputable def sl_s:I:=(.asg 4 (.idx (.lst (.cons (.cstr "sum") (.cons (.cstr "mul") .nil))) (.bin .Mod (.bin .FloorDiv (.var 0) (.cint 80)) (.cint 2))))
noncomputable def sl_r:I:=(.ret (.tup (.cons (.var 4) (.cons (.tup (.cons (.var 4) (.cons (.var 2) (.cons (.var 3) .nil)))) (.cons (nmI 160) .nil)))))
noncomputable def sl_4:I:=(.iff (.cmp .Eq (.bin .Mod (.var 0) (.cint 5)) (.cint 4)) (.cons sl_s (.cons sl_r .nil)) .nil)
noncomputable def sl_e:I:=(.ret (.tup (.cons (.idx (.lst (.cons (.cstr "sum") (.cons (.cstr "mul") (.cons (.cstr "pair") .nil)))) (.bin .Mod (.var 0) (.cint 5))) (.cons (.var 2) (.cons (.var 3) .nil)))))
noncomputable def zm1:I:=(.cons (.asg 2 (nmI 5)) (.cons sl_3 (.cons (.asg 3 (nmI 20)) (.cons sl_4 (.cons sl_e .nil)))))
section
variable {m:Nat} {c:Int} {nm:List Int} {x2 x3 x4:Option AV} {N:List D}
theorem wt4 {v:Int} {d:D} (h1:(v != 0&&zz9 v)=true) (h2:idxD (.list N) (.int ((c.fdiv v).fmod 4))=some d):ev (Ga Fs fuel m) (nmI v) [vl (.int c),vl (.list N),x2,x3,x4]=some (.tuple [.str "name", d],false,[vl (.int c),vl (.list N),x2,x3,x4]):=by
 rw [nmI]; simp [xg6,↓bm4,h2,↓mkT2,(zw.mp h1).1,(zw.mp h1).2]
theorem sl_c {k:Int} {b:Bool} (e:(c.fmod 5==k)=b):uno (.cmp .Eq (.bin .Mod (.var 0) (.cint 5)) (.cint k)) (ev (Ga Fs fuel m) (.cmp .Eq (.bin .Mod (.var 0) (.cint 5)) (.cint k))) [vl (.int c),vl (.list N),x2,x3,x4]=some (.bool b,[vl (.int c),vl (.list N),x2,x3,x4]):=by
 simp [c_eq,eqD,↓bm5,zx9,zs0,e]
theorem wu0:ex (Ga Fs fuel m) sl_s [vl (.int c),vl (.list N),x2,x3,x4]=some (.next [vl (.int c),vl (.list N),x2,x3,vl (.str (s2 (c.fdiv 80)).str)]):=by
 have s80:zz9 80=true:=by decide
 rw [sl_s]; simp [xg6,s80,↓bm2,↓mkL2,xf9]
end
theorem xn6 (h:Has Fs "_law_small" ⟨2,5,zm1⟩) (n:Nat) (c:Int) {nm:List Int} (h4:nm.length=4) (h0:∀ k∈nm,ok (.leaf false k)):∃ t,In 3 t/\run Fs glo fuel (n+1) "_law_small" [.int c,.list (nm.map .int)]=some (enc t,false):=by
 refine elEA (xr8 h4 (c.fdiv 5)) fun k1 m1 e1=>?_
 refine elEA (xr8 h4 (c.fdiv 20)) fun k2 m2 e2=>?_
 refine elEA (xr8 h4 (c.fdiv 160)) fun k3 m3 e3=>?_
 have o1:=h0 k1 m1
 have o2:=h0 k2 m2
 have o3:=h0 k3 m3
 have p1:ex (Ga Fs fuel n) (.asg 2 (nmI 5)) [vl (.int c),vl (.list (nm.map .int)),none,none,none]=some (.next [vl (.int c),vl (.list (nm.map .int)),vl (enc (.leaf false k1)),none,none]):=by
  rw [yt7,wt4 (by decide) e1]; rfl
 have p3:ex (Ga Fs fuel n) (.asg 3 (nmI 20)) [vl (.int c),vl (.list (nm.map .int)),vl (enc (.leaf false k1)),none,none]=some (.next [vl (.int c),vl (.list (nm.map .int)),vl (enc (.leaf false k1)),vl (enc (.leaf false k2)),none]):=by
  rw [yt7,wt4 (by decide) e2]; rfl
 cases q3:c.fmod 5==3 with
 | true=>exact ⟨.leaf false k1,xj9 o1 (by decide),zz4 h rfl ((zz0 p1).trans (zz5 (by rw [sl_3,zz2,sl_c q3]; rfl)))⟩
 | false =>
  have p2:ex (Ga Fs fuel n) sl_3 [vl (.int c),vl (.list (nm.map .int)),vl (enc (.leaf false k1)),none,none]=some (.next [vl (.int c),vl (.list (nm.map .int)),vl (enc (.leaf false k1)),none,none]):=by
   rw [sl_3,zz2,sl_c q3]; rfl
  cases q4:c.fmod 5==4 with
  | true =>
   have F:Fl (s2 (c.fdiv 80)) (.node (s2 (c.fdiv 80)) (.node (s2 (c.fdiv 80)) (.leaf false k1) (.leaf false k2)) (.leaf false k3)):=.node (.node (.leaf k1) (.leaf k2)) (.leaf k3)
   refine ⟨.node (s2 (c.fdiv 80)) (.node (s2 (c.fdiv 80)) (.leaf false k1) (.leaf false k2)) (.leaf false k3),⟨⟨⟨o1,o2⟩,o3⟩,F.opl,zW 3,F.can (wm0 _) (show 3<=20 by decide)⟩,zz4 h rfl ((zz0 p1).trans ((zz0 p2).trans ((zz0 p3).trans (zz5 ?_))))⟩
   rw [sl_4,zz2,sl_c q4]
   show ex (Ga Fs fuel n) (.cons sl_s (.cons sl_r .nil)) _=_
   refine (zz0 wu0).trans (zz5 ?_)
   have en:=wt4 (Fs:=Fs) (fuel:=fuel) (m:=n) (c:=c) (x2:=vl (enc (.leaf false k1))) (x3:=vl (enc (.leaf false k2))) (x4:=vl (.str (s2 (c.fdiv 80)).str)) (by decide) e3
   rw [sl_r]; simp [en,↓mkT3]; rfl
  | false =>
   have p4:ex (Ga Fs fuel n) sl_4 [vl (.int c),vl (.list (nm.map .int)),vl (enc (.leaf false k1)),vl (enc (.leaf false k2)),none]=some (.next [vl (.int c),vl (.list (nm.map .int)),vl (enc (.leaf false k1)),vl (enc (.leaf false k2)),none]):=by
    rw [sl_4,zz2,sl_c q4]; rfl
   have key:∀ s:Sn,idxD (.list [.str "sum", .str "mul", .str "pair"]) (.int (c.fmod 5))=some (.str s.str)->run Fs glo fuel (n+1) "_law_small" [.int c,.list (nm.map .int)]=some (enc (.node s (.leaf false k1) (.leaf false k2)),false):=fun s es=>by
    refine zz4 h rfl ((zz0 p1).trans ((zz0 p2).trans ((zz0 p3).trans ((zz0 p4).trans (zz5 ?_)))))
    have z3:(3:Nat)<=size:=yr9
    rw [sl_e]; simp [↓bm5,mkL_,z3,es,↓mkT3,zo9,zl5]
   have fl:∀ s:Sn,s≠.pair->In 3 (.node s (.leaf false k1) (.leaf false k2)):=fun s hs=>⟨⟨o1,o2⟩,rfl,show 2<=3 by decide,(Fl.node (.leaf k1) (.leaf k2)).can hs (show 2<=20 by decide)⟩
   refine elEA (zd5 c (b:=5) (by decide)) fun i hi ei=>?_
   have ei':c.fmod 5=(i:Int):=ei
   rw [ei'] at key q3 q4
   rcases n5s hi with rfl|rfl|rfl|rfl|rfl
   ·exact ⟨_,fl .sum (by decide),key .sum rfl⟩
   ·exact ⟨_,fl .mul (by decide),key .mul rfl⟩
   ·exact ⟨.node .pair (.leaf false k1) (.leaf false k2),⟨⟨o1,o2⟩,rfl,show 2<=3 by decide,.pair (.leaf 0 false k1) (.leaf 0 false k2)⟩,key .pair rfl⟩
   ·exact absurd q3 (by decide)
   ·exact absurd q4 (by decide)
noncomputable def gr_b:I:=(.cons (.asg 2 (.tup (.cons (.idx (.lst (.cons (.cstr "sum") (.cons (.cstr "mul") .nil))) (.bin .Mod (.bin .FloorDiv (.var 0) (.cint 4)) (.cint 2))) (.cons (.var 2) (.cons (.tup (.cons (.cstr "name") (.cons (.idx (.var 1) (.bin .Mod (.bin .FloorDiv (.bin .FloorDiv (.var 0) (.cint 8)) (.bin .Add (.var 3) (.cint 1))) (.cint 4))) .nil))) .nil))))) .nil)
noncomputable def zm2:I:=(.cons (.asg 2 (.tup (.cons (.cstr "name") (.cons (.idx (.var 1) (.bin .Mod (.var 0) (.cint 4))) .nil)))) (.cons (.for1 3 (.rng1 (.cint 4)) gr_b) (.cons (.ret (.var 2)) .nil)))
theorem ym8 {m:Nat} {c:Int} {nm:List Int} {t:Tm} {k:Nat} (h4:nm.length=4) (hk:k<4):∃ j∈nm,ex (Ga Fs fuel m) gr_b [vl (.int c),vl (.list (nm.map .int)),vl (enc t),vl (.int k)]=some (.next [vl (.int c),vl (.list (nm.map .int)),vl (enc (.node (s2 (c.fdiv 4)) t (.leaf false j))),vl (.int k)]):=by
 refine elEA (xr8 h4 ((c.fdiv 8).fdiv ((k:Int)+1))) fun j mj ej=>?_
 have hb:((k:Int)+1 != 0&&zz9 ((k:Int)+1))=true:=by
  rcases n4s hk with rfl|rfl|rfl|rfl<;>rfl
 refine ⟨j,mj,?_⟩
 rw [gr_b,zz0 (σ':=[vl (.int c),vl (.list (nm.map .int)),vl (enc (.node (s2 (c.fdiv 4)) t (.leaf false j))),vl (.int k)])]
 ·rfl
 have hb2:=zw.mp hb
 simp [xg6,↓bm2,↓bd4,↓bd8,↓bm4,↓ys5,↓mkL2,xf9,hb2.1,hb2.2,ej,↓mkT2,↓mkT3,zo9,zl5,lstr]
theorem xn9 (h:Has Fs "_law_great" ⟨2,4,zm2⟩) (n:Nat) (c:Int) {nm:List Int} (h4:nm.length=4) (h0:∀ k∈nm,ok (.leaf false k)):∃ t,In 5 t/\run Fs glo fuel (n+1) "_law_great" [.int c,.list (nm.map .int)]=some (enc t,false):=by
 refine elEA (xr8 h4 c) fun j mj ej=>?_
 have p1:ex (Ga Fs fuel n) (.asg 2 (.tup (.cons (.cstr "name") (.cons (.idx (.var 1) (.bin .Mod (.var 0) (.cint 4))) .nil)))) [vl (.int c),vl (.list (nm.map .int)),none,none]=some (.next [vl (.int c),vl (.list (nm.map .int)),vl (enc (.leaf false j)),none]):=by
  simp [↓bm4,ej,↓mkT2,zo9,lstr]
 refine elEA (ym8 (Fs:=Fs) (fuel:=fuel) (m:=n) (c:=c) (t:=.leaf false j) (k:=0) h4 (by decide)) fun a ma ea=>?_
 refine elEA (ym8 (Fs:=Fs) (fuel:=fuel) (m:=n) (c:=c) (t:=.node (s2 (c.fdiv 4)) (.leaf false j) (.leaf false a)) (k:=1) h4 (by decide)) fun b mb eb=>?_
 refine elEA (ym8 (Fs:=Fs) (fuel:=fuel) (m:=n) (c:=c) (t:=.node (s2 (c.fdiv 4)) (.node (s2 (c.fdiv 4)) (.leaf false j) (.leaf false a)) (.leaf false b)) (k:=2) h4 (by decide)) fun d md ed=>?_
 refine elEA (ym8 (Fs:=Fs) (fuel:=fuel) (m:=n) (c:=c) (t:=.node (s2 (c.fdiv 4)) (.node (s2 (c.fdiv 4)) (.node (s2 (c.fdiv 4)) (.leaf false j) (.leaf false a)) (.leaf false b)) (.leaf false d)) (k:=3) h4 (by decide)) fun e me ee=>?_
 have F:Fl (s2 (c.fdiv 4)) (.node (s2 (c.fdiv 4)) (.node (s2 (c.fdiv 4)) (.node (s2 (c.fdiv 4)) (.node (s2 (c.fdiv 4)) (.leaf false j) (.leaf false a)) (.leaf false b)) (.leaf false d)) (.leaf false e)):=.node (.node (.node (.node (.leaf j) (.leaf a)) (.leaf b)) (.leaf d)) (.leaf e)
 refine ⟨.node (s2 (c.fdiv 4)) (.node (s2 (c.fdiv 4)) (.node (s2 (c.fdiv 4)) (.node (s2 (c.fdiv 4)) (.leaf false j) (.leaf false a)) (.leaf false b)) (.leaf false d)) (.leaf false e),⟨⟨⟨⟨⟨h0 j mj,h0 a ma⟩,h0 b mb⟩,h0 d md⟩,h0 e me⟩,F.opl,zW 5,F.can (wm0 _) (show 5<=20 by decide)⟩,zz4 h rfl ((zz0 p1).trans ((zz0 (σ':=[vl (.int c),vl (.list (nm.map .int)),vl (enc (.node (s2 (c.fdiv 4)) (.node (s2 (c.fdiv 4)) (.node (s2 (c.fdiv 4)) (.node (s2 (c.fdiv 4)) (.leaf false j) (.leaf false a)) (.leaf false b)) (.leaf false d)) (.leaf false e))),vl (.int (3:Nat))]) ?_).trans (zz5 rfl)))⟩
 rw [zy4]
 show forN (zn4 3) (ex (Ga Fs fuel n) gr_b) [.int 0,.int 1,.int 2,.int 3] _=_
 rw [zv1 rfl ea,zv1 rfl eb,zv1 rfl ed,zv1 rfl ee]
 rfl
end Pl
end
section
namespace Pl
open Mini PySem
variable {Fs:Fns} {fuel:Nat}
theorem yd7 {f:Int->Tm}:∀ {t:Tm},(∀ i∈opl t,opl (f i)=[])->opl (sbs f t)=[]
 | .leaf true k,h=>h k mh
 | .leaf false k,h=>rfl
 | .node s a b,h=>jX.mpr ⟨yd7 fun i hi=>h i (ml hi),yd7 fun i hi=>h i (mr hi)⟩
theorem xn5 {f:Int->Tm}:∀ {t:Tm},ok t->(∀ i∈opl t,ok (f i))->ok (sbs f t)
 | .leaf true k,_,h=>h k mh
 | .leaf false k,q,h=>q
 | .node s a b,q,h=>⟨xn5 q.1 fun i hi=>h i (ml hi),xn5 q.2 fun i hi=>h i (mr hi)⟩
theorem yn0 {f:Int->Tm} {s0:Int} {c e:Nat} (hc:1<=c) (h0:num (f s0)<=e):∀ {t:Tm},(∀ i∈opl t,i≠s0->num (f i)<=c)->num (sbs f t)+c*jJ s0 (opl t)<=c*num t+e*jJ s0 (opl t)
 | .leaf true k,h=>by
  show num (f k)+c*jJ s0 [k]<=c*1+e*jJ s0 [k]
  rw [List.count_singleton]
  by_cases q:k=s0
  ·rw [q,beq_self_eq_true,if_pos rfl,Qj,Qj,wk]; exact qZ h0 c
  ·rw [if_neg fun x=>q (eq_of_beq x),Qj]; exact h k mh q
 | .leaf false k,h=>by show 1+c*0<=c*1+e*0; rw [Qj]; exact hc
 | .node s a b,h=>by
  have ha:=yn0 hc h0 (t:=a) fun i hi=>h i (ml hi)
  have hb:=yn0 hc h0 (t:=b) fun i hi=>h i (mr hi)
  show num (sbs f a)+num (sbs f b)+c*jJ s0 (opl a++opl b)<=c*(num a+num b)+e*jJ s0 (opl a++opl b)
  rw [List.count_append,uq,uq,uq,Nat.add_add_add_comm,Nat.add_add_add_comm (c*num a)]
  exact qa ha hb
theorem yd6 {f:Int->Tm}:∀ {t:Tm},num (sbs f t)<=20->shp (sbs f t)=zv3 (fun i=>shp (f i)) t
 | .leaf true k,_=>rfl
 | .leaf false k,_=>rfl
 | .node s a b,h=>by
  have h:num (sbs f a)+num (sbs f b)<=20:=h
  have ha:=yd6 (t:=a) (qf h)
  have hb:=yd6 (t:=b) (qr h)
  show shp (.node s (sbs f a) (sbs f b))=if s=.pair then .tuple [.str "pair", zv3 _ a,zv3 _ b] else zw1 s (zx4 (parts s (zv3 _ a)++parts s (zv3 _ b)))
  rw [<- ha,<- hb]
  by_cases hs:s=.pair
  ·rw [if_pos hs,hs]; exact zk2 ..
  ·have pa:=((zw7 (sbs f a) (qf h)).1.parts_pos hs).1
   have pb:=((zw7 (sbs f b) (qr h)).1.parts_pos hs).1
   rw [if_neg hs,zs1 hs,zr9]
   rw [(zz3 _).length_eq,z9]
   exact fun q=>absurd (qw (qa pa pb) (zX q)) (by decide)
theorem xa1 {Fs:Fns} (H:Hm Fs) {ns:List Int} {t:Tm} {S:D} {f:Int->D} (hn:ns.Nodup) (hns:∀ k,k∈ns↔k∈opl t) (ht:num t<=20) (hS:Can 7 S) (hz:(1+num t)^lv S<size) (hf:∀ i,i∈opl t->Can 7 (f i)) (e:fill f (shp t)=S):Row ns (shp t) S (ns.map f):=by
 obtain ⟨hP,hlv⟩:=zw7 t ht
 refine elEEA (xk2 (fuel:=0) H hP (qt ht (by decide)) 0 S [] hS ⟨Qz,fun p hp=>nomatch hp⟩ (by rw [hlv,List.length_nil,u8]; exact qx ht) (by rw [hlv]; exact hz)) fun K _ _ M=>?_
 have ho:∀ i,i∈ns↔Opn i (shp t):=fun i=>(hns i).trans (yn6 t i).symm
 refine elEA (M.compl f (fun p hp=>nomatch hp) (fun i hi=>⟨7,hf i ((yn6 t i).mp hi)⟩) e) fun κ hκ ha=>?_
 refine (yn2 hn hP hS ho M _).mp ⟨κ,hκ,yQ fun i hi=>?_⟩
 have E:=M.ext κ hκ
 obtain ⟨v,hv⟩:=E.dom i ((ho i).mp hi)
 rw [yh4 E.nod hv]
 exact ha _ hv
theorem yp8 {α:Type} {p:α->Bool} {x:α}:∀ {L:List α},L.Nodup->x∈L->(∀ r∈L,p r=true↔r=x)->(L.filter p).length=1
 | [],_,h,_=>nomatch h
 | a::L,hn,hx,hp=>by
  have hn':=vx.mp hn
  by_cases q:a=x
  ·have h0:L.filter p=[]:=List.filter_eq_nil_iff.mpr fun r hr hq=>hn'.1 (q▸(hp r (mt hr)).mp hq▸hr)
   rw [List.filter_cons_of_pos ((hp a mh).mpr q),h0]; rfl
  ·rw [List.filter_cons_of_neg fun h=>q ((hp a mh).mp h)]
   exact yp8 hn'.2 ((z0.mp hx).resolve_left fun e=>q e.symm) fun r hr=>hp r (mt hr)
theorem yd0 {a b:List Int} (ha:a.Pairwise (·<·)) (hb:b.Pairwise (·<·)) (h:∀ k,k∈a↔k∈b):a=b:=by
 have na:a.Nodup:=ha.imp fun q=>Int.ne_of_lt q
 have nb:b.Nodup:=hb.imp fun q=>Int.ne_of_lt q
 refine wK.eq_of_pairwise (le:=(·<·)) (fun x y _ _ h1 h2=>absurd h1 (Int.not_lt.mpr (Int.le_of_lt h2))) ha hb ((List.perm_ext_iff_of_nodup na nb).mpr h)
end Pl
end
section
namespace Pl
open Mini PySem
variable {Fs:Fns} {fuel:Nat}
noncomputable abbrev Tk:=List (Int×Tm)
noncomputable def tkD (l:Tk):Kn:=l.map fun p=>(p.1,enc p.2)
noncomputable def tkF (l:Tk) (i:Int):Tm:=((l.find? fun p=>p.1==i).map (·.2)).getD (.leaf false 0)
noncomputable def tput:Tk->Int->Tm->Tk
 | [],k,t=>[(k,t)]
 | p::r,k,t=>if p.1==k then (p.1,t)::r else p::tput r k t
theorem xo9 {k t}:tput [] k t=[(k,t)]:=rfl
theorem xo8 {p r k t}:tput (p::r) k t=if p.1==k then (p.1,t)::r else p::tput r k t:=rfl
theorem xc6 {i:Int}:∀ {l:Tk},i∈l.map (·.1)->lk (tkD l) i=some (enc (tkF l i))
 | [],h=>nomatch h
 | p::r,h=>by
  cases e:p.1==i with
  | true=>simp [lk,tkD,tkF,e]
  | false =>
   have ih:=xc6 (l:=r) ((z0.mp h).resolve_left fun q=>by rw [q,beq_self_eq_true] at e; exact Bool.noConfusion e)
   simp only [lk,tkD,tkF,xz,k7,e] at ih |-
   exact ih
theorem xh5 {k:Int} {t:Tm}:∀ {l:Tk},dput ((tkD l).map enK) (.int k) (enc t)=(tkD (tput l k t)).map enK
 | []=>rfl
 | p::r=>by
  show (if (p.1==k)=true then ((.int p.1,enc t)::(tkD r).map enK) else ((.int p.1,enc p.2)::dput ((tkD r).map enK) (.int k) (enc t)))=(tkD (if (p.1==k)=true then (p.1,t)::r else p::tput r k t)).map enK
  cases p.1==k with
  | true=>rfl
  | false=>exact congrArg (List.cons (vy p.1,enc p.2)) xh5
theorem yw4 {k:Int} {t:Tm} {i:Int}:∀ {l:Tk},tkF (tput l k t) i=if i=k then t else tkF l i
 | []=>by
  by_cases e:i=k
  ·rw [if_pos e,e]; simp [xo9,tkF]
  ·have e':(k==i)=false:=beq_eq_false_iff_ne.mpr fun q=>e q.symm
   rw [if_neg e]; simp [xo9,tkF,e']
 | p::r=>by
  have ih:=yw4 (k:=k) (t:=t) (i:=i) (l:=r)
  rw [xo8]
  cases h:p.1==k with
  | true =>
   have hk:=eq_of_beq h
   rw [if_pos rfl]
   by_cases e:i=k
   ·rw [if_pos e,e]; simp [tkF,hk]
   ·have e':(p.1==i)=false:=beq_eq_false_iff_ne.mpr fun q=>e (q.symm.trans hk)
    rw [if_neg e]; simp [tkF,e']
  | false =>
   rw [if_neg (by decide)]
   cases h2:p.1==i with
   | true =>
    have e:¬ i=k:=fun q=>by rw [eq_of_beq h2,q,beq_self_eq_true] at h; exact Bool.noConfusion h
    rw [if_neg e]; simp [tkF,h2]
   | false =>
    have s1:tkF (p::tput r k t) i=tkF (tput r k t) i:=by simp only [tkF,k7,h2]
    have s2:tkF (p::r) i=tkF r i:=by simp only [tkF,k7,h2]
    rw [s1,s2]; exact ih
theorem tput_keys {k:Int} {t:Tm} {i:Int}:∀ {l:Tk},i∈(tput l k t).map (·.1)↔i=k\/i∈l.map (·.1)
 | []=>by simp [xo9]
 | p::r=>by
  rw [xo8]
  cases h:p.1==k with
  | true =>
   have hk:=eq_of_beq h
   rw [if_pos rfl,xz,xz,z0]
   show (i=p.1\/_)↔(i=k\/i=p.1\/_)
   rw [hk]
   exact ⟨.inr,fun q=>q.elim .inl id⟩
  | false =>
   rw [if_neg (by decide),xz,xz,z0,tput_keys,z0]
   exact ⟨fun q=>q.elim (.inr∘.inl) fun q=>q.elim .inl (.inr∘.inr),fun q=>q.elim (.inr∘.inl) fun q=>q.elim .inl (.inr∘.inr)⟩
theorem zc1 {k:Int} {t:Tm}:∀ {l:Tk},(tput l k t).length<=l.length+1
 | []=>zW _
 | p::r=>by
  rw [xo8]
  split
  ·exact Nat.le_succ _
  ·exact zJ zc1
theorem xx2 {Γ:Mini.Env} {σ σ1 σ2:Mini.Sg} {kv:I} {e:I} {k:Int} {t:Tm} {f g:Bool} {l:Tk} (he:ev Γ e σ=some (enc t,f,σ1)) (ho:zm3 σ1 7=true) (hk:ev Γ kv σ1=some (.int k,g,σ2)) (h7:ownD σ2 7=some ((tkD l).map enK)) (hz:l.length<=100):ex Γ (.sto 7 kv e) σ=some (.next (σ2.set 7 (ow (dK (tkD (tput l k t)))))):=by
 have hz':((tkD l).map enK).length<size:=by rw [xw,tkD,xw]; exact qx hz
 have hko:zs3 (.int k) ((tkD l).map enK)=true:=zb2 (tkD l) k
 rw [wm5,he]
 show kst1 7 (ev Γ kv) (enc t) σ1 (zm3 σ1 7)=_
 rw [ho]
 show (ev Γ kv σ1).bind (kst2 7 (enc t))=_
 rw [hk]
 show (ownD σ2 7).bind (kst3 7 (enc t) (.int k) σ2)=_
 rw [h7]
 show (if (zs3 (.int k) ((tkD l).map enK)&&decide (((tkD l).map enK).length<size))=true then _ else _)=_
 rw [hko,decide_eq_true hz',xh5]
 rfl
noncomputable def te_s:I:=(.sto 7 (.idx (.var 4) (.var 8)) (.call "_law_small" (.cons (.call "_law_cell_at" (.cons (.var 0) (.cons (.bin .Add (.cint 2) (.var 8)) .nil))) (.cons (.var 3) .nil))))
noncomputable def te_n:I:=(.tup (.cons (.cstr "name") (.cons (.idx (.var 3) (.bin .Mod (.call "_law_cell_at" (.cons (.var 0) (.cons (.bin .Add (.cint 2) (.var 8)) .nil))) (.cint 4))) .nil)))
noncomputable def te_b:I:=(.cons te_s (.cons (.iff (.var 5) (.cons (.sto 7 (.idx (.var 4) (.var 8)) te_n) .nil) .nil) .nil))
noncomputable abbrev laS (N:List D) (v1 v2:Option AV) (nm sp:List Int) (w:Bool) (v6 v7 v8 v9 v10 v11 v12 v13:Option AV):Mini.Sg:=[vl (.list N),v1,v2,vl (.list (nm.map .int)),vl (.list (sp.map .int)),vl (.bool w),v6,v7,v8,v9,v10,v11,v12,v13]
section
variable {m:Nat} {N:List D} {v1 v2 v6 v9 v10 v11 v12 v13:Option AV} {nm sp:List Int} {w:Bool} {l:Tk} {k:Nat} {p c:Int} {t:Tm}
theorem wv5 (hc:run Fs glo fuel m "_law_cell_at" [.list N,.int (2+(k:Int))]=some (.int c,false)) (hs:run Fs glo fuel m "_law_small" [.int c,.list (nm.map .int)]=some (enc t,false)) (hp:sp[k]?=some p) (hz:l.length<=100) :
  ex (Ga Fs fuel m) te_s (laS N v1 v2 nm sp w v6 (ow (dK (tkD l))) (vl (.int k)) v9 v10 v11 v12 v13)=some (.next (laS N v1 v2 nm sp w v6 (ow (dK (tkD (tput l p t)))) (vl (.int k)) v9 v10 v11 v12 v13)):=by
 rw [te_s]
 refine xx2 (σ1:=laS N v1 v2 nm sp w v6 (ow (dK (tkD l))) (vl (.int k)) v9 v10 v11 v12 v13) (σ2:=laS N v1 v2 nm sp w v6 (ow (dK (tkD l))) (vl (.int k)) v9 v10 v11 v12 v13) (k:=p) (f:=false) (g:=false) ?_ rfl ?_ rfl hz
 ·simp [↓ys5,hc,hs]
 ·simp [zix1,hp]
theorem wv6 {j:Int} (hc:run Fs glo fuel m "_law_cell_at" [.list N,.int (2+(k:Int))]=some (.int c,false)) (hs:idxD (.list (nm.map .int)) (.int (c.fmod 4))=some (.int j)) (hp:sp[k]?=some p) (hz:l.length<=100) :
  ex (Ga Fs fuel m) (.sto 7 (.idx (.var 4) (.var 8)) te_n) (laS N v1 v2 nm sp w v6 (ow (dK (tkD l))) (vl (.int k)) v9 v10 v11 v12 v13)=some (.next (laS N v1 v2 nm sp w v6 (ow (dK (tkD (tput l p (.leaf false j))))) (vl (.int k)) v9 v10 v11 v12 v13)):=by
 refine xx2 (σ1:=laS N v1 v2 nm sp w v6 (ow (dK (tkD l))) (vl (.int k)) v9 v10 v11 v12 v13) (σ2:=laS N v1 v2 nm sp w v6 (ow (dK (tkD l))) (vl (.int k)) v9 v10 v11 v12 v13) (k:=p) (f:=false) (g:=false) ?_ rfl ?_ rfl hz
 ·rw [te_n]; simp [↓ys5,hc,↓bm4,hs,↓mkT2,zo9,lstr]
 ·simp [zix1,hp]
end
structure Tks (c:Nat) (sp:List Int) (l:Tk):Prop where
 keys:∀ i,i∈l.map (·.1)↔i∈sp
 inn:∀ i∈sp,In c (tkF l i)
 len:l.length<=2*sp.length
theorem Tks.put {c:Nat} {sp:List Int} {l:Tk} (T:Tks c sp l) {p:Int} {t:Tm} (h:In c t):(∀ i,i∈(tput l p t).map (·.1)↔i∈sp++[p])/\(∀ i∈sp++[p],In c (tkF (tput l p t) i)):=by
 refine ⟨fun i=>tput_keys.trans ⟨fun q=>q.elim (fun e=>mr (e▸mh)) fun q=>ml ((T.keys i).mp q),fun q=>(qW.mp q).elim (fun q=>.inr ((T.keys i).mpr q)) fun q=>.inl (xq.mp q)⟩,fun i hi=>?_⟩
 rw [yw4]
 by_cases e:i=p
 ·rw [if_pos e]; exact h
 ·rw [if_neg e]; exact T.inn i ((qW.mp hi).resolve_right fun q=>e (xq.mp q))
theorem yo7 (hs:Has Fs "_law_small" ⟨2,5,zm1⟩) (hcl:Has Fs "_law_cell_at" ⟨2,2,zy7⟩) {n:Nat} {ns:List Int} {v1 v2 v6 v9 v10 v11 v12 v13:Option AV} {nm sp:List Int} {w:Bool} {l:Tk} {k:Nat} {p:Int} {done:List Int} (h4:nm.length=4) (h0:∀ k∈nm,ok (.leaf false k)) (hp:sp[k]?=some p) (T:Tks (if w then 1 else 3) done l) (hz:done.length<=4) :
  ∃ l',Tks (if w then 1 else 3) (done++[p]) l'/\ex (Ga Fs fuel (n+1)) te_b (laS (ns.map .int) v1 v2 nm sp w v6 (ow (dK (tkD l))) (vl (.int k)) v9 v10 v11 v12 v13)=some (.next (laS (ns.map .int) v1 v2 nm sp w v6 (ow (dK (tkD l'))) (vl (.int k)) v9 v10 v11 v12 v13)):=by
 have hc:=zg0 (fuel:=fuel) hcl n ns (2+k)
 rw [show ((2+k:Nat):Int)=2+(k:Int) from rfl] at hc
 generalize ns.getD (2+k) 0=c at hc
 refine elEA (xn6 (fuel:=fuel) hs n c h4 h0) fun t It et=>?_
 have hl:l.length<=8:=qt T.len (w5 2 hz)
 have e1:=wv5 (v1:=v1) (v2:=v2) (v6:=v6) (v9:=v9) (v10:=v10) (v11:=v11) (v12:=v12) (v13:=v13) (w:=w) hc et hp (qy hl)
 have hl1:(tput l p t).length<=9:=qt zc1 (zJ hl)
 cases w with
 | false =>
  have P:=T.put (p:=p) It
  exact ⟨tput l p t,⟨P.1,P.2,by rw [z9,uq]; exact qt zc1 (qa T.len (show 1<=2 by decide))⟩,(zz0 e1).trans ((zz0 rfl).trans rfl)⟩
 | true =>
  refine elEA (xr8 h4 c) fun j mj ej=>?_
  have P:=T.put (p:=p) (t:=.leaf false j) (xj9 (h0 j mj) (zW 1))
  have e2:=wv6 (v1:=v1) (v2:=v2) (v6:=v6) (v9:=v9) (v10:=v10) (v11:=v11) (v12:=v12) (v13:=v13) (w:=true) hc ej hp (qy hl1)
  have hk:∀ i,i∈(tput (tput l p t) p (.leaf false j)).map (·.1)↔i∈done++[p]:=fun i=>by
   rw [tput_keys,tput_keys]
   exact ⟨fun q=>(P.1 i).mp (tput_keys.mpr (q.elim .inl id)),fun q=>.inr (tput_keys.mp ((P.1 i).mpr q))⟩
  have hF:∀ i∈done++[p],In 1 (tkF (tput (tput l p t) p (.leaf false j)) i):=fun i hi=>by
   rw [yw4]
   have:=P.2 i hi
   rw [yw4] at this
   by_cases e:i=p
   ·rw [if_pos e] at this |-; exact this
   ·rw [if_neg e] at this |-; rw [yw4,if_neg e]; exact this
  refine ⟨_,⟨hk,hF,?_⟩,(zz0 e1).trans ((zz0 ?_).trans rfl)⟩
  ·rw [z9,uq]
   exact qt zc1 (qt (zJ zc1) (qa T.len (zW 2)))
  ·exact (zz0 e2).trans rfl
end Pl
end
section
namespace Pl
open Mini PySem
variable {Fs:Fns} {fuel:Nat}
theorem wx8 {t:Tm} (h:In 1 t):∃ k,t=.leaf false k:=by
 cases t with
 | leaf o k =>
  cases o with
  | true=>exact nomatch h.opl
  | false=>exact ⟨k,rfl⟩
 | node s a b=>exact absurd (qt (qa (zx6 a) (zx6 b)) h.num) (by decide)
noncomputable def ad_t:I:=(.cmp .Eq (.call "_law_times" (.cons (.var 6) (.cons (.tup (.cons (.cstr "open") (.cons (.idx (.var 4) (.cint 0)) .nil))) .nil))) (.cint 1))
noncomputable def ad_m:I:=(.tup (.cons (.cstr "mul") (.cons (.idx (.brw 7) (.idx (.var 4) (.cint 0))) (.cons (.idx (.brw 7) (.idx (.var 4) (.cint 1))) .nil))))
noncomputable def ad_g:I:=(.call "_law_great" (.cons (.call "_law_cell_at" (.cons (.var 0) (.cons (.cint 2) .nil))) (.cons (.var 3) .nil)))
noncomputable def ad_e:I:=(.iff (.and (.cons (.cmp .Eq (.bin .Mod (.bin .FloorDiv (.var 1) (.cint 26)) (.cint 2)) (.cint 1)) (.cons ad_t .nil))) (.cons (.sto 7 (.idx (.var 4) (.cint 0)) ad_g) .nil) .nil)
noncomputable def ad:I:=(.iff (.and (.cons (.var 5) (.cons ad_t .nil))) (.cons (.sto 7 (.idx (.var 4) (.cint 0)) ad_m) .nil) (.cons ad_e .nil))
section
variable {m:Nat} {N:List D} {v1 v2 v7 v8 v9 v10 v11 v12 v13:Option AV} {nm sp:List Int} {p0 p1:Int} {w:Bool} {l:Tk} {c c2:Int} {t u:Tm} {q:Nat}
theorem wo9 (h:run Fs glo fuel m "_law_times" [enc t,.tuple [.str "open", .int p0]]=some (.int q,false)):ev (Ga Fs fuel m) ad_t (laS N v1 v2 nm (p0::sp) w (vl (enc t)) v7 v8 v9 v10 v11 v12 v13)=some (.bool ((q:Int)==1),false,laS N v1 v2 nm (p0::sp) w (vl (enc t)) v7 v8 v9 v10 v11 v12 v13):=by
 rw [ad_t]; simp [c_eq,eqD,↓xj4,↓mkT2,h,zx9,zs0]
theorem wn0 (h0:lk (tkD l) p0=some (enc u)) (h1:lk (tkD l) p1=some (enc t)) (hz:l.length<=100) {v6:Option AV} :
  ex (Ga Fs fuel m) (.sto 7 (.idx (.var 4) (.cint 0)) ad_m) (laS N v1 v2 nm (p0::p1::sp) w v6 (ow (dK (tkD l))) v8 v9 v10 v11 v12 v13)=some (.next (laS N v1 v2 nm (p0::p1::sp) w v6 (ow (dK (tkD (tput l p0 (.node .mul u t))))) v8 v9 v10 v11 v12 v13)):=by
 refine xx2 (σ1:=laS N v1 v2 nm (p0::p1::sp) w v6 (ow (dK (tkD l))) v8 v9 v10 v11 v12 v13) (σ2:=laS N v1 v2 nm (p0::p1::sp) w v6 (ow (dK (tkD l))) v8 v9 v10 v11 v12 v13) (k:=p0) (f:=false) (g:=false) ?_ rfl rfl rfl hz
 rw [ad_m]; simp [↓xj4,↓ix_l1,zix3,zt8,zm4,h0,h1,↓mkT3,zl5,Sn.str]
theorem wn1 (h0:run Fs glo fuel m "_law_cell_at" [.list N,.int 2]=some (.int c2,false)) (h1:run Fs glo fuel m "_law_great" [.int c2,.list (nm.map .int)]=some (enc u,false)) (hz:l.length<=100) {v6:Option AV} :
  ex (Ga Fs fuel m) (.sto 7 (.idx (.var 4) (.cint 0)) ad_g) (laS N v1 v2 nm (p0::sp) w v6 (ow (dK (tkD l))) v8 v9 v10 v11 v12 v13)=some (.next (laS N v1 v2 nm (p0::sp) w v6 (ow (dK (tkD (tput l p0 u)))) v8 v9 v10 v11 v12 v13)):=by
 refine xx2 (σ1:=laS N v1 v2 nm (p0::sp) w v6 (ow (dK (tkD l))) v8 v9 v10 v11 v12 v13) (σ2:=laS N v1 v2 nm (p0::sp) w v6 (ow (dK (tkD l))) v8 v9 v10 v11 v12 v13) (k:=p0) (f:=false) (g:=false) ?_ rfl rfl rfl hz
 rw [ad_g]; simp [h0,h1]
theorem ad_26:ev (Ga Fs fuel m) (.cmp .Eq (.bin .Mod (.bin .FloorDiv (.var 1) (.cint 26)) (.cint 2)) (.cint 1)) (laS N (vl (.int c)) v2 nm sp w (vl (enc t)) v7 v8 v9 v10 v11 v12 v13)=some (.bool ((c.fdiv 26).fmod 2==1),false,laS N (vl (.int c)) v2 nm sp w (vl (enc t)) v7 v8 v9 v10 v11 v12 v13):=by
 have s:zz9 26=true:=by decide
 rfl
end
structure Ful (c e:Nat) (p0:Int) (sp:List Int) (t:Tm) (l:Tk):Prop where
 keys:∀ i,i∈l.map (·.1)↔i∈sp
 inn:∀ i∈sp,In e (tkF l i)
 oth:∀ i∈sp,i≠p0->num (tkF l i)<=c
 one:num (tkF l p0)<=c\/jJ p0 (opl t)=1
theorem In.le {c e:Nat} {t:Tm} (h:In c t) (q:c<=e):In e t:=⟨h.ok,h.opl,qt h.num q,h.can⟩
theorem Ful.put {c e:Nat} {p0:Int} {sp:List Int} {t u:Tm} {l:Tk} (hce:c<=e) (hk:∀ i,i∈l.map (·.1)↔i∈sp) (hi:∀ i∈sp,In c (tkF l i)) (h0:p0∈sp) (hu:In e u) (h1:jJ p0 (opl t)=1):Ful c e p0 sp t (tput l p0 u):=by
 refine ⟨fun i=>tput_keys.trans ⟨fun q=>q.elim (fun e=>e▸h0) (hk i).mp,fun q=>.inr ((hk i).mpr q)⟩,fun i hi'=>?_,fun i hi' hne=>?_,.inr h1⟩
 ·rw [yw4]
  by_cases e:i=p0
  ·rw [if_pos e]; exact hu
  ·rw [if_neg e]; exact (hi i hi').le hce
 ·rw [yw4,if_neg hne]; exact (hi i hi').num
theorem ad_ok (hg:Has Fs "_law_great" ⟨2,4,zm2⟩) (hcl:Has Fs "_law_cell_at" ⟨2,2,zy7⟩) (ht:Has Fs "_law_times" ⟨2,2,zt9⟩) {n:Nat} {ns:List Int} {c:Int} {v2 v8 v9 v10 v11 v12 v13:Option AV} {nm sp:List Int} {p0 p1:Int} {w:Bool} {l:Tk} {t:Tm} (h4:nm.length=4) (h0:∀ k∈nm,ok (.leaf false k)) (hn:num t<=n+1) (hk:∀ i,i∈l.map (·.1)↔i∈p0::p1::sp) (hi:∀ i∈p0::p1::sp,In (if w then 1 else 3) (tkF l i)) (hz:l.length<=100) :
  ∃ l',Ful (if w then 1 else 3) (if w then 2 else 5) p0 (p0::p1::sp) t l'/\ex (Ga Fs fuel (n+1)) ad (laS (ns.map .int) (vl (.int c)) v2 nm (p0::p1::sp) w (vl (enc t)) (ow (dK (tkD l))) v8 v9 v10 v11 v12 v13)=some (.next (laS (ns.map .int) (vl (.int c)) v2 nm (p0::p1::sp) w (vl (enc t)) (ow (dK (tkD l'))) v8 v9 v10 v11 v12 v13)):=by
 have et:=wo9 (N:=ns.map .int) (v1:=vl (.int c)) (v2:=v2) (v7:=ow (dK (tkD l))) (v8:=v8) (v9:=v9) (v10:=v10) (v11:=v11) (v12:=v12) (v13:=v13) (nm:=nm) (sp:=p1::sp) (w:=w) (yv1 (fuel:=fuel) ht p0 t n hn)
 have hcnt:∀ b,((jJ p0 (opl t):Int)==1)=b->b=true->jJ p0 (opl t)=1:=fun b e q=>by rw [q] at e; exact Int.ofNat.inj (eq_of_beq e)
 have same:Ful (if w then 1 else 3) (if w then 2 else 5) p0 (p0::p1::sp) t l:=⟨hk,fun i h=>(hi i h).le (by cases w<;>decide),fun i h _=>(hi i h).num,.inl (hi p0 mh).num⟩
 cases hq:((jJ p0 (opl t):Int)==1) with
 | false =>
  rw [hq] at et
  refine ⟨l,same,?_⟩
  have hc:uno (.and (.cons (.var 5) (.cons ad_t .nil))) (ev (Ga Fs fuel (n+1)) (.and (.cons (.var 5) (.cons ad_t .nil)))) (laS (ns.map .int) (vl (.int c)) v2 nm (p0::p1::sp) w (vl (enc t)) (ow (dK (tkD l))) v8 v9 v10 v11 v12 v13)=some (.bool false,laS (ns.map .int) (vl (.int c)) v2 nm (p0::p1::sp) w (vl (enc t)) (ow (dK (tkD l))) v8 v9 v10 v11 v12 v13):=by
   cases w<;>simp [et]
  have hc2:uno (.and (.cons (.cmp .Eq (.bin .Mod (.bin .FloorDiv (.var 1) (.cint 26)) (.cint 2)) (.cint 1)) (.cons ad_t .nil))) (ev (Ga Fs fuel (n+1)) (.and (.cons (.cmp .Eq (.bin .Mod (.bin .FloorDiv (.var 1) (.cint 26)) (.cint 2)) (.cint 1)) (.cons ad_t .nil)))) (laS (ns.map .int) (vl (.int c)) v2 nm (p0::p1::sp) w (vl (enc t)) (ow (dK (tkD l))) v8 v9 v10 v11 v12 v13)=some (.bool false,laS (ns.map .int) (vl (.int c)) v2 nm (p0::p1::sp) w (vl (enc t)) (ow (dK (tkD l))) v8 v9 v10 v11 v12 v13):=by
   simp only [wu5,wl6,wm8,q_am,ad_26,vJ]
   cases ((c.fdiv 26).fmod 2==1)<;>simp [et]
  rw [ad,zz2,hc]
  show ex (Ga Fs fuel (n+1)) (.cons ad_e .nil) _=_
  exact (zz0 (by rw [ad_e,zz2,hc2]; rfl)).trans rfl
 | true =>
  rw [hq] at et
  have h1:=hcnt _ hq rfl
  cases w with
  | true =>
   obtain ⟨a,ea⟩:=wx8 (hi p0 mh)
   obtain ⟨b,eb⟩:=wx8 (hi p1 (mt mh))
   have ia:=hi p0 mh
   have ib:=hi p1 (mt mh)
   have hu:In 2 (.node .mul (tkF l p0) (tkF l p1)):=by
    rw [ea] at ia |-; rw [eb] at ib |-
    exact ⟨⟨ia.ok,ib.ok⟩,rfl,zW 2,(Fl.node (.leaf a) (.leaf b)).can (by decide) (show 2<=20 by decide)⟩
   refine ⟨_,Ful.put (by decide) hk hi mh hu h1,?_⟩
   have hc:uno (.and (.cons (.var 5) (.cons ad_t .nil))) (ev (Ga Fs fuel (n+1)) (.and (.cons (.var 5) (.cons ad_t .nil)))) (laS (ns.map .int) (vl (.int c)) v2 nm (p0::p1::sp) true (vl (enc t)) (ow (dK (tkD l))) v8 v9 v10 v11 v12 v13)=some (.bool true,laS (ns.map .int) (vl (.int c)) v2 nm (p0::p1::sp) true (vl (enc t)) (ow (dK (tkD l))) v8 v9 v10 v11 v12 v13):=by
    simp [et]
   rw [ad,zz2,hc]
   exact (zz0 (wn0 (xc6 ((hk p0).mpr mh)) (xc6 ((hk p1).mpr (mt mh))) hz)).trans rfl
  | false =>
   have hc:uno (.and (.cons (.var 5) (.cons ad_t .nil))) (ev (Ga Fs fuel (n+1)) (.and (.cons (.var 5) (.cons ad_t .nil)))) (laS (ns.map .int) (vl (.int c)) v2 nm (p0::p1::sp) false (vl (enc t)) (ow (dK (tkD l))) v8 v9 v10 v11 v12 v13)=some (.bool false,laS (ns.map .int) (vl (.int c)) v2 nm (p0::p1::sp) false (vl (enc t)) (ow (dK (tkD l))) v8 v9 v10 v11 v12 v13):=by
    simp
   have hcell:=zg0 (fuel:=fuel) hcl n ns 2
   refine elEA (xn9 (fuel:=fuel) hg n (ns.getD 2 0) h4 h0) fun u Iu eu=>?_
   have hc2:uno (.and (.cons (.cmp .Eq (.bin .Mod (.bin .FloorDiv (.var 1) (.cint 26)) (.cint 2)) (.cint 1)) (.cons ad_t .nil))) (ev (Ga Fs fuel (n+1)) (.and (.cons (.cmp .Eq (.bin .Mod (.bin .FloorDiv (.var 1) (.cint 26)) (.cint 2)) (.cint 1)) (.cons ad_t .nil)))) (laS (ns.map .int) (vl (.int c)) v2 nm (p0::p1::sp) false (vl (enc t)) (ow (dK (tkD l))) v8 v9 v10 v11 v12 v13)=some (.bool ((c.fdiv 26).fmod 2==1),laS (ns.map .int) (vl (.int c)) v2 nm (p0::p1::sp) false (vl (enc t)) (ow (dK (tkD l))) v8 v9 v10 v11 v12 v13):=by
    simp only [wu5,wl6,wm8,q_am,ad_26,vJ]
    cases ((c.fdiv 26).fmod 2==1)<;>simp [et]
   cases hb:(c.fdiv 26).fmod 2==1 with
   | true =>
    rw [hb] at hc2
    refine ⟨_,Ful.put (by decide) hk hi mh Iu h1,?_⟩
    rw [ad,zz2,hc]
    show ex (Ga Fs fuel (n+1)) (.cons ad_e .nil) _=_
    refine (zz0 ?_).trans rfl
    rw [ad_e,zz2,hc2]
    exact (zz0 (wn1 hcell eu hz)).trans rfl
   | false =>
    rw [hb] at hc2
    refine ⟨l,same,?_⟩
    rw [ad,zz2,hc]
    show ex (Ga Fs fuel (n+1)) (.cons ad_e .nil) _=_
    exact (zz0 (by rw [ad_e,zz2,hc2]; rfl)).trans rfl
end Pl
end
section
namespace Pl
open Mini PySem
variable {Fs:Fns} {fuel:Nat}
noncomputable def Sm (ns:List Int):Prop:=∀ i∈ns,wJ i<=1048576
theorem wp8 {i:Int} {B:Nat} (h:wJ i<=B):i.natAbs<2^B:=by
 unfold wJ at h
 by_cases e:i=0
 ·subst e; exact Nat.two_pow_pos B
 ·have e':(i==0)=false:=beq_eq_false_iff_ne.mpr e
  rw [e'] at h
  exact jQ Nat.lt_log2_self (jy (by decide) h)
theorem ws0 {i:Int} {B:Nat} (h:i.natAbs<2^B):wJ i<=B:=by
 unfold wJ
 by_cases e:i=0
 ·subst e; exact wx _
 ·have e':(i==0)=false:=beq_eq_false_iff_ne.mpr e
  rw [e']
  exact (Nat.log2_lt fun q=>e (Int.natAbs_eq_zero.mp q)).mpr h
theorem xg2 {i j:Int} {B:Nat} (h:wJ i<=B) (hj:j.natAbs<=i.natAbs+16777216):wJ j<=B+25:=by
 have h1:=wp8 h
 refine ws0 ?_
 rw [Z4]
 have:1<=2^B:=Nat.two_pow_pos B
 bv_omega
theorem sm_at {ns:List Int} (h:Sm ns) (k:Nat):wJ (ns.getD k 0)<=1048576:=by
 rw [uw]
 cases e:ns[k]? with
 | none=>exact wx _
 | some x=>exact h x (w9 e)
noncomputable def mv_x:I:=(.bin .Mod (.bin .Pow (.bin .Add (.bin .Add (.call "_law_cell_at" (.cons (.var 0) (.cons (.cint 1) .nil))) (.bin .Mult (.cint 104729) (.var 8))) (.cint 1)) (.cint 3)) (.cint 2147483647))
noncomputable def mv_m:I:=(.call "_law_moved" (.cons (.var 9) (.cons (.idx (.lst (.cons (.cstr "swap") (.cons (.cstr "left") (.cons (.cstr "right") .nil)))) (.bin .Mod (.var 11) (.cint 3))) (.cons (.idx (.var 10) (.bin .Mod (.bin .FloorDiv (.var 11) (.cint 3)) (.prim1 .len (.var 10)))) .nil))))
noncomputable def mv_i:I:=(.iff (.cmp .NotEq (.var 10) (.lst .nil)) (.cons (.asg 9 mv_m) .nil) .nil)
noncomputable def mv_b:I:=(.cons (.asg 10 (.call "_law_joins" (.cons (.var 9) .nil))) (.cons (.asg 11 mv_x) (.cons mv_i .nil)))
section
variable {m:Nat} {N:List D} {v1 v2 v6 v7 v10 v11 v12 v13:Option AV} {nm sp:List Int} {w:Bool} {t t':Tm} {c mx:Int} {k:Nat} {P:List D}
theorem wo2 {c:Int} {k:Nat} (hk:k<20):(c+104729*(k:Int)+1).natAbs<=c.natAbs+16777216:=qw (Int.natAbs_add_le _ _) (qw (xv (Int.natAbs_add_le _ _) _) (by
 rw [x9]
 refine qZ ?_ _
 rw [Int.natAbs_mul]
 exact qw (xv (w5 _ (zq hk)) _) (by decide)))
theorem wt5 (hc:run Fs glo fuel m "_law_cell_at" [.list N,.int 1]=some (.int c,false)) (hb:wJ c<=1048576) (hk:k<20) :
  ∃ mx,ex (Ga Fs fuel m) (.asg 11 mv_x) (laS N v1 v2 nm sp w v6 v7 (vl (.int k)) (vl (enc t)) v10 v11 v12 v13)=some (.next (laS N v1 v2 nm sp w v6 v7 (vl (.int k)) (vl (enc t)) v10 (vl (.int mx)) v12 v13)):=by
 have s1:zz9 104729=true:=by decide
 have s2:zz9 2147483647=true:=by decide
 have sk:zz9 (k:Int)=true:=decide_eq_true (na62 (zq hk))
 have hp:(wJ (c+104729*(k:Int)+1):Int)*3<=134217728:=by
  have:=xg2 (j:=c+104729*(k:Int)+1) hb (wo2 hk)
  bv_omega
 refine ⟨((c+104729*(k:Int)+1)^3).fmod 2147483647,?_⟩
 rw [mv_x]
 simp [hc,b_mu,b_po,wo7,↓ys5,mulD,int2,zai,s1,s2,sk,hp]
theorem mv_i0:ex (Ga Fs fuel m) mv_i (laS N v1 v2 nm sp w v6 v7 (vl (.int k)) (vl (enc t)) (vl (.list [])) v11 v12 v13)=some (.next (laS N v1 v2 nm sp w v6 v7 (vl (.int k)) (vl (enc t)) (vl (.list [])) v11 v12 v13)):=by
 have e:qX (.list []) (.list [])=true:=rfl
 rw [mv_i]; simp [c_ne,eqD,↓mkL0,zn8,e]
noncomputable def wd (x:Int):Str:=if x.fmod 3=0 then "swap" else if x.fmod 3=1 then "left" else "right"
theorem wl3 (x:Int):okd (.str (wd x))=true:=by
 unfold wd; split
 ·decide +kernel
 ·split
  ·exact yx4
  ·exact zi4
theorem wd_at (x:Int):idxD (.list [.str "swap", .str "left", .str "right"]) (.int (x.fmod 3))=some (.str (wd x)):=by
 unfold wd
 refine elEA (zd5 x (b:=3) (by decide)) fun i hi e=>?_
 have e:x.fmod 3=(i:Int):=e
 rw [e]
 rcases n4s (Z1 hi) with rfl|rfl|rfl|rfl
 ·rfl
 ·rfl
 ·rfl
 ·exact absurd hi (by decide)
theorem mv_i1 {p:D} (hP:P≠[]) (ho:okd (.list P)=true) (hl:P.length<=100000) (hp:idxD (.list P) (.int ((mx.fdiv 3).fmod (P.length:Int)))=some p) (hm:run Fs glo fuel m "_law_moved" [enc t,.str (wd mx),p]=some (enc t',false)) :
  ex (Ga Fs fuel m) mv_i (laS N v1 v2 nm sp w v6 v7 (vl (.int k)) (vl (enc t)) (vl (.list P)) (vl (.int mx)) v12 v13)=some (.next (laS N v1 v2 nm sp w v6 v7 (vl (.int k)) (vl (enc t')) (vl (.list P)) (vl (.int mx)) v12 v13)):=by
 have e:P.isEmpty=false:=by cases P with|nil=>exact absurd rfl hP|cons _ _=>rfl
 have z3:(3:Nat)<=size:=yr9
 have sl:zz9 (P.length:Int)=true:=decide_eq_true (na62 hl)
 have hc:uno (.cmp .NotEq (.var 10) (.lst .nil)) (ev (Ga Fs fuel m) (.cmp .NotEq (.var 10) (.lst .nil))) (laS N v1 v2 nm sp w v6 v7 (vl (.int k)) (vl (enc t)) (vl (.list P)) (vl (.int mx)) v12 v13)=some (.bool true,laS N v1 v2 nm sp w v6 v7 (vl (.int k)) (vl (enc t)) (vl (.list P)) (vl (.int mx)) v12 v13):=by
  simp [c_ne,eqD,↓mkL0,ho,zn8,zj5,e]
 rw [mv_i,zz2,hc]
 refine (zz0 (σ':=laS N v1 v2 nm sp w v6 v7 (vl (.int k)) (vl (enc t')) (vl (.list P)) (vl (.int mx)) v12 v13) ?_).trans rfl
 rw [mv_m]; simp [mkL_,z3,↓bm3,↓bd3,wd_at,zp5,zle1,wo7,sl,hP,hp,hm]
end
theorem xe6 (fs:List (List Bool)):okd (.list (fs.map pth))=true:=zw.mpr ⟨zq5 fun x hx=>(zy.mp hx).elim fun p h=>h.2▸(yv7 p).1,decide_eq_true (qt (zJ (zu4 (k:=1) fun x hx=>(zy.mp hx).elim fun p h=>h.2▸(yv7 p).2)) (by decide))⟩
theorem wt6 (hj:Has Fs "_law_joins" ⟨1,4,zq3⟩) (ht:Has Fs "_law_turned" ⟨2,3,zu9⟩) (hm:Has Fs "_law_moved" ⟨3,4,zq2⟩) (hcl:Has Fs "_law_cell_at" ⟨2,2,zy7⟩) {n:Nat} {ns:List Int} {v1 v2 v6 v7 v10 v11 v12 v13:Option AV} {nm sp:List Int} {w:Bool} {t:Tm} {k:Nat} (hs:Sm ns) (hk:k<20) (hn:num t<=20) (hf:1000<=fuel) :
  ∃ t' x y,Kept t t'/\ex (Ga Fs fuel (n+25)) mv_b (laS (ns.map .int) v1 v2 nm sp w v6 v7 (vl (.int k)) (vl (enc t)) v10 v11 v12 v13)=some (.next (laS (ns.map .int) v1 v2 nm sp w v6 v7 (vl (.int k)) (vl (enc t')) x y v12 v13)):=by
 refine elEAA (xn8 (fuel:=fuel) hj (n+24) (t:=t) (qy hn) hf) fun fs hJ hl ej=>?_
 have s1:ex (Ga Fs fuel (n+25)) (.asg 10 (.call "_law_joins" (.cons (.var 9) .nil))) (laS (ns.map .int) v1 v2 nm sp w v6 v7 (vl (.int k)) (vl (enc t)) v10 v11 v12 v13)=some (.next (laS (ns.map .int) v1 v2 nm sp w v6 v7 (vl (.int k)) (vl (enc t)) (vl (.list (fs.map pth))) v11 v12 v13)):=by
  have ej':run Fs glo fuel (n+25) "_law_joins" [enc t]=some (.list (fs.map pth),false):=ej
  simp [ej']
 obtain ⟨mx,s2⟩:=wt5 (v1:=v1) (v2:=v2) (v6:=v6) (v7:=v7) (v10:=vl (.list (fs.map pth))) (v11:=v11) (v12:=v12) (v13:=v13) (nm:=nm) (sp:=sp) (w:=w) (t:=t) (zg0 (fuel:=fuel) hcl (n+24) ns 1) (sm_at hs 1) hk
 cases hfs:fs with
 | nil =>
  rw [hfs] at s1 s2
  exact ⟨t,vl (.list []),vl (.int mx),⟨rfl,rfl,id,id⟩,(zz0 s1).trans ((zz0 s2).trans ((zz0 mv_i0).trans rfl))⟩
 | cons p0 fr =>
  have hpos:0<fs.length:=by rw [hfs]; exact Nat.succ_pos _
  refine elEA (zd5 (mx.fdiv 3) hpos) fun j hj1 hj2=>?_
  have hJ1:=hJ fs[j] (jZ hj1)
  have hlen:fs[j].length<=20:=by
   refine elEEEA (hJ1) fun s a b _ e=>?_
   exact qt (qf (yw7 e)) hn
  refine elEA (yv2 (fuel:=fuel) ht hm (wl3 mx) fs[j] t (n+23 - fs[j].length) hJ1) fun t' K em=>?_
  rw [show n+23 - fs[j].length+fs[j].length+2=n+25 from nsc hlen] at em
  have hp:idxD (.list (fs.map pth)) (.int ((mx.fdiv 3).fmod ((fs.map pth).length:Int)))=some (pth fs[j]):=by
   rw [xw,zix1,hj2,if_pos (Int.natCast_nonneg _)]
   show (fs.map pth)[j]?=_
   rw [Q4,qJ hj1]; rfl
  have s3:=mv_i1 (v1:=v1) (v2:=v2) (v6:=v6) (v7:=v7) (v12:=v12) (v13:=v13) (N:=ns.map .int) (nm:=nm) (sp:=sp) (w:=w) (k:=k) (P:=fs.map pth) (fun q=>absurd (List.map_eq_nil_iff.mp q) (by rw [hfs]; exact List.cons_ne_nil _ _)) (xe6 fs) (by rw [xw]; exact hl) hp em
  exact ⟨t',_,_,K,(zz0 s1).trans ((zz0 s2).trans ((zz0 s3).trans rfl))⟩
theorem xk0 (hj:Has Fs "_law_joins" ⟨1,4,zq3⟩) (ht:Has Fs "_law_turned" ⟨2,3,zu9⟩) (hm:Has Fs "_law_moved" ⟨3,4,zq2⟩) (hcl:Has Fs "_law_cell_at" ⟨2,2,zy7⟩) {n:Nat} {ns:List Int} {v1 v2 v6 v7 v12 v13:Option AV} {nm sp:List Int} {w:Bool} (hs:Sm ns) (hf:1000<=fuel):∀ (ks:List Nat) (t:Tm) (v8 v10 v11:Option AV),(∀ k∈ks,k<20)->num t<=20 ->
  ∃ t' x y z,Kept t t'/\forN (zn4 8) (ex (Ga Fs fuel (n+25)) mv_b) (ks.map fun k:Nat=>vy (0+(k:Int))) (laS (ns.map .int) v1 v2 nm sp w v6 v7 v8 (vl (enc t)) v10 v11 v12 v13)=some (.next (laS (ns.map .int) v1 v2 nm sp w v6 v7 x (vl (enc t')) y z v12 v13))
 | [],t,v8,v10,v11,_,_=>⟨t,v8,v10,v11,⟨rfl,rfl,id,id⟩,rfl⟩
 | k::ks,t,v8,v10,v11,hk,hn=>by
  obtain ⟨t1,x,y,K,e⟩:=wt6 (n:=n) (v1:=v1) (v2:=v2) (v6:=v6) (v7:=v7) (v10:=v10) (v11:=v11) (v12:=v12) (v13:=v13) (nm:=nm) (sp:=sp) (w:=w) hj ht hm hcl hs (hk k mh) hn hf
  obtain ⟨t2,x2,y2,z2,K2,e2⟩:=xk0 hj ht hm hcl hs hf ks t1 (vl (.int k)) x y (fun j h=>hk j (mt h)) (K.num▸hn)
  refine ⟨t2,x2,y2,z2,⟨K2.shp.trans K.shp,K2.num.trans K.num,K2.ok∘K.ok,K2.opl∘K.opl⟩,?_⟩
  rw [xz,zv1 (by rw [Int.zero_add]; rfl) e]
  exact e2
end Pl
end
section
namespace Pl
open Mini PySem
variable {Fs:Fns} {fuel:Nat}
theorem xl3:∀ {t:Tm},ok t->∀ k∈opl t,0<=k/\k<=9
 | .leaf true n,h,k,hk=>by rw [xq.mp hk]; exact h
 | .leaf false n,h,k,hk=>nomatch hk
 | .node s a b,h,k,hk=>(qW.mp hk).elim (xl3 h.1 k) (xl3 h.2 k)
noncomputable def ten:List Int:=[0,1,2,3,4,5,6,7,8,9]
noncomputable def nmb (t:Tm):List Int:=ten.filter fun k=>decide (k∈opl t)
theorem wt3 {t:Tm} (h:ok t) (k:Int):k∈nmb t↔k∈opl t:=by
 rw [nmb,uK,decide_eq_true_eq]
 refine ⟨fun q=>q.2,fun q=>⟨?_,q⟩⟩
 have hk:=xl3 h k q
 obtain ⟨n,rfl⟩:=Int.eq_ofNat_of_zero_le hk.1
 have:n<=9:=Int.ofNat_le.mp hk.2
 exact (by decide:∀ n,n<=9->((n:Nat):Int)∈ten) n this
theorem wl7 (t:Tm):(nmb t).Pairwise (·<·):=List.Pairwise.filter _ (by decide)
theorem xl7 (t:Tm):(nmb t).length<=10:=List.length_filter_le ..
noncomputable def la_n:I:=(.comp1 (.var 14) (.rng1 (.cint 10)) (.call "_law_has" (.cons (.var 6) (.cons (.var 14) .nil))))
noncomputable def la_f:I:=(.call "fillings" (.cons (.var 6) (.cons (.var 9) .nil)))
noncomputable def la_l:I:=(.iff (.not (.isi (.var 13) "list")) (.cons (.ret (.cbool false)) .nil) .nil)
noncomputable def zj1:I:=(.call "_law_is" (.cons (.var 14) (.cons (.var 12) (.cons (.var 7) .nil))))
noncomputable def la_r:I:=(.ret (.cmp .Eq (.prim1 .len (.comp1 (.var 14) (.var 13) zj1)) (.cint 1)))
@[simp] theorem sl13 {a0 a1 a2 a3 a4 a5 a6 a7 a8 a9 a10 a11 a12 a13:Option AV} {σ:Mini.Sg}:sq (a0::a1::a2::a3::a4::a5::a6::a7::a8::a9::a10::a11::a12::a13::σ) 13=some a13:=rfl
@[simp] theorem sl14 {a0 a1 a2 a3 a4 a5 a6 a7 a8 a9 a10 a11 a12 a13 a14:Option AV} {σ:Mini.Sg}:sq (a0::a1::a2::a3::a4::a5::a6::a7::a8::a9::a10::a11::a12::a13::a14::σ) 14=some a14:=rfl
section
variable {m:Nat} {N:List D} {v1 v2 v7 v8 v9 v10 v11 v12 v13:Option AV} {nm sp:List Int} {w:Bool} {t u:Tm}
theorem wr2 (h:∀ k,run Fs glo fuel m "_law_has" [enc t,.int k]=some (.bool (decide (k∈opl t)),false)):ex (Ga Fs fuel m) (.asg 12 la_n) (laS N v1 v2 nm sp w (vl (enc t)) v7 v8 v9 v10 v11 v12 v13)=some (.next (laS N v1 v2 nm sp w (vl (enc t)) v7 v8 v9 v10 v11 (ow (.list ((nmb t).map .int))) v13)):=by
 have hcomp:=zn0 (n:=14) (bc:=bc1) (cond:=zs7 (.call "_law_has" (.cons (.var 6) (.cons (.var 14) .nil))) (ev (Ga Fs fuel m) (.call "_law_has" (.cons (.var 6) (.cons (.var 14) .nil))))) (elt:=ev (Ga Fs fuel m) (.var 14)) (σ:=laS N v1 v2 nm sp w (vl (enc t)) v7 v8 v9 v10 v11 v12 v13)
  (c:=cI fun k=>decide (k∈opl t)) (F:=id) rfl (ds:=ten.map .int) fun x hx=>by
   (refine elEA (zy.mp hx) fun k hk e_2=>?_; subst e_2)
   refine ⟨[.int k],rfl,?_,fun _=>⟨false,rfl⟩⟩
   simp [cE_k,cI,h k]
 rw [List.map_id,yt3] at hcomp
 rw [yt7,la_n,zr5]
 show ((((zf3 14 _ _ (ten.map .int) (laS N v1 v2 nm sp w (vl (enc t)) v7 v8 v9 v10 v11 v12 v13)).bind _)).bind _)=_
 rw [zj6,hcomp]
 simp only [vJ,mkL]
 rw [if_pos (by rw [xw]; exact qy (xl7 t))]
 rfl
theorem wr3 {d:D} (h:run Fs glo fuel m "fillings" [enc t,enc u]=some (d,false)):ex (Ga Fs fuel m) (.asg 13 la_f) (laS N v1 v2 nm sp w (vl (enc t)) v7 v8 (vl (enc u)) v10 v11 v12 v13)=some (.next (laS N v1 v2 nm sp w (vl (enc t)) v7 v8 (vl (enc u)) v10 v11 v12 (vl d))):=by
 rw [la_f]; simp [h]
noncomputable def isB' (Fs:Fns) (fuel m:Nat) (a b d:D):Bool:=match run Fs glo fuel m "_law_is" [d,a,b] with
 | some (.bool b,_)=>b
 | _=>false
theorem wx5 {a b d:D} {q:Bool} (h:run Fs glo fuel m "_law_is" [d,a,b]=some (.bool q,false)):isB' Fs fuel m a b d=q:=by unfold isB'; rw [h]
theorem wr1 {a b:D} {L:List D} (hne:L≠[]) (hL:∀ d∈L,∃ q,run Fs glo fuel m "_law_is" [d,a,b]=some (.bool q,false)) (h1:(L.filter (isB' Fs fuel m a b)).length=1) {v6:Option AV}:ex (Ga Fs fuel m) la_r (laS N v1 v2 nm sp w v6 (vl b) v8 v9 v10 v11 (ow a) (vl (.list L)))=some (.ret (.bool true) false):=by
 have hcomp:=zn0 (n:=14) (bc:=bc1) (cond:=zs7 zj1 (ev (Ga Fs fuel m) zj1)) (elt:=ev (Ga Fs fuel m) (.var 14)) (σ:=laS N v1 v2 nm sp w v6 (vl b) v8 v9 v10 v11 (vl a) (vl (.list L)))
  (c:=isB' Fs fuel m a b) (F:=id) rfl (ds:=L) fun d hd=>by
   obtain ⟨q,e⟩:=hL d hd
   refine ⟨[d],rfl,?_,fun _=>⟨false,rfl⟩⟩
   rw [wx5 e,zj1,cE_k]; simp [e]
 rw [List.map_id] at hcomp
 generalize L.filter (isB' Fs fuel m a b)=R at hcomp h1
 have hz:R.length<=size:=by rw [h1]; decide
 have e:ev (Ga Fs fuel m) (.comp1 (.var 14) (.var 13) zj1) (laS N v1 v2 nm sp w v6 (vl b) v8 v9 v10 v11 (ow a) (vl (.list L)))=some (.list R,true,laS N v1 v2 nm sp w v6 (vl b) v8 v9 v10 v11 (vl a) (vl (.list L))):=by
  rw [zr5]
  show ((zf3 14 _ _ L (laS N v1 v2 nm sp w v6 (vl b) v8 v9 v10 v11 (ow a) (vl (.list L)))).bind _)=_
  have hsame:zq9 14 bc1 (zs7 zj1 (ev (Ga Fs fuel m) zj1)) (ev (Ga Fs fuel m) (.var 14)) L (laS N v1 v2 nm sp w v6 (vl b) v8 v9 v10 v11 (ow a) (vl (.list L)))=zq9 14 bc1 (zs7 zj1 (ev (Ga Fs fuel m) zj1)) (ev (Ga Fs fuel m) (.var 14)) L (laS N v1 v2 nm sp w v6 (vl b) v8 v9 v10 v11 (vl a) (vl (.list L))):=by
   cases hL':L with
   | nil=>exact absurd hL' hne
   | cons d r =>
    obtain ⟨q,e⟩:=hL d (hL'▸mh)
    have c1:zs7 zj1 (ev (Ga Fs fuel m) zj1) (laS N v1 v2 nm sp w v6 (vl b) v8 v9 v10 v11 (ow a) (vl (.list (d::r)))++[vl d])=some (.bool q,laS N v1 v2 nm sp w v6 (vl b) v8 v9 v10 v11 (vl a) (vl (.list (d::r)))++[vl d]):=by
     rw [zj1,cE_k]; simp [e]
    have c2:zs7 zj1 (ev (Ga Fs fuel m) zj1) (laS N v1 v2 nm sp w v6 (vl b) v8 v9 v10 v11 (vl a) (vl (.list (d::r)))++[vl d])=some (.bool q,laS N v1 v2 nm sp w v6 (vl b) v8 v9 v10 v11 (vl a) (vl (.list (d::r)))++[vl d]):=by
     rw [zj1,cE_k]; simp [e]
    exact congrArg (fun x=>Option.bind x fun p=>(zy2 p.1).bind fun b=>bif b then (ev (Ga Fs fuel m) (.var 14) p.2).bind fun x=>(zq9 14 bc1 (zs7 zj1 (ev (Ga Fs fuel m) zj1)) (ev (Ga Fs fuel m) (.var 14)) r (x.2.2.take 14)).bind fun q=>some (x.1::q.1,q.2) else zq9 14 bc1 (zs7 zj1 (ev (Ga Fs fuel m) zj1)) (ev (Ga Fs fuel m) (.var 14)) r (p.2.take 14)) (c1.trans c2.symm)
  rw [zj6,hsame,hcomp]
  simp only [vJ,mkL]
  rw [if_pos hz]; rfl
 rw [la_r]; simp [c_eq,eqD,e,zp5,zle1,zx9,zs0,h1]
end
structure H11 (Fs:Fns):Prop extends Hm Fs where
 opens_within:Has Fs "opens_within" ⟨1,4,zw9⟩
 shaped:Has Fs "shaped" ⟨1,1,zq1⟩
 fillings_of:Has Fs "fillings_of" ⟨2,10,zv5⟩
 is_whole:Has Fs "is_whole" ⟨2,2,zv0⟩
 is_leaf:Has Fs "is_leaf" ⟨1,1,zt0⟩
 leaves:Has Fs "leaves" ⟨1,4,zh1⟩
 fillings:Has Fs "fillings" ⟨2,2,zo6⟩
 cell_at:Has Fs "_law_cell_at" ⟨2,2,zy7⟩
 names:Has Fs "_law_names" ⟨1,1,zh2⟩
 lmade:Has Fs "_law_made" ⟨5,8,zd3⟩
 small:Has Fs "_law_small" ⟨2,5,zm1⟩
 great:Has Fs "_law_great" ⟨2,4,zm2⟩
 times:Has Fs "_law_times" ⟨2,2,zt9⟩
 lput:Has Fs "_law_put" ⟨2,2,za9⟩
 lform:Has Fs "_law_form" ⟨1,5,zj2⟩
 has:Has Fs "_law_has" ⟨2,2,zr2⟩
 joins:Has Fs "_law_joins" ⟨1,4,zq3⟩
 turned:Has Fs "_law_turned" ⟨2,3,zu9⟩
 moved:Has Fs "_law_moved" ⟨3,4,zq2⟩
 same:Has Fs "_law_same" ⟨2,3,zt5⟩
 is:Has Fs "_law_is" ⟨3,3,yu9⟩
theorem few_ok {Fs:Fns} (H:Hm Fs) {t:Tm} {S:D} (ht:num t<=20) (hS:Can 7 S) (hz:(1+num t)^lv S<size):Few t S:=fun ns L hn hns hL hrow=>by
 obtain ⟨hP,hlv⟩:=zw7 t ht
 refine elEEA (xk2 (fuel:=0) H hP (qt ht (by decide)) 0 S [] hS ⟨Qz,fun p hp=>nomatch hp⟩ (by rw [hlv,List.length_nil,u8]; exact qx ht) (by rw [hlv]; exact hz)) fun K _ _ M=>?_
 have ho:∀ i,i∈ns↔Opn i (shp t):=fun i=>(hns i).trans (yn6 t i).symm
 have hsub:L ⊆ K.map (zk3 ns):=fun r hr=>by
  refine elEA ((yn2 hn hP hS ho M r).mpr (hrow r hr)) fun κ hκ e=>?_
  exact zy.mpr ⟨κ,hκ,e.symm⟩
 have h1:=List.Nodup.length_le_of_subset hL hsub
 rw [xw] at h1
 have h2:=M.size
 rw [hlv] at h2
 exact ql (qt h1 (qt h2 (j0 (w7 ..) _))) hz
noncomputable def wx4:I:=(.cons (.asg 12 la_n) (.cons (.asg 13 la_f) (.cons la_l (.cons la_r .nil))))
structure Put (t u:Tm) (f:Int->Tm) (c:Nat):Prop where
 okt:ok t
 oku:ok u
 nt:num t<=20
 nu:num u<=20
 op:opl u=[]
 inn:∀ i∈opl t,In c (f i)
 c7:c<=7
 c1:1<=c
 ct:c*num t<=20
 can:Can 7 (shp u)
 pow:(1+num t)^num u<size
 eq:shp u=zv3 (fun i=>shp (f i)) t
theorem xj1 (H:H11 Fs) {n:Nat} {N:List D} {v1 v2 v8 v10 v11 v12 v13:Option AV} {nm sp:List Int} {w:Bool} {t u:Tm} {f:Int->Tm} {c:Nat} {κ:Kn} (P:Put t u f c) (hκ:∀ i∈opl t,lk κ i=some (enc (f i))) (hf:1000<=fuel) :
  ex (Ga Fs fuel (n+86)) wx4 (laS N v1 v2 nm sp w (vl (enc t)) (vl (dK κ)) v8 (vl (enc u)) v10 v11 v12 v13)=some (.ret (.bool true) false):=by
 have hv:Vals c (fun i=>shp (f i)) t:=fun i hi=>⟨(P.inn i hi).can.mono (by decide),by rw [(zw7 (f i) (qt (P.inn i hi).num (qy P.c7))).2]; exact (P.inn i hi).num⟩
 have hfill:fill (fun i=>shp (f i)) (shp t)=shp u:=(za6 P.c1 t P.ct hv).symm.trans P.eq.symm
 have hlv:=(zw7 u P.nu).2
 have hz:(1+num t)^lv (shp u)<size:=hlv.symm▸P.pow
 refine elEEAAAA (yj5 (fuel:=fuel) H.toHm H.opens_within H.shaped H.fillings_of H.is_whole H.is_leaf H.leaves H.fillings n P.okt P.oku P.nt P.nu (qt (by decide) hf) P.can P.pow (few_ok H.toHm P.nt P.can hz) P.op) fun ns L n1 n2 n3 e F=>?_
 have hns:ns=nmb t:=yd0 ((List.pairwise_and_iff.mpr ⟨n2,n1⟩).imp fun q=>Int.lt_iff_le_and_ne.mpr q) (wl7 t) fun k=>(n3 k).trans (wt3 P.okt k).symm
 have hrow:ns.map (fun i=>shp (f i))∈L:=(F.mem _).mpr (xa1 H.toHm n1 n3 P.nt P.can hz (fun i hi=>(P.inn i hi).can.mono (by decide)) hfill)
 have hlen:ns.length<=20:=by rw [hns]; exact qy (xl7 t)
 have key:∀ r∈L,∃ b,run Fs glo fuel (n+86) "_law_is" [dK (ns.zip r),.list (ns.map .int),dK κ]=some (.bool b,false)/\(b=true↔r=ns.map fun i=>shp (f i)):=fun r hr=>by
  have R:=(F.mem r).mp hr
  exact wm3 (fuel:=fuel) H.is H.same H.lform (n+65) n1 hlen R.1 (fun v hv=>(R.2.1 v hv).can P.can) fun i hi=>⟨hκ i ((n3 i).mp hi),qt (P.inn i ((n3 i).mp hi)).num P.c7⟩
 have hhas:∀ k,run Fs glo fuel (n+86) "_law_has" [enc t,.int k]=some (.bool (decide (k∈opl t)),false):=fun k=>by
  have:=ze4 (fuel:=fuel) H.has k t (n+86 - num t)
  rwa [show n+86 - num t+num t=n+86 from nsc (c:=0) P.nt] at this
 have hcount:((L.map fun r=>dK (ns.zip r)).filter (isB' Fs fuel (n+86) (.list (ns.map .int)) (dK κ))).length=1:=by
  rw [List.filter_map,xw]
  refine yp8 F.nod hrow fun r hr=>?_
  refine elEA (key r hr) fun b e1 e2=>?_
  show isB' Fs fuel (n+86) (.list (ns.map .int)) (dK κ) (dK (ns.zip r))=true↔_
  rw [wx5 e1]; exact e2
 refine (zz0 (wr2 hhas)).trans ((zz0 (wr3 e)).trans ((zz0 rfl).trans (zz5 ?_)))
 rw [<- hns]
 refine wr1 (fun q=>?_) (fun d hd=>?_) hcount
 ·rw [List.map_eq_nil_iff.mp q] at hrow; exact nomatch hrow
 ·(refine elEA (zy.mp hd) fun r hr e_2=>?_; subst e_2)
  refine elEA (key r hr) fun b e1 _=>?_
  exact ⟨b,e1⟩
end Pl
end
section
namespace Pl
open Mini PySem
variable {Fs:Fns} {fuel:Nat}
noncomputable def wr0:I:=(.idx (.lst (.cons (.lst (.cons (.cint 0) (.cons (.cint 1) (.cons (.cint 2) (.cons (.cint 3) .nil))))) (.cons (.lst (.cons (.cint 0) (.cons (.cint 3) (.cons (.cint 6) (.cons (.cint 9) .nil))))) (.cons (.lst (.cons (.cint 2) (.cons (.cint 5) (.cons (.cint 7) (.cons (.cint 8) .nil))))) (.cons (.lst (.cons (.cint 1) (.cons (.cint 4) (.cons (.cint 5) (.cons (.cint 9) .nil))))) .nil))))) (.bin .Mod (.var 2) (.cint 4)))
noncomputable def la_w:I:=(.cmp .Eq (.bin .Mod (.call "_law_cell_at" (.cons (.var 0) (.cons (.cint 14) .nil))) (.cint 4)) (.cint 1))
noncomputable def la_m:I:=(.call "_law_made" (.cons (.slc (.var 0) (.cint 6) (.cint 13)) (.cons (.var 3) (.cons (.var 4) (.cons (.idx (.lst (.cons (.cstr "sum") (.cons (.cstr "mul") .nil))) (.bin .Mod (.var 1) (.cint 2))) (.cons (.bin .Add (.cint 3) (.bin .Mult (.cint 3) (.prim1 .int (.var 5)))) .nil))))))
noncomputable def xj8:I:=(.cons (.asg 1 (.call "_law_cell_at" (.cons (.var 0) (.cons (.cint 0) .nil)))) (.cons (.asg 2 (.call "_law_cell_at" (.cons (.var 0) (.cons (.cint 13) .nil)))) (.cons (.asg 3 (.call "_law_names" (.cons (.bin .FloorDiv (.var 2) (.cint 4)) .nil))) (.cons (.asg 4 wr0) (.cons (.asg 5 la_w) (.cons (.asg 6 la_m) (.cons (.asg 7 .dct0) (.cons (.for1 8 (.rng1 (.cint 4)) te_b) (.cons ad (.cons (.asg 9 (.call "_law_put" (.cons (.var 6) (.cons (.var 7) .nil)))) (.cons (.for1 8 (.rng1 (.bin .Mod (.bin .FloorDiv (.var 1) (.cint 2)) (.cint 13))) mv_b) wx4)))))))))))
noncomputable abbrev lbS (N:List D) (v1 v2 v3 v4 v5:Option AV):Mini.Sg:=[vl (.list N),v1,v2,v3,v4,v5,none,none,none,none,none,none,none,none]
theorem xs9 (ns:List Int) (a b:Option Int):zv8 (ns.map vy) a b=(zv8 ns a b).map .int:=by simp [zv8,List.map_drop,List.map_take]
section
variable {m:Nat} {N:List D} {v1 v2 v3 v4 v5 v6 v10 v11 v12 v13:Option AV} {c d:Int} {nm sp:List Int} {w:Bool} {t u:Tm} {r:D} {κ:Kn}
theorem la_1 (h:run Fs glo fuel m "_law_cell_at" [.list N,.int 0]=some (r,false)):ex (Ga Fs fuel m) (.asg 1 (.call "_law_cell_at" (.cons (.var 0) (.cons (.cint 0) .nil)))) (lbS N v1 v2 v3 v4 v5)=some (.next (lbS N (vl r) v2 v3 v4 v5)):=by simp [h]
theorem la_2 (h:run Fs glo fuel m "_law_cell_at" [.list N,.int 13]=some (r,false)):ex (Ga Fs fuel m) (.asg 2 (.call "_law_cell_at" (.cons (.var 0) (.cons (.cint 13) .nil)))) (lbS N v1 v2 v3 v4 v5)=some (.next (lbS N v1 (vl r) v3 v4 v5)):=by simp [h]
theorem la_3 (h:run Fs glo fuel m "_law_names" [.int (d.fdiv 4)]=some (r,true)):ex (Ga Fs fuel m) (.asg 3 (.call "_law_names" (.cons (.bin .FloorDiv (.var 2) (.cint 4)) .nil))) (lbS N v1 (vl (.int d)) v3 v4 v5)=some (.next (lbS N v1 (vl (.int d)) (ow r) v4 v5)):=by simp [↓bd4,h]
theorem la_4 (h:idxD (.list [.list [.int 0,.int 1,.int 2,.int 3],.list [.int 0,.int 3,.int 6,.int 9],.list [.int 2,.int 5,.int 7,.int 8],.list [.int 1,.int 4,.int 5,.int 9]]) (.int (d.fmod 4))=some r):ex (Ga Fs fuel m) (.asg 4 wr0) (lbS N v1 (vl (.int d)) v3 v4 v5)=some (.next (lbS N v1 (vl (.int d)) v3 (vl r) v5)):=by
 have z4:(4:Nat)<=size:=by unfold size; decide
 rw [wr0]; simp [↓bm4,mkL_,z4,h]
theorem la_5 (h:run Fs glo fuel m "_law_cell_at" [.list N,.int 14]=some (.int c,false)):ex (Ga Fs fuel m) (.asg 5 la_w) (lbS N v1 v2 v3 v4 v5)=some (.next (lbS N v1 v2 v3 v4 (vl (.bool (c.fmod 4==1))))):=by
 rw [la_w]; simp [h,↓bm4,c_eq,eqD,zx9,zs0]
theorem la_6 (h:run Fs glo fuel m "_law_made" [.list (zv8 N (some 6) (some 13)),.list (nm.map .int),.list (sp.map .int),.str (s2 c).str,.int (if w then 6 else 3)]=some (enc t,false)):ex (Ga Fs fuel m) (.asg 6 la_m) (lbS N (vl (.int c)) v2 (ow (.list (nm.map .int))) (vl (.list (sp.map .int))) (vl (.bool w)))=some (.next (laS N (vl (.int c)) v2 nm sp w (vl (enc t)) none none none none none none none)):=by
 rw [la_m]
 cases w with
 | true =>
  have h':run Fs glo fuel m "_law_made" [.list (zv8 N (some 6) (some 13)),.list (nm.map .int),.list (sp.map .int),.str (s2 c).str,.int 6]=some (enc t,false):=h
  have e:zn7 .int (.bool true)=some (.int 1,false):=rfl
  have e2:binD .Mult (.int 3) (.int 1)=some (.int 3,false):=rfl
  simp [zu3,bE_c,zsl1,bD_,↓bm2,↓mkL2,xf9,e,↓e2,↓ys5,h']
 | false =>
  have h':run Fs glo fuel m "_law_made" [.list (zv8 N (some 6) (some 13)),.list (nm.map .int),.list (sp.map .int),.str (s2 c).str,.int 3]=some (enc t,false):=h
  have e:zn7 .int (.bool false)=some (.int 0,false):=rfl
  have e2:binD .Mult (.int 3) (.int 0)=some (.int 0,false):=rfl
  simp [zu3,bE_c,zsl1,bD_,↓bm2,↓mkL2,xf9,e,↓e2,↓ys5,h']
theorem la_9 (h:run Fs glo fuel m "_law_put" [enc t,dK κ]=some (enc u,false)) {v8 v9:Option AV}:ex (Ga Fs fuel m) (.asg 9 (.call "_law_put" (.cons (.var 6) (.cons (.var 7) .nil)))) (laS N v1 v2 nm sp w (vl (enc t)) (ow (dK κ)) v8 v9 v10 v11 v12 v13)=some (.next (laS N v1 v2 nm sp w (vl (enc t)) (vl (dK κ)) v8 (vl (enc u)) v10 v11 v12 v13)):=by simp [h]
theorem la_rng {v7 v8 v9:Option AV}:∃ q:Nat,q<13/\srcE (ev (Ga Fs fuel m) (.rng1 (.bin .Mod (.bin .FloorDiv (.var 1) (.cint 2)) (.cint 13)))) (laS N (vl (.int c)) v2 nm sp w v6 v7 v8 v9 v10 v11 v12 v13)=some ((List.range q).map fun k:Nat=>vy (0+(k:Int)),laS N (vl (.int c)) v2 nm sp w v6 v7 v8 v9 v10 v11 v12 v13):=by
 refine elEA (zd5 (c.fdiv 2) (b:=13) (by decide)) fun q hq e=>?_
 have e:(c.fdiv 2).fmod 13=(q:Int):=e
 have s13:zz9 13=true:=by decide
 have hs1:zz9 (q:Int)=true:=decide_eq_true (na62 (zq hq))
 have hs2:q<=size:=qy (zq hq)
 exact ⟨q,hq,by simp [wo7,↓bd2,s13,e,zai,zit1,hs1,hs2,zt6]⟩
end
theorem spots (d:Int):∃ p0 p1 p2 p3:Int,(∀ k∈[p0,p1,p2,p3],ok (.leaf true k))/\idxD (.list [.list [.int 0,.int 1,.int 2,.int 3],.list [.int 0,.int 3,.int 6,.int 9],.list [.int 2,.int 5,.int 7,.int 8],.list [.int 1,.int 4,.int 5,.int 9]]) (.int (d.fmod 4))=some (.list ([p0,p1,p2,p3].map .int)):=by
 rcases n4i (zj4 d (b:=4) (by decide)) with e|e|e|e<;>rw [e]
 ·exact ⟨0,1,2,3,(by decide:∀ k∈[(0:Int),1,2,3],0<=k/\k<=9),rfl⟩
 ·exact ⟨0,3,6,9,(by decide:∀ k∈[(0:Int),3,6,9],0<=k/\k<=9),rfl⟩
 ·exact ⟨2,5,7,8,(by decide:∀ k∈[(2:Int),5,7,8],0<=k/\k<=9),rfl⟩
 ·exact ⟨1,4,5,9,(by decide:∀ k∈[(1:Int),4,5,9],0<=k/\k<=9),rfl⟩
theorem wy4 {w:Bool} {p0:Int} {sp:List Int} {t u:Tm} {l:Tk} (F:Ful (if w then 1 else 3) (if w then 2 else 5) p0 sp t l) (h0:p0∈sp) (ht:ok t) (hsp:∀ k∈opl t,k∈sp) (hn:num t<=max 1 (if w then 6 else 3)) (K:Kept (sbs (tkF l) t) u):Put t u (tkF l) (if w then 2 else 5):=by
 have hi:∀ i∈opl t,In (if w then 2 else 5) (tkF l i):=fun i h=>F.inn i (hsp i h)
 have ho:∀ i∈opl t,i≠p0->num (tkF l i)<=(if w then 1 else 3):=fun i h=>F.oth i (hsp i h)
 have hb:num (sbs (tkF l) t)<=(if w then 7 else 11):=by
  rcases F.one with q|q
  ·have:=yn0 (c:=if w then 1 else 3) (by cases w<;>decide) q ho
   have:=Nat.le_of_add_le_add_right this
   cases w
   ·exact qt this (qt (w5 3 hn) (by decide))
   ·exact qt this (qt (w5 1 hn) (by decide))
  ·have:=yn0 (c:=if w then 1 else 3) (by cases w<;>decide) (F.inn p0 h0).num ho
   rw [q,Qj,Qj] at this
   cases w
   ·exact Nat.le_of_add_le_add_right (b:=3) (qt this (xv (qt (w5 3 hn) (by decide)) 5))
   ·exact Nat.le_of_add_le_add_right (b:=1) (qt this (xv (qt (w5 1 hn) (by decide)) 2))
 have hb20:num (sbs (tkF l) t)<=20:=qt hb (by cases w<;>decide)
 have hu:num u<=(if w then 7 else 11):=K.num▸hb
 have heq:shp u=zv3 (fun i=>shp (tkF l i)) t:=K.shp.trans (yd6 hb20)
 refine ⟨ht,K.ok (xn5 ht fun i h=>(hi i h).ok),qt hn (by cases w<;>decide),qt hu (by cases w<;>decide),K.opl (yd7 fun i h=>(hi i h).opl),hi,by cases w<;>decide,by cases w<;>decide,?_,?_,?_,heq⟩
 ·cases w
  ·exact qt (w5 5 hn) (by decide)
  ·exact qt (w5 2 hn) (by decide)
 ·cases w with
  | true=>exact (zw7 u (qt hu (by decide))).1.mono hu
  | false =>
   rw [heq]
   refine (zg6 (c:=5) (m:=2) (by decide) t (qt (w5 5 hn) (by decide)) fun i h=>⟨(hi i h).can,?_⟩).1.mono (qt (qZ hn 2) (by decide))
   rw [(zw7 (tkF l i) (qt (hi i h).num (by decide))).2]; exact (hi i h).num
 ·cases w
  ·exact z7 (qw (j0 (qZ hn 1) _) (jy (by decide) hu)) (by decide)
  ·exact z7 (qw (j0 (qZ hn 1) _) (jy (by decide) hu)) (by decide)
theorem wu2 (H:H11 Fs) (hlaw:Has Fs "law" ⟨1,14,xj8⟩) (n:Nat) (hf:1000<=fuel) (ns:List Int) (hs:Sm ns):run Fs glo fuel (n+87) "law" [.list (ns.map .int)]=some (.bool true,false):=by
 refine zz4 hlaw rfl ?_
 show ex (Ga Fs fuel (n+86)) xj8 (lbS (ns.map .int) none none none none none)=_
 have e1:=zg0 (fuel:=fuel) H.cell_at (n+85) ns 0
 have e2:=zg0 (fuel:=fuel) H.cell_at (n+85) ns 13
 have e5:=zg0 (fuel:=fuel) H.cell_at (n+85) ns 14
 generalize ns.getD 0 0=c at e1
 generalize ns.getD 13 0=d at e2
 generalize ns.getD 14 0=x at e5
 refine elEAA (xn7 (fuel:=fuel) H.names (n+85) (d.fdiv 4)) fun nm h4 h0 e3=>?_
 refine elEEEEA (spots d) fun p0 p1 p2 p3 hsp e4=>?_
 have e5':=la_5 (v1:=vl (.int c)) (v2:=vl (.int d)) (v3:=ow (.list (nm.map .int))) (v4:=vl (.list ([p0,p1,p2,p3].map .int))) (v5:=none) e5
 generalize (x.fmod 4==1)=w at e5'
 refine elEAAA (xe2 (fuel:=fuel) H.lmade (n+85) (zv8 ns (some 6) (some 13)) (s:=s2 c) (M:=if w then 6 else 3) h4 (show [p0,p1,p2,p3].length=4 from rfl) h0 hsp (by cases w<;>decide) hf) fun t ht hop hnum e6=>?_
 rw [<- xs9,show ((if w then 6 else 3:Nat):Int)=if w then 6 else 3 by cases w<;>rfl] at e6
 refine elEA (yo7 (Fs:=Fs) (fuel:=fuel) (n:=n+85) (ns:=ns) (v1:=vl (.int c)) (v2:=vl (.int d)) (v6:=vl (enc t)) (v9:=none) (v10:=none) (v11:=none) (v12:=none) (v13:=none) (w:=w) (l:=[]) (k:=0) (p:=p0) (sp:=[p0,p1,p2,p3]) (done:=[]) H.small H.cell_at h4 h0 rfl ⟨fun i=>Iff.rfl,(fun i h=>nomatch h),zW _⟩ (by decide)) fun l1 T1 g1=>?_
 refine elEA (yo7 (Fs:=Fs) (fuel:=fuel) (n:=n+85) (ns:=ns) (v1:=vl (.int c)) (v2:=vl (.int d)) (v6:=vl (enc t)) (v9:=none) (v10:=none) (v11:=none) (v12:=none) (v13:=none) (w:=w) (k:=1) (p:=p1) (sp:=[p0,p1,p2,p3]) H.small H.cell_at h4 h0 rfl T1 (show 1<=4 by decide)) fun l2 T2 g2=>?_
 refine elEA (yo7 (Fs:=Fs) (fuel:=fuel) (n:=n+85) (ns:=ns) (v1:=vl (.int c)) (v2:=vl (.int d)) (v6:=vl (enc t)) (v9:=none) (v10:=none) (v11:=none) (v12:=none) (v13:=none) (w:=w) (k:=2) (p:=p2) (sp:=[p0,p1,p2,p3]) H.small H.cell_at h4 h0 rfl T2 (show 2<=4 by decide)) fun l3 T3 g3=>?_
 refine elEA (yo7 (Fs:=Fs) (fuel:=fuel) (n:=n+85) (ns:=ns) (v1:=vl (.int c)) (v2:=vl (.int d)) (v6:=vl (enc t)) (v9:=none) (v10:=none) (v11:=none) (v12:=none) (v13:=none) (w:=w) (k:=3) (p:=p3) (sp:=[p0,p1,p2,p3]) H.small H.cell_at h4 h0 rfl T3 (show 3<=4 by decide)) fun l4 T4 g4=>?_
 have s8:ex (Ga Fs fuel (n+86)) (.for1 8 (.rng1 (.cint 4)) te_b) (laS (ns.map .int) (vl (.int c)) (vl (.int d)) nm [p0,p1,p2,p3] w (vl (enc t)) (ow (dK (tkD []))) none none none none none none)=some (.next (laS (ns.map .int) (vl (.int c)) (vl (.int d)) nm [p0,p1,p2,p3] w (vl (enc t)) (ow (dK (tkD l4))) (vl (.int (3:Nat))) none none none none none)):=by
  rw [zy4]
  show forN (zn4 8) (ex (Ga Fs fuel (n+86)) te_b) [.int 0,.int 1,.int 2,.int 3] _=_
  rw [zv1 rfl g1,zv1 rfl g2,zv1 rfl g3,zv1 rfl g4]
  rfl
 have hn6:num t<=6:=qt hnum (by cases w<;>decide)
 refine elEA (ad_ok (Fs:=Fs) (fuel:=fuel) (n:=n+85) (ns:=ns) (c:=c) (v2:=vl (.int d)) (v8:=vl (.int (3:Nat))) (v9:=none) (v10:=none) (v11:=none) (v12:=none) (v13:=none) H.great H.cell_at H.times h4 h0 (qt hn6 (qt (by decide) (w7 86 n))) T4.keys T4.inn (qt T4.len (show 2*4<=100 by decide))) fun l5 F s9=>?_
 have hκ:∀ i∈opl t,lk (tkD l5) i=some (enc (tkF l5 i)):=fun i hi=>xc6 ((F.keys i).mpr (hop i hi))
 have e9:=yd9 (fuel:=fuel) H.lput t (n+85) (qt hn6 (qt (by decide) (w7 86 n))) hκ
 have hnu:num (sbs (tkF l5) t)<=20:=(wy4 F mh ht hop hnum ⟨rfl,rfl,id,id⟩).nu
 refine elEA (la_rng (Fs:=Fs) (fuel:=fuel) (m:=n+86) (N:=ns.map .int) (v2:=vl (.int d)) (v6:=vl (enc t)) (v7:=vl (dK (tkD l5))) (v8:=vl (.int (3:Nat))) (v9:=vl (enc (sbs (tkF l5) t))) (v10:=none) (v11:=none) (v12:=none) (v13:=none) (c:=c) (nm:=nm) (sp:=[p0,p1,p2,p3]) (w:=w)) fun q hq er=>?_
 refine elEEEEA (xk0 (Fs:=Fs) (fuel:=fuel) (n:=n+61) (ns:=ns) (v1:=vl (.int c)) (v2:=vl (.int d)) (v6:=vl (enc t)) (v7:=vl (dK (tkD l5))) (v12:=none) (v13:=none) (nm:=nm) (sp:=[p0,p1,p2,p3]) (w:=w) H.joins H.turned H.moved H.cell_at hs hf (List.range q) (sbs (tkF l5) t) (vl (.int (3:Nat))) none none (fun k hk=>Q5 (Q5 (List.mem_range.mp hk) hq) (by decide)) hnu) fun u y8 y10 y11 K em=>?_
 have s11:ex (Ga Fs fuel (n+86)) (.for1 8 (.rng1 (.bin .Mod (.bin .FloorDiv (.var 1) (.cint 2)) (.cint 13))) mv_b) (laS (ns.map .int) (vl (.int c)) (vl (.int d)) nm [p0,p1,p2,p3] w (vl (enc t)) (vl (dK (tkD l5))) (vl (.int (3:Nat))) (vl (enc (sbs (tkF l5) t))) none none none none)=some (.next (laS (ns.map .int) (vl (.int c)) (vl (.int d)) nm [p0,p1,p2,p3] w (vl (enc t)) (vl (dK (tkD l5))) y8 (vl (enc u)) y10 y11 none none)):=by
  rw [zy4,er]; exact em
 exact (zz0 (la_1 e1)).trans ((zz0 (la_2 e2)).trans ((zz0 (la_3 e3)).trans ((zz0 (la_4 e4)).trans ((zz0 e5').trans ((zz0 (la_6 e6)).trans ((zz0 rfl).trans ((zz0 s8).trans ((zz0 s9).trans ((zz0 (la_9 e9)).trans ((zz0 s11).trans (xj1 H (wy4 F mh ht hop hnum K) hκ hf)))))))))))
end Pl
end
section
namespace L11
open Mini PySem Pl
noncomputable def fns:Fns:=[("is_whole", ⟨2,2,zv0⟩),
 ("is_leaf", ⟨1,1,zt0⟩),
 ("leaves", ⟨1,4,zh1⟩),
 ("opens_within", ⟨1,4,zw9⟩),
 ("parts_in", ⟨2,2,zx2⟩),
 ("joined", ⟨2,4,zu0⟩),
 ("shaped", ⟨1,1,zq1⟩),
 ("choices", ⟨1,7,zr3⟩),
 ("without", ⟨2,4,zu8⟩),
 ("open_met", ⟨5,9,zw0⟩),
 ("part_met", ⟨3,6,zo5⟩),
 ("join_met", ⟨3,9,zu1⟩),
 ("met", ⟨3,6,zp2⟩),
 ("fillings_of", ⟨2,10,zv5⟩),
 ("fillings", ⟨2,2,zo6⟩),
 ("_law_cell_at", ⟨2,2,zy7⟩),
 ("_law_names", ⟨1,1,zh2⟩),
 ("_law_made", ⟨5,8,zd3⟩),
 ("_law_small", ⟨2,5,zm1⟩),
 ("_law_great", ⟨2,4,zm2⟩),
 ("_law_times", ⟨2,2,zt9⟩),
 ("_law_put", ⟨2,2,za9⟩),
 ("_law_form", ⟨1,5,zj2⟩),
 ("_law_has", ⟨2,2,zr2⟩),
 ("_law_joins", ⟨1,4,zq3⟩),
 ("_law_turned", ⟨2,3,zu9⟩),
 ("_law_moved", ⟨3,4,zq2⟩),
 ("_law_same", ⟨2,3,zt5⟩),
 ("_law_is", ⟨3,3,yu9⟩),
 ("law", ⟨1,14,xj8⟩)]
theorem hs:H11 fns where
 parts_in:=by rfl
 joined:=by rfl
 choices:=by rfl
 without:=by rfl
 open_met:=by rfl
 part_met:=by rfl
 join_met:=by rfl
 met:=by rfl
 opens_within:=by rfl
 shaped:=by rfl
 fillings_of:=by rfl
 is_whole:=by rfl
 is_leaf:=by rfl
 leaves:=by rfl
 fillings:=by rfl
 cell_at:=by rfl
 names:=by rfl
 lmade:=by rfl
 small:=by rfl
 great:=by rfl
 times:=by rfl
 lput:=by rfl
 lform:=by rfl
 has:=by rfl
 joins:=by rfl
 turned:=by rfl
 moved:=by rfl
 same:=by rfl
 is:=by rfl
theorem run11 (ns:List Int) (h:Sm ns):Mini.run fns glo 1000 500 "law" [.list (ns.map .int)]=some (.bool true,false):=wu2 hs (by rfl) 413 (by decide) ns h
end L11
end
theorem Pl.glo_same:Pl.glo=Snd.glo:=rfl
theorem Pl.sm_of {ns:List Int} (h:(Z3.list (ns.map .int)).layable0=true):Pl.Sm ns:=by
 simp only [Z3.layable0,zj,decide_eq_true_eq] at h
 have h2:=h.2
 simp only [Z3.weight] at h2
 have go:∀ (l:List Int) (i:Int),i∈l->Z3.weight (.int i)<=Z3.weightAll (l.map .int):=by
  intro l
  induction l with
  | nil=>intro i hi; simp at hi
  | cons x r ih =>
   intro i hi
   simp only [xz,Z3.weightAll]
   rcases z0.mp hi with rfl|hi
   ·omega
   ·have:=ih i hi; omega
 intro i hi
 have h3:=go ns i hi
 have h4:PySem.Builtin.Int.intBits i=Z3.weight (.int i):=by simp only [Z3.weight,PySem.Builtin.Int.intBits]
 rw [h4]
 have h5:(2:Nat)^20=1048576:=by decide
 omega
open PySem in
noncomputable def Snd.topK (P:Params):W.Frag:=[(3,{ cls:=qq.type "dict", data:=Data.dict #[{ hash:=zz P (qk "__name__"),key:=xQ (qk "__name__") 165,val:=xQ (qk "law_uf020015_11") 405 },{ hash:=zz P (qk "__doc__"),key:=xQ (qk "__doc__") 166,val:=wz },{ hash:=zz P (qk "__package__"),key:=xQ (qk "__package__") 167,val:=wz },{ hash:=zz P (qk "__loader__"),key:=xQ (qk "__loader__") 168,val:=qq.builtin "__main__.__loader__#opaque" },{ hash:=zz P (qk "__spec__"),key:=xQ (qk "__spec__") 169,val:=wz },{ hash:=zz P (qk "__annotations__"),key:=xQ (qk "__annotations__") 170,val:=xK 6 },{ hash:=zz P (qk "__builtins__"),key:=xQ (qk "__builtins__") 171,val:=xK 4 },{ hash:=zz P (qk "__file__"),key:=xQ (qk "__file__") 173,val:=xQ (qk "/claim/cut.py") 172 },{ hash:=zz P (qk "__cached__"),key:=xQ (qk "__cached__") 174,val:=wz },{ hash:=zz P (qk "TermError"),key:=xQ (qk "TermError") 206,val:=xK 24 },{ hash:=zz P (qk "NoTerm"),key:=xQ (qk "NoTerm") 222,val:=xK 37 },{ hash:=zz P (qk "TooGreat"),key:=xQ (qk "TooGreat") 238,val:=xK 49 },{ hash:=zz P (qk "HasOpen"),key:=xQ (qk "HasOpen") 254,val:=xK 61 },{ hash:=zz P (qk "LEAVES"),key:=xQ (qk "LEAVES") 258,val:=qq.int 40 257 },{ hash:=zz P (qk "GREATEST"),key:=xQ (qk "GREATEST") 260,val:=qq.int 1000000000 259 },{ hash:=zz P (qk "OPENS"),key:=xQ (qk "OPENS") 262,val:=qq.int 10 261 },{ hash:=zz P (qk "JOINS"),key:=xQ (qk "JOINS") 265,val:=xK 64 },{ hash:=zz P (qk "is_whole"),key:=xQ (qk "is_whole") 273,val:=xK 71 },{ hash:=zz P (qk "is_leaf"),key:=xQ (qk "is_leaf") 280,val:=xK 78 },{ hash:=zz P (qk "leaves"),key:=xQ (qk "leaves") 290,val:=xK 85 },{ hash:=zz P (qk "opens_within"),key:=xQ (qk "opens_within") 300,val:=xK 92 },{ hash:=zz P (qk "parts_in"),key:=xQ (qk "parts_in") 310,val:=xK 99 },{ hash:=zz P (qk "joined"),key:=xQ (qk "joined") 320,val:=xK 106 },{ hash:=zz P (qk "shaped"),key:=xQ (qk "shaped") 327,val:=xK 113 },{ hash:=zz P (qk "choices"),key:=xQ (qk "choices") 335,val:=xK 118 },{ hash:=zz P (qk "without"),key:=xQ (qk "without") 345,val:=xK 125 },{ hash:=zz P (qk "open_met"),key:=xQ (qk "open_met") 360,val:=xK 132 },{ hash:=zz P (qk "part_met"),key:=xQ (qk "part_met") 372,val:=xK 139 },{ hash:=zz P (qk "join_met"),key:=xQ (qk "join_met") 378,val:=xK 144 },{ hash:=zz P (qk "met"),key:=xQ (qk "met") 390,val:=xK 151 },{ hash:=zz P (qk "fillings_of"),key:=xQ (qk "fillings_of") 396,val:=xK 156 },{ hash:=zz P (qk "fillings"),key:=xQ (qk "fillings") 404,val:=xK 163 },{ hash:=zz P (qk "_law_cell_at"),key:=xQ (qk "_law_cell_at") 414,val:=xK 170 },{ hash:=zz P (qk "_law_names"),key:=xQ (qk "_law_names") 420,val:=xK 175 },{ hash:=zz P (qk "_law_made"),key:=xQ (qk "_law_made") 434,val:=xK 182 },{ hash:=zz P (qk "_law_small"),key:=xQ (qk "_law_small") 445,val:=xK 189 },{ hash:=zz P (qk "_law_great"),key:=xQ (qk "_law_great") 455,val:=xK 196 },{ hash:=zz P (qk "_law_times"),key:=xQ (qk "_law_times") 463,val:=xK 203 },{ hash:=zz P (qk "_law_put"),key:=xQ (qk "_law_put") 471,val:=xK 210 },{ hash:=zz P (qk "_law_form"),key:=xQ (qk "_law_form") 482,val:=xK 217 },{ hash:=zz P (qk "_law_has"),key:=xQ (qk "_law_has") 490,val:=xK 224 },{ hash:=zz P (qk "_law_joins"),key:=xQ (qk "_law_joins") 500,val:=xK 231 },{ hash:=zz P (qk "_law_turned"),key:=xQ (qk "_law_turned") 509,val:=xK 238 },{ hash:=zz P (qk "_law_moved"),key:=xQ (qk "_law_moved") 519,val:=xK 245 },{ hash:=zz P (qk "_law_same"),key:=xQ (qk "_law_same") 528,val:=xK 252 },{ hash:=zz P (qk "_law_is"),key:=xQ (qk "_law_is") 534,val:=xK 257 },{ hash:=zz P (qk "law"),key:=xQ (qk "law") 540,val:=xK 262 }] 47 }),
 (64,{ cls:=qq.type "tuple", data:=Data.seq #[xQ (qk "sum") 263,xQ (qk "mul") 264] })]
open PySem PySem.W PyProof.Rows
noncomputable abbrev Snd.topQ:vw:=view PySem.Challenge.pw_uf020015_11 [1,2,3,4,6,7,8,9,10,11,12,13,15,16,17,19,20,21,22,23,24,25,26,28,29,30,31,32,33,34,35,36,37,38,39,40,41,42]
noncomputable abbrev Snd.topH:=kHook Snd.topK [3,64] (fun _=>by kernel_rfl)
noncomputable abbrev Snd.topX (s:qv):Bool:=xlAt Snd.topQ [] s&&recOk (RowW.records (OpenRow.toRowW (OpenLaw.row PySem.Challenge.rw_uf020015_11))) s
set_option maxRecDepth 100000 in
theorem Snd.topLeft:LeftO PySem.Challenge.pw_uf020015_11 Snd.topQ [] Snd.topX (Hook.obs Snd.topH) (Hook.val Snd.topH) 4000:=by
 intro w
 kernel_rfl
set_option maxRecDepth 100000 in
theorem Snd.said:OpenLaw.wellSaid PySem.Challenge.rw_uf020015_11=true:=by kernel_rfl
end Internal
open Internal PySem PySem.W PyProof.Rows
set_option maxRecDepth 100000 in
set_option maxHeartbeats 8000000 in
theorem PySem.Challenge.cw_uf020015_11_holds : PySem.Challenge.rw_uf020015_11.Holds := by
 refine holds_law Snd.said fun said=>?_
 refine holds_open (q:=Snd.topQ) (loose:=[]) (Xt:=Snd.topX) (XP:=XL Snd.topQ []) (Yf:=Hook.obs Snd.topH) (Ya:=Hook.val Snd.topH) (YP:=Hook.says Snd.topH) (N:=4000) Snd.topLeft (Hook.of Snd.topH) (Hook.keeps Snd.topH) (fun s e=>xl_of s (zw.mp e).1) XL.keeps (by rfl) (by rfl) (by rfl) (fun s e=>recFacts_of (zw.mp e).2) (by rfl) (by assumption) (by decide +kernel) ⟨rfl,rfl,rfl,rfl,rfl,by decide +kernel⟩ ?hw ?hc
 (case hw=>w_witness2)
 intro w s₀ s₁ mg mb G Y fa o pm cd doc dV kV ho hd hcd hD hmg hg args vals as hpre hlay hrd hwl hlo
 have KX:=kIn_of Y
 clear hd hcd hD ho
 have hmg':mg "law" = some (.ref fa):=hmg
 clear hmg
 wrow_args hpre hlay hrd hwl hlo
 rename IntsAre _ _=>hI
 rename Heap.IsList _ _ _=>hL
 rename ¬ _<_=>hlen
 rename PyData.layable0 _=true=>hlayd
 have hrun:=L11.run11 _ (Pl.sm_of hlayd)
 rw [Pl.glo_same] at hrun
 refine k5 (Snd.law_true G KX (aj:=64) (tj:=263) (uj:=264) (nj:=0) ⟨by kernel_rfl,by rfl⟩ (by decide +kernel) hmg' hL hI (by omega) (by decide) hrun) (fun v s' q=>?_) fun _ _ x=>x
 obtain ⟨rfl,keep,h',tk,rfl⟩:=q
 exact GoodW.toG ⟨.inl ⟨_,.bool true,[],rfl,fun cls=>by rfl,.bool _,Snd.post_true _ _,fun _=>⟨Qz,by simp⟩⟩,keep,rfl,hg⟩
