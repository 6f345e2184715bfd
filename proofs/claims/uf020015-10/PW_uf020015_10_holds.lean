import PyProof.Rows.All
import PySem.Builtin.Int.Common
import PyProof.TableCode
import PyProof.Methods
import PyProof.AttrMissHeap
import PyProof.FString5
import PyProof.SliceSyntax
import PyProof.SliceList
import PyProof.Cells
import PyProof.CompFree
import PyProof.Conv_int_bool
import PyProof.ListOps
import PyProof.MeetsDictList
import PyProof.DictRoads
import PyProof.DictFindH
import PyProof.DictRoadsH
import PyProof.DictWalks
import PyProof.Draws
import PyProof.P3Statements
import PyProof.P3Eq
import PyProof.NeData
import PyProof.StationsW
import PyProof.WalksMore
import PyProof.RangeFor
import PyProof.IsiHeapPairs
import PyProof.IsiNone
import PyProof.IsiPairs
import PyProof.ListNew
import PyProof.ListCopy
import PyProof.ListIndexNeg
import PyProof.ListTruth
import PyProof.WalkInts
import PyProof.RulesAs
import PyProof.P3In
import PyProof.Rows.Globals
import PyProof.Rows.Lst
import PyProof.Rows.IntRules
import PyProof.Rows.DictRows
import PyProof.ZipIter
import PyProof.TupleCall
import PyProof.Truth
import PyProof.Rows.Own
import PyProof.Rows.Exc
import PyProof.Rows.Catch
import PyProof.Rows.Chain
import PyProof.Rows.Nodes
import PyProof.Rows.RuleU_int
import PyProof.Rows.RuleB_mul
import PyProof.Rows.RuleB_pow
import PyProof.Rows.RuleB_floordiv
import PyProof.Rows.RuleB_mod
import PyProof.Rows.StrTemp
import PyProof.Rows.ListMul
import PyProof.Rows.RuleC_int
import PyProof.Rows.RuleIs
import PyProof.Rows.TupMore
import PyProof.Rows.StrRules
import PyProof.Rows.TopTwo
import PyProof.Rows.SeqMore
import PyProof.TupleOfSeq
import PyProof.Rows.SortRuns
import OpenK.KCall
import KE.KDictList
import KE.KDictOf
import KE.KEqDict
import KE.KRevIter
import KE.KSortTup
import Wide.FinOn
import OpenK.AllK
import Wide.All
import PySem.Challenge.RW_uf020015_10
set_option tactic.hygienic false
set_option Elab.async false
set_option genSizeOf false
set_option backward.eqns.nonrecursive false
set_option linter.all false
open PySem renaming wpAny_bind→qq,Value→qz,Shared→qw,wpAny_pure→qX,PyData→qW,wpAny→qK,model→zx,Around→zJ,Scope→x9,Env→xy,World→wz,Program→vw,DictEntry→j3,wpAny_holding→jW,wpAny_call_entry→jV,wpAny_field→jK,wpAny_callSpecial?_slot→k8,wpAny_seqItems→kx,intKind→kZ,sizeLine→kW,wpAny_mono→kK,NameKind→yq,IsPair→yw,codeAny_builtin→yW,wpAny_newObj_type→uW,sysModules→uJ,wpAny_setField_rec→Qx,wpAny_rule→Qw,rawInt→Qv,wpAny_truthy_bool→Z0,sizeLine_eq→Z1,plainId_quiet→Z4,pyNext→Z7,wpAny_typeNameOfWhole_keyiter→Zx,wpAny_assign_Name→ZQ,compareOp→ZK
open Nat renaming le_trans→qv,le_add_right→qk,add_le_add_left→qZ,lt_of_le_of_lt→z8,le_of_not_lt→z9,le_of_lt→zz,le_refl→zv,add_assoc→x0,succ_le_succ→xz,le_of_eq→xx,sub_add_cancel→xW,le_add_left→w3,add_le_add_right→w5,le_sub_one_of_lt→wj,add_sub_of_le→wX,min_eq_left→wV,add_comm→wJ,zero_le→vq,lt_of_lt_of_le→vZ,add_lt_of_lt_sub'→j0,min_le_left→j5,lt_of_succ_lt→j9,lt_of_le_of_ne→jv,le_antisymm→jy,add_le_add→jQ,mul_le_mul_left→jZ,ne_of_lt→jJ,ne_of_gt→kj,lt_succ_self→ky,pow_le_pow_left→kX,le_of_succ_le_succ→yQ,le_of_sub_eq_zero→yZ,lt_of_not_le→yJ,zero_add→u0,pow_le_pow_right→u9,mul_le_mul_right→uq,le_succ_of_le→uw,le_of_succ_le→uv,le_of_lt_succ→uk,add_sub_cancel_left→uy,add_lt_add_left→uX,min_le_right→Q2,le_max_right→Q3,sub_le→Q6,add_le_of_le_sub'→Q9,le_succ→QW,not_lt→QK,lt_trans→Z8,le_mul_of_pos_left→Z9,sub_pos_of_lt→Zw,lt_succ_of_lt→Zv,mul_add→Zy,min_eq_right→ZX,add_zero→ZV
open Bool renaming false_ne_true→qj,and_eq_true_iff→zq,and_eq_true→zj,false_eq_true→vx,or_eq_true→Qk,not_eq_true→ZZ
open PySem.Heap renaming get?_push_of_some→qQ,get?_push_size→x7,lt_size→xk,get?_update_other→jw,get?_update_self→jX,SameBut→yK
open List renaming getElem?_eq_some_iff→qV,getElem?_eq_getElem→qJ,mem_append→z6,length_append→zw,mem_cons→zQ,mem_map→zX,map_cons→x6,all_eq_true→x8,mem_singleton→xq,length_map→xj,mem_of_getElem?→xZ,getElem?_append_left→xX,length_cons→xV,mem_cons_of_mem→xJ,append_assoc→w6,getElem?_set_ne→w8,getElem?_set_self→wq,getElem?_append_right→wK,pairwise_append→vk,nodup_cons→vQ,getElem_mem→vX,Perm→vV,replicate→j6,not_mem_nil→j7,lookup_cons→j8,zip_cons_cons→k6,find?_cons→k7,drop_eq_getElem_cons→kQ,nodup_nil→kJ,mem_cons_self→y8,cons_append→yz,map_map→yk,getElem?_map→yy,filter_cons→yV,mem_append_left→u7,nodup_append→ux,length_set→uQ,mem_replicate→Q4,mem_iff_getElem?→Q7,pairwise_iff_getElem→Qz,append_nil→Qj,lookup→QZ,all_cons→QV,length_take→Z2,length_eq_zero_iff→Z3,map_append→Zz,getD_eq_getElem?_getD→Zj
open PyProof.Rows renaming Keyed→z0,arrOf→zy,wpS_bind→zZ,pendingOf→zW,wpS_pure→zV,SortSt→zK,args_cons→w4,callWith_type1→wx,args_nil→vW,Call_→j4,wpS_mono→k9,failedOf→y9,callWith_builtin1→yj,elem'→yX,tail_any→uZ,wpS_modify→uV,seqObj→uK
open PySem.PyData renaming eqv→z7,tuple→wQ,canLayAll0→vz,int→vj,depthAll→vy,canLay0→vK,eqvAll→QQ
open Array renaming getElem?_eq_getElem→zk,getElem?_toList→xK,getD_eq_getD_getElem?→w0,toList_append→w7,length_toList→ww,getElem?_eq_none→yv,getElem?_extract_of_lt→Zq
open Option.some renaming inj→xv,injEq→Q1
open Option renaming some→xQ,isSome_iff_exists→jj,bind_some→jk
open PySem.Builtin.SmallTypes renaming nextOf→w9,ownedTupleIsFree→wy
open PySem.Value renaming none→wk,type→uz
open ForInStep renaming yield→wZ,done→vJ
open PySem.Obj renaming mapSeq→wW
open Int renaming toNat_natCast→jz,ofNat_lt→u6,natCast_nonneg→Q8,eq_ofNat_of_zero_le→Z6
open PySem.Around renaming under_plainId→jx
open PySem.Builtin.Tuple renaming tupleHashOf→k5
open PySem.F renaming slot_dict_keyiterator_next→y6,slot_zip_next→QJ,slot_tuple_iterator_next→ZJ
open Ne renaming symm→y7
open PySem.NameKind renaming free→yx
open PySem.Builtin.List renaming listExtendWith→u8,listTooLong→Q5
open PySem.Str renaming ofString→Q0
open PySem.Heap.SameBut renaming update→Qq
open PyProof.Rows.SortSt renaming mk'→Qy
open And renaming intro→QX
open List.Perm renaming trans→Z5
namespace Internal
section
namespace Mini
theorem elAA {P Q S:Prop}{R:Prop}(h:P/\Q/\S)(k:P->Q->S->R):R:=k h.1 h.2.1 h.2.2
theorem elAAA {P Q S T:Prop}{R:Prop}(h:P/\Q/\S/\T)(k:P->Q->S->T->R):R:=k h.1 h.2.1 h.2.2.1 h.2.2.2
theorem elAAAAAA {P Q S T U V W:Prop}{R:Prop}(h:P/\Q/\S/\T/\U/\V/\W)(k:P->Q->S->T->U->V->W->R):R:=k h.1 h.2.1 h.2.2.1 h.2.2.2.1 h.2.2.2.2.1 h.2.2.2.2.2.1 h.2.2.2.2.2.2
theorem elAE {a:Sort _}{P:Prop}{Q:a->Prop}{R:Prop}(h:P/\∃ x,Q x)(k:P->∀ x,Q x->R):R:=h.2.elim fun x h1=>k h.1 x h1
theorem zj6 {a b:Sort _}{P:Prop}{Q S:a->b->Prop}{R:Prop}(h:P/\∃ x y,Q x y/\S x y)(k:P->∀ x y,Q x y->S x y->R):R:=h.2.elim fun x h1=>h1.elim fun y h2=>k h.1 x y h2.1 h2.2
theorem xx2 {a b:Sort _}{P:Prop}{Q S T:a->b->Prop}{R:Prop}(h:P/\∃ x y,Q x y/\S x y/\T x y)(k:P->∀ x y,Q x y->S x y->T x y->R):R:=h.2.elim fun x h1=>h1.elim fun y h2=>k h.1 x y h2.1 h2.2.1 h2.2.2
theorem wj2 {a b c:Sort _}{P:Prop}{Q S:a->b->c->Prop}{R:Prop}(h:P/\∃ x y z,Q x y z/\S x y z)(k:P->∀ x y z,Q x y z->S x y z->R):R:=h.2.elim fun x h1=>h1.elim fun y h2=>h2.elim fun z h3=>k h.1 x y z h3.1 h3.2
theorem zu6 {a b c:Sort _}{P:Prop}{Q S T:a->b->c->Prop}{R:Prop}(h:P/\∃ x y z,Q x y z/\S x y z/\T x y z)(k:P->∀ x y z,Q x y z->S x y z->T x y z->R):R:=h.2.elim fun x h1=>h1.elim fun y h2=>h2.elim fun z h3=>k h.1 x y z h3.1 h3.2.1 h3.2.2
theorem ys2 {a b c:Sort _}{P:Prop}{Q S T U:a->b->c->Prop}{R:Prop}(h:P/\∃ x y z,Q x y z/\S x y z/\T x y z/\U x y z)(k:P->∀ x y z,Q x y z->S x y z->T x y z->U x y z->R):R:=h.2.elim fun x h1=>h1.elim fun y h2=>h2.elim fun z h3=>k h.1 x y z h3.1 h3.2.1 h3.2.2.1 h3.2.2.2
theorem yz6 {a b c d f:Sort _}{P:Prop}{Q S:a->b->c->Prop}{T U V:a->b->c->d->f->Prop}{R:Prop}(h:P/\∃ x y z,Q x y z/\S x y z/\∃ u v,T x y z u v/\U x y z u v/\V x y z u v)(k:P->∀ x y z,Q x y z->S x y z->∀ u v,T x y z u v->U x y z u v->V x y z u v->R):R:=h.2.elim fun x h1=>h1.elim fun y h2=>h2.elim fun z h3=>h3.2.2.elim fun u h6=>h6.elim fun v h7=>k h.1 x y z h3.1 h3.2.1 u v h7.1 h7.2.1 h7.2.2
theorem xd4 {a b c d:Sort _}{P:Prop}{Q S T:a->b->c->d->Prop}{R:Prop}(h:P/\∃ x y z u,Q x y z u/\S x y z u/\T x y z u)(k:P->∀ x y z u,Q x y z u->S x y z u->T x y z u->R):R:=h.2.elim fun x h1=>h1.elim fun y h2=>h2.elim fun z h3=>h3.elim fun u h4=>k h.1 x y z u h4.1 h4.2.1 h4.2.2
theorem zv4 {a b c d:Sort _}{P:Prop}{Q S T U V:a->b->c->d->Prop}{R:Prop}(h:P/\∃ x y z u,Q x y z u/\S x y z u/\T x y z u/\U x y z u/\V x y z u)(k:P->∀ x y z u,Q x y z u->S x y z u->T x y z u->U x y z u->V x y z u->R):R:=h.2.elim fun x h1=>h1.elim fun y h2=>h2.elim fun z h3=>h3.elim fun u h4=>k h.1 x y z u h4.1 h4.2.1 h4.2.2.1 h4.2.2.2.1 h4.2.2.2.2
theorem elEA {a:Sort _}{P Q:a->Prop}{R:Prop}(h:∃ x,P x/\Q x)(k:∀ x,P x->Q x->R):R:=h.elim fun x h0=>k x h0.1 h0.2
theorem zx4 {a:Sort _}{P Q S:a->Prop}{R:Prop}(h:∃ x,P x/\Q x/\S x)(k:∀ x,P x->Q x->S x->R):R:=h.elim fun x h0=>k x h0.1 h0.2.1 h0.2.2
theorem elEAAA {a:Sort _}{P Q S T:a->Prop}{R:Prop}(h:∃ x,P x/\Q x/\S x/\T x)(k:∀ x,P x->Q x->S x->T x->R):R:=h.elim fun x h0=>k x h0.1 h0.2.1 h0.2.2.1 h0.2.2.2
theorem zr8 {a:Sort _}{P Q S T U V:a->Prop}{R:Prop}(h:∃ x,P x/\Q x/\S x/\T x/\U x/\V x)(k:∀ x,P x->Q x->S x->T x->U x->V x->R):R:=h.elim fun x h0=>k x h0.1 h0.2.1 h0.2.2.1 h0.2.2.2.1 h0.2.2.2.2.1 h0.2.2.2.2.2
theorem xd3 {a b:Sort _}{P Q:a->Prop}{S:a->b->Prop}{R:Prop}(h:∃ x,P x/\Q x/\∃ y,S x y)(k:∀ x,P x->Q x->∀ y,S x y->R):R:=h.elim fun x h0=>h0.2.2.elim fun y h3=>k x h0.1 h0.2.1 y h3
theorem xd2 {a b:Sort _}{P:a->Prop}{Q:a->b->Prop}{R:Prop}(h:∃ x,P x/\∃ y,Q x y)(k:∀ x,P x->∀ y,Q x y->R):R:=h.elim fun x h0=>h0.2.elim fun y h2=>k x h0.1 y h2
theorem wr5 {a b:Sort _}{P:a->Prop}{Q S:a->b->Prop}{R:Prop}(h:∃ x,P x/\∃ y,Q x y/\S x y)(k:∀ x,P x->∀ y,Q x y->S x y->R):R:=h.elim fun x h0=>h0.2.elim fun y h2=>k x h0.1 y h2.1 h2.2
theorem xd1 {a b c:Sort _}{P:a->Prop}{Q:a->b->c->Prop}{R:Prop}(h:∃ x,P x/\∃ y z,Q x y z)(k:∀ x,P x->∀ y z,Q x y z->R):R:=h.elim fun x h0=>h0.2.elim fun y h2=>h2.elim fun z h3=>k x h0.1 y z h3
theorem wj1 {a b c:Sort _}{P:a->Prop}{Q S:a->b->c->Prop}{R:Prop}(h:∃ x,P x/\∃ y z,Q x y z/\S x y z)(k:∀ x,P x->∀ y z,Q x y z->S x y z->R):R:=h.elim fun x h0=>h0.2.elim fun y h2=>h2.elim fun z h3=>k x h0.1 y z h3.1 h3.2
theorem xd0 {a b c:Sort _}{P:a->Prop}{Q S T U:a->b->c->Prop}{R:Prop}(h:∃ x,P x/\∃ y z,Q x y z/\S x y z/\T x y z/\U x y z)(k:∀ x,P x->∀ y z,Q x y z->S x y z->T x y z->U x y z->R):R:=h.elim fun x h0=>h0.2.elim fun y h2=>h2.elim fun z h3=>k x h0.1 y z h3.1 h3.2.1 h3.2.2.1 h3.2.2.2
theorem zb8 {a b c:Sort _}{P:a->Prop}{Q S T U V:a->b->c->Prop}{R:Prop}(h:∃ x,P x/\∃ y z,Q x y z/\S x y z/\T x y z/\U x y z/\V x y z)(k:∀ x,P x->∀ y z,Q x y z->S x y z->T x y z->U x y z->V x y z->R):R:=h.elim fun x h0=>h0.2.elim fun y h2=>h2.elim fun z h3=>k x h0.1 y z h3.1 h3.2.1 h3.2.2.1 h3.2.2.2.1 h3.2.2.2.2
theorem wj0 {a b c d:Sort _}{P:a->Prop}{Q:a->b->c->d->Prop}{R:Prop}(h:∃ x,P x/\∃ y z u,Q x y z u)(k:∀ x,P x->∀ y z u,Q x y z u->R):R:=h.elim fun x h0=>h0.2.elim fun y h2=>h2.elim fun z h3=>h3.elim fun u h4=>k x h0.1 y z u h4
theorem xr0 {a b c d:Sort _}{P:a->Prop}{Q S:a->b->c->d->Prop}{R:Prop}(h:∃ x,P x/\∃ y z u,Q x y z u/\S x y z u)(k:∀ x,P x->∀ y z u,Q x y z u->S x y z u->R):R:=h.elim fun x h0=>h0.2.elim fun y h2=>h2.elim fun z h3=>h3.elim fun u h4=>k x h0.1 y z u h4.1 h4.2
theorem xx1 {a b c d:Sort _}{P:a->Prop}{Q S T U V:a->b->c->d->Prop}{R:Prop}(h:∃ x,P x/\∃ y z u,Q x y z u/\S x y z u/\T x y z u/\U x y z u/\V x y z u)(k:∀ x,P x->∀ y z u,Q x y z u->S x y z u->T x y z u->U x y z u->V x y z u->R):R:=h.elim fun x h0=>h0.2.elim fun y h2=>h2.elim fun z h3=>h3.elim fun u h4=>k x h0.1 y z u h4.1 h4.2.1 h4.2.2.1 h4.2.2.2.1 h4.2.2.2.2
theorem yo4 {a b c d f g:Sort _}{P:a->Prop}{Q S:a->b->c->d->f->g->Prop}{R:Prop}(h:∃ x,P x/\∃ y z u v w,Q x y z u v w/\S x y z u v w)(k:∀ x,P x->∀ y z u v w,Q x y z u v w->S x y z u v w->R):R:=h.elim fun x h0=>h0.2.elim fun y h2=>h2.elim fun z h3=>h3.elim fun u h4=>h4.elim fun v h5=>h5.elim fun w h6=>k x h0.1 y z u v w h6.1 h6.2
theorem elEE {a b:Sort _}{P:a->b->Prop}{R:Prop}(h:∃ x y,P x y)(k:∀ x y,P x y->R):R:=h.elim fun x h0=>h0.elim fun y h1=>k x y h1
theorem elEEA {a b:Sort _}{P Q:a->b->Prop}{R:Prop}(h:∃ x y,P x y/\Q x y)(k:∀ x y,P x y->Q x y->R):R:=h.elim fun x h0=>h0.elim fun y h1=>k x y h1.1 h1.2
theorem elEEAA {a b:Sort _}{P Q S:a->b->Prop}{R:Prop}(h:∃ x y,P x y/\Q x y/\S x y)(k:∀ x y,P x y->Q x y->S x y->R):R:=h.elim fun x h0=>h0.elim fun y h1=>k x y h1.1 h1.2.1 h1.2.2
theorem elEEAAA {a b:Sort _}{P Q S T:a->b->Prop}{R:Prop}(h:∃ x y,P x y/\Q x y/\S x y/\T x y)(k:∀ x y,P x y->Q x y->S x y->T x y->R):R:=h.elim fun x h0=>h0.elim fun y h1=>k x y h1.1 h1.2.1 h1.2.2.1 h1.2.2.2
theorem xs9 {a b:Sort _}{P Q S T U:a->b->Prop}{R:Prop}(h:∃ x y,P x y/\Q x y/\S x y/\T x y/\U x y)(k:∀ x y,P x y->Q x y->S x y->T x y->U x y->R):R:=h.elim fun x h0=>h0.elim fun y h1=>k x y h1.1 h1.2.1 h1.2.2.1 h1.2.2.2.1 h1.2.2.2.2
theorem xm2 {a b c:Sort _}{P:a->b->c->Prop}{R:Prop}(h:∃ x y z,P x y z)(k:∀ x y z,P x y z->R):R:=h.elim fun x h0=>h0.elim fun y h1=>h1.elim fun z h2=>k x y z h2
theorem elEEEA {a b c:Sort _}{P Q:a->b->c->Prop}{R:Prop}(h:∃ x y z,P x y z/\Q x y z)(k:∀ x y z,P x y z->Q x y z->R):R:=h.elim fun x h0=>h0.elim fun y h1=>h1.elim fun z h2=>k x y z h2.1 h2.2
theorem xe9 {a b c:Sort _}{P Q S:a->b->c->Prop}{R:Prop}(h:∃ x y z,P x y z/\Q x y z/\S x y z)(k:∀ x y z,P x y z->Q x y z->S x y z->R):R:=h.elim fun x h0=>h0.elim fun y h1=>h1.elim fun z h2=>k x y z h2.1 h2.2.1 h2.2.2
theorem zd8 {a b c:Sort _}{P Q S T:a->b->c->Prop}{R:Prop}(h:∃ x y z,P x y z/\Q x y z/\S x y z/\T x y z)(k:∀ x y z,P x y z->Q x y z->S x y z->T x y z->R):R:=h.elim fun x h0=>h0.elim fun y h1=>h1.elim fun z h2=>k x y z h2.1 h2.2.1 h2.2.2.1 h2.2.2.2
theorem elEEEAAAA {a b c:Sort _}{P Q S T U:a->b->c->Prop}{R:Prop}(h:∃ x y z,P x y z/\Q x y z/\S x y z/\T x y z/\U x y z)(k:∀ x y z,P x y z->Q x y z->S x y z->T x y z->U x y z->R):R:=h.elim fun x h0=>h0.elim fun y h1=>h1.elim fun z h2=>k x y z h2.1 h2.2.1 h2.2.2.1 h2.2.2.2.1 h2.2.2.2.2
theorem xs8 {a b c d f:Sort _}{P Q:a->b->c->d->f->Prop}{R:Prop}(h:∃ x y z u v,P x y z u v/\Q x y z u v)(k:∀ x y z u v,P x y z u v->Q x y z u v->R):R:=h.elim fun x h0=>h0.elim fun y h1=>h1.elim fun z h2=>h2.elim fun u h3=>h3.elim fun v h4=>k x y z u v h4.1 h4.2
theorem xm1 {a b c d f:Sort _}{P Q S T:a->b->c->d->f->Prop}{R:Prop}(h:∃ x y z u v,P x y z u v/\Q x y z u v/\S x y z u v/\T x y z u v)(k:∀ x y z u v,P x y z u v->Q x y z u v->S x y z u v->T x y z u v->R):R:=h.elim fun x h0=>h0.elim fun y h1=>h1.elim fun z h2=>h2.elim fun u h3=>h3.elim fun v h4=>k x y z u v h4.1 h4.2.1 h4.2.2.1 h4.2.2.2
theorem yz5 {a b c d f:Sort _}{P Q S T U V:a->b->c->d->f->Prop}{R:Prop}(h:∃ x y z u v,P x y z u v/\Q x y z u v/\S x y z u v/\T x y z u v/\U x y z u v/\V x y z u v)(k:∀ x y z u v,P x y z u v->Q x y z u v->S x y z u v->T x y z u v->U x y z u v->V x y z u v->R):R:=h.elim fun x h0=>h0.elim fun y h1=>h1.elim fun z h2=>h2.elim fun u h3=>h3.elim fun v h4=>k x y z u v h4.1 h4.2.1 h4.2.2.1 h4.2.2.2.1 h4.2.2.2.2.1 h4.2.2.2.2.2
theorem yr8 {a b c d f g j m:Sort _}{P Q S T U:a->b->c->d->f->g->j->m->Prop}{R:Prop}(h:∃ x y z u v w r s,P x y z u v w r s/\Q x y z u v w r s/\S x y z u v w r s/\T x y z u v w r s/\U x y z u v w r s)(k:∀ x y z u v w r s,P x y z u v w r s->Q x y z u v w r s->S x y z u v w r s->T x y z u v w r s->U x y z u v w r s->R):R:=h.elim fun x h0=>h0.elim fun y h1=>h1.elim fun z h2=>h2.elim fun u h3=>h3.elim fun v h4=>h4.elim fun w h5=>h5.elim fun r h6=>h6.elim fun s h7=>k x y z u v w r s h7.1 h7.2.1 h7.2.2.1 h7.2.2.2.1 h7.2.2.2.2
theorem elE {a:Sort _}{P:a->Prop}{R:Prop}(h:∃ x,P x)(k:∀ x,P x->R):R:=h.elim fun x h0=>k x h0
theorem bK1 {α β:Type}{x:Option α}{f:α->Option β}{b:β}{P:Prop}(h:x.bind f=some b)(k:∀ a,x=some a->f a=some b->P):P:=by
 cases x with
 | none=>cases h
 | some a=>exact k a rfl h
theorem bK2 {α γ β:Type}{x:Option (α×γ)}{f:α×γ->Option β}{b:β}{P:Prop}(h:x.bind f=some b)(k:∀ a c,x=some (a,c)->f (a,c)=some b->P):P:=bK1 h fun a=>k a.1 a.2
theorem bK3 {α γ δ β:Type}{x:Option (α×γ×δ)}{f:α×γ×δ->Option β}{b:β}{P:Prop}(h:x.bind f=some b)(k:∀ a c d,x=some (a,c,d)->f (a,c,d)=some b->P):P:=bK1 h fun a=>k a.1 a.2.1 a.2.2
@[elab_as_elim] theorem sm1 {α:Type}{a a':α}{P:α->Prop}(e:some a=some a')(p:P a):P a':=xv e▸p
@[elab_as_elim] theorem sm2 {α β:Type}{a a':α}{b b':β}{P:α->β->Prop}(e:some (a,b)=some (a',b'))(p:P a b):P a' b':=sm1 (P:=fun q=>P q.1 q.2) e p
@[elab_as_elim] theorem sm3 {α β γ:Type}{a a':α}{b b':β}{c c':γ}{P:α->β->γ->Prop}(e:some (a,b,c)=some (a',b',c'))(p:P a b c):P a' b' c':=sm1 (P:=fun q=>P q.1 q.2.1 q.2.2) e p
theorem iEA {a:Sort _}{P Q:a->Prop}(x:a)(h1:P x)(h:Q x):∃ x,P x/\Q x:=⟨x,h1,h⟩
theorem iEAA {a:Sort _}{P Q S:a->Prop}(x:a)(h1:P x)(h2:Q x)(h:S x):∃ x,P x/\Q x/\S x:=⟨x,h1,h2,h⟩
theorem iEAAA {a:Sort _}{P Q S T:a->Prop}(x:a)(h1:P x)(h2:Q x)(h3:S x)(h:T x):∃ x,P x/\Q x/\S x/\T x:=⟨x,h1,h2,h3,h⟩
theorem iEEA {a b:Sort _}{P Q:a->b->Prop}(x:a)(y:b)(h2:P x y)(h:Q x y):∃ x y,P x y/\Q x y:=⟨x,y,h2,h⟩
theorem iEEAA {a b:Sort _}{P Q S:a->b->Prop}(x:a)(y:b)(h2:P x y)(h3:Q x y)(h:S x y):∃ x y,P x y/\Q x y/\S x y:=⟨x,y,h2,h3,h⟩
theorem iEEAAA {a b:Sort _}{P Q S T:a->b->Prop}(x:a)(y:b)(h2:P x y)(h3:Q x y)(h4:S x y)(h:T x y):∃ x y,P x y/\Q x y/\S x y/\T x y:=⟨x,y,h2,h3,h4,h⟩
theorem yt6 {a b:Sort _}{P Q S T U:a->b->Prop}(x:a)(y:b)(h2:P x y)(h3:Q x y)(h4:S x y)(h5:T x y)(h:U x y):∃ x y,P x y/\Q x y/\S x y/\T x y/\U x y:=⟨x,y,h2,h3,h4,h5,h⟩
theorem iEEEA {a b c:Sort _}{P Q:a->b->c->Prop}(x:a)(y:b)(z:c)(h3:P x y z)(h:Q x y z):∃ x y z,P x y z/\Q x y z:=⟨x,y,z,h3,h⟩
theorem iEEE {a b c:Sort _}{P:a->b->c->Prop}(x:a)(y:b)(z:c)(h:P x y z):∃ x y z,P x y z:=⟨x,y,z,h⟩
theorem iEE {a b:Sort _}{P:a->b->Prop}(x:a)(y:b)(h:P x y):∃ x y,P x y:=⟨x,y,h⟩
theorem iEEEAA {a b c:Sort _}{P Q S:a->b->c->Prop}(x:a)(y:b)(z:c)(h3:P x y z)(h4:Q x y z)(h:S x y z):∃ x y z,P x y z/\Q x y z/\S x y z:=⟨x,y,z,h3,h4,h⟩
theorem iEEEAAA {a b c:Sort _}{P Q S T:a->b->c->Prop}(x:a)(y:b)(z:c)(h3:P x y z)(h4:Q x y z)(h5:S x y z)(h:T x y z):∃ x y z,P x y z/\Q x y z/\S x y z/\T x y z:=⟨x,y,z,h3,h4,h5,h⟩
theorem iEEEAAAA {a b c:Sort _}{P Q S T U:a->b->c->Prop}(x:a)(y:b)(z:c)(h3:P x y z)(h4:Q x y z)(h5:S x y z)(h6:T x y z)(h:U x y z):∃ x y z,P x y z/\Q x y z/\S x y z/\T x y z/\U x y z:=⟨x,y,z,h3,h4,h5,h6,h⟩
theorem iEEEEA {a b c d:Sort _}{P Q:a->b->c->d->Prop}(x:a)(y:b)(z:c)(u:d)(h4:P x y z u)(h:Q x y z u):∃ x y z u,P x y z u/\Q x y z u:=⟨x,y,z,u,h4,h⟩
theorem iEEEEAA {a b c d:Sort _}{P Q S:a->b->c->d->Prop}(x:a)(y:b)(z:c)(u:d)(h4:P x y z u)(h5:Q x y z u)(h:S x y z u):∃ x y z u,P x y z u/\Q x y z u/\S x y z u:=⟨x,y,z,u,h4,h5,h⟩
theorem yt5 {a b c d f:Sort _}{P Q:a->b->c->d->f->Prop}(x:a)(y:b)(z:c)(u:d)(v:f)(h5:P x y z u v)(h:Q x y z u v):∃ x y z u v,P x y z u v/\Q x y z u v:=⟨x,y,z,u,v,h5,h⟩
theorem xt7 {a b c d f:Sort _}{P Q S:a->b->c->d->f->Prop}(x:a)(y:b)(z:c)(u:d)(v:f)(h5:P x y z u v)(h6:Q x y z u v)(h:S x y z u v):∃ x y z u v,P x y z u v/\Q x y z u v/\S x y z u v:=⟨x,y,z,u,v,h5,h6,h⟩
theorem yo1 {a b c d f g j:Sort _}{P Q S:a->b->c->d->f->g->j->Prop}(x:a)(y:b)(z:c)(u:d)(v:f)(w:g)(r:j)(h7:P x y z u v w r)(h8:Q x y z u v w r)(h:S x y z u v w r):∃ x y z u v w r,P x y z u v w r/\Q x y z u v w r/\S x y z u v w r:=⟨x,y,z,u,v,w,r,h7,h8,h⟩
theorem iAA {P Q S:Prop}(h0:P)(h1:Q)(h:S):P/\Q/\S:=⟨h0,h1,h⟩
theorem iAAA {P Q S T:Prop}(h0:P)(h1:Q)(h2:S)(h:T):P/\Q/\S/\T:=⟨h0,h1,h2,h⟩
theorem xx0 {a b c d f g j:Sort _}{P Q S:a->b->c->d->f->g->j->Prop}{R:Prop}(h:∃ x y z u v w r,P x y z u v w r/\Q x y z u v w r/\S x y z u v w r)(k:∀ x y z u v w r,P x y z u v w r->Q x y z u v w r->S x y z u v w r->R):R:=h.elim fun x h0=>h0.elim fun y h1=>h1.elim fun z h2=>h2.elim fun u h3=>h3.elim fun v h4=>h4.elim fun w h5=>h5.elim fun r h6=>k x y z u v w r h6.1 h6.2.1 h6.2.2
theorem xe8 {a b c d f:Sort _}{P Q S:a->b->c->d->f->Prop}{R:Prop}(h:∃ x y z u v,P x y z u v/\Q x y z u v/\S x y z u v)(k:∀ x y z u v,P x y z u v->Q x y z u v->S x y z u v->R):R:=h.elim fun x h0=>h0.elim fun y h1=>h1.elim fun z h2=>h2.elim fun u h3=>h3.elim fun v h4=>k x y z u v h4.1 h4.2.1 h4.2.2
theorem iAAAA {P Q S T U:Prop}(h0:P)(h1:Q)(h2:S)(h3:T)(h:U):P/\Q/\S/\T/\U:=⟨h0,h1,h2,h3,h⟩
theorem iAAAAA {P Q S T U V:Prop}(h0:P)(h1:Q)(h2:S)(h3:T)(h4:U)(h:V):P/\Q/\S/\T/\U/\V:=⟨h0,h1,h2,h3,h4,h⟩
theorem iEEEEEAAAAA {a b c d f:Sort _}{P Q S T U V:a->b->c->d->f->Prop}(x:a)(y:b)(z:c)(u:d)(v:f)(h5:P x y z u v)(h6:Q x y z u v)(h7:S x y z u v)(h8:T x y z u v)(h9:U x y z u v)(h:V x y z u v):∃ x y z u v,P x y z u v/\Q x y z u v/\S x y z u v/\T x y z u v/\U x y z u v/\V x y z u v:=⟨x,y,z,u,v,h5,h6,h7,h8,h9,h⟩
theorem iEEAAAAA {a b:Sort _}{P Q S T U V:a->b->Prop}(x:a)(y:b)(h2:P x y)(h3:Q x y)(h4:S x y)(h5:T x y)(h6:U x y)(h:V x y):∃ x y,P x y/\Q x y/\S x y/\T x y/\U x y/\V x y:=⟨x,y,h2,h3,h4,h5,h6,h⟩
theorem iEEEEAAAA {a b c d:Sort _}{P Q S T U:a->b->c->d->Prop}(x:a)(y:b)(z:c)(u:d)(h4:P x y z u)(h5:Q x y z u)(h6:S x y z u)(h7:T x y z u)(h:U x y z u):∃ x y z u,P x y z u/\Q x y z u/\S x y z u/\T x y z u/\U x y z u:=⟨x,y,z,u,h4,h5,h6,h7,h⟩
open PySem
set_option backward.match.sparseCases false
noncomputable abbrev D:=qW
inductive AV where
 | val (d:D)|own (d:D)
noncomputable abbrev Sg:=List (Option AV)
inductive Prim where
 | len|sorted|tuple|list|dict|min|max|int
 deriving DecidableEq
noncomputable def Prim.name:Prim->Str
 | .len => "len" | .sorted => "sorted" | .tuple => "tuple" | .list => "list" | .dict => "dict" | .min => "min" | .max => "max" | .int => "int"
set_option genCtorIdx false in
set_option genInjectivity false in
inductive I where
 | omit|nil|cons (a b:I)
 | cnone|cbool (b:Bool)|cint (i:Int)|cstr (s:Str)
 | var (k:Nat)|brw (k:Nat)|glob (x:Str)
 | bin (op:Operator) (a b:I)
 | neg (a:I)|not (a:I)|and (l:I)|or (l:I)
 | cmp (op:CmpOp) (a b:I)|cmp2 (o1 o2:CmpOp) (a b c:I)
 | ite (c a b:I)
 | tup (l:I)|lst (l:I)|dct0
 | comp1 (elt src cond:I)
 | call (g:Str) (l:I)|prim1 (p:Prim) (a:I)|isi (a:I) (ty:Str)
 | idx (a i:I)|slc (a lo hi:I)|pop (k:Nat)
 | rng1 (b:I)|rng (a b:I)|rev (a:I)
 | asg (k:Nat) (e:I)
 | sto (k:Nat) (key e:I)
 | app (k:Nat) (e:I)|ext (k:Nat) (e:I)|clr (k:Nat)
 | exp (e:I)|iff (c t e:I)|whl (c b:I)|for1 (k:Nat) (src b:I)
 | ret (e:I)|rais|pass
 | fors (ks:List Nat) (src b:I)
 | compT (m:Nat) (elt src cond:I)
 | zip (a b:I)
 | dzip (a b:I)
 | callB (g:Str) (k:Nat) (l:I)
 | clrs (k kk:Nat)|ndg|retO (k:Nat)
 | rem (k:Nat) (e:I)
noncomputable def brwK:I->Option Nat
 | .brw k=>some k
 | _=>none
noncomputable def xy1 (i:I):Bool:=(brwK i).isSome
noncomputable def zh8:I->Bool
 | .omit=>true
 | _=>false
noncomputable def okd (d:D):Bool:=d.canLay0&&decide (d.depth<=1000)
noncomputable def deqD (_ _:D):Option Bool:=none
noncomputable def eqD (a b:D):Option Bool:=if okd a&&okd b then some (z7 a b) else deqD a b
mutual
noncomputable def ltD:D->D->Option Bool
 | .int i,.int j=>some (decide (i<j))
 | .str x,.str y=>some (decide (x.cps.toList<y.cps.toList))
 | .tuple xs,.tuple ys=>ltL xs ys
 | _,_=>none
noncomputable def ltL:List D->List D->Option Bool
 | [],[]=>some false
 | [],_::_=>some true
 | _::_,[]=>some false
 | x::xs,y::ys=>if z7 x y then ltL xs ys else ltD x y
end
theorem wm7:ltL [] []=some false:=rfl
theorem wd2 {x r}:ltL [] (x::r)=some true:=rfl
theorem wx0 {x r}:ltL (x::r) []=some false:=rfl
theorem xo4 {x xs y ys}:ltL (x::xs) (y::ys)=if z7 x y then ltL xs ys else ltD x y:=rfl
noncomputable def ltT (a b:D):Option Bool:=match a,b with
 | .list xs,.list ys=>ltL xs ys
 | _,_=>ltD a b
@[simp] theorem vs9 {i j:Int}:ltT (.int i) (.int j)=ltD (.int i) (.int j):=rfl
theorem vy2 {xs ys:List D}:ltT (.list xs) (.list ys)=ltL xs ys:=rfl
theorem ltTK {x y:D}{b:Bool}{P:Prop}(e:ltT x y=some b)(h1:∀ xs ys,x=.list xs->y=.list ys->ltL xs ys=some b->P)(h2:ltD x y=some b->P):P:=by
 cases x<;>(try exact h2 e)<;>cases y<;>(try exact h2 e)
 exact h1 _ _ rfl rfl e
noncomputable def size:Nat:=16777216
noncomputable def zy6:D->Option Bool
 | .none=>some false
 | .bool b=>some b
 | .int i=>some (i != 0)
 | .list l=>some (!l.isEmpty)
 | .tuple l=>some (!l.isEmpty)
 | _=>none
noncomputable def isI:D->Bool
 | .int _=>true
 | .bool _=>true
 | _=>false
noncomputable def isB:D->Bool
 | .bool _=>true
 | _=>false
noncomputable def isS:D->Bool
 | .str _=>true
 | _=>false
noncomputable def isT:D->Bool
 | .tuple _=>true
 | _=>false
noncomputable def isL:D->Bool
 | .list _=>true
 | _=>false
noncomputable def isK:D->Bool
 | .dict _=>true
 | _=>false
noncomputable def isiD (d:D)(ty:Str):Option Bool :=
 if ty == "int" then some (isI d) else if ty == "bool" then some (isB d) else if ty == "str" then some (isS d)
 else if ty == "tuple" then some (isT d) else if ty == "list" then some (isL d) else if ty == "dict" then some (isK d) else none
noncomputable def mkL (l:List D):Option (D×Bool):=if l.length<=size then some (.list l,true) else none
noncomputable def mkT (l:List D):Option (D×Bool):=if l.length<=size then some (.tuple l,false) else none
noncomputable def zy8 (i:Int):Bool:=decide (i.natAbs<2^62)
noncomputable def zt9:D->Option Int
 | .int i=>some i
 | _=>none
noncomputable def wr8:D->Option Unit
 | .none=>some ()
 | _=>none
noncomputable def addD:D->D->Option (D×Bool)
 | .int a,.int b=>some (.int (a+b),false)
 | .list a,.list b=>mkL (a++b)
 | .tuple a,.tuple b=>mkT (a++b)
 | _,_=>none
noncomputable def mulD:D->D->Option (D×Bool)
 | .int a,.int b=>if zy8 a&&zy8 b then some (.int (a*b),false) else none
 | _,_=>none
noncomputable def int2 (f:Int->Int->Option (D×Bool))(a b:D):Option (D×Bool):=(zt9 a).bind fun x=>(zt9 b).bind fun y=>f x y
noncomputable def binD (op:Operator)(a b:D):Option (D×Bool):=match op with
 | .Add=>addD a b
 | .Sub=>int2 (fun a b=>some (.int (a - b),false)) a b
 | .Mult=>mulD a b
 | .FloorDiv=>int2 (fun a b=>if b != 0&&zy8 b then some (.int (a.fdiv b),false) else none) a b
 | .Mod=>int2 (fun a b=>if b != 0&&zy8 b then some (.int (a.fmod b),false) else none) a b
 | _=>none
mutual
noncomputable def zz9:D->Bool
 | .int _=>true
 | .str _=>true
 | .tuple l=>zt6 l
 | _=>false
noncomputable def zt6:List D->Bool
 | []=>true
 | x::r=>zz9 x&&zt6 r
end
theorem wz7:zt6 []=true:=rfl
theorem zl3 {x r}:zt6 (x::r)=(zz9 x&&zt6 r):=rfl
theorem xu5 {s}:zz9 (.str s)=true:=rfl
theorem zr5 {l}:zz9 (.tuple l)=zt6 l:=rfl
mutual
noncomputable def lev:D->Nat
 | .tuple l=>levL l+1
 | _=>0
noncomputable def levL:List D->Nat
 | []=>0
 | x::r=>max (lev x) (levL r)
end
theorem xh7:levL []=0:=rfl
theorem xt3 {x r}:levL (x::r)=max (lev x) (levL r):=rfl
theorem vy3 {i}:lev (.int i)=0:=rfl
theorem wl4 {s}:lev (.str s)=0:=rfl
theorem wx4 {l}:lev (.tuple l)=levL l+1:=rfl
theorem wc1 {l}:isT (.tuple l)=true:=rfl
noncomputable def tkey (d:D):Bool:=isT d&&zz9 d&&okd d&&decide (lev d<=8)
noncomputable def zv7:D->Option Nat
 | .int _=>some 0
 | .tuple l=>if tkey (.tuple l) then some 1 else none
 | _=>none
noncomputable def zl5 (kvs:List (D×D)):Bool:=kvs.all fun p=>zv7 p.1==some 0
noncomputable def zs3 (k:D)(kvs:List (D×D)):Bool:=(zv7 k).isSome&&kvs.all fun p=>zv7 p.1==zv7 k
noncomputable def zk1 (k:D)(kvs:List (D×D)):Bool:=zs3 k kvs
noncomputable def zq6 (kvs:List (D×D))(k:D):Option D:=(kvs.find? fun p=>z7 p.1 k).map (·.2)
noncomputable def dput:List (D×D)->D->D->List (D×D)
 | [],k,v=>[(k,v)]
 | p::r,k,v=>if z7 p.1 k then (p.1,v)::r else p::dput r k v
theorem wc9 {k v}:dput [] k v=[(k,v)]:=rfl
theorem ys3 {p r k v}:dput (p::r) k v=if z7 p.1 k then (p.1,v)::r else p::dput r k v:=rfl
noncomputable def inD (x:D):D->Option Bool
 | .list l=>if okd x&&l.all okd then some (l.any fun y=>z7 y x) else none
 | .tuple l=>if okd x&&l.all okd then some (l.any fun y=>z7 y x) else none
 | .dict kvs=>if zk1 x kvs&&!tkey x then some (zq6 kvs x).isSome else none
 | _=>none
noncomputable def yl3:D->Bool
 | .none=>true
 | _=>false
noncomputable def orS {α:Type}(a b:Option α):Option α:=match a with
 | some x=>some x
 | none=>b
noncomputable def gtD:D->D->Option Bool
 | .int a,.int b=>some (decide (b<a))
 | .str a,.str b=>some (decide (b.cps.toList<a.cps.toList))
 | _,_=>none
noncomputable def cmpD (op:CmpOp)(a b:D):Option Bool:=match op with
 | .Eq=>eqD a b
 | .NotEq=>(eqD a b).bind fun r=>some (!r)
 | .Lt=>if okd a&&okd b then ltT a b else none
 | .Gt=>gtD a b
 | .LtE=>(zt9 a).bind fun x=>(zt9 b).bind fun y=>some (decide (x<=y))
 | .GtE=>(zt9 a).bind fun x=>(zt9 b).bind fun y=>some (decide (y<=x))
 | .Is=>(wr8 b).bind fun _=>some (yl3 a)
 | .In=>inD a b
 | .NotIn=>(inD a b).bind fun r=>some (!r)
 | _=>none
noncomputable def idxD:D->D->Option D
 | .list l,.int i=>if 0<=i then l[i.toNat]? else none
 | .tuple l,.int i=>if 0<=i then l[i.toNat]? else none
 | .dict kvs,k=>if zk1 k kvs then zq6 kvs k else none
 | _,_=>none
noncomputable def zn1 (n:Nat)(i:Int):Nat:=if i<0 then (i+n).toNat else min i.toNat n
noncomputable def zw5 (l:List α)(lo hi:Option Int):List α :=
 (l.take (match hi with|some j=>zn1 l.length j|none=>l.length)).drop (match lo with|some i=>zn1 l.length i|none=>0)
noncomputable def yq6 (d:D)(lo hi:Option Int):Option (D×Bool) :=
 match d with
 | .list l=>some (.list (zw5 l lo hi),true)
 | .tuple l=>match lo,hi with
  | some i,none=>if 1<=i/\i<=l.length then some (.tuple (l.drop i.toNat),false) else none
  | _,_=>none
 | _=>none
noncomputable def insD (x:D):List D->List D
 | []=>[x]
 | y::r=>if ltD y x==some true then y::insD x r else x::y::r
theorem wc3 {x}:insD x []=[x]:=rfl
theorem xg6 {x y r}:insD x (y::r)=if ltD y x==some true then y::insD x r else x::y::r:=rfl
noncomputable def zx8:List D->List D
 | []=>[]
 | x::r=>insD x (zx8 r)
noncomputable def xg4:D->Bool
 | .int _=>true
 | _=>false
noncomputable def za4:D->Bool
 | .tuple (.str _::_)=>true
 | _=>false
noncomputable def yk9:D->Bool
 | .tuple (.tuple _::_)=>true
 | _=>false
noncomputable def sortable (l:List D):Bool:=l.all okd&&l.all zz9&&(l.all xg4||l.all za4||l.all yk9)&&l.all fun a=>l.all fun b=>(ltD a b).isSome
noncomputable def yy7:Nat:=size
theorem yb9 {n:Nat}(h:n<64):n<yy7:=vZ h (by decide)
noncomputable def zk2 (l:List D):Option (D×Bool):=if decide (l.length<2)||(sortable l&&decide (l.length<yy7)) then some (.list (zx8 l),true) else none
noncomputable def lenD:D->Option (D×Bool)
 | .list l=>some (.int l.length,false)
 | .tuple l=>some (.int l.length,false)
 | _=>none
noncomputable def yw4:D->Option (D×Bool)
 | .list l=>zk2 l
 | .dict kvs=>zk2 (kvs.map (·.1))
 | .tuple l=>zk2 l
 | _=>none
noncomputable def seqD:D->Option (List D)
 | .list l=>some l
 | .tuple l=>some l
 | _=>none
noncomputable def extD:D->Option (List D)
 | .list l=>some l
 | .tuple l=>some l
 | _=>none
noncomputable def intD:D->Option (D×Bool)
 | .bool b=>some (.int (if b then 1 else 0),false)
 | _=>none
noncomputable def yr0:D->Option (List D)
 | .list l=>some l
 | _=>none
noncomputable def wu3:D->Option (List D)
 | .tuple l=>some l
 | _=>none
noncomputable def xx3:List (D×D)->List (D×D)->List (D×D)
 | [],t=>t
 | p::r,t=>xx3 r (dput t p.1 p.2)
noncomputable def wv2 (x y:D):Option D:=(yr0 x).bind fun ks=>(yr0 y).bind fun vs=>if ks.all fun k=>zv7 k==some 0 then some (.dict (xx3 (ks.zip vs) [])) else none
noncomputable def vy4:D->Option (D×Bool)
 | .dict kvs=>some (.list (kvs.map (·.1)),true)
 | _=>none
noncomputable def wi1:D->Option (D×Bool)
 | .dict kvs=>if zl5 kvs then some (.dict kvs,true) else none
 | _=>none
noncomputable def yn7 (p:Prim)(d:D):Option (D×Bool):=match p with
 | .sorted=>yw4 d
 | .list=>vy4 d
 | .dict=>wi1 d
 | _=>none
noncomputable def zh6 (p:Prim)(d:D):Option (D×Bool):=match p with
 | .len=>lenD d
 | .sorted=>yn7 .sorted d
 | .tuple=>(seqD d).bind fun l=>some (.tuple l,false)
 | .list=>orS ((seqD d).bind fun l=>some (.list l,true)) (yn7 .list d)
 | .dict=>yn7 .dict d
 | .int=>intD d
 | _=>none
noncomputable def yt0:D->Option (List D)
 | .list l=>some l
 | .tuple l=>some l
 | .dict l=>some (l.map (·.1))
 | _=>none
noncomputable def zu7 (a b:Int):List D:=(List.range (b - a).toNat).map fun (k:Nat)=>.int (a+(k:Int))
noncomputable def zipL (xs ys:List D):List D:=(xs.zip ys).map fun p=>.tuple [p.1,p.2]
noncomputable abbrev Ev:=Sg->Option (D×Bool×Sg)
inductive Out where
 | next (σ:Sg)
 | ret (d:D) (fresh:Bool)
noncomputable def look (σ:Sg)(k:Nat):Option D:=match σ[k]? with
 | some (some (.val d))=>some d
 | some (some (.own d))=>some d
 | _=>none
inductive Opnd where
 | slot (k:Nat)|dat (d:D)
noncomputable def res:Opnd->Sg->Option D
 | .slot k,σ=>look σ k
 | .dat d,_=>some d
noncomputable def opn (i:I)(e:Ev)(σ:Sg):Option (Opnd×Sg):=match brwK i with
 | some k=>(look σ k).bind fun _=>some (.slot k,σ)
 | none=>(e σ).bind fun p=>some (.dat p.1,p.2.2)
noncomputable def uno (i:I)(e:Ev)(σ:Sg):Option (D×Sg):=(opn i e σ).bind fun p=>(res p.1 p.2).bind fun d=>some (d,p.2)
noncomputable def duo (i:I)(e:Ev)(j:I)(f:Ev)(σ:Sg):Option (D×D×Sg):=(opn i e σ).bind fun p=>(opn j f p.2).bind fun q=>(res p.1 q.2).bind fun a=>(res q.1 q.2).bind fun b=>some (a,b,q.2)
noncomputable def useS (σ:Sg)(k:Nat):Option (D×Bool×Sg):=match σ[k]? with
 | some (some (.val d))=>some (d,false,σ)
 | some (some (.own d))=>some (d,false,σ.set k (some (.val d)))
 | _=>none
noncomputable def put (σ:Sg)(k:Nat)(d:D)(fresh:Bool):Sg:=σ.set k (some (if fresh then .own d else .val d))
noncomputable def ownL (σ:Sg)(k:Nat):Option (List D):=match σ[k]? with
 | some (some (.own (.list l)))=>some l
 | _=>none
noncomputable def ownD (σ:Sg)(k:Nat):Option (List (D×D)):=match σ[k]? with
 | some (some (.own (.dict l)))=>some l
 | _=>none
mutual
noncomputable def noDct:D->Bool
 | .dict _=>false
 | .list l=>yz1 l
 | .tuple l=>yz1 l
 | _=>true
noncomputable def yz1:List D->Bool
 | []=>true
 | x::r=>noDct x&&yz1 r
end
noncomputable def xg5:D->Bool
 | .dict _=>true
 | _=>false
noncomputable def sepB (xs:List D)(d:D):Bool:=match xs with
 | []=>(match d with|.list []=>true|_=>false)
 | x::_=>xg5 x&&noDct d
noncomputable def ownV (σ:Sg)(k:Nat):Option D:=match σ[k]? with
 | some (some (.own d))=>some d
 | _=>none
noncomputable def ndS:Option AV->Bool
 | none=>true
 | some (.val d)=>noDct d
 | some (.own d)=>noDct d
noncomputable def clrS (σ:Sg)(k kk:Nat):Option Sg:=(ownL σ k).bind fun xs=>if xs.all xg5&&(σ.set k none).all ndS&&k != kk then some ((σ.set k none).set kk none) else none
noncomputable def zq8 (σ:Sg)(k:Nat):Bool:=match σ[k]? with
 | some (some (.own _))=>true
 | _=>false
noncomputable def bndD:D->Option Int
 | .int i=>if i.natAbs<2^62 then some i else none
 | _=>none
noncomputable def zg3 (k:Sg->Option Out):Out->Option Out
 | .next σ=>k σ
 | .ret d f=>some (.ret d f)
noncomputable def forN (bnd:D->Sg->Option Sg)(body:Sg->Option Out):List D->Sg->Option Out
 | [],σ=>some (.next σ)
 | d::r,σ=>(bnd d σ).bind fun σ'=>(body σ').bind (zg3 (forN bnd body r))
theorem wc7 {bnd body σ}:forN bnd body [] σ=some (.next σ):=rfl
theorem xf1 {bnd body d r σ}:forN bnd body (d::r) σ=(bnd d σ).bind fun σ'=>(body σ').bind (zg3 (forN bnd body r)):=rfl
noncomputable def zs0 (test:Sg->Option (D×Sg))(body:Sg->Option Out):Nat->Sg->Option Out
 | 0,_=>none
 | n+1,σ=>(test σ).bind fun p=>(zy6 p.1).bind fun b=>bif b then (body p.2).bind (zg3 (zs0 test body n)) else some (.next p.2)
noncomputable def zf5 (n:Nat)(cond:Sg->Option (D×Sg))(elt:Ev):List D->Sg->Option (List D×Sg)
 | [],σ=>some ([],σ)
 | d::r,σ=>(cond (σ++[some (.val d)])).bind fun p=>(zy6 p.1).bind fun b =>
  bif b then (elt p.2).bind fun x=>(zf5 n cond elt r (x.2.2.take n)).bind fun q=>some (x.1::q.1,q.2) else zf5 n cond elt r (p.2.take n)
theorem wi3 {n cond elt σ}:zf5 n cond elt [] σ=some ([],σ):=rfl
theorem wi2 {n cond elt d r σ}:zf5 n cond elt (d::r) σ=(cond (σ++[some (.val d)])).bind fun p=>(zy6 p.1).bind fun b=>bif b then (elt p.2).bind fun x=>(zf5 n cond elt r (x.2.2.take n)).bind fun q=>some (x.1::q.1,q.2) else zf5 n cond elt r (p.2.take n):=rfl
noncomputable def zm7 (n:Nat)(bc:D->Option (List D))(cond:Sg->Option (D×Sg))(elt:Ev):List D->Sg->Option (List D×Sg)
 | [],σ=>some ([],σ)
 | d::r,σ=>(bc d).bind fun ws=>(cond (σ++ws.map fun x=>some (.val x))).bind fun p=>(zy6 p.1).bind fun b =>
  bif b then (elt p.2).bind fun x=>(zm7 n bc cond elt r (x.2.2.take n)).bind fun q=>some (x.1::q.1,q.2) else zm7 n bc cond elt r (p.2.take n)
theorem wi5 {n bc cond elt σ}:zm7 n bc cond elt [] σ=some ([],σ):=rfl
theorem xd8 {n bc cond elt d r σ}:zm7 n bc cond elt (d::r) σ=(bc d).bind fun ws=>(cond (σ++ws.map fun x=>some (.val x))).bind fun p=>(zy6 p.1).bind fun b=>bif b then (elt p.2).bind fun x=>(zm7 n bc cond elt r (x.2.2.take n)).bind fun q=>some (x.1::q.1,q.2) else zm7 n bc cond elt r (p.2.take n):=rfl
noncomputable def bc1 (d:D):Option (List D):=some [d]
theorem zd9 {n:Nat}{cond:Sg->Option (D×Sg)}{elt:Ev}:∀{l:List D}{σ:Sg},zf5 n cond elt l σ=zm7 n bc1 cond elt l σ
 | [],σ=>rfl
 | d::r,σ=>by
  simp only[wi3,wi2,wi5,xd8,bc1,jk,x6,List.map_nil,zd9 (l:=r)]
noncomputable def tupN (m:Nat):D->Option (List D)
 | .tuple l=>if l.length=m then some l else none
 | _=>none
noncomputable def zp3 (k:Nat)(d:D)(σ:Sg):Option Sg:=some (σ.set k (some (.val d)))
noncomputable def bndE (i:I)(e:Ev)(σ:Sg):Option (Option Int×Sg):=bif zh8 i then some (none,σ) else (e σ).bind fun p=>(bndD p.1).bind fun j=>some (some j,p.2.2)
noncomputable def zm4 (i:I)(e:Ev)(σ:Sg):Option (D×Sg):=bif zh8 i then some (.bool true,σ) else (e σ).bind fun p=>some (p.1,p.2.2)
noncomputable def srcE (e:Ev)(σ:Sg):Option (List D×Sg):=(e σ).bind fun p=>(yt0 p.1).bind fun l=>some (l,p.2.2)
structure Env where
 call:Str->List D->Option (D×Bool)
 glob:Str->Option D
 fuel:Nat
noncomputable abbrev wy9 (c:Str->List D->Option (D×Bool))(g:Str->Option D)(n:Nat):Env:=⟨c,g,n⟩
mutual
noncomputable def ev (Γ:Env):I->Ev
 | .cnone,σ=>some (.none,false,σ)
 | .cbool b,σ=>some (.bool b,false,σ)
 | .cint i,σ=>some (.int i,false,σ)
 | .cstr s,σ=>some (.str s,false,σ)
 | .var k,σ=>useS σ k
 | .glob x,σ=>(Γ.glob x).bind fun d=>some (d,false,σ)
 | .bin op a b,σ=>(duo a (ev Γ a) b (ev Γ b) σ).bind fun p=>(binD op p.1 p.2.1).bind fun q=>some (q.1,q.2,p.2.2)
 | .neg a,σ=>(ev Γ a σ).bind fun p=>(zt9 p.1).bind fun i=>some (.int (-i),false,p.2.2)
 | .not a,σ=>(uno a (ev Γ a) σ).bind fun p=>(zy6 p.1).bind fun b=>some (.bool (!b),false,p.2)
 | .and l,σ=>(yy2 Γ l σ).bind fun p=>some (p.1,false,p.2)
 | .or l,σ=>(evOr Γ l σ).bind fun p=>some (p.1,false,p.2)
 | .cmp op a b,σ=>(duo a (ev Γ a) b (ev Γ b) σ).bind fun p=>(cmpD op p.1 p.2.1).bind fun r=>some (.bool r,false,p.2.2)
 | .cmp2 o1 o2 a b c,σ=>(ev Γ a σ).bind fun x=>(ev Γ b x.2.2).bind fun y=>(cmpD o1 x.1 y.1).bind fun r =>
  bif r then (ev Γ c y.2.2).bind fun z=>(cmpD o2 y.1 z.1).bind fun q=>some (.bool q,false,z.2.2) else some (.bool false,false,y.2.2)
 | .ite c a b,σ=>(uno c (ev Γ c) σ).bind fun p=>(zy6 p.1).bind fun r=>bif r then ev Γ a p.2 else ev Γ b p.2
 | .tup l,σ=>(evs Γ l σ).bind fun p=>(mkT p.1).bind fun q=>some (q.1,q.2,p.2)
 | .lst l,σ=>(evs Γ l σ).bind fun p=>(mkL p.1).bind fun q=>some (q.1,q.2,p.2)
 | .dct0,σ=>some (.dict [],true,σ)
 | .comp1 elt s cond,σ=>(srcE (ev Γ s) σ).bind fun p=>(zf5 σ.length (zm4 cond (ev Γ cond)) (ev Γ elt) p.1 p.2).bind fun q=>(mkL q.1).bind fun r=>some (r.1,r.2,q.2)
 | .compT m elt s cond,σ=>(srcE (ev Γ s) σ).bind fun p=>(zm7 σ.length (tupN m) (zm4 cond (ev Γ cond)) (ev Γ elt) p.1 p.2).bind fun q=>(mkL q.1).bind fun r=>some (r.1,r.2,q.2)
 | .zip a b,σ=>(ev Γ a σ).bind fun p=>(yr0 p.1).bind fun xs=>(ev Γ b p.2.2).bind fun q=>(wu3 q.1).bind fun ys=>some (.list (zipL xs ys),false,q.2.2)
 | .dzip a b,σ=>(ev Γ a σ).bind fun x=>(ev Γ b x.2.2).bind fun y=>(wv2 x.1 y.1).bind fun d=>some (d,true,y.2.2)
 | .callB g k l,σ=>(ownL σ k).bind fun _=>(evs Γ l σ).bind fun p=>(ownL p.2 k).bind fun xs=>(Γ.call g (.list xs::p.1)).bind fun q=>if q.2&&sepB xs q.1 then some (q.1,true,p.2) else none
 | .call g l,σ=>(evs Γ l σ).bind fun p=>(Γ.call g p.1).bind fun q=>some (q.1,q.2,p.2)
 | .prim1 p a,σ=>(uno a (ev Γ a) σ).bind fun x=>(zh6 p x.1).bind fun q=>some (q.1,q.2,x.2)
 | .isi a ty,σ=>(uno a (ev Γ a) σ).bind fun p=>(isiD p.1 ty).bind fun b=>some (.bool b,false,p.2)
 | .idx a i,σ=>(duo a (ev Γ a) i (ev Γ i) σ).bind fun p=>(idxD p.1 p.2.1).bind fun d=>some (d,false,p.2.2)
 | .slc a lo hi,σ=>(opn a (ev Γ a) σ).bind fun o=>(bndE lo (ev Γ lo) o.2).bind fun l=>(bndE hi (ev Γ hi) l.2).bind fun h=>(res o.1 h.2).bind fun d=>(yq6 d l.1 h.1).bind fun r=>some (r.1,r.2,h.2)
 | .pop k,σ=>(ownL σ k).bind fun l=>l.getLast?.bind fun d=>some (d,false,σ.set k (some (.own (.list l.dropLast))))
 | .rng1 b,σ=>(ev Γ b σ).bind fun p=>(zt9 p.1).bind fun y=>if zy8 y&&decide (y.toNat<=size) then some (.list (zu7 0 y),false,p.2.2) else none
 | .rng a b,σ=>(ev Γ a σ).bind fun p=>(zt9 p.1).bind fun x=>(ev Γ b p.2.2).bind fun q=>(zt9 q.1).bind fun y =>
  if zy8 x&&zy8 y&&decide ((y - x).toNat<=size) then some (.list (zu7 x y),false,q.2.2) else none
 | .rev a,σ=>(ev Γ a σ).bind fun p=>(yr0 p.1).bind fun l=>some (.list l.reverse,false,p.2.2)
 | _,_=>none
noncomputable def evs (Γ:Env):I->Sg->Option (List D×Sg)
 | .nil,σ=>some ([],σ)
 | .cons a r,σ=>(ev Γ a σ).bind fun p=>(evs Γ r p.2.2).bind fun q=>some (p.1::q.1,q.2)
 | _,_=>none
noncomputable def yy2 (Γ:Env):I->Sg->Option (D×Sg)
 | .cons a .nil,σ=>(ev Γ a σ).bind fun p=>some (p.1,p.2.2)
 | .cons a r,σ=>(ev Γ a σ).bind fun p=>(zy6 p.1).bind fun b=>bif b then yy2 Γ r p.2.2 else some (p.1,p.2.2)
 | _,_=>none
noncomputable def evOr (Γ:Env):I->Sg->Option (D×Sg)
 | .cons a .nil,σ=>(ev Γ a σ).bind fun p=>some (p.1,p.2.2)
 | .cons a r,σ=>(ev Γ a σ).bind fun p=>(zy6 p.1).bind fun b=>bif b then some (p.1,p.2.2) else evOr Γ r p.2.2
 | _,_=>none
end
noncomputable def tupD:D->Option (List D)
 | .tuple l=>some l
 | _=>none
noncomputable def xj3 (σ:Sg):List Nat->List D->Sg
 | k::ks,d::ds=>xj3 (put σ k d false) ks ds
 | _,_=>σ
noncomputable def zb9 (ks:List Nat)(d:D)(σ:Sg):Option Sg:=(tupD d).bind fun ds=>if ds.length=ks.length then some (xj3 σ ks ds) else none
noncomputable def appD (σ:Sg)(k:Nat)(r:List D):Option Out:=(ownL σ k).bind fun l=>if l.length+r.length<size then some (.next (σ.set k (some (.own (.list (l++r)))))) else none
noncomputable def remL (l:List D)(x:D):Option (List D):=if okd x&&l.all okd&&(l.any fun y=>z7 y x) then some (l.eraseIdx (l.findIdx fun y=>z7 y x)) else none
noncomputable def ex (Γ:Env):I->Sg->Option Out
 | .nil,σ=>some (.next σ)
 | .pass,σ=>some (.next σ)
 | .cons a b,σ=>(ex Γ a σ).bind (zg3 (ex Γ b))
 | .asg k e,σ=>(ev Γ e σ).bind fun p=>some (.next (put p.2.2 k p.1 p.2.1))
 | .sto k key e,σ=>(ev Γ e σ).bind fun v=>if zq8 v.2.2 k then (ev Γ key v.2.2).bind fun x=>(ownD x.2.2 k).bind fun kvs =>
   if zs3 x.1 kvs&&decide (kvs.length<size) then some (.next (x.2.2.set k (some (.own (.dict (dput kvs x.1 v.1)))))) else none
  else none
 | .app k e,σ=>(ownL σ k).bind fun _=>(ev Γ e σ).bind fun p=>appD p.2.2 k [p.1]
 | .ext k e,σ=>(ownL σ k).bind fun _=>(ev Γ e σ).bind fun p=>(extD p.1).bind fun r=>appD p.2.2 k r
 | .clr k,σ=>(ownL σ k).bind fun _=>some (.next (σ.set k (some (.own (.list [])))))
 | .clrs k kk,σ=>(clrS σ k kk).bind fun σ'=>some (.next σ')
 | .ndg,σ=>if σ.all ndS then some (.next σ) else none
 | .retO k,σ=>(ownV σ k).bind fun d=>some (.ret d true)
 | .exp e,σ=>(ev Γ e σ).bind fun p=>(zt9 p.1).bind fun _=>some (.next p.2.2)
 | .iff c t e,σ=>(uno c (ev Γ c) σ).bind fun p=>(zy6 p.1).bind fun b=>bif b then ex Γ t p.2 else ex Γ e p.2
 | .whl c b,σ=>zs0 (uno c (ev Γ c)) (ex Γ b) Γ.fuel σ
 | .for1 k s b,σ=>(srcE (ev Γ s) σ).bind fun p=>forN (zp3 k) (ex Γ b) p.1 p.2
 | .rem k e,σ=>(ownL σ k).bind fun _=>(ev Γ e σ).bind fun p=>(ownL p.2.2 k).bind fun l=>(remL l p.1).bind fun l'=>some (.next (p.2.2.set k (some (.own (.list l')))))
 | .fors ks s b,σ=>(srcE (ev Γ s) σ).bind fun p=>forN (zb9 ks) (ex Γ b) p.1 p.2
 | .ret e,σ=>(ev Γ e σ).bind fun p=>some (.ret p.1 p.2.1)
 | _,_=>none
theorem noS {α:Type}{a:α}(h:(none:Option α)=some a):False:=nomatch h
theorem za0 {d:D}{i:Int}(h:zt9 d=some i):d=.int i:=by
 cases d<;>first|(exact(noS h).elim)|(cases h;rfl)
@[elab_as_elim] theorem xc5 {d:D}{i:Int}{P:D->Prop}(h:zt9 d=some i)(k:P (.int i)):P d:=za0 h▸k
theorem xx9 {d:D}{i:Unit}(h:wr8 d=some i):d=.none:=by
 cases d<;>first|(exact(noS h).elim)|rfl
theorem ifS {α:Type}{c:Prop}[Decidable c]{a b:α}(h:(if c then some a else none)=some b):c/\a=b:=by
 by_cases hc:c
 ·rw[if_pos hc]at h;exact⟨hc,xv h⟩
 ·rw[if_neg hc]at h;cases h
@[elab_as_elim] theorem ifK {α:Type}{c:Prop}[Decidable c]{a b:α}{P:α->Prop}(h:(if c then some a else none)=some b)(k:c->P a):P b:=(ifS h).2▸k (ifS h).1
@[elab_as_elim] theorem addK {x y:D}{r:D×Bool}{P:D->D->D×Bool->Prop}(e:addD x y=some r)(h1:∀ i j,P (.int i) (.int j) (.int (i+j),false))(h2:∀ a b,(a++b).length<=size->P (.list a) (.list b) (.list (a++b),true))
  (h3:∀ a b,(a++b).length<=size->P (.tuple a) (.tuple b) (.tuple (a++b),false)):P x y r:=by
 cases x<;>(try exact(noS e).elim)<;>cases y<;>try exact(noS e).elim
 ·exact xv e▸h1 _ _
 ·exact ifK e (h2 _ _)
 ·exact ifK e (h3 _ _)
@[elab_as_elim] theorem as2K {β:Type}{g:Int->Int->Option β}{x y:D}{r:β}{P:D->D->Prop}(e:((zt9 x).bind fun i=>(zt9 y).bind fun j=>g i j)=some r)(k:∀ i j,g i j=some r->P (.int i) (.int j)):P x y:=by
 cases x<;>(try exact(noS e).elim)<;>cases y<;>first|exact(noS e).elim|exact k _ _ e
@[elab_as_elim] theorem wl6 {g:Int->Int->Option (D×Bool)}{x y:D}{r:D×Bool}{P:D->D->Prop}(e:int2 g x y=some r)(k:∀ i j,g i j=some r->P (.int i) (.int j)):P x y:=as2K (x:=x) (y:=y) (P:=P) e k
@[elab_as_elim] theorem gtK {x y:D}{b:Bool}{P:D->D->Bool->Prop}(e:gtD x y=some b)(h1:∀ i j:Int,P (.int i) (.int j) (decide (j<i)))(h2:∀ i j:Str,P (.str i) (.str j) (decide (j.cps.toList<i.cps.toList))):P x y b:=by
 cases x<;>(try exact(noS e).elim)<;>cases y<;>try exact(noS e).elim
 ·exact xv e▸h1 _ _
 ·exact xv e▸h2 _ _
@[elab_as_elim] theorem inK {x y:D}{b:Bool}{P:D->Bool->Prop}(e:inD x y=some b)(h1:∀ l,okd x=true->l.all okd=true->P (.list l) (l.any fun y=>z7 y x))
  (h2:∀ l,okd x=true->l.all okd=true->P (.tuple l) (l.any fun y=>z7 y x)) (h3:∀ l,(zk1 x l&&!tkey x)=true->P (.dict l) (zq6 l x).isSome):P y b:=by
 cases y<;>try exact(noS e).elim
 ·exact ifK e fun h=>h1 _ (zq.mp h).1 (zq.mp h).2
 ·exact ifK e fun h=>h2 _ (zq.mp h).1 (zq.mp h).2
 ·exact ifK e fun h=>h3 _ h
@[elab_as_elim] theorem idxK {x y d:D}{P:D->D->Prop}(e:idxD x y=some d)(h1:∀ (l:List D) (i:Int),0<=i->l[i.toNat]?=some d->P (.list l) (.int i))(h2:∀ (l:List D) (i:Int),0<=i->l[i.toNat]?=some d->P (.tuple l) (.int i))
  (h3:∀ l k,zk1 k l=true->zq6 l k=some d->P (.dict l) k):P x y:=by
 have ite:∀{c:Prop}[Decidable c]{o:Option D}{Q:Prop},(if c then o else none)=some d->(c->o=some d->Q)->Q:=fun {c} _ o Q e k=>by
  by_cases h:c
  ·exact k h ((if_pos h).symm.trans e)
  ·exact(noS ((if_neg h).symm.trans e)).elim
 cases x with
 | list l=>cases y<;>first|exact(noS e).elim|exact ite e (h1 _ _)
 | tuple l=>cases y<;>first|exact(noS e).elim|exact ite e (h2 _ _)
 | dict l=>exact ite e (h3 _ _)
 | _=>exact(noS e).elim
@[elab_as_elim] theorem wg5 {x:D}{lo hi:Option Int}{r:D×Bool}{P:D->Option Int->Option Int->D×Bool->Prop}(e:yq6 x lo hi=some r)(h1:∀ l lo hi,P (.list l) lo hi (.list (zw5 l lo hi),true))
  (h2:∀ l i,1<=i/\i<=(l.length:Int)->P (.tuple l) (some i) none (.tuple (l.drop i.toNat),false)):P x lo hi r:=by
 cases x with
 | list l=>exact xv e▸h1 _ _ _
 | tuple l=>cases lo<;>cases hi<;>first|exact(noS e).elim|exact ifK e (h2 _ _)
 | _=>exact(noS e).elim
@[elab_as_elim] theorem lenK {x:D}{r:D×Bool}{P:D->D×Bool->Prop}(e:lenD x=some r)(h1:∀ l,P (.list l) (.int l.length,false))(h2:∀ l,P (.tuple l) (.int l.length,false)):P x r:=by
 cases x<;>first|exact(noS e).elim|exact xv e▸h1 _|exact xv e▸h2 _
@[elab_as_elim] theorem seqK {x:D}{l:List D}{P:D->Prop}(e:seqD x=some l)(h1:P (.list l))(h2:P (.tuple l)):P x:=by
 cases x<;>first|exact(noS e).elim|exact xv e▸h1|exact xv e▸h2
@[elab_as_elim] theorem extK {x:D}{l:List D}{P:D->Prop}(e:extD x=some l)(h1:P (.list l))
  (h2:P (.tuple l))
  : P x:=by
 cases x<;>first|exact(noS e).elim|exact xv e▸h1|exact xv e▸h2
theorem iteS {α:Type}{c:Prop}[Decidable c]{a b:Option α}{r:α}{P:Prop}(e:(if c then a else b)=some r)(h1:c->a=some r->P)(h2:b=some r->P):P:=by
 by_cases h:c
 ·exact h1 h ((if_pos h).symm.trans e)
 ·exact h2 ((if_neg h).symm.trans e)
structure Fn where
 params:Nat
 slots:Nat
 body:I
noncomputable abbrev Fns:=List (Str×Fn)
noncomputable def retO:Out->D×Bool
 | .ret d f=>(d,f)
 | .next _=>(.none,false)
noncomputable def run (F:Fns)(gl:Str->Option D)(fuel:Nat):Nat->Str->List D->Option (D×Bool)
 | 0,_,_=>none
 | n+1,g,args=>(F.lookup g).bind fun fn=>if args.length=fn.params then
   (ex (wy9 (run F gl fuel n) gl fuel) fn.body (args.map (fun d=>some (.val d))++j6 (fn.slots - fn.params) none)).bind fun o=>some (retO o)
  else none
theorem zk9 {i j:Int}:ltD (.int i) (.int j)=some (decide (i<j)):=rfl
theorem yu6 {x y:Str}:ltD (.str x) (.str y)=some (decide (x.cps.toList<y.cps.toList)):=rfl
theorem zb0 {x y:List D}:ltD (.tuple x) (.tuple y)=ltL x y:=rfl
@[elab_as_elim] theorem ltK {x y:D}{b:Bool}{P:D->D->Bool->Prop}(e:ltD x y=some b)(h1:∀ i j:Int,P (.int i) (.int j) (decide (i<j)))(h2:∀ i j:Str,P (.str i) (.str j) (decide (i.cps.toList<j.cps.toList)))
  (h3:∀ i j b,ltL i j=some b->P (.tuple i) (.tuple j) b)
  : P x y b:=by
 cases x<;>(try exact(noS e).elim)<;>cases y<;>try exact(noS e).elim
 ·exact xv e▸h1 _ _
 ·exact xv e▸h2 _ _
 ·exact h3 _ _ _ e
theorem xn9 {Γ:Env}{σ:Sg}{i:Int}:ev Γ (.cint i) σ=some (.int i,false,σ):=rfl
theorem xe4 {Γ:Env}{σ:Sg}{k:Nat}:ev Γ (.var k) σ=useS σ k:=rfl
theorem yf4 {Γ:Env}{σ:Sg}{l:I}:ev Γ (.and l) σ=(yy2 Γ l σ).bind fun p=>some (p.1,false,p.2):=rfl
theorem xn8 {Γ:Env}{σ:Sg}{o1 o2:CmpOp}{a b c:I}:ev Γ (.cmp2 o1 o2 a b c) σ=(ev Γ a σ).bind fun x=>(ev Γ b x.2.2).bind fun y=>(cmpD o1 x.1 y.1).bind fun r=>bif r then (ev Γ c y.2.2).bind fun z=>(cmpD o2 y.1 z.1).bind fun q=>some (.bool q,false,z.2.2) else some (.bool false,false,y.2.2):=rfl
theorem xe5 {Γ:Env}{σ:Sg}{l:I}:ev Γ (.tup l) σ=(evs Γ l σ).bind fun p=>(mkT p.1).bind fun q=>some (q.1,q.2,p.2):=rfl
theorem xe6 {Γ:Env}{σ:Sg}{l:I}:ev Γ (.lst l) σ=(evs Γ l σ).bind fun p=>(mkL p.1).bind fun q=>some (q.1,q.2,p.2):=rfl
theorem zl6 {Γ:Env}{σ:Sg}{elt s cond:I}:ev Γ (.comp1 elt s cond) σ=(srcE (ev Γ s) σ).bind fun p=>(zf5 σ.length (zm4 cond (ev Γ cond)) (ev Γ elt) p.1 p.2).bind fun q=>(mkL q.1).bind fun r=>some (r.1,r.2,q.2):=rfl
theorem xy8 {Γ:Env}{σ:Sg}{m:Nat}{elt s cond:I}:ev Γ (.compT m elt s cond) σ=(srcE (ev Γ s) σ).bind fun p=>(zm7 σ.length (tupN m) (zm4 cond (ev Γ cond)) (ev Γ elt) p.1 p.2).bind fun q=>(mkL q.1).bind fun r=>some (r.1,r.2,q.2):=rfl
theorem xn7 {Γ:Env}{σ:Sg}{a b:I}:ev Γ (.dzip a b) σ=(ev Γ a σ).bind fun x=>(ev Γ b x.2.2).bind fun y=>(wv2 x.1 y.1).bind fun d=>some (d,true,y.2.2):=rfl
theorem xe3 {Γ:Env}{σ:Sg}{a b:I}:ev Γ (.zip a b) σ=(ev Γ a σ).bind fun p=>(yr0 p.1).bind fun xs=>(ev Γ b p.2.2).bind fun q=>(wu3 q.1).bind fun ys=>some (.list (zipL xs ys),false,q.2.2):=rfl
theorem xm0 {Γ:Env}{σ:Sg}{g:Str}{l:I}:ev Γ (.call g l) σ=(evs Γ l σ).bind fun p=>(Γ.call g p.1).bind fun q=>some (q.1,q.2,p.2):=rfl
theorem ys1 {Γ:Env}{σ:Sg}{p:Prim}{a:I}:ev Γ (.prim1 p a) σ=(uno a (ev Γ a) σ).bind fun x=>(zh6 p x.1).bind fun q=>some (q.1,q.2,x.2):=rfl
theorem xe7 {Γ:Env}{σ:Sg}{a i:I}:ev Γ (.idx a i) σ=(duo a (ev Γ a) i (ev Γ i) σ).bind fun p=>(idxD p.1 p.2.1).bind fun d=>some (d,false,p.2.2):=rfl
theorem zv0 {Γ:Env}{σ:Sg}{a lo hi:I}:ev Γ (.slc a lo hi) σ=(opn a (ev Γ a) σ).bind fun o=>(bndE lo (ev Γ lo) o.2).bind fun l=>(bndE hi (ev Γ hi) l.2).bind fun h=>(res o.1 h.2).bind fun d=>(yq6 d l.1 h.1).bind fun r=>some (r.1,r.2,h.2):=rfl
theorem xy7 {Γ:Env}{σ:Sg}{a r:I}:evs Γ (.cons a r) σ=(ev Γ a σ).bind fun p=>(evs Γ r p.2.2).bind fun q=>some (p.1::q.1,q.2):=rfl
theorem yl7 {Γ:Env}{σ:Sg}{a:I}:yy2 Γ (.cons a .nil) σ=(ev Γ a σ).bind fun p=>some (p.1,p.2.2):=rfl
theorem zd6 {Γ:Env}{σ:Sg}{a a2 r:I}:yy2 Γ (.cons a (.cons a2 r)) σ=(ev Γ a σ).bind fun p=>(zy6 p.1).bind fun b=>bif b then yy2 Γ (.cons a2 r) p.2.2 else some (p.1,p.2.2):=rfl
theorem zz7 {Γ:Env}{σ:Sg}{a b:I}:ex Γ (.cons a b) σ=(ex Γ a σ).bind (zg3 (ex Γ b)):=rfl
theorem xe1 {Γ:Env}{σ:Sg}{k:Nat}{e:I}:ex Γ (.asg k e) σ=(ev Γ e σ).bind fun p=>some (.next (put p.2.2 k p.1 p.2.1)):=rfl
theorem yf2 {Γ:Env}{σ:Sg}{k:Nat}{key e:I}:ex Γ (.sto k key e) σ=(ev Γ e σ).bind fun v=>if zq8 v.2.2 k then (ev Γ key v.2.2).bind fun x=>(ownD x.2.2 k).bind fun kvs=>if zs3 x.1 kvs&&decide (kvs.length<size) then some (.next (x.2.2.set k (some (.own (.dict (dput kvs x.1 v.1)))))) else none else none:=rfl
theorem xe2 {Γ:Env}{σ:Sg}{k:Nat}{e:I}:ex Γ (.app k e) σ=(ownL σ k).bind fun _=>(ev Γ e σ).bind fun p=>appD p.2.2 k [p.1]:=rfl
theorem xy9 {Γ:Env}{σ:Sg}{g:Str}{k:Nat}{l:I}:ev Γ (.callB g k l) σ=(ownL σ k).bind fun _=>(evs Γ l σ).bind fun p=>(ownL p.2 k).bind fun xs=>(Γ.call g (.list xs::p.1)).bind fun q=>if q.2&&sepB xs q.1 then some (q.1,true,p.2) else none:=rfl
theorem xe0 {Γ:Env}{σ:Sg}:ex Γ .ndg σ=if σ.all ndS then some (.next σ) else none:=rfl
theorem xn6 {Γ:Env}{σ:Sg}{k kk:Nat}:ex Γ (.clrs k kk) σ=(clrS σ k kk).bind fun σ'=>some (.next σ'):=rfl
theorem yf3 {Γ:Env}{σ:Sg}{e:I}:ex Γ (.exp e) σ=(ev Γ e σ).bind fun p=>(zt9 p.1).bind fun _=>some (.next p.2.2):=rfl
theorem zz8 {Γ:Env}{σ:Sg}{c t e:I}:ex Γ (.iff c t e) σ=(uno c (ev Γ c) σ).bind fun p=>(zy6 p.1).bind fun b=>bif b then ex Γ t p.2 else ex Γ e p.2:=rfl
theorem eq_ex_whl {Γ:Env}{σ:Sg}{c b:I}:ex Γ (.whl c b) σ=zs0 (uno c (ev Γ c)) (ex Γ b) Γ.fuel σ:=rfl
theorem zy0 {Γ:Env}{σ:Sg}{k:Nat}{s b:I}:ex Γ (.for1 k s b) σ=(srcE (ev Γ s) σ).bind fun p=>forN (zp3 k) (ex Γ b) p.1 p.2:=rfl
theorem zm1 {Γ:Env}{σ:Sg}{ks:List Nat}{s b:I}:ex Γ (.fors ks s b) σ=(srcE (ev Γ s) σ).bind fun p=>forN (zb9 ks) (ex Γ b) p.1 p.2:=rfl
theorem xf9 {Γ:Env}{σ:Sg}{k:Nat}{e:I}:ex Γ (.rem k e) σ=(ownL σ k).bind fun _=>(ev Γ e σ).bind fun p=>(ownL p.2.2 k).bind fun l=>(remL l p.1).bind fun l'=>some (.next (p.2.2.set k (some (.own (.list l'))))):=rfl
theorem zj5 {Γ:Env}{σ:Sg}{e:I}:ex Γ (.ret e) σ=(ev Γ e σ).bind fun p=>some (.ret p.1 p.2.1):=rfl
end Mini
end
section
namespace Mini
open PySem
mutual
theorem zx0:∀{a b:D},zz9 a=true->zz9 b=true->(z7 a b=true↔a=b)
 | .int i,.int j,_,_=>(beq_iff_eq (a:=i) (b:=j)).trans ⟨congrArg _,vj.inj⟩
 | .str i,.str j,_,_=>(beq_iff_eq (a:=i) (b:=j)).trans ⟨congrArg _,qW.str.inj⟩
 | .tuple _,.tuple _,ha,hb=>(zt7 ha hb).trans ⟨congrArg _,wQ.inj⟩
 | .int _,.str _,_,_=>⟨fun h=>(qj h).elim,nofun⟩
 | .int _,.tuple _,_,_=>⟨fun h=>(qj h).elim,nofun⟩
 | .str _,.int _,_,_=>⟨fun h=>(qj h).elim,nofun⟩
 | .str _,.tuple _,_,_=>⟨fun h=>(qj h).elim,nofun⟩
 | .tuple _,.int _,_,_=>⟨fun h=>(qj h).elim,nofun⟩
 | .tuple _,.str _,_,_=>⟨fun h=>(qj h).elim,nofun⟩
 | .none,_,h,_=>(qj h).elim
 | .bool _,_,h,_=>(qj h).elim
 | .list _,_,h,_=>(qj h).elim
 | .dict _,_,h,_=>(qj h).elim
 | _,.none,_,h=>(qj h).elim
 | _,.bool _,_,h=>(qj h).elim
 | _,.list _,_,h=>(qj h).elim
 | _,.dict _,_,h=>(qj h).elim
theorem zt7:∀{xs ys:List D},zt6 xs=true->zt6 ys=true->(QQ xs ys=true↔xs=ys)
 | [],[],_,_=>⟨fun _=>rfl,fun _=>rfl⟩
 | [],_::_,_,_=>⟨fun h=>(qj h).elim,nofun⟩
 | _::_,[],_,_=>⟨fun h=>(qj h).elim,nofun⟩
 | x::xs,y::ys,ha,hb=>by
  have ha:=zq.mp ha
  have hb:=zq.mp hb
  show (z7 x y&&QQ xs ys)=true↔_
  rw[zj,zx0 ha.1 hb.1,zt7 ha.2 hb.2,List.cons.injEq]
end
theorem zh0 {a:D}(h:zz9 a=true):z7 a a=true:=(zx0 h h).mpr rfl
mutual
theorem lt_irrefl:∀{a:D},zz9 a=true->ltD a a≠some true
 | .int i,_=>by simp[zk9,yu6,zb0]
 | .str i,_=>by simp[zk9,yu6,zb0]
 | .tuple xs,h=>by
  simp only[zk9,yu6,zb0,zr5]at *
  exact yp7 h
 | .none,h=>(qj h).elim
 | .bool _,h=>(qj h).elim
 | .list _,h=>(qj h).elim
 | .dict _,h=>(qj h).elim
theorem yp7:∀{xs:List D},zt6 xs=true->ltL xs xs≠some true
 | [],_=>by simp[wm7]
 | x::xs,h=>by
  simp only[zl3,zj]at h
  simp only[xo4,zh0 h.1,if_true]
  exact yp7 h.2
end
theorem lt_i {i:Int}{b:D}{r:Bool}(h:ltD (.int i) b=some r):∃ j,b=.int j:=by
 cases b<;>first|exact(noS h).elim|exact⟨_,rfl⟩
theorem lt_s {i:Str}{b:D}{r:Bool}(h:ltD (.str i) b=some r):∃ j,b=.str j:=by
 cases b<;>first|exact(noS h).elim|exact⟨_,rfl⟩
theorem lt_t {i:List D}{b:D}{r:Bool}(h:ltD (.tuple i) b=some r):∃ j,b=.tuple j:=by
 cases b<;>first|exact(noS h).elim|exact⟨_,rfl⟩
mutual
theorem lt_trans:∀{a b c:D},zz9 a=true->zz9 b=true->zz9 c=true->ltD a b=some true->ltD b c=some true->ltD a c=some true
 | .int i,b,c,_,_,_,h1,h2=>by
  obtain ⟨j,rfl⟩:=lt_i h1
  obtain ⟨k,rfl⟩:=lt_i h2
  simp only[zk9,Q1,decide_eq_true_eq]at *
  lia
 | .str i,b,c,_,_,_,h1,h2=>by
  obtain ⟨j,rfl⟩:=lt_s h1
  obtain ⟨k,rfl⟩:=lt_s h2
  simp only[yu6,Q1,decide_eq_true_eq]at *
  exact List.lt_trans h1 h2
 | .tuple xs,b,c,ha,hb,hc,h1,h2=>by
  obtain ⟨ys,rfl⟩:=lt_t h1
  obtain ⟨zs,rfl⟩:=lt_t h2
  exact yg0 (xs:=xs) ha hb hc h1 h2
 | .none,_,_,h,_,_,_,_=>(qj h).elim
 | .bool _,_,_,h,_,_,_,_=>(qj h).elim
 | .list _,_,_,h,_,_,_,_=>(qj h).elim
 | .dict _,_,_,h,_,_,_,_=>(qj h).elim
theorem yg0:∀{xs ys zs:List D},zt6 xs=true->zt6 ys=true->zt6 zs=true->ltL xs ys=some true->ltL ys zs=some true->ltL xs zs=some true
 | [],_,[],_,_,_,h1,h2=>by
  cases ‹List D› with
  | nil=>simp[wm7]at h1
  | cons _ _=>simp[wx0]at h2
 | [],_,_::_,_,_,_,_,_=>rfl
 | _::_,[],_,_,_,_,h1,_=>by simp[wx0]at h1
 | _::_,_::_,[],_,_,_,_,h2=>by simp[wx0]at h2
 | x::xs,y::ys,z::zs,ha,hb,hc,h1,h2=>by
  simp only[zl3,zj]at ha hb hc
  simp only[xo4]at *
  by_cases e1:z7 x y=true
  ·rw[if_pos e1]at h1
   have e1':=(zx0 ha.1 hb.1).mp e1
   subst e1'
   by_cases e2:z7 x z=true
   ·rw[if_pos e2]at h2 |-
    exact yg0 ha.2 hb.2 hc.2 h1 h2
   ·rw[if_neg e2]at h2 |-
    exact h2
  ·rw[if_neg e1]at h1
   by_cases e2:z7 y z=true
   ·have e2':=(zx0 hb.1 hc.1).mp e2
    subst e2'
    rw[if_neg e1];exact h1
   ·rw[if_neg e2]at h2
    have h3:=lt_trans ha.1 hb.1 hc.1 h1 h2
    have e3:¬ z7 x z=true:=fun e=>by
     have e':=(zx0 ha.1 hc.1).mp e
     subst e'
     exact lt_irrefl ha.1 h3
    rw[if_neg e3];exact h3
end
mutual
theorem xt1:∀{a b:D},zz9 a=true->zz9 b=true->ltD a b=some false->a≠b->ltD b a=some true
 | .int i,b,_,_,h,hn=>by
  obtain ⟨j,rfl⟩:=lt_i h
  simp only[zk9,yu6,zb0,Q1,decide_eq_false_iff_not,decide_eq_true_eq]at *
  have:i≠j:=fun e=>hn (by rw[e])
  lia
 | .str i,b,_,_,h,hn=>by
  obtain ⟨j,rfl⟩:=lt_s h
  simp only[zk9,yu6,zb0,Q1,decide_eq_false_iff_not,decide_eq_true_eq]at *
  have hne:i.cps.toList≠j.cps.toList:=fun e=>hn (by
   obtain ⟨ci⟩:=i
   obtain ⟨cj⟩:=j
   have:ci=cj:=Array.toList_inj.mp e
   rw[this])
  by_cases q:j.cps.toList<i.cps.toList
  ·exact q
  ·exact absurd (List.le_antisymm (List.not_lt.mp q) (List.not_lt.mp h)) hne
 | .tuple xs,b,ha,hb,h,hn=>by
  obtain ⟨ys,rfl⟩:=lt_t h
  simp only[zk9,yu6,zb0,zr5]at *
  exact yu7 ha hb h (fun e=>hn (by rw[e]))
 | .none,_,h,_,_,_=>(qj h).elim
 | .bool _,_,h,_,_,_=>(qj h).elim
 | .list _,_,h,_,_,_=>(qj h).elim
 | .dict _,_,h,_,_,_=>(qj h).elim
theorem yu7:∀{xs ys:List D},zt6 xs=true->zt6 ys=true->ltL xs ys=some false->xs≠ys->ltL ys xs=some true
 | [],[],_,_,_,hn=>absurd rfl hn
 | [],_::_,_,_,h,_=>by simp[wd2]at h
 | _::_,[],_,_,_,_=>rfl
 | x::xs,y::ys,ha,hb,h,hn=>by
  simp only[zl3,zj]at ha hb
  simp only[xo4]at *
  by_cases e1:z7 x y=true
  ·rw[if_pos e1]at h
   have e1':=(zx0 ha.1 hb.1).mp e1
   subst e1'
   rw[if_pos (zh0 ha.1)]
   exact yu7 ha.2 hb.2 h (fun e=>hn (by rw[e]))
  ·rw[if_neg e1]at h
   have e2:¬ z7 y x=true:=fun e=>e1 (by rw[(zx0 hb.1 ha.1).mp e];exact zh0 ha.1)
   rw[if_neg e2]
   exact xt1 ha.1 hb.1 h (fun e=>e1 (by rw[e];exact zh0 hb.1))
end
noncomputable def leD (a b:D):Prop:=ltD b a≠some true
structure Cmp (l:List D):Prop where
 plain:∀ a∈l,zz9 a=true
 some_:∀ a∈l,∀ b∈l,(ltD a b).isSome=true
theorem Cmp.tail {x:D}{l:List D}(h:Cmp (x::l)):Cmp l:=⟨fun a ha=>h.plain a (xJ _ ha),fun a ha b hb=>h.some_ a (xJ _ ha) b (xJ _ hb)⟩
theorem Cmp.perm {l l':List D}(h:Cmp l)(p:l'.Perm l):Cmp l':=⟨fun a ha=>h.plain a (p.mem_iff.mp ha),fun a ha b hb=>h.some_ a (p.mem_iff.mp ha) b (p.mem_iff.mp hb)⟩
theorem Cmp.lt_or {l:List D}(h:Cmp l){a b:D}(ha:a∈l)(hb:b∈l)(hn:ltD a b≠some true):ltD b a=some true\/a=b:=by
 by_cases e:a=b
 ·exact .inr e
 ·left
  obtain ⟨c,hc⟩:=jj.mp (h.some_ a ha b hb)
  cases c with
  | true=>exact absurd hc hn
  | false=>exact xt1 (h.plain a ha) (h.plain b hb) hc e
theorem Cmp.le_trans {l:List D}(h:Cmp l){a b c:D}(ha:a∈l)(hb:b∈l)(hc:c∈l)(h1:leD a b)(h2:leD b c):leD a c:=by
 intro h3
 rcases h.lt_or hb ha h1 with q|rfl
 ·exact h2 (lt_trans (h.plain c hc) (h.plain a ha) (h.plain b hb) h3 q)
 ·exact h2 h3
theorem Cmp.antisymm {l:List D}(h:Cmp l){a b:D}(ha:a∈l)(hb:b∈l)(h1:leD a b)(h2:leD b a):a=b:=by
 rcases h.lt_or hb ha h1 with q|q
 ·exact absurd q h2
 ·exact q.symm
theorem yl4 (x:D):∀ l:List D,(insD x l).Perm (x::l)
 | []=>vV.refl _
 | y::r=>by
  rw[xg6]
  split
  ·exact((yl4 x r).cons y).trans (vV.swap x y r)
  ·exact vV.refl _
theorem zz1:∀ l:List D,(zx8 l).Perm l
 | []=>vV.refl _
 | x::r=>(yl4 x _).trans ((zz1 r).cons x)
set_option tactic.hygienic true in
theorem yo0 {x:D}:∀{l:List D},Cmp (x::l)->l.Pairwise leD->(insD x l).Pairwise leD
 | [],_,_=>by simp[wc3]
 | y::r,h,hs=>by
  rw[List.pairwise_cons]at hs
  rw[xg6]
  split
  ·rename_i hlt
   simp only[beq_iff_eq]at hlt
   have hc:Cmp (x::r):=⟨fun a ha=>h.plain a (by rcases zQ.mp ha with e|e<;>simp[e]),fun a ha b hb=>h.some_ a (by rcases zQ.mp ha with e|e<;>simp[e]) b (by rcases zQ.mp hb with e|e<;>simp[e])⟩
   rw[List.pairwise_cons]
   refine⟨fun z hz=>?_,yo0 hc hs.2⟩
   have hz':=(yl4 x r).mem_iff.mp hz
   rcases zQ.mp hz' with rfl|hz'
   ·intro q
    exact lt_irrefl (h.plain z (by simp)) (lt_trans (h.plain z (by simp)) (h.plain y (by simp)) (h.plain z (by simp)) q hlt)
   ·exact hs.1 z hz'
  ·rename_i hlt
   simp only[beq_iff_eq]at hlt
   rw[List.pairwise_cons]
   refine⟨fun z hz=>?_,List.pairwise_cons.mpr hs⟩
   rcases zQ.mp hz with rfl|hz
   ·exact hlt
   ·exact h.le_trans (b:=y) (by simp) (by simp) (by simp[hz]) hlt (hs.1 z hz)
theorem zt3:∀{l:List D},Cmp l->(zx8 l).Pairwise leD
 | [],_=>List.Pairwise.nil
 | x::r,h=>yo0 (h.perm ((zz1 r).cons x)) (zt3 h.tail)
theorem ze1:∀{l l':List D},Cmp l->l.Pairwise leD->l'.Pairwise leD->l.Perm l'->l=l'
 | [],l',_,_,_,p=>by rw[List.nil_perm]at p;exact p.symm
 | x::r,[],_,_,_,p=>by have:=p.length_eq;simp at this
 | x::r,y::t,h,hs,hs',p=>by
  rw[List.pairwise_cons]at hs hs'
  have hx:x∈y::t:=p.mem_iff.mp (by simp)
  have hy:y∈x::r:=p.mem_iff.mpr (by simp)
  have e:x=y:=by
   rcases zQ.mp hx with e|hx'
   ·exact e
   ·rcases zQ.mp hy with e|hy'
    ·exact e.symm
    ·exact h.antisymm (by simp) (by simp[hy']) (hs.1 y hy') (hs'.1 x hx')
  subst e
  rw[ze1 h.tail hs.2 hs'.2 ((List.perm_cons x).mp p)]
theorem zp5 {l l':List D}(h:Cmp l)(p:l'.Perm l)(hs:l'.Pairwise leD):l'=zx8 l :=
 ze1 (h.perm p) hs (zt3 h) (p.trans (zz1 l).symm)
theorem zo6 {l:List D}(h:sortable l=true):Cmp l:=by
 unfold sortable at h
 simp only[zj,x8]at h
 exact⟨h.1.1.2,fun a ha b hb=>h.2 a ha b hb⟩
noncomputable def zk6 (l:List D)(d:D):Nat:=(l.filter fun x=>ltD x d==some true).length
theorem zb7 {α:Type}{p q:α->Bool}:∀{l:List α},(∀ x∈l,p x=true->q x=true)->(l.filter p).length<=(l.filter q).length
 | [],_=>zv _
 | x::r,h=>by
  have ih:=zb7 (l:=r) fun y hy=>h y (xJ _ hy)
  by_cases hp:p x=true
  ·simp[yV,hp,h x (by simp) hp,ih]
  ·by_cases hq:q x=true<;>simp[yV,hp,hq]<;>(first|assumption|lia)
theorem yg8 {α:Type}{p q:α->Bool}{a:α}:∀{l:List α},(∀ x∈l,p x=true->q x=true)->a∈l->p a=false->q a=true->(l.filter p).length<(l.filter q).length
 | [],_,h,_,_=>by simp at h
 | x::r,h,ha,hp,hq=>by
  have hs:=zb7 (l:=r) fun y hy=>h y (xJ _ hy)
  rcases zQ.mp ha with rfl|ha
  ·simp[yV,hp,hq];lia
  ·have ih:=yg8 (l:=r) (fun y hy=>h y (xJ _ hy)) ha hp hq
   by_cases hp':p x=true
   ·simp[yV,hp',h x (by simp) hp',ih]
   ·by_cases hq':q x=true<;>simp[yV,hp',hq']<;>(first|assumption|lia)
theorem yc7 {l:List D}(h:Cmp l){a b:D}(ha:a∈l)(hb:b∈l):ltD a b=some (decide (zk6 l a<zk6 l b)):=by
 obtain ⟨c,hc⟩:=jj.mp (h.some_ a ha b hb)
 cases c with
 | true =>
  have:zk6 l a<zk6 l b:=yg8 (a:=a) (fun x hx hp=>by
   simp only[beq_iff_eq]at hp |-
   exact lt_trans (h.plain x hx) (h.plain a ha) (h.plain b hb) hp hc) ha (by
    have:=lt_irrefl (h.plain a ha)
    simpa using this) (by simpa using hc)
  rw[hc,decide_eq_true this]
 | false =>
  have:¬ zk6 l a<zk6 l b:=QK.mpr (zb7 fun x hx hp=>by
   simp only[beq_iff_eq]at hp |-
   rcases h.lt_or ha hb (by rw[hc];simp) with q|rfl
   ·exact lt_trans (h.plain x hx) (h.plain b hb) (h.plain a ha) hp q
   ·exact hp)
  rw[hc,decide_eq_false this]
noncomputable abbrev Nu:=Str->Option Nat
noncomputable def zm0 (x:Str):Bool:=x != "__debug__" && x != "__classdict__"
noncomputable def zz5 (sc:x9)(ν:Nu)(x:Str):Bool:=sc.names.lookup x==some .globalImplicit&&(ν x).isNone&&zm0 x
noncomputable def zm6 (outer:x9)(ν:Nu)(xs:List Str)(csc:x9):Bool :=
 csc.kind==.function&&xs.all (fun x=>csc.names.lookup x==some .local&&zm0 x&&x != ".0") &&
 csc.names.all fun p=>p.2 != .cell&&p.2 != .globalExplicit&&csc.names.lookup p.1==some p.2 &&
  (p.2 != .free||(outer.names.lookup p.1==some .cell&&zm0 p.1&&(ν p.1).isSome))
noncomputable def zx7 (n:Nat)(ν:Nu)(xs:List Str)(csc:x9):Nu:=fun y =>
 match xs.idxOf? y with
 | some i=>some (n+i)
 | none=>if csc.names.lookup y==some .free then ν y else none
set_option genInjectivity false in
set_option genCtorIdx false in
inductive Tg where
 | ex (t:Bool) (e:Expr)|exs (es:List Expr)|opt (o:Option Expr)|ifs (l:List Expr)|st (s:Stmt)|sts (l:List Stmt)
structure Sl (ν:Nu)(k:Nat)(x:Str):Prop where
 at':ν x=some k
 ok:zm0 x=true
noncomputable def okE (e:Expr):Prop:=∀(env:xy)(rest:List Expr)(op:CmpOp)(o i x:qz),(behindInMarks op e,starEach (e::rest) env,subscripted e false o i,foldedSetIterable e env x)=(false,(false,eval e env)::starEach rest env,operate [o,i] (getItem o i),pure x)
noncomputable def okT:Tg->Prop
 | .ex _ e=>okE e
 | .exs es=>∀ e∈es,okE e
 | _=>True
end Mini
end
section
namespace Snd
open PySem Mini
theorem wpM {α:Type}{M:Model}{A:zJ}{E:qz->qw->Prop}{s:qw}{t:Sem α}{Q Q':α->qw->Prop}(h:qK M A t Q E s)(hQ:∀ a s,Q a s->Q' a s):qK M A t Q' E s:=kK h hQ fun _ _ x=>x
noncomputable abbrev Fz:=Addr->Option Obj
noncomputable def Fz.In (F:Fz)(h:Heap):Prop:=∀ a o,F a=some o->h.get? a=some o
noncomputable def Fz.le (F G:Fz):Prop:=∀ a o,F a=some o->G a=some o
noncomputable def Fz.add (F:Fz)(a:Addr)(o:Obj):Fz:=fun b=>if b=a then some o else F b
theorem Fz.le_refl (F:Fz):F.le F:=fun _ _ e=>e
theorem Fz.le.trans {F G H:Fz}(x:F.le G)(y:G.le H):F.le H:=fun a o e=>y a o (x a o e)
theorem Fz.add_self (F:Fz)(a:Addr)(o:Obj):F.add a o a=some o:=by simp[Fz.add]
theorem Fz.add_other (F:Fz){a b:Addr}(o:Obj)(h:b≠a):F.add a o b=F b:=by simp[Fz.add,h]
theorem Fz.le_add {F:Fz}{a:Addr}(o:Obj)(h:F a=none):F.le (F.add a o):=fun b p e=>by
 by_cases hb:b=a
 ·subst hb;rw[h]at e;cases e
 ·rw[Fz.add_other F o hb];exact e
theorem Fz.in_add {F:Fz}{h:Heap}{a:Addr}{o:Obj}(x:F.In h)(e:h.get? a=some o):(F.add a o).In h:=fun b p q=>by
 by_cases hb:b=a
 ·subst hb;rw[Fz.add_self]at q;cases q;exact e
 ·rw[Fz.add_other F o hb]at q;exact x b p q
mutual
noncomputable def yl5 (w:wz):D->Int
 | .int i=>hashInt i
 | .str s=>if s.cps.isEmpty then 0 else reduceHash (w.params.strHash s.cps)
 | .tuple l=>reduceHash (k5 (yt7 w l))
 | _=>0
noncomputable def yt7 (w:wz):List D->List Int
 | []=>[]
 | x::r=>yl5 w x::yt7 w r
end
noncomputable abbrev lobj (vs:Array qz)(n:Nat):Obj:={ cls:=.type "list", data:=.seq vs n }
noncomputable abbrev tobj (vs:Array qz)(n:Nat):Obj:={ cls:=.type "tuple", data:=.seq vs n }
noncomputable abbrev dobj (es:Array j3)(n:Nat):Obj:={ cls:=.type "dict", data:=.dict es n }
noncomputable def xw2 (kvs:List (D×D)):Prop:=kvs.length<=size/\(kvs.map (·.1)).Nodup
mutual
noncomputable def Rep (w:wz)(F:Fz):D->qz->Prop
 | .none,v=>v=.none
 | .bool b,v=>v=.bool b
 | .int i,v=>∃ t,v=.int i t
 | .str s,v=>∃ t,v=.str s t
 | .list xs,v=>xs.length<=size/\∃ a o vs n,v=.ref a/\F a=some o/\o.cls=.type "list" /\ o.data=.seq vs n/\RepL w F xs vs.toList
 | .tuple xs,v=>xs.length<=size/\∃ a vs n,v=.ref a/\F a=some (tobj vs n)/\RepL w F xs vs.toList
 | .dict kvs,v=>xw2 kvs/\∃ a es n,v=.ref a/\F a=some (dobj es n)/\RepKV w F kvs es.toList/\uJ<a
noncomputable def RepL (w:wz)(F:Fz):List D->List qz->Prop
 | [],vs=>vs=[]
 | d::ds,vs=>∃ v r,vs=v::r/\Rep w F d v/\RepL w F ds r
noncomputable def RepKV (w:wz)(F:Fz):List (D×D)->List j3->Prop
 | [],es=>es=[]
 | p::r,es=>∃ e t,es=e::t/\RepP w F p e/\RepKV w F r t
noncomputable def RepP (w:wz)(F:Fz):D×D->j3->Prop
 | (k,v),e=>e.hash=yl5 w k/\Rep w F k e.key/\Rep w F v e.val
end
theorem yr2 {w F k v e}:RepP w F (k,v) e=(e.hash=yl5 w k/\Rep w F k e.key/\Rep w F v e.val):=rfl
theorem zf7 {w F es}:RepKV w F [] es=(es=[]):=rfl
theorem zl9 {w F p r es}:RepKV w F (p::r) es=(∃ e t,es=e::t/\RepP w F p e/\RepKV w F r t):=rfl
theorem zs4 {w F vs}:RepL w F [] vs=(vs=[]):=rfl
theorem zv1 {w F d ds vs}:RepL w F (d::ds) vs=(∃ v r,vs=v::r/\Rep w F d v/\RepL w F ds r):=rfl
theorem za1 {w F v}:Rep w F .none v=(v=.none):=rfl
theorem za2 {w F b v}:Rep w F (.bool b) v=(v=.bool b):=rfl
theorem zq2 {w F i v}:Rep w F (.int i) v=(∃ t,v=.int i t):=rfl
theorem zj8 {w F s v}:Rep w F (.str s) v=(∃ t,v=.str s t):=rfl
theorem zm8 {w F xs v}:Rep w F (.list xs) v=(xs.length<=size/\∃ a o vs n,v=.ref a/\F a=some o/\o.cls=.type "list" /\ o.data=.seq vs n/\RepL w F xs vs.toList):=rfl
theorem zr4 {w F xs v}:Rep w F (.tuple xs) v=(xs.length<=size/\∃ a vs n,v=.ref a/\F a=some (tobj vs n)/\RepL w F xs vs.toList):=rfl
theorem zl8 {w F kvs v}:Rep w F (.dict kvs) v=(xw2 kvs/\∃ a es n,v=.ref a/\F a=some (dobj es n)/\RepKV w F kvs es.toList/\uJ<a):=rfl
theorem yc5 {w:wz}{F:Fz}{xs:List D}{a:Addr}{vs:Array qz}{n:Nat}(hz:xs.length<=size)(h:F a=some (tobj vs n))(r:RepL w F xs vs.toList):Rep w F (.tuple xs) (.ref a) :=
 show _/\_ from ⟨hz,Mini.iEEEAA a vs n rfl h r⟩
theorem wp4 {w:wz}{F:Fz}{i:Int}{t:Tok}:Rep w F (.int i) (.int i t):=show ∃ _,_ from ⟨t,rfl⟩
mutual
theorem Rep.mono {w:wz}{F G:Fz}(l:F.le G):∀(d:D){v:qz},Rep w F d v->Rep w G d v
 | .none,_,h=>by simpa[za1,za2,zq2,zj8,zm8,zr4,zl8] using h
 | .bool _,_,h=>by simpa[za1,za2,zq2,zj8,zm8,zr4,zl8] using h
 | .int _,_,h=>by simpa[za1,za2,zq2,zj8,zm8,zr4,zl8] using h
 | .str _,_,h=>by simpa[za1,za2,zq2,zj8,zm8,zr4,zl8] using h
 | .list xs,_,h=>by
  simp only[zm8]at h |-
  refine zv4 (h) fun hz a o vs n e h1 hc hd h4=>?_
  exact⟨hz,Mini.iEEEEAAAA a o vs n e (l _ _ h1) hc hd (RepL.mono l xs h4)⟩
 | .tuple xs,_,h=>by
  simp only[zr4]at h |-
  refine zu6 (h) fun hz a vs n e h1 h4=>?_
  exact⟨hz,Mini.iEEEAA a vs n e (l _ _ h1) (RepL.mono l xs h4)⟩
 | .dict xs,_,h=>by
  simp only[zl8]at h |-
  refine zu6 (h) fun hz a vs n e h1 h4=>?_
  exact⟨hz,Mini.iEEEAAA a vs n e (l _ _ h1) (RepKV.mono l xs h4.1) h4.2⟩
theorem RepL.mono {w:wz}{F G:Fz}(l:F.le G):∀(ds:List D){vs:List qz},RepL w F ds vs->RepL w G ds vs
 | [],_,h=>by simpa[zs4,zv1] using h
 | d::ds,_,h=>by
  simp only[zv1]at h |-
  refine elEEAA (h) fun v r e h1 h2=>?_
  exact Mini.iEEAA v r e (Rep.mono l d h1) (RepL.mono l ds h2)
theorem RepKV.mono {w:wz}{F G:Fz}(l:F.le G):∀(ds:List (D×D)){vs:List j3},RepKV w F ds vs->RepKV w G ds vs
 | [],_,h=>by simpa[zf7,zl9] using h
 | d::ds,_,h=>by
  simp only[zl9]at h |-
  refine elEEAA (h) fun v r e h1 h2=>?_
  exact Mini.iEEAA v r e (RepP.mono l d h1) (RepKV.mono l ds h2)
theorem RepP.mono {w:wz}{F G:Fz}(l:F.le G):∀(d:D×D){e:j3},RepP w F d e->RepP w G d e
 | (k,v),_,h=>by
  simp only[yr2]at h |-
  exact Mini.iAA h.1 (Rep.mono l k h.2.1) (Rep.mono l v h.2.2)
end
theorem RepL.length {w:wz}{F:Fz}:∀{ds:List D}{vs:List qz},RepL w F ds vs->vs.length=ds.length
 | [],_,h=>by simp only[zs4]at h;subst h;rfl
 | _::_,_,h=>by
  simp only[zv1]at h
  (refine elEEAA (h) fun v r e_2 _ h2=>?_;subst e_2)
  simp[RepL.length h2]
theorem RepKV.length {w:wz}{F:Fz}:∀{ds:List (D×D)}{vs:List j3},RepKV w F ds vs->vs.length=ds.length
 | [],_,h=>by simp only[zf7]at h;subst h;rfl
 | _::_,_,h=>by
  simp only[zl9]at h
  (refine elEEAA (h) fun v r e_2 _ h2=>?_;subst e_2)
  simp[RepKV.length h2]
noncomputable def Shal (w:wz)(F:Fz)(h:Heap):D->Addr->Prop
 | .list xs,a=>xs.length<=size/\∃ vs n,h.get? a=some (lobj vs n)/\RepL w F xs vs.toList
 | .dict kvs,a=>xw2 kvs/\∃ es n,h.get? a=some (dobj es n)/\RepKV w F kvs es.toList/\uJ<a
 | _,_=>False
theorem Shal.mono {w:wz}{F G:Fz}{h h':Heap}(l:F.le G){d:D}{a:Addr}(e:∀ o,h.get? a=some o->h'.get? a=some o)(x:Shal w F h d a):Shal w G h' d a:=by
 cases d with
 | list xs=>refine zj6 (x) fun hz vs n h1 h4=>?_;exact⟨hz,vs,n,e _ h1,RepL.mono l _ h4⟩
 | dict xs=>refine zj6 (x) fun hz vs n h1 h4=>?_;exact⟨hz,vs,n,e _ h1,RepKV.mono l _ h4.1,h4.2⟩
 | _=>exact x.elim
theorem Shal.there {w:wz}{F:Fz}{h:Heap}{d:D}{a:Addr}(x:Shal w F h d a):∃ o,h.get? a=some o:=by
 cases d with
 | list xs=>refine zj6 (x) fun _ _ _ h1 _=>?_;exact⟨_,h1⟩
 | dict xs=>refine zj6 (x) fun _ _ _ h1 _=>?_;exact⟨_,h1⟩
 | _=>exact x.elim
theorem Shal.freeze {w:wz}{F:Fz}{h:Heap}{d:D}{a:Addr}(x:Shal w F h d a)(hf:F a=none):∃ o,h.get? a=some o/\Rep w (F.add a o) d (.ref a):=by
 cases d with
 | list xs =>
  refine zj6 (x) fun hz vs n h1 h4=>?_
  exact Mini.iEA _ h1 (by simp only[zm8];exact⟨hz,Mini.iEEEEAAAA a _ vs n rfl (Fz.add_self ..) rfl rfl (RepL.mono (Fz.le_add _ hf) _ h4)⟩)
 | dict xs =>
  refine zj6 (x) fun hz vs n h1 h4=>?_
  exact Mini.iEA _ h1 (by simp only[zl8];exact⟨hz,Mini.iEEEAAA a vs n rfl (Fz.add_self ..) (RepKV.mono (Fz.le_add _ hf) _ h4.1) h4.2⟩)
 | _=>exact x.elim
noncomputable def Top (w:wz)(F:Fz)(h:Heap)(d:D)(v:qz):Prop:=Rep w F d v\/∃ a,v=.ref a/\Shal w F h d a
inductive Place where
 | loc (L:Addr) (x:Str)|cell (c:Addr)
noncomputable def Place.addr:Place->Addr
 | .loc L _=>L
 | .cell c=>c
noncomputable def Place.has (h:Heap):Place->Option qz->Prop
 | .loc L x,ov=>∃ m,h.Ns L m/\m x=ov
 | .cell c,ov=>h.IsCell c ov
theorem Place.has_keep {h h':Heap}{p:Place}{ov:Option qz}(x:p.has h ov)(e:∀ o,h.get? p.addr=some o->h'.get? p.addr=some o):p.has h' ov:=by
 cases p with
 | loc L y=>obtain ⟨m,⟨o,es,ep,ho,r⟩,q⟩:=x;exact⟨m,⟨o,es,ep,e _ ho,r⟩,q⟩
 | cell c=>refine elEA (x) fun o ho r=>?_;exact⟨o,e _ ho,r⟩
theorem Place.has_there {h:Heap}{p:Place}{ov:Option qz}(x:p.has h ov):∃ o,h.get? p.addr=some o:=by
 cases p with
 | loc L y=>obtain ⟨m,⟨o,es,ep,ho,r⟩,q⟩:=x;exact⟨o,ho⟩
 | cell c=>refine elEA (x) fun o ho r=>?_;exact⟨o,ho⟩
noncomputable def SlotOk (w:wz)(F:Fz)(h:Heap)(ov:Option qz):Option AV->Prop
 | none=>True
 | some (.val d)=>∃ v,ov=some v/\Rep w F d v
 | some (.own d)=>∃ a,ov=some (.ref a)/\F a=none/\Shal w F h d a
noncomputable def zw6 (vs:List (Option qz))(σ:Sg)(k:Nat)(a:Addr):Prop:=vs[k]?=some (some (.ref a))/\∃ d,σ[k]?=some (some (.own d))
structure Cx where
 prog:vw
 w:wz
 H:Heap
 F0:Fz
 mg:Str->Option qz
 mb:Str->Option qz
structure St (C:Cx)(X:Addr->Prop)(F:Fz)(h:Heap)(P:List Place)(vs:List (Option qz))(σ:Sg):Prop where
 sub:F.In h
 low:C.F0.le F
 base:∀ a o,C.H.get? a=some o->h.get? a=some o
 cov:∀ a o,C.H.get? a=some o->X a\/F a≠none
 xf:∀ a,X a->F a=none
 xal:∀ a,X a->∃ o,h.get? a=some o
 lenP:P.length=vs.length
 lenS:σ.length=vs.length
 has:∀(k:Nat)(p:Place)(ov:Option qz),P[k]?=some p->vs[k]?=some ov->p.has h ov
 slot:∀(k:Nat)(ov:Option qz)(av:Option AV),vs[k]?=some ov->σ[k]?=some av->SlotOk C.w F h ov av
 nodup:P.Nodup
 cont:∀ p∈P,F p.addr=none/\¬ X p.addr
 own:∀ k a,zw6 vs σ k a->¬ X a/\∀ p∈P,a≠p.addr
 inj:∀ j k a,zw6 vs σ j a->zw6 vs σ k a->j=k
noncomputable def ResOk (w:wz)(X:Addr->Prop)(F:Fz)(h:Heap)(P:List Place)(vs:List (Option qz))(σ:Sg)(v:qz)(d:D)(f:Bool):Prop :=
 if f then ∃ a,v=.ref a/\F a=none/\¬ X a/\(∀ p∈P,a≠p.addr)/\(∀ k,¬ zw6 vs σ k a)/\Shal w F h d a
 else Rep w F d v
noncomputable def XSame (X:Addr->Prop)(h h':Heap):Prop:=∀ a,X a->h'.get? a=h.get? a
theorem XSame.refl {X:Addr->Prop}{h:Heap}:XSame X h h:=fun _ _=>rfl
theorem XSame.trans {X:Addr->Prop}{h h' h'':Heap}(x:XSame X h h')(y:XSame X h' h''):XSame X h h'':=fun a e=>(y a e).trans (x a e)
theorem XSame.of_keep {X:Addr->Prop}{h h':Heap}(xal:∀ a,X a->∃ o,h.get? a=some o)(k:∀ a o,h.get? a=some o->h'.get? a=some o):XSame X h h' :=
 fun a e=>by obtain ⟨o,ho⟩:=xal a e;rw[ho,k a o ho]
section
variable {C:Cx}{w:wz}{X:Addr->Prop}{F F':Fz}{h h':Heap}{P:List Place}{vs:List (Option qz)}{σ:Sg}
theorem SlotOk.mono {ov:Option qz}{av:Option AV}(l:F.le F')(x:SlotOk w F h ov av)(e:∀ a d,ov=some (.ref a)->av=some (.own d)->F' a=none/\∀ o,h.get? a=some o->h'.get? a=some o):SlotOk w F' h' ov av:=by
 cases av with
 | none=>exact trivial
 | some av =>
  cases av with
  | val d=>refine elEA (x) fun v e1 r=>?_;exact⟨v,e1,Rep.mono l d r⟩
  | own d=>refine zx4 (x) fun a e1 r q=>?_;exact⟨a,e1,(e a d e1 rfl).1,q.mono l (e a d e1 rfl).2⟩
theorem St.grow (S:St C X F h P vs σ)(k:∀ a o,h.get? a=some o->h'.get? a=some o)(l:F.le F')(hin:F'.In h')(hnew:∀ a,F' a≠none->F a≠none\/h.get? a=none) :
  St C X F' h' P vs σ where
 sub:=hin
 low:=Fz.le.trans S.low l
 base:=fun a o e=>k a o (S.base a o e)
 cov:=fun a o e=>(S.cov a o e).imp id fun q=>by
  cases hq:F a with
  | none=>exact absurd hq q
  | some o'=>rw[l a o' hq];exact fun x=>nomatch x
 xf:=fun a e=>by
  cases hq:F' a with
  | none=>rfl
  | some o' =>
   rcases hnew a (by rw[hq];exact fun x=>nomatch x) with q|q
   ·exact absurd (S.xf a e) q
   ·obtain ⟨o,ho⟩:=S.xal a e;rw[q]at ho;cases ho
 xal:=fun a e=>let ⟨o,ho⟩:=S.xal a e; ⟨o,k a o ho⟩
 lenP:=S.lenP
 lenS:=S.lenS
 has:=fun i p ov e1 e2=>Place.has_keep (S.has i p ov e1 e2) fun o e=>k _ _ e
 slot:=fun i ov av e1 e2=>(S.slot i ov av e1 e2).mono l fun a d q1 q2=>by
  refine⟨?_,fun o e=>k a o e⟩
  subst q1 q2
  refine zx4 (S.slot i _ _ e1 e2) fun a' e' r q=>?_
  cases e'
  cases hq:F' a with
  | none=>rfl
  | some o' =>
   rcases hnew a (by rw[hq];exact fun x=>nomatch x) with q'|q'
   ·exact absurd r q'
   ·obtain ⟨o,ho⟩:=q.there
    rw[q']at ho;exact nomatch ho
 nodup:=S.nodup
 cont:=fun p hp=>by
  refine⟨?_,(S.cont p hp).2⟩
  cases hq:F' p.addr with
  | none=>rfl
  | some o' =>
   rcases hnew p.addr (by rw[hq];exact fun x=>nomatch x) with q|q
   ·exact absurd (S.cont p hp).1 q
   ·obtain ⟨i,hi⟩:=Q7.mp hp
    have hlt:i<vs.length:=by
     rw[<- S.lenP]
     exact(qV.mp hi).1
    obtain ⟨o,ho⟩:=Place.has_there (S.has i p vs[i] hi (qJ hlt))
    rw[q]at ho;exact nomatch ho
 own:=S.own
 inj:=S.inj
theorem St.grow0 (S:St C X F h P vs σ)(k:∀ a o,h.get? a=some o->h'.get? a=some o):St C X F h' P vs σ :=
 S.grow k (Fz.le_refl F) (fun a o e=>k a o (S.sub a o e)) fun _ e=>.inl e
theorem St.freeze (S:St C X F h P vs σ){a:Addr}{o:Obj}(ho:h.get? a=some o)(hf:F a=none)(hx:¬ X a)(hp:∀ p∈P,a≠p.addr)(hw:∀ k,¬ zw6 vs σ k a) :
  St C X (F.add a o) h P vs σ where
 sub:=Fz.in_add S.sub ho
 low:=Fz.le.trans S.low (Fz.le_add o hf)
 base:=S.base
 cov:=fun b o' e=>(S.cov b o' e).imp id fun q=>by
  by_cases hb:b=a
  ·subst hb;rw[Fz.add_self];exact fun x=>nomatch x
  ·rw[Fz.add_other F o hb];exact q
 xf:=fun b e=>by rw[Fz.add_other F o (by rintro rfl;exact hx e)];exact S.xf b e
 xal:=S.xal
 lenP:=S.lenP
 lenS:=S.lenS
 has:=S.has
 slot:=fun i ov av e1 e2=>(S.slot i ov av e1 e2).mono (Fz.le_add o hf) fun b d q1 q2=>⟨by
  subst q1 q2
  refine zx4 (S.slot i _ _ e1 e2) fun a' e' r q=>?_
  cases e'
  rw[Fz.add_other F o (by rintro rfl;exact hw i ⟨e1,_,e2⟩)];exact r,fun o e=>e⟩
 nodup:=S.nodup
 cont:=fun p hp'=>⟨by rw[Fz.add_other F o (y7 (hp p hp'))];exact(S.cont p hp').1,(S.cont p hp').2⟩
 own:=S.own
 inj:=S.inj
theorem St.freezeSlot (S:St C X F h P vs σ){k:Nat}{a:Addr}{d:D}(hv:vs[k]?=some (some (.ref a)))(hs:σ[k]?=some (some (.own d))) :
  ∃ o,St C X (F.add a o) h P vs (σ.set k (some (.val d)))/\Rep C.w (F.add a o) d (.ref a)/\F.le (F.add a o):=by
 refine zx4 (S.slot k _ _ hv hs) fun a' e' hf q=>?_
 cases e'
 refine elEA (q.freeze hf) fun o ho hr=>?_
 have hO:zw6 vs σ k a:=⟨hv,d,hs⟩
 have hklt:k<σ.length:=(qV.mp hs).1
 refine Mini.iEAA o ?_ hr (Fz.le_add o hf)
 have hsub:∀ i b,zw6 vs (σ.set k (some (.val d))) i b->i≠k/\zw6 vs σ i b:=by
  rintro i b ⟨h1,d',h2⟩
  by_cases hi:i=k
  ·subst hi;rw[wq hklt]at h2;cases h2
  ·rw[w8 (y7 hi)]at h2;exact⟨hi,h1,d',h2⟩
 exact {
  sub:=Fz.in_add S.sub ho
  low:=Fz.le.trans S.low (Fz.le_add o hf)
  base:=S.base
  cov:=fun b o' e=>(S.cov b o' e).imp id fun q=>by
   by_cases hb:b=a
   ·subst hb;rw[Fz.add_self];exact fun x=>nomatch x
   ·rw[Fz.add_other F o hb];exact q
  xf:=fun b e=>by rw[Fz.add_other F o (by rintro rfl;exact(S.own k _ hO).1 e)];exact S.xf b e
  xal:=S.xal
  lenP:=S.lenP
  lenS:=by rw[uQ];exact S.lenS
  has:=S.has
  slot:=fun i ov av e1 e2=>by
   by_cases hi:i=k
   ·subst hi
    rw[wq hklt]at e2
    rw[hv]at e1
    cases e1;cases e2
    exact⟨_,rfl,hr⟩
   ·rw[w8 (y7 hi)]at e2
    refine(S.slot i ov av e1 e2).mono (Fz.le_add o hf) fun b d' q1 q2=>⟨?_,fun o e=>e⟩
    subst q1 q2
    refine zx4 (S.slot i _ _ e1 e2) fun a' e' r _=>?_
    cases e'
    rw[Fz.add_other F o (by rintro rfl;exact hi (S.inj i k _ ⟨e1,_,e2⟩ hO))];exact r
  nodup:=S.nodup
  cont:=fun p hp'=>⟨by rw[Fz.add_other F o (y7 ((S.own k a hO).2 p hp'))];exact(S.cont p hp').1,(S.cont p hp').2⟩
  own:=fun i b hb=>S.own i b (hsub i b hb).2
  inj:=fun i j b hi hj=>S.inj i j b (hsub i b hi).2 (hsub j b hj).2 }
theorem St.upd (S:St C X F h P vs σ){k:Nat}{a:Addr}{d d':D}(hv:vs[k]?=some (some (.ref a)))(hs:σ[k]?=some (some (.own d)))
  (hsame:∀ b,b≠a->h'.get? b=h.get? b) (hd:Shal C.w F h' d' a) (hH:C.H.get? a=none):St C X F h' P vs (σ.set k (some (.own d'))):=by
 refine zx4 (S.slot k _ _ hv hs) fun a' e' hf q=>?_
 cases e'
 have hO:zw6 vs σ k a:=⟨hv,d,hs⟩
 have hklt:k<σ.length:=(qV.mp hs).1
 have hsub:∀ i b,zw6 vs (σ.set k (some (.own d'))) i b->zw6 vs σ i b:=by
  rintro i b ⟨h1,d'',h2⟩
  by_cases hi:i=k
  ·subst hi;rw[hv]at h1;cases h1;exact hO
  ·rw[w8 (y7 hi)]at h2;exact⟨h1,d'',h2⟩
 exact {
  sub:=fun b o e=>by rw[hsame b (fun q=>by subst q;rw[hf]at e;cases e)];exact S.sub b o e
  low:=S.low
  base:=fun b o e=>by rw[hsame b (fun q=>by subst q;rw[hH]at e;cases e)];exact S.base b o e
  cov:=S.cov
  xf:=S.xf
  xal:=fun b e=>by rw[hsame b (by rintro rfl;exact(S.own k _ hO).1 e)];exact S.xal b e
  lenP:=S.lenP
  lenS:=by rw[uQ];exact S.lenS
  has:=fun i p ov e1 e2=>Place.has_keep (S.has i p ov e1 e2) fun o e=>by
   rw[hsame _ (y7 ((S.own k a hO).2 p (xZ e1)))];exact e
  slot:=fun i ov av e1 e2=>by
   by_cases hi:i=k
   ·subst hi
    rw[wq hklt]at e2
    rw[hv]at e1
    cases e1;cases e2
    exact⟨_,rfl,hf,hd⟩
   ·rw[w8 (y7 hi)]at e2
    refine(S.slot i ov av e1 e2).mono (Fz.le_refl F) fun b d'' q1 q2=>?_
    subst q1 q2
    refine zx4 (S.slot i _ _ e1 e2) fun a' e' r _=>?_
    cases e'
    exact⟨r,fun o e=>by rw[hsame _ (by rintro rfl;exact hi (S.inj i k _ ⟨e1,_,e2⟩ hO))];exact e⟩
  nodup:=S.nodup
  cont:=S.cont
  own:=fun i b hb=>S.own i b (hsub i b hb)
  inj:=fun i j b hi hj=>S.inj i j b (hsub i b hi) (hsub j b hj) }
theorem St.look (S:St C X F h P vs σ){k:Nat}{d:D}(e:look σ k=some d):∃ v,vs[k]?=some (some v)/\Top C.w F h d v:=by
 unfold Mini.look at e
 cases hs:σ[k]? with
 | none=>rw[hs]at e;cases e
 | some o =>
 rw[hs]at e
 cases o with
 | none=>cases e
 | some a =>
 cases a with
 | val d' =>
  cases e
  have hlt:k<vs.length:=by rw[<- S.lenS];exact(qV.mp hs).1
  refine elEA (S.slot k vs[k] _ (qJ hlt) hs) fun v e1 r=>?_
  exact Mini.iEA v (by rw[qJ hlt,e1]) (.inl r)
 | own d' =>
  cases e
  have hlt:k<vs.length:=by rw[<- S.lenS];exact(qV.mp hs).1
  refine zx4 (S.slot k vs[k] _ (qJ hlt) hs) fun a e1 _ r=>?_
  exact Mini.iEA (.ref a) (by rw[qJ hlt,e1]) (.inr (Mini.iEA a rfl r))
theorem ResOk.freeze (S:St C X F h P vs σ){v:qz}{d:D}{f:Bool}(r:ResOk C.w X F h P vs σ v d f):∃ F',F.le F'/\St C X F' h P vs σ/\Rep C.w F' d v:=by
 cases f with
 | false=>exact Mini.iEAA F (Fz.le_refl F) S r
 | true =>
  (refine zr8 (r) fun a e_1 hf hx hp hw q=>?_;subst e_1)
  refine elEA (q.freeze hf) fun o ho hr=>?_
  exact Mini.iEAA (F.add a o) (Fz.le_add o hf) (S.freeze ho hf hx hp hw) hr
end
section
variable {C:Cx}{X Y:Addr->Prop}{F F':Fz}{h h':Heap}{P:List Place}{vs:List (Option qz)}{σ:Sg}
theorem St.noH_place (S:St C X F h P vs σ){p:Place}(hp:p∈P):C.H.get? p.addr=none:=by
 cases e:C.H.get? p.addr with
 | none=>rfl
 | some o=>exact(S.cov _ _ e).elim (fun q=>absurd q (S.cont p hp).2) fun q=>absurd (S.cont p hp).1 q
theorem St.own_free (S:St C X F h P vs σ){k:Nat}{a:Addr}(ho:zw6 vs σ k a):F a=none/\C.H.get? a=none:=by
 refine elAE (ho) fun h1 d h2=>?_
 refine zx4 (S.slot k _ _ h1 h2) fun a' e' hf _=>?_
 cases e'
 refine⟨hf,?_⟩
 cases e:C.H.get? a with
 | none=>rfl
 | some o=>exact(S.cov _ _ e).elim (fun q=>absurd q (S.own k a ⟨h1,d,h2⟩).1) fun q=>absurd hf q
theorem St.placeAt (S:St C X F h P vs σ){k:Nat}{p:Place}(hp:P[k]?=some p):∃ ov,vs[k]?=some ov/\p.has h ov:=by
 have hlt:k<vs.length:=by rw[<- S.lenP];exact(qV.mp hp).1
 exact Mini.iEA (vs[k]) (qJ hlt) (S.has k p _ hp (qJ hlt))
theorem yz0 {σ:Sg}{k:Nat}{d:D}{f:Bool}(h:k<σ.length):(put σ k d f)[k]?=some (some (if f then .own d else .val d)):=by
 unfold Mini.put;rw[wq h]
theorem yp3 {σ:Sg}{k i:Nat}{d:D}{f:Bool}(h:i≠k):(put σ k d f)[i]?=σ[i]?:=by
 unfold Mini.put;rw[w8 (y7 h)]
theorem St.store (S:St C X F h P vs σ){k:Nat}{p:Place}{v:qz}{d:D}{f:Bool}(hp:P[k]?=some p)(r:ResOk C.w X F h P vs σ v d f)
  (hsame:∀ b,b≠p.addr->h'.get? b=h.get? b) (hk:p.has h' (some v)) (ho:∀ i q ov,i≠k->P[i]?=some q->q.addr=p.addr->q.has h ov->q.has h' ov) :
  St C X F h' P (vs.set k (some v)) (put σ k d f):=by
 have hpm:p∈P:=xZ hp
 have hklt:k<vs.length:=by rw[<- S.lenP];exact(qV.mp hp).1
 have hklt':k<σ.length:=by rw[S.lenS];exact hklt
 have hne:∀ a,F a≠none->a≠p.addr:=fun a e q=>e (q▸(S.cont p hpm).1)
 have hshal:∀ a dd,(∀ q∈P,a≠q.addr)->Shal C.w F h dd a->Shal C.w F h' dd a:=fun a dd hq x=>x.mono (Fz.le_refl F) fun o e=>by rw[hsame a (hq p hpm)];exact e
 have hsub:∀ i a,zw6 (vs.set k (some v)) (put σ k d f) i a->(i≠k/\zw6 vs σ i a)\/(i=k/\v=.ref a/\f=true):=by
  rintro i a ⟨h1,d',h2⟩
  by_cases hi:i=k
  ·subst hi
   rw[yz0 hklt']at h2
   rw[wq hklt]at h1
   cases f with
   | false=>cases h2
   | true=>cases h1;exact .inr (Mini.iAA rfl rfl rfl)
  ·rw[yp3 hi]at h2
   rw[w8 (y7 hi)]at h1
   exact .inl ⟨hi,h1,d',h2⟩
 have hnew:∀ a,v=.ref a->f=true->F a=none/\¬ X a/\(∀ q∈P,a≠q.addr)/\(∀ i,¬ zw6 vs σ i a)/\Shal C.w F h d a:=by
  rintro a rfl rfl
  (refine elEA (r) fun a' e' r_n=>?_;clear r;revert r_n;intro r)
  cases e';exact r
 exact {
  sub:=fun a o e=>by rw[hsame a (hne a (by rw[e];exact fun x=>nomatch x))];exact S.sub a o e
  low:=S.low
  base:=fun a o e=>by rw[hsame a (by rintro rfl;rw[S.noH_place hpm]at e;cases e)];exact S.base a o e
  cov:=S.cov
  xf:=S.xf
  xal:=fun a e=>by rw[hsame a (by rintro rfl;exact(S.cont p hpm).2 e)];exact S.xal a e
  lenP:=by rw[uQ];exact S.lenP
  lenS:=by unfold Mini.put;rw[uQ,uQ];exact S.lenS
  has:=fun i q ov e1 e2=>by
   by_cases hi:i=k
   ·subst hi
    rw[hp]at e1
    rw[wq hklt]at e2
    cases e1;cases e2;exact hk
   ·rw[w8 (y7 hi)]at e2
    by_cases hq:q.addr=p.addr
    ·exact ho i q ov hi e1 hq (S.has i q ov e1 e2)
    ·exact Place.has_keep (S.has i q ov e1 e2) fun o e=>by rw[hsame _ hq];exact e
  slot:=fun i ov av e1 e2=>by
   by_cases hi:i=k
   ·subst hi
    rw[yz0 hklt']at e2
    rw[wq hklt]at e1
    cases e1;cases e2
    cases f with
    | false=>exact⟨v,rfl,r⟩
    | true =>
     (refine zr8 (r) fun a e_1 r1 _ r3 _ r5=>?_;subst e_1)
     exact⟨a,rfl,r1,hshal a d r3 r5⟩
   ·rw[yp3 hi]at e2
    rw[w8 (y7 hi)]at e1
    refine(S.slot i ov av e1 e2).mono (Fz.le_refl F) fun a d' q1 q2=>?_
    subst q1 q2
    have hO:zw6 vs σ i a:=⟨e1,_,e2⟩
    exact⟨(S.own_free hO).1,fun o e=>by rw[hsame _ ((S.own i a hO).2 p hpm)];exact e⟩
  nodup:=S.nodup
  cont:=S.cont
  own:=fun i a hO=>by
   rcases hsub i a hO with ⟨_,q⟩|⟨_,q1,q2⟩
   ·exact S.own i a q
   ·exact⟨(hnew a q1 q2).2.1,(hnew a q1 q2).2.2.1⟩
  inj:=fun i j a hi hj=>by
   rcases hsub i a hi with ⟨q0,q⟩|⟨q0,q1,q2⟩<;>rcases hsub j a hj with ⟨p0,p'⟩|⟨p0,p1,p2⟩
   ·exact S.inj i j a q p'
   ·exact absurd q ((hnew a p1 p2).2.2.2.1 i)
   ·exact absurd p' ((hnew a q1 q2).2.2.2.1 j)
   ·rw[q0,p0] }
theorem St.addX (S:St C X F h P vs σ)(hy:∀ a,Y a->X a\/(F a=none/\(∃ o,h.get? a=some o)/\(∀ p∈P,a≠p.addr)/\∀ k,¬ zw6 vs σ k a))(hxy:∀ a,X a->Y a):St C Y F h P vs σ where
 sub:=S.sub
 low:=S.low
 base:=S.base
 cov:=fun a o e=>(S.cov a o e).imp (hxy a) id
 xf:=fun a e=>(hy a e).elim (S.xf a) fun q=>q.1
 xal:=fun a e=>(hy a e).elim (S.xal a) fun q=>q.2.1
 lenP:=S.lenP
 lenS:=S.lenS
 has:=S.has
 slot:=S.slot
 nodup:=S.nodup
 cont:=fun p hp=>⟨(S.cont p hp).1,fun e=>(hy _ e).elim (S.cont p hp).2 fun q=>q.2.2.1 p hp rfl⟩
 own:=fun k a ho=>⟨fun e=>(hy _ e).elim (S.own k a ho).1 fun q=>q.2.2.2 k ho,(S.own k a ho).2⟩
 inj:=S.inj
theorem St.dropX (S:St C Y F h P vs σ)(hxy:∀ a,X a->Y a)(hc:∀ a o,C.H.get? a=some o->X a\/F a≠none):St C X F h P vs σ where
 sub:=S.sub
 low:=S.low
 base:=S.base
 cov:=hc
 xf:=fun a e=>S.xf a (hxy a e)
 xal:=fun a e=>S.xal a (hxy a e)
 lenP:=S.lenP
 lenS:=S.lenS
 has:=S.has
 slot:=S.slot
 nodup:=S.nodup
 cont:=fun p hp=>⟨(S.cont p hp).1,fun e=>(S.cont p hp).2 (hxy _ e)⟩
 own:=fun k a ho=>⟨fun e=>(S.own k a ho).1 (hxy _ e),(S.own k a ho).2⟩
 inj:=S.inj
theorem zn0 {G:Fz}(l:F.le G)(hc:∀ a o,C.H.get? a=some o->X a\/F a≠none):∀ a o,C.H.get? a=some o->X a\/G a≠none :=
 fun a o e=>(hc a o e).imp id fun q=>by
  cases hq:F a with
  | none=>exact absurd hq q
  | some o'=>rw[l a o' hq];exact fun x=>nomatch x
theorem zr9 {ws:List (Option qz)}{τ:Sg}(hl:σ.length=vs.length)(ht:∀ av∈τ,∀ d,av≠some (.own d)){k:Nat}{a:Addr}(ho:zw6 (vs++ws) (σ++τ) k a):zw6 vs σ k a:=by
 refine elAE (ho) fun h1 d h2=>?_
 by_cases hk:k<vs.length
 ·rw[xX hk]at h1
  rw[xX (by rw[hl];exact hk)]at h2
  exact⟨h1,d,h2⟩
 ·rw[wK (by rw[hl];exact z9 hk)]at h2
  exact absurd rfl (ht _ (xZ h2) d)
theorem St.extend (S:St C X F h P vs σ){Q:List Place}{ws:List (Option qz)}{τ:Sg}(hl:Q.length=ws.length)(hl':τ.length=ws.length)
  (hh:∀(i:Nat)(q:Place)(ov:Option qz),Q[i]?=some q->ws[i]?=some ov->q.has h ov) (hs:∀(i:Nat)(ov:Option qz)(av:Option AV),ws[i]?=some ov->τ[i]?=some av->SlotOk C.w F h ov av)
  (ht:∀ av∈τ,∀ d,av≠some (.own d)) (hn:(P++Q).Nodup) (hc:∀ q∈Q,F q.addr=none/\¬ X q.addr) (ho:∀ k a,zw6 vs σ k a->∀ q∈Q,a≠q.addr) :
  St C X F h (P++Q) (vs++ws) (σ++τ) where
 sub:=S.sub
 low:=S.low
 base:=S.base
 cov:=S.cov
 xf:=S.xf
 xal:=S.xal
 lenP:=by simp[S.lenP,hl]
 lenS:=by simp[S.lenS,hl']
 has:=fun i p ov e1 e2=>by
  by_cases hi:i<vs.length
  ·rw[xX (by rw[S.lenP];exact hi)]at e1
   rw[xX hi]at e2
   exact S.has i p ov e1 e2
  ·rw[wK (by rw[S.lenP];exact z9 hi),S.lenP]at e1
   rw[wK (z9 hi)]at e2
   exact hh _ p ov e1 e2
 slot:=fun i ov av e1 e2=>by
  by_cases hi:i<vs.length
  ·rw[xX hi]at e1
   rw[xX (by rw[S.lenS];exact hi)]at e2
   exact S.slot i ov av e1 e2
  ·rw[wK (z9 hi)]at e1
   rw[wK (by rw[S.lenS];exact z9 hi),S.lenS]at e2
   exact hs _ ov av e1 e2
 nodup:=hn
 cont:=fun p hp=>(z6.mp hp).elim (S.cont p) (hc p)
 own:=fun k a hO=>by
  have q:=zr9 S.lenS ht hO
  exact⟨(S.own k a q).1,fun p hp=>(z6.mp hp).elim ((S.own k a q).2 p) (ho k a q p)⟩
 inj:=fun i j a hi hj=>S.inj i j a (zr9 S.lenS ht hi) (zr9 S.lenS ht hj)
theorem zi5 {ws:List (Option qz)}{n:Nat}(hn:n=vs.length){k:Nat}{a:Addr}(ho:zw6 vs (σ.take n) k a):zw6 (vs++ws) σ k a:=by
 refine elAE (ho) fun h1 d h2=>?_
 have hk:k<n:=by
  by_cases hk:k<n
  ·exact hk
  ·rw[List.getElem?_eq_none (by simp;exact qv (j5 ..) (z9 hk))]at h2;cases h2
 rw[List.getElem?_take_of_lt hk]at h2
 exact⟨by rw[xX (hn▸hk)];exact h1,d,h2⟩
theorem St.shrink {Q:List Place}{ws:List (Option qz)}(S:St C X F h (P++Q) (vs++ws) σ)(hl:P.length=vs.length){n:Nat}(hn:n=vs.length):St C X F h P vs (σ.take n) where
 sub:=S.sub
 low:=S.low
 base:=S.base
 cov:=S.cov
 xf:=S.xf
 xal:=S.xal
 lenP:=hl
 lenS:=by rw[Z2,S.lenS];simp;rw[hn];exact wV (qk ..)
 has:=fun i p ov e1 e2=>S.has i p ov (by rw[xX (qV.mp e1).1];exact e1) (by rw[xX (qV.mp e2).1];exact e2)
 slot:=fun i ov av e1 e2=>by
  have hi:=(qV.mp e1).1
  rw[List.getElem?_take_of_lt (hn▸hi)]at e2
  exact S.slot i ov av (by rw[xX hi];exact e1) e2
 nodup:=(ux.mp S.nodup).1
 cont:=fun p hp=>S.cont p (u7 _ hp)
 own:=fun k a ho=>by
  have q:=zi5 (ws:=ws) hn ho
  exact⟨(S.own k a q).1,fun p hp=>(S.own k a q).2 p (u7 _ hp)⟩
 inj:=fun i j a hi hj=>S.inj i j a (zi5 hn hi) (zi5 hn hj)
noncomputable def Hold (F:Fz)(h:Heap):Addr->Prop:=fun a=>F a=none/\∃ o,h.get? a=some o
theorem St.bare (S:St C X F h P vs σ):St C (Hold F h) F h [] [] [] where
 sub:=S.sub
 low:=S.low
 base:=S.base
 cov:=fun a o e=>by
  cases hq:F a with
  | none=>exact .inl ⟨hq,o,S.base a o e⟩
  | some o'=>exact .inr (fun x=>nomatch x)
 xf:=fun a e=>e.1
 xal:=fun a e=>e.2
 lenP:=rfl
 lenS:=rfl
 has:=fun i p ov e1 _=>by simp at e1
 slot:=fun i p ov e1 _=>by simp at e1
 nodup:=kJ
 cont:=fun p hp=>nomatch hp
 own:=fun k a ho=>by simp[zw6]at ho
 inj:=fun i j a ho _=>by simp[zw6]at ho
theorem St.back (S:St C X F h P vs σ)(S':St C (Hold F h) F' h' [] [] [])(l:F.le F')(x:XSame (Hold F h) h h'):St C X F' h' P vs σ:=by
 refine S.grow (fun a o e=>?_) l S'.sub fun a e=>?_
 ·cases hq:F a with
  | none=>rw[x a ⟨hq,o,e⟩];exact e
  | some o' =>
   have:=S.sub a o' hq
   rw[this]at e;cases e
   exact S'.sub a _ (l a _ hq)
 ·cases hq:F a with
  | some o'=>exact .inl (fun y=>nomatch y)
  | none =>
   right
   cases hh:h.get? a with
   | none=>rfl
   | some o=>exact absurd (S'.xf a ⟨hq,o,hh⟩) e
theorem XSame.back (S:St C X F h P vs σ)(x:XSame (Hold F h) h h'):XSame X h h':=fun a e=>x a ⟨S.xf a e,S.xal a e⟩
theorem ResOk.back (S:St C X F h P vs σ){v:qz}{d:D}{f:Bool}(r:ResOk C.w (Hold F h) F' h' [] [] [] v d f):ResOk C.w X F' h' P vs σ v d f:=by
 cases f with
 | false=>exact r
 | true =>
  (refine zr8 (r) fun a e_1 h1 h2 _ _ h5=>?_;subst e_1)
  have hno:F a=none->h.get? a=none:=fun q=>by
   cases hh:h.get? a with
   | none=>rfl
   | some o=>exact absurd ⟨q,o,hh⟩ h2
  refine⟨a,rfl,h1,fun e=>h2 ⟨S.xf a e,S.xal a e⟩,fun p hp q=>?_,fun k ho=>?_,h5⟩
  ·subst q
   obtain ⟨i,hi⟩:=Q7.mp hp
   refine elEA (S.placeAt hi) fun ov _ hh=>?_
   obtain ⟨o,ho⟩:=Place.has_there hh
   exact h2 ⟨(S.cont p hp).1,o,ho⟩
  ·refine elAE (ho) fun q1 d' q2=>?_
   refine zx4 (S.slot k _ _ q1 q2) fun a' e' hf q=>?_
   cases e'
   obtain ⟨o,ho⟩:=q.there
   exact h2 ⟨hf,o,ho⟩
end
structure EnvOk (env:xy)(sc:x9)(ν:Nu)(P:List Place):Prop where
 kind:env.scope.kind=.function
 glob:env.globals=mainGlobals
 blt:env.builtins=builtinsNs
 slot:∀(x:Str)(k:Nat),ν x=some k->(env.kindOf x=some .local/\P[k]?=some (.loc env.locals x)) \/
  ((env.kindOf x=some .cell\/env.kindOf x=some .free)/\∃ c,env.cells.lookup x=some c/\P[k]?=some (.cell c))
 gl:∀ x,sc.names.lookup x=some .globalImplicit->env.kindOf x=some .globalImplicit
 cell:∀ x,sc.names.lookup x=some .cell->env.kindOf x=some .cell/\∃ c,env.cells.lookup x=some c
theorem xi3 {h:Heap}{a:Addr}{m m':Str->Option qz}(x:h.Ns a m)(y:h.Ns a m'):m=m':=by
 refine zd8 (x) fun o es ep h1 h2 _ h4=>?_
 refine zd8 (y) fun o' es' ep' k1 k2 _ k4=>?_
 rw[h1]at k1;cases k1
 rw[h2]at k2;cases k2
 funext n;rw[<- h4,<- k4]
section
variable {C:Cx}{M:Model}{A:zJ}{E:qz->qw->Prop}{s:qw}{env:xy}{sc:x9}{ν:Nu}{X:Addr->Prop}{F:Fz}{P:List Place}{vs:List (Option qz)}{σ:Sg}
theorem zk7 {x:Str}(h:zm0 x=true):(x==("__debug__" : Str))=false:=by
 unfold zm0 at h;simp only[zj,bne_iff_ne,ne_eq]at h;simpa using h.1
theorem yy0 {x:Str}(h:zm0 x=true):(x==("__classdict__" : Str))=false:=by
 unfold zm0 at h;simp only[zj,bne_iff_ne,ne_eq]at h;simpa using h.2
theorem xh4 (O:EnvOk env sc ν P)(S:St C X F s.heap P vs σ){x:Str}{k:Nat}{v:qz}(hx:ν x=some k)(hv:vs[k]?=some (some v))(hn:zm0 x=true){Q:qz->qw->Prop}(h:Q v s) :
  qK M A (loadName env x) Q E s:=by
 rcases O.slot x k hx with ⟨h1,h2⟩|⟨h1,c,h2,h3⟩
 ·refine elEA (S.has k _ _ h2 hv) fun m hns hm=>?_
  exact wpAny_loadName_local O.kind h1 hns hm h
 ·have hc:s.heap.IsCell c (some v):=S.has k _ _ h3 hv
  rcases h1 with h1|h1
  ·exact wpAny_loadName_cell O.kind h1 h2 hc h
  ·exact wpAny_loadName_free O.kind h1 h2 hc h (yy0 hn)
theorem zv9 (O:EnvOk env sc ν P)(S:St C X F s.heap P vs σ){x:Str}{k:Nat}{v:qz}{pos:Pos}(hx:ν x=some k)(hv:vs[k]?=some (some v))(hn:zm0 x=true){Q:qz->qw->Prop}(h:Q v s) :
  qK M A (eval (.Name x pos) env) Q E s:=wpAny_Name (xh4 O S hx hv hn h) (zk7 hn)
theorem zs5 (O:EnvOk env sc ν P)(S:St C X F s.heap P vs σ){x:Str}{k:Nat}{v:qz}{d:D}{f:Bool}(hx:ν x=some k)(r:ResOk C.w X F s.heap P vs σ v d f)
  (hfree:env.kindOf x≠some .free) {Q:Unit->qw->Prop}
  (h:∀ h' tk,St C X F h' P (vs.set k (some v)) (put σ k d f)->XSame X s.heap h'->Q () { s with heap:=h',toks:=tk }):qK M A (storeName env x v) Q E s:=by
 rcases O.slot x k hx with ⟨h1,h2⟩|⟨h1,c,h2,h3⟩
 ·refine wr5 (S.placeAt h2) fun ov hov m hns hm=>?_
  refine wpAny_storeName_local h1 hns (fun h' hns' hsb=>?_) (by rw[O.kind];rfl)
  refine h h' _ (S.store h2 r (fun b hb=>hsb.2 b hb) ⟨_,hns',by simp⟩ fun i q ov hi hq ha hh=>?_) fun a ha=>hsb.2 a ?_
  ·cases q with
   | cell c =>
    refine elEA (hh) fun o ho hd=>?_
    refine xe9 (hns) fun o' es ep ho' hd' _=>?_
    have ha:c=env.locals:=ha
    subst ha
    rw[ho']at ho;cases ho;rw[hd']at hd;cases hd
   | loc L y =>
    have ha:L=env.locals:=ha
    subst ha
    refine elEA (hh) fun m' hns2 hm2=>?_
    have:=xi3 hns hns2
    subst this
    refine⟨_,hns',?_⟩
    have hy:y≠x:=by
     rintro rfl
     have hlt:=(qV.mp hq).1
     exact hi ((List.getElem?_inj hlt S.nodup).mp (hq.trans h2.symm))
    simp only[if_neg hy];exact hm2
  ·rintro rfl
   exact(S.cont _ (xZ h2)).2 ha
 ·have h1:env.kindOf x=some .cell:=h1.resolve_right hfree
  refine elEA (S.placeAt h3) fun ov hov hc=>?_
  refine wpAny_storeName_cell O.kind h1 h2 hc fun h' hc' hsb=>?_
  refine h h' s.toks (S.store h3 r (fun b hb=>hsb.2 b hb) hc' fun i q ov hi hq ha hh=>?_) fun a ha=>hsb.2 a ?_
  ·cases q with
   | cell c' =>
    have ha:c'=c:=ha
    subst ha
    have hlt:=(qV.mp hq).1
    exact absurd ((List.getElem?_inj hlt S.nodup).mp (hq.trans h3.symm)) hi
   | loc L y =>
    have ha:L=c:=ha
    subst ha
    obtain ⟨m',⟨o,es,ep,ho,hd,_⟩,_⟩:=hh
    refine elEA (hc) fun o' ho' hd'=>?_
    rw[ho]at ho';cases ho';rw[hd]at hd';cases hd'
  ·rintro rfl
   exact(S.cont _ (xZ h3)).2 ha
end
section
variable {w:wz}{F:Fz}{h:Heap}
theorem xq2 {d:D}{v:qz}(r:Rep w F d v):Top w F h d v:=.inl r
@[elab_as_elim] theorem Top.noneK {v:qz}(x:Top w F h .none v){P:qz->Prop}(k:P .none):P v :=
 x.elim (fun r=>Eq.symm r▸k) fun ⟨_,_,q⟩=>q.elim
@[elab_as_elim] theorem Top.boolK {v:qz}{b:Bool}(x:Top w F h (.bool b) v){P:qz->Prop}(k:P (.bool b)):P v :=
 x.elim (fun r=>Eq.symm r▸k) fun ⟨_,_,q⟩=>q.elim
@[elab_as_elim] theorem Top.intK {v:qz}{i:Int}(x:Top w F h (.int i) v){P:qz->Prop}(k:∀ t,P (.int i t)):P v :=
 x.elim (fun r=>Exists.elim r fun t e=>e▸k t) fun ⟨_,_,q⟩=>q.elim
@[elab_as_elim] theorem Top.strK {v:qz}{i:Str}(x:Top w F h (.str i) v){P:qz->Prop}(k:∀ t,P (.str i t)):P v :=
 x.elim (fun r=>Exists.elim r fun t e=>e▸k t) fun ⟨_,_,q⟩=>q.elim
@[elab_as_elim] theorem Top.listK {v:qz}{xs:List D}(x:Top w F h (.list xs) v)(hin:F.In h){P:qz->Prop}(k:xs.length<=size->∀ a o vs n,h.get? a=some o->o.cls=.type "list" -> o.data=.seq vs n->RepL w F xs vs.toList->P (.ref a)):P v :=
 x.elim (fun r=>zv4 r fun hz a o vs n e h1 hc hd h2=>Eq.symm e▸k hz a o vs n (hin _ _ h1) hc hd h2)
  fun r=>elEA r fun a e q=>zj6 q fun hz vs n h1 h2=>Eq.symm e▸k hz a _ vs n h1 rfl rfl h2
@[elab_as_elim] theorem Top.lisK {v:qz}{xs:List D}(x:Top w F h (.list xs) v)(hin:F.In h){P:qz->Prop}(k:xs.length<=size->∀ a dd sl vs n,h.get? a=some ⟨.type "list", dd,.seq vs n,sl⟩->RepL w F xs vs.toList->P (.ref a)):P v :=
 x.listK hin fun hz a o vs n h1 hc hd h2=>k hz a o.dict o.slots vs n (by rw[h1,<- hc,<- hd]) h2
@[elab_as_elim] theorem Top.tupK {v:qz}{xs:List D}(x:Top w F h (.tuple xs) v)(hin:F.In h){P:qz->Prop}(k:xs.length<=size->∀ a vs n,F a=some (tobj vs n)->h.get? a=some (tobj vs n)->RepL w F xs vs.toList->P (.ref a)):P v :=
 x.elim (fun r=>zu6 r fun hz a vs n e h1 h2=>Eq.symm e▸k hz a vs n h1 (hin _ _ h1) h2) fun ⟨_,_,q⟩=>q.elim
@[elab_as_elim] theorem Top.dicK {v:qz}{xs:List (D×D)}(x:Top w F h (.dict xs) v)(hin:F.In h){P:qz->Prop}(k:xw2 xs->∀ a es n,h.get? a=some (dobj es n)->RepKV w F xs es.toList->uJ<a->P (.ref a)):P v :=
 x.elim (fun r=>ys2 r fun hz a vs n e h1 h2 h3=>Eq.symm e▸k hz a vs n (hin _ _ h1) h2 h3)
  fun r=>elEA r fun a e q=>xx2 q fun hz vs n h1 h2 h3=>Eq.symm e▸k hz a vs n h1 h2 h3
mutual
theorem Rep.reads (hin:F.In h):∀(d:D){v:qz},Rep w F d v->∃ as,Reads h v d as
 | .none,_,r=>by simp only[za1]at r;subst r;exact⟨_,.none⟩
 | .bool _,_,r=>by simp only[za2]at r;subst r;exact⟨_,.bool _⟩
 | .int _,_,r=>by simp only[zq2]at r;obtain ⟨t,rfl⟩:=r;exact⟨_,.int _ _⟩
 | .str _,_,r=>by simp only[zj8]at r;obtain ⟨t,rfl⟩:=r;exact⟨_,.str _ _⟩
 | .list xs,_,r=>by
  simp only[zm8]at r
  (refine zv4 (r) fun _ a o vs n e_5 h1 hc hd h2=>?_;subst e_5)
  obtain ⟨as,q⟩:=RepL.reads hin xs h2
  exact⟨_,.list (hin _ _ h1) hc hd q⟩
 | .tuple xs,_,r=>by
  simp only[zr4]at r
  (refine zu6 (r) fun _ a vs n e_4 h1 h2=>?_;subst e_4)
  obtain ⟨as,q⟩:=RepL.reads hin xs h2
  exact⟨_,.tuple (hin _ _ h1) rfl rfl q⟩
 | .dict kvs,_,r=>by
  simp only[zl8]at r
  (refine ys2 (r) fun _ a es n e_4 h1 h2 _=>?_;subst e_4)
  obtain ⟨⟨as,q⟩,bs,q'⟩:=RepKV.reads hin kvs h2
  exact⟨_,.dict (hin _ _ h1) rfl rfl q q'⟩
theorem RepL.reads (hin:F.In h):∀(ds:List D){vs:List qz},RepL w F ds vs->∃ as,ReadsAll h vs ds as
 | [],_,r=>by simp only[zs4]at r;subst r;exact⟨_,.nil⟩
 | d::ds,_,r=>by
  simp only[zv1]at r
  (refine elEEAA (r) fun v t e_2 h1 h2=>?_;subst e_2)
  obtain ⟨as,q⟩:=Rep.reads hin d h1
  obtain ⟨bs,q'⟩:=RepL.reads hin ds h2
  exact⟨_,.cons q q'⟩
theorem RepKV.reads (hin:F.In h):∀(ds:List (D×D)){es:List j3},RepKV w F ds es->(∃ as,ReadsAll h (es.map (·.key)) (ds.map (·.1)) as)/\∃ bs,ReadsAll h (es.map (·.val)) (ds.map (·.2)) bs
 | [],_,r=>by simp only[zf7]at r;subst r;exact⟨⟨_,.nil⟩,⟨_,.nil⟩⟩
 | p::ds,_,r=>by
  simp only[zl9]at r
  (refine elEEAA (r) fun e t e_2 h1 h2=>?_;subst e_2)
  obtain ⟨⟨as,q⟩,bs,q'⟩:=RepP.reads hin p h1
  obtain ⟨⟨as',p1⟩,bs',p2⟩:=RepKV.reads hin ds h2
  exact⟨⟨_,.cons q p1⟩,⟨_,.cons q' p2⟩⟩
theorem RepP.reads (hin:F.In h):∀(d:D×D){e:j3},RepP w F d e->(∃ as,Reads h e.key d.1 as)/\∃ bs,Reads h e.val d.2 bs
 | (k,v),_,r=>by
  simp only[yr2]at r
  exact⟨Rep.reads hin k r.2.1,Rep.reads hin v r.2.2⟩
end
theorem Top.reads (hin:F.In h){d:D}{v:qz}(x:Top w F h d v):∃ as,Reads h v d as:=by
 rcases x with r|⟨a,rfl,q⟩
 ·exact Rep.reads hin d r
 ·cases d with
  | list xs =>
   refine zj6 (q) fun _ vs n h1 h2=>?_
   obtain ⟨as,q⟩:=RepL.reads hin xs h2
   exact⟨_,.list h1 rfl rfl q⟩
  | dict kvs =>
   refine xx2 (q) fun _ vs n h1 h2 _=>?_
   obtain ⟨⟨as,q⟩,bs,q'⟩:=RepKV.reads hin kvs h2
   exact⟨_,.dict h1 rfl rfl q q'⟩
  | _=>exact q.elim
theorem Top.mono {F':Fz}{h':Heap}{d:D}{v:qz}(l:F.le F')(k:∀ a o,h.get? a=some o->h'.get? a=some o)(x:Top w F h d v):Top w F' h' d v:=by
 rcases x with r|⟨a,rfl,q⟩
 ·exact .inl (Rep.mono l d r)
 ·exact .inr (Mini.iEA a rfl (q.mono l fun o e=>k a o e))
theorem RepL.append:∀{ds es:List D}{vs ws:List qz},RepL w F ds vs->RepL w F es ws->RepL w F (ds++es) (vs++ws)
 | [],_,_,_,r,q=>by simp only[zs4]at r;subst r;simpa using q
 | d::ds,_,_,_,r,q=>by
  simp only[zv1]at r
  (refine elEEAA (r) fun v t e_2 h1 h2=>?_;subst e_2)
  simp only[yz,zv1]
  exact Mini.iEEAA v (t++_) rfl h1 (RepL.append h2 q)
theorem RepL.get:∀{ds:List D}{vs:List qz}{i:Nat}{d:D},RepL w F ds vs->ds[i]?=some d->∃ v,vs[i]?=some v/\Rep w F d v
 | [],_,_,_,_,e=>by simp at e
 | x::ds,_,i,d,r,e=>by
  simp only[zv1]at r
  (refine elEEAA (r) fun v t e_2 h1 h2=>?_;subst e_2)
  cases i with
  | zero=>simp at e;subst e;exact Mini.iEA v rfl h1
  | succ i=>simp at e;simpa using RepL.get h2 e
theorem RepL.take:∀{ds:List D}{vs:List qz}(n:Nat),RepL w F ds vs->RepL w F (ds.take n) (vs.take n)
 | _,_,0,_=>rfl
 | [],_,n+1,r=>by simp only[zs4]at r;subst r;simp[zs4]
 | _::ds,_,n+1,r=>by
  simp only[zv1]at r
  (refine elEEAA (r) fun v t e_2 h1 h2=>?_;subst e_2)
  simp only[List.take_succ_cons,zv1]
  exact Mini.iEEAA v _ rfl h1 (RepL.take n h2)
theorem RepL.drop:∀{ds:List D}{vs:List qz}(n:Nat),RepL w F ds vs->RepL w F (ds.drop n) (vs.drop n)
 | _,_,0,r=>by simpa using r
 | [],_,n+1,r=>by simp only[zs4]at r;subst r;simp[zs4]
 | _::ds,_,n+1,r=>by
  simp only[zv1]at r
  (refine elEEAA (r) fun v t e_2 h1 h2=>?_;subst e_2)
  simpa using RepL.drop n h2
theorem RepL.nil_:RepL w F [] []:=rfl
theorem RepL.cons_ {d:D}{ds:List D}{v:qz}{vs:List qz}(r:Rep w F d v)(q:RepL w F ds vs):RepL w F (d::ds) (v::vs):=by
 simp only[zv1];exact Mini.iEEAA v vs rfl r q
end
noncomputable def Grown (w:wz)(F:Fz)(s:qw)(d:D)(f:Bool)(v:qz)(s':qw):Prop :=
 ∃ h' tk,s'={ s with heap:=h',toks:=tk }/\(∀ a o,s.heap.get? a=some o->h'.get? a=some o) /\
  if f then ∃ a,v=.ref a/\s.heap.get? a=none/\Shal w F h' d a
  else ∃ F',F.le F'/\F'.In h'/\(∀ a,F' a≠none->F a≠none\/s.heap.get? a=none)/\Rep w F' d v
section
variable {w:wz}{F:Fz}{s:qw}
theorem Grown.old {d:D}{v:qz}{tk:Nat}(hin:F.In s.heap)(r:Rep w F d v):Grown w F s d false v { s with toks:=tk } :=
 ⟨s.heap,tk,rfl,fun _ _ e=>e,F,Fz.le_refl F,hin,fun _ e=>.inl e,r⟩
theorem zz6 (h:Heap):h.get? h.objs.size=none:=by
 cases e:h.get? h.objs.size with
 | none=>rfl
 | some o=>exact absurd (xk e) (Nat.lt_irrefl _)
theorem Grown.list {xs:List D}{vs:Array qz}{n:Nat}{tk:Nat}(hz:xs.length<=size)(r:RepL w F xs vs.toList) :
  Grown w F s (.list xs) true (.ref s.heap.objs.size) { s with heap:=s.heap.push (lobj vs n),toks:=tk } :=
 ⟨_,tk,rfl,fun _ _ e=>qQ _ e,_,rfl,zz6 _,hz,vs,n,x7 _ rfl,r⟩
theorem Grown.dict {xs:List (D×D)}{es:Array j3}{n:Nat}{tk:Nat}(hz:xw2 xs)(r:RepKV w F xs es.toList)(hb:uJ<s.heap.objs.size) :
  Grown w F s (.dict xs) true (.ref s.heap.objs.size) { s with heap:=s.heap.push (dobj es n),toks:=tk } :=
 ⟨_,tk,rfl,fun _ _ e=>qQ _ e,_,rfl,zz6 _,hz,es,n,x7 _ rfl,r,hb⟩
theorem Grown.tuple {xs:List D}{vs:Array qz}{n:Nat}{tk:Nat}(hin:F.In s.heap)(hz:xs.length<=size)(r:RepL w F xs vs.toList) :
  Grown w F s (.tuple xs) false (.ref s.heap.objs.size) { s with heap:=s.heap.push (tobj vs n),toks:=tk }:=by
 have hf:F s.heap.objs.size=none:=by
  cases e:F s.heap.objs.size with
  | none=>rfl
  | some o=>exact absurd (xk (hin _ _ e)) (Nat.lt_irrefl _)
 refine⟨_,tk,rfl,fun _ _ e=>qQ _ e,F.add s.heap.objs.size (tobj vs n),Fz.le_add _ hf,?_,fun a e=>?_,?_⟩
 ·exact Fz.in_add (fun a o e=>qQ _ (hin a o e)) (x7 _ rfl)
 ·by_cases ha:a=s.heap.objs.size
  ·subst ha;exact .inr (zz6 _)
  ·rw[Fz.add_other F _ ha]at e;exact .inl e
 ·simp only[zr4]
  exact⟨hz,Mini.iEEEAA _ vs n rfl (Fz.add_self ..) (RepL.mono (Fz.le_add _ hf) _ r)⟩
theorem Grown.from {s₁:qw}{h₁:Heap}{tk₁:Nat}{d:D}{f:Bool}{v:qz}{s':qw}(e:s₁={ s with heap:=h₁,toks:=tk₁ })(k:∀ a o,s.heap.get? a=some o->h₁.get? a=some o)
  (g:Grown w F s₁ d f v s'):Grown w F s d f v s':=by
 subst e
 (refine elEEAA (g) fun h' tk e_2 k' r=>?_;subst e_2)
 refine⟨h',tk,rfl,fun a o e=>k' a o (k a o e),?_⟩
 have none_of:∀ a,h₁.get? a=none->s.heap.get? a=none:=fun a e=>by
  cases q:s.heap.get? a with
  | none=>rfl
  | some o=>rw[k a o q]at e;cases e
 cases f with
 | true=>(refine zx4 (r) fun a e q r_n=>?_;clear r;revert r_n;intro r);exact⟨a,e,none_of a q,r⟩
 | false=>(refine elEAAA (r) fun F' l i q r_n=>?_;clear r;revert r_n;intro r);exact⟨F',l,i,fun a e=>(q a e).imp id (none_of a),r⟩
end
theorem zn3:kW=size:=rfl
theorem yn3:(size:Int)<2^63:=by unfold size;decide
structure Room (n:Nat)(A:zJ):Prop where
 handled:A.handled=none
 depth:A.depth+n<recursionLimit
 units:A.units+3*n+3000<cLine
theorem Room.u {n:Nat}{A:zJ}(R:Room n A):A.units<cLine:=by have:=R.units;exact z8 (qv (qk ..) (qk ..)) this
theorem Room.le {n m:Nat}{A:zJ}(R:Room n A)(h:m<=n):Room m A:=⟨R.handled,z8 (qZ h _) R.depth,z8 (w5 (qZ (jZ 3 h) _) _) R.units⟩
theorem zy2 {d:D}(h:okd d=true):d.canLay0=true/\d.depth<=1000:=by
 unfold okd at h;simpa using h
theorem Room.two {n:Nat}{A:zJ}(R:Room n A){a b:D}(ha:okd a=true):A.units+min a.depth b.depth<cLine:=by
 exact z8 (jQ (qk ..) (qv (j5 ..) (qv (zy2 ha).2 (by decide)))) R.units
theorem xv1 {u n a b c:Nat}(h:u+3*n+3000<c)(ha:a<=1000):u+1+min a b<c:=z8 (qv (xx (x0 ..)) (jQ (qk u (3*n)) (qv (qZ (qv (j5 a b) ha) 1) (by decide)))) h
section
variable {prog:vw}{w:wz}{A:zJ}{E:qz->qw->Prop}{s:qw}{F:Fz}{n:Nat}
theorem wy6 {a b:Int}(h0:b≠0)(h:zy8 b=true):Builtin.divisionGoesByPylong a b=false:=by
 refine PyProof.noPylong_of_log2 ?_
 have h0':b.natAbs≠0:=Int.natAbs_ne_zero.mpr h0
 have:=(Nat.log2_lt (k:=62) h0').mpr (by simpa[zy8] using h)
 exact Z8 this (by decide)
theorem zq1 (hin:F.In s.heap){i:Int}{t:Tok}{tk:Nat}:Grown w F s (.int i) false (.int i t) { s with toks:=tk }:=Grown.old hin wp4
theorem wb4 (hin:F.In s.heap){x y:D}{r:D×Bool}{a b:qz}(e:addD x y=some r):Top w F s.heap x a->Top w F s.heap y b->qK (zx prog w) A (binaryOp .Add a b) (Grown w F s r.1 r.2) E s:=by
 refine addK e (fun i j ha hb=>?_) (fun xs ys hz ha hb=>?_) fun xs ys hz ha hb=>?_
 ·exact ha.intK fun t=>hb.intK fun u=>PyProof.Rows.add_int (zq1 hin)
 ·refine ha.lisK hin fun _ a dd1 sl1 vs m h1 h2=>hb.lisK hin fun _ b dd2 sl2 ws m' h3 h4=>?_
  have hsz:vs.size+ws.size<=kW:=by rw[zw,<- h2.length,<- h4.length]at hz;exact hz
  exact concat_meets ⟨_,h1,rfl⟩ ⟨_,h3,rfl⟩ noFill_list_add seq_list_add PySem.F.slot_list_add PySem.F.entry_list_add (PySem.F.args_list_add_2 _ _)
   (PyProof.Rows.list_addW _ _ vs ws m m' dd1 dd2 sl1 sl2 hsz) (Mini.iAA h1 h3 (Grown.list hz (w7.symm▸h2.append h4)))
 ·refine ha.tupK hin fun _ a vs m hF h1 h2=>hb.tupK hin fun _ b ws m' hF' h3 h4=>?_
  have nil:∀{xs:List D}{vs:Array qz},RepL w F xs vs.toList->vs.isEmpty=true->xs=[]:=fun h2 c0=>List.eq_nil_of_length_eq_zero (h2.length.symm.trans (Array.isEmpty_iff_size_eq_zero.mp c0))
  by_cases c0:vs.isEmpty=true
  ·exact concat_meets ⟨_,h1,rfl⟩ ⟨_,h3,rfl⟩ noFill_tuple_add seq_tuple_add PySem.F.slot_tuple_add PySem.F.entry_tuple_add (PySem.F.args_tuple_add_2 _ _)
    (PyProof.Rows.tuple_addW0 _ _ vs ws m m' none none #[] #[] c0) (Mini.iAA h1 h3 (Grown.old (tk:=s.toks) hin (yc5 hz hF' (by rw[nil h2 c0];exact h4))))
  ·by_cases c1:ws.isEmpty=true
   ·exact concat_meets ⟨_,h1,rfl⟩ ⟨_,h3,rfl⟩ noFill_tuple_add seq_tuple_add PySem.F.slot_tuple_add PySem.F.entry_tuple_add (PySem.F.args_tuple_add_2 _ _)
     (PyProof.Rows.tuple_addW1 _ _ vs ws m m' none none #[] #[] c0 c1) (Mini.iAA h1 h3 (Grown.old (tk:=s.toks) hin (yc5 hz hF (by rw[nil h4 c1,Qj];exact h2))))
   ·have hsz:vs.size+ws.size<=kW:=by rw[zw,<- h2.length,<- h4.length]at hz;exact hz
    exact concat_meets ⟨_,h1,rfl⟩ ⟨_,h3,rfl⟩ noFill_tuple_add seq_tuple_add PySem.F.slot_tuple_add PySem.F.entry_tuple_add (PySem.F.args_tuple_add_2 _ _)
     (PyProof.Rows.tuple_addW2 _ _ vs ws m m' none none #[] #[] c0 c1 hsz) (Mini.iAA h1 h3 (Grown.tuple hin hz (w7.symm▸h2.append h4)))
set_option tactic.hygienic true in
theorem we7 (hin:F.In s.heap){x y d:D}{f:Bool}{a b:qz}(ha:Top w F s.heap x a)(hb:Top w F s.heap y b)(e:mulD x y=some (d,f)):qK (zx prog w) A (binaryOp .Mult a b) (Grown w F s d f) E s:=by
  cases x<;>(try exact(noS e).elim)<;>cases y<;>try exact(noS e).elim
  ·refine ha.intK fun t=>hb.intK fun u=>?_
   rename_i i j
   obtain ⟨hs,e⟩:=ifS e
   refine sm2 (congrArg some e) ?_
   refine PyProof.Rows.mul_int (zq1 hin) (IntMulOk.of_left ?_)
   simp only[zy8,zj,decide_eq_true_eq]at hs
   unfold Builtin.Int.intBits
   split
   ·exact vq _
   ·rename_i h0
    have h0':i.natAbs≠0:=by simpa using h0
    exact qv ((Nat.log2_lt (k:=62) h0').mpr hs.1) (by decide)
theorem wb2 (hin:F.In s.heap){op:Operator}{x y d:D}{f:Bool}{a b:qz}(ha:Top w F s.heap x a)(hb:Top w F s.heap y b)(e:binD op x y=some (d,f)) :
  qK (zx prog w) A (binaryOp op a b) (Grown w F s d f) E s:=by
 cases op with
 | Add=>exact wb4 hin e ha hb
 | Sub=>revert ha hb;exact wl6 e fun i j e ha hb=>ha.intK fun t=>hb.intK fun u=>sm2 e (PyProof.Rows.sub_int (zq1 hin))
 | Mult=>exact we7 hin ha hb e
 | FloorDiv =>
  revert ha hb
  refine wl6 e fun i j e ha hb=>ha.intK fun t=>hb.intK fun u=>?_
  obtain ⟨h0,e⟩:=ifS e
  rw[zj,bne_iff_ne]at h0
  exact sm2 (congrArg some e) (PyProof.Rows.floordiv_int h0.1 (zq1 hin) (.inl (wy6 h0.1 h0.2)))
 | Mod =>
  revert ha hb
  refine wl6 e fun i j e ha hb=>ha.intK fun t=>hb.intK fun u=>?_
  obtain ⟨h0,e⟩:=ifS e
  rw[zj,bne_iff_ne]at h0
  exact sm2 (congrArg some e) (PyProof.Rows.mod_int' h0.1 (zq1 hin))
 | _=>exact(noS e).elim
end
end Snd
end
section
namespace Snd
open PySem Mini PySem.SeqAt
open AutoSeq1 (wpAny_loadPart')
open MeetsSeq MeetsSeq2 MeetsSeq3 SeqRoads2
noncomputable def xc9 (A:zJ)(s:qw)(y x:qz)(b:Bool):Prop :=
 ∀(prog:vw)(w:wz)(E:qz->qw->Prop)(Q:qz->qw->Prop),Q (.bool b) s->qK (zx prog w) A (richCompare .Lt y x) Q E s
noncomputable def LtZ (A:zJ)(s:qw)(fin r:Bool):List (qz×qz)->Prop
 | []=>fin=r
 | p::t=>∃ c,EqAt A s p.1 p.2 c/\bif c then LtZ A s fin r t else xc9 A s p.1 p.2 r
theorem xq0 (l b:Addr)(items items2:Array qz)(n n2:Nat)(dd dd2:Option Addr)(sl sl2:Array (Option qz))(r:Bool) :
  Meets (Builtin.«tuple.__lt__» ⟨[.ref l,.ref b],[]⟩)
   (fun A R s=>s.heap.get? l=some { cls:=.type "tuple", dict:=dd,data:=.seq items n,slots:=sl }/\s.heap.get? b=some { cls:=.type "tuple", dict:=dd2,data:=.seq items2 n2,slots:=sl2 } /\
    LtZ A.in1 s (decide (items.size<items2.size)) r (items.toList.zip items2.toList)/\R (.ok (.ret (.bool r))) s) :=
 .of_wp fun prog w A R s h=>by
  obtain ⟨hp,g,d,tk,os⟩:=s
  refine elAAA h fun hl hb hz h'=>?_
  clear h
  have f2:=AutoSeq1.sub_tuple_tuple
  wp_walk using wpAny_loadPart' hl,wpAny_loadPart' hb,wpAny_forIn_list _ (fun rest b s'=>b.1=none/\s'=⟨hp,g,d,tk,os⟩/\LtZ A.in1 ⟨hp,g,d,tk,os⟩ (decide (items.size<items2.size)) r rest) _
  case turn =>
   rintro ⟨y,x⟩ rest b s' ⟨hb',rfl,c,he,hr⟩
   refine qq (he prog w _ _ ?_)
   cases c with
   | true=>wp_walk;exact Mini.iAA rfl rfl hr
   | false =>
    simp only[Bool.not_false,if_true]
    exact qq (Qw (qq (hr prog w _ _ (qq (qX (qX (qX (Mini.iEA _ rfl h'))))))))
  case fin =>
   rintro ⟨b1,b2⟩ s' ⟨hb',rfl,hz'⟩
   simp only at hb'
   subst hb'
   wp_walk
   exact Mini.iEA _ rfl (by simpa[Builtin.Tuple.tupleCompareSizes,show _=r from hz'] using h')
  case h=>exact Mini.iAA rfl rfl hz
@[elab_as_elim] theorem rdI {h:Heap}{v:qz}{i:Int}{as:List Addr}(r:Reads h v (.int i) as){P:qz->Prop}(k:∀ t,P (.int i t)):P v:=by cases r;exact k _
@[elab_as_elim] theorem rdS {h:Heap}{v:qz}{i:Str}{as:List Addr}(r:Reads h v (.str i) as){P:qz->Prop}(k:∀ t,P (.str i t)):P v:=by cases r;exact k _
@[elab_as_elim] theorem rdT {h:Heap}{v:qz}{xs:List D}{as:List Addr}(r:Reads h v (.tuple xs) as){P:qz->Prop}(k:∀ l dd vs m sl bs,h.get? l=some ⟨.type "tuple", dd,.seq vs m,sl⟩->ReadsAll h vs.toList xs bs->P (.ref l)):P v:=by
 cases r with
 | @tuple l o vs m _ _ h1 h2 h3 h4=>exact k l o.dict vs m o.slots _ (by rw[h1,<- h2,<- h3]) h4
noncomputable def LtOk (n:Nat):Prop:=∀(x y:D)(b:Bool),x.depth<n->ltD x y=some b->∀(A:zJ)(s:qw)(v u:qz)(as bs:List Addr),Reads s.heap v x as->Reads s.heap u y bs->x.canLay0=true->y.canLay0=true ->
  A.units+min x.depth y.depth<cLine->xc9 A s v u b
theorem ws0 {n:Nat}(ih:LtOk n){A:zJ}{s:qw}{b:Bool}:∀(xs ys:List D){vs us:List qz}{as bs:List Addr},ReadsAll s.heap vs xs as->ReadsAll s.heap us ys bs->vz xs=true->vz ys=true ->
  vy xs<n->A.units+min (vy xs) (vy ys)<cLine->ltL xs ys=some b->LtZ A s (decide (xs.length<ys.length)) b (vs.zip us):=by
 intro xs
 induction xs with
 | nil =>
  intro ys vs us as bs ra rb _ _ _ _ h
  cases ra
  cases ys with
  | nil=>exact xv h
  | cons y ys=>exact xv h
 | cons x xs iht =>
  intro ys vs us as bs ra rb hx hy hn hu h
  cases ys with
  | nil =>
   cases rb
   rw[List.zip_nil_right]
   exact xv h
  | cons y ys =>
   cases ra with
   | cons r1 r2 =>
   cases rb with
   | cons q1 q2 =>
   have hx:=zq.mp hx
   have hy:=zq.mp hy
   have hn:max x.depth (vy xs)<n:=hn
   refine⟨z7 x y,eqAt_reads x y A s _ _ _ _ r1 q1 hx.1 hy.1 (room_head hu),?_⟩
   change (if z7 x y then ltL xs ys else ltD x y)=_ at h
   cases e:z7 x y with
   | true =>
    rw[e]at h
    have hd:decide ((x::xs).length<(y::ys).length)=decide (xs.length<ys.length):=decide_eq_decide.mpr Nat.succ_lt_succ_iff
    rw[hd]
    exact iht ys r2 q2 hx.2 hy.2 (z8 (Q3 _ _) hn) (room_tail hu) h
   | false =>
    rw[e]at h
    exact ih x y b (z8 (Nat.le_max_left _ _) hn) h A s _ _ _ _ r1 q1 hx.1 hy.1 (room_head hu)
theorem wd1 (n:Nat):LtOk n:=by
 induction n with
 | zero=>exact fun _ _ _ h=>absurd h (Nat.not_lt_zero _)
 | succ n ih =>
  intro x y b hn h
  revert hn
  refine ltK h ?_ ?_ ?_
  ·exact fun i j _ A s v u as bs rx ry _ _ _=>rdI rx fun t=>rdI ry fun t' prog w E Q hq=>PyProof.Rows.lt_int hq
  ·exact fun i j _ A s v u as bs rx ry _ _ _=>rdS rx fun t=>rdS ry fun t' prog w E Q hq=>PyProof.Rows.lt_str hq
  ·intro xs ys b h hn A s v u as bs rx ry ha hb hu
   refine rdT rx fun l dd vs m sl as' h1 h4=>rdT ry fun l' dd' ws m' sl' bs' k1 k4=>?_
   have n1:vs.size=xs.length:=ReadsAll.length _ _ _ h4
   have n2:ws.size=ys.length:=ReadsAll.length _ _ _ k4
   intro prog w E Q hq
   refine richCompare_meets_room (op:=.Lt) ⟨_,h1,rfl⟩ ⟨_,k1,rfl⟩ F.slot_tuple_lt F.entry_tuple_lt (F.args_tuple_lt_2 _ _)
    (xq0 l l' vs ws m m' dd dd' sl sl' b) (Mini.iAAAA h1 k1 ?_ (fun x=>nomatch x) hq) (room_here hu)
   rw[n1,n2]
   exact ws0 ih xs ys h4 k4 ha hb (Nat.lt_of_succ_lt_succ hn) (room_in hu) h
theorem yp1 {x y:D}{b:Bool}(h:ltD x y=some b){A:zJ}{s:qw}{v u:qz}{as bs:List Addr}(rx:Reads s.heap v x as)(ry:Reads s.heap u y bs)(hx:x.canLay0=true)(hy:y.canLay0=true)
  (hu:A.units+min x.depth y.depth<cLine):xc9 A s v u b:=wd1 _ x y b (ky _) h A s v u as bs rx ry hx hy hu
theorem xh3 (l b:Addr)(items items2:Array qz)(n n2:Nat)(dd dd2:Option Addr)(sl sl2:Array (Option qz))(r:Bool)(k:Nat) :
  ∀ i:Nat,items.size - i=k->Meets (Builtin.«list.__eq__.loop» ⟨[.ref l,.ref b,Qv i,Qv 0],[]⟩)
   (fun A R s=>s.heap.get? l=some { cls:=.type "list", dict:=dd,data:=.seq items n,slots:=sl }/\s.heap.get? b=some { cls:=.type "list", dict:=dd2,data:=.seq items2 n2,slots:=sl2 } /\
    LtZ A.in1 s (decide (items.size<items2.size)) r ((items.toList.drop i).zip (items2.toList.drop i))/\R (.ok (.ret (.bool r))) s):=by
 induction k with
 | zero =>
  intro i hk prog w A R s h
  obtain ⟨hp,g,d,tk,os⟩:=s;(refine elAAA (h) fun hl hb hz h_n=>?_;clear h;revert h_n;intro h)
  wp_walk using wpAny_loadPart' hl,wpAny_loadPart' hb
  have hi1:items[((i:Nat):Int).toNat]?=none:=by simp;exact yZ hk
  have hd:items.toList.drop i=[]:=by simp;exact yZ hk
  rw[hd,List.zip_nil_left]at hz
  rw[hi1]
  wp_walk using wpAny_loadPart' hl,wpAny_loadPart' hb
  show R (.ok (.ret (.bool (decide (items.size<items2.size))))) _
  rw[show _=r from hz];exact h
 | succ k ih =>
  intro i hk prog w A R s h
  obtain ⟨hp,g,d,tk,os⟩:=s;(refine elAAA (h) fun hl hb hz h_n=>?_;clear h;revert h_n;intro h)
  wp_walk using wpAny_loadPart' hl,wpAny_loadPart' hb
  have hlt:i<items.size:=Nat.lt_of_sub_eq_succ hk
  have hi1:items[((i:Nat):Int).toNat]?=some items[i]:=by simp[hlt]
  have hd:items.toList.drop i=items[i]::items.toList.drop (i+1):=by simp[kQ,hlt]
  by_cases hlt2:i<items2.size
  ·have hi2:items2[((i:Nat):Int).toNat]?=some items2[i]:=by simp[hlt2]
   have hd2:items2.toList.drop i=items2[i]::items2.toList.drop (i+1):=by simp[kQ,hlt2]
   have hc:((i:Int)+1)=((i+1:Nat):Int):=by push_cast;rfl
   rw[hd,hd2,k6]at hz
   refine elEA (hz) fun c he hr=>?_
   rw[hi1,hi2]
   refine qq (he prog w _ _ ?_)
   cases c with
   | true =>
    wp_walk
    rw[hc]
    exact⟨Z4 plain_eq_loop _,yW entry_eq_loop (by
     rw[jx plain_eq_loop _]
     exact ih (i+1) (by lia) prog w A R _ (Mini.iAAA hl hb hr h))⟩
   | false =>
    wp_walk using wpAny_loadPart' hl,wpAny_loadPart' hb
    rw[hi1,hi2]
    exact qq (hr prog w _ _ (qX h))
  ·have hi2:items2[((i:Nat):Int).toNat]?=none:=by simp;exact z9 hlt2
   have hd2:items2.toList.drop i=[]:=by simp;exact z9 hlt2
   rw[hd2,List.zip_nil_right]at hz
   rw[hi1,hi2]
   wp_walk using wpAny_loadPart' hl,wpAny_loadPart' hb
   show R (.ok (.ret (.bool (decide (items.size<items2.size))))) _
   rw[show _=r from hz];exact h
theorem xh5 (l b:Addr)(items items2:Array qz)(n n2:Nat)(dd dd2:Option Addr)(sl sl2:Array (Option qz))(r:Bool) :
  Meets (Builtin.«list.__lt__» ⟨[.ref l,.ref b],[]⟩)
   (fun A R s=>s.heap.get? l=some { cls:=.type "list", dict:=dd,data:=.seq items n,slots:=sl }/\s.heap.get? b=some { cls:=.type "list", dict:=dd2,data:=.seq items2 n2,slots:=sl2 } /\
    LtZ A.in1 s (decide (items.size<items2.size)) r (items.toList.zip items2.toList)/\R (.ok (.ret (.bool r))) s):=by
 intro prog w A R s h
 obtain ⟨hp,g,d,tk,os⟩:=s;(refine elAAA (h) fun hl hb hz h_n=>?_;clear h;revert h_n;intro h)
 have f3:=AutoSeq1.sub_list_list
 wp_walk using wpAny_loadPart' hl,wpAny_loadPart' hb
 exact⟨Z4 plain_eq_loop _,yW entry_eq_loop (by
  rw[jx plain_eq_loop _]
  exact xh3 l b items items2 n n2 dd dd2 sl sl2 r _ 0 rfl prog w A R _ (Mini.iAAA hl hb hz h))⟩
section
variable {prog:vw}{w:wz}{A:zJ}{E:qz->qw->Prop}{s:qw}{F:Fz}{n:Nat}
noncomputable def Says (s:qw)(b:Bool)(r:Bool)(s':qw):Prop:=r=b/\∃ tk,s'={ s with toks:=tk }
theorem zf8 (hin:F.In s.heap){d:D}{v:qz}{b:Bool}(x:Top w F s.heap d v)(e:zy6 d=some b):qK (zx prog w) A (truthy v) (Says s b) E s:=by
 have hn:∀{l:List D}{vs:Array qz},RepL w F l vs.toList->(!vs.isEmpty)=!l.isEmpty:=fun {l vs} r=>by
  have e:vs.size=l.length:=r.length
  rw[Array.isEmpty,e]
  cases l<;>rfl
 have hs:∀{l:List D}{vs:Array qz},RepL w F l vs.toList->l.length<=size->(vs.size:Int)<2^63:=fun {l vs} r hz=>by
  have e:vs.size=l.length:=r.length
  exact Int.lt_of_le_of_lt (Int.ofNat_le.mpr (qv (xx e) hz)) yn3
 cases d with
 | none=>exact x.noneK (sm1 e (PyProof.Rows.truthy_none ⟨rfl,s.toks,rfl⟩))
 | bool c=>exact x.boolK (sm1 e (Z0 ⟨rfl,s.toks,rfl⟩))
 | int i=>exact x.intK fun t=>sm1 e (PyProof.Rows.truthy_int ⟨rfl,s.toks,rfl⟩)
 | list l=>exact x.listK hin fun hz a ob vs m h1 hcl hdt h2=>sm1 e (wpAny_truthy_list ⟨_,h1,hcl,_,hdt⟩ (hs h2 hz) ⟨hn h2,_,rfl⟩)
 | tuple l=>exact x.tupK hin fun hz a vs m _ h1 h2=>sm1 e (PyProof.Rows.truthy_tuple ⟨_,h1,rfl,_,rfl⟩ (hs h2 hz) ⟨hn h2,_,rfl⟩)
 | _=>exact(noS e).elim
theorem xo9 (hin:F.In s.heap){d:D}{v:qz}(x:Top w F s.heap d v):(v==wk)=yl3 d:=by
 cases d with
 | none=>exact x.noneK rfl
 | bool c=>exact x.boolK rfl
 | int i=>exact x.intK fun t=>rfl
 | str i=>exact x.strK fun t=>rfl
 | list l=>exact x.listK hin fun _ _ _ _ _ _ _ _ _=>rfl
 | tuple l=>exact x.tupK hin fun _ _ _ _ _ _ _=>rfl
 | dict l=>exact x.dicK hin fun _ _ _ _ _ _ _=>rfl
theorem yr1 {l:List D}(h:l.all okd=true):vz l=true/\vy l<=1000:=by
 induction l with
 | nil=>exact⟨rfl,vq _⟩
 | cons x r ih =>
  simp only[QV,zj]at h
  have h1:=zy2 h.1
  have h2:=ih h.2
  simp only[vz,vy,zj]
  exact⟨⟨h1.1,h2.1⟩,Nat.max_le.mpr ⟨h1.2,h2.2⟩⟩
noncomputable def SayV (s:qw)(r:Bool)(v:qz)(s':qw):Prop:=v=.bool r/\∃ tk,s'={ s with toks:=tk }
theorem say {r:Bool}{tk:Nat}:SayV s r (.bool r) { s with toks:=tk }:=⟨rfl,tk,rfl⟩
noncomputable def xb0 (w:wz):Prop:=∀(prog:vw)(A:zJ)(E:qz->qw->Prop)(s:qw)(F:Fz)(n:Nat),Room n A->F.In s.heap->∀{x:D}{kvs:List (D×D)}{a b:qz},Top w F s.heap x a->Top w F s.heap (.dict kvs) b->(zk1 x kvs&&!tkey x)=true ->
 qK (zx prog w) A (ZK .In a b) (SayV s (zq6 kvs x).isSome) E s /\
 qK (zx prog w) A (ZK .NotIn a b) (SayV s (!(zq6 kvs x).isSome)) E s
structure DictIn (w:wz):Prop where
 inn:xb0 w
theorem wr4 (di:DictIn w)(R:Room n A)(hin:F.In s.heap){x y:D}{r:Bool}{a b:qz}(ha:Top w F s.heap x a)(hb:Top w F s.heap y b)(e:eqD x y=some r) :
  qK (zx prog w) A (ZK .Eq a b) (SayV s r) E s/\qK (zx prog w) A (ZK .NotEq a b) (SayV s (!r)) E s:=by
 by_cases ho:(okd x&&okd y)=true
 ·have e:=(if_pos ho).symm.trans e
  have ho:=zq.mp ho
  refine(ha.reads hin).elim fun as ra=>(hb.reads hin).elim fun bs rb=>sm1 e ?_
  exact⟨compareEq_reads ra rb (zy2 ho.1).1 (zy2 ho.2).1 (R.two ho.1) say,compareNe_reads ra rb (zy2 ho.1).1 (zy2 ho.2).1 (R.two ho.1) say⟩
 ·exact(noS ((if_neg ho).symm.trans e)).elim
theorem ws7 (di:DictIn w)(R:Room n A)(hin:F.In s.heap){x y:D}{r:Bool}{a b:qz}(ha:Top w F s.heap x a)(hb:Top w F s.heap y b)(e:inD x y=some r) :
  qK (zx prog w) A (ZK .In a b) (SayV s r) E s/\qK (zx prog w) A (ZK .NotIn a b) (SayV s (!r)) E s:=by
 refine(ha.reads hin).elim fun as ra=>?_
 have hu:∀{l:List D},l.all okd=true->A.units+1+min (vy l) x.depth<cLine:=fun h=>xv1 R.units (yr1 h).2
 revert hb
 refine inK e (fun l h1 h2 hb=>?_) (fun l h1 h2 hb=>?_) (fun l h hb=>?_)
 ·exact(hb.reads hin).elim fun bs rb=>⟨in_list_reads rb ra (yr1 h2).1 (zy2 h1).1 (hu h2) say,notIn_list_reads rb ra (yr1 h2).1 (zy2 h1).1 (hu h2) say⟩
 ·exact(hb.reads hin).elim fun bs rb=>⟨in_tuple_reads rb ra (yr1 h2).1 (zy2 h1).1 (hu h2) say,notIn_tuple_reads rb ra (yr1 h2).1 (zy2 h1).1 (hu h2) say⟩
 ·exact di.inn prog A E s F n R hin ha hb h
theorem xr5 (di:DictIn w)(R:Room n A)(hin:F.In s.heap){op:CmpOp}{x y:D}{r:Bool}{a b:qz}(ha:Top w F s.heap x a)(hb:Top w F s.heap y b)(e:cmpD op x y=some r) :
  qK (zx prog w) A (ZK op a b) (SayV s r) E s:=by
 cases op with
 | Eq=>exact(wr4 di R hin ha hb e).1
 | NotEq=>exact bK1 e fun q hq e=>sm1 e (wr4 di R hin ha hb hq).2
 | Lt =>
  by_cases ho:(okd x&&okd y)=true
  ·have e:=(if_pos ho).symm.trans e
   have ho:=zq.mp ho
   refine ltTK e (fun xs ys ex ey e=>?_) fun e=>?_
   ·subst ex ey
    refine ha.lisK hin fun _ a dd sl vs m h1 h2=>hb.lisK hin fun _ a' dd' sl' us m' k1 k2=>?_
    have hu:=R.two (b:=.list ys) ho.1
    have n1:vs.size=xs.length:=h2.length
    have n2:us.size=ys.length:=k2.length
    refine(h2.reads hin).elim fun as ra=>(k2.reads hin).elim fun bs rb=>?_
    refine richCompare_meets_room (op:=.Lt) ⟨_,h1,rfl⟩ ⟨_,k1,rfl⟩ PySem.F.slot_list_lt PySem.F.entry_list_lt (PySem.F.args_list_lt_2 _ _) (xh5 a a' vs us m m' dd dd' sl sl' r) (Mini.iAAAA h1 k1 ?_ (fun x=>nomatch x) say) (room_here hu)
    rw[n1,n2]
    exact ws0 (wd1 _) xs ys ra rb (zy2 ho.1).1 (zy2 ho.2).1 (ky _) (room_in hu) e
   exact(ha.reads hin).elim fun as ra=>(hb.reads hin).elim fun bs rb=>yp1 e ra rb (zy2 ho.1).1 (zy2 ho.2).1 (R.two ho.1) _ _ _ _ say
  ·exact(noS ((if_neg ho).symm.trans e)).elim
 | Gt =>
  revert ha hb
  exact gtK e (fun i j ha hb=>ha.intK fun t=>hb.intK fun u=>PyProof.Rows.gt_int say) (fun i j ha hb=>ha.strK fun t=>hb.strK fun u=>PySem.P.gt_str say)
 | LtE=>revert ha hb;exact as2K (x:=x) (y:=y) (g:=fun i j=>some (decide (i<=j))) e fun i j e ha hb=>ha.intK fun t=>hb.intK fun u=>sm1 e (PyProof.Rows.le_int say)
 | GtE=>revert ha hb;exact as2K (x:=x) (y:=y) (g:=fun i j=>some (decide (j<=i))) e fun i j e ha hb=>ha.intK fun t=>hb.intK fun u=>sm1 e (PyProof.Rows.ge_int say)
 | Is =>
  refine bK1 e fun q hq e=>sm1 e ?_
  obtain rfl:=xx9 hq
  exact hb.noneK (PyProof.Rows.is_none_gen (xo9 hin ha▸say))
 | In=>exact(ws7 di R hin ha hb e).1
 | NotIn=>exact bK1 e fun q hq e=>sm1 e (ws7 di R hin ha hb hq).2
 | _=>exact(noS e).elim
end
set_option tactic.hygienic true in
theorem yd7 {items:Array qz}{lo hi:Option Int}:(slicePick items lo hi none).toList=zw5 items.toList lo hi:=by
 have key:∀(i:Int)(n:Nat),(max 0 (min (if i<0 then i+n else i) n)).toNat=zn1 n i:=by
  have z:∀ x:Int,(max 0 x).toNat=x.toNat:=fun x=>by
   rcases Int.le_total 0 x with h|h
   ·rw[Int.max_eq_right h]
   ·rw[Int.max_eq_left h,Int.toNat_of_nonpos h];rfl
  intro i n
  unfold zn1
  rw[z]
  split
  ·next q=>rw[Int.min_eq_left (Int.le_trans (Int.add_le_add_right (Int.le_of_lt q) n) (Int.le_of_eq (Int.zero_add _)))]
  ·next q =>
   rcases Int.le_total i n with h|h
   ·rw[Int.min_eq_left h,wV (Int.toNat_le.mpr h)]
   ·rw[Int.min_eq_right h,jz,ZX ((Int.le_toNat (Int.not_lt.mp q)).mpr h)]
 have gen:∀(a b:Nat),((sliceRange (a:Int) (b:Int) 1).filterMap (items[·]?))=(items.toList.take b).drop a:=by
  intro a b
  have e:sliceRange (a:Int) (b:Int) 1=(List.range (b - a)).map (a+·):=by
   unfold sliceRange
   simp only[show (1:Int) > 0 by decide,if_true]
   have:(if (a:Int)<b then ((b:Int) - a+1 - 1) / 1 else 0).toNat=b - a:=by
    split
    ·rw[Int.add_sub_cancel,Int.ediv_one];exact Int.toNat_sub b a
    ·next q=>exact(Nat.sub_eq_zero_of_le (Int.ofNat_le.mp (Int.not_lt.mp q))).symm
   rw[this]
   refine List.map_congr_left fun k hk=>?_
   rw[Int.one_mul];rfl
  rw[e,pick_run,List.drop_take]
 have nn:∀(i:Int)(n:Nat),0<=max 0 (min (if i<0 then i+n else i) n):=fun i n=>Int.le_max_left _ _
 have nat:∀ x:Int,0<=x->x=((x.toNat:Nat):Int):=fun x h=>(Int.toNat_of_nonneg h).symm
 unfold slicePick zw5 sliceBounds
 simp only[Option.getD_none,show (1:Int) > 0 by decide,if_true,ww]
 cases lo with
 | none =>
  cases hi with
  | none=>exact(gen 0 items.size)
  | some j =>
   dsimp only
   rw[nat _ (nn j items.size),key]
   exact gen 0 _
 | some i =>
  cases hi with
  | none =>
   dsimp only
   rw[nat _ (nn i items.size),key]
   exact gen _ items.size
  | some j =>
   dsimp only
   rw[nat _ (nn i items.size),nat _ (nn j items.size),key,key]
   exact gen _ _
section
variable {w:wz}{F:Fz}
theorem RepL.slice {ds:List D}{vs:List qz}(lo hi:Option Int)(r:RepL w F ds vs):RepL w F (zw5 ds lo hi) (zw5 vs lo hi):=by
 unfold zw5
 rw[r.length]
 exact(r.take _).drop _
theorem yz9 {α:Type}(l:List α)(lo hi:Option Int):(zw5 l lo hi).length<=l.length:=by
 unfold zw5
 rw[List.length_drop,Z2];exact qv (Q6 _ _) (Q2 _ _)
end
section
variable {prog:vw}{w:wz}{A:zJ}{E:qz->qw->Prop}{s:qw}{F:Fz}{n:Nat}
noncomputable def GotV (w:wz)(F:Fz)(s:qw)(d:D)(r:qz)(s':qw):Prop:=Rep w F d r/\∃ tk,s'={ s with toks:=tk }
noncomputable def yr4 (w:wz):Prop:=∀(prog:vw)(A:zJ)(E:qz->qw->Prop)(s:qw)(F:Fz)(n:Nat),Room n A->F.In s.heap->∀{x v:D}{kvs:List (D×D)}{a b:qz},Top w F s.heap x a->Top w F s.heap (.dict kvs) b->zk1 x kvs=true->zq6 kvs x=some v ->
 qK (zx prog w) A (getItem b a) (GotV w F s v) E s
theorem xw7 {l:List D}{j:Nat}{i:Int}{d:D}(hz:l.length<=size)(hj:i=(j:Int))(e:l[j]?=some d):i<2^63 :=
 hj▸Int.lt_trans (u6.mpr (vZ (qV.mp e).1 hz)) yn3
theorem xn2 (dg:yr4 w)(R:Room n A)(hin:F.In s.heap){x y d:D}{a b:qz}(ha:Top w F s.heap x a)(hb:Top w F s.heap y b)(e:idxD x y=some d) :
  qK (zx prog w) A (getItem a b) (GotV w F s d) E s:=by
 revert ha hb
 refine idxK e (fun l i h0 e ha hb=>?_) (fun l i h0 e ha hb=>?_) (fun kvs k hk e ha hb=>dg prog A E s F n R hin hb ha hk e)
 ·exact ha.listK hin fun hz a ob vs m h1 hcl hdt h2=>hb.intK fun t=>elEA (h2.get e) fun v hv r =>
   wpAny_getItem_list ⟨_,h1,hcl,_,hdt⟩ h0 (xw7 hz (Int.toNat_of_nonneg h0).symm e) (xK.symm.trans hv) ⟨r,s.toks,rfl⟩
 ·refine ha.tupK hin fun hz a vs m _ h1 h2=>hb.intK fun t=>elEA (h2.get e) fun v hv r =>
   PyProof.Rows.getItem_tuple (j:=i.toNat) ⟨_,h1,rfl,_,rfl⟩ (Int.le_trans (by decide) h0) (xw7 hz (Int.toNat_of_nonneg h0).symm e) ?_ (xK.symm.trans hv) ⟨r,s.toks,rfl⟩
  have hlt:=(qV.mp hv).1
  have hs:vs.toList.length=vs.size:=ww
  unfold seqIndex?
  rw[if_neg (Int.not_lt.mpr h0)]
  exact if_pos (zq.mpr ⟨decide_eq_true h0,decide_eq_true ((Int.toNat_lt h0).mp (hs▸hlt))⟩)
theorem xq4 (dg:yr4 w)(R:Room n A)(hin:F.In s.heap){value slice:Expr}{x y d:D}{a b:qz}(ha:Top w F s.heap x a)(hb:Top w F s.heap y b)(e:idxD x y=some d)
  (hs:∀ o i,subscripted slice false o i=operate [o,i] (getItem o i)) :
  qK (zx prog w) A (PyProof.Rows.subscriptTail value slice a b) (GotV w F s d) E s:=by
 have h:=xn2 (prog:=prog) (A:=A) (E:=E) dg R hin ha hb e
 revert h
 cases x with
 | list l=>exact ha.listK hin fun hz a ob vs m h1 hcl hdt h2 h=>uZ ⟨_,h1,hcl⟩ PySem.F.slot_list_getitem.lookup h (hs _ _)
 | tuple l=>exact ha.tupK hin fun hz a vs m _ h1 h2 h=>uZ ⟨_,h1,rfl⟩ PySem.F.slot_tuple_getitem.lookup h (hs _ _)
 | dict l=>exact ha.dicK hin fun hz a vs m h1 h2 _ h=>uZ ⟨_,h1,rfl⟩ PySem.F.slot_dict_getitem.lookup h (hs _ _)
 | _=>exact(noS e).elim
theorem Grown.keep {d:D}{v:qz}{h':Heap}{tk:Nat}(hin:F.In s.heap)(k:∀ a o,s.heap.get? a=some o->h'.get? a=some o)(r:Rep w F d v):Grown w F s d false v { s with heap:=h',toks:=tk } :=
 ⟨h',tk,rfl,k,F,Fz.le_refl F,fun a o e=>k a o (hin a o e),fun _ e=>.inl e,r⟩
theorem xp0 {xs:List D}{vs:Array qz}(h:RepL w F xs vs.toList)(hz:xs.length<=size):vs.size<=kW:=qv (xx h.length) hz
theorem wg6 {xs:List D}{vs:Array qz}(h:RepL w F xs vs.toList)(hz:xs.length<=size):(vs.size:Int)<2^63:=Int.lt_of_le_of_lt (Int.ofNat_le.mpr (xp0 h hz)) yn3
theorem xq9 (hin:F.In s.heap){value:Expr}{l u:Option Expr}{p:Pos}{d r:D}{f:Bool}{a vl vu:qz}{lo hi:Option Int}(ha:Top w F s.heap d a)(pl:IsPart vl lo)(pu:IsPart vu hi)(e:yq6 d lo hi=some (r,f)) :
  qK (zx prog w) A (newFields "slice" [vl,vu,.none]) (fun i s₁=>qK (zx prog w) A (PyProof.Rows.subscriptTail value (.Slice l u none p) a i) (Grown w F s r f) E s₁) E s:=by
 refine uW ?_
 generalize hh:s.heap.push { cls:=.type "slice", data:=.fields [vl,vu,wk].toArray }=h₁
 have k:∀ b o,s.heap.get? b=some o->h₁.get? b=some o:=fun b o e=>hh▸qQ _ e
 have hS:h₁.IsSliceOf s.heap.objs.size vl vu .none:=hh▸⟨_,x7 _ rfl,rfl,rfl⟩
 clear hh
 revert ha pl pu
 refine wg5 (P:=fun d lo hi r=>Top w F s.heap d a->IsPart vl lo->IsPart vu hi->qK (zx prog w) A (PyProof.Rows.subscriptTail value (.Slice l u none p) a (.ref s.heap.objs.size)) (Grown w F s r.1 r.2) E { s with heap:=h₁ }) e (fun xs lo hi ha pl pu=>?_) (fun xs i h0 ha pl pu=>?_)
 ·refine ha.listK hin fun hz a ob vs m h1 hcl hdt h2=>uZ ⟨_,k _ _ h1,hcl⟩ PySem.F.slot_list_getitem.lookup
   (wpAny_getItem_list_slice ⟨_,k _ _ h1,hcl,_,hdt⟩ hS pl pu .none (fun x=>nomatch x) (Grown.from (s:=s) (h₁:=h₁) (tk₁:=s.toks) rfl k ?_) (xp0 h2 hz)) rfl
  exact Grown.list (tk:=s.toks) (qv (yz9 _ _ _) hz) (yd7▸h2.slice lo hi)
 ·refine ha.tupK hin fun hz a vs m _ h1 h2=>?_
  cases pu
  cases pl with
  | int i t =>
  have e1:vs.size=xs.length:=h2.length
  obtain ⟨j,rfl⟩:=Z6 (Int.le_trans (by decide) h0.1)
  refine uZ ⟨_,k _ _ h1,rfl⟩ PySem.F.slot_tuple_getitem.lookup (PyProof.Rows.getItem_tuple_from ⟨_,k _ _ h1,rfl,_,rfl⟩ hS (Int.ofNat_le.mp h0.1) (e1▸Int.ofNat_le.mp h0.2)
   (Grown.from (s:=s) (h₁:=h₁) (tk₁:=s.toks) rfl k (Grown.tuple (tk:=s.toks) (fun b o e=>k b o (hin b o e)) (qv (List.length_drop▸Q6 _ _) hz) ?_)) (xp0 h2 hz)) rfl
  exact h2.drop j
noncomputable def yv3:Prim->qz
 | .len=>.builtin "len" | .sorted=>.builtin "sorted" | .min=>.builtin "min" | .max=>.builtin "max"
 | .tuple=>.type "tuple" | .list=>.type "list" | .dict=>.type "dict" | .int=>.type "int"
noncomputable def yx6 (w:wz):Prop:=∀(prog:vw)(A:zJ)(E:qz->qw->Prop)(s:qw)(F:Fz)(n:Nat),Room n A->F.In s.heap->∀{p:Prim}{x d:D}{f:Bool}{v:qz},Top w F s.heap x v->yn7 p x=some (d,f) ->
 qK (zx prog w) A (call (yv3 p) [v]) (Grown w F s d f) E s
theorem wl3 (hin:F.In s.heap){x:D}{l:List D}{v:qz}(hv:Top w F s.heap x v)(e:seqD x=some l):qK (zx prog w) A (call (.type "list") [v]) (Grown w F s (.list l) true) E s:=by
 revert hv
 refine seqK e (fun hv=>?_) (fun hv=>?_)
 ·exact hv.listK hin fun hz a ob vs m h1 hcl hdt h2=>call_list_seq a (.inl rfl) h1 hcl hdt (fun h' c k hn=>⟨h',s.toks,rfl,k,_,rfl,zz6 _,hz,vs,c,hn,h2⟩) (xp0 h2 hz)
 ·exact hv.tupK hin fun hz a vs m _ h1 h2=>call_list_seq a (.inr rfl) h1 rfl rfl (fun h' c k hn=>⟨h',s.toks,rfl,k,_,rfl,zz6 _,hz,vs,c,hn,h2⟩) (xp0 h2 hz)
theorem xb6 (hin:F.In s.heap){x:D}{l:List D}{v:qz}(hv:Top w F s.heap x v)(e:seqD x=some l):qK (zx prog w) A (call (.type "tuple") [v]) (Grown w F s (.tuple l) false) E s:=by
 revert hv
 refine seqK e (fun hv=>?_) (fun hv=>?_)
 ·exact hv.listK hin fun hz a ob vs m h1 hcl hdt h2=>call_tuple_list ⟨_,h1,hcl,_,hdt⟩ (fun h' k=>Grown.from (s:=s) (h₁:=h') (tk₁:=s.toks) rfl k (Grown.tuple (s:={ s with heap:=h' }) (tk:=s.toks) (fun b o e=>k b o (hin b o e)) hz h2)) (xp0 h2 hz)
 ·exact hv.tupK hin fun hz a vs m hF h1 h2=>call_tuple_same ⟨_,h1,rfl,_,rfl⟩ (Grown.old (tk:=s.toks) hin (yc5 hz hF h2))
theorem wd7 (hin:F.In s.heap){x:D}{r:D×Bool}{v:qz}(hv:Top w F s.heap x v)(e:lenD x=some r):qK (zx prog w) A (call (.builtin "len") [v]) (Grown w F s r.1 r.2) E s:=by
 revert hv
 refine lenK e (fun l hv=>?_) (fun l hv=>?_)
 ·refine hv.listK hin fun hz a ob vs m h1 hcl hdt h2=>PyProof.Rows.len_list ⟨_,h1,hcl,_,hdt⟩ (wg6 h2 hz) ?_
  rw[show vs.size=l.length from h2.length];exact zq1 hin
 ·refine hv.tupK hin fun hz a vs m _ h1 h2=>PyProof.Rows.len_tuple ⟨_,h1,rfl,_,rfl⟩ (wg6 h2 hz) ?_
  rw[show vs.size=l.length from h2.length];exact zq1 hin
theorem wz4 (pr:yx6 w)(R:Room n A)(hin:F.In s.heap){p:Prim}{x d:D}{f:Bool}{v:qz}(hv:Top w F s.heap x v)(e:zh6 p x=some (d,f)) :
  qK (zx prog w) A (call (yv3 p) [v]) (Grown w F s d f) E s:=by
 cases p with
 | len=>exact wd7 hin hv e
 | sorted=>exact pr prog A E s F n R hin (p:=.sorted) hv e
 | tuple=>exact bK1 e fun l hl e=>sm2 e (xb6 hin hv hl)
 | list =>
  change orS ((seqD x).bind _) _=_ at e
  cases hl:seqD x with
  | none=>rw[hl]at e;exact pr prog A E s F n R hin (p:=.list) hv e
  | some l=>rw[hl]at e;exact sm2 e (wl3 hin hv hl)
 | int =>
  cases x with
  | bool c=>exact hv.boolK (sm2 e (call_int_bool (zq1 hin)))
  | _=>exact(noS e).elim
 | dict=>exact pr prog A E s F n R hin (p:=.dict) hv e
 | _=>exact(noS e).elim
noncomputable def bltTab:List (Str×qz):=[("len", .builtin "len"),("sorted", .builtin "sorted"),("min", .builtin "min"),("max", .builtin "max"),("isinstance", .builtin "isinstance"),("tuple", .type "tuple"),("list", .type "list"),("dict", .type "dict"),
 ("int", .type "int"),("bool", .type "bool"),("str", .type "str"),("range", .type "range"),("reversed", .type "reversed"),("zip", .type "zip"),("ValueError", .type "ValueError")]
noncomputable def yz7 (x:Str):Option qz:=bltTab.lookup x
theorem isi_int (hin:F.In s.heap){d:D}{v:qz}(ha:Top w F s.heap d v):qK (zx prog w) A (call (.builtin "isinstance") [v,.type "int"]) (SayV s (isI d)) E s:=by
 cases d with
 | none=>exact ha.noneK (IsiPair.NoneType_int say)
 | bool _=>exact ha.boolK (IsiPair.bool_int say)
 | int _=>exact ha.intK fun t=>(IsiPair.int_int say)
 | str _=>exact ha.strK fun t=>(IsiPair.str_int say)
 | list _=>exact ha.listK hin fun _ a ob _ _ h1 hcl _ _=>(IsiPair.list_int h1 hcl say)
 | tuple _=>exact ha.tupK hin fun _ a _ _ _ h1 _=>(IsiPair.tuple_int h1 rfl say)
 | dict _=>exact ha.dicK hin fun _ a _ _ h1 _ _=>(IsiPair.dict_int h1 rfl say)
theorem isi_bool (hin:F.In s.heap){d:D}{v:qz}(ha:Top w F s.heap d v):qK (zx prog w) A (call (.builtin "isinstance") [v,.type "bool"]) (SayV s (isB d)) E s:=by
 cases d with
 | none=>exact ha.noneK (IsiPair.NoneType_bool say)
 | bool _=>exact ha.boolK (IsiPair.bool_bool say)
 | int _=>exact ha.intK fun t=>(IsiPair.int_bool say)
 | str _=>exact ha.strK fun t=>(IsiPair.str_bool say)
 | list _=>exact ha.listK hin fun _ a ob _ _ h1 hcl _ _=>(IsiPair.list_bool h1 hcl say)
 | tuple _=>exact ha.tupK hin fun _ a _ _ _ h1 _=>(IsiPair.tuple_bool h1 rfl say)
 | dict _=>exact ha.dicK hin fun _ a _ _ h1 _ _=>(IsiPair.dict_bool h1 rfl say)
theorem isi_str (hin:F.In s.heap){d:D}{v:qz}(ha:Top w F s.heap d v):qK (zx prog w) A (call (.builtin "isinstance") [v,.type "str"]) (SayV s (isS d)) E s:=by
 cases d with
 | none=>exact ha.noneK (IsiPair.NoneType_str say)
 | bool _=>exact ha.boolK (IsiPair.bool_str say)
 | int _=>exact ha.intK fun t=>(IsiPair.int_str say)
 | str _=>exact ha.strK fun t=>(IsiPair.str_str say)
 | list _=>exact ha.listK hin fun _ a ob _ _ h1 hcl _ _=>(IsiPair.list_str h1 hcl say)
 | tuple _=>exact ha.tupK hin fun _ a _ _ _ h1 _=>(IsiPair.tuple_str h1 rfl say)
 | dict _=>exact ha.dicK hin fun _ a _ _ h1 _ _=>(IsiPair.dict_str h1 rfl say)
theorem isi_tuple (hin:F.In s.heap){d:D}{v:qz}(ha:Top w F s.heap d v):qK (zx prog w) A (call (.builtin "isinstance") [v,.type "tuple"]) (SayV s (isT d)) E s:=by
 cases d with
 | none=>exact ha.noneK (IsiPair.NoneType_tuple say)
 | bool _=>exact ha.boolK (IsiPair.bool_tuple say)
 | int _=>exact ha.intK fun t=>(IsiPair.int_tuple say)
 | str _=>exact ha.strK fun t=>(IsiPair.str_tuple say)
 | list _=>exact ha.listK hin fun _ a ob _ _ h1 hcl _ _=>(IsiPair.list_tuple h1 hcl say)
 | tuple _=>exact ha.tupK hin fun _ a _ _ _ h1 _=>(IsiPair.tuple_tuple h1 rfl say)
 | dict _=>exact ha.dicK hin fun _ a _ _ h1 _ _=>(IsiPair.dict_tuple h1 rfl say)
theorem isi_list (hin:F.In s.heap){d:D}{v:qz}(ha:Top w F s.heap d v):qK (zx prog w) A (call (.builtin "isinstance") [v,.type "list"]) (SayV s (isL d)) E s:=by
 cases d with
 | none=>exact ha.noneK (IsiPair.NoneType_list say)
 | bool _=>exact ha.boolK (IsiPair.bool_list say)
 | int _=>exact ha.intK fun t=>(IsiPair.int_list say)
 | str _=>exact ha.strK fun t=>(IsiPair.str_list say)
 | list _=>exact ha.listK hin fun _ a ob _ _ h1 hcl _ _=>(IsiPair.list_list h1 hcl say)
 | tuple _=>exact ha.tupK hin fun _ a _ _ _ h1 _=>(IsiPair.tuple_list h1 rfl say)
 | dict _=>exact ha.dicK hin fun _ a _ _ h1 _ _=>(IsiPair.dict_list h1 rfl say)
theorem wx8 (hin:F.In s.heap){d:D}{v:qz}(ha:Top w F s.heap d v):qK (zx prog w) A (call (.builtin "isinstance") [v,.type "dict"]) (SayV s (isK d)) E s:=by
 cases d with
 | none=>exact ha.noneK (IsiPair.NoneType_dict say)
 | bool _=>exact ha.boolK (IsiPair.bool_dict say)
 | int _=>exact ha.intK fun t=>(IsiPair.int_dict say)
 | str _=>exact ha.strK fun t=>(IsiPair.str_dict say)
 | list _=>exact ha.listK hin fun _ a ob _ _ h1 hcl _ _=>(IsiPair.list_dict h1 hcl say)
 | tuple _=>exact ha.tupK hin fun _ a _ _ _ h1 _=>(IsiPair.tuple_dict h1 rfl say)
 | dict _=>exact ha.dicK hin fun _ a _ _ h1 _ _=>(IsiPair.dict_dict h1 rfl say)
theorem wc0 (hin:F.In s.heap){d:D}{ty:Str}{v:qz}{b:Bool}(ha:Top w F s.heap d v)(e:isiD d ty=some b) :
  ∃ T,yz7 ty=some (.type T)/\qK (zx prog w) A (call (.builtin "isinstance") [v,.type T]) (SayV s b) E s:=by
 have k:∀{x:Str}{T:String}{c:Bool},yz7 x=some (.type T)->qK (zx prog w) A (call (.builtin "isinstance") [v,.type T]) (SayV s c) E s->(ty==x)=true->some c=some b->∃ T,yz7 ty=some (.type T)/\qK (zx prog w) A (call (.builtin "isinstance") [v,.type T]) (SayV s b) E s :=
  fun h1 h2 h3 h4=>Mini.iEA _ (eq_of_beq h3▸h1) (xv h4▸h2)
 exact iteS e (k rfl (isi_int hin ha)) fun e=>iteS e (k rfl (isi_bool hin ha)) fun e=>iteS e (k rfl (isi_str hin ha)) fun e =>
  iteS e (k rfl (isi_tuple hin ha)) fun e=>iteS e (k rfl (isi_list hin ha)) fun e=>iteS e (k rfl (wx8 hin ha)) fun e=>(noS e).elim
end
open PySem Mini
structure Step (C:Cx)(X:Addr->Prop)(P:List Place)(vs:List (Option qz))(F:Fz)(s:qw)(σ:Sg)(F':Fz)(s':qw):Prop where
 eq:∃ h' tk,s'={ s with heap:=h',toks:=tk }
 le:F.le F'
 st:St C X F' s'.heap P vs σ
 same:XSame X s.heap s'.heap
noncomputable def OpndOk (w:wz)(F:Fz)(vs:List (Option qz))(v:qz):Opnd->Prop
 | .slot k=>vs[k]?=some (some v)
 | .dat d=>Rep w F d v
inductive Post (C:Cx)(X:Addr->Prop)(P:List Place)(vs:List (Option qz))(F:Fz)(s:qw)(σ:Sg)(d:D)(f:Bool)(v:qz)(s':qw):Prop
 | mk (F':Fz) (st:Step C X P vs F s σ F' s') (r:ResOk C.w X F' s'.heap P vs σ v d f)
inductive PostZ (C:Cx)(X:Addr->Prop)(P:List Place)(vs:List (Option qz))(F:Fz)(s:qw)(σ:Sg)(d:D)(v:qz)(s':qw):Prop
 | mk (F':Fz) (st:Step C X P vs F s σ F' s') (r:Rep C.w F' d v)
inductive PostO (C:Cx)(X:Addr->Prop)(P:List Place)(vs:List (Option qz))(F:Fz)(s:qw)(σ:Sg)(o:Opnd)(v:qz)(s':qw):Prop
 | mk (F':Fz) (st:Step C X P vs F s σ F' s') (r:OpndOk C.w F' vs v o)
inductive PostB (C:Cx)(X:Addr->Prop)(P:List Place)(vs:List (Option qz))(F:Fz)(s:qw)(σ:Sg)(b:Bool)(r:Bool)(s':qw):Prop
 | mk (e:r=b) (F':Fz) (st:Step C X P vs F s σ F' s')
inductive PostL (C:Cx)(X:Addr->Prop)(P:List Place)(vs:List (Option qz))(F:Fz)(s:qw)(σ:Sg)(ds:List D)(ws:List qz)(s':qw):Prop
 | mk (F':Fz) (st:Step C X P vs F s σ F' s') (r:RepL C.w F' ds ws)
inductive PostD (C:Cx)(X:Addr->Prop)(P:List Place)(vs:List (Option qz))(F:Fz)(s:qw)(σ:Sg)(x y:D)(a b:qz)(s':qw):Prop
 | mk (F':Fz) (st:Step C X P vs F s σ F' s') (ta:Top C.w F' s'.heap x a) (tb:Top C.w F' s'.heap y b)
inductive PostU (C:Cx)(X:Addr->Prop)(P:List Place)(vs:List (Option qz))(F:Fz)(s:qw)(σ:Sg)(x:D)(a:qz)(s':qw):Prop
 | mk (F':Fz) (st:Step C X P vs F s σ F' s') (ta:Top C.w F' s'.heap x a)
section
variable {C:Cx}{X:Addr->Prop}{P:List Place}{vs:List (Option qz)}{F F' F'':Fz}{s s' s'':qw}{σ σ' σ'':Sg}
theorem Step.trans (a:Step C X P vs F s σ' F' s')(b:Step C X P vs F' s' σ'' F'' s''):Step C X P vs F s σ'' F'' s'' where
 eq:=by
  (refine elEE (a.eq) fun h1 t1 e_2=>?_;subst e_2)
  (refine elEE (b.eq) fun h2 t2 e_2=>?_;subst e_2)
  exact Mini.iEE h2 t2 rfl
 le:=Fz.le.trans a.le b.le
 st:=b.st
 same:=XSame.trans a.same b.same
theorem Step.refl (S:St C X F s.heap P vs σ):Step C X P vs F s σ F s:=⟨Mini.iEE s.heap s.toks rfl,Fz.le_refl F,S,XSame.refl⟩
theorem Step.toks (S:St C X F s.heap P vs σ)(tk:Nat):Step C X P vs F s σ F { s with toks:=tk }:=⟨Mini.iEE s.heap tk rfl,Fz.le_refl F,S,XSame.refl⟩
theorem Step.then (a:Step C X P vs F s σ' F' s'){tk:Nat}(e:s''={ s' with toks:=tk }):Step C X P vs F s σ' F' s'':=by
 subst e;exact a.trans (Step.toks a.st tk)
theorem OpndOk.mono {w:wz}{v:qz}{o:Opnd}(l:F.le F')(x:OpndOk w F vs v o):OpndOk w F' vs v o:=by
 cases o with
 | slot k=>exact x
 | dat d=>exact Rep.mono l d x
theorem OpndOk.top {v:qz}{o:Opnd}{d:D}(S:St C X F s.heap P vs σ)(x:OpndOk C.w F vs v o)(e:res o σ=some d):Top C.w F s.heap d v:=by
 cases o with
 | slot k =>
  refine elEA (S.look e) fun v' h1 h2=>?_
  rw[show vs[k]?=_ from x]at h1;cases h1
  exact h2
 | dat d'=>cases e;exact .inl x
theorem Post.trans {d:D}{f:Bool}{v:qz}(a:Step C X P vs F s σ' F' s')(b:Post C X P vs F' s' σ'' d f v s''):Post C X P vs F s σ'' d f v s'':=by
 obtain ⟨G,st,r⟩:=b
 exact⟨G,a.trans st,r⟩
theorem Post.freeze {d:D}{f:Bool}{v:qz}(x:Post C X P vs F s σ d f v s'):PostZ C X P vs F s σ d v s':=by
 obtain ⟨G,st,r⟩:=x
 refine zx4 (r.freeze st.st) fun G' l S' r'=>?_
 exact⟨G',⟨st.eq,Fz.le.trans st.le l,S',st.same⟩,r'⟩
theorem Post.old {d:D}{v:qz}(a:Step C X P vs F s σ F' s')(r:Rep C.w F' d v):Post C X P vs F s σ d false v s':=⟨F',a,r⟩
theorem Grown.post {d:D}{f:Bool}{v:qz}(S:St C X F s.heap P vs σ)(g:Grown C.w F s d f v s'):Post C X P vs F s σ d f v s':=by
 (refine elEEAA (g) fun h' tk e_2 k r=>?_;subst e_2)
 cases f with
 | false =>
  (refine elEAAA (r) fun F' l i q r_n=>?_;clear r;revert r_n;intro r)
  exact⟨F',⟨Mini.iEE h' tk rfl,l,S.grow k l i q,XSame.of_keep S.xal k⟩,r⟩
 | true =>
  (refine zx4 (r) fun a e_1 hn r_n=>?_;clear r;revert r_n;intro r;subst e_1)
  have hF:F a=none:=by
   cases e:F a with
   | none=>rfl
   | some o=>have:=S.sub a o e;rw[hn]at this;cases this
  refine⟨F,⟨⟨h',tk,rfl⟩,Fz.le_refl F,S.grow0 k,XSame.of_keep S.xal k⟩,a,rfl,hF,fun e=>?_,fun p hp e=>?_,fun i ho=>?_,r⟩
  ·obtain ⟨o,ho⟩:=S.xal a e;rw[hn]at ho;cases ho
  ·obtain ⟨i,hi⟩:=Q7.mp hp
   refine elEA (S.placeAt hi) fun ov _ hh=>?_
   obtain ⟨o,ho⟩:=Place.has_there hh
   rw[<- e,hn]at ho;cases ho
  ·refine elAE (ho) fun h1 d' h2=>?_
   refine zx4 (S.slot i _ _ h1 h2) fun a' e' _ q=>?_
   cases e'
   obtain ⟨o,ho⟩:=q.there
   rw[hn]at ho;cases ho
end
inductive CallOk (C:Cx)(N:Nat)(g:Str)(ds:List D)(d:D)(f:Bool):Prop
 | mk (a:Addr) (o:Obj) (fd:FuncData) (h1:C.mg g=some (.ref a)) (h2:C.H.get? a=some o) (h3:o.data=.func fd)
  (h4:∀(A:zJ)(E:qz->qw->Prop)(s:qw)(F:Fz)(X:Addr->Prop)(ws:List qz),Room N A->St C X F s.heap [] [] []->RepL C.w F ds ws ->
   qK (zx C.prog C.w) A (call (.ref a) ws) (Post C X [] [] F s [] d f) E s)
noncomputable def xw1 (w:wz):Prop:=∀(prog:vw)(A:zJ)(E:qz->qw->Prop)(s:qw)(F:Fz)(n:Nat),Room n A->F.In s.heap->uJ<s.heap.objs.size->∀{x y d:D}{a b:qz},Rep w F x a->Rep w F y b->wv2 x y=some d ->
 qK (zx prog w) A (call (.type "zip") [a,b]) (fun z s₁=>qK (zx prog w) A (call (.type "list") [z]) (fun l s₂=>qK (zx prog w) A (call (.type "dict") [l]) (Grown w F s d true) E s₂) E s₁) E s
structure Ground (C:Cx)(Γ:Mini.Env)(N:Nat):Prop where
 di:DictIn C.w
 dg:yr4 C.w
 pr:yx6 C.w
 dz:xw1 C.w
 ns:C.H.Ns mainGlobals C.mg
 nb:C.H.Ns builtinsNs C.mb
 glob:∀ x d,Γ.glob x=some d->∃ v,C.mg x=some v/\Rep C.w C.F0 d v
 blt:∀ x v,yz7 x=some v->C.mg x=none/\C.mb x=some v
 call:∀ g ds d f,Γ.call g ds=some (d,f)->CallOk C N g ds d f
structure Cn (Γ:Mini.Env)(N:Nat)(env:xy)(sc:x9)(ν:Nu)(P:List Place)(n:Nat)(A:zJ):Prop where
 O:EnvOk env sc ν P
 hn:n=P.length
 R:Room N A
section
variable (C:Cx)(Γ:Mini.Env)(N:Nat)
noncomputable def PE (i:I)(n:Nat)(sc:x9)(ν:Nu)(e:Expr):Prop:=∀{env:xy}{P:List Place}{vs:List (Option qz)}{σ σ':Sg}{X:Addr->Prop}{F:Fz}{s:qw}{A:zJ}{E:qz->qw->Prop}{d:D}{f:Bool},
 Cn Γ N env sc ν P n A->St C X F s.heap P vs σ->ev Γ i σ=some (d,f,σ')->qK (zx C.prog C.w) A (eval e env) (Post C X P vs F s σ' d f) E s
noncomputable def PO (i:I)(n:Nat)(sc:x9)(ν:Nu)(e:Expr):Prop:=∀{env:xy}{P:List Place}{vs:List (Option qz)}{σ σ':Sg}{X:Addr->Prop}{F:Fz}{s:qw}{A:zJ}{E:qz->qw->Prop}{o:Opnd},
 Cn Γ N env sc ν P n A->St C X F s.heap P vs σ->opn i (ev Γ i) σ=some (o,σ')->qK (zx C.prog C.w) A (eval e env) (PostO C X P vs F s σ' o) E s
noncomputable def PT (i:I)(n:Nat)(sc:x9)(ν:Nu)(e:Expr):Prop:=∀{env:xy}{P:List Place}{vs:List (Option qz)}{σ σ':Sg}{X:Addr->Prop}{F:Fz}{s:qw}{A:zJ}{E:qz->qw->Prop}{d:D}{b:Bool},
 Cn Γ N env sc ν P n A->St C X F s.heap P vs σ->uno i (ev Γ i) σ=some (d,σ')->zy6 d=some b->qK (zx C.prog C.w) A (isTrue e env (eval e env)) (PostB C X P vs F s σ' b) E s
noncomputable def PES (i:I)(n:Nat)(sc:x9)(ν:Nu)(es:List Expr):Prop:=∀{env:xy}{P:List Place}{vs:List (Option qz)}{σ σ':Sg}{X:Addr->Prop}{F:Fz}{s:qw}{A:zJ}{E:qz->qw->Prop}{ds:List D}{pos:Pos},
 Cn Γ N env sc ν P n A->St C X F s.heap P vs σ->evs Γ i σ=some (ds,σ')->qK (zx C.prog C.w) A (spliced (backTo pos (starEach es env))) (PostL C X P vs F s σ' ds) E s
noncomputable def PAnd (i:I)(n:Nat)(sc:x9)(ν:Nu)(es:List Expr):Prop:=∀{env:xy}{P:List Place}{vs:List (Option qz)}{σ σ':Sg}{X:Addr->Prop}{F:Fz}{s:qw}{A:zJ}{E:qz->qw->Prop}{d:D}{pos:Pos},
 Cn Γ N env sc ν P n A->St C X F s.heap P vs σ->yy2 Γ i σ=some (d,σ')->qK (zx C.prog C.w) A (eval (.BoolOp .And es pos) env) (PostZ C X P vs F s σ' d) E s /\
  ∀ b whole,zy6 d=some b->qK (zx C.prog C.w) A (isTrue (.BoolOp .And es pos) env whole) (PostB C X P vs F s σ' b) E s
noncomputable def POr (i:I)(n:Nat)(sc:x9)(ν:Nu)(es:List Expr):Prop:=∀{env:xy}{P:List Place}{vs:List (Option qz)}{σ σ':Sg}{X:Addr->Prop}{F:Fz}{s:qw}{A:zJ}{E:qz->qw->Prop}{d:D}{pos:Pos},
 Cn Γ N env sc ν P n A->St C X F s.heap P vs σ->evOr Γ i σ=some (d,σ')->qK (zx C.prog C.w) A (eval (.BoolOp .Or es pos) env) (PostZ C X P vs F s σ' d) E s /\
  ∀ b whole,zy6 d=some b->qK (zx C.prog C.w) A (isTrue (.BoolOp .Or es pos) env whole) (PostB C X P vs F s σ' b) E s
end
section
variable {C:Cx}{Γ:Mini.Env}{N:Nat}{n:Nat}{sc:x9}{ν:Nu}{env:xy}{P:List Place}{vs:List (Option qz)}{σ σ':Sg}{X:Addr->Prop}{F:Fz}{s:qw}{A:zJ}{E:qz->qw->Prop}
theorem wt4 {i:I}(h:xy1 i=false)(e:Ev)(σ:Sg):opn i e σ=(e σ).bind fun p=>some (.dat p.1,p.2.2):=by
 unfold xy1 at h
 unfold opn
 cases hb:brwK i with
 | none=>rfl
 | some k=>rw[hb]at h;exact absurd h.symm qj
theorem PE.opnd {i:I}{e:Expr}(hb:xy1 i=false)(h:PE C Γ N i n sc ν e):PO C Γ N i n sc ν e:=by
 intro env P vs σ σ' X F s A E o K S hv
 rw[wt4 hb]at hv
 refine bK1 (hv) fun p he hv=>?_
 refine sm2 hv ?_
 exact wpM (h K S he) (fun v s' hp=>let ⟨G,st,r⟩:=hp.freeze; ⟨G,st,r⟩)
theorem PO.brw {k:Nat}{x:Str}{p:Pos}(hx:Sl ν k x):PO C Γ N (.brw k) n sc ν (.Name x p):=by
 intro env P vs σ σ' X F s A E o K S hv
 refine bK1 (hv) fun d hl hv=>?_
 refine sm2 hv ?_
 refine elEA (S.look hl) fun v h1 h2=>?_
 exact zv9 K.O S hx.at' h1 hx.ok ⟨F,Step.refl S,h1⟩
theorem PE.frozen {i:I}{e:Expr}(h:PE C Γ N i n sc ν e){d:D}{f:Bool}(K:Cn Γ N env sc ν P n A)(S:St C X F s.heap P vs σ)(hv:ev Γ i σ=some (d,f,σ')) :
  qK (zx C.prog C.w) A (eval e env) (PostZ C X P vs F s σ' d) E s :=
 wpM (h K S hv) (fun v s' hp=>hp.freeze)
theorem xr1 {i j:I}{l r:Expr}(hi:PO C Γ N i n sc ν l)(hj:PO C Γ N j n sc ν r){x y:D}
  (K:Cn Γ N env sc ν P n A) (S:St C X F s.heap P vs σ) (hv:duo i (ev Γ i) j (ev Γ j) σ=some (x,y,σ')) :
  qK (zx C.prog C.w) A (eval l env) (fun a s₁=>qK (zx C.prog C.w) A (eval r env) (PostD C X P vs F s σ' x y a) E s₁) E s:=by
 refine bK2 (hv) fun o σ1 ho hv=>?_
 refine bK2 (hv) fun p σ2 hp hv=>?_
 refine bK1 (hv) fun a ha hv=>?_
 refine bK1 (hv) fun b hb hv=>?_
 refine sm3 hv ?_
 refine wpM (hi K S ho) (fun u s₁ q=>?_)
 obtain ⟨F1,st1,r1⟩:=q
 refine wpM (hj K st1.st hp) (fun v s₂ q=>?_)
 obtain ⟨F2,st2,r2⟩:=q
 exact⟨F2,st1.trans st2,(r1.mono st2.le).top st2.st ha,r2.top st2.st hb⟩
theorem xw3 {i:I}{l:Expr}(hi:PO C Γ N i n sc ν l){x:D}(K:Cn Γ N env sc ν P n A)(S:St C X F s.heap P vs σ)(hv:uno i (ev Γ i) σ=some (x,σ')) :
  qK (zx C.prog C.w) A (eval l env) (PostU C X P vs F s σ' x) E s:=by
 refine bK2 (hv) fun o σ1 ho hv=>?_
 refine bK1 (hv) fun d hd hv=>?_
 refine sm2 hv ?_
 refine wpM (hi K S ho) (fun u s₁ q=>?_)
 obtain ⟨F1,st1,r1⟩:=q
 exact⟨F1,st1,r1.top st1.st hd⟩
theorem yx0 {e:Expr}{op:CmpOp}(h:okE e):behindInMarks op e=false:=congrArg (·.1) (h default [] op .none .none .none)
theorem zw3 {e:Expr}{rest:List Expr}(h:okE e):starEach (e::rest) env=(false,eval e env)::starEach rest env:=congrArg (·.2.1) (h env rest .Eq .none .none .none)
theorem PE.cnone {k:Nat}{p:Pos}:PE C Γ N .cnone n sc ν (.Constant .none k p):=by
 intro env P vs σ σ' X F s A E d f K S hv
 refine sm3 hv ?_
 exact PyProof.Rows.Constant_none (Post.old (Step.refl S) (rfl))
theorem PE.cbool {b:Bool}{k:Nat}{p:Pos}:PE C Γ N (.cbool b) n sc ν (.Constant (.bool b) k p):=by
 intro env P vs σ σ' X F s A E d f K S hv
 refine sm3 hv ?_
 exact PyProof.Rows.Constant_bool (Post.old (Step.refl S) (rfl))
theorem PE.cint {b:Int}{k:Nat}{p:Pos}:PE C Γ N (.cint b) n sc ν (.Constant (.int b) k p):=by
 intro env P vs σ σ' X F s A E d f K S hv
 refine sm3 hv ?_
 exact wpAny_Constant_int (Post.old (Step.toks S _) (by simp[zq2]))
theorem PE.cstr {b:Str}{k:Nat}{p:Pos}:PE C Γ N (.cstr b) n sc ν (.Constant (.str b) k p):=by
 intro env P vs σ σ' X F s A E d f K S hv
 refine sm3 hv ?_
 exact wpAny_Constant_str (Post.old (Step.toks S _) (by simp[zj8]))
theorem xl3 {k:Nat}{d:D}{f:Bool}(h:useS σ k=some (d,f,σ')):f=false/\((σ[k]?=some (some (.val d))/\σ'=σ)\/(σ[k]?=some (some (.own d))/\σ'=σ.set k (some (.val d)))):=by
 unfold useS at h
 generalize e:σ[k]?=o at h |-
 cases o with
 | none=>cases h
 | some o =>
  cases o with
  | none=>cases h
  | some a =>
   cases a with
   | val d=>refine sm3 h ?_;exact⟨rfl,.inl ⟨rfl,rfl⟩⟩
   | own d=>refine sm3 h ?_;exact⟨rfl,.inr ⟨rfl,rfl⟩⟩
theorem PE.var {k:Nat}{x:Str}{p:Pos}(hx:Sl ν k x):PE C Γ N (.var k) n sc ν (.Name x p):=by
 intro env P vs σ σ' X F s A E d f K S hv
 obtain ⟨rfl,⟨hs,rfl⟩|⟨hs,rfl⟩⟩:=xl3 hv
 ·have hlt:k<vs.length:=by rw[<- S.lenS];exact(qV.mp hs).1
  refine elEA (S.slot k vs[k] _ (qJ hlt) hs) fun v e1 r=>?_
  exact zv9 K.O S hx.at' (by rw[qJ hlt,e1]) hx.ok (Post.old (Step.refl S) r)
 ·have hlt:k<vs.length:=by rw[<- S.lenS];exact(qV.mp hs).1
  refine zx4 (S.slot k vs[k] _ (qJ hlt) hs) fun a e1 _ r=>?_
  have hv:vs[k]?=some (some (.ref a)):=by rw[qJ hlt,e1]
  refine zx4 (S.freezeSlot hv hs) fun o S' r' l=>?_
  exact zv9 K.O S hx.at' hv hx.ok ⟨_,⟨Mini.iEE s.heap s.toks rfl,l,S',XSame.refl⟩,r'⟩
theorem Ground.big (G:Ground C Γ N){h:Heap}(S:St C X F h P vs σ):uJ<h.objs.size:=by
 refine elEEEA (G.ns) fun o _ _ h1 _=>?_
 have:=xk (S.base _ _ h1)
 exact Z8 (by decide) this
theorem zo9 {x:Str}(h:zz5 sc ν x=true):sc.names.lookup x=some .globalImplicit/\zm0 x=true:=by
 unfold zz5 at h
 simp only[zj,beq_iff_eq]at h
 exact⟨h.1.1,h.2⟩
theorem yb8 {h:Heap}{a:Addr}{m:Str->Option qz}(S:St C X F h P vs σ)(x:C.H.Ns a m):h.Ns a m:=by
 refine elEEEA (x) fun o es ep h1 h2=>?_
 exact⟨o,es,ep,S.base _ _ h1,h2⟩
theorem yu9 (G:Ground C Γ N)(O:EnvOk env sc ν P)(S:St C X F s.heap P vs σ){x:Str}{v:qz}{pos:Pos}(hg:zz5 sc ν x=true)(hv:C.mg x=some v){Q:qz->qw->Prop}(h:Q v s) :
  qK (zx C.prog C.w) A (eval (.Name x pos) env) Q E s :=
 Calls.Name_function_global O.kind (O.gl x (zo9 hg).1) (Calls.loadGlobal_global (by rw[O.glob];exact yb8 S G.ns) hv h) (zk7 (zo9 hg).2)
theorem zr7 (G:Ground C Γ N)(O:EnvOk env sc ν P)(S:St C X F s.heap P vs σ){x:Str}{v:qz}{pos:Pos}(hg:zz5 sc ν x=true)(hv:yz7 x=some v){Q:qz->qw->Prop}(h:Q v s) :
  qK (zx C.prog C.w) A (eval (.Name x pos) env) Q E s :=
 Calls.Name_function_global O.kind (O.gl x (zo9 hg).1) (Calls.loadGlobal_builtin (by rw[O.glob];exact yb8 S G.ns) (G.blt x v hv).1 (by rw[O.blt];exact yb8 S G.nb) (G.blt x v hv).2 h) (zk7 (zo9 hg).2)
theorem PE.glob (G:Ground C Γ N){x:Str}{p:Pos}(hg:zz5 sc ν x=true):PE C Γ N (.glob x) n sc ν (.Name x p):=by
 intro env P vs σ σ' X F s A E d f K S hv
 refine bK1 (hv) fun d' hd hv=>?_
 refine sm3 hv ?_
 refine elEA (G.glob _ _ hd) fun v h1 h2=>?_
 exact yu9 G K.O S hg h1 (Post.old (Step.refl S) (Rep.mono S.low _ h2))
theorem PE.bin {op:Operator}{a b:I}{l r:Expr}{p:Pos}(ha:PO C Γ N a n sc ν l)(hb:PO C Γ N b n sc ν r):PE C Γ N (.bin op a b) n sc ν (.BinOp l op r p):=by
 intro env P vs σ σ' X F s A E d f K S hv
 refine bK3 (hv) fun x y σ1 hd hv=>?_
 refine bK2 (hv) fun d' f' hb' hv=>?_
 refine sm3 hv ?_
 refine wpAny_BinOp (wpM (xr1 ha hb K S hd) (fun u s₁ q=>wpM q (fun v s₂ q=>?_)))
 obtain ⟨F',st,ta,tb⟩:=q
 exact wpM (wb2 st.st.sub ta tb hb') (fun v s₃ g=>Post.trans st (g.post st.st))
theorem PE.cmp (G:Ground C Γ N){op:CmpOp}{a b:I}{l r:Expr}{p:Pos}(ha:PO C Γ N a n sc ν l)(hb:PO C Γ N b n sc ν r)(hr:okE r):PE C Γ N (.cmp op a b) n sc ν (.Compare l [op] [r] p):=by
 intro env P vs σ σ' X F s A E d f K S hv
 refine bK3 (hv) fun x y σ1 hd hv=>?_
 refine bK1 (hv) fun r' hb' hv=>?_
 refine sm3 hv ?_
 refine wpAny_Compare1 (wpM (xr1 ha hb K S hd) (fun u s₁ q=>wpM q (fun v s₂ q=>?_))) (yx0 hr)
 obtain ⟨F',st,ta,tb⟩:=q
 refine wpM (xr5 G.di K.R st.st.sub ta tb hb') (fun v s₃ g=>?_)
 (refine elAE (g) fun e_0 tk e=>?_;subst e_0)
 exact⟨F',st.then e,rfl⟩
end
section
variable {C:Cx}{Γ:Mini.Env}{N:Nat}{n:Nat}{sc:x9}{ν:Nu}{env:xy}{P:List Place}{vs:List (Option qz)}{σ σ':Sg}{X:Addr->Prop}{F:Fz}{s:qw}{A:zJ}{E:qz->qw->Prop}
theorem yw0 {i:I}(hb:xy1 i=false){d:D}:uno i (ev Γ i) σ=some (d,σ')↔∃ f,ev Γ i σ=some (d,f,σ'):=by
 unfold uno
 rw[wt4 hb]
 constructor
 ·intro h
  refine bK1 (h) fun p h h2=>?_
  refine bK1 (h) fun q h3 h=>?_
  cases h
  cases h2
  exact⟨q.2.1,h3⟩
 ·rintro ⟨f,h⟩
  rw[h];rfl
theorem yt9 {i:I}{d:D}{f:Bool}(h:ev Γ i σ=some (d,f,σ')):uno i (ev Γ i) σ=some (d,σ'):=by
 refine(yw0 ?_).mpr ⟨f,h⟩
 cases i<;>first|rfl|exact(noS h).elim
theorem PT.plain {i:I}{e:Expr}(h:PO C Γ N i n sc ν e)(hp:∀ env whole,isTrue e env whole=(do let v <- whole; standAt e.pos; holding [v] (truthy v))):PT C Γ N i n sc ν e:=by
 intro env P vs σ σ' X F s A E d b K S hv ht
 refine PyProof.Rows.isTrue_plain (wpM (xw3 h K S hv) (fun u s₁ q=>?_)) (hp _ _)
 obtain ⟨F1,st,t⟩:=q
 refine wpM (zf8 st.st.sub t ht) (fun r s₂ q=>?_)
 (refine elAE (q) fun e_0 tk e=>?_;subst e_0)
 exact⟨rfl,F1,st.then e⟩
theorem PE.not {a:I}{e:Expr}{p:Pos}(ha:PO C Γ N a n sc ν e):PE C Γ N (.not a) n sc ν (.UnaryOp .Not e p):=by
 intro env P vs σ σ' X F s A E d f K S hv
 refine bK2 (hv) fun x σ1 he hv=>?_
 refine bK1 (hv) fun b hb hv=>?_
 refine sm3 hv ?_
 refine PyProof.Rows.UnaryOp_ (wpM (xw3 ha K S he) (fun v s₁ q=>?_))
 obtain ⟨F1,st,t⟩:=q
 refine PyProof.Rows.not_of (wpM (zf8 st.st.sub t hb) (fun r s₂ q=>?_))
 (refine elAE (q) fun e_0 tk e=>?_;subst e_0)
 exact⟨F1,st.then e,rfl⟩
theorem PT.not {a:I}{e:Expr}{p:Pos}(ha:PT C Γ N a n sc ν e):PT C Γ N (.not a) n sc ν (.UnaryOp .Not e p):=by
 intro env P vs σ σ' X F s A E d b K S hv ht
 obtain ⟨f,hv⟩:=(yw0 rfl).mp hv
 refine bK2 (hv) fun x σ1 he hv=>?_
 refine bK1 (hv) fun b hb hv=>?_
 cases hv
 cases ht
 refine PyProof.Rows.isTrue_not (wpM (ha K S he hb) (fun r s₂ q=>?_))
 obtain ⟨e,F1,st⟩:=q
 exact⟨by rw[e],F1,st⟩
theorem yt1 {M:Model}{A:zJ}{E:qz->qw->Prop}{s:qw}{env:xy}{l:Expr}{op:CmpOp}{r:Expr}{pos:Pos}{whole:Sem qz}{Q:Bool->qw->Prop}
  (h:qK M A (eval l env) (fun a s₁=>qK M A (eval r env) (fun b s₂=>qK M A (ZK op a b) (fun c s₃=>qK M A (truthy c) Q E s₃) E s₂) E s₁) E s)
  (hm:behindInMarks op r=false):qK M A (isTrue (.Compare l [op] [r] pos) env whole) Q E s:=by
 show qK M A (do testChain pos (<- eval l env) [op] (markedEach [op] [r] (evalEach [r] env))) Q E s
 rw[PyProof.Rows.markedEach_of_false _ _ _ (by simpa[lastMarks] using hm)]
 exact qq (wpM h (fun a s₁ h₁=>PyProof.Rows.test_last h₁))
theorem PT.cmp (G:Ground C Γ N){op:CmpOp}{a b:I}{l r:Expr}{p:Pos}(ha:PO C Γ N a n sc ν l)(hb:PO C Γ N b n sc ν r)(hr:okE r):PT C Γ N (.cmp op a b) n sc ν (.Compare l [op] [r] p):=by
 intro env P vs σ σ' X F s A E d b K S hv ht
 obtain ⟨f,hv⟩:=(yw0 rfl).mp hv
 refine bK3 (hv) fun x y σ1 hd hv=>?_
 refine bK1 (hv) fun r' hb' hv=>?_
 cases hv
 cases ht
 refine yt1 (wpM (xr1 ha hb K S hd) (fun u s₁ q=>wpM q (fun v s₂ q=>?_))) (yx0 hr)
 obtain ⟨F',st,ta,tb⟩:=q
 refine wpM (xr5 G.di K.R st.st.sub ta tb hb') (fun v s₃ g=>?_)
 (refine elAE (g) fun e_0 tk e=>?_;subst e_0)
 exact Z0 ⟨rfl,F',st.then e⟩
theorem yf8 (G:Ground C Γ N){o1 o2:CmpOp}{a b c:I}{l r1 r2:Expr}(ha:PE C Γ N a n sc ν l)(hb:PE C Γ N b n sc ν r1)(hc:PE C Γ N c n sc ν r2){d:D}{f:Bool}
  (K:Cn Γ N env sc ν P n A) (S:St C X F s.heap P vs σ) (hv:ev Γ (.cmp2 o1 o2 a b c) σ=some (d,f,σ')) :
  ∃ t,d=.bool t/\f=false/\qK (zx C.prog C.w) A (eval l env) (fun u s₁=>qK (zx C.prog C.w) A (eval r1 env) (fun v s₂=>qK (zx C.prog C.w) A (ZK o1 u v) (fun q s₃ =>
   (q=.bool false/\t=false/\∃ F',Step C X P vs F s σ' F' s₃) \/
   (q=.bool true/\qK (zx C.prog C.w) A (eval r2 env) (fun x s₄=>qK (zx C.prog C.w) A (ZK o2 v x) (fun q s₅=>q=.bool t/\∃ F',Step C X P vs F s σ' F' s₅) E s₄) E s₃)) E s₂) E s₁) E s:=by
 refine bK3 (hv) fun x fx σ1 e1 hv=>?_
 refine bK3 (hv) fun y fy σ2 e2 hv=>?_
 refine bK1 (hv) fun q hq hv=>?_
 have fin:∀(T:qz->qz->qw->Prop),(∀ u v s₂ F2,Step C X P vs F s σ2 F2 s₂->Rep C.w F2 x u->Rep C.w F2 y v->∀ tk,T (.bool q) v { s₂ with toks:=tk }) ->
   qK (zx C.prog C.w) A (eval l env) (fun u s₁=>qK (zx C.prog C.w) A (eval r1 env) (fun v s₂=>qK (zx C.prog C.w) A (ZK o1 u v) (fun c s₃=>T c v s₃) E s₂) E s₁) E s:=by
  intro T hT
  refine wpM (ha.frozen K S e1) (fun u s₁ p=>?_)
  obtain ⟨F1,st1,ru⟩:=p
  refine wpM (hb.frozen K st1.st e2) (fun v s₂ p=>?_)
  obtain ⟨F2,st2,rv⟩:=p
  have ru':=Rep.mono st2.le _ ru
  refine wpM (xr5 G.di K.R st2.st.sub (.inl ru') (.inl rv) hq) (fun c s₃ p=>?_)
  (refine elAE (p) fun e_0 tk e_2=>?_;subst e_0;subst e_2)
  exact hT u v s₂ F2 (st1.trans st2) ru' rv tk
 cases q with
 | true =>
  refine bK3 (hv) fun z fz σ3 e3 hv=>?_
  refine bK1 (hv) fun r hr hv=>?_
  refine sm3 hv ?_
  refine Mini.iEAA r rfl rfl (fin (fun c v s₃=>_) fun u v s₂ F2 st ru rv tk=>.inr ⟨rfl,?_⟩)
  have st':Step C X P vs F s σ2 F2 { s₂ with toks:=tk }:=st.then rfl
  refine wpM (hc.frozen K st'.st e3) (fun x s₄ p=>?_)
  obtain ⟨F3,st3,rx⟩:=p
  refine wpM (xr5 G.di K.R st3.st.sub (.inl (Rep.mono st3.le _ rv)) (.inl rx) hr) (fun c s₅ p=>?_)
  (refine elAE (p) fun e_0 tk' e=>?_;subst e_0)
  exact⟨rfl,⟨F3,(st'.trans st3).then e⟩⟩
 | false =>
  refine sm3 hv ?_
  exact Mini.iEAA false rfl rfl (fin (fun c v s₃=>_) fun u v s₂ F2 st ru rv tk=>.inl (Mini.iAA rfl rfl ⟨F2,st.then rfl⟩))
theorem PE.cmp2 (G:Ground C Γ N){o1 o2:CmpOp}{a b c:I}{l r1 r2:Expr}{p:Pos}(ha:PE C Γ N a n sc ν l)(hb:PE C Γ N b n sc ν r1)(hc:PE C Γ N c n sc ν r2)(h2:okE r2):PE C Γ N (.cmp2 o1 o2 a b c) n sc ν (.Compare l [o1,o2] [r1,r2] p):=by
 intro env P vs σ σ' X F s A E d f K S hv
 (refine zx4 (yf8 (E:=E) G ha hb hc K S hv) fun t e_1 e_2 hw=>?_;subst e_1;subst e_2)
 refine PyProof.Rows.Compare_chain (wpM hw (fun u s₁ q=>PyProof.Rows.chain_link (wpM q (fun v s₂ q=>wpM q (fun c s₃ q=>?_))))) (by simpa[lastMarks] using yx0 h2)
 rcases q with ⟨rfl,rfl,F',st⟩|⟨rfl,q⟩
 ·exact Z0 ⟨F',st,rfl⟩
 ·refine Z0 (PyProof.Rows.chain_last (wpM q (fun x s₄ q=>wpM q (fun c s₅ q=>?_))))
  (refine elAE (q) fun e_0 F' st=>?_;subst e_0)
  exact⟨F',st,rfl⟩
theorem PT.cmp2 (G:Ground C Γ N){o1 o2:CmpOp}{a b c:I}{l r1 r2:Expr}{p:Pos}(ha:PE C Γ N a n sc ν l)(hb:PE C Γ N b n sc ν r1)(hc:PE C Γ N c n sc ν r2)(h2:okE r2):PT C Γ N (.cmp2 o1 o2 a b c) n sc ν (.Compare l [o1,o2] [r1,r2] p):=by
 intro env P vs σ σ' X F s A E d bb K S hv ht
 obtain ⟨f,hv⟩:=(yw0 rfl).mp hv
 (refine zx4 (yf8 (E:=E) G ha hb hc K S hv) fun t e_1 e_2 hw=>?_;subst e_1;subst e_2)
 cases ht
 refine PyProof.Rows.isTrue_chain (wpM hw (fun u s₁ q=>PyProof.Rows.test_link (wpM q (fun v s₂ q=>wpM q (fun c s₃ q=>?_))))) (by simpa[lastMarks] using yx0 h2)
 rcases q with ⟨rfl,rfl,F',st⟩|⟨rfl,q⟩
 ·exact Z0 ⟨rfl,F',st⟩
 ·refine Z0 (PyProof.Rows.test_last (wpM q (fun x s₄ q=>wpM q (fun c s₅ q=>?_))))
  (refine elAE (q) fun e_0 F' st=>?_;subst e_0)
  exact Z0 ⟨rfl,F',st⟩
theorem PostB.trans {X:Addr->Prop}{P:List Place}{vs:List (Option qz)}{F F':Fz}{s s' s'':qw}{σ' σ'':Sg}{b r:Bool}(a:Step C X P vs F s σ' F' s')(q:PostB C X P vs F' s' σ'' b r s''):PostB C X P vs F s σ'' b r s'' :=
 let ⟨e,F2,st2⟩:=q; ⟨e,F2,a.trans st2⟩
theorem PostZ.trans {X:Addr->Prop}{P:List Place}{vs:List (Option qz)}{F F':Fz}{s s' s'':qw}{σ' σ'':Sg}{d:D}{v:qz}(a:Step C X P vs F s σ' F' s')(q:PostZ C X P vs F' s' σ'' d v s''):PostZ C X P vs F s σ'' d v s'' :=
 let ⟨F2,st2,r⟩:=q; ⟨F2,a.trans st2,r⟩
theorem PE.ite {c a b:I}{q x y:Expr}{p:Pos}(hc:PT C Γ N c n sc ν q)(ha:PE C Γ N a n sc ν x)(hb:PE C Γ N b n sc ν y):PE C Γ N (.ite c a b) n sc ν (.IfExp q x y p):=by
 intro env P vs σ σ' X F s A E d f K S hv
 refine bK2 (hv) fun d' σ1 he hv=>?_
 refine bK1 (hv) fun r hb' hv=>?_
 refine PyProof.Rows.IfExp_ (wpM (hc K S he hb') (fun r' s₁ q=>?_))
 obtain ⟨rfl,F1,st⟩:=q
 cases r'
 ·exact wpM (hb K st.st hv) (fun v s₂ q=>Post.trans st q)
 ·exact wpM (ha K st.st hv) (fun v s₂ q=>Post.trans st q)
theorem PT.ite {c a b:I}{q x y:Expr}{p:Pos}(hc:PT C Γ N c n sc ν q)(ha:PT C Γ N a n sc ν x)(hb:PT C Γ N b n sc ν y):PT C Γ N (.ite c a b) n sc ν (.IfExp q x y p):=by
 intro env P vs σ σ' X F s A E d bb K S hv ht
 obtain ⟨f,hv⟩:=(yw0 rfl).mp hv
 refine bK2 (hv) fun d' σ1 he hv=>?_
 refine bK1 (hv) fun r hb' hv=>?_
 refine PyProof.Rows.isTrue_IfExp (wpM (hc K S he hb') (fun r' s₁ q=>?_))
 obtain ⟨rfl,F1,st⟩:=q
 cases r'
 ·exact wpM (hb K st.st (yt9 hv) ht) (fun v s₂ q=>q.trans st)
 ·exact wpM (ha K st.st (yt9 hv) ht) (fun v s₂ q=>q.trans st)
theorem PAnd.last {a:I}{e:Expr}(ha:PE C Γ N a n sc ν e)(ta:PT C Γ N a n sc ν e):PAnd C Γ N (.cons a .nil) n sc ν [e]:=by
 intro env P vs σ σ' X F s A E d pos K S hv
 refine bK3 (hv) fun d' f σ1 he hv=>?_
 refine sm2 hv ?_
 refine⟨PyProof.Rows.BoolOp_one (ha.frozen K S he),fun b whole hb2=>?_⟩
 refine PyProof.Rows.isTrue_and (wpM (ta K S (yt9 he) hb2) (fun c s₁ q=>?_))
 obtain ⟨rfl,F1,st⟩:=q
 cases c
 ·exact⟨rfl,F1,st⟩
 ·exact PyProof.Rows.isTrue_and_nil ⟨rfl,F1,st⟩
theorem PAnd.more {a a2 r2:I}{e e2:Expr}{es:List Expr}(ha:PE C Γ N a n sc ν e)(ta:PT C Γ N a n sc ν e)(hr:PAnd C Γ N (.cons a2 r2) n sc ν (e2::es)):PAnd C Γ N (.cons a (.cons a2 r2)) n sc ν (e::e2::es):=by
 intro env P vs σ σ' X F s A E d pos K S hv
 refine bK3 (hv) fun d' f σ1 he hv=>?_
 refine bK1 (hv) fun c0 hc0 hv=>?_
 have hu:=yt9 he
 refine⟨PyProof.Rows.BoolOp_and (wpM (ha.frozen K S he) (fun v s₁ q=>?_)),fun b whole hb2=>?_⟩
 ·obtain ⟨F1,st,r⟩:=q
  refine wpM (zf8 st.st.sub (.inl r) hc0) (fun c s₂ q=>?_)
  (refine elAE (q) fun e_0 tk e=>?_;subst e_0)
  have st':=st.then e
  cases c with
  | true=>exact kK (hr K st'.st hv).1 (fun v s₃ q=>q.trans st') fun _ _ x=>x
  | false=>cases hv;exact⟨F1,st',r⟩
 ·refine PyProof.Rows.isTrue_and (wpM (ta K S hu hc0) (fun c s₁ q=>?_))
  obtain ⟨rfl,F1,st⟩:=q
  cases c with
  | true=>exact wpM ((hr K st.st hv).2 b whole hb2) (fun v s₃ q=>q.trans st)
  | false=>cases hv;rw[hc0]at hb2;cases hb2;exact⟨rfl,F1,st⟩
theorem POr.last {a:I}{e:Expr}(ha:PE C Γ N a n sc ν e)(ta:PT C Γ N a n sc ν e):POr C Γ N (.cons a .nil) n sc ν [e]:=by
 intro env P vs σ σ' X F s A E d pos K S hv
 refine bK3 (hv) fun d' f σ1 he hv=>?_
 refine sm2 hv ?_
 refine⟨PyProof.Rows.BoolOp_one (ha.frozen K S he),fun b whole hb2=>?_⟩
 refine PyProof.Rows.isTrue_or (wpM (ta K S (yt9 he) hb2) (fun c s₁ q=>?_))
 obtain ⟨rfl,F1,st⟩:=q
 cases c
 ·exact PyProof.Rows.isTrue_or_nil ⟨rfl,F1,st⟩
 ·exact⟨rfl,F1,st⟩
theorem POr.more {a a2 r2:I}{e e2:Expr}{es:List Expr}(ha:PE C Γ N a n sc ν e)(ta:PT C Γ N a n sc ν e)(hr:POr C Γ N (.cons a2 r2) n sc ν (e2::es)):POr C Γ N (.cons a (.cons a2 r2)) n sc ν (e::e2::es):=by
 intro env P vs σ σ' X F s A E d pos K S hv
 refine bK3 (hv) fun d' f σ1 he hv=>?_
 refine bK1 (hv) fun c0 hc0 hv=>?_
 have hu:=yt9 he
 refine⟨PyProof.Rows.BoolOp_or (wpM (ha.frozen K S he) (fun v s₁ q=>?_)),fun b whole hb2=>?_⟩
 ·obtain ⟨F1,st,r⟩:=q
  refine wpM (zf8 st.st.sub (.inl r) hc0) (fun c s₂ q=>?_)
  (refine elAE (q) fun e_0 tk e=>?_;subst e_0)
  have st':=st.then e
  cases c with
  | false=>exact kK (hr K st'.st hv).1 (fun v s₃ q=>q.trans st') fun _ _ x=>x
  | true=>cases hv;exact⟨F1,st',r⟩
 ·refine PyProof.Rows.isTrue_or (wpM (ta K S hu hc0) (fun c s₁ q=>?_))
  obtain ⟨rfl,F1,st⟩:=q
  cases c with
  | false=>exact wpM ((hr K st.st hv).2 b whole hb2) (fun v s₃ q=>q.trans st)
  | true=>cases hv;rw[hc0]at hb2;cases hb2;exact⟨rfl,F1,st⟩
theorem PE.and {l:I}{es:List Expr}{p:Pos}(h:PAnd C Γ N l n sc ν es):PE C Γ N (.and l) n sc ν (.BoolOp .And es p):=by
 intro env P vs σ σ' X F s A E d f K S hv
 refine bK2 (hv) fun d' σ1 he hv=>?_
 refine sm3 hv ?_
 exact kK (h K S he).1 (fun v s₁ q=>let ⟨F1,st,r⟩:=q; ⟨F1,st,r⟩) fun _ _ x=>x
theorem PT.and {l:I}{es:List Expr}{p:Pos}(h:PAnd C Γ N l n sc ν es):PT C Γ N (.and l) n sc ν (.BoolOp .And es p):=by
 intro env P vs σ σ' X F s A E d b K S hv ht
 obtain ⟨f,hv⟩:=(yw0 rfl).mp hv
 refine bK2 (hv) fun d' σ1 he hv=>?_
 cases hv
 exact(h K S he).2 _ _ ht
theorem PE.or {l:I}{es:List Expr}{p:Pos}(h:POr C Γ N l n sc ν es):PE C Γ N (.or l) n sc ν (.BoolOp .Or es p):=by
 intro env P vs σ σ' X F s A E d f K S hv
 refine bK2 (hv) fun d' σ1 he hv=>?_
 refine sm3 hv ?_
 exact kK (h K S he).1 (fun v s₁ q=>let ⟨F1,st,r⟩:=q; ⟨F1,st,r⟩) fun _ _ x=>x
theorem PT.or {l:I}{es:List Expr}{p:Pos}(h:POr C Γ N l n sc ν es):PT C Γ N (.or l) n sc ν (.BoolOp .Or es p):=by
 intro env P vs σ σ' X F s A E d b K S hv ht
 obtain ⟨f,hv⟩:=(yw0 rfl).mp hv
 refine bK2 (hv) fun d' σ1 he hv=>?_
 cases hv
 exact(h K S he).2 _ _ ht
theorem PES.nil:PES C Γ N .nil n sc ν []:=by
 intro env P vs σ σ' X F s A E ds pos K S hv
 cases hv
 exact vW ⟨F,Step.refl S,RepL.nil_⟩
theorem PES.cons {a r:I}{e:Expr}{es:List Expr}(ha:PE C Γ N a n sc ν e)(h0:okE e)(hr:PES C Γ N r n sc ν es):PES C Γ N (.cons a r) n sc ν (e::es):=by
 intro env P vs σ σ' X F s A E ds pos K S hv
 refine bK3 (hv) fun d f σ1 he hv=>?_
 refine bK2 (hv) fun ds' σ2 hes hv=>?_
 refine sm2 hv ?_
 refine w4 (wpM (ha.frozen K S he) (fun v s₁ q=>?_)) (zw3 h0)
 obtain ⟨F1,st,r⟩:=q
 refine wpM (hr K st.st hes) (fun vs s₂ q=>?_)
 obtain ⟨F2,st2,r2⟩:=q
 exact⟨F2,st.trans st2,RepL.cons_ (Rep.mono st2.le _ r) r2⟩
theorem PE.tup {l:I}{es:List Expr}{q:Nat}{p:Pos}(h:PES C Γ N l n sc ν es):PE C Γ N (.tup l) n sc ν (.Tuple es q p):=by
 intro env P vs σ σ' X F s A E d f K S hv
 refine bK2 (hv) fun ds σ1 he hv=>?_
 refine bK2 (hv) fun d' f' hm hv=>?_
 refine sm3 hv ?_
 obtain ⟨hz,hm⟩:=ifS hm
 cases hm
 refine wpAny_Tuple (wpM (h K S he) (fun ws s₁ q=>?_))
 obtain ⟨F1,st,r⟩:=q
 refine⟨by rw[r.length,zn3];exact hz,?_⟩
 exact Post.trans st ((Grown.tuple (tk:=s₁.toks) st.st.sub hz (by simpa using r)).post st.st)
theorem PE.lst {l:I}{es:List Expr}{p:Pos}(h:PES C Γ N l n sc ν es):PE C Γ N (.lst l) n sc ν (.List es p):=by
 intro env P vs σ σ' X F s A E d f K S hv
 refine bK2 (hv) fun ds σ1 he hv=>?_
 refine bK2 (hv) fun d' f' hm hv=>?_
 refine sm3 hv ?_
 obtain ⟨hz,hm⟩:=ifS hm
 cases hm
 refine wpAny_List (wpM (h K S he) (fun ws s₁ q=>?_))
 obtain ⟨F1,st,r⟩:=q
 refine⟨by rw[r.length,zn3];exact hz,?_⟩
 exact Post.trans st ((Grown.list (tk:=s₁.toks) hz (by simpa using r)).post st.st)
theorem PE.dct0 (G:Ground C Γ N){p:Pos}:PE C Γ N .dct0 n sc ν (.Dict [] [] p):=by
 intro env P vs σ σ' X F s A E d f K S hv
 refine sm3 hv ?_
 exact wpAny_Dict_empty ((Grown.dict (tk:=s.toks) (xs:=[]) ⟨vq _,kJ⟩ (rfl) (G.big S)).post S)
theorem Post.back {X:Addr->Prop}{P:List Place}{vs:List (Option qz)}{F:Fz}{s s':qw}{σ:Sg}{d:D}{f:Bool}{v:qz}(S:St C X F s.heap P vs σ)(q:Post C (Hold F s.heap) [] [] F s [] d f v s'):Post C X P vs F s σ d f v s':=by
 obtain ⟨F',st,r⟩:=q
 exact⟨F',⟨st.eq,st.le,S.back st.st st.le st.same,XSame.back S st.same⟩,ResOk.back S r⟩
theorem PE.call (G:Ground C Γ N){g:Str}{l:I}{e:Expr}{es:List Expr}{px p:Pos}(hg:zz5 sc ν g=true)(h:PES C Γ N l n sc ν (e::es))(h0:okE e):PE C Γ N (.call g l) n sc ν (.Call (.Name g px) (e::es) [] p):=by
 intro env P vs σ σ' X F s A E d f K S hv
 refine bK2 (hv) fun ds σ1 he hv=>?_
 refine bK2 (hv) fun d' f' hc hv=>?_
 refine sm3 hv ?_
 obtain ⟨a,o,fd,h1,h2,h3,h4⟩:=G.call _ _ _ _ hc
 refine j4 (yu9 G K.O S hg h1 ?_)
 refine PyProof.Rows.callWith_def (o:=o) (fd:=fd) h3 (wpM (h K S he) (fun ws s₁ q=>?_)) (zw3 h0)
 obtain ⟨F1,st,r⟩:=q
 refine⟨st.st.base _ _ h2,wpM (h4 A E s₁ F1 _ ws K.R st.st.bare r) (fun v s₂ q=>?_)⟩
 exact Post.trans st (Post.back st.st q)
theorem we3 {r:Expr}(h:okE r)(o i:qz):subscripted r false o i=operate [o,i] (getItem o i):=congrArg (·.2.2.1) (h default [] .Eq o i .none)
theorem PE.idx (G:Ground C Γ N){a i:I}{l r:Expr}{p:Pos}(ha:PO C Γ N a n sc ν l)(hi:PO C Γ N i n sc ν r)(h0:okE r):PE C Γ N (.idx a i) n sc ν (.Subscript l r p):=by
 intro env P vs σ σ' X F s A E d f K S hv
 refine bK3 (hv) fun x y σ1 hd hv=>?_
 refine bK1 (hv) fun d' hb' hv=>?_
 refine sm3 hv ?_
 refine PyProof.Rows.Subscript_ (wpM (xr1 ha hi K S hd) (fun u s₁ q=>wpM q (fun v s₂ q=>?_)))
 obtain ⟨F',st,ta,tb⟩:=q
 refine wpM (xq4 G.dg K.R st.st.sub ta tb hb' (we3 h0)) (fun v s₃ g=>?_)
 refine elAE (g) fun r tk e=>?_
 exact⟨F',st.then e,r⟩
end
section
variable {C:Cx}{Γ:Mini.Env}{N:Nat}{n:Nat}{sc:x9}{ν:Nu}{env:xy}{P:List Place}{vs:List (Option qz)}{σ σ':Sg}{X:Addr->Prop}{F:Fz}{s:qw}{A:zJ}{E:qz->qw->Prop}
theorem yh0 (p:Prim):yz7 p.name=some (yv3 p):=by cases p<;>decide
theorem yk1 {A:zJ}{E:qz->qw->Prop}{s:qw}{env:xy}{pos:Pos}{p:Prim}{e:Expr}{rest:List Expr}{Q:qz->qw->Prop}
  (h:qK (zx C.prog C.w) A (spliced (backTo pos (starEach (e::rest) env))) (fun vs s₁=>qK (zx C.prog C.w) A (call (yv3 p) vs) Q E s₁) E s)
  (he:starEach (e::rest) env=(false,eval e env)::starEach rest env) (hplain:(backTo pos (starEach rest env)).any (·.1)=false) :
  qK (zx C.prog C.w) A (callWith pos (yv3 p) [] (backTo pos (starEach (e::rest) env)) []) Q E s:=by
 cases p with
 | len=>exact yj (id := "len") h he hplain
 | sorted=>exact yj (id := "sorted") h he hplain
 | min=>exact yj (id := "min") h he hplain
 | max=>exact yj (id := "max") h he hplain
 | tuple=>exact wx (T := "tuple") h he hplain
 | list=>exact wx (T := "list") h he hplain
 | dict=>exact wx (T := "dict") h he hplain
 | int=>exact wx (T := "int") h he hplain
theorem PE.prim1 (G:Ground C Γ N){q:Prim}{a:I}{e:Expr}{px p:Pos}(hg:zz5 sc ν q.name=true)(ha:PO C Γ N a n sc ν e)(h0:okE e):PE C Γ N (.prim1 q a) n sc ν (.Call (.Name q.name px) [e] [] p):=by
 intro env P vs σ σ' X F s A E d f K S hv
 refine bK2 (hv) fun x σ1 hx hv=>?_
 refine bK2 (hv) fun d' f' hp hv=>?_
 refine sm3 hv ?_
 refine j4 (zr7 G K.O S hg (yh0 q) ?_)
 refine yk1 (w4 (wpM (xw3 ha K S hx) (fun v s₁ q=>vW ?_)) (zw3 h0)) (zw3 h0) rfl
 obtain ⟨F1,st,t⟩:=q
 exact wpM (wz4 G.pr K.R st.st.sub t hp) (fun v s₂ g=>Post.trans st (g.post st.st))
theorem PE.dzip (G:Ground C Γ N){a b:I}{ea eb:Expr}{p1 p2 p3 q1 q2 q3:Pos}(hd:zz5 sc ν "dict" = true)(hl:zz5 sc ν "list" = true)(hz:zz5 sc ν "zip" = true)(ha:PE C Γ N a n sc ν ea)(hb:PE C Γ N b n sc ν eb)(h1:okE ea)(h2:okE eb) :
  PE C Γ N (.dzip a b) n sc ν (.Call (.Name "dict" p1) [.Call (.Name "list" p2) [.Call (.Name "zip" p3) [ea,eb] [] q3] [] q2] [] q1):=by
 intro env P vs σ σ' X F s A E d f K S hv
 refine bK3 (hv) fun x fx σ1 hx hv=>?_
 refine bK3 (hv) fun y fy σ2 hy hv=>?_
 refine bK1 (hv) fun d' hp hv=>?_
 refine sm3 hv ?_
 refine j4 (zr7 (v:=.type "dict") G K.O S hd (by decide) ?_)
 refine wx (w4 ?_ (by rfl)) (by rfl) rfl
 refine j4 (zr7 (v:=.type "list") G K.O S hl (by decide) ?_)
 refine wx (w4 ?_ (by rfl)) (by rfl) rfl
 refine j4 (zr7 (v:=.type "zip") G K.O S hz (by decide) ?_)
 refine wx (w4 (wpM (ha.frozen K S hx) (fun v s₁ q=>w4 ?_ (zw3 h2))) (zw3 h1)) (zw3 h1) (by rw[zw3 h2];rfl)
 obtain ⟨F1,st,r⟩:=q
 refine wpM (hb.frozen K st.st hy) (fun u s₂ q=>vW ?_)
 obtain ⟨F2,st2,r2⟩:=q
 have st3:=st.trans st2
 refine wpM (G.dz _ _ _ _ _ _ K.R st3.st.sub (G.big st3.st) (Rep.mono st2.le _ r) r2 hp) fun z s₃ q=>vW (wpM q fun l s₄ q=>vW (wpM q fun v s₅ g=>Post.trans st3 (g.post st3.st)))
theorem PE.isi (G:Ground C Γ N){a:I}{ty:Str}{e:Expr}{px py p:Pos}(hg:zz5 sc ν "isinstance" = true)(ha:PO C Γ N a n sc ν e)(h0:okE e)(hg':zz5 sc ν ty=true):PE C Γ N (.isi a ty) n sc ν (.Call (.Name "isinstance" px) [e,.Name ty py] [] p):=by
 intro env P vs σ σ' X F s A E d f K S hv
 refine bK2 (hv) fun x σ1 he hv=>?_
 refine bK1 (hv) fun b hb hv=>?_
 refine sm3 hv ?_
 refine j4 (zr7 (v:=.builtin "isinstance") G K.O S hg (by decide) ?_)
 refine yj (w4 (wpM (xw3 ha K S he) (fun v s₁ q=>w4 ?_ (by rfl))) (zw3 h0)) (zw3 h0) (by rfl)
 obtain ⟨F1,st,t⟩:=q
 refine elEA (wc0 (prog:=C.prog) (A:=A) (E:=E) st.st.sub t hb) fun T hT hw=>?_
 refine zr7 G K.O st.st hg' hT (vW (wpM hw (fun r s₂ q=>?_)))
 (refine elAE (q) fun e_0 tk e=>?_;subst e_0)
 exact⟨F1,st.then e,rfl⟩
inductive PostI (C:Cx)(X:Addr->Prop)(P:List Place)(vs:List (Option qz))(F:Fz)(s:qw)(σ:Sg)(b:Option Int)(v:qz)(s':qw):Prop
 | mk (p:IsPart v b) (F':Fz) (st:Step C X P vs F s σ F' s')
noncomputable def PB (C:Cx)(Γ:Mini.Env)(N:Nat)(i:I)(n:Nat)(sc:x9)(ν:Nu)(oe:Option Expr):Prop:=∀{env:xy}{P:List Place}{vs:List (Option qz)}{σ σ':Sg}{X:Addr->Prop}{F:Fz}{s:qw}{A:zJ}{E:qz->qw->Prop}{b:Option Int},
 Cn Γ N env sc ν P n A->St C X F s.heap P vs σ->bndE i (ev Γ i) σ=some (b,σ')->qK (zx C.prog C.w) A (valueOrNone (evalOpt oe env)) (PostI C X P vs F s σ' b) E s
theorem PB.none:PB C Γ N .omit n sc ν none:=by
 intro env P vs σ σ' X F s A E b K S hv
 cases hv
 exact qX ⟨.none,F,Step.refl S⟩
theorem wi8 {i:I}(h:zh8 i=false)(e:Ev)(σ:Sg):bndE i e σ=(e σ).bind fun p=>(bndD p.1).bind fun j=>some (some j,p.2.2):=by
 unfold bndE;rw[h];rfl
theorem xc0 {d:D}{j:Int}(h:bndD d=some j):d=.int j:=by
 cases d<;>first|(exact(noS h).elim)|(obtain ⟨_,rfl⟩:=ifS h;rfl)
theorem PB.some {i:I}{e:Expr}(h0:zh8 i=false)(h:PE C Γ N i n sc ν e):PB C Γ N i n sc ν (some e):=by
 intro env P vs σ σ' X F s A E b K S hv
 rw[wi8 h0]at hv
 refine bK3 (hv) fun d f σ1 he hv=>?_
 refine bK1 (hv) fun j hj hv=>?_
 refine sm2 hv ?_
 obtain rfl:=xc0 hj
 refine wpM (h.frozen K S he) (fun v s₁ q=>?_)
 obtain ⟨F1,st,r⟩:=q
 simp only[zq2]at r
 obtain ⟨t,rfl⟩:=r
 exact⟨.int _ _,F1,st⟩
theorem PE.slc {a lo hi:I}{v:Expr}{l h:Option Expr}{p p':Pos}(ha:PO C Γ N a n sc ν v)(hlo:PB C Γ N lo n sc ν l)(hhi:PB C Γ N hi n sc ν h):PE C Γ N (.slc a lo hi) n sc ν (.Subscript v (.Slice l h none p') p):=by
 intro env P vs σ σ' X F s A E d f K S hv
 refine bK2 (hv) fun o σ1 ho hv=>?_
 refine bK2 (hv) fun bl σ2 hl hv=>?_
 refine bK2 (hv) fun bh σ3 hh hv=>?_
 refine bK1 (hv) fun dd hd hv=>?_
 refine bK2 (hv) fun r f' hr hv=>?_
 refine sm3 hv ?_
 refine PyProof.Rows.Subscript_ (wpM (ha K S ho) (fun v s₁ q=>?_))
 obtain ⟨F1,st1,r1⟩:=q
 rw[arm_eval_Slice]
 refine qq (wpM (hlo K st1.st hl) (fun vl s₂ q=>?_))
 obtain ⟨pl,F2,st2⟩:=q
 refine qq (jW (wpM (hhi K st2.st hh) (fun vu s₃ q=>?_)))
 obtain ⟨pu,F3,st3⟩:=q
 refine qq (jW (qX ?_))
 have stt:=(st1.trans st2).trans st3
 have t:=((r1.mono st2.le).mono st3.le).top st3.st hd
 exact wpM (xq9 st3.st.sub t pl pu hr) (fun i s₄ q=>wpM q (fun v s₅ g=>Post.trans stt (g.post st3.st)))
theorem zq0 {σ:Sg}{k:Nat}{l:List D}(h:ownL σ k=some l):σ[k]?=some (some (.own (.list l))):=by
 unfold ownL at h
 generalize σ[k]?=o at h |-
 cases o with
 | none=>cases h
 | some o =>
  cases o with
  | none=>cases h
  | some a =>
   cases a with
   | val d=>cases h
   | own d=>cases d<;>first|(cases h;done)|(cases h;rfl)
theorem xj9 {σ:Sg}{k:Nat}{l:List (D×D)}(h:ownD σ k=some l):σ[k]?=some (some (.own (.dict l))):=by
 unfold ownD at h
 generalize σ[k]?=o at h |-
 cases o with
 | none=>cases h
 | some o =>
  cases o with
  | none=>cases h
  | some a =>
   cases a with
   | val d=>cases h
   | own d=>cases d<;>first|(cases h;done)|(cases h;rfl)
inductive OwnAt (C:Cx)(X:Addr->Prop)(F:Fz)(h:Heap)(vs:List (Option qz))(k:Nat)(d:D):Prop
 | mk (a:Addr) (hv:vs[k]?=some (some (.ref a))) (hf:F a=none) (r:Shal C.w F h d a) (hH:C.H.get? a=none) (hX:¬ X a)
section
theorem St.own_at (S:St C X F s.heap P vs σ){k:Nat}{d:D}(h:σ[k]?=some (some (.own d))):OwnAt C X F s.heap vs k d:=by
 have hlt:k<vs.length:=by rw[<- S.lenS];exact(qV.mp h).1
 refine zx4 (S.slot k vs[k] _ (qJ hlt) h) fun a e1 hf r=>?_
 have hv:vs[k]?=some (some (.ref a)):=by rw[qJ hlt,e1]
 exact⟨a,hv,hf,r,(S.own_free ⟨hv,d,h⟩).2,(S.own k a ⟨hv,d,h⟩).1⟩
theorem Step.update (S:St C X F s.heap P vs σ){k:Nat}{l l':List D}{a:Addr}{ws:Array qz}{m:Nat}(hs:σ[k]?=some (some (.own (.list l))))(hv:vs[k]?=some (some (.ref a)))
  (h1:s.heap.get? a=some (lobj ws m)) (g:Array qz->Array qz) (hz:l'.length<=size) (r:RepL C.w F l' (g ws).toList) {tk:Nat} :
  Step C X P vs F s (σ.set k (some (.own (.list l')))) F { s with heap:=s.heap.update a (wW g),toks:=tk }:=by
 obtain ⟨a',hv',hf,_,hH,hX⟩:=S.own_at hs
 rw[hv]at hv';cases hv'
 have hself:(s.heap.update a (wW g)).get? a=some (lobj (g ws) (if (g ws).size==ws.size then m else m+1)):=jX _ h1 rfl
 refine⟨⟨_,tk,rfl⟩,Fz.le_refl F,S.upd (h':=s.heap.update a (wW g)) hv hs (fun b hb=>jw _ _ (y7 hb)) ⟨hz,_,_,hself,r⟩ hH,fun b hb=>?_⟩
 exact jw _ _ (by rintro rfl;exact hX hb)
end
theorem RepL.dropLast_ {w:wz}{F:Fz}{ds:List D}{ws:List qz}(r:RepL w F ds ws):RepL w F ds.dropLast ws.dropLast:=by
 rw[List.dropLast_eq_take,List.dropLast_eq_take,r.length];exact r.take _
theorem PE.pop {k:Nat}{x:Str}{px ap cp:Pos}(hline:ap.endLine=cp.line)(hx:Sl ν k x):PE C Γ N (.pop k) n sc ν (.Call (.Attribute (.Name x px) "pop" ap) [] [] cp):=by
 intro env P vs σ σ' X F s A E d f K S hv
 refine bK1 (hv) fun l hl hv=>?_
 refine bK1 (hv) fun d' hd hv=>?_
 cases hv
 have hs:=zq0 hl
 obtain ⟨a,hv,hf,⟨hz,ws,c,h1,r⟩,hH,hX⟩:=S.own_at hs
 refine wpAny_Call_method (T := "list") (id := "list.pop") rfl (by rfl) (by simpa using hline) PySem.F.plainAttrs_list PySem.F.slot_list_pop PySem.F.type_list_pop (zv9 K.O S hx.at' hv hx.ok ?_)
 refine Mini.iAA ⟨_,h1,rfl⟩ (fun b hb=>Mini.iEA _ (by cases hb;exact h1) rfl) ?_
 have e1:=r.length
 simp at e1
 have hlast:l[l.length - 1]?=some d:=by rw[<- List.getLast?_eq_getElem?];exact hd
 refine elEA (r.get hlast) fun v hv' rv=>?_
 refine PySem.P.pop_list (y:=v) (n:=c) h1 (by simpa[e1] using hv') ?_ (e1▸hz)
 have stp:=Step.update S (l':=l.dropLast) (tk:=s.toks) hs hv h1 (fun xs=>xs.eraseIdxIfInBounds (ws.size - 1)) (by simp;exact uw hz) ?_
 ·exact⟨F,stp,rv⟩
 ·have hpos:0<ws.size:=e1▸Nat.zero_lt_of_lt (qV.mp hlast).1
  have:(ws.eraseIdxIfInBounds (ws.size - 1)).toList=ws.toList.dropLast:=by
   rw[Array.eraseIdxIfInBounds,dif_pos (Nat.sub_lt hpos (by decide)),Array.toList_eraseIdx,List.dropLast_eq_take,List.eraseIdx_eq_take_drop_succ]
   simp
   exact xx (xW hpos).symm
  rw[this];exact r.dropLast_
end
section
variable {w:wz}{F G:Fz}
structure Cut (w:wz)(F G:Fz):Prop where
 tup:∀ b o,F b=some o->o.cls=.type "tuple" -> G b=some o
 lst:∀ b o vs n xs,F b=some o->o.cls=.type "list" -> o.data=.seq vs n->RepL w F xs vs.toList->yz1 xs=true->G b=some o
mutual
theorem Rep.cut (K:Cut w F G):∀(d:D){v:qz},noDct d=true->Rep w F d v->Rep w G d v
 | .none,_,_,h=>h
 | .bool _,_,_,h=>h
 | .int _,_,_,h=>h
 | .str _,_,_,h=>h
 | .list xs,_,hn,h=>by
  simp only[zm8]at h |-
  (refine zv4 (h) fun hz a o vs n e_5 hF hc hd r=>?_;subst e_5)
  exact⟨hz,Mini.iEEEEAAAA a o vs n rfl (K.lst _ _ _ _ _ hF hc hd r hn) hc hd (RepL.cut K xs hn r)⟩
 | .tuple xs,_,hn,h=>by
  simp only[zr4]at h |-
  (refine zu6 (h) fun hz a vs n e_4 hF r=>?_;subst e_4)
  exact⟨hz,Mini.iEEEAA a vs n rfl (K.tup _ _ hF rfl) (RepL.cut K xs hn r)⟩
 | .dict _,_,hn,_=>absurd hn qj
theorem RepL.cut (K:Cut w F G):∀(ds:List D){vs:List qz},yz1 ds=true->RepL w F ds vs->RepL w G ds vs
 | [],_,_,h=>h
 | d::ds,_,hn,h=>by
  simp only[zv1]at h |-
  (refine elEEAA (h) fun v r e_2 h1 h2=>?_;subst e_2)
  have hn:=zq.mp hn
  exact Mini.iEEAA v r rfl (Rep.cut K d hn.1 h1) (RepL.cut K ds hn.2 h2)
end
theorem yg5 {x:D}(h:xg5 x=true):∃ kvs,x=.dict kvs:=by
 cases x<;>try exact absurd h qj
 exact⟨_,rfl⟩
theorem yk8 {x y:String}(h:uz x=.type y)(hn:x≠y):False:=hn (uz.inj h)
theorem xk5 {x:D}{kvs:List (D×D)}{v:qz}(hn:noDct x=true)(h1:Rep w F x v)(h2:Rep w F (.dict kvs) v):False:=by
 simp only[zl8]at h2
 obtain ⟨_,a,es,n,rfl,hF,_⟩:=h2
 cases x with
 | dict _=>exact absurd hn qj
 | none=>cases h1
 | bool _=>cases h1
 | int _=>simp only[zq2]at h1;obtain ⟨_,h⟩:=h1;cases h
 | str _=>simp only[zj8]at h1;obtain ⟨_,h⟩:=h1;cases h
 | list xs =>
  simp only[zm8]at h1
  obtain ⟨_,a',o,vs,m,e,hF',hc,_⟩:=h1
  cases e;rw[hF]at hF';exact yk8 ((congrArg Obj.cls (xv hF')).trans hc) (by decide)
 | tuple xs =>
  simp only[zr4]at h1
  obtain ⟨_,a',vs,m,e,hF',_⟩:=h1
  cases e;rw[hF]at hF';exact yk8 (congrArg Obj.cls (xv hF')) (by decide)
noncomputable def Fz.but (F:Fz)(a:Addr):Fz:=fun b=>open Classical in if b=a then none else F b
theorem Fz.but_self (F:Fz)(a:Addr):F.but a a=none:=by unfold Fz.but;rw[if_pos rfl]
theorem Fz.but_ne {F:Fz}{a b:Addr}(h:b≠a):F.but a b=F b:=by unfold Fz.but;rw[if_neg h]
theorem wi0 {a:Addr}{o:Obj}{vs:Array qz}{n:Nat}{x:D}{r:List D}(hF:F a=some o)(hc:o.cls=.type "list")(hd:o.data=.seq vs n)(hx:xg5 x=true)(hr:RepL w F (x::r) vs.toList):Cut w F (F.but a) where
 tup:=fun b p hb hp=>by
  rw[Fz.but_ne (by rintro rfl;rw[hF]at hb;cases hb;rw[hc]at hp;exact yk8 hp (by decide))];exact hb
 lst:=fun b p us m xs hb hp hq hs hn=>by
  rw[Fz.but_ne ?_];exact hb
  rintro rfl
  rw[hF]at hb;cases hb
  rw[hd]at hq;cases hq
  simp only[zv1]at hr
  refine elEEAA (hr) fun v t e h1 _=>?_
  cases xs with
  | nil=>simp only[zs4]at hs;rw[hs]at e;cases e
  | cons y ys =>
   simp only[zv1]at hs
   refine elEEAA (hs) fun v' t' e' h1' _=>?_
   rw[e]at e';cases e'
   obtain ⟨kvs,rfl⟩:=yg5 hx
   exact xk5 (zq.mp hn).1 h1' h1
end
section
variable {C:Cx}{Γ:Mini.Env}{N:Nat}{n:Nat}{sc:x9}{ν:Nu}
theorem Fz.le_but {F F':Fz}{a:Addr}(l:F.le F')(h:F a=none):F.le (F'.but a):=fun b o e=>by
 rw[Fz.but_ne (by rintro rfl;rw[h]at e;cases e)];exact l b o e
theorem PE.callB (G:Ground C Γ N){g:Str}{k:Nat}{l:I}{x:Str}{es:List Expr}{px pn p:Pos}(hg:zz5 sc ν g=true)(hx:Sl ν k x)(h:PES C Γ N l n sc ν es):PE C Γ N (.callB g k l) n sc ν (.Call (.Name g px) (.Name x pn::es) [] p):=by
 intro env P vs σ σ' X F s A E d f K S hv
 refine bK1 (hv) fun xs0 hl0 hv=>?_
 refine bK2 (hv) fun ds σ1 he hv=>?_
 refine bK1 (hv) fun xs hl hv=>?_
 refine bK2 (hv) fun d' f' hc hv=>?_
 obtain ⟨hsep,hv⟩:=ifS hv
 have hsep:=zq.mp hsep
 have hf':f'=true:=hsep.1
 subst hf'
 refine sm3 (congrArg some hv) ?_
 obtain ⟨a,hva,_,_,_,_⟩:=S.own_at (zq0 hl0)
 obtain ⟨ga,o,fd,h1,h2,h3,h4⟩:=G.call _ _ _ _ hc
 refine j4 (yu9 G K.O S hg h1 ?_)
 refine PyProof.Rows.callWith_def (o:=o) (fd:=fd) h3 (w4 (zv9 K.O S hx.at' hva hx.ok (wpM (h K S he) (fun ws s₁ q=>?_))) (by rfl)) (by rfl)
 obtain ⟨F1,st,r⟩:=q
 have hs:=zq0 hl
 refine zx4 (st.st.freezeSlot hva hs) fun ol S2 rl le2=>?_
 refine⟨st.st.base _ _ h2,wpM (h4 A E s₁ _ _ (.ref a::ws) K.R S2.bare (RepL.cons_ rl (RepL.mono le2 _ r))) (fun v s₂ q=>?_)⟩
 obtain ⟨F3,st3,rr⟩:=q
 obtain ⟨a',hva',hf1,sh,hH,hX⟩:=st.st.own_at hs
 have:a'=a:=by rw[hva]at hva';cases hva';rfl
 subst this
 refine Post.trans st (Post.back st.st ⟨F3.but a',⟨st3.eq,Fz.le_but (Fz.le.trans le2 st3.le) hf1,?_,?_⟩,?_⟩)
 ·have hFa:F3 a'=some ol:=st3.le _ _ (Fz.add_self ..)
  exact {
   sub:=fun b o e=>by
    by_cases hb:b=a'
    ·subst hb;rw[Fz.but_self]at e;cases e
    ·rw[Fz.but_ne hb]at e;exact st3.st.sub b o e
   low:=Fz.le.trans st.st.low (Fz.le_but (Fz.le.trans le2 st3.le) hf1)
   base:=st3.st.base
   cov:=fun b o e=>by
    cases hq:F1 b with
    | none=>exact .inl ⟨hq,o,st.st.base _ _ e⟩
    | some o'=>exact .inr (by rw[Fz.le_but (Fz.le.trans le2 st3.le) hf1 b o' hq];exact fun x=>nomatch x)
   xf:=fun b hb=>by
    by_cases hba:b=a'
    ·subst hba;exact Fz.but_self ..
    ·rw[Fz.but_ne hba];exact st3.st.xf b ⟨by rw[Fz.add_other _ _ hba];exact hb.1,hb.2⟩
   xal:=fun b hb=>by
    by_cases hba:b=a'
    ·subst hba;exact⟨_,st3.st.sub _ _ hFa⟩
    ·exact st3.st.xal b ⟨by rw[Fz.add_other _ _ hba];exact hb.1,hb.2⟩
   lenP:=rfl
   lenS:=rfl
   has:=st3.st.has
   slot:=fun i ov av e1 _=>by simp at e1
   nodup:=kJ
   cont:=fun p hp=>nomatch hp
   own:=fun k a ho=>by simp[zw6]at ho
   inj:=fun i j a ho _=>by simp[zw6]at ho }
 ·intro b hb
  by_cases hba:b=a'
  ·subst hba
   rw[st3.st.sub _ _ (st3.le _ _ (Fz.add_self ..)),S2.sub _ _ (Fz.add_self ..)]
  ·exact st3.same b ⟨by rw[Fz.add_other _ _ hba];exact hb.1,hb.2⟩
 ·refine zr8 (rr) fun c hc1 hc2 hc3 _ _ hc6=>?_
  have hFa:F3 a'=some ol:=st3.le _ _ (Fz.add_self ..)
  have hca:c≠a':=by rintro rfl;rw[hFa]at hc2;cases hc2
  refine⟨c,hc1,by rw[Fz.but_ne hca];exact hc2,fun hb=>hc3 ⟨by rw[Fz.add_other _ _ hca];exact hb.1,hb.2⟩,(fun p hp=>nomatch hp),(fun k ho=>by simp[zw6]at ho),?_⟩
  have hsep:=hsep.2
  cases d' with
  | list ys =>
   refine zj6 (hc6) fun hz ws' m hg1 hr1=>?_
   refine⟨hz,ws',m,hg1,?_⟩
   cases xs with
   | nil =>
    cases ys with
    | nil=>exact hr1
    | cons _ _=>exact absurd hsep qj
   | cons y ys' =>
    have hsep:=zq.mp hsep
    have rl3:=Rep.mono st3.le _ rl
    simp only[zm8]at rl3
    refine zv4 (rl3) fun _ a2 o2 vs2 n2 e2 hF2 hc2' hd2 hr2=>?_
    cases e2
    exact RepL.cut (wi0 hF2 hc2' hd2 hsep.1 hr2) _ hsep.2 hr1
  | dict _=>cases xs with
   | nil=>exact absurd hsep qj
   | cons _ _=>exact absurd (zq.mp hsep).2 qj
  | none=>exact hc6.elim
  | bool _=>exact hc6.elim
  | int _=>exact hc6.elim
  | str _=>exact hc6.elim
  | tuple _=>exact hc6.elim
end
structure Nob (C:Cx)(X:Addr->Prop)(F:Fz)(P:List Place)(vs:List (Option qz))(σ:Sg)(a:Addr):Prop where
 f:F a=none
 x:¬ X a
 p:∀ p∈P,a≠p.addr
 o:∀ k,¬ zw6 vs σ k a
 h:C.H.get? a=none
noncomputable def Or' (X W:Addr->Prop):Addr->Prop:=fun a=>X a\/W a
section
variable {C:Cx}{X W:Addr->Prop}{F F':Fz}{h h':Heap}{P:List Place}{vs:List (Option qz)}{σ:Sg}
theorem St.change (S:St C X F h P vs σ)(keep:∀ a o,¬ W a->h.get? a=some o->h'.get? a=some o)(hW:∀ a,W a->Nob C X F P vs σ a):St C X F h' P vs σ where
 sub:=fun a o e=>keep a o (fun q=>by rw[(hW a q).f]at e;cases e) (S.sub a o e)
 low:=S.low
 base:=fun a o e=>keep a o (fun q=>by rw[(hW a q).h]at e;cases e) (S.base a o e)
 cov:=S.cov
 xf:=S.xf
 xal:=fun a e=>let ⟨o,ho⟩:=S.xal a e; ⟨o,keep a o (fun q=>(hW a q).x e) ho⟩
 lenP:=S.lenP
 lenS:=S.lenS
 has:=fun i p ov e1 e2=>Place.has_keep (S.has i p ov e1 e2) fun o e=>keep _ _ (fun q=>(hW _ q).p p (xZ e1) rfl) e
 slot:=fun i ov av e1 e2=>(S.slot i ov av e1 e2).mono (Fz.le_refl F) fun a d q1 q2=>by
  subst q1 q2
  refine zx4 (S.slot i _ _ e1 e2) fun a' e' r q=>?_
  cases e'
  exact⟨r,fun o e=>keep a o (fun q=>(hW a q).o i ⟨e1,d,e2⟩) e⟩
 nodup:=S.nodup
 cont:=S.cont
 own:=S.own
 inj:=S.inj
theorem St.protect (S:St C X F h P vs σ)(hW:∀ a,W a->Nob C X F P vs σ a/\∃ o,h.get? a=some o):St C (Or' X W) F h P vs σ :=
 S.addX (fun a e=>e.imp id fun q=>Mini.iAAA ((hW a q).1.f) ((hW a q).2) ((hW a q).1.p) ((hW a q).1.o)) fun a e=>.inl e
theorem St.release (S:St C (Or' X W) F h P vs σ)(hc:∀ a o,C.H.get? a=some o->X a\/F a≠none):St C X F h P vs σ:=S.dropX (fun a e=>.inl e) hc
theorem Nob.back {vs':List (Option qz)}{σ':Sg}{P':List Place}(S:St C (Or' X W) F' h' P' vs' σ'){a:Addr}(ha:W a)(hx:¬ X a)(hh:C.H.get? a=none):Nob C X F' P' vs' σ' a where
 f:=S.xf a (.inr ha)
 x:=hx
 p:=fun p hp e=>(S.cont p hp).2 (e▸.inr ha)
 o:=fun k ho=>(S.own k a ho).1 (.inr ha)
 h:=hh
theorem St.nob_new (S:St C X F h P vs σ){a:Addr}(hn:h.get? a=none):Nob C X F P vs σ a where
 f:=by
  cases e:F a with
  | none=>rfl
  | some o=>have:=S.sub a o e;rw[hn]at this;cases this
 x:=fun e=>by obtain ⟨o,ho⟩:=S.xal a e;rw[hn]at ho;cases ho
 p:=fun p hp e=>by
  obtain ⟨i,hi⟩:=Q7.mp hp
  refine elEA (S.placeAt hi) fun ov _ hh=>?_
  obtain ⟨o,ho⟩:=Place.has_there hh
  rw[<- e,hn]at ho;cases ho
 o:=fun i ho=>by
  refine elAE (ho) fun h1 d' h2=>?_
  refine zx4 (S.slot i _ _ h1 h2) fun a' e' _ q=>?_
  cases e'
  obtain ⟨o,ho⟩:=q.there
  rw[hn]at ho;cases ho
 h:=by
  cases e:C.H.get? a with
  | none=>rfl
  | some o=>have:=S.base a o e;rw[hn]at this;cases this
theorem Nob.mono {a:Addr}(x:Nob C X F P vs σ a)(hf:F' a=none):Nob C X F' P vs σ a:=⟨hf,x.x,x.p,x.o,x.h⟩
theorem Nob.res {a:Addr}{w:wz}{d:D}(x:Nob C X F P vs σ a)(q:Shal w F h d a):ResOk w X F h P vs σ (.ref a) d true:=⟨a,rfl,x.f,x.x,x.p,x.o,q⟩
theorem XSame.left {X W:Addr->Prop}{h h':Heap}(x:XSame (Or' X W) h h'):XSame X h h':=fun a e=>x a (.inl e)
end
noncomputable def owned (n:String):Bool:=["enumerate", "zip", "dict_itemiterator", "dict_reverseitemiterator", "odict_iterator", "itertools.zip_longest", "itertools.pairwise"].contains n
theorem ww5 {prog:vw}{w:wz}{A:zJ}{E:qz->qw->Prop}{s:qw}{J:Addr}{o:Obj}{n:String}{tg:Expr}{v:qz}{Q:Unit->qw->Prop}(ho:s.heap.get? J=some o)(hc:o.cls=.type n)(hn:owned n=false)(h:Q () s):qK (zx prog w) A (letOwnedTupleGo tg (.ref J) v) Q E s:=by
 have go:qK (zx prog w) A (do
   let (.ref r,.ref a):=(qz.ref J,v)|return
   let o <- load r
   match o.cls,o.data with
   | .type n,.fields vs =>
    if ["enumerate", "zip", "dict_itemiterator", "dict_reverseitemiterator", "odict_iterator", "itertools.zip_longest", "itertools.pairwise"].contains n&&vs[0]?==some (Qv a) then
     rule "for.unpacks-the-owned-tuple"
     updateField r 0 .none
   | _,_=>pure ()) Q E s:=by
  cases v<;>try exact qX h
  refine qq (wpAny_load ho ?_)
  rw[hc]
  cases o.data<;>try exact qX h
  unfold owned at hn
  dsimp only
  rw[hn,Bool.false_and]
  exact qX h
 cases tg<;>first|exact go|exact qX h
structure WalkG (gt:Expr->Prop)(prog:vw)(w:wz)(A:zJ)(F0:Fz)(J:Addr)(W:Addr->Prop)(ds:List D)(T:Nat->Heap->Prop):Prop where
 self:W J
 alive:∀ i h a,T i h->W a->∃ o,h.get? a=some o
 frame:∀ i h h',T i h->F0.In h->(∀ a o,W a->h.get? a=some o->h'.get? a=some o)->F0.In h'->T i h'
 item:∀ i d (tg:Expr) (s:qw) (E:qz->qw->Prop),gt tg->ds[i]?=some d->T i s.heap->qK (zx prog w) A (Z7 (.ref J)) (fun r s₁=>∃ v,r=some v/\qK (zx prog w) A (letOwnedTupleGo tg (.ref J) v) (fun _ s'=>∃ h' tk,s'={ s with heap:=h',toks:=tk }/\T (i+1) h' /\
  (∀ a o,¬ W a->s.heap.get? a=some o->h'.get? a=some o) /\
  ∀ F,F0.le F->F.In s.heap->(∀ a,W a->F a=none)->∃ F2,F.le F2/\F2.In h'/\(∀ a,F2 a≠none->F a≠none\/s.heap.get? a=none)/\Rep w F2 d v) E s₁) E s
 done:∀(s:qw)(E:qz->qw->Prop),T ds.length s.heap->qK (zx prog w) A (Z7 (.ref J)) (fun r s'=>r=none/\∃ h' tk,s'={ s with heap:=h',toks:=tk }/\∀ a o,¬ W a->s.heap.get? a=some o->h'.get? a=some o) E s
 iter:∀ i (s:qw) (Q:qz->qw->Prop) (E:qz->qw->Prop),T i s.heap->Q (.ref J) s->qK (zx prog w) A (pyIter (.ref J)) Q E s
noncomputable abbrev Walk:=WalkG fun _=>True
theorem Walk.of {prog:vw}{w:wz}{A:zJ}{F0:Fz}{J:Addr}{fp wr:List Addr}{n:Nat}{p:Nat->qz->Prop}{T:Nat->Heap->Prop}{ds:List D}(K:Walks prog w A J fp wr n p T)
  (hn:ds.length=n) (hJ:J∈wr) (hal:∀ i h a,T i h->a∈wr->∃ o,h.get? a=some o) (hfp:∀ b∈fp,b∈wr\/F0 b≠none) (hp:∀ i v d,ds[i]?=some d->p i v->∀ F,F0.le F->Rep w F d v) (hgo:∀ i h,T i h->∃ o n,h.get? J=some o/\o.cls=.type n/\owned n=false) :
  Walk prog w A F0 J (fun a=>a∈wr) ds T where
 self:=hJ
 alive:=hal
 frame:=fun i h h' t hin k hin'=>K.frame i h h' t fun b hb o e=>by
  rcases hfp b hb with q|q
  ·exact k b o q e
  ·cases hq:F0 b with
   | none=>exact absurd hq q
   | some o' =>
    have:=hin b o' hq
    rw[e]at this;cases this
    exact hin' b _ hq
 item:=fun i d tg s E _ hd t=>K.item i s _ _ (by rw[<- hn];exact(qV.mp hd).1) t fun v h' tk pv t' k =>
  let ⟨_,_,ho,hc,hn⟩:=hgo _ _ t'
  (Mini.iEA v rfl (ww5 (s:={ s with heap:=h',toks:=tk }) ho hc hn (Mini.iEEAAA h' tk rfl t' (fun a o ha e=>k a o ha e) (fun F l hin hw=>(Mini.iEAAA F (Fz.le_refl F) (fun a o e=>k a o (fun q=>by rw[hw a q]at e;cases e) (hin a o e)) (fun a e=>.inl e) (hp i v d hd pv F l))))))
 done:=fun s E t=>K.done s _ _ (by rw[<- hn];exact t) fun h' tk k=>⟨rfl,Mini.iEEA h' tk rfl (fun a o ha e=>k a o ha e)⟩
 iter:=fun i s Q E t q=>K.self i s Q E t q
inductive PostG (gt:Expr->Prop)(C:Cx)(X:Addr->Prop)(P:List Place)(vs:List (Option qz))(F:Fz)(s:qw)(σ:Sg)(A:zJ)(ds:List D)(it:qz)(s':qw):Prop
 | mk (F':Fz) (J:Addr) (W:Addr->Prop) (T:Nat->Heap->Prop) (e:it=.ref J) (st:Step C X P vs F s σ F' s') (hW:WalkG gt C.prog C.w A F' J W ds T) (ht:T 0 s'.heap) (hz:ds.length<=size) (hn:∀ a,W a->Nob C X F' P vs σ a)
noncomputable abbrev wb5:=PostG fun _=>True
noncomputable def zk0 (w:wz):Prop:=∀(prog:vw)(A:zJ)(E:qz->qw->Prop)(s:qw)(F:Fz)(n:Nat),Room n A->F.In s.heap->∀{kvs:List (D×D)}{v:qz},Rep w F (.dict kvs) v ->
 qK (zx prog w) A (pyIter v) (fun it s'=>∃ J W T h' tk,it=.ref J/\s'={ s with heap:=h',toks:=tk }/\(∀ a o,s.heap.get? a=some o->h'.get? a=some o)/\Walk prog w A F J W (kvs.map (·.1)) T/\T 0 h'/\∀ a,W a->s.heap.get? a=none) E s
section
variable {C:Cx}{Γ:Mini.Env}{N:Nat}{X:Addr->Prop}{P:List Place}{vs:List (Option qz)}{F:Fz}{s s₁:qw}{σ:Sg}{A:zJ}{E:qz->qw->Prop}
theorem Step.grow (S:St C X F s.heap P vs σ){h':Heap}{tk:Nat}(k:∀ a o,s.heap.get? a=some o->h'.get? a=some o):Step C X P vs F s σ F { s with heap:=h',toks:=tk } :=
 ⟨Mini.iEE h' tk rfl,Fz.le_refl F,S.grow0 k,XSame.of_keep S.xal k⟩
theorem Walk.seq {prog:vw}{w:wz}{A:zJ}{F:Fz}{it a:Addr}{ws:Array qz}{l:List D}{T:Nat->Heap->Prop}(K:Walks prog w A it [it,a] [it] ws.size (fun i x=>ws[i]?=some x) T)(r:RepL w F l ws.toList)(hF:F a≠none)
  (hgo:∀ i h,T i h->∃ o n,h.get? it=some o/\o.cls=.type n/\owned n=false):Walk prog w A F it (fun b=>b∈[it]) l T :=
 Walk.of K r.length.symm (xq.mpr rfl) (fun i h b t hb=>(hgo i h t).elim fun o ho=>ho.elim fun _ q=>⟨o,xq.mp hb▸q.1⟩)
  (fun b hb=>(zQ.mp hb).elim (fun e=>.inl (xq.mpr e)) fun hb=>.inr (xq.mp hb▸hF))
  (fun i v d hd hv G l=>elEA (r.get hd) fun u hu ru=>by
   rw[xK]at hu
   exact xv (hu.symm.trans hv)▸Rep.mono l _ ru) hgo
theorem xy0 (di:zk0 C.w)(R:Room N A)(S:St C X F s.heap P vs σ){d:D}{v:qz}{ds:List D}(r:Rep C.w F d v)(e:yt0 d=some ds) :
  qK (zx C.prog C.w) A (pyIter v) (wb5 C X P vs F s σ A ds) E s:=by
 have nob:∀ b∈[s.heap.objs.size],Nob C X F P vs σ b:=fun b hb=>xq.mp hb▸S.nob_new (zz6 _)
 cases d with
 | list l =>
  refine sm1 e ?_
  refine zv4 (show _/\_ from r) fun hz a ob ws m ev hF hcl hdt r=>?_
  rw[ev]
  have h1:=S.sub _ _ hF
  refine wpAny_pyIter_list ⟨_,h1,hcl,_,hdt⟩ ?_
  exact⟨F,s.heap.objs.size,_,_,rfl,Step.grow (tk:=s.toks) S (h':=s.heap.push { cls:=.type "list_iterator", data:=.fields #[.ref a,.int 0 0] }) fun b o e=>qQ _ e,
   Walk.seq (Walks.list R.handled _ a (jJ (xk h1)) ws) r (by rw[hF];exact fun x=>nomatch x) (fun _ _ t=>let ⟨o,ho,hc,_⟩:=t.1; ⟨o,_,ho,hc,rfl⟩),⟨⟨_,x7 _ rfl,rfl,rfl⟩,⟨_,qQ _ h1,hcl,_,hdt⟩⟩,hz,nob⟩
 | tuple l =>
  refine sm1 e ?_
  refine zu6 (show _/\_ from r) fun hz a ws m ev hF r=>?_
  rw[ev]
  have h1:=S.sub _ _ hF
  refine wpAny_pyIter_tuple ⟨_,h1,rfl,_,rfl⟩ ?_
  exact⟨F,s.heap.objs.size,_,_,rfl,Step.grow (tk:=s.toks) S (h':=s.heap.push { cls:=.type "tuple_iterator", data:=.fields #[.ref a,.int 0 0] }) fun b o e=>qQ _ e,
   Walk.seq (Walks.tuple R.handled _ a (jJ (xk h1)) ws) r (by rw[hF];exact fun x=>nomatch x) (fun _ _ t=>let ⟨o,ho,hc,_⟩:=t.1; ⟨o,_,ho,hc,rfl⟩),⟨⟨_,x7 _ rfl,rfl,rfl⟩,⟨_,qQ _ h1,rfl,_,rfl⟩⟩,hz,nob⟩
 | dict kvs =>
  refine sm1 e ?_
  refine wpM (di C.prog A E s F N R S.sub r) (fun it s' q=>?_)
  (refine yz5 (q) fun J W T h' tk e_5 e_6 k K t hn=>?_;subst e_5;subst e_6)
  refine⟨F,J,W,T,rfl,Step.grow S k,K,t,?_,fun a ha=>S.nob_new (hn a ha)⟩
  simp only[zl8]at r
  simpa using r.1.1
 | _=>exact(noS e).elim
end
section
variable (C:Cx)(Γ:Mini.Env)(N:Nat)
noncomputable def PWg (gt:Expr->Prop)(i:I)(n:Nat)(sc:x9)(ν:Nu)(e:Expr):Prop:=∀{env:xy}{P:List Place}{vs:List (Option qz)}{σ σ':Sg}{X:Addr->Prop}{F:Fz}{s:qw}{A:zJ}{E:qz->qw->Prop}{ds:List D},
 Cn Γ N env sc ν P n A->St C X F s.heap P vs σ->srcE (ev Γ i) σ=some (ds,σ') ->
  qK (zx C.prog C.w) A (eval e env) (fun v s₁=>qK (zx C.prog C.w) A (pyIter v) (PostG gt C X P vs F s σ' A ds) E s₁) E s
noncomputable abbrev PW:=PWg C Γ N fun _=>True
end
section
variable {C:Cx}{Γ:Mini.Env}{N:Nat}{n:Nat}{sc:x9}{ν:Nu}
theorem PostG.trans {gt:Expr->Prop}{X:Addr->Prop}{P:List Place}{vs:List (Option qz)}{F F':Fz}{s s' s'':qw}{σ' σ'':Sg}{A:zJ}{ds:List D}{it:qz}(a:Step C X P vs F s σ' F' s')(q:PostG gt C X P vs F' s' σ'' A ds it s''):PostG gt C X P vs F s σ'' A ds it s'':=by
 obtain ⟨G,J,W,T,e,st,r1,r2,r3,r4⟩:=q
 exact⟨G,J,W,T,e,a.trans st,r1,r2,r3,r4⟩
theorem PW.plain (di:zk0 C.w){i:I}{e:Expr}(h:PE C Γ N i n sc ν e):PW C Γ N i n sc ν e:=by
 intro env P vs σ σ' X F s A E ds K S hv
 refine bK3 (hv) fun d f σ1 he hv=>?_
 refine bK1 (hv) fun l hi hv=>?_
 refine sm2 hv ?_
 refine wpM (h.frozen K S he) (fun v s₁ q=>?_)
 obtain ⟨F1,st,r⟩:=q
 exact wpM (xy0 di K.R st.st r hi) (fun it s₂ q=>q.trans st)
theorem Walk.ints {prog:vw}{w:wz}{A:zJ}{F0:Fz}(hh:A.handled=none){J:Addr}{a b:Int}{N:Nat}(hN:N=(b - a).toNat):Walk prog w A F0 J (fun x=>x∈[J]) (zu7 a b) (fun i h=>IsRangeIter h J (a+(i:Nat)*1) ((N:Int) - (i:Nat)) 1):=by
 refine Walk.of (Walks.range hh J a 1 N) (by simp[zu7,hN]) (by simp) (fun i h x t hx=>?_) (fun b hb=>.inl hb) (fun i v d hd hv F l=>?_) (fun _ _ t=>Mini.iEEAA _ _ t rfl rfl)
 ·simp only[xq]at hx;subst hx;exact⟨_,t⟩
 ·obtain ⟨t,rfl⟩:=hv
  have hlt:=(qV.mp hd).1
  rw[zu7,xj,List.length_range]at hlt
  rw[zu7,yy,List.getElem?_range hlt]at hd
  cases hd
  simp[zq2]
theorem yj9 {i:Int}(h:zy8 i=true):-(2^62)<=i/\i<2^62:=by
 have h:i.natAbs<2^62:=of_decide_eq_true h
 exact⟨Int.neg_le_of_neg_le (Int.le_trans (Int.natAbs_neg i▸Int.le_natAbs (a:=-i)) (Int.ofNat_le.mpr (zz h))),Int.lt_of_le_of_lt Int.le_natAbs (u6.mpr h)⟩
theorem zb5 {X:Addr->Prop}{P:List Place}{vs:List (Option qz)}{F:Fz}{s:qw}{σ:Sg}{A:zJ}{E:qz->qw->Prop}(R:Room N A)(S:St C X F s.heap P vs σ){r:Addr}{a b:Int}{t u v:Tok}
  (hr:IsRange s.heap r a b 1 t u v) (ha:zy8 a=true) (hb:zy8 b=true) (hz:(b - a).toNat<=size):qK (zx C.prog C.w) A (pyIter (.ref r)) (wb5 C X P vs F s σ A (zu7 a b)) E s:=by
 have h1:=yj9 ha
 have h2:=yj9 hb
 refine wpAny_pyIter_range hr (small_one h1.1 h1.2 h2.1 h2.2) ?_
 have st:=Step.grow (tk:=s.toks) S (h':=s.heap.push { cls:=.type "range_iterator", data:=.fields #[Qv a,Qv (Builtin.Range.rangeSize a b 1),Qv 1] }) fun b o e=>qQ _ e
 refine⟨F,s.heap.objs.size,_,_,rfl,st,Walk.ints R.handled rfl,?_,by simpa[zu7] using hz,fun x hx=>?_⟩
 ·have e1:(a+((0:Nat):Int)*1)=a:=by simp
  have e2:(((b - a).toNat:Int) - ((0:Nat):Int))=Builtin.Range.rangeSize a b 1:=by rw[rangeSize_one];split<;>lia
  rw[e1,e2]
  exact x7 _ rfl
 ·simp only[xq]at hx;subst hx
  exact S.nob_new (zz6 _)
@[elab_as_elim] theorem xa4 {b:I}{σ σ':Sg}{ds:List D}{P:List D->Prop}(hv:srcE (ev Γ (.rng1 b)) σ=some (ds,σ'))(k:∀ y fy,ev Γ b σ=some (.int y,fy,σ')->zy8 y=true->y.toNat<=size->P (zu7 0 y)):P ds:=by
 refine bK3 (hv) fun d f σ1 he hv=>bK3 (he) fun y' fy σ2 hy he=>bK1 (he) fun y hyi he=>?_
 obtain ⟨hc,he⟩:=ifS he
 have hc:=zq.mp hc
 revert hv hy
 refine sm3 (congrArg some he) fun hv=>?_
 have hv:some (zu7 0 y,σ2)=some (ds,σ'):=hv
 revert k
 have hyi:zt9 y'=some y:=hyi
 exact sm2 hv fun k=>xc5 hyi fun hy=>k y fy hy hc.1 (of_decide_eq_true hc.2)
theorem PW.rng1 (G:Ground C Γ N){b:I}{e:Expr}{px p:Pos}(hg:zz5 sc ν "range" = true)(hb:PE C Γ N b n sc ν e)(h0:okE e):PW C Γ N (.rng1 b) n sc ν (.Call (.Name "range" px) [e] [] p):=by
 intro env P vs σ σ' X F s A E ds K S hv
 refine xa4 hv fun y fy hy c1 c2=>?_
 refine j4 (zr7 (v:=.type "range") G K.O S hg (by decide) ?_)
 refine wx (w4 (wpM (hb.frozen K S hy) (fun v s₁ q=>vW ?_)) (zw3 h0)) (zw3 h0) rfl
 obtain ⟨F1,st,r⟩:=q
 refine Top.intK (h:=s₁.heap) (.inl r) fun t=>call_range_1 ?_
 have st2:=Step.grow (tk:=s₁.toks+1+1) st.st (h':=s₁.heap.push { cls:=.type "range", data:=.fields #[.int 0 s₁.toks,.int y t,.int 1 (s₁.toks+1)] }) fun b o e=>qQ _ e
 exact wpM (zb5 K.R st2.st (IsRange.new ..) (by decide) c1 (by simpa using c2)) (fun it s₂ q=>q.trans (st.trans st2))
@[elab_as_elim] theorem wp3 {a b:I}{σ σ':Sg}{ds:List D}{P:List D->Prop}(hv:srcE (ev Γ (.rng a b)) σ=some (ds,σ'))(k:∀ x fx σ1 y fy,ev Γ a σ=some (.int x,fx,σ1)->ev Γ b σ1=some (.int y,fy,σ')->zy8 x=true->zy8 y=true->(y - x).toNat<=size->P (zu7 x y)):P ds:=by
 refine bK3 (hv) fun d f σ1 he hv=>bK3 (he) fun x' fx σ2 hx he=>bK1 (he) fun x hxi he=>bK3 (he) fun y' fy σ3 hy he=>bK1 (he) fun y hyi he=>?_
 obtain ⟨hc,he⟩:=ifS he
 have hc:=zq.mp hc
 have hc1:=zq.mp hc.1
 revert hv hy hx
 refine sm3 (congrArg some he) fun hv=>?_
 have hv:some (zu7 x y,σ3)=some (ds,σ'):=hv
 revert k
 have hyi:zt9 y'=some y:=hyi
 have hxi:zt9 x'=some x:=hxi
 exact sm2 hv fun k=>xc5 hxi (xc5 hyi fun hx hy=>k x fx σ2 y fy hx hy hc1.1 hc1.2 (of_decide_eq_true hc.2))
theorem PW.rng (G:Ground C Γ N){a b:I}{e1 e2:Expr}{px p:Pos}(hg:zz5 sc ν "range" = true)(ha:PE C Γ N a n sc ν e1)(hb:PE C Γ N b n sc ν e2)(h1:okE e1)(h2:okE e2):PW C Γ N (.rng a b) n sc ν (.Call (.Name "range" px) [e1,e2] [] p):=by
 intro env P vs σ σ' X F s A E ds K S hv
 refine wp3 hv fun x fx σ1 y fy hx hy c1 c2 c3=>?_
 refine j4 (zr7 (v:=.type "range") G K.O S hg (by decide) ?_)
 refine wx (w4 (wpM (ha.frozen K S hx) (fun v s₁ q=>w4 ?_ (zw3 h2))) (zw3 h1)) (zw3 h1) (by rw[zw3 h2];rfl)
 obtain ⟨F1,st,r⟩:=q
 refine wpM (hb.frozen K st.st hy) (fun u s₂ q=>vW ?_)
 obtain ⟨F2,st2,r2⟩:=q
 refine Top.intK (h:=s₁.heap) (.inl r) fun t=>Top.intK (h:=s₁.heap) (.inl r2) fun t2=>call_range_2 ?_
 have st3:=Step.grow (tk:=s₂.toks+1) st2.st (h':=s₂.heap.push { cls:=.type "range", data:=.fields #[.int x t,.int y t2,.int 1 s₂.toks] }) fun b o e=>qQ _ e
 exact wpM (zb5 K.R st3.st (IsRange.new ..) c1 c2 c3) (fun it s₂ q=>q.trans ((st.trans st2).trans st3))
end
section
variable {prog:vw}{w:wz}{A:zJ}{E:qz->qw->Prop}{s:qw}
theorem zc9 {it t:Addr}{i:Nat}{items:Array qz}{x:qz}{Q:qz->qw->Prop}(hit:s.heap.IsTupleIter it t i)
  (ht:s.heap.IsTuple t items) (hx:items[i]?=some x) (hQ:∀ h',h'.IsTupleIter it t (i+1)->yK it s.heap h'->Q x { s with heap:=h' }) :
  qK (zx prog w) A (w9 (.ref it)) Q E s:=by
 refine zx4 (id hit) fun o ho hc hd=>?_
 refine xd3 (ht) fun ol hol _ nl hdl=>?_
 unfold w9
 refine qq (k8 (name:=Q0 "__next__") hit.typeIs ZJ
  (jV ZJ hit.typeIs F.entry_tuple_iterator_next ?_ (F.args_tuple_iterator_next_1 _)))
 show qK _ _ (field (.ref it) 0 >>= _) _ _ s
 refine qq (jK ho hd (x:=.ref t) rfl ?_)
 show qK _ _ (if (qz.ref t==wk)=true then _ else _) _ _ s
 rw[if_neg (show ¬ ((qz.ref t==wk)=true) from qj)]
 show qK _ _ (field (.ref it) 1 >>= _) _ _ s
 refine qq (jK ho hd (x:=.int i 0) rfl ?_)
 show qK _ _ (seqItems? (.ref t) >>= _) _ _ s
 refine qq (kx hol hdl ?_)
 simp only[jz,hx]
 refine qq (wpAny_setField ho hd (by simp) (qX (Mini.iEA x rfl (qX (hQ _ ?_ (Qq ..))))))
 exact⟨_,jX _ ho (Obj.isFreed_of_fields (Obj.data_mapFields hd _)),(Obj.cls_mapFields ..).trans hc,by
  rw[Obj.data_mapFields hd];simp[Qv]⟩
theorem yy1 {it t:Addr}{i:Nat}{items:Array qz}{Q:qz->qw->Prop}(hh:A.handled=none)
  (hit:s.heap.IsTupleIter it t i) (ht:s.heap.IsTuple t items) (hx:items[i]?=none)
  (hE:∀ h' e,Heap.ExtBut it s.heap h'->(∃ o,h'.get? e=some o/\o.cls=.type "StopIteration")->E (.ref e) { s with heap:=h' }) :
  qK (zx prog w) A (w9 (.ref it)) Q E s:=by
 refine zx4 (id hit) fun o ho hc hd=>?_
 refine xd3 (ht) fun ol hol _ nl hdl=>?_
 unfold w9
 refine qq (k8 (name:=Q0 "__next__") hit.typeIs ZJ
  (jV ZJ hit.typeIs F.entry_tuple_iterator_next ?_ (F.args_tuple_iterator_next_1 _)))
 show qK _ _ (field (.ref it) 0 >>= _) _ _ s
 refine qq (jK ho hd (x:=.ref t) rfl ?_)
 show qK _ _ (if (qz.ref t==wk)=true then _ else _) _ _ s
 rw[if_neg (show ¬ ((qz.ref t==wk)=true) from qj)]
 show qK _ _ (field (.ref it) 1 >>= _) _ _ s
 refine qq (jK ho hd (x:=.int i 0) rfl ?_)
 show qK _ _ (seqItems? (.ref t) >>= _) _ _ s
 refine qq (kx hol hdl ?_)
 simp only[jz,hx]
 refine qq (Qw (qq (wpAny_setField ho hd (by simp) ?_)))
 show qK _ _ (newExc (.type "StopIteration") [] >>= _) _ _ _
 refine qq ?_
 simp only[newExc,newTuple]
 refine qq (uW ?_ (by size_fits))
 refine qq (m:=firstArgMember _ _) (wpAny_of_eq (a:=wk) (by first|rfl|(simp only[firstArgMember];rfl)) ?_)
 refine uW ?_ (by size_fits)
 refine(?_:qK _ _ (handled >>= _) _ _ _)
 refine qq (wpAny_handled ?_)
 first|rw[show A.in1.handled=none from hh]|rw[hh]
 refine qq (qX (wpAny_throw ?_))
 exact hE _ _ (((Qq ..).extBut.push _).push _) (Mini.iEA _ (x7 _ rfl) rfl)
theorem Draws.tup (hh:A.handled=none)(it t:Addr)(hne:t≠it)(items:Array qz):Draws prog w A it [it,t] items.size (fun i x=>items[i]?=some x) (fun i h=>h.IsTupleIter it t i/\h.IsTuple t items) where
 live:=fun i h st=>let ⟨o,ho,_⟩:=st.1; ⟨o,ho⟩
 frame:=fun i h h' st k=>by
  obtain ⟨⟨o,ho,q⟩,⟨o',ho',q'⟩⟩:=st
  exact⟨⟨o,k it (by simp) o ho,q⟩,⟨o',k t (by simp) o' ho',q'⟩⟩
 item:=fun i s Q E hi st hQ=>zc9 st.1 st.2 (x:=items[i]) (by simp[hi]) fun h' hit hs=>by
  refine elEA (st.2) fun o' ho' q'=>?_
  exact hQ items[i] h' s.toks (by simp[hi]) ⟨hit,⟨o',hs.extBut _ _ hne ho',q'⟩⟩ hs
 done:=fun s Q E st hE=>yy1 hh st.1 st.2 (by simp) hE
structure ZA (z TI TO i1 i2:Addr)(fp1 fp2:List Addr):Prop where
 TIz:TI≠z
 TOz:TO≠z
 i1z:i1≠z
 i2z:i2≠z
 TITO:TI≠TO
 TIi1:TI≠i1
 TIi2:TI≠i2
 TOi1:TO≠i1
 TOi2:TO≠i2
 i12:i1≠i2
 f1:∀ b∈fp1,b≠z/\b≠TO/\b≠i2
 f2:∀ b∈fp2,b≠z/\b≠TO/\b≠i1
variable {z TI TO i1 i2:Addr}{fp1 fp2:List Addr}{n1 n2 k:Nat}{P1 P2:Nat->qz->Prop}{S1 S2:Nat->Heap->Prop}
theorem xb2 (D:ZA z TI TO i1 i2 fp1 fp2)(D1:Draws prog w A i1 fp1 n1 P1 S1)(D2:Draws prog w A i2 fp2 n2 P2 S2){a b:qz}{Q:qz->qw->Prop}
  (hz:IsZip s.heap z TI TO .none) (hTI:yw s.heap TI (.ref i1) (.ref i2)) (hTO:yw s.heap TO a b) (s1:S1 k s.heap) (s2:S2 k s.heap) (k1:k<n1) (k2:k<n2)
  (hQ:∀ x y h' tk,P1 k x->P2 k y->IsZip h' z TI TO (Qv s.heap.objs.size)->yw h' TO x y->S1 (k+1) h'->S2 (k+1) h'->yw h' s.heap.objs.size x y ->
   (∀ c o,c≠z->c≠TO->c≠i1->c≠i2->s.heap.get? c=some o->h'.get? c=some o)->Q (.ref s.heap.objs.size) { s with heap:=h',toks:=tk }) :
  qK (zx prog w) A (Builtin.«zip.__next__» ⟨[.ref z],[]⟩) (fun fin s'=>∃ v,fin=.done (.ret v)/\Q v s') E s:=by
 show qK _ _ (field (.ref z) 2 >>= _) _ _ _
 refine qq (jK hz rfl (x:=.bool false) rfl ?_)
 show qK _ _ (field (.ref z) 3 >>= _) _ _ _
 refine qq (jK hz rfl (x:=.ref TI) rfl ?_)
 refine qq (kx hTI rfl ?_)
 show qK _ _ (wy (.ref z) >>= _) _ _ _
 refine qq ?_
 unfold wy
 refine qq (jK hz rfl (x:=.none) rfl (qX ?_))
 simp only[if_true]
 refine qq (Qw ?_)
 refine qq (jK hz rfl (x:=.ref TO) rfl ?_)
 refine qq (Qx hz (by simp) fun h₁ hz₁ hs₁=>?_)
 replace hz₁:IsZip h₁ z TI TO .ellipsis:=hz₁
 refine qq ?_
 simp only[List.zipIdx_cons,List.zipIdx_nil,List.forIn_cons,List.forIn_nil]
 refine qq (qq (wpAny_onRaise ?_))
 show qK _ _ (w9 (.ref i1) >>= _) _ _ _
 have s1₁:S1 k h₁:=D1.frame _ _ _ s1 fun b hb o e=>hs₁.extBut _ _ (D.f1 b hb).1 e
 have s2₁:S2 k h₁:=D2.frame _ _ _ s2 fun b hb o e=>hs₁.extBut _ _ (D.f2 b hb).1 e
 refine qq (D1.item k _ _ _ k1 s1₁ fun x h₂ tk₂ hx s1₂ hs₂=>qX ?_)
 have hTO₂:yw h₂ TO a b:=hs₂.extBut _ _ D.TOi1 (hs₁.extBut _ _ D.TOz hTO)
 refine qq (kx (s:={ s with heap:=h₂,toks:=tk₂ }) hTO₂ rfl ?_)
 refine qq (wpAny_updateSeq_pair (s:={ s with heap:=h₂,toks:=tk₂ }) hTO₂ fun h₃ hTO₃ hs₃=>?_)
 replace hTO₃:yw h₃ TO x b:=hTO₃
 refine qq (wpAny_letGo (qX ?_))
 refine qq (qq (wpAny_onRaise ?_))
 show qK _ _ (w9 (.ref i2) >>= _) _ _ _
 have s1₃:S1 (k+1) h₃:=D1.frame _ _ _ s1₂ fun b hb o e=>hs₃.extBut _ _ (D.f1 b hb).2.1 e
 have s2₃:S2 k h₃:=D2.frame _ _ _ s2₁ fun b hb o e=>hs₃.extBut _ _ (D.f2 b hb).2.1 (hs₂.extBut _ _ (D.f2 b hb).2.2 e)
 refine qq (D2.item k _ _ _ k2 s2₃ fun y h₄ tk₄ hy s2₄ hs₄=>qX ?_)
 have hTO₄:yw h₄ TO x b:=hs₄.extBut _ _ D.TOi2 hTO₃
 refine qq (kx (s:={ s with heap:=h₄,toks:=tk₄ }) hTO₄ rfl ?_)
 refine qq (wpAny_updateSeq_pair (s:={ s with heap:=h₄,toks:=tk₄ }) hTO₄ fun h₅ hTO₅ hs₅=>?_)
 replace hTO₅:yw h₅ TO x y:=hTO₅
 refine qq (wpAny_letGo (qX (qX ?_)))
 refine qq (kx (s:={ s with heap:=h₅,toks:=tk₄ }) hTO₅ rfl ?_)
 refine qq (wpAny_newTuple ?_)
 have hsz:h₅.objs.size=s.heap.objs.size:=by rw[hs₅.1,hs₄.1,hs₃.1,hs₂.1,hs₁.1]
 have hz₅:IsZip h₅ z TI TO .ellipsis:=hs₅.extBut _ _ D.TOz.symm (hs₄.extBut _ _ D.i2z.symm (hs₃.extBut _ _ D.TOz.symm (hs₂.extBut _ _ D.i1z.symm hz₁)))
 have hk₅:∀ c o,c≠z->c≠TO->c≠i1->c≠i2->s.heap.get? c=some o->h₅.get? c=some o:=fun c o c1 c2 c3 c4 e =>
  hs₅.extBut _ _ c2 (hs₄.extBut _ _ c4 (hs₃.extBut _ _ c2 (hs₂.extBut _ _ c3 (hs₁.extBut _ _ c1 e))))
 have s1₅:S1 (k+1) h₅:=D1.frame _ _ _ s1₃ fun b hb o e=>hs₅.extBut _ _ (D.f1 b hb).2.1 (hs₄.extBut _ _ (D.f1 b hb).2.2 e)
 have s2₅:S2 (k+1) h₅:=D2.frame _ _ _ s2₄ fun b hb o e=>hs₅.extBut _ _ (D.f2 b hb).2.1 e
 have hzlt:z<h₅.objs.size:=xk hz₅
 show qK _ _ (Builtin.SmallTypes.ownedTupleHandOut (.ref z) (.ref h₅.objs.size) >>= _) _ _ _
 refine qq ?_
 unfold Builtin.SmallTypes.ownedTupleHandOut
 have hz₆:IsZip (h₅.push { cls:=.type "tuple", data:=.seq #[x,y] }) z TI TO .ellipsis:=qQ _ hz₅
 refine qq (Qx hz₆ (by simp) fun h₇ hz₇ hs₇=>?_)
 replace hz₇:IsZip h₇ z TI TO (Qv h₅.objs.size):=hz₇
 refine Qx hz₇ (by simp) fun h₈ hz₈ hs₈=>?_
 replace hz₈:IsZip h₈ z TI TO (Qv h₅.objs.size):=hz₈
 have up:∀ c o,c≠z->h₅.get? c=some o->h₈.get? c=some o:=fun c o c1 e=>hs₈.extBut _ _ c1 (hs₇.extBut _ _ c1 (qQ _ e))
 have hT₈:yw h₈ h₅.objs.size x y:=hs₈.extBut _ _ (kj hzlt) (hs₇.extBut _ _ (kj hzlt) (x7 _ rfl))
 rw[hsz]at hz₈ hT₈
 refine qX (Mini.iEA _ rfl ?_)
 show Q (.ref h₅.objs.size) _
 rw[hsz]
 exact hQ x y h₈ tk₄ hx hy hz₈ (up _ _ D.TOz hTO₅) (D1.frame _ _ _ s1₅ fun b hb o e=>up _ _ (D.f1 b hb).1 e) (D2.frame _ _ _ s2₅ fun b hb o e=>up _ _ (D.f2 b hb).1 e) hT₈ fun c o c1 c2 c3 c4 e=>up c o c1 (hk₅ c o c1 c2 c3 c4 e)
theorem wq2 (D:ZA z TI TO i1 i2 fp1 fp2)(D1:Draws prog w A i1 fp1 n1 P1 S1)(D2:Draws prog w A i2 fp2 n2 P2 S2){a b:qz}{Q:Fin->qw->Prop}
  (hz:IsZip s.heap z TI TO .none) (hTI:yw s.heap TI (.ref i1) (.ref i2)) (hTO:yw s.heap TO a b) (s1:S1 k s.heap) (s2:S2 k s.heap) (hend:k=n1\/(k<n1/\k=n2))
  (hE:∀ h' e tk,(∀ c o,c≠z->c≠TO->c≠i1->c≠i2->s.heap.get? c=some o->h'.get? c=some o)->(∃ o,h'.get? e=some o/\o.cls=.type "StopIteration")->E (.ref e) { s with heap:=h',toks:=tk }) :
  qK (zx prog w) A (Builtin.«zip.__next__» ⟨[.ref z],[]⟩) Q E s:=by
 show qK _ _ (field (.ref z) 2 >>= _) _ _ _
 refine qq (jK hz rfl (x:=.bool false) rfl ?_)
 show qK _ _ (field (.ref z) 3 >>= _) _ _ _
 refine qq (jK hz rfl (x:=.ref TI) rfl ?_)
 refine qq (kx hTI rfl ?_)
 show qK _ _ (wy (.ref z) >>= _) _ _ _
 refine qq ?_
 unfold wy
 refine qq (jK hz rfl (x:=.none) rfl (qX ?_))
 simp only[if_true]
 refine qq (Qw ?_)
 refine qq (jK hz rfl (x:=.ref TO) rfl ?_)
 refine qq (Qx hz (by simp) fun h₁ hz₁ hs₁=>?_)
 replace hz₁:IsZip h₁ z TI TO .ellipsis:=hz₁
 refine qq ?_
 simp only[List.zipIdx_cons,List.zipIdx_nil,List.forIn_cons,List.forIn_nil]
 refine qq (qq (wpAny_onRaise ?_))
 show qK _ _ (w9 (.ref i1) >>= _) _ _ _
 have s1₁:S1 k h₁:=D1.frame _ _ _ s1 fun b hb o e=>hs₁.extBut _ _ (D.f1 b hb).1 e
 have s2₁:S2 k h₁:=D2.frame _ _ _ s2 fun b hb o e=>hs₁.extBut _ _ (D.f2 b hb).1 e
 rcases hend with rfl|⟨k1,rfl⟩
 ·refine qq (D1.done { s with heap:=h₁ } _ _ s1₁ fun h₂ e hs₂ he=>?_)
  refine elEA (he) fun oe hoe hce=>?_
  have hz₂:IsZip h₂ z TI TO .ellipsis:=hs₂ _ _ D.i1z.symm hz₁
  have hez:e≠z:=fun x=>by subst x;rw[hz₂]at hoe;cases hoe;simp at hce
  refine Qx hz₂ (by simp) fun h₃ _ hs₃=>hE h₃ e s.toks (fun c o c1 _ c3 _ x=>hs₃.extBut _ _ c1 (hs₂ _ _ c3 (hs₁.extBut _ _ c1 x))) (Mini.iEA oe (hs₃.extBut _ _ hez hoe) hce)
 ·refine qq (D1.item k { s with heap:=h₁ } _ _ k1 s1₁ fun x h₂ tk₂ hx s1₂ hs₂=>qX ?_)
  have hTO₂:yw h₂ TO a b:=hs₂.extBut _ _ D.TOi1 (hs₁.extBut _ _ D.TOz hTO)
  refine qq (kx (s:={ s with heap:=h₂,toks:=tk₂ }) hTO₂ rfl ?_)
  refine qq (wpAny_updateSeq_pair (s:={ s with heap:=h₂,toks:=tk₂ }) hTO₂ fun h₃ hTO₃ hs₃=>?_)
  refine qq (wpAny_letGo (qX ?_))
  refine qq (qq (wpAny_onRaise ?_))
  show qK _ _ (w9 (.ref i2) >>= _) _ _ _
  have s2₃:S2 k h₃:=D2.frame _ _ _ s2₁ fun b hb o e=>hs₃.extBut _ _ (D.f2 b hb).2.1 (hs₂.extBut _ _ (D.f2 b hb).2.2 e)
  refine qq (D2.done { s with heap:=h₃,toks:=tk₂ } _ _ s2₃ fun h₄ e hs₄ he=>?_)
  refine elEA (he) fun oe hoe hce=>?_
  have hz₄:IsZip h₄ z TI TO .ellipsis:=hs₄ _ _ D.i2z.symm (hs₃.extBut _ _ D.TOz.symm (hs₂.extBut _ _ D.i1z.symm hz₁))
  have hez:e≠z:=fun x=>by subst x;rw[hz₄]at hoe;cases hoe;simp at hce
  refine Qx (s:={ s with heap:=h₄,toks:=tk₂ }) hz₄ (by simp) fun h₅ _ hs₅=>hE h₅ e tk₂ (fun c o c1 c2 c3 c4 x=>hs₅.extBut _ _ c1 (hs₄ _ _ c4 (hs₃.extBut _ _ c2 (hs₂.extBut _ _ c3 (hs₁.extBut _ _ c1 x))))) (Mini.iEA oe (hs₅.extBut _ _ hez hoe) hce)
theorem xi7 (D:ZA z TI TO i1 i2 fp1 fp2)(D1:∀ A:zJ,A.handled=none->Draws prog w A i1 fp1 n1 P1 S1)(D2:∀ A:zJ,A.handled=none->Draws prog w A i2 fp2 n2 P2 S2)(hh:A.handled=none){a b:qz}{Q:Option qz->qw->Prop}
  (hz:IsZip s.heap z TI TO .none) (hTI:yw s.heap TI (.ref i1) (.ref i2)) (hTO:yw s.heap TO a b) (s1:S1 k s.heap) (s2:S2 k s.heap) (k1:k<n1) (k2:k<n2)
  (hQ:∀ x y h' tk,P1 k x->P2 k y->IsZip h' z TI TO (Qv s.heap.objs.size)->yw h' TO x y->S1 (k+1) h'->S2 (k+1) h'->yw h' s.heap.objs.size x y ->
   (∀ c o,c≠z->c≠TO->c≠i1->c≠i2->s.heap.get? c=some o->h'.get? c=some o)->Q (some (.ref s.heap.objs.size)) { s with heap:=h',toks:=tk }) :
  qK (zx prog w) A (Z7 (.ref z)) Q E s:=by
 have hT:s.TypeIs (.ref z) "zip" := ⟨_,hz,rfl⟩
 unfold Z7
 exact qq (wpAny_attempt (k8 (name:=Q0 "__next__") hT QJ
  (jV QJ hT F.entry_zip_next
   (xb2 D (D1 A.in1 hh) (D2 A.in1 hh) hz hTI hTO s1 s2 k1 k2 fun x y h' tk a1 a2 a3 a4 a5 a6 a7 a8=>qX (hQ x y h' tk a1 a2 a3 a4 a5 a6 a7 a8)) (F.args_zip_next_1 _))))
theorem we8 (x y:Nat):min x y=x\/(min x y<x/\min x y=y):=(Nat.lt_or_ge y x).elim (fun h=>.inr ⟨z8 (Q2 ..) h,ZX (zz h)⟩) fun h=>.inl (wV h)
theorem wy7 (D:ZA z TI TO i1 i2 fp1 fp2)(D1:∀ A:zJ,A.handled=none->Draws prog w A i1 fp1 n1 P1 S1)(D2:∀ A:zJ,A.handled=none->Draws prog w A i2 fp2 n2 P2 S2)(hh:A.handled=none){a b:qz}{Q:Option qz->qw->Prop}
  (hz:IsZip s.heap z TI TO .none) (hTI:yw s.heap TI (.ref i1) (.ref i2)) (hTO:yw s.heap TO a b) (s1:S1 k s.heap) (s2:S2 k s.heap) (hend:k=n1\/(k<n1/\k=n2))
  (hQ:∀ h' tk,(∀ c o,c≠z->c≠TO->c≠i1->c≠i2->s.heap.get? c=some o->h'.get? c=some o)->Q none { s with heap:=h',toks:=tk }) :
  qK (zx prog w) A (Z7 (.ref z)) Q E s:=by
 have hT:s.TypeIs (.ref z) "zip" := ⟨_,hz,rfl⟩
 unfold Z7
 refine qq (wpAny_attempt (k8 (name:=Q0 "__next__") hT QJ
  (jV QJ hT F.entry_zip_next (wq2 D (D1 A.in1 hh) (D2 A.in1 hh) hz hTI hTO s1 s2 hend fun h' e tk hk he=>?_) (F.args_zip_next_1 _))))
 refine elEA (he) fun o ho hc=>?_
 refine qq (wpAny_isInstance (T := "StopIteration") (b:=true) ⟨o,ho,hc⟩ isSubtype_stop ?_)
 exact qX (hQ _ _ hk)
noncomputable abbrev zH (h:Heap)(l t:Addr):Heap:=((((h.push { cls:=.type "list_iterator", data:=.fields #[.ref l,.int 0 0] }).push { cls:=.type "tuple_iterator", data:=.fields #[.ref t,.int 0 0] }).push
 { cls:=.type "tuple", data:=.seq #[.ref h.objs.size,.ref (h.push { cls:=.type "list_iterator", data:=.fields #[.ref l,.int 0 0] }).objs.size] }).push { cls:=.type "tuple", data:=.seq #[.none,.none] })
theorem wq1 (l t:Addr)(xs ys:Array qz) :
  Meets (Builtin.«zip.__new__» ⟨[.type "zip", .ref l,.ref t],[]⟩) (fun _ R s=>s.heap.IsList l xs/\s.heap.IsTuple t ys /\
   R (.ok (.ret (.ref (zH s.heap l t).objs.size))) { s with heap:=(zH s.heap l t).push { cls:=.type "zip", data:=.fields #[.none,.bool false,.bool false,.ref ((s.heap.push { cls:=.type "list_iterator", data:=.fields #[.ref l,.int 0 0] }).push { cls:=.type "tuple_iterator", data:=.fields #[.ref t,.int 0 0] }).objs.size,
    .ref (((s.heap.push { cls:=.type "list_iterator", data:=.fields #[.ref l,.int 0 0] }).push { cls:=.type "tuple_iterator", data:=.fields #[.ref t,.int 0 0] }).push
     { cls:=.type "tuple", data:=.seq #[.ref s.heap.objs.size,.ref (s.heap.push { cls:=.type "list_iterator", data:=.fields #[.ref l,.int 0 0] }).objs.size] }).objs.size] } }) :=
 .of_wp fun prog w A R s h=>by
  obtain ⟨hp,g,d,tk,os⟩:=s;(refine elAA (h) fun hl1 hl2 h_n=>?_;clear h;revert h_n;intro h)
  have hsub:=sub_zip
  have hL1:Heap.IsList (qw.heap ⟨hp,g,d,tk,os⟩) l xs:=hl1
  have hL2:Heap.IsTuple (qw.heap ⟨hp.push { cls:=.type "list_iterator", data:=.fields #[.ref l,.int 0 0] },g,d,tk,os⟩) t ys:=by
   refine elEA (hl2) fun o ho q=>?_;exact⟨o,qQ _ ho,q⟩
  wp_walk using wpAny_pyIter_list hL1,wpAny_pyIter_tuple hL2
  exact Mini.iEA _ rfl h
theorem wu2 {l t:Addr}{xs ys:Array qz}{Q:qz->qw->Prop}(hl:s.heap.IsList l xs)(ht:s.heap.IsTuple t ys)
  (h:∀ h',IsZip h' (s.heap.objs.size+4) (s.heap.objs.size+2) (s.heap.objs.size+3) .none->yw h' (s.heap.objs.size+2) (.ref s.heap.objs.size) (.ref (s.heap.objs.size+1)) ->
   yw h' (s.heap.objs.size+3) .none .none->h'.IsListIter s.heap.objs.size l 0->h'.IsTupleIter (s.heap.objs.size+1) t 0 ->
   (∀ c o,s.heap.get? c=some o->h'.get? c=some o)->Q (.ref (s.heap.objs.size+4)) { s with heap:=h' }) :
  qK (zx prog w) A (call (.type "zip") [.ref l,.ref t]) Q E s:=by
 refine callType_new F.called_zip (by decide) (F.typeCall_zip_2 _ _) (F.newCall_zip_2 _ _) (fun obj=>F.args_object_init_3 obj _ _) F.entry_zip_new
  (wq1 l t xs ys) (Mini.iAA hl ht ?_)
 generalize hA1:s.heap.push { cls:=.type "list_iterator", data:=.fields #[.ref l,.int 0 0] }=H1
 generalize hA2:H1.push { cls:=.type "tuple_iterator", data:=.fields #[.ref t,.int 0 0] }=H2
 generalize hA3:H2.push { cls:=.type "tuple", data:=.seq #[.ref s.heap.objs.size,.ref H1.objs.size] }=H3
 generalize hA4:H3.push { cls:=.type "tuple", data:=.seq #[.none,.none] }=H4
 generalize hA5:H4.push { cls:=.type "zip", data:=.fields #[.none,.bool false,.bool false,.ref H2.objs.size,.ref H3.objs.size] }=H5
 have z1:H1.objs.size=s.heap.objs.size+1:=by rw[<- hA1,Heap.size_push]
 have z2:H2.objs.size=s.heap.objs.size+2:=by rw[<- hA2,Heap.size_push,z1]
 have z3:H3.objs.size=s.heap.objs.size+3:=by rw[<- hA3,Heap.size_push,z2]
 have z4:H4.objs.size=s.heap.objs.size+4:=by rw[<- hA4,Heap.size_push,z3]
 have u5:∀ c o,H4.get? c=some o->H5.get? c=some o:=fun c o e=>by rw[<- hA5];exact qQ _ e
 have u4:∀ c o,H3.get? c=some o->H5.get? c=some o:=fun c o e=>u5 c o (by rw[<- hA4];exact qQ _ e)
 have u3:∀ c o,H2.get? c=some o->H5.get? c=some o:=fun c o e=>u4 c o (by rw[<- hA3];exact qQ _ e)
 have u2:∀ c o,H1.get? c=some o->H5.get? c=some o:=fun c o e=>u3 c o (by rw[<- hA2];exact qQ _ e)
 have u1:∀ c o,s.heap.get? c=some o->H5.get? c=some o:=fun c o e=>u2 c o (by rw[<- hA1];exact qQ _ e)
 have g5:H5.get? H4.objs.size=some { cls:=.type "zip", data:=.fields #[.none,.bool false,.bool false,.ref H2.objs.size,.ref H3.objs.size] }:=by rw[<- hA5];exact x7 _ rfl
 have g4:H5.get? H3.objs.size=some { cls:=.type "tuple", data:=.seq #[.none,.none] }:=u5 _ _ (by rw[<- hA4];exact x7 _ rfl)
 have g3:H5.get? H2.objs.size=some { cls:=.type "tuple", data:=.seq #[.ref s.heap.objs.size,.ref H1.objs.size] }:=u4 _ _ (by rw[<- hA3];exact x7 _ rfl)
 have g2:H5.get? H1.objs.size=some { cls:=.type "tuple_iterator", data:=.fields #[.ref t,.int 0 0] }:=u3 _ _ (by rw[<- hA2];exact x7 _ rfl)
 have g1:H5.get? s.heap.objs.size=some { cls:=.type "list_iterator", data:=.fields #[.ref l,.int 0 0] }:=u2 _ _ (by rw[<- hA1];exact x7 _ rfl)
 have e4:zH s.heap l t=H4:=by rw[<- hA4,<- hA3,<- hA2,<- hA1]
 show _/\_
 rw[z2,z3,z4]at g5
 rw[z1,z2]at g3
 rw[z3]at g4
 rw[z1]at g2
 rw[e4,hA5,z4]
 exact⟨⟨_,g5,rfl⟩,h _ g5 g3 g4 ⟨_,g1,rfl,rfl⟩ ⟨_,g2,rfl,rfl⟩ u1⟩
end
noncomputable def xg3 (e:Expr):Prop:=∃ es k p,e=.Tuple es k p
noncomputable def ZT (z TI TO i1 i2 l t:Addr)(xs ys:Array qz)(k:Nat)(h:Heap):Prop:=IsZip h z TI TO .none/\yw h TI (.ref i1) (.ref i2)/\(∃ a b,yw h TO a b)/\(h.IsListIter i1 l k/\h.IsList l xs)/\(h.IsTupleIter i2 t k/\h.IsTuple t ys)
theorem ZA.new {n l t:Nat}(h1:l<n)(h2:t<n):ZA (n+4) (n+2) (n+3) n (n+1) [n,l] [n+1,t]:=by
 refine⟨?_,?_,?_,?_,?_,?_,?_,?_,?_,?_,fun b hb=>?_,fun b hb=>?_⟩
 all_goals first
  | (simp only[zQ,j7,or_false]at hb;rcases hb with rfl|rfl<;>(refine Mini.iAA ?_ ?_ ?_<;>(intro e;have e:(_:Nat)=_:=e;lia)))
  | (intro e;have e:(_:Nat)=_:=e;lia)
theorem Walk.zip {prog:vw}{w:wz}{A:zJ}{F0:Fz}(hh:A.handled=none){z TI TO i1 i2 l t:Addr}(Z:ZA z TI TO i1 i2 [i1,l] [i2,t])(hl1:l≠i1)(ht2:t≠i2){xs ys:Array qz}{ds es:List D}(rl:RepL w F0 ds xs.toList)(rt:RepL w F0 es ys.toList)
  (hl:F0 l≠none) (ht:F0 t≠none) (hsz:es.length<=size):WalkG xg3 prog w A F0 z (fun a=>a∈[z,TI,TO,i1,i2]) (zipL ds es) (ZT z TI TO i1 i2 l t xs ys):=by
 have D1:∀ A:zJ,A.handled=none->Draws prog w A i1 [i1,l] xs.size (fun i x=>xs[i]?=some x) (fun i h=>h.IsListIter i1 l i/\h.IsList l xs):=fun A hA=>Draws.list hA i1 l hl1 xs
 have D2:∀ A:zJ,A.handled=none->Draws prog w A i2 [i2,t] ys.size (fun i x=>ys[i]?=some x) (fun i h=>h.IsTupleIter i2 t i/\h.IsTuple t ys):=fun A hA=>Draws.tup hA i2 t ht2 ys
 have e1:=rl.length
 have e2:=rt.length
 simp only[ww]at e1 e2
 have hlen:(zipL ds es).length=min xs.size ys.size:=by simp[zipL,e1,e2]
 have old:∀{b:Addr}{h h':Heap},F0 b≠none->F0.In h->F0.In h'->∀ o,h.get? b=some o->h'.get? b=some o:=fun {b h h'} hb hin hin' o e=>by
  cases hq:F0 b with
  | none=>exact absurd hq hb
  | some o'=>have:=hin b o' hq;rw[e]at this;cases this;exact hin' b _ hq
 refine⟨by simp,fun i h a t ha=>?_,fun i h h' t hin k hin'=>?_,fun i d tg s E hg hd st=>?_,fun s E st=>?_,fun i s Q E st hQ=>wpAny_pyIter_zip st.1 hQ⟩
 ·obtain ⟨hz,hTI,⟨a',b',hTO⟩,⟨⟨o1,h1,_⟩,_⟩,⟨⟨o2,h2,_⟩,_⟩⟩:=t
  simp only[zQ,j7,or_false]at ha
  rcases ha with rfl|rfl|rfl|rfl|rfl
  ·exact⟨_,hz⟩
  ·exact⟨_,hTI⟩
  ·exact⟨_,hTO⟩
  ·exact⟨_,h1⟩
  ·exact⟨_,h2⟩
 ·obtain ⟨hz,hTI,⟨a',b',hTO⟩,s1,s2⟩:=t
  refine⟨k _ _ (by simp) hz,k _ _ (by simp) hTI,⟨a',b',k _ _ (by simp) hTO⟩,(D1 A hh).frame _ _ _ s1 fun b hb o e=>?_,(D2 A hh).frame _ _ _ s2 fun b hb o e=>?_⟩
  ·simp only[zQ,j7,or_false]at hb
   rcases hb with rfl|rfl
   ·exact k _ _ (by simp) e
   ·exact old hl hin hin' o e
  ·simp only[zQ,j7,or_false]at hb
   rcases hb with rfl|rfl
   ·exact k _ _ (by simp) e
   ·exact old ht hin hin' o e
 ·(refine xm2 (hg) fun tes tk0 tp e_3=>?_;subst e_3)
  obtain ⟨hz,hTI,⟨a',b',hTO⟩,s1,s2⟩:=st
  have hi:=(qV.mp hd).1
  rw[hlen]at hi
  refine xi7 Z D1 D2 hh hz hTI hTO s1 s2 (vZ hi (j5 ..)) (vZ hi (Q2 ..)) fun x y h' tk hx hy z' o' s1' s2' hp kp=>Mini.iEA _ rfl ?_
  refine wpAny_letOwnedTupleGo_zip (s:={ s with heap:=h',toks:=tk }) z' fun h2 hz2 hs2=>?_
  have nT:s.heap.get? s.heap.objs.size=none:=zz6 _
  have nz:s.heap.objs.size≠z:=kj (xk hz)
  have hp2:yw h2 s.heap.objs.size x y:=hs2.extBut _ _ nz hp
  have kp2:∀ a o,¬ a∈[z,TI,TO,i1,i2]->s.heap.get? a=some o->h2.get? a=some o:=fun a o ha e=>by
   simp only[zQ,j7,or_false,not_or]at ha
   exact hs2.extBut _ _ ha.1 (kp a o ha.1 ha.2.2.1 ha.2.2.2.1 ha.2.2.2.2 e)
  refine⟨h2,tk,rfl,⟨hz2,hs2.extBut _ _ Z.TIz (kp _ _ Z.TIz Z.TITO Z.TIi1 Z.TIi2 hTI),⟨x,y,hs2.extBut _ _ Z.TOz o'⟩,(D1 A hh).frame _ _ _ s1' fun b hb o e=>hs2.extBut _ _ (Z.f1 b hb).1 e,(D2 A hh).frame _ _ _ s2' fun b hb o e=>hs2.extBut _ _ (Z.f2 b hb).1 e⟩,kp2,fun F le hin hW=>?_⟩
  have fT:F s.heap.objs.size=none:=by
   cases e:F s.heap.objs.size with
   | none=>rfl
   | some o=>have:=hin _ _ e;rw[nT]at this;cases this
  have hinF:F.In h2:=fun a o e=>kp2 a o (fun ha=>by rw[hW a ha]at e;cases e) (hin a o e)
  refine Mini.iEAAA (F.add s.heap.objs.size (tobj #[x,y] 0)) (Fz.le_add _ fT) (Fz.in_add hinF hp2) (fun a e=>?_) ?_
  ·by_cases ha:a=s.heap.objs.size
   ·exact .inr (ha▸nT)
   ·left;rwa [Fz.add_other F _ ha]at e
  ·have hle:F0.le (F.add s.heap.objs.size (tobj #[x,y] 0)):=Fz.le.trans le (Fz.le_add _ fT)
   rw[zipL,yy]at hd
   (refine elEA (Option.map_eq_some_iff.mp hd) fun p hp' e_2=>?_;subst e_2)
   obtain ⟨q1,q2⟩:=List.getElem?_zip_eq_some.mp hp'
   refine elEA (rl.get q1) fun u hu ru=>?_
   refine elEA (rt.get q2) fun v hv rv=>?_
   simp at hu hv
   rw[hx]at hu;cases hu
   rw[hy]at hv;cases hv
   simp only[zr4]
   exact⟨by simp only[xV,List.length_nil];unfold size;decide,Mini.iEEEAA s.heap.objs.size (#[x,y]) 0 rfl (Fz.add_self ..) (RepL.cons_ (Rep.mono hle _ ru) (RepL.cons_ (Rep.mono hle _ rv) RepL.nil_))⟩
 ·obtain ⟨hz,hTI,⟨a',b',hTO⟩,s1,s2⟩:=st
  rw[hlen]at s1 s2
  refine wy7 Z D1 D2 hh hz hTI hTO s1 s2 (we8 ..) fun h' tk kp=>⟨rfl,Mini.iEEA h' tk rfl (fun a o ha e=>?_)⟩
  simp only[zQ,j7,or_false,not_or]at ha
  exact kp a o ha.1 ha.2.2.1 ha.2.2.2.1 ha.2.2.2.2 e
theorem xm7 {d:D}{l:List D}(h:wu3 d=some l):d=.tuple l:=by
 cases d<;>first|(exact(noS h).elim)|(cases h;rfl)
theorem yk2 {d:D}{l:List D}(h:yr0 d=some l):d=.list l:=by
 cases d<;>first|(exact(noS h).elim)|(cases h;rfl)
section
variable {C:Cx}{Γ:Mini.Env}{N:Nat}{n:Nat}{sc:x9}{ν:Nu}
theorem PWg.zip (G:Ground C Γ N){a b:I}{ea eb:Expr}{px p:Pos}(hg:zz5 sc ν "zip" = true)(ha:PE C Γ N a n sc ν ea)(hb:PE C Γ N b n sc ν eb)(h1:okE ea)(h2:okE eb):PWg C Γ N xg3 (.zip a b) n sc ν (.Call (.Name "zip" px) [ea,eb] [] p):=by
 intro env P vs σ σ' X F s A E ds K S hv
 refine bK3 (hv) fun d f σ1 he hv=>?_
 refine bK3 (he) fun x' fx σ2 hx he=>?_
 refine bK1 (he) fun x hxi he=>?_
 refine bK3 (he) fun y' fy σ3 hy he=>?_
 refine bK1 (he) fun y hyi he=>?_
 obtain rfl:=yk2 hxi
 obtain rfl:=xm7 hyi
 cases he
 cases hv
 refine j4 (zr7 (v:=.type "zip") G K.O S hg (by decide) ?_)
 refine wx (w4 (wpM (ha.frozen K S hx) (fun v s₁ q=>w4 ?_ (zw3 h2))) (zw3 h1)) (zw3 h1) (by rw[zw3 h2];rfl)
 obtain ⟨F1,st,r⟩:=q
 refine wpM (hb.frozen K st.st hy) (fun u s₂ q=>vW ?_)
 obtain ⟨F2,st2,r2⟩:=q
 have r1:=Rep.mono st2.le _ r
 simp only[zm8,zr4]at r1 r2
 (refine zv4 (r1) fun hz1 l ob ws m e_5 hF1 hcl hdt r1_n=>?_;clear r1;revert r1_n;intro r1;subst e_5)
 (refine zu6 (r2) fun hz2 t us m2 e_4 hF2 r2_n=>?_;clear r2;revert r2_n;intro r2;subst e_4)
 have hl1:=st2.st.sub _ _ hF1
 have hl2:=st2.st.sub _ _ hF2
 have b1:=xk hl1
 have b2:=xk hl2
 refine wu2 (xs:=ws) (ys:=us) ⟨_,hl1,hcl,_,hdt⟩ ⟨_,hl2,rfl,_,rfl⟩ fun h' hz hTI hTO hi1 hi2 keep=>?_
 have st3:=Step.grow (tk:=s₂.toks) st2.st keep
 have t0:ZT (s₂.heap.objs.size+4) (s₂.heap.objs.size+2) (s₂.heap.objs.size+3) s₂.heap.objs.size (s₂.heap.objs.size+1) l t ws us 0 h' :=
  ⟨hz,hTI,⟨_,_,hTO⟩,⟨hi1,⟨_,keep _ _ hl1,hcl,_,hdt⟩⟩,⟨hi2,⟨_,keep _ _ hl2,rfl,_,rfl⟩⟩⟩
 refine wpAny_pyIter_zip (s:={ s₂ with heap:=h' }) hz ?_
 refine⟨F2,_,_,_,rfl,(st.trans st2).trans st3,Walk.zip K.R.handled (ZA.new b1 b2) (jJ b1) (jJ (Zv b2)) r1 r2 (by rw[hF1];exact fun x=>nomatch x) (by rw[hF2];exact fun x=>nomatch x) hz2,t0,?_,fun b hb=>?_⟩
 ·simp only[zipL,xj,List.length_zip];exact qv (j5 ..) hz1
 ·have:s₂.heap.get? b=none:=by
   cases e:s₂.heap.get? b with
   | none=>rfl
   | some o =>
    have hlt:(b:Nat)<s₂.heap.objs.size:=xk e
    have hge:s₂.heap.objs.size<=(b:Nat):=by
     simp only[zQ,j7,or_false]at hb
     rcases hb with rfl|rfl|rfl|rfl|rfl
     ·exact qk _ _
     ·exact qk _ _
     ·exact qk _ _
     ·exact zv _
     ·exact qk _ _
    exact absurd hlt (QK.mpr hge)
  exact st2.st.nob_new this
end
section
variable {C:Cx}{X W:Addr->Prop}{F F':Fz}{h h':Heap}{P:List Place}{vs:List (Option qz)}{σ:Sg}
theorem St.change2 (S:St C X F h P vs σ)(keep:∀ a o,¬ W a->h.get? a=some o->h'.get? a=some o)(hW:∀ a,W a->Nob C X F P vs σ a)(l:F.le F')(hin:F'.In h')(hnew:∀ a,F' a≠none->F a≠none\/h.get? a=none):St C X F' h' P vs σ:=by
 have S1:St C X F h' P vs σ:=S.change keep hW
 have hno:∀ a o,h.get? a=some o->F a=none->F' a=none:=fun a o e q=>by
  cases hq:F' a with
  | none=>rfl
  | some o' =>
   rcases hnew a (by rw[hq];exact fun x=>nomatch x) with q'|q'
   ·exact absurd q q'
   ·rw[q']at e;cases e
 exact {
  sub:=hin
  low:=Fz.le.trans S.low l
  base:=S1.base
  cov:=zn0 l S.cov
  xf:=fun a e=>let ⟨o,ho⟩:=S.xal a e;hno a o ho (S.xf a e)
  xal:=S1.xal
  lenP:=S.lenP
  lenS:=S.lenS
  has:=S1.has
  slot:=fun i ov av e1 e2=>(S1.slot i ov av e1 e2).mono l fun a d q1 q2=>by
   subst q1 q2
   refine zx4 (S.slot i _ _ e1 e2) fun a' e' r q=>?_
   cases e'
   obtain ⟨o,ho⟩:=q.there
   exact⟨hno a o ho r,fun o e=>e⟩
  nodup:=S.nodup
  cont:=fun p hp=>by
   obtain ⟨i,hi⟩:=Q7.mp hp
   refine elEA (S.placeAt hi) fun ov _ hh=>?_
   obtain ⟨o,ho⟩:=Place.has_there hh
   exact⟨hno _ o ho (S.cont p hp).1,(S.cont p hp).2⟩
  own:=S.own
  inj:=S.inj }
theorem St.forget (S:St C X F h P vs σ){τ:Sg}(hl:τ.length=σ.length)(ht:∀ (k:Nat) av,τ[k]?=some av->σ[k]?=some av\/av=none):St C X F h P vs τ:=by
 have hsub:∀ k a,zw6 vs τ k a->zw6 vs σ k a:=fun k a ⟨h1,d,h2⟩=>⟨h1,d,(ht k _ h2).resolve_right (fun x=>nomatch x)⟩
 exact {
  sub:=S.sub
  low:=S.low
  base:=S.base
  cov:=S.cov
  xf:=S.xf
  xal:=S.xal
  lenP:=S.lenP
  lenS:=hl.trans S.lenS
  has:=S.has
  slot:=fun i ov av e1 e2=>by
   rcases ht i av e2 with q|rfl
   ·exact S.slot i ov av e1 q
   ·exact trivial
  nodup:=S.nodup
  cont:=S.cont
  own:=fun k a ho=>S.own k a (hsub k a ho)
  inj:=fun i j a hi hj=>S.inj i j a (hsub i a hi) (hsub j a hj) }
end
set_option tactic.hygienic true in
theorem xm5 {env:xy}{csc:x9}(h:∀ p∈csc.names,p.2=.free->∃ c,env.cells.lookup p.1=some c) :
  ∃ cl,closureFor csc env=pure cl/\∀ x,(x,yx)∈csc.names->cl.lookup x=env.cells.lookup x:=by
 have gen:∀(names:List (Str×yq)),(∀ p∈names,p.2=.free->∃ c,env.cells.lookup p.1=some c)->∀ acc:List (Str×Addr),(∀ x c,acc.lookup x=some c->env.cells.lookup x=some c) ->
   ∃ cl,(forIn names acc fun p r=>if (p.2==yx)=true then do let a <- cellOf env p.1;pure (wZ ((p.1,a)::r)) else pure (wZ r):Sem (List (Str×Addr)))=pure cl /\
    (∀ x c,cl.lookup x=some c->env.cells.lookup x=some c)/\∀ x,((x,yx)∈names\/(acc.lookup x).isSome)->(cl.lookup x).isSome:=by
  intro names
  induction names with
  | nil=>exact fun _ acc ha=>Mini.iEAA acc (by kernel_rfl) ha (fun x hx=>hx.resolve_left (by simp))
  | cons p r ih =>
   intro hp acc ha
   by_cases hk:p.2=.free
   ·obtain ⟨c,hc⟩:=hp p y8 hk
    refine zx4 (ih (fun q hq=>hp q (xJ _ hq)) ((p.1,c)::acc) (fun x c' hx=>by
     rw[j8]at hx
     split at hx
     ·rename_i hb;cases hx;rw[eq_of_beq hb];exact hc
     ·exact ha x c' hx)) fun cl e1 e2 e3=>?_
    refine Mini.iEAA cl ?_ e2 (fun x hx=>e3 x ?_)
    ·rw[List.forIn_cons]
     have:cellOf env p.1=pure c:=by unfold cellOf;rw[hc]
     simp only[hk,beq_self_eq_true,if_true,this]
     exact e1
    ·rcases hx with hx|hx
     ·rcases zQ.mp hx with e|hx
      ·right;rw[<- e];simp[j8]
      ·exact .inl hx
     ·right
      rw[j8]
      split
      ·rfl
      ·exact hx
   ·refine zx4 (ih (fun q hq=>hp q (xJ _ hq)) acc ha) fun cl e1 e2 e3=>?_
    refine Mini.iEAA cl ?_ e2 (fun x hx=>e3 x ?_)
    ·rw[List.forIn_cons]
     have:(p.2==yx)=false:=by simpa using hk
     simp only[this,vx,if_false]
     exact e1
    ·rcases hx with hx|hx
     ·rcases zQ.mp hx with e|hx
      ·rw[<- e]at hk;exact absurd rfl hk
      ·exact .inl hx
     ·exact .inr hx
 refine zx4 (gen csc.names h [] (by simp)) fun cl e1 e2 e3=>?_
 refine Mini.iEA cl ?_ (fun x hx=>?_)
 ·have e0:closureFor csc env=(forIn csc.names ([]:List (Str×Addr)) fun p r=>if (p.2==yx)=true then do let a <- cellOf env p.1;pure (wZ ((p.1,a)::r)) else pure (wZ r)) >>= fun cs=>pure cs:=rfl
  rw[e0,e1]
  rfl
 ·have:=e3 x (.inl hx)
  obtain ⟨c,hc⟩:=jj.mp this
  rw[hc,e2 x c hc]
theorem zn5 {env:xy}:∀(names:List (Str×yq))(x:Str),
  (names.map fun (n,k)=>if (k==yx&&env.scope.kind==.function&&env.kindOf n==some .cell) then (n,yq.cell) else (n,k)).lookup x =
   (names.lookup x).map fun k=>if (k==yx&&env.scope.kind==.function&&env.kindOf x==some .cell) then yq.cell else k
 | [],_=>rfl
 | (n,k)::r,x=>by
  have ih:=zn5 (env:=env) r x
  show QZ x ((if (k==yx&&env.scope.kind==.function&&env.kindOf n==some .cell)=true then (n,yq.cell) else (n,k))::_)=_
  cases hx:x==n with
  | true =>
   have hx':x=n:=eq_of_beq hx
   subst hx'
   by_cases hc:(k==yx&&env.scope.kind==.function&&env.kindOf x==some .cell)=true
   ·rw[if_pos hc];simp only[j8,beq_self_eq_true,Option.map_some];rw[if_pos hc]
   ·rw[if_neg hc];simp only[j8,beq_self_eq_true,Option.map_some];rw[if_neg hc]
  | false =>
   by_cases hc:(k==yx&&env.scope.kind==.function&&env.kindOf n==some .cell)=true
   ·rw[if_pos hc];simp only[j8,hx];exact ih
   ·rw[if_neg hc];simp only[j8,hx];exact ih
section
variable {sc csc:x9}{ν:Nu}{env:xy}{P:List Place}{n:Nat}{x:Str}{cl:List (Str×Addr)}{B:Addr}
structure CompOk (outer:x9)(ν:Nu)(xs:List Str)(csc:x9):Prop where
 kind:csc.kind=.function
 loc:∀ x∈xs,csc.names.lookup x=some .local/\zm0 x=true
 cell:∀ p∈csc.names,p.2≠.cell
 look:∀ p∈csc.names,csc.names.lookup p.1=some p.2
 free:∀ p∈csc.names,p.2=.free->outer.names.lookup p.1=some .cell
theorem zj7 {outer:x9}{xs:List Str}(h:zm6 outer ν xs csc=true):CompOk outer ν xs csc:=by
 unfold zm6 at h
 simp only[zj,beq_iff_eq,x8,bne_iff_ne,ne_eq,Qk]at h
 obtain ⟨⟨h1,h2⟩,h3⟩:=h
 refine⟨h1,fun x hx=>⟨(h2 x hx).1.1,(h2 x hx).1.2⟩,fun p hp=>(h3 p hp).1.1.1,fun p hp=>(h3 p hp).1.2,fun p hp hf=>?_⟩
 rcases (h3 p hp).2 with q|q
 ·exact absurd hf q
 ·exact q.1.1
set_option tactic.hygienic true in
theorem mem_of_lookup {α β:Type}[BEq α][LawfulBEq α]:∀{l:List (α×β)}{a:α}{b:β},l.lookup a=some b->(a,b)∈l
 | (a',b')::l,a,b,h=>by
  rw[j8]at h
  split at h
  ·rename_i e;cases h;rw[eq_of_beq e];exact y8
  ·exact xJ _ (mem_of_lookup h)
theorem wl8 {xs:List Str}{y:Str}{i:Nat}(h:xs.idxOf? y=some i):xs[i]?=some y:=by
 unfold List.idxOf? at h
 refine elEA (List.findIdx?_eq_some_iff_getElem.mp h) fun hi he _=>?_
 rw[qJ hi,eq_of_beq he]
set_option tactic.hygienic true in
theorem wv5 {xs:List Str}(O:EnvOk env sc ν P)(hn:n=P.length)(K:CompOk sc ν xs csc)(hcl:∀ y,(y,yx)∈csc.names->cl.lookup y=env.cells.lookup y) :
  EnvOk (compEnvC csc cl B env) csc (zx7 n ν xs csc) (P++xs.map (.loc B)) where
 kind:=by simp[compEnvC,relabel,K.kind]
 glob:=O.glob
 blt:=O.blt
 slot:=fun y k hk=>by
  unfold zx7 at hk
  cases hi:xs.idxOf? y with
  | some i =>
   rw[hi]at hk
   have hk:n+i=k:=xv hk
   subst hk
   have hg:=wl8 hi
   left
   refine⟨lookup_relabel_local (K.loc _ (xZ hg)).1,?_⟩
   rw[hn,wK (qk _ _),uy,yy,hg]
   rfl
  | none =>
   rw[hi]at hk
   simp only[beq_iff_eq]at hk
   split at hk
   ·rename_i hf
    right
    have hm:=mem_of_lookup hf
    have hc:=O.cell y (K.free _ hm rfl)
    refine⟨.inl ?_,?_⟩
    ·show (relabel csc env).names.lookup y=_
     unfold relabel
     rw[zn5,hf]
     simp[O.kind,hc.1]
    ·rcases O.slot y k hk with ⟨q,_⟩|⟨_,c,q1,q2⟩
     ·rw[hc.1]at q;cases q
     ·refine Mini.iEA c ((hcl y hm).trans q1) ?_
      rw[xX (qV.mp q2).1];exact q2
   ·cases hk
 gl:=fun y hy=>by
  show (relabel csc env).names.lookup y=_
  unfold relabel
  rw[zn5,hy]
  kernel_rfl
 cell:=fun y hy=>absurd rfl (K.cell _ (mem_of_lookup hy))
end
section
variable {C:Cx}{Γ:Mini.Env}{N:Nat}
noncomputable abbrev vals (ws:List D):Sg:=ws.map fun x=>some (.val x)
theorem xm4 {n:Nat}{bc:D->Option (List D)}{cond:Sg->Option (D×Sg)}{elt:Ev}{d:D}{r:List D}{σ σ':Sg}{xs:List D}(h:zm7 n bc cond elt (d::r) σ=some (xs,σ')) :
  ∃ ws c σ1,bc d=some ws/\cond (σ++vals ws)=some (c,σ1)/\((zy6 c=some false/\zm7 n bc cond elt r (σ1.take n)=some (xs,σ')) \/
   (zy6 c=some true/\∃ x f σ2 ys,elt σ1=some (x,f,σ2)/\zm7 n bc cond elt r (σ2.take n)=some (ys,σ')/\xs=x::ys)):=by
 refine bK1 (h) fun ws hw h=>?_
 refine bK2 (h) fun c σ1 hc h=>?_
 refine bK1 (h) fun b hb h=>?_
 refine Mini.iEEEAA ws c σ1 hw hc ?_
 cases b with
 | false=>exact .inl ⟨hb,h⟩
 | true =>
  refine bK3 (h) fun x f σ2 he h=>?_
  refine bK2 (h) fun ys σ3 hr h=>?_
  refine sm2 h ?_
  exact .inr ⟨hb,Mini.iEEEEAA x f σ2 ys he hr rfl⟩
noncomputable def PC (C:Cx)(Γ:Mini.Env)(N:Nat)(i:I)(n:Nat)(sc:x9)(ν:Nu)(ifs:List Expr):Prop:=∀{env:xy}{P:List Place}{vs:List (Option qz)}{σ σ':Sg}{X:Addr->Prop}{F:Fz}{s:qw}{A:zJ}{E:qz->qw->Prop}{c:D}{b:Bool},
 Cn Γ N env sc ν P n A->St C X F s.heap P vs σ->zm4 i (ev Γ i) σ=some (c,σ')->zy6 c=some b ->
  qK (zx C.prog C.w) A (forIn ifs true fun c r=>if r=true then do let ok <- isTrue c env (eval c env);pure (wZ ok) else pure (wZ r)) (PostB C X P vs F s σ' b) E s
theorem PC.none {n:Nat}{sc:x9}{ν:Nu}:PC C Γ N .omit n sc ν []:=by
 intro env P vs σ σ' X F s A E c b K S hv hb
 cases hv
 cases hb
 exact wpAny_tests_nil ⟨rfl,F,Step.refl S⟩
theorem wv4 {i:I}(h:zh8 i=false)(e:Ev)(σ:Sg):zm4 i e σ=(e σ).bind fun p=>some (p.1,p.2.2):=by
 unfold zm4;rw[h];rfl
theorem PC.one {n:Nat}{sc:x9}{ν:Nu}{i:I}{e:Expr}(h0:zh8 i=false)(h:PT C Γ N i n sc ν e):PC C Γ N i n sc ν [e]:=by
 intro env P vs σ σ' X F s A E c b K S hv hb
 rw[wv4 h0]at hv
 refine bK3 (hv) fun d f σ1 he hv=>?_
 cases hv
 exact wpAny_tests_one (h K S (yt9 he) hb)
noncomputable abbrev zh5 (m:Nat):Sg:=j6 m none
theorem yw1 {σ:Sg}{n m:Nat}(h:σ.length=n+m):(σ.take n++zh5 m).length=σ.length/\∀ (k:Nat) av,(σ.take n++zh5 m)[k]?=some av->σ[k]?=some av\/av=none:=by
 have hl:(List.take n σ).length=n:=by rw[Z2,h];exact wV (qk ..)
 refine⟨by rw[zw,hl,h];simp,fun k av e=>?_⟩
 by_cases hk:k<n
 ·rw[xX (by lia),List.getElem?_take_of_lt hk]at e;exact .inl e
 ·rw[wK (by lia)]at e
  exact .inr (Q4.mp (xZ e)).2
theorem take_left {σ:Sg}{n:Nat}{τ:Sg}(h:σ.length=n):(σ++τ).take n=σ:=by subst h;exact List.take_left
noncomputable def PBc (C:Cx)(bc:D->Option (List D))(n:Nat)(xs:List Str)(csc:x9)(ν:Nu)(tg:Expr):Prop:=∀{cenv:xy}{P:List Place}{vs ov:List (Option qz)}{σ:Sg}{X:Addr->Prop}{F:Fz}{s:qw}{A:zJ}{E:qz->qw->Prop}{d:D}{ws:List D}{v:qz},
 A.handled=none->EnvOk cenv csc (zx7 n ν xs csc) P->(∀ x∈xs,cenv.kindOf x=some .local)->vs.length=n->σ.length=n->ov.length=xs.length->St C X F s.heap P (vs++ov) (σ++zh5 xs.length)->Rep C.w F d v->bc d=some ws ->
  qK (zx C.prog C.w) A (assign tg cenv v) (fun _ s'=>∃ ov',ov'.length=xs.length/\Step C X P (vs++ov') F s (σ++vals ws) F s') E s
noncomputable def NxC (M:Model)(A:zJ)(E:qz->qw->Prop)(tg:Expr)(it:qz)(V:qz->qw->Prop)(Z:qw->Prop)(r:Option qz)(s:qw):Prop:=match r with
 | none=>Z s
 | some v=>qK M A (letOwnedTupleGo tg it v) (fun _ s₀=>V v s₀) E s
inductive ItemOk (C:Cx)(X W W':Addr->Prop)(T:Nat->Heap->Prop)(P:List Place)(vs:List (Option qz))(F:Fz)(s:qw)(σ:Sg)(i:Nat)(d:D)(v:qz)(s₀:qw):Prop
 | mk (F2:Fz) (h':Heap) (tk:Nat) (e:s₀={ s with heap:=h',toks:=tk }) (t:T (i+1) h') (le:F.le F2) (S:St C (Or' X W') F2 h' P vs σ) (same:XSame X s.heap h') (rv:Rep C.w F2 d v) (keep:∀ a o,¬ W a->s.heap.get? a=some o->h'.get? a=some o)
theorem yx8 {gt:Expr->Prop}{A:zJ}{E:qz->qw->Prop}{F₂ F:Fz}{J:Addr}{X W W':Addr->Prop}{ds:List D}{T:Nat->Heap->Prop}{P:List Place}{vs:List (Option qz)}{s:qw}{σ:Sg}{i:Nat}{d:D}{tg:Expr}{V:qz->qw->Prop}{Z:qw->Prop}
  (hW:WalkG gt C.prog C.w A F₂ J W ds T) (hg:gt tg) (hsub:∀ a,W a->W' a) (hW':∀ a,W' a->¬ X a/\C.H.get? a=none) (le:F₂.le F) (hcov:∀ a o,C.H.get? a=some o->X a\/F a≠none) (S:St C (Or' X W') F s.heap P vs σ) (t:T i s.heap) (hd:ds[i]?=some d)
  (k:∀ v s₀,ItemOk C X W W' T P vs F s σ i d v s₀->V v s₀):qK (zx C.prog C.w) A (Z7 (.ref J)) (NxC (zx C.prog C.w) A E tg (.ref J) V Z) E s:=by
 have S0:=S.release hcov
 refine wpM (hW.item i d tg s E hg hd t) fun r s₁ q=>?_
 refine elEA q fun v e q'=>?_
 rw[e]
 refine wpM q' fun _ s₀ q=>?_
 refine elEEAAA q fun h' tk' e t' keep hF=>?_
 refine elEAAA (hF F le S.sub fun a ha=>S.xf a (.inr (hsub a ha))) fun F2 le2 hin2 hnew2 rv=>k v s₀ ⟨F2,h',tk',e,t',le2,?_,?_,rv,keep⟩
 ·refine(S0.change2 keep (fun a ha=>Nob.back S (hsub a ha) (hW' a (hsub a ha)).1 (hW' a (hsub a ha)).2) le2 hin2 hnew2).protect fun a ha=>?_
  have q:=Nob.back S ha (hW' a ha).1 (hW' a ha).2
  refine(S.xal a (.inr ha)).elim fun o ho=>⟨q.mono ?_,?_⟩
  ·cases hq:F2 a with
   | none=>rfl
   | some o' =>
    exact(hnew2 a (by rw[hq];exact fun x=>nomatch x)).elim (fun q'=>absurd q.f q') fun q'=>(noS (q'.symm.trans ho)).elim
  ·by_cases hw:W a
   ·exact hW.alive (i+1) _ a t' hw
   ·exact⟨o,keep a o hw ho⟩
 ·exact fun a e=>(S0.xal a e).elim fun o ho=>(keep a o (fun hw=>(hW' a (hsub a hw)).1 e) ho).trans ho.symm
theorem yx9 {gt:Expr->Prop}{A:zJ}{E:qz->qw->Prop}{F₂:Fz}{J:Addr}{W:Addr->Prop}{ds:List D}{T:Nat->Heap->Prop}{s:qw}{tg:Expr}{V:qz->qw->Prop}{Z:qw->Prop}(hW:WalkG gt C.prog C.w A F₂ J W ds T)(t:T ds.length s.heap)
  (k:∀ h' tk,(∀ a o,¬ W a->s.heap.get? a=some o->h'.get? a=some o)->Z { s with heap:=h',toks:=tk }):qK (zx C.prog C.w) A (Z7 (.ref J)) (NxC (zx C.prog C.w) A E tg (.ref J) V Z) E s:=by
 refine wpM (hW.done s E t) fun r s₁ q=>zj6 q fun e h' tk e2 keep=>?_
 rw[e,e2]
 exact k h' tk keep
section
variable (M:Model)(A:zJ)(E:qz->qw->Prop)(tg ee:Expr)(ifs:List Expr)(env:xy)(it acc:qz)(Q:qw->Prop)
noncomputable def CkT (ok:Bool)(s:qw):Prop:=bif ok then qK M A (eval ee env) (fun x s₄=>qK M A (call (.builtin "list.append") [acc,x]) (fun _ s₅=>Q s₅) E s₄) E s else Q s
noncomputable def CkA (_:Unit)(s:qw):Prop:=qK M A (forIn ifs true fun c r=>if r=true then do let ok <- isTrue c env (eval c env);pure (wZ ok) else pure (wZ r)) (CkT M A E ee env acc Q) E s
noncomputable def CkV (v:qz)(s:qw):Prop:=qK M A (assign tg env v) (CkA M A E ee ifs env acc Q) E s
end
theorem xx5 {prog:vw}{w:wz}{A:zJ}{R:Result->qw->Prop}{s:qw}{elt target iter:Expr}{ifs:List Expr}{scope:x9}{pos:Pos}{it acc:qz}{env:xy}(I:Nat->qw->Prop)
  (turn:∀ E n s,I n s->qK (zx prog w) A (Z7 it) (NxC (zx prog w) A E target it (CkV (zx prog w) A E target elt ifs env acc fun s₅=>∃ m,m<n/\I m s₅) fun s₁=>R (.ok .next) s₁) E s)
  (n:Nat) (h:I n s) :
  codeAny (zx prog w) A (.compLoop (.ListComp elt [⟨target,iter,ifs,0⟩] scope pos) 0 it acc env) R s:=by
 refine codeAny_loop rfl I (fun n s hI=>?_) n h
 show qK _ A ((compTurn (.ListComp elt [⟨target,iter,ifs,0⟩] scope pos) 0 it acc env).onRaise (fun x=>do noteFrame x env;theTreesLotGoes x)) _ _ s
 refine wpAny_noted ?_
 rw[compTurn_list]
 refine qq (wpAny_standAt (qq (kK (turn _ n s hI) (fun r s₁ h₁=>?_) fun _ _ h'=>h')))
 cases r with
 | none=>exact qX h₁
 | some v =>
  refine qq (kK h₁ (fun _ s₀ h₀=>qq (kK h₀ (fun _ s₂ h₂=>qq (kK h₂ (fun ok s₃ h₃=>?_) fun _ _ h'=>h')) fun _ _ h'=>h')) fun _ _ h'=>h')
  cases ok with
  | false=>exact qX ⟨rfl,h₃⟩
  | true =>
   exact qq (qq (kK h₃ (fun x s₄ h₄=>qq (kK h₄ (fun _ s₅ h₅=>qX (qX ⟨rfl,h₅⟩)) fun _ _ h'=>h')) fun _ _ h'=>h'))
inductive CompInv (C:Cx)(Γ:Mini.Env)(X W':Addr->Prop)(T:Nat->Heap->Prop)(P:List Place)(vs:List (Option qz))(F₂:Fz)(s:qw)(ds xs:List D)(Dn:Addr)(n m0:Nat)(bc:D->Option (List D))(cond elt:I)(σ':Sg)(k:Nat)(s':qw):Prop
 | mk (F':Fz) (i:Nat) (σi:Sg) (ov:List (Option qz)) (hov:ov.length=m0) (done rest:List D) (ys:Array qz) (m:Nat) (ek:k=ds.length+1 - i) (hi:i<=ds.length) (es:∃ h' tk,s'={ s with heap:=h',toks:=tk }) (le:F₂.le F') (same:XSame X s.heap s'.heap)
  (S:St C (Or' X W') F' s'.heap P (vs++ov) (σi++zh5 m0)) (t:T i s'.heap) (hacc:s'.heap.get? Dn=some (lobj ys m)) (rd:RepL C.w F' done ys.toList)
  (hc:zm7 n bc (zm4 cond (ev Γ cond)) (ev Γ elt) (ds.drop i) σi=some (rest,σ')) (hdone:done++rest=xs)
theorem xm3 {n:Nat}{sc csc:x9}{ν:Nu}{env:xy}{P:List Place}{vs:List (Option qz)}{σ₂ σ':Sg}{X:Addr->Prop}{F F₂:Fz}{s s₂:qw}{A:zJ}{E:qz->qw->Prop}{ds xs:List D}
  {elt cond:I} {ee it:Expr} {ifs:List Expr} {nm:List Str} {tg:Expr} {bc:D->Option (List D)} {pos:Pos} {cl:List (Str×Addr)} {J:Addr} {W:Addr->Prop} {T:Nat->Heap->Prop} {RR:qz->Addr->Result->qw->Prop}
  (hBc:PBc C bc n nm csc ν tg) (hnm:nm.Nodup) (hne:nm≠[]) (hE:PE C Γ N elt (n+nm.length) csc (zx7 n ν nm csc) ee) (hT:PC C Γ N cond (n+nm.length) csc (zx7 n ν nm csc) ifs)
  (K:CompOk sc ν nm csc) (hcl:∀ y,(y,yx)∈csc.names->cl.lookup y=env.cells.lookup y) (KN:Cn Γ N env sc ν P n A)
  (st:Step C X P vs F s σ₂ F₂ s₂) (hW:Walk C.prog C.w A F₂ J W ds T) (ht:T 0 s₂.heap) (hz:ds.length<=size) (hnob:∀ a,W a->Nob C X F₂ P vs σ₂ a)
  (hv:zm7 n bc (zm4 cond (ev Γ cond)) (ev Γ elt) ds σ₂=some (xs,σ')) (hzx:xs.length<=size)
  (hRR:∀ B Dn F' s' m,Step C X P vs F s σ' F' s'->Nob C X F' P vs σ' B->B≠Dn->s'.heap.Ns B m->ResOk C.w X F' s'.heap P vs σ' (.ref Dn) (.list xs) true->RR (.ref Dn) B (.ok .next) s') :
  qK (zx C.prog C.w) A (newList []) (fun acc s₃=>qK (zx C.prog C.w) A (newFunctionEnv csc env.globals cl [] env.qual none .none (some env)) (fun cenv s₄ =>
   codeAny (zx C.prog C.w) A (.compStart (.ListComp ee [⟨tg,it,ifs,0⟩] csc pos) 0 (.ref J) acc { cenv with scope:=relabel csc env }) (RR acc cenv.locals) s₄) E s₃) E s₂:=by
 have O:=KN.O
 have hn:=KN.hn
 have R:=KN.R
 have S₂:=st.st
 have hPl:P.length=vs.length:=S₂.lenP
 refine uW (wpAny_newFunctionEnv K.cell (by intro y hy;simp at hy) (fun h₁ hns₁ hsb₁=>?_) K.kind)
 dsimp only at hns₁ hsb₁ |-
 generalize hH2:s₂.heap.push { cls:=.type "list", dict:=none,data:=.seq ([]:List qz).toArray }=H2 at hns₁ hsb₁ |-
 have hC:H2.objs.size=s₂.heap.objs.size+1:=by rw[<- hH2,Heap.size_push]
 generalize hB:H2.objs.size=B at *
 generalize hD:s₂.heap.objs.size=Dn at *
 have hDB:Dn≠B:=by rw[hC];exact jJ (ky _)
 have nD:s₂.heap.get? Dn=none:=by rw[<- hD];exact zz6 _
 have nB:s₂.heap.get? B=none:=by
  cases e:s₂.heap.get? B with
  | none=>rfl
  | some o=>exact absurd (hD▸xk e) (by rw[hC];exact QK.mpr (QW _))
 have old:∀ b o,s₂.heap.get? b=some o->h₁.get? b=some o:=fun b o e=>hsb₁.extBut b o (by rintro rfl;rw[nB]at e;cases e) (qQ _ (hH2▸qQ _ e))
 have hacc:h₁.get? Dn=some (lobj #[] 0):=hsb₁.extBut _ _ hDB (qQ _ (hH2▸hD▸x7 _ rfl))
 have fB:=S₂.nob_new nB
 have fD:=S₂.nob_new nD
 have S₃:St C X F₂ h₁ P vs σ₂:=S₂.grow0 old
 have hWD:∀ a,W a->a≠Dn/\a≠B:=fun a ha=>by
  obtain ⟨o,ho⟩:=hW.alive 0 _ a ht ha
  exact⟨(by rintro rfl;rw[nD]at ho;cases ho),(by rintro rfl;rw[nB]at ho;cases ho)⟩
 have hqB:∀{q:Place},q∈nm.map (Place.loc B)->q.addr=B:=fun hq=>by
  (refine elEA (zX.mp hq) fun y _ e_2=>?_;subst e_2);rfl
 have hnd:(P++nm.map (Place.loc B)).Nodup:=by
  rw[ux]
  refine Mini.iAA S₂.nodup ?_ (fun p hp q hq=>?_)
  ·unfold List.Nodup
   rw[List.pairwise_map]
   exact hnm.imp fun h e=>h (by cases e;rfl)
  ·rintro rfl
   exact fB.p _ hp (hqB hq).symm
 have S₄:St C X F₂ h₁ (P++nm.map (Place.loc B)) (vs++j6 nm.length none) (σ₂++zh5 nm.length):=by
  refine S₃.extend (by simp) (by simp) (fun i q ov e1 e2=>?_) (fun i ov av e1 e2=>?_) (fun av hav d e=>?_) hnd (fun q hq=>?_) (fun k a ho q hq=>?_)
  ·(refine elEA (zX.mp (xZ e1)) fun y _ e_2=>?_;subst e_2)
   obtain rfl:=(Q4.mp (xZ e2)).2
   exact⟨_,hns₁,rfl⟩
  ·obtain rfl:=(Q4.mp (xZ e2)).2
   exact trivial
  ·obtain rfl:=(Q4.mp hav).2;cases e
  ·rw[hqB hq];exact⟨fB.f,fB.x⟩
  ·rw[hqB hq];rintro rfl;exact fB.o k ho
 have O':EnvOk (compEnvC csc cl B env) csc (zx7 n ν nm csc) (P++nm.map (Place.loc B)):=wv5 O hn K hcl
 have hxk:∀ y∈nm,(compEnvC csc cl B env).kindOf y=some .local:=fun y hy=>lookup_relabel_local (K.loc y hy).1
 have hnone:∀ av∈zh5 nm.length,∀ d,av≠some (.own d):=fun av hav d e=>by obtain rfl:=(Q4.mp hav).2;cases e
 have hn':n+nm.length=(P++nm.map (Place.loc B)).length:=by simp[hn]
 have hvl:vs.length=n:=by rw[hn,hPl]
 let W':Addr->Prop:=fun a=>W a\/a=Dn
 have hW':∀ a,W' a->¬ X a/\C.H.get? a=none:=by
  rintro a (ha|rfl)
  ·exact⟨(hnob a ha).x,(hnob a ha).h⟩
  ·exact⟨fD.x,fD.h⟩
 have t₁:T 0 h₁:=hW.frame 0 _ _ ht S₂.sub (fun a o _ e=>old a o e) S₃.sub
 have S₅:St C (Or' X W') F₂ h₁ (P++nm.map (Place.loc B)) (vs++j6 nm.length none) (σ₂++zh5 nm.length):=by
  refine S₄.protect fun a ha=>?_
  rcases ha with ha|rfl
  ·have q:=hnob a ha
   refine⟨⟨q.f,q.x,fun p hp=>?_,fun k ho=>q.o k (zr9 S₂.lenS hnone ho),q.h⟩,hW.alive 0 _ a t₁ ha⟩
   rcases z6.mp hp with hp|hp
   ·exact q.p p hp
   ·rw[hqB hp];exact(hWD a ha).2
  ·refine⟨⟨fD.f,fD.x,fun p hp=>?_,fun k ho=>fD.o k (zr9 S₂.lenS hnone ho),fD.h⟩,⟨_,hacc⟩⟩
   rcases z6.mp hp with hp|hp
   ·exact fD.p p hp
   ·rw[hqB hp];exact hDB
 have loop:∀ s₃:qw,s₃={ s₂ with heap:=h₁,toks:=s₂.toks+([]:List (Str×qz)).length } ->
   codeAny (zx C.prog C.w) A (.compLoop (.ListComp ee [⟨tg,it,ifs,0⟩] csc pos) 0 (.ref J) (.ref Dn) (compEnvC csc cl B env)) (RR (.ref Dn) B) s₃:=by
  rintro s₃ rfl
  generalize hce:compEnvC csc cl B env=ce at O' hxk |-
  generalize hP':P++nm.map (Place.loc B)=P' at S₅ O' hn'
  clear S₄ hnd
  have hqP:∀ p∈P,p∈P':=fun p hp=>hP'▸u7 _ hp
  obtain ⟨Inv,hInv⟩:∃ Inv,Inv=CompInv C Γ X W' T P' vs F₂ s ds xs Dn n nm.length bc cond elt σ':=⟨_,rfl⟩
  refine xx5 Inv ?_ (ds.length+1) ?_
  rotate_left
  ·refine elEE (st.eq) fun h0 t0 e0=>?_
   rw[hInv]
   refine⟨F₂,0,σ₂,j6 nm.length none,by simp,[],xs,#[],0,rfl,vq _,Mini.iEE h₁ _ (by rw[e0]),Fz.le_refl _,?_,S₅,t₁,hacc,RepL.nil_,hv,rfl⟩
   exact XSame.trans st.same (XSame.of_keep S₂.xal old)
  intro E k s' hInv'
  obtain ⟨F',i,σi,ov,hov,done,rest,ys,m,rfl,hi,⟨hh,tk,hs'⟩,le,same,S,t,hacc',rd,hc,hdone⟩:=hInv▸hInv'
  clear hInv'
  have hcov:∀ a o,C.H.get? a=some o->X a\/F' a≠none:=zn0 le S₂.cov
  have hσi:σi.length=n:=by have:=S.lenS;simp at this;rw[hov]at this;exact(Nat.add_right_cancel this).trans (hPl.symm.trans hn.symm)
  by_cases hlt:i<ds.length
  ·-- an item
   have hdrop:ds.drop i=ds[i]::ds.drop (i+1):=kQ hlt
   rw[hdrop]at hc
   refine xe9 (xm4 hc) fun wv c σ1 hbc hcd hrest=>?_
   refine yx8 (W':=W') hW trivial (fun a ha=>.inl ha) hW' le hcov S t (qJ hlt) fun v s₀ q=>?_
   obtain ⟨F2,h',tk',rfl,t',le2,S2,same0,rv,keep⟩:=q
   have same1:XSame X s.heap h':=XSame.trans same same0
   have hD':h'.get? Dn=some (lobj ys m):=keep _ _ (fun hw=>(hWD _ hw).1 rfl) hacc'
   refine wpM (hBc (s:={ s' with heap:=h',toks:=tk' }) R.handled O' hxk hvl hσi hov S2 rv hbc) (fun _ s₃ q=>?_)
   obtain ⟨ov2,hov2,⟨h₂,tk₂,rfl⟩,_,S3,same3⟩:=q
   have t2:T (i+1) h₂:=hW.frame _ _ _ t' (fun a o e=>S2.sub a o ((Fz.le.trans le le2) a o e)) (fun a o ha e=>by rw[same3 a (.inr (.inl ha))];exact e) fun a o e=>S3.sub a o ((Fz.le.trans le le2) a o e)
   have hD2:h₂.get? Dn=some (lobj ys m):=by rw[same3 Dn (.inr (.inr rfl))];exact hD'
   have same2:XSame X s.heap h₂:=XSame.trans same1 same3.left
   have K':Cn Γ N (ce) csc (zx7 n ν nm csc) P' (n+nm.length) A:=⟨O',hn',R⟩
   obtain ⟨b0,hb0⟩:∃ b,zy6 c=some b:=by rcases hrest with ⟨q,_⟩|⟨q,_⟩<;>exact⟨_,q⟩
   refine wpM (hT K' S3 hcd hb0) (fun ok s₃ q=>?_)
   obtain ⟨hok,F3,st3⟩:=q
   subst hok
   have hok:=hb0
   have S4:=st3.st
   have e3:∃ h' tk,s₃={ s with heap:=h',toks:=tk }:=by
    (refine elEE (st3.eq) fun h3 t3 e_2=>?_;subst e_2);exact Mini.iEE h3 t3 (by rw[hs'])
   have le3:F₂.le F3:=Fz.le.trans (Fz.le.trans le le2) st3.le
   have t3:T (i+1) s₃.heap:=hW.frame _ _ _ t2 (fun a o e=>S3.sub a o ((Fz.le.trans le le2) a o e)) (fun a o ha e=>by rw[st3.same a (.inr (.inl ha))];exact e) fun a o e=>S4.sub a o (le3 a o e)
   have hD3:s₃.heap.get? Dn=some (lobj ys m):=by rw[st3.same Dn (.inr (.inr rfl))];exact hD2
   have same4:XSame X s.heap s₃.heap:=XSame.trans same2 st3.same.left
   rcases hrest with hrest|hrest
   ·obtain ⟨q,hr⟩:=hrest
    obtain rfl:=xv (hok.symm.trans q)
    have hl:σ1.length=n+nm.length:=by have:=S4.lenS;simp at this;lia
    obtain ⟨f1,f2⟩:=yw1 hl
    exact show ∃ m,m<ds.length+1 - i/\_ from Mini.iEA (ds.length+1 - (i+1)) (Nat.sub_lt_sub_left (Zv hlt) (ky i)) (hInv▸⟨F3,i+1,σ1.take n,ov2,hov2,done,rest,ys,m,rfl,hlt,e3,le3,same4,S4.forget f1 f2,t3,hD3,RepL.mono (Fz.le.trans le2 st3.le) _ rd,hr,hdone⟩)
   ·refine xd4 hrest fun q y fy σ2 zs hel hr hrs=>?_
    obtain rfl:=xv (hok.symm.trans q)
    refine wpM (hE.frozen K' S4 hel) (fun u s₄ q=>?_)
    obtain ⟨F4,st4,ru⟩:=q
    have S5:=st4.st
    have hD4:s₄.heap.get? Dn=some (lobj ys m):=by rw[st4.same Dn (.inr (.inr rfl))];exact hD3
    have le4:F₂.le F4:=Fz.le.trans le3 st4.le
    have t4:T (i+1) s₄.heap:=hW.frame _ _ _ t3 (fun a o e=>S4.sub a o (le3 a o e)) (fun a o ha e=>by rw[st4.same a (.inr (.inl ha))];exact e) fun a o e=>S5.sub a o (le4 a o e)
    have same5:XSame X s.heap s₄.heap:=XSame.trans same4 st4.same.left
    have rd4:RepL C.w F4 done ys.toList:=RepL.mono (Fz.le.trans (Fz.le.trans le2 st3.le) st4.le) _ rd
    have hys:ys.size<=kW:=by
     have:=rd4.length
     have hl2:xs.length=done.length+rest.length:=by rw[<- hdone,zw]
     simp at this
     rw[zn3];exact qv (xx this) (qv (qk ..) (hl2▸hzx))
    refine wpAny_list_append_plain (hsz:=hys) ⟨m,hD4⟩ fun h₅ hl₅ hs₅=>?_
    obtain ⟨m5,hD5⟩:=hl₅
    have hcov4:∀ a o,C.H.get? a=some o->X a\/F4 a≠none:=zn0 le4 S₂.cov
    have S6:St C X F4 h₅ P' (vs++ov2) σ2:=(S5.release hcov4).change (W:=fun a=>a=Dn) (fun a o ha e=>by rw[hs₅.2 a ha];exact e) fun a ha=>Nob.back S5 (.inr ha) (hW' a (.inr ha)).1 (hW' a (.inr ha)).2
    have S7:St C (Or' X W') F4 h₅ P' (vs++ov2) σ2:=S6.protect fun a ha=>by
     refine⟨Nob.back S5 ha (hW' a ha).1 (hW' a ha).2,?_⟩
     obtain ⟨o,ho⟩:=S5.xal a (.inr ha)
     by_cases hd:a=Dn
     ·exact⟨_,hd▸hD5⟩
     ·exact⟨o,by rw[hs₅.2 a hd];exact ho⟩
    have hl:σ2.length=n+nm.length:=by have:=S5.lenS;simp at this;lia
    obtain ⟨f1,f2⟩:=yw1 hl
    refine Mini.iEA (ds.length+1 - (i+1)) (Nat.sub_lt_sub_left (Zv hlt) (ky i)) ?_
    rw[hInv]
    refine⟨F4,i+1,σ2.take n,ov2,hov2,done++[y],zs,ys.push u,m5,rfl,hlt,?_,le4,?_,S7.forget f1 f2,?_,hD5,?_,hr,?_⟩
    ·(refine elEE (e3) fun h3 k3 e_2=>?_;subst e_2)
     (refine elEE (st4.eq) fun h4 k4 e_2=>?_;subst e_2)
     exact Mini.iEE h₅ k4 rfl
    ·exact XSame.trans same5 fun a e=>hs₅.2 a fun q=>(hW' a (.inr q)).1 e
    ·exact hW.frame _ _ _ t4 (fun a o e=>S5.sub a o (le4 a o e)) (fun a o ha e=>by rw[hs₅.2 a (hWD a ha).1];exact e) fun a o e=>S6.sub a o (le4 a o e)
    ·rw[Array.toList_push];exact rd4.append (RepL.cons_ ru RepL.nil_)
    ·rw[w6,List.singleton_append,<- hrs];exact hdone
  ·-- the end
   subst hP'
   have hin:i=ds.length:=by lia
   subst hin
   rw[List.drop_length]at hc
   obtain ⟨hr1,hr2⟩:=Prod.mk.inj (xv (show some (([]:List D),σi)=some (rest,σ') from hc))
   subst hr1
   subst hr2
   rw[Qj]at hdone
   subst hdone
   refine yx9 hW t fun h' tk' keep=>?_
   have hnb:∀ a,W' a->Nob C X F' (P++nm.map (Place.loc B)) (vs++ov) (σi++zh5 nm.length) a:=fun a ha=>Nob.back S ha (hW' a ha).1 (hW' a ha).2
   have S1:St C X F' h' (P++nm.map (Place.loc B)) (vs++ov) (σi++zh5 nm.length):=(S.release hcov).change keep fun a ha=>hnb a (.inl ha)
   have S2:=S1.shrink hPl (n:=n) hvl.symm
   have htk:(σi++zh5 nm.length).take n=σi:=take_left hσi
   rw[htk]at S2
   have own0:∀ k a,zw6 vs σi k a->zw6 (vs++ov) (σi++zh5 nm.length) k a:=fun k a ho=>zi5 (n:=n) hvl.symm (by rw[htk];exact ho)
   obtain ⟨y0,hy0⟩:=List.exists_mem_of_ne_nil nm hne
   have hmB:Place.loc B y0∈P++nm.map (Place.loc B):=List.mem_append_right _ (zX.mpr (Mini.iEA y0 hy0 rfl))
   obtain ⟨kB,hkB⟩:=Q7.mp hmB
   refine wr5 (S1.placeAt hkB) fun ovB hovB mB hnsB _=>?_
   have hD':h'.get? Dn=some (lobj ys m):=keep _ _ (fun hw=>(hWD _ hw).1 rfl) hacc'
   refine hRR B Dn F' _ mB ⟨?_,Fz.le.trans st.le le,S2,?_⟩ ⟨(S1.cont _ hmB).1,(S1.cont _ hmB).2,fun p hp=>fB.p p hp,fun k ho=>(S1.own k _ (own0 k _ ho)).2 _ hmB rfl,fB.h⟩ (y7 hDB) hnsB ?_
   ·exact Mini.iEE h' tk' (by rw[hs'])
   ·exact XSame.trans same fun a e=>by
     obtain ⟨o,ho⟩:=(S.release hcov).xal a e
     rw[ho]
     exact keep a o (fun hw=>(hW' a (.inl hw)).1 e) ho
   ·have q:=hnb Dn (.inr rfl)
    exact⟨Dn,rfl,q.f,q.x,fun p hp=>q.p p (u7 _ hp),fun k ho=>q.o k (own0 k _ ho),hzx,ys,m,hD',rd⟩
 exact codeAny_compStart_list (loop _ rfl) (hW.iter 0 _ _ _ t₁ (loop _ rfl))
end
section
variable {C:Cx}{Γ:Mini.Env}{N:Nat}{n:Nat}{sc:x9}{ν:Nu}{env:xy}{P:List Place}{vs:List (Option qz)}{σ σ':Sg}{X:Addr->Prop}{F:Fz}{s:qw}{A:zJ}{E:qz->qw->Prop}
theorem yh8 {e:Expr}(h:okE e)(x:qz):foldedSetIterable e env x=pure x:=congrArg (·.2.2.2) (h env [] .Eq .none .none x)
noncomputable def yo7 (Γ:Mini.Env)(bc:D->Option (List D))(elt sr cond:I)(σ:Sg):Option (D×Bool×Sg):=(srcE (ev Γ sr) σ).bind fun p=>(zm7 σ.length bc (zm4 cond (ev Γ cond)) (ev Γ elt) p.1 p.2).bind fun q=>(mkL q.1).bind fun r=>some (r.1,r.2,q.2)
theorem wi4 {elt sr cond:I}(σ:Sg):ev Γ (.comp1 elt sr cond) σ=yo7 Γ bc1 elt sr cond σ:=by
 kernel_rfl
theorem xs6 {bc:D->Option (List D)}{elt sr cond:I}{d:D}{f:Bool}(hv:yo7 Γ bc elt sr cond σ=some (d,f,σ')) :
  ∃ ds σ1 xs,srcE (ev Γ sr) σ=some (ds,σ1)/\zm7 σ.length bc (zm4 cond (ev Γ cond)) (ev Γ elt) ds σ1=some (xs,σ')/\xs.length<=size/\d=.list xs/\f=true:=by
 refine bK2 (hv) fun ds σ1 hs hv=>?_
 refine bK2 (hv) fun xs σ2 hc hv=>?_
 refine bK2 (hv) fun d' f' hm hv=>?_
 cases hv
 obtain ⟨hz,hm⟩:=ifS hm
 cases hm
 exact Mini.iEEEAAAA ds σ1 xs hs hc hz rfl rfl
theorem xr4 {elt sr cond:I}{ee it:Expr}{nm:List Str}{tg:Expr}{bc:D->Option (List D)}{ifs:List Expr}{csc:x9}{pos ipos:Pos}(hBc:PBc C bc n nm csc ν tg)(hnm:nm.Nodup)(hne:nm≠[])(hS:PW C Γ N sr n sc ν it)(hE:PE C Γ N elt (n+nm.length) csc (zx7 n ν nm csc) ee)(hT:PC C Γ N cond (n+nm.length) csc (zx7 n ν nm csc) ifs)(h0:okE it)
  {d:D} {f:Bool} {use:Option (qz->Sem Unit)} {Q:qz->qw->Prop}
  (KC:CompOk sc ν nm csc) (K:Cn Γ N env sc ν P n A) (S:St C X F s.heap P vs σ) (hv:yo7 Γ bc elt sr cond σ=some (d,f,σ'))
  (hQ:∀ B Dn F' s' m,Step C X P vs F s σ' F' s'->Nob C X F' P vs σ' B->B≠Dn->s'.heap.Ns B m->ResOk C.w X F' s'.heap P vs σ' (.ref Dn) d f->compPost (zx C.prog C.w) A E use Q (.ref Dn) B (.ok .next) s') :
  qK (zx C.prog C.w) A (comprehension (.ListComp ee [⟨tg,it,ifs,0⟩] csc pos) csc env ipos (newList []) false (eval it env) use) Q E s:=by
 (refine elEEEAAAA (xs6 hv) fun ds σ1 xs hs hc hz e_6 e_7=>?_;subst e_6;subst e_7)
 refine elEA (xm5 (env:=env) (csc:=csc) fun p hp hf=>(K.O.cell p.1 (KC.free p hp hf)).2) fun cl hcl hlk=>?_
 refine wpAny_comprehension_free rfl (yh8 h0) hcl KC.kind (fun y hy hl=>by have:=KC.look y hy;rw[hl]at this;exact this) (wpM (hS K S hs) (fun v s₁ q=>wpM q (fun it s₂ q=>?_)))
 obtain ⟨F₂,J,W,T,rfl,st,hW,ht,hzd,hnob⟩:=q
 have hσ:σ.length=n:=by rw[S.lenS,<- S.lenP,K.hn]
 rw[hσ]at hc
 exact xm3 (RR:=fun acc B=>compPost (zx C.prog C.w) A E use Q acc B) hBc hnm hne hE hT KC hlk K st hW ht hzd hnob hc hz hQ
theorem PE.compG {i elt sr cond:I}{ee it:Expr}{nm:List Str}{tg:Expr}{bc:D->Option (List D)}{ifs:List Expr}{csc:x9}{pos:Pos}(hev:∀ σ,ev Γ i σ=yo7 Γ bc elt sr cond σ)(hBc:PBc C bc n nm csc ν tg)(hnm:nm.Nodup)(hne:nm≠[])(hS:PW C Γ N sr n sc ν it)(hE:PE C Γ N elt (n+nm.length) csc (zx7 n ν nm csc) ee)(hT:PC C Γ N cond (n+nm.length) csc (zx7 n ν nm csc) ifs)(h0:okE it)(KC:CompOk sc ν nm csc) :
  PE C Γ N i n sc ν (.ListComp ee [⟨tg,it,ifs,0⟩] csc pos):=by
 intro env P vs σ σ' X F s A E d f K S hv
 rw[hev]at hv
 refine elEEEAAAA (xs6 hv) fun ds σ1 xs hs hc hz hd hf=>?_
 rw[eval_ListComp]
 refine xr4 (use:=none) hBc hnm hne hS hE hT h0 KC K S hv fun B Dn F' s' m st nb hne hns r=>⟨m,hns,fun h' hs'=>?_⟩
 have S':=st.st.change (W:=fun a=>a=B) (h':=h') (fun a o ha e=>by rw[hs'.2 a ha];exact e) (fun a ha=>ha▸nb)
 refine⟨F',⟨?_,st.le,S',?_⟩,?_⟩
 ·(refine elEE (st.eq) fun h0 t0 e_2=>?_;subst e_2);exact Mini.iEE h' t0 rfl
 ·exact XSame.trans st.same fun a e=>hs'.2 a (by rintro rfl;exact nb.x e)
 ·subst hf
  refine zr8 (r) fun a e r1 r2 r3 r4 r5=>?_
  cases e
  exact⟨Dn,rfl,r1,r2,r3,r4,r5.mono (Fz.le_refl _) fun o e=>by rw[hs'.2 Dn (y7 hne)];exact e⟩
theorem PBc.name {x:Str}{px:Pos}{csc:x9}:PBc C bc1 n [x] csc ν (.Name x px):=by
 intro cenv P vs ov σ X F s A E d ws v hA O hk hv hσ ho S r hb
 cases hb
 obtain ⟨o,rfl⟩:=List.length_eq_one_iff.mp ho
 have hxn:zx7 n ν [x] csc x=some n:=by simp[zx7,List.idxOf?]
 refine ZQ (zs5 O S hxn (d:=d) (f:=false) r (by rw[hk x (by simp)];exact fun x=>nomatch x) fun h' tk S' same=>Mini.iEA [some v] rfl ⟨Mini.iEE h' tk rfl,Fz.le_refl _,?_,same⟩)
 have e1:(vs++[o]).set n (some v)=vs++[some v]:=by subst hv;simp
 have e2:put (σ++zh5 1) n d false=σ++vals [d]:=by unfold put;subst hσ;simp
 rw[e1]at S'
 exact e2▸S'
noncomputable abbrev nmE (q:Str×Pos):Expr:=.Name q.1 q.2
theorem zr3 {env:xy}:∀ l:List (Str×Pos),assignEach (l.map nmE) env=l.map fun q=>(false,assign (nmE q) env)
 | []=>rfl
 | q::r=>by
  show (false,assign (nmE q) env)::assignEach (r.map nmE) env=_
  rw[zr3 r];rfl
theorem yp5 {env:xy}(l:List (Str×Pos)):(l.map fun q=>((false,assign (nmE q) env):Bool×(qz->Sem Unit))).findIdx? (·.1)=none:=by
 rw[List.findIdx?_eq_none_iff]
 intro x hx
 (refine elEA (zX.mp hx) fun q _ e_2=>?_;subst e_2)
 rfl
noncomputable def wf9 (e:Expr):Prop:=∀(env:xy)(whole:Sem qz),isTrue e env whole=(do let v <- whole;standAt e.pos;holding [v] (truthy v))
end
inductive PostN (C:Cx)(X:Addr->Prop)(P:List Place)(F:Fz)(s:qw)(σ':Sg)(fl:Flow)(s':qw):Prop
 | mk (e:fl=.next) (vs':List (Option qz)) (F':Fz) (st:Step C X P vs' F s σ' F' s')
inductive PostR (C:Cx)(X:Addr->Prop)(P:List Place)(F:Fz)(s:qw)(d:D)(f:Bool)(fl:Flow)(s':qw):Prop
 | mk (v:qz) (e:fl=.ret v) (vs':List (Option qz)) (σ':Sg) (F':Fz) (st:Step C X P vs' F s σ' F' s') (r:ResOk C.w X F' s'.heap P vs' σ' v d f)
noncomputable def PostS (C:Cx)(X:Addr->Prop)(P:List Place)(F:Fz)(s:qw):Out->Flow->qw->Prop
 | .next σ'=>PostN C X P F s σ'
 | .ret d f=>PostR C X P F s d f
section
variable {C:Cx}{X:Addr->Prop}{P:List Place}{vs vs':List (Option qz)}{F F' F'':Fz}{s s' s'':qw}{σ σ' σ'':Sg}
theorem Step.trans' (a:Step C X P vs F s σ' F' s')(b:Step C X P vs' F' s' σ'' F'' s''):Step C X P vs' F s σ'' F'' s'' where
 eq:=by
  (refine elEE (a.eq) fun h1 t1 e_2=>?_;subst e_2)
  (refine elEE (b.eq) fun h2 t2 e_2=>?_;subst e_2)
  exact Mini.iEE h2 t2 rfl
 le:=Fz.le.trans a.le b.le
 st:=b.st
 same:=XSame.trans a.same b.same
theorem PostS.trans {o:Out}{fl:Flow}(a:Step C X P vs F s σ' F' s')(q:PostS C X P F' s' o fl s''):PostS C X P F s o fl s'':=by
 cases o with
 | next σ=>obtain ⟨e,vs',G,st⟩:=q;exact⟨e,vs',G,a.trans' st⟩
 | ret d f=>obtain ⟨v,e,vs',σ',G,st,r⟩:=q;exact⟨v,e,vs',σ',G,a.trans' st,r⟩
end
section
variable {C:Cx}{Γ:Mini.Env}{N:Nat}{n:Nat}{sc:x9}{ν:Nu}{env:xy}{P:List Place}{vs:List (Option qz)}{σ σ':Sg}{X:Addr->Prop}{F:Fz}{s:qw}{A:zJ}{E:qz->qw->Prop}
theorem xg7 {xs:List Str}{y:Str}{r:List Str}(h:y∉xs):(xs++y::r).idxOf? y=some xs.length:=by
 induction xs with
 | nil=>simp[List.idxOf?,List.findIdx?_cons]
 | cons x t ih =>
  have hx:(x==y)=false:=by
   rw[<- ZZ];intro e;exact h (by rw[eq_of_beq e];exact y8)
  have:=ih fun hm=>h (xJ _ hm)
  simp only[List.idxOf?,yz,List.findIdx?_cons,hx]at this |-
  simp[this]
theorem yj3 {csc:x9}{cenv:xy}{xs:List Str}(O:EnvOk cenv csc (zx7 n ν xs csc) P)(hk:∀ x∈xs,cenv.kindOf x=some .local)(hnd:xs.Nodup)(hv:vs.length=n)(hσ:σ.length=n) :
  ∀(l:List (Str×Pos))(pre:List Str)(w1 ds:List D)(ws:List qz)(ov:List (Option qz))(s:qw),xs=pre++l.map (·.1)->w1.length=pre.length->ds.length=l.length->ov.length=xs.length->RepL C.w F ds ws ->
   St C X F s.heap P (vs++ov) (σ++(vals w1++zh5 l.length)) ->
   qK (zx C.prog C.w) A (assignInOrder (l.map fun q=>assign (nmE q) cenv) ws) (fun _ s'=>∃ ov',ov'.length=xs.length/\Step C X P (vs++ov') F s (σ++vals (w1++ds)) F s') E s
 | [],pre,w1,ds,ws,ov,s,hx,h1,h2,ho,r,S=>by
  obtain rfl:=Z3.mp h2
  refine qX (Mini.iEA ov ho ?_)
  have e:σ++(vals w1++zh5 ([]:List (Str×Pos)).length)=σ++vals (w1++[]):=by simp
  exact e▸Step.refl S
 | q::l,pre,w1,ds,ws,ov,s,hx,h1,h2,ho,r,S=>by
  cases ds with
  | nil=>simp at h2
  | cons d ds =>
   simp only[zv1]at r
   (refine elEEAA (r) fun v rest e_2 r1 r2=>?_;subst e_2)
   have hq:q.1∈xs:=by rw[hx];simp
   have hnot:q.1∉pre:=by
    rw[hx,ux]at hnd
    exact fun hm=>hnd.2.2 q.1 hm q.1 (by simp) rfl
   have hxn:zx7 n ν xs csc q.1=some (n+pre.length):=by
    have:=xg7 (xs:=pre) (y:=q.1) (r:=l.map (·.1)) hnot
    unfold zx7
    rw[hx,x6,this]
   have hol:pre.length<ov.length:=by rw[ho,hx];simp
   show qK _ A (do holding rest (assign (.Name _ _) cenv v);assignInOrder _ rest) _ _ s
   refine qq (jW (ZQ (zs5 O S hxn (d:=d) (f:=false) r1 (by rw[hk _ hq];exact fun x=>nomatch x) fun h' tk S' same=>?_)))
   have e1:(vs++ov).set (n+pre.length) (some v)=vs++ov.set pre.length (some v):=by
    rw[List.set_append,if_neg (by lia),hv,uy]
   have e2:put (σ++(vals w1++zh5 (q::l).length)) (n+pre.length) d false=σ++(vals (w1++[d])++zh5 l.length):=by
    unfold put
    rw[List.set_append,if_neg (by lia),hσ,uy,List.set_append,if_neg (by simp;lia)]
    have:pre.length - (vals w1).length=0:=by simp only[xj,vals];exact Nat.sub_eq_zero_of_le (xx h1.symm)
    rw[this]
    simp[List.replicate_succ]
   rw[e1,e2]at S'
   have st1:Step C X P _ F s _ F { s with heap:=h',toks:=tk }:=⟨Mini.iEE h' tk rfl,Fz.le_refl F,S',same⟩
   refine wpM (yj3 O hk hnd hv hσ l (pre++[q.1]) (w1++[d]) ds rest _ { s with heap:=h',toks:=tk } (by rw[hx];simp) (by simp[h1]) (by simpa using h2) (by simpa using ho) r2 S') (fun _ s' w=>?_)
   refine elEA (w) fun ov' ho' st2=>?_
   refine Mini.iEA ov' ho' ?_
   have e3:w1++d::ds=w1++[d]++ds:=by simp
   rw[e3]
   exact st1.trans' st2
theorem PBc.tup {l:List (Str×Pos)}{q:Nat}{tp:Pos}{csc:x9}(hnd:(l.map (·.1)).Nodup):PBc C (tupN (l.map (·.1)).length) n (l.map (·.1)) csc ν (.Tuple (l.map nmE) q tp):=by
 intro cenv P vs ov σ X F s A E d ws v hA O hk hv hσ ho S r hb
 cases d<;>try exact(noS hb).elim
 obtain ⟨hl,hb⟩:=ifS hb
 cases hb
 simp only[zr4]at r
 (refine zu6 (r) fun hz a ws' m e_4 hF r_n=>?_;clear r;revert r_n;intro r;subst e_4)
 have h1:=S.sub _ _ hF
 have e1:=r.length
 simp only[ww]at e1
 simp only[xj]at hl
 refine PyProof.Rows.assign_Tuple_tuple hA (items:=ws') ⟨_,h1,rfl,_,rfl⟩ ?_ ?_ fun h' he'=>?_
 ·rw[zr3,xj,<- hl,e1]
 ·rw[zr3];exact yp5 l
 ·rw[zr3,yk]
  have k:∀ b o,s.heap.get? b=some o->h'.get? b=some o:=fun b o e=>he' b o (jJ (xk e)) e
  have st2:=Step.grow (tk:=s.toks) S k
  refine wpM (yj3 O hk hnd hv hσ l [] [] _ _ ov { s with heap:=h' } (by kernel_rfl) rfl hl ho r (by simpa using st2.st)) (fun _ s' w=>?_)
  refine elEA (w) fun ov' ho' st3=>?_
  exact Mini.iEA ov' ho' (st2.trans' st3)
end
noncomputable def PU (C:Cx)(Γ:Mini.Env)(N:Nat)(i:I)(n:Nat)(sc:x9)(ν:Nu)(v:Expr):Prop:=∀{k:Nat}{x:Str}{px pos:Pos}{env:xy}{P:List Place}{vs:List (Option qz)}{σ σ':Sg}{X:Addr->Prop}{F:Fz}{s:qw}{A:zJ}{E:qz->qw->Prop}{d:D}{f:Bool},
 Sl ν k x->Cn Γ N env sc ν P n A->(∀ x,env.kindOf x≠some .free)->St C X F s.heap P vs σ->ev Γ i σ=some (d,f,σ')->qK (zx C.prog C.w) A (exec (.Assign [.Name x px] v pos) env) (PostS C X P F s (.next (put σ' k d f))) E s
structure GE (C:Cx)(Γ:Mini.Env)(N:Nat)(i:I)(n:Nat)(sc:x9)(ν:Nu)(x:Expr):Prop where
 e:PE C Γ N i n sc ν x
 o:PO C Γ N i n sc ν x
 t:PT C Γ N i n sc ν x
 u:PU C Γ N i n sc ν x
noncomputable def xi5 (v:Expr):Prop:=∀(x:Str)(p:Pos)(line:Nat)(env:xy),swapsWith v (some (.Name x p)) line env=pure false
section
variable {C:Cx}{Γ:Mini.Env}{N:Nat}{n:Nat}{sc:x9}{ν:Nu}
theorem PU.store {i:I}{v:Expr}(h:PE C Γ N i n sc ν v){k:Nat}{x:Str}{px pos:Pos}{env:xy}{P:List Place}{vs:List (Option qz)}{σ σ':Sg}{X:Addr->Prop}{F:Fz}{s:qw}{A:zJ}{E:qz->qw->Prop}{d:D}{f:Bool}
  (hx:Sl ν k x) (K:Cn Γ N env sc ν P n A) (hf:∀ x,env.kindOf x≠some .free) (S:St C X F s.heap P vs σ) (he:ev Γ i σ=some (d,f,σ')) (hsw:swapsWith v (some (.Name x px)) pos.line env=pure false) :
  qK (zx C.prog C.w) A (exec (.Assign [.Name x px] v pos) env) (PostS C X P F s (.next (put σ' k d f))) E s:=by
 refine wpAny_Assign_Name (wpM (h K S he) (fun v s₁ q=>?_)) hsw
 obtain ⟨F1,st1,r⟩:=q
 refine zs5 K.O st1.st hx.at' r (hf x) fun h' tk S' same=>?_
 refine⟨rfl,_,F1,⟨?_,st1.le,S',XSame.trans st1.same same⟩⟩
 (refine elEE (st1.eq) fun h0 t0 e_2=>?_;subst e_2);exact Mini.iEE h' tk rfl
theorem PU.plain {i:I}{v:Expr}(h:PE C Γ N i n sc ν v)(hc:xi5 v):PU C Γ N i n sc ν v:=by
 intro k x px pos env P vs σ σ' X F s A E d f hx K hf S he
 exact PU.store h hx K hf S he (hc _ _ _ _)
theorem xq3 {e:Expr}{g:List Comprehension}{cs:x9}{p':Pos}{x:Str}{p:Pos}{line:Nat}{env:xy} :
  swapsWith (.ListComp e g cs p') (some (.Name x p)) line env=pure false\/(swapsWith (.ListComp e g cs p') (some (.Name x p)) line env=pure true/\env.kindOf x=some .local):=by
 have e0:swapsWith (.ListComp e g cs p') (some (.Name x p)) line env=pure (env.blockKind==.function&&env.kindOf x==some .local&&p.line==(Expr.ListComp e g cs p').pos.line
  && !(cs.names.any fun (n,k)=>n==x&&(k==.local||k==.cell))):=rfl
 rw[e0]
 cases hb:(env.blockKind==.function&&env.kindOf x==some .local&&p.line==(Expr.ListComp e g cs p').pos.line&&!(cs.names.any fun (n,k)=>n==x&&(k==.local||k==.cell))) with
 | false=>exact .inl rfl
 | true =>
  simp only[zj,beq_iff_eq]at hb
  exact .inr ⟨rfl,hb.1.1.2⟩
theorem PU.compG {i elt sr cond:I}{ee it:Expr}{nm:List Str}{tg:Expr}{bc:D->Option (List D)}{ifs:List Expr}{csc:x9}{cpos:Pos}(hev:∀ σ,ev Γ i σ=yo7 Γ bc elt sr cond σ)(hBc:PBc C bc n nm csc ν tg)(hnm:nm.Nodup)(hne:nm≠[])(hS:PW C Γ N sr n sc ν it)(hE:PE C Γ N elt (n+nm.length) csc (zx7 n ν nm csc) ee)(hT:PC C Γ N cond (n+nm.length) csc (zx7 n ν nm csc) ifs)(h0:okE it)(KC:CompOk sc ν nm csc) :
  PU C Γ N i n sc ν (.ListComp ee [⟨tg,it,ifs,0⟩] csc cpos):=by
 intro k x px pos env P vs σ σ1 X F s A E d f hx K hf S he
 have he0:=he
 rw[hev]at he
 rcases xq3 (x:=x) (p:=px) (line:=pos.line) (env:=env) with hsw|⟨hsw,hloc⟩
 ·exact PU.store (PE.compG hev hBc hnm hne hS hE hT h0 KC) hx K hf S he0 hsw
 ·rw[exec_Assign_Name_used _ _ _ _ hsw]
  refine qq (wpAny_standAt (qq ?_))
  show qK _ A (do let _ <- comprehension (.ListComp ee [⟨tg,it,ifs,0⟩] csc cpos) csc env _ (newList []) false (eval it env) (some (assign (.Name x px) env))) _ _ s
  refine qq (wpM (xr4 (use:=some (assign (.Name x px) env)) (Q:=fun _ s'=>PostS C X P F s (.next (put σ1 k d f)) .next s') hBc hnm hne hS hE hT h0 KC K S he fun B Dn F' s' m st' nb hne hns r=>?_) (fun _ s' hq=>qX (qX hq)))
  show qK _ A (assign (.Name x px) env (.ref Dn)) _ _ _
  have nbB:∃ o,s'.heap.get? B=some o:=by refine elEEEA (hns) fun o _ _ ho _=>?_;exact⟨o,ho⟩
  have S1:St C (Or' X fun a=>a=B) F' s'.heap P vs σ1:=st'.st.protect fun a ha=>ha▸⟨nb,nbB⟩
  have r1:ResOk C.w (Or' X fun a=>a=B) F' s'.heap P vs σ1 (.ref Dn) d f:=by
   cases f with
   | false=>exact r
   | true =>
    refine zr8 (r) fun a' e' q1 q2 q3 q4 q5=>?_
    cases e'
    exact⟨Dn,rfl,q1,fun q=>q.elim q2 fun q=>hne q.symm,q3,q4,q5⟩
  refine ZQ (zs5 K.O S1 hx.at' r1 (hf x) fun h' tk S' same=>?_)
  refine Mini.iEA m ?_ (fun h'' hs''=>⟨rfl,vs.set k (some (.ref Dn)),F',?_⟩)
  ·refine elEEEA (hns) fun o es ep ho q=>?_
   exact⟨o,es,ep,by rw[same B (.inr rfl)];exact ho,q⟩
  ·have S2:=S'.release st'.st.cov
   have nb2:Nob C X F' P _ _ B:=Nob.back S' rfl nb.x nb.h
   refine⟨?_,st'.le,S2.change (W:=fun a=>a=B) (h':=h'') (fun a o ha e=>by rw[hs''.2 a ha];exact e) (fun a ha=>ha▸nb2),?_⟩
   ·(refine elEE (st'.eq) fun h0 t0 e_2=>?_;subst e_2);exact Mini.iEE h'' tk rfl
   ·exact XSame.trans st'.same fun a e=>(hs''.2 a (by rintro rfl;exact nb.x e)).trans (same a (.inl e))
theorem GE.plain {i:I}{e:Expr}(h:PE C Γ N i n sc ν e)(hb:xy1 i=false)(hp:wf9 e)(hc:xi5 e):GE C Γ N i n sc ν e :=
 ⟨h,h.opnd hb,PT.plain (h.opnd hb) hp,PU.plain h hc⟩
end
noncomputable def yr3 (w:wz):Prop:=∀(prog:vw)(A:zJ)(E:qz->qw->Prop)(s:qw)(F:Fz)(n:Nat),Room n A->F.In s.heap->∀{x v:D}{kvs:List (D×D)}{a:Addr}{key val:qz},
 Rep w F x key->Rep w F v val->Shal w F s.heap (.dict kvs) a->F a=none->zs3 x kvs=true->kvs.length<size ->
 qK (zx prog w) A (setItem (.ref a) key val) (fun _ s'=>∃ h' tk,s'={ s with heap:=h',toks:=tk }/\(∀ b,b≠a->h'.get? b=s.heap.get? b)/\Shal w F h' (.dict (dput kvs x v)) a) E s
section
variable (C:Cx)(Γ:Mini.Env)(N:Nat)
noncomputable def PX (i:I)(n:Nat)(sc:x9)(ν:Nu)(body:List Stmt):Prop:=∀{env:xy}{P:List Place}{vs:List (Option qz)}{σ:Sg}{X:Addr->Prop}{F:Fz}{s:qw}{A:zJ}{E:qz->qw->Prop}{o:Out},
 Cn Γ N env sc ν P n A->(∀ x,env.kindOf x≠some .free)->St C X F s.heap P vs σ->ex Γ i σ=some o->qK (zx C.prog C.w) A (execs body env) (PostS C X P F s o) E s
noncomputable def PS (i:I)(n:Nat)(sc:x9)(ν:Nu)(st:Stmt):Prop:=∀{env:xy}{P:List Place}{vs:List (Option qz)}{σ:Sg}{X:Addr->Prop}{F:Fz}{s:qw}{A:zJ}{E:qz->qw->Prop}{o:Out},
 Cn Γ N env sc ν P n A->(∀ x,env.kindOf x≠some .free)->St C X F s.heap P vs σ->ex Γ i σ=some o->qK (zx C.prog C.w) A (exec st env) (PostS C X P F s o) E s
end
section
variable {C:Cx}{Γ:Mini.Env}{N:Nat}{n:Nat}{sc:x9}{ν:Nu}
theorem PX.nil:PX C Γ N .nil n sc ν []:=by
 intro env P vs σ X F s A E o K hf S hv
 cases hv
 exact wpAny_execs_nil ⟨rfl,vs,F,Step.refl S⟩
theorem PX.cons {a b:I}{st:Stmt}{rest:List Stmt}(ha:PS C Γ N a n sc ν st)(hb:PX C Γ N b n sc ν rest):PX C Γ N (.cons a b) n sc ν (st::rest):=by
 intro env P vs σ X F s A E o K hf S hv
 refine bK1 (hv) fun o1 h1 hv=>?_
 refine wpAny_execs_cons (wpM (ha K hf S h1) (fun fl s₁ q=>?_))
 cases o1 with
 | next σ1 =>
  obtain ⟨rfl,vs',F1,st1⟩:=q
  exact wpM (hb K hf st1.st hv) (fun fl s₂ q=>q.trans st1)
 | ret d f =>
  cases hv
  obtain ⟨v,rfl,vs',σ',F',st',r'⟩:=q
  exact⟨v,rfl,vs',σ',F',st',r'⟩
theorem zr6 {env:xy}{sc:x9}{ν:Nu}{P:List Place}(O:EnvOk env sc ν P):interactive env=false:=by
 unfold interactive;rw[O.kind];rfl
theorem PS.pass {p:Pos}:PS C Γ N .pass n sc ν (.Pass p):=by
 intro env P vs σ X F s A E o K hf S hv
 cases hv
 exact wpAny_Pass ⟨rfl,vs,F,Step.refl S⟩
theorem PS.asg {k:Nat}{e:I}{x:Str}{v:Expr}{px p:Pos}(hx:Sl ν k x)(h:PU C Γ N e n sc ν v):PS C Γ N (.asg k e) n sc ν (.Assign [.Name x px] v p):=by
 intro env P vs σ X F s A E o K hf S hv
 refine bK3 (hv) fun d f σ1 he hv=>?_
 cases hv
 exact h hx K hf S he
theorem PS.exp {e:I}{g:Expr}{as:List Expr}{ks:List Keyword}{q p:Pos}(h:PE C Γ N e n sc ν (.Call g as ks q)):PS C Γ N (.exp e) n sc ν (.Expr (.Call g as ks q) p):=by
 intro env P vs σ X F s A E o K hf S hv
 refine bK3 (hv) fun d f σ1 he hv=>?_
 refine bK1 (hv) fun i hi hv=>?_
 cases hv
 obtain rfl:=za0 hi
 refine wpAny_Expr (wpM (h.frozen K S he) (fun v s₁ q=>?_)) (zr6 K.O) (by rfl)
 obtain ⟨F1,st,r⟩:=q
 simp only[zq2]at r
 obtain ⟨t,rfl⟩:=r
 exact⟨rfl,vs,F1,st⟩
theorem PS.ret {e:I}{v:Expr}{p:Pos}(h:PE C Γ N e n sc ν v):PS C Γ N (.ret e) n sc ν (.Return (some v) p):=by
 intro env P vs σ X F s A E o K hf S hv
 refine bK3 (hv) fun d f σ1 he hv=>?_
 cases hv
 refine wpAny_Return_some (wpM (h K S he) (fun v s₁ q=>?_))
 obtain ⟨F1,st,r⟩:=q
 exact⟨v,rfl,vs,σ1,F1,st,r⟩
theorem xj8 {σ:Sg}{k:Nat}{d:D}(h:ownV σ k=some d):σ[k]?=some (some (.own d)):=by
 unfold ownV at h
 generalize σ[k]?=o at h |-
 cases o with
 | none=>cases h
 | some o =>
  cases o with
  | none=>cases h
  | some a =>
   cases a with
   | val d=>cases h
   | own d=>cases h;rfl
theorem PS.retO {k:Nat}{x:Str}{px p:Pos}(hx:Sl ν k x):PS C Γ N (.retO k) n sc ν (.Return (some (.Name x px)) p):=by
 intro env P vs σ X F s A E o K hf S hv
 refine bK1 (hv) fun d hd hv=>?_
 cases hv
 have hs:=xj8 hd
 obtain ⟨a,hva,hfa,sh,_,hX⟩:=S.own_at hs
 have hO:zw6 vs σ k a:=⟨hva,d,hs⟩
 refine wpAny_Return_some (zv9 K.O S hx.at' hva hx.ok ?_)
 have hk:=(qV.mp hs).1
 refine⟨.ref a,rfl,vs,σ.set k none,F,Step.refl (S.forget (by rw[uQ]) fun j av e=>?_),a,rfl,hfa,hX,(S.own k a hO).2,fun j ho=>?_,sh⟩
 ·by_cases hj:j=k
  ·subst hj;rw[wq hk]at e;cases e;exact .inr rfl
  ·rw[w8 (y7 hj)]at e;exact .inl e
 ·refine elAE (ho) fun h1 d' h2=>?_
  by_cases hj:j=k
  ·subst hj;rw[wq hk]at h2;cases h2
  ·rw[w8 (y7 hj)]at h2
   exact hj (S.inj j k a ⟨h1,d',h2⟩ hO)
theorem PS.iff {c t e:I}{q:Expr}{bt be:List Stmt}{p:Pos}(hc:PT C Γ N c n sc ν q)(ht:PX C Γ N t n sc ν bt)(he:PX C Γ N e n sc ν be):PS C Γ N (.iff c t e) n sc ν (.If q bt be p):=by
 intro env P vs σ X F s A E o K hf S hv
 refine bK2 (hv) fun d σ1 hd hv=>?_
 refine bK1 (hv) fun b hb hv=>?_
 refine wpAny_If (wpM (hc K S hd hb) (fun r s₁ q=>?_))
 obtain ⟨rfl,F1,st⟩:=q
 cases r
 ·exact wpM (he K hf st.st hv) (fun fl s₂ q=>q.trans st)
 ·exact wpM (ht K hf st.st hv) (fun fl s₂ q=>q.trans st)
inductive ForInv (C:Cx)(Γ:Mini.Env)(X W:Addr->Prop)(T:Nat->Heap->Prop)(P:List Place)(F₂:Fz)(s:qw)(ds:List D)(bnd:D->Sg->Option Sg)(b:I)(o:Out)(m:Nat)(s':qw):Prop
 | mk (F':Fz) (i:Nat) (σi:Sg) (vs':List (Option qz)) (em:m=ds.length+1 - i) (hi:i<=ds.length) (es:∃ h' tk,s'={ s with heap:=h',toks:=tk }) (le:F₂.le F') (same:XSame X s.heap s'.heap)
  (S:St C (Or' X W) F' s'.heap P vs' σi) (t:T i s'.heap) (hf:forN bnd (ex Γ b) (ds.drop i) σi=some o)
inductive WhlInv (C:Cx)(Γ:Mini.Env)(X:Addr->Prop)(P:List Place)(F:Fz)(s:qw)(c b:I)(o:Out)(k:Nat)(s':qw):Prop
 | mk (vs':List (Option qz)) (σi:Sg) (F':Fz) (st:Step C X P vs' F s σi F' s') (hw:zs0 (uno c (ev Γ c)) (ex Γ b) k σi=some o)
theorem PS.whl {c b:I}{q:Expr}{bd:List Stmt}{p:Pos}(hc:PT C Γ N c n sc ν q)(hb:PX C Γ N b n sc ν bd):PS C Γ N (.whl c b) n sc ν (.While q bd [] p):=by
 intro env P vs σ X F s A E o K hf S hv
 refine wpAny_While (codeAny_whileLoop (WhlInv C Γ X P F s c b o) ?_ Γ.fuel ⟨vs,σ,F,Step.refl S,hv⟩)
 rintro k s' ⟨vs',σi,F',st,hw⟩
 cases k with
 | zero=>exact(noS hw).elim
 | succ k =>
  refine bK2 (hw) fun d σ1 hd hw=>?_
  refine bK1 (hw) fun t ht hw=>?_
  refine wpM (hc K st.st hd ht) (fun r s₁ q=>?_)
  obtain ⟨rfl,F1,st1⟩:=q
  cases r with
  | true =>
   simp only[if_true]
   refine bK1 (hw) fun o1 hx hw=>?_
   refine wpM (hb K hf st1.st hx) (fun fl s₂ q=>?_)
   cases o1 with
   | next σ2 =>
    obtain ⟨rfl,vs2,F2,st2⟩:=q
    exact Mini.iEA k (ky _) ⟨vs2,σ2,F2,(st.trans st1).trans' st2,hw⟩
   | ret d' f' =>
    cases hw
    obtain ⟨v,rfl,vs2,σ2,F2,st2,r⟩:=q
    exact⟨v,rfl,vs2,σ2,F2,(st.trans st1).trans' st2,r⟩
  | false =>
   cases hw
   simp only[vx,if_false]
   exact wpAny_execs_nil ⟨rfl,vs',F1,st.trans st1⟩
theorem xf0 {bnd:D->Sg->Option Sg}{body:Sg->Option Out}{d:D}{r:List D}{σ:Sg}{o:Out}(h:forN bnd body (d::r) σ=some o) :
  ∃ σ1,bnd d σ=some σ1/\((∃ σ2,body σ1=some (.next σ2)/\forN bnd body r σ2=some o)\/(∃ v f,body σ1=some (.ret v f)/\o=.ret v f)):=by
 refine bK1 (h) fun σ1 hb h=>?_
 refine bK1 (h) fun o1 hx h=>?_
 refine Mini.iEA σ1 hb ?_
 cases o1 with
 | next σ2=>exact .inl (Mini.iEA σ2 hx h)
 | ret v f=>cases h;exact .inr (Mini.iEEA v f hx rfl)
noncomputable def FkF (Q:qw->Prop)(R:Result->qw->Prop)(f:Flow)(s:qw):Prop:=match f with
 | .next|.cont=>Q s
 | .brk=>R (.ok .next) s
 | .ret v=>R (.ok (.ret v)) s
noncomputable def FkV (M:Model)(A:zJ)(E:qz->qw->Prop)(tg:Expr)(bd:List Stmt)(env:xy)(Q:qw->Prop)(R:Result->qw->Prop)(v:qz)(s:qw):Prop :=
 qK M A (assign tg env v) (fun _ s₂=>qK M A (execs bd env) (FkF Q R) E s₂) E s
theorem yo3 {prog:vw}{w:wz}{A:zJ}{s:qw}{R:Result->qw->Prop}{target it body orelse env}(I:Nat->qw->Prop)
  (turn:∀ E n s,I n s->qK (zx prog w) A (Z7 it) (NxC (zx prog w) A E target it (FkV (zx prog w) A E target body env (fun s₃=>∃ m,m<n/\I m s₃) R) fun s₁=>qK (zx prog w) A (execs orelse env) (fun f s₃=>R (.ok f) s₃) E s₁) E s)
  (n:Nat) (h:I n s):codeAny (zx prog w) A (.forLoop target it body orelse env) R s:=by
 refine codeAny_loop' rfl I (fun n s hI=>?_) n h
 show qK _ _ ((forTurn target it body orelse env).onRaise (fun x=>do noteFrame x env;theTreesLotGoes x)) _ _ s
 refine wpAny_noted ?_
 simp only[forTurn]
 refine qq (wpAny_standAt (qq (wpAny_onRaise (kK (turn _ n s hI) (fun r s₁ h₁=>?_) fun _ _ h'=>wpAny_standAt h'))))
 cases r with
 | none=>exact qX (.inr ⟨rfl,codeAny_block h₁⟩)
 | some v =>
  refine qq (kK h₁ (fun _ s₀ h₀=>qq (kK h₀ (fun _ s₂ h₂=>qq (kK h₂ (fun f s₃ h₃=>?_) fun _ _ h'=>h')) fun _ _ h'=>h')) fun _ _ h'=>h')
  cases f with
  | next=>exact qX (.inl ⟨rfl,h₃⟩)
  | cont=>exact qX (.inl ⟨rfl,h₃⟩)
  | brk=>exact qX h₃
  | ret v=>exact qX h₃
noncomputable def PBd (C:Cx)(Γ:Mini.Env)(N:Nat)(bnd:D->Sg->Option Sg)(n:Nat)(sc:x9)(ν:Nu)(tg:Expr):Prop:=∀{env:xy}{P:List Place}{vs:List (Option qz)}{σ σ':Sg}{X:Addr->Prop}{F:Fz}{s:qw}{A:zJ}{E:qz->qw->Prop}{d:D}{v:qz},
 Cn Γ N env sc ν P n A->(∀ x,env.kindOf x≠some .free)->St C X F s.heap P vs σ->Rep C.w F d v->bnd d σ=some σ'->qK (zx C.prog C.w) A (assign tg env v) (fun _ s'=>∃ vs',Step C X P vs' F s σ' F s') E s
theorem PS.forB {bnd:D->Sg->Option Sg}{sr b:I}{tg it:Expr}{bd:List Stmt}{p:Pos}(hB:PBd C Γ N bnd n sc ν tg){gt:Expr->Prop}(hg:gt tg)(hS:PWg C Γ N gt sr n sc ν it)(h0:okE it)(hb:PX C Γ N b n sc ν bd){env:xy}{P:List Place}{vs:List (Option qz)}{σ:Sg}{X:Addr->Prop}{F:Fz}{s:qw}{A:zJ}{E:qz->qw->Prop}{o:Out}
  (K:Cn Γ N env sc ν P n A) (hf:∀ x,env.kindOf x≠some .free) (S:St C X F s.heap P vs σ) (hv:((srcE (ev Γ sr) σ).bind fun p=>forN bnd (ex Γ b) p.1 p.2)=some o):qK (zx C.prog C.w) A (exec (.For tg it bd [] p) env) (PostS C X P F s o) E s:=by
 refine bK2 (hv) fun ds σ1 hs hv=>?_
 refine wpAny_For (wpM (hS K S hs) (fun v s₁ q=>wpM q (fun it s₂ q=>?_))) (yh8 h0)
 obtain ⟨F₂,J,W,T,rfl,st,hW,ht,hzd,hnob⟩:=q
 have hW':∀ a,W a->¬ X a/\C.H.get? a=none:=fun a ha=>⟨(hnob a ha).x,(hnob a ha).h⟩
 have S2:St C (Or' X W) F₂ s₂.heap P vs σ1:=st.st.protect fun a ha=>⟨hnob a ha,hW.alive 0 _ a ht ha⟩
 obtain ⟨Inv,hI⟩:∃ Inv,Inv=ForInv C Γ X W T P F₂ s ds bnd b o:=⟨_,rfl⟩
 refine yo3 Inv ?_ (ds.length+1) (hI▸⟨F₂,0,σ1,vs,rfl,vq _,st.eq,Fz.le_refl _,st.same,S2,ht,hv⟩)
 intro E m s' hI'
 obtain ⟨F',i,σi,vs',rfl,hi,⟨hh,tk,hs'⟩,le,same,S',t,hfor⟩:=hI▸hI'
 clear hI'
 have hcov:∀ a o,C.H.get? a=some o->X a\/F' a≠none:=zn0 le st.st.cov
 by_cases hlt:i<ds.length
 ·have hdrop:ds.drop i=ds[i]::ds.drop (i+1):=kQ hlt
  refine elEA (xf0 (hdrop▸hfor)) fun σb hbnd hrest=>?_
  refine yx8 (W':=W) hW hg (fun a ha=>ha) hW' le hcov S' t (qJ hlt) fun v s₀ q=>?_
  obtain ⟨F2,h',tk',rfl,t',le2,S3,same0,rv,keep⟩:=q
  refine wpM (hB (s:={ s' with heap:=h',toks:=tk' }) K hf S3 rv hbnd) (fun _ s₄ w=>?_)
  obtain ⟨vs4,⟨h₂,tk₂,e4⟩,_,S4,same4⟩:=w
  have le':=Fz.le.trans le le2
  have t2:T (i+1) s₄.heap:=hW.frame _ _ _ t' (fun a o e=>S3.sub a o (le' a o e)) (fun a o ha e=>by rw[same4 a (.inr ha)];exact e) fun a o e=>S4.sub a o (le' a o e)
  have same2:XSame X s.heap s₄.heap:=XSame.trans (XSame.trans same same0) same4.left
  have eqs:∀{s₃:qw},(∃ h3 k3,s₃={ s₄ with heap:=h3,toks:=k3 })->∃ h3 k3,s₃={ s with heap:=h3,toks:=k3 }:=fun h=>elEE h fun h3 k3 e=>Mini.iEE h3 k3 (by rw[e,e4,hs'])
  rcases hrest with hrest|hrest
  ·refine elEA hrest fun σ2 hx2 hfor2=>wpM (hb K hf S4 hx2) (fun fl s₃ q=>?_)
   obtain ⟨rfl,vs2,F3,st3⟩:=q
   have le3:F₂.le F3:=Fz.le.trans le' st3.le
   exact show ∃ m,m<ds.length+1 - i/\_ from Mini.iEA (ds.length+1 - (i+1)) (Nat.sub_lt_sub_left (Zv hlt) (ky i)) (hI▸⟨F3,i+1,σ2,vs2,rfl,hlt,eqs st3.eq,le3,XSame.trans same2 st3.same.left,st3.st,
    hW.frame _ _ _ t2 (fun a o e=>S4.sub a o (le' a o e)) (fun a o ha e=>by rw[st3.same a (.inr ha)];exact e) fun a o e=>st3.st.sub a o (le3 a o e),hfor2⟩)
  ·refine elEEA hrest fun d f hx2 ho=>wpM (hb K hf S4 hx2) (fun fl s₃ q=>?_)
   obtain ⟨u,rfl,vs2,σ2,F3,st3,r⟩:=q
   have le3:F₂.le F3:=Fz.le.trans le' st3.le
   rw[ho]
   refine⟨u,rfl,vs2,σ2,F3,⟨eqs st3.eq,Fz.le.trans st.le le3,st3.st.release (zn0 le3 st.st.cov),XSame.trans same2 st3.same.left⟩,?_⟩
   cases f with
   | false=>exact r
   | true=>exact zr8 (r) fun a' e' q1 q2 q3 q4 q5=>⟨a',e',q1,fun q=>q2 (.inl q),q3,q4,q5⟩
 ·have hin:i=ds.length:=by lia
  subst hin
  rw[List.drop_length]at hfor
  refine sm1 hfor ?_
  refine yx9 hW t fun h' tk' keep=>?_
  have S1:=S'.release hcov
  exact wpAny_execs_nil ⟨rfl,vs',F',⟨Mini.iEE h' tk' (by rw[hs']),Fz.le.trans st.le le,S1.change keep fun a ha=>Nob.back S' ha (hW' a ha).1 (hW' a ha).2,
   XSame.trans same fun a e=>(S1.xal a e).elim fun o ho=>(keep a o (fun hw=>(hW' a hw).1 e) ho).trans ho.symm⟩⟩
theorem PS.for1 {k:Nat}{sr b:I}{x:Str}{it:Expr}{bd:List Stmt}{px p:Pos}(hx:Sl ν k x)(hS:PW C Γ N sr n sc ν it)(h0:okE it)(hb:PX C Γ N b n sc ν bd):PS C Γ N (.for1 k sr b) n sc ν (.For (.Name x px) it bd [] p) :=
 fun K hf S hv=>PS.forB (fun K hf S r e=>by
  cases e
  exact ZQ (zs5 K.O S hx.at' (f:=false) r (hf x) fun h' tk S' same=>⟨_,Mini.iEE h' tk rfl,Fz.le_refl _,S',same⟩)) trivial hS h0 hb K hf S hv
inductive Sls (ν:Nu):List Nat->List (Str×Pos)->Prop
 | nil:Sls ν [] []
 | cons {k:Nat} {q:Str×Pos} {ks:List Nat} {l:List (Str×Pos)}:Sl ν k q.1->Sls ν ks l->Sls ν (k::ks) (q::l)
theorem Sls.length {ν:Nu}{ks:List Nat}{l:List (Str×Pos)}(h:Sls ν ks l):ks.length=l.length:=by
 induction h with
 | nil=>rfl
 | cons _ _ ih=>simp[ih]
theorem xl9 {env:xy}{P:List Place}{X:Addr->Prop}{A:zJ}{E:qz->qw->Prop}(O:EnvOk env sc ν P)(hf:∀ x,env.kindOf x≠some .free){ks:List Nat}{l:List (Str×Pos)}(h:Sls ν ks l) :
  ∀{vs:List (Option qz)}{σ:Sg}{F:Fz}{s:qw}{ds:List D}{ws:List qz},St C X F s.heap P vs σ->RepL C.w F ds ws->ds.length=ks.length ->
   qK (zx C.prog C.w) A (assignInOrder (l.map fun q=>assign (nmE q) env) ws) (fun _ s'=>∃ vs',Step C X P vs' F s (xj3 σ ks ds) F s') E s:=by
 induction h with
 | nil =>
  intro vs σ F s ds ws S r hl
  cases ds with
  | nil=>exact qX ⟨vs,Step.refl S⟩
  | cons d ds=>simp at hl
 | cons hx _ ih =>
  intro vs σ F s ds ws S r hl
  cases ds with
  | nil=>simp at hl
  | cons d ds =>
   simp only[zv1]at r
   (refine elEEAA (r) fun v rest e_2 r1 r2=>?_;subst e_2)
   show qK _ A (do holding rest (assign (.Name _ _) env v);assignInOrder _ rest) _ _ s
   refine qq (jW (ZQ (zs5 O S hx.at' (d:=d) (f:=false) r1 (hf _) fun h' tk S' same=>?_)))
   have st1:Step C X P _ F s _ F { s with heap:=h',toks:=tk }:=⟨Mini.iEE h' tk rfl,Fz.le_refl F,S',same⟩
   refine wpM (ih (s:={ s with heap:=h',toks:=tk }) S' r2 (by simpa using hl)) (fun _ s' q=>?_)
   obtain ⟨vs',st2⟩:=q
   exact⟨vs',st1.trans' st2⟩
theorem PS.fors {ks:List Nat}{sr b:I}{l:List (Str×Pos)}{q:Nat}{it:Expr}{bd:List Stmt}{tp p:Pos}{gt:Expr->Prop}(hg:gt (.Tuple (l.map nmE) q tp))(hx:Sls ν ks l)(hS:PWg C Γ N gt sr n sc ν it)(h0:okE it)(hb:PX C Γ N b n sc ν bd):PS C Γ N (.fors ks sr b) n sc ν (.For (.Tuple (l.map nmE) q tp) it bd [] p) :=
 fun K hf S hv=>PS.forB (fun {env P vs σ σ' X F s A E d v} K hf S r e=>by
  refine bK1 (e) fun ds hd e=>?_
  obtain ⟨hl,e⟩:=ifS e
  cases e
  cases d<;>try exact(noS hd).elim
  cases hd
  simp only[zr4]at r
  (refine zu6 (r) fun hz a ws m e_4 hF r_n=>?_;clear r;revert r_n;intro r;subst e_4)
  have h1:=S.sub _ _ hF
  have e1:=r.length
  simp only[ww]at e1
  refine PyProof.Rows.assign_Tuple_tuple K.R.handled (items:=ws) ⟨_,h1,rfl,_,rfl⟩ ?_ ?_ fun h' he'=>?_
  ·rw[zr3,xj,<- hx.length,<- hl,e1]
  ·rw[zr3];exact yp5 l
  ·rw[zr3,yk]
   have k:∀ b o,s.heap.get? b=some o->h'.get? b=some o:=fun b o e=>he' b o (jJ (xk e)) e
   have st2:=Step.grow (tk:=s.toks) S k
   refine wpM (xl9 K.O hf hx (s:={ s with heap:=h' }) st2.st r hl) (fun _ s' w=>?_)
   obtain ⟨vs',st3⟩:=w
   exact⟨vs',st2.trans' st3⟩) hg hS h0 hb K hf S hv
theorem xy2 {σ:Sg}{k:Nat}(h:zq8 σ k=true):∃ d,σ[k]?=some (some (.own d)):=by
 cases hs:σ[k]? with
 | none=>rw[zq8,hs]at h;exact(qj h).elim
 | some o =>
  cases o with
  | none=>rw[zq8,hs]at h;exact(qj h).elim
  | some v =>
   cases v with
   | val d=>rw[zq8,hs]at h;exact(qj h).elim
   | own d=>exact⟨d,rfl⟩
theorem St.own_ref {X:Addr->Prop}{P:List Place}{vs:List (Option qz)}{F:Fz}{h:Heap}{σ:Sg}(S:St C X F h P vs σ){k:Nat}(ho:zq8 σ k=true):∃ a,vs[k]?=some (some (.ref a)):=by
 obtain ⟨d,hd⟩:=xy2 ho
 have hlt:k<vs.length:=by rw[<- S.lenS];exact(qV.mp hd).1
 refine elEA (S.slot k vs[k] _ (qJ hlt) hd) fun a e1 _=>?_
 exact⟨a,by rw[qJ hlt,e1]⟩
theorem xl8 {v a b:Expr}{q:Pos}{l:Nat}{env:xy}:swapsWith v (some (.Subscript a b q)) l env=pure false:=by cases v<;>rfl
theorem PS.sto (ds:yr3 C.w){k:Nat}{key e:I}{x:Str}{ix v:Expr}{px ps p:Pos}(hx:Sl ν k x)(hk:PE C Γ N key n sc ν ix)(he':PE C Γ N e n sc ν v):PS C Γ N (.sto k key e) n sc ν (.Assign [.Subscript (.Name x px) ix ps] v p):=by
 intro env P vs σ X F s A E o K hf S hv
 refine bK3 (hv) fun dv fv σ1 he hv=>?_
 by_cases hown:zq8 σ1 k=true
 ·have hv:=(if_pos hown).symm.trans hv
  refine bK3 (hv) fun dx fx σ2 hx2 hv=>?_
  refine bK1 (hv) fun kvs ho hv=>?_
  obtain ⟨hko,hv⟩:=ifS hv
  have hko:=zq.mp hko
  have hv:Out.next (σ2.set k (some (.own (.dict (dput kvs dx dv)))))=o:=hv
  refine sm1 (congrArg some hv) ?_
  have hs:=xj9 ho
  refine wpAny_Assign_Subscript (wpM (he'.frozen K S he) (fun vv s₁ q=>?_)) xl8
  obtain ⟨F1,st1,r1⟩:=q
  obtain ⟨a,hv⟩:=st1.st.own_ref hown
  refine zv9 K.O st1.st hx.at' hv hx.ok (wpM (hk.frozen K st1.st hx2) (fun kv s₂ q=>?_))
  obtain ⟨F2,st2,r2⟩:=q
  obtain ⟨a',hv',hfa,q,hH,hX⟩:=st2.st.own_at hs
  rw[hv]at hv';cases hv'
  refine wpM (ds C.prog A E s₂ F2 N K.R st2.st.sub r2 (Rep.mono st2.le _ r1) q hfa hko.1 (of_decide_eq_true hko.2)) (fun _ s₃ q=>?_)
  (refine elEEAA (q) fun h' tk e_2 hsame hsh=>?_;subst e_2)
  have st3:=st1.trans st2
  exact⟨rfl,vs,F2,st3.trans ⟨Mini.iEE h' tk rfl,Fz.le_refl _,st2.st.upd hv hs hsame hsh hH,fun b hb=>hsame b (by rintro rfl;exact hX hb)⟩⟩
 ·exact(noS ((if_neg hown).symm.trans hv)).elim
theorem ya0 {env:xy}{P:List Place}{vs:List (Option qz)}{σ:Sg}{X:Addr->Prop}{F:Fz}{s:qw}{A:zJ}{E:qz->qw->Prop}{Q:Flow->qw->Prop}
  {x m:Str} {px ap cp pos:Pos} {a:Expr} {k:Nat} {l:Addr} {id:String} (O:EnvOk env sc ν P) (S:St C X F s.heap P vs σ) (hx:Sl ν k x) (hline:ap.endLine=cp.line) (hc:okE a)
  (slot:Slot "list" m id) (hty:typeOf (.builtin id)=pure (.type "method_descriptor")) (hv:vs[k]?=some (some (.ref l))) {ws:Array qz} {c:Nat} (h1:s.heap.get? l=some (lobj ws c))
  (h:qK (zx C.prog C.w) A (callWith cp (.builtin id) [.ref l] [(false,eval a env)] []) (fun v s'=>v=.none/\Q .next s') E s) :
  qK (zx C.prog C.w) A (exec (.Expr (.Call (.Attribute (.Name x px) m ap) [a] [] cp) pos) env) Q E s:=by
 have hst:backTo cp (starEach [a] env)=[(false,eval a env)]:=by rw[zw3 hc];rfl
 refine wpAny_Expr ?_ (zr6 O) (by rfl)
 refine wpAny_Call_method (T := "list") (id:=id) rfl (by rw[hst];rfl) (by simpa using hline) PySem.F.plainAttrs_list slot hty (zv9 O S hx.at' hv hx.ok ?_)
 refine Mini.iAA ⟨_,h1,rfl⟩ (fun b hb=>Mini.iEA _ (by cases hb;exact h1) rfl) ?_
 rw[hst]
 refine wpM h (fun v s' q=>?_)
 obtain ⟨rfl,q⟩:=q
 exact q
theorem xi4 {a b:Nat}(h:a+b<size):¬ ((!decide (a=0))&&Q5 (a+b))=true:=by
 have:Q5 (a+b)=false:=by
  rw[<- zn3]at h
  simp[Q5];lia
 rw[this];simp
theorem ym3 {X:Addr->Prop}{P:List Place}{vs:List (Option qz)}{F:Fz}{s:qw}{σ:Sg}(S:St C X F s.heap P vs σ){k:Nat}{l:List D}(hl:ownL σ k=some l) :
  ∃ a ws c,vs[k]?=some (some (.ref a))/\s.heap.get? a=some (lobj ws c):=by
 obtain ⟨a,hv,_,⟨_,ws,c,h1,_⟩,_⟩:=S.own_at (zq0 hl)
 exact Mini.iEEEA a ws c hv h1
theorem ownLK {X:Addr->Prop}{P:List Place}{vs:List (Option qz)}{F:Fz}{s:qw}{σ:Sg}(S:St C X F s.heap P vs σ){k:Nat}{l:List D}{a:Addr}(hs:σ[k]?=some (some (.own (.list l))))(hv:vs[k]?=some (some (.ref a))){R:Prop}
  (h:l.length<=size->∀ ws c,s.heap.get? a=some (lobj ws c)->RepL C.w F l ws.toList->ws.size=l.length->R):R:=by
 obtain ⟨a',hv',_,⟨hz,ws,c,h1,r⟩,_⟩:=S.own_at hs
 have e:a'=a:=by rw[hv]at hv';cases hv';rfl
 exact h hz ws c (e▸h1) r r.length
theorem yv4 {X:Addr->Prop}{P:List Place}{vs:List (Option qz)}{F F1:Fz}{s s':qw}{σ:Sg}(st:Step C X P vs F s σ F1 s'):wk=wk/\PostS C X P F s (.next σ) .next s':=⟨rfl,rfl,vs,F1,st⟩
theorem PS.app {k:Nat}{e:I}{x:Str}{a:Expr}{px ap cp p:Pos}(hline:ap.endLine=cp.line)(hx:Sl ν k x)(h:PE C Γ N e n sc ν a)(h0:okE a):PS C Γ N (.app k e) n sc ν (.Expr (.Call (.Attribute (.Name x px) "append" ap) [a] [] cp) p):=by
 intro env P vs σ X F s A E o K hf S hv
 refine bK1 (hv) fun l0 hl0 hv=>?_
 refine bK3 (hv) fun d f σ1 he hv=>?_
 refine bK1 (hv) fun l hl hv=>?_
 obtain ⟨hz,hv⟩:=ifS hv
 have hv:Out.next (σ1.set k (some (.own (.list (l++[d])))))=o:=hv
 refine sm1 (congrArg some hv) ?_
 refine elEEEA (ym3 S hl0) fun a' ws c hv' h1=>?_
 have hs:=zq0 hl
 refine ya0 K.O S hx hline h0 PySem.F.slot_list_append PySem.F.type_list_append hv' h1 ?_
 refine PySem.P.append_list (wpM (h.frozen K S he) (fun v s₁ q=>?_))
 obtain ⟨F1,st1,r⟩:=q
 have hz:l.length+1<size:=hz
 refine ownLK st1.st hs hv' fun _ ws2 c2 h2 r2 e1=>Mini.iEEAA ws2 c2 (by rw[zn3];lia) h2 (yv4 (st1.trans (Step.update (tk:=s₁.toks) st1.st (l':=l++[d]) hs hv' h2 (fun xs=>xs.push v) (by rw[zw];exact zz hz) ?_)))
 rw[Array.toList_push];exact r2.append (RepL.cons_ r RepL.nil_)
theorem yg2 (l:Addr)(items:Array qz)(n:Nat)(b:Addr)(items2:Array qz)(n2:Nat)(dd:Option Addr)(sl:Array (Option qz))(hc0:¬(!items.isEmpty&&Q5 (items.size+items2.size))=true)(hc1:items.size<=kW)(hs2:items.size+items2.size<=kW+1) :
  Meets (Builtin.«list.extend» ⟨[.ref l,.ref b],[]⟩) (fun _ R s=>s.heap.get? l=some { cls:=.type "list", dict:=none,data:=.seq items n,slots:=#[] }/\s.heap.get? b=some { cls:=.type "list", dict:=dd,data:=.seq items2 n2,slots:=sl }/\R (.ok (.ret wk)) { s with heap:=s.heap.update l (wW fun x=>x++items2),toks:=s.toks }) :=
 .of_wp fun prog w A R s h=>by
  obtain ⟨hp,g,d,tk,os⟩:=s;(refine elAA (h) fun hl hb h_n=>?_;clear h;revert h_n;intro h)
  have f3:=AutoSeq1.sub_list_list
  have hz':(items++items2).size<=kW+1:=by rw[Array.size_append];exact hs2
  wp_walk using (wpAny_updateSeq hl rfl (hz:=hc1) (_hz':=hz')),AutoSeq1.wpAny_loadPart' hl,AutoSeq1.wpAny_loadPart' hb
  exact Mini.iEA _ rfl h
inductive ExtOk (ob:Array qz->Nat->Obj->Prop)(l:Addr)(Q:qz->qw->Prop)(v:qz)(s:qw):Prop
 | mk (b:Addr) (items items2:Array qz) (n n2:Nat) (o:Obj) (hz:items.size+items2.size<=kW) (hd:¬(!items.isEmpty&&Q5 (items.size+items2.size))=true) (e:v=.ref b) (hl:s.heap.get? l=some (lobj items n)) (hb:s.heap.get? b=some o) (ho:ob items2 n2 o)
  (hq:Q .none { s with heap:=s.heap.update l (wW fun xs=>xs++items2) })
noncomputable def isLO (items:Array qz)(n:Nat)(o:Obj):Prop:=∃ dd sl,o={ cls:=.type "list", dict:=dd,data:=.seq items n,slots:=sl }
theorem yf1 {A:zJ}{E:qz->qw->Prop}{s:qw}{pos:Pos}{l:Addr}{x:Sem qz}{Q:qz->qw->Prop}(h:qK (zx C.prog C.w) A x (ExtOk isLO l Q) E s) :
  qK (zx C.prog C.w) A (callWith pos (.builtin "list.extend") [.ref l] [(false,x)] []) Q E s :=
 seqMethod1_meets PySem.F.slot_list_extend PySem.F.entry_list_extend (wpM h (fun v s₁ h₁=>by
  obtain ⟨b,items,items2,n,n2,o,hz,hd,rfl,hl,hb,⟨dd,sl,rfl⟩,hq⟩:=h₁
  exact Mini.iAA ⟨_,hl,rfl⟩ (PySem.F.args_list_extend_2 _ _) (Mini.iEA _ (yg2 l items n b items2 n2 dd sl hd (qv (qk _ _) hz) (uw hz)) ⟨hl,hb,hq⟩)))
noncomputable def isTO (items:Array qz)(n:Nat)(o:Obj):Prop:=o=tobj items n
theorem yf0 {A:zJ}{E:qz->qw->Prop}{s:qw}{pos:Pos}{l:Addr}{x:Sem qz}{Q:qz->qw->Prop}(h:qK (zx C.prog C.w) A x (ExtOk isTO l Q) E s) :
  qK (zx C.prog C.w) A (callWith pos (.builtin "list.extend") [.ref l] [(false,x)] []) Q E s :=
 seqMethod1_meets PySem.F.slot_list_extend PySem.F.entry_list_extend (wpM h (fun v s₁ h₁=>by
  obtain ⟨b,items,items2,n,n2,o,hz,hd,rfl,hl,hb,ho,hq⟩:=h₁
  exact Mini.iAA ⟨_,hl,rfl⟩ (PySem.F.args_list_extend_2 _ _) (Mini.iEA _ (AutoSeq1.list_extend_list_tuple_0 l items n b items2 n2 hd (qv (qk _ _) hz) (uw hz)) ⟨hl,hb.trans (congrArg some ho),hq⟩)))
theorem xf7 {X:Addr->Prop}{P:List Place}{vs:List (Option qz)}{F F1:Fz}{s s₁:qw}{σ1:Sg}{k:Nat}{l r:List D}{a b:Addr}{ws3:Array qz}{c3:Nat}{o:Obj}{ob:Array qz->Nat->Obj->Prop}(st1:Step C X P vs F s σ1 F1 s₁)(hs:σ1[k]?=some (some (.own (.list l))))(hv:vs[k]?=some (some (.ref a)))
  (hz:l.length+r.length<size) (r3:RepL C.w F1 r ws3.toList) (hb:s₁.heap.get? b=some o) (ho:ob ws3 c3 o):ExtOk ob a (fun v s'=>v=.none/\PostS C X P F s (.next (σ1.set k (some (.own (.list (l++r)))))) .next s') (.ref b) s₁:=by
 refine ownLK st1.st hs hv fun _ ws2 c2 h2 r2 e1=>?_
 have e2:ws3.size=r.length:=r3.length
 have hz':ws2.size+ws3.size<size:=by rw[e1,e2];exact hz
 have hd:=xi4 hz'
 refine⟨b,ws2,ws3,c2,c3,o,zz hz',by simpa[Array.isEmpty] using hd,rfl,h2,hb,ho,yv4 (st1.trans (Step.update (tk:=s₁.toks) st1.st (l':=l++r) hs hv h2 (fun xs=>xs++ws3) (by rw[zw];exact zz hz) ?_))⟩
 rw[w7];exact r2.append r3
theorem PS.ext {k:Nat}{e:I}{x:Str}{a:Expr}{px ap cp p:Pos}(hline:ap.endLine=cp.line)(hx:Sl ν k x)(h:PE C Γ N e n sc ν a)(h0:okE a):PS C Γ N (.ext k e) n sc ν (.Expr (.Call (.Attribute (.Name x px) "extend" ap) [a] [] cp) p):=by
 intro env P vs σ X F s A E o K hf S hv
 refine bK1 (hv) fun l0 hl0 hv=>?_
 refine bK3 (hv) fun d f σ1 he hv=>?_
 refine bK1 (hv) fun r hr hv=>?_
 refine bK1 (hv) fun l hl hv=>?_
 obtain ⟨hz,hv⟩:=ifS hv
 have hv:Out.next (σ1.set k (some (.own (.list (l++r)))))=o:=hv
 refine sm1 (congrArg some hv) ?_
 refine elEEEA (ym3 S hl0) fun a' ws c hv' h1=>?_
 have hs:=zq0 hl
 refine ya0 K.O S hx hline h0 PySem.F.slot_list_extend PySem.F.type_list_extend hv' h1 ?_
 have hr:extD d=some r:=hr
 revert he
 refine extK hr (fun he=>?_)
  (fun he=>?_)
 ·refine yf1 (wpM (h.frozen K S he) (fun v s₁ q=>?_))
  obtain ⟨F1,st1,rr⟩:=q
  refine Top.lisK (.inl rr) st1.st.sub fun _ b dd sl ws3 c3 h3 r3=>?_
  exact xf7 (ob:=isLO) st1 hs hv' hz r3 h3 ⟨dd,sl,rfl⟩
 ·refine yf0 (wpM (h.frozen K S he) (fun v s₁ q=>?_))
  obtain ⟨F1,st1,rr⟩:=q
  refine Top.tupK (.inl rr) st1.st.sub fun _ b ws3 c3 _ h3 r3=>?_
  exact xf7 (ob:=isTO) st1 hs hv' hz r3 h3 rfl
structure GL (C:Cx)(Γ:Mini.Env)(N:Nat)(i:I)(n:Nat)(sc:x9)(ν:Nu)(l:List Expr):Prop where
 es:PES C Γ N i n sc ν l
 an:PAnd C Γ N i n sc ν l
 or:POr C Γ N i n sc ν l
 sh:(i=.nil/\l=[])\/∃ a r x t,i=.cons a r/\l=x::t
noncomputable def GT (C:Cx)(Γ:Mini.Env)(N:Nat)(i:I)(n:Nat)(sc:x9)(ν:Nu):Tg->Prop
 | .ex t e=>PW C Γ N i n sc ν e/\(t=false->GE C Γ N i n sc ν e)
 | .exs es=>GL C Γ N i n sc ν es
 | .opt o=>PB C Γ N i n sc ν o
 | .ifs l=>PC C Γ N i n sc ν l
 | .st s=>PS C Γ N i n sc ν s
 | .sts l=>PX C Γ N i n sc ν l
theorem GE.of {i:I}{e:Expr}(h:PE C Γ N i n sc ν e)(hb:xy1 i=false)(t:PT C Γ N i n sc ν e)(hc:xi5 e):GE C Γ N i n sc ν e:=⟨h,PE.opnd hb h,t,PU.plain h hc⟩
theorem GE.tg (di:zk0 C.w){i:I}{t:Bool}{e:Expr}(h:GE C Γ N i n sc ν e):GT C Γ N i n sc ν (.ex t e):=⟨PW.plain di h.e,fun _=>h⟩
theorem GE.brw {k:Nat}{x:Str}{p:Pos}(hx:Sl ν k x):GE C Γ N (.brw k) n sc ν (.Name x p) :=
 ⟨fun _ _ hv=>(noS hv).elim,PO.brw hx,PT.plain (PO.brw hx) fun _ _=>rfl,fun _ _ _ _ hv=>(noS hv).elim⟩
theorem GE.compG {i elt sr cond:I}{ee it:Expr}{nm:List Str}{tg:Expr}{bc:D->Option (List D)}{ifs:List Expr}{csc:x9}{pos:Pos}(hi:xy1 i=false)(hev:∀ σ,ev Γ i σ=yo7 Γ bc elt sr cond σ)(hBc:PBc C bc n nm csc ν tg)(hnm:nm.Nodup)(hne:nm≠[])(hS:PW C Γ N sr n sc ν it)(hE:PE C Γ N elt (n+nm.length) csc (zx7 n ν nm csc) ee)(hT:PC C Γ N cond (n+nm.length) csc (zx7 n ν nm csc) ifs)(h0:okE it)(KC:CompOk sc ν nm csc) :
  GE C Γ N i n sc ν (.ListComp ee [⟨tg,it,ifs,0⟩] csc pos) :=
 ⟨PE.compG hev hBc hnm hne hS hE hT h0 KC,PE.opnd hi (PE.compG hev hBc hnm hne hS hE hT h0 KC),PT.plain (PE.opnd hi (PE.compG hev hBc hnm hne hS hE hT h0 KC)) (fun _ _=>rfl),PU.compG hev hBc hnm hne hS hE hT h0 KC⟩
theorem GE.comp1 {elt sr cond:I}{ee it:Expr}{x:Str}{px:Pos}{ifs:List Expr}{csc:x9}{pos:Pos}(hS:PW C Γ N sr n sc ν it)(hE:PE C Γ N elt (n+1) csc (zx7 n ν [x] csc) ee)(hT:PC C Γ N cond (n+1) csc (zx7 n ν [x] csc) ifs)(h0:okE it)(KC:CompOk sc ν [x] csc) :
  GE C Γ N (.comp1 elt sr cond) n sc ν (.ListComp ee [⟨.Name x px,it,ifs,0⟩] csc pos):=GE.compG (bc:=bc1) rfl wi4 PBc.name (by simp) (by simp) hS hE hT h0 KC
theorem GE.compT {elt sr cond:I}{ee it:Expr}{l:List (Str×Pos)}{q:Nat}{tp:Pos}{ifs:List Expr}{csc:x9}{pos:Pos}(hnm:(l.map (·.1)).Nodup)(hne:l.map (·.1)≠[])(hS:PW C Γ N sr n sc ν it)(hE:PE C Γ N elt (n+(l.map (·.1)).length) csc (zx7 n ν (l.map (·.1)) csc) ee)(hT:PC C Γ N cond (n+(l.map (·.1)).length) csc (zx7 n ν (l.map (·.1)) csc) ifs)(h0:okE it)(KC:CompOk sc ν (l.map (·.1)) csc) :
  GE C Γ N (.compT (l.map (·.1)).length elt sr cond) n sc ν (.ListComp ee [⟨.Tuple (l.map nmE) q tp,it,ifs,0⟩] csc pos):=GE.compG rfl (fun _=>rfl) (PBc.tup hnm) hnm hne hS hE hT h0 KC
theorem GL.cons {a r:I}{e:Expr}{es:List Expr}(ha:GE C Γ N a n sc ν e)(h0:okE e)(hr:GL C Γ N r n sc ν es):GL C Γ N (.cons a r) n sc ν (e::es):=by
 obtain ⟨rfl,rfl⟩|⟨_,_,_,_,rfl,rfl⟩:=hr.sh
 ·exact⟨PES.cons ha.e h0 hr.es,PAnd.last ha.e ha.t,POr.last ha.e ha.t,.inr (Mini.iEEEEA _ _ _ _ rfl rfl)⟩
 ·exact⟨PES.cons ha.e h0 hr.es,PAnd.more ha.e ha.t hr.an,POr.more ha.e ha.t hr.or,.inr (Mini.iEEEEA _ _ _ _ rfl rfl)⟩
end
end Snd
end
section
namespace Snd
open PySem Mini PySem.SeqAt
open AutoSeq1 (wpAny_loadPart')
open MeetsSeq MeetsSeq2 MeetsSeq3 SeqRoads2
theorem xk6 (l:Addr)(items:Array qz)(n:Nat)(x:qz)(j:Nat)(hj:j<items.size)(hs1:items.size<=kW)(k:Nat) :
  ∀ i:Nat,j - i=k->i<=j->Meets (Builtin.«list.remove.loop» ⟨[.ref l,x,Qv i],[]⟩)
   (fun A R s=>s.heap.get? l=some { cls:=.type "list", dict:=none,data:=.seq items n,slots:=#[] }/\(∀ m (h:m<items.size),m<=j->EqAt A.in1 s items[m] x (decide (m=j))) /\
    R (.ok (.ret .none)) { s with heap:=s.heap.update l (wW fun xs=>xs.eraseIdxIfInBounds j) }):=by
 induction k with
 | zero =>
  intro i hk hij prog w A R s h
  obtain ⟨hp,g,d,tk,os⟩:=s
  (refine elAA (h) fun hl he h_n=>?_;clear h;revert h_n;intro h)
  have e:i=j:=jy hij (yZ hk)
  subst e
  wp_walk using wpAny_loadPart' hl
  rw[show items[((i:Nat):Int).toNat]?=some items[i] by simp[hj]]
  refine qq (he i hj (zv _) prog w _ _ ?_)
  rw[decide_eq_true rfl]
  have hz':(items.eraseIdxIfInBounds i).size<=kW+1:=qv (size_erased items _) (uw hs1)
  wp_walk using (wpAny_updateSeq hl rfl (hz:=hs1) (_hz':=hz')),wpAny_loadPart' hl
  simpa using h
 | succ k ih =>
  intro i hk hij prog w A R s h
  obtain ⟨hp,g,d,tk,os⟩:=s
  (refine elAA (h) fun hl he h_n=>?_;clear h;revert h_n;intro h)
  have hlt:i<items.size:=by lia
  wp_walk using wpAny_loadPart' hl
  rw[show items[((i:Nat):Int).toNat]?=some items[i] by simp[hlt]]
  refine qq (he i hlt hij prog w _ _ ?_)
  rw[decide_eq_false (show ¬ i=j from jJ (Nat.lt_of_sub_pos (hk▸Nat.succ_pos k)))]
  wp_walk
  rw[show ((i:Int)+1)=((i+1:Nat):Int) by push_cast;rfl]
  exact⟨Z4 plain_remove_loop _,yW entry_remove_loop (by
   rw[jx plain_remove_loop _]
   exact ih (i+1) (congrArg Nat.pred hk) (Nat.lt_of_sub_pos (hk▸Nat.succ_pos k)) prog w A R _ (Mini.iAA hl he h))⟩
theorem RepL.erase {w:wz}{F:Fz}:∀{ds:List D}{vs:List qz}(j:Nat),RepL w F ds vs->RepL w F (ds.eraseIdx j) (vs.eraseIdx j)
 | [],vs,j,r=>by simp only[zs4]at r;subst r;simp[zs4]
 | d::ds,vs,0,r=>by simp only[zv1]at r;(refine elEEAA (r) fun v t e_2 _ r2=>?_;subst e_2);exact r2
 | d::ds,vs,j+1,r=>by
  simp only[zv1]at r
  (refine elEEAA (r) fun v t e_2 r1 r2=>?_;subst e_2)
  exact RepL.cons_ r1 (RepL.erase j r2)
variable {C:Cx}{Γ:Mini.Env}{N:Nat}{n:Nat}{sc:x9}{ν:Nu}
inductive RemOk (A:zJ)(l:Addr)(Q:qz->qw->Prop)(v:qz)(s:qw):Prop
 | mk (items:Array qz) (m j:Nat) (hj:j<items.size) (hz:items.size<=kW) (hl:s.heap.get? l=some (lobj items m)) (he:∀ i (h:i<items.size),i<=j->EqAt A.in1 s items[i] v (decide (i=j)))
  (hq:Q .none { s with heap:=s.heap.update l (wW fun xs=>xs.eraseIdxIfInBounds j) })
theorem yc6 {A:zJ}{E:qz->qw->Prop}{s:qw}{pos:Pos}{l:Addr}{x:Sem qz}{Q:qz->qw->Prop}(h:qK (zx C.prog C.w) A x (RemOk A l Q) E s) :
  qK (zx C.prog C.w) A (callWith pos (.builtin "list.remove") [.ref l] [(false,x)] []) Q E s :=
 seqMethod1_meets PySem.F.slot_list_remove PySem.F.entry_list_remove (wpM h (fun v s₁ h₁=>by
  obtain ⟨items,m,j,hj,hsz,hl,he,hq⟩:=h₁
  refine Mini.iAA ⟨_,hl,rfl⟩ (PySem.F.args_list_remove_2 _ _) (Mini.iEA (fun A R s=>s.heap.get? l=some (lobj items m)/\(∀ i (h:i<items.size),i<=j->EqAt A.in1 s items[i] v (decide (i=j)))/\R (.ok (.ret .none)) { s with heap:=s.heap.update l (wW fun xs=>xs.eraseIdxIfInBounds j) }) ?_ ⟨hl,he,hq⟩)
  clear hq he hl
  intro prog w A R s h
  obtain ⟨hp,g,d,tk,os⟩:=s
  obtain ⟨hl,he,h⟩:=h
  wp_walk using wpAny_loadPart' hl
  exact⟨Z4 plain_remove_loop _,yW entry_remove_loop (by
   rw[jx plain_remove_loop _]
   exact xk6 l items m v j hj hsz _ 0 rfl (vq _) prog w A R _ (Mini.iAA hl he h))⟩))
theorem wk4 {l:List D}{d:D}{i:Nat}(hi:i<l.length)(hj:(l.findIdx fun y=>z7 y d)<l.length)(hij:i<=l.findIdx fun y=>z7 y d):z7 l[i] d=decide (i=l.findIdx fun y=>z7 y d):=by
 by_cases hq:i=l.findIdx fun y=>z7 y d
 ·rw[decide_eq_true hq]
  subst hq
  exact List.findIdx_getElem (w:=hj)
 ·rw[decide_eq_false hq]
  have:=List.not_of_lt_findIdx (p:=fun y=>z7 y d) (xs:=l) (i:=i) (jv hij hq)
  simpa using this
theorem PS.rem {k:Nat}{e:I}{x:Str}{a:Expr}{px ap cp p:Pos}(hline:ap.endLine=cp.line)(hx:Sl ν k x)(h:PE C Γ N e n sc ν a)(h0:okE a):PS C Γ N (.rem k e) n sc ν (.Expr (.Call (.Attribute (.Name x px) "remove" ap) [a] [] cp) p):=by
 intro env P vs σ X F s A E o K hf S hv
 refine bK1 (hv) fun l0 hl0 hv=>?_
 refine bK3 (hv) fun d f σ1 he hv=>?_
 refine bK1 (hv) fun l hl hv=>?_
 refine bK1 (hv) fun l' hr hv=>?_
 refine sm1 hv ?_
 refine ifK hr fun hr=>?_
 have hr2:=zq.mp hr
 have hr1:=zq.mp hr2.1
 have hj:(l.findIdx fun y=>z7 y d)<l.length:=List.findIdx_lt_length_of_exists (List.any_eq_true.mp hr2.2)
 refine elEEEA (ym3 S hl0) fun a' ws c hv' h1=>?_
 have hs:=zq0 hl
 refine ya0 K.O S hx hline h0 PySem.F.slot_list_remove PySem.F.type_list_remove hv' h1 ?_
 refine yc6 (wpM (h.frozen K S he) (fun v s₁ q=>?_))
 obtain ⟨F1,st1,r⟩:=q
 refine ownLK st1.st hs hv' fun hz2 ws2 c2 h2 r2 e1=>⟨ws2,c2,_,by rw[e1];exact hj,by rw[e1];exact hz2,h2,fun i hi hij=>?_,yv4 (st1.trans (Step.update (tk:=s₁.toks) st1.st (l':=l.eraseIdx _) hs hv' h2 (fun xs=>xs.eraseIdxIfInBounds _) (qv (List.length_eraseIdx_le (l:=l) (i:=l.findIdx fun y=>z7 y d)) hz2) ?_))⟩
 ·have hil:i<l.length:=e1▸hi
  refine elEA (r2.get (qJ hil)) fun u hu ru=>?_
  have hu:ws2[i]=u:=xv ((zk hi).symm.trans (xK.symm.trans hu))
  refine(Rep.reads st1.st.sub _ ru).elim fun as q1=>(Rep.reads st1.st.sub _ r).elim fun bs q2=>?_
  have o1:=zy2 (x8.mp hr1.2 _ (vX hil))
  have hun:=K.R.units
  have:=eqAt_reads _ _ A.in1 s₁ _ _ as bs q1 q2 o1.1 (zy2 hr1.1).1 (xv1 hun o1.2)
  rwa [wk4 hil hj hij,<- hu]at this
 ·rw[Array.eraseIdxIfInBounds,dif_pos (by rw[e1];exact hj),Array.toList_eraseIdx]
  exact r2.erase _
end Snd
end
section
namespace Snd
open PySem Mini
structure Tie (i:I)(n:Nat)(sc:x9)(ν:Nu)(g:Tg):Prop where
 ok:okT g
 gt:∀{C:Cx}{Γ:Mini.Env}{N:Nat},Ground C Γ N->zk0 C.w->yr3 C.w->GT C Γ N i n sc ν g
theorem Tie.okE {i:I}{n:Nat}{sc:x9}{ν:Nu}{t:Bool}{e:Expr}(h:Tie i n sc ν (.ex t e)):okE e:=h.ok
theorem Tie.okH {i:I}{n:Nat}{sc:x9}{ν:Nu}{e:Expr}{es:List Expr}(h:Tie i n sc ν (.exs (e::es))):Mini.okE e:=h.ok e (y8 ..)
theorem Tie.cnone {n:Nat}{sc:x9}{ν:Nu}{t:Bool}{k:Nat}{p:Pos}:Tie .cnone n sc ν (.ex t (.Constant .none k p)):=⟨fun _ _ _ _ _ _=>rfl,fun G di ds=>GE.tg di (GE.plain PE.cnone rfl (fun _ _=>rfl) fun _ _ _ _=>rfl)⟩
theorem Tie.cbool {n:Nat}{sc:x9}{ν:Nu}{t:Bool}{b:Bool}{k:Nat}{p:Pos}:Tie (.cbool b) n sc ν (.ex t (.Constant (.bool b) k p)):=⟨fun _ _ _ _ _ _=>rfl,fun G di ds=>GE.tg di (GE.plain PE.cbool rfl (fun _ _=>rfl) fun _ _ _ _=>rfl)⟩
theorem Tie.cint {n:Nat}{sc:x9}{ν:Nu}{t:Bool}{b:Int}{k:Nat}{p:Pos}:Tie (.cint b) n sc ν (.ex t (.Constant (.int b) k p)):=⟨fun _ _ _ _ _ _=>rfl,fun G di ds=>GE.tg di (GE.plain PE.cint rfl (fun _ _=>rfl) fun _ _ _ _=>rfl)⟩
theorem Tie.cstr {n:Nat}{sc:x9}{ν:Nu}{t:Bool}{b:Str}{k:Nat}{p:Pos}:Tie (.cstr b) n sc ν (.ex t (.Constant (.str b) k p)):=⟨fun _ _ _ _ _ _=>rfl,fun G di ds=>GE.tg di (GE.plain PE.cstr rfl (fun _ _=>rfl) fun _ _ _ _=>rfl)⟩
theorem Tie.var {n:Nat}{sc:x9}{ν:Nu}{t:Bool}{k:Nat}{x:Str}{p:Pos}(h0:Sl ν k x):Tie (.var k) n sc ν (.ex t (.Name x p)):=⟨fun _ _ _ _ _ _=>rfl,fun G di ds=>GE.tg di (GE.plain (PE.var h0) rfl (fun _ _=>rfl) fun _ _ _ _=>rfl)⟩
theorem Tie.brw {n:Nat}{sc:x9}{ν:Nu}{t:Bool}{k:Nat}{x:Str}{p:Pos}(h0:Sl ν k x):Tie (.brw k) n sc ν (.ex t (.Name x p)):=⟨fun _ _ _ _ _ _=>rfl,fun G di ds=>GE.tg di (GE.brw h0)⟩
theorem Tie.glob {n:Nat}{sc:x9}{ν:Nu}{t:Bool}{x:Str}{p:Pos}(h0:zz5 sc ν x=true):Tie (.glob x) n sc ν (.ex t (.Name x p)):=⟨fun _ _ _ _ _ _=>rfl,fun G di ds=>GE.tg di (GE.plain (PE.glob G h0) rfl (fun _ _=>rfl) fun _ _ _ _=>rfl)⟩
theorem Tie.bin {n:Nat}{sc:x9}{ν:Nu}{t:Bool}{op:Operator}{a b:I}{l r:Expr}{p:Pos}(h0:Tie a n sc ν (.ex false l))(h1:Tie b n sc ν (.ex false r)):Tie (.bin op a b) n sc ν (.ex t (.BinOp l op r p)):=⟨fun _ _ _ _ _ _=>rfl,fun G di ds=>GE.tg di (GE.plain (PE.bin ((h0.gt G di ds).2 rfl).o ((h1.gt G di ds).2 rfl).o) rfl (fun _ _=>rfl) fun _ _ _ _=>rfl)⟩
theorem Tie.not {n:Nat}{sc:x9}{ν:Nu}{t:Bool}{a:I}{e:Expr}{p:Pos}(h0:Tie a n sc ν (.ex false e)):Tie (.not a) n sc ν (.ex t (.UnaryOp .Not e p)):=⟨fun _ _ _ _ _ _=>rfl,fun G di ds=>GE.tg di (GE.of (PE.not ((h0.gt G di ds).2 rfl).o) rfl (PT.not ((h0.gt G di ds).2 rfl).t) fun _ _ _ _=>rfl)⟩
theorem Tie.and {n:Nat}{sc:x9}{ν:Nu}{t:Bool}{l:I}{es:List Expr}{p:Pos}(h0:Tie l n sc ν (.exs es)):Tie (.and l) n sc ν (.ex t (.BoolOp .And es p)):=⟨fun _ _ _ _ _ _=>rfl,fun G di ds=>GE.tg di (GE.of (PE.and (h0.gt G di ds).an) rfl (PT.and (h0.gt G di ds).an) fun _ _ _ _=>rfl)⟩
theorem Tie.or {n:Nat}{sc:x9}{ν:Nu}{t:Bool}{l:I}{es:List Expr}{p:Pos}(h0:Tie l n sc ν (.exs es)):Tie (.or l) n sc ν (.ex t (.BoolOp .Or es p)):=⟨fun _ _ _ _ _ _=>rfl,fun G di ds=>GE.tg di (GE.of (PE.or (h0.gt G di ds).or) rfl (PT.or (h0.gt G di ds).or) fun _ _ _ _=>rfl)⟩
theorem Tie.cmp {n:Nat}{sc:x9}{ν:Nu}{t:Bool}{op:CmpOp}{a b:I}{l r:Expr}{p:Pos}(h0:Tie a n sc ν (.ex false l))(h1:Tie b n sc ν (.ex false r)):Tie (.cmp op a b) n sc ν (.ex t (.Compare l [op] [r] p)):=⟨fun _ _ _ _ _ _=>rfl,fun G di ds=>GE.tg di (GE.of (PE.cmp G ((h0.gt G di ds).2 rfl).o ((h1.gt G di ds).2 rfl).o h1.okE) rfl (PT.cmp G ((h0.gt G di ds).2 rfl).o ((h1.gt G di ds).2 rfl).o h1.okE) fun _ _ _ _=>rfl)⟩
theorem Tie.cmp2 {n:Nat}{sc:x9}{ν:Nu}{t:Bool}{o1 o2:CmpOp}{a b c:I}{l r1 r2:Expr}{p:Pos}(h0:Tie a n sc ν (.ex false l))(h1:Tie b n sc ν (.ex false r1))(h2:Tie c n sc ν (.ex false r2)):Tie (.cmp2 o1 o2 a b c) n sc ν (.ex t (.Compare l [o1,o2] [r1,r2] p)):=⟨fun _ _ _ _ _ _=>rfl,fun G di ds=>GE.tg di (GE.of (PE.cmp2 G ((h0.gt G di ds).2 rfl).e ((h1.gt G di ds).2 rfl).e ((h2.gt G di ds).2 rfl).e h2.okE) rfl (PT.cmp2 G ((h0.gt G di ds).2 rfl).e ((h1.gt G di ds).2 rfl).e ((h2.gt G di ds).2 rfl).e h2.okE) fun _ _ _ _=>rfl)⟩
theorem Tie.ite {n:Nat}{sc:x9}{ν:Nu}{t:Bool}{c a b:I}{q x y:Expr}{p:Pos}(h0:Tie c n sc ν (.ex false q))(h1:Tie a n sc ν (.ex false x))(h2:Tie b n sc ν (.ex false y)):Tie (.ite c a b) n sc ν (.ex t (.IfExp q x y p)):=⟨fun _ _ _ _ _ _=>rfl,fun G di ds=>GE.tg di (GE.of (PE.ite ((h0.gt G di ds).2 rfl).t ((h1.gt G di ds).2 rfl).e ((h2.gt G di ds).2 rfl).e) rfl (PT.ite ((h0.gt G di ds).2 rfl).t ((h1.gt G di ds).2 rfl).t ((h2.gt G di ds).2 rfl).t) fun _ _ _ _=>rfl)⟩
theorem Tie.tup {n:Nat}{sc:x9}{ν:Nu}{t:Bool}{l:I}{es:List Expr}{q:Nat}{p:Pos}(h0:Tie l n sc ν (.exs es)):Tie (.tup l) n sc ν (.ex t (.Tuple es q p)):=⟨fun _ _ _ _ _ _=>rfl,fun G di ds=>GE.tg di (GE.plain (PE.tup (h0.gt G di ds).es) rfl (fun _ _=>rfl) fun _ _ _ _=>rfl)⟩
theorem Tie.lst {n:Nat}{sc:x9}{ν:Nu}{t:Bool}{l:I}{es:List Expr}{p:Pos}(h0:Tie l n sc ν (.exs es)):Tie (.lst l) n sc ν (.ex t (.List es p)):=⟨fun _ _ _ _ _ _=>rfl,fun G di ds=>GE.tg di (GE.plain (PE.lst (h0.gt G di ds).es) rfl (fun _ _=>rfl) fun _ _ _ _=>rfl)⟩
theorem Tie.dct0 {n:Nat}{sc:x9}{ν:Nu}{t:Bool}{p:Pos}:Tie .dct0 n sc ν (.ex t (.Dict [] [] p)):=⟨fun _ _ _ _ _ _=>rfl,fun G di ds=>GE.tg di (GE.plain (PE.dct0 G) rfl (fun _ _=>rfl) fun _ _ _ _=>rfl)⟩
theorem Tie.comp1 {n:Nat}{sc:x9}{ν:Nu}{t:Bool}{elt s cond:I}{e it:Expr}{x:Str}{px:Pos}{ifs:List Expr}{csc:x9}{p:Pos}(h0:zm6 sc ν [x] csc=true)(h1:Tie s n sc ν (.ex true it))(h2:Tie cond (n+1) csc (zx7 n ν [x] csc) (.ifs ifs))(h3:Tie elt (n+1) csc (zx7 n ν [x] csc) (.ex false e)):Tie (.comp1 elt s cond) n sc ν (.ex t (.ListComp e [⟨.Name x px,it,ifs,0⟩] csc p)):=⟨fun _ _ _ _ _ _=>rfl,fun G di ds=>GE.tg di (GE.comp1 (h1.gt G di ds).1 ((h3.gt G di ds).2 rfl).e (h2.gt G di ds) h1.okE (zj7 h0))⟩
theorem Tie.compT {n:Nat}{sc:x9}{ν:Nu}{t:Bool}{m:Nat}{elt s cond:I}{e it:Expr}{l:List (Str×Pos)}{q:Nat}{tp:Pos}{ifs:List Expr}{csc:x9}{p:Pos}(hm:(l.map (·.1)).length=m)(h1:zm6 sc ν (l.map (·.1)) csc=true)(h2:(decide (l.map (·.1)).Nodup&&!(l.map (·.1)).isEmpty)=true)(h3:Tie s n sc ν (.ex true it))(h4:Tie cond (n+(l.map (·.1)).length) csc (zx7 n ν (l.map (·.1)) csc) (.ifs ifs))(h5:Tie elt (n+(l.map (·.1)).length) csc (zx7 n ν (l.map (·.1)) csc) (.ex false e)) :
  Tie (.compT m elt s cond) n sc ν (.ex t (.ListComp e [⟨.Tuple (l.map nmE) q tp,it,ifs,0⟩] csc p)) :=
 ⟨fun _ _ _ _ _ _=>rfl,fun G di ds=>by
  subst hm
  simp only[zj,decide_eq_true_eq,Bool.not_eq_true',List.isEmpty_eq_false_iff]at h2
  exact GE.tg di (GE.compT h2.1 h2.2 (h3.gt G di ds).1 ((h5.gt G di ds).2 rfl).e (h4.gt G di ds) h3.okE (zj7 h1))⟩
theorem Tie.call {n:Nat}{sc:x9}{ν:Nu}{t:Bool}{g:Str}{l:I}{e:Expr}{es:List Expr}{px p:Pos}(h0:zz5 sc ν g=true)(h1:Tie l n sc ν (.exs (e::es))):Tie (.call g l) n sc ν (.ex t (.Call (.Name g px) (e::es) [] p)):=⟨fun _ _ _ _ _ _=>rfl,fun G di ds=>GE.tg di (GE.plain (PE.call G h0 (h1.gt G di ds).es h1.okH) rfl (fun _ _=>rfl) fun _ _ _ _=>rfl)⟩
theorem Tie.prim1 {n:Nat}{sc:x9}{ν:Nu}{t:Bool}{q:Prim}{a:I}{e:Expr}{px p:Pos}(h0:zz5 sc ν q.name=true)(h1:Tie a n sc ν (.ex false e)):Tie (.prim1 q a) n sc ν (.ex t (.Call (.Name q.name px) [e] [] p)):=⟨fun _ _ _ _ _ _=>rfl,fun G di ds=>GE.tg di (GE.plain (PE.prim1 G h0 ((h1.gt G di ds).2 rfl).o h1.okE) rfl (fun _ _=>rfl) fun _ _ _ _=>rfl)⟩
theorem Tie.dzip {n:Nat}{sc:x9}{ν:Nu}{t:Bool}{a b:I}{ea eb:Expr}{p1 p2 p3 q1 q2 q3:Pos}(h0:zz5 sc ν "dict" = true)(h1:zz5 sc ν "list" = true)(h2:zz5 sc ν "zip" = true)(h3:Tie a n sc ν (.ex false ea))(h4:Tie b n sc ν (.ex false eb)):Tie (.dzip a b) n sc ν (.ex t (.Call (.Name "dict" p1) [.Call (.Name "list" p2) [.Call (.Name "zip" p3) [ea,eb] [] q3] [] q2] [] q1)):=⟨fun _ _ _ _ _ _=>rfl,fun G di ds=>GE.tg di (GE.plain (PE.dzip G h0 h1 h2 ((h3.gt G di ds).2 rfl).e ((h4.gt G di ds).2 rfl).e h3.okE h4.okE) rfl (fun _ _=>rfl) fun _ _ _ _=>rfl)⟩
theorem Tie.callB {n:Nat}{sc:x9}{ν:Nu}{t:Bool}{g:Str}{k:Nat}{l:I}{x:Str}{es:List Expr}{px pn p:Pos}(h0:zz5 sc ν g=true)(hx:Sl ν k x)(h1:Tie l n sc ν (.exs es)):Tie (.callB g k l) n sc ν (.ex t (.Call (.Name g px) (.Name x pn::es) [] p)):=⟨fun _ _ _ _ _ _=>rfl,fun G di ds=>GE.tg di (GE.plain (PE.callB G h0 hx (h1.gt G di ds).es) rfl (fun _ _=>rfl) fun _ _ _ _=>rfl)⟩
theorem Tie.isi {n:Nat}{sc:x9}{ν:Nu}{t:Bool}{a:I}{ty:Str}{e:Expr}{px py p:Pos}(h0:zz5 sc ν "isinstance" = true)(h1:Tie a n sc ν (.ex false e))(h2:zz5 sc ν ty=true):Tie (.isi a ty) n sc ν (.ex t (.Call (.Name "isinstance" px) [e,.Name ty py] [] p)):=⟨fun _ _ _ _ _ _=>rfl,fun G di ds=>GE.tg di (GE.plain (PE.isi G h0 ((h1.gt G di ds).2 rfl).o h1.okE h2) rfl (fun _ _=>rfl) fun _ _ _ _=>rfl)⟩
theorem Tie.idx {n:Nat}{sc:x9}{ν:Nu}{t:Bool}{a i:I}{v s:Expr}{p:Pos}(h0:Tie a n sc ν (.ex false v))(h1:Tie i n sc ν (.ex false s)):Tie (.idx a i) n sc ν (.ex t (.Subscript v s p)):=⟨fun _ _ _ _ _ _=>rfl,fun G di ds=>GE.tg di (GE.plain (PE.idx G ((h0.gt G di ds).2 rfl).o ((h1.gt G di ds).2 rfl).o h1.okE) rfl (fun _ _=>rfl) fun _ _ _ _=>rfl)⟩
theorem Tie.slc {n:Nat}{sc:x9}{ν:Nu}{t:Bool}{a lo hi:I}{v:Expr}{l h:Option Expr}{p q:Pos}(h0:Tie a n sc ν (.ex false v))(h1:Tie lo n sc ν (.opt l))(h2:Tie hi n sc ν (.opt h)):Tie (.slc a lo hi) n sc ν (.ex t (.Subscript v (.Slice l h none q) p)):=⟨fun _ _ _ _ _ _=>rfl,fun G di ds=>GE.tg di (GE.plain (PE.slc ((h0.gt G di ds).2 rfl).o (h1.gt G di ds) (h2.gt G di ds)) rfl (fun _ _=>rfl) fun _ _ _ _=>rfl)⟩
theorem Tie.pop {n:Nat}{sc:x9}{ν:Nu}{t:Bool}{k:Nat}{x:Str}{px ap cp:Pos}(h0:ap.endLine=cp.line)(h1:Sl ν k x):Tie (.pop k) n sc ν (.ex t (.Call (.Attribute (.Name x px) "pop" ap) [] [] cp)):=⟨fun _ _ _ _ _ _=>rfl,fun G di ds=>GE.tg di (GE.plain (PE.pop h0 h1) rfl (fun _ _=>rfl) fun _ _ _ _=>rfl)⟩
theorem Tie.rng1 {n:Nat}{sc:x9}{ν:Nu}{b:I}{e:Expr}{px p:Pos}(h0:zz5 sc ν "range" = true)(h1:Tie b n sc ν (.ex false e)):Tie (.rng1 b) n sc ν (.ex true (.Call (.Name "range" px) [e] [] p)):=⟨fun _ _ _ _ _ _=>rfl,fun G di ds=>⟨PW.rng1 G h0 ((h1.gt G di ds).2 rfl).e h1.okE,fun e=>nomatch e⟩⟩
theorem Tie.rng {n:Nat}{sc:x9}{ν:Nu}{a b:I}{e f:Expr}{px p:Pos}(h0:zz5 sc ν "range" = true)(h1:Tie a n sc ν (.ex false e))(h2:Tie b n sc ν (.ex false f)):Tie (.rng a b) n sc ν (.ex true (.Call (.Name "range" px) [e,f] [] p)):=⟨fun _ _ _ _ _ _=>rfl,fun G di ds=>⟨PW.rng G h0 ((h1.gt G di ds).2 rfl).e ((h2.gt G di ds).2 rfl).e h1.okE h2.okE,fun e=>nomatch e⟩⟩
theorem Tie.nil {n:Nat}{sc:x9}{ν:Nu}:Tie .nil n sc ν (.exs []):=⟨(fun e he=>nomatch he),fun G di ds=>⟨PES.nil,fun _ _ hv=>(noS hv).elim,fun _ _ hv=>(noS hv).elim,.inl ⟨rfl,rfl⟩⟩⟩
theorem Tie.cons {n:Nat}{sc:x9}{ν:Nu}{a r:I}{e:Expr}{es:List Expr}(h0:Tie a n sc ν (.ex false e))(h1:Tie r n sc ν (.exs es)):Tie (.cons a r) n sc ν (.exs (e::es)):=⟨(fun e he=>(zQ.mp he).elim (fun q=>q▸h0.ok) fun q=>h1.ok e q),fun G di ds=>GL.cons ((h0.gt G di ds).2 rfl) h0.okE (h1.gt G di ds)⟩
theorem Tie.onone {n:Nat}{sc:x9}{ν:Nu}:Tie .omit n sc ν (.opt none):=⟨trivial,fun G di ds=>PB.none⟩
theorem Tie.osome {n:Nat}{sc:x9}{ν:Nu}{i:I}{e:Expr}(h0:zh8 i=false)(h1:Tie i n sc ν (.ex false e)):Tie i n sc ν (.opt (some e)):=⟨trivial,fun G di ds=>PB.some h0 ((h1.gt G di ds).2 rfl).e⟩
theorem Tie.inone {n:Nat}{sc:x9}{ν:Nu}:Tie .omit n sc ν (.ifs []):=⟨trivial,fun G di ds=>PC.none⟩
theorem Tie.ione {n:Nat}{sc:x9}{ν:Nu}{i:I}{e:Expr}(h0:zh8 i=false)(h1:Tie i n sc ν (.ex false e)):Tie i n sc ν (.ifs [e]):=⟨trivial,fun G di ds=>PC.one h0 ((h1.gt G di ds).2 rfl).t⟩
theorem Tie.pass {n:Nat}{sc:x9}{ν:Nu}{p:Pos}:Tie .pass n sc ν (.st (.Pass p)):=⟨trivial,fun G di ds=>PS.pass⟩
theorem Tie.asg {n:Nat}{sc:x9}{ν:Nu}{k:Nat}{e:I}{x:Str}{v:Expr}{px p:Pos}(h0:Sl ν k x)(h1:Tie e n sc ν (.ex false v)):Tie (.asg k e) n sc ν (.st (.Assign [.Name x px] v p)):=⟨trivial,fun G di ds=>PS.asg h0 ((h1.gt G di ds).2 rfl).u⟩
theorem Tie.sto {n:Nat}{sc:x9}{ν:Nu}{k:Nat}{key e:I}{x:Str}{s v:Expr}{px ps p:Pos}(h0:Sl ν k x)(h1:Tie key n sc ν (.ex false s))(h2:Tie e n sc ν (.ex false v)):Tie (.sto k key e) n sc ν (.st (.Assign [.Subscript (.Name x px) s ps] v p)):=⟨trivial,fun G di ds=>PS.sto ds h0 ((h1.gt G di ds).2 rfl).e ((h2.gt G di ds).2 rfl).e⟩
theorem Tie.app {n:Nat}{sc:x9}{ν:Nu}{k:Nat}{e:I}{x:Str}{a:Expr}{px ap cp p:Pos}(h0:ap.endLine=cp.line)(h1:Sl ν k x)(h2:Tie e n sc ν (.ex false a)):Tie (.app k e) n sc ν (.st (.Expr (.Call (.Attribute (.Name x px) "append" ap) [a] [] cp) p)):=⟨trivial,fun G di ds=>PS.app h0 h1 ((h2.gt G di ds).2 rfl).e h2.okE⟩
theorem Tie.ext {n:Nat}{sc:x9}{ν:Nu}{k:Nat}{e:I}{x:Str}{a:Expr}{px ap cp p:Pos}(h0:ap.endLine=cp.line)(h1:Sl ν k x)(h2:Tie e n sc ν (.ex false a)):Tie (.ext k e) n sc ν (.st (.Expr (.Call (.Attribute (.Name x px) "extend" ap) [a] [] cp) p)):=⟨trivial,fun G di ds=>PS.ext h0 h1 ((h2.gt G di ds).2 rfl).e h2.okE⟩
theorem Tie.exp {n:Nat}{sc:x9}{ν:Nu}{e:I}{f:Expr}{as:List Expr}{ks:List Keyword}{q p:Pos}(h0:Tie e n sc ν (.ex false (.Call f as ks q))):Tie (.exp e) n sc ν (.st (.Expr (.Call f as ks q) p)):=⟨trivial,fun G di ds=>PS.exp ((h0.gt G di ds).2 rfl).e⟩
theorem Tie.iff {n:Nat}{sc:x9}{ν:Nu}{c t e:I}{q:Expr}{bt be:List Stmt}{p:Pos}(h0:Tie c n sc ν (.ex false q))(h1:Tie t n sc ν (.sts bt))(h2:Tie e n sc ν (.sts be)):Tie (.iff c t e) n sc ν (.st (.If q bt be p)):=⟨trivial,fun G di ds=>PS.iff ((h0.gt G di ds).2 rfl).t (h1.gt G di ds) (h2.gt G di ds)⟩
theorem Tie.whl {n:Nat}{sc:x9}{ν:Nu}{c b:I}{q:Expr}{bd:List Stmt}{p:Pos}(h0:Tie c n sc ν (.ex false q))(h1:Tie b n sc ν (.sts bd)):Tie (.whl c b) n sc ν (.st (.While q bd [] p)):=⟨trivial,fun G di ds=>PS.whl ((h0.gt G di ds).2 rfl).t (h1.gt G di ds)⟩
theorem Tie.for1 {n:Nat}{sc:x9}{ν:Nu}{k:Nat}{s b:I}{x:Str}{it:Expr}{bd:List Stmt}{px p:Pos}(h0:Sl ν k x)(h1:Tie s n sc ν (.ex true it))(h2:Tie b n sc ν (.sts bd)):Tie (.for1 k s b) n sc ν (.st (.For (.Name x px) it bd [] p)):=⟨trivial,fun G di ds=>PS.for1 h0 (h1.gt G di ds).1 h1.okE (h2.gt G di ds)⟩
theorem Tie.rem {n:Nat}{sc:x9}{ν:Nu}{k:Nat}{e:I}{x:Str}{a:Expr}{px ap cp p:Pos}(h0:ap.endLine=cp.line)(h1:Sl ν k x)(h2:Tie e n sc ν (.ex false a)):Tie (.rem k e) n sc ν (.st (.Expr (.Call (.Attribute (.Name x px) "remove" ap) [a] [] cp) p)):=⟨trivial,fun G di ds=>PS.rem h0 h1 ((h2.gt G di ds).2 rfl).e h2.okE⟩
theorem Tie.fors {n:Nat}{sc:x9}{ν:Nu}{ks:List Nat}{s b:I}{l:List (Str×Pos)}{q:Nat}{it:Expr}{bd:List Stmt}{tp p:Pos}(h0:Sls ν ks l)(h1:Tie s n sc ν (.ex true it))(h2:Tie b n sc ν (.sts bd)):Tie (.fors ks s b) n sc ν (.st (.For (.Tuple (l.map nmE) q tp) it bd [] p)):=⟨trivial,fun G di ds=>PS.fors (gt:=fun _=>True) trivial h0 (h1.gt G di ds).1 h1.okE (h2.gt G di ds)⟩
theorem Tie.forsZ {n:Nat}{sc:x9}{ν:Nu}{ks:List Nat}{a c b:I}{l:List (Str×Pos)}{q:Nat}{ea ec:Expr}{bd:List Stmt}{px cp tp p:Pos}(h0:Sls ν ks l)(hg:zz5 sc ν "zip" = true)(h1:Tie a n sc ν (.ex false ea))(h2:Tie c n sc ν (.ex false ec))(h3:Tie b n sc ν (.sts bd)):Tie (.fors ks (.zip a c) b) n sc ν (.st (.For (.Tuple (l.map nmE) q tp) (.Call (.Name "zip" px) [ea,ec] [] cp) bd [] p)):=⟨trivial,fun G di ds=>PS.fors (gt:=xg3) ⟨_,_,_,rfl⟩ h0 (PWg.zip G hg ((h1.gt G di ds).2 rfl).e ((h2.gt G di ds).2 rfl).e h1.okE h2.okE) (fun _ _ _ _ _ _=>rfl) (h3.gt G di ds)⟩
theorem Tie.retO {n:Nat}{sc:x9}{ν:Nu}{k:Nat}{x:Str}{px p:Pos}(h0:Sl ν k x):Tie (.retO k) n sc ν (.st (.Return (some (.Name x px)) p)):=⟨trivial,fun G di ds=>PS.retO h0⟩
theorem Tie.ret {n:Nat}{sc:x9}{ν:Nu}{e:I}{v:Expr}{p:Pos}(h0:Tie e n sc ν (.ex false v)):Tie (.ret e) n sc ν (.st (.Return (some v) p)):=⟨trivial,fun G di ds=>PS.ret ((h0.gt G di ds).2 rfl).e⟩
theorem Tie.rais {n:Nat}{sc:x9}{ν:Nu}{x y:Option Expr}{p:Pos}:Tie .rais n sc ν (.st (.Raise x y p)):=⟨trivial,fun G di ds=>fun _ _ _ hv=>(noS hv).elim⟩
theorem Tie.snil {n:Nat}{sc:x9}{ν:Nu}:Tie .nil n sc ν (.sts []):=⟨trivial,fun G di ds=>PX.nil⟩
theorem Tie.scons {n:Nat}{sc:x9}{ν:Nu}{a r:I}{e:Stmt}{es:List Stmt}(h0:Tie a n sc ν (.st e))(h1:Tie r n sc ν (.sts es)):Tie (.cons a r) n sc ν (.sts (e::es)):=⟨trivial,fun G di ds=>PX.cons (h0.gt G di ds) (h1.gt G di ds)⟩
end Snd
namespace Mini
open PySem Snd
noncomputable abbrev Fd (p:Prop):=Option (PLift p)
noncomputable def one {p r:Prop}(f:p->r):Fd p->Fd r
 | some x=>some ⟨f x.down⟩
 | none=>none
noncomputable def two {p q r:Prop}(f:p->q->r)(x:Fd p)(y:Fd q):Fd r:=match x with
 | some a=>one (f a.down) y
 | none=>none
noncomputable def yr5 {p q r s:Prop}(f:p->q->r->s)(x:Fd p)(y:Fd q)(z:Fd r):Fd s:=match x with
 | some a=>two (f a.down) y z
 | none=>none
noncomputable def tt (b:Bool):Fd (b=true):=match b with
 | true=>some ⟨rfl⟩
 | false=>none
noncomputable def ff (b:Bool):Fd (b=false):=match b with
 | false=>some ⟨rfl⟩
 | true=>none
noncomputable def fE {τ:Expr->Type}(d:∀ e,τ e)(e:Expr)(C:∀ c k p,τ (.Constant c k p):=fun _ _ _=>d _)(N:∀ x p,τ (.Name x p):=fun _ _=>d _)(B:∀ l o r p,τ (.BinOp l o r p):=fun _ _ _ _=>d _)(U:∀ o x p,τ (.UnaryOp o x p):=fun _ _ _=>d _)(O:∀ o l p,τ (.BoolOp o l p):=fun _ _ _=>d _)(M:∀ l o r p,τ (.Compare l o r p):=fun _ _ _ _=>d _)(I:∀ q x y p,τ (.IfExp q x y p):=fun _ _ _ _=>d _)(T:∀ l q p,τ (.Tuple l q p):=fun _ _ _=>d _)(L:∀ l p,τ (.List l p):=fun _ _=>d _)(D:∀ a b p,τ (.Dict a b p):=fun _ _ _=>d _)(P:∀ x g s p,τ (.ListComp x g s p):=fun _ _ _ _=>d _)(F:∀ f a k p,τ (.Call f a k p):=fun _ _ _ _=>d _)(S:∀ v s p,τ (.Subscript v s p):=fun _ _ _=>d _)(A:∀ v a p,τ (.Attribute v a p):=fun _ _ _=>d _)(Z:∀ a b c p,τ (.Slice a b c p):=fun _ _ _ _=>d _):τ e:=match e with
 | .Constant c k p=>C c k p
 | .Name x p=>N x p
 | .BinOp l o r p=>B l o r p
 | .UnaryOp o x p=>U o x p
 | .BoolOp o l p=>O o l p
 | .Compare l o r p=>M l o r p
 | .IfExp q x y p=>I q x y p
 | .Tuple l q p=>T l q p
 | .List l p=>L l p
 | .Dict a b p=>D a b p
 | .ListComp x g s p=>P x g s p
 | .Call f a k p=>F f a k p
 | .Subscript v s p=>S v s p
 | .Attribute v a p=>A v a p
 | .Slice a b c p=>Z a b c p
 | e=>d e
@[elab_as_elim] noncomputable def gC {τ:Expr->Type}(e:Expr)(d:∀ e,τ e)(k:∀ c k p,τ (.Constant c k p)):τ e:=fE d e (C:=k)
@[elab_as_elim] noncomputable def gN {τ:Expr->Type}(e:Expr)(d:∀ e,τ e)(k:∀ x p,τ (.Name x p)):τ e:=fE d e (N:=k)
@[elab_as_elim] noncomputable def gB {τ:Expr->Type}(e:Expr)(d:∀ e,τ e)(k:∀ l o r p,τ (.BinOp l o r p)):τ e:=fE d e (B:=k)
@[elab_as_elim] noncomputable def gU {τ:Expr->Type}(e:Expr)(d:∀ e,τ e)(k:∀ o x p,τ (.UnaryOp o x p)):τ e:=fE d e (U:=k)
@[elab_as_elim] noncomputable def gO {τ:Expr->Type}(e:Expr)(d:∀ e,τ e)(k:∀ o l p,τ (.BoolOp o l p)):τ e:=fE d e (O:=k)
@[elab_as_elim] noncomputable def gM {τ:Expr->Type}(e:Expr)(d:∀ e,τ e)(k:∀ l o r p,τ (.Compare l o r p)):τ e:=fE d e (M:=k)
@[elab_as_elim] noncomputable def gI {τ:Expr->Type}(e:Expr)(d:∀ e,τ e)(k:∀ q x y p,τ (.IfExp q x y p)):τ e:=fE d e (I:=k)
@[elab_as_elim] noncomputable def gT {τ:Expr->Type}(e:Expr)(d:∀ e,τ e)(k:∀ l q p,τ (.Tuple l q p)):τ e:=fE d e (T:=k)
@[elab_as_elim] noncomputable def gL {τ:Expr->Type}(e:Expr)(d:∀ e,τ e)(k:∀ l p,τ (.List l p)):τ e:=fE d e (L:=k)
@[elab_as_elim] noncomputable def gD {τ:Expr->Type}(e:Expr)(d:∀ e,τ e)(k:∀ a b p,τ (.Dict a b p)):τ e:=fE d e (D:=k)
@[elab_as_elim] noncomputable def gP {τ:Expr->Type}(e:Expr)(d:∀ e,τ e)(k:∀ x g s p,τ (.ListComp x g s p)):τ e:=fE d e (P:=k)
@[elab_as_elim] noncomputable def gF {τ:Expr->Type}(e:Expr)(d:∀ e,τ e)(k:∀ f a k p,τ (.Call f a k p)):τ e:=fE d e (F:=k)
@[elab_as_elim] noncomputable def gS {τ:Expr->Type}(e:Expr)(d:∀ e,τ e)(k:∀ v s p,τ (.Subscript v s p)):τ e:=fE d e (S:=k)
@[elab_as_elim] noncomputable def gA {τ:Expr->Type}(e:Expr)(d:∀ e,τ e)(k:∀ v a p,τ (.Attribute v a p)):τ e:=fE d e (A:=k)
@[elab_as_elim] noncomputable def gZ {τ:Expr->Type}(e:Expr)(d:∀ e,τ e)(k:∀ a b c p,τ (.Slice a b c p)):τ e:=fE d e (Z:=k)
noncomputable def fS {τ:Stmt->Type}(d:∀ e,τ e)(e:Stmt)(A:∀ ts v p,τ (.Assign ts v p):=fun _ _ _=>d _)(X:∀ e p,τ (.Expr e p):=fun _ _=>d _)(I:∀ q a b p,τ (.If q a b p):=fun _ _ _ _=>d _)(W:∀ q b o p,τ (.While q b o p):=fun _ _ _ _=>d _)(F:∀ t i b o p,τ (.For t i b o p):=fun _ _ _ _ _=>d _)(R:∀ v p,τ (.Return v p):=fun _ _=>d _)(Z:∀ x y p,τ (.Raise x y p):=fun _ _ _=>d _)(P:∀ p,τ (.Pass p):=fun _=>d _):τ e:=match e with
 | .Assign ts v p=>A ts v p
 | .Expr e p=>X e p
 | .If q a b p=>I q a b p
 | .While q b o p=>W q b o p
 | .For t i b o p=>F t i b o p
 | .Return v p=>R v p
 | .Raise x y p=>Z x y p
 | .Pass p=>P p
 | e=>d e
@[elab_as_elim] noncomputable def sA {τ:Stmt->Type}(e:Stmt)(d:∀ e,τ e)(k:∀ ts v p,τ (.Assign ts v p)):τ e:=fS d e (A:=k)
@[elab_as_elim] noncomputable def sX {τ:Stmt->Type}(e:Stmt)(d:∀ e,τ e)(k:∀ e p,τ (.Expr e p)):τ e:=fS d e (X:=k)
@[elab_as_elim] noncomputable def sI {τ:Stmt->Type}(e:Stmt)(d:∀ e,τ e)(k:∀ q a b p,τ (.If q a b p)):τ e:=fS d e (I:=k)
@[elab_as_elim] noncomputable def sW {τ:Stmt->Type}(e:Stmt)(d:∀ e,τ e)(k:∀ q b o p,τ (.While q b o p)):τ e:=fS d e (W:=k)
@[elab_as_elim] noncomputable def sF {τ:Stmt->Type}(e:Stmt)(d:∀ e,τ e)(k:∀ t i b o p,τ (.For t i b o p)):τ e:=fS d e (F:=k)
@[elab_as_elim] noncomputable def sR {τ:Stmt->Type}(e:Stmt)(d:∀ e,τ e)(k:∀ v p,τ (.Return v p)):τ e:=fS d e (R:=k)
@[elab_as_elim] noncomputable def sZ {τ:Stmt->Type}(e:Stmt)(d:∀ e,τ e)(k:∀ x y p,τ (.Raise x y p)):τ e:=fS d e (Z:=k)
@[elab_as_elim] noncomputable def sP {τ:Stmt->Type}(e:Stmt)(d:∀ e,τ e)(k:∀ p,τ (.Pass p)):τ e:=fS d e (P:=k)
@[elab_as_elim] noncomputable def eqK {β:Type}[DecidableEq β]{τ:β->Type}(b:β)(a:β)(d:∀ e,τ e)(k:τ a):τ b:=if h:a=b then h▸k else d b
@[elab_as_elim] noncomputable def omK {τ:I->Type}(i:I)(d:∀ e,τ e)(k:τ .omit):τ i:=match i with
 | .omit=>k
 | i=>d i
@[elab_as_elim] noncomputable def noK {β:Type}{τ:Option β->Type}(o:Option β)(d:∀ e,τ e)(k:τ none):τ o:=match o with
 | none=>k
 | o=>d o
@[elab_as_elim] noncomputable def soK {β:Type}{τ:Option β->Type}(o:Option β)(d:∀ e,τ e)(k:∀ a,τ (some a)):τ o:=match o with
 | some a=>k a
 | o=>d o
@[elab_as_elim] noncomputable def l0 {β:Type}{τ:List β->Type}(l:List β)(d:∀ e,τ e)(k:τ []):τ l:=match l with
 | []=>k
 | l=>d l
@[elab_as_elim] noncomputable def lc {β:Type}{τ:List β->Type}(l:List β)(d:∀ e,τ e)(k:∀ a r,τ (a::r)):τ l:=match l with
 | a::r=>k a r
 | l=>d l
@[elab_as_elim] noncomputable def l1 {β:Type}{τ:List β->Type}(l:List β)(d:∀ e,τ e)(k:∀ a,τ [a]):τ l:=lc l d fun a r=>l0 r (fun _=>d _) (k a)
@[elab_as_elim] noncomputable def l2 {β:Type}{τ:List β->Type}(l:List β)(d:∀ e,τ e)(k:∀ a b,τ [a,b]):τ l:=lc l d fun a r=>l1 r (fun _=>d _) (k a)
@[elab_as_elim] noncomputable def gG {τ:Expr->Type}(e:Expr)(d:∀ e,τ e)(k:∀ x px as p,τ (.Call (.Name x px) as [] p)):τ e:=gF e d fun f as ks p=>l0 ks (fun _=>d _) (gN f (fun _=>d _) fun x px=>k x px as p)
@[elab_as_elim] noncomputable def gH {τ:Expr->Type}(e:Expr)(m:Str)(d:∀ e,τ e)(k:∀ x px ap as cp,ap.endLine=cp.line->τ (.Call (.Attribute (.Name x px) m ap) as [] cp)):τ e :=
 gF e d fun f as ks cp=>l0 ks (fun _=>d _) (gA f (fun _=>d _) fun v m' ap=>gN v (fun _=>d _) fun x px=>if hh:ap.endLine=cp.line/\x ≠ "super" then eqK m' m (fun _=>d _) (k x px ap as cp hh.1) else d _)
@[elab_as_elim] noncomputable def nmK {τ:List Expr->Type}(es:List Expr)(d:∀ e,τ e)(k:∀ l:List (Str×Pos),τ (l.map nmE)):τ es:=match es with
 | []=>k []
 | e::r=>gN e (fun _=>d _) fun x p=>nmK (τ:=fun r=>τ (.Name x p::r)) r (fun _=>d _) fun l=>k ((x,p)::l)
noncomputable def sl (ν:Nu)(k:Nat)(x:Str):Fd (Sl ν k x):=if h:ν x=some k then one (fun q=>⟨h,q⟩) (tt (zm0 x)) else none
noncomputable def wp1 (ν:Nu):(ks:List Nat)->(l:List (Str×Pos))->Fd (Sls ν ks l)
 | [],[]=>some ⟨.nil⟩
 | k::ks,q::l=>two .cons (sl ν k q.1) (wp1 ν ks l)
 | _,_=>none
noncomputable def ckO {n:Nat}{sc:x9}{ν:Nu}(i:I)(f:∀ e,Fd (Tie i n sc ν (.ex false e))):(o:Option Expr)->Fd (Tie i n sc ν (.opt o))
 | none=>omK i (fun _=>none) (some ⟨Tie.onone⟩)
 | some e=>two Tie.osome (ff (zh8 i)) (f e)
noncomputable def ckI {n:Nat}{sc:x9}{ν:Nu}(i:I)(f:∀ e,Fd (Tie i n sc ν (.ex false e))):(l:List Expr)->Fd (Tie i n sc ν (.ifs l))
 | []=>omK i (fun _=>none) (some ⟨Tie.inone⟩)
 | l=>l1 l (fun _=>none) fun e=>two Tie.ione (ff (zh8 i)) (f e)
noncomputable abbrev CkR:=((i:I)->(n:Nat)->(sc:x9)->(ν:Nu)->(t:Bool)->(e:Expr)->Fd (Tie i n sc ν (.ex t e)))×((i:I)->(n:Nat)->(sc:x9)->(ν:Nu)->(es:List Expr)->Fd (Tie i n sc ν (.exs es))) ×
 ((i:I)->(n:Nat)->(sc:x9)->(ν:Nu)->(s:Stmt)->Fd (Tie i n sc ν (.st s)))×((i:I)->(n:Nat)->(sc:x9)->(ν:Nu)->(l:List Stmt)->Fd (Tie i n sc ν (.sts l)))
noncomputable def ckE (r:CkR):(i:I)->(n:Nat)->(sc:x9)->(ν:Nu)->(t:Bool)->(e:Expr)->Fd (Tie i n sc ν (.ex t e))
 | .cnone,_,_,_,_,e=>gC e (fun _=>none) fun c _ _=>eqK c .none (fun _=>none) (some ⟨Tie.cnone⟩)
 | .cbool b,_,_,_,_,e=>gC e (fun _=>none) fun c _ _=>eqK c (.bool b) (fun _=>none) (some ⟨Tie.cbool⟩)
 | .cint b,_,_,_,_,e=>gC e (fun _=>none) fun c _ _=>eqK c (.int b) (fun _=>none) (some ⟨Tie.cint⟩)
 | .cstr b,_,_,_,_,e=>gC e (fun _=>none) fun c _ _=>eqK c (.str b) (fun _=>none) (some ⟨Tie.cstr⟩)
 | .var k,_,_,ν,_,e=>gN e (fun _=>none) fun x _=>one Tie.var (sl ν k x)
 | .brw k,_,_,ν,_,e=>gN e (fun _=>none) fun x _=>one Tie.brw (sl ν k x)
 | .glob g,_,sc,ν,_,e=>gN e (fun _=>none) fun x _=>eqK x g (fun _=>none) (one Tie.glob (tt (zz5 sc ν g)))
 | .bin op a b,n,sc,ν,_,e=>gB e (fun _=>none) fun l o r2 _=>eqK o op (fun _=>none) (two Tie.bin (r.1 a n sc ν false l) (r.1 b n sc ν false r2))
 | .not a,n,sc,ν,_,e=>gU e (fun _=>none) fun o x _=>eqK o .Not (fun _=>none) (one Tie.not (r.1 a n sc ν false x))
 | .and l,n,sc,ν,_,e=>gO e (fun _=>none) fun o vs _=>eqK o .And (fun _=>none) (one Tie.and (r.2.1 l n sc ν vs))
 | .or l,n,sc,ν,_,e=>gO e (fun _=>none) fun o vs _=>eqK o .Or (fun _=>none) (one Tie.or (r.2.1 l n sc ν vs))
 | .cmp op a b,n,sc,ν,_,e=>gM e (fun _=>none) fun l os rs _=>eqK os [op] (fun _=>none) (l1 rs (fun _=>none) fun r2=>two Tie.cmp (r.1 a n sc ν false l) (r.1 b n sc ν false r2))
 | .cmp2 o1 o2 a b c,n,sc,ν,_,e=>gM e (fun _=>none) fun l os rs _=>eqK os [o1,o2] (fun _=>none) (l2 rs (fun _=>none) fun r1 r2=>yr5 Tie.cmp2 (r.1 a n sc ν false l) (r.1 b n sc ν false r1) (r.1 c n sc ν false r2))
 | .ite c a b,n,sc,ν,_,e=>gI e (fun _=>none) fun q x y _=>yr5 Tie.ite (r.1 c n sc ν false q) (r.1 a n sc ν false x) (r.1 b n sc ν false y)
 | .tup l,n,sc,ν,_,e=>gT e (fun _=>none) fun es _ _=>one Tie.tup (r.2.1 l n sc ν es)
 | .lst l,n,sc,ν,_,e=>gL e (fun _=>none) fun es _=>one Tie.lst (r.2.1 l n sc ν es)
 | .dct0,_,_,_,_,e=>gD e (fun _=>none) fun a b _=>l0 a (fun _=>none) (l0 b (fun _=>none) (some ⟨Tie.dct0⟩))
 | .comp1 elt s cond,n,sc,ν,_,e=>gP e (fun _=>none) fun x gs csc _=>l1 gs (fun _=>none) fun g=>match g with
  | ⟨tg,it,ifs,a⟩=>gN tg (fun _=>none) fun y _=>eqK a 0 (fun _=>none) (two (fun p q=>Tie.comp1 p.1 p.2 q.1 q.2) (two QX (tt (zm6 sc ν [y] csc)) (r.1 s n sc ν true it))
   (two QX (ckI cond (r.1 cond (n+1) csc (zx7 n ν [y] csc) false) ifs) (r.1 elt (n+1) csc (zx7 n ν [y] csc) false x)))
 | .compT m elt s cond,n,sc,ν,_,e=>gP e (fun _=>none) fun x gs csc _=>l1 gs (fun _=>none) fun g=>match g with
  | ⟨tg,it,ifs,a⟩=>gT tg (fun _=>none) fun es _ _=>eqK a 0 (fun _=>none) (nmK es (fun _=>none) fun l=>if hm:(l.map (·.1)).length=m then two (fun p q=>Tie.compT hm p.1 p.2.1 p.2.2 q.1 q.2) (two QX (tt (zm6 sc ν (l.map (·.1)) csc)) (two QX (tt (decide (l.map (·.1)).Nodup&&!(l.map (·.1)).isEmpty)) (r.1 s n sc ν true it)))
   (two QX (ckI cond (r.1 cond (n+(l.map (·.1)).length) csc (zx7 n ν (l.map (·.1)) csc) false) ifs) (r.1 elt (n+(l.map (·.1)).length) csc (zx7 n ν (l.map (·.1)) csc) false x)) else none)
 | .call g l,n,sc,ν,_,e=>gG e (fun _=>none) fun x _ as _=>lc as (fun _=>none) fun e1 es=>eqK x g (fun _=>none) (two Tie.call (tt (zz5 sc ν g)) (r.2.1 l n sc ν (e1::es)))
 | .prim1 p a,n,sc,ν,_,e=>gG e (fun _=>none) fun x _ as _=>l1 as (fun _=>none) fun e1=>eqK x p.name (fun _=>none) (two Tie.prim1 (tt (zz5 sc ν p.name)) (r.1 a n sc ν false e1))
 | .dzip a b,n,sc,ν,_,e=>gG e (fun _=>none) fun x _ as _=>l1 as (fun _=>none) fun e1=>gG e1 (fun _=>none) fun y _ bs _=>l1 bs (fun _=>none) fun e2=>gG e2 (fun _=>none) fun z _ cs _=>l2 cs (fun _=>none) fun ea eb=>eqK x "dict" (fun _=>none) (eqK y "list" (fun _=>none) (eqK z "zip" (fun _=>none) (two (fun u v=>Tie.dzip u.1 u.2.1 u.2.2 v.1 v.2) (two QX (tt (zz5 sc ν "dict")) (two QX (tt (zz5 sc ν "list")) (tt (zz5 sc ν "zip")))) (two QX (r.1 a n sc ν false ea) (r.1 b n sc ν false eb)))))
 | .callB g k l,n,sc,ν,_,e=>gG e (fun _=>none) fun x _ as _=>lc as (fun _=>none) fun e1 es=>gN e1 (fun _=>none) fun y _=>eqK x g (fun _=>none) (yr5 Tie.callB (tt (zz5 sc ν g)) (sl ν k y) (r.2.1 l n sc ν es))
 | .isi a ty,n,sc,ν,_,e=>gG e (fun _=>none) fun x _ as _=>l2 as (fun _=>none) fun e1 e2=>gN e2 (fun _=>none) fun y _=>eqK x "isinstance" (fun _=>none) (eqK y ty (fun _=>none) (yr5 Tie.isi (tt (zz5 sc ν "isinstance")) (r.1 a n sc ν false e1) (tt (zz5 sc ν ty))))
 | .slc a lo hi,n,sc,ν,_,e=>gS e (fun _=>none) fun v s _=>gZ s (fun _=>none) fun l u st _=>noK st (fun _=>none) (yr5 Tie.slc (r.1 a n sc ν false v) (ckO lo (r.1 lo n sc ν false) l) (ckO hi (r.1 hi n sc ν false) u))
 | .idx a i,n,sc,ν,_,e=>gS e (fun _=>none) fun v s _=>two Tie.idx (r.1 a n sc ν false v) (r.1 i n sc ν false s)
 | .pop k,_,_,ν,_,e=>gH e "pop" (fun _=>none) fun x _ _ as _ hl=>l0 as (fun _=>none) (one (Tie.pop hl) (sl ν k x))
 | .rng1 b,n,sc,ν,t,e=>gG e (fun _=>none) fun x _ as _=>l1 as (fun _=>none) fun e1=>eqK t true (fun _=>none) (eqK x "range" (fun _=>none) (two Tie.rng1 (tt (zz5 sc ν "range")) (r.1 b n sc ν false e1)))
 | .rng a b,n,sc,ν,t,e=>gG e (fun _=>none) fun x _ as _=>l2 as (fun _=>none) fun e1 e2=>eqK t true (fun _=>none) (eqK x "range" (fun _=>none) (yr5 Tie.rng (tt (zz5 sc ν "range")) (r.1 a n sc ν false e1) (r.1 b n sc ν false e2)))
 | _,_,_,_,_,_=>none
noncomputable def ckL (r:CkR):(i:I)->(n:Nat)->(sc:x9)->(ν:Nu)->(es:List Expr)->Fd (Tie i n sc ν (.exs es))
 | .nil,_,_,_,es=>l0 es (fun _=>none) (some ⟨Tie.nil⟩)
 | .cons a b,n,sc,ν,es=>lc es (fun _=>none) fun e es=>two Tie.cons (r.1 a n sc ν false e) (r.2.1 b n sc ν es)
 | _,_,_,_,_=>none
noncomputable def ckS (r:CkR):(i:I)->(n:Nat)->(sc:x9)->(ν:Nu)->(s:Stmt)->Fd (Tie i n sc ν (.st s))
 | .pass,_,_,_,s=>sP s (fun _=>none) fun _=>some ⟨Tie.pass⟩
 | .asg k e,n,sc,ν,s=>sA s (fun _=>none) fun ts v _=>l1 ts (fun _=>none) fun t=>gN t (fun _=>none) fun x _=>two Tie.asg (sl ν k x) (r.1 e n sc ν false v)
 | .sto k key e,n,sc,ν,s=>sA s (fun _=>none) fun ts v _=>l1 ts (fun _=>none) fun t=>gS t (fun _=>none) fun a b _=>gN a (fun _=>none) fun x _=>yr5 Tie.sto (sl ν k x) (r.1 key n sc ν false b) (r.1 e n sc ν false v)
 | .app k e,n,sc,ν,s=>sX s (fun _=>none) fun c _=>gH c "append" (fun _=>none) fun x _ _ as _ hl=>l1 as (fun _=>none) fun a=>two (Tie.app hl) (sl ν k x) (r.1 e n sc ν false a)
 | .rem k e,n,sc,ν,s=>sX s (fun _=>none) fun c _=>gH c "remove" (fun _=>none) fun x _ _ as _ hl=>l1 as (fun _=>none) fun a=>two (Tie.rem hl) (sl ν k x) (r.1 e n sc ν false a)
 | .ext k e,n,sc,ν,s=>sX s (fun _=>none) fun c _=>gH c "extend" (fun _=>none) fun x _ _ as _ hl=>l1 as (fun _=>none) fun a=>two (Tie.ext hl) (sl ν k x) (r.1 e n sc ν false a)
 | .exp e,n,sc,ν,s=>sX s (fun _=>none) fun c _=>gF c (fun _=>none) fun f as ks p=>one Tie.exp (r.1 e n sc ν false (.Call f as ks p))
 | .iff c t e,n,sc,ν,s=>sI s (fun _=>none) fun q bt be _=>yr5 Tie.iff (r.1 c n sc ν false q) (r.2.2.2 t n sc ν bt) (r.2.2.2 e n sc ν be)
 | .whl c b,n,sc,ν,s=>sW s (fun _=>none) fun q bd o _=>l0 o (fun _=>none) (two Tie.whl (r.1 c n sc ν false q) (r.2.2.2 b n sc ν bd))
 | .for1 k s b,n,sc,ν,st=>sF st (fun _=>none) fun t it bd o _=>l0 o (fun _=>none) (gN t (fun _=>none) fun x _=>yr5 Tie.for1 (sl ν k x) (r.1 s n sc ν true it) (r.2.2.2 b n sc ν bd))
 | .fors ks (.zip a c) b,n,sc,ν,st=>sF st (fun _=>none) fun t it bd o _=>l0 o (fun _=>none) (gT t (fun _=>none) fun es _ _=>gG it (fun _=>none) fun x _ as _=>l2 as (fun _=>none) fun ea ec=>eqK x "zip" (fun _=>none) (nmK es (fun _=>none) fun l =>
   two (fun u v=>Tie.forsZ u.1 u.2 v.1 v.2.1 v.2.2) (two QX (wp1 ν ks l) (tt (zz5 sc ν "zip"))) (two QX (r.1 a n sc ν false ea) (two QX (r.1 c n sc ν false ec) (r.2.2.2 b n sc ν bd)))))
 | .fors ks s b,n,sc,ν,st=>sF st (fun _=>none) fun t it bd o _=>l0 o (fun _=>none) (gT t (fun _=>none) fun es _ _=>nmK es (fun _=>none) fun l=>yr5 Tie.fors (wp1 ν ks l) (r.1 s n sc ν true it) (r.2.2.2 b n sc ν bd))
 | .retO k,_,_,ν,s=>sR s (fun _=>none) fun v _=>soK v (fun _=>none) fun v=>gN v (fun _=>none) fun x _=>one Tie.retO (sl ν k x)
 | .ret e,n,sc,ν,s=>sR s (fun _=>none) fun v _=>soK v (fun _=>none) fun v=>one Tie.ret (r.1 e n sc ν false v)
 | .rais,n,sc,ν,s=>sZ s (fun _=>none) fun _ _ _=>some ⟨Tie.rais⟩
 | _,_,_,_,_=>none
noncomputable def ckSs (r:CkR):(i:I)->(n:Nat)->(sc:x9)->(ν:Nu)->(l:List Stmt)->Fd (Tie i n sc ν (.sts l))
 | .nil,_,_,_,l=>l0 l (fun _=>none) (some ⟨Tie.snil⟩)
 | .cons a b,n,sc,ν,l=>lc l (fun _=>none) fun e es=>two Tie.scons (r.2.2.1 a n sc ν e) (r.2.2.2 b n sc ν es)
 | _,_,_,_,_=>none
noncomputable def ck:CkR:=Nat.rec (motive:=fun _=>CkR) (fun _ _ _ _ _ _=>none,fun _ _ _ _ _=>none,fun _ _ _ _ _=>none,fun _ _ _ _ _=>none) (fun _ r=>(ckE r,ckL r,ckS r,ckSs r)) 200
noncomputable def zy9 (sc:x9):List Str:=(sc.names.filter fun p=>p.2==.local||p.2==.cell).map (·.1)
noncomputable def fnNu (sc:x9):Nu:=fun x=>(zy9 sc).idxOf? x
inductive TieA (n:Nat)(sc:x9)(ν:Nu):I->List Stmt->Prop
 | cons {a r:I} {e:Stmt} {es:List Stmt} (h0:Tie a n sc ν (.st e)) (h1:TieA n sc ν r es):TieA n sc ν (.cons a r) (e::es)
 | clrs {k kk:Nat} {x y:Str} {r:I} {es:List Stmt} {p1 p2 p3 q1 q2 px py py2 sp ap cp ep fp px5 ap5 cp5 ep5:Pos} (hx:Sl ν k x) (hy:Sl ν kk y) (hgr:zz5 sc ν "range" = true) (hgl:zz5 sc ν "len" = true) (hline:ap.endLine=cp.line) (hline5:ap5.endLine=cp5.line) (h:Tie r n sc ν (.sts es)) :
  TieA n sc ν (.cons (.clrs k kk) r) (.For (.Name y py) (.Call (.Name "range" p1) [.Call (.Name "len" p2) [.Name x p3] [] q2] [] q1) [.Expr (.Call (.Attribute (.Subscript (.Name x px) (.Name y py2) sp) "clear" ap) [] [] cp) ep] [] fp::.Expr (.Call (.Attribute (.Name x px5) "clear" ap5) [] [] cp5) ep5::es)
noncomputable def ckC {n:Nat}{sc:x9}{ν:Nu}(k kk:Nat)(r:I)(f:∀ es,Fd (Tie r n sc ν (.sts es)))(l:List Stmt):Fd (TieA n sc ν (.cons (.clrs k kk) r) l) :=
 lc l (fun _=>none) fun s4 l=>lc l (fun _=>none) fun s5 es=>sF s4 (fun _=>none) fun t it bd o _=>l0 o (fun _=>none) (gN t (fun _=>none) fun y _ =>
  gG it (fun _=>none) fun g1 _ as _=>l1 as (fun _=>none) fun e1=>gG e1 (fun _=>none) fun g2 _ bs _=>l1 bs (fun _=>none) fun e2=>gN e2 (fun _=>none) fun x _ =>
  l1 bd (fun _=>none) fun b=>sX b (fun _=>none) fun c _=>gF c (fun _=>none) fun f0 cs ks cp=>l0 cs (fun _=>none) (l0 ks (fun _=>none) (gA f0 (fun _=>none) fun v m ap=>gS v (fun _=>none) fun v1 v2 _ =>
  gN v1 (fun _=>none) fun x2 _=>gN v2 (fun _=>none) fun y2 _=>sX s5 (fun _=>none) fun c5 _=>gH c5 "clear" (fun _=>none) fun x5 _ _ as5 _ hl5=>l0 as5 (fun _=>none) (
  eqK g1 "range" (fun _=>none) (eqK g2 "len" (fun _=>none) (eqK m "clear" (fun _=>none) (eqK x2 x (fun _=>none) (eqK y2 y (fun _=>none) (eqK x5 x (fun _=>none)
  (if hl:ap.endLine=cp.line then two (fun u v=>TieA.clrs u.1 u.2 v.1 v.2.1 hl hl5 v.2.2) (two QX (sl ν k x) (sl ν kk y)) (two QX (tt (zz5 sc ν "range")) (two QX (tt (zz5 sc ν "len")) (f es))) else none))))))))))
@[elab_as_elim] noncomputable def coK {τ:I->Type}(i:I)(d:∀ e,τ e)(k:∀ a b,τ (.cons a b)):τ i:=match i with
 | .cons a b=>k a b
 | i=>d i
@[elab_as_elim] noncomputable def clK {τ:I->Type}(i:I)(d:∀ e,τ e)(k:∀ a b,τ (.clrs a b)):τ i:=match i with
 | .clrs a b=>k a b
 | i=>d i
noncomputable abbrev CkA:=(i:I)->(n:Nat)->(sc:x9)->(ν:Nu)->(l:List Stmt)->Fd (TieA n sc ν i l)
noncomputable def ckA:CkA:=Nat.rec (motive:=fun _=>CkA) (fun _ _ _ _ _=>none) (fun _ f i n sc ν l=>coK i (fun _=>none) fun a r=>clK a (fun a=>lc l (fun _=>none) fun e es=>two TieA.cons (ck.2.2.1 a n sc ν e) (f r n sc ν es)) fun k kk=>ckC k kk r (ck.2.2.2 r n sc ν) l) 60
@[elab_as_elim] noncomputable def ngK {τ:I->Type}(i:I)(d:∀ e,τ e)(k:τ .ndg):τ i:=match i with
 | .ndg=>k
 | i=>d i
noncomputable def vx2 (i:I)(n:Nat)(sc:x9)(ν:Nu)(body:List Stmt):Fd (∃ b,i=.cons .ndg b/\TieA n sc ν b body):=coK i (fun _=>none) fun a b=>ngK a (fun _=>none) (one (fun h=>⟨b,rfl,h⟩) (ckA b n sc ν body))
noncomputable def wu0 (fn:Fn)(ps:Arguments)(sc:x9)(body:List Stmt):Bool :=
 sc.kind==.function&&!sc.isGenerator&&!sc.isCoroutine&&decide (zy9 sc).Nodup&&(zy9 sc).length==fn.slots &&
 sc.names.all (fun p=>sc.names.lookup p.1==some p.2&&(p.2==.local||p.2==.cell||p.2==.globalImplicit)) &&
 decide ((zy9 sc).take fn.params=ps.args.map (·.arg))&&ps.args.length==fn.params&&ps.posonlyargs.isEmpty&&ps.vararg.isNone&&ps.kwonlyargs.isEmpty&&ps.kwarg.isNone&&ps.defaults.isEmpty &&
 ((ck.2.2.2 fn.body fn.slots sc (fnNu sc) body).isSome||(vx2 fn.body fn.slots sc (fnNu sc) body).isSome)
end Mini
end
section
namespace Snd
open PySem Mini
noncomputable def Fz.nd (F:Fz):Fz:=fun a=>open Classical in if ∃ o,F a=some o/\o.cls=.type "dict" then none else F a
section
variable {F G:Fz}
theorem Fz.nd_keep {a:Addr}{o:Obj}(h:F a=some o)(hc:o.cls≠.type "dict"):F.nd a=some o:=by
 unfold Fz.nd
 rw[if_neg];exact h
 (intro h_1;refine Mini.elEA h_1 fun o' h' hc'=>?_;clear h_1)
 rw[h]at h';cases h';exact hc hc'
set_option tactic.hygienic true in
theorem Fz.nd_some {a:Addr}{o:Obj}(h:F.nd a=some o):F a=some o/\o.cls≠.type "dict" := by
 unfold Fz.nd at h
 split at h
 ·cases h
 ·rename_i hn
  exact⟨h,fun hc=>hn (Mini.iEA o h hc)⟩
theorem Fz.nd_none {a:Addr}(h:F a=none):F.nd a=none:=by
 cases e:F.nd a with
 | none=>rfl
 | some o=>rw[(Fz.nd_some e).1]at h;cases h
theorem Fz.nd_dict {a:Addr}{o:Obj}(h:F a=some o)(hc:o.cls=.type "dict"):F.nd a=none:=by
 unfold Fz.nd;rw[if_pos (Mini.iEA o h hc)]
noncomputable def Fz.NoD (F:Fz):Prop:=∀ a o,F a=some o->o.cls≠.type "dict"
theorem Fz.nd_noD:F.nd.NoD:=fun a o e=>(Fz.nd_some e).2
theorem Fz.le_nd (l:G.le F)(n:G.NoD):G.le F.nd:=fun a o e=>Fz.nd_keep (l a o e) (n a o e)
theorem xd7 {w:wz}:Cut w F F.nd:=⟨fun b o h hc=>Fz.nd_keep h (by rw[hc];exact fun e=>yk8 e (by decide)),fun b o vs n xs h hc _ _ _=>Fz.nd_keep h (by rw[hc];exact fun e=>yk8 e (by decide))⟩
end
section
variable {C:Cx}{X:Addr->Prop}{F G:Fz}{h h':Heap}{P:List Place}{vs:List (Option qz)}{σ:Sg}
theorem St.lose (S:St C X F h P vs σ)(j:Nat):St C X F h P vs (σ.set j none):=by
 have hs:∀ i b,zw6 vs (σ.set j none) i b->zw6 vs σ i b:=by
  rintro i b ⟨h1,d,h2⟩
  refine⟨h1,d,?_⟩
  by_cases hi:i=j
  ·subst hi
   by_cases hl:i<σ.length
   ·rw[wq hl]at h2;cases h2
   ·rw[List.getElem?_eq_none (by rw[uQ];exact z9 hl)]at h2;cases h2
  ·rw[w8 (y7 hi)]at h2;exact h2
 exact { S with
  lenS:=by rw[uQ];exact S.lenS
  slot:=fun i ov av e1 e2=>by
   by_cases hi:i=j
   ·subst hi
    by_cases hl:i<σ.length
    ·rw[wq hl]at e2;cases e2;exact trivial
    ·rw[List.getElem?_eq_none (by rw[uQ];exact z9 hl)]at e2;cases e2
   ·rw[w8 (y7 hi)]at e2;exact S.slot i ov av e1 e2
  own:=fun i b hb=>S.own i b (hs i b hb)
  inj:=fun i j b hi hj=>S.inj i j b (hs i b hi) (hs j b hj) }
theorem St.cutD (S:St C X F h P vs σ)(hn:σ.all ndS=true)(l:G.le F)(n:G.NoD)(low:C.F0.le G)(cov:∀ a o,C.H.get? a=some o->X a\/G a≠none):St C X F.nd h P vs σ :=
 have lg:=Fz.le_nd l n
 { S with
  sub:=fun a o e=>S.sub a o (Fz.nd_some e).1
  low:=Fz.le.trans low lg
  cov:=fun a o e=>(cov a o e).imp id fun q=>by
   cases hq:G a with
   | none=>exact absurd hq q
   | some o'=>rw[lg a o' hq];exact fun x=>nomatch x
  xf:=fun a e=>Fz.nd_none (S.xf a e)
  slot:=fun i ov av e1 e2=>by
   have hnd:=x8.mp hn _ (xZ e2)
   have x:=S.slot i ov av e1 e2
   cases av with
   | none=>exact trivial
   | some av =>
    cases av with
    | val d=>refine elEA (x) fun v q r=>?_;exact⟨v,q,Rep.cut xd7 d hnd r⟩
    | own d =>
     refine zx4 (x) fun a q hf sh=>?_
     refine⟨a,q,Fz.nd_none hf,?_⟩
     cases d with
     | list l=>refine zj6 (sh) fun hz us m h1 r=>?_;exact⟨hz,us,m,h1,RepL.cut xd7 l hnd r⟩
     | dict _=>exact absurd hnd qj
     | _=>exact sh.elim
  cont:=fun p hp=>⟨Fz.nd_none (S.cont p hp).1,(S.cont p hp).2⟩ }
theorem St.poke (S:St C X F h P vs σ){b:Addr}(hb:X b)(hH:C.H.get? b=none)(same:∀ c,c≠b->h'.get? c=h.get? c)(al:∃ o,h'.get? b=some o):St C X F h' P vs σ :=
 { S with
  sub:=fun a o e=>by rw[same a (by rintro rfl;rw[S.xf _ hb]at e;cases e)];exact S.sub a o e
  base:=fun a o e=>by rw[same a (by rintro rfl;rw[hH]at e;cases e)];exact S.base a o e
  xal:=fun a e=>by
   by_cases hab:a=b
   ·subst hab;exact al
   ·rw[same a hab];exact S.xal a e
  has:=fun i p ov e1 e2=>Place.has_keep (S.has i p ov e1 e2) fun o e=>by
   rw[same _ (by intro q;exact(S.cont p (xZ e1)).2 (q▸hb))];exact e
  slot:=fun i ov av e1 e2=>(S.slot i ov av e1 e2).mono (Fz.le_refl F) fun a d q1 q2=>by
   subst q1 q2
   refine zx4 (S.slot i _ _ e1 e2) fun a' e' hf _=>?_
   cases e'
   exact⟨hf,fun o e=>by rw[same a (by rintro rfl;exact(S.own i _ ⟨e1,d,e2⟩).1 hb)];exact e⟩ }
end
theorem yr9 (d:Addr)(es:Array j3)(m:Nat)(hz:es.size<=kW) :
  Meets (Builtin.«dict.clear» ⟨[.ref d],[]⟩) (fun _ R s=>s.heap.get? d=some (dobj es m)/\∀ h',h'.get? d=some (dobj #[] (m+1))->yK d s.heap h'->R (.ok (.ret .none)) { s with heap:=h' }) :=
 .of_wp fun prog w A R s ⟨ho,h⟩=>by
  have hT:s.TypeIs (.ref d) "dict" := ⟨_,ho,rfl⟩
  unfold Builtin.«dict.clear»
  refine qq ?_
  unfold Builtin.Dict.noArgs
  refine qq (wpAny_notOrdered_dict hT ?_)
  show qK _ _ (pure d) _ _ s
  refine qX ?_
  refine qq (wpAny_dictEntries ho rfl ?_)
  refine qq ?_
  unfold bearsInstanceDictMark
  refine qq (wpAny_load ho (qX ?_))
  refine qq (wpAny_updateDictKeys (hz:=hz) ho rfl ?_)
  have hnew:(s.heap.update d (Obj.mapDictKeys fun _=>#[])).get? d=some (dobj #[] (m+1)):=jX _ ho rfl
  split
  ·exact qq (wpAny_letGo (qX (Mini.iEA (.none) rfl (h _ hnew (Qq ..)))))
  ·exact qq (qX (qX ⟨.none,rfl,h _ hnew (Qq ..)⟩))
structure Held (Y:Addr->Prop)(a:Addr)(ws:Array qz)(c:Nat)(h:Heap):Prop where
 ya:Y a
 lst:h.get? a=some (lobj ws c)
 dct:∀(j:Nat)(v:qz),ws[j]?=some v->∃ b es m,v=.ref b/\Y b/\h.get? b=some (dobj es m)/\es.size<=kW
theorem Held.keep {Y:Addr->Prop}{a:Addr}{ws:Array qz}{c:Nat}{h h':Heap}(H:Held Y a ws c h)(k:XSame Y h h'):Held Y a ws c h' :=
 ⟨H.ya,by rw[k _ H.ya];exact H.lst,fun j v e=>let ⟨b,es,m,q1,q2,q3,q4⟩:=H.dct j v e; ⟨b,es,m,q1,q2,by rw[k _ q2];exact q3,q4⟩⟩
theorem Held.poke {Y:Addr->Prop}{a b:Addr}{ws:Array qz}{c m:Nat}{h h':Heap}(H:Held Y a ws c h)(hb:h'.get? b=some (dobj #[] m))(same:∀ c,c≠b->h'.get? c=h.get? c)(hab:a≠b):Held Y a ws c h' :=
 ⟨H.ya,by rw[same _ hab];exact H.lst,fun j v e=>by
  refine zd8 (H.dct j v e) fun b' es m' q1 q2 q3 q4=>?_
  by_cases hbb:b'=b
  ·subst hbb;exact Mini.iEEEAAA b' _ _ q1 q2 hb (vq _)
  ·exact(Mini.iEEEAAA b' es m' q1 q2 (by rw[same _ hbb];exact q3) q4)⟩
section
variable {C:Cx}{Γ:Mini.Env}{N:Nat}{n:Nat}{sc:x9}{ν:Nu}{env:xy}{P:List Place}{vs:List (Option qz)}{σ:Sg}{X Y:Addr->Prop}{F:Fz}{s:qw}{A:zJ}{E:qz->qw->Prop}
theorem we4 {h:Heap}{a b:Addr}{o p:Obj}(ha:h.get? a=some o)(hb:h.get? b=some p)(hn:o.cls≠p.cls):a≠b:=by
 rintro rfl;rw[ha]at hb;cases hb;exact hn rfl
theorem wv9 (K:Cn Γ N env sc ν P n A)(S:St C X F s.heap P vs σ){k kk:Nat}{x y:Str}(hx:Sl ν k x)(hy:Sl ν kk y){a:Addr}{i:Nat}{t:Tok}{ws:Array qz}{c:Nat}(H:Held Y a ws c s.heap)(hz:ws.size<=size)(hi:i<ws.size)
  (hva:vs[k]?=some (some (.ref a))) (hvi:vs[kk]?=some (some (.int i t))) (hYX:∀ b,Y b->X b/\C.H.get? b=none) {px py sp ap cp ep:Pos} (hline:ap.endLine=cp.line) {Q:Flow->qw->Prop}
  (hQ:∀ h' tk,St C X F h' P vs σ->Held Y a ws c h'->(∀ b,¬ Y b->h'.get? b=s.heap.get? b)->Q .next { s with heap:=h',toks:=tk }) :
  qK (zx C.prog C.w) A (exec (.Expr (.Call (.Attribute (.Subscript (.Name x px) (.Name y py) sp) "clear" ap) [] [] cp) ep) env) Q E s:=by
 refine zd8 (H.dct i _ (zk hi)) fun b es m e1 hb hbo hes=>?_
 refine wpAny_Expr ?_ (zr6 K.O) (by rfl)
 refine wpAny_Call_method (T := "dict") (id := "dict.clear") rfl (by rfl) (by simpa using hline) PySem.F.plainAttrs_dict PySem.F.slot_dict_clear PySem.F.type_dict_clear ?_
 refine PyProof.Rows.Subscript_ (zv9 K.O S hx.at' hva hx.ok (zv9 K.O S hy.at' hvi hy.ok ?_))
 refine uZ ⟨_,H.lst,rfl⟩ PySem.F.slot_list_getitem.lookup ?_ (by rfl)
 refine wpAny_getItem_list ⟨_,H.lst,rfl,_,rfl⟩ (Q8 _) (Int.lt_trans (u6.mpr (vZ hi hz)) yn3) (by rw[jz];exact zk hi) ?_
 rw[e1]
 refine Mini.iAA ⟨_,hbo,rfl⟩ (fun b' hb'=>Mini.iEA _ (by cases hb';exact hbo) rfl) ?_
 refine seqMethod0_meets PySem.F.slot_dict_clear PySem.F.entry_dict_clear ⟨_,hbo,rfl⟩ (PySem.F.args_dict_clear_1 _) (yr9 b es m hes) ⟨hbo,fun h' hb' hs'=>?_⟩
 have hq:=hYX b hb
 exact hQ h' _ (S.poke hq.1 hq.2 hs'.2 ⟨_,hb'⟩) (H.poke hb' hs'.2 (we4 H.lst hbo (fun e=>yk8 e (by decide)))) fun b2 hb2=>hs'.2 b2 (by intro e;exact hb2 (e▸hb))
inductive ClrInv (C:Cx)(X Y W:Addr->Prop)(T:Nat->Heap->Prop)(P:List Place)(F:Fz)(s:qw)(σ:Sg)(k:Nat)(a:Addr)(ws:Array qz)(c:Nat)(m:Nat)(s':qw):Prop
 | mk (F':Fz) (i:Nat) (vs':List (Option qz)) (em:m=ws.size+1 - i) (hi:i<=ws.size) (es:∃ h' tk,s'={ s with heap:=h',toks:=tk }) (le:F.le F') (same:XSame X s.heap s'.heap)
  (S:St C (Or' (Or' X Y) W) F' s'.heap P vs' σ) (t:T i s'.heap) (hv:vs'[k]?=some (some (.ref a))) (H:Held Y a ws c s'.heap)
theorem wz2 {σ:Sg}{k:Nat}{d:D}{f:Bool}:(put (σ.set k none) k d f).set k none=σ.set k none:=by
 unfold put;rw[List.set_set,List.set_set]
theorem wv8 (K:Cn Γ N env sc ν P n A)(hf:∀ x,env.kindOf x≠some .free){F3:Fz}{k kk:Nat}{x y:Str}(hx:Sl ν k x)(hy:Sl ν kk y)(hkk:k≠kk){a J:Addr}{ws:Array qz}{c:Nat}{W:Addr->Prop}{T:Nat->Heap->Prop}{ds:List D}(hds:ds.length=ws.size)(hdi:∀ i,i<ws.size->ds[i]?=some (.int i))(hz:ws.size<=size)
  (hW:WalkG (fun _=>True) C.prog C.w A F3 J W ds T) (ht:T 0 s.heap) (hnob:∀ b,W b->Nob C (Or' X Y) F3 P vs (σ.set kk none) b) (S:St C (Or' X Y) F3 s.heap P vs (σ.set kk none)) (hv:vs[k]?=some (some (.ref a))) (H:Held Y a ws c s.heap) (hY:∀ b,Y b->¬ X b/\C.H.get? b=none)
  {px py py2 sp ap cp ep:Pos} (hline:ap.endLine=cp.line) {R:Result->qw->Prop}
  (hQ:∀ vs' F' h' tk,F3.le F'->St C (Or' X Y) F' h' P vs' (σ.set kk none)->XSame X s.heap h'->vs'[k]?=some (some (.ref a))->Held Y a ws c h'->R (.ok .next) { s with heap:=h',toks:=tk }) :
  codeAny (zx C.prog C.w) A (.forLoop (.Name y py) (.ref J) [.Expr (.Call (.Attribute (.Subscript (.Name x px) (.Name y py2) sp) "clear" ap) [] [] cp) ep] [] env) R s:=by
 have hW':∀ b,W b->¬ (Or' X Y) b/\C.H.get? b=none:=fun b hb=>⟨(hnob b hb).x,(hnob b hb).h⟩
 have S2:St C (Or' (Or' X Y) W) F3 s.heap P vs (σ.set kk none):=S.protect fun b hb=>⟨hnob b hb,hW.alive 0 _ b ht hb⟩
 obtain ⟨Inv,hI⟩:∃ Inv,Inv=ClrInv C X Y W T P F3 s (σ.set kk none) k a ws c:=⟨_,rfl⟩
 refine yo3 Inv ?_ (ws.size+1) (hI▸⟨F3,0,vs,rfl,vq _,Mini.iEE s.heap s.toks rfl,Fz.le_refl _,XSame.refl,S2,ht,hv,H⟩)
 intro E m s' hI'
 obtain ⟨F',i,vs',rfl,hi,⟨hh,tk,hs'⟩,le,same,S',t,hv',H'⟩:=hI▸hI'
 clear hI'
 have hcov:∀ a o,C.H.get? a=some o->(Or' X Y) a\/F' a≠none:=zn0 le S.cov
 by_cases hlt:i<ws.size
 ·refine yx8 (W':=W) hW trivial (fun a ha=>ha) hW' le hcov S' t (hdi i hlt) fun v s₀ q=>?_
  obtain ⟨F2,h',tk',rfl,t',le2,S3,same0,rv,keep⟩:=q
  have rv':=rv
  simp only[zq2]at rv'
  obtain ⟨u,rfl⟩:=rv'
  refine ZQ (zs5 K.O S3 hy.at' (d:=.int i) (f:=false) rv (hf y) fun h₂ tk₂ S4 same4=>?_)
  have hlen:kk<vs'.length:=by
   have:=K.O.slot y kk hy.at'
   rw[<- S3.lenP]
   rcases this with ⟨_,q⟩|⟨_,_,_,q⟩<;>exact(qV.mp q).1
  have H2:Held Y a ws c h₂:=(H'.keep fun b hb=>same0 b (.inr hb)).keep fun b hb=>same4 b (.inl (.inr hb))
  refine wpAny_execs_cons (wv9 (Y:=Y) K S4 hx hy H2 hz hlt (by rw[w8 (y7 hkk)];exact hv') (by rw[wq hlen]) (fun b hb=>⟨.inl (.inr hb),(hY b hb).2⟩) hline fun h₃ tk₃ S5 H3 same5=>?_)
  have le':=Fz.le.trans le le2
  have S6:=S5.lose kk
  rw[wz2]at S6
  have t2:T (i+1) h₂:=hW.frame _ _ _ t' (fun a o e=>S3.sub a o (le' a o e)) (fun a o ha e=>by rw[same4 a (.inr ha)];exact e) fun a o e=>S4.sub a o (le' a o e)
  have t3:T (i+1) h₃:=hW.frame _ _ _ t2 (fun a o e=>S4.sub a o (le' a o e)) (fun b o hb e=>by rw[same5 b (fun hy=>(hW' b hb).1 (.inr hy))];exact e) fun a o e=>S6.sub a o (le' a o e)
  have same6:XSame X s.heap h₃:=XSame.trans (XSame.trans (XSame.trans same fun b hb=>same0 b (.inl hb)) fun b hb=>same4 b (.inl (.inl hb))) fun b hb=>same5 b (fun hy=>(hY b hy).1 hb)
  refine wpAny_execs_nil ?_
  exact show ∃ m,m<ws.size+1 - i/\_ from Mini.iEA (ws.size+1 - (i+1)) (Nat.sub_lt_sub_left (Zv hlt) (ky i)) (hI▸⟨F2,i+1,_,rfl,hlt,Mini.iEE h₃ tk₃ (by rw[hs']),le',same6,S6,t3,by rw[w8 (y7 hkk)];exact hv',H3⟩)
 ·have hin:i=ds.length:=by rw[hds];exact jy hi (z9 hlt)
  subst hin
  refine yx9 hW t fun h' tk' keep=>?_
  have S1:=S'.release hcov
  refine wpAny_execs_nil ?_
  have sm:XSame (Or' X Y) s'.heap h':=fun b e=>(S1.xal b e).elim fun o ho=>(keep b o (fun hw=>(hW' b hw).1 e) ho).trans ho.symm
  have:=hQ vs' F' h' tk' le (S1.change keep fun b hb=>Nob.back S' hb (hW' b hb).1 (hW' b hb).2) (XSame.trans same fun b hb=>sm b (.inl hb)) hv' (H'.keep fun b hb=>sm b (.inr hb))
  rw[hs'];exact this
theorem RepL.at {w:wz}{F:Fz}{ds:List D}{ws:List qz}(r:RepL w F ds ws){j:Nat}{v:qz}(h:ws[j]?=some v):∃ d,ds[j]?=some d/\Rep w F d v:=by
 have hl:=r.length
 have hj:j<ds.length:=by rw[<- hl];exact(qV.mp h).1
 refine elEA (r.get (qJ hj)) fun v' e q=>?_
 rw[h]at e;cases e
 exact Mini.iEA _ (qJ hj) q
theorem wi7 (G:Ground C Γ N)(K:Cn Γ N env sc ν P n A)(hf:∀ x,env.kindOf x≠some .free)(S:St C X F s.heap P vs σ){k kk:Nat}{x y:Str}(hx:Sl ν k x)(hy:Sl ν kk y){σ':Sg}(hcl:clrS σ k kk=some σ'){G0:Fz}(l:G0.le F)(nG:G0.NoD)(low:C.F0.le G0)
  (cov:∀ a o,C.H.get? a=some o->X a\/G0 a≠none) (hgr:zz5 sc ν "range" = true) (hgl:zz5 sc ν "len" = true) {p1 p2 p3 q1 q2 px py py2 sp ap cp ep fp px5 ap5 cp5 ep5:Pos} (hline:ap.endLine=cp.line) (hline5:ap5.endLine=cp5.line) {rest:List Stmt} {Q:Flow->qw->Prop}
  (hQ:∀ vs' F' h' tk,G0.le F'->St C X F' h' P vs' σ'->XSame X s.heap h'->qK (zx C.prog C.w) A (execs rest env) Q E { s with heap:=h',toks:=tk }) :
  qK (zx C.prog C.w) A (execs (.For (.Name y py) (.Call (.Name "range" p1) [.Call (.Name "len" p2) [.Name x p3] [] q2] [] q1) [.Expr (.Call (.Attribute (.Subscript (.Name x px) (.Name y py2) sp) "clear" ap) [] [] cp) ep] [] fp::.Expr (.Call (.Attribute (.Name x px5) "clear" ap5) [] [] cp5) ep5::rest) env) Q E s:=by
 refine bK1 hcl fun xs hl hcl=>?_
 obtain ⟨hc,hcl⟩:=ifS hcl
 have hc:=zq.mp hc
 have hc1:=zq.mp hc.1
 have hkk:k≠kk:=by simpa using hc.2
 obtain rfl:=hcl
 have hs:=zq0 hl
 have hzl:xs.length<=size:=by obtain ⟨_,_,_,r,_,_⟩:=S.own_at hs;exact r.1
 have hpe:PE C Γ N (.prim1 .len (.brw k)) n sc ν (.Call (.Name "len" p2) [.Name x p3] [] q2):=PE.prim1 (q:=.len) G hgl (PO.brw hx) (fun _ _ _ _ _ _=>rfl)
 refine wpAny_execs_cons (wpAny_For ?_ (fun _=>rfl))
 refine j4 (zr7 (v:=.type "range") G K.O S hgr (by decide) ?_)
 have hev:ev Γ (.prim1 .len (.brw k)) σ=some (.int xs.length,false,σ):=by
  have:look σ k=some (.list xs):=by unfold look;rw[hs]
  rw[ys1]
  refine(?_:((((look σ k).bind fun _=>some (Opnd.slot k,σ)).bind fun p=>(res p.1 p.2).bind fun d=>some (d,p.2)).bind _)=_)
  rw[this]
  refine(?_:(((look σ k).bind fun d=>some (d,σ)).bind _)=_)
  rw[this];rfl
 refine wx (w4 (wpM (PE.frozen hpe K S hev) (fun v s₁ q=>vW ?_)) (by rfl)) (by rfl) rfl
 obtain ⟨F1,st,r⟩:=q
 refine Top.intK (h:=s₁.heap) (.inl r) fun t=>call_range_1 ?_
 have st2:=Step.grow (tk:=s₁.toks+1+1) st.st (h':=s₁.heap.push { cls:=.type "range", data:=.fields #[.int 0 s₁.toks,.int xs.length t,.int 1 (s₁.toks+1)] }) fun b o e=>qQ _ e
 have st3:=st.trans st2
 obtain ⟨a,hva,hfa,⟨hz,ws,c,hlst,hr⟩,hHa,hXa⟩:=st3.st.own_at hs
 have e1:ws.size=xs.length:=by have:=hr.length;rwa [ww]at this
 have lF:F.le F1:=st3.le
 have l1:G0.le F1:=Fz.le.trans l lF
 have hd:∀(j:Nat)(v:qz),ws[j]?=some v->∃ b es m,v=.ref b/\F1 b=some (dobj es m)/\es.size<=kW:=fun j v e=>by
  refine elEA (RepL.at hr (xK.trans e)) fun d hj rd=>?_
  obtain ⟨kvs,rfl⟩:=yg5 (x8.mp hc1.1 d (xZ hj))
  simp only[zl8]at rd
  obtain ⟨⟨q1,_⟩,b,es,m,rfl,hF,rk,_⟩:=rd
  have:=rk.length
  rw[ww]at this
  exact Mini.iEEEAA b es m rfl hF (by rw[zn3,this];exact q1)
 obtain ⟨Y,hYd⟩:∃ Y:Addr->Prop,Y=fun b=>b=a\/∃ es m,F1 b=some (dobj es m):=⟨_,rfl⟩
 have hYa:Y a:=by rw[hYd];exact .inl rfl
 have hYb:∀ b es m,F1 b=some (dobj es m)->Y b:=fun b es m e=>by rw[hYd];exact .inr (Mini.iEE es m e)
 have S0:St C X F1.nd _ P vs (σ.set k none):=(st3.st.lose k).cutD hc1.2 l1 nG low cov
 have hYn:∀ b,Y b->Nob C X F1.nd P vs (σ.set k none) b/\∃ o,(s₁.heap.push { cls:=.type "range", data:=.fields #[.int 0 s₁.toks,.int xs.length t,.int 1 (s₁.toks+1)] }).get? b=some o:=fun b hb=>by
  rw[hYd]at hb
  rcases hb with rfl|⟨es,m,hF⟩
  ·refine⟨⟨Fz.nd_none hfa,hXa,(st3.st.own k b ⟨hva,_,hs⟩).2,fun j ho=>?_,hHa⟩,⟨_,hlst⟩⟩
   refine elAE (ho) fun h1 d h2=>?_
   by_cases hj:j=k
   ·subst hj
    rw[wq (qV.mp hs).1]at h2;cases h2
   ·rw[w8 (y7 hj)]at h2
    exact hj (st3.st.inj j k b ⟨h1,d,h2⟩ ⟨hva,_,hs⟩)
  ·have hX:¬ X b:=fun q=>by rw[st3.st.xf b q]at hF;cases hF
   refine⟨⟨Fz.nd_dict hF rfl,hX,fun p hp e=>?_,fun j ho=>?_,?_⟩,⟨_,st3.st.sub _ _ hF⟩⟩
   ·rw[e,(st3.st.cont p hp).1]at hF;cases hF
   ·refine elAE (ho) fun h1 d h2=>?_
    have h2':σ[j]?=some (some (.own d)):=by
     by_cases hj:j=k
     ·subst hj
      rw[wq (qV.mp hs).1]at h2;cases h2
     ·rw[w8 (y7 hj)]at h2;exact h2
    rw[(st3.st.own_free ⟨h1,d,h2'⟩).1]at hF;cases hF
   ·cases e:C.H.get? b with
    | none=>rfl
    | some o =>
     rcases cov b o e with q|q
     ·exact absurd q hX
     ·cases hq:G0 b with
      | none=>exact absurd hq q
      | some o' =>
       have:=l1 b o' hq
       rw[hF]at this
       exact absurd (congrArg Obj.cls (xv this)).symm (nG b o' hq)
 have S2:St C (Or' X Y) F1.nd _ P vs ((σ.set k none).set kk none):=(S0.protect hYn).lose kk
 have H0:Held Y a ws c (s₁.heap.push { cls:=.type "range", data:=.fields #[.int 0 s₁.toks,.int xs.length t,.int 1 (s₁.toks+1)] }) :=
  ⟨hYa,hlst,fun j v e=>let ⟨b,es,m,q1,q2,q3⟩:=hd j v e; ⟨b,es,m,q1,hYb b es m q2,st3.st.sub _ _ q2,q3⟩⟩
 have hsm:zy8 (xs.length:Int)=true:=by unfold zy8;exact decide_eq_true (z8 hzl (by unfold size;decide))
 refine wpM (zb5 (s:={ s₁ with heap:=s₁.heap.push { cls:=.type "range", data:=.fields #[.int 0 s₁.toks,.int xs.length t,.int 1 (s₁.toks+1)] },toks:=s₁.toks+1+1 }) K.R S2 (IsRange.new ..) (by decide) hsm (by simpa using hzl)) (fun it s₂ q=>?_)
 obtain ⟨F4,J,W,T,rfl,st4,hW,ht,hzd,hnob⟩:=q
 have k4:XSame (Or' X Y) _ s₂.heap:=st4.same
 refine wv8 (s:=s₂) K hf hx hy hkk (ds:=zu7 0 xs.length) (by simp[zu7,e1]) (fun i hi=>by simp[zu7,<- e1,hi]) (by rw[e1];exact hzl) hW ht hnob st4.st hva (H0.keep fun b hb=>k4 b (.inr hb)) (fun b hb=>⟨(hYn b hb).1.x,(hYn b hb).1.h⟩) hline fun vs' F5 h5 tk5 le5 S5 same5 hv5 H5=>?_
 refine wpAny_execs_cons ?_
 refine wpAny_Expr ?_ (zr6 K.O) (by rfl)
 refine wpAny_Call_method (T := "list") (id := "list.clear") rfl (by rfl) (by simpa using hline5) PySem.F.plainAttrs_list PySem.F.slot_list_clear PySem.F.type_list_clear (zv9 K.O S5 hx.at' hv5 hx.ok ?_)
 refine Mini.iAA ⟨_,H5.lst,rfl⟩ (fun b hb=>Mini.iEA _ (by cases hb;exact H5.lst) rfl) ?_
 refine PySem.P.clear_list (n:=c) H5.lst ?_ (by rw[zn3,e1];exact hzl)
 have hna:=hYn a hYa
 have hsb:∀ b,b≠a->(h5.update a (wW fun _=>#[])).get? b=h5.get? b:=fun b hb=>jw _ _ (y7 hb)
 have S6:=(S5.poke (h':=h5.update a (wW fun _=>#[])) (.inr hYa) hHa hsb ⟨_,jX _ H5.lst rfl⟩)
 have lg:G0.le F5:=Fz.le.trans (Fz.le_nd l1 nG) (Fz.le.trans st4.le le5)
 have S7:St C X F5 _ P vs' _:=S6.release (zn0 lg cov)
 have sx:XSame X s.heap (h5.update a (wW fun _=>#[])):=XSame.trans (XSame.trans (XSame.trans st3.same fun b hb=>k4 b (.inl hb)) same5) fun b hb=>hsb b (by rintro rfl;exact hXa hb)
 refine elEE (st.eq) fun h3 t3 e3=>?_
 refine elEE (st4.eq) fun h4 t4 e4=>?_
 have:=hQ vs' F5 _ tk5 lg S7 sx
 rw[e4,e3]
 exact this
theorem TieA.ok (G:Ground C Γ N)(dw:zk0 C.w)(ds:yr3 C.w){i:I}{body:List Stmt}(h:TieA n sc ν i body):∀{vs:List (Option qz)}{σ:Sg}{F:Fz}{s:qw}{o:Out}{G0:Fz}{s0:qw},Cn Γ N env sc ν P n A->(∀ x,env.kindOf x≠some .free)->Step C X P vs G0 s0 σ F s->G0.NoD->C.F0.le G0 ->
  (∀ a o,C.H.get? a=some o->X a\/G0 a≠none)->ex Γ i σ=some o->qK (zx C.prog C.w) A (execs body env) (PostS C X P G0 s0 o) E s:=by
 induction h with
 | cons h0 _ ih =>
  intro vs σ F s o G0 s0 K hf st nG low cov hv
  refine bK1 (hv) fun o1 h1 hv=>?_
  have ha:PS C Γ N _ n sc ν _:=h0.gt G dw ds
  refine wpAny_execs_cons (wpM (ha K hf st.st h1) (fun fl s₁ q=>?_))
  cases o1 with
  | next σ1 =>
   obtain ⟨rfl,vs',F1,st1⟩:=q
   exact ih K hf (st.trans' st1) nG low cov hv
  | ret d f =>
   cases hv
   obtain ⟨v,rfl,vs',σ',F',st',r'⟩:=q
   exact⟨v,rfl,vs',σ',F',st.trans' st',r'⟩
 | clrs hx hy hgr hgl hline hline5 h =>
  intro vs σ F s o G0 s0 K hf st nG low cov hv
  refine bK1 (hv) fun o1 h1 hv=>?_
  refine bK1 (h1) fun σ' hcl h1=>?_
  cases h1
  refine wi7 G K hf st.st hx hy hcl st.le nG low cov hgr hgl hline hline5 fun vs' F' h' tk lg S' same=>?_
  have hb:PX C Γ N _ n sc ν _:=h.gt G dw ds
  refine elEE (st.eq) fun h1 t1 e1=>?_
  have st':Step C X P vs' G0 s0 σ' F' { s with heap:=h',toks:=tk }:=⟨Mini.iEE h' tk (by rw[e1]),lg,S',XSame.trans st.same same⟩
  exact wpM (hb K hf S' hv) (fun fl s₂ q=>q.trans st')
noncomputable def Xr (X:Addr->Prop)(F:Fz):Addr->Prop:=fun b=>X b\/∃ o,F b=some o/\o.cls=.type "dict"
theorem St.thaw (S:St C X F s.heap [] [] [])(n0:C.F0.NoD):St C (Xr X F) F.nd s.heap [] [] []/\∀ a o,C.H.get? a=some o->Xr X F a\/F.nd a≠none:=by
 have hc:∀ a o,C.H.get? a=some o->Xr X F a\/F.nd a≠none:=fun a o e=>by
  rcases S.cov a o e with q|q
  ·exact .inl (.inl q)
  ·cases hq:F a with
   | none=>exact absurd hq q
   | some o' =>
    by_cases hd:o'.cls=.type "dict"
    ·exact .inl (.inr (Mini.iEA o' hq hd))
    ·exact .inr (by rw[Fz.nd_keep hq hd];exact fun x=>nomatch x)
 refine⟨?_,hc⟩
 exact {
  sub:=fun a o e=>S.sub a o (Fz.nd_some e).1
  low:=Fz.le_nd S.low n0
  base:=S.base
  cov:=hc
  xf:=fun a e=>e.elim (fun q=>Fz.nd_none (S.xf a q)) fun ⟨o,q1,q2⟩=>Fz.nd_dict q1 q2
  xal:=fun a e=>e.elim (S.xal a) fun ⟨o,q1,_⟩=>⟨o,S.sub a o q1⟩
  lenP:=rfl
  lenS:=rfl
  has:=S.has
  slot:=fun i ov av e1 _=>by simp at e1
  nodup:=kJ
  cont:=fun p hp=>nomatch hp
  own:=fun k a ho=>by simp[zw6]at ho
  inj:=fun i j a ho _=>by simp[zw6]at ho }
theorem Post.thaw {s':qw}{d:D}{f:Bool}{v:qz}(S:St C X F s.heap [] [] [])(q:Post C (Xr X F) [] [] F.nd s [] d f v s'):Post C X [] [] F s [] d f v s':=by
 obtain ⟨F',st,r⟩:=q
 obtain ⟨J,hJ⟩:∃ J:Fz,J=fun a=>match F a with|some o=>some o|none=>F' a:=⟨_,rfl⟩
 have j1:∀{a o},F a=some o->J a=some o:=fun e=>by rw[hJ];simp only[e]
 have j2:∀{a},F a=none->J a=F' a:=fun e=>by rw[hJ];simp only[e]
 have lF:F.le J:=fun a o e=>j1 e
 have lF':F'.le J:=fun a o e=>by
  cases hq:F a with
  | none=>rw[j2 hq];exact e
  | some o' =>
   rw[j1 hq]
   by_cases hd:o'.cls=.type "dict"
   ·rw[st.st.xf a (.inr (Mini.iEA o' hq hd))]at e;cases e
   ·rw[st.le a o' (Fz.nd_keep hq hd)]at e;exact e
 have hin:J.In s'.heap:=fun a o e=>by
  cases hq:F a with
  | none=>rw[j2 hq]at e;exact st.st.sub a o e
  | some o' =>
   rw[j1 hq]at e;cases e
   by_cases hd:o.cls=.type "dict"
   ·rw[st.same a (.inr (Mini.iEA o hq hd))];exact S.sub a o hq
   ·exact st.st.sub a o (st.le a o (Fz.nd_keep hq hd))
 have jn:∀{a},F a=none->F' a=none->J a=none:=fun e e'=>(j2 e).trans e'
 refine⟨J,⟨st.eq,lF,?_,fun a e=>st.same a (.inl e)⟩,?_⟩
 ·exact {
   sub:=hin
   low:=Fz.le.trans S.low lF
   base:=st.st.base
   cov:=zn0 lF S.cov
   xf:=fun a e=>jn (S.xf a e) (st.st.xf a (.inl e))
   xal:=fun a e=>st.st.xal a (.inl e)
   lenP:=rfl
   lenS:=rfl
   has:=st.st.has
   slot:=fun i ov av e1 _=>by simp at e1
   nodup:=kJ
   cont:=fun p hp=>nomatch hp
   own:=fun k a ho=>by simp[zw6]at ho
   inj:=fun i j a ho _=>by simp[zw6]at ho }
 ·cases f with
  | false=>exact Rep.mono lF' _ r
  | true =>
   refine zr8 (r) fun a q1 q2 q3 q4 q5 q6=>?_
   refine⟨a,q1,?_,fun e=>q3 (.inl e),q4,q5,q6.mono lF' fun o e=>e⟩
   refine jn ?_ q2
   cases hq:F a with
   | none=>rfl
   | some o =>
    by_cases hd:o.cls=.type "dict"
    ·exact absurd (.inr (Mini.iEA o hq hd)) q3
    ·rw[st.le a o (Fz.nd_keep hq hd)]at q2;cases q2
end
theorem yu8 {n m:Str}{v:qz}{z:List (Str×qz)}(h:m≠n):QZ m ((n,v)::z)=QZ m z:=by
 rw[j8]
 have:(m==n)=false:=by simpa using h
 rw[this]
theorem zd3:∀(names:List Str)(vals:List qz),names.Nodup->names.length=vals.length->names.filterMap (fun n=>(QZ n (names.zip vals)).map (n,·))=names.zip vals
 | [],[],_,_=>rfl
 | n::ns,v::vs,hn,hl=>by
  rw[vQ]at hn
  rw[k6,List.filterMap_cons]
  rw[j8]
  simp only[beq_self_eq_true,Option.map_some]
  congr 1
  have ih:=zd3 ns vs hn.2 (by simpa using hl)
  have gen:∀ l:List Str,(∀ m∈l,m≠n)->l.filterMap (fun m=>(QZ m ((n,v)::ns.zip vs)).map (m,·))=l.filterMap (fun m=>(QZ m (ns.zip vs)).map (m,·)):=by
   intro l
   induction l with
   | nil=>intro _;rfl
   | cons a r ihr =>
    intro h
    rw[List.filterMap_cons,List.filterMap_cons,yu8 (h a y8),ihr fun m hm=>h m (xJ _ hm)]
  rw[gen ns fun m hm=>by rintro rfl;exact hn.1 hm]
  exact ih
 | [],_::_,_,h=>by simp at h
 | _::_,[],_,h=>by simp at h
set_option tactic.hygienic true in
theorem zj0:∀(names:List Str)(vals:List qz),names.length=vals.length->∀ n∈names,(QZ n (names.zip vals)).isNone=false
 | [],_,_,n,hm=>by simp at hm
 | m::ns,v::vs,hl,n,hm=>by
  rw[k6,j8]
  split
  ·rfl
  ·rename_i hb
   rcases zQ.mp hm with rfl|hm
   ·simp at hb
   ·exact zj0 ns vs (by simpa using hl) n hm
 | _::_,[],h,_,_=>by simp at h
theorem yq0 {name:Str}{params:Arguments}{body:List Stmt}{scope:x9}{pm cd doc:qz}{vals:List qz}(h1:params.posonlyargs=[])(h2:params.vararg=none)(h3:params.kwonlyargs=[])(h4:params.kwarg=none)
  (hn:(params.args.map (·.arg)).Nodup) (hl:params.args.length=vals.length):bindArgs (Calls.docDef name params body scope pm cd doc) ⟨vals,[]⟩=pure ((params.args.map (·.arg)).zip vals):=by
 obtain ⟨po,ar,va,ko,kd,kw,df⟩:=params
 dsimp only at h1 h2 h3 h4 hn hl |-
 subst h1 h2 h3 h4
 have hlen:(ar.map (·.arg)).length=vals.length:=by simpa using hl
 have hmiss:((ar.map (·.arg)).take (ar.map (·.arg)).length).filter (fun n=>(QZ n ((ar.map (·.arg)).zip vals)).isNone)=[]:=by
  rw[List.take_length]
  exact List.filter_eq_nil_iff.mpr fun n hm=>by rw[zj0 _ _ hlen n hm];simp
 have hz:=zd3 _ _ hn hlen
 refine Eq.trans (b:=if (decide (vals.length > (ar.map (·.arg)).length)&&true)=true then _ else _) (Eq.refl _) ?_
 refine(if_neg (by simp;lia)).trans ?_
 have hdn:List.drop (([]:List qz).length - (ar.map (·.arg)).length) ([]:List qz)=[]:=List.drop_nil
 refine(if_neg ?_).trans ?_
 ·show ¬ ((!(((ar.map (·.arg)).take ((ar.map (·.arg)).length - (List.drop (([]:List qz).length - (ar.map (·.arg)).length) ([]:List qz)).length)).filter (fun n=>(QZ n ((ar.map (·.arg)).zip vals)).isNone)).isEmpty)=true)
  rw[hdn];show ¬ ((!(((ar.map (·.arg)).take (ar.map (·.arg)).length).filter (fun n=>(QZ n ((ar.map (·.arg)).zip vals)).isNone)).isEmpty)=true)
  rw[hmiss];exact qj
 refine Eq.trans (b:=(forIn ([]:List (Str×qz)) _ _:Sem _) >>= _) (congrArg (fun l=>(forIn l _ _:Sem _) >>= _) (?_:_=[])) ?_
 ·show List.zip _ (List.drop (([]:List qz).length - (ar.map (·.arg)).length) ([]:List qz))=[]
  rw[hdn];exact List.zip_nil_right
 exact(congrArg (fun l=>(pure (List.filterMap (fun n=>Option.map (fun x=>(n,x)) (QZ n ((ar.map (·.arg)).zip vals))) l):Sem _)) (Qj _)).trans (congrArg pure hz)
theorem yu5 {ns:List Str}{us:List qz}{n:Str}(h:n∈(ns.zip us).map (·.1)):n∈ns:=by
 (refine elEA (zX.mp h) fun p hp e_2=>?_;subst e_2)
 exact(List.of_mem_zip hp).1
theorem ys8 {k:Str->Option yq}:∀(binds:List (Str×qz))(m:Str->Option qz)(x:Str),x∉binds.map (·.1)->bindL k binds m x=m x
 | [],_,_,_=>rfl
 | (n,v)::r,m,x,h=>by
  simp only[x6,zQ,not_or]at h
  rw[bindL,ys8 r _ x h.2]
  split
  ·exact if_neg h.1
  ·rfl
theorem ys9 {k:Str->Option yq}:∀(binds:List (Str×qz))(m:Str->Option qz)(x:Str),x∉binds.map (·.1)->bindC k binds m x=m x
 | [],_,_,_=>rfl
 | (n,v)::r,m,x,h=>by
  simp only[x6,zQ,not_or]at h
  rw[bindC,ys9 r _ x h.2]
  split
  ·rfl
  ·exact if_neg h.1
theorem ye0 {k:Str->Option yq}:∀(names:List Str)(vals:List qz)(m:Str->Option qz)(i:Nat)(x:Str)(v:qz),names.Nodup->names[i]?=some x->vals[i]?=some v->k x=some .local ->
  bindL k (names.zip vals) m x=some v
 | [],_,_,i,_,_,_,h,_,_=>by simp at h
 | _::_,[],_,i,_,_,_,_,h,_=>by simp at h
 | n::ns,u::us,m,0,x,v,hn,hx,hv,hk=>by
  simp at hx hv
  subst hx hv
  rw[vQ]at hn
  rw[k6,bindL,ys8 _ _ _ (fun h=>hn.1 (yu5 h)),if_pos hk]
  exact if_pos rfl
 | n::ns,u::us,m,i+1,x,v,hn,hx,hv,hk=>by
  rw[vQ]at hn
  rw[k6,bindL]
  exact ye0 ns us _ i x v hn.2 (by simpa using hx) (by simpa using hv) hk
theorem ye1 {k:Str->Option yq}:∀(names:List Str)(vals:List qz)(m:Str->Option qz)(i:Nat)(x:Str)(v:qz),names.Nodup->names[i]?=some x->vals[i]?=some v->k x≠some .local ->
  bindC k (names.zip vals) m x=some v
 | [],_,_,i,_,_,_,h,_,_=>by simp at h
 | _::_,[],_,i,_,_,_,_,h,_=>by simp at h
 | n::ns,u::us,m,0,x,v,hn,hx,hv,hk=>by
  simp at hx hv
  subst hx hv
  rw[vQ]at hn
  rw[k6,bindC,ys9 _ _ _ (fun h=>hn.1 (yu5 h)),if_neg hk]
  exact if_pos rfl
 | n::ns,u::us,m,i+1,x,v,hn,hx,hv,hk=>by
  rw[vQ]at hn
  rw[k6,bindC]
  exact ye1 ns us _ i x v hn.2 (by simpa using hx) (by simpa using hv) hk
noncomputable def FnAt (C:Cx)(g:Str)(fn:Fn):Prop :=
 ∃ a o params body scope pm cd doc,C.mg g=some (.ref a)/\C.H.get? a=some o/\o.data=.func (Calls.docDef g params body scope pm cd doc)/\C.H.CodeRec cd g/\wu0 fn params scope body=true
structure Base (C:Cx)(Fs:Fns)(gl:Str->Option D):Prop where
 di:DictIn C.w
 dg:yr4 C.w
 pr:yx6 C.w
 dz:xw1 C.w
 dw:zk0 C.w
 ds:yr3 C.w
 ns:C.H.Ns mainGlobals C.mg
 nb:C.H.Ns builtinsNs C.mb
 glob:∀ x d,gl x=some d->∃ v,C.mg x=some v/\Rep C.w C.F0 d v
 blt:∀ x v,yz7 x=some v->C.mg x=none/\C.mb x=some v
 nolimit:C.H.NoLimit
 nd:C.F0.NoD
 fn:∀ g fn,Fs.lookup g=some fn->FnAt C g fn
structure FnOk (fn:Fn)(ps:Arguments)(sc:x9)(body:List Stmt):Prop where
 kind:sc.kind=.function
 gen:sc.isGenerator=false
 co:sc.isCoroutine=false
 nodup:(zy9 sc).Nodup
 len:(zy9 sc).length=fn.slots
 names:∀ p∈sc.names,sc.names.lookup p.1=some p.2/\(p.2=.local\/p.2=.cell\/p.2=.globalImplicit)
 take:(zy9 sc).take fn.params=ps.args.map (·.arg)
 plen:ps.args.length=fn.params
 h1:ps.posonlyargs=[]
 h2:ps.vararg=none
 h3:ps.kwonlyargs=[]
 h4:ps.kwarg=none
 chk:Tie fn.body fn.slots sc (fnNu sc) (.sts body)\/∃ b,fn.body=.cons .ndg b/\TieA fn.slots sc (fnNu sc) b body
theorem xx6 {fn:Fn}{ps:Arguments}{sc:x9}{body:List Stmt}(h:wu0 fn ps sc body=true):FnOk fn ps sc body:=by
 unfold wu0 at h
 simp only[zj,beq_iff_eq,Bool.not_eq_true',decide_eq_true_eq,x8,Qk,List.isEmpty_iff,Option.isNone_iff_eq_none]at h
 obtain ⟨⟨⟨⟨⟨⟨⟨⟨⟨⟨⟨⟨⟨q1,q2⟩,q3⟩,q4⟩,q5⟩,q6⟩,q7⟩,q8⟩,q9⟩,q10⟩,q11⟩,q12⟩,q13⟩,q14⟩:=h
 exact⟨q1,q2,q3,q4,q5,fun p hp=>⟨(q6 p hp).1,by rcases (q6 p hp).2 with (q|q)|q<;>simp[q]⟩,q7,q8,q9,q10,q11,q12,q14.imp (fun q=>let ⟨x,_⟩:=jj.mp q;x.down) fun q=>let ⟨x,_⟩:=jj.mp q;x.down⟩
theorem yw5 {fn:Fn}{ps:Arguments}{sc:x9}{body:List Stmt}(K:FnOk fn ps sc body){x:Str}(h:x∈zy9 sc):sc.names.lookup x=some .local\/sc.names.lookup x=some .cell:=by
 unfold zy9 at h
 (refine elEA (zX.mp h) fun p hp e_2=>?_;subst e_2)
 obtain ⟨hm,hk⟩:=List.mem_filter.mp hp
 have:=(K.names p hm).1
 simp only[Qk,beq_iff_eq]at hk
 rcases hk with e|e
 ·left;rw[this,e]
 ·right;rw[this,e]
set_option tactic.hygienic true in
theorem zc0:∀(names:List (Str×yq))(n:Nat)(acc:List (Str×Addr))(x:Str),((x,yq.cell)∈names\/(acc.lookup x).isSome)->((cellsFrom n names acc).lookup x).isSome
 | [],_,_,_,h=>h.resolve_left (by simp)
 | (y,k)::r,n,acc,x,h=>by
  unfold cellsFrom
  split
  ·rename_i hk
   refine zc0 r _ _ x ?_
   rcases h with h|h
   ·rcases zQ.mp h with e|h
    ·right;cases e;simp[j8]
    ·exact .inl h
   ·right
    rw[j8]
    split
    ·rfl
    ·exact h
  ·rename_i hk
   refine zc0 r _ _ x ?_
   rcases h with h|h
   ·rcases zQ.mp h with e|h
    ·cases e;simp at hk
    ·exact .inl h
   ·exact .inr h
theorem xg8 {l:List Str}{x:Str}{k:Nat}(h:l.idxOf? x=some k):l[k]?=some x:=by
 unfold List.idxOf? at h
 refine elEA (List.findIdx?_eq_some_iff_getElem.mp h) fun hlt hb _=>?_
 rw[qJ hlt]
 exact congrArg some (eq_of_beq hb)
theorem yv8 {α β:Type}{f:α->β}:∀{l:List α},(∀ x∈l,∀ y∈l,f x=f y->x=y)->l.Nodup->(l.map f).Nodup
 | [],_,_=>kJ
 | a::r,h,hn=>by
  rw[vQ]at hn
  rw[x6,vQ]
  refine⟨fun hm=>?_,yv8 (fun x hx y hy=>h x (xJ _ hx) y (xJ _ hy)) hn.2⟩
  refine elEA (zX.mp hm) fun b hb e=>?_
  exact hn.1 (h b (xJ _ hb) a y8 e▸hb)
section
variable {C:Cx}{Fs:Fns}{gl:Str->Option D}
noncomputable def zp6 (sc:x9)(L:Addr)(cs:List (Str×Addr))(x:Str):Place:=if sc.names.lookup x=some .local then .loc L x else .cell ((cs.lookup x).getD 0)
noncomputable def wq3 (sc:x9)(m cm:Str->Option qz)(x:Str):Option qz:=if sc.names.lookup x=some .local then m x else cm x
@[elab_as_elim] theorem xt0 {α β:Type}{l:List α}{f:α->β}{i:Nat}{q:β}{P:β->Prop}(e:(l.map f)[i]?=some q)(k:∀ x,l[i]?=some x->P (f x)):P q:=by
 rw[yy]at e
 cases hx:l[i]? with
 | none=>rw[hx]at e;exact(noS e).elim
 | some x=>rw[hx]at e;exact xv e▸k x hx
theorem xa2 {α:Type}{l:List α}{i:Nat}{x y:α}(h:l[i]?=some x)(h':l[i]?=some y):x=y:=xv (h.symm.trans h')
set_option tactic.hygienic true in
theorem ww6 {fn:Fn}{ps:Arguments}{sc:x9}{body:List Stmt}(K:FnOk fn ps sc body){X:Addr->Prop}{F:Fz}{s s₁:qw}{ds:List D}{ws:List qz}(S:St C X F s.heap [] [] [])(r:RepL C.w F ds ws)(hl:ds.length=fn.params)
  {env:xy} {L:Addr} (hL:env.locals=L) (hLs:L=s.heap.objs.size) (hsc:env.scope=sc) (hcs:env.cells=cellsFrom (L+1) sc.names []) (hg:env.globals=mainGlobals) (hb:env.builtins=builtinsNs)
  (I:InCallC s env.locals (bindL env.kindOf ((ps.args.map (·.arg)).zip ws) fun _=>none) env.cells (bindC env.kindOf ((ps.args.map (·.arg)).zip ws) fun _=>none) s₁) :
  ∃ P vs,EnvOk env sc (fnNu sc) P/\P.length=fn.slots/\St C X F s₁.heap P vs (ds.map (fun d=>some (.val d))++j6 (fn.slots - fn.params) none)/\XSame X s.heap s₁.heap:=by
 have keep:=I.toInCall.keep
 have S1:St C X F s₁.heap [] [] []:=S.grow0 keep
 have hkind:∀ x,env.kindOf x=sc.names.lookup x:=fun x=>by unfold Env.kindOf;rw[hsc]
 have hcell:∀ x∈zy9 sc,sc.names.lookup x≠some .local->∃ c,env.cells.lookup x=some c:=fun x hx hn=>by
  rcases yw5 K hx with e|e
  ·exact absurd e hn
  ·rw[hcs];exact jj.mp (zc0 _ _ _ _ (.inl (mem_of_lookup e)))
 have hnew:∀ x∈zy9 sc,s.heap.get? (zp6 sc L env.cells x).addr=none:=fun x hx=>by
  have:s.heap.objs.size<=(zp6 sc L env.cells x).addr:=by
   unfold zp6
   split
   ·rw[hLs];exact zv _
   ·rename_i hn
    obtain ⟨c,hc⟩:=hcell x hx hn
    rw[hc]
    have:=I.above x c (PySem.mem_of_lookup hc)
    rw[hL,hLs]at this
    exact zz this
  cases e:s.heap.get? (zp6 sc L env.cells x).addr with
  | none=>rfl
  | some o=>exact absurd (xk e) (QK.mpr this)
 have hwl:ws.length=fn.params:=by rw[r.length,hl]
 have hple:fn.params<=(zy9 sc).length:=by
  have:=congrArg List.length K.take
  rw[Z2,xj,K.plen]at this
  exact qv (xx this.symm) (Q2 ..)
 refine Mini.iEEAAA ((zy9 sc).map (zp6 sc L env.cells)) ((zy9 sc).map (wq3 sc (bindL env.kindOf ((ps.args.map (·.arg)).zip ws) fun _=>none) (bindC env.kindOf ((ps.args.map (·.arg)).zip ws) fun _=>none))) ?_ (by simp[K.len]) ?_ ?_
 ·exact {
   kind:=by rw[hsc];exact K.kind
   glob:=hg
   blt:=hb
   slot:=fun x k hx=>by
    have hget:=xg8 hx
    have hm:x∈zy9 sc:=xZ hget
    have hP:((zy9 sc).map (zp6 sc L env.cells))[k]?=some (zp6 sc L env.cells x):=by rw[yy,hget];rfl
    by_cases hloc:sc.names.lookup x=some .local
    ·left
     refine⟨by rw[hkind,hloc],?_⟩
     rw[hP];unfold zp6;rw[if_pos hloc,hL]
    ·right
     obtain ⟨c,hc⟩:=hcell x hm hloc
     refine⟨.inl (by rw[hkind];exact(yw5 K hm).resolve_left hloc),Mini.iEA c hc ?_⟩
     rw[hP];unfold zp6;rw[if_neg hloc,hc];rfl
   gl:=fun x hx=>by rw[hkind,hx]
   cell:=fun x hx=>⟨by rw[hkind,hx],by rw[hcs];exact jj.mp (zc0 _ _ _ _ (.inl (mem_of_lookup hx)))⟩ }
 ·refine S1.extend (P:=[]) (vs:=[]) (σ:=[]) (by simp) ?_ ?_ ?_ ?_ ?_ ?_ ?_
  ·have:=K.len
   show (ds.map (fun d=>some (AV.val d))++j6 (fn.slots - fn.params) none).length=_
   simp[hl];rw[<- this];exact wX hple
  ·intro i q ov e1 e2
   revert e2
   refine xt0 e1 fun x hx e2=>xt0 e2 fun y hy=>?_
   rw[xa2 hy hx]
   unfold zp6 wq3
   by_cases hloc:sc.names.lookup x=some .local
   ·rw[if_pos hloc,if_pos hloc]
    exact⟨_,hL▸I.toInCall.ns,rfl⟩
   ·rw[if_neg hloc,if_neg hloc]
    refine(hcell x (xZ hx) hloc).elim fun c hc=>?_
    rw[hc]
    exact I.cell x c hc
  ·intro i ov av e1 e2
   have e2:(ds.map (fun d=>some (AV.val d))++j6 (fn.slots - fn.params) none)[i]?=some av:=e2
   by_cases hi:i<fn.params
   ·rw[xX (by simp[hl,hi])]at e2
    revert e1
    refine xt0 e2 fun d hd e1=>xt0 e1 fun x hx=>?_
    refine elEA (r.get hd) fun v hv rv=>?_
    have hn:(ps.args.map (·.arg))[i]?=some x:=by rw[<- K.take,List.getElem?_take_of_lt hi];exact hx
    have hnd:(ps.args.map (·.arg)).Nodup:=by rw[<- K.take];exact List.Sublist.nodup (List.take_sublist _ _) K.nodup
    refine⟨v,?_,rv⟩
    unfold wq3
    by_cases hloc:sc.names.lookup x=some .local
    ·rw[if_pos hloc];exact ye0 _ _ _ i x v hnd hn hv (by rw[hkind];exact hloc)
    ·rw[if_neg hloc];exact ye1 _ _ _ i x v hnd hn hv (by rw[hkind];exact hloc)
   ·rw[wK (by simp[hl];lia)]at e2
    have:=xZ e2
    rw[Q4]at this
    rw[this.2];exact trivial
  ·intro av hav d e
   exact(z6.mp hav).elim (fun h=>elEA (zX.mp h) fun d' _ e'=>nomatch e'.trans e) fun h=>nomatch (Q4.mp h).2.symm.trans e
  ·rw[List.nil_append]
   refine yv8 ?_ K.nodup
   intro x hx y hy e
   unfold zp6 at e
   by_cases h1:sc.names.lookup x=some .local<;>by_cases h2:sc.names.lookup y=some .local
   ·rw[if_pos h1,if_pos h2]at e;cases e;rfl
   ·rw[if_pos h1,if_neg h2]at e;cases e
   ·rw[if_neg h1,if_pos h2]at e;cases e
   ·rw[if_neg h1,if_neg h2]at e
    obtain ⟨c,hc⟩:=hcell x hx h1
    obtain ⟨c',hc'⟩:=hcell y hy h2
    rw[hc,hc']at e
    simp at e
    subst e
    exact name_of_addr I.apart (PySem.mem_of_lookup hc) (PySem.mem_of_lookup hc')
  ·intro q hq
   (refine elEA (zX.mp hq) fun x hx e_2=>?_;subst e_2)
   have:=S.nob_new (hnew x hx)
   exact⟨this.f,this.x⟩
  ·intro k a ho
   simp[zw6]at ho
 ·exact XSame.of_keep S.xal keep
theorem Room.deeper {n:Nat}{A:zJ}(R:Room (n+1) A)(env:xy):Room n (A.deeper env) :=
 ⟨R.handled,by have:=R.depth;show A.depth+1+n<_;rw[x0,wJ 1];exact this,by have:=R.units;show A.units+3+3*n+3000<_;rw[x0 A.units,wJ 3];exact this⟩
theorem St.drop {X:Addr->Prop}{F:Fz}{h:Heap}{P:List Place}{vs:List (Option qz)}{σ:Sg}(S:St C X F h P vs σ):St C X F h [] [] []:=by
 have:=St.shrink (C:=C) (P:=[]) (Q:=P) (vs:=[]) (ws:=vs) (n:=0) (by simpa using S) rfl rfl
 simpa using this
theorem xi9 {k:Nat}:∀{ds:List D},(ds.map (fun d=>some (AV.val d))++j6 k none).all ndS=true->yz1 ds=true
 | [],_=>rfl
 | d::ds,h=>by
  simp only[x6,yz,QV,zj]at h
  exact zq.mpr ⟨h.1,xi9 h.2⟩
theorem wg9 (B:Base C Fs gl)(fuel:Nat):∀(n:Nat)(g:Str)(ds:List D)(d:D)(f:Bool),Mini.run Fs gl fuel n g ds=some (d,f)->CallOk C n g ds d f:=by
 intro n
 induction n with
 | zero=>intro g ds d f h;exact(noS h).elim
 | succ n ih =>
  intro g ds d f h
  refine bK1 (h) fun fn hfn h=>?_
  by_cases hl:ds.length=fn.params
  ·have h:=(if_pos hl).symm.trans h
   refine bK1 (h) fun o1 hx h=>?_
   refine yr8 (B.fn g fn hfn) fun a o params body scope pm cd doc h1 h2 h3 h4 h5=>?_
   have K:=xx6 h5
   have G:Ground C (wy9 (Mini.run Fs gl fuel n) gl fuel) n:={
    di:=B.di
    dg:=B.dg
    pr:=B.pr
    dz:=B.dz
    ns:=B.ns
    nb:=B.nb
    glob:=B.glob
    blt:=B.blt
    call:=ih
   }
   have go:∀{A:zJ}{E:qz->qw->Prop}{s:qw}{F:Fz}{X:Addr->Prop}{ws:List qz},Room (n+1) A->St C X F s.heap [] [] []->RepL C.w F ds ws ->
     (∀{env:xy}{P:List Place}{vs:List (Option qz)}{s₁:qw}{A:zJ}{E:qz->qw->Prop},Cn (wy9 (Mini.run Fs gl fuel n) gl fuel) n env scope (fnNu scope) P fn.slots A->(∀ x,env.kindOf x≠some .free)->St C X F s₁.heap P vs (ds.map (fun d=>some (.val d))++j6 (fn.slots - fn.params) none) ->
      qK (zx C.prog C.w) A (execs body env) (PostS C X P F s₁ o1) E s₁)->qK (zx C.prog C.w) A (call (.ref a) ws) (Post C X [] [] F s [] d f) E s:=fun {A E s F X ws} R S r gs=>by
    have hwl:ws.length=fn.params:=by rw[r.length,hl]
    have hnd:(params.args.map (·.arg)).Nodup:=by rw[<- K.take];exact List.Sublist.nodup (List.take_sublist _ _) K.nodup
    refine wpAny_call (codeAny_call_cells (fd:=Calls.docDef g params body scope pm cd doc) (by have:=R.depth;exact z8 (qk ..) this) (S.base _ _ h2) h3 (B.nolimit.keeps S.base) (h4.keeps S.base) rfl
     (yq0 K.h1 K.h2 K.h3 K.h4 hnd (by rw[K.plen,hwl])) rfl (fun x hx=>?_) (fun s₁ I=>?_) K.co K.gen K.kind)
    ·have hm:x.1∈zy9 scope:=by
      have:=(List.of_mem_zip hx).1
      rw[<- K.take]at this
      exact List.mem_of_mem_take this
     rcases yw5 K hm with e|e
     ·exact .inl e
     ·exact .inr ⟨e,zc0 _ _ _ _ (.inl (mem_of_lookup e))⟩
    ·refine elEEAAA (ww6 K S r hl (env:=callEnvC (Calls.docDef g params body scope pm cd doc) s.heap.objs.size a) rfl rfl rfl rfl rfl rfl I) fun P vs O hP S1 same=>?_
     refine elEE (I.toInCall.same) fun hh tk hs1=>?_
     have hfree:∀ x,(callEnvC (Calls.docDef g params body scope pm cd doc) s.heap.objs.size a).kindOf x≠some .free:=fun x e=>by
      have:=(K.names _ (mem_of_lookup (show scope.names.lookup x=some .free from e))).2
      simp at this
     revert O hfree
     generalize callEnvC (Calls.docDef g params body scope pm cd doc) s.heap.objs.size a=env
     intro O hfree
     have eqs:∀{s':qw},(∃ h3 k3,s'={ s₁ with heap:=h3,toks:=k3 })->∃ h3 k3,s'={ s with heap:=h3,toks:=k3 }:=fun h=>elEE h fun h3 k3 e=>Mini.iEE h3 k3 (by rw[e,hs1])
     refine wpM (gs ⟨O,hP.symm,R.deeper _⟩ hfree S1) (fun fl s' q=>?_)
     cases o1 with
     | ret d' f' =>
      refine sm2 h ?_
      obtain ⟨v,rfl,vs',σ',F',st,rr⟩:=q
      refine⟨F',⟨eqs st.eq,st.le,st.st.drop,XSame.trans same st.same⟩,?_⟩
      ·cases f' with
       | false=>exact rr
       | true =>
        exact zr8 (rr) fun a' e' q1 q2 q3 q4 q5=>⟨a',e',q1,q2,fun p hp=>absurd hp j7,fun k ho=>(noS ho.1).elim,q5⟩
     | next σ' =>
      refine sm2 h ?_
      obtain ⟨rfl,vs',F',st⟩:=q
      exact⟨F',⟨eqs st.eq,st.le,st.st.drop,XSame.trans same st.same⟩,rfl⟩
   refine⟨a,o,_,h1,h2,h3,fun A E s F X ws R S r=>?_⟩
   rcases K.chk with kc|⟨b,hb,ka⟩
   ·exact go R S r fun K' hf S1=>(show PX C _ n fn.body fn.slots scope (fnNu scope) body from kc.gt G B.dw B.ds) K' hf S1 hx
   ·rw[hb]at hx
    refine bK1 hx fun o2 hx1 hx=>?_
    obtain ⟨hnd,e2⟩:=ifS hx1
    subst e2
    have hds:yz1 ds=true:=xi9 hnd
    obtain ⟨Sr,hc⟩:=S.thaw B.nd
    exact wpM (go R Sr (RepL.cut xd7 ds hds r) fun K' hf S1=>TieA.ok G B.dw B.ds ka K' hf (Step.refl S1) Fz.nd_noD Sr.low hc hx) fun v s' q=>Post.thaw S q
  ·exact(noS ((if_neg hl).symm.trans h)).elim
end
noncomputable def wl5:Data->Bool
 | .seq _ _=>true
 | _=>false
noncomputable def tups (h:Heap):Fz:=fun a=>(h.get? a).bind fun o=>if (wl5 o.data&&o.cls==.type "tuple")=true then some o else none
theorem zg2 (h:Heap):(tups h).In h:=fun a o e=>by
 unfold tups at e
 cases hg:h.get? a with
 | none=>rw[hg]at e;cases e
 | some o' =>
  rw[hg]at e
  by_cases hc:(wl5 o'.data&&o'.cls==.type "tuple")=true
  ·exact(if_pos hc).symm.trans e
  ·exact(noS ((if_neg hc).symm.trans e)).elim
theorem xb5 {h:Heap}{a:Addr}{vs:Array qz}{n:Nat}(e:h.get? a=some (tobj vs n)):tups h a=some (tobj vs n):=by
 unfold tups;rw[e];rfl
section
variable {w:wz}{F:Fz}{h:Heap}
mutual
theorem Rep.tups (hin:F.In h):∀(d:D){v:qz},zz9 d=true->Rep w F d v->Rep w (tups h) d v
 | .int _,_,_,r=>by simpa[za1,za2,zq2,zj8,zm8,zr4,zl8] using r
 | .str _,_,_,r=>by simpa[za1,za2,zq2,zj8,zm8,zr4,zl8] using r
 | .tuple xs,_,p,r=>by
  simp only[zr4]at r |-
  refine zu6 (r) fun hz a vs n e h1 h2=>?_
  rw[zr5]at p
  exact⟨hz,Mini.iEEEAA a vs n e (xb5 (hin _ _ h1)) (RepL.tups hin xs p h2)⟩
 | .none,_,p,_=>(qj p).elim
 | .bool _,_,p,_=>(qj p).elim
 | .list _,_,p,_=>(qj p).elim
 | .dict _,_,p,_=>(qj p).elim
theorem RepL.tups (hin:F.In h):∀(ds:List D){vs:List qz},zt6 ds=true->RepL w F ds vs->RepL w (tups h) ds vs
 | [],_,_,r=>by simpa[zs4,zv1] using r
 | d::ds,_,p,r=>by
  simp only[zv1]at r |-
  refine elEEAA (r) fun v t e h1 h2=>?_
  rw[zl3,zj]at p
  exact Mini.iEEAA v t e (Rep.tups hin d p.1 h1) (RepL.tups hin ds p.2 h2)
end
end
mutual
noncomputable def draw:D->Nat
 | .tuple l=>yf6 l+1
 | _=>1
noncomputable def yf6:List D->Nat
 | []=>0
 | x::r=>draw x+yf6 r
end
section
variable {prog:vw}{w:wz}{F:Fz}{E:qz->qw->Prop}
@[elab_as_elim] theorem xu4 {d:D}{P:D->Prop}(p:zz9 d=true)(h1:∀ i,P (.int i))(h2:∀ x,P (.str x))(h3:∀ l,zt6 l=true->P (.tuple l)):P d:=by
 cases d<;>first|exact(qj p).elim|exact h1 _|exact h2 _|exact h3 _ p
@[elab_as_elim] theorem RepL.consK {x:qz}{rest:List qz}{ds:List D}(r:RepL w F ds (x::rest)){P:List D->Prop}(k:∀ d ds,Rep w F d x->RepL w F ds rest->P (d::ds)):P ds:=by
 cases ds with
 | nil=>exact nomatch (show x::rest=[] from r)
 | cons d ds =>
  refine elEEAA (show ∃ v t,x::rest=v::t/\Rep w F d v/\RepL w F ds t from r) fun v t e q1 q2=>?_
  injection e with e1 e2
  exact k d ds (e1▸q1) (e2▸q2)
theorem RepL.nilK {ds:List D}(r:RepL w F ds []):ds=[]:=List.eq_nil_of_length_eq_zero r.length.symm
theorem zi4 {n:Nat}{v:qz}{A:zJ}{s:qw}{Q:Bool->qw->Prop}(h:eqIsQuiet n v=pure true)(q:Q true s):qK (zx prog w) A (eqIsQuiet n v) Q E s:=by
 rw[h];exact qX q
theorem xa6:∀(n:Nat)(d:D){v:qz}{A:zJ}{s:qw}{Q:Bool->qw->Prop},zz9 d=true->lev d<=n->F.In s.heap->Rep w F d v->Q true s->qK (zx prog w) A (eqIsQuiet n v) Q E s:=by
 intro n
 induction n with
 | zero =>
  intro d v A s Q p hl hin r q
  revert hl r
  exact xu4 p (fun i _ r=>Exists.elim r fun t e=>e▸zi4 (eqIsQuiet_byValue _ rfl) q) (fun i _ r=>Exists.elim r fun t e=>e▸zi4 (eqIsQuiet_byValue _ rfl) q) fun l _ hl=>absurd hl (Nat.not_succ_le_zero _)
 | succ n ih =>
  intro d v A s Q p hl hin r q
  revert hl r
  refine xu4 p (fun i _ r=>Exists.elim r fun t e=>e▸zi4 (eqIsQuiet_byValue _ rfl) q) (fun i _ r=>Exists.elim r fun t e=>e▸zi4 (eqIsQuiet_byValue _ rfl) q) fun xs p hl r=>?_
  refine Top.tupK (.inl r) hin fun _ a vs m _ ho h2=>?_
  have hl:=yQ hl
  have hT:s.TypeIs (.ref a) "tuple" := ⟨_,ho,rfl⟩
  unfold eqIsQuiet
  refine qq (wpAny_specialOf hT PySem.F.slot_tuple_eq.lookup ?_)
  show qK _ _ (isInstance (.ref a) (.type "tuple") >>= _) _ _ s
  refine qq (wpAny_isInstance hT isSubtype_tuple_tuple ?_)
  simp only[Bool.not_true,vx,if_false]
  refine qq (kx ho rfl ?_)
  refine qq ?_
  show qK _ _ (forIn vs _ _) _ _ s
  rw[<- Array.forIn_toList]
  refine wpAny_forIn_list _ (fun rest r s'=>r.1=none/\s'=s/\∃ ds,zt6 ds=true/\levL ds<=n/\RepL w F ds rest) _ ?_ ?_ _ _ (Mini.iAA rfl rfl (Mini.iEAA xs p hl h2))
  ·rintro v rest r s' ⟨hr,rfl,ds,p1,l1,r1⟩
   revert p1 l1
   refine r1.consK fun d ds q1 q2 p1 l1=>?_
   have p1:=zq.mp p1
   have l1:=Nat.max_le.mp l1
   refine qq (ih d p1.1 l1.1 hin q1 ?_)
   simp only[Bool.not_true,vx,if_false]
   exact qX (Mini.iAA rfl rfl (Mini.iEAA ds p1.2 l1.2 q2))
  ·rintro ⟨r1,r2⟩ s' ⟨hr,rfl,_⟩
   simp only at hr
   subst hr
   exact qX q
theorem yo2 (x:D):∀ l:List D,yt7 w (l++[x])=yt7 w l++[yl5 w x]
 | []=>rfl
 | y::l=>by show yl5 w y::yt7 w (l++[x])=_;rw[yo2 x l];rfl
theorem yo5 (x:D):∀ l:List D,yf6 (l++[x])=yf6 l+draw x
 | []=>(u0 _).symm
 | y::l=>by show draw y+yf6 (l++[x])=draw y+yf6 l+draw x;rw[yo5 x l,x0]
inductive HashInv (w:wz)(F:Fz)(xs:List D)(n:Nat)(s:qw)(rest:List qz)(b:Array Int)(s':qw):Prop
 | mk (done left:List D) (e:xs=done++left) (pl:zt6 left=true) (ll:levL left<=n) (rl:RepL w F left rest) (hb:b.toList=yt7 w done) (es:s'={ s with toks:=s.toks+yf6 done })
theorem HashInv.next {xs:List D}{n:Nat}{s s':qw}{x:qz}{rest:List qz}{b:Array Int}(h:HashInv w F xs n s (x::rest) b s'){R:Prop}
  (k:∀ d,zz9 d=true->lev d<=n->Rep w F d x->HashInv w F xs n s rest (b.push (yl5 w d)) { s' with toks:=s'.toks+draw d }->R):R:=by
 obtain ⟨done,left,rfl,pl,ll,rl,hb,rfl⟩:=h
 revert pl ll k
 refine rl.consK fun d ds q1 q2 pl ll k=>?_
 have pl:=zq.mp pl
 have ll:=Nat.max_le.mp ll
 exact k d pl.1 ll.1 q1 ⟨done++[d],ds,by rw[w6];rfl,pl.2,ll.2,q2,by rw[yo2,Array.toList_push,hb],by rw[yo5,x0]⟩
theorem wr1 {i:Int}{v:qz}{A:zJ}{s:qw}{Q:Int->qw->Prop}(r:Rep w F (.int i) v)(q:Q (hashInt i) { s with toks:=s.toks+1 }):qK (zx prog w) A (pyHash v) Q E s :=
 Exists.elim r fun t e=>e▸(kZ prog w).pyHash (k:=i) (by simp[kZ,qz.isInt]) q
theorem wr0 {x:Str}{v:qz}{A:zJ}{s:qw}{Q:Int->qw->Prop}(r:Rep w F (.str x) v)(q:Q (yl5 w (.str x)) { s with toks:=s.toks+1 }):qK (zx prog w) A (pyHash v) Q E s :=
 Exists.elim r fun t e=>e▸(strKind prog w).pyHash (k:=x) (by simp[strKind,qz.isStrOf]) q
theorem wk3:∀(n:Nat)(d:D){v:qz}{A:zJ}{s:qw}{Q:Int->qw->Prop},zz9 d=true->lev d<=n->A.units+2*n<cLine->F.In s.heap->Rep w F d v->Q (yl5 w d) { s with toks:=s.toks+draw d }->qK (zx prog w) A (pyHash v) Q E s:=by
 intro n
 induction n with
 | zero =>
  intro d v A s Q p hl hu hin r q
  revert hl r q
  exact xu4 p (fun i _ r q=>wr1 r q) (fun x _ r q=>wr0 r q) fun l _ hl=>absurd hl (Nat.not_succ_le_zero _)
 | succ n ih =>
  intro d v A s Q p hl hu hin r q
  revert hl r q
  refine xu4 p (fun i _ r q=>wr1 r q) (fun x _ r q=>wr0 r q) fun xs p hl r q=>?_
  revert q
  refine Top.tupK (.inl r) hin fun _ a vs m _ ho h2 q=>?_
  have hl:=yQ hl
  have hT:s.TypeIs (.ref a) "tuple" := ⟨_,ho,rfl⟩
  unfold pyHash
  unfold pyHashByItsType
  refine qq (wpAny_cRoomFor_or (.inr (z8 (qk ..) hu)) ?_)
  refine qq (wpAny_specialOf hT PySem.F.slot_tuple_hash.lookup ?_)
  show qK _ _ (if (some (qz.builtin "tuple.__hash__")==some wk)=true then _ else _) Q E s
  rw[if_neg (by rw[beq_builtin_none];exact qj)]
  refine qq (wpAny_specialOf hT PySem.F.slot_tuple_hash.lookup ?_)
  show qK _ _ (callSpecialIfBoundUnlessNone? (.ref a) "__hash__" _ >>= _) Q E s
  refine qq (wpAny_callSpecialIfBoundUnlessNone?_slot hT PySem.F.slot_tuple_hash (jV PySem.F.slot_tuple_hash hT PySem.F.entry_tuple_hash ?_ (PySem.F.args_tuple_hash_1 _)))
  show qK _ _ (Builtin.Tuple.tupleItemsOf (.ref a) >>= _) _ _ s
  refine qq (wpAny_tupleItemsOf ho rfl ?_)
  refine qq ?_
  rw[<- Array.forIn_toList]
  refine wpAny_forIn_list _ (HashInv w F xs n s) _ ?_ ?_ _ _ ⟨[],xs,rfl,p,hl,h2,rfl,rfl⟩
  ·intro x rest b s' hI
   refine hI.next fun d pd ld q1 fin=>?_
   have hin':F.In s'.heap:=by obtain ⟨_,_,_,_,_,_,_,rfl⟩:=hI;exact hin
   refine qq (ih d pd ld (by show A.units+1+2*n<cLine;rw[x0];exact z8 (qZ (by rw[wJ];exact QW _) _) hu) hin' q1 ?_)
   first
    | exact qX fin
    | exact qq (qX (qX fin))
  ·rintro b s' ⟨done,left,e,pl,ll,rl,hb,rfl⟩
   rw[rl.nilK,Qj]at e
   subst e
   show qK _ _ (retInt (k5 b.toList)) _ _ _
   rw[hb]
   refine wpAny_ret_mkInt ?_
   show qK _ _ (if (decide (-(2:Int)^63<=k5 (yt7 w xs))&&decide (k5 (yt7 w xs)<2^63))=true then _ else _) Q E _
   change Q (reduceHash (k5 (yt7 w xs))) { s with toks:=s.toks+(yf6 xs+1) } at q
   unfold reduceHash at q
   by_cases hr:(decide (-(2:Int)^63<=k5 (yt7 w xs))&&decide (k5 (yt7 w xs)<2^63))=true
   ·rw[if_pos hr]
    rw[if_pos hr]at q
    exact qX (by rw[<- x0]at q;exact q)
   ·rw[if_neg hr]
    rw[if_neg hr]at q
    exact qq (Qw (qX (by rw[<- x0]at q;exact q)))
theorem zy5 {d:D}(h:tkey d=true):(∃ l,d=.tuple l)/\zz9 d=true/\okd d=true/\lev d<=8:=by
 unfold tkey at h
 simp only[zj,decide_eq_true_eq]at h
 refine Mini.iAAA ?_ h.1.1.2 h.1.2 h.2
 cases d<;>first|exact⟨_,rfl⟩|exact absurd h.1.1.1 qj
end
theorem wq5 {h h':Heap}{d:Addr}{o:Obj}{es:Array j3}{ep:Nat}(ho:h.get? d=some o)(hd:o.data=.dict es ep)(hs:yK d h h'):(tups h).le (tups h'):=fun a x e=>by
 have hg:=zg2 h a x e
 have hne:a≠d:=by
  rintro rfl
  rw[ho]at hg
  cases hg
  unfold tups at e
  rw[ho]at e
  refine(noS ((if_neg (c:=(wl5 o.data&&o.cls==.type "tuple")=true) ?_).symm.trans e)).elim
  rw[hd];exact qj
 unfold tups at e |-
 rw[hs.2 a hne]
 exact e
theorem xy6 {x y:D}[Decidable (x=y)](p1:zz9 x=true)(p2:zz9 y=true):z7 x y=decide (x=y):=by
 by_cases hxy:x=y
 ·rw[decide_eq_true hxy];exact(zx0 p1 p2).mpr hxy
 ·rw[decide_eq_false hxy]
  cases ee:z7 x y with
  | false=>rfl
  | true=>exact absurd ((zx0 p1 p2).mp ee) hxy
open Classical in
noncomputable def zc3 (prog:vw)(w:wz):HeapKind prog w D where
 is:=fun h k a=>tkey k=true/\Rep w (tups h) k (.ref a)
 hash:=yl5 w
 draws:=draw
 room:=fun A=>A.units+1100<cLine
 inj:=fun hx hy=>by
  obtain ⟨as,r1⟩:=Rep.reads (zg2 _) _ hx.2
  obtain ⟨bs,r2⟩:=Rep.reads (zg2 _) _ hy.2
  exact(Reads.unique r1 _ _ r2).1
 keeps:=fun hx ho hd hs=>⟨hx.1,Rep.mono (wq5 ho hd hs) _ hx.2⟩
 pyHash:=fun hu hx q=>wk3 8 _ (zy5 hx.1).2.1 (zy5 hx.1).2.2.2 (z8 (qZ (by decide) _) hu) (zg2 _) hx.2 q
 eqBool:=fun hu hx hy q=>by
  obtain ⟨as,r1⟩:=Rep.reads (zg2 _) _ hx.2
  obtain ⟨bs,r2⟩:=Rep.reads (zg2 _) _ hy.2
  refine elAAA (zy5 hx.1) fun _ p1 o1 _=>?_
  refine elAAA (zy5 hy.1) fun _ p2 o2 _=>?_
  have c1:=zy2 o1
  have c2:=zy2 o2
  refine SeqAt.eqAt_reads _ _ _ _ _ _ as bs r1 r2 c1.1 c2.1 (z8 (qZ (qv (j5 ..) (qv c1.2 (by decide))) _) hu) prog w _ _ ?_
  rw[xy6 p1 p2]
  exact q
 quiet:=fun hx q=>xa6 8 _ (zy5 hx.1).2.1 (zy5 hx.1).2.2.2 (zg2 _) hx.2 q
noncomputable def RowsAt (h:Heap)(d:Addr)(es:Array j3)(ep:Nat):Prop:=∃ o,h.get? d=some o/\o.ExactDict/\o.data=.dict es ep
theorem RowsAt.type {s:qw}{d:Addr}{es:Array j3}{ep:Nat}(x:RowsAt s.heap d es ep):s.TypeIs (.ref d) "dict" := let ⟨o,ho,hc,_⟩:=x; ⟨o,ho,hc.1⟩
section
variable {prog:vw}{w:wz}{A:zJ}{E:qz->qw->Prop}{s:qw}{d it:Addr}{es:Array j3}{ep i:Nat}
theorem yg4 {Q:qz->qw->Prop}(lo:(d==uJ)=false)(x:RowsAt s.heap d es ep)
  (h:Q (.ref s.heap.objs.size) { s with heap:=s.heap.push { cls:=.type "dict_keyiterator", data:=.fields #[.ref d,.int 0 0,.int es.size 0,.int ep 0] } }):qK (zx prog w) A (pyIter (.ref d)) Q E s:=by
 have hT:=x.type
 refine zx4 (x) fun o ho hc hd=>?_
 refine wpAny_pyIter_slot hT PySem.F.slot_dict_iter (jV PySem.F.slot_dict_iter hT PySem.F.entry_dict_iter ?_ (PySem.F.args_dict_iter_1 _))
 unfold Builtin.«dict.__iter__» Builtin.Dict.dictSlotNone
 refine qq (qq (wpAny_notOrdered_dict hT ?_))
 show qK _ _ (pure (qz.ref d)) _ _ s
 refine qX ?_
 show qK _ _ (Builtin.Dict.showsAll d >>= _) _ _ s
 unfold Builtin.Dict.showsAll
 rw[if_neg (by rw[lo];exact qj)]
 refine qq (qX (qq (wpAny_dictEntries ho hd (qq (wpAny_dictEpoch ho hd ?_)))))
 refine qq (uW (qX (Mini.iEA _ rfl (Mini.iEEAA ("dict_keyiterator") _ ⟨_,x7 _ rfl,rfl⟩ y6.lookup ?_))))
 simpa[Qv] using h
theorem wpN {α:Type}{M:Model}{A:zJ}{Q:α->qw->Prop}{E:qz->qw->Prop}{s:qw}{c:Prop}[Decidable c]{t e:Sem α}(h:¬ c)(k:qK M A e Q E s):qK M A (if c then t else e) Q E s:=by rw[if_neg h];exact k
theorem xi6 {Q:Option qz->qw->Prop}(hit:s.heap.IsKeyIter it d i es.size ep)(x:RowsAt s.heap d es ep)(hi:i<es.size)
  (h:∀ h',h'.IsKeyIter it d (i+1) es.size ep->yK it s.heap h'->Q (some es[i].key) { s with heap:=h' }):qK (zx prog w) A (Z7 (.ref it)) Q E s:=by
 refine zx4 (id hit) fun o ho hc hd=>?_
 refine zx4 (id x) fun od hod hcd hdd=>?_
 unfold Z7
 refine qq (wpAny_attempt (k8 (name:=Q0 "__next__") hit.typeIs y6
  (jV y6 hit.typeIs PySem.F.entry_dict_keyiterator_next ?_ (PySem.F.args_dict_keyiterator_next_1 _))))
 refine qq (qX (qq (qq ?_)))
 refine qq (Zx hit.typeIs (qX ?_))
 refine qq (wpAny_fieldsOf ho hd ?_)
 refine wpN (c:=(qz.ref d==wk)=true) qj ?_
 refine qq (qX (qq (wpAny_dictEntries hod hdd ?_)))
 refine wpN (by simp) ?_
 refine qq (qX (qq (wpAny_dictEpoch hod hdd ?_)))
 refine wpN (by simp) ?_
 refine qX ?_
 simp only[show ¬ ((i:Int)<0) from by lia,if_false,jz,zk hi]
 refine qq (qq (Zx hit.typeIs (qX ?_)))
 refine qq (wpAny_isOneOf_keyiter hit.typeIs ?_)
 show qK _ _ (setField (.ref it) 1 (Qv ((i:Int)+1)) >>= _) _ _ s
 refine qq (wpAny_setField ho hd (by simp) ?_)
 have hit':(s.heap.update it (Obj.mapFields (·.setIfInBounds 1 (Qv ((i:Int)+1))))).IsKeyIter it d (i+1) es.size ep :=
  ⟨_,jX _ ho (Obj.isFreed_of_fields (Obj.data_mapFields hd _)),(Obj.cls_mapFields ..).trans hc,by rw[Obj.data_mapFields hd];simp[Qv]⟩
 refine qq (jW ?_)
 refine qq (wpAny_isOneOf_keyiter (s:={ s with heap:=s.heap.update it (Obj.mapFields (·.setIfInBounds 1 (Qv ((i:Int)+1)))) }) hit'.typeIs ?_)
 show qK _ _ (pure es[i].key) _ _ _
 exact qX (qX (Mini.iEA _ rfl (qX (h _ hit' (Qq ..)))))
theorem ww9 {Q:Option qz->qw->Prop}(hh:A.handled=none)(hit:s.heap.IsKeyIter it d es.size es.size ep)(x:RowsAt s.heap d es ep)
  (h:∀ h',Heap.ExtBut it s.heap h'->Q none { s with heap:=h' }):qK (zx prog w) A (Z7 (.ref it)) Q E s:=by
 refine zx4 (id hit) fun o ho hc hd=>?_
 refine zx4 (id x) fun od hod hcd hdd=>?_
 unfold Z7
 refine qq (wpAny_attempt (k8 (name:=Q0 "__next__") hit.typeIs y6
  (jV y6 hit.typeIs PySem.F.entry_dict_keyiterator_next ?_ (PySem.F.args_dict_keyiterator_next_1 _))))
 refine qq (qX (qq (qq ?_)))
 refine qq (Zx hit.typeIs (qX ?_))
 refine qq (wpAny_fieldsOf ho hd ?_)
 refine wpN (c:=(qz.ref d==wk)=true) qj ?_
 refine qq (qX (qq (wpAny_dictEntries hod hdd ?_)))
 refine wpN (by simp) ?_
 refine qq (qX (qq (wpAny_dictEpoch hod hdd ?_)))
 refine wpN (by simp) ?_
 refine qX ?_
 simp only[show ¬ ((es.size:Int)<0) from by lia,if_false,jz,yv (zv es.size)]
 refine qq (qq (Zx hit.typeIs (qX ?_)))
 show qK _ _ (setField (.ref it) 0 .none >>= _) _ _ s
 refine qq (wpAny_setField ho hd (by simp) ?_)
 show qK _ _ (newExc (.type "StopIteration") [] >>= _) _ _ _
 refine qq ?_
 simp only[newExc,newTuple]
 refine qq (uW ?_ (by size_fits))
 refine qq (m:=firstArgMember _ _) (wpAny_of_eq (a:=wk) (by first|rfl|(simp only[firstArgMember];rfl)) ?_)
 refine uW ?_ (by size_fits)
 refine(?_:qK _ _ (handled >>= _) _ _ _)
 refine qq (wpAny_handled ?_)
 rw[show A.in1.handled=none from hh]
 refine qq (qX (wpAny_throw ?_))
 refine qq (wpAny_isInstance (T := "StopIteration") (b:=true) ⟨_,x7 _ rfl,rfl⟩ isSubtype_stop ?_)
 exact qX (h _ (((Qq ..).extBut.push _).push _))
theorem RowsAt.at {h h':Heap}(x:RowsAt h d es ep)(e:∀ o,h.get? d=some o->h'.get? d=some o):RowsAt h' d es ep:=let ⟨o,ho,r⟩:=x; ⟨o,e _ ho,r⟩
theorem yk7 (hh:A.handled=none)(I d:Addr)(hne:d≠I)(es:Array j3)(ep:Nat) :
  Walks prog w A I [I,d] [I] es.size (fun i v=>∃ e,es[i]?=some e/\v=e.key) (fun i h=>h.IsKeyIter I d i es.size ep/\RowsAt h d es ep) where
 sub:=fun b hb=>by simp at hb;simp[hb]
 frame:=fun _ _ _ st hk=>⟨st.1.at fun o e=>hk I (by simp) o e,st.2.at fun o e=>hk d (by simp) o e⟩
 item:=fun i s Q E hi st hQ=>by
  refine xi6 st.1 st.2 hi fun h' hit' hs'=>?_
  exact hQ _ h' s.toks (Mini.iEA (es[i]) (zk hi) rfl) ⟨hit',st.2.at fun o e=>by rw[hs'.2 d hne];exact e⟩ fun b o hb e=>hs'.extBut b o (fun h=>hb (by simp[h])) e
 done:=fun s Q E st hQ=>ww9 hh st.1 st.2 fun h' he'=>hQ h' s.toks fun b o hb e=>he' b o (fun h=>hb (by simp[h])) e
 self:=fun _ _ _ _ st hQ=>wpAny_pyIter_keyiter st.1 hQ
end
open PySem Mini Classical
inductive AbsH (w:wz)(F:Fz):List (D×D)->List (D×Addr×qz)->Prop
 | nil:AbsH w F [] []
 | cons {k d:D} {a:Addr} {v:qz} {r:List (D×D)} {t:List (D×Addr×qz)}:tkey k=true->Rep w F k (.ref a)->Rep w F d v->AbsH w F r t->AbsH w F ((k,d)::r) ((k,a,v)::t)
section
variable {w:wz}{F:Fz}{prog:vw}
theorem AbsH.keys {kvs:List (D×D)}{t:List (D×Addr×qz)}(h:AbsH w F kvs t):t.map (·.1)=kvs.map (·.1):=by
 induction h with
 | nil=>rfl
 | cons _ _ _ _ ih=>simp[ih]
theorem AbsH.length {kvs:List (D×D)}{t:List (D×Addr×qz)}(h:AbsH w F kvs t):t.length=kvs.length:=by
 have:=congrArg List.length h.keys;simpa using this
theorem AbsH.all {kvs:List (D×D)}{t:List (D×Addr×qz)}(h:AbsH w F kvs t):∀ x∈t,tkey x.1=true/\Rep w F x.1 (.ref x.2.1):=by
 induction h with
 | nil=>simp
 | cons a b _ _ ih =>
  intro x hx
  rcases zQ.mp hx with rfl|hx
  ·exact⟨a,b⟩
  ·exact ih x hx
theorem yj0:∀{kvs:List (D×D)}{es:List j3},(kvs.all fun p=>tkey p.1)=true->RepKV w F kvs es->∃ t,AbsH w F kvs t/\es=t.map (entryOfKey (zc3 prog w))
 | [],es,_,r=>by
  simp only[zf7]at r;subst r
  exact Mini.iEA [] (.nil) rfl
 | (k,d)::kvs,es,h,r=>by
  simp only[zl9,yr2]at r
  obtain ⟨e,t,rfl,⟨h1,h2,h3⟩,h4⟩:=r
  simp only[QV,zj]at h
  refine elEA (yj0 (kvs:=kvs) h.2 h4) fun t' a q=>?_
  obtain ⟨⟨l,rfl⟩,_⟩:=zy5 h.1
  have h2':=h2
  simp only[zr4]at h2
  refine wj2 (h2) fun _ b vs n e1 _=>?_
  rw[e1]at h2'
  refine Mini.iEA ((.tuple l,b,e.val)::t') (.cons h.1 h2' h3 a) ?_
  obtain ⟨eh,ek,ev⟩:=e
  simp only at e1 h1
  subst e1 h1 q
  rfl
theorem xc8:∀{kvs:List (D×D)}{t:List (D×Addr×qz)},AbsH w F kvs t->RepKV w F kvs (t.map (entryOfKey (zc3 prog w))):=fun a=>by
 induction a with
 | nil=>simp[zf7]
 | cons hk r1 r2 a ih =>
  simp only[x6,zl9,yr2]
  exact Mini.iEEAA _ _ rfl (Mini.iAA rfl r1 r2) ih
theorem xw6 {h:Heap}{kvs:List (D×D)}{a:Addr}{es:Array j3}{n:Nat}(hin:F.In h)(hk:(kvs.all fun p=>tkey p.1)=true)(hd:xw2 kvs)(h1:h.get? a=some (dobj es n))(r:RepKV w F kvs es.toList) :
  ∃ t,AbsH w F kvs t/\h.DictOfH (zc3 prog w) a t:=by
 refine elEA (yj0 (prog:=prog) hk r) fun t ab e=>?_
 exact Mini.iEA t ab ⟨_,es,n,h1,⟨rfl,rfl,rfl⟩,rfl,e,fun x hx=>⟨(ab.all x hx).1,Rep.tups hin _ (zy5 (ab.all x hx).1).2.1 (ab.all x hx).2⟩,by rw[ab.keys];exact hd.2⟩
theorem wy3 {h:Heap}{kvs:List (D×D)}{a:Addr}{t:List (D×Addr×qz)}(ab:AbsH w F kvs t)(hz:kvs.length<=size)(hb:uJ<a)(h1:h.DictOfH (zc3 prog w) a t):Shal w F h (.dict kvs) a:=by
 obtain ⟨o,es,n,ho,⟨c1,c2,c3⟩,hd,he,_,hn⟩:=h1
 refine⟨⟨hz,by rw[<- ab.keys];exact hn⟩,es,n,?_,by rw[he];exact xc8 ab,hb⟩
 rw[ho]
 obtain ⟨cls,dict,data,slots⟩:=o
 simp only at c1 c2 c3 hd
 subst c1 c2 c3 hd
 rfl
set_option tactic.hygienic true in
theorem yo8 {k:D}(hk:tkey k=true):∀{kvs:List (D×D)}{t:List (D×Addr×qz)},AbsH w F kvs t->(∀ d,zq6 kvs k=some d->∃ p,atKey t k=some p/\Rep w F d p.2)/\(zq6 kvs k=none->atKey t k=none)
 | _,_,.nil=>⟨fun d h=>by simp[zq6]at h,fun _=>rfl⟩
 | _,_,.cons hk' r1 r2 a=>by
  rename_i k' d b v kvs t
  have ih:=yo8 hk a
  unfold zq6 atKey at *
  simp only[k7,xy6 (zy5 hk').2.1 (zy5 hk).2.1]
  by_cases e:k'=k
  ·simp only[e,decide_true,Option.map_some]
   exact⟨fun d' h=>by cases h;exact Mini.iEA _ rfl r2,fun h=>by cases h⟩
  ·simp only[e,decide_false]
   exact ih
set_option tactic.hygienic true in
theorem yj5 {k d:D}{a:Addr}{v:qz}(hk:tkey k=true)(r1:Rep w F k (.ref a))(r2:Rep w F d v):∀{kvs:List (D×D)}{t:List (D×Addr×qz)},AbsH w F kvs t->(t.map (·.1)).Nodup->AbsH w F (dput kvs k d) (storedH t k a v):=by
 intro kvs t ab
 induction ab with
 | nil=>intro _;rw[wc9];exact .cons hk r1 r2 .nil
 | cons hk' q1 q2 ab ih0 =>
  intro hn
  rename_i k' d' a' v' kvs t
  rw[x6,vQ]at hn
  have ih:=ih0 hn.2
  rw[ys3]
  rw[xy6 (zy5 hk').2.1 (zy5 hk).2.1]
  by_cases e:k'=k
  ·subst e
   simp only[decide_true,if_true]
   have:storedH ((k',a',v')::t) k' a v=(k',a',v)::t:=by
    unfold storedH
    rw[if_pos (by simp[atKey])]
    simp only[x6]
    rw[map_putAt_of_not_mem t k' v hn.1]
    simp[putAt]
   rw[this]
   exact .cons hk' q1 r2 ab
  ·simp only[e,decide_false,vx,if_false]
   have:storedH ((k',a',v')::t) k a v=(k',a',v')::storedH t k a v:=by
    unfold storedH
    have e1:atKey ((k',a',v')::t) k=atKey t k:=by simp[atKey,k7,e]
    rw[e1]
    split
    ·simp[putAt,e]
    ·rfl
   rw[this]
   exact .cons hk' q1 q2 ih
theorem xw5 {h:Heap}{k:D}{v:qz}(hin:F.In h)(hk:tkey k=true)(x:Top w F h k v):∃ a,v=.ref a/\Rep w F k (.ref a):=by
 obtain ⟨⟨l,rfl⟩,_⟩:=zy5 hk
 refine x.tupK hin fun hz a vs n h0 h1 h2=>?_
 exact Mini.iEA a rfl (by simp only[zr4];exact⟨hz,Mini.iEEEAA a vs n rfl h0 h2⟩)
theorem RepKV.key {kvs:List (D×D)}{es:List j3}(r:RepKV w F kvs es){i:Nat}{d:D}{e:j3}(hd:(kvs.map (·.1))[i]?=some d)(he:es[i]?=some e):Rep w F d e.key:=by
 induction kvs generalizing es i with
 | nil=>simp at hd
 | cons p kvs ih =>
  obtain ⟨k,x⟩:=p
  simp only[zl9,yr2]at r
  obtain ⟨e',t,rfl,⟨_,h2,_⟩,h4⟩:=r
  cases i with
  | zero=>simp at hd he;subst hd he;exact h2
  | succ i=>exact ih h4 (by simpa using hd) (by simpa using he)
theorem RepL.of_get:∀{ds:List D}{vs:List qz},vs.length=ds.length->(∀(i:Nat)(d:D)(v:qz),ds[i]?=some d->vs[i]?=some v->Rep w F d v)->RepL w F ds vs:=by
 intro ds
 induction ds with
 | nil =>
  intro vs hl _
  rw[Z3.mp hl];exact RepL.nil_
 | cons d ds ih =>
  intro vs hl h
  cases vs with
  | nil=>cases hl
  | cons v vs=>exact RepL.cons_ (h 0 d v rfl rfl) (ih (Nat.succ.inj hl) fun i d v h1 h2=>h (i+1) d v h1 h2)
end
inductive Abs (w:wz)(F:Fz):List (D×D)->List (Int×qz)->Prop
 | nil:Abs w F [] []
 | cons {k:Int} {d:D} {v:qz} {r:List (D×D)} {t:List (Int×qz)}:Rep w F d v->Abs w F r t->Abs w F ((.int k,d)::r) ((k,v)::t)
section
variable {w:wz}{F:Fz}{prog:vw}
theorem Abs.keys {kvs:List (D×D)}{t:List (Int×qz)}(h:Abs w F kvs t):kvs.map (·.1)=(t.map (·.1)).map vj:=by
 induction h with
 | nil=>rfl
 | cons _ _ ih=>simp[ih]
theorem Abs.length {kvs:List (D×D)}{t:List (Int×qz)}(h:Abs w F kvs t):t.length=kvs.length:=by
 induction h with
 | nil=>rfl
 | cons _ _ ih=>simp[ih]
theorem Abs.nodup {kvs:List (D×D)}{t:List (Int×qz)}(h:Abs w F kvs t)(hn:(kvs.map (·.1)).Nodup):(t.map (·.1)).Nodup:=by
 rw[h.keys]at hn
 exact List.Pairwise.of_map _ (fun a b hab e=>hab (by rw[e])) hn
theorem Abs.nodup' {kvs:List (D×D)}{t:List (Int×qz)}(h:Abs w F kvs t)(hn:(t.map (·.1)).Nodup):(kvs.map (·.1)).Nodup:=by
 rw[h.keys]
 exact yv8 (fun a _ b _ e=>by cases e;rfl) hn
theorem xh8 {k:D}(h:zv7 k=some 0):∃ i,k=.int i:=by
 cases k with
 | int i=>exact⟨i,rfl⟩
 | tuple l =>
  by_cases q:tkey (.tuple l)=true
  ·cases (if_pos q).symm.trans h
  ·exact(noS ((if_neg q).symm.trans h)).elim
 | _=>exact(noS h).elim
theorem yt4:∀{kvs:List (D×D)}{es:List j3},zl5 kvs=true->RepKV w F kvs es->∃ t,Abs w F kvs t/\Pairs (kZ prog w) es t/\∀ e∈es,∃ k,(kZ prog w).is k e.key=true/\e.hash=(kZ prog w).hash k
 | [],es,_,r=>by
  simp only[zf7]at r;subst r
  exact Mini.iEAA [] (.nil) (.nil) (by simp)
 | (k,d)::kvs,es,h,r=>by
  simp only[zl9,yr2]at r
  obtain ⟨e,t,rfl,⟨h1,h2,h3⟩,h4⟩:=r
  simp only[zl5,QV,zj,beq_iff_eq]at h
  refine zx4 (yt4 (kvs:=kvs) h.2 h4) fun t' a p q=>?_
  obtain ⟨i,rfl⟩:=xh8 h.1
  simp only[zq2]at h2
  obtain ⟨u,hu⟩:=h2
  have his:(kZ prog w).is i e.key=true:=by rw[hu];simp[kZ,qz.isInt]
  refine Mini.iEAA ((i,e.val)::t') (.cons h3 a) (.cons his rfl p) (fun e' he'=>?_)
  rcases zQ.mp he' with rfl|he'
  ·exact Mini.iEA i his (by rw[h1];rfl)
  ·exact q e' he'
set_option tactic.hygienic true in
theorem xw0:∀{kvs:List (D×D)}{t:List (Int×qz)}{es:List j3},Abs w F kvs t->Pairs (kZ prog w) es t->(∀ e∈es,∃ k,(kZ prog w).is k e.key=true/\e.hash=(kZ prog w).hash k)->RepKV w F kvs es:=by
 intro kvs t es a
 induction a generalizing es with
 | nil=>intro p _;cases p;simp[zf7]
 | cons r a ih =>
  intro p q
  cases p with
  | cons his hv p =>
  rename_i k d v kvs t e es
  simp only[zl9,yr2]
  refine Mini.iEEAA e es rfl (Mini.iAA ?_ ?_ ?_) (ih p fun e' he'=>q e' (xJ _ he'))
  ·refine elEA (q e (by simp)) fun k' h1 h2=>?_
   have:k'=k:=(kZ prog w).inj _ _ _ h1 his
   rw[h2,this];rfl
  ·simp only[zq2]
   exact qz.isInt_shape his
  ·simp only at hv
   rw[hv];exact r
theorem zf9 {h:Heap}{kvs:List (D×D)}{a:Addr}{es:Array j3}{n:Nat}(hk:zl5 kvs=true)(hd:xw2 kvs)(h1:h.get? a=some (dobj es n))(r:RepKV w F kvs es.toList) :
  ∃ t,Abs w F kvs t/\h.DictAt (kZ prog w) a t n:=by
 refine zx4 (yt4 (prog:=prog) hk r) fun t a' p q=>?_
 exact Mini.iEA t a' ⟨_,es,h1,⟨rfl,rfl,rfl⟩,rfl,fun e he=>q e (Array.mem_toList_iff.mpr he),p,a'.nodup hd.2⟩
theorem yv6 {h:Heap}{kvs:List (D×D)}{a:Addr}{t:List (Int×qz)}(ha:Abs w F kvs t)(hz:kvs.length<=size)(hb:uJ<a)(h1:h.DictOf (kZ prog w) a t):Shal w F h (.dict kvs) a:=by
 obtain ⟨o,es,n,ho,⟨c1,c2,c3⟩,hd,hk,p,hn⟩:=h1
 refine⟨⟨hz,ha.nodup' hn⟩,es,n,?_,xw0 ha p fun e he=>hk e (Array.mem_toList_iff.mp he),hb⟩
 rw[ho]
 obtain ⟨cls,dict,data,slots⟩:=o
 simp only at c1 c2 c3 hd
 subst c1 c2 c3 hd
 rfl
theorem xf8 {a b:Int}:z7 (.int a) (.int b)=decide (a=b):=by
 show (a==b)=_
 by_cases h:a=b<;>simp[h]
set_option tactic.hygienic true in
theorem za3 {k:Int}:∀{kvs:List (D×D)}{t:List (Int×qz)},Abs w F kvs t->(∀ d,zq6 kvs (.int k)=some d->∃ v,valueAt t k=some v/\Rep w F d v)/\(zq6 kvs (.int k)=none->valueAt t k=none):=by
 intro kvs t a
 induction a with
 | nil=>exact⟨fun d h=>by simp[zq6]at h,fun _=>rfl⟩
 | cons r a ih =>
  rename_i k' d v kvs t
  unfold zq6 valueAt at *
  simp only[k7,xf8]
  by_cases e:k'=k
  ·subst e
   simp only[decide_true,Option.map_some]
   exact⟨fun d' h=>by cases h;exact Mini.iEA v rfl r,fun h=>by cases h⟩
  ·simp only[e,decide_false]
   exact ih
set_option tactic.hygienic true in
theorem yw3 {k:Int}{d:D}{v:qz}(r:Rep w F d v):∀{kvs:List (D×D)}{t:List (Int×qz)},Abs w F kvs t->(t.map (·.1)).Nodup->Abs w F (dput kvs (.int k) d) (stored t k v):=by
 intro kvs t a
 induction a with
 | nil=>intro _;exact .cons r .nil
 | cons r' a ih0 =>
  intro hn
  rename_i k' d' v' kvs t
  rw[x6,vQ]at hn
  have ih:=ih0 hn.2
  rw[ys3,xf8]
  by_cases e:k'=k
  ·subst e
   simp only[decide_true,if_true]
   have:stored ((k',v')::t) k' v=(k',v)::t:=by
    unfold stored
    rw[if_pos (by simp)]
    simp only[x6,if_true]
    rw[map_store_of_not_mem t k' v hn.1]
   rw[this]
   exact .cons r a
  ·simp only[e,decide_false,vx,if_false]
   have:stored ((k',v')::t) k v=(k',v')::stored t k v:=by
    unfold stored
    simp only[List.any_cons,e,decide_false,Bool.false_or,x6,if_false]
    split<;>rfl
   rw[this]
   exact .cons r' ih
theorem zl7 {k:D}{v:D}:∀{kvs:List (D×D)},(dput kvs k v).length<=kvs.length+1
 | []=>zv _
 | p::r=>by
  rw[ys3]
  by_cases e:z7 p.1 k=true
  ·rw[if_pos e];exact QW _
  ·rw[if_neg e];exact xz (zl7 (k:=k) (v:=v) (kvs:=r))
set_option tactic.hygienic true in
theorem zj2 {x:D}{kvs:List (D×D)}(h:zs3 x kvs=true):(∃ i,x=.int i/\zl5 kvs=true)\/(tkey x=true/\(kvs.all fun p=>tkey p.1)=true):=by
 unfold zs3 at h
 simp only[zj]at h
 cases x<;>try exact absurd h.1 qj
 ·rename_i i
  exact .inl (Mini.iEA i rfl (by simpa[zl5,zv7] using h))
 ·rename_i l
  by_cases hl:tkey (.tuple l)=true
  ·refine .inr ⟨hl,x8.mpr fun p hp=>?_⟩
   have q:=x8.mp h.2 p hp
   obtain ⟨k,d⟩:=p
   have e:zv7 (.tuple l)=some 1:=if_pos hl
   rw[e]at q
   cases k with
   | tuple m =>
    by_cases hm:tkey (.tuple m)=true
    ·exact hm
    ·exact absurd q (by rw[show zv7 (.tuple m)=none from if_neg hm];decide)
   | _=>exact absurd q qj
  ·simp[zv7,hl]at h
theorem xc2 {a:Addr}(h:uJ<a):(a==uJ)=false:=by
 simp only[beq_eq_false_iff_ne,ne_eq]
 exact kj h
end
theorem wj7 (w:wz):xb0 w:=by
 intro prog A E s F n R hin x kvs a b ha hb ho
 rw[zj]at ho
 obtain ⟨ho,hnt⟩:=ho
 refine hb.dicK hin fun hd c es m h1 r hbig=>?_
 rcases zj2 ho with ⟨i,rfl,hk⟩|⟨hx,hk⟩
 rotate_left
 ·rw[hx]at hnt;exact absurd hnt qj
 refine ha.intK fun t=>?_
 refine elEA (zf9 (prog:=prog) hk hd h1 r) fun tt ab dt=>?_
 have hv:=za3 (k:=i) ab
 have he:(valueAt tt i).isSome=(zq6 kvs (.int i)).isSome:=by
  cases hf:zq6 kvs (.int i) with
  | none=>rw[hv.2 hf];rfl
  | some d=>refine elEA (hv.1 d hf) fun v q _=>?_;rw[q];rfl
 constructor
 ·refine wpAny_in_of (knd:=kZ prog w) (k:=i) (by simp[kZ,qz.isInt]) (xc2 hbig) dt.dictOf.mapOf ⟨?_,_,rfl⟩
  rw[he]
 ·refine wpAny_notIn_of (knd:=kZ prog w) (k:=i) (by simp[kZ,qz.isInt]) (xc2 hbig) dt.dictOf.mapOf ⟨?_,_,rfl⟩
  rw[he]
theorem wb0 (w:wz):DictIn w:=⟨wj7 w⟩
open Classical in
theorem wj8 (w:wz):yr4 w:=by
 intro prog A E s F n R hin x v kvs a b ha hb ho hf
 refine hb.dicK hin fun hd c es m h1 r hbig=>?_
 rcases zj2 ho with ⟨i,rfl,hk⟩|⟨hx,hk⟩
 rotate_left
 ·refine elEA (xw6 (prog:=prog) hin hk hd h1 r) fun tt ab dt=>?_
  (refine elEA (xw5 hin hx ha) fun b e_1 rb=>?_;subst e_1)
  refine elEA ((yo8 hx ab).1 _ hf) fun p hp rp=>?_
  exact wpAny_getItem_heap (knd:=zc3 prog w) (by have:=R.units;show A.units+1+1100<cLine;rw[x0];exact z8 (jQ (qk ..) (by decide)) this) ⟨hx,Rep.tups hin _ (zy5 hx).2.1 rb⟩ dt hp ⟨rp,_,rfl⟩
 refine ha.intK fun t=>?_
 refine elEA (zf9 (prog:=prog) hk hd h1 r) fun tt ab dt=>?_
 refine elEA ((za3 (k:=i) ab).1 _ hf) fun u hu ru=>?_
 exact wpAny_getItem_of (knd:=kZ prog w) (k:=i) (by simp[kZ,qz.isInt]) dt.dictOf.mapOf hu ⟨ru,_,rfl⟩
open Classical in
theorem wj6 (w:wz):yr3 w:=by
 intro prog A E s F n R hin x v kvs a key val hx hv hsh hf ho hz
 refine xx2 (hsh) fun hd es m h1 r hbig=>?_
 rcases zj2 ho with ⟨i,rfl,hk⟩|⟨hkx,hk⟩
 rotate_left
 ·refine elEA (xw6 (prog:=prog) hin hk hd h1 r) fun tt ab dt=>?_
  (refine elEA (xw5 hin hkx (xq2 hx)) fun b e_1 rb=>?_;subst e_1)
  refine wpAny_setItem_heap (knd:=zc3 prog w) (by have:=R.units;show A.units+1+1100<cLine;lia) ⟨hkx,Rep.tups hin _ (zy5 hkx).2.1 rb⟩ dt (fun h' q hs=>?_) (by rw[ab.length,zn3];lia)
  refine Mini.iEEAA h' _ rfl (fun c hc=>hs.2 c hc) ?_
  exact wy3 (yj5 hkx rb hv ab (by rw[ab.keys];exact hd.2)) (by have:=zl7 (k:=x) (v:=v) (kvs:=kvs);exact qv this hz) hbig q
 simp only[zq2]at hx
 obtain ⟨t,rfl⟩:=hx
 refine elEA (zf9 (prog:=prog) hk hd h1 r) fun tt ab dt=>?_
 refine wpAny_setItem_pairs (knd:=kZ prog w) (k:=i) (by simp[kZ,qz.isInt]) dt.dictOf (fun h' q hs=>?_) (by rw[ab.length,zn3];lia)
 refine Mini.iEEAA h' _ rfl (fun b hb=>hs.2 b hb) ?_
 exact yv6 (yw3 hv ab (ab.nodup hd.2)) (by have:=zl7 (k:=.int i) (v:=v) (kvs:=kvs);lia) hbig q
theorem wv3 (w:wz):zk0 w:=by
 intro prog A E s F n R hin kvs v r
 simp only[zl8]at r
 (refine ys2 (r) fun hd a es m e_4 hF r_n hbig=>?_;clear r;revert r_n;intro r;subst e_4)
 have h1:=hin _ _ hF
 have hne:a≠s.heap.objs.size:=jJ (xk h1)
 have x:RowsAt s.heap a es m:=⟨_,h1,⟨rfl,rfl,rfl⟩,rfl⟩
 have hl:=r.length
 rw[ww]at hl
 refine yg4 (xc2 hbig) x ?_
 refine⟨s.heap.objs.size,_,_,_,s.toks,rfl,rfl,fun b o e=>qQ _ e,Walk.of (yk7 R.handled s.heap.objs.size a hne es m) (by simp[hl]) (by simp) (fun i h b t hb=>?_) (fun b hb=>?_) (fun i v d hdd hv G l=>?_) (fun _ _ t=>let ⟨o,ho,hc,_⟩:=t.1; ⟨o,_,ho,hc,rfl⟩),
  ⟨⟨_,x7 _ rfl,rfl,rfl⟩,x.at fun o e=>qQ _ e⟩,fun b hb=>?_⟩
 ·simp only[xq]at hb;subst hb
  refine elEA (t.1) fun o ho _=>?_;exact⟨o,ho⟩
 ·simp only[zQ,j7,or_false]at hb
  rcases hb with rfl|rfl
  ·left;simp
  ·right;rw[hF];exact fun x=>nomatch x
 ·(refine elEA (hv) fun e he e_2=>?_;subst e_2)
  exact Rep.mono l _ (r.key hdd (by rw[xK];exact he))
 ·simp only[xq]at hb;subst hb
  exact zz6 _
open PySem
set_option maxRecDepth 100000 in
theorem xr8:typeLookup (.type "zip") "__len__" = pure none:=by rw[typeLookup_type,builtinLookup_eq_fast];kernel_rfl
set_option maxRecDepth 100000 in
theorem ye4:typeLookup (.type "zip") "__length_hint__" = pure none:=by rw[typeLookup_type,builtinLookup_eq_fast];kernel_rfl
noncomputable abbrev yz8 (h:Heap)(z TI TO:Addr)(f0:qz)(b:Bool):Prop :=
 h.get? z=some { cls:=.type "zip", dict:=none,data:=.fields #[f0,.bool b,.bool false,.ref TI,.ref TO],slots:=#[] }
section
variable {prog:vw}{w:wz}{A:zJ}{E:qz->qw->Prop}{s:qw}
theorem zc1 {a:Addr}{Q:Option Obj->qw->Prop}(h:Q (s.heap.get? a) s):qK (zx prog w) A (loadIfAlive a) Q E s:=by
 intro Γ p hΓ
 simp only[loadIfAlive,Sem.wp_loadIfAlive]
 exact h
theorem yp4 {z TI TO T:Addr}{o:Obj}{c:Bool}{Q:Bool->qw->Prop}(hz:yz8 s.heap z TI TO (Qv T) c)(hT:s.heap.get? T=some o)
  (h:∀ h₁,yz8 h₁ z TI TO (Qv T) true->yK z s.heap h₁->Q false { s with heap:=h₁ }):qK (zx prog w) A (wy (.ref z)) Q E s:=by
 unfold wy
 refine qq (jK hz rfl (x:=Qv T) rfl ?_)
 show qK _ _ (loadIfAlive (Int.toNat (T:Int)) >>= _) _ _ _
 refine qq (zc1 ?_)
 rw[jz,hT]
 show qK _ _ (field (.ref z) 1 >>= _) _ _ _
 refine qq (jK hz rfl (x:=.bool c) rfl ?_)
 cases c with
 | true=>exact qX (h s.heap hz (yK.refl ..))
 | false=>exact qq (Qx hz (by simp) fun h₁ hz₁ hs₁=>qX (h h₁ hz₁ hs₁))
theorem yn0 {z TI TO i1 i2 l1 l2 T:Addr}{o:Obj}{c:Bool}{k1 k2:Nat}{xs ys:Array qz}{x y a b:qz}{Q:qz->qw->Prop}(D:ZipApart z TI TO i1 i2 l1 l2)
  (hz:yz8 s.heap z TI TO (Qv T) c) (hT:s.heap.get? T=some o) (hTI:yw s.heap TI (.ref i1) (.ref i2)) (hTO:yw s.heap TO a b)
  (h1:s.heap.IsListIter i1 l1 k1) (h2:s.heap.IsListIter i2 l2 k2) (hl1:s.heap.IsList l1 xs) (hl2:s.heap.IsList l2 ys) (hx:xs[k1]?=some x) (hy:ys[k2]?=some y)
  (hQ:∀ h',yz8 h' z TI TO (Qv T) true->h'.IsListIter i1 l1 (k1+1)->h'.IsListIter i2 l2 (k2+1)->yw h' s.heap.objs.size x y->h'.objs.size=s.heap.objs.size+1 ->
   (∀ c o,c≠z->c≠i1->c≠i2->s.heap.get? c=some o->h'.get? c=some o)->Q (.ref s.heap.objs.size) { s with heap:=h' }) :
  qK (zx prog w) A (Builtin.«zip.__next__» ⟨[.ref z],[]⟩) (fun fin s'=>∃ v,fin=.done (.ret v)/\Q v s') E s:=by
 show qK _ _ (field (.ref z) 2 >>= _) _ _ _
 refine qq (jK hz rfl (x:=.bool false) rfl ?_)
 show qK _ _ (field (.ref z) 3 >>= _) _ _ _
 refine qq (jK hz rfl (x:=.ref TI) rfl ?_)
 refine qq (kx hTI rfl ?_)
 show qK _ _ (wy (.ref z) >>= _) _ _ _
 refine qq (yp4 hz hT fun h₁ hz₁ hs₁=>?_)
 simp only[vx,if_false]
 refine qq ?_
 rw[<- Array.forIn_toList]
 simp only[List.forIn_cons,List.forIn_nil]
 refine qq (qq (jW ?_))
 show qK _ _ (w9 (.ref i1) >>= _) _ _ _
 refine qq (wpAny_nextOf_list_item (h1.extBut hs₁.extBut D.i1z) (hl1.extBut hs₁.extBut D.l1z) hx fun h₂ h1₂ hs₂=>qX (qX ?_))
 refine qq (qq (jW ?_))
 show qK _ _ (w9 (.ref i2) >>= _) _ _ _
 refine qq (wpAny_nextOf_list_item ((h2.extBut hs₁.extBut D.i2z).extBut hs₂.extBut D.i12.symm) ((hl2.extBut hs₁.extBut D.l2z).extBut hs₂.extBut D.l2i1) hy fun h₃ h2₃ hs₃=>qX (qX (qX ?_)))
 refine qq (wpAny_newTuple (qX (Mini.iEA _ rfl ?_)) (by show 2<=kW;decide))
 have hsz:h₃.objs.size=s.heap.objs.size:=by rw[hs₃.1,hs₂.1,hs₁.1]
 show Q (.ref h₃.objs.size) _
 rw[hsz]
 have up:∀ c o,c≠z->c≠i1->c≠i2->s.heap.get? c=some o->h₃.get? c=some o:=fun c o c1 c2 c3 e=>hs₃.extBut _ _ c3 (hs₂.extBut _ _ c2 (hs₁.extBut _ _ c1 e))
 exact hQ _ (qQ _ (hs₃.extBut _ _ D.i2z.symm (hs₂.extBut _ _ D.i1z.symm hz₁))) ((h1₂.extBut hs₃.extBut D.i12).at fun o e=>qQ _ e) (h2₃.at fun o e=>qQ _ e) (hsz▸x7 _ rfl) (by rw[Heap.size_push,hsz])
  fun c o c1 c2 c3 e=>qQ _ (up c o c1 c2 c3 e)
theorem yk4 {z TI TO i1 i2 l1 l2 T:Addr}{o:Obj}{c:Bool}{k1 k2:Nat}{xs ys:Array qz}{Q:Fin->qw->Prop}(hh:A.handled=none)(D:ZipApart z TI TO i1 i2 l1 l2)
  (hz:yz8 s.heap z TI TO (Qv T) c) (hT:s.heap.get? T=some o) (hTI:yw s.heap TI (.ref i1) (.ref i2))
  (h1:s.heap.IsListIter i1 l1 k1) (h2:s.heap.IsListIter i2 l2 k2) (hl1:s.heap.IsList l1 xs) (hl2:s.heap.IsList l2 ys) (hend:xs[k1]?=none\/ys[k2]?=none)
  (hE:∀ h' e,(∀ c o,c≠z->c≠i1->c≠i2->s.heap.get? c=some o->h'.get? c=some o)->(∃ o,h'.get? e=some o/\o.cls=.type "StopIteration")->E (.ref e) { s with heap:=h' }) :
  qK (zx prog w) A (Builtin.«zip.__next__» ⟨[.ref z],[]⟩) Q E s:=by
 show qK _ _ (field (.ref z) 2 >>= _) _ _ _
 refine qq (jK hz rfl (x:=.bool false) rfl ?_)
 show qK _ _ (field (.ref z) 3 >>= _) _ _ _
 refine qq (jK hz rfl (x:=.ref TI) rfl ?_)
 refine qq (kx hTI rfl ?_)
 show qK _ _ (wy (.ref z) >>= _) _ _ _
 refine qq (yp4 hz hT fun h₁ hz₁ hs₁=>?_)
 simp only[vx,if_false]
 refine qq ?_
 rw[<- Array.forIn_toList]
 simp only[List.forIn_cons,List.forIn_nil]
 refine qq (qq (jW ?_))
 show qK _ _ (w9 (.ref i1) >>= _) _ _ _
 cases hx:xs[k1]? with
 | none =>
  exact qq (wpAny_nextOf_list_end hh (h1.extBut hs₁.extBut D.i1z) (hl1.extBut hs₁.extBut D.l1z) hx fun h₂ e hs₂ he=>hE h₂ e (fun c o c1 c2 _ x=>hs₂ _ _ c2 (hs₁.extBut _ _ c1 x)) he)
 | some x =>
  have hy:ys[k2]?=none:=hend.resolve_left (by rw[hx];exact fun q=>nomatch q)
  refine qq (wpAny_nextOf_list_item (h1.extBut hs₁.extBut D.i1z) (hl1.extBut hs₁.extBut D.l1z) hx fun h₂ h1₂ hs₂=>qX (qX ?_))
  refine qq (qq (jW ?_))
  show qK _ _ (w9 (.ref i2) >>= _) _ _ _
  exact qq (wpAny_nextOf_list_end hh ((h2.extBut hs₁.extBut D.i2z).extBut hs₂.extBut D.i12.symm) ((hl2.extBut hs₁.extBut D.l2z).extBut hs₂.extBut D.l2i1) hy fun h₃ e hs₃ he =>
   hE h₃ e (fun c o c1 c2 c3 x=>hs₃ _ _ c3 (hs₂.extBut _ _ c2 (hs₁.extBut _ _ c1 x))) he)
structure ZW (z TI TO i1 i2 l1 l2:Addr)(xs ys:Array qz)(i:Nat)(h:Heap):Prop where
 zip:IsZip h z TI TO .none\/∃ (T:Addr) (o:Obj) (c:Bool),yz8 h z TI TO (Qv T) c/\h.get? T=some o/\o.cls=.type "tuple"
 tI:yw h TI (.ref i1) (.ref i2)
 tO:∃ a b,yw h TO a b
 a1:h.IsListIter i1 l1 i
 a2:h.IsListIter i2 l2 i
 L1:h.IsList l1 xs
 L2:h.IsList l2 ys
noncomputable def Kz (z TO i1 i2:Addr)(h h':Heap):Prop:=∀ c o,c≠z->c≠TO->c≠i1->c≠i2->h.get? c=some o->h'.get? c=some o
variable {z TI TO i1 i2 l1 l2:Addr}{xs ys:Array qz}{i:Nat}
theorem zu9 {h:Heap}{T c:Addr}{o p:Obj}{x y:String}(hT:h.get? T=some o)(hc:h.get? c=some p)(e1:o.cls=.type x)(e2:p.cls=.type y)(hn:x≠y):T≠c:=by
 rintro rfl
 rw[hT]at hc;cases hc;rw[e1]at e2;cases e2;exact hn rfl
theorem wq0 (D:ZipApart z TI TO i1 i2 l1 l2)(W:ZW z TI TO i1 i2 l1 l2 xs ys i s.heap){x y:qz}(hx:xs[i]?=some x)(hy:ys[i]?=some y){Q:Option qz->qw->Prop}
  (hQ:∀ h',ZW z TI TO i1 i2 l1 l2 xs ys (i+1) h'->yw h' s.heap.objs.size x y->Kz z TO i1 i2 s.heap h'->Q (some (.ref s.heap.objs.size)) { s with heap:=h' }) :
  qK (zx prog w) A (Z7 (.ref z)) Q E s:=by
 refine Mini.elEE (W.tO) fun a b hTO=>?_
 rcases W.zip with hz|⟨T,o,c,hz,hT,ht⟩
 ·refine wpAny_pyNext_zip_item D hz W.tI hTO W.a1 W.a2 W.L1 W.L2 hx hy fun h' b1 b2 b3 b4 b5 b6 b7=>?_
  exact hQ h' ⟨.inr (Mini.iEEEAA _ _ false b1 b5 rfl),b7 _ _ D.TIz D.TITO D.TIi1 D.TIi2 W.tI,Mini.iEE _ _ b2,b3,b4,W.L1.at fun o e=>b7 _ o D.l1z D.l1TO D.l1i1 D.l1i2 e,W.L2.at fun o e=>b7 _ o D.l2z D.l2TO D.l2i1 D.l2i2 e⟩ b5 b7
 ·have hty:s.TypeIs (.ref z) "zip" := ⟨_,hz,rfl⟩
  have t1:T≠z:=zu9 hT hz ht rfl (by decide)
  have t3:T≠i1:=W.a1.elim fun _ e=>zu9 hT e.1 ht e.2.1 (by decide)
  have t4:T≠i2:=W.a2.elim fun _ e=>zu9 hT e.1 ht e.2.1 (by decide)
  unfold Z7
  refine qq (wpAny_attempt (k8 (name:=Q0 "__next__") hty QJ
   (jV QJ hty F.entry_zip_next (yn0 D hz hT W.tI hTO W.a1 W.a2 W.L1 W.L2 hx hy fun h' b1 b3 b4 b5 b6 b7=>qX ?_) (F.args_zip_next_1 _))))
  exact hQ h' ⟨.inr (Mini.iEEEAA T o true b1 (b7 _ _ t1 t3 t4 hT) ht),b7 _ _ D.TIz D.TIi1 D.TIi2 W.tI,Mini.iEE _ _ (b7 _ _ D.TOz D.TOi1 D.TOi2 hTO),b3,b4,W.L1.at fun o e=>b7 _ o D.l1z D.l1i1 D.l1i2 e,W.L2.at fun o e=>b7 _ o D.l2z D.l2i1 D.l2i2 e⟩ b5 fun c o c1 _ c3 c4 e=>b7 c o c1 c3 c4 e
theorem wg2 (hh:A.handled=none)(D:ZipApart z TI TO i1 i2 l1 l2)(W:ZW z TI TO i1 i2 l1 l2 xs ys i s.heap)(hend:xs[i]?=none\/ys[i]?=none){Q:Option qz->qw->Prop}
  (hQ:∀ h',Kz z TO i1 i2 s.heap h'->Q none { s with heap:=h' }):qK (zx prog w) A (Z7 (.ref z)) Q E s:=by
 refine Mini.elEE (W.tO) fun a b hTO=>?_
 rcases W.zip with hz|⟨T,o,c,hz,hT,ht⟩
 ·exact wpAny_pyNext_zip_end hh D hz W.tI hTO W.a1 W.a2 W.L1 W.L2 hend hQ
 ·have hty:s.TypeIs (.ref z) "zip" := ⟨_,hz,rfl⟩
  unfold Z7
  refine qq (wpAny_attempt (k8 (name:=Q0 "__next__") hty QJ
   (jV QJ hty F.entry_zip_next (yk4 hh D hz hT W.tI W.a1 W.a2 W.L1 W.L2 hend fun h' e hk he=>?_) (F.args_zip_next_1 _))))
  refine Mini.elEA (he) fun o ho hc=>?_
  refine qq (wpAny_isInstance (T := "StopIteration") (b:=true) ⟨o,ho,hc⟩ isSubtype_stop ?_)
  exact qX (hQ _ fun c o c1 _ c3 c4 e=>hk c o c1 c3 c4 e)
noncomputable def Prs (TO:Addr)(xs ys:Array qz)(acc:Array qz)(h:Heap):Prop :=
 ∀(j:Nat)(v:qz),acc[j]?=some v->∃ T x y,v=.ref T/\xs[j]?=some x/\ys[j]?=some y/\yw h T x y/\T≠TO
noncomputable def Kl (z TO i1 i2 S:Addr)(h h':Heap):Prop:=∀ c o,c≠z->c≠TO->c≠i1->c≠i2->c≠S->h.get? c=some o->h'.get? c=some o
theorem ZW.upd {S:Addr}{p:Obj}{h h':Heap}(W:ZW z TI TO i1 i2 l1 l2 xs ys i h)(hS:h.get? S=some p)(hp:p.cls=.type "list")(n6:S≠l1)(n7:S≠l2)
  (k:∀ c o,c≠S->h.get? c=some o->h'.get? c=some o):ZW z TI TO i1 i2 l1 l2 xs ys i h':=by
 have nz:∀{f0 c},yz8 h z TI TO f0 c->z≠S:=fun hz=>zu9 hz hS rfl hp (by decide)
 refine⟨W.zip.imp (fun hz=>k _ _ (nz hz) hz) fun ⟨T,o,c,hz,hT,ht⟩=>⟨T,o,c,k _ _ (nz hz) hz,k _ _ (zu9 hT hS ht hp (by decide)) hT,ht⟩,k _ _ (zu9 W.tI hS rfl hp (by decide)) W.tI,
  W.tO.imp fun a h=>h.imp fun b h=>k _ _ (zu9 h hS rfl hp (by decide)) h,W.a1.elim fun o e=>⟨o,k _ _ (zu9 e.1 hS e.2.1 hp (by decide)) e.1,e.2⟩,W.a2.elim fun o e=>⟨o,k _ _ (zu9 e.1 hS e.2.1 hp (by decide)) e.1,e.2⟩,W.L1.at fun o e=>k _ o n6.symm e,W.L2.at fun o e=>k _ o n7.symm e⟩
theorem Prs.keep {S:Addr}{p:Obj}{acc:Array qz}{h h':Heap}(P:Prs TO xs ys acc h)(W:ZW z TI TO i1 i2 l1 l2 xs ys i h)(hS:h.get? S=some p)(hp:p.cls=.type "list")(k:Kl z TO i1 i2 S h h'):Prs TO xs ys acc h':=fun j v e=>by
 refine Mini.elEEEAAAA (P j v e) fun T x y q1 q2 q3 q4 q5=>?_
 refine Mini.iEEEAAAA T x y q1 q2 q3 (k _ _ ?_ q5 ?_ ?_ (zu9 q4 hS rfl hp (by decide)) q4) q5
 ·rcases W.zip with hz|⟨_,_,_,hz,_⟩<;>exact zu9 q4 hz rfl rfl (by decide)
 ·exact W.a1.elim fun _ e=>zu9 q4 e.1 rfl e.2.1 (by decide)
 ·exact W.a2.elim fun _ e=>zu9 q4 e.1 rfl e.2.1 (by decide)
set_option tactic.hygienic true in
theorem wr9 {R:Result->qw->Prop}{S:Addr}{res:qz}(hh:A.handled=none)(D:ZipApart z TI TO i1 i2 l1 l2)(n6:S≠l1)(n7:S≠l2)(hn:min xs.size ys.size<=kW) :
  ∀(k i:Nat)(s:qw)(acc:Array qz)(c:Nat),min xs.size ys.size - i=k->i<=min xs.size ys.size->ZW z TI TO i1 i2 l1 l2 xs ys i s.heap->s.heap.get? S=some { cls:=.type "list", dict:=none,data:=.seq acc c,slots:=#[] }->acc.size=i->Prs TO xs ys acc s.heap ->
  (∀ h' acc' c',Kl z TO i1 i2 S s.heap h'->h'.get? S=some { cls:=.type "list", dict:=none,data:=.seq acc' c',slots:=#[] }->acc'.size=min xs.size ys.size->Prs TO xs ys acc' h'->R (.ok (.ret res)) { s with heap:=h' }) ->
  codeAny (zx prog w) A (.builtin "list.extend.loop" ⟨[.ref S,.ref z,res],[]⟩) R s:=by
 intro k
 induction k with
 | zero =>
  intro i s acc c hk hi W hS ha P hR
  have hin:i=min xs.size ys.size:=jy hi (yZ hk)
  refine yW F.entry_extend_loop ?_
  rw[jx F.plain_extend_loop _]
  show qK _ A.in1 (Z7 (.ref z) >>= _) _ _ s
  have hend:xs[i]?=none\/ys[i]?=none:=by
   rcases Nat.le_total xs.size ys.size with h|h
   ·exact .inl (yv (by rw[hin,wV h];exact zv _))
   ·exact .inr (yv (by rw[hin,ZX h];exact zv _))
  refine qq (wg2 (A:=A.in1) hh D W hend fun h' hk=>?_)
  have kk:Kl z TO i1 i2 S s.heap h':=fun c o a b d e _ x=>hk c o a b d e x
  have nS:∀{f0 c},yz8 s.heap z TI TO f0 c->S≠z:=fun hz=>zu9 hS hz rfl rfl (by decide)
  refine qX (hR h' acc c kk (hk _ _ ?_ ?_ ?_ ?_ hS) (ha.trans hin) (P.keep W hS rfl kk))
  ·rcases W.zip with hz|⟨_,_,_,hz,_⟩<;>exact nS hz
  ·refine Mini.elEE (W.tO) fun a b h=>?_;exact zu9 hS h rfl rfl (by decide)
  ·exact W.a1.elim fun _ e=>zu9 hS e.1 rfl e.2.1 (by decide)
  ·exact W.a2.elim fun _ e=>zu9 hS e.1 rfl e.2.1 (by decide)
 | succ k ih =>
  intro i s acc c hk hi W hS ha P hR
  have hlt:i<min xs.size ys.size:=Nat.lt_of_sub_eq_succ hk
  have h1:i<xs.size:=vZ hlt (j5 ..)
  have h2:i<ys.size:=vZ hlt (Q2 ..)
  refine yW F.entry_extend_loop ?_
  rw[jx F.plain_extend_loop _]
  show qK _ A.in1 (Z7 (.ref z) >>= _) _ _ s
  refine qq (wq0 D W (zk h1) (zk h2) fun h' W' hp hk'=>?_)
  have nz:S≠z:=by rcases W.zip with hz|⟨_,_,_,hz,_⟩<;>exact zu9 hS hz rfl rfl (by decide)
  have nTO:S≠TO:=by refine Mini.elEE (W.tO) fun a b h=>?_;exact zu9 hS h rfl rfl (by decide)
  have n1:S≠i1:=W.a1.elim fun _ e=>zu9 hS e.1 rfl e.2.1 (by decide)
  have n2:S≠i2:=W.a2.elim fun _ e=>zu9 hS e.1 rfl e.2.1 (by decide)
  have hS':=hk' _ _ nz nTO n1 n2 hS
  have kk:Kl z TO i1 i2 S s.heap h':=fun c o a b d e _ x=>hk' c o a b d e x
  show qK _ A.in1 (updateSeq S (·.push (.ref s.heap.objs.size)) >>= _) _ _ _
  refine qq ?_
  have oth:∀ c o,c≠S->h'.get? c=some o->(h'.update S (wW (·.push (.ref s.heap.objs.size)))).get? c=some o:=fun c o hc e=>(jw _ _ (y7 hc)).trans e
  have hTO:s.heap.objs.size≠TO:=by refine Mini.elEE (W.tO) fun a b h=>?_;exact kj (xk h)
  have P':Prs TO xs ys (acc.push (.ref s.heap.objs.size)) h':=fun j v e=>by
   rw[Array.getElem?_push]at e
   split at e
   ·rename_i hj
    cases e
    exact Mini.iEEEAAAA _ _ _ rfl (by rw[hj,ha];exact zk h1) (by rw[hj,ha];exact zk h2) hp hTO
   ·exact P.keep W hS rfl kk j v e
  refine wpAny_updateSeq hS' rfl (qX ⟨Z4 F.plain_extend_loop _,ih (i+1) _ (acc.push (.ref s.heap.objs.size)) _ (by lia) hlt (W'.upd hS' rfl n6 n7 oth) (jX _ hS' rfl) (by rw[Array.size_push,ha])
   (P'.keep W' hS' rfl fun c o _ _ _ _ e x=>oth c o e x) fun h'' acc' c' kl hS'' hs'' P''=>?_⟩) (by rw[ha];lia) (by show (acc.push _).size<=kW+1;rw[Array.size_push,ha];lia)
  exact hR h'' acc' c' (fun c o a b d e f x=>kl c o a b d e f (oth c o f (kk c o a b d e f x))) hS'' hs'' P''
theorem xl0 {R:Result->qw->Prop}{S:Addr}{res:qz}{c₀:Nat}(hh:A.handled=none)(D:ZipApart z TI TO i1 i2 l1 l2)(n6:S≠l1)(n7:S≠l2)(hn:min xs.size ys.size<=kW)
  (hz:IsZip s.heap z TI TO .none) (W:ZW z TI TO i1 i2 l1 l2 xs ys 0 s.heap) (hS:s.heap.get? S=some { cls:=.type "list", data:=.seq #[] c₀ })
  (hR:∀ h' acc' c',Kl z TO i1 i2 S s.heap h'->h'.get? S=some { cls:=.type "list", dict:=none,data:=.seq acc' c',slots:=#[] }->acc'.size=min xs.size ys.size->Prs TO xs ys acc' h'->R (.ok (.ret res)) { s with heap:=h' }) :
  qK (zx prog w) A.in1 (u8 (.ref S) (.ref z) res)
   (fun fin s'=>match fin with|.done f=>R (.ok f) s'|.again c'=>c'.quiet=true/\codeAny (zx prog w) A c' R s') (fun e s'=>R (.error e) s') s:=by
 have hSz:S≠z:=zu9 hS hz rfl rfl (by decide)
 have hT:s.TypeIs (.ref z) "zip" := ⟨_,hz,rfl⟩
 unfold u8
 refine qq (wpAny_typeOf hT ?_)
 have h1:Builtin.List.listSameRef (.ref S) (.ref z)=false:=by simp[Builtin.List.listSameRef,hSz]
 have h2:(uz "zip" == uz "list")=false:=by decide
 have h3:(uz "zip" == uz "tuple")=false:=by decide
 simp only[h1,h2,h3,Bool.or_false,vx,if_false]
 refine qq (wpAny_pyIter_zip hz ?_)
 refine qq (jW ?_)
 unfold Builtin.List.listLengthHint
 refine qq (wpAny_specialOf hT xr8 ?_)
 show qK _ A.in1 (specialOf (qz.ref z) (Q0 "__length_hint__") >>= _) _ _ _
 refine qq (wpAny_specialOf hT ye4 ?_)
 refine qX ?_
 show qK _ A.in1 (rule "list.extend.makes-room" >>= fun _=>Builtin.List.listTouch (.ref S) >>= fun _ =>
  again (.builtin "list.extend.loop" ⟨[.ref S,.ref z,res],[]⟩)) _ _ _
 refine qq (Qw ?_)
 refine qq ?_
 show qK _ A.in1 (updateSeq S (·.push .none) >>= fun _=>updateSeq S (·.pop)) _ _ _
 refine qq (wpAny_updateSeq hS rfl ?_)
 have hS₂:=jX (wW (·.push wk)) hS rfl
 refine wpAny_updateSeq (hz:=by seq_fits) hS₂ rfl ?_
 have hS₃:=jX (wW (·.pop)) hS₂ rfl
 have oth:∀ b o,b≠S->s.heap.get? b=some o->((s.heap.update S (wW (·.push wk))).update S (wW (·.pop))).get? b=some o :=
  fun b o hb e=>(jw _ _ (y7 hb)).trans ((jw _ _ (y7 hb)).trans e)
 refine qX ⟨Z4 F.plain_extend_loop _,wr9 hh D n6 n7 hn _ 0 _ _ _ rfl (vq _) (W.upd hS rfl n6 n7 oth) hS₃ rfl (fun j v e=>by simp at e) fun h' acc' c' kl hS' hs P=>?_⟩
 exact hR h' acc' c' (fun c o a b d e f x=>kl c o a b d e f (oth c o f x)) hS' hs P
theorem yk0 {Q:qz->qw->Prop}(hh:A.handled=none)(D:ZipApart z TI TO i1 i2 l1 l2)(hn:min xs.size ys.size<=kW)(hz:IsZip s.heap z TI TO .none)(W:ZW z TI TO i1 i2 l1 l2 xs ys 0 s.heap)
  (hQ:∀ h' acc' c',Kz z TO i1 i2 s.heap h'->h'.get? s.heap.objs.size=some { cls:=.type "list", dict:=none,data:=.seq acc' c',slots:=#[] }->acc'.size=min xs.size ys.size->Prs TO xs ys acc' h'->Q (.ref s.heap.objs.size) { s with heap:=h' }) :
  qK (zx prog w) A (call (.type "list") [.ref z]) Q E s:=by
 refine callType_codes (Q₁:=fun obj s₁=>obj=.ref s.heap.objs.size/\s₁={ s with heap:=s.heap.push { cls:=.type "list", data:=.seq #[] } }) F.called_list (F.typeCall_list_1 _) F.entry_list_init
  (code_list_new _ ⟨rfl,rfl⟩) fun obj s₁ h₁=>?_
 obtain ⟨rfl,rfl⟩:=h₁
 have hS:(s.heap.push { cls:=.type "list", data:=.seq #[] }).get? s.heap.objs.size=some { cls:=.type "list", data:=.seq #[] }:=x7 _ rfl
 have ne:∀{c o},s.heap.get? c=some o->s.heap.objs.size≠c:=fun e=>kj (xk e)
 have n6:s.heap.objs.size≠l1:=W.L1.elim fun _ e=>ne e.1
 have n7:s.heap.objs.size≠l2:=W.L2.elim fun _ e=>ne e.1
 have up:∀ c o,s.heap.get? c=some o->(s.heap.push { cls:=.type "list", data:=.seq #[] }).get? c=some o:=fun c o e=>qQ _ e
 have W₁:ZW z TI TO i1 i2 l1 l2 xs ys 0 (s.heap.push { cls:=.type "list", data:=.seq #[] }) :=
  ⟨.inl (up _ _ hz),up _ _ W.tI,W.tO.imp fun a h=>h.imp fun b h=>up _ _ h,W.a1.at fun o e=>up _ o e,W.a2.at fun o e=>up _ o e,W.L1.at fun o e=>up _ o e,W.L2.at fun o e=>up _ o e⟩
 refine Mini.iAA ⟨_,hS,rfl⟩ (F.args_list_init_2 _ _) ?_
 show qK _ A.in1.in1 (do let old <- Builtin.List.listItems (.ref s.heap.objs.size);Builtin.List.listUpdate (.ref s.heap.objs.size) (fun _=>#[]);letGo old.toList.reverse;u8 (.ref s.heap.objs.size) (.ref z) .none) _ _ _
 refine qq ?_
 unfold Builtin.List.listItems
 refine qq (kx hS rfl (qX ?_))
 show qK _ A.in1.in1 (updateSeq s.heap.objs.size (fun _=>#[]) >>= fun _=>letGo (#[]:Array qz).toList.reverse >>= fun _=>u8 (.ref s.heap.objs.size) (.ref z) .none) _ _ _
 refine qq (wpAny_updateSeq hS rfl ?_)
 have hS₂:=jX (wW (fun _=>(#[]:Array qz))) hS rfl
 have oth:∀ b o,b≠s.heap.objs.size->(s.heap.push { cls:=.type "list", data:=.seq #[] }).get? b=some o->((s.heap.push { cls:=.type "list", data:=.seq #[] }).update s.heap.objs.size (wW (fun _=>(#[]:Array qz)))).get? b=some o :=
  fun b o hb e=>(jw _ _ (y7 hb)).trans e
 refine qq (wpAny_letGo ?_)
 refine xl0 (A:=A.in1) hh D n6 n7 hn (oth _ _ (ne hz).symm (up _ _ hz)) (W₁.upd hS rfl n6 n7 oth) hS₂ fun h' acc' c' kl hS' hs P=>⟨rfl,hQ h' acc' c' (fun c o a b d e x=>?_) hS' hs P⟩
 exact kl c o a b d e (ne x).symm (oth c o (ne x).symm (up _ _ x))
end
set_option maxRecDepth 100000 in
theorem yg1:typeLookup (.type "list") "keys" = pure none:=by rw[typeLookup_type,builtinLookup_eq_fast];kernel_rfl
section
variable {prog:vw}{w:wz}{A:zJ}{E:qz->qw->Prop}{s:qw}
theorem xh9 {a:Addr}{xs:Array qz}{k:Nat}{sl:Array (Option qz)}{Q:Option qz->qw->Prop}
  (hx:s.heap.get? a=some { cls:=.type "list", dict:=none,data:=.seq xs k,slots:=sl }) (hA:A.handled=none)
  (h:∀ h' tk e,Heap.NewExcOf s.heap h' e "AttributeError" -> Q none { s with heap:=h',toks:=tk }) :
  qK (zx prog w) A (getAttr? (.ref a) "keys") Q E s:=by
 obtain ⟨hp,g,d,tk,os⟩:=s
 have hT:∀ tk',(⟨hp,g,d,tk',os⟩:qw).TypeIs (.ref a) "list" := fun _=>⟨_,hx,rfl⟩
 have f1:=sub_AttributeError
 have f3:=F.slot_list_getattribute.lookup
 have f4:=F.slot_list_getattribute.bind (.ref a)
 have f5:=am_list_getattr_none
 unfold getAttr? getAttrBy? getAttrBy
 repeat (any_goals (first|assumption|exact hT _|((with_reducible show qK _ _ (call (qz.builtin "list.__getattribute__") _ _) _ _ _);refine call_meets F.slot_list_getattribute (hT _) am_entry_list_getattribute (F.args_list_getattribute_2 _ _) (meets_getattribute_miss_list a xs k sl "keys" _ yg1 (by decide) (by size_fits)) ⟨hx,hA,fun h' tk' e hx'=>?_⟩)|wp_step))
 refine Mini.elEE (hx'.there) fun t' u' he=>?_
 show qK _ _ (getattributeRaised _ _ _ _ _ _ _) _ _ _
 unfold getattributeRaised
 repeat (any_goals (first|assumption|wp_step))
 exact h _ _ _ hx'.of
theorem zu2:plainId "dict.update.loop" = true:=by decide +kernel
set_option maxRecDepth 100000 in
theorem zm2:entryFor table "dict.update.loop" = some Builtin.«dict.update.loop»:=entryFor_of_fast (by kernel_rfl)
noncomputable def yy6:List (Int×qz)->List (Int×qz)->List (Int×qz)
 | [],t=>t
 | p::r,t=>yy6 r (stored t p.1 p.2)
theorem xq5 {t:List (Int×qz)}{k:Int}{v:qz}:(stored t k v).length<=t.length+1:=by
 unfold stored
 split
 ·rw[xj];exact QW _
 ·rw[zw];exact zv _
noncomputable def PrsAt (d it:Addr)(acc:Array qz)(i:Nat)(rest:List (Int×qz))(h:Heap):Prop :=
 acc.size=i+rest.length/\∀(j:Nat)(p:Int×qz),rest[j]?=some p->∃ T u,acc[i+j]?=some (.ref T)/\T≠d/\T≠it/\yw h T (.int p.1 u) p.2
theorem PrsAt.keep {d it:Addr}{acc:Array qz}{i:Nat}{rest:List (Int×qz)}{h h':Heap}(P:PrsAt d it acc i rest h)(k:∀ c o,c≠d->c≠it->h.get? c=some o->h'.get? c=some o):PrsAt d it acc i rest h' :=
 ⟨P.1,fun j p e=>let ⟨T,u,q1,q2,q3,q4⟩:=P.2 j p e; ⟨T,u,q1,q2,q3,k _ _ q2 q3 q4⟩⟩
theorem PrsAt.tail {d it:Addr}{acc:Array qz}{i:Nat}{p:Int×qz}{rest:List (Int×qz)}{h:Heap}(P:PrsAt d it acc i (p::rest) h):PrsAt d it acc (i+1) rest h :=
 ⟨by rw[P.1,xV,x0,wJ 1],fun j q e=>by
  refine Mini.elEEA (P.2 (j+1) q e) fun T u q1 q2=>?_
  exact(Mini.iEEA T u (by rw[x0,wJ 1];exact q1) q2)⟩
theorem xb4 {R:Result->qw->Prop}{d it L:Addr}{acc:Array qz}(hh:A.handled=none)(n1:d≠it)(n2:d≠L)(n3:L≠it) :
  ∀(rest:List (Int×qz))(i:Nat)(s:qw)(t:List (Int×qz)),PrsAt d it acc i rest s.heap->s.heap.IsListIter it L i->s.heap.IsList L acc->s.heap.DictOf (kZ prog w) d t->t.length+rest.length<=kW ->
  (∀ h' tk,(∀ c o,c≠d->c≠it->s.heap.get? c=some o->h'.get? c=some o)->h'.DictOf (kZ prog w) d (yy6 rest t)->R (.ok (.ret .none)) { s with heap:=h',toks:=tk }) ->
  codeAny (zx prog w) A (.builtin "dict.update.loop" ⟨[.ref d,.ref it,Qv i,.none],[]⟩) R s:=by
 intro rest
 induction rest with
 | nil =>
  intro i s t P hit hL hd hn hR
  refine yW zm2 ?_
  rw[jx zu2 _]
  show qK _ A.in1 (Z7 (.ref it) >>= _) _ _ s
  refine qq (wpAny_pyNext_list_end (A:=A.in1) hh hit hL (yv (by rw[P.1];exact zv _)) fun h' hk=>?_)
  show qK _ A.in1 (Builtin.Dict.addKeywords d [] >>= _) _ _ _
  refine qq (qX (qX ?_))
  refine hR h' s.toks (fun c o _ hc e=>hk c o hc e) ?_
  refine Mini.elEEEA (hd) fun o es ep ho q=>?_
  exact⟨o,es,ep,hk _ _ n1 ho,q⟩
 | cons p rest ih =>
  intro i s t P hit hL hd hn hR
  refine Mini.elEEAAA (P.2 0 p rfl) fun T u q1 q2 q3 q4=>?_
  refine yW zm2 ?_
  rw[jx zu2 _]
  show qK _ A.in1 (Z7 (.ref it) >>= _) _ _ s
  refine qq (wpAny_pyNext_list_item hit hL q1 fun h' hit' hk=>?_)
  have q4':=hk.extBut _ _ q3 q4
  have hd':h'.DictOf (kZ prog w) d t:=by
   refine Mini.elEEEA (hd) fun o es ep ho q=>?_
   exact⟨o,es,ep,hk.extBut _ _ n1 ho,q⟩
  dsimp only
  refine qq (jW ?_)
  refine qq (wpAny_tryCatch ?_)
  unfold Builtin.Dict.pairItems
  refine qq (wpAny_typeOf (T := "tuple") ⟨_,q4',rfl⟩ ?_)
  rw[if_pos (by decide)]
  refine qq (kx q4' rfl (qX ?_))
  refine jW ?_
  refine wpAny_dictSet_pairs (knd:=kZ prog w) (k:=p.1) (by simp[kZ,qz.isInt]) hd' (fun h'' hd'' hk''=>?_) (qv (qk ..) hn)
  have kk:∀ c o,c≠d->c≠it->s.heap.get? c=some o->h''.get? c=some o:=fun c o c1 c2 e=>hk''.extBut _ _ c1 (hk.extBut _ _ c2 e)
  have hc:((i:Int)+1)=((i+1:Nat):Int):=by push_cast;rfl
  refine qX ⟨Z4 zu2 _,?_⟩
  rw[hc]
  refine ih (i+1) _ _ (P.tail.keep kk) (hit'.extBut hk''.extBut n1.symm) ((hL.extBut hk.extBut n3).extBut hk''.extBut n2.symm) hd'' ?_ fun h3 tk3 k3 d3=>hR h3 tk3 (fun c o c1 c2 e=>k3 c o c1 c2 (kk c o c1 c2 e)) d3
  have:=xq5 (t:=t) (k:=p.1) (v:=p.2)
  simp only[xV]at hn
  lia
theorem ys7 {L:Addr}{acc:Array qz}{c:Nat}{ps:List (Int×qz)}{Q:qz->qw->Prop}(hh:A.handled=none)(hL:s.heap.get? L=some { cls:=.type "list", dict:=none,data:=.seq acc c,slots:=#[] })(ha:acc.size=ps.length)
  (P:∀(j:Nat)(p:Int×qz),ps[j]?=some p->∃ T u,acc[j]?=some (.ref T)/\yw s.heap T (.int p.1 u) p.2) (hn:ps.length<=kW)
  (hQ:∀ h' tk,(∀ c o,s.heap.get? c=some o->h'.get? c=some o)->h'.DictOf (kZ prog w) s.heap.objs.size (yy6 ps [])->Q (.ref s.heap.objs.size) { s with heap:=h',toks:=tk }) :
  qK (zx prog w) A (call (.type "dict") [.ref L]) Q E s:=by
 refine callType_codes (Q₁:=fun obj s₁=>obj=.ref s.heap.objs.size/\s₁={ s with heap:=s.heap.push { cls:=.type "dict", data:=.dict #[] } }) F.kt_called_dict (F.kt_typeCall_dict_1 _) F.entry_dict_init (kt_code_dict_new _ ⟨rfl,rfl⟩) ?_
 rintro obj s₁ ⟨rfl,rfl⟩
 have hnew:(s.heap.push { cls:=.type "dict", data:=.dict #[] }).DictOf (kZ prog w) s.heap.objs.size []:=Heap.DictOf.new s.heap
 have hL':(s.heap.push { cls:=.type "dict", data:=.dict #[] }).get? L=some { cls:=.type "list", dict:=none,data:=.seq acc c,slots:=#[] }:=qQ _ hL
 have ne:∀{c o},s.heap.get? c=some o->s.heap.objs.size≠c:=fun e=>kj (xk e)
 refine Mini.iAA hnew.typeIs (F.args_dict_init_2 _ _) ?_
 unfold Builtin.«dict.__init__»
 refine qq ?_
 unfold Builtin.Dict.selfAndRest
 refine qq (wpAny_notOrdered_dict hnew.typeIs ?_)
 show qK _ _ (pure (s.heap.objs.size,[qz.ref L])) _ _ _
 refine qX ?_
 show qK _ _ (Builtin.Dict.updateFrom "dict.__init__" s.heap.objs.size (.ref L) [] .none) _ _ _
 unfold Builtin.Dict.updateFrom
 refine qq (wpAny_typeOf (T := "list") ⟨_,hL',rfl⟩ ?_)
 rw[if_pos (by decide)]
 refine qq (xh9 hL' hh fun h₁ tk₁ e₁ x=>?_)
 simp only[Option.isNone_none,if_true]
 refine qq (Qw ?_)
 have hL₁:h₁.IsList L acc:=⟨_,x.keeps _ _ hL',rfl,_,rfl⟩
 refine qq (wpAny_pyIter_list hL₁ ?_)
 have hd₁:(h₁.push { cls:=.type "list_iterator", data:=.fields #[.ref L,.int 0 0] }).DictOf (kZ prog w) s.heap.objs.size []:=by
  refine Mini.elEEEA (hnew) fun o es ep ho q=>?_
  exact⟨o,es,ep,qQ _ (x.keeps _ _ ho),q⟩
 have up:∀ c o,s.heap.get? c=some o->(h₁.push { cls:=.type "list_iterator", data:=.fields #[.ref L,.int 0 0] }).get? c=some o:=fun c o e=>qQ _ (x.keeps _ _ (qQ _ e))
 have ni:∀{c o},h₁.get? c=some o->h₁.objs.size≠c:=fun e=>kj (xk e)
 have nd:s.heap.objs.size≠h₁.objs.size:=by
  refine Mini.elEEEA (hnew) fun o es ep ho q=>?_
  exact(ni (x.keeps _ _ ho)).symm
 refine qX ⟨Z4 zu2 _,?_⟩
 refine xb4 (A:=A.in1) hh nd (ne hL) (ni (x.keeps _ _ hL')).symm ps 0 _ [] ⟨by rw[ha,u0],fun j p e=>?_⟩ ⟨_,x7 _ rfl,rfl,rfl⟩ ⟨_,up _ _ hL,rfl,_,rfl⟩ hd₁ (by rw[List.length_nil,u0];exact hn) fun h' tk k d=>⟨rfl,hQ h' tk (fun c o e=>?_) d⟩
 ·refine Mini.elEEA (P j p e) fun T u q1 q2=>?_
  exact Mini.iEEAAA T u (by rw[u0];exact q1) ((ne q2).symm) ((ni (x.keeps _ _ (qQ _ q2))).symm) (up _ _ q2)
 ·exact k c o (ne e).symm (ni (x.keeps _ _ (qQ _ e))).symm (up _ _ e)
end
noncomputable def wc2 (d:D):Int:=match d with
 | .int i=>i
 | _=>0
noncomputable def pz (ks:List D)(us:List qz):List (Int×qz):=(ks.zip us).map fun p=>(wc2 p.1,p.2)
section
variable {w:wz}{F:Fz}
set_option tactic.hygienic true in
theorem yj4 {t:List (Int×qz)}{k:Int}{v:qz}(h:(t.map (·.1)).Nodup):((stored t k v).map (·.1)).Nodup:=by
 unfold stored
 split
 ·rw[yk]
  have:((fun x:Int×qz=>x.1)∘fun kv:Int×qz=>if kv.1=k then (kv.1,v) else kv)=fun x=>x.1:=by
   funext x;show (if x.1=k then (x.1,v) else x).1=x.1;split<;>rfl
  rw[this];exact h
 ·rename_i hn
  rw[Zz,ux]
  refine Mini.iAA h (by simp) (fun a ha b hb e=>?_)
  simp only[x6,List.map_nil,xq]at hb
  subst e hb
  refine hn (List.any_eq_true.mpr ?_)
  refine elEA (zX.mp ha) fun x hx e=>?_
  exact Mini.iEA x hx (decide_eq_true e)
theorem xc7:∀{ks vs:List D}{us:List qz},(ks.all fun k=>zv7 k==some 0)=true->RepL w F vs us->∀{kvs:List (D×D)}{t:List (Int×qz)},Abs w F kvs t->(t.map (·.1)).Nodup->Abs w F (xx3 (ks.zip vs) kvs) (yy6 (pz ks us) t)
 | [],vs,us,_,_,kvs,t,a,_=>a
 | k::ks,[],us,_,r,kvs,t,a,_=>by simp only[zs4]at r;subst r;exact a
 | k::ks,v::vs,us,hk,r,kvs,t,a,hn=>by
  simp only[zv1]at r
  (refine elEEAA (r) fun u us' e_2 ru r_n=>?_;clear r;revert r_n;intro r;subst e_2)
  simp only[QV,zj,beq_iff_eq]at hk
  obtain ⟨i,rfl⟩:=xh8 hk.1
  exact xc7 (x8.mpr fun x hx=>by simpa using x8.mp hk.2 x hx) r (yw3 ru a hn) (yj4 hn)
theorem yf5:∀{l t:List (D×D)},(xx3 l t).length<=t.length+l.length
 | [],t=>zv _
 | p::l,t=>by
  refine qv (yf5 (l:=l)) ?_
  have:=zl7 (k:=p.1) (v:=p.2) (kvs:=t)
  simp only[xV];lia
theorem wf8 {ks:List D}{us:List qz}{j:Nat}{p:Int×qz}(h:(pz ks us)[j]?=some p):∃ k,ks[j]?=some k/\us[j]?=some p.2/\p.1=wc2 k:=by
 unfold pz at h
 rw[yy]at h
 cases e:(ks.zip us)[j]? with
 | none=>rw[e]at h;cases h
 | some q =>
  rw[e]at h;cases h
  have:=List.getElem?_zip_eq_some.mp e
  exact Mini.iEAA q.1 this.1 this.2 rfl
end
theorem nadd {c n:Nat}(h:c<n)(k:Nat):c≠n+k:=jJ (vZ h (qk ..))
theorem yk5 {n l t:Nat}(h1:l<n)(h2:t<n):ZipApart (n+4) (n+2) (n+3) n (n+1) l t:=by
 constructor<;>show ¬ (_:Nat)=(_:Nat)<;>lia
theorem wj5 (w:wz):xw1 w:=by
 intro prog A E s F n R hin hbig x y d a b ra rb hp
 refine bK1 hp fun ks hks hp=>bK1 hp fun vs hvs hp=>?_
 obtain rfl:=yk2 hks
 obtain rfl:=yk2 hvs
 by_cases hk:(ks.all fun k=>zv7 k==some 0)=true
 rotate_left
 ·exact(noS ((if_neg hk).symm.trans hp)).elim
 have hp:=(if_pos hk).symm.trans hp
 cases hp
 simp only[zm8]at ra rb
 (refine zv4 (ra) fun hz1 l1 o1 xs m1 e_5 hF1 c1 d1 r1=>?_;subst e_5)
 (refine zv4 (rb) fun hz2 l2 o2 ys m2 e_5 hF2 c2 d2 r2=>?_;subst e_5)
 have hl1:=hin _ _ hF1
 have hl2:=hin _ _ hF2
 have b1:=xk hl1
 have b2:=xk hl2
 have e1:=r1.length
 have e2:=r2.length
 rw[ww]at e1 e2
 refine call_zip_2 (xs:=xs) (ys:=ys) ⟨_,hl1,c1,_,d1⟩ ⟨_,hl2,c2,_,d2⟩ fun h' hz hTI hTO hi1 hi2 hsz keep=>?_
 generalize hn0:s.heap.objs.size=N at *
 have D:ZipApart (N+4) (N+2) (N+3) N (N+1) l1 l2:=yk5 b1 b2
 have W:ZW (N+4) (N+2) (N+3) N (N+1) l1 l2 xs ys 0 h':=⟨.inl hz,hTI,⟨_,_,hTO⟩,hi1,hi2,⟨_,keep _ _ hl1,c1,_,d1⟩,⟨_,keep _ _ hl2,c2,_,d2⟩⟩
 have hmin:min xs.size ys.size<=kW:=by rw[zn3];lia
 refine yk0 (s:={ s with heap:=h' }) R.handled D hmin hz W fun h₂ acc c kz hS hsa P=>?_
 have hlen:(pz ks ys.toList).length=min xs.size ys.size:=by unfold pz;simp[e1]
 refine ys7 (s:={ s with heap:=h₂ }) (ps:=pz ks ys.toList) R.handled hS (by rw[hlen];exact hsa) (fun j p hj=>?_) (by rw[hlen];exact hmin) fun h₃ tk k3 dd=>?_
 ·refine zx4 (wf8 hj) fun k q1 q2 q3=>?_
  have hjl:j<acc.size:=by
   rw[hsa,<- hlen];exact(qV.mp hj).1
  refine elEEEAAAA (P j _ (zk hjl)) fun T x y t1 t2 t3 t4 _=>?_
  have hy:y=p.2:=by rw[xK,t3]at q2;exact xv q2
  have hki:=x8.mp hk k (xZ q1)
  obtain ⟨i,rfl⟩:=xh8 (beq_iff_eq.mp hki)
  refine elEA (r1.get q1) fun v hv rv=>?_
  rw[xK,t2]at hv
  cases hv
  simp only[zq2]at rv
  obtain ⟨u,rfl⟩:=rv
  refine Mini.iEEA T u (by rw[zk hjl,t1]) ?_
  rw[q3,<- hy];exact t4
 ·have nn:∀{c o},s.heap.get? c=some o->c<N:=fun e=>hn0▸xk e
  have hs2:h₂.objs.size≠0:=fun e=>absurd (xk hS) (by rw[e];exact Nat.not_lt_zero _)
  have big:h'.objs.size<h₂.objs.size:=xk hS
  refine⟨h₃,tk,rfl,fun c o e=>k3 _ _ (kz _ _ ?_ ?_ ?_ ?_ (keep _ _ e)),_,rfl,?_,?_⟩
  ·exact nadd (nn e) 4
  ·exact nadd (nn e) 3
  ·exact nadd (nn e) 0
  ·exact nadd (nn e) 1
  ·cases e:s.heap.get? h₂.objs.size with
   | none=>rfl
   | some o=>exact absurd (nn e) (QK.mpr (by have:N+5<=h₂.objs.size:=hsz▸zz big;lia))
  ·refine yv6 (xc7 hk r2 .nil kJ) ?_ (Z8 hbig (z8 (hsz▸qk ..) big)) dd
   have:=yf5 (l:=ks.zip vs) (t:=[])
   rw[List.length_zip]at this
   simp only[List.length_nil]at this
   lia
open PySem Mini PySem.W PyProof.Rows PySem.SeqAt
theorem yt2 {d:D}(h:xg4 d=true):∃ i,d=.int i:=by
 cases d<;>first|exact(qj h).elim|exact⟨_,rfl⟩
theorem xl5 {d:D}{f:D->Bool}(hf:∀ d,(∀ l,d≠.tuple l)->f d=false)(h0:f (.tuple [])=false)(h:f d=true):∃ x l,d=.tuple (x::l):=by
 by_cases q:∃ l,d=.tuple l
 ·obtain ⟨l,rfl⟩:=q
  cases l with
  | nil=>rw[h0]at h;exact(qj h).elim
  | cons x l=>exact Mini.iEE x l rfl
 ·rw[hf d fun l e=>q ⟨l,e⟩]at h;exact(qj h).elim
theorem zj9 {d:D}(h:za4 d=true):∃ s l,d=.tuple (.str s::l):=by
 refine elEE (xl5 (f:=za4) (fun d q=>by cases d<;>first|rfl|exact absurd rfl (q _)) rfl h) fun x l e=>?_
 subst e
 cases x<;>first|exact(qj h).elim|exact Mini.iEE _ _ rfl
theorem yq4 {d:D}(h:yk9 d=true):∃ s l,d=.tuple (.tuple s::l):=by
 refine elEE (xl5 (f:=yk9) (fun d q=>by cases d<;>first|rfl|exact absurd rfl (q _)) rfl h) fun x l e=>?_
 subst e
 cases x<;>first|exact(qj h).elim|exact Mini.iEE _ _ rfl
section
variable {prog:vw}{w:wz}{A:zJ}{E:qz->qw->Prop}{s:qw}{F:Fz}
theorem yg3 {b:Bool}{Q:Bool->qw->Prop}(hin:F.In s.heap):∀(xs ys:List D)(vs us:List qz)(i:Nat)(c:Bool),RepL w F xs vs->RepL w F ys us->vz xs=true->vz ys=true ->
  A.units+vy xs<cLine->(i=0->b=true->∀ x y xs' ys',xs=x::xs'->ys=y::ys'->∃ p q,x=.str p/\y=.str q)->ltL xs ys=some c->Q c s ->
  KatLex prog w A b (decide (xs.length<ys.length)) Q (vs.zip us) i s
 | [],ys,vs,us,i,c,rx,ry,_,_,_,_,h,q=>by
  simp only[zs4]at rx;subst rx
  rw[List.zip_nil_left]
  refine kat_nil ?_
  cases ys with
  | nil=>rw[wm7]at h;cases h;exact q
  | cons y ys=>rw[wd2]at h;cases h;simpa using q
 | x::xs,[],vs,us,i,c,rx,ry,_,_,_,_,h,q=>by
  simp only[zs4]at ry;subst ry
  rw[List.zip_nil_right]
  refine kat_nil ?_
  rw[wx0]at h;cases h;simpa using q
 | x::xs,y::ys,vs,us,i,c,rx,ry,hx,hy,hu,hb,h,q=>by
  simp only[zv1]at rx ry
  (refine elEEAA (rx) fun v vt e_2 r1 r2=>?_;subst e_2)
  (refine elEEAA (ry) fun u ut e_2 r3 r4=>?_;subst e_2)
  simp only[vz,zj]at hx hy
  simp only[vy]at hu
  obtain ⟨as,rd1⟩:=Rep.reads hin x r1
  obtain ⟨bs,rd2⟩:=Rep.reads hin y r3
  rw[k6]
  have hd:decide ((x::xs).length<(y::ys).length)=decide (xs.length<ys.length):=by simp
  rw[hd]
  refine kat_cons (eqAt_reads x y A s v u as bs rd1 rd2 hx.1 hy.1 (z8 (qZ (qv (j5 ..) (Nat.le_max_left ..)) _) hu) prog w _ _ ?_)
  rw[xo4]at h
  by_cases e:z7 x y=true
  ·rw[e]
   rw[if_pos e]at h
   refine kat_yes (yg3 hin xs ys vt ut (i+1) c r2 r4 hx.2 hy.2 (z8 (qZ (Q3 ..) _) hu) (fun h0=>by lia) h q)
  ·have e':z7 x y=false:=by simpa using e
   rw[e']
   rw[if_neg e]at h
   refine kat_no ?_
   by_cases hbi:(b&&i==0)=true
   ·rw[hbi]
    simp only[zj,beq_iff_eq]at hbi
    (refine elEEA (hb hbi.2 hbi.1 _ _ _ _ rfl rfl) fun p p' e_2 e_3=>?_;subst e_2;subst e_3)
    simp only[zj8]at r1 r3
    obtain ⟨t1,rfl⟩:=r1
    obtain ⟨t2,rfl⟩:=r3
    simp only[zk9,yu6,zb0]at h;cases h
    exact oneLt_str q
   ·have hbi':(b&&i==0)=false:=by simpa using hbi
    rw[hbi']
    refine kat_one v u ?_
    exact yp1 h rd1 rd2 hx.1 hy.1 (z8 (qZ (qv (j5 ..) (Nat.le_max_left ..)) _) hu) _ _ _ _ q
theorem yh6 {l:List D}(h:okd (.tuple l)=true):vz l=true/\vy l<=1000:=by
 have:=zy2 h
 simp only[vK,qW.depth]at this
 exact⟨this.1,by lia⟩
structure Kinded (prog:vw)(w:wz)(A:zJ)(F:Fz)(ds:List D)(vs:List qz)(s:qw)(κ:SortKind):Prop where
 kind:∀(E:qz->qw->Prop)(Q:SortKind->qw->Prop),Q κ s->qK (zx prog w) A (keyKind' vs.toArray) Q E s
 ask:∀ i j,i<ds.length->j<ds.length->∀ C:Bool->qw->Prop,C (decide (zk6 ds (ds.getD i .none)<zk6 ds (ds.getD j .none))) s->kas_ask prog w A κ vs i j C s
theorem RepL.getD_ {ds:List D}{vs:List qz}(r:RepL w F ds vs){i:Nat}(hi:i<ds.length):Rep w F (ds.getD i .none) (vs.getD i .none):=by
 refine elEA (r.get (qJ hi)) fun v hv rv=>?_
 rw[Zj,Zj,hv,qJ hi]
 exact rv
theorem zi7 {ds:List D}{i:Nat}(hi:i<ds.length):ds.getD i .none∈ds:=by
 rw[Zj,qJ hi];exact vX hi
theorem yd0 {f:D->Bool}{T:qz}(hin:F.In s.heap)(hT2:(T==T)=true)(hf:∀ d v,f d=true->Rep w F d v->∃ a o xs n u,v=.ref a/\s.heap.get? a=some o/\o.cls=.type "tuple" /\ o.data=.seq xs n/\xs[0]?=some u/\Looks (zx prog w) s.heap (typeOf u) T) :
  ∀{ds:List D}{vs:List qz},RepL w F ds vs->ds.all f=true->∃ fs,KatTups s.heap vs fs/\fs.length=vs.length/\∀ u∈fs,Looks (zx prog w) s.heap (typeOf u) T
 | [],vs,r,_=>by simp only[zs4]at r;subst r;exact Mini.iEAA [] (.nil) rfl (by simp)
 | d::ds,vs,r,h=>by
  simp only[zv1]at r
  (refine elEEAA (r) fun v t e_2 r1 r2=>?_;subst e_2)
  simp only[QV,zj]at h
  refine zx4 (yd0 hin hT2 hf r2 h.2) fun fs k hl hL=>?_
  (refine yz5 (hf d v h.1 r1) fun a o xs n u e_5 h1 h2 h3 h4 h5=>?_;subst e_5)
  refine Mini.iEAA (u::fs) (KatTups.cons h1 h2 h3 h4 k) (by simp[hl]) (fun y hy=>?_)
  rcases zQ.mp hy with rfl|hy
  ·exact h5
  ·exact hL y hy
theorem yo9 {ds:List D}{vs:List qz}{b:Bool}(hin:F.In s.heap)(r:RepL w F ds vs)(hs:Mini.sortable ds=true)(hu:A.units+1500<cLine)
  (hb:b=true->ds.all za4=true) (ht:∀ d∈ds,∃ l,d=.tuple l):∀ i j,i<ds.length->j<ds.length->∀ C:Bool->qw->Prop,C (decide (zk6 ds (ds.getD i .none)<zk6 ds (ds.getD j .none))) s->kas_ask prog w A (tuples' b) vs i j C s:=by
 intro i j hi hj C hC
 have hc:=zo6 hs
 have mi:=zi7 hi
 have mj:=zi7 hj
 have r1:=r.getD_ hi
 have r2:=r.getD_ hj
 have hlt:=yc7 hc mi mj
 unfold Mini.sortable at hs
 simp only[zj,x8]at hs
 have o1:=hs.1.1.1 _ mi
 have o2:=hs.1.1.1 _ mj
 have hb1:b=true->za4 (ds.getD i .none)=true:=fun q=>x8.mp (hb q) _ mi
 have hb2:b=true->za4 (ds.getD j .none)=true:=fun q=>x8.mp (hb q) _ mj
 obtain ⟨l1,e1⟩:=ht _ mi
 obtain ⟨l2,e2⟩:=ht _ mj
 unfold kas_ask
 generalize ds.getD i .none=d1 at *
 generalize ds.getD j .none=d2 at *
 subst e1 e2
 simp only[zr4]at r1 r2
 refine zu6 (r1) fun _ a1 xs n1 h1 k1 q1=>?_
 refine zu6 (r2) fun _ a2 ys n2 h2 k2 q2=>?_
 rw[h1,h2]
 simp only[zk9,yu6,zb0]at hlt
 have c1:=yh6 o1
 have c2:=yh6 o2
 refine kat_lt (hin _ _ k1) rfl (hin _ _ k2) rfl ?_
 have e1:=q1.length
 have e2:=q2.length
 simp at e1 e2
 rw[e1,e2]
 refine yg3 hin l1 l2 _ _ 0 _ q1 q2 c1.1 c2.1 (z8 (qZ (qv c1.2 (by decide)) _) hu) (fun _ hbt x y xs' ys' ex ey=>?_) hlt hC
 subst ex ey
 have t1:=hb1 hbt
 have t2:=hb2 hbt
 refine elEE (zj9 t1) fun p _ e1=>elEE (zj9 t2) fun q _ e2=>?_
 cases e1;cases e2
 exact Mini.iEEA _ _ rfl rfl
theorem ww0 {ds:List D}{vs:List qz}(r:RepL w F ds vs)(h:ds.all xg4=true):∃ ns,IntsAre vs ns:=by
 induction ds generalizing vs with
 | nil=>simp only[zs4]at r;subst r;exact⟨[],.nil⟩
 | cons d ds ih =>
  simp only[zv1]at r
  (refine elEEAA (r) fun v t e_2 r1 r2=>?_;subst e_2)
  simp only[QV,zj]at h
  obtain ⟨ns,q⟩:=ih r2 h.2
  obtain ⟨_,rfl⟩:=yt2 h.1
  simp only[zq2]at r1
  obtain ⟨u,rfl⟩:=r1
  exact⟨_::ns,.cons _ _ q⟩
theorem wd8 {ds:List D}{vs:List qz}(hin:F.In s.heap)(r:RepL w F ds vs)(hs:Mini.sortable ds=true)(h2:2<=ds.length)(hu:A.units+1500<cLine):∃ κ,Kinded prog w A F ds vs s κ:=by
 have hs':=hs
 have hc:=zo6 hs
 have hlen:=r.length
 unfold Mini.sortable at hs
 simp only[zj,Qk]at hs
 rcases hs.1.2 with (hi|ht)|ht
 ·obtain ⟨ns,hI⟩:=ww0 r hi
  refine⟨oneType',fun E Q q=>?_,fun i j hi' hj' C hC=>?_⟩
  ·obtain ⟨v₁,v₂,rest,rfl⟩:∃ v₁ v₂ rest,vs=v₁::v₂::rest:=by
    match vs,hlen with
    | [],e=>simp at e;lia
    | [_],e=>simp at e;lia
    | v₁::v₂::rest,_=>exact Mini.iEEE v₁ v₂ rest rfl
   exact wpAny_of_eq (keyKind_ints hI) q
  ·have mi:=zi7 hi'
   have mj:=zi7 hj'
   have r1:=r.getD_ hi'
   have r2:=r.getD_ hj'
   have hlt:=yc7 hc mi mj
   have i1:=x8.mp hi _ mi
   have i2:=x8.mp hi _ mj
   unfold kas_ask
   rw[keyLt'_oneType]
   generalize ds.getD i .none=d1 at *
   generalize ds.getD j .none=d2 at *
   obtain ⟨_,rfl⟩:=yt2 i1
   obtain ⟨_,rfl⟩:=yt2 i2
   simp only[zq2]at r1 r2
   obtain ⟨t1,h1⟩:=r1
   obtain ⟨t2,h2⟩:=r2
   rw[h1,h2]
   simp only[zk9,yu6,zb0,Q1]at hlt
   rw[<- hlt]at hC
   exact oneLt_int hC
 ·obtain ⟨fs,k,hl,hL⟩:=yd0 (prog:=prog) (f:=za4) (T:=uz "str") hin (by rfl) (fun d v hd rv=>by
    refine elEE (zj9 hd) fun ss l e=>?_
    subst e
    simp only[zj8,zr4,zv1]at rv
    (refine yz6 (rv) fun _ a xs n e_4 k1 u t hx ru _=>?_;subst e_4)
    obtain ⟨tt,rfl⟩:=ru
    refine Mini.iEEEEEAAAAA a _ xs n (.str ss tt) rfl (hin _ _ k1) rfl rfl ?_ (Looks.of_pure rfl)
    rw[<- xK,hx];rfl) r ht
  refine⟨tuples' (uz "str" != uz "tuple"),fun E Q q=>kat_kind k (by lia) hL (by rfl) q,yo9 hin r hs' hu (fun _=>ht) fun d hd=>?_⟩
  have:=x8.mp ht d hd
  exact elEE (zj9 this) fun _ _ e=>⟨_,e⟩
 ·obtain ⟨fs,k,hl,hL⟩:=yd0 (prog:=prog) (f:=yk9) (T:=uz "tuple") hin (by rfl) (fun d v hd rv=>by
    refine elEE (yq4 hd) fun ss l e=>?_
    subst e
    simp only[zr4,zv1]at rv
    (refine yz6 (rv) fun _ a xs n e_4 k1 u t hx ru _=>?_;subst e_4)
    (refine zu6 (ru) fun _ a2 xs2 n2 e_4 k2 _=>?_;subst e_4)
    refine Mini.iEEEEEAAAAA a _ xs n _ rfl (hin _ _ k1) rfl rfl ?_ (show Looks (zx prog w) s.heap (typeOf (.ref a2)) (tobj xs2 n2).cls from (Looks.ld (hin _ _ k2)).andThen .now)
    rw[<- xK,hx];rfl) r ht
  refine⟨tuples' (uz "tuple" != uz "tuple"),fun E Q q=>kat_kind k (by lia) hL (by rfl) q,yo9 hin r hs' hu (fun q=>?_) fun d hd=>?_⟩
  ·exact absurd q (by decide)
  ·have:=x8.mp ht d hd
   exact elEE (yq4 this) fun _ _ e=>⟨_,e⟩
end
variable {a b c i j k l m n p q r u x z h sa na nb off:Nat}
theorem t1 (h:a<b)(g:b<=c):a<c:=vZ h g
theorem t2 (h:a<=b)(g:b<c):a<c:=z8 h g
theorem bl (h:a<n)(g:b+n<=z):b+a<z:=t1 (uX h b) g
theorem hf1 (h:¬l >= u):l+(u - l) / 2<u:=j0 (Nat.div_lt_self (Zw (yJ h)) Nat.one_lt_two)
theorem hf2 (q:u - l<=n - x):u - (l+(u - l) / 2+1)<=n - (x+1):=by
 rw[x0,Nat.sub_add_eq,Nat.sub_add_eq n x 1]
 exact qv (Nat.sub_le_sub_left (w3 1 _) _) (Nat.sub_le_sub_right q 1)
theorem hf3 (h:¬l >= u)(q:u - l<=n - x):l+(u - l) / 2 - l<=n - (x+1):=by
 rw[uy,Nat.sub_add_eq n x 1]
 exact qv (wj (Nat.div_lt_self (Zw (yJ h)) Nat.one_lt_two)) (Nat.sub_le_sub_right q 1)
theorem hge (h:l<=r):(l+r) / 2=l+(r - l) / 2:=by
 have e:l+r=(r - l)+l*2:=by rw[Nat.mul_two,<- x0,xW h,wJ]
 rw[e,Nat.add_mul_div_right _ _ Nat.two_pos,wJ]
theorem hg0 (h:¬l >= r):l<=(l+r) / 2:=by rw[hge (zz (yJ h))];exact qk _ _
theorem hg1 (h:¬l >= r):(l+r) / 2<r:=by rw[hge (zz (yJ h))];exact hf1 h
theorem hg2 (h:¬l >= r)(q:r - l<=n - x):r - ((l+r) / 2+1)<=n - (x+1):=by rw[hge (zz (yJ h))];exact hf2 q
theorem hg3 (h:¬l >= r)(q:r - l<=n - x):(l+r) / 2 - l<=n - (x+1):=by rw[hge (zz (yJ h))];exact hf3 h q
theorem hfz (g:l<=u)(q:u - l<=n - max 0 n):l=u:=by
 rw[Nat.zero_max,Nat.sub_self]at q
 exact jy g (yZ (Nat.le_zero.mp q))
theorem hfc {P:Prop}(q:max 0 n+1<=u)(g:u<=n):P:=absurd (t1 q g) (QK.mpr (Q3 0 n))
theorem gm1 (g:l<u)(q:l<n - h):h+l+1<=h+min u (n - h):=qZ (Nat.le_min.mpr ⟨g,q⟩) h
theorem gm2 (g:h<n):h+min u (n - h)<=n:=qv (qZ (Q2 ..) h) (xx (wX (zz g)))
theorem gm3 (g:h<n)(hi:h+min u (n - h)<=i)(hin:i<n):u<n - h:=yJ fun f=>by
 rw[ZX f,wX (zz g)]at hi;exact absurd hin (QK.mpr hi)
theorem gm4 (hi:h+min u (n - h)<=i)(g:u<n - h):h+u<=i:=by rwa [wV (zz g)]at hi
theorem gm5 (g:l<u)(q:l<=h):h+1 - min u (h+1)<=h - l:=qv (Nat.sub_le_sub_left (Nat.le_min.mpr ⟨g,xz q⟩) _) (xx (Nat.add_sub_add_right h 1 l))
theorem gm6 (hi:i<h+1 - min u (h+1)):u<=h:=z9 fun g=>by rw[ZX g,Nat.sub_self]at hi;exact Nat.not_lt_zero _ hi
theorem gm7 (hi:i<h+1 - min u (h+1)):i<=h - u:=by
 have g:=gm6 hi
 rw[wV (uw g),Nat.sub_add_comm g]at hi
 exact uk hi
theorem gs (g:¬u >= n - h):h+u<n:=j0 (yJ g)
theorem mi1 (g:k<j):i<=i+j - 1 - k:=Nat.le_sub_of_add_le (wj (uX g i))
theorem mi2 (g:i<=k)(f:k<j):i+j - 1 - k<j:=Nat.sub_lt_left_of_lt_add (wj (t1 f (w3 j i)))
 (t1 (Nat.sub_lt (t1 (Nat.zero_lt_of_lt f) (w3 j i)) Nat.one_pos) (w5 g j))
theorem p1 (h:1<=n):a+n - 1<a+n:=Nat.sub_lt (t1 h (w3 n a)) Nat.one_pos
theorem p2 (g:k<=n)(f:¬k=n):k<=n - 1:=wj (jv g f)
theorem p3 (g:a<=i)(f:i<a+n):i - a<n:=Nat.sub_lt_left_of_lt_add g f
theorem p4 (g:a+k<=i)(f:i<a+n):i - a<n:=p3 (qv (qk ..) g) f
theorem p5 (g:a+k<=j):k<=j - a:=Nat.le_sub_of_add_le' g
theorem p6 (g:a+k<=j):a+(j - a)=j:=wX (qv (qk ..) g)
theorem p7 (g:a+b+c<=z):a+b<=z:=qv (qk ..) g
theorem p8:n<=n+a+b:=qv (qk ..) (qk ..)
theorem p9 (h:1<=n):n - 1<n:=Nat.sub_lt h Nat.one_pos
theorem ls1 (g:l<a+(n+1))(e:¬l=a+n):l<a+n:=jv (uk g) e
theorem ls2 (g:a+(n+1) - (0+1)<=i)(f:i<a+(n+1)):i=a+(n+1) - 1:=jy (uk f) g
theorem ls3 (g:q+1<=m):a<=a+m - (q+1):=Nat.le_sub_of_add_le (qZ g a)
theorem lg1 (g:¬k<off+n)(f:k<z):k - off - n<min z z - (off+n):=by rw[Nat.min_self,Nat.sub_sub];exact Nat.sub_lt_sub_right (z9 g) f
theorem lg2 (g:¬k<off+n):off+n+(k - off - n)=k:=by rw[Nat.sub_sub];exact wX (z9 g)
theorem lg3 (g:¬k<off+n)(f:¬k<z):z<=k - off - n+(off+n):=by rw[Nat.sub_sub,xW (z9 g)];exact z9 f
theorem lg4 (g:k<off)(f:off+n<=z):k<min off z - 0:=Nat.lt_min.mpr ⟨g,t1 (t1 g (qk ..)) f⟩
theorem lg5 (g:i+k<j)(f:j<=z):k<min j z - i:=by rw[wV f];exact Nat.lt_sub_of_add_lt (wJ i k▸g)
theorem lg6 (g:k<min j z - i):i+k<j:=t1 (j0 g) (j5 ..)
theorem lg7 (g:k<min j z - i):i+k<z:=t1 (j0 g) (Q2 ..)
theorem ma2 (g:k<=na):sa+k+(na - k) - 1=sa+na - 1:=by rw[x0,wX g]
theorem ma1 (g:k<=na)(f:1<=na)(e:sa+na+nb<=z):sa+k+(na - k) - 1<z:=by rw[ma2 g];exact t1 (p1 f) (p7 e)
theorem ma3 (e:sa+na+nb<=z):min (sa+na) z - (sa+k)=na - k:=by rw[wV (p7 e),Nat.add_sub_add_left]
theorem ma4 (e:sa+na+nb<=z)(g:m<=nb):min (sa+na+m) z - (sa+na)=m:=by rw[wV (qv (qZ g _) e),uy]
theorem ma5 (e:x=na - k)(g:j<x):sa+k+j<sa+na:=by rw[x0];exact uX (j0 (e▸g)) sa
theorem ma6 (e:x=na - k)(g:k<=na)(f:na - k≠0):sa+k+(x - 1)=sa+na - 1:=by
 rw[e,<- Nat.add_sub_assoc (Nat.pos_of_ne_zero f),x0,wX g]
theorem ma7 (e:x=na - k+m)(g:k<=na):sa+k+x=sa+na+m:=by rw[e,x0,<- x0 k,wX g,x0]
theorem w1:∀{n:Nat},¬n<=1->n - 2+1<n
 | 0,h=>absurd (vq 1) h
 | 1,h=>absurd (zv 1) h
 | n+2,_=>ky (n+1)
theorem w2 (h:¬n<=1):n - 2 - 1+1<n:=t2 (xz (Q6 ..)) (w1 h)
theorem ma8 (e:sa+k+x=b)(g:p<sa+k\/b<=p):¬(sa+k<=p/\p<sa+k+x):=fun w=>g.elim (fun f=>absurd w.1 (Nat.not_le.mpr f)) fun f=>absurd (e▸w.2) (QK.mpr f)
theorem nbe {a b:Nat}(h:¬(a==b)=true):a≠b:=fun e=>h (beq_iff_eq.mpr e)
theorem cz {P:Prop}(h1:a+1<m)(h2:b<n)(h3:max 0 (m+n)<=a+b):P:=absurd (t1 (Nat.add_lt_add (j9 h1) h2) (Q3 0 _)) (QK.mpr h3)
theorem cy {P:Prop}(h1:1<=a)(h3:a+b+(n+max 0 z)<=z):P:=absurd h3 (Nat.not_le.mpr (t2 (qv (Q3 0 z) (w3 _ n)) (Nat.lt_add_of_pos_left (t1 h1 (qk ..)))))
theorem cy2 {P:Prop}(h1:1<=a)(h3:a+b+(max 0 z+1)<=z):P:=cy (n:=1) h1 (by rw[wJ 1];exact h3)
theorem q2 (h:2<=n)(e:¬(n - 1==1)=true):2<=n - 1:=jv (wj h) fun x=>nbe e x.symm
theorem q3 (e:¬(k==1)=true)(f:¬(k==0)=true):2<=k:=jv (Nat.pos_of_ne_zero (nbe f)) (nbe e).symm
theorem eo (h:i<z):min (i+1) z - i=1:=by rw[wV (show i+1<=z from h)];exact uy ..
theorem sz0 (h:¬n - k > 0):n<=k:=yZ (Nat.le_zero.mp (z9 h))
theorem ul1 (g:1+a<=b)(h:n+b<z):n+1+a<z:=by rw[x0];exact t2 (qZ g n) h
theorem ul2 (g:2+a<=b)(h:n+b<z):n+1+1+a<z:=by rw[x0 n 1 1,x0];exact t2 (qZ g n) h
theorem ul0 (h:n+k+b<z)(g:a<=b):n+a<z:=t2 (jQ (qk ..) g) h
theorem hi0 (h:1<=m):m - 1+n+(0+1)<=m+n:=xx (by rw[u0,Nat.add_right_comm,xW h])
theorem hdA (h:1<=a)(g:a+b+m<=z):a - 1+b+(m+1)<=z:=by
 rw[<- Nat.sub_add_comm h,wJ m 1,<- x0,xW (qv h (qk ..))];exact g
theorem hdC (h:1<=b)(g:a+b+m<=z):a+(b - 1)+(m+1)<=z:=by
 rw[<- Nat.add_sub_assoc h,wJ m 1,<- x0,xW (qv h (w3 ..))];exact g
theorem jl1 (h:i+1=z)(g:i<=j)(f:j<z):j=z - 1:=jy (wj f) (by rw[<- h];exact g)
theorem bub {f:Nat->Nat}{X:Nat}(hs:∀ i j,a<=i->i<=j->j<q->f i<=f j)(h1:∀ i,a<=i->i<p->f i<=X)(h2:∀ i,p<=i->i<q->X<=f i)(hp:a<=p)(hpq:p<=q)(hi:a<=i)(hij:i<=j)(hj:j<q+1) :
  (if i=p then X else if p<i/\i<=q then f (i - 1) else f i)<=if j=p then X else if p<j/\j<=q then f (j - 1) else f j:=by
 have jq:j<=q:=uk hj
 have lo:∀ k,k<p->(if k=p then X else if p<k/\k<=q then f (k - 1) else f k)=f k:=fun k g=>by rw[if_neg (jJ g),if_neg fun e=>absurd e.1 (Nat.lt_asymm g)]
 have up:∀ k,p<k->k<=q->(if k=p then X else if p<k/\k<=q then f (k - 1) else f k)=f (k - 1):=fun k g e=>by rw[if_neg (kj g),if_pos ⟨g,e⟩]
 have jl:p<j->j - 1<q:=fun g=>t1 (p9 (Nat.zero_lt_of_lt g)) jq
 rcases Nat.lt_trichotomy i p with g|g|g
 ·rw[lo i g]
  rcases Nat.lt_trichotomy j p with e|e|e
  ·rw[lo j e]
   exact hs i j hi hij (t1 e hpq)
  ·rw[if_pos e];exact h1 i hi g
  ·rw[up j e jq];exact hs i _ hi (wj (Z8 g e)) (jl e)
 ·rw[if_pos g]
  rcases Nat.lt_or_eq_of_le (g▸hij:p<=j) with e|e
  ·rw[up j e jq];exact h2 _ (wj e) (jl e)
  ·rw[if_pos e.symm];exact zv _
 ·rw[up i g (qv hij jq),up j (t1 g hij) jq]
  exact hs _ _ (qv hp (wj g)) (Nat.sub_le_sub_right hij 1) (jl (t1 g hij))
end Snd
end
section
namespace Snd
open PySem PyProof.Rows
section
variable {σ:Type}{M:Model}{A:zJ}{E:qz->qw->Prop}{s:qw}
theorem zw7 {β:Type}{a b:Nat}{f:Nat->β->StateT σ Sem (ForInStep β)}(I:Nat->β->σ->Prop){Q:β->σ->Prop}
  (hstep:∀ g,g=f->∀ i c st,a<=i->i<b->I i c st->wpS M A E s (g i c) (fun r st'=>match r with|.done c'=>Q c' st'|.yield c'=>I (i+1) c' st') st)
  (hend:∀ c st,I (max a b) c st->Q c st) {c:β} {st:σ} (h:I a c st):wpS M A E s (forIn [a:b] c f) Q st:=wpS_forRange I (hstep f rfl) hend h
theorem zw2 {α β:Type}{m:StateT σ Sem α}{f:α->StateT σ Sem β}{Q:β->σ->Prop}{st:σ}
  (h:∀ g,g=f->wpS M A E s m (fun a st'=>wpS M A E s (g a) Q st') st):wpS M A E s (m >>= f) Q st:=zZ (h f rfl)
end
section
variable {σ α:Type}{M:Model}{A:zJ}{E:qz->qw->Prop}{s:qw}{m m':StateT σ Sem α}{Q:α->σ->Prop}{st:σ}{c:Prop}[Decidable c]
set_option tactic.hygienic true in
theorem zz2 (h1:c->wpS M A E s m Q st)(h2:¬c->wpS M A E s m' Q st):wpS M A E s (if c then m else m') Q st:=by
 split
 ·rename_i h;exact h1 h
 ·rename_i h;exact h2 h
end
noncomputable def zr2:Bool->z0->Array z0->Nat->Nat->Nat->StateT zK Sem (Option Nat):=sortPriv% PySem.Builtin.gallop
noncomputable def bey' (left:Bool)(key:z0)(arr:Array z0)(i:Nat):StateT zK Sem (Option Bool):=do
 let x <- yX arr i
 if left then lt' x key else return (<- lt' key x).map (!·)
noncomputable def yw6 (left:Bool)(key:z0)(arr:Array z0)(base n lo hi:Nat):StateT zK Sem (Option Nat):=do
 let mut lo:=lo
 let mut hi:=hi
 for _ in [0:n] do
  if lo >= hi then break
  let m:=lo+(hi - lo) / 2
  let some more <- bey' left key arr (base+m)|return none
  if more then lo:=m+1 else hi:=m
 return some hi
noncomputable abbrev wu7:=Option (Option Nat)×Nat×Nat
noncomputable def galR (left:Bool)(key:z0)(arr:Array z0)(base n hint:Nat):StateT zK Sem wu7 :=
 forIn [0:n] ((none,0,1):wu7) fun _ c =>
  if c.snd.snd >= n - hint then pure (vJ (none,c.snd.fst,c.snd.snd))
  else do
   let x <- bey' left key arr (base+(hint+c.snd.snd))
   match x with
   | some more=>if (!more)=true then pure (vJ (none,c.snd.fst,c.snd.snd)) else pure (wZ (none,c.snd.snd,2*c.snd.snd+1))
   | _=>pure (vJ (some none,c.snd.fst,c.snd.snd))
noncomputable def galL (left:Bool)(key:z0)(arr:Array z0)(base n hint:Nat):StateT zK Sem wu7 :=
 forIn [0:n] ((none,0,1):wu7) fun _ c =>
  if c.snd.snd >= hint+1 then pure (vJ (none,c.snd.fst,c.snd.snd))
  else do
   let x <- bey' left key arr (base+(hint - c.snd.snd))
   match x with
   | some found=>if found=true then pure (vJ (none,c.snd.fst,c.snd.snd)) else pure (wZ (none,c.snd.snd,2*c.snd.snd+1))
   | _=>pure (vJ (some none,c.snd.fst,c.snd.snd))
theorem xn3 (left:Bool)(key:z0)(arr:Array z0)(base n hint:Nat):zr2 left key arr base n hint=(do
 let mut lastofs:=0
 let mut ofs:=1
 let mut lo:=0
 let mut hi:=0
 let some right <- bey' left key arr (base+hint)|return none
 if right then
  let maxofs:=n - hint
  for _ in [0:n] do
   if ofs >= maxofs then break
   let some more <- bey' left key arr (base+(hint+ofs))|return none
   if !more then break
   lastofs:=ofs
   ofs:=2*ofs+1
  lo:=hint+lastofs+1
  hi:=hint+min ofs maxofs
 else
  let maxofs:=hint+1
  for _ in [0:n] do
   if ofs >= maxofs then break
   let some found <- bey' left key arr (base+(hint - ofs))|return none
   if found then break
   lastofs:=ofs
   ofs:=2*ofs+1
  lo:=hint+1 - min ofs maxofs
  hi:=hint - lastofs
 for _ in [0:n] do
  if lo >= hi then break
  let m:=lo+(hi - lo) / 2
  let some more <- bey' left key arr (base+m)|return none
  if more then lo:=m+1 else hi:=m
 return some hi):=rfl
theorem xn4 (left:Bool)(key:z0)(arr:Array z0)(base n hint:Nat):zr2 left key arr base n hint=(do
 let x <- bey' left key arr (base+hint)
 match x with
 | some right =>
  if right=true then do
   let c <- galR left key arr base n hint
   match c.fst with
   | some r=>pure r
   | none=>yw6 left key arr base n (hint+c.snd.fst+1) (hint+min c.snd.snd (n - hint))
  else do
   let c <- galL left key arr base n hint
   match c.fst with
   | some r=>pure r
   | none=>yw6 left key arr base n (hint+1 - min c.snd.snd (hint+1)) (hint - c.snd.fst)
 | _=>pure none):=by
 rw[xn3]
 unfold galR galL yw6
 dsimp only
 congr 1
 funext x
 cases x with
 | none=>rfl
 | some r =>
  cases r with
  | true =>
   dsimp only
   rw[if_pos rfl,if_pos rfl]
   congr 1
   funext c
   obtain ⟨r,l,u⟩:=c
   cases r<;>rfl
  | false =>
   dsimp only
   rw[if_neg qj,if_neg qj]
   congr 1
   funext c
   obtain ⟨r,l,u⟩:=c
   cases r<;>rfl
section
variable {prog:vw}{w:wz}{A:zJ}{E:qz->qw->Prop}{s:qw}{κ:SortKind}{T:z0->Prop}{rk:z0->Nat}
noncomputable def Asks (prog:vw)(w:wz)(A:zJ)(s:qw)(κ:SortKind)(T:z0->Prop)(rk:z0->Nat):Prop :=
 ∀ x y,T x->T y->∀ Q:Bool->qw->Prop,Q (decide (rk x<rk y)) s->qK (zx prog w) A (keyLt' κ x.1 y.1) Q (fun _ _=>False) s
theorem yk6 (ha:Asks prog w A s κ T rk){st:zK}(hk:kindOf st=κ){x y:z0}(tx:T x)(ty:T y){Q:Option Bool->zK->Prop}(h:Q (some (decide (rk x<rk y))) st):wpS (zx prog w) A E s (lt' x y) Q st:=by
 rw[lt'_eq]
 refine zZ (wpS_get ?_)
 rw[hk]
 refine zZ (wpS_lift (wpAny_attempt (kK (ha x y tx ty (fun b s'=>s'=s/\b=decide (rk x<rk y)) ⟨rfl,rfl⟩) (fun b s' q=>⟨q.1,?_⟩) fun _ _ q=>q.elim)))
 rw[q.2]
 exact zV h
theorem zy1 {arr:Array z0}{i:Nat}{x:z0}{st:zK}(hi:arr[i]?=some x){Q:z0->zK->Prop}(h:Q x st):wpS (zx prog w) A E s (yX arr i) Q st:=by
 rw[elem'_eq,hi];exact zV h
noncomputable def Rk (rk:z0->Nat)(arr:Array z0)(i:Nat):Nat:=rk (arr.getD i (wk,wk))
theorem zy3 {arr:Array z0}{i:Nat}(h:i<arr.size):arr[i]?=some (arr.getD i (wk,wk)):=by
 rw[w0,zk h];rfl
noncomputable def Bey (rk:z0->Nat)(left:Bool)(key:z0)(arr:Array z0)(i:Nat):Bool:=if left then decide (Rk rk arr i<rk key) else !decide (rk key<Rk rk arr i)
theorem yn1 (ha:Asks prog w A s κ T rk){left:Bool}{key:z0}{arr:Array z0}{st:zK}(hk:kindOf st=κ)(tk:T key){i:Nat}(hi:i<arr.size)(ti:T (arr.getD i (wk,wk))){Q:Option Bool->zK->Prop}(h:Q (some (Bey rk left key arr i)) st) :
  wpS (zx prog w) A E s (bey' left key arr i) Q st:=by
 refine zZ (zy1 (zy3 hi) ?_)
 unfold Bey Rk at h
 cases left
 ·exact zZ (yk6 ha hk tk ti (zV h))
 ·exact yk6 ha hk ti tk h
theorem yq2 (ha:Asks prog w A s κ T rk){left:Bool}{key:z0}{arr:Array z0}{st:zK}(hk:kindOf st=κ)(tk:T key){base n lo hi:Nat}(hn:base+n<=arr.size)
  (ht:∀ i,i<n->T (arr.getD (base+i) (wk,wk))) (mono:∀ i j,i<=j->j<n->Bey rk left key arr (base+j)=true->Bey rk left key arr (base+i)=true)
  (h1:lo<=hi) (h2:hi<=n) (hl:∀ i,i<lo->Bey rk left key arr (base+i)=true) (hg:∀ i,hi<=i->i<n->Bey rk left key arr (base+i)=false) {Q:Option Nat->zK->Prop}
  (h:∀ k,k<=n->(∀ i,i<k->Bey rk left key arr (base+i)=true)->(∀ i,k<=i->i<n->Bey rk left key arr (base+i)=false)->Q (some k) st) :
  wpS (zx prog w) A E s (yw6 left key arr base n lo hi) Q st:=by
 unfold yw6
 dsimp only
 refine zw2 fun gg hgg=>?_
 refine k9 (zw7 (I:=fun x c st'=>st'=st/\c.1=none/\c.2.1<=c.2.2/\c.2.2<=n/\c.2.2 - c.2.1<=n - x/\(∀ i,i<c.2.1->Bey rk left key arr (base+i)=true)/\∀ i,c.2.2<=i->i<n->Bey rk left key arr (base+i)=false)
  (Q:=fun c st'=>st'=st/\c.1=none/\c.2.2<=n/\(∀ i,i<c.2.2->Bey rk left key arr (base+i)=true)/\∀ i,c.2.2<=i->i<n->Bey rk left key arr (base+i)=false) ?step ?fin ?init) ?post
 case init=>exact⟨rfl,rfl,h1,h2,qv (Q6 _ _) h2,hl,hg⟩
 case fin =>
  rintro ⟨r,l,u⟩ st' ⟨e,e2,q1,q2,q3,q4,q5⟩
  dsimp only at q1 q2 q3 q4 q5 |-
  have:=hfz q1 q3
  subst this
  exact⟨e,e2,q2,q4,q5⟩
 case post =>
  rintro ⟨r,l,u⟩ st' ⟨rfl,rfl,q2,q4,q5⟩
  subst hgg
  exact zV (h u q2 q4 q5)
 case step =>
  intro ff hff
  rintro x ⟨r,l,u⟩ st' _ hx ⟨rfl,rfl,q1,q2,q3,q4,q5⟩
  subst hff
  dsimp only at q1 q2 q3 q4 q5 |-
  refine zz2 (fun hc=>?_) fun hc=>?_
  ·have:l=u:=jy q1 hc
   subst this
   exact zV ⟨rfl,rfl,q2,q4,q5⟩
  ·refine zZ (yn1 ha hk tk (bl (t1 (hf1 hc) q2) hn) (ht _ (t1 (hf1 hc) q2)) ?_)
   dsimp only
   cases e:Bey rk left key arr (base+(l+(u - l) / 2)) with
   | true =>
    exact zV ⟨rfl,rfl,hf1 hc,q2,hf2 q3,fun i hi=>mono i (l+(u - l) / 2) (uk hi) (t1 (hf1 hc) q2) e,q5⟩
   | false =>
    refine zV ⟨rfl,rfl,qk ..,zz (t1 (hf1 hc) q2),hf3 hc q3,q4,fun i hi hin=>?_⟩
    cases e2:Bey rk left key arr (base+i) with
    | false=>rfl
    | true=>rw[mono (l+(u - l) / 2) i hi hin e2]at e;cases e
theorem zp4 (ha:Asks prog w A s κ T rk){left:Bool}{key:z0}{arr:Array z0}{st:zK}(hk:kindOf st=κ)(tk:T key){base n hint:Nat}(hh:hint<n)(hn:base+n<=arr.size)
  (ht:∀ i,i<n->T (arr.getD (base+i) (wk,wk))) (hs:∀ i j,i<=j->j<n->Rk rk arr (base+i)<=Rk rk arr (base+j)) {Q:Option Nat->zK->Prop}
  (h:∀ k,k<=n->(∀ i,i<k->Bey rk left key arr (base+i)=true)->(∀ i,k<=i->i<n->Bey rk left key arr (base+i)=false)->Q (some k) st) :
  wpS (zx prog w) A E s (zr2 left key arr base n hint) Q st:=by
 have mono:∀ i j,i<=j->j<n->Bey rk left key arr (base+j)=true->Bey rk left key arr (base+i)=true:=by
  intro i j hij hj hb
  have:=hs i j hij hj
  unfold Bey at hb |-
  cases left
  ·simp only[vx,if_false,Bool.not_eq_true',decide_eq_false_iff_not]at hb |-;exact fun h=>hb (t1 h this)
  ·simp only[if_true,decide_eq_true_eq]at hb |-;exact t2 this hb
 have monf:∀ i j,i<=j->j<n->Bey rk left key arr (base+i)=false->Bey rk left key arr (base+j)=false:=by
  intro i j hij hj hb
  cases e:Bey rk left key arr (base+j) with
  | false=>rfl
  | true=>rw[mono i j hij hj e]at hb;cases hb
 rw[xn4]
 refine zZ (yn1 ha hk tk (bl hh hn) (ht _ hh) ?_)
 dsimp only
 cases e0:Bey rk left key arr (base+hint) with
 | true =>
  rw[if_pos rfl]
  refine zw2 fun gg hgg=>?_
  refine k9 (zw7 (I:=fun x c st'=>st'=st/\c.1=none/\c.2.1<c.2.2/\x+1<=c.2.2/\c.2.1<n - hint/\Bey rk left key arr (base+(hint+c.2.1))=true)
   (Q:=fun c st'=>st'=st/\c.1=none/\c.2.1<c.2.2/\c.2.1<n - hint/\Bey rk left key arr (base+(hint+c.2.1))=true/\(c.2.2<n - hint->Bey rk left key arr (base+(hint+c.2.2))=false)) ?step ?fin ?init) ?post
  case init=>exact⟨rfl,rfl,Nat.zero_lt_one,zv _,Zw hh,e0⟩
  case fin =>
   rintro ⟨r,l,u⟩ st' ⟨e,e2,q1,q2,q3,q4⟩
   dsimp only at q1 q2 q3 q4 |-
   exact⟨e,e2,q1,q3,q4,fun g=>hfc q2 (qv (zz g) (Q6 ..))⟩
  case post =>
   rintro ⟨r,l,u⟩ st' ⟨rfl,rfl,q1,q2,q3,q4⟩
   subst hgg
   dsimp only at q1 q2 q3 q4 |-
   refine yq2 ha hk tk hn ht mono (gm1 q1 q2) (gm2 hh) (fun i hi=>mono i (hint+l) (uk hi) (j0 q2) q3) (fun i hi hin=>?_) h
   exact monf (hint+u) i (gm4 hi (gm3 hh hi hin)) hin (q4 (gm3 hh hi hin))
  case step =>
   intro ff hff
   rintro x ⟨r,l,u⟩ st' _ hx ⟨rfl,rfl,q1,q2,q3,q4⟩
   subst hff
   dsimp only at q1 q2 q3 q4 |-
   refine zz2 (fun hc=>?_) fun hc=>?_
   ·exact zV ⟨rfl,rfl,q1,q3,q4,fun hlt=>absurd hlt (QK.mpr hc)⟩
   ·refine zZ (yn1 ha hk tk (bl (gs hc) hn) (ht _ (gs hc)) ?_)
    dsimp only
    cases e:Bey rk left key arr (base+(hint+u)) with
    | false=>exact zV ⟨rfl,rfl,q1,q3,q4,fun _=>e⟩
    | true=>exact zV ⟨rfl,rfl,by dsimp only;lia,by dsimp only;exact xz (qv q2 (Z9 _ Nat.two_pos)),by dsimp only;lia,e⟩
 | false =>
  rw[if_neg qj]
  refine zw2 fun gg hgg=>?_
  refine k9 (zw7 (I:=fun x c st'=>st'=st/\c.1=none/\c.2.1<c.2.2/\x+1<=c.2.2/\c.2.1<=hint/\Bey rk left key arr (base+(hint - c.2.1))=false)
   (Q:=fun c st'=>st'=st/\c.1=none/\c.2.1<c.2.2/\c.2.1<=hint/\Bey rk left key arr (base+(hint - c.2.1))=false/\(c.2.2<=hint->Bey rk left key arr (base+(hint - c.2.2))=true)) ?step ?fin ?init) ?post
  case init=>exact⟨rfl,rfl,Nat.zero_lt_one,zv _,vq _,e0⟩
  case fin =>
   rintro ⟨r,l,u⟩ st' ⟨e,e2,q1,q2,q3,q4⟩
   dsimp only at q1 q2 q3 q4 |-
   exact⟨e,e2,q1,q3,q4,fun g=>hfc q2 (zz (t2 g hh))⟩
  case post =>
   rintro ⟨r,l,u⟩ st' ⟨rfl,rfl,q1,q2,q3,q4⟩
   subst hgg
   dsimp only at q1 q2 q3 q4 |-
   refine yq2 ha hk tk hn ht mono (gm5 q1 q2) (qv (Q6 ..) (zz hh)) (fun i hi=>?_) (fun i hi hin=>monf (hint - l) i hi hin q3) h
   exact mono i (hint - u) (gm7 hi) (t2 (Q6 ..) hh) (q4 (gm6 hi))
  case step =>
   intro ff hff
   rintro x ⟨r,l,u⟩ st' _ hx ⟨rfl,rfl,q1,q2,q3,q4⟩
   subst hff
   dsimp only at q1 q2 q3 q4 |-
   refine zz2 (fun hc=>?_) fun hc=>?_
   ·exact zV ⟨rfl,rfl,q1,q3,q4,fun hlt=>absurd hc (Nat.not_le.mpr (Nat.lt_succ_of_le hlt))⟩
   ·refine zZ (yn1 ha hk tk (bl (t2 (Q6 ..) hh) hn) (ht _ (t2 (Q6 ..) hh)) ?_)
    dsimp only
    cases e:Bey rk left key arr (base+(hint - u)) with
    | true=>exact zV ⟨rfl,rfl,q1,q3,q4,fun _=>e⟩
    | false=>exact zV ⟨rfl,rfl,by dsimp only;lia,by dsimp only;lia,by dsimp only;lia,e⟩
end
noncomputable def zx6:Nat->StateT zK Sem Unit:=sortPriv% PySem.Builtin.setMinGallop
theorem zt1 (g:Nat):zx6 g=modify fun s=>Qy (kindOf s) (zy s) (zW s) g (y9 s):=rfl
noncomputable def yx2:Array z0->Array z0->StateT zK Sem (Array z0):=sortPriv% PySem.Builtin.mergeLo
theorem ya5 (a b:Array z0):yx2 a b=(do
 rule "list.sort.merge-lo"
 let total:=a.size+b.size
 let done (out:Array z0) (ia ib:Nat):=out++a.extract ia a.size++b.extract ib b.size
 let lastOfA (out:Array z0) (ia ib:Nat):=out++b.extract ib b.size++a.extract ia a.size
 let mut out:Array z0:=#[<- yX b 0]
 let mut ia:=0
 let mut ib:=1
 if ib==b.size then return done out ia ib
 if ia+1==a.size then return lastOfA out ia ib
 let mut minGallop:=gallopOf (<- get)
 for _ in [0:total] do
  let mut acount:=0
  let mut bcount:=0
  for _ in [0:total] do
   let some bWins <- lt' (<- yX b ib) (<- yX a ia)|return done out ia ib
   if bWins then
    out:=out.push (<- yX b ib);ib:=ib+1;bcount:=bcount+1;acount:=0
    if ib==b.size then return done out ia ib
    if bcount >= minGallop then break
   else
    out:=out.push (<- yX a ia);ia:=ia+1;acount:=acount+1;bcount:=0
    if ia+1==a.size then return lastOfA out ia ib
    if acount >= minGallop then break
  rule "list.sort.gallop"
  minGallop:=minGallop+1
  for _ in [0:total] do
   if minGallop > 1 then minGallop:=minGallop - 1
   zx6 minGallop
   let some k <- zr2 false (<- yX b ib) a ia (a.size - ia) 0|return done out ia ib
   acount:=k
   if k > 0 then
    out:=out++a.extract ia (ia+k);ia:=ia+k
    if ia+1==a.size then return lastOfA out ia ib
    if ia==a.size then return done out ia ib
   out:=out.push (<- yX b ib);ib:=ib+1
   if ib==b.size then return done out ia ib
   let some k <- zr2 true (<- yX a ia) b ib (b.size - ib) 0|return done out ia ib
   bcount:=k
   if k > 0 then
    out:=out++b.extract ib (ib+k);ib:=ib+k
    if ib==b.size then return done out ia ib
   out:=out.push (<- yX a ia);ia:=ia+1
   if ia+1==a.size then return lastOfA out ia ib
   if acount<7&&bcount<7 then break
  minGallop:=minGallop+1
  zx6 minGallop
 unsupported "internal:list.sort.merge-bound"):=rfl
noncomputable abbrev LoSt:=Option (Array z0)×Array z0×Nat×Nat×Nat×Nat×Nat
noncomputable abbrev wg0:=Option (Array z0)×Array z0×Nat×Nat×Nat×Nat
noncomputable abbrev wu5:=Option (Array z0)×Array z0×Nat×Nat×Nat
noncomputable def zh9 (a b out:Array z0)(ia ib:Nat):Array z0:=out++a.extract ia a.size++b.extract ib b.size
noncomputable def yp8 (a b out:Array z0)(ia ib:Nat):Array z0:=out++b.extract ib b.size++a.extract ia a.size
noncomputable def lo4 (a b out:Array z0)(ia ib mg k k1:Nat):StateT zK Sem (ForInStep LoSt):=do
 let x <- yX a ia
 if (ia+1+1==a.size)=true then pure (.done (some (yp8 a b (out.push x) (ia+1) ib),out.push x,ia+1,ib,mg,k,k1))
 else if (decide (k<7)&&decide (k1<7))=true then pure (.done (none,out.push x,ia+1,ib,mg,k,k1)) else pure (.yield (none,out.push x,ia+1,ib,mg,k,k1))
noncomputable def lo3 (a b out:Array z0)(ia ib mg k bc:Nat):StateT zK Sem (ForInStep LoSt):=do
 let y <- yX a ia
 let z <- zr2 true y b ib (b.size - ib) 0
 match z with
 | some k1 =>
  if k1 > 0 then
   if (ib+k1==b.size)=true then pure (.done (some (zh9 a b (out++b.extract ib (ib+k1)) ia (ib+k1)),out++b.extract ib (ib+k1),ia,ib+k1,mg,k,k1))
   else lo4 a b (out++b.extract ib (ib+k1)) ia (ib+k1) mg k k1
  else lo4 a b out ia ib mg k k1
 | _=>pure (.done (some (zh9 a b out ia ib),out,ia,ib,mg,k,bc))
noncomputable def lo2 (a b out:Array z0)(ia ib mg k bc:Nat):StateT zK Sem (ForInStep LoSt):=do
 let y <- yX b ib
 if (ib+1==b.size)=true then pure (.done (some (zh9 a b (out.push y) ia (ib+1)),out.push y,ia,ib+1,mg,k,bc))
 else lo3 a b (out.push y) ia (ib+1) mg k bc
noncomputable def lo1 (a b out:Array z0)(ia ib mg ac bc:Nat):StateT zK Sem (ForInStep LoSt):=do
 zx6 mg
 let y <- yX b ib
 let z <- zr2 false y a ia (a.size - ia) 0
 match z with
 | some k =>
  if k > 0 then
   if (ia+k+1==a.size)=true then pure (.done (some (yp8 a b (out++a.extract ia (ia+k)) (ia+k) ib),out++a.extract ia (ia+k),ia+k,ib,mg,k,bc))
   else if (ia+k==a.size)=true then pure (.done (some (zh9 a b (out++a.extract ia (ia+k)) (ia+k) ib),out++a.extract ia (ia+k),ia+k,ib,mg,k,bc))
   else lo2 a b (out++a.extract ia (ia+k)) (ia+k) ib mg k bc
  else lo2 a b out ia ib mg k bc
 | _=>pure (.done (some (zh9 a b out ia ib),out,ia,ib,mg,ac,bc))
noncomputable def wm9 (a b:Array z0)(c:LoSt):StateT zK Sem LoSt :=
 forIn [0:a.size+b.size] c fun _ c=>if c.2.2.2.2.1 > 1 then lo1 a b c.2.1 c.2.2.1 c.2.2.2.1 (c.2.2.2.2.1 - 1) c.2.2.2.2.2.1 c.2.2.2.2.2.2 else lo1 a b c.2.1 c.2.2.1 c.2.2.2.1 c.2.2.2.2.1 c.2.2.2.2.2.1 c.2.2.2.2.2.2
noncomputable def wx2 (a b:Array z0)(mg:Nat)(c:wg0):StateT zK Sem wg0 :=
 forIn [0:a.size+b.size] c fun _ c=>do
  let y <- yX b c.2.2.2.1
  let x <- yX a c.2.2.1
  let r <- lt' y x
  match r with
  | some bWins =>
   if bWins=true then do
    let y <- yX b c.2.2.2.1
    if (c.2.2.2.1+1==b.size)=true then pure (.done (some (zh9 a b (c.2.1.push y) c.2.2.1 (c.2.2.2.1+1)),c.2.1.push y,c.2.2.1,c.2.2.2.1+1,0,c.2.2.2.2.2+1))
    else if c.2.2.2.2.2+1 >= mg then pure (.done (none,c.2.1.push y,c.2.2.1,c.2.2.2.1+1,0,c.2.2.2.2.2+1)) else pure (.yield (none,c.2.1.push y,c.2.2.1,c.2.2.2.1+1,0,c.2.2.2.2.2+1))
   else do
    let x <- yX a c.2.2.1
    if (c.2.2.1+1+1==a.size)=true then pure (.done (some (yp8 a b (c.2.1.push x) (c.2.2.1+1) c.2.2.2.1),c.2.1.push x,c.2.2.1+1,c.2.2.2.1,c.2.2.2.2.1+1,0))
    else if c.2.2.2.2.1+1 >= mg then pure (.done (none,c.2.1.push x,c.2.2.1+1,c.2.2.2.1,c.2.2.2.2.1+1,0)) else pure (.yield (none,c.2.1.push x,c.2.2.1+1,c.2.2.2.1,c.2.2.2.2.1+1,0))
  | _=>pure (.done (some (zh9 a b c.2.1 c.2.2.1 c.2.2.2.1),c.2.1,c.2.2.1,c.2.2.2.1,c.2.2.2.2.1,c.2.2.2.2.2))
noncomputable def wl0 (a b:Array z0)(c:wu5):StateT zK Sem wu5 :=
 forIn [0:a.size+b.size] c fun _ c=>do
  let d <- wx2 a b c.2.2.2.2 (none,c.2.1,c.2.2.1,c.2.2.2.1,0,0)
  match d.fst with
  | some r=>pure (.done (some r,d.2.1,d.2.2.1,d.2.2.2.1,c.2.2.2.2))
  | none=>do
   liftM (rule "list.sort.gallop")
   let e <- wm9 a b (none,d.2.1,d.2.2.1,d.2.2.2.1,c.2.2.2.2+1,d.2.2.2.2.1,d.2.2.2.2.2)
   match e.fst with
   | some r=>pure (.done (some r,e.2.1,e.2.2.1,e.2.2.2.1,e.2.2.2.2.1))
   | none=>do
    zx6 (e.2.2.2.2.1+1)
    pure (.yield (none,e.2.1,e.2.2.1,e.2.2.2.1,e.2.2.2.2.1+1))
theorem xo2 (a b:Array z0):yx2 a b=(do
  liftM (rule "list.sort.merge-lo")
  let y <- yX b 0
  if (1==b.size)=true then pure (zh9 a b #[y] 0 1)
  else if (0+1==a.size)=true then pure (yp8 a b #[y] 0 1)
  else do
   let st <- get
   let c <- wl0 a b (none,#[y],0,1,gallopOf st)
   match c.fst with
   | some r=>pure r
   | none=>unsupported "internal:list.sort.merge-bound"):=by
 rw[ya5]
 dsimp only
 refine bind_congr fun _=>bind_congr fun y=>ite_congr rfl (fun _=>rfl) fun _=>ite_congr rfl (fun _=>rfl) fun _=>bind_congr fun st=>?_
 unfold wl0
 congr 1
 ·congr 1
  funext _ c
  unfold wx2
  refine bind_congr fun d=>?_
  obtain ⟨r,d⟩:=d
  cases r with
  | some r=>rfl
  | none =>
   refine bind_congr fun _=>?_
   have hb:∀{c c':LoSt}{f f':LoSt->StateT zK Sem (ForInStep wu5)}{g g':Nat->LoSt->StateT zK Sem (ForInStep LoSt)},c=c'->g=g'->f=f'->(forIn [0:a.size+b.size] c g >>= f)=(forIn [0:a.size+b.size] c' g' >>= f'):=by intro _ _ _ _ _ _ h1 h2 h3;subst h1 h2 h3;rfl
   refine hb rfl ?_ ?_
   ·funext _ e
    rfl
   ·funext e
    obtain ⟨r,e⟩:=e
    cases r<;>rfl
 ·funext c
  obtain ⟨r,c⟩:=c
  cases r<;>rfl
noncomputable abbrev Zk:z0:=(wk,wk)
noncomputable def Sd (rk:z0->Nat)(l:List z0):Prop:=l.Pairwise fun x y=>rk x<=rk y
noncomputable def Up' (rk:z0->Nat)(a:Array z0):Prop:=∀ i j,i<=j->j<a.size->Rk rk a i<=Rk rk a j
theorem zy4 {a:Array z0}{i j:Nat}{x:z0}(h:x∈(a.extract i j).toList):∃ k,i<=k/\k<j/\k<a.size/\x=a.getD k Zk:=by
 obtain ⟨k,hk,rfl⟩:=Array.mem_extract_iff_getElem.mp (Array.mem_toList_iff.mp h)
 have:i+k<a.size:=by lia
 exact Mini.iEAAA (i+k) (by lia) (lg6 hk) this (by rw[w0,zk this];rfl)
variable {rk:z0->Nat}{a b:Array z0}
theorem Up'.ext (h:Up' rk a)(i j:Nat):Sd rk (a.extract i j).toList:=by
 unfold Sd
 rw[Qz]
 intro p q hp hq hpq
 simp only[ww,Array.size_extract]at hp hq
 simp only[Array.getElem_toList,Array.getElem_extract]
 have:=h (i+p) (i+q) (by lia) (lg7 hq)
 unfold Rk at this
 rw[w0,w0,zk (lg7 hp),zk (by lia)]at this
 exact this
theorem zd5 {a:Array z0}{i k:Nat}(h:i+k<=a.size):(a.extract i a.size).toList=(a.extract i (i+k)).toList++(a.extract (i+k) a.size).toList:=by
 rw[<- w7,Array.extract_append_extract]
 congr 2
 ·lia
 ·lia
theorem xf6 {a:Array z0}{i:Nat}(h:i<a.size):a.extract i (i+1)=#[a.getD i Zk]:=by
 apply Array.ext
 ·simp;exact eo h
 ·intro k h1 h2
  simp at h2
  subst h2
  simp[w0,h]
theorem xv8 {a out:Array z0}{i:Nat}(h:i<a.size):out.push (a.getD i Zk)=out++a.extract i (i+1):=by
 rw[xf6 h];simp
structure Mg (rk:z0->Nat)(a b out:Array z0)(ia ib:Nat):Prop where
 ha:ia<=a.size
 hb:ib<=b.size
 perm:(out.toList++((a.extract ia a.size).toList++(b.extract ib b.size).toList)).Perm (a.toList++b.toList)
 so:Sd rk out.toList
 la:∀ x∈out.toList,∀ i,ia<=i->i<a.size->rk x<=Rk rk a i
 lb:∀ x∈out.toList,∀ i,ib<=i->i<b.size->rk x<=Rk rk b i
noncomputable def zo5 (rk:z0->Nat)(a b r:Array z0):Prop:=r.toList.Perm (a.toList++b.toList)/\Sd rk r.toList
theorem Mg.moveA {out:Array z0}{ia ib k:Nat}(ua:Up' rk a)(m:Mg rk a b out ia ib)(hk:ia+k<=a.size)(h:∀ i,ia<=i->i<ia+k->∀ j,ib<=j->j<b.size->Rk rk a i<=Rk rk b j):Mg rk a b (out++a.extract ia (ia+k)) (ia+k) ib where
 ha:=hk
 hb:=m.hb
 perm:=by
  have:=m.perm
  rw[zd5 hk]at this
  simpa[w6] using this
 so:=by
  rw[w7]
  refine vk.mpr (Mini.iAA m.so (ua.ext _ _) (fun x hx y hy=>?_))
  (refine Mini.elEAAA (zy4 hy) fun i h1 h2 h3 e_4=>?_;subst e_4)
  exact m.la x hx i h1 h3
 la:=fun x hx i h1 h2=>by
  rw[w7]at hx
  rcases z6.mp hx with hx|hx
  ·exact m.la x hx i (by lia) h2
  ·(refine Mini.elEAAA (zy4 hx) fun j g1 g2 g3 e_4=>?_;subst e_4)
   exact ua j i (by lia) h2
 lb:=fun x hx i h1 h2=>by
  rw[w7]at hx
  rcases z6.mp hx with hx|hx
  ·exact m.lb x hx i h1 h2
  ·(refine Mini.elEAAA (zy4 hx) fun j g1 g2 g3 e_4=>?_;subst e_4)
   exact h j g1 g2 i h1 h2
theorem Mg.moveB {out:Array z0}{ia ib k:Nat}(ub:Up' rk b)(m:Mg rk a b out ia ib)(hk:ib+k<=b.size)(h:∀ j,ib<=j->j<ib+k->∀ i,ia<=i->i<a.size->Rk rk b j<=Rk rk a i):Mg rk a b (out++b.extract ib (ib+k)) ia (ib+k) where
 ha:=m.ha
 hb:=hk
 perm:=by
  have:=m.perm
  rw[zd5 hk]at this
  refine Z5 ?_ this
  rw[w7,w6]
  refine vV.append_left _ ?_
  rw[<- w6,<- w6]
  exact vV.append_right _ List.perm_append_comm
 so:=by
  rw[w7]
  refine vk.mpr (Mini.iAA m.so (ub.ext _ _) (fun x hx y hy=>?_))
  (refine Mini.elEAAA (zy4 hy) fun i h1 h2 h3 e_4=>?_;subst e_4)
  exact m.lb x hx i h1 h3
 la:=fun x hx i h1 h2=>by
  rw[w7]at hx
  rcases z6.mp hx with hx|hx
  ·exact m.la x hx i h1 h2
  ·(refine Mini.elEAAA (zy4 hx) fun j g1 g2 g3 e_4=>?_;subst e_4)
   exact h j g1 g2 i h1 h2
 lb:=fun x hx i h1 h2=>by
  rw[w7]at hx
  rcases z6.mp hx with hx|hx
  ·exact m.lb x hx i (by lia) h2
  ·(refine Mini.elEAAA (zy4 hx) fun j g1 g2 g3 e_4=>?_;subst e_4)
   exact ub j i (by lia) h2
theorem Mg.one {out:Array z0}{ia ib:Nat}(ua:Up' rk a)(m:Mg rk a b out ia ib)(hk:ia<a.size)(h:∀ j,ib<=j->j<b.size->Rk rk a ia<=Rk rk b j):Mg rk a b (out.push (a.getD ia Zk)) (ia+1) ib:=by
 rw[xv8 hk]
 exact m.moveA ua (by lia) fun i h1 h2 j h3 h4=>by
  have:i=ia:=by lia
  subst this;exact h j h3 h4
theorem Mg.oneB {out:Array z0}{ia ib:Nat}(ub:Up' rk b)(m:Mg rk a b out ia ib)(hk:ib<b.size)(h:∀ i,ia<=i->i<a.size->Rk rk b ib<=Rk rk a i):Mg rk a b (out.push (b.getD ib Zk)) ia (ib+1):=by
 rw[xv8 hk]
 exact m.moveB ub (by lia) fun i h1 h2 j h3 h4=>by
  have:i=ib:=by lia
  subst this;exact h j h3 h4
theorem Mg.done {out:Array z0}{ia ib:Nat}(ua:Up' rk a)(ub:Up' rk b)(m:Mg rk a b out ia ib)(h:ia=a.size\/ib=b.size):zo5 rk a b (zh9 a b out ia ib):=by
 unfold zo5 zh9
 simp only[w7,w6]
 refine⟨m.perm,vk.mpr (Mini.iAA m.so (vk.mpr (Mini.iAA (ua.ext _ _) (ub.ext _ _) (fun x hx y hy=>?_))) (fun x hx y hy=>?_))⟩
 ·(refine Mini.elEAAA (zy4 hx) fun i h1 h2 h3 e_4=>?_;subst e_4)
  (refine Mini.elEAAA (zy4 hy) fun j g1 g2 g3 e_4=>?_;subst e_4)
  lia
 ·rcases z6.mp hy with hy|hy
  ·(refine Mini.elEAAA (zy4 hy) fun j g1 g2 g3 e_4=>?_;subst e_4)
   exact m.la x hx j g1 g3
  ·(refine Mini.elEAAA (zy4 hy) fun j g1 g2 g3 e_4=>?_;subst e_4)
   exact m.lb x hx j g1 g3
theorem Mg.last {out:Array z0}{ia ib:Nat}(ua:Up' rk a)(ub:Up' rk b)(m:Mg rk a b out ia ib)(h:ia+1=a.size)(hl:∀ j,j<b.size->Rk rk b j<=Rk rk a (a.size - 1)):zo5 rk a b (yp8 a b out ia ib):=by
 unfold zo5 yp8
 simp only[w7,w6]
 refine⟨Z5 (vV.append_left _ List.perm_append_comm) m.perm,vk.mpr (Mini.iAA m.so (vk.mpr (Mini.iAA (ub.ext _ _) (ua.ext _ _) (fun x hx y hy=>?_))) (fun x hx y hy=>?_))⟩
 ·(refine Mini.elEAAA (zy4 hx) fun i h1 h2 h3 e_4=>?_;subst e_4)
  (refine Mini.elEAAA (zy4 hy) fun j g1 g2 g3 e_4=>?_;subst e_4)
  have:j=a.size - 1:=jl1 h g1 g3
  subst this
  exact hl i h3
 ·rcases z6.mp hy with hy|hy
  ·(refine Mini.elEAAA (zy4 hy) fun j g1 g2 g3 e_4=>?_;subst e_4)
   exact m.lb x hx j g1 g3
  ·(refine Mini.elEAAA (zy4 hy) fun j g1 g2 g3 e_4=>?_;subst e_4)
   exact m.la x hx j g1 g3
end Snd
end
section
namespace Snd
open PySem PyProof.Rows
structure Same (st st':zK):Prop where
 kind:kindOf st'=kindOf st
 arr:zy st'=zy st
 pend:zW st'=zW st
 fail:y9 st'=y9 st
theorem Same.rfl' (st:zK):Same st st:=⟨rfl,rfl,rfl,rfl⟩
theorem Same.trans {x y z:zK}(h:Same x y)(g:Same y z):Same x z:=⟨g.kind.trans h.kind,g.arr.trans h.arr,g.pend.trans h.pend,g.fail.trans h.fail⟩
structure Two (T:z0->Prop)(rk:z0->Nat)(a b:Array z0):Prop where
 ta:∀ i,i<a.size->T (a.getD i Zk)
 tb:∀ i,i<b.size->T (b.getD i Zk)
 ua:Up' rk a
 ub:Up' rk b
 a1:1<=a.size
 b1:1<=b.size
 first:∀ i,i<a.size->Rk rk b 0<=Rk rk a i
 last:∀ j,j<b.size->Rk rk b j<=Rk rk a (a.size - 1)
section
variable {prog:vw}{w:wz}{A:zJ}{E:qz->qw->Prop}{s:qw}{κ:SortKind}{T:z0->Prop}{rk:z0->Nat}{a b:Array z0}
noncomputable def LoOk (rk:z0->Nat)(a b:Array z0)(n:Nat)(r:Option (Array z0))(out:Array z0)(ia ib:Nat):Prop:=match r with
 | some r=>zo5 rk a b r
 | none=>Mg rk a b out ia ib/\ia+1<a.size/\ib<b.size/\n<=ia+ib
noncomputable def LoP (rk:z0->Nat)(a b:Array z0)(n:Nat)(st:zK)(r:ForInStep LoSt)(st':zK):Prop:=Same st st'/\match r with
 | .done c=>LoOk rk a b n c.1 c.2.1 c.2.2.1 c.2.2.2.1
 | .yield c=>c.1=none/\LoOk rk a b n c.1 c.2.1 c.2.2.1 c.2.2.2.1
theorem ws1 (D:Two T rk a b){st:zK}{out:Array z0}{ia ib mg k k1 n:Nat}(m:Mg rk a b out ia ib)(hia:ia+1<a.size)(hib:ib<b.size)(hn:n<=ia+ib+1)(hle:∀ j,ib<=j->j<b.size->Rk rk a ia<=Rk rk b j) :
  wpS (zx prog w) A E s (lo4 a b out ia ib mg k k1) (LoP rk a b n st) st:=by
 have m':=m.one D.ua (by lia) hle
 refine zZ (zy1 (zy3 (by lia)) ?_)
 refine zz2 (fun h1=>?_) fun h1=>?_
 ·exact zV ⟨Same.rfl' _,m'.last D.ua D.ub (by simpa using h1) D.last⟩
 ·have h1':ia+1+1≠a.size:=by simpa using h1
  have ok:LoOk rk a b n none (out.push (a.getD ia Zk)) (ia+1) ib:=⟨m',jv hia h1',hib,by lia⟩
  split
  ·exact zV ⟨Same.rfl' _,ok⟩
  ·exact zV ⟨Same.rfl' _,rfl,ok⟩
theorem wh3 {key:z0}{arr:Array z0}{i:Nat}(h:Bey rk true key arr i=true):Rk rk arr i<rk key:=by simpa[Bey] using h
theorem xc3 {key:z0}{arr:Array z0}{i:Nat}(h:Bey rk true key arr i=false):rk key<=Rk rk arr i:=by simpa[Bey] using h
theorem wh4 {key:z0}{arr:Array z0}{i:Nat}(h:Bey rk false key arr i=true):Rk rk arr i<=rk key:=by simpa[Bey] using h
theorem xc4 {key:z0}{arr:Array z0}{i:Nat}(h:Bey rk false key arr i=false):rk key<Rk rk arr i:=by simpa[Bey] using h
theorem wd3 (ha:Asks prog w A s κ T rk)(D:Two T rk a b){st:zK}(hk:kindOf st=κ){out:Array z0}{ia ib mg k bc n:Nat}(m:Mg rk a b out ia ib)(hia:ia+1<a.size)(hib:ib<b.size)(hn:n<=ia+ib+1) :
  wpS (zx prog w) A E s (lo3 a b out ia ib mg k bc) (LoP rk a b n st) st:=by
 refine zZ (zy1 (zy3 (by lia)) ?_)
 refine zZ (zp4 ha hk (D.ta _ (j9 hia)) (Zw hib) (xx (wX (zz hib))) (fun i hi=>D.tb _ (j0 hi)) (fun i j hij hj=>D.ub _ _ (qZ hij _) (j0 hj)) fun k1 h1 h2 h3=>?_)
 dsimp only
 have hle:∀ j,ib+k1<=j->j<b.size->Rk rk a ia<=Rk rk b j:=fun j h4 h5=>by
  have:=xc3 (h3 (j - ib) (p5 h4) (Nat.sub_lt_sub_right (qv (qk ..) h4) h5))
  rwa [p6 h4]at this
 refine zz2 (fun hp=>?_) fun hp=>?_
 ·have m':=m.moveB (k:=k1) D.ub (Q9 (zz hib) h1) fun j h4 h5 i h6 h7=>by
   have:=wh3 (h2 (j - ib) (p3 h4 h5))
   rw[wX h4]at this
   exact qv (zz this) (D.ua ia i h6 h7)
  refine zz2 (fun he=>?_) fun he=>?_
  ·exact zV ⟨Same.rfl' _,m'.done D.ua D.ub (.inr (by simpa using he))⟩
  ·have:ib+k1≠b.size:=by simpa using he
   exact ws1 D m' hia (jv (Q9 (zz hib) h1) this) (by lia) hle
 ·have:k1=0:=by lia
  subst this
  exact ws1 D m hia hib hn hle
theorem ws4 (ha:Asks prog w A s κ T rk)(D:Two T rk a b){st:zK}(hk:kindOf st=κ){out:Array z0}{ia ib mg k bc n:Nat}(m:Mg rk a b out ia ib)(hia:ia+1<a.size)(hib:ib<b.size)(hn:n<=ia+ib+2)(hle:∀ i,ia<=i->i<a.size->Rk rk b ib<=Rk rk a i) :
  wpS (zx prog w) A E s (lo2 a b out ia ib mg k bc) (LoP rk a b n st) st:=by
 have m':=m.oneB D.ub hib hle
 refine zZ (zy1 (zy3 (by assumption)) ?_)
 refine zz2 (fun he=>?_) fun he=>?_
 ·exact zV ⟨Same.rfl' _,m'.done D.ua D.ub (.inr (by simpa using he))⟩
 ·have:ib+1≠b.size:=by simpa using he
  exact wd3 ha D hk m' hia (by lia) (by lia)
theorem wd4 (ha:Asks prog w A s κ T rk)(D:Two T rk a b){st:zK}(hk:kindOf st=κ){out:Array z0}{ia ib mg ac bc n:Nat}(m:Mg rk a b out ia ib)(hia:ia+1<a.size)(hib:ib<b.size)(hn:n<=ia+ib+2) :
  wpS (zx prog w) A E s (lo1 a b out ia ib mg ac bc) (LoP rk a b n st) st:=by
 unfold lo1
 rw[zt1]
 refine zZ (uV ?_)
 have S:Same st (Qy (kindOf st) (zy st) (zW st) mg (y9 st)):=⟨rfl,rfl,rfl,rfl⟩
 refine k9 (Q:=LoP rk a b n (Qy (kindOf st) (zy st) (zW st) mg (y9 st))) ?_ fun r st' h=>⟨S.trans h.1,h.2⟩
 refine zZ (zy1 (zy3 (by assumption)) ?_)
 refine zZ (zp4 ha (by exact hk) (D.tb _ hib) (Zw (j9 hia)) (xx (wX (zz (j9 hia)))) (fun i hi=>D.ta _ (j0 hi)) (fun i j hij hj=>D.ua _ _ (qZ hij _) (j0 hj)) fun k h1 h2 h3=>?_)
 dsimp only
 have hle:∀ j,ia+k<=j->j<a.size->Rk rk b ib<=Rk rk a j:=fun j h4 h5=>by
  have:=xc4 (h3 (j - ia) (p5 h4) (Nat.sub_lt_sub_right (qv (qk ..) h4) h5))
  rw[p6 h4]at this
  exact zz this
 refine zz2 (fun hp=>?_) fun hp=>?_
 ·have m':=m.moveA (k:=k) D.ua (Q9 (zz (j9 hia)) h1) fun j h4 h5 i h6 h7=>by
   have:=wh4 (h2 (j - ia) (p3 h4 h5))
   rw[wX h4]at this
   exact qv this (D.ub ib i h6 h7)
  refine zz2 (fun he=>?_) fun he=>?_
  ·exact zV ⟨Same.rfl' _,m'.last D.ua D.ub (by simpa using he) D.last⟩
  ·have e1:ia+k+1≠a.size:=by simpa using he
   refine zz2 (fun he2=>?_) fun he2=>?_
   ·exact zV ⟨Same.rfl' _,m'.done D.ua D.ub (.inl (by simpa using he2))⟩
   ·have e2:ia+k≠a.size:=by simpa using he2
    exact ws4 (n:=n) ha D (st:=Qy (kindOf st) (zy st) (zW st) mg (y9 st)) hk m' (jv (jv (Q9 (zz (j9 hia)) h1) e2) e1) hib (by lia) hle
 ·have:k=0:=by lia
  subst this
  exact ws4 (n:=n) ha D (st:=Qy (kindOf st) (zy st) (zW st) mg (y9 st)) hk m hia hib hn hle
theorem wx3 (ha:Asks prog w A s κ T rk)(D:Two T rk a b){st:zK}(hk:kindOf st=κ){out:Array z0}{ia ib mg ac bc n:Nat}(m:Mg rk a b out ia ib)(hia:ia+1<a.size)(hib:ib<b.size)(hn:n<=ia+ib) :
  wpS (zx prog w) A E s (wm9 a b (none,out,ia,ib,mg,ac,bc)) (fun c st'=>Same st st'/\LoOk rk a b n c.1 c.2.1 c.2.2.1 c.2.2.2.1) st:=by
 unfold wm9
 refine zw7 (I:=fun x (c:LoSt) st'=>Same st st'/\c.1=none/\LoOk rk a b (n+x) c.1 c.2.1 c.2.2.1 c.2.2.2.1) ?_ ?_ (Mini.iAA (Same.rfl' _) rfl ⟨m,hia,hib,hn⟩)
 ·intro ff hff
  rintro x ⟨r,out,ia,ib,mg,ac,bc⟩ st' _ hx ⟨S,rfl,m,h1,h2,h3⟩
  subst hff
  dsimp only at m h1 h2 h3 |-
  have go:∀ mg,wpS (zx prog w) A E s (lo1 a b out ia ib mg ac bc) (LoP rk a b (n+(x+1)) st') st':=fun mg=>wd4 ha D (S.kind.trans hk) m h1 h2 (by lia)
  refine k9 (Q:=LoP rk a b (n+(x+1)) st') (by split;exact go _;exact go _) fun r st'' h=>?_
  obtain ⟨S',h⟩:=h
  cases r with
  | done c =>
   refine⟨S.trans S',?_⟩
   obtain ⟨r,c⟩:=c
   cases r with
   | some r=>exact h
   | none=>exact⟨h.1,h.2.1,h.2.2.1,by have:=h.2.2.2;exact qv (qk ..) this⟩
  | yield c=>exact⟨S.trans S',h⟩
 ·rintro ⟨r,out,ia,ib,mg,ac,bc⟩ st' ⟨S,rfl,m,h1,h2,h3⟩
  dsimp only at m h1 h2 h3 |-
  exact⟨S,m,h1,h2,qv (qk ..) h3⟩
theorem wx1 (ha:Asks prog w A s κ T rk)(D:Two T rk a b){st:zK}(hk:kindOf st=κ){out:Array z0}{ia ib mg:Nat}(m:Mg rk a b out ia ib)(hia:ia+1<a.size)(hib:ib<b.size) :
  wpS (zx prog w) A E s (wx2 a b mg (none,out,ia,ib,0,0)) (fun c st'=>st'=st/\LoOk rk a b (ia+ib+1) c.1 c.2.1 c.2.2.1 c.2.2.2.1) st:=by
 unfold wx2
 refine zw7 (I:=fun x (c:wg0) st'=>st'=st/\c.1=none/\LoOk rk a b (ia+ib+x) c.1 c.2.1 c.2.2.1 c.2.2.2.1) ?_ ?_ (Mini.iAA rfl rfl ⟨m,hia,hib,zv _⟩)
 ·intro ff hff
  rintro x ⟨r,out,ja,jb,ac,bc⟩ st' _ hx ⟨rfl,rfl,m,h1,h2,h3⟩
  subst hff
  dsimp only at m h1 h2 h3 |-
  refine zZ (zy1 (zy3 h2) ?_)
  refine zZ (zy1 (zy3 (by lia)) ?_)
  refine zZ (yk6 ha hk (D.tb _ h2) (D.ta _ (by lia)) ?_)
  dsimp only
  by_cases hw:rk (b.getD jb Zk)<rk (a.getD ja Zk)
  ·rw[decide_eq_true hw,if_pos rfl]
   refine zZ (zy1 (zy3 h2) ?_)
   have m':=m.oneB D.ub h2 fun i h4 h5=>qv (zz hw) (D.ua ja i h4 h5)
   refine zz2 (fun he=>?_) fun he=>?_
   ·exact zV ⟨rfl,m'.done D.ua D.ub (.inr (by simpa using he))⟩
   ·have e1:jb+1≠b.size:=by simpa using he
    refine zz2 (fun hc=>?_) fun hc=>?_
    ·exact zV ⟨rfl,m',h1,by dsimp only;lia,by dsimp only;lia⟩
    ·exact zV (Mini.iAA rfl rfl ⟨m',h1,by dsimp only;lia,by dsimp only;lia⟩)
  ·rw[decide_eq_false hw,if_neg qj]
   refine zZ (zy1 (zy3 (by lia)) ?_)
   have m':=m.one D.ua (by lia) fun j h4 h5=>qv (z9 hw) (D.ub jb j h4 h5)
   refine zz2 (fun he=>?_) fun he=>?_
   ·exact zV ⟨rfl,m'.last D.ua D.ub (by simpa using he) D.last⟩
   ·have e1:ja+1+1≠a.size:=by simpa using he
    refine zz2 (fun hc=>?_) fun hc=>?_
    ·exact zV ⟨rfl,m',by dsimp only;exact jv h1 (nbe he),h2,by dsimp only;lia⟩
    ·exact zV (Mini.iAA rfl rfl ⟨m',by dsimp only;lia,h2,by dsimp only;lia⟩)
 ·rintro ⟨r,out,ja,jb,ac,bc⟩ st' ⟨rfl,rfl,m,h1,h2,h3⟩
  dsimp only at m h1 h2 h3 |-
  exact cz h1 h2 (qv (w3 ..) h3)
theorem ye6 (ha:Asks prog w A s κ T rk)(D:Two T rk a b){st:zK}(hk:kindOf st=κ){Q:Array z0->zK->Prop}(h:∀ r st',Same st st'->zo5 rk a b r->Q r st'):wpS (zx prog w) A E s (yx2 a b) Q st:=by
 rw[xo2]
 refine zZ (wpS_lift (Qw ⟨rfl,?_⟩))
 refine zZ (zy1 (zy3 D.b1) ?_)
 have m0:Mg rk a b #[] 0 0:=⟨vq _,vq _,by simp,by simp[Sd],by simp,by simp⟩
 have m1:Mg rk a b #[b.getD 0 Zk] 0 1:=m0.oneB D.ub D.b1 fun i _ h5=>D.first i h5
 refine zz2 (fun he=>?_) fun he=>?_
 ·exact zV (h _ _ (Same.rfl' _) (m1.done D.ua D.ub (.inr (by simpa using he))))
 ·have e1:1≠b.size:=by simpa using he
  refine zz2 (fun he2=>?_) fun he2=>?_
  ·exact zV (h _ _ (Same.rfl' _) (m1.last D.ua D.ub (by simpa using he2) D.last))
  ·have e2:0+1≠a.size:=by simpa using he2
   have a1:=D.a1
   have b1:=D.b1
   refine zZ (wpS_get ?_)
   refine zZ (k9 (Q:=fun c st'=>Same st st'/\∃ r,c.1=some r/\zo5 rk a b r) ?_ ?_)
   ·unfold wl0
    refine zw7 (I:=fun x (c:wu5) st'=>Same st st'/\c.1=none/\LoOk rk a b (x+1) c.1 c.2.1 c.2.2.1 c.2.2.2.1) ?_ ?_ (Mini.iAA (Same.rfl' _) rfl ⟨m1,by dsimp only;lia,by dsimp only;lia,by dsimp only;lia⟩)
    ·intro ff hff
     rintro x ⟨r,out,ia,ib,mg⟩ st' _ hx ⟨S,rfl,m,h1,h2,h3⟩
     subst hff
     dsimp only at m h1 h2 h3 |-
     refine zw2 fun gg0 hg0=>k9 (wx1 ha D (S.kind.trans hk) m h1 h2) ?_
     rintro ⟨r,out,ja,jb,ac,bc⟩ st'' ⟨rfl,q⟩
     subst hg0
     cases r with
     | some r=>exact zV ⟨S,Mini.iEA r rfl q⟩
     | none =>
      refine Mini.elAAA (q) fun m h4 h5 h6=>?_
      dsimp only at m h4 h5 h6 |-
      refine zZ (wpS_lift (Qw ⟨rfl,?_⟩))
      refine zw2 fun gg1 hg1=>k9 (wx3 ha D (S.kind.trans hk) m h4 h5 h6) ?_
      rintro ⟨r,out,ka,kb,mg2,ac,bc⟩ st3 ⟨S2,q⟩
      subst hg1
      cases r with
      | some r=>exact zV ⟨S.trans S2,Mini.iEA r rfl q⟩
      | none =>
       refine Mini.elAAA (q) fun m h7 h8 h9=>?_
       dsimp only at m h7 h8 h9 |-
       rw[zt1]
       refine zZ (uV (zV (Mini.iAA (S.trans (S2.trans ⟨rfl,rfl,rfl,rfl⟩)) rfl ⟨m,h7,h8,by dsimp only;exact qv (xz h3) h9⟩)))
    ·rintro ⟨r,out,ja,jb,ac⟩ st' ⟨S,rfl,m,h1,h2,h3⟩
     dsimp only at m h1 h2 h3 |-
     exact cz h1 h2 (uv h3)
   ·rintro ⟨r,c⟩ st' ⟨S,r',e,hm⟩
    dsimp only at e
    subst e
    exact zV (h _ _ S hm)
end
noncomputable def yx3:Array z0->Array z0->StateT zK Sem (Array z0):=sortPriv% PySem.Builtin.mergeHi
theorem ya6 (a b:Array z0):yx3 a b=(do
 rule "list.sort.merge-hi"
 let total:=a.size+b.size
 let done (out:Array z0) (na nb:Nat):=a.extract 0 na++b.extract 0 nb++out.reverse
 let firstOfB (out:Array z0) (na nb:Nat):=b.extract 0 nb++a.extract 0 na++out.reverse
 let mut na:=a.size - 1
 let mut nb:=b.size
 let mut out:Array z0:=#[<- yX a na]
 if na==0 then return done out na nb
 if nb==1 then return firstOfB out na nb
 let mut minGallop:=gallopOf (<- get)
 for _ in [0:total] do
  let mut acount:=0
  let mut bcount:=0
  for _ in [0:total] do
   let some aWins <- lt' (<- yX b (nb - 1)) (<- yX a (na - 1))|return done out na nb
   if aWins then
    na:=na - 1;out:=out.push (<- yX a na);acount:=acount+1;bcount:=0
    if na==0 then return done out na nb
    if acount >= minGallop then break
   else
    nb:=nb - 1;out:=out.push (<- yX b nb);bcount:=bcount+1;acount:=0
    if nb==1 then return firstOfB out na nb
    if bcount >= minGallop then break
  rule "list.sort.gallop"
  minGallop:=minGallop+1
  for _ in [0:total] do
   if minGallop > 1 then minGallop:=minGallop - 1
   zx6 minGallop
   let some at_ <- zr2 false (<- yX b (nb - 1)) a 0 na (na - 1)|return done out na nb
   let k:=na - at_
   acount:=k
   if k > 0 then
    out:=out++(a.extract at_ na).reverse;na:=at_
    if na==0 then return done out na nb
   nb:=nb - 1;out:=out.push (<- yX b nb)
   if nb==1 then return firstOfB out na nb
   let some at_ <- zr2 true (<- yX a (na - 1)) b 0 nb (nb - 1)|return done out na nb
   let k:=nb - at_
   bcount:=k
   if k > 0 then
    out:=out++(b.extract at_ nb).reverse;nb:=at_
    if nb==1 then return firstOfB out na nb
    if nb==0 then return done out na nb
   na:=na - 1;out:=out.push (<- yX a na)
   if na==0 then return done out na nb
   if acount<7&&bcount<7 then break
  minGallop:=minGallop+1
  zx6 minGallop
 unsupported "internal:list.sort.merge-bound"):=rfl
noncomputable abbrev HiSt:=Option (Array z0)×Nat×Nat×Array z0×Nat×Nat×Nat
noncomputable abbrev wg1:=Option (Array z0)×Nat×Nat×Array z0×Nat×Nat
noncomputable abbrev wu6:=Option (Array z0)×Nat×Nat×Array z0×Nat
noncomputable def zg0 (a b out:Array z0)(na nb:Nat):Array z0:=a.extract 0 na++b.extract 0 nb++out.reverse
noncomputable def zb6 (a b out:Array z0)(na nb:Nat):Array z0:=b.extract 0 nb++a.extract 0 na++out.reverse
noncomputable def hi4 (a b out:Array z0)(na nb mg k k1:Nat):StateT zK Sem (ForInStep HiSt):=do
 let x <- yX a (na - 1)
 if (na - 1==0)=true then pure (.done (some (zg0 a b (out.push x) (na - 1) nb),na - 1,nb,out.push x,mg,k,k1))
 else if (decide (k<7)&&decide (k1<7))=true then pure (.done (none,na - 1,nb,out.push x,mg,k,k1)) else pure (.yield (none,na - 1,nb,out.push x,mg,k,k1))
noncomputable def hi3 (a b out:Array z0)(na nb mg k bc:Nat):StateT zK Sem (ForInStep HiSt):=do
 let y <- yX a (na - 1)
 let z <- zr2 true y b 0 nb (nb - 1)
 match z with
 | some at_ =>
  if nb - at_ > 0 then
   if (at_==1)=true then pure (.done (some (zb6 a b (out++(b.extract at_ nb).reverse) na at_),na,at_,out++(b.extract at_ nb).reverse,mg,k,nb - at_))
   else if (at_==0)=true then pure (.done (some (zg0 a b (out++(b.extract at_ nb).reverse) na at_),na,at_,out++(b.extract at_ nb).reverse,mg,k,nb - at_))
   else hi4 a b (out++(b.extract at_ nb).reverse) na at_ mg k (nb - at_)
  else hi4 a b out na nb mg k (nb - at_)
 | _=>pure (.done (some (zg0 a b out na nb),na,nb,out,mg,k,bc))
noncomputable def hi2 (a b out:Array z0)(na nb mg k bc:Nat):StateT zK Sem (ForInStep HiSt):=do
 let y <- yX b (nb - 1)
 if (nb - 1==1)=true then pure (.done (some (zb6 a b (out.push y) na (nb - 1)),na,nb - 1,out.push y,mg,k,bc))
 else hi3 a b (out.push y) na (nb - 1) mg k bc
noncomputable def hi1 (a b out:Array z0)(na nb mg ac bc:Nat):StateT zK Sem (ForInStep HiSt):=do
 zx6 mg
 let y <- yX b (nb - 1)
 let z <- zr2 false y a 0 na (na - 1)
 match z with
 | some at_ =>
  if na - at_ > 0 then
   if (at_==0)=true then pure (.done (some (zg0 a b (out++(a.extract at_ na).reverse) at_ nb),at_,nb,out++(a.extract at_ na).reverse,mg,na - at_,bc))
   else hi2 a b (out++(a.extract at_ na).reverse) at_ nb mg (na - at_) bc
  else hi2 a b out na nb mg (na - at_) bc
 | _=>pure (.done (some (zg0 a b out na nb),na,nb,out,mg,ac,bc))
noncomputable def wk0 (a b:Array z0)(c:HiSt):StateT zK Sem HiSt :=
 forIn [0:a.size+b.size] c fun _ c=>if c.2.2.2.2.1 > 1 then hi1 a b c.2.2.2.1 c.2.1 c.2.2.1 (c.2.2.2.2.1 - 1) c.2.2.2.2.2.1 c.2.2.2.2.2.2 else hi1 a b c.2.2.2.1 c.2.1 c.2.2.1 c.2.2.2.2.1 c.2.2.2.2.2.1 c.2.2.2.2.2.2
noncomputable def ww3 (a b:Array z0)(mg:Nat)(c:wg1):StateT zK Sem wg1 :=
 forIn [0:a.size+b.size] c fun _ c=>do
  let y <- yX b (c.2.2.1 - 1)
  let x <- yX a (c.2.1 - 1)
  let r <- lt' y x
  match r with
  | some aWins =>
   if aWins=true then do
    let x <- yX a (c.2.1 - 1)
    if (c.2.1 - 1==0)=true then pure (.done (some (zg0 a b (c.2.2.2.1.push x) (c.2.1 - 1) c.2.2.1),c.2.1 - 1,c.2.2.1,c.2.2.2.1.push x,c.2.2.2.2.1+1,0))
    else if c.2.2.2.2.1+1 >= mg then pure (.done (none,c.2.1 - 1,c.2.2.1,c.2.2.2.1.push x,c.2.2.2.2.1+1,0)) else pure (.yield (none,c.2.1 - 1,c.2.2.1,c.2.2.2.1.push x,c.2.2.2.2.1+1,0))
   else do
    let y <- yX b (c.2.2.1 - 1)
    if (c.2.2.1 - 1==1)=true then pure (.done (some (zb6 a b (c.2.2.2.1.push y) c.2.1 (c.2.2.1 - 1)),c.2.1,c.2.2.1 - 1,c.2.2.2.1.push y,0,c.2.2.2.2.2+1))
    else if c.2.2.2.2.2+1 >= mg then pure (.done (none,c.2.1,c.2.2.1 - 1,c.2.2.2.1.push y,0,c.2.2.2.2.2+1)) else pure (.yield (none,c.2.1,c.2.2.1 - 1,c.2.2.2.1.push y,0,c.2.2.2.2.2+1))
  | _=>pure (.done (some (zg0 a b c.2.2.2.1 c.2.1 c.2.2.1),c.2.1,c.2.2.1,c.2.2.2.1,c.2.2.2.2.1,c.2.2.2.2.2))
noncomputable def wk1 (a b:Array z0)(c:wu6):StateT zK Sem wu6 :=
 forIn [0:a.size+b.size] c fun _ c=>do
  let d <- ww3 a b c.2.2.2.2 (none,c.2.1,c.2.2.1,c.2.2.2.1,0,0)
  match d.fst with
  | some r=>pure (.done (some r,d.2.1,d.2.2.1,d.2.2.2.1,c.2.2.2.2))
  | none=>do
   liftM (rule "list.sort.gallop")
   let e <- wk0 a b (none,d.2.1,d.2.2.1,d.2.2.2.1,c.2.2.2.2+1,d.2.2.2.2.1,d.2.2.2.2.2)
   match e.fst with
   | some r=>pure (.done (some r,e.2.1,e.2.2.1,e.2.2.2.1,e.2.2.2.2.1))
   | none=>do
    zx6 (e.2.2.2.2.1+1)
    pure (.yield (none,e.2.1,e.2.2.1,e.2.2.2.1,e.2.2.2.2.1+1))
theorem xo3 (a b:Array z0):yx3 a b=(do
  liftM (rule "list.sort.merge-hi")
  let x <- yX a (a.size - 1)
  if (a.size - 1==0)=true then pure (zg0 a b #[x] (a.size - 1) b.size)
  else if (b.size==1)=true then pure (zb6 a b #[x] (a.size - 1) b.size)
  else do
   let st <- get
   let c <- wk1 a b (none,a.size - 1,b.size,#[x],gallopOf st)
   match c.fst with
   | some r=>pure r
   | none=>unsupported "internal:list.sort.merge-bound"):=by
 rw[ya6]
 dsimp only
 refine bind_congr fun _=>bind_congr fun y=>ite_congr rfl (fun _=>rfl) fun _=>ite_congr rfl (fun _=>rfl) fun _=>bind_congr fun st=>?_
 unfold wk1
 congr 1
 ·congr 1
  funext _ c
  unfold ww3
  refine bind_congr fun d=>?_
  obtain ⟨r,d⟩:=d
  cases r with
  | some r=>rfl
  | none =>
   refine bind_congr fun _=>?_
   have hb:∀{c c':HiSt}{f f':HiSt->StateT zK Sem (ForInStep wu6)}{g g':Nat->HiSt->StateT zK Sem (ForInStep HiSt)},c=c'->g=g'->f=f'->(forIn [0:a.size+b.size] c g >>= f)=(forIn [0:a.size+b.size] c' g' >>= f'):=by intro _ _ _ _ _ _ h1 h2 h3;subst h1 h2 h3;rfl
   refine hb rfl ?_ ?_
   ·funext _ e
    rfl
   ·funext e
    obtain ⟨r,e⟩:=e
    cases r<;>rfl
 ·funext c
  obtain ⟨r,c⟩:=c
  cases r<;>rfl
variable {rk:z0->Nat}{a b:Array z0}
theorem zi9 {a:Array z0}{i k:Nat}(h:i<=k)(hk:k<=a.size):(a.extract 0 k).toList=(a.extract 0 i).toList++(a.extract i k).toList:=by
 rw[<- w7,Array.extract_append_extract]
 congr 2
 lia
structure Mh (rk:z0->Nat)(a b out:Array z0)(na nb:Nat):Prop where
 ha:na<=a.size
 hb:nb<=b.size
 perm:((a.extract 0 na).toList++((b.extract 0 nb).toList++out.reverse.toList)).Perm (a.toList++b.toList)
 so:Sd rk out.reverse.toList
 la:∀ x∈out.reverse.toList,∀ i,i<na->Rk rk a i<=rk x
 lb:∀ x∈out.reverse.toList,∀ i,i<nb->Rk rk b i<=rk x
theorem zk5 {out p:Array z0}:(out++p.reverse).reverse.toList=p.toList++out.reverse.toList:=by
 simp[List.reverse_append]
theorem Mh.moveA {out:Array z0}{na nb k:Nat}(ua:Up' rk a)(m:Mh rk a b out na nb)(hk:k<=na)(h:∀ i,k<=i->i<na->∀ j,j<nb->Rk rk b j<=Rk rk a i):Mh rk a b (out++(a.extract k na).reverse) k nb where
 ha:=qv hk m.ha
 hb:=m.hb
 perm:=by
  have:=m.perm
  rw[zi9 hk m.ha,w6]at this
  rw[zk5]
  refine Z5 (vV.append_left _ ?_) this
  rw[<- w6,<- w6]
  exact vV.append_right _ List.perm_append_comm
 so:=by
  rw[zk5]
  refine vk.mpr (Mini.iAA (ua.ext _ _) m.so (fun x hx y hy=>?_))
  (refine Mini.elEAAA (zy4 hx) fun i h1 h2 h3 e_4=>?_;subst e_4)
  exact m.la y hy i h2
 la:=fun x hx i h1=>by
  rw[zk5]at hx
  have:=m.ha
  rcases z6.mp hx with hx|hx
  ·(refine Mini.elEAAA (zy4 hx) fun j g1 g2 g3 e_4=>?_;subst e_4)
   exact ua i j (by lia) g3
  ·exact m.la x hx i (by lia)
 lb:=fun x hx i h1=>by
  rw[zk5]at hx
  rcases z6.mp hx with hx|hx
  ·(refine Mini.elEAAA (zy4 hx) fun j g1 g2 g3 e_4=>?_;subst e_4)
   exact h j g1 g2 i h1
  ·exact m.lb x hx i h1
theorem Mh.moveB {out:Array z0}{na nb k:Nat}(ub:Up' rk b)(m:Mh rk a b out na nb)(hk:k<=nb)(h:∀ j,k<=j->j<nb->∀ i,i<na->Rk rk a i<=Rk rk b j):Mh rk a b (out++(b.extract k nb).reverse) na k where
 ha:=m.ha
 hb:=qv hk m.hb
 perm:=by
  have:=m.perm
  rw[zi9 hk m.hb,w6]at this
  rw[zk5]
  exact this
 so:=by
  rw[zk5]
  refine vk.mpr (Mini.iAA (ub.ext _ _) m.so (fun x hx y hy=>?_))
  (refine Mini.elEAAA (zy4 hx) fun i h1 h2 h3 e_4=>?_;subst e_4)
  exact m.lb y hy i h2
 la:=fun x hx i h1=>by
  rw[zk5]at hx
  rcases z6.mp hx with hx|hx
  ·(refine Mini.elEAAA (zy4 hx) fun j g1 g2 g3 e_4=>?_;subst e_4)
   exact h j g1 g2 i h1
  ·exact m.la x hx i h1
 lb:=fun x hx i h1=>by
  rw[zk5]at hx
  have:=m.hb
  rcases z6.mp hx with hx|hx
  ·(refine Mini.elEAAA (zy4 hx) fun j g1 g2 g3 e_4=>?_;subst e_4)
   exact ub i j (by lia) g3
  ·exact m.lb x hx i (by lia)
theorem yi9 {a out:Array z0}{n:Nat}(h:1<=n)(hn:n<=a.size):out.push (a.getD (n - 1) Zk)=out++(a.extract (n - 1) n).reverse:=by
 have:=xf6 (a:=a) (i:=n - 1) (t1 (p9 h) hn)
 rw[xW h]at this
 rw[this];simp
theorem Mh.one {out:Array z0}{na nb:Nat}(ua:Up' rk a)(m:Mh rk a b out na nb)(h1:1<=na)(h:∀ j,j<nb->Rk rk b j<=Rk rk a (na - 1)):Mh rk a b (out.push (a.getD (na - 1) Zk)) (na - 1) nb:=by
 rw[yi9 h1 m.ha]
 exact m.moveA ua (by lia) fun i h1 h2 j h3=>by
  have:i=na - 1:=jy (wj h2) h1
  subst this;exact h j h3
theorem Mh.oneB {out:Array z0}{na nb:Nat}(ub:Up' rk b)(m:Mh rk a b out na nb)(h1:1<=nb)(h:∀ i,i<na->Rk rk a i<=Rk rk b (nb - 1)):Mh rk a b (out.push (b.getD (nb - 1) Zk)) na (nb - 1):=by
 rw[yi9 h1 m.hb]
 exact m.moveB ub (by lia) fun i h1 h2 j h3=>by
  have:i=nb - 1:=by lia
  subst this;exact h j h3
theorem Mh.done {out:Array z0}{na nb:Nat}(ua:Up' rk a)(ub:Up' rk b)(m:Mh rk a b out na nb)(h:na=0\/nb=0):zo5 rk a b (zg0 a b out na nb):=by
 unfold zo5 zg0
 simp only[w7,w6]
 refine⟨m.perm,vk.mpr (Mini.iAA (ua.ext _ _) (vk.mpr (Mini.iAA (ub.ext _ _) m.so (fun x hx y hy=>?_))) (fun x hx y hy=>?_))⟩
 ·(refine Mini.elEAAA (zy4 hx) fun i h1 h2 h3 e_4=>?_;subst e_4)
  exact m.lb y hy i h2
 ·(refine Mini.elEAAA (zy4 hx) fun i h1 h2 h3 e_4=>?_;subst e_4)
  rcases z6.mp hy with hy|hy
  ·(refine Mini.elEAAA (zy4 hy) fun j g1 g2 g3 e_4=>?_;subst e_4)
   lia
  ·exact m.la y hy i h2
theorem Mh.first {out:Array z0}{na nb:Nat}(ua:Up' rk a)(ub:Up' rk b)(m:Mh rk a b out na nb)(h:nb=1)(hf:∀ i,i<a.size->Rk rk b 0<=Rk rk a i):zo5 rk a b (zb6 a b out na nb):=by
 unfold zo5 zb6
 simp only[w7,w6]
 refine⟨Z5 ?_ m.perm,vk.mpr (Mini.iAA (ub.ext _ _) (vk.mpr (Mini.iAA (ua.ext _ _) m.so (fun x hx y hy=>?_))) (fun x hx y hy=>?_))⟩
 ·rw[<- w6,<- w6]
  exact vV.append_right _ List.perm_append_comm
 ·(refine Mini.elEAAA (zy4 hx) fun i h1 h2 h3 e_4=>?_;subst e_4)
  exact m.la y hy i h2
 ·(refine Mini.elEAAA (zy4 hx) fun i h1 h2 h3 e_4=>?_;subst e_4)
  have:i=0:=by lia
  subst this
  rcases z6.mp hy with hy|hy
  ·(refine Mini.elEAAA (zy4 hy) fun j g1 g2 g3 e_4=>?_;subst e_4)
   exact hf j g3
  ·exact m.lb y hy 0 (by assumption)
end Snd
end
section
namespace Snd
open PySem PyProof.Rows
section
variable {prog:vw}{w:wz}{A:zJ}{E:qz->qw->Prop}{s:qw}{κ:SortKind}{T:z0->Prop}{rk:z0->Nat}{a b:Array z0}
noncomputable def HiOk (rk:z0->Nat)(a b:Array z0)(n:Nat)(r:Option (Array z0))(out:Array z0)(na nb:Nat):Prop:=match r with
 | some r=>zo5 rk a b r
 | none=>Mh rk a b out na nb/\1<=na/\2<=nb/\na+nb+n<=a.size+b.size
noncomputable def HiP (rk:z0->Nat)(a b:Array z0)(n:Nat)(st:zK)(r:ForInStep HiSt)(st':zK):Prop:=Same st st'/\match r with
 | .done c=>HiOk rk a b n c.1 c.2.2.2.1 c.2.1 c.2.2.1
 | .yield c=>c.1=none/\HiOk rk a b n c.1 c.2.2.2.1 c.2.1 c.2.2.1
theorem ws8 (D:Two T rk a b){st:zK}{out:Array z0}{na nb mg k k1 n:Nat}(m:Mh rk a b out na nb)(hna:1<=na)(hnb:2<=nb)(hn:na+nb+n<=a.size+b.size+1)(hle:∀ j,j<nb->Rk rk b j<=Rk rk a (na - 1)) :
  wpS (zx prog w) A E s (hi4 a b out na nb mg k k1) (HiP rk a b n st) st:=by
 have m':=m.one D.ua hna hle
 have:=m.ha
 refine zZ (zy1 (zy3 (by lia)) ?_)
 refine zz2 (fun h1=>?_) fun h1=>?_
 ·exact zV ⟨Same.rfl' _,m'.done D.ua D.ub (.inl (by simpa using h1))⟩
 ·have h1':na - 1≠0:=by simpa using h1
  have ok:HiOk rk a b n none (out.push (a.getD (na - 1) Zk)) (na - 1) nb:=⟨m',by lia,hnb,yQ (hdA hna hn)⟩
  refine zz2 (fun hc=>?_) fun hc=>?_
  ·exact zV ⟨Same.rfl' _,ok⟩
  ·exact zV ⟨Same.rfl' _,rfl,ok⟩
theorem wc5 (ha:Asks prog w A s κ T rk)(D:Two T rk a b){st:zK}(hk:kindOf st=κ){out:Array z0}{na nb mg k bc n:Nat}(m:Mh rk a b out na nb)(hna:1<=na)(hnb:2<=nb)(hn:na+nb+n<=a.size+b.size+1) :
  wpS (zx prog w) A E s (hi3 a b out na nb mg k bc) (HiP rk a b n st) st:=by
 have ma:=m.ha
 have mb:=m.hb
 refine zZ (zy1 (zy3 (by lia)) ?_)
 refine zZ (zp4 ha hk (D.ta _ (by lia)) (by lia) (by lia) (fun i hi=>D.tb _ (by lia)) (fun i j hij hj=>D.ub _ _ (by lia) (by lia)) fun k1 h1 h2 h3=>?_)
 dsimp only
 have hle:∀ j,j<k1->Rk rk b j<=Rk rk a (na - 1):=fun j h4=>by
  have:=wh3 (h2 j h4)
  rw[u0]at this
  exact zz this
 refine zz2 (fun hp=>?_) fun hp=>?_
 ·have m':=m.moveB (k:=k1) D.ub (by assumption) fun j h4 h5 i h6=>by
   have:=xc3 (h3 j h4 h5)
   rw[u0]at this
   exact qv (D.ua i (na - 1) (wj h6) (by lia)) this
  refine zz2 (fun he=>?_) fun he=>?_
  ·exact zV ⟨Same.rfl' _,m'.first D.ua D.ub (by simpa using he) D.first⟩
  ·have e1:k1≠1:=by simpa using he
   refine zz2 (fun he2=>?_) fun he2=>?_
   ·exact zV ⟨Same.rfl' _,m'.done D.ua D.ub (.inr (by simpa using he2))⟩
   ·have e2:k1≠0:=by simpa using he2
    exact ws8 D m' hna (q3 he he2) (qv (w5 (qZ h1 _) _) hn) hle
 ·exact ws8 D m hna hnb hn fun j hj=>hle j (t1 hj (sz0 hp))
theorem ws9 (ha:Asks prog w A s κ T rk)(D:Two T rk a b){st:zK}(hk:kindOf st=κ){out:Array z0}{na nb mg k bc n:Nat}(m:Mh rk a b out na nb)(hna:1<=na)(hnb:2<=nb)(hn:na+nb+n<=a.size+b.size+2)(hle:∀ i,i<na->Rk rk a i<=Rk rk b (nb - 1)) :
  wpS (zx prog w) A E s (hi2 a b out na nb mg k bc) (HiP rk a b n st) st:=by
 have m':=m.oneB D.ub (by lia) hle
 have mb:=m.hb
 refine zZ (zy1 (zy3 (by lia)) ?_)
 refine zz2 (fun he=>?_) fun he=>?_
 ·exact zV ⟨Same.rfl' _,m'.first D.ua D.ub (by simpa using he) D.first⟩
 ·have:nb - 1≠1:=by simpa using he
  exact wc5 ha D hk m' hna (q2 hnb he) (yQ (hdC (uv hnb) hn))
theorem wc6 (ha:Asks prog w A s κ T rk)(D:Two T rk a b){st:zK}(hk:kindOf st=κ){out:Array z0}{na nb mg ac bc n:Nat}(m:Mh rk a b out na nb)(hna:1<=na)(hnb:2<=nb)(hn:na+nb+n<=a.size+b.size+2) :
  wpS (zx prog w) A E s (hi1 a b out na nb mg ac bc) (HiP rk a b n st) st:=by
 unfold hi1
 rw[zt1]
 refine zZ (uV ?_)
 have S:Same st (Qy (kindOf st) (zy st) (zW st) mg (y9 st)):=⟨rfl,rfl,rfl,rfl⟩
 refine k9 (Q:=HiP rk a b n (Qy (kindOf st) (zy st) (zW st) mg (y9 st))) ?_ fun r st' h=>⟨S.trans h.1,h.2⟩
 have ma:=m.ha
 have mb:=m.hb
 refine zZ (zy1 (zy3 (by lia)) ?_)
 refine zZ (zp4 ha (by exact hk) (D.tb _ (by lia)) (p9 hna) (by lia) (fun i hi=>D.ta _ (by lia)) (fun i j hij hj=>D.ua _ _ (by lia) (by lia)) fun k h1 h2 h3=>?_)
 dsimp only
 have hle:∀ i,i<k->Rk rk a i<=Rk rk b (nb - 1):=fun j h4=>by
  have:=wh4 (h2 j h4)
  rwa [u0]at this
 refine zz2 (fun hp=>?_) fun hp=>?_
 ·have m':=m.moveA (k:=k) D.ua (by assumption) fun i h4 h5 j h6=>by
   have:=xc4 (h3 i h4 h5)
   rw[u0]at this
   exact qv (D.ub j (nb - 1) (by lia) (by lia)) (zz this)
  refine zz2 (fun he=>?_) fun he=>?_
  ·exact zV ⟨Same.rfl' _,m'.done D.ua D.ub (.inl (by simpa using he))⟩
  ·have e1:k≠0:=by simpa using he
   exact ws9 (n:=n) ha D (st:=Qy (kindOf st) (zy st) (zW st) mg (y9 st)) hk m' (by lia) hnb (qv (w5 (w5 h1 _) _) hn) hle
 ·exact ws9 (n:=n) ha D (st:=Qy (kindOf st) (zy st) (zW st) mg (y9 st)) hk m hna hnb hn fun i hi=>hle i (t1 hi (sz0 hp))
theorem ww4 (ha:Asks prog w A s κ T rk)(D:Two T rk a b){st:zK}(hk:kindOf st=κ){out:Array z0}{na nb mg ac bc n:Nat}(m:Mh rk a b out na nb)(hna:1<=na)(hnb:2<=nb)(hn:na+nb+n<=a.size+b.size) :
  wpS (zx prog w) A E s (wk0 a b (none,na,nb,out,mg,ac,bc)) (fun c st'=>Same st st'/\HiOk rk a b n c.1 c.2.2.2.1 c.2.1 c.2.2.1) st:=by
 unfold wk0
 refine zw7 (I:=fun x (c:HiSt) st'=>Same st st'/\c.1=none/\HiOk rk a b (n+x) c.1 c.2.2.2.1 c.2.1 c.2.2.1) ?_ ?_ (Mini.iAA (Same.rfl' _) rfl ⟨m,hna,hnb,hn⟩)
 ·intro ff hff
  rintro x ⟨r,na,nb,out,mg,ac,bc⟩ st' _ hx ⟨S,rfl,m,h1,h2,h3⟩
  subst hff
  dsimp only at m h1 h2 h3 |-
  have go:∀ mg,wpS (zx prog w) A E s (hi1 a b out na nb mg ac bc) (HiP rk a b (n+(x+1)) st') st':=fun mg=>wc6 ha D (S.kind.trans hk) m h1 h2 (uw (xz h3))
  refine k9 (Q:=HiP rk a b (n+(x+1)) st') (by split;exact go _;exact go _) fun r st'' h=>?_
  obtain ⟨S',h⟩:=h
  cases r with
  | done c =>
   refine⟨S.trans S',?_⟩
   obtain ⟨r,c⟩:=c
   cases r with
   | some r=>exact h
   | none=>exact⟨h.1,h.2.1,h.2.2.1,by have:=h.2.2.2;exact qv (qZ (qk ..) _) this⟩
  | yield c=>exact⟨S.trans S',h⟩
 ·rintro ⟨r,na,nb,out,mg,ac,bc⟩ st' ⟨S,rfl,m,h1,h2,h3⟩
  dsimp only at m h1 h2 h3 |-
  exact⟨S,m,h1,h2,qv (qZ (qk ..) _) h3⟩
theorem ww2 (ha:Asks prog w A s κ T rk)(D:Two T rk a b){st:zK}(hk:kindOf st=κ){out:Array z0}{na nb mg n:Nat}(m:Mh rk a b out na nb)(hna:1<=na)(hnb:2<=nb)(hn:na+nb+n<=a.size+b.size) :
  wpS (zx prog w) A E s (ww3 a b mg (none,na,nb,out,0,0)) (fun c st'=>st'=st/\HiOk rk a b (n+1) c.1 c.2.2.2.1 c.2.1 c.2.2.1) st:=by
 unfold ww3
 refine zw7 (I:=fun x (c:wg1) st'=>st'=st/\c.1=none/\HiOk rk a b (n+x) c.1 c.2.2.2.1 c.2.1 c.2.2.1) ?_ ?_ (Mini.iAA rfl rfl ⟨m,hna,hnb,hn⟩)
 ·intro ff hff
  rintro x ⟨r,ja,jb,out,ac,bc⟩ st' _ hx ⟨rfl,rfl,m,h1,h2,h3⟩
  subst hff
  dsimp only at m h1 h2 h3 |-
  have ma:=m.ha
  have mb:=m.hb
  refine zZ (zy1 (zy3 (t1 (p9 (uv h2)) mb)) ?_)
  refine zZ (zy1 (zy3 (by lia)) ?_)
  refine zZ (yk6 ha hk (D.tb _ (by lia)) (D.ta _ (by lia)) ?_)
  dsimp only
  by_cases hw:rk (b.getD (jb - 1) Zk)<rk (a.getD (ja - 1) Zk)
  ·rw[decide_eq_true hw,if_pos rfl]
   refine zZ (zy1 (zy3 (by lia)) ?_)
   have m':=m.one D.ua h1 fun i h4=>qv (D.ub i (jb - 1) (by lia) (by lia)) (zz hw)
   refine zz2 (fun he=>?_) fun he=>?_
   ·exact zV ⟨rfl,m'.done D.ua D.ub (.inl (by simpa using he))⟩
   ·have e1:ja - 1≠0:=by simpa using he
    refine zz2 (fun hc=>?_) fun hc=>?_
    ·exact zV ⟨rfl,m',by dsimp only;lia,h2,by dsimp only;exact hdA h1 (qv (qZ (qk ..) _) h3)⟩
    ·exact zV (Mini.iAA rfl rfl ⟨m',by dsimp only;lia,h2,by dsimp only;exact hdA h1 h3⟩)
  ·rw[decide_eq_false hw,if_neg qj]
   refine zZ (zy1 (zy3 (by lia)) ?_)
   have m':=m.oneB D.ub (by lia) fun j h4=>qv (D.ua j (ja - 1) (by lia) (by lia)) (z9 hw)
   refine zz2 (fun he=>?_) fun he=>?_
   ·exact zV ⟨rfl,m'.first D.ua D.ub (by simpa using he) D.first⟩
   ·have e1:jb - 1≠1:=by simpa using he
    refine zz2 (fun hc=>?_) fun hc=>?_
    ·exact zV ⟨rfl,m',h1,by dsimp only;lia,by dsimp only;exact hdC (uv h2) (qv (qZ (qk ..) _) h3)⟩
    ·exact zV (Mini.iAA rfl rfl ⟨m',h1,by dsimp only;lia,by dsimp only;exact hdC (uv h2) h3⟩)
 ·rintro ⟨r,ja,jb,out,ac,bc⟩ st' ⟨rfl,rfl,m,h1,h2,h3⟩
  dsimp only at m h1 h2 h3 |-
  exact cy h1 h3
theorem ye7 (ha:Asks prog w A s κ T rk)(D:Two T rk a b){st:zK}(hk:kindOf st=κ){Q:Array z0->zK->Prop}(h:∀ r st',Same st st'->zo5 rk a b r->Q r st'):wpS (zx prog w) A E s (yx3 a b) Q st:=by
 have a1:=D.a1
 have b1:=D.b1
 rw[xo3]
 refine zZ (wpS_lift (Qw ⟨rfl,?_⟩))
 refine zZ (zy1 (zy3 (p9 a1)) ?_)
 have m0:Mh rk a b #[] a.size b.size:=⟨zv _,zv _,by simp,by simp[Sd],by simp,by simp⟩
 have m1:Mh rk a b #[a.getD (a.size - 1) Zk] (a.size - 1) b.size:=m0.one D.ua D.a1 fun j h5=>D.last j h5
 refine zz2 (fun he=>?_) fun he=>?_
 ·exact zV (h _ _ (Same.rfl' _) (m1.done D.ua D.ub (.inl (by simpa using he))))
 ·have e1:a.size - 1≠0:=by simpa using he
  refine zz2 (fun he2=>?_) fun he2=>?_
  ·exact zV (h _ _ (Same.rfl' _) (m1.first D.ua D.ub (by simpa using he2) D.first))
  ·have e2:b.size≠1:=by simpa using he2
   refine zZ (wpS_get ?_)
   refine zZ (k9 (Q:=fun c st'=>Same st st'/\∃ r,c.1=some r/\zo5 rk a b r) ?_ ?_)
   ·unfold wk1
    refine zw7 (I:=fun x (c:wu6) st'=>Same st st'/\c.1=none/\HiOk rk a b (x+1) c.1 c.2.2.2.1 c.2.1 c.2.2.1) ?_ ?_ (Mini.iAA (Same.rfl' _) rfl ⟨m1,by dsimp only;lia,by dsimp only;lia,by dsimp only;exact hi0 a1⟩)
    ·intro ff hff
     rintro x ⟨r,ia,ib,out,mg⟩ st' _ hx ⟨S,rfl,m,h1,h2,h3⟩
     subst hff
     dsimp only at m h1 h2 h3 |-
     refine zw2 fun gg0 hg0=>k9 (ww2 ha D (S.kind.trans hk) m h1 h2 h3) ?_
     rintro ⟨r,ja,jb,out,ac,bc⟩ st'' ⟨rfl,q⟩
     subst hg0
     cases r with
     | some r=>exact zV ⟨S,Mini.iEA r rfl q⟩
     | none =>
      refine Mini.elAAA (q) fun m h4 h5 h6=>?_
      dsimp only at m h4 h5 h6 |-
      refine zZ (wpS_lift (Qw ⟨rfl,?_⟩))
      refine zw2 fun gg1 hg1=>k9 (ww4 ha D (S.kind.trans hk) m h4 h5 h6) ?_
      rintro ⟨r,ka,kb,out,mg2,ac,bc⟩ st3 ⟨S2,q⟩
      subst hg1
      cases r with
      | some r=>exact zV ⟨S.trans S2,Mini.iEA r rfl q⟩
      | none =>
       refine Mini.elAAA (q) fun m h7 h8 h9=>?_
       dsimp only at m h7 h8 h9 |-
       rw[zt1]
       refine zZ (uV (zV (Mini.iAA (S.trans (S2.trans ⟨rfl,rfl,rfl,rfl⟩)) rfl ⟨m,h7,h8,by dsimp only;assumption⟩)))
    ·rintro ⟨r,ja,jb,out,ac⟩ st' ⟨S,rfl,m,h1,h2,h3⟩
     dsimp only at m h1 h2 h3 |-
     exact cy2 h1 h3
   ·rintro ⟨r,c⟩ st' ⟨S,r',e,hm⟩
    dsimp only at e
    subst e
    exact zV (h _ _ S hm)
end
noncomputable def xm9 (lo a nrem:Nat):StateT zK Sem AscSt :=
 forIn [a:nrem] ((none,a):AscSt) fun _ c=>do
  let x <- ltAt' (lo+c.snd) (lo+c.snd - 1)
  match x with
  | some smaller=>if smaller=true then pure (vJ (none,c.snd)) else pure (wZ (none,c.snd+1))
  | _=>pure (vJ (some none,c.snd))
noncomputable def yq1 (lo n nrem:Nat):StateT zK Sem (Option Nat):=do
 reverseSlice' lo (lo+n)
 let c <- xm9 lo n nrem
 match c.fst with
 | some r=>pure r
 | none=>pure (some c.snd)
noncomputable def ye3 (lo n nrem:Nat):StateT zK Sem DescSt :=
 forIn [n:nrem] ((none,n,0):DescSt) fun _ c=>do
  let x <- ltAt' (lo+c.snd.fst) (lo+c.snd.fst - 1)
  match x with
  | some smaller =>
   if smaller=true then
    if c.snd.snd > 0 then do
     reverseSlice' (lo+c.snd.fst - (c.snd.snd+1)) (lo+c.snd.fst)
     pure (wZ (none,c.snd.fst+1,0))
    else pure (wZ (none,c.snd.fst+1,0))
   else do
    let x <- ltAt' (lo+c.snd.fst - 1) (lo+c.snd.fst)
    match x with
    | some larger =>
     if larger=true then pure (vJ (none,c.snd.fst,c.snd.snd))
     else pure (wZ (none,c.snd.fst+1,c.snd.snd+1))
    | _=>pure (vJ (some none,c.snd.fst,c.snd.snd))
  | _=>pure (vJ (some none,c.snd.fst,c.snd.snd))
noncomputable def ye2 (lo n nrem:Nat):StateT zK Sem (Option Nat):=do
 liftM (rule "list.sort.descending-run")
 let c <- ye3 lo (n+1) nrem
 match c.fst with
 | some r=>pure r
 | none =>
  if c.snd.snd > 0 then do
   reverseSlice' (lo+c.snd.fst - (c.snd.snd+1)) (lo+c.snd.fst)
   yq1 lo c.snd.fst nrem
  else yq1 lo c.snd.fst nrem
theorem yy5 (lo n nrem:Nat){f:AscSt->StateT zK Sem (Option Nat)}(h:∀ r n,f (r,n)=match r with|some r=>pure r|none=>pure (some n)):(xm9 lo n nrem >>= f)=(do
 let c <- xm9 lo n nrem
 match c.fst with
 | some r=>pure r
 | none=>pure (some c.snd)):=bind_congr fun c=>by obtain ⟨r,n⟩:=c;rw[h]
theorem xx4 (lo nrem:Nat):countRun' lo nrem=(do
  let c <- xm9 lo 1 nrem
  match c.fst with
  | some r=>pure r
  | none =>
   if (c.snd==nrem)=true then pure (some c.snd)
   else if c.snd > 1 then do
    let x <- ltAt' lo (lo+c.snd - 1)
    match x with
    | some rose=>if rose=true then pure (some c.snd) else do
      reverseSlice' lo (lo+c.snd)
      ye2 lo c.snd nrem
    | _=>pure none
   else ye2 lo c.snd nrem):=by
 rw[countRun'_eq]
 dsimp only
 refine bind_congr fun c=>?_
 obtain ⟨r,n⟩:=c
 cases r with
 | some r=>rfl
 | none =>
  dsimp only
  refine ite_congr rfl (fun _=>rfl) fun _=>?_
  have key:∀{f:Unit->StateT zK Sem (Option Nat)},f=(fun _=>ye3 lo (n+1) nrem >>= fun c=>match c.fst with
    | some r=>pure r
    | none=>if c.snd.snd > 0 then do
      reverseSlice' (lo+c.snd.fst - (c.snd.snd+1)) (lo+c.snd.fst)
      yq1 lo c.snd.fst nrem
     else yq1 lo c.snd.fst nrem)->((liftM (rule "list.sort.descending-run"):StateT zK Sem Unit) >>= f)=ye2 lo n nrem:=fun h=>by rw[h];rfl
  have k2:∀{g:DescSt->StateT zK Sem (Option Nat)},(∀ r n q,g (r,n,q)=match r with
    | some r=>pure r
    | none=>if q > 0 then do
      reverseSlice' (lo+n - (q+1)) (lo+n)
      yq1 lo n nrem
     else yq1 lo n nrem)->(ye3 lo (n+1) nrem >>= g)=(ye3 lo (n+1) nrem >>= fun c=>match c.fst with
    | some r=>pure r
    | none=>if c.snd.snd > 0 then do
      reverseSlice' (lo+c.snd.fst - (c.snd.snd+1)) (lo+c.snd.fst)
      yq1 lo c.snd.fst nrem
     else yq1 lo c.snd.fst nrem):=fun h=>bind_congr fun c=>by obtain ⟨r,n,q⟩:=c;rw[h]
  refine ite_congr rfl (fun _=>bind_congr fun x=>?_) fun _=>?_
  ·cases x with
   | none=>rfl
   | some rose =>
    refine ite_congr rfl (fun _=>rfl) fun _=>bind_congr fun _=>?_
    refine key (funext fun _=>k2 fun r n q=>?_)
    cases r with
    | some r=>rfl
    | none=>exact ite_congr rfl (fun _=>bind_congr fun _=>bind_congr fun _=>yy5 lo n nrem fun r n=>by cases r<;>rfl) fun _=>bind_congr fun _=>yy5 lo n nrem fun r n=>by cases r<;>rfl
  ·refine key (funext fun _=>k2 fun r n q=>?_)
   cases r with
   | some r=>rfl
   | none=>exact ite_congr rfl (fun _=>bind_congr fun _=>bind_congr fun _=>yy5 lo n nrem fun r n=>by cases r<;>rfl) fun _=>bind_congr fun _=>yy5 lo n nrem fun r n=>by cases r<;>rfl
noncomputable def Seg (rk:z0->Nat)(a:Array z0)(i j:Nat):Prop:=∀ k l,i<=k->k<=l->l<j->Rk rk a k<=Rk rk a l
noncomputable def Fal (rk:z0->Nat)(a:Array z0)(i j:Nat):Prop:=∀ k l,i<=k->k<=l->l<j->Rk rk a l<=Rk rk a k
structure Pm (lo:Nat)(a a':Array z0):Prop where
 perm:a'.Perm a
 low:∀ k,k<lo->a'[k]?=a[k]?
theorem Pm.rfl' (lo:Nat)(a:Array z0):Pm lo a a:=⟨Array.Perm.refl _,fun _ _=>rfl⟩
theorem Pm.trans {lo:Nat}{a b c:Array z0}(h:Pm lo a b)(g:Pm lo b c):Pm lo a c:=⟨g.perm.trans h.perm,fun k hk=>(g.low k hk).trans (h.low k hk)⟩
theorem Pm.size {lo:Nat}{a b:Array z0}(h:Pm lo a b):b.size=a.size:=h.perm.size_eq
structure Kp (lo:Nat)(st st':zK):Prop where
 kind:kindOf st'=kindOf st
 pend:zW st'=zW st
 fail:y9 st'=y9 st
 pm:Pm lo (zy st) (zy st')
theorem Kp.rfl' (lo:Nat)(st:zK):Kp lo st st:=⟨rfl,rfl,rfl,Pm.rfl' _ _⟩
theorem Kp.trans {lo:Nat}{x y z:zK}(h:Kp lo x y)(g:Kp lo y z):Kp lo x z:=⟨g.kind.trans h.kind,g.pend.trans h.pend,g.fail.trans h.fail,h.pm.trans g.pm⟩
theorem Kp.set {lo:Nat}{st:zK}{xs:Array z0}(h:Pm lo (zy st) xs):Kp lo st (setArr st xs):=⟨rfl,rfl,rfl,h⟩
noncomputable def Tt (T:z0->Prop)(a:Array z0):Prop:=∀ x∈a.toList,T x
theorem Tt.get {T:z0->Prop}{a:Array z0}(h:Tt T a){i:Nat}(hi:i<a.size):T (a.getD i Zk):=h _ (by rw[w0,zk hi];simp)
theorem Tt.perm {T:z0->Prop}{a b:Array z0}(h:Tt T a)(p:b.Perm a):Tt T b:=fun x hx=>h x ((Array.perm_iff_toList_perm.mp p).mem_iff.mp hx)
theorem zs1 {rk:z0->Nat}{a b:Array z0}{i j:Nat}(h:a[i]?=b[j]?):Rk rk a i=Rk rk b j:=by
 unfold Rk;rw[w0,w0,h]
set_option tactic.hygienic true in
theorem yw9 {rk:z0->Nat}{a:Array z0}{i j:Nat}(hj:j<=a.size)(k:Nat):Rk rk (mirror a i j ((j - i) / 2)) k=if i<=k/\k<j then Rk rk a (i+j - 1 - k) else Rk rk a k:=by
 have h:=getElem?_mirror_all (xs:=a) (i:=i) hj k
 split
 ·rename_i hc;rw[if_pos hc]at h;exact zs1 h
 ·rename_i hc;rw[if_neg hc]at h;exact zs1 h
set_option tactic.hygienic true in
theorem zg8 {rk:z0->Nat}{a:Array z0}{i j c:Nat}(hj:j<=a.size)(he:∀ k,i<=k->k<j->Rk rk a k=c)(k:Nat):Rk rk (mirror a i j ((j - i) / 2)) k=Rk rk a k:=by
 rw[yw9 hj]
 split
 ·rename_i hc
  rw[he k hc.1 hc.2,he _ (mi1 hc.2) (mi2 hc.1 hc.2)]
 ·rfl
theorem ze7 {lo:Nat}{a:Array z0}{i j:Nat}(hj:j<=a.size)(h:lo<=i):Pm lo a (mirror a i j ((j - i) / 2)):=⟨mirror_perm _ _ _ _,fun k hk=>by rw[getElem?_mirror_all hj,if_neg (by lia)]⟩
set_option tactic.hygienic true in
theorem yi5 {rk:z0->Nat}{a:Array z0}{k l:Nat}(hk:k<a.size)(hl:l<=k)(i:Nat):Rk rk (bubble a k (k - l)) i=if i=l then Rk rk a k else if l<i/\i<=k then Rk rk a (i - 1) else Rk rk a i:=by
 have h:=getElem?_bubble hk (k - l) (Q6 ..) i
 rw[Nat.sub_sub_self hl]at h
 split
 ·rename_i hc;rw[if_pos hc]at h;exact zs1 h
 ·rename_i hc
  rw[if_neg hc]at h
  split
  ·rename_i hc2;rw[if_pos hc2]at h;exact zs1 h
  ·rename_i hc2;rw[if_neg hc2]at h;exact zs1 h
theorem xd9 {lo:Nat}{a:Array z0}{k l:Nat}(hk:k<a.size)(hl:l<=k)(h:lo<=l):Pm lo a (bubble a k (k - l)):=⟨bubble_perm _ _ _,fun i hi=>by rw[getElem?_bubble hk _ (Q6 ..),Nat.sub_sub_self hl,if_neg (jJ (t1 hi h)),if_neg fun g=>absurd g.1 (Nat.lt_asymm (t1 hi h))]⟩
section
variable {prog:vw}{w:wz}{A:zJ}{E:qz->qw->Prop}{s:qw}{κ:SortKind}{T:z0->Prop}{rk:z0->Nat}
theorem yx7 (ha:Asks prog w A s κ T rk){st:zK}(hk:kindOf st=κ)(ht:Tt T (zy st)){i j:Nat}(hi:i<(zy st).size)(hj:j<(zy st).size){Q:Option Bool->zK->Prop}(h:Q (some (decide (Rk rk (zy st) i<Rk rk (zy st) j))) st):wpS (zx prog w) A E s (ltAt' i j) Q st:=by
 rw[ltAt'_eq]
 refine zZ (wpS_get (zZ (zy1 (zy3 hi) (zZ (zy1 (zy3 hj) (yk6 ha hk (ht.get hi) (ht.get hj) h))))))
theorem xr7 (ha:Asks prog w A s κ T rk){st:zK}(hk:kindOf st=κ)(ht:Tt T (zy st)){lo a nrem:Nat}(h1:1<=a)(h2:a<=nrem)(hn:lo+nrem<=(zy st).size)(hs:Seg rk (zy st) lo (lo+a)) :
  wpS (zx prog w) A E s (xm9 lo a nrem) (fun c st'=>st'=st/\c.1=none/\a<=c.2/\c.2<=nrem/\Seg rk (zy st) lo (lo+c.2)/\(c.2<nrem->Rk rk (zy st) (lo+c.2)<Rk rk (zy st) (lo+c.2 - 1))) st:=by
 unfold xm9
 refine zw7 (I:=fun x (c:AscSt) st'=>st'=st/\c.1=none/\c.2=x/\Seg rk (zy st) lo (lo+c.2)) ?_ ?_ (Mini.iAAA rfl rfl rfl hs)
 ·intro ff hff
  rintro x ⟨r,n⟩ st' h3 h4 ⟨rfl,rfl,rfl,hs⟩
  subst hff
  dsimp only at h3 h4 hs |-
  refine zZ (yx7 ha hk ht (bl h4 hn) (t2 (Q6 ..) (bl h4 hn)) ?_)
  dsimp only
  by_cases hc:Rk rk (zy st') (lo+n)<Rk rk (zy st') (lo+n - 1)
  ·rw[decide_eq_true hc]
   exact zV (Mini.iAAAAA rfl rfl h3 (zz h4) hs (fun _=>hc))
  ·rw[decide_eq_false hc]
   refine zV (Mini.iAAA rfl rfl rfl (fun k l g1 g2 g3=>?_))
   dsimp only at g3
   by_cases e:l=lo+n
   ·subst e
    by_cases e2:k=lo+n
    ·subst e2;exact zv _
    ·exact qv (hs k (lo+n - 1) g1 (p2 g2 e2) (p1 (qv h1 h3))) (z9 hc)
   ·exact hs k l g1 g2 (ls1 g3 e)
 ·rintro ⟨r,n⟩ st' ⟨rfl,rfl,e,hs⟩
  dsimp only at e hs |-
  exact Mini.iAAAAA rfl rfl (by lia) (by lia) hs (fun h=>by lia)
noncomputable def wh9 (rk:z0->Nat)(lo nrem:Nat)(st:zK)(r:Option Nat)(st':zK):Prop:=∃ n,r=some n/\1<=n/\n<=nrem/\Kp lo st st'/\Seg rk (zy st') lo (lo+n)
theorem yj1 (ha:Asks prog w A s κ T rk){st:zK}(hk:kindOf st=κ)(ht:Tt T (zy st)){lo n nrem:Nat}(h1:1<=n)(h2:n<=nrem)(hn:lo+nrem<=(zy st).size)(hd:Fal rk (zy st) lo (lo+n)) :
  wpS (zx prog w) A E s (yq1 lo n nrem) (wh9 rk lo nrem st) st:=by
 unfold yq1
 rw[reverseSlice'_eq]
 refine zZ (uV ?_)
 have pm:Pm lo (zy st) (mirror (zy st) lo (lo+n) ((lo+n - lo) / 2)):=ze7 (by lia) (zv _)
 refine zZ (k9 (xr7 ha (st:=setArr st (mirror (zy st) lo (lo+n) ((lo+n - lo) / 2))) hk (ht.perm pm.perm) h1 h2 (by rw[pm.size];exact hn) fun k l g1 g2 g3=>?_) ?_)
 ·rw[yw9 (by lia),yw9 (by lia),if_pos ⟨g1,by lia⟩,if_pos ⟨by lia,g3⟩]
  exact hd _ _ (mi1 g3) (Nat.sub_le_sub_left g2 _) (mi2 g1 (t2 g2 g3))
 ·rintro ⟨r,m⟩ st' ⟨rfl,rfl,q1,q2,q3,q4⟩
  exact zV ⟨m,rfl,qv h1 q1,q2,Kp.set pm,q3⟩
theorem yo6 (ha:Asks prog w A s κ T rk){st:zK}(hk:kindOf st=κ)(ht:Tt T (zy st)){lo n nrem:Nat}(h1:1<=n)(h2:n<nrem)(hn:lo+nrem<=(zy st).size)(hd:Fal rk (zy st) lo (lo+(n+1))) :
  wpS (zx prog w) A E s (ye2 lo n nrem) (wh9 rk lo nrem st) st:=by
 unfold ye2
 refine zZ (wpS_lift (Qw ⟨rfl,?_⟩))
 refine zZ (k9 (Q:=fun (c:DescSt) st'=>c.1=none/\Kp lo st st'/\c.2.2+1<=c.2.1/\c.2.1<=nrem/\Fal rk (zy st') lo (lo+c.2.1)/\∀ i,lo+c.2.1 - (c.2.2+1)<=i->i<lo+c.2.1->Rk rk (zy st') i=Rk rk (zy st') (lo+c.2.1 - 1)) ?_ ?_)
 ·unfold ye3
  refine zw7 (I:=fun x (c:DescSt) st'=>c.1=none/\c.2.1=x/\Kp lo st st'/\c.2.2+1<=c.2.1/\Fal rk (zy st') lo (lo+c.2.1)/\∀ i,lo+c.2.1 - (c.2.2+1)<=i->i<lo+c.2.1->Rk rk (zy st') i=Rk rk (zy st') (lo+c.2.1 - 1)) ?_ ?_ (Mini.iAAAAA rfl rfl (Kp.rfl' _ _) (by dsimp only;lia) hd (fun i g1 g2=>by dsimp only at g1 g2 |-;rw[ls2 g1 g2]))
  ·intro ff hff
   rintro x ⟨r,m,q⟩ st' h3 h4 ⟨rfl,rfl,K,hq,hd,he⟩
   subst hff
   dsimp only at h3 h4 hq hd he |-
   have hsz:=K.pm.size
   refine zZ (yx7 ha (K.kind.trans hk) (ht.perm K.pm.perm) (by lia) (by lia) ?_)
   dsimp only
   have grow:Rk rk (zy st') (lo+m)<=Rk rk (zy st') (lo+m - 1)->Fal rk (zy st') lo (lo+(m+1)):=fun hle k l g1 g2 g3=>by
    by_cases e:l=lo+m
    ·subst e
     by_cases e2:k=lo+m
     ·subst e2;exact zv _
     ·exact qv hle (hd k (lo+m - 1) g1 (p2 g2 e2) (p1 (qv (w3 1 n) h3)))
    ·exact hd k l g1 g2 (ls1 g3 e)
   by_cases hc:Rk rk (zy st') (lo+m)<Rk rk (zy st') (lo+m - 1)
   ·rw[decide_eq_true hc,if_pos rfl]
    have g:=grow (zz hc)
    refine zz2 (fun hp=>?_) fun hp=>?_
    ·rw[reverseSlice'_eq]
     have pm:Pm lo (zy st') (mirror (zy st') (lo+m - (q+1)) (lo+m) ((lo+m - (lo+m - (q+1))) / 2)):=ze7 (by lia) (ls3 hq)
     have hsame:=zg8 (rk:=rk) (a:=zy st') (i:=lo+m - (q+1)) (j:=lo+m) (by lia) he
     refine zZ (uV (zV (Mini.iAAAAA rfl rfl (K.trans (Kp.set pm)) (by dsimp only;lia) (fun k l g1 g2 g3=>?_) (fun i g1 g2=>?_))))
     ·rw[hsame,hsame];exact g k l g1 g2 g3
     ·dsimp only at g1 g2 |-;rw[show i=lo+(m+1) - 1 from ls2 g1 g2]
    ·refine zV (Mini.iAAAAA rfl rfl K (by dsimp only;lia) g (fun i g1 g2=>?_))
     dsimp only at g1 g2 |-;rw[show i=lo+(m+1) - 1 by lia]
   ·rw[decide_eq_false hc,if_neg qj]
    refine zZ (yx7 ha (K.kind.trans hk) (ht.perm K.pm.perm) (by lia) (by lia) ?_)
    dsimp only
    by_cases hc2:Rk rk (zy st') (lo+m - 1)<Rk rk (zy st') (lo+m)
    ·rw[decide_eq_true hc2,if_pos rfl]
     exact zV (Mini.iAAAAA rfl K hq (by dsimp only;lia) hd he)
    ·rw[decide_eq_false hc2,if_neg qj]
     have heq:Rk rk (zy st') (lo+m)=Rk rk (zy st') (lo+m - 1):=jy (z9 hc2) (z9 hc)
     refine zV (Mini.iAAAAA rfl rfl K (by dsimp only;lia) (grow (xx heq)) (fun i g1 g2=>?_))
     dsimp only at g1 g2 |-
     rw[show lo+(m+1) - 1=lo+m by lia]
     by_cases e:i=lo+m
     ·subst e;rfl
     ·rw[heq];exact he i (by lia) (by lia)
  ·rintro ⟨r,m,q⟩ st' ⟨rfl,e,K,hq,hd,he⟩
   dsimp only at e hq hd he |-
   exact Mini.iAAAAA rfl K hq (by lia) hd he
 ·rintro ⟨r,m,q⟩ st' ⟨rfl,K,hq,hm,hd,he⟩
  dsimp only at hq hm hd he |-
  have hsz:=K.pm.size
  refine zz2 (fun hp=>?_) fun hp=>?_
  ·rw[reverseSlice'_eq]
   have pm:Pm lo (zy st') (mirror (zy st') (lo+m - (q+1)) (lo+m) ((lo+m - (lo+m - (q+1))) / 2)):=ze7 (by lia) (by lia)
   have hsame:=zg8 (rk:=rk) (a:=zy st') (i:=lo+m - (q+1)) (j:=lo+m) (by lia) he
   refine zZ (uV ?_)
   refine k9 (yj1 ha (st:=setArr st' (mirror (zy st') (lo+m - (q+1)) (lo+m) ((lo+m - (lo+m - (q+1))) / 2))) (K.kind.trans hk) ((ht.perm K.pm.perm).perm pm.perm) (by lia) hm (by rw[pm.size];lia) fun k l g1 g2 g3=>?_) ?_
   ·rw[hsame,hsame];exact hd k l g1 g2 g3
   ·rintro r st2 ⟨m',e,q1,q2,K2,q3⟩
    exact⟨m',e,q1,q2,(K.trans (Kp.set pm)).trans K2,q3⟩
  ·refine k9 (yj1 ha (K.kind.trans hk) (ht.perm K.pm.perm) (by lia) hm (by lia) hd) ?_
   rintro r st2 ⟨m',e,q1,q2,K2,q3⟩
   exact⟨m',e,q1,q2,K.trans K2,q3⟩
theorem xl1 (ha:Asks prog w A s κ T rk){st:zK}(hk:kindOf st=κ)(ht:Tt T (zy st)){lo nrem:Nat}(h1:1<=nrem)(hn:lo+nrem<=(zy st).size) :
  wpS (zx prog w) A E s (countRun' lo nrem) (wh9 rk lo nrem st) st:=by
 rw[xx4]
 refine zw2 fun gg0 hg0=>k9 (xr7 ha hk ht (zv _) h1 hn fun k l g1 g2 g3=>by rw[show k=l by lia];exact zv _) ?_
 rintro ⟨r,n⟩ st' ⟨rfl,rfl,q1,q2,q3,q4⟩
 subst hg0
 dsimp only at q1 q2 q3 q4 |-
 refine zz2 (fun he=>?_) fun he=>?_
 ·exact zV ⟨n,rfl,q1,q2,Kp.rfl' _ _,q3⟩
 ·have e1:n≠nrem:=by simpa using he
  have hlt:=q4 (by lia)
  refine zz2 (fun hp=>?_) fun hp=>?_
  ·refine zZ (yx7 ha hk ht (by lia) (by lia) ?_)
   dsimp only
   by_cases hc:Rk rk (zy st') lo<Rk rk (zy st') (lo+n - 1)
   ·rw[decide_eq_true hc,if_pos rfl]
    exact zV ⟨n,rfl,q1,q2,Kp.rfl' _ _,q3⟩
   ·rw[decide_eq_false hc,if_neg qj,reverseSlice'_eq]
    have hall:∀ k,lo<=k->k<lo+n->Rk rk (zy st') k=Rk rk (zy st') lo:=fun k g1 g2=>jy (qv (q3 k (lo+n - 1) g1 (wj g2) (p1 q1)) (z9 hc)) (q3 lo k (zv _) g1 g2)
    have pm:Pm lo (zy st') (mirror (zy st') lo (lo+n) ((lo+n - lo) / 2)):=ze7 (by lia) (zv _)
    have hsame:=zg8 (rk:=rk) (a:=zy st') (i:=lo) (j:=lo+n) (by lia) hall
    refine zZ (uV ?_)
    refine k9 (yo6 ha (st:=setArr st' (mirror (zy st') lo (lo+n) ((lo+n - lo) / 2))) hk (ht.perm pm.perm) q1 (by lia) (by rw[pm.size];assumption) fun k l g1 g2 g3=>?_) ?_
    ·rw[hsame,hsame]
     by_cases e:l=lo+n
     ·subst e
      by_cases e2:k=lo+n
      ·subst e2;exact zv _
      ·rw[hall k g1 (by lia),<- hall (lo+n - 1) (wj (Nat.lt_add_of_pos_right q1)) (p1 q1)];exact zz hlt
     ·rw[hall k g1 (by lia),hall l (by lia) (by lia)];exact zv _
    ·rintro r st2 ⟨m',e,q1,q2,K2,q3⟩
     exact⟨m',e,q1,q2,(Kp.set pm).trans K2,q3⟩
  ·have e2:n=1:=by lia
   subst e2
   refine yo6 ha hk ht (zv _) (by lia) hn fun k l g1 g2 g3=>?_
   by_cases e:k=l
   ·subst e;exact zv _
   ·rw[show k=lo+1 - 1 by lia,show l=lo+1 by lia];exact zz hlt
theorem xr9 (ha:Asks prog w A s κ T rk){st:zK}(hk:kindOf st=κ)(ht:Tt T (zy st)){lo n ok:Nat}(h1:1<=ok)(hok:ok<=n)(hn:lo+n<=(zy st).size)(hs:Seg rk (zy st) lo (lo+ok)){Q:Bool->zK->Prop}
  (h:∀ st',Kp lo st st'->Seg rk (zy st') lo (lo+n)->Q true st'):wpS (zx prog w) A E s (binarySort' lo n ok) Q st:=by
 rw[binarySort'_eq]
 refine zw2 fun gg hgg=>?_
 refine k9 (zw7 (I:=fun k c st'=>c=(none,())/\Kp lo st st'/\Seg rk (zy st') lo (lo+k))
  (Q:=fun c st'=>c=(none,())/\Kp lo st st'/\Seg rk (zy st') lo (lo+n)) ?step ?fin ?init) ?post
 case post =>
  (intro c st' h_1;refine Mini.elAA h_1 fun e_0 K hs'=>?_;clear h_1;subst e_0)
  subst hgg
  exact zV (h st' K hs')
 case init=>exact Mini.iAA rfl (Kp.rfl' _ _) (by rw[Nat.max_eq_left h1];exact hs)
 case fin =>
  (intro c st' h_1;refine Mini.elAA h_1 fun hc K hs'=>?_;clear h_1)
  refine Mini.iAA hc K ?_
  rwa [Nat.max_eq_left h1,Nat.max_eq_right hok]at hs'
 case step =>
  intro ff hff
  (intro k c st' hak hkn h_1;refine Mini.elAA h_1 fun e_0 K hs'=>?_;clear h_1;subst e_0)
  subst hff
  have hsz:=K.pm.size
  refine zw2 fun gg hgg=>?_
  refine k9 (zw7 (I:=fun x c st''=>st''=st'/\∃ l r,c=(none,l,r)/\l<=r/\r<=k/\r - l<=k - x /\
    (∀ i,i<l->Rk rk (zy st') (lo+i)<=Rk rk (zy st') (lo+k))/\(∀ i,r<=i->i<k->Rk rk (zy st') (lo+k)<Rk rk (zy st') (lo+i)))
   (Q:=fun c st''=>st''=st'/\∃ l r,c=(none,l,r)/\l<=k /\
    (∀ i,i<l->Rk rk (zy st') (lo+i)<=Rk rk (zy st') (lo+k))/\(∀ i,l<=i->i<k->Rk rk (zy st') (lo+k)<Rk rk (zy st') (lo+i))) ?istep ?ifin ?iinit) ?ipost
  case iinit=>exact⟨rfl,Mini.iEEAAAAA 0 k rfl (by lia) (by lia) (by lia) (fun i hi=>by lia) (fun i h1 h2=>by lia)⟩
  case ifin =>
   rintro c st'' ⟨rfl,l,r,rfl,hlr,hrk,hm,hlo,hhi⟩
   have:=hfz hlr hm
   subst this
   exact⟨rfl,Mini.iEEAAA l l rfl hrk hlo hhi⟩
  case istep =>
   intro ff hff
   rintro x c st'' _ hxk ⟨rfl,l,r,rfl,hlr,hrk,hm,hlo,hhi⟩
   subst hff
   dsimp only
   refine zz2 (fun hge=>?_) fun hge=>?_
   ·have:l=r:=jy hlr hge
    subst this
    exact zV ⟨rfl,Mini.iEEAAA l l rfl hrk hlo hhi⟩
   ·refine zZ (yx7 ha (K.kind.trans hk) (ht.perm K.pm.perm) (Nat.lt_of_lt_of_eq (bl hkn hn) hsz.symm) (Nat.lt_of_lt_of_eq (bl (t1 (hg1 hge) (qv hrk (zz hkn))) hn) hsz.symm) ?_)
    dsimp only
    by_cases hless:Rk rk (zy st'') (lo+k)<Rk rk (zy st'') (lo+(l+r) / 2)
    ·rw[decide_eq_true hless,if_pos rfl]
     refine zV ⟨rfl,Mini.iEEAAAAA l ((l+r) / 2) rfl (hg0 hge) (zz (t1 (hg1 hge) hrk)) (hg3 hge hm) hlo (fun i h1 h2=>?_)⟩
     exact vZ hless (hs' _ _ (by lia) (by lia) (by lia))
    ·rw[decide_eq_false hless,if_neg qj]
     refine zV ⟨rfl,Mini.iEEAAAAA ((l+r) / 2+1) r rfl (hg1 hge) hrk (hg2 hge hm) (fun i h1=>?_) hhi⟩
     exact qv (hs' (lo+i) (lo+(l+r) / 2) (qk ..) (qZ (uk h1) _) (uX (t1 (hg1 hge) hrk) _)) (z9 hless)
  case ipost =>
   rintro c st'' ⟨rfl,l,r,rfl,hlk,hlo,hhi⟩
   subst hgg
   show wpS _ _ _ _ (do moveDown' (lo+k) (lo+l);pure (wZ (none,()))) _ _
   rw[moveDown'_eq]
   have pm:Pm lo (zy st'') (bubble (zy st'') (lo+k) (lo+k - (lo+l))):=xd9 (by lia) (by lia) (by lia)
   refine zZ (uV (zV (Mini.iAA rfl (K.trans (Kp.set pm)) ?_)))
   intro i j hi hij hj
   show Rk rk (bubble (zy st'') (lo+k) (lo+k - (lo+l))) i<=Rk rk (bubble (zy st'') (lo+k) (lo+k - (lo+l))) j
   rw[yi5 (by lia) (by lia),yi5 (by lia) (by lia)]
   have hlo':∀ i,lo<=i->i<lo+l->Rk rk (zy st'') i<=Rk rk (zy st'') (lo+k):=fun i g1 g2=>by
    have:=hlo (i - lo) (p3 g1 g2)
    rwa [wX g1]at this
   have hhi':∀ i,lo+l<=i->i<lo+k->Rk rk (zy st'') (lo+k)<=Rk rk (zy st'') i:=fun i g1 g2=>by
    have:=hhi (i - lo) (p5 g1) (p4 g1 g2)
    rw[p6 g1]at this
    exact zz this
   exact bub (f:=fun i=>Rk rk (zy st'') i) hs' hlo' hhi' (qk ..) (qZ hlk _) hi hij hj
end
noncomputable def zd1 (a:Array z0)(off:Nat)(l:List z0):Array z0:=l.zipIdx.foldl (fun a (p,j)=>a.setIfInBounds (off+j) p) a
theorem ya7 (i:Nat):mergeAt' i=(do
 let st <- get
 let (some (sa,na,power),some (sb,nb,_)):=((zW st)[i]?,(zW st)[i+1]?)|unsupported "internal:list.sort.pending"
 set (setPending st (((zW st).setIfInBounds i (sa,na+nb,power)).eraseIdxIfInBounds (i+1)))
 let some k <- zr2 false (<- yX (zy st) sb) (zy st) sa na 0|return false
 let (sa,na):=(sa+k,na - k)
 if na==0 then return true
 let some nb <- zr2 true (<- yX (zy st) (sa+na - 1)) (zy st) sb nb (nb - 1)|return false
 if nb==0 then return true
 let x:=(zy st).extract sa sb
 let y:=(zy st).extract sb (sb+nb)
 let merged <- if na<=nb then yx2 x y else yx3 x y
 modify fun st=>setArr st (zd1 (zy st) sa merged.toList)
 return (y9 (<- get)).isNone):=rfl
theorem ws6 (off:Nat):∀(l:List z0)(n:Nat)(a:Array z0)(pre mid post:List z0),a.toList=pre++(mid++post)->pre.length=off+n->mid.length=l.length ->
  ((l.zipIdx n).foldl (fun a (p:z0×Nat)=>a.setIfInBounds (off+p.2) p.1) a).toList=pre++(l++post)
 | [],n,a,pre,mid,post,h,hp,hm=>by
  have:mid=[]:=Z3.mp hm
  subst this
  simpa using h
 | p::l,n,a,pre,[],post,h,hp,hm=>by simp at hm
 | p::l,n,a,pre,m::mid,post,h,hp,hm=>by
  rw[List.zipIdx_cons,List.foldl_cons]
  have e:(a.setIfInBounds (off+n) p).toList=(pre++[p])++(mid++post):=by
   rw[Array.toList_setIfInBounds,h,<- hp]
   simp
  have:=ws6 off l (n+1) (a.setIfInBounds (off+n) p) (pre++[p]) mid post e (by simp;lia) (by simpa using hm)
  rw[this]
  simp
theorem xt4 {a:Array z0}{off:Nat}{l:List z0}(h:off+l.length<=a.size):(zd1 a off l).toList=(a.extract 0 off).toList++(l++(a.extract (off+l.length) a.size).toList):=by
 unfold zd1
 refine ws6 off l 0 a (a.extract 0 off).toList (a.extract off (off+l.length)).toList _ ?_ (by simp;lia) (by simp;exact wV (p5 h))
 have h1:=zi9 (a:=a) (i:=off) (k:=a.size) (by lia) (zv _)
 have h2:=zd5 (a:=a) (i:=off) (k:=l.length) h
 rw[<- h2,<- h1]
 simp
theorem xz2 {a:Array z0}{off:Nat}{l:List z0}(h:off+l.length<=a.size)(k:Nat):(zd1 a off l)[k]?=if off<=k/\k<off+l.length then l[k - off]? else a[k]?:=by
 rw[<- xK,xt4 h]
 have l1:(a.extract 0 off).toList.length=off:=by simp;exact wV (qv (qk ..) h)
 by_cases h1:k<off
 ·rw[if_neg (by lia),xX (by rw[l1];exact h1),xK,Zq (lg4 h1 h)]
  simp
 ·rw[wK (by rw[l1];lia),l1]
  by_cases h2:k<off+l.length
  ·rw[if_pos ⟨z9 h1,h2⟩,xX (p3 (z9 h1) h2)]
  ·rw[if_neg (by lia),wK (p5 (z9 h2)),xK]
   by_cases h3:k<a.size
   ·rw[Zq (lg1 h2 h3),<- zk]
    congr 1
    exact lg2 h2
   ·rw[yv (by simp;exact lg3 h2 h3),yv (z9 h3)]
theorem wx5 {a:Array z0}{off:Nat}{l:List z0}(h:off+l.length<=a.size)(hp:l.Perm (a.extract off (off+l.length)).toList):(zd1 a off l).Perm a:=by
 rw[Array.perm_iff_toList_perm,xt4 h]
 have h1:=zi9 (a:=a) (i:=off) (k:=a.size) (by lia) (zv _)
 have h2:=zd5 (a:=a) (i:=off) (k:=l.length) h
 have e:a.toList=(a.extract 0 off).toList++((a.extract off (off+l.length)).toList++(a.extract (off+l.length) a.size).toList):=by
  rw[<- h2,<- h1];simp
 exact Z5 (vV.append_left _ (vV.append_right _ hp)) (vV.of_eq e.symm)
section
variable {prog:vw}{w:wz}{A:zJ}{E:qz->qw->Prop}{s:qw}{κ:SortKind}{T:z0->Prop}{rk:z0->Nat}
structure MA (rk:z0->Nat)(i sa e:Nat)(row:Nat×Nat×Nat)(st st':zK):Prop where
 kind:kindOf st'=kindOf st
 fail:y9 st'=y9 st
 pend:zW st'=((zW st).setIfInBounds i row).eraseIdxIfInBounds (i+1)
 perm:(zy st').Perm (zy st)
 seg:Seg rk (zy st') sa e
 out:∀ k,k<sa\/e<=k->(zy st')[k]?=(zy st)[k]?
theorem za9 {a:Array z0}{i j k:Nat}(h:i+k<j)(hj:j<=a.size):Rk rk (a.extract i j) k=Rk rk a (i+k):=zs1 (by rw[Zq (lg5 h hj),zk])
theorem xt8 {a:Array z0}{i j k:Nat}(h:i+k<j)(hj:j<=a.size):(a.extract i j).getD k Zk=a.getD (i+k) Zk:=by
 rw[w0,w0,Zq (lg5 h hj),zk]
theorem ye8 (ha:Asks prog w A s κ T rk){st:zK}(hk:kindOf st=κ)(hf:y9 st=none)(ht:Tt T (zy st)){i sa na pw sb nb q:Nat}(p1:(zW st)[i]?=some (sa,na,pw))(p2:(zW st)[i+1]?=some (sb,nb,q))
  (e0:sb=sa+na) (n1:1<=na) (n2:1<=nb) (hz:sb+nb<=(zy st).size) (s1:Seg rk (zy st) sa sb) (s2:Seg rk (zy st) sb (sb+nb)) {Q:Bool->zK->Prop}
  (h:∀ st',MA rk i sa (sb+nb) (sa,na+nb,pw) st st'->Q true st'):wpS (zx prog w) A E s (mergeAt' i) Q st:=by
 subst e0
 rw[ya7]
 refine zZ (wpS_get ?_)
 rw[p1,p2]
 dsimp only
 refine zZ (uV (f:=fun _=>setPending st (((zW st).setIfInBounds i (sa,na+nb,pw)).eraseIdxIfInBounds (i+1))) ?_)
 refine zZ (zy1 (zy3 (bl n2 hz)) ?_)
 refine zZ (zp4 ha (by exact hk) (ht.get (bl n2 hz)) n1 (p7 hz) (fun j hj=>ht.get (bl hj (p7 hz))) (fun j l hjl hl=>s1 _ _ (qk ..) (qZ hjl _) (uX hl _)) fun k k1 k2 k3=>?_)
 dsimp only
 have low:∀ j,sa<=j->j<sa+k->Rk rk (zy st) j<=Rk rk (zy st) (sa+na):=fun j g1 g2=>by
  have:=wh4 (k2 (j - sa) (p3 g1 g2))
  rwa [wX g1]at this
 have high:∀ j,sa+k<=j->j<sa+na->Rk rk (zy st) (sa+na)<Rk rk (zy st) j:=fun j g1 g2=>by
  have:=xc4 (k3 (j - sa) (p5 g1) (p4 g1 g2))
  rwa [p6 g1]at this
 refine zz2 (fun hc=>?_) fun hc=>?_
 ·have ek:na - k=0:=by simpa using hc
  refine zV (h _ ⟨rfl,rfl,rfl,Array.Perm.refl _,fun p l g1 g2 g3=>?_,fun _ _=>rfl⟩)
  show Rk rk (zy st) p<=Rk rk (zy st) l
  by_cases c1:l<sa+na
  ·exact s1 p l g1 g2 c1
  ·by_cases c2:p<sa+na
   ·exact qv (low p g1 (t1 c2 (qZ (yZ ek) _))) (s2 (sa+na) l (zv _) (z9 c1) g3)
   ·exact s2 p l (z9 c2) g2 g3
 ·have ek:na - k≠0:=by simpa using hc
  refine zZ (zy1 (zy3 (ma1 k1 n1 hz)) ?_)
  refine zZ (zp4 ha (by exact hk) (ht.get (ma1 k1 n1 hz)) (p9 n2) hz (fun j hj=>ht.get (bl hj hz)) (fun j l hjl hl=>s2 _ _ (qk ..) (qZ hjl _) (uX hl _)) fun m m1 m2 m3=>?_)
  dsimp only
  have blow:∀ j,sa+na<=j->j<sa+na+m->Rk rk (zy st) j<Rk rk (zy st) (sa+na - 1):=fun j g1 g2=>by
   have:=wh3 (m2 (j - (sa+na)) (p3 g1 g2))
   rwa [wX g1,show rk ((zy st).getD (sa+k+(na - k) - 1) (wk,wk))=Rk rk (zy st) (sa+k+(na - k) - 1) from rfl,ma2 k1]at this
  have bhigh:∀ j,sa+na+m<=j->j<sa+na+nb->Rk rk (zy st) (sa+na - 1)<=Rk rk (zy st) j:=fun j g1 g2=>by
   have:=xc3 (m3 (j - (sa+na)) (p5 g1) (p4 g1 g2))
   rwa [p6 g1,show rk ((zy st).getD (sa+k+(na - k) - 1) (wk,wk))=Rk rk (zy st) (sa+k+(na - k) - 1) from rfl,ma2 k1]at this
  refine zz2 (fun hc2=>?_) fun hc2=>?_
  ·have em:m=0:=by simpa using hc2
   refine zV (h _ ⟨rfl,rfl,rfl,Array.Perm.refl _,fun p l g1 g2 g3=>?_,fun _ _=>rfl⟩)
   show Rk rk (zy st) p<=Rk rk (zy st) l
   by_cases c1:l<sa+na
   ·exact s1 p l g1 g2 c1
   ·by_cases c2:p<sa+na
    ·exact qv (s1 p (sa+na - 1) g1 (wj c2) (Snd.p1 n1)) (bhigh l (by rw[em];exact z9 c1) g3)
    ·exact s2 p l (z9 c2) g2 g3
  ·have em:m≠0:=by simpa using hc2
   have sx:((zy st).extract (sa+k) (sa+na)).size=na - k:=Array.size_extract.trans (ma3 hz)
   have sy:((zy st).extract (sa+na) (sa+na+m)).size=m:=Array.size_extract.trans (ma4 hz m1)
   have zm:sa+na+m<=(zy st).size:=qv (qZ m1 _) hz
   have my:∀{j},j<((zy st).extract (sa+na) (sa+na+m)).size->sa+na+j<sa+na+m:=fun hj=>uX (Nat.lt_of_lt_of_eq hj sy) _
   have x1:1<=((zy st).extract (sa+k) (sa+na)).size:=by rw[sx];exact Nat.pos_of_ne_zero ek
   have y1:1<=((zy st).extract (sa+na) (sa+na+m)).size:=by rw[sy];exact Nat.pos_of_ne_zero em
   have D:Two T rk ((zy st).extract (sa+k) (sa+na)) ((zy st).extract (sa+na) (sa+na+m)):=by
    refine⟨fun j hj=>?_,fun j hj=>?_,fun j l hjl hl=>?_,fun j l hjl hl=>?_,x1,y1,fun j hj=>?_,fun j hj=>?_⟩
    ·rw[xt8 (ma5 sx hj) (p7 hz)];exact ht.get (t1 (ma5 sx hj) (p7 hz))
    ·rw[xt8 (my hj) zm];exact ht.get (t1 (my hj) zm)
    ·rw[za9 (ma5 sx (t2 hjl hl)) (p7 hz),za9 (ma5 sx hl) (p7 hz)];exact s1 _ _ p8 (qZ hjl _) (ma5 sx hl)
    ·rw[za9 (my (t2 hjl hl)) zm,za9 (my hl) zm];exact s2 _ _ (qk ..) (qZ hjl _) (t1 (my hl) (qZ m1 _))
    ·rw[za9 (my y1) zm,za9 (ma5 sx hj) (p7 hz)];exact zz (high _ (qk ..) (ma5 sx hj))
    ·rw[za9 (my hj) zm,za9 (ma5 sx (p9 x1)) (p7 hz),ma6 sx k1 ek]
     exact zz (blow _ (qk ..) (my hj))
   have fin:∀ r st',Same (setPending st (((zW st).setIfInBounds i (sa,na+nb,pw)).eraseIdxIfInBounds (i+1))) st'->zo5 rk ((zy st).extract (sa+k) (sa+na)) ((zy st).extract (sa+na) (sa+na+m)) r ->
     wpS (zx prog w) A E s (do
      modify fun st=>setArr st (zd1 (zy st) (sa+k) r.toList)
      return (y9 (<- get)).isNone) Q st':=by
    intro r st' S M
    obtain ⟨mp,ms⟩:=M
    have hlen:r.toList.length=na - k+m:=by rw[mp.length_eq,zw,ww,ww,sx,sy]
    have hfit:sa+k+r.toList.length<=(zy st).size:=by rw[ma7 hlen k1];exact zm
    have ejoin:((zy st).extract (sa+k) (sa+k+r.toList.length)).toList=((zy st).extract (sa+k) (sa+na)).toList++((zy st).extract (sa+na) (sa+na+m)).toList:=by
     rw[<- w7,Array.extract_append_extract]
     congr 2
     ·lia
     ·rw[ma7 hlen k1];exact(Nat.max_eq_right (qk ..)).symm
    refine zZ (uV (zZ (wpS_get ?_)))
    have e1:y9 (setArr st' (zd1 (zy st') (sa+k) r.toList))=none:=S.fail.trans hf
    rw[e1]
    refine zV (h _ ⟨S.kind,S.fail,S.pend,?_,?_,?_⟩)
    ·show (zd1 (zy st') (sa+k) r.toList).Perm (zy st)
     rw[S.arr]
     exact wx5 hfit (by rw[ejoin];exact mp)
    ·show Seg rk (zd1 (zy st') (sa+k) r.toList) sa (sa+na+nb)
     rw[S.arr]
     show Seg rk (zd1 (zy st) (sa+k) r.toList) sa (sa+na+nb)
     have gout:∀ p,p<sa+k\/sa+na+m<=p->Rk rk (zd1 (zy st) (sa+k) r.toList) p=Rk rk (zy st) p:=fun p hp=>zs1 (by rw[xz2 hfit,if_neg (ma8 (ma7 hlen k1) hp)])
     have gin:∀ p,sa+k<=p->p<sa+na+m->∃ x,r.toList[p - (sa+k)]?=some x/\Rk rk (zd1 (zy st) (sa+k) r.toList) p=rk x:=fun p g1 g2=>by
      have g3:=Nat.lt_of_lt_of_eq g2 (ma7 hlen k1).symm
      have hp:p - (sa+k)<r.toList.length:=p3 g1 g3
      refine Mini.iEA _ (qJ hp) ?_
      unfold Rk
      rw[w0,xz2 hfit,if_pos ⟨g1,g3⟩,qJ hp]
      rfl
     have mem:∀ p x,r.toList[p]?=some x->(∃ j,sa+k<=j/\j<sa+na/\rk x=Rk rk (zy st) j)\/∃ j,sa+na<=j/\j<sa+na+m/\rk x=Rk rk (zy st) j:=fun p x hx=>by
      have hm:=mp.mem_iff.mp (xZ hx)
      rcases z6.mp hm with hm|hm
      ·(refine Mini.elEAAA (zy4 hm) fun j g1 g2 g3 e_4=>?_;subst e_4)
       exact .inl (Mini.iEAA j g1 g2 rfl)
      ·(refine Mini.elEAAA (zy4 hm) fun j g1 g2 g3 e_4=>?_;subst e_4)
       exact .inr (Mini.iEAA j g1 g2 rfl)
     intro p l g1 g2 g3
     by_cases c1:l<sa+k
     ·rw[gout p (.inl (t2 g2 c1)),gout l (.inl c1)];exact s1 p l g1 g2 (t1 c1 (qZ k1 _))
     ·by_cases c2:l<sa+na+m
      ·refine Mini.elEA (gin l (z9 c1) c2) fun y hy ey=>?_
       rw[ey]
       by_cases c3:p<sa+k
       ·rw[gout p (.inl c3)]
        rcases mem _ y hy with ⟨j,j1,j2,e⟩|⟨j,j1,j2,e⟩
        ·rw[e];exact s1 p j g1 (zz (t1 c3 j1)) j2
        ·rw[e];exact qv (low p g1 c3) (s2 (sa+na) j (zv _) j1 (t1 j2 (qZ m1 _)))
       ·refine Mini.elEA (gin p (z9 c3) (t2 g2 c2)) fun x hx ex=>?_
        rw[ex]
        by_cases c4:p=l
        ·subst c4
         rw[hx]at hy
         cases hy
         exact zv _
        ·obtain ⟨q1,q2⟩:=qV.mp hx
         obtain ⟨q3,q4⟩:=qV.mp hy
         have:=(Qz.mp ms) (p - (sa+k)) (l - (sa+k)) q1 q3 (Nat.sub_lt_sub_right (z9 c3) (jv g2 c4))
         rwa [q2,q4]at this
      ·rw[gout l (.inr (z9 c2))]
       by_cases c3:p<sa+k
       ·rw[gout p (.inl c3)]
        exact qv (low p g1 c3) (s2 (sa+na) l (zv _) (p7 (z9 c2)) g3)
       ·by_cases c4:p<sa+na+m
        ·refine Mini.elEA (gin p (z9 c3) c4) fun x hx ex=>?_
         rw[ex]
         rcases mem _ x hx with ⟨j,j1,j2,e⟩|⟨j,j1,j2,e⟩
         ·rw[e];exact qv (s1 j (sa+na - 1) (qv (qk ..) j1) (wj j2) (Snd.p1 n1)) (bhigh l (z9 c2) g3)
         ·rw[e];exact s2 j l j1 (zz (t1 j2 (z9 c2))) g3
        ·rw[gout p (.inr (z9 c4))];exact s2 p l (p7 (z9 c4)) g2 g3
    ·intro p hp
     show (zd1 (zy st') (sa+k) r.toList)[p]?=_
     rw[S.arr]
     show (zd1 (zy st) (sa+k) r.toList)[p]?=_
     rw[xz2 hfit,if_neg (ma8 (ma7 hlen k1) (hp.imp (fun f=>t1 f (qk ..)) (qv (qZ m1 _))))]
   refine zz2 (fun hn=>?_) fun hn=>?_
   ·exact zZ (ye6 ha D (by exact hk) fin)
   ·exact zZ (ye7 ha D (by exact hk) fin)
end
noncomputable def Chn (rk:z0->Nat)(a:Array z0):List (Nat×Nat)->Nat->Nat->Prop
 | [],i,j=>i=j
 | (s,n)::l,i,j=>s=i/\1<=n/\Seg rk a s (s+n)/\Chn rk a l (s+n) j
theorem wu8 {rk a i j}:Chn rk a [] i j=(i=j):=rfl
theorem Chn.le {rk:z0->Nat}{a:Array z0}:∀{l:List (Nat×Nat)}{i j:Nat},Chn rk a l i j->i+l.length<=j
 | [],i,j,h=>by simp only[wu8]at h;simp[h]
 | (s,n)::l,i,j,h=>by
  have:=Chn.le h.2.2.2
  have h1:=h.1
  have h2:=h.2.1
  simp only[xV];lia
theorem Seg.congr {rk:z0->Nat}{a b:Array z0}{i j:Nat}(h:Seg rk a i j)(e:∀ k,i<=k->k<j->b[k]?=a[k]?):Seg rk b i j:=fun k l g1 g2 g3=>by
 rw[zs1 (e k g1 (by lia)),zs1 (e l (by lia) g3)];exact h k l g1 g2 g3
theorem Chn.congr {rk:z0->Nat}{a b:Array z0}:∀{l:List (Nat×Nat)}{i j:Nat},Chn rk a l i j->(∀ k,i<=k->k<j->b[k]?=a[k]?)->Chn rk b l i j
 | [],i,j,h,e=>h
 | (s,n)::l,i,j,h,e=>by
  (refine Mini.elAAA (h) fun e_0 h2 h3 h4=>?_;subst e_0)
  have:=h4.le
  exact⟨rfl,h2,h3.congr fun k g1 g2=>e k g1 (by lia),h4.congr fun k g1 g2=>e k (qv (qk ..) g1) g2⟩
theorem Chn.split {rk:z0->Nat}{a:Array z0}:∀{l m:List (Nat×Nat)}{i j:Nat},Chn rk a (l++m) i j->∃ k,Chn rk a l i k/\Chn rk a m k j
 | [],m,i,j,h=>Mini.iEA i rfl h
 | (s,n)::l,m,i,j,h=>by
  refine Mini.elEA (Chn.split h.2.2.2) fun k h5 h6=>?_
  exact⟨k,⟨h.1,h.2.1,h.2.2.1,h5⟩,h6⟩
theorem Chn.join {rk:z0->Nat}{a:Array z0}:∀{l m:List (Nat×Nat)}{i k j:Nat},Chn rk a l i k->Chn rk a m k j->Chn rk a (l++m) i j
 | [],m,i,k,j,h,g=>by simp only[wu8]at h;subst h;exact g
 | (s,n)::l,m,i,k,j,h,g=>⟨h.1,h.2.1,h.2.2.1,Chn.join h.2.2.2 g⟩
noncomputable def pn (l:Array (Nat×Nat×Nat)):List (Nat×Nat):=l.toList.map fun p=>(p.1,p.2.1)
theorem xu2 (l:Array (Nat×Nat×Nat)):(pn l).length=l.size:=by simp[pn]
theorem xj4 (l:Array (Nat×Nat×Nat))(i:Nat)(f:Nat×Nat×Nat->Nat×Nat×Nat)(hf:∀ p,(f p).1=p.1/\(f p).2.1=p.2.1):pn (l.modify i f)=pn l:=by
 unfold pn
 rw[Array.toList_modify]
 generalize l.toList=l
 induction l generalizing i with
 | nil=>simp
 | cons x l ih =>
  cases i with
  | zero=>simp[hf]
  | succ i=>simp[ih]
theorem wm0 (l:Array (Nat×Nat×Nat))(p:Nat×Nat×Nat):pn (l.push p)=pn l++[(p.1,p.2.1)]:=by simp[pn]
theorem vz1 {l:Array (Nat×Nat×Nat)}{i:Nat}{p q:Nat×Nat×Nat}(h1:l[i]?=some p)(h2:l[i+1]?=some q)(row:Nat×Nat×Nat):∃ pre post,pn l=pre++(p.1,p.2.1)::(q.1,q.2.1)::post/\pn ((l.setIfInBounds i row).eraseIdxIfInBounds (i+1))=pre++(row.1,row.2.1)::post:=by
 have hi:i+1<l.size:=by
  rcases Nat.lt_or_ge (i+1) l.size with h|h
  ·exact h
  ·rw[yv h]at h2;cases h2
 have e1:l.toList=l.toList.take i++p::q::l.toList.drop (i+2):=by
  have a1:l.toList[i]?=some p:=by rw[xK];exact h1
  have a2:l.toList[i+1]?=some q:=by rw[xK];exact h2
  obtain ⟨b1,b2⟩:=qV.mp a1
  obtain ⟨c1,c2⟩:=qV.mp a2
  rw[<- b2,<- c2,List.getElem_cons_drop,List.getElem_cons_drop,List.take_append_drop]
 have hl:(l.toList.take i).length=i:=by simp;exact wV (zz (j9 hi))
 refine Mini.iEEA ((l.toList.take i).map fun p=>(p.1,p.2.1)) ((l.toList.drop (i+2)).map fun p=>(p.1,p.2.1)) ?_ ?_
 ·unfold pn
  conv=>lhs;rw[e1]
  simp
 ·unfold pn
  have e2:((l.setIfInBounds i row).eraseIdxIfInBounds (i+1)).toList=l.toList.take i++row::l.toList.drop (i+2):=by
   rw[Array.eraseIdxIfInBounds]
   rw[dif_pos (by simpa using hi),Array.toList_eraseIdx,Array.toList_setIfInBounds]
   conv=>lhs;rw[e1]
   generalize l.toList.drop (i+2)=post
   have:∀(pre:List (Nat×Nat×Nat))(i:Nat),pre.length=i->((pre++p::q::post).set i row).eraseIdx (i+1)=pre++row::post:=by
    intro pre
    induction pre with
    | nil=>intro i hi;simp at hi;subst hi;rfl
    | cons x pre ih =>
     intro i hi
     simp only[xV]at hi
     subst hi
     simp only[yz,List.set_cons_succ,List.eraseIdx_cons_succ]
     rw[ih _ rfl]
   exact this _ _ hl
  rw[e2]
  simp
section
variable {prog:vw}{w:wz}{A:zJ}{E:qz->qw->Prop}{s:qw}{κ:SortKind}{T:z0->Prop}{rk:z0->Nat}{a₀:Array z0}
structure Js (κ:SortKind)(rk:z0->Nat)(a₀:Array z0)(lo:Nat)(st:zK):Prop where
 kind:kindOf st=κ
 fail:y9 st=none
 perm:(zy st).Perm a₀
 chn:Chn rk (zy st) (pn (zW st)) 0 lo
 lo:lo<=a₀.size
theorem yq3 (ha:Asks prog w A s κ T rk)(ht:Tt T a₀){st:zK}{lo i:Nat}(J:Js κ rk a₀ lo st)(hi:i+1<(zW st).size){Q:Bool->zK->Prop}
  (h:∀ st',Js κ rk a₀ lo st'->(zW st').size+1=(zW st).size->(∀ k,lo<=k->(zy st')[k]?=(zy st)[k]?)->Q true st'):wpS (zx prog w) A E s (mergeAt' i) Q st:=by
 have g1:(zW st)[i]?=some (zW st)[i]:=zk (by lia)
 have g2:(zW st)[i+1]?=some (zW st)[i+1]:=zk hi
 generalize (zW st)[i]=p1 at g1
 generalize (zW st)[i+1]=p2 at g2
 obtain ⟨sa,na,pw⟩:=p1
 obtain ⟨sb,nb,q⟩:=p2
 refine Mini.elEEA (vz1 g1 g2 (sa,na+nb,pw)) fun pre post e1 e2=>?_
 have hc:=J.chn
 rw[e1]at hc
 refine Mini.elEA (hc.split) fun k c1 c2=>?_
 change sa=k/\1<=na/\Seg rk (zy st) sa (sa+na)/\sb=sa+na/\1<=nb/\Seg rk (zy st) sb (sb+nb)/\Chn rk (zy st) post (sb+nb) lo at c2
 refine Mini.elAAAAAA (c2) fun r1 r2 r3 r4 r5 r6 r7=>?_
 subst r1 r4
 have hsz:=J.perm.size_eq
 have l7:=r7.le
 have l1:=c1.le
 have:=J.lo
 refine ye8 ha J.kind J.fail (ht.perm J.perm) g1 g2 rfl r2 r5 (by lia) r3 r6 fun st' M=>?_
 refine h st' ⟨M.kind.trans J.kind,M.fail.trans J.fail,M.perm.trans J.perm,?_,J.lo⟩ ?_ fun p hp=>M.out p (.inr (by lia))
 ·rw[M.pend,e2]
  refine(c1.congr fun p p1 p2=>M.out p (.inl p2)).join ⟨rfl,?_,?_,?_⟩
  ·show 1<=na+nb;lia
  ·show Seg rk _ sa (sa+(na+nb));rw[show sa+(na+nb)=sa+na+nb by lia];exact M.seg
  ·show Chn rk _ post (sa+(na+nb)) lo
   rw[show sa+(na+nb)=sa+na+nb by lia]
   exact r7.congr fun p p1 p2=>M.out p (.inr p1)
 ·have q1:=congrArg List.length e1
  have q2:=congrArg List.length e2
  rw[<- M.pend,xu2]at q2
  rw[xu2]at q1
  simp only[zw,xV]at q1 q2
  lia
noncomputable def yn6 (size lo n:Nat):StateT zK Sem (ForInStep (Option Unit×Nat)):=do
 let st <- get
 match (zW st).back? with
 | some (s1,n1,_)=>do
  let c <- forIn [0:size] ((none,()):Option Unit×Unit) fun _ _=>do
   let st <- get
   match (if (zW st).size > 1 then (zW st)[(zW st).size - 2]? else none) with
   | some (_,_,older) =>
    if older<=power' size (2*s1+n1) (2*s1+n1+n1+n) size then pure (vJ (none,()))
    else do
     let b <- mergeAt' ((zW st).size - 2)
     if (!b)=true then pure (vJ (some (),())) else pure (wZ (none,()))
   | _=>pure (vJ (none,()))
  match c.fst with
  | some r=>pure (vJ (some r,lo))
  | none=>do
   modify fun s=>setPending s ((zW s).modify ((zW s).size - 1) fun x=>(x.fst,x.2.fst,power' size (2*s1+n1) (2*s1+n1+n1+n) size))
   modify fun s=>setPending s ((zW s).push (lo,n,0))
   pure (wZ (none,lo+n))
 | _=>do
  modify fun s=>setPending s ((zW s).push (lo,n,0))
  pure (wZ (none,lo+n))
theorem Js.push {lo n:Nat}{st:zK}(J:Js κ rk a₀ lo st)(n1:1<=n)(n2:n<=a₀.size - lo)(sg:Seg rk (zy st) lo (lo+n)):Js κ rk a₀ (lo+n) (setPending st ((zW st).push (lo,n,0))):=by
 have:=J.lo
 refine⟨J.kind,J.fail,J.perm,?_,Q9 this n2⟩
 show Chn rk (zy st) (pn ((zW st).push (lo,n,0))) 0 (lo+n)
 rw[wm0]
 exact J.chn.join ⟨rfl,n1,sg,rfl⟩
theorem yq9 (ha:Asks prog w A s κ T rk)(ht:Tt T a₀){st:zK}{lo n:Nat}(J:Js κ rk a₀ lo st)(n1:1<=n)(n2:n<=a₀.size - lo)(sg:Seg rk (zy st) lo (lo+n)){R:ForInStep (Option Unit×Nat)->zK->Prop}
  (h:∀ st',Js κ rk a₀ (lo+n) st'->R (.yield (none,lo+n)) st'):wpS (zx prog w) A E s (yn6 a₀.size lo n) R st:=by
 unfold yn6
 refine zZ (wpS_get ?_)
 cases e:(zW st).back? with
 | none=>exact zZ (uV (zV (h _ (J.push n1 n2 sg))))
 | some p =>
  obtain ⟨s1,m1,q⟩:=p
  dsimp only
  generalize power' a₀.size (2*s1+m1) (2*s1+m1+m1+n) a₀.size=pw
  refine zw2 fun gg hgg=>?_
  refine k9 (zw7 (I:=fun x c st'=>c.1=none/\Js κ rk a₀ lo st'/\Seg rk (zy st') lo (lo+n)) (Q:=fun c st'=>c.1=none/\Js κ rk a₀ lo st'/\Seg rk (zy st') lo (lo+n)) ?step (fun _ _ h=>h) (Mini.iAA rfl J sg)) ?post
  case post =>
   rintro ⟨r,_⟩ st' ⟨rfl,J',sg'⟩
   subst hgg
   dsimp only
   refine zZ (uV (zZ (uV (zV (h _ (Js.push (st:=setPending st' ((zW st').modify ((zW st').size - 1) fun x=>(x.fst,x.2.fst,pw))) ⟨J'.kind,J'.fail,J'.perm,?_,J'.lo⟩ n1 n2 sg'))))))
   show Chn rk (zy st') (pn ((zW st').modify ((zW st').size - 1) fun x=>(x.fst,x.2.fst,pw))) 0 lo
   rw[xj4 (zW st') ((zW st').size - 1) (fun x=>(x.fst,x.2.fst,pw)) fun _=>⟨rfl,rfl⟩]
   exact J'.chn
  case step =>
   intro ff hff
   rintro x ⟨r,_⟩ st' _ hx ⟨rfl,J',sg'⟩
   subst hff
   refine zZ (wpS_get ?_)
   by_cases hc:(zW st').size > 1
   ·rw[if_pos hc,zk (Nat.sub_lt (Z8 Nat.one_pos hc) Nat.two_pos)]
    generalize (zW st')[(zW st').size - 2]=p
    obtain ⟨x1,x2,older⟩:=p
    dsimp only
    refine zz2 (fun hp=>?_) fun hp=>?_
    ·exact zV (Mini.iAA rfl J' sg')
    ·refine zZ (yq3 ha ht J' (by lia) fun st2 J2 _ keep=>?_)
     exact zV (Mini.iAA rfl J2 (sg'.congr fun k g1 _=>keep k g1))
   ·rw[if_neg hc]
    exact zV (Mini.iAA rfl J' sg')
theorem ye5 (ha:Asks prog w A s κ T rk)(ht:Tt T a₀){st:zK}{Q:Unit->zK->Prop}(J:Js κ rk a₀ 0 st)(h2:1<=a₀.size)
  (h:∀ st',(zy st').Perm a₀->y9 st'=none->Seg rk (zy st') 0 a₀.size->Q () st'):wpS (zx prog w) A E s sortRuns' Q st:=by
 rw[sortRuns'_eq]
 refine zZ (wpS_get ?_)
 dsimp only
 have hsz:=J.perm.size_eq
 rw[hsz]
 generalize minRun' a₀.size a₀.size 0=mr
 refine zw2 fun gg hgg=>?_
 refine k9 (zw7 (I:=fun x c st'=>c.1=none/\(x<=c.2\/c.2=a₀.size)/\Js κ rk a₀ c.2 st') (Q:=fun c st'=>c.1=none/\Js κ rk a₀ a₀.size st') ?step ?fin ?init) ?post
 case init=>exact Mini.iAA rfl (.inl (zv _)) J
 case fin =>
  rintro ⟨r,lo⟩ st' ⟨rfl,q1,J'⟩
  dsimp only at q1 J' |-
  have e:lo=a₀.size:=q1.elim (fun g=>jy J'.lo (qv (Q3 ..) g)) id
  rw[<- e]
  exact⟨rfl,by rw[e]at J' |-;exact J'⟩
 case step =>
  intro ff hff
  rintro x ⟨r,lo⟩ st' _ hx ⟨rfl,q1,J'⟩
  subst hff
  dsimp only at q1 J' |-
  have hlo:=J'.lo
  have hz:=J'.perm.size_eq
  refine zz2 (fun hc=>?_) fun hc=>?_
  ·have e:lo=a₀.size:=jy hlo hc
   exact zV ⟨rfl,by rw[<- e];exact J'⟩
  ·refine zw2 fun gg0 hg0=>k9 (xl1 ha J'.kind (ht.perm J'.perm) (lo:=lo) (nrem:=a₀.size - lo) (Zw (yJ hc)) (by rw[hz];exact xx (wX hlo))) ?_
   rintro r st2 ⟨n,rfl,n1,n2,K,sg⟩
   subst hg0
   dsimp only
   have J2:Js κ rk a₀ lo st2:=⟨K.kind.trans J'.kind,K.fail.trans J'.fail,K.pm.perm.trans J'.perm,by rw[K.pend];exact J'.chn.congr fun k _ hk=>K.pm.low k hk,hlo⟩
   have next:∀(m:Nat)(st3:zK),1<=m->Js κ rk a₀ (lo+m) st3->(none:Option Unit)=none/\(x+1<=lo+m\/lo+m=a₀.size)/\Js κ rk a₀ (lo+m) st3:=fun m st3 m1 J3=>Mini.iAA rfl (q1.elim (fun g=>.inl (jQ g m1)) fun g=>absurd (xx g.symm) hc) J3
   have tl:∀{m m':StateT zK Sem (ForInStep (Option Unit×Nat))}{R:ForInStep (Option Unit×Nat)->zK->Prop}{st3:zK},m=m'->wpS (zx prog w) A E s m' R st3->wpS (zx prog w) A E s m R st3:=fun e h=>e▸h
   have fe:∀{g g':Nat->Option Unit×Unit->StateT zK Sem (ForInStep (Option Unit×Unit))}{f f':Option Unit×Unit->StateT zK Sem (ForInStep (Option Unit×Nat))},g=g'->f=f'->(forIn [0:a₀.size] ((none,()):Option Unit×Unit) g >>= f)=(forIn [0:a₀.size] ((none,()):Option Unit×Unit) g' >>= f'):=by intro _ _ _ _ h1 h2;subst h1 h2;rfl
   refine zz2 (fun hm=>?_) fun hm=>?_
   ·refine zZ (wpS_lift (Qw ⟨rfl,?_⟩))
    refine zZ (xr9 ha J2.kind (ht.perm J2.perm) n1 (Nat.le_min.mpr ⟨n2,zz hm⟩) (by rw[J2.perm.size_eq];exact Q9 hlo (j5 ..)) sg fun st3 K3 sg3=>?_)
    have J3:Js κ rk a₀ lo st3:=⟨K3.kind.trans J2.kind,K3.fail.trans J2.fail,K3.pm.perm.trans J2.perm,by rw[K3.pend];exact J2.chn.congr fun k _ hk=>K3.pm.low k hk,hlo⟩
    rw[if_neg (by simp)]
    refine tl (m':=yn6 a₀.size lo (min (a₀.size - lo) mr)) ?_ (yq9 ha ht J3 (qv n1 (Nat.le_min.mpr ⟨n2,zz hm⟩)) (j5 ..) sg3 ?_)
    ·refine bind_congr fun st=>?_
     cases (zW st).back? with
     | none=>rfl
     | some p =>
      refine fe (funext fun _=>funext fun _=>bind_congr fun st=>?_) (funext fun c=>?_)
      ·cases (if (zW st).size > 1 then (zW st)[(zW st).size - 2]? else none)<;>rfl
      ·obtain ⟨r,u⟩:=c
       cases r<;>rfl
    ·exact fun st4 J4=>next _ st4 (qv n1 (Nat.le_min.mpr ⟨n2,zz hm⟩)) J4
   ·refine tl (m':=yn6 a₀.size lo n) ?_ (yq9 ha ht J2 n1 n2 sg ?_)
    ·refine bind_congr fun st=>?_
     cases (zW st).back? with
     | none=>rfl
     | some p =>
      refine fe (funext fun _=>funext fun _=>bind_congr fun st=>?_) (funext fun c=>?_)
      ·cases (if (zW st).size > 1 then (zW st)[(zW st).size - 2]? else none)<;>rfl
      ·obtain ⟨r,u⟩:=c
       cases r<;>rfl
    ·exact fun st4 J4=>next _ st4 n1 J4
 case post =>
  rintro ⟨r,lo⟩ st' ⟨rfl,J'⟩
  subst hgg
  dsimp only
  have hp0:=J'.chn.le
  rw[xu2]at hp0
  refine zw2 fun gg hgg=>?_
  refine k9 (zw7 (I:=fun x c st'=>c.1=none/\Js κ rk a₀ a₀.size st'/\(zW st').size+x<=a₀.size+1) (Q:=fun c st'=>c.1=none/\Js κ rk a₀ a₀.size st'/\(zW st').size<=1) ?step2 ?fin2 (Mini.iAA rfl J' (by lia))) ?post2
  case fin2 =>
   rintro ⟨r,_⟩ st2 ⟨rfl,J2,q⟩
   exact Mini.iAA rfl J2 (by lia)
  case step2 =>
   intro ff hff
   rintro x ⟨r,_⟩ st2 _ hx ⟨rfl,J2,q⟩
   subst hff
   refine zZ (wpS_get ?_)
   refine zz2 (fun hc=>?_) fun hc=>?_
   ·exact zV (Mini.iAA rfl J2 hc)
   ·refine zZ (yq3 ha ht J2 ?_ fun st3 J3 e3 _=>zV (Mini.iAA rfl J3 (by lia)))
    have hb:∀ c:Bool,(if c=true then (zW st2).size - 2 - 1 else (zW st2).size - 2)+1<(zW st2).size:=fun c=>by
     cases c
     ·rw[if_neg qj];exact w1 hc
     ·rw[if_pos rfl];exact w2 hc
    exact hb _
  case post2 =>
   rintro ⟨r,_⟩ st2 ⟨rfl,J2,q⟩
   subst hgg
   refine zV (h st2 J2.perm J2.fail ?_)
   have hc:=J2.chn
   have hl:=xu2 (zW st2)
   generalize pn (zW st2)=l at hc hl
   match l,hc,hl with
   | [],hc,_=>simp only[wu8]at hc;lia
   | [(a,n)],hc,_ =>
    (refine Mini.elAAA (hc) fun e_0 _ sg e=>?_;subst e_0)
    simp only[wu8]at e
    rw[<- e]
    exact sg
   | _::_::_,_,hl=>simp only[xV]at hl;lia
end
open PySem Mini PySem.W PyProof.Rows
section
variable {prog:vw}{w:wz}{A:zJ}{E:qz->qw->Prop}{s:qw}{F:Fz}
theorem yi6 {h:Heap}(hin:F.In h):∀{xs ys:List D}{vs:List qz},RepL w F xs vs->RepL w F ys vs->xs=ys
 | [],[],_,_,_=>rfl
 | [],_::_,vs,r,q=>by refine Mini.elEEA (q) fun v r' e _=>?_;cases r;cases e
 | _::_,[],vs,r,q=>by refine Mini.elEEA (r) fun v r' e _=>?_;cases q;cases e
 | x::xs,y::ys,vs,r,q=>by
  refine Mini.elEEAA (r) fun v r' e a1 a2=>?_
  refine Mini.elEEAA (q) fun u q' e2 b1 b2=>?_
  subst e
  obtain ⟨rfl,rfl⟩:=List.cons.inj e2
  obtain ⟨as,c1⟩:=Rep.reads hin _ a1
  obtain ⟨bs,c2⟩:=Rep.reads hin _ b1
  rw[(Reads.unique c1 _ _ c2).1,yi6 hin a2 b2]
theorem xa3 (hin:F.In s.heap){ds:List D}{vs:List qz}{κ:SortKind}(r:RepL w F ds vs)(hc:Cmp ds)(kd:Kinded prog w A F ds vs s κ)(h1:1<=ds.length){Q:zK->qw->Prop}
  (h:∀ st' out,y9 st'=none->(zy st').map (·.2)=List.toArray out->RepL w F (zx8 ds) out->Q st' s) :
  qK (zx prog w) A ((sortRuns').run (Qy κ (vs.toArray.zip vs.toArray) #[] 7 none)) (fun r s'=>Q r.2 s') E s:=by
 classical
 have hlen:=r.length
 have idx:∀ v:qz,∃ i,v∈vs->i<vs.length/\vs.getD i .none=v:=fun v=>by
  by_cases hv:v∈vs
  ·obtain ⟨i,hi,e⟩:=List.getElem_of_mem hv
   exact⟨i,fun _=>⟨hi,by rw[Zj,qJ hi];exact e⟩⟩
  ·exact⟨0,fun q=>absurd q hv⟩
 obtain ⟨ix,hix⟩:=Classical.axiomOfChoice idx
 have pm:(vs.toArray.zip vs.toArray).toList=vs.zip vs:=by simp
 have hT:∀ x:z0,x∈vs.zip vs->x.1=x.2/\x.1∈vs:=fun x hx=>mem_zip_self hx
 have ha:Asks prog w A s κ (fun x=>x∈vs.zip vs) fun x=>zk6 ds (ds.getD (ix x.1) .none):=fun x y hx hy Q q=>by
  obtain ⟨i1,e1⟩:=hix x.1 (hT x hx).2
  obtain ⟨j1,e2⟩:=hix y.1 (hT y hy).2
  have:=kd.ask (ix x.1) (ix y.1) (by lia) (by lia) Q q
  unfold kas_ask at this
  rwa [e1,e2]at this
 have run:=ye5 (E:=E) (a₀:=vs.toArray.zip vs.toArray) (st:=Qy κ (vs.toArray.zip vs.toArray) #[] 7 none) (Q:=fun _ st'=>Q st' s) ha (fun x hx=>by rwa [pm]at hx) ⟨rfl,rfl,Array.Perm.refl _,rfl,vq _⟩ (by simp;lia) fun st' hp hf sg=>?_
 ·exact kK run (fun r s' q=>by obtain ⟨rfl,q⟩:=q;exact q) fun _ _ e=>e
 ·have hp':(zy st').toList.Perm (vs.zip vs):=by rw[<- pm];exact Array.perm_iff_toList_perm.mp hp
  have hmem:∀ x∈(zy st').toList,x.1=x.2/\x.1∈vs:=fun x hx=>hT x (hp'.mem_iff.mp hx)
  refine h st' ((zy st').toList.map (·.2)) hf (by apply Array.toList_inj.mp;simp) ?_
  have dat:∀ v∈vs,Rep w F (ds.getD (ix v) .none) v:=fun v hv=>by
   obtain ⟨i1,e1⟩:=hix v hv
   have:=r.getD_ (i:=ix v) (by lia)
   rwa [e1]at this
  have gen:∀ l:List qz,(∀ v∈l,v∈vs)->RepL w F (l.map fun v=>ds.getD (ix v) .none) l:=fun l=>by
   induction l with
   | nil=>intro _;exact RepL.nil_
   | cons v l ih=>intro hl;exact RepL.cons_ (dat v (hl v (by simp))) (ih fun u hu=>hl u (by simp[hu]))
  have hvs:vs.map (fun v=>ds.getD (ix v) .none)=ds:=yi6 hin (gen vs fun _ h=>h) r
  have hperm:(((zy st').toList.map (·.2)).map fun v=>ds.getD (ix v) .none).Perm ds:=by
   have e1:=(hp'.map (·.2)).map fun v=>ds.getD (ix v) .none
   rw[List.map_snd_zip (by simp)]at e1
   exact e1.trans (vV.of_eq hvs)
  have hsorted:(((zy st').toList.map (·.2)).map fun v=>ds.getD (ix v) .none).Pairwise leD:=by
   rw[yk,List.pairwise_map,Qz]
   intro i j hi hj hij
   have hsz:=hp.size_eq
   simp only[ww]at hi hj
   have:=sg i j (vq _) (zz hij) (by lia)
   unfold Rk at this
   rw[w0,w0,zk hi,zk hj]at this
   simp only[Option.getD_some]at this
   have m1:=hmem _ (vX (l:=(zy st').toList) (by simpa using hi))
   have m2:=hmem _ (vX (l:=(zy st').toList) (by simpa using hj))
   simp only[Function.comp,Array.getElem_toList]at m1 m2 |-
   rw[m1.1,m2.1]at this
   obtain ⟨i1,_⟩:=hix _ (m1.1▸m1.2)
   obtain ⟨j1,_⟩:=hix _ (m2.1▸m2.2)
   intro hlt
   rw[yc7 hc (zi7 (by lia)) (zi7 (by lia))]at hlt
   simp only[Q1,decide_eq_true_eq]at hlt
   exact absurd hlt (QK.mpr this)
  rw[<- zp5 hc hperm hsorted]
  refine gen _ fun v hv=>?_
  obtain ⟨x,hx,rfl⟩:=zX.mp hv
  have:=hmem x hx
  rw[<- this.1];exact this.2
end
section
variable {prog:vw}{w:wz}{A:zJ}{E:qz->qw->Prop}{s:qw}{F:Fz}
theorem yd5 {ds:List D}(h:ds.length<2):zx8 ds=ds:=by
 match ds,h with
 | [],_=>rfl
 | [x],_=>rfl
 | _::_::_,h=>simp at h;lia
theorem zh7 {a:Addr}{ds:List D}{vs:List qz}{n:Nat}{P:PySem.Fin->qw->Prop}(hin:F.In s.heap)(hfa:F a=none)(ho:s.heap.get? a=some (uK "list" vs.toArray n))(r:RepL w F ds vs)
  (hs:ds.length<2\/Mini.sortable ds=true) (h64:ds.length<=16777216) (hu:A.units+1500<cLine)
  (h:∀ out:List qz,RepL w F (zx8 ds) out->P (.done (.ret .none)) { s with heap:=sortedHeap s.heap a vs out.toArray }):qK (zx prog w) A (Builtin.«list.sort» ⟨[.ref a],[]⟩) P E s:=by
 have hlen:=r.length
 rw[list_sort_plain]
 have ha:a<s.heap.objs.size:=xk ho
 refine qq (listItems_at ho rfl ?_)
 refine qq (listUpdate_at ho rfl ?_ (by rw[List.size_toArray,Z1];lia) (vq _))
 obtain ⟨e1,ho1⟩:∃ e1,(s.heap.update a (wW fun _=>(#[]:Array qz))).get? a=some (uK "list" #[] e1):=⟨_,get?_update_seq ho fun _=>#[]⟩
 refine qq (seqEpoch_at ho1 rfl ?_)
 refine qq (wpAny_newTuple ?_ (by show vs.length<=_;rw[Z1];lia))
 refine qq (wpAny_newList ?_ (vq _))
 refine jW ?_
 have ho6:(((s.heap.update a (wW fun _=>(#[]:Array qz))).push (uK "tuple" vs.toArray 0)).push (uK "list" #[] 0)).get? a=some (uK "list" #[] e1) :=
  qQ _ (qQ _ ho1)
 have hin6:F.In (((s.heap.update a (wW fun _=>(#[]:Array qz))).push (uK "tuple" vs.toArray 0)).push (uK "list" #[] 0)):=fun b o e=>by
  refine qQ _ (qQ _ ?_)
  rw[jw _ _ (by rintro rfl;rw[hfa]at e;cases e)]
  exact hin b o e
 show qK (zx prog w) A _ P E { s with heap:=((s.heap.update a (wW fun _=>(#[]:Array qz))).push (uK "tuple" vs.toArray 0)).push (uK "list" #[] 0) }
 dsimp only
 by_cases h2:vs.toArray.size<2
 ·rw[if_pos h2,if_pos h2]
  refine qq (qX ?_)
  rw[StateT.run_pure]
  refine qq (qX ?_)
  dsimp only
  have e2:(zy (Qy general' (vs.toArray.zip vs.toArray) #[] 7 none)).map (·.2)=vs.toArray:=by
   show (vs.toArray.zip vs.toArray).map (·.2)=vs.toArray
   apply Array.toList_inj.mp
   simp[List.map_snd_zip]
  refine qq (seqEpoch_at ho6 rfl ?_)
  rw[e2]
  refine qq (listUpdate_at ho6 rfl ?_ (vq _) (by show vs.toArray.size<=_;rw[List.size_toArray,Z1];exact hlen▸uw h64))
  simp only[bne_self_eq_false,vx,if_false]
  exact qX (h vs (by rw[yd5 (by rw[List.size_toArray]at h2;exact t2 (xx hlen.symm) h2)];exact r))
 ·rw[if_neg h2,if_neg h2]
  rw[List.size_toArray]at h2
  have hs':Mini.sortable ds=true:=hs.resolve_left (by lia)
  obtain ⟨κ,kd⟩:=wd8 (prog:=prog) (A:=A) (s:={ s with heap:=((s.heap.update a (wW fun _=>(#[]:Array qz))).push (uK "tuple" vs.toArray 0)).push (uK "list" #[] 0) }) hin6 r hs' (by lia) hu
  refine qq (kd.kind E _ ?_)
  refine qq (wpM (xa3 hin6 r (zo6 hs') kd (by lia) (Q:=fun st' s'=>s'={ s with heap:=((s.heap.update a (wW fun _=>(#[]:Array qz))).push (uK "tuple" vs.toArray 0)).push (uK "list" #[] 0) }/\y9 st'=none /\
   ∃ out,(zy st').map (·.2)=List.toArray out/\RepL w F (zx8 ds) out) fun st' out q1 q2 q3=>Mini.iAA rfl q1 (Mini.iEA out q2 q3)) ?_)
  rintro ⟨⟨⟩,st'⟩ s' ⟨rfl,hf,out,hout,rout⟩
  dsimp only
  have hsz:(List.toArray out).size=vs.length:=by rw[List.size_toArray,rout.length,(zz1 ds).length_eq,hlen]
  rw[hout]
  refine qq (seqEpoch_at ho6 rfl ?_)
  refine qq (listUpdate_at ho6 rfl ?_ (vq _) (qv (xx hsz) (by rw[Z1];exact hlen▸uw h64)))
  rw[hf]
  simp only[bne_self_eq_false,vx,if_false]
  exact qX (h _ rout)
theorem yd3 {l:Addr}{ds:List D}{vs:List qz}(hin:F.In s.heap)(hl:s.heap.IsList l vs.toArray)(r:RepL w F ds vs)
  (hs:ds.length<2\/Mini.sortable ds=true) (h64:ds.length<=16777216) (hu:A.units+1600<cLine):qK (zx prog w) A (call (.builtin "sorted") [.ref l]) (Grown w F s (.list (zx8 ds)) true) E s:=by
 have hlen:=r.length
 refine Calls.call_function_entry kind_sorted plain_sorted entry_sorted (args_sorted1 _) ?_
 unfold Builtin.«sorted»
 refine qq (m:=checkCount "sorted" 1 1 _) (qX ?_)
 refine qq (collect_list hl ?_ (by rw[Z1];exact qv (xx hlen) h64))
 refine qq (wpAny_newList ?_ (by rw[Z1];lia))
 have hsz:((s.heap.push (uK "list" #[] 0)).update s.heap.objs.size (wW (·++vs.toArray))).objs.size=s.heap.objs.size+1:=by
  rw[Heap.size_update,size_push']
 have hoL:(((s.heap.push (uK "list" #[] 0)).update s.heap.objs.size (wW (·++vs.toArray))).push (uK "list" vs.toArray 0)).get? (s.heap.objs.size+1)=some (uK "list" vs.toArray 0):=by
  rw[<- hsz];exact x7 _ rfl
 have keep:∀ b o,s.heap.get? b=some o->(((s.heap.push (uK "list" #[] 0)).update s.heap.objs.size (wW (·++vs.toArray))).push (uK "list" vs.toArray 0)).get? b=some o:=fun b o q=>by
  have hlt:b<s.heap.objs.size:=xk q
  refine qQ _ ?_
  rw[jw _ _ (kj hlt)]
  exact qQ _ q
 have hnew:s.heap.get? (s.heap.objs.size+1)=none:=by
  cases e:s.heap.get? (s.heap.objs.size+1) with
  | none=>rfl
  | some o=>exact absurd (xk e) (QK.mpr (QW _))
 have hfa:F (s.heap.objs.size+1)=none:=by
  cases e:F (s.heap.objs.size+1) with
  | none=>rfl
  | some o=>have:=hin _ _ e;rw[hnew]at this;cases this
 show qK _ _ _ _ _ { s with heap:=((s.heap.push (uK "list" #[] 0)).update s.heap.objs.size (wW (·++vs.toArray))).push (uK "list" vs.toArray 0) }
 rw[hsz]
 refine qq (jW (jV slot_list_sort ⟨_,hoL,rfl⟩ entry_list_sort (zh7 (s:={ s with heap:=((s.heap.push (uK "list" #[] 0)).update s.heap.objs.size (wW (·++vs.toArray))).push (uK "list" vs.toArray 0) })
  (fun b o e=>keep b o (hin b o e)) hfa hoL r hs h64 ?hu fun out rout=>Mini.iEA _ rfl ?_) (args_list_sort _)))
 case hu=>show A.units+1+1+1500<cLine;exact ul2 (by decide) hu
 refine qX (Mini.iEA _ rfl ?_)
 refine⟨_,s.toks,rfl,fun b o e=>?_,_,rfl,hnew,?_⟩
 ·have hlt:b<s.heap.objs.size:=xk e
  rw[sortedHeap_old (jJ (Zv hlt)) (xk (keep b o e))]
  exact keep b o e
 ·obtain ⟨c,hc⟩:=sortedHeap_at (out:=out.toArray) hoL
  have hz:(zx8 ds).length<=size:=by
   have:=(zz1 ds).length_eq
   rw[this];unfold size;assumption
  exact⟨hz,out.toArray,c,hc,by simpa using rout⟩
theorem za6 {ds:List D}{vs:List qz}{h1:Heap}{tk1:Nat}{Ag:zJ}{f:List qz->Sem PySem.Fin}{P:PySem.Fin->qw->Prop}(hin:F.In s.heap)(keep1:∀ b o,s.heap.get? b=some o->h1.get? b=some o)(r:RepL w F ds vs)
  (hs:ds.length<2\/Mini.sortable ds=true) (h64:ds.length<=16777216) (hu:Ag.units+1550<cLine)
  (hf:f=fun xs=>(do let l <- newList xs;let _ <- holding [l] (call (.builtin "list.sort") [l] []);ret l))
  (hP:∀ v s',Grown w F s (.list (zx8 ds)) true v s'->P (.done (.ret v)) s'):qK (zx prog w) Ag (f vs) P E { s with heap:=h1,toks:=tk1 }:=by
 subst hf
 have hlen:=r.length
 refine qq (wpAny_newList ?_ (by rw[Z1];exact qv (xx hlen) h64))
 have hoL:(h1.push (uK "list" vs.toArray 0)).get? h1.objs.size=some (uK "list" vs.toArray 0):=x7 _ rfl
 have keep:∀ b o,s.heap.get? b=some o->(h1.push (uK "list" vs.toArray 0)).get? b=some o:=fun b o q=>qQ _ (keep1 b o q)
 have hnew1:h1.get? h1.objs.size=none:=zz6 _
 have hnew:s.heap.get? h1.objs.size=none:=by
  cases e:s.heap.get? h1.objs.size with
  | none=>rfl
  | some o=>have:=keep1 _ _ e;rw[hnew1]at this;cases this
 have hfa:F h1.objs.size=none:=by
  cases e:F h1.objs.size with
  | none=>rfl
  | some o=>have:=hin _ _ e;rw[hnew]at this;cases this
 refine qq (jW (jV slot_list_sort ⟨_,hoL,rfl⟩ entry_list_sort (zh7 (s:={ s with heap:=h1.push (uK "list" vs.toArray 0),toks:=tk1 })
  (fun b o e=>keep b o (hin b o e)) hfa hoL r hs h64 ?hu fun out rout=>Mini.iEA _ rfl ?_) (args_list_sort _)))
 case hu=>show Ag.units+1+1500<cLine;exact ul1 (by decide) hu
 refine qX (hP _ _ ?_)
 refine⟨_,tk1,rfl,fun b o e=>?_,_,rfl,hnew,?_⟩
 ·have hne:b≠h1.objs.size:=fun q=>by rw[q,hnew]at e;cases e
  rw[sortedHeap_old hne (xk (keep b o e))]
  exact keep b o e
 ·obtain ⟨c,hc⟩:=sortedHeap_at (out:=out.toArray) hoL
  have hz:(zx8 ds).length<=size:=by
   have:=(zz1 ds).length_eq
   rw[this];unfold size;assumption
  exact⟨hz,out.toArray,c,hc,by simpa using rout⟩
theorem xv0 {d:Addr}{es:Array j3}{ep:Nat}(lo:(d==uJ)=false):KdlSrc prog w "dict" d d es.size (fun i v=>∃ e,es[i]?=some e/\v=e.key) (fun h=>RowsAt h d es ep) where
 type:=fun _ x=>x.type
 there:=fun _ x=>let ⟨_,ho,_⟩:=x; ⟨xk ho,xk ho⟩
 keep:=fun _ _ x hk=>x.at fun o e=>hk d (.inl rfl) o e
 notList:=by decide
 notTuple:=by decide
 hint:=fun _ _ _ _ x q=>kdl_hint_dict x.type q
 iter:=fun _ _ hh x=>⟨_,_,(fun _ _ hq=>yg4 lo x hq),yk7 hh _ d (jJ (let ⟨_,ho,_⟩:=x;xk ho)) es ep,⟨⟨_,x7 _ rfl,rfl,rfl⟩,x.at fun o e=>qQ _ e⟩⟩
theorem yf7 {d:Addr}{es:Array j3}{ep:Nat}{Q:List qz->qw->Prop}(lo:(d==uJ)=false)(hh:A.handled=none)(x:RowsAt s.heap d es ep)(hn:es.size<=kW)
  (h:∀ h' tk (acc:Array qz),(∀ b o,s.heap.get? b=some o->h'.get? b=some o)->ItemsOf (fun i v=>∃ e,es[i]?=some e/\v=e.key) acc es.size->Q acc.toList { s with heap:=h',toks:=tk }) :
  qK (zx prog w) A (collect (.ref d)) Q E s:=by
 have hlt:d<s.heap.objs.size:=let ⟨_,ho,_⟩:=x;xk ho
 unfold collect
 refine qq (wpAny_runValue (yW PySem.F.entry_proto_collect ?_))
 rw[jx PySem.F.plain_proto_collect _]
 show qK _ A.in1 (newList [] >>= fun l=>again (.builtin "list.__iadd__" ⟨[l,.ref d],[]⟩)) _ _ s
 refine qq (uW ?_)
 refine qX ⟨Z4 PySem.F.plain_list_iadd _,yW PySem.F.entry_list_iadd ?_⟩
 rw[jx PySem.F.plain_list_iadd _]
 show qK _ A.in1 (u8 (.ref s.heap.objs.size) (.ref d) (.ref s.heap.objs.size)) _ _ _
 have hS:(s.heap.push { cls:=.type "list", data:=.seq #[] }).get? s.heap.objs.size=some { cls:=.type "list", data:=.seq #[] }:=x7 _ rfl
 refine kdl_extend (A:=A) (R:=wants (fun v s'=>qK (zx prog w) A (match v with|.ref a=>(load a >>= fun o=>match o.data with|.seq xs _=>pure xs.toList|_=>unsupported "internal:collect")|_=>unsupported "internal:collect") Q E s') E) (s:={ s with heap:=s.heap.push { cls:=.type "list", data:=.seq #[] } }) (xv0 (ep:=ep) lo) hh (x.at fun o e=>qQ _ e) s.heap.objs.size (kj hlt) (kj hlt) (.ref s.heap.objs.size) 0 hS (fun h' tk acc' c' hk hS' hacc=>?_) hn
 show qK _ A (load s.heap.objs.size >>= _) _ _ _
 refine qq (wpAny_load hS' ?_)
 exact qX (h h' tk acc' (fun b o e=>hk b o (jJ (xk e)) (qQ _ e)) hacc)
theorem xt5 {kvs:List (D×D)}{es:Array j3}(r:RepKV w F kvs es.toList){acc:Array qz}(hacc:ItemsOf (fun i v=>∃ e,es[i]?=some e/\v=e.key) acc es.size):RepL w F (kvs.map (·.1)) acc.toList:=by
 have hl:=r.length
 have h1:=hacc.1
 refine RepL.of_get (by simp at hl |-;exact h1.trans hl) fun i d v hd hv=>?_
 (refine elEA (hacc.2 i v (by rw[<- xK];exact hv)) fun e he e_2=>?_;subst e_2)
 exact r.key hd (by rw[xK];exact he)
end
theorem zc5 {l:List D}{d:D}{f:Bool}(e:zk2 l=some (d,f)):(l.length<2\/Mini.sortable l=true)/\l.length<=16777216/\d=.list (zx8 l)/\f=true:=by
 obtain ⟨hs,e⟩:=ifS e
 cases e
 simp only[Qk,decide_eq_true_eq,zj]at hs
 exact Mini.iAAA (hs.imp id fun q=>q.1) (hs.elim (fun q=>zz (Z8 q (by decide))) fun q=>zz q.2) rfl rfl
set_option tactic.hygienic true in
theorem wz3 (w:wz):yx6 w:=by
 intro prog A E s F n R hin p x d f v hv e
 cases p<;>try exact(noS e).elim
 ·cases x<;>try exact(noS e).elim
  ·(refine elAAA (zc5 e) fun hs h64 e_2 e_3=>?_;subst e_2;subst e_3)
   refine hv.listK hin fun hz a ob ws m h1 hcl hdt r=>?_
   exact yd3 hin (l:=a) (vs:=ws.toList) (by simpa using ⟨_,h1,hcl,_,hdt⟩) r hs h64 (by have:=R.units;exact ul0 this (by decide))
  ·rename_i l
   (refine elAAA (zc5 e) fun hs h64 e_2 e_3=>?_;subst e_2;subst e_3)
   refine hv.tupK hin fun hz a ws m _ h1 r=>?_
   have hl:=r.length
   rw[ww]at hl
   show qK _ _ (call (.builtin "sorted") [.ref a]) _ _ _
   refine Calls.call_function_entry kind_sorted plain_sorted entry_sorted (args_sorted1 _) ?_
   unfold Builtin.«sorted»
   refine qq (m:=checkCount "sorted" 1 1 _) (qX ?_)
   refine qq (wpAny_collect_seq a (T := "tuple") (.inr rfl) h1 rfl rfl (fun h' keep=>?_) (by rw[Z1,hl];exact h64))
   exact za6 (prog:=prog) (w:=w) (s:=s) (tk1:=s.toks) hin keep r hs h64 (by have:=R.units;show A.units+1+1550<cLine;exact ul1 (b:=3000) (by decide) (ul0 this (zv _))) rfl fun v s' g=>Mini.iEA _ rfl g
  ·rename_i kvs
   (refine elAAA (zc5 e) fun hs h64 e_2 e_3=>?_;subst e_2;subst e_3)
   refine hv.dicK hin fun hz a es m h1 r hb=>?_
   have hl:=r.length
   rw[ww]at hl
   show qK _ _ (call (.builtin "sorted") [.ref a]) _ _ _
   refine Calls.call_function_entry kind_sorted plain_sorted entry_sorted (args_sorted1 _) ?_
   unfold Builtin.«sorted»
   refine qq (m:=checkCount "sorted" 1 1 _) (qX ?_)
   refine qq (yf7 (es:=es) (ep:=m) (beq_eq_false_iff_ne.mpr (kj hb)) (by exact R.handled) ⟨_,h1,⟨rfl,rfl,rfl⟩,rfl⟩ (by simp at h64;rw[Z1];exact qv (xx hl) h64) fun h' tk acc keep hacc=>?_)
   exact za6 (prog:=prog) (w:=w) (s:=s) hin keep (xt5 r hacc) hs h64 (by have:=R.units;show A.units+1+1550<cLine;exact ul1 (b:=3000) (by decide) (ul0 this (zv _))) rfl fun v s' g=>Mini.iEA _ rfl g
 ·cases x<;>try exact(noS e).elim
  rename_i kvs
  cases e
  refine hv.dicK hin fun hz a es m h1 r hb=>?_
  have hl:=r.length
  rw[ww]at hl
  have hz1:=hz.1
  refine kdl_call (xv0 (es:=es) (ep:=m) (beq_eq_false_iff_ne.mpr (kj hb))) R.handled ⟨_,h1,⟨rfl,rfl,rfl⟩,rfl⟩ (by rw[Z1,hl];exact hz1) fun h' tk acc c keep ho hacc=>?_
  exact⟨h',tk,rfl,keep,_,rfl,zz6 _,by simpa using hz1,acc,c,ho,xt5 r hacc⟩
 ·cases x<;>try exact(noS e).elim
  rename_i kvs
  obtain ⟨hik,e⟩:=ifS e
  cases e
  refine hv.dicK hin fun hz a es m h1 r hb=>?_
  refine elEA (zf9 (prog:=prog) hik hz h1 r) fun t ab hm=>?_
  have ha:=xk h1
  have hz1:=hz.1
  refine kt_call_dict (beq_eq_false_iff_ne.mpr (kj hb)) hm.dictOf (by rw[Z1,ab.length];exact hz1) fun h' q hs=>?_
  exact⟨h',s.toks,rfl,fun b o e=>by rw[hs.2 b (jJ (xk e))];exact qQ _ e,_,rfl,zz6 _,yv6 ab hz1 (Z8 hb ha) q⟩
structure JoinsAt (K:Frag)(a:Addr)(t u:Tok)(n:Nat):Prop where
 ns:nsIn K mainGlobals "JOINS" = some (some (.ref a))
 at':K.lookup a=some (tobj #[.str "sum" t,.str "mul" u] n)
theorem wy4 {K:Frag}{h:Heap}{a:Addr}{m:Str->Option qz}{x:Str}{v:qz}(X:K.In h)(N:h.Ns a m)(e:nsIn K a x=some (some v)):m x=some v:=by
 unfold nsIn at e
 cases hl:K.lookup a with
 | none=>rw[hl]at e;cases e
 | some o' =>
  refine zd8 (N) fun o es ep ho hd hk hm=>?_
  have:=X _ _ hl
  rw[ho]at this;cases this
  cases o'
  cases hd
  rw[hl]at e
  dsimp only at e
  cases hf:es.toList.find? (·.key.isStr x) with
  | some en =>
   rw[hf]at e
   cases e
   rw[<- hm x]
   show (es.find? fun e=>e.key.isStr x).map (·.val)=_
   rw[<- Array.find?_toList,hf];rfl
  | none =>
   rw[hf]at e
   by_cases hc:es.toList.any (·.refKey)=true
   ·exact(noS ((if_pos hc).symm.trans e)).elim
   ·cases (if_neg hc).symm.trans e
noncomputable def bltNames:List Str:=["len", "sorted", "min", "max", "isinstance", "tuple", "list", "dict", "int", "bool", "str", "range", "reversed", "zip", "ValueError"]
theorem wi9:∀ p∈bltTab,p.1∈bltNames/\bootBuiltins p.1=some p.2/\p.1 ≠ "__name__" := by
 intro p hp
 simp only[bltTab,zQ,j7,or_false]at hp
 rcases hp with rfl|rfl|rfl|rfl|rfl|rfl|rfl|rfl|rfl|rfl|rfl|rfl|rfl|rfl|rfl
 all_goals exact Mini.iAA (by decide) (by rfl) (by decide)
theorem xc1 {x:Str}{v:qz}(h:yz7 x=some v):x∈bltNames/\bootBuiltins x=some v/\x ≠ "__name__" := wi9 _ (mem_of_lookup h)
theorem ys5 {p:vw}{loose:List Str}{mean:ExcName->Option qz}{mg mb:Str->Option qz}{h:Heap}(T:PyProof.Rows.Top p loose mean mg mb h){x:Str}{i:Int}(e:((valOf p x).bind zt9==some i)=true):∃ t,mg x=some (.int i t):=by
 refine bK1 (eq_of_beq e) fun d hj e=>?_
 rw[za0 e]at hj
 refine elEA (T.const x _ hj) fun v h1 h2=>?_
 refine elEA (reads_int_inv (h2 {})) fun t q _=>?_
 exact⟨t,by rw[h1,q]⟩
theorem room_caller:Room 600 callerA:=⟨rfl,by decide,by decide⟩
section
variable {w:wz}
theorem wx9 {F:Fz}:∀{vs:List qz}{ns:List Int},IntsAre vs ns->RepL w F (ns.map vj) vs:=fun h=>by
 induction h with
 | nil=>exact RepL.nil_
 | cons n t h ih=>exact RepL.cons_ (by simp[zq2]) ih
end
theorem post_true (l:OpenLaw)(args:List WData):l.row.toRowW.claim.post args (.bool true) args=true:=by
 with_unfolding_all rfl
noncomputable def glo (x:Str):Option D :=
 if x == "JOINS" then some (.tuple [.str "sum", .str "mul"]) else if x == "LEAVES" then some (.int 40) else if x == "GREATEST" then some (.int 1000000000) else if x == "OPENS" then some (.int 10) else none
noncomputable def wq7 (Fs:Fns)(p:vw)(loose:List Str):Bool :=
 (Fs.all fun q=>(recsOf p).any fun d=>d.name==q.1&&wu0 q.2 d.params d.scope d.body) &&
 (bltNames.all fun x=>!startupNames.contains x&&!(looseW p loose).contains x&&!((recsOf p).map (·.name)).contains x&&!((litsOf p).map (·.1)).contains x&&!((clssOf p (looseW p loose)).map (·.name)).contains x) &&
 ((valOf p "LEAVES").bind zt9==some 40)&&((valOf p "GREATEST").bind zt9==some 1000000000)&&((valOf p "OPENS").bind zt9==some 10)
section
variable {p:vw}{loose:List Str}{R:WRecords}{XP:(Str->Option qz)->Heap->Prop}{w:wz}{s₀ s₁:qw}{mg mb:Str->Option qz}{prog:vw}{Fs:Fns}
set_option tactic.hygienic true in
theorem wh5 (G:W.Ground p loose R XP w s₀ mg mb s₁.heap){K:Frag}(KX:K.In s₁.heap){aj:Addr}{tj uj:Tok}{nj:Nat}(hj:JoinsAt K aj tj uj nj)(hc:wq7 Fs p loose=true){F0:Fz}
  (hF:F0 aj=s₁.heap.get? aj)
  (hnd:F0.NoD)
  : Base { prog:=prog,w:=w,H:=s₁.heap,F0:=F0,mg:=mg,mb:=mb } Fs glo:=by
 have T:=G.T
 unfold wq7 at hc
 simp only[zj]at hc
 obtain ⟨⟨⟨⟨c1,c2⟩,c3⟩,c4⟩,c5⟩:=hc
 exact {
  di:=wb0 w
  dg:=wj8 w
  pr:=wz3 w
  dz:=wj5 w
  nd:=hnd
  dw:=wv3 w
  ds:=wj6 w
  ns:=T.g
  nb:=T.b
  glob:=fun x d hx=>by
   unfold glo at hx
   split at hx
   ·rename_i e
    cases hx
    have e:=eq_of_beq e
    subst e
    refine Mini.iEA (.ref aj) (wy4 KX T.g hj.ns) ?_
    have h3:F0 aj=some (tobj #[.str "sum" tj,.str "mul" uj] nj):=by rw[hF];exact KX _ _ hj.at'
    simp only[za1,za2,zq2,zj8,zm8,zr4,zl8,zs4,zv1]
    refine⟨by unfold size;decide,Mini.iEEEAA aj _ nj rfl h3 (Mini.iEEAA _ _ rfl ⟨tj,rfl⟩ (Mini.iEEAA _ _ rfl ⟨uj,rfl⟩ rfl))⟩
   ·split at hx
    ·rename_i e
     cases hx
     have e:=eq_of_beq e
     subst e
     obtain ⟨t,q⟩:=ys5 T c3
     exact Mini.iEA _ q (by simp[za1,za2,zq2,zj8,zm8,zr4,zl8])
    ·split at hx
     ·rename_i e
      cases hx
      have e:=eq_of_beq e
      subst e
      obtain ⟨t,q⟩:=ys5 T c4
      exact Mini.iEA _ q (by simp[za1,za2,zq2,zj8,zm8,zr4,zl8])
     ·split at hx
      ·rename_i e
       cases hx
       have e:=eq_of_beq e
       subst e
       obtain ⟨t,q⟩:=ys5 T c5
       exact Mini.iEA _ q (by simp[za1,za2,zq2,zj8,zm8,zr4,zl8])
      ·cases hx
  blt:=fun x v hx=>by
   refine elAA (xc1 hx) fun q1 q2 q3=>?_
   have:=x8.mp c2 x q1
   simp only[zj,Bool.not_eq_true',List.contains_eq_mem,decide_eq_false_iff_not]at this
   obtain ⟨⟨⟨⟨a1,a2⟩,a3⟩,a4⟩,a5⟩:=this
   exact⟨T.free x a1 a2 a3 a4 a5,(T.builtins x q3).trans q2⟩
  nolimit:=T.nolimit
  fn:=fun g fn hg=>by
   have:=x8.mp c1 _ (mem_of_lookup hg)
   refine elEA (List.any_eq_true.mp this) fun d hd hq=>?_
   simp only[zj,beq_iff_eq]at hq
   refine xm1 (T.fn d hd) fun a o pm code doc h1 h2 h3 h4=>?_
   obtain ⟨e,hq⟩:=hq
   subst e
   exact⟨a,o,d.params,d.body,d.scope,pm,code,doc,h1,h2,h3,h4,hq⟩ }
set_option tactic.hygienic true in
theorem law_true (G:W.Ground p loose R XP w s₀ mg mb s₁.heap){K:Frag}(KX:K.In s₁.heap){aj:Addr}{tj uj:Tok}{nj:Nat}(hj:JoinsAt K aj tj uj nj)(hc:wq7 Fs p loose=true){fa l:Addr}{vs:List qz}{ns:List Int}{name:Str}(hmg:mg name=some (.ref fa))
  (hL:s₁.heap.IsList l vs.toArray) (hI:IntsAre vs ns) (hlen:ns.length<=63) {fuel n:Nat} (hn:n<=600) {f:Bool} (hrun:Mini.run Fs glo fuel n name [.list (ns.map .int)]=some (.bool true,f)) {E:qz->qw->Prop} :
  qK (zx prog w) callerA (call (.ref fa) [.ref l]) (fun v s'=>v=.bool true/\(∀ b o,s₁.heap.get? b=some o->s'.heap.get? b=some o)/\∃ h' tk,s'={ s₁ with heap:=h',toks:=tk }) E s₁:=by
 refine xd3 (hL) fun ol hol hcl m hdt=>?_
 let F0:Fz:=fun a=>if a=l then some ol else if a=aj then s₁.heap.get? aj else none
 have hin:F0.In s₁.heap:=fun a o e=>by
  simp only[F0]at e
  split at e
  ·rename_i q;subst q;cases e;exact hol
  ·split at e
   ·rename_i q;subst q;exact e
   ·cases e
 have hF0n:F0.NoD:=fun b o e=>by
  have hja:s₁.heap.get? aj=some (tobj #[.str "sum" tj,.str "mul" uj] nj):=KX _ _ hj.at'
  simp only[F0]at e
  split at e
  ·cases e;rw[hcl];exact fun e=>yk8 e (by decide)
  ·split at e
   ·rw[hja]at e;cases e;exact fun e=>yk8 e (by decide)
   ·cases e
 have B:Base { prog:=prog,w:=w,H:=s₁.heap,F0:=F0,mg:=mg,mb:=mb } Fs glo:=wh5 G KX hj hc (by
  simp only[F0]
  split
  ·rename_i q;rw[q];exact hol.symm
  ·simp)
  hF0n
 obtain ⟨a,o,fd,e1,e2,e3,hcall⟩:=wg9 B fuel n name _ _ _ hrun
 have:a=fa:=by
  have e1':mg name=some (.ref a):=e1
  rw[hmg]at e1';cases e1';rfl
 subst this
 have S:St { prog:=prog,w:=w,H:=s₁.heap,F0:=F0,mg:=mg,mb:=mb } (Hold F0 s₁.heap) F0 s₁.heap [] [] []:={
  sub:=hin
  low:=Fz.le_refl _
  base:=fun a o e=>e
  cov:=fun a o e=>by
   cases hq:F0 a with
   | none=>exact .inl ⟨hq,o,e⟩
   | some o'=>exact .inr (fun x=>nomatch x)
  xf:=fun a e=>e.1
  xal:=fun a e=>e.2
  lenP:=rfl
  lenS:=rfl
  has:=fun i p ov e1 _=>by simp at e1
  slot:=fun i p ov e1 _=>by simp at e1
  nodup:=kJ
  cont:=fun p hp=>nomatch hp
  own:=fun k a ho=>by simp[zw6]at ho
  inj:=fun i j a ho _=>by simp[zw6]at ho }
 have r:RepL w F0 [qW.list (ns.map .int)] [.ref l]:=by
  refine RepL.cons_ ?_ RepL.nil_
  simp only[za1,za2,zq2,zj8,zm8,zr4,zl8]
  refine⟨by rw[xj];unfold size;lia,Mini.iEEEEAAAA l ol vs.toArray m rfl (by simp[F0]) hcl hdt ?_⟩
  simpa using wx9 hI
 refine wpM (hcall callerA E s₁ F0 _ [.ref l] (room_caller.le hn) S r) (fun v s' q=>?_)
 obtain ⟨F',st,rr⟩:=q
 refine Mini.iAA ?_ (fun b o e=>st.st.base b o e) st.eq
 cases f with
 | false=>simpa[ResOk,za1,za2,zq2,zj8,zm8,zr4,zl8] using rr
 | true =>
  refine zr8 (rr) fun a' _ _ _ _ _ q=>?_
  exact q.elim
end
end Snd
end
section
namespace Mini
open PySem
set_option backward.match.sparseCases false
section
variable {Γ:Env}{σ τ:Sg}{a b c i l r e s t:I}{d x y:D}{f g:Bool}
noncomputable def kq (σ:Sg)(p:D×Bool):Option (D×Bool×Sg):=some (p.1,p.2,σ)
@[simp] theorem kq_:kq σ (d,f)=some (d,f,σ):=rfl
noncomputable def kb (σ:Sg)(b:Bool):Option (D×Bool×Sg):=some (.bool b,false,σ)
@[simp] theorem kb_ {p:Bool}:kb σ p=some (.bool p,false,σ):=rfl
noncomputable def kd (σ:Sg)(d:D):Option (D×Bool×Sg):=some (d,false,σ)
@[simp] theorem kd_:kd σ d=some (d,false,σ):=rfl
noncomputable def knb (σ:Sg)(b:Bool):Option (D×Bool×Sg):=some (.bool (!b),false,σ)
@[simp] theorem knb_ {p:Bool}:knb σ p=some (.bool (!p),false,σ):=rfl
noncomputable def knot (p:D×Sg):Option (D×Bool×Sg):=(zy6 p.1).bind (knb p.2)
@[simp] theorem vr8:knot (d,σ)=(zy6 d).bind (knb σ):=rfl
noncomputable def kff (p:D×Sg):Option (D×Bool×Sg):=some (p.1,false,p.2)
@[simp] theorem kff_:kff (d,σ)=some (d,false,σ):=rfl
noncomputable def kbin (op:Operator)(p:D×D×Sg):Option (D×Bool×Sg):=(binD op p.1 p.2.1).bind (kq p.2.2)
@[simp] theorem vy9 {op:Operator}:kbin op (x,y,σ)=(binD op x y).bind (kq σ):=rfl
noncomputable def kcmp (op:CmpOp)(p:D×D×Sg):Option (D×Bool×Sg):=(cmpD op p.1 p.2.1).bind (kb p.2.2)
@[simp] theorem vq1 {op:CmpOp}:kcmp op (x,y,σ)=(cmpD op x y).bind (kb σ):=rfl
noncomputable def kidx (p:D×D×Sg):Option (D×Bool×Sg):=(idxD p.1 p.2.1).bind (kd p.2.2)
@[simp] theorem vr9:kidx (x,y,σ)=(idxD x y).bind (kd σ):=rfl
noncomputable def kbr {α:Type}(h k:Sg->Option α)(σ:Sg):Bool->Option α
 | true=>h σ
 | false=>k σ
@[simp] theorem vq2 {α:Type}{h k:Sg->Option α}:kbr h k σ true=h σ:=rfl
@[simp] theorem vq3 {α:Type}{h k:Sg->Option α}:kbr h k σ false=k σ:=rfl
noncomputable def kif {α:Type}(h k:Sg->Option α)(p:D×Sg):Option α:=(zy6 p.1).bind (kbr h k p.2)
@[simp] theorem kif_ {α:Type}{h k:Sg->Option α}:kif h k (d,σ)=(zy6 d).bind (kbr h k σ):=rfl
noncomputable def kmT (p:List D×Sg):Option (D×Bool×Sg):=(mkT p.1).bind (kq p.2)
@[simp] theorem kmT_ {ds:List D}:kmT (ds,σ)=(mkT ds).bind (kq σ):=rfl
noncomputable def kmL (p:List D×Sg):Option (D×Bool×Sg):=(mkL p.1).bind (kq p.2)
@[simp] theorem kmL_ {ds:List D}:kmL (ds,σ)=(mkL ds).bind (kq σ):=rfl
noncomputable def kco (n:Nat)(h:Sg->Option (D×Sg))(k:Ev)(p:List D×Sg):Option (D×Bool×Sg):=(zf5 n h k p.1 p.2).bind kmL
@[simp] theorem kco_ {n:Nat}{h:Sg->Option (D×Sg)}{k:Ev}{ds:List D}:kco n h k (ds,σ)=(zf5 n h k ds σ).bind kmL:=rfl
noncomputable def kcT (n m:Nat)(h:Sg->Option (D×Sg))(k:Ev)(p:List D×Sg):Option (D×Bool×Sg):=(zm7 n (tupN m) h k p.1 p.2).bind kmL
@[simp] theorem kcT_ {n m:Nat}{h:Sg->Option (D×Sg)}{k:Ev}{ds:List D}:kcT n m h k (ds,σ)=(zm7 n (tupN m) h k ds σ).bind kmL:=rfl
noncomputable def kca (Γ:Env)(g:Str)(p:List D×Sg):Option (D×Bool×Sg):=(Γ.call g p.1).bind (kq p.2)
@[simp] theorem kca_ {g:Str}{ds:List D}:kca Γ g (ds,σ)=(Γ.call g ds).bind (kq σ):=rfl
noncomputable def kp1 (p:Prim)(x:D×Sg):Option (D×Bool×Sg):=(zh6 p x.1).bind (kq x.2)
@[simp] theorem kp1_ {p:Prim}:kp1 p (d,σ)=(zh6 p d).bind (kq σ):=rfl
noncomputable def kis (ty:Str)(p:D×Sg):Option (D×Bool×Sg):=(isiD p.1 ty).bind (kb p.2)
@[simp] theorem kis_ {ty:Str}:kis ty (d,σ)=(isiD d ty).bind (kb σ):=rfl
noncomputable def kpob (σ:Sg)(k:Nat)(l:List D)(d:D):Option (D×Bool×Sg):=some (d,false,σ.set k (some (.own (.list l.dropLast))))
@[simp] theorem vr7 {k:Nat}{ds:List D}:kpob σ k ds d=some (d,false,σ.set k (some (.own (.list ds.dropLast)))):=rfl
noncomputable def kpo (σ:Sg)(k:Nat)(l:List D):Option (D×Bool×Sg):=l.getLast?.bind (kpob σ k l)
@[simp] theorem kpo_ {k:Nat}{ds:List D}:kpo σ k ds=ds.getLast?.bind (kpob σ k ds):=rfl
noncomputable def kr1b (σ:Sg)(y:Int):Option (D×Bool×Sg):=if zy8 y&&decide (y.toNat<=size) then some (.list (zu7 0 y),false,σ) else none
@[simp] theorem vr6 {y:Int}:kr1b σ y=if zy8 y&&decide (y.toNat<=size) then some (.list (zu7 0 y),false,σ) else none:=rfl
noncomputable def kr1 (p:D×Bool×Sg):Option (D×Bool×Sg):=(zt9 p.1).bind (kr1b p.2.2)
@[simp] theorem kr1_:kr1 (d,f,σ)=(zt9 d).bind (kr1b σ):=rfl
noncomputable def krc (x:Int)(σ:Sg)(y:Int):Option (D×Bool×Sg):=if zy8 x&&zy8 y&&decide ((y - x).toNat<=size) then some (.list (zu7 x y),false,σ) else none
@[simp] theorem krc_ {x y:Int}:krc x σ y=if zy8 x&&zy8 y&&decide ((y - x).toNat<=size) then some (.list (zu7 x y),false,σ) else none:=rfl
noncomputable def krb (x:Int)(q:D×Bool×Sg):Option (D×Bool×Sg):=(zt9 q.1).bind (krc x q.2.2)
@[simp] theorem krb_ {i:Int}:krb i (d,f,σ)=(zt9 d).bind (krc i σ):=rfl
noncomputable def kra (h:Ev)(σ:Sg)(x:Int):Option (D×Bool×Sg):=(h σ).bind (krb x)
@[simp] theorem kra_ {h:Ev}{i:Int}:kra h σ i=(h σ).bind (krb i):=rfl
noncomputable def kr (h:Ev)(p:D×Bool×Sg):Option (D×Bool×Sg):=(zt9 p.1).bind (kra h p.2.2)
@[simp] theorem kr_ {h:Ev}:kr h (d,f,σ)=(zt9 d).bind (kra h σ):=rfl
noncomputable def kc1 (d:D)(q:List D×Sg):Option (List D×Sg):=some (d::q.1,q.2)
@[simp] theorem kc1_ {ds:List D}:kc1 d (ds,σ)=some (d::ds,σ):=rfl
noncomputable def kc (h:Sg->Option (List D×Sg))(p:D×Bool×Sg):Option (List D×Sg):=(h p.2.2).bind (kc1 p.1)
@[simp] theorem kc_ {h:Sg->Option (List D×Sg)}:kc h (d,f,σ)=(h σ).bind (kc1 d):=rfl
noncomputable def kl (p:D×Bool×Sg):Option (D×Sg):=some (p.1,p.2.2)
@[simp] theorem kl_:kl (d,f,σ)=some (d,σ):=rfl
noncomputable def kpr (d:D)(σ:Sg):Option (D×Sg):=some (d,σ)
@[simp] theorem kpr_:kpr d σ=some (d,σ):=rfl
noncomputable def kan (h:Sg->Option (D×Sg))(p:D×Bool×Sg):Option (D×Sg):=(zy6 p.1).bind (kbr h (kpr p.1) p.2.2)
@[simp] theorem kan_ {h:Sg->Option (D×Sg)}:kan h (d,f,σ)=(zy6 d).bind (kbr h (kpr d) σ):=rfl
noncomputable def ko (h:Sg->Option (D×Sg))(p:D×Bool×Sg):Option (D×Sg):=(zy6 p.1).bind (kbr (kpr p.1) h p.2.2)
@[simp] theorem ko_ {h:Sg->Option (D×Sg)}:ko h (d,f,σ)=(zy6 d).bind (kbr (kpr d) h σ):=rfl
noncomputable def kas (k:Nat)(p:D×Bool×Sg):Option Out:=some (.next (put p.2.2 k p.1 p.2.1))
@[simp] theorem kas_ {k:Nat}:kas k (d,f,σ)=some (.next (put σ k d f)):=rfl
noncomputable def kapb (k:Nat)(p:D×Bool×Sg):Option Out:=appD p.2.2 k [p.1]
@[simp] theorem vq5 {k:Nat}:kapb k (d,f,σ)=appD σ k [d]:=rfl
noncomputable def kap (k:Nat)(h:Ev)(σ:Sg)(_:List D):Option Out:=(h σ).bind (kapb k)
@[simp] theorem kap_ {k:Nat}{h:Ev}{ds:List D}:kap k h σ ds=(h σ).bind (kapb k):=rfl
noncomputable def kexb (k:Nat)(p:D×Bool×Sg):Option Out:=(extD p.1).bind (appD p.2.2 k)
@[simp] theorem vq0 {k:Nat}:kexb k (d,f,σ)=(extD d).bind (appD σ k):=rfl
noncomputable def kex (k:Nat)(h:Ev)(σ:Sg)(_:List D):Option Out:=(h σ).bind (kexb k)
@[simp] theorem kex_ {k:Nat}{h:Ev}{ds:List D}:kex k h σ ds=(h σ).bind (kexb k):=rfl
noncomputable def kst3 (k:Nat)(v key:D)(σ:Sg)(kvs:List (D×D)):Option Out:=if zs3 key kvs&&decide (kvs.length<size) then some (.next (σ.set k (some (.own (.dict (dput kvs key v)))))) else none
@[simp] theorem vr1 {k:Nat}{kvs:List (D×D)}:kst3 k d x σ kvs=if zs3 x kvs&&decide (kvs.length<size) then some (.next (σ.set k (some (.own (.dict (dput kvs x d)))))) else none:=rfl
noncomputable def kst2 (k:Nat)(v:D)(x:D×Bool×Sg):Option Out:=(ownD x.2.2 k).bind (kst3 k v x.1 x.2.2)
@[simp] theorem vr2 {k:Nat}:kst2 k d (x,f,σ)=(ownD σ k).bind (kst3 k d x σ):=rfl
noncomputable def kst1 (k:Nat)(h:Ev)(v:D)(σ:Sg):Bool->Option Out
 | true=>(h σ).bind (kst2 k v)
 | false=>none
@[simp] theorem vr3 {k:Nat}{h:Ev}:kst1 k h d σ true=(h σ).bind (kst2 k d):=rfl
noncomputable def kst (k:Nat)(h:Ev)(v:D×Bool×Sg):Option Out:=kst1 k h v.1 v.2.2 (zq8 v.2.2 k)
@[simp] theorem kst_ {k:Nat}{h:Ev}:kst k h (d,f,σ)=kst1 k h d σ (zq8 σ k):=rfl
noncomputable def kfo (k:D->Sg->Option Sg)(h:Sg->Option Out)(p:List D×Sg):Option Out:=forN k h p.1 p.2
@[simp] theorem kfo_ {k:D->Sg->Option Sg}{h:Sg->Option Out}{ds:List D}:kfo k h (ds,σ)=forN k h ds σ:=rfl
noncomputable def kre (p:D×Bool×Sg):Option Out:=some (.ret p.1 p.2.1)
@[simp] theorem kre_:kre (d,f,σ)=some (.ret d f):=rfl
noncomputable def kun1 (σ:Sg)(d:D):Option (D×Sg):=some (d,σ)
@[simp] theorem vr0:kun1 σ d=some (d,σ):=rfl
noncomputable def kun (p:Opnd×Sg):Option (D×Sg):=(res p.1 p.2).bind (kun1 p.2)
@[simp] theorem kun_ {o:Opnd}:kun (o,σ)=(res o σ).bind (kun1 σ):=rfl
noncomputable def kdu3 (σ:Sg)(x y:D):Option (D×D×Sg):=some (x,y,σ)
@[simp] theorem vy5:kdu3 σ x y=some (x,y,σ):=rfl
noncomputable def kdu2 (o:Opnd)(σ:Sg)(x:D):Option (D×D×Sg):=(res o σ).bind (kdu3 σ x)
@[simp] theorem vy6 {o:Opnd}:kdu2 o σ x=(res o σ).bind (kdu3 σ x):=rfl
noncomputable def kdu1 (o:Opnd)(q:Opnd×Sg):Option (D×D×Sg):=(res o q.2).bind (kdu2 q.1 q.2)
@[simp] theorem vy7 {o u:Opnd}:kdu1 o (u,σ)=(res o σ).bind (kdu2 u σ):=rfl
noncomputable def kdu (j:I)(h:Ev)(p:Opnd×Sg):Option (D×D×Sg):=(opn j h p.2).bind (kdu1 p.1)
@[simp] theorem kdu_ {j:I}{h:Ev}{o:Opnd}:kdu j h (o,σ)=(opn j h σ).bind (kdu1 o):=rfl
noncomputable def kdat (p:D×Bool×Sg):Option (Opnd×Sg):=some (.dat p.1,p.2.2)
@[simp] theorem vy8:kdat (d,f,σ)=some (.dat d,σ):=rfl
noncomputable def kslo (k:Nat)(σ:Sg)(_:D):Option (Opnd×Sg):=some (.slot k,σ)
@[simp] theorem vr5 {k:Nat}:kslo k σ d=some (.slot k,σ):=rfl
noncomputable def ksr1 (σ:Sg)(l:List D):Option (List D×Sg):=some (l,σ)
@[simp] theorem vr4 {ds:List D}:ksr1 σ ds=some (ds,σ):=rfl
noncomputable def ksr (p:D×Bool×Sg):Option (List D×Sg):=(yt0 p.1).bind (ksr1 p.2.2)
@[simp] theorem ksr_:ksr (d,f,σ)=(yt0 d).bind (ksr1 σ):=rfl
@[simp] theorem vv1 {h:Sg->Option Out}:zg3 h (.next σ)=h σ:=rfl
@[simp] theorem vv0 {h:Sg->Option Out}:zg3 h (.ret d f)=some (.ret d f):=rfl
@[simp] theorem vx7 {x:Str}:ev Γ (.glob x) σ=(Γ.glob x).bind (kd σ):=rfl
@[simp] theorem wa9 {op:Operator}:ev Γ (.bin op a b) σ=(duo a (ev Γ a) b (ev Γ b) σ).bind (kbin op):=rfl
@[simp] theorem vu2:ev Γ (.not a) σ=(uno a (ev Γ a) σ).bind knot:=rfl
@[simp] theorem vt3:ev Γ (.and l) σ=(yy2 Γ l σ).bind kff:=rfl
@[simp] theorem q_or:ev Γ (.or l) σ=(evOr Γ l σ).bind kff:=rfl
@[simp] theorem vt0 {op:CmpOp}:ev Γ (.cmp op a b) σ=(duo a (ev Γ a) b (ev Γ b) σ).bind (kcmp op):=rfl
@[simp] theorem vu4:ev Γ (.ite c a b) σ=(uno c (ev Γ c) σ).bind (kif (ev Γ a) (ev Γ b)):=rfl
@[simp] theorem wa5:ev Γ (.tup l) σ=(evs Γ l σ).bind kmT:=rfl
@[simp] theorem vu3:ev Γ (.lst l) σ=(evs Γ l σ).bind kmL:=rfl
@[simp] theorem wa8 {elt s cond:I}:ev Γ (.comp1 elt s cond) σ=(srcE (ev Γ s) σ).bind (kco σ.length (zm4 cond (ev Γ cond)) (ev Γ elt)):=rfl
@[simp] theorem wa7 {m:Nat}{elt s cond:I}:ev Γ (.compT m elt s cond) σ=(srcE (ev Γ s) σ).bind (kcT σ.length m (zm4 cond (ev Γ cond)) (ev Γ elt)):=rfl
@[simp] theorem vw0 {g:Str}:ev Γ (.call g l) σ=(evs Γ l σ).bind (kca Γ g):=rfl
@[simp] theorem wn7 {p:Prim}:ev Γ (.prim1 p a) σ=(uno a (ev Γ a) σ).bind (kp1 p):=rfl
@[simp] theorem vu5 {ty:Str}:ev Γ (.isi a ty) σ=(uno a (ev Γ a) σ).bind (kis ty):=rfl
@[simp] theorem vu7:ev Γ (.idx a i) σ=(duo a (ev Γ a) i (ev Γ i) σ).bind kidx:=rfl
@[simp] theorem vu1 {k:Nat}:ev Γ (.pop k) σ=(ownL σ k).bind (kpo σ k):=rfl
@[simp] theorem vx6:ev Γ (.rng1 b) σ=(ev Γ b σ).bind kr1:=rfl
@[simp] theorem vv9:ev Γ (.rng a b) σ=(ev Γ a σ).bind (kr (ev Γ b)):=rfl
@[simp] theorem wf7:evs Γ (.cons a r) σ=(ev Γ a σ).bind (kc (evs Γ r)):=rfl
@[simp] theorem q_al:yy2 Γ (.cons a .nil) σ=(ev Γ a σ).bind kl:=rfl
@[simp] theorem q_am:yy2 Γ (.cons a (.cons b r)) σ=(ev Γ a σ).bind (kan (yy2 Γ (.cons b r))):=rfl
@[simp] theorem q_ol:evOr Γ (.cons a .nil) σ=(ev Γ a σ).bind kl:=rfl
@[simp] theorem q_om:evOr Γ (.cons a (.cons b r)) σ=(ev Γ a σ).bind (ko (evOr Γ (.cons b r))):=rfl
@[simp] theorem vt2 {k:Nat}:ex Γ (.asg k e) σ=(ev Γ e σ).bind (kas k):=rfl
@[simp] theorem wf4 {k:Nat}{key:I}:ex Γ (.sto k key e) σ=(ev Γ e σ).bind (kst k (ev Γ key)):=by
 rw[yf2];congr 1;funext v;unfold kst
 cases zq8 v.2.2 k<;>rfl
@[simp] theorem vz0 {k:Nat}:ex Γ (.app k e) σ=(ownL σ k).bind (kap k (ev Γ e) σ):=rfl
@[simp] theorem vu9 {k:Nat}:ex Γ (.ext k e) σ=(ownL σ k).bind (kex k (ev Γ e) σ):=rfl
@[simp] theorem vu6:ex Γ (.iff c t e) σ=(uno c (ev Γ c) σ).bind (kif (ex Γ t) (ex Γ e)):=rfl
@[simp] theorem vx9 {k:Nat}:ex Γ (.for1 k s b) σ=(srcE (ev Γ s) σ).bind (kfo (zp3 k) (ex Γ b)):=rfl
@[simp] theorem vx8 {ks:List Nat}:ex Γ (.fors ks s b) σ=(srcE (ev Γ s) σ).bind (kfo (zb9 ks) (ex Γ b)):=rfl
@[simp] theorem vu0:ex Γ (.ret e) σ=(ev Γ e σ).bind kre:=rfl
@[simp] theorem wa4 {h:Ev}:uno a h σ=(opn a h σ).bind kun:=rfl
@[simp] theorem wa6 {h k:Ev}:duo a h b k σ=(opn a h σ).bind (kdu b k):=rfl
@[simp] theorem vt1 {k:Nat}{h:Ev}:opn (.brw k) h σ=(look σ k).bind (kslo k σ):=rfl
@[simp] theorem vv8 {h:Ev}:srcE h σ=(h σ).bind ksr:=rfl
@[simp] theorem vt4 {k:Nat}:put σ k d true=σ.set k (some (.own d)):=rfl
@[simp] theorem vt5 {k:Nat}:put σ k d false=σ.set k (some (.val d)):=rfl
theorem mkT1:mkT [x]=some (.tuple [x],false):=rfl
theorem mkT2:mkT [x,y]=some (.tuple [x,y],false):=rfl
theorem mkT3:mkT [x,y,d]=some (.tuple [x,y,d],false):=rfl
theorem mkL0:mkL []=some (.list [],true):=rfl
theorem mkL1:mkL [x]=some (.list [x],true):=rfl
theorem mkL2:mkL [x,y]=some (.list [x,y],true):=rfl
theorem wh6 {i j:Int}:binD .Sub (.int i) (.int j)=some (.int (i - j),false):=rfl
theorem wh7 {i j:Int}:binD .Add (.int i) (.int j)=some (.int (i+j),false):=rfl
theorem vx1 {i j:Int}:binD .Mod (.int i) (.int j)=if j != 0&&zy8 j then some (.int (i.fmod j),false) else none:=rfl
theorem wb3 {i j:Int}:binD .FloorDiv (.int i) (.int j)=if j != 0&&zy8 j then some (.int (i.fdiv j),false) else none:=rfl
theorem c_gt {i j:Int}:cmpD .Gt (.int i) (.int j)=some (decide (j<i)):=rfl
theorem c_le {i j:Int}:cmpD .LtE (.int i) (.int j)=some (decide (i<=j)):=rfl
theorem c_ge {i j:Int}:cmpD .GtE (.int i) (.int j)=some (decide (j<=i)):=rfl
theorem c_is:cmpD .Is d .none=some (yl3 d):=rfl
noncomputable def sq (σ:Sg)(k:Nat):Option (Option AV):=σ[k]?
noncomputable def useK (σ:Sg)(k:Nat):Option (Option AV)->Option (D×Bool×Sg)
 | some (some (.val d))=>some (d,false,σ)
 | some (some (.own d))=>some (d,false,σ.set k (some (.val d)))
 | _=>none
noncomputable def wm8:Option (Option AV)->Option D
 | some (some (.val d))=>some d
 | some (some (.own d))=>some d
 | _=>none
noncomputable def ownLK:Option (Option AV)->Option (List D)
 | some (some (.own (.list l)))=>some l
 | _=>none
noncomputable def wm1:Option (Option AV)->Option (List (D×D))
 | some (some (.own (.dict l)))=>some l
 | _=>none
noncomputable def hasK:Option (Option AV)->Bool
 | some (some (.own _))=>true
 | _=>false
@[simp] theorem wa3 {k:Nat}:useS σ k=useK σ k (sq σ k):=rfl
@[simp] theorem wf5 {k:Nat}:look σ k=wm8 (sq σ k):=rfl
@[simp] theorem q_oL {k:Nat}:ownL σ k=ownLK (sq σ k):=rfl
@[simp] theorem q_oD {k:Nat}:ownD σ k=wm1 (sq σ k):=rfl
@[simp] theorem vu8 {k:Nat}:zq8 σ k=hasK (sq σ k):=rfl
@[simp] theorem wb9 {k:Nat}:useK σ k (some (some (.val d)))=some (d,false,σ):=rfl
@[simp] theorem vv5 {k:Nat}:useK σ k (some (some (.own d)))=some (d,false,σ.set k (some (.val d))):=rfl
@[simp] theorem vw8:wm8 (some (some (.val d)))=some d:=rfl
@[simp] theorem vw9:wm8 (some (some (.own d)))=some d:=rfl
@[simp] theorem oL_ {ds:List D}:ownLK (some (some (.own (.list ds))))=some ds:=rfl
@[simp] theorem oD_ {ds:List (D×D)}:wm1 (some (some (.own (.dict ds))))=some ds:=rfl
@[simp] theorem vq6:hasK (some (some (.own d)))=true:=rfl
@[simp] theorem sl0 {a0:Option AV}:sq (a0::σ) 0=some a0:=rfl
@[simp] theorem sl1 {a0 a1:Option AV}:sq (a0::a1::σ) 1=some a1:=rfl
@[simp] theorem sl2 {a0 a1 a2:Option AV}:sq (a0::a1::a2::σ) 2=some a2:=rfl
@[simp] theorem sl3 {a0 a1 a2 a3:Option AV}:sq (a0::a1::a2::a3::σ) 3=some a3:=rfl
@[simp] theorem sl4 {a0 a1 a2 a3 a4:Option AV}:sq (a0::a1::a2::a3::a4::σ) 4=some a4:=rfl
@[simp] theorem sl5 {a0 a1 a2 a3 a4 a5:Option AV}:sq (a0::a1::a2::a3::a4::a5::σ) 5=some a5:=rfl
@[simp] theorem sl6 {a0 a1 a2 a3 a4 a5 a6:Option AV}:sq (a0::a1::a2::a3::a4::a5::a6::σ) 6=some a6:=rfl
@[simp] theorem sl7 {a0 a1 a2 a3 a4 a5 a6 a7:Option AV}:sq (a0::a1::a2::a3::a4::a5::a6::a7::σ) 7=some a7:=rfl
@[simp] theorem sl8 {a0 a1 a2 a3 a4 a5 a6 a7 a8:Option AV}:sq (a0::a1::a2::a3::a4::a5::a6::a7::a8::σ) 8=some a8:=rfl
@[simp] theorem sl9 {a0 a1 a2 a3 a4 a5 a6 a7 a8 a9:Option AV}:sq (a0::a1::a2::a3::a4::a5::a6::a7::a8::a9::σ) 9=some a9:=rfl
@[simp] theorem sl10 {a0 a1 a2 a3 a4 a5 a6 a7 a8 a9 a10:Option AV}:sq (a0::a1::a2::a3::a4::a5::a6::a7::a8::a9::a10::σ) 10=some a10:=rfl
@[simp] theorem sl11 {a0 a1 a2 a3 a4 a5 a6 a7 a8 a9 a10 a11:Option AV}:sq (a0::a1::a2::a3::a4::a5::a6::a7::a8::a9::a10::a11::σ) 11=some a11:=rfl
@[simp] theorem sl12 {a0 a1 a2 a3 a4 a5 a6 a7 a8 a9 a10 a11 a12:Option AV}:sq (a0::a1::a2::a3::a4::a5::a6::a7::a8::a9::a10::a11::a12::σ) 12=some a12:=rfl
theorem mkT_ {ds:List D}:mkT ds=if ds.length<=size then some (.tuple ds,false) else none:=rfl
theorem mkL_ {ds:List D}:mkL ds=if ds.length<=size then some (.list ds,true) else none:=rfl
noncomputable def kno (b:Bool):Option Bool:=some (!b)
@[simp] theorem kno_ {p:Bool}:kno p=some (!p):=rfl
theorem c_eq:cmpD .Eq x y=eqD x y:=rfl
theorem c_ne:cmpD .NotEq x y=(eqD x y).bind kno:=rfl
theorem c_lt:cmpD .Lt x y=if okd x&&okd y then ltT x y else none:=rfl
theorem c_in:cmpD .In x y=inD x y:=rfl
theorem c_ni:cmpD .NotIn x y=(inD x y).bind kno:=rfl
theorem b_ad:binD .Add x y=addD x y:=rfl
theorem wd9 {ds:List D}:idxD (.list (x::ds)) (.int 0)=some x:=rfl
theorem zp1 {ds:List D}:idxD (.tuple (x::ds)) (.int 0)=some x:=rfl
theorem zb4 {ds:List D}:idxD (.tuple (x::y::ds)) (.int 1)=some y:=rfl
theorem xg2 {ds:List D}:idxD (.tuple (x::y::d::ds)) (.int 2)=some d:=rfl
noncomputable def kapd (σ:Sg)(k:Nat)(r l:List D):Option Out:=if l.length+r.length<size then some (.next (σ.set k (some (.own (.list (l++r)))))) else none
@[simp] theorem vq4 {k:Nat}{r l:List D}:kapd σ k r l=if l.length+r.length<size then some (.next (σ.set k (some (.own (.list (l++r)))))) else none:=rfl
@[simp] theorem vw1 {k:Nat}{r:List D}:appD σ k r=(ownL σ k).bind (kapd σ k r):=rfl
@[simp] theorem vz4 {k:Nat}{h:Ev}:opn (.var k) h σ=(h σ).bind kdat:=rfl
@[simp] theorem we5 {k:Int}{h:Ev}:opn (.cint k) h σ=(h σ).bind kdat:=rfl
@[simp] theorem vw5 {k:Str}{h:Ev}:opn (.cstr k) h σ=(h σ).bind kdat:=rfl
@[simp] theorem vy0 {k:Bool}{h:Ev}:opn (.cbool k) h σ=(h σ).bind kdat:=rfl
@[simp] theorem vw3 {k:Str}{h:Ev}:opn (.glob k) h σ=(h σ).bind kdat:=rfl
@[simp] theorem vt8 {k:Nat}{h:Ev}:opn (.pop k) h σ=(h σ).bind kdat:=rfl
@[simp] theorem vt9 {k:I}{h:Ev}:opn (.not k) h σ=(h σ).bind kdat:=rfl
@[simp] theorem vs8 {k:I}{h:Ev}:opn (.and k) h σ=(h σ).bind kdat:=rfl
@[simp] theorem o_or {k:I}{h:Ev}:opn (.or k) h σ=(h σ).bind kdat:=rfl
@[simp] theorem vt6 {k:I}{h:Ev}:opn (.tup k) h σ=(h σ).bind kdat:=rfl
@[simp] theorem vs0 {k:I}{h:Ev}:opn (.lst k) h σ=(h σ).bind kdat:=rfl
@[simp] theorem vw2 {k:I}{h:Ev}:opn (.rng1 k) h σ=(h σ).bind kdat:=rfl
@[simp] theorem vs7 {k:Operator}{h:Ev}:opn (.bin k a b) h σ=(h σ).bind kdat:=rfl
@[simp] theorem vs6 {k:CmpOp}{h:Ev}:opn (.cmp k a b) h σ=(h σ).bind kdat:=rfl
@[simp] theorem vw7 {k:Str}{h:Ev}:opn (.call k a) h σ=(h σ).bind kdat:=rfl
@[simp] theorem vz6 {k:Prim}{h:Ev}:opn (.prim1 k a) h σ=(h σ).bind kdat:=rfl
@[simp] theorem vs3 {k:Str}{h:Ev}:opn (.isi a k) h σ=(h σ).bind kdat:=rfl
@[simp] theorem vs5 {h:Ev}:opn (.idx a b) h σ=(h σ).bind kdat:=rfl
theorem bm2 {i:Int}:binD .Mod (.int i) (.int 2)=some (.int (i.fmod 2),false):=rfl
theorem bd2 {i:Int}:binD .FloorDiv (.int i) (.int 2)=some (.int (i.fdiv 2),false):=rfl
theorem bm3 {i:Int}:binD .Mod (.int i) (.int 3)=some (.int (i.fmod 3),false):=rfl
theorem bm4 {i:Int}:binD .Mod (.int i) (.int 4)=some (.int (i.fmod 4),false):=rfl
theorem bd4 {i:Int}:binD .FloorDiv (.int i) (.int 4)=some (.int (i.fdiv 4),false):=rfl
theorem bm8 {i:Int}:binD .Mod (.int i) (.int 8)=some (.int (i.fmod 8),false):=rfl
theorem bd8 {i:Int}:binD .FloorDiv (.int i) (.int 8)=some (.int (i.fdiv 8),false):=rfl
@[simp] theorem vz5 {h:Ev}:opn (.slc a b c) h σ=(h σ).bind kdat:=rfl
@[simp] theorem vz8 {h:Ev}:opn (.comp1 a b c) h σ=(h σ).bind kdat:=rfl
@[simp] theorem vz7 {n:Nat}{h:Ev}:opn (.compT n a b c) h σ=(h σ).bind kdat:=rfl
@[simp] theorem vs1 {h:Ev}:opn (.ite a b c) h σ=(h σ).bind kdat:=rfl
@[simp] theorem vt7 {h:Ev}:opn (.rng a b) h σ=(h σ).bind kdat:=rfl
@[simp] theorem vz9 {h:Ev}:opn .cnone h σ=(h σ).bind kdat:=rfl
@[simp] theorem vw4 {h:Ev}:opn .dct0 h σ=(h σ).bind kdat:=rfl
@[simp] theorem vw6 {u v:CmpOp}{h:Ev}:opn (.cmp2 u v a b c) h σ=(h σ).bind kdat:=rfl
end
theorem zad1 {a b:List D}:addD (.list a) (.list b)=mkL (a++b):=rfl
theorem zad2 {a b:List D}:addD (.tuple a) (.tuple b)=mkT (a++b):=rfl
@[simp] theorem ztr1 {b:Bool}:zy6 (.bool b)=some b:=rfl
theorem ztr2 {l:List D}:zy6 (.list l)=some (!l.isEmpty):=rfl
theorem zix1 {l:List D}{i:Int}:idxD (.list l) (.int i)=if 0<=i then l[i.toNat]? else none:=rfl
theorem zix2 {l:List D}{i:Int}:idxD (.tuple l) (.int i)=if 0<=i then l[i.toNat]? else none:=rfl
theorem zix3 {l:List (D×D)}{k:D}:idxD (.dict l) k=if zk1 k l then zq6 l k else none:=rfl
theorem zsl1 {l:List D}{i j:Option Int}:yq6 (.list l) i j=some (.list (zw5 l i j),true):=rfl
theorem zsl2 {l:List D}{i:Int}:yq6 (.tuple l) (some i) none=if 1<=i/\i<=l.length then some (.tuple (l.drop i.toNat),false) else none:=rfl
theorem zse1 {l:List D}:seqD (.list l)=some l:=rfl
theorem zse2 {l:List D}:seqD (.tuple l)=some l:=rfl
theorem zex1 {l:List D}:extD (.list l)=some l:=rfl
theorem zex2 {l:List D}:extD (.tuple l)=some l:=rfl
theorem zle1 {l:List D}:lenD (.list l)=some (.int l.length,false):=rfl
theorem zle2 {l:List D}:lenD (.tuple l)=some (.int l.length,false):=rfl
theorem zai {i:Int}:zt9 (.int i)=some i:=rfl
theorem zal {l:List D}:yr0 (.list l)=some l:=rfl
theorem zat {l:List D}:wu3 (.tuple l)=some l:=rfl
theorem zit1 {l:List D}:yt0 (.list l)=some l:=rfl
theorem zit2 {l:List D}:yt0 (.tuple l)=some l:=rfl
theorem zit3 {l:List (D×D)}:yt0 (.dict l)=some (l.map (·.1)):=rfl
theorem zco {l:List (D×D)}:wi1 (.dict l)=if zl5 l then some (.dict l,true) else none:=rfl
theorem zso1 {l:List D}:yw4 (.list l)=zk2 l:=rfl
theorem zso2 {l:List (D×D)}:yw4 (.dict l)=zk2 (l.map (·.1)):=rfl
theorem zin2 {x:D}{l:List D}:inD x (.tuple l)=if okd x&&l.all okd then some (l.any fun y=>z7 y x) else none:=rfl
theorem zin3 {x:D}{l:List (D×D)}:inD x (.dict l)=if zk1 x l&&!tkey x then some (zq6 l x).isSome else none:=rfl
theorem zh4 {d:D}:zh6 .len d=lenD d:=rfl
theorem wz9 {d:D}:zh6 .tuple d=(seqD d).bind fun l=>some (.tuple l,false):=rfl
theorem xj7 {d:D}:zh6 .list d=orS ((seqD d).bind fun l=>some (.list l,true)) (yn7 .list d):=rfl
theorem xp9 {d:D}:zh6 .sorted d=yn7 .sorted d:=rfl
theorem we0 {d:D}:zh6 .dict d=yn7 .dict d:=rfl
theorem xp4 {d:D}:yn7 .sorted d=yw4 d:=rfl
theorem wf2 {d:D}:yn7 .dict d=wi1 d:=rfl
theorem bD_ {i:Int}:bndD (.int i)=if i.natAbs<2^62 then some i else none:=rfl
noncomputable def kbe2 (σ:Sg)(j:Int):Option (Option Int×Sg):=some (some j,σ)
@[simp] theorem vx0 {σ:Sg}{j:Int}:kbe2 σ j=some (some j,σ):=rfl
noncomputable def kbe (p:D×Bool×Sg):Option (Option Int×Sg):=(bndD p.1).bind (kbe2 p.2.2)
@[simp] theorem kbe_ {d:D}{f:Bool}{σ:Sg}:kbe (d,f,σ)=(bndD d).bind (kbe2 σ):=rfl
theorem bE_o {h:Ev}{σ:Sg}:bndE .omit h σ=some (none,σ):=rfl
theorem bE_c {i:Int}{h:Ev}{σ:Sg}:bndE (.cint i) h σ=(h σ).bind kbe:=rfl
theorem bE_v {k:Nat}{h:Ev}{σ:Sg}:bndE (.var k) h σ=(h σ).bind kbe:=rfl
theorem bE_b {o:Operator}{a b:I}{h:Ev}{σ:Sg}:bndE (.bin o a b) h σ=(h σ).bind kbe:=rfl
theorem cE_c {o:CmpOp}{a b:I}{h:Ev}{σ:Sg}:zm4 (.cmp o a b) h σ=(h σ).bind kl:=rfl
theorem cE_k {g:Str}{a:I}{h:Ev}{σ:Sg}:zm4 (.call g a) h σ=(h σ).bind kl:=rfl
theorem kk_i {i:Int}:zv7 (.int i)=some 0:=rfl
theorem kk_t {l:List D}:zv7 (.tuple l)=if tkey (.tuple l) then some 1 else none:=rfl
section
variable {Γ:Env}{σ:Sg}
@[simp] theorem wb7:ev Γ .cnone σ=some (.none,false,σ):=rfl
@[simp] theorem wb8 {b:Bool}:ev Γ (.cbool b) σ=some (.bool b,false,σ):=rfl
@[simp] theorem vx5 {i:Int}:ev Γ (.cint i) σ=some (.int i,false,σ):=rfl
@[simp] theorem vx4 {s:Str}:ev Γ (.cstr s) σ=some (.str s,false,σ):=rfl
@[simp] theorem vv3 {k:Nat}:ev Γ (.var k) σ=useS σ k:=rfl
@[simp] theorem vx3:ev Γ .dct0 σ=some (.dict [],true,σ):=rfl
@[simp] theorem vv4:evs Γ .nil σ=some ([],σ):=rfl
@[simp] theorem vv2:ex Γ .nil σ=some (.next σ):=rfl
@[simp] theorem vv6 {k:Nat}:res (.slot k) σ=look σ k:=rfl
@[simp] theorem vv7 {d:D}:res (.dat d) σ=some d:=rfl
end
end Mini
end
section
namespace Pl
open Mini
theorem qt {a b c:Nat}(h:a<=b)(k:b<=c):a<=c:=qv h k
theorem ql {a b c:Nat}(h:a<=b)(k:b<c):a<c:=z8 h k
theorem qa {a b c d:Nat}(h:a<=b)(k:c<=d):a+c<=b+d:=jQ h k
theorem qx {a k m:Nat}(h:a<=k)(hk:decide (k<m)=true):a<m:=z8 h (of_decide_eq_true hk)
theorem qy {a k m:Nat}(h:a<=k)(hk:decide (k<=m)=true):a<=m:=qv h (of_decide_eq_true hk)
theorem qr {a b c:Nat}(h:a+b<=c):b<=c:=qv (w3 ..) h
theorem qf {a b c:Nat}(h:a+b<=c):a<=c:=qv (qk ..) h
theorem qg {a b c:Nat}(h:a+b<c):a<c:=z8 (qk ..) h
theorem na62 {n k:Nat}(h:n<=k)(hk:decide (k<4611686018427387904)=true):(n:Int).natAbs<4611686018427387904:=z8 h (of_decide_eq_true hk)
theorem na63 {n k:Nat}(h:n+1<=k)(hk:decide (k<4611686018427387904)=true):((n:Int)+1).natAbs<4611686018427387904:=z8 h (of_decide_eq_true hk)
theorem nsc {n k x m c K:Nat}(h:x<=m)(hk:decide (m<=k)=true)(e:k+c=K):n+k - x+x+c=n+K:=by
 rw[xW (qv h (Nat.le_add_left_of_le (of_decide_eq_true hk))),x0,e]
theorem nc1 {a b:Nat}(h:1<=a):a+b - 1+1=a+b:=xW (Nat.le_add_right_of_le h)
theorem nc2 {n a b:Nat}(h:1<=a):n+a+b - 1+1=n+a+b:=xW (Nat.le_add_right_of_le (Nat.le_add_left_of_le h))
theorem nc3 {n a b:Nat}(h:1<=a):n+a - 1+b+1=n+a+b:=by
 rw[Nat.add_right_comm,xW (Nat.le_add_left_of_le h)]
theorem nc4 {n a b:Nat}(h:1<=b):n+b - 1+a+1=n+a+b:=(nc3 h).trans (Nat.add_right_comm ..)
theorem nlb {a b:Nat}(h:1<=b):a<=a+b - 1:=Nat.le_sub_of_add_le (qZ h a)
theorem nla {a b:Nat}(h:1<=a):b<=a+b - 1:=wJ b a▸nlb h
theorem nlm {m a b:Nat}(h:1<=a):m+b<=m+a+b - 1:=by
 rw[Nat.add_right_comm];exact nlb h
theorem nmx {x y k:Nat}(h1:x<k)(h2:y<k):max 0 (max x (max y 0))+1<=k :=
 Nat.max_lt.mpr ⟨Nat.zero_lt_of_lt h1,Nat.max_lt.mpr ⟨h1,Nat.max_lt.mpr ⟨h2,Nat.zero_lt_of_lt h1⟩⟩⟩
theorem nmk {x y k:Nat}(h1:x<=k)(h2:y<=k):max x y<=k:=Nat.max_le.mpr ⟨h1,h2⟩
theorem nir {x k m:Int}(h:0<=x/\x<k)(hk:decide (k<=m+1)=true):0<=x/\x<=m:=⟨h.1,Int.le_of_lt_add_one (Int.lt_of_lt_of_le h.2 (of_decide_eq_true hk))⟩
theorem nia {a x k m:Int}(h:0<=x/\x<k)(ha:decide (0<=a)=true)(hk:decide (a+k<=m)=true):0<=a+x/\a+x<=m:=⟨Int.add_nonneg (of_decide_eq_true ha) h.1,Int.le_trans (Int.add_le_add_left (Int.le_of_lt h.2) a) (of_decide_eq_true hk)⟩
theorem nis {a x k:Int}(h:0<=x/\x<k)(ha:decide (k<=a)=true):0<=a - x/\a - x<=a:=⟨Int.sub_nonneg_of_le (Int.le_trans (Int.le_of_lt h.2) (of_decide_eq_true ha)),Int.sub_le_self a h.1⟩
theorem n4s {k:Nat}(h:k<4):k=0\/k=1\/k=2\/k=3:=by
 revert k;decide
theorem n4i {x:Int}(h:0<=x/\x<4):x=0\/x=1\/x=2\/x=3:=by
 obtain ⟨k,rfl⟩:=Z6 h.1
 exact(n4s (u6.mp h.2)).imp (congrArg Nat.cast) (Or.imp (congrArg Nat.cast) (Or.imp (congrArg Nat.cast) (congrArg Nat.cast)))
theorem n2i {x:Int}(h:0<=x/\x<2):x=0\/x=1:=by
 obtain ⟨k,rfl⟩:=Z6 h.1
 exact(Nat.le_one_iff_eq_zero_or_eq_one.mp (uk (u6.mp h.2))).imp (congrArg Nat.cast) (congrArg Nat.cast)
theorem nad {a d r s:Nat}(h:a+(d+(r+1))<s):a+d+1<s:=ql (qZ (qZ (w3 1 r) d) a) h
theorem nmc {x y k:Nat}(h1:x<=k)(h2:y<=k):max 0 (max x (max y 0))+1<=k+1:=nmx (Nat.lt_succ_of_le h1) (Nat.lt_succ_of_le h2)
section
variable {α:Type}{x y:α}{a b l r L:List α}
theorem mh:x∈x::l:=y8
theorem mt (h:x∈l):x∈y::l:=xJ _ h
theorem ml (h:x∈l):x∈l++r:=u7 _ h
theorem mr (h:x∈r):x∈l++r:=List.mem_append_right _ h
theorem mm (e:L=a++x::b):x∈L:=e▸mr mh
theorem mml (e:L=a++x::b)(h:y∈a):y∈L:=e▸ml h
theorem lm (e:L=a++x::b):L.length=a.length+(b.length+1):=e▸zw
theorem lm1 (e:L=a++x::b):a.length+1<=L.length:=(lm e).symm▸qZ (w3 1 _) _
end
set_option backward.match.sparseCases false
open Mini PySem
inductive Sn where
 | sum|mul|pair
 deriving DecidableEq
noncomputable def Sn.str:Sn->Str
 | .sum => "sum" | .mul => "mul" | .pair => "pair"
set_option genCtorIdx false in
inductive Tm where
 | leaf (o:Bool) (n:Int)
 | node (s:Sn) (a b:Tm)
noncomputable def lstr (o:Bool):Str:=if o then "open" else "name"
noncomputable def enc:Tm->D
 | .leaf o n=>.tuple [.str (lstr o),.int n]
 | .node s a b=>.tuple [.str s.str,enc a,enc b]
theorem zf4 {o n}:enc (.leaf o n)=.tuple [.str (lstr o),.int n]:=rfl
theorem yy3 {s a b}:enc (.node s a b)=.tuple [.str s.str,enc a,enc b]:=rfl
noncomputable def most (o:Bool):Int:=if o then 9 else 1000000000
noncomputable def ok:Tm->Prop
 | .leaf o n=>0<=n/\n<=most o
 | .node _ a b=>ok a/\ok b
noncomputable def num:Tm->Nat
 | .leaf _ _=>1
 | .node _ a b=>num a+num b
theorem yb7 {o n}:num (.leaf o n)=1:=rfl
theorem yr6 {s a b}:num (.node s a b)=num a+num b:=rfl
theorem yh9:((("name" : Str))==("open" : Str))=false:=by decide
theorem yu1:((("sum" : Str))==("name" : Str))=false:=by decide
theorem yu0:((("sum" : Str))==("open" : Str))=false:=by decide
theorem yv9:((("sum" : Str))==("pair" : Str))=false:=by decide
theorem yu4:((("mul" : Str))==("name" : Str))=false:=by decide
theorem yu3:((("mul" : Str))==("open" : Str))=false:=by decide
theorem xo1:((("mul" : Str))==("sum" : Str))=false:=by decide
theorem yu2:((("mul" : Str))==("pair" : Str))=false:=by decide
theorem zk8:((("pair" : Str))==("name" : Str))=false:=by decide
noncomputable def zv3:I:=(.cons (.ret (.and (.cons (.isi (.var 0) "int") (.cons (.not (.isi (.var 0) "bool")) (.cons (.cmp2 .LtE .LtE (.cint 0) (.var 0) (.var 1)) .nil))))) .nil)
noncomputable def zr0:I:=(.cons (.iff (.cmp .NotEq (.prim1 .len (.var 0)) (.cint 2)) (.cons (.ret (.cbool false)) .nil) .nil) (.cons (.iff (.cmp .Eq (.idx (.var 0) (.cint 0)) (.cstr "name")) (.cons (.ret (.call "is_whole" (.cons (.idx (.var 0) (.cint 1)) (.cons (.glob "GREATEST") .nil)))) .nil) .nil) (.cons (.ret (.and (.cons (.cmp .Eq (.idx (.var 0) (.cint 0)) (.cstr "open")) (.cons (.call "is_whole" (.cons (.idx (.var 0) (.cint 1)) (.cons (.bin .Sub (.glob "OPENS") (.cint 1)) .nil))) .nil)))) .nil)))
noncomputable def zy7:I:=(.cons (.asg 3 (.pop 1)) (.cons (.iff (.or (.cons (.not (.isi (.var 3) "tuple")) (.cons (.cmp .Eq (.prim1 .len (.var 3)) (.cint 0)) (.cons (.not (.isi (.idx (.var 3) (.cint 0)) "str")) .nil)))) (.cons .rais .nil) .nil) (.cons (.iff (.and (.cons (.cmp .Eq (.prim1 .len (.var 3)) (.cint 3)) (.cons (.or (.cons (.cmp .In (.idx (.var 3) (.cint 0)) (.glob "JOINS")) (.cons (.cmp .Eq (.idx (.var 3) (.cint 0)) (.cstr "pair")) .nil))) .nil))) (.cons (.app 1 (.idx (.var 3) (.cint 1))) (.cons (.app 1 (.idx (.var 3) (.cint 2))) .nil)) (.cons (.iff (.call "is_leaf" (.cons (.var 3) .nil)) (.cons (.asg 2 (.bin .Add (.var 2) (.cint 1))) .nil) (.cons .rais .nil)) .nil)) .nil)))
noncomputable def zj4:I:=(.cons (.asg 1 (.lst (.cons (.var 0) .nil))) (.cons (.asg 2 (.cint 0)) (.cons (.whl (.brw 1) zy7) (.cons (.iff (.cmp .Gt (.var 2) (.glob "LEAVES")) (.cons .rais .nil) .nil) (.cons (.ret (.var 2)) .nil)))))
noncomputable def zx3:I:=(.cons (.iff (.cmp .Eq (.idx (.var 1) (.cint 0)) (.var 0)) (.cons (.ret (.prim1 .list (.slc (.var 1) (.cint 1) .omit))) .nil) .nil) (.cons (.ret (.lst (.cons (.var 1) .nil))) .nil))
noncomputable def zv8:I:=(.cons (.asg 2 (.lst .nil)) (.cons (.for1 3 (.var 1) (.cons (.ext 2 (.call "parts_in" (.cons (.var 0) (.cons (.var 3) .nil)))) .nil)) (.cons (.ret (.prim1 .tuple (.bin .Add (.lst (.cons (.var 0) .nil)) (.prim1 .sorted (.brw 2))))) .nil)))
noncomputable def zj3:I:=(.cons (.iff (.cmp .In (.idx (.var 0) (.cint 0)) (.glob "JOINS")) (.cons (.ret (.call "joined" (.cons (.idx (.var 0) (.cint 0)) (.cons (.lst (.cons (.call "shaped" (.cons (.idx (.var 0) (.cint 1)) .nil)) (.cons (.call "shaped" (.cons (.idx (.var 0) (.cint 2)) .nil)) .nil))) .nil)))) .nil) .nil) (.cons (.iff (.cmp .Eq (.idx (.var 0) (.cint 0)) (.cstr "pair")) (.cons (.ret (.tup (.cons (.cstr "pair") (.cons (.call "shaped" (.cons (.idx (.var 0) (.cint 1)) .nil)) (.cons (.call "shaped" (.cons (.idx (.var 0) (.cint 2)) .nil)) .nil))))) .nil) .nil) (.cons (.ret (.var 0)) .nil)))
noncomputable def zt0:I:=(.cons (.iff (.cmp .Lt (.var 1) (.prim1 .len (.var 0))) (.cons (.ret (.idx (.var 0) (.var 1))) .nil) .nil) (.cons (.ret (.cint 0)) .nil))
variable {Fs:Fns}{fuel:Nat}
noncomputable def glo (x:Str):Option D :=
 if x == "JOINS" then some (.tuple [.str "sum", .str "mul"]) else if x == "LEAVES" then some (.int 40) else if x == "GREATEST" then some (.int 1000000000) else if x == "OPENS" then some (.int 10) else none
theorem xg9:glo "JOINS" = some (.tuple [.str "sum", .str "mul"]):=by rfl
theorem xn1:glo "LEAVES" = some (.int 40):=by rfl
theorem isi_int (d:D):isiD d "int" = some (match d with|.int _=>true|.bool _=>true|_=>false):=by rfl
theorem isi_bool (d:D):isiD d "bool" = some (match d with|.bool _=>true|_=>false):=by rfl
theorem isi_str (d:D):isiD d "str" = some (match d with|.str _=>true|_=>false):=by rfl
theorem isi_tuple (d:D):isiD d "tuple" = some (match d with|.tuple _=>true|_=>false):=by rfl
theorem isi_list (d:D):isiD d "list" = some (match d with|.list _=>true|_=>false):=by rfl
noncomputable def Has (Fs:Fns)(g:Str)(fn:Fn):Prop:=Fs.lookup g=some fn
noncomputable abbrev Ga (Fs:Fns)(fuel n:Nat):Mini.Env:=wy9 (run Fs glo fuel n) glo fuel
theorem zl1 {g:Str}{fn:Fn}{args:List D}{n:Nat}(h:Has Fs g fn)(hl:args.length=fn.params) :
  run Fs glo fuel (n+1) g args=match ex (Ga Fs fuel n) fn.body (args.map (fun d=>some (.val d))++j6 (fn.slots - fn.params) none) with
   | some (.ret d f)=>some (d,f)
   | some (.next _)=>some (.none,false)
   | none=>none:=by
 unfold Has at h
 show ((Fs.lookup g).bind fun fn=>if args.length=fn.params then (ex (Ga Fs fuel n) fn.body (args.map (fun d=>some (.val d))++j6 (fn.slots - fn.params) none)).bind fun o=>some (retO o) else none)=_
 rw[h]
 show (if args.length=fn.params then (ex (Ga Fs fuel n) fn.body (args.map (fun d=>some (.val d))++j6 (fn.slots - fn.params) none)).bind fun o=>some (retO o) else none)=_
 rw[if_pos hl]
 cases ex (Ga Fs fuel n) fn.body (args.map (fun d=>some (.val d))++j6 (fn.slots - fn.params) none) with
 | none=>rfl
 | some o=>cases o<;>rfl
theorem zq4 (i:Int):okd (.int i)=true:=by rfl
theorem zs2:okd (.str "name")=true:=by decide +kernel
theorem zp0:okd (.str "open")=true:=by decide +kernel
theorem ym7:okd (.str "sum")=true:=by decide +kernel
theorem ym8:okd (.str "mul")=true:=by decide +kernel
theorem zq9:okd (.str "pair")=true:=by decide +kernel
theorem yy9 (o:Bool):okd (.str (lstr o))=true:=by cases o<;>decide +kernel
theorem zu8 (s:Sn):okd (.str s.str)=true:=by cases s<;>decide +kernel
theorem ys0 (a b:Int):z7 (.int a) (.int b)=(a==b):=rfl
theorem zu0 (a b:Str):z7 (.str a) (.str b)=(a==b):=rfl
theorem zz3 {g:Str}{fn:Fn}{args:List D}{n:Nat}{d:D}{f:Bool}(h:Has Fs g fn)(hl:args.length=fn.params)(e:ex (Ga Fs fuel n) fn.body (args.map (fun d=>some (.val d))++j6 (fn.slots - fn.params) none)=some (.ret d f)) :
  run Fs glo fuel (n+1) g args=some (d,f):=by rw[zl1 h hl,e]
theorem zz0 {Γ:Mini.Env}{a b:I}{σ σ':Mini.Sg}(h:ex Γ a σ=some (.next σ')):ex Γ (.cons a b) σ=ex Γ b σ':=by rw[zz7,h];rfl
theorem zz4 {Γ:Mini.Env}{a b:I}{σ:Mini.Sg}{d:D}{f:Bool}(h:ex Γ a σ=some (.ret d f)):ex Γ (.cons a b) σ=some (.ret d f):=by rw[zz7,h];rfl
section
variable {Γ:Mini.Env}{a b c z:I}{σ σ':Mini.Sg}{o:Option Out}{L:List D}{k:Nat}{ks:List Nat}
theorem xn (h:ex Γ a σ=some (.next σ'))(e:ex Γ b σ'=o):ex Γ (.cons a b) σ=o:=(zz0 h).trans e
theorem xw (h:srcE (ev Γ a) σ=some (L,σ'))(e:forN (zp3 k) (ex Γ b) L σ'=o):ex Γ (.for1 k a b) σ=o:=by rw[zy0,h];exact e
theorem xws (h:srcE (ev Γ a) σ=some (L,σ'))(e:forN (zb9 ks) (ex Γ b) L σ'=o):ex Γ (.fors ks a b) σ=o:=by rw[zm1,h];exact e
theorem xt (h:uno c (ev Γ c) σ=some (.bool true,σ'))(e:ex Γ a σ'=o):ex Γ (.iff c a z) σ=o:=by rw[zz8,h];exact e
theorem xf (h:uno c (ev Γ c) σ=some (.bool false,σ'))(e:ex Γ z σ'=o):ex Γ (.iff c a z) σ=o:=by rw[zz8,h];exact e
theorem xr {d:D}{f:Bool}(h:ev Γ a σ=some (d,f,σ')):ex Γ (.cons (.ret a) b) σ=some (.ret d f):=zz4 (by rw[zj5,h];rfl)
theorem yt (h:uno c (ev Γ c) σ=some (.bool true,σ))(e:ex Γ a σ=o):ex Γ (.iff c a z) σ=o:=xt h e
theorem yf (h:uno c (ev Γ c) σ=some (.bool false,σ))(e:ex Γ z σ=o):ex Γ (.iff c a z) σ=o:=xf h e
theorem vc {g:Str}{as:List D}{d:D}{f:Bool}(h:evs Γ a σ=some (as,σ'))(e:Γ.call g as=some (d,f)):ev Γ (.call g a) σ=some (d,f,σ'):=by rw[xm0,h];exact congrArg (Option.bind · _) e
theorem es {d:D}{f:Bool}{as:List D}{σ2:Mini.Sg}(h:ev Γ a σ=some (d,f,σ2))(e:evs Γ b σ2=some (as,σ')):evs Γ (.cons a b) σ=some (d::as,σ'):=by rw[xy7,h];exact congrArg (Option.bind · _) e
theorem vt {as:List D}(h:evs Γ a σ=some (as,σ'))(e:decide (as.length<=size)=true):ev Γ (.tup a) σ=some (.tuple as,false,σ'):=by rw[xe5,h];exact congrArg (Option.bind · _) (if_pos (of_decide_eq_true e))
theorem vl2 {as:List D}(h:evs Γ a σ=some (as,σ'))(e:decide (as.length<=size)=true):ev Γ (.lst a) σ=some (.list as,true,σ'):=by rw[xe6,h];exact congrArg (Option.bind · _) (if_pos (of_decide_eq_true e))
theorem va2 {d:D}{f g:Bool}(h:ev Γ a σ=some (.bool true,f,σ))(e:ev Γ b σ=some (d,g,σ')):ev Γ (.and (.cons a (.cons b .nil))) σ=some (d,false,σ'):=by rw[yf4,zd6,h];show (yy2 Γ (.cons b .nil) σ).bind _=_;rw[yl7,e];rfl
theorem uand {p q f g:Bool}(h:ev Γ a σ=some (.bool p,f,σ))(e:ev Γ b σ=some (.bool q,g,σ)):uno (.and (.cons a (.cons b .nil))) (ev Γ (.and (.cons a (.cons b .nil)))) σ=some (.bool (p&&q),σ):=by
 show (((ev Γ (.and (.cons a (.cons b .nil))) σ).bind _).bind _)=_
 cases p with
 | true=>rw[va2 h e];rfl
 | false=>rw[yf4,zd6,h];rfl
end
theorem za8 (h:Has Fs "is_whole" ⟨2,2,zv3⟩)(n:Nat){k m:Int}(h0:0<=k)(h1:k<=m):run Fs glo fuel (n+1) "is_whole" [.int k,.int m]=some (.bool true,false) :=
 zz3 h rfl (by simp[zv3,xn8,zz7,c_le,isi_int,isi_bool,h0,h1])
theorem yc3 (h1:Has Fs "is_whole" ⟨2,2,zv3⟩)(h2:Has Fs "is_leaf" ⟨1,1,zr0⟩)(n:Nat){o:Bool}{k:Int}(hk:ok (.leaf o k)) :
  run Fs glo fuel (n+2) "is_leaf" [enc (.leaf o k)]=some (.bool true,false):=by
 refine zz3 h2 rfl ?_
 cases o with
 | true=>exact xn (yf (by kernel_rfl) rfl) (xn (yf (by kernel_rfl) rfl) (xr (va2 (σ':=[some (.val (enc (.leaf true k)))]) (f:=false) (by kernel_rfl) (vc rfl (za8 h1 n hk.1 (m:=9) hk.2)))))
 | false=>exact xn (yf (by kernel_rfl) rfl) (zz4 (yt (by kernel_rfl) (xr (vc rfl (za8 h1 n hk.1 (m:=1000000000) hk.2)))))
end Pl
end
section
namespace Pl
open Mini PySem
variable {Fs:Fns}{fuel:Nat}
noncomputable def nds:Tm->Nat
 | .leaf _ _=>1
 | .node _ a b=>1+nds a+nds b
theorem we6 {o n}:nds (.leaf o n)=1:=rfl
theorem wy8 {s a b}:nds (.node s a b)=1+nds a+nds b:=rfl
theorem xi8 (t:Tm):nds t+1=2*num t:=by
 induction t with
 | leaf _ _=>rfl
 | node _ a b ha hb=>simp only[wy8,yr6];rw[Zy,<- ha,<- hb,wJ 1,x0]
theorem vy1 (t:Tm):1<=nds t:=by cases t<;>simp only[we6,wy8]<;>lia
theorem wp0 (s:Sn):((z7 (.str "sum") (.str s.str)||z7 (.str "mul") (.str s.str))=true/\s≠.pair)\/((z7 (.str "sum") (.str s.str)||z7 (.str "mul") (.str s.str))=false/\s=.pair):=by
 cases s
 ·left;decide
 ·left;decide
 ·right;decide
theorem zc2 {test:Mini.Sg->Option (D×Mini.Sg)}{body:Mini.Sg->Option Out}{n:Nat}{σ σ' σ'':Mini.Sg}{d:D}(h1:test σ=some (d,σ'))(h2:zy6 d=some true)(h3:body σ'=some (.next σ'')):zs0 test body (n+1) σ=zs0 test body n σ'':=by
 show ((test σ).bind fun p=>(zy6 p.1).bind fun b=>bif b then (body p.2).bind (zg3 (zs0 test body n)) else some (.next p.2))=_
 rw[h1]
 show ((zy6 d).bind fun b=>bif b then (body σ').bind (zg3 (zs0 test body n)) else some (.next σ'))=_
 rw[h2]
 show (body σ').bind (zg3 (zs0 test body n))=_
 rw[h3];rfl
theorem ye9 {test:Mini.Sg->Option (D×Mini.Sg)}{body:Mini.Sg->Option Out}{n:Nat}{σ σ':Mini.Sg}{d:D}(h1:test σ=some (d,σ'))(h2:zy6 d=some false):zs0 test body (n+1) σ=some (.next σ'):=by
 show ((test σ).bind fun p=>(zy6 p.1).bind fun b=>bif b then (body p.2).bind (zg3 (zs0 test body n)) else some (.next p.2))=_
 rw[h1]
 show ((zy6 d).bind fun b=>bif b then (body σ').bind (zg3 (zs0 test body n)) else some (.next σ'))=_
 rw[h2];rfl
theorem zi8 {bnd:D->Mini.Sg->Option Mini.Sg}{body:Mini.Sg->Option Out}{d:D}{r:List D}{σ σ1 σ2:Mini.Sg}(h1:bnd d σ=some σ1)(h2:body σ1=some (.next σ2)):forN bnd body (d::r) σ=forN bnd body r σ2:=by
 show ((bnd d σ).bind fun σ'=>(body σ').bind (zg3 (forN bnd body r)))=_
 rw[h1]
 show (body σ1).bind (zg3 (forN bnd body r))=_
 rw[h2];rfl
section
variable {Γ:Mini.Env}{σ:Mini.Sg}{k:Nat}{c x:Str}{r:List D}{b:Bool}
theorem ceq0 (hl:useK σ k (sq σ k)=some (.tuple (.str x::r),false,σ))(h:okd (.str x)=true)(hc:okd (.str c)=true)(e:(x==c)=b):uno (.cmp .Eq (.idx (.var k) (.cint 0)) (.cstr c)) (ev Γ (.cmp .Eq (.idx (.var k) (.cint 0)) (.cstr c))) σ=some (.bool b,σ):=by
 simp[c_eq,eqD,hl,↓zp1,h,hc,zu0,e]
theorem cne0 (hl:useK σ k (sq σ k)=some (.tuple (.str x::r),false,σ))(h:okd (.str x)=true)(hc:okd (.str c)=true)(e:(x==c)=b):uno (.cmp .NotEq (.idx (.var k) (.cint 0)) (.cstr c)) (ev Γ (.cmp .NotEq (.idx (.var k) (.cint 0)) (.cstr c))) σ=some (.bool !b,σ):=by
 simp[c_ne,eqD,hl,↓zp1,h,hc,zu0,e]
theorem xk1 (s:Sn):(s.str == "open")=false:=by cases s<;>decide
theorem yd6 (s:Sn):(s.str == "name")=false:=by cases s<;>decide
end
section
variable {Γ:Mini.Env}{v0 v2 x:Option AV}{l:List D}{e:D}
theorem wt9:ex Γ (.asg 3 (.pop 1)) [v0,some (.own (.list (l++[e]))),v2,x]=some (.next [v0,some (.own (.list l)),v2,some (.val e)]):=by simp
theorem wd0 {s a b:D}(hz:l.length+1<size):ex Γ (.app 1 (.idx (.var 3) (.cint 1))) [v0,some (.own (.list l)),v2,some (.val (.tuple [s,a,b]))]=some (.next [v0,some (.own (.list (l++[a]))),v2,some (.val (.tuple [s,a,b]))]):=by
 simp[↓zb4,hz]
theorem wm5 {s a b:D}(hz:l.length+1<size):ex Γ (.app 1 (.idx (.var 3) (.cint 2))) [v0,some (.own (.list l)),v2,some (.val (.tuple [s,a,b]))]=some (.next [v0,some (.own (.list (l++[b]))),v2,some (.val (.tuple [s,a,b]))]):=by
 simp[↓xg2,hz]
theorem xz1 (h1:Has Fs "is_whole" ⟨2,2,zv3⟩)(h2:Has Fs "is_leaf" ⟨1,1,zr0⟩)(n:Nat)(l:List D)(o:Bool)(k:Int)(c:Int)(x:Option AV)(hk:ok (.leaf o k)) :
  ex (Ga Fs fuel (n+2)) zy7 [v0,some (.own (.list (l++[enc (.leaf o k)]))),some (.val (.int c)),x]=some (.next [v0,some (.own (.list l)),some (.val (.int (c+1))),some (.val (enc (.leaf o k)))]) :=
 xn wt9 (xn (yf (by kernel_rfl) rfl) (xn (yf (by kernel_rfl) (xn (xt (σ':=[v0,some (.own (.list l)),some (.val (.int c)),some (.val (enc (.leaf o k)))]) (by simp[zf4,show run Fs glo fuel (n+2) "is_leaf" [.tuple [.str (lstr o),.int k]]=_ from yc3 (fuel:=fuel) h1 h2 n hk]) (xn rfl rfl)) rfl)) rfl))
end
theorem ww1 {s:Sn}(h:s≠.pair):inD (.str s.str) (.tuple [.str "sum", .str "mul"])=some true:=by
 have ho:okd (.str s.str)=true:=zu8 s
 rcases wp0 s with q|q
 ·have e:([qW.str "sum", .str "mul"].any fun y=>z7 y (.str s.str))=true:=by simpa using q.1
  simp only[zin2,ho,QV,List.all_nil,ym7,ym8,Bool.and_self,if_true,e]
 ·exact absurd q.2 h
theorem xz0 {v0:Option AV}(n:Nat)(l:List D)(s:Sn)(a b:Tm)(c:Int)(x:Option AV)(hz:l.length+2<size) :
  ex (Ga Fs fuel (n+2)) zy7 [v0,some (.own (.list (l++[enc (.node s a b)]))),some (.val (.int c)),x]=some (.next [v0,some (.own (.list (l++[enc a,enc b]))),some (.val (.int c)),some (.val (enc (.node s a b)))]):=by
 have e:l++[enc a,enc b]=l++[enc a]++[enc b]:=by rw[w6];rfl
 rw[e]
 exact xn wt9 (xn (yf (by kernel_rfl) rfl) (xn (xt (σ':=[v0,some (.own (.list l)),some (.val (.int c)),some (.val (enc (.node s a b)))]) (by cases s<;>kernel_rfl) (xn (wd0 (j9 hz)) (xn (wm5 (by rw[zw];exact hz)) rfl))) rfl))
theorem wt8 {f n:Nat}{v0 v2 x:Option AV}{l:List D}{e:D}{σ':Mini.Sg}(h:ex (Ga Fs fuel n) zy7 [v0,some (.own (.list (l++[e]))),v2,x]=some (.next σ')) :
  zs0 (uno (.brw 1) (ev (Ga Fs fuel n) (.brw 1))) (ex (Ga Fs fuel n) zy7) (f+1) [v0,some (.own (.list (l++[e]))),v2,x]=zs0 (uno (.brw 1) (ev (Ga Fs fuel n) (.brw 1))) (ex (Ga Fs fuel n) zy7) f σ' :=
 zc2 (d:=.list (l++[e])) rfl (by simp[ztr2]) h
theorem zc6 {t:Tm}{r:List Tm}:(t::r).reverse.map enc=r.reverse.map enc++[enc t]:=by rw[List.reverse_cons,Zz];rfl
theorem xv2 {a b:Tm}{r:List Tm}:(b::a::r).reverse.map enc=r.reverse.map enc++[enc a,enc b]:=by rw[zc6,zc6,w6];rfl
theorem sum_cons {g:Tm->Nat}{t:Tm}{r:List Tm}:((t::r).map g).sum=g t+(r.map g).sum:=rfl
theorem zf0 (h1:Has Fs "is_whole" ⟨2,2,zv3⟩)(h2:Has Fs "is_leaf" ⟨1,1,zr0⟩)(n:Nat)(v0:Option AV):∀(f:Nat)(ts:List Tm)(c:Int)(x:Option AV),(∀ t∈ts,ok t)->(ts.map nds).sum<f->ts.length+(ts.map nds).sum<=10000 ->
  ∃ y,zs0 (uno (.brw 1) (ev (Ga Fs fuel (n+2)) (.brw 1))) (ex (Ga Fs fuel (n+2)) zy7) f [v0,some (.own (.list (ts.reverse.map enc))),some (.val (.int c)),x] =
   some (.next [v0,some (.own (.list [])),some (.val (.int (c+(ts.map num).sum))),y])
 | 0,_,_,_,_,h,_=>absurd h (Nat.not_lt_zero _)
 | f+1,[],c,x,_,_,_=>⟨x,by rw[List.map_nil,List.sum_nil,Int.natCast_zero,Int.add_zero];rfl⟩
 | f+1,.leaf o k::r,c,x,hok,hf,hz=>by
  rw[sum_cons]at hf hz |-
  obtain ⟨y,ih⟩:=zf0 h1 h2 n v0 f r (c+1) (some (.val (enc (.leaf o k)))) (fun t ht=>hok t (mt ht)) (Nat.lt_of_add_lt_add_left (n:=1) (wJ 1 f▸hf)) (qt (qa (qk ..) (w3 ..)) hz)
  refine⟨y,?_⟩
  rw[zc6,wt8 (xz1 h1 h2 n _ o k c x (hok _ mh)),ih,Int.natCast_add,Int.add_assoc];rfl
 | f+1,.node s a b::r,c,x,hok,hf,hz=>by
  rw[sum_cons,wy8]at hf hz
  have hok':=hok _ mh
  obtain ⟨y,ih⟩:=zf0 h1 h2 n v0 f (b::a::r) c (some (.val (enc (.node s a b)))) (fun t ht=>(zQ.mp ht).elim (fun e=>e▸hok'.2) fun ht=>(zQ.mp ht).elim (fun e=>e▸hok'.1) fun ht=>hok t (mt ht)) (by rw[sum_cons,sum_cons];lia) (by rw[sum_cons,sum_cons];rw[xV]at hz |-;rw[xV];lia)
  refine⟨y,?_⟩
  rw[xv2]at ih
  rw[zc6,wt8 (xz0 n _ s a b c x (by rw[xj,List.length_reverse];rw[xV]at hz;unfold size;lia)),ih,sum_cons,sum_cons,sum_cons,yr6,Nat.add_left_comm,<- x0]
theorem yq8 (h1:Has Fs "is_whole" ⟨2,2,zv3⟩)(h2:Has Fs "is_leaf" ⟨1,1,zr0⟩)(h3:Has Fs "leaves" ⟨1,4,zj4⟩)(n:Nat){t:Tm}(hk:ok t)(hn:num t<=40)(hf:100<=fuel) :
  run Fs glo fuel (n+3) "leaves" [enc t]=some (.int (num t),false):=by
 rw[zl1 h3 rfl]
 have hnd:=xi8 t
 obtain ⟨y,hl⟩:=zf0 (fuel:=fuel) h1 h2 n (some (.val (enc t))) fuel [t] 0 none (fun t' ht=>xq.mp ht▸hk) (by simp;exact vZ (qt (xx hnd) (jZ 2 hn)) (qt (by decide) hf)) (by simp;lia)
 have hgt:¬ ((40:Int)<(num t:Int)):=by lia
 have hz:(1:Nat)<=size:=by unfold size;decide
 simp only[x6,List.map_nil,List.sum_cons,List.sum_nil,List.reverse_cons,List.reverse_nil,List.nil_append,ZV,Int.zero_add]at hl
 have hl':ex (Ga Fs fuel (n+2)) (.whl (.brw 1) zy7) [some (.val (enc t)),some (.own (.list [enc t])),some (.val (.int 0)),none]=some (.next [some (.val (enc t)),some (.own (.list [])),some (.val (.int (num t))),y]):=by
  rw[eq_ex_whl];exact hl
 have e:zj4=.cons (.asg 1 (.lst (.cons (.var 0) .nil))) (.cons (.asg 2 (.cint 0)) (.cons (.whl (.brw 1) zy7) (.cons (.iff (.cmp .Gt (.var 2) (.glob "LEAVES")) (.cons .rais .nil) .nil) (.cons (.ret (.var 2)) .nil)))):=rfl
 rw[e]
 show (match ex (Ga Fs fuel (n+2)) (.cons _ _) [some (.val (enc t)),none,none,none] with|some (.ret d f)=>some (d,f)|some (.next _)=>some (.none,false)|none=>none)=_
 rw[zz0 (σ':=[some (.val (enc t)),some (.own (.list [enc t])),none,none]) (rfl),
  zz0 (σ':=[some (.val (enc t)),some (.own (.list [enc t])),some (.val (.int 0)),none]) (by kernel_rfl),
  zz0 hl',zz0 (σ':=[some (.val (enc t)),some (.own (.list [])),some (.val (.int (num t))),y]) (by simp[c_gt,xn1,hgt]),
  zz4 (d:=.int (num t)) (f:=false) (by kernel_rfl)]
end Pl
end
section
namespace Pl
open Mini PySem
theorem zh2:vy []=0:=rfl
theorem zm3 {x r}:vy (x::r)=max (qW.depth x) (vy r):=rfl
theorem ys4 {l}:qW.depth (.tuple l)=vy l+1:=rfl
theorem wj9 {l}:qW.depth (.list l)=vy l+1:=rfl
theorem xd6 {i}:qW.depth (.int i)=0:=rfl
theorem yl8 {s}:qW.depth (.str s)=0:=rfl
theorem zx5 {l:List D}(h:∀ x∈l,zz9 x=true):zt6 l=true:=by
 induction l with
 | nil=>rfl
 | cons x r ih=>simp[zl3,h x mh,ih fun y hy=>h y (mt hy)]
theorem zo4 {l:List D}(h:∀ x∈l,vK x=true):vz l=true:=by
 induction l with
 | nil=>rfl
 | cons x r ih=>simp[vz,h x mh,ih fun y hy=>h y (mt hy)]
theorem ys6 {x:Str}(h:okd (.str x)=true):vK (.str x)=true:=by
 simp only[okd,zj]at h;exact h.1
theorem zt5 {k:Nat}{l:List D}(h:∀ x∈l,qW.depth x<=k):vy l<=k:=by
 induction l with
 | nil=>simp[zh2]
 | cons x r ih=>simp only[zm3];have:=h x mh;have:=ih fun y hy=>h y (mt hy);exact nmk ‹_› ‹_›
theorem zn7 {s s':Sn}(h:s.str=s'.str):s=s':=by
 cases s<;>cases s'<;>first|rfl|(exact absurd h (by decide))
theorem zw1 (o:Bool)(s:Sn):lstr o≠s.str:=by
 cases o<;>cases s<;>decide
theorem zo8 (o:Bool):lstr o ≠ "pair" := zw1 o .pair
theorem zs6 {s:Sn}(h:s≠.pair):s.str ≠ "pair" := fun e=>h (zn7 (s':=.pair) e)
theorem zx2 (t:Tm):1<=num t:=by induction t<;>simp only[yb7,yr6]<;>lia
noncomputable def parts (s:Sn)(d:D):List D:=match d with
 | .tuple (.str x::r)=>if x==s.str then r else [d]
 | _=>[d]
theorem zg7 {s x r}:parts s (.tuple (.str x::r))=if x==s.str then r else [.tuple (.str x::r)]:=rfl
noncomputable def shp:Tm->D
 | .leaf o n=>enc (.leaf o n)
 | .node s a b=>if s=.pair then .tuple [.str "pair", shp a,shp b] else .tuple (.str s.str::zx8 (parts s (shp a)++parts s (shp b)))
theorem xa0 {o n}:shp (.leaf o n)=enc (.leaf o n):=rfl
theorem wa2 {s a b}:shp (.node s a b)=if s=.pair then .tuple [.str "pair", shp a,shp b] else .tuple (.str s.str::zx8 (parts s (shp a)++parts s (shp b))):=rfl
inductive Shp:Nat->D->Prop
 | leaf (k:Nat) (o:Bool) (n:Int):Shp (k+1) (.tuple [.str (lstr o),.int n])
 | pair {k:Nat} {a b:D}:Shp k a->Shp k b->Shp (k+1) (.tuple [.str "pair", a,b])
 | join {k:Nat} {s:Sn} {l:List D}:s≠.pair->l.length<=k+1->(∀ x∈l,Shp k x)->Shp (k+1) (.tuple (.str s.str::l))
theorem Shp.mono {k:Nat}{d:D}(h:Shp k d):∀{j:Nat},k<=j->Shp j d:=by
 induction h with
 | leaf k o n=>intro j hj;obtain ⟨j,rfl⟩:∃ i,j=i+1:=⟨j - 1,by exact(xW (qr hj)).symm⟩;exact .leaf j o n
 | pair _ _ iha ihb=>intro j hj;obtain ⟨j,rfl⟩:∃ i,j=i+1:=⟨j - 1,by exact(xW (qr hj)).symm⟩;exact .pair (iha (by lia)) (ihb (by lia))
 | join hs hl _ ih=>intro j hj;obtain ⟨j,rfl⟩:∃ i,j=i+1:=⟨j - 1,by exact(xW (qr hj)).symm⟩;exact .join hs (by lia) fun x hx=>ih x hx (by lia)
theorem Shp.plain {k:Nat}{d:D}(h:Shp k d):zz9 d=true:=by
 induction h with
 | leaf k o n=>rfl
 | pair _ _ iha ihb=>simp[xu5,zr5,wz7,zl3,iha,ihb]
 | join hs _ _ ih=>simp[xu5,zr5,zl3,zx5 ih]
theorem Shp.lay {k:Nat}{d:D}(h:Shp k d):d.canLay0=true:=by
 induction h with
 | leaf k o n=>simp[vK,vz];have:=ys6 (yy9 o);simpa[vK] using this
 | pair _ _ iha ihb=>simp[vK,vz,iha,ihb];have:=ys6 zq9;simpa[vK] using this
 | @join k s l hs _ _ ih=>simp[vK,vz,zo4 ih];have:=ys6 (zu8 s);simpa[vK] using this
theorem Shp.dep {k:Nat}{d:D}(h:Shp k d):d.depth<=k:=by
 induction h with
 | leaf k o n=>simp[ys4,xd6,yl8,zh2,zm3]
 | pair _ _ iha ihb=>simp only[ys4,yl8,zh2,zm3];exact nmc iha ihb
 | @join k s l hs _ _ ih=>have:=zt5 ih;simp only[ys4,yl8,zm3];exact xz (nmk (vq _) this)
theorem Shp.okd {k:Nat}{d:D}(h:Shp k d)(hk:k<=1000):okd d=true:=by
 have:=h.dep
 simp only[Mini.okd,h.lay,Bool.true_and,decide_eq_true_eq];exact qt this hk
theorem ya8 (x y:Str)(l r:List D):ltL (.str x::l) (.str y::r)=if x=y then ltL l r else some (decide (x.cps.toList<y.cps.toList)):=by
 simp only[xo4,zu0,beq_iff_eq,yu6]
theorem ze9:∀{l r:List D},(∀ x∈l,∀ y∈r,(ltD x y).isSome=true)->(ltL l r).isSome=true
 | [],[],_=>rfl
 | [],_::_,_=>rfl
 | _::_,[],_=>rfl
 | x::l,y::r,h=>by
  simp only[xo4]
  split
  ·exact ze9 fun a ha b hb=>h a (mt ha) b (mt hb)
  ·exact h x mh y mh
set_option tactic.hygienic true in
theorem Shp.lt_some {k:Nat}{a:D}(h:Shp k a):∀{j:Nat}{b:D},Shp j b->(ltD a b).isSome=true:=by
 induction h with
 | leaf k o n =>
  intro j b hb
  cases hb<;>simp only[zb0,ya8]<;>split<;>first|rfl|skip
  ·exact ze9 (by simp[zk9])
  ·rename_i e;exact absurd e (zo8 _)
  ·rename_i e;exact absurd e (zw1 _ _)
 | pair _ _ iha ihb =>
  intro j b hb
  cases hb<;>simp only[zb0,ya8]<;>split<;>first|rfl|skip
  ·rename_i e;exact absurd e.symm (zo8 _)
  ·rename_i h1 h2 _
   exact ze9 (by simp[iha h1,iha h2,ihb h1,ihb h2])
  ·rename_i hs _ _ e;exact absurd e.symm (zs6 hs)
 | join hs _ _ ih =>
  intro j b hb
  cases hb<;>simp only[zb0,ya8]<;>split<;>first|rfl|skip
  ·rename_i e;exact absurd e.symm (zw1 _ _)
  ·rename_i e;exact absurd e (zs6 hs)
  ·rename_i hl _
   exact ze9 fun x hx y hy=>ih x hx (hl y hy)
theorem Shp.tup {k:Nat}{d:D}(h:Shp k d):za4 d=true:=by cases h<;>rfl
theorem wi6 {k:Nat}{l:List D}(h:∀ x∈l,Shp k x):Cmp l:=⟨fun a ha=>(h a ha).plain,fun a ha b hb=>(h a ha).lt_some (h b hb)⟩
theorem za7 {k:Nat}{l:List D}(h:∀ x∈l,Shp k x)(hk:k<=1000):sortable l=true:=by
 simp only[sortable,zj,x8,Qk]
 exact⟨⟨⟨fun x hx=>(h x hx).okd hk,fun x hx=>(h x hx).plain⟩,.inl (.inr fun x hx=>(h x hx).tup)⟩,fun a ha b hb=>(h a ha).lt_some (h b hb)⟩
theorem yj7 {k:Nat}{l:List D}(h:∀ x∈l,Shp k x)(hk:k<=1000)(hl:l.length<64):zk2 l=some (.list (zx8 l),true):=by
 simp[zk2,za7 h hk,yb9 hl]
theorem zs7 (s:Sn)(o:Bool)(n:Int):parts s (.tuple [.str (lstr o),.int n])=[.tuple [.str (lstr o),.int n]]:=by
 simp[zg7,zw1]
theorem zn8 {s:Sn}(h:s≠.pair)(a b:D):parts s (.tuple [.str "pair", a,b])=[.tuple [.str "pair", a,b]]:=by
 simp[zg7,(zs6 h).symm]
theorem zu3 (s:Sn)(l:List D):parts s (.tuple (.str s.str::l))=l:=by simp[zg7]
theorem zp7 {s s':Sn}(h:s'≠s)(l:List D):parts s (.tuple (.str s'.str::l))=[.tuple (.str s'.str::l)]:=by
 simp[zg7,show ¬ s'.str=s.str from fun e=>h (zn7 e)]
theorem ze2 {k:Nat}{s:Sn}(hs:s≠.pair){d:D}(h:Shp k d):∀ x∈parts s d,Shp k x:=by
 cases h with
 | leaf k o n=>intro x hx;rw[zs7]at hx;simp at hx;subst hx;exact .leaf _ _ _
 | pair ha hb=>intro x hx;rw[zn8 hs]at hx;simp at hx;subst hx;exact .pair ha hb
 | @join k s' l hs' hll hl =>
  intro x hx
  by_cases e:s'=s
  ·subst e;rw[zu3]at hx;exact(hl x hx).mono (by lia)
  ·rw[zp7 e]at hx;simp at hx;subst hx;exact .join hs' hll hl
theorem zi2 (a b:Tm):shp (.node .pair a b)=.tuple [.str "pair", shp a,shp b]:=by kernel_rfl
theorem zl0 {s:Sn}(hs:s≠.pair)(a b:Tm):shp (.node s a b)=.tuple (.str s.str::zx8 (parts s (shp a)++parts s (shp b))):=by simp[wa2,hs]
theorem zn9 {s:Sn}(hs:s≠.pair)(t:Tm):(parts s (shp t)).length<=num t:=by
 induction t with
 | leaf o n=>rw[show shp (.leaf o n)=.tuple [.str (lstr o),.int n] from rfl,zs7];simp[yb7]
 | node s' a b iha ihb =>
  have ha:=zx2 (.node s' a b)
  by_cases hp:s'=.pair
  ·subst hp;rw[zi2,zn8 hs];exact ha
  ·rw[zl0 hp]
   by_cases e:s'=s
   ·subst e;rw[zu3,(zz1 _).length_eq,zw];simp only[yr6];exact qa iha ihb
   ·rw[zp7 e];exact ha
theorem xw8 (t:Tm):Shp (num t) (shp t):=by
 induction t with
 | leaf o n=>exact .leaf 0 o n
 | node s a b iha ihb =>
  have ha:=zx2 a
  have hb:=zx2 b
  have iha':Shp (num a+num b - 1) (shp a):=iha.mono (by exact nlb hb)
  have ihb':Shp (num a+num b - 1) (shp b):=ihb.mono (by exact nla ha)
  have e:num (.node s a b)=num a+num b - 1+1:=by simp only[yr6];exact(nc1 ha).symm
  rw[e]
  by_cases hs:s=.pair
  ·subst hs;rw[zi2];exact .pair iha' ihb'
  ·rw[zl0 hs]
   have pa:=zn9 hs a
   have pb:=zn9 hs b
   refine .join hs (by rw[(zz1 _).length_eq,zw];exact qt (qa pa pb) (xx (nc1 ha).symm)) fun x hx=>?_
   have hx':=(zz1 _).mem_iff.mp hx
   rcases z6.mp hx' with q|q
   ·exact ze2 hs iha' x q
   ·exact ze2 hs ihb' x q
noncomputable def wq4 (s:Sn)(a b:Tm):List D:=parts s (shp a)++parts s (shp b)
theorem xl4 {s:Sn}(hs:s≠.pair)(a b:Tm):(wq4 s a b).length<=num a+num b:=by
 have:=zn9 hs a
 have:=zn9 hs b
 simp only[wq4,zw];exact qa ‹_› this
variable {Fs:Fns}{fuel:Nat}
theorem Shp.head {k:Nat}{d:D}(h:Shp k d):∃ x r,d=.tuple (.str x::r)/\Mini.okd (.str x)=true:=by
 cases h with
 | leaf k o n=>exact⟨_,_,rfl,yy9 o⟩
 | pair _ _=>exact⟨_,_,rfl,zq9⟩
 | join _ _ _=>exact⟨_,_,rfl,zu8 _⟩
theorem zo7 (h:Has Fs "parts_in" ⟨2,2,zx3⟩)(n:Nat)(s:Sn){k:Nat}{d:D}(hd:Shp k d) :
  run Fs glo fuel (n+1) "parts_in" [.str s.str,d]=some (.list (parts s d),true):=by
 rw[zl1 h rfl]
 (refine elEEA (hd.head) fun x r e_2 hx=>?_;subst e_2)
 have hr:(1:Int)<=(r.length:Int)+1:=by lia
 by_cases e:x=s.str
 ·subst e
  simp[zx3,zg7,zv0,zz7,c_eq,eqD,xj7,zse2,↓zp1,bE_o,bE_c,zsl2,bD_,orS,zu8,zu0,hr]
 ·have e':(x==s.str)=false:=by simpa using e
  simp[zx3,zg7,zz7,c_eq,eqD,↓mkL1,↓zp1,zu8,zu0,hx,e']
theorem xp3 (h:Has Fs "parts_in" ⟨2,2,zx3⟩)(h2:Has Fs "joined" ⟨2,4,zv8⟩)(n:Nat)(s:Sn)(hs:s≠.pair){k:Nat}{a b:D}(ha:Shp k a)(hb:Shp k b)(hk:k<=1000)(hl:(parts s a++parts s b).length<64) :
  run Fs glo fuel (n+2) "joined" [.str s.str,.list [a,b]]=some (.tuple (.str s.str::zx8 (parts s a++parts s b)),false):=by
 rw[zl1 h2 rfl]
 have ea:=zo7 (fuel:=fuel) h n s ha
 have eb:=zo7 (fuel:=fuel) h n s hb
 have hsz:∀ m,m<64->m<size:=fun m hm=>by unfold size;exact Z8 hm (by decide)
 have hla:(parts s a).length<size:=hsz _ (by simp at hl;exact qg hl)
 have hlb:(parts s a).length+(parts s b).length<size:=hsz _ (by simpa using hl)
 have hso:zk2 (parts s a++parts s b)=some (.list (zx8 (parts s a++parts s b)),true):=yj7 (k:=k) (fun x hx=>by
  rcases z6.mp hx with q|q
  ·exact ze2 hs ha x q
  ·exact ze2 hs hb x q) hk hl
 have hlc:(zx8 (parts s a++parts s b)).length+1<=size:=by rw[(zz1 _).length_eq];unfold size;exact qy hl rfl
 have hlc':1+(zx8 (parts s a++parts s b)).length<=size:=by lia
 simp[zv8,wc7,xf1,zp3,zz7,b_ad,zad1,↓mkL0,↓mkL1,mkL_,wz9,xp9,zso1,zse1,zex1,zit1,xp4,ea,eb,hla,hlb,hso,hlc]
theorem zi3 (h:Has Fs "parts_in" ⟨2,2,zx3⟩)(h2:Has Fs "joined" ⟨2,4,zv8⟩)(h3:Has Fs "shaped" ⟨1,1,zj3⟩) :
  ∀(t:Tm)(n:Nat),num t<=40->run Fs glo fuel (n+num t+2) "shaped" [enc t]=some (shp t,false)
 | .leaf o k,n,_=>by
  rw[zl1 h3 rfl]
  cases o <;>
  kernel_rfl
 | .node s a b,n,hn=>by
  have pa:=zx2 a
  have pb:=zx2 b
  have hn':num a+num b<=40:=hn
  obtain ⟨j,hj⟩:∃ j,n+num (.node s a b)+2=j+num a+2+1:=⟨n+num b - 1,by simp only[yr6];exact congrArg (·+2) ((x0 ..).symm.trans (nc4 pb).symm)⟩
  obtain ⟨i,hi⟩:∃ i,j+num a+2=i+num b+2:=⟨n+num a - 1,by simp only[yr6]at hj;exact Nat.succ.inj (hj.symm.trans (congrArg (·+2) ((x0 ..).symm.trans (nc3 pa).symm)))⟩
  have ea:=zi3 h h2 h3 a j (by exact qf hn')
  have eb:=zi3 h h2 h3 b i (by lia)
  rw[<- hi]at eb
  rw[hj]
  refine zz3 h3 rfl ?_
  by_cases hs:s=.pair
  ·subst hs
   exact xn (yf (by kernel_rfl) rfl) (zz4 (yt (by kernel_rfl) (xr (vt (es rfl (es (vc rfl ea) (es (vc rfl eb) rfl))) rfl))))
  ·have hju:=xp3 (fuel:=fuel) h h2 (j+num a) s hs (k:=40) ((xw8 a).mono (by lia)) ((xw8 b).mono (by lia)) (by lia) (by have:=xl4 hs a b;simp only[wq4]at this;exact qx (qt this hn') rfl)
   rw[zl0 hs]
   exact zz4 (yt (by cases s<;>first|exact absurd rfl hs|kernel_rfl) (xr (vc (es rfl (es (vl2 (es (vc rfl ea) (es (vc rfl eb) rfl)) rfl) rfl)) hju)))
end Pl
end
section
namespace Pl
open Mini PySem
mutual
noncomputable def lv:D->Nat
 | .int _=>1
 | .tuple l=>lvL l
 | _=>0
noncomputable def lvL:List D->Nat
 | []=>0
 | x::r=>lv x+lvL r
end
theorem zn4:lvL []=0:=rfl
theorem zt8 {x r}:lvL (x::r)=lv x+lvL r:=rfl
theorem lv_i {i}:lv (.int i)=1:=rfl
theorem lv_s {s}:lv (.str s)=0:=rfl
theorem lv_t {l}:lv (.tuple l)=lvL l:=rfl
theorem zx1:∀(a b:List D),lvL (a++b)=lvL a+lvL b
 | [],b=>by simp[zn4]
 | x::a,b=>by simp only[yz,zt8,zx1 a b];lia
theorem yl2 {a b:List D}(h:a.Perm b):lvL a=lvL b:=by
 induction h with
 | nil=>rfl
 | cons x _ ih=>simp only[zt8,ih]
 | swap x y l=>simp only[zt8];lia
 | trans _ _ i j=>exact i.trans j
theorem wm6 {x:D}{l:List D}(h:x∈l):lv x<=lvL l:=by
 induction l with
 | nil=>cases h
 | cons y r ih =>
  simp only[zt8]
  rcases zQ.mp h with rfl|h
  ·lia
  ·have:=ih h;exact qv this (w3 ..)
theorem xh2 {a b:List D}(h:a.Sublist b):lvL a<=lvL b:=by
 induction h with
 | slnil=>exact zv _
 | cons _ _ ih=>simp only[zt8];lia
 | cons_cons _ _ ih=>simp only[zt8];lia
inductive Can:Nat->D->Prop
 | leaf (k:Nat) (o:Bool) (n:Int):Can (k+1) (.tuple [.str (lstr o),.int n])
 | pair {k:Nat} {a b:D}:Can k a->Can k b->Can (k+1) (.tuple [.str "pair", a,b])
 | join {k:Nat} {s:Sn} {l:List D}:s≠.pair->2<=l.length->l.length<=20->(∀ x∈l,Can k x)->(∀ x∈l,parts s x=[x])->l.Pairwise leD->Can (k+1) (.tuple (.str s.str::l))
theorem Can.mono {k:Nat}{d:D}(h:Can k d):∀{j:Nat},k<=j->Can j d:=by
 induction h with
 | leaf k o n=>intro j hj;obtain ⟨j,rfl⟩:∃ i,j=i+1:=⟨j - 1,by exact(xW (qr hj)).symm⟩;exact .leaf j o n
 | pair _ _ iha ihb=>intro j hj;obtain ⟨j,rfl⟩:∃ i,j=i+1:=⟨j - 1,by exact(xW (qr hj)).symm⟩;exact .pair (iha (by lia)) (ihb (by lia))
 | join hs h2 hl _ hp hw ih=>intro j hj;obtain ⟨j,rfl⟩:∃ i,j=i+1:=⟨j - 1,by exact(xW (qr hj)).symm⟩;exact .join hs h2 hl (fun x hx=>ih x hx (by lia)) hp hw
theorem Can.shp {k:Nat}{d:D}(h:Can k d):Shp (k+20) d:=by
 induction h with
 | leaf k o n=>exact(Shp.leaf (k+20) o n).mono (by lia)
 | pair _ _ iha ihb=>exact(Shp.pair iha ihb).mono (by lia)
 | join hs _ hl _ _ _ ih=>exact(Shp.join hs (by lia) ih).mono (by lia)
theorem xh6 {k:Nat}{l:List D}(h:∀ x∈l,lev x<=k):levL l<=k:=by
 induction l with
 | nil=>simp[xh7]
 | cons x r ih=>have:=ih fun y hy=>h y (mt hy);have:=h x mh;simp only[xt3];exact nmk ‹_› ‹_›
theorem Can.lev {k:Nat}{d:D}(h:Can k d):lev d<=k:=by
 induction h with
 | leaf k o n=>simp[vy3,wl4,wx4,xh7,xt3]
 | pair _ _ iha ihb=>simp only[wl4,wx4,xh7,xt3];exact nmc iha ihb
 | join hs _ _ _ _ _ ih=>have:=xh6 ih;simp only[wl4,wx4,xt3];lia
theorem Can.lv_pos {k:Nat}{d:D}(h:Can k d):1<=lv d:=by
 induction h with
 | leaf k o n=>simp[lv_i,lv_s,lv_t,zn4,zt8]
 | pair _ _ iha ihb=>simp only[lv_s,lv_t,zn4,zt8];lia
 | @join k s l hs h2 _ _ _ _ ih =>
  cases l with
  | nil=>simp at h2
  | cons x r=>have:=ih x mh;simp only[lv_s,lv_t,zt8];exact qt (Nat.le_add_right_of_le this) (w3 ..)
theorem Can.okd {k:Nat}{d:D}(h:Can k d)(hk:k<=100):Mini.okd d=true:=h.shp.okd (by exact qy (w5 hk 20) rfl)
theorem Can.plain {k:Nat}{d:D}(h:Can k d):zz9 d=true:=h.shp.plain
theorem zf6 {k:Nat}{l:List D}(h:∀ x∈l,Can k x):Cmp l:=wi6 fun x hx=>(h x hx).shp
theorem Can.lt_some {k:Nat}{a:D}(h:Can k a){j:Nat}{b:D}(hb:Can j b):(ltD a b).isSome=true:=h.shp.lt_some hb.shp
theorem Can.tkey {k:Nat}{d:D}(h:Can k d)(hk:k<=8):tkey d=true:=by
 have h1:=h.plain
 have h2:=h.okd (by lia)
 have h3:=h.lev
 cases h<;>simp[Mini.tkey,wc1,h1,h2,qv h3 hk]
theorem Can.cons {k:Nat}{s:Sn}{l:List D}(h:Can k (.tuple (.str s.str::l))):(∀ x∈l,Can k x)/\2<=l.length/\l.length<=20/\(s≠.pair->(∀ x∈l,Pl.parts s x=[x])/\l.Pairwise leD):=by
 generalize hd:(wQ (.str s.str::l))=d at h
 cases h with
 | leaf k o n=>simp at hd;exact absurd hd.1.symm (zw1 o s)
 | pair ha hb =>
  simp at hd
  obtain ⟨e,rfl⟩:=hd
  obtain rfl:s=.pair:=zn7 (s':=.pair) e
  refine⟨fun x hx=>?_,zv 2,(show 2<=20 by decide),fun h=>absurd rfl h⟩
  simp at hx
  exact hx.elim (fun e=>e▸ha.mono (QW _)) fun e=>e▸hb.mono (QW _)
 | @join k s' l' hs' h2 h20 hc hp hw =>
  simp at hd
  obtain ⟨e,rfl⟩:=hd
  obtain rfl:=zn7 e
  exact⟨fun x hx=>(hc x hx).mono (QW _),h2,h20,fun _=>⟨hp,hw⟩⟩
theorem Can.two {k:Nat}{s:Sn}{l:List D}(h:Can k (.tuple (.str s.str::l))):2<=l.length:=h.cons.2.1
theorem Can.open_inv {k:Nat}{r:List D}(h:Can k (.tuple (.str "open" :: r))):∃ i,r=[.int i]:=by
 generalize hd:(wQ (.str "open" :: r))=d at h
 cases h with
 | leaf k o n=>simp at hd;exact⟨n,hd.2⟩
 | pair _ _=>simp at hd;exact absurd hd.1 (zo8 true)
 | join hs'=>simp at hd;exact absurd hd.1 (zw1 true _)
theorem Can.parts {k:Nat}{s:Sn}(hs:s≠.pair){d:D}(h:Can k d):(parts s d=[d])\/(∃ l,d=.tuple (.str s.str::l)/\parts s d=l/\2<=l.length/\l.length<=20/\(∀ x∈l,Can (k - 1) x)/\(∀ x∈l,Pl.parts s x=[x])/\l.Pairwise leD):=by
 cases h with
 | leaf k o n=>exact .inl (zs7 s o n)
 | pair ha hb=>exact .inl (zn8 hs _ _)
 | @join k s' l hs' h2 hl hc hp hw =>
  by_cases e:s'=s
  ·subst e;exact .inr ⟨l,rfl,zu3 _ _,h2,hl,by simpa using hc,hp,hw⟩
  ·exact .inl (zp7 e l)
theorem Can.parts_can {k:Nat}{s:Sn}(hs:s≠.pair){d:D}(h:Can k d):∀ x∈Pl.parts s d,Can k x:=by
 rcases h.parts hs with e|⟨l,_,e,_,_,hc,_,_⟩<;>rw[e]<;>intro x hx
 ·simp at hx;subst hx;exact h
 ·exact(hc x hx).mono (by exact Q6 ..)
theorem Can.parts_non {k:Nat}{s:Sn}(hs:s≠.pair){d:D}(h:Can k d):∀ x∈Pl.parts s d,Pl.parts s x=[x]:=by
 rcases h.parts hs with e|⟨l,_,e,_,_,_,hp,_⟩<;>rw[e]<;>intro x hx
 ·simp at hx;subst hx;exact e
 ·exact hp x hx
theorem Can.parts_pos {k:Nat}{s:Sn}(hs:s≠.pair){d:D}(h:Can k d):1<=(Pl.parts s d).length/\(Pl.parts s d).length<=20:=by
 rcases h.parts hs with e|⟨l,_,e,h1,h2,_,_,_⟩<;>rw[e]
 ·simp
 ·exact⟨qt (by decide) h1,h2⟩
theorem ze3 {k:Nat}{s:Sn}(hs:s≠.pair){d:D}(h:Can k d):lvL (Pl.parts s d)=lv d:=by
 rcases h.parts hs with e|⟨l,e1,e,_⟩
 ·rw[e];simp[zn4,zt8]
 ·rw[e,e1];simp[lv_s,lv_t,zt8]
noncomputable def zw4 (s:Sn):List D->D
 | [x]=>x
 | l=>.tuple (.str s.str::l)
theorem zv2 {s:Sn}{l:List D}(h:l.length≠1):zw4 s l=.tuple (.str s.str::l):=by
 match l,h with
 | [],_=>rfl
 | [x],h=>exact absurd rfl h
 | _::_::_,_=>rfl
theorem yv7 {k:Nat}{s:Sn}(hs:s≠.pair){l:List D}(h1:l≠[])(h2:l.length<=20)(hc:∀ x∈l,Can k x)(hp:∀ x∈l,Pl.parts s x=[x])(hw:l.Pairwise leD):Can (k+1) (zw4 s l)/\Pl.parts s (zw4 s l)=l:=by
 match l,h1,h2,hc,hp,hw with
 | [x],_,_,hc,hp,_=>exact⟨(hc x mh).mono (by lia),hp x mh⟩
 | a::b::r,_,h2,hc,hp,hw=>exact⟨.join hs (by simp) h2 hc hp hw,zu3 _ _⟩
mutual
noncomputable def fill (f:Int->D):D->D
 | .tuple (.str x::r)=>if x == "open" then (match r with|[.int k]=>f k|_=>.none) else if x == "name" then .tuple (.str x::r) else if x == "pair" then .tuple (.str x::yr7 f r)
  else if x == "sum" then .tuple (.str x::zx8 ((yr7 f r).flatMap (parts .sum))) else .tuple (.str x::zx8 ((yr7 f r).flatMap (parts .mul)))
 | d=>d
noncomputable def yr7 (f:Int->D):List D->List D
 | []=>[]
 | x::r=>fill f x::yr7 f r
end
theorem wk6 {f x r}:yr7 f (x::r)=fill f x::yr7 f r:=rfl
theorem wr3 {f x r}:fill f (.tuple (.str x::r))=if x == "open" then (match r with|[.int k]=>f k|_=>.none) else if x == "name" then .tuple (.str x::r) else if x == "pair" then .tuple (.str x::yr7 f r)
  else if x == "sum" then .tuple (.str x::zx8 ((yr7 f r).flatMap (parts .sum))) else .tuple (.str x::zx8 ((yr7 f r).flatMap (parts .mul))):=rfl
theorem yt8 (f:Int->D):∀ l:List D,yr7 f l=l.map (fill f)
 | []=>rfl
 | x::r=>by simp only[wk6,x6,yt8 f r]
theorem zo2 (f:Int->D)(k:Int):fill f (.tuple [.str "open", .int k])=f k:=rfl
theorem zd4 (f:Int->D)(k:Int):fill f (.tuple [.str "name", .int k])=.tuple [.str "name", .int k]:=rfl
theorem zo1 (f:Int->D)(a b:D):fill f (.tuple [.str "pair", a,b])=.tuple [.str "pair", fill f a,fill f b]:=rfl
theorem zo3 (f:Int->D){s:Sn}(hs:s≠.pair)(l:List D):fill f (.tuple (.str s.str::l))=.tuple (.str s.str::zx8 ((l.map (fill f)).flatMap (parts s))):=by
 cases s with
 | sum=>simp[wr3,Sn.str,yt8,yu0,yu1,yv9]
 | mul=>simp[wr3,Sn.str,yt8,yu3,yu4,yu2,xo1]
 | pair=>exact absurd rfl hs
inductive Opn:Int->D->Prop
 | self (k:Int):Opn k (.tuple [.str "open", .int k])
 | part {k:Int} {x:D} {s:Sn} {l:List D}:x∈l->Opn k x->Opn k (.tuple (.str s.str::l))
theorem xn5 {f g:Int->D}{k:Nat}{d:D}(h:Can k d):(∀ i,Opn i d->f i=g i)->fill f d=fill g d:=by
 induction h with
 | leaf k o n =>
  intro e
  cases o
  ·rw[show lstr false = "name" from rfl,zd4,zd4]
  ·rw[show lstr true = "open" from rfl,zo2,zo2];exact e n (.self n)
 | @pair k a b ha hb iha ihb =>
  intro e
  rw[zo1,zo1,iha fun i hi=>e i (.part (s:=.pair) (l:=[a,b]) mh hi),ihb fun i hi=>e i (.part (s:=.pair) (l:=[a,b]) (mt mh) hi)]
 | @join k s l hs _ _ hc _ _ ih =>
  intro e
  rw[zo3 f hs,zo3 g hs,List.map_congr_left fun x hx=>ih x hx fun i hi=>e i (.part hx hi)]
inductive Tri:D->D->Prop
 | self (S:D):Tri S S
 | part {s:Sn} {l:List D} {x v:D}:x∈l->Tri x v->Tri (.tuple (.str s.str::l)) v
 | some {s:Sn} {l t:List D}:s≠.pair->t.Sublist l->t≠[]->Tri (.tuple (.str s.str::l)) (zw4 s t)
theorem Tri.can {k:Nat}{S v:D}(h:Tri S v):Can k S->Can k v:=by
 induction h generalizing k with
 | self S=>exact id
 | @part s l x v hx _ ih =>
  intro c
  generalize hd:(wQ (.str s.str::l))=d at c
  cases c with
  | leaf k o n=>simp at hd;exact absurd hd.1.symm (zw1 o s)
  | pair ha hb =>
   simp at hd
   obtain ⟨_,rfl⟩:=hd
   simp at hx
   rcases hx with rfl|rfl
   ·exact(ih ha).mono (by lia)
   ·exact(ih hb).mono (by lia)
  | @join k s' l' hs' _ _ hc _ _ =>
   simp at hd
   obtain ⟨_,rfl⟩:=hd
   exact(ih (hc x hx)).mono (by lia)
 | @some s l t hs ht hn =>
  intro c
  generalize hd:(wQ (.str s.str::l))=d at c
  cases c with
  | leaf k o n=>simp at hd;exact absurd hd.1.symm (zw1 o s)
  | pair ha hb =>
   simp at hd
   exact absurd hd.1 (zs6 hs)
  | @join k s' l' hs' h2 hl hc hp hw =>
   simp at hd
   obtain ⟨e,rfl⟩:=hd
   obtain rfl:=zn7 e
   exact(yv7 hs hn (qv ht.length_le hl) (fun x hx=>hc x (ht.subset hx)) (fun x hx=>hp x (ht.subset hx)) (hw.sublist ht)).1
theorem zv6 {α:Type}{bnd:D->Mini.Sg->Option Mini.Sg}{body:Mini.Sg->Option Out}(g:α->D)(J:List α->Mini.Sg->Prop){L:List α}{σ:Mini.Sg}(h:J [] σ)
  (hs:∀ done a rest σ,L=done++a::rest->J done σ->∃ σ1 σ2,bnd (g a) σ=some σ1/\body σ1=some (.next σ2)/\J (done++[a]) σ2) :
  ∃ σ',forN bnd body (L.map g) σ=some (.next σ')/\J L σ':=by
 have gen:∀(l pre:List α)(σ:Mini.Sg),L=pre++l->J pre σ->∃ σ',forN bnd body (l.map g) σ=some (.next σ')/\J L σ':=by
  intro l
  induction l with
  | nil=>intro pre σ e h;rw[Qj]at e;subst e;exact iEA σ rfl h
  | cons a r ih =>
   intro pre σ e h
   refine elEEAA (hs pre a r σ e h) fun σ1 σ2 h1 h2 h3=>?_
   refine elEA (ih (pre++[a]) σ2 (by rw[e];simp) h3) fun σ' e' j=>?_
   exact iEA σ' ((zi8 h1 h2).trans e') j
 exact gen L [] σ rfl h
theorem zm5 {n:Nat}{bc:D->Option (List D)}{cond:Mini.Sg->Option (D×Mini.Sg)}{elt:Mini.Ev}{σ:Mini.Sg}{c:D->Bool}{F:D->D}(hn:σ.length=n):∀{ds:List D},
  (∀ d∈ds,∃ ws,bc d=some ws/\cond (σ++ws.map fun x=>some (.val x))=some (.bool (c d),σ++ws.map fun x=>some (.val x))/\(c d=true->∃ f,elt (σ++ws.map fun x=>some (.val x))=some (F d,f,σ++ws.map fun x=>some (.val x)))) ->
  zm7 n bc cond elt ds σ=some ((ds.filter c).map F,σ)
 | [],_=>rfl
 | d::r,h=>by
  refine zx4 (h d mh) fun ws h1 h2 h3=>?_
  have ht:(σ++ws.map fun x=>some (AV.val x)).take n=σ:=by subst hn;simp
  have ih:=zm5 (n:=n) (bc:=bc) (cond:=cond) (elt:=elt) (σ:=σ) (c:=c) (F:=F) hn (ds:=r) fun x hx=>h x (mt hx)
  simp only[xd8,h1,h2,jk,ztr1]
  cases hc:c d with
  | false=>simp only[cond_false,ht,ih,yV,hc];rfl
  | true =>
   obtain ⟨f,h3⟩:=h3 hc
   simp only[cond_true,h3,jk,ht,ih,yV,hc,if_true,x6]
noncomputable def zu1 {α:Type}(g:α->Nat):List α->Nat
 | []=>0
 | x::r=>g x+zu1 g r
theorem zn2 {α:Type}{g:α->Nat}:zu1 g []=0:=rfl
theorem zt2 {α:Type}{g:α->Nat}{x r}:zu1 g (x::r)=g x+zu1 g r:=rfl
theorem sum_append {α:Type}(g:α->Nat):∀(a b:List α),zu1 g (a++b)=zu1 g a+zu1 g b
 | [],b=>by simp[zn2]
 | x::a,b=>by simp only[yz,zt2,sum_append g a b];lia
theorem wt0 {α:Type}{g h:α->Nat}:∀{l:List α},(∀ x∈l,g x<=h x)->zu1 g l<=zu1 h l
 | [],_=>zv _
 | x::r,e=>jQ (e x mh) (wt0 fun y hy=>e y (mt hy))
theorem yw2 {α:Type}:∀ l:List α,zu1 (fun _=>1) l=l.length
 | []=>rfl
 | x::r=>by simp only[zt2,yw2 r,xV];lia
theorem zc4 {α:Type}(g:α->Nat)(p:α->Bool):∀ l:List α,zu1 g (l.filter p)<=zu1 g l
 | []=>zv _
 | x::r=>by
  have:=zc4 g p r
  simp only[yV]
  split<;>simp only[zt2]<;>lia
theorem yd1 {α β:Type}(g:β->Nat)(f:α->β):∀ l:List α,zu1 g (l.map f)=zu1 (fun x=>g (f x)) l
 | []=>rfl
 | x::r=>by simp only[x6,zt2,yd1 g f r]
theorem yj2 {α:Type}(c:Nat):∀ l:List α,zu1 (fun _=>c) l=l.length*c
 | []=>by simp[zn2]
 | x::r=>by simp only[zt2,yj2 c r,xV,Nat.add_mul];lia
theorem xo5 {α:Type}{g:α->Nat}{l:List α}(h:∀ x∈l,1<=g x):l.length<=zu1 g l:=by
 rw[<- yw2];exact wt0 h
theorem zc8 (a b:Nat):∀ n:Nat,1<=n->a^n+b^n<=(a+b)^n
 | 1,_=>by simp
 | n+2,_=>by
  have ih:=zc8 a b (n+1) (by lia)
  rw[Nat.pow_succ a (n+1),Nat.pow_succ b (n+1),Nat.pow_succ (a+b) (n+1)]
  have h1:=uq (a+b) ih
  have h2:a^(n+1)*a+b^(n+1)*b<=(a^(n+1)+b^(n+1))*(a+b):=by
   rw[Nat.add_mul,Zy,Zy];exact qa (qk ..) (w3 ..)
  exact qt h2 h1
theorem yb6 (x n:Nat):x^n+1<=(x+1)^n\/n=0:=by
 rcases Nat.eq_zero_or_pos n with h|h
 ·exact .inr h
 ·have:=zc8 x 1 n h;rw[Nat.one_pow]at this;exact .inl this
noncomputable def zk3 (p:D)(q:List D×List D):List (List D×List D):=[(q.1++[p],q.2),(q.1,q.2++[p])]
noncomputable def zx9 (found:List (List D×List D)):List D->List (List D×List D)
 | []=>found
 | p::r=>zx9 (found.flatMap (zk3 p)) r
theorem yj6 {q}:zx9 q []=q:=rfl
theorem ze0 {q p r}:zx9 q (p::r)=zx9 (q.flatMap (zk3 p)) r:=rfl
theorem xu9 (p:D)(found:List (List D×List D)):(found.flatMap (zk3 p)).length=2*found.length:=by
 induction found with
 | nil=>rfl
 | cons q r ih=>simp only[List.flatMap_cons,zw,ih,zk3,xV,List.length_nil];lia
theorem zm9:∀(ps:List D)(found:List (List D×List D)),(zx9 found ps).length=2^ps.length*found.length
 | [],found=>by simp[yj6]
 | p::r,found=>by
  rw[ze0,zm9 r,xu9,xV,Nat.pow_succ]
  rw[Nat.mul_assoc]
theorem za5:∀(ps:List D)(p:D)(found:List (List D×List D)),zx9 found (ps++[p])=(zx9 found ps).flatMap (zk3 p)
 | [],p,found=>rfl
 | x::r,p,found=>by rw[yz,ze0,ze0,za5 r]
theorem zi1:∀(ps:List D)(found:List (List D×List D))(t l:List D),(t,l)∈zx9 found ps->∃ q∈found,∃ t' l',t=q.1++t'/\l=q.2++l'/\t'.Sublist ps/\l'.Sublist ps/\(t'++l').Perm ps
 | [],found,t,l,h=>iEA (t,l) h (yt6 [] [] (by simp) (by simp) (by simp) (by simp) (by simp))
 | p::r,found,t,l,h=>by
  refine zb8 (zi1 r _ t l h) fun q hq t' l' e1 e2 h1 h2 h3=>?_
  refine elEA (List.mem_flatMap.mp hq) fun q0 hq0 hq=>?_
  simp only[zk3,zQ,j7,or_false]at hq
  rcases hq with rfl|rfl
  ·exact iEA q0 hq0 (yt6 (p::t') l' (by simp[e1]) e2 (h1.cons_cons p) (h2.cons p) (by simpa using h3))
  ·refine iEA q0 hq0 (yt6 t' (p::l') e1 (by simp[e2]) (h1.cons p) (h2.cons_cons p) ?_)
   exact List.perm_middle.trans (h3.cons p)
theorem yq5 (x:Nat):∀(ps:List D),(∀ p∈ps,1<=lv p)->∀(found:List (List D×List D)),zu1 (fun q=>x^lvL q.2) (zx9 found ps)<=zu1 (fun q=>x^lvL q.2) found*(x+1)^lvL ps
 | [],_,found=>by simp[yj6,zn4]
 | p::r,hp,found=>by
  have hx:x^lv p+1<=(x+1)^lv p:=(yb6 x (lv p)).resolve_right (by have:=hp p mh;lia)
  have e:zu1 (fun q=>x^lvL q.2) (found.flatMap (zk3 p))<=zu1 (fun q=>x^lvL q.2) found*(x+1)^lv p:=by
   clear hp
   induction found with
   | nil=>simp[zn2]
   | cons q fs ih =>
    rw[List.flatMap_cons,sum_append]
    simp only[zk3,zn2,zt2,zx1,zn4,zt8,ZV,Nat.pow_add,Nat.add_mul]
    have:=jZ (x^lvL q.2) hx
    rw[Zy,Nat.mul_one]at this
    exact qa (qt (xx (wJ ..)) this) ih
  have ih:=yq5 x r (fun y hy=>hp y (mt hy)) (found.flatMap (zk3 p))
  rw[ze0]
  refine qv ih ?_
  have:=uq ((x+1)^lvL r) e
  rw[zt8,Nat.pow_add,<- Nat.mul_assoc]
  exact this
variable {Fs:Fns}{fuel:Nat}
theorem xi2 {k:Nat}{t:List D}(h:∀ x∈t,Can k x)(hk:k<=100):okd (.tuple t)=true:=by
 have h1:=zo4 fun x hx=>(h x hx).shp.lay
 have h2:=zt5 fun x hx=>(h x hx).shp.dep
 simp only[okd,vK,ys4,h1,Bool.true_and];exact decide_eq_true (by exact qt (xz (qt h2 (w5 hk 20))) (by decide))
theorem ym9 {k:Nat}{t:List D}(h:∀ x∈t,Can k x)(hk:k<=100):okd (.list t)=true:=by
 have h1:=zo4 fun x hx=>(h x hx).shp.lay
 have h2:=zt5 fun x hx=>(h x hx).shp.dep
 simp only[okd,vK,wj9,h1,Bool.true_and];exact decide_eq_true (by exact qt (xz (qt h2 (w5 hk 20))) (by decide))
theorem yy4 {t:List D}(h:∀ x∈t,Can 7 x):tkey (.tuple t)=true:=by
 have h1:=xi2 h (by lia)
 have h2:=zx5 fun x hx=>(h x hx).plain
 have h3:=xh6 fun x hx=>(h x hx).lev
 simp only[tkey,wc1,zr5,h1,h2,wx4,Bool.and_self,Bool.true_and];exact decide_eq_true (by exact xz h3)
noncomputable abbrev prD (q:List D×List D):D:=.tuple [.list q.1,.list q.2]
noncomputable def enP (q:List D×List D):D×D:=(.tuple q.1,.list q.2)
noncomputable def pput:List (List D×List D)->List D×List D->List (List D×List D)
 | [],q=>[q]
 | p::r,q=>if QQ p.1 q.1 then (p.1,q.2)::r else p::pput r q
theorem wt3 {q}:pput [] q=[q]:=rfl
theorem yh2 {p r q}:pput (p::r) q=if QQ p.1 q.1 then (p.1,q.2)::r else p::pput r q:=rfl
theorem xr3 (q:List D×List D):∀ R:List (List D×List D),dput (R.map enP) (.tuple q.1) (.list q.2)=(pput R q).map enP
 | []=>rfl
 | p::r=>by
  simp only[x6,ys3,yh2]
  have e:z7 (enP p).1 (.tuple q.1)=QQ p.1 q.1:=rfl
  rw[e]
  split
  ·rfl
  ·rw[x6,xr3 q r]
theorem xu1 (q:List D×List D):∀ R,(pput R q).length<=R.length+1
 | []=>by simp[wt3]
 | p::r=>by have:=xu1 q r;simp only[yh2];split<;>simp only[xV]<;>lia
theorem xv9 (g:List D->Nat)(q:List D×List D):∀ R,zu1 (fun q=>g q.2) (pput R q)<=zu1 (fun q=>g q.2) R+g q.2
 | []=>by simp[wt3,zn2,zt2]
 | p::r=>by have:=xv9 g q r;simp only[yh2];split<;>simp only[zt2]<;>lia
theorem xu0 {q:List D×List D}(hq:∀ x∈q.1,zz9 x=true):∀{R:List (List D×List D)},(∀ p∈R,∀ x∈p.1,zz9 x=true)->∀ p∈pput R q,p∈R\/p=q
 | [],_,p,hp=>.inr (xq.mp hp)
 | p::r,h,p',hp=>by
  rw[yh2]at hp
  by_cases e:QQ p.1 q.1=true
  ·rw[if_pos e]at hp
   rcases zQ.mp hp with hp|hp
   ·exact .inr (by rw[hp,(zt7 (zx5 (h p mh)) (zx5 hq)).mp e])
   ·exact .inl (mt hp)
  ·rw[if_neg e]at hp
   rcases zQ.mp hp with hp|hp
   ·exact .inl (hp▸mh)
   ·exact(xu0 hq (R:=r) (fun p hp=>h p (mt hp)) p' hp).imp mt id
set_option tactic.hygienic true in
theorem yh1 {q:List D×List D}(hq:∀ x∈q.1,zz9 x=true):∀{R:List (List D×List D)},(∀ p∈R,∀ x∈p.1,zz9 x=true)->(pput R q).map (·.1)=R.map (·.1)\/((pput R q).map (·.1)=R.map (·.1)++[q.1]/\q.1∉R.map (·.1))
 | [],_=>.inr ⟨rfl,by simp⟩
 | p::r,h=>by
  simp only[yh2]
  split
  ·exact .inl rfl
  ·rename_i e
   rcases yh1 hq (R:=r) fun p hp=>h p (mt hp) with i|⟨i,j⟩
   ·exact .inl (by simp only[x6,i])
   ·refine .inr ⟨by simp only[x6,i,yz],fun m=>?_⟩
    rcases zQ.mp m with m|m
    ·exact e ((zt7 (zx5 (h p mh)) (zx5 hq)).mpr m.symm)
    ·exact j m
structure Seen (qs R:List (List D×List D)):Prop where
 mem:∀ q∈R,q∈qs
 sum:∀ g:List D->Nat,zu1 (fun q=>g q.2) R<=zu1 (fun q=>g q.2) qs
 len:R.length<=qs.length
 nodup:(R.map (·.1)).Nodup
theorem Seen.put {qs R:List (List D×List D)}{q:List D×List D}(h:Seen qs R)(hp:∀ p∈qs++[q],∀ x∈p.1,zz9 x=true):Seen (qs++[q]) (pput R q):=by
 have i1:=xu0 (R:=R) (hp q (mr mh)) fun p hq=>hp p (ml (h.mem p hq))
 refine⟨fun p hq=>?_,fun g=>?_,?_,?_⟩
 ·rcases i1 p hq with e|e
  ·exact ml (h.mem p e)
  ·exact e▸mr mh
 ·have a1:=h.sum g
  have a2:=xv9 g q R
  rw[sum_append]
  simp only[zn2,zt2];exact qt a2 (w5 a1 _)
 ·have:=xu1 q R
  have:=h.len
  rw[zw];simp only[xV,List.length_nil];exact qt ‹(pput R q).length<=_› (xz this)
 ·rcases yh1 (R:=R) (hp q (mr mh)) fun p hq=>hp p (by simp[h.mem p hq]) with e|⟨e,e2⟩
  ·rw[e];exact h.nodup
  ·rw[e,ux]
   refine iAA h.nodup (by simp) (fun a ha b hb=>?_)
   simp at hb;subst hb
   rintro rfl;exact e2 ha
noncomputable def wu1:I:=(.cons (.app 3 (.tup (.cons (.bin .Add (.var 4) (.lst (.cons (.var 2) .nil))) (.cons (.var 5) .nil)))) (.cons (.app 3 (.tup (.cons (.var 4) (.cons (.bin .Add (.var 5) (.lst (.cons (.var 2) .nil))) .nil)))) .nil))
noncomputable def yl9:I:=(.cons (.asg 3 (.lst .nil)) (.cons (.fors [4,5] (.var 1) wu1) (.cons (.asg 1 (.var 3)) .nil)))
noncomputable def xx7:I:=(.cons (.sto 6 (.prim1 .tuple (.var 4)) (.var 5)) .nil)
noncomputable def xx8:I:=(.comp1 (.tup (.cons (.prim1 .list (.var 7)) (.cons (.idx (.brw 6) (.var 7)) .nil))) (.var 6) .omit)
noncomputable def zr1:I:=(.cons (.asg 1 (.lst (.cons (.tup (.cons (.lst .nil) (.cons (.lst .nil) .nil))) .nil))) (.cons (.for1 2 (.var 0) yl9) (.cons (.asg 6 .dct0) (.cons (.fors [4,5] (.var 1) xx7) (.cons (.ret xx8) .nil)))))
noncomputable abbrev vl (d:D):Option AV:=some (.val d)
noncomputable abbrev ow (d:D):Option AV:=some (.own d)
theorem wr7 {q:List D×List D}{v0 v1 v2 v3 v4 v5 v6:Option AV}:zb9 [4,5] (prD q) [v0,v1,v2,v3,v4,v5,v6]=some [v0,v1,v2,v3,vl (.list q.1),vl (.list q.2),v6]:=by
 rfl
theorem xm6 {Γ:Mini.Env}{v0 v1 v6:Option AV}{p:D}{acc t l:List D}(h1:acc.length+2<size)(h2:t.length<size)(h3:l.length<size) :
  ex Γ wu1 [v0,v1,vl p,ow (.list acc),vl (.list t),vl (.list l),v6]=some (.next [v0,v1,vl p,ow (.list (acc++[prD (t++[p],l)]++[prD (t,l++[p])])),vl (.list t),vl (.list l),v6]):=by
 have e1:t.length+1<=size:=h2
 have e2:l.length+1<=size:=h3
 have e3:acc.length+1<size:=by exact j9 h1
 have e4:acc.length+1+1<size:=by exact h1
 rw[wu1,zz0 (σ':=[v0,v1,vl p,ow (.list (acc++[prD (t++[p],l)])),vl (.list t),vl (.list l),v6]) (by simp[b_ad,zad1,↓mkT2,↓mkL1,mkL_,e1,e3]),
  zz0 (σ':=[v0,v1,vl p,ow (.list (acc++[prD (t++[p],l)]++[prD (t,l++[p])])),vl (.list t),vl (.list l),v6]) (by simp[b_ad,zad1,↓mkT2,↓mkL1,mkL_,e2,e4])]
 rfl
theorem yf9 {Γ:Mini.Env}{v0 v6:Option AV}{p:D}{found:List (List D×List D)}{x1 x3 x4 x5:Option AV}(hx1:x1=vl (.list (found.map prD))\/x1=ow (.list (found.map prD)))(h1:2*found.length<size)(h2:∀ q∈found,q.1.length<size/\q.2.length<size) :
  ∃ y4 y5,ex Γ yl9 [v0,x1,vl p,x3,x4,x5,v6]=some (.next [v0,vl (.list ((found.flatMap (zk3 p)).map prD)),vl p,vl (.list ((found.flatMap (zk3 p)).map prD)),y4,y5,v6]):=by
 have loop:∃ σ',forN (zb9 [4,5]) (ex Γ wu1) (found.map prD) [v0,vl (.list (found.map prD)),vl p,ow (.list []),x4,x5,v6]=some (.next σ') /\
   ∃ y4 y5,σ'=[v0,vl (.list (found.map prD)),vl p,ow (.list ((found.flatMap (zk3 p)).map prD)),y4,y5,v6]:=by
  refine zv6 prD (fun done σ=>∃ y4 y5,σ=[v0,vl (.list (found.map prD)),vl p,ow (.list ((done.flatMap (zk3 p)).map prD)),y4,y5,v6]) (iEE x4 x5 rfl) ?_
  (intro done q rest σ e h_1;refine elEE h_1 fun y4 y5 e_2=>?_;clear h_1;subst e_2)
  have hq:=h2 q (by exact mm e)
  have hl:((done.flatMap (zk3 p)).map prD).length+2<size:=by
   rw[xj,xu9]
   have:found.length=done.length+(rest.length+1):=by exact lm e
   exact ql (jZ 2 (xz (qk ..))) (this▸h1)
  refine iEEAA _ _ wr7 (xm6 hl hq.1 hq.2) (iEE (vl (.list q.1)) (vl (.list q.2)) ?_)
  simp[zk3]
 (refine xd1 (loop) fun σ' e y4 y5 e_4=>?_;subst e_4)
 refine iEE y4 y5 ?_
 rw[yl9,zz0 (σ':=[v0,x1,vl p,ow (.list []),x4,x5,v6]) (rfl),
  zz0 (σ':=[v0,vl (.list (found.map prD)),vl p,ow (.list ((found.flatMap (zk3 p)).map prD)),y4,y5,v6]) (by
   rw[zm1,show srcE (ev Γ (.var 1)) [v0,x1,vl p,ow (.list []),x4,x5,v6]=some (found.map prD,[v0,vl (.list (found.map prD)),vl p,ow (.list []),x4,x5,v6]) by rcases hx1 with rfl|rfl<;>rfl]
   exact e)]
 rfl
theorem yp9 {t:List D}(h:∀ x∈t,Can 7 x){R:List (List D×List D)}(hR:∀ q∈R,∀ x∈q.1,Can 7 x):zs3 (.tuple t) (R.map enP)=true:=by
 simp only[zs3,kk_t,yy4 h,if_true,Option.isSome_some,Bool.true_and,x8,zX]
 (intro _ h_1;refine elEA h_1 fun q hq e_2=>?_;clear h_1;subst e_2)
 simp[enP,kk_t,yy4 (hR q hq)]
theorem xs4 {R:List (List D×List D)}(hR:∀ q∈R,∀ x∈q.1,Can 7 x)(hn:(R.map (·.1)).Nodup){q:List D×List D}(hq:q∈R):zq6 (R.map enP) (.tuple q.1)=some (.list q.2):=by
 induction R with
 | nil=>cases hq
 | cons p r ih =>
  have e:z7 (enP p).1 (.tuple q.1)=QQ p.1 q.1:=rfl
  have ew:=zt7 (zx5 fun x hx=>(hR p mh x hx).plain) (zx5 fun x hx=>(hR q hq x hx).plain)
  simp only[x6,vQ]at hn
  simp only[zq6,x6,k7,e]
  rcases zQ.mp hq with rfl|hq'
  ·rw[ew.mpr rfl];rfl
  ·cases hp:QQ p.1 q.1 with
   | true=>exact absurd (zX.mpr (iEA q hq' ((ew.mp hp).symm))) hn.1
   | false=>exact ih (fun q hq=>hR q (mt hq)) hn.2 hq'
noncomputable def chF (R:List (List D×List D)):D->D
 | .tuple t=>.tuple [.list t,(zq6 (R.map enP) (.tuple t)).getD .none]
 | d=>d
theorem wb1 {R t}:chF R (.tuple t)=.tuple [.list t,(zq6 (R.map enP) (.tuple t)).getD .none]:=rfl
theorem yc4 (h:Has Fs "choices" ⟨1,7,zr1⟩)(n:Nat){ps:List D}(hps:∀ x∈ps,Can 7 x)(hl:ps.length<=20) :
  ∃ R:List (List D×List D),run Fs glo fuel (n+1) "choices" [.list ps]=some (.list (R.map prD),true)/\Seen (zx9 [([],[])] ps) R:=by
 have hz:∀ m,m<=2^20->2*m<size:=fun m hm=>by unfold size;exact qx (jZ 2 hm) rfl
 have hlen:∀ done rest p,ps=done++p::rest->(zx9 [([],[])] done).length<=2^20:=fun done rest p e=>by
  rw[zm9]
  have:done.length<=20:=by rw[e]at hl;simp at hl;exact qf hl
  simpa using u9 (by lia) this
 have hin:∀(qs:List D),qs.length<=20->∀ q∈zx9 [([],[])] qs,q.1.Sublist qs/\q.2.Sublist qs:=fun qs hq q hm=>by
  refine zb8 (zi1 qs _ q.1 q.2 hm) fun q0 h0 t' l' e1 e2 h1 h2 _=>?_
  simp at h0;subst h0
  simp at e1 e2
  exact⟨e1▸h1,e2▸h2⟩
 have loop:∃ σ',forN (zp3 2) (ex (Ga Fs fuel n) yl9) (ps.map id) [vl (.list ps),ow (.list ([([],[])].map prD)),none,none,none,none,none]=some (.next σ') /\
   ∃ y1 y2 y3 y4 y5,(y1=vl (.list ((zx9 [([],[])] ps).map prD))\/y1=ow (.list ((zx9 [([],[])] ps).map prD)))/\σ'=[vl (.list ps),y1,y2,y3,y4,y5,none]:=by
  refine zv6 id (fun done σ=>∃ y1 y2 y3 y4 y5,(y1=vl (.list ((zx9 [([],[])] done).map prD))\/y1=ow (.list ((zx9 [([],[])] done).map prD)))/\σ=[vl (.list ps),y1,y2,y3,y4,y5,none]) (yt5 _ _ _ _ _ (.inr rfl) rfl) ?_
  (intro done p rest σ e h_1;refine xs8 h_1 fun y1 y2 y3 y4 y5 hy1 e_6=>?_;clear h_1;subst e_6)
  have hd:done.length<=20:=by rw[e]at hl;simp at hl;exact qf hl
  refine elEE (yf9 (Γ:=Ga Fs fuel n) (v0:=vl (.list ps)) (v6:=none) (p:=p) (found:=zx9 [([],[])] done) (x3:=y3) (x4:=y4) (x5:=y5) hy1 (hz _ (hlen done rest p e)) fun q hq=>by
   have ⟨a,b⟩:=hin done hd q hq
   have:=a.length_le
   have:=b.length_le
   unfold size;exact⟨qx (qt a.length_le hd) rfl,qx (qt b.length_le hd) rfl⟩) fun z4 z5 e2=>?_
  refine iEEAA _ _ rfl e2 (yt5 (vl (.list (((zx9 [([],[])] done).flatMap (zk3 p)).map prD))) (vl p) (vl (.list (((zx9 [([],[])] done).flatMap (zk3 p)).map prD))) z4 z5 (.inl ?_) rfl)
  rw[za5]
 rw[List.map_id]at loop
 (refine yo4 (loop) fun σ1 e1 y1 y2 y3 y4 y5 hy1 e_8=>?_;subst e_8)
 generalize hF:zx9 [([],[])] ps=found at *
 have hfl:found.length<=2^20:=by
  rw[<- hF,zm9];simpa using u9 (by lia) hl
 have hfc:∀ q∈found,∀ x∈q.1,Can 7 x:=fun q hq x hx=>by
  rw[<- hF]at hq
  exact hps x ((hin ps hl q hq).1.subset hx)
 have hfq:∀ q∈found,q.1.length<=20:=fun q hq=>by
  rw[<- hF]at hq
  exact qv (hin ps hl q hq).1.length_le hl
 have loop2:∃ σ',forN (zb9 [4,5]) (ex (Ga Fs fuel n) xx7) (found.map prD) [vl (.list ps),vl (.list (found.map prD)),y2,y3,y4,y5,ow (.dict [])]=some (.next σ') /\
   ∃ R z4 z5,Seen found R/\σ'=[vl (.list ps),vl (.list (found.map prD)),y2,y3,z4,z5,ow (.dict (R.map enP))]:=by
  refine zv6 prD (fun done σ=>∃ R z4 z5,Seen done R/\σ=[vl (.list ps),vl (.list (found.map prD)),y2,y3,z4,z5,ow (.dict (R.map enP))]) (iEEEA [] _ _ ⟨by simp,fun g=>zv _,zv _,by simp⟩ rfl) ?_
  (intro done q rest σ e h_1;refine elEEEA h_1 fun R z4 z5 hs e_4=>?_;clear h_1;subst e_4)
  have hdn:∀ p∈done++[q],p∈found:=fun p hp=>by
   rw[e]
   rcases z6.mp hp with hp|hp
   ·simp[hp]
   ·simp at hp;simp[hp]
  have hk:=yp9 (hfc q (hdn q (mr mh))) (R:=R) fun p hp=>hfc p (hdn p (by simp[hs.mem p hp]))
  have hle:R.length<size:=by
   have a1:=hs.len
   have a2:found.length=done.length+(rest.length+1):=by exact lm e
   unfold size;exact qx (qt a1 (qf (a2▸hfl))) rfl
  refine iEEAA _ _ wr7 ?_ (iEEEA (pput R q) (vl (.list q.1)) (vl (.list q.2)) (hs.put fun p hp x hx=>(hfc p (hdn p hp) x hx).plain) rfl)
  rw[xx7,zz0 (σ':=[vl (.list ps),vl (.list (found.map prD)),y2,y3,vl (.list q.1),vl (.list q.2),ow (.dict (dput (R.map enP) (.tuple q.1) (.list q.2)))]) (by
   simp[wz9,zse1,hk,hle])]
  rw[xr3];rfl
 (refine xr0 (loop2) fun σ2 e2 R z4 z5 hs e_6=>?_;subst e_6)
 have hRc:∀ q∈R,∀ x∈q.1,Can 7 x:=fun q hq=>hfc q (hs.mem q hq)
 have hsrc:srcE (ev (Ga Fs fuel n) (.var 6)) [vl (.list ps),vl (.list (found.map prD)),y2,y3,z4,z5,ow (.dict (R.map enP))]=some (R.map fun q=>.tuple q.1,[vl (.list ps),vl (.list (found.map prD)),y2,y3,z4,z5,vl (.dict (R.map enP))]):=by
  simp[zit3,enP,Function.comp_def]
 have hc:=zm5 (n:=7) (bc:=bc1) (cond:=zm4 .omit (ev (Ga Fs fuel n) .omit)) (elt:=ev (Ga Fs fuel n) (.tup (.cons (.prim1 .list (.var 7)) (.cons (.idx (.brw 6) (.var 7)) .nil)))) (σ:=[vl (.list ps),vl (.list (found.map prD)),y2,y3,z4,z5,vl (.dict (R.map enP))])
  (c:=fun _=>true) (F:=chF R) rfl (ds:=R.map fun q=>.tuple q.1) fun d hd=>by
   (refine elEA (zX.mp hd) fun q hq e_2=>?_;subst e_2)
   have hk:=yp9 (hRc q hq) hRc
   have hk':zk1 (.tuple q.1) (R.map enP)=true:=by simp[zk1,hk]
   refine iEAA [.tuple q.1] rfl rfl (fun _=>⟨false,?_⟩)
   simp[↓mkT2,xj7,zse2,zix3,orS,wb1,hk',xs4 hRc hs.nodup hq]
 refine iEA R ?_ hs
 have hres:(R.map fun q=>wQ q.1).map (chF R)=R.map prD:=by
  rw[yk]
  refine List.map_congr_left fun q hq=>?_
  simp[wb1,xs4 hRc hs.nodup hq]
 rw[List.filter_eq_self.mpr (by simp),hres]at hc
 have hRl:R.length<=size:=by have:=hs.len;unfold size;exact qy (qt this hfl) rfl
 have hlast:ev (Ga Fs fuel n) xx8 [vl (.list ps),vl (.list (found.map prD)),y2,y3,z4,z5,ow (.dict (R.map enP))]=some (.list (R.map prD),true,[vl (.list ps),vl (.list (found.map prD)),y2,y3,z4,z5,vl (.dict (R.map enP))]):=by
  rw[xx8,zl6,hsrc]
  show ((zf5 7 _ _ _ _).bind _)=_
  rw[zd9,hc]
  simp[mkL,hRl]
 have hbody:ex (Ga Fs fuel n) zr1 [vl (.list ps),none,none,none,none,none,none]=some (.ret (.list (R.map prD)) true):=by
  rw[zr1,zz0 (σ':=[vl (.list ps),ow (.list ([([],[])].map prD)),none,none,none,none,none]) (rfl),
  zz0 (σ':=[vl (.list ps),y1,y2,y3,y4,y5,none]) (by rw[zy0];exact e1),
  zz0 (σ':=[vl (.list ps),y1,y2,y3,y4,y5,ow (.dict [])]) (by simp),
  zz0 (σ':=[vl (.list ps),vl (.list (found.map prD)),y2,y3,z4,z5,ow (.dict (R.map enP))]) (by
   rw[zm1,show srcE (ev (Ga Fs fuel n) (.var 1)) [vl (.list ps),y1,y2,y3,y4,y5,ow (.dict [])]=some (found.map prD,[vl (.list ps),vl (.list (found.map prD)),y2,y3,y4,y5,ow (.dict [])]) by rcases hy1 with rfl|rfl<;>rfl]
   exact e2),
  zz4 (d:=.list (R.map prD)) (f:=true) (by rw[zj5,hlast];rfl)]
 exact zz3 h rfl hbody
end Pl
end
section
namespace Pl
open Mini PySem
variable {Fs:Fns}{fuel:Nat}
noncomputable def zg1:I:=(.cons (.iff (.cmp .NotIn (.var 3) (.brw 2)) (.cons (.ret .cnone) .nil) .nil) (.cons (.rem 2 (.var 3)) .nil))
noncomputable def zu5:I:=(.cons (.asg 2 (.prim1 .list (.var 0))) (.cons (.for1 3 (.var 1) zg1) (.cons (.ret (.var 2)) .nil)))
theorem yx4 (x:D)(l:List D):inD x (.list l)=if okd x&&l.all okd then some (l.any fun y=>z7 y x) else none:=rfl
theorem yk3 {g:D}(hg:zz9 g=true){l:List D}(hl:∀ x∈l,zz9 x=true):(l.any fun y=>z7 y g)=true↔g∈l:=by
 rw[List.any_eq_true]
 constructor
 ·(intro h_1;refine elEA h_1 fun x hx e=>?_);rw[<- (zx0 (hl x hx) hg).mp e];exact hx
 ·exact fun h=>iEA g h (zh0 hg)
theorem xa5 {g:D}(hg:zz9 g=true){l:List D}(hl:∀ x∈l,zz9 x=true)(hm:g∈l):(g::l.eraseIdx (l.findIdx fun y=>z7 y g)).Perm l:=by
 have hlt:(l.findIdx fun y=>z7 y g)<l.length:=List.findIdx_lt_length.mpr (iEA g hm (zh0 hg))
 have e:=List.findIdx_getElem (w:=hlt)
 have e:=(zx0 (hl _ (vX hlt)) hg).mp e
 have h1:l=l.take (l.findIdx fun y=>z7 y g)++l[l.findIdx fun y=>z7 y g]::l.drop ((l.findIdx fun y=>z7 y g)+1):=by
  rw[<- kQ hlt,List.take_append_drop]
 rw[List.eraseIdx_eq_take_drop_succ]
 refine Z5 List.perm_middle.symm ?_
 rw[e]at h1
 exact vV.of_eq h1.symm
theorem xl2 {Γ:Mini.Env}{k:Nat}(hk:k<=100){v0 v1:Option AV}:∀(gs left:List D)(v3:Option AV),(∀ x∈gs,Can k x)->(∀ x∈left,Can k x) ->
  forN (zp3 3) (ex Γ zg1) gs [v0,v1,ow (.list left),v3]=some (.ret .none false) \/
  ∃ left' v3',forN (zp3 3) (ex Γ zg1) gs [v0,v1,ow (.list left),v3]=some (.next [v0,v1,ow (.list left'),v3'])/\(gs++left').Perm left/\left'.Sublist left
 | [],left,v3,_,_=>.inr (iEEAA left v3 rfl (vV.refl _) (List.Sublist.refl _))
 | g::gs,left,v3,hg,hl=>by
  have og:=(hg g mh).okd hk
  have ol:left.all okd=true:=x8.mpr fun x hx=>(hl x hx).okd hk
  have ol':∀ x∈left,okd x=true:=fun x hx=>(hl x hx).okd hk
  have pg:=(hg g mh).plain
  have pl:∀ x∈left,zz9 x=true:=fun x hx=>(hl x hx).plain
  by_cases hm:g∈left
  ·have ha:=(yk3 pg pl).mpr hm
   have hp:=xa5 pg pl hm
   have hs:=List.eraseIdx_sublist left (left.findIdx fun y=>z7 y g)
   generalize he:left.eraseIdx (left.findIdx fun y=>z7 y g)=l1 at hp hs
   have hin:inD g (.list left)=some true:=by rw[yx4,og,ol,ha];rfl
   have hrm:remL left g=some l1:=by rw[remL,og,ol,ha,he];rfl
   have hb:ex Γ zg1 [v0,v1,ow (.list left),vl g]=some (.next [v0,v1,ow (.list l1),vl g]):=by
    rw[zg1,zz0 (σ':=[v0,v1,ow (.list left),vl g]) (by simp[c_ni,hin]),
     zz0 (σ':=[v0,v1,ow (.list l1),vl g]) (by simp[xf9,hrm])]
    rfl
   rcases xl2 hk gs l1 (vl g) (fun x hx=>hg x (mt hx)) (fun x hx=>hl x (hs.subset hx)) with e|⟨l2,v3',e,h1,h2⟩
   ·exact .inl ((zi8 rfl hb).trans e)
   ·exact .inr (iEEAA l2 v3' ((zi8 rfl hb).trans e) ((h1.cons g).trans hp) (h2.trans hs))
  ·have ha:(left.any fun y=>z7 y g)=false:=by
    rw[<- ZZ];exact fun e=>hm ((yk3 pg pl).mp e)
   refine .inl ?_
   have hb:ex Γ zg1 [v0,v1,ow (.list left),vl g]=some (.ret .none false):=by
    have hin:inD g (.list left)=some false:=by rw[yx4,og,ol,ha];rfl
    rw[zg1,zz4]
    simp[zz7,c_ni,hin]
   show (some [v0,v1,ow (.list left),vl g]).bind _=_
   simp only[jk,hb,zg3]
theorem yd9 (h:Has Fs "without" ⟨2,4,zu5⟩)(n:Nat){k:Nat}(hk:k<=100){ps gs:List D}(hp:∀ x∈ps,Can k x)(hg:∀ x∈gs,Can k x) :
  run Fs glo fuel (n+1) "without" [.list ps,.list gs]=some (.none,false) \/
  ∃ l,run Fs glo fuel (n+1) "without" [.list ps,.list gs]=some (.list l,false)/\(gs++l).Perm ps/\l.Sublist ps:=by
 have e0:ex (Ga Fs fuel n) (.asg 2 (.prim1 .list (.var 0))) [vl (.list ps),vl (.list gs),none,none]=some (.next [vl (.list ps),vl (.list gs),ow (.list ps),none]):=rfl
 rcases xl2 (Γ:=Ga Fs fuel n) hk (v0:=vl (.list ps)) (v1:=vl (.list gs)) gs ps none hg hp with e|⟨l,v3,e,h1,h2⟩
 ·refine .inl (zz3 h rfl ?_)
  show ex (Ga Fs fuel n) zu5 [vl (.list ps),vl (.list gs),none,none]=_
  rw[zu5,zz0 e0,zz4]
  rw[zy0];exact e
 ·refine .inr (iEAA l (zz3 h rfl ?_) h1 h2)
  show ex (Ga Fs fuel n) zu5 [vl (.list ps),vl (.list gs),none,none]=_
  rw[zu5,zz0 e0,zz0 (by rw[zy0];exact e)]
  rfl
theorem yc2 (h:Has Fs "parts_in" ⟨2,2,zx3⟩)(h2:Has Fs "joined" ⟨2,4,zv8⟩)(n:Nat)(s:Sn){k:Nat}(hk:k<=100){xs:List D}(hc:∀ x∈xs,Can k x)(hp:∀ x∈xs,parts s x=[x])(hw:xs.Pairwise leD)(hl:xs.length<=20) :
  run Fs glo fuel (n+2) "joined" [.str s.str,.list xs]=some (.tuple (.str s.str::xs),false):=by
 have loop:∃ σ',forN (zp3 3) (ex (Ga Fs fuel (n+1)) (.cons (.ext 2 (.call "parts_in" (.cons (.var 0) (.cons (.var 3) .nil)))) .nil)) (xs.map id) [vl (.str s.str),vl (.list xs),ow (.list []),none]=some (.next σ') /\
   ∃ y3,σ'=[vl (.str s.str),vl (.list xs),ow (.list xs),y3]:=by
  refine zv6 id (fun done σ=>∃ y3,σ=[vl (.str s.str),vl (.list xs),ow (.list done),y3]) ⟨_,rfl⟩ ?_
  rintro done x rest σ e ⟨y3,rfl⟩
  have hx:x∈xs:=by exact mm e
  have hr:=zo7 (fuel:=fuel) h n s (hc x hx).shp
  rw[hp x hx]at hr
  have hz:done.length+1<size:=by rw[e]at hl;simp at hl;unfold size;exact ql (xz (qk ..)) (qx hl rfl)
  refine iEEAA _ _ rfl ?_ ⟨vl x,rfl⟩
  rw[zz0 (σ':=[vl (.str s.str),vl (.list xs),ow (.list (done++[x])),vl x]) (by simp[zex1,hr,hz])]
  rfl
 rw[List.map_id]at loop
 (refine xd2 (loop) fun σ' e y3 e_3=>?_;subst e_3)
 have hsl:zx8 xs=xs:=(zp5 (zf6 hc) (vV.refl _) hw).symm
 have hso:zk2 xs=some (.list xs,true):=by
  have:=yj7 (l:=xs) (fun x hx=>(hc x hx).shp) (by exact qy (w5 hk 20) rfl) (by exact qx hl rfl)
  rw[this,hsl]
 have hz1:xs.length+1<=size:=by unfold size;exact qt (xz hl) (by decide)
 have hz2:1+xs.length<=size:=by unfold size;exact qt (qZ hl 1) (by decide)
 refine zz3 h2 rfl ?_
 show ex (Ga Fs fuel (n+1)) zv8 [vl (.str s.str),vl (.list xs),none,none]=_
 rw[zv8,zz0 (σ':=[vl (.str s.str),vl (.list xs),ow (.list []),none]) (rfl),zz0 (by rw[zy0];exact e),zz4 (d:=.tuple (.str s.str::xs)) (f:=false) (by simp[b_ad,zad1,↓mkL1,mkL_,wz9,xp9,zso1,zse1,xp4,hso,hz1])]
noncomputable abbrev Kn:=List (Int×D)
noncomputable def enK (p:Int×D):D×D:=(.int p.1,p.2)
noncomputable abbrev dK (κ:Kn):D:=.dict (κ.map enK)
noncomputable def lk (κ:Kn)(i:Int):Option D:=(κ.find? fun p=>p.1==i).map (·.2)
theorem zp2 (κ:Kn)(i:Int):zq6 (κ.map enK) (.int i)=lk κ i:=by
 induction κ with
 | nil=>rfl
 | cons p r ih =>
  have e:z7 (enK p).1 (.int i)=(p.1==i):=rfl
  simp only[zq6,lk,x6,k7,e]at ih |-
  cases hp:p.1==i with
  | true=>rfl
  | false=>exact ih
theorem yx5 (κ:Kn){i:Int}(v:D)(h:lk κ i=none):dput (κ.map enK) (.int i) v=(κ++[(i,v)]).map enK:=by
 induction κ with
 | nil=>rfl
 | cons p r ih =>
  have e:z7 (enK p).1 (.int i)=(p.1==i):=rfl
  simp only[lk,k7]at h ih
  cases hp:p.1==i with
  | true=>rw[hp]at h;simp at h
  | false =>
   rw[hp]at h
   simp only[x6,ys3,e,hp,vx,if_false,yz]
   rw[ih h]
theorem zd2 (κ:Kn)(i:Int):zs3 (.int i) (κ.map enK)=true:=by
 simp only[zs3,kk_i,Option.isSome_some,Bool.true_and,x8,zX]
 (intro _ h_1;refine elEA h_1 fun p _ e_2=>?_;clear h_1;subst e_2)
 rfl
theorem zu4 (κ:Kn)(i:Int):zk1 (.int i) (κ.map enK)=true:=by simp[zk1,zd2]
theorem yt3 (κ:Kn):zl5 (κ.map enK)=true:=by
 simp only[zl5,x8,zX]
 (intro _ h_1;refine elEA h_1 fun p _ e_2=>?_;clear h_1;subst e_2)
 rfl
theorem xt2 {κ:Kn}{i:Int}{v:D}(h:lk κ i=some v):(i,v)∈κ:=by
 induction κ with
 | nil=>cases h
 | cons p r ih =>
  simp only[lk,k7]at h ih
  cases hp:p.1==i with
  | true=>rw[hp]at h;simp at h hp;subst h hp;simp
  | false=>rw[hp]at h;exact xJ _ (ih h)
theorem wl1 {κ:Kn}{i:Int}(h:lk κ i=none):∀ p∈κ,p.1≠i:=by
 intro p hp e
 simp only[lk,Option.map_eq_none_iff,List.find?_eq_none]at h
 exact h p hp (by simp[e])
theorem xh1 {κ:Kn}(hn:(κ.map (·.1)).Nodup){i:Int}{v:D}(h:(i,v)∈κ):lk κ i=some v:=by
 induction κ with
 | nil=>cases h
 | cons p r ih =>
  simp only[x6,vQ]at hn
  simp only[lk,k7]at ih |-
  rcases zQ.mp h with rfl|h
  ·simp
  ·cases hp:p.1==i with
   | true=>simp at hp;subst hp;exact absurd (zX.mpr (iEA _ h rfl)) hn.1
   | false=>exact ih hn.2 h
noncomputable def Ag (f:Int->D)(κ:Kn):Prop:=∀ p∈κ,f p.1=p.2
theorem Ag.sub {f:Int->D}{κ κ':Kn}(h:Ag f κ')(hs:∀ x∈κ,x∈κ'):Ag f κ:=fun p hp=>h p (hs p hp)
theorem Ag.snoc {f:Int->D}{κ:Kn}{i:Int}{v:D}(h:Ag f κ)(e:f i=v):Ag f (κ++[(i,v)]):=fun p hp=>by
 rcases z6.mp hp with hp|hp
 ·exact h p hp
 ·simp at hp;subst hp;exact e
structure Ext (S P:D)(κ κ':Kn):Prop where
 sub:∀ x∈κ,x∈κ'
 nod:(κ'.map (·.1)).Nodup
 val:∀ x∈κ',x∈κ\/Tri S x.2
 dom:∀ i,Opn i P->∃ v,(i,v)∈κ'
 len:κ'.length<=κ.length+lv P
theorem ym6 {i j:Int}(h:Opn j (.tuple [.str "open", .int i])):j=i:=by
 generalize hd:(wQ [.str "open", .int i])=d at h
 cases h with
 | self=>simp at hd;exact hd.symm
 | @part x s l hx hy=>simp at hd;exact absurd hd.1 (zw1 true s)
theorem Ext.old {S:D}{κ:Kn}(hn:(κ.map (·.1)).Nodup){i:Int}{v:D}(h:lk κ i=some v):Ext S (.tuple [.str "open", .int i]) κ κ :=
 ⟨fun x h=>h,hn,fun x h=>.inl h,fun j hj=>by rw[ym6 hj];exact⟨v,xt2 h⟩,by simp⟩
theorem wy5 {κ:Kn}(hn:(κ.map (·.1)).Nodup){i:Int}{v:D}(h:lk κ i=none):((κ++[(i,v)]).map (·.1)).Nodup:=by
 rw[Zz,ux]
 refine iAA hn (by simp) (fun a ha b hb=>?_)
 simp at hb;subst hb
 (refine elEA (zX.mp ha) fun p hp e_2=>?_;subst e_2)
 exact wl1 h p hp
theorem Ext.new {S:D}{κ:Kn}(hn:(κ.map (·.1)).Nodup){i:Int}{v:D}(h:lk κ i=none)(hv:Tri S v):Ext S (.tuple [.str "open", .int i]) κ (κ++[(i,v)]):=by
 refine⟨fun x h=>u7 _ h,wy5 hn h,fun x hx=>?_,fun j hj=>by rw[ym6 hj];exact⟨v,by simp⟩,by simp[lv_i,lv_s,lv_t,zn4,zt8]⟩
 rcases z6.mp hx with hx|hx
 ·exact .inl hx
 ·simp at hx;subst hx;exact .inr hv
end Pl
end
section
namespace Pl
open Mini PySem
variable {Fs:Fns}{fuel:Nat}
noncomputable abbrev prK (q:List D×Kn):D:=.tuple [.list q.1,dK q.2]
structure Stp (s:Sn)(T:List D)(p:D)(ps:List D)(κ:Kn)(R:List (List D×Kn)):Prop where
 ext:∀ q∈R,Ext (.tuple (.str s.str::T)) p κ q.2
 sub:∀ q∈R,q.1.Sublist ps
 sound:∀ q∈R,∀ f,Ag f q.2->(parts s (fill f p)++q.1).Perm ps
 size:∀ x,zu1 (fun q=>x^lvL q.1) R<=(x+lv p)^lvL ps
noncomputable def ze6:I:=(.cons (.asg 5 (.call "without" (.cons (.var 2) (.cons (.call "parts_in" (.cons (.var 0) (.cons (.idx (.var 4) (.var 1)) .nil))) .nil)))) (.cons (.ret (.ite (.cmp .Is (.var 5) .cnone) (.lst .nil) (.lst (.cons (.tup (.cons (.var 5) (.cons (.var 4) .nil))) .nil)))) .nil))
noncomputable def xi1:I:=(.cons (.asg 8 (.prim1 .dict (.var 4))) (.cons (.sto 8 (.var 1) (.ite (.cmp .Eq (.prim1 .len (.var 7)) (.cint 1)) (.idx (.var 7) (.cint 0)) (.call "joined" (.cons (.var 0) (.cons (.var 7) .nil))))) (.cons (.app 6 (.tup (.cons (.var 5) (.cons (.var 8) .nil)))) .nil)))
noncomputable def yv5:I:=(.cons (.iff (.and (.cons (.cmp .NotEq (.var 7) (.lst .nil)) (.cons (.cmp .GtE (.prim1 .len (.var 5)) (.var 3)) .nil))) xi1 .nil) .nil)
noncomputable def zw0:I:=(.cons (.iff (.cmp .In (.var 1) (.var 4)) ze6 .nil) (.cons (.asg 6 (.lst .nil)) (.cons (.fors [7,5] (.call "choices" (.cons (.var 2) .nil)) yv5) (.cons (.ret (.var 6)) .nil))))
noncomputable def omP (w:Nat)(q:List D×List D):Bool:=!q.1.isEmpty&&decide (w<=q.2.length)
noncomputable def omQ (s:Sn)(i:Int)(κ:Kn)(q:List D×List D):List D×Kn:=(q.2,κ++[(i,zw4 s q.1)])
theorem xt6 (κ:Kn)(i:Int):inD (.int i) (dK κ)=some (lk κ i).isSome:=by
 simp[zin3,zu4,show tkey (.int i)=false from rfl,zp2]
theorem wl9 (κ:Kn)(i:Int):idxD (dK κ) (.int i)=lk κ i:=by
 simp[zix3,zu4,zp2]
theorem zl4:okd (.list [])=true:=by decide +kernel
theorem zh1 (l:List D):z7 (.list l) (.list [])=l.isEmpty:=by cases l<;>rfl
section
variable {s:Sn}{i:Int}{ps:List D}{w:Nat}{κ:Kn}{n:Nat}
noncomputable abbrev omS (s:Sn)(i:Int)(ps:List D)(w:Nat)(κ:Kn)(a b c d:Option AV):Mini.Sg:=[vl (.str s.str),vl (.int i),vl (.list ps),vl (.int w),vl (dK κ),a,b,c,d]
theorem yh5 (h:Has Fs "parts_in" ⟨2,2,zx3⟩)(h2:Has Fs "joined" ⟨2,4,zv8⟩){q:List D×List D}{acc:List (List D×Kn)}{x:Option AV}(hn:lk κ i=none)(hκ:κ.length<size)(hc:∀ x∈q.1,Can 7 x)(hp:∀ x∈q.1,parts s x=[x])(hw:q.1.Pairwise leD)(hl:q.1.length<=20)(ha:acc.length+1<size) :
  ∃ y,ex (Ga Fs fuel (n+2)) yv5 (omS s i ps w κ (vl (.list q.2)) (ow (.list (acc.map prK))) (vl (.list q.1)) x)=some (.next (omS s i ps w κ (vl (.list q.2)) (ow (.list ((acc++(if omP w q then [omQ s i κ q] else [])).map prK))) (vl (.list q.1)) y)):=by
 have o1:okd (.list q.1)=true:=ym9 hc (by lia)
 have hcond:uno (.and (.cons (.cmp .NotEq (.var 7) (.lst .nil)) (.cons (.cmp .GtE (.prim1 .len (.var 5)) (.var 3)) .nil))) (ev (Ga Fs fuel (n+2)) (.and (.cons (.cmp .NotEq (.var 7) (.lst .nil)) (.cons (.cmp .GtE (.prim1 .len (.var 5)) (.var 3)) .nil)))) (omS s i ps w κ (vl (.list q.2)) (ow (.list (acc.map prK))) (vl (.list q.1)) x) =
   some (.bool (omP w q),omS s i ps w κ (vl (.list q.2)) (ow (.list (acc.map prK))) (vl (.list q.1)) x):=by
  exact uand (f:=false) (g:=false) (by simp[c_ne,eqD,↓mkL0,o1,zl4,zh1]) (by simp[c_ge,zh4,zle1])
 cases hP:omP w q with
 | false =>
  refine⟨x,?_⟩
  rw[yv5,zz0 (σ':=omS s i ps w κ (vl (.list q.2)) (ow (.list (acc.map prK))) (vl (.list q.1)) x) (by rw[zz8,hcond,hP];rfl)]
  simp
 | true =>
  have hv:ev (Ga Fs fuel (n+2)) (.ite (.cmp .Eq (.prim1 .len (.var 7)) (.cint 1)) (.idx (.var 7) (.cint 0)) (.call "joined" (.cons (.var 0) (.cons (.var 7) .nil)))) (omS s i ps w κ (vl (.list q.2)) (ow (.list (acc.map prK))) (vl (.list q.1)) (ow (dK κ))) =
    some (zw4 s q.1,false,omS s i ps w κ (vl (.list q.2)) (ow (.list (acc.map prK))) (vl (.list q.1)) (ow (dK κ))):=by
   have hj:=yc2 (fuel:=fuel) h h2 n s (by lia) hc hp hw hl
   match hq:q.1,hj with
   | [],hj=>simp[omP,hq]at hP
   | [y],_=>simp[c_eq,eqD,zh4,zle1,↓wd9,zq4,ys0,zw4]
   | y::z::r,hj =>
    have e:((r.length:Int)+1+1==1)=false:=by simp;lia
    simp[c_eq,eqD,zh4,zle1,zq4,ys0,zw4,hj,e]
  have hk:=zd2 κ i
  have hz:κ.length<size:=hκ
  refine⟨vl (dK (κ++[(i,zw4 s q.1)])),?_⟩
  rw[yv5,zz0 (σ':=omS s i ps w κ (vl (.list q.2)) (ow (.list ((acc++[omQ s i κ q]).map prK))) (vl (.list q.1)) (vl (dK (κ++[(i,zw4 s q.1)])))),if_pos rfl]
  ·rfl
  rw[zz8,hcond,hP]
  show ex _ xi1 _=_
  rw[xi1,zz0 (σ':=omS s i ps w κ (vl (.list q.2)) (ow (.list (acc.map prK))) (vl (.list q.1)) (ow (dK κ))) (by simp[we0,wf2,zco,yt3]),
   zz0 (σ':=omS s i ps w κ (vl (.list q.2)) (ow (.list (acc.map prK))) (vl (.list q.1)) (ow (dK (κ++[(i,zw4 s q.1)])))) (by
    rw[yf2,hv]
    simp[hk,hz,yx5 κ _ hn]),
   zz0 (σ':=omS s i ps w κ (vl (.list q.2)) (ow (.list ((acc++[omQ s i κ q]).map prK))) (vl (.list q.1)) (vl (dK (κ++[(i,zw4 s q.1)])))) (by simp[↓mkT2,ha,omQ])]
  rfl
theorem wh1 {q:List D×List D}{v0 v1 v2 v3 v4 v5 v6 v7 v8:Option AV}:zb9 [7,5] (prD q) [v0,v1,v2,v3,v4,v5,v6,v7,v8]=some [v0,v1,v2,v3,v4,vl (.list q.2),v6,vl (.list q.1),v8]:=by
 rfl
theorem zf2 {α β:Type}(p:α->Bool)(g:α->β):∀ l:List α,(l.flatMap fun x=>if p x then [g x] else [])=(l.filter p).map g
 | []=>rfl
 | x::r=>by
  rw[List.flatMap_cons,zf2 p g r,yV]
  split<;>rfl
theorem yi3 (h:Has Fs "parts_in" ⟨2,2,zx3⟩)(h2:Has Fs "joined" ⟨2,4,zv8⟩)(h3:Has Fs "choices" ⟨1,7,zr1⟩)(h4:Has Fs "open_met" ⟨5,9,zw0⟩)
  (hn:lk κ i=none) (hκ:κ.length<size) (hc:∀ x∈ps,Can 7 x) (hp:∀ x∈ps,parts s x=[x]) (hw:ps.Pairwise leD) (hl:ps.length<=20) :
  ∃ R:List (List D×List D),Seen (zx9 [([],[])] ps) R/\run Fs glo fuel (n+3) "open_met" [.str s.str,.int i,.list ps,.int w,dK κ]=some (.list (((R.filter (omP w)).map (omQ s i κ)).map prK),false):=by
 refine elEA (yc4 (fuel:=fuel) h3 (n+1) hc hl) fun R hR hS=>?_
 refine iEA R hS ?_
 have hRs:∀ q∈R,q.1.Sublist ps:=fun q hq=>by
  refine xd0 (zi1 ps _ q.1 q.2 (hS.mem q hq)) fun q0 h0 t' l' e1 e2 h1 _=>?_
  simp at h0;subst h0;simp at e1;exact e1▸h1
 have hRl:R.length<=2^20:=by
  have:=hS.len
  rw[zm9]at this
  have h2:=u9 (n:=2) (by lia) hl
  simp at this;exact qt this h2
 have loop:∃ σ',forN (zb9 [7,5]) (ex (Ga Fs fuel (n+2)) yv5) (R.map prD) (omS s i ps w κ none (ow (.list [])) none none)=some (.next σ') /\
   ∃ a c d,σ'=omS s i ps w κ a (ow (.list ((R.flatMap fun q=>if omP w q then [omQ s i κ q] else []).map prK))) c d:=by
  refine zv6 prD (fun done σ=>∃ a c d,σ=omS s i ps w κ a (ow (.list ((done.flatMap fun q=>if omP w q then [omQ s i κ q] else []).map prK))) c d) (iEEE _ _ _ rfl) ?_
  (intro done q rest σ e h_1;refine xm2 h_1 fun a c d e_3=>?_;clear h_1;subst e_3)
  have hq:q∈R:=by exact mm e
  have hs:=hRs q hq
  have hz:(done.flatMap fun q=>if omP w q then [omQ s i κ q] else []).length+1<size:=by
   rw[zf2,xj]
   have:=List.length_filter_le (omP w) done
   have:R.length=done.length+(rest.length+1):=by exact lm e
   unfold size;exact ql (xz (qt ‹_› (qk done.length rest.length))) (qx (this▸hRl) rfl)
  obtain ⟨y,ey⟩:=yh5 (fuel:=fuel) (n:=n) (i:=i) (ps:=ps) (w:=w) (κ:=κ) h h2 (q:=q) (x:=d) hn hκ (fun x hx=>hc x (hs.subset hx)) (fun x hx=>hp x (hs.subset hx)) (hw.sublist hs) (qv hs.length_le hl) hz
  refine iEEAA _ _ wh1 ey (iEEE (vl (.list q.2)) (vl (.list q.1)) y ?_)
  simp[List.flatMap_append]
 (refine wj0 (loop) fun σ' e a c d e_5=>?_;subst e_5)
 rw[zf2]at e
 refine zz3 h4 rfl ?_
 show ex (Ga Fs fuel (n+2)) zw0 (omS s i ps w κ none none none none)=_
 rw[zw0,zz0 (σ':=omS s i ps w κ none none none none) (by simp[c_in,xt6,hn]),
  zz0 (σ':=omS s i ps w κ none (ow (.list [])) none none) (rfl),
  zz0 (by rw[zm1,show srcE (ev (Ga Fs fuel (n+2)) (.call "choices" (.cons (.var 2) .nil))) (omS s i ps w κ none (ow (.list [])) none none)=some (R.map prD,omS s i ps w κ none (ow (.list [])) none none) by simp[zit1,hR]];exact e),
  zz4 (d:=.list (((R.filter (omP w)).map (omQ s i κ)).map prK)) (f:=false) (by kernel_rfl)]
theorem yi2 (h:Has Fs "parts_in" ⟨2,2,zx3⟩)(h3:Has Fs "without" ⟨2,4,zu5⟩)(h4:Has Fs "open_met" ⟨5,9,zw0⟩){v:D}{k:Nat}(hk:k<=100)(hs:s≠.pair)
  (hn:lk κ i=some v) (hv:Can k v) (hc:∀ x∈ps,Can k x) :
  ∃ R:List (List D×Kn),run Fs glo fuel (n+2) "open_met" [.str s.str,.int i,.list ps,.int w,dK κ]=some (.list (R.map prK),true) /\
   (R=[]\/∃ l,R=[(l,κ)]/\(parts s v++l).Perm ps/\l.Sublist ps):=by
 have hr:=zo7 (fuel:=fuel) h n s hv.shp
 have e0:ex (Ga Fs fuel (n+1)) (.iff (.cmp .In (.var 1) (.var 4)) ze6 .nil) (omS s i ps w κ none none none none)=ex (Ga Fs fuel (n+1)) ze6 (omS s i ps w κ none none none none):=by
  simp[c_in,xt6,hn]
 rcases yd9 (fuel:=fuel) h3 n hk hc (hv.parts_can hs) with e|⟨l,e,h1,h2⟩
 ·refine iEA [] (zz3 h4 rfl ?_) (.inl rfl)
  show ex (Ga Fs fuel (n+1)) zw0 (omS s i ps w κ none none none none)=_
  rw[zw0]
  refine zz4 (d:=.list []) (f:=true) ?_
  rw[e0,ze6,zz0 (σ':=omS s i ps w κ (vl .none) none none none) (by simp[zix3,zu4,zp2,hn,hr,e]),zz4]
  rfl
 ·refine iEA [(l,κ)] (zz3 h4 rfl ?_) (.inr (iEAA l rfl h1 h2))
  show ex (Ga Fs fuel (n+1)) zw0 (omS s i ps w κ none none none none)=_
  rw[zw0]
  refine zz4 (d:=.list ([(l,κ)].map prK)) (f:=true) ?_
  rw[e0,ze6,zz0 (σ':=omS s i ps w κ (vl (.list l)) none none none) (by simp[zix3,zu4,zp2,hn,hr,e]),zz4]
  rfl
end
end Pl
end
section
namespace Pl
open Mini PySem
variable {Fs:Fns}{fuel:Nat}
theorem wz5 {x a m n:Nat}(h:m<=n):x^m<=(x+a+1)^n :=
 qv (kX (by lia) m) (u9 (by lia) h)
structure Lft (s:Sn)(T ps:List D):Prop where
 sub:ps.Sublist T
 can:∀ x∈T,Can 7 x
 non:∀ x∈T,parts s x=[x]
 srt:T.Pairwise leD
 len:T.length<=20
structure Knw (κ:Kn):Prop where
 nod:(κ.map (·.1)).Nodup
 can:∀ p∈κ,Can 7 p.2
theorem zi0 {ps:List D}{q:List D×List D}(h:q∈zx9 [([],[])] ps):q.1.Sublist ps/\q.2.Sublist ps/\(q.1++q.2).Perm ps:=by
 refine zb8 (zi1 ps _ q.1 q.2 h) fun q0 h0 t' l' e1 e2 h1 h2 h3=>?_
 simp at h0;subst h0;simp at e1 e2;subst e1 e2;exact iAA h1 h2 h3
theorem yb5 (h:Has Fs "parts_in" ⟨2,2,zx3⟩)(h2:Has Fs "joined" ⟨2,4,zv8⟩)(h3:Has Fs "choices" ⟨1,7,zr1⟩)(h4:Has Fs "open_met" ⟨5,9,zw0⟩)(h5:Has Fs "without" ⟨2,4,zu5⟩)
  {s:Sn} (hs:s≠.pair) {T ps:List D} (L:Lft s T ps) {κ:Kn} (K:Knw κ) (hκ:κ.length<size) (i:Int) (w n:Nat) :
  ∃ R fl,run Fs glo fuel (n+3) "open_met" [.str s.str,.int i,.list ps,.int w,dK κ]=some (.list (R.map prK),fl)/\Stp s T (.tuple [.str "open", .int i]) ps κ R:=by
 have hc:∀ x∈ps,Can 7 x:=fun x hx=>L.can x (L.sub.subset hx)
 have hp:∀ x∈ps,parts s x=[x]:=fun x hx=>L.non x (L.sub.subset hx)
 have hw:ps.Pairwise leD:=L.srt.sublist L.sub
 have hl:ps.length<=20:=qv L.sub.length_le L.len
 cases hk:lk κ i with
 | some v =>
  have hm:=xt2 hk
  have hv:=K.can _ hm
  have hf:∀ f,Ag f κ->fill f (.tuple [.str "open", .int i])=v:=fun f ha=>(zo2 f i).trans (ha _ hm)
  refine elEA (yi2 (fuel:=fuel) (n:=n+1) (w:=w) h h5 h4 (by lia) hs hk hv hc) fun R e hR=>?_
  refine iEEA R true e ?_
  rcases hR with rfl|⟨l,rfl,h1,hsb⟩
  ·exact⟨by simp,by simp,by simp,fun x=>vq _⟩
  ·refine⟨fun q hq=>?_,fun q hq=>?_,fun q hq f ha=>?_,fun x=>?_⟩
   ·simp at hq;subst hq;exact Ext.old K.nod hk
   ·simp at hq;subst hq;exact hsb
   ·simp at hq;subst hq;rw[hf f ha];exact h1
   ·simp only[zn2,zt2,lv_i,lv_s,lv_t,zn4,zt8]
    exact wz5 (a:=0) (xh2 hsb)
 | none =>
  refine elEA (yi3 (fuel:=fuel) (n:=n) (w:=w) h h2 h3 h4 hk hκ hc hp hw hl) fun R hS e=>?_
  refine iEEA _ false e ?_
  have hmem:∀ q∈(R.filter (omP w)).map (omQ s i κ),∃ p∈zx9 [([],[])] ps,p.1≠[]/\q=omQ s i κ p:=fun q hq=>by
   (refine elEA (zX.mp hq) fun p hp e_2=>?_;subst e_2)
   obtain ⟨hp1,hp2⟩:=List.mem_filter.mp hp
   refine iEAA p (hS.mem p hp1) (fun e=>?_) rfl
   simp[omP,e]at hp2
  have hof:∀{t:List D},t.Sublist ps->t≠[]->parts s (zw4 s t)=t:=fun {t} ht hn =>
   (yv7 hs hn (qv ht.length_le hl) (fun x hx=>hc x (ht.subset hx)) (fun x hx=>hp x (ht.subset hx)) (hw.sublist ht)).2
  refine⟨fun q hq=>?_,fun q hq=>?_,fun q hq f ha=>?_,fun x=>?_⟩
  ·(refine zx4 (hmem q hq) fun p hp hne e_3=>?_;subst e_3)
   exact Ext.new K.nod hk (.some hs ((zi0 hp).1.trans L.sub) hne)
  ·(refine zx4 (hmem q hq) fun p hp hne e_3=>?_;subst e_3)
   exact(zi0 hp).2.1
  ·(refine zx4 (hmem q hq) fun p hp hne e_3=>?_;subst e_3)
   have hfi:f i=zw4 s p.1:=ha (i,zw4 s p.1) (mr mh)
   rw[zo2,hfi,hof (zi0 hp).1 hne]
   exact(zi0 hp).2.2
  ·have hpos:∀ p∈ps,1<=lv p:=fun p hp=>(hc p hp).lv_pos
   have a1:=yq5 x ps hpos [([],[])]
   have a2:=hS.sum fun l=>x^lvL l
   have a3:=zc4 (fun q:List D×List D=>x^lvL q.2) (omP w) R
   rw[yd1]
   simp only[omQ]
   have e1:lv (.tuple [.str "open", .int i])=1:=by simp[lv_i,lv_s,lv_t,zn4,zt8]
   rw[e1]
   simp only[zn2,zt2,zn4,Nat.pow_zero,ZV,Nat.one_mul]at a1
   exact qv a3 (qv a2 a1)
structure Met (P S:D)(κ:Kn)(R:List Kn):Prop where
 ext:∀ κ'∈R,Ext S P κ κ'
 sound:∀ κ'∈R,∀ f,Ag f κ'->fill f P=S
 size:R.length<=lv P^lv S
theorem Met.none {P S:D}{κ:Kn}:Met P S κ []:=⟨fun _ h=>(nomatch h),fun _ h=>(nomatch h),vq _⟩
noncomputable def xj5:I:=(.cons (.app 3 (.tup (.cons (.bin .Add (.slc (.var 1) .omit (.var 4)) (.slc (.var 1) (.bin .Add (.var 4) (.cint 1)) .omit)) (.cons (.var 5) .nil)))) .nil)
noncomputable def wz6:I:=(.iff (.cmp .NotIn (.idx (.var 1) (.var 4)) (.slc (.var 1) .omit (.var 4))) (.cons (.for1 5 (.call "met" (.cons (.var 0) (.cons (.idx (.var 1) (.var 4)) (.cons (.var 2) .nil)))) xj5) .nil) .nil)
noncomputable def zp9:I:=(.cons (.asg 3 (.lst .nil)) (.cons (.for1 4 (.rng1 (.prim1 .len (.var 1))) (.cons wz6 .nil)) (.cons (.ret (.var 3)) .nil)))
noncomputable abbrev pmS (p:D)(ps:List D)(κ:Kn)(a b c:Option AV):Mini.Sg:=[vl p,vl (.list ps),vl (dK κ),a,b,c]
theorem yi0 {α:Type}(pre post:List α)(j:Int)(hj:j=(pre.length:Int)):zw5 (pre++post) none (some j)=pre:=by
 subst hj
 have e:zn1 (pre++post).length (pre.length:Int)=pre.length:=by
  simp only[zn1,zw]
  rw[if_neg (by lia)]
  simp
 simp only[zw5,e]
 simp
theorem xq8 {α:Type}(pre post:List α)(j:Int)(hj:j=(pre.length:Int)):zw5 (pre++post) (some j) none=post:=by
 subst hj
 have e:zn1 (pre++post).length (pre.length:Int)=pre.length:=by
  simp only[zn1,zw]
  rw[if_neg (by lia)]
  simp
 simp only[zw5,e]
 rw[List.take_length,List.drop_left]
theorem xp7 {Γ:Mini.Env}{p d:D}{pre post:List D}{κ κ':Kn}{acc:List (List D×Kn)}(hl:(pre++d::post).length<=20)(ha:acc.length+1<size) :
  ex Γ xj5 (pmS p (pre++d::post) κ (ow (.list (acc.map prK))) (vl (.int pre.length)) (vl (dK κ')))=some (.next (pmS p (pre++d::post) κ (ow (.list ((acc++[(pre++post,κ')]).map prK))) (vl (.int pre.length)) (vl (dK κ')))):=by
 have hl':pre.length+(post.length+1)<=20:=by simpa using hl
 have e1:=yi0 pre (d::post) (pre.length:Int) rfl
 have e2:zw5 (pre++d::post) (some ((pre.length:Int)+1)) none=post:=by
  have:=xq8 (pre++[d]) post ((pre.length:Int)+1) (by simp)
  simpa using this
 have z1:pre.length+post.length<=size:=by unfold size;exact qy (qt (qZ (qk ..) _) hl') rfl
 have z2:(pre.length:Int).natAbs<2^62:=by exact na62 (qf hl') rfl
 have z3:((pre.length:Int)+1).natAbs<2^62:=by exact na63 (qt (qa (zv _) (w3 ..)) hl') rfl
 rw[xj5,zz0 (σ':=pmS p (pre++d::post) κ (ow (.list ((acc++[(pre++post,κ')]).map prK))) (vl (.int pre.length)) (vl (dK κ'))) (by
  simp only[vz0,sl3,q_oL,oL_]
  simp only[xn9,xe4,wa9,wa5,zv0,wf7,vz4,we5,vz5,wa6,wa3,wb9,res,wf5,sl1,sl4,↓wh7,b_ad,zad1,mkL_,bE_o,bE_v,bE_b,kbe_,vx0,zsl1,bD_,kq_,vy9,kap_,vy5,vy6,vy7,kdu_,vy8,jk,bD_,z2,z3,if_true,e1,e2]
  simp[↓mkT2,z1,ha])]
 rfl
end Pl
end
section
namespace Pl
open Mini PySem
variable {Fs:Fns}{fuel:Nat}
noncomputable def pw (a x:Nat):List D->Nat
 | []=>0
 | d::r=>a^lv d*x^lvL r+x^lv d*pw a x r
theorem pw_a {a x}:pw a x []=0:=rfl
theorem pw_b {a x d r}:pw a x (d::r)=a^lv d*x^lvL r+x^lv d*pw a x r:=rfl
theorem wn9 (a x:Nat):∀{l:List D},(∀ d∈l,1<=lv d)->pw a x l<=(x+a)^lvL l
 | [],_=>vq _
 | d::r,h=>by
  have ih:=wn9 a x (l:=r) fun y hy=>h y (mt hy)
  have h1:=zc8 a x (lv d) (h d mh)
  rw[pw_b,zt8,Nat.pow_add]
  have h2:x^lvL r<=(x+a)^lvL r:=kX (by lia) _
  have h3:=jZ (a^lv d) h2
  have h4:=jZ (x^lv d) ih
  have h5:=uq ((x+a)^lvL r) h1
  rw[Nat.add_mul,wJ a x]at h5
  exact qt (qa h3 h4) h5
theorem xj2 (a x:Nat)(d:D):∀ l:List D,pw a x (l++[d])=pw a x l*x^lv d+x^lvL l*a^lv d
 | []=>by simp[pw_a,pw_b,zn4]
 | y::r=>by
  simp only[yz,pw_b,xj2 a x d r,zx1,zn4,zt8,ZV,Nat.pow_add,Zy,Nat.add_mul]
  simp only[Nat.mul_comm,Nat.mul_left_comm,x0]
theorem yn8 {N:Nat}{done rest:List Nat}{a:Nat}(h:List.range N=done++a::rest):a=done.length/\a<N:=by
 have hl:done.length<N:=by have:=congrArg List.length h;simp at this;exact this▸Nat.lt_add_of_pos_right (Nat.succ_pos _)
 have:=congrArg (fun l=>l[done.length]?) h
 simp[List.getElem?_range hl]at this
 exact⟨this.symm,this▸hl⟩
theorem xp8 {Γ:Mini.Env}{p d:D}{pre post:List D}{κ:Kn}{acc:List (List D×Kn)}{c:Option AV}(hl:(pre++d::post).length<=20)(K:List Kn)(ha:acc.length+K.length<size) :
  ∃ c',forN (zp3 5) (ex Γ xj5) (K.map dK) (pmS p (pre++d::post) κ (ow (.list (acc.map prK))) (vl (.int pre.length)) c)=some (.next (pmS p (pre++d::post) κ (ow (.list ((acc++K.map fun κ'=>(pre++post,κ')).map prK))) (vl (.int pre.length)) c')):=by
 have loop:=zv6 (bnd:=zp3 5) (body:=ex Γ xj5) dK (fun done σ=>∃ c',σ=pmS p (pre++d::post) κ (ow (.list ((acc++done.map fun κ'=>(pre++post,κ')).map prK))) (vl (.int pre.length)) c') (L:=K)
  (σ:=pmS p (pre++d::post) κ (ow (.list (acc.map prK))) (vl (.int pre.length)) c) ⟨c,by simp⟩ (by
   rintro done κ' rest σ e ⟨c',rfl⟩
   have hz:(acc++done.map fun κ'=>(pre++post,κ')).length+1<size:=by
    have:K.length=done.length+(rest.length+1):=by exact lm e
    simp;exact nad (this▸ha)
   refine iEEAA _ _ rfl (xp7 hl hz) ⟨vl (dK κ'),?_⟩
   simp)
 (refine xd2 (loop) fun σ' e c' e_3=>?_;subst e_3)
 exact⟨c',e⟩
structure Pmv (s:Sn)(T:List D)(p:D)(ps:List D)(κ:Kn)(j:Nat)(R:List (List D×Kn)):Prop where
 ext:∀ q∈R,Ext (.tuple (.str s.str::T)) p κ q.2
 sub:∀ q∈R,q.1.Sublist ps
 sound:∀ q∈R,∀ f,Ag f q.2->(fill f p::q.1).Perm ps
 size:∀ x,zu1 (fun q=>x^lvL q.1) R<=pw (lv p) x (ps.take j)*x^lvL (ps.drop j)
theorem xu3 {s:Sn}{T:List D}{p d:D}{pre post:List D}{κ:Kn}{R:List (List D×Kn)}(hd:(pre++d::post).Sublist T)(h:Pmv s T p (pre++d::post) κ pre.length R)
  {K:List Kn} (M:Met p d κ K):Pmv s T p (pre++d::post) κ (pre.length+1) (R++K.map fun κ'=>(pre++post,κ')):=by
 have hdT:d∈T:=hd.subset (mr mh)
 have ht:(pre++d::post).take (pre.length+1)=pre++[d]:=by
  rw[show pre++d::post=(pre++[d])++post by simp,List.take_left' (by simp)]
 have ht0:(pre++d::post).take pre.length=pre:=List.take_left
 have hr:(pre++d::post).drop (pre.length+1)=post:=by
  rw[show pre++d::post=(pre++[d])++post by simp,List.drop_left' (by simp)]
 have hr0:(pre++d::post).drop pre.length=d::post:=List.drop_left
 refine⟨fun q hq=>?_,fun q hq=>?_,fun q hq f ha=>?_,fun x=>?_⟩
 ·rcases z6.mp hq with hq|hq
  ·exact h.ext q hq
  ·(refine elEA (zX.mp hq) fun κ' hk e_2=>?_;subst e_2)
   have e:=M.ext κ' hk
   exact⟨e.sub,e.nod,fun x hx=>(e.val x hx).imp id fun t=>.part hdT t,e.dom,e.len⟩
 ·rcases z6.mp hq with hq|hq
  ·exact h.sub q hq
  ·(refine elEA (zX.mp hq) fun κ' hk e_2=>?_;subst e_2)
   exact(List.Sublist.refl pre).append (List.sublist_cons_self d post)
 ·rcases z6.mp hq with hq|hq
  ·exact h.sound q hq f ha
  ·(refine elEA (zX.mp hq) fun κ' hk e_2=>?_;subst e_2)
   rw[M.sound κ' hk f ha]
   exact List.perm_middle.symm
 ·have a1:=h.size x
  rw[ht0,hr0]at a1
  rw[ht,hr,xj2,sum_append,yd1]
  have a2:zu1 (fun _:Kn=>x^lvL (pre++post)) K<=lv p^lv d*x^lvL (pre++post):=by
   rw[yj2]
   exact uq _ M.size
  rw[zx1,Nat.pow_add]at a2
  rw[zt8,Nat.pow_add]at a1
  have e1:(pw (lv p) x pre*x^lv d+x^lvL pre*lv p^lv d)*x^lvL post=pw (lv p) x pre*(x^lv d*x^lvL post)+lv p^lv d*(x^lvL pre*x^lvL post):=by
   rw[Nat.add_mul]
   simp only[Nat.mul_comm,Nat.mul_assoc,Nat.mul_left_comm]
  rw[e1]
  simp only[zx1,Nat.pow_add]
  exact qa a1 a2
theorem yb3 (h:Has Fs "part_met" ⟨3,6,zp9⟩){m:Nat}{s:Sn}{T ps:List D}(L:Lft s T ps){κ:Kn}{p:D}(hz:(1+lv p)^lvL T<size)
  (hm:∀ x∈T,∃ K fl,run Fs glo fuel m "met" [p,x,dK κ]=some (.list (K.map dK),fl)/\Met p x κ K) (hpf:∀ f,parts s (fill f p)=[fill f p]) :
  ∃ R fl,run Fs glo fuel (m+1) "part_met" [p,.list ps,dK κ]=some (.list (R.map prK),fl)/\Stp s T p ps κ R:=by
 have hc:∀ x∈ps,Can 7 x:=fun x hx=>L.can x (L.sub.subset hx)
 have hl:ps.length<=20:=qv L.sub.length_le L.len
 have hpos:∀ x∈ps,1<=lv x:=fun x hx=>(hc x hx).lv_pos
 have hlen:∀{j:Nat}{R:List (List D×Kn)},Pmv s T p ps κ j R->R.length<size:=fun {j R} V=>by
  have a:=V.size 1
  simp only[Nat.one_pow,yw2,Nat.mul_one]at a
  have b:=wn9 (lv p) 1 (l:=ps.take j) fun d hd=>hpos d (List.mem_of_mem_take hd)
  have c:lvL (ps.take j)<=lvL T:=xh2 ((List.take_sublist j ps).trans L.sub)
  have d:=u9 (n:=1+lv p) (by lia) c
  exact ql (qt a (qt b d)) hz
 have loop:=zv6 (bnd:=zp3 4) (body:=ex (Ga Fs fuel m) (.cons wz6 .nil)) (fun k:Nat=>vj (0+(k:Int))) (fun done σ=>∃ R a c,Pmv s T p ps κ done.length R/\σ=pmS p ps κ (ow (.list (R.map prK))) a c) (L:=List.range ps.length)
  (σ:=pmS p ps κ (ow (.list [])) none none) (iEEEA [] none none ⟨by simp,by simp,by simp,fun x=>vq _⟩ rfl) (by
   (intro done a rest σ e h_1;refine elEEEA h_1 fun R b c V e_4=>?_;clear h_1;subst e_4)
   obtain ⟨ea,hlt⟩:=yn8 e
   rw[<- ea]at V
   have hsp:ps=ps.take a++ps[a]::ps.drop (a+1):=by rw[<- kQ hlt,List.take_append_drop]
   have hpl:(ps.take a).length=a:=by simp;exact wV (zz hlt)
   generalize hpre:ps.take a=pre at *
   generalize hpost:ps.drop (a+1)=post at *
   generalize hd:ps[a]=d at *
   rw[<- hpl]at V
   have hdm:d∈ps:=by rw[<- hd];exact vX hlt
   refine elEEA (hm d (L.sub.subset hdm)) fun K fl eK M=>?_
   have okp:∀ x∈pre,okd x=true:=fun x hx=>(hc x (by exact mml hsp hx)).okd (by lia)
   have okd':=(hc d hdm).okd (by lia)
   have pp:∀ x∈pre,zz9 x=true:=fun x hx=>(hc x (by exact mml hsp hx)).plain
   have hal:pre.all okd=true:=x8.mpr okp
   have hz2:(a:Int).natAbs<2^62:=by exact na62 (qt (zz hlt) hl) rfl
   have hz3:a<4611686018427387904:=by exact qx (qt (zz hlt) hl) rfl
   have hidx:(pre++d::post)[a]?=some d:=by rw[<- hpl];simp
   have hslc:zw5 (pre++d::post) none (some (a:Int))=pre:=yi0 pre (d::post) a (by rw[hpl])
   have hdone:(done++[a]).length=pre.length+1:=by simp[hpl,ea]
   subst hsp
   by_cases hin:d∈pre
   ·have hnin:inD d (.list pre)=some true:=by rw[yx4,okd',hal,(yk3 (hc d hdm).plain pp).mpr hin];rfl
    refine iEEAA _ (pmS p (pre++d::post) κ (ow (.list (R.map prK))) (vl (.int a)) c) (by rw[Int.zero_add];rfl) ?_ (iEEEA (R++[].map fun κ'=>(pre++post,κ')) (vl (.int a)) c ?_ (by simp))
    ·rw[zz0 (σ':=pmS p (pre++d::post) κ (ow (.list (R.map prK))) (vl (.int a)) c) (by
      rw[wz6,zz8]
      simp[zv0,zz7,c_ni,zix1,bE_o,bE_v,zsl1,bD_,hidx,hz3,hslc,hnin])]
     rfl
    ·rw[hdone];exact xu3 L.sub V .none
   ·have hnin:inD d (.list pre)=some false:=by
     have hf:(pre.any fun y=>z7 y d)=false:=by
      rw[<- ZZ];exact fun e=>hin ((yk3 (hc d hdm).plain pp).mp e)
     rw[yx4,okd',hal,hf];rfl
    have V':=xu3 L.sub V M
    have hzz:=hlen V'
    simp only[zw,xj]at hzz
    obtain ⟨c',ec⟩:=xp8 (Γ:=Ga Fs fuel m) (p:=p) (d:=d) (pre:=pre) (post:=post) (κ:=κ) (acc:=R) (c:=c) hl K hzz
    rw[hpl]at ec
    refine iEEAA _ _ (by rw[Int.zero_add];rfl) ?_ (iEEEA _ (vl (.int a)) c' (by rw[hdone];exact V') rfl)
    rw[zz0 (σ':=pmS p (pre++d::post) κ (ow (.list ((R++K.map fun κ'=>(pre++post,κ')).map prK))) (vl (.int a)) c') (by
     rw[wz6,zz8]
     have hcond:uno (.cmp .NotIn (.idx (.var 1) (.var 4)) (.slc (.var 1) .omit (.var 4))) (ev (Ga Fs fuel m) (.cmp .NotIn (.idx (.var 1) (.var 4)) (.slc (.var 1) .omit (.var 4)))) (pmS p (pre++d::post) κ (ow (.list (R.map prK))) (vl (.int a)) c)=some (.bool true,pmS p (pre++d::post) κ (ow (.list (R.map prK))) (vl (.int a)) c):=by
      simp[zv0,c_ni,zix1,bE_o,bE_v,zsl1,bD_,hidx,hz3,hslc,hnin]
     show (uno _ _ (pmS p (pre++d::post) κ (ow (.list (R.map prK))) (vl (.int a)) c)).bind _=_
     rw[hcond]
     show ex _ (.cons _ .nil) _=_
     rw[zz0 (σ':=pmS p (pre++d::post) κ (ow (.list ((R++K.map fun κ'=>(pre++post,κ')).map prK))) (vl (.int a)) c')]
     ·rfl
     rw[zy0,show srcE (ev (Ga Fs fuel m) (.call "met" (.cons (.var 0) (.cons (.idx (.var 1) (.var 4)) (.cons (.var 2) .nil))))) (pmS p (pre++d::post) κ (ow (.list (R.map prK))) (vl (.int a)) c)=some (K.map dK,pmS p (pre++d::post) κ (ow (.list (R.map prK))) (vl (.int a)) c) by simp[zix1,zit1,hidx,eK]]
     exact ec)]
    rfl)
 (refine xr0 (loop) fun σ' e R b c V e_6=>?_;subst e_6)
 rw[List.length_range]at V
 refine iEEA R false (zz3 h rfl ?_) ⟨V.ext,V.sub,fun q hq f ha=>?_,fun x=>?_⟩
 ·show ex (Ga Fs fuel m) zp9 (pmS p ps κ none none none)=_
  have hsz:zy8 (ps.length:Int)=true:=by simp only[zy8,decide_eq_true_eq];exact na62 hl rfl
  have hsz2:ps.length<=size:=by unfold size;exact qy hl rfl
  rw[zp9,zz0 (σ':=pmS p ps κ (ow (.list [])) none none) (by simp[↓mkL0]),
   zz0 (by
    rw[zy0,show srcE (ev (Ga Fs fuel m) (.rng1 (.prim1 .len (.var 1)))) (pmS p ps κ (ow (.list [])) none none)=some ((List.range ps.length).map fun k:Nat=>vj (0+(k:Int)),pmS p ps κ (ow (.list [])) none none) by
     simp[zh4,zle1,zai,zit1,hsz,hsz2,zu7]]
    exact e),
   zz4 (d:=.list (R.map prK)) (f:=false) (by simp)]
 ·rw[hpf];exact V.sound q hq f ha
 ·have a:=V.size x
  rw[List.take_length,List.drop_length]at a
  simp only[zn4,Nat.pow_zero,Nat.mul_one]at a
  exact qv a (wn9 (lv p) x hpos)
end Pl
end
section
namespace Pl
open Mini PySem
theorem ze5 {i:Int}{s:Sn}{l:List D}(h:Opn i (.tuple (.str s.str::l))):∃ p∈l,Opn i p:=by
 generalize hd:(wQ (.str s.str::l))=d at h
 cases h with
 | self=>simp at hd;exact absurd hd.1.symm (zw1 true s)
 | @part x s' l' hx hy=>simp at hd;obtain ⟨_,rfl⟩:=hd;exact iEA x hx hy
theorem zq5 (s:Str)(l:List D):lv (.tuple (.str s::l))=lvL l:=by simp[lv_s,lv_t,zt8]
theorem Ext.join {S p:D}{s:Sn}{done:List D}{κ κ1 κ2:Kn}(h1:Ext S (.tuple (.str s.str::done)) κ κ1)(h2:Ext S p κ1 κ2):Ext S (.tuple (.str s.str::(done++[p]))) κ κ2 where
 sub:=fun x hx=>h2.sub x (h1.sub x hx)
 nod:=h2.nod
 val:=fun x hx=>by
  rcases h2.val x hx with q|q
  ·exact h1.val x q
  ·exact .inr q
 dom:=fun i hi=>by
  refine elEA (ze5 hi) fun y hy ho=>?_
  rcases z6.mp hy with hy|hy
  ·obtain ⟨v,hv⟩:=h1.dom i (.part hy ho)
   exact⟨v,h2.sub _ hv⟩
  ·simp at hy;subst hy;exact h2.dom i ho
 len:=by
  have a:=h1.len
  have b:=h2.len
  rw[zq5]at a |-
  rw[zx1]
  simp only[zn4,zt8]
  exact qt b (qt (w5 a _) (xx (x0 ..)))
noncomputable def fl (s:Sn)(f:Int->D)(l:List D):List D:=l.flatMap fun p=>parts s (fill f p)
theorem yg7 (s:Sn)(f:Int->D)(a b:List D):fl s f (a++b)=fl s f a++fl s f b:=by simp[fl]
theorem wr2 (s:Sn)(f:Int->D)(p:D):fl s f [p]=parts s (fill f p):=by simp[fl]
structure Acc (s:Sn)(S p:D)(qs acc:List (List D×Kn)):Prop where
 back:∀ q'∈acc,∃ q∈qs,Ext S p q.2 q'.2/\q'.1.Sublist q.1/\∀ f,Ag f q'.2->(parts s (fill f p)++q'.1).Perm q.1
 size:∀ x,zu1 (fun q=>x^lvL q.1) acc<=zu1 (fun q=>(x+lv p)^lvL q.1) qs
theorem Acc.nil {s:Sn}{S p:D}:Acc s S p [] []:=⟨by simp,fun x=>zv _⟩
theorem Acc.snoc {s:Sn}{T:List D}{p:D}{qs acc R:List (List D×Kn)}{q:List D×Kn}(h:Acc s (.tuple (.str s.str::T)) p qs acc)(hR:Stp s T p q.1 q.2 R):Acc s (.tuple (.str s.str::T)) p (qs++[q]) (acc++R):=by
 refine⟨fun q' hq=>?_,fun x=>?_⟩
 ·rcases z6.mp hq with hq|hq
  ·refine elEA (h.back q' hq) fun q0 h0 e=>?_
   exact iEA q0 (by simp[h0]) e
  ·exact iEAAA q (by simp) (hR.ext q' hq) (hR.sub q' hq) (hR.sound q' hq)
 ·rw[sum_append,sum_append]
  have a:=h.size x
  have b:=hR.size x
  simp only[zn2,zt2]
  exact qa a b
structure Sts (s:Sn)(T:List D)(κ:Kn)(done:List D)(sts:List (List D×Kn)):Prop where
 ext:∀ q∈sts,Ext (.tuple (.str s.str::T)) (.tuple (.str s.str::done)) κ q.2
 sub:∀ q∈sts,q.1.Sublist T
 sound:∀ q∈sts,∀ f,Ag f q.2->(fl s f done++q.1).Perm T
 size:∀ x,zu1 (fun q=>x^lvL q.1) sts<=(x+lvL done)^lvL T
theorem Sts.init {s:Sn}{T:List D}{κ:Kn}(hn:(κ.map (·.1)).Nodup):Sts s T κ [] [(T,κ)]:=by
 refine⟨fun q hq=>?_,fun q hq=>?_,fun q hq f ha=>?_,fun x=>by simp[zn2,zt2,zn4]⟩
 ·simp at hq;subst hq
  refine⟨fun x h=>h,hn,fun x h=>.inl h,fun i hi=>?_,by simp⟩
  refine elEA (ze5 hi) fun p hp _=>?_
  cases hp
 ·simp at hq;subst hq;exact List.Sublist.refl _
 ·simp at hq;subst hq;simp[fl]
theorem Sts.next {s:Sn}{T:List D}{κ:Kn}{done:List D}{p:D}{sts acc:List (List D×Kn)}(h:Sts s T κ done sts)(hA:Acc s (.tuple (.str s.str::T)) p sts acc):Sts s T κ (done++[p]) acc:=by
 refine⟨fun q hq=>?_,fun q hq=>?_,fun q hq f ha=>?_,fun x=>?_⟩
 ·refine zx4 (hA.back q hq) fun q0 h0 h1 _=>?_
  exact(h.ext q0 h0).join h1
 ·refine elEAAA (hA.back q hq) fun q0 h0 _ h2 _=>?_
  exact h2.trans (h.sub q0 h0)
 ·refine elEAAA (hA.back q hq) fun q0 h0 h1 h2 h3=>?_
  have a:=h.sound q0 h0 f (ha.sub h1.sub)
  rw[yg7,wr2,w6]
  exact((h3 f ha).append_left _).trans a
 ·refine qv (hA.size x) (qv (h.size (x+lv p)) ?_)
  rw[zx1]
  simp only[zn4,zt8,ZV]
  exact xx (by rw[show x+lv p+lvL done=x+(lvL done+lv p) by lia])
theorem yg9 {k:Nat}{s:Sn}{p:D}(hp:Can k p)(hn:parts s p=[p])(hs:s≠.pair)(ho:∀ i,p≠.tuple [.str "open", .int i])(f:Int->D):parts s (fill f p)=[fill f p]:=by
 cases hp with
 | leaf k o n =>
  cases o with
  | true=>exact absurd rfl (ho n)
  | false=>rw[show lstr false = "name" from rfl,zd4];exact zs7 s false n
 | pair _ _=>rw[zo1];exact zn8 hs _ _
 | @join k s' l hs' h2 _ _ _ _ =>
  rw[zo3 f hs']
  refine zp7 ?_ _
  rintro rfl
  rw[zu3]at hn
  have:=congrArg List.length hn
  simp at this;lia
theorem Sts.met {s:Sn}(hs:s≠.pair){T l:List D}{κ:Kn}{sts:List (List D×Kn)}(h:Sts s T κ l sts)(hc:∀ x∈T,Can 7 x)(hw:T.Pairwise leD):Met (.tuple (.str s.str::l)) (.tuple (.str s.str::T)) κ ((sts.filter fun q=>q.1.isEmpty).map (·.2)):=by
 have key:∀ f,fill f (.tuple (.str s.str::l))=.tuple (.str s.str::zx8 (fl s f l)):=fun f=>by
  rw[zo3 f hs]
  simp[fl,List.flatMap_map]
 refine⟨fun κ' hk=>?_,fun κ' hk f ha=>?_,?_⟩
 ·(refine elEA (zX.mp hk) fun q hq e_2=>?_;subst e_2)
  exact h.ext q (List.mem_filter.mp hq).1
 ·(refine elEA (zX.mp hk) fun q hq e_2=>?_;subst e_2)
  obtain ⟨hq1,hq2⟩:=List.mem_filter.mp hq
  have hp:=h.sound q hq1 f ha
  rw[List.isEmpty_iff.mp hq2,Qj]at hp
  rw[key,<- zp5 ((zf6 hc).perm hp) hp.symm hw]
 ·have a:=h.size 0
  rw[zq5,zq5,xj,u0]at *
  refine qv ?_ a
  refine qv (xo5 (g:=fun q:List D×Kn=>0^lvL q.1) fun q hq=>?_) (zc4 _ _ _)
  rw[List.isEmpty_iff.mp (List.mem_filter.mp hq).2]
  simp[zn4]
variable {Fs:Fns}{fuel:Nat}
theorem wq8 {α:Type}(g:α->Nat){a b:List α}(h:a.Sublist b):zu1 g a<=zu1 g b:=by
 induction h with
 | slnil=>exact zv _
 | cons _ _ ih=>simp only[zt2];lia
 | cons_cons _ _ ih=>simp only[zt2];lia
noncomputable def xz6:I:=(.ext 6 (.call "open_met" (.cons (.idx (.var 0) (.cint 0)) (.cons (.idx (.var 5) (.cint 1)) (.cons (.var 7) (.cons (.bin .Sub (.bin .Sub (.prim1 .len (.var 0)) (.cint 1)) (.var 4)) (.cons (.var 8) .nil)))))))
noncomputable def xz5:I:=(.ext 6 (.call "part_met" (.cons (.var 5) (.cons (.var 7) (.cons (.var 8) .nil)))))
noncomputable def xg1:I:=(.cons (.iff (.cmp .Eq (.idx (.var 5) (.cint 0)) (.cstr "open")) (.cons xz6 .nil) (.cons xz5 .nil)) .nil)
noncomputable def xz9:I:=(.cons (.asg 5 (.idx (.var 0) (.var 4))) (.cons (.asg 6 (.lst .nil)) (.cons (.fors [7,8] (.var 3) xg1) (.cons (.asg 3 (.var 6)) .nil))))
noncomputable def xz7:I:=(.compT 2 (.var 10) (.var 3) (.cmp .Eq (.var 9) (.lst .nil)))
noncomputable def xz8:I:=(.iff (.cmp .NotEq (.idx (.var 1) (.cint 0)) (.idx (.var 0) (.cint 0))) (.cons (.ret (.lst .nil)) .nil) .nil)
noncomputable def zt4:I:=(.cons xz8 (.cons (.asg 3 (.lst (.cons (.tup (.cons (.prim1 .list (.slc (.var 1) (.cint 1) .omit)) (.cons (.var 2) .nil))) .nil))) (.cons (.for1 4 (.rng (.cint 1) (.prim1 .len (.var 0))) xz9) (.cons (.ret xz7) .nil))))
section
variable {s:Sn}{l:List D}{S:D}{κ:Kn}{m:Nat}
noncomputable abbrev jmS (s:Sn)(l:List D)(S:D)(κ:Kn)(a b c d e g:Option AV):Mini.Sg:=[vl (.tuple (.str s.str::l)),vl S,vl (dK κ),a,b,c,d,e,g]
noncomputable def wb6 (Fs:Fns)(fuel m:Nat)(s:Sn)(p:D)(w:Nat)(q:List D×Kn)(R:List (List D×Kn)):Prop :=
 (∃ i f,p=.tuple [.str "open", .int i]/\run Fs glo fuel m "open_met" [.str s.str,.int i,.list q.1,.int w,dK q.2]=some (.list (R.map prK),f)) \/
 (∃ x r f,p=.tuple (.str x::r)/\okd (.str x)=true/\(x == "open")=false/\run Fs glo fuel m "part_met" [p,.list q.1,dK q.2]=some (.list (R.map prK),f))
theorem xo7 {a:Option AV}{p:D}{w j:Nat}{q:List D×Kn}{acc R:List (List D×Kn)}(hw:l.length=j+w)(h:wb6 Fs fuel m s p w q R)(hz:acc.length+R.length<size) :
  ex (Ga Fs fuel m) xg1 (jmS s l S κ a (vl (.int j)) (vl p) (ow (.list (acc.map prK))) (vl (.list q.1)) (vl (dK q.2)))=some (.next (jmS s l S κ a (vl (.int j)) (vl p) (ow (.list ((acc++R).map prK))) (vl (.list q.1)) (vl (dK q.2)))):=by
 have hz':(acc.map prK).length+(R.map prK).length<size:=by simpa using hz
 rcases h with ⟨i,f,rfl,e⟩|⟨x,r,f,rfl,h1,h2,e⟩
 ·have ew:((l.length:Int)+1 - 1 - (j:Int))=(w:Int):=by rw[Int.add_sub_cancel,hw];exact Int.sub_eq_iff_eq_add'.mpr rfl
  rw[xg1,zz0 (σ':=jmS s l S κ a (vl (.int j)) (vl (.tuple [.str "open", .int i])) (ow (.list ((acc++R).map prK))) (vl (.list q.1)) (vl (dK q.2)))]
  ·rfl
  rw[zz8,show uno (.cmp .Eq (.idx (.var 5) (.cint 0)) (.cstr "open")) (ev (Ga Fs fuel m) (.cmp .Eq (.idx (.var 5) (.cint 0)) (.cstr "open"))) (jmS s l S κ a (vl (.int j)) (vl (.tuple [.str "open", .int i])) (ow (.list (acc.map prK))) (vl (.list q.1)) (vl (dK q.2)))=some (.bool true,jmS s l S κ a (vl (.int j)) (vl (.tuple [.str "open", .int i])) (ow (.list (acc.map prK))) (vl (.list q.1)) (vl (dK q.2))) by
   kernel_rfl]
  show ex _ (.cons xz6 .nil) _=_
  rw[zz0 (σ':=jmS s l S κ a (vl (.int j)) (vl (.tuple [.str "open", .int i])) (ow (.list ((acc++R).map prK))) (vl (.list q.1)) (vl (dK q.2)))]
  ·rfl
  rw[xz6]
  have ew2:((l.length:Int) - (j:Int))=(w:Int):=by lia
  simp[wh6,zh4,zle2,zex1,↓zp1,↓zb4,ew2,e,hz]
 ·rw[xg1,zz0 (σ':=jmS s l S κ a (vl (.int j)) (vl (.tuple (.str x::r))) (ow (.list ((acc++R).map prK))) (vl (.list q.1)) (vl (dK q.2)))]
  ·rfl
  rw[zz8,show uno (.cmp .Eq (.idx (.var 5) (.cint 0)) (.cstr "open")) (ev (Ga Fs fuel m) (.cmp .Eq (.idx (.var 5) (.cint 0)) (.cstr "open"))) (jmS s l S κ a (vl (.int j)) (vl (.tuple (.str x::r))) (ow (.list (acc.map prK))) (vl (.list q.1)) (vl (dK q.2)))=some (.bool false,jmS s l S κ a (vl (.int j)) (vl (.tuple (.str x::r))) (ow (.list (acc.map prK))) (vl (.list q.1)) (vl (dK q.2))) by
   simp[c_eq,eqD,↓zp1,zp0,zu0,h1,h2]]
  show ex _ (.cons xz5 .nil) _=_
  rw[zz0 (σ':=jmS s l S κ a (vl (.int j)) (vl (.tuple (.str x::r))) (ow (.list ((acc++R).map prK))) (vl (.list q.1)) (vl (dK q.2)))]
  ·rfl
  rw[xz5]
  simp[zex1,e,hz]
theorem wh0 {q:List D×Kn}{v0 v1 v2 v3 v4 v5 v6 v7 v8:Option AV}:zb9 [7,8] (prK q) [v0,v1,v2,v3,v4,v5,v6,v7,v8]=some [v0,v1,v2,v3,v4,v5,v6,vl (.list q.1),vl (dK q.2)]:=by
 rfl
noncomputable def jmc:D->Bool
 | .tuple [.list t,_]=>t.isEmpty
 | _=>false
noncomputable def jmf:D->D
 | .tuple [_,y]=>y
 | y=>y
theorem jmc_ {q:List D×Kn}:jmc (prK q)=q.1.isEmpty:=rfl
theorem xz3 (h:Has Fs "join_met" ⟨3,9,zt4⟩)(hs:s≠.pair){T:List D}(L:Lft s T T)(hlen:l.length<=20)
  (hn:(κ.map (·.1)).Nodup) (hz:(1+lvL l)^lvL T<size)
  (hp:∀ done p rest,l=done++p::rest->∀ q:List D×Kn,q.1.Sublist T->Ext (.tuple (.str s.str::T)) (.tuple (.str s.str::done)) κ q.2->∃ R,wb6 Fs fuel m s p rest.length q R/\Stp s T p q.1 q.2 R) :
  ∃ K f,run Fs glo fuel (m+1) "join_met" [.tuple (.str s.str::l),.tuple (.str s.str::T),dK κ]=some (.list (K.map dK),f)/\Met (.tuple (.str s.str::l)) (.tuple (.str s.str::T)) κ K:=by
 have hpos:∀ x∈T,1<=lv x:=fun x hx=>(L.can x hx).lv_pos
 have body:∀ done p rest sts,l=done++p::rest->Sts s T κ done sts->∀(a c d e g:Option AV),(a=vl (.list (sts.map prK))\/a=ow (.list (sts.map prK))) ->
   ∃ acc c' d' e' g',ex (Ga Fs fuel m) xz9 (jmS s l (.tuple (.str s.str::T)) κ a (vl (.int ((done.length+1:Nat):Int))) c d e g)=some (.next (jmS s l (.tuple (.str s.str::T)) κ (vl (.list (acc.map prK))) (vl (.int ((done.length+1:Nat):Int))) c' d' e' g'))/\Sts s T κ (done++[p]) acc:=by
  intro done p rest sts el hS a c d e g hx
  have hwl:l.length=(done.length+1)+rest.length:=by rw[el];simp;lia
  have htot:∀ qs acc,Acc s (.tuple (.str s.str::T)) p qs acc->qs.Sublist sts->acc.length<size:=fun qs acc A hsub=>by
   have a1:=A.size 1
   simp only[Nat.one_pow,yw2]at a1
   have a2:zu1 (fun q:List D×Kn=>(1+lv p)^lvL q.1) qs<=zu1 (fun q:List D×Kn=>(1+lv p)^lvL q.1) sts:=wq8 _ hsub
   have a3:=hS.size (1+lv p)
   have a4:1+lv p+lvL done<=1+lvL l:=by rw[el,zx1];simp only[zt8];rw[x0];exact qZ (qt (xx (wJ ..)) (qZ (qk ..) _)) 1
   have a5:=kX a4 (lvL T)
   exact ql (qt a1 (qt a2 (qt a3 a5))) hz
  have loop:=zv6 (bnd:=zb9 [7,8]) (body:=ex (Ga Fs fuel m) xg1) prK (fun qs σ=>∃ acc e' g',Acc s (.tuple (.str s.str::T)) p qs acc/\σ=jmS s l (.tuple (.str s.str::T)) κ (vl (.list (sts.map prK))) (vl (.int ((done.length+1:Nat):Int))) (vl p) (ow (.list (acc.map prK))) e' g') (L:=sts)
   (σ:=jmS s l (.tuple (.str s.str::T)) κ (vl (.list (sts.map prK))) (vl (.int ((done.length+1:Nat):Int))) (vl p) (ow (.list [])) e g) (iEEEA [] e g Acc.nil rfl) (by
    (intro qs q rq σ eq h_1;refine elEEEA h_1 fun acc e' g' A e_4=>?_;clear h_1;subst e_4)
    have hq:q∈sts:=by exact mm eq
    obtain ⟨R,hR,hstp⟩:=hp done p rest el q (hS.sub q hq) (hS.ext q hq)
    have A':=A.snoc hstp
    have hzz:=htot (qs++[q]) (acc++R) A' (by rw[eq,show qs++q::rq=(qs++[q])++rq by simp];exact List.sublist_append_left _ _)
    rw[zw]at hzz
    exact iEEAA _ _ wh0 (xo7 hwl hR hzz) (iEEEA (acc++R) (vl (.list q.1)) (vl (dK q.2)) A' rfl))
  obtain ⟨σ',eloop,acc,e',g',A,rfl⟩:=loop
  refine yt5 acc (vl p) (vl (.list (acc.map prK))) e' g' ?_ (hS.next A)
  have hidx:l[done.length]?=some p:=by rw[el];simp
  have ei:((done.length:Int)+1).toNat=done.length+1:=by rfl
  have ei0:(0:Int)<=(done.length:Int)+1:=by exact Int.add_nonneg (Q8 _) (by decide)
  exact xn (σ':=jmS s l (.tuple (.str s.str::T)) κ a (vl (.int ((done.length+1:Nat):Int))) (vl p) d e g) (by simp[zix2,hidx,ei,ei0])
   (xn (σ':=jmS s l (.tuple (.str s.str::T)) κ a (vl (.int ((done.length+1:Nat):Int))) (vl p) (ow (.list [])) e g) rfl (xn (xws (by rcases hx with rfl|rfl<;>rfl) eloop) rfl))
 have loop:=zv6 (bnd:=zp3 4) (body:=ex (Ga Fs fuel m) xz9) (fun k:Nat=>vj (1+(k:Int))) (fun dn σ=>∃ sts a b c d e g,Sts s T κ (l.take dn.length) sts/\(a=vl (.list (sts.map prK))\/a=ow (.list (sts.map prK)))/\σ=jmS s l (.tuple (.str s.str::T)) κ a b c d e g) (L:=List.range l.length)
  (σ:=jmS s l (.tuple (.str s.str::T)) κ (ow (.list ([(T,κ)].map prK))) none none none none none) (yo1 [(T,κ)] _ _ _ _ _ _ (Sts.init hn) (.inr rfl) rfl) (by
   (intro dn k rest σ e h_1;refine xx0 h_1 fun sts a b c d e' g hS hx e_9=>?_;clear h_1;subst e_9)
   obtain ⟨ek,hlt⟩:=yn8 e
   rw[<- ek]at hS
   have hsp:l=l.take k++l[k]::l.drop (k+1):=by rw[<- kQ hlt,List.take_append_drop]
   have hkl:(l.take k).length=k:=by simp;exact wV (zz hlt)
   obtain ⟨acc,c2,d2,e2,g2,eb,hS'⟩:=body _ _ _ sts hsp hS a c d e' g hx
   rw[hkl]at eb
   have ht:l.take (dn++[k]).length=l.take k++[l[k]]:=by
    rw[zw,<- ek,List.length_singleton,List.take_add_one,qJ hlt];rfl
   have ei:(1+(k:Int))=((k+1:Nat):Int):=by lia
   refine iEEAA _ _ (by rw[ei];rfl) eb (yo1 acc (vl (.list (acc.map prK))) (vl (.int ((k+1:Nat):Int))) c2 d2 e2 g2 (ht▸hS') (.inl rfl) rfl))
 obtain ⟨σ',eloop,sts,a,b,c,d,e,g,hS,hx,rfl⟩:=loop
 rw[List.length_range,List.take_length]at hS
 have hstl:sts.length<size:=by
  have a1:=hS.size 1
  simp only[Nat.one_pow,yw2]at a1
  exact ql a1 hz
 have hM:=hS.met hs L.can L.srt
 refine iEEA _ true (zz3 h rfl ?_) hM
 show ex (Ga Fs fuel m) zt4 (jmS s l (.tuple (.str s.str::T)) κ none none none none none none)=_
 have hcomp:=zm5 (n:=9) (bc:=tupN 2) (cond:=zm4 (.cmp .Eq (.var 9) (.lst .nil)) (ev (Ga Fs fuel m) (.cmp .Eq (.var 9) (.lst .nil)))) (elt:=ev (Ga Fs fuel m) (.var 10)) (σ:=jmS s l (.tuple (.str s.str::T)) κ (vl (.list (sts.map prK))) b c d e g)
  (c:=jmc) (F:=jmf) rfl (ds:=sts.map prK) fun x hx=>by
   obtain ⟨q,hq,rfl⟩:=zX.mp hx
   have hok:okd (.list q.1)=true:=ym9 (fun y hy=>L.can y ((hS.sub q hq).subset hy)) (by lia)
   refine iEAA [.list q.1,dK q.2] rfl ?_ (fun _=>⟨false,rfl⟩)
   simp[c_eq,eqD,↓mkL0,cE_c,hok,zl4,zh1,jmc_]
 have hmap:((sts.map prK).filter jmc).map jmf=((sts.filter fun q=>q.1.isEmpty).map (·.2)).map dK:=by
  rw[List.filter_map,yk,yk]
  rfl
 have hKl:(((sts.filter fun q=>q.1.isEmpty).map (·.2)).map dK).length<=size:=by
  rw[xj,xj]
  have:=List.length_filter_le (fun q:List D×Kn=>q.1.isEmpty) sts
  exact qt this (zz hstl)
 have hlast:ex (Ga Fs fuel m) (.ret xz7) (jmS s l (.tuple (.str s.str::T)) κ a b c d e g)=some (.ret (.list (((sts.filter fun q=>q.1.isEmpty).map (·.2)).map dK)) true):=by
  rw[zj5,xz7,xy8,show srcE (ev (Ga Fs fuel m) (.var 3)) (jmS s l (.tuple (.str s.str::T)) κ a b c d e g)=some (sts.map prK,jmS s l (.tuple (.str s.str::T)) κ (vl (.list (sts.map prK))) b c d e g) by rcases hx with rfl|rfl<;>rfl]
  show (((zm7 9 (tupN 2) _ _ _ _).bind _).bind _)=_
  rw[hcomp,hmap]
  simp only[jk,mkL,hKl,if_true]
 have hsz:zy8 ((l.length:Int)+1)=true:=by simp only[zy8,decide_eq_true_eq];exact na63 (xz hlen) rfl
 have hsz2:l.length<=size:=by unfold size;exact qy hlen rfl
 have hTl:1<=((T.length:Int)+1):=by lia
 refine xn (σ':=jmS s l (.tuple (.str s.str::T)) κ none none none none none none) (by rw[xz8];simp[c_ne,eqD,↓zp1,zu8,zu0])
  (xn (σ':=jmS s l (.tuple (.str s.str::T)) κ (ow (.list ([(T,κ)].map prK))) none none none none none) (by simp[zv0,↓mkT2,↓mkL1,xj7,zse2,bE_o,bE_c,zsl2,bD_,orS,hTl])
  (xn (xw (?_) eloop) (zz4 hlast)))
 have e1:((l.length:Int)+1 - 1).toNat=l.length:=by rw[Int.add_sub_cancel];rfl
 have e2:zy8 1=true:=by decide
 simp[zh4,zle2,zai,zit1,hsz,e2,hsz2,zu7]
end
end Pl
end
section
namespace Pl
open Mini PySem
variable {Fs:Fns}{fuel:Nat}
noncomputable def yl1:I:=(.cons (.ret (.call "join_met" (.cons (.var 0) (.cons (.var 1) (.cons (.var 2) .nil))))) .nil)
noncomputable def yx1:I:=(.cons (.iff (.cmp .In (.idx (.var 0) (.cint 1)) (.var 2)) (.cons (.ret (.ite (.cmp .Eq (.idx (.var 2) (.idx (.var 0) (.cint 1))) (.var 1)) (.lst (.cons (.var 2) .nil)) (.lst .nil))) .nil) .nil) (.cons (.asg 3 (.prim1 .dict (.var 2))) (.cons (.sto 3 (.idx (.var 0) (.cint 1)) (.var 1)) (.cons (.ret (.lst (.cons (.var 3) .nil))) .nil))))
noncomputable def ze8:I:=(.iff (.or (.cons (.cmp .Eq (.idx (.var 0) (.cint 0)) (.cstr "name")) (.cons (.cmp .NotEq (.idx (.var 1) (.cint 0)) (.cstr "pair")) .nil))) (.cons (.ret (.ite (.cmp .Eq (.var 0) (.var 1)) (.lst (.cons (.var 2) .nil)) (.lst .nil))) .nil) .nil)
noncomputable def xh0:I:=(.cons (.ext 4 (.call "met" (.cons (.idx (.var 0) (.cint 2)) (.cons (.idx (.var 1) (.cint 2)) (.cons (.var 5) .nil))))) .nil)
noncomputable def yl0:I:=(.cons (.asg 4 (.lst .nil)) (.cons (.for1 5 (.call "met" (.cons (.idx (.var 0) (.cint 1)) (.cons (.idx (.var 1) (.cint 1)) (.cons (.var 2) .nil)))) xh0) (.cons (.ret (.var 4)) .nil)))
noncomputable def zq7:I:=(.cons (.iff (.cmp .In (.idx (.var 0) (.cint 0)) (.glob "JOINS")) yl1 .nil) (.cons (.iff (.cmp .Eq (.idx (.var 0) (.cint 0)) (.cstr "open")) yx1 .nil) (.cons ze8 yl0)))
noncomputable abbrev mtS (P S:D)(κ:Kn)(a b c:Option AV):Mini.Sg:=[vl P,vl S,vl (dK κ),a,b,c]
theorem zf1 {x:Str}(h:okd (.str x)=true)(h1:(("sum" : Str)==x)=false)(h2:(("mul" : Str)==x)=false):inD (.str x) (.tuple [.str "sum", .str "mul"])=some false:=by
 simp[zin2,h,ym7,ym8,zu0,h1,h2]
theorem Can.head {k:Nat}{d:D}(h:Can k d):∃ x r,d=.tuple (.str x::r)/\Mini.okd (.str x)=true:=h.shp.head
section
variable {S:D}{κ:Kn}{m:Nat}{i:Int}
theorem ya3 (h:Has Fs "met" ⟨3,6,zq7⟩)(hS:Can 7 S)(K:Knw κ)(hκ:κ.length<size) :
  ∃ R f,run Fs glo fuel (m+1) "met" [.tuple [.str "open", .int i],S,dK κ]=some (.list (R.map dK),f)/\Met (.tuple [.str "open", .int i]) S κ R:=by
 have e1:lv (.tuple [.str "open", .int i])=1:=rfl
 have hno:=zf1 zp0 yu0 yu3
 have hpre:∀(d:D)(fl:Bool),ex (Ga Fs fuel m) yx1 (mtS (.tuple [.str "open", .int i]) S κ none none none)=some (.ret d fl)->ex (Ga Fs fuel m) zq7 (mtS (.tuple [.str "open", .int i]) S κ none none none)=some (.ret d fl):=fun d fl ho=>by
  rw[zq7,zz0 (σ':=mtS (.tuple [.str "open", .int i]) S κ none none none) (by kernel_rfl)]
  refine zz4 ?_
  rw[zz8,show uno (.cmp .Eq (.idx (.var 0) (.cint 0)) (.cstr "open")) (ev (Ga Fs fuel m) (.cmp .Eq (.idx (.var 0) (.cint 0)) (.cstr "open"))) (mtS (.tuple [.str "open", .int i]) S κ none none none)=some (.bool true,mtS (.tuple [.str "open", .int i]) S κ none none none) by kernel_rfl]
  exact ho
 cases hk:lk κ i with
 | some v =>
  have hm:=xt2 hk
  have hv:=K.can _ hm
  have ov:=hv.okd (by lia)
  have oS:=hS.okd (by lia)
  have hc:ev (Ga Fs fuel m) (.ite (.cmp .Eq (.idx (.var 2) (.idx (.var 0) (.cint 1))) (.var 1)) (.lst (.cons (.var 2) .nil)) (.lst .nil)) (mtS (.tuple [.str "open", .int i]) S κ none none none)=some (.list ((if z7 v S then [κ] else []).map dK),true,mtS (.tuple [.str "open", .int i]) S κ none none none):=by
   cases he:z7 v S<;>simp[c_eq,eqD,↓mkL0,↓mkL1,↓zb4,zix3,zu4,zp2,hk,ov,oS,he]
  refine iEEA (if z7 v S then [κ] else []) true (zz3 h rfl (hpre _ _ ?_)) ?_
  ·rw[yx1]
   refine zz4 ?_
   rw[zz8,show uno (.cmp .In (.idx (.var 0) (.cint 1)) (.var 2)) (ev (Ga Fs fuel m) (.cmp .In (.idx (.var 0) (.cint 1)) (.var 2))) (mtS (.tuple [.str "open", .int i]) S κ none none none)=some (.bool true,mtS (.tuple [.str "open", .int i]) S κ none none none) by simp[c_in,↓zb4,xt6,hk]]
   show ex _ (.cons (.ret _) .nil) _=_
   exact zz4 (by rw[zj5,hc];rfl)
  ·have hq:=zx0 hv.plain hS.plain
   by_cases he:z7 v S=true
   ·rw[if_pos he]
    have hvS:=hq.mp he
    refine⟨fun κ' hκ'=>?_,fun κ' hκ' f ha=>?_,by rw[e1];simp⟩
    ·simp at hκ';subst hκ';exact Ext.old K.nod hk
    ·simp at hκ';subst hκ';rw[zo2,ha _ hm];exact hvS
   ·rw[if_neg he];exact .none
 | none =>
  refine iEEA [κ++[(i,S)]] true (zz3 h rfl (hpre _ _ ?_)) ?_
  ·have hkk:=zd2 κ i
   rw[yx1,zz0 (σ':=mtS (.tuple [.str "open", .int i]) S κ none none none) (by simp[c_in,↓zb4,xt6,hk]),
    zz0 (σ':=mtS (.tuple [.str "open", .int i]) S κ (ow (dK κ)) none none) (by simp[we0,wf2,zco,yt3]),
    zz0 (σ':=mtS (.tuple [.str "open", .int i]) S κ (ow (dK (κ++[(i,S)]))) none none) (by simp[↓zb4,hkk,hκ,yx5 κ _ hk])]
   exact zz4 (rfl)
  ·refine⟨fun κ' hκ'=>?_,fun κ' hκ' f ha=>?_,by rw[e1];simp⟩
   ·simp at hκ';subst hκ';exact Ext.new K.nod hk (.self S)
   ·simp at hκ';subst hκ';rw[zo2];exact ha (i,S) (mr mh)
theorem ya4 (h:Has Fs "met" ⟨3,6,zq7⟩)(hS:Can 7 S)(K:Knw κ) :
  ∃ R f,run Fs glo fuel (m+1) "met" [.tuple [.str "name", .int i],S,dK κ]=some (.list (R.map dK),f)/\Met (.tuple [.str "name", .int i]) S κ R:=by
 have e1:lv (.tuple [.str "name", .int i])=1:=rfl
 have hno:=zf1 zs2 yu1 yu4
 have oS:=hS.okd (by lia)
 have hP:Can 7 (.tuple [.str "name", .int i]):=.leaf 6 false i
 have oP:=hP.okd (by lia)
 have hc:ev (Ga Fs fuel m) (.ite (.cmp .Eq (.var 0) (.var 1)) (.lst (.cons (.var 2) .nil)) (.lst .nil)) (mtS (.tuple [.str "name", .int i]) S κ none none none)=some (.list ((if z7 (.tuple [.str "name", .int i]) S then [κ] else []).map dK),true,mtS (.tuple [.str "name", .int i]) S κ none none none):=by
  cases he:z7 (.tuple [.str "name", .int i]) S<;>simp[c_eq,eqD,↓mkL0,↓mkL1,oP,oS,he]
 refine iEEA (if z7 (.tuple [.str "name", .int i]) S then [κ] else []) true (zz3 h rfl ?_) ?_
 ·show ex (Ga Fs fuel m) zq7 (mtS (.tuple [.str "name", .int i]) S κ none none none)=_
  rw[zq7,zz0 (σ':=mtS (.tuple [.str "name", .int i]) S κ none none none) (by kernel_rfl),
   zz0 (σ':=mtS (.tuple [.str "name", .int i]) S κ none none none) (by kernel_rfl)]
  refine zz4 ?_
  rw[ze8,zz8,show uno (.or (.cons (.cmp .Eq (.idx (.var 0) (.cint 0)) (.cstr "name")) (.cons (.cmp .NotEq (.idx (.var 1) (.cint 0)) (.cstr "pair")) .nil))) (ev (Ga Fs fuel m) (.or (.cons (.cmp .Eq (.idx (.var 0) (.cint 0)) (.cstr "name")) (.cons (.cmp .NotEq (.idx (.var 1) (.cint 0)) (.cstr "pair")) .nil)))) (mtS (.tuple [.str "name", .int i]) S κ none none none)=some (.bool true,mtS (.tuple [.str "name", .int i]) S κ none none none) by kernel_rfl]
  show ex _ (.cons (.ret _) .nil) _=_
  exact zz4 (by rw[zj5,hc];rfl)
 ·have hq:=zx0 hP.plain hS.plain
  by_cases he:z7 (.tuple [.str "name", .int i]) S=true
  ·rw[if_pos he]
   have hvS:=hq.mp he
   refine⟨fun κ' hκ'=>?_,fun κ' hκ' f ha=>?_,by rw[e1];simp⟩
   ·simp at hκ';subst hκ'
    refine⟨fun x h=>h,K.nod,fun x h=>.inl h,fun j hj=>?_,by lia⟩
    generalize hd:(wQ [.str "name", .int i])=d at hj
    cases hj with
    | self=>simp at hd;exact absurd hd.1 (by decide)
    | @part x s l hx hy=>simp at hd;exact absurd hd.1 (zw1 false s)
   ·rw[zd4];exact hvS
  ·rw[if_neg he];exact .none
end
section
variable {a b Sa Sb:D}{κ:Kn}{m:Nat}
structure Pra (b Sb:D)(done acc:List Kn):Prop where
 back:∀ κ''∈acc,∃ κ'∈done,Ext Sb b κ' κ''/\∀ f,Ag f κ''->fill f b=Sb
 size:acc.length<=done.length*lv b^lv Sb
theorem Pra.snoc {b Sb:D}{done acc K:List Kn}{κ':Kn}(h:Pra b Sb done acc)(M:Met b Sb κ' K):Pra b Sb (done++[κ']) (acc++K):=by
 refine⟨fun k hk=>?_,?_⟩
 ·rcases z6.mp hk with hk|hk
  ·refine elEA (h.back k hk) fun k0 h0 e=>?_;exact iEA k0 (by simp[h0]) e
  ·exact iEAA κ' (by simp) (M.ext k hk) (M.sound k hk)
 ·have:=h.size
  have:=M.size
  simp only[zw,List.length_singleton,Nat.add_mul,Nat.one_mul]
  exact qa h.size M.size
theorem zp8 (a b:D):lv (.tuple [.str "pair", a,b])=lv a+lv b:=by simp[lv_s,lv_t,zn4,zt8]
theorem ym5 {i:Int}{a b:D}(h:Opn i (.tuple [.str "pair", a,b])):Opn i a\/Opn i b:=by
 refine elEA (ze5 (s:=.pair) h) fun p hp ho=>?_
 simp at hp
 rcases hp with rfl|rfl
 ·exact .inl ho
 ·exact .inr ho
theorem vz3 {i:Int}{a b:D}(h:Opn i a):Opn i (.tuple [.str "pair", a,b]):=.part (s:=.pair) (l:=[a,b]) mh h
theorem vz2 {i:Int}{a b:D}(h:Opn i b):Opn i (.tuple [.str "pair", a,b]):=.part (s:=.pair) (l:=[a,b]) (mt mh) h
theorem wa1 {v a b:D}(h:Tri a v):Tri (.tuple [.str "pair", a,b]) v:=.part (s:=.pair) (l:=[a,b]) mh h
theorem wa0 {v a b:D}(h:Tri b v):Tri (.tuple [.str "pair", a,b]) v:=.part (s:=.pair) (l:=[a,b]) (mt mh) h
theorem yp6 (a b m n:Nat):a^m*b^n<=(a+b)^(m+n):=by
 rw[Nat.pow_add]
 exact Nat.mul_le_mul (kX (by lia) m) (kX (by lia) n)
theorem Pra.met {Ka acc:List Kn}(M:Met a Sa κ Ka)(h:Pra b Sb Ka acc):Met (.tuple [.str "pair", a,b]) (.tuple [.str "pair", Sa,Sb]) κ acc:=by
 refine⟨fun k hk=>?_,fun k hk f ha=>?_,?_⟩
 ·refine zx4 (h.back k hk) fun k0 h0 e2 _=>?_
  have e1:=M.ext k0 h0
  refine⟨fun x hx=>e2.sub x (e1.sub x hx),e2.nod,fun x hx=>?_,fun i hi=>?_,?_⟩
  ·rcases e2.val x hx with q|q
   ·exact(e1.val x q).imp id wa1
   ·exact .inr (wa0 q)
  ·rcases ym5 hi with q|q
   ·obtain ⟨v,hv⟩:=e1.dom i q;exact⟨v,e2.sub _ hv⟩
   ·exact e2.dom i q
  ·have:=e1.len
   have:=e2.len
   rw[zp8];exact qt e2.len (qt (w5 e1.len _) (xx (x0 ..)))
 ·refine zx4 (h.back k hk) fun k0 h0 e2 e3=>?_
  rw[zo1,M.sound k0 h0 f (ha.sub e2.sub),e3 f ha]
 ·rw[zp8,zp8]
  refine qv h.size (qv (uq _ M.size) (yp6 _ _ _ _))
theorem yz2 {S:D}(hno:True):ex (Ga Fs fuel m) zq7 (mtS (.tuple [.str "pair", a,b]) S κ none none none)=ex (Ga Fs fuel m) (.cons ze8 yl0) (mtS (.tuple [.str "pair", a,b]) S κ none none none):=by
 have hno:=zf1 zq9 yv9 yu2
 rw[zq7,zz0 (σ':=mtS (.tuple [.str "pair", a,b]) S κ none none none) (by kernel_rfl),
  zz0 (σ':=mtS (.tuple [.str "pair", a,b]) S κ none none none) (by kernel_rfl)]
theorem ya1 (h:Has Fs "met" ⟨3,6,zq7⟩)(hz:(1+(lv a+lv b))^(lv Sa+lv Sb)<size)
  (ha:∃ K f,run Fs glo fuel m "met" [a,Sa,dK κ]=some (.list (K.map dK),f)/\Met a Sa κ K)
  (hb:∀ κ',Ext Sa a κ κ'->∃ K f,run Fs glo fuel m "met" [b,Sb,dK κ']=some (.list (K.map dK),f)/\Met b Sb κ' K) :
  ∃ R f,run Fs glo fuel (m+1) "met" [.tuple [.str "pair", a,b],.tuple [.str "pair", Sa,Sb],dK κ]=some (.list (R.map dK),f)/\Met (.tuple [.str "pair", a,b]) (.tuple [.str "pair", Sa,Sb]) κ R:=by
 refine elEEA (ha) fun Ka fa ea Ma=>?_
 have htot:Ka.length*lv b^lv Sb<size:=by
  refine z8 (uq _ Ma.size) (z8 (yp6 _ _ _ _) (z8 (kX ?_ _) hz))
  lia
 have loop:=zv6 (bnd:=zp3 5) (body:=ex (Ga Fs fuel m) xh0) dK (fun done σ=>∃ acc c,Pra b Sb done acc/\σ=mtS (.tuple [.str "pair", a,b]) (.tuple [.str "pair", Sa,Sb]) κ none (ow (.list (acc.map dK))) c) (L:=Ka)
  (σ:=mtS (.tuple [.str "pair", a,b]) (.tuple [.str "pair", Sa,Sb]) κ none (ow (.list [])) none) (iEEA [] none ⟨by simp,by simp⟩ rfl) (by
   (intro done κ' rest σ e h_1;refine elEEA h_1 fun acc c hA e_3=>?_;clear h_1;subst e_3)
   refine elEEA (hb κ' (Ma.ext κ' (by exact mm e))) fun K fk ek M=>?_
   have hA':=hA.snoc M
   have hzz:acc.length+K.length<size:=by
    have a1:=hA'.size
    rw[zw]at a1
    refine z8 a1 (z8 (uq _ ?_) htot)
    rw[e];simp
   refine iEEAA _ _ rfl ?_ (iEEA (acc++K) (vl (dK κ')) hA' rfl)
   rw[xh0,zz0 (σ':=mtS (.tuple [.str "pair", a,b]) (.tuple [.str "pair", Sa,Sb]) κ none (ow (.list ((acc++K).map dK))) (vl (dK κ'))) (by simp[zex1,↓xg2,ek,hzz])]
   rfl)
 (refine wj1 (loop) fun σ' eloop acc c hA e_5=>?_;subst e_5)
 refine iEEA acc false (zz3 h rfl ?_) (hA.met Ma)
 show ex (Ga Fs fuel m) zq7 (mtS (.tuple [.str "pair", a,b]) (.tuple [.str "pair", Sa,Sb]) κ none none none)=_
 rw[yz2 trivial,zz0 (σ':=mtS (.tuple [.str "pair", a,b]) (.tuple [.str "pair", Sa,Sb]) κ none none none) (by rw[ze8];simp[c_eq,c_ne,eqD,↓zp1,zq9,zs2,zu0,zk8]),
  yl0,zz0 (σ':=mtS (.tuple [.str "pair", a,b]) (.tuple [.str "pair", Sa,Sb]) κ none (ow (.list [])) none) (rfl),
  zz0 (by
   rw[zy0,show srcE (ev (Ga Fs fuel m) (.call "met" (.cons (.idx (.var 0) (.cint 1)) (.cons (.idx (.var 1) (.cint 1)) (.cons (.var 2) .nil))))) (mtS (.tuple [.str "pair", a,b]) (.tuple [.str "pair", Sa,Sb]) κ none (ow (.list [])) none)=some (Ka.map dK,mtS (.tuple [.str "pair", a,b]) (.tuple [.str "pair", Sa,Sb]) κ none (ow (.list [])) none) by simp[↓zb4,zit1,ea]]
   exact eloop)]
 exact zz4 (by kernel_rfl)
theorem ya2 (h:Has Fs "met" ⟨3,6,zq7⟩){k:Nat}{S:D}(hP:Can k (.tuple [.str "pair", a,b]))(hk:k<=100)(hS:Can 7 S)(hno:∀ c d,S≠.tuple [.str "pair", c,d]) :
  ∃ R f,run Fs glo fuel (m+1) "met" [.tuple [.str "pair", a,b],S,dK κ]=some (.list (R.map dK),f)/\Met (.tuple [.str "pair", a,b]) S κ R:=by
 have oS:=hS.okd (by lia)
 have oP:=hP.okd hk
 have hne:z7 (.tuple [.str "pair", a,b]) S=false:=by
  rw[<- ZZ]
  exact fun e=>hno a b ((zx0 hP.plain hS.plain).mp e).symm
 have hx:∃ x r,S=.tuple (.str x::r)/\okd (.str x)=true/\(x == "pair")=false:=by
  cases hS with
  | leaf k o n=>exact iEEAA _ _ rfl (yy9 o) (by simpa using zo8 o)
  | pair _ _=>exact absurd rfl (hno _ _)
  | join hs=>exact iEEAA _ _ rfl (zu8 _) (by simpa using zs6 hs)
 (refine elEEAA (hx) fun x r e_2 ox hxp=>?_;subst e_2)
 refine iEEA [] true (zz3 h rfl ?_) (.none)
 show ex (Ga Fs fuel m) zq7 (mtS (.tuple [.str "pair", a,b]) (.tuple (.str x::r)) κ none none none)=_
 rw[yz2 trivial]
 refine zz4 ?_
 rw[ze8,zz8,show uno (.or (.cons (.cmp .Eq (.idx (.var 0) (.cint 0)) (.cstr "name")) (.cons (.cmp .NotEq (.idx (.var 1) (.cint 0)) (.cstr "pair")) .nil))) (ev (Ga Fs fuel m) (.or (.cons (.cmp .Eq (.idx (.var 0) (.cint 0)) (.cstr "name")) (.cons (.cmp .NotEq (.idx (.var 1) (.cint 0)) (.cstr "pair")) .nil)))) (mtS (.tuple [.str "pair", a,b]) (.tuple (.str x::r)) κ none none none)=some (.bool true,mtS (.tuple [.str "pair", a,b]) (.tuple (.str x::r)) κ none none none) by simp[c_eq,c_ne,eqD,↓zp1,zq9,zs2,zu0,zk8,ox,hxp]]
 show ex _ (.cons (.ret _) .nil) _=_
 refine zz4 ?_
 simp[c_eq,eqD,↓mkL0,oP,oS,hne]
end
end Pl
end
section
namespace Pl
open Mini PySem
variable {Fs:Fns}{fuel:Nat}
structure Hm (Fs:Fns):Prop where
 parts_in:Has Fs "parts_in" ⟨2,2,zx3⟩
 joined:Has Fs "joined" ⟨2,4,zv8⟩
 choices:Has Fs "choices" ⟨1,7,zr1⟩
 without:Has Fs "without" ⟨2,4,zu5⟩
 open_met:Has Fs "open_met" ⟨5,9,zw0⟩
 part_met:Has Fs "part_met" ⟨3,6,zp9⟩
 join_met:Has Fs "join_met" ⟨3,9,zt4⟩
 met:Has Fs "met" ⟨3,6,zq7⟩
theorem Ext.knw {S P:D}{κ κ':Kn}(h:Ext S P κ κ')(K:Knw κ)(hS:Can 7 S):Knw κ' :=
 ⟨h.nod,fun p hp=>(h.val p hp).elim (K.can p) fun t=>t.can hS⟩
theorem yy8 {a b m n:Nat}(h:a<=b)(h2:m<=n):(1+a)^m<=(1+b)^n :=
 qv (kX (by lia) m) (u9 (by lia) h2)
theorem yz3 {s:Sn}(hs:s≠.pair){l:List D}{S:D}{κ:Kn}{m:Nat}{d:D}{f:Bool}(e:run Fs glo fuel m "join_met" [.tuple (.str s.str::l),S,dK κ]=some (d,f)) :
  ex (Ga Fs fuel m) zq7 (mtS (.tuple (.str s.str::l)) S κ none none none)=some (.ret d f):=by
 have hj:=ww1 hs
 rw[zq7]
 refine zz4 ?_
 rw[zz8,show uno (.cmp .In (.idx (.var 0) (.cint 0)) (.glob "JOINS")) (ev (Ga Fs fuel m) (.cmp .In (.idx (.var 0) (.cint 0)) (.glob "JOINS"))) (mtS (.tuple (.str s.str::l)) S κ none none none)=some (.bool true,mtS (.tuple (.str s.str::l)) S κ none none none) by simp[c_in,↓zp1,xg9,hj]]
 show ex _ yl1 _=_
 rw[yl1]
 refine zz4 ?_
 simp[e]
theorem xz4 (h:Has Fs "join_met" ⟨3,9,zt4⟩){s:Sn}(hs:s≠.pair){l:List D}{S:D}{κ:Kn}{m:Nat}(hS:Can 7 S)(hno:∀ T,S≠.tuple (.str s.str::T)) :
  run Fs glo fuel (m+1) "join_met" [.tuple (.str s.str::l),S,dK κ]=some (.list [],true):=by
 (refine elEEA (hS.head) fun x r e_2 ox=>?_;subst e_2)
 have hx:(x==s.str)=false:=by
  rw[<- ZZ];intro e;simp at e;subst e;exact hno r rfl
 refine zz3 h rfl ?_
 show ex (Ga Fs fuel m) zt4 (jmS s l (.tuple (.str x::r)) κ none none none none none none)=_
 rw[zt4]
 refine zz4 ?_
 rw[xz8]
 simp[zz7,c_ne,eqD,↓mkL0,↓zp1,zu8,ox,zu0,hx]
theorem we9 (H:Hm Fs){k:Nat}{P:D}(hP:Can k P):k<=100->∀(n:Nat)(S:D)(κ:Kn),Can 7 S->Knw κ->κ.length+lv P<size->(1+lv P)^lv S<size ->
  ∃ K f,run Fs glo fuel (n+3*k+4) "met" [P,S,dK κ]=some (.list (K.map dK),f)/\Met P S κ K:=by
 induction hP with
 | leaf k o i =>
  intro _ n S κ hS K hκ hz
  cases o with
  | true=>exact ya3 (m:=n+3*(k+1)+3) H.met hS K (by exact qg hκ)
  | false=>exact ya4 (m:=n+3*(k+1)+3) H.met hS K
 | @pair k a b ha hb iha ihb =>
  intro hk n S κ hS K hκ hz
  have e:n+3*(k+1)+4=(n+2+3*k+4)+1:=by lia
  rw[e]
  rw[zp8]at hκ hz
  by_cases hp:∃ c d,S=.tuple [.str "pair", c,d]
  ·(refine elEE (hp) fun c d e_2=>?_;subst e_2)
   have hcd':=(Can.cons (s:=.pair) (l:=[c,d]) hS).1
   have hcd:Can 7 c/\Can 7 d:=⟨hcd' c (y8 ..),hcd' d (xJ _ (y8 ..))⟩
   rw[zp8]at hz
   refine ya1 H.met hz (iha (by lia) (n+2) c κ hcd.1 K (by exact ql (qZ (qk ..) _) hκ) (z8 (yy8 (by lia) (by lia)) hz)) fun κ' he=>?_
   have:=he.len
   exact ihb (by lia) (n+2) d κ' hcd.2 (he.knw K hcd.1) (by exact ql (qt (w5 this _) (xx (x0 ..))) hκ) (z8 (yy8 (by lia) (by lia)) hz)
  ·exact ya2 H.met (.pair ha hb) hk hS fun c d e=>hp (iEE c d e)
 | @join k s l hs h2 h20 hc hnon hsrt ih =>
  intro hk n S κ hS K hκ hz
  have e:n+3*(k+1)+4=(n+3*k+4+1)+1+1:=by lia
  rw[e]
  rw[zq5]at hκ hz
  by_cases hp:∃ T,S=.tuple (.str s.str::T)
  ·obtain ⟨T,rfl⟩:=hp
   have hT:=hS.cons
   have L:Lft s T T:=⟨List.Sublist.refl _,hT.1,(hT.2.2.2 hs).1,(hT.2.2.2 hs).2,hT.2.2.1⟩
   rw[zq5]at hz
   obtain ⟨R,f,er,M⟩:=xz3 (m:=n+3*k+4+1) (fuel:=fuel) H.join_met hs L h20 K.nod hz (fun done p rest el q hq hext=>by
    have hpl:p∈l:=by exact mm el
    have Kq:=hext.knw K hS
    have hlen:=hext.len
    rw[zq5]at hlen
    have hll:lvL l=lvL done+(lv p+lvL rest):=by rw[el,zx1];rfl
    have Lq:Lft s T q.1:=⟨hq,L.can,L.non,L.srt,L.len⟩
    by_cases ho:∃ i,p=.tuple [.str "open", .int i]
    ·obtain ⟨i,rfl⟩:=ho
     refine elEEA (yb5 (fuel:=fuel) H.parts_in H.joined H.choices H.open_met H.without hs Lq Kq (ql hlen (ql (qZ (qf (xx hll.symm)) _) hκ)) i rest.length (n+3*k+2)) fun R f er hR=>?_
     exact iEA R (.inl (iEEA i f rfl er)) hR
    ·have hpf:=yg9 (hc p hpl) (hnon p hpl) hs fun i e=>ho ⟨i,e⟩
     refine elEEA (yb3 (fuel:=fuel) (m:=n+3*k+4) H.part_met Lq (κ:=q.2) (p:=p) (z8 (yy8 (by exact qt (qk ..) (qt (w3 ..) (xx hll.symm))) (zv _)) hz)
      (fun x hx=>ih p hpl (by lia) n x q.2 (L.can x hx) Kq (ql (w5 hlen _) (ql (qt (xx (x0 ..)) (qZ (qt (qZ (qk ..) _) (xx hll.symm)) _)) hκ)) (z8 (yy8 (by exact qt (qk ..) (qt (w3 ..) (xx hll.symm))) (wm6 hx)) hz)) hpf) fun R f er hR=>?_
     refine iEA R (.inr ?_) hR
     (refine elEEA ((hc p hpl).head) fun x r e_2 ox=>?_;subst e_2)
     refine iEEEAAA x r f rfl ox ?_ er
     rw[<- ZZ]
     intro e
     simp at e;subst e
     exact(hc _ hpl).open_inv.elim fun i e=>ho ⟨i,e▸rfl⟩)
   exact iEEA R f (zz3 H.met rfl (yz3 hs er)) M
  ·exact iEEA [] true (zz3 H.met rfl (yz3 hs (xz4 H.join_met hs hS fun T e=>hp ⟨T,e⟩))) (.none)
end Pl
end
section
namespace Pl
open Mini PySem
variable {Fs:Fns}{fuel:Nat}
noncomputable def zs8:I:=(.cons (.asg 3 (.pop 2)) (.cons (.iff (.cmp .Eq (.idx (.var 3) (.cint 0)) (.cstr "open")) (.cons (.sto 1 (.idx (.var 3) (.cint 1)) (.cbool true)) .nil) (.cons (.iff (.cmp .NotEq (.idx (.var 3) (.cint 0)) (.cstr "name")) (.cons (.ext 2 (.slc (.var 3) (.cint 1) .omit)) .nil) .nil) .nil)) .nil))
noncomputable def zw9:I:=(.cons (.asg 1 .dct0) (.cons (.asg 2 (.lst (.cons (.var 0) .nil))) (.cons (.whl (.brw 2) zs8) (.cons (.ret (.prim1 .sorted (.brw 1))) .nil))))
noncomputable def opl:Tm->List Int
 | .leaf o n=>if o then [n] else []
 | .node _ a b=>opl a++opl b
theorem wy2 {o n}:opl (.leaf o n)=if o then [n] else []:=rfl
theorem yh4 {s a b}:opl (.node s a b)=opl a++opl b:=rfl
noncomputable def dk (ks:List Int):List (D×D):=ks.map fun k=>(.int k,.bool true)
noncomputable def addk (ks:List Int)(k:Int):List Int:=if k∈ks then ks else ks++[k]
theorem wj4 (ks:List Int)(k:Int):dput (dk ks) (.int k) (.bool true)=dk (addk ks k):=by
 induction ks with
 | nil=>rfl
 | cons x r ih =>
  simp only[dk,x6,ys3,ys0]
  by_cases e:x=k
  ·subst e;simp[addk]
  ·have e':(x==k)=false:=by simpa using e
   have e2:¬ k=x:=fun q=>e q.symm
   simp only[e',vx,if_false]
   simp only[dk]at ih
   rw[ih]
   unfold addk
   by_cases m:k∈r
   ·simp[m]
   ·simp[m,e2]
theorem xg0 (ks:List Int)(k:Int):zs3 (.int k) (dk ks)=true:=by
 simp[zs3,kk_i,dk]
set_option tactic.hygienic true in
theorem addk_mem {ks:List Int}{k x:Int}:x∈addk ks k↔x∈ks\/x=k:=by
 unfold addk
 split
 ·rename_i h;constructor
  ·exact .inl
  ·rintro (q|rfl)
   ·exact q
   ·exact h
 ·simp
set_option tactic.hygienic true in
theorem xm8 {ks:List Int}{k:Int}(h:ks.Nodup):(addk ks k).Nodup:=by
 unfold addk
 split
 ·exact h
 ·rename_i hk
  rw[ux]
  exact iAA h (by simp) (fun a ha b hb=>by simp at hb;subst hb;exact fun e=>hk (e▸ha))
theorem wu4 (ks:List Int)(k:Int):(addk ks k).length<=ks.length+1:=by unfold addk;split<;>simp
section
variable {Γ:Mini.Env}{v0 v1 x:Option AV}{l:List D}{e:D}
theorem xi0:ex Γ (.asg 3 (.pop 2)) [v0,v1,ow (.list (l++[e])),x]=some (.next [v0,v1,ow (.list l),vl e]):=by simp
theorem we2 {s:D}{a b:D}(hz:l.length+2<size):ex Γ (.ext 2 (.slc (.var 3) (.cint 1) .omit)) [v0,v1,ow (.list l),vl (.tuple [s,a,b])]=some (.next [v0,v1,ow (.list (l++[a,b])),vl (.tuple [s,a,b])]):=by
 simp[zv0,zex2,bE_o,bE_c,zsl2,bD_,hz]
theorem we1 {ks:List Int}{s:D}{k:Int}(hz:(dk ks).length<size):ex Γ (.sto 1 (.idx (.var 3) (.cint 1)) (.cbool true)) [v0,ow (.dict (dk ks)),v1,vl (.tuple [s,.int k])]=some (.next [v0,ow (.dict (dk (addk ks k))),v1,vl (.tuple [s,.int k])]):=by
 simp[↓zb4,xg0,hz,wj4]
theorem wm3 {m:Nat}(ks:List Int)(l:List D)(o:Bool)(k:Int)(x:Option AV)(hz:ks.length<10000) :
  ex (Ga Fs fuel m) zs8 [v0,ow (.dict (dk ks)),ow (.list (l++[enc (.leaf o k)])),x]=some (.next [v0,ow (.dict (dk (if o then addk ks k else ks))),ow (.list l),vl (enc (.leaf o k))]):=by
 have hz':(dk ks).length<size:=by rw[dk,xj];exact Z8 hz (by decide)
 cases o with
 | true=>exact xn xi0 (xn (xt (ceq0 rfl zp0 zp0 rfl) (xn (we1 hz') rfl)) rfl)
 | false=>exact xn xi0 (xn (xf (ceq0 rfl zs2 zp0 yh9) (xn (xf (cne0 rfl zs2 zs2 rfl) rfl) rfl)) rfl)
theorem wm2 {m:Nat}(l:List D)(s:Sn)(a b:Tm)(x:Option AV)(hz:l.length<10000) :
  ex (Ga Fs fuel m) zs8 [v0,v1,ow (.list (l++[enc (.node s a b)])),x]=some (.next [v0,v1,ow (.list (l++[enc a,enc b])),vl (enc (.node s a b))]) :=
 xn xi0 (xn (xf (ceq0 rfl (zu8 s) zp0 (xk1 s)) (xn (xt (cne0 rfl (zu8 s) zs2 (yd6 s)) (xn (we2 (by unfold size;exact qx (xz hz) rfl)) rfl)) rfl)) rfl)
end
theorem xc6 {ks:List Int}{o:Bool}{k j:Int}:j∈(if o then addk ks k else ks)↔j∈ks\/j∈opl (.leaf o k):=by
 cases o
 ·exact⟨.inl,fun h=>h.elim id fun h=>(nomatch h)⟩
 ·exact addk_mem.trans (or_congr Iff.rfl xq.symm)
noncomputable def opls:List Tm->List Int
 | []=>[]
 | t::r=>opl t++opls r
theorem wt5 {t r}:opls (t::r)=opl t++opls r:=rfl
theorem wg3 {f m:Nat}{v0 v1 x:Option AV}{l:List D}{e:D}{σ':Mini.Sg}(h:ex (Ga Fs fuel m) zs8 [v0,v1,ow (.list (l++[e])),x]=some (.next σ')) :
  zs0 (uno (.brw 2) (ev (Ga Fs fuel m) (.brw 2))) (ex (Ga Fs fuel m) zs8) (f+1) [v0,v1,ow (.list (l++[e])),x]=zs0 (uno (.brw 2) (ev (Ga Fs fuel m) (.brw 2))) (ex (Ga Fs fuel m) zs8) f σ' :=
 zc2 (d:=.list (l++[e])) rfl (by simp[ztr2]) h
theorem yb4 {m:Nat}(v0:Option AV):∀(f:Nat)(ts:List Tm)(ks:List Int)(x:Option AV),ks.Nodup->(ts.map nds).sum<f->ts.length+ks.length+(ts.map nds).sum<=5000 ->
  ∃ (ks':List Int) (y:Option AV),zs0 (uno (.brw 2) (ev (Ga Fs fuel m) (.brw 2))) (ex (Ga Fs fuel m) zs8) f [v0,ow (.dict (dk ks)),ow (.list (ts.reverse.map enc)),x] =
   some (.next [v0,ow (.dict (dk ks')),ow (.list []),y])/\ks'.Nodup/\(∀ k,k∈ks'↔k∈ks\/k∈opls ts)/\ks'.length<=ks.length+(ts.map num).sum
 | 0,_,_,_,_,h,_=>absurd h (Nat.not_lt_zero _)
 | f+1,[],ks,x,hn,_,_=>iEEAAA ks x rfl hn (fun k=>⟨.inl,fun h=>h.elim id fun h=>(nomatch h)⟩) (zv _)
 | f+1,.leaf o k::r,ks,x,hn,hf,hz=>by
  rw[sum_cons]at hf hz
  have hal:(if o then addk ks k else ks).length<=ks.length+1:=by cases o;exact QW _;exact wu4 ks k
  refine elEEAAA (yb4 (m:=m) v0 f r (if o then addk ks k else ks) (vl (enc (.leaf o k))) (by cases o;exact hn;exact xm8 hn) (Nat.lt_of_add_lt_add_left (n:=1) (wJ 1 f▸hf)) (by rw[we6,xV]at hz;lia)) fun ks' y ih h1 h2 h3=>?_
  refine iEEAAA ks' y ?_ h1 (fun j=>(h2 j).trans ?_) ?_
  ·rw[zc6,wg3 (wm3 ks _ o k x (by lia))];exact ih
  ·rw[xc6,or_assoc,wt5,z6]
  ·rw[sum_cons,yb7];lia
 | f+1,.node s a b::r,ks,x,hn,hf,hz=>by
  rw[sum_cons,wy8]at hf hz
  refine elEEAAA (yb4 (m:=m) v0 f (b::a::r) ks (vl (enc (.node s a b))) hn (by rw[sum_cons,sum_cons];lia) (by rw[sum_cons,sum_cons];rw[xV]at hz |-;rw[xV];lia)) fun ks' y ih h1 h2 h3=>?_
  refine iEEAAA ks' y ?_ h1 (fun j=>(h2 j).trans ?_) ?_
  ·rw[xv2]at ih
   rw[zc6,wg3 (wm2 _ s a b x (by rw[xj,List.length_reverse];rw[xV]at hz;lia))]
   exact ih
  ·simp only[wt5,yh4,z6]
   rw[or_left_comm (b:=j∈opl a),<- or_assoc (a:=j∈opl a)]
  ·rw[sum_cons,yr6];rw[sum_cons,sum_cons]at h3;lia
theorem yz4 (ks:List Int):sortable (ks.map .int)=true:=by
 simp only[sortable,zj,x8,Qk,zX,forall_exists_index,and_imp,forall_apply_eq_imp_iff₂]
 exact⟨⟨⟨fun a _=>zq4 a,fun a _=>rfl⟩,.inl (.inl fun a _=>rfl)⟩,fun a _ b _=>rfl⟩
theorem wg8 (h:Has Fs "opens_within" ⟨1,4,zw9⟩)(n:Nat){t:Tm}(hn:num t<=40)(hf:100<=fuel) :
  ∃ ks:List Int,ks.Nodup/\(∀ k,k∈ks↔k∈opl t)/\run Fs glo fuel (n+1) "opens_within" [enc t]=some (.list (zx8 (ks.map .int)),true):=by
 have hnd:=xi8 t
 refine elEEAAA (yb4 (Fs:=Fs) (fuel:=fuel) (m:=n) (vl (enc t)) fuel [t] [] none kJ (by rw[sum_cons];exact vZ (qt (xx hnd) (jZ 2 hn)) (qt (by decide) hf)) (by rw[sum_cons];show 1+0+(nds t+0)<=5000;lia)) fun ks y hl h1 h2 h3=>?_
 refine iEAA ks h1 (fun k=>(h2 k).trans ⟨fun h=>h.elim (fun h=>nomatch h) fun h=>(z6.mp h).elim id fun h=>(nomatch h),fun h=>.inr (ml h)⟩) ?_
 rw[zl1 h rfl]
 have hso:zk2 (ks.map .int)=some (.list (zx8 (ks.map .int)),true):=by
  have:ks.length<yy7:=yb9 (by simp at h3;exact qx (qt h3 hn) rfl)
  simp[zk2,yz4,this]
 have hdk:(dk ks).map (·.1)=ks.map .int:=by simp[dk]
 show (match ex (Ga Fs fuel n) (.cons _ _) [some (.val (enc t)),none,none,none] with|some (.ret d f)=>some (d,f)|some (.next _)=>some (.none,false)|none=>none)=_
 rw[zz0 (σ':=[some (.val (enc t)),some (.own (.dict [])),none,none]) (by kernel_rfl),
  zz0 (σ':=[some (.val (enc t)),some (.own (.dict [])),some (.own (.list [enc t])),none]) (rfl),
  zz0 (σ':=[some (.val (enc t)),some (.own (.dict (dk ks))),some (.own (.list [])),y]) (by rw[eq_ex_whl];simpa[dk] using hl)]
 simp[zz7,xp9,zso2,xp4,hdk,hso]
theorem int_list:∀{l:List D}{ks:List Int},l.Perm (ks.map .int)->∃ ns:List Int,l=ns.map .int/\ns.Perm ks:=by
 intro l ks h
 have hall:∀ x∈l,∃ k:Int,x=.int k:=fun x hx=>by
  refine elEA (zX.mp (h.mem_iff.mp hx)) fun k _ e=>?_;exact⟨k,e.symm⟩
 have:∃ ns:List Int,l=ns.map .int:=by
  clear h
  induction l with
  | nil=>exact⟨[],rfl⟩
  | cons x r ih =>
   obtain ⟨k,rfl⟩:=hall x mh
   obtain ⟨ns,rfl⟩:=ih fun y hy=>hall y (mt hy)
   exact⟨k::ns,rfl⟩
 obtain ⟨ns,rfl⟩:=this
 refine iEA ns rfl ?_
 have e:∀ m:List Int,(m.map vj).map (fun d:D=>(qW.casesOn (motive_1:=fun _=>Int) d 0 (fun _=>0) (fun i=>i) (fun _=>0) (fun _=>0) (fun _=>0) fun _=>0))=m:=fun m=>by rw[yk];exact List.map_id m
 have h2:=h.map fun d:D=>(qW.casesOn (motive_1:=fun _=>Int) d 0 (fun _=>0) (fun i=>i) (fun _=>0) (fun _=>0) (fun _=>0) fun _=>0)
 rwa [e,e]at h2
theorem wv7 (ks:List Int):Cmp (ks.map .int):=zo6 (yz4 ks)
theorem xw9 (h:Has Fs "opens_within" ⟨1,4,zw9⟩)(n:Nat){t:Tm}(hn:num t<=40)(hf:100<=fuel) :
  ∃ ns:List Int,ns.Nodup/\ns.Pairwise (·<=·)/\(∀ k,k∈ns↔k∈opl t)/\run Fs glo fuel (n+1) "opens_within" [enc t]=some (.list (ns.map .int),true):=by
 refine zx4 (wg8 (fuel:=fuel) h n hn hf) fun ks h1 h2 e=>?_
 refine elEA (int_list (zz1 (ks.map .int))) fun ns e2 hp=>?_
 have hs:=zt3 (wv7 ks)
 rw[e2]at e hs
 refine iEAAA ns (hp.nodup_iff.mpr h1) ?_ (fun k=>(hp.mem_iff).trans (h2 k)) e
 rw[List.pairwise_map]at hs
 exact hs.imp fun {a b} h=>by
  simp only[leD,zk9,ne_eq,Q1,decide_eq_true_eq]at h;exact Int.not_lt.mp h
theorem wm4 (t:Tm):(opl t).length<=num t:=by
 induction t with
 | leaf o k=>cases o<;>simp[wy2,yb7]
 | node s a b iha ihb=>simp only[yh4,yr6,zw];exact qa iha ihb
theorem yh3 {s:Sn}(hs:s≠.pair){k:Nat}{d:D}(h:Shp k d)(i:Int):(∃ p∈parts s d,Opn i p)↔Opn i d:=by
 cases h with
 | leaf k o n=>rw[zs7];simp
 | pair _ _=>rw[zn8 hs];simp
 | @join k s' l hs' _ _ =>
  by_cases e:s'=s
  ·subst e
   rw[zu3]
   exact⟨fun h=>elEA h fun p hp ho=>.part hp ho,ze5⟩
  ·rw[zp7 e];simp
theorem ym4 (t:Tm)(i:Int):Opn i (shp t)↔i∈opl t:=by
 induction t with
 | leaf o k =>
  cases o with
  | true =>
   simp only[wy2]
   constructor
   ·intro h;have:=ym6 (i:=k) (j:=i) h;simp[this]
   ·intro h;simp at h;subst h;exact .self i
  | false =>
   simp only[wy2]
   constructor
   ·intro h
    generalize hd:shp (.leaf false k)=d at h
    cases h with
    | self=>simp[xa0,zf4,lstr]at hd;exact absurd hd.1 (by decide)
    | @part x s l hx hy=>simp[xa0,zf4]at hd;exact absurd hd.1 (zw1 false s)
   ·intro h;simp at h
 | node s a b iha ihb =>
  by_cases hs:s=.pair
  ·subst hs
   rw[zi2]
   constructor
   ·intro h
    simp only[yh4,z6]
    exact(ym5 h).imp iha.mp ihb.mp
   ·intro h
    simp only[yh4,z6]at h
    rcases h with h|h
    ·exact vz3 (iha.mpr h)
    ·exact vz2 (ihb.mpr h)
  ·rw[zl0 hs]
   simp only[yh4,z6,<- iha,<- ihb,<- yh3 hs (xw8 a) i,<- yh3 hs (xw8 b) i]
   constructor
   ·intro h
    refine elEA (ze5 h) fun p hp ho=>?_
    rcases z6.mp ((zz1 _).mem_iff.mp hp) with q|q
    ·exact .inl (iEA p q ho)
    ·exact .inr (iEA p q ho)
   ·rintro (⟨p,hp,ho⟩|⟨p,hp,ho⟩)
    ·exact .part ((zz1 _).mem_iff.mpr (u7 _ hp)) ho
    ·exact .part ((zz1 _).mem_iff.mpr (List.mem_append_right _ hp)) ho
end Pl
end
section
namespace Pl
open Mini PySem
variable {Fs:Fns}{fuel:Nat}
theorem zq3:∀(t:Tm),num t<=20->Can (num t) (shp t)/\lv (shp t)=num t
 | .leaf o k,_=>⟨.leaf 0 o k,rfl⟩
 | .node s a b,h=>by
  have pa:=zx2 a
  have pb:=zx2 b
  have hn:num (.node s a b)=num a+num b:=rfl
  obtain ⟨ca,la⟩:=zq3 a (by exact qf (hn▸h))
  obtain ⟨cb,lb⟩:=zq3 b (by exact qr (hn▸h))
  have e:num (.node s a b)=num a+num b - 1+1:=by rw[hn];exact(nc1 pa).symm
  have ca':Can (num a+num b - 1) (shp a):=ca.mono (by exact nlb pb)
  have cb':Can (num a+num b - 1) (shp b):=cb.mono (by exact nla pa)
  by_cases hs:s=.pair
  ·subst hs
   rw[e,zi2,zp8,la,lb]
   exact⟨.pair ca' cb',by exact(nc1 pa).symm⟩
  ·rw[zl0 hs,zq5,yl2 (zz1 _),zx1,ze3 hs ca,ze3 hs cb,la,lb]
   refine⟨?_,rfl⟩
   rw[e]
   have hl:=(zz1 (parts s (shp a)++parts s (shp b))).length_eq
   rw[zw]at hl
   have h1:=ca.parts_pos hs
   have h2:=cb.parts_pos hs
   have h3:=zn9 hs a
   have h4:=zn9 hs b
   have hm:∀ x∈zx8 (parts s (shp a)++parts s (shp b)),x∈parts s (shp a)\/x∈parts s (shp b):=fun x hx=>z6.mp ((zz1 _).mem_iff.mp hx)
   have hcan:∀ x∈parts s (shp a)++parts s (shp b),Can (num a+num b - 1) x:=fun x hx=>(z6.mp hx).elim (ca'.parts_can hs x) (cb'.parts_can hs x)
   exact .join hs (by exact hl▸qa h1.1 h2.1) (by exact hl▸qt (qa h3 h4) (hn▸h)) (fun x hx=>hcan x ((zz1 _).mem_iff.mp hx)) (fun x hx=>(hm x hx).elim (ca.parts_non hs x) (cb.parts_non hs x)) (zt3 (zf6 hcan))
noncomputable def enR (d:D):D×D:=(d,.bool true)
noncomputable def radd:List D->D->List D
 | [],d=>[d]
 | p::r,d=>if z7 p d then p::r else p::radd r d
theorem wf1 {d}:radd [] d=[d]:=rfl
theorem xv4 {p r d}:radd (p::r) d=if z7 p d then p::r else p::radd r d:=rfl
theorem xr2 (d:D):∀ R:List D,dput (R.map enR) d (.bool true)=(radd R d).map enR
 | []=>rfl
 | p::r=>by
  simp only[x6,ys3,xv4,enR]
  split
  ·rfl
  ·rw[x6];exact congrArg _ (xr2 d r)
theorem yn9 {d x:D}:∀{R:List D},x∈radd R d->x∈R\/x=d
 | [],h=>.inr (xq.mp h)
 | p::r,h=>by
  rw[xv4]at h
  by_cases e:z7 p d=true
  ·rw[if_pos e]at h;exact .inl h
  ·rw[if_neg e]at h
   rcases zQ.mp h with h|h
   ·exact .inl (h▸mh)
   ·exact(yn9 h).imp mt id
theorem yp2 {d:D}(hd:zz9 d=true):∀{R:List D},(∀ p∈R,zz9 p=true)->R.Nodup->(radd R d).Nodup
 | [],_,_=>vQ.mpr ⟨j7,kJ⟩
 | p::r,h,hn=>by
  rw[xv4]
  by_cases e:z7 p d=true
  ·rw[if_pos e];exact hn
  ·rw[if_neg e]
   have hn:=vQ.mp hn
   exact vQ.mpr ⟨fun m=>(yn9 m).elim hn.1 fun q=>e ((zx0 (h p mh) hd).mpr q),yp2 hd (fun p hp=>h p (mt hp)) hn.2⟩
theorem xv3 (d:D):∀ R:List D,(radd R d).length<=R.length+1
 | []=>by simp[wf1]
 | p::r=>by have:=xv3 d r;simp only[xv4];split<;>simp only[xV]<;>lia
theorem wx7 {d:D}(hd:tkey d=true){R:List D}(h:∀ p∈R,tkey p=true):zs3 d (R.map enR)=true:=by
 have key:∀ x:D,tkey x=true->zv7 x=some 1:=fun x hx=>by
  cases x with
  | tuple l=>simp only[kk_t,hx,if_true]
  | _=>exact(qj hx).elim
 simp only[zs3,key d hd,Option.isSome_some,Bool.true_and,x8,zX]
 (intro _ h_1;refine elEA h_1 fun p hp e_2=>?_;clear h_1;subst e_2)
 simp[enR,key p (h p hp)]
theorem xo6 (R:List D):(R.map enR).map (·.1)=R:=by simp[enR,Function.comp_def]
noncomputable def zh3 (ns:List Int)(κ:Kn):List D:=ns.map fun i=>(lk κ i).getD .none
noncomputable def fn (ns:List Int)(r:List D):Int->D:=fun i=>(lk (ns.zip r) i).getD .none
theorem xs1:∀{ns:List Int}{r:List D},ns.Nodup->r.length=ns.length->ns.map (fn ns r)=r
 | [],[],_,_=>rfl
 | n::ns,v::r,hn,hl=>by
  simp only[vQ]at hn
  have e0:fn (n::ns) (v::r) n=v:=by simp[fn,lk]
  have e1:ns.map (fn (n::ns) (v::r))=ns.map (fn ns r):=List.map_congr_left fun i hi=>by
   have:(n==i)=false:=by simp;rintro rfl;exact hn.1 hi
   simp[fn,lk,this]
  rw[x6,e0,e1,xs1 hn.2 (by simpa using hl)]
theorem xf3 {ns:List Int}{r:List D}(hn:ns.Nodup)(hl:r.length=ns.length){i:Int}(hi:i∈ns):fn ns r i∈r:=by
 have:=xs1 hn hl
 rw[<- this]
 exact zX.mpr (iEA i hi (by rw[this]))
theorem wc8 {ns:List Int}(hn:ns.Nodup)(κ:Kn){i:Int}(hi:i∈ns):fn ns (zh3 ns κ) i=(lk κ i).getD .none:=by
 have:=xs1 hn (r:=zh3 ns κ) (by simp[zh3])
 simp only[zh3]at this |-
 exact List.map_inj_left.mp this i hi
noncomputable def Row (ns:List Int)(P S:D)(r:List D):Prop:=r.length=ns.length/\(∀ v∈r,Tri S v)/\fill (fn ns r) P=S
theorem xk4 {ns:List Int}{k:Nat}{P S:D}{K:List Kn}(hn:ns.Nodup)(hP:Can k P)(ho:∀ i,i∈ns↔Opn i P)(M:Met P S [] K){κ:Kn}(hκ:κ∈K):Row ns P S (zh3 ns κ):=by
 have E:=M.ext κ hκ
 refine⟨xj _,fun v hv=>?_,?_⟩
 ·(refine elEA (zX.mp hv) fun i hi e_2=>?_;subst e_2)
  obtain ⟨v,hv⟩:=E.dom i ((ho i).mp hi)
  rw[xh1 E.nod hv]
  exact(E.val _ hv).resolve_left (fun h=>nomatch h)
 ·rw[<- M.sound κ hκ (fun i=>(lk κ i).getD .none) fun p hp=>by show (lk κ p.1).getD .none=p.2;rw[xh1 E.nod (i:=p.1) (v:=p.2) hp];rfl]
  exact xn5 hP fun i hi=>wc8 hn κ ((ho i).mpr hi)
end Pl
end
section
namespace Pl
open Mini PySem
variable {Fs:Fns}{fuel:Nat}
noncomputable def xt9:I:=(.cons (.sto 3 (.prim1 .tuple (.comp1 (.idx (.var 4) (.var 10)) (.var 2) .omit)) (.cbool true)) .nil)
noncomputable def xf2:I:=(.cons (.sto 8 (.var 5) (.var 9)) .nil)
noncomputable def yl6:I:=(.cons (.asg 8 .dct0) (.cons (.fors [5,9] (.zip (.var 2) (.var 7)) xf2) (.cons (.app 6 (.var 8)) .nil)))
noncomputable def zv5:I:=(.cons (.asg 2 (.call "opens_within" (.cons (.var 0) .nil))) (.cons (.asg 3 .dct0) (.cons (.for1 4 (.call "met" (.cons (.call "shaped" (.cons (.var 0) .nil)) (.cons (.var 1) (.cons .dct0 .nil)))) xt9) (.cons (.asg 6 (.lst .nil)) (.cons (.for1 7 (.prim1 .sorted (.brw 3)) yl6) (.cons (.retO 6) .nil))))))
noncomputable abbrev foS (t S:D)(c d e f g h i j:Option AV):Mini.Sg:=[vl t,vl S,c,d,e,f,g,h,i,j]
theorem wh2 {i:Int}{v:D}{v0 v1 v2 v3 v4 v5 v6 v7 v8 v9:Option AV}:zb9 [5,9] (.tuple [.int i,v]) [v0,v1,v2,v3,v4,v5,v6,v7,v8,v9]=some [v0,v1,v2,v3,v4,vl (.int i),v6,v7,v8,vl v]:=by
 rfl
theorem xb3 (ns:List Int)(r:List D):zipL (ns.map .int) r=(ns.zip r).map fun p=>.tuple [.int p.1,p.2]:=by
 induction ns generalizing r with
 | nil=>simp[zipL]
 | cons n ns ih =>
  cases r with
  | nil=>simp[zipL]
  | cons v r=>simp only[zipL,x6,k6]at ih |-;rw[ih]
theorem wd6 {κ:Kn}{i:Int}(h:i∉κ.map (·.1)):lk κ i=none:=by
 cases e:lk κ i with
 | none=>rfl
 | some v=>exact absurd (zX.mpr (iEA _ (xt2 e) rfl)) h
theorem xb1 {ns:List Int}{r:List D}(h:r.length=ns.length):(ns.zip r).map (·.1)=ns:=by
 exact List.map_fst_zip (l₁:=ns) (l₂:=r) (by exact xx h.symm)
theorem wq9 {Γ:Mini.Env}{σ σ':Mini.Sg}{k:Nat}{key:I}{kd:D}{f:Bool}{R:List D}(hk0:zq8 σ k=true)(hk:σ'[k]?=some (ow (.dict (R.map enR))))(he:ev Γ key σ=some (kd,f,σ'))(hkk:zs3 kd (R.map enR)=true)(hz:R.length<size) :
  ex Γ (.sto k key (.cbool true)) σ=some (.next (σ'.set k (ow (.dict ((radd R kd).map enR))))):=by
 have ho:ownD σ' k=some (R.map enR):=(congrArg wm1 hk).trans oD_
 rw[wf4]
 show kst1 k (ev Γ key) (.bool true) σ (zq8 σ k)=_
 rw[hk0]
 show (ev Γ key σ).bind _=_
 rw[he]
 show (ownD σ' k).bind _=_
 rw[ho,<- xr2]
 exact if_pos (by rw[hkk,xj];exact decide_eq_true hz)
theorem ww7 {Γ:Mini.Env}{σ σ':Mini.Sg}{a:I}{l:List D}{f:Bool}(hb:opn a (ev Γ a) σ=(ev Γ a σ).bind kdat)(h:ev Γ a σ=some (.list l,f,σ')):ev Γ (.prim1 .tuple a) σ=some (.tuple l,false,σ'):=by
 rw[wn7,wa4,hb,h];rfl
section
variable {t S:D}{m:Nat}{ns:List Int}
theorem yg6 {r:List D}(hn:ns.Nodup)(hl:r.length=ns.length)(hz:ns.length<size){acc:List D}(ha:acc.length+1<size){c d e f i j:Option AV}(hcc:c=vl (.list (ns.map .int))\/c=ow (.list (ns.map .int))) :
  ∃ f' i' j',ex (Ga Fs fuel m) yl6 (foS t S c d e f (ow (.list acc)) (vl (.tuple r)) i j)=some (.next (foS t S (vl (.list (ns.map .int))) d e f' (ow (.list (acc++[dK (ns.zip r)]))) (vl (.tuple r)) i' j')):=by
 have hk:=xb1 hl
 have loop:=zv6 (bnd:=zb9 [5,9]) (body:=ex (Ga Fs fuel m) xf2) (fun p:Int×D=>.tuple [.int p.1,p.2]) (fun dn σ=>∃ f' j',σ=foS t S (vl (.list (ns.map .int))) d e f' (ow (.list acc)) (vl (.tuple r)) (ow (dK dn)) j') (L:=ns.zip r)
  (σ:=foS t S (vl (.list (ns.map .int))) d e f (ow (.list acc)) (vl (.tuple r)) (ow (dK [])) j) (iEE f j rfl) (by
   (intro dn p rest σ el h_1;refine elEE h_1 fun f' j' e_2=>?_;clear h_1;subst e_2)
   have hnot:lk dn p.1=none:=wd6 fun hm=>by
    rw[el,Zz,x6]at hk
    rw[<- hk,ux]at hn
    exact hn.2.2 p.1 hm p.1 mh rfl
   have hlen:dn.length<size:=by
    have h1:=congrArg List.length el
    have h2:(ns.zip r).length=ns.length:=by rw[List.length_zip];exact hl▸Nat.min_self _
    rw[h2]at h1;simp at h1;exact ql (qk ..) (h1▸hz)
   refine iEEAA _ _ wh2 ?_ (iEE (vl (.int p.1)) (vl p.2) rfl)
   have hkk:=zd2 dn p.1
   rw[xf2,zz0 (σ':=foS t S (vl (.list (ns.map .int))) d e (vl (.int p.1)) (ow (.list acc)) (vl (.tuple r)) (ow (dK (dn++[p]))) (vl p.2)) (by simp[hkk,hlen,yx5 dn p.2 hnot])]
   rfl)
 (refine xd1 (loop) fun σ' eloop f' j' e_4=>?_;subst e_4)
 refine iEEE f' (vl (dK (ns.zip r))) j' ?_
 rw[yl6,zz0 (σ':=foS t S c d e f (ow (.list acc)) (vl (.tuple r)) (ow (dK [])) j) (by kernel_rfl),
  zz0 (by
   rw[zm1,show srcE (ev (Ga Fs fuel m) (.zip (.var 2) (.var 7))) (foS t S c d e f (ow (.list acc)) (vl (.tuple r)) (ow (dK [])) j)=some ((ns.zip r).map fun p:Int×D=>.tuple [.int p.1,p.2],foS t S (vl (.list (ns.map .int))) d e f (ow (.list acc)) (vl (.tuple r)) (ow (dK [])) j) by
    rcases hcc with rfl|rfl<;>simp[zal,zit1,xe3,zat,xb3]]
   exact eloop),
  zz0 (σ':=foS t S (vl (.list (ns.map .int))) d e f' (ow (.list (acc++[dK (ns.zip r)]))) (vl (.tuple r)) (vl (dK (ns.zip r))) j') (by simp[ha])]
 rfl
theorem xy3 {κ:Kn}(hd:∀ i∈ns,∃ v,lk κ i=some v)(hc:∀ v∈zh3 ns κ,Can 7 v){R:List D}(hR:∀ p∈R,tkey p=true)(hz:R.length<size)(hnz:ns.length<=size){c f g h i j:Option AV}(hcc:c=vl (.list (ns.map .int))\/c=ow (.list (ns.map .int))) :
  ex (Ga Fs fuel m) xt9 (foS t S c (ow (.dict (R.map enR))) (vl (dK κ)) f g h i j)=some (.next (foS t S (vl (.list (ns.map .int))) (ow (.dict ((radd R (.tuple (zh3 ns κ))).map enR))) (vl (dK κ)) f g h i j)):=by
 have hcomp:=zm5 (n:=10) (bc:=bc1) (cond:=zm4 .omit (ev (Ga Fs fuel m) .omit)) (elt:=ev (Ga Fs fuel m) (.idx (.var 4) (.var 10))) (σ:=foS t S (vl (.list (ns.map .int))) (ow (.dict (R.map enR))) (vl (dK κ)) f g h i j)
  (c:=fun _=>true) (F:=fun d=>match d with|.int i=>(lk κ i).getD .none|d=>d) rfl (ds:=ns.map .int) fun d hd'=>by
   (refine elEA (zX.mp hd') fun n hn e_2=>?_;subst e_2)
   obtain ⟨v,hv⟩:=hd n hn
   refine iEAA [.int n] rfl rfl (fun _=>⟨false,?_⟩)
   simp[zix3,zu4,zp2,hv]
 rw[List.filter_eq_self.mpr (by simp),yk]at hcomp
 have hrow:ns.map ((fun d=>match d with|vj i=>(lk κ i).getD .none|d=>d)∘vj)=zh3 ns κ:=rfl
 have hcl:(zh3 ns κ).length<=size:=by simpa[zh3] using hnz
 have hev:ev (Ga Fs fuel m) (.comp1 (.idx (.var 4) (.var 10)) (.var 2) .omit) (foS t S c (ow (.dict (R.map enR))) (vl (dK κ)) f g h i j)=some (.list (zh3 ns κ),true,foS t S (vl (.list (ns.map .int))) (ow (.dict (R.map enR))) (vl (dK κ)) f g h i j):=by
  rw[zl6,show srcE (ev (Ga Fs fuel m) (.var 2)) (foS t S c (ow (.dict (R.map enR))) (vl (dK κ)) f g h i j)=some (ns.map .int,foS t S (vl (.list (ns.map .int))) (ow (.dict (R.map enR))) (vl (dK κ)) f g h i j) by rcases hcc with rfl|rfl<;>rfl]
  show ((zf5 10 _ _ (ns.map .int) (foS t S (vl (.list (ns.map .int))) (ow (.dict (R.map enR))) (vl (dK κ)) f g h i j)).bind _)=_
  rw[zd9,hcomp]
  simp only[jk,mkL]
  rw[if_pos (by simpa[zh3] using hnz)]
  rfl
 have hkk:=wx7 (yy4 hc) hR
 rw[xt9,zz0 (wq9 (R:=R) rfl rfl (ww7 rfl hev) hkk hz)]
 rfl
end
theorem xq1 {r:List D}(h:∀ v∈r,Can 7 v)(hn:r≠[]):yk9 (.tuple r)=true:=by
 cases r with
 | nil=>exact absurd rfl hn
 | cons v r=>(refine elEEA ((h v mh).head) fun x l e_2 _=>?_;subst e_2);rfl
theorem zg6 {r r':List D}(h:∀ v∈r,Can 7 v)(h':∀ v∈r',Can 7 v):(ltD (.tuple r) (.tuple r')).isSome=true:=by
 simp only[zb0];exact ze9 fun x hx y hy=>(h x hx).lt_some (h' y hy)
theorem wv6 {L:List (List D)}(h:∀ r∈L,∀ v∈r,Can 7 v):Cmp (L.map .tuple):=by
 refine⟨fun a ha=>?_,fun a ha b hb=>?_⟩
 ·(refine elEA (zX.mp ha) fun r hr e_2=>?_;subst e_2)
  simp only[zr5];exact zx5 fun v hv=>(h r hr v hv).plain
 ·(refine elEA (zX.mp ha) fun r hr e_2=>?_;subst e_2)
  (refine elEA (zX.mp hb) fun r' hr' e_2=>?_;subst e_2)
  exact zg6 (h r hr) (h r' hr')
theorem xq6 {L:List (List D)}{w:Nat}(h:∀ r∈L,∀ v∈r,Can 7 v)(hw:∀ r∈L,r.length=w)(hn:L.Nodup)(hz:L.length<yy7):zk2 (L.map .tuple)=some (.list (zx8 (L.map .tuple)),true):=by
 by_cases hl:L.length<2
 ·simp[zk2,hl]
 ·have hne:∀ r∈L,r≠[]:=by
   rintro r hr rfl
   have e0:w=0:=(hw [] hr).symm
   apply hl
   have hall:∀ r∈L,r=[]:=fun r hr=>by have:=hw r hr;rw[e0]at this;exact Z3.mp this
   match L,hn,hall with
   | [],_,_=>simp
   | [x],_,_=>simp
   | x::y::l,hn,hall =>
    have a:=hall x mh
    have b:=hall y (mt mh)
    subst a b
    simp at hn
  have hs:sortable (L.map .tuple)=true:=by
   simp only[sortable,zj,x8,Qk,zX,forall_exists_index,and_imp,forall_apply_eq_imp_iff₂]
   exact⟨⟨⟨fun a ha=>xi2 (h a ha) (by lia),fun a ha=>by simp only[zr5];exact zx5 fun v hv=>(h a ha v hv).plain⟩,.inr fun a ha=>xq1 (h a ha) (hne a ha)⟩,fun a ha b hb=>zg6 (h a ha) (h b hb)⟩
  simp[zk2,hs,hz]
theorem xb7:∀{l:List D}{L:List (List D)},l.Perm (L.map .tuple)->∃ L':List (List D),l=L'.map .tuple/\L'.Perm L:=by
 intro l L h
 have hall:∀ x∈l,∃ k:List D,x=.tuple k:=fun x hx=>by
  refine elEA (zX.mp (h.mem_iff.mp hx)) fun k _ e=>?_;exact⟨k,e.symm⟩
 have:∃ L':List (List D),l=L'.map .tuple:=by
  clear h
  induction l with
  | nil=>exact⟨[],rfl⟩
  | cons x r ih =>
   obtain ⟨k,rfl⟩:=hall x mh
   obtain ⟨ns,rfl⟩:=ih fun y hy=>hall y (mt hy)
   exact⟨k::ns,rfl⟩
 obtain ⟨ns,rfl⟩:=this
 refine iEA ns rfl ?_
 have h2:=h.map fun d:D=>(match d with|.tuple k=>k|_=>[]:List D)
 simpa[yk,Function.comp_def] using h2
end Pl
end
section
namespace Pl
open Mini PySem
variable {Fs:Fns}{fuel:Nat}
theorem wh8 {l:List D}(hall:∀ x∈l,∃ k:List D,x=.tuple k):∃ L':List (List D),l=L'.map .tuple:=by
 induction l with
 | nil=>exact⟨[],rfl⟩
 | cons x r ih =>
  obtain ⟨k,rfl⟩:=hall x mh
  obtain ⟨ns,rfl⟩:=ih fun y hy=>hall y (mt hy)
  exact⟨k::ns,rfl⟩
theorem nodup_tup {L:List (List D)}:(L.map wQ).Nodup↔L.Nodup:=by
 unfold List.Nodup
 rw[List.pairwise_map]
 exact⟨fun h=>h.imp fun h e=>h (by rw[e]),fun h=>h.imp fun h e=>h (by simpa using e)⟩
structure Fills (ns:List Int)(P S:D)(L:List (List D)):Prop where
 srt:(L.map wQ).Pairwise leD
 nod:L.Nodup
 mem:∀ r∈L,Row ns P S r
 len:L.length<size
theorem yw8 (H:Hm Fs)(h1:Has Fs "opens_within" ⟨1,4,zw9⟩)(h2:Has Fs "shaped" ⟨1,1,zj3⟩)(h3:Has Fs "fillings_of" ⟨2,10,zv5⟩)(n:Nat){t:Tm}{S:D}(hn:num t<=20)(hf:100<=fuel)(hS:Can 7 S)(hz:(1+num t)^lv S<size) :
  ∃ ns L,ns.Nodup/\ns.Pairwise (·<=·)/\(∀ k,k∈ns↔k∈opl t)/\run Fs glo fuel (n+3*num t+5) "fillings_of" [enc t,S]=some (.list (L.map fun r=>dK (ns.zip r)),true)/\Fills ns (shp t) S L:=by
 refine elEAAA (xw9 (fuel:=fuel) h1 (n+3*num t+3) (by exact qy hn rfl:num t<=40) hf) fun ns n1 n2 n3 e1=>?_
 have e2:=zi3 (fuel:=fuel) H.parts_in H.joined h2 t (n+2*num t+2) (by exact qy hn rfl)
 rw[show n+2*num t+2+num t+2=n+3*num t+4 by lia]at e2
 obtain ⟨hP,hlv⟩:=zq3 t hn
 have hsz:size=16777216:=rfl
 have hnl:ns.length<=20:=by
  have hp:ns.length<=(opl t).length:=by
   exact List.Nodup.length_le_of_subset n1 fun k hk=>(n3 k).mp hk
  have:=wm4 t
  exact qt hp (qt this hn)
 refine elEEA (we9 (fuel:=fuel) H hP (by lia) n S [] hS ⟨by simp,by simp⟩ (by rw[hlv,hsz];simp;lia) (by rw[hlv];exact hz)) fun K f e3 M=>?_
 have ho:∀ i,i∈ns↔Opn i (shp t):=fun i=>(n3 i).trans (ym4 t i).symm
 have hK:K.length<size:=by
  have:=M.size
  rw[hlv]at this
  exact z8 this (z8 (kX (by lia) _) hz)
 have hrc:∀ κ∈K,∀ v∈zh3 ns κ,Can 7 v:=fun κ hκ v hv=>((xk4 n1 hP ho M hκ).2.1 v hv).can hS
 have hrd:∀ κ∈K,∀ i∈ns,∃ v,lk κ i=some v:=fun κ hκ i hi=>by
  obtain ⟨v,hv⟩:=(M.ext κ hκ).dom i ((ho i).mp hi)
  exact⟨v,xh1 (M.ext κ hκ).nod hv⟩
 have loop:=zv6 (bnd:=zp3 4) (body:=ex (Ga Fs fuel (n+3*num t+4)) xt9) dK (fun done σ=>∃ R c a,(c=vl (.list (ns.map .int))\/c=ow (.list (ns.map .int)))/\R.Nodup/\(∀ p∈R,∃ κ∈K,p=.tuple (zh3 ns κ))/\R.length<=done.length/\σ=foS (enc t) S c (ow (.dict (R.map enR))) a none none none none none) (L:=K)
  (σ:=foS (enc t) S (ow (.list (ns.map .int))) (ow (.dict [])) none none none none none none) ⟨[],_,none,.inr rfl,kJ,fun _ h=>(nomatch h),zv _,rfl⟩ (by
   (intro done κ rest σ e h_1;refine elEEEAAAA h_1 fun R c a hcc r1 r2 r3 e_7=>?_;clear h_1;subst e_7)
   have hκ:κ∈K:=by exact mm e
   have hRt:∀ p∈R,tkey p=true:=fun p hp=>by
    (refine elEA (r2 p hp) fun κ' h' e_2=>?_;subst e_2)
    exact yy4 (hrc κ' h')
   have hRp:∀ p∈R,zz9 p=true:=fun p hp=>by
    (refine elEA (r2 p hp) fun κ' h' e_2=>?_;subst e_2)
    simp only[zr5];exact zx5 fun v hv=>(hrc κ' h' v hv).plain
   have hpl:zz9 (.tuple (zh3 ns κ))=true:=by simp only[zr5];exact zx5 fun v hv=>(hrc κ hκ v hv).plain
   have hdl:done.length<K.length:=by exact lm1 e
   refine iEEAA _ _ rfl (xy3 (hrd κ hκ) (hrc κ hκ) hRt (by exact ql (qt r3 (zz hdl)) hK) (by rw[hsz];lia) hcc) (iEEEAAAA _ (vl (.list (ns.map .int))) (vl (dK κ)) (.inl rfl) (yp2 hpl hRp r1) (fun p hp=>(yn9 hp).elim (r2 p) fun e=>iEA κ hκ e) ?_ rfl)
   rw[zw];exact qt (xv3 (.tuple (zh3 ns κ)) R) (xz r3))
 (refine xx1 (loop) fun σ' eloop R c a hcc r1 r2 r3 e_9=>?_;subst e_9)
 obtain ⟨L0,rfl⟩:=wh8 (l:=R) fun x hx=>by
  refine elEA (r2 x hx) fun κ _ e=>?_;exact⟨_,e⟩
 have hL0:∀ r∈L0,Row ns (shp t) S r:=fun r h=>by
  refine elEA (r2 (.tuple r) (zX.mpr (iEA r h rfl))) fun κ hκ e=>?_
  injection e with e
  exact e▸xk4 n1 hP ho M hκ
 have hLc:∀ r∈L0,∀ v∈r,Can 7 v:=fun r hr v hv=>((hL0 r hr).2.1 v hv).can hS
 have hLl:∀ r∈L0,r.length=ns.length:=fun r hr=>(hL0 r hr).1
 have hL0n:L0.Nodup:=nodup_tup.mp r1
 have hL0z:L0.length<size:=by rw[xj]at r3;exact ql r3 hK
 have hso:=xq6 hLc hLl hL0n hL0z
 have hss:=zt3 (wv6 hLc)
 refine elEA (xb7 (zz1 (L0.map .tuple))) fun L eL pL=>?_
 rw[eL]at hso hss
 have hLz:L.length<size:=by rw[pL.length_eq];exact hL0z
 have loop2:=zv6 (bnd:=zp3 7) (body:=ex (Ga Fs fuel (n+3*num t+4)) yl6) wQ (fun done σ=>∃ c f h i j,(c=vl (.list (ns.map .int))\/c=ow (.list (ns.map .int)))/\σ=foS (enc t) S c (ow (.dict ((L0.map wQ).map enR))) a f (ow (.list (done.map fun r=>dK (ns.zip r)))) h i j) (L:=L)
  (σ:=foS (enc t) S c (ow (.dict ((L0.map wQ).map enR))) a none (ow (.list [])) none none none) (yt5 _ _ _ _ _ hcc rfl) (by
   (intro done r rest σ e h_1;refine xs8 h_1 fun c' f h i j hc' e_6=>?_;clear h_1;subst e_6)
   have hr:r∈L0:=pL.mem_iff.mp (by exact mm e)
   have hdl:done.length<L.length:=by exact lm1 e
   refine xm2 (yg6 (Fs:=Fs) (fuel:=fuel) (t:=enc t) (S:=S) (m:=n+3*num t+4) n1 (hLl r hr) (by rw[hsz];exact qx hnl rfl) (acc:=done.map fun r=>dK (ns.zip r)) (by rw[xj];exact ql hdl hLz) (d:=ow (.dict ((L0.map wQ).map enR))) (e:=a) (f:=f) (i:=i) (j:=j) hc') fun f' i' j' es=>?_
   exact iEEAA _ _ rfl es (yt5 (vl (.list (ns.map .int))) f' (vl (.tuple r)) i' j' (.inl rfl) (by simp)))
 (refine yo4 (loop2) fun σ' eloop2 c2 f2 h2' i2 j2 hc2 e_8=>?_;subst e_8)
 refine yt6 ns L n1 n2 n3 (zz3 h3 rfl ?_) ⟨hss,pL.nodup_iff.mpr hL0n,fun r h=>hL0 r (pL.mem_iff.mp h),hLz⟩
 show ex (Ga Fs fuel (n+3*num t+4)) zv5 (foS (enc t) S none none none none none none none none)=_
 rw[zv5,zz0 (σ':=foS (enc t) S (ow (.list (ns.map .int))) none none none none none none none) (by simp[e1]),
  zz0 (σ':=foS (enc t) S (ow (.list (ns.map .int))) (ow (.dict [])) none none none none none none) (by simp),
  zz0 (by
   rw[zy0,show srcE (ev (Ga Fs fuel (n+3*num t+4)) (.call "met" (.cons (.call "shaped" (.cons (.var 0) .nil)) (.cons (.var 1) (.cons .dct0 .nil))))) (foS (enc t) S (ow (.list (ns.map .int))) (ow (.dict [])) none none none none none none)=some (K.map dK,foS (enc t) S (ow (.list (ns.map .int))) (ow (.dict [])) none none none none none none) by
    have e3':run Fs glo fuel (n+3*num t+4) "met" [shp t,S,.dict []]=some (.list (K.map dK),f):=e3
    simp[zit1,e2,e3']]
   exact eloop),
  zz0 (σ':=foS (enc t) S c (ow (.dict ((L0.map wQ).map enR))) a none (ow (.list [])) none none none) (rfl),
  zz0 (by
   rw[zy0,show srcE (ev (Ga Fs fuel (n+3*num t+4)) (.prim1 .sorted (.brw 3))) (foS (enc t) S c (ow (.dict ((L0.map wQ).map enR))) a none (ow (.list [])) none none none)=some (L.map wQ,foS (enc t) S c (ow (.dict ((L0.map wQ).map enR))) a none (ow (.list [])) none none none) by
    have hke:=xo6 (L0.map wQ)
    rw[srcE,ys1]
    show (((some (qW.dict ((L0.map wQ).map enR),_)).bind _).bind _)=_
    simp only[jk,xp9,xp4,zso2,hke,hso,zit1]]
   exact eloop2)]
 exact zz4 rfl
noncomputable def zo0:I:=(.cons (.exp (.call "leaves" (.cons (.var 0) .nil))) (.cons (.exp (.call "leaves" (.cons (.var 1) .nil))) (.cons (.iff (.cmp .NotEq (.call "opens_within" (.cons (.var 1) .nil)) (.lst .nil)) (.cons .rais .nil) .nil) (.cons (.ret (.call "fillings_of" (.cons (.var 0) (.cons (.call "shaped" (.cons (.var 1) .nil)) .nil)))) .nil))))
theorem yi4 (H:Hm Fs)(h1:Has Fs "opens_within" ⟨1,4,zw9⟩)(h2:Has Fs "shaped" ⟨1,1,zj3⟩)(h3:Has Fs "fillings_of" ⟨2,10,zv5⟩)(g1:Has Fs "is_whole" ⟨2,2,zv3⟩)(g2:Has Fs "is_leaf" ⟨1,1,zr0⟩)(g3:Has Fs "leaves" ⟨1,4,zj4⟩)
  (h4:Has Fs "fillings" ⟨2,2,zo0⟩) (n:Nat) {t u:Tm} (ht:ok t) (hu:ok u) (hn:num t<=20) (hm:num u<=20) (hf:100<=fuel) (hS:Can 7 (shp u)) (hz:(1+num t)^num u<size) (hno:opl u=[]) :
  ∃ ns L,ns.Nodup/\ns.Pairwise (·<=·)/\(∀ k,k∈ns↔k∈opl t)/\run Fs glo fuel (n+86) "fillings" [enc t,enc u]=some (.list (L.map fun r=>dK (ns.zip r)),true)/\Fills ns (shp t) (shp u) L:=by
 refine xs9 (yw8 (fuel:=fuel) H h1 h2 h3 (n+80 - 3*num t) hn hf hS (by rw[(zq3 u hm).2];exact hz)) fun ns L n1 n2 n3 e F=>?_
 rw[show n+80 - 3*num t+3*num t+5=n+85 by exact nsc (jZ 3 hn) rfl rfl]at e
 refine yt6 ns L n1 n2 n3 (zz3 h4 rfl ?_) F
 refine elEAAA (xw9 (fuel:=fuel) h1 (n+84) (by lia:num u<=40) hf) fun ms m1 m2 m3 e1=>?_
 have hms:ms=[]:=by
  cases ms with
  | nil=>rfl
  | cons k r=>have:=(m3 k).mp mh;rw[hno]at this;cases this
 subst hms
 have e2:=zi3 (fuel:=fuel) H.parts_in H.joined h2 u (n+83 - num u) (by lia)
 rw[show n+83 - num u+num u+2=n+85 by exact nsc hm rfl rfl]at e2
 have l1:=yq8 (fuel:=fuel) g1 g2 g3 (n+82) ht (by lia) hf
 have l2:=yq8 (fuel:=fuel) g1 g2 g3 (n+82) hu (by lia) hf
 show ex (Ga Fs fuel (n+85)) zo0 [vl (enc t),vl (enc u)]=_
 rw[zo0,zz0 (σ':=[vl (enc t),vl (enc u)]) (by simp[yf3,zai,l1]),zz0 (σ':=[vl (enc t),vl (enc u)]) (by simp[yf3,zai,l2]),
  zz0 (σ':=[vl (enc t),vl (enc u)]) (by simp[c_ne,eqD,↓mkL0,e1,zl4,zh1])]
 exact zz4 (by simp[e2,e])
end Pl
end
section
namespace Pl
open Mini PySem
variable {Fs:Fns}{fuel:Nat}
theorem ws5 {k:Nat}:∀{l:List D},(∀ x∈l,Can k x)->l.length<=lvL l
 | [],_=>vq _
 | x::r,h=>by
  have:=(h x mh).lv_pos
  have:=ws5 (l:=r) fun y hy=>h y (mt hy)
  simp only[zt8,xV];exact qt (xx (wJ ..)) (qa ‹_› this)
theorem ze4 {k:Nat}{s:Sn}(hs:s≠.pair){d:D}(h:Can k d):(parts s d).length<=lv d:=by
 rw[<- ze3 hs h];exact ws5 (h.parts_can hs)
theorem yd4 {k:Nat}{l r:List D}(h:∀ x∈r,Can k x)(p:l.Perm r):zx8 l=zx8 r:=by
 have hl:∀ x∈l,Can k x:=fun x hx=>h x (p.mem_iff.mp hx)
 exact zp5 (zf6 h) ((zz1 l).trans p) (zt3 (zf6 hl))
theorem yj8 {k:Nat}{l:List D}(h:∀ x∈l,Can k x)(hk:k<=100)(hl:l.length<64):zk2 l=some (.list (zx8 l),true):=by
 simp[zk2,za7 (fun x hx=>(h x hx).shp) (by exact qy (w5 hk 20) rfl:k+20<=1000),yb9 hl]
noncomputable def zw8 (f:Int->D):Tm->D
 | .leaf o k=>if o then f k else enc (.leaf o k)
 | .node s a b=>if s=.pair then .tuple [.str "pair", zw8 f a,zw8 f b] else zw4 s (zx8 (parts s (zw8 f a)++parts s (zw8 f b)))
theorem zg9 {f o k}:zw8 f (.leaf o k)=if o then f k else enc (.leaf o k):=rfl
theorem zj1 {f s a b}:zw8 f (.node s a b)=if s=.pair then .tuple [.str "pair", zw8 f a,zw8 f b] else zw4 s (zx8 (parts s (zw8 f a)++parts s (zw8 f b))):=rfl
theorem xo0 {k:Nat}{s:Sn}{l:List D}(hc:∀ x∈l,Can k x):lv (zw4 s l)=lvL l:=by
 match l with
 | []=>simp[zw4,lv_s,lv_t,zn4,zt8]
 | [x]=>simp[zw4,zn4,zt8]
 | a::b::r=>rw[zv2 (by simp),zq5]
noncomputable def Vals (c:Nat)(f:Int->D)(t:Tm):Prop:=∀ i∈opl t,Can 7 (f i)/\lv (f i)<=c
theorem zb3 {c m:Nat}{f:Int->D}(hc:1<=c):∀(t:Tm),c*num t<=20->(∀ i∈opl t,Can m (f i)/\lv (f i)<=c)->Can (m+num t) (zw8 f t)/\lv (zw8 f t)<=c*num t
 | .leaf o k,h,hv=>by
  cases o with
  | true =>
   have:=hv k mh
   simp only[zg9,if_true,yb7,Nat.mul_one]
   exact⟨this.1.mono (by lia),this.2⟩
  | false=>simp only[zg9,yb7,zf4];exact⟨.leaf m false k,by simp[lv_i,lv_s,lv_t,zn4,zt8];assumption⟩
 | .node s a b,h,hv=>by
  have pa:=zx2 a
  have pb:=zx2 b
  have hn:num (.node s a b)=num a+num b:=rfl
  rw[hn,Zy]at h |-
  obtain ⟨ca,la⟩:=zb3 hc a (by exact qf h) fun i hi=>hv i (ml hi)
  obtain ⟨cb,lb⟩:=zb3 hc b (by exact qr h) fun i hi=>hv i (mr hi)
  have ca':Can (m+num a+num b - 1) (zw8 f a):=ca.mono (by exact nlb pb)
  have cb':Can (m+num a+num b - 1) (zw8 f b):=cb.mono (by exact nlm pa)
  rw[show m+(num a+num b)=m+num a+num b - 1+1 by exact(x0 ..).symm.trans (nc2 pa).symm]
  by_cases hs:s=.pair
  ·subst hs
   simp only[zj1,if_true]
   exact⟨.pair ca' cb',by rw[zp8];exact qa la lb⟩
  ·simp only[zj1,hs,if_false]
   have hl:=(zz1 (parts s (zw8 f a)++parts s (zw8 f b))).length_eq
   rw[zw]at hl
   have h1:=(ca.parts_pos hs).1
   have h2:=ze4 hs ca
   have h3:=(cb.parts_pos hs).1
   have h4:=ze4 hs cb
   have hm:∀ x∈zx8 (parts s (zw8 f a)++parts s (zw8 f b)),x∈parts s (zw8 f a)\/x∈parts s (zw8 f b):=fun x hx=>z6.mp ((zz1 _).mem_iff.mp hx)
   have hcan:∀ x∈parts s (zw8 f a)++parts s (zw8 f b),Can (m+num a+num b - 1) x:=fun x hx=>(z6.mp hx).elim (ca'.parts_can hs x) (cb'.parts_can hs x)
   have hcs:∀ x∈zx8 (parts s (zw8 f a)++parts s (zw8 f b)),Can (m+num a+num b - 1) x:=fun x hx=>hcan x ((zz1 _).mem_iff.mp hx)
   refine⟨?_,?_⟩
   ·rw[zv2 (by lia)]
    exact .join hs (by exact hl▸qa h1 h3) (by exact hl▸qt (qa (qt h2 la) (qt h4 lb)) h) hcs (fun x hx=>(hm x hx).elim (ca.parts_non hs x) (cb.parts_non hs x)) (zt3 (zf6 hcan))
   ·rw[xo0 hcs,yl2 (zz1 _),zx1,ze3 hs ca,ze3 hs cb];exact qa la lb
theorem zd0 {c:Nat}{f:Int->D}(hc:1<=c)(t:Tm)(h:c*num t<=20)(hv:Vals c f t):Can (7+num t) (zw8 f t)/\lv (zw8 f t)<=c*num t:=zb3 hc t h hv
theorem xs3 {k:Nat}{s:Sn}(hs:s≠.pair)(f:Int->D){P:D}(h:Can k P):(fl s f (parts s P)).Perm (parts s (fill f P)):=by
 rcases h.parts hs with e|⟨l,e1,e,_⟩
 ·rw[e,wr2]
 ·rw[e,e1,zo3 f hs,zu3]
  refine Z5 ?_ (zz1 _).symm
  simp[fl,List.flatMap_map]
theorem zb2 {c:Nat}{f:Int->D}(hc:1<=c):∀(t:Tm),c*num t<=20->Vals c f t->zw8 f t=fill f (shp t)
 | .leaf o k,h,hv=>by
  cases o with
  | true=>simp only[zg9,if_true,xa0,zf4,lstr,zo2]
  | false=>simp only[zg9,xa0,zf4,lstr];rfl
 | .node s a b,h,hv=>by
  have hn:num (.node s a b)=num a+num b:=rfl
  rw[hn,Zy]at h
  have hva:Vals c f a:=fun i hi=>hv i (ml hi)
  have hvb:Vals c f b:=fun i hi=>hv i (mr hi)
  have ea:=zb2 hc a (by lia) hva
  have eb:=zb2 hc b (by lia) hvb
  have hca:num a<=c*num a:=Z9 _ hc
  have hcb:num b<=c*num b:=Z9 _ hc
  by_cases hs:s=.pair
  ·subst hs;simp only[zj1,if_true,zi2,zo1,ea,eb]
  ·have ca:=zd0 hc a (by lia) hva
   have cb:=zd0 hc b (by lia) hvb
   simp only[zj1,hs,if_false]
   have h1:=(ca.1.parts_pos hs).1
   have h2:=(cb.1.parts_pos hs).1
   have hl:=(zz1 (parts s (zw8 f a)++parts s (zw8 f b))).length_eq
   rw[zw]at hl
   rw[zv2 (by lia),zl0 hs,zo3 f hs]
   congr 2
   have hcan:∀ x∈parts s (zw8 f a)++parts s (zw8 f b),Can (7+num a+num b) x:=fun x hx=>(z6.mp hx).elim ((ca.1.mono (by exact qk ..)).parts_can hs x) ((cb.1.mono (by exact w5 (qk ..) _)).parts_can hs x)
   symm
   refine yd4 hcan ?_
   have p1:((zx8 (parts s (shp a)++parts s (shp b))).map (fill f)).flatMap (parts s)=fl s f (zx8 (parts s (shp a)++parts s (shp b))):=by simp[fl,List.flatMap_map]
   rw[p1]
   have p2:(fl s f (zx8 (parts s (shp a)++parts s (shp b)))).Perm (fl s f (parts s (shp a)++parts s (shp b))):=(zz1 _).flatMap_right _
   refine p2.trans ?_
   rw[yg7,ea,eb]
   exact(xs3 hs f (zq3 a (by exact qt hca (qf h))).1).append (xs3 hs f (zq3 b (by exact qt hcb (qr h))).1)
theorem zb1 (f:Int->D):∀(t:Tm),num t<=20->opl t=[]->zw8 f t=shp t
 | .leaf o k,_,h=>by
  cases o with
  | true=>simp[wy2]at h
  | false=>rfl
 | .node s a b,hn,h=>by
  have hn':num a+num b<=20:=hn
  simp only[yh4,List.append_eq_nil_iff]at h
  have ea:=zb1 f a (by lia) h.1
  have eb:=zb1 f b (by lia) h.2
  by_cases hs:s=.pair
  ·subst hs;simp only[zj1,if_true,zi2,ea,eb]
  ·simp only[zj1,hs,if_false,ea,eb]
   have h1:=((zq3 a (by lia)).1.parts_pos hs).1
   have h2:=((zq3 b (by lia)).1.parts_pos hs).1
   have hl:=(zz1 (parts s (shp a)++parts s (shp b))).length_eq
   rw[zw]at hl
   rw[zv2 (by lia),zl0 hs]
end Pl
end
section
namespace Pl
open Mini PySem
variable {Fs:Fns}{fuel:Nat}
noncomputable def ya9:I:=(.iff (.cmp .Eq (.idx (.var 0) (.cint 0)) (.cstr "pair")) (.cons (.ret (.tup (.cons (.cstr "pair") (.cons (.var 2) (.cons (.var 3) .nil))))) .nil) .nil)
noncomputable def zs9:I:=(.cons (.iff (.cmp .Eq (.prim1 .len (.var 0)) (.cint 2)) (.cons (.ret (.cmp .Eq (.var 0) (.tup (.cons (.cstr "open") (.cons (.var 1) .nil))))) .nil) .nil) (.cons (.ret (.or (.cons (.call "_law_has" (.cons (.idx (.var 0) (.cint 1)) (.cons (.var 1) .nil))) (.cons (.call "_law_has" (.cons (.idx (.var 0) (.cint 2)) (.cons (.var 1) .nil))) .nil)))) .nil))
theorem xu7 (o:Bool)(k:Int):okd (.tuple [.str (lstr o),.int k])=true:=(Can.leaf 0 o k).okd (by lia)
theorem zg5 (h:Has Fs "_law_has" ⟨2,2,zs9⟩)(i:Int):∀(t:Tm)(n:Nat),run Fs glo fuel (n+num t) "_law_has" [enc t,.int i]=some (.bool (decide (i∈opl t)),false)
 | .leaf o k,n=>by
  refine zz3 h rfl ?_
  show ex (Ga Fs fuel n) zs9 [vl (enc (.leaf o k)),vl (.int i)]=_
  rw[zs9]
  refine zz4 ?_
  have o1:=xu7 o k
  have o2:okd (.tuple [.str "open", .int i])=true:=xu7 true i
  have e:z7 (.tuple [.str (lstr o),.int k]) (.tuple [.str "open", .int i])=decide (i∈opl (.leaf o k)):=by
   cases o with
   | true=>show (("open" : Str) == "open" && (k==i&&true))=decide (i∈[k]);rw[Bool.eq_iff_iff];simp;exact eq_comm
   | false=>show (("name" : Str) == "open" && (k==i&&true))=decide (i∈[]);rw[show (("name" : Str) == "open")=false by decide];simp
  simp only[zf4]at *
  simp[zz7,c_eq,eqD,↓mkT2,zh4,zle2,zq4,ys0,o1,o2,e]
 | .node s a b,n=>by
  have pa:=zx2 a
  have pb:=zx2 b
  have hnn:num (.node s a b)=num a+num b:=rfl
  have ea:=zg5 h i a (n+num b - 1)
  have eb:=zg5 h i b (n+num a - 1)
  rw[show n+num b - 1+num a=n+num a+num b - 1 by exact Nat.succ.inj ((nc4 pb).trans (nc2 pa).symm)]at ea
  rw[show n+num a - 1+num b=n+num a+num b - 1 by exact Nat.succ.inj ((nc3 pa).trans (nc2 pa).symm)]at eb
  rw[hnn,show n+(num a+num b)=n+num a+num b - 1+1 by exact(x0 ..).symm.trans (nc2 pa).symm]
  refine zz3 h rfl ?_
  show ex (Ga Fs fuel (n+num a+num b - 1)) zs9 [vl (enc (.node s a b)),vl (.int i)]=_
  rw[zs9,zz0 (σ':=[vl (enc (.node s a b)),vl (.int i)]) (rfl)]
  refine zz4 ?_
  by_cases hia:i∈opl a
  ·simp[↓zb4,yy3,ea,yh4,hia]
  ·simp[↓zb4,↓xg2,yy3,ea,eb,yh4,hia]
end Pl
end
section
namespace Pl
open Mini PySem
variable {Fs:Fns}{fuel:Nat}
noncomputable def qf_b:I:=(.cons (.iff (.cmp .Eq (.idx (.var 5) (.cint 0)) (.idx (.var 0) (.cint 0))) (.cons (.asg 4 (.bin .Add (.brw 4) (.prim1 .list (.slc (.var 5) (.cint 1) .omit)))) .nil) (.cons (.app 4 (.var 5)) .nil)) .nil)
noncomputable def qf_r:I:=(.ret (.bin .Add (.tup (.cons (.idx (.var 0) (.cint 0)) .nil)) (.prim1 .tuple (.prim1 .sorted (.brw 4)))))
noncomputable def qf_j:I:=(.cons (.asg 4 (.lst .nil)) (.cons (.for1 5 (.lst (.cons (.var 2) (.cons (.var 3) .nil))) qf_b) (.cons qf_r .nil)))
noncomputable def qf_n:I:=(.cons (.asg 2 (.call "_law_filled" (.cons (.idx (.var 0) (.cint 1)) (.cons (.var 1) .nil)))) (.cons (.asg 3 (.call "_law_filled" (.cons (.idx (.var 0) (.cint 2)) (.cons (.var 1) .nil)))) (.cons ya9 qf_j)))
noncomputable def zl2:I:=(.cons (.iff (.cmp .Eq (.idx (.var 0) (.cint 0)) (.cstr "open")) (.cons (.ret (.idx (.var 1) (.idx (.var 0) (.cint 1)))) .nil) .nil) (.cons (.iff (.cmp .Eq (.idx (.var 0) (.cint 0)) (.cstr "name")) (.cons (.ret (.var 0)) .nil) .nil) qf_n))
noncomputable def qfS (t:Tm)(κ:Kn)(a b r d:Option AV):Sg:=[vl (enc t),vl (dK κ),a,b,r,d]
theorem xj1 {Γ:Mini.Env}{s:Sn}{x y:Tm}{κ:Kn}{a b:Option AV}{acc:List D}{k:Nat}{d:D}(hd:Can k d)(hz:acc.length+(parts s d).length<size) :
  ex Γ qf_b (qfS (.node s x y) κ a b (ow (.list acc)) (vl d))=some (.next (qfS (.node s x y) κ a b (ow (.list (acc++parts s d))) (vl d))):=by
 (refine elEEA (hd.head) fun z r e_2 ox=>?_;subst e_2)
 have hr:(1:Int)<=(r.length:Int)+1:=by lia
 by_cases e:z=s.str
 ·subst e
  rw[zu3]at hz |-
  have hz':acc.length+r.length<=size:=by exact zz hz
  refine(zz0 (σ':=qfS (.node s x y) κ a b (ow (.list (acc++r))) (vl (.tuple (.str s.str::r)))) (by simp[qfS,yy3,zv0,zz7,c_eq,eqD,b_ad,zad1,mkL_,xj7,zse2,↓zp1,bE_o,bE_c,zsl2,bD_,orS,zu8,zu0,hr,hz'])).trans rfl
 ·have e':(z==s.str)=false:=by simpa using e
  have hp:parts s (.tuple (.str z::r))=[.tuple (.str z::r)]:=by simp[zg7,e]
  rw[hp]at hz |-
  have hz':acc.length+1<size:=by simpa using hz
  refine(zz0 (σ':=qfS (.node s x y) κ a b (ow (.list (acc++[.tuple (.str z::r)]))) (vl (.tuple (.str z::r)))) (by simp[qfS,yy3,zz7,c_eq,eqD,↓zp1,zu8,ox,zu0,e',hz'])).trans rfl
theorem wo9 {m:Nat}{s:Sn}{x y:Tm}{κ:Kn}{da db:D}{k:Nat}(hs:s≠.pair)(hk:k<=100)(ha:Can k da)(hb:Can k db)(hz:lv da+lv db<64) :
  ex (Ga Fs fuel m) qf_j (qfS (.node s x y) κ (vl da) (vl db) none none)=some (.ret (zw4 s (zx8 (parts s da++parts s db))) false):=by
 have pa:=ze4 hs ha
 have pb:=ze4 hs hb
 have s1:=xj1 (Γ:=Ga Fs fuel m) (s:=s) (x:=x) (y:=y) (κ:=κ) (a:=vl da) (b:=vl db) (acc:=[]) ha (by show 0+_<_;rw[u0];exact qx (qt pa (qf (zz hz))) rfl)
 have s2:=xj1 (Γ:=Ga Fs fuel m) (s:=s) (x:=x) (y:=y) (κ:=κ) (a:=vl da) (b:=vl db) (acc:=[]++parts s da) hb (by rw[List.nil_append];exact qx (qt (qa pa pb) (zz hz)) rfl)
 rw[List.nil_append]at s2
 have q1:=(ha.parts_pos hs).1
 have q2:=(hb.parts_pos hs).1
 have hcp:∀ z∈parts s da++parts s db,Can k z:=fun z hz=>(z6.mp hz).elim (ha.parts_can hs z) (hb.parts_can hs z)
 have hlen:(parts s da++parts s db).length<64:=by rw[zw];exact ql (qa pa pb) hz
 have hso:=yj8 hcp hk hlen
 generalize hR:parts s da++parts s db=R at *
 have hl:(zx8 R).length=R.length:=(zz1 R).length_eq
 have hR2:R.length≠1:=by rw[<- hR,zw];lia
 have hz1:R.length+1<=size:=by exact qt (xz (zz hlen)) (by decide)
 refine(zz0 (σ':=qfS (.node s x y) κ (vl da) (vl db) (ow (.list [])) none) rfl).trans ((zz0 (σ':=qfS (.node s x y) κ (vl da) (vl db) (ow (.list R)) (vl db)) ?_).trans ?_)
 ·rw[zy0,show srcE (ev (Ga Fs fuel m) (.lst (.cons (.var 2) (.cons (.var 3) .nil)))) (qfS (.node s x y) κ (vl da) (vl db) (ow (.list [])) none)=some ([da,db],qfS (.node s x y) κ (vl da) (vl db) (ow (.list [])) none) by rfl]
  show forN (zp3 5) (ex (Ga Fs fuel m) qf_b) [da,db] _=_
  rw[xf1]
  show (ex (Ga Fs fuel m) qf_b (qfS (.node s x y) κ (vl da) (vl db) (ow (.list [])) (vl da))).bind _=_
  rw[s1,jk]
  show forN (zp3 5) (ex (Ga Fs fuel m) qf_b) [db] (qfS (.node s x y) κ (vl da) (vl db) (ow (.list ([]++parts s da))) (vl da))=_
  rw[xf1]
  show (ex (Ga Fs fuel m) qf_b (qfS (.node s x y) κ (vl da) (vl db) (ow (.list (parts s da))) (vl db))).bind _=_
  rw[s2,jk]
  rfl
 ·refine zz4 ?_
  rw[zv2 (by rw[hl];exact hR2),qf_r]
  simp[qfS,yy3,↓zp1,b_ad,zad2,↓mkT1,mkT_,wz9,xp9,zso1,zse1,xp4,hso,hl,hz1]
theorem zk4 (h:Has Fs "_law_filled" ⟨2,6,zl2⟩){c:Nat}{f:Int->D}{κ:Kn}(hc:1<=c) :
  ∀(t:Tm)(n:Nat),c*num t<=20->Vals c f t->(∀ i∈opl t,lk κ i=some (f i))->run Fs glo fuel (n+num t+1) "_law_filled" [enc t,dK κ]=some (zw8 f t,false):=by
 intro t
 induction t with
 | leaf o k =>
  intro n _ hv hk
  refine zz3 h rfl ?_
  show ex (Ga Fs fuel (n+1)) zl2 (qfS (.leaf o k) κ none none none none)=_
  cases o with
  | true =>
   have:=hk k mh
   rw[zl2]
   refine zz4 ?_
   simp[qfS,zz7,c_eq,eqD,↓zp1,↓zb4,zix3,zf4,lstr,zg9,zp0,zu0,zu4,zp2,this]
  | false =>
   refine(zz0 (σ':=qfS (.leaf false k) κ none none none none) (by kernel_rfl)).trans ?_
   refine zz4 ?_
   kernel_rfl
 | node s a b iha ihb =>
  intro n hn hv hk
  have pa:=zx2 a
  have pb:=zx2 b
  have hnn:num (.node s a b)=num a+num b:=rfl
  rw[hnn,Zy]at hn
  have hva:Vals c f a:=fun i hi=>hv i (ml hi)
  have hvb:Vals c f b:=fun i hi=>hv i (mr hi)
  have ea:=iha (n+num b - 1) (by exact qf hn) hva fun i hi=>hk i (ml hi)
  have eb:=ihb (n+num a - 1) (by exact qr hn) hvb fun i hi=>hk i (mr hi)
  rw[show n+num b - 1+num a+1=n+num a+num b by exact nc4 pb]at ea
  rw[show n+num a - 1+num b+1=n+num a+num b by exact nc3 pa]at eb
  rw[hnn,show n+(num a+num b)+1=n+num a+num b+1 from congrArg (·+1) (x0 n (num a) (num b)).symm]
  refine zz3 h rfl ?_
  show ex (Ga Fs fuel (n+num a+num b)) zl2 (qfS (.node s a b) κ none none none none)=_
  have o1:(s.str==("open" : Str))=false:=by cases s<;>decide
  have o2:(s.str==("name" : Str))=false:=by cases s<;>decide
  have ca:=zd0 hc a (by exact qf hn) hva
  have cb:=zd0 hc b (by exact qr hn) hvb
  have hca:num a<=c*num a:=Z9 _ hc
  have hcb:num b<=c*num b:=Z9 _ hc
  have k1:Can 50 (zw8 f a):=ca.1.mono (by exact qy (qZ (qt hca (qf hn)) 7) rfl)
  have k2:Can 50 (zw8 f b):=cb.1.mono (by exact qy (qZ (qt hcb (qr hn)) 7) rfl)
  refine(zz0 (σ':=qfS (.node s a b) κ none none none none) (by simp[qfS,c_eq,eqD,↓zp1,yy3,zp0,zu8,zu0,o1])).trans
   ((zz0 (σ':=qfS (.node s a b) κ none none none none) (by simp[qfS,c_eq,eqD,↓zp1,yy3,zs2,zu8,zu0,o2])).trans
   ((zz0 (σ':=qfS (.node s a b) κ (vl (zw8 f a)) none none none) (by simp[qfS,↓zb4,yy3,ea])).trans
   ((zz0 (σ':=qfS (.node s a b) κ (vl (zw8 f a)) (vl (zw8 f b)) none none) (by simp[qfS,↓xg2,yy3,eb])).trans ?_)))
  by_cases hs:s=.pair
  ·subst hs
   refine zz4 ?_
   rw[ya9]
   kernel_rfl
  ·have o3:(s.str==("pair" : Str))=false:=by simpa using zs6 hs
   refine(zz0 (σ':=qfS (.node s a b) κ (vl (zw8 f a)) (vl (zw8 f b)) none none) (by rw[ya9];simp[qfS,c_eq,eqD,↓zp1,yy3,zq9,zu8,zu0,o3])).trans ?_
   rw[wo9 hs (by decide) k1 k2 (ql (qa ca.2 cb.2) (ql hn (by decide))),zj1,if_neg hs]
end Pl
end
section
namespace Pl
open Mini PySem
variable {Fs:Fns}{fuel:Nat}
noncomputable def qi_0:I:=(.iff (.or (.cons (.not (.isi (.var 0) "tuple")) (.cons (.cmp .Lt (.prim1 .len (.var 0)) (.cint 2)) (.cons (.not (.isi (.idx (.var 0) (.cint 0)) "str")) .nil)))) (.cons (.ret (.cbool false)) .nil) .nil)
noncomputable def qi_1:I:=(.iff (.cmp .Eq (.idx (.var 0) (.cint 0)) (.cstr "name")) (.cons (.ret (.and (.cons (.cmp .Eq (.prim1 .len (.var 0)) (.cint 2)) (.cons (.isi (.idx (.var 0) (.cint 1)) "int") (.cons (.not (.isi (.idx (.var 0) (.cint 1)) "bool")) .nil))))) .nil) .nil)
noncomputable def qi_2:I:=(.iff (.cmp .Eq (.idx (.var 0) (.cint 0)) (.cstr "pair")) (.cons (.ret (.and (.cons (.cmp .Eq (.prim1 .len (.var 0)) (.cint 3)) (.cons (.call "_law_is_form" (.cons (.idx (.var 0) (.cint 1)) .nil)) (.cons (.call "_law_is_form" (.cons (.idx (.var 0) (.cint 2)) .nil)) .nil))))) .nil) .nil)
noncomputable def qi_3:I:=(.iff (.or (.cons (.cmp .NotIn (.idx (.var 0) (.cint 0)) (.lst (.cons (.cstr "sum") (.cons (.cstr "mul") .nil)))) (.cons (.cmp .Lt (.prim1 .len (.var 0)) (.cint 3)) .nil))) (.cons (.ret (.cbool false)) .nil) .nil)
noncomputable def qi_b:I:=(.cons (.iff (.or (.cons (.not (.call "_law_is_form" (.cons (.var 1) .nil))) (.cons (.cmp .Eq (.idx (.var 1) (.cint 0)) (.idx (.var 0) (.cint 0))) .nil))) (.cons (.ret (.cbool false)) .nil) .nil) .nil)
noncomputable def qi_5:I:=(.ret (.cmp .Eq (.prim1 .list (.slc (.var 0) (.cint 1) .omit)) (.prim1 .sorted (.slc (.var 0) (.cint 1) .omit))))
noncomputable def yv2:I:=(.cons qi_0 (.cons qi_1 (.cons qi_2 (.cons qi_3 (.cons (.for1 1 (.slc (.var 0) (.cint 1) .omit) qi_b) (.cons qi_5 .nil))))))
theorem yb0 {Γ:Mini.Env}{z:Str}{x:D}{r:List D}{y:Option AV}:ex Γ qi_0 [vl (.tuple (.str z::x::r)),y]=some (.next [vl (.tuple (.str z::x::r)),y]):=by
 have e:decide (((r.length:Int)+1+1)<2)=false:=decide_eq_false (by lia)
 kernel_rfl
theorem xj0 {Γ:Mini.Env}{z:Str}{r:List D}{y:Option AV}(ho:okd (.str z)=true)(h:(z==("name" : Str))=false):ex Γ qi_1 [vl (.tuple (.str z::r)),y]=some (.next [vl (.tuple (.str z::r)),y]):=by
 simp[qi_1,c_eq,eqD,↓zp1,zs2,ho,zu0,h]
theorem wo8 {Γ:Mini.Env}{z:Str}{r:List D}{y:Option AV}(ho:okd (.str z)=true)(h:(z==("pair" : Str))=false):ex Γ qi_2 [vl (.tuple (.str z::r)),y]=some (.next [vl (.tuple (.str z::r)),y]):=by
 simp[qi_2,c_eq,eqD,↓zp1,zq9,ho,zu0,h]
theorem wo7 {Γ:Mini.Env}{s:Sn}{x y:D}{r:List D}{v:Option AV}(hs:s≠.pair):ex Γ qi_3 [vl (.tuple (.str s.str::x::y::r)),v]=some (.next [vl (.tuple (.str s.str::x::y::r)),v]):=by
 have e:decide (((r.length:Int)+1+1+1)<3)=false:=decide_eq_false (by lia)
 cases s with
 | pair=>exact absurd rfl hs
 | sum=>simp[qi_3,Sn.str,c_ni,inD,c_lt,zh4,zle2,↓zp1,↓mkL2,ym7,ym8,zq4,zu0,zk9,e]
 | mul=>simp[qi_3,Sn.str,c_ni,inD,c_lt,zh4,zle2,↓zp1,↓mkL2,ym7,ym8,zq4,zu0,zk9,e]
theorem wz1 {Γ:Mini.Env}{z:Str}{v:Option AV}:∀{l:List D},2<=l.length->ex Γ qi_0 [vl (.tuple (.str z::l)),v]=some (.next [vl (.tuple (.str z::l)),v])
 | x::r,_=>yb0
theorem wz0 {Γ:Mini.Env}{s:Sn}{v:Option AV}(hs:s≠.pair):∀{l:List D},2<=l.length->ex Γ qi_3 [vl (.tuple (.str s.str::l)),v]=some (.next [vl (.tuple (.str s.str::l)),v])
 | [x],h=>absurd h (show ¬ 2<=1 by decide)
 | x::y::r,_=>wo7 hs
theorem wk2 {k:Nat}{s:Sn}{z:Str}{r:List D}(hp:parts s (.tuple (.str z::r))=[.tuple (.str z::r)])(h2:z=s.str->2<=r.length):(z==s.str)=false:=by
 cases e:z==s.str with
 | false=>rfl
 | true =>
  have e':=eq_of_beq e
  have hl:=h2 e'
  subst e'
  rw[zu3]at hp
  rw[hp]at hl
  exact absurd hl (by simp)
theorem wo6 {m:Nat}{s:Sn}{l:List D}{k:Nat}{d:D}(hd:Can k d)(hp:parts s d=[d])(hr:run Fs glo fuel m "_law_is_form" [d]=some (.bool true,false)) :
  ex (Ga Fs fuel m) qi_b [vl (.tuple (.str s.str::l)),vl d]=some (.next [vl (.tuple (.str s.str::l)),vl d]):=by
 (refine elEEA (hd.head) fun z r e_2 ox=>?_;subst e_2)
 have e:(z==s.str)=false:=wk2 (k:=k) hp fun e=>by subst e;exact hd.two
 refine(zz0 (σ':=[vl (.tuple (.str s.str::l)),vl (.tuple (.str z::r))]) ?_).trans rfl
 simp[c_eq,eqD,↓zp1,hr,zu8,ox,zu0,e]
theorem xk0 {k:Nat}{l:List D}(h:∀ x∈l,Can k x)(hw:l.Pairwise leD):zx8 l=l:=(zp5 (zf6 h) (vV.refl l) hw).symm
theorem xs7 {l:List D}(ho:okd (.list l)=true)(hp:zt6 l=true):eqD (.list l) (.list l)=some true:=by
 have:z7 (.list l) (.list l)=true:=(zt7 hp hp).mpr rfl
 simp[eqD,ho,this]
theorem xp2 (h:Has Fs "_law_is_form" ⟨1,2,yv2⟩){k:Nat}{d:D}(hc:Can k d):(∀ i,¬ Opn i d)->k<=50->∀ n,run Fs glo fuel (n+k+1) "_law_is_form" [d]=some (.bool true,false):=by
 induction hc with
 | leaf k o i =>
  intro ho _ n
  cases o with
  | true=>exact absurd (.self i) (ho i)
  | false =>
   refine zz3 h rfl ?_
   show ex (Ga Fs fuel (n+(k+1))) yv2 [vl (.tuple [.str "name", .int i]),none]=_
   refine(zz0 (σ':=[vl (.tuple [.str "name", .int i]),none]) yb0).trans (zz4 ?_)
   kernel_rfl
 | @pair k a b ha hb iha ihb =>
  intro ho hk n
  have ea:=iha (fun i hi=>ho i (Opn.part (s:=.pair) mh hi)) (uv hk) n
  have eb:=ihb (fun i hi=>ho i (Opn.part (s:=.pair) (mt mh) hi)) (uv hk) n
  refine zz3 h rfl ?_
  show ex (Ga Fs fuel (n+k+1)) yv2 [vl (.tuple [.str "pair", a,b]),none]=_
  refine(zz0 (σ':=[vl (.tuple [.str "pair", a,b]),none]) yb0).trans ((zz0 (σ':=[vl (.tuple [.str "pair", a,b]),none]) (xj0 zq9 zk8)).trans (zz4 ?_))
  simp[qi_2,zz7,c_eq,eqD,zh4,zle2,↓zp1,↓zb4,↓xg2,zq9,zq4,zu0,ys0,ea,eb]
 | @join k s l hs h2 h20 hl hp hw ih =>
  intro ho hk n
  have ie:∀ x∈l,run Fs glo fuel (n+k+1) "_law_is_form" [x]=some (.bool true,false):=fun x hx=>ih x hx (fun i hi=>ho i (.part hx hi)) (uv hk) n
  have o2:(s.str==("name" : Str))=false:=by cases s<;>decide
  have o3:(s.str==("pair" : Str))=false:=by simpa using zs6 hs
  have loop:=zv6 (bnd:=zp3 1) (body:=ex (Ga Fs fuel (n+k+1)) qi_b) id (fun done σ=>∃ v,σ=[vl (.tuple (.str s.str::l)),v]) (L:=l) (σ:=[vl (.tuple (.str s.str::l)),none]) ⟨none,rfl⟩ (by
   rintro done d rest σ e ⟨v,rfl⟩
   have hd:d∈l:=mm e
   exact iEEAA _ _ rfl (wo6 (hl d hd) (hp d hd) (ie d hd)) ⟨vl d,rfl⟩)
  rw[List.map_id]at loop
  (refine xd2 (loop) fun σ' e v e_3=>?_;subst e_3)
  refine zz3 h rfl ?_
  show ex (Ga Fs fuel (n+k+1)) yv2 [vl (.tuple (.str s.str::l)),none]=_
  have hso:zk2 l=some (.list l,true):=by rw[yj8 hl (by lia) (by lia),xk0 hl hw]
  have hok:okd (.list l)=true:=ym9 (fun x hx=>(hl x hx).mono (j:=50) (by lia)) (by decide)
  have heq:=xs7 hok (zx5 fun x hx=>(hl x hx).plain)
  have hone:(1:Int)<=(l.length:Int)+1:=by lia
  refine(zz0 (σ':=[vl (.tuple (.str s.str::l)),none]) ?_).trans ((zz0 (σ':=[vl (.tuple (.str s.str::l)),none]) (xj0 (zu8 s) o2)).trans ((zz0 (σ':=[vl (.tuple (.str s.str::l)),none]) (wo8 (zu8 s) o3)).trans ((zz0 (σ':=[vl (.tuple (.str s.str::l)),none]) ?_).trans ((zz0 (σ':=[vl (.tuple (.str s.str::l)),v]) ?_).trans (zz4 ?_)))))
  ·exact wz1 h2
  ·exact wz0 hs h2
  ·rw[zy0,show srcE (ev (Ga Fs fuel (n+k+1)) (.slc (.var 0) (.cint 1) .omit)) [vl (.tuple (.str s.str::l)),none]=some (l,[vl (.tuple (.str s.str::l)),none]) by simp[zv0,zit2,bE_o,bE_c,zsl2,bD_,hone]]
   exact e
  ·simp[qi_5,zv0,c_eq,heq,xj7,xp9,xp4,zse2,bE_o,bE_c,zsl2,bD_,orS,hone,yw4,hso]
end Pl
end
section
namespace Pl
open Mini PySem
variable {Fs:Fns}{fuel:Nat}
noncomputable def qr_k:I:=(.iff (.or (.cons (.not (.isi (.var 3) "dict")) (.cons (.cmp .NotEq (.prim1 .list (.var 3)) (.var 1)) .nil))) (.cons (.ret .cnone) .nil) .nil)
noncomputable def qr_b:I:=(.cons (.iff (.not (.call "_law_is_form" (.cons (.idx (.var 3) (.var 4)) .nil))) (.cons (.ret .cnone) .nil) .nil) .nil)
noncomputable def qr_a:I:=(.app 2 (.comp1 (.idx (.var 3) (.var 5)) (.var 1) .omit))
noncomputable def qr_o:I:=(.cons qr_k (.cons (.for1 4 (.var 1) qr_b) (.cons qr_a .nil)))
noncomputable def xv5:I:=(.cons (.asg 2 (.lst .nil)) (.cons (.for1 3 (.var 0) qr_o) (.cons (.retO 2) .nil)))
noncomputable def qrS (f:List D)(ns:List Int)(acc:List D)(c d:Option AV):Sg:=[vl (.list f),vl (.list (ns.map .int)),ow (.list acc),c,d]
theorem xk8 {i:Int}:∀{ns:List Int}{r:List D},r.length=ns.length->i∈ns->∃ v,lk (ns.zip r) i=some v
 | n::ns,[],hl,_=>absurd hl (by simp)
 | n::ns,v::r,hl,hi=>by
  cases e:n==i with
  | true=>exact⟨v,by simp[lk,e]⟩
  | false =>
   have hi':i∈ns:=(zQ.mp hi).resolve_left (by rintro rfl;simp at e)
   obtain ⟨u,hu⟩:=xk8 (ns:=ns) (r:=r) (by simpa using hl) hi'
   refine⟨u,?_⟩
   simp only[lk,k6,k7,e]at hu |-
   exact hu
theorem wl2 {ns:List Int}{r:List D}{i:Int}(hl:r.length=ns.length)(hi:i∈ns):lk (ns.zip r) i=some (fn ns r i):=by
 obtain ⟨v,hv⟩:=xk8 hl hi
 rw[hv];unfold fn;rw[hv];rfl
theorem wx6 {ns:List Int}{r:List D}(hl:r.length=ns.length):((ns.zip r).map enK).map (·.1)=ns.map vj:=by
 rw[yk]
 show (ns.zip r).map (vj∘Prod.fst)=_
 rw[<- yk,List.map_fst_zip (xx hl.symm)]
theorem yh7 (ns:List Int):okd (.list (ns.map .int))=true:=zq.mpr ⟨zo4 fun x hx=>(zX.mp hx).elim fun i h=>h.2▸rfl,decide_eq_true (qt (xz (zt5 (k:=0) fun x hx=>(zX.mp hx).elim fun i h=>h.2▸zv _)) (by decide))⟩
theorem ww8 (ns:List Int):eqD (.list (ns.map .int)) (.list (ns.map .int))=some true:=xs7 (yh7 ns) (zx5 fun x hx=>(zX.mp hx).elim fun i h=>h.2▸rfl)
theorem xo8 {l:List (D×D)}:isiD (.dict l) "dict" = some true:=rfl
theorem wk7 {Γ:Mini.Env}{f acc:List D}{ns:List Int}{r:List D}{d:Option AV}(hl:r.length=ns.length):ev Γ (.prim1 .list (.var 3)) (qrS f ns acc (vl (dK (ns.zip r))) d)=some (.list (ns.map .int),true,qrS f ns acc (vl (dK (ns.zip r))) d):=by
 show some (qW.list (((ns.zip r).map enK).map (·.1)),true,qrS f ns acc (vl (dK (ns.zip r))) d)=_
 rw[wx6 hl]
theorem wp5 {Γ:Mini.Env}{f acc:List D}{ns:List Int}{r:List D}{d:Option AV}(hl:r.length=ns.length):ex Γ qr_k (qrS f ns acc (vl (dK (ns.zip r))) d)=some (.next (qrS f ns acc (vl (dK (ns.zip r))) d)):=by
 have h:=wk7 (Γ:=Γ) (f:=f) (acc:=acc) (d:=d) hl
 have e:=ww8 ns
 simp only[qrS]at h |-
 simp[qr_k,h,c_ne,e,dK,xo8]
theorem wp6 {m:Nat}{f acc:List D}{ns:List Int}{r:List D}{i:Int}(hl:r.length=ns.length)(hi:i∈ns)(hr:run Fs glo fuel m "_law_is_form" [fn ns r i]=some (.bool true,false)) :
  ex (Ga Fs fuel m) qr_b (qrS f ns acc (vl (dK (ns.zip r))) (vl (.int i)))=some (.next (qrS f ns acc (vl (dK (ns.zip r))) (vl (.int i)))):=by
 have e:=wl2 hl hi
 refine(zz0 (σ':=qrS f ns acc (vl (dK (ns.zip r))) (vl (.int i))) ?_).trans rfl
 simp[qrS,zix3,zu4,zp2,e,hr]
theorem wp7 {m:Nat}{f acc:List D}{ns:List Int}{r:List D}{d:Option AV}(hn:ns.Nodup)(hl:r.length=ns.length)(hz:ns.length<=size)(ha:acc.length+1<size) :
  ex (Ga Fs fuel m) qr_a (qrS f ns acc (vl (dK (ns.zip r))) d)=some (.next (qrS f ns (acc++[.list r]) (vl (dK (ns.zip r))) d)):=by
 have hcomp:=zm5 (n:=5) (bc:=bc1) (cond:=zm4 .omit (ev (Ga Fs fuel m) .omit)) (elt:=ev (Ga Fs fuel m) (.idx (.var 3) (.var 5))) (σ:=qrS f ns acc (vl (dK (ns.zip r))) d)
  (c:=fun _=>true) (F:=fun d=>match d with|.int i=>fn ns r i|d=>d) rfl (ds:=ns.map .int) fun d hd'=>by
   (refine elEA (zX.mp hd') fun n hn e_2=>?_;subst e_2)
   have hv:=wl2 hl hn
   refine iEAA [.int n] rfl rfl (fun _=>⟨false,?_⟩)
   simp[qrS,zix3,zu4,zp2,hv]
 rw[List.filter_eq_self.mpr (by simp),yk]at hcomp
 replace hcomp:=hcomp.trans (congrArg (fun l=>some (l,qrS f ns acc (vl (dK (ns.zip r))) d)) (show _=r from xs1 hn hl))
 have hev:ev (Ga Fs fuel m) (.comp1 (.idx (.var 3) (.var 5)) (.var 1) .omit) (qrS f ns acc (vl (dK (ns.zip r))) d)=some (.list r,true,qrS f ns acc (vl (dK (ns.zip r))) d):=by
  rw[zl6,show srcE (ev (Ga Fs fuel m) (.var 1)) (qrS f ns acc (vl (dK (ns.zip r))) d)=some (ns.map .int,qrS f ns acc (vl (dK (ns.zip r))) d) by rfl]
  show ((zf5 5 _ _ (ns.map .int) (qrS f ns acc (vl (dK (ns.zip r))) d)).bind _)=_
  rw[zd9,hcomp]
  simp only[jk,mkL]
  rw[if_pos (by rw[hl];exact hz)]
  rfl
 rw[qr_a,xe2,hev]
 simp[qrS,ha]
theorem xp1 (hi:Has Fs "_law_is_form" ⟨1,2,yv2⟩)(h:Has Fs "_law_rows" ⟨2,5,xv5⟩)(n:Nat){ns:List Int}{L:List (List D)}(hn:ns.Nodup)(hz:ns.length<=20)(hL:L.length<size)(hr:∀ r∈L,r.length=ns.length/\∀ v∈r,Can 7 v/\∀ i,¬ Opn i v) :
  run Fs glo fuel (n+10) "_law_rows" [.list (L.map fun r=>dK (ns.zip r)),.list (ns.map .int)]=some (.list (L.map .list),true):=by
 have hzs:ns.length<=size:=qt hz (by decide)
 have loop:=zv6 (bnd:=zp3 3) (body:=ex (Ga Fs fuel (n+9)) qr_o) (fun r=>dK (ns.zip r)) (fun done σ=>∃ c d,σ=qrS (L.map fun r=>dK (ns.zip r)) ns (done.map .list) c d) (L:=L) (σ:=qrS (L.map fun r=>dK (ns.zip r)) ns [] none none) (iEE none none rfl) (by
  (intro done r rest σ e h_1;refine elEE h_1 fun c d e_2=>?_;clear h_1;subst e_2)
  have hm:r∈L:=mm e
  have hd:done.length<L.length:=lm1 e
  obtain ⟨hl,hv⟩:=hr r hm
  have inner:=zv6 (bnd:=zp3 4) (body:=ex (Ga Fs fuel (n+9)) qr_b) vj (fun _ σ=>∃ d,σ=qrS (L.map fun r=>dK (ns.zip r)) ns (done.map .list) (vl (dK (ns.zip r))) d) (L:=ns) (σ:=qrS (L.map fun r=>dK (ns.zip r)) ns (done.map .list) (vl (dK (ns.zip r))) d) ⟨d,rfl⟩ (by
   rintro dn i rest' σ e' ⟨d',rfl⟩
   have him:i∈ns:=mm e'
   have hf:=hv _ (xf3 hn hl him)
   have:=xp2 (fuel:=fuel) hi hf.1 hf.2 (by decide) (n+1)
   exact iEEAA _ _ rfl (wp6 hl him this) ⟨_,rfl⟩)
  (refine xd2 (inner) fun σ' ei d2 e_3=>?_;subst e_3)
  refine iEEAA _ _ rfl ((zz0 (σ':=qrS (L.map fun r=>dK (ns.zip r)) ns (done.map .list) (vl (dK (ns.zip r))) d) (wp5 hl)).trans ((zz0 (σ':=qrS (L.map fun r=>dK (ns.zip r)) ns (done.map .list) (vl (dK (ns.zip r))) d2) (by rw[zy0];exact ei)).trans ((zz0 (σ':=qrS (L.map fun r=>dK (ns.zip r)) ns (done.map .list++[.list r]) (vl (dK (ns.zip r))) d2) (wp7 hn hl hzs (by rw[xj];exact ql hd hL))).trans rfl))) (iEE _ _ (by rw[Zz];rfl)))
 (refine xd1 (loop) fun σ' e c d e_4=>?_;subst e_4)
 refine zz3 h rfl ?_
 show ex (Ga Fs fuel (n+9)) xv5 [vl (.list (L.map fun r=>dK (ns.zip r))),vl (.list (ns.map .int)),none,none,none]=_
 refine(zz0 (σ':=qrS (L.map fun r=>dK (ns.zip r)) ns [] none none) rfl).trans ((zz0 (σ':=qrS (L.map fun r=>dK (ns.zip r)) ns (L.map .list) c d) (by rw[zy0];exact e)).trans (zz4 rfl))
end Pl
end
section
namespace Pl
open Mini PySem
variable {Fs:Fns}{fuel:Nat}
theorem zn6 (c:Int){b:Int}(h:0<b):0<=c.fmod b/\c.fmod b<b:=⟨Int.fmod_nonneg_of_pos c h,Int.fmod_lt_of_pos c h⟩
theorem xf4 (a:Int){b:Nat}(hb:0<b):∃ k:Nat,k<b/\a.fmod b=k:=by
 have h:=zn6 a (b:=b) (u6.mpr hb)
 exact iEA ((a.fmod b).toNat) ((Int.toNat_lt h.1).mpr h.2) ((Int.toNat_of_nonneg h.1).symm)
theorem wv0 (t:Tm):(enc t).canLay0=true:=by
 induction t with
 | leaf o n=>simp[zf4,vK,vz];have:=ys6 (yy9 o);simpa[vK] using this
 | node s a b ha hb=>simp[yy3,vK,vz,ha,hb];have:=ys6 (zu8 s);simpa[vK] using this
theorem wv1 (t:Tm):(enc t).depth<=num t:=by
 induction t with
 | leaf o n=>simp[zf4,ys4,xd6,yl8,zh2,zm3,yb7]
 | node s a b ha hb=>exact nmx (ql ha (Nat.lt_add_of_pos_right (zx2 b))) (ql hb (Nat.lt_add_of_pos_left (zx2 a)))
theorem wt6 {a b n:Nat}(h:a+b<=n+1)(pa:1<=a)(pb:1<=b):∃ m,n=m+1/\a<=m+1/\b<=m+1:=by
 cases n with
 | zero=>exact absurd (qt (qa pa pb) h) (by decide)
 | succ m=>exact iEAA m rfl (yQ (qt (qZ pb a) h)) (yQ (qt (xx (wJ b 1)) (qt (w5 pa b) h)))
noncomputable def sbs (f:Int->Tm):Tm->Tm
 | .leaf true k=>f k
 | .leaf false k=>.leaf false k
 | .node s a b=>.node s (sbs f a) (sbs f b)
noncomputable def pu_n:I:=(.iff (.cmp .Eq (.idx (.var 0) (.cint 0)) (.cstr "name")) (.cons (.ret (.var 0)) .nil) .nil)
noncomputable def pu_r:I:=(.ret (.tup (.cons (.idx (.var 0) (.cint 0)) (.cons (.call "_law_put" (.cons (.idx (.var 0) (.cint 1)) (.cons (.var 1) .nil))) (.cons (.call "_law_put" (.cons (.idx (.var 0) (.cint 2)) (.cons (.var 1) .nil))) .nil)))))
noncomputable def cI (p:Int->Bool):D->Bool
 | .int k=>p k
 | _=>false
theorem xy4 (p:Int->Bool)(ns:List Int):(ns.map vj).filter (cI p)=(ns.filter p).map .int:=by rw[List.filter_map];rfl
theorem yn5 (h:Has Fs "_law_cell_at" ⟨2,2,zt0⟩)(n:Nat)(ns:List Int)(k:Nat) :
  run Fs glo fuel (n+1) "_law_cell_at" [.list (ns.map .int),.int k]=some (.int (ns.getD k 0),false):=by
 rw[zl1 h rfl]
 by_cases hk:k<ns.length
 ·have hk':(k:Int)<(ns.length:Int):=u6.mpr hk
  simp[zt0,zz7,c_lt,zh4,zle1,zix1,zq4,zk9,hk,hk']
 ·have hk':¬ (k:Int)<(ns.length:Int):=fun h=>hk (u6.mp h)
  simp[zt0,zz7,c_lt,zh4,zle1,zq4,zk9,hk,hk']
structure Pile (nums:List Int)(B M:Nat)(ts:List Tm):Prop where
 ok:∀ t∈ts,Pl.ok t
 op:∀ t∈ts,∀ k∈opl t,k∈nums
 sum:(ts.map num).sum+M<=B
theorem wz8 (ts:List Tm):ts.length<=(ts.map num).sum:=by
 induction ts with
 | nil=>exact zv _
 | cons t r ih=>rw[x6,List.sum_cons];exact qt (xx (wJ r.length 1)) (qa (zx2 t) ih)
theorem xu6 {ts:List Tm}(h:2<=ts.length):∃ r a b,ts=r++[a,b]:=by
 rcases List.eq_nil_or_concat ts with rfl|⟨r,b,rfl⟩
 ·exact absurd h (by decide)
 ·rcases List.eq_nil_or_concat r with rfl|⟨r,a,rfl⟩
  ·simp at h
  ·exact iEEE r a b (by simp)
section
variable {nums:List Int}{B M:Nat}{ts r:List Tm}{a b:Tm}
theorem Pile.len (P:Pile nums B M ts):ts.length<=B:=qt (wz8 ts) (qf P.sum)
theorem Pile.join (P:Pile nums B M (r++[a,b]))(s:Sn):Pile nums B M (r++[.node s a b]):=by
 have e:((r++[Tm.node s a b]).map num).sum=((r++[a,b]).map num).sum:=by simp[yr6]
 refine⟨fun t ht=>?_,fun t ht=>?_,e▸P.sum⟩
 ·rcases z6.mp ht with q|q
  ·exact P.ok t (ml q)
  ·rw[xq.mp q];exact⟨P.ok a (mr mh),P.ok b (mr (mt mh))⟩
 ·rcases z6.mp ht with q|q
  ·exact P.op t (ml q)
  ·rw[xq.mp q]
   exact fun k hk=>(z6.mp hk).elim (P.op a (mr mh) k) (P.op b (mr (mt mh)) k)
theorem Pile.leaf {o:Bool}{k:Int}(P:Pile nums B (M+1) ts)(h1:Pl.ok (.leaf o k))(h2:o=true->k∈nums):Pile nums B M (ts++[.leaf o k]):=by
 refine⟨fun t ht=>?_,fun t ht=>?_,?_⟩
 ·rcases z6.mp ht with q|q
  ·exact P.ok t q
  ·rw[xq.mp q];exact h1
 ·rcases z6.mp ht with q|q
  ·exact P.op t q
  ·rw[xq.mp q]
   intro k' hk'
   cases o with
   | true=>rw[xq.mp hk'];exact h2 rfl
   | false=>exact nomatch hk'
 ·have e:((ts++[Tm.leaf o k]).map num).sum+M=(ts.map num).sum+(M+1):=by rw[Zz,List.sum_append];exact(x0 ..).trans (congrArg _ (wJ 1 M))
  rw[e];exact P.sum
end
noncomputable def sgOf:Nat->Sn
 | 1=>.mul
 | 3=>.pair
 | _=>.sum
structure In (c:Nat)(t:Tm):Prop where
 ok:Pl.ok t
 opl:Pl.opl t=[]
 num:Pl.num t<=c
 can:Can 2 (shp t)
theorem wl7 {k:Int}{c:Nat}(h:Pl.ok (.leaf false k))(hc:1<=c):In c (.leaf false k):=⟨h,rfl,hc,.leaf 1 false k⟩
noncomputable def s2 (x:Int):Sn:=if x.fmod 2=0 then .sum else .mul
theorem wg7 (x:Int):idxD (.list [.str "sum", .str "mul"]) (.int (x.fmod 2))=some (.str (s2 x).str):=by
 unfold s2
 rcases n2i (zn6 x (b:=2) (by decide)) with e|e<;>rw[e]<;>rfl
theorem yd8 {f:Int->Tm}:∀{t:Tm},(∀ i∈opl t,opl (f i)=[])->opl (sbs f t)=[]
 | .leaf true k,h=>h k mh
 | .leaf false k,h=>rfl
 | .node s a b,h=>List.append_eq_nil_iff.mpr ⟨yd8 fun i hi=>h i (ml hi),yd8 fun i hi=>h i (mr hi)⟩
theorem xk2 {f:Int->Tm}:∀{t:Tm},ok t->(∀ i∈opl t,ok (f i))->ok (sbs f t)
 | .leaf true k,_,h=>h k mh
 | .leaf false k,q,h=>q
 | .node s a b,q,h=>⟨xk2 q.1 fun i hi=>h i (ml hi),xk2 q.2 fun i hi=>h i (mr hi)⟩
theorem yd2 {a b:List Int}(ha:a.Pairwise (·<·))(hb:b.Pairwise (·<·))(h:∀ k,k∈a↔k∈b):a=b:=by
 have na:a.Nodup:=ha.imp fun q=>Int.ne_of_lt q
 have nb:b.Nodup:=hb.imp fun q=>Int.ne_of_lt q
 refine vV.eq_of_pairwise (le:=(·<·)) (fun x y _ _ h1 h2=>absurd h1 (Int.not_lt.mpr (Int.le_of_lt h2))) ha hb ((List.perm_ext_iff_of_nodup na nb).mpr h)
noncomputable abbrev Tk:=List (Int×Tm)
noncomputable def tkD (l:Tk):Kn:=l.map fun p=>(p.1,enc p.2)
noncomputable def tkF (l:Tk)(i:Int):Tm:=((l.find? fun p=>p.1==i).map (·.2)).getD (.leaf false 0)
noncomputable def tput:Tk->Int->Tm->Tk
 | [],k,t=>[(k,t)]
 | p::r,k,t=>if p.1==k then (p.1,t)::r else p::tput r k t
theorem xl7 {k t}:tput [] k t=[(k,t)]:=rfl
theorem xl6 {p r k t}:tput (p::r) k t=if p.1==k then (p.1,t)::r else p::tput r k t:=rfl
theorem wd5 {i:Int}:∀{l:Tk},i∈l.map (·.1)->lk (tkD l) i=some (enc (tkF l i))
 | [],h=>nomatch h
 | p::r,h=>by
  cases e:p.1==i with
  | true=>simp[lk,tkD,tkF,e]
  | false =>
   have ih:=wd5 (l:=r) ((zQ.mp h).resolve_left fun q=>by rw[q,beq_self_eq_true]at e;exact Bool.noConfusion e)
   simp only[lk,tkD,tkF,x6,k7,e]at ih |-
   exact ih
theorem xd5 {k:Int}{t:Tm}:∀{l:Tk},dput ((tkD l).map enK) (.int k) (enc t)=(tkD (tput l k t)).map enK
 | []=>rfl
 | p::r=>by
  show (if (p.1==k)=true then ((.int p.1,enc t)::(tkD r).map enK) else ((.int p.1,enc p.2)::dput ((tkD r).map enK) (.int k) (enc t)))=(tkD (if (p.1==k)=true then (p.1,t)::r else p::tput r k t)).map enK
  cases p.1==k with
  | true=>rfl
  | false=>exact congrArg (List.cons (vj p.1,enc p.2)) xd5
theorem wu9 {k:Int}{t:Tm}{i:Int}:∀{l:Tk},tkF (tput l k t) i=if i=k then t else tkF l i
 | []=>by
  by_cases e:i=k
  ·rw[if_pos e,e];simp[xl7,tkF]
  ·have e':(k==i)=false:=beq_eq_false_iff_ne.mpr fun q=>e q.symm
   rw[if_neg e];simp[xl7,tkF,e']
 | p::r=>by
  have ih:=wu9 (k:=k) (t:=t) (i:=i) (l:=r)
  rw[xl6]
  cases h:p.1==k with
  | true =>
   have hk:=eq_of_beq h
   rw[if_pos rfl]
   by_cases e:i=k
   ·rw[if_pos e,e];simp[tkF,hk]
   ·have e':(p.1==i)=false:=beq_eq_false_iff_ne.mpr fun q=>e (q.symm.trans hk)
    rw[if_neg e];simp[tkF,e']
  | false =>
   rw[if_neg (by decide)]
   cases h2:p.1==i with
   | true =>
    have e:¬ i=k:=fun q=>by rw[eq_of_beq h2,q,beq_self_eq_true]at h;exact Bool.noConfusion h
    rw[if_neg e];simp[tkF,h2]
   | false =>
    have s1:tkF (p::tput r k t) i=tkF (tput r k t) i:=by simp only[tkF,k7,h2]
    have s2:tkF (p::r) i=tkF r i:=by simp only[tkF,k7,h2]
    rw[s1,s2];exact ih
theorem tput_keys {k:Int}{t:Tm}{i:Int}:∀{l:Tk},i∈(tput l k t).map (·.1)↔i=k\/i∈l.map (·.1)
 | []=>by simp[xl7]
 | p::r=>by
  rw[xl6]
  cases h:p.1==k with
  | true =>
   have hk:=eq_of_beq h
   rw[if_pos rfl,x6,x6,zQ]
   show (i=p.1\/_)↔(i=k\/i=p.1\/_)
   rw[hk]
   exact⟨.inr,fun q=>q.elim .inl id⟩
  | false =>
   rw[if_neg (by decide),x6,x6,zQ,tput_keys,zQ]
   exact⟨fun q=>q.elim (.inr∘.inl) fun q=>q.elim .inl (.inr∘.inr),fun q=>q.elim (.inr∘.inl) fun q=>q.elim .inl (.inr∘.inr)⟩
theorem xw4 {k:Int}{t:Tm}:∀{l:Tk},(tput l k t).length<=l.length+1
 | []=>zv _
 | p::r=>by
  rw[xl6]
  split
  ·exact QW _
  ·exact xz xw4
theorem wg4 {Γ:Mini.Env}{σ σ1 σ2:Mini.Sg}{kv:I}{e:I}{k:Int}{t:Tm}{f g:Bool}{l:Tk}(he:ev Γ e σ=some (enc t,f,σ1))(ho:zq8 σ1 7=true)(hk:ev Γ kv σ1=some (.int k,g,σ2))(h7:ownD σ2 7=some ((tkD l).map enK))(hz:l.length<=100):ex Γ (.sto 7 kv e) σ=some (.next (σ2.set 7 (ow (dK (tkD (tput l k t)))))):=by
 have hz':((tkD l).map enK).length<size:=by rw[xj,tkD,xj];exact qx hz rfl
 have hko:zs3 (.int k) ((tkD l).map enK)=true:=zd2 (tkD l) k
 rw[wf4,he]
 show kst1 7 (ev Γ kv) (enc t) σ1 (zq8 σ1 7)=_
 rw[ho]
 show (ev Γ kv σ1).bind (kst2 7 (enc t))=_
 rw[hk]
 show (ownD σ2 7).bind (kst3 7 (enc t) (.int k) σ2)=_
 rw[h7]
 show (if (zs3 (.int k) ((tkD l).map enK)&&decide (((tkD l).map enK).length<size))=true then _ else _)=_
 rw[hko,decide_eq_true hz',xd5]
 rfl
structure Tks (c:Nat)(sp:List Int)(l:Tk):Prop where
 keys:∀ i,i∈l.map (·.1)↔i∈sp
 inn:∀ i∈sp,In c (tkF l i)
 len:l.length<=2*sp.length
theorem Tks.put {c:Nat}{sp:List Int}{l:Tk}(T:Tks c sp l){p:Int}{t:Tm}(h:In c t):(∀ i,i∈(tput l p t).map (·.1)↔i∈sp++[p])/\(∀ i∈sp++[p],In c (tkF (tput l p t) i)):=by
 refine⟨fun i=>tput_keys.trans ⟨fun q=>q.elim (fun e=>mr (e▸mh)) fun q=>ml ((T.keys i).mp q),fun q=>(z6.mp q).elim (fun q=>.inr ((T.keys i).mpr q)) fun q=>.inl (xq.mp q)⟩,fun i hi=>?_⟩
 rw[wu9]
 by_cases e:i=p
 ·rw[if_pos e];exact h
 ·rw[if_neg e];exact T.inn i ((z6.mp hi).resolve_right fun q=>e (xq.mp q))
end Pl
end
section
namespace Pl
open Mini PySem
variable {Fs:Fns}{fuel:Nat}
theorem yc8:∀{t:Tm},ok t->∀ k∈opl t,0<=k/\k<=9
 | .leaf true n,h,k,hk=>by rw[xq.mp hk];exact h
 | .leaf false n,h,k,hk=>nomatch hk
 | .node s a b,h,k,hk=>(z6.mp hk).elim (yc8 h.1 k) (yc8 h.2 k)
noncomputable def qten:List Int:=[0,1,2,3,4,5,6,7,8,9]
noncomputable def qnm (t:Tm):List Int:=qten.filter fun k=>decide (k∈opl t)
theorem ym0 {t:Tm}(h:ok t)(k:Int):k∈qnm t↔k∈opl t:=by
 rw[qnm,List.mem_filter,decide_eq_true_eq]
 refine⟨fun q=>q.2,fun q=>⟨?_,q⟩⟩
 have hk:=yc8 h k q
 obtain ⟨n,rfl⟩:=Z6 hk.1
 have:n<=9:=Int.ofNat_le.mp hk.2
 exact(by decide:∀ n,n<=9->((n:Nat):Int)∈qten) n this
theorem wt1 (t:Tm):(qnm t).Pairwise (·<·):=List.Pairwise.filter _ (by decide)
theorem xk7 (t:Tm):(qnm t).length<=10:=List.length_filter_le ..
theorem xu8 {l:List D}(h:∀ x∈l,noDct x=true):yz1 l=true:=by
 induction l with
 | nil=>rfl
 | cons x r ih=>exact zq.mpr ⟨h x mh,ih fun y hy=>h y (mt hy)⟩
theorem wt7 {s:Str}{a b:D}(ha:noDct a=true)(hb:noDct b=true):noDct (.tuple [.str s,a,b])=true:=by
 show (true&&(noDct a&&(noDct b&&true)))=true
 rw[ha,hb];rfl
theorem Can.noDct {k:Nat}{d:D}(h:Can k d):Mini.noDct d=true:=by
 induction h with
 | leaf k o n=>rfl
 | pair _ _ iha ihb=>exact wt7 iha ihb
 | join _ _ _ _ _ _ ih=>exact xu8 (l:=_::_) fun x hx=>(zQ.mp hx).elim (fun e=>e▸rfl) (ih x)
theorem zd7:∀ t:Tm,noDct (enc t)=true
 | .leaf o n=>rfl
 | .node s a b=>wt7 (zd7 a) (zd7 b)
theorem xn0 (ns:List Int):noDct (.list (ns.map .int))=true:=xu8 fun x hx=>(zX.mp hx).elim fun i h=>h.2▸rfl
theorem wq6 {S v:D}(h:Tri S v){i:Int}:Opn i v->Opn i S:=by
 induction h with
 | self S=>exact id
 | part hx _ ih=>exact fun q=>.part hx (ih q)
 | @some s l t hs hsub hne =>
  intro q
  by_cases hl:t.length=1
  ·obtain ⟨x,rfl⟩:=List.length_eq_one_iff.mp hl
   exact .part (hsub.subset mh) q
  ·rw[zv2 hl]at q
   generalize hd:(wQ (.str s.str::t))=d at q
   cases q with
   | self =>
    injection hd with e;injection e with e1 e2
    injection e1 with e3
    exact absurd e3 (by cases s<;>decide)
   | part hx ho =>
    injection hd with e;injection e with e1 e2
    exact .part (hsub.subset (e2▸hx)) ho
noncomputable def yb2:I:=(.cons .ndg (.cons (.asg 3 (.call "fillings" (.cons (.var 0) (.cons (.var 1) .nil)))) (.cons (.iff (.not (.isi (.brw 3) "list")) (.cons (.ret .cnone) .nil) .nil) (.cons (.asg 4 (.callB "_law_rows" 3 (.cons (.var 2) .nil))) (.cons (.clrs 3 5) (.cons (.ret (.var 4)) .nil))))))
theorem yp0 {L:List (List D)}(h:∀ r∈L,∀ v∈r,noDct v=true):noDct (.list (L.map .list))=true:=xu8 fun x hx=>(zX.mp hx).elim fun r q=>q.2▸xu8 (h r q.1)
theorem xa1 {ns:List Int}{L:List (List D)}(h:∀ r∈L,∀ v∈r,noDct v=true):sepB (L.map fun r=>dK (ns.zip r)) (.list (L.map .list))=true:=by
 cases L with
 | nil=>rfl
 | cons r R=>exact yp0 h
structure HA (Fs:Fns):Prop where
 m:Hm Fs
 opens:Has Fs "opens_within" ⟨1,4,zw9⟩
 shaped:Has Fs "shaped" ⟨1,1,zj3⟩
 fof:Has Fs "fillings_of" ⟨2,10,zv5⟩
 whole:Has Fs "is_whole" ⟨2,2,zv3⟩
 leaf:Has Fs "is_leaf" ⟨1,1,zr0⟩
 leaves:Has Fs "leaves" ⟨1,4,zj4⟩
 fil:Has Fs "fillings" ⟨2,2,zo0⟩
 form:Has Fs "_law_is_form" ⟨1,2,yv2⟩
 rows:Has Fs "_law_rows" ⟨2,5,xv5⟩
 asked:Has Fs "_law_asked" ⟨3,6,yb2⟩
noncomputable def qaS (t u:Tm)(ns:List Int)(a b:Option AV):Sg:=[vl (enc t),vl (enc u),vl (.list (ns.map .int)),a,b,none]
theorem yc1 (H:HA Fs)(n:Nat){t u:Tm}(ht:ok t)(hu:ok u)(hn:num t<=20)(hm:num u<=20)(hf:100<=fuel)(hS:Can 7 (shp u))(hz:(1+num t)^num u<size)(hno:opl u=[]) :
  ∃ L,Fills (qnm t) (shp t) (shp u) L/\run Fs glo fuel (n+87) "_law_asked" [enc t,enc u,.list ((qnm t).map .int)]=some (.list (L.map .list),false):=by
 refine xs9 (yi4 (fuel:=fuel) H.m H.opens H.shaped H.fof H.whole H.leaf H.leaves H.fil n ht hu hn hm hf hS hz hno) fun ns L n1 n2 n3 e F=>?_
 have hlt:ns.Pairwise (·<·):=(List.pairwise_and_iff.mpr ⟨n2,n1⟩).imp fun h=>Int.lt_iff_le_and_ne.mpr h
 obtain rfl:ns=qnm t:=yd2 hlt (wt1 t) fun k=>(n3 k).trans (ym0 ht k).symm
 have hrow:∀ r∈L,r.length=(qnm t).length/\∀ v∈r,Can 7 v/\∀ i,¬ Opn i v:=fun r hr=>by
  have R:=F.mem r hr
  refine⟨R.1,fun v hv=>⟨(R.2.1 v hv).can hS,fun i hi=>?_⟩⟩
  have:=(ym4 u i).mp (wq6 (R.2.1 v hv) hi)
  rw[hno]at this
  exact nomatch this
 have hnd:∀ r∈L,∀ v∈r,noDct v=true:=fun r hr v hv=>((hrow r hr).2 v hv).1.noDct
 have er:=xp1 (fuel:=fuel) H.form H.rows (n+76) n1 (qy (xk7 t) rfl) F.len hrow
 refine iEA L F (zz3 H.asked rfl ?_)
 show ex (Ga Fs fuel (n+86)) yb2 (qaS t u (qnm t) none none)=_
 have d1:ndS (vl (enc t))=true:=zd7 t
 have d2:ndS (vl (enc u))=true:=zd7 u
 have d3:ndS (vl (.list ((qnm t).map .int)))=true:=xn0 _
 have d4:ndS (ow (.list (L.map .list)))=true:=yp0 hnd
 have d0:ndS none=true:=rfl
 refine(zz0 (σ':=qaS t u (qnm t) none none) ?_).trans ((zz0 (σ':=qaS t u (qnm t) (ow (.list (L.map fun r=>dK ((qnm t).zip r)))) none) (by simp[qaS,e])).trans ((zz0 (σ':=qaS t u (qnm t) (ow (.list (L.map fun r=>dK ((qnm t).zip r)))) none) (by kernel_rfl)).trans
  ((zz0 (σ':=qaS t u (qnm t) (ow (.list (L.map fun r=>dK ((qnm t).zip r)))) (ow (.list (L.map .list)))) ?_).trans ((zz0 (σ':=qaS t u (qnm t) none (ow (.list (L.map .list)))) ?_).trans (zz4 rfl)))))
 ·rw[xe0,if_pos (by simp only[qaS,QV,List.all_nil,d1,d2,d3,d0];rfl)]
 ·simp[qaS,xy9,er,xa1 hnd]
 ·rw[xn6]
  simp[qaS,clrS,d1,d2,d3,d4,d0]
  rw[if_pos (c:=∀ a:List D,a∈L->xg5 (dK ((qnm t).zip a))=true) fun _ _=>rfl];rfl
end Pl
end
section
namespace Pl
open Mini PySem
variable {Fs:Fns}{fuel:Nat}
noncomputable def qn_1:I:=(.iff (.cmp .Eq (.bin .Mod (.var 0) (.cint 3)) (.cint 1)) (.cons (.ret (.lst (.cons (.bin .Mod (.bin .FloorDiv (.var 0) (.cint 3)) (.cint 1000000001)) (.cons (.bin .Mod (.bin .FloorDiv (.var 0) (.cint 3)) (.cint 999999937)) (.cons (.bin .Sub (.cint 1000000000) (.bin .Mod (.bin .FloorDiv (.var 0) (.cint 3)) (.cint 7))) .nil))))) .nil) .nil)
noncomputable def qn_2:I:=(.iff (.cmp .Eq (.bin .Mod (.var 0) (.cint 3)) (.cint 2)) (.cons (.ret (.comp1 (.bin .Add (.bin .Mod (.bin .FloorDiv (.var 0) (.cint 3)) (.cint 900)) (.bin .Mult (.cint 100000000) (.var 1))) (.rng1 (.cint 3)) .omit)) .nil) .nil)
noncomputable def yb1:I:=(.cons qn_1 (.cons qn_2 (.cons (.ret (.lst (.cons (.cint 0) (.cons (.cint 1) (.cons (.cint 2) .nil))))) .nil)))
theorem yn2 {a b c:Int}(ha:0<=a/\a<=1000000000)(hb:0<=b/\b<=1000000000)(hc:0<=c/\c<=1000000000):∀ k∈[a,b,c],ok (.leaf false k):=by
 intro k hk
 rcases zQ.mp hk with rfl|hk
 ·exact ha
 ·rcases zQ.mp hk with rfl|hk
  ·exact hb
  ·rw[xq.mp hk];exact hc
theorem yc0 (h:Has Fs "_law_names" ⟨1,1,yb1⟩)(n:Nat)(c:Int):∃ nm:List Int,nm.length=3/\(∀ k∈nm,ok (.leaf false k))/\run Fs glo fuel (n+1) "_law_names" [.int c]=some (.list (nm.map .int),true):=by
 have c1:uno (.cmp .Eq (.bin .Mod (.var 0) (.cint 3)) (.cint 1)) (ev (Ga Fs fuel n) (.cmp .Eq (.bin .Mod (.var 0) (.cint 3)) (.cint 1))) [vl (.int c)]=some (.bool (c.fmod 3==1),[vl (.int c)]):=by
  rfl
 have c2:uno (.cmp .Eq (.bin .Mod (.var 0) (.cint 3)) (.cint 2)) (ev (Ga Fs fuel n) (.cmp .Eq (.bin .Mod (.var 0) (.cint 3)) (.cint 2))) [vl (.int c)]=some (.bool (c.fmod 3==2),[vl (.int c)]):=by
  rfl
 cases e1:c.fmod 3==1 with
 | true =>
  rw[e1]at c1
  refine iEAA [(c.fdiv 3).fmod 1000000001,(c.fdiv 3).fmod 999999937,1000000000 - (c.fdiv 3).fmod 7] rfl (yn2 (nir (zn6 _ (by decide)) rfl) (nir (zn6 _ (by decide)) rfl) (nis (zn6 _ (by decide)) rfl)) (zz3 h rfl (zz4 ?_))
  show ex (Ga Fs fuel n) qn_1 [vl (.int c)]=_
  rw[qn_1,zz8,c1]
  rfl
 | false =>
  rw[e1]at c1
  have s1:ex (Ga Fs fuel n) qn_1 [vl (.int c)]=some (.next [vl (.int c)]):=by rw[qn_1,zz8,c1];rfl
  cases e2:c.fmod 3==2 with
  | true =>
   rw[e2]at c2
   have a9:=zn6 (c.fdiv 3) (b:=900) (by decide)
   refine iEAA [(c.fdiv 3).fmod 900+0,(c.fdiv 3).fmod 900+100000000,(c.fdiv 3).fmod 900+200000000] rfl ?_ (zz3 h rfl ((zz0 s1).trans (zz4 ?_)))
   ·rw[Int.add_comm,Int.add_comm _ 100000000,Int.add_comm _ 200000000]
    exact yn2 (nia a9 rfl rfl) (nia a9 rfl rfl) (nia a9 rfl rfl)
   ·rw[qn_2,zz8,c2]
    rfl
  | false =>
   rw[e2]at c2
   have s2:ex (Ga Fs fuel n) qn_2 [vl (.int c)]=some (.next [vl (.int c)]):=by rw[qn_2,zz8,c2];rfl
   exact iEAA [0,1,2] rfl (yn2 (by decide) (by decide) (by decide)) (zz3 h rfl ((zz0 s1).trans ((zz0 s2).trans rfl)))
noncomputable def yv0:I:=(.or (.cons (.cmp .Lt (.bin .Mod (.var 5) (.cint 8)) (.cint 4)) (.cons (.cmp .Lt (.prim1 .len (.brw 4)) (.cint 2)) .nil)))
noncomputable def qm_a:I:=(.asg 6 (.tup (.cons (.cstr "name") (.cons (.idx (.var 1) (.bin .Mod (.bin .FloorDiv (.var 5) (.cint 16)) (.prim1 .len (.var 1)))) .nil))))
noncomputable def qm_o:I:=(.iff (.and (.cons (.cmp .NotEq (.var 2) (.lst .nil)) (.cons (.cmp .Eq (.bin .Mod (.bin .FloorDiv (.var 5) (.cint 8)) (.cint 2)) (.cint 1)) .nil))) (.cons (.asg 6 (.tup (.cons (.cstr "open") (.cons (.idx (.var 2) (.bin .Mod (.bin .FloorDiv (.var 5) (.cint 16)) (.cint 3))) .nil)))) .nil) .nil)
noncomputable def yc9:I:=(.cons qm_a (.cons qm_o (.cons (.app 4 (.var 6)) .nil)))
noncomputable def qm_s (e:I):I:=(.cons (.asg 7 (.pop 4)) (.cons (.app 4 (.tup (.cons e (.cons (.pop 4) (.cons (.var 7) .nil))))) .nil))
noncomputable def xa8:I:=(.idx (.lst (.cons (.cstr "sum") (.cons (.cstr "mul") (.cons (.cstr "sum") (.cons (.cstr "pair") .nil))))) (.bin .Sub (.bin .Mod (.var 5) (.cint 8)) (.cint 4)))
noncomputable def zc7:I:=(.cmp .Gt (.prim1 .len (.brw 4)) (.cint 1))
noncomputable def yv1:I:=(.cons (.iff yv0 yc9 (qm_s xa8)) .nil)
noncomputable def qm_0:I:=(.iff (.cmp .Eq (.brw 4) (.lst .nil)) (.cons (.ret (.tup (.cons (.cstr "name") (.cons (.idx (.var 1) (.cint 0)) .nil)))) .nil) .nil)
noncomputable def xv6:I:=(.cons (.asg 4 (.lst .nil)) (.cons (.for1 5 (.var 0) yv1) (.cons (.whl zc7 (qm_s (.var 3))) (.cons qm_0 (.cons (.ret (.idx (.brw 4) (.cint 0))) .nil)))))
section
variable {m:Nat}{v0 v1 v2 v3 v5 v6 v7:Option AV}{nm nums:List Int}{B M:Nat}{ts r:List Tm}{a b:Tm}{c:Int}{L:List D}{x:D}{e:I}
noncomputable abbrev qmS (v0 v1 v2 v3:Option AV)(L:List D)(v5 v6 v7:Option AV):Mini.Sg:=[v0,v1,v2,v3,ow (.list L),v5,v6,v7]
theorem xp6:uno yv0 (ev (Ga Fs fuel m) yv0) (qmS v0 v1 v2 v3 L (vl (.int c)) v6 v7)=some (.bool (decide (c.fmod 8<4)||decide (L.length<2)),qmS v0 v1 v2 v3 L (vl (.int c)) v6 v7):=by
 have e2:decide ((L.length:Int)<2)=decide (L.length<2):=decide_eq_decide.mpr ⟨u6.mp,u6.mpr⟩
 rw[yv0]
 cases h1:decide (c.fmod 8<4)<;>cases h2:decide (L.length<2)<;>rw[h2]at e2<;>simp[c_gt,c_lt,↓bm8,zh4,zle1,zq4,zk9,h1,e2]
theorem xp5:uno zc7 (ev (Ga Fs fuel m) zc7) (qmS v0 v1 v2 v3 L v5 v6 v7)=some (.bool (decide (1<L.length)),qmS v0 v1 v2 v3 L v5 v6 v7):=by
 have e2:decide ((1:Int)<(L.length:Int))=decide (1<L.length):=decide_eq_decide.mpr ⟨u6.mp,u6.mpr⟩
 rw[zc7];simp[c_gt,zh4,zle1,e2]
theorem wo0 (h1:1<=nm.length)(h2:nm.length<=3):∃ k,k∈nm/\ex (Ga Fs fuel m) qm_a (qmS v0 (vl (.list (nm.map .int))) v2 v3 L (vl (.int c)) v6 v7)=some (.next (qmS v0 (vl (.list (nm.map .int))) v2 v3 L (vl (.int c)) (vl (enc (.leaf false k))) v7)):=by
 refine elEA (xf4 (c.fdiv 16) (b:=nm.length) h1) fun i hi ei=>?_
 have s16:zy8 16=true:=by decide
 have g1:nm[i]?=some (nm[i]'hi):=qJ _
 have m1:nm[i]'hi∈nm:=vX _
 generalize nm[i]'hi=k1 at g1 m1
 have sn:zy8 (nm.length:Int)=true:=decide_eq_true (na62 h2 rfl)
 have n0:¬ nm=[]:=fun q=>by rw[q]at h1;exact absurd h1 (by decide)
 exact iEA k1 m1 (by rw[qm_a];simp[wb3,vx1,zh4,zle1,zix1,s16,sn,n0,ei,g1,↓mkT2,zf4,lstr])
theorem wp9 (h:nums=[]\/nums.length=3):∃ x,(x=v6\/∃ k∈nums,x=vl (enc (.leaf true k)))/\ex (Ga Fs fuel m) qm_o (qmS v0 v1 (vl (.list (nums.map .int))) v3 L (vl (.int c)) v6 v7)=some (.next (qmS v0 v1 (vl (.list (nums.map .int))) v3 L (vl (.int c)) x v7)):=by
 have ho:=yh7 nums
 rcases h with rfl|h
 ·exact iEA v6 (.inl rfl) (by rw[qm_o];rfl)
 ·have en:z7 (.list (nums.map .int)) (.list [])=false:=(zh1 _).trans (by
   cases nums with
   | nil=>exact absurd h (by decide)
   | cons=>rfl)
  rcases n2i (zn6 (c.fdiv 8) (b:=2) (by decide)) with q|q
  ·refine iEA v6 (.inl rfl) ?_
   rw[qm_o];simp[c_ne,c_eq,eqD,ho,zl4,en,↓mkL0,↓bd8,↓bm2,q,zq4,ys0]
  ·refine elEA (xf4 (c.fdiv 16) (b:=3) (by decide)) fun i hi ei=>?_
   have ei':(c.fdiv 16).fmod 3=(i:Int):=ei
   have s16:zy8 16=true:=by decide
   have hi':i<nums.length:=h▸hi
   have g1:nums[i]?=some (nums[i]'hi'):=qJ _
   have m1:nums[i]'hi'∈nums:=vX _
   generalize nums[i]'hi'=k1 at g1 m1
   refine iEA (vl (enc (.leaf true k1))) (.inr (iEA k1 m1 rfl)) ?_
   rw[qm_o];simp[c_ne,c_eq,eqD,ho,zl4,en,↓mkL0,↓bd8,↓bm2,q,zq4,ys0,wb3,↓bm3,s16,ei',zix1,g1,↓mkT2,zf4,lstr,zz7]
theorem yi8 (h1:1<=nm.length)(h2:nm.length<=3)(h3:nums=[]\/nums.length=3)(hz:ts.length+1<size) :
  ∃ o k v,(o=false/\k∈nm\/o=true/\k∈nums)/\ex (Ga Fs fuel m) yc9 (qmS v0 (vl (.list (nm.map .int))) (vl (.list (nums.map .int))) v3 (ts.map enc) (vl (.int c)) v6 v7)=some (.next (qmS v0 (vl (.list (nm.map .int))) (vl (.list (nums.map .int))) v3 ((ts++[Tm.leaf o k]).map enc) (vl (.int c)) v v7)):=by
 refine elEA (wo0 (Fs:=Fs) (fuel:=fuel) (m:=m) (v0:=v0) (v2:=vl (.list (nums.map .int))) (v3:=v3) (L:=ts.map enc) (c:=c) (v6:=v6) (v7:=v7) h1 h2) fun k hk e1=>?_
 refine elEA (wp9 (Fs:=Fs) (fuel:=fuel) (m:=m) (v0:=v0) (v1:=vl (.list (nm.map .int))) (v3:=v3) (L:=ts.map enc) (c:=c) (v6:=vl (enc (.leaf false k))) (v7:=v7) h3) fun x hx e2=>?_
 have hz':(ts.map enc).length+1<size:=by rw[xj];exact hz
 rcases hx with rfl|⟨k2,hk2,rfl⟩
 ·refine iEEEA false k _ (.inl ⟨rfl,hk⟩) ((zz0 e1).trans ((zz0 e2).trans ((zz0 (σ':=qmS v0 (vl (.list (nm.map .int))) (vl (.list (nums.map .int))) v3 ((ts++[Tm.leaf false k]).map enc) (vl (.int c)) (vl (enc (.leaf false k))) v7) ?_).trans rfl)))
  simp[hz]
 ·refine iEEEA true k2 _ (.inr ⟨rfl,hk2⟩) ((zz0 e1).trans ((zz0 e2).trans ((zz0 (σ':=qmS v0 (vl (.list (nm.map .int))) (vl (.list (nums.map .int))) v3 ((ts++[Tm.leaf true k2]).map enc) (vl (.int c)) (vl (enc (.leaf true k2))) v7) ?_).trans rfl)))
  simp[hz]
theorem yi7 {s:Sn}(he:∀ L v7,ev (Ga Fs fuel m) e (qmS v0 v1 v2 v3 L v5 v6 v7)=some (.str s.str,false,qmS v0 v1 v2 v3 L v5 v6 v7))(hz:r.length+1<size) :
  ex (Ga Fs fuel m) (qm_s e) (qmS v0 v1 v2 v3 ((r++[a,b]).map enc) v5 v6 v7)=some (.next (qmS v0 v1 v2 v3 ((r++[Tm.node s a b]).map enc) v5 v6 (vl (enc b)))):=by
 rw[qm_s,zz0 (σ':=qmS v0 v1 v2 v3 ((r++[a]).map enc) v5 v6 (vl (enc b))) (by simp),zz0 (σ':=qmS v0 v1 v2 v3 ((r++[Tm.node s a b]).map enc) v5 v6 (vl (enc b)))]
 ·rfl
 simp[he,↓mkT3,hz,yy3]
theorem xa7 (h:¬ c.fmod 8<4):∃ s:Sn,∀ L v7,ev (Ga Fs fuel m) xa8 (qmS v0 v1 v2 v3 L (vl (.int c)) v6 v7)=some (.str s.str,false,qmS v0 v1 v2 v3 L (vl (.int c)) v6 v7):=by
 have z4:(4:Nat)<=size:=by unfold size;decide
 have h8:=zn6 c (b:=8) (by decide)
 obtain ⟨k,ek⟩:=Z6 (Int.sub_nonneg_of_le (Int.not_lt.mp h))
 have hk:k<4:=by have:=h8.2;lia
 have hi:([qW.str "sum", .str "mul", .str "sum", .str "pair"])[k]?=some (.str (sgOf k).str):=by
  rcases n4s hk with rfl|rfl|rfl|rfl<;>rfl
 exact⟨sgOf k,fun L v7=>by rw[xa8];simp[↓bm8,↓wh6,mkL_,zix1,ek,hi,z4]⟩
theorem Pile.less (P:Pile nums B (M+1) ts):Pile nums B M ts:=⟨P.ok,P.op,qt (qZ (QW M) _) P.sum⟩
theorem wp8 (h1:1<=nm.length)(h2:nm.length<=3)(h3:nums=[]\/nums.length=3)(h0:∀ k∈nm,ok (.leaf false k))(hk:∀ k∈nums,ok (.leaf true k))(hB:B<=1000)(P:Pile nums B (M+1) ts) :
  ∃ ts' v6' v7',ex (Ga Fs fuel m) yv1 (qmS v0 (vl (.list (nm.map .int))) (vl (.list (nums.map .int))) v3 (ts.map enc) (vl (.int c)) v6 v7)=some (.next (qmS v0 (vl (.list (nm.map .int))) (vl (.list (nums.map .int))) v3 (ts'.map enc) (vl (.int c)) v6' v7'))/\Pile nums B M ts':=by
 have hc:=xp6 (Fs:=Fs) (fuel:=fuel) (m:=m) (v0:=v0) (v1:=vl (.list (nm.map .int))) (v2:=vl (.list (nums.map .int))) (v3:=v3) (L:=ts.map enc) (c:=c) (v6:=v6) (v7:=v7)
 have hlen:=qt P.len hB
 have key:∀{σ:Mini.Sg},ex (Ga Fs fuel m) (.iff yv0 yc9 (qm_s xa8)) (qmS v0 (vl (.list (nm.map .int))) (vl (.list (nums.map .int))) v3 (ts.map enc) (vl (.int c)) v6 v7)=some (.next σ)->ex (Ga Fs fuel m) yv1 (qmS v0 (vl (.list (nm.map .int))) (vl (.list (nums.map .int))) v3 (ts.map enc) (vl (.int c)) v6 v7)=some (.next σ):=fun h=>(zz0 h).trans rfl
 cases hb:(decide (c.fmod 8<4)||decide ((ts.map enc).length<2)) with
 | true =>
  rw[hb]at hc
  refine elEEEA (yi8 (Fs:=Fs) (fuel:=fuel) (m:=m) (v0:=v0) (v3:=v3) (ts:=ts) (c:=c) (v6:=v6) (v7:=v7) h1 h2 h3 (qx (xz hlen) rfl)) fun o k v ho e=>?_
  refine iEEEA (ts++[.leaf o k]) v v7 (key (by rw[zz8,hc];exact e)) (P.leaf ?_ fun q=>?_)
  ·rcases ho with ⟨rfl,h⟩|⟨rfl,h⟩
   ·exact h0 k h
   ·exact hk k h
  ·rcases ho with ⟨rfl,h⟩|⟨rfl,h⟩
   ·exact nomatch q
   ·exact h
 | false =>
  rw[hb]at hc
  obtain ⟨q1,q2⟩:=Bool.or_eq_false_iff.mp hb
  have q2':2<=ts.length:=by have:=of_decide_eq_false q2;rw[xj]at this;exact z9 this
  obtain ⟨s,hs⟩:=xa7 (Fs:=Fs) (fuel:=fuel) (m:=m) (v0:=v0) (v1:=vl (.list (nm.map .int))) (v2:=vl (.list (nums.map .int))) (v3:=v3) (v6:=v6) (of_decide_eq_false q1)
  (refine xm2 (xu6 q2') fun r a b e_3=>?_;subst e_3)
  exact iEEEA (r++[.node s a b]) v6 (vl (enc b)) (key (by rw[zz8,hc];exact yi7 hs (qx (xz (qt (by rw[zw];exact qk ..) hlen)) rfl))) ((P.less).join s)
theorem wt2 {s:Sn}(hB:B<=1000):∀(f:Nat)(ts:List Tm)(v5 v6 v7:Option AV),Pile nums B M ts->ts.length<f ->
  ∃ ts' v7',zs0 (uno zc7 (ev (Ga Fs fuel m) zc7)) (ex (Ga Fs fuel m) (qm_s (.var 3))) f (qmS v0 v1 v2 (vl (.str s.str)) (ts.map enc) v5 v6 v7)=some (.next (qmS v0 v1 v2 (vl (.str s.str)) (ts'.map enc) v5 v6 v7'))/\Pile nums B M ts'/\ts'.length<=1
 | 0,_,_,_,_,_,h=>absurd h (Nat.not_lt_zero _)
 | f+1,ts,v5,v6,v7,P,hf=>by
  have ht:=xp5 (Fs:=Fs) (fuel:=fuel) (m:=m) (v0:=v0) (v1:=v1) (v2:=v2) (v3:=vl (.str s.str)) (L:=ts.map enc) (v5:=v5) (v6:=v6) (v7:=v7)
  rw[xj]at ht
  by_cases h2:2<=ts.length
  ·rw[decide_eq_true (p:=1<ts.length) h2]at ht
   have hlen:=qt P.len hB
   (refine xm2 (xu6 h2) fun r a b e_3=>?_;subst e_3)
   obtain ⟨ts',v7',e,P',hl⟩:=wt2 hB f (r++[.node s a b]) v5 v6 (vl (enc b)) (P.join s) (by rw[zw]at hf |-;exact Nat.lt_of_succ_lt_succ hf)
   exact iEEAA ts' v7' ((zc2 ht rfl (yi7 (fun L v7=>rfl) (qx (xz (qt (by rw[zw];exact qk ..) hlen)) rfl))).trans e) P' hl
  ·rw[decide_eq_false (p:=1<ts.length) h2]at ht
   exact iEEAA ts v7 (ye9 ht rfl) P (z9 h2)
end
theorem yq7 (h:Has Fs "_law_made" ⟨4,8,xv6⟩)(m:Nat)(cs:List Int){nm nums:List Int}{s:Sn}(h1:1<=nm.length)(h2:nm.length<=3)(h3:nums=[]\/nums.length=3)(h0:∀ k∈nm,ok (.leaf false k))(hk:∀ k∈nums,ok (.leaf true k))(hM:cs.length<=100)(hf:1000<=fuel) :
  ∃ t,ok t/\(∀ k∈opl t,k∈nums)/\num t<=max 1 cs.length/\run Fs glo fuel (m+1) "_law_made" [.list (cs.map .int),.list (nm.map .int),.list (nums.map .int),.str s.str]=some (enc t,false):=by
 have hB:cs.length<=1000:=qy hM rfl
 have loop:=zv6 (bnd:=zp3 5) (body:=ex (Ga Fs fuel m) yv1) vj (fun done σ=>∃ M ts x y z,Pile nums cs.length M ts/\M+done.length=cs.length/\σ=qmS (vl (.list (cs.map .int))) (vl (.list (nm.map .int))) (vl (.list (nums.map .int))) (vl (.str s.str)) (ts.map enc) x y z) (L:=cs)
  (σ:=qmS (vl (.list (cs.map .int))) (vl (.list (nm.map .int))) (vl (.list (nums.map .int))) (vl (.str s.str)) [] none none none) (xt7 cs.length [] none none none ⟨(fun t h=>nomatch h),(fun t h=>nomatch h),xx (u0 _)⟩ rfl rfl) (by
   (intro done c rest σ e h_1;refine xe8 h_1 fun M ts x y z P hM e_7=>?_;clear h_1;subst e_7)
   have hd:done.length<cs.length:=lm1 e
   obtain ⟨M,rfl⟩:∃ j,M=j+1:=⟨M - 1,by lia⟩
   refine elEEEA (wp8 (Fs:=Fs) (fuel:=fuel) (m:=m) (v0:=vl (.list (cs.map .int))) (v3:=vl (.str s.str)) (c:=c) (v6:=y) (v7:=z) h1 h2 h3 h0 hk hB P) fun ts2 y2 z2 es P2=>?_
   exact iEEAA _ _ rfl es (xt7 M ts2 (vl (.int c)) y2 z2 P2 (by rw[zw,<- hM];exact(x0 M 1 _).symm▸congrArg (M+·) (wJ ..)) rfl))
 obtain ⟨σ',el,M',ts,x,y,z,P,_,rfl⟩:=loop
 refine elEEAA (wt2 (Fs:=Fs) (fuel:=fuel) (m:=m) (v0:=vl (.list (cs.map .int))) (v1:=vl (.list (nm.map .int))) (v2:=vl (.list (nums.map .int))) (s:=s) hB fuel ts x y z P (z8 (qt P.len hM) (vZ (by decide) hf))) fun ts' z' ew P' hl=>?_
 have e1:=(zy0 (Γ:=Ga Fs fuel m) (k:=5) (s:=.var 0) (b:=yv1) (σ:=qmS (vl (.list (cs.map .int))) (vl (.list (nm.map .int))) (vl (.list (nums.map .int))) (vl (.str s.str)) [] none none none)).trans el
 have e2:=eq_ex_whl.trans ew
 have hs:∀ d f,ex (Ga Fs fuel m) (.cons qm_0 (.cons (.ret (.idx (.brw 4) (.cint 0))) .nil)) (qmS (vl (.list (cs.map .int))) (vl (.list (nm.map .int))) (vl (.list (nums.map .int))) (vl (.str s.str)) (ts'.map enc) x y z')=some (.ret d f)->run Fs glo fuel (m+1) "_law_made" [.list (cs.map .int),.list (nm.map .int),.list (nums.map .int),.str s.str]=some (d,f):=fun d f hd=>by
  exact zz3 h rfl ((zz0 (σ':=qmS (vl (.list (cs.map .int))) (vl (.list (nm.map .int))) (vl (.list (nums.map .int))) (vl (.str s.str)) [] none none none) rfl).trans ((zz0 e1).trans ((zz0 e2).trans hd)))
 cases ts' with
 | nil =>
  have g:nm[0]?=some (nm[0]'h1):=qJ _
  have g2:nm[0]'h1∈nm:=vX _
  generalize nm[0]'h1=c at g g2
  refine iEAAA (.leaf false c) (h0 c g2) (fun k h=>nomatch h) (Nat.le_max_left ..) (hs _ _ (zz4 ?_))
  rw[qm_0];simp[zz7,c_eq,eqD,↓mkT2,↓mkL0,zix1,g,zl4,zh1,zf4,lstr]
 | cons t r =>
  obtain rfl:r=[]:=Z3.mp (Nat.le_zero.mp (yQ hl))
  have hsum:num t+M'<=cs.length:=P'.sum
  have hokt:okd (.list [enc t])=true:=zq.mpr ⟨zo4 (l:=[enc t]) fun x hx=>by rw[xq.mp hx];exact wv0 t,decide_eq_true (qt (xz (zt5 (k:=900) (l:=[enc t]) fun x hx=>by rw[xq.mp hx];exact qt (wv1 t) (qt (qf hsum) (qy hM rfl)))) (by decide))⟩
  refine iEAAA t (P'.ok t mh) (P'.op t mh) (qt (qf hsum) (Q3 ..)) (hs _ _ ((zz0 (σ':=qmS (vl (.list (cs.map .int))) (vl (.list (nm.map .int))) (vl (.list (nums.map .int))) (vl (.str s.str)) [enc t] x y z') ?_).trans (zz4 ?_)))
  ·rw[qm_0];simp[c_eq,eqD,↓mkL0,hokt,zl4,zh1]
  ·simp[↓wd9]
end Pl
end
section
namespace Pl
open Mini PySem
variable {Fs:Fns}{fuel:Nat}
noncomputable def qg_1:I:=(.iff (.or (.cons (.cmp .Eq (.idx (.var 0) (.cint 0)) (.cstr "pair")) (.cons (.cmp .Eq (.prim1 .len (.var 0)) (.cint 3)) .nil))) (.cons (.ret (.tup (.cons (.idx (.var 0) (.cint 0)) (.cons (.call "_law_grown" (.cons (.idx (.var 0) (.cint 1)) .nil)) (.cons (.call "_law_grown" (.cons (.idx (.var 0) (.cint 2)) .nil)) .nil))))) .nil) .nil)
noncomputable def qg_2:I:=(.ret (.tup (.cons (.idx (.var 0) (.cint 0)) (.cons (.call "_law_grown" (.cons (.idx (.var 0) (.cint 1)) .nil)) (.cons (.call "_law_grown" (.cons (.bin .Add (.tup (.cons (.idx (.var 0) (.cint 0)) .nil)) (.slc (.var 0) (.cint 2) .omit)) .nil)) .nil)))))
noncomputable def ym2:I:=(.cons pu_n (.cons qg_1 (.cons qg_2 .nil)))
theorem zg4 (h:Has Fs "_law_grown" ⟨1,1,ym2⟩):∀(t:Tm)(n:Nat),num t<=n+1->opl t=[]->run Fs glo fuel (n+1) "_law_grown" [enc t]=some (enc t,false)
 | .leaf true k,n,_,ho=>nomatch ho
 | .leaf false k,n,_,_=>zz3 h rfl (zz4 (yt (by kernel_rfl) (xr rfl)))
 | .node s a b,n,hn,ho=>by
  (refine zx4 (wt6 hn (zx2 a) (zx2 b)) fun m e_1 ha hb=>?_;subst e_1)
  obtain ⟨oa,ob⟩:=List.append_eq_nil_iff.mp ho
  have ea:=zg4 h a m ha oa
  have eb:=zg4 h b m hb ob
  exact zz3 h rfl (xn (yf (ceq0 rfl (zu8 s) zs2 (yd6 s)) rfl) (zz4 (yt (by cases s<;>kernel_rfl) (xr (vt (es rfl (es (vc rfl ea) (es (vc rfl eb) rfl))) rfl)))))
theorem wc4 {Γ:Mini.Env}{a:I}{σ:Mini.Sg}{κ:Kn}{k:Nat}{j:Int}{v:D}(ho:duo (.var k) (ev Γ (.var k)) a (ev Γ a) σ=some (dK κ,.int j,σ))(h:lk κ j=some v):ev Γ (.idx (.var k) a) σ=some (v,false,σ):=by
 rw[xe7,ho];exact congrArg (Option.bind · _) ((wl9 κ j).trans h)
noncomputable def qp_o:I:=(.iff (.cmp .Eq (.idx (.var 0) (.cint 0)) (.cstr "open")) (.cons (.ret (.call "_law_grown" (.cons (.idx (.var 1) (.idx (.var 0) (.cint 1))) .nil))) .nil) .nil)
noncomputable def wn6:I:=(.cons qp_o (.cons pu_n (.cons pu_r .nil)))
theorem yw7 (hg:Has Fs "_law_grown" ⟨1,1,ym2⟩)(h:Has Fs "_law_put" ⟨2,2,wn6⟩){c:Nat}{f:Int->Tm}{κ:Kn}:∀(t:Tm)(n:Nat),num t<=n+1->(∀ i∈opl t,lk κ i=some (enc (f i))/\num (f i)<=c+1/\opl (f i)=[])->run Fs glo fuel (c+n+2) "_law_put" [enc t,dK κ]=some (enc (sbs f t),false)
 | .leaf true k,n,_,hk=>by
  refine elAA (hk k mh) fun e e1 e2=>?_
  have g:=zg4 (fuel:=fuel) hg (f k) (c+n) (qt e1 (xz (qk ..))) e2
  exact zz3 h rfl (zz4 (yt (by kernel_rfl) (xr (vc (es (wc4 rfl e) rfl) g))))
 | .leaf false k,n,_,hk=>zz3 h rfl (xn (yf (by kernel_rfl) rfl) (zz4 (yt (by kernel_rfl) (xr rfl))))
 | .node s a b,n,hn,hk=>by
  (refine zx4 (wt6 hn (zx2 a) (zx2 b)) fun m e_1 ha hb=>?_;subst e_1)
  have ea:run Fs glo fuel (c+(m+1)+1) "_law_put" [enc a,dK κ]=_:=yw7 hg h a m ha fun i hi=>hk i (ml hi)
  have eb:run Fs glo fuel (c+(m+1)+1) "_law_put" [enc b,dK κ]=_:=yw7 hg h b m hb fun i hi=>hk i (mr hi)
  exact zz3 h rfl (xn (yf (ceq0 rfl (zu8 s) zp0 (xk1 s)) rfl) (xn (yf (ceq0 rfl (zu8 s) zs2 (yd6 s)) rfl) (xr (vt (es rfl (es (vc rfl ea) (es (vc rfl eb) rfl))) rfl))))
theorem xb9 (x y:D):zx8 [x,y]=[y,x]\/zx8 [x,y]=[x,y]:=by
 show insD x [y]=_\/insD x [y]=_
 rw[xg6]
 split
 ·exact .inl rfl
 ·exact .inr rfl
theorem xq7 (f:Int->D):∀{t:Tm},ok t->opl t=[]->num t<=2->∃ u,zw8 f t=enc u/\In 2 u
 | .leaf true k,h,ho,hn=>nomatch ho
 | .leaf false k,h,ho,hn=>iEA (.leaf false k) rfl (wl7 h (by decide))
 | .node s (.node s' a a') b,h,ho,hn=>absurd hn (Nat.not_le.mpr (jQ (jQ (zx2 a) (zx2 a')) (zx2 b)))
 | .node s (.leaf o k) (.node s' b b'),h,ho,hn=>absurd hn (Nat.not_le.mpr (jQ (zv 1) (jQ (zx2 b) (zx2 b'))))
 | .node s (.leaf true k) (.leaf p j),h,ho,hn=>nomatch ho
 | .node s (.leaf false k) (.leaf true j),h,ho,hn=>nomatch ho
 | .node s (.leaf false k) (.leaf false j),h,ho,hn=>by
  have key:∀ x y:Int,ok (.leaf false x)->ok (.leaf false y)->In 2 (.node s (.leaf false x) (.leaf false y)):=fun x y hx hy=>⟨⟨hx,hy⟩,rfl,zv 2,(zq3 (.node s (.leaf false x) (.leaf false y)) (show 2<=20 by decide)).1⟩
  rw[zj1]
  by_cases hs:s=.pair
  ·subst hs;exact iEA _ rfl (key k j h.1 h.2)
  ·rw[if_neg hs,zg9,zg9,if_neg (by decide),if_neg (by decide),zf4,zf4,zs7,zs7]
   rcases xb9 (.tuple [.str (lstr false),.int k]) (.tuple [.str (lstr false),.int j]) with q|q
   all_goals rw[List.singleton_append,q]
   ·exact iEA (.node s (.leaf false j) (.leaf false k)) (zv2 (show 2≠1 by decide)) (key j k h.2 h.1)
   ·exact iEA (.node s (.leaf false k) (.leaf false j)) (zv2 (show 2≠1 by decide)) (key k j h.1 h.2)
theorem yn4 {f:Int->Tm}{c:Nat}(hc:1<=c):∀{t:Tm},(∀ i∈opl t,num (f i)<=c)->num (sbs f t)<=c*num t
 | .leaf true k,h=>by show num (f k)<=c*1;rw[Nat.mul_one];exact h k mh
 | .leaf false k,h=>by show 1<=c*1;rw[Nat.mul_one];exact hc
 | .node s a b,h=>by
  show num (sbs f a)+num (sbs f b)<=c*(num a+num b)
  rw[Zy];exact jQ (yn4 hc fun i hi=>h i (ml hi)) (yn4 hc fun i hi=>h i (mr hi))
noncomputable def qf_e:I:=(.call "_law_filled" (.cons (.call "_law_made" (.cons (.slc (.var 0) (.bin .Add (.cint 7) (.var 8)) (.bin .Add (.cint 9) (.var 8))) (.cons (.var 2) (.cons (.lst .nil) (.cons (.cstr "mul") .nil))))) (.cons .dct0 .nil)))
noncomputable def qf_s:I:=(.cons (.sto 7 (.idx (.var 3) (.var 8)) qf_e) .nil)
noncomputable abbrev qlS (N:List D)(v1:Option AV)(nm sp:List Int)(v4 v5 v6 v7 v8 v9 v10:Option AV):Mini.Sg:=[vl (.list N),v1,vl (.list (nm.map .int)),vl (.list (sp.map .int)),v4,v5,v6,v7,v8,v9,v10]
theorem yi1 (ns:List Int)(a b:Option Int):zw5 (ns.map vj) a b=(zw5 ns a b).map .int:=by simp[zw5,List.map_drop,List.map_take]
theorem xr6 {α:Type}(l:List α)(a b:Nat):(zw5 l (some (a:Int)) (some (b:Int))).length<=b - a:=by
 have ea:∀ k:Nat,zn1 l.length (k:Int)=min k l.length:=fun k=>by
  rw[zn1,if_neg (Int.not_lt.mpr (Q8 k)),jz]
 show ((l.take (zn1 l.length b)).drop (zn1 l.length a)).length<=b - a
 rw[List.length_drop,Z2,ea,ea]
 refine Nat.sub_le_of_le_add (qv (j5 ..) ?_)
 by_cases h:a<=l.length
 ·rw[wV h];exact qv (j5 ..) (Nat.le_add_of_sub_le (zv _))
 ·rw[ZX (Nat.le_of_not_le h)];exact qv (Q2 ..) (w3 ..)
theorem ym1 (hm:Has Fs "_law_made" ⟨4,8,xv6⟩)(hl:Has Fs "_law_filled" ⟨2,6,zl2⟩){n:Nat}{ns:List Int}{v1 v4 v5 v6 v9 v10:Option AV}{nm sp:List Int}{l:Tk}{k:Nat}{p:Int}{done:List Int}(h1:1<=nm.length)(h2:nm.length<=3)(h0:∀ k∈nm,ok (.leaf false k))(hp:sp[k]?=some p)(hk:k<=100)(T:Tks 2 done l)(hz:done.length<=3)(hf:1000<=fuel) :
  ∃ l',Tks 2 (done++[p]) l'/\ex (Ga Fs fuel (n+4)) qf_s (qlS (ns.map .int) v1 nm sp v4 v5 v6 (ow (dK (tkD l))) (vl (.int k)) v9 v10)=some (.next (qlS (ns.map .int) v1 nm sp v4 v5 v6 (ow (dK (tkD l'))) (vl (.int k)) v9 v10)):=by
 have hlen:(zw5 ns (some (7+(k:Int))) (some (9+(k:Int)))).length<=2:=qt (xr6 ns (7+k) (9+k)) (by lia)
 refine elEAAA (yq7 (fuel:=fuel) hm (n+3) (zw5 ns (some (7+(k:Int))) (some (9+(k:Int)))) (s:=.mul) (nums:=[]) h1 h2 (.inl rfl) h0 (fun k h=>nomatch h) (qt hlen (by decide)) hf) fun t ht hop hnum e=>?_
 have ho:opl t=[]:=List.eq_nil_iff_forall_not_mem.mpr fun i hi=>nomatch hop i hi
 have hn2:num t<=2:=qt hnum (Nat.max_le.mpr ⟨by decide,hlen⟩)
 rw[<- yi1]at e
 have e2:=zk4 (fuel:=fuel) hl (c:=1) (f:=fun _=>.none) (κ:=[]) (zv 1) t (n+3 - num t) (by rw[Nat.one_mul];exact qt hn2 (by decide)) (fun i hi=>by rw[ho]at hi;exact nomatch hi) (fun i hi=>by rw[ho]at hi;exact nomatch hi)
 rw[xW (qt hn2 (qt (by decide) (w3 3 n)))]at e2
 refine elEA (xq7 (fun _=>.none) ht ho hn2) fun u eu hu=>?_
 rw[eu]at e2
 have T2:=T.put (p:=p) hu
 refine iEA (tput l p u) ⟨T2.1,T2.2,?_⟩ ?_
 ·rw[zw];exact qt xw4 (qt (xz T.len) (by show _<=2*(_+1);lia))
 ·refine(zz0 (σ':=qlS (ns.map .int) v1 nm sp v4 v5 v6 (ow (dK (tkD (tput l p u)))) (vl (.int k)) v9 v10) ?_).trans rfl
  refine wg4 (σ1:=qlS (ns.map .int) v1 nm sp v4 v5 v6 (ow (dK (tkD l))) (vl (.int k)) v9 v10) (σ2:=qlS (ns.map .int) v1 nm sp v4 v5 v6 (ow (dK (tkD l))) (vl (.int k)) v9 v10) (k:=p) (f:=false) (g:=false) ?_ rfl ?_ rfl (qt T.len (by lia))
  ·have s7:(7+(k:Int)).natAbs<2^62:=by lia
   have s9:(9+(k:Int)).natAbs<2^62:=by lia
   have e':run Fs glo fuel (n+3+1) "_law_made" [.list (zw5 (ns.map .int) (some (7+(k:Int))) (some (9+(k:Int)))),.list (nm.map .int),.list [],.str "mul"]=some (enc t,false):=e
   have e2':run Fs glo fuel (n+3+1) "_law_filled" [enc t,.dict []]=some (enc u,false):=e2
   rw[qf_e];simp[zv0,bE_b,↓wh7,bD_,s7,s9,zsl1,↓mkL0,e',e2']
  ·simp[zix1,hp]
end Pl
end
section
namespace Pl
open Mini PySem
variable {Fs:Fns}{fuel:Nat}
theorem xj6 (s:Sn)(d:D):lvL (parts s d)=lv d:=by
 cases d with
 | tuple l =>
  cases l with
  | nil=>rfl
  | cons x r =>
   cases x with
   | str y =>
    show lvL (if _ then _ else _)=_
    by_cases h:(y==s.str)=true
    ·rw[if_pos h,zq5]
    ·rw[if_neg h];exact ZV _
   | _=>exact ZV _
 | _=>exact ZV _
theorem xf5 (s:Sn):∀ l:List D,lvL (l.flatMap (parts s))=lvL l
 | []=>rfl
 | x::r=>by rw[List.flatMap_cons,zx1,xj6,xf5 s r];rfl
theorem xs5 (f:Int->D){s:Sn}(hs:s≠.pair)(l:List D):lv (fill f (.tuple (.str s.str::l)))=lvL (l.map (fill f)):=by
 rw[zo3 f hs,zq5,yl2 (zz1 _),xf5]
theorem zi6 {g:D->D}:∀{l:List D},(∀ x∈l,lv x<=lv (g x))->lvL l<=lvL (l.map g)
 | [],_=>zv 0
 | x::r,h=>jQ (h x mh) (zi6 fun y hy=>h y (mt hy))
theorem xy5 {f:Int->D}{k:Nat}{P:D}(h:Can k P):(∀ i,Opn i P->1<=lv (f i))->lv P<=lv (fill f P):=by
 induction h with
 | leaf k o n =>
  intro hf
  cases o with
  | true=>exact hf n (.self n)
  | false=>exact zv _
 | @pair k a b ha hb iha ihb =>
  intro hf
  rw[zo1,zp8,zp8]
  exact jQ (iha fun i hi=>hf i (Opn.part (s:=.pair) mh hi)) (ihb fun i hi=>hf i (Opn.part (s:=.pair) (mt mh) hi))
 | @join k s l hs h2 h20 hc hp hw ih =>
  intro hf
  rw[xs5 f hs,zq5]
  exact zi6 fun x hx=>ih x hx fun i hi=>hf i (.part hx hi)
theorem wy1 {i:Int}{s:Sn}{l:List D}(h:Opn i (.tuple (.str s.str::l))):∃ x∈l,Opn i x:=by
 generalize hd:(wQ (.str s.str::l))=d at h
 cases h with
 | self=>injection hd with e;injection e with e1 e2;injection e1 with e3;exact absurd e3 (by cases s<;>decide)
 | part hx ho =>
  injection hd with e;injection e with e1 e2
  exact iEA _ (e2▸hx) ho
theorem wy0 {i n:Int}{o:Bool}(h:Opn i (.tuple [.str (lstr o),.int n])):o=true/\i=n:=by
 generalize hd:(wQ [.str (lstr o),.int n])=d at h
 cases h with
 | self =>
  injection hd with e;injection e with e1 e2;injection e1 with e3;injection e2 with e4;injection e4 with e5
  cases o with
  | true=>exact⟨rfl,e5.symm⟩
  | false=>exact absurd e3 (by decide)
 | @part x s l hx ho=>injection hd with e;injection e with e1 e2;injection e1 with e3;first|exact absurd e3 (by cases o<;>cases s<;>decide)|exact absurd e3 (by cases o<;>cases x<;>decide)
theorem wk5 {f:Int->D}{k:Nat}{P:D}(h:Can k P){j:Int}:(∀ i,Opn i P->1<=lv (f i))->Opn j P->lv (f j)+lv P<=lv (fill f P)+1:=by
 induction h with
 | leaf k o n =>
  intro hf hj
  obtain ⟨rfl,rfl⟩:=wy0 hj
  exact zv _
 | @pair k a b ha hb iha ihb =>
  intro hf hj
  have fa:∀ i,Opn i a->1<=lv (f i):=fun i hi=>hf i (Opn.part (s:=.pair) mh hi)
  have fb:∀ i,Opn i b->1<=lv (f i):=fun i hi=>hf i (Opn.part (s:=.pair) (mt mh) hi)
  have ga:=xy5 ha fa
  have gb:=xy5 hb fb
  rw[zo1,zp8,zp8]
  rcases ym5 hj with q|q
  ·have:=iha fa q;lia
  ·have:=ihb fb q;lia
 | @join k s l hs h2 h20 hc hp hw ih =>
  intro hf hj
  refine elEA (wy1 hj) fun x hx ho=>?_
  have e:=ih x hx (fun i hi=>hf i (.part hx hi)) ho
  have g:∀ y∈l,lv y<=lv (fill f y):=fun y hy=>xy5 (hc y hy) fun i hi=>hf i (.part hy hi)
  rw[xs5 f hs,zq5]
  (refine elEE (List.append_of_mem hx) fun a b e_2=>?_;subst e_2)
  have g1:=zi6 (g:=fill f) (l:=a) fun y hy=>g y (ml hy)
  have g2:=zi6 (g:=fill f) (l:=b) fun y hy=>g y (mr (mt hy))
  rw[Zz,zx1,zx1,x6,zt8,zt8]
  lia
theorem wf0 {ns:List Int}{t u:Tm}{r:List D}(hn:ns.Nodup)(hns:∀ k,k∈ns↔k∈opl t)(ht:num t<=20)(hu:num u<=20)(R:Row ns (shp t) (shp u) r):∀ i∈opl t,lv (fn ns r i)+num t<=num u+1:=fun i hi=>by
 obtain ⟨hP,hl⟩:=zq3 t ht
 obtain ⟨hQ,hq⟩:=zq3 u hu
 have h:=wk5 (f:=fn ns r) hP (fun j hj=>((R.2.1 _ (xf3 hn R.1 ((hns j).mpr ((ym4 t j).mp hj)))).can hQ).lv_pos) ((ym4 t i).mpr hi)
 rw[R.2.2,hl,hq]at h
 exact h
theorem xa9 {κ:Kn}{i:Int}(h:∀ p∈κ,p.1≠i):lk κ i=none:=by
 rw[lk,List.find?_eq_none.mpr fun p hp q=>h p hp (eq_of_beq q)];rfl
theorem wr6:∀{ns:List Int}{r:List D}{κ:Kn},ns.Nodup->(∀ p∈κ,p.1∉ns)->xx3 ((ns.map vj).zip r) (κ.map enK)=(κ++ns.zip r).map enK
 | [],r,κ,_,_=>by show κ.map enK=(κ++[]).map enK;rw[Qj]
 | n::ns,[],κ,_,_=>by show κ.map enK=(κ++[]).map enK;rw[Qj]
 | n::ns,v::r,κ,hn,hk=>by
  obtain ⟨h1,h2⟩:=vQ.mp hn
  show xx3 ((ns.map vj).zip r) (dput (κ.map enK) (.int n) v)=(κ++(n,v)::ns.zip r).map enK
  rw[yx5 κ v (xa9 fun p hp (e:p.1=n)=>hk p hp (e▸mh)),wr6 h2 fun p hp=>(z6.mp hp).elim (fun q w=>hk p q (mt w)) fun q=>xq.mp q▸h1,w6]
  rfl
theorem wj3 {ns:List Int}{r:List D}(hn:ns.Nodup):wv2 (.list (ns.map .int)) (.list r)=some (dK (ns.zip r)):=by
 show (if ((ns.map vj).all fun k=>zv7 k==some 0)=true then some (qW.dict (xx3 ((ns.map vj).zip r) (([]:Kn).map enK))) else none)=_
 have ha:((ns.map vj).all fun k=>zv7 k==some 0)=true:=x8.mpr fun x hx=>(zX.mp hx).elim fun i h=>h.2▸rfl
 rw[wr6 hn fun p (hp:p∈([]:Kn))=>absurd hp j7,if_pos ha]
 rfl
theorem wp2 {ns:List Int}{P S:D}{L:List (List D)}(F:Fills ns P S L)(hS:Can 7 S){k:Nat}{a b:List D}(ha:L[k]?=some a)(hb:L[k+1]?=some b):ltL a b=some true:=by
 obtain ⟨h1,e1⟩:=qV.mp ha
 obtain ⟨h2,e2⟩:=qV.mp hb
 have ma:a∈L:=e1▸vX h1
 have mb:b∈L:=e2▸vX h2
 have ca:∀ v∈a,Can 7 v:=fun v hv=>((F.mem a ma).2.1 v hv).can hS
 have cb:∀ v∈b,Can 7 v:=fun v hv=>((F.mem b mb).2.1 v hv).can hS
 have hle:=Qz.mp (List.pairwise_map.mp F.srt) k (k+1) h1 h2 (ky k)
 have hne:=Qz.mp F.nod k (k+1) h1 h2 (ky k)
 rw[e1,e2]at hle hne
 have hs:=zg6 cb ca
 have hs':(ltL b a).isSome=true:=hs
 have hle':ltL b a≠some true:=hle
 obtain ⟨q,hq⟩:=jj.mp hs'
 cases q with
 | true=>exact absurd hq hle'
 | false=>exact yu7 (zx5 fun v hv=>(cb v hv).plain) (zx5 fun v hv=>(ca v hv).plain) hq hne.symm
end Pl
end
section
namespace Pl
open Mini PySem
variable {Fs:Fns}{fuel:Nat}
theorem zf3:∀{l:List D},(∀ x∈l,z7 x x=true)->QQ l l=true
 | [],_=>rfl
 | x::r,h=>zq.mpr ⟨h x mh,zf3 fun y hy=>h y (mt hy)⟩
theorem wk8 {L:List (List D)}(h:∀ r∈L,∀ v∈r,Can 7 v):eqD (.list (L.map .list)) (.list (L.map .list))=some true:=by
 have h1:okd (.list (L.map qW.list))=true:=zq.mpr ⟨zo4 fun x hx=>(zX.mp hx).elim fun r q=>q.2▸zo4 fun v hv=>(h r q.1 v hv).shp.lay,decide_eq_true (qt (xz (zt5 (k:=28) fun x hx=>(zX.mp hx).elim fun r q=>q.2▸xz (zt5 fun v hv=>(h r q.1 v hv).shp.dep))) (by decide))⟩
 have h2:z7 (.list (L.map qW.list)) (.list (L.map qW.list))=true:=zf3 fun x hx=>(zX.mp hx).elim fun r q=>q.2▸zf3 fun v hv=>(zx0 (h r q.1 v hv).plain (h r q.1 v hv).plain).mpr rfl
 simp[eqD,h1,h2]
theorem wk9 {k:Nat}{d:D}(h:Can k d)(hk:k<=100):eqD d d=some true:=by
 have h2:z7 d d=true:=(zx0 h.plain h.plain).mpr rfl
 simp[eqD,h.okd hk,h2]
noncomputable def qe_n:I:=(.comp1 (.var 11) (.rng1 (.cint 10)) (.call "_law_has" (.cons (.var 5) (.cons (.var 11) .nil))))
noncomputable def qe_a:I:=(.call "_law_asked" (.cons (.var 5) (.cons (.var 6) (.cons (.var 9) .nil))))
noncomputable def qe_c:I:=(.iff (.or (.cons (.cmp .Is (.var 10) .cnone) (.cons (.cmp .NotEq qe_a (.var 10)) .nil))) (.cons (.ret (.cbool false)) .nil) .nil)
noncomputable def qe_1:I:=(.iff (.and (.cons (.cmp .Gt (.var 8) (.cint 0)) (.cons (.not (.cmp .Lt (.idx (.var 10) (.bin .Sub (.var 8) (.cint 1))) (.idx (.var 10) (.var 8)))) .nil))) (.cons (.ret (.cbool false)) .nil) .nil)
noncomputable def qe_2:I:=(.iff (.cmp .NotEq (.call "_law_filled" (.cons (.var 5) (.cons (.dzip (.var 9) (.idx (.var 10) (.var 8))) .nil))) (.call "_law_filled" (.cons (.var 6) (.cons .dct0 .nil)))) (.cons (.ret (.cbool false)) .nil) .nil)
noncomputable def qe_b:I:=(.cons qe_1 (.cons qe_2 .nil))
noncomputable def wf6:I:=(.cons (.asg 9 qe_n) (.cons (.asg 10 qe_a) (.cons qe_c (.cons (.for1 8 (.rng1 (.prim1 .len (.var 10))) qe_b) (.cons (.ret (.cbool true)) .nil)))))
section
variable {m:Nat}{v0 v1 v2 v3 v4 v7 v8 v9 v10:Option AV}{t u:Tm}{ns:List Int}{L:List (List D)}{d:D}
noncomputable abbrev qeS (v0 v1 v2 v3 v4:Option AV)(t u:Tm)(v7 v8 v9 v10:Option AV):Mini.Sg:=[v0,v1,v2,v3,v4,vl (enc t),vl (enc u),v7,v8,v9,v10]
theorem wn0 (h:∀ k,run Fs glo fuel m "_law_has" [enc t,.int k]=some (.bool (decide (k∈opl t)),false)):ex (Ga Fs fuel m) (.asg 9 qe_n) (qeS v0 v1 v2 v3 v4 t u v7 v8 v9 v10)=some (.next (qeS v0 v1 v2 v3 v4 t u v7 v8 (ow (.list ((qnm t).map .int))) v10)):=by
 have hcomp:=zm5 (n:=11) (bc:=bc1) (cond:=zm4 (.call "_law_has" (.cons (.var 5) (.cons (.var 11) .nil))) (ev (Ga Fs fuel m) (.call "_law_has" (.cons (.var 5) (.cons (.var 11) .nil))))) (elt:=ev (Ga Fs fuel m) (.var 11)) (σ:=qeS v0 v1 v2 v3 v4 t u v7 v8 v9 v10)
  (c:=cI fun k=>decide (k∈opl t)) (F:=id) rfl (ds:=qten.map .int) fun x hx=>by
   (refine elEA (zX.mp hx) fun k hk e_2=>?_;subst e_2)
   refine iEAA [.int k] rfl ?_ (fun _=>⟨false,rfl⟩)
   simp[cE_k,cI,h k]
 rw[List.map_id,xy4]at hcomp
 rw[xe1,qe_n,zl6]
 show ((((zf5 11 _ _ (qten.map .int) (qeS v0 v1 v2 v3 v4 t u v7 v8 v9 v10)).bind _)).bind _)=_
 rw[zd9,hcomp]
 simp only[jk,mkL]
 rw[if_pos (by rw[xj];exact qy (xk7 t) rfl)]
 rfl
theorem wn3 (h:run Fs glo fuel m "_law_asked" [enc t,enc u,.list (ns.map .int)]=some (d,false)):ex (Ga Fs fuel m) (.asg 10 qe_a) (qeS v0 v1 v2 v3 v4 t u v7 v8 (ow (.list (ns.map .int))) v10)=some (.next (qeS v0 v1 v2 v3 v4 t u v7 v8 (vl (.list (ns.map .int))) (vl d))):=by
 rw[qe_a];simp[h]
theorem wn2 (h:run Fs glo fuel m "_law_asked" [enc t,enc u,.list (ns.map .int)]=some (.list (L.map .list),false))(he:eqD (.list (L.map .list)) (.list (L.map .list))=some true):ex (Ga Fs fuel m) qe_c (qeS v0 v1 v2 v3 v4 t u v7 v8 (vl (.list (ns.map .int))) (vl (.list (L.map .list))))=some (.next (qeS v0 v1 v2 v3 v4 t u v7 v8 (vl (.list (ns.map .int))) (vl (.list (L.map .list))))):=by
 have hn:yl3 (.list (L.map .list))=false:=rfl
 rw[qe_c,qe_a];simp[h,he,c_ne,c_is,hn]
theorem wn5 (hlt:∀ k a b,L[k]?=some a->L[k+1]?=some b->ltL a b=some true)(hok:∀ r∈L,okd (.list r)=true){k:Nat}(hk:k<L.length):ex (Ga Fs fuel m) qe_1 (qeS v0 v1 v2 v3 v4 t u v7 (vl (.int k)) v9 (vl (.list (L.map .list))))=some (.next (qeS v0 v1 v2 v3 v4 t u v7 (vl (.int k)) v9 (vl (.list (L.map .list))))):=by
 cases k with
 | zero=>rw[qe_1];simp[c_gt]
 | succ k =>
  have h1:L[k]?=some (L[k]'(j9 hk)):=qJ _
  have h2:L[k+1]?=some (L[k+1]'hk):=qJ _
  have m1:L[k]'(j9 hk)∈L:=vX _
  have m2:L[k+1]'hk∈L:=vX _
  generalize L[k]'(j9 hk)=a at h1 m1
  generalize L[k+1]'hk=b at h2 m2
  have e:=hlt k a b h1 h2
  have e0:((k+1:Nat):Int) - 1=(k:Int):=by lia
  have e1:idxD (.list (L.map .list)) (.int (k:Int))=some (.list a):=by rw[zix1,if_pos (Q8 k),jz,yy,h1];rfl
  have e2:idxD (.list (L.map .list)) (.int ((k+1:Nat):Int))=some (.list b):=by rw[zix1,if_pos (Q8 _),jz,yy,h2];rfl
  have ep:decide ((0:Int)<((k+1:Nat):Int))=true:=decide_eq_true (by lia)
  generalize ((k+1:Nat):Int)=z at *
  rw[qe_1];simp only[qeS];simp[c_gt,ep,↓wh6,e0,e1,e2,c_lt,hok a m1,hok b m2,vy2,e]
theorem wn4 (hn:ns.Nodup){r:List D}{k:Nat}(hk:L[k]?=some r)(h1:run Fs glo fuel m "_law_filled" [enc t,dK (ns.zip r)]=some (d,false))(h2:run Fs glo fuel m "_law_filled" [enc u,.dict []]=some (d,false))(hd:eqD d d=some true):ex (Ga Fs fuel m) qe_2 (qeS v0 v1 v2 v3 v4 t u v7 (vl (.int k)) (vl (.list (ns.map .int))) (vl (.list (L.map .list))))=some (.next (qeS v0 v1 v2 v3 v4 t u v7 (vl (.int k)) (vl (.list (ns.map .int))) (vl (.list (L.map .list))))):=by
 have e2:idxD (.list (L.map .list)) (.int (k:Int))=some (.list r):=by rw[zix1,if_pos (Q8 _),jz,yy,hk];rfl
 have e3:=wj3 (r:=r) hn
 rw[qe_2];simp only[qeS];simp[xn7,e2,e3,h1,h2,c_ne,hd]
theorem wn1 (hn:ns.Nodup)(hz:L.length<size)(hlt:∀ k a b,L[k]?=some a->L[k+1]?=some b->ltL a b=some true)(hok:∀ r∈L,okd (.list r)=true)(h1:∀ r∈L,run Fs glo fuel m "_law_filled" [enc t,dK (ns.zip r)]=some (d,false))(h2:run Fs glo fuel m "_law_filled" [enc u,.dict []]=some (d,false))(hd:eqD d d=some true) :
  ∃ v8',ex (Ga Fs fuel m) (.for1 8 (.rng1 (.prim1 .len (.var 10))) qe_b) (qeS v0 v1 v2 v3 v4 t u v7 v8 (vl (.list (ns.map .int))) (vl (.list (L.map .list))))=some (.next (qeS v0 v1 v2 v3 v4 t u v7 v8' (vl (.list (ns.map .int))) (vl (.list (L.map .list))))):=by
 have loop:=zv6 (bnd:=zp3 8) (body:=ex (Ga Fs fuel m) qe_b) (fun k:Nat=>vj (0+(k:Int))) (fun done σ=>∃ v8',σ=qeS v0 v1 v2 v3 v4 t u v7 v8' (vl (.list (ns.map .int))) (vl (.list (L.map .list)))) (L:=List.range L.length)
  (σ:=qeS v0 v1 v2 v3 v4 t u v7 v8 (vl (.list (ns.map .int))) (vl (.list (L.map .list)))) ⟨v8,rfl⟩ (by
   rintro done a rest σ e ⟨v8',rfl⟩
   obtain ⟨_,ha⟩:=yn8 e
   have hi:L[a]?=some (L[a]'ha):=qJ _
   have hm:L[a]'ha∈L:=vX _
   refine iEEAA _ _ (by rw[Int.zero_add];rfl) ((zz0 (wn5 hlt hok ha)).trans ((zz0 (wn4 hn hi (h1 _ hm) h2 hd)).trans rfl)) ⟨vl (.int a),rfl⟩)
 (refine xd2 (loop) fun σ' e v8' e_3=>?_;subst e_3)
 refine⟨v8',?_⟩
 have hsz:zy8 (L.length:Int)=true:=decide_eq_true (by unfold size at hz;lia)
 have hsz2:L.length<=size:=zz hz
 rw[zy0,show srcE (ev (Ga Fs fuel m) (.rng1 (.prim1 .len (.var 10)))) (qeS v0 v1 v2 v3 v4 t u v7 v8 (vl (.list (ns.map .int))) (vl (.list (L.map .list))))=some ((List.range L.length).map fun k:Nat=>vj (0+(k:Int)),qeS v0 v1 v2 v3 v4 t u v7 v8 (vl (.list (ns.map .int))) (vl (.list (L.map .list)))) by
  simp[zh4,zle1,zai,zit1,hsz,hsz2,zu7]]
 exact e
end
structure H10 (Fs:Fns):Prop extends HA Fs where
 cell:Has Fs "_law_cell_at" ⟨2,2,zt0⟩
 names:Has Fs "_law_names" ⟨1,1,yb1⟩
 made:Has Fs "_law_made" ⟨4,8,xv6⟩
 filled:Has Fs "_law_filled" ⟨2,6,zl2⟩
 has:Has Fs "_law_has" ⟨2,2,zs9⟩
 put:Has Fs "_law_put" ⟨2,2,wn6⟩
 grown:Has Fs "_law_grown" ⟨1,1,ym2⟩
theorem wf3:∀{n:Nat},n<=4->(7 - n)*n<=20:=by decide
theorem xv7 (H:H10 Fs)(n:Nat){v0 v1 v2 v3 v4 v7 v8:Option AV}{t u:Tm}(ht:ok t)(hu:ok u)(hn:num t<=4)(hm:num u<=6)(hno:opl u=[])(hf:100<=fuel) :
  ex (Ga Fs fuel (n+87)) wf6 (qeS v0 v1 v2 v3 v4 t u v7 v8 none none)=some (.ret (.bool true) false):=by
 have hn20:num t<=20:=qt hn (by decide)
 have hm20:num u<=20:=qt hm (by decide)
 obtain ⟨hc,hlv⟩:=zq3 u hm20
 have hS:Can 7 (shp u):=hc.mono (qt hm (by decide))
 have hh:∀ k,run Fs glo fuel (n+87) "_law_has" [enc t,.int k]=some (.bool (decide (k∈opl t)),false):=fun k=>by
  have:=zg5 (fuel:=fuel) H.has k t (n+87 - num t)
  rwa [xW (qt hn (qt (by decide) (w3 87 n)))]at this
 refine elEA (yc1 (fuel:=fuel) H.toHA n ht hu hn20 hm20 hf hS (z8 (qv (kX (qZ hn 1) _) (u9 (by decide) hm)) (by decide)) hno) fun L F ea=>?_
 have hnd:(qnm t).Nodup:=(wt1 t).imp fun q=>Int.ne_of_lt q
 have hcan:∀ r∈L,∀ v∈r,Can 7 v:=fun r hr v hv=>((F.mem r hr).2.1 v hv).can hS
 have hfill:∀ r∈L,run Fs glo fuel (n+87) "_law_filled" [enc t,dK ((qnm t).zip r)]=some (shp u,false):=fun r hr=>by
  have R:=F.mem r hr
  have hv:Vals (7 - num t) (fn (qnm t) r) t:=fun i hi=>⟨hcan r hr _ (xf3 hnd R.1 ((ym0 ht i).mpr hi)),by
   have:=wf0 hnd (ym0 ht) hn20 hm20 R i hi
   lia⟩
  have h1:1<=7 - num t:=by lia
  have e:=zk4 (fuel:=fuel) H.filled h1 t (n+86 - num t) (wf3 hn) hv fun i hi=>wl2 R.1 ((ym0 ht i).mpr hi)
  rw[xW (qt hn (qt (by decide) (w3 86 n))),zb2 h1 t (wf3 hn) hv,R.2.2]at e
  exact e
 have hfu:run Fs glo fuel (n+87) "_law_filled" [enc u,.dict []]=some (shp u,false):=by
  have e:=zk4 (fuel:=fuel) H.filled (c:=1) (f:=fun _=>.none) (κ:=[]) (zv 1) u (n+86 - num u) (by rw[Nat.one_mul];exact hm20) (fun i hi=>by rw[hno]at hi;exact nomatch hi) (fun i hi=>by rw[hno]at hi;exact nomatch hi)
  rw[xW (qt hm (qt (by decide) (w3 86 n))),zb1 _ u hm20 hno]at e
  exact e
 refine elE (wn1 (Fs:=Fs) (fuel:=fuel) (m:=n+87) (v0:=v0) (v1:=v1) (v2:=v2) (v3:=v3) (v4:=v4) (v7:=v7) (v8:=v8) hnd F.len (fun k a b=>wp2 F hS) (fun r hr=>ym9 (hcan r hr) (by decide)) hfill hfu (wk9 hS (by decide))) fun v8' el=>?_
 exact(zz0 (wn0 hh)).trans ((zz0 (wn3 ea)).trans ((zz0 (wn2 ea (wk8 hcan))).trans ((zz0 el).trans (zz4 rfl))))
end Pl
end
section
namespace Pl
open Mini PySem
variable {Fs:Fns}{fuel:Nat}
noncomputable def ql_2:I:=(.slc (.call "_law_names" (.cons (.call "_law_cell_at" (.cons (.var 0) (.cons (.cint 1) .nil))) .nil)) .omit (.bin .Add (.cint 2) (.bin .Mod (.bin .FloorDiv (.var 1) (.cint 4)) (.cint 2))))
noncomputable def ql_3:I:=(.idx (.lst (.cons (.lst (.cons (.cint 0) (.cons (.cint 1) (.cons (.cint 2) .nil)))) (.cons (.lst (.cons (.cint 0) (.cons (.cint 3) (.cons (.cint 9) .nil)))) (.cons (.lst (.cons (.cint 2) (.cons (.cint 5) (.cons (.cint 8) .nil)))) (.cons (.lst (.cons (.cint 1) (.cons (.cint 4) (.cons (.cint 7) .nil)))) .nil))))) (.bin .Mod (.call "_law_cell_at" (.cons (.var 0) (.cons (.cint 2) .nil))) (.cint 4)))
noncomputable def ql_5 (k:Int):I:=(.call "_law_made" (.cons (.slc (.var 0) (.cint 3) (.cint k)) (.cons (.var 2) (.cons (.var 3) (.cons (.idx (.var 4) (.bin .Mod (.var 1) (.cint 2))) .nil)))))
noncomputable def ql_6:I:=(.call "_law_made" (.cons (.slc (.var 0) (.cint 7) (.cint 13)) (.cons (.var 2) (.cons (.lst .nil) (.cons (.idx (.var 4) (.bin .Mod (.bin .FloorDiv (.var 1) (.cint 2)) (.cint 2))) .nil)))))
noncomputable def ql_f:I:=(.cons (.asg 5 (ql_5 6)) (.cons (.asg 7 .dct0) (.cons (.for1 8 (.rng1 (.cint 3)) qf_s) (.cons (.asg 6 (.call "_law_put" (.cons (.var 5) (.cons (.var 7) .nil)))) .nil))))
noncomputable def ql_i:I:=(.iff (.cmp .Eq (.bin .Mod (.bin .FloorDiv (.var 1) (.cint 8)) (.cint 3)) (.cint 1)) ql_f .nil)
noncomputable def wn8:I:=(.cons (.asg 1 (.call "_law_cell_at" (.cons (.var 0) (.cons (.cint 0) .nil)))) (.cons (.asg 2 ql_2) (.cons (.asg 3 ql_3) (.cons (.asg 4 (.lst (.cons (.cstr "sum") (.cons (.cstr "mul") .nil)))) (.cons (.asg 5 (ql_5 7)) (.cons (.asg 6 ql_6) (.cons ql_i wf6)))))))
noncomputable def lst2:D:=.list [.str "sum", .str "mul"]
section
variable {m:Nat}{N:List D}{v1 v2 v3 v4 v5 v6 v7 v8 v9 v10:Option AV}{c d:Int}{nm sp:List Int}{t u:Tm}{κ:Kn}
noncomputable abbrev qhS (N:List D)(v1 v2 v3 v4 v5 v6 v7 v8 v9 v10:Option AV):Mini.Sg:=[vl (.list N),v1,v2,v3,v4,v5,v6,v7,v8,v9,v10]
theorem wo5 (h:run Fs glo fuel m "_law_cell_at" [.list N,.int 0]=some (.int c,false)):ex (Ga Fs fuel m) (.asg 1 (.call "_law_cell_at" (.cons (.var 0) (.cons (.cint 0) .nil)))) (qhS N v1 v2 v3 v4 v5 v6 v7 v8 v9 v10)=some (.next (qhS N (vl (.int c)) v2 v3 v4 v5 v6 v7 v8 v9 v10)):=by simp[h]
theorem wo4 (h:run Fs glo fuel m "_law_cell_at" [.list N,.int 1]=some (.int d,false))(h2:run Fs glo fuel m "_law_names" [.int d]=some (.list (nm.map .int),true))(hl:nm.length=3) :
  ∃ nm':List Int,1<=nm'.length/\nm'.length<=3/\(∀ k∈nm',k∈nm)/\ex (Ga Fs fuel m) (.asg 2 ql_2) (qhS N (vl (.int c)) v2 v3 v4 v5 v6 v7 v8 v9 v10)=some (.next (qhS N (vl (.int c)) (ow (.list (nm'.map .int))) v3 v4 v5 v6 v7 v8 v9 v10)):=by
 have hj:=zn6 (c.fdiv 4) (b:=2) (by decide)
 have key:∀ j:Nat,1<=j->j<=3->(2+(c.fdiv 4).fmod 2)=(j:Int)->∃ nm':List Int,1<=nm'.length/\nm'.length<=3/\(∀ k∈nm',k∈nm)/\ex (Ga Fs fuel m) (.asg 2 ql_2) (qhS N (vl (.int c)) v2 v3 v4 v5 v6 v7 v8 v9 v10)=some (.next (qhS N (vl (.int c)) (ow (.list (nm'.map .int))) v3 v4 v5 v6 v7 v8 v9 v10)):=fun j h1 h3 e=>by
  have hs:zw5 (nm.map vj) none (some (j:Int))=(nm.take j).map .int:=by
   show (((nm.map vj).take (zn1 (nm.map vj).length (j:Int))).drop 0)=_
   rw[List.drop_zero,zn1,if_neg (Int.not_lt.mpr (Q8 j)),jz,xj,hl,wV h3,List.map_take]
  have hb:j<4611686018427387904:=z8 h3 (by decide)
  refine iEAAA (nm.take j) ?_ ?_ (fun k hk=>List.mem_of_mem_take hk) ?_
  ·rw[Z2,hl];lia
  ·rw[Z2,hl];lia
  ·rw[ql_2];simp[zv0,h,h2,bE_o,bE_b,↓bd4,↓bm2,↓wh7,e,bD_,hb,zsl1,hs]
 rcases n2i hj with q|q
 ·exact key 2 (by decide) (by decide) (by rw[q];rfl)
 ·exact key 3 (by decide) (by decide) (by rw[q];rfl)
theorem wo3 (h:run Fs glo fuel m "_law_cell_at" [.list N,.int 2]=some (.int d,false)) :
  ∃ sp:List Int,sp.length=3/\(∀ k∈sp,ok (.leaf true k))/\ex (Ga Fs fuel m) (.asg 3 ql_3) (qhS N v1 v2 v3 v4 v5 v6 v7 v8 v9 v10)=some (.next (qhS N v1 v2 (vl (.list (sp.map .int))) v4 v5 v6 v7 v8 v9 v10)):=by
 have z4:(4:Nat)<=size:=by unfold size;decide
 have z3:(3:Nat)<=size:=by unfold size;decide
 have key:∀ sp:List Int,idxD (.list [.list [.int 0,.int 1,.int 2],.list [.int 0,.int 3,.int 9],.list [.int 2,.int 5,.int 8],.list [.int 1,.int 4,.int 7]]) (.int (d.fmod 4))=some (.list (sp.map .int))->ex (Ga Fs fuel m) (.asg 3 ql_3) (qhS N v1 v2 v3 v4 v5 v6 v7 v8 v9 v10)=some (.next (qhS N v1 v2 (vl (.list (sp.map .int))) v4 v5 v6 v7 v8 v9 v10)):=fun sp hs=>by
  rw[ql_3];simp[h,↓bm4,mkL_,z4,z3,hs]
 rcases n4i (zn6 d (b:=4) (by decide)) with e|e|e|e<;>rw[e]at key
 ·exact iEAA [0,1,2] rfl (by decide:∀ k∈[(0:Int),1,2],0<=k/\k<=9) (key _ rfl)
 ·exact iEAA [0,3,9] rfl (by decide:∀ k∈[(0:Int),3,9],0<=k/\k<=9) (key _ rfl)
 ·exact iEAA [2,5,8] rfl (by decide:∀ k∈[(2:Int),5,8],0<=k/\k<=9) (key _ rfl)
 ·exact iEAA [1,4,7] rfl (by decide:∀ k∈[(1:Int),4,7],0<=k/\k<=9) (key _ rfl)
theorem xk9 {j:Nat}(hj:j<=100){a b:Option AV}(ha:a=ow (.list (nm.map .int))\/a=vl (.list (nm.map .int)))(hb:b=ow lst2\/b=vl lst2)(h:run Fs glo fuel m "_law_made" [.list (zw5 N (some 3) (some (j:Int))),.list (nm.map .int),.list (sp.map .int),.str (s2 c).str]=some (enc t,false)) :
  ex (Ga Fs fuel m) (.asg 5 (ql_5 j)) (qhS N (vl (.int c)) a (vl (.list (sp.map .int))) b v5 v6 v7 v8 v9 v10)=some (.next (qlS N (vl (.int c)) nm sp (vl lst2) (vl (enc t)) v6 v7 v8 v9 v10)):=by
 have hb':j<4611686018427387904:=z8 hj (by decide)
 have e:=wg7 c
 rw[ql_5]
 rcases ha with rfl|rfl<;>rcases hb with rfl|rfl<;>simp[lst2,zv0,bE_c,zsl1,bD_,hb',↓bm2,e,h]
theorem wo2 (h:run Fs glo fuel m "_law_made" [.list (zw5 N (some 7) (some 13)),.list (nm.map .int),.list [],.str (s2 (c.fdiv 2)).str]=some (enc u,false)) :
  ex (Ga Fs fuel m) (.asg 6 ql_6) (qlS N (vl (.int c)) nm sp (vl lst2) v5 v6 v7 v8 v9 v10)=some (.next (qlS N (vl (.int c)) nm sp (vl lst2) v5 (vl (enc u)) v7 v8 v9 v10)):=by
 have e:=wg7 (c.fdiv 2)
 rw[ql_6];simp[lst2,zv0,bE_c,zsl1,bD_,↓bd2,↓bm2,↓mkL0,e,h]
theorem wo1 (h:run Fs glo fuel m "_law_put" [enc t,dK κ]=some (enc u,false)):ex (Ga Fs fuel m) (.asg 6 (.call "_law_put" (.cons (.var 5) (.cons (.var 7) .nil)))) (qlS N v1 nm sp v4 (vl (enc t)) v6 (ow (dK κ)) v8 v9 v10)=some (.next (qlS N v1 nm sp v4 (vl (enc t)) (vl (enc u)) (vl (dK κ)) v8 v9 v10)):=by simp[h]
end
theorem xb8:∀{l:List Int},l.length=3->∃ a b c,l=[a,b,c]
 | [a,b,c],_=>iEEE a b c rfl
theorem xk3 (H:H10 Fs)(hlaw:Has Fs "law" ⟨1,11,wn8⟩)(n:Nat)(hf:1000<=fuel)(ns:List Int):run Fs glo fuel (n+88) "law" [.list (ns.map .int)]=some (.bool true,false):=by
 refine zz3 hlaw rfl ?_
 show ex (Ga Fs fuel (n+87)) wn8 (qhS (ns.map .int) none none none none none none none none none none)=_
 have hf1:100<=fuel:=qt (by decide) hf
 have e1:=yn5 (fuel:=fuel) H.cell (n+86) ns 0
 have e2:=yn5 (fuel:=fuel) H.cell (n+86) ns 1
 have e3:=yn5 (fuel:=fuel) H.cell (n+86) ns 2
 generalize ns.getD 0 0=c at e1
 generalize ns.getD 1 0=d at e2
 generalize ns.getD 2 0=x at e3
 refine zx4 (yc0 (fuel:=fuel) H.names (n+86) d) fun nm0 h3 h0 en=>?_
 refine elEAAA (wo4 (Fs:=Fs) (fuel:=fuel) (m:=n+87) (c:=c) (v2:=none) (v3:=none) (v4:=none) (v5:=none) (v6:=none) (v7:=none) (v8:=none) (v9:=none) (v10:=none) e2 en h3) fun nm hl1 hl3 hsub g2=>?_
 refine zx4 (wo3 (Fs:=Fs) (fuel:=fuel) (m:=n+87) (v1:=vl (.int c)) (v2:=ow (.list (nm.map .int))) (v3:=none) (v4:=none) (v5:=none) (v6:=none) (v7:=none) (v8:=none) (v9:=none) (v10:=none) e3) fun sp hsp hso g3=>?_
 have h0':∀ k∈nm,ok (.leaf false k):=fun k hk=>h0 k (hsub k hk)
 have made:∀(a b:Nat)(nums:List Int)(s:Sn),(nums=[]\/nums=sp)->b - a<=6->∃ t,ok t/\(∀ k∈opl t,k∈nums)/\num t<=max 1 (b - a)/\run Fs glo fuel (n+87) "_law_made" [.list (zw5 (ns.map .int) (some (a:Int)) (some (b:Int))),.list (nm.map .int),.list (nums.map .int),.str s.str]=some (enc t,false):=fun a b nums s hnums hab=>by
  have hlen:=xr6 ns a b
  refine elEAAA (yq7 (fuel:=fuel) H.made (n+86) (zw5 ns (some (a:Int)) (some (b:Int))) (s:=s) (nums:=nums) hl1 hl3 (hnums.imp id fun (q:nums=sp)=>(congrArg List.length q).trans hsp) h0' (fun k hk=>hnums.elim (fun q=>by rw[q]at hk;exact nomatch hk) fun q=>hso k (q▸hk)) (qt hlen (qy hab rfl)) hf) fun t ht hop hnum e=>?_
  rw[<- yi1]at e
  exact iEAAA t ht hop (qt hnum (Nat.max_le.mpr ⟨Nat.le_max_left ..,qt hlen (Q3 ..)⟩)) e
 refine elEAAA (made 3 7 sp (s2 c) (.inr rfl) (by decide)) fun t ht hop hnum e5=>?_
 refine elEAAA (made 7 13 [] (s2 (c.fdiv 2)) (.inl rfl) (by decide)) fun u hu huo hunum e6=>?_
 have hno:opl u=[]:=List.eq_nil_iff_forall_not_mem.mpr fun i hi=>nomatch huo i hi
 have g5:=xk9 (Fs:=Fs) (fuel:=fuel) (m:=n+87) (v5:=none) (v6:=none) (v7:=none) (v8:=none) (v9:=none) (v10:=none) (j:=7) (by decide) (.inl rfl) (.inl rfl) e5
 have g6:=wo2 (Fs:=Fs) (fuel:=fuel) (m:=n+87) (v5:=vl (enc t)) (v6:=none) (v7:=none) (v8:=none) (v9:=none) (v10:=none) (sp:=sp) e6
 refine(zz0 (wo5 e1)).trans ((zz0 g2).trans ((zz0 g3).trans ((zz0 (σ':=qhS (ns.map .int) (vl (.int c)) (ow (.list (nm.map .int))) (vl (.list (sp.map .int))) (ow lst2) none none none none none none) rfl).trans ((zz0 g5).trans ((zz0 g6).trans ?_)))))
 have cc:uno (.cmp .Eq (.bin .Mod (.bin .FloorDiv (.var 1) (.cint 8)) (.cint 3)) (.cint 1)) (ev (Ga Fs fuel (n+87)) (.cmp .Eq (.bin .Mod (.bin .FloorDiv (.var 1) (.cint 8)) (.cint 3)) (.cint 1))) (qlS (ns.map .int) (vl (.int c)) nm sp (vl lst2) (vl (enc t)) (vl (enc u)) none none none none)=some (.bool ((c.fdiv 8).fmod 3==1),qlS (ns.map .int) (vl (.int c)) nm sp (vl lst2) (vl (enc t)) (vl (enc u)) none none none none):=rfl
 cases hb:(c.fdiv 8).fmod 3==1 with
 | false =>
  rw[hb]at cc
  refine(zz0 (σ':=qlS (ns.map .int) (vl (.int c)) nm sp (vl lst2) (vl (enc t)) (vl (enc u)) none none none none) (by rw[ql_i,zz8,cc];rfl)).trans ?_
  exact xv7 H n ht hu hnum hunum hno hf1
 | true =>
  rw[hb]at cc
  refine elEAAA (made 3 6 sp (s2 c) (.inr rfl) (by decide)) fun t' ht' hop' hnum' e5'=>?_
  have g5':=xk9 (Fs:=Fs) (fuel:=fuel) (m:=n+87) (v5:=vl (enc t)) (v6:=vl (enc u)) (v7:=none) (v8:=none) (v9:=none) (v10:=none) (j:=6) (by decide) (.inr rfl) (.inr rfl) e5'
  (refine xm2 (xb8 hsp) fun p0 p1 p2 e_3=>?_;subst e_3)
  refine elEA (ym1 (Fs:=Fs) (fuel:=fuel) (n:=n+83) (ns:=ns) (v1:=vl (.int c)) (v4:=vl lst2) (v5:=vl (enc t')) (v6:=vl (enc u)) (v9:=none) (v10:=none) (nm:=nm) (sp:=[p0,p1,p2]) (l:=[]) (k:=0) (p:=p0) (done:=[]) H.made H.filled hl1 hl3 h0' rfl (by decide) ⟨fun i=>Iff.rfl,(fun i h=>nomatch h),zv _⟩ (by decide) hf) fun l1 T1 f1=>?_
  refine elEA (ym1 (Fs:=Fs) (fuel:=fuel) (n:=n+83) (ns:=ns) (v1:=vl (.int c)) (v4:=vl lst2) (v5:=vl (enc t')) (v6:=vl (enc u)) (v9:=none) (v10:=none) (nm:=nm) (sp:=[p0,p1,p2]) (k:=1) (p:=p1) H.made H.filled hl1 hl3 h0' rfl (by decide) T1 (show 1<=3 by decide) hf) fun l2 T2 f2=>?_
  refine elEA (ym1 (Fs:=Fs) (fuel:=fuel) (n:=n+83) (ns:=ns) (v1:=vl (.int c)) (v4:=vl lst2) (v5:=vl (enc t')) (v6:=vl (enc u)) (v9:=none) (v10:=none) (nm:=nm) (sp:=[p0,p1,p2]) (k:=2) (p:=p2) H.made H.filled hl1 hl3 h0' rfl (by decide) T2 (show 2<=3 by decide) hf) fun l3 T3 f3=>?_
  have s8:ex (Ga Fs fuel (n+87)) (.for1 8 (.rng1 (.cint 3)) qf_s) (qlS (ns.map .int) (vl (.int c)) nm [p0,p1,p2] (vl lst2) (vl (enc t')) (vl (enc u)) (ow (dK (tkD []))) none none none)=some (.next (qlS (ns.map .int) (vl (.int c)) nm [p0,p1,p2] (vl lst2) (vl (enc t')) (vl (enc u)) (ow (dK (tkD l3))) (vl (.int (2:Nat))) none none)):=by
   rw[zy0]
   show forN (zp3 8) (ex (Ga Fs fuel (n+87)) qf_s) [.int 0,.int 1,.int 2] _=_
   rw[zi8 rfl f1,zi8 rfl f2,zi8 rfl f3]
   rfl
  have hin:∀ i∈opl t',In 2 (tkF l3 i):=fun i hi=>T3.inn i (hop' i hi)
  have ep:=yw7 (fuel:=fuel) H.grown H.put (c:=1) (f:=tkF l3) (κ:=tkD l3) t' (n+84) (qt hnum' (qt (by decide) (w3 85 n))) fun i hi=>iAA (wd5 ((T3.keys i).mpr (hop' i hi))) ((hin i hi).num) ((hin i hi).opl)
  rw[show 1+(n+84)+2=n+87 by lia]at ep
  have gi:ex (Ga Fs fuel (n+87)) ql_i (qlS (ns.map .int) (vl (.int c)) nm [p0,p1,p2] (vl lst2) (vl (enc t)) (vl (enc u)) none none none none)=some (.next (qlS (ns.map .int) (vl (.int c)) nm [p0,p1,p2] (vl lst2) (vl (enc t')) (vl (enc (sbs (tkF l3) t'))) (vl (dK (tkD l3))) (vl (.int (2:Nat))) none none)):=by
   rw[ql_i,zz8,cc]
   exact(zz0 g5').trans ((zz0 (σ':=qlS (ns.map .int) (vl (.int c)) nm [p0,p1,p2] (vl lst2) (vl (enc t')) (vl (enc u)) (ow (dK (tkD []))) none none none) rfl).trans ((zz0 s8).trans ((zz0 (wo1 ep)).trans rfl)))
  refine(zz0 gi).trans (xv7 H n ht' (xk2 ht' fun i hi=>(hin i hi).ok) (qt hnum' (by decide)) ?_ (yd8 fun i hi=>(hin i hi).opl) hf1)
  exact qt (yn4 (c:=2) (by decide) fun i hi=>(hin i hi).num) (jZ 2 hnum')
end Pl
end
section
namespace L10
open Mini PySem Pl
noncomputable def fns:Fns:=[("is_whole", ⟨2,2,zv3⟩),
 ("is_leaf", ⟨1,1,zr0⟩),
 ("leaves", ⟨1,4,zj4⟩),
 ("opens_within", ⟨1,4,zw9⟩),
 ("parts_in", ⟨2,2,zx3⟩),
 ("joined", ⟨2,4,zv8⟩),
 ("shaped", ⟨1,1,zj3⟩),
 ("choices", ⟨1,7,zr1⟩),
 ("without", ⟨2,4,zu5⟩),
 ("open_met", ⟨5,9,zw0⟩),
 ("part_met", ⟨3,6,zp9⟩),
 ("join_met", ⟨3,9,zt4⟩),
 ("met", ⟨3,6,zq7⟩),
 ("fillings_of", ⟨2,10,zv5⟩),
 ("fillings", ⟨2,2,zo0⟩),
 ("_law_cell_at", ⟨2,2,zt0⟩),
 ("_law_names", ⟨1,1,yb1⟩),
 ("_law_made", ⟨4,8,xv6⟩),
 ("_law_filled", ⟨2,6,zl2⟩),
 ("_law_has", ⟨2,2,zs9⟩),
 ("_law_is_form", ⟨1,2,yv2⟩),
 ("_law_rows", ⟨2,5,xv5⟩),
 ("_law_put", ⟨2,2,wn6⟩),
 ("_law_grown", ⟨1,1,ym2⟩),
 ("_law_asked", ⟨3,6,yb2⟩),
 ("law", ⟨1,11,wn8⟩)]
theorem hm:Hm fns where
 parts_in:=by rfl
 joined:=by rfl
 choices:=by rfl
 without:=by rfl
 open_met:=by rfl
 part_met:=by rfl
 join_met:=by rfl
 met:=by rfl
theorem hs:H10 fns where
 m:=hm
 opens:=by rfl
 shaped:=by rfl
 fof:=by rfl
 whole:=by rfl
 leaf:=by rfl
 leaves:=by rfl
 fil:=by rfl
 form:=by rfl
 rows:=by rfl
 asked:=by rfl
 cell:=by rfl
 names:=by rfl
 made:=by rfl
 filled:=by rfl
 has:=by rfl
 put:=by rfl
 grown:=by rfl
theorem run10 (ns:List Int):Mini.run fns glo 1000 500 "law" [.list (ns.map .int)]=some (.bool true,false):=xk3 hs (by rfl) 412 (by decide) ns
end L10
end
theorem Pl.glo_same:Pl.glo=Snd.glo:=rfl
open PySem in
noncomputable def Snd.kv (P:Params)(n:Str)(a:Tok)(v:qz):j3:={ hash:=qW.keyHash P n,key:=qz.str n a,val:=v }
open PySem in
noncomputable def Snd.topK (P:Params):W.Frag:=[(3,{ cls:=uz "dict", data:=Data.dict #[Snd.kv P "__name__" 165 (.str ("law_uf020015_10") 405),Snd.kv P "__doc__" 166 (.none),Snd.kv P "__package__" 167 (.none),Snd.kv P "__loader__" 168 (.builtin "__main__.__loader__#opaque"),Snd.kv P "__spec__" 169 (.none),Snd.kv P "__annotations__" 170 (.ref 6),Snd.kv P "__builtins__" 171 (.ref 4),Snd.kv P "__file__" 173 (.str ("/claim/cut.py") 172),Snd.kv P "__cached__" 174 (.none),Snd.kv P "TermError" 206 (.ref 24),Snd.kv P "NoTerm" 222 (.ref 37),Snd.kv P "TooGreat" 238 (.ref 49),Snd.kv P "HasOpen" 254 (.ref 61),Snd.kv P "LEAVES" 258 (.int 40 257),Snd.kv P "GREATEST" 260 (.int 1000000000 259),Snd.kv P "OPENS" 262 (.int 10 261),Snd.kv P "JOINS" 265 (.ref 64),Snd.kv P "is_whole" 273 (.ref 71),Snd.kv P "is_leaf" 280 (.ref 78),Snd.kv P "leaves" 290 (.ref 85),Snd.kv P "opens_within" 300 (.ref 92),Snd.kv P "parts_in" 310 (.ref 99),Snd.kv P "joined" 320 (.ref 106),Snd.kv P "shaped" 327 (.ref 113),Snd.kv P "choices" 335 (.ref 118),Snd.kv P "without" 345 (.ref 125),Snd.kv P "open_met" 360 (.ref 132),Snd.kv P "part_met" 372 (.ref 139),Snd.kv P "join_met" 378 (.ref 144),Snd.kv P "met" 390 (.ref 151),Snd.kv P "fillings_of" 396 (.ref 156),Snd.kv P "fillings" 404 (.ref 163),Snd.kv P "_law_cell_at" 414 (.ref 170),Snd.kv P "_law_names" 420 (.ref 175),Snd.kv P "_law_made" 434 (.ref 182),Snd.kv P "_law_filled" 446 (.ref 189),Snd.kv P "_law_has" 454 (.ref 196),Snd.kv P "_law_is_form" 462 (.ref 203),Snd.kv P "_law_rows" 468 (.ref 208),Snd.kv P "_law_put" 476 (.ref 215),Snd.kv P "_law_grown" 483 (.ref 222),Snd.kv P "_law_asked" 495 (.ref 229),Snd.kv P "law" 501 (.ref 234)] 43 }),
 (64,{ cls:=uz "tuple", data:=Data.seq #[qz.str (Q0 "sum") 263,qz.str (Q0 "mul") 264] })]
open PySem PySem.W PyProof.Rows
noncomputable abbrev Snd.topQ:vw:=view PySem.Challenge.pw_uf020015_10 [1,2,3,4,6,7,8,9,10,11,12,13,15,16,17,19,20,21,22,23,24,25,26,28,29,30,31,32,33,34,35,36,37,38]
noncomputable abbrev Snd.topH:=kHook Snd.topK [3,64] (fun _=>by kernel_rfl)
noncomputable abbrev Snd.topX (s:qw):Bool:=xlAt Snd.topQ [] s&&recOk (RowW.records (OpenRow.toRowW (OpenLaw.row PySem.Challenge.rw_uf020015_10))) s
set_option maxRecDepth 100000 in
theorem Snd.topLeft:LeftO PySem.Challenge.pw_uf020015_10 Snd.topQ [] Snd.topX (Hook.obs Snd.topH) (Hook.val Snd.topH) 4000:=by
 intro w
 kernel_rfl
set_option maxRecDepth 100000 in
theorem Snd.said:OpenLaw.wellSaid PySem.Challenge.rw_uf020015_10=true:=by kernel_rfl
end Internal
open Internal PySem PySem.W PyProof.Rows
set_option maxRecDepth 100000 in
set_option maxHeartbeats 8000000 in
theorem PySem.Challenge.cw_uf020015_10_holds : PySem.Challenge.rw_uf020015_10.Holds := by
 refine holds_law Snd.said fun said=>?_
 refine holds_open (q:=Snd.topQ) (loose:=[]) (Xt:=Snd.topX) (XP:=XL Snd.topQ []) (Yf:=Hook.obs Snd.topH) (Ya:=Hook.val Snd.topH) (YP:=Hook.says Snd.topH) (N:=4000) Snd.topLeft (Hook.of Snd.topH) (Hook.keeps Snd.topH) (fun s e=>xl_of s (zq.mp e).1) XL.keeps (by rfl) (by rfl) (by rfl) (fun s e=>recFacts_of (zq.mp e).2) (by rfl) (by assumption) (by decide +kernel) ⟨rfl,rfl,rfl,rfl,rfl,by decide +kernel⟩ ?hw ?hc
 (case hw=>w_witness2)
 intro w s₀ s₁ mg mb G Y fa o pm cd doc dV kV ho hd hcd hD hmg hg args vals as hpre hlay hrd hwl hlo
 have KX:=kIn_of Y
 clear hd hcd hD ho
 have hmg':mg "law" = some (.ref fa):=hmg
 clear hmg
 wrow_args hpre hlay hrd hwl hlo
 rename IntsAre _ _=>hI
 rename Heap.IsList _ _ _=>hL
 rename ¬ _<_=>hlen
 rename qW.layable0 _=true=>hlayd
 have hrun:=L10.run10
 rw[Pl.glo_same]at hrun
 refine kK (Snd.law_true G KX (aj:=64) (tj:=263) (uj:=264) (nj:=0) ⟨by kernel_rfl,by rfl⟩ (by decide +kernel) hmg' hL hI (by omega) (by decide) (hrun _)) (fun v s' q=>?_) fun _ _ x=>x
 obtain ⟨rfl,keep,h',tk,rfl⟩:=q
 exact GoodW.toG ⟨.inl ⟨_,.bool true,[],rfl,fun cls=>by rfl,.bool _,Snd.post_true _ _,fun _=>⟨kJ,by simp⟩⟩,keep,rfl,hg⟩
